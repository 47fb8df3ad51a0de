/- A part of the proof of CastKnown: no condition of its own. -/
import Derived.Test.YtdhmjdkpfiaecaaGreatPart3
noncomputable section
namespace Go.Gd
open Go Go.Gw Go.Conc
def cK(H:PH)(a:Addr):Option Value :=
 match MO H a with
 |some v=>some v
 |none=>match a.spot with
  |some _=>none
  |none=>match H.t.get a.block with
   |some (.cells tr size _ _ false _ true _)=>cond (Nat.blt a.off size) (tr.get a.off) none
   |_=>none
theorem zE{ρ:Ah}{H:PH}{c:Ctx}{w:World}(hH:HR ρ H c w){a:Addr}{v:Value}(hp:cK H a=some v){B:RB}(hB:ρ a.block=some B) :
  a.spot=none∧(c.M B.blk∨c.R ⟨B.blk,a.off,none⟩)∧∃v',w.cell? ⟨B.blk,a.off,none⟩=some v'∧VR ρ v v':=by
 unfold cK at hp;split at hp
 ·rename_i u e;cases hp;obtain⟨h1,h2,h3,_⟩:=aH hH e hB;exact⟨h1,.inl h2,h3⟩
 ·split at hp
  ·cases hp
  ·rename_i es;split at hp
   ·rename_i tr size elem sz fam D4 e1;cases e2:Nat.blt a.off size with
    |false=>rw[e2]at hp; cases hp
    |true =>
     rw[e2]at hp;have Ac:a.off<size:=AH e2;have hp:tr.get a.off=some v:=hp;cases hH.rel _ _ _ hB e1 with
     |cells hs he hf hle Ax hR AO =>
      refine⟨es,.inr ?_, ?_⟩
      ·rcases hR rfl rfl a.off Ac with h|h
       ·rw[hp]at h; cases h
       ·exact h
      ·rcases AO rfl a.off Ac with⟨_,_,h⟩|⟨u,v',h1,h2,h3⟩
       ·rw[hp]at h; cases h
       ·rw[hp]at h1; cases h1;exact⟨v',h2,h3⟩
   ·cases hp
def RH(k:XK)(args:List Value)(H:PH)(d:Nat):Option (Value×PH×Nat) :=
 match k with
 | .disable=>some (undef,H,d+1)
 | .enable=>some (undef,H,d-1)
 | .acquire=>match args with
  | .pointer (some a)::_=>match H.t.get a.block with
   |some (.cells _ _ _ _ false _ _ true)=>none
   |_=>some (undef,H,d)
  |_=>none
 | .Dw=>match args with
  | .pointer (some a)::_=>match MO H a with
   |some _=>some (undef,H,d)
   |none=>none
  |_=>none
 | .read=>match args with
  | .pointer (some a)::_=>match MO H a with
   |some _=>some (undef,H,d)
   |none=>none
  |_=>none
 | .write=>match args with
  | .pointer (some a)::_=>match MO H a with
   |some _=>some (undef,H,d)
   |none=>none
  |_=>none
 | .QG b=>some (.bool b,H,d)
 | .load k=>match args with
  | [.pointer (some a)]=>match cK H a with
   |some (.int k' n)=>cond (decide (k=k')) (some (.int k n,H,d)) none
   |_=>none
  |_=>none
 | .store=>match args with
  | [.pointer (some a),v]=>match MO H a with
   |some _=>cond (Em v) (some (undef,PZ H a v,d)) none
   |_=>none
  |_=>none
 | .add k=>match args with
  | [.pointer (some a),.int _ y]=>match MO H a with
   |some (.int k' x)=>cond (decide (k=k')) (some (.int k (k.wrap (x+y)),PZ H a (.int k (k.wrap (x+y))),d)) none
   |_=>none
  |_=>none
 | .Lv k=>match args with
  | [.pointer (some a),.int _ y,v]=>match MO H a with
   |some (.int k' x)=>cond (decide (k=k')&&Em v) (some (.bool (x==y),cond (x==y) (PZ H a v) H,d)) none
   |_=>none
  |_=>none
 | .or _=>none
 | .EN=>none
 | .FJ=>none
 | .Cn _=>none
section
variable{P:Program}{ρ:Ah}{H:PH}{c:Ctx}{w:World}{f:FuncId}
theorem Dz.still(hH:HR ρ H c w)(AO:CK c w){hn:Nat}{v v':Value}(hv:VR ρ v v'){s:Sem Value}{es:Array Event}(AT:s.runT P w #[EZ f]=(.ok v' w,#[EZ f]++es))(JJ: ∀e∈es,e.sync=true∧∀g,e.loc≠ .mark (.extern g))(hf:BQ c w w es) :
  Dz P f ρ hn v H (deafBehind c.d es) c w s:=⟨v',w,es,hv,AT,JJ,hH,AO,Ca.refl AO,hf,rfl,L4.refl _ _ _ _⟩
theorem Dz.set(_hH:HR ρ H c w)(AO:CK c w){hn:Nat}{v v':Value}(hv:VR ρ v v'){a:Addr}{B:RB}(hB:ρ a.block=some B)(hM:c.M B.blk){u u':Value}(nR:HR ρ (PZ H a u) c (w.setCell ⟨B.blk,a.off,none⟩ u')){s:Sem Value}{es:Array Event}
  (AT:s.runT P w #[EZ f]=(.ok v' (w.setCell ⟨B.blk,a.off,none⟩ u'),#[EZ f]++es)) (JJ: ∀e∈es,∃wr,e=⟨.cell ⟨B.blk,a.off,none⟩,wr,true⟩):Dz P f ρ hn v (PZ H a u) c.d c w s:=by
 have ho:=ES.setCell B.blk a.off w u';refine⟨v',_,es,hv,AT,fun e he=> ?_,nR,⟨fun x hx=>by rw[ho.size]; exact AO.ml x hx,fun x hx=>by rw[ho.size]; exact AO.rl x hx,AO.rm⟩,ho.RZ AO hM,⟨fun e he a=> ?_,fun e he x hx=> ?_⟩,Cl _ _ fun e he=> ?_,ho.oT hB⟩
 ·obtain⟨wr,rfl⟩:=JJ e he;exact⟨rfl,fun g h=>by cases h⟩
 ·obtain⟨wr,rfl⟩:=JJ e he;simp[MemAct.ofEvent]
 ·obtain⟨wr,rfl⟩:=JJ e he;have:x.loc= .cell ⟨B.blk,a.off,none⟩:=by
   cases hx; rfl
  exact .inl ⟨B.blk,by rw[this]; rfl,.inl hM⟩
 ·obtain⟨wr,rfl⟩:=JJ e he;exact⟨(fun h=>by cases h),(fun h=>by cases h)⟩
theorem IY{m:Mark}(h:(∀a,m≠ .read a)∧(∀a,m≠ .write a)∧∀a,m≠ .release a)(w':World):BQ c w w' #[⟨.mark m,false,true⟩]:=⟨fun e he a=>by
 simp at he;subst he;cases m with
 |release b=>exact absurd rfl (h.2.2 b)
 |_=>simp[MemAct.ofEvent],fun e he x hx=>by
 simp at he;subst he;cases m with
 |read a=>exact absurd rfl (h.1 a)
 |write a=>exact absurd rfl (h.2.1 a)
 |_=>cases hx⟩
theorem FL{a:Addr}{v:Value}(h:w.cell? a=some v)(es:Array Event):(Go.load a .atomic).runT P w es=(.ok v w,es.push ⟨.cell a,false,true⟩):=by
 show(Sem.load .atomic a .pure).runT P w es=_;simp only[Sem.runT,h];rfl
theorem Cb{a:Addr}{u v:Value}(h:w.cell? a=some u)(hf:w.frozen? a=false)(hv:Em v=true)(es:Array Event):(Go.store a v .atomic).runT P w es=(.ok () (w.setCell a v),es.push ⟨.cell a,true,true⟩):=by
 show(Sem.store .atomic a v (.pure ())).runT P w es=_;rw[Qf hv .atomic a _ h hf];rfl
theorem PT{a:Addr}(hs:(w.shape? a.block).isSome=true)(hf:w.frozen? a=false)(es:Array Event):(Extern.Atomic.touchesFrozen a).runT P w es=(.ok false w,es):=by
 unfold Extern.Atomic.touchesFrozen;have h1:(viewAt a.block).runT P w es=(.ok none w,es):=by
  unfold viewAt;refine(AB (s:=shape a.block) (a:=w.shape? a.block) (w':=w) (es':=es) rfl).trans ?_;rw[AD hs];rfl
 refine(AB h1).trans ?_;show(frozen a).runT P w es=_;show(Result.ok (w.frozen? a) w,es)=_;rw[hf]
theorem GX{a:Addr}{l l':List Value}(h:CE ρ (.pointer (some a)::l) l'): ∃B m,ρ a.block=some B∧l'= .pointer (some {a with block:=B.blk})::m∧CE ρ l m:=by
 cases h with
 |cons h t=>cases h with
  |ptr hB=>exact⟨_,_,hB,rfl,t⟩
theorem Xk(hH:HR ρ H c w)(AO:CK c w){hn:Nat}{k:XK}{args:List Value}{Ap:Array Value}(hx:CE ρ args Ap.toList){v:Value}{H':PH}{d':Nat}(hp:RH k args H c.d=some (v,H',d')):Dz P f ρ hn v H' d' c w (k.Di Ap):=by
 obtain⟨Ap⟩:=Ap;replace hx:CE ρ args Ap:=hx;have hu:VR ρ undef undef:= .tuple .nil;cases k with
 |disable =>
  cases hp;exact Dz.still hH AO hu (es:= #[⟨.mark .disable,false,true⟩]) rfl (by simp) (IY ⟨fun _ h=>(by cases h),fun _ h=>(by cases h),fun _ h=>(by cases h)⟩ w)
 |enable =>
  cases hp;exact Dz.still hH AO hu (es:= #[⟨.mark .enable,false,true⟩]) rfl (by simp) (IY ⟨fun _ h=>(by cases h),fun _ h=>(by cases h),fun _ h=>(by cases h)⟩ w)
 |acquire =>
  simp only[RH]at hp;split at hp
  ·split at hp
   ·cases hp
   cases hp;obtain⟨B,m,hB,rfl,_⟩:=GX hx;exact Dz.still hH AO hu (es:= #[⟨.mark (.acquire _),false,true⟩]) rfl (by simp) (IY ⟨fun _ h=>(by cases h),fun _ h=>(by cases h),fun _ h=>(by cases h)⟩ w)
  ·cases hp
 |Dw =>
  simp only[RH]at hp;split at hp
  ·split at hp;rotate_left
   ·cases hp
   cases hp;obtain⟨B,m,hB,rfl,_⟩:=GX hx;exact Dz.still hH AO hu (es:= #[⟨.mark (.releaseMerge _),false,true⟩]) rfl (by simp) (IY ⟨fun _ h=>(by cases h),fun _ h=>(by cases h),fun _ h=>(by cases h)⟩ w)
  ·cases hp
 |read =>
  simp only[RH]at hp;split at hp
  ·split at hp
   ·rename_i u e1;cases hp;obtain⟨B,m,hB,rfl,_⟩:=GX hx;obtain⟨-,hM,-⟩:=aH hH e1 hB;exact Dz.still hH AO hu (es:= #[⟨.mark (.read _),false,true⟩]) rfl (by simp) ⟨fun e he a=>by simp at he; subst he; simp[MemAct.ofEvent],fun e he x hx=>by
     simp at he;subst he;cases hx;exact .inl ⟨B.blk,rfl,.inl hM⟩⟩
   ·cases hp
  ·cases hp
 |write =>
  simp only[RH]at hp;split at hp
  ·split at hp
   ·rename_i u e1;cases hp;obtain⟨B,m,hB,rfl,_⟩:=GX hx;obtain⟨-,hM,-⟩:=aH hH e1 hB;exact Dz.still hH AO hu (es:= #[⟨.mark (.write _),false,true⟩]) rfl (by simp) ⟨fun e he a=>by simp at he; subst he; simp[MemAct.ofEvent],fun e he x hx=>by
     simp at he;subst he;cases hx;exact .inl ⟨B.blk,rfl,.inl hM⟩⟩
   ·cases hp
  ·cases hp
 |QG b =>
  cases hp;exact Dz.still hH AO (.bool b) (es:= #[]) rfl (by simp) (BQ.nil _ _ _)
 |load k =>
  simp only[RH]at hp;split at hp
  ·rename_i a;split at hp
   ·rename_i k' n e1;cases hk:decide (k=k')with
    |false=>rw[hk]at hp; cases hp
    |true =>
     rw[hk]at hp;have hk:=E6 hk;subst hk;cases hp;obtain⟨B,m,hB,rfl,hm⟩:=GX hx;cases hm;obtain⟨Kw,hM,v',h1,h2⟩:=zE hH e1 hB;cases h2;refine Dz.still hH AO (.int k n) (es:= #[⟨.cell ⟨B.blk,a.off,none⟩,false,true⟩]) ?_ (by simp) ⟨fun e he a=>by simp at he; subst he; simp[MemAct.ofEvent],fun e he x hx=> ?_⟩
     ·show(Extern.Atomic.read (.int k) {a with block:=B.blk}).runT P w _=_;have ha:({a with block:=B.blk}:Addr)=⟨B.blk,a.off,none⟩:=by rw[← Kw]
      rw[ha];unfold Extern.Atomic.read;refine(AB (FL h1 _)).trans ?_;simp only[Ad];rfl
     ·simp at he;subst he;cases hx;exact hM.elim (fun hM=> .inl ⟨B.blk,rfl,.inl hM⟩) fun hR=> .inr ⟨_,rfl,hR,rfl⟩
   ·cases hp
  ·cases hp
 |store =>
  simp only[RH]at hp;split at hp
  ·rename_i a v0;split at hp
   ·rename_i u e1;cases hk:Em v0 with
    |false=>rw[hk]at hp; cases hp
    |true =>
     rw[hk]at hp;cases hp;obtain⟨B,m,hB,rfl,hm⟩:=GX hx;cases hm with
     |cons iR t =>
      rename_i xI _;cases t;obtain⟨Kw,hM,⟨v',h1,h2⟩,h3,h4,h5⟩:=aH hH e1 hB;refine Dz.set hH AO hu hB hM (h5 _ _ iR) (es:= #[⟨.cell ⟨B.blk,a.off,none⟩,true,true⟩]) ?_ (by simp);have ha:({a with block:=B.blk}:Addr)=⟨B.blk,a.off,none⟩:=by rw[← Kw]
      rw[ha];show(do Go.store ⟨B.blk,a.off,none⟩ xI .atomic; pure Extern.Atomic.none_:Sem Value).runT P w _=_;exact(AB (Cb h1 h3 (O2 iR hk) _)).trans rfl
   ·cases hp
  ·cases hp
 |add k =>
  simp only[RH]at hp;split at hp
  ·rename_i a ky y;split at hp
   ·rename_i k' x e1;cases hk:decide (k=k')with
    |false=>rw[hk]at hp; cases hp
    |true =>
     rw[hk]at hp;have hk:=E6 hk;subst hk;cases hp;obtain⟨B,m,hB,rfl,hm⟩:=GX hx;cases hm with
     |cons hy t =>
      cases t;cases hy;obtain⟨Kw,hM,⟨v',h1,h2⟩,h3,h4,h5⟩:=aH hH e1 hB;cases h2;refine Dz.set hH AO (.int k _) hB hM (h5 _ _ (.int k _)) (es:= #[⟨.cell ⟨B.blk,a.off,none⟩,false,true⟩,⟨.cell ⟨B.blk,a.off,none⟩,true,true⟩]) ?_ (by simp);have ha:({a with block:=B.blk}:Addr)=⟨B.blk,a.off,none⟩:=by rw[← Kw]
      rw[ha];have Tg:(Extern.Atomic.read (.int k) ⟨B.blk,a.off,none⟩).runT P w #[EZ f]=(.ok (.int k x) w,#[EZ f,⟨.cell ⟨B.blk,a.off,none⟩,false,true⟩]):=by
       unfold Extern.Atomic.read;refine(AB (FL h1 _)).trans ?_;simp only[Ad];rfl
      show(Extern.Atomic.read (.int k) ⟨B.blk,a.off,none⟩ >>= fun old=>do
       let new ← Op.intArith .add k (← asInt old) (← asInt (.int ky y))
       store ⟨B.blk,a.off,none⟩ new .atomic
       pure (if true=true then new else old)).runT P w _=_
      refine(AB Tg).trans ?_;show(do
       store ⟨B.blk,a.off,none⟩ (.int k (k.wrap (x+y))) .atomic
       pure (Value.int k (k.wrap (x+y))):Sem Value).runT P w _=_
      exact(AB (Cb h1 h3 rfl _)).trans rfl
   ·cases hp
  ·cases hp
 |or k=>cases hp
 |EN=>cases hp
 |FJ=>cases hp
 |Lv k =>
  simp only[RH]at hp;split at hp
  ·rename_i a ky y v0;split at hp
   ·rename_i k' x e1;cases hk:decide (k=k')&&Em v0 with
    |false=>rw[hk]at hp; cases hp
    |true =>
     rw[hk]at hp;obtain⟨hk,XD⟩:=Bj.1 hk;have hk:=E6 hk;subst hk;cases hp;obtain⟨B,m,hB,rfl,hm⟩:=GX hx;cases hm with
     |cons hy t =>
      cases hy;cases t with
      |cons iR t =>
       rename_i xI _;cases t;obtain⟨Kw,hM,⟨v',h1,h2⟩,h3,h4,h5⟩:=aH hH e1 hB;cases h2;have ha:({a with block:=B.blk}:Addr)=⟨B.blk,a.off,none⟩:=by rw[← Kw]
       have Tg:(Extern.Atomic.read (.int k) ⟨B.blk,a.off,none⟩).runT P w #[EZ f]=(.ok (.int k x) w,#[EZ f,⟨.cell ⟨B.blk,a.off,none⟩,false,true⟩]):=by
        unfold Extern.Atomic.read;refine(AB (FL h1 _)).trans ?_;simp only[Ad];rfl
       have G4:((XK.Lv k).Di ⟨[.pointer (some ⟨B.blk,a.off,none⟩),.int ky y,xI]⟩).runT P w #[EZ f]=(do
         if(x==y)=true then Go.store ⟨B.blk,a.off,none⟩ xI .atomic
         pure (.bool (x==y)):Sem Value).runT P w #[EZ f,⟨.cell ⟨B.blk,a.off,none⟩,false,true⟩]:=by
        show(Extern.Atomic.touchesFrozen ⟨B.blk,a.off,none⟩ >>= fun z=>_).runT P w _=_;refine(AB (PT h4 h3 _)).trans ?_;show(Extern.Atomic.read (.int k) ⟨B.blk,a.off,none⟩ >>= fun old=>_).runT P w _=_;exact(AB Tg).trans rfl
       rw[ha];cases rI:(x==y)with
       |true =>
        refine Dz.set hH AO (.bool true) hB hM (h5 _ _ iR) (es:= #[⟨.cell ⟨B.blk,a.off,none⟩,false,true⟩,⟨.cell ⟨B.blk,a.off,none⟩,true,true⟩]) ?_ (by simp);rw[G4,rI];simp only[Ad];exact(AB (Cb h1 h3 (O2 iR XD) _)).trans rfl
       |false =>
        refine Dz.still hH AO (.bool false) (es:= #[⟨.cell ⟨B.blk,a.off,none⟩,false,true⟩]) ?_ (by simp) ⟨fun e he a=>by simp at he; subst he; simp[MemAct.ofEvent],fun e he x hx=> ?_⟩
        ·rw[G4,rI];rfl
        ·simp at he;subst he;cases hx;exact .inl ⟨B.blk,rfl,.inl hM⟩
   ·cases hp
  ·cases hp
 |Cn s=>cases hp
end
def MQ(_P:Program)(xs:T XK)(pf:PF)(H:PH)(d:Nat)(c:Call):Option (Value×PH×Nat) :=
 match c.callee with
 | .value f=>match AQ H.ng pf f with
  |some (.func (.func g) AAe bs)=>match AAe.toList,bs.toList with
   | [],[]=>match xs.get g with
    |some k=>match Eh H.ng pf c.args.toList with
     |some vs=>RH k vs H d
     |none=>none
    |none=>none
   |_,_=>none
  |_=>none
 |_=>none
section
variable{P:Program}
theorem Fj{main:Bool}{f:FuncId}{k:XK}(hx:Ey P f k){fr:Frame}{cs:List Frame}{w w':World}(hm:fr.mode≠ .run){ys AAe:Array Value}{ds:List Deferred}(hd:fr.defers=⟨.fn (.func f) ys,AAe⟩::ds){v:Value}{es:Array Event}(AT:(k.Di (AAe++ys)).runT P w #[EZ f]=(.ok v w',#[EZ f]++es))
  (JJ: ∀e∈es,e.sync=true∧∀g,e.loc≠ .mark (.extern g)):stepG P main (G fr cs) w= .go (G {fr with defers:=ds} cs) w' es:=by
 rw[DZ hm];unfold unwind;simp only[hd];unfold Go.callDeferred;have hinv:invoke (.fn (.func f) ys) AAe=callFunc f (AAe++ys):=rfl;rw[hinv,KJ hx AT];simp only[FB,KI _ _ _ JJ,DF];rfl
end
def cO(xs:T XK)(fr:PF)(cs:List PF)(H:PH)(d:Nat):Option DS :=
 match fr.defers with
 |⟨.fn (.func f) _,_⟩::ds=>match xs.get f with
  |some .enable=>some ⟨fr.OO ds,cs,H,d-1⟩
  |some .disable=>some ⟨fr.OO ds,cs,H,d+1⟩
  |_=>none
 |_=>none
theorem VE{P:Program}{ty:TypeId}{Post:Value→World→Prop}{main:Bool}{E:Env}{xs:T XK}(Au:C9 P xs){fr:PF}{cs:List PF}{H:PH}{d:Nat}(hm:fr.mode≠ .run){s':DS}(hp:cO xs fr cs H d=some s'):Reach P ty Post main E ⟨fr,cs,H,d⟩ s':=by
 unfold cO at hp;split at hp
 ·rename_i f ys AAe ds hd;have go: ∀(k:XK) (m:Mark) (d':Nat),Ey P f k→(∀args w,(k.Di args).runT P w #[EZ f]=(.ok undef w,#[EZ f]++ #[⟨.mark m,false,true⟩]))→(∀a,m≠ .read a)→((∀a,m≠ .write a)∧∀a,m≠ .release a)→(∀g,m≠ .extern g)→deafBehind d #[⟨.mark m,false,true⟩]=d'→
    Reach P ty Post main E ⟨fr,cs,H,d⟩ ⟨fr.OO ds,cs,H,d'⟩:=fun k m d' hx AT n1 n2 n3 eY=>by
   refine⟨1,fun E hb n hn ρ c g w h=> ?_⟩;cases h with
   |mk hf hc D7 ET hH AO Dx h1 h2 h3 Bv =>
    rename_i IC cs' pd pds;have G2:=hf.defers;rw[hd]at G2;generalize Oz:IC.defers=dr at G2;cases G2 with
    |cons IX Ys =>
     rename_i b m';cases IX with
     |mk ht xU =>
      rename_i t t' xs1 xs2;cases ht with
      |fn Gv Li =>
       cases Gv with
       |func g =>
        have R6:IC.mode≠ .run:=fun e=>hm (by
         have:=hf.mode;rw[e]at this;generalize Fx:fr.mode=z at this;cases this; rfl)
        refine W.GA rfl (hb.imp id fun e=>by rw[h1]; exact e) fun w₁ r=> ?_;have Aq:=Fj (P:=P) (main:=main) (cs:=cs'++E.base) (w:=w₁) (w':=w₁) hx R6 Oz (v:=undef) (es:= #[⟨.mark m,false,true⟩]) (AT _ _) (fun e he=>by
         have:e=⟨.mark m,false,true⟩:=by simpa using he
         subst this;exact⟨rfl,fun g e=>by simp only[Loc.mark.injEq]at e; exact n3 g e⟩)
        refine⟨_,w₁,_,c.M,c.R,Aq,rfl,Ca.refl (AO.rely r),IY ⟨n1,n2⟩ _, ?_⟩;rw[show deafBehind c.d #[⟨.mark m,false,true⟩]=d' by rw[Dx]; exact eY];refine hn ρ {c with d:=d'} _ w₁ (.mk (fr:={IC with defers:=m'}) (cs:=cs') (pd:=pd) (pds:=pds) ?_ hc D7 ET ?_ ?_ rfl h1 h2 h3 ?_)
        ·obtain⟨a1,a2,a3,a4,a5,a6,a7⟩:=hf;cases fr;exact⟨a1,a2,a3,Ys,a5,a6,a7⟩
        ·have a4:=hH.rely r;exact⟨a4.cap,a4.Dk,fun b B o hb vS=>(by
          have:=a4.rel b B o hb vS;cases this with
          |cells hs he hf hle Ax hR AO=>exact .cells hs he hf hle Ax hR AO
          |obj hw ho hM=>exact .obj hw ho hM),a4.inj,a4.EK,a4.mem⟩
        ·have a5:=AO.rely r;exact⟨a5.ml,a5.rl,a5.rm⟩
        ·have a6:=Bv.rely r;exact⟨a6.m,a6.r,a6.size,a6.shape,a6.tape,a6.os,a6.output,a6.Fq,a6.fresh,a6.AL,a6.al.up (AN _) fun _ h=>h⟩
  split at hp
  ·rename_i e;cases hp;exact go .enable .enable _ (Au f _ e) (fun args w=>rfl) (by simp) (by simp) (by simp) rfl
  ·rename_i e;cases hp;exact go .disable .disable _ (Au f _ e) (fun args w=>rfl) (by simp) (by simp) (by simp) rfl
  ·cases hp
 ·cases hp
def Pk(C:CB)(_:T XK)(fr:PF)(H:PH)(d:Nat)(o:Oper):Option (Value×PH×Nat) :=
 match U9 C.P C.ty fr H o with
 |some (v,H')=>some (v,H',d)
 |none=>none
def Xf(C:CB)(xs:T XK)(fr:PF)(H:PH)(d:Nat)(o:Oper):Option (Value×PH×Nat) :=
 match o.op with
 | .call c=>match MQ C.P xs fr H d c with
  |some r=>some r
  |none=>Pk C xs fr H d o
 |_=>Pk C xs fr H d o
def MP(C:CB)(xs:T XK)(fr:PF)(cs:List PF)(H:PH)(d:Nat)(all:Array Oper)(i:Nat)(o:Oper)(l:List Oper)(k:List Ab):Option DS :=
 match Pk C xs fr H d o with
 |some (v,H',d')=>cond (Nat.ble H.next H'.next) (match By fr o.dst v with
  |some tm=>some ⟨fr.up tm (.ops all (i+1) l::k),cs,H',d'⟩
  |none=>none) none
 |none=>none
def M7(C:CB)(xs:T XK)(fr:PF)(cs:List PF)(H:PH)(d:Nat):Option DS :=
 match fr.todo with
 | .CH all fs (e::es)::k=>cond (Ae fr.kind&&(Cr all&&(NR C fr H all fs&&chained (Region.before all) e es))) (match all.toList[e]? with
  |some o=>match Aj fr all o with
   |some true=>match Xf C xs fr H d o with
    |some (v,H',d')=>cond (Nat.ble H.next H'.next) (match By fr o.dst v with
     |some tm=>some ⟨fr.up tm (.CH all (behind (Region.before all) e fs) es::k),cs,H',d'⟩
     |none=>none) none
    |none=>none
   |_=>none
  |none=>none) none
 |_=>none
section
variable{C:CB}{ty:TypeId}{Post:Value→World→Prop}{main:Bool}{E:Env}
theorem Jn{xs:T XK}(Au:C9 C.P xs){pf:PF}{H:PH}{d:Nat}{o:Oper}{cl:Call}(ho:o.op= .call cl){v:Value}{H':PH}{d':Nat}(hp:MQ C.P xs pf H d cl=some (v,H',d')){ρ:Ah}{c:Ctx}{fr:Frame}{w:World}
  (h:CJ H.ng ρ pf fr o) (hH:HR ρ H c w) (AO:CK c w) (hd:c.d=d):KC C.P pf.fn ρ H.next v H' d' c w (execOp fr.eval o):=by
 obtain⟨callee,AAe,EY⟩:=cl;unfold MQ at hp;simp only at hp;split at hp
 ·rename_i f;split at hp
  ·rename_i g bJ bs' e1;split at hp
   ·rename_i e2 e3;split at hp
    ·rename_i k e4;split at hp
     ·rename_i vs e5;have h1:=h f (by simp[ho,Op.operands,Call.operands]) _ e1;have h2:=DO h (fun z hz=>by rw[ho]; simp[Op.operands,Call.operands]at hz ⊢; exact .inr hz) e5;have Gz:fr.eval f= .func (.func g) #[] #[]:=by
       generalize fr.eval f=u at h1;cases h1 with
       |func Gv Au Li =>
        cases Gv;rw[e2]at Au;rw[e3]at Li;have l1:=Au.length;have l2:=Li.length;simp only[List.length_nil,FC]at l1 l2;rw[Eo l1.symm,Eo l2.symm]
      subst hd;exact Dz.d (Au g k e4) ho Gz (Xk hH AO (by simpa using h2) hp) _
     ·cases hp
    ·cases hp
   ·cases hp
  ·cases hp
 ·cases hp
theorem Ip(hC:An C){xs:T XK}{fr:PF}{H:PH}{d:Nat}{o:Oper}{v:Value}{H':PH}{d':Nat}(hp:Pk C xs fr H d o=some (v,H',d')):(∀c,o.op≠ .defer c)∧∀ρ c IC w,CJ H.ng ρ fr IC o→HR ρ H c w→CK c w→c.d=d→KC C.P fr.fn ρ H.next v H' d' c w (execOp IC.eval o):=by
 unfold Pk at hp;split at hp
 ·rename_i v1 H1 e1;cases hp;refine⟨Pj e1,fun ρ c IC w h1 h2 h3 h4=> ?_⟩;have:=(U8 (P:=C.P) hC.ty h1 h2 h3 e1).d (fn:=fr.fn);rw[h4]at this;exact this
 ·cases hp
theorem Sr(hC:An C){xs:T XK}(Au:C9 C.P xs){fr:PF}{H:PH}{d:Nat}{o:Oper}{v:Value}{H':PH}{d':Nat}(hp:Xf C xs fr H d o=some (v,H',d')):(∀c,o.op≠ .defer c)∧∀ρ c IC w,CJ H.ng ρ fr IC o→HR ρ H c w→CK c w→c.d=d→KC C.P fr.fn ρ H.next v H' d' c w (execOp IC.eval o):=by
 unfold Xf at hp;split at hp
 ·rename_i cl eo;split at hp
  ·rename_i r e2;cases hp;exact⟨fun c e=>(by rw[eo]at e; cases e),fun ρ c IC w h1 h2 h3 h4=>Jn Au eo e2 h1 h2 h3 h4⟩
  ·exact Ip hC hp
 ·exact Ip hC hp
theorem Jl(hC:An C){xs:T XK}(_Au:C9 C.P xs)(hb:main=true∨E.send≠none){fr:PF}{cs:List PF}{H:PH}{d:Nat}{all:Array Oper}{i:Nat}{o:Oper}{l:List Oper}{k:List Ab}(hm:fr.mode= .run)(hk:Ae fr.kind=true)(ht:fr.todo= .ops all i (o::l)::k)(hw:Aj fr all o=some true){s':DS}(hp:MP C xs fr cs H d all i o l k=some s'):Reach C.P ty Post main E ⟨fr,cs,H,d⟩ s':=by
 unfold MP at hp;split at hp
 ·rename_i v H' d' e1;cases e3:Nat.ble H.next H'.next with
  |false=>rw[e3]at hp; cases hp
  |true =>
   rw[e3]at hp;simp only[AG]at hp;split at hp
   ·rename_i tm e2;cases hp;obtain⟨nd,snd⟩:=Ip hC e1;exact Reach.op (s:=⟨fr,cs,H,d⟩) hb hm ht (fun e=>by rw[e]at hk; cases hk) nd hw (AH e3) e2 fun ρ c IC w h1 h2 h3 h4=>snd ρ c IC w h1 h2 h3 h4
   ·cases hp
 ·cases hp
theorem OS(hC:An C){xs:T XK}(Au:C9 C.P xs)(hb:main=true∨E.send≠none){fr:PF}{cs:List PF}{H:PH}{d:Nat}(hm:fr.mode= .run){s':DS}(hp:M7 C xs fr cs H d=some s'):Reach C.P ty Post main E ⟨fr,cs,H,d⟩ s':=by
 unfold M7 at hp;split at hp
 ·rename_i all fs e es k ht;cases e0:(Ae fr.kind&&(Cr all&&(NR C fr H all fs&&chained (Region.before all) e es)))with
  |false=>rw[e0]at hp; cases hp
  |true =>
   rw[e0]at hp;simp only[AF]at e0;obtain⟨h1,h2,h3,h4⟩:=e0;simp only[AG]at hp;obtain⟨f1,f2⟩:=Hk (cs:=cs) (d:=d) hC h3;split at hp
   ·rename_i o eo;split at hp
    ·rename_i hw;split at hp
     ·rename_i v H' d' e1;cases e3:Nat.ble H.next H'.next with
      |false=>rw[e3]at hp; cases hp
      |true =>
       rw[e3]at hp;simp only[AG]at hp;split at hp
       ·rename_i tm e2;cases hp;obtain⟨nd,snd⟩:=Sr hC Au e1;exact Reach.Zv (s:=⟨fr,cs,H,d⟩) hb hm (fun e=>by rw[e]at h1; cases h1) ht h2 h4 f1 (fun i hi _=>f2 i hi) (by rw[← CQ]; exact eo) nd hw (AH e3) e2 fun ρ c IC w h1 h2 h3 h4=>snd ρ c IC w h1 h2 h3 h4
       ·cases hp
     ·cases hp
    ·cases hp
   ·cases hp
 ·cases hp
end
def Ex(C:CB)(xs:T XK)(s:DS):Option DS :=
 match s with
 |⟨fr,cs,H,d⟩=>match NU C ⟨fr,cs,H,d⟩with
  |some s'=>some s'
  |none=>match fr.mode with
   | .run=>match fr.todo with
    | .ops all i (o::l)::k=>cond (Ae fr.kind) (match Aj fr all o with
     |some true=>match o.op with
      | .call c=>match MQ C.P xs fr H d c with
       |some (v,H',d')=>cond (Nat.ble H.next H'.next) (match By fr o.dst v with
        |some tm=>some ⟨fr.up tm (.ops all (i+1) l::k),cs,H',d'⟩
        |none=>none) none
       |none=>MP C xs fr cs H d all i o l k
      |_=>MP C xs fr cs H d all i o l k
     |_=>none) none
    |_=>match Xj C fr cs H d with
     |some s'=>some s'
     |none=>M7 C xs fr cs H d
   |_=>cO xs fr cs H d
section
variable{C:CB}{ty:TypeId}{Post:Value→World→Prop}{main:Bool}{E:Env}
theorem I4(hC:An C){xs:T XK}(Au:C9 C.P xs)(hb:main=true∨E.send≠none){s s':DS}(hp:Ex C xs s=some s'):Reach C.P ty Post main E s s':=by
 obtain⟨fr,cs,H,d⟩:=s;unfold Ex at hp;simp only at hp;split at hp
 ·rename_i gL e1;cases hp;exact Tz hC hb e1
 ·split at hp
  ·rename_i hm;split at hp
   ·rename_i all i o l k ht;cases hk:Ae fr.kind with
    |false=>rw[hk]at hp; cases hp
    |true =>
     rw[hk]at hp;simp only[AG]at hp;split at hp
     ·rename_i hw;split at hp
      ·rename_i cl eo;split at hp
       ·rename_i v H' d' e2;cases e3:Nat.ble H.next H'.next with
        |false=>rw[e3]at hp; cases hp
        |true =>
         rw[e3]at hp;simp only[AG]at hp;split at hp
         ·rename_i tm e4;cases hp;exact Reach.op (s:=⟨fr,cs,H,d⟩) hb hm ht (fun e=>by rw[e]at hk; cases hk) (fun c e=>by rw[eo]at e; cases e) hw (AH e3) e4 fun ρ c IC w h1 h2 h3 h4=>Jn Au eo e2 h1 h2 h3 h4
         ·cases hp
       ·exact Jl hC Au hb hm hk ht hw hp
      ·exact Jl hC Au hb hm hk ht hw hp
     ·cases hp
   ·split at hp
    ·rename_i s2 e;cases hp;exact Sv hC hb e
    ·exact OS hC Au hb hm hp
  ·rename_i hm;exact VE Au (fun e=>hm e) hp
def jf(C:CB)(xs:T XK)(k:Nat):DS→DS :=
 Nat.rec (motive:=fun _=>DS→DS) (fun s=>match Ex C xs s with|some s'=>s'|none=>s) (fun _ ih s=>DS.casesOn (ih s) fun a b c d=>ih ⟨a,b,c,d⟩) k
theorem Nj(hC:An C){xs:T XK}(Au:C9 C.P xs)(hb:main=true∨E.send≠none): ∀(k:Nat) (s:DS),Reach C.P ty Post main E s (jf C xs k s)
 |0,s=>by
  show Reach C.P ty Post main E s (match Ex C xs s with|some s'=>s'|none=>s);split
  ·rename_i s' e;exact I4 hC Au hb e
  ·exact .refl s
 |k+1,s=>(Nj hC Au hb k s).trans (Nj hC Au hb k (jf C xs k s))
end
abbrev Nm:=Nat→Option Nat
mutual
inductive VM(μ:Nm):Value→Value→Prop where
 |bool (b:Bool):VM μ (.bool b) (.bool b)
 |int (k:IntKind) (n:Int):VM μ (.int k n) (.int k n)
 |string (s:ByteArray):VM μ (.string s) (.string s)
 |JS:VM μ (.pointer none) (.pointer none)
 |ptr {b b' off:Nat} {s:Option Nat} (h:μ b=some b'):VM μ (.pointer (some ⟨b,off,s⟩)) (.pointer (some ⟨b',off,s⟩))
 |MC (n c:Nat):VM μ (.slice none n c) (.slice none n c)
 |sl {b b' off:Nat} {s:Option Nat} (n c:Nat) (h:μ b=some b'):VM μ (.slice (some ⟨b,off,s⟩) n c) (.slice (some ⟨b',off,s⟩) n c)
 |IP:VM μ (.map none) (.map none)
 |map {r r':Nat} (h:μ r=some r'):VM μ (.map (some r)) (.map (some r'))
 |func {f:FuncId} {xs xs' ys Ij:Array Value} (hx:I8 μ xs.toList xs'.toList) (hy:I8 μ ys.toList Ij.toList):VM μ (.func (.func f) xs ys) (.func (.func f) xs' Ij)
 |nilFunc:VM μ .nilFunc .nilFunc
 |iface {t:TypeId} {v v':Value} (h:VM μ v v'):VM μ (.iface t v) (.iface t v')
 |nilIface:VM μ .nilIface .nilIface
 |agg {xs xs':Array Value} (h:I8 μ xs.toList xs'.toList):VM μ (.agg xs) (.agg xs')
 |tuple {xs xs':Array Value} (h:I8 μ xs.toList xs'.toList):VM μ (.tuple xs) (.tuple xs')
inductive I8(μ:Nm):List Value→List Value→Prop where
 |nil:I8 μ [] []
 |cons {v v':Value} {l l':List Value} (h:VM μ v v') (t:I8 μ l l'):I8 μ (v::l) (v'::l')
end
section
variable{μ:Nm}{σ σ':Ah}
mutual
theorem VM.down(hd: ∀x y B,μ x=some y→σ' y=some B→σ x=some B): ∀{v0 v v':Value},VM μ v0 v→VR σ' v v'→VR σ v0 v'
 |_,_,_,.bool b,h=>by cases h; exact .bool b
 |_,_,_,.int k n,h=>by cases h; exact .int k n
 |_,_,_,.string s,h=>by cases h; exact .string s
 |_,_,_,.JS,h=>by cases h; exact .JS
 |_,_,_,.ptr hm,h=>by
  cases h with
  |ptr hB=>exact .ptr (hd _ _ _ hm hB)
 |_,_,_,.MC n c,h=>by cases h; exact .MC n c
 |_,_,_,.sl n c hm,h=>by
  cases h with
  |sl hB hc=>exact .sl (hd _ _ _ hm hB) hc
 |_,_,_,.IP,h=>by cases h; exact .IP
 |_,_,_,.map hm,h=>by
  cases h with
  |map hB=>exact .map (hd _ _ _ hm hB)
 |_,_,_,.func hx hy,h=>by
  cases h with
  |func hf Hp HM =>
   cases hf;exact .func (.func _) (I8.down hd hx Hp) (I8.down hd hy HM)
 |_,_,_,.nilFunc,h=>by cases h; exact .nilFunc
 |_,_,_,.iface hm,h=>by
  cases h with
  |iface h=>exact .iface (VM.down hd hm h)
 |_,_,_,.nilIface,h=>by cases h; exact .nilIface
 |_,_,_,.agg hm,h=>by
  cases h with
  |agg h=>exact .agg (I8.down hd hm h)
 |_,_,_,.tuple hm,h=>by
  cases h with
  |tuple h=>exact .tuple (I8.down hd hm h)
theorem I8.down(hd: ∀x y B,μ x=some y→σ' y=some B→σ x=some B): ∀{l0 l l':List Value},I8 μ l0 l→CE σ' l l'→CE σ l0 l'
 |_,_,_,.nil,h=>by cases h; exact .nil
 |_,_,_,.cons hm ht,h=>by
  cases h with
  |cons h t=>exact .cons (VM.down hd hm h) (I8.down hd ht t)
end
mutual
theorem VM.up(hd: ∀x y B,μ x=some y→σ x=some B→σ' y=some B): ∀{v0 v v':Value},VM μ v0 v→VR σ v0 v'→VR σ' v v'
 |_,_,_,.bool b,h=>by cases h; exact .bool b
 |_,_,_,.int k n,h=>by cases h; exact .int k n
 |_,_,_,.string s,h=>by cases h; exact .string s
 |_,_,_,.JS,h=>by cases h; exact .JS
 |_,_,_,.ptr (b':=b') (off:=off) (s:=s) hm,h=>by
  cases h with
  |ptr hB=>exact(.ptr (a:=⟨b',off,s⟩) (hd _ _ _ hm hB):VR σ' _ _)
 |_,_,_,.MC n c,h=>by cases h; exact .MC n c
 |_,_,_,.sl (b':=b') (off:=off) (s:=s) n c hm,h=>by
  cases h with
  |sl hB hc=>exact(.sl (a:=⟨b',off,s⟩) (hd _ _ _ hm hB) hc:VR σ' _ _)
 |_,_,_,.IP,h=>by cases h; exact .IP
 |_,_,_,.map hm,h=>by
  cases h with
  |map hB=>exact .map (hd _ _ _ hm hB)
 |_,_,_,.func hx hy,h=>by
  cases h with
  |func hf Hp HM =>
   cases hf;exact .func (.func _) (I8.up hd hx Hp) (I8.up hd hy HM)
 |_,_,_,.nilFunc,h=>by cases h; exact .nilFunc
 |_,_,_,.iface hm,h=>by
  cases h with
  |iface h=>exact .iface (VM.up hd hm h)
 |_,_,_,.nilIface,h=>by cases h; exact .nilIface
 |_,_,_,.agg hm,h=>by
  cases h with
  |agg h=>exact .agg (I8.up hd hm h)
 |_,_,_,.tuple hm,h=>by
  cases h with
  |tuple h=>exact .tuple (I8.up hd hm h)
theorem I8.up(hd: ∀x y B,μ x=some y→σ x=some B→σ' y=some B): ∀{l0 l l':List Value},I8 μ l0 l→CE σ l0 l'→CE σ' l l'
 |_,_,_,.nil,h=>by cases h; exact .nil
 |_,_,_,.cons hm ht,h=>by
  cases h with
  |cons h t=>exact .cons (VM.up hd hm h) (I8.up hd ht t)
end
def XW(f:Value→Option Value)(l:List Value):Option (List Value) :=
 List.rec (motive:=fun _=>Option (List Value)) (some []) (fun v _ ih=>match f v with
  |some v'=>match ih with
   |some l'=>some (v'::l')
   |none=>none
  |none=>none) l
def lQ(μ:Nm)(ih:Value→Option Value)(v:Value):Option Value :=
 match v with
 | .bool b=>some (.bool b)
 | .int k n=>some (.int k n)
 | .string s=>some (.string s)
 | .pointer none=>some (.pointer none)
 | .pointer (some a)=>match μ a.block with
  |some b=>some (.pointer (some ⟨b,a.off,a.spot⟩))
  |none=>none
 | .slice none n c=>some (.slice none n c)
 | .slice (some a) n c=>match μ a.block with
  |some b=>some (.slice (some ⟨b,a.off,a.spot⟩) n c)
  |none=>none
 | .map none=>some (.map none)
 | .map (some r)=>match μ r with
  |some b=>some (.map (some b))
  |none=>none
 | .func (.func f) xs ys=>match XW ih xs.toList with
  |some xs'=>match XW ih ys.toList with
   |some Ij=>some (.func (.func f) xs'.toArray Ij.toArray)
   |none=>none
  |none=>none
 | .nilFunc=>some .nilFunc
 | .iface t v=>match ih v with
  |some v'=>some (.iface t v')
  |none=>none
 | .nilIface=>some .nilIface
 | .agg xs=>match XW ih xs.toList with
  |some xs'=>some (.agg xs'.toArray)
  |none=>none
 | .tuple xs=>match XW ih xs.toList with
  |some xs'=>some (.tuple xs'.toArray)
  |none=>none
 |_=>none
def Fq(μ:Nm)(n:Nat):Value→Option Value :=
 Nat.rec (motive:=fun _=>Value→Option Value) (fun _=>none) (fun _ ih v=>lQ μ ih v) n
theorem Uv{f:Value→Option Value}(hf: ∀v v',f v=some v'→VM μ v v'): ∀{l l':List Value},XW f l=some l'→I8 μ l l'
 | [],l',h=>by cases h; exact .nil
 |v::l,l',h=>by
  have h:(match f v with
   |some v'=>match XW f l with
    |some l'=>some (v'::l')
    |none=>none
   |none=>none)=some l':=h
  split at h
  ·rename_i v' e1;split at h
   ·rename_i m e2;cases h;exact .cons (hf _ _ e1) (Uv hf e2)
   ·cases h
  ·cases h
theorem M4: ∀(n:Nat) {v v':Value},Fq μ n v=some v'→VM μ v v'
 |0,_,_,h=>by cases h
 |n+1,v,v',h=>by
  have ih: ∀{l l':List Value},XW (Fq μ n) l=some l'→I8 μ l l':=fun h=>Uv (fun _ _=>M4 n) h;replace h:lQ μ (Fq μ n) v=some v':=h;unfold lQ at h;split at h
  ·cases h; exact .bool _
  ·cases h; exact .int _ _
  ·cases h; exact .string _
  ·cases h; exact .JS
  ·rename_i a;split at h
   ·rename_i b e;cases h; exact .ptr (b:=a.block) (off:=a.off) (s:=a.spot) e
   ·cases h
  ·cases h; exact .MC _ _
  ·rename_i a n c;split at h
   ·rename_i b e;cases h; exact .sl (b:=a.block) (off:=a.off) (s:=a.spot) _ _ e
   ·cases h
  ·cases h; exact .IP
  ·split at h
   ·rename_i e;cases h; exact .map e
   ·cases h
  ·split at h
   ·rename_i e1;split at h
    ·rename_i e2;cases h; exact .func (ih e1) (ih e2)
    ·cases h
   ·cases h
  ·cases h; exact .nilFunc
  ·split at h
   ·rename_i e;cases h; exact .iface (M4 n e)
   ·cases h
  ·cases h; exact .nilIface
  ·split at h
   ·rename_i e;cases h; exact .agg (ih e)
   ·cases h
  ·split at h
   ·rename_i e;cases h; exact .tuple (ih e)
   ·cases h
  ·cases h
end
end Go.Gd
namespace Go.Gd
open Go Go.Gw Go.Conc
def EnM(μ:Nm)(es es':List MapEntry):Prop:=es.length=es'.length∧∀(k:Nat) (e:MapEntry),es[k]? =some e→∃e',es'[k]? =some e'∧e'.key=e.key∧VM μ e.val e'.val
inductive OM(μ φ:Nm):AI→AI→Prop where
 |cells {t0 t:T Value} {size:Nat} {elem:TypeId} {es:Nat} {own:Bool} {f0 f:Nat} {ok D4:Bool} (hf:(f0=0∧f=0)∨(f0≠0∧f≠0∧φ f0=some f)) (AO:ok=true→∀k,k<size→(own=false∧t0.get k=none∧t.get k=none)∨∃v0 v,t0.get k=some v0∧t.get k=some v∧VM μ v0 v) :
   OM μ φ (.cells t0 size elem es own f0 ok D4) (.cells t size elem es own f ok D4)
 |map {es es':Array MapEntry} (clock BP:Nat) (h:EnM μ es.toList es'.toList):OM μ φ (.obj (.map es clock)) (.obj (.map es' BP))
section
variable{μ φ:Nm}{σ σ':Ah}{c:Ctx}{w:World}{B:RB}
theorem OM.fam{o0 o:AI}(h:OM μ φ o0 o):(o0.fam=0∧o.fam=0)∨(o0.fam≠0∧o.fam≠0∧φ o0.fam=some o.fam):=by
 cases h with
 |cells hf AO=>exact hf
 |map clock BP h=>exact .inl ⟨rfl,rfl⟩
theorem OM.mine{o0 o:AI}(h:OM μ φ o0 o):o.mine=o0.mine:=by
 cases h with
 |cells hf AO=>rfl
 |map clock BP h=>rfl
theorem OM.FG{o0 o:AI}(h:OM μ φ o0 o):o.FG=o0.FG:=by
 cases h with
 |cells hf AO=>rfl
 |map clock BP h=>rfl
theorem OM.xj{t0 t:T Value}{own:Bool}{k:Nat}(h:(own=false∧t0.get k=none∧t.get k=none)∨∃v0 v,t0.get k=some v0∧t.get k=some v∧VM μ v0 v):(t0.get k=none→t.get k=none)∧(t.get k=none→t0.get k=none):=by
 rcases h with⟨_,a,b⟩|⟨v0,v,a,b,_⟩
 ·exact⟨fun _=>b,fun _=>a⟩
 ·exact⟨fun e=>(by rw[a]at e; cases e),fun e=>(by rw[b]at e; cases e)⟩
theorem BR.down(hd: ∀x y B,μ x=some y→σ' y=some B→σ x=some B){o0 o:AI}(h:OM μ φ o0 o)(hb:BR σ' c w B o):BR σ c w B o0:=by
 cases h with
 |cells hf AO =>
  cases hb with
  |cells hs he D8 hle Ax hR EP =>
   refine .cells hs he (fun e=>D8 ?_) hle Ax (fun e e' k hk=>(hR e e' k hk).imp (OM.xj (AO e' k hk)).2 id) fun e k hk=> ?_
   ·rcases hf with⟨_,e2⟩|⟨e1,_,_⟩
    ·exact e2
    ·exact absurd e e1
   ·rcases EP e k hk with⟨n1,n0,n2⟩|⟨u,v',g1,g2,g3⟩
    ·exact .inl ⟨n1,n0,(OM.xj (AO e k hk)).2 n2⟩
    rcases AO e k hk with⟨_,_,n2⟩|⟨v0,v,h1,h2,h3⟩
    ·rw[n2]at g1; cases g1
    rw[h2]at g1; cases g1;exact .inr ⟨v0,v',h1,g2,h3.down hd g3⟩
 |map clock BP h =>
  cases hb with
  |obj hw ho hM =>
   cases ho with
   |map _ fe hk =>
    obtain⟨L,p1,p2⟩:=hk;refine .obj hw (.map clock fe ⟨L,p1,h.1.trans p2.1,fun k e he=> ?_⟩) hM;obtain⟨e1,a1,a2,a4⟩:=h.2 k e he;obtain⟨e2,b1,b2,b4⟩:=p2.2 k e1 a1;exact⟨e2,b1,b2.trans a2,a4.down hd b4⟩
theorem BR.up(hd: ∀x y B,μ x=some y→σ x=some B→σ' y=some B){o0 o:AI}(h:OM μ φ o0 o)(hb:BR σ c w B o0):BR σ' c w B o:=by
 cases h with
 |cells hf AO =>
  cases hb with
  |cells hs he D8 hle Ax hR EP =>
   refine .cells hs he (fun e=>D8 ?_) hle Ax (fun e e' k hk=>(hR e e' k hk).imp (OM.xj (AO e' k hk)).1 id) fun e k hk=> ?_
   ·rcases hf with⟨e1,_⟩|⟨_,e2,_⟩
    ·exact e1
    ·exact absurd e e2
   ·rcases EP e k hk with⟨n1,n0,n2⟩|⟨u,v',g1,g2,g3⟩
    ·exact .inl ⟨n1,n0,(OM.xj (AO e k hk)).1 n2⟩
    rcases AO e k hk with⟨_,n2,_⟩|⟨v0,v,h1,h2,h3⟩
    ·rw[n2]at g1; cases g1
    rw[h1]at g1; cases g1;exact .inr ⟨v,v',h2,g2,h3.up hd g3⟩
 |map clock BP h =>
  cases hb with
  |obj hw ho hM =>
   cases ho with
   |map _ fe hk =>
    rename_i kV es1 es2;obtain⟨L,p1,p2⟩:=hk;refine .obj hw (.map BP fe ⟨L,p1,h.1.symm.trans p2.1,fun k e he=> ?_⟩) hM;have Ac:k<kV.toList.length:=by
     rw[h.1]; exact(DU.1 he).1
    obtain⟨e1,a1,a2,a4⟩:=h.2 k kV.toList[k] (EE Ac);rw[he]at a1;cases a1;obtain⟨e2,b1,b2,b4⟩:=p2.2 k kV.toList[k] (EE Ac);exact⟨e2,b1,b2.trans a2.symm,a4.up hd b4⟩
structure Seen(μ φ:Nm)(H0 H:PH):Prop where
 cap:H0.next≤2^T.deep
 Dk: ∀x y,μ x=some y→x<H0.next
 inj: ∀x x' y,μ x=some y→μ x'=some y→x=x'
 obj: ∀x y o0,μ x=some y→H0.t.get x=some o0→∃o,H.t.get y=some o∧OM μ φ o0 o
 oe: ∀x y o,μ x=some y→H.t.get y=some o→o.fam≠0→∃o0,H0.t.get x=some o0
 ng:H0.ng=H.ng
 EK: ∀g,g<H.ng→μ g=some g
 finj: ∀f f' z,φ f=some z→φ f'=some z→f=f'
 mem: ∀x y o0,μ x=some y→H0.t.get x=some o0→o0.fam≠0→o0.FG=true→∃l,H0.BF.get o0.fam=some l∧x∈l
def Cd(μ:Nm)(ρ:Ah):Ah:=fun x=>(μ x).bind ρ
theorem CS{ρ:Ah}{x:Nat}{B:RB}(h:Cd μ ρ x=some B): ∃y,μ x=some y∧ρ y=some B:=by
 unfold Cd at h;cases hm:μ x with
 |none=>rw[hm]at h; cases h
 |some y=>rw[hm]at h; exact⟨y,rfl,h⟩
theorem HR.seen{ρ:Ah}{H0 H:PH}(hH:HR ρ H c w)(hs:Seen μ φ H0 H):HR (Cd μ ρ) H0 c w:=by
 have Zo: ∀x y B,μ x=some y→ρ y=some B→Cd μ ρ x=some B:=fun x y B h1 h2=>by
  unfold Cd; rw[h1]; exact h2
 refine⟨hs.cap,fun x B hx=> ?_,fun x B o0 hx ho=> ?_,fun x x' B B' hx Hp BK Bn=> ?_,fun g hg=> ?_,fun x B o0 hx ho hf AO=> ?_⟩
 ·obtain⟨y,h1,h2⟩:=CS hx;exact⟨hs.Dk x y h1,(hH.Dk y B h2).2⟩
 ·obtain⟨y,h1,h2⟩:=CS hx;obtain⟨o,g1,g2⟩:=hs.obj x y o0 h1 ho;exact BR.down Zo g2 (hH.rel y B o h2 g1)
 ·obtain⟨y,h1,h2⟩:=CS hx;obtain⟨y',K0,WX⟩:=CS Hp;have xR:y≠y':=fun e=>BK (hs.inj x x' y h1 (e ▸K0));rcases hH.inj y y' B B' h2 WX xR Bn with⟨o,o',p1,p2,p3,p4⟩|⟨q1,q2⟩
  rotate_left
  ·refine .inr ⟨fun z hz=> ?_,fun z hz=> ?_⟩
   ·obtain⟨o,a1,a2⟩:=hs.obj x y z h1 hz;rw[← a2.mine]; exact q1 o a1
   ·obtain⟨o,a1,a2⟩:=hs.obj x' y' z K0 hz;rw[← a2.mine]; exact q2 o a1
  obtain⟨o0,q1⟩:=hs.oe x y o h1 p1 p3;obtain⟨o0',gM⟩:=hs.oe x' y' o' K0 p2 (p4 ▸p3);obtain⟨u,r1,r2⟩:=hs.obj x y o0 h1 q1;rw[p1]at r1; cases r1;obtain⟨u',r1',r2'⟩:=hs.obj x' y' o0' K0 gM;rw[p2]at r1'; cases r1';rcases r2.fam with⟨_,e⟩|⟨e1,_,e3⟩
  ·exact absurd e p3
  ·rcases r2'.fam with⟨_,e⟩|⟨_,_,jG⟩
   ·exact absurd (p4.trans e) p3
   ·exact .inl ⟨o0,o0',q1,gM,e1,hs.finj _ _ _ e3 (by rw[jG,p4])⟩
 ·have aV:g<H.ng:=by rw[← hs.ng]; exact hg
  obtain⟨B,h1,h2⟩:=hH.EK g aV;exact⟨B,Zo g g B (hs.EK g aV) h1,h2⟩
 ·obtain⟨y,h1,h2⟩:=CS hx;exact hs.mem x y o0 h1 ho hf AO
end
def AI.tight:AI→Bool
 | .cells _ _ _ _ own _ _ D4=>own&& !D4
 | .obj _=>true
def AI.fN(o:AI):Bool:=o.tight||(!o.mine&&(!Nat.beq o.size 0&&o.FG))
theorem AI.NT{o:AI}(h:o.fN=true):o.tight=true∨(o.mine=false∧o.size≠0∧o.FG=true):=by
 unfold AI.fN at h;rw[DX,AF,AF]at h;rcases h with h|⟨h1,h2,h3⟩
 ·exact .inl h
 ·refine .inr ⟨by simpa using h1,fun e=> ?_,h3⟩;rw[e]at h2;cases h2
theorem AI.Kt{o:AI}(h:o.tight=true):o.mine=true:=by
 cases o with
 |obj z=>rfl
 |cells t size elem es own f ok D4=>simp only[AI.tight,AF]at h; exact h.1
def G6(μ:Nm)(nw:Nat→Bool)(H0 H:PH):Nm:=fun x=>if x<H0.next then μ x else if nw x then some (H.next+(x-H0.next))else none
def FH(ρ ρ1:Ah)(nw:Nat→Bool)(H0 H:PH):Ah:=fun y=>if y<H.next then ρ y else if nw (H0.next+(y-H.next))then ρ1 (H0.next+(y-H.next))else none
structure gJ(μ φ':Nm)(nw:Nat→Bool)(H0 H1 H H':PH):Prop where
 next:H'.next=H.next+(H1.next-H0.next)
 le:H0.next≤H1.next
 cap:H'.next≤2^T.deep
 ng:H'.ng=H.ng
 mY:H.ng≤H.next
 old: ∀y,y<H.next→H'.t.get y=H.t.get y
 BF: ∀f l,H.BF.get f=some l→H'.BF.get f=some l
 same: ∀x y o,μ x=some y→H.t.get y=some o→o.mine=true→∃o1,H1.t.get x=some o1∧OM (G6 μ nw H0 H) φ' o1 o
 new: ∀y,H.next≤y→nw (H0.next+(y-H.next))=true→∃o1 o,H1.t.get (H0.next+(y-H.next))=some o1∧H'.t.get y=some o∧OM (G6 μ nw H0 H) φ' o1 o
 apart: ∀x x' o o',x<H0.next→H0.next≤x'→H1.t.get x=some o→H1.t.get x'=some o'→o.fam=o'.fam→o.fam=0
 tight: ∀x y o,μ x=some y→H.t.get y=some o→o.fam≠0→o.fN=true
 closed: ∀x y o l y' o',μ x=some y→H.t.get y=some o→o.mine=true→o.fam≠0→H.BF.get o.fam=some l→y'∈l→H.t.get y'=some o'→o'.FG=true→∃x',μ x'=some y'
 mem: ∀y o,H.next≤y→nw (H0.next+(y-H.next))=true→H'.t.get y=some o→o.fam≠0→o.FG=true→∃l,H'.BF.get o.fam=some l∧y∈l
section
variable{μ φ φ':Nm}{nw:Nat→Bool}{ρ ρ1:Ah}{H0 H1 H H':PH}{c c1:Ctx}{w w1:World}
structure gI(μ:Nm)(ρ ρ1:Ah)(c c1:Ctx)(w w1:World):Prop where
 m: ∀b,c.M b→(∀x B,Cd μ ρ x=some B→B.blk≠b)→c1.M b∧w1.heap[b]? =w.heap[b]? ∧∀x B,ρ1 x=some B→B.blk≠b
 r: ∀a,c.R a→c1.R a∧H8 a w w1
 size:w.heap.size≤w1.heap.size
 shape: ∀b,b<w.heap.size→w1.shape? b=w.shape? b
 Fq:(Cd μ ρ).le ρ1
 fresh: ∀x B,ρ1 x=some B→w.heap.size≤B.blk∨∃y B',Cd μ ρ y=some B'∧B'.blk=B.blk
theorem Bw{y:Nat}(h:y<H.next):FH ρ ρ1 nw H0 H y=ρ y:=AD h
theorem Df{y:Nat}{B:RB}(h:H.next≤y)(hb:FH ρ ρ1 nw H0 H y=some B):nw (H0.next+(y-H.next))=true∧ρ1 (H0.next+(y-H.next))=some B:=by
 unfold FH at hb;rw[AA (by omega)]at hb;cases ho:nw (H0.next+(y-H.next))with
 |false=>rw[ho]at hb; cases hb
 |true=>rw[ho]at hb; exact⟨rfl,hb⟩
theorem Zy(hH:HR ρ H c w)(live: ∀x y,μ x=some y→∃B,ρ y=some B)(hren:(Cd μ ρ).le ρ1)(x y:Nat)(B:RB)(hm:G6 μ nw H0 H x=some y)(h1:ρ1 x=some B):FH ρ ρ1 nw H0 H y=some B:=by
 unfold G6 at hm;by_cases hx:x<H0.next
 ·rw[AD hx]at hm;obtain⟨B',O0⟩:=live x y hm;have hs:Cd μ ρ x=some B':=by unfold Cd; rw[hm]; exact O0
  have:=hren x B' hs;rw[h1]at this;cases this;rw[Bw (hH.Dk y B O0).1];exact O0
 ·rw[AA hx]at hm;cases ho:nw x with
  |false=>rw[ho]at hm; cases hm
  |true =>
   rw[ho]at hm;cases hm;unfold FH;rw[AA (by omega),show H0.next+(H.next+(x-H0.next)-H.next)=x by omega,ho];exact h1
theorem HR.back(hH:HR ρ H c w)(AO:CK c w)(hs:Seen μ φ H0 H)(hb:gJ μ φ' nw H0 H1 H H')(live: ∀x y,μ x=some y→∃B,ρ y=some B)(hB:gI μ ρ ρ1 c c1 w w1)(DN:HR ρ1 H1 c1 w1)(_BY:CK c1 w1) :
  HR (FH ρ ρ1 nw H0 H) H' c1 w1:=by
 have du:=Zy (nw:=nw) (H0:=H0) hH live hB.Fq;have mapped: ∀x y B o,μ x=some y→ρ y=some B→H.t.get y=some o→o.mine=true→∃o1,H1.t.get x=some o1∧OM (G6 μ nw H0 H) φ' o1 o∧BR ρ1 c1 w1 B o1:=fun x y B o hm hy ho Fu=>by
  obtain⟨o1,h1,h2⟩:=hb.same x y o hm ho Fu;have:Cd μ ρ x=some B:=by unfold Cd; rw[hm]; exact hy
  exact⟨o1,h1,h2,DN.rel x B o1 (hB.Fq x B this) h1⟩
 have clash: ∀{y y':Nat} {B B':RB} {o o':AI},ρ y=some B→ρ y'=some B'→H.t.get y=some o→H.t.get y'=some o'→B.blk=B'.blk→o.mine=true→o'.mine=false→o'.size≠0∧o'.FG=true→o.fam≠0→False:=fun {y y' B B' o o'} hy HM ho Ck hbb h1 h2 ⟨h3,h5⟩ h4=>by
  have r1:=hH.rel y B o hy ho;have r2:=hH.rel y' B' o' HM Ck;cases r1 with
  |obj _ _ _=>exact h4 rfl
  |cells _ _ _ _ Ax _ _ =>
   cases r2 with
   |obj _ _ _=>cases h2
   |cells _ _ _ _ _ hR hk =>
    refine AO.rm _ ((hR h2 h5 0 (Nat.pos_of_ne_zero h3)).resolve_left fun hn=> ?_) ?_
    ·rcases hk h5 0 (Nat.pos_of_ne_zero h3)with⟨_,q,_⟩|⟨v,v',q,_,_⟩
     ·exact q rfl
     ·rw[hn]at q; cases q
    show c.M B'.blk;rw[← hbb];exact(Ax h1).1
 refine⟨hb.cap,fun y B hy=> ?_,fun y B o hy ho=> ?_,fun y y' B B' hy HM BK Bn=> ?_,fun g hg=> ?_,fun y B o hy ho hf hk=> ?_⟩
 ·by_cases Ac:y<H.next
  ·rw[Bw Ac]at hy;have:=hH.Dk y B hy;have h1:=hb.next;have h2:=hB.size;exact⟨by omega,by omega⟩
  ·obtain⟨-,h1⟩:=Df (by omega) hy;have:=DN.Dk _ B h1;have h2:=hb.next;have h3:=hb.le;exact⟨by omega,this.2⟩
 ·by_cases Ac:y<H.next
  ·rw[Bw Ac]at hy;rw[hb.old y Ac]at ho;have aT:=hH.rel y B o hy ho;have oH:=(hH.Dk y B hy).2;by_cases Fu:o.mine=true
   ·by_cases rR: ∃x B',Cd μ ρ x=some B'∧B'.blk=B.blk
    ·obtain⟨x,B',hx,Dn⟩:=rR;obtain⟨Ub,hm,Yg⟩:=CS hx;by_cases xR:Ub=y
     ·subst xR;obtain⟨o1,h1,h2,h3⟩:=mapped x Ub B o hm hy ho Fu;exact BR.up du h2 h3
     ·rcases hH.inj Ub y B' B Yg hy xR Dn with⟨iB,o',p1,p2,p3,p4⟩|⟨_,q⟩
      rotate_left
      ·have:=q o ho;rw[Fu]at this; cases this
      rw[ho]at p2; cases p2;have pf:o.fam≠0:=p4 ▸p3;by_cases nc:o.FG=true
      ·obtain⟨l,hl,hyl⟩:=hH.mem y B o hy ho pf nc;have Tm:iB.mine=true:=by
        rcases AI.NT (hb.tight x Ub iB hm p1 p3)with h|h
        ·exact AI.Kt h
        ·exact(clash hy Yg ho p1 Dn.symm Fu h.1 h.2 pf).elim
       obtain⟨x',Hp⟩:=hb.closed x Ub iB l y o hm p1 Tm p3 (by rw[p4]; exact hl) hyl ho nc;obtain⟨o1,h1,h2,h3⟩:=mapped x' y B o Hp hy ho Fu;exact BR.up du h2 h3
      ·have ht:iB.tight=true:=by
        rcases AI.NT (hb.tight x Ub iB hm p1 p3)with h|h
        ·exact h
        ·exact(clash hy Yg ho p1 Dn.symm Fu h.1 h.2 pf).elim
       have Tm:iB.mine=true:=by
        cases iB with
        |obj z=>rfl
        |cells t size elem es own f ok D4=>simp only[AI.tight,AF]at ht; exact ht.1
       obtain⟨o1,h1,h2,h3⟩:=mapped x Ub B' iB hm Yg p1 Tm;have h4:=BR.up du h2 h3;cases o with
       |obj z=>exact absurd rfl pf
       |cells t size elem es own f ok D4 =>
        cases aT with
        |cells R5 he D8 hle Ax hR EP =>
         cases iB with
         |obj z=>exact absurd rfl p3
         |cells t'' yF elem'' es'' own'' f'' ok'' ice'' =>
          simp only[AI.tight,AF]at ht;obtain⟨t1,t2⟩:=ht;cases h4 with
          |cells _ _ _ _ nY _ _ =>
           obtain⟨q1,q2⟩:=nY t1;rw[Dn]at q1;have q2:=q2 (by simpa using t2);rw[Dn]at q2;refine .cells ((hB.shape _ oH).trans R5) he D8 hle (fun _=>⟨q1,fun _=>q2⟩) (fun e=> ?_) (fun e=> ?_)
           ·have Fu:own=true:=Fu;rw[Fu]at e; cases e
           ·exact absurd e nc
    ·have hnot: ∀x B',Cd μ ρ x=some B'→B'.blk≠B.blk:=fun x B' h1 h2=>rR ⟨x,B',h1,h2⟩;have hM:c.M B.blk:=by
      cases aT with
      |cells R5 he D8 hle Ax hR EP=>exact(Ax Fu).1
      |obj hw ho hM=>exact hM
     obtain⟨m1,m2,m3⟩:=hB.m _ hM hnot;have F0:ρ.le (FH ρ ρ1 nw H0 H):=fun z Z hz=>by rw[Bw (hH.Dk z Z hz).1]; exact hz
     cases aT with
     |cells R5 he D8 hle Ax hR EP =>
      refine .cells ((hB.shape _ oH).trans R5) he D8 hle (fun e=>⟨m1,fun e' off=> ?_⟩) (fun e=> ?_) (fun e k hk=> ?_)
      ·have:=(Ax e).2 e' off;simp only[World.frozen?,m2]at this ⊢;exact this
      ·exact fun e' k hk=>(hR e e' k hk).imp id fun q=>(hB.r _ q).1
      ·rcases EP e k hk with hn|⟨v,v',a1,a2,a3⟩
       ·exact .inl hn
       exact .inr ⟨v,v',a1,(Kc (a:=⟨B.blk,k,none⟩) m2).trans a2,a3.mono F0⟩
     |obj hw EW hM=>exact .obj (m2.trans hw) (EW.mono F0) m1
   ·have F0:ρ.le (FH ρ ρ1 nw H0 H):=fun z Z hz=>by rw[Bw (hH.Dk z Z hz).1]; exact hz
    cases aT with
    |cells R5 he D8 hle Ax hR EP =>
     refine .cells ((hB.shape _ oH).trans R5) he D8 hle (fun e=>absurd e Fu) (fun e e' k hk=>(hR e e' k hk).imp id fun q=>(hB.r _ q).1) (fun e k hk=> ?_);rename_i t size elem es own f ok D4;have Ax:own=false:=by simpa[AI.mine]using Fu
     rcases EP e k hk with hn|⟨v,v',a1,a2,a3⟩
     ·exact .inl hn
     exact .inr ⟨v,v',a1,(hB.r _ ((hR Ax e k hk).resolve_left (by rw[a1]; simp))).2.cell.trans a2,a3.mono F0⟩
    |obj hw ho hM=>exact absurd rfl Fu
  ·obtain⟨hn,h1⟩:=Df (by omega) hy;obtain⟨o1,o',q1,q2,q3⟩:=hb.new y (by omega) hn;rw[ho]at q2; cases q2;exact BR.up du q3 (DN.rel _ B o1 h1 q1)
 ·
  have Wp: ∀y y' B B',y<H.next→H.next≤y'→FH ρ ρ1 nw H0 H y=some B→FH ρ ρ1 nw H0 H y'=some B'→B.blk=B'.blk→H'.still y∧H'.still y':=fun y y' B B' Ac gT hy HM Bn=>by
   rw[Bw Ac]at hy;obtain⟨hnw,h1⟩:=Df gT HM;have hdom:=(hH.Dk y B hy).2;rcases hB.fresh _ B' h1 with h|⟨x,lK,hx,Dn⟩
   ·omega
   ·obtain⟨Ub,hm,Yg⟩:=CS hx;have dp:=hB.Fq x lK hx;have vD:=hs.Dk x Ub hm;rcases DN.inj x (H0.next+(y'-H.next)) lK B' dp h1 (by omega) Dn with⟨u,u',p1,p2,p3,p4⟩|⟨q1,q2⟩
    ·exact absurd (hb.apart x _ u u' vD (by omega) p1 p2 p4) p3
    ·have vC: ∀o,H.t.get Ub=some o→o.mine=false:=fun o ho=>by
      cases bE:o.mine with
      |false=>rfl
      |true =>
       obtain⟨o1,a1,a2⟩:=hb.same x Ub o hm ho bE;have:=q1 o1 a1;rw[← a2.mine,bE]at this; cases this
     refine⟨fun o ho=> ?_,fun o ho=> ?_⟩
     ·rw[hb.old y Ac]at ho;by_cases e:y=Ub
      ·subst e; exact vC o ho
      ·rcases hH.inj y Ub B lK hy Yg e (Bn.trans Dn.symm)with⟨v,v',p1,p2,p3,p4⟩|⟨z,_⟩
       ·rw[ho]at p1; cases p1;cases bE:o.mine with
        |false=>rfl
        |true =>
         rcases AI.NT (hb.tight x Ub v' hm p2 (p4 ▸p3))with h|h
         ·have:=vC v' p2;rw[AI.Kt h]at this; cases this
         ·exact(clash hy Yg ho p2 (Bn.trans Dn.symm) bE h.1 h.2 p3).elim
       ·exact z o ho
     ·obtain⟨o1,o',a1,a2,a3⟩:=hb.new y' gT hnw;rw[ho]at a2; cases a2;rw[a3.mine];exact q2 o1 a1
  by_cases Ac:y<H.next
  ·by_cases Gn:y'<H.next
   ·rw[Bw Ac]at hy;rw[Bw Gn]at HM;rcases hH.inj y y' B B' hy HM BK Bn with⟨o,o',p1,p2,p3,p4⟩|⟨q1,q2⟩
    ·exact .inl ⟨o,o',(hb.old y Ac).trans p1,(hb.old y' Gn).trans p2,p3,p4⟩
    ·exact .inr ⟨fun z hz=>q1 z ((hb.old y Ac).symm.trans hz),fun z hz=>q2 z ((hb.old y' Gn).symm.trans hz)⟩
   ·exact .inr (Wp y y' B B' Ac (by omega) hy HM Bn)
  ·by_cases Gn:y'<H.next
   ·exact .inr (Wp y' y B' B Gn (by omega) HM hy Bn.symm).symm
   ·obtain⟨hn,h1⟩:=Df (by omega) hy;obtain⟨hn',K0⟩:=Df (by omega) HM;obtain⟨v,o,q1,ho,q2⟩:=hb.new y (by omega) hn;obtain⟨v',o',gM,Ck,jr⟩:=hb.new y' (by omega) hn';rcases DN.inj _ _ B B' h1 K0 (by omega) Bn with⟨u,u',p1,p2,p3,p4⟩|⟨z1,z2⟩
    rotate_left
    ·refine .inr ⟨fun z hz=> ?_,fun z hz=> ?_⟩
     ·rw[ho]at hz; cases hz; rw[q2.mine]; exact z1 v q1
     ·rw[Ck]at hz; cases hz; rw[jr.mine]; exact z2 v' gM
    rw[p1]at q1; cases q1;rw[p2]at gM; cases gM;rcases q2.fam with⟨e,_⟩|⟨_,e2,e3⟩
    ·exact absurd e p3
    ·rcases jr.fam with⟨e,_⟩|⟨_,_,jG⟩
     ·exact absurd (p4.trans e) p3
     ·refine .inl ⟨o,o',ho,Ck,e2, ?_⟩;rw[p4,jG]at e3;exact(As e3).symm
 ·have aV:g<H.ng:=by rw[← hb.ng]; exact hg
  obtain⟨B,h1,h2⟩:=hH.EK g aV;exact⟨B,by rw[Bw (AV aV hb.mY)]; exact h1,h2⟩
 ·by_cases Ac:y<H.next
  ·rw[Bw Ac]at hy;rw[hb.old y Ac]at ho;obtain⟨l,h1,h2⟩:=hH.mem y B o hy ho hf hk;exact⟨l,hb.BF _ l h1,h2⟩
  ·exact hb.mem y o (by omega) (Df (by omega) hy).1 ho hf hk
end
def UO(P:Program)(ty:TypeId)(Post:Value→World→Prop)(main:Bool)(E:Env)(n:Nat)(v:Value)(H:PH):Prop :=
 ∀ρ c w v' B4 rest,E.base=B4::rest→VR ρ v v'→HR ρ H c w→CK c w→c.d=0→c.send=E.send→c.dec=E.dec→c.AP=E.AP→Kept E ρ c w→W P ty Post main n c (G (B4.finish v') rest) w
section
variable{P:Program}{ty:TypeId}{E7:DD}{Post:Value→World→Prop}{main:Bool}{n:Nat}{E:Env}{ρ:Ah}{c:Ctx}{w:World}
theorem ZM(A7:A8 P E7)(hb:main=true∨E.send≠none){pf:PF}{H:PH}(hm:pf.mode= .returning)(G2:pf.defers= [])(JG:At pf.todo=true)(hk:pf.kind= .normal){fn:Func}(hf:P.funcs[pf.fn]? =some fn){vs:List Value}(hv:Db E7 H pf.tmps fn.results.toList=some vs)
  (JL:E.base≠ []) (hr:UO P ty Post main E n (HV vs) H):DW P ty Post main E (n+1) ⟨pf,[],H,0⟩:=by
 intro ρ c g w h;cases h with
 |mk D8 hc D7 ET hH AO Dx h1 h2 h3 Bv =>
  rename_i fr cs pd pds;cases hc;refine W.GA rfl (hb.imp id fun e=>by rw[h1]; exact e) fun w₁ r=> ?_;obtain⟨Dj,_,A9⟩:=D8.Dl JG;have DN:=hH.rely r;have BY:=AO.rely r;obtain⟨v',ev,q1,q2,q3⟩:=Es (P:=P) A7 DN A9 hv;have Dp:fr.mode= .returning:=by
   have:UY ρ pf.mode fr.mode:=D8.mode;rw[hm]at this;generalize fr.mode=b at this;cases this; rfl
  have I1:fr.defers= []:=by
   have:LR (SN ρ) pf.defers fr.defers:=D8.defers;rw[G2]at this;exact this.Co
  cases kJ:E.base with
  |nil=>exact absurd kJ JL
  |cons B4 rest =>
   have Aq:=Er (P:=P) (main:=main) (cs:=B4::rest) Dp I1 (by rw[D8.fn]; exact hf) q3;have WR:doReturn P main fr (B4::rest) none v' w₁= .go (G (B4.finish v') rest) w₁:=by
    have KZ:fr.kind= .normal:=by rw[D8.kind]; exact hk
    simp[doReturn,KZ,G]
   rw[WR,FB,DF]at Aq;have Ch:=EH P fr.fn ev.toArray;have oD:deafBehind c.d (seen P fr.fn ev.toArray)=c.d:=Cl _ _ fun e he=>q2.Kg e (Ch e (by simpa using he));refine⟨_,w₁,_,c.M,c.R,by rw[List.nil_append]; exact Aq,rfl,Ca.refl BY,(q2.Hj w₁).sub fun e he=>Ch e (by simpa using he), ?_⟩;rw[oD];exact hr ρ c w₁ v' B4 rest kJ q1 DN BY Dx h1 h2 h3 (Bv.rely r)
def FN(n0:Nat)(Ht:PH):Nm:=fun x=>if x<n0 then some x else if(Ht.t.get x).isSome then some x else none
structure Trim(n0:Nat)(H Ht:PH):Prop where
 next:Ht.next=H.next
 ng:Ht.ng=H.ng
 mY:H.ng≤n0
 obj: ∀x o,Ht.t.get x=some o→∃o',H.t.get x=some o'∧OM (FN n0 Ht) some o' o
 low: ∀x o,x<n0→H.t.get x=some o→∃o',Ht.t.get x=some o'
 mem: ∀x o,Ht.t.get x=some o→o.fam≠0→o.FG=true→∃l,Ht.BF.get o.fam=some l∧x∈l
theorem UO.forget{n0:Nat}{H Ht:PH}{v v1:Value}(hT:Trim n0 H Ht)(hv:VM (FN n0 Ht) v v1)(WM: ∀x B,E.kr x=some B→x<n0)(h:UO P ty Post main E n v1 Ht):UO P ty Post main E n v H:=by
 intro ρ c w v' B4 rest kJ nJ hH AO hd h1 h2 h3 Bv
 let ρt:Ah:=fun x=>if(FN n0 Ht x).isSome then ρ x else none
 have vd: ∀x y,FN n0 Ht x=some y→x=y:=fun x y hx=>by
  unfold FN at hx;by_cases e:x<n0
  ·rw[AD e]at hx; exact As hx
  ·rw[AA e]at hx;cases ho:Ht.t.get x with
   |none=>rw[ho]at hx; cases hx
   |some o=>rw[ho]at hx; exact As hx
 have Ch: ∀x B,ρt x=some B→ρ x=some B∧(x<n0∨∃o,Ht.t.get x=some o):=fun x B hx=>by
  show ρ x=some B∧_;have hx:(if(FN n0 Ht x).isSome then ρ x else none)=some B:=hx;unfold FN at hx;by_cases e:x<n0
  ·rw[AD e]at hx;exact⟨hx,.inl e⟩
  ·rw[AA e]at hx;cases ho:Ht.t.get x with
   |none=>rw[ho]at hx; cases hx
   |some o=>rw[ho]at hx; exact⟨hx,.inr ⟨o,rfl⟩⟩
 have du: ∀x y B,FN n0 Ht x=some y→ρ x=some B→ρt y=some B:=fun x y B hx hB=>by
  have e:=vd x y hx;subst e;show(if(FN n0 Ht x).isSome then ρ x else none)=some B;rw[hx];exact hB
 have vv: ∀x B o,ρt x=some B→H.t.get x=some o→∃o',Ht.t.get x=some o'∧OM (FN n0 Ht) some o o':=fun x B o hx ho=>by
  have: ∃o',Ht.t.get x=some o':=by
   rcases(Ch x B hx).2 with h|h
   ·exact hT.low x o h ho
   ·exact h
  obtain⟨o',Ck⟩:=this;obtain⟨u,hu,hm⟩:=hT.obj x o' Ck;rw[ho]at hu; cases hu;exact⟨o',Ck,hm⟩
 have hHt:HR ρt Ht c w:=by
  refine⟨by rw[hT.next]; exact hH.cap,fun x B hx=> ?_,fun x B o hx ho=> ?_,fun x x' B B' hx Hp BK Bn=> ?_,fun g hg=> ?_,fun x B o hx ho hf hk=>hT.mem x o ho hf hk⟩
  ·rw[hT.next];exact hH.Dk x B (Ch x B hx).1
  ·obtain⟨o',Ck,hm⟩:=hT.obj x o ho;exact BR.up du hm (hH.rel x B o' (Ch x B hx).1 Ck)
  ·rcases hH.inj x x' B B' (Ch x B hx).1 (Ch x' B' Hp).1 BK Bn with⟨o,o',p1,p2,p3,p4⟩|⟨z1,z2⟩
   rotate_left
   ·refine .inr ⟨fun z hz=> ?_,fun z hz=> ?_⟩
    ·obtain⟨o',a1,a2⟩:=hT.obj x z hz;rw[a2.mine]; exact z1 o' a1
    ·obtain⟨o',a1,a2⟩:=hT.obj x' z hz;rw[a2.mine]; exact z2 o' a1
   obtain⟨u,q1,q2⟩:=vv x B o hx p1;obtain⟨u',gM,jr⟩:=vv x' B' o' Hp p2;rcases q2.fam with⟨e,_⟩|⟨_,e2,e3⟩
   ·exact absurd e p3
   ·rcases jr.fam with⟨e,_⟩|⟨_,_,jG⟩
    ·exact absurd (p4.trans e) p3
    ·refine .inl ⟨u,u',q1,gM,e2, ?_⟩;have e3:=As e3;have jG:=As jG;rw[← e3, ← jG,p4]
  ·rw[hT.ng]at hg;obtain⟨B,b1,b2⟩:=hH.EK g hg;refine⟨B,du g g B ?_ b1,b2⟩;unfold FN;rw[AD (AV hg hT.mY)]
 have hle: ∀x B,ρt x=some B→ρ x=some B:=fun x B hx=>(Ch x B hx).1;refine h ρt c w v' B4 rest kJ (hv.up du nJ) hHt AO hd h1 h2 h3 ⟨fun b hb=>⟨(Bv.m b hb).1,(Bv.m b hb).2.1,fun x B hx=>(Bv.m b hb).2.2 x B (hle x B hx)⟩,Bv.r,Bv.size,Bv.shape,Bv.tape,Bv.os,Bv.output,fun x B hx=> ?_,fun x B hx=>Bv.fresh x B (hle x B hx),Bv.AL,⟨fun x B hx=>Bv.al.al x B (hle x B hx),Bv.al.am,Bv.al.AAe,Bv.al.sh⟩⟩;refine du x x B ?_ (Bv.Fq x B hx);unfold FN;rw[AD (WM x B hx)]
end
structure Ie where
 g:FuncId
 args:List Value
 H0:PH
 v:Value
 H1:PH
def Ie.start(K:Ie)(fn:Func)(body:Code):DS:=⟨CN K.g fn body K.args .normal,[],K.H0,0⟩
def Cm(P:Program)(ty:TypeId)(Post:Value→World→Prop)(main:Bool)(s s':DS):Prop:= ∃k,∀E:Env,(main=true∨E.send≠none)→jX main E→∀n,DW P ty Post main E n s'→DW P ty Post main E (n+k) s
section
variable{P:Program}{ty:TypeId}{Post:Value→World→Prop}{main:Bool}{s s' gL:DS}
theorem Cm.refl(s:DS):Cm P ty Post main s s:=⟨0,fun _ _ _ _ h=>h⟩
theorem Cm.trans(h:Cm P ty Post main s s')(h':Cm P ty Post main s' gL):Cm P ty Post main s gL:=by
 obtain⟨k,hk⟩:=h;obtain⟨j,hj⟩:=h';exact⟨j+k,fun E hb hg n hn=>by rw[← Bf]; exact hk E hb hg _ (hj E hb hg n hn)⟩
theorem Reach.alone{E:Env}(h:Reach P ty Post main E s s'):Cm P ty Post main s s':=by
 obtain⟨k,hk⟩:=h;exact⟨k,fun E hb _ n hn=>hk E hb n hn⟩
end
def L3(C:CB)(ty:TypeId)(Post:Value→World→Prop)(main:Bool)(K:Ie):Prop :=
 ∀fn body,C.fns.get K.g=some fn→fn.body=some body→∃k,∀E:Env,(main=true∨E.send≠none)→jX main E→E.base≠ []→(∀x B,E.kr x=some B→x<K.H0.next)→∀n,UO C.P ty Post main E n K.v K.H1→DW C.P ty Post main E (n+k) (K.start fn body)
section
variable{C:CB}{ty:TypeId}{Post:Value→World→Prop}{main:Bool}{E:Env}
theorem L3.of(hC:An C){K:Ie}{fn:Func}{body:Code}(Gv:C.fns.get K.g=some fn)(RX:fn.body=some body){pf:PF}{H:PH}(hr:Cm C.P ty Post main (K.start fn body) ⟨pf,[],H,0⟩)
  (hm:pf.mode= .returning) (G2:pf.defers= []) (JG:At pf.todo=true) (hk:pf.kind= .normal) {NS:Func} (hf:C.fns.get pf.fn=some NS) {vs:List Value} (hv:Db C.ty H pf.tmps NS.results.toList=some vs)
  (hT:Trim K.H0.next H K.H1) (vE:VM (FN K.H0.next K.H1) (HV vs) K.v):L3 C ty Post main K:=by
 intro kT jN e1 e2;rw[Gv]at e1;cases e1;rw[RX]at e2;cases e2;obtain⟨k,CP⟩:=hr;refine⟨1+k,fun E hb hg JL WM n h=> ?_⟩;rw[← Bf];exact CP E hb hg (n+1) (ZM hC.ty hb hm G2 JG hk (hC.fns _ _ hf) hv JL (UO.forget hT vE WM h))
theorem I8.get{μ:Nm}: ∀{l l':List Value},I8 μ l l'→∀(k:Nat) (v:Value),l[k]? =some v→∃v',l'[k]? =some v'∧VM μ v v'
 |_,_,.nil,k,v,h=>by simp at h
 |_,_,.cons h t,0,v,e=>by
  simp only[CM,AE]at e;subst e;exact⟨_,rfl,h⟩
 |_,_,.cons h t,k+1,v,e=>by simpa using I8.get t k v (by simpa using e)
theorem I8.length{μ:Nm}: ∀{l l':List Value},I8 μ l l'→l.length=l'.length
 |_,_,.nil=>rfl
 |_,_,.cons _ t=>by simp[I8.length t]
def lE(pc ln:PF)(v:Value):Prop:= ∀ρ fr pd v',Br ρ pc fr pd→VR ρ v v'→Br ρ ln (fr.finish v') pd
theorem Cm.y6{K:Ie}(hK:L3 C ty Post main K){fn:Func}{body:Code}(Gv:C.fns.get K.g=some fn)(RX:fn.body=some body){args:List Value}(hlen:args.length≤2^T.deep){μ φ φ':Nm}{nw:Nat→Bool}{H H':PH}(wE:I8 μ K.args args)(hs:Seen μ φ K.H0 H)(hb:gJ μ φ' nw K.H0 K.H1 H H')
  {v:Value} (hv:VM (G6 μ nw K.H0 H) K.v v) (live: ∀ρ c w,HR ρ H c w→(∀(k:Nat) (v:Value),args[k]? =some v→∃v',VR ρ v v')→∀x y,μ x=some y→∃B,ρ y=some B)
  {pc ln:PF} {cs:List PF} (hl:lE pc ln v) :
  Cm C.P ty Post main ⟨CN K.g fn body args .normal,pc::cs,H,0⟩ ⟨ln,cs,H',0⟩:=by
 obtain⟨k0,hk⟩:=hK fn body Gv RX;refine⟨k0,fun E hbb xe n hn ρ c g w h=> ?_⟩;cases h with
 |mk hf hc D7 ET hH AO Dx h1 h2 h3 Bv =>
  rename_i fr Kj pd pds;cases hc with
  |cons E1 Oc =>
   rename_i B4 BD Xm LW;obtain⟨Dj,EI,A9⟩:=hf.Dl rfl;subst Dj;have R7:=wE.length;have Ew: ∀(q:Nat) (l:List Value),l.length≤2^T.deep→(T.HY l .nil 0).get q=l[q]? :=fun q l hl=>T.Ln l q hl;have Kz: ∀(q:Nat) (u:Value),args[q]? =some u→∃u',fr.tmps[q]? =some u'∧VR ρ u u':=fun q u hq=>A9 q u (by
    show(T.HY args .nil 0).get q=_;rw[Ew q args hlen]; exact hq)
   have JH:=live ρ c w hH fun q u hq=>let⟨u',_,h⟩:=Kz q u hq; ⟨u',h⟩
   have Zo: ∀x y B,μ x=some y→ρ y=some B→Cd μ ρ x=some B:=fun x y B e1 e2=>by
    unfold Cd; rw[e1]; exact e2
   let E':Env:={E with base:=(B4::BD)++E.base,kM:=fun b=>c.M b∧∀x B,Cd μ ρ x=some B→B.blk≠b,kR:=c.R,w0:=w,kr:=Cd μ ρ,aM:=c.M,aW:=w}
   have eC:UO C.P ty Post main E' n K.v K.H1:=by
    intro ρ1 c1 w1 v' cfr' sP kJ nJ DN BY IX s1 s2 s3 Ly;have kJ:B4::(BD++E.base)=cfr'::sP:=kJ;injection kJ with e1 e2;subst e1 e2;have hBh:gI μ ρ ρ1 c c1 w w1:=⟨fun b hb hx=>⟨(Ly.m b ⟨hb,hx⟩).1,(Ly.m b ⟨hb,hx⟩).2.1,(Ly.m b ⟨hb,hx⟩).2.2⟩,fun a ha=>Ly.r a ha,Ly.size,Ly.shape,Ly.Fq,Ly.fresh⟩;have hHb:=hH.back AO hs hb JH hBh DN BY;have hle:ρ.le (FH ρ ρ1 nw K.H0 H):=fun z Z hz=>by rw[Bw (hH.Dk z Z hz).1]; exact hz
    have AAa:VR (FH ρ ρ1 nw K.H0 H) v v':=hv.up (Zy hH JH Ly.Fq) nJ;have Ff:=hl _ _ _ _ (E1.mono hle) AAa;have kE:H.next≤H'.next:=by rw[hb.next]; omega
    refine hn _ c1 _ w1 (.mk Ff (Oc.mono hle) (by simpa using D7) (fun b B7=> ?_) hHb BY IX (s1.trans rfl) (s2.trans rfl) (s3.trans rfl) ⟨fun b hbm=> ?_,fun a ha=> ?_,A1 Bv.size Ly.size,fun b Ac=>(Ly.shape b (AV Ac Bv.size)).trans (Bv.shape b Ac),Ly.tape.trans Bv.tape,Bv.os.trans Ly.os,Ly.output.trans Bv.output,fun x B hx=>hle _ _ (Bv.Fq x B hx),fun x B hx=> ?_,Ly.AL, ?_⟩)
    ·obtain⟨z1,z2⟩:=ET b (by simpa using B7);have z2:b<H.next:=z2;exact⟨by rw[Bw z2]; exact z1,AV z2 kE⟩
    ·obtain⟨m1,m2,m3⟩:=Bv.m b hbm;obtain⟨q1,q2,q3⟩:=Ly.m b ⟨m1,fun x B hx=>by
      obtain⟨y,_,hy⟩:=CS hx;exact m3 y B hy⟩
     refine⟨q1,q2.trans m2,fun x B hx=> ?_⟩;by_cases Ac:x<H.next
     ·rw[Bw Ac]at hx;exact m3 x B hx
     ·exact q3 _ B (Df (by omega) hx).2
    ·obtain⟨r1,r2⟩:=Bv.r a ha;obtain⟨q1,q2⟩:=Ly.r a r1;exact⟨q1,r2.trans q2⟩
    ·by_cases Ac:x<H.next
     ·rw[Bw Ac]at hx;exact Bv.fresh x B hx
     ·have dp:=(Df (by omega) hx).2;rcases Ly.fresh _ B dp with h|⟨y,B',hy,hyb⟩
      ·exact .inl (A1 Bv.size h)
      ·obtain⟨y',_,HM⟩:=CS hy;rcases Bv.fresh y' B' HM with h|⟨z,Z,hz,RR⟩
       ·exact .inl (by omega)
       ·exact .inr ⟨z,Z,hz,RR.trans hyb⟩
    ·refine Bv.al.step Ly.size (fun b hb=>Ly.al.am b hb) (fun x B hx=> ?_) Ly.shape;by_cases Ac:x<H.next
     ·rw[Bw Ac]at hx;exact .inl ⟨x,B,hx,rfl,.inl rfl⟩
     ·obtain⟨_,dp⟩:=Df (by omega) hx;rcases Ly.al.al _ B dp with⟨y,B',hy,e,EW⟩|h
      ·obtain⟨y',hm,HM⟩:=CS hy;refine .inl ⟨y',B',HM,e,.inr ?_⟩;rcases EW with EW|EW
       ·have:=hs.Dk y y' hm;omega
       ·exact EW
      ·exact .inr h
   have hdw:=hk E' hbb ⟨xe.1,fun x hx=>by
    obtain⟨m1,sz,m2⟩:=xe.2 x hx;exact⟨m1,sz,(Bv.shape _ (Ai m2)).trans m2⟩⟩ (by simp[E']) (fun x B hx=>by
    obtain⟨y,hy,_⟩:=CS hx;exact hs.Dk x y hy) n eC
   have ns:UY (Cd μ ρ) .run fr.mode:=by
    have:UY ρ .run fr.mode:=hf.mode;generalize fr.mode=z at this;cases this;exact .run
   have hfr0:Br (Cd μ ρ) (CN K.g fn body K.args .normal) fr []:=by
    refine⟨hf.fn, ?_,⟨_,.plain ?_,fun q u hq _=> ?_⟩, ?_,ns,hf.kind, ?_⟩
    ·have:=hf.size;simp only[CN]at this ⊢;rw[R7]; exact this
    ·have EI:LR (Ic ρ) [.code body] fr.todo:=EI;obtain⟨b',m,e,hi,E0⟩:=EI.cons_inv;rw[e];cases hi;rw[E0.Co];exact .cons (.code body) .nil
    ·have hq:(T.HY K.args .nil 0).get q=some u:=hq;rw[Ew q K.args (by omega)]at hq;obtain⟨u1,a1,a2⟩:=wE.get q u hq;obtain⟨u',b1,b2⟩:=Kz q u1 a1;exact⟨u',b1,a2.down Zo b2⟩
    ·have:LR (SN ρ) [] fr.defers:=hf.defers;rw[this.Co];exact .nil
    ·have:bK ρ none fr.roundOf:=hf.round;generalize fr.roundOf=z at this;cases this;exact .none
   exact hdw (Cd μ ρ) c _ w (.mk (cs:= []) hfr0 .nil (by simp) (by simp) (hH.seen hs) AO Dx h1 h2 h3 ⟨fun b hb=>⟨hb.1,rfl,hb.2⟩,fun a ha=>⟨ha,.refl _ _⟩,AN _,fun _ _=>rfl,rfl,.refl _,rfl,Ah.le.refl _,fun x B hx=> .inr ⟨x,B,hx,rfl⟩,Bv.AL,⟨fun x B hx=> .inl ⟨x,B,hx,rfl,.inl rfl⟩,fun b hb=> .inl hb,AN _,fun _ _=>rfl⟩⟩)
end
def Ag{α:Type}(l:List (Nat×α)):T α→T α :=
 List.rec (motive:=fun _=>T α→T α) (fun t=>t) (fun p _ ih t=>ih (t.set p.1 p.2)) l
theorem Bx{α:Type}: ∀{l:List (Nat×α)} {t:T α} {k:Nat} {v:α},(∀p∈l,p.1<2^T.deep)→(Ag l t).get k=some v→(k,v)∈l∨t.get k=some v
 | [],_,_,_,_,h=> .inr h
 |p::l,t,k,v,hl,h=>by
  have h:(Ag l (t.set p.1 p.2)).get k=some v:=h;rcases Bx (fun q hq=>hl q (by simp[hq])) h with h|h
  ·exact .inl (by simp[h])
  ·rw[T.AW _ _ _ _ (hl p (by simp))]at h;by_cases e:k=p.1
   ·rw[AD e]at h;cases h;exact .inl (by rw[e]; simp)
   ·rw[AA e]at h;exact .inr h
theorem C4{α:Type}: ∀{l:List (Nat×α)} {t:T α} {k:Nat},(∀p∈l,p.1<2^T.deep∧p.1≠k)→(Ag l t).get k=t.get k
 | [],_,_,_=>rfl
 |p::l,t,k,hl=>by
  show(Ag l (t.set p.1 p.2)).get k=_;obtain⟨h1,h2⟩:=hl p (by simp);rw[C4 fun q hq=>hl q (by simp[hq]),T.AW _ _ _ _ h1,AA fun e=>h2 e.symm]
inductive Src where
 |arg (i:Nat) (p:List Nat)
 |cell (x k:Nat) (p:List Nat)
 |entry (x k:Nat) (p:List Nat)
def nameAt(p:List Nat):Value→Option Nat :=
 List.rec (motive:=fun _=>Value→Option Nat) (fun v=>match v with
  | .pointer (some a)=>some a.block
  | .slice (some a) _ _=>some a.block
  | .map (some r)=>some r
  |_=>none) (fun i _ ih v=>match v with
  | .iface _ u=>ih u
  | .agg xs=>match xs.toList[i]? with
   |some u=>ih u
   |none=>none
  | .tuple xs=>match xs.toList[i]? with
   |some u=>ih u
   |none=>none
  | .func _ xs ys=>match(xs.toList++ys.toList)[i]? with
   |some u=>ih u
   |none=>none
  |_=>none) p
theorem Gj{ρ:Ah}: ∀{p:List Nat} {v v':Value} {y:Nat},VR ρ v v'→nameAt p v=some y→∃B,ρ y=some B
 | [],v,v',y,h,hn=>by
  cases h with
  |ptr hB=>cases hn; exact⟨_,hB⟩
  |sl hB hc=>cases hn; exact⟨_,hB⟩
  |map hB=>cases hn; exact⟨_,hB⟩
  |_=>cases hn
 |i::p,v,v',y,h,hn=>by
  have Q6: ∀{l l':List Value},CE ρ l l'→(match l[i]? with
   |some u=>nameAt p u
   |none=>none)=some y→∃B,ρ y=some B:=fun {l l'} hl hn=>by
   cases e:l[i]? with
   |none=>rw[e]at hn; cases hn
   |some u =>
    rw[e]at hn;obtain⟨u',_,hu⟩:=hl.get i u e;exact Gj hu hn
  cases h with
  |iface h=>exact Gj h hn
  |agg h=>exact Q6 h hn
  |tuple h=>exact Q6 h hn
  |func h hx hy=>exact Q6 (hx.append hy) hn
  |_=>cases hn
def nm(ng:Nat)(M:T Nat):Nm:=fun x=>cond (Nat.blt x ng) (some x) (M.get x)
def MA(args:List Value)(H:PH)(M:T Nat)(s:Src):Option Nat :=
 match s with
 | .arg i p=>match args[i]? with
  |some v=>nameAt p v
  |none=>none
 | .cell x k p=>match nm H.ng M x with
  |some y=>match H.t.get y with
   |some (.cells t size _ _ _ _ true _)=>cond (Nat.blt k size) (match t.get k with
    |some v=>nameAt p v
    |none=>none) none
   |_=>none
  |none=>none
 | .entry x k p=>match nm H.ng M x with
  |some y=>match H.t.get y with
   |some (.obj (.map es _))=>match es.toList[k]? with
    |some e=>nameAt p e.val
    |none=>none
   |_=>none
  |none=>none
def trace(args:List Value)(H:PH)(l:List (Nat×Src)):T Nat→Option (T Nat) :=
 List.rec (motive:=fun _=>T Nat→Option (T Nat)) (fun M=>some M) (fun p _ ih M=>match MA args H M p.2 with
  |some y=>ih (M.set p.1 y)
  |none=>none) l
section
variable{ρ:Ah}{H:PH}{c:Ctx}{w:World}{args:List Value}
theorem Sb(hH:HR ρ H c w)(ha: ∀(k:Nat) (v:Value),args[k]? =some v→∃v',VR ρ v v'){M:T Nat}(hM: ∀x y,nm H.ng M x=some y→∃B,ρ y=some B){s:Src}{y:Nat}(h:MA args H M s=some y): ∃B,ρ y=some B:=by
 unfold MA at h;split at h
 ·split at h
  ·rename_i v e1;obtain⟨v',hv⟩:=ha _ v e1;exact Gj hv h
  ·cases h
 ·rename_i x k p;split at h
  ·rename_i y' e1;split at h
   ·rename_i t size _ _ _ _ _ e2;obtain⟨B,hB⟩:=hM _ y' e1;cases e3:Nat.blt k size with
    |false=>rw[e3]at h; cases h
    |true =>
     rw[e3]at h;simp only[AG]at h;split at h
     ·rename_i v e4;have hr:=hH.rel y' B _ hB e2;cases hr with
      |cells hs he hf hle Ax hR AO =>
       obtain⟨u',g2,g3⟩:=known (AO rfl) k _ (AH e3) e4;exact Gj g3 h
     ·cases h
   ·cases h
  ·cases h
 ·split at h
  ·rename_i y' e1;split at h
   ·rename_i es clock e2;obtain⟨B,hB⟩:=hM _ y' e1;split at h
    ·rename_i e e3;have hr:=hH.rel y' B _ hB e2;cases hr with
     |obj hw ho hm =>
      cases ho with
      |map _ _ hk =>
       obtain⟨L,_,hL⟩:=hk;obtain⟨e',a1,a2,a4⟩:=hL.2 _ e e3;exact Gj a4 h
    ·cases h
   ·cases h
  ·cases h
theorem O9(hH:HR ρ H c w)(ha: ∀(k:Nat) (v:Value),args[k]? =some v→∃v',VR ρ v v'): ∀{l:List (Nat×Src)} {M M':T Nat},(∀p∈l,p.1<2^T.deep)→trace args H l M=some M'→(∀x y,nm H.ng M x=some y→∃B,ρ y=some B)→
  ∀x y,nm H.ng M' x=some y→∃B,ρ y=some B
 | [],M,M',_,h,hM=>by cases h; exact hM
 |p::l,M,M',hl,h,hM=>by
  have h:(match MA args H M p.2 with
   |some y=>trace args H l (M.set p.1 y)
   |none=>none)=some M':=h
  split at h
  ·rename_i y e1;refine O9 hH ha (fun q hq=>hl q (by simp[hq])) h fun x z hx=> ?_;unfold nm at hx;cases e2:Nat.blt x H.ng with
   |true =>
    rw[e2]at hx;exact hM x z (by unfold nm; rw[e2]; exact hx)
   |false =>
    rw[e2]at hx;simp only[Av]at hx;rw[T.AW _ _ _ _ (hl p (by simp))]at hx;by_cases e:x=p.1
    ·rw[AD e]at hx;cases hx;exact Sb hH ha hM e1
    ·rw[AA e]at hx;exact hM x z (by unfold nm; rw[e2]; exact hx)
  ·cases h
theorem Rn: ∀{l:List (Nat×Src)} {M M':T Nat},(∀p∈l,p.1<2^T.deep)→trace args H l M=some M'→∀x y,M'.get x=some y→(∃p∈l,p.1=x)∨M.get x=some y
 | [],M,M',_,h,x,y,hx=>by cases h; exact .inr hx
 |p::l,M,M',hl,h,x,y,hx=>by
  have h:(match MA args H M p.2 with
   |some y=>trace args H l (M.set p.1 y)
   |none=>none)=some M':=h
  split at h
  ·rename_i z e1;rcases Rn (fun q hq=>hl q (by simp[hq])) h x y hx with⟨q,hq,e⟩|h'
   ·exact .inl ⟨q,by simp[hq],e⟩
   ·rw[T.AW _ _ _ _ (hl p (by simp))]at h';by_cases e:x=p.1
    ·exact .inl ⟨p,by simp,e.symm⟩
    ·rw[AA e]at h';exact .inr h'
  ·cases h
end
structure AM where
 g:FuncId
 ng:Nat
 args:List Value
 n0:Nat
 EV:List (Nat×AI)
 BF:List (Nat×List Nat)
 XT:List (Nat×Src)
 v:Value
 n1:Nat
 news:List (Nat×AI)
 MU:List (Nat×List Nat)
def AM.H0(k:AM):PH:=⟨k.n0,Ag k.EV .nil,k.ng,Ag k.BF .nil⟩
def AM.H1(k:AM):PH:=⟨k.n1,Ag k.news (Ag k.EV .nil),k.ng,Ag k.MU (Ag k.BF .nil)⟩
def AM.K(k:AM):Ie:=⟨k.g,k.args,k.H0,k.v,k.H1⟩
def gg(μ:Nm)(v0 v:Value):Bool:=match Fq μ 6 v0 with
 |some u=>Rk 8 u v
 |none=>false
theorem O7{μ:Nm}{v0 v:Value}(h:gg μ v0 v=true):VM μ v0 v:=by
 unfold gg at h;split at h
 ·rename_i u e;rw[← HP 8 _ _ h];exact M4 6 e
 ·cases h
def UB(μ:Nm)(own:Bool)(t0 t:T Value)(n:Nat):Bool :=
 Nat.rec (motive:=fun _=>Bool) true (fun k ih=>(match t0.get k with
  |some v0=>match t.get k with
   |some v=>gg μ v0 v
   |none=>false
  |none=>match t.get k with
   |some _=>false
   |none=>cond own false true)&&ih) n
theorem Lu{μ:Nm}{own:Bool}{t0 t:T Value}: ∀{n:Nat},UB μ own t0 t n=true→∀k,k<n→(own=false∧t0.get k=none∧t.get k=none)∨∃v0 v,t0.get k=some v0∧t.get k=some v∧VM μ v0 v
 |0,_,k,hk=>by omega
 |n+1,h,k,hk=>by
  have h:((match t0.get n with
   |some v0=>match t.get n with
    |some v=>gg μ v0 v
    |none=>false
   |none=>match t.get n with
    |some _=>false
    |none=>cond own false true)&&UB μ own t0 t n)=true:=h
  rw[AF]at h;by_cases e:k=n
  ·subst e;have h:=h.1;split at h
   ·rename_i v0 e0;split at h
    ·rename_i v e1;exact .inr ⟨v0,v,e0,e1,O7 h⟩
    ·cases h
   ·rename_i e0;split at h
    ·cases h
    ·rename_i e1;cases own with
     |true=>cases h
     |false=>exact .inl ⟨rfl,e0,e1⟩
  ·exact Lu h.2 k (by omega)
def fS(μ:Nm)(l:List MapEntry):List MapEntry→Bool :=
 List.rec (motive:=fun _=>List MapEntry→Bool) (fun l'=>match l' with| []=>true|_=>false) (fun e _ ih l'=>match l' with
  |e'::m=>Rk 8 e'.key e.key&&(gg μ e.val e'.val&&ih m)
  | []=>false) l
theorem SA{μ:Nm}: ∀{l l':List MapEntry},fS μ l l'=true→EnM μ l l'
 | [],[],_=>⟨rfl,fun k e h=>by simp at h⟩
 | [],_::_,h=>by cases h
 |_::_,[],h=>by cases h
 |e::l,e'::m,h=>by
  have h:(Rk 8 e'.key e.key&&(gg μ e.val e'.val&&fS μ l m))=true:=h;simp only[AF]at h;obtain⟨h1,h3,h4⟩:=h;obtain⟨g1,g2⟩:=SA h4;refine⟨by simp[g1],fun k x hx=> ?_⟩;cases k with
  |zero =>
   simp only[CM,AE]at hx;subst hx;exact⟨e',rfl,HP 8 _ _ h1,O7 h3⟩
  |succ k=>simpa using g2 k x (by simpa using hx)
def oY(φ:Nm)(f0 f:Nat):Bool:=cond (Nat.beq f0 0) (Nat.beq f 0) (!Nat.beq f 0&&(match φ f0 with|some z=>Nat.beq z f|none=>false))
theorem GK{a b:Nat}(h:Nat.beq a b=false):a≠b:=fun e=>by
 rw[e,Nat.beq_refl]at h; cases h
theorem aZ{φ:Nm}{f0 f:Nat}(h:oY φ f0 f=true):(f0=0∧f=0)∨(f0≠0∧f≠0∧φ f0=some f):=by
 unfold oY at h;cases e:Nat.beq f0 0 with
 |true =>
  rw[e]at h;exact .inl ⟨AJ e,AJ h⟩
 |false =>
  rw[e]at h;simp only[Av,AF,BI]at h;obtain⟨h1,h2⟩:=h;split at h2
  ·rename_i z ez;rw[AJ h2]at ez;exact .inr ⟨GK e,GK h1,ez⟩
  ·cases h2
def ND(μ φ:Nm)(o0 o:AI):Bool :=
 match o0 with
 | .cells t0 size elem es own f0 ok D4=>match o with
  | .cells t PQ OB es' hU f ok' zw=>Nat.beq size PQ&&(Nat.beq elem OB&&(Nat.beq es es'&&((own==hU)&&((ok==ok')&&((D4==zw)&&(oY φ f0 f&&cond ok (UB μ own t0 t size) true))))))
  |_=>false
 | .obj (.map es _clock)=>match o with
  | .obj (.map es' _BP)=>fS μ es.toList es'.toList
  |_=>false
 |_=>false
theorem KS{μ φ:Nm}{o0 o:AI}(h:ND μ φ o0 o=true):OM μ φ o0 o:=by
 unfold ND at h;split at h
 ·split at h
  ·simp only[AF]at h;obtain⟨h1,h2,h3,h4,h5,h6,h7,h8⟩:=h;have h1:=AJ h1;have h2:=AJ h2;have h3:=AJ h3;have h4:=eq_of_beq h4;have h5:=eq_of_beq h5;have h6:=eq_of_beq h6;subst h1 h2 h3 h4 h5 h6;refine .cells (aZ h7) fun e=> ?_;rw[e]at h8;exact Lu h8
  ·cases h
 ·split at h
  ·exact .map _ _ (SA h)
  ·cases h
 ·cases h
def nF(M inv:T Nat)(x:Nat):Bool:=match M.get x with
 |some y=>match inv.get y with
  |some z=>Nat.beq z x
  |none=>false
 |none=>true
def kU(k:AM)(μ:Nm)(inv E2:T Nat)(H:PH)(x:Nat)(o0 o:AI):Bool :=
 cond (Nat.beq o0.fam 0) true (o.fN&&((match E2.get o.fam with|some z=>Nat.beq z o0.fam|none=>false)&&(cond o0.FG (match k.H0.BF.get o0.fam with
  |some l=>l.any (Nat.beq x)
  |none=>false) true&&cond o.mine (match H.BF.get o.fam with
   |none=>true
   |some l=>l.all fun y'=>match inv.get y' with
    |some x'=>(match μ x' with|some Ub=>Nat.beq Ub y'|none=>false)
    |none=>(match H.t.get y' with|some o'=> !o'.FG|none=>true)) true)))
def MF(k:AM)(μ φ:Nm)(inv E2:T Nat)(H:PH)(x:Nat):Bool :=
 match μ x with
 |none=>true
 |some y=>Nat.blt x k.n0&&((match inv.get y with|some z=>Nat.beq z x|none=>false)&&(match k.H0.t.get x with
  |some o0=>(match H.t.get y with
   |some o=>ND μ φ o0 o&&kU k μ inv E2 H x o0 o
   |none=>false)
  |none=>(match H.t.get y with
   |some o=>Nat.beq o.fam 0&& !o.mine
   |none=>true)))
def names(k:AM):List Nat:=List.range k.ng++k.XT.map (·.1)
section
variable{k:AM}{μ φ:Nm}{inv Φ E2:T Nat}{H:PH}
structure One(k:AM)(μ φ:Nm)(inv E2:T Nat)(H:PH)(x y:Nat):Prop where
 lt:x<k.n0
 inv:inv.get y=some x
 obj: ∀o0,k.H0.t.get x=some o0→∃o,H.t.get y=some o∧OM μ φ o0 o∧(o0.fam≠0→o.fN=true∧E2.get o.fam=some o0.fam∧(o0.FG=true→∃l,k.H0.BF.get o0.fam=some l∧x∈l)∧
  (o.mine=true→∀l,H.BF.get o.fam=some l→∀y'∈l,∀o',H.t.get y'=some o'→o'.FG=true→∃x',μ x'=some y'))
 none:k.H0.t.get x=Option.none→∀o,H.t.get y=some o→o.fam=0∧o.mine=false
theorem Se{x y:Nat}(hm:μ x=some y)(h:MF k μ φ inv E2 H x=true):One k μ φ inv E2 H x y:=by
 unfold MF at h;rw[hm]at h;simp only[AF]at h;obtain⟨h1,h2,h3⟩:=h;refine⟨AH h1, ?_,fun o0 ho=> ?_,fun ho o hy=> ?_⟩
 ·split at h2
  ·rename_i z e;rw[e,AJ h2]
  ·cases h2
 ·rw[ho]at h3;simp only at h3;split at h3
  ·rename_i o e;rw[AF]at h3;obtain⟨g1,g2⟩:=h3;refine⟨o,e,KS g1,fun hf=> ?_⟩;unfold kU at g2;cases e0:Nat.beq o0.fam 0 with
   |true=>exact absurd (AJ e0) hf
   |false =>
    rw[e0]at g2;simp only[Av,AF]at g2;obtain⟨a1,a2,a3,a4⟩:=g2;refine⟨a1, ?_,fun hk=> ?_,fun bE l hl y' HM o' Ck CP=> ?_⟩
    ·split at a2
     ·rename_i z ez;rw[ez,AJ a2]
     ·cases a2
    ·rw[hk]at a3;simp only[AG]at a3;split at a3
     ·rename_i l el;obtain⟨z,z1,z2⟩:=Cp.1 a3;rw[AJ z2];exact⟨l,el,z1⟩
     ·cases a3
    ·rw[bE,AG,hl]at a4;have:=AX.1 a4 y' HM;split at this
     ·rename_i x' _;split at this
      ·rename_i Ub e2;rw[AJ this]at e2;exact⟨x',e2⟩
      ·cases this
     ·rw[Ck]at this;simp only[CP]at this;cases this
  ·cases h3
 ·rw[ho]at h3;simp only[hy,AF]at h3;exact⟨AJ h3.1,by simpa using h3.2⟩
theorem Seen.of(h: ∀x y,μ x=some y→One k μ φ inv E2 H x y)(A2:k.n0≤2^T.deep)(El:k.ng=H.ng)(vi: ∀g,g<H.ng→μ g=some g)(hf: ∀f z,φ f=some z→E2.get z=some f):Seen μ φ k.H0 H:=by
 refine⟨A2,fun x y hm=>(h x y hm).lt,fun x x' y h1 h2=> ?_,fun x y o0 hm ho=> ?_,fun x y o hm ho Fx=> ?_,El,vi,fun f f' z h1 h2=> ?_,fun x y o0 hm ho Fx hk=> ?_⟩
 ·have e1:=(h x y h1).inv;have e2:=(h x' y h2).inv;rw[e1]at e2;exact As e2
 ·obtain⟨o,a,b,_⟩:=(h x y hm).obj o0 ho;exact⟨o,a,b⟩
 ·cases e:k.H0.t.get x with
  |none=>exact absurd ((h x y hm).none e o ho).1 Fx
  |some o0=>exact⟨o0,rfl⟩
 ·have e1:=hf f z h1;have e2:=hf f' z h2;rw[e1]at e2;exact As e2
 ·obtain⟨o,_,_,c⟩:=(h x y hm).obj o0 ho;exact(c Fx).2.2.1 hk
theorem Xv{M:T Nat}(El:k.ng=H.ng)(hd: ∀x y,M.get x=some y→∃p∈k.XT,p.1=x)(h:(names k).all (MF k (nm H.ng M) φ inv E2 H)=true): ∀x y,nm H.ng M x=some y→One k (nm H.ng M) φ inv E2 H x y:=fun x y hm=>by
 refine Se hm (AX.1 h x ?_);unfold names;unfold nm at hm;cases e:Nat.blt x H.ng with
 |true =>
  refine DY.2 (.inl (Cq.2 ?_));rw[El];exact AH e
 |false =>
  rw[e]at hm;obtain⟨p,hp,rfl⟩:=hd x y hm;exact DY.2 (.inr (Bd.2 ⟨p,hp,rfl⟩))
end
section
variable{μ μ' φ φ':Nm}
mutual
theorem VM.mono(h: ∀x y,μ x=some y→μ' x=some y): ∀{v v':Value},VM μ v v'→VM μ' v v'
 |_,_,.bool b=> .bool b
 |_,_,.int k n=> .int k n
 |_,_,.string s=> .string s
 |_,_,.JS=> .JS
 |_,_,.ptr hm=> .ptr (h _ _ hm)
 |_,_,.MC n c=> .MC n c
 |_,_,.sl n c hm=> .sl n c (h _ _ hm)
 |_,_,.IP=> .IP
 |_,_,.map hm=> .map (h _ _ hm)
 |_,_,.func hx hy=> .func (I8.mono h hx) (I8.mono h hy)
 |_,_,.nilFunc=> .nilFunc
 |_,_,.iface hm=> .iface (VM.mono h hm)
 |_,_,.nilIface=> .nilIface
 |_,_,.agg hm=> .agg (I8.mono h hm)
 |_,_,.tuple hm=> .tuple (I8.mono h hm)
theorem I8.mono(h: ∀x y,μ x=some y→μ' x=some y): ∀{l l':List Value},I8 μ l l'→I8 μ' l l'
 |_,_,.nil=> .nil
 |_,_,.cons hm ht=> .cons (VM.mono h hm) (I8.mono h ht)
end
theorem OM.mono(h: ∀x y,μ x=some y→μ' x=some y)(hf: ∀x y,φ x=some y→φ' x=some y){o0 o:AI}(ho:OM μ φ o0 o):OM μ' φ' o0 o:=by
 cases ho with
 |cells Fx AO =>
  refine .cells ?_ fun e k hk=> ?_
  ·rcases Fx with h1|⟨h1,h2,h3⟩
   ·exact .inl h1
   ·exact .inr ⟨h1,h2,hf _ _ h3⟩
  ·rcases AO e k hk with hn|⟨v0,v,a,b,c⟩
   ·exact .inl hn
   exact .inr ⟨v0,v,a,b,c.mono h⟩
 |map clock BP he =>
  refine .map clock BP ⟨he.1,fun k e hk=> ?_⟩;obtain⟨e',a,b,d⟩:=he.2 k e hk;exact⟨e',a,b,d.mono h⟩
end
def shift(k:AM)(H:PH)(x:Nat):Nat:=H.next+(x-k.n0)
def QM(k:AM)(x:Nat):Bool:=k.news.any fun p=>Nat.beq p.1 x
def sQ(μ:Nm)(t:T Value)(n:Nat):T Value :=
 Nat.rec (motive:=fun _=>T Value) .nil (fun k ih=>match t.get k with
  |some v=>match Fq μ 6 v with
   |some u=>ih.set k u
   |none=>ih
  |none=>ih) n
def sR(μ φ:Nm)(o:AI):AI :=
 match o with
 | .cells t size elem es own f ok D4=> .cells (sQ μ t size) size elem es own (cond (Nat.beq f 0) 0 (match φ f with|some z=>z|none=>0)) ok D4
 | .obj (.map es clock)=> .obj (.map (es.toList.map fun e=>{e with val:=(match Fq μ 6 e.val with|some u=>u|none=>e.val)}).toArray clock)
 | .obj o=> .obj o
def J9(k:AM)(Φ:T Nat)(H:PH):T Nat:=Ag (k.MU.map fun p=>(p.1,shift k H p.1)) Φ
def fw(k:AM)(μ φ':Nm)(H:PH):PH :=
 ⟨H.next+(k.n1-k.n0),Ag (k.news.map fun p=>(shift k H p.1,sR (G6 μ (QM k) k.H0 H) φ' p.2)) H.t,H.ng,Ag (k.MU.map fun p=>(shift k H p.1,p.2.map (shift k H))) H.BF⟩
def TN(k:AM)(μ' φ':Nm)(H H':PH)(p:Nat×AI):Bool :=
 Nat.ble k.n0 p.1&&(Nat.blt p.1 k.n1&&(match k.H1.t.get p.1 with
  |some o1=>match H'.t.get (shift k H p.1)with
   |some o=>ND μ' φ' o1 o&&cond (Nat.beq o.fam 0) true (cond o.FG (match H'.BF.get o.fam with
    |some l=>l.any (Nat.beq (shift k H p.1))
    |none=>false) true)
   |none=>false
  |none=>false))
def UF(k:AM)(μ:Nm)(Φ:T Nat)(H H':PH):Bool :=
 Nat.ble k.n0 k.n1&&(Nat.ble (H.next+(k.n1-k.n0)) (2^T.deep)&&(Nat.ble H.ng H.next&&(k.EV.all (fun p=>Nat.blt p.1 k.n0) &&
  (k.MU.all (fun p=>Nat.blt p.1 (2^T.deep)&&(Nat.blt (shift k H p.1) (2^T.deep)&&((match H.BF.get (shift k H p.1)with|some _=>false|none=>true)&&(match Φ.get p.1 with|some _=>false|none=>true)))) &&
   (k.news.all (TN k (G6 μ (QM k) k.H0 H) (fun f=>(J9 k Φ H).get f) H H') &&
    k.news.all (fun p'=>Nat.beq p'.2.fam 0||k.EV.all fun p=> !Nat.beq p.2.fam p'.2.fam))))))
section
variable{k:AM}{μ:Nm}{inv Φ E2:T Nat}{H:PH}
theorem gJ.of(h1: ∀x y,μ x=some y→One k μ (fun f=>Φ.get f) inv E2 H x y)(wB:k.n0≤2^T.deep)(hcap1:k.n1≤2^T.deep){H':PH}(wK:H'=fw k μ (fun f=>(J9 k Φ H).get f) H)(h:UF k μ Φ H H'=true):gJ μ (fun f=>(J9 k Φ H).get f) (QM k) k.H0 k.H1 H H':=by
 unfold UF at h;simp only[AF]at h;obtain⟨c1,c2,c3,c4,c5,c6,c7⟩:=h;have c1:=AH c1;have c2:=AH c2;have c3:=AH c3;have c4: ∀p∈k.EV,p.1<k.n0:=fun p hp=>AH (AX.1 c4 p hp);have c5: ∀p∈k.MU,p.1<2^T.deep∧shift k H p.1<2^T.deep∧H.BF.get (shift k H p.1)=none∧Φ.get p.1=none:=fun p hp=>by
  have:=AX.1 c5 p hp;simp only[AF]at this;obtain⟨a1,a2,a3,a4⟩:=this;refine⟨AH a1,AH a2, ?_, ?_⟩
  ·split at a3
   ·cases a3
   ·rename_i e; exact e
  ·split at a4
   ·cases a4
   ·rename_i e; exact e
 have xo: ∀p∈k.news,k.n0≤p.1∧p.1<k.n1:=fun p hp=>by
  have:=AX.1 c6 p hp;unfold TN at this;simp only[AF]at this;exact⟨AH this.1,AH this.2.1⟩
 have vb: ∀p∈(k.news.map fun p=>(shift k H p.1,sR (G6 μ (QM k) k.H0 H) (fun f=>(J9 k Φ H).get f) p.2)),H.next≤p.1∧p.1<2^T.deep:=fun p hp=>by
  obtain⟨q,hq,rfl⟩:=Bd.1 hp;obtain⟨a,b⟩:=xo q hq;simp only[shift];exact⟨by omega,by omega⟩
 have hμ: ∀x y,μ x=some y→G6 μ (QM k) k.H0 H x=some y:=fun x y hx=>by
  unfold G6;rw[AD (show x<k.H0.next from(h1 x y hx).lt)];exact hx
 have hφ: ∀f z,Φ.get f=some z→(J9 k Φ H).get f=some z:=fun f z hz=>by
  unfold J9;rw[C4 fun p hp=> ?_]
  ·exact hz
  ·obtain⟨q,hq,rfl⟩:=Bd.1 hp;obtain⟨a1,a2,a3,a4⟩:=c5 q hq;refine⟨a1,fun e=> ?_⟩;have e:q.1=f:=e;rw[e,hz]at a4;cases a4
 have oL: ∀x,x<k.n0→k.H1.t.get x=k.H0.t.get x:=fun x hx=>by
  show(Ag k.news (Ag k.EV .nil)).get x=(Ag k.EV .nil).get x;exact C4 fun p hp=>by
   obtain⟨a,b⟩:=xo p hp;exact⟨by omega,by omega⟩
 have IV: ∀y,H.next≤y→QM k (k.n0+(y-H.next))=true→∃p∈k.news,p.1=k.n0+(y-H.next)∧shift k H p.1=y:=fun y hy hn=>by
  obtain⟨p,hp,e⟩:=Cp.1 hn;have e:=AJ e;exact⟨p,hp,e,by unfold shift; omega⟩
 subst wK;refine⟨rfl,c1,c2,rfl,c3,fun y hy=> ?_,fun f l hl=> ?_,fun x y o hm ho Fu=> ?_,fun y hy hn=> ?_,fun x x' o o' hx Hp ho Ck Fx=> ?_,fun x y o hm ho hf=> ?_,fun x y o l y' o' hm ho bE hf hl HM Ck hk=> ?_,fun y o hy hn ho hf hk=> ?_⟩
 ·exact C4 fun p hp=>by
   obtain⟨a,b⟩:=vb p hp;exact⟨b,by omega⟩
 ·show(Ag _ H.BF).get f=some l;rw[C4 fun p hp=> ?_]
  ·exact hl
  ·obtain⟨q,hq,rfl⟩:=Bd.1 hp;obtain⟨a1,a2,a3,a4⟩:=c5 q hq;refine⟨a2,fun e=> ?_⟩;have e:shift k H q.1=f:=e;rw[e,hl]at a3;cases a3
 ·have h:=h1 x y hm;cases e:k.H0.t.get x with
  |none =>
   have:=(h.none e o ho).2;rw[Fu]at this;cases this
  |some o0 =>
   obtain⟨u,a,b,_⟩:=h.obj o0 e;rw[ho]at a; cases a;exact⟨o0,(oL x h.lt).trans e,b.mono hμ hφ⟩
 ·obtain⟨p,hp,e,es⟩:=IV y hy hn;have:=AX.1 c6 p hp;unfold TN at this;simp only[AF]at this;obtain⟨_,_,h3⟩:=this;split at h3
  ·rename_i o1 e1;split at h3
   ·rename_i o e2;rw[AF]at h3;rw[es]at e2;exact⟨o1,o,by show k.H1.t.get (k.n0+_)=_; rw[← e]; exact e1,e2,KS h3.1⟩
   ·cases h3
  ·cases h3
 ·have hx:x<k.n0:=hx;have Hp:k.n0≤x':=Hp;have iv: ∀p∈k.EV,p.1<2^T.deep:=fun p hp=>AV (c4 p hp) wB;have hb2: ∀p∈k.news,p.1<2^T.deep:=fun p hp=>by have:=(xo p hp).2; omega
  have ho:(Ag k.news (Ag k.EV .nil)).get x=some o:=ho;have Ck:(Ag k.news (Ag k.EV .nil)).get x'=some o':=Ck;have m1:(x,o)∈k.EV:=by
   rcases Bx hb2 ho with h|h
   ·have:=(xo _ h).1;simp only at this;omega
   ·rcases Bx iv h with h|h
    ·exact h
    ·cases h
  have m2:(x',o')∈k.news:=by
   rcases Bx hb2 Ck with h|h
   ·exact h
   ·rcases Bx iv h with h|h
    ·have:=c4 _ h;simp only at this;omega
    ·cases h
  have:=AX.1 c7 _ m2;simp only[DX]at this;rcases this with h|h
  ·rw[Fx]; exact AJ h
  ·have:=AX.1 h _ m1;simp only[BI]at this;exact absurd Fx (GK this)
 ·have h:=h1 x y hm;cases e:k.H0.t.get x with
  |none=>exact absurd (h.none e o ho).1 hf
  |some o0 =>
   obtain⟨u,a,b,d⟩:=h.obj o0 e;rw[ho]at a; cases a;rcases b.fam with⟨_,z⟩|⟨z,_,_⟩
   ·exact absurd z hf
   ·exact(d z).1
 ·have h:=h1 x y hm;cases e:k.H0.t.get x with
  |none=>exact absurd (h.none e o ho).1 hf
  |some o0 =>
   obtain⟨u,a,b,d⟩:=h.obj o0 e;rw[ho]at a; cases a;rcases b.fam with⟨_,z⟩|⟨z,_,_⟩
   ·exact absurd z hf
   ·exact(d z).2.2.2 bE l hl y' HM o' Ck hk
 ·obtain⟨p,hp,e,es⟩:=IV y hy hn;have:=AX.1 c6 p hp;unfold TN at this;simp only[AF]at this;obtain⟨_,_,h3⟩:=this;split at h3
  ·split at h3
   ·rename_i u e2;rw[AF]at h3;rw[es,ho]at e2;cases e2;have h4:=h3.2;cases hz:Nat.beq o.fam 0 with
    |true=>exact absurd (AJ hz) hf
    |false =>
     rw[hz,hk]at h4;simp only[Av,AG]at h4;split at h4
     ·rename_i l el;obtain⟨z,z1,z2⟩:=Cp.1 h4;have z2:=AJ z2;rw[es]at z2;rw[z2];exact⟨l,el,z1⟩
     ·cases h4
   ·cases h3
  ·cases h3
end
end Go.Gd
namespace Go.Gd
open Go Go.Gw Go.Conc
def Wu:AI→AI
 | .cells t size elem es _ fam ok D4=> .cells t size elem es false fam ok D4
 | .obj o=> .obj o
def CC(S:List Nat)(t:T AI):T AI :=
 List.rec (motive:=fun _=>T AI) t (fun x _ ih=>match t.get x with
  |some o=>ih.set x (Wu o)
  |none=>ih) S
theorem Jm{t:T AI}: ∀{S:List Nat},(∀x∈S,x<2^T.deep)→∀y,(CC S t).get y=if y∈S then(t.get y).map Wu else t.get y
 | [],_,y=>by simp[CC]
 |x::S,h,y=>by
  have ih:=Jm (t:=t) (S:=S) (fun z hz=>h z (by simp[hz])) y;have e:CC (x::S) t=match t.get x with
   |some o=>(CC S t).set x (Wu o)
   |none=>CC S t:=rfl
  rw[e];cases ho:t.get x with
  |none =>
   simp only
   rw[ih];by_cases e1:y=x
   ·subst e1; simp[ho]
   ·by_cases e2:y∈S<;>simp[e1,e2]
  |some o =>
   simp only
   rw[T.AW _ _ _ _ (h x (by simp)),ih];by_cases e1:y=x
   ·subst e1; simp[ho]
   ·by_cases e2:y∈S<;>simp[e1,e2]
def Fz(ρ:Ah)(S:List Nat)(b:Nat):Prop:= ∃x∈S,∃B,ρ x=some B∧B.blk=b
structure jV(H:PH)(S:List Nat):Prop where
 lt: ∀x∈S,x<2^T.deep
 own: ∀x∈S,∃t size elem es fam ok D4,H.t.get x=some (.cells t size elem es true fam ok D4)
 fam: ∀x∈S,∀o,H.t.get x=some o→o.fam≠0→∀y,y<H.next→∀o',H.t.get y=some o'→o'.fam=o.fam→y∈S
section
variable{ρ:Ah}{H:PH}{c:Ctx}{w:World}{S:List Nat}
theorem SB(o:AI):(Wu o).fam=o.fam:=by cases o<;>rfl
theorem ae(o:AI):(Wu o).FG=o.FG:=by cases o<;>rfl
theorem HR.freeze(h:HR ρ H c w)(hS:jV H S):HR ρ (H.Ho (CC S H.t)) {c with M:=fun b=>c.M b∧¬Fz ρ S b,R:=fun a=>c.R a∨(Fz ρ S a.block∧c.M a.block)} w:=by
 obtain⟨nx,t,ng,BF⟩:=H;have g:=Jm (t:=t) hS.lt;refine⟨h.cap,h.Dk,fun y B o hy ho=> ?_,fun y y' B B' hy HM BK Bn=> ?_,h.EK,fun y B o hy ho hf hk=> ?_⟩
 ·have ho:(CC S t).get y=some o:=ho;rw[g]at ho;by_cases e:y∈S
  ·rw[AD e]at ho;obtain⟨tr,size,elem,es,fam,ok,D4,e1⟩:=hS.own y e;have e1:t.get y=_:=e1;rw[e1]at ho;cases ho;have hr:=h.rel y B _ hy e1;cases hr with
   |cells hs he hf hle Ax hR AO =>
    exact .cells hs he hf hle (fun e=>by cases e) (fun _ _ k hk=> .inr (.inr ⟨⟨y,e,B,hy,rfl⟩,(Ax rfl).1⟩)) (fun e k hk=> .inr (TC (AO e k hk)))
  ·rw[AA e]at ho;have hr:=h.rel y B o hy ho;have apart:o.mine=true→¬Fz ρ S B.blk:=fun Fu ⟨x,hx,X,hX,hXb⟩=>by
    obtain⟨tr,size,elem,es,fam,ok,D4,e1⟩:=hS.own x hx;rcases h.inj x y X B hX hy (fun z=>e (z ▸hx)) hXb with⟨o1,o2,p1,p2,p3,p4⟩|⟨q1,_⟩
    ·have p2:t.get y=some o2:=p2;rw[ho]at p2; cases p2;exact e (hS.fam x hx o1 p1 p3 y (h.Dk y B hy).1 o ho p4.symm)
    ·cases q1 _ e1
   cases hr with
   |cells hs he hf hle Ax hR AO=>exact .cells hs he hf hle (fun e=>⟨⟨(Ax e).1,apart e⟩,(Ax e).2⟩) (fun e e' k hk=>(hR e e' k hk).imp id .inl) AO
   |obj hw EW hm=>exact .obj hw EW ⟨hm,apart rfl⟩
 ·have up: ∀{z:Nat} {o:AI},t.get z=some o→∃o',(CC S t).get z=some o'∧o'.fam=o.fam:=fun {z o} hz=>by
   rw[g];by_cases e:z∈S
   ·rw[AD e,hz]; exact⟨_,rfl,SB o⟩
   ·rw[AA e]; exact⟨o,hz,rfl⟩
  have st: ∀{z:Nat},PH.still ⟨nx,t,ng,BF⟩ z→PH.still ⟨nx,CC S t,ng,BF⟩ z:=fun {z} hz o ho=>by
   have ho:(CC S t).get z=some o:=ho;rw[g]at ho;by_cases e:z∈S
   ·rw[AD e]at ho;cases e1:t.get z with
    |none=>rw[e1]at ho; cases ho
    |some u =>
     have:=hz u e1;rw[e1]at ho;cases ho;cases u with
     |cells=>rfl
     |obj=>exact this
   ·rw[AA e]at ho; exact hz o ho
  rcases h.inj y y' B B' hy HM BK Bn with⟨o1,o2,p1,p2,p3,p4⟩|⟨q1,q2⟩
  ·obtain⟨z1,a1,a2⟩:=up p1;obtain⟨z2,b1,b2⟩:=up p2;exact .inl ⟨z1,z2,a1,b1,by rw[a2]; exact p3,by rw[a2,b2]; exact p4⟩
  ·exact .inr ⟨st q1,st q2⟩
 ·have ho:(CC S t).get y=some o:=ho;rw[g]at ho;by_cases e:y∈S
  ·rw[AD e]at ho;cases e1:t.get y with
   |none=>rw[e1]at ho; cases ho
   |some u =>
    rw[e1]at ho;cases ho;rw[SB]at hf ⊢;rw[ae]at hk;exact h.mem y B u hy e1 hf hk
  ·rw[AA e]at ho;exact h.mem y B o hy ho hf hk
theorem CK.freeze(h:CK c w):CK {c with M:=fun b=>c.M b∧¬Fz ρ S b,R:=fun a=>c.R a∨(Fz ρ S a.block∧c.M a.block)} w :=
 ⟨fun b hb=>h.ml b hb.1,fun a ha=>ha.elim (h.rl a) fun x=>h.ml _ x.2,fun a ha hb=>ha.elim (fun x=>h.rm a x hb.1) fun x=>hb.2 x.1⟩
theorem Ca.freeze(h:CK c w):Ca c (fun b=>c.M b∧¬Fz ρ S b) (fun a=>c.R a∨(Fz ρ S a.block∧c.M a.block)) w w :=
 ⟨rfl,.refl _,.refl _,AN _,fun _ _=>rfl,fun _ _ _=>rfl,fun b hb=>⟨h.ml b hb.1,.inl hb.1⟩,fun _ h=> .inl h,fun _a ha=>ha.imp id fun x=>⟨h.ml _ x.2,.inl x.2,fun y=>y.2 x.1⟩⟩
end
def Oq(H:PH)(x:Nat):Bool:=match H.t.get x with
 |some (.cells _ _ _ _ true _ _ _)=>true
 |_=>false
def OA(H:PH)(x:Nat):Nat:=match H.t.get x with
 |some o=>o.fam
 |none=>0
def Y2(H:PH)(S:List Nat):List Nat:=(S.map (OA H)).filter fun f=> !Nat.beq f 0
def od(p:Nat→AI→Bool)(b:Nat)(v:Option AI):Bool:=match v with
 |some o=>p b o
 |none=>true
def jR(p:Nat→AI→Bool)(t:T AI):Nat→Nat→Bool :=
 T.rec (motive:=fun _=>Nat→Nat→Bool) (fun _ _=>true) (fun _ v _ dm dk a b=>od p b v&&(dm (Nat.add a a) (Nat.add a b)&&dk (Nat.add a a) (Nat.add (Nat.add a a) b))) t
def sV(p:AI→Bool)(t:T AI):Nat→Nat→List Nat→List Nat :=
 T.rec (motive:=fun _=>Nat→Nat→List Nat→List Nat) (fun _ _ acc=>acc) (fun _ v _ dm dk a b acc=>dm (Nat.add a a) (Nat.add a b) (dk (Nat.add a a) (Nat.add (Nat.add a a) b) (match v with
  |some o=>cond (p o) (b::acc) acc
  |none=>acc))) t
theorem Qw{p:Nat→AI→Bool}: ∀{t:T AI} {a b:Nat},jR p t a b=true→∀m o,t.get m=some o→p (a*m+b) o=true
 | .nil,_,_,_,m,o,h=>by cases h
 | .node l v r,a,b,h,m,o,hm=>by
  have h:(od p b v&&(jR p l (a+a) (a+b)&&jR p r (a+a) (a+a+b)))=true:=h;simp only[AF]at h;obtain⟨h1,h2,h3⟩:=h;rw[T.Ci]at hm;by_cases e0:m=0
  ·subst e0;rw[AD rfl]at hm;subst hm;simpa[od]using h1
  ·rw[AA e0]at hm;by_cases e1:m%2=1
   ·rw[AD e1]at hm;have:=Qw h2 _ o hm;have e:(a+a)*(m/2)+(a+b)=a*m+b:=by
     have hh:m=2*(m/2)+1:=by omega
     generalize m/2=q at hh ⊢;subst hh;rw[Nat.mul_add,Nat.mul_one, ← Nat.mul_assoc,Nat.mul_comm a 2,Nat.two_mul]; omega
    rw[e]at this;exact this
   ·rw[AA e1]at hm;have:=Qw h3 _ o hm;have e:(a+a)*(m/2-1)+(a+a+b)=a*m+b:=by
     have hh:m=2*(m/2-1)+2:=by omega
     generalize m/2-1=q at hh ⊢;subst hh;rw[Nat.mul_add, ← Nat.mul_assoc,Nat.mul_comm a 2,Nat.two_mul]; omega
    rw[e]at this;exact this
def yV(o:AI):Bool:=match o with
 | .cells _ _ _ _ own _ _ _=>own
 |_=>false
def Lo(H:PH)(L:List Nat):List Nat :=
 match L.filter (Oq H)with
 |S=>match Y2 H S with
  | []=>S
  |fs=>S++(sV (fun o=>yV o&&fs.any (Nat.beq o.fam)) H.t 1 0 []).filter fun y=> !(S.any (Nat.beq y))
def rY(H:PH)(S:List Nat):Bool :=
 S.all (fun x=>Nat.blt x (2^T.deep)&&Oq H x)&&match Y2 H S with
  | []=>true
  |fs=>jR (fun y o=>cond (fs.any (Nat.beq o.fam)) (S.any (Nat.beq y)) true) H.t 1 0
theorem iE{y:Nat}{S:List Nat}(h:S.any (Nat.beq y)=true):y∈S:=by
 obtain⟨z,hz,e⟩:=Cp.1 h;rw[AJ e]; exact hz
theorem any_beq{y:Nat}{S:List Nat}(h:y∈S):S.any (Nat.beq y)=true:=Cp.2 ⟨y,h,Nat.beq_refl y⟩
theorem TD{H:PH}{x:Nat}(h:Oq H x=true): ∃t size elem es fam ok D4,H.t.get x=some (.cells t size elem es true fam ok D4):=by
 unfold Oq at h;split at h
 ·rename_i e;exact⟨_,_,_,_,_,_,_,e⟩
 ·cases h
theorem Qd{H:PH}{S:List Nat}(h:rY H S=true):jV H S:=by
 unfold rY at h;rw[AF]at h;obtain⟨h1,h2⟩:=h;have K0:=fun x hx=>by
  have:=AX.1 h1 x hx;rw[AF]at this;exact this
 refine⟨fun x hx=>AH (K0 x hx).1,fun x hx=>TD (K0 x hx).2,fun x hx o ho hf y hy o' Ck e=> ?_⟩;have xf:OA H x=o.fam:=by unfold OA; rw[ho]
 have vn:OA H y=o'.fam:=by unfold OA; rw[Ck]
 have DJ:OA H x∈Y2 H S:=by
  refine B8.2 ⟨Bd.2 ⟨x,hx,rfl⟩, ?_⟩;rw[xf];cases hb:Nat.beq o.fam 0 with
  |true=>exact absurd (AJ hb) hf
  |false=>rfl
 split at h2
 ·rename_i hn;rw[hn]at DJ;cases DJ
 ·have:=Qw h2 y o' Ck;rw[any_beq (by rw[e, ← xf]; exact DJ)]at this;simpa using iE this
section
variable{P:Program}{ty:TypeId}{Post:Value→World→Prop}{main:Bool}{E:Env}
theorem Reach.freeze{fr:PF}{cs:List PF}{H:PH}{d:Nat}{S:List Nat}(hS:jV H S):Reach P ty Post main E ⟨fr,cs,H,d⟩ ⟨fr,cs,H.Ho (CC S H.t),d⟩:=by
 refine⟨0,fun E hb n hd ρ c g w h'=> ?_⟩;cases h' with
 |mk hf hc D7 ET hH AO Dx h1 h2 h3 Bv =>
  refine W.freeze (M':=fun b=>c.M b∧¬Fz ρ S b) (R':=fun a=>c.R a∨(Fz ρ S a.block∧c.M a.block)) (hb.imp id fun e=>by rw[h1]; exact e) (fun b hb=>hb.1) (fun a=> .inl) (fun a ha=>ha.imp id fun x=>⟨x.2,fun y=>y.2 x.1⟩) ?_;refine hd ρ _ _ w (.mk hf hc D7 (fun b hb=>⟨(ET b hb).1,by cases H; exact(ET b hb).2⟩) (hH.freeze hS) AO.freeze Dx h1 h2 h3 ⟨fun b hb=> ?_,fun a ha=>⟨.inl (Bv.r a ha).1,(Bv.r a ha).2⟩,Bv.size,Bv.shape,Bv.tape,Bv.os,Bv.output,Bv.Fq,Bv.fresh,Bv.AL,Bv.al.up (AN _) fun _ h=>h.1⟩);obtain⟨m1,m2,m3⟩:=Bv.m b hb;exact⟨⟨m1,fun⟨x,_,B,hx,e⟩=>m3 x B hx e⟩,m2,m3⟩
end
def DK(f:Nat):Value→List Nat :=
 Nat.rec (motive:=fun _=>Value→List Nat) (fun _=> []) (fun _ ih v=>match v with
  | .pointer (some a)=> [a.block]
  | .slice (some a) _ _=> [a.block]
  | .map (some r)=> [r]
  | .chan (some r)=> [r]
  | .func _ xs ys=>xs.toList.flatMap ih++ys.toList.flatMap ih
  | .iface _ v=>ih v
  | .agg xs| .tuple xs=>xs.toList.flatMap ih
  |_=> []) f
def Mf(H:PH)(x:Nat):List Nat :=
 match H.t.get x with
 |some (.cells t size _ _ _ _ true _)=>(List.range size).flatMap fun k=>match t.get k with
  |some v=>DK 6 v
  |none=> []
 |some (.obj (.map es _))=>es.toList.flatMap fun e=>DK 6 e.val
 |_=> []
def reach(H:PH)(f:Nat):List Nat→T Unit→List Nat→List Nat :=
 Nat.rec (motive:=fun _=>List Nat→T Unit→List Nat→List Nat) (fun _ _ acc=>acc)
  (fun _ ih work seen acc=>match work with
   | []=>acc
   |x::work=>match seen.get x with
    |some _=>ih work seen acc
    |none=>ih (Mf H x++work) (seen.set x ()) (x::acc)) f
def IJ:Nat:=100000
def EO(H:PH)(l:List Nat):List Nat:=reach H IJ l .nil []
def YZ(H:PH)(R:List Nat)(l:List Nat):T AI :=
 List.rec (motive:=fun _=>T AI) H.t (fun x _ ih=>match H.t.get x with
  |some o=>cond (Nat.beq o.fam 0) ih (match H.BF.get o.fam with
   |some ys=>BH ih 0 (ys.filter fun y=> !R.any (Nat.beq y))
   |none=>ih)
  |none=>ih) l
def Ix(H:PH)(args:List Value):PH :=
 match EO H (args.flatMap (DK 6))with
 |R=>cond (R.all fun x=>match H.t.get x with|some o=>Nat.beq o.fam 0|none=>true) H (H.Ho (YZ H R R))
theorem HR.loose{ρ:Ah}{H:PH}{c:Ctx}{w:World}(h:HR ρ H c w)(R:List Nat): ∀l,HR ρ {H with t:=YZ H R l} c w
 | []=>h
 |x::l=>by
  have ih:=HR.loose h R l;unfold YZ;simp only
  split
  ·rename_i o e;cases Nat.beq o.fam 0 with
   |true=>exact ih
   |false =>
    simp only[Av];split
    ·exact HR.kill ih 0 _
    ·exact ih
  ·exact ih
theorem HR.Ix{ρ:Ah}{H:PH}{c:Ctx}{w:World}(h:HR ρ H c w)(args:List Value):HR ρ (Ix H args) c w:=by
 unfold Gd.Ix;simp only
 cases(EO H (args.flatMap (DK 6))).all fun x=>match H.t.get x with|some o=>Nat.beq o.fam 0|none=>true with
 |true=>exact h
 |false =>
  have:=HR.loose h (EO H (args.flatMap (DK 6))) (EO H (args.flatMap (DK 6)));cases H;exact this
theorem V0(H:PH)(args:List Value):(Ix H args).next=H.next:=by
 unfold Ix;simp only
 cases(EO H (args.flatMap (DK 6))).all fun x=>match H.t.get x with|some o=>Nat.beq o.fam 0|none=>true<;>cases H<;>rfl
def u6(H:PH)(S:List Nat):PH :=
 match S with
 | []=>H
 |x::l=>cond (rY H (x::l)) (H.Ho (CC (x::l) H.t)) H
def u7(H:PH)(args:List Value):PH:=u6 H (Lo H (EO H (args.flatMap (DK 6))))
def j6(kl:List AM):Bool:=match kl with
 |k::_=>k.EV.all fun p=> !p.2.mine
 | []=>false
def looseAt(C:CB)(ks:T (List AM))(fr:PF)(H:PH)(o:Oper):PH :=
 match o.op with
 | .call c=>match G9 C fr H c with
  |some (g,_,_,args)=>match ks.get g with
   |some kl=>match Ix H args with
    |⟨n,t,ng,f⟩=>cond (j6 kl) (u7 ⟨n,t,ng,f⟩ args) ⟨n,t,ng,f⟩
   |none=>H
  |none=>H
 |_=>H
def Iw(C:CB)(ks:T (List AM))(s:DS):DS :=
 match s with
 |⟨fr,cs,H,d⟩=>match fr.todo with
  | .ops _ _ (o::_)::_=>⟨fr,cs,looseAt C ks fr H o,d⟩
  | .CH all _ (e::_)::_=>match all.toList[e]? with
   |some o=>⟨fr,cs,looseAt C ks fr H o,d⟩
   |none=>⟨fr,cs,H,d⟩
  |_=>⟨fr,cs,H,d⟩
section
variable{P:Program}{ty:TypeId}{Post:Value→World→Prop}{main:Bool}{E:Env}
theorem Reach.kill{fr:PF}{cs:List PF}{H H':PH}{d:Nat}(h: ∀ρ c w,HR ρ H c w→HR ρ H' c w)(hn:H'.next=H.next):Reach P ty Post main E ⟨fr,cs,H,d⟩ ⟨fr,cs,H',d⟩:=by
 refine⟨0,fun E hb n hd ρ c g w h'=>hd ρ c g w ?_⟩;cases h' with
 |mk hf hc D7 hp hH AO Dx h1 h2 h3 hk=>exact .mk hf hc D7 (fun b hb=>⟨(hp b hb).1,by show b<H'.next; rw[hn]; exact(hp b hb).2⟩) (h _ _ _ hH) AO Dx h1 h2 h3 hk
theorem Reach.dW{C:CB}(ks:T (List AM))(fr:PF)(cs:List PF)(H:PH)(d:Nat)(o:Oper):Reach P ty Post main E ⟨fr,cs,H,d⟩ ⟨fr,cs,looseAt C ks fr H o,d⟩:=by
 unfold looseAt;split
 ·split
  ·rename_i g fn body args _;split
   ·rename_i kl _;have h1:Reach P ty Post main E ⟨fr,cs,H,d⟩ ⟨fr,cs,Ix H args,d⟩:=Reach.kill (fun ρ c w h=>h.Ix _) (V0 _ _);refine h1.trans ?_;generalize Ix H args=H1;obtain⟨n,t,ng,f⟩:=H1;simp only
    cases j6 kl with
    |false=>exact Reach.refl _
    |true =>
     simp only[AG];unfold u7;generalize Lo ⟨n,t,ng,f⟩ (EO ⟨n,t,ng,f⟩ (args.flatMap (DK 6)))=S;cases S with
     |nil=>exact Reach.refl _
     |cons x l =>
      unfold u6;simp only
      cases e:rY ⟨n,t,ng,f⟩ (x::l)with
      |false=>exact Reach.refl _
      |true=>exact Reach.freeze (Qd e)
   ·exact Reach.refl _
  ·exact Reach.refl _
 ·exact Reach.refl _
theorem Reach.Iw{C:CB}(ks:T (List AM))(s:DS):Reach P ty Post main E s (Iw C ks s):=by
 obtain⟨fr,cs,H,d⟩:=s;unfold Gd.Iw;simp only
 split
 ·exact Reach.dW ks fr cs H d _
 ·split
  ·exact Reach.dW ks fr cs H d _
  ·exact Reach.refl _
 ·exact Reach.refl _
end
def wT(ty:DD)(pf:PF)(H:PH)(t:TypeId)(x:Operand):Option Value :=
 match AQ H.ng pf x with
 |some u=>match Pv u with
  |some a=>Ru ty H t a
  |none=>none
 |none=>none
def oa(P:Program)(ty:DD)(ng:Nat)(pf:PF)(o:Oper)(op:BinOp)(t:TypeId)(x y:Operand):Option Value :=
 match AQ ng pf x with
 |some (.int k m)=>match AQ ng pf y with
  |some (.int k' n)=>hO op t k m k' n
  |_=>aA P ty ng pf o op t x y
 |_=>aA P ty ng pf o op t x y
def oZ(ty:DD)(pf:PF)(ng:Nat)(t:TypeId)(x:Operand)(k:Nat):Option Value :=
 match AQ ng pf x with
 |some u=>match Pv u with
  |some a=>LL ty t k a
  |none=>none
 |none=>none
def Y3(ty:DD)(pf:PF)(ng:Nat)(t:TypeId)(x y:Operand):Option Value :=
 match AQ ng pf x with
 |some u=>match AQ ng pf y with
  |some (.int _ (.ofNat n))=>LK ty t u n
  |_=>none
 |none=>none
def fP(pf:PF)(ng:Nat)(x:Operand)(k:Nat):Option Value :=
 match AQ ng pf x with
 |some (.tuple vs)=>vs.toList[k]?
 |_=>none
def fLen(_P:Program)(ty:DD)(pf:PF)(H:PH)(_o:Oper)(c:Call):Option Value :=
 match c.args.toList with
 | [x]=>match c.argTypes.toList with
  | [t]=>match AQ H.ng pf x with
   |some u=>lW ty H t u
   |none=>none
  |_=>none
 |_=>none
def fNil(pf:PF)(ng:Nat)(x:Operand):Option Value :=
 match AQ ng pf x with
 |some (.pointer (some a))=>some (.pointer (some a))
 |some (.func (.func f) xs ys)=>some (.func (.func f) xs ys)
 |_=>none
def Wk(P:Program)(ty:DD)(pf:PF)(H:PH)(o:Oper):Option Value :=
 match o.op with
 | .move x=>AQ H.ng pf x
 | .load t x=>wT ty pf H t x
 | .binOp op t x y _=>oa P ty H.ng pf o op t x y
 | .indexAddr t x y=>Y3 ty pf H.ng t x y
 | .fieldAddr t x k=>oZ ty pf H.ng t x k
 | .extract x k=>fP pf H.ng x k
 | .nilCheck x=>fNil pf H.ng x
 | .call c=>match c.callee with
  | .builtin .len=>fLen P ty pf H o c
  |_=>none
 |_=>none
theorem jE(P:Program)(ty:DD)(ng:Nat)(pf:PF)(o:Oper)(op:BinOp)(t:TypeId)(x y:Operand):oa P ty ng pf o op t x y=aA P ty ng pf o op t x y:=by
 unfold oa;split
 ·rename_i k m ex;split
  ·rename_i k' n ey;unfold aA;rw[ex,ey]
  ·rfl
 ·rfl
theorem Lq{P:Program}{ty:DD}{pf:PF}{H:PH}{o:Oper}{v:Value}(h:Wk P ty pf H o=some v):Ke P ty pf H o=some v∧looksOnly o=true∧Ei o.op=false:=by
 obtain⟨dst,op,typ,pos,after,guard⟩:=o;unfold Wk at h;simp only at h;cases op with
 |binOp op t x y b=>exact⟨(jE ..).symm.trans h,rfl,rfl⟩
 |call c =>
  obtain⟨callee,AAe,EY⟩:=c;cases callee with
  |builtin b =>
   cases b with
   |len=>exact⟨h,rfl,rfl⟩
   |_=>cases h
  |_=>cases h
 |move x=>exact⟨h,rfl,rfl⟩
 |load t x=>exact⟨h,rfl,rfl⟩
 |indexAddr t x y=>exact⟨h,rfl,rfl⟩
 |fieldAddr t x k=>exact⟨h,rfl,rfl⟩
 |extract x k=>exact⟨h,rfl,rfl⟩
 |nilCheck x=>exact⟨h,rfl,rfl⟩
 |_=>cases h
def tn(pf:PF)(cs:List PF)(H:PH)(d:Nat)(tm:T Value)(k:List Ab):Option DS :=
 PF.casesOn pf fun fn _ nt _ ds m kd r=>some ⟨⟨fn,tm,nt,k,ds,m,kd,r⟩,cs,H,d⟩
def bB(pf:PF)(cs:List PF)(H:PH)(d:Nat)(k:List Ab):Option DS :=
 PF.casesOn pf fun fn tm nt _ ds m kd r=>some ⟨⟨fn,tm,nt,k,ds,m,kd,r⟩,cs,H,d⟩
theorem TP(pf:PF)(cs:List PF)(H:PH)(d:Nat)(tm:T Value)(k:List Ab):tn pf cs H d tm k=some ⟨pf.up tm k,cs,H,d⟩:=by cases pf; rfl
theorem dL(pf:PF)(cs:List PF)(H:PH)(d:Nat)(k:List Ab):bB pf cs H d k=some ⟨pf.go k,cs,H,d⟩:=by cases pf; rfl
def jB(pf:PF)(cs:List PF)(H:PH)(d:Nat)(all:Array Oper)(i:Nat)(o:Oper)(l:List Oper)(k:List Ab)(v:Value):Option DS :=
 match By pf o.dst v with
 |some tm=>tn pf cs H d tm (.ops all (i+1) l::k)
 |none=>none
def Qj(ty:DD)(pf:PF)(H:PH)(t:TypeId)(x y:Operand):Option PH :=
 match AQ H.ng pf x with
 |some (.pointer (some a))=>match AQ H.ng pf y with
  |some v=>match PY ty H t a v with
   |some H'=>some H'
   |none=>MM ty H t a v
  |none=>none
 |_=>none
def wR(pf:PF)(cs:List PF)(H H':PH)(d:Nat)(all:Array Oper)(i:Nat)(o:Oper)(l:List Oper)(k:List Ab):Option DS :=
 cond (Nat.ble H.next H'.next) (match By pf o.dst undef with
  |some tm=>tn pf cs H' d tm (.ops all (i+1) l::k)
  |none=>none) none
def PE(C:CB)(pf:PF)(cs:List PF)(H:PH)(d:Nat)(all:Array Oper)(i:Nat)(o:Oper)(l:List Oper)(k:List Ab):Option DS :=
 match o.guard with
 |some _=>FD C pf cs H d all i o l k
 |none=>match o.op with
  | .assign x=>match AQ H.ng pf x with
   |some v=>jB pf cs H d all i o l k v
   |none=>none
  | .store t x y=>match Qj C.ty pf H t x y with
   |some H'=>wR pf cs H H' d all i o l k
   |none=>none
  |_=>match Wk C.P C.ty pf H o with
   |some v=>jB pf cs H d all i o l k v
   |none=>FD C pf cs H d all i o l k
theorem Uh(C:CB)(pf:PF)(cs:List PF)(H:PH)(d:Nat)(all:Array Oper)(i:Nat)(o:Oper)(l:List Oper)(k:List Ab):PE C pf cs H d all i o l k=FD C pf cs H d all i o l k:=by
 unfold PE;split
 ·rfl
 ·rename_i hg;have hw:Aj pf all o=some true:=by unfold Aj; rw[hg]
  have go: ∀v,Ke C.P C.ty pf H o=some v→jB pf cs H d all i o l k v=FD C pf cs H d all i o l k:=fun v e=>by
   unfold FD jB;rw[hw];simp only[e,TP];rfl
  split
  ·rename_i x A5;have hR:Ke C.P C.ty pf H o=AQ H.ng pf x:=by unfold Ke; rw[A5]
   split
   ·rename_i v e;exact go v (by rw[hR]; exact e)
   ·rename_i e;unfold FD;rw[hw];simp only[hR,e];have hW:OQ C.P C.ty pf H o=none:=by unfold OQ; rw[A5]
    simp only[hW,A5]
  ·rename_i t x y A5;have hR:Ke C.P C.ty pf H o=none:=by unfold Ke; rw[A5]
   have hW:OQ C.P C.ty pf H o=(Qj C.ty pf H t x y).map fun H'=>(undef,H'):=by
    unfold OQ Qj;rw[A5];simp only
    cases AQ H.ng pf x with
    |none=>rfl
    |some u =>
     cases u with
     |pointer a =>
      cases a with
      |none=>rfl
      |some a =>
       cases AQ H.ng pf y with
       |none=>rfl
       |some v =>
        simp only
        cases PY C.ty H t a v with
        |some H'=>rfl
        |none =>
         simp only
         cases MM C.ty H t a v<;>rfl
     |_=>rfl
   split
   ·rename_i H' e;rw[e]at hW;unfold FD wR;rw[hw];simp only[hR,hW,Bc,TP];rfl
   ·rename_i e;rw[e]at hW;unfold FD;rw[hw];simp only[hR,hW,Option.map_none,A5]
  ·split
   ·rename_i v e;exact go v (Lq e).1
   ·rfl
def lM(v u:Value):Bool :=
 match v with
 | .int k x=>match u with
  | .int k' y=>Ft k k'&&rG x y
  |_=>false
 | .pointer (some a)=>match u with
  | .pointer (some b)=>addrEq a b
  |_=>false
 |v=>Rk 8 v u
theorem gh(v u:Value):lM v u=Rk 8 v u:=by
 unfold lM;split<;>rfl
def Pm(pf:PF)(dst:Option Tmp)(v:Value):Bool :=
 match dst with
 |none=>true
 |some t=>Nat.blt t pf.nt&&(match pf.tmps.get t with|some u=>lM v u|none=>false)
theorem VA(pf:PF)(dst:Option Tmp)(v:Value):Pm pf dst v=KQ pf dst v:=by
 unfold Pm KQ;cases dst with
 |none=>rfl
 |some t =>
  simp only
  cases pf.tmps.get t with
  |none=>rfl
  |some u=>simp only[gh]
def oV(C:CB)(pf:PF)(H:PH)(all:Array Oper)(i:Nat):Bool :=
 match all.toList[i]? with
 |none=>false
 |some o=>match o.guard with
  |some _=>iz C pf H all i
  |none=>match Wk C.P C.ty pf H o with
   |some v=>Pm pf o.dst v
   |none=>iz C pf H all i
theorem iy(C:CB)(pf:PF)(H:PH)(all:Array Oper)(i:Nat):oV C pf H all i=iz C pf H all i:=by
 unfold oV;split
 ·rename_i e;unfold iz;rw[e]
 ·rename_i o e;split
  ·rfl
  ·rename_i hg;have hw:Aj pf all o=some true:=by unfold Aj; rw[hg]
   split
   ·rename_i v ev;unfold iz;rw[e];simp only[hw,(Lq ev).1,VA]
   ·rfl
def Zt(C:CB)(pf:PF)(H:PH)(all:Array Oper)(fs:List Nat):Bool:=fs.all fun i=> !IQ all i&&oV C pf H all i
theorem Wh(C:CB)(pf:PF)(H:PH)(all:Array Oper)(fs:List Nat):Zt C pf H all fs=NR C pf H all fs:=by
 unfold Zt NR;simp only[iy]
def kX(pf:PF)(cs:List PF)(H:PH)(d:Nat)(all:Array Oper)(fs:List Nat)(e:Nat)(es:List Nat)(k:List Ab)(o:Oper)(v:Value):Option DS :=
 match By pf o.dst v with
 |some tm=>tn pf cs H d tm (.CH all (e::fs) es::k)
 |none=>none
def kW(C:CB)(pf:PF)(cs:List PF)(H:PH)(d:Nat)(all:Array Oper)(fs:List Nat)(e:Nat)(es:List Nat)(k:List Ab)(o:Oper)(H':PH):Option DS :=
 cond (Zt C pf H all fs&&chained (Region.before all) e es) (cond (Nat.ble H.next H'.next) (match By pf o.dst undef with
  |some tm=>tn pf cs H' d tm (.CH all (behind (Region.before all) e fs) es::k)
  |none=>none) none) none
def Zw(C:CB)(pf:PF)(cs:List PF)(H:PH)(d:Nat)(all:Array Oper)(fs:List Nat)(e:Nat)(es:List Nat)(k:List Ab)(o:Oper):Option DS :=
 match o.op with
 | .store t x y=>match Qj C.ty pf H t x y with
  |some H'=>kW C pf cs H d all fs e es k o H'
  |none=>EG C pf cs H d all fs (e::es) k
 |_=>match Wk C.P C.ty pf H o with
  |some v=>kX pf cs H d all fs e es k o v
  |none=>EG C pf cs H d all fs (e::es) k
def Mz(C:CB)(pf:PF)(cs:List PF)(H:PH)(d:Nat)(all:Array Oper)(fs es:List Nat)(k:List Ab):Option DS :=
 cond (Cr all) (match es with
  | []=>cond (Zt C pf H all fs) (bB pf cs H d k) none
  |e::es=>match all.toList[e]? with
   |none=>none
   |some o=>match o.guard with
    |some _=>EG C pf cs H d all fs (e::es) k
    |none=>Zw C pf cs H d all fs e es k o) none
theorem Sa(C:CB)(pf:PF)(cs:List PF)(H:PH)(d:Nat)(all:Array Oper)(fs es:List Nat)(k:List Ab):Mz C pf cs H d all fs es k=EG C pf cs H d all fs es k:=by
 unfold Mz;cases ht:Cr all with
 |false=>unfold EG; rw[ht]; rfl
 |true =>
  simp only[AG];cases es with
  |nil=>unfold EG; rw[ht,Wh,dL]; rfl
  |cons e es =>
   simp only
   split
   ·rename_i eo;unfold EG;rw[ht];simp only[AG,eo]
   ·rename_i o eo;split
    ·rfl
    ·rename_i hg;have hw:Aj pf all o=some true:=by unfold Aj; rw[hg]
     unfold Zw;split
     ·rename_i t x y A5;split
      ·rename_i H' eS;have hR:Ke C.P C.ty pf H o=none:=by unfold Ke; rw[A5]
       have hW:OQ C.P C.ty pf H o=some (undef,H'):=by
        unfold OQ;unfold Qj at eS;rw[A5];simp only
        split at eS
        ·rename_i a e1;simp only[e1];split at eS
         ·rename_i v e2;simp only[e2];split at eS
          ·rename_i H2 e3;cases eS;simp only[e3]
          ·rename_i e3;simp only[e3,eS]
         ·cases eS
        ·cases eS
       have hL:looksOnly o=false:=by unfold looksOnly; rw[A5]
       have hC:Ir C.ty pf H.ng o=none:=by unfold Ir; rw[A5]
       unfold EG kW;rw[ht];simp only[AG,eo,hw,hL,Av,hC,hR,hW,Wh,TP];rfl
      ·rfl
     ·split
      ·rename_i v ev;obtain⟨h1,h2,h3⟩:=Lq ev;unfold EG kX;rw[ht];simp only[AG,eo,hw,h2,h1,h3,Av,TP];rfl
      ·rfl
def kh(fr:PF)(cs:List PF)(H:PH)(d:Nat)(x y:Code)(k:List Ab)(v:Option Value)(Sc:Option DS):Option DS :=
 match v with
 |some (.bool b)=>bB fr cs H d (.code (if b then x else y)::k)
 |_=>Sc
def yK(fr:PF)(cs:List PF)(H:PH)(d:Nat)(ops:Array Oper)(b:Bool)(k:List Ab)(Sc:Option DS):Option DS :=
 match b with
 |false=>bB fr cs H d (.ops ops 0 ops.toList::k)
 |true=>Sc
def codeF(fr:PF)(cs:List PF)(H:PH)(d:Nat)(k:List Ab)(c:Code)(Sc:Option DS):Option DS :=
 match c with
 | .seq a b=>bB fr cs H d (.code a:: .code b::k)
 | .cond x y z=>kh fr cs H d y z k (AQ H.ng fr x) Sc
 | .block id c=>bB fr cs H d (.code c:: .inBlock id::k)
 | .loop c=>bB fr cs H d (.code c:: .inLoop c::k)
 | .skip=>bB fr cs H d k
 | .region _ ops b=>yK fr cs H d ops b k Sc
 |_=>Sc
def TG(r:Option DS)(Sc:Option DS):Option DS :=
 match r with
 |some s=>some s
 |none=>Sc
def Dt(C:CB)(xs:T XK)(s:DS):Option DS :=
 match s with
 |⟨fr,cs,H,d⟩=>match fr.mode with
  | .run=>match fr.todo with
   | .ops all i (o::l)::k=>cond (Ae fr.kind) (TG (PE C fr cs H d all i o l k) (Ex C xs ⟨fr,cs,H,d⟩)) (Ex C xs ⟨fr,cs,H,d⟩)
   | .ops _ _ []::k=>bB fr cs H d k
   | .CH all fs es::k=>cond (Ae fr.kind) (TG (Mz C fr cs H d all fs es k) (Ex C xs ⟨fr,cs,H,d⟩)) (Ex C xs ⟨fr,cs,H,d⟩)
   | .code c::k=>codeF fr cs H d k c (Ex C xs ⟨fr,cs,H,d⟩)
   | .inBlock _::k=>bB fr cs H d k
   | .inScope _::k=>bB fr cs H d k
   | .inLoop c::k=>bB fr cs H d (.code c:: .inLoop c::k)
   |_=>Ex C xs ⟨fr,cs,H,d⟩
  |_=>Ex C xs ⟨fr,cs,H,d⟩
theorem Qk(C:CB)(xs:T XK)(s:DS):Dt C xs s=Ex C xs s:=by
 obtain⟨⟨fn,tmps,nt,todo,ds,mode,kind,round⟩,cs,H,d⟩:=s;cases mode with
 |run =>
  cases todo with
  |nil=>rfl
  |cons it k =>
   cases it with
   |ops all i l =>
    cases l with
    |nil=>rfl
    |cons o l =>
     unfold Dt;simp only
     cases hk:Ae kind with
     |false=>rfl
     |true =>
      simp only[AG,Uh];unfold TG;split
      ·rename_i s' e;unfold Ex NU;simp only[hk,AG,e]
      ·rfl
   |CH all fs es =>
    unfold Dt;simp only
    cases hk:Ae kind with
    |false=>rfl
    |true =>
     simp only[AG,Sa];unfold TG;split
     ·rename_i s' e;unfold Ex NU Ql;simp only[hk,AG,e]
     ·rfl
   |code c =>
    cases c with
    |cond x y z =>
     unfold Dt codeF kh;simp only[dL];split
     ·rename_i b e;unfold Ex NU Ql M9;simp only[e]
     ·rfl
    |region n ops b=>cases b<;>rfl
    |_=>rfl
   |_=>rfl
 |_=>rfl
def ZE(μ:Nm)(l:List Value):List Value→Bool :=
 List.rec (motive:=fun _=>List Value→Bool) (fun l'=>match l' with| []=>true|_=>false) (fun e _ ih l'=>match l' with
  |e'::m=>gg μ e e'&&ih m
  | []=>false) l
theorem Rl{μ:Nm}: ∀{l l':List Value},ZE μ l l'=true→I8 μ l l'
 | [],[],_=> .nil
 | [],_::_,h=>by cases h
 |_::_,[],h=>by cases h
 |e::l,e'::m,h=>by
  have h:(gg μ e e'&&ZE μ l m)=true:=h;rw[AF]at h;exact .cons (O7 h.1) (Rl h.2)
def j4(μ:Nm)(l:List Nat):T Nat :=
 List.rec (motive:=fun _=>T Nat) .nil (fun x _ ih=>match μ x with
  |some y=>ih.set y x
  |none=>ih) l
def Wl(k:AM)(μ:Nm)(H:PH):List (Nat×Nat) :=
 List.rec (motive:=fun _=>List (Nat×Nat)) [] (fun p _ ih=>cond (Nat.beq p.2.fam 0) ih (match μ p.1 with
  |some y=>match H.t.get y with
   |some o=>(p.2.fam,o.fam)::ih
   |none=>ih
  |none=>ih)) k.EV
def bU(k:AM)(args:List Value)(H:PH):Option (Value×PH) :=
 cond (Nat.beq k.ng H.ng&&(Nat.ble k.n0 (2^T.deep)&&(Nat.ble k.n1 (2^T.deep)&&(Nat.ble args.length (2^T.deep)&&k.XT.all fun p=>Nat.blt p.1 (2^T.deep)))))
  (match trace args H k.XT .nil with
   |none=>none
   |some M=>cond (ZE (nm H.ng M) k.args args)
    (match Wl k (nm H.ng M) H with
     |ps=>match Ag ps .nil,Ag (ps.map fun p=>(p.2,p.1)) .nil with
      |Φ,E2=>cond (ps.all (fun p=>Nat.blt p.1 (2^T.deep)&&nF Φ E2 p.1)&&(names k).all (MF k (nm H.ng M) (fun f=>Φ.get f) (j4 (nm H.ng M) (names k)) E2 H))
       (match fw k (nm H.ng M) (fun f=>(J9 k Φ H).get f) H with
        |H'=>cond (UF k (nm H.ng M) Φ H H') (match Fq (G6 (nm H.ng M) (QM k) k.H0 H) 6 k.v with
         |some v=>some (v,H')
         |none=>none) none) none) none) none
def tryAll(args:List Value)(H:PH)(l:List AM):Option (Value×PH) :=
 List.rec (motive:=fun _=>Option (Value×PH)) none (fun k _ ih=>match bU k args H with
  |some r=>some r
  |none=>ih) l
def Jy(C:CB)(ks:T (List AM))(fr:PF)(cs:List PF)(H:PH)(all:Array Oper)(fs:List Nat)(e:Nat)(es:List Nat)(k:List Ab)(o:Oper):Option DS :=
 match o.op with
 | .call c=>match G9 C fr H c with
  |some (g,_fn,_body,args)=>match ks.get g with
   |some kl=>cond (Ae fr.kind&&(Cr all&&(NR C fr H all fs&&(chained (Region.before all) e es&& !(fs.any (Nat.beq e)))))) (match Aj fr all o with
    |some true=>match C.fns.get g with
     |some _=>match tryAll args H kl with
      |some (v,H')=>match By fr o.dst v with
       |some tm=>some ⟨fr.up tm (.CH all (behind (Region.before all) e (behind (Region.before all) e fs)) es::k),cs,H',0⟩
       |none=>none
      |none=>none
     |none=>none
    |_=>none) none
   |none=>none
  |none=>none
 |_=>none
def KT(C:CB)(ks:T (List AM))(s:DS):Option DS :=
 match s with
 |⟨fr,cs,H,d⟩=>cond (Nat.beq d 0) (match fr.mode with
  | .run=>match fr.todo with
   | .ops all i (o::l)::k=>match o.op with
    | .call c=>match G9 C fr H c with
     |some (g,_fn,_body,args)=>match ks.get g with
      |some kl=>cond (Ae fr.kind) (match Aj fr all o with
       |some true=>match C.fns.get g with
        |some _=>match tryAll args H kl with
         |some (v,H')=>match By fr o.dst v with
          |some tm=>some ⟨fr.up tm (.ops all (i+1) l::k),cs,H',0⟩
          |none=>none
         |none=>none
        |none=>none
       |_=>none) none
      |none=>none
     |none=>none
    |_=>none
   | .CH all fs (e::es)::k=>match all.toList[e]? with
    |some o=>Jy C ks fr cs H all fs e es k o
    |none=>none
   |_=>none
  |_=>none) none
def Ez(C:CB)(ty:TypeId)(Post:Value→World→Prop)(main:Bool)(ks:T (List AM)):Prop:= ∀g kl,ks.get g=some kl→∀k∈kl,k.g=g∧L3 C ty Post main k.K
section
variable{C:CB}{ty:TypeId}{Post:Value→World→Prop}{main:Bool}{E:Env}
theorem O8{k:AM}(hK:L3 C ty Post main k.K){fn:Func}{body:Code}(Gv:C.fns.get k.g=some fn)(RX:fn.body=some body){args:List Value}{H H':PH}{v:Value}(h:bU k args H=some (v,H'))
  {pc ln:PF} {cs:List PF} (hl:lE pc ln v) :
  Cm C.P ty Post main ⟨CN k.g fn body args .normal,pc::cs,H,0⟩ ⟨ln,cs,H',0⟩:=by
 unfold bU at h;cases e0:Nat.beq k.ng H.ng&&(Nat.ble k.n0 (2^T.deep)&&(Nat.ble k.n1 (2^T.deep)&&(Nat.ble args.length (2^T.deep)&&k.XT.all fun p=>Nat.blt p.1 (2^T.deep))))with
 |false=>rw[e0]at h; cases h
 |true =>
  rw[e0]at h;simp only[AG]at h;simp only[AF]at e0;obtain⟨a1,a2,a3,a4,a5⟩:=e0;have a1:=AJ a1;have a2:=AH a2;have a3:=AH a3;have a4:=AH a4;have a5: ∀p∈k.XT,p.1<2^T.deep:=fun p hp=>AH (AX.1 a5 p hp);split at h
  ·cases h
  ·rename_i M eM;cases e1:ZE (nm H.ng M) k.args args with
   |false=>rw[e1]at h; cases h
   |true =>
    rw[e1]at h;simp only[AG]at h;generalize EJ:Wl k (nm H.ng M) H=ps at h;generalize hΦ:(Ag ps .nil:T Nat)=Φ at h;generalize hΦi:(Ag (ps.map fun p=>(p.2,p.1)) .nil:T Nat)=E2 at h;cases e2:ps.all (fun p=>Nat.blt p.1 (2^T.deep)&&nF Φ E2 p.1)&&(names k).all (MF k (nm H.ng M) (fun f=>Φ.get f) (j4 (nm H.ng M) (names k)) E2 H)with
    |false=>rw[e2]at h; cases h
    |true =>
     rw[e2]at h;simp only[AG]at h;obtain⟨b1,b2⟩:=Bj.1 e2;cases e3:UF k (nm H.ng M) Φ H (fw k (nm H.ng M) (fun f=>(J9 k Φ H).get f) H)with
     |false=>rw[e3]at h; cases h
     |true =>
      rw[e3]at h;simp only[AG]at h;split at h
      ·rename_i v' e4;cases h;have hd: ∀x y,M.get x=some y→∃p∈k.XT,p.1=x:=fun x y hx=>by
        rcases Rn a5 eM x y hx with h|h
        ·exact h
        ·cases h
       have iU:=Xv (φ:=fun f=>Φ.get f) a1 hd b2;have hf: ∀f z,(fun f=>Φ.get f) f=some z→E2.get z=some f:=fun f z hz=>by
        have hz:Φ.get f=some z:=hz;have xQ:=hz;rw[← hΦ]at xQ;rcases Bx (fun p hp=>AH (Bj.1 (AX.1 b1 p hp)).1) xQ with hm|hm
        ·have:=(Bj.1 (AX.1 b1 _ hm)).2;unfold nF at this;simp only[hz]at this;split at this
         ·rename_i q eq;rw[eq,AJ this]
         ·cases this
        ·cases hm
       have hs:Seen (nm H.ng M) (fun f=>Φ.get f) k.K.H0 H:=Seen.of iU a2 a1 (fun g hg=>by
        unfold nm;have:Nat.blt g H.ng=true:=E4 hg;rw[this]; rfl) hf
       have WS:=gJ.of iU a2 a3 rfl e3;exact Cm.y6 hK Gv RX a4 (Rl e1) hs WS (M4 6 e4) (fun ρ c w hH ha=>O9 hH ha a5 eM fun x y hx=>by
        unfold nm at hx;cases e5:Nat.blt x H.ng with
        |true =>
         rw[e5]at hx;cases hx;obtain⟨B,hB,_⟩:=hH.EK x (AH e5);exact⟨B,hB⟩
        |false=>rw[e5]at hx; cases hx) hl
      ·cases h
theorem LA{args:List Value}{H:PH}{r:Value×PH}: ∀{l:List AM},tryAll args H l=some r→∃k∈l,bU k args H=some r
 | [],h=>by cases h
 |k::l,h=>by
  have h:(match bU k args H with
   |some r=>some r
   |none=>tryAll args H l)=some r:=h
  split at h
  ·rename_i r' e;cases h;exact⟨k,by simp,e⟩
  ·obtain⟨k',h1,h2⟩:=LA h;exact⟨k',by simp[h1],h2⟩
theorem P9(hC:An C){ks:T (List AM)}(Fw:Ez C ty Post main ks)(hb:main=true∨E.send≠none){fr:PF}{cs:List PF}{H:PH}{all:Array Oper}{fs:List Nat}{e:Nat}{es:List Nat}{k:List Ab}{o:Oper}(hm:fr.mode= .run)(ht:fr.todo= .CH all fs (e::es)::k)(eo:all.toList[e]? =some o){s':DS}(hp:Jy C ks fr cs H all fs e es k o=some s'):Cm C.P ty Post main ⟨fr,cs,H,0⟩ s':=by
 unfold Jy at hp;split at hp
 ·rename_i cl A5;split at hp
  ·rename_i g fn body args ec;split at hp
   ·rename_i kl ekl;cases e0:(Ae fr.kind&&(Cr all&&(NR C fr H all fs&&(chained (Region.before all) e es&& !(fs.any (Nat.beq e))))))with
    |false=>rw[e0]at hp; cases hp
    |true =>
     rw[e0]at hp;simp only[AF,BI]at e0;obtain⟨h1,h2,h3,h4,h5⟩:=e0;simp only[AG]at hp;obtain⟨f1,f2⟩:=Hk (cs:=cs) (d:=0) hC h3;split at hp
     ·rename_i hw;split at hp
      ·rename_i fn2 ef;split at hp
       ·rename_i v H' et;split at hp
        ·rename_i tm ep;cases hp;obtain⟨q1,q2,q3,q4⟩:=GY hC A5 ec;have:fn2=fn:=by
          have:=hC.fns _ _ ef;rw[q1]at this;exact(As this).symm
         subst this;obtain⟨k',CP,NL⟩:=LA et;obtain⟨e1,e2⟩:=Fw g kl ekl k' CP;subst e1;have xm:all[e]? =some o:=by rw[← CQ]; exact eo
         exact(Reach.Wn (E:=E) (s:=⟨fr,cs,H,0⟩) hb hm (fun e=>by rw[e]at h1; cases h1) ht h2 h4 f1 (fun i hi _=>f2 i hi) (fun DJ=>by
          have:=Cp.2 ⟨e,DJ,Nat.beq_refl e⟩;rw[h5]at this; cases this) xm (fun c e=>by rw[A5]at e; cases e) hw q1 q2 q3 fun ρ c fr w h1 h2 h3=>q4 ρ c fr w h1 h2 h3).alone.trans (O8 e2 ef q2 NL fun ρ IC pd v' Ff hv=>Br.N8 Ff rfl h2 xm (by exact ep) hv)
        ·cases hp
       ·cases hp
      ·cases hp
     ·cases hp
   ·cases hp
  ·cases hp
 ·cases hp
theorem RJ(hC:An C){ks:T (List AM)}(Fw:Ez C ty Post main ks)(hb:main=true∨E.send≠none){s s':DS}(hp:KT C ks s=some s'):Cm C.P ty Post main s s':=by
 obtain⟨fr,cs,H,d⟩:=s;unfold KT at hp;simp only at hp;cases hd:Nat.beq d 0 with
 |false=>rw[hd]at hp; cases hp
 |true =>
  rw[hd]at hp;have hd:=AJ hd;subst hd;simp only[AG]at hp;split at hp
  ·rename_i hm;split at hp
   ·rename_i all i o l k ht;split at hp
    ·rename_i cl eo;split at hp
     ·rename_i g fn body args ec;split at hp
      ·rename_i kl ekl;cases hk:Ae fr.kind with
       |false=>rw[hk]at hp; cases hp
       |true =>
        rw[hk]at hp;simp only[AG]at hp;split at hp
        ·rename_i hw;split at hp
         ·rename_i fn2 ef;split at hp
          ·rename_i v H' et;split at hp
           ·rename_i tm ep;cases hp;obtain⟨q1,q2,q3,q4⟩:=GY hC eo ec;have:fn2=fn:=by
             have:=hC.fns _ _ ef;rw[q1]at this;exact(As this).symm
            subst this;obtain⟨k',CP,NL⟩:=LA et;obtain⟨e1,e2⟩:=Fw g kl ekl k' CP;subst e1;exact(Reach.call (E:=E) (s:=⟨fr,cs,H,0⟩) hb hm ht (fun e=>by rw[e]at hk; cases hk) (fun c e=>by rw[eo]at e; cases e) hw q1 q2 q3 fun ρ c fr w h1 h2 h3=>q4 ρ c fr w h1 h2 h3).alone.trans (O8 e2 ef q2 NL fun ρ fr pd v' Ff hv=>by
             have:=(Ff.ops ht).1;subst this;exact Ff.put ht ep hv)
           ·cases hp
          ·cases hp
         ·cases hp
        ·cases hp
      ·cases hp
     ·cases hp
    ·cases hp
   ·rename_i all fs e es k ht;split at hp
    ·rename_i o eo;exact P9 (E:=E) hC Fw hb hm ht eo hp
    ·cases hp
   ·cases hp
  ·cases hp
def MY(C:CB)(xs:T XK)(ks:T (List AM))(s:DS):Option DS :=
 match KT C ks (Iw C ks s)with
 |some s'=>some s'
 |none=>Ex C xs s
def Lb(C:CB)(xs:T XK)(ks:T (List AM))(s:DS):Option DS :=
 match s with
 |⟨fr,cs,H,d⟩=>match fr.todo with
  | .ops _ _ (o::_)::_=>match o.op with
   | .call c=>match c.callee with
    | .builtin _=>Dt C xs ⟨fr,cs,H,d⟩
    |_=>MY C xs ks ⟨fr,cs,H,d⟩
   |_=>Dt C xs ⟨fr,cs,H,d⟩
  | .CH all _ (e::_)::_=>match all.toList[e]? with
   |some o=>match o.op with
    | .call c=>match c.callee with
     | .builtin _=>Dt C xs ⟨fr,cs,H,d⟩
     |_=>MY C xs ks ⟨fr,cs,H,d⟩
    |_=>Dt C xs ⟨fr,cs,H,d⟩
   |none=>Dt C xs ⟨fr,cs,H,d⟩
  |_=>Dt C xs ⟨fr,cs,H,d⟩
def KR(o:Oper):Prop:= ∀c,o.op= .call c→∃b,c.callee= .builtin b
theorem IA{C:CB}{fr:PF}{H:PH}{c:Call}(h: ∃b,c.callee= .builtin b):G9 C fr H c=none:=by
 obtain⟨b,hb⟩:=h;unfold G9;rw[hb]
theorem Ku{C:CB}{ks:T (List AM)}{fr:PF}{H:PH}{o:Oper}(h:KR o):looseAt C ks fr H o=H:=by
 unfold looseAt;split
 ·rename_i c A5;rw[IA (h c A5)]
 ·rfl
theorem QA{C:CB}{ks:T (List AM)}{fr:PF}{cs:List PF}{H:PH}{all:Array Oper}{fs:List Nat}{e:Nat}{es:List Nat}{k:List Ab}{o:Oper}(h:KR o):Jy C ks fr cs H all fs e es k o=none:=by
 unfold Jy;split
 ·rename_i c A5;rw[IA (h c A5)]
 ·rfl
theorem Lc{C:CB}{ks:T (List AM)}{fr:PF}{cs:List PF}{H:PH}{d:Nat}(h: ∀all i o l k,fr.todo= .ops all i (o::l)::k→KR o)(h': ∀all fs e es k o,fr.todo= .CH all fs (e::es)::k→all.toList[e]? =some o→KR o):KT C ks (Iw C ks ⟨fr,cs,H,d⟩)=none:=by
 have hl:Iw C ks ⟨fr,cs,H,d⟩=⟨fr,cs,H,d⟩:=by
  unfold Iw;simp only
  split
  ·rename_i ht;rw[Ku (h _ _ _ _ _ ht)]
  ·rename_i ht;split
   ·rename_i eo;rw[Ku (h' _ _ _ _ _ _ ht eo)]
   ·rfl
  ·rfl
 rw[hl];unfold KT;simp only
 cases Nat.beq d 0 with
 |false=>rfl
 |true =>
  simp only[AG];split
  ·split
   ·rename_i ht;split
    ·rename_i c A5;rw[IA (h _ _ _ _ _ ht c A5)]
    ·rfl
   ·rename_i ht;split
    ·rename_i eo;exact QA (h' _ _ _ _ _ _ ht eo)
    ·rfl
   ·rfl
  ·rfl
theorem NG(C:CB)(xs:T XK)(ks:T (List AM))(s:DS):Lb C xs ks s=MY C xs ks s:=by
 obtain⟨fr,cs,H,d⟩:=s;have no:KT C ks (Iw C ks ⟨fr,cs,H,d⟩)=none→Dt C xs ⟨fr,cs,H,d⟩=MY C xs ks ⟨fr,cs,H,d⟩:=fun h=>by
  unfold MY;rw[h,Qk]
 unfold Lb;simp only
 split
 ·rename_i all i o l k ht;have go:KR o→Dt C xs ⟨fr,cs,H,d⟩=MY C xs ks ⟨fr,cs,H,d⟩:=fun hp=>no (Lc (fun _ _ _ _ _ e=>by rw[ht]at e; cases e; exact hp) fun _ _ _ _ _ _ e=>by rw[ht]at e; cases e);split
  ·rename_i c A5;split
   ·rename_i b hb;exact go fun c' e=>by rw[A5]at e; cases e; exact⟨b,hb⟩
   ·rfl
  ·rename_i vU;exact go fun c e=>(vU c e).elim
 ·rename_i all fs e es k ht;have go:(∀o,all.toList[e]? =some o→KR o)→Dt C xs ⟨fr,cs,H,d⟩=MY C xs ks ⟨fr,cs,H,d⟩:=fun hp=>no (Lc (fun _ _ _ _ _ e=>by rw[ht]at e; cases e) fun _ _ _ _ _ o e eo=>by rw[ht]at e; cases e; exact hp o eo);split
  ·rename_i o eo;split
   ·rename_i c A5;split
    ·rename_i b hb;exact go fun o' e'=>by
      rw[eo]at e';cases e';exact fun c' e=>by rw[A5]at e; cases e; exact⟨b,hb⟩
    ·rfl
   ·rename_i vU;exact go fun o' e'=>by
     rw[eo]at e';cases e';exact fun c e=>(vU c e).elim
  ·rename_i eo;exact go fun o' e'=>by rw[eo]at e'; cases e'
 ·rename_i h1 h2;exact no (Lc (fun _ _ _ _ _ e=>(h1 _ _ _ _ _ e).elim) fun _ _ _ _ _ _ e=>(h2 _ _ _ _ _ e).elim)
def Hb(C:CB)(xs:T XK)(ks:T (List AM))(k:Nat):DS→DS :=
 Nat.rec (motive:=fun _=>DS→DS) (fun s=>match Lb C xs ks s with|some s'=>s'|none=>s) (fun _ ih s=>DS.casesOn (ih s) fun a b c d=>ih ⟨a,b,c,d⟩) k
def Qg(C:CB)(xs:T XK)(k:Nat):DS→DS :=
 Nat.rec (motive:=fun _=>DS→DS) (fun s=>match Dt C xs s with|some s'=>s'|none=>s) (fun _ ih s=>DS.casesOn (ih s) fun a b c d=>ih ⟨a,b,c,d⟩) k
theorem Jw(hC:An C){xs:T XK}(Au:C9 C.P xs){ks:T (List AM)}(Fw:Ez C ty Post main ks)(hb:main=true∨E.send≠none){s s':DS}(hp:MY C xs ks s=some s'):Cm C.P ty Post main s s':=by
 unfold MY at hp;split at hp
 ·rename_i e;cases hp;exact(Reach.Iw (E:=E) ks s).alone.trans (RJ hC Fw hb e)
 ·exact(I4 hC Au hb hp).alone
theorem FX(hC:An C){xs:T XK}(Au:C9 C.P xs){ks:T (List AM)}(Fw:Ez C ty Post main ks)(hb:main=true∨E.send≠none): ∀(k:Nat) (s:DS),Cm C.P ty Post main s (Hb C xs ks k s)
 |0,s=>by
  show Cm C.P ty Post main s (match Lb C xs ks s with|some s'=>s'|none=>s);rw[NG];split
  ·rename_i s' e;exact Jw hC Au Fw hb e
  ·exact .refl s
 |k+1,s=>(FX hC Au Fw hb k s).trans (FX hC Au Fw hb k (Hb C xs ks k s))
theorem Gr(hC:An C){xs:T XK}(Au:C9 C.P xs)(hb:main=true∨E.send≠none): ∀(k:Nat) (s:DS),Reach C.P ty Post main E s (Qg C xs k s)
 |0,s=>by
  show Reach C.P ty Post main E s (match Dt C xs s with|some s'=>s'|none=>s);rw[Qk];split
  ·rename_i s' e;exact I4 hC Au hb e
  ·exact .refl s
 |k+1,s=>(Gr hC Au hb k s).trans (Gr hC Au hb k (Qg C xs k s))
end
def L8(k:AM)(H:PH)(p:Nat×AI):Bool :=
 Nat.blt p.1 (2^T.deep)&&((match H.t.get p.1 with
  |some o'=>ND (FN k.n0 k.H1) some o' p.2
  |none=>false)&&cond (Nat.beq p.2.fam 0) true (cond p.2.FG (match k.H1.BF.get p.2.fam with
   |some l=>l.any (Nat.beq p.1)
   |none=>false) true))
def XR(k:AM)(H:PH):Bool :=
 Nat.beq k.n1 H.next&&(Nat.beq k.ng H.ng&&(Nat.ble H.ng k.n0&&(k.EV.all (L8 k H)&&(k.news.all (L8 k H)&&(List.range k.n0).all fun x=>match H.t.get x with
  |some _=>(match k.H1.t.get x with
   |some _=>true
   |none=>false)
  |none=>true))))
theorem Trim.of{k:AM}{H:PH}(h:XR k H=true):Trim k.n0 H k.H1:=by
 unfold XR at h;simp only[AF]at h;obtain⟨h1,h2,h3,h4,h5,h6⟩:=h;have h1:=AJ h1;have h2:=AJ h2;have h3:=AH h3;have one: ∀p,p∈k.EV∨p∈k.news→L8 k H p=true:=fun p hp=>by
  rcases hp with hp|hp
  ·exact AX.1 h4 p hp
  ·exact AX.1 h5 p hp
 have lt: ∀p,p∈k.EV∨p∈k.news→p.1<2^T.deep:=fun p hp=>AH (Bj.1 (one p hp)).1;have oe: ∀x o,k.H1.t.get x=some o→(x,o)∈k.EV∨(x,o)∈k.news:=fun x o ho=>by
  have ho:(Ag k.news (Ag k.EV .nil)).get x=some o:=ho;rcases Bx (fun p hp=>lt p (.inr hp)) ho with h|h
  ·exact .inr h
  ·rcases Bx (fun p hp=>lt p (.inl hp)) h with h|h
   ·exact .inl h
   ·cases h
 refine⟨h1,h2,h3,fun x o ho=> ?_,fun x o hx ho=> ?_,fun x o ho hf hk=> ?_⟩
 ·have:=one _ (oe x o ho);unfold L8 at this;simp only[AF]at this;obtain⟨_,g,_⟩:=this;split at g
  ·rename_i o' e;exact⟨o',e,KS g⟩
  ·cases g
 ·have:=AX.1 h6 x (Cq.2 hx);rw[ho]at this;simp only at this;split at this
  ·rename_i o' e;exact⟨o',e⟩
  ·cases this
 ·have:=one _ (oe x o ho);unfold L8 at this;simp only[AF]at this;obtain⟨_,_,g⟩:=this;cases e:Nat.beq o.fam 0 with
  |true=>exact absurd (AJ e) hf
  |false =>
   rw[e,hk]at g;simp only[Av,AG]at g;split at g
   ·rename_i l el;obtain⟨z,z1,z2⟩:=Cp.1 g;rw[AJ z2];exact⟨l,el,z1⟩
   ·cases g
def K6(C:CB)(k:AM)(s:DS):Bool :=
 match s with
 |⟨pf,cs,H,d⟩=>match cs with
  | []=>Nat.beq d 0&&(match pf.mode with
   | .returning=>match pf.defers with
    | []=>At pf.todo&&(match pf.kind with
     | .normal=>match C.fns.get pf.fn with
      |some fn=>match Db C.ty H pf.tmps fn.results.toList with
       |some vs=>gg (FN k.n0 k.H1) (HV vs) k.v&&XR k H
       |none=>false
      |none=>false
     |_=>false)
    |_=>false
   |_=>false)
  |_=>false
section
variable{C:CB}{ty:TypeId}{Post:Value→World→Prop}{main:Bool}{E:Env}
theorem L3.ju(hC:An C){k:AM}{fn:Func}{body:Code}(Gv:C.fns.get k.g=some fn)(RX:fn.body=some body){s:DS}(hr:Cm C.P ty Post main (k.K.start fn body) s)(h:K6 C k s=true):L3 C ty Post main k.K:=by
 obtain⟨pf,cs,H,d⟩:=s;unfold K6 at h;simp only at h;split at h
 ·rw[AF]at h;obtain⟨hd,h⟩:=h;have hd:=AJ hd;subst hd;split at h
  ·rename_i hm;split at h
   ·rename_i G2;rw[AF]at h;obtain⟨JG,h⟩:=h;split at h
    ·rename_i hk;split at h
     ·rename_i NS hf;split at h
      ·rename_i vs hv;rw[AF]at h;exact L3.of (K:=k.K) hC Gv RX hr hm G2 JG hk hf hv (Trim.of h.2) (O7 h.1)
      ·cases h
     ·cases h
    ·cases h
   ·cases h
  ·cases h
 ·cases h
theorem L3.make(hC:An C){xs:T XK}(Au:C9 C.P xs){ks:T (List AM)}(Fw:Ez C ty Post main ks)(hb:main=true∨E.send≠none){k:AM}{fn:Func}{body:Code}(Gv:C.fns.get k.g=some fn)(RX:fn.body=some body)(j:Nat)
  (h:K6 C k (Hb C xs ks j (k.K.start fn body))=true):L3 C ty Post main k.K :=
 L3.ju hC Gv RX (FX (E:=E) hC Au Fw hb j _) h
def Iz(C:CB)(xs:T XK)(ks:T (List AM))(k:AM)(j:Nat):Bool :=
 match C.fns.get k.g with
 |some fn=>match fn.body with
  |some body=>K6 C k (Hb C xs ks j (k.K.start fn body))
  |none=>true
 |none=>true
theorem L3.ki(hC:An C){xs:T XK}(Au:C9 C.P xs){ks:T (List AM)}(Fw:Ez C ty Post main ks)(hb:main=true∨E.send≠none){k:AM}(j:Nat)(h:Iz C xs ks k j=true):L3 C ty Post main k.K:=by
 intro fn body h1 h2;have K0:C.fns.get k.g=some fn:=h1;unfold Iz at h;rw[K0]at h;simp only[h2]at h;exact L3.make (E:=E) hC Au Fw hb K0 h2 j h fn body h1 h2
def jv(P:Program):CB:=⟨P,dK P,dN P⟩
theorem dO{P:Program}(h1:P.types.toList.all (Za P.types.size)=true)(h2:Nat.ble P.types.size (2^T.deep)=true)(h3:Nat.ble P.funcs.size (2^T.deep)=true)(h4:P.follows .mixedOrders=true):An (jv P) :=
 ⟨dJ h1 (AH h2),dM (AH h3),h4⟩
theorem Ey.of{P:Program}{f:FuncId}{fn:Func}(k:XK)(hf:P.funcs[f]? =some fn)(h1:(fn.name== "runtime.NumGoroutine")=false)(h2:fn.body.isNone=true)(h3:Extern.findNext fn=none)(h4:Extern.find fn=some k.Di):Ey P f k:=⟨⟨fn,hf,h1,h2,h3,h4⟩⟩
end
structure KV where
 n0:Nat
 n1:Nat
 v:Value
 news:List (Nat×AI)
 low:List Nat
structure Ih where
 lb:Nat
 lo:Nat
 mb:Nat
 base:List MapEntry
 keys:List (Option Value)
structure PG where
 ch:Nat
 cap:Nat
 kids:List KV
 wg:Option (Nat×Lz)
 closed:Bool
 AY:Option Ih
def W7(ρ:Ah)(R:Addr→Prop)(w:World)(B:RB):AI→Prop
 | .cells t size elem es _ _ _ _=>w.shape? B.blk=some (elem,B.size)∧B.es=es∧size≤B.size∧R ⟨B.blk,0,none⟩∧∀k,k<size→R ⟨B.blk,k,none⟩∧∃v v',t.get k=some v∧w.cell? ⟨B.blk,k,none⟩=some v'∧VR ρ v v'
 | .obj _=>False
def xE(kr:Ah)(ws:Nat)(kv:KV)(v':Value)(R:Addr→Prop)(w:World):Prop :=
 ∃ρ1:Ah,(∀x∈kv.low,∃B,kr x=some B∧ρ1 x=some B)∧VR ρ1 kv.v v'∧∀p∈kv.news,∃B,ρ1 p.1=some B∧ws≤B.blk∧W7 ρ1 R w B p.2
theorem W7.keep{ρ:Ah}{R:Addr→Prop}{w w':World}{B:RB}{o:AI}(h:W7 ρ R w B o)(hk: ∀a,R a→w'.cell? a=w.cell? a∧w'.shape? a.block=w.shape? a.block):W7 ρ R w' B o:=by
 cases o with
 |obj o=>exact h
 |cells t size elem es own fam ok D4 =>
  obtain⟨h1,h2,h3,h4,h5⟩:=h;refine⟨(hk _ h4).2.trans h1,h2,h3,h4,fun k Ac=> ?_⟩;obtain⟨g1,v,v',g2,g3,g4⟩:=h5 k Ac;exact⟨g1,v,v',g2,(hk _ g1).1.trans g3,g4⟩
def KW(kr:Ah)(ws:Nat)(kv:KV):Gw.Spec:=⟨xE kr ws kv,fun v R w w' hk h=>by
 obtain⟨ρ1,h1,h2,h3⟩:=h;exact⟨ρ1,h1,h2,fun p hp=>let⟨B,a,b,c⟩:=h3 p hp; ⟨B,a,b,c.keep hk⟩⟩⟩
inductive pD(ρ:Ah):Option (Nat×Lz)→Option (Nat×Lz)→Prop where
 |none:pD ρ none none
 |some {a:Nat} {B:RB} {φ:Lz} (h:ρ a=some B):pD ρ (some (a,φ)) (some (B.blk,φ))
def xD(sz:Nat)(ρ:Ah)(kv:KV)(sp:Gw.Spec):Prop:= ∃(kr:Ah) (ws:Nat),kr.le ρ∧sz≤ws∧sp=KW kr ws kv
def OY(e:MapEntry):Value×Value:=(e.key,e.val)
def C1(σ:Nat→Option Value):List (Option Value)→Nat→List (Value×Value)
 | [],_=> []
 |some k::ks,τ=>(match σ τ with|some v=> [(k,v)]|none=> [])++C1 σ ks (τ+1)
 |none::ks,τ=>C1 σ ks (τ+1)
def Me:TypeId:=110
def JO:Nat:=6
def Wq(mb:Nat)(base:List MapEntry)(keys:List (Option Value))(σ:Nat→Option Value)(w:World):Prop :=
 (∃es clk,w.heap[mb]? =some (.map es clk)∧(es.toList.map OY).Perm (base.map OY++C1 σ keys 0))∧∀τ k v,keys[τ]? =some (some k)→σ τ=some v→∃b,v= .pointer (some ⟨b,0,none⟩)∧w.shape? b=some (Me,JO)
inductive jY(ρ:Ah):Option Ih→Option Gm.Bo→Prop where
 |none:jY ρ none none
 |some {k:Ih} {C:Gm.Bo} {B B':RB} {EL:List MapEntry} (Hr:ρ k.lb=some B) (hl:C.lb=B.blk) (Mw:C.lo=k.lo) (OZ:ρ k.mb=some B') (hP: ∀b,C.P b↔b=B'.blk) (hJ:C.J=Wq B'.blk EL k.keys) (hb:SL ρ k.base EL):jY ρ (some k) (some C)
structure Q2(main:Bool)(sz:Nat)(ρ:Ah)(pg:PG)(G:CZ):Prop where
 ch: ∃B,ρ pg.ch=some B∧B.blk=G.ch
 cap:G.cap=pg.cap
 closed:G.closed=pg.closed
 wg:pD ρ pg.wg G.wg
 kids:LR (xD sz ρ) pg.kids G.kids
 AY:jY ρ pg.AY G.AY
 mn:pg.AY≠none→main=true
theorem pD.mono{ρ ρ':Ah}(hρ:ρ.le ρ'){a b:Option (Nat×Lz)}(h:pD ρ a b):pD ρ' a b:=by
 cases h with
 |none=>exact .none
 |some h=>exact .some (hρ _ _ h)
theorem jY.mono{ρ ρ':Ah}(hρ:ρ.le ρ'){a:Option Ih}{b:Option Gm.Bo}(h:jY ρ a b):jY ρ' a b:=by
 cases h with
 |none=>exact .none
 |some Hr hl Mw OZ hP hJ hb=>exact .some (hρ _ _ Hr) hl Mw (hρ _ _ OZ) hP hJ ⟨hb.1,fun k e he=>let⟨e',a,b,c⟩:=hb.2 k e he; ⟨e',a,b,c.mono hρ⟩⟩
theorem Q2.TJ{main:Bool}{sz:Nat}{ρ:Ah}{pg:PG}{G:CZ}(h:Q2 main sz ρ pg G)(hc:pg.AY=none):G.AY=none:=by
 have:=h.AY;rw[hc]at this;generalize G.AY=z at this;cases this; rfl
theorem Q2.mono{ρ ρ':Ah}(hρ:ρ.le ρ'){main:Bool}{sz:Nat}{pg:PG}{G:CZ}(h:Q2 main sz ρ pg G):Q2 main sz ρ' pg G :=
 ⟨let⟨B,a,b⟩:=h.ch; ⟨B,hρ _ _ a,b⟩,h.cap,h.closed,h.wg.mono hρ,h.kids.mono fun _ _ ⟨kr,ws,a,b⟩=>⟨kr,ws,a.trans hρ,b⟩,h.AY.mono hρ,h.mn⟩
structure av(ρ:Ah)(c:Ctx)(w:World)(k:Ih)(B B':RB):Prop where
 lb:ρ k.lb=some B
 mb:ρ k.mb=some B'
 ml: ¬c.M B.blk
 mm: ¬c.M B'.blk
 sl:w.shape? B.blk=some (C2,DL)
 sm:w.shape? B'.blk=none
 lt:B'.blk<w.heap.size
 ul: ∀x X,ρ x=some X→X.blk=B.blk→x=k.lb
 um: ∀x X,ρ x=some X→X.blk=B'.blk→x=k.mb
def Gc(ρ:Ah)(c:Ctx)(w:World)(pg:PG):Prop:= ∀k,pg.AY=some k→∃B B',av ρ c w k B B'
theorem Gc.none{ρ:Ah}{c:Ctx}{w:World}{pg:PG}(h:pg.AY=none):Gc ρ c w pg:=fun k hk=>by rw[h]at hk; cases hk
theorem av.tq{ρ:Ah}{c:Ctx}{w:World}{k:Ih}{B B':RB}(h:av ρ c w k B B'):B.blk<w.heap.size:=Ai h.sl
theorem av.step{ρ:Ah}{c c':Ctx}{w w':World}{k:Ih}{B B':RB}(h:av ρ c w k B B')(hM: ∀b,c'.M b→c.M b)(hs: ∀b,b<w.heap.size→w'.shape? b=w.shape? b)(hl:w.heap.size≤w'.heap.size):av ρ c' w' k B B' :=
 ⟨h.lb,h.mb,fun e=>h.ml (hM _ e),fun e=>h.mm (hM _ e),(hs _ h.tq).trans h.sl,(hs _ h.lt).trans h.sm,AV h.lt hl,h.ul,h.um⟩
theorem Gc.step{ρ:Ah}{c c':Ctx}{w w':World}{pg sW:PG}(h:Gc ρ c w pg)(hp:sW.AY=pg.AY)(hM: ∀b,c'.M b→c.M b)(hs: ∀b,b<w.heap.size→w'.shape? b=w.shape? b)(hl:w.heap.size≤w'.heap.size):Gc ρ c' w' sW:=fun k hk=>by
 obtain⟨B,B',hB⟩:=h k (hp ▸hk);exact⟨B,B',hB.step hM hs hl⟩
theorem Gc.rely{ρ:Ah}{c:Ctx}{w w':World}{pg:PG}(h:Gc ρ c w pg)(r:AS c w w'):Gc ρ c w' pg:=h.step rfl (fun _ h=>h) r.shape r.size
structure K7(E:Env)(ρ:Ah)(c:Ctx)(w:World)(pg:PG):Prop where
 ap:Gc ρ c w pg
 out: ∀k,pg.AY=some k→∃B B',ρ k.lb=some B∧ρ k.mb=some B'∧(E.aM B.blk∨E.aS≤B.blk)∧(E.aM B'.blk∨E.aS≤B'.blk)∧∀a,E.kR a→a.block≠B.blk
theorem K7.none{E:Env}{ρ:Ah}{c:Ctx}{w:World}{pg:PG}(h:pg.AY=none):K7 E ρ c w pg:=⟨.none h,fun k hk=>by rw[h]at hk; cases hk⟩
theorem K7.step{E:Env}{ρ:Ah}{c c':Ctx}{w w':World}{pg sW:PG}(h:K7 E ρ c w pg)(hp:sW.AY=pg.AY)(hM: ∀b,c'.M b→c.M b)(hs: ∀b,b<w.heap.size→w'.shape? b=w.shape? b)(hl:w.heap.size≤w'.heap.size):K7 E ρ c' w' sW:=⟨h.ap.step hp hM hs hl,fun k hk=>h.out k (hp ▸hk)⟩
theorem K7.rely{E:Env}{ρ:Ah}{c:Ctx}{w w':World}{pg:PG}(h:K7 E ρ c w pg)(r:AS c w w'):K7 E ρ c w' pg:=⟨h.ap.rely r,h.out⟩
inductive Ph where
 |out (l:List Nat)
 |AP (g:PG)
def PW(P:Program)(ty:TypeId)(Post:Value→World→Prop)(main:Bool)(E:Env)(n:Nat):Ph→DS→Prop
 | .out l,s=> ∀ρ c g w,(∀x∈l,∃B,ρ x=some B)→DR E ρ s c g w→W P ty Post main n c g w
 | .AP pg,s=> ∀ρ c g w G,Q2 main E.sz ρ pg G→K7 E ρ c w pg→DR {E with AP:=some G} ρ s c g w→W P ty Post main n c g w
section
variable{P:Program}{ty:TypeId}{Post:Value→World→Prop}{main:Bool}{n:Nat}{E:Env}{ρ ρ':Ah}{s s':DS}{c:Ctx}{g:Goroutine}{w:World}
theorem PW.lr:PW P ty Post main E n (.out []) s↔DW P ty Post main E n s :=
 ⟨fun h ρ c g w hd=>h ρ c g w (fun x hx=>by cases hx) hd,fun h ρ c g w _ hd=>h ρ c g w hd⟩
theorem PW.more{k:Nat}{ph:Ph}(h:PW P ty Post main E n ph s):PW P ty Post main E (n+k) ph s:=by
 have up: ∀{g:Goroutine} {c:Ctx} {w:World},W P ty Post main n c g w→W P ty Post main (n+k) c g w:=fun h=>by
  induction k with
  |zero=>exact h
  |succ k ih=>exact .more ih
 cases ph with
 |out l=>exact fun ρ c g w hl hd=>up (h ρ c g w hl hd)
 |AP pg=>exact fun ρ c g w G hG hA hd=>up (h ρ c g w G hG hA hd)
def Env.now(E:Env)(ρ:Ah)(c:Ctx)(w:World):Env:={E with kr:=ρ,aM:=c.M,aW:=w}
theorem DR.now(h:DR E ρ s c g w):DR (E.now ρ c w) ρ s c g w:=by
 cases h with
 |mk hf hc hn hp hH AO hd h1 h2 h3 hk=>exact .mk hf hc hn hp hH AO hd h1 h2 h3 ⟨hk.m,hk.r,hk.size,hk.shape,hk.tape,hk.os,hk.output,Ah.le.refl _,fun x B hx=> .inr ⟨x,B,hx,rfl⟩,hk.AL,⟨fun x B hx=> .inl ⟨x,B,hx,rfl,.inl rfl⟩,fun b hb=> .inl hb,AN _,fun _ _=>rfl⟩⟩
theorem DR.le{c₀:Ctx}{w₀:World}(h:DR (E.now ρ c₀ w₀) ρ' s c g w):ρ.le ρ':=by
 cases h with
 |mk hf hc hn hp hH AO hd h1 h2 h3 hk=>exact hk.Fq
theorem DR.then{c₀:Ctx}{w₀:World}(eO:Kept E ρ c₀ w₀)(h:DR (E.now ρ c₀ w₀) ρ' s c g w):DR E ρ' s c g w:=by
 cases h with
 |mk hf hc hn hp hH AO hd h1 h2 h3 hk =>
  have R7:Al E ρ' c w:=by
   exact Al.step eO.al hk.al.AAe (fun b hb=>hk.al.am b hb) (fun x B hx=>hk.al.al x B hx) hk.al.sh
  refine .mk hf hc hn hp hH AO hd h1 h2 h3 ⟨hk.m,hk.r,hk.size,hk.shape,hk.tape,hk.os,hk.output,eO.Fq.trans hk.Fq,fun x B hx=> ?_,hk.AL,R7⟩;rcases hk.fresh x B hx with h|⟨y,B',h1,h2⟩
  ·exact .inl h
  ·rcases eO.fresh y B' h1 with h'|⟨z,Z,h3,h4⟩
   ·exact .inl (h2 ▸h')
   ·exact .inr ⟨z,Z,h3,h4.trans h2⟩
theorem DR.kept(h:DR E ρ s c g w):Kept E ρ c w:=by
 cases h with
 |mk hf hc hn hp hH AO hd h1 h2 h3 hk=>exact hk
theorem PW.reach(hr:Reach P ty Post main E s s'): ∃k,∀E:Env,(main=true∨E.send≠none)→∀n ph,PW P ty Post main E n ph s'→PW P ty Post main E (n+k) ph s:=by
 obtain⟨k,hk⟩:=hr;refine⟨k,fun E hb n ph h=> ?_⟩;cases ph with
 |out l =>
  refine fun ρ c g w hl hd=>hk (E.now ρ c w) hb n (fun ρ' c' g' w' G3=> ?_) ρ c g w hd.now;exact h ρ' c' g' w' (fun x hx=>let⟨B,hB⟩:=hl x hx; ⟨B,G3.le _ _ hB⟩) (G3.then hd.kept)
 |AP pg =>
  refine fun ρ c g w G hG hA hd=>hk (Env.now {E with AP:=some G} ρ c w) hb n (fun ρ' c' g' w' G3=> ?_) ρ c g w hd.now;refine h ρ' c' g' w' G (hG.mono G3.le) ⟨fun k hk=> ?_,fun k hk=>let⟨B,B',a,b,c,d⟩:=hA.out k hk; ⟨B,B',G3.le _ _ a,G3.le _ _ b,c,d⟩⟩ (G3.then hd.kept);obtain⟨B,B',hB⟩:=hA.ap k hk;have kp:=G3.kept;have Bp:w.heap.size≤w'.heap.size:=kp.al.AAe;have Ac: ∀{b:Nat},b<w.heap.size→¬c.M b→¬c'.M b:=fun {b} h1 h2 h3=>by
   rcases kp.al.am b h3 with h|h
   ·exact h2 h
   ·have h:w.heap.size≤b:=h;omega
  have hun: ∀{b y:Nat},b<w.heap.size→¬c.M b→(∀x X,ρ x=some X→X.blk=b→x=y)→∀x X,ρ' x=some X→X.blk=b→x=y:=fun {b y} h1 h2 h3 x X hx e=>by
   rcases kp.al.al x X hx with⟨z,Z,hz,ez,EW⟩|h
   ·rcases EW with rfl|EW
    ·exact h3 z Z hz (ez.trans e)
    ·exact absurd (e ▸EW) h2
   ·have h:w.heap.size≤X.blk:=h;omega
  have ba: ∀b,b<w.heap.size→w'.shape? b=w.shape? b:=kp.al.sh;exact⟨B,B',G3.le _ _ hB.lb,G3.le _ _ hB.mb,Ac hB.tq hB.ml,Ac hB.lt hB.mm,(ba _ hB.tq).trans hB.sl,(ba _ hB.lt).trans hB.sm,AV hB.lt Bp,hun hB.tq hB.ml hB.ul,hun hB.lt hB.mm hB.um⟩
end
structure Dm where
 ph:Ph
 s:DS
def AU(P:Program)(ty:TypeId)(Post:Value→World→Prop)(main:Bool)(x:Dm)(l:List Dm):Prop :=
 ∃k,∀E:Env,(main=true∨E.send≠none)→jX main E→∀n,(∀y∈l,PW P ty Post main E n y.ph y.s)→PW P ty Post main E (n+k) x.ph x.s
section
variable{P:Program}{ty:TypeId}{Post:Value→World→Prop}{main:Bool}{E:Env}
theorem AU.P3{s s':DS}(ph:Ph)(h:Reach P ty Post main E s s'):AU P ty Post main ⟨ph,s⟩ [⟨ph,s'⟩]:=by
 obtain⟨k,hk⟩:=PW.reach h;exact⟨k,fun E hb _ n hl=>hk E hb n ph (hl ⟨ph,s'⟩ (by simp))⟩
theorem AU.refl(x:Dm):AU P ty Post main x [x]:=⟨0,fun _ _ _ _ hl=>hl x (by simp)⟩
theorem AU.mono{x:Dm}{l l':List Dm}(h:AU P ty Post main x l)(hl: ∀y∈l,y∈l'):AU P ty Post main x l':=by
 obtain⟨k,hk⟩:=h;exact⟨k,fun E hb hg n hy=>hk E hb hg n fun y HM=>hy y (hl y HM)⟩
theorem AU.trans{x:Dm}{l l':List Dm}(h:AU P ty Post main x l)(h': ∀y∈l,AU P ty Post main y l'):AU P ty Post main x l':=by
 obtain⟨k,hk⟩:=h;have: ∃m,∀y∈l,∀E:Env,(main=true∨E.send≠none)→jX main E→∀n,(∀z∈l',PW P ty Post main E n z.ph z.s)→PW P ty Post main E (n+m) y.ph y.s:=by
  clear hk;induction l with
  |nil=>exact⟨0,fun y hy=>by cases hy⟩
  |cons a l ih =>
   obtain⟨m,hm⟩:=ih fun y hy=>h' y (by simp[hy]);obtain⟨m',Zn⟩:=h' a (by simp);refine⟨m+m',fun y hy E hb hg n hl=> ?_⟩;rcases AZ.1 hy with rfl|hy
   ·rw[Nat.add_comm m m', ← Bf]; exact(Zn E hb hg n hl).more
   ·rw[← Bf]; exact(hm y hy E hb hg n hl).more
 obtain⟨m,hm⟩:=this;refine⟨m+k,fun E hb hg n hl=> ?_⟩;rw[← Bf];exact hk E hb hg (n+m) fun y hy=>hm y hy E hb hg n hl
end
open Go.ConcR (KK wgBlock WgAt stA smA)
section
variable{P:Program}{ty:DD}{ρ:Ah}{pf:PF}{fr:Frame}{H:PH}{c:Ctx}{w:World}
def M8(ty:DD)(H:PH)(t:TypeId)(u:Value):Option PH :=
 match u with
 | .int _ (.ofNat n)=>match ty.get t with
  |some (_,.chan _ elem)=>match ty.get elem with
   |some (ei,_)=>cond (Nat.ble n 1000&&Nat.ble (ei.bytes*n) 1000000) (Fs H (.chan n #[] false 0 0 false)) none
   |none=>none
  |_=>none
 |_=>none
theorem QD(A7:A8 P ty){o:Oper}(h:CJ H.ng ρ pf fr o)(hH:HR ρ H c w)(AO:CK c w){t:TypeId}{x:Operand}(ho:o.op= .makeChan t x){u:Value}(hx:AQ H.ng pf x=some u){H':PH}(hp:M8 ty H t u=some H') :
  Sound P ρ H.next (.chan (some H.next)) H' c w (execOp fr.eval o):=by
 have hu:=h x (by simp[ho,Op.operands]) _ hx;unfold M8 at hp;split at hp
 ·rename_i k n;split at hp
  ·rename_i ti dir elem e1;split at hp
   ·rename_i ei ed e2;cases e3:Nat.ble n 1000&&Nat.ble (ei.bytes*n) 1000000 with
    |false=>rw[e3]at hp; cases hp
    |true =>
     rw[e3]at hp;simp only[AG]at hp;obtain⟨g1,g2⟩:=Bj.1 e3;have g1:=AH g1;have g2:=AH g2;refine Sound.newObj hH AO hp (o':= .chan n #[] false 0 0 false) (fun ρ' _=> .chan n) (v':= .chan (some w.heap.size)) (.chan (B:=⟨w.heap.size,0,0⟩) (Cy _ _ _)) ?_;unfold execOp;rw[ho];show((Instr.makeChan t (fr.eval x)).bind fun r=>Sem.pure (Next.value r)).runT P w #[]=_;generalize fr.eval x=u' at hu;cases hu;have hm:(Instr.makeChan t (.int k (.ofNat n))).runT P w #[]=(.ok (.chan (some w.heap.size)) (World.grow w (.chan n #[] false 0 0 false)),#[]):=by
      unfold Instr.makeChan;refine(AB (s:=asInt (.int k (.ofNat n))) (a:=(.ofNat n:Int)) (w':=w) (es':= #[]) rfl).trans ?_;refine(AB (Aa (A7 t _ e1).2)).trans ?_;show((typeInfo elem).bind fun i=>_).runT P w #[]=_;refine(AB (B6 (A7 elem _ e2).1)).trans ?_;have hc: ¬((Int.ofNat n)<0∨(Int.ofNat n)>IntKind.i64.max∨(ei.bytes:Int)*(Int.ofNat n)>2^48-112):=by
       have h1:=Int.ofNat_le.2 g2;have h2:IntKind.i64.max=9223372036854775807:=by decide
       have h5:(2:Int)^48-112=281474976710544:=by decide
       have h3:(ei.bytes:Int)*(Int.ofNat n)=((ei.bytes*n:Nat):Int):=(Int.natCast_mul ei.bytes n).symm;rw[h2,h3,h5];have h4:(Int.ofNat n)=((n:Nat):Int):=rfl;rw[h4];omega
      simp only[hc,BS];rfl
     exact(AB hm).trans rfl
   ·cases hp
  ·cases hp
 ·cases hp
end
section
variable{P:Program}{ty:TypeId}{Post:Value→World→Prop}{main:Bool}{E:Env}
theorem AU.see{l:List Nat}{s:DS}{all:Array Oper}{i:Nat}{os:List Oper}{k:List Ab}(ht:s.fr.todo= .ops all i os::k){t:Tmp}{x:Nat}(hv:s.fr.tmps.get t=some (.chan (some x))∨∃off,s.fr.tmps.get t=some (.pointer (some ⟨x,off,none⟩))) :
  AU P ty Post main ⟨.out l,s⟩ [⟨.out (x::l),s⟩]:=by
 refine⟨0,fun E hb hg n hl ρ c g w JH hd=> ?_⟩;refine hl ⟨.out (x::l),s⟩ (by simp) ρ c g w (fun y hy=> ?_) hd;rcases AZ.1 hy with rfl|hy
 ·cases hd with
  |mk hf hc hn hp hH AO hd h1 h2 h3 hk =>
   obtain⟨_,_,A9⟩:=hf.plain (fun _ _ _ _ e=>by rw[ht]at e; cases e) (fun _ _ _ _ _ e=>by rw[ht]at e; cases e);rcases hv with hv|⟨off,hv⟩
   ·obtain⟨v',_,h⟩:=A9 _ _ hv;cases h with
    |chan h=>exact⟨_,h⟩
   ·obtain⟨v',_,h⟩:=A9 _ _ hv;cases h with
    |ptr h=>exact⟨_,h⟩
 ·exact JH y hy
def T.del{α:Type}(t:T α):Nat→T α :=
 T.rec (motive:=fun _=>Nat→T α) (fun _=> .nil)
  (fun l v r dm dk n=>cond (Nat.beq n 0) (.node l none r) (cond (Nat.beq (n%2) 1) (.node (dm (n/2)) v r) (.node l v (dk (n/2-1))))) t
theorem T.fX{α:Type}(l r:T α)(v:Option α)(n:Nat):T.del (T.node l v r) n=if n=0 then T.node l none r else if n%2=1 then T.node (T.del l (n/2)) v r else T.node l v (T.del r (n/2-1)):=by
 show cond (Nat.beq n 0) (T.node l none r) (cond (Nat.beq (n%2) 1) (T.node (T.del l (n/2)) v r) (T.node l v (T.del r (n/2-1))))=_;have e: ∀a b:Nat,Nat.beq a b=decide (a=b):=fun a b=>by
  cases h:Nat.beq a b
  ·exact(decide_eq_false (Bl h)).symm
  ·exact(decide_eq_true (AJ h)).symm
 rw[e,e];by_cases h:n=0
 ·simp[h]
 ·by_cases h':n%2=1<;>simp[h,h']
theorem T.Ds{α:Type}: ∀(t:T α) (n m:Nat),(T.del t n).get m=if m=n then none else t.get m
 | .nil,n,m=>by
  show(T.nil:T α).get m=_;rw[T.get_nil]; simp
 | .node l v r,n,m=>by
  rw[T.fX];by_cases e:n=0
  ·subst e;rw[AD rfl,T.Ci,T.Ci];by_cases e:m=0
   ·simp[e]
   ·simp[e]
  ·rw[AA e];by_cases e1:n%2=1
   ·rw[AD e1,T.Ci,T.Ci,T.Ds l (n/2) (m/2)];by_cases e2:m=0
    ·simp[e2,Ne.symm e]
    ·rw[AA e2,AA e2];by_cases e3:m%2=1
     ·rw[AD e3,AD e3];by_cases e4:m=n
      ·simp[e4]
      ·rw[AA (by omega),AA e4]
     ·rw[AA e3,AA e3,AA (by intro x; subst x; exact e3 e1)]
   ·rw[AA e1,T.Ci,T.Ci,T.Ds r (n/2-1) (m/2-1)];by_cases e2:m=0
    ·simp[e2,Ne.symm e]
    ·rw[AA e2,AA e2];by_cases e3:m%2=1
     ·rw[AD e3,AD e3,AA (by intro x; subst x; exact e1 e3)]
     ·rw[AA e3,AA e3];by_cases e4:m=n
      ·simp[e4]
      ·rw[AA (by omega),AA e4]
theorem HR.oQ{ρ:Ah}{H:PH}{c:Ctx}{w:World}(h:HR ρ H c w){xs:List Nat}{t':T AI}(ht: ∀y,t'.get y=if y∈xs then none else H.t.get y)(hx: ∀x∈xs,∃o,H.t.get x=some o∧o.fam=0∧o.mine=true){M':Nat→Prop}
  (hM: ∀b,c.M b→(∀x∈xs,∀B,ρ x=some B→B.blk≠b)→M' b):HR ρ (H.Ho t') {c with M:=M'} w:=by
 obtain⟨nx,t,ng,BF⟩:=H;have sep: ∀y B o,ρ y=some B→t.get y=some o→y∉xs→∀x∈xs,∀X,ρ x=some X→X.blk≠B.blk:=fun y B o hy ho BK x hxm X hX e=>by
  obtain⟨ox,a1,a2,a3⟩:=hx x hxm;rcases h.inj x y X B hX hy (fun e=>BK (e ▸hxm)) e with⟨o1,o2,p1,p2,p3,p4⟩|⟨q1,_⟩
  ·rw[a1]at p1; cases p1;exact p3 a2
  ·have:=q1 ox a1;rw[a3]at this; cases this
 refine⟨h.cap,h.Dk,fun y B o hy ho=> ?_,fun y y' B B' hy HM BK Bn=> ?_,h.EK,fun y B o hy ho hf hk=> ?_⟩
 ·have ho:t'.get y=some o:=ho;rw[ht]at ho;by_cases e:y∈xs
  ·rw[AD e]at ho; cases ho
  ·rw[AA e]at ho;have hs:=sep y B o hy ho e;have hr:=h.rel y B o hy ho;cases hr with
   |cells R5 he hf hle Ax hR AO=>exact .cells R5 he hf hle (fun e=>⟨hM _ (Ax e).1 hs,(Ax e).2⟩) hR AO
   |obj hw EW hm=>exact .obj hw EW (hM _ hm hs)
 ·rcases h.inj y y' B B' hy HM BK Bn with⟨o1,o2,p1,p2,p3,p4⟩|⟨q1,q2⟩
  ·have bA: ∀{z:Nat} {o:AI},t.get z=some o→o.fam≠0→z∉xs:=fun hz hf hm=>by
    obtain⟨ox,a1,a2,_⟩:=hx _ hm;have a1:t.get _=some ox:=a1;rw[hz]at a1; cases a1;exact hf a2
   exact .inl ⟨o1,o2,(ht y).trans ((AA (bA p1 p3)).trans p1),(ht y').trans ((AA (bA p2 (p4 ▸p3))).trans p2),p3,p4⟩
  ·have st: ∀{z:Nat},PH.still ⟨nx,t,ng,BF⟩ z→∀o,t'.get z=some o→o.mine=false:=fun {z} hz o ho=>by
    rw[ht]at ho;by_cases e:z∈xs
    ·rw[AD e]at ho; cases ho
    ·rw[AA e]at ho; exact hz o ho
   exact .inr ⟨st q1,st q2⟩
 ·have ho:t'.get y=some o:=ho;rw[ht]at ho;by_cases e:y∈xs
  ·rw[AD e]at ho; cases ho
  ·rw[AA e]at ho;exact h.mem y B o hy ho hf hk
end
section
variable{P:Program}{E7:DD}{ty:TypeId}{Post:Value→World→Prop}{main:Bool}
theorem AU.NF{s s':DS}(l:List Nat)(h:Cm P ty Post main s s'):AU P ty Post main ⟨.out l,s⟩ [⟨.out l,s'⟩]:=by
 obtain⟨k,hk⟩:=h;refine⟨k,fun E hb hg n hl ρ c g w JH hd=> ?_⟩;refine hk (E.now ρ c w) hb hg n (fun ρ' c' g' w' G3=> ?_) ρ c g w hd.now;exact hl ⟨.out l,s'⟩ (by simp) ρ' c' g' w' (fun x hx=>let⟨B,hB⟩:=JH x hx; ⟨B,G3.le _ _ hB⟩) (G3.then hd.kept)
theorem Rq(A7:A8 P E7){fr:Frame}{o:Oper}{t:TypeId}(ho:o.op= .alloc t){i:TypeInfo}{d:TypeDesc}(hi:E7.get t=some (i,d)){z:Value}(hz:i.zero=some z)(w:World) :
  (execOp fr.eval o).runT P w #[]=(.ok (.value (.pointer (some ⟨w.heap.size,0,none⟩))) (World.grow w (.cells z.cells t)),#[]):=by
 have eR:=(A7 t _ hi).1;unfold execOp;rw[ho];have vB:(zeroValue t).runT P w #[]=(.ok z w,#[]):=by
  show((typeInfo t).bind fun i=>match i.zero with|some v=>pure v|none=>unsupported (.resourceLimit "a value of more than 2^22 cells")).runT P w #[]=_;rw[AB (B6 eR),hz];rfl
 show(((zeroValue t).bind fun z=>(newVar t z).bind fun a=>Sem.pure (Value.pointer (some a))).bind fun r=>Sem.pure (Next.value r)).runT P w #[]=_;rw[AB (s:=(zeroValue t).bind fun z=>(newVar t z).bind fun a=>Sem.pure (Value.pointer (some a))) (a:= .pointer (some ⟨w.heap.size,0,none⟩)) (w':=World.grow w (.cells z.cells t)) (es':= #[])]
 ·rfl
 ·rw[AB vB]; rfl
theorem HR.stub{ρ:Ah}{H:PH}{c:Ctx}{w:World}(h:HR ρ H c w){y:Nat}{B:RB}(hy:ρ y=some B)(hn:H.t.get y=none){elem:TypeId}(hs:w.shape? B.blk=some (elem,B.size)){t':T AI}(ht: ∀x,t'.get x=if x=y then some (.cells .nil B.size elem B.es false 0 false false)else H.t.get x):HR ρ (H.Ho t') c w:=by
 obtain⟨nx,t,ng,BF⟩:=H;refine⟨h.cap,h.Dk,fun x X o hx ho=> ?_,fun x x' X X' e1 e2 BK Bn=> ?_,h.EK,fun x X o hx ho hf hk=> ?_⟩
 ·have ho:t'.get x=some o:=ho;rw[ht]at ho;by_cases e:x=y
  ·rw[AD e]at ho; cases ho;rw[e,hy]at hx; cases hx;exact .cells hs rfl (fun _=>rfl) (AN _) (fun e=>by cases e) (fun _ e=>by cases e) (fun e=>by cases e)
  ·rw[AA e]at ho;exact h.rel x X o hx ho
 ·rcases h.inj x x' X X' e1 e2 BK Bn with⟨o1,o2,p1,p2,p3,p4⟩|⟨q1,q2⟩
  ·have bA: ∀{z:Nat} {o:AI},t.get z=some o→z≠y:=fun hz e=>by
    have hn:t.get y=none:=hn;rw[e,hn]at hz; cases hz
   exact .inl ⟨o1,o2,(ht x).trans ((AA (bA p1)).trans p1),(ht x').trans ((AA (bA p2)).trans p2),p3,p4⟩
  ·have st: ∀{z:Nat},PH.still ⟨nx,t,ng,BF⟩ z→∀o,t'.get z=some o→o.mine=false:=fun {z} hz o ho=>by
    rw[ht]at ho;by_cases e:z=y
    ·rw[AD e]at ho; cases ho; rfl
    ·rw[AA e]at ho; exact hz o ho
   exact .inr ⟨st q1,st q2⟩
 ·have ho:t'.get x=some o:=ho;rw[ht]at ho;by_cases e:x=y
  ·rw[AD e]at ho; cases ho;exact absurd rfl hf
  ·rw[AA e]at ho;exact h.mem x X o hx ho hf hk
def cN(H:PH)(ch:Nat)(ty:TypeId):PH:=PH.casesOn H fun n t ng f=>⟨n+1,(T.del (T.del t ch) n).set n (.cells .nil 2 ty 0 false 0 false false),ng,f⟩
theorem AU.jP(A7:A8 P E7){L:List Nat}{s:DS}(hm:s.fr.mode= .run){all:Array Oper}{i:Nat}{o:Oper}{l:List Oper}{k:List Ab}(ht:s.fr.todo= .ops all i (o::l)::k)(hk:s.fr.kind≠ .early)(hw:Aj s.fr all o=some true)
  (A5:o.op= .alloc ty) {inf:TypeInfo} {d:TypeDesc} (hi:E7.get ty=some (inf,d)) {z:Value} (hz:inf.zero=some z) (rH:z.cells= #[.int .u64 0,.int .u32 0]) {tm:T Value} (hp:By s.fr o.dst (.pointer (some ⟨s.H.next,0,none⟩))=some tm)
  {ch cap:Nat} (Hh:ch∈L) (ho:s.H.t.get ch=some (.obj (.chan cap #[] false 0 0 false))) (A2:0<cap) (bG:s.H.next+1≤2^T.deep) :
  AU P ty Post main ⟨.out L,s⟩ [⟨.AP ⟨ch,cap,[],some (s.H.next,.idle 0),false,none⟩,⟨{s.fr with tmps:=tm,todo:= .ops all (i+1) l::k},s.cs,cN s.H ch ty,s.d⟩⟩]:=by
 refine⟨1,fun E hb hg n hl ρ c g w JH hd=> ?_⟩;replace hd:DR E ρ s c g w:=hd;cases hd with
 |mk hf hc D7 ET hH AO Dx h1 h2 h3 Bv =>
  rename_i fr cs pd pds;refine W.GA rfl (hb.imp id fun e=>by rw[h1]; exact e) fun w₁ r=> ?_;obtain⟨Dj,Ck,A9,rest,m,e,E0,Ky⟩:=hf.ops ht;have DN:=hH.rely r;have BY:=AO.rely r;have Bi:=Bv.rely r;have AT:=Rq (P:=P) A7 (fr:=fr) A5 hi hz w₁;have IU:seen P fr.fn #[]= #[]:=by rw[seen_def]; rfl
  have Aq:=Cv (P:=P) (main:=main) (cs:=cs++E.base) ((Br.run hf) hm) e Ck (BE (fun _ _ t v _ _ hv=>A9 t v hv) hw) (by rw[hf.kind]; exact hk) (fun c hc=>by rw[A5]at hc; cases hc) (.inl AT);rw[IU]at Aq;refine⟨_,_,_,(Ctx.own c w₁.heap.size).M,c.R,Aq,rfl,Ca.grow BY _,BQ.nil _ _ _, ?_⟩;obtain⟨BC,WW⟩:=JH ch Hh;obtain⟨oc',hoc,hoR,hMC⟩:=DN.obj WW ho;cases hoR;have eW:=DN.Dk ch BC WW
  let B:RB:=⟨w₁.heap.size,2,0⟩
  have hle:ρ.le (ρ.put s.H.next B):=Ah.Ed DN.free;have QT:ρ.put s.H.next B s.H.next=some B:=Cy _ _ _;have Dq:z.cells.toList= [.int .u64 0,.int .u32 0]:=by rw[rH]
  have IV:=DN.P5 (l:= [.int .u64 0,.int .u32 0]) (l':= [.int .u64 0,.int .u32 0]) (.cons (.int _ _) (.cons (.int _ _) .nil)) bG (by decide) ty 0;have eU:World.grow w₁ (.cells z.cells ty)=World.grow w₁ (.cells ([.int .u64 0,.int .u32 0]:List Value).toArray ty):=by rw[rH]
  have Mv:s.H.next<2^T.deep:=by omega
  have BK:ch≠s.H.next:=by have:=eW.1; omega
  have wA:BC.blk≠w₁.heap.size:=by have:=eW.2; omega
  rw[eU];generalize XA:World.grow w₁ (.cells ([.int .u64 0,.int .u32 0]:List Value).toArray ty)=w₂ at IV;have aR: ∀b,b<w₁.heap.size→w₂.heap[b]? =w₁.heap[b]? :=fun b hb=>by rw[← XA]; exact FZ _ _ hb
  have iQ:w₂.heap[w₁.heap.size]? =some (.cells #[.int .u64 0,.int .u32 0] ty):=by rw[← XA]; exact C7 _ _
  have Bp:w₂.heap.size=w₁.heap.size+1:=by rw[← XA]; simp[World.grow]
  refine W.found (ch:=BC.blk) (cap:=cap) (wg:=some w₁.heap.size) (hb.imp id fun e=>by show c.send≠none; rw[h1]; exact e) (by show c.AP=none; rw[h3]; exact hg.1) (.inl hMC) (by rw[aR _ eW.2]; exact hoc) (fun a ha=> ?_) (by simp[A2]) ?_
  ·cases ha;exact⟨.inr rfl,fun e=>wA e.symm,iQ⟩
  let G:CZ:={ch:=BC.blk,cap:=cap,kids:= [],wg:=(some w₁.heap.size).map fun a=>(a,.idle 0),closed:=false}
  have BO:=(hf.mono hle).put ht hp (v':= .pointer (some ⟨w₁.heap.size,0,none⟩)) (KM _ _ _ _ _);have WN:=HR.oQ IV (xs:= [s.H.next,ch]) (t':=T.del (T.del s.H.t ch) s.H.next) (fun y=> ?_) (fun x hx=> ?_) (M':=fun b=>(c.M b∨b=w₁.heap.size)∧b≠BC.blk∧(some w₁.heap.size:Option Nat)≠some b) (fun b hb hx=> ?_)
  ·have FA:CK {c with M:=fun b=>(c.M b∨b=w₁.heap.size)∧b≠BC.blk∧(some w₁.heap.size:Option Nat)≠some b,AP:=some G} w₂:=by
    refine⟨fun b hb=> ?_,fun a ha=> ?_,fun a ha hb=> ?_⟩
    ·rw[Bp];rcases hb.1 with hb|hb
     ·exact Ce (BY.ml b hb)
     ·omega
    ·rw[Bp]; exact Ce (BY.rl a ha)
    ·rcases hb.1 with hb|hb
     ·exact BY.rm a ha hb
     ·have:=BY.rl a ha;omega
   subst Dj;refine hl _ (B3.2 rfl) (ρ.put s.H.next B) _ _ w₂ G ⟨⟨BC,hle _ _ WW,rfl⟩,rfl,rfl,.some (B:=B) QT,.nil,.none,fun h=>absurd rfl h⟩ (.none rfl) (.mk (fr:=fr.finish _) (cs:=cs) BO (hc.mono hle) (by simpa using D7) (fun b hb=> ?_) ?_ FA Dx h1 h2 rfl ?_)
   ·obtain⟨q1,q2⟩:=ET b (by simpa using hb);refine⟨?_,Ce q2⟩;show(if b=s.H.next then some B else ρ b)=none;rw[AA (by omega)];exact q1
   ·have Aq:=HR.stub WN QT (y:=s.H.next) (by show(T.del (T.del s.H.t ch) s.H.next).get _=none; rw[T.Ds,AD rfl]) (elem:=ty) (by show w₂.shape? w₁.heap.size=_; simp only[World.shape?,iQ]; rfl) (t':=(T.del (T.del s.H.t ch) s.H.next).set s.H.next (.cells .nil 2 ty 0 false 0 false false)) (fun x=>by exact T.AW _ _ _ _ Mv);refine⟨Aq.cap,Aq.Dk,fun b X o hb ho=> ?_,Aq.inj,Aq.EK,Aq.mem⟩;have:=Aq.rel b X o hb ho;cases this with
    |cells hs he D8 QV Ax hR AO=>exact .cells hs he D8 QV Ax hR AO
    |obj hw EW hM=>exact .obj hw EW hM
   ·refine⟨fun b hb=> ?_,fun a ha=> ?_,by rw[Bp]; exact Nat.le_succ_of_le Bi.size,fun b hb=> ?_,by rw[← XA]; exact Bi.tape,by rw[← XA]; exact Bi.os,by rw[← XA]; exact Bi.output,Bi.Fq.trans hle,fun x X hx=> ?_,Bi.AL,Bi.al.step (by rw[Bp]; exact Nat.le_succ _) (fun b hb=>by
     have hb:(c.M b∨b=w₁.heap.size)∧_:=hb;exact hb.1.imp id fun e=>by rw[e]; exact AN _) (fun x X hx=> ?_) fun b hb=>by simp only[World.shape?,aR b hb]⟩
    ·obtain⟨m1,m2,m3⟩:=Bi.m b hb;have Ac:=BY.ml b m1;refine⟨⟨.inl m1,fun e=>m3 ch BC WW e.symm,fun e=>by cases e; omega⟩,(aR b Ac).trans m2,fun x X hx=> ?_⟩;have hx:(if x=s.H.next then some B else ρ x)=some X:=hx;by_cases ex:x=s.H.next
     ·rw[AD ex]at hx; cases hx;intro e;have e:w₁.heap.size=b:=e;omega
     ·rw[AA ex]at hx;exact m3 x X hx
    ·obtain⟨m1,m2⟩:=Bi.r a ha;exact⟨m1,m2.trans (.of (aR _ (BY.rl a m1)))⟩
    ·have hb:b<E.w0.heap.size:=hb;have Ac:b<w₁.heap.size:=AV hb Bi.size;have:w₂.shape? b=w₁.shape? b:=by simp only[World.shape?,aR b Ac]
     exact this.trans (Bi.shape b hb)
    ·have hx:(if x=s.H.next then some B else ρ x)=some X:=hx;by_cases ex:x=s.H.next
     ·rw[AD ex]at hx; cases hx;exact .inl Bi.size
     ·rw[AA ex]at hx;exact Bi.fresh x X hx
    ·have hx:(if x=s.H.next then some B else ρ x)=some X:=hx;by_cases ex:x=s.H.next
     ·rw[AD ex]at hx; cases hx;exact .inr (AN _)
     ·rw[AA ex]at hx;exact .inl ⟨x,X,hx,rfl,.inl rfl⟩
  ·rw[T.Ds,T.Ds];show _=if y∈ [s.H.next,ch]then none else(s.H.t.set s.H.next _).get y
   rw[T.AW _ _ _ _ Mv];by_cases e2:y=s.H.next
   ·rw[AD e2,AD (by simp[e2])]
   ·rw[AA e2];by_cases e1:y=ch
    ·rw[AD e1,AD (by simp[e1])]
    ·rw[AA e1,AA (by simp[e1,e2]),AA e2]
  ·rcases AZ.1 hx with rfl|hx
   ·exact⟨_,(T.AW _ _ _ _ Mv).trans (AD rfl),rfl,rfl⟩
   ·have hx:=B3.1 hx;subst hx;exact⟨_,(T.AW _ _ _ _ Mv).trans ((AA BK).trans ho),rfl,rfl⟩
  ·refine⟨hb,fun e=> ?_,fun e=> ?_⟩
   ·exact hx ch (by simp) BC (hle _ _ WW) e.symm
   ·cases e;exact hx s.H.next (by simp) B QT rfl
end
end Go.Gd
namespace Go.Gd
open Go Go.Gw Go.Conc
section
variable{P:Program}{E7:DD}{ty:TypeId}{Post:Value→World→Prop}{main:Bool}
theorem HR.ctx{ρ:Ah}{H:PH}{c c':Ctx}{w:World}(h:HR ρ H c w)(hM:c'.M=c.M)(hR:c'.R=c.R):HR ρ H c' w:=by
 refine⟨h.cap,h.Dk,fun b X o hb ho=> ?_,h.inj,h.EK,h.mem⟩;have:=h.rel b X o hb ho;cases this with
 |cells hs he hf hle Ax gX AO=>exact .cells hs he hf hle (fun e=>by rw[hM]; exact Ax e) (fun e e' k hk=>by rw[hR]; exact gX e e' k hk) AO
 |obj hw EW hm=>exact .obj hw EW (by rw[hM]; exact hm)
theorem CK.ctx{c c':Ctx}{w:World}(h:CK c w)(hM:c'.M=c.M)(hR:c'.R=c.R):CK c' w :=
 ⟨fun b hb=>h.ml b (by rw[← hM]; exact hb),fun a ha=>h.rl a (by rw[← hR]; exact ha),fun a ha hb=>h.rm a (by rw[← hR]; exact ha) (by rw[← hM]; exact hb)⟩
theorem AU.free{pg:PG}{s:DS}(BW:pg.AY=none)(hk:pg.kids= [])(hw:pg.wg=none∨∃a,pg.wg=some (a,.fin)):AU P ty Post main ⟨.AP pg,s⟩ [⟨.out [],s⟩]:=by
 refine⟨0,fun E hb hg n hl ρ c g w G hG hA hd=> ?_⟩;replace hd:DR {E with AP:=some G} ρ s c g w:=hd;cases hd with
 |mk hf hc D7 ET hH AO Dx h1 h2 h3 Bv =>
  rename_i fr cs pd pds;refine W.free (G:=G) (hb.imp id fun e=>by rw[h1]; exact e) h3 ?_ ?_ ?_ ?_
  ·exact hG.TJ BW
  ·have:=hG.kids;rw[hk]at this;exact this.Co
  ·have:=hG.wg;rcases hw with e|⟨a,e⟩
   ·rw[e]at this;generalize G.wg=z at this;cases this; exact .inl rfl
   ·rw[e]at this;generalize G.wg=z at this;cases this; exact .inr ⟨_,rfl⟩
  ·refine hl _ (B3.2 rfl) ρ _ _ w (fun x hx=>by cases hx) (.mk (fr:=fr) (cs:=cs) hf hc D7 ET (hH.ctx rfl rfl) (AO.ctx rfl rfl) Dx h1 h2 hg.1.symm ⟨Bv.m,Bv.r,Bv.size,Bv.shape,Bv.tape,Bv.os,Bv.output,Bv.Fq,Bv.fresh,Bv.AL,Bv.al.up (AN _) fun _ h=>h⟩)
end
def Zj(p:Nat→Bool)(f:Nat):Value→Bool :=
 Nat.rec (motive:=fun _=>Value→Bool) (fun _=>false) (fun _ ih v=>match v with
  | .bool _| .int .. | .float .. | .complex .. | .string _| .pointer none| .slice none .. | .map none| .chan none| .nilFunc| .nilIface=>true
  | .pointer (some a)=>p a.block
  | .slice (some a) _ _=>p a.block
  | .map (some r)=>p r
  | .chan (some r)=>p r
  | .func (.func _) xs ys=>xs.toList.all ih&&ys.toList.all ih
  | .iface _ v=>ih v
  | .agg xs| .tuple xs=>xs.toList.all ih
  |_=>false) f
theorem QO{p:Nat→Bool}{ρ ρ':Ah}(hρ: ∀x B,p x=true→ρ x=some B→ρ' x=some B): ∀(f:Nat) {v v':Value},Zj p f v=true→VR ρ v v'→VR ρ' v v'
 |0,_,_,h,_=>by cases h
 |f+1,v,v',h,hv=>by
  have Q6: ∀{l l':List Value},l.all (Zj p f)=true→CE ρ l l'→CE ρ' l l':=by
   intro l;induction l with
   |nil=>intro l' _ h; cases h; exact .nil
   |cons a l ih =>
    intro l' ha h;cases h with
    |cons h t =>
     simp only[List.all_cons,AF]at ha;exact .cons (QO hρ f ha.1 h) (ih ha.2 t)
  cases hv with
  |bool b=>exact .bool b
  |int k n=>exact .int k n
  |float k n=>exact .float k n
  |complex k n m=>exact .complex k n m
  |string s=>exact .string s
  |JS=>exact .JS
  |ptr hB=>exact .ptr (hρ _ _ h hB)
  |MC n c=>exact .MC n c
  |sl hB hc=>exact .sl (hρ _ _ h hB) hc
  |IP=>exact .IP
  |map hB=>exact .map (hρ _ _ h hB)
  |OF=>exact .OF
  |chan hB=>exact .chan (hρ _ _ h hB)
  |func hf hx hy =>
   cases hf with
   |func g =>
    have h:(_&&_)=true:=h;rw[AF]at h;exact .func (.func g) (Q6 h.1 hx) (Q6 h.2 hy)
   |_=>cases h
  |nilFunc=>exact .nilFunc
  |iface hv=>exact .iface (QO hρ f h hv)
  |nilIface=>exact .nilIface
  |agg hx=>exact .agg (Q6 h hx)
  |tuple hx=>exact .tuple (Q6 h hx)
theorem QP{p:Nat→Bool}{ρ ρ':Ah}(hρ: ∀x B,p x=true→ρ x=some B→ρ' x=some B)(f:Nat): ∀{l l':List Value},l.all (Zj p f)=true→CE ρ l l'→CE ρ' l l'
 | [],_,_,h=>by cases h; exact .nil
 |a::l,_,ha,h=>by
  cases h with
  |cons h t =>
   simp only[List.all_cons,AF]at ha;exact .cons (QO hρ f ha.1 h) (QP hρ f ha.2 t)
theorem Ej{ρ:Ah}: ∀(f:Nat) {v v':Value},VR ρ v v'→∀x∈DK f v,∃B,ρ x=some B
 |0,_,_,_,x,hx=>by cases hx
 |f+1,v,v',hv,x,hx=>by
  have Q6: ∀{l l':List Value},CE ρ l l'→x∈l.flatMap (DK f)→∃B,ρ x=some B:=by
   intro l;induction l with
   |nil=>intro l' _ h; cases h
   |cons a l ih =>
    intro l' h hm;cases h with
    |cons h t =>
     rw[List.flatMap_cons]at hm;rcases DY.1 hm with hm|hm
     ·exact Ej f h x hm
     ·exact ih t hm
  cases hv with
  |ptr hB=>have:=B3.1 (show x∈ [_]from hx); subst this; exact⟨_,hB⟩
  |sl hB hc=>have:=B3.1 (show x∈ [_]from hx); subst this; exact⟨_,hB⟩
  |map hB=>have:=B3.1 (show x∈ [_]from hx); subst this; exact⟨_,hB⟩
  |chan hB=>have:=B3.1 (show x∈ [_]from hx); subst this; exact⟨_,hB⟩
  |func hf Au Li =>
   rcases DY.1 (show x∈_++_ from hx)with h|h
   ·exact Q6 Au h
   ·exact Q6 Li h
  |iface hv=>exact Ej f hv x hx
  |agg Au=>exact Q6 Au hx
  |tuple Au=>exact Q6 Au hx
  |_=>cases hx
section
variable{ρ:Ah}{H:PH}{c:Ctx}{w:World}
theorem Rd(hH:HR ρ H c w){x:Nat}(hx: ∃B,ρ x=some B): ∀y∈Mf H x,∃B,ρ y=some B:=fun y hy=>by
 obtain⟨B,hB⟩:=hx;unfold Mf at hy;split at hy
 ·rename_i t size elem es own fam D4 e;obtain⟨k,hk,hy⟩:=List.mem_flatMap.1 hy;have hr:=hH.rel x B _ hB e;cases hr with
  |cells hs he hf hle Ax hR AO =>
   rcases AO rfl k (Cq.1 hk)with⟨_,_,h1⟩|⟨v,v',h1,h2,h3⟩
   ·rw[h1]at hy; cases hy
   rw[h1]at hy;exact Ej 6 h3 y hy
 ·rename_i es clock e;obtain⟨en,hk,hy⟩:=List.mem_flatMap.1 hy;have hr:=hH.rel x B _ hB e;cases hr with
  |obj hw ho hM =>
   cases ho with
   |map _ _ Yp =>
    obtain⟨i,hi⟩:=List.getElem?_of_mem hk;obtain⟨L,_,hL⟩:=Yp;obtain⟨e',_,_,h4⟩:=hL.2 i en hi;exact Ej 6 h4 y hy
 ·cases hy
theorem GF(hH:HR ρ H c w): ∀(f:Nat) (work:List Nat) (seen:T Unit) (acc:List Nat),(∀x∈work,∃B,ρ x=some B)→(∀x∈acc,∃B,ρ x=some B)→∀x∈reach H f work seen acc,∃B,ρ x=some B
 |0,_,_,_,_,ha,x,hx=>ha x hx
 |f+1,work,seen,acc,hw,ha,x,hx=>by
  have hx:x∈(match work with
   | []=>acc
   |x::work=>match seen.get x with
    |some _=>reach H f work seen acc
    |none=>reach H f (Mf H x++work) (seen.set x ()) (x::acc)):=hx
  cases work with
  |nil=>exact ha x hx
  |cons y work =>
   simp only at hx;have hy:=hw y (by simp);split at hx
   ·exact GF hH f work seen acc (fun z hz=>hw z (by simp[hz])) ha x hx
   ·refine GF hH f _ _ _ (fun z hz=> ?_) (fun z hz=> ?_) x hx
    ·rcases DY.1 hz with hz|hz
     ·exact Rd hH hy z hz
     ·exact hw z (by simp[hz])
    ·rcases AZ.1 hz with rfl|hz
     ·exact hy
     ·exact ha z hz
structure pF(H:PH)(p:Nat→Bool):Prop where
 EK: ∀g,g<H.ng→p g=true
 oe: ∀x,p x=true→∀o,H.t.get x=some o→∃t size elem es fam ok D4,o= .cells t size elem es false fam ok D4∧(ok=true→∀k,k<size→∀v,t.get k=some v→Zj p 6 v=true)
def GL(p:Nat→Bool)(ρ:Ah):Ah:=fun x=>if p x=true then ρ x else none
theorem KX(p:Nat→Bool)(ρ:Ah):(GL p ρ).le ρ:=fun x B h=>by
 unfold GL at h;by_cases e:p x=true
 ·rw[AD e]at h; exact h
 ·rw[AA e]at h; cases h
theorem NK{p:Nat→Bool}{x:Nat}{B:RB}(h:GL p ρ x=some B):p x=true:=by
 unfold GL at h;by_cases e:p x=true
 ·exact e
 ·rw[AA e]at h; cases h
theorem DQ{p:Nat→Bool}(x:Nat)(B:RB)(h:p x=true)(hB:ρ x=some B):GL p ρ x=some B:=by
 unfold GL; rw[AD h]; exact hB
theorem HR.JU(h:HR ρ H c w){p:Nat→Bool}(hk:pF H p){ck:Ctx}(hR: ∀b B o,p b=true→ρ b=some B→H.t.get b=some o→BR ρ c w B o→∀k,c.R ⟨B.blk,k,none⟩→ck.R ⟨B.blk,k,none⟩):HR (GL p ρ) H ck w:=by
 have hle:=KX p ρ;refine⟨h.cap,fun b B hb=>h.Dk b B (hle _ _ hb),fun b B o hb ho=> ?_,fun b b' B B' hb B7=>h.inj b b' B B' (hle _ _ hb) (hle _ _ B7),fun g hg=> ?_,fun b B o hb ho=>h.mem b B o (hle _ _ hb) ho⟩
 ·obtain⟨t,size,elem,es,fam,ok,D4,rfl,rR⟩:=hk.oe b (NK hb) o ho;have hr:=h.rel b B _ (hle _ _ hb) ho;cases hr with
  |cells hs he hf QV Ax gX AO =>
   refine .cells hs he hf QV (fun e=>by cases e) (fun e e' k hk=>(gX e e' k hk).imp id (hR b B _ (NK hb) (hle _ _ hb) ho (.cells hs he hf QV Ax gX AO) k)) (fun e k Ac=> ?_);rcases AO e k Ac with⟨_,ij,hn⟩|⟨v,v',h1,h2,h3⟩
   ·exact .inl ⟨rfl,ij,hn⟩
   exact .inr ⟨v,v',h1,h2,QO (fun x B hx hB=>DQ x B hx hB) 6 (rR e k Ac v h1) h3⟩
 ·obtain⟨B,h1,h2⟩:=h.EK g hg;exact⟨B,DQ g B (hk.EK g hg) h1,h2⟩
end
def jy(P:Program)(d:Deferred):PF:=⟨P.funcs.size,.nil,0,[],[d],.panicking [⟨undef,false,true⟩],.normal,none⟩
def QJ(P:Program)(d:Deferred)(H:PH):DS:=⟨jy P d,[],H,0⟩
def wj:Ctx:=⟨fun _=>False,fun _=>False,0,none,none,none,none⟩
structure pG(E:Env)(p:Nat→Bool)(pg:PG)(kv:KV):Prop where
 base:E.base= []
 wU:jX false E
 send: ∃B ws,E.kr pg.ch=some B∧ws≤E.w0.heap.size∧E.send=some (B.blk,KW E.kr ws kv)
 dec:(pg.wg=none∧E.dec=none)∨∃a φ B,pg.wg=some (a,φ)∧E.kr a=some B∧E.dec=some (B.blk,.cnt)
 low: ∀x∈kv.low,∃B,E.kr x=some B
 names: ∀x B,E.kr x=some B→p x=true
 AY:jY E.kr pg.AY (E.AL.map (·.C))
 AL: ∀x,E.AL=some x→x.μ=Gm.fresh pg.kids.length
 kM: ∀b,¬E.kM b
 aM: ∀b,¬E.aM b
 aW:E.aW=E.w0
 ap:Gc E.kr wj E.w0 pg
def JA(P:Program)(ty:TypeId)(Post:Value→World→Prop)(p:Nat→Bool)(pg:PG)(kv:KV)(s:DS):Prop:= ∃m,∀E:Env,pG E p pg kv→DW P ty Post false E m s
section
variable{P:Program}{E7:DD}{ty:TypeId}{Post:Value→World→Prop}{main:Bool}
theorem W.oo{n n₁ n₂:Nat}{c:Ctx}{g:Goroutine}{w:World}{Gp:CZ}{Je:Option (Nat×Lz)}(sp:Gw.Spec)(hs:g.status= .running)(hn:n₁+n₂≤n)(hd:c.d=0)(hG:c.AP=some Gp)(Dq:Gp.closed=false)(A2:Gp.cap=0∨Gp.kids.length<Gp.cap)
  (Az:Gp.wg=none∧Je=none∨∃a mx,Gp.wg=some (a,.pend mx)∧Je=some (a,.idle mx))
  (h: ∀w₁,AS c w w₁→∃(g' child:Goroutine) (es:Array Event) (M':Nat→Prop) (R':Addr→Prop),stepG P main g w₁= .spawn g' child w₁ es∧g'.status= .running∧child.status= .running∧Ca c M' R' w₁ w₁∧BQ c w₁ w₁ es∧deafBehind 0 es=0∧
   W P ty Post main n₁ {c with M:=M',R:=R',AP:=some {Gp with kids:=Gp.kids++ [sp],wg:=Je}} g' w₁∧
   W P ty Post false n₂ {M:=fun _=>False,R:=c.TZ R',d:=0,send:=some (Gp.ch,sp),dec:=Gp.wg.map fun x=>(x.1,.cnt),AP:=none,AL:=Gp.AY.map fun C=>⟨C,Gm.fresh Gp.kids.length⟩} child w₁):W P ty Post main (n+1) c g w:=by
 have h': ∀w₁,∃N:Nx,AS c w w₁→N.sp=sp∧stepG P main g w₁= .spawn N.g N.child w₁ N.es∧N.g.status= .running∧N.child.status= .running∧Ca c N.M N.R w₁ w₁∧BQ c w₁ w₁ N.es∧deafBehind 0 N.es=0∧
   W P ty Post main n₁ {c with M:=N.M,R:=N.R,AP:=some {Gp with kids:=Gp.kids++ [sp],wg:=Je}} N.g w₁∧
   W P ty Post false n₂ {M:=fun _=>False,R:=c.TZ N.R,d:=0,send:=some (Gp.ch,sp),dec:=Gp.wg.map fun x=>(x.1,.cnt),AP:=none,AL:=Gp.AY.map fun C=>⟨C,Gm.fresh Gp.kids.length⟩} N.child w₁:=by
  intro w₁;by_cases r:AS c w w₁
  ·obtain⟨g',child,es,M',R',h1⟩:=h w₁ r;exact⟨{g:=g',child:=child,w:=w₁,es:=es,M:=M',R:=R',sp:=sp},fun _=>⟨rfl,h1⟩⟩
  ·exact⟨{g:=g,w:=w₁,es:= #[]},fun r'=>absurd r' r⟩
 obtain⟨N,hN⟩:=Classical.axiomOfChoice h';refine .spawn N hs hn hd hG Dq A2 Az (fun w₁ r=> ?_) (fun w₁ r=> ?_) fun w₁ r=> ?_
 ·obtain⟨e,h1,h2,h3,h4,h5,h6,_,_⟩:=hN w₁ r;exact⟨h1,h2,h3,h4,h5,h6⟩
 ·obtain⟨e,h1,h2,h3,h4,h5,h6,h7,_⟩:=hN w₁ r;rw[e]; exact h7
 ·obtain⟨e,h1,h2,h3,h4,h5,h6,_,h8⟩:=hN w₁ r;rw[e]; exact h8
theorem oP{ρ:Ah}{pf:PF}{fr:Frame}{H:PH}{w:World}{o:Oper}(h:CJ H.ng ρ pf fr o){cl:Call}(ho:o.op= .go cl){d:Deferred}(hp:EM H.ng pf o cl=some d): ∃d',SN ρ d d'∧(execOp fr.eval o).runT P w #[]=(.ok (.spawn d') w,#[]):=by
 let o2:Oper:={o with op:= .defer cl}
 have h2:CJ H.ng ρ pf fr o2:=fun x hx v hv=>h x (by rw[ho]; exact hx) v hv;obtain⟨d',a1,a2⟩:=HD (P:=P) (w:=w) h2 (o:=o2) rfl (d:=d) hp;refine⟨d',a1, ?_⟩;have e2:execOp fr.eval o2=(resolve fr.eval cl o.type).bind fun d=>Sem.pure (Next.defer d):=rfl;have e1:execOp fr.eval o=(resolve fr.eval cl o.type).bind fun d=>Sem.pure (Next.spawn d):=by
  unfold execOp;rw[ho];rfl
 rw[e2,BT]at a2;rw[e1,BT];revert a2;generalize (resolve fr.eval cl o.type).runT P w #[]=r;intro a2;obtain⟨r,es⟩:=r;cases r with
 |ok d2 w2 =>
  have a2:((.ok (.defer d2) w2:Result Next),es)=(.ok (.defer d') w,#[]):=a2;simp only[AR,Result.ok.injEq,Next.defer.injEq]at a2;obtain⟨⟨rfl,rfl⟩,rfl⟩:=a2;rfl
 |halt x w2=>cases a2
end
def jJ(p:Nat→Bool):Deferred→Prop
 |⟨.fn (.func _) ys,AAe⟩=>AAe.toList.all (Zj p 6)=true∧ys.toList.all (Zj p 6)=true
 |_=>False
section
variable{P:Program}{E7:DD}{ty:TypeId}{Post:Value→World→Prop}{main:Bool}
theorem SN.JU{ρ:Ah}{p:Nat→Bool}{d d':Deferred}(h:SN ρ d d')(hd:jJ p d):SN (GL p ρ) d d':=by
 cases h with
 |mk ht hx =>
  cases ht with
  |fn hf hy =>
   cases hf with
   |func g =>
    exact .mk (.fn (.func g) (QP (fun x B hx hB=>DQ x B hx hB) 6 hd.2 hy)) (QP (fun x B hx hB=>DQ x B hx hB) 6 hd.1 hx)
   |_=>exact hd.elim
  |_=>exact hd.elim
def QK(P:Program)(d:Deferred):Frame:={(default:Frame)with fn:=P.funcs.size,defers:= [d],mode:= .panicking [goexitEntry]}
theorem Ta{ρ:Ah}{d d':Deferred}(h:SN ρ d d'):Br ρ (jy P d) (QK P d') [] :=
 ⟨rfl,rfl,⟨_,.plain .nil,fun k v hk _=>by cases hk⟩,.cons h .nil,.panicking (.cons (.mk false true (.tuple .nil)) .nil),rfl,.none⟩
theorem LF{w:World}{b:Nat}{o:Obj}(h:w.heap[b]? =some o)(hc:Dr o=true):w.shape? b=none:=by
 unfold World.shape?;rw[h];cases o<;>first|rfl|cases hc
def XM:Option (Nat×Lz)→Option (Option (Nat×Lz))
 |none=>some none
 |some (a,.pend mx)=>some (some (a,.idle mx))
 |_=>none
theorem AU.spawn{s:DS}(hm:s.fr.mode= .run){all:Array Oper}{i:Nat}{o:Oper}{l:List Oper}{k:List Ab}(ht:s.fr.todo= .ops all i (o::l)::k)(hk:s.fr.kind≠ .early)(hw:Aj s.fr all o=some true)
  {cl:Call} (A5:o.op= .go cl) {d:Deferred} (hd:EM s.H.ng s.fr o cl=some d) {tm:T Value} (hp:By s.fr o.dst undef=some tm) (ir:s.d=0)
  {pg:PG} {kv:KV} {Je:Option (Nat×Lz)} (Dq:pg.closed=false) (A2:pg.cap=0∨pg.kids.length<pg.cap) (Az:XM pg.wg=some Je)
  {S:List Nat} (hS:jV s.H S) {p:Nat→Bool} (hK:pF (s.H.Ho (CC S s.H.t)) p) (hdi:jJ p d) (Hh:p pg.ch=true) (Hq: ∀a φ,pg.wg=some (a,φ)→p a=true)
  (BW: ∀k,pg.AY=some k→p k.lb=true∧p k.mb=true∧∀e∈k.base,Zj p 6 e.val=true) (Oa:pg.AY≠none∨∀x t size elem es own fam ok D4,p x=true→s.H.t.get x=some (.cells t size elem es own fam ok D4)→elem≠C2)
  (QU: ∀x∈kv.low,p x=true) (JH: ∀ρ c w,HR ρ s.H c w→(∀d',SN ρ d d'→∀x∈kv.low,∃B,ρ x=some B)) (WQ:JA P ty Post p pg kv (QJ P d (s.H.Ho (CC S s.H.t)))) :
  AU P ty Post main ⟨.AP pg,s⟩ [⟨.AP {pg with kids:=pg.kids++ [kv],wg:=Je},⟨{s.fr with tmps:=tm,todo:= .ops all (i+1) l::k},s.cs,s.H.Ho (CC S s.H.t),s.d⟩⟩]:=by
 obtain⟨m,Zn⟩:=WQ;refine⟨m+1,fun E hb hg n hl ρ c g w Γ hG hA IX=> ?_⟩;replace IX:DR {E with AP:=some Γ} ρ s c g w:=IX;cases IX with
 |mk hf hc D7 ET hH AO Dx h1 h2 h3 Bv =>
  rename_i fr cs pd pds;have h3:c.AP=some Γ:=h3;have hGl:Γ.kids.length=pg.kids.length:=by
   have h:=hG.kids;generalize Γ.kids=a at h;generalize pg.kids=b at h;clear A2 hl;induction h with
   |nil=>rfl
   |cons _ _ ih=>simp[ih]
  obtain⟨BC,WW,Tq⟩:=hG.ch;obtain⟨sG,z8,z6⟩: ∃sG,(Γ.wg=none∧sG=none∨∃a mx,Γ.wg=some (a,.pend mx)∧sG=some (a,.idle mx))∧pD ρ Je sG:=by
   have h:=hG.wg;generalize hpw:pg.wg=pw at h Az;generalize hgw:Γ.wg=gw at h;cases h with
   |none =>
    cases Az;exact⟨none,.inl ⟨rfl,rfl⟩,.none⟩
   |some hB =>
    rename_i a B φ;cases φ with
    |pend mx =>
     cases Az;exact⟨some (B.blk,.idle mx),.inr ⟨_,_,rfl,rfl⟩,.some hB⟩
    |_=>cases Az
  let sp:Gw.Spec:=KW (GL p ρ) w.heap.size kv
  refine W.oo (n₁:=n) (n₂:=m) sp rfl (AN _) (by rw[Dx]; exact ir) h3 (by rw[hG.closed]; exact Dq) (by rw[hG.cap,hGl]; exact A2) z8 fun w₁ r=> ?_;obtain⟨Dj,ho,A9,rest,mm,e,E0,Ky⟩:=hf.ops ht;have DN:=hH.rely r;have BY:=AO.rely r;have Bi:=Bv.rely r;obtain⟨d',Oz,AT⟩:=oP (P:=P) (w:=w₁) (CJ.of A9 DN o) A5 hd;have IU:seen P fr.fn #[]= #[]:=seen_none _ _;have Aq:stepG P main (G fr (cs++E.base)) w₁= .spawn (G (fr.finish undef) (cs++E.base)) (G (QK P d') []) w₁ #[]:=by
   rw[D6 ((Br.run hf) hm) e ho (BE (fun _ _ t v _ _ hv=>A9 t v hv) hw) (fun c hc=>by rw[A5]at hc; cases hc)];unfold stepG.apply;have Hs:(fr.kind==CallKind.early)=false:=by rw[hf.kind]; simpa using hk
   have Zl:(d'.target matches .nil)=false:=by
    cases Oz with
    |mk dw hx =>
     cases dw with
     |nil=>exact hdi.elim
     |_=>rfl
   simp only[Ad,AT,Hs,Bq,BS,IU];have hif: ∀(b1 b2 b3:Bool) (x y:GStep),(if(((b1&&(match d'.target with|Target.nil=>true|_=>false))&&b2)&&b3)=true then x else y)=y:=fun b1 b2 b3 x y=>by
    cases EI:d'.target with
    |nil=>rw[EI]at Zl; cases Zl
    |_=>simp
   exact(congrArg (GStep.after #[]) (hif (P.follows .goNilFatal) d'.args.isEmpty (Frame.noResult P fr) _ _)).trans rfl
  have BO:=hf.put ht hp (v':=undef) (.tuple .nil)
  let M':Nat→Prop:=fun b=>c.M b∧¬Fz ρ S b
  let R':Addr→Prop:=fun a=>c.R a∨(Fz ρ S a.block∧c.M a.block)
  have kI:=DN.freeze hS;have iV:CK {c with M:=M',R:=R'} w₁:=BY.freeze;refine⟨_,_,#[],M',R',Aq,rfl,rfl,Ca.freeze BY,BQ.nil _ _ _,rfl, ?_, ?_⟩
  ·subst Dj;refine hl _ (B3.2 rfl) ρ _ _ w₁ {Γ with kids:=Γ.kids++ [sp],wg:=sG} ⟨⟨BC,WW,Tq⟩,hG.cap,hG.closed,z6,hG.kids.app (.cons ⟨GL p ρ,w.heap.size,KX p ρ,Nat.max_le.2 ⟨Bv.size,Bv.al.AAe⟩,rfl⟩ .nil),hG.AY,hG.mn⟩ ((hA.rely r).step rfl (fun _ h=>h.1) (fun _ _=>rfl) (AN _))
    (.mk (fr:=fr.finish undef) (cs:=cs) BO hc (by simpa using D7) (fun b hb=>by simpa using ET b (by simpa using hb)) (kI.ctx rfl rfl) (iV.ctx rfl rfl) Dx h1 h2 rfl ?_)
   refine⟨fun b hb=> ?_,fun a ha=>⟨.inl (Bi.r a ha).1,(Bi.r a ha).2⟩,Bi.size,Bi.shape,Bi.tape,Bi.os,Bi.output,Bi.Fq,Bi.fresh,Bi.AL,Bi.al.up (AN _) fun _ h=>h.1⟩;obtain⟨m1,m2,m3⟩:=Bi.m b hb;exact⟨⟨m1,fun⟨x,_,B,hB,e⟩=>m3 x B hB e⟩,m2,m3⟩
  ·let Ek:Env:={send:=some (Γ.ch,sp),dec:=Γ.wg.map fun x=>(x.1,.cnt),AP:=none,AL:=Γ.AY.map fun C=>⟨C,Gm.fresh Γ.kids.length⟩,base:= [],kM:=fun _=>False,kR:=fun _=>False,w0:=w₁,kr:=GL p ρ,aM:=fun _=>False,aW:=w₁}
   have hEk:pG Ek p pg kv:=by
    refine⟨rfl,⟨rfl,fun x hx=>⟨rfl, ?_⟩⟩,⟨BC,w.heap.size,DQ _ _ Hh WW,r.size,by rw[Tq]⟩, ?_,fun x hx=> ?_,fun x B h=> ?_, ?_,fun x hx=> ?_,fun _ h=>h,fun _ h=>h,rfl,fun k hk=> ?_⟩
    ·have h:=hG.AY;have hx:Γ.AY.map (fun C=>(⟨C,Gm.fresh Γ.kids.length⟩:Jb))=some x:=hx;generalize hpc:pg.AY=pc at h;generalize Γ.AY=gc at h hx;cases h with
     |none=>cases hx
     |some Hr hl Mw OZ hP hJ hb =>
      rename_i k C B B' EL;cases hx;obtain⟨B1,_,XE⟩:=hA.ap k hpc;have:=XE.lb;rw[Hr]at this;cases this;exact⟨_,by show w₁.shape? C.lb=_; rw[hl]; exact(r.shape _ XE.tq).trans XE.sl⟩
    ·have h:=hG.wg;generalize hpw:pg.wg=pw at h Hq;show(pw=none∧Γ.wg.map (fun x=>(x.1,IE.cnt))=none)∨_;generalize hgw:Γ.wg=gw at h;cases h with
     |none=>exact .inl ⟨rfl,rfl⟩
     |some hB=>exact .inr ⟨_,_,_,rfl,DQ _ _ (Hq _ _ rfl) hB,by show Option.map _ Γ.wg=_; rw[hgw]; rfl⟩
    ·obtain⟨B,hB⟩:=JH ρ c w₁ DN d' Oz x hx;exact⟨B,DQ _ _ (QU x hx) hB⟩
    ·exact NK h
    ·have h:=hG.AY;show jY (GL p ρ) pg.AY (Option.map (·.C) (Γ.AY.map fun C=>(⟨C,Gm.fresh Γ.kids.length⟩:Jb)));generalize hpc:pg.AY=pc at h;generalize Γ.AY=gc at h;cases h with
     |none=>exact .none
     |some Hr hl Mw OZ hP hJ hb =>
      rename_i k C B B' EL;obtain⟨p1,p2,p3⟩:=BW k hpc;exact .some (DQ _ _ p1 Hr) hl Mw (DQ _ _ p2 OZ) hP hJ ⟨hb.1,fun j e he=>let⟨e',a,b,c⟩:=hb.2 j e he; ⟨e',a,b,QO (fun x B hx hB=>DQ x B hx hB) 6 (p3 e (Cg he)) c⟩⟩
    ·have hx:Γ.AY.map (fun C=>(⟨C,Gm.fresh Γ.kids.length⟩:Jb))=some x:=hx;generalize Γ.AY=gc at hx;cases gc with
     |none=>cases hx
     |some C=>cases hx; rw[← hGl]
    ·obtain⟨B1,B2,hB⟩:=(hA.rely r).ap k hk;obtain⟨p1,p2,_⟩:=BW k hk;exact⟨B1,B2,DQ _ _ p1 hB.lb,DQ _ _ p2 hB.mb,fun h=>h,fun h=>h,hB.sl,hB.sm,hB.lt,fun x X hx=>hB.ul x X (KX p ρ _ _ hx),fun x X hx=>hB.um x X (KX p ρ _ _ hx)⟩
   have AAb: ∀b B o,p b=true→ρ b=some B→(s.H.Ho (CC S s.H.t)).t.get b=some o→BR ρ {c with M:=M',R:=R'} w₁ B o→∀k,R' ⟨B.blk,k,none⟩→c.TZ R' ⟨B.blk,k,none⟩:=fun b B o hpb hbB hbo Mx k hk=>by
    refine⟨hk,fun x hx e=> ?_⟩;rw[Bi.AL]at hx;obtain⟨m1,sz,m2⟩:=hg.2 x hx;have m3:w₁.shape? x.C.lb=some (C2,sz):=(Bi.shape _ (Ai m2)).trans m2;have e:B.blk=x.C.lb:=e;rcases Oa with h|h
    ·rw[hG.mn h]at m1; cases m1
    ·have hz:(CC S s.H.t).get b=some o:=by
      rw[show(s.H.Ho (CC S s.H.t)).t=CC S s.H.t by cases s.H; rfl]at hbo;exact hbo
     rw[Jm hS.lt]at hz;cases Mx with
     |cells hs _ _ _ _ _ _ =>
      rw[e,m3]at hs;cases hs;by_cases hbS:b∈S
      ·rw[AD hbS]at hz;obtain⟨tr,size,elem,es,fam,ok,D4,e1⟩:=hS.own b hbS;rw[e1]at hz;cases hz;exact h b _ _ _ _ _ _ _ _ hpb e1 rfl
      ·rw[AA hbS]at hz;exact h b _ _ _ _ _ _ _ _ hpb hz rfl
     |obj hw aU _ =>
      have:=LF hw (OR.Dr aU);rw[e]at this;rw[m3]at this; cases this
   refine Zn Ek hEk (GL p ρ) _ _ w₁ (.mk (fr:=QK P d') (cs:= []) (Ta (Oz.JU hdi)) .nil (by simp) (by simp) (kI.JU hK AAb) ⟨fun b hb=>hb.elim,fun a ha=>iV.rl a ha.1,fun a _ hb=>hb⟩ rfl rfl rfl rfl ?_);exact⟨fun b hb=>hb.elim,fun a ha=>ha.elim,AN _,fun _ _=>rfl,rfl,.refl _,rfl,Ah.le.refl _,fun x B hx=> .inr ⟨x,B,hx,rfl⟩,rfl,⟨fun x B hx=> .inl ⟨x,B,hx,rfl,.inl rfl⟩,fun b hb=>hb.elim,AN _,fun _ _=>rfl⟩⟩
end
open Go.ConcR (KK wgBlock WgAt stA smA)
section
variable{P:Program}{ty:TypeId}{Post:Value→World→Prop}{main:Bool}{n:Nat}{E:Env}{ρ:Ah}{s:DS}{c:Ctx}{g:Goroutine}{w w':World}
theorem CD{α:Type}{Q:World→α→Prop}{F:World→α→Nx→Prop}(hu: ∀w v v',Q w v→Q w v'→v=v')(h: ∀w v,Q w v→∃N,F w v N): ∃N:World→Nx,∀w v,Q w v→F w v (N w):=by
 have h': ∀w,∃N:Nx,∀v,Q w v→F w v N:=fun w=>by
  by_cases e: ∃v,Q w v
  ·obtain⟨v,hv⟩:=e;obtain⟨N,hN⟩:=h w v hv;exact⟨N,fun v' UX=>by rw[hu w v' v UX hv]; exact hN⟩
  ·exact⟨{g:=default,w:=w,es:= #[]},fun v hv=>absurd ⟨v,hv⟩ e⟩
 exact Classical.axiomOfChoice h'
theorem TW{v v':Nat}(h:(v:Int)*KK=(v':Int)*KK):v=v':=by
 have:KK=4294967296:=rfl;rw[this]at h;omega
theorem W.wY{G:CZ}{a mx:Nat}(hs:g.status= .running)(hG:c.AP=some G)(Az:G.wg=some (a,.idle mx))(hd:0<c.d)(gS:mx<4)
  (h: ∀w₁,AS c w w₁→∀v:Nat,v≤mx→WgAt ty a w₁ (v*KK) 0→∃g' es,stepG P main g w₁= .go g' (w₁.setCell (stA a) (.int .u64 ((v+1)*KK))) es∧g'.status= .running∧GV a es∧deafBehind c.d es=c.d∧
   (Apart c a→W P ty Post main n {c with AP:=some (G.ph a (.pend (mx+1)))} g' (w₁.setCell (stA a) (.int .u64 ((v+1)*KK))))):W P ty Post main (n+1) c g w:=by
 obtain⟨N,hN⟩:=CD (Q:=fun w₁ (v:Nat)=>AS c w w₁∧v≤mx∧WgAt ty a w₁ (v*KK) 0)
  (F:=fun w₁ v N=>stepG P main g w₁= .go N.g (w₁.setCell (stA a) (.int .u64 ((v+1)*KK))) N.es∧N.g.status= .running∧GV a N.es∧deafBehind c.d N.es=c.d∧(Apart c a→W P ty Post main n {c with AP:=some (G.ph a (.pend (mx+1)))} N.g (w₁.setCell (stA a) (.int .u64 ((v+1)*KK)))))
  (fun w₁ v v' h1 h2=>TW (h1.2.2.unique h2.2.2).1) (fun w₁ v hv=>by
   obtain⟨g',es,h1⟩:=h w₁ hv.1 v hv.2.1 hv.2.2;exact⟨{g:=g',w:=w₁,es:=es},h1⟩)
 exact .XP N hs hG Az hd gS (fun w₁ r v hv Bg=>let⟨a,b,c,d,_⟩:=hN w₁ v ⟨r,hv,Bg⟩; ⟨a,b,c,d⟩) fun w₁ r Q7 v hv Bg=>(hN w₁ v ⟨r,hv,Bg⟩).2.2.2.2 Q7
theorem W.oj{G:CZ}{a mx:Nat}(hs:g.status= .running)(hG:c.AP=some G)(Az:G.wg=some (a,.idle mx))(hd:0<c.d)
  (h: ∀w₁,AS c w w₁→∀v:Nat,v≤mx→WgAt ty a w₁ (v*KK) 0→∃g' es,stepG P main g w₁= .go g' w₁ es∧g'.status= .running∧GV a es∧deafBehind c.d es=c.d∧
   W P ty Post main n {c with AP:=some (G.ph a (if v=0 then .fin else .w2 v))} g' w₁):W P ty Post main (n+1) c g w:=by
 obtain⟨N,hN⟩:=CD (Q:=fun w₁ (v:Nat)=>AS c w w₁∧v≤mx∧WgAt ty a w₁ (v*KK) 0)
  (F:=fun w₁ v N=>stepG P main g w₁= .go N.g w₁ N.es∧N.g.status= .running∧GV a N.es∧deafBehind c.d N.es=c.d∧W P ty Post main n {c with AP:=some (G.ph a (if v=0 then .fin else .w2 v))} N.g w₁)
  (fun w₁ v v' h1 h2=>TW (h1.2.2.unique h2.2.2).1) (fun w₁ v hv=>by
   obtain⟨g',es,h1⟩:=h w₁ hv.1 v hv.2.1 hv.2.2;exact⟨{g:=g',w:=w₁,es:=es},h1⟩)
 exact .O6 N hs hG Az hd (fun w₁ r v hv Bg=>let⟨a,b,c,d,_⟩:=hN w₁ v ⟨r,hv,Bg⟩; ⟨a,b,c,d⟩) fun w₁ r v hv Bg=>(hN w₁ v ⟨r,hv,Bg⟩).2.2.2.2
theorem W.wX{G:CZ}{a vs:Nat}(hs:g.status= .running)(hG:c.AP=some G)(Az:G.wg=some (a,.w2 vs))(hd:0<c.d)(Zk:vs≠0)
  (h: ∀w₁,AS c w w₁→WgAt ty a w₁ (vs*KK) 0→∃g' es,stepG P main g w₁= .go g' (w₁.setCell (stA a) (.int .u64 (vs*KK+1))) es∧g'.status= .running∧GV a es∧deafBehind c.d es=c.d∧
   (Apart c a→W P ty Post main n {c with AP:=some (G.ph a .reg)} g' (w₁.setCell (stA a) (.int .u64 (vs*KK+1)))))
  (h': ∀w₁,AS c w w₁→∀v:Nat,v<vs→WgAt ty a w₁ (v*KK) 0→∃g' es,stepG P main g w₁= .go g' w₁ es∧g'.status= .running∧GV a es∧deafBehind c.d es=c.d∧
   W P ty Post main n {c with AP:=some (G.ph a (.idle v))} g' w₁):W P ty Post main (n+1) c g w:=by
 obtain⟨N,hN⟩:=CD (α:=Unit) (Q:=fun w₁ _=>AS c w w₁∧WgAt ty a w₁ (vs*KK) 0)
  (F:=fun w₁ _ N=>stepG P main g w₁= .go N.g (w₁.setCell (stA a) (.int .u64 (vs*KK+1))) N.es∧N.g.status= .running∧GV a N.es∧deafBehind c.d N.es=c.d∧(Apart c a→W P ty Post main n {c with AP:=some (G.ph a .reg)} N.g (w₁.setCell (stA a) (.int .u64 (vs*KK+1)))))
  (fun _ _ _ _ _=>rfl) (fun w₁ _ hv=>by
   obtain⟨g',es,h1⟩:=h w₁ hv.1 hv.2;exact⟨{g:=g',w:=w₁,es:=es},h1⟩)
 obtain⟨N',hN'⟩:=CD (Q:=fun w₁ (v:Nat)=>AS c w w₁∧v<vs∧WgAt ty a w₁ (v*KK) 0)
  (F:=fun w₁ v N=>stepG P main g w₁= .go N.g w₁ N.es∧N.g.status= .running∧GV a N.es∧deafBehind c.d N.es=c.d∧W P ty Post main n {c with AP:=some (G.ph a (.idle v))} N.g w₁)
  (fun w₁ v v' h1 h2=>TW (h1.2.2.unique h2.2.2).1) (fun w₁ v hv=>by
   obtain⟨g',es,h1⟩:=h' w₁ hv.1 v hv.2.1 hv.2.2;exact⟨{g:=g',w:=w₁,es:=es},h1⟩)
 exact .XO N N' hs hG Az hd Zk (fun w₁ r Bg=>let⟨a,b,c,d,_⟩:=hN w₁ () ⟨r,Bg⟩; ⟨a,b,c,d⟩) (fun w₁ r Q7 Bg=>(hN w₁ () ⟨r,Bg⟩).2.2.2.2 Q7)
  (fun w₁ r v hv Bg=>let⟨a,b,c,d,_⟩:=hN' w₁ v ⟨r,hv,Bg⟩; ⟨a,b,c,d⟩) fun w₁ r v hv Bg=>(hN' w₁ v ⟨r,hv,Bg⟩).2.2.2.2
theorem W.wZ{G:CZ}{a:Nat}(hs:g.status= .running)(hG:c.AP=some G)(Az:G.wg=some (a,.reg))(hd:0<c.d)(ho:g.offers=none)
  (h0: ∀w₁,AS c w w₁→∀st,WgAt ty a w₁ st 0→stepG P main g w₁= .go {g with status:= .blocked} w₁ #[])
  (h: ∀w₁,AS c w w₁→WgAt ty a w₁ 0 1→∃g' es,stepG P main g w₁= .go g' (w₁.setCell (smA a) (.int .u32 0)) es∧g'.status= .running∧GV a es∧deafBehind c.d es=c.d∧
   (Apart c a→W P ty Post main n {c with AP:=some (G.ph a .w4)} g' (w₁.setCell (smA a) (.int .u32 0)))):W P ty Post main (n+1) c g w:=by
 obtain⟨N,hN⟩:=CD (α:=Unit) (Q:=fun w₁ _=>AS c w w₁∧WgAt ty a w₁ 0 1)
  (F:=fun w₁ _ N=>stepG P main g w₁= .go N.g (w₁.setCell (smA a) (.int .u32 0)) N.es∧N.g.status= .running∧GV a N.es∧deafBehind c.d N.es=c.d∧(Apart c a→W P ty Post main n {c with AP:=some (G.ph a .w4)} N.g (w₁.setCell (smA a) (.int .u32 0))))
  (fun _ _ _ _ _=>rfl) (fun w₁ _ hv=>by
   obtain⟨g',es,h1⟩:=h w₁ hv.1 hv.2;exact⟨{g:=g',w:=w₁,es:=es},h1⟩)
 exact .Ud N hs hG Az hd ho h0 (fun w₁ r Bg=>let⟨a,b,c,d,_⟩:=hN w₁ () ⟨r,Bg⟩; ⟨a,b,c,d⟩) fun w₁ r Q7 Bg=>(hN w₁ () ⟨r,Bg⟩).2.2.2.2 Q7
theorem W.wW{G:CZ}{a:Nat}(hs:g.status= .running)(hG:c.AP=some G)(Az:G.wg=some (a,.w4))(hd:0<c.d)
  (h: ∀w₁,AS c w w₁→WgAt ty a w₁ 0 0→∃g' es,stepG P main g w₁= .go g' w₁ es∧g'.status= .running∧GV a es∧deafBehind c.d es=c.d∧
   W P ty Post main n {c with AP:=some (G.ph a .fin)} g' w₁):W P ty Post main (n+1) c g w:=by
 obtain⟨N,hN⟩:=CD (α:=Unit) (Q:=fun w₁ _=>AS c w w₁∧WgAt ty a w₁ 0 0)
  (F:=fun w₁ _ N=>stepG P main g w₁= .go N.g w₁ N.es∧N.g.status= .running∧GV a N.es∧deafBehind c.d N.es=c.d∧W P ty Post main n {c with AP:=some (G.ph a .fin)} N.g w₁)
  (fun _ _ _ _ _=>rfl) (fun w₁ _ hv=>by
   obtain⟨g',es,h1⟩:=h w₁ hv.1 hv.2;exact⟨{g:=g',w:=w₁,es:=es},h1⟩)
 exact .XN N hs hG Az hd (fun w₁ r Bg=>let⟨a,b,c,d,_⟩:=hN w₁ () ⟨r,Bg⟩; ⟨a,b,c,d⟩) fun w₁ r Bg=>(hN w₁ () ⟨r,Bg⟩).2.2.2.2
theorem W.wV{G:CZ}{a:Nat}{φ:Lz}(hs:g.status= .running)(hG:c.AP=some G)(Az:G.wg=some (a,φ))(hφ:φ≠ .fin)
  (h: ∀w₁,AS c w w₁→∃g' es,stepG P main g w₁= .go g' w₁ es∧g'.status= .running∧GV a es∧deafBehind c.d es=c.d∧W P ty Post main n {c with AP:=some (G.ph a φ)} g' w₁):W P ty Post main (n+1) c g w:=by
 obtain⟨N,hN⟩:=CD (α:=Unit) (Q:=fun w₁ _=>AS c w w₁)
  (F:=fun w₁ _ N=>stepG P main g w₁= .go N.g w₁ N.es∧N.g.status= .running∧GV a N.es∧deafBehind c.d N.es=c.d∧W P ty Post main n {c with AP:=some (G.ph a φ)} N.g w₁)
  (fun _ _ _ _ _=>rfl) (fun w₁ _ hv=>by
   obtain⟨g',es,h1⟩:=h w₁ hv;exact⟨{g:=g',w:=w₁,es:=es},h1⟩)
 exact .XJ N hs hG Az hφ (fun w₁ r=>let⟨a,b,c,d,_⟩:=hN w₁ () r; ⟨a,b,c,d⟩) fun w₁ r=>(hN w₁ () r).2.2.2.2
theorem HR.apart{H:PH}{b:Nat}(h:HR ρ H c w)(ho:ES b w w')(ha:Apart c b):HR ρ H c w':=by
 refine⟨h.cap,fun y B hy=>⟨(h.Dk y B hy).1,by rw[ho.size]; exact(h.Dk y B hy).2⟩,fun y B o hy hg=> ?_,h.inj,h.EK,h.mem⟩;have hr:=h.rel y B o hy hg;cases hr with
 |cells hs he hf hle Ax hR AO =>
  rename_i t size elem es own fam ok D4;refine .cells ((ho.shape _).trans hs) he hf hle (fun e=>⟨(Ax e).1,fun e' off=> ?_⟩) hR (fun e k hk=> ?_)
  ·have BK:B.blk≠b:=fun x=>ha.1 (x ▸(Ax e).1);have:=(Ax e).2 e' off;simp only[World.frozen?,ho.keep _ BK]at this ⊢;exact this
  ·rcases AO e k hk with hn|⟨v,v',h1,h2,h3⟩
   ·exact .inl hn
   have BK:B.blk≠b:=by
    cases hw:own with
    |true=>exact fun x=>ha.1 (x ▸(Ax hw).1)
    |false=>exact ha.2 _ ((hR hw e k hk).resolve_left (by rw[h1]; simp))
   exact .inr ⟨v,v',h1,(Kc (a:=⟨B.blk,k,none⟩) (ho.keep _ BK)).trans h2,h3⟩
 |obj hw EW hM=>exact .obj ((ho.keep _ fun x=>ha.1 (x ▸hM)).trans hw) EW hM
theorem DR.apart{b:Nat}(h:DR E ρ s c g w)(ho:ES b w w')(ha:Apart c b):DR E ρ s c g w':=by
 cases h with
 |mk hf hc hn hp hH AO hd h1 h2 h3 hk =>
  refine .mk hf hc hn hp (hH.apart ho ha) ⟨fun x hx=>by rw[ho.size]; exact AO.ml x hx,fun x hx=>by rw[ho.size]; exact AO.rl x hx,AO.rm⟩ hd h1 h2 h3 ⟨fun x hx=> ?_,fun x hx=> ?_,by rw[ho.size]; exact hk.size,fun x hx=>(ho.shape x).trans (hk.shape x hx),ho.tape.trans hk.tape,hk.os.trans (.of ho.os),ho.output.trans hk.output,hk.Fq,hk.fresh,hk.AL,hk.al.up (by rw[ho.size]; exact AN _) (fun _ h=>h) fun b _=>ho.shape b⟩
  ·obtain⟨m1,m2,m3⟩:=hk.m x hx;exact⟨m1,(ho.keep x fun e=>ha.1 (e ▸m1)).trans m2,m3⟩
  ·obtain⟨m1,m2⟩:=hk.r x hx;exact⟨m1,m2.trans (.of (ho.keep _ (ha.2 x m1)))⟩
end
def LO(xs:T XK)(ng:Nat)(pf:PF)(o:Oper):Option (XK×List Value) :=
 match o.op with
 | .call c=>match c.callee with
  | .value f=>match AQ ng pf f with
   |some (.func (.func g) AAe bs)=>match AAe.toList,bs.toList with
    | [],[]=>match xs.get g with
     |some k=>match Eh ng pf c.args.toList with
      |some vs=>some (k,vs)
      |none=>none
     |none=>none
    |_,_=>none
   |_=>none
  |_=>none
 |_=>none
def Kd(xs:T XK)(s:DS)(k:XK)(vs:List Value)(put:Value→Option PF):Prop :=
 ∃all i o l kk,s.fr.mode= .run∧s.fr.todo= .ops all i (o::l)::kk∧s.fr.kind≠ .early∧Aj s.fr all o=some true∧LO xs s.H.ng s.fr o=some (k,vs)∧put=fun v=>(By s.fr o.dst v).map fun tm=>{s.fr with tmps:=tm,todo:= .ops all (i+1) l::kk}
theorem Kd.step{P:Program}{xs:T XK}(Au:C9 P xs){s:DS}{k:XK}{vs:List Value}{put:Value→Option PF}(h:Kd xs s k vs put){ρ:Ah}{fr:Frame}{pd:List Nat}(hf:Br ρ s.fr fr pd)(hE: ∀o,(∀k v,s.fr.tmps.get k=some v→∃v',fr.tmps[k]? =some v'∧VR ρ v v')→CJ s.H.ng ρ s.fr fr o) :
  ∃f Ap,pd= []∧CE ρ vs Ap∧(∀v v' BU,put v=some BU→VR ρ v v'→Br ρ BU (fr.finish v') [])∧
   (∀main cs w v' w' es,(k.Di Ap.toArray).runT P w #[EZ f]=(.ok v' w',#[EZ f]++es)→(∀e∈es,e.sync=true∧∀g,e.loc≠ .mark (.extern g))→stepG P main (G fr cs) w= .go (G (fr.finish v') cs) w' es)∧
   (∀main cs w w' es,(k.Di Ap.toArray).runT P w #[EZ f]=(.halt .blocked w',es)→stepG P main (G fr cs) w= .go {G fr cs with status:= .blocked} w' #[]):=by
 obtain⟨all,i,o,l,kk,hm,ht,hk,hw,hx,BO⟩:=h;obtain⟨Dj,ho,A9,rest,m,e,E0,Ky⟩:=hf.ops ht;have C6:=hE o A9;unfold LO at hx;split at hx
 ·rename_i cl A5;obtain⟨callee,AAe,EY⟩:=cl;simp only at hx;split at hx
  ·rename_i fo;split at hx
   ·rename_i g bJ bs' e1;split at hx
    ·rename_i e2 e3;split at hx
     ·rename_i k' e4;split at hx
      ·rename_i Of e5;cases hx;have h1:=C6 fo (by simp[A5,Op.operands,Call.operands]) _ e1;have h2:=DO C6 (fun z hz=>by rw[A5]; simp[Op.operands,Call.operands]at hz ⊢; exact .inr hz) e5;have Gz:fr.eval fo= .func (.func g) #[] #[]:=by
        generalize fr.eval fo=u at h1;cases h1 with
        |func Gv Au Li =>
         cases Gv;rw[e2]at Au;rw[e3]at Li;have l1:=Au.length;have l2:=Li.length;simp only[List.length_nil,FC]at l1 l2;rw[Eo l1.symm,Eo l2.symm]
       have BB:execOp fr.eval o=callFunc g (AAe.map fr.eval):=by
        unfold execOp;rw[A5];simp only[resolve,Gz];show callFunc g ((#[]++AAe.map fr.eval)++ #[])=_;rw[Array.empty_append,DF]
       have WT:(AAe.map fr.eval).toList.toArray=AAe.map fr.eval:=E3;have N4:=BE (fun _ _ t v _ _ hv=>A9 t v hv) hw;refine⟨g,(AAe.map fr.eval).toList,Dj,by simpa using h2,fun v v' BU hp hv=> ?_,fun main cs w v' w' es AT JJ=> ?_,fun main cs w w' es AT=> ?_⟩
       ·rw[BO]at hp;obtain⟨tm,h1,h2⟩:=CL.1 hp;subst h2;exact hf.put ht h1 hv
       ·rw[WT]at AT;have Aq:=Cv (P:=P) (main:=main) (cs:=cs) ((Br.run hf) hm) e ho N4 (by rw[hf.kind]; exact hk) (fun c hc=>by rw[A5]at hc; cases hc) (.inl (by rw[BB]; exact KJ (Au g _ e4) AT));rw[KI _ _ _ JJ]at Aq;exact Aq
       ·rw[WT]at AT;rw[HQ ((Br.run hf) hm) e ho N4 (fun c hc=>by rw[A5]at hc; cases hc)];unfold stepG.apply;have Gl:(execOp fr.eval o).runT P w #[]=(.halt .blocked w',es):=by
         rw[BB];obtain⟨fn,h1,h2,h3,h4,h5⟩:=(Au g _ e4).ex;unfold callFunc;refine(AB (s:=program) (a:=P) (w':=w) (es':= #[]) rfl).trans ?_;simp only[h1,h2,h3,Ad,Bq,BS];refine(AB (s:=mark (.extern g)) (a:=()) (w':=w) (es':= #[EZ g]) rfl).trans ?_;simp only[h4,h5];show((k.Di (AAe.map fr.eval)).bind fun v=>Sem.pure (Next.value v)).runT P w #[EZ g]=_;rw[BT,AT]
        have Hs:(fr.kind==CallKind.early)=false:=by rw[hf.kind]; simpa using hk
        simp only[Ad,Gl,Hs,Bq,BS,seen_none];rfl
      ·cases hx
     ·cases hx
    ·cases hx
   ·cases hx
  ·cases hx
 ·cases hx
section
variable{P:Program}{ty:TypeId}{w:World}{b:Nat}{st sm:Int}{f:FuncId}
theorem WgAt.ba(h:WgAt ty b w st sm):(w.shape? b).isSome=true:=by
 unfold WgAt wgBlock at h;simp only[World.shape?,h];rfl
theorem SS(h:WgAt ty b w st sm)(es:Array Event):(Extern.Atomic.read (.int .u64) ⟨b,0,none⟩).runT P w es=(.ok (.int .u64 st) w,es.push ⟨.cell ⟨b,0,none⟩,false,true⟩):=by
 unfold Extern.Atomic.read;refine(AB (FL (show w.cell? ⟨b,0,none⟩=some (.int .u64 st)from h.cellSt) _)).trans ?_;simp only[Ad];rfl
theorem bT(h:WgAt ty b w st sm)(ky:IntKind)(y:Int):((XK.add .u64).Di #[.pointer (some ⟨b,0,none⟩),.int ky y]).runT P w #[EZ f] =
  (.ok (.int .u64 (IntKind.u64.wrap (st+y))) (w.setCell (stA b) (.int .u64 (IntKind.u64.wrap (st+y)))),#[EZ f]++ #[⟨.cell ⟨b,0,none⟩,false,true⟩,⟨.cell ⟨b,0,none⟩,true,true⟩]):=by
 show(Extern.Atomic.read (.int .u64) ⟨b,0,none⟩ >>= fun old=>do
  let new ← Op.intArith .add .u64 (← asInt old) (← asInt (.int ky y))
  store ⟨b,0,none⟩ new .atomic
  pure (if true=true then new else old)).runT P w _=_
 refine(AB (SS h _)).trans ?_;show(do
  store ⟨b,0,none⟩ (.int .u64 (IntKind.u64.wrap (st+y))) .atomic
  pure (Value.int .u64 (IntKind.u64.wrap (st+y))):Sem Value).runT P w _=_
 exact(AB (Cb (show w.cell? ⟨b,0,none⟩=some (.int .u64 st)from h.cellSt) (h.thaw 0) rfl _)).trans rfl
theorem SU(h:WgAt ty b w st sm):((XK.load .u64).Di #[.pointer (some ⟨b,0,none⟩)]).runT P w #[EZ f]=(.ok (.int .u64 st) w,#[EZ f]++ #[⟨.cell ⟨b,0,none⟩,false,true⟩]):=by
 show(Extern.Atomic.read (.int .u64) ⟨b,0,none⟩).runT P w _=_;exact(SS h _).trans rfl
theorem bR(h:WgAt ty b w st sm)(ky:IntKind)(y:Int):(XK.store.Di #[.pointer (some ⟨b,0,none⟩),.int ky y]).runT P w #[EZ f]=(.ok undef (w.setCell (stA b) (.int ky y)),#[EZ f]++ #[⟨.cell ⟨b,0,none⟩,true,true⟩]):=by
 show(store ⟨b,0,none⟩ (.int ky y) .atomic >>= fun _=>pure Extern.Atomic.none_:Sem Value).runT P w _=_;exact(AB (Cb (show w.cell? ⟨b,0,none⟩=some (.int .u64 st)from h.cellSt) (h.thaw 0) rfl _)).trans rfl
theorem bS(h:WgAt ty b w st sm)(ky kz:IntKind)(y z:Int):((XK.Lv .u64).Di #[.pointer (some ⟨b,0,none⟩),.int ky y,.int kz z]).runT P w #[EZ f] =
  if(st==y)=true then(.ok (.bool true) (w.setCell (stA b) (.int kz z)),#[EZ f]++ #[⟨.cell ⟨b,0,none⟩,false,true⟩,⟨.cell ⟨b,0,none⟩,true,true⟩])else(.ok (.bool false) w,#[EZ f]++ #[⟨.cell ⟨b,0,none⟩,false,true⟩]):=by
 have G4:((XK.Lv .u64).Di #[.pointer (some ⟨b,0,none⟩),.int ky y,.int kz z]).runT P w #[EZ f]=(do
   if(st==y)=true then Go.store ⟨b,0,none⟩ (.int kz z) .atomic
   pure (.bool (st==y)):Sem Value).runT P w (#[EZ f].push ⟨.cell ⟨b,0,none⟩,false,true⟩):=by
  show(Extern.Atomic.touchesFrozen ⟨b,0,none⟩ >>= fun z=>_).runT P w _=_;refine(AB (PT (WgAt.ba h) (h.thaw 0) _)).trans ?_;show(Extern.Atomic.read (.int .u64) ⟨b,0,none⟩ >>= fun old=>_).runT P w _=_;exact(AB (SS h _)).trans rfl
 rw[G4];cases rI:(st==y)with
 |true =>
  simp only[Ad];exact(AB (Cb (show w.cell? ⟨b,0,none⟩=some (.int .u64 st)from h.cellSt) (h.thaw 0) rfl _)).trans rfl
 |false=>rfl
theorem M0(h:WgAt ty b w st sm)(t:List Value)(es:Array Event):(Extern.Sync.count (.pointer (some ⟨b,1,none⟩)::t).toArray).runT P w es=(.ok (⟨b,1,none⟩,sm) w,es.push ⟨.cell ⟨b,1,none⟩,false,true⟩):=by
 unfold Extern.Sync.count;have:((Value.pointer (some ⟨b,1,none⟩)::t).toArray)[0]? =some (.pointer (some ⟨b,1,none⟩)):=by simp
 rw[this];refine(AB (FL (show w.cell? ⟨b,1,none⟩=some (.int .u32 sm)from h.cellSm) _)).trans ?_;rfl
theorem HI(m:Mark)(w:World)(es:Array Event):(mark m).runT P w es=(.ok () w,es.push ⟨.mark m,false,true⟩):=rfl
def JC(b:Nat):Array Event:= #[⟨.mark .disable,false,true⟩,⟨.cell ⟨b,1,none⟩,false,true⟩,⟨.cell ⟨b,1,none⟩,true,true⟩,⟨.mark .enable,false,true⟩]
theorem gv(h:WgAt ty b w st 1)(t:List Value):(XK.EN.Di (.pointer (some ⟨b,1,none⟩)::t).toArray).runT P w #[EZ f]=(.ok undef (w.setCell (smA b) (.int .u32 0)),#[EZ f]++JC b):=by
 show(Extern.Sync.semacquire _).runT P w _=_;unfold Extern.Sync.semacquire;refine(AB (HI _ _ _)).trans ?_;refine(AB (M0 h t _)).trans ?_;show((if(1:Int)=0 then Sem.halt .blocked else store ⟨b,1,none⟩ (.int .u32 (1-1)) .atomic >>= fun _=>mark .enable >>= fun _=>pure Extern.Sync.none_:Sem Value)).runT P w _=_;rw[AA (by decide)];refine(AB (Cb (show w.cell? ⟨b,1,none⟩=some (.int .u32 1)from h.cellSm) (h.thaw 1) rfl _)).trans ?_;rfl
theorem bn(h:WgAt ty b w st 0)(t:List Value): ∃es,(XK.EN.Di (.pointer (some ⟨b,1,none⟩)::t).toArray).runT P w #[EZ f]=(.halt .blocked w,es):=by
 refine⟨(#[EZ f].push ⟨.mark .disable,false,true⟩).push ⟨.cell ⟨b,1,none⟩,false,true⟩, ?_⟩;show(Extern.Sync.semacquire _).runT P w _=_;unfold Extern.Sync.semacquire;refine(AB (HI _ _ _)).trans ?_;refine(AB (M0 h t _)).trans ?_;rfl
theorem gu(h:WgAt ty b w st 0)(t:List Value):(XK.FJ.Di (.pointer (some ⟨b,1,none⟩)::t).toArray).runT P w #[EZ f]=(.ok undef (w.setCell (smA b) (.int .u32 1)),#[EZ f]++JC b):=by
 show(Extern.Sync.semrelease _).runT P w _=_;unfold Extern.Sync.semrelease;refine(AB (HI _ _ _)).trans ?_;refine(AB (M0 h t _)).trans ?_;show(store ⟨b,1,none⟩ (.int .u32 (IntKind.u32.wrap (0+1))) .atomic >>= fun _=>mark .enable >>= fun _=>pure Extern.Sync.none_:Sem Value).runT P w _=_;refine(AB (Cb (show w.cell? ⟨b,1,none⟩=some (.int .u32 0)from h.cellSm) (h.thaw 1) rfl _)).trans ?_;rfl
end
theorem I6(b:Nat)(es:Array Event)(h: ∀e∈es,(∃k wr,e=⟨.cell ⟨b,k,none⟩,wr,true⟩)∨((MemAct.ofEvent e).touch?=none∧∀a,MemAct.ofEvent e≠ .mark (.release a))∨(∃k,e=⟨.mark (.read ⟨b,k,none⟩),false,true⟩)∨∃k,e=⟨.mark (.write ⟨b,k,none⟩),false,true⟩):GV b es:=by
 refine⟨fun e he a=>by rcases h e he with⟨k,wr,rfl⟩|h|⟨k,rfl⟩|⟨k,rfl⟩<;>first|exact h.2 a|simp[MemAct.ofEvent], ?_⟩;intro e he x hx;rcases h e he with⟨k,wr,rfl⟩|h|⟨k,rfl⟩|⟨k,rfl⟩
 ·have:x=⟨.cell ⟨b,k,none⟩,wr,.atomic⟩:=by
   cases wr<;>exact(As hx).symm
  subst this;exact⟨rfl,by simp⟩
 ·rw[h.1]at hx; cases hx
 ·cases hx; exact⟨rfl,by simp⟩
 ·cases hx; exact⟨rfl,by simp⟩
section
variable{P:Program}{ty:TypeId}{Post:Value→World→Prop}{main:Bool}
theorem Hv{d:Nat}{b:Nat}{es:Array Event}(h:es= #[⟨.cell ⟨b,0,none⟩,false,true⟩,⟨.cell ⟨b,0,none⟩,true,true⟩]∨es= #[⟨.cell ⟨b,0,none⟩,false,true⟩]∨es= #[⟨.cell ⟨b,0,none⟩,true,true⟩]):deafBehind d es=d :=
 Cl _ _ fun e he=>by
  rcases h with rfl|rfl|rfl
  ·simp at he;rcases he with rfl|rfl<;>exact⟨(fun h=>by cases h),(fun h=>by cases h)⟩
  ·simp at he;subst he;exact⟨(fun h=>by cases h),(fun h=>by cases h)⟩
  ·simp at he;subst he;exact⟨(fun h=>by cases h),(fun h=>by cases h)⟩
theorem L7{b:Nat}{es:Array Event}(h:es= #[⟨.cell ⟨b,0,none⟩,false,true⟩,⟨.cell ⟨b,0,none⟩,true,true⟩]∨es= #[⟨.cell ⟨b,0,none⟩,false,true⟩]∨es= #[⟨.cell ⟨b,0,none⟩,true,true⟩]):GV b es :=
 I6 b es fun e he=> .inl (by
  rcases h with rfl|rfl|rfl
  ·simp at he;rcases he with rfl|rfl
   ·exact⟨0,_,rfl⟩
   ·exact⟨0,_,rfl⟩
  ·simp at he;subst he;exact⟨0,_,rfl⟩
  ·simp at he;subst he;exact⟨0,_,rfl⟩)
theorem Hu{b:Nat}{es:Array Event}(h:es= #[⟨.cell ⟨b,0,none⟩,false,true⟩,⟨.cell ⟨b,0,none⟩,true,true⟩]∨es= #[⟨.cell ⟨b,0,none⟩,false,true⟩]∨es= #[⟨.cell ⟨b,0,none⟩,true,true⟩]): ∀e∈es,e.sync=true∧∀g,e.loc≠ .mark (.extern g):=by
 rcases h with rfl|rfl|rfl<;>simp
theorem AU.ao{xs:T XK}(Au:C9 P xs){s:DS}{k:XK}{vs:List Value}{put:Value→Option PF}(Bg:Kd xs s k vs put){pg:PG}{a:Nat}{φ:Lz}(Az:pg.wg=some (a,φ)){l:List Dm}
  (h: ∀(n:Nat) (c:Ctx) (fr:Frame) (cs':List Frame) (w:World) (Γ:CZ) (b f:Nat) (Ap:List Value) (ρ:Ah) (B:RB),ρ a=some B→B.blk=b→CE ρ vs Ap→c.AP=some Γ→Γ.wg=some (b,φ)→c.d=s.d→
   (∀cs w v' w' es,(k.Di Ap.toArray).runT P w #[EZ f]=(.ok v' w',#[EZ f]++es)→(∀e∈es,e.sync=true∧∀g,e.loc≠ .mark (.extern g))→stepG P main (G fr cs) w= .go (G (fr.finish v') cs) w' es)→
   (∀cs w w' es,(k.Di Ap.toArray).runT P w #[EZ f]=(.halt .blocked w',es)→stepG P main (G fr cs) w= .go {G fr cs with status:= .blocked} w' #[])→
   (∀w₁,AS c w w₁→∀ψ v v' BU,put v=some BU→VR ρ v v'→(⟨.AP {pg with wg:=some (a,ψ)},⟨BU,s.cs,s.H,s.d⟩⟩:Dm)∈l→
    W P ty Post main n {c with AP:=some (Γ.ph b ψ)} (G (fr.finish v') cs') w₁∧∀w₂,ES b w₁ w₂→Apart c b→W P ty Post main n {c with AP:=some (Γ.ph b ψ)} (G (fr.finish v') cs') w₂)→
   W P ty Post main (n+1) c (G fr cs') w):AU P ty Post main ⟨.AP pg,s⟩ l:=by
 refine⟨1,fun E hb hg n hl ρ c g w Γ hΓ hA IX=> ?_⟩;replace IX:DR {E with AP:=some Γ} ρ s c g w:=IX;cases IX with
 |mk hf hc D7 ET hH AO Dx h1 h2 h3 Bv =>
  rename_i fr cs pd pds;have h3:c.AP=some Γ:=h3;obtain⟨B,hB,Yu⟩: ∃B,ρ a=some B∧Γ.wg=some (B.blk,φ):=by
   have h:=hΓ.wg;rw[Az]at h;generalize Γ.wg=z at h ⊢;cases h with
   |some hB=>exact⟨_,hB,rfl⟩
  obtain⟨f,Ap,Dj,hx,BO,Bh,Bn⟩:=Bg.step Au hf (fun o A9=>CJ.of A9 hH o);refine h n c fr (cs++E.base) w Γ B.blk f Ap ρ B hB rfl hx h3 Yu Dx (Bh main) (Bn main) fun w₁ r ψ v v' BU hp hv DJ=> ?_;have vA:Q2 main E.sz ρ {pg with wg:=some (a,ψ)} (Γ.ph B.blk ψ):=⟨hΓ.ch,hΓ.cap,hΓ.closed,.some hB,hΓ.kids,hΓ.AY,hΓ.mn⟩;have Oz:DR {E with AP:=some (Γ.ph B.blk ψ)} ρ ⟨BU,s.cs,s.H,s.d⟩ {c with AP:=some (Γ.ph B.blk ψ)} (G (fr.finish v') (cs++E.base)) w₁:=by
   subst Dj;exact .mk (BO v v' BU hp hv) hc (by simpa using D7) (by simpa using ET) ((hH.rely r).ctx rfl rfl) ((AO.rely r).ctx rfl rfl) Dx h1 h2 rfl (by
    have:=Bv.rely r;exact⟨this.m,this.r,this.size,this.shape,this.tape,this.os,this.output,this.Fq,this.fresh,this.AL,this.al.up (AN _) fun _ h=>h⟩)
  have wO:K7 E ρ {c with AP:=some (Γ.ph B.blk ψ)} w₁ {pg with wg:=some (a,ψ)}:=(hA.rely r).step rfl (fun _ h=>h) (fun _ _=>rfl) (AN _);exact⟨hl _ DJ ρ _ _ w₁ _ vA wO Oz,fun w₂ ho ha=>hl _ DJ ρ _ _ w₂ _ vA (wO.step rfl (fun _ h=>h) (fun b _=>ho.shape b) (by rw[ho.size]; exact AN _)) (Oz.apart ho ha)⟩
theorem NZ{ρ:Ah}{a off:Nat}{B:RB}(hB:ρ a=some B){t Ap:List Value}(h:CE ρ (.pointer (some ⟨a,off,none⟩)::t) Ap): ∃t',Ap= .pointer (some ⟨B.blk,off,none⟩)::t'∧CE ρ t t':=by
 cases h with
 |cons h ht =>
  cases h with
  |ptr h =>
   have h:ρ a=some _:=h;rw[hB]at h;cases h;exact⟨_,rfl,ht⟩
theorem AU.XP{xs:T XK}(Au:C9 P xs){s:DS}{put:Value→Option PF}{pg:PG}{a mx:Nat}{ky:IntKind}(Bg:Kd xs s (.add .u64) [.pointer (some ⟨a,0,none⟩),.int ky 4294967296] put)(Az:pg.wg=some (a,.idle mx))(hd:0<s.d)(gS:mx<4){l:List Dm}
  (hl: ∀v:Nat,v≤mx→∃BU,put (.int .u64 ((v+1)*KK))=some BU∧(⟨.AP {pg with wg:=some (a,.pend (mx+1))},⟨BU,s.cs,s.H,s.d⟩⟩:Dm)∈l):AU P ty Post main ⟨.AP pg,s⟩ l:=by
 refine AU.ao Au Bg Az fun n c fr cs' w Γ b f Ap ρ B hB fF hx h3 Yu Dx Bh _ hk=> ?_;refine W.wY rfl h3 Yu (by omega) gS fun w₁ r v hv Hq=> ?_;subst fF;obtain⟨t',rfl,ht⟩:=NZ hB hx;cases ht with
 |cons h ht =>
  cases h;cases ht;have QS:IntKind.u64.wrap ((v:Int)*KK+4294967296)=(v+1)*KK:=by
   have:v=0∨v=1∨v=2∨v=3:=by omega
   rcases this with rfl|rfl|rfl|rfl<;>rfl
  have AT:=bT (P:=P) (f:=f) Hq ky 4294967296;rw[QS]at AT;obtain⟨BU,p1,p2⟩:=hl v hv;exact⟨_,_,Bh cs' w₁ _ _ _ AT (Hu (.inl rfl)),rfl,L7 (.inl rfl),Hv (.inl rfl),fun Q7=>(hk w₁ r _ _ _ _ p1 (.int _ _) p2).2 _ (ES.setCell B.blk 0 w₁ _) Q7⟩
theorem AU.O6{xs:T XK}(Au:C9 P xs){s:DS}{put:Value→Option PF}{pg:PG}{a mx:Nat}(Bg:Kd xs s (.load .u64) [.pointer (some ⟨a,0,none⟩)] put)(Az:pg.wg=some (a,.idle mx))(hd:0<s.d){l:List Dm}
  (hl: ∀v:Nat,v≤mx→∃BU,put (.int .u64 (v*KK))=some BU∧(⟨.AP {pg with wg:=some (a,if v=0 then .fin else .w2 v)},⟨BU,s.cs,s.H,s.d⟩⟩:Dm)∈l):AU P ty Post main ⟨.AP pg,s⟩ l:=by
 refine AU.ao Au Bg Az fun n c fr cs' w Γ b f Ap ρ B hB fF hx h3 Yu Dx Bh _ hk=> ?_;refine W.oj rfl h3 Yu (by omega) fun w₁ r v hv Hq=> ?_;subst fF;obtain⟨t',rfl,ht⟩:=NZ hB hx;cases ht;have AT:=SU (P:=P) (f:=f) Hq;obtain⟨BU,p1,p2⟩:=hl v hv;exact⟨_,_,Bh cs' w₁ _ _ _ AT (Hu (.inr (.inl rfl))),rfl,L7 (.inr (.inl rfl)),Hv (.inr (.inl rfl)),(hk w₁ r _ _ _ _ p1 (.int _ _) p2).1⟩
theorem AU.XO{xs:T XK}(Au:C9 P xs){s:DS}{put:Value→Option PF}{pg:PG}{a vs:Nat}{ky:IntKind}(Bg:Kd xs s (.Lv .u64) [.pointer (some ⟨a,0,none⟩),.int ky (vs*KK),.int .u64 (vs*KK+1)] put)(Az:pg.wg=some (a,.w2 vs))(hd:0<s.d)(Zk:vs≠0){l:List Dm}
  (hl: ∃BU,put (.bool true)=some BU∧(⟨.AP {pg with wg:=some (a,.reg)},⟨BU,s.cs,s.H,s.d⟩⟩:Dm)∈l)
  (Tn: ∀v:Nat,v<vs→∃BU,put (.bool false)=some BU∧(⟨.AP {pg with wg:=some (a,.idle v)},⟨BU,s.cs,s.H,s.d⟩⟩:Dm)∈l):AU P ty Post main ⟨.AP pg,s⟩ l:=by
 refine AU.ao Au Bg Az fun n c fr cs' w Γ b f Ap ρ B hB fF hx h3 Yu Dx Bh _ hk=> ?_;subst fF;obtain⟨t',rfl,ht⟩:=NZ hB hx;cases ht with
 |cons h ht =>
  cases h;cases ht with
  |cons h ht =>
   cases h;cases ht;refine W.wX rfl h3 Yu (by omega) Zk (fun w₁ r Hq=> ?_) fun w₁ r v hv Hq=> ?_
   ·have AT:=bS (P:=P) (f:=f) Hq ky .u64 (vs*KK) (vs*KK+1);rw[AD (by simp)]at AT;obtain⟨BU,p1,p2⟩:=hl;exact⟨_,_,Bh cs' w₁ _ _ _ AT (Hu (.inl rfl)),rfl,L7 (.inl rfl),Hv (.inl rfl),fun Q7=>(hk w₁ r _ _ _ _ p1 (.bool true) p2).2 _ (ES.setCell B.blk 0 w₁ _) Q7⟩
   ·have AT:=bS (P:=P) (f:=f) Hq ky .u64 (vs*KK) (vs*KK+1);rw[AA (by
     intro e;have:=TW (eq_of_beq e);omega)]at AT
    obtain⟨BU,p1,p2⟩:=Tn v hv;exact⟨_,_,Bh cs' w₁ _ _ _ AT (Hu (.inr (.inl rfl))),rfl,L7 (.inr (.inl rfl)),Hv (.inr (.inl rfl)),(hk w₁ r _ _ _ _ p1 (.bool false) p2).1⟩
theorem bj(b:Nat):GV b (JC b):=I6 b _ fun e he=>by
 simp[JC]at he;rcases he with rfl|rfl|rfl|rfl
 ·exact .inr (.inl ⟨rfl,by simp[MemAct.ofEvent]⟩)
 ·exact .inl ⟨1,_,rfl⟩
 ·exact .inl ⟨1,_,rfl⟩
 ·exact .inr (.inl ⟨rfl,by simp[MemAct.ofEvent]⟩)
theorem Um(b:Nat): ∀e∈JC b,e.sync=true∧∀g,e.loc≠ .mark (.extern g):=by simp[JC]
theorem Un(b d:Nat):deafBehind d (JC b)=d:=by
 simp only[JC,deafBehind,List.foldl_toArray'];simp
theorem AU.Ud{xs:T XK}(Au:C9 P xs){s:DS}{put:Value→Option PF}{pg:PG}{a:Nat}{t:List Value}(Bg:Kd xs s .EN (.pointer (some ⟨a,1,none⟩)::t) put)(Az:pg.wg=some (a,.reg))(hd:0<s.d){l:List Dm}
  (hl: ∃BU,put undef=some BU∧(⟨.AP {pg with wg:=some (a,.w4)},⟨BU,s.cs,s.H,s.d⟩⟩:Dm)∈l):AU P ty Post main ⟨.AP pg,s⟩ l:=by
 refine AU.ao Au Bg Az fun n c fr cs' w Γ b f Ap ρ B hB fF hx h3 Yu Dx Bh Bn hk=> ?_;subst fF;obtain⟨t',rfl,ht⟩:=NZ hB hx;refine W.wZ rfl h3 Yu (by omega) rfl (fun w₁ r st Hq=> ?_) fun w₁ r Hq=> ?_
 ·obtain⟨es,AT⟩:=bn (P:=P) (f:=f) Hq t';exact Bn cs' w₁ _ _ AT
 ·have AT:=gv (P:=P) (f:=f) Hq t';obtain⟨BU,p1,p2⟩:=hl;exact⟨_,_,Bh cs' w₁ _ _ _ AT (Um _),rfl,bj _,Un _ _,fun Q7=>(hk w₁ r _ _ _ _ p1 (.tuple .nil) p2).2 _ (ES.setCell B.blk 1 w₁ _) Q7⟩
theorem AU.XN{xs:T XK}(Au:C9 P xs){s:DS}{put:Value→Option PF}{pg:PG}{a:Nat}(Bg:Kd xs s (.load .u64) [.pointer (some ⟨a,0,none⟩)] put)(Az:pg.wg=some (a,.w4))(hd:0<s.d){l:List Dm}
  (hl: ∃BU,put (.int .u64 0)=some BU∧(⟨.AP {pg with wg:=some (a,.fin)},⟨BU,s.cs,s.H,s.d⟩⟩:Dm)∈l):AU P ty Post main ⟨.AP pg,s⟩ l:=by
 refine AU.ao Au Bg Az fun n c fr cs' w Γ b f Ap ρ B hB fF hx h3 Yu Dx Bh _ hk=> ?_;refine W.wW rfl h3 Yu (by omega) fun w₁ r Hq=> ?_;subst fF;obtain⟨t',rfl,ht⟩:=NZ hB hx;cases ht;have AT:=SU (P:=P) (f:=f) Hq;obtain⟨BU,p1,p2⟩:=hl;exact⟨_,_,Bh cs' w₁ _ _ _ AT (Hu (.inr (.inl rfl))),rfl,L7 (.inr (.inl rfl)),Hv (.inr (.inl rfl)),(hk w₁ r _ _ _ _ p1 (.int _ _) p2).1⟩
theorem AU.XJ{xs:T XK}(Au:C9 P xs){s:DS}{put:Value→Option PF}{pg:PG}{a off:Nat}{φ:Lz}{k:XK}{t:List Value}(CP:k= .read∨k= .write)(Bg:Kd xs s k (.pointer (some ⟨a,off,none⟩)::t) put)(Az:pg.wg=some (a,φ))(hφ:φ≠ .fin){l:List Dm}
  (hl: ∃BU,put undef=some BU∧(⟨.AP pg,⟨BU,s.cs,s.H,s.d⟩⟩:Dm)∈l):AU P ty Post main ⟨.AP pg,s⟩ l:=by
 refine AU.ao Au Bg Az fun n c fr cs' w Γ b f Ap ρ B hB fF hx h3 Yu Dx Bh _ hk=> ?_;refine W.wV rfl h3 Yu hφ fun w₁ r=> ?_;subst fF;obtain⟨t',rfl,ht⟩:=NZ hB hx;obtain⟨BU,p1,p2⟩:=hl;have rO:({pg with wg:=some (a,φ)}:PG)=pg:=by rw[← Az]
 rcases CP with rfl|rfl
 ·refine⟨_,_,Bh cs' w₁ undef w₁ #[⟨.mark (.read ⟨B.blk,off,none⟩),false,true⟩] rfl (by simp),rfl,I6 _ _ fun e he=> ?_, ?_,(hk w₁ r φ _ _ _ p1 (.tuple .nil) (by rw[rO]; exact p2)).1⟩
  ·simp at he; subst he; exact .inr (.inr (.inl ⟨off,rfl⟩))
  ·exact Cl _ _ fun e he=>by
    simp at he; subst he; exact⟨(fun h=>by cases h),(fun h=>by cases h)⟩
 ·refine⟨_,_,Bh cs' w₁ undef w₁ #[⟨.mark (.write ⟨B.blk,off,none⟩),false,true⟩] rfl (by simp),rfl,I6 _ _ fun e he=> ?_, ?_,(hk w₁ r φ _ _ _ p1 (.tuple .nil) (by rw[rO]; exact p2)).1⟩
  ·simp at he; subst he; exact .inr (.inr (.inr ⟨off,rfl⟩))
  ·exact Cl _ _ fun e he=>by
    simp at he; subst he; exact⟨(fun h=>by cases h),(fun h=>by cases h)⟩
end
end Go.Gd
namespace Go.Gd
open Go Go.Gw Go.Conc
def Jh(kv:KV)(nx:Nat):Nm:=fun x=>cond (Nat.blt x kv.n0) (cond (kv.low.any (Nat.beq x)) (some x) none) (cond (kv.news.any fun p=>Nat.beq p.1 x) (some (nx+(x-kv.n0))) none)
def lU(μ:Nm)(y:Nat):AI→AI
 | .cells t size elem es _ _ _ _=> .cells (sQ μ t size) size elem es false y true false
 | .obj o=> .obj o
def G8(kv:KV)(H:PH):PH :=
 ⟨H.next+(kv.n1-kv.n0),Ag (kv.news.map fun p=>(H.next+(p.1-kv.n0),lU (Jh kv H.next) (H.next+(p.1-kv.n0)) p.2)) H.t,H.ng,Ag (kv.news.map fun p=>(H.next+(p.1-kv.n0),[H.next+(p.1-kv.n0)])) H.BF⟩
def XZ(kv:KV)(H H':PH)(p:Nat×AI):Bool :=
 Nat.ble kv.n0 p.1&&(Nat.blt p.1 kv.n1&&((match H.BF.get (H.next+(p.1-kv.n0))with|none=>true|some _=>false)&&((match H'.BF.get (H.next+(p.1-kv.n0))with|some [y]=>Nat.beq y (H.next+(p.1-kv.n0))|_=>false)&&(match p.2 with
  | .cells t size elem es _ _ _ _=>match H'.t.get (H.next+(p.1-kv.n0))with
   |some (.cells t' PQ OB es' false f' true false)=>Nat.beq size PQ&&(Nat.beq elem OB&&(Nat.beq es es'&&(Nat.beq f' (H.next+(p.1-kv.n0))&&(!Nat.beq f' 0&&UB (Jh kv H.next) true t t' size))))
   |_=>false
  | .obj _=>false))))
def Rr(kv:KV)(H H':PH):Bool :=
 Nat.ble kv.n0 kv.n1&&(Nat.ble (H.next+(kv.n1-kv.n0)) (2^T.deep)&&(Nat.ble H.ng H.next&&kv.news.all (XZ kv H H')))
structure UQ(kv:KV)(H H':PH)(x:Nat)(o:AI):Prop where
 ge:kv.n0≤x
 lt:x<kv.n1
 tf:H.BF.get (H.next+(x-kv.n0))=none
 fam:H'.BF.get (H.next+(x-kv.n0))=some [H.next+(x-kv.n0)]
 cells: ∃(t:T Value) (size:Nat) (elem:TypeId) (es:Nat) (own:Bool) (f:Nat) (ok D4:Bool) (t':T Value),o= .cells t size elem es own f ok D4∧H'.t.get (H.next+(x-kv.n0))=some (.cells t' size elem es false (H.next+(x-kv.n0)) true false)∧H.next+(x-kv.n0)≠0∧
  ∀k,k<size→∃v0 v,t.get k=some v0∧t'.get k=some v∧VM (Jh kv H.next) v0 v
theorem Ns{kv:KV}{H H':PH}{x:Nat}{o:AI}(h:XZ kv H H' (x,o)=true):UQ kv H H' x o:=by
 unfold XZ at h;simp only[AF]at h;obtain⟨h1,h2,h3,h4,h5⟩:=h;refine⟨AH h1,AH h2, ?_, ?_, ?_⟩
 ·split at h3
  ·assumption
  ·cases h3
 ·split at h4
  ·rename_i y e;rw[e,AJ h4]
  ·cases h4
 ·split at h5
  ·rename_i t size elem es own f ok D4;split at h5
   ·rename_i t' PQ OB es' f' e;simp only[AF,BI]at h5;obtain⟨g1,g2,g3,g4,g5,g6⟩:=h5;have g1:=AJ g1;have g2:=AJ g2;have g3:=AJ g3;have g4:=AJ g4;subst g1 g2 g3 g4;exact⟨t,size,elem,es,own,f,ok,D4,t',rfl,e,GK g5,fun k hk=>TC (Lu g6 k hk)⟩
   ·cases h5
  ·cases h5
section
variable{ρ ρ1 kr:Ah}{H:PH}{c:Ctx}{w:World}{kv:KV}{Rm:Addr→Prop}{v':Value}{ws:Nat}
def GG(ρ ρ1:Ah)(kv:KV)(H:PH):Ah:=fun y=>if y<H.next then ρ y else if(kv.news.any fun p=>Nat.beq p.1 (kv.n0+(y-H.next)))=true then ρ1 (kv.n0+(y-H.next))else none
theorem CG{y:Nat}(h:y<H.next):GG ρ ρ1 kv H y=ρ y:=AD h
theorem HU{y:Nat}{B:RB}(h: ¬y<H.next)(hB:GG ρ ρ1 kv H y=some B): ∃p∈kv.news,p.1=kv.n0+(y-H.next)∧ρ1 p.1=some B:=by
 unfold GG at hB;rw[AA h]at hB;split at hB
 ·rename_i hn;obtain⟨p,hp,e⟩:=Cp.1 hn;have e:=AJ e;exact⟨p,hp,e,e ▸hB⟩
 ·cases hB
theorem XY(hH:HR ρ H c w)(WM:kr.le ρ)(QU: ∀x∈kv.low,∃B,kr x=some B∧ρ1 x=some B)(x y:Nat)(B:RB)(hm:Jh kv H.next x=some y)(hB:ρ1 x=some B):GG ρ ρ1 kv H y=some B:=by
 unfold Jh at hm;cases h1:Nat.blt x kv.n0 with
 |true =>
  rw[h1]at hm;cases h2:kv.low.any (Nat.beq x)with
  |false=>rw[h2]at hm; cases hm
  |true =>
   rw[h2]at hm;cases hm;obtain⟨z,hz,e⟩:=Cp.1 h2;have e:=AJ e;subst e;obtain⟨B0,a,b⟩:=QU x hz;rw[hB]at b; cases b;have hr:=WM _ _ a;rw[CG (hH.Dk _ _ hr).1];exact hr
 |false =>
  rw[h1]at hm;have h1: ¬x<kv.n0:=fun e=>by
   have:Nat.blt x kv.n0=true:=E4 e;rw[h1]at this; cases this
  cases h2:kv.news.any (fun p=>Nat.beq p.1 x)with
  |false=>rw[h2]at hm; cases hm
  |true =>
   rw[h2]at hm;cases hm;unfold GG;rw[AA (by omega),show kv.n0+(H.next+(x-kv.n0)-H.next)=x by omega,AD h2];exact hB
theorem HR.Nt(hH:HR ρ H c w)(_AO:CK c w)(WM:kr.le ρ)(QU: ∀x∈kv.low,∃B,kr x=some B∧ρ1 x=some B)(eH: ∀p∈kv.news,∃B,ρ1 p.1=some B∧ws≤B.blk∧W7 ρ1 Rm w B p.2)(ID: ∀a,Rm a→a.block<w.heap.size∧¬c.M a.block)
  (h1:kv.n0≤kv.n1) (h2:H.next+(kv.n1-kv.n0)≤2^T.deep) (_h3:H.ng≤H.next) (h4: ∀p∈kv.news,UQ kv H (G8 kv H) p.1 p.2):HR (GG ρ ρ1 kv H) (G8 kv H) {c with R:=fun a=>c.R a∨Rm a} w:=by
 have F0:ρ.le (GG ρ ρ1 kv H):=fun z Z hz=>by rw[CG (hH.Dk z Z hz).1]; exact hz
 have du:=XY hH WM QU;have hold: ∀y,y<H.next→(G8 kv H).t.get y=H.t.get y:=fun y hy=>C4 fun p hp=>by
  obtain⟨q,hq,rfl⟩:=Bd.1 hp;have a:=(h4 q hq).ge;have b:=(h4 q hq).lt;exact⟨by show H.next+(q.1-kv.n0)<_; omega,by show H.next+(q.1-kv.n0)≠y; omega⟩
 have vt: ∀f l,H.BF.get f=some l→(G8 kv H).BF.get f=some l:=fun f l hl=>by
  show(Ag _ H.BF).get f=some l;rw[C4 fun p hp=> ?_]
  ·exact hl
  ·obtain⟨q,hq,rfl⟩:=Bd.1 hp;have a:=(h4 q hq).ge;have b:=(h4 q hq).lt;refine⟨by show H.next+(q.1-kv.n0)<_; omega,fun e=> ?_⟩;have e:H.next+(q.1-kv.n0)=f:=e;have:=(h4 q hq).tf;rw[e,hl]at this;cases this
 have new: ∀y B,¬y<H.next→GG ρ ρ1 kv H y=some B→∃(t:T Value) (size:Nat) (elem:TypeId) (es:Nat) (t':T Value),(G8 kv H).t.get y=some (.cells t' size elem es false y true false)∧y≠0∧(G8 kv H).BF.get y=some [y]∧y<H.next+(kv.n1-kv.n0)∧w.shape? B.blk=some (elem,B.size)∧B.es=es∧size≤B.size∧Rm ⟨B.blk,0,none⟩∧
   (∀k,k<size→∃v0 v,t.get k=some v0∧t'.get k=some v∧VM (Jh kv H.next) v0 v)∧∀k,k<size→Rm ⟨B.blk,k,none⟩∧∃v v',t.get k=some v∧w.cell? ⟨B.blk,k,none⟩=some v'∧VR ρ1 v v':=fun y B hy hB=>by
  obtain⟨p,hp,e,XE⟩:=HU hy hB;have hr:=h4 p hp;obtain⟨B',b1,b2,b3⟩:=eH p hp;rw[XE]at b1; cases b1;have hg:=hr.ge;have hl:=hr.lt;have ey:H.next+(p.1-kv.n0)=y:=by omega
  obtain⟨t,size,elem,es,own,f,ok,D4,t',q1,q2,q3,q4⟩:=hr.cells;rw[q1]at b3;obtain⟨c1,c2,c3,c4,c5⟩:=b3;rw[ey]at q2 q3;have hf:=hr.fam;rw[ey]at hf;exact⟨t,size,elem,es,t',q2,q3,hf,by omega,c1,c2,c3,c4,q4,c5⟩
 refine⟨h2,fun y B hy=> ?_,fun y B o hy ho=> ?_,fun y y' B B' hy HM BK Bn=> ?_,fun g hg=> ?_,fun y B o hy ho hf hk=> ?_⟩
 ·by_cases Ac:y<H.next
  ·rw[CG Ac]at hy;have:=hH.Dk y B hy;exact⟨by show y<H.next+(kv.n1-kv.n0); omega,this.2⟩
  ·obtain⟨t,size,elem,es,t',q1,q2,q3,q4,q5,q6,q7,q8,q9,lY⟩:=new y B Ac hy;exact⟨q4,Ai q5⟩
 ·by_cases Ac:y<H.next
  ·rw[CG Ac]at hy;rw[hold y Ac]at ho;have hr:=(hH.rel y B o hy ho).mono F0;cases hr with
   |cells hs he hf hle Ax hR AO=>exact .cells hs he hf hle Ax (fun e e' k hk=>(hR e e' k hk).imp id .inl) AO
   |obj hw EW hM=>exact .obj hw EW hM
  ·obtain⟨t,size,elem,es,t',q1,q2,q3,q4,q5,q6,q7,q8,q9,lY⟩:=new y B Ac hy;rw[q1]at ho;cases ho;refine .cells q5 q6 (fun e=>absurd e q2) q7 (fun e=>by cases e) (fun _ _ k hk=> .inr (.inr (lY k hk).1)) (fun _ k hk=> ?_);obtain⟨v0,v,a1,a2,a3⟩:=q9 k hk;obtain⟨_,u,u',b1,b2,b3⟩:=lY k hk;rw[a1]at b1; cases b1;exact .inr ⟨v,u',a2,b2,a3.up du b3⟩
 ·have yD: ∀y B,¬y<H.next→GG ρ ρ1 kv H y=some B→(G8 kv H).still y∧¬c.M B.blk:=fun y B Ac hy=>by
   obtain⟨t,size,elem,es,t',q1,q2,q3,q4,q5,q6,q7,q8,q9,lY⟩:=new y B Ac hy;exact⟨fun o ho=>by rw[q1]at ho; cases ho; rfl,(ID _ q8).2⟩
  have sto: ∀y B,y<H.next→GG ρ ρ1 kv H y=some B→¬c.M B.blk→(G8 kv H).still y:=fun y B Ac hy hM o ho=>by
   rw[CG Ac]at hy;rw[hold y Ac]at ho;have hr:=hH.rel y B o hy ho;cases hr with
   |cells hs he hf hle Ax hR AO =>
    rename_i own _ _ _;cases own with
    |false=>rfl
    |true=>exact absurd (Ax rfl).1 hM
   |obj hw EW hm=>exact absurd hm hM
  by_cases Ac:y<H.next
  ·by_cases Gn:y'<H.next
   ·rw[CG Ac]at hy;rw[CG Gn]at HM;rcases hH.inj y y' B B' hy HM BK Bn with⟨o,o',p1,p2,p3,p4⟩|⟨q1,q2⟩
    ·exact .inl ⟨o,o',(hold y Ac).trans p1,(hold y' Gn).trans p2,p3,p4⟩
    ·exact .inr ⟨fun z hz=>q1 z ((hold y Ac).symm.trans hz),fun z hz=>q2 z ((hold y' Gn).symm.trans hz)⟩
   ·obtain⟨a,b⟩:=yD y' B' Gn HM;exact .inr ⟨sto y B Ac hy (by rw[Bn]; exact b),a⟩
  ·obtain⟨a,b⟩:=yD y B Ac hy;by_cases Gn:y'<H.next
   ·exact .inr ⟨a,sto y' B' Gn HM (by rw[← Bn]; exact b)⟩
   ·exact .inr ⟨a,(yD y' B' Gn HM).1⟩
 ·obtain⟨B,b1,b2⟩:=hH.EK g hg;exact⟨B,F0 _ _ b1,b2⟩
 ·by_cases Ac:y<H.next
  ·rw[CG Ac]at hy;rw[hold y Ac]at ho;obtain⟨l,a,b⟩:=hH.mem y B o hy ho hf hk;exact⟨l,vt _ l a,b⟩
  ·obtain⟨t,size,elem,es,t',q1,q2,q3,q4,q5,q6,q7,q8,q9,lY⟩:=new y B Ac hy;rw[q1]at ho;cases ho;exact⟨[y],q3,by simp⟩
end
section
variable{P:Program}{E7:DD}{ty:TypeId}{Post:Value→World→Prop}{main:Bool}
theorem LR.get{α β:Type}{R:α→β→Prop}: ∀{l:List α} {m:List β},LR R l m→∀(k:Nat) (b:β),m[k]? =some b→∃a,l[k]? =some a∧R a b
 |_,_,.nil,k,b,h=>by simp at h
 |_,_,.cons h t,0,b,e=>by
  simp only[CM,AE]at e;subst e;exact⟨_,rfl,h⟩
 |_,_,.cons h t,k+1,b,e=>by simpa using LR.get t k b (by simpa using e)
theorem LR.erase{α β:Type}{R:α→β→Prop}: ∀{l:List α} {m:List β},LR R l m→∀k,LR R (l.eraseIdx k) (m.eraseIdx k)
 |_,_,.nil,_k=> .nil
 |_,_,.cons _h t,0=>t
 |_,_,.cons h t,k+1=> .cons h (LR.erase t k)
theorem LR.ne_nil{α β:Type}{R:α→β→Prop}{l:List α}{m:List β}(h:LR R l m)(hl:l≠ []):m≠ []:=by
 cases h with
 |nil=>exact absurd rfl hl
 |cons _ _=>simp
theorem Up(A7:A8 P E7){o:Oper}{t:TypeId}{x:Operand}{ok:Bool}(ho:o.op= .recv t x ok){ti ei:TypeInfo}{dir:ChanDir}{elem:TypeId}{ed:TypeDesc}(e1:E7.get t=some (ti,.chan dir elem))(e2:E7.get elem=some (ei,ed)){z:Value}(hz:ei.zero=some z)(ev:Operand→Value){ch:Nat}(hx:ev x= .chan (some ch))(w:World) :
  (execOp ev o).runT P w #[]=(.ok (.comm #[rcase ch z] true (.recv ok)) w,#[]):=by
 unfold execOp;rw[ho];show((underlying t).bind fun d=>_).runT P w #[]=_;refine(AB (Aa (A7 t _ e1).2)).trans ?_;have vB:(zeroValue elem).runT P w #[]=(.ok z w,#[]):=by
  show((typeInfo elem).bind fun i=>match i.zero with|some v=>pure v|none=>unsupported (.resourceLimit "a value of more than 2^22 cells")).runT P w #[]=_;rw[AB (B6 (A7 elem _ e2).1),hz];rfl
 show((zeroValue elem).bind fun z=>Sem.pure (Next.comm #[{chan:=ev x,send:=none,zero:=z}] true (.recv ok))).runT P w #[]=_;refine(AB vB).trans ?_;rw[hx];rfl
theorem stepG_comm{fr:Frame}{cs:List Frame}{w:World}{all:Array Oper}{i:Nat}{rest:List Nat}{m:List Item}{o:Oper}(hr:fr.mode= .run)(ht:fr.todo= .inRegion all (i::rest)::m)(ho:all[i]? =some o)(hw:Region.wanted o (yielded all fr.tmps)=true)(hk:fr.kind≠ .early)(hd: ∀c,o.op= .defer c→fr.roundOf=none)
  {cases:Array CommCase} {blk:Bool} {shape:CommShape} (AT:(execOp fr.eval o).runT P w #[]=(.ok (.comm cases blk shape) w,#[])):stepG P main (G fr cs) w= .comm (G fr cs) cases blk shape w #[]:=by
 rw[HQ hr ht ho hw hd];unfold stepG.apply;have Hs:(fr.kind==CallKind.early)=false:=by simpa using hk
 simp only[Ad,AT,Hs,Bq,BS,seen_none];rfl
theorem VR.recvd{ρ:Ah}{ok b:Bool}{u v:Value}(h:VR ρ u v):VR ρ (recvd ok u b) (recvd ok v b):=by
 unfold Go.Conc.recvd;cases ok with
 |true=>exact .tuple (.cons h (.cons (.bool b) .nil))
 |false=>exact h
theorem AU.recv(A7:A8 P E7){s:DS}(hm:s.fr.mode= .run){all:Array Oper}{i:Nat}{o:Oper}{l:List Oper}{k:List Ab}(ht:s.fr.todo= .ops all i (o::l)::k)(hk:s.fr.kind≠ .early)(hw:Aj s.fr all o=some true)
  {t:TypeId} {x:Operand} {ok:Bool} (A5:o.op= .recv t x ok) {ti ei:TypeInfo} {dir:ChanDir} {elem:TypeId} {ed:TypeDesc} (e1:E7.get t=some (ti,.chan dir elem)) (e2:E7.get elem=some (ei,ed)) {z:Value} (hz:ei.zero=some z)
  {pg:PG} (hx:AQ s.H.ng s.fr x=some (.chan (some pg.ch))) (hd:s.d=0) (BW:pg.AY=none) (XC:pg.kids≠ []) (A2:pg.cap=0∧pg.closed=false∨0<pg.cap∧pg.closed=true) {L:List Dm}
  (hl: ∀q kv,pg.kids[q]? =some kv→Rr kv s.H (G8 kv s.H)=true∧∃u tm,VM (Jh kv s.H.next) kv.v u∧By s.fr o.dst (recvd ok u true)=some tm∧(⟨.AP {pg with kids:=pg.kids.eraseIdx q},⟨{s.fr with tmps:=tm,todo:= .ops all (i+1) l::k},s.cs,G8 kv s.H,s.d⟩⟩:Dm)∈L) :
  AU P ty Post main ⟨.AP pg,s⟩ L:=by
 refine⟨1,fun E hb hg n Tn ρ c g w Γ hΓ hA IX=> ?_⟩;replace IX:DR {E with AP:=some Γ} ρ s c g w:=IX;cases IX with
 |mk hf hc D7 ET hH AO Dx h1 h2 h3 Bv =>
  rename_i fr cs pd pds;have h3:c.AP=some Γ:=h3;obtain⟨Dj,ho,A9,rest,mm,e,E0,Ky⟩:=hf.ops ht;obtain⟨BC,WW,Tq⟩:=hΓ.ch;have C6:fr.eval x= .chan (some Γ.ch):=by
   have h:=CJ.of A9 hH o x (by simp[A5,Op.operands]) _ hx;generalize fr.eval x=u at h;cases h with
   |chan hB =>
    rw[WW]at hB;cases hB;rw[Tq]
  have Aq: ∀w₁,stepG P main (G fr (cs++E.base)) w₁= .comm (G fr (cs++E.base)) #[rcase Γ.ch z] true (.recv ok) w₁ #[]:=fun w₁ =>
   stepG_comm ((Br.run hf) hm) e ho (BE (fun _ _ t v _ _ hv=>A9 t v hv) hw) (by rw[hf.kind]; exact hk) (fun c hc=>by rw[A5]at hc; cases hc) (Up A7 A5 e1 e2 hz fr.eval C6 w₁)
  refine W.recv (fun w₁=>{g:=G fr (cs++E.base),w:=w₁,es:= #[],z:=z,FG:=ok}) rfl (by rw[Dx]; exact hd) h3 (hΓ.kids.ne_nil XC) (hΓ.TJ BW) (by rw[hΓ.cap,hΓ.closed]; exact A2) (fun w₁ r=>⟨Aq w₁,BQ.nil _ _ _,rfl⟩) fun w₁ r q sp Kw v Rm w₂ r₂ vH ID=> ?_;obtain⟨kv,bF,kr,ws,WM,j9,rfl⟩:=hΓ.kids.get q sp Kw;obtain⟨ρ1,k1,k2,k3⟩:=vH;obtain⟨nU,u,tm,vE,BO,DJ⟩:=hl q kv bF;have fD:=hH.rely (r.trans r₂);have FA:=AO.rely (r.trans r₂);have GN:=Bv.rely (r.trans r₂);unfold Rr at nU;simp only[AF]at nU;obtain⟨g1,g2,g3,g4⟩:=nU;have g4: ∀p∈kv.news,UQ kv s.H (G8 kv s.H) p.1 p.2:=fun p hp=>Ns (AX.1 g4 p hp);have hHn:=HR.Nt (c:=c) fD FA WM k1 k3 ID (AH g1) (AH g2) (AH g3) g4;have F0:ρ.le (GG ρ ρ1 kv s.H):=fun z Z hz=>by rw[CG (hH.Dk z Z hz).1]; exact hz
  have nJ:=(vE.up (XY fD WM k1) k2).recvd (ok:=ok) (b:=true);have WJ:=(hf.mono F0).put ht BO nJ;have dz:Conc.served (G fr (cs++E.base)) (recvd ok v true)=G (fr.finish (recvd ok v true)) (cs++E.base):=rfl;show W P ty Post main n _ (Conc.served (G fr (cs++E.base)) (recvd ok v true)) w₂;rw[dz];have Mv:s.H.next≤(G8 kv s.H).next:=Nat.le_add_right _ _
  subst Dj;refine Tn _ DJ (GG ρ ρ1 kv s.H) _ _ w₂ (Γ.drop q) ⟨⟨BC,F0 _ _ WW,Tq⟩,hΓ.cap,hΓ.closed,hΓ.wg.mono F0,(hΓ.mono F0).kids.erase q,(hΓ.mono F0).AY,hΓ.mn⟩ (.none BW)
   (.mk (fr:=fr.finish _) (cs:=cs) WJ (hc.mono F0) (by simpa using D7) (fun b hb=> ?_) (hHn.ctx rfl rfl) ⟨FA.ml,fun a ha=>ha.elim (FA.rl a) fun x=>(ID a x).1,fun a ha hb=>ha.elim (fun x=>FA.rm a x hb) fun x=>(ID a x).2 hb⟩ Dx h1 h2 rfl ?_)
  ·obtain⟨q1,q2⟩:=ET b (by simpa using hb);exact⟨by rw[CG q2]; exact q1,AV q2 Mv⟩
  ·refine⟨fun b hb=> ?_,fun a ha=>⟨.inl (GN.r a ha).1,(GN.r a ha).2⟩,GN.size,GN.shape,GN.tape,GN.os,GN.output,GN.Fq.trans F0,fun y B hy=> ?_,GN.AL,⟨fun y B hy=> ?_,GN.al.am,GN.al.AAe,GN.al.sh⟩⟩
   ·obtain⟨m1,m2,m3⟩:=GN.m b hb;refine⟨m1,m2,fun y B hy=> ?_⟩;by_cases Ac:y<s.H.next
    ·rw[CG Ac]at hy;exact m3 y B hy
    ·obtain⟨p,hp,_,XE⟩:=HU Ac hy;obtain⟨B',b1,b2,b3⟩:=k3 p hp;rw[XE]at b1; cases b1;intro eb;subst eb;have:Rm ⟨B.blk,0,none⟩:=by
      cases ho:p.2 with
      |cells t size elem es own f ok D4=>rw[ho]at b3; exact b3.2.2.2.1
      |obj o=>rw[ho]at b3; exact b3.elim
     exact(ID _ this).2 m1
   ·by_cases Ac:y<s.H.next
    ·rw[CG Ac]at hy;exact GN.fresh y B hy
    ·obtain⟨p,hp,_,XE⟩:=HU Ac hy;obtain⟨B',b1,b2,b3⟩:=k3 p hp;rw[XE]at b1; cases b1;exact .inl (A1 (A1 (Nat.le_max_left _ _) j9) b2)
   ·by_cases Ac:y<s.H.next
    ·rw[CG Ac]at hy;exact GN.al.al y B hy
    ·obtain⟨p,hp,_,XE⟩:=HU Ac hy;obtain⟨B',b1,b2,b3⟩:=k3 p hp;rw[XE]at b1; cases b1;exact .inr (A1 (A1 (Nat.le_max_right _ _) j9) b2)
theorem AU.NC(A7:A8 P E7){s:DS}(hm:s.fr.mode= .run){all:Array Oper}{i:Nat}{o:Oper}{l:List Oper}{k:List Ab}(ht:s.fr.todo= .ops all i (o::l)::k)(hk:s.fr.kind≠ .early)(hw:Aj s.fr all o=some true)
  {t:TypeId} {x:Operand} {ok:Bool} (A5:o.op= .recv t x ok) {ti ei:TypeInfo} {dir:ChanDir} {elem:TypeId} {ed:TypeDesc} (e1:E7.get t=some (ti,.chan dir elem)) (e2:E7.get elem=some (ei,ed)) {z:Value} (hz:ei.zero=some z) (hzg:ground 6 z=true)
  {pg:PG} (hx:AQ s.H.ng s.fr x=some (.chan (some pg.ch))) (hd:s.d=0) (BW:pg.AY=none) (XC:pg.kids= []) (Dq:pg.closed=true) {tm:T Value} (BO:By s.fr o.dst (recvd ok z false)=some tm) :
  AU P ty Post main ⟨.AP pg,s⟩ [⟨.AP pg,⟨{s.fr with tmps:=tm,todo:= .ops all (i+1) l::k},s.cs,s.H,s.d⟩⟩]:=by
 refine⟨1,fun E hb hg n Tn ρ c g w Γ hΓ hA IX=> ?_⟩;replace IX:DR {E with AP:=some Γ} ρ s c g w:=IX;cases IX with
 |mk hf hc D7 ET hH AO Dx h1 h2 h3 Bv =>
  rename_i fr cs pd pds;have h3:c.AP=some Γ:=h3;obtain⟨Dj,ho,A9,rest,mm,e,E0,Ky⟩:=hf.ops ht;obtain⟨BC,WW,Tq⟩:=hΓ.ch;have C6:fr.eval x= .chan (some Γ.ch):=by
   have h:=CJ.of A9 hH o x (by simp[A5,Op.operands]) _ hx;generalize fr.eval x=u at h;cases h with
   |chan hB =>
    rw[WW]at hB;cases hB;rw[Tq]
  have Aq: ∀w₁,stepG P main (G fr (cs++E.base)) w₁= .comm (G fr (cs++E.base)) #[rcase Γ.ch z] true (.recv ok) w₁ #[]:=fun w₁ =>
   stepG_comm ((Br.run hf) hm) e ho (BE (fun _ _ t v _ _ hv=>A9 t v hv) hw) (by rw[hf.kind]; exact hk) (fun c hc=>by rw[A5]at hc; cases hc) (Up A7 A5 e1 e2 hz fr.eval C6 w₁)
  have KZ:Γ.kids= []:=by
   have:=hΓ.kids;rw[XC]at this;exact this.Co
  refine W.NC (fun w₁=>{g:=G fr (cs++E.base),w:=w₁,es:= #[],z:=z,FG:=ok}) rfl (by rw[Dx]; exact hd) h3 KZ (hΓ.TJ BW) (by rw[hΓ.closed]; exact Dq) (fun w₁ r=>⟨Aq w₁,BQ.nil _ _ _,rfl⟩) fun w₁ r=> ?_;have WJ:=hf.put ht BO ((B5 6 hzg).recvd (ok:=ok) (b:=false));show W P ty Post main n _ (Conc.served (G fr (cs++E.base)) (recvd ok z false)) w₁;have dz:Conc.served (G fr (cs++E.base)) (recvd ok z false)=G (fr.finish (recvd ok z false)) (cs++E.base):=rfl;rw[dz];subst Dj;exact Tn _ (B3.2 rfl) ρ _ _ w₁ Γ hΓ (.none BW) (.mk (fr:=fr.finish _) (cs:=cs) WJ hc (by simpa using D7) (fun b hb=>by simpa using ET b (by simpa using hb)) (hH.rely r) (AO.rely r) Dx h1 h2 h3 (Bv.rely r))
theorem AU.close{s:DS}(hm:s.fr.mode= .run){all:Array Oper}{i:Nat}{o:Oper}{l:List Oper}{k:List Ab}(ht:s.fr.todo= .ops all i (o::l)::k)(hk:s.fr.kind≠ .early)(hw:Aj s.fr all o=some true)
  {x:Operand} {EY:Array TypeId} (A5:o.op= .call {callee:= .builtin .close,args:= #[x],argTypes:=EY}) {pg:PG} {a:Nat} (hx:AQ s.H.ng s.fr x=some (.chan (some pg.ch))) (hd:s.d=0) (BW:pg.AY=none) (A2:0<pg.cap) (Az:pg.wg=some (a,.fin)) (Dq:pg.closed=false)
  {tm:T Value} (BO:By s.fr o.dst undef=some tm):AU P ty Post main ⟨.AP pg,s⟩ [⟨.AP {pg with closed:=true},⟨{s.fr with tmps:=tm,todo:= .ops all (i+1) l::k},s.cs,s.H,s.d⟩⟩]:=by
 refine⟨1,fun E hb hg n Tn ρ c g w Γ hΓ hA IX=> ?_⟩;replace IX:DR {E with AP:=some Γ} ρ s c g w:=IX;cases IX with
 |mk hf hc D7 ET hH AO Dx h1 h2 h3 Bv =>
  rename_i fr cs pd pds;have h3:c.AP=some Γ:=h3;obtain⟨Dj,ho,A9,rest,mm,e,E0,Ky⟩:=hf.ops ht;obtain⟨BC,WW,Tq⟩:=hΓ.ch;have C6:fr.eval x= .chan (some Γ.ch):=by
   have h:=CJ.of A9 hH o x (by simp[A5,Op.operands,Call.operands]) _ hx;generalize fr.eval x=u at h;cases h with
   |chan hB =>
    rw[WW]at hB;cases hB;rw[Tq]
  obtain⟨b,zz⟩: ∃b,Γ.wg=some (b,.fin):=by
   have h:=hΓ.wg;rw[Az]at h;generalize Γ.wg=z at h ⊢;cases h with
   |some hB=>exact⟨_,rfl⟩
  have Aq: ∀(w₁:World) buf q r,w₁.heap[Γ.ch]? =some (.chan Γ.cap buf false q r false)→stepG P main (G fr (cs++E.base)) w₁= .go (G (fr.finish undef) (cs++E.base)) (w₁.setChan Γ.ch Γ.cap buf true q r false) #[⟨.obj Γ.ch,false,true⟩,⟨.obj Γ.ch,true,true⟩]:=fun w₁ buf q r Hh=>by
   have hgo:(getObj Γ.ch).runT P w₁ #[]=(.ok (.chan Γ.cap buf false q r false) w₁,#[⟨.obj Γ.ch,false,true⟩]):=Da Hh rfl #[];have xY:(setObj Γ.ch (.chan Γ.cap buf true q r false)).runT P w₁ #[⟨.obj Γ.ch,false,true⟩]=(.ok () (World.Ec w₁ Γ.ch (.chan Γ.cap buf true q r false)),#[⟨.obj Γ.ch,false,true⟩,⟨.obj Γ.ch,true,true⟩]):=C5 Hh rfl _;have AT:(execOp fr.eval o).runT P w₁ #[]=(.ok (.value undef) (World.Ec w₁ Γ.ch (.chan Γ.cap buf true q r false)),#[⟨.obj Γ.ch,false,true⟩,⟨.obj Γ.ch,true,true⟩]):=by
    rw[De A5];have:Array.map fr.eval #[x]= #[.chan (some Γ.ch)]:=by simp[C6]
    rw[this];show((Builtin.close_ EY o.type #[.chan (some Γ.ch)]).bind fun r=>Sem.pure (Next.value r)).runT P w₁ #[]=_;have Dq:(Builtin.close_ EY o.type #[.chan (some Γ.ch)]).runT P w₁ #[]=(.ok undef (World.Ec w₁ Γ.ch (.chan Γ.cap buf true q r false)),#[⟨.obj Γ.ch,false,true⟩,⟨.obj Γ.ch,true,true⟩]):=by
     unfold Builtin.close_;refine(AB hgo).trans ?_;simp only[Bq,BS];exact(AB xY).trans rfl
    exact(AB Dq).trans rfl
   have:=Cv (P:=P) (main:=main) (cs:=cs++E.base) ((Br.run hf) hm) e ho (BE (fun _ _ t v _ _ hv=>A9 t v hv) hw) (by rw[hf.kind]; exact hk) (fun c hc=>by rw[A5]at hc; cases hc) (.inl AT);rw[show seen P fr.fn #[⟨.obj Γ.ch,false,true⟩,⟨.obj Γ.ch,true,true⟩]= #[⟨.obj Γ.ch,false,true⟩,⟨.obj Γ.ch,true,true⟩] by
    rw[seen_def];exact(HT _ _ _ _ (by simp)).trans (by simp)]at this
   exact this
  refine W.close (fun w₁=>{g:=G (fr.finish undef) (cs++E.base),w:=w₁,es:= #[⟨.obj Γ.ch,false,true⟩,⟨.obj Γ.ch,true,true⟩]}) rfl (by rw[Dx]; exact hd) h3 (by rw[hΓ.cap]; exact A2) zz (by rw[hΓ.closed]; exact Dq) (hΓ.TJ BW) (fun w₁ r buf q q' Hh=>⟨Aq w₁ buf q q' Hh,rfl, ?_, ?_⟩) fun w₁ r Q7 buf q q' Hh=> ?_
  ·refine⟨fun e he a=> ?_, ?_⟩
   ·have he:e=⟨.obj Γ.ch,false,true⟩∨e=⟨.obj Γ.ch,true,true⟩:=by simpa using he
    rcases he with rfl|rfl<;>simp[MemAct.ofEvent]
   intro e he y hy;have he:e=⟨.obj Γ.ch,false,true⟩∨e=⟨.obj Γ.ch,true,true⟩:=by simpa using he
   rcases he with rfl|rfl
   ·cases hy; exact⟨rfl,by simp⟩
   ·cases hy
  ·exact Cl _ _ fun e he=>by
    have he:e=⟨.obj Γ.ch,false,true⟩∨e=⟨.obj Γ.ch,true,true⟩:=by simpa using he
    rcases he with rfl|rfl<;>exact⟨(fun h=>by cases h),(fun h=>by cases h)⟩
  ·have WJ:=hf.put ht BO (v':=undef) (.tuple .nil);have Hf:ES Γ.ch w₁ (w₁.setChan Γ.ch Γ.cap buf true q q' false):=KH (o':= .chan Γ.cap buf true q q' false) Hh rfl rfl;subst Dj;have Oz:DR {E with AP:=some {Γ with closed:=true}} ρ ⟨{s.fr with tmps:=tm,todo:= .ops all (i+1) l::k},s.cs,s.H,s.d⟩ {c with AP:=some {Γ with closed:=true}} (G (fr.finish undef) (cs++E.base)) w₁ :=
    .mk (fr:=fr.finish _) (cs:=cs) WJ hc (by simpa using D7) (fun b hb=>by simpa using ET b (by simpa using hb)) ((hH.rely r).ctx rfl rfl) ((AO.rely r).ctx rfl rfl) Dx h1 h2 rfl (by
     have:=Bv.rely r;exact⟨this.m,this.r,this.size,this.shape,this.tape,this.os,this.output,this.Fq,this.fresh,this.AL,this.al.up (AN _) fun _ h=>h⟩)
   exact Tn _ (B3.2 rfl) ρ _ _ _ {Γ with closed:=true} ⟨hΓ.ch,hΓ.cap,rfl,hΓ.wg,hΓ.kids,hΓ.AY,hΓ.mn⟩ (.none BW) (Oz.apart Hf Q7)
end
def QR(ρ:Ah)(s:DS)(g:Goroutine):Prop:= ∃fr cs,g=G fr cs∧Br ρ s.fr fr []∧Q8 ρ s.cs cs []
section
variable{P:Program}{ρ:Ah}
theorem CJ.zero{pf:PF}{fr:Frame}(A9: ∀k v,pf.tmps.get k=some v→∃v',fr.tmps[k]? =some v'∧VR ρ v v')(o:Oper):CJ 0 ρ pf fr o:=by
 intro x hx v he;cases x with
 |tmp t =>
  obtain⟨v',h1,h2⟩:=A9 t _ he;have:fr.eval (.tmp t)=v':=by
   show fr.tmps.getD t undef=_;rw[Bt,h1]; rfl
  rw[this]; exact h2
 |const u =>
  have he:cond (ground 4 u) (some u) none=some v:=he;cases e:ground 4 u with
  |false=>rw[e]at he; cases he
  |true =>
   rw[e]at he;simp only[AG,AE]at he;subst he;exact B5 4 e
 |global g=>cases he
 |func f =>
  have:=As he;subst this;exact .func (.func f) .nil .nil
def me(P:Program)(pf:PF)(o:Oper):Option Value :=
 match o.op with
 | .move x=>AQ 0 pf x
 | .assign x=>AQ 0 pf x
 | .pick x y z=>match AQ 0 pf x with
  |some (.bool b)=>AQ 0 pf (if b then y else z)
  |_=>none
 | .binOp _ _ _ _ _=>HW P 0 pf o
 | .unOp _ _ _=>HW P 0 pf o
 | .convert _ _ _=>HW P 0 pf o
 | .nilCheck x=>match AQ 0 pf x with
  |some (.pointer (some a))=>some (.pointer (some a))
  |_=>none
 |_=>none
theorem Vz{pf:PF}{fr:Frame}{o:Oper}(h:CJ 0 ρ pf fr o){v:Value}(hp:me P pf o=some v):(∀c,o.op≠ .defer c)∧∃v',VR ρ v v'∧∀w,(execOp fr.eval o).runT P w #[]=(.ok (.value v') w,#[]):=by
 have yN:(∀cs b,o.op≠ .select cs b)→HW P 0 pf o=some v→∃v',VR ρ v v'∧∀w,(execOp fr.eval o).runT P w #[]=(.ok (.value v') w,#[]):=fun hs hp=>by
  unfold HW at hp;cases e:NO 0 pf o.op.operands.toList with
  |false=>rw[e]at hp; cases hp
  |true =>
   rw[e]at hp;simp only[AG]at hp;have heq:execOp fr.eval o=execOp (sX 0 pf) o:=execOp_congr o hs fun x hx=>by
    have:=AX.1 e x (by simpa using hx);unfold sX;cases ex:AQ 0 pf x with
    |none=>simp only[ex]at this; cases this
    |some u =>
     simp only[ex]at this;exact Fa 6 (h x hx u ex) this
   split at hp
   ·rename_i u hu;cases eg:ground 6 u with
    |false=>rw[eg]at hp; cases hp
    |true =>
     rw[eg]at hp;simp only[AG,AE]at hp;subst hp;exact⟨u,B5 6 eg,fun w=>by rw[heq]; exact DG hu w #[]⟩
   ·cases hp
 unfold me at hp;split at hp
 ·rename_i x ho;refine⟨(fun c e=>by rw[ho]at e; cases e),fr.eval x,h x (by simp[ho,Op.operands]) v hp,fun w=> ?_⟩;unfold execOp; rw[ho]; rfl
 ·rename_i x ho;refine⟨(fun c e=>by rw[ho]at e; cases e),fr.eval x,h x (by simp[ho,Op.operands]) v hp,fun w=> ?_⟩;unfold execOp; rw[ho]; rfl
 ·rename_i x y z ho;split at hp
  ·rename_i b hb;have hbe:fr.eval x= .bool b:=by
    have:=h x (by simp[ho,Op.operands]) _ hb;generalize fr.eval x=u at this;cases this; rfl
   refine⟨(fun c e=>by rw[ho]at e; cases e),fr.eval (if b then y else z),h _ (by cases b<;>simp[ho,Op.operands]) _ hp,fun w=> ?_⟩;unfold execOp;rw[ho];show((asBool (fr.eval x)).bind fun b=>Sem.pure (Next.value (if b=true then fr.eval y else fr.eval z))).runT P w #[]=_;rw[hbe];cases b<;>rfl
  ·cases hp
 ·rename_i ho;exact⟨(fun c e=>by rw[ho]at e; cases e),yN (fun cs b e=>by rw[ho]at e; cases e) hp⟩
 ·rename_i ho;exact⟨(fun c e=>by rw[ho]at e; cases e),yN (fun cs b e=>by rw[ho]at e; cases e) hp⟩
 ·rename_i ho;exact⟨(fun c e=>by rw[ho]at e; cases e),yN (fun cs b e=>by rw[ho]at e; cases e) hp⟩
 ·rename_i x ho;split at hp
  ·rename_i a hb;cases hp;have hv:=h x (by simp[ho,Op.operands]) _ hb;refine⟨(fun c e=>by rw[ho]at e; cases e),fr.eval x,hv,fun w=> ?_⟩;generalize hu:fr.eval x=u at hv;cases hv with
   |ptr hB =>
    unfold execOp;rw[ho];simp only[hu];rfl
  ·cases hp
 ·cases hp
def dV(tm:T Value)(l:List ResultVar):Option (List Value) :=
 List.rec (motive:=fun _=>Option (List Value)) (some []) (fun x _ ih=>match x with
  | .tmp t=>match tm.get t with
   |some v=>match ih with
    |some l=>some (v::l)
    |none=>none
   |none=>none
  |_=>none) l
theorem Ur{tmps:T Value}{tm:Array Value}(hv: ∀k v,tmps.get k=some v→∃v',tm[k]? =some v'∧VR ρ v v'): ∀{l:List ResultVar} {vs:List Value},dV tmps l=some vs→∃Of,CE ρ vs Of∧∀w es,(l.mapM (Sg tm)).runT P w es=(.ok Of w,es)
 | [],vs,h=>by
  have:vs= []:=(As h).symm;subst this;exact⟨[],.nil,fun w es=>by rw[List.mapM_nil]; simp[pure]⟩
 |x::l,vs,h=>by
  cases x with
  |cell a t=>cases h
  |tmp t =>
   have h:(match tmps.get t with
    |some v=>match dV tmps l with
     |some l=>some (v::l)
     |none=>none
    |none=>none)=some vs:=h
   split at h
   ·rename_i v e1;split at h
    ·rename_i us e2;cases h;obtain⟨v',h1,h2⟩:=hv t v e1;obtain⟨xz,f1,f2⟩:=Ur hv e2;refine⟨v'::xz,.cons h2 f1,fun w es=> ?_⟩;have hg:tm.getD t undef=v':=by rw[Bt,h1]; rfl
     rw[List.mapM_cons];refine(AB (s:=Sg tm (.tmp t)) (a:=v') (w':=w) (es':=es) (by simp[Sg,hg,pure])).trans ?_;refine(AB (f2 w es)).trans ?_;simp[pure]
    ·cases h
   ·cases h
theorem M1{tmps:T Value}{tm:Array Value}(hv: ∀k v,tmps.get k=some v→∃v',tm[k]? =some v'∧VR ρ v v'){fn:Func}{vs:List Value}(h:dV tmps fn.results.toList=some vs) :
  ∃v',VR ρ (HV vs) v'∧∀w,(results fn tm).runT P w #[]=(.ok v' w,#[]):=by
 obtain⟨Of,h1,h3⟩:=Ur (P:=P) hv h;refine⟨HV Of, ?_,fun w=> ?_⟩
 ·cases h1 with
  |nil=>exact .tuple .nil
  |cons a t=>cases t with
   |nil=>exact a
   |cons b t=>exact .tuple (.cons a (.cons b t))
 ·unfold results;rw[Array.mapM_eq_mapM_toList];have h3':((fn.results.toList.mapM (Sg tm)).bind fun l=>Sem.pure l.toArray).runT P w #[]=(.ok Of.toArray w,#[]):=by
   rw[AB (h3 w #[])];simp[Sem.runT]
  refine(AB h3').trans ?_;cases Of with
  |nil=>rfl
  |cons a t=>cases t with
   |nil=>rfl
   |cons b t=>simp[HV,pure]
def N1(C:CB)(xs:T XK)(s:DS):Option DS :=
 match s with
 |⟨fr,cs,H,d⟩=>match fr.mode with
  | .run=>match fr.todo with
   | .ops all i (o::l)::k=>cond (Ae fr.kind) (match Aj fr all o with
    |none=>none
    |some false=>match By fr o.dst undef with
     |some tm=>some ⟨fr.up tm (.ops all (i+1) l::k),cs,H,d⟩
     |none=>none
    |some true=>match me C.P fr o with
     |some v=>match By fr o.dst v with
      |some tm=>some ⟨fr.up tm (.ops all (i+1) l::k),cs,H,d⟩
      |none=>none
     |none=>none) none
   |_=>match M9 0 fr with
    |some pf=>some ⟨pf,cs,H,d⟩
    |none=>none
  |_=>match fr.defers with
   |⟨.fn (.func f) _,_⟩::ds=>match xs.get f with
    |some .enable=>some ⟨fr.OO ds,cs,H,d-1⟩
    |some .disable=>some ⟨fr.OO ds,cs,H,d+1⟩
    |_=>none
   | []=>match fr.mode with
    | .returning=>cond (At fr.todo) (match cs with
     |pc::cs'=>match C.fns.get fr.fn with
      |some fn=>match dV fr.tmps fn.results.toList with
       |some vs=>match fr.kind with
        | .deferred=>match NA pc.mode with
         |some m=>some ⟨pc.pH m,cs',H,d⟩
         |none=>none
        | .normal=>match pc.todo with
         | .ops all i (o::l)::k=>match By pc o.dst (HV vs)with
          |some tm=>some ⟨pc.up tm (.ops all (i+1) l::k),cs',H,d⟩
          |none=>none
         |_=>none
        |_=>none
       |none=>none
      |none=>none
     | []=>none) none
    |_=>none
   |_=>none
def xC(P:Program)(s s':DS):Prop:= ∀ρ g,QR ρ s g→∃g' es,QR ρ s' g'∧g.status= .running∧g'.status= .running∧(∀e∈es,Event.mute e=true)∧(∀w,stepG P false g w= .go g' w es)∧deafBehind s.d es=s'.d
theorem N0{C:CB}(hC:An C){xs:T XK}(Au:C9 C.P xs){s s':DS}(hp:N1 C xs s=some s'):xC C.P s s':=by
 obtain⟨fr,cs,H,d⟩:=s;rintro ρ g ⟨rf,Mt,rfl,hf,hc⟩;replace hf:Br ρ fr rf []:=hf;replace hc:Q8 ρ cs Mt []:=hc;unfold N1 at hp;simp only at hp;split at hp
 ·rename_i hm;split at hp
  ·rename_i all i o l k ht;cases hk:Ae fr.kind with
   |false=>rw[hk]at hp; cases hp
   |true =>
    rw[hk]at hp;simp only[AG]at hp;have CP:rf.kind≠ .early:=fun e=>by rw[hf.kind]at e; rw[e]at hk; cases hk
    obtain⟨Dj,ho,A9,rest,m,e,E0,Ky⟩:=hf.ops ht;split at hp
    ·cases hp
    ·rename_i hw;split at hp
     ·rename_i tm e1;cases hp;exact⟨_,#[],⟨_,_,rfl,hf.put ht e1 (.tuple .nil),hc⟩,rfl,rfl,by simp,fun w=>FE (Br.run hf hm) e ho (BE (fun _ _ t v _ _ hv=>A9 t v hv) hw),rfl⟩
     ·cases hp
    ·rename_i hw;split at hp
     ·rename_i v e1;split at hp
      ·rename_i tm e2;cases hp;obtain⟨D7,v',h1,h2⟩:=Vz (CJ.zero A9 o) e1;refine⟨_,#[],⟨_,_,rfl,hf.put ht e2 h1,hc⟩,rfl,rfl,by simp,fun w=> ?_,rfl⟩;have:=Cv (P:=C.P) (main:=false) (cs:=Mt) (Br.run hf hm) e ho (BE (fun _ _ t v _ _ hv=>A9 t v hv) hw) CP (fun c hc=>absurd hc (D7 c)) (.inl (h2 w));rw[seen_none]at this;exact this
      ·cases hp
     ·cases hp
  ·split at hp
   ·rename_i pf e1;cases hp;obtain⟨IC,h1,h2⟩:=NX (P:=C.P) (main:=false) e1 hf;exact⟨_,#[],⟨IC,Mt,rfl,h1,hc⟩,rfl,rfl,by simp,fun w=>h2 Mt w,rfl⟩
   ·cases hp
 ·rename_i hm;have R6:fr.mode≠ .run:=fun e=>hm e;have eI:=hf.mode.La R6;split at hp
  ·rename_i f ys AAe ds ed;have G2:=hf.defers;rw[ed]at G2;obtain⟨d',XG,e1,IX,Ys⟩:=G2.cons_inv;cases IX with
   |mk Zl hx =>
    rename_i t' xs';cases Zl with
    |fn Gv Li =>
     rename_i NS Ij;cases Gv;have eV:Br ρ (fr.OO ds) {rf with defers:=XG} []:=hf.IG Ys;split at hp
     ·rename_i ek;cases hp;refine⟨_,#[⟨.mark .enable,false,true⟩],⟨_,_,rfl,eV,hc⟩,rfl,rfl,by simp[Event.mute],fun w=> ?_,rfl⟩;exact Fj (Au f _ ek) eI e1 (v:=undef) (es:= #[⟨.mark .enable,false,true⟩]) rfl (by simp)
     ·rename_i ek;cases hp;refine⟨_,#[⟨.mark .disable,false,true⟩],⟨_,_,rfl,eV,hc⟩,rfl,rfl,by simp[Event.mute],fun w=> ?_,rfl⟩;exact Fj (Au f _ ek) eI e1 (v:=undef) (es:= #[⟨.mark .disable,false,true⟩]) rfl (by simp)
     ·cases hp
  ·rename_i ed;split at hp
   ·rename_i eC;cases JG:At fr.todo with
    |false=>rw[JG]at hp; cases hp
    |true =>
     rw[JG]at hp;simp only[AG]at hp;split at hp
     ·rename_i pc cs';split at hp
      ·rename_i fn e1;split at hp
       ·rename_i vs e2;generalize hz:([]:List Nat)=z at hc;cases hc with
        |cons E1 Oc =>
         rename_i B4 BD Xm LW;obtain⟨zy,zx⟩:=List.append_eq_nil_iff.1 hz.symm;subst zy zx;obtain⟨_,_,A9⟩:=hf.Dl JG;obtain⟨v',q1,q2⟩:=M1 (P:=C.P) A9 e2;have Dp:rf.mode= .returning:=hf.mode.MG.2 eC;have I1:rf.defers= []:=by
          have:=hf.defers;rw[ed]at this;exact this.Co
         have Aq: ∀w,stepG C.P false (G rf (B4::BD)) w=doReturn C.P false rf (B4::BD) none v' w:=fun w=>by
          have:=Er (P:=C.P) (main:=false) (cs:=B4::BD) Dp I1 (by rw[hf.fn]; exact hC.fns _ _ e1) (q2 w);rw[seen_none]at this;rw[this];cases doReturn C.P false rf (B4::BD) none v' w<;>simp[GStep.after]
         split at hp
         ·rename_i ek;split at hp
          ·rename_i m e3;cases hp;obtain⟨m',r1,r2⟩:=Na E1.mode e3;refine⟨G {B4 with mode:=m'} BD,#[],⟨_,_,rfl,⟨E1.fn,E1.size,E1.todo,E1.defers,r1,E1.kind,E1.round⟩,Oc⟩,rfl,rfl,by simp,fun w=> ?_,rfl⟩;rw[Aq w];have KZ:rf.kind= .deferred:=by rw[hf.kind]; exact ek
           have:=r2 B4 rfl;simp only[doReturn,KZ,G];exact congrArg (fun f:Frame=>GStep.go ({frame:=f,callers:=BD,status:= .running,dying:=none}:Goroutine) w) this
          ·cases hp
         ·rename_i ek;split at hp
          ·rename_i all i o l k et;split at hp
           ·rename_i tm e3;cases hp;refine⟨G (B4.finish v') BD,#[],⟨_,_,rfl,E1.put et e3 q1,Oc⟩,rfl,rfl,by simp,fun w=> ?_,rfl⟩;rw[Aq w];have KZ:rf.kind= .normal:=by rw[hf.kind]; exact ek
            simp[doReturn,KZ,G]
           ·cases hp
          ·cases hp
         ·cases hp
       ·cases hp
      ·cases hp
     ·cases hp
   ·cases hp
  ·cases hp
end
open Go.ConcR (KK wgBlock WgAt stA smA)
def gF(P:Program)(s:DS):Prop:= ∃n,∀ρ g,QR ρ s g→QuitsD P n s.d g
section
variable{P:Program}{C:CB}{xs:T XK}
theorem xC.quits{s s':DS}(h:xC P s s')(hq:gF P s'):gF P s:=by
 obtain⟨n,hn⟩:=hq;refine⟨n+1,fun ρ g hg=> ?_⟩;obtain⟨g',es,h1,h2,_,h3,h4,h5⟩:=h ρ g hg;have:=hn ρ g' h1;rw[← h5]at this;exact .inr ⟨h2,g',es,h3,h4,this⟩
def dZ(C:CB)(xs:T XK)(k:Nat):DS→DS :=
 Nat.rec (motive:=fun _=>DS→DS) (fun s=>match N1 C xs s with|some s'=>s'|none=>s) (fun _ ih s=>DS.casesOn (ih s) fun a b c d=>ih ⟨a,b,c,d⟩) k
theorem Jz(hC:An C)(Au:C9 C.P xs): ∀(k:Nat) (s:DS),gF C.P (dZ C xs k s)→gF C.P s
 |0,s,h=>by
  have h:gF C.P (match N1 C xs s with|some s'=>s'|none=>s):=h;split at h
  ·rename_i s' e;exact(N0 hC Au e).quits h
  ·exact h
 |k+1,s,h=>Jz hC Au k s (Jz hC Au k (dZ C xs k s) h)
def nB(C:CB)(s:DS):Bool :=
 match s with
 |⟨fr,cs,_,d⟩=>Nat.beq d 0&&(Nat.beq fr.fn C.P.funcs.size&&(match cs with
  | []=>(match fr.defers with
   | []=>(match fr.todo with
    | []=>(match fr.mode with
     | .panicking (⟨_,_,g⟩::_)=>g
     |_=>false)
    |_=>false)
   |_=>false)
  |_=>false))
theorem Yb{s:DS}(h:nB C s=true):gF C.P s:=by
 obtain⟨fr,cs,H,d⟩:=s;unfold nB at h;simp only[AF]at h;obtain⟨h1,h2,h3⟩:=h;have h1:=AJ h1;have h2:=AJ h2;split at h3
 ·split at h3
  ·rename_i ed;split at h3
   ·rename_i et;split at h3
    ·rename_i v r g l em;refine⟨1, ?_⟩;rintro ρ _ ⟨rf,Mt,rfl,hf,hc⟩;replace hf:Br ρ fr rf []:=hf;generalize hz:([]:List Nat)=z at hc;cases hc;have hd:rf.defers= []:=by
      have:=hf.defers;rw[ed]at this;exact this.Co
     obtain⟨_,EI,_⟩:=hf.Dl (by rw[et]; rfl);rw[et]at EI;have EI:=EI.Co;have ns:=hf.mode;rw[em]at ns;obtain⟨L,hL,hLg⟩: ∃L,rf.mode= .panicking L∧(L.head?.any (·.goexit))=true:=by
      generalize rf.mode=m at ns;cases ns with
      |panicking hl =>
       cases hl with
       |cons hp _ =>
        cases hp;exact⟨_,rfl,by simpa using h3⟩
     subst h1;refine .inr ⟨rfl,{G rf []with status:= .finished},#[],by simp,fun w=> ?_,⟨rfl,rfl⟩⟩;rw[DZ (by rw[hL]; simp)];unfold unwind;have aX:rf.catches C.P=false:=by
      unfold Frame.catches;rw[EI];cases C.P.funcs[rf.fn]? <;>rfl
     simp only[hd,hL,aX,hLg,Bq,BS,Ad];rfl
    ·cases h3
   ·cases h3
  ·cases h3
 ·cases h3
end
def Nh(P:Program)(ty:TypeId)(Post:Value→World→Prop)(a:Nat)(φ:IE)(s:DS):Prop :=
 ∃n,∀ρ c g w,c.send=none→c.AP=none∧c.AL=none→(∃B,ρ a=some B∧c.dec=some (B.blk,φ)∧B.blk<w.heap.size∧w.shape? B.blk=some (ty,2))→c.d=s.d→QR ρ s g→W P ty Post false n c g w
section
variable{P:Program}{E7:DD}{ty:TypeId}{Post:Value→World→Prop}
theorem W.sS{n:Nat}{c:Ctx}{g:Goroutine}{w:World}(hs:g.status= .running)(A0:c.dec≠none)(h: ∀w₁,AS c w w₁→∃g' es,stepG P false g w₁= .go g' w₁ es∧g'.status= .running∧(∀e∈es,(MemAct.ofEvent e).touch?=none∧∀a,MemAct.ofEvent e≠ .mark (.release a))∧
  W P ty Post false n {c with M:=fun _=>False,R:=c.R,d:=deafBehind c.d es} g' w₁):W P ty Post false (n+1) c g w:=by
 obtain⟨N,hN⟩:=CD (α:=Unit) (Q:=fun w₁ _=>AS c w w₁)
  (F:=fun w₁ _ N=>N.w=w₁∧N.M=(fun _=>False)∧N.R=c.R∧stepG P false g w₁= .go N.g w₁ N.es∧N.g.status= .running∧(∀e∈N.es,(MemAct.ofEvent e).touch?=none∧∀a,MemAct.ofEvent e≠ .mark (.release a))∧W P ty Post false n {c with M:=fun _=>False,R:=c.R,d:=deafBehind c.d N.es} N.g w₁)
  (fun _ _ _ _ _=>rfl) (fun w₁ _ hv=>by
   obtain⟨g',es,h1⟩:=h w₁ hv;exact⟨{g:=g',w:=w₁,es:=es,M:=fun _=>False,R:=c.R},rfl,rfl,rfl,h1⟩)
 refine .MN N hs (.inr (.inr ⟨A0,fun w₁ r e he=>((hN w₁ () r).2.2.2.2.2.1 e he).1⟩)) (fun w₁ r=> ?_) fun w₁ r=> ?_
 ·obtain⟨e1,e2,e3,h1,h2,h3,_⟩:=hN w₁ () r;rw[e1,e2,e3];exact⟨h1,h2,⟨rfl,.refl _,.refl _,AN _,fun _ _=>rfl,fun _ _ _=>rfl,fun b hb=>hb.elim,fun _ h=>h,fun _ h=> .inl h⟩,⟨fun e he=>(h3 e he).2,fun e he x hx=>by rw[(h3 e he).1]at hx; cases hx⟩⟩
 ·obtain⟨e1,e2,e3,_,_,_,h4⟩:=hN w₁ () r;rw[e1,e2,e3];exact h4
def xw(P:Program)(ty:TypeId)(a:Nat)(s s':DS):Prop:= ∀ρ g w,QR ρ s g→(∃B,ρ a=some B∧w.shape? B.blk=some (ty,2))→∃g' es,QR ρ s' g'∧g.status= .running∧g'.status= .running∧(∀e∈es,(MemAct.ofEvent e).touch?=none∧∀a,MemAct.ofEvent e≠ .mark (.release a))∧stepG P false g w= .go g' w es∧deafBehind s.d es=s'.d
theorem xC.q{s s':DS}(h:xC P s s')(a:Nat):xw P ty a s s':=fun ρ g w hg _=>by
 obtain⟨g',es,h1,h2,WX,h3,h4,h5⟩:=h ρ g hg;refine⟨g',es,h1,h2,WX,fun e he=> ?_,h4 w,h5⟩;have:=h3 e he;unfold Event.mute at this;split at this
 ·exact⟨rfl,by simp[MemAct.ofEvent]⟩
 ·exact⟨rfl,by simp[MemAct.ofEvent]⟩
 ·cases this
theorem xw.step{a:Nat}{φ:IE}{s s':DS}(h:xw P ty a s s')(hq:Nh P ty Post a φ s'):Nh P ty Post a φ s:=by
 obtain⟨n,hn⟩:=hq;refine⟨n+1,fun ρ c g w h1 h2 ⟨B,b1,b2,b3,b4⟩ hd hg=> ?_⟩;obtain⟨_,_,_,AT,_⟩:=h ρ g w hg ⟨B,b1,b4⟩;refine W.sS AT (by rw[b2]; simp) fun w₁ r=> ?_;have IB:=(r.shape _ b3).trans b4;obtain⟨g',es,q1,_,jr,q3,q4,q5⟩:=h ρ g w₁ hg ⟨B,b1,IB⟩;refine⟨g',es,q4,jr,q3, ?_⟩;exact hn ρ _ g' w₁ h1 h2 ⟨B,b1,b2,AV b3 r.size,IB⟩ (by show deafBehind c.d es=s'.d; rw[hd]; exact q5) q1
theorem fp{b d k:Nat}(hd:0<d){es:Array Event}(h: ∀e∈es,∃wr,e=⟨.cell ⟨b,k,none⟩,wr,true⟩):K8 b d es:=by
 refine⟨fun e he a=>by obtain⟨wr,rfl⟩:=h e he; simp[MemAct.ofEvent], ?_⟩;intro j e he;have hm:=Array.mem_of_getElem? he;obtain⟨wr,rfl⟩:=h e hm;refine .inr ⟨⟨.cell ⟨b,k,none⟩,wr,.atomic⟩,by cases wr<;>rfl,rfl,rfl, ?_⟩;rw[Cl _ _ fun x hx=> ?_]
 ·exact hd
 ·have Hp:x∈es:=by
   obtain⟨i,hi,e⟩:=Array.mem_iff_getElem.1 hx;rw[← e];simp
  obtain⟨wr',rfl⟩:=h x Hp;exact⟨(fun h=>by cases h),(fun h=>by cases h)⟩
theorem Z7(b d:Nat):K8 b d (JC b):=by
 refine⟨fun e he a=>by simp[JC]at he; rcases he with rfl|rfl|rfl|rfl<;>simp[MemAct.ofEvent], ?_⟩;intro j e he;unfold JC at he ⊢;have hj:j<4:=by
  have:=(A6.1 he).1;simpa using this
 have:j=0∨j=1∨j=2∨j=3:=by omega
 rcases this with rfl|rfl|rfl|rfl
 ·simp at he; subst he; exact .inl rfl
 ·simp at he; subst he;exact .inr ⟨_,rfl,rfl,rfl,by simp[deafBehind]⟩
 ·simp at he; subst he;exact .inr ⟨_,rfl,rfl,rfl,by simp[deafBehind]⟩
 ·simp at he; subst he; exact .inl rfl
theorem Kd.Z2{xs:T XK}(Au:C9 P xs){s:DS}{k:XK}{vs:List Value}{put:Value→Option PF}(h:Kd xs s k vs put){ρ:Ah}{fr:Frame}{pd:List Nat}(hf:Br ρ s.fr fr pd)(El:s.H.ng=0)(cs:List Frame):mayWake P (G fr cs)=true:=by
 obtain⟨all,i,o,l,kk,hm,ht,hk,hw,hx,BO⟩:=h;obtain⟨Dj,ho,A9,rest,m,e,E0,Ky⟩:=hf.ops ht;rw[El]at hx;have C6:=CJ.zero A9 o;unfold LO at hx;split at hx
 ·rename_i cl A5;obtain⟨callee,AAe,EY⟩:=cl;simp only at hx;split at hx
  ·rename_i fo;split at hx
   ·rename_i g bJ bs' e1;split at hx
    ·split at hx
     ·rename_i k' e4;have h1:=C6 fo (by simp[A5,Op.operands,Call.operands]) _ e1;obtain⟨fn,f1,f2,f3,f4,f5⟩:=(Au g _ e4).ex;unfold mayWake;have R6:=Br.run hf hm;show(match fr.mode,fr.todo with
       | .run,.inRegion ops (i::_)::_=>_
       | .run,.call .. ::_| .run,.extern .. ::_=>true
       | .run,_=>false
       |_,_=>true)=true
      rw[R6,e];simp only[ho,Bc,A5];show(match fr.eval fo with
       | .func (.func f) .. => !(P.funcs[f]?).any (·.body.isSome)
       |_=>true)=true
      generalize fr.eval fo=u at h1;cases h1 with
      |func Gv Au Li =>
       cases Gv;simp only[f1,Option.any_some];cases hb:fn.body with
       |none=>rfl
       |some b=>rw[hb]at f3; cases f3
     ·cases hx
    ·cases hx
   ·cases hx
  ·cases hx
 ·cases hx
theorem HR.trivial(c:Ctx)(w:World):HR (fun _=>none) ⟨0,.nil,0,.nil⟩ c w:=⟨Nat.zero_le _,fun _ _ h=>(by cases h),fun _ _ _ h=>(by cases h),fun _ _ _ _ h=>(by cases h),fun g h=>absurd h (Nat.not_lt_zero _),fun _ _ _ h=>(by cases h)⟩
end
section
variable{P:Program}{E7:DD}{ty:TypeId}{Post:Value→World→Prop}
theorem W.Zb{n k:Nat}{main:Bool}{c:Ctx}{g:Goroutine}{w:World}(h:W P ty Post main n c g w):W P ty Post main (n+k) c g w:=by
 induction k with
 |zero=>exact h
 |succ k ih=>exact .more ih
theorem iL{v v' wt xy:Nat}(h1:wt≤1)(h2:xy≤1)(h:((v:Int)+1)*KK+wt=((v':Int)+1)*KK+xy):v=v'∧wt=xy:=by
 have:KK=4294967296:=rfl;rw[this]at h;omega
theorem Nh.Ye{xs:T XK}(Au:C9 P xs){s:DS}{put:Value→Option PF}{a:Nat}{ky:IntKind}(Bg:Kd xs s (.add .u64) [.pointer (some ⟨a,0,none⟩),.int ky 18446744069414584320] put)(El:s.H.ng=0)(hd:0<s.d)
  (hl: ∀v wt:Nat,v<4→wt≤1→∃BU,put (.int .u64 (v*KK+wt))=some BU∧(v=0∧wt=1→Nh P ty Post a .k1 ⟨BU,s.cs,s.H,s.d⟩)∧(¬(v=0∧wt=1)→gF P ⟨BU,s.cs,s.H,s.d⟩)):Nh P ty Post a .cnt s:=by
 let K:Nat→Nat→Nat→Prop:=fun v wt n=> ∃BU,put (.int .u64 (v*KK+wt))=some BU∧∀ρ c g w B,ρ a=some B→c.send=none→c.AP=none∧c.AL=none→B.blk<w.heap.size→w.shape? B.blk=some (ty,2)→c.dec=(if v=0∧wt=1 then some (B.blk,.k1)else none)→c.d=s.d→QR ρ ⟨BU,s.cs,s.H,s.d⟩ g→W P ty Post false n c g w
 have hK: ∀v wt,v<4→wt≤1→∃n,K v wt n:=fun v wt h1 h2=>by
  obtain⟨BU,p1,p2,p3⟩:=hl v wt h1 h2;by_cases e:v=0∧wt=1
  ·obtain⟨n,hn⟩:=p2 e;exact⟨n,BU,p1,fun ρ c g w B b1 b2 b3 b4 b5 b6 b7 b8=>hn ρ c g w b2 b3 ⟨B,b1,by rw[b6,AD e],b4,b5⟩ b7 b8⟩
  ·obtain⟨n,hn⟩:=p3 e;exact⟨n,BU,p1,fun ρ c g w B b1 b2 b3 b4 b5 b6 b7 b8=> .leave b2 (by rw[b6,AA e]) b3.1 b3.2 (by rw[b7]; exact hn ρ g b8)⟩
 have hm: ∀{v wt n:Nat} (k:Nat),K v wt n→K v wt (n+k):=fun k ⟨BU,p1,p2⟩=>⟨BU,p1,fun ρ c g w B b1 b2 b3 b4 b5 b6 b7 b8=>W.Zb (p2 ρ c g w B b1 b2 b3 b4 b5 b6 b7 b8)⟩;have hB: ∀B,B≤4→∃N,∀v wt,v<B→wt≤1→K v wt N:=by
  intro B;induction B with
  |zero=>exact fun _=>⟨0,fun v wt h=>by omega⟩
  |succ B ih =>
   intro hB;obtain⟨N,hN⟩:=ih (by omega);obtain⟨n0,h0⟩:=hK B 0 (by omega) (by omega);obtain⟨n1,h1⟩:=hK B 1 (by omega) (by omega);refine⟨N+(n0+n1),fun v wt hv N4=> ?_⟩;by_cases e:v=B
   ·subst e;have:wt=0∨wt=1:=by omega
    rcases this with rfl|rfl
    ·have:=hm (N+n1) h0
     rwa [show n0+(N+n1)=N+(n0+n1) by omega]at this
    ·have:=hm (N+n0) h1
     rwa [show n1+(N+n0)=N+(n0+n1) by omega]at this
   ·exact hm _ (hN v wt (by omega) N4)
 obtain⟨n,G4⟩:=hB 4 (AN _);refine⟨n+1, ?_⟩;rintro ρ c _ w h1 h2 ⟨B,b1,b2,b3,b4⟩ oF ⟨fr,cs,rfl,hf,hc⟩;obtain⟨f,Ap,_,hx,BO,Bh,_⟩:=Bg.step Au hf (fun o A9=>by rw[El]; exact CJ.zero A9 o);obtain⟨t',rfl,ht⟩:=NZ b1 hx;cases ht with
 |cons h ht =>
  cases h;cases ht;obtain⟨N,hN⟩:=CD (α:=Nat×Nat) (Q:=fun w₁ x=>AS c w w₁∧x.2≤1∧x.1<4∧WgAt ty B.blk w₁ (((x.1:Int)+1)*KK+x.2) 0)
   (F:=fun w₁ x N=>stepG P false (G fr cs) w₁= .go N.g (w₁.setCell (stA B.blk) (.int .u64 ((x.1:Int)*KK+x.2))) N.es∧N.g.status= .running∧K8 B.blk c.d N.es∧deafBehind c.d N.es=c.d∧
    W P ty Post false n {c with dec:=if x.1=0∧x.2=1 then some (B.blk,.k1)else none} N.g (w₁.setCell (stA B.blk) (.int .u64 ((x.1:Int)*KK+x.2))))
   (fun w₁ x x' h h'=>by
    obtain⟨e1,e2⟩:=iL h.2.1 h'.2.1 (h.2.2.2.unique h'.2.2.2).1;exact Prod.ext e1 e2) (fun w₁ x ⟨r,x1,x2,Hq⟩=>by
    obtain⟨v,wt⟩:=x;have AT:=bT (P:=P) (f:=f) Hq ky 18446744069414584320;have QS:IntKind.u64.wrap (((v:Int)+1)*KK+wt+18446744069414584320)=(v:Int)*KK+wt:=by
     have x1:wt≤1:=x1;have x2:v<4:=x2;have e1:wt=0∨wt=1:=by omega
     have e2:v=0∨v=1∨v=2∨v=3:=by omega
     rcases e1 with rfl|rfl<;>rcases e2 with rfl|rfl|rfl|rfl<;>rfl
    simp only at Hq AT;rw[QS]at AT;obtain⟨BU,p1,p2⟩:=G4 v wt x2 x1;have ho:=ES.setCell B.blk 0 w₁ (.int .u64 ((v:Int)*KK+wt));refine⟨{g:=G (fr.finish _) cs,w:=w₁,es:= #[⟨.cell ⟨B.blk,0,none⟩,false,true⟩,⟨.cell ⟨B.blk,0,none⟩,true,true⟩]},Bh false cs w₁ _ _ _ AT (Hu (.inl rfl)),rfl,fp (by omega) (k:=0) (fun e he=> ?_),Hv (.inl rfl), ?_⟩
    ·have he:e=⟨.cell ⟨B.blk,0,none⟩,false,true⟩∨e=⟨.cell ⟨B.blk,0,none⟩,true,true⟩:=by simpa using he
     rcases he with rfl|rfl
     ·exact⟨false,rfl⟩
     ·exact⟨true,rfl⟩
    ·exact p2 ρ _ _ _ B b1 h1 h2 (by show B.blk<(w₁.setCell ⟨B.blk,0,none⟩ _).heap.size; rw[ho.size]; exact AV b3 r.size) ((ho.shape _).trans ((r.shape _ b3).trans b4)) rfl oF ⟨_,_,rfl,BO _ _ _ p1 (.int _ _),hc⟩)
  exact .Ye N rfl b2 h1 h2.1 (by omega) (fun w₁ r v wt N4 hv Hq=>let⟨q1,q2,q3,q4,_⟩:=hN w₁ (v,wt) ⟨r,N4,hv,Hq⟩; ⟨q1,q2,q3,q4⟩) fun w₁ r v wt N4 hv Hq=>(hN w₁ (v,wt) ⟨r,N4,hv,Hq⟩).2.2.2.2
theorem Nh.QH{xs:T XK}(Au:C9 P xs){s:DS}{put:Value→Option PF}{a:Nat}(Bg:Kd xs s (.load .u64) [.pointer (some ⟨a,0,none⟩)] put)(El:s.H.ng=0)(hd:0<s.d)
  (hl: ∃BU,put (.int .u64 1)=some BU∧Nh P ty Post a .k2 ⟨BU,s.cs,s.H,s.d⟩):Nh P ty Post a .k1 s:=by
 obtain⟨BU,p1,n,hn⟩:=hl;refine⟨n+1, ?_⟩;rintro ρ c _ w h1 h2 ⟨B,b1,b2,b3,b4⟩ oF ⟨fr,cs,rfl,hf,hc⟩;obtain⟨f,Ap,_,hx,BO,Bh,_⟩:=Bg.step Au hf (fun o A9=>by rw[El]; exact CJ.zero A9 o);obtain⟨t',rfl,ht⟩:=NZ b1 hx;cases ht;refine .QH (fun w₁=>{g:=G (fr.finish (.int .u64 1)) cs,w:=w₁,es:= #[⟨.cell ⟨B.blk,0,none⟩,false,true⟩]}) rfl b2 h1 h2.1 (by omega) (fun w₁ r Hq=>⟨Bh false cs w₁ _ _ _ (SU (P:=P) (f:=f) Hq) (Hu (.inr (.inl rfl))),rfl,fp (by omega) (k:=0) (fun e he=> ?_),Hv (.inr (.inl rfl))⟩) fun w₁ r Hq=> ?_
 ·have he:e=⟨.cell ⟨B.blk,0,none⟩,false,true⟩:=by simpa using he
  subst he;exact⟨false,rfl⟩
 ·exact hn ρ _ _ w₁ h1 h2 ⟨B,b1,rfl,AV b3 r.size,(r.shape _ b3).trans b4⟩ oF ⟨_,_,rfl,BO _ _ _ p1 (.int _ _),hc⟩
theorem Nh.Lf{xs:T XK}(Au:C9 P xs){s:DS}{put:Value→Option PF}{a:Nat}(Bg:Kd xs s .store [.pointer (some ⟨a,0,none⟩),.int .u64 0] put)(El:s.H.ng=0)(hd:0<s.d)
  (hl: ∃BU,put undef=some BU∧Nh P ty Post a .k3 ⟨BU,s.cs,s.H,s.d⟩):Nh P ty Post a .k2 s:=by
 obtain⟨BU,p1,n,hn⟩:=hl;refine⟨n+1, ?_⟩;rintro ρ c _ w h1 h2 ⟨B,b1,b2,b3,b4⟩ oF ⟨fr,cs,rfl,hf,hc⟩;obtain⟨f,Ap,_,hx,BO,Bh,_⟩:=Bg.step Au hf (fun o A9=>by rw[El]; exact CJ.zero A9 o);obtain⟨t',rfl,ht⟩:=NZ b1 hx;cases ht with
 |cons h ht =>
  cases h;cases ht;refine .Lf (fun w₁=>{g:=G (fr.finish undef) cs,w:=w₁,es:= #[⟨.cell ⟨B.blk,0,none⟩,true,true⟩]}) rfl b2 h1 h2.1 (by omega) (fun w₁ r Hq=>⟨Bh false cs w₁ _ _ _ (bR (P:=P) (f:=f) Hq .u64 0) (Hu (.inr (.inr rfl))),rfl,fp (by omega) (k:=0) (fun e he=> ?_),Hv (.inr (.inr rfl))⟩) fun w₁ r Hq=> ?_
  ·have he:e=⟨.cell ⟨B.blk,0,none⟩,true,true⟩:=by simpa using he
   subst he;exact⟨true,rfl⟩
  ·have ho:=ES.setCell B.blk 0 w₁ (.int .u64 0);exact hn ρ _ _ _ h1 h2 ⟨B,b1,rfl,by show B.blk<(w₁.setCell ⟨B.blk,0,none⟩ _).heap.size; rw[ho.size]; exact AV b3 r.size,(ho.shape _).trans ((r.shape _ b3).trans b4)⟩ oF ⟨_,_,rfl,BO _ _ _ p1 (.tuple .nil),hc⟩
theorem Nh.Lg{xs:T XK}(Au:C9 P xs){s:DS}{put:Value→Option PF}{a:Nat}{t:List Value}(Bg:Kd xs s .FJ (.pointer (some ⟨a,1,none⟩)::t) put)(El:s.H.ng=0)(hd:0<s.d)
  (hl: ∃BU,put undef=some BU∧gF P ⟨BU,s.cs,s.H,s.d⟩):Nh P ty Post a .k3 s:=by
 obtain⟨BU,p1,n,hn⟩:=hl;refine⟨n+1, ?_⟩;rintro ρ c _ w h1 h2 ⟨B,b1,b2,b3,b4⟩ oF ⟨fr,cs,rfl,hf,hc⟩;obtain⟨f,Ap,_,hx,BO,Bh,_⟩:=Bg.step Au hf (fun o A9=>by rw[El]; exact CJ.zero A9 o);obtain⟨t',rfl,ht⟩:=NZ b1 hx;refine .Lg (fun w₁=>{g:=G (fr.finish undef) cs,w:=w₁,es:=JC B.blk}) rfl b2 h1 h2.1 (by omega) (Bg.Z2 Au hf El cs) (fun w₁ r Hq=>⟨Bh false cs w₁ _ _ _ (gu (P:=P) (f:=f) Hq t') (Um _),rfl,Z7 _ _,Un _ _⟩) fun w₁ r Hq=> ?_;exact .leave h1 rfl h2.1 h2.2 (by show QuitsD P n c.d _; rw[oF]; exact hn ρ _ ⟨_,_,rfl,BO _ _ _ p1 (.tuple .nil),hc⟩)
end
def I7(xs:T XK)(s:DS):Option (XK×List Value) :=
 match s with
 |⟨fr,_,H,_⟩=>match fr.mode with
  | .run=>match fr.todo with
   | .ops all _ (o::_)::_=>cond (Ae fr.kind) (match Aj fr all o with
    |some true=>LO xs H.ng fr o
    |_=>none) none
   |_=>none
  |_=>none
def IF(s:DS)(v:Value):Option PF :=
 match s with
 |⟨fr,_,_,_⟩=>match fr.todo with
  | .ops all i (o::l)::kk=>match By fr o.dst v with
   |some tm=>some (fr.up tm (.ops all (i+1) l::kk))
   |none=>none
  |_=>none
theorem DI{xs:T XK}{s:DS}{k:XK}{vs:List Value}(h:I7 xs s=some (k,vs)):Kd xs s k vs (IF s):=by
 obtain⟨fr,cs,H,d⟩:=s;unfold I7 at h;simp only at h;split at h
 ·rename_i hm;split at h
  ·rename_i all i o l kk ht;cases hk:Ae fr.kind with
   |false=>rw[hk]at h; cases h
   |true =>
    rw[hk]at h;simp only[AG]at h;split at h
    ·rename_i hw;refine⟨all,i,o,l,kk,hm,ht,(fun e=>by rw[e]at hk; cases hk),hw,h, ?_⟩;funext v;unfold IF;simp only[ht];cases By fr o.dst v<;>rfl
    ·cases h
  ·cases h
 ·cases h
section
variable{P:Program}{C:CB}{xs:T XK}{ty:TypeId}{ρ:Ah}
def Uc(k:XK)(vs:List Value)(d:Nat):Option (Value×Nat) :=
 match k with
 | .disable=>some (undef,d+1)
 | .enable=>some (undef,d-1)
 | .QG b=>some (.bool b,d)
 | .acquire=>match vs with
  | .pointer (some _)::_=>some (undef,d)
  |_=>none
 | .Dw=>match vs with
  | .pointer (some _)::_=>some (undef,d)
  |_=>none
 |_=>none
theorem Rh{k:XK}{vs Ap:List Value}{d d':Nat}{v:Value}{f:FuncId}(hx:CE ρ vs Ap)(h:Uc k vs d=some (v,d')): ∃es:Array Event,VR ρ v v∧(∀w,(k.Di Ap.toArray).runT P w #[EZ f]=(.ok v w,#[EZ f]++es))∧(∀e∈es,(MemAct.ofEvent e).touch?=none∧∀a,MemAct.ofEvent e≠ .mark (.release a))∧(∀e∈es,e.sync=true∧∀g,e.loc≠ .mark (.extern g))∧deafBehind d es=d':=by
 have hu:VR ρ undef undef:= .tuple .nil;cases k with
 |disable =>
  cases h;exact⟨#[⟨.mark .disable,false,true⟩],hu,fun w=>rfl,by simp[MemAct.ofEvent,MemAct.touch?],by simp,rfl⟩
 |enable =>
  cases h;exact⟨#[⟨.mark .enable,false,true⟩],hu,fun w=>rfl,by simp[MemAct.ofEvent,MemAct.touch?],by simp,rfl⟩
 |QG b =>
  cases h;exact⟨#[],.bool b,fun w=>rfl,by simp,by simp,rfl⟩
 |acquire =>
  simp only[Uc]at h;split at h
  ·cases h;obtain⟨B,m,hB,rfl,_⟩:=GX hx;exact⟨#[⟨.mark (.acquire _),false,true⟩],hu,fun w=>rfl,by simp[MemAct.ofEvent,MemAct.touch?],by simp,Cl _ _ fun e he=>by
    simp at he; subst he; exact⟨(fun h=>by cases h),(fun h=>by cases h)⟩⟩
  ·cases h
 |Dw =>
  simp only[Uc]at h;split at h
  ·cases h;obtain⟨B,m,hB,rfl,_⟩:=GX hx;exact⟨#[⟨.mark (.releaseMerge _),false,true⟩],hu,fun w=>rfl,by simp[MemAct.ofEvent,MemAct.touch?],by simp,Cl _ _ fun e he=>by
    simp at he; subst he; exact⟨(fun h=>by cases h),(fun h=>by cases h)⟩⟩
  ·cases h
 |_=>cases h
def lX(C:CB)(a:Nat)(pf:PF)(o:Oper):Option Value :=
 match o.op with
 | .fieldAddr t x k=>match AQ 0 pf x with
  |some (.pointer (some b))=>LL C.ty t k b
  |_=>none
 | .convert s t x=>match AQ 0 pf x with
  |some (.pointer (some b))=>HX C.ty ⟨0,T.nil.set a (.cells .nil 2 0 0 false 0 false false),0,.nil⟩ s t b
  |_=>none
 |_=>none
theorem cE(hC:An C){a:Nat}{pf:PF}{fr:Frame}{o:Oper}(h:CJ 0 ρ pf fr o){v:Value}(hp:lX C a pf o=some v){w:World}(hs: ∃B,ρ a=some B∧w.shape? B.blk=some (ty,2))(ha:a<2^T.deep):(∀c,o.op≠ .defer c)∧∃v',VR ρ v v'∧(execOp fr.eval o).runT C.P w #[]=(.ok (.value v') w,#[]):=by
 unfold lX at hp;split at hp
 ·rename_i t x k ho;refine⟨(fun c e=>by rw[ho]at e; cases e), ?_⟩;split at hp
  ·rename_i b hx;have hv:=h x (by simp[ho,Op.operands]) _ hx;unfold LL at hp;split at hp
   ·rename_i ti fs e1;split at hp
    ·rename_i f e2;split at hp
     ·rename_i n e3;cases e4:Nat.beq n 0 with
      |true=>rw[e4]at hp; cases hp
      |false =>
       rw[e4]at hp;simp only[Av,AE]at hp;subst hp;generalize C6:fr.eval x=u' at hv;cases hv with
       |ptr hB =>
        rename_i B;refine⟨_,VR.ML hB f.offset, ?_⟩;have vp:(fieldPlace {b with block:=B.blk} f).runT C.P w #[]=(.ok (({b with block:=B.blk}:Addr).add f.offset) w,#[]):=by
         show((sizeOf f.type).bind fun n=>if n=0 then partAt {b with block:=B.blk} f.offset f.byteOffset else pure (({b with block:=B.blk}:Addr).add f.offset)).runT C.P w #[]=_;rw[AB (Ef hC.ty e3 _),AA (Bl e4)];rfl
        have AT:(Instr.fieldAt t (.pointer (some {b with block:=B.blk})) k).runT C.P w #[]=(.ok (.pointer (some (({b with block:=B.blk}:Addr).add f.offset))) w,#[]):=by
         unfold Instr.fieldAt;refine(AB (s:=underlying t) (Aa (hC.ty _ _ e1).2)).trans ?_;have e2':fs[k]? =some f:=by rw[← CQ]; exact e2
         simp only[e2'];refine(AB (s:=Instr.sureAddr (.pointer (some {b with block:=B.blk}))) (a:={b with block:=B.blk}) (w':=w) (es':= #[]) rfl).trans ?_;show((fieldPlace {b with block:=B.blk} f).bind fun p=>pure (Value.pointer (some p))).runT C.P w #[]=_;rw[AB vp];rfl
        have BB:execOp fr.eval o=(Instr.fieldAt t (.pointer (some {b with block:=B.blk})) k).bind fun r=>Sem.pure (Next.value r):=by
         unfold execOp; rw[ho]; show(Instr.fieldAt t (fr.eval x) k).bind _=_; rw[C6]; rfl
        rw[BB,AB AT];rfl
     ·cases hp
    ·cases hp
   ·cases hp
  ·cases hp
 ·rename_i s t x ho;refine⟨(fun c e=>by rw[ho]at e; cases e), ?_⟩;split at hp
  ·rename_i b hx;have h1:=h x (by simp[ho,Op.operands]) _ hx;unfold HX at hp;split at hp
   ·rename_i si e e1;split at hp
    ·rename_i ti td e2;obtain⟨eu,He⟩:=upT_cond hp;replace hp:=He;cases td<;>first|exact(Bool.false_ne_true eu).elim|skip
     split at hp
     ·rename_i n e3;split at hp
      ·rename_i e4;split at hp
       ·rename_i tr size el es own fam ok D4 e5;replace e5:(T.nil.set a (.cells .nil 2 0 0 false 0 false false)).get b.block=some (AI.cells tr size el es own fam ok D4):=e5;rw[T.AW _ _ _ _ ha]at e5;by_cases eb:b.block=a
        ·rw[AD eb]at e5;cases e5;cases e6:(!Nat.beq n 0&&Nat.blt b.off 2)with
         |false=>rw[e6]at hp; cases hp
         |true =>
          rw[e6]at hp;simp only[AG,AE]at hp;subst hp;simp only[AF,BI]at e6;have c1:=Bl e6.1;have c2:b.off<2:=AH e6.2;generalize C6:fr.eval x=u at h1;cases h1 with
          |ptr hB =>
           rename_i B;obtain⟨B',O0,nQ⟩:=hs;rw[eb,O0]at hB;cases hB;refine⟨_,.ptr (a:=b) (B:=B) (by rw[eb]; exact O0), ?_⟩;have Yi: ∀es,(shape B.blk).runT C.P w es=(.ok (some (ty,2)) w,es):=fun es=>by
            show(Sem.shape B.blk .pure).runT C.P w es=_;simp only[Sem.runT,nQ]
           have WB: ∀es,(viewAt B.blk).runT C.P w es=(.ok none w,es):=fun es=>by
            unfold viewAt;refine(AB (Yi es)).trans ?_;rfl
           have WH: ∀es,(Conv.seenAt {b with block:=B.blk}).runT C.P w es=(.ok {b with block:=B.blk} w,es):=fun es=>by
            unfold Conv.seenAt;refine(AB (WB es)).trans ?_;rfl
           have QY: ∀es,(cellsIn B.blk).runT C.P w es=(.ok (some 2) w,es):=fun es=>by
            unfold cellsIn;refine(AB (Yi es)).trans ?_;rfl
           have AT:(Go.convert s t (.pointer (some {b with block:=B.blk}))).runT C.P w #[]=(.ok (.pointer (some {b with block:=B.blk})) w,#[]):=by
            unfold Go.convert;refine(AB (s:=underlying s) (Aa (hC.ty _ _ e1).2)).trans ?_;refine(AB (s:=underlying t) (Aa (hC.ty _ _ e2).2)).trans ?_;refine(AB (s:=underlying s) (Aa (hC.ty _ _ e1).2)).trans ?_;refine(AB (s:=underlying t) (Aa (hC.ty _ _ e2).2)).trans ?_;refine(AB (WH _)).trans ?_;refine(AB (QY _)).trans ?_;refine(AB (Ef hC.ty e3 _)).trans ?_;have bD:(decide (b.off≥2)&&b.spot.isNone)=false:=by
             have: ¬b.off≥2:=by omega
             simp[this]
            simp only[bD];rw[AA (by simp; exact c1)];rfl
           have BB:execOp fr.eval o=(Go.convert s t (.pointer (some {b with block:=B.blk}))).bind fun r=>Sem.pure (Next.value r):=by
            unfold execOp; rw[ho]; simp only[C6]; rfl
           rw[BB,AB AT];rfl
        ·rw[AA eb]at e5; cases e5
       ·cases hp
      ·cases hp
     ·cases hp
    ·cases hp
   ·cases hp
  ·cases hp
 ·cases hp
def Oj(C:CB)(pf:PF)(c:Call):Option (FuncId×Func×Code×List Value) :=
 match c.callee with
 | .value f=>match AQ 0 pf f with
  |some (.func (.func g) xs ys)=>match Eh 0 pf c.args.toList with
   |some vs=>match C.fns.get g with
    |some fn=>match fn.body with
     |some body=>cond (A4 fn&&Nat.ble (xs.toList++vs++ys.toList).length (2^T.deep)) (some (g,fn,body,xs.toList++vs++ys.toList)) none
     |none=>none
    |none=>none
   |none=>none
  |_=>none
 |_=>none
def sU(C:CB)(xs:T XK)(a:Nat)(fr:PF)(cs:List PF)(H:PH)(d:Nat)(all:Array Oper)(i:Nat)(o:Oper)(l:List Oper)(k:List Ab):Option DS :=
 match LO xs 0 fr o with
 |some (x,vs)=>match Uc x vs d with
  |some (v,d')=>match By fr o.dst v with
   |some tm=>some ⟨fr.up tm (.ops all (i+1) l::k),cs,H,d'⟩
   |none=>none
  |none=>none
 |none=>match lX C a fr o with
  |some v=>match By fr o.dst v with
   |some tm=>some ⟨fr.up tm (.ops all (i+1) l::k),cs,H,d⟩
   |none=>none
  |none=>match o.op with
   | .call c=>match Oj C fr c with
    |some (g,fn,body,args)=>some ⟨CN g fn body args .normal,fr::cs,H,d⟩
    |none=>none
   | .defer c=>match fr.round with
    |none=>match EM 0 fr o c with
     |some df=>match By fr o.dst undef with
      |some tm=>some ⟨fr.x7 tm (.ops all (i+1) l::k) df,cs,H,d⟩
      |none=>none
     |none=>none
    |_=>none
   |_=>none
def ZO(C:CB)(xs:T XK)(a:Nat)(s:DS):Option DS :=
 match N1 C xs s with
 |some s'=>some s'
 |none=>match s with
  |⟨fr,cs,H,d⟩=>match fr.mode with
   | .run=>match fr.todo with
    | .ops all i (o::l)::k=>cond (Ae fr.kind) (match Aj fr all o with
     |some true=>sU C xs a fr cs H d all i o l k
     |_=>none) none
    |_=>none
   |_=>match fr.defers with
    |⟨.fn (.func f) ys,AAe⟩::ds=>match C.fns.get f with
     |some fn=>match fn.body with
      |some body=>cond (A4 fn&&Nat.ble (AAe.toList.length+ys.toList.length) (2^T.deep)) (some ⟨CN f fn body (AAe.toList++ys.toList) .deferred,fr.OO ds::cs,H,d⟩) none
      |none=>none
     |none=>none
    |_=>none
theorem QR.fs{s:DS}{g:Goroutine}(h:QR ρ s g): ∃fr cs,g=G fr cs∧Br ρ s.fr fr []∧Q8 ρ s.cs cs []:=h
theorem Ux(hC:An C)(Au:C9 C.P xs){a:Nat}(ha:a<2^T.deep){s s':DS}(hp:ZO C xs a s=some s'):xw C.P ty a s s':=by
 unfold ZO at hp;split at hp
 ·rename_i gL e;cases hp;exact(N0 hC Au e).q a
 ·obtain⟨fr,cs,H,d⟩:=s;rintro ρ g w ⟨rf,Mt,rfl,hf,hc⟩ Yi;replace hf:Br ρ fr rf []:=hf;replace hc:Q8 ρ cs Mt []:=hc;simp only at hp;split at hp
  ·rename_i hm;split at hp
   ·rename_i all i o l k ht;cases hk:Ae fr.kind with
    |false=>rw[hk]at hp; cases hp
    |true =>
     rw[hk]at hp;simp only[AG]at hp;have CP:rf.kind≠ .early:=fun e=>by rw[hf.kind]at e; rw[e]at hk; cases hk
     have NL:fr.kind≠ .early:=fun e=>by rw[e]at hk; cases hk
     obtain⟨Dj,ho,A9,rest,m,e,E0,Ky⟩:=hf.ops ht;split at hp
     ·rename_i hw;have N4:=BE (fun _ _ t v _ _ hv=>A9 t v hv) hw;unfold sU at hp;split at hp
      ·rename_i x vs ex;split at hp
       ·rename_i v d' ev;split at hp
        ·rename_i tm ep;cases hp
         let s0:DS:=⟨fr,cs,⟨0,.nil,0,.nil⟩,d⟩
         have Bg:Kd xs s0 x vs (fun v=>(By fr o.dst v).map fun tm=>{fr with tmps:=tm,todo:= .ops all (i+1) l::k}):=⟨all,i,o,l,k,hm,ht,NL,hw,ex,rfl⟩;obtain⟨f,Ap,_,hx,BO,Bh,_⟩:=Bg.step Au hf (fun o A9=>CJ.zero A9 o);obtain⟨es,q1,q2,q3,q4,q5⟩:=Rh (P:=C.P) (f:=f) hx ev;refine⟨_,es,⟨_,_,rfl,BO v v {fr with tmps:=tm,todo:= .ops all (i+1) l::k} (by simp only[ep]; rfl) q1,hc⟩,rfl,rfl,q3,Bh false Mt w v w es (q2 w) q4,q5⟩
        ·cases hp
       ·cases hp
      ·split at hp
       ·rename_i v ev;split at hp
        ·rename_i tm ep;cases hp;obtain⟨D7,v',h1,h2⟩:=cE (ty:=ty) hC (CJ.zero A9 o) ev Yi ha;refine⟨_,#[],⟨_,_,rfl,hf.put ht ep h1,hc⟩,rfl,rfl,by simp, ?_,rfl⟩;have:=Cv (P:=C.P) (main:=false) (cs:=Mt) (Br.run hf hm) e ho N4 CP (fun c hc=>absurd hc (D7 c)) (.inl h2);rw[seen_none]at this;exact this
        ·cases hp
       ·split at hp
        ·rename_i cl eo;split at hp
         ·rename_i g fn body args ec;cases hp;unfold Oj at ec;obtain⟨callee,AAe,EY⟩:=cl;simp only at ec;split at ec
          ·rename_i fo;split at ec
           ·rename_i g' xs' ys e1;split at ec
            ·rename_i vs e2;split at ec
             ·rename_i NS e3;split at ec
              ·rename_i fv e4;cases e5:A4 NS&&Nat.ble (xs'.toList++vs++ys.toList).length (2^T.deep)with
               |false=>rw[e5]at ec; cases ec
               |true =>
                rw[e5]at ec;simp only[AG,AE,AR]at ec;obtain⟨rfl,rfl,rfl,rfl⟩:=ec;obtain⟨q1,q2⟩:=Bj.1 e5;obtain⟨Ap,a1,a2⟩:=H5 (w:=w) (P:=C.P) (H:=⟨0,.nil,0,.nil⟩) (CJ.zero A9 o) eo e1 (hC.fns _ _ e3) q1 e2;have Aq:=Fi (P:=C.P) (main:=false) (cs:=Mt) ((Br.run hf) hm) e ho N4 CP (fun c hc=>by rw[eo]at hc; cases hc) a2;rw[seen_none]at Aq;exact⟨_,#[],⟨_,_,rfl,Br.enter (hC.fns _ _ e3) e4 a1 (AH q2) .normal,.cons hf hc⟩,rfl,rfl,by simp,Aq,rfl⟩
              ·cases ec
             ·cases ec
            ·cases ec
           ·cases ec
          ·cases ec
         ·cases hp
        ·rename_i cl eo;split at hp
         ·rename_i Tg;split at hp
          ·rename_i df ed;split at hp
           ·rename_i tm ep;cases hp;obtain⟨jK,d1,d2⟩:=HD (P:=C.P) (w:=w) (H:=⟨0,.nil,0,.nil⟩) (CJ.zero A9 o) eo ed;have I0:rf.roundOf=none:=by
             have:=hf.round;rw[Tg]at this;generalize rf.roundOf=b at this;cases this; rfl
            have BO:=hf.put ht ep (v':=undef) (.tuple .nil);have vr:Br ρ {fr with tmps:=tm,todo:= .ops all (i+1) l::k,defers:=df::fr.defers} (({rf with defers:=jK::rf.defers}:Frame).finish undef) []:=by
             have e1:({rf with defers:=jK::rf.defers}:Frame).finish undef={rf.finish undef with defers:=jK::rf.defers}:=by
              rw[BV (fr:={rf with defers:=jK::rf.defers}) e ho,BV e ho]
             rw[e1];exact⟨BO.fn,BO.size,BO.todo,.cons d1 hf.defers,BO.mode,BO.kind,BO.round⟩
            refine⟨_,#[],⟨_,Mt,rfl,vr,hc⟩,rfl,rfl,by simp, ?_,rfl⟩;rw[D6 (Br.run hf hm) e ho N4 (fun _ _=>I0)];unfold stepG.apply;have Hs:(rf.kind==CallKind.early)=false:=by simpa using CP
            simp only[Ad,d2,Hs];rfl
           ·cases hp
          ·cases hp
         ·cases hp
        ·cases hp
     ·cases hp
   ·cases hp
  ·rename_i hm;have R6:fr.mode≠ .run:=fun e=>hm e;split at hp
   ·rename_i f ys AAe ds ed;split at hp
    ·rename_i fn e1;split at hp
     ·rename_i body e2;cases e3:A4 fn&&Nat.ble (AAe.toList.length+ys.toList.length) (2^T.deep)with
      |false=>rw[e3]at hp; cases hp
      |true =>
       rw[e3]at hp;simp only[AG,AE]at hp;subst hp;obtain⟨q1,q2⟩:=Bj.1 e3;have q2:=AH q2;have G2:=hf.defers;rw[ed]at G2;obtain⟨d',XG,e4,IX,Ys⟩:=G2.cons_inv;cases IX with
       |mk Zl hx =>
        rename_i t' xs';cases Zl with
        |fn Gv Li =>
         rename_i NS Ij;cases Gv;refine⟨G (Frame.enter C.P f (xs'++Ij) .deferred) ({rf with defers:=XG}::Mt),#[],⟨_,_,rfl,Br.enter (hC.fns _ _ e1) e2 (by simpa using hx.append Li) (by simpa using q2) .deferred,.cons (pd:= []) (pds:= []) (hf.IG Ys) hc⟩,rfl,rfl,by simp, ?_,rfl⟩;rw[DZ (hf.mode.La R6)];unfold unwind;simp only[e4];unfold Go.callDeferred;have hinv:invoke (.fn (.func f) Ij) xs'=callFunc f (xs'++Ij):=rfl;rw[hinv,EA (hC.fns _ _ e1) q1];rfl
     ·cases hp
    ·cases hp
   ·cases hp
end
section
variable{P:Program}{E7:DD}{ty:TypeId}{Post:Value→World→Prop}
theorem Q8.Xh{ρ:Ah}: ∀{l:List PF} {m:List Frame} {pds:List Nat},Q8 ρ l m pds→(l.all fun pf=>At pf.todo)=true→pds= []
 |_,_,_,.nil,_=>rfl
 |_,_,_,.cons h t,hp=>by
  simp only[List.all_cons,AF]at hp;rw[(h.Dl hp.1).1,t.Xh hp.2];rfl
theorem bq{o:Oper}{x y:Operand}(ho:o.op= .send x y)(ev:Operand→Value){ch:Nat}(hx:ev x= .chan (some ch))(w:World):(execOp ev o).runT P w #[]=(.ok (.comm #[scase ch (ev y) (.tuple #[])] true .send) w,#[]):=by
 unfold execOp;rw[ho];show(Sem.pure (Next.comm #[{chan:=ev x,send:=some (ev y),zero:= .tuple #[]}] true .send)).runT P w #[]=_;rw[hx];rfl
structure gD(p:Nat→Bool)(kv:KV)(H:PH):Prop where
 news: ∀q∈kv.news,p q.1=false∧H.t.get q.1=some q.2∧(∃t size elem es fam D4,q.2= .cells t size elem es true fam true D4)∧∀y,p y=true→∀o,H.t.get y=some o→o.fam≠0→o.fam≠q.2.fam
 live: ∀ρ c w,HR ρ H c w→∀v',VR ρ kv.v v'→∀q∈kv.news,∃B,ρ q.1=some B
theorem JA.send{p:Nat→Bool}{pg:PG}{kv:KV}{s0 s1:DS}(BW:pg.AY=none)(hr:Cm P ty Post false s0 s1)(hm:s1.fr.mode= .run){all:Array Oper}{i:Nat}{o:Oper}{l:List Oper}{k:List Ab}(ht:s1.fr.todo= .ops all i (o::l)::k)(hk:s1.fr.kind≠ .early)(hw:Aj s1.fr all o=some true)
  {x y:Operand} (A5:o.op= .send x y) (hx:AQ s1.H.ng s1.fr x=some (.chan (some pg.ch))) (hy:AQ s1.H.ng s1.fr y=some kv.v) (hd:s1.d=0) {tm:T Value} (BO:By s1.fr o.dst undef=some tm) (NN:(s1.cs.all fun pf=>At pf.todo)=true) (xY:gD p kv s1.H)
  (hq:(pg.wg=none∧gF P ⟨{s1.fr with tmps:=tm,todo:= .ops all (i+1) l::k},s1.cs,⟨0,.nil,0,.nil⟩,0⟩)∨∃a φ,pg.wg=some (a,φ)∧(∃t es own ok D4,s1.H.t.get a=some (.cells t 2 ty es own 0 ok D4))∧Nh P ty Post a .cnt ⟨{s1.fr with tmps:=tm,todo:= .ops all (i+1) l::k},s1.cs,⟨0,.nil,0,.nil⟩,0⟩) :
  JA P ty Post p pg kv s0:=by
 obtain⟨k1,Ly⟩:=hr;obtain⟨n,hn⟩: ∃n,∀ρ c g w,QR ρ ⟨{s1.fr with tmps:=tm,todo:= .ops all (i+1) l::k},s1.cs,⟨0,.nil,0,.nil⟩,0⟩ g→c.send=none→c.AP=none∧c.AL=none→c.d=0→
   ((pg.wg=none∧c.dec=none)∨∃a φ B,pg.wg=some (a,φ)∧ρ a=some B∧c.dec=some (B.blk,.cnt)∧∀t es own ok D4,s1.H.t.get a=some (.cells t 2 ty es own 0 ok D4)→B.blk<w.heap.size∧w.shape? B.blk=some (ty,2))→W P ty Post false n c g w:=by
  rcases hq with⟨h1,n,hn⟩|⟨a,φ,h1,⟨t,es,own,ok,D4,h2⟩,n,hn⟩
  ·refine⟨n,fun ρ c g w hg c1 c2 c3 c4=> ?_⟩;rcases c4 with⟨_,c4⟩|⟨a,φ,B,c4,_⟩
   ·exact .leave c1 c4 c2.1 c2.2 (by rw[c3]; exact hn ρ g hg)
   ·rw[h1]at c4; cases c4
  ·refine⟨n,fun ρ c g w hg c1 c2 c3 c4=> ?_⟩;rcases c4 with⟨c4,_⟩|⟨a',φ',B,c4,c5,c6,c7⟩
   ·rw[h1]at c4; cases c4
   ·rw[h1]at c4; cases c4;obtain⟨q1,q2⟩:=c7 _ _ _ _ _ h2;exact hn ρ c g w c1 c2 ⟨B,c5,c6,q1,q2⟩ c3 hg
 refine⟨n+1+k1,fun E hE=> ?_⟩;obtain⟨BC,ws,WW,j9,hsend⟩:=hE.send;have IW:E.AL=none:=by
  have:=hE.AY;rw[BW]at this;generalize hz:E.AL.map (·.C)=z at this;cases this;simpa using hz
 refine Ly E (.inr (by rw[hsend]; simp)) hE.wU (n+1) fun ρ c g w Oz=> ?_;cases Oz with
 |mk hf hc D7 ET hH AO Dx h1 h2 h3 Bv =>
  rename_i fr cs pd pds;obtain⟨Dj,ho,A9,rest,mm,e,E0,Ky⟩:=hf.ops ht;have nX:=hc.Xh NN;subst nX;subst Dj;have hBC':=Bv.Fq _ _ WW;have C6:fr.eval x= .chan (some BC.blk):=by
   have h:=CJ.of A9 hH o x (by simp[A5,Op.operands]) _ hx;generalize fr.eval x=u at h;cases h with
   |chan hB =>
    rw[hBC']at hB;cases hB;rfl
  have rJ:VR ρ kv.v (fr.eval y):=CJ.of A9 hH o y (by simp[A5,Op.operands]) _ hy;rw[hE.base,List.append_nil];have Aq: ∀w₁,stepG P false (G fr cs) w₁= .comm (G fr cs) #[scase BC.blk (fr.eval y) (.tuple #[])] true .send w₁ #[]:=fun w₁ =>
   stepG_comm ((Br.run hf) hm) e ho (BE (fun _ _ t v _ _ hv=>A9 t v hv) hw) (by rw[hf.kind]; exact hk) (fun c hc=>by rw[A5]at hc; cases hc) (bq A5 fr.eval C6 w₁)
  refine W.send (fun w₁=>{g:=G fr cs,w:=w₁,es:= #[],v:=fr.eval y,z:= .tuple #[],R:=fun a=>a.block<w₁.heap.size∧(c.R a∨c.M a.block)}) rfl (by rw[Dx]; exact hd) (h1.trans hsend) (h3.trans hE.wU.1) (Bv.AL.trans IW) (fun w₁ r=> ?_) fun w₁ r=> ?_
  ·refine⟨Aq w₁,BQ.nil _ _ _,rfl, ?_,fun a ha=>ha⟩;have DN:=hH.rely r;have hk1':=Bv.rely r;refine⟨ρ,fun z hz=> ?_,rJ,fun q hq=> ?_⟩
   ·obtain⟨B,hB⟩:=hE.low z hz;exact⟨B,hB,Bv.Fq _ _ hB⟩
   ·obtain⟨hp,Ew,⟨t,size,elem,es,fam,D4,Zq⟩,WO⟩:=xY.news q hq;obtain⟨B,hB⟩:=xY.live ρ c w₁ DN _ rJ q hq;have Mx:=DN.rel _ _ _ hB Ew;refine⟨B,hB, ?_, ?_⟩
    ·rcases hk1'.fresh _ _ hB with h|⟨z,B',hz,RR⟩
     ·exact A1 j9 h
     ·exfalso;have hpz:=hE.names _ _ hz;have BK:z≠q.1:=fun e=>by rw[e,hp]at hpz; cases hpz
      rcases DN.inj _ _ _ _ (Bv.Fq _ _ hz) hB BK RR with⟨o1,o2,e1,e2,e3,e4⟩|⟨_,nN⟩
      ·rw[Ew]at e2; cases e2;exact WO z hpz _ e1 e3 e4
      ·have:=nN _ Ew;rw[Zq]at this;cases this
    ·rw[Zq]at Mx ⊢;cases Mx with
     |cells hs he gU hle Ax hR Tk =>
      have hM:=(Ax rfl).1;have Ac:B.blk<w₁.heap.size:=(DN.Dk _ _ hB).2;exact⟨hs,he,hle,⟨Ac,.inr hM⟩,fun j hj=>⟨⟨Ac,.inr hM⟩,TC (Tk rfl j hj)⟩⟩
  ·have dz:Conc.served (G fr cs) undef=G (fr.finish undef) cs:=rfl;show W P ty Post false n _ (Conc.served (G fr cs) undef) w₁;rw[dz];refine hn ρ _ _ w₁ ⟨_,_,rfl,hf.put ht BO (.tuple .nil),hc⟩ rfl ⟨h3.trans hE.wU.1,Bv.AL.trans IW⟩ (Dx.trans hd) ?_;rcases hE.dec with⟨q1,q2⟩|⟨a,φ,B,q1,q2,q3⟩
   ·exact .inl ⟨q1,h2.trans q2⟩
   ·refine .inr ⟨a,φ,B,q1,Bv.Fq _ _ q2,h2.trans q3,fun t es own ok D4 Ew=> ?_⟩;have DN:=hH.rely r;have Mx:=DN.rel _ _ _ (Bv.Fq _ _ q2) Ew;refine⟨(DN.Dk _ _ (Bv.Fq _ _ q2)).2, ?_⟩;cases Mx with
    |cells hs he gU hle Ax hR Tk=>rw[hs,gU rfl]
end
end Go.Gd
end
