/- Lemmas. No condition. -/
import Derived.Test.YtlkijhibifmamaaGreatDoorBB
import Derived.RangeFuncCalls
import Derived.RangeFuncLeaves
import Derived.OrdersIn
import Derived.RangeFuncIn
set_option linter.all false
set_option autoImplicit true
set_option relaxedAutoImplicit true
set_option maxHeartbeats 0
set_option maxRecDepth 100000
noncomputable section
open Option renaming some→Y,none→J
open Bool renaming true→dT,false→dU
open List renaming length→O
namespace Go.As
open Go.RowKit
structure St where
 F:T A
 D:List S
 H:eM
def yj(a:Kx):L S->L Deferred->Prop
 |[],[]=>True
 |d::D,m::ds=>(∃r,a.ρ d=Y r/\m={target:=.collected r,args:=#[]})/\yj a D ds
 | _,_=>False
def yj.mono{B:Nat->Prop}{w e:World}{a p:Kx}(E:fL B w a e p):∀{D:L S}{l:L Deferred},yj a D l->yj p D l:=by
 intro D;induction D with
 |nil=>intro l h;cases l<;>exact h
 |cons d D i=>
 intro l h;cases l with
 |nil=>exact h
 |cons m l=>let⟨⟨r,K,b⟩,c⟩:=h;exact⟨⟨r,E.jM _ _ K,b⟩,i c⟩
def tK(a:Kx):Option S->Fence->Prop
 |none,F=>F=Fence.wide
 |some l,F=>∃c,a.ρ l=Y c/\F=Fence.wide.inRound c
def tK.mono{B:Nat->Prop}{a p:Kx}(E:fL B w a b p){R:Option S}{F:Fence}(h:tK a R F):tK p R F:=by
 cases R with
 |none=>exact h
 |some l=>let⟨c,K,r⟩:=h;exact⟨c,E.jM _ _ K,r⟩
structure jd (B:Nat→Prop)(G:ez)(N:Nat)(s:St)(w:World)(X:Kx)(a:Act):Prop where
 size:N≤a.tmps.size
 heap:fJ B G s.H w X
 tmps:kA w X s.F a.tmps
 fX:yj X s.D a.defers
section
variable(P:Program)(G:ez)
def gJ(R:Option S)(N:Nat)(c:Code)(s:St)(Q:Exit->St->Prop):Prop:=
 ∀(B:Nat->Prop)(w:World)(b:Kx)(a:Act)(F:Fence),jd B G N s w b a->tK b R F->
  c.wpIn F 0 P (λe k d=>∃j p,Q e j/\fL B w b d p/\jd B G N j d p k) a w
def FinA(B:Nat->Prop)(w:World)(b:Kx)(Q:A->eM->Prop)(v:Value)(a:World):Prop:=
 ∃r D p,Q r D/\fL B w b a p/\fJ B G D a p/\eQ a p r v
def CT(B:Nat->Prop)(w:World)(a:Kx)(Q:A->eM->Prop):Result Next->Prop
 |.ok (.value v) w'=>FinA G B w a Q v w'
 |.ok (.enter f args) w'=>CallsIn Fence.wide 0 P f args w' λ
   |.returned v,w''=>FinA G B w a Q v w''
   | _,_=>False
 | _=>False
def eL(f:FuncId)(K:L A)(H:eM)(Q:A->eM->Prop):Prop:=
 ∀(B:Nat->Prop)(w:World)(b:Kx)(a:Array Value),fJ B G H w b->fR w b K a.toList->CT P G B w b Q ((callFunc f a).run P w)
end
section
variable{P:Program}{G:ez}{R:Option S}{N:Nat}{s:St}{Q:Exit→St→Prop}
def FinA.mono{B:Nat->Prop}{c:Kx}{Q a:A->eM->Prop}(h:FinA G B w c Q v b)(t:∀r D,Q r D->a r D):FinA G B w c a v b:=
 let⟨r,D,p,K,d⟩:=h
 ⟨r,D,p,t _ _ K,d⟩
def CT.mono{B:Nat->Prop}{Q a:A->eM->Prop}{x:Result Next}(h:CT P G B w b Q x)(t:∀r D,Q r D->a r D):CT P G B w b a x:=by
 cases x with
 |halt=>exact h
 |ok nx d=>cases nx<;>first|exact h|exact FinA.mono h t|exact CallsIn.mono h (λe c F=>by cases e<;>first|exact F|exact FinA.mono F t)
def eL.mono{Q b:A->eM->Prop}(h:eL P G f K H Q)(t:∀r D,Q r D->b r D):eL P G f K H b:=
 λB w d a c n=>(h B w d a c n).mono t
def gJ.mono{c:Code}{b:Exit->St->Prop}(h:gJ P G R N c s Q)(t:∀e j,Q e j->b e j):gJ P G R N c s b:=
 λB w f a F d n=>wpIn_mono (h B w f a F d n) λe k g ⟨j,p,K,r⟩=>⟨j,p,t _ _ K,r⟩
def gJ.skip(h:Q .normal s):gJ P G R N .skip s Q:=λB w b a F r n=>wpIn_skip ⟨s,b,h,fL.refl _ _ _,r⟩
def gJ.label(h:Q .normal s):gJ P G R N (.label l) s Q:=λB w b a F r n=>wpIn_label ⟨s,b,h,fL.refl _ _ _,r⟩
def gJ.exit{i:Nat}(h:Q (.exit i) s):gJ P G R N (.exit i) s Q:=λB w b a F r n=>wpIn_exit ⟨s,b,h,fL.refl _ _ _,r⟩
def gJ.goto(h:Q (.goto l) s):gJ P G R N (.goto l) s Q:=λB w b a F r n=>wpIn_goto ⟨s,b,h,fL.refl _ _ _,r⟩
def gJ.ret(h:Q .ret s):gJ P G R N .ret s Q:=λB w b a F r n=>wpIn_ret ⟨s,b,h,fL.refl _ _ _,r⟩
def l9(K:St->Prop)(Q:Exit->St->Prop):Exit->St->Prop
 |.normal,s=>K s
 |e,s=>Q e s
def oL(id:Nat)(Q:Exit->St->Prop):Exit->St->Prop
 |.exit i,s=>if i=id then Q .normal s else Q (.exit i) s
 |e,s=>Q e s
def gJ.seq{x y:Code}(h:gJ P G R N x s (l9 (λj=>gJ P G R N y j Q) Q)):gJ P G R N (.seq x y) s Q:=by
 intro B w i a F r n;refine wpIn_seq (wpIn_mono (h B w i a F r n) λe k g t=>?_)
 let⟨j,p,K,E,b⟩:=t
 cases e with
 |normal=>exact wpIn_mono (K B g p k F b (n.mono E)) λe l m ⟨z,d,q,f,c⟩=>⟨z,d,q,E.trans f,c⟩
 | _=>exact⟨j,p,K,E,b⟩
def gJ.block{id:Nat}{c:Code}(h:gJ P G R N c s (oL id Q)):gJ P G R N (.block id c) s Q:=by
 intro B w d a F r n;refine wpIn_block (wpIn_mono (h B w d a F r n) λe k f t=>?_)
 let⟨j,p,K,E,b⟩:=t
 cases e with
 |exit i=>
  simp only[Exit.inBlock];simp only[oL]at K;split
  .rename_i e;rw[gO e]at K;exact⟨j,p,K,E,b⟩
  rename_i e;rw[gj e]at K;exact⟨j,p,K,E,b⟩
 | _=>exact⟨j,p,K,E,b⟩
def gJ.cond{x:Operand}{e:IX}{c d:Code}(v:iO x=Y e)(j:e.ev G s.F=Y (.bool b))(h:gJ P G R N (if b then c else d) s Q):gJ P G R N (.cond x c d) s Q:=by intro B w f a F r n;exact wpIn_cond (uR (jU r.heap r.tmps v j)) (h B w f a F r n)
def gJ.loop{c:Code}(I:St->Prop)(u:St->Nat)(U:I s)(h:∀s,I s->gJ P G R N c s (l9 (λq=>I q/\u q<u s) Q)):gJ P G R N (.loop c) s Q:=by
 intro B w K a F hs hr b k v D hb hroom;have H:∀j s r g t,u s=j->I s->fL B w K r g->jd B G N s r g t->
   ∃e a' w',(∃q p,Q e q/\fL B w K w' p/\jd B G N q w' p a')/\ArrivesIn (Machine.fenced P F) P (lone (b.atR t (.code c::.inLoop c::k)) v r) b k v e a' w':=by
  intro j;induction j using Nat.strongRecOn with
  | _ j ih=>
  intro s r g t hj W i E;obtain⟨e,n,o,⟨z,f,hq,m,d⟩,harr⟩:=h s W B r g t F E (hr.mono i) b (.inLoop c::k) v D hb hroom;cases e with
  |normal=>
   let⟨y,C⟩:=hq
   obtain⟨e3,a3,w3,hq3,harr3⟩:=ih (u z) (hj▸C) z o f n Z y (i.trans m) d;exact IG
  |exit id=>exact⟨_,n,o,⟨z,f,hq,i.trans m,d⟩,.pass (x:=.inLoop c) Z (λ_ _=>.inl ei) harr⟩
  |goto l=>exact⟨_,n,o,⟨z,f,hq,i.trans m,d⟩,.pass (x:=.inLoop c) Z (λ_ _=>.inl ei) harr⟩
  |ret=>exact⟨_,n,o,⟨z,f,hq,i.trans m,d⟩,.pass (x:=.inLoop c) Z (λ_ _=>.inl ei) harr⟩
  |panic ch=>exact⟨_,n,o,⟨z,f,hq,i.trans m,d⟩,.pass (x:=.inLoop c) Z (λ_ _=>.inl ei) harr⟩
  |outgrown=>exact⟨_,n,o,⟨z,f,hq,i.trans m,d⟩,.pass (x:=.inLoop c) Z (λ_ _=>.inl ei) harr⟩
 obtain⟨e,a',w',hq,harr⟩:=H _ s w K a Z U (fL.refl _ _ _) hs;exact IR
end
def kA.OB{F:T A}(h:kA w f F b)(d:Nat){x:Value}(a:d<b.size)(g:eQ w f v x):
  kA w f (F.set (S.ofNat d) (Y v)) (b.setIfInBounds d x):=by
 intro t u c;rw[T.jr]at c;by_cases e:t=d
 .subst e;rw[gO Z]at c;cases c;exact⟨x,by simp[a],g⟩
 rw[gj (λk=>e (S.Jg k))]at c;obtain⟨y,i,n⟩:=h t u c;exact⟨y,by rw[zG,gj (λk=>e k.symm)];exact i,n⟩
def St.put(s:St)(a:Option Tmp)(v:A)(H:eM):St:=
 match a with
 |some d=>{F:=s.F.set (S.ofNat d) (Y v),D:=s.D,H:=H}
 |none=>{s with H:=H}
def jd.put{B:Nat->Prop}{G:ez}{N:Nat}{s:St}{c p:Kx}{a:Act}(r:jd B G N s w c a)(E:fL B w c b p){D:eM}(K:fJ B G D b p){x:Value}
  (e:∀d,H=Y d->d<N)(f:eQ b p v x):jd B G N (s.put H v D) b p (a.put H x):=by
 cases H with
 |none=>exact⟨r.size,K,r.tmps.mono E,r.fX.mono E⟩
 |some d=>exact⟨by simpa[Act.put]using r.size,K,(r.tmps.mono E).OB d (lw (e d Z) r.size) f,r.fX.mono E⟩
section
variable(P:Program)(G:ez)
def qc(l:S)(K:L A)(H:eM)(Q:A->eM->Prop):Prop:=
 ∀(B:Nat->Prop)(w:World)(g:Kx)(e:Nat)(b:Array Value),fJ B G H w g->g.ρ l=Y e->fR w g K b.toList->
  ∃f d a c h,(Instr.yield e b).run P w=.ok (.round e f d a c) h/\RoundIn Fence.wide 0 P e f d a c h λ
   |.returned v,w'=>FinA G B w g Q v w'
   | _,_=>False
def Fs(a:Option Tmp)(s:St)(K:St->Prop):iD->Prop
 |.call f args=>eL P G f args s.H λr D=>K (s.put a r D)
 |.yield l args=>qc P G l args s.H λr D=>K (s.put a r D)
 |.any l p=>∀x∈l,K (s.put a x.2 {s.H with ep:=s.H.ep.set p (Y x.1)})
 |e=>∃v D,e.state s.H=Y (v,D)/\K (s.put a v D)
end
section
variable{P:Program}{G:ez}{R:Option S}{N:Nat}{s:St}{Q:Exit→Act→World→Prop}
def RoundIn.XW{F:Fence}{n:Nat}{c:Array Value}{Xa:Ending->World->Prop}(h:RoundIn F n P l f c a b w Xa)(m:Nat):RoundIn (F.inRound m) n P l f c a b w Xa:=h
def OC{o:Oper}{dY:Bool}{e:iD}{K:St->Prop}(hc:ib P o.op=Y io)(hd:∀d,o.dst=Y d->d<N)(h:fG G dY s.F s.H io=Y e)(hk:Fs P G o.dst s K e)
  {B:Nat->Prop}{F:Fence}(hs:jd B G N s w X a)(hr:tK X R F):
  o.wpIn F 0 P a w (λa' z=>∃s' b,K s'/\fL B w X z b/\jd B G N s' z b a') Q:=by
 have hFfn:∀f,F.fn f:=by intro f;exact Io
 have W:F.depth.isSome=dT->1<=0:=S5;have hnd:∀c,o.op≠.defer c:=by intro c e;rw[e]at hc;cases hc
 have t:=XV hs.heap hs.tmps hc h;refine⟨λf _=>hFfn f,?_⟩;rw[Oper.semAt_eq _ _ _ hnd];have done:∀{r:Result Next}{v:A}{D:eM},Fh B G w X r v D->K (s.put o.dst v D)->o.uponIn F 0 P a (λa' z=>∃s' b,K s'/\fL B w X z b/\jd B G N s' z b a') Q r:=by
  intro r v D m hK;obtain⟨nx,c,z,b,rfl,hv,E,j,x⟩:=m;cases nx<;>simp[N7]at hv
  .subst hv;exact⟨_,b,hK,E,hs.put E j hd x⟩
  subst hv;exact⟨_,b,hK,E,hs.put E j hd x⟩
 have calls:∀{f:FuncId}{g:Array Value}{z:World}{Ya:A->eM->Prop},(CallsIn Fence.wide 0 P f g z λ
   |.returned v,C=>FinA G B w X Ya v C
   | _,_=>False)->(∀r D,Ya r D->K (s.put o.dst r D))->o.uponIn F 0 P a (λa' z=>∃s' b,K s'/\fL B w X z b/\jd B G N s' z b a') Q (.ok (.enter f g) z):=by
  intro f g z Ya hcall hY;rw[Oper.uponIn_enter];refine⟨W,?_⟩;have hc2:CallsIn F 0 P f g z λ
   |.returned v,C=>FinA G B w X Ya v C
   | _,_=>False:=VY
  refine hc2.mono (λe C he=>?_);cases e with
  |returned v=>
   let⟨r,D,b,hq,E,j,x⟩:=he
   exact⟨_,b,hY _ _ hq,E,hs.put E j hd x⟩
  | _=>exact he.elim
 cases e with
 |call f g=>
  let⟨i,hrun,y⟩:=t
  have hE:=hk B w X i hs.heap y;rw[hrun];generalize(callFunc f i).run P w=r at hE;cases r with
  |halt=>exact hE.elim
  |ok nx z=>
  cases nx<;>try exact hE.elim
  .let⟨r,D,b,hq,E,j,x⟩:=hE
   exact⟨_,b,hq,E,hs.put E j hd x⟩
  exact calls hE (λ_ _ h=>h)
 |yield l g=>
  let⟨lc,i,hρ,hrun,y⟩:=t
  obtain⟨f,tmps,assign,body,w1,hy,I⟩:=hk B w X lc i hs.heap hρ y;rw[hrun,hy,Oper.uponIn_round];refine⟨W,?_⟩;have hc2:RoundIn F 0 P lc f tmps assign body w1 λ
   |.returned v,C=>FinA G B w X (λr D=>K (s.put o.dst r D)) v C
   | _,_=>False:=by
   cases R with
   |none=>rw[hr];exact I
   |some l=>obtain⟨c,_,rfl⟩:=hr;exact RoundIn.XW I c
  refine hc2.mono (λe C he=>?_);cases e with
  |returned v=>
   let⟨r,D,b,hq,E,j,x⟩:=he
   exact⟨_,b,hq,E,hs.put E j hd x⟩
  | _=>exact he.elim
 |any l p=>
  let⟨o',v,hm,m⟩:=t
  exact done m (hk _ hm)
 |ew o' k=>
  let⟨v,D,U,hK⟩:=hk
  cases U;exact done (t s.H.dX s.H.dX.succ hs.heap.xV (λq hq=>by rw[S.gG]at hq;exact⟨M,λe=>by subst e;omega⟩)) hK
 |val v=>
  let⟨v,D,U,hK⟩:=hk
  let⟨v2,H2,u,m⟩:=t
  exact I9
 |put p o' v=>
  let⟨v,D,U,hK⟩:=hk
  let⟨v2,H2,u,m⟩:=t
  exact I9
 |lH kl sz n cs=>
  let⟨v,D,U,hK⟩:=hk
  let⟨v2,H2,u,m⟩:=t
  exact I9
 |oK kl sz n cs=>
 let⟨v,D,U,hK⟩:=hk
 let⟨v2,H2,u,m⟩:=t
 exact I9
end
section
variable(P:Program)(G:ez)
def yl(c:Array Oper)(o:Oper)(F:T A):Option Bool:=
 match o.guard with
 |none=>Y dT
 |some (j,a)=>
 match(c[j]?).bind (·.dst)with
 |none=>Y dU
 |some d=>match F.dZ (S.ofNat d)with
  |some (.bool b)=>Y (b==a)
  |some (.eK _)=>Y dU
  | _=>J
def Ft(N:Nat)(dY:Bool)(a:Array Oper)(K:St->Prop):L Nat->St->Prop
 |[],s=>K s
 |i::rest,s=>∃o b,a[i]? =Y o/\ib P o.op=Y b/\(∀d,o.dst=Y d->d<N)/\
   ((yl a o s.F=Y dT/\∃e,fG G dY s.F s.H b=Y e/\Fs P G o.dst s (Ft N dY a K rest) e)\/
    (yl a o s.F=Y dU/\Ft N dY a K rest (s.put o.dst (.eK []) s.H)))
end
section
variable{P:Program}{G:ez}{R:Option S}{N:Nat}{s:St}{Q:Exit→St→Prop}
def Fv{F:T A}{e:Array Oper}{o:Oper}(i:kA w l F a)(h:yl e o F=Y b):Region.wanted o (yielded e a)=b:=by
 unfold yl at h;unfold Region.wanted;cases hg:o.guard with
 |none=>rw[hg]at h;cases h;rfl
 |some k=>
 let⟨j,f⟩:=k
 rw[hg]at h;simp only at h⊢;unfold yielded;cases hd:(e[j]?).bind (·.dst)with
 |none=>rw[hd]at h;cases h;rfl
 |some d=>
 rw[hd]at h;simp only at h;cases hv:F.dZ (S.ofNat d)with
 |none=>rw[hv]at h;cases h
 |some v=>
 rw[hv]at h;obtain⟨x,g,n⟩:=i d v hv;cases v<;>try(cases h;done)
 .have:=uR n;subst this;cases h;simp only[jm,g];rename_i c;cases c<;>cases f<;>rfl
 cases h;obtain⟨m,rfl,_⟩:=N0 n;simp only[jm,g];rfl
def XX{dY:Bool}{K:St->Prop}{Xa:Exit->Act->World->Prop}{B:Nat->Prop}{F:Fence}{x:World}{hV:Kx}(z:∀s w b a,K s->fL B x hV w b->jd B G N s w b a->Xa .normal a w):
  ∀(l:L Nat)(s:St)(w:World)(b:Kx)(a:Act),Ft P G N dY d K l s->fL B x hV w b->jd B G N s w b a->tK b R F->wpOpsIn F 0 P d Xa l a w:=by
 intro l;induction l with
 |nil=>intro s w b a h E r hr;exact z s w b a h E r
 |cons i v u=>
 intro s w b a h E r hr
 let⟨o,W,I,D,t,h⟩:=h
 rw[wpOpsIn_cons];unfold wpOpIn;simp only[I];obtain⟨g,e,H,m⟩|⟨g,m⟩:=h
 .rw[Fv r.tmps g,gO Z];exact Oper.wpIn_mono (λk U ⟨j,p,y,q,n⟩=>u j U p k y (E.trans q) n (hr.mono q)) (OC D t H m r hr)
 rw[Fv r.tmps g,gj (by simp)];refine⟨λf _=>?_,u _ w b _ m E (r.put (fL.refl _ _ _) r.heap t (.eK _ _ Z Uf)) hr⟩;exact Io
def gJ.region{dY:Bool}{id:Nat}(h:Ft P G N dY b (Q .normal) (List.range b.size) s):gJ P G R N (.region id b dU) s Q:=by intro B w d a F r n;exact wpIn_region (XX (λs e p k t E c=>⟨s,p,t,E,c⟩) _ s w d a h (fL.refl _ _ _) r n)
end
def sy(P:Program)(G:ez)(F:T A)(H:eM):L ResultVar->Option (L A)
 |[]=>Y []
 |.tmp t::l=>(F.dZ (S.ofNat t)).bind λv=>(sy P G F H l).map (v::·)
 |.cell x t::l=>(uN P t).bind λn=>(F.dZ (S.ofNat x)).bind λv=>(qL G H v).bind λ(a,b)=>(part b n a).bind λv=>(sy P G F H l).map (v::·)
def CU(b:Array Value):ResultVar->Sem Value
 |.tmp t=>pure (b.getD t undef)
 |.cell a t=>do loadVar t (<-asAddr (b.getD a undef))
def XY(fn:Func)(b:Array Value):results fn b=(do
  let c<-fn.results.mapM (CU b)
  pure (if h:c.size=1 then c[0]else .tuple c)):=by
 have:CU b=(λ
  |.tmp t=>pure (b.getD t undef)
  |.cell a t=>do loadVar t (<-asAddr (b.getD a undef)):ResultVar->Sem Value):=by funext r;cases r<;>rfl
 unfold results;congr 1
def rz:L A->A
 |[v]=>v
 |vs=>.eK vs
section
variable{P:Program}{B:Nat→Prop}{G:ez}{H:eM}{w:World}{X:Kx}
def XZ(W:fJ B G H w X){F:T A}(U:kA w X F d){fn:Func}{e:L A}(h:sy P G F H fn.results.toList=Y e):
  ∃v,(results fn d).run P w=.ok v w/\eQ w X (rz e) v:=by
 have k:∀(l:L ResultVar)(e:L A),sy P G F H l=Y e->∃f:L Value,(l.mapM (CU d)).run P w=.ok f w/\fR w X e f:=by
  intro l;induction l with
  |nil=>intro e h;cases h;exact⟨[],ei,.nil⟩
  |cons r l i=>
  intro e h;cases r with
  |tmp t=>simp only[sy,fS,gA]at h;obtain⟨v,D,C,m,rfl⟩:=h;obtain⟨f,K,g⟩:=i C m;obtain⟨x,E,z⟩:=U t v D;have q:d.getD t undef=x:=Uz;refine⟨x::f,?_,g.cons z⟩;simp only[List.mapM_cons,CU,gb,jR,iV,q,K]
  |cell a t=>simp only[sy,fS,gA]at h;obtain⟨n,hn,v,D,⟨cs,b⟩,j,u,Q,C,m,rfl⟩:=h;obtain⟨f,K,g⟩:=i C m;obtain⟨x,E,z⟩:=U a v D;have q:d.getD a undef=x:=Uz;obtain⟨c,o,rfl,hc⟩:=Oh W z j;obtain⟨y,I,N⟩:=N2 (P:=P) hn hc Q;refine⟨y::f,?_,g.cons N⟩;have p:asAddr (.pointer (Y ⟨c,o+b,J⟩))=pure ⟨c,o+b,J⟩:=Z;have I:(loadVar t ⟨c,o+b,J⟩).run P w=.ok y w:=I;simp only[List.mapM_cons,CU,gb,jR,iV,q,p,I,K]
 obtain⟨f,K,g⟩:=k _ _ h;refine⟨if h:f.toArray.size=1 then f.toArray[0]else .tuple f.toArray,?_,?_⟩
 .rw[XY,Array.mapM_eq_mapM_toList];simp[K]
 cases e with
 |nil=>rw[g.lZ];exact sq fR.nil
 |cons v e=>
 obtain⟨u,us',rfl,Q,hus⟩:=g.Q;cases e with
 |nil=>rw[hus.lZ];exact Q
 |cons v2 e=>
 obtain⟨u2,R,rfl,hu2,hus2⟩:=hus.Q;have:¬((u::u2::R).toArray.size=1):=ei
 rw[dif_neg this];exact sq g
end
def rA:L S->eM->Option eM
 |[],H=>Y H
 |d::D,H=>match H.ep.dZ d with
  |some .fX=>rA D {H with ep:=H.ep.set d J}
  | _=>J
section
variable{P:Program}{G:ez}
def OD{B:Nat->Prop}{fn:Func}{Q:A->eM->Prop}{F:T A}{g:Array Value}{hV:Kx}{R:eM}(t:sy P G F R fn.results.toList=Y vs)(hq:Q (rz vs) R):
  ∀{D:L S}{l:L Deferred}{H:eM}{w:World}{f:Kx},rA D H=Y R->yj f D l->fJ B G H w f->kA w f F g->fL B w0 hV w f->
  LeavesInM Fence.wide 0 P fn g (λ
   |.returned v,w'=>FinA G B w0 hV Q v w'
   | _,_=>False) l .returning w:=by
 intro D;induction D with
 |nil=>
  intro l H w f j a K U E;cases l with
  |cons _ _=>exact a.elim
  |nil=>cases j;obtain⟨v,h1,h2⟩:=XZ (P:=P) K U t;exact⟨v,h1,_,_,f,hq,E,K,h2⟩
 |cons d D ih=>
 intro l H w f j a K U E;cases l with
 |nil=>exact a.elim
 |cons m l=>
 obtain⟨⟨r,I,rfl⟩,a⟩:=a;simp only[rA]at j;split at j
 .rename_i hd;obtain⟨c,hc,hB,b,_,hU⟩:=K.obj d _ hd;obtain rfl:=gu (hc.symm.trans I);have b:w.heap[c]? =Y (.deferred (Y [])):=b;have hlt:c<w.heap.size:=qJ b;have u:nS c w {w with heap:=w.heap.setIfInBounds c (.deferred J)}:=by refine⟨Z,Z,Z,ei,λe he=>?_⟩;show(w.heap.setIfInBounds c _)[e]? =w.heap[e]?;rw[zG,gj (λe'=>he e'.symm)]
  have n:fL B w f {w with heap:=w.heap.setIfInBounds c (.deferred J)} f:=by refine N3 u hB (hU ei) (λi=>?_);simp only[World.cell?,b]
  have q:=K.JM d;have W:fJ B G {H with ep:=H.ep.set d J} {w with heap:=w.heap.setIfInBounds c (.deferred J)} f:=by
   refine q.keep n (λp o N k hp=>⟨u.other N (λe=>?_),Z⟩) (λ_ _ h=>h) (λ_ _ h=>h) (λN h=>lw (K.kS N h) n.below.size);subst e;have k:T.dZ p (H.ep.set d J)=Y o:=k;rw[T.jr]at k;split at k
   .cases k
   rename_i hne;exact hne (K.inj p d o _ N k hd hp I)
  refine⟨ei,.inl ⟨c,_,Z,?_,ih j (a.mono n) W (U.mono n) (E.trans n)⟩⟩;have s:=rx (P:=P) b pC;have C:(setObj c (.deferred J)).run P w=.ok () {w with heap:=w.heap.setIfInBounds c (.deferred J)}:=by simp only[setObj,Sem.run,b]
  simp only[Instr.takeDeferred,gb,s,iV,C,jR]
 cases j
def eL.body{fn:Func}{c:Code}{Q:A->eM->Prop}{F0:T A}(g:P.funcs[f]? =Y fn)(j:fn.body=Y c)(v:fn.name≠ "runtime.NumGoroutine")
  (m:∀(w:World)(i:Kx)(a:Array Value),fR w i K a.toList->kA w i F0 (a++Array.replicate (fn.ntmps - a.size) undef))
  (h:gJ P G J fn.ntmps c {F:=F0,D:=[],H:=H} λe s=>(e=.normal\/e=.ret)/\∃l q,rA s.D s.H=Y l/\sy P G s.F l fn.results.toList=Y q/\Q (rz q) l):
  eL P G f K H Q:=by
 intro B w i a r b;have y:(callFunc f a).run P w=.ok (.enter f a) w:=by simp[callFunc,gb,g,v,j]
 rw[y];show CallsIn Fence.wide 0 P f a w _;refine callsIn_of_wp_marks g j eR ?_;refine wpIn_mono (h B w i {tmps:=a++Array.replicate (fn.ntmps - a.size) undef,defers:=[]} Fence.wide ⟨by simp;omega,r,m w i a b,eR⟩ Z) ?_;rintro e k z ⟨x,p,⟨u,l,q,o,n,t⟩,E,d⟩;have:=OD (P:=P) (fn:=fn) n t o d.fX d.heap d.tmps E;obtain rfl|rfl:=u
 .exact this
 exact this
end
def tL(F:T A):L Nat->L A->T A
 |t::ps,v::vs=>tL (F.set (S.ofNat t) (Y v)) ps vs
 | _,_=>F
section
variable{P:Program}{B:Nat→Prop}{G:ez}{H:eM}{w:World}{X:Kx}
def CV(a:Array Value)(x:Nat×Value):Array Value:=a.setIfInBounds x.1 x.2
def X0:∀{b:L Nat}{c:L A}{d:L Value}{F:T A}{tmps:Array Value},kA w X F tmps->fR w X c d->(∀t∈b,t<tmps.size)->
  kA w X (tL F b c) ((b.zip d).foldl CV tmps)/\((b.zip d).foldl CV tmps).size=tmps.size:=by
 intro b;induction b with
 |nil=>intro c d F tmps h _ _;exact⟨by simpa[tL]using h,ei⟩
 |cons t b i=>
 intro c d F tmps h a j;cases c with
 |nil=>have:=a.lZ;subst this;exact⟨by simpa[tL]using h,ei⟩
 |cons v c=>obtain⟨u,f,rfl,hu,hus⟩:=a.Q;have:=i (F:=F.set (S.ofNat t) (Y v)) (tmps:=tmps.setIfInBounds t u) (h.OB t (j t ei) hu) hus (λe n=>by simpa using j e (by simp[n]));simp only[List.zip_cons_cons,List.foldl_cons,tL];exact⟨this.1,by rw[show CV tmps (t,u)=tmps.setIfInBounds t u from Z,this.2];simp⟩
def CW(U:fJ B G H w X){e:Option Code}{n:Nat}{F:T A}{p:L Nat}{s u:Code}
  (o:H.ep.dZ l=Y (.loop b e n F p s u d))(D:X.ρ l=Y I):
  ∃r:Loop,(Instr.getLoop I).run P w=.ok r w/\r.state=b/\r.pending=e/\r.params=p.toArray/\G.ey n r.assign s/\G.ey n r.body u/\n<=r.tmps.size/\kA w X F r.tmps/\X.ρ d=Y r.defers/\
   ∀g a,∃q,(setObj I (.loop {r with state:=g,pending:=a})).run P w=.ok () q/\fL B w X q X/\
    fJ B G {H with ep:=H.ep.set l (Y (.loop g a n F p s u d))} q X:=by
 obtain⟨c,W,hB,ho,_,hU⟩:=U.obj l _ o;obtain rfl:=gu (W.symm.trans D)
 let⟨fn,tmps,N,i,j,K,f,Q,m,R⟩:=ho
 refine⟨{state:=b,pending:=e,fn:=fn,tmps:=tmps,params:=p.toArray,assign:=i,body:=j,defers:=N},?_,Z,Z,Z,f.1,f.2,m,R,Q,λg a=>?_⟩
 .have k:=rx (P:=P) K pC;simp only[Instr.getLoop,gb,k,iV,jR]
 refine CS U _ o W hB K pC (hU ei) ei ei (λq C E=>?_);refine⟨fn,tmps,N,i,j,C,f,E.jM _ _ Q,m,λt v hv=>?_⟩;obtain⟨x,hx,hr⟩:=R t v hv;exact⟨x,hx,hr.mono E⟩
end
def eM.rB(H:eM)(l:S)(b:LoopState)(v:Option (Option Code)):Option eM:=
 match H.ep.dZ l with
 |some (.loop _ pe n F ps as bo d)=>Y {H with ep:=H.ep.set l (Y (.loop b (v.getD pe) n F ps as bo d))}
 | _=>J
def JQ(l:S)(Q:A->eM->Prop):Exit->St->Prop
 |.normal,s=>∃D,s.H.rB l .ready (Y J)=Y D/\Q (.bool dT) D
 |.ret,s=>∃D,s.H.rB l .done (Y (Y .ret))=Y D/\Q (.bool dU) D
 |.exit id,s=>∃D,s.H.rB l .done (Y (Y (.exit id)))=Y D/\Q (.bool dU) D
 |.goto t,s=>∃D,s.H.rB l .done (Y (Y (.goto t)))=Y D/\Q (.bool dU) D
 | _,_=>False
section
variable{P:Program}{G:ez}{H:eM}
def OE{H D:eM}(h:H.rB l b v=Y D):
  ∃a f n F t c e d,H.ep.dZ l=Y (.loop a f n F t c e d)/\D={H with ep:=H.ep.set l (Y (.loop b (v.getD f) n F t c e d))}:=by
 unfold eM.rB at h;split at h
 .rename_i a f n F t c e d g;cases h;exact⟨a,f,n,F,t,c,e,d,g,Z⟩
 cases h
def Fw{B:Nat->Prop}{w:World}{X:Kx}(i:fJ B G H w X){g:Nat}(f:X.ρ l=Y g){jump:Option Code}(e:b=if jump.isNone then .ready else .done){D:eM}
  (j:H.rB l b (Y jump)=Y D):∃c,(Instr.endRound g jump).run P w=.ok (.bool jump.isNone) c/\fL B w X c X/\fJ B G D c X:=by
 obtain⟨m,s,n,F,t,p,q,d,o,rfl⟩:=OE j;obtain⟨r,k,_,_,_,_,_,_,_,_,a⟩:=CW (P:=P) i o f;obtain⟨c,K,E,h⟩:=a b jump;refine⟨c,?_,E,h⟩;subst e;simp only[Instr.endRound,gb,k,iV,K,jR]
def qc.body{Q:A->eM->Prop}{n:Nat}{F:T A}{d:S}
  (hl:H.ep.dZ l=Y (.loop .ready v n F N as bo d))(hlen:O K=O N)(hps:∀t∈N,t<n)
  (h:∀j k,G.ey n j as->G.ey n k bo->gJ P G (Y l) n j {F:=tL F N K,D:=[],H:=H} (l9 (λs=>(∃I n' F' ps' j k d',s.H.ep.dZ l=Y (.loop .ready I n' F' ps' j k d'))/\∃H',s.H.rB l .busy J=Y H'/\
   gJ P G (Y l) n k {s with H:=H'} (JQ l Q)) (λ_ _=>False))):qc P G l K H Q:=by
 intro B w X lc b hH o m;obtain⟨r,hr,h1,h2,h3,h4,h5,h6,h7,h8,_⟩:=CW (P:=P) hH hl o;have C:b.size=r.params.size:=by have:=m.1;rw[h3];simp only[tu]at this;simp;omega
 have htm:(r.params.zip b).foldl (λtmps (t,a)=>tmps.setIfInBounds t a) r.tmps=(N.zip b.toList).foldl CV r.tmps:=by rw[h3,<-Array.foldl_toList];simp only[Array.toList_zip];rfl
 refine⟨r.fn,(N.zip b.toList).foldl CV r.tmps,r.assign,r.body,w,?_,?_⟩
 .simp only[Instr.yield,gb,hr,iV];rw[gj (by simp[C])];simp only[gb,jR,iV,htm]
 obtain⟨hF,hsz⟩:=X0 h7 m (λt ht=>lw (hps t ht) h6);refine roundIn_of_wpIn eR (wpIn_mono (h r.assign r.body h4 h5 B w X {tmps:= _,defers:=[]} (Fence.wide.inRound lc) ⟨by simpa[hsz]using h6,hH,hF,eR⟩ ⟨lc,o,Z⟩) ?_);rintro e a1 w1 ⟨s1,κ1,hq,E1,q⟩;cases e with
 |normal=>
  let⟨⟨I,n',F',ps',j,k,d',hl'⟩,H',E,x⟩:=hq
  obtain⟨st0,pe,n2,F2,ps2,as2,bo2,d2,z,rfl⟩:=OE E;obtain⟨r1,hr1,g1,g2,g3,g4,g5,g6,g7,g8,W⟩:=CW (P:=P) q.heap z (E1.jM _ _ o);obtain⟨w2,hw2,R,hH2⟩:=W .busy pe;rw[hl']at z;cases z;refine⟨w2,?_,?_⟩
  .have:({r1 with state:=.busy}:Loop)={r1 with state:=.busy,pending:=I}:=by rw[<-g2]
   simp only[Instr.beginRound,gb,hr1,iV,this,hw2,g1,jR]
  refine wpIn_mono (x B w2 κ1 a1 (Fence.wide.inRound lc) ⟨q.size,hH2,q.tmps.mono R,q.fX.mono R⟩ ⟨lc,R.jM _ _ (E1.jM _ _ o),Z⟩) ?_;rintro e a2 w3 ⟨s3,κ3,i,E3,u⟩;have g:=E3.jM _ _ (R.jM _ _ (E1.jM _ _ o));have U:=(E1.trans R).trans E3;cases e with
  |normal=>
   let⟨H4,f,hQ⟩:=i
   obtain⟨w4,y,E4,p⟩:=Fw (P:=P) u.heap g (jump:=J) Z f;exact HT
  |ret=>
   let⟨H4,f,hQ⟩:=i
   obtain⟨w4,y,E4,p⟩:=Fw (P:=P) u.heap g (jump:=Y .ret) Z f;exact HT
  |exit id=>
   let⟨H4,f,hQ⟩:=i
   obtain⟨w4,y,E4,p⟩:=Fw (P:=P) u.heap g (jump:=Y (.exit id)) Z f;exact HT
  |goto t=>
   let⟨H4,f,hQ⟩:=i
   obtain⟨w4,y,E4,p⟩:=Fw (P:=P) u.heap g (jump:=Y (.goto t)) Z f;exact HT
  |panic c=>exact i.elim
  |outgrown=>exact i.elim
 | _=>exact hq.elim
end
def ym(R:Option S)(n:Nat)(F:T A)(t:L Nat)(a B:Code)(H:eM):Option (S×L S×eM):=
 match R with
 |none=>Y (H.dX.succ,[H.dX],{ep:=(H.ep.set H.dX (Y .fX)).set H.dX.succ (Y (.loop .ready J n F t a B H.dX)),dX:=H.dX.succ.succ})
 |some b=>match H.ep.dZ b with
  |some (.loop _ _ _ _ _ _ _ d)=>Y (H.dX,[],{ep:=H.ep.set H.dX (Y (.loop .ready J n F t a B d)),dX:=H.dX.succ})
  | _=>J
def JR(P:Program)(G:ez)(R:Option S)(N:Nat)(l:S)(s:St)(Q:Exit->St->Prop)(H:eM):Prop:=
 ∃b v n F t a B d,H.ep.dZ l=Y (.loop b v n F t a B d)/\(b==.busy)=dU/\
  match v with
  |none=>Q .normal {s with H:={H with ep:=H.ep.set l J}}
  |some c=>gJ P G R N c {s with H:={H with ep:=H.ep.set l J}} Q
section
variable{P:Program}{G:ez}{R:Option S}{N:Nat}{s:St}{Q:Exit→St→Prop}
def gJ.rangeFunc{g:Operand}{ps:Array Tmp}{fn:Func}{c:Code}{n:Nat}{F':T A}
  (hg:iO g=Y ig)(hev:ig.ev G s.F=Y (.func (.func f) first captured))(hf:P.funcs[f]? =Y fn)(hb:fn.body=Y c)(hn:fn.name≠ "runtime.NumGoroutine")
  (hN:n<=N)(hsame:G.ey n as I/\G.ey n bo K)(hF':∀t v,F'.dZ (S.ofNat t)=Y v->s.F.dZ (S.ofNat t)=Y v)(k:ym R n F' ps.toList I K s.H=Y (l,ms,H1))
  (h:eL P G f (first++[.gF l]++captured) H1 (λ_ H2=>JR P G R N l {s with D:=ms++s.D} Q H2)):gJ P G R N (.rangeFunc g ps as bo) s Q:=by
 intro B w X a F r hr;have hFfn:∀f,F.fn f:=by intro f;exact Io
 have hFdep:F.depth.isSome=dT->1<=0:=S5;refine wpIn_rangeFunc λm _=>?_;have hent':∃(C:Nat)(mark:L Deferred)(j:World)(d:Kx),(Instr.enterLoop m a.tmps ps as bo F.round).run P w=.ok (C,mark) j/\fL B w X j d/\fJ B G H1 j d/\d.ρ l=Y C/\yj d (ms++s.D) (mark++a.defers):=by
  have hsz:n<=a.tmps.size:=ny hN r.size;cases R with
  |none=>
   have hr:F=Fence.wide:=hr;subst hr;cases k;have u:=r.heap.ew (.deferred (Y [])) .fX 0 J (by show(w.alloc _).heap[w.heap.size]? = _;exact qK w _) py mJ
   have E1:=rk r.heap (.deferred (Y [])) (Y s.H.dX) (λq e=>gu e▸r.heap.xV) J 0;generalize hκ1:X.with (Y s.H.dX) J w.heap.size 0=d at u E1;have hρ1:d.ρ s.H.dX=Y w.heap.size:=by rw[<-hκ1];simp[Kx.with]
   refine S8 λW=>?_;generalize hw1:w.alloc (.deferred (Y []))=j at u E1;have F1:kA j d F' a.tmps:=λt v hv=>(r.tmps.mono E1) t v (hF' t v hv);have hrec:∀(w':World)(κ':Kx),fL B j d w' κ'->w'.heap[j.heap.size]? =Y (.loop {state:=.ready,pending:=J,fn:=m,tmps:=a.tmps,params:=ps,assign:=as,body:=bo,defers:=w.heap.size})->
     kR G w' κ' (.loop .ready J n F' ps.toList I K s.H.dX) j.heap.size:=λw' κ' E hw'=>
    ⟨m,a.tmps,w.heap.size,as,bo,by simpa using hw',hsame,E.jM _ _ hρ1,hsz,λt v hv=>by obtain⟨x,hx,hr⟩:=F1 t v hv;exact⟨x,hx,hr.mono E⟩⟩
   have y:=rk u (.loop {state:=.ready,pending:=J,fn:=m,tmps:=a.tmps,params:=ps,assign:=as,body:=bo,defers:=w.heap.size}) (Y s.H.dX.succ) (λq e=>gu e▸u.xV) J 0;have U:=u.ew _ (.loop .ready J n F' ps.toList I K s.H.dX) 0 J (hrec _ _ y (qK j _)) py mJ;refine⟨j.heap.size,[{target:=.collected w.heap.size,args:=#[]}],_,_,?_,E1.trans y,U,by simp[Kx.with],⟨⟨w.heap.size,y.jM _ _ hρ1,Z⟩,(r.fX.mono E1).mono y⟩⟩;have hround:Fence.wide.round=J:=Z;simp only[Instr.enterLoop,hround,gb,W,iV,jR,hw1]
  |some l0=>
  obtain⟨c0,hρ0,rfl⟩:=hr;simp only[ym]at k;split at k
  .rename_i st0 pe0 n0 F0 ps0 asx box d0 hl0;cases k;obtain⟨r0,hr0,_,_,_,_,_,_,_,hd0,_⟩:=CW (P:=P) r.heap hl0 hρ0;refine S8 λW=>?_;have y:=rk r.heap (.loop {state:=.ready,pending:=J,fn:=m,tmps:=a.tmps,params:=ps,assign:=as,body:=bo,defers:=r0.defers}) (Y s.H.dX) (λq e=>gu e▸r.heap.xV) J 0;have U:=r.heap.ew (.loop {state:=.ready,pending:=J,fn:=m,tmps:=a.tmps,params:=ps,assign:=as,body:=bo,defers:=r0.defers}) (.loop .ready J n F' ps.toList I K d0) 0 J
    ⟨m,a.tmps,r0.defers,as,bo,by simpa using qK w _,hsame,y.jM _ _ hd0,hsz,λt v hv=>by obtain⟨x,hx,hr⟩:=r.tmps t v (hF' t v hv);exact⟨x,hx,hr.mono y⟩⟩ py mJ
   refine⟨w.heap.size,[],_,_,?_,y,U,by simp[Kx.with],r.fX.mono y⟩;simp only[Instr.enterLoop,Fence.inRound_round,gb,hr0,W,iV,jR]
  cases k
 let⟨C,mark,j,d,hent1,E1,u,hρ,hD⟩:=hent'
 have hx:=jU r.heap r.tmps hg hev;obtain⟨x',y',hev',_,h1,h2⟩:=Jv hx;have hargs:fR j d (first++[.gF l]++captured) (x'.toArray++#[Value.func (Fn.yield C) #[] #[]]++y'.toArray).toList:=by simp only[Array.toList_append];exact((h1.mono E1).append (fR.cons (eQ.gF l C hρ) fR.nil)).append (h2.mono E1)
 have hcall:=h B j d _ u hargs;have z:(callFunc f (x'.toArray++#[Value.func (Fn.yield C) #[] #[]]++y'.toArray)).run P j=.ok (.enter f (x'.toArray++#[Value.func (Fn.yield C) #[] #[]]++y'.toArray)) j:=by simp[callFunc,gb,hf,hn,hb]
 rw[z]at hcall;have hconst:a.eval (.const (Value.func (Fn.yield C) #[] #[]))=Value.func (Fn.yield C) #[] #[]:=Z;refine⟨C,mark,j,{target:=.fn (.func f) y'.toArray,args:=x'.toArray++#[Value.func (Fn.yield C) #[] #[]]},j,f,x'.toArray++#[Value.func (Fn.yield C) #[] #[]]++y'.toArray,j,hent1,?_,λf' _=>hFfn f',?_,hFdep,?_⟩
 .simp only[resolve,rangeCall,Deferred.ofValue,hev',jR,List.map_toArray,jL,qH,hconst]
 .simp only[invoke,z]
 have hc2:CallsIn F 0 P f (x'.toArray++#[Value.func (Fn.yield C) #[] #[]]++y'.toArray) j λ
  |.returned v,w''=>FinA G B j d (λ_ H2=>JR P G R N l {s with D:=ms++s.D} Q H2) v w''
  | _,_=>False:=VY
 refine hc2.mono (λe w3 he=>?_);cases e with
 |returned v=>
  let⟨_,H2,κ2,⟨st,i,n2,F2,ps2,as2,bo2,d2,hl2,hst,hK⟩,y,U,_⟩:=he
  obtain⟨r2,hr2,g1,g2,_,_,_,_,_,_,hset⟩:=CW (P:=P) U hl2 (y.jM _ _ hρ);obtain⟨w4,hw4,E4,hH4⟩:=hset .exhausted i;have b:=hH4.JM l;have hSS:jd B G N {F:=s.F,D:=ms++s.D,H:={H2 with ep:=H2.ep.set l J}} w4 κ2 {a with defers:=mark++a.defers}:=by
   have E:=(E1.trans y).trans E4;refine⟨r.size,?_,r.tmps.mono E,(hD.mono y).mono E4⟩;have:∀q,T.dZ q ((H2.ep.set l (Y (.loop .exhausted i n2 F2 ps2 as2 bo2 d2))).set l J)=T.dZ q (H2.ep.set l J):=by
    intro q;simp only[T.jr];split
    .rfl
    rfl
   exact⟨b.base,λp o ho=>b.obj p o (by simpa[this]using ho),λp q o o' c hp hq=>b.inj p q o o' c (by simpa[this]using hp) (by simpa[this]using hq),
    λp hp=>⟨(b.fresh p hp).1,(b.fresh p hp).2.1,by simpa[this]using(b.fresh p hp).2.2⟩,b.room,b.kS,b.gX⟩
  have hend:(Instr.endLoop C).run P w3=.ok i w4:=by
   have:({r2 with state:=.exhausted}:Loop)={r2 with state:=.exhausted,pending:=i}:=by rw[<-g2]
   simp only[Instr.endLoop,gb,hr2,iV,g1,hst,xO,r7,jR,this,hw4,g2]
  refine⟨i,w4,hend,?_⟩;have E:=(E1.trans y).trans E4;cases i with
  |none=>exact⟨_,κ2,hK,E,hSS⟩
  |some c=>refine wpIn_mono (hK B w4 κ2 _ F hSS (hr.mono E)) ?_;rintro e a5 w5 ⟨s5,κ5,q5,E5,hs5⟩;exact⟨s5,κ5,q5,E.trans E5,hs5⟩
 | _=>exact he.elim
end
inductive gL (π:S→S)(D:S→Prop):A→A→Prop
 |ey (v:A)(h:v.Pure):gL π D v v
 |ea (p:S)(off:Nat)(h:D p):gL π D (.ea (π p) off) (.ea p off)
 |fF (cs cs':List A)(off:Nat)(hl:cs.length=cs'.length)(h:∀i (h:i<cs.length)(h':i<cs'.length),gL π D cs[i] cs'[i]):gL π D (.fF cs off) (.fF cs' off)
 |eG (sz n:Nat)(cs cs':List A)(p:S)(hp:D p)(hl:cs.length=cs'.length)(h:∀i (h:i<cs.length)(h':i<cs'.length),gL π D cs[i] cs'[i]):gL π D (.eG sz n cs (.open (π p))) (.eG sz n cs' (.open p))
 |fE (sz n:Nat)(cs cs':List A)(hl:cs.length=cs'.length)(h:∀i (h:i<cs.length)(h':i<cs'.length),gL π D cs[i] cs'[i]):gL π D (.eG sz n cs .fE) (.eG sz n cs' .fE)
 |G (sz n:Nat)(cs cs':List A)(t:jt)(hl:cs.length=cs'.length)(h:∀i (h:i<cs.length)(h':i<cs'.length),gL π D cs[i] cs'[i]):gL π D (.eG sz n cs t) (.eG sz n cs' .G)
 |eC (p:S)(sz off n cap:Nat)(ex:Bool)(h:D p):gL π D (.eC (π p) sz off n cap ex) (.eC p sz off n cap ex)
 |map (p:S)(h:D p):gL π D (.map (π p)) (.map p)
 |func (f:Fn)(x x' y y':List A)(hx:x.length=x'.length)(h1:∀i (h:i<x.length)(h':i<x'.length),gL π D x[i] x'[i])(hy:y.length=y'.length)(h2:∀i (h:i<y.length)(h':i<y'.length),gL π D y[i] y'[i]):
   gL π D (.func f x y) (.func f x' y')
 |gF (p:S)(h:D p):gL π D (.gF (π p)) (.gF p)
 |iface (t:TypeId)(v v':A)(h:gL π D v v'):gL π D (.iface t v) (.iface t v')
 |agg (cs cs':List A)(hl:cs.length=cs'.length)(h:∀i (h:i<cs.length)(h':i<cs'.length),gL π D cs[i] cs'[i]):gL π D (.agg cs) (.agg cs')
 |eK (cs cs':List A)(hl:cs.length=cs'.length)(h:∀i (h:i<cs.length)(h':i<cs'.length),gL π D cs[i] cs'[i]):gL π D (.eK cs) (.eK cs')
def Kx.y(X:Kx)(π:S->S)(D:S->Prop) [DecidablePred D]:Kx:={ρ:=λp=>if D p then X.ρ (π p)else J,τ:=λp=>if D p then X.τ (π p)else J,U:=X.U,φ:=X.φ}
section
variable{w:World}{X:Kx}{π:S→S}{D:S→Prop} [DecidablePred D]
def sA{p:S}(h:D p):(X.y π D).ρ p=X.ρ (π p):=by simp[Kx.y,h]
def Fx{p:S}(h:D p):(X.y π D).τ p=X.τ (π p):=by simp[Kx.y,h]
def eQ.dW{b:Kx}{x:Value}(h:eQ w X v x)(a:v.Pure)(e:∀c,X.U c<=b.U c)(d:∀p c,X.φ p=Y c->b.φ p=Y c):eQ w b v x:=
 h.oq (a (λ_=>False) (λ_=>False)) I0 I0 I0 e d
def eQ.jV{x:Value}(h:eQ w X v x)(I:gL π D v l):eQ w (X.y π D) l x:=by
 induction I generalizing x with
 |ey v q=>exact h.dW q (λ_=>fQ _) (λ_ _ h=>h)
 |ea p j hp=>obtain⟨c,rfl,K⟩:=o7 h;exact .ea p j c Nn
 |fF z cs' j hl _ g=>obtain⟨c,o,rfl,m,K⟩:=yb h;refine Fe I6 (λi hi=>?_);obtain⟨v,h1,h2⟩:=K i M;exact⟨v,h1,g i M hi h2⟩
 |eG s n z cs' p hp hl _ g=>
  cases h with
  |eG _ _ _ _ c o cap k m K q E d hsz e=>
  exact .eG s n cs' (.open p) c o cap k I6 (λi hi=>K i M) (λi hi=>g i M hi (q i M)) (by rw[<-hl];exact E) d hsz
   ⟨by rw[sA hp];exact e.1,by rw[Fx hp];exact e.2.1,e.2.2⟩
 |fE s n z cs' hl _ g=>
  cases h with
  |eG _ _ _ _ c o cap k m K q E d hsz e=>exact .eG s n cs' .fE c o cap k I6 (λi hi=>K i M) (λi hi=>g i M hi (q i M)) (by rw[<-hl];exact E) d hsz e
 |G s n z cs' t hl _ g=>
  cases h with
  |eG _ _ _ _ c o cap k m K q E d hsz e=>exact .eG s n cs' .G c o cap k I6 (λi hi=>K i M) (λi hi=>g i M hi (q i M)) (by rw[<-hl];exact E) d hsz eR
  |emp _ a cap hsz=>exact NN
 |eC p s j n cap H hp=>
  cases h with
  |eC _ _ _ _ _ c u _ C d F E r hsz=>exact .eC p s j n cap c u H (by rw[sA hp];exact C) d F E r hsz
 |map p hp=>cases h with|map _ c K=>exact .map p c Nn
 |func f a a' b b' ha _ hb _ ih1 ih2=>exact V8
 |gF p hp=>cases h with|gF _ c K=>exact .gF p c Nn
 |iface t v l _ g=>cases h with|iface _ _ x N=>exact .iface t l x (g N)
 |agg z cs' hl _ g=>cases h with|agg _ k h1 h2=>exact .agg cs' k (by rw[h1,hl]) (λi hi=>g i M hi (h2 i M))
 |eK z cs' hl _ g=>cases h with|eK _ k h1 h2=>exact .eK cs' k (by rw[h1,hl]) (λi hi=>g i M hi (h2 i M))
end
inductive jW (π:S→S)(D:S→Prop):AO→AO→Prop
 |dY (cs cs':List A)(hl:cs.length=cs'.length)(h:∀i (h:i<cs.length)(h':i<cs'.length),gL π D cs[i] cs'[i]):jW π D (.dY cs) (.dY cs')
 |map (es es':List gm)(clock:Nat)(hl:es.length=es'.length)
   (h:∀i (h:i<es.length)(h':i<es'.length),gL π D es[i].key es'[i].key∧gL π D es[i].val es'[i].val∧es[i].born=es'[i].born):jW π D (.map es clock) (.map es' clock)
 |kQ (s:List Nat)(pos:Nat):jW π D (.kQ s pos) (.kQ s pos)
 |b (m:Option S)(since:Nat)(seen:List Nat)(stepped:Nat)(h:∀p,m=some p→D p):jW π D (.b (m.map π) since seen stepped) (.b m since seen stepped)
 |eY:jW π D .eY .eY
 |loop (st:LoopState)(pend:Option Code)(n:Nat)(F F':T A)(ps:List Nat)(as bo:Code)(d:S)(hd:D d)(h:∀t v,F'.dZ (S.ofNat t)=some v→∃u,F.dZ (S.ofNat t)=some u∧gL π D u v):
   jW π D (.loop st pend n F ps as bo (π d)) (.loop st pend n F' ps as bo d)
 |fX:jW π D .fX .fX
section
variable{B:Nat→Prop}{G:ez}{w:World}{X:Kx}{π:S→S}{D:S→Prop} [DecidablePred D]
def kR.jV{o r:AO}{c:Nat}(h:kR G w X o c)(z:jW π D o r):kR G w (X.y π D) r c:=by
 cases z with
 |dY cs P hl b=>
  let⟨eE,e,fz,p,a,k,g⟩:=h
  exact⟨eE,e,fz,p,a,M,λi C=>(g i M).jV (b i M C)⟩
 |map es R W hl b=>
  let⟨eE,p,a,k⟩:=h
  refine⟨eE,p,M,λi C=>?_⟩;obtain⟨K,h2,h3⟩:=b i M C;obtain⟨k1,k2,k3⟩:=k i M;exact⟨k1.jV K,k2.jV h2,by rw[k3,h3]⟩
 |kQ s pos=>exact h
 |b m H seen f hm=>
  let⟨I,p,a⟩:=h
  refine⟨I,p,?_⟩;cases m<;>cases I<;>simp at a⊢;rw[sA (hm _ Z)];exact a
 |eY=>exact h
 |loop st N n F F' ps as bo d hd b=>
  let⟨fn,j,Q,l,q,p,y,a,U,k⟩:=h
  refine⟨fn,j,Q,l,q,p,y,by rw[sA hd];exact a,U,λt v hv=>?_⟩;obtain⟨u,hu,z⟩:=b t v hv;obtain⟨x,hx,E⟩:=k t u hu;exact⟨x,hx,E.jV z⟩
 |fX=>exact h
structure OF (π:S→S)(D:S→Prop)(H H':eM):Prop where
 obj:∀p o,H'.ep.dZ p=some o→D p∧∃o',H.ep.dZ (π p)=some o'∧jW π D o' o
 inj:∀p q o o',H'.ep.dZ p=some o→H'.ep.dZ q=some o'→π p=π q→p=q
 dX:∀q:S,H'.dX.dV≤q.dV→¬D q
def jW.uY{o r:AO}(h:jW π D o r):(o=.eY↔r=.eY):=by cases h<;>simp
def fJ.jV(K:fJ B G H w X)(y:G.Pure)(n:OF π D H l):fJ B G l w (X.y π D):=by
 have b:∀p c,(X.y π D).ρ p=Y c->X.ρ (π p)=Y c/\D p:=by
  intro p c h;simp only[Kx.y]at h;split at h
  .rename_i a;exact⟨h,a⟩
  cases h
 refine⟨K.base,λp o z=>?_,λp q o r c v x i t=>?_,λq E=>?_,λp c hp=>K.room _ c (b _ _ hp).1,K.kS,?_⟩
 .obtain⟨hp,r,u,d⟩:=n.obj p o z;obtain⟨c,i,t,m,s,C⟩:=K.obj _ r u;exact⟨c,by rw[sA hp];exact i,t,m.jV d,λe=>by rw[Fx hp];exact s (d.uY.2 e),λe=>C (λk=>e (d.uY.1 k))⟩
 .obtain⟨_,j,W,_⟩:=n.obj p o v;obtain⟨_,I,F,_⟩:=n.obj q r x;exact n.inj p q o r v x (K.inj _ _ j I c W F (b _ _ i).1 (b _ _ t).1)
 .have:=n.dX q E;refine⟨by simp[Kx.y,this],by simp[Kx.y,this],?_⟩;cases hg:l.ep.dZ q with
  |none=>rfl
  |some o=>exact absurd (n.obj q o hg).1 this
 refine⟨λg f e=>(K.gX.gX g f e).dW (y.1 g f e) (λ_=>fQ _) (λ_ _ h=>h),λp f e=>?_,K.gX.inj,K.gX.raw⟩;obtain⟨c,i,t,m,s⟩:=K.gX.fU p f e;exact⟨c,i,t,m,s.dW (y.2 p f e) (λ_=>fQ _) (λ_ _ h=>h)⟩
def fL.jV{hV:Kx}(E:fL B a hV w X)(h:∀p c,hV.ρ p=Y c\/hV.τ p=Y c->D p/\π p=p):fL B a hV w (X.y π D):=by
 refine⟨E.below,λp c hp=>?_,λp c hp=>?_,E.u,E.fF,E.cells,E.rj,E.tz⟩
 .obtain⟨K,r⟩:=h p c (.inl hp);rw[sA K,r];exact E.jM _ _ hp
 obtain⟨K,r⟩:=h p c (.inr hp);rw[Fx K,r];exact E.qI _ _ hp
end
section
variable{P:Program}{G:ez}{R:Option S}{N:Nat}{s:St}{Q:Exit→St→Prop}
def yn(Q:Exit->St->Prop):Exit->St->Prop
 |.goto _,_=>False
 |e,s=>Q e s
def X1{b:Frame}{a:Act}{k:L Item}{cs:L Frame}{w:World}{c:Code}:step P (lone (b.atR a (.code (.scope c)::k)) cs w)=.next (lone (b.atR a (.code c::.inScope c::k)) cs w):=
 step_lone_go (by simp[stepG,stepG.exec,Frame.atR])
def X2{b:Frame}{k:L Item}{c:Code}:step P (lone (b.atR a (.inScope c::k)) d w)=.next (lone (b.atR a k) d w):=
 step_lone_go (by simp[stepG,stepG.exec,Frame.atR])
def gJ.scope{c:Code}(h:gJ P G R N c s (yn Q)):gJ P G R N (.scope c) s Q:=by
 intro B w y a F x n b k cs u j f;obtain⟨e,o,q,⟨p,i,t,E,g⟩,d⟩:=h B w y a F x n b (.inScope c::k) cs u j f;have first:=StepsIn.one (fenced_calm (P:=P) (fr:=b.atR a (.code (.scope c)::k)) j f Z) (X1 (P:=P) (b:=b) (a:=a) (k:=k) (cs:=cs) (w:=w) (c:=c))
 cases e with
 |normal=>exact⟨.normal,o,q,⟨p,i,t,E,g⟩,first.trans (StepsIn.trans d (.one (fenced_calm (fr:=b.atR o (.inScope c::k)) j f Z) X2))⟩
 |exit id=>refine⟨.exit id,o,q,⟨p,i,t,E,g⟩,.of_steps first ⟨λm v=>d.1 m (by simpa[exitTo]using v),λK r=>d.2 K (by simpa[exitTo]using r)⟩⟩
 |goto l=>exact t.elim
 |ret=>exact⟨_,o,q,⟨p,i,t,E,g⟩,.of_steps first d⟩
 |panic z=>exact⟨_,o,q,⟨p,i,t,E,g⟩,.of_steps first d⟩
 |outgrown=>exact⟨_,o,q,⟨p,i,t,E,g⟩,.of_steps first d⟩
end
structure f8 where
 dst:Option S
 op:jI
 dY:Bool
 guard:Option (Option S×Bool)
 ka:List Nat
inductive gx where
 |skip
 |fO (ops:List f8)
 |jk (kZ wE:List Nat)(ops:List f8)
 |seq (a b:gx)
 |cond (x:IX)(a b:gx)
 |block (id:Nat)(a:gx)
 |loop (live:List S)(a:gx)
 |rangeFunc (g:IX)(ps:List Nat)(live:List S)(as bo:gx)
 |scope (a:gx)
 |exit (id:Nat)
 |label (l:Nat)
 |goto (l:Nat)
 |ret
 |refuse
def f8.o(d:S)(op:jI)(dY:Bool:=dU)(guard:Option (Option S×Bool):=J)(a:L Nat:=[]):f8:=⟨Y d,op,dY,guard,a⟩
def f8.n(op:jI)(dY:Bool:=dU)(guard:Option (Option S×Bool):=J)(a:L Nat:=[]):f8:=⟨J,op,dY,guard,a⟩
def f8.m(o:f8):f8:={o with dY:=dU}
def f8.bare(o:f8):f8:={o with dY:=dU,ka:=[]}
def gx.m:gx->gx
 |.skip=>.skip
 |.fO ops=>.fO (ops.map f8.bare)
 |.jk _ _ ops=>.jk [] [] (ops.map f8.m)
 |.seq a b=>.seq a.m b.m
 |.cond x a b=>.cond x a.m b.m
 |.block i a=>.block i a.m
 |.loop _ a=>.loop [] a.m
 |.rangeFunc g ps _ a b=>.rangeFunc g ps [] a.m b.m
 |.scope a=>.scope a.m
 |.exit i=>.exit i
 |.label l=>.label l
 |.goto l=>.goto l
 |.ret=>.ret
 |.refuse=>.refuse
def Fy(P:Program)(N:Nat)(b:Array Oper)(o:Oper):Option f8:=
 match o.dst with
 |none=>Y {dst:=J,op:=(ib P o.op).getD .fail,dY:=dU,guard:=o.guard.map λa=>(((b[a.1]?).bind (·.dst)).map S.ofNat,a.2),ka:=(o.after.toList.filter (Region.binds .any)).map (·.on)}
 |some d=>if d<N then Y {dst:=Y (S.ofNat d),op:=(ib P o.op).getD .fail,dY:=dU,guard:=o.guard.map λa=>(((b[a.1]?).bind (·.dst)).map S.ofNat,a.2),ka:=(o.after.toList.filter (Region.binds .any)).map (·.on)}else J
def uZ(P:Program)(N:Nat)(b:Array Oper):L Oper->Option (L f8)
 |[]=>Y []
 |o::l=>(Fy P N b o).bind λa=>(uZ P N b l).map (a::·)
def gk(P:Program)(N:Nat):Code->Option gx
 |.skip=>Y .skip
 |.region _ ops false=>(uZ P N ops ops.toList).map λl=>.fO (l.map f8.bare)
 |.region _ ops true=>(uZ P N ops ops.toList).map (.jk [] [])
 |.seq a b=>(gk P N a).bind λa=>(gk P N b).map (.seq a)
 |.cond x a b=>(iO x).bind λx=>(gk P N a).bind λa=>(gk P N b).map (.cond x a)
 |.block i a=>(gk P N a).map (.block i)
 |.loop a=>(gk P N a).map (.loop [])
 |.rangeFunc g ps a b=>(iO g).bind λg=>(gk P N a).bind λa=>(gk P N b).bind λb=>if ps.all (·<N)then Y (.rangeFunc g ps.toList [] a b)else J
 |.scope a=>(gk P N a).map .scope
 |.exit i=>Y (.exit i)
 |.label l=>Y (.label l)
 |.goto l=>Y (.goto l)
 |.ret=>Y .ret
 |.refuse _=>Y .refuse
def St.I(s:St)(a:Option S)(v:A)(H:eM):St:=
 match a with
 |some d=>{F:=s.F.set d (Y v),D:=s.D,H:=H}
 |none=>{s with H:=H}
def OG(s:St)(a:Option Tmp)(v:A)(H:eM):s.I (a.map S.ofNat) v H=s.put a v H:=by cases a<;>rfl
section
variable(P:Program)(G:ez)
inductive fK (d:Bool)(f:FuncId)(args:List A)(H:eM)(K:A→eM→Prop):Prop
 |any (hd:d=false)(h:eL P G f args H K)
 |one (r:A)(H':eM)(hk:K r H')(h:eL P G f args H fun r1 H1=>r1=r∧H1=H')
inductive jy (d:Bool)(l:S)(args:List A)(H:eM)(K:A→eM→Prop):Prop
 |any (hd:d=false)(h:qc P G l args H K)
 |one (r:A)(H':eM)(hk:K r H')(h:qc P G l args H fun r1 H1=>r1=r∧H1=H')
inductive eT (d:Bool)(R:Option S)(N:Nat)(a:gx)(s:St)(Q:Exit→St→Prop):Prop
 |any (hd:d=false)(h:∀c,gk P N c=some a.m→gJ P G R N c s Q)
 |one (e:Exit)(s':St)(hq:Q e s')(h:∀c,gk P N c=some a.m→gJ P G R N c s fun e1 s1=>e1=e∧s1=s')
 |none (h:∀c,gk P N c≠some a.m)
def im{b:Type}(o:Option b)(k:b->Prop):Prop:=match o with|some a=>k a|none=>False
def tM{b:Type}{o:Option b}{k m:b->Prop}(h:im o k)(c:∀a,k a->m a):im o m:=by
 cases o with
 |none=>exact h
 |some a=>exact c a h
def fH{b:Type}{o:Option b}{k:b->Prop}{a:b}(h:o=Y a)(c:k a):im o k:=by rw[h];exact c
def wK{p q:Prop}(k:q)(h:q->p:=by intro k;(conv=>whnf);exact k):p:=h k
def sK{b:Type}{o:Option b}{k:b->Prop}{a:b}{q:Prop}(h:o=Y a)(z:q)(w:q->k a:=by intro k;(conv=>whnf);exact k):im o k:=fH h (w z)
def lK{b:Type}{o:Option b}{k:b->Prop}:im o k↔∃a,o=Y a/\k a:=by cases o<;>simp[im]
def ln(d:Bool)(a:Option S)(s:St)(K:St->Prop):iD->Prop
 |.val v=>K (s.I a v s.H)
 |.ew o k=>im ((iD.ew o k).state s.H) λr=>K (s.I a r.1 r.2)
 |.put p o v=>im ((iD.put p o v).state s.H) λr=>K (s.I a r.1 r.2)
 |.lH kl sz n cs=>im ((iD.lH kl sz n cs).state s.H) λr=>K (s.I a r.1 r.2)
 |.oK kl sz n cs=>im ((iD.oK kl sz n cs).state s.H) λr=>K (s.I a r.1 r.2)
 |.call f args=>fK P G d f args s.H λr D=>K (s.I a r D)
 |.yield l args=>jy P G d l args s.H λr D=>K (s.I a r D)
 |.any l p=>match d with
  |false=>∀x∈l,K (s.I a x.2 {s.H with ep:=s.H.ep.set p (Y x.1)})
  |true=>False
def mB(d:Bool)(o:f8)(s:St)(K:St->Prop):Prop:=
 match o.guard with
 |none=>im (fG G o.dY s.F s.H o.op) (ln P G d o.dst s K)
 |some (none,_)=>K (s.I o.dst (.eK []) s.H)
 |some (some g,a)=>match s.F.dZ g with
  |some (.bool b)=>(match b==a with
   |true=>(im (fG G o.dY s.F s.H o.op) (ln P G d o.dst s K))
   |false=>K (s.I o.dst (.eK []) s.H))
  |some (.eK _)=>K (s.I o.dst (.eK []) s.H)
  | _=>False
def tN(d:Bool):L f8->(St->Prop)->St->Prop
 |[],K,s=>K s
 |o::l,K,s=>mB P G d o s (tN d l K)
def jn(d:Bool)(R:Option S)(N:Nat):gx->St->(Exit->St->Prop)->Prop
 |.skip,s,Q=>Q .normal s
 |.fO ops,s,Q=>tN P G d ops (Q .normal) s
 |.seq a b,s,Q=>jn d R N a s (l9 (λj=>jn d R N b j Q) Q)
 |.cond x a b,s,Q=>match x.ev G s.F with
  |some (.bool c)=>(match c with|true=>jn d R N a s Q|false=>jn d R N b s Q)
  | _=>False
 |.block i a,s,Q=>jn d R N a s (oL i Q)
 |.scope a,s,Q=>jn d R N a s (yn Q)
 |.exit i,s,Q=>Q (.exit i) s
 |.label _,s,Q=>Q .normal s
 |.goto l,s,Q=>Q (.goto l) s
 |.ret,s,Q=>Q .ret s
 |.refuse,_,_=>False
 |.jk o ms ops,s,Q=>eT P G d R N (.jk o ms ops) s Q
 |.loop l a,s,Q=>eT P G d R N (.loop l a) s Q
 |.rangeFunc g ps l a b,s,Q=>eT P G d R N (.rangeFunc g ps l a b) s Q
end
section
variable{P:Program}{G:ez}
def fK.mono{K C:A->eM->Prop}(h:fK P G d f a H K)(hk:∀r H',K r H'->C r H'):fK P G d f a H C:=VR
def qc.mono{c:L A}{K C:A->eM->Prop}(h:qc P G l c H K)(o:∀r D,K r D->C r D):qc P G l c H C:=by intro B w t p d n j a;obtain⟨f,i,b,g,q,k,m⟩:=h B w t p d n j a;exact⟨f,i,b,g,q,k,m.mono λe u F=>by cases e<;>first|exact F|exact FinA.mono F o⟩
def jy.mono{K C:A->eM->Prop}(h:jy P G d l a H K)(hk:∀r H',K r H'->C r H'):jy P G d l a H C:=VR
def eT.mono{R:Option S}{N:Nat}{s:St}{Q b:Exit->St->Prop}(h:eT P G d R N a s Q)(t:∀e j,Q e j->b e j):eT P G d R N a s b:=by
 cases h with
 |any g h=>exact .any g λc f=>(h c f).mono t
 |one e j K h=>exact .one e j (t _ _ K) h
 |none h=>exact .none h
def OH{s:St}{K C:St->Prop}{e:iD}(h:ln P G d H s K e)(b:∀s,K s->C s):ln P G d H s C e:=by
 unfold ln at h⊢;cases e with
 |val v=>exact b _ h
 |call f a=>exact fK.mono h λ_ _=>b _
 |yield l a=>exact jy.mono h λ_ _=>b _
 |any l p=>cases d<;>first|exact λx c=>b _ (h x c)|exact h
 | _=>exact tM h λ_=>b _
def tQ{o:f8}{s:St}{K C:St->Prop}(h:mB P G d o s K)(f:∀s,K s->C s):mB P G d o s C:=by
 unfold mB at h⊢;have k:∀e,ln P G d o.dst s K e->ln P G d o.dst s C e:=λe i=>OH i f;split
 .rename_i a;rw[a]at h;exact tM h k
 .rename_i a;rw[a]at h;exact f _ h
 rename_i g c a;rw[a]at h;dsimp only at h⊢;cases hv:s.F.dZ g with
 |none=>rw[hv]at h;exact h.elim
 |some v=>
 rw[hv]at h;cases v<;>try exact h.elim
 .rename_i b;dsimp only at h⊢;cases hb:(b==c)
  .rw[hb]at h;exact f _ h
  rw[hb]at h;exact tM h k
 exact f _ h
def OI:∀{l:L f8}{s:St}{K C:St->Prop},tN P G d l K s->(∀s,K s->C s)->tN P G d l C s:=by
 intro l;induction l with
 |nil=>intro s K C h a;exact a _ h
 |cons o l i=>intro s K C h a;exact tQ h λs r=>i r a
end
structure u0 (P:Program)(N:Nat)(ops:Array Oper)(o:Oper)(a:f8):Prop where
 op:a.op=(ib P o.op).getD .fail
 dst:a.dst=o.dst.map S.ofNat
 lt:∀d,o.dst=some d→d<N
 guard:a.guard=o.guard.map fun jw=>(((ops[jw.1]?).bind (·.dst)).map S.ofNat,jw.2)
def u0.bare{P:Program}{N:Nat}{c:Array Oper}{o:Oper}{a b:f8}(h:u0 P N c o a)(e:a.bare=b.bare):u0 P N c o b:=by
 let⟨d,j,H,p,g⟩:=a
 let⟨m,f,k,t,i⟩:=b
 simp only[f8.bare,f8.mk.injEq]at e;obtain⟨rfl,rfl,_,rfl,_⟩:=e;exact⟨h.op,h.dst,h.lt,h.guard⟩
def X3{P:Program}{N:Nat}{g:Array Oper}{o:Oper}{a:f8}(h:Fy P N g o=Y a.m):u0 P N g o a/\a.ka=(o.after.toList.filter (Region.binds .any)).map (·.on):=by
 unfold Fy at h;split at h
 .rename_i f
  let⟨H,op,dY,guard,c⟩:=a
  simp only[f8.m,oZ,f8.mk.injEq]at h;obtain⟨rfl,rfl,_,rfl,rfl⟩:=h;exact⟨⟨Z,by simp[f],by simp[f],Z⟩,Z⟩
 rename_i d f;split at h
 .rename_i b
  let⟨H,op,dY,guard,c⟩:=a
  simp only[f8.m,oZ,f8.mk.injEq]at h;obtain⟨rfl,rfl,_,rfl,rfl⟩:=h;exact⟨⟨Z,by simp[f],λy e=>by rw[f]at e;cases e;exact b,Z⟩,Z⟩
 cases h
def JS{P:Program}{N:Nat}:∀{l:L Oper}{F:L f8},uZ P N b l=Y (F.map f8.m)->O l=O F/\∀(j:Nat)(o:Oper),l[j]? =Y o->∃a,F[j]? =Y a/\u0 P N b o a/\a.ka=(o.after.toList.filter (Region.binds .any)).map (·.on):=by
 intro l;induction l with
 |nil=>
  intro F h;simp only[uZ,oZ]at h;cases F with
  |nil=>exact⟨Z,λj o h=>by simp at h⟩
  |cons=>simp at h
 |cons o l i=>
 intro F h;simp only[uZ,fS,gA]at h
 let⟨k,c,C,d,h⟩:=h
 cases F with
 |nil=>simp at h
 |cons a F=>
 simp only[jL,ti]at h;obtain⟨rfl,rfl⟩:=h;obtain⟨K,r⟩:=i d;refine⟨by simp[K],λj f e=>?_⟩;cases j with
 |zero=>simp at e;subst e;exact⟨a,Z,X3 c⟩
 |succ j=>exact r j f (by simpa using e)
section
variable{P:Program}{G:ez}{R:Option S}{N:Nat}{s:St}
def fK.u9{K:A->eM->Prop}(h:fK P G dU f a H K):eL P G f a H K:=Wc
def jy.u9{K:A->eM->Prop}(h:jy P G dU l a H K):qc P G l a H K:=Wc
def X4{b:Option Tmp}{K:St->Prop}{e:iD}(h:ln P G dU (b.map S.ofNat) s K e):Fs P G b s K e:=by
 unfold ln at h;unfold Fs;simp only[OG]at h;cases e with
 |val v=>exact⟨v,s.H,Z,h⟩
 |call f a=>exact fK.u9 h
 |yield l a=>exact jy.u9 h
 |any l p=>exact h
 | _=>obtain⟨⟨v,D⟩,c,r⟩:=lK.1 h;exact⟨v,D,c,r⟩
def OJ{Xa:Exit->Act->World->Prop}{n:Array Oper}{i:Nat}{o:Oper}{K:St->Prop}(Q:n[i]? =Y o)(C:u0 P N n o a)(h:mB P G dU a s K)
  {B:Nat->Prop}{g:Act}{F:Fence}(r:jd B G N s w y g)(hr:tK y R F):
  wpOpIn F 0 P n Xa i (λk x=>∃q p,K q/\fL B w y x p/\jd B G N q x p k) g w:=by
 unfold wpOpIn;simp only[Q];have m:yl n o s.F=Y dT->im (fG G a.dY s.F s.H a.op) (ln P G dU a.dst s K)->if Region.wanted o (yielded n g.tmps)=dT then Oper.wpIn F 0 P o g w (λk x=>∃q p,K q/\fL B w y x p/\jd B G N q x p k) Xa
   else(∀f,o.about P w g.eval=Y f->F.fn f)/\∃q p,K q/\fL B w y w p/\jd B G N q w p (g.put o.dst undef):=by
  intro u h;rw[Fv r.tmps u,gO Z];obtain⟨e,E,I⟩:=lK.1 h;rw[C.dst]at I;have z:ib P o.op=Y a.op:=by
   cases hc:ib P o.op with
   |none=>have:=C.op;rw[hc]at this;rw[show a.op=.fail from this]at E;cases E
   |some U=>have:=C.op;rw[hc]at this;rw[show a.op=U from this]
  exact OC z C.lt E (X4 I) r hr
 have no:yl n o s.F=Y dU->K (s.I a.dst (.eK []) s.H)->if Region.wanted o (yielded n g.tmps)=dT then Oper.wpIn F 0 P o g w (λk x=>∃q p,K q/\fL B w y x p/\jd B G N q x p k) Xa
   else(∀f,o.about P w g.eval=Y f->F.fn f)/\∃q p,K q/\fL B w y w p/\jd B G N q w p (g.put o.dst undef):=by
  intro u h;rw[Fv r.tmps u,gj (by simp)];rw[C.dst,OG]at h;refine⟨λf _=>?_,_,y,h,fL.refl _ _ _,r.put (fL.refl _ _ _) r.heap C.lt (.eK _ _ Z Uf)⟩;exact Io
 unfold mB at h;have t:=C.guard;unfold yl at m no;cases u:o.guard with
 |none=>rw[u]at t;simp only[t,Option.map_none]at h;simp only[u]at m;exact m eR h
 |some W=>
 let⟨j,D⟩:=W
 rw[u]at t;simp only[t,jb]at h;simp only[u]at m no;cases hd:(n[j]?).bind (·.dst)with
 |none=>simp only[hd,Option.map_none]at h no;exact no eR h
 |some d=>
 simp only[hd,jb]at h m no;cases hv:s.F.dZ (S.ofNat d)with
 |none=>rw[hv]at h;exact h.elim
 |some v=>
 simp only[hv]at h m no;cases v<;>try exact h.elim
 .rename_i b;dsimp only at h m no;cases hb:(b==D)
  .rw[hb]at h no;exact no Z h
  rw[hb]at h m;exact m Z h
 exact no Z h
def X5{Xa:Exit->Act->World->Prop}{ops:Array Oper}{K:St->Prop}{B:Nat->Prop}{F:Fence}{w0:World}{hV:Kx}(u:∀s w d a,K s->fL B w0 hV w d->jd B G N s w d a->Xa .normal a w):
  ∀(e:L f8)(i:Nat)(s:St)(w:World)(d:Kx)(c:Act),(∀j a,e[j]? =Y a->∃o,ops[i+j]? =Y o/\u0 P N ops o a)->tN P G dU e K s->fL B w0 hV w d->jd B G N s w d c->tK d R F->
   wpOpsIn F 0 P ops Xa (List.range' i (O e)) c w:=by
 intro e;induction e with
 |nil=>intro i s w d c _ h E r n;exact u s w d c h E r
 |cons a e y=>intro i s w d c q h E r n;rw[lV,List.range'_succ,wpOpsIn_cons];obtain⟨o,x,C⟩:=q 0 a Z;refine wpOpIn_mono (λk H ⟨D,p,t,m,l⟩=>y (i+1) D H p k (λj b v=>?_) t (E.trans m) l (n.mono m)) (OJ x C h r n);obtain⟨z,g,f⟩:=q (j+1) b (by simpa using v);exact⟨z,by rw[show i+1+j=i+(j+1) by omega];exact g,f⟩
def eT.u9{Q:Exit->St->Prop}(h:eT P G dU R N a s Q){c:Code}(K:gk P N c=Y a.m):gJ P G R N c s Q:=by
 cases h with
 |any _ h=>exact h c K
 |one e j t h=>exact(h c K).mono λd f ⟨b,r⟩=>by rw[b,r];exact t
 |none h=>exact absurd K (h c)
def sB:∀{a:gx}{c:Code}{s:St}{Q:Exit->St->Prop},gk P N c=Y a.m->jn P G dU R N a s Q->gJ P G R N c s Q:=by
 intro a;induction a with
 |skip=>
  intro c s Q hc h;cases c<;>simp[gk,gx.m,fS]at hc
  .exact .skip h
  exact pw
 |fO f=>
  intro c s Q hc h;cases c<;>simp[gk,gx.m,fS]at hc
  rename_i id ops d;cases d with
  |true=>simp[gk]at hc
  |false=>
  simp only[gk,gA,gx.fO.injEq]at hc
  let⟨l,hl,v⟩:=hc
  have H:uZ P N ops ops.toList=Y (l.map f8.m):=by
   rw[hl];congr 1;have:∀(l:L Oper)(m:L f8),uZ P N ops l=Y m->m.map f8.m=m:=by
    intro l;induction l with
    |nil=>intro m h;cases h;rfl
    |cons o l q=>
    intro m h;simp only[uZ,fS,gA]at h;obtain⟨a,n,m',hm,rfl⟩:=h;rw[jL,q m' hm];congr 1;unfold Fy at n;split at n
    .cases n;rfl
    split at n
    .cases n;rfl
    cases n
   exact(this _ _ hl).symm
  obtain⟨h1,h2⟩:=JS H;have k:O l=O f:=by simpa using fW O v
  intro B w X z F hs hr;refine wpIn_region ?_;have:=X5 (Xa:=λe a' w'=>∃s' p,Q e s'/\fL B w X w' p/\jd B G N s' w' p a') (P:=P) (ops:=ops) (K:=Q .normal) (B:=B) (w0:=w) (hV:=X) (F:=F) (R:=R) (λs w' p a' t E I=>⟨s,p,t,E,I⟩) f 0 s w X z
   (λj b r=>by
    have u:j<O ops.toList:=by
     have:=oY.1 r
     let⟨hj,_⟩:=this
     omega
    obtain⟨b',C,hi,_⟩:=h2 j _ (jq u);refine⟨_,by rw[lg,<-qx];exact jq u,hi.bare ?_⟩;have e:=fW (λx:L f8=>x[j]?) v;simp only[pz,C,r,jb,oZ]at e;exact e) h (fL.refl _ _ _) hs hr
  rw[List.range_eq_range'];rw[<-k,<-h1,tu]at this;exact this
 |jk kZ ms f=>intro c s Q hc h;exact eT.u9 h hc
 |loop D a q=>intro c s Q hc h;exact eT.u9 h hc
 |rangeFunc g ps D x y _ _=>intro c s Q hc h;exact eT.u9 h hc
 |seq x y ihx ihy=>
  intro c s Q hc h;cases c<;>simp[gk,gx.m,fS]at hc
  .exact pw
  exact .seq ((ihx hc.1 h).mono λe s' t=>by
   cases e with
   |normal=>exact ihy hc.2 t
   | _=>exact t)
 |cond x a b U W=>
  intro c s Q hc h;cases c<;>simp[gk,gx.m,fS]at hc
  .exact pw
  obtain⟨_,hx,_,n,_,v,rfl,rfl,rfl⟩:=hc;unfold jn at h;split at h
  .rename_i c he;refine .cond hx he ?_;cases c
   .exact W v h
   exact U n h
  exact h.elim
 |block i a q=>
  intro c s Q hc h;cases c<;>simp[gk,gx.m,fS]at hc
  .exact pw
  obtain⟨n,rfl⟩:=hc;exact .block (q n h)
 |scope a q=>
  intro c s Q hc h;cases c<;>simp[gk,gx.m,fS]at hc
  .exact pw
  exact .scope (q hc h)
 |exit i=>
  intro c s Q hc h;cases c<;>simp[gk,gx.m,fS]at hc
  .exact pw
  subst hc;exact .exit h
 |label l=>
  intro c s Q hc h;cases c<;>simp[gk,gx.m,fS]at hc
  .exact pw
  exact .label h
 |goto l=>
  intro c s Q hc h;cases c<;>simp[gk,gx.m,fS]at hc
  .exact pw
  subst hc;exact .goto h
 |ret=>
  intro c s Q hc h;cases c<;>simp[gk,gx.m,fS]at hc
  .exact pw
  exact .ret h
 |refuse=>intro c s Q hc h;exact h.elim
end
section
variable{P:Program}{G:ez}{R:Option S}{N:Nat}
def Fz{K C:St->Prop}{Q a:Exit->St->Prop}(b:∀s,K s->C s)(t:∀e s,Q e s->a e s):∀e s,l9 K Q e s->l9 C a e s:=by intro e s h;cases e<;>first|exact b _ h|exact t _ _ h
def X6{i:Nat}{Q a:Exit->St->Prop}(t:∀e s,Q e s->a e s):∀e s,oL i Q e s->oL i a e s:=by
 intro e s h;cases e with
 |exit j=>
  simp only[oL]at h⊢;split at h
  .rename_i e;rw[gO e];exact t _ _ h
  rename_i e;rw[gj e];exact t _ _ h
 | _=>exact t _ _ h
def X7{Q a:Exit->St->Prop}(t:∀e s,Q e s->a e s):∀e s,yn Q e s->yn a e s:=by intro e s h;cases e<;>first|exact h.elim|exact t _ _ h
def lp:∀{a:gx}{s:St}{Q f:Exit->St->Prop},jn P G d R N a s Q->(∀e s,Q e s->f e s)->jn P G d R N a s f:=by
 intro a;induction a with
 |skip=>intro s Q f h t;exact t _ _ h
 |fO m=>intro s Q f h t;exact OI h (t .normal)
 |jk=>intro s Q f h t;exact eT.mono h t
 |loop=>intro s Q f h t;exact eT.mono h t
 |rangeFunc=>intro s Q f h t;exact eT.mono h t
 |seq a b g j=>intro s Q f h t;exact g h (Fz (λs r=>j r t) t)
 |cond x a b g j=>
  intro s Q f h t;unfold jn at h⊢;split at h
  .rename_i c F;cases c
   .exact j h t
   exact g h t
  exact h.elim
 |block i a k=>intro s Q f h t;exact k h (X6 t)
 |scope a k=>intro s Q f h t;exact k h (X7 t)
 |exit i=>intro s Q f h t;exact t _ _ h
 |label l=>intro s Q f h t;exact t _ _ h
 |goto l=>intro s Q f h t;exact t _ _ h
 |ret=>intro s Q f h t;exact t _ _ h
 |refuse=>intro s Q f h t;exact h.elim
def X8{s:St}{K:St->Prop}{e:iD}(h:ln P G dT H s K e):∃j,K j/\ln P G dU H s (λt=>t=j) e:=by
 unfold ln at h⊢;cases e with
 |val v=>exact⟨_,h,Z⟩
 |call f b=>exact VI
 |yield l b=>exact VI
 |any l p=>exact h.elim
 | _=>obtain⟨x,c,d⟩:=lK.1 h;exact⟨_,d,fH c Z⟩
def OK{o:f8}{s:St}{K:St->Prop}(h:mB P G dT o s K):∃j,K j/\mB P G dU o s (λt=>t=j):=by
 unfold mB at h⊢;have k:im (fG G o.dY s.F s.H o.op) (ln P G dT o.dst s K)->∃j,K j/\im (fG G o.dY s.F s.H o.op) (ln P G dU o.dst s λt=>t=j):=by intro h;obtain⟨e,c,r⟩:=lK.1 h;obtain⟨j,m,E⟩:=X8 r;exact⟨j,m,fH c E⟩
 cases hg:o.guard with
 |none=>rw[hg]at h;exact k h
 |some d=>
 let⟨g,a⟩:=d
 rw[hg]at h;cases g with
 |none=>exact⟨_,h,Z⟩
 |some g=>
 dsimp only at h⊢;cases hv:s.F.dZ g with
 |none=>rw[hv]at h;exact h.elim
 |some v=>
 rw[hv]at h;cases v<;>try exact h.elim
 .rename_i b;dsimp only at h⊢;cases hb:(b==a)
  .rw[hb]at h;exact⟨_,h,Z⟩
  rw[hb]at h;exact k h
 exact⟨_,h,Z⟩
def X9:∀{l:L f8}{s:St}{K:St->Prop},tN P G dT l K s->∃j,K j/\tN P G dU l (λt=>t=j) s:=by
 intro l;induction l with
 |nil=>intro s K h;exact⟨s,h,Z⟩
 |cons o l i=>intro s K h;obtain⟨c,a,r⟩:=OK h;obtain⟨z,m,E⟩:=i a;exact⟨z,m,tQ r λt e=>by rw[e];exact E⟩
def eT.wz{a:gx}{s:St}{Q:Exit->St->Prop}(K:∃c,gk P N c=Y a.m)(h:eT P G dT R N a s Q):∃e j,Q e j/\eT P G dU R N a s (λd f=>d=e/\f=j):=by
 cases h with
 |any b=>cases b
 |one e j t h=>exact⟨e,j,t,.one e j ⟨Z,Z⟩ h⟩
 |none h=>let⟨c,K⟩:=K;exact absurd K (h c)
def OL{a b:gx}(h:∃c,gk P N c=Y (a.seq b).m):(∃c,gk P N c=Y a.m)/\∃c,gk P N c=Y b.m:=by
 let⟨c,hc⟩:=h
 cases c<;>simp[gk,gx.m,fS]at hc
 .exact pw
 exact⟨⟨_,hc.1⟩,⟨_,hc.2⟩⟩
def OM{x:IX}(h:∃c,gk P N c=Y (gx.cond x a b).m):(∃c,gk P N c=Y a.m)/\∃c,gk P N c=Y b.m:=by
 let⟨c,hc⟩:=h
 cases c<;>simp[gk,gx.m,fS]at hc
 .exact pw
 obtain⟨_,v,_,e,_,j,rfl,rfl,rfl⟩:=hc;exact⟨⟨_,e⟩,⟨_,j⟩⟩
def Yb{i:Nat}(h:∃c,gk P N c=Y (gx.block i a).m):∃c,gk P N c=Y a.m:=by
 let⟨c,hc⟩:=h
 cases c<;>simp[gk,gx.m,fS]at hc
 .exact pw
 exact⟨_,hc.1⟩
def Yc(h:∃c,gk P N c=Y (gx.scope a).m):∃c,gk P N c=Y a.m:=by
 let⟨c,hc⟩:=h
 cases c<;>simp[gk,gx.m,fS]at hc
 .exact pw
 exact⟨_,hc⟩
def Az:∀{a:gx}{s:St}{Q:Exit->St->Prop},(∃c,gk P N c=Y a.m)->jn P G dT R N a s Q->∃e p,Q e p/\jn P G dU R N a s (λd g=>d=e/\g=p):=by
 intro a;induction a with
 |skip=>intro s Q K h;exact⟨_,_,h,Z,Z⟩
 |fO u=>intro s Q K h;obtain⟨p,f,r⟩:=X9 h;exact⟨.normal,p,f,OI r λt e=>⟨Z,e⟩⟩
 |jk=>intro s Q K h;exact eT.wz K h
 |loop=>intro s Q K h;exact eT.wz K h
 |rangeFunc=>intro s Q K h;exact eT.wz K h
 |seq a b k n=>
  intro s Q K h;obtain⟨e,g,f,r⟩:=k (OL K).1 h;cases e with
  |normal=>obtain⟨y,z,m,E⟩:=n (OL K).2 f;refine⟨y,z,m,?_⟩;show jn P G dU R N a s (l9 _ _);refine lp r ?_;rintro e t ⟨rfl,rfl⟩;exact E
  | _=>refine⟨_,g,f,?_⟩;show jn P G dU R N a s (l9 _ _);exact Ni
 |cond x a b k n=>
  intro s Q K h;unfold jn at h⊢;split at h
  .rename_i c F;cases c
   .exact n (OM K).2 h
   exact k (OM K).1 h
  exact h.elim
 |block i a q=>
  intro s Q K h;obtain⟨e,g,f,r⟩:=q (Yb K) h;cases e with
  |exit j=>
   simp only[oL]at f;by_cases o:j=i
   .rw[gO o]at f;refine⟨.normal,g,f,?_⟩;show jn P G dU R N a s (oL _ _);refine lp r ?_;rintro e t ⟨rfl,rfl⟩;simp only[oL,gO o];exact⟨eR,eR⟩
   rw[gj o]at f;refine⟨.exit j,g,f,?_⟩;show jn P G dU R N a s (oL _ _);refine lp r ?_;rintro e t ⟨rfl,rfl⟩;simp only[oL,gj o];exact⟨eR,eR⟩
  | _=>refine⟨_,g,f,?_⟩;show jn P G dU R N a s (oL _ _);exact Ni
 |scope a q=>
  intro s Q K h;obtain⟨e,g,f,r⟩:=q (Yc K) h;cases e with
  |goto l=>exact f.elim
  | _=>refine⟨_,g,f,?_⟩;show jn P G dU R N a s (yn _);exact Ni
 |exit i=>intro s Q K h;exact⟨_,_,h,Z,Z⟩
 |label l=>intro s Q K h;exact⟨_,_,h,Z,Z⟩
 |goto l=>intro s Q K h;exact⟨_,_,h,Z,Z⟩
 |ret=>intro s Q K h;exact⟨_,_,h,Z,Z⟩
 |refuse=>intro s Q K h;exact h.elim
end
inductive RV where
 |tmp (p:S)
 |cell (p:S)(n:Option Nat)
def yo(P:Program):L ResultVar->Option (L RV)
 |[]=>Y []
 |.tmp t::l=>(yo P l).map (.tmp (S.ofNat t)::·)
 |.cell x t::l=>(uN P t).bind λn=>(yo P l).map (.cell (S.ofNat x) n::·)
def Has(P:Program)(f:FuncId)(n:Nat)(b:L RV)(a:gx):Prop:=
 ∃fn c,P.funcs[f]? =Y fn/\fn.body=Y c/\fn.name≠ "runtime.NumGoroutine" /\fn.ntmps=n/\yo P fn.results.toList=Y b/\gk P n c=Y a.m
def nU(G:ez)(F:T A)(H:eM):L RV->Option (L A)
 |[]=>Y []
 |.tmp t::l=>(F.dZ t).bind λv=>(nU G F H l).map (v::·)
 |.cell x n::l=>(F.dZ x).bind λv=>(qL G H v).bind λw=>(part w.2 n w.1).bind λv=>(nU G F H l).map (v::·)
def pP:S->L A->T A
 | _,[]=>.e
 |p,v::l=>(pP p.succ l).set p (Y v)
def vh(G:ez)(b:L RV)(Q:A->eM->Prop):Exit->St->Prop
 |.normal,s=>im (rA s.D s.H) λa=>im (nU G s.F a b) λw=>Q (rz w) a
 |.ret,s=>im (rA s.D s.H) λa=>im (nU G s.F a b) λw=>Q (rz w) a
 | _,_=>False
section
variable{P:Program}{G:ez}
def ON{F:T A}:∀{l:L ResultVar}{C:L RV},yo P l=Y C->sy P G F H l=nU G F H C:=by
 intro l;induction l with
 |nil=>intro C h;cases h;rfl
 |cons r l i=>
 intro C h;cases r with
 |tmp t=>simp only[yo,gA]at h;obtain⟨m,f,rfl⟩:=h;simp only[sy,nU,i f]
 |cell x t=>simp only[yo,fS,gA]at h;obtain⟨n,E,m,f,rfl⟩:=h;simp only[sy,nU,E,i f,jm]
def S.toNat_inj{p q:S}(h:p.dV=q.dV):p=q:=by
 induction p generalizing q with
 |h=>
  cases q with
  |h=>rfl
  |o q=>simp[S.dV]at h;have:=q.jD;omega
  |i q=>simp[S.dV]at h;have:=q.jD;omega
 |o p a=>
  cases q with
  |h=>simp[S.dV]at h;have:=p.jD;omega
  |o q=>rw[a (q:=q) (by simp only[S.dV]at h;omega)]
  |i q=>simp[S.dV]at h;omega
 |i p a=>
 cases q with
 |h=>simp[S.dV]at h;have:=p.jD;omega
 |o q=>simp[S.dV]at h;omega
 |i q=>rw[a (q:=q) (by simp only[S.dV]at h;omega)]
def OO:∀{b:L A}{c:L Value}{i:Nat}{p:S},fR w d b c->p=S.ofNat i->∀t v,(pP p b).dZ (S.ofNat t)=Y v->∃x,i<=t/\c[t - i]? =Y x/\eQ w d v x:=by
 intro b;induction b with
 |nil=>intro c i p _ _ t v h;simp[pP]at h
 |cons a b g=>
 intro c i p n hp t v h;obtain⟨u,j,rfl,hu,hus⟩:=n.Q;simp only[pP,T.jr]at h;split at h
 .rename_i e;cases h;have:t=i:=S.Jg (e.trans hp);subst this;exact⟨u,fQ _,ei,hu⟩
 have f:p.succ=S.ofNat (i+1):=by
  have K:p.succ.dV=(S.ofNat (i+1)).dV:=by rw[S.gG,hp,S.toNat_ofNat,S.toNat_ofNat]
  exact S.toNat_inj K
 obtain⟨x,K,r,m⟩:=g hus f t v h;refine⟨x,M,?_,m⟩;rw[show t - i=(t - (i+1))+1 by omega];simpa using r
def eL.vk{n:Nat}{Q:A->eM->Prop}(g:Has P f n j a)
  (h:jn P G dU J n a {F:=pP .h K,D:=[],H:=H} (vh G j Q)):eL P G f K H Q:=by
 obtain⟨fn,c,u,r,m,rfl,h5,h6⟩:=g;refine eL.body (F0:=pP .h K) u r m (λw U d C=>?_) ((sB h6 h).mono ?_)
 .intro t v E;obtain⟨x,_,k,o⟩:=OO (i:=0) C Z t v E;have k:d[t]? =Y x:=by simpa using k
  have b:=qJ k;exact⟨x,by rw[MI b];exact k,o⟩
 intro e s p;cases e<;>first
  |exact p.elim
  |(obtain⟨q,y,z⟩:=lK.1 p
    obtain⟨I,B,l⟩:=lK.1 z;exact⟨ei,q,I,y,by rw[ON h5];exact B,l⟩)
def eL.AA{n:Nat}{Q:A->eM->Prop}(g:Has P f n b a)
  (h:jn P G dT J n a {F:=pP .h K,D:=[],H:=H} (vh G b Q)):∃r H',Q r H'/\eL P G f K H λd t=>d=r/\t=H':=by
 obtain⟨e,j,h1,i⟩:=Az VX h;have k:∃r H',Q r H'/\∀e1 s1,(e1=e/\s1=j)->vh G b (λd t=>d=r/\t=H') e1 s1:=UH
 let⟨r,H',m,E⟩:=k
 exact⟨r,H',m,eL.vk g (lp i E)⟩
end
def Below(n:S)(p:S):Prop:=p.dV<n.dV
instance(n:S):DecidablePred (Below n):=λp=>inferInstanceAs (Decidable (p.dV<n.dV))
def mq(F:T A):L S->Option (L A)
 |[]=>Y []
 |p::l=>(F.dZ p).bind λv=>(mq F l).map (v::·)
def gB:L S->L A->T A
 |p::l,v::vs=>(gB l vs).set p (Y v)
 | _,_=>.e
def tT:∀{l:L S}{w:L A}{F:T A},mq F l=Y w->∀q v,(gB l w).dZ q=Y v->F.dZ q=Y v:=by
 intro l;induction l with
 |nil=>intro w F h q v t;cases h;simp[gB]at t
 |cons p l i=>
 intro w F h q v t;simp only[mq,fS,gA]at h;obtain⟨u,Q,b,a,rfl⟩:=h;simp only[gB,T.jr]at t;split at t
 .rename_i e;cases t;rw[e];exact Q
 exact i a q v t
def mD(B:S->S)(D:S->Prop):L A->L A->Prop
 |[],[]=>True
 |v::l,v'::l'=>gL B D v v'/\mD B D l l'
 | _,_=>False
def mD.gY{B:S->S}{D:S->Prop}:∀{l:L S}{w a:L A}{F:T A},mq F l=Y w->mD B D w a->∀q v,(gB l a).dZ q=Y v->∃u,F.dZ q=Y u/\gL B D u v:=by
 intro l;induction l with
 |nil=>intro w a F h _ q v t;simp[gB]at t
 |cons p l i=>
 intro w a F h n q v t;simp only[mq,fS,gA]at h;obtain⟨u,Q,c,b,rfl⟩:=h;cases a with
 |nil=>simp[gB]at t
 |cons d a=>
 simp only[gB,T.jr]at t;split at t
 .rename_i e;cases t;rw[e];exact⟨u,Q,n.1⟩
 exact i b n.2 q v t
structure JT (π:S→S)(D:S→Prop)(s s':St):Prop where
 tmps:∀q v,s'.F.dZ q=some v→∃u,s.F.dZ q=some u∧gL π D u v
 fX:s.D=s'.D.map π∧∀p∈s'.D,D p
 heap:OF π D s.H s'.H
section
variable{P:Program}{G:ez}{R:Option S}{N:Nat}
def jd.jV{B:Nat->Prop}{s j:St}{k:Kx}{π:S->S}{D:S->Prop} [DecidablePred D](c:jd B G N s w k a)(q:G.Pure)(h:JT π D s j):jd B G N j w (k.y π D) a:=by
 refine⟨c.size,c.heap.jV q h.heap,λt v y=>?_,?_⟩
 .obtain⟨u,Q,n⟩:=h.tmps _ v y;obtain⟨x,z,g⟩:=c.tmps t u Q;exact⟨x,z,g.jV n⟩
 have K:=c.fX;rw[h.fX.1]at K;have e:=h.fX.2;generalize j.D=l at K e;generalize a.defers=b at K;induction l generalizing b with
 |nil=>cases b<;>exact K
 |cons d l i=>
 cases b with
 |nil=>exact K
 |cons m b=>
 let⟨⟨r,n,f⟩,o⟩:=K
 exact⟨⟨r,by rw[sA (e d (by simp))];exact n,f⟩,i (λp hp=>e p (by simp[hp])) b o⟩
def jd.uT{B:Nat->Prop}{s j:St}(r:jd B G N s w d a)(c:∀q v,j.F.dZ q=Y v->s.F.dZ q=Y v)(b:j.D=s.D)(f:j.H.ep=s.H.ep)(E:s.H.dX.dV<=j.H.dX.dV):jd B G N j w d a:=by
 let⟨i,h,e⟩:=j
 let⟨F,D,H⟩:=s
 let⟨x,k⟩:=e
 let⟨m,n⟩:=H
 dsimp only at c b f E;subst b f;exact⟨r.size,⟨r.heap.base,r.heap.obj,r.heap.inj,λp hp=>r.heap.fresh p (by dsimp only at hp⊢;omega),r.heap.room,r.heap.kS,r.heap.gX⟩,λt v g=>r.tmps t v (c _ v g),r.fX⟩
def vu(n:S)(I:St->Prop)(s:St):Prop:=∃(j:St)(B:S->S),I j/\(∀p,Below n p->B p=p)/\n.dV<=j.H.dX.dV/\JT B (Below j.H.dX) s j
def gJ.AB{c:Code}{s:St}{Q:Exit->St->Prop}(hG:G.Pure)(n:S)(hR:∀l,R=Y l->Below n l)(I:Nat->St->Prop)(hn:s.H.dX=n)(t:St)(k0:Nat)(h0:I k0 t)(hF:∀q v,t.F.dZ q=Y v->s.F.dZ q=Y v)
  (hD:t.D=s.D)(hm:t.H.ep=s.H.ep)(hnx:n.dV<=t.H.dX.dV)
  (h:∀k s,I k s->gJ P G R N c s (l9 (λz=>vu n (λK=>∃k',k'<k/\I k' K) z) Q)):gJ P G R N (.loop c) s Q:=by
 intro B w X a F hs hr b k U hro hb hroom;refine Nm λold=>?_;have key:∀j s y g E,I j s->fL B w X y g->jd B G N s y g E->
   ∃e a' w',(∃K C,Q e K/\fL B w X w' C/\jd B G N K w' C a')/\ArrivesIn (Machine.fenced P F) P (lone (b.atR E (.code c::.inLoop c::k)) U y) b k U e a' w':=by
  intro j;induction j using Nat.strongRecOn with
  | _ j ih=>
  intro s y g E hI i hs1;obtain⟨e,r,m,⟨z,f,hq,o,d⟩,harr⟩:=h j s hI B y g E F hs1 (hr.mono i) b (.inLoop c::k) U hro hb hroom;cases e with
  |normal=>
   let⟨s3,π,⟨j3,hlt,W⟩,hπ,hn3,u⟩:=hq
   have hs3:=d.jV hG u;have E3:fL B w X m (f.y π (Below s3.H.dX)):=(i.trans o).jV λp c hp=>Sz;obtain⟨e3,a3,w3,hq3,harr3⟩:=ih j3 hlt s3 m _ r W E3 hs3;exact IG
  |exit id=>exact⟨_,r,m,⟨z,f,hq,i.trans o,d⟩,.pass (x:=.inLoop c) Z (λ_ _=>.inl ei) harr⟩
  |goto l=>exact⟨_,r,m,⟨z,f,hq,i.trans o,d⟩,.pass (x:=.inLoop c) Z (λ_ _=>.inl ei) harr⟩
  |ret=>exact⟨_,r,m,⟨z,f,hq,i.trans o,d⟩,.pass (x:=.inLoop c) Z (λ_ _=>.inl ei) harr⟩
  |panic ch=>exact⟨_,r,m,⟨z,f,hq,i.trans o,d⟩,.pass (x:=.inLoop c) Z (λ_ _=>.inl ei) harr⟩
  |outgrown=>exact⟨_,r,m,⟨z,f,hq,i.trans o,d⟩,.pass (x:=.inLoop c) Z (λ_ _=>.inl ei) harr⟩
 obtain⟨e,a',w',hq,harr⟩:=key _ t w X a h0 (fL.refl _ _ _) (hs.uT hF hD hm (by rw[hn];exact hnx));exact IR
def vu.mono{n:S}{I a:St->Prop}{s:St}(h:vu n I s)(b:∀s,I s->a s):vu n a s:=
 let⟨j,B,K,r⟩:=h
 ⟨j,B,b _ K,r⟩
def eT.loop{p:L S}{s:St}{Q:Exit->St->Prop}(hG:G.Pure)(n:S)(hR:∀l,R=Y l->Below n l)(I:Nat->St->Prop)(hn:s.H.dX=n)(r:St)(C:Nat)(h0:I C r)(hF:∀q v,r.F.dZ q=Y v->s.F.dZ q=Y v)
  (hD:r.D=s.D)(hm:r.H.ep=s.H.ep)(B:n.dV<=r.H.dX.dV)
  (h:∀k s,I k s->jn P G d R N a s (l9 (λs2=>vu n (λi=>∃m,m<k/\I m i) s2) Q)):eT P G d R N (.loop p a) s Q:=by
 have f:∀c,gk P N c=Y (gx.loop p a).m->∃o,c=.loop o/\gk P N o=Y a.m:=Te;cases d
 .refine .any Z λc hc=>?_;obtain⟨o,rfl,g⟩:=f c hc;exact gJ.AB hG n hR I hn r C h0 hF hD hm B λk s y=>sB g (h k s y)
 by_cases z:∃c,gk P N c=Y a.m
 case neg=>exact .none λc hc=>by obtain⟨o,_,g⟩:=f c hc;exact z ⟨o,g⟩
 have W:∀j s,I j s->∃e i,Q e i/\∃u:Nat->St->Prop,u j s/\(∀k t,u k t->jn P G dU R N a t (l9 (λs2=>vu n (λi=>∃m,m<k/\u m i) s2) (λe1 s1=>e1=e/\s1=i))):=by
  intro j;induction j using Nat.strongRecOn with
  | _ j ih=>
  intro s y;obtain⟨e,s2,hq,hw⟩:=Az z (h j s y);cases e with
  |normal=>
   let⟨s3,π,⟨j3,b,E⟩,x⟩:=hq
   obtain⟨e3,i,U,u,K,w⟩:=ih j3 b s3 E;refine⟨e3,i,U,λk t=>(k=j/\t=s)\/(k<j/\u k t),.inl ⟨Z,Z⟩,?_⟩;rintro k t (⟨rfl,rfl⟩|⟨hkj,ht⟩)
   .refine lp hw ?_;rintro e t' ⟨rfl,rfl⟩;exact⟨s3,π,⟨j3,b,.inr ⟨b,K⟩⟩,x⟩
   refine lp (w k t ht) (Fz (λs2 hb=>hb.mono λi ⟨m,h1,h2⟩=>⟨m,h1,.inr ⟨M,h2⟩⟩) (λ_ _ h=>h))
  | _=>exact VS
 obtain⟨e,i,U,u,K,w⟩:=W C r h0;refine .one e i U λc hc=>?_;obtain⟨o,rfl,g⟩:=f c hc;exact gJ.AB hG n hR u hn r C K hF hD hm B λk s y=>sB g (w k s y)
def ee(P:Program)(G:ez)(f:FuncId)(K:L A)(v:A):Prop:=∀H,eL P G f K H λr D=>r=v/\D=H
def ee.call{H:eM}{K:A->eM->Prop}(h:ee P G f a v)(b:K v H):fK P G d f a H K:=.one v H b (h H)
def ee.c{K:A->eM->Prop}{q:Prop}(h:ee P G f a v)(z:q)(w:q->K v H:=by intro k;(conv=>whnf);exact k):fK P G d f a H K:=h.call (w z)
abbrev ot(r v:A):Prop:=gL id (λ_=>False) r v
def gL.JU{B:S->S}(h:gL B (λ_=>False) r v):v.Pure:=by
 intro D Ta;induction h with
 |ey v h=>exact h D Ta
 |ea p b h=>exact h.elim
 |fF w a b o _ c=>exact .fF _ _ λi C=>c i M C
 |eG j n w a p hp=>exact hp.elim
 |fE j n w a o _ c=>exact .eG _ _ _ _ mR λi C=>c i M C
 |G j n w a t o _ c=>exact .eG _ _ _ _ mR λi C=>c i M C
 |eC p _ _ _ _ _ h=>exact h.elim
 |map p h=>exact h.elim
 |func f x q y s k _ m _ d g=>exact .func _ _ _ (λi C=>d i M C) (λi C=>g i M C)
 |gF p h=>exact h.elim
 |iface t v l _ c=>exact .iface _ _ c
 |agg w a o _ c=>exact .agg _ λi C=>c i M C
 |eK w a o _ c=>exact .eK _ λi C=>c i M C
def ee.of(hG:G.Pure)(hargs:∀a∈args,a.Pure)(h:eL P G f args {ep:=.e,dX:=.h} λr _=>ot r v):ee P G f args v:=by
 intro H B w X cargs hH hr;have h1:fJ (ku B H X λp=>T.dZ p (.e:T AO)=J) G {ep:=.e,dX:=.h} w (X.only λ_=>False):=M0;refine Mp λhcall=>?_;have fin:∀v' w',FinA G (ku B H X λp=>T.dZ p (.e:T AO)=J) w (X.only λ_=>False) (λr _=>ot r v) v' w'->FinA G B w X (λr D=>r=v/\D=H) v' w':=by rintro v' w' ⟨r,D,κ',hcl,E,hH',hrv⟩;exact UA
 exact zM
def ee.AA{n:Nat}{b:A->Prop}(g:Has P f n d a)(k:G.Pure)(c:∀a∈K,a.Pure)
  (h:jn P G dT J n a {F:=pP .h K,D:=[],H:={ep:=.e,dX:=.h}} (vh G d λr _=>∃v,ot r v/\b v)):∃v,b v/\ee P G f K v:=by
 obtain⟨r,l,⟨v,i,j⟩,m⟩:=eL.AA g h;exact⟨v,j,ee.of k c (m.mono λo t ⟨e,_⟩=>by rw[e];exact i)⟩
def ee.vk{d:Bool}{n:Nat}{c:L RV}(g:Has P f n c a)(i:G.Pure)(b:∀a∈K,a.Pure)
  (h:jn P G dU J n a {F:=pP .h K,D:=[],H:={ep:=.e,dX:=.h}} (vh G c λr _=>ot r v)):ee P G f K v:=
 ee.of i b (eL.vk g h)
end
def T0:S:=.h
def T1:S:=(.o .h)
def T2:S:=(.i .h)
def T3:S:=.o T1
def T4:S:=.i T1
def T5:S:=.o T2
def T6:S:=.i T2
def T7:S:=.o T3
def T8:S:=.i T3
def T9:S:=.o T4
def T10:S:=.i T4
def T11:S:=.o T5
def T12:S:=.i T5
def T13:S:=.o T6
def T14:S:=.i T6
def T15:S:=.o T7
def T16:S:=.i T7
def T17:S:=.o T8
def T18:S:=.i T8
def T19:S:=.o T9
def T20:S:=.i T9
def T21:S:=.o T10
def T22:S:=.i T10
def T23:S:=.o T11
def T24:S:=.i T11
def T25:S:=.o T12
def T26:S:=.i T12
def T27:S:=.o T13
def T28:S:=.i T13
def T29:S:=.o T14
def T30:S:=.i T14
def T31:S:=.o T15
def T32:S:=.i T15
def T33:S:=.o T16
def T34:S:=.i T16
def T35:S:=.o T17
def T36:S:=.i T17
def T37:S:=.o T18
def T38:S:=.i T18
def T39:S:=.o T19
def T40:S:=.i T19
def T41:S:=.o T20
def T42:S:=.i T20
def T43:S:=.o T21
def T44:S:=.i T21
def T45:S:=.o T22
def T46:S:=.i T22
def T47:S:=.o T23
def T48:S:=.i T23
def T49:S:=.o T24
def T50:S:=.i T24
def T51:S:=.o T25
def T52:S:=.i T25
def T53:S:=.o T26
def T54:S:=.i T26
def T55:S:=.o T27
def T56:S:=.i T27
def T57:S:=.o T28
def T58:S:=.i T28
def T59:S:=.o T29
def T60:S:=.i T29
def T61:S:=.o T30
def T62:S:=.i T30
def T63:S:=.o T31
def T64:S:=.i T31
def T65:S:=.o T32
def T66:S:=.i T32
def T67:S:=.o T33
def T68:S:=.i T33
def T69:S:=.o T34
def T70:S:=.i T34
def T71:S:=.o T35
def T72:S:=.i T35
def T73:S:=.o T36
def T74:S:=.i T36
def T75:S:=.o T37
def T76:S:=.i T37
def T77:S:=.o T38
def T78:S:=.i T38
def T79:S:=.o T39
def T80:S:=.i T39
def T81:S:=.o T40
def T82:S:=.i T40
def T83:S:=.o T41
def T84:S:=.i T41
def T85:S:=.o T42
def T86:S:=.i T42
def T87:S:=.o T43
def T88:S:=.i T43
def T89:S:=.o T44
def T90:S:=.i T44
def T91:S:=.o T45
def T92:S:=.i T45
def T93:S:=.o T46
def T94:S:=.i T46
def T95:S:=.o T47
def T96:S:=.i T47
def T97:S:=.o T48
def T98:S:=.i T48
def T99:S:=.o T49
def T100:S:=.i T49
def T101:S:=.o T50
def T102:S:=.i T50
def T103:S:=.o T51
def T104:S:=.i T51
def T105:S:=.o T52
def T106:S:=.i T52
def T107:S:=.o T53
def T108:S:=.i T53
def T109:S:=.o T54
def T110:S:=.i T54
def T111:S:=.o T55
def T112:S:=.i T55
def T113:S:=.o T56
def T114:S:=.i T56
def T115:S:=.o T57
def T116:S:=.i T57
def T117:S:=.o T58
def T118:S:=.i T58
def T119:S:=.o T59
def T120:S:=.i T59
def T121:S:=.o T60
def T122:S:=.i T60
def T123:S:=.o T61
def T124:S:=.i T61
def T125:S:=.o T62
def T126:S:=.i T62
def T127:S:=.o T63
def T128:S:=.i T63
def T129:S:=.o T64
def T130:S:=.i T64
def T131:S:=.o T65
def T132:S:=.i T65
def T133:S:=.o T66
def T134:S:=.i T66
def T135:S:=.o T67
def T136:S:=.i T67
def T137:S:=.o T68
def T138:S:=.i T68
def T139:S:=.o T69
def T140:S:=.i T69
def T141:S:=.o T70
def T142:S:=.i T70
def T143:S:=.o T71
def T144:S:=.i T71
def T145:S:=.o T72
def T146:S:=.i T72
def T147:S:=.o T73
def T148:S:=.i T73
def T149:S:=.o T74
def T150:S:=.i T74
def T151:S:=.o T75
def T152:S:=.i T75
def T153:S:=.o T76
def T154:S:=.i T76
def T155:S:=.o T77
def T156:S:=.i T77
def T157:S:=.o T78
def T158:S:=.i T78
def T159:S:=.o T79
def T160:S:=.i T79
def T161:S:=.o T80
def T162:S:=.i T80
def T163:S:=.o T81
def T164:S:=.i T81
def T165:S:=.o T82
def T166:S:=.i T82
def T167:S:=.o T83
def T168:S:=.i T83
def T169:S:=.o T84
def T170:S:=.i T84
def T171:S:=.o T85
def T174:S:=.i T86
def T177:S:=.o T88
def mr{a:Type}:S->(S->a)->a:=S.rec (λk=>k (.o .h)) (λp _ k=>k (.i p)) (λ_ b k=>b λq=>k (.o q))
def ou{b:Type}(p:S):∀(k:S->b),mr p k=k p.succ:=by
 induction p with
 |h=>intro k;rfl
 |o p a=>intro k;rfl
 |i p a=>intro k;exact a _
def kK:Nat->L A->L A->Option (L A)
 |0,[],cs=>Y cs
 |0,v::ew,_ ::cs=>(kK 0 ew cs).map (v::·)
 |0,_ :: _,[]=>J
 |n+1,ew,c::cs=>(kK n ew cs).map (c::·)
 | _ +1,_ :: _,[]=>J
 | _ +1,[],[]=>J
def OP:∀(n:Nat)(ew w:L A),kK n ew w=o4 n ew w:=by
 intro n;induction n with
 |zero=>
  intro ew;induction ew with
  |nil=>intro w;simp only[kK,o4];rw[show Nat.ble (0+O ([]:L A)) (O w)=dT by rw[jS];simp];simp
  |cons v ew i=>
  intro w;cases w with
  |nil=>simp only[kK,o4];rw[show Nat.ble (0+O (v::ew)) (O ([]:L A))=dU by rw[pB,ne_eq,jS];simp];rfl
  |cons c w=>
  simp only[kK,i];simp only[o4];by_cases h:O ew<=O w
  .have K:Nat.ble (0+O ew) (O w)=dT:=by rw[jS];omega
   have r:Nat.ble (0+O (v::ew)) (O (c::w))=dT:=by rw[jS];simp;omega
   rw[K,r];simp
  have K:Nat.ble (0+O ew) (O w)=dU:=by rw[pB,ne_eq,jS];omega
  have r:Nat.ble (0+O (v::ew)) (O (c::w))=dU:=by rw[pB,ne_eq,jS];simp;omega
  rw[K,r];simp
 |succ n i=>
 intro ew w;cases w with
 |nil=>
  have:o4 (n+1) ew []=J:=by simp only[o4];rw[show Nat.ble (n+1+O ew) (O ([]:L A))=dU by rw[pB,ne_eq,jS];simp];rfl
  cases ew<;>simp[kK,this]
 |cons c w=>
 simp only[kK,i];simp only[o4];by_cases h:n+O ew<=O w
 .have K:Nat.ble (n+O ew) (O w)=dT:=by rw[jS];omega
  have r:Nat.ble (n+1+O ew) (O (c::w))=dT:=by rw[jS];simp;omega
  rw[K,r];simp[show n+1+O ew=(n+O ew)+1 by omega]
 have K:Nat.ble (n+O ew) (O w)=dU:=by rw[pB,ne_eq,jS];omega
 have r:Nat.ble (n+1+O ew) (O (c::w))=dU:=by rw[pB,ne_eq,jS];simp;omega
 rw[K,r];simp
def yp:Nat->L A->Option (L A)
 |0,_=>Y []
 |n+1,c::cs=>(yp n cs).map (c::·)
 | _ +1,[]=>J
def Yd:∀(n:Nat)(w:L A),yp n w=cut 0 n w:=by
 intro n;induction n with
 |zero=>intro w;simp[yp,cut]
 |succ n i=>
 intro w;cases w with
 |nil=>simp only[yp,cut];rw[show Nat.beq (O (List.take (n+1) (List.drop 0 ([]:L A)))) (n+1)=dU by rw[pB,ne_eq,nr];simp];rfl
 |cons c w=>
 simp only[yp,i];simp only[cut,En,List.take_succ_cons,lV];by_cases h:O (w.take n)=n
 .have K:Nat.beq (O (w.take n)) n=dT:=by rw[nr];exact h
  have r:Nat.beq (O (w.take n)+1) (n+1)=dT:=by rw[nr,h]
  rw[K,r];rfl
 have K:Nat.beq (O (w.take n)) n=dU:=by rw[pB,ne_eq,nr];exact h
 have r:Nat.beq (O (w.take n)+1) (n+1)=dU:=by rw[pB,ne_eq,nr];omega
 rw[K,r];rfl
def Ye(b n:Nat)(w:L A):cut b n w=yp n (w.drop b):=by rw[Yd];simp[cut]
def oy(b:Nat)(n:Option Nat)(w:L A):Option A:=
 match n with
 |none=>w[b]?
 |some n=>(yp n (w.drop b)).map .agg
def nG(b:Nat)(n:Option Nat)(w:L A):oy b n w=part b n w:=by
 cases n with
 |none=>rfl
 |some n=>simp only[oy,part,Ye]
def qd:L (Nat×Nat×A)->L A->Option (L A)
 |[],cs=>Y cs
 |(b,a,v)::rest,cs=>cond (Nat.beq (O v.cells) a) ((kK b v.cells cs).bind (qd rest)) J
def OQ:∀(t:L (Nat×Nat×A))(w:L A),qd t w=sm t w:=by
 intro t;induction t with
 |nil=>intro w;rfl
 |cons p t i=>
 intro w
 let⟨b,a,v⟩:=p
 simp only[qd,sm,OP];congr 2;funext c;exact i c
def fA(G:ez)(dY:Bool)(F:T A)(H:eM)(o:jI):Option iD:=
 match o with
 |.build zero parts=>(o5 G F parts).bind λt=>(qd t zero).map λw=>.val (.agg w)
 |.lit sz len zero parts=>(o5 G F parts).bind λt=>(qd t (gV zero len)).map λw=>cond dY (.ew (.dY w) (.slice sz len)) (.val (.eG sz len w .fE))
 |.load n x=>(x.ev G F).bind λa=>(qL G H a).bind λw=>(oy w.2 n w.1).map .val
 |.store n a x=>(a.ev G F).bind λa=>(x.ev G F).bind λv=>
  match a with
  |.ea p off=>(li H p).bind λw=>cond (Nat.beq (O v.cells) n&&fN v.cells) ((kK off v.cells w).map λb=>.put p (.dY b) (.eK [])) J
  | _=>J
 |.field off n x=>(x.ev G F).bind λ
  |.agg w=>(oy off n w).map .val
  | _=>J
 |o=>fG G dY F H o
def CX(G:ez)(dY:Bool)(F:T A)(H:eM)(o:jI):fA G dY F H o=fG G dY F H o:=by
 unfold fA;split
 .simp only[OQ];rfl
 .simp only[OQ];rfl
 .simp only[nG];rfl
 .simp only[OP];rfl
 .simp only[nG];rfl
 rfl
section
variable(P:Program)(G:ez)
def wA(b:Bool)(p q:Prop):Prop:=match b with|true=>p|false=>q
def eW{p q:Prop}(K:b=dT->p)(r:b=dU->q):wA b p q:=by
 cases b
 .exact r Z
 exact K Z
def bK{p q r s:Prop}(K:b=dT->r)(a:b=dU->s)(B:r->p:=by intro k;(conv=>whnf);exact k)(c:s->q:=by intro k;(conv=>whnf);exact k):wA b p q:=eW (λe=>B (K e)) λe=>c (a e)
def nV(H:Option S)(F:T A)(D:L S)(m:T AO)(n:S)(v:A)(K:St->Prop):Prop:=
 match H with
 |some d=>T.ir (Y v) d F λa=>K ⟨a,D,⟨m,n⟩⟩
 |none=>K ⟨F,D,⟨m,n⟩⟩
def vw(k:Option S)(m:T AO)(K:T AO->Prop):Prop:=
 match k with
 |none=>K m
 |some p=>T.ir J p m K
def qe:L (AO×A)->(AO->A->Prop)->Prop
 |[],_=>True
 |(o,v)::l,Q=>Q o v/\qe l Q
def Yf:∀{l:L (AO×A)}{Q:AO->A->Prop},qe l Q↔∀x∈l,Q x.1 x.2:=by
 intro l;induction l with
 |nil=>intro Q;simp[qe]
 |cons x l i=>intro Q;let⟨o,v⟩:=x;simp[qe,i]
def AC(d:Bool)(H:Option S)(F:T A)(D:L S)(m:T AO)(n:S)(K:St->Prop):iD->Prop
 |.val v=>nV H F D m n v K
 |.ew o k=>T.ir (Y o) n m λx=>mr n λa=>nV H F D x a (CM n k) K
 |.put p o v=>T.ir (Y o) p m λx=>nV H F D x n v K
 |.lH kl sz k cs=>vw kl m λm=>T.ir (Y .eY) n m λx=>mr n λa=>nV H F D x a (.eG sz k cs (.open n)) K
 |.oK kl sz k cs=>vw kl m λm=>T.ir (Y (.dY cs)) n m λx=>mr n λa=>nV H F D x a (.eC n sz 0 k k dU) K
 |.call f args=>fK P G d f args ⟨m,n⟩ λr b=>match b with|⟨x,a⟩=>nV H F D x a r K
 |.yield l args=>jy P G d l args ⟨m,n⟩ λr b=>match b with|⟨x,a⟩=>nV H F D x a r K
 |.any l p=>match d with
  |false=>qe l λo v=>T.ir (Y o) p m λx=>nV H F D x n v K
  |true=>False
def FA(d:Bool)(H:Option S)(F:T A)(D:L S)(m:T AO)(n:S)(K:St->Prop):iD->Prop
 |.val (.bool b)=>wA b (nV H F D m n (.bool dT) K) (nV H F D m n (.bool dU) K)
 |e=>AC P G d H F D m n K e
def AE(op:jI)(d:Bool)(H:Option S)(F:T A)(D:L S)(m:T AO)(n:S)(K:St->Prop)(e:iD):Prop:=
 match op with
 |.gy .. =>FA P G d H F D m n K e
 |.un .. =>FA P G d H F D m n K e
 | _=>AC P G d H F D m n K e
def yq(d:Bool)(o:f8)(F:T A)(D:L S)(m:T AO)(n:S)(K:St->Prop):Prop:=
 match o with
 |⟨H,op,dY,guard,_⟩=>
 match guard with
 |none=>im (fA G dY F ⟨m,n⟩ op) λe=>AE P G op d H F D m n K e
 |some (none,_)=>nV H F D m n (.eK []) K
 |some (some g,a)=>match F.dZ g with
  |some (.bool b)=>(match a with
   |true=>wA b (im (fA G dY F ⟨m,n⟩ op) λe=>AE P G op d H F D m n K e) (nV H F D m n (.eK []) K)
   |false=>wA b (nV H F D m n (.eK []) K) (im (fA G dY F ⟨m,n⟩ op) λe=>AE P G op d H F D m n K e))
  |some (.eK _)=>nV H F D m n (.eK []) K
  | _=>False
def FB(d:Bool):L f8->(St->Prop)->St->Prop
 |[],K,s=>K s
 |o::l,K,s=>match s with|⟨F,D,⟨m,n⟩⟩=>yq P G d o F D m n (FB d l K)
def kB(d:Bool)(R:Option S)(N:Nat):gx->St->(Exit->St->Prop)->Prop
 |.skip,s,Q=>Q .normal s
 |.fO ops,s,Q=>FB P G d ops (Q .normal) s
 |.seq a b,s,Q=>kB d R N a s (l9 (λj=>kB d R N b j Q) Q)
 |.cond x a b,s,Q=>match x.ev G s.F with
  |some (.bool c)=>wA c (kB d R N a s Q) (kB d R N b s Q)
  | _=>False
 |.block i a,s,Q=>kB d R N a s (oL i Q)
 |.scope a,s,Q=>kB d R N a s (yn Q)
 |.exit i,s,Q=>Q (.exit i) s
 |.label _,s,Q=>Q .normal s
 |.goto l,s,Q=>Q (.goto l) s
 |.ret,s,Q=>Q .ret s
 |.refuse,_,_=>False
 |.jk o ms ops,s,Q=>eT P G d R N (.jk o ms ops) s Q
 |.loop l a,s,Q=>eT P G d R N (.loop l a) s Q
 |.rangeFunc g ps l a b,s,Q=>eT P G d R N (.rangeFunc g ps l a b) s Q
end
section
variable{P:Program}{G:ez}
def o8{F:T A}{D:L S}{n:S}{K:St->Prop}{s:St}{H:eM}(c:s.F=F)(a:s.D=D)(e:H=⟨m,n⟩):nV b F D m n v K=K (s.I b v H):=by
 subst c a e;cases b with
 |none=>rfl
 |some d=>simp only[nV,T.i6];rfl
def Yg{F:T A}{D:L S}{n:S}{K:St->Prop}{e:iD}:AC P G d H F D m n K e=ln P G d H ⟨F,D,⟨m,n⟩⟩ K e:=by
 unfold AC ln;cases e with
 |val v=>exact o8 Z Z Z
 |ew o k=>simp only[T.i6,ou,iD.state,im];exact o8 Z Z Z
 |put p o v=>simp only[T.i6,iD.state,im];exact o8 Z Z Z
 |lH kl c k w=>cases kl<;>(simp only[vw,T.i6,ou,iD.state,im,ye];exact o8 Z Z Z)
 |oK kl c k w=>cases kl<;>(simp only[vw,T.i6,ou,iD.state,im,ye];exact o8 Z Z Z)
 |call f a=>dsimp only;congr 1;funext r H';exact o8 Z Z Z
 |yield l a=>dsimp only;congr 1;funext r H';exact o8 Z Z Z
 |any l p=>
 cases d
 .dsimp only;apply propext;rw[Yf];constructor
  .intro h x b;have:=h x b;rw[T.i6,o8 (s:=⟨F,D,⟨m,n⟩⟩) Z Z Z]at this;exact this
  intro h x b;rw[T.i6,o8 (s:=⟨F,D,⟨m,n⟩⟩) Z Z Z];exact h x b
 rfl
def OR{F:T A}{D:L S}{n:S}{K:St->Prop}{e:iD}:FA P G d H F D m n K e=AC P G d H F D m n K e:=by
 unfold FA;split
 .rename_i b;cases b<;>rfl
 rfl
def Yh{op:jI}{F:T A}{D:L S}{n:S}{K:St->Prop}{e:iD}:AE P G op d H F D m n K e=AC P G d H F D m n K e:=by
 unfold AE;split
 .exact OR
 .exact OR
 rfl
def sC{o:f8}{F:T A}{D:L S}{n:S}{K:St->Prop}:yq P G d o F D m n K=mB P G d o ⟨F,D,⟨m,n⟩⟩ K:=by
 let⟨H,op,dY,guard,a⟩:=o
 have c:(im (fA G dY F ⟨m,n⟩ op) λe=>AE P G op d H F D m n K e)=im (fG G dY F ⟨m,n⟩ op) (ln P G d H ⟨F,D,⟨m,n⟩⟩ K):=by rw[CX];congr 1;funext e;rw[Yh];exact Yg
 have r:nV H F D m n (.eK []) K=K (St.I ⟨F,D,⟨m,n⟩⟩ H (.eK []) ⟨m,n⟩):=o8 Z Z Z;unfold yq mB;cases guard with
 |none=>exact c
 |some f=>
 let⟨g,want⟩:=f
 cases g with
 |none=>exact r
 |some g=>dsimp only;rw[c,r];exact MY
def Yi:∀{l:L f8}{K:St->Prop},FB P G d l K=tN P G d l K:=by
 intro l;induction l with
 |nil=>intro K;rfl
 |cons o l i=>
 intro K;funext s
 let⟨F,D,⟨m,n⟩⟩:=s
 simp only[FB,tN,i];exact sC
def qO{R:Option S}:∀{a:gx}{s:St}{Q:Exit->St->Prop},kB P G d R N a s Q=jn P G d R N a s Q:=by
 intro a;induction a with
 |fO g=>intro s Q;simp only[kB,jn,Yi]
 |seq a b c e=>intro s Q;simp only[kB,jn,c,e]
 |cond x a b c e=>intro s Q;simp only[kB,jn,c,e];rfl
 |block i a f=>intro s Q;simp only[kB,jn,f]
 |scope a f=>intro s Q;simp only[kB,jn,f]
 | _=>intro s Q;rfl
end
def yr:T AO->(S->AO->Prop)->Prop
 |.e,_=>True
 |.n v l r,Q=>(match v with|some o=>Q .h o|none=>True)/\yr l (λp=>Q (.o p))/\yr r (λp=>Q (.i p))
def JV:∀{t:T AO}{Q:S->AO->Prop},yr t Q->∀p o,t.dZ p=Y o->Q p o:=by
 intro t;induction t with
 |e=>intro Q _ p o h;simp at h
 |n v l r a b=>
 intro Q h p o hp
 let⟨K,c,m⟩:=h
 cases p with
 |h=>simp at hp;subst hp;exact K
 |o p=>exact a c p o hp
 |i p=>exact b m p o hp
def iP:L (S×S)->S->S
 |[],p=>p
 |(a,b)::l,p=>cond (jT a p) b (iP l p)
def OS{n:S}:∀{l:L (S×S)},(l.all λx=>Nat.ble n.dV x.1.dV)=dT->∀p,Below n p->iP l p=p:=by
 intro l;induction l with
 |nil=>intro _ p _;rfl
 |cons x l i=>
 intro h p hp
 let⟨a,b⟩:=x
 simp only[List.all_cons,jC,jS]at h;have:jT a p=dU:=by rw[mA];simp only[decide_eq_false_iff_not];intro e;subst e;have:a.dV<n.dV:=hp;omega
 simp only[iP,this,jx];exact i (by simpa using h.2) p hp
inductive AF (n nx:S)(vs:List A)(H:eM)(J:List A→T AO→Prop):Prop
 |mk (lA:List (S×S))(vs':List A)(m':T AO)(hJ:J vs' m')(hr:(lA.all fun x=>Nat.ble n.dV x.1.dV)=true)(hv:mD (iP lA) (Below nx) vs vs')
   (ho:yr m' fun p o=>Below nx p∧im (H.ep.dZ (iP lA p)) fun o'=>jW (iP lA) (Below nx) o' o)
   (hi:yr m' fun p _ =>yr m' fun q _ =>iP lA p=iP lA q→p=q)
def oM:L S->L A->(T A->Prop)->Prop
 |p::l,v::vs,K=>oM l vs λF=>T.ir (Y v) p F K
 | _,_,K=>K .e
def wB:∀{l:L S}{w:L A}{K:T A->Prop},oM l w K=K (gB l w):=by
 intro l;induction l with
 |nil=>intro w K;cases w<;>rfl
 |cons p l i=>
 intro w K;cases w with
 |nil=>rfl
 |cons v w=>simp only[oM,gB,i,T.i6]
def FC(n nx:S)(a:L S)(D:L S)(b:L A->T AO->Prop)(s:St):Prop:=s.D=D/\im (mq s.F a) λw=>AF n nx w s.H b
section
variable{P:Program}{G:ez}{R:Option S}{N:Nat}
def eT.jz{F:T A}{D:L S}{n:S}{Q:Exit->St->Prop}(r:G.Pure)(nx:S)(I:Nat->L A->T AO->Prop)(j:Nat)
  (C:mq F f=Y w)(c:I j w m)(hnx:Nat.ble n.dV nx.dV=dT)(y:∀l,R=Y l->Below n l)(hD:(D.all λp=>Nat.blt p.dV n.dV)=dT)
  (h:∀k w m,I k w m->oM f w λF=>kB P G d R N a ⟨F,D,⟨m,nx⟩⟩ (l9 (FC n nx f D λg x=>∃i,i<k/\I i g x) Q)):eT P G d R N (.loop f a) ⟨F,D,⟨m,n⟩⟩ Q:=by
 refine Sm λhD' hnx'=>?_;refine eT.loop r n y (λk s=>∃w m,I k w m/\s=⟨gB f w,D,⟨m,nx⟩⟩) Z ⟨gB f w,D,⟨m,nx⟩⟩ j ⟨w,m,c,Z⟩ (λq v hq=>tT C q v hq) Z Z hnx' ?_;rintro k s ⟨w,m,t,rfl⟩;have h1:=h k w m t;refine IV λh1=>?_;rintro z ⟨hsD,hb⟩;obtain⟨E,hvs2,hb⟩:=lK.1 hb
 let⟨lA,g,x,⟨i,b,u⟩,B,hv',ho,hi⟩:=hb
 have eV:=OS B;refine⟨⟨gB f g,D,⟨x,nx⟩⟩,iP lA,⟨i,b,g,x,u,Z⟩,eV,hnx',?_⟩;exact Tm
end
def qf{a b:Nat}(h:b<=a)(c:a<4611686018427387904):jN .i64 (.ofNat a - .ofNat b)=.ofNat (a - b):=by
 have:(Int.ofNat a - Int.ofNat b:Int)=Int.ofNat (a - b):=by simp only[xH];omega
 rw[this];have r:Nat.blt (a - b) (wn .i64)=dT:=by rw[lm];exact sc (by simp[wn];omega)
 simp only[jN,tB,r,gZ]
def je{a b:Nat}(h:a+b<4611686018427387904):jN .i64 (.ofNat a+.ofNat b)=.ofNat (a+b):=by
 have K:(Int.ofNat a+Int.ofNat b:Int)=Int.ofNat (a+b):=ei
 rw[K];have r:Nat.blt (a+b) (wn .i64)=dT:=by rw[lm];exact sc (by simp[wn];omega)
 simp only[jN,tB,r,gZ]
def OT(a b:Nat):lh (.ofNat a) (.ofNat b)=decide (a<b):=by simp only[lh,lm]
def gz(h:lh (.ofNat a) (.ofNat b)=dT):a<b:=by rw[OT]at h;exact j0 h
def iK(h:lh (.ofNat a) (.ofNat b)=dU):b<=a:=by rw[OT]at h;have:=Eo h;omega
def wC{a b:Nat}(h:gD (.ofNat a) (.ofNat b)=dT):a=b:=by simp only[gD,nr]at h;exact h
def JX(h:gD (.ofNat a) (.ofNat b)=dU):a≠b:=by intro e;subst e;simp[gD]at h
def tU(h:iT a b=dT):a=b:=by rw[uV]at h;exact j0 h
def FD(h:iT a b=dU):a≠b:=by rw[uV]at h;exact Eo h
def JY{k:IntKind}{n:Nat}(h:n<wn k):jN k (.ofNat n)=.ofNat n:=by
 have:Nat.blt n (wn k)=dT:=by rw[lm];exact sc h
 simp only[jN,tB,this,gZ]
section
variable{G:ez}{dY:Bool}{F:T A}{H:eM}{x y i:IX}
def qg{o sz' n j:Nat}{cs:L A}{t:jt}{k:IntKind}(hx:x.ev G F=Y (.eG sz' n cs t))(hi:i.ev G F=Y (.int k a))(zhi:a=.ofNat j)(h:j<n):
  fA G dY F H (.lj (.sl o) x i)=Y (.val (.fF cs (j*o))):=Sy
def nW{p:S}{o a n j b cap:Nat}{k:IntKind}(hx:x.ev G F=Y (.eC p a b n cap w)){c:Int}(hi:i.ev G F=Y (.int k c))(zhi:c=.ofNat j)(h:j<n):
  fA G dY F H (.lj (.sl o) x i)=Y (.val (.ea p (b+j*o))):=Sy
def jO{n:Option Nat}{cs:L A}{off:Nat}{v:A}(a:x.ev G F=Y (.fF cs off))(h:part off n cs=Y v):fA G dY F H (.load n x)=Y (.val v):=by simp only[fA,a,qL,jm,nG,h,jb]
def JZ{n:Option Nat}{p:S}(a:x.ev G F=Y (.fz p b))(hp:G.fU p=Y w)(h:part b n w=Y v):fA G dY F H (.load n x)=Y (.val v):=by simp only[fA,a,qL,hp,jm,jb,nG,h]
def fD{n:Option Nat}{p:S}{K:iD->Prop}{q:Prop}(hp:G.fU p=Y a)(z:q)(c:x.ev G F=Y (.fz p b):=by rfl)(h:part b n a=Y v:=by rfl)(w:q->K (.val v):=by intro k;(conv=>whnf);exact k):im (fA G dY F H (.load n x)) K:=fH (JZ c hp h) (w z)
def Yj{s:L Nat}{k:IntKind}(v:x.ev G F=Y (.J s)){c:Int}(C:i.ev G F=Y (.int k c))(a:c=.ofNat j)(h:s[j]? =Y b):fA G dY F H (.tH x i)=Y (.val (.int .u8 (.ofNat b))):=by subst a;simp only[fA,fG,v,C,lG,jm,h,jb]
def OU{o bytes m:Nat}{ew:L A}{t:jt}(v:x.ev G F=Y .ej)(d:y.ev G F=Y (.eG b m ew t))(f:0<m)(a:fN ew=dT)(c:O ew=m*o)(n:mU m bytes=dT):
  fA G dU F H (.bi (.append o bytes) [x,y])=Y (.lH J o m ew):=by
 have K:Nat.beq (O ew) (m*o)=dT:=by rw[nr];exact c
 obtain⟨m,rfl⟩:∃k,m=k+1:=⟨m - 1,M⟩;simp only[fA,fG,ko,v,d,jm,jb,iU,rm,sj,a,K,qG,gZ,nN,n,jx]
def J0{o bytes n m:Nat}{w ew:L A}{p:S}{t:jt}(v:x.ev G F=Y (.eG o n w (.open p)))(e:y.ev G F=Y (.eG b m ew t))(hp:H.ep.dZ p=Y .eY)(f:0<m)(a:fN ew=dT)
  (c:O ew=m*o)(d:mU (n+m) bytes=dT):fA G dU F H (.bi (.append o bytes) [x,y])=Y (.lH (Y p) o (n+m) (w++ew)):=by
 have K:Nat.beq (O ew) (m*o)=dT:=by rw[nr];exact c
 obtain⟨m,rfl⟩:∃k,m=k+1:=⟨m - 1,M⟩;simp only[fA,fG,ko,v,e,jm,jb,iU,rm,sj,a,K,qG,gZ,nN,d,qA,jx,hp]
def room{n b:Nat}(h:n*b<=kr)(r:n<=kr):mU n b=dT:=by simp only[mU,jC,jS];exact⟨h,r⟩
end
def sD(b:Bool):(A.bool b).Pure:=λ_ _=>.bool b
def iQ(k:IntKind)(n:Int):(A.int k n).Pure:=λ_ _=>.int k n
def jX(s:L Nat):(A.J s).Pure:=λ_ _=>.J s
def yt:A.gi.Pure:=λ_ _=>.gi
def kC:A.ej.Pure:=λ_ _=>.ej
def Yk:A.jc.Pure:=λ_ _=>.jc
def Yl:A.ji.Pure:=λ_ _=>.ji
def OW:A.gQ.Pure:=λ_ _=>.gQ
def o9(p:S)(o:Nat):(A.fz p o).Pure:=λ_ _=>.fz p o
def qQ{o n:Nat}{t:jt}(j:∀p,t≠.open p)(h:∀v∈w,v.Pure):(A.eG o n w t).Pure:=λD Ta=>.eG _ _ _ _ (λp e=>absurd e (j p)) λi C=>h _ (fB C) D Ta
def J1{o n:Nat}(h:∀v∈w,v.Pure):(A.eG o n w .G).Pure:=qQ Cz h
def J2{o n:Nat}(h:∀v∈w,v.Pure):(A.eG o n w .fE).Pure:=qQ Cz h
def jg{cs:L A}(h:∀v∈cs,v.Pure):(A.agg cs).Pure:=λD Ta=>.agg _ λi C=>h _ (fB C) D Ta
def kT(h:∀v∈w,v.Pure):(A.eK w).Pure:=λD Ta=>.eK _ λi C=>h _ (fB C) D Ta
def yu{o:Nat}(h:∀v∈w,v.Pure):(A.fF w o).Pure:=λD Ta=>.fF _ _ λi C=>h _ (fB C) D Ta
def FE{t:TypeId}{v:A}(h:v.Pure):(A.iface t v).Pure:=λD Ta=>.iface _ _ (h D Ta)
def CY(h:∀v∈a,v.Pure)(r:∀v∈b,v.Pure):(A.func f a b).Pure:=λD Ta=>.func _ _ _ (λi C=>h _ (fB C) D Ta) λi C=>r _ (fB C) D Ta
section
variable{π:S→S}{D:S→Prop}
end
def IX.Z:IX->L S
 |.t p=>[p]
 | _=>[]
def FF:Option IX->L S
 |none=>[]
 |some x=>x.Z
def CZ:L (Nat×Nat×IX)->L S
 |[]=>[]
 |(_,_,x)::l=>x.Z++CZ l
def wD:L IX->L S
 |[]=>[]
 |x::l=>x.Z++wD l
def jI.Z:jI->L S
 |.iA x|.box x|.load _ x|.pL x|.un _ x|.conv _ x|.rp _ x|.oJ _ x|.field _ _ x|.Aj x|.Ak x|.wq x|.uL x|.entry x|.extract x _=>x.Z
 |.pick c a b=>c.Z++a.Z++b.Z
 |.alloc _ |.Ai|.fail=>[]
 |.build _ ps|.lit _ _ _ ps=>CZ ps
 |.store _ a x|.gy _ _ _ a x|.lj _ a x|.tH a x|.xY _ _ _ a x|.look _ _ a x _ |.tG _ _ _ a x|.Jq _ _ a x=>a.Z++x.Z
 |.rq _ a b=>wD a++wD b
 |.slice _ x a b c=>x.Z++FF a++FF b++FF c
 |.p9 _ m k v|.Jr m k v=>m.Z++k.Z++v.Z
 |.call _ l|.bi _ l=>wD l
 |.rr x l=>x.Z++wD l
section
variable{G:ez}{F F':T A}
def jh{x:IX}(h:∀t∈x.Z,F.dZ t=F'.dZ t):x.ev G F=x.ev G F':=by
 cases x with
 |t p=>exact h p (by simp[IX.Z])
 |c v=>rfl
 |g n=>rfl
def J3{x:Option IX}(h:∀t∈FF x,F.dZ t=F'.dZ t):pK (IX.ev G F) x=pK (IX.ev G F') x:=by
 cases x with
 |none=>rfl
 |some x=>simp only[pK,jh (G:=G) (x:=x) h]
def C0:∀{l:L IX},(∀t∈wD l,F.dZ t=F'.dZ t)->ko G F l=ko G F' l:=by
 intro l;induction l with
 |nil=>intro _;rfl
 |cons x l i=>intro h;simp only[ko];rw[jh (λt j=>h t (by simp[wD,j])),i (λt j=>h t (by simp[wD,j]))]
def OX:∀{l:L (Nat×Nat×IX)},(∀t∈CZ l,F.dZ t=F'.dZ t)->o5 G F l=o5 G F' l:=by
 intro l;induction l with
 |nil=>intro _;rfl
 |cons x l i=>
 intro h
 let⟨a,b,x⟩:=x
 simp only[o5];rw[jh (λt j=>h t (by simp[CZ,j])),i (λt j=>h t (by simp[CZ,j]))]
def FH{dY:Bool}{H:eM}{o:jI}(h:∀t∈o.Z,F.dZ t=F'.dZ t):fG G dY F H o=fG G dY F' H o:=by
 cases o<;>simp only[jI.Z,jf]at h<;>simp only[fG]
 case iA x=>rw[jh h]
 case pick c a b=>rw[jh (x:=c) λt j=>h t (.inl (.inl j)),jh (x:=a) λt j=>h t (.inl (.inr j)),jh (x:=b) λt j=>h t (.inr j)]
 case box x=>rw[jh h]
 case build z ps=>rw[OX h]
 case lit a b z ps=>rw[OX h]
 case load n x=>rw[jh h]
 case store n a x=>rw[jh (x:=a) λt j=>h t (.inl j),jh (x:=x) λt j=>h t (.inr j)]
 case pL x=>rw[jh h]
 case gy op k l x y=>rw[jh (x:=x) λt j=>h t (.inl j),jh (x:=y) λt j=>h t (.inr j)]
 case un op x=>rw[jh h]
 case conv k x=>rw[jh h]
 case rp t x=>rw[jh h]
 case rq f a b=>rw[C0 (l:=a) λt j=>h t (.inl j),C0 (l:=b) λt j=>h t (.inr j)]
 case tG z a b l c=>rw[jh (x:=l) λt j=>h t (.inl j),jh (x:=c) λt j=>h t (.inr j)]
 case slice k x a b c=>rw[jh (x:=x) λt j=>h t (.inl (.inl (.inl j))),J3 (x:=a) λt j=>h t (.inl (.inl (.inr j))),J3 (x:=b) λt j=>h t (.inl (.inr j)),J3 (x:=c) λt j=>h t (.inr j)]
 case oJ n x=>rw[jh h]
 case field a n x=>rw[jh h]
 case lj k x i=>rw[jh (x:=x) λt j=>h t (.inl j),jh (x:=i) λt j=>h t (.inr j)]
 case tH x i=>rw[jh (x:=x) λt j=>h t (.inl j),jh (x:=i) λt j=>h t (.inr j)]
 case xY a b n x i=>rw[jh (x:=x) λt j=>h t (.inl j),jh (x:=i) λt j=>h t (.inr j)]
 case look k z x i ok=>rw[jh (x:=x) λt j=>h t (.inl j),jh (x:=i) λt j=>h t (.inr j)]
 case p9 k m a b=>rw[jh (x:=m) λt j=>h t (.inl (.inl j)),jh (x:=a) λt j=>h t (.inl (.inr j)),jh (x:=b) λt j=>h t (.inr j)]
 case Jq k z m a=>rw[jh (x:=m) λt j=>h t (.inl j),jh (x:=a) λt j=>h t (.inr j)]
 case Jr m a b=>rw[jh (x:=m) λt j=>h t (.inl (.inl j)),jh (x:=a) λt j=>h t (.inl (.inr j)),jh (x:=b) λt j=>h t (.inr j)]
 case Aj x=>rw[jh h]
 case Ak x=>rw[jh h]
 case wq x=>rw[jh h]
 case uL x=>rw[jh h]
 case entry x=>rw[jh h]
 case extract x i=>rw[jh h]
 case call f l=>rw[C0 h]
 case rr x l=>rw[jh (x:=x) λt j=>h t (.inl j),C0 (l:=l) λt j=>h t (.inr j)]
 case bi b l=>rw[C0 h]
end
def f8.Z(o:f8):L S:=
 match o.guard with
 |some (some g,_)=>g::o.op.Z
 | _=>o.op.Z
def jI.W:jI->Bool
 |.iA _ |.pick .. |.build .. |.load .. |.pL _ |.gy .. |.un .. |.conv .. |.rp .. |.rq .. |.slice .. |.oJ .. |.field .. |.lj .. |.tH .. |.xY .. |.look .. |.extract .. =>dT
 |.bi b _=>match b with|.CI|.nO|.Fa|.cap|.min|.max=>dT| _=>dU
 |.lit .. =>dT
 | _=>dU
def jI.pQ:jI->Bool
 |.iA _ |.pick .. |.build .. |.pL _ |.un .. |.rp .. |.rq .. |.oJ .. |.field .. |.tH .. |.xY .. |.extract .. |.lj .. |.lit .. =>dT
 |.conv (.wp _) _=>dT
 |.slice .J .. =>dT
 |.gy _ (.one .int) _ _ _ |.gy _ (.one .J) _ _ _ |.gy _ (.one .bool) _ _ _=>dT
 |.bi .CI _ |.bi .nO _=>dT
 | _=>dU
def Ym{G:ez}{H H':eM}{op:BinOp}{k:EK}{lit:Bool}{x y:A}(h:k=.int\/k=.J\/k=.bool):o6 G H op (.one k) lit x y=o6 G H' op (.one k) lit x y:=by
 have e:∀x y,jj G H lit k x y=jj G H' lit k x y:=by intro x y;obtain rfl|rfl|rfl:=h<;>cases x<;>cases y<;>rfl
 unfold o6;split
 .rfl
 .rfl
 split
 .simp only[nM,e]
 .simp only[nM,e]
 rfl
def Yn{G:ez}{dY:Bool}{F:T A}{H H':eM}{o:jI}(h:o.pQ=dT):fG G dY F H o=fG G dY F H' o:=by
 cases o<;>first|rfl|(simp[jI.pQ]at h;done)|skip
 .rename_i op c lit x y;cases c<;>first|(simp[jI.pQ]at h;done)|skip
  rename_i k;have P:k=.int\/k=.J\/k=.bool:=by cases k<;>simp[jI.pQ]at h⊢
  simp only[fG,Ym (H:=H) (H':=H') P]
 .rename_i k x;cases k<;>first|(simp[jI.pQ]at h;done)|skip
  simp only[fG];congr 1;funext a;cases a<;>rfl
 .rename_i k x e C f;cases k<;>first|(simp[jI.pQ]at h;done)|skip
  simp only[fG];congr 1;funext v;congr 1;funext lo';congr 1;funext hi';congr 1;funext mx';cases v<;>rfl
 rename_i b l;cases b<;>first|(simp[jI.pQ]at h;done)|skip
 all_goals
  simp only[fG];congr 1;funext d;obtain _ |⟨v,_ |⟨w,l⟩⟩:=d
  .rfl
  .cases v<;>rfl
  cases v<;>rfl
def lL(G:ez)(o:f8)(F:T A)(H:eM):Option A:=
 match o.guard with
 |none=>(fG G o.dY F H o.op).bind λe=>match e with|.val v=>Y v| _=>J
 |some (none,_)=>Y (.eK [])
 |some (some g,a)=>match F.dZ g with
  |some (.bool b)=>cond (b==a) ((fG G o.dY F H o.op).bind λe=>match e with|.val v=>Y v| _=>J) (Y (.eK []))
  |some (.eK _)=>Y (.eK [])
  | _=>J
def AG{G:ez}{o:f8}{F F':T A}(h:∀t∈o.Z,F.dZ t=F'.dZ t):lL G o F H=lL G o F' H:=by
 unfold lL;unfold f8.Z at h;cases hg:o.guard with
 |none=>rw[hg]at h;dsimp only at h⊢;rw[FH h]
 |some b=>
 let⟨g,a⟩:=b
 cases g with
 |none=>rfl
 |some g=>rw[hg]at h;dsimp only at h⊢;rw[h g (by simp),FH λt j=>h t (by simp[j])]
def Yo{G:ez}{o:f8}{F:T A}{H H':eM}(h:o.op.pQ=dT):lL G o F H=lL G o F H':=by unfold lL;rw[Yn (H:=H) (H':=H') h]
def f8.W(o:f8):Bool:=o.op.W&& !o.dY&&o.dst.isSome
def gf(m i:Nat):Bool:=m.testBit i
def jY(z:L Nat)(i:Nat):Nat:=z.getD i 0
def tV(z:L Nat):L Nat->Nat
 |[]=>0
 |k::l=>2^k|||jY z k|||tV z l
def OY(z:L Nat)(i:Nat):Option Nat->Bool
 |none=>dT
 |some c=>gf (jY z i) c
def pc(F:L f8)(z:L Nat):L Nat->Nat->Option Nat->Bool
 |[],done,_=>Nat.beq (done+1) (2^O F)
 |i::kZ,done,last=>
 match F[i]? with
 |none=>dU
 |some o=> !gf done i&&o.ka.all (gf done)&&Nat.beq (jY z i|||tV z o.ka) (tV z o.ka)&&OY z i last&&
   pc F z kZ (done|||2^i) (cond o.W last (Y i))
def AH(p:S):L S->Bool
 |[]=>dU
 |q::l=>cond (jT p q) dT (AH p l)
def FI(z:L Nat)(i j:Nat)(a b:f8):Bool:=
 match a.dst with
 |none=>dT
 |some t=>
 cond (Nat.beq i j) (!(a.W&&AH t a.Z))
  ((match b.dst with|none=>dT|some u=> !jT t u)&&
   cond (AH t b.Z) (gf (jY z j) i||(!a.W&&gf (jY z i) j)) dT)
def J4(F:L f8)(z:L Nat):Bool:=F.zipIdx.all λa=>F.zipIdx.all λb=>FI z a.2 b.2 a.1 b.1
def FJ(r z:L Nat)(F:L f8):Bool:=pc F z r 0 J&&J4 F z
section
variable(P:Program)(G:ez)
def C1(o:f8)(F:T A)(H:eM)(K:A->Prop):Prop:=
 match o with
 |⟨_,op,dY,guard,_⟩=>
 match guard with
 |none=>im (fA G dY F H op) λe=>match e with|.val v=>K v| _=>False
 |some (none,_)=>K (.eK [])
 |some (some g,a)=>match F.dZ g with
  |some (.bool b)=>(match a with
   |true=>wA b (im (fA G dY F H op) λe=>match e with|.val v=>K v| _=>False) (K (.eK []))
   |false=>wA b (K (.eK [])) (im (fA G dY F H op) λe=>match e with|.val v=>K v| _=>False))
  |some (.eK _)=>K (.eK [])
  | _=>False
def qT{o:f8}{F:T A}{K:A->Prop}:C1 G o F H K=im (lL G o F H) K:=by
 let⟨d,op,dY,guard,a⟩:=o
 have c:(im (fA G dY F H op) λe=>match e with|.val v=>K v| _=>False)=im ((fG G dY F H op).bind λe=>match e with|.val v=>Y v| _=>J) K:=by
  rw[CX];cases fG G dY F H op with
  |none=>rfl
  |some e=>cases e<;>rfl
 unfold C1 lL;cases guard with
 |none=>exact c
 |some f=>
 let⟨g,want⟩:=f
 cases g with
 |none=>rfl
 |some g=>dsimp only;rw[c];exact MY
def oz(a:L f8):L Nat->St->Prop->Prop
 |[],_,k=>k
 |j::l,⟨F,D,H⟩,k=>match a[j]? with
  |none=>False
  |some o=>match o.op.pQ with
   |true=>oz a l ⟨F,D,H⟩ k
   |false=>match o.dst with
    |none=>False
    |some d=>im (F.dZ d) λu=>C1 G o F H λv=>v=u/\oz a l ⟨F,D,H⟩ k
def oN(d:Bool)(a:L f8)(z:L Nat):L Nat->L Nat->(St->Prop)->St->Prop
 |[],_,K,s=>K s
 |i::kZ,pend,K,s=>match a[i]? with
  |none=>False
  |some o=>match o.W with
   |true=>match s with|⟨F,D,⟨m,n⟩⟩=>C1 G o F ⟨m,n⟩ λv=>nV o.dst F D m n v λb=>oN d a z kZ (i::pend) K b
   |false=>match s with|⟨F,D,⟨m,n⟩⟩=>yq P G d o F D m n λb=>oz G a (pend.filter λj=> !gf (jY z i) j) b (oN d a z kZ (pend.filter λj=> !gf (jY z i) j) K b)
end
section
variable{P:Program}{G:ez}
def J5{c:L f8}:∀{l:L Nat}{s:St}{k m:Prop},oz G c l s k->(k->m)->oz G c l s m:=by
 intro l;induction l with
 |nil=>intro s k m h b;exact b h
 |cons j l i=>
 intro s k m h b
 let⟨F,D,H⟩:=s
 unfold oz at h⊢;cases ho:c[j]? with
 |none=>rw[ho]at h;exact h.elim
 |some o=>
 rw[ho]at h;dsimp only at h⊢;cases hf:o.op.pQ
 .rw[hf]at h;dsimp only at h⊢;cases hd:o.dst with
  |none=>rw[hd]at h;exact h.elim
  |some d=>rw[hd]at h;simp only[qT]at h⊢;exact tM h λu Q=>tM Q λv a=>⟨a.1,i a.2 b⟩
 rw[hf]at h;exact i h b
def Yp:∀{r a:L Nat}{K C:St->Prop}{s:St},oN P G d b z r a K s->(∀s,K s->C s)->oN P G d b z r a C s:=by
 intro r;induction r with
 |nil=>intro a K C s h hk;exact hk _ h
 |cons i r ih=>
 intro a K C s h hk
 let⟨F,D,⟨m,n⟩⟩:=s
 unfold oN at h⊢;cases ho:b[i]? with
 |none=>rw[ho]at h;exact h.elim
 |some o=>
 rw[ho]at h;dsimp only at h⊢;cases hq:o.W
 .rw[hq]at h;exact Vn
 rw[hq]at h;dsimp only at h⊢;rw[qT]at h⊢;exact ML
def FK{s:St}{k:Prop}:oz G a l s k↔oz G a l s True/\k:=by
 induction l with
 |nil=>simp[oz]
 |cons j l i=>
 let⟨F,D,H⟩:=s
 unfold oz;cases a[j]? with
 |none=>simp
 |some o=>
 dsimp only;cases o.op.pQ
 .dsimp only;cases o.dst with
  |none=>simp
  |some d=>
  dsimp only;simp only[qT,lK];constructor
  .rintro⟨u,K,v,r,m,E⟩;exact⟨⟨u,K,v,r,m,(i.1 E).1⟩,(i.1 E).2⟩
  rintro⟨⟨u,K,v,r,m,E⟩,b⟩;exact⟨u,K,v,r,m,i.2 ⟨E,b⟩⟩
 exact i
def Yq:∀{r a:L Nat}{K:St->Prop}{s:St},oN P G dT d z r a K s->∃j,K j/\oN P G dU d z r a (λt=>t=j) s:=by
 intro r;induction r with
 |nil=>intro a K s h;exact⟨s,h,Z⟩
 |cons i r g=>
 intro a K s h
 let⟨F,D,⟨m,n⟩⟩:=s
 unfold oN at h⊢;cases ho:d[i]? with
 |none=>rw[ho]at h;exact h.elim
 |some o=>
 rw[ho]at h;dsimp only at h⊢;cases hq:o.W
 .rw[hq]at h;dsimp only at h⊢;rw[sC]at h;obtain⟨c,e,b⟩:=OK h;obtain⟨f,E⟩:=FK.1 e;obtain⟨j,H,k⟩:=g E;refine⟨j,H,?_⟩;rw[sC];refine tQ b ?_;rintro t rfl;exact FK.2 ⟨f,k⟩
 rw[hq]at h;dsimp only at h⊢;rw[qT]at h;obtain⟨v,e,b⟩:=lK.1 h;rw[o8 (s:=⟨F,D,⟨m,n⟩⟩) Z Z Z]at b;obtain⟨j,f,E⟩:=g b;refine⟨j,f,?_⟩;rw[qT];refine fH e ?_;rw[o8 (s:=⟨F,D,⟨m,n⟩⟩) Z Z Z];exact E
end
def qh{m i j:Nat}:gf (m|||2^i) j=(gf m j||decide (i=j)):=by simp only[gf,xv,Nat.testBit_two_pow]
section
variable{as:List f8}{ms:List Nat}
def yv(as:L f8)(b:Nat->Bool):Prop:=∀i a,as[i]? =Y a->b i=dT->∀k∈a.ka,b k=dT
def sE(as:L f8)(ms:L Nat)(i:Nat):Prop:=∀a,as[i]? =Y a->∀b,yv as b->(∀k∈a.ka,b k=dT)->∀j,gf (jY ms i) j=dT->b j=dT
def OZ:∀{l:L Nat}{j:Nat},gf (tV ms l) j=dT->∃k∈l,k=j\/gf (jY ms k) j=dT:=by
 intro l;induction l with
 |nil=>intro j h;simp[tV,gf]at h
 |cons k l i=>
 intro j h;simp only[tV,gf,xv,Nat.testBit_two_pow,ux,oh]at h;rcases h with(h|h)|h
 .exact⟨k,ei,.inl h⟩
 .exact⟨k,ei,.inr h⟩
 obtain⟨m,K,r⟩:=i h;exact⟨m,by simp[K],r⟩
def vy{i:Nat}(h:pc as ms (i::r) E b=dT):
  ∃a,as[i]? =Y a/\gf E i=dU/\(∀k∈a.ka,gf E k=dT)/\(∀j,gf (jY ms i) j=dT->gf (tV ms a.ka) j=dT)/\OY ms i b=dT/\pc as ms r (E|||2^i) (cond a.W b (Y i))=dT:=by
 unfold pc at h;cases ha:as[i]? with
 |none=>rw[ha]at h;cases h
 |some a=>
 rw[ha]at h;simp only[jC,Cr,lf]at h
 let⟨⟨⟨⟨K,c⟩,m⟩,d⟩,H⟩:=h
 refine⟨a,Z,K,c,λj e=>?_,d,H⟩;have m:=iZ m;rw[<-m];simp only[gf,xv,ux];exact .inl e
def O0:∀{r:L Nat}{E:Nat}{b:Option Nat},pc as ms r E b=dT->∀i,i<O as->gf E i=dT\/i∈r:=by
 intro r;induction r with
 |nil=>intro E b h i hi;unfold pc at h;exact Sw
 |cons k r ih=>intro E b h i hi;obtain⟨a,_,_,_,_,_,h5⟩:=vy h;exact Ub
def O1:∀{r:L Nat}{E:Nat}{b:Option Nat}{q:Nat},pc as ms r E b=dT->O as<=q->gf E q=dT->False:=by
 intro r;induction r with
 |nil=>intro E b q h t hb;unfold pc at h;exact SQ
 |cons k r i=>intro E b q h t hb;obtain⟨a,_,_,_,_,_,H⟩:=vy h;exact i H t (by rw[qh];simp[hb])
def O2:∀{r:L Nat}{E:Nat}{d:Option Nat},pc as ms r E d=dT->(∀i,gf E i=dT->sE as ms i)->∀i∈r,sE as ms i:=by
 intro r;induction r with
 |nil=>intro E d _ _ i hi;cases hi
 |cons k r ih=>
 intro E d h hE i hi;obtain⟨a,v,_,s,f,_,h5⟩:=vy h;have hk:sE as ms k:=by
  intro b p u o l j hj;rw[v]at p;cases p;obtain⟨q,t,g⟩:=OZ (f j hj);obtain rfl|g:=g
  .exact l q t
  
  have n:=hE q (s q t);cases e:as[q]? with
  |none=>
   have m:q<O as:=by
    obtain h|h:=kG q (O as)
    .exact h
    exact(O1 h5 h (by rw[qh];simp[s q t])).elim
   rw[jq m]at e;cases e
  |some c=>exact n c e u o (o q c e (l q t)) j g
 exact Ih
def Yr:∀{r:L Nat}{E c:Nat},pc as ms r E (Y c)=dT->∀i∈r,∃o,gf (jY ms i) o=dT/\(o=c\/(o∈r/\∃a,as[o]? =Y a/\a.W=dU)):=by
 intro r;induction r with
 |nil=>intro E c _ i C;cases C
 |cons k r d=>
 intro E c h i C;obtain⟨a,e,_,_,_,f,H⟩:=vy h;obtain rfl|C:=eZ.1 C
 .exact⟨c,f,.inl Z⟩
 cases hq:a.W
 .rw[hq]at H;obtain⟨o,K,b⟩:=d H i C;obtain rfl|⟨b,m⟩:=b
  .exact⟨o,K,.inr ⟨ei,a,e,hq⟩⟩
  exact⟨o,K,.inr ⟨by simp[b],m⟩⟩
 rw[hq]at H;obtain⟨o,K,b⟩:=d H i C;obtain b|⟨b,m⟩:=b
 .exact⟨o,K,.inl b⟩
 exact⟨o,K,.inr ⟨by simp[b],m⟩⟩
def Ys{La:Nat->Bool}(hno:∀i a,as[i]? =Y a->La i=dU->∃k∈a.ka,La k=dU):∀{r:L Nat}{E:Nat}{b:Option Nat},pc as ms r E b=dT->(∀i,gf E i=dT->La i=dT)->∀i∈r,La i=dT:=by
 intro r;induction r with
 |nil=>intro E b _ _ i hi;cases hi
 |cons k r ih=>intro E b h hE i hi;obtain⟨a,ha,_,hd,_,_,h5⟩:=vy h;have hk:La k=dT:=Ut;exact Ih
def O3{p:S}:∀{l:L S},AH p l=dT↔p∈l:=by
 intro l;induction l with
 |nil=>simp[AH]
 |cons q l i=>
 simp only[AH,mA];by_cases h:p=q
 .simp[h]
 simp[h,i]
structure vz (as:List f8)(ms:List Nat):Prop where
 own:∀(i:Nat)(a:f8)(t:S),as[i]? =some a→a.dst=some t→a.W=true→t∉a.Z
 AI:∀(i j:Nat)(a b:f8)(t:S),i≠j→as[i]? =some a→as[j]? =some b→a.dst=some t→b.dst≠some t∧(t∈b.Z→gf (jY ms j) i=true∨(a.W=false∧gf (jY ms i) j=true))
def O4(h:J4 as ms=dT):vz as ms:=by
 have k:∀i j a b,as[i]? =Y a->as[j]? =Y b->FI ms i j a b=dT:=by intro i j a b c d;have K:=lf.1 h (a,i) (Ny.2 Jf);exact lf.1 K (b,j) (Ny.2 zZ)
 refine⟨λi a t c g m f=>?_,λi j a b t l c d g=>?_⟩
 .have:=k i i a a c c;simp only[FI,g,qA,gZ,m,Bool.true_and,Cr]at this;rw[O3.2 f]at this;cases this
 have:=k i j a b c d;have y:Nat.beq i j=dU:=by rw[pB,ne_eq,nr];exact l
 simp only[FI,g,y,jx,jC]at this
 let⟨K,r⟩:=this
 refine⟨λe=>?_,λf=>?_⟩
 .rw[e]at K;simp only[Cr,mA,decide_eq_false_iff_not]at K;exact K eR
 rw[O3.2 f]at r;simp only[gZ,ux,jC,Cr]at r;exact r
end
section
variable{P:Program}{G:ez}
def O5{F:T A}{D:L S}{K:St->Prop}(c:lL G a F H=Y v)(h:K (St.I ⟨F,D,H⟩ a.dst v H)):mB P G dU a ⟨F,D,H⟩ K:=by
 unfold lL at c;unfold mB;have f:((fG G a.dY F H a.op).bind λe=>match e with|.val v=>Y v| _=>J)=Y v->im (fG G a.dY F H a.op) (ln P G dU a.dst ⟨F,D,H⟩ K):=by
  intro c;obtain⟨e,i,c⟩:=fS.1 c;refine fH i ?_;cases e<;>try(cases c;done)
  cases c;exact h
 cases hg:a.guard with
 |none=>rw[hg]at c;exact f c
 |some j=>
 let⟨g,d⟩:=j
 rw[hg]at c;cases g with
 |none=>cases c;exact h
 |some g=>
 dsimp only at c⊢;cases hF:F.dZ g with
 |none=>rw[hF]at c;cases c
 |some u=>
 rw[hF]at c;cases u<;>try(cases c;done)
 .rename_i b;dsimp only at c⊢;cases hb:(b==d)
  .rw[hb]at c;cases c;exact h
  rw[hb]at c;exact f c
 cases c;exact h
def O6{a:f8}{F F':T A}{D:List S}{H:eM}{K:St->Prop}(h:mB P G dU a ⟨F,D,H⟩ K)(he:∀t∈a.Z,F'.dZ t=F.dZ t):
  mB P G dU a ⟨F',D,H⟩ (λs=>∃v H',s=St.I ⟨F',D,H⟩ a.dst v H'/\K (St.I ⟨F,D,H⟩ a.dst v H')):=by
 have step:∀e,ln P G dU a.dst ⟨F,D,H⟩ K e->ln P G dU a.dst ⟨F',D,H⟩ (λs=>∃v H',s=St.I ⟨F',D,H⟩ a.dst v H'/\K (St.I ⟨F,D,H⟩ a.dst v H')) e:=by
  intro e h;unfold ln at h⊢;cases e with
  |val v=>exact⟨_,_,Z,h⟩
  |call f args=>exact fK.mono h λr H' hk=>⟨_,_,Z,hk⟩
  |yield l args=>exact jy.mono h λr H' hk=>⟨_,_,Z,hk⟩
  |any l p=>exact λx hx=>⟨_,_,Z,h x hx⟩
  | _=>exact tM h λr hk=>⟨_,_,Z,hk⟩
 unfold mB at h⊢;unfold f8.Z at he;cases hg:a.guard with
 |none=>rw[hg]at h he;dsimp only at h he⊢;rw[FH he];exact tM h step
 |some jw=>
 obtain⟨g,want⟩:=jw;rw[hg]at h he;cases g with
 |none=>exact⟨_,_,Z,h⟩
 |some g=>
 dsimp only at h he⊢;rw[he g (by simp),FH (G:=G) (dY:=a.dY) (H:=H) (o:=a.op) λt ht=>he t (by simp[ht])];cases hF:F.dZ g with
 |none=>rw[hF]at h;exact h.elim
 |some u=>
 rw[hF]at h;cases u<;>try exact h.elim
 .rename_i b;dsimp only at h⊢;cases hb:(b==want)
  .rw[hb]at h;exact⟨_,_,Z,h⟩
  rw[hb]at h;exact tM h step
 exact⟨_,_,Z,h⟩
def Yt:∀{l:L Nat}{s:St},oz G a l s True->∀j∈l,∃o,a[j]? =Y o/\(o.op.pQ=dT\/∃d v,o.dst=Y d/\s.F.dZ d=Y v/\lL G o s.F s.H=Y v):=by
 intro l;induction l with
 |nil=>intro s _ j e;cases e
 |cons i l b=>
 intro s h j e
 let⟨F,D,H⟩:=s
 unfold oz at h;cases ho:a[i]? with
 |none=>rw[ho]at h;exact h.elim
 |some o=>
 rw[ho]at h;dsimp only at h;cases hf:o.op.pQ
 .rw[hf]at h;dsimp only at h;cases hd:o.dst with
  |none=>rw[hd]at h;exact h.elim
  |some d=>
  rw[hd]at h;obtain⟨u,K,h⟩:=lK.1 h;rw[qT]at h;obtain⟨v,r,m,E⟩:=lK.1 h;subst m;obtain rfl|e:=eZ.1 e
  .exact⟨o,ho,.inr ⟨d,_,hd,K,r⟩⟩
  exact b E j e
 rw[hf]at h;obtain rfl|e:=eZ.1 e
 .exact⟨o,ho,.inl hf⟩
 exact b h j e
structure sF (P:Program)(G:ez)(as:List f8)(ms:List Nat)(K:St→Prop)(L:Nat→Bool)(rest pend:List Nat)(E:Nat)(last:Option Nat)(r c:St):Prop where
 mW:pc as ms rest E last=true
 sub:∀i,L i=true→gf E i=true
 pR:∀i a,as[i]? =some a→gf E i=true→a.W=false→L i=true
 closed:yv as L
 tW:yv as (gf E)
 wE:∀i,gf E i=true→sE as ms i
 vB:∀i a,as[i]? =some a→gf E i=true→L i=false→i∈pend∧∃d v,a.dst=some d∧c.F.dZ d=some v∧lL G a c.F c.H=some v
 yw:∀t,(∀i a,as[i]? =some a→gf E i=true→L i=false→a.dst≠some t)→r.F.dZ t=c.F.dZ t
 jk:oN P G false as ms rest pend K c
 fX:r.D=c.D
 heap:r.H=c.H
def O7{a:f8}(h:a.W=dT):∃d,a.dst=Y d:=by unfold f8.W at h;simp only[jC]at h;exact oW.1 h.2
def vA{s:St}{d t:S}:(s.I (Y d) v H).F.dZ t=if t=d then Y v else s.F.dZ t:=by simp only[St.I,T.jr]
def sF.C2{K:St->Prop}(hp:vz y z):∀{f pend:L Nat}{La:Nat->Bool}{E:Nat}{q:Option Nat}{r c:St},sF P G y z K La f pend E q r c->
  ∃u x N w o,sF P G y z K La u x N w r o/\(u=[]\/∃i l a,u=i::l/\y[i]? =Y a/\a.W=dU):=by
 intro f;induction f with
 |nil=>intro pend La E q r c h;exact⟨[],pend,E,q,c,h,.inl Z⟩
 |cons i f ih=>
 intro pend La E q r c h;obtain⟨a,ha,hE,hdep,hm,_,I⟩:=vy h.mW;cases hq:a.W
 .exact⟨i::f,pend,E,q,c,h,.inr ⟨i,f,a,Z,ha,hq⟩⟩
 rw[hq]at I;have hd:=h.jk
 let⟨F,D,⟨m,n⟩⟩:=c
 unfold oN at hd;rw[ha]at hd;simp only[hq]at hd;rw[qT]at hd;obtain⟨v,hv,hd⟩:=lK.1 hd;obtain⟨d,hdst⟩:=O7 hq;refine VF λhd hbit hown=>?_;refine ih (pend:=i::pend) (E:=E|||2^i) (c:=St.I ⟨F,D,⟨m,n⟩⟩ (Y d) v ⟨m,n⟩) ⟨I,λj hj=>?_,λj b hb hj hbq=>?_,h.closed,λj b hb hj k hk=>?_,λj hj=>?_,λj b hb hj hL=>?_,λt ht=>?_,hd,h.fX,h.heap⟩
 .rw[qh,h.sub j hj];rfl
 .exact Tp
 .exact IL
 .obtain hj|rfl:=hbit j hj
  .exact h.wE j hj
  exact O2 h.mW h.wE j ei
 .obtain hj|rfl:=hbit j hj
  .obtain⟨U,Q,vj,C,W,h4⟩:=h.vB j b hb hj hL;have B:i≠j:=λe=>by subst e;rw[hE]at hj;cases hj
   obtain⟨p,R⟩:=hp.AI i j a b d B ha hb hdst;refine⟨by simp[U],Q,vj,C,?_,?_⟩
   .rw[vA,gj (λe=>p (by rw[C,e]))];exact W
   rw[show lL G b (St.I ⟨F,D,⟨m,n⟩⟩ (Y d) v ⟨m,n⟩).F (St.I ⟨F,D,⟨m,n⟩⟩ (Y d) v ⟨m,n⟩).H=lL G b F ⟨m,n⟩from ?_]
   .exact h4
   refine AG λt ht=>?_;rw[vA];split
   .rename_i e;subst e;obtain g|⟨g,_⟩:=R ht
    .exact VJ
    rw[hq]at g;cases g
   rfl
  exact UB
 exact TL
end
section
variable{P:Program}{G:ez}
def sF.take{K:St->Prop}(hp:vz N z){rest w:L Nat}{La:Nat->Bool}{r c:St}(h:sF P G N z K La rest w E u r c)
  (hh:rest=[]\/∃i l a,rest=i::l/\N[i]? =Y a/\a.W=dU){i:Nat}(ha:N[i]? =Y a)(hL:La i=dU)(hdeps:∀k∈a.ka,La k=dT)(L':Nat->Bool)(hL':∀j,L' j=dT↔La j=dT\/j=i):
  mB P G dU a r (λr'=>∃rest w E u c,sF P G N z K L' rest w E u r' c/\(rest=[]\/∃i l a,rest=i::l/\N[i]? =Y a/\a.W=dU)):=by
 have hlt:i<O N:=HW;have hLf:∀j,L' j=dU->La j=dU/\j≠i:=SZ;have B:yv N L':=TB
 let⟨rF,rD,rH⟩:=r
 have C:=h.fX;have y:=h.heap;dsimp only at C y;have I:(gf E i=dT->a.W=dT)->sE N z i->∀t∈a.Z,rF.dZ t=c.F.dZ t:=by
  intro hqE p t ht;refine h.yw t λj b hb hj hLj e=>?_;have hqb:b.W=dT:=UZ;by_cases hji:j=i
  .exact SG
  rcases(hp.AI j i b a t hji hb ha e).2 ht with g|⟨g,_⟩
  .rw[p a ha La h.closed hdeps j g]at hLj;cases hLj
  rw[hqb]at g;cases g
 by_cases hE:gf E i=dT
 ·
  have hq:a.W=dT:=SJ;obtain⟨h1,d,v,h2,h3,h4⟩:=h.vB i a ha hE hL;have U:=I (λ_=>hq) (h.wE i hE);have hv:lL G a rF rH=Y v:=by rw[AG U,y];exact h4
  refine O5 hv ⟨rest,w,E,u,c,⟨h.mW,λj hj=>?_,λj b hb hj Q=>(hL' j).2 (.inl (h.pR j b hb hj Q)),B,h.tW,h.wE,λj b hb hj hLj=>h.vB j b hb hj (hLf j hLj).1,λt ht=>?_,h.jk,(by rw[h2];exact h.fX),(by rw[h2];exact h.heap)⟩,hh⟩
  .rcases(hL' j).1 hj with hj|rfl
   .exact h.sub j hj
   exact hE
  exact TN
 
 have hE:gf E i=dU:=by simpa using hE
 have H:i∈rest:=(O0 h.mW i hlt).resolve_left (by rw[hE];simp);have p:=O2 h.mW h.wE i H;obtain rfl|⟨q,l,b,rfl,hb,Q⟩:=hh
 .cases H
 obtain⟨b',hb',hqE,hdep,_,_,h5⟩:=vy h.mW;rw[hb]at hb';cases hb';rw[Q]at h5;have unl:∀j,j∈q::l->(∃x,N[j]? =Y x/\x.W=dU)->La j=dU:=by
  intro j hj _;cases hLj:La j
  .rfl
  have hjE:=h.sub j hLj;have:∀{R:L Nat}{E:Nat}{u:Option Nat},pc N z R E u=dT->gf E j=dT->j∉R:=by
   intro R;induction R with
   |nil=>intro E u _ _ f;cases f
   |cons k R ih=>
   intro E u hc hbE f;obtain⟨_,_,hk,_,_,_,h6⟩:=vy hc;obtain rfl|f:=eZ.1 f
   .rw[hbE]at hk;cases hk
   exact ih h6 (by rw[qh,hbE];rfl) f
  exact absurd hj (this h.mW hjE)
 have hiq:i=q:=by
  obtain e|hil:=eZ.1 H
  .exact e
  obtain⟨c',g1,g2⟩:=Yr h5 i hil;have W:=p a ha La h.closed hdeps c' g1;obtain rfl|⟨g2,g3⟩:=g2
  .rw[unl c' (by simp) ⟨b,hb,Q⟩]at W;cases W
  rw[unl c' (by simp[g2]) g3]at W;cases W
 subst hiq;rw[ha]at hb;cases hb;have U:=I (λe=>by rw[hE]at e;cases e) p;have hd:=h.jk
 let⟨F,D,⟨m,n⟩⟩:=c
 dsimp only at C y U;subst C y;unfold oN at hd;rw[ha]at hd;simp only[Q]at hd;rw[sC]at hd;refine tQ (O6 (F':=rF) hd U) ?_;rintro s ⟨v,H',rfl,hk⟩;obtain⟨hreck,hk⟩:=FK.1 hk;have hbit:∀j,gf (E|||2^i) j=dT->gf E j=dT\/j=i:=M7;refine VU λputF=>?_;have sim:sF P G N z K L' l (w.filter λj=> !gf (jY z i) j) (E|||2^i) (Y i) (St.I ⟨rF,rD,⟨m,n⟩⟩ a.dst v H') (St.I ⟨F,rD,⟨m,n⟩⟩ a.dst v H'):=by
  refine⟨h5,λj hj=>?_,λj b hb hj hbq'=>?_,B,λj b hb hj k hk=>?_,λj hj=>?_,λj b hb hj hLj=>?_,λt ht=>?_,hk,?_,?_⟩
  .exact Us
  .exact TG
  .exact IL
  .obtain hj|rfl:=hbit j hj
   .exact h.wE j hj
   exact p
  .obtain⟨hLj,hji⟩:=hLf j hLj;have hj:=(hbit j hj).resolve_right hji;obtain⟨h1,dj,vj,h2,h3,h4⟩:=h.vB j b hb hj hLj;have hnm:gf (jY z i) j=dU:=by
    cases f:gf (jY z i) j
    .rfl
    rw[p a ha La h.closed hdeps j f]at hLj;cases hLj
   have hin:j∈w.filter λj=> !gf (jY z i) j:=BW.2 ⟨h1,by rw[hnm];rfl⟩;refine⟨hin,?_⟩;have hdd:∀d,a.dst=Y d->b.dst≠Y d/\d∉b.Z:=by
    intro d hd;obtain⟨g1,g2⟩:=hp.AI i j a b d (mO hji) ha hb hd;refine⟨g1,λht=>?_⟩;obtain g|⟨_,g⟩:=g2 ht
    .exact VJ
    rw[hnm]at g;cases g
   exact Sn
  .exact Ue
  .cases a.dst<;>rfl
  cases a.dst<;>rfl
 obtain⟨rest',pend',E',last',c',hs,hh'⟩:=sim.C2 hp;exact⟨rest',pend',E',last',c',hs,hh'⟩
end
section
variable{P:Program}{G:ez}{R:Option S}{N:Nat}
def me(l:Array Bool)(i:Nat):Bool:=l.getD i dU
def AJ(l:Array Bool):Nat:=l.toList.countP (λb=> !b)
def O8{l:Array Bool}{i:Nat}(h:l.getD i dT=dU):AJ (l.setIfInBounds i dT)+1=AJ l:=by
 have C:i<l.size:=by
  obtain n|n:=kG i l.size
  .exact n
  rw[xT,pF n]at h;cases h
 have a:l.toList[i]? =Y dU:=by rw[qx];rw[xT,sg C]at h;rw[sg C];simpa using h
 have k:∀(l:L Bool)(i:Nat),l[i]? =Y dU->(l.set i dT).countP (λb=> !b)+1=l.countP (λb=> !b):=by
  intro l;induction l with
  |nil=>intro i h;simp at h
  |cons b l c=>
  intro i h;cases i with
  |zero=>simp at h;subst h;simp
  |succ i=>simp only[HU,List.countP_cons];have:=c i ly;omega
 unfold AJ;rw[Array.toList_setIfInBounds];exact k _ _ a
def Yu{opsA:Array Oper}{n:L f8}{Q:Exit->St->Prop}{B:Nat->Prop}{F:Fence}{w0:World}{hV:Kx}(hp:vz n z)(p:pc n z H 0 J=dT)(I:opsA.size=O n)
  (hop:∀(i:Nat)(a:f8),n[i]? =Y a->∃o,opsA[i]? =Y o/\u0 P N opsA o a/\a.ka=(o.after.toList.filter (Region.binds .any)).map (·.on)):
  ∀(f:Nat)(l:Array Bool)(r:St)(w:World)(X:Kx)(act:Act),l.size=O n->AJ l<=f->
   (∃b m E g c,sF P G n z (Q .normal) (me l) b m E g r c/\(b=[]\/∃i l a,b=i::l/\n[i]? =Y a/\a.W=dU))->
   fL B w0 hV w X->jd B G N r w X act->tK X R F->
   wpAnyIn F 0 P .any opsA (λe a' w'=>∃s' κ',Q e s'/\fL B w0 hV w' κ'/\jd B G N s' w' κ' a') f l act w:=by
 have dd:∀(l:Array Bool)(i:Nat),i<l.size->l.getD i dT=l.getD i dU:=by intro l i h;simp only[xT,sg h,rd]
 have fin:∀(l:Array Bool)(r:St)(w:World)(X:Kx)(act:Act),l.size=O n->
   (∃b m E g c,sF P G n z (Q .normal) (me l) b m E g r c/\(b=[]\/∃i l a,b=i::l/\n[i]? =Y a/\a.W=dU))->
   fL B w0 hV w X->jd B G N r w X act->Region.ready .any opsA l=[]->∃s' κ',Q .normal s'/\fL B w0 hV w κ'/\jd B G N s' w κ' act:=by
  rintro l r w X act hl ⟨b,m,E,g,c,hs,d⟩ E0 hr hnil;have D:∀(i:Nat)(a:f8),n[i]? =Y a->me l i=dU->∃k∈a.ka,me l k=dU:=Vr;have hall:∀i,i<O n->me l i=dT:=λi hi=>
   Ys D p (λi hi=>by simp[gf]at hi) i ((O0 p i hi).resolve_left (by simp[gf]))
  have hEl:∀i,gf E i=dT->me l i=dT:=by
   intro i hi;obtain h|h:=kG i (O n)
   .exact hall i h
   exact(O1 hs.mW h hi).elim
  have s:b=[]:=by
   obtain h|⟨i,C,a,rfl,ha,hq⟩:=d
   .exact h
   have hL:=hall i (by obtain⟨h,_⟩:=oY.1 ha;exact h)
   have hE:=hs.sub i hL;obtain⟨_,_,hk,_⟩:=vy hs.mW;rw[hE]at hk;cases hk
  subst s;have hd:=hs.jk;unfold oN at hd;exact To
 intro f;induction f with
 |zero=>exact TY
 |succ f ih=>
 intro l r w X act hl hu hs E0 hr hR;refine⟨λhnil=>fin l r w X act hl hs E0 hr hnil,λi hi=>?_⟩;obtain⟨h1,o,ho,hafter⟩:=mem_ready.1 hi;have K:i<opsA.size:=qJ ho;have hlt:i<l.size:=M
 have u:i<O n:=M
 let⟨b,m,E,g,c,y,d⟩:=hs
 obtain⟨U,x,hop',hd⟩:=hop i n[i] (jq u);rw[ho]at x;cases x;have q:∀k∈n[i].ka,me l k=dT:=Tf;have htake:=y.take hp d (jq u) SR q (me (l.setIfInBounds i dT)) (λj=>by
  simp only[me,xT,zG];by_cases e:i=j
  .subst e;simp[hlt]
  rw[gj e];constructor
  .exact λh=>.inl h
  rintro(h|h)
  .exact h
  exact absurd h.symm e)
 exact Uc
def Yv{F:L f8}{K:St->Prop}{s:St}{n:Nat}(hp:vz F z)(e:pc F z r 0 J=dT)(h:oN P G dU F z r [] K s):
  ∃b v E d c,sF P G F z K (me (Array.replicate n dU)) b v E d s c/\(b=[]\/∃i l a,b=i::l/\F[i]? =Y a/\a.W=dU):=by
 refine Uq λhf hb=>?_;have Dy:sF P G F z K (me (Array.replicate n dU)) r [] 0 J s s:=
  ⟨e,λi h=>Ja,λi a _ h=>xG,λi a _ h=>Ja,λi a _ h=>xG,
   λi h=>xG,λi a _ h=>xG,λ_ _=>Z,h,Z,Z⟩
 obtain⟨b,v,E,d,c,f,g⟩:=Dy.C2 hp;exact⟨b,v,E,d,c,f,g⟩
def gJ.jk{s:St}{Q:Exit->St->Prop}{c:Code}{r z e x:L Nat}{q:L f8}(f:P.follows .mixedOrders=dT)(g:FJ r z q=dT)(K:gk P N c=Y (gx.jk e x q).m)(h:oN P G dU q z r [] (Q .normal) s):gJ P G R N c s Q:=by
 unfold FJ at g;simp only[jC]at g;cases c<;>simp[gk,gx.m,fS]at K;rename_i id ops d;cases d
 .simp[gk]at K
 simp only[gk,gA,gx.jk.injEq,true_and]at K
 let⟨l,o,j⟩:=K
 subst j;obtain⟨v,h2⟩:=JS o;have hp:=O4 g.2;have k:ops.size=O q:=by simpa using v
 intro B w m u F t n;refine wpIn_region_any f ?_;refine Yu (w0:=w) (hV:=m) hp g.1 k (λi a ha=>?_) ops.size _ s _ m u Ct ?_ (Yv hp g.1 h) (tA B w m (w.drawn+1)) ⟨t.size,t.heap.drew _,t.tmps.mono (tA B w m (w.drawn+1)),t.fX.mono (tA B w m (w.drawn+1))⟩ n
 .exact TR
 exact Tn
def eT.jk{s:St}{Q:Exit->St->Prop}{F:L f8}(f:P.follows .mixedOrders=dT)(a:FJ r z F=dT)(h:oN P G d F z r [] (Q .normal) s):eT P G d R N (.jk r z F) s Q:=by
 cases d
 .exact .any Z λc K=>gJ.jk f a K h
 obtain⟨j,b,g⟩:=Yq h;exact .one .normal j b λc K=>gJ.jk f a K (Yp g λt e=>⟨Z,e⟩)
end
def C4(l:S)(Q:A->eM->Prop):Exit->St->Prop
 |.normal,⟨_,_,⟨m,n⟩⟩=>match m.dZ l with
  |some (.loop _ _ k F ps as bo d)=>T.ir (Y (.loop .ready J k F ps as bo d)) l m λx=>Q (.bool dT) ⟨x,n⟩
  | _=>False
 |.ret,⟨_,_,⟨m,n⟩⟩=>match m.dZ l with
  |some (.loop _ _ k F ps as bo d)=>T.ir (Y (.loop .done (Y .ret) k F ps as bo d)) l m λx=>Q (.bool dU) ⟨x,n⟩
  | _=>False
 |.exit i,⟨_,_,⟨m,n⟩⟩=>match m.dZ l with
  |some (.loop _ _ k F ps as bo d)=>T.ir (Y (.loop .done (Y (.exit i)) k F ps as bo d)) l m λx=>Q (.bool dU) ⟨x,n⟩
  | _=>False
 |.goto t,⟨_,_,⟨m,n⟩⟩=>match m.dZ l with
  |some (.loop _ _ k F ps as bo d)=>T.ir (Y (.loop .done (Y (.goto t)) k F ps as bo d)) l m λx=>Q (.bool dU) ⟨x,n⟩
  | _=>False
 | _,_=>False
def yx(l:S)(K:St->Prop):St->Prop
 |⟨F,D,⟨m,n⟩⟩=>match m.dZ l with
  |some (.loop .ready pe k F' ps as bo d)=>T.ir (Y (.loop .busy pe k F' ps as bo d)) l m λx=>K ⟨F,D,⟨x,n⟩⟩
  | _=>False
def FL:T A->L Nat->L A->(T A->Prop)->Prop
 |F,t::ps,v::vs,K=>T.ir (Y v) (S.ofNat t) F λa=>FL a ps vs K
 |F,_,_,K=>K F
def O9:∀{a:L Nat}{w:L A}{F:T A}{K:T A->Prop},FL F a w K=K (tL F a w):=by
 intro a;induction a with
 |nil=>intro w F K;cases w<;>rfl
 |cons t a i=>
 intro w F K;cases w with
 |nil=>rfl
 |cons v w=>simp only[FL,tL,T.i6,i]
section
variable{P:Program}{G:ez}
def Pa{Q:A->eM->Prop}{e:Exit}{s:St}(h:C4 l Q e s):JQ l Q e s:=by
 let⟨F,D,⟨m,n⟩⟩:=s
 have a:∀(f:LoopState)(c:Option Code)(b:Bool),(match m.dZ l with
   |some (.loop _ _ k F t i B d)=>T.ir (Y (.loop f c k F t i B d)) l m λx=>Q (.bool b) ⟨x,n⟩
   | _=>False)->∃g,(⟨m,n⟩:eM).rB l f (Y c)=Y g/\Q (.bool b) g:=by
  intro f c b h;split at h
  .rename_i p j k q t i B d o;rw[T.i6]at h;exact⟨_,by simp only[eM.rB,o];rfl,h⟩
  exact h.elim
 cases e<;>first
  |exact a _ _ _ h
  |exact h
def jy.body(E:G.ey=λn c o=>gk P n c=gk P n o){d:Bool}{K:A->eM->Prop}{m:T AO}{nx:S}{n:Nat}{F:T A}{Q g:gx}
  (z:gk P n as=Y Q.m)(C:gk P n bo=Y g.m)
  (U:m.dZ l=Y (.loop .ready v n F N as bo d'))(i:O b=O N)(hps:(N.all λt=>Nat.blt t n)=dT)
  (h:FL F N b λF1=>kB P G d (Y l) n Q ⟨F1,[],⟨m,nx⟩⟩ (l9 (yx l λs=>kB P G d (Y l) n g s (C4 l K)) (λ_ _=>False))):jy P G d l b ⟨m,nx⟩ K:=by
 rw[O9,qO]at h;have p:∀t∈N,t<n:=by intro t ht;have:=lf.1 hps t ht;rw[lm]at this;exact j0 this
 have f:∀(K':St->Prop)(s:St),yx l K' s->(∃pe' n' F' ps' u w d',s.H.ep.dZ l=Y (.loop .ready pe' n' F' ps' u w d'))/\∃I,s.H.rB l .busy J=Y I/\K' {s with H:=I}:=by
  intro K' s h
  let⟨F0,D,⟨m0,n0⟩⟩:=s
  simp only[yx]at h;split at h
  .rename_i pe k F' N as bo d U;rw[T.i6]at h;exact⟨⟨_,_,_,_,_,_,_,U⟩,_,by simp only[eM.rB,U];rfl,h⟩
  exact h.elim
 have hc:∀c a o,G.ey n c o->gk P n o=Y a->gk P n c=Y a:=by intro c a o x R;rw[E]at x;exact x.trans R
 cases d
 .refine .any Z (qc.body U i p λu w y B=>(sB (hc _ _ _ y z) h).mono ?_);intro e s hq;cases e with
  |normal=>obtain⟨x,I,R,W⟩:=f (λs=>kB P G dU (Y l) n g s (C4 l K)) _ hq;rw[qO]at W;exact⟨x,I,R,(sB (hc _ _ _ B C) W).mono λe s hq=>Pa hq⟩
  | _=>exact hq.elim
 obtain⟨e,s1,x,R⟩:=Az ⟨_,z⟩ h;cases e with
 |normal=>
  obtain⟨k1,I,k2,k3⟩:=f (λs=>kB P G dT (Y l) n g s (C4 l K)) _ x;rw[qO]at k3;obtain⟨e2,s2,W,h4⟩:=Az ⟨_,C⟩ k3;have h5:=Pa W;have fin:∃r q,K r q/\JQ l (λr1 H1=>r1=r/\H1=q) e2 s2:=by
   cases e2<;>first
    |exact h5.elim
    |(let⟨q,g1,g2⟩:=h5;exact⟨_,q,g2,q,g1,Z,Z⟩)
  let⟨r,q,h6,h7⟩:=fin
  refine .one r q h6 (qc.body U i p λu w y B=>(sB (hc _ _ _ y z) R).mono ?_);intro e s j;obtain⟨rfl,rfl⟩:=j;refine⟨k1,I,k2,(sB (hc _ _ _ B C) h4).mono ?_⟩;intro e s j;obtain⟨rfl,rfl⟩:=j;exact h7
 | _=>exact x.elim
def sG(P:Program)(N:Nat)(a:gx):Code:=Classical.epsilon λc=>gk P N c=Y a.m
def FM{a:gx}{c:Code}(h:gk P N c=Y a.m):gk P N (sG P N a)=Y a.m:=Classical.epsilon_spec (p:=λc=>gk P N c=Y a.m) ⟨c,h⟩
def wF(F:T A)(D:L S)(l:S)(Q:Exit->St->Prop):eM->Prop
 |⟨m,n⟩=>match m.dZ l with
  |some (.loop st pend _ _ _ _ _ _)=>(st==.busy)=dU/\T.ir J l m λx=>match pend with
   |none=>Q .normal ⟨F,D,⟨x,n⟩⟩
   |some .ret=>Q .ret ⟨F,D,⟨x,n⟩⟩
   |some (.exit i)=>Q (.exit i) ⟨F,D,⟨x,n⟩⟩
   |some (.goto t)=>Q (.goto t) ⟨F,D,⟨x,n⟩⟩
   | _=>False
  | _=>False
def eT.rangeFunc(U:G.ey=λn c c'=>gk P n c=gk P n c'){R:Option S}{g:IX}{C:L Nat}{q:L S}{b i:gx}{F:T A}{D:L S}{n:S}{Q:Exit->St->Prop}{k:Nat}
  (hg:g.ev G F=Y (.func (.func f) first captured))(hf:Has P f k res a)(hv:mq F q=Y vs)
  (h:gk P N (sG P N b)=Y b.m->gk P N (sG P N i)=Y i.m->
   im (ym R N (gB q vs) C (sG P N b) (sG P N i) ⟨m,n⟩) λx=>fK P G d f (first++[.gF x.1]++captured) x.2.2 (λ_ w=>wF F (x.2.1++D) x.1 Q w)):
  eT P G d R N (.rangeFunc g C q b i) ⟨F,D,⟨m,n⟩⟩ Q:=by
 let⟨fn,c0,hf1,hf2,hf3,_,_,_⟩:=hf
 have u:∀c,gk P N c=Y (gx.rangeFunc g C q b i).m->∃E pa j B,c=.rangeFunc E pa j B/\pa.toList=C/\iO E=Y g/\gk P N j=Y b.m/\gk P N B=Y i.m:=by
  intro c hc;cases c<;>simp[gk,gx.m,fS]at hc
  .exact pw
  rename_i E pa j B
  let⟨_,K,_,p,_,y,hc⟩:=hc
  obtain⟨_,rfl,rfl,rfl,rfl⟩:=hc;exact⟨E,pa,j,B,Z,Z,K,p,y⟩
 have left:∀(Q:Exit->St->Prop)(l:S)(D':L S)(w:eM),wF F D' l Q w->JR P G R N l {F:=F,D:=D',H:=⟨m,n⟩} Q w:=by
  intro Q l D' w h
  let⟨m2,n2⟩:=w
  simp only[wF]at h;split at h
  .rename_i st s k F' C j B d hl
   let⟨K,p⟩:=h
   rw[T.i6]at p;refine⟨st,s,k,F',C,j,B,d,hl,K,?_⟩;cases s with
   |none=>exact p
   |some c=>
   cases c<;>first
    |exact p.elim
    |exact .ret p
    |exact .exit p
    |exact .goto p
  exact h.elim
 have ey:∀j B,gk P N j=Y b.m->gk P N B=Y i.m->G.ey N j (sG P N b)/\G.ey N B (sG P N i):=by intro j B p y;rw[U];exact⟨p.trans (FM p).symm,y.trans (FM y).symm⟩
 by_cases hex:∃j B,gk P N j=Y b.m/\gk P N B=Y i.m
 .let⟨as0,bo0,k2,k3⟩:=hex
  obtain⟨⟨l,ms,H1⟩,h4,h5⟩:=lK.1 (h (FM k2) (FM k3));cases d
  .refine .any Z λc hc=>?_;obtain⟨E,pa,j,B,rfl,rfl,K,p,y⟩:=u c hc;exact gJ.rangeFunc K hg hf1 hf2 hf3 (fQ _) (ey j B p y) (λt v W=>tT hv _ _ W) h4 (h5.u9.mono λr w hq=>left _ _ _ _ hq)
  cases h5 with
  |any hd=>cases hd
  |one r w I z=>
  have fin:∃e s',Q e s'/\wF F (ms++D) l (λe1 s1=>e1=e/\s1=s') w:=by
   let⟨m2,n2⟩:=w
   simp only[wF]at I⊢;cases hl:m2.dZ l with
   |none=>rw[hl]at I;exact I.elim
   |some o=>
   rw[hl]at I;cases o<;>try exact I.elim
   rename_i st s k F' C j B d;dsimp only at I⊢
   let⟨g1,g2⟩:=I
   rw[T.i6]at g2;simp only[T.i6];cases s with
   |none=>exact⟨_,_,g2,g1,Z,Z⟩
   |some c=>
   cases c<;>first
    |exact g2.elim
    |exact⟨_,_,g2,g1,rfl,rfl⟩
  let⟨e,s',hq,hk'⟩:=fin
  refine .one e s' hq λc hc=>?_;obtain⟨E,pa,j,B,rfl,rfl,K,p,y⟩:=u c hc;refine gJ.rangeFunc K hg hf1 hf2 hf3 (fQ _) (ey j B p y) (λt v W=>tT hv _ _ W) h4 (z.mono ?_);rintro r1 H1' ⟨rfl,rfl⟩;exact left _ _ _ _ hk'
 
 have J:∀c,gk P N c≠Y (gx.rangeFunc g C q b i).m:=λc hc=>by obtain⟨E,pa,j,B,rfl,rfl,K,p,y⟩:=u c hc;exact hex ⟨j,B,p,y⟩
 exact .none J
end
def tX:S->L A->(T A->Prop)->Prop
 | _,[],K=>K .e
 |p,v::l,K=>mr p λq=>tX q l λF=>T.ir (Y v) p F K
def yy:∀{l:L A}{p:S}{K:T A->Prop},tX p l K=K (pP p l):=by
 intro l;induction l with
 |nil=>intro p K;rfl
 |cons v l i=>intro p K;simp only[tX,pP,ou,i,T.i6]
def yz:L S->T AO->(T AO->Prop)->Prop
 |[],m,K=>K m
 |d::D,m,K=>match m.dZ d with
  |some .fX=>T.ir J d m λx=>yz D x K
  | _=>False
def Yw:∀{D:L S}{m:T AO}{n:S}{K:T AO->Prop},yz D m K->∃x,rA D ⟨m,n⟩=Y ⟨x,n⟩/\K x:=by
 intro D;induction D with
 |nil=>intro m n K h;exact⟨m,Z,h⟩
 |cons d D i=>
 intro m n K h;simp only[yz]at h;split at h
 .rename_i a;rw[T.i6]at h;obtain⟨x,b,r⟩:=i (n:=n) h;exact⟨x,by simp only[rA,a,b],r⟩
 exact h.elim
def rC(G:ez)(a:L RV)(Q:A->eM->Prop):Exit->St->Prop
 |.normal,⟨F,D,⟨m,n⟩⟩=>yz D m λx=>im (nU G F ⟨x,n⟩ a) λw=>Q (rz w) ⟨x,n⟩
 |.ret,⟨F,D,⟨m,n⟩⟩=>yz D m λx=>im (nU G F ⟨x,n⟩ a) λw=>Q (rz w) ⟨x,n⟩
 | _,_=>False
def wG{G:ez}{Q:A->eM->Prop}{e:Exit}{s:St}(h:rC G a Q e s):vh G a Q e s:=by
 let⟨F,D,⟨m,n⟩⟩:=s
 cases e<;>first
  |exact h.elim
  |(obtain⟨x,K,r⟩:=Yw (n:=n) h
    exact fH K r)
section
variable{P:Program}{G:ez}
def eL.lM{n:Nat}{Q:A->eM->Prop}(g:Has P f n b a)
  (h:tX .h K λF=>kB P G dU J n a ⟨F,[],H⟩ (rC G b Q)):eL P G f K H Q:=by
 rw[yy,qO]at h;exact eL.vk g (lp h λ_ _=>wG)
def fK.j7{n:Nat}{Q:A->eM->Prop}(g:Has P f n b a)
  (h:tX .h K λF=>kB P G d J n a ⟨F,[],H⟩ (rC G b Q)):fK P G d f K H Q:=by
 rw[yy,qO]at h;cases d
 .exact .any Z (eL.vk g (lp h λ_ _=>wG))
 obtain⟨r,D,c,e⟩:=eL.AA g (lp h λ_ _=>wG);exact .one r D c e
def ee.fj{n:Nat}{c:L RV}{args:L A}{good:A->Prop}(g:Has P f n c a)(d:G.Pure)(b:∀a∈args,a.Pure)
  (h:tX .h args λF=>kB P G dT J n a ⟨F,[],⟨.e,.h⟩⟩ (rC G c λr _=>∃v,ot r v/\good v)):∃v,good v/\ee P G f args v:=by
 rw[yy,qO]at h;exact ee.AA g d b (lp h λ_ _=>wG)
def ee.lM{n:Nat}{c:L RV}(g:Has P f n c a)(i:G.Pure)(b:∀a∈K,a.Pure)
  (h:tX .h K λF=>kB P G dU J n a ⟨F,[],⟨.e,.h⟩⟩ (rC G c λr _=>ot r v)):ee P G f K v:=by
 rw[yy,qO]at h;exact ee.vk (d:=dU) g i b (lp h λ_ _=>wG)
end
def f9(P:Program)(G:ez)(f:FuncId)(K:L A)(a:A->Prop):Prop:=∃v,a v/\ee P G f K v
section
variable{G:ez}{dY:Bool}{F:T A}{H:eM}{x l h:IX}
def Pd(h:a<=b):Nat.ble a b=dT:=by rw[jS];exact h
def J9{s:L Nat}{k:IntKind}{n:Nat}(v:x.ev G F=Y (.J s))(d:h.ev G F=Y (.int k b))(a:b=.ofNat n)(E:n<=O s):
  fA G dY F H (.slice .J x J (Y h) J)=Y (.val (.J (s.take n))):=by
 subst a;simp[fA,fG,v,pK,d,pJ,pI,lG,Pd E]
def Ka{s:L Nat}{k:IntKind}{n:Nat}(v:x.ev G F=Y (.J s))(d:l.ev G F=Y (.int k b))(a:b=.ofNat n)(E:n<=O s):
  fA G dY F H (.slice .J x (Y l) J J)=Y (.val (.J (s.drop n))):=by
 subst a;simp[fA,fG,v,pK,d,pJ,pI,lG,Pd E];rw[oG (by simp)]
end
def FN(h:(!lh (.ofNat a) (.ofNat b))=dT):b<=a:=iK ly
def FO(h:(!lh (.ofNat a) (.ofNat b))=dU):a<b:=gz ly
def ot.j{v:A}(h:v.Pure):ot v v:=.ey v h
section
variable{P:Program}{G:ez}{R:Option S}{N:Nat}
def Ke(I:St->Prop)(s:St):Prop:=∃j,I j/\(∀q v,j.F.dZ q=Y v->s.F.dZ q=Y v)/\j.D=s.D/\j.H=s.H
def gJ.AL{c:Code}{s:St}{Q:Exit->St->Prop}(I:Nat->St->Prop)(k0:Nat)(y:St)(h0:I k0 y)(hF:∀q v,y.F.dZ q=Y v->s.F.dZ q=Y v)(W:y.D=s.D)(K:y.H=s.H)
  (h:∀k s,I k s->gJ P G R N c s (l9 (λz=>Ke (λg=>∃k',k'<k/\I k' g) z) Q)):gJ P G R N (.loop c) s Q:=by
 intro B w u a F hs hr b k U hro hb hroom;have m:∀{s g:St}{w:World}{u:Kx}{a:Act},jd B G N s w u a->(∀q v,g.F.dZ q=Y v->s.F.dZ q=Y v)->g.D=s.D->g.H=s.H->jd B G N g w u a:=
  λhs hF W K=>hs.uT hF W (by rw[K]) (by rw[K];exact fQ _)
 have key:∀j s C i E,I j s->fL B w u C i->jd B G N s C i E->
   ∃e a' w',(∃g p,Q e g/\fL B w u w' p/\jd B G N g w' p a')/\ArrivesIn (Machine.fenced P F) P (lone (b.atR E (.code c::.inLoop c::k)) U C) b k U e a' w':=by
  intro j;induction j using Nat.strongRecOn with
  | _ j ih=>
  intro s C i E hI n hs1;obtain⟨e,r,t,⟨z,f,hq,o,d⟩,harr⟩:=h j s hI B C i E F hs1 (hr.mono n) b (.inLoop c::k) U hro hb hroom;cases e with
  |normal=>
   let⟨s3,⟨j3,hlt,hI3⟩,hF3,hD3,hH3⟩:=hq
   obtain⟨e3,a3,w3,hq3,harr3⟩:=ih j3 hlt s3 t f r hI3 (n.trans o) (m d hF3 hD3 hH3);exact IG
  |exit id=>exact⟨_,r,t,⟨z,f,hq,n.trans o,d⟩,.pass (x:=.inLoop c) Z (λ_ _=>.inl ei) harr⟩
  |goto l=>exact⟨_,r,t,⟨z,f,hq,n.trans o,d⟩,.pass (x:=.inLoop c) Z (λ_ _=>.inl ei) harr⟩
  |ret=>exact⟨_,r,t,⟨z,f,hq,n.trans o,d⟩,.pass (x:=.inLoop c) Z (λ_ _=>.inl ei) harr⟩
  |panic ch=>exact⟨_,r,t,⟨z,f,hq,n.trans o,d⟩,.pass (x:=.inLoop c) Z (λ_ _=>.inl ei) harr⟩
  |outgrown=>exact⟨_,r,t,⟨z,f,hq,n.trans o,d⟩,.pass (x:=.inLoop c) Z (λ_ _=>.inl ei) harr⟩
 obtain⟨e,a',w',hq,harr⟩:=key _ y w u a h0 (fL.refl _ _ _) (m hs hF W K);exact IR
def eT.AL{s:St}{Q:Exit->St->Prop}(I:Nat->St->Prop)(y:Nat)(u:St)(K:I y u)(W:∀q v,u.F.dZ q=Y v->s.F.dZ q=Y v)(U:u.D=s.D)(hH:u.H=s.H)
  (h:∀k s,I k s->jn P G d R N a s (l9 (λs2=>Ke (λf=>∃m,m<k/\I m f) s2) Q)):eT P G d R N (.loop l a) s Q:=by
 have g:∀c,gk P N c=Y (gx.loop l a).m->∃o,c=.loop o/\gk P N o=Y a.m:=Te;cases d
 .refine .any Z λc hc=>?_;obtain⟨o,rfl,i⟩:=g c hc;exact gJ.AL I y u K W U hH λk s w=>sB i (h k s w)
 by_cases x:∃c,gk P N c=Y a.m
 case neg=>exact .none λc hc=>by obtain⟨o,_,i⟩:=g c hc;exact x ⟨o,i⟩
 have E:∀j s,I j s->∃e f,Q e f/\∃n:Nat->St->Prop,n j s/\(∀k t,n k t->jn P G dU R N a t (l9 (λs2=>Ke (λf=>∃m,m<k/\n m f) s2) (λe1 s1=>e1=e/\s1=f))):=by
  intro j;induction j using Nat.strongRecOn with
  | _ j ih=>
  intro s w;obtain⟨e,s2,hq,hw⟩:=Az x (h j s w);cases e with
  |normal=>
   let⟨s3,⟨j3,b,z⟩,r⟩:=hq
   obtain⟨e3,f,C,n,B,p⟩:=ih j3 b s3 z;refine⟨e3,f,C,λk t=>(k=j/\t=s)\/(k<j/\n k t),.inl ⟨Z,Z⟩,?_⟩;rintro k t (⟨rfl,rfl⟩|⟨hkj,ht⟩)
   .refine lp hw ?_;rintro e t' ⟨rfl,rfl⟩;exact⟨s3,⟨j3,b,.inr ⟨b,B⟩⟩,r⟩
   refine lp (p k t ht) (Fz (λs2 ⟨f,⟨m,h1,h2⟩,h3⟩=>⟨f,⟨m,h1,.inr ⟨M,h2⟩⟩,h3⟩) (λ_ _ h=>h))
  | _=>exact VS
 obtain⟨e,f,C,n,B,p⟩:=E y u K;refine .one e f C λc hc=>?_;obtain⟨o,rfl,i⟩:=g c hc;exact gJ.AL n y u B W U hH λk s w=>sB i (p k s w)
def YV(a:L S)(D:L S)(m:T AO)(n:S)(b:L A->Prop)(s:St):Prop:=s.D=D/\s.H=⟨m,n⟩/\im (mq s.F a) b
def eT.pd{e:L S}{F:T A}{D:L S}{n:S}{Q:Exit->St->Prop}(I:Nat->L A->Prop)(o:Nat)
  (x:mq F e=Y w)(c:I o w)
  (h:∀k w,I k w->oM e w λF=>kB P G d R N a ⟨F,D,⟨m,n⟩⟩ (l9 (YV e D m n λl=>∃i,i<k/\I i l) Q)):eT P G d R N (.loop e a) ⟨F,D,⟨m,n⟩⟩ Q:=by
 refine eT.AL (λk s=>∃w,I k w/\s=⟨gB e w,D,⟨m,n⟩⟩) o ⟨gB e w,D,⟨m,n⟩⟩ ⟨w,c,Z⟩ (λq v t=>tT x q v t) Z Z ?_;rintro k s ⟨w,r,rfl⟩;have h1:=h k w r;refine IV λh1=>?_;rintro z ⟨p,K,j⟩;obtain⟨g,f,i,b,u⟩:=lK.1 j;exact⟨⟨gB e g,D,⟨m,n⟩⟩,⟨i,b,g,u,Z⟩,λq v t=>tT f q v t,p.symm,K.symm⟩
def yB(R:Option S)(N:Nat)(D:L S)(w:L A)(t:L Nat)(F B:Code)(m:T AO)(n:S)(K:S->L S->eM->Prop):Prop:=
 oM D w λFl=>match R with
 |none=>mr n λe=>mr e λf=>T.ir (Y .fX) n m λv=>T.ir (Y (.loop .ready J N Fl t F B n)) e v λb=>K e [n] ⟨b,f⟩
 |some a=>match m.dZ a with
  |some (.loop _ _ _ _ _ _ _ d)=>mr n λe=>T.ir (Y (.loop .ready J N Fl t F B d)) n m λv=>K n [] ⟨v,e⟩
  | _=>False
def YW{N:Nat}{D:L S}{t:L Nat}{F B:Code}{n:S}{K:S->L S->eM->Prop}(h:yB R N D w t F B m n K):
  im (ym R N (gB D w) t F B ⟨m,n⟩) λx=>K x.1 x.2.1 x.2.2:=by
 unfold yB at h;rw[wB]at h;cases R with
 |none=>simp only[ou,T.i6]at h;exact h
 |some a=>
 simp only at h;simp only[ym];split at h
 .rename_i o;simp only[ou,T.i6]at h;(try rw[o]);exact h
 exact h.elim
def eT.range(e:G.ey=λn c o=>gk P n c=gk P n o){g:IX}{t:L Nat}{i j:gx}{F:T A}{D:L S}{n:S}{Q:Exit->St->Prop}{k:Nat}{p:L RV}
  (w:g.ev G F=Y (.func (.func f) first captured))(v:Has P f k p a)(x:mq F b=Y vs)
  (h:∀q B:Code,gk P N q=Y i.m->gk P N B=Y j.m->
   yB R N b vs t q B m n λl z s=>fK P G d f (first++[.gF l]++captured) s (λ_ u=>wF F (z++D) l Q u)):
  eT P G d R N (.rangeFunc g t b i j) ⟨F,D,⟨m,n⟩⟩ Q:=
 eT.rangeFunc e w v x λK r=>YW (h _ _ K r)
end
def eV{n p:S}(h:Nat.blt p.dV n.dV=dT):Below n p:=by rw[lm]at h;exact j0 h
def hp:L (S×AO)->T AO
 |[]=>.e
 |x::l=>(hp l).set x.1 (Y x.2)
def vC:∀{l:L (S×AO)}{p:S}{o:AO},(hp l).dZ p=Y o->(p,o)∈l:=by
 intro l;induction l with
 |nil=>intro p o h;simp[hp]at h
 |cons x l i=>
 intro p o h;simp only[hp,T.jr]at h;split at h
 .rename_i e;cases h;subst e;simp
 simp[i h]
def wJ{a:Type}(Q:a->Prop):L a->Prop
 |[]=>True
 |x::l=>Q x/\wJ Q l
def wJ.ep{a:Type}{Q:a->Prop}:∀{l:L a},wJ Q l->∀x∈l,Q x:=by
 intro l;induction l with
 |nil=>intro _ x h;cases h
 |cons y l i=>
 intro h x v;obtain rfl|v:=eZ.1 v
 .exact h.1
 exact i h.2 x v
def AM:∀{t:T AO}{Q:S->AO->Prop},(∀p o,t.dZ p=Y o->Q p o)->yr t Q:=by
 intro t;induction t with
 |e=>intro Q _;trivial
 |n v l r a b=>
 intro Q h;refine⟨?_,a λp o hp=>h (.o p) o hp,b λp o hp=>h (.i p) o hp⟩;cases v with
 |none=>trivial
 |some o=>exact h .h o Z
def AF.iC{n nx:S}{H:eM}{b:L A->T AO->Prop}(l:L (S×AO))(P:L A)(c:b P (hp l))(a:mD (iP []) (Below nx) w P)
  (d:wJ (λx=>Below nx x.1/\im (H.ep.dZ x.1) λr=>jW (iP []) (Below nx) r x.2) l):AF n nx w H b:=
 .mk [] P (hp l) c Z a (AM λp o hp=>d.ep (p,o) (vC hp)) (AM λp _ _=>AM λq _ _ e=>e)
def AF.lA{n nx:S}{H:eM}{b:L A->T AO->Prop}(r:L (S×S))(l:L (S×AO))(P:L A)(c:b P (hp l))(f:(r.all λx=>Nat.ble n.dV x.1.dV)=dT)(a:mD (iP r) (Below nx) w P)
  (d:wJ (λx=>Below nx x.1/\im (H.ep.dZ (iP r x.1)) λg=>jW (iP r) (Below nx) g x.2) l)(C:(l.all λx=>l.all λy=>jT x.1 y.1|| !jT (iP r x.1) (iP r y.1))=dT):AF n nx w H b:=
 .mk r P (hp l) c f a (AM λp o hp=>d.ep (p,o) (vC hp)) (AM λp _ hp=>AM λq _ t e=>by have K:=lf.1 (lf.1 C _ (vC hp)) _ (vC t);simp only[mA,e,uI,Bool.not_true,Bool.or_false,oh]at K;exact K)
def jB{B:S->S}{D:S->Prop}(h:∀v∈w,v.Pure):jW B D (.dY w) (.dY w):=.dY _ _ Z λi K _=>.ey _ (h _ (fB K))
def wL{B:S->S}{D:S->Prop}{cs cs':L A}(h:mD B D cs cs'):jW B D (.dY cs) (.dY cs'):=by
 have k:∀(l C:L A),mD B D l C->O l=O C/\∀i (h:i<O l)(n:i<O C),gL B D l[i] C[i]:=by
  intro l;induction l with
  |nil=>intro C h;cases C with|nil=>exact we|cons=>exact h.elim
  |cons v l a=>
  intro C h;cases C with
  |nil=>exact h.elim
  |cons b C=>obtain⟨K,h2⟩:=a C h.2;refine⟨by simp[K],λi hi hi'=>?_⟩;exact SD
 obtain⟨K,h2⟩:=k _ _ h;exact .dY _ _ K h2
def FQ:∀{l:L S}{w:L A}{q:S}{v:A},(gB l w).dZ q=Y v->v∈w:=by
 intro l;induction l with
 |nil=>intro w q v h;simp[gB]at h
 |cons p l i=>
 intro w q v h;cases w with
 |nil=>simp[gB]at h
 |cons u w=>
 simp only[gB,T.jr]at h;split at h
 .cases h;simp
 simp[i h]
def Pi{π:S->S}{D:S->Prop}{e:Option Code}{n:Nat}{c:L S}{g:L Nat}{F B:Code}(i:D d)(f:π d=d)(h:wJ (λv=>gL π D v v) w):
  jW π D (.loop b e n (gB c w) g F B d) (.loop b e n (gB c w) g F B d):=by
 have:=jW.loop (π:=π) (D:=D) b e n (gB c w) (gB c w) g F B d i λt v a=>⟨v,a,h.ep v (FQ a)⟩
 rw[f]at this;exact this
def gL.L{π:S->S}{D:S->Prop}{p:S}(hp:D p)(a:π p=p):gL π D (.ea p b) (.ea p b):=by have:=gL.ea (π:=π) (D:=D) p b hp;rw[a]at this;exact this
def gL.Pj{π:S->S}{D:S->Prop}{p:S}(hp:D p)(a:π p=p):gL π D (.gF p) (.gF p):=by have:=gL.gF (π:=π) (D:=D) p hp;rw[a]at this;exact this
def Sl(o n:Nat)(w:L A)(v:A):Prop:=(v=.ej/\n=0/\w=[])\/∃t,(∀p,t≠.open p)/\v=.eG o n w t/\O w=n*o
def fC(w:L A)(v:A):Prop:=Sl 1 (O w) w v
def fT(o:Nat)(s:L (L A))(v:A):Prop:=Sl o (O s) s.flatten v/\∀x∈s,O x=o
def flat_get{o:Nat}:∀{s:L (L A)}(_ :∀x∈s,O x=o){i j:Nat}(h:i<O s),j<o->s.flatten[i*o+j]? =s[i][j]? :=by
 intro s;induction s with
 |nil=>intro _ i j h;simp at h
 |cons x s c=>
 intro v i j h e;have a:=v x ei;cases i with
 |zero=>simp only[nK,Nat.zero_mul,lg,wf];rw[xt M]
 |succ i=>simp only[nK,Nz];rw[Ca (by rw[a,mK];omega),a,show(i+1)*o+j - o=i*o+j by rw[mK];omega];exact c (λy b=>v y (by simp[b])) ly e
def pS{sz:Nat}{s:L (L A)}(h:∀x∈s,O x=sz):O s.flatten=O s*sz:=by
 induction s with
 |nil=>simp
 |cons x s b=>simp only[nK,iN,h x (by simp),b (λy a=>h y (by simp[a])),lV];rw[mK];omega
def Pr{o:Nat}{s:L (L A)}(v:∀x∈s,O x=o){i:Nat}(h:i<O s):cut (i*o) o s.flatten=Y s[i]:=by
 have b:=v _ (fB h);have e:(s.flatten.drop (i*o)).take o=s[i]:=by
  apply List.ext_getElem?;intro j;rw[If];split
  .rename_i a;rw[Em];exact flat_get v h a
  rename_i a;rw[Ie M]
 simp only[cut,e,b,qA,gZ]
section
variable{G:ez}{dY:Bool}{F:T A}{H:eM}{x i:IX}
def Ps{o n:Nat}(a:x.ev G F=Y v)(h:Sl o n w v):fA G dY F H (.bi .nO [x])=Y (.val (.int .i64 (.ofNat n))):=by obtain⟨rfl,rfl,_⟩|⟨t,_,rfl,_⟩:=h<;>simp[fA,fG,ko,a,iU]
def kL{o n j:Nat}{k:IntKind}(a:x.ev G F=Y v)(h:Sl o n w v)(C:i.ev G F=Y (.int k z))(c:z=.ofNat j)(e:j<n):
  fA G dY F H (.lj (.sl o) x i)=Y (.val (.fF w (j*o))):=by
 obtain⟨rfl,rfl,_⟩|⟨t,_,rfl,_⟩:=h
 .omega
 exact qg a C c e
def fM{o n:Nat}{K:iD->Prop}{q:Prop}(h:Sl o n a v)(z:q)(b:x.ev G F=Y v:=by rfl)(w:q->K (.val (.int .i64 (.ofNat n))):=by intro k;(conv=>whnf);exact k):im (fA G dY F H (.bi .nO [x])) K:=fH (Ps b h) (w z)
def gW{o n j:Nat}{k:IntKind}{K:iD->Prop}{q:Prop}(h:Sl o n a v)(e:j<n)(z:q)(b:x.ev G F=Y v:=by rfl)(C:i.ev G F=Y (.int k y):=by rfl)(c:y=.ofNat j:=by rfl)(w:q->K (.val (.fF a (j*o))):=by intro k;(conv=>whnf);exact k):im (fA G dY F H (.lj (.sl o) x i)) K:=fH (kL b h C c e) (w z)
def oA{j:Nat}(v:x.ev G F=Y (.fF w (j*1)))(e:j<O w):fA G dY F H (.load J x)=Y (.val w[j]):=
 jO v (by simp[part,jq e])
def lN{o:Nat}{s:L (L A)}{j:Nat}(v:x.ev G F=Y (.fF s.flatten (j*o)))(h:∀x∈s,O x=o)(e:j<O s):fA G dY F H (.load (Y o) x)=Y (.val (.agg s[j])):=
 jO v (by simp[part,Pr h e])
def nY{o k:Nat}{s:L (L A)}{v:A}(b:x.ev G F=Y (.fF s.flatten (j*o+k)))(h:∀x∈s,O x=o)(e:j<O s)(P:k<o)(a:s[j][k]? =Y v):fA G dY F H (.load J x)=Y (.val v):=
 jO b (by simp only[part];rw[flat_get h e P];exact a)
end
def Sl.dW{sz n:Nat}{cs:L A}(h:Sl sz n cs v)(K:∀c∈cs,c.Pure):v.Pure:=by
 obtain⟨rfl,_,_⟩|⟨t,j,rfl,_⟩:=h
 .exact kC
 exact qQ j K
def fK.eq{P:Program}{G:ez}{H:eM}{K:A->eM->Prop}(h:eL P G f a H λr D=>r=v/\D=H)(b:K v H):fK P G d f a H K:=.one v H b h
inductive jP where
 |done
 |q (i:Nat)(t:jP)
 |one (i:Nat)(t:jP)
 |kU (i:Nat)(t jQ:jP)
 |no
def rI:jP->L (Nat×jP)
 |.one i t=>[(i,t)]
 |.kU i t m=>(i,t)::rI m
 | _=>[]
def qk(as:L f8)(ms:L Nat):L Nat->Nat->Bool
 |[],E=>Nat.beq (E+1) (2^O as)
 |i::kZ,E=>
 match as[i]? with
 |none=>dU
 |some o=> !gf E i&&o.ka.all (gf E)&&Nat.beq (jY ms i|||tV ms o.ka) (tV ms o.ka)&&qk as ms kZ (E|||2^i)
def FY(as:L f8)(E:Nat)(b:L Nat):Bool:=as.zipIdx.all λa=>gf E a.2||b.contains a.2|| !(a.1.ka.all (gf E))
def AS(as:L f8)(E i:Nat)(q:Bool):Bool:=match as[i]? with|none=>dU|some o=> !gf E i&&o.ka.all (gf E)&&(o.W==q)
def oO(as:L f8):jP->Nat->Bool->Bool
 |.done,E,hd=>Nat.beq (E+1) (2^O as)&&hd
 |.q i t,E,hd=>AS as E i dT&&oO as t (E|||2^i) dT&&hd
 |.one i t,E,hd=>FY as E [i]&&AS as E i dU&&oO as t (E|||2^i) dT&&hd
 |.kU i t m,E,hd=>(!hd||FY as E (i::(rI m).map (·.1)))&&AS as E i dU&&oO as t (E|||2^i) dT&&oO as m E dU
 |.no,_,hd=> !hd
def AT(r:L Nat)(t:jP)(ms:L Nat)(as:L f8):Bool:=qk as ms r 0&&oO as t 0 dT&&J4 as ms
section
variable{as:List f8}{ms:List Nat}
def FZ{i:Nat}(h:qk as ms (i::r) E=dT):
  ∃a,as[i]? =Y a/\gf E i=dU/\(∀k∈a.ka,gf E k=dT)/\(∀j,gf (jY ms i) j=dT->gf (tV ms a.ka) j=dT)/\qk as ms r (E|||2^i)=dT:=by
 unfold qk at h;cases ha:as[i]? with
 |none=>rw[ha]at h;cases h
 |some a=>
 rw[ha]at h;simp only[jC,Cr,lf]at h
 let⟨⟨⟨K,b⟩,m⟩,H⟩:=h
 refine⟨a,Z,K,b,λj e=>?_,H⟩;have m:=iZ m;rw[<-m];simp only[gf,xv,ux];exact .inl e
def Pz:∀{r:L Nat}{E:Nat},qk as ms r E=dT->∀i,i<O as->gf E i=dT\/i∈r:=by
 intro r;induction r with
 |nil=>intro E h i hi;unfold qk at h;exact Sw
 |cons k r ih=>intro E h i hi;obtain⟨a,_,_,_,_,h5⟩:=FZ h;exact Ub
def Zm:∀{r:L Nat}{E:Nat},qk as ms r E=dT->(∀i,gf E i=dT->sE as ms i)->∀i∈r,sE as ms i:=by
 intro r;induction r with
 |nil=>intro E _ _ i hi;cases hi
 |cons k r ih=>
 intro E h hE i hi;obtain⟨a,o,_,m,f,h5⟩:=FZ h;have hk:sE as ms k:=by
  intro b hb n l e j hj;rw[o]at hb;cases hb;obtain⟨q,t,d⟩:=OZ (f j hj);obtain rfl|d:=d
  .exact e q t
  have g:=hE q (m q t);cases hqa:as[q]? with
  |none=>
   have p:O as<=q:=List.getElem?_eq_none_iff.1 hqa;have:∀{r:L Nat}{E:Nat},qk as ms r E=dT->gf E q=dT->False:=by
    intro r;induction r with
    |nil=>intro E h hb;unfold qk at h;exact SQ
    |cons k r ih=>intro E h hb;obtain⟨a,_,_,_,_,h5⟩:=FZ h;exact ih h5 (by rw[qh];simp[hb])
   exact(this h (m q t)).elim
  |some c=>exact g c hqa n l (l q c hqa (e q t)) j d
 exact Ih
def Zn{La:Nat->Bool}(hno:∀i a,as[i]? =Y a->La i=dU->∃k∈a.ka,La k=dU):∀{r:L Nat}{E:Nat},qk as ms r E=dT->(∀i,gf E i=dT->La i=dT)->∀i∈r,La i=dT:=by
 intro r;induction r with
 |nil=>intro E _ _ i hi;cases hi
 |cons k r ih=>intro E h hE i hi;obtain⟨a,ha,_,hd,_,h5⟩:=FZ h;have hk:La k=dT:=Ut;exact Ih
def PA(h:qk as ms r 0=dT)(i:Nat):sE as ms i:=by intro a ha;have b:i<O as:=HW;exact Zm h (λi C=>by simp[gf]at C) i ((Pz h i b).resolve_left (by simp[gf])) a ha
def Kj{E i:Nat}{q:Bool}(h:AS as E i q=dT):∃a,as[i]? =Y a/\gf E i=dU/\(∀k∈a.ka,gf E k=dT)/\a.W=q:=by
 unfold AS at h;cases ha:as[i]? with
 |none=>rw[ha]at h;cases h
 |some a=>rw[ha]at h;simp only[jC,Cr,lf,beq_iff_eq]at h;exact⟨a,Z,h.1.1,h.1.2,h.2⟩
def jP.pR:jP->Bool
 |.done=>dT
 |.one _ _=>dT
 |.kU _ _ _=>dT
 | _=>dU
def PB:∀{t:jP}{E:Nat}{a:Bool},oO as t E a=dT->∀x∈rI t,AS as E x.1 dU=dT/\oO as x.2 (E|||2^x.1) dT=dT:=by
 intro t;induction t with
 |done=>intro E a h x v;cases v
 |q i t=>intro E a h x v;cases v
 |no=>intro E a h x v;cases v
 |one i t=>intro E a h x v;simp only[oO,jC]at h;simp only[rI,Cp]at v;subst v;exact⟨h.1.1.2,h.1.2⟩
 |kU i t m _ b=>
 intro E a h x v;simp only[oO,jC]at h;simp only[rI,eZ]at v;obtain rfl|v:=v
 .exact⟨h.1.1.2,h.1.2⟩
 exact b h.2 x v
def Zo{t:jP}(h:oO as t E dT=dT)(a:t.pR=dT)(j:t≠.done):FY as E ((rI t).map (·.1))=dT:=by
 cases t with
 |done=>exact absurd Z j
 |q i t=>cases a
 |no=>cases a
 |one i t=>simp only[oO,jC]at h;exact h.1.1.1
 |kU i t m=>simp only[oO,jC,Bool.not_true,Bool.false_or]at h;exact h.1.1.1
def Zp(h:FY as E l=dT){i:Nat}(b:as[i]? =Y a)(j:gf E i=dU)(c:∀k∈a.ka,gf E k=dT):i∈l:=by have K:=lf.1 h (a,i) (Ny.2 Ev);have r:(a.ka.all (gf E))=dT:=lf.2 c;simp only[j,Bool.false_or,r,Bool.not_true,Bool.or_false]at K;simpa using K
end
section
variable(P:Program)(G:ez)
def i7(as:L f8)(ms:L Nat):jP->L Nat->(St->Prop)->St->Prop
 |.done,_,K,s=>K s
 |.q i t,pend,K,s=>match as[i]? with
  |none=>False
  |some o=>match s with|⟨F,D,⟨m,n⟩⟩=>C1 G o F ⟨m,n⟩ λv=>nV o.dst F D m n v λa=>i7 as ms t (i::pend) K a
 |.one i t,pend,K,s=>match as[i]? with
  |none=>False
  |some o=>match s with|⟨F,D,⟨m,n⟩⟩=>yq P G dU o F D m n λa=>oz G as (pend.filter λj=> !gf (jY ms i) j) a (i7 as ms t (pend.filter λj=> !gf (jY ms i) j) K a)
 |.kU i t m,pend,K,s=>(match as[i]? with
  |none=>False
  |some o=>match s with|⟨F,D,⟨m,n⟩⟩=>yq P G dU o F D m n λa=>oz G as (pend.filter λj=> !gf (jY ms i) j) a (i7 as ms t (pend.filter λj=> !gf (jY ms i) j) K a))/\i7 as ms m pend K s
 |.no,_,_,_=>True
end
section
variable{P:Program}{G:ez}{R:Option S}{N:Nat}
def Zq{as:L f8}{ms:L Nat}{K:St->Prop}{F:T A}{D:L S}{c:T AO}{n:S}:∀{t:jP},i7 P G as ms t b K ⟨F,D,⟨c,n⟩⟩->∀x∈rI t,∀a,as[x.1]? =Y a->
  mB P G dU a ⟨F,D,⟨c,n⟩⟩ λe=>oz G as (b.filter λj=> !gf (jY ms x.1) j) e (i7 P G as ms x.2 (b.filter λj=> !gf (jY ms x.1) j) K e):=by
 intro t;induction t with
 |done=>intro h x v;cases v
 |q i t=>intro h x v;cases v
 |no=>intro h x v;cases v
 |one i t=>intro h x v a d;simp only[rI,Cp]at v;subst v;unfold i7 at h;rw[d]at h;dsimp only at h;rw[sC]at h;exact h
 |kU i t m _ f=>
 intro h x v a d;unfold i7 at h;simp only[rI,eZ]at v;obtain rfl|v:=v
 .have h:=h.1;rw[d]at h;dsimp only at h;rw[sC]at h;exact h
 exact f h.2 x v a d
structure sH (P:Program)(G:ez)(as:List f8)(ms:List Nat)(K:St→Prop)(L:Nat→Bool)(t:jP)(pend:List Nat)(E:Nat)(r c:St):Prop where
 mW:oO as t E true=true
 F6:∀i,gf E i=true→i<as.length
 sub:∀i,L i=true→gf E i=true
 pR:∀i a,as[i]? =some a→gf E i=true→a.W=false→L i=true
 closed:yv as L
 tW:yv as (gf E)
 vB:∀i a,as[i]? =some a→gf E i=true→L i=false→i∈pend∧∃d v,a.dst=some d∧c.F.dZ d=some v∧lL G a c.F c.H=some v
 yw:∀t,(∀i a,as[i]? =some a→gf E i=true→L i=false→a.dst≠some t)→r.F.dZ t=c.F.dZ t
 jk:i7 P G as ms t pend K c
 fX:r.D=c.D
 heap:r.H=c.H
def sH.C2{as:L f8}{ms:L Nat}{K:St->Prop}(hp:vz as ms)(l:∀i,sE as ms i):∀{t:jP}{pend:L Nat}{La:Nat->Bool}{E:Nat}{r c:St},sH P G as ms K La t pend E r c->
  ∃y u z o,sH P G as ms K La y u z r o/\y.pR=dT:=by
 intro t;induction t with
 |done=>intro pend La E r c h;exact⟨_,pend,E,c,h,Z⟩
 |one i t=>intro pend La E r c h;exact⟨_,pend,E,c,h,Z⟩
 |kU i t m=>intro pend La E r c h;exact⟨_,pend,E,c,h,Z⟩
 |no=>intro pend La E r c h;have:=h.mW;simp[oO]at this
 |q i t W=>
 intro pend La E r c h;have f:=h.mW;simp only[oO,jC,pA]at f;obtain⟨a,ha,hE,hdep,hq⟩:=Kj f.1;have hd:=h.jk
 let⟨F,D,⟨m,n⟩⟩:=c
 unfold i7 at hd;rw[ha]at hd;dsimp only at hd;rw[qT]at hd;obtain⟨v,hv,hd⟩:=lK.1 hd;obtain⟨d,hdst⟩:=O7 hq;refine VF λhd hbit hown=>?_;refine W (pend:=i::pend) (E:=E|||2^i) (c:=St.I ⟨F,D,⟨m,n⟩⟩ (Y d) v ⟨m,n⟩) ⟨f.2,λj hj=>?_,λj hj=>?_,λj b hb hj hbq=>?_,h.closed,λj b hb hj k hk=>?_,λj b hb hj hL=>?_,λt ht=>?_,hd,h.fX,h.heap⟩
 .obtain hj|rfl:=hbit j hj
  .exact h.F6 j hj
  exact HW
 .rw[qh,h.sub j hj];rfl
 .exact Tp
 .exact IL
 .obtain hj|rfl:=hbit j hj
  .obtain⟨I,B,vj,x,Q,U⟩:=h.vB j b hb hj hL;have w:i≠j:=λe=>by subst e;rw[hE]at hj;cases hj
   obtain⟨p,C⟩:=hp.AI i j a b d w ha hb hdst;refine⟨by simp[I],B,vj,x,?_,?_⟩
   .rw[vA,gj (λe=>p (by rw[x,e]))];exact Q
   rw[show lL G b (St.I ⟨F,D,⟨m,n⟩⟩ (Y d) v ⟨m,n⟩).F (St.I ⟨F,D,⟨m,n⟩⟩ (Y d) v ⟨m,n⟩).H=lL G b F ⟨m,n⟩from ?_]
   .exact U
   refine AG λt ht=>?_;rw[vA];split
   .rename_i e;subst e;obtain g|⟨g,_⟩:=C ht
    .have:=l j b hb (gf E) h.tW (h.tW j b hb hj) i g;rw[hE]at this;cases this
    rw[hq]at g;cases g
   rfl
  exact UB
 exact TL
def sH.take{as:L f8}{ms:L Nat}{K:St->Prop}(hp:vz as ms)(u:∀i,sE as ms i){t:jP}{La:Nat->Bool}{r c:St}(h:sH P G as ms K La t l E r c)
  (hh:t.pR=dT){i:Nat}(ha:as[i]? =Y a)(hL:La i=dU)(hdeps:∀k∈a.ka,La k=dT)(L':Nat->Bool)(hL':∀j,L' j=dT↔La j=dT\/j=i):
  mB P G dU a r (λr'=>∃t l E c,sH P G as ms K L' t l E r' c/\t.pR=dT):=by
 have C:i<O as:=HW;have z:∀j,L' j=dU->La j=dU/\j≠i:=SZ;have f:yv as L':=TB
 let⟨Q,rD,rH⟩:=r
 have w:=h.fX;have q:=h.heap;dsimp only at w q;have p:(gf E i=dT->a.W=dT)->∀t∈a.Z,Q.dZ t=c.F.dZ t:=by
  intro hqE t ht;refine h.yw t λj b hb hj hLj e=>?_;have hqb:b.W=dT:=UZ;by_cases hji:j=i
  .exact SG
  rcases(hp.AI j i b a t hji hb ha e).2 ht with g|⟨g,_⟩
  .rw[u i a ha La h.closed hdeps j g]at hLj;cases hLj
  rw[hqb]at g;cases g
 by_cases hE:gf E i=dT
 .have hq:a.W=dT:=SJ;obtain⟨W,d,v,h2,h3,h4⟩:=h.vB i a ha hE hL;have y:=p (λ_=>hq);have hv:lL G a Q rH=Y v:=by rw[AG y,q];exact h4
  refine O5 hv ⟨t,l,E,c,⟨h.mW,h.F6,λj hj=>?_,λj b hb hj H=>(hL' j).2 (.inl (h.pR j b hb hj H)),f,h.tW,λj b hb hj hLj=>h.vB j b hb hj (z j hLj).1,λt ht=>?_,h.jk,(by rw[h2];exact h.fX),(by rw[h2];exact h.heap)⟩,hh⟩
  .rcases(hL' j).1 hj with hj|rfl
   .exact h.sub j hj
   exact hE
  exact TN
 have hE:gf E i=dU:=by simpa using hE
 have ht:t≠.done:=by
  rintro rfl;have:=h.mW;simp only[oO,Bool.and_true]at this;have:=iZ this;have e:E=2^O as - 1:=M
  rw[e]at hE;simp[gf,NB,C]at hE
 have hin:=Zp (Zo h.mW hh ht) ha hE λk hk=>h.sub k (hdeps k hk);obtain⟨⟨x,t'⟩,hx,rfl⟩:=gS.1 hin;obtain⟨hw,h5⟩:=PB h.mW _ hx;obtain⟨a',B,_,hdep,H⟩:=Kj hw;dsimp only at ha B hE C hL hdeps hL' z f p h5 hdep;rw[ha]at B;cases B;have y:=p (λe=>by rw[hE]at e;cases e);have hd:=h.jk
 let⟨F,D,⟨m,n⟩⟩:=c
 dsimp only at w q y;subst w q;refine tQ (O6 (F':=Q) (Zq hd _ hx a ha) y) ?_;rintro s ⟨v,H',rfl,hk⟩;obtain⟨hreck,hk⟩:=FK.1 hk;dsimp only at hreck hk;have hbit:∀j,gf (E|||2^x) j=dT->gf E j=dT\/j=x:=M7;refine VU λputF=>?_;have U:sH P G as ms K L' t' (l.filter λj=> !gf (jY ms x) j) (E|||2^x) (St.I ⟨Q,rD,⟨m,n⟩⟩ a.dst v H') (St.I ⟨F,rD,⟨m,n⟩⟩ a.dst v H'):=by
  refine⟨h5,λj hj=>?_,λj hj=>?_,λj b hb hj hbq'=>?_,f,λj b hb hj k hk=>?_,λj b hb hj hLj=>?_,λt ht=>?_,hk,?_,?_⟩
  .obtain hj|rfl:=hbit j hj
   .exact h.F6 j hj
   exact C
  .exact Us
  .exact TG
  .exact IL
  .obtain⟨hLj,hji⟩:=z j hLj;have hj:=(hbit j hj).resolve_right hji;obtain⟨W,dj,vj,h2,h3,h4⟩:=h.vB j b hb hj hLj;have I:gf (jY ms x) j=dU:=by
    cases hm:gf (jY ms x) j
    .rfl
    rw[u x a ha La h.closed hdeps j hm]at hLj;cases hLj
   have hin:j∈l.filter λj=> !gf (jY ms x) j:=BW.2 ⟨W,by rw[I];rfl⟩;refine⟨hin,?_⟩;have hdd:∀d,a.dst=Y d->b.dst≠Y d/\d∉b.Z:=by
    intro d hd;obtain⟨g1,g2⟩:=hp.AI x j a b d (mO hji) ha hb hd;refine⟨g1,λht=>?_⟩;obtain g|⟨_,g⟩:=g2 ht
    .have:=u j b hb (gf E) h.tW (h.tW j b hb hj) x g;rw[hE]at this;cases this
    rw[I]at g;cases g
   exact Sn
  .exact Ue
  .cases a.dst<;>rfl
  cases a.dst<;>rfl
 exact U.C2 hp u
end
section
variable{P:Program}{G:ez}{R:Option S}{N:Nat}
def Zr{opsA:Array Oper}{n:L f8}{Q:Exit->St->Prop}{B:Nat->Prop}{F:Fence}{w0:World}{hV:Kx}(hp:vz n z)(g:qk n z K 0=dT)(U:opsA.size=O n)
  (hop:∀(i:Nat)(a:f8),n[i]? =Y a->∃o,opsA[i]? =Y o/\u0 P N opsA o a/\a.ka=(o.after.toList.filter (Region.binds .any)).map (·.on)):
  ∀(b:Nat)(l:Array Bool)(r:St)(w:World)(X:Kx)(act:Act),l.size=O n->AJ l<=b->
   (∃t f E c,sH P G n z (Q .normal) (me l) t f E r c/\t.pR=dT)->
   fL B w0 hV w X->jd B G N r w X act->tK X R F->
   wpAnyIn F 0 P .any opsA (λe a' w'=>∃s' κ',Q e s'/\fL B w0 hV w' κ'/\jd B G N s' w' κ' a') b l act w:=by
 have s:=PA g;have dd:∀(l:Array Bool)(i:Nat),i<l.size->l.getD i dT=l.getD i dU:=by intro l i h;simp only[xT,sg h,rd]
 have fin:∀(l:Array Bool)(r:St)(w:World)(X:Kx)(act:Act),l.size=O n->
   (∃t f E c,sH P G n z (Q .normal) (me l) t f E r c/\t.pR=dT)->
   fL B w0 hV w X->jd B G N r w X act->Region.ready .any opsA l=[]->∃s' κ',Q .normal s'/\fL B w0 hV w κ'/\jd B G N s' w κ' act:=by
  rintro l r w X act hl ⟨t,f,E,c,hs,d⟩ E0 hr hnil;have I:∀(i:Nat)(a:f8),n[i]? =Y a->me l i=dU->∃k∈a.ka,me l k=dU:=Vr;have hall:∀i,i<O n->me l i=dT:=λi hi=>
   Zn I g (λi hi=>by simp[gf]at hi) i ((Pz g i hi).resolve_left (by simp[gf]))
  have hEl:∀i,gf E i=dT->me l i=dT:=λi hi=>hall i (hs.F6 i hi);have u:t=.done:=by
   have H:∀x∈rI t,False:=by
    intro x hx;obtain⟨a,ha,hE,_⟩:=Kj (PB hs.mW x hx).1;have:=hs.sub x.1 (hall x.1 (by obtain⟨h,_⟩:=oY.1 ha;exact h))
    rw[hE]at this;cases this
   cases t with
   |done=>rfl
   |one i t=>exact(H (i,t) (by simp[rI])).elim
   |kU i t m=>exact(H (i,t) (by simp[rI])).elim
   |q i t=>cases d
   |no=>cases d
  subst u;have hd:=hs.jk;unfold i7 at hd;exact To
 intro b;induction b with
 |zero=>exact TY
 |succ b ih=>
 intro l r w X act hl hu hs E0 hr hR;refine⟨λhnil=>fin l r w X act hl hs E0 hr hnil,λi hi=>?_⟩;obtain⟨h1,o,ho,hafter⟩:=mem_ready.1 hi;have W:i<opsA.size:=qJ ho;have hlt:i<l.size:=M
 have y:i<O n:=M
 let⟨t,f,E,c,D,d⟩:=hs
 obtain⟨o',C,hop',hd⟩:=hop i n[i] (jq y);rw[ho]at C;cases C;have p:∀k∈n[i].ka,me l k=dT:=Tf;have htake:=D.take hp s d (jq y) SR p (me (l.setIfInBounds i dT)) (λj=>by
  simp only[me,xT,zG];by_cases e:i=j
  .subst e;simp[hlt]
  rw[gj e];constructor
  .exact λh=>.inl h
  rintro(h|h)
  .exact h
  exact absurd h.symm e)
 exact Uc
def Zs{F:L f8}{t:jP}{K:St->Prop}{s:St}{n:Nat}(hp:vz F z)(b:qk F z r 0=dT)(j:oO F t 0 dT=dT)(h:i7 P G F z t [] K s):
  ∃t v E c,sH P G F z K (me (Array.replicate n dU)) t v E s c/\t.pR=dT:=by
 refine Uq λhf hb=>?_;have Dy:sH P G F z K (me (Array.replicate n dU)) t [] 0 s s:=
  ⟨j,λi h=>xG,λi h=>Ja,λi a _ h=>xG,λi a _ h=>Ja,λi a _ h=>xG,
   λi a _ h=>xG,λ_ _=>Z,h,Z,Z⟩
 exact Dy.C2 hp (PA b)
def gJ.i7{s:St}{Q:Exit->St->Prop}{c:Code}{t:jP}{v z e y:L Nat}{q:L f8}(f:P.follows .mixedOrders=dT)(g:AT v t z q=dT)(K:gk P N c=Y (gx.jk e y q).m)(h:i7 P G q z t [] (Q .normal) s):gJ P G R N c s Q:=by
 unfold AT at g;simp only[jC]at g;cases c<;>simp[gk,gx.m,fS]at K;rename_i id ops d;cases d
 .simp[gk]at K
 simp only[gk,gA,gx.jk.injEq,true_and]at K
 let⟨l,o,j⟩:=K
 subst j;obtain⟨x,h2⟩:=JS o;have hp:=O4 g.2;have k:ops.size=O q:=by simpa using x
 intro B w m u F r n;refine wpIn_region_any f ?_;refine Zr (w0:=w) (hV:=m) hp g.1.1 k (λi a ha=>?_) ops.size _ s _ m u Ct ?_ (Zs hp g.1.1 g.1.2 h) (tA B w m (w.drawn+1)) ⟨r.size,r.heap.drew _,r.tmps.mono (tA B w m (w.drawn+1)),r.fX.mono (tA B w m (w.drawn+1))⟩ n
 .exact TR
 exact Tn
def gJ.Zt{c:Code}{s j:St}{n:S}(r:G.Pure)(hn:s.H.dX=n)(h:gJ P G R N c s (λe t=>e=z/\vu n (λt=>t=j) t)):gJ P G R N c s (λe t=>e=z/\t=j):=by intro B w X a F hs hr;refine Nm λold=>?_;refine wpIn_mono (h B w X a F hs hr) ?_;rintro e k d ⟨t,b,⟨rfl,s3,π,rfl,hπ,hn3,hren⟩,E,hs2⟩;refine⟨s3,b.y π (Below s3.H.dX),⟨Z,Z⟩,E.jV λp c hp=>?_,hs2.jV r hren⟩;exact Sz
def Zu{n nx:S}{D:L S}{d:L A->T AO->Prop}{s:St}(b:n.dV<=nx.dV)(hD':∀p∈D,Below n p)(h:FC n nx a D d s):vu n (λj=>∃w m,d w m/\j=⟨gB a w,D,⟨m,nx⟩⟩) s:=by
 let⟨hsD,hb⟩:=h
 obtain⟨i,hvs2,hb⟩:=lK.1 hb
 let⟨lA,c,x,f,g,hv',ho,hi⟩:=hb
 have eV:=OS g;refine⟨⟨gB a c,D,⟨x,nx⟩⟩,iP lA,⟨c,x,f,Z⟩,eV,b,?_⟩;exact Tm
def eT.i7{live:L S}{F:T A}{D:L S}{n:S}{Q:Exit->St->Prop}{g:L f8}(f:P.follows .mixedOrders=dT)(y:G.Pure)(t:jP)(nx:S)(j:L A)(x:T AO)
  (k:AT r t z g=dT)(hnx:Nat.ble n.dV nx.dV=dT)(hD:(D.all λp=>Nat.blt p.dV n.dV)=dT)
  (h:i7 P G g z t [] (FC n nx live D λw m=>w=j/\m=x) ⟨F,D,⟨m,n⟩⟩)(u:oM live j λF=>Q .normal ⟨F,D,⟨x,nx⟩⟩):eT P G d R N (.jk r z g) ⟨F,D,⟨m,n⟩⟩ Q:=by
 refine Sm λhD' hnx'=>?_;rw[wB]at u;refine .one .normal _ u λc B=>gJ.Zt y Z (gJ.i7 (Q:=λe t=>e=.normal/\vu n (λt=>t=⟨gB live j,D,⟨x,nx⟩⟩) t) f k B ?_);have b:∀{t:jP}{a:L Nat}{K C:St->Prop}{s:St},Go.As.i7 P G g z t a K s->(∀s,K s->C s)->Go.As.i7 P G g z t a C s:=by
  intro t;induction t with
  |done=>intro a K C s h hk;exact hk _ h
  |no=>intro a K C s h hk;trivial
  |q i t ih=>
   intro a K C s h hk
   let⟨F,D,⟨m,n⟩⟩:=s
   unfold Go.As.i7 at h⊢;cases ho:g[i]? with
   |none=>rw[ho]at h;exact h.elim
   |some o=>rw[ho]at h;dsimp only at h⊢;rw[qT]at h⊢;exact ML
  |one i t ih=>
   intro a K C s h hk
   let⟨F,D,⟨m,n⟩⟩:=s
   unfold Go.As.i7 at h⊢;exact TH
  |kU i t m ih l=>
  intro a K C s h hk
  let⟨F,D,⟨m,n⟩⟩:=s
  unfold Go.As.i7 at h⊢;refine⟨?_,l h.2 hk⟩;have h:=h.1;exact TH
 refine b h λs E=>⟨Z,(Zu hnx' hD' E).mono ?_⟩
 rintro s' ⟨w,m,⟨rfl,rfl⟩,rfl⟩;rfl
end
section
variable{P:Program}{G:ez}
def eL.C9{p:S}{r:A}{H:eM}(hG:G.Pure)(hp:H.ep.dZ p=Y (.dY l))(y:∀c∈l,c.Pure)(F:∀c∈j,c.Pure)(v:∀a∈K,a.Pure)(hr:r.Pure)
  (h:eL P G f (.ea .h 0::K) ⟨.n (Y (.dY l)) .e .e,.o .h⟩ λs t=>s=r/\t.ep.dZ .h=Y (.dY j)):
  eL P G f (.ea p 0::K) H λs R=>s=r/\R={H with ep:=H.ep.set p (Y (.dY j))}:=by
 intro B w b cargs hH N;obtain⟨c,Q,hBc,hrow,hUt,hU0⟩:=hH.obj p _ hp;have m:∀q o,T.dZ q ((T.e:T AO).set p (Y (.dY l)))=Y o->q=p/\o=.dY l:=by
  intro q o hq;rw[T.jr]at hq;split at hq
  .rename_i e;cases hq;exact⟨e,Z⟩
  simp at hq
 have h1:fJ (ku B H b λq=>q≠p) G {ep:=(T.e:T AO).set p (Y (.dY l)),dX:=H.dX} w b:=
  hH.Fq (λq=>q≠p) (λq o hq=>by obtain⟨rfl,rfl⟩:=m q o hq;exact⟨hp,λh=>h Z⟩) (λq h=>h)
 have Gu:∀{l:L A},(∀c∈l,c.Pure)->∀{w:World}{b g:Kx}{c:Nat},kR G w b (.dY l) c->(∀c,b.U c<=g.U c)->(∀p c,b.φ p=Y c->g.φ p=Y c)->kR G w g (.dY l) c:=by intro l y w b g c ⟨eE,e,fz,g1,g2,g3,g4⟩ hU hφ;exact⟨eE,e,fz,g1,g2,g3,λi C=>(g4 i C).dW (y _ (fB C)) hU hφ⟩
 have h2:fJ (ku B H b λq=>q≠p) G ⟨.n (Y (.dY l)) .e .e,.o .h⟩ w (b.y (λ_=>p) (λq=>q=.h)):=by
  refine h1.jV hG ⟨λq o hq=>?_,λq q' o o' hq hq' _=>?_,λq hq e=>?_⟩
  .cases q<;>simp at hq;subst hq;exact⟨Z,.dY l,by rw[T.jr];simp,jB y⟩
  .cases q<;>simp at hq;cases q'<;>simp at hq';rfl
  subst e;exact absurd hq (show¬(S.h.o.dV<=S.h.dV) by decide)
 have hr2:fR w (b.y (λ_=>p) (λq=>q=.h)) (.ea .h 0::K) cargs.toList:=by
  let⟨hl,z⟩:=N
  refine⟨by simpa using hl,λi C hj=>?_⟩;have hi':i<O (A.ea p 0::K):=by simpa using C
  have:=z i hi' hj;cases i with
  |zero=>exact eQ.jV (π:=λ_=>p) (D:=λq=>q=.h) this (.ea .h 0 Z)
  |succ i=>exact eQ.dW this (v _ (fB H9)) (λ_=>fQ _) (λ_ _ h=>h)
 have hcall:=h _ w _ cargs h2 hr2;have fin:∀v' w',FinA G (ku B H b λq=>q≠p) w (b.y (λ_=>p) (λq=>q=.h)) (λs t=>s=r/\t.ep.dZ .h=Y (.dY j)) v' w'->FinA G B w b (λs R=>s=r/\R={H with ep:=H.ep.set p (Y (.dY j))}) v' w':=by
  rintro v' w' ⟨s,H1',g,⟨rfl,hrow'⟩,E,hH1',hrv⟩;have Eh:fL (ku B H b λq=>q≠p) w b w' {ρ:=b.ρ,τ:=b.τ,U:=g.U,φ:=g.φ}:=
   Jb
  have E':fL B w b w' {ρ:=b.ρ,τ:=b.τ,U:=g.U,φ:=g.φ}:=Eh.yi (λc Q=>.inl Q);refine⟨_,_,{ρ:=b.ρ,τ:=b.τ,U:=g.U,φ:=g.φ},⟨Z,Z⟩,E',?_,hrv.dW hr (λ_=>fQ _) (λ_ _ h=>h)⟩;have old:∀q o',(H.ep.set p (Y (.dY j))).dZ q=Y o'->∃o,H.ep.dZ q=Y o:=by
   intro q o' hq;rw[T.jr]at hq;split at hq
   .rename_i e;subst e;exact⟨_,hp⟩
   exact⟨_,hq⟩
  refine⟨λk hk=>hH1'.base k (.inl hk),λq o I=>?_,λq q' o o' d hq hq' hd hd'=>?_,λq hq=>?_,λq d hq=>lw (hH.room q d hq) E.below.size,hH1'.kS,hH.gX.mono E'⟩
  .rw[T.jr]at I;split at I
   .rename_i e;subst e;cases I;obtain⟨c1,g1,g2,g3,g4,g5⟩:=hH1'.obj .h _ hrow';have:=E.jM .h c (by show(if S.h=S.h then b.ρ q else J)=Y c;simpa using Q);rw[g1]at this;cases this;exact⟨_,Q,λhb=>g2 (.inl hb),Gu F g3 (λ_=>fQ _) (λ_ _ h=>h),py,λ_=>g5 ei⟩
   rename_i hne;obtain⟨d,g1,g2,g3,g4,g5⟩:=hH.obj q o I;have hid:ku B H b (λq=>q≠p) d:=.inr ⟨q,o,hne,I,g1⟩;exact VM
  .exact MO
  obtain⟨f1,f2,W⟩:=hH.fresh q hq;refine⟨f1,f2,?_⟩;show(H.ep.set p (Y (.dY j))).dZ q=J;rw[T.jr];split
  .rename_i e;subst e;rw[hp]at W;cases W
  exact W
 exact zM
def fK.C9{p:S}{w x b:L A}{r:A}{m:T AO}{n:S}{K:A->eM->Prop}(l:G.Pure)(hp:m.dZ p=Y (.dY w))(j:∀c∈w,c.Pure)(i:∀c∈x,c.Pure)(g:∀a∈b,a.Pure)(q:r.Pure)
  (h:eL P G f (.ea .h 0::b) ⟨.n (Y (.dY w)) .e .e,.o .h⟩ λu t=>u=r/\t.ep.dZ .h=Y (.dY x))(k:T.ir (Y (.dY x)) p m λs=>K r ⟨s,n⟩):fK P G d f (.ea p 0::b) ⟨m,n⟩ K:=by
 rw[T.i6]at k;refine .one r _ k ?_;exact(eL.C9 (H:=⟨m,n⟩) l hp j i g q h)
end
def Gb{b c:Nat}:lY b (l++[c])=(lY b l||Nat.beq c b):=by
 induction l with
 |nil=>simp only[uz,lY];cases Nat.beq c b<;>rfl
 |cons x l i=>simp only[rW,lY,i];cases Nat.beq x b<;>simp
def PF{seen:L Nat}{x:gm}:∀{a:L gm},x∈nC seen a↔x∈a/\lY x.born seen=dU:=by
 intro a;induction a with
 |nil=>simp[nC]
 |cons e a i=>
 simp only[nC];cases h:lY e.born seen
 .simp only[jx,eZ,i];constructor
  .rintro(rfl|⟨K,r⟩)
   .exact⟨.inl Z,h⟩
   exact⟨.inr K,r⟩
  rintro⟨rfl|K,r⟩
  .exact .inl Z
  exact .inr ⟨K,r⟩
 simp only[gZ,i,eZ];constructor
 .rintro⟨K,r⟩;exact⟨.inr K,r⟩
 rintro⟨rfl|K,r⟩
 .rw[h]at r;cases r
 exact⟨K,r⟩
def ZU{seen:L Nat}{c:Nat}:∀{es:L gm},O (nC (seen++[c]) es)<=O (nC seen es):=by
 intro es;induction es with
 |nil=>simp[nC]
 |cons e es i=>simp only[nC,Gb];cases h:lY e.born seen<;>cases h2:Nat.beq c e.born<;>simp<;>omega
def Km{seen:L Nat}{x:gm}:∀{es:L gm},x∈es->lY x.born seen=dU->O (nC (seen++[x.born]) es)<O (nC seen es):=by
 intro es;induction es with
 |nil=>intro h;cases h
 |cons e es i=>
 intro h v;obtain rfl|h:=eZ.1 h
 .have:=ZU (seen:=seen) (c:=x.born) (es:=es);simp only[nC,Gb,v,qA,Bool.or_true,gZ,jx,lV];omega
 have:=i h v;simp only[nC,Gb];cases h:lY e.born seen<;>cases h2:Nat.beq x.born e.born<;>simp<;>omega
def ZV:∀{l:L Nat},CH (l++[b])=Y b:=by
 intro l;induction l with
 |nil=>rfl
 |cons x l i=>
 cases l with
 |nil=>rfl
 |cons y l=>exact i
section
variable{G:ez}{dY:Bool}{F:T A}{H:eM}{x:IX}
def wM{p q:S}{a c W:Nat}{seen:L Nat}(v:x.ev G F=Y (.ea p 0))(C:H.ep.dZ p=Y (.b (Y q) a seen c))(f:H.ep.dZ q=Y (.map b W))(K:wo a b=dT)(r:wo c b=dT):
  ((∀e∈b,lY e.born seen=dT)/\fA G dY F H (.uL x)=Y (.val (.eK [.bool dU])))\/
  ∃l,(∀y∈l,∃e∈b,lY e.born seen=dU/\y=(.b (Y q) a (seen++[e.born]) W,.eK [.bool dT,e.key,e.val]))/\fA G dY F H (.uL x)=Y (.any l p):=by
 have g:om H q=Y (b,W):=by simp only[om,f]
 have step:fA G dY F H (.uL x)=(match nC seen b with
   |[]=>Y (.val (.eK [.bool dU]))
   |e::l=>Y (.any ((e::l).map λe=>(.b (Y q) a (seen++[e.born]) W,.eK [.bool dT,e.key,e.val])) p)):=by
  simp only[fA,fG,v,jm,Jm,C,g,K,r,Bool.true_or,qG,gZ];rfl
 cases hl:nC seen b with
 |nil=>
  left;refine⟨λe i=>?_,by rw[step,hl]⟩;cases hb:lY e.born seen
  .have:=PF.2 ⟨i,hb⟩;rw[hl]at this;cases this
  rfl
 |cons e l=>right;refine⟨_,λy j=>?_,by rw[step,hl]⟩;obtain⟨k,d,rfl⟩:=gS.1 j;obtain⟨h,t⟩:=PF.1 (hl▸d);exact⟨k,h,t,Z⟩
def ZW{p q:S}{seen:L Nat}{c:L gm}{e:gm}(v:x.ev G F=Y (.ea p 0))(C:H.ep.dZ p=Y (.b (Y q) a (seen++[b]) W))(f:H.ep.dZ q=Y (.map c W))(d:Af b c=Y e):
  fA G dY F H (.entry x)=Y (.val (.eK [e.key,e.val])):=by
 simp only[fA,fG,v,jm,Jo,C,ZV,om,f,qA,gZ,d,jb]
def AW{p q:S}{seen:L Nat}{c:L gm}{e:gm}{K:iD->Prop}{r:Prop}(z:r)(v:x.ev G F=Y (.ea p 0):=by rfl)(C:H.ep.dZ p=Y (.b (Y q) a (seen++[b]) W):=by rfl)(f:H.ep.dZ q=Y (.map c W):=by rfl)(d:Af b c=Y e:=by rfl)(w:r->K (.val (.eK [e.key,e.val])):=by intro k;(conv=>whnf);exact k):im (fA G dY F H (.entry x)) K:=fH (ZW v C f d) (w z)
def ZX{p:S}{i:L Nat}(v:x.ev G F=Y (.ea p 0))(C:H.ep.dZ p=Y (.kQ (b::i) d)):
  ∃c a e,fA G dY F H (.wq x)=Y (.put p (.kQ a e) (.eK [.bool dT,.int .i64 (.ofNat d),.int .i32 (.ofNat c)])):=by
 simp only[fA,fG,v,jm,CG,C];cases Nat.blt b 128<;>exact⟨_,_,_,Z⟩
end
def wN{P:AO->A->Prop}:∀{l:L (AO×A)},(∀y∈l,P y.1 y.2)->qe l P:=by
 intro l;induction l with
 |nil=>intro _;trivial
 |cons y l i=>intro h;exact⟨h y ei,i λz c=>h z (by simp[c])⟩
def pick(t:T AO):L S->T AO
 |[]=>.e
 |p::l=>(pick t l).set p (t.dZ p)
def PG{t:T AO}{q:S}:∀{l:L S},(pick t l).dZ q=if q∈l then t.dZ q else J:=by
 intro l;induction l with
 |nil=>simp[pick]
 |cons p l i=>
 simp only[pick,T.jr,i,eZ];by_cases h:q=p
 .subst h;simp
 simp[h]
section
variable{P:Program}{G:ez}
def eL.part{f:FuncId}{K args1:L A}{H N:eM}{Q Q1:A->eM->Prop}(hG:G.Pure)(t:L S)(j C:S->S)(v:∀p∈t,C (j p)=p)
  (hobj:∀p o,N.ep.dZ p=Y o->p∈t/\∃o',H.ep.dZ (j p)=Y o'/\jW j (·∈t) o' o)(hdom:∀p∈t,∃o,N.ep.dZ p=Y o)(hnx:∀q:S,N.dX.dV<=q.dV->¬q∈t)
  (hargs:mD j (·∈t) K args1)(z:eL P G f args1 N Q1)
  (I:∀r1 D,Q1 r1 D->∃r H',Q r H'/\gL C (·∈t.map j) r1 r/\iY (λ_=>True) (λ_=>False) r/\H'.dX=H.dX/\
   (∀q o,H'.ep.dZ q=Y o->(q∈t.map j/\o≠.eY/\pO (λ_=>True) (λ_=>False) o/\∃o1,D.ep.dZ (C q)=Y o1/\jW C (·∈t.map j) o1 o)\/(¬q∈t.map j/\H.ep.dZ q=Y o))):eL P G f K H Q:=by
 intro B w g cargs hH hrel;have R:∀q∈t.map j,∃o,H.ep.dZ q=Y o:=UV;have h1:fJ (ku B H g λq=>¬q∈t.map j) G {ep:=pick H.ep (t.map j),dX:=H.dX} w g:=by
  refine hH.Fq (λq=>¬q∈t.map j) (λq o hq=>?_) (λq h=>h);rw[PG]at hq;split at hq
  .rename_i F;exact⟨hq,λh=>h F⟩
  cases hq
 have h2:fJ (ku B H g λq=>¬q∈t.map j) G N w (g.y j (·∈t)):=by
  refine h1.jV hG ⟨λq o hq=>?_,λq q' o o' hq hq' e=>?_,hnx⟩
  .obtain⟨hp,o',ho',hr⟩:=hobj q o hq;exact⟨hp,o',by rw[PG,gO (zF hp)];exact ho',hr⟩
  have h3:=v q (hobj q o hq).1;have h4:=v q' (hobj q' o' hq').1;rw[<-h3,<-h4,e]
 have hr2:fR w (g.y j (·∈t)) args1 cargs.toList:=by
  obtain⟨hl,s⟩:=hrel;generalize cargs.toList=cs at hl s⊢;clear z;induction K generalizing args1 cs with
  |nil=>exact Ua
  |cons a l ih=>
  cases args1 with
  |nil=>exact hargs.elim
  |cons a1 l1=>
  cases cs with
  |nil=>simp at hl
  |cons c cs=>
  obtain⟨k1,k2⟩:=ih hargs.2 cs EE (λi hi hj=>s (i+1) zS Jc);refine⟨by simp[k1],λi hi hj=>?_⟩;cases i with
  |zero=>exact(s 0 ei ei).jV hargs.1
  |succ i=>exact k2 i zS Jc
 have hc:=z _ w _ cargs h2 hr2;have fin:∀v' w',FinA G (ku B H g λq=>¬q∈t.map j) w (g.y j (·∈t)) Q1 v' w'->FinA G B w g Q v' w':=by
  rintro v' w' ⟨r1,D,m,hq1,E,n,hrv⟩;obtain⟨r,H',hQ,hrr,hrw,hn,y⟩:=I r1 D hq1;have Eh:fL (ku B H g λq=>¬q∈t.map j) w g w' {ρ:=g.ρ,τ:=g.τ,U:=m.U,φ:=m.φ}:=
   Jb
  have E':fL B w g w' {ρ:=g.ρ,τ:=g.τ,U:=m.U,φ:=m.φ}:=Eh.yi (λc hc=>.inl hc);have b:∀q c,(m.y C (·∈t.map j)).ρ q=Y c->g.ρ q=Y c:=by
   intro q c hq;simp only[Kx.y]at hq;split at hq
   .rename_i F;obtain⟨p,hp,rfl⟩:=gS.1 F;rw[v p hp]at hq;obtain⟨o,ho⟩:=R _ F;obtain⟨d,hd,_⟩:=hH.obj _ o ho;have:=E.jM p d (by rw[sA hp];exact hd);rw[hq]at this;cases this;exact hd
   cases hq
  refine⟨r,H',{ρ:=g.ρ,τ:=g.τ,U:=m.U,φ:=m.φ},hQ,E',?_,(hrv.jV hrr).oq hrw (λq c _ h=>b q c h) xD xD (λ_=>fQ _) (λ_ _ h=>h)⟩;have old:∀q o',H'.ep.dZ q=Y o'->∃o,H.ep.dZ q=Y o:=by
   intro q o' hq;obtain⟨F,_⟩|⟨_,h⟩:=y q o' hq
   .exact R q F
   exact⟨_,h⟩
  refine⟨λk hk=>n.base k (.inl hk),λq o ho=>?_,λq q' o o' d hq hq' hd hd'=>?_,λq hq=>?_,λq d hq=>lw (hH.room q d hq) E.below.size,n.kS,hH.gX.mono E'⟩
  .obtain⟨F,W,how,o1,ho1,hro⟩|⟨hne,ho⟩:=y q o ho
   .obtain⟨c1,g1,g2,g3,g4,g5⟩:=n.obj _ o1 ho1;have hcq:g.ρ q=Y c1:=b q c1 (by rw[sA F];exact g1);exact⟨c1,hcq,λhb=>g2 (.inl hb),(g3.jV hro).oq how (λq c _ h=>b q c h) xD xD (λ_=>fQ _) (λ_ _ h=>h) Z,
     λe=>absurd e W,λ_=>g5 (λe=>W (hro.uY.1 e))⟩
   obtain⟨d,g1,g2,g3,g4,g5⟩:=hH.obj q o ho;have hid:ku B H g (λq=>¬q∈t.map j) d:=.inr ⟨q,o,hne,ho,g1⟩;exact VM
  .exact MO
  exact Sq
 exact MA
end
def rJ(l:L (S×S)):L (S×S):=l.map λx=>(x.2,x.1)
def Ge:L (S×AO)->T AO->(T AO->Prop)->Prop
 |[],m,K=>K m
 |x::l,m,K=>T.ir (Y x.2) x.1 m λa=>Ge l a K
def Ks(l:L (S×S))(nx:S):Bool:=l.all λx=>jT (iP (rJ l) (iP l x.1)) x.1&&Nat.blt x.1.dV nx.dV
def AX(l:L (S×S)):L (S×AO)->L (S×AO)->Prop
 |[],[]=>True
 |x::s,y::b=>(jT y.1 (iP l x.1)=dT/\y.2≠.eY/\pO (λ_=>True) (λ_=>False) y.2/\jW (iP (rJ l)) (·∈(l.map (·.1)).map (iP l)) x.2 y.2)/\AX l s b
 | _,_=>False
def qV(H:eM)(s:L (S×AO)):Prop:=wJ (λx=>H.ep.dZ x.1=Y x.2) s
def Gf:L (S×AO)->T AO->T AO
 |[],m=>m
 |x::l,m=>Gf l (m.set x.1 (Y x.2))
def Z1:∀{l:L (S×AO)}{m:T AO}{K:T AO->Prop},Ge l m K=K (Gf l m):=by
 intro l;induction l with
 |nil=>intro m K;rfl
 |cons x l i=>intro m K;simp only[Ge,Gf,T.i6,i]
def Z2:∀{l:L (S×AO)}{m:T AO}{q:S}{o:AO},(Gf l m).dZ q=Y o->(q,o)∈l\/((∀y∈l,y.1≠q)/\m.dZ q=Y o):=by
 intro l;induction l with
 |nil=>intro m q o h;exact .inr ⟨(λy a=>by cases a),h⟩
 |cons x l i=>
 intro m q o h;obtain h|⟨K,r⟩:=i h
 .exact .inl (by simp[h])
 rw[T.jr]at r;split at r
 .rename_i e;cases r;subst e;exact .inl ei
 rename_i e;refine .inr ⟨λy a=>?_,r⟩;obtain rfl|a:=eZ.1 a
 .exact λh=>e h.symm
 exact K y a
def AX.ep:∀{s b:L (S×AO)},AX l s b->∀y∈b,∃x∈s,y.1=iP l x.1/\y.2≠.eY/\pO (λ_=>True) (λ_=>False) y.2/\jW (iP (rJ l)) (·∈(l.map (·.1)).map (iP l)) x.2 y.2:=by
 intro s;induction s with
 |nil=>intro b h y a;cases b with|nil=>cases a|cons=>exact h.elim
 |cons x s i=>
 intro b h y a;cases b with
 |nil=>exact h.elim
 |cons z b=>
 obtain rfl|a:=eZ.1 a
 .refine⟨x,ei,?_,h.1.2⟩;have:=h.1.1;rw[mA]at this;exact j0 this
 obtain⟨c,K,r⟩:=i h.2 y a;exact⟨c,by simp[K],r⟩
def AX.all:∀{s b:L (S×AO)},AX l s b->∀x∈s,∃y∈b,y.1=iP l x.1:=by
 intro s;induction s with
 |nil=>intro b h y a;cases a
 |cons x s i=>
 intro b h y a;cases b with
 |nil=>exact h.elim
 |cons z b=>
 obtain rfl|a:=eZ.1 a
 .refine⟨z,ei,?_⟩;have:=h.1.1;rw[mA]at this;exact j0 this
 obtain⟨c,K,r⟩:=i h.2 y a;exact⟨c,by simp[K],r⟩
section
variable{P:Program}{G:ez}
def fK.part{a args1:L A}{m:T AO}{n:S}{K:A->eM->Prop}{r r1:A}(hG:G.Pure)(l:L (S×S))(nx:S)(s j b:L (S×AO))(hl:Ks l nx=dT)
  (Q:s.map (·.1)=l.map (·.1))(k:j.map (·.1)=l.map (·.1))(i:wJ (λx=>im (m.dZ (iP l x.1)) λF=>jW (iP l) (·∈l.map (·.1)) F x.2) s)(c:mD (iP l) (·∈l.map (·.1)) a args1)
  (h:eL P G f args1 ⟨hp s,nx⟩ λR D=>R=r1/\qV D j)(hr:gL (iP (rJ l)) (·∈(l.map (·.1)).map (iP l)) r1 r)(E:iY (λ_=>True) (λ_=>False) r)(H:AX l j b)
  (I:Ge b m λm'=>K r ⟨m',n⟩):fK P G d f a ⟨m,n⟩ K:=by
 rw[Z1]at I;have g:∀p∈l.map (·.1),iP (rJ l) (iP l p)=p/\p.dV<nx.dV:=by intro p hp;obtain⟨x,v,rfl⟩:=gS.1 hp;have:=lf.1 hl x v;simp only[jC,mA,oh,lm]at this;exact this
 refine .one r _ I ?_;refine eL.part hG (l.map (·.1)) (iP l) (iP (rJ l)) (λp hp=>(g p hp).1) (λp o hp=>?_) (λp hp=>?_) (λq t C=>?_) c h ?_
 .have z:=vC hp;have B:=i.ep _ z;obtain⟨F,h3,h4⟩:=lK.1 B;exact⟨Q▸zF z,F,h3,h4⟩
 .rw[<-Q]at hp;have:∀(s:L (S×AO)),p∈s.map (·.1)->∃o,(Go.As.hp s).dZ p=Y o:=by
   intro s;induction s with
   |nil=>intro h;cases h
   |cons x s ih=>
   intro h;simp only[Go.As.hp,T.jr];by_cases e:p=x.1
   .rw[gO e];exact⟨_,Z⟩
   rw[gj e];simp only[jL,eZ]at h;exact ih (h.resolve_left e)
  exact this s hp
 .have:=(g q C).2;have t:nx.dV<=q.dV:=t;omega
 rintro R D ⟨rfl,hg⟩;refine⟨r,_,⟨Z,Z⟩,hr,E,Z,λq o t=>?_⟩;obtain h|⟨z,B⟩:=Z2 t
 .obtain⟨x,v,w,U,N,W⟩:=H.ep _ h;left;have u:x.1∈l.map (·.1):=k▸zF v;refine⟨?_,U,N,x.2,?_,W⟩
  .dsimp only at w;rw[w];exact zF u
  dsimp only at w;rw[w,(g _ u).1];exact hg.ep x v
 right;refine⟨λC=>?_,B⟩;obtain⟨p,hp,rfl⟩:=gS.1 C;rw[<-k]at hp;obtain⟨x,v,rfl⟩:=gS.1 hp;obtain⟨y,hy,e⟩:=H.all x v;exact z y hy e
end
inductive mg (G:ez):EK→IntKind→A→Prop
 |int (k:IntKind)(z:Int):mg G .int k (.int k z)
 |J (k:IntKind)(s:List Nat):mg G .J k (.J s)
 |fz (k:IntKind)(p:S)(off:Nat)(cs:List A)(h:G.fU p=some cs):mg G .ea k (.fz p off)
def oP:gD a b=dT↔a=b:=by cases a<;>cases b<;>simp[gD,nr]<;>omega
def Kt(k:IntKind):xW k k=dT:=by cases k<;>rfl
section
variable{G:ez}{H:eM}{kd:EK}{kk:IntKind}
def Z3{a b:A}(ha:mg G kd kk a)(hb:mg G kd kk b):∃r,jj G H dU kd a b=Y r/\(r=dT↔a=b):=by
 cases ha with
 |int k z=>
  cases hb with
  |int _ z'=>
  refine⟨gD z z',by simp only[jj,Kt,gZ],?_⟩;rw[oP];constructor
  .rintro rfl;rfl
  intro h;cases h;rfl
 |J k s=>
  cases hb with
  |J _ s'=>
  refine⟨iT s s',Z,?_⟩;rw[uV,oh];constructor
  .rintro rfl;rfl
  intro h;cases h;rfl
 |fz k p off cs h=>
 cases hb with
 |fz _ q off' cs' h'=>
 simp only[jj,mA];by_cases e:p=q
 .subst e;refine⟨Nat.beq off off',ei,?_⟩;rw[nr];constructor
  .rintro rfl;rfl
  intro h;cases h;rfl
 refine⟨dU,by simp[e,h,h'],?_⟩;constructor
 .intro h;cases h
 intro h;cases h;exact absurd Z e
open Classical in
def sN(k:A):L gm->Nat->Option (Nat×A×Nat)
 |[],_=>J
 |e::es,i=>if k=e.key then Y (i,e.val,e.born)else sN k es (i+1)
def PH{k:A}(hk:mg G kd kk k):∀{es:List gm}(_ :∀e∈es,mg G kd kk e.key)(i:Nat),ol G H kd k es i=Y (sN k es i):=by
 intro es;induction es with
 |nil=>intro _ i;rfl
 |cons e es ih=>
 intro hes i;obtain⟨r,h1,h2⟩:=Z3 (H:=H) hk (hes e (by simp));simp only[ol,h1,jm,sN];cases r
 .rw[gj (λh=>by have:=h2.2 h;cases this)];exact ih (λe he=>hes e (by simp[he])) (i+1)
 rw[gO (h2.1 Z)];rfl
def PI{k:A}:∀{es:L gm}(i:Nat),
  (∀j v b,sN k es i=Y (j,v,b)->∃(t:Nat)(o:t<O es),j=i+t/\es[t].key=k/\es[t].val=v)/\(sN k es i=J->∀e∈es,e.key≠k):=by
 intro es;induction es with
 |nil=>intro i;exact⟨(λj v b h=>by cases h),λ_ e n=>by cases n⟩
 |cons e es p=>
 intro i;obtain⟨l,m⟩:=p (i+1);by_cases d:k=e.key
 .refine⟨λj v b h=>?_,λh=>?_⟩
  .simp only[sN,gO d,oZ,wh]at h;obtain⟨rfl,rfl,rfl⟩:=h;exact⟨0,ei,M,d.symm,Z⟩
  simp only[sN,gO d]at h;cases h
 refine⟨λj v b h=>?_,λh g f=>?_⟩
 .simp only[sN,gj d]at h;obtain⟨t,o,W,a,c⟩:=l j v b h;exact⟨t+1,by simp;omega,M,by simpa using a,by simpa using c⟩
 simp only[sN,gj d]at h;obtain rfl|f:=eZ.1 f
 .exact λh=>d h.symm
 exact m h g f
def mg.ok{k:A}(P:mg G kd kk k):p8 kd k=dT:=by cases P<;>rfl
section
variable{dY:Bool}{F:T A}{x y z:IX}
def yF(kd:EK)(a:L gm)(zero k:A)(G:ez)(v:A)(b:Bool):Prop:=
 (∀(dY:Bool)(F:T A)(H:eM)(x y:IX)(p:S)(W:Nat)(ok:Bool),x.ev G F=Y (.map p)->H.ep.dZ p=Y (.map a W)->y.ev G F=Y k->fA G dY F H (.look kd zero x y ok)=Y (.val (cond ok (.eK [v,.bool b]) v)))/\
  ((b=dT/\∃e∈a,e.key=k/\e.val=v)\/(b=dU/\v=zero/\∀e∈a,e.key≠k))
def rK{k zero:A}{es:L gm}(P:mg G kd kk k)(a:∀e∈es,mg G kd kk e.key):∃v b,yF kd es zero k G v b:=by
 obtain⟨r,m⟩:=PI (k:=k) (es:=es) 0;cases hr:sN k es 0 with
 |none=>refine⟨zero,dU,λdY F H x y p W ok g f h=>?_,.inr ⟨Z,Z,m hr⟩⟩;exact U4
 |some t=>
 let⟨j,v,b⟩:=t
 obtain⟨t,l,d,i,N⟩:=r j v b hr;refine⟨v,dT,λdY F H x y p W ok g f h=>?_,.inl ⟨Z,_,fB l,i,N⟩⟩;exact U4
def Z4{k v:A}:∀{b:L gm}{i:Nat}(_ :i<O b){c:gm},c∈lz i k v b->c∈b\/(c.key=k/\c.val=v):=by
 intro b;induction b with
 |nil=>intro i h;simp at h
 |cons e b d=>
 intro i h c a;cases i with
 |zero=>
  simp only[lz,eZ]at a;obtain rfl|a:=a
  .exact .inr ⟨Z,Z⟩
  exact .inl (by simp[a])
 |succ i=>
 simp only[lz,eZ]at a;obtain rfl|a:=a
 .exact .inl ei
 obtain h|h:=d ly a
 .exact .inl (by simp[h])
 exact .inr h
def Z5{k v:A}:∀{a:L gm}{i:Nat}(_ :i<O a),∃b∈lz i k v a,b.key=k/\b.val=v:=by
 intro a;induction a with
 |nil=>intro i h;simp at h
 |cons e a c=>
 intro i h;cases i with
 |zero=>exact⟨_,by simp only[lz];exact mw ..,Z,Z⟩
 |succ i=>obtain⟨b,K,r⟩:=c (i:=i) ly;exact⟨b,by simp only[lz];exact mL _ K,r⟩
def Z6{k v:A}:∀{b:L gm}{i:Nat}(h:i<O b),b[i].key=k->∀e∈b,e.key≠k->e∈lz i k v b:=by
 intro b;induction b with
 |nil=>intro i h;simp at h
 |cons e b f=>
 intro i h P d a c;cases i with
 |zero=>
  simp only[lz];obtain rfl|a:=eZ.1 a
  .exact absurd P c
  exact mL _ a
 |succ i=>
 simp only[lz];obtain rfl|a:=eZ.1 a
 .exact mw ..
 exact mL _ (f ly (by simpa using P) d a c)
def Z7(kd:EK)(d:L gm)(W:Nat)(k v:A)(G:ez)(b:L gm)(a:Nat):Prop:=
 (∀(dY:Bool)(F:T A)(H:eM)(x y z:IX)(p:S),x.ev G F=Y (.map p)->H.ep.dZ p=Y (.map d W)->y.ev G F=Y k->z.ev G F=Y v->fA G dY F H (.p9 kd x y z)=Y (.put p (.map b a) (.eK [])))/\
  (∀c∈b,c∈d\/(c.key=k/\c.val=v))/\(∃c∈b,c.key=k/\c.val=v)/\∀e∈d,e.key≠k->e∈b
def yG{k v:A}{es:L gm}{clock:Nat}(P:mg G kd kk k)(n:∀e∈es,mg G kd kk e.key):∃i a,Z7 kd es clock k v G i a:=by
 obtain⟨r,m⟩:=PI (k:=k) (es:=es) 0;cases hr:sN k es 0 with
 |none=>
  refine⟨es++[{key:=k,val:=v,born:=clock}],clock+1,λdY F H x y z p s f u c=>?_,λw g=>?_,⟨{key:=k,val:=v,born:=clock},ei,Z,Z⟩,λe C _=>by simp[C]⟩
  .exact Vo
  obtain h|h:=jf.1 g
  .exact .inl h
  simp only[Cp]at h;subst h;exact .inr ⟨Z,Z⟩
 |some t=>
 let⟨j,l,b⟩:=t
 obtain⟨t,q,d,B,N⟩:=r j l b hr;obtain rfl:t=j:=M
 refine⟨lz t k v es,clock,λdY F H x y z p s f u c=>?_,λw g=>Z4 q g,Z5 q,Z6 q B⟩;exact Vo
end
end
section
variable{P:Program}{G:ez}
def eL.drop{v:A}(N:v.Pure)(h:eL P G f K H λr D=>r=v/\∀p o,H.ep.dZ p=Y o->D.ep.dZ p=Y o):eL P G f K H λr D=>r=v/\D=H:=by
 intro B w i cargs n q;have hc:=h B w i cargs n q;have fin:∀l w',FinA G B w i (λr D=>r=v/\∀p o,H.ep.dZ p=Y o->D.ep.dZ p=Y o) l w'->FinA G B w i (λr D=>r=v/\D=H) l w':=by
  rintro l w' ⟨r,D,b,⟨rfl,ey⟩,E,hH',hrv⟩;have y:fL B w i w' {ρ:=i.ρ,τ:=i.τ,U:=b.U,φ:=b.φ}:=Jb;have j:∀p c,(i.ρ p).isSome=dT->b.ρ p=Y c->i.ρ p=Y c:=by intro p c s hc;obtain⟨d,a⟩:=oW.1 s;have:=E.jM p d a;rw[hc]at this;cases this;exact a
  have k:∀p c,(i.τ p).isSome=dT->b.τ p=Y c->i.τ p=Y c:=by intro p c s hc;obtain⟨d,a⟩:=oW.1 s;have:=E.qI p d a;rw[hc]at this;cases this;exact a
  refine⟨_,H,{ρ:=i.ρ,τ:=i.τ,U:=b.U,φ:=b.φ},⟨Z,Z⟩,y,⟨hH'.base,λp o F=>?_,n.inj,n.fresh,λp c hp=>lw (n.room p c hp) E.below.size,hH'.kS,n.gX.mono y⟩,hrv.dW N (λ_=>fQ _) (λ_ _ h=>h)⟩;obtain⟨c,C,t,m,g,g5⟩:=n.obj p o F;obtain⟨z,W,k2,Q,R,k5⟩:=hH'.obj p o (ey p o F);obtain rfl:z=c:=by have:=E.jM p c C;rw[W]at this;cases this;rfl
  refine⟨z,C,t,Q.oq m.ry j (λp c h=>j p c h.1) (λp c h=>k p c h.2) (λ_=>fQ _) (λ_ _ h=>h) Z,λe=>?_,k5⟩;have t1:=E.qI p _ (g e);have I:=R e;rw[t1]at I;exact(g e).trans I
 exact MA
def eL.PM{s:L (S×AO)}{n:S}{v:A}(a:v.Pure)(h:eL P G f K ⟨hp s,n⟩ λr D=>r=v/\qV D s):eL P G f K ⟨hp s,n⟩ λr D=>r=v/\D=⟨hp s,n⟩:=
 .drop a (h.mono λ_ _ ⟨b,c⟩=>⟨b,λp o hp=>c.ep (p,o) (vC hp)⟩)
end
section
variable{P:Program}{G:ez}{R:Option S}{N:Nat}
def aap(a:L S)(D:L S)(b:L A->T AO->S->Prop)(s:St):Prop:=s.D=D/\im (mq s.F a) λw=>b w s.H.ep s.H.dX
def eT.jl{e:L S}{F:T A}{D:L S}{m:T AO}{n:S}{Q:Exit->St->Prop}(I:Nat->L A->T AO->S->Prop)(o:Nat)
  (B:mq F e=Y w)(c:I o w m n)
  (h:∀k w m n,I k w m n->oM e w λF=>kB P G d R N a ⟨F,D,⟨m,n⟩⟩ (l9 (aap e D λl C E=>∃i,i<k/\I i l C E) Q)):eT P G d R N (.loop e a) ⟨F,D,⟨m,n⟩⟩ Q:=by
 refine eT.AL (λk s=>∃w m n,I k w m n/\s=⟨gB e w,D,⟨m,n⟩⟩) o ⟨gB e w,D,⟨m,n⟩⟩ ⟨w,m,n,c,Z⟩ (λq v t=>tT B q v t) Z Z ?_;rintro k s ⟨w,m,n,r,rfl⟩;have h1:=h k w m n r;refine IV λh1=>?_;rintro z ⟨p,j⟩;obtain⟨g,f,i,b,u⟩:=lK.1 j;exact⟨⟨gB e g,D,z.H⟩,⟨i,b,g,z.H.ep,z.H.dX,u,Z⟩,λq v t=>tT f q v t,p.symm,Z⟩
end
def Di{a:Type}{v:Option a}{p:S}{t:T a}{K:T a->Prop}(h:K (t.set p v)):T.ir v p t K:=by rw[T.i6];exact h
def A0{o:AO}{n:S}{m:T AO}{K:T AO->S->Prop}(h:K (m.set n (Y o)) n.succ):T.ir (Y o) n m (λb=>mr n λa=>K b a):=by rw[T.i6,ou];exact h
def eJ{p q:S}{t:T AO}(h:q.dV≠p.dV):T.dZ q (t.set p v)=T.dZ q t:=T.gh _ _ _ _ λe=>h CB
def fY{p:S}{t:T AO}:T.dZ p (t.set p v)=v:=T.EZ _ _ _
def gE{p:S}{t a:T AO}(h:a=t.set p v):a.dZ p=v:=by rw[h];exact fY
def gN{p q:S}{v o:Option AO}{t a:T AO}(h:a=t.set p v)(g:t.dZ q=o)(E:q.dV≠p.dV:=by omega):a.dZ q=o:=by rw[h,eJ E];exact g
def lS{p q:S}(h:q=p.succ):p.dV<q.dV:=by rw[h,S.gG];omega
section
variable{G:ez}{dY:Bool}{F:T A}{m:T AO}{k:S}{x y:IX}
def lB{n:Option Nat}{p:S}(a:x.ev G F=Y (.ea p b))(hp:m.dZ p=Y (.dY w))(h:oy b n w=Y v):fA G dY F ⟨m,k⟩ (.load n x)=Y (.val v):=by simp only[fA,a,qL,li,hp,jm,jb,h]
def ip{n:Nat}{w cs':L A}{p:S}{v:A}(a:x.ev G F=Y (.ea p b))(c:y.ev G F=Y v)(hp:m.dZ p=Y (.dY w))(K:Nat.beq (O v.cells) n=dT)(r:fN v.cells=dT)(h:kK b v.cells w=Y cs'):
  fA G dY F ⟨m,k⟩ (.store n x y)=Y (.put p (.dY cs') (.eK [])):=by
 simp only[fA,a,c,li,hp,jm,h,K,r,qG,gZ,jb]
def eu{n:Option Nat}{p:S}{K:iD->Prop}{q:Prop}(hp:m.dZ p=Y (.dY a))(z:q)(c:x.ev G F=Y (.ea p b):=by rfl)(h:oy b n a=Y v:=by rfl)(w:q->K (.val v):=by intro k;(conv=>whnf);exact k):im (fA G dY F ⟨m,k⟩ (.load n x)) K:=fH (lB c hp h) (w z)
def mF{n:Nat}{c a:L A}{p:S}{K:iD->Prop}{q:Prop}(hp:m.dZ p=Y (.dY c))(z:q)(e:x.ev G F=Y (.ea p b):=by rfl)(f:y.ev G F=Y v:=by rfl)(d:Nat.beq (O v.cells) n=dT:=by rfl)(r:fN v.cells=dT:=by rfl)(h:kK b v.cells c=Y a:=by rfl)(w:q->K (.put p (.dY a) (.eK [])):=by intro k;(conv=>whnf);exact k):im (fA G dY F ⟨m,k⟩ (.store n x y)) K:=fH (ip e f hp d r h) (w z)
end
inductive Ap (m:T AO)(sz:Nat):A→List A→Option S→Prop
 |nil:Ap m sz .ej [] none
 |eG (j:Nat)(cs:List A)(t:S)(h:m.dZ t=some .eY)(hl:cs.length=j*sz):Ap m sz (.eG sz j cs (.open t)) cs (some t)
def sQ(t:Option S)(m:T AO):T AO:=match t with|none=>m|some p=>m.set p J
def PW{t:Option S}{m:T AO}{K:T AO->Prop}(h:K (sQ t m)):vw t m K:=by
 cases t with
 |none=>exact h
 |some p=>exact Di h
def aaq{t:Option S}{m:T AO}{q:S}(h:∀p,t=Y p->q≠p):(sQ t m).dZ q=m.dZ q:=by
 cases t with
 |none=>rfl
 |some p=>exact T.gh _ _ _ _ (h p Z)
end Go.As
namespace Go.As
open Go.RowKit
def eX(m:T AO)(n:S):Prop:=∀p o,m.dZ p=Y o->p.dV<n.dV
def eX.set{m:T AO}{n n' p:S}{o:Option AO}(h:eX m n)(hp:p.dV<n'.dV)(E:n.dV<=n'.dV):eX (m.set p o) n':=by
 intro q r t;rw[T.jr]at t;split at t
 .rename_i e;subst e;exact hp
 exact lw (h q r t) E
def eX.ew{m:T AO}{n:S}{o:Option AO}(h:eX m n):eX (m.set n o) n.succ:=h.set kP kP
def eX.put{m:T AO}{n p:S}{o:Option AO}(h:eX m n)(hp:p.dV<n.dV):eX (m.set p o) n:=h.set hp (fQ _)
def eX.nT{m:T AO}{n:S}{t:Option S}(h:eX m n):eX (sQ t m) n:=by
 cases t with
 |none=>exact h
 |some p=>
 intro q o a;simp only[sQ]at a;rw[T.jr]at a;split at a
 .cases a
 exact h q o a
def eX.e{n:S}:eX .e n:=λp o h=>by simp at h
def Fr(w:S->Prop)(m a:T AO):Prop:=∀q o,¬w q->m.dZ q=Y o->a.dZ q=Y o
def Fr.refl{w:S->Prop}{m:T AO}:Fr w m m:=λ_ _ _ h=>h
def Fr.trans{w:S->Prop}{a b c:T AO}(h:Fr w a b)(k:Fr w b c):Fr w a c:=λq o t d=>k q o t (h q o t d)
def Fr.mono{ex ex':S->Prop}(h:Fr ex a b)(k:∀q,ex q->ex' q):Fr ex' a b:=λq o t w=>h q o (λe=>t (k q e)) w
def Fr.put{ex:S->Prop}{a b:T AO}{p:S}{o:Option AO}(h:Fr ex a b)(hp:ex p):Fr ex a (b.set p o):=λq r t w=>by rw[T.gh _ _ _ _ (λe=>t (by rw[e];exact hp))];exact h q r t w
def Fr.ew{ex:S->Prop}{n:S}{o:Option AO}(h:Fr ex a b)(j:eX a n):Fr ex a (b.set n o):=λq r t w=>by rw[eJ (by have:=j q r w;omega)];exact h q r t w
def Fr.nT{w:S->Prop}{t:Option S}(h:Fr w a b)(j:∀p,t=Y p->w p):Fr w a (sQ t b):=by
 cases t with
 |none=>exact h
 |some p=>exact h.put (j p Z)
def lC(t:Option S)(m:T AO)(n:S):T AO:=(sQ t m).set n (Y .eY)
def sR{t:Option S}{n:S}{m:T AO}{K:T AO->S->Prop}(h:K (lC t m n) n.succ):vw t m λv=>T.ir (Y .eY) n v λb=>mr n λa=>K b a:=by refine PW ?_;rw[T.i6,ou];exact h
def oQ{t:Option S}{m:T AO}{n:S}:(lC t m n).dZ n=Y .eY:=fY
def jZ{t:Option S}{m:T AO}{n q:S}(h:q.dV≠n.dV)(j:t≠Y q):(lC t m n).dZ q=m.dZ q:=by rw[lC,eJ h];exact aaq λp e a=>j (by rw[e,a])
def eX.iW{t:Option S}{m:T AO}{n:S}(h:eX m n):eX (lC t m n) n.succ:=h.nT.ew
def Ap.eY{m:T AO}{o:Nat}{t:Option S}(h:Ap m o v w t):∀q,t=Y q->m.dZ q=Y .eY:=by
 cases h with
 |nil=>intro q e;cases e
 |eG j w t h a=>intro q e;cases e;exact h
def Ap.mono{m m':T AO}{o:Nat}{t:Option S}(h:Ap m o v w t)(f:∀q,t=Y q->m'.dZ q=Y .eY):Ap m' o v w t:=by
 cases h with
 |nil=>exact .nil
 |eG j w t h a=>exact .eG j w t (f t Z) a
def Ap.one{m:T AO}{o:Nat}{t:Option S}(h:Ap m o v w t):mT v=dT:=by cases h<;>rfl
def Ap.cells{m:T AO}{o:Nat}{t:Option S}(h:Ap m o v w t):v.cells=[v]:=by cases h<;>rfl
def Ap.G{m:T AO}{o:Nat}{s:L (L A)}{t:Option S}(h:Ap m o v s.flatten t)(C:0<o)(f:∀x∈s,O x=o)(hp:∀x∈s,∀c∈x,c.Pure):∃r,ot v r/\fT o s r:=by
 have b:=pS f;generalize a:s.flatten=cs at h b;have d:∀c∈cs,c.Pure:=by intro c g;rw[<-a]at g;obtain⟨x,K,l⟩:=lE.1 g;exact hp x K c l
 cases h with
 |nil=>
  have:O s=0:=by
   obtain h|h:=xN (O s)
   .exact h
   have:=Nat.mul_pos h C;simp at b;omega
  exact⟨_,.j kC,.inl ⟨Z,this,a⟩,f⟩
 |eG j _ t h n=>have:j=O s:=MS C M;subst this;exact⟨_,.G _ _ _ _ _ Z λi K _=>.ey _ (d _ (fB K)),.inr ⟨.G,mR,by rw[a],by rw[a,b]⟩,f⟩
def KB:∀(s:L A),(s.map λx=>[x]).flatten=s:=by
 intro s;induction s with
 |nil=>rfl
 |cons a l i=>simp[i]
def Ap.ue{m:T AO}{s:L A}{t:Option S}(h:Ap m 1 v s t)(hp:∀c∈s,c.Pure):∃r,ot v r/\fC s r:=by rw[<-KB s]at h;obtain⟨r,K,a,_⟩:=h.G M ei (by simpa using hp);rw[KB,jH]at a;exact⟨r,K,a⟩
end Go.As
namespace Go.As
open Go.RowKit
def nH{G:ez}{F:T A}{m:T AO}{x y:IX}{o bytes k:Nat}{w ew:L A}{t:Option S}{tk:jt}(a:Ap m o v w t)(d:O w=k*o)(C:0<o)(b:x.ev G F=Y v)(c:y.ev G F=Y (.eG o 1 ew tk))(K:fN ew=dT)(E:O ew=o)
  (n:mU (k+1) bytes=dT):fA G dU F ⟨m,f⟩ (.bi (.append o bytes) [x,y])=Y (.lH t o (k+1) (w++ew)):=by
 cases a with
 |nil=>
  have:k=0:=by
   obtain h|h:=xN k
   .exact h
   have:=Nat.mul_pos h C;simp at d;omega
  subst this;rw[OU b c M K M n];simp
 |eG j w t e g=>have:j=k:=MS C M;subst this;exact J0 b c e M K M n
def Ap.dX{t:Option S}{m:T AO}{n:S}{o k:Nat}(a:O w=(k+1)*o):Ap (lC t m n) o (.eG o (k+1) w (.open n)) w (Y n):=.eG _ _ _ oQ a
end Go.As
namespace Go.As
open Go.RowKit
def iY.jV{m T1 D:S->Prop}{π:S->S}(h:iY m T1 v)(K:∀p,m p->π p=p/\D p)(r:∀p,T1 p->π p=p/\D p):gL π D v v:=by
 induction h with
 |bool b=>exact .ey _ λ_ _=>.bool b
 |int k n=>exact .ey _ λ_ _=>.int k n
 |J s=>exact .ey _ λ_ _=>.J s
 |gi=>exact .ey _ λ_ _=>.gi
 |ea p c h=>obtain⟨e,a⟩:=K p h;have:=gL.ea (π:=π) p c a;rwa[e]at this
 |fF w c _ d=>exact .fF w w c Z λi C _=>d i C
 |fz p c=>exact .ey _ λ_ _=>.fz p c
 |ej=>exact .ey _ λ_ _=>.ej
 |eG o n w t j _ d=>
  cases t with
  |fE=>exact .fE o n w w Z λi C _=>d i C
  |«open»p=>obtain⟨e,a⟩:=r p (j p Z);have:=gL.eG (π:=π) o n w w p a Z λi C _=>d i C;rwa[e]at this
  |G=>exact .G o n w w .G Z λi C _=>d i C
 |eC p o c n cap q h=>obtain⟨e,a⟩:=K p h;have:=gL.eC (π:=π) p o c n cap q a;rwa[e]at this
 |ji=>exact .ey _ λ_ _=>.ji
 |map p h=>obtain⟨e,a⟩:=K p h;have:=gL.map (π:=π) p a;rwa[e]at this
 |gQ=>exact .ey _ λ_ _=>.gQ
 |func f x y _ _ g l=>exact .func f x x y y Z (λi C _=>g i C) Z (λi C _=>l i C)
 |gF p h=>obtain⟨e,a⟩:=K p h;have:=gL.gF (π:=π) p a;rwa[e]at this
 |jc=>exact .ey _ λ_ _=>.jc
 |iface t v _ d=>exact .iface t v v d
 |agg w _ d=>exact .agg w w Z λi C _=>d i C
 |eK w _ d=>exact .eK w w Z λi C _=>d i C
def pO.jV{g T1 D:S->Prop}{π:S->S}{o:AO}(h:pO g T1 o)(K:∀p,g p->π p=p/\D p)(r:∀p,T1 p->π p=p/\D p):jW π D o o:=by
 cases o with
 |dY w=>exact .dY w w Z λi C _=>(h i C).jV K r
 |map H c=>exact .map H H c Z λi C _=>⟨(h i C).1.jV K r,(h i C).2.jV K r,Z⟩
 |kQ s p=>exact .kQ s p
 |b m a b c=>
  cases m with
  |none=>exact .b J a b c λ_ e=>by cases e
  |some p=>
  obtain⟨e,f⟩:=K p (h p Z);have:=jW.b (π:=π) (D:=D) (Y p) a b c λq k=>by cases k;exact f
  rwa[jb,e]at this
 |eY=>exact .eY
 |loop y u n F x l B d=>
  obtain⟨e,f⟩:=K d h.1;have:=jW.loop (π:=π) (D:=D) y u n F F x l B d f λt v j=>⟨v,j,(h.2 t v j).jV K r⟩
  rwa[e]at this
 |fX=>exact .fX
structure PY (n:S)(s0:St)(π:S→S)(D:S→Prop)(s s':St):Prop where
 eV:∀p,Below n p→π p=p∧D p
 tmps:∀q v,s'.F.dZ q=some v→∃u,s.F.dZ q=some u∧gL π D u v
 fX:s.D=s'.D∧∀p∈s'.D,Below n p
 obj:∀p o,s'.H.ep.dZ p=some o→(s0.H.ep.dZ p=some o∧s.H.ep.dZ p=some o)∨(D p∧∃o',s.H.ep.dZ (π p)=some o'∧jW π D o' o)
 inj:∀p q o o',s'.H.ep.dZ p=some o→s'.H.ep.dZ q=some o'→π p=π q→p=q
 dX:∀q:S,s'.H.dX.dV≤q.dV→¬D q
section
variable{P:Program}{G:ez}{R:Option S}{N:Nat}
def gJ.PZ{c:Code}{s s':St}{n:S}{e0:Exit}(u:G.Pure)(hn:s.H.dX=n)(x:n.dV<=s'.H.dX.dV)(h:gJ P G R N c s (λe t=>e=e0/\∃b,PY n s b (Below s'.H.dX) t s')):gJ P G R N c s (λe t=>e=e0/\t=s'):=by
 intro B w X a F hs hr;refine Nm λold=>?_;refine wpIn_mono (h B w X a F hs hr) ?_;rintro e k D ⟨t,g,⟨rfl,b,hren⟩,E,hs2⟩;have own:∀p,(X.ρ p).isSome=dT->b p=p/\Below s'.H.dX p:=λp hp=>by obtain⟨c,v⟩:=oW.1 hp;exact hren.eV p (old p c (.inl v))
 have fE:JT b (Below s'.H.dX) t s':=by
  refine⟨hren.tmps,⟨?_,λp hp=>(hren.eV p (hren.fX.2 p hp)).2⟩,⟨λp o z=>?_,hren.inj,hren.dX⟩⟩
  .rw[hren.fX.1];have:∀l:L S,(∀p∈l,Below n p)->l=l.map b:=by
    intro l;induction l with
    |nil=>intro _;rfl
    |cons p l i=>intro h;rw[jL,(hren.eV p (h p (by simp))).1,<-i (λq f=>h q (by simp[f]))]
   exact this _ hren.fX.2
  obtain⟨K,r⟩|h:=hren.obj p o z
  .obtain⟨c,j,C,m,_⟩:=hs.heap.obj p o K;obtain⟨d,y⟩:=own p (by rw[j];rfl);exact⟨y,o,by rw[d];exact r,m.ry.jV own (λq f=>own q f.1)⟩
  exact h
 refine⟨s',g.y b (Below s'.H.dX),⟨Z,Z⟩,E.jV λp c hp=>?_,hs2.jV u fE⟩;obtain⟨K,r⟩:=hren.eV p (old p c hp);exact⟨r,K⟩
def P0:∀{t:jP}{a:L Nat}{K C:St->Prop}{s:St},i7 P G b z t a K s->(∀s,K s->C s)->i7 P G b z t a C s:=by
 intro t;induction t with
 |done=>intro a K C s h hk;exact hk _ h
 |no=>intro a K C s h hk;trivial
 |q i t ih=>
  intro a K C s h hk
  let⟨F,D,⟨m,n⟩⟩:=s
  unfold i7 at h⊢;cases ho:b[i]? with
  |none=>rw[ho]at h;exact h.elim
  |some o=>rw[ho]at h;simp only[qT]at h⊢;exact ML
 |one i t ih=>
  intro a K C s h hk
  let⟨F,D,⟨m,n⟩⟩:=s
  unfold i7 at h⊢;cases ho:b[i]? with
  |none=>rw[ho]at h;exact h.elim
  |some o=>rw[ho]at h;simp only[sC]at h⊢;exact tQ h λs r=>J5 r λc=>ih c hk
 |kU i t m d e=>
 intro a K C s h hk
 let⟨F,D,⟨f,n⟩⟩:=s
 unfold i7 at h⊢;refine⟨?_,e h.2 hk⟩;replace h:=h.1;cases ho:b[i]? with
 |none=>rw[ho]at h;exact h.elim
 |some o=>rw[ho]at h;simp only[sC]at h⊢;exact tQ h λs r=>J5 r λc=>d c hk
def P1(b:St)(a:L S)(c:L A)(x:T AO)(nx:S)(s:St):Prop:=
 s.D=b.D/\im (mq s.F a) λw=>∃B:S->S,(∀p,Below b.H.dX p->B p=p)/\mD B (Below nx) w c/\
  (∀p o,x.dZ p=Y o->(b.H.ep.dZ p=Y o/\s.H.ep.dZ p=Y o)\/(Below nx p/\∃r,s.H.ep.dZ (B p)=Y r/\jW B (Below nx) r o))/\∀p q,B p=B q->p=q
def eT.vK{F:T A}{D:L S}{n:S}{Q:Exit->St->Prop}(f:P.follows .mixedOrders=dT)(W:G.Pure)(t:jP)(nx:S)(g:L A)(x:T AO)
  (E:AT r t z l=dT)(y:n.dV<=nx.dV)(a:∀p∈D,Below n p)
  (h:Go.As.i7 P G l z t [] (P1 ⟨F,D,⟨m,n⟩⟩ b g x nx) ⟨F,D,⟨m,n⟩⟩)(U:oM b g λF=>Q .normal ⟨F,D,⟨x,nx⟩⟩):eT P G d R N (.jk r z l) ⟨F,D,⟨m,n⟩⟩ Q:=by
 rw[wB]at U;refine .one .normal _ U λc K=>gJ.PZ (n:=n) W Z y (gJ.i7 (Q:=λe u=>e=.normal/\∃B,PY n ⟨F,D,⟨m,n⟩⟩ B (Below nx) u ⟨gB b g,D,⟨x,nx⟩⟩) f E K (P0 h ?_));rintro s ⟨H,j⟩;obtain⟨vs,I,B,i,hv,w,C⟩:=lK.1 j;refine⟨Z,B,λp hp=>⟨i p hp,?_⟩,λq v k=>mD.gY I hv q v k,⟨H,a⟩,w,λp q o o' _ _ e=>C p q e,λq k j=>?_⟩
 .have hp:p.dV<n.dV:=hp;show p.dV<nx.dV;omega
 have j:q.dV<nx.dV:=j;have k:nx.dV<=q.dV:=k;omega
end
end Go.As
namespace Go.As
def aaw{o:AO}{n:S}{m:T AO}{K:T AO->S->Prop}(h:∀x,x=m.set n (Y o)->K x n.succ):T.ir (Y o) n m (λx=>mr n λa=>K x a):=A0 (h _ Z)
def gH{o:AO}{p:S}{m:T AO}{K:T AO->Prop}(h:∀x,x=m.set p (Y o)->K x):T.ir (Y o) p m K:=Di (h _ Z)
def KC{t:Option S}{n:S}{K:T AO->S->Prop}(h:∀x,x=lC t m n->K x n.succ):vw t m λv=>T.ir (Y .eY) n v λx=>mr n λa=>K x a:=sR (h _ Z)
end Go.As
namespace Go.As
def hX{o:AO}{n:S}{m:T AO}{K:T AO->S->Prop}(h:∀x a,x=m.set n (Y o)->a=n.succ->K x a):T.ir (Y o) n m (λx=>mr n λa=>K x a):=A0 (h _ _ Z Z)
def qW{t:Option S}{n:S}{K:T AO->S->Prop}(h:∀x a,x=lC t m n->a=n.succ->K x a):vw t m λv=>T.ir (Y .eY) n v λx=>mr n λa=>K x a:=sR (h _ _ Z Z)
end Go.As
namespace Go.As
open Go.RowKit
inductive kM (I:S→Prop)(m:T AO):A→A→Prop
 |ey (v:A):kM I m v v
 |ea (p:S)(off:Nat)(cs cs':List A)(hp:I p)(hm:m.dZ p=some (.dY cs))(hl:cs.length=cs'.length)(h:∀i (h:i<cs.length)(h':i<cs'.length),kM I m cs[i] cs'[i]):kM I m (.ea p off) (.fF cs' off)
 |eC (p:S)(sz off n cap:Nat)(ex:Bool)(cs cs':List A)(hp:I p)(hm:m.dZ p=some (.dY cs))(hc:off+n*sz≤cs.length)(hl:cs'.length=n*sz)(h:∀i (h:off+i<cs.length)(h':i<cs'.length),kM I m cs[off+i] cs'[i]):kM I m (.eC p sz off n cap ex) (.eG sz n cs' .G)
 |eG (sz n:Nat)(cs cs':List A)(t:jt)(hl:cs.length=cs'.length)(h:∀i (h:i<cs.length)(h':i<cs'.length),kM I m cs[i] cs'[i]):kM I m (.eG sz n cs t) (.eG sz n cs' .G)
 |iface (t:TypeId)(v v':A)(h:kM I m v v'):kM I m (.iface t v) (.iface t v')
 |agg (cs cs':List A)(hl:cs.length=cs'.length)(h:∀i (h:i<cs.length)(h':i<cs'.length),kM I m cs[i] cs'[i]):kM I m (.agg cs) (.agg cs')
 |eK (cs cs':List A)(hl:cs.length=cs'.length)(h:∀i (h:i<cs.length)(h':i<cs'.length),kM I m cs[i] cs'[i]):kM I m (.eK cs) (.eK cs')
def KI(w:World)(c:Nat):Nat:=match w.heap[c]? with|some (.cells eE _ _)=>eE.size| _=>0
open Classical in
def Kx.fF(X:Kx)(I:S->Prop)(H:eM)(w:World):Kx:=
 {ρ:=X.ρ,τ:=X.τ,U:=λc=>if∃p a,I p/\H.ep.dZ p=Y (.dY a)/\X.ρ p=Y c then KI w c else X.U c,φ:=X.φ}
section
variable{P:Program}{G:ez}{B:Nat→Prop}{H:eM}{w:World}{X:Kx}{I:S→Prop}
def Qf(K:fJ B G H w X)(c:Nat):X.U c<=(X.fF I H w).U c:=by
 simp only[Kx.fF];split
 .rename_i h
  let⟨p,b,_,r,m⟩:=h
  obtain⟨o,a,_,_,_,C⟩:=K.obj p _ r;rw[m]at a;cases a;rw[C (by simp)];exact oE _
 exact fQ _
def fL.Ds(K:fJ B G H w X):fL B w X w (X.fF I H w):=by
 refine⟨tw.refl _ _,λ_ _ h=>h,λ_ _ h=>h,Qf K,λ_ _ _=>Z,λ_ _ h=>h,λc b=>?_,λ_ _ h=>h⟩;simp only[Kx.fF];split
 .rename_i h
  let⟨p,d,_,r,m⟩:=h
  obtain⟨o,a,t,_⟩:=K.obj p _ r;rw[m]at a;cases a;exact absurd b t
 rfl
def eQ.wS(F:fJ B G H w X)(h:kM I H.ep v l):∀{x:Value},eQ w X v x->eQ w (X.fF I H w) l x:=by
 have E:fL B w X w (X.fF I H w):=fL.Ds F;have q:∀p d c,I p->H.ep.dZ p=Y (.dY d)->X.ρ p=Y c->∃eE e fz,w.heap[c]? =Y (.cells eE e fz)/\(X.fF I H w).U c=eE.size/\O d<=eE.size/\∀i (h:i<O d),eQ w X d[i] (eE.getD i undef):=by intro p d c hp f s;obtain⟨c',R,_,⟨eE,e,fz,K,_,m,z⟩,_⟩:=F.obj p _ f;rw[s]at R;cases R;refine⟨eE,e,fz,K,?_,m,z⟩;simp only[Kx.fF];rw[gO ⟨p,d,hp,f,s⟩];simp only[KI,K]
 induction h with
 |ey v=>intro x g;exact g.mono E
 |ea p b d cs' hp f hl _ j=>
  intro x g;cases g with
  |ea _ _ c s=>obtain⟨eE,e,fz,K,r,m,z⟩:=q p d c hp f s;have:=eQ.fF (w:=w) (X:=X.fF I H w) cs' b c 0 (λi=>eE.getD i undef) M (λi C=>by rw[mj K,lg];exact getD_some M) (λi C=>j i M C (z i M));rwa[lg]at this
 |eC p Q b n cap ex d cs' hp f s hl _ j=>
  intro x g;cases g with
  |eC _ _ _ _ _ c u _ N k he hn hs hsz=>obtain⟨eE,e,fz,K,r,m,z⟩:=q p d c hp f N;exact .eG Q n cs' .G c b u (λi=>eE.getD (b+i) undef) M (λi C=>by rw[mj K];exact getD_some M) (λi C=>j i M C (z (b+i) M)) hl M hsz eR
 |eG Q n d cs' t hl _ j=>
  intro x g;cases g with
  |eG _ _ _ _ c o cap D hU s hv hn k hsz W=>exact .eG Q n cs' .G c o cap D (by have:=Qf (I:=I) F c;omega) (λi C=>s i M) (λi C=>j i M C (hv i M)) M k hsz eR
  |emp _ a cap hsz=>exact NN
 |iface t v l _ j=>intro x g;cases g with|iface _ _ y hy=>exact .iface t l y (j hy)
 |agg d cs' hl _ j=>intro x g;cases g with|agg _ D K r=>exact .agg cs' D M (λi C=>j i M C (r i M))
 |eK d cs' hl _ j=>intro x g;cases g with|eK _ D K r=>exact .eK cs' D M (λi C=>j i M C (r i M))
def fJ.wS(hH:fJ B G H w X){H':eM}(f:∀p o,H'.ep.dZ p=Y o->H.ep.dZ p=Y o/\¬I p)(u:H.dX.dV<=H'.dX.dV):fJ B G H' w (X.fF I H w):=by
 have E:fL B w X w (X.fF I H w):=fL.Ds hH;refine⟨hH.base,λp o k=>?_,λp q o n c K r b t=>hH.inj p q o n c (f _ _ K).1 (f _ _ r).1 b t,λq v=>?_,hH.room,λc hc=>?_,hH.gX.mono E⟩
 .obtain⟨K,r⟩:=f p o k;obtain⟨c,b,t,m,g,C⟩:=hH.obj p o K;have d:(X.fF I H w).U c=X.U c:=by simp only[Kx.fF];rw[gj];rintro⟨s,cs,W,a,l⟩;exact r (hH.inj p s o _ c K a b l▸W)
  exact⟨c,b,t,m.mono E Z (λ_=>d),λe=>by rw[d];exact g e,λe=>by rw[d];exact C e⟩
 .obtain⟨z,j,i⟩:=hH.fresh q M;refine⟨z,j,?_⟩;cases hg:H'.ep.dZ q with
  |none=>rfl
  |some o=>rw[(f q o hg).1]at i;cases i
 exact agC
def eL.wS{b H'':eM}(h:eL P G f K b λa t=>a=r/\t=H)(d:kM I H.ep r v)(g:∀p o,H''.ep.dZ p=Y o->H.ep.dZ p=Y o/\¬I p)(i:H.dX.dV<=H''.dX.dV):
  eL P G f K b λa t=>a=v/\t=H'':=by
 intro B w X cargs c n;have hcall:=h B w X cargs c n;have fin:∀l w',FinA G B w X (λa t=>a=r/\t=H) l w'->FinA G B w X (λa t=>a=v/\t=H'') l w':=by rintro l w' ⟨_,_,j,⟨rfl,rfl⟩,E,hH',hrv⟩;exact⟨v,H'',_,⟨Z,Z⟩,E.trans (fL.Ds (I:=I) hH'),hH'.wS g i,eQ.wS hH' d hrv⟩
 exact zM
def ee.Qg{n:Nat}{c:L RV}{good:A->Prop}(g:Has P f n c a)(j:G.Pure)(b:∀a∈K,a.Pure)
  (h:tX .h K λF=>kB P G dT J n a ⟨F,[],⟨.e,.h⟩⟩ (rC G c λr D=>∃v,kM (λ_=>True) D.ep r v/\v.Pure/\good v)):∃v,good v/\ee P G f K v:=by
 rw[yy,qO]at h;obtain⟨r,D,⟨v,d,hp,i⟩,m⟩:=eL.AA g (lp h λ_ _=>wG);refine⟨v,i,ee.of j b ?_⟩;have:=eL.wS (H'':=⟨.e,D.dX⟩) m d (λp o k=>by simp at k) (fQ _);exact this.mono λl t ⟨e,_⟩=>by rw[e];exact ot.j hp
end
def up(n p:S):S:=S.ofNat (n.dV+p.dV - 2)
def kW(n q:S):S:=S.ofNat (q.dV - n.dV)
def kX(n p:S):(up n p).dV=n.dV+p.dV - 1:=by have:=n.jD;have:=p.jD;rw[up,S.toNat_ofNat];omega
def Dt(n p:S):kW n (up n p)=p:=by refine S.toNat_inj ?_;have:=n.jD;have:=p.jD;rw[kW,S.toNat_ofNat,kX];omega
def Du{n q:S}(h:n.dV<=q.dV):up n (kW n q)=q:=by refine S.toNat_inj ?_;have:=n.jD;rw[kX,kW,S.toNat_ofNat];omega
def Qh{n q:S}(a:n.dV<=q.dV):(kW n q).dV=q.dV - n.dV+1:=by rw[kW,S.toNat_ofNat]
def jt.M(a:S->S):jt->jt
 |.fE=>.fE
 |.open t=>.open (a t)
 |.G=>.G
mutual
def A.M(c:S->S):A->A
 |.bool b=>.bool b
 |.int k n=>.int k n
 |.J s=>.J s
 |.gi=>.gi
 |.ea p off=>.ea (c p) off
 |.fF cs off=>.fF (A.qp c cs) off
 |.fz p off=>.fz p off
 |.ej=>.ej
 |.eG sz n cs t=>.eG sz n (A.qp c cs) (t.M c)
 |.eC p sz off n cap ex=>.eC (c p) sz off n cap ex
 |.ji=>.ji
 |.map p=>.map (c p)
 |.gQ=>.gQ
 |.func f a b=>.func f (A.qp c a) (A.qp c b)
 |.gF l=>.gF (c l)
 |.jc=>.jc
 |.iface t v=>.iface t (A.M c v)
 |.agg cs=>.agg (A.qp c cs)
 |.eK cs=>.eK (A.qp c cs)
def A.qp(a:S->S):L A->L A
 |[]=>[]
 |v::l=>A.M a v::A.qp a l
end
def A7(b:S->S):∀l:L A,A.qp b l=l.map (A.M b):=by
 intro l;induction l with
 |nil=>rfl
 |cons a l i=>simp[A.qp,i]
def gm.M(a:S->S)(e:gm):gm:={key:=e.key.M a,val:=e.val.M a,born:=e.born}
def AO.M(a:S->S):AO->Option AO
 |.dY cs=>Y (.dY (cs.map (A.M a)))
 |.map es c=>Y (.map (es.map (gm.M a)) c)
 |.eY=>Y .eY
 | _=>J
def iY.M{z T1 D:S->Prop}{l π:S->S}(h:iY z T1 v)(K:∀p,z p->π (l p)=p/\D (l p))(r:∀p,T1 p->π (l p)=p/\D (l p)):gL π D v (v.M l):=by
 have c:∀{w:L A},(∀i (h:i<O w),gL π D w[i] (w[i].M l))->O w=O (A.qp l w)/\∀i (h:i<O w)(F:i<O (A.qp l w)),gL π D w[i] (A.qp l w)[i]:=by intro w u;rw[A7];exact⟨ei,λi C E=>by rw[mM];exact u i C⟩
 induction h with
 |bool b=>exact .ey _ λ_ _=>.bool b
 |int k n=>exact .ey _ λ_ _=>.int k n
 |J s=>exact .ey _ λ_ _=>.J s
 |gi=>exact .ey _ λ_ _=>.gi
 |ea p g h=>obtain⟨e,a⟩:=K p h;have:=gL.ea (π:=π) (l p) g a;rwa[e]at this
 |fF w g _ d=>exact .fF w _ g (c d).1 (c d).2
 |fz p g=>exact .ey _ λ_ _=>.fz p g
 |ej=>exact .ey _ λ_ _=>.ej
 |eG o n w t j _ d=>
  cases t with
  |fE=>exact .fE o n w _ (c d).1 (c d).2
  |«open»p=>obtain⟨e,a⟩:=r p (j p Z);have:=gL.eG (π:=π) o n w _ (l p) a (c d).1 (c d).2;rwa[e]at this
  |G=>exact .G o n w _ .G (c d).1 (c d).2
 |eC p o g n cap B h=>obtain⟨e,a⟩:=K p h;have:=gL.eC (π:=π) (l p) o g n cap B a;rwa[e]at this
 |ji=>exact .ey _ λ_ _=>.ji
 |map p h=>obtain⟨e,a⟩:=K p h;have:=gL.map (π:=π) (l p) a;rwa[e]at this
 |gQ=>exact .ey _ λ_ _=>.gQ
 |func f x y _ _ m q=>exact .func f x _ y _ (c m).1 (c m).2 (c q).1 (c q).2
 |gF p h=>obtain⟨e,a⟩:=K p h;have:=gL.gF (π:=π) (l p) a;rwa[e]at this
 |jc=>exact .ey _ λ_ _=>.jc
 |iface t v _ d=>exact .iface t v _ d
 |agg w _ d=>exact .agg w _ (c d).1 (c d).2
 |eK w _ d=>exact .eK w _ (c d).1 (c d).2
def pO.M{c T1 D:S->Prop}{a B:S->S}{o d:AO}(h:pO c T1 o)(w:o.M a=Y d)(K:∀p,c p->B (a p)=p/\D (a p))(r:∀p,T1 p->B (a p)=p/\D (a p)):jW B D o d:=by
 cases o<;>simp only[AO.M,oZ,reduceCtorEq]at w
 .subst w;exact .dY _ _ ei λi C b=>by rw[mM];exact(h i C).M K r
 .subst w;refine .map _ _ _ ei λi C b=>?_;rw[mM];exact⟨(h i C).1.M K r,(h i C).2.M K r,Z⟩
 subst w;exact .eY
def T.aa5(g:S->Option AO)(N:Nat)(F:∀q:S,N<=q.dV->g q=J):∃t:T AO,∀q,t.dZ q=g q:=by
 have:∀k,∃t:T AO,∀q:S,t.dZ q=if q.dV<=k then g q else J:=by
  intro k;induction k with
  |zero=>exact⟨.e,λq=>by have:=q.jD;rw[gj M];simp⟩
  |succ k i=>
  let⟨t,j⟩:=i
  refine⟨t.set (S.ofNat k) (g (S.ofNat k)),λq=>?_⟩;rw[T.jr];by_cases e:q=S.ofNat k
  .subst e;rw[gO Z,gO (by rw[S.toNat_ofNat];omega)]
  rw[gj e,j];by_cases h:q.dV<=k
  .rw[gO h,gO M]
  rw[gj h,gj];intro n;exact e (S.toNat_inj (by rw[S.toNat_ofNat];omega))
 obtain⟨t,j⟩:=this N;refine⟨t,λq=>?_⟩;rw[j];split
 .rfl
 exact(F q M).symm
structure rN (m:T AO)(n:S)(Hc:eM)(H':eM):Prop where
 old:∀q:S,q.dV<n.dV→H'.ep.dZ q=m.dZ q
 ew:∀p:S,p.dV<Hc.dX.dV→H'.ep.dZ (up n p)=(Hc.ep.dZ p).bind (AO.M (up n))
 dX:H'.dX=up n Hc.dX
 iw:∀q:S,H'.dX.dV≤q.dV→H'.ep.dZ q=none
def rN.ex(m:T AO)(n:S)(a:eM):∃D,rN m n a D:=by
 have E:=n.jD;have K:=a.dX.jD;obtain⟨t,j⟩:=T.aa5 (λq=>if q.dV<n.dV then m.dZ q else if q.dV<(up n a.dX).dV then(a.ep.dZ (kW n q)).bind (AO.M (up n))else J) (up n a.dX).dV (λq b=>by rw[kX]at b⊢;rw[gj M,gj M])
 refine⟨⟨t,up n a.dX⟩,λq b=>by rw[j,gO b],λp hp=>?_,Z,λq b=>?_⟩
 .have:=p.jD;rw[j,gj (by rw[kX];omega),gO (by rw[kX,kX];omega),Dt]
 have b:(up n a.dX).dV<=q.dV:=b;rw[j,gj (by rw[kX]at b;omega),gj M]
section
variable{P:Program}{G:ez}
def eL.shift(hG:G.Pure)(hargs:∀a∈args,a.Pure)(h:eL P G f args ⟨.e,.h⟩ λr1 H1=>r1=r/\H1=H){n:S}(hM:rN m n H H'):
  eL P G f args ⟨m,n⟩ λr1 H1=>r1=r.M (up n)/\H1=H':=by
 intro B w X cargs hH hr;have h1:fJ (ku B ⟨m,n⟩ X λp=>T.dZ p (.e:T AO)=J) G {ep:=.e,dX:=.h} w (X.only λ_=>False):=by have h2:=hH.Fq (H1:={ep:=.e,dX:=n}) (λp=>T.dZ p (.e:T AO)=J) xK (λq h=>h);exact Tq
 refine Mp λhcall=>?_;have hn1:=n.jD;have R:=H.dX.jD;have fin:∀v' w',FinA G (ku B ⟨m,n⟩ X λp=>T.dZ p (.e:T AO)=J) w (X.only λ_=>False) (λr1 H1=>r1=r/\H1=H) v' w'->FinA G B w X (λr1 H1=>r1=r.M (up n)/\H1=H') v' w':=by
  rintro v' w' ⟨r1,H1',d,⟨e1,e2⟩,E,y,hrv⟩;rw[e1]at hrv;rw[e2]at y;clear e1 e2
  let D:S->Prop:=λq=>n.dV<=q.dV/\q.dV<(up n H.dX).dV
  have dD:DecidablePred D:=λq=>inferInstanceAs (Decidable (n.dV<=q.dV/\q.dV<(up n H.dX).dV));have own:∀p,(d.ρ p).isSome=dT->kW n (up n p)=p/\D (up n p):=λp hp=>by
   obtain⟨c,K⟩:=oW.1 hp;have b:p.dV<H.dX.dV:=by
    obtain h|h:=kG p.dV H.dX.dV
    .exact h
    rw[(y.fresh p h).1]at K;cases K
   have:=p.jD;refine⟨Dt n p,?_,?_⟩
   .rw[kX];omega
   rw[kX,kX];omega
  let s:Kx:={ρ:=λq=>if q.dV<n.dV then X.ρ q else(d.y (kW n) D).ρ q,τ:=λq=>if q.dV<n.dV then X.τ q else(d.y (kW n) D).τ q,U:=d.U,φ:=d.φ}
  have big:∀q c,(d.y (kW n) D).ρ q=Y c->n.dV<=q.dV:=λq c t=>Vu;have bigT:∀q c,(d.y (kW n) D).τ q=Y c->n.dV<=q.dV:=λq c t=>Vu;have z:∀q c,(d.y (kW n) D).ρ q=Y c->s.ρ q=Y c:=λq c t=>by have:=big q c t;show(if q.dV<n.dV then X.ρ q else(d.y (kW n) D).ρ q)=Y c;rw[gj M];exact t
  have Q:∀q c,(d.y (kW n) D).τ q=Y c->s.τ q=Y c:=λq c t=>by have:=bigT q c t;show(if q.dV<n.dV then X.τ q else(d.y (kW n) D).τ q)=Y c;rw[gj M];exact t
  have small:∀q c,X.ρ q=Y c->q.dV<n.dV:=λq c t=>by
   obtain h|h:=kG q.dV n.dV
   .exact h
   rw[(hH.fresh q h).1]at t;cases t
  have smallT:∀q c,X.τ q=Y c->q.dV<n.dV:=λq c t=>by
   obtain h|h:=kG q.dV n.dV
   .exact h
   rw[(hH.fresh q h).2.1]at t;cases t
  have Eh:fL (ku B ⟨m,n⟩ X λp=>T.dZ p (.e:T AO)=J) w X w' s:=by
   refine⟨E.below,λq c t=>?_,λq c t=>?_,E.u,E.fF,E.cells,E.rj,E.tz⟩
   .show(if q.dV<n.dV then X.ρ q else _)=Y c;rw[gO (small q c t)];exact t
   show(if q.dV<n.dV then X.τ q else _)=Y c;rw[gO (smallT q c t)];exact t
  have E2:fL B w X w' s:=Eh.yi (λc K=>.inl K);have old2:∀q c,q.dV<n.dV->s.ρ q=Y c->X.ρ q=Y c:=λq c t h=>by have h:(if q.dV<n.dV then X.ρ q else(d.y (kW n) D).ρ q)=Y c:=h;rw[gO t]at h;exact h
  have new2:∀q c,n.dV<=q.dV->s.ρ q=Y c->D q/\d.ρ (kW n q)=Y c:=λq c t h=>by
   have h:(if q.dV<n.dV then X.ρ q else(d.y (kW n) D).ρ q)=Y c:=h;rw[gj M]at h;simp only[Kx.y]at h;split at h
   .rename_i hd;exact⟨hd,h⟩
   cases h
  have C:∀q o c,m.dZ q=Y o->X.ρ q=Y c->ku B ⟨m,n⟩ X (λp=>T.dZ p (.e:T AO)=J) c:=λq o c v K=>.inr ⟨q,o,ei,v,K⟩;refine⟨_,H',s,⟨Z,Z⟩,E2,?_,?_⟩
  .refine⟨λk hk=>y.base k (.inl hk),λq o v=>?_,λq W o o' c v ho' K hc'=>?_,λq t=>?_,λq c t=>?_,y.kS,hH.gX.mono E2⟩
   .obtain b|g:=kG q.dV n.dV
    .rw[hM.old q b]at v;obtain⟨c,g1,g2,g3,g4,g5⟩:=hH.obj q o v;have hid:=C q o c v g1;have hU:=Eh.rj c hid;exact⟨c,Eh.jM _ _ g1,g2,g3.mono Eh (Eh.below.block c hid) (λ_=>hU),λe=>by rw[hU];exact Eh.qI _ _ (g4 e),λe=>by rw[hU];exact g5 e⟩
    have b:q.dV<H'.dX.dV:=by
     obtain h|h:=kG q.dV H'.dX.dV
     .exact h
     rw[hM.iw q h]at v;cases v
    rw[hM.dX,kX]at b;have hdn:=Qh g;rw[<-Du g,hM.ew _ M,fS]at v
    let⟨j,N,hor⟩:=v
    obtain⟨c,g1,g2,g3,g4,g5⟩:=y.obj _ j N;have F:jW (kW n) D j o:=g3.ry.M hor own (λp hp=>own p hp.1);have hDq:D q:=⟨g,by rw[kX];omega⟩
    have g3':=(g3.jV F).oq (κ':=s) (g3.jV F).ry (λp c _ h=>z p c h) (λp c _ h=>z p c h) (λp c _ h=>Q p c h) (λ_=>fQ _) (λ_ _ h=>h) Z;refine⟨c,z q c (by rw[sA hDq];exact g1),λhb=>g2 (.inl hb),g3',λe=>?_,λe=>g5 λe'=>e (F.uY.1 e')⟩;exact Q q _ (by rw[Fx hDq];exact g4 (F.uY.2 e))
   ·
    have l:∀q o,H'.ep.dZ q=Y o->s.ρ q=Y c->(q.dV<n.dV/\m.dZ q=Y o/\X.ρ q=Y c)\/(n.dV<=q.dV/\∃j,H.ep.dZ (kW n q)=Y j/\d.ρ (kW n q)=Y c):=by
     intro q o v K;obtain b|g:=kG q.dV n.dV
     .rw[hM.old q b]at v;exact .inl ⟨b,v,old2 q c b K⟩
     obtain⟨hD,R⟩:=new2 q c g K;have hdn:=Qh g;have hD2:=hD.2;rw[kX]at hD2;rw[<-Du g,hM.ew _ M,fS]at v
     let⟨j,N,_⟩:=v
     exact .inr ⟨g,j,N,R⟩
    have I:∀q W o j,m.dZ q=Y o->X.ρ q=Y c->H.ep.dZ W=Y j->d.ρ W=Y c->False:=λq W o j v K N R=>by obtain⟨c',g1,g2,_⟩:=y.obj W j N;rw[R]at g1;cases g1;exact g2 (C q o c v K)
    obtain⟨h1,h2,h3⟩|⟨h1,j,h2,h3⟩:=l q o v K
    .obtain⟨k1,k2,k3⟩|⟨k1,o2,k2,k3⟩:=l W o' ho' hc'
     .exact hH.inj q W o o' c h2 k2 h3 k3
     exact(I q _ o o2 h2 h3 k2 k3).elim
    obtain⟨k1,k2,k3⟩|⟨k1,o2,k2,k3⟩:=l W o' ho' hc'
    .exact(I W _ o' j k2 k3 h2 h3).elim
    have:=y.inj _ _ j o2 c h2 k2 h3 k3;rw[<-Du h1,<-Du k1,this]
   .have hq':(up n H.dX).dV<=q.dV:=by rw[<-hM.dX];exact t
    have g:n.dV<=q.dV:=by rw[kX]at hq';omega
    have hnD:¬D q:=λhd=>by have:=hd.2;omega
    refine⟨?_,?_,hM.iw q t⟩
    .show(if q.dV<n.dV then X.ρ q else(d.y (kW n) D).ρ q)=J;rw[gj M];simp only[Kx.y];rw[gj hnD]
    show(if q.dV<n.dV then X.τ q else(d.y (kW n) D).τ q)=J;rw[gj M];simp only[Kx.y];rw[gj hnD]
   obtain b|g:=kG q.dV n.dV
   .exact lw (hH.room q c (old2 q c b t)) E.below.size
   exact y.room _ c (new2 q c g t).2
  have hw:gL (kW n) D r (r.M (up n)):=hrv.ry.M own (λp hp=>own p hp.1);have h3:=hrv.jV hw;exact h3.oq h3.ry (λp c _ h=>z p c h) (λp c _ h=>z p c h) (λp c _ h=>Q p c h) (λ_=>fQ _) (λ_ _ h=>h)
 exact zM
end
inductive gU (π:S→S)(D:S→Prop)(θ:S→S)(DF:S→Prop):A→A→Prop
 |bool (b:Bool):gU π D θ DF (.bool b) (.bool b)
 |int (k:IntKind)(n:Int):gU π D θ DF (.int k n) (.int k n)
 |J (s:List Nat):gU π D θ DF (.J s) (.J s)
 |gi:gU π D θ DF .gi .gi
 |ej:gU π D θ DF .ej .ej
 |ji:gU π D θ DF .ji .ji
 |gQ:gU π D θ DF .gQ .gQ
 |jc:gU π D θ DF .jc .jc
 |ea (p:S)(off:Nat)(h:D p):gU π D θ DF (.ea (π p) off) (.ea p off)
 |fz (p:S)(off:Nat)(h:DF p):gU π D θ DF (.ea (θ p) off) (.fz p off)
 |fF (cs cs':List A)(off:Nat)(hl:cs.length=cs'.length)(h:∀i (h:i<cs.length)(h':i<cs'.length),gU π D θ DF cs[i] cs'[i]):gU π D θ DF (.fF cs off) (.fF cs' off)
 |eG (sz n:Nat)(cs cs':List A)(p:S)(hp:D p)(hl:cs.length=cs'.length)(h:∀i (h:i<cs.length)(h':i<cs'.length),gU π D θ DF cs[i] cs'[i]):gU π D θ DF (.eG sz n cs (.open (π p))) (.eG sz n cs' (.open p))
 |fE (sz n:Nat)(cs cs':List A)(hl:cs.length=cs'.length)(h:∀i (h:i<cs.length)(h':i<cs'.length),gU π D θ DF cs[i] cs'[i]):gU π D θ DF (.eG sz n cs .fE) (.eG sz n cs' .fE)
 |G (sz n:Nat)(cs cs':List A)(t:jt)(hl:cs.length=cs'.length)(h:∀i (h:i<cs.length)(h':i<cs'.length),gU π D θ DF cs[i] cs'[i]):gU π D θ DF (.eG sz n cs t) (.eG sz n cs' .G)
 |eC (p:S)(sz off n cap:Nat)(ex:Bool)(h:D p):gU π D θ DF (.eC (π p) sz off n cap ex) (.eC p sz off n cap ex)
 |map (p:S)(h:D p):gU π D θ DF (.map (π p)) (.map p)
 |func (f:Fn)(x x' y y':List A)(hx:x.length=x'.length)(h1:∀i (h:i<x.length)(h':i<x'.length),gU π D θ DF x[i] x'[i])(hy:y.length=y'.length)(h2:∀i (h:i<y.length)(h':i<y'.length),gU π D θ DF y[i] y'[i]):gU π D θ DF (.func f x y) (.func f x' y')
 |gF (p:S)(h:D p):gU π D θ DF (.gF (π p)) (.gF p)
 |iface (t:TypeId)(v v':A)(h:gU π D θ DF v v'):gU π D θ DF (.iface t v) (.iface t v')
 |agg (cs cs':List A)(hl:cs.length=cs'.length)(h:∀i (h:i<cs.length)(h':i<cs'.length),gU π D θ DF cs[i] cs'[i]):gU π D θ DF (.agg cs) (.agg cs')
 |eK (cs cs':List A)(hl:cs.length=cs'.length)(h:∀i (h:i<cs.length)(h':i<cs'.length),gU π D θ DF cs[i] cs'[i]):gU π D θ DF (.eK cs) (.eK cs')
def Plain(v:A):Prop:=∀π D θ DF,gU π D θ DF v v
def Kx.iE(X:Kx)(π:S->S)(D:S->Prop) [DecidablePred D](θ:S->S)(DF:S->Prop) [DecidablePred DF]:Kx:=
 {ρ:=λp=>if D p then X.ρ (π p)else J,τ:=λp=>if D p then X.τ (π p)else J,U:=X.U,φ:=λp=>if DF p then X.ρ (θ p)else J}
section
variable{w:World}{X:Kx}{π:S→S}{D:S→Prop} [DecidablePred D]{θ:S→S}{DF:S→Prop} [DecidablePred DF]
def Gp{p:S}(h:D p):(X.iE π D θ DF).ρ p=X.ρ (π p):=gO h
def aa6{p:S}(h:D p):(X.iE π D θ DF).τ p=X.τ (π p):=gO h
def aa7{p:S}(h:DF p):(X.iE π D θ DF).φ p=X.ρ (θ p):=gO h
def eQ.iE{x:Value}(h:eQ w X v x)(N:gU π D θ DF v l):eQ w (X.iE π D θ DF) l x:=by
 induction N generalizing x with
 |bool b=>cases h;exact .bool b
 |int k n=>cases h;exact .int k n
 |J s=>cases h with|J _ b hb=>exact .J s b hb
 |gi=>cases h;exact .gi
 |ej=>cases h;exact .ej
 |ji=>cases h;exact .ji
 |gQ=>cases h;exact .gQ
 |jc=>cases h;exact .jc
 |ea p g hp=>cases h with|ea _ _ c K=>exact .ea p g c Nt
 |fz p g hp=>cases h with|ea _ _ c K=>exact .fz p g c (by rw[aa7 hp];exact K)
 |fF B cs' g hl _ j=>
  cases h with
  |fF _ _ c o m C K q=>exact .fF cs' g c o m H6 (λi hi=>K i M) (λi hi=>j i M hi (q i M))
 |eG u n B cs' p hp hl _ j=>
  cases h with
  |eG _ _ _ _ c o cap m C K q E d hsz e=>exact .eG u n cs' (.open p) c o cap m H6 (λi hi=>K i M) (λi hi=>j i M hi (q i M)) M d hsz ⟨by rw[Gp hp];exact e.1,by rw[aa6 hp];exact e.2.1,e.2.2⟩
 |fE u n B cs' hl _ j=>
  cases h with
  |eG _ _ _ _ c o cap m C K q E d hsz e=>exact .eG u n cs' .fE c o cap m H6 (λi hi=>K i M) (λi hi=>j i M hi (q i M)) M d hsz e
 |G u n B cs' t hl _ j=>
  cases h with
  |eG _ _ _ _ c o cap m C K q E d hsz e=>exact .eG u n cs' .G c o cap m H6 (λi hi=>K i M) (λi hi=>j i M hi (q i M)) M d hsz eR
  |emp _ a cap hsz=>exact NN
 |eC p u g n cap I hp=>
  cases h with
  |eC _ _ _ _ _ c z _ H d F E r hsz=>exact .eC p u g n cap c z I (by rw[Gp hp];exact H) d F E r hsz
 |map p hp=>cases h with|map _ c K=>exact .map p c Nt
 |func f a a' b b' ha _ hb _ ih1 ih2=>exact V8
 |gF p hp=>cases h with|gF _ c K=>exact .gF p c Nt
 |iface t v l _ j=>cases h with|iface _ _ x Q=>exact .iface t l x (j Q)
 |agg B cs' hl _ j=>cases h with|agg _ m h1 h2=>exact .agg cs' m (by rw[h1,hl]) (λi hi=>j i M hi (h2 i M))
 |eK B cs' hl _ j=>cases h with|eK _ m h1 h2=>exact .eK cs' m (by rw[h1,hl]) (λi hi=>j i M hi (h2 i M))
end
inductive kw (π:S→S)(D:S→Prop)(θ:S→S)(DF:S→Prop):AO→AO→Prop
 |dY (cs cs':List A)(hl:cs.length=cs'.length)(h:∀i (h:i<cs.length)(h':i<cs'.length),gU π D θ DF cs[i] cs'[i]):kw π D θ DF (.dY cs) (.dY cs')
 |map (es es':List gm)(clock:Nat)(hl:es.length=es'.length)
   (h:∀i (h:i<es.length)(h':i<es'.length),gU π D θ DF es[i].key es'[i].key∧gU π D θ DF es[i].val es'[i].val∧es[i].born=es'[i].born):kw π D θ DF (.map es clock) (.map es' clock)
 |eY:kw π D θ DF .eY .eY
 |loop (st:LoopState)(pend:Option Code)(n:Nat)(F F':T A)(ps:List Nat)(as bo:Code)(d:S)(hd:D d)(h:∀t v,F'.dZ (S.ofNat t)=some v→∃u,F.dZ (S.ofNat t)=some u∧gU π D θ DF u v):
   kw π D θ DF (.loop st pend n F ps as bo (π d)) (.loop st pend n F' ps as bo d)
 |fX:kw π D θ DF .fX .fX
def kw.uY{π:S->S}{D:S->Prop}{θ:S->S}{DF:S->Prop}{o r:AO}(h:kw π D θ DF o r):(o=.eY↔r=.eY):=by cases h<;>simp
def kR.iE{G G':ez}{w:World}{X:Kx}{π:S->S}{D:S->Prop} [DecidablePred D]{θ:S->S}{DF:S->Prop} [DecidablePred DF](b:G'.ey=G.ey){o r:AO}{c:Nat}(h:kR G w X o c)(y:kw π D θ DF o r):kR G' w (X.iE π D θ DF) r c:=by
 cases y with
 |dY cs E U f=>
  let⟨eE,e,fz,p,k,m,g⟩:=h
  exact⟨eE,e,fz,p,k,M,λi C=>(g i M).iE (f i M C)⟩
 |map es I W U f=>
  let⟨eE,p,k,m⟩:=h
  refine⟨eE,p,M,λi C=>?_⟩;obtain⟨K,Q,R⟩:=f i M C;obtain⟨k1,k2,k3⟩:=m i M;exact⟨k1.iE K,k2.iE Q,by rw[k3,R]⟩
 |eY=>exact h
 |loop st B n F F' ps as bo d a f=>
  let⟨fn,j,H,l,q,p,s,k,N,m⟩:=h
  refine⟨fn,j,H,l,q,p,by rw[b];exact s,by rw[Gp a];exact k,N,λt v hv=>?_⟩;obtain⟨u,hu,y⟩:=f t v hv;obtain⟨x,hx,z⟩:=m t u hu;exact⟨x,hx,z.iE y⟩
 |fX=>exact h
def KJ(π:S->S)(D:S->Prop)(θ:S->S)(DF:S->Prop):L A->L A->Prop
 |[],[]=>True
 |v::l,v'::l'=>gU π D θ DF v v'/\KJ π D θ DF l l'
 | _,_=>False
section
variable{P:Program}{G G':ez}
def eL.aa8{f:FuncId}{K args1:L A}{H H1:eM}{Q Q1:A->eM->Prop}(t:L S)(π s:S->S)(θ:S->S)(DF:S->Prop) [DecidablePred DF]
  (hsame:G'.ey=G.ey)(R:(G'.gX,G'.raw)=(G.gX,G.raw))(hplain:∀g cs,G.gX g=Y cs->Plain (.fF cs 0))(hfr:∀q,G.fU q=J)
  (v:∀q cs,G'.fU q=Y cs->DF q/\∃m,H.ep.dZ (θ q)=Y (.dY m)/\O m=O cs/\∀i (h:i<O m)(h':i<O cs),gU π (·∈t) θ DF m[i] cs[i])
  (hDF:∀q,DF q->(G'.fU q).isSome=dT)(hθ:∀q q',DF q->DF q'->θ q=θ q'->q=q')(hsep:∀q,DF q->¬θ q∈t.map π)
  (W:∀p∈t,s (π p)=p)
  (hobj:∀p o,H1.ep.dZ p=Y o->p∈t/\∃o',H.ep.dZ (π p)=Y o'/\kw π (·∈t) θ DF o' o)(hdom:∀p∈t,∃o,H1.ep.dZ p=Y o)(hnx:∀q:S,H1.dX.dV<=q.dV->¬q∈t)
  (hargs:KJ π (·∈t) θ DF K args1)(z:eL P G' f args1 H1 Q1)
  (hpost:∀r1 H1',Q1 r1 H1'->∃r H',Q r H'/\gU s (·∈t.map π) id (λ_=>False) r1 r/\iY (λ_=>True) (λ_=>False) r/\H'.dX=H.dX/\
   (∀q o,H'.ep.dZ q=Y o->q∈t.map π/\o≠.eY/\pO (λ_=>True) (λ_=>False) o/\∃o1,H1'.ep.dZ (s q)=Y o1/\kw s (·∈t.map π) id (λ_=>False) o1 o)):eL P G f K H Q:=by
 intro B w X cargs hH hrel
 let I:S->Prop:=λp=>∃q,DF q/\θ q=p
 let n:=X.fF I H w
 have Ea:fL B w X w n:=fL.Ds hH;have big:∀q∈t.map π,∃o,H.ep.dZ q=Y o:=UV;have notI:∀q∈t.map π,¬I q:=λq hq ⟨q',h1,h2⟩=>hsep q' h1 (h2▸hq)
 let B2:Nat->Prop:=ku B H X λq=>¬q∈t.map π
 let κ2:=n.iE π (·∈t) θ DF
 have uSame:∀q o c,H.ep.dZ q=Y o->X.ρ q=Y c->¬I q->n.U c=X.U c:=by intro q o c ho hc hq;show(X.fF I H w).U c=X.U c;simp only[Kx.fF];rw[gj];rintro⟨p',cs,k1,k2,k3⟩;exact hq (hH.inj q p' o _ c ho k2 hc k3▸k1)
 have h2:fJ B2 G' H1 w κ2:=by
  refine⟨λk hk=>?_,λp o ho=>?_,λp q o o' c h1 h2 j y=>?_,λq hq=>?_,λp c hp=>?_,λc hc=>?_,?_⟩
  .obtain hk|⟨p,o,_,_,hρ⟩:=hk
   .exact hH.base k hk
   exact hH.room p k hρ
  .obtain⟨hp,o',ho',hor⟩:=hobj p o ho;obtain⟨c,j,y,g3,g4,g5⟩:=hH.obj _ o' ho';have hU:=uSame _ _ _ ho' j (notI _ (zF hp));refine⟨c,by show(if p∈t then X.ρ (π p)else J)=Y c;rw[gO hp];exact j,λhb=>?_,(g3.mono Ea Z (λ_=>hU)).iE hsame hor,λe=>?_,λe=>?_⟩
   .obtain hb|⟨q,o2,hq,ho2,hc2⟩:=hb
    .exact y hb
    exact hq (hH.inj _ _ _ _ c ho' ho2 j hc2▸zF hp)
   .show(if p∈t then X.τ (π p)else J)=Y (n.U c);rw[gO hp,hU];exact g4 (hor.uY.2 e)
   show n.U c=0;rw[hU];exact g5 λe'=>e (hor.uY.1 e')
  .obtain⟨hp,o1,ho1,_⟩:=hobj p o h1;obtain⟨hq,o2,ho2,_⟩:=hobj q o' h2;have j:(if p∈t then X.ρ (π p)else J)=Y c:=j;have y:(if q∈t then X.ρ (π q)else J)=Y c:=y;rw[gO hp]at j;rw[gO hq]at y;have:=hH.inj _ _ _ _ c ho1 ho2 j y;rw[<-W p hp,<-W q hq,this]
  .have hq':=hnx q hq;refine⟨gj hq',gj hq',?_⟩;cases hg:H1.ep.dZ q with
   |none=>rfl
   |some o=>exact absurd (hobj q o hg).1 hq'
  .have hp:(if p∈t then X.ρ (π p)else J)=Y c:=hp;split at hp
   .exact hH.room _ c hp
   cases hp
  .have hc:0<n.U c:=hc;have hc:0<(X.fF I H w).U c:=hc;simp only[Kx.fF]at hc;split at hc
   .rename_i h;obtain⟨p,cs,_,_,h3⟩:=h;exact hH.room p c h3
   exact hH.kS c hc
  refine⟨λg cs e=>?_,λp cs e=>?_,λp q cs m c h1 h2 j y=>?_,λg o e=>(λh=>⟨.inl h.1,h.2⟩) (hH.gX.raw g o (by rw[<-show G'.raw=G.raw from fW Prod.snd R];exact e))⟩
  .rw[show G'.gX=G.gX from fW Prod.fst R]at e;exact((hH.gX.gX g cs e).mono Ea).iE (hplain g cs e _ _ _ _)
  .obtain⟨hp,m,hrow,hl,hcs⟩:=v p cs e;obtain⟨c,j,y,⟨eE,ty,fz,k1,k2,k3,k4⟩,g4,g5⟩:=hH.obj _ _ hrow;have hU:n.U c=eE.size:=by show(X.fF I H w).U c=eE.size;simp only[Kx.fF];rw[gO ⟨θ p,m,⟨p,hp,Z⟩,hrow,j⟩];simp only[KI,k1]
   refine⟨c,by show(if DF p then X.ρ (θ p)else J)=Y c;rw[gO hp];exact j,.inr ⟨θ p,_,hsep p hp,hrow,j⟩,⟨eE,ty,fz,k1,k2⟩,?_⟩;have:=eQ.fF (w:=w) (X:=κ2) cs 0 c 0 (λi=>eE.getD i undef) (by show _ <=n.U c;omega) (λi hi=>by rw[mj k1,lg];exact getD_some M) (λi hi=>((k4 i M).mono Ea).iE (hcs i M hi));exact this
  obtain⟨hp,cs1,hrow1,_⟩:=v p cs h1;obtain⟨hq,cs2,hrow2,_⟩:=v q m h2;have j:(if DF p then X.ρ (θ p)else J)=Y c:=j;have y:(if DF q then X.ρ (θ q)else J)=Y c:=y;rw[gO hp]at j;rw[gO hq]at y;exact hθ p q hp hq (hH.inj _ _ _ _ c hrow1 hrow2 j y)
 have hr2:fR w κ2 args1 cargs.toList:=by
  obtain⟨hl,N⟩:=hrel;generalize cargs.toList=cs at hl N⊢;clear z;induction K generalizing args1 cs with
  |nil=>exact Ua
  |cons a l ih=>
  cases args1 with
  |nil=>exact hargs.elim
  |cons a1 l1=>
  cases cs with
  |nil=>simp at hl
  |cons c cs=>
  obtain⟨k1,k2⟩:=ih hargs.2 cs EE (λi hi hj=>N (i+1) zS Jc);refine⟨by simp[k1],λi hi hj=>?_⟩;cases i with
  |zero=>exact((N 0 ei ei).mono Ea).iE hargs.1
  |succ i=>exact k2 i zS Jc
 have hc:=z _ w _ cargs h2 hr2;have fin:∀v' w',FinA G' B2 w κ2 Q1 v' w'->FinA G B w X Q v' w':=by
  rintro v' w' ⟨r1,H1',C,hq1,E,F,hrv⟩;obtain⟨r,H',hQ,hrr,hrw,hn,hobj'⟩:=hpost r1 H1' hq1
  let κ4:Kx:={ρ:=X.ρ,τ:=X.τ,U:=C.U,φ:=X.φ}
  have E4:fL B w X w' κ4:=by refine⟨⟨E.below.os,E.below.tape,E.below.output,E.below.size,λk hk=>E.below.block k (.inl hk)⟩,λ_ _ h=>h,λ_ _ h=>h,λc=>ny (Ea.u c) (E.u c),λc i hi=>E.fF c i (lw hi (Ea.u c)),E.cells,λc hc=>(E.rj c (.inl hc)).trans (Ea.rj c hc),λ_ _ h=>h⟩
  have b:∀q c,(C.iE s (·∈t.map π) id (λ_=>False)).ρ q=Y c->X.ρ q=Y c:=by
   intro q c hq;have hq:(if q∈t.map π then C.ρ (s q)else J)=Y c:=hq;split at hq
   .rename_i hm;obtain⟨p,hp,rfl⟩:=gS.1 hm;rw[W p hp]at hq;obtain⟨o,ho⟩:=big _ hm;obtain⟨d,hd,_⟩:=hH.obj _ o ho;have:=E.jM p d (by show(if p∈t then X.ρ (π p)else J)=Y d;rw[gO hp];exact hd);rw[hq]at this;cases this;exact hd
   cases hq
  have nophi:∀p c,(C.iE s (·∈t.map π) id (λ_=>False)).φ p=Y c->κ4.φ p=Y c:=λp c h=>by have h:(if False then C.ρ p else J)=Y c:=h;simp at h
  refine⟨r,H',κ4,hQ,E4,?_,(hrv.iE hrr).oq hrw (λq c _ h=>b q c h) xD xD (λ_=>fQ _) nophi⟩;have old:∀q o',H'.ep.dZ q=Y o'->∃o,H.ep.dZ q=Y o:=λq o' hq=>big q (hobj' q o' hq).1;refine⟨λk hk=>F.base k (.inl hk),λq o ho=>?_,λq q' o o' d hq hq' hd hd'=>?_,λq hq=>?_,λq d hq=>lw (hH.room q d hq) E.below.size,F.kS,hH.gX.mono E4⟩
  .obtain⟨hm,hnt,how,o1,ho1,hro⟩:=hobj' q o ho;obtain⟨c1,j,y,g3,g4,g5⟩:=F.obj _ o1 ho1;have hcq:X.ρ q=Y c1:=b q c1 (by show(if q∈t.map π then C.ρ (s q)else J)=Y c1;rw[gO hm];exact j);exact⟨c1,hcq,λhb=>y (.inl hb),(g3.iE hsame.symm hro).oq how (λq c _ h=>b q c h) xD xD (λ_=>fQ _) nophi Z,
    λe=>absurd e hnt,λ_=>g5 (λe=>hnt (hro.uY.1 e))⟩
  .exact MO
  exact Sq
 exact MA
end
section
variable{P:Program}{G G':ez}
def kR.rO(a:G'.ey=G.ey){o:AO}{c:Nat}(h:kR G w j o c):kR G' w j o c:=by
 cases o with
 |loop b v n F g f i d=>
  let⟨fn,e,l,k,B,K,r,m⟩:=h
  exact⟨fn,e,l,k,B,K,by rw[a];exact r,m⟩
 | _=>exact h
def eL.rO(b:(G'.gX,G'.raw)=(G.gX,G.raw))(d:G'.ey=G.ey)(j:∀q,G.fU q=J){i:L A}{Q:A->eM->Prop}(h:eL P G f i H Q):eL P G' f i H Q:=by
 intro B w k cargs K n;have I:fJ B G H w k:=⟨K.base,λp o y=>let⟨c,u,t,m,v⟩:=K.obj p o y;⟨c,u,t,m.rO d.symm,v⟩,K.inj,K.fresh,K.room,K.kS,
  ⟨λg s e=>K.gX.gX g s (by rw[show G'.gX=G.gX from fW Prod.fst b];exact e),λp s e=>by(rw[j]at e;cases e),λp q s F c e=>by(rw[j]at e;cases e),λg o e=>K.gX.raw g o (by rw[show G'.raw=G.raw from fW Prod.snd b];exact e)⟩⟩
 have hcall:=h B w k cargs I n;have fin:∀l w',FinA G B w k Q l w'->FinA G' B w k Q l w':=by rintro l w' ⟨r,D,C,N,E,a,z⟩;exact⟨r,D,C,N,E,⟨a.base,λp o y=>let⟨c,u,t,m,v⟩:=a.obj p o y;⟨c,u,t,m.rO d,v⟩,a.inj,a.fresh,a.room,a.kS,K.gX.mono E⟩,z⟩
 exact zM
def ee.rO(a:(G'.gX,G'.raw)=(G.gX,G.raw))(b:G'.ey=G.ey)(c:∀q,G.fU q=J)(h:ee P G f K v):ee P G' f K v:=λH=>(h H).rO a b c
end
section
variable(P:Program)(G:ez)
def Gt(f:FuncId)(K:L A)(H:eM)(Q:A->eM->Prop):Prop:=
 ∀(B:Nat->Prop)(w:World)(a:Kx)(b:Value)(s:L Value),fJ B G H w a->fR w a K s->CT P G B w a Q ((callFunc f (b::s).toArray).run P w)
end
section
variable{P:Program}{G:ez}
def Gt.vk{n:Nat}{k:L RV}{Q:A->eM->Prop}(hf:Has P f n k a)
  (h:jn P G dU J n a {F:=pP (.o .h) K,D:=[],H:=H} (vh G k Q)):Gt P G f K H Q:=by
 obtain⟨fn,c,R,r,m,rfl,h5,h6⟩:=hf;intro B w U d s hH hr;have y:(callFunc f (d::s).toArray).run P w=.ok (.enter f (d::s).toArray) w:=by simp[callFunc,gb,R,m,r]
 rw[y];show CallsIn Fence.wide 0 P f (d::s).toArray w _;refine callsIn_of_wp_marks R r eR ?_;have I:kA w U (pP (.o .h) K) ((d::s).toArray++Array.replicate (fn.ntmps - (d::s).toArray.size) undef):=by
  intro t v hv;obtain⟨x,hi,hx,N⟩:=OO (i:=1) hr Z t v hv;refine⟨x,?_,N⟩;have:(d::s).toArray[t]? =Y x:=by simp only[List.getElem?_toArray];rw[show t=(t - 1)+1 by omega,EB];exact hx
  have b:=qJ this;rw[MI b];exact this
 have hw:=(sB h6 h) B w U {tmps:=(d::s).toArray++Array.replicate (fn.ntmps - (d::s).toArray.size) undef,defers:=[]} Fence.wide ⟨by simp;omega,hH,I,eR⟩ Z;refine wpIn_mono hw ?_;rintro e a' w' ⟨j,κ',p,E,g⟩;have u:∀{l q},rA j.D j.H=Y l->nU G j.F l k=Y q->Q (rz q) l-> _:=λ{l q} hl hr2 p=>OD (P:=P) (fn:=fn) (Q:=Q) (by rw[ON h5];exact hr2) p hl g.fX g.heap g.tmps E;cases e with
 |normal=>exact Tt
 |ret=>exact Tt
 | _=>exact p.elim
def ee.pi{n:Nat}{b:A->Prop}(g:Has P f n l a)(hG:G.Pure)(j:∀a∈K,a.Pure)
  (h:tX (.o .h) K λF=>kB P G dT J n a ⟨F,[],⟨.e,.h⟩⟩ (rC G l λr _=>∃v,ot r v/\b v)):∃v,b v/\∀D,ee P G f (D::K) v:=by
 rw[yy,qO]at h;obtain⟨e,s',h1,h2⟩:=Az VX (lp h λ_ _=>wG);have k:∃r H',(∃v,ot r v/\b v)/\∀e1 s1,(e1=e/\s1=s')->vh G l (λu H1=>u=r/\H1=H') e1 s1:=UH
 let⟨r,H',⟨v,hcl,Q⟩,N⟩:=k
 have W:Gt P G f K ⟨.e,.h⟩ λu H1=>u=r/\H1=H':=Gt.vk g (lp h2 N);refine⟨v,Q,λD H B w m cargs hH U=>?_⟩
 let⟨I,t,d,_,s⟩:=U.Q
 have y:cargs=(I::t).toArray:=by rw[<-d]
 have h1:fJ (ku B H m λp=>T.dZ p (.e:T AO)=J) G {ep:=.e,dX:=.h} w (m.only λ_=>False):=M0;have z:fR w (m.only λ_=>False) K t:=
  ⟨s.1,λi C R=>(s.2 i C R).dW (j _ (fB C)) (λ_=>fQ _) (λ_ _ h=>h)⟩
 have hcall:=W _ w _ I t h1 z;rw[<-y]at hcall;have fin:∀v' w',FinA G (ku B H m λp=>T.dZ p (.e:T AO)=J) w (m.only λ_=>False) (λu H1=>u=r/\H1=H') v' w'->FinA G B w m (λr H'=>r=v/\H'=H) v' w':=by rintro v' w' ⟨_,_,κ',⟨rfl,rfl⟩,E,hH',hrv⟩;exact UA
 exact zM
end
end Go.As
namespace Go.As
open Go.RowKit
variable{P:Program}{G:ez}
def ee.QA(h:ee P G f b v)(n:mD id (λ_=>False) K b):ee P G f K v:=by
 have k:∀(l C:L A),mD id (λ_=>False) l C->O l=O C/\∀i (h:i<O l)(p:i<O C),gL id (λ_=>False) l[i] C[i]:=by
  intro l;induction l with
  |nil=>intro C h;cases C with|nil=>exact we|cons=>exact h.elim
  |cons v l m=>
  intro C h;cases C with
  |nil=>exact h.elim
  |cons q C=>obtain⟨e,h2⟩:=m C h.2;refine⟨by simp[e],λi hi hi'=>?_⟩;exact SD
 obtain⟨e,c⟩:=k _ _ n;intro H B w o s g a;refine h H B w o s g ⟨by rw[<-e];exact a.1,λi hi j=>?_⟩;have d:=(a.2 i M j).jV (c i M hi);exact d.dW (c i M hi).JU (λ_=>fQ _) (λ_ _ h=>h)
def Ap.QA{s:L A}{t:Option S}(h:Ap m 1 v s t)(hp:∀c∈s,c.Pure):∃r,ot v r/\fC s r:=h.ue hp
end Go.As
namespace Go.As
open Go
variable{P:Program}{G:ez}{R:Option S}{N:Nat}
def gJ.frame{c:Code}{e s:St}{Q:Exit->St->Prop}(h:gJ P G R N c e Q)(l:∀q v,e.F.dZ q=Y v->s.F.dZ q=Y v)(i:e.D=s.D)(K:e.H=s.H):gJ P G R N c s Q:=by intro B w m a F r n b k g f j d;exact h B w m a F (r.uT l i (by rw[K]) (by rw[K];exact fQ _)) n b k g f j d
def eT.frame{live:L S}{F:T A}{D:L S}{Q:Exit->St->Prop}(i:mq F live=Y w)
  (h:oM live w λf=>eT P G d R N a ⟨f,D,H⟩ Q):eT P G d R N a ⟨F,D,H⟩ Q:=by
 rw[wB]at h;have b:=λq v t=>tT i q v t;cases h with
 |any g h=>exact .any g λc K=>(h c K).frame b Z Z
 |one e j t h=>exact .one e j t λc K=>(h c K).frame b Z Z
 |none h=>exact .none h
def acK(a:L S)(b:L A->L S->T AO->S->Prop)(s:St):Prop:=im (mq s.F a) λw=>b w s.D s.H.ep s.H.dX
def eT.acL{e:L S}{F:T A}{D:L S}{n:S}{Q:Exit->St->Prop}(I:Nat->L A->L S->T AO->S->Prop)(o:Nat)
  (y:mq F e=Y w)(c:I o w D m n)
  (h:∀k w D m n,I k w D m n->oM e w λF=>kB P G d R N a ⟨F,D,⟨m,n⟩⟩ (l9 (acK e λl p x B=>∃i,i<k/\I i l p x B) Q)):eT P G d R N (.loop e a) ⟨F,D,⟨m,n⟩⟩ Q:=by
 refine eT.AL (λk s=>∃w D m n,I k w D m n/\s=⟨gB e w,D,⟨m,n⟩⟩) o ⟨gB e w,D,⟨m,n⟩⟩ ⟨w,D,m,n,c,Z⟩ (λq v t=>tT y q v t) Z Z ?_;rintro k s ⟨w,D,m,n,r,rfl⟩;have h1:=h k w D m n r;refine IV λh1=>?_;rintro z j;obtain⟨g,f,i,b,u⟩:=lK.1 j;exact⟨⟨gB e g,z.D,z.H⟩,⟨i,b,g,z.D,z.H.ep,z.H.dX,u,Z⟩,λq v t=>tT f q v t,Z,Z⟩
def GP:∀{D:L S}{m:T AO}{K:T AO->Prop},(∀d∈D,m.dZ d=Y .fX)->D.Nodup->(∀x,(∀q,q∉D->T.dZ q x=T.dZ q m)->(∀q∈D,T.dZ q x=J)->K x)->yz D m K
 |[],m,K,_,_,hk=>hk m (λ_ _=>Z) (λq h=>by cases h)
 |d::D,m,K,hd,hn,hk=>by
  simp only[yz];rw[hd d (by simp)];simp only[T.i6];have a:=qB.1 hn;refine GP (λq t=>?_) a.2 λx b r=>hk x (λq t=>?_) λq t=>?_
  .rw[T.gh _ _ _ _ (λe=>a.1 (by rw[<-e];exact t))];exact hd q (by simp[t])
  .rw[b q λh=>t (by simp[h]),T.gh _ _ _ _ λe=>t (by simp[e])]
  by_cases e:q∈D
  .exact r q e
  rw[b q e];obtain k|k:=eZ.1 t
  .subst k;exact T.EZ _ _ _
  exact absurd k e
