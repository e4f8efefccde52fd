/- Lemmas. No condition. -/
import Derived.Test.YtlkijhibifmamaaGreatDoorBI
set_option linter.all false
set_option autoImplicit true
set_option relaxedAutoImplicit true
set_option maxHeartbeats 0
set_option maxRecDepth 100000
noncomputable section
open Option renaming some→Y,none→J
open Bool renaming true→dT,false→dU
open List renaming length→O
namespace Go.As
open Go.RowKit
variable{P:Program}{G:ez}
def adF(C:fP P G){s:L A}(hv:fC s v)(a:mf s)(o:O s<=3*LB):ee P G 10 [v,v] (.bool dT):=by
 have b:LB=1099511627776:=Z;have d:v.Pure:=Sl.dW hv a.dW;suffices h:∃r,r=A.bool dT/\ee P G 10 [v,v] r by obtain⟨_,rfl,h⟩:=h;exact h
 refine ee.fj (C.fs.h 10) C.dW (jA d d) (wK ?_);refine fM hv ?_;refine fM hv ?_;refine eW (λh=>?_) (λh=>?_)
 .exact absurd Z (JX ly)
 conv=>whnf
 refine eT.pd (λj w=>∃k,k+j=O s/\w=[v,v,V k]) (O s) Z ⟨0,M,Z⟩ ?_;rintro j w ⟨k,c,rfl⟩;refine xB ?_;refine eW (λh=>?_) (λh=>?_)
 .replace h:=gz h;obtain⟨z,hz⟩:=a _ (fB h);conv=>whnf
  refine gC ?_;refine gW hv h ?_;refine sK xR ?_;refine gW hv h ?_;refine sK xR ?_;rw[hz];conv=>whnf
  rw[show gD z z=dT from oP.2 Z];conv=>whnf
  repeat'(first|refine⟨Z,wK ?_⟩|refine bK (λ_=>?_) λ_=>?_)
  exact⟨j - 1,M,k+1,M,by rw[je M]⟩
 conv=>whnf
 exact MU
def adG(C:fP P G):∀(d l:Nat){v:A}{R:L (L A)}(f:Nat->Nat),fT 6 R v->O R<=eI->(∀k (h:k<O R),jJ lu d l R[k] (f k))->f9 P G 12 [v] λr=>∃z,r=.int .i64 z:=by
 refine gT λhM=>?_;intro d;induction d with
 |zero=>
  intro l v R f a hl t;have pv:v.Pure:=fT.dW a λy Q c hc=>by obtain⟨i,N,rfl⟩:=km Q;exact(t i N).elim
  refine Vi ?_;rintro j w ⟨k,z,hk,rfl⟩;by_cases h:k<O R
  .exact(t k h).elim
  conv=>whnf
  refine fM a.1 ?_;refine eW (λh'=>?_) (λh'=>?_)
  .exact absurd (gz h') h
  conv=>whnf
  exact tq
 |succ d ih=>
 intro l v R f a hl t;have pv:v.Pure:=fT.dW a λy Q c hc=>by obtain⟨i,N,rfl⟩:=km Q;exact(t i N).dW c hc
 refine Vi ?_;rintro j w ⟨k,z,hk,rfl⟩;conv=>whnf
 refine fM a.1 ?_;refine eW (λh=>?_) (λh=>?_)
 .replace h:=gz h;have o:=t k h;generalize u:R[k]=x at o;generalize f k=n0 at o;have hv2:R[k]? =Y x:=by rw[jq h,u]
  cases o with
  |mk nm vo vr va vg vs0 os rs as E ss f h1 h2 h3 h4 h5 h6 h7 h8 h9 h10 b h12 h13 h14 h15 h16 B=>
  conv=>whnf
  refine bK (λe=>?_) λe=>?_
  .refine gC ?_;refine gW a.1 h ?_;refine sK (nY (k:=1) Z a.2 h M (by rw[u];rfl)) ?_;refine fM h2 ?_;refine gW a.1 h ?_;refine sK (nY (k:=2) Z a.2 h M (by rw[u];rfl)) ?_;refine fM h5 ?_;repeat'(first|refine⟨Z,wK ?_⟩|refine bK (λ_=>?_) λ_=>?_)
   refine eT.pd (λU w=>∃W z,W+U=O E/\w=[v,.int .i64 z,V k,V W]) (O E) Z ⟨0,_,M,Z⟩ ?_;rintro j1 w ⟨W,z1,og,rfl⟩;conv=>whnf
   refine gW a.1 h ?_;refine sK (nY (k:=4) Z a.2 h M (by rw[u];rfl)) ?_;refine fM b.1 ?_;refine eW (λn=>?_) (λn=>?_)
   .replace n:=gz n;conv=>whnf
    refine bK (λh3=>?_) λh3=>?_
    .have F:=B W n;generalize I:E[W]=g at F;generalize f W=fk at F;cases F with
     |mk vb H f1 p g2 g3 g4=>
     refine eT.pd (λU w=>∃q z,q+U=O H/\w=[v,.int .i64 z,V k,V W,V q]) (O H) Z ⟨0,_,M,Z⟩ ?_;rintro j2 w ⟨q,z2,jp,rfl⟩;conv=>whnf
     refine Um ?_;refine fM p.1 ?_;refine eW (λs=>?_) (λs=>?_)
     .replace s:=gz s;conv=>whnf
      refine bK (λh4=>?_) λh4=>?_
      .have m:=g4 q s;generalize D:H[q]=y at m;generalize f1 q=fk2 at m;cases m with
       |mk va2 vo2 K ops2 f2 q1 q2 q3 q4 q5 q6 q7=>obtain⟨_,⟨z3,rfl⟩,f12⟩:=ih _ _ q4 q5 q7;refine Um ?_;refine gW p.1 s ?_;refine sK (nY (k:=1) Z p.2 s M (by rw[D];rfl)) ?_;refine ee.c f12 ?_;exact⟨Z,Z,j2 - 1,M,q+1,_,M,by rw[je M]⟩
      exact SY
     conv=>whnf
     exact SY
    exact Mq
   conv=>whnf
   exact Mq
  exact tq
 conv=>whnf
 exact tq
def adH(C:fP P G){t:L (L A)}(e:vI lu d (.agg [v]) t):f9 P G 4 [.agg [v]] λr=>∃b,r=.bool b:=by
 cases e with
 |mk v t f K a m h4=>have g:v.Pure:=fT.dW K λy hy c hc=>HL;obtain⟨_,⟨z,rfl⟩,f12⟩:=adG C d 0 f K a h4;refine ee.fj (C.fs.h 4) C.dW (it (jg HY)) (wK ?_);refine ee.c f12 ?_;exact HQ
def ub.len{x:L A}(h:ub x):O x=2:=by cases h;rfl
def BA{a b c:AO}:eX (T.n (Y a) (T.n (Y b) T.e T.e) (T.n (Y c) T.e T.e)) (.o (.o .h)):=λq o h=>by
 match q with
 |.h=>decide
 |.o .h=>decide
 |.i .h=>decide
 |.o (.o q)|.o (.i q)|.i (.o q)|.i (.i q)=>simp at h
def adI(C:fP P G){x:List A}(hx:j9 DAny x):f9 P G 18 [.agg x] λr=>∃y,r=.agg y/\j9 DAny y:=by
 have hM:eI=1048576:=rfl;have px:(A.agg x).Pure:=jg hx.dW;cases hx with
 |mk nm vi vo va zr zs vt is os as ts h1 h2 h3 h4 h5 h6 h7 h8 h9 h10 h11 h12 h13 h14=>
 have pvi:vi.Pure:=Sl.dW h2 h3.dW;have pvo:vo.Pure:=Sl.dW h5 h6.dW;have pvt:vt.Pure:=Sl.dW h11 h12.dW;have lenR:∀x∈as,x.length=2:=λx hx=>(h9 x hx).len;refine ee.fj (C.fs.h 18) C.dW (it px) (wK ?_);refine sK (Do (cs:=[.J nm,vi,vo,.ej,.int .i64 zr,.int .i64 zs,vt]) (ps:=[(0,1,.J nm),(1,1,vi),(2,1,vo),(4,1,.int .i64 zr),(5,1,.int .i64 zs),(6,1,vt)]) rfl (by simp only[qd,Sl.cells h2,Sl.cells h5,Sl.cells h11];rfl)) ?_;refine sK (vF rfl rfl (by simp only[fN,Sl.one h2,Sl.one h5,Sl.one h11];rfl) rfl rfl rfl) ?_;refine eT.jl (λj vs m nx=>∃(k:Nat)(out:A)(t:Option S)(p1 p2 p3:S),(p1.dV=1/\p2.dV=2/\p3.dV=3)/\k+j=as.length/\eX m nx/\Ap m 2 out (as.take k).flatten t/\4<=nx.dV/\(∀q,t=Y q->3<q.dV)/\
   m.dZ p1=Y (.dY [.J nm,vi,vo,va,.int .i64 zr,.int .i64 zs,vt])/\m.dZ p2=Y (.dY [.J [],.ej,.ej,.ej,.int .i64 (.ofNat 0),.int .i64 (.ofNat 0),.ej])/\m.dZ p3=Y (.dY [.J nm,vi,vo,.ej,.int .i64 zr,.int .i64 zs,vt])/\
   vs=[.ea p1 0,.ea p2 0,.ea p3 0,out,.int .i64 (.ofNat k)]) as.length rfl ⟨0,_,J,.h,.o .h,.i .h,⟨rfl,rfl,rfl⟩,M,?_,.nil,fQ _,λq e=>(by cases e),rfl,rfl,rfl,rfl⟩ ?_
 .exact BA
 rintro j vs m nx ⟨k,out,t,p1,p2,p3,⟨e1,e2,e3⟩,hk,hb,hap,hnx,ht,g1,g2,g3,rfl⟩;conv=>whnf
 refine eu g1 ?_;refine fM h8.1 ?_;refine eW (λh=>?_) (λh=>?_)
 .replace h:=gz h;conv=>whnf
  refine eT.jk C.mixed rfl (wK ?_);have hn:=h9 as[k] (fB h);generalize hx:as[k]=x at hn;cases hn with
  |mk an ak han=>
  refine eu g1 ?_;refine gW h8.1 h ?_;refine sK (nY (k:=0) rfl h8.2 h M (by rw[hx];rfl)) ?_;refine eu g1 ?_;refine gW h8.1 h ?_;refine sK (nY (k:=1) rfl h8.2 h M (by rw[hx];rfl)) ?_;have hfl:(as.take k).flatten.length=k*2:=by rw[pS λx hx=>lenR x (HV hx),uw,Nat.min_eq_left M]
  refine sK (nH (k:=k) (ew:=[.J an,.int .i64 ak]) hap hfl M rfl rfl rfl rfl (room (by unfold kr;omega) (by unfold kr;omega))) ?_;refine sR (wK ?_);rw[je M];have old:∀q:S,q.dV<4->(lC t m nx).dZ q=m.dZ q:=λq hq=>by refine jZ M λe=>?_;have:=ht q e;omega
  refine⟨rfl,j - 1,M,k+1,_,Y nx,p1,p2,p3,⟨e1,e2,e3⟩,M,hb.iW,?_,?_,λq e=>?_,(old _ M).trans g1,(old _ M).trans g2,(old _ M).trans g3,rfl⟩
  .rw[KW h,hx];exact .dX (by rw[iN,hfl];show k*2+2= _;omega)
  .rw[S.gG];omega
  cases e;omega
 conv=>whnf
 have hk':k=as.length:=by have:=iK h;omega
 subst hk';rw[List.take_length]at hap;obtain⟨r,hr1,hr2⟩:=hap.G M lenR (λx hx=>(h9 x hx).dW);have co:out.cells=[out]:=hap.cells;have oo:mT out=dT:=hap.one;refine sK (ip (cs':=[.J nm,vi,vo,out,.int .i64 zr,.int .i64 zs,vt]) rfl rfl g3 (by rw[co];rfl) (by rw[co];simp only[fN,oo];rfl) (by rw[co];rfl)) ?_;refine gH λm2 em2=>wK ?_;have k1:=gE em2;have k2:=gN em2 g2;refine eu k1 ?_;refine sK (ip (v:=.agg _) (cs':=[.J nm,vi,vo,out,.int .i64 zr,.int .i64 zs,vt]) rfl rfl k2 rfl (by simp only[A.cells,fN,Sl.one h2,Sl.one h5,Sl.one h11,oo];rfl) rfl) ?_;refine gH λm3 em3=>wK ?_;have k3:=gE em3;refine sK (qu rfl k3 rfl rfl) ?_;refine⟨.agg [.J nm,vi,vo,r,.int .i64 zr,.int .i64 zs,vt],.agg _ _ rfl λi hi hi'=>?_,_,rfl,.mk nm vi vo r zr zs vt is os as ts h1 h2 h3 h4 h5 h6 h7 hr2 h9 h10 h11 h12 h13 eR⟩
 match i,hi with
 |0,_=>exact .ey _ (jX _)
 |1,_=>exact .ey _ pvi
 |2,_=>exact .ey _ pvo
 |3,_=>exact hr1
 |4,_=>exact .ey _ (iQ _ _)
 |5,_=>exact .ey _ (iQ _ _)
 |6,_=>exact .ey _ pvt
def CL(s m:L A):Prop:=O s=O m/\∀i (h:i<O s)(n:i<O m),ot s[i] m[i]
def CL.nil:CL [] []:=we
def CL.iW{a b c d:L A}(K:CL a b)(r:CL c d):CL (a++c) (b++d):=by
 refine⟨by rw[iN,iN,K.1,r.1],λi h n=>?_⟩;by_cases e:i<O a
 .rw[uE e,uE (by rw[<-K.1];exact e)];exact K.2 i e _
 have f:=K.1;rw[Ab M,Ab M];have:=r.2 (i - O a) (by rw[iN]at h;omega) (by rw[iN]at h n;have:=r.1;omega);simpa[f]using this
def CL.j(h:∀c∈a,c.Pure):CL a a:=⟨Z,λi K _=>.ey _ (h _ (fB K))⟩
def Ap.adJ{o:Nat}{s:L A}{a:L (L A)}{t:Option S}(h:Ap m o v s t)(K:CL s a.flatten)(C:0<o)(b:∀z∈a,O z=o):∃r,ot v r/\fT o a r:=by
 have d:=pS b;cases h with
 |nil=>
  have c:O a.flatten=0:=K.1.symm;have:a=[]:=by
   obtain h|h:=xN (O a)
   .exact pG h
   have:=Nat.mul_pos h C;omega
  subst this;exact⟨.ej,.ey _ kC,.inl ⟨Z,Z,Z⟩,b⟩
 |eG j w t k f=>have i:=K.1;have g:j=O a:=MS C M;subst g;exact⟨.eG o (O a) a.flatten .G,.G _ _ _ _ _ K.1 K.2,.inr ⟨.G,mR,Z,d⟩,b⟩
def adK(C:fP P G){s:L (L A)}(o:fT 3 s l)(hx:iR (lO DAny sL) s)(hxl:O s<=eI):f9 P G 7 [l] λr=>∃w,fT 3 w r/\iR (lO DAny sL) w/\O w=O s:=by
 refine gT λhM=>?_;have pl:l.Pure:=o.dW λx h=>(hx x h).dW;refine ee.fj (C.fs.h 7) C.dW (it pl) (wK ?_);refine eT.jl (λj vs m nx=>∃(k:Nat)(b:A)(t:Option S)(cs:L A)(w:L (L A)),k+j=O s/\O w=k/\O cs=k*3/\iR (lO DAny sL) w/\CL cs w.flatten/\eX m nx/\Ap m 3 b cs t/\
   vs=[l,b,V k]) (O s) Z ⟨0,_,J,[],[],M,Z,Z,λx h=>B8,CL.nil,eX.e,.nil,Z⟩ ?_
 rintro j vs m nx ⟨k,b,t,cs,w,hk,hyl,hcl,hys,hcy,hb,I,rfl⟩;conv=>whnf
 refine fM o.1 ?_;refine eW (λh=>?_) (λh=>?_)
 .replace h:=gz h;have hd:=hx s[k] (fB h);generalize g:s[k]=x at hd;cases hd with
  |mk p Q vd ts ds h1 h2 W h4 h5 h6 h7 h8=>
  have pvt:Q.Pure:=Sl.dW h2 W.dW;conv=>whnf
  refine gC ?_;refine gW o.1 h ?_;refine sK (nY (k:=0) Z o.2 h M Ej) ?_;refine gW o.1 h ?_;refine sK (nY (k:=1) Z o.2 h M Ej) ?_;refine sK (Do (cs:=[.J p,Q,.ej]) (ps:=[(0,1,.J p),(1,1,Q)]) Z (by simp only[qd,Sl.cells h2];rfl)) ?_;refine hX λm1 n1 B en1=>wK ?_;refine Jd λt1=>?_;repeat'(first|refine sK (nY (k:=1) (v:=Q) Z o.2 h M Ej) ?_|refine sK (nY (k:=0) (v:=.J p) Z o.2 h M Ej) ?_|refine gW o.1 h ?_|refine gI (gK _) (wK ?_)|fail)
  have k1:=gE B;refine sK (ip (v:=.agg _) (cs':=[.J p,Q,.ej]) Z Z k1 Z (by simp only[A.cells,fN,Sl.one h2];rfl) Z) ?_;refine gH λm2 D=>wK ?_;have k2:=gE D;have hb2:eX m2 n1:=by rw[D,B,en1];exact hb.ew.put kP
  have hap2:Ap m2 3 b cs t:=I.mono λq e=>by have W:=I.eY q e;have h4:=hb q _ W;rw[D,eJ M,B,eJ M];exact W
  have ht0:∀q,t=Y q->q.dV<nx.dV:=λq e=>hb q _ (I.eY q e);clear D B k1;repeat'(first|refine gI (gK _) (wK ?_)|fail)
  refine eT.jl (λj' vs m nn=>∃(N:Nat)(a:A)(t':Option S)(U:L (L A)),N+j'=O ds/\O U=N/\iR (j9 DAny) U/\eX m nn/\Ap m 3 b cs t/\Ap m 7 a U.flatten t'/\(∀q,t'=Y q->nx.dV<q.dV)/\nx.dV<nn.dV/\
    m.dZ nx=Y (.dY [.J p,Q,.ej])/\vs=[l,b,V k,.ea nx 0,a,V N]) (O ds) Z ⟨0,_,J,[],M,Z,λx h=>B8,hb2,hap2,.nil,λq e=>(by cases e),M,k2,Z⟩ ?_
  rintro j' vs m3 n3 ⟨N,a,t',U,hk',hzl,K,hb3,d,f,ht',hn3,k3,rfl⟩;have u:∀z∈U,O z=7:=λz hz=>by have:=K z hz;cases this;rfl
  refine Ty ?_;refine fM h5.1 ?_;refine eW (λn=>?_) (λn=>?_)
  .replace n:=gz n;obtain⟨_,⟨y,rfl,hy⟩,fd⟩:=adI C (h6 ds[N] (fB n));refine Ty ?_;refine gW h5.1 n ?_;refine sK (lN Z h5.2 n) ?_;refine ee.c fd ?_;have hy0:=hy;have yones:=hy.Y;have hfl:O U.flatten=N*7:=by rw[pS u,hzl]
   have R:O y=7:=by cases hy;rfl
   have hlit:∀{F:T A}{H:eM}{x:IX},x.ev G F=Y (.agg y)->fA G dU F H (.lit 7 1 [.J [],.ej,.ej,.ej,V 0,V 0,.ej] [(0,7,x)])=Y (.val (.eG 7 1 y .fE)):=λ{F H x} hx=>by refine Qw (ps:=[(0,7,.agg y)]) (by simp[o5,hx]) ?_;cases hy;rfl
   refine sK (hlit Z) ?_;refine sK (nH (k:=N) (ew:=y) f hfl M Z Z yones R nw) ?_;refine sR (wK ?_);refine iu ?_;have ne:∀q,t'=Y q->∀q2,t=Y q2->q.dV≠q2.dV:=λq e q2 e2=>by have:=ht' q e;have:=ht0 q2 e2;omega
   have old:∀q:S,q.dV<n3.dV->t'≠Y q->(lC t' m3 n3).dZ q=m3.dZ q:=λq hq ht=>jZ M ht;refine⟨Z,j' - 1,M,N+1,_,Y n3,U++[y],M,by simp[hzl],?_,hb3.iW,?_,?_,λq e=>(by cases e;omega),kP,?_,Z⟩
   .intro z hz;obtain h|h:=jf.1 hz
    .exact K z h
    obtain rfl:z=y:=by simpa using h
    exact hy
   .refine d.mono λq e=>?_;have:=ht0 q e;rw[old q M λe'=>ne q e' q e Z];exact d.eY q e
   .simp only[qE,nK,zW,oi];exact .dX (by rw[iN,hfl,R];omega)
   rw[old nx hn3 λe=>by have:=ht' _ e;omega];exact k3
  conv=>whnf
  have hk'':N=O ds:=by have:=iK n;omega
  obtain⟨r,hr1,hr2⟩:=f.G M u (λz hz=>(K z hz).dW);have co:a.cells=[a]:=f.cells;have oo:mT a=dT:=f.one;refine sK (ip (cs':=[.J p,Q,a]) Z Z k3 (by rw[co];rfl) (by rw[co];simp only[fN,oo];rfl) (by rw[co];rfl)) ?_;refine gH λm5 E=>wK ?_;have k5:=gE E;have hb5:eX m5 n3:=by rw[E];exact hb3.put hn3
  have hap5:Ap m5 3 b cs t:=d.mono λq e=>by have W:=d.eY q e;have:=ht0 q e;rw[E,eJ M];exact W
  clear E;refine eu k5 ?_;refine sK (nH (k:=k) (ew:=[.J p,Q,a]) hap5 hcl M Z Z (by simp only[fN,Sl.one h2,oo];rfl) Z nw) ?_;refine sR (wK ?_);refine iu ?_;refine⟨Z,j - 1,M,k+1,_,Y n3,cs++[.J p,Q,a],w++[[.J p,Q,r]],M,by simp[hyl],by simp[hcl];omega,?_,?_,hb5.iW,.dX (by simp[hcl];omega),Z⟩
  .intro z hz;obtain h|h:=jf.1 hz
   .exact hys z h
   obtain rfl:z=[.J p,Q,r]:=by simpa using h
   exact .mk p Q r ts U h1 h2 W h4 hr2 K M eR
  simp only[qE,nK,zW,oi];refine hcy.iW ⟨Z,λi hi hi'=>?_⟩
  match i,hi with
  |0,_=>exact .ey _ j5
  |1,_=>exact .ey _ pvt
  |2,_=>exact hr1
 conv=>whnf
 have hk':k=O s:=by have:=iK h;omega
 subst hk';obtain⟨r,hr1,hr2⟩:=I.adJ hcy M (λz hz=>by have:=hys z hz;cases this;rfl);exact⟨r,hr1,w,hr2,hys,hyl⟩
end Go.As
namespace Go.As
open Go.RowKit
variable{P:Program}{G:ez}{core:List (List A)}
def Hg:Nat->Int
 |0=>.negSucc 0
 |k+1=>.ofNat k
def pj(cell:A->L A)(i:Nat):L A->A
 |[]=>.int .i64 (.ofNat 0)
 |e::l=>match cell e with
  |[.int _ (.ofNat f),_,z]=>cond (Nat.beq f i) z (pj cell i l)
  | _=>pj cell i l
def Rp{cell:A->L A}{i:Nat}:∀{l r:L A},(∀e∈l,∃j d z,j≠i/\cell e=[.int .i64 (.ofNat j),d,z])->pj cell i (l++r)=pj cell i r:=by
 intro l r;induction l with
 |nil=>intro _;rfl
 |cons e l b=>
 intro h;obtain⟨j,d,z,a,K⟩:=h e mw;have:Nat.beq j i=dU:=by rw[pB,ne_eq,nr];exact a
 simp only[rW,pj,K,this,jx];exact b λe F=>h e (mL _ F)
def adL{cell:A->L A}{i:Nat}(h:∀e∈l,∃j d z,j≠i/\cell e=[.int .i64 (.ofNat j),d,z]):pj cell i l=.int .i64 (.ofNat 0):=by have:=Rp (r:=[]) h;rwa[oi]at this
def adM{cell:A->L A}{i:Nat}:∀{es:L (L A)}(b:Nat),(∀j (h:j<O es),∀e∈es[j],∃d z,cell e=[.int .i64 (.ofNat (b+j)),d,.int .i64 z])->b<=i->∀(C:i - b<O es),pj cell i es.flatten=sZ cell es[i - b]:=by
 intro es;induction es with
 |nil=>intro b _ _ C;simp at C
 |cons l es k=>
 intro b h m C;obtain g|f:=kG b i
 .rw[nK,Rp]
  .have:=k (b+1) (λj a e F=>by obtain⟨d,z,K⟩:=h (j+1) HS e Ep;exact⟨d,z,by rw[K];congr 3;omega⟩) M (by simp at C;omega)
   rw[this];have c:i - b=(i - (b+1))+1:=M
   simp only[c,Nz]
  intro e F;obtain⟨d,z,K⟩:=h 0 ei e Ep;exact⟨b+0,d,_,M,K⟩
 obtain rfl:b=i:=M
 simp only[BZ,wf];cases l with
 |nil=>rw[nK,uz];show pj cell b es.flatten=V 0;refine adL λe F=>?_;obtain⟨l,o,F⟩:=lE.1 F;obtain⟨j,a,rfl⟩:=km o;obtain⟨d,z,K⟩:=h (j+1) HS e Ep;exact⟨b+(j+1),d,_,M,K⟩
 |cons e l=>obtain⟨d,z,K⟩:=h 0 ei e ei;simp only[zu]at K;simp only[nK,rW,pj,sZ,K,qA,gZ]
def adN{cell:A->L A}{i:Nat}:∀{l:L A},(∀e∈l,∃j d z,cell e=[.int .i64 (.ofNat j),d,.int .i64 z])->∃z,pj cell i l=.int .i64 z:=by
 intro l;induction l with
 |nil=>intro _;exact⟨_,Z⟩
 |cons e l a=>
 intro h;obtain⟨j,d,z,K⟩:=h e mw;simp only[pj,K];cases Nat.beq j i
 .exact a λe F=>h e (mL _ F)
 exact⟨_,Z⟩
def adO(C:iF P G)(hfr:∀q,G.fU q=J)(w:∀g cs,G.gX g=Y cs->Plain (.fF cs 0))(La:Lib P G core)(hc:Df P G vc core)(hc0:core≠[])(aw:ee P G 5 [] (.bool dT))(hht:ht<=LB){fs s:L (L A)}(hm:vI lu ht (.agg [v]) fs)(hco:∀x∈fs,∃c0,c0<=eI/\OpC ht x c0)(hl:fT 3 s l)(u:iR (lO DAny sL) s)(hxl:O s<=eI):
  ee P G 3 [.agg [v],l] (.bool dT):=by
 have hLB:LB=1099511627776:=Z;refine gT λhM=>?_;have hv:fT 6 fs v:=by cases hm;assumption
 have hfl:O fs<=eI:=by cases hm;assumption
 have d:v.Pure:=TW;have pl:l.Pure:=hl.dW λx h=>(u x h).dW;obtain⟨lv,⟨ys,hy1,hy2,hy3⟩,fp⟩:=adK C.tofP hl u hxl;obtain⟨_,⟨Dh,rfl⟩,ff⟩:=adH C.tofP hm;have ans:=adD C hfr w La hc hc0 hht hm hco hy1 hy2 M;suffices h:∃r,r=A.bool dT/\ee P G 3 [.agg [v],l] r by obtain⟨_,rfl,h⟩:=h;exact h
 refine ee.fj (C.fs.h 3) C.dW (jA (jg zZ) pl) (wK ?_);refine ee.c ff ?_;cases Dh with
 |false=>
  conv=>whnf
  exact Er
 |true=>
 conv=>whnf
 refine gC ?_;refine ee.c fp ?_;repeat'(first|refine⟨Z,wK ?_⟩|refine bK (λ_=>?_) λ_=>?_)
 obtain⟨e,h⟩|⟨cell,es,h⟩:=ans
 .refine ee.c h.all ?_;refine gC ?_;refine ee.c fp ?_;repeat'(first|refine⟨Z,wK ?_⟩|refine bK (λ_=>?_) λ_=>?_)
  refine ee.c h.mW ?_;repeat'(first|refine gI (gK _) (wK ?_)|fail)
  refine eW (λQ=>?_) (λQ=>?_)
  .conv=>whnf
   rw[show gD e e=dT from oP.2 Z];conv=>whnf
   exact Er
  exact absurd (Kl (by simpa using Q)) h.ne
 let⟨W,o,B⟩:=h.all
 refine ee.c B ?_;refine gC ?_;refine ee.c fp ?_;repeat'(first|refine⟨Z,wK ?_⟩|refine bK (λ_=>?_) λ_=>?_)
 refine ee.c h.mW ?_;repeat'(first|refine⟨Z,wK ?_⟩|refine bK (λ_=>?_) λ_=>?_)
 refine gC ?_;refine ee.c fp ?_;repeat'(first|refine⟨Z,wK ?_⟩|refine bK (λ_=>?_) λ_=>?_)
 refine ee.c h.Ro ?_;have D:=h.sV;have I:=h.Hd;have hlen:=h.len;have hfn:=h.fn;have b:∀e∈es.flatten,∃(i:Nat)(d:A)(s:L A)(z:Int),(∃hi:i<O es,e∈es[i])/\(z≠0/\O s<=3*LB)/\cell e=[V i,d,.int .i64 z]/\fC s d/\mf s:=λe m=>by obtain⟨l1,hl1,m⟩:=lE.1 m;obtain⟨i,hi,rfl⟩:=km hl1;obtain⟨d,s,z,h1,h2,h3,h4⟩:=I i hi e m;exact⟨i,d,s,z,⟨hi,m⟩,h1,h2,h3,h4⟩
 have R:∀i (hi:i<O es),pj cell i es.flatten=sZ cell es[i]:=λi hi=>by
  have:=adM (cell:=cell) (i:=i) (es:=es) 0 (λj hj e m=>by obtain⟨d,s,z,h1,h2,h3,h4⟩:=I j hj e m;exact⟨d,z,by rw[h2,lg]⟩) (oE _) zS
  simpa using this
 generalize hfe:es.flatten=a at D o b R;clear B h;have p:fT 3 (a.map cell) W:=⟨by rw[jH];exact o,λx u=>by obtain⟨e,m,rfl⟩:=gS.1 u;obtain⟨_,_,_,_,_,_,h,_⟩:=b e m;rw[h];rfl⟩
 have K:∀(k:Nat)(h:k<O (a.map cell)),(a.map cell)[k]=cell (a[k]' ly):=λk h=>by rw[mM]
 cases a with
 |nil=>
  repeat'(first|refine⟨Z,wK ?_⟩|refine bK (λ_=>?_) λ_=>?_)
  refine fM o ?_;exact Er
 |cons e0 r=>
 obtain⟨i0,pv0,xs0,z0,_,⟨hz0,hlx⟩,hce,hs0,hi0⟩:=b e0 mw;simp only[Hf,sZ,hce];obtain⟨a,N⟩:∃a,a=e0::r:=⟨_,Z⟩;rw[<-N]at p K b R D o;have Q:0<O (a.map cell):=by rw[N];simp
 have g0:(a.map cell)[0]=[V i0,pv0,.int .i64 z0]:=by simp only[N,jL,wf];exact hce
 have zz:gD z0 z0=dT:=oP.2 Z;have ii:gD (.ofNat i0) (.ofNat i0)=dT:=oP.2 Z;have z00:gD z0 (.ofNat 0)=dU:=by
  cases hb:gD z0 (.ofNat 0)
  .rfl
  exact absurd (Kl hb) hz0
 have fs1:=adF C.tofP hs0 hi0 hlx;have l0:∀{F:T A}{H:eM}{x:IX},x.ev G F=Y (.fF (a.map cell).flatten (0*3+0))->fA G dU F H (.load J x)=Y (.val (V i0)):=λu=>nY u p.2 Q M (by rw[g0];rfl);have l1:∀{F:T A}{H:eM}{x:IX},x.ev G F=Y (.fF (a.map cell).flatten (0*3+1))->fA G dU F H (.load J x)=Y (.val pv0):=λu=>nY u p.2 Q M (by rw[g0];rfl);have l2:∀{F:T A}{H:eM}{x:IX},x.ev G F=Y (.fF (a.map cell).flatten (0*3+2))->fA G dU F H (.load J x)=Y (.val (.int .i64 z0)):=λu=>nY u p.2 Q M (by rw[g0];rfl);conv=>whnf
 repeat'(first|refine⟨Z,wK ?_⟩|refine bK (λ_=>?_) λ_=>?_)
 refine fM p.1 ?_;refine eW (λhz=>?_) (λhz=>?_)
 .have:=oP.1 hz;have:O (a.map cell)=0:=by simpa using this
  omega
 conv=>whnf
 repeat'(first|(rw[z00];conv=>whnf)|(rw[zz];conv=>whnf)|(rw[ii];conv=>whnf)|refine sK (kL (j:=0) Z p.1 Z Z Q) ?_|refine sK (l0 Z) ?_|refine sK (l1 Z) ?_|refine sK (l2 Z) ?_|fail)
 refine ee.c fs1 ?_;refine eT.pd (λj vs=>∃k,k+j=O fs/\vs=[l,.ea .h 0,W,V k]) (O fs) Z ⟨0,M,Z⟩ ?_;rintro j vs ⟨k,hk,rfl⟩;conv=>whnf
 refine fM hv.1 ?_;have U:O (a.map cell)=O a:=by rw[jH]
 refine eW (λh=>?_) (λh=>?_)
 .replace h:=gz h;conv=>whnf
  refine bK (λh5=>?_) λh5=>?_
  .refine fM p.1 ?_;rw[qf M M];refine eT.pd (λj' vs=>∃n,n=j'/\n<=O a/\vs=[l,.ea .h 0,W,V k,pj cell k (a.drop n),.int .i64 (Hg n)]) (O a) Z ⟨O a,Z,fQ _,?_⟩ ?_
   .rw[zC (fQ _),U];obtain⟨n,hn⟩:∃n,O a=n+1:=⟨O a - 1,M⟩;rw[hn];rfl
   rintro j' vs ⟨n,rfl,hn,rfl⟩;cases n with
   |zero=>
    have hkl:k<O es:=by rw[hlen];exact h
    obtain⟨zw,hzw⟩:=adN (cell:=cell) (i:=k) (l:=a) λe m=>by obtain⟨i,d,_,z,_,_,hc,_⟩:=b e m;exact⟨i,d,z,hc⟩
    have hfk:ee P G 11 [.agg [v],lv,V k] (.int .i64 zw):=by have:=hfn k hkl;rwa[<-R k hkl,hzw]at this
    have ww:gD zw zw=dT:=oP.2 Z;rw[En,hzw];conv=>whnf
    refine gC ?_;refine ee.c fp ?_;repeat'(first|refine⟨Z,wK ?_⟩|refine bK (λ_=>?_) λ_=>?_)
    refine ee.c hfk ?_;rw[ww];repeat'(first|refine⟨Z,wK ?_⟩|refine bK (λ_=>?_) λ_=>?_)
    refine iu ?_;exact⟨j - 1,M,k+1,M,Z⟩
   |succ n=>
   have t:n<O (a.map cell):=M
   obtain⟨i1,pv1,xs1,z1,_,_,hc1,_,_⟩:=b a[n] (fB M);have gn:(a.map cell)[n]=[V i1,pv1,.int .i64 z1]:=by rw[K n t];exact hc1
   have hdr:a.drop n=a[n]::a.drop (n+1):=EI M;have hst:pj cell k (a.drop n)=cond (Nat.beq i1 k) (.int .i64 z1) (pj cell k (a.drop (n+1))):=by rw[hdr];simp only[pj,hc1]
   have E:jN .i64 (Hg (n+1) - .ofNat 1)=Hg n:=by
    show jN .i64 (.ofNat n - .ofNat 1)=Hg n;cases n with
    |zero=>rfl
    |succ n=>exact qf M M
   conv=>whnf
   refine sK (kL (j:=n) Z p.1 Z Z t) ?_;refine sK (nY (k:=0) Z p.2 t M (by rw[gn];rfl)) ?_;refine eW (λm=>?_) (λm=>?_)
   .have m:i1=k:=wC m;conv=>whnf
    refine sK (kL (j:=n) Z p.1 Z Z t) ?_;refine sK (nY (k:=2) Z p.2 t M (by rw[gn];rfl)) ?_;refine⟨Z,Z,n,M,n,Z,M,?_⟩;rw[hst,show Nat.beq i1 k=dT from by rw[nr];exact m,E];rfl
   have m:i1≠k:=JX m;conv=>whnf
   refine⟨Z,Z,n,M,n,Z,M,?_⟩;rw[hst,show Nat.beq i1 k=dU from by rw[pB,ne_eq,nr];exact m,E];rfl
  exact Er
 conv=>whnf
 exact Er
def Hh(a b:Nat):Nat:=Nat.rec b (λk _=>Nat.succ k) a
def jv{Q:Type}(o:Option Q)(c:Nat)(k:Q->Nat):Nat:=Option.rec c k o
def mH(b:Bool)(x y:Nat):Nat:=Bool.rec y x b
def vT{a:Type}(n:Nat)(k:Nat->a):a:=Nat.rec (k 0) (λm _=>k (Nat.succ m)) n
def tc{Q b:Type}(l:L Q)(k:L Q->b):b:=List.rec (motive:=λ_=>(L Q->b)->b) (λk=>k []) (λa _ i k=>i λl=>k (a::l)) l k
def Ly{a:Type}(b:Bool)(k:Bool->a):a:=Bool.rec (k dU) (k dT) b
def Lz{e:Type}(v:A)(k:A->e):e:=
 match v with
 |.bool b=>Ly b λb=>k (.bool b)
 |.int w z=>match z with
  |.ofNat n=>vT n λn=>k (.int w (.ofNat n))
  |.negSucc n=>vT n λn=>k (.int w (.negSucc n))
 |.J s=>tc s λs=>k (.J s)
 |.ea p a=>vT a λa=>k (.ea p a)
 |.eG sz n c t=>vT n λn=>tc c λc=>k (.eG sz n c t)
 |.eC p sz a n cap d=>vT a λa=>vT n λn=>vT cap λcap=>Ly d λd=>k (.eC p sz a n cap d)
 |.agg c=>tc c λc=>k (.agg c)
 |v=>k v
def BB{a:Type}(o:AO)(k:AO->a):a:=
 match o with
 |.dY w=>tc w λw=>k (.dY w)
 |.map H c=>tc H λH=>vT c λc=>k (.map H c)
 |o=>k o
def um(q:A->A->Bool):L A->L A->Bool
 |[],[]=>dT
 |x::l,y::r=>cond (q x y) (um q l r) dU
 | _,_=>dU
def vU(q:A->Bool):L A->Bool
 |[]=>dT
 |x::l=>cond (q x) (vU q l) dU
def vV(q:A->Option A):L A->Option (L A)
 |[]=>Y []
 |x::l=>(q x).bind λy=>(vV q l).map (y::·)
def LA(w:A->A->Bool)(a b:A):Bool:=
  match a,b with
  |.bool a,.bool b=>cond a b (!b)
  |.int k a,.int l b=>cond (xW k l) (gD a b) dU
  |.J a,.J b=>iT a b
  |.gi,.gi=>dT
  |.ea p a,.ea q b=>cond (jT p q) (Nat.beq a b) dU
  |.fF l a,.fF r b=>cond (Nat.beq a b) (um w l r) dU
  |.fz p a,.fz q b=>cond (jT p q) (Nat.beq a b) dU
  |.ej,.ej=>dT
  |.eG sz n l .fE,.eG sz' n' r .fE=>cond (Nat.beq sz sz') (cond (Nat.beq n n') (um w l r) dU) dU
  |.eG sz n l .G,.eG sz' n' r .G=>cond (Nat.beq sz sz') (cond (Nat.beq n n') (um w l r) dU) dU
  |.eG sz n l (.open p),.eG sz' n' r (.open q)=>cond (Nat.beq sz sz') (cond (Nat.beq n n') (cond (jT p q) (um w l r) dU) dU) dU
  |.eC p sz o n c e,.eC q sz' o' n' c' e'=>cond (jT p q) (cond (Nat.beq sz sz') (cond (Nat.beq o o') (cond (Nat.beq n n') (cond (Nat.beq c c') (cond e e' (!e')) dU) dU) dU) dU) dU
  |.ji,.ji=>dT
  |.map p,.map q=>jT p q
  |.gQ,.gQ=>dT
  |.func (.func f) a b,.func (.func g) a' b'=>cond (Nat.beq f g) (cond (um w a a') (um w b b') dU) dU
  |.gF p,.gF q=>jT p q
  |.jc,.jc=>dT
  |.iface t a,.iface u b=>cond (Nat.beq t u) (w a b) dU
  |.agg l,.agg r=>um w l r
  |.eK l,.eK r=>um w l r
  | _,_=>dU
def oe(f:Nat):A->A->Bool:=Nat.rec (motive:=λ_=>A->A->Bool) (λ_ _=>dU) (λ_ q=>LA q) f
def LC(q:A->Bool)(a:A):Bool:=
  match a with
  |.bool _ |.int _ _ |.J _ |.gi|.fz _ _ |.ej|.ji|.gQ|.jc=>dT
  |.fF l _=>vU q l
  |.eG _ _ l .fE=>vU q l
  |.eG _ _ l .G=>vU q l
  |.func (.func _) a b=>cond (vU q a) (vU q b) dU
  |.iface _ a=>q a
  |.agg l=>vU q l
  |.eK l=>vU q l
  | _=>dU
def DP(f:Nat):A->Bool:=Nat.rec (motive:=λ_=>A->Bool) (λ_=>dU) (λ_ q=>LC q) f
def LD(m:T AO)(q:A->Option A)(a:A):Option A:=
  cond (DP 60 a) (Y a) (match a with
  |.ea p off=>match m.dZ p with
   |some (.dY w)=>(vV q w).map λw=>.fF w off
   | _=>J
  |.eC p sz off n _ _=>match m.dZ p with
   |some (.dY w)=>cond (Nat.ble (off+n*sz) (O w)) ((vV q ((w.drop off).take (n*sz))).map λw=>.eG sz n w .G) J
   | _=>J
  |.eG sz n w _=>(vV q w).map λw=>.eG sz n w .G
  |.iface t a=>(q a).map λa=>.iface t a
  |.agg w=>(vV q w).map .agg
  |.eK w=>(vV q w).map .eK
  | _=>J)
def BC(m:T AO)(f:Nat):A->Option A:=Nat.rec (motive:=λ_=>A->Option A) (λ_=>J) (λ_ q=>LD m q) f
def ze:L A->Bool
 |[]=>dT
 |x::l=>cond (DP 60 x) (ze l) dU
structure LE where
 l:S
 N:Nat
 Hr:gx
 DY:gx
def DQ(l:S):L LE->Option LE
 |[]=>J
 |e::La=>cond (jT e.l l) (Y e) (DQ l La)
inductive Rq where
 |call (f:FuncId)(args:List A)
 |gF (l:S)(args:List A)
abbrev zf:=L LE->Rq->eM->(A->eM->Nat)->Nat
structure oD where
 vX:Nat→Option (Nat×List RV×gx)
 ov:FuncId→List A→Option A
 BI:FuncId→List A→eM→Option (A×S×List A)
 pu:FuncId→Bool
 sp:List Nat→Option (jP×List S×List S)
def mI(H:Option S)(F:T A)(D:L S)(m:T AO)(n:S)(v:A)(K:St->Nat):Nat:=
 match H with
 |some d=>Lz v λv=>T.ir (Y v) d F λa=>K ⟨a,D,⟨m,n⟩⟩
 |none=>K ⟨F,D,⟨m,n⟩⟩
def Hi(k:Option S)(m:T AO)(K:T AO->Nat):Nat:=
 match k with
 |none=>K m
 |some p=>T.ir J p m K
def LF:L (AO×A)->(AO->A->Nat)->Nat
 |[],_=>0
 |(o,v)::l,Q=>Hh (Q o v) (LF l Q)
def LG:AO->Bool
 |.loop .. =>dU
 | _=>dT
section
variable(P:Program)(G:ez)(h:oD)(run:zf)
def LH(b:L LE)(f:FuncId)(a:L A)(H:eM)(K:A->eM->Nat):Nat:=
 mH (cond (h.pu f) (ze a) dU) (run [] (.call f a) ⟨.e,.h⟩ λr D=>jv (BC D.ep 60 r) (Nat.succ (2000+f)) λv=>K v H) (run b (.call f a) H K)
def BD(c:L LE)(H:Option S)(F:T A)(D:L S)(m:T AO)(n:S)(K:St->Nat):iD->Nat
 |.val v=>mI H F D m n v K
 |.ew o k=>BB o λo=>T.ir (Y o) n m λx=>mr n λa=>mI H F D x a (CM n k) K
 |.put p o v=>mH (LG o) (BB o λo=>T.ir (Y o) p m λx=>mI H F D x n v K) 51
 |.lH kl sz k w=>Hi kl m λm=>T.ir (Y .eY) n m λx=>mr n λa=>mI H F D x a (.eG sz k w (.open n)) K
 |.oK kl sz k w=>Hi kl m λm=>tc w λw=>T.ir (Y (.dY w)) n m λx=>mr n λa=>mI H F D x a (.eC n sz 0 k k dU) K
 |.call f args=>LH h run c f args ⟨m,n⟩ λr b=>match b with|⟨x,a⟩=>mI H F D x a r K
 |.yield l args=>run c (.gF l args) ⟨m,n⟩ λr b=>match b with|⟨x,a⟩=>mI H F D x a r K
 |.any l p=>LF l λo v=>mH (LG o) (T.ir (Y o) p m λx=>mI H F D x n v K) 52
def Hj(c:L LE)(o:f8)(F:T A)(D:L S)(m:T AO)(n:S)(K:St->Nat):Nat:=
 match o with
 |⟨H,op,dY,guard,_⟩=>
 match guard with
 |none=>jv (fA G dY F ⟨m,n⟩ op) 30 λe=>BD h run c H F D m n K e
 |some (none,_)=>mI H F D m n (.eK []) K
 |some (some g,a)=>match F.dZ g with
  |some (.bool b)=>(match a with
   |true=>mH b (jv (fA G dY F ⟨m,n⟩ op) 30 λe=>BD h run c H F D m n K e) (mI H F D m n (.eK []) K)
   |false=>mH b (mI H F D m n (.eK []) K) (jv (fA G dY F ⟨m,n⟩ op) 30 λe=>BD h run c H F D m n K e))
  |some (.eK _)=>mI H F D m n (.eK []) K
  | _=>31
def LI(a:L LE):L f8->(St->Nat)->St->Nat
 |[],K,s=>K s
 |o::l,K,s=>match s with|⟨F,D,⟨m,n⟩⟩=>Hj G h run a o F D m n (LI a l K)
def BE(o:f8)(F:T A)(H:eM):Option A:=
 match o with
 |⟨_,op,dY,guard,_⟩=>
 match guard with
 |none=>(fA G dY F H op).bind λe=>match e with|.val v=>Y v| _=>J
 |some (none,_)=>Y (.eK [])
 |some (some g,a)=>match F.dZ g with
  |some (.bool b)=>(match a with
   |true=>cond b ((fA G dY F H op).bind λe=>match e with|.val v=>Y v| _=>J) (Y (.eK []))
   |false=>cond b (Y (.eK [])) ((fA G dY F H op).bind λe=>match e with|.val v=>Y v| _=>J))
  |some (.eK _)=>Y (.eK [])
  | _=>J
def w8(a:L f8):L Nat->St->Nat->Nat
 |[],_,k=>k
 |j::l,⟨F,D,H⟩,k=>jv a[j]? 21 λo=>mH o.op.pQ (w8 a l ⟨F,D,H⟩ k)
   (jv o.dst 22 λd=>jv (F.dZ d) 23 λu=>jv (BE G o F H) 24 λv=>mH (oe 60 v u) (w8 a l ⟨F,D,H⟩ k) 25)
def vK(d:L LE)(b:L f8)(z:L Nat):L Nat->L Nat->(St->Nat)->St->Nat
 |[],_,K,s=>K s
 |i::kZ,a,K,s=>jv b[i]? 26 λo=>match s with
  |⟨F,D,⟨m,n⟩⟩=>mH o.W
   (jv (BE G o F ⟨m,n⟩) 27 λv=>mI o.dst F D m n v λc=>vK d b z kZ (i::a) K c)
   (tc (a.filter λj=> !gf (jY z i) j) λa=>Hj G h run d o F D m n λc=>w8 G b a c (vK d b z kZ a K c))
def vW(i:S)(H:Option S)(F:T A)(D:L S)(m:T AO)(n:S)(K:St->Nat):iD->Nat
 |.val v=>mI H F D m n v K
 |.ew o k=>BB o λo=>T.ir (Y o) n m λx=>mr n λa=>mI H F D x a (CM n k) K
 |.put p o v=>mH (Nat.ble i.dV p.dV) (BB o λo=>T.ir (Y o) p m λx=>mI H F D x n v K) 53
 |.call f args=>jv (h.ov f args) 54 λv=>mI H F D m n v K
 | _=>55
def td(d:S)(b:L f8)(z:L Nat):jP->L Nat->(St->Nat)->St->Nat
 |.done,_,K,s=>K s
 |.q i t,a,K,s=>jv b[i]? 26 λo=>match s with
  |⟨F,D,⟨m,n⟩⟩=>jv (BE G o F ⟨m,n⟩) 27 λv=>mI o.dst F D m n v λc=>td d b z t (i::a) K c
 |.one i t,a,K,s=>jv b[i]? 26 λo=>match s with
  |⟨F,D,⟨m,n⟩⟩=>tc (a.filter λj=> !gf (jY z i) j) λa=>match o.guard with
   |none=>jv (fA G o.dY F ⟨m,n⟩ o.op) 30 λe=>vW h d o.dst F D m n (λc=>w8 G b a c (td d b z t a K c)) e
   |some _=>56
 |.kU i t jQ,a,K,s=>Hh (jv b[i]? 26 λo=>match s with
  |⟨F,D,⟨m,n⟩⟩=>tc (a.filter λj=> !gf (jY z i) j) λa=>match o.guard with
   |none=>jv (fA G o.dY F ⟨m,n⟩ o.op) 30 λe=>vW h d o.dst F D m n (λc=>w8 G b a c (td d b z t a K c)) e
   |some _=>56) (td d b z jQ a K s)
 |.no,_,_,_=>0
def w9(b:S)(a:L f8)(z:L Nat):jP->L Nat->(St->Nat)->St->Nat
 |.done,_,K,s=>K s
 |.q i t,pend,K,s=>jv a[i]? 26 λo=>match s with
  |⟨F,D,⟨m,n⟩⟩=>jv (BE G o F ⟨m,n⟩) 27 λv=>mI o.dst F D m n v λj=>w9 b a z t (i::pend) K j
 |.one i t,pend,K,s=>jv a[i]? 26 λo=>match s with
  |⟨F,D,⟨m,n⟩⟩=>jv (fA G o.dY F ⟨m,n⟩ o.op) 30 λe=>vW h b o.dst F D m n (λj=>w9 b a z t pend K j) e
 |.kU i t _,pend,K,s=>jv a[i]? 26 λo=>match s with
  |⟨F,D,⟨m,n⟩⟩=>jv (fA G o.dY F ⟨m,n⟩ o.op) 30 λe=>vW h b o.dst F D m n (λj=>w9 b a z t pend K j) e
 |.no,_,_,_=>68
def adP:Option A->Option S
 |some (.ea p _)=>Y p
 |some (.eC p _ _ _ _ _)=>Y p
 | _=>J
def DR:L S->St->Option (L (S×L A))
 |[],_=>Y []
 |d::l,s=>(adP (s.F.dZ d)).bind λp=>(li s.H p).bind λw=>(DR l s).map ((p,w)::·)
def BF(p:S):L (S×L A)->Bool
 |[]=>dU
 |x::l=>cond (jT p x.1) dT (BF p l)
def DS:L (S×L A)->Bool
 |[]=>dT
 |x::l=>cond (BF x.1 l) dU (DS l)
def Hk(a b:Nat):L (S×L A)->Bool
 |[]=>dT
 |x::l=>cond (Nat.ble a x.1.dV) (cond (Nat.blt x.1.dV b) (Hk a b l) dU) dU
def zg(i:Nat):L (S×L A)->L (S×L A)->S->S->Bool
 |x::l,y::r,p,q=>cond (jT p x.1) (jT q y.1) (zg i l r p q)
 | _,_,p,q=>cond (Nat.blt p.dV i) (jT p q) dU
def LJ(i:Nat)(t d:L (S×L A))(v u:A):Bool:=
 match v,u with
 |.ea p a,.ea q b=>cond (Nat.beq a b) (zg i t d p q) dU
 |.eC p sz o n c e,.eC q sz' o' n' c' e'=>cond (zg i t d p q) (cond (Nat.beq sz sz') (cond (Nat.beq o o') (cond (Nat.beq n n') (cond (Nat.beq c c') (cond e e' (!e')) dU) dU) dU) dU) dU
 |v,u=>cond (DP 60 v) (oe 60 v u) dU
def DT(i:Nat)(t a:L (S×L A)):L A->L A->Bool
 |[],[]=>dT
 |v::l,u::r=>cond (LJ i t a v u) (DT i t a l r) dU
 | _,_=>dU
def LK(i:Nat)(t a:L (S×L A)):L (S×L A)->L (S×L A)->Bool
 |[],[]=>dT
 |x::l,y::r=>cond (DT i t a x.2 y.2) (LK i t a l r) dU
 | _,_=>dU
def Hl:L (S×L A)->T AO->(T AO->Nat)->Nat
 |[],m,K=>K m
 |x::l,m,K=>T.ir (Y (.dY x.2)) x.1 m λa=>Hl l a K
def BG:L S->L A->(T A->Nat)->Nat
 |p::l,v::vs,K=>BG l vs λF=>T.ir (Y v) p F K
 | _,_,K=>K .e
def Hm(t:jP)(a f:L S)(g:L f8)(z:L Nat)(K:St->Nat)(s:St):Nat:=
 match s with
 |⟨F,D,⟨m,n⟩⟩=>match D with
  |[]=>w9 G h n g z t [] (λc=>jv (DR f c) 61 λb=>jv (mq c.F a) 62 λe=>
    mH (cond (DS b) (cond (Nat.ble n.dV c.H.dX.dV) (Hk n.dV c.H.dX.dV b) dU) dU)
     (Hh (td G h n g z t [] (λs=>jv (DR f s) 63 λd=>jv (mq s.F a) 64 λw=>
       mH (cond (DS d) (cond (Hk n.dV s.H.dX.dV d) (cond (DT n.dV b d e w) (LK n.dV b d b d) dU) dU) dU) 0 65) ⟨F,[],⟨m,n⟩⟩)
      (Hl b m λx=>BG a e λi=>K ⟨i,[],⟨x,c.H.dX⟩⟩)) 66) ⟨F,[],⟨m,n⟩⟩
  | _=>67
def Hn(K:St->Nat)(Q:Exit->St->Nat):Exit->St->Nat
 |.normal,s=>K s
 |e,s=>Q e s
def LL(id:Nat)(Q:Exit->St->Nat):Exit->St->Nat
 |.exit i,s=>mH (Nat.beq i id) (Q .normal s) (Q (.exit i) s)
 |e,s=>Q e s
def adQ(Q:Exit->St->Nat):Exit->St->Nat
 |.goto _,_=>32
 |e,s=>Q e s
def AB(a:St->(Exit->St->Nat)->Nat)(b:Nat):St->(Exit->St->Nat)->Nat:=
 Nat.rec (motive:=λ_=>St->(Exit->St->Nat)->Nat) (λ_ _=>90) (λ_ i s K=>a s (Hn (λj=>i j K) K)) b
def Ho(R:Option S)(N:Nat)(Fl:T A)(t:L Nat)(F B:Code)(m:T AO)(n:S)(K:S->L S->eM->Nat):Nat:=
 match R with
 |none=>mr n λe=>mr e λf=>T.ir (Y .fX) n m λv=>T.ir (Y (.loop .ready J N Fl t F B n)) e v λb=>K e [n] ⟨b,f⟩
 |some a=>match m.dZ a with
  |some (.loop _ _ _ _ _ _ _ d)=>mr n λe=>T.ir (Y (.loop .ready J N Fl t F B d)) n m λv=>K n [] ⟨v,e⟩
  | _=>33
def Hp(F:T A)(D:L S)(l:S)(Q:Exit->St->Nat):eM->Nat
 |⟨m,n⟩=>match m.dZ l with
  |some (.loop st pend _ _ _ _ _ _)=>match st with
   |.busy=>34
   | _=>T.ir J l m λx=>match pend with
    |none=>Q .normal ⟨F,D,⟨x,n⟩⟩
    |some .ret=>Q .ret ⟨F,D,⟨x,n⟩⟩
    |some (.exit i)=>Q (.exit i) ⟨F,D,⟨x,n⟩⟩
    |some (.goto t)=>Q (.goto t) ⟨F,D,⟨x,n⟩⟩
    | _=>35
  | _=>36
def rS(v:L LE)(R:Option S)(N:Nat)(a:gx):St->(Exit->St->Nat)->Nat:=
 gx.rec (motive:=λ_=>St->(Exit->St->Nat)->Nat)
  (λs Q=>Q .normal s)
  (λd s Q=>LI G h run v d (Q .normal) s)
  (λr z d s Q=>match h.sp z with
   |some (t,b,C)=>Hm G h t b C d z (Q .normal) s
   |none=>vK G h run v d z r [] (Q .normal) s)
  (λ_ _ e k s Q=>e s (Hn (λj=>k j Q) Q))
  (λx _ _ e k s Q=>match x.ev G s.F with
   |some (.bool c)=>mH c (e s Q) (k s Q)
   | _=>37)
  (λi _ u s Q=>u s (LL i Q))
  (λ_ _ u s Q=>AB u 100000 s Q)
  (λg E b p q _ _ s Q=>match s with
   |⟨F,D,⟨m,n⟩⟩=>match g.ev G F with
    |some (.func (.func f) first captured)=>jv (h.vX f) 42 λ_=>jv (mq F b) 38 λw=>BG b w λFl=>Ho R N Fl E (sG P N p) (sG P N q) m n λl o y=>run (⟨l,N,p,q⟩::v) (.call f (first++[.gF l]++captured)) y λ_ B=>Hp F (o++D) l Q B
    | _=>39)
  (λ_ u s Q=>u s (adQ Q))
  (λi s Q=>Q (.exit i) s)
  (λ_ s Q=>Q .normal s)
  (λl s Q=>Q (.goto l) s)
  (λs Q=>Q .ret s)
  (λ_ _=>43) a
def DU:S->L A->(T A->Nat)->Nat
 | _,[],K=>K .e
 |p,v::l,K=>mr p λq=>DU q l λF=>T.ir (Y v) p F K
def BH:L S->T AO->(T AO->Nat)->Nat
 |[],m,K=>K m
 |d::D,m,K=>match m.dZ d with
  |some .fX=>T.ir J d m λx=>BH D x K
  | _=>44
def LM(a:L RV)(Q:A->eM->Nat):Exit->St->Nat
 |.normal,⟨F,D,⟨m,n⟩⟩=>BH D m λx=>jv (nU G F ⟨x,n⟩ a) 45 λw=>Q (rz w) ⟨x,n⟩
 |.ret,⟨F,D,⟨m,n⟩⟩=>BH D m λx=>jv (nU G F ⟨x,n⟩ a) 45 λw=>Q (rz w) ⟨x,n⟩
 | _,_=>46
def DV:T A->L Nat->L A->(T A->Nat)->Nat
 |F,t::ps,v::vs,K=>T.ir (Y v) (S.ofNat t) F λa=>DV a ps vs K
 |F,_,_,K=>K F
def DW(l:S)(K:St->Nat):St->Nat
 |⟨F,D,⟨m,n⟩⟩=>match m.dZ l with
  |some (.loop .ready pe k F' ps as bo d)=>T.ir (Y (.loop .busy pe k F' ps as bo d)) l m λx=>K ⟨F,D,⟨x,n⟩⟩
  | _=>47
def Hq(l:S)(Q:A->eM->Nat):Exit->St->Nat
 |.normal,⟨_,_,⟨m,n⟩⟩=>match m.dZ l with
  |some (.loop _ _ k F ps as bo d)=>T.ir (Y (.loop .ready J k F ps as bo d)) l m λx=>Q (.bool dT) ⟨x,n⟩
  | _=>48
 |.ret,⟨_,_,⟨m,n⟩⟩=>match m.dZ l with
  |some (.loop _ _ k F ps as bo d)=>T.ir (Y (.loop .done (Y .ret) k F ps as bo d)) l m λx=>Q (.bool dU) ⟨x,n⟩
  | _=>48
 |.exit i,⟨_,_,⟨m,n⟩⟩=>match m.dZ l with
  |some (.loop _ _ k F ps as bo d)=>T.ir (Y (.loop .done (Y (.exit i)) k F ps as bo d)) l m λx=>Q (.bool dU) ⟨x,n⟩
  | _=>48
 |.goto t,⟨_,_,⟨m,n⟩⟩=>match m.dZ l with
  |some (.loop _ _ k F ps as bo d)=>T.ir (Y (.loop .done (Y (.goto t)) k F ps as bo d)) l m λx=>Q (.bool dU) ⟨x,n⟩
  | _=>48
 | _,_=>49
end
section
variable(P:Program)(G:ez)(h:oD)
def Rr(run:zf):zf:=λb c H K=>
 match c with
 |.call f args=>match h.ov f args with
  |some r=>K r H
  |none=>match h.BI f args H with
   |some (r,p,w)=>match H with|⟨m,n⟩=>T.ir (Y (.dY w)) p m λx=>K r ⟨x,n⟩
   |none=>match h.vX f with
    |some (N,d,a)=>DU .h args λF=>rS P G h run b J N a ⟨F,[],H⟩ (LM G d K)
    |none=>Nat.succ (1000+f)
 |.gF l args=>match DQ l b with
  |none=>70
  |some e=>match H with|⟨m,n⟩=>match m.dZ l with
   |some (.loop .ready _ N F ps _ _ _)=>mH (cond (Nat.beq (O args) (O ps)) (ps.all λt=>Nat.blt t N) dU)
     (DV F ps args λg=>rS P G h run b (Y l) e.N e.Hr ⟨g,[],⟨m,n⟩⟩ (Hn (DW l λs=>rS P G h run b (Y l) e.N e.DY s (Hq l K)) (λ_ _=>71))) 72
   | _=>73
def DX(a:Nat):zf:=Nat.rec (motive:=λ_=>zf) (λ_ _ _ _=>91) (λ_ run=>Rr P G h run) a
end
def la{Q:Type}{o:Option Q}{c:Nat}{k:Q->Nat}(K:c≠0)(h:jv o c k=0):∃a,o=Y a/\k a=0:=by
 cases o with
 |none=>exact absurd h K
 |some a=>exact⟨a,Z,h⟩
def Hs(b:Bool)(x y:Nat):mH b x y=cond b x y:=by cases b<;>rfl
def vY{x y:Nat}(a:y≠0)(h:mH b x y=0):b=dT/\x=0:=by
 cases b
 .exact absurd h a
 exact⟨Z,h⟩
def LN(h:Hh a b=0):a=0/\b=0:=by
 cases a with
 |zero=>exact⟨Z,h⟩
 |succ n=>exact absurd h (jK n)
def DZ{a:Type}(n:Nat)(k:Nat->a):vT n k=k n:=by cases n<;>rfl
def xa{Q b:Type}:∀(l:L Q)(k:L Q->b),tc l k=k l:=by
 intro l;induction l with
 |nil=>intro k;rfl
 |cons a l i=>intro k;exact i λl=>k (a::l)
def Rs{a:Type}(b:Bool)(k:Bool->a):Ly b k=k b:=by cases b<;>rfl
def adR{a:Type}(v:A)(k:A->a):Lz v k=k v:=by
 unfold Lz;cases v<;>try rfl
 .exact Rs _ _
 .rename_i w z;cases z<;>exact DZ _ _
 .exact xa _ _
 .exact DZ _ _
 .simp only[DZ,xa]
 .simp only[DZ,Rs]
 exact xa _ _
def BJ{a:Type}(o:AO)(k:AO->a):BB o k=k o:=by
 unfold BB;cases o<;>try rfl
 .exact xa _ _
 simp only[DZ,xa]
def jG{b c:Bool}(h:cond b c dU=dT):b=dT/\c=dT:=by cases b<;>simp_all
def uo{p q:S}(h:jT p q=dT):p=q:=by rw[mA]at h;exact j0 h
def LO(h:cond a b (!b)=dT):a=b:=by cases a<;>cases b<;>first|rfl|cases h
def zh{q:A->A->Bool}(t:∀a b,q a b=dT->a=b):∀{l r:L A},um q l r=dT->l=r:=by
 intro l;induction l with
 |nil=>intro r h;cases r with
  |nil=>rfl
  |cons=>cases h
 |cons a l i=>
 intro r h;cases r with
 |nil=>cases h
 |cons b r=>obtain⟨K,c⟩:=jG h;rw[t _ _ K,i c]
def adS{q:A->A->Bool}(t:∀a b,q a b=dT->a=b)(h:LA q a b=dT):a=b:=by
 unfold LA at h;split at h
 .rw[LO h]
 .obtain⟨K,r⟩:=jG h;rw[Av K,oP.1 r]
 .rw[tU h]
 .rfl
 .obtain⟨K,r⟩:=jG h;rw[uo K,iZ r]
 .obtain⟨K,r⟩:=jG h;rw[iZ K,zh t r]
 .obtain⟨K,r⟩:=jG h;rw[uo K,iZ r]
 .rfl
 .exact Vz
 .exact Vz
 .obtain⟨K,r⟩:=jG h;obtain⟨r,m⟩:=jG r;obtain⟨m,E⟩:=jG m;rw[iZ K,iZ r,uo m,zh t E]
 .obtain⟨K,r⟩:=jG h;obtain⟨r,m⟩:=jG r;obtain⟨m,E⟩:=jG m;obtain⟨E,H⟩:=jG E;obtain⟨H,c⟩:=jG H;rw[uo K,iZ r,iZ m,iZ E,iZ H,LO c]
 .rfl
 .rw[uo h]
 .rfl
 .obtain⟨K,r⟩:=jG h;obtain⟨r,m⟩:=jG r;rw[iZ K,zh t r,zh t m]
 .rw[uo h]
 .rfl
 .obtain⟨K,r⟩:=jG h;rw[iZ K,t _ _ r]
 .rw[zh t h]
 .rw[zh t h]
 cases h
def vZ:∀{f:Nat}{a b:A},oe f a b=dT->a=b:=by
 intro f;induction f with
 |zero=>intro a b h;cases h
 |succ f i=>intro a b h;exact adS (λa b h=>i h) h
def zi{q:A->Bool}(t:∀a,q a=dT->a.Pure):∀{l:L A},vU q l=dT->∀v∈l,v.Pure:=by
 intro l;induction l with
 |nil=>intro h v b;cases b
 |cons a l i=>
 intro h v b;obtain⟨K,r⟩:=jG h;obtain rfl|b:=eZ.1 b
 .exact t _ K
 exact i r v b
def adT{q:A->Bool}(t:∀a,q a=dT->a.Pure)(h:LC q a=dT):a.Pure:=by
 unfold LC at h;split at h
 .exact sD _
 .exact iQ _ _
 .exact jX _
 .exact yt
 .exact o9 _ _
 .exact kC
 .exact Yl
 .exact OW
 .exact Yk
 .exact yu (zi t h)
 .exact J2 (zi t h)
 .exact J1 (zi t h)
 .obtain⟨K,r⟩:=jG h;exact CY (zi t K) (zi t r)
 .exact FE (t _ h)
 .exact jg (zi t h)
 .exact kT (zi t h)
 cases h
def LP:∀{f:Nat}{a:A},DP f a=dT->a.Pure:=by
 intro f;induction f with
 |zero=>intro a h;cases h
 |succ f i=>intro a h;exact adT (λa h=>i h) h
def Rt:∀{l:L A},ze l=dT->∀v∈l,v.Pure:=by
 intro l;induction l with
 |nil=>intro h v b;cases b
 |cons a l i=>
 intro h v b;obtain⟨K,r⟩:=jG h;obtain rfl|b:=eZ.1 b
 .exact LP K
 exact i r v b
def adU{q:A->Option A}{R:A->A->Prop}(t:∀a b,q a=Y b->R a b):∀{l r:L A},vV q l=Y r->O l=O r/\∀i (h:i<O l)(n:i<O r),R l[i] r[i]:=by
 intro l;induction l with
 |nil=>intro r h;cases h;exact we
 |cons a l e=>
 intro r h;simp only[vV,fS,gA]at h;obtain⟨b,j,s,d,rfl⟩:=h;obtain⟨K,c⟩:=e d;refine⟨by simp[K],λi h n=>?_⟩;cases i with
 |zero=>exact t _ _ j
 |succ i=>exact c i ly Iu
def adV{q:A->Option A}(t:∀a b,q a=Y b->kM (λ_=>True) m a b/\b.Pure)(h:LD m q a=Y b):kM (λ_=>True) m a b/\b.Pure:=by
 unfold LD at h;have e:∀{l r:L A},vV q l=Y r->(O l=O r/\∀i (h:i<O l)(u:i<O r),kM (λ_=>True) m l[i] r[i])/\∀v∈r,v.Pure:=by intro l r h;obtain⟨K,c⟩:=adU t h;refine⟨⟨K,λi h u=>(c i h u).1⟩,λv y=>?_⟩;obtain⟨i,C,rfl⟩:=km y;exact(c i M C).2
 cases hp:DP 60 a
 .rw[hp]at h;simp only[jx]at h;split at h
  .split at h
   .rename_i w f;simp only[gA]at h;obtain⟨r,d,rfl⟩:=h;obtain⟨⟨K,c⟩,k⟩:=e d;exact⟨.ea _ _ _ _ eR f K c,yu k⟩
   cases h
  .split at h
   .rename_i p o s n cap z _ w f;cases j:Nat.ble (s+n*o) (O w)
    .rw[j]at h;cases h
    rw[j]at h;simp only[gZ,gA]at h;obtain⟨r,d,rfl⟩:=h;obtain⟨⟨K,c⟩,k⟩:=e d;rw[jS]at j;simp only[uw,oI]at K;refine⟨.eC _ _ _ _ _ _ w _ eR f j M λi g x=>?_,J1 k⟩;have:=c i (by simp only[uw,oI];omega) x;simp only[List.getElem_take,List.getElem_drop]at this;exact this
   cases h
  .simp only[gA]at h;obtain⟨r,d,rfl⟩:=h;obtain⟨⟨K,c⟩,k⟩:=e d;exact⟨.eG _ _ _ _ _ K c,J1 k⟩
  .simp only[gA]at h;obtain⟨r,d,rfl⟩:=h;obtain⟨K,c⟩:=t _ _ d;exact⟨.iface _ _ _ K,FE c⟩
  .simp only[gA]at h;obtain⟨r,d,rfl⟩:=h;obtain⟨⟨K,c⟩,k⟩:=e d;exact⟨.agg _ _ K c,jg k⟩
  .simp only[gA]at h;obtain⟨r,d,rfl⟩:=h;obtain⟨⟨K,c⟩,k⟩:=e d;exact⟨.eK _ _ K c,kT k⟩
  cases h
 rw[hp]at h;cases h;exact⟨.ey _,LP hp⟩
def Ru:∀{f:Nat}{a b:A},BC m f a=Y b->kM (λ_=>True) m a b/\b.Pure:=by
 intro f;induction f with
 |zero=>intro a b h;cases h
 |succ f i=>intro a b h;exact adV (λa b h=>i h) h
section
variable{P:Program}{G:ez}
def eL.Rv{Q:A->Prop}(hG:G.Pure)(hargs:∀a∈args,a.Pure)
  (h:eL P G f args {ep:=.e,dX:=.h} λr H'=>∃v,kM (λ_=>True) H'.ep r v/\v.Pure/\Q v):eL P G f args H λr H'=>H'=H/\Q r:=by
 intro B w X cargs hH hr;have h1:fJ (ku B H X λp=>T.dZ p (.e:T AO)=J) G {ep:=.e,dX:=.h} w (X.only λ_=>False):=M0;refine Mp λhcall=>?_;have fin:∀l w',FinA G (ku B H X λp=>T.dZ p (.e:T AO)=J) w (X.only λ_=>False) (λr H'=>∃v,kM (λ_=>True) H'.ep r v/\v.Pure/\Q v) l w'->FinA G B w X (λr H'=>H'=H/\Q r) l w':=by rintro l w' ⟨r,H',y,⟨v,hi,hp,t⟩,E,b,g⟩;have u:=eQ.wS b hi g;have m:=E.trans (fL.Ds (I:=λ_=>True) b);have c:=b.wS (I:=λ_=>True) (H':={ep:=.e,dX:=H'.dX}) xK (fQ _);obtain⟨k,s,d,j⟩:=hH.dW (H1:={ep:=.e,dX:=.h}) (λ_=>False) xK h1 m c xK;exact⟨v,H,k,⟨Z,t⟩,s,d,j v l u (hp _ _)⟩
 exact zM
end
structure v7 (P:Program)(G:ez)(h:oD):Prop where
 dW:G.Pure
 ey:G.ey=fun n c c'=>gk P n c=gk P n c'
 mixed:P.follows .mixedOrders=true
 ov:∀f args r,h.ov f args=some r→ee P G f args r
 BI:∀f args H r p cs,h.BI f args H=some (r,p,cs)→eL P G f args H fun r1 H1=>r1=r∧H1=⟨H.ep.set p (some (.dY cs)),H.dX⟩
section
variable{P:Program}{G:ez}{h:oD}{R:Option S}{N:Nat}
def gJ.fresh{c:Code}{s:St}{Q:Exit->St->Prop}(h:(∀p:S,s.H.dX.dV<=p.dV->s.H.ep.dZ p=J)->gJ P G R N c s Q):gJ P G R N c s Q:=
 λB w b a F r n=>h (λp hp=>(r.heap.fresh p hp).2.2) B w b a F r n
def BL{F:T A}{D:L S}{n:S}{K:St->Nat}{H0:eM}:mI H F D m n v K=K (St.I ⟨F,D,H0⟩ H v ⟨m,n⟩):=by
 cases H with
 |none=>rfl
 |some d=>simp only[mI,adR,T.i6];rfl
def LQ{o:f8}{F:T A}:BE G o F H=lL G o F H:=by
 let⟨c,op,dY,guard,a⟩:=o
 unfold BE lL;simp only[CX];cases guard with
 |none=>rfl
 |some d=>
 let⟨g,want⟩:=d
 cases g with
 |none=>rfl
 |some g=>dsimp only;exact MY
def Rw{c:L f8}{p:Prop}:∀{l:L Nat}{s:St}{k:Nat},w8 G c l s k=0->(k=0->p)->oz G c l s p:=by
 intro l;induction l with
 |nil=>intro s k h b;exact b h
 |cons j l i=>
 intro s k h b
 let⟨F,D,H⟩:=s
 unfold w8 at h;unfold oz;obtain⟨o,w,h⟩:=la gP h;rw[w];dsimp only;rw[Hs]at h;cases hf:o.op.pQ
 .rw[hf]at h;simp only[jx]at h;obtain⟨d,e,h⟩:=la gP h;obtain⟨u,Q,h⟩:=la gP h;obtain⟨v,a,h⟩:=la gP h;obtain⟨f,h⟩:=vY gP h;rw[e];dsimp only;refine fH Q ?_;rw[qT];rw[LQ]at a;exact fH a ⟨vZ f,i h b⟩
 rw[hf]at h;exact i h b
structure Jn (n0:S)(m0:T AO)(s:St):Prop where
 le:n0.dV≤s.H.dX.dV
 old:∀p:S,p.dV<n0.dV→s.H.ep.dZ p=m0.dZ p
 D:s.D=[]
def Jn.I{i:S}{s:St}(j:Jn i b {s with H:=H}):Jn i b (s.I a v H):=by cases a<;>exact⟨j.le,j.old,j.D⟩
def adW(d:v7 P G h){i:S}{c:T AO}{F:T A}{D:L S}{n:S}{K:St->Nat}{e:iD}(j:Jn i c ⟨F,D,⟨m,n⟩⟩)(hz:vW h i H F D m n K e=0):
  ln P G dU H ⟨F,D,⟨m,n⟩⟩ (λg=>Jn i c g/\K g=0) e:=by
 have r:i.dV<=n.dV:=j.le;unfold vW at hz;unfold ln;cases e with
 |val v=>dsimp only at hz⊢;rw[BL (H0:=⟨m,n⟩)]at hz;exact⟨j.I,hz⟩
 |ew o k=>
  simp only[BJ,T.i6,ou]at hz;refine tn λhz=>?_;simp only[iD.state,im];refine⟨Jn.I ⟨?_,λp hp=>?_,j.D⟩,hz⟩
  .show i.dV<=n.succ.dV;rw[S.gG];omega
  show(m.set n (Y o)).dZ p= _;rw[T.gh _ _ _ _ (λe=>by rw[e]at hp;omega)];exact j.old p hp
 |put p o v=>obtain⟨l,hz⟩:=vY gP hz;rw[jS]at l;simp only[BJ,T.i6]at hz;refine tn λhz=>?_;simp only[iD.state,im];refine⟨Jn.I ⟨j.le,λq t=>?_,j.D⟩,hz⟩;show(m.set p (Y o)).dZ q= _;rw[T.gh _ _ _ _ (λe=>by rw[e]at t;omega)];exact j.old q t
 |call f b=>obtain⟨v,a,hz⟩:=la gP hz;refine tn λhz=>?_;exact(d.ov _ _ _ a).call ⟨j.I,hz⟩
 | _=>exact absurd hz (jK _)
def Rx{i:S}{F:T A}{D:L S}{n:S}{K:St->Nat}{e:iD}(hz:vW h i H F D m n K e=0):∃j,K j=0:=by
 unfold vW at hz;cases e with
 |val v=>dsimp only at hz;rw[BL (H0:=⟨m,n⟩)]at hz;exact⟨_,hz⟩
 |ew o k=>simp only[BJ,T.i6,ou]at hz;exact Na
 |put p o v=>obtain⟨c,hz⟩:=vY gP hz;simp only[BJ,T.i6]at hz;exact Na
 |call f b=>obtain⟨v,a,hz⟩:=la gP hz;exact Na
 | _=>exact absurd hz (jK _)
def adX(d:v7 P G h){g:S}{k:T AO}:∀{t:jP}{b:L Nat}{K:St->Nat}{s:St},Jn g k s->td G h g f z t b K s=0->i7 P G f z t b (λc=>Jn g k c/\K c=0) s:=by
 intro t;have one:∀{i:Nat}{b:L Nat}{K:St->Nat}{t:jP}{F:T A}{D:L S}{m:T AO}{n:S},(∀{b:L Nat}{K:St->Nat}{s:St},Jn g k s->td G h g f z t b K s=0->i7 P G f z t b (λc=>Jn g k c/\K c=0) s)->
   Jn g k ⟨F,D,⟨m,n⟩⟩->(jv f[i]? 26 λo=>tc (b.filter λj=> !gf (jY z i) j) λb=>match o.guard with
    |none=>jv (fA G o.dY F ⟨m,n⟩ o.op) 30 λe=>vW h g o.dst F D m n (λc=>w8 G f b c (td G h g f z t b K c)) e
    |some _=>56)=0->match f[i]? with
    |none=>False
    |some o=>yq P G dU o F D m n λc=>oz G f (b.filter λj=> !gf (jY z i) j) c (i7 P G f z t (b.filter λj=> !gf (jY z i) j) (λc=>Jn g k c/\K c=0) c):=by
  intro i b K t F D m n p j hz;obtain⟨o,w,hz⟩:=la gP hz;rw[w];dsimp only;rw[xa]at hz;rw[sC];unfold mB;cases hg:o.guard with
  |some _=>rw[hg]at hz;exact absurd hz (jK _)
  |none=>rw[hg]at hz;dsimp only at hz⊢;obtain⟨e,B,hz⟩:=la gP hz;rw[CX]at B;exact fH B (OH (adW d j hz) λc ⟨I,u⟩=>Rw u λl=>p I l)
 induction t with
 |done=>intro b K s j hz;exact⟨j,hz⟩
 |no=>intro b K s j hz;trivial
 |q i t p=>
  intro b K s j hz
  let⟨F,D,⟨m,n⟩⟩:=s
  unfold td at hz;unfold i7;obtain⟨o,w,hz⟩:=la gP hz;rw[w];dsimp only at hz⊢;obtain⟨v,a,hz⟩:=la gP hz;rw[LQ]at a;rw[qT];refine fH a ?_;rw[o8 (s:=⟨F,D,⟨m,n⟩⟩) (H:=⟨m,n⟩) Z Z Z];refine tn λhz=>?_;exact p j.I hz
 |one i t p=>
  intro b K s j hz
  let⟨F,D,⟨m,n⟩⟩:=s
  unfold td at hz;unfold i7;exact one p j hz
 |kU i t C x y=>
 intro b K s j hz
 let⟨F,D,⟨m,n⟩⟩:=s
 unfold td at hz;unfold i7;obtain⟨E,r⟩:=LN hz;exact⟨one x j E,y j r⟩
def adY{k:L f8}:∀{t:jP}{b:L Nat}{K:St->Nat}{s:St},w9 G h r k z t b K s=0->∃c,K c=0:=by
 intro t;induction t with
 |done=>intro b K s hz;exact⟨s,hz⟩
 |no=>intro b K s hz;exact absurd hz (jK _)
 |q i t d=>
  intro b K s hz
  let⟨F,D,⟨m,n⟩⟩:=s
  unfold w9 at hz;obtain⟨o,w,hz⟩:=la gP hz;dsimp only at hz;obtain⟨v,a,hz⟩:=la gP hz;refine tn λhz=>?_;exact d hz
 |one i t d=>
  intro b K s hz
  let⟨F,D,⟨m,n⟩⟩:=s
  unfold w9 at hz;obtain⟨o,w,hz⟩:=la gP hz;dsimp only at hz;obtain⟨e,l,hz⟩:=la gP hz;obtain⟨j,hz⟩:=Rx hz;exact d hz
 |kU i t g f p=>
 intro b K s hz
 let⟨F,D,⟨m,n⟩⟩:=s
 unfold w9 at hz;obtain⟨o,w,hz⟩:=la gP hz;dsimp only at hz;obtain⟨e,l,hz⟩:=la gP hz;obtain⟨j,hz⟩:=Rx hz;exact f hz
def adZ{p:S}:∀{l:L (S×L A)},BF p l=dT↔p∈l.map (·.1):=by
 intro l;induction l with
 |nil=>simp[BF]
 |cons x l i=>
 simp only[BF,mA,jL,eZ];by_cases e:p=x.1
 .simp[e]
 simp only[e,decide_false,jx,false_or];exact i
def Ry:∀{l:L (S×L A)},DS l=dT->(l.map (·.1)).Nodup:=by
 intro l;induction l with
 |nil=>intro _;exact pE
 |cons x l i=>
 intro a;simp only[DS]at a;cases f:BF x.1 l
 .rw[f]at a;rw[jL,qB];exact⟨λh=>(by rw[adZ.2 h]at f;cases f),i a⟩
 rw[f]at a;cases a
def Rz:∀{l:L (S×L A)},Hk a b l=dT->∀p∈l.map (·.1),a<=p.dV/\p.dV<b:=by
 intro l;induction l with
 |nil=>intro _ p hp;cases hp
 |cons x l i=>
 intro c p hp;obtain⟨K,r⟩:=jG c;obtain⟨r,m⟩:=jG r;rw[jS]at K;rw[lm]at r;rw[jL,eZ]at hp;obtain rfl|hp:=hp
 .exact⟨K,j0 r⟩
 exact i m p hp
def ad0{B:S->S}(b:∀p:S,p.dV<d->B p=p):∀{t qs:L (S×L A)}{p q:S},(∀i (h:i<O t)(n:i<O qs),B t[i].1=qs[i].1)->zg d t qs p q=dT->B p=q/\(p.dV<d\/p∈t.map (·.1)):=by
 intro t;induction t with
 |nil=>intro qs p q a f;exact VG
 |cons x l g=>
 intro qs p q a f;cases qs with
 |nil=>exact VG
 |cons y r=>
 simp only[zg]at f;cases hp:jT p x.1
 .rw[hp]at f;obtain⟨K,c⟩:=g (qs:=r) (λi h n=>a (i+1) ly Iu) f;exact⟨K,c.imp id λh=>by simp only[jL,eZ];exact .inr h⟩
 rw[hp]at f;have e:=uo hp;subst e;refine⟨?_,.inr ei⟩;rw[uo f];exact a 0 ei ei
def ad1{e:Nat}{t b:L (S×L A)}{B:S->S}{D:S->Prop}(a:∀p:S,p.dV<e->B p=p/\D p)(c:∀p∈t.map (·.1),D p)(d:∀i (h:i<O t)(j:i<O b),B t[i].1=b[i].1)(n:LJ e t b v u=dT):gL B D u v:=by
 have k:∀{p q},zg e t b p q=dT->B p=q/\D p:=by intro p q f;obtain⟨K,r⟩:=ad0 (λp hp=>(a p hp).1) d f;exact⟨K,r.elim (λh=>(a p h).2) (c p)⟩
 unfold LJ at n;split at n
 .obtain⟨K,r⟩:=jG n;obtain⟨rfl,hd⟩:=k r;rw[iZ K];exact .ea _ _ hd
 .obtain⟨K,r⟩:=jG n;obtain⟨r,m⟩:=jG r;obtain⟨m,E⟩:=jG m;obtain⟨E,H⟩:=jG E;obtain⟨H,g⟩:=jG H;obtain⟨rfl,hd⟩:=k K;rw[iZ r,iZ m,iZ E,iZ H,LO g];exact .eC _ _ _ _ _ _ hd
 obtain⟨K,r⟩:=jG n;rw[<-vZ r];exact .ey _ (LP K)
def RA{t e:L (S×L A)}{B:S->S}{D:S->Prop}(b:∀p:S,p.dV<f->B p=p/\D p)(c:∀p∈t.map (·.1),D p)(d:∀i (h:i<O t)(k:i<O e),B t[i].1=e[i].1):∀{w a:L A},DT f t e w a=dT->mD B D a w:=by
 intro w;induction w with
 |nil=>intro a n;cases a with
  |nil=>trivial
  |cons=>cases n
 |cons v l j=>
 intro a n;cases a with
 |nil=>cases n
 |cons u r=>obtain⟨K,g⟩:=jG n;exact⟨ad1 b c d K,j g⟩
def mD.dY{B:S->S}{D:S->Prop}(h:mD B D a w):jW B D (.dY a) (.dY w):=by
 have:O a=O w/\∀i (h:i<O a)(n:i<O w),gL B D a[i] w[i]:=by
  induction a generalizing w with
  |nil=>cases w with
   |nil=>exact we
   |cons=>exact h.elim
  |cons u a c=>
  cases w with
  |nil=>exact h.elim
  |cons v w=>
  obtain⟨K,r⟩:=c h.2;refine⟨by simp[K],λi g b=>?_⟩;cases i with
  |zero=>exact h.1
  |succ i=>exact r i HY Ev
 exact .dY _ _ this.1 this.2
def ad2{e:Nat}{b c:L (S×L A)}:∀{t a:L (S×L A)},LK e b c t a=dT->O t=O a/\∀i (h:i<O t)(d:i<O a),DT e b c t[i].2 a[i].2=dT:=by
 intro t;induction t with
 |nil=>intro a n;cases a with
  |nil=>exact we
  |cons=>cases n
 |cons x l g=>
 intro a n;cases a with
 |nil=>cases n
 |cons y r=>
 obtain⟨K,f⟩:=jG n;obtain⟨m,E⟩:=g f;refine⟨by simp[m],λi h d=>?_⟩;cases i with
 |zero=>exact K
 |succ i=>exact E i ly zZ
def BM:L (S×L A)->T AO->T AO
 |[],m=>m
 |x::l,m=>BM l (m.set x.1 (Y (.dY x.2)))
def ad3:∀{l:L (S×L A)}{m:T AO}{K:T AO->Nat},Hl l m K=K (BM l m):=by
 intro l;induction l with
 |nil=>intro m K;rfl
 |cons x l i=>intro m K;simp only[Hl,BM,T.i6,i]
def RB:∀{l:L (S×L A)}{m:T AO}{p:S}{o:AO},(BM l m).dZ p=Y o->(∃i,∃h:i<O l,l[i].1=p/\o=.dY l[i].2)\/(p∉l.map (·.1)/\m.dZ p=Y o):=by
 intro l;induction l with
 |nil=>intro m p o F;exact .inr ⟨ei,F⟩
 |cons x l a=>
 intro m p o F;obtain⟨i,C,K,r⟩|⟨K,r⟩:=a F
 .exact .inl ⟨i+1,by simpa using C,K,r⟩
 rw[T.jr]at r;split at r
 .rename_i e;cases r;exact .inl ⟨0,ei,e.symm,Z⟩
 rename_i e;exact .inr ⟨by simp only[jL,eZ,not_or];exact⟨e,K⟩,r⟩
def RC:∀{l:L S}{w:L A}{K:T A->Nat},BG l w K=K (gB l w):=by
 intro l;induction l with
 |nil=>intro w K;cases w<;>rfl
 |cons p l i=>
 intro w K;cases w with
 |nil=>rfl
 |cons v w=>simp only[BG,gB,i,T.i6]
def ad4:∀{l:L S}{s:St}{b:L (S×L A)},DR l s=Y b->∀i (h:i<O b),s.H.ep.dZ b[i].1=Y (.dY b[i].2):=by
 intro l;induction l with
 |nil=>intro s b t;cases t;intro i h;simp at h
 |cons d l e=>
 intro s b t;simp only[DR,fS,gA]at t;obtain⟨p,hp,w,a,g,c,rfl⟩:=t;intro i h;cases i with
 |zero=>
  simp only[li]at a;split at a
  .rename_i f;cases a;exact f
  cases a
 |succ i=>exact e c i ly
def ad5(hh:v7 P G h){t:jP}{K:St->Nat}{s:St}(hok:AT kZ t ms as=dT)(f:Hm G h t w al as ms K s=0):
  eT P G dU R N (.jk kZ ms as) s λe s'=>e=.normal/\K s'=0/\s.H.dX.dV<=s'.H.dX.dV/\∀p o,s'.H.ep.dZ p=Y o->s.H.ep.dZ p=Y o\/∃cs,o=.dY cs:=by
 let⟨F,D,⟨m,n⟩⟩:=s
 unfold Hm at f;dsimp only at f;cases D with
 |cons=>exact absurd f (jK _)
 |nil=>
 dsimp only at f;obtain⟨c,f⟩:=adY f;obtain⟨Q,hps,f⟩:=la gP f;obtain⟨vs',hvs',f⟩:=la gP f;obtain⟨g,f⟩:=vY gP f;obtain⟨k,g⟩:=jG g;obtain⟨y,u⟩:=jG g;rw[jS]at y;obtain⟨hz1,hz2⟩:=LN f;rw[ad3,RC]at hz2;have k:=Ry k;have u:=Rz u;refine eT.any Z λcode hc=>gJ.fresh λa=>?_;have a:∀p:S,n.dV<=p.dV->m.dZ p=J:=a;have hnew:∀p o,(BM Q m).dZ p=Y o->m.dZ p=Y o\/∃cs,o=.dY cs:=by
  intro p o ho;obtain⟨i,hi,_,e⟩|⟨_,r⟩:=RB ho
  .exact .inr ⟨_,e⟩
  exact .inl r
 have hj:Jn n m ⟨F,[],⟨m,n⟩⟩:=⟨fQ _,λ_ _=>Z,Z⟩
 have x:=adX hh hj hz1;refine(gJ.PZ (s':=⟨gB w vs',[],⟨BM Q m,c.H.dX⟩⟩) (e0:=.normal) hh.dW Z y (gJ.i7 hh.mixed hok hc (P0 x λs' d=>⟨Z,?_⟩))).mono ?_
 .let⟨j,d⟩:=d
  obtain⟨qs,hqs,d⟩:=la gP d;obtain⟨vs,hvs,d⟩:=la gP d;obtain⟨g,_⟩:=vY gP d;obtain⟨z,g⟩:=jG g;obtain⟨B,g⟩:=jG g;obtain⟨hv,hr⟩:=jG g;have z:=Ry z;have B:=Rz B;obtain⟨hlen,C⟩:=ad2 hr;obtain⟨π,hlow,W,_,U⟩:=QB n.dV (Q.map (·.1)) (qs.map (·.1)) (by simp[hlen]) k z (λp hp=>(u p hp).1) (λq I=>(B q I).1);have E:∀i (h:i<O Q)(h':i<O qs),π Q[i].1=qs[i].1:=by intro i h h';have:=U i ly (by simpa using h');simpa using this
  have b:∀p:S,p.dV<n.dV->π p=p/\Below c.H.dX p:=λp hp=>⟨hlow p hp,show p.dV<c.H.dX.dV by omega⟩
  have l:∀p∈Q.map (·.1),Below c.H.dX p:=λp hp=>(u p hp).2;refine⟨π,b,λq v I=>?_,⟨j.D,λ_ h=>by cases h⟩,λp o ho=>?_,λp q _ _ _ _ e=>W p q e,λq I g=>?_⟩
  .exact mD.gY hvs (RA b l E hv) q v I
  .obtain⟨i,hi,rfl,rfl⟩|⟨h1,r⟩:=RB ho
   .refine .inr ⟨l _ (by simp only[gS];exact⟨_,fB hi,Z⟩),.dY qs[i].2,?_,(RA b l E (C i hi M)).dY⟩;rw[E i hi M];exact ad4 hqs i M
   have hlt:p.dV<n.dV:=by
    obtain h|h:=kG p.dV n.dV
    .exact h
    rw[a p h]at r;cases r
   exact .inl ⟨r,by rw[j.old p hlt];exact r⟩
  have g:q.dV<c.H.dX.dV:=g;have I:c.H.dX.dV<=q.dV:=I;omega
 rintro e s' ⟨rfl,rfl⟩;exact⟨Z,hz2,y,hnew⟩
end
def kN(h:oD):gx->Bool
 |.jk kZ ms as=>match h.sp ms with
  |some (t,_,_)=>AT kZ t ms as
  |none=>FJ kZ ms as
 |.seq a b=>kN h a&&kN h b
 |.cond _ a b=>kN h a&&kN h b
 |.block _ a=>kN h a
 |.loop _ a=>kN h a
 |.rangeFunc _ _ _ a b=>kN h a&&kN h b
 |.scope a=>kN h a
 | _=>dT
structure p7 (P:Program)(G:ez)(h:oD):Prop extends v7 P G h where
 vX:∀f N res a,h.vX f=some (N,res,a)→Has P f N res a∧kN h a=true
def ia(P:Program)(h:oD)(L:List LE)(H:eM):Prop:=
 ∀e∈L,e.l.dV<H.dX.dV/\kN h e.Hr=dT/\kN h e.DY=dT/\
  ∀b c n F t a B d,H.ep.dZ e.l=Y (.loop b c n F t a B d)->n=e.N/\gk P e.N a=Y e.Hr.m/\gk P e.N B=Y e.DY.m
def ad6(P:Program)(G:ez)(h:oD)(L:List LE)(H:eM)(K:A->eM->Nat):Rq->Prop
 |.call f args=>eL P G f args H λr D=>ia P h L D/\K r D=0
 |.gF l args=>qc P G l args H λr D=>ia P h L D/\K r D=0
def v8(P:Program)(G:ez)(h:oD)(W:zf):Prop:=
 ∀L a H K,ia P h L H->W L a H K=0->ad6 P G h L H K a
section
variable{P:Program}{G:ez}{h:oD}{R:Option S}{N:Nat}{L:List LE}
def ia.keep{H D:eM}(o:ia P h L H)(u:H.dX.dV<=D.dX.dV)
  (f:∀p:S,p.dV<H.dX.dV->∀b a n F t c B d,D.ep.dZ p=Y (.loop b a n F t c B d)->∃b a F t d,H.ep.dZ p=Y (.loop b a n F t c B d)):ia P h L D:=by
 intro e i;obtain⟨K,r,m,E⟩:=o e i;refine⟨M,r,m,λb a n F t c B d j=>?_⟩;obtain⟨q,k,s,l,y,g⟩:=f _ K _ _ _ _ _ _ _ _ j;exact E _ _ _ _ _ _ _ _ g
def ia.set{n n' p:S}{o:Option AO}(i:ia P h L ⟨m,n⟩)(E:n.dV<=n'.dV)
  (w:p.dV<n.dV->∀b c k F t f B d,o=Y (.loop b c k F t f B d)->∃b c F t d,m.dZ p=Y (.loop b c k F t f B d)):ia P h L ⟨m.set p o,n'⟩:=by
 refine i.keep E λq j b c k F t f B d g=>?_;have a:(if q=p then o else m.dZ q)=Y (.loop b c k F t f B d):=by rw[<-T.jr];exact g
 by_cases e:q=p
 .rw[gO e]at a;subst e;exact w j _ _ _ _ _ _ _ _ a
 rw[gj e]at a;exact⟨_,_,_,_,_,a⟩
def ia.ew{n:S}{o:Option AO}(a:ia P h L ⟨m,n⟩):ia P h L ⟨m.set n o,n.succ⟩:=
 a.set kP λb=>absurd b (Nat.lt_irrefl _)
def ia.nT{n:S}{k:Option S}(o:ia P h L ⟨m,n⟩):ia P h L ⟨ye k m,n⟩:=by
 cases k with
 |none=>exact o
 |some p=>exact o.set (fQ _) λ_ _ _ _ _ _ _ _ _ e=>by cases e
def ia.put{n p:S}{o:AO}(a:ia P h L ⟨m,n⟩)(w:LG o=dT):ia P h L ⟨m.set p (Y o),n⟩:=
 a.set (fQ _) λ_ _ _ _ _ _ _ _ _ e=>by cases e;cases w
def ia.I{s:St}(o:ia P h L H):ia P h L (s.I a v H).H:=by cases a<;>exact o
def ia.nil:ia P h [] H:=λ_ F=>by cases F
def ad7:∀{l:List (AO×A)}{Q:AO->A->Nat},LF l Q=0->∀x∈l,Q x.1 x.2=0:=by
 intro l;induction l with
 |nil=>intro Q _ x a;cases a
 |cons y l i=>
 intro Q c x a;obtain⟨o,v⟩:=y;obtain⟨K,r⟩:=LN c;obtain rfl|a:=eZ.1 a
 .exact K
 exact i r x a
def RE{k:Option S}{K:T AO->Nat}:Hi k m K=K (ye k m):=by
 cases k with
 |none=>rfl
 |some p=>simp only[Hi,T.i6];rfl
def ad8(d:v7 P G h)(y:v8 P G h W){K:A->eM->Nat}(o:ia P h L H)(c:LH h W L f b H K=0):eL P G f b H λr D=>ia P h L D/\K r D=0:=by
 unfold LH at c;rw[Hs]at c;cases hb:cond (h.pu f) (ze b) dU
 .rw[hb]at c;exact y L (.call f b) H K o c
 rw[hb]at c;obtain⟨_,hp⟩:=jG hb;have:=y [] (.call f b) _ _ ia.nil c;refine(eL.Rv (Q:=λv=>K v H=0) d.dW (Rt hp) (eL.mono this λr D ⟨_,c⟩=>?_)).mono λr D ⟨e,t⟩=>by rw[e];exact⟨o,t⟩
 obtain⟨v,a,c⟩:=la (jK _) c;obtain⟨g,i⟩:=Ru a;exact⟨v,g,i,c⟩
def ad9{W:zf}(d:v7 P G h)(y:v8 P G h W){g:Option S}{F:T A}{D:List S}{m:T AO}{n:S}{K:St->Nat}{e:iD}(c:ia P h L ⟨m,n⟩)(hz:BD h W L g F D m n K e=0):
  ln P G dU g ⟨F,D,⟨m,n⟩⟩ (λt=>ia P h L t.H/\K t=0) e:=by
 unfold BD at hz;unfold ln;cases e with
 |val v=>dsimp only at hz⊢;rw[BL (H0:=⟨m,n⟩)]at hz;exact⟨c.I,hz⟩
 |ew o k=>simp only[BJ,T.i6,ou]at hz;refine tn λhz=>?_;simp only[iD.state,im];exact⟨c.ew.I,hz⟩
 |put p o v=>obtain⟨j,hz⟩:=vY (jK _) hz;simp only[BJ,T.i6]at hz;refine tn λhz=>?_;simp only[iD.state,im];exact⟨(c.put j).I,hz⟩
 |lH kl B k w=>simp only[RE,T.i6,ou]at hz;exact Vy
 |oK kl B k w=>simp only[RE,xa,T.i6,ou]at hz;exact Vy
 |call f b=>dsimp only at hz⊢;refine .any Z ((ad8 d y c hz).mono λr q ⟨s,i⟩=>?_);obtain⟨z,a⟩:=q;exact UF
 |yield l b=>dsimp only at hz⊢;refine .any Z (qc.mono (y L (.gF l b) _ _ c hz) λr q ⟨s,i⟩=>?_);obtain⟨z,a⟩:=q;exact UF
 |any l p=>dsimp only at hz⊢;intro x u;obtain⟨j,hz⟩:=vY (jK _) (ad7 hz x u);rw[T.i6,BL (H0:=⟨m,n⟩)]at hz;exact⟨(c.put j).I,hz⟩
def RF(d:v7 P G h)(y:v8 P G h W){o:f8}{F:T A}{D:List S}{n:S}{K:St->Nat}(l:ia P h L ⟨m,n⟩)(hz:Hj G h W L o F D m n K=0):
  mB P G dU o ⟨F,D,⟨m,n⟩⟩ (λj=>ia P h L j.H/\K j=0):=by
 let⟨a,op,dY,guard,i⟩:=o
 have f:(jv (fA G dY F ⟨m,n⟩ op) 30 λe=>BD h W L a F D m n K e)=0->im (fG G dY F ⟨m,n⟩ op) (ln P G dU a ⟨F,D,⟨m,n⟩⟩ (λj=>ia P h L j.H/\K j=0)):=by intro hz;obtain⟨e,k,hz⟩:=la (jK _) hz;rw[CX]at k;exact fH k (ad9 d y l hz)
 have r:mI a F D m n (.eK []) K=0->ia P h L (St.I ⟨F,D,⟨m,n⟩⟩ a (.eK []) ⟨m,n⟩).H/\K (St.I ⟨F,D,⟨m,n⟩⟩ a (.eK []) ⟨m,n⟩)=0:=by intro hz;refine tn λhz=>?_;exact⟨l.I,hz⟩
 unfold Hj at hz;unfold mB;cases guard with
 |none=>exact f hz
 |some p=>
 let⟨g,c⟩:=p
 cases g with
 |none=>exact r hz
 |some g=>
 dsimp only at hz⊢;cases hv:F.dZ g with
 |none=>rw[hv]at hz;exact absurd hz (jK _)
 |some v=>
 rw[hv]at hz;cases v with
 |bool b=>
  cases c<;>cases b
  .exact f hz
  .exact r hz
  .exact r hz
  exact f hz
 |eK _=>exact r hz
 | _=>exact absurd hz (jK _)
def aea(d:v7 P G h)(y:v8 P G h W):∀{l:List f8}{s:St}{K:St->Nat},ia P h L s.H->LI G h W L l K s=0->tN P G dU l (λj=>ia P h L j.H/\K j=0) s:=by
 intro l;induction l with
 |nil=>intro s K a c;exact⟨a,c⟩
 |cons o l i=>
 intro s K a c
 let⟨F,D,⟨m,n⟩⟩:=s
 exact tQ (RF d y a c) λj ⟨b,r⟩=>i b r
def aeb(d:v7 P G h)(y:v8 P G h W){e:List f8}:∀{r b:List Nat}{s:St}{K:St->Nat},ia P h L s.H->vK G h W L e z r b K s=0->oN P G dU e z r b (λj=>ia P h L j.H/\K j=0) s:=by
 intro r;induction r with
 |nil=>intro b s K c hz;exact⟨c,hz⟩
 |cons i r f=>
 intro b s K c hz
 let⟨F,D,⟨m,n⟩⟩:=s
 unfold vK at hz;unfold oN;obtain⟨o,w,hz⟩:=la (jK _) hz;rw[w];dsimp only at hz⊢;rw[Hs]at hz;cases hq:o.W
 .rw[hq]at hz;dsimp only;rw[sC];simp only[jx,xa]at hz;exact tQ (RF d y c hz) λj ⟨g,k⟩=>Rw k λl=>f g l
 rw[hq]at hz;obtain⟨v,a,hz⟩:=la (jK _) hz;rw[LQ]at a;dsimp only;rw[qT];refine fH a ?_;rw[o8 (s:=⟨F,D,⟨m,n⟩⟩) (H:=⟨m,n⟩) Z Z Z];refine tn λhz=>?_;exact f c.I hz
def gJ.zj{c:Code}{s:St}{Q:Exit->St->Prop}(I:Nat->St->Prop)(k0:Nat)(U:I k0 s)
  (hw:∀k s,I k s->gJ P G R N c s (l9 (λz=>∃m,m<k/\I m z) Q)):gJ P G R N (.loop c) s Q:=by
 intro B w H a F hs hr b k u C hb hroom;have E:∀j s r g t,I j s->fL B w H r g->jd B G N s r g t->
   ∃e a' w',(∃K p,Q e K/\fL B w H w' p/\jd B G N K w' p a')/\ArrivesIn (Machine.fenced P F) P (lone (b.atR t (.code c::.inLoop c::k)) u r) b k u e a' w':=by
  intro j;induction j using Nat.strongRecOn with
  | _ j ih=>
  intro s r g t W i D;obtain⟨e,o,q,⟨z,f,hq,n,d⟩,harr⟩:=hw j s W B r g t F D (hr.mono i) b (.inLoop c::k) u C hb hroom;cases e with
  |normal=>
   let⟨j3,y,v⟩:=hq
   obtain⟨e3,a3,w3,hq3,harr3⟩:=ih j3 y z q f o v (i.trans n) d;exact IG
  |exit id=>exact⟨_,o,q,⟨z,f,hq,i.trans n,d⟩,.pass (x:=.inLoop c) Z (λ_ _=>.inl ei) harr⟩
  |goto l=>exact⟨_,o,q,⟨z,f,hq,i.trans n,d⟩,.pass (x:=.inLoop c) Z (λ_ _=>.inl ei) harr⟩
  |ret=>exact⟨_,o,q,⟨z,f,hq,i.trans n,d⟩,.pass (x:=.inLoop c) Z (λ_ _=>.inl ei) harr⟩
  |panic ch=>exact⟨_,o,q,⟨z,f,hq,i.trans n,d⟩,.pass (x:=.inLoop c) Z (λ_ _=>.inl ei) harr⟩
  |outgrown=>exact⟨_,o,q,⟨z,f,hq,i.trans n,d⟩,.pass (x:=.inLoop c) Z (λ_ _=>.inl ei) harr⟩
 obtain⟨e,a',w',hq,harr⟩:=E _ s w H a U (fL.refl _ _ _) hs;exact IR
def eT.zj{D:List S}{a:gx}{s:St}{Q:Exit->St->Prop}(I:Nat->St->Prop)(b:Nat)(e:I b s)
  (g:∀k s,I k s->jn P G dU R N a s (l9 (λz=>∃m,m<k/\I m z) Q)):eT P G dU R N (.loop D a) s Q:=by
 refine .any Z λc hc=>?_;cases c<;>simp[gk,gx.m,fS]at hc
 .exact pw
 exact gJ.zj I b e λk s f=>sB hc (g k s f)
def aec{i:Nat}{K:Exit->St->Nat}{e:Exit}{s:St}:LL i K e s=0->oL i (λe s=>K e s=0) e s:=by
 intro c;cases e with
 |exit j=>
  simp only[LL,Hs]at c;simp only[oL];by_cases e:j=i
  .rw[gO e];subst e;simpa using c
  rw[gj e];rw[show Nat.beq j i=dU by rw[pB,ne_eq,nr];exact e]at c;exact c
 | _=>exact c
def aed:∀{l:List A}{p:S}{K:T A->Nat},DU p l K=K (pP p l):=by
 intro l;induction l with
 |nil=>intro p K;rfl
 |cons v l i=>intro p K;simp only[DU,pP,ou,i,T.i6]
def aee:∀{a:List Nat}{w:List A}{F:T A}{K:T A->Nat},DV F a w K=K (tL F a w):=by
 intro a;induction a with
 |nil=>intro w F K;cases w<;>rfl
 |cons t a i=>
 intro w F K;cases w with
 |nil=>rfl
 |cons v w=>simp only[DV,tL,T.i6,i]
def aef:∀{D:List S}{m:T AO}{n:S}{K:T AO->Nat},ia P h L ⟨m,n⟩->BH D m K=0->∃x,rA D ⟨m,n⟩=Y ⟨x,n⟩/\ia P h L ⟨x,n⟩/\K x=0:=by
 intro D;induction D with
 |nil=>intro m n K b c;exact⟨m,Z,b,c⟩
 |cons d D i=>
 intro m n K b c;simp only[BH]at c;split at c
 .rename_i a;rw[T.i6]at c;obtain⟨x,f,r,g⟩:=i (n:=n) (b.set (p:=d) (o:=J) (fQ _) λ_ _ _ _ _ _ _ _ _ e=>by cases e) c;exact⟨x,by simp only[rA,a,f],r,g⟩
 exact absurd c (jK _)
def aeg{K:A->eM->Nat}{e:Exit}{s:St}(o:ia P h L s.H)(c:LM G a K e s=0):vh G a (λr b=>ia P h L b/\K r b=0) e s:=by
 let⟨F,D,⟨m,n⟩⟩:=s
 have k:(BH D m λx=>jv (nU G F ⟨x,n⟩ a) 45 λw=>K (rz w) ⟨x,n⟩)=0->im (rA D ⟨m,n⟩) λb=>im (nU G F b a) λw=>ia P h L b/\K (rz w) b=0:=by intro c;obtain⟨x,d,f,g⟩:=aef o c;obtain⟨w,E,i⟩:=la (jK _) g;exact fH d (fH E ⟨f,i⟩)
 cases e<;>first
  |exact k c
  |exact absurd c (jK _)
def aeh:∀{L:List LE}{e:LE},DQ l L=Y e->e∈L/\e.l=l:=by
 intro L;induction L with
 |nil=>intro e F;cases F
 |cons x L i=>
 intro e F;simp only[DQ]at F;cases hx:jT x.l l
 .rw[hx]at F;obtain⟨K,r⟩:=i F;exact⟨by simp[K],r⟩
 rw[hx]at F;cases F;exact⟨ei,uo hx⟩
def aei{F:T A}{D:List S}{n:S}{K:Exit->St->Nat}{x:T AO}{v:Option Code}(a:ia P h L ⟨x,n⟩):(match v with
    |none=>K .normal ⟨F,D,⟨x,n⟩⟩
    |some .ret=>K .ret ⟨F,D,⟨x,n⟩⟩
    |some (.exit i)=>K (.exit i) ⟨F,D,⟨x,n⟩⟩
    |some (.goto t)=>K (.goto t) ⟨F,D,⟨x,n⟩⟩
    | _=>35)=0->match v with
    |none=>ia P h L ⟨x,n⟩/\K .normal ⟨F,D,⟨x,n⟩⟩=0
    |some .ret=>ia P h L ⟨x,n⟩/\K .ret ⟨F,D,⟨x,n⟩⟩=0
    |some (.exit i)=>ia P h L ⟨x,n⟩/\K (.exit i) ⟨F,D,⟨x,n⟩⟩=0
    |some (.goto t)=>ia P h L ⟨x,n⟩/\K (.goto t) ⟨F,D,⟨x,n⟩⟩=0
    | _=>False:=by
 intro b;cases v with
 |none=>exact⟨a,b⟩
 |some c=>
 cases c<;>first
  |exact⟨a,b⟩
  |exact absurd b (jK _)
def aej{F:T A}{D:List S}{K:Exit->St->Nat}(o:ia P h L H)(c:Hp F D l K H=0):wF F D l (λe s=>ia P h L s.H/\K e s=0) H:=by
 let⟨m,n⟩:=H
 simp only[Hp]at c;simp only[wF];split at c
 .rename_i b v k g t i B d f;have a:ia P h L ⟨m.set l J,n⟩:=o.set (fQ _) λ_ _ _ _ _ _ _ _ _ e=>by cases e
  rw[f];dsimp only;simp only[T.i6]at c⊢;cases b<;>first
   |exact absurd c (jK _)
   |exact⟨rfl,aei a c⟩
 exact absurd c (jK _)
def aek{N:Nat}{Fl:T A}{t:List Nat}{k B:Code}{n:S}{K:S->List S->eM->Nat}{f g:gx}(s:kN h f=dT)(j:kN h g=dT)(p:gk P N k=Y f.m)(q:gk P N B=Y g.m)
  (o:ia P h L ⟨m,n⟩)(c:Ho R N Fl t k B m n K=0):im (ym R N Fl t k B ⟨m,n⟩) λx=>ia P h (⟨x.1,N,f,g⟩::L) x.2.2/\K x.1 x.2.1 x.2.2=0:=by
 have cons:∀{l a d:S}{v:T AO},ia P h L ⟨v,l⟩->a=l.succ->ia P h (⟨l,N,f,g⟩::L) ⟨v.set l (Y (.loop .ready J N Fl t k B d)),a⟩:=by
  intro l a d v o e;subst e;intro x r;obtain rfl|r:=eZ.1 r
  .refine⟨?_,s,j,λb w n F t k B d i=>?_⟩
   .show l.dV<l.succ.dV;rw[S.gG];omega
   have i:(v.set l _).dZ l= _:=i;rw[T.EZ]at i;cases i;exact⟨Z,p,q⟩
  exact o.ew x r
 unfold Ho at c;unfold ym;cases R with
 |none=>simp only[ou,T.i6]at c;exact⟨cons o.ew Z,c⟩
 |some u=>
 dsimp only at c⊢;split at c
 .rename_i i;simp only[ou,T.i6]at c;rw[i];exact⟨cons o Z,c⟩
 exact absurd c (jK _)
def LR(U:p7 P G h)(y:v8 P G h W):∀{a:gx}{s:St}{K:Exit->St->Nat},kN h a=dT->ia P h L s.H->rS P G h W L R N a s K=0->jn P G dU R N a s λe v=>ia P h L v.H/\K e v=0:=by
 intro a;induction a with
 |skip=>intro s K _ o hz;exact⟨o,hz⟩
 |fO ops=>intro s K _ o hz;exact aea U.tov7 y o hz
 |jk kZ ms as=>
  intro s K q o hz;simp only[kN]at q;have hz:(match h.sp ms with
   |some (t,u,al)=>Hm G h t u al as ms (K .normal) s
   |none=>vK G h W L as ms kZ [] (K .normal) s)=0:=hz
  show eT P G dU R N (.jk kZ ms as) s _;cases hsp:h.sp ms with
  |some x=>
   let⟨t,u,al⟩:=x
   rw[hsp]at q hz;refine(ad5 U.tov7 q hz).mono λe v ⟨he,hz',hn,hm⟩=>?_;subst he;refine⟨o.keep hn λp hp st pe n F ps as bo d hg=>?_,hz'⟩;obtain w|⟨cs,w⟩:=hm _ _ hg
   .exact⟨_,_,_,_,_,w⟩
   cases w
  |none=>rw[hsp]at q hz;exact eT.jk U.mixed q (aeb U.tov7 y o hz)
 |seq a b E I=>
  intro s K q o hz;simp only[kN,jC]at q;show jn P G dU R N a s (l9 (λv=>jn P G dU R N b v λe v=>ia P h L v.H/\K e v=0) λe v=>ia P h L v.H/\K e v=0);refine lp (E q.1 o hz) λe v ⟨w,z⟩=>?_;cases e with
  |normal=>exact I q.2 w z
  | _=>exact⟨w,z⟩
 |cond x a b E I=>
  intro s K q o hz;simp only[kN,jC]at q;have hz:(match x.ev G s.F with
   |some (.bool c)=>mH c (rS P G h W L R N a s K) (rS P G h W L R N b s K)
   | _=>37)=0:=hz
  show(match x.ev G s.F with
   |some (.bool c)=>(match c with|true=>jn P G dU R N a s _ |false=>jn P G dU R N b s _)
   | _=>False)
  split at hz
  .rename_i c he;cases c
   .exact I q.2 o hz
   exact E q.1 o hz
  exact absurd hz (jK _)
 |block i a ih=>
  intro s K q o hz;show jn P G dU R N a s (oL i λe v=>ia P h L v.H/\K e v=0);refine lp (ih q o hz) λe v ⟨w,z⟩=>?_;have:=aec z;cases e with
  |exit j=>
   simp only[oL]at this⊢;split at this
   .rename_i e;rw[gO e];exact⟨w,this⟩
   rename_i e;rw[gj e];exact⟨w,this⟩
  | _=>exact⟨w,this⟩
 |loop u a ih=>
  intro s K q o hz;have hz:AB (rS P G h W L R N a) 100000 s K=0:=hz;show eT P G dU R N (.loop u a) s _;refine eT.zj (λk s=>ia P h L s.H/\AB (rS P G h W L R N a) k s K=0) 100000 ⟨o,hz⟩ ?_;rintro k s ⟨o,hz⟩;cases k with
  |zero=>exact absurd hz (jK _)
  |succ k=>
  refine lp (ih q o hz) λe v ⟨w,z⟩=>?_;cases e with
  |normal=>exact⟨k,Nat.lt_succ_self k,w,z⟩
  | _=>exact⟨w,z⟩
 |rangeFunc g ps u B C _ _=>
  intro s K q o hz;simp only[kN,jC]at q
  let⟨F,D,⟨m,n⟩⟩:=s
  have hz:(match g.ev G F with
    |some (.func (.func f) first captured)=>jv (h.vX f) 42 λ_=>jv (mq F u) 38 λvs=>BG u vs λFl=>Ho R N Fl ps (sG P N B) (sG P N C) m n λl Q H1=>W (⟨l,N,B,C⟩::L) (.call f (first++[.gF l]++captured)) H1 λ_ H2=>Hp F (Q++D) l K H2
    | _=>39)=0:=hz
  show eT P G dU R N (.rangeFunc g ps u B C) ⟨F,D,⟨m,n⟩⟩ _;split at hz
  .rename_i f first captured hg
   obtain⟨⟨N1,res1,a1⟩,ht,hz⟩:=la (jK _) hz;obtain⟨vs,hv,hz⟩:=la (jK _) hz;rw[RC]at hz;refine eT.rangeFunc U.ey hg (U.vX _ _ _ _ ht).1 hv λw z=>?_;refine tM (aek q.1 q.2 w z o hz) λx ⟨h3,h4⟩=>?_;refine .any Z (eL.mono (y _ (.call f _) _ _ h3 h4) λr H2 ⟨h5,h6⟩=>?_);exact aej (λe he=>h5 e (mL _ he)) h6
  exact absurd hz (jK _)
 |scope a ih=>
  intro s K q o hz;show jn P G dU R N a s (yn λe v=>ia P h L v.H/\K e v=0);refine lp (ih q o hz) λe v ⟨w,z⟩=>?_;cases e with
  |goto l=>exact absurd z (jK _)
  | _=>exact⟨w,z⟩
 |exit i=>intro s K _ o hz;exact⟨o,hz⟩
 |label l=>intro s K _ o hz;exact⟨o,hz⟩
 |goto l=>intro s K _ o hz;exact⟨o,hz⟩
 |ret=>intro s K _ o hz;exact⟨o,hz⟩
 |refuse=>intro s K _ o hz;exact absurd hz (jK _)
def ael{K:St->Nat}{s:St}(hl:ia P h L s.H)(hz:DW l K s=0):yx l (λj=>ia P h L j.H/\K j=0) s:=by
 let⟨F,D,⟨m,n⟩⟩:=s
 simp only[DW]at hz;simp only[yx];split at hz
 .rename_i c k a t b B d hg;rw[hg];dsimp only;exact Td
 exact absurd hz (jK _)
def aem{K:A->eM->Nat}{e:Exit}{s:St}(hl:ia P h L s.H)(hz:Hq l K e s=0):C4 l (λr i=>ia P h L i/\K r i=0) e s:=by
 let⟨F,D,⟨m,n⟩⟩:=s
 have c:∀(g:LoopState)(f:Option Code)(b:Bool),(match m.dZ l with
   |some (.loop _ _ k F t a B d)=>T.ir (Y (.loop g f k F t a B d)) l m λx=>K (.bool b) ⟨x,n⟩
   | _=>48)=0->match m.dZ l with
   |some (.loop _ _ k F t a B d)=>T.ir (Y (.loop g f k F t a B d)) l m λx=>ia P h L ⟨x,n⟩/\K (.bool b) ⟨x,n⟩=0
   | _=>False:=by
  intro g f b hz;split at hz
  .rename_i o j k p t a B d hg;exact Td
  exact absurd hz (jK _)
 cases e<;>first
  |exact c _ _ _ hz
  |exact absurd hz (jK _)
def aen(g:p7 P G h)(y:v8 P G h W):v8 P G h (Rr P G h W):=by
 intro L req H K o c;cases req with
 |call f b=>
  have c:(match h.ov f b with
   |some r=>K r H
   |none=>match h.BI f b H with
    |some (r,p,cs)=>match H with|⟨m,n⟩=>T.ir (Y (.dY cs)) p m λm'=>K r ⟨m',n⟩
    |none=>match h.vX f with
     |some (N,x,a)=>DU .h b λF=>rS P G h W L J N a ⟨F,[],H⟩ (LM G x K)
     |none=>Nat.succ (1000+f))=0:=c
  show eL P G f b H _;split at c
  .rename_i r i;exact(g.ov _ _ _ i H).mono λr1 H1 ⟨B,C⟩=>by rw[B,C];exact⟨o,c⟩
  split at c
  .rename_i r p cs i
   let⟨m,n⟩:=H
   dsimp only at c;rw[T.i6]at c;exact(g.BI _ _ _ _ _ _ i).mono λr1 H1 ⟨B,C⟩=>by rw[B,C];exact⟨o.put Z,c⟩
  split at c
  .rename_i N x a ht;obtain⟨hf,Q⟩:=g.vX _ _ _ _ ht;rw[aed]at c;exact eL.vk hf (lp (LR g y Q o c) λe s' ⟨D,j⟩=>aeg D j)
  exact absurd c (jK _)
 |gF l b=>
 have c:(match DQ l L with
  |none=>70
  |some e=>match H with|⟨m,n⟩=>match m.dZ l with
   |some (.loop .ready _ N F z _ _ _)=>mH (cond (Nat.beq (O b) (O z)) (z.all λt=>Nat.blt t N) dU)
     (DV F z b λF1=>rS P G h W L (Y l) e.N e.Hr ⟨F1,[],⟨m,n⟩⟩ (Hn (DW l λs=>rS P G h W L (Y l) e.N e.DY s (Hq l K)) (λ_ _=>71))) 72
   | _=>73)=0:=c
 show qc P G l b H _;split at c
 .exact absurd c (jK _)
 rename_i e he
 let⟨m,n⟩:=H
 dsimp only at c;split at c
 .rename_i pend k F z as bo d hg;obtain⟨hb,w⟩:=vY (jK _) c;clear c;obtain⟨u,U⟩:=jG hb;obtain⟨v,I⟩:=aeh he;obtain⟨_,ha,E,hc⟩:=o e v;rw[I]at hc;obtain⟨rfl,hc1,hc2⟩:=hc _ _ _ _ _ _ _ _ hg;rw[aee]at w;refine jy.u9 (jy.body (d:=dU) g.ey hc1 hc2 hg (iZ u) U ?_);rw[O9,qO];refine lp (LR g y ha o w) λe' s' ⟨D,j⟩=>?_;cases e' with
  |normal=>
   have j:DW l (λs=>rS P G h W L (Y l) e.N e.DY s (Hq l K)) s'=0:=j;have q:=ael D j
   let⟨F',D',⟨m',n'⟩⟩:=s'
   simp only[yx]at q;simp only[l9,yx];split at q
   .rw[T.i6]at q⊢;rw[qO];exact lp (LR g y E q.1 q.2) λe'' s'' ⟨h4,h5⟩=>aem h4 h5
   exact q.elim
  | _=>exact absurd j (jK _)
 exact absurd c (jK _)
def aeo(d:p7 P G h):∀a,v8 P G h (DX P G h a):=by
 intro a;induction a with
 |zero=>intro L b H K _ c;exact absurd c (jK _)
 |succ a i=>exact aen d i
def ee.Ht(d:p7 P G h)(a:ze K=dT){fuel:Nat}(c:DX P G h fuel [] (.call f K) ⟨.e,.h⟩ (λr D=>jv (BC D.ep 60 r) 1 λu=>mH (oe 60 u v) 0 2)=0):ee P G f K v:=by
 intro H;have:=aeo d fuel [] (.call f K) _ _ ia.nil c;refine(eL.Rv (Q:=λu=>u=v) d.dW (Rt a) (eL.mono this λr D ⟨_,c⟩=>?_)).mono λr D ⟨e,t⟩=>⟨t,e⟩
 obtain⟨u,i,c⟩:=la (jK _) c;obtain⟨b,g⟩:=Ru i;exact⟨u,b,g,vZ (vY (jK _) c).1⟩
end
def T.D1{Q:Type}(p:Q->Bool):T Q->Bool
 |.e=>dT
 |.n v l r=>(match v with|some x=>p x|none=>dT)&&(T.D1 p l&&T.D1 p r)
def T.aep{Q:Type}{p:Q->Bool}:∀{t:T Q},T.D1 p t=dT->T.wH (λx=>p x=dT) t:=by
 intro t;induction t with
 |e=>intro _;trivial
 |n v l r a b=>
 intro h;simp only[T.D1,jC]at h;refine⟨?_,a h.2.1,b h.2.2⟩;cases v with
 |none=>trivial
 |some x=>exact h.1
def wa(f:Nat):Option (Nat×L RV×gx):=(Q.tabT.dZ (S.ofNat f)).bind λe=>cond (Nat.beq e.f f) (Y (e.N,e.res,e.a)) J
def aeq{P:Program}(F:j8 P)(h:wa f=Y (N,b,a)):Has P f N b a/\∃q e,Q.tabT.dZ q=Y e/\e.a=a:=by
 unfold wa at h;obtain⟨e,c,h⟩:=fS.1 h;cases hb:Nat.beq e.f f
 .rw[hb]at h;cases h
 rw[hb]at h;cases h;have g:=iZ hb;subst g;exact⟨T.wH.dZ (p:=λe:TE=>Has P e.f e.N e.res e.a) F c,_,e,c,Z⟩
