/- Lemmas. No condition. -/
import Derived.Test.YtlkijhibifmamaaGreatDoorBH
set_option linter.all false
set_option autoImplicit true
set_option relaxedAutoImplicit true
set_option maxHeartbeats 0
set_option maxRecDepth 100000
noncomputable section
open Option renaming some→Y,none→J
open Bool renaming true→dT,false→dU
open List renaming length→O
namespace Go.As
open Go.RowKit
variable{P:Program}{G:ez}
def acE(p:S)(l:L (Bool×Int))(h:∀c∈l,c.2≠0):DJ p (p6 p l):=by
 unfold p6;cases hf:l.find? (·.1)with
 |none=>exact .inl Z
 |some c=>exact .inr ⟨c.2,h c (List.mem_of_find?_eq_some hf),Z⟩
def Lm(P:Program)(G:ez)(Sa:nh P G K)(k:Ck)(p:S)(v:A):Prop:=DJ p v/\∀m nx,k.B K Sa.fv m nx->∃r H,(DK p nx v r H.ep/\k.wX K Sa.fv m nx H)/\eL P G 33 [.ea k.x 0,.fz p 0] ⟨m,nx⟩ λa t=>a=r/\t=H
def acF(C:iF P G)(g:FG P G K)(Sa:nh P G K){k:Ck}{p:S}(hK:K p=Y (.op d (Y b) l)){e:L Nat}{j n f i t:A}(z:G.fU p=Y [.J e,j,n,f,i,t,vO (Y b)])(a:j9 DAny y)
  (o:yF .J k.ed (.agg vS) (.J e) G (.agg y) dT)(c:iT e [102,117,110,99,46,102,117,110,99]=dT):∃v,Lm P G Sa k p v:=by
 have yones:=a.Y;cases a with
 |mk I vi vo va zr zs vt is s q ts N r Q E H R U W F u w x B D=>
 refine⟨.iface 106 (.fF [.fz p 0,.iface 122 (.int .i64 60)] 0),.inr ⟨_,by decide,Z⟩,λm nx ju=>?_⟩;refine eL.fj (C.fs.h 33) (wK ?_);refine EG λm1 n1 em1 en1 m2 n2 em2 en2 G2 g2 g3 hx2 hd2=>?_;refine gC ?_;repeat'(first|refine eu g2 ?_|refine eu g3 ?_|refine eu hx2 ?_|refine fD z ?_|refine sK (o.1 _ _ _ _ _ _ _ _ Z hd2 Z) ?_|refine gI (gK _) (wK ?_)|fail)
 refine EA λm3 n3 em3 en3 G3 lt1 lt2 lt3 g2 g3 g5 hx3 hd3=>?_;repeat'(first|refine eu g2 ?_|refine eu g3 ?_|refine eu hx3 ?_|refine fD z ?_|refine sK (o.1 _ _ _ _ _ _ _ _ Z hd3 Z) ?_|refine gI (gK _) (wK ?_)|fail)
 refine EF λm4 em4 G4 g2 g3 g5=>?_;refine eu g3 ?_;refine fD z ?_;rw[c];conv=>whnf
 refine eu g3 ?_;refine fD z ?_;exact VV
def acG(C:iF P G)(g:FG P G K)(Sa:nh P G K){k:Ck}(ok:k.Ok P G K){p:S}(sh:GI P G K p bo)(hK:K p=Y (.op d bo nb))(z:G.fU p=Y [.J nm,vos,vrs,vas,vgs,vss,vO bo])(hyd:j9 DAny y)
  (hl:yF .J k.ed (.agg vS) (.J nm) G (.agg y) dT)(hle:∃e∈k.ed,e.key=.J nm/\e.val=.agg y)(hin:iT nm [102,117,110,99,46,102,117,110,99]=dU\/bo=J):∃v,Lm P G Sa k p v:=by
 have yones:=hyd.Y;obtain⟨e1,e2,vin,vout,out,lk⟩:=Lk.ex C g hK hyd;obtain⟨ts,hts⟩:=wW.ex C.tofP g hK;obtain⟨fb,hfb⟩:=GK.ex C.tofP ok.tru hts.types;obtain⟨us,hus⟩:=Bo.ex g hK;obtain⟨vb,hvb⟩:=GL.ex g Sa hK hus;obtain⟨bS,hbS⟩:=acm C.tofP g hK ok.nam
 let⟨nm',vos',vrs',vas',vgs',vss',vb',e0',f1,f2⟩:=lk.Ll
 rw[z]at e0';cases e0';have f3:=lk.acu;have f4:=lk.fits;have f5:=lk.mat;have hbE:∃bE,∀a0,ee P G 94 [a0,.fz p 0,.agg y] (.bool bE):=by
  cases hyd with
  |mk dn vi vo va zr zs vt is dos das ts h1 h2 h3 h4 h5 h6 h7 h8 h9 h10 h11 h12 h13 h14=>obtain⟨_,⟨bE,rfl⟩,h⟩:=acl C.tofP g hK (j9.dW (.mk (Ta:=DAny) dn vi vo va zr zs vt is dos das ts h1 h2 h3 h4 h5 h6 h7 h8 h9 h10 h11 h12 h13 h14)) yones h11 h12 h13;exact⟨bE,h⟩
 let⟨bE,hbE⟩:=hbE
 have hy7:∃y0 y1 y2 y3 y4 y5 y6,y=[y0,y1,y2,y3,y4,y5,y6]:=by
  cases hyd with
  |mk dn vi vo va zr zs vt is dos das ts h1 h2 h3 h4 h5 h6 h7 h8 h9 h10 h11 h12 h13 h14=>exact⟨_,_,_,_,_,_,_,Z⟩
 obtain⟨y0,y1,y2,y3,y4,y5,y6,rfl⟩:=hy7;have main:∀I j N:Bool,DJ p (p6 p [(!gD e1 (.ofNat 0)||gD e2 (.ofNat 61)||I,61),(mu fb (O ts)||gD e2 (.ofNat 62)||j,62),(mu (λi=> !vb i) (O us),63),(N|| !bE,64),(!bS,65)]):=λ_ _ _=>acE _ _ ei;by_cases hA:gD e1 (.ofNat 0)=dT/\(!gD e2 (.ofNat 61))=dT
 .let⟨hA1,hA2⟩:=hA
  obtain⟨_,⟨s0,s1,s2,rfl⟩,fs⟩:=abB C.tofP g hK;obtain⟨vr,br,hlr,hcr⟩:=ok.acy (G:=G) nm;obtain⟨rfl,rfl⟩|⟨f,rfl,rfl,q1,q2,q3,q4⟩:=hcr
  .obtain⟨I,ho0⟩:∃b:Bool,b=s0:=⟨_,Z⟩;obtain⟨j,ho1⟩:∃b:Bool,b=s1:=⟨_,Z⟩;obtain⟨N,ho2⟩:∃b:Bool,b=s2:=⟨_,Z⟩;obtain⟨v,hv⟩:∃v,v=p6 p [(!gD e1 (.ofNat 0)||gD e2 (.ofNat 61)||I,61),(mu fb (O ts)||gD e2 (.ofNat 62)||j,62),(mu (λi=> !vb i) (O us),63),(N|| !bE,64),(!bS,65)]:=⟨_,Z⟩;refine MW λm nx ju=>?_;refine EG λm1 n1 em1 en1 m2 n2 em2 en2 G2 g2 g3 hx2 hd2=>?_;refine gC ?_;repeat'(first|refine eu g2 ?_|refine eu g3 ?_|refine eu hx2 ?_|refine fD z ?_|refine sK MX ?_|refine gI (gK _) (wK ?_)|fail)
   refine EA λm3 n3 em3 en3 G3 lt1 lt2 lt3 g2 g3 g5 hx3 hd3=>?_;repeat'(first|refine eu g2 ?_|refine eu g3 ?_|refine eu hx3 ?_|refine fD z ?_|refine sK NM ?_|refine gI (gK _) (wK ?_)|fail)
   refine EF λm4 em4 G4 g2 g3 g5=>?_;refine Nj ?_;generalize hb1:iT nm [102,117,110,99,46,102,117,110,99]=b1 at*;cases b1
   .conv=>whnf
    exact Uk
   obtain rfl:=hin.resolve_left ei;refine Mz ?_;exact Uk
  have hd:f=56\/d≠0:=by
   by_cases e:d=0
   .refine .inl (q3 ?_);obtain⟨nm2,vos2,vrs2,vas2,vgs2,vss2,os,rs,gs,as,ss,e02,_,_,_,_,_,_,_,_,_,_,_,_,q13,_⟩:=g.op hK;rw[z]at e02;cases e02;exact(q13 e).2.1
   exact .inr e
  let⟨ed,hed,k1,k2⟩:=hle
  obtain⟨_,⟨f0,f1',f2',rfl⟩,fr⟩:=lk.dY f d bo nb hK (oP.1 hA1) (λe=>by rw[e]at hA2;simp[gD]at hA2) q1 q2 hd (q4 _ hed _ k1 k2) sh.own;obtain⟨_,⟨I,j,N,rfl⟩,fa⟩:=Qv C.tofP s0 s1 s2 f0 f1' f2';obtain⟨v,hv⟩:∃v,v=p6 p [(!gD e1 (.ofNat 0)||gD e2 (.ofNat 61)||I,61),(mu fb (O ts)||gD e2 (.ofNat 62)||j,62),(mu (λi=> !vb i) (O us),63),(N|| !bE,64),(!bS,65)]:=⟨_,Z⟩;refine MW λm nx ju=>?_;refine EG λm1 n1 em1 en1 m2 n2 em2 en2 G2 g2 g3 hx2 hd2=>?_;refine gC ?_;repeat'(first|refine eu g2 ?_|refine eu g3 ?_|refine eu hx2 ?_|refine fD z ?_|refine sK MX ?_|refine gI (gK _) (wK ?_)|fail)
  refine EA λm3 n3 em3 en3 G3 lt1 lt2 lt3 g2 g3 g5 hx3 hd3=>?_;repeat'(first|refine eu g2 ?_|refine eu g3 ?_|refine eu hx3 ?_|refine fD z ?_|refine sK NM ?_|refine gI (gK _) (wK ?_)|fail)
  refine EF λm4 em4 G4 g2 g3 g5=>?_;refine Nj ?_;generalize hb1:iT nm [102,117,110,99,46,102,117,110,99]=b1 at*;cases b1
  .conv=>whnf
   exact SB
  obtain rfl:=hin.resolve_left ei;refine Mz ?_;exact SB
 obtain⟨I,ho0⟩:∃b:Bool,b=dU:=⟨_,Z⟩;obtain⟨j,ho1⟩:∃b:Bool,b=dU:=⟨_,Z⟩;obtain⟨N,ho2⟩:∃b:Bool,b=dU:=⟨_,Z⟩;obtain⟨v,hv⟩:∃v,v=p6 p [(!gD e1 (.ofNat 0)||gD e2 (.ofNat 61)||I,61),(mu fb (O ts)||gD e2 (.ofNat 62)||j,62),(mu (λi=> !vb i) (O us),63),(N|| !bE,64),(!bS,65)]:=⟨_,Z⟩;refine MW λm nx ju=>?_;refine EG λm1 n1 em1 en1 m2 n2 em2 en2 G2 g2 g3 hx2 hd2=>?_;refine gC ?_;repeat'(first|refine eu g2 ?_|refine eu g3 ?_|refine eu hx2 ?_|refine fD z ?_|refine sK MX ?_|refine gI (gK _) (wK ?_)|fail)
 refine EA λm3 n3 em3 en3 G3 lt1 lt2 lt3 g2 g3 g5 hx3 hd3=>?_;repeat'(first|refine eu g2 ?_|refine eu g3 ?_|refine eu hx3 ?_|refine fD z ?_|refine sK NM ?_|refine gI (gK _) (wK ?_)|fail)
 refine EF λm4 em4 G4 g2 g3 g5=>?_;refine Nj ?_;generalize hb1:iT nm [102,117,110,99,46,102,117,110,99]=b1 at*;cases b1
 .conv=>whnf
  exact Th
 obtain rfl:=hin.resolve_left ei;refine Mz ?_;exact Th
def acH(C:iF P G)(g:FG P G K)(Sa:nh P G K){k:Ck}(ok:k.Ok P G K){p:S}(j:GI P G K p B)(n:K p=Y (.op d B l)):∃v,Lm P G Sa k p v:=by
 obtain⟨c,s,u,f,m,w,q,H,D,x,I,z,_⟩:=g.op n;obtain⟨y,b,o,i,r⟩:=ok.look (G:=G) c;cases b
 .obtain rfl:=r Z;exact acz C g Sa ok n z o
 obtain⟨a,F⟩:=i Z;by_cases t:iT c [102,117,110,99,46,102,117,110,99]=dU\/B=J
 .exact acG C g Sa ok j n z a o F t
 obtain⟨e,rfl⟩:∃e,B=Y e:=by
  cases B with
  |none=>exact absurd (.inr Z) t
  |some b=>exact⟨b,Z⟩
 have E:iT c [102,117,110,99,46,102,117,110,99]=dT:=by
  cases h:iT c [102,117,110,99,46,102,117,110,99]
  .exact absurd (.inl h) t
  rfl
 exact acF C g Sa n z a o E
def GM(P:Program)(G:ez)(Sa:nh P G K)(k:Ck)(p:S)(v:A):Prop:=DJ p v/\∀m nx,k.B K Sa.fv m nx->∃D,k.wX K Sa.fv m nx D/\eL P G 33 [.ea k.x 0,.fz p 0] ⟨m,nx⟩ λH t=>H=v/\t=D
def acI(C:iF P G)(g:FG P G K)(Sa:nh P G K){k:Ck}(ok:k.Ok P G K){p:S}(z:GI P G K p B)(n:K p=Y (.op d B l)):∃v,GM P G Sa k p v:=by
 obtain⟨v,a,h⟩:=acH C g Sa ok z n;refine⟨v,a,λm nx E=>?_⟩;obtain⟨r,H,⟨y,b⟩,s⟩:=h m nx E;obtain⟨rfl,rfl⟩|⟨q,e,rfl,rfl,hq,hle⟩:=y
 .exact⟨H,b,s⟩
 have f:∀p o,p.dV<nx.dV->T.dZ p H.ep=Y o->T.dZ p (H.ep.set q J)=Y o:=λp o hp c=>by rw[eJ M];exact c
 have t:Kp k.mp m (H.ep.set q J):=λp o c j=>f p o (E.eH p o j) (b.kp p o c j);refine⟨⟨H.ep.set q J,H.dX⟩,⟨t,E.kp t (λp o c=>?_) ?_,b.le⟩,s.wS (I:=λp=>p=q) (.iface _ _ _ (.ea q 0 _ _ Z hq Z λi _ _=>.ey _)) (λp o c=>?_) (fQ _)⟩
 .by_cases e:p=q
  .rw[e,fY]at c;cases c
  rw[T.gh _ _ _ _ e]at c;exact b.ju.eH _ _ c
 .let⟨w,u,c,j⟩:=b.ju.v
  let⟨_,_,_,x⟩:=E.v
  exact⟨w,u,c,f _ _ (E.eH _ _ x) j⟩
 by_cases e:p=q
 .subst e;simp only at c;rw[fY]at c;cases c
 simp only at c;rw[T.gh _ _ _ _ e]at c;exact⟨c,e⟩
def GN:A->L S
 |.eG _ _ cs _=>cs.filterMap λv=>match v with|.fz p _=>Y p| _=>J
 | _=>[]
def uj{s:L S}(h:fC (fu s) v):GN v=s:=by
 have e:∀l:L S,(fu l).filterMap (λv=>match v with|.fz p _=>Y p| _=>J)=l:=by
  intro l;induction l with
  |nil=>rfl
  |cons a l i=>simp only[fu,jL,List.filterMap_cons];exact fW _ i
 obtain⟨rfl,_,h⟩|⟨t,_,rfl,_⟩:=h
 .cases s with
  |nil=>rfl
  |cons a l=>simp[fu]at h
 exact e s
def wY(G:ez)(p:S):L S:=match G.fU p with
 |some [_,_,_,_,v,_,_]=>GN v
 | _=>[]
def qZ(G:ez)(p:S):L S:=match G.fU p with
 |some [_,v]=>GN v
 | _=>[]
def qt(G:ez)(p:S):L S:=match G.fU p with
 |some [_,_,v]=>GN v
 | _=>[]
def wl(G:ez):Nat->S->L S
 |0,_=>[]
 |n+1,p=>(wY G p).flatMap λr=>(qZ G r).flatMap λb=>(qt G b).flatMap λq=>q::wl G n q
def GO{Q:Type}{f:S->L Q}{k:Nat}(h:k<O l):(l.drop k).flatMap f=f l[k]++(l.drop (k+1)).flatMap f:=by rw[EI h,List.flatMap_cons]
def acJ(C:fP P G)(g:FG P G K){J:L S->eM->Prop}{E:eM->Prop}
  (z:∀q rest m nx,J (q::rest) ⟨m,nx⟩->jy P G true l [.fz q 0] ⟨m,nx⟩ λr D=>(r=.bool true/\J rest D)\/(r=.bool false/\E D)):
  ∀(n:Nat){p:S}{d:Nat}{B:Option S}{nb:Nat}{rest:L S}{m:T AO}{nx:S},K p=some (.op d B nb)->LB+1<=n+d->J (wl G n p++rest) ⟨m,nx⟩->
   fK P G true 97 [.fz p 0,.gF l] ⟨m,nx⟩ λr D=>(r=.bool true/\J rest D)\/(r=.bool false/\E D):=by
 have hLB:LB=1099511627776:=Z;refine gT λhM=>?_;intro n;induction n with
 |zero=>intro p d B nb rest m nx W hd _;obtain⟨_,_,_,_,_,_,_,_,_,_,_,_,_,_,_,_,_,_,_,_,_,_,_,_,_,_,_,_,_,_,l5⟩:=g.op W;omega
 |succ n ih=>
 intro p d B nb rest m nx W hd hJ;obtain⟨nm,vos,vrs,vas,F,vss,os,rs,s,as,ss,e0,q1,q2,q3,q4,q5,q6,q7,q8,q9,q10,q11,q12,q13,q14,l1,l2,l3,l4,l5⟩:=g.op W;have hwl:wl G (n+1) p=s.flatMap λr=>(qZ G r).flatMap λb=>(qt G b).flatMap λq=>q::wl G n q:=by simp only[wl,wY,e0,uj q9]
 rw[hwl]at hJ;refine fK.j7 (C.fs.h 97) (wK ?_);refine fD e0 ?_;refine fM q9 ?_;refine eT.jl (λj w v e=>∃k:Nat,k+j=O (fu s)/\J (((s.drop k).flatMap λr=>(qZ G r).flatMap λb=>(qt G b).flatMap λq=>q::wl G n q)++rest) ⟨v,e⟩/\w=[.gF l,F,V (O (fu s)),V k]) (O (fu s)) Z ⟨0,M,hJ,Z⟩ ?_;rintro j w v e ⟨k,hk,f,rfl⟩;conv=>whnf
 refine eW (λh=>?_) (λh=>?_)
 .replace h:=gz h;have h':k<O s:=by rw[iM]at h;exact h
  obtain⟨nb',hr⟩:=q10 _ (fB h');obtain⟨o,bo',nb2,I,H,f0,f1,U,f3,f4,f5,f6⟩:=g.fO hr;rw[GO h',np]at f;have hb:qZ G s[k]=H:=by simp only[qZ,f0,uj U]
  rw[hb]at f;generalize hR1:((s.drop (k+1)).flatMap λr=>(qZ G r).flatMap λb=>(qt G b).flatMap λq=>q::wl G n q)++rest=R1 at f;conv=>whnf
  refine gW q9 h ?_;refine Cf ?_;refine fD f0 ?_;refine fM U ?_;refine eT.jl (λj w v e=>∃a:Nat,a+j=O (fu H)/\J (((H.drop a).flatMap λb=>(qt G b).flatMap λq=>q::wl G n q)++R1) ⟨v,e⟩/\w=[.gF l,F,V (O (fu s)),V k,I,V (O (fu H)),V a]) (O (fu H)) Z ⟨0,M,f,Z⟩ ?_;rintro j2 w m2 n2 ⟨a,jp,i,rfl⟩;conv=>whnf
  refine eW (λh2=>?_) (λh2=>?_)
  .replace h2:=gz h2;have x:a<O H:=by rw[iM]at h2;exact h2
   have hbk:=f6 _ (fB x);obtain⟨gg,va,N,as2,R,b0,b1,b2,b3,Q,b5,b6,b7,b8⟩:=g.eC hbk;rw[GO x,np]at i;have ho:qt G H[a]=R:=by simp only[qt,b0,uj Q]
   rw[ho]at i;generalize hR2:((H.drop (a+1)).flatMap λb=>(qt G b).flatMap λq=>q::wl G n q)++R1=R2 at i;conv=>whnf
   refine gW U h2 ?_;refine sK (jO Z (mY x)) ?_;refine fD b0 ?_;refine fM Q ?_;refine eT.jl (λj w v e=>∃c:Nat,c+j=O (fu R)/\J (((R.drop c).flatMap λq=>q::wl G n q)++R2) ⟨v,e⟩/\w=[.gF l,F,V (O (fu s)),V k,I,V (O (fu H)),V a,N,V (O (fu R)),V c]) (O (fu R)) Z ⟨0,M,i,Z⟩ ?_;rintro j3 w m3 n3 ⟨c,xj,u,rfl⟩;conv=>whnf
   refine eW (λt=>?_) (λt=>?_)
   .replace t:=gz t;have y:c<O R:=by rw[iM]at t;exact t
    obtain⟨nb3,hq⟩:=b5 _ (fB y);rw[GO y,np,rW]at u;conv=>whnf
    refine gW Q t ?_;refine sK (jO Z (mY y)) ?_;refine jy.mono (z _ _ _ _ u) ?_;rintro r ⟨m4,n4⟩ (⟨rfl,hJ4⟩|⟨rfl,hE⟩)
    .conv=>whnf
     refine fK.mono (ih hq M hJ4) ?_;rintro r ⟨m5,n5⟩ (⟨rfl,hJ5⟩|⟨rfl,hE⟩)
     .conv=>whnf
      rw[je (by rw[iM]at t;omega)];exact⟨Z,j3 - 1,M,c+1,M,hJ5,Z⟩
     conv=>whnf
     exact .inr ⟨Z,hE⟩
    conv=>whnf
    exact .inr ⟨Z,hE⟩
   replace t:=iK t;conv=>whnf
   rw[je (by rw[iM]at h2;omega)];have:R.drop c=[]:=zC (by rw[iM]at t;omega);rw[this,<-hR2]at u;exact⟨Z,j2 - 1,M,a+1,M,u,Z⟩
  refine zO λh2=>?_;rw[je (by rw[iM]at h;omega)];have:H.drop a=[]:=zC (by rw[iM]at h2;omega);rw[this,<-hR1]at i;exact⟨Z,j - 1,M,k+1,M,i,Z⟩
 replace h:=iK h;have:s.drop k=[]:=zC (by rw[iM]at h;omega);rw[this]at f;conv=>whnf
 exact .inl ⟨Z,f⟩
def Ck.Lt(k:Ck)(n:S):Prop:=k.x.dV<n.dV/\k.xd.dV<n.dV/\k.xf.dV<n.dV/\k.xn.dV<n.dV/\k.xr.dV<n.dV/\k.mp.dV<n.dV
def Ck.B.lt{k:Ck}{a:S->A}{nx:S}(h:k.B K a m nx):k.Lt nx:=by
 let⟨_,_,_,b⟩:=h.v
 exact⟨h.eH _ _ h.dY,h.eH _ _ h.d,h.eH _ _ h.f,h.eH _ _ h.n,h.eH _ _ h.r,h.eH _ _ b⟩
def Ck.B.eV{k:Ck}{b:S->A}{m x:T AO}{i nx w:S}(h:k.B K b m nx)(u:k.Lt i)(a:∀q:S,q.dV<i.dV->x.dZ q=m.dZ q)(j:eX x w):k.B K b x w:=by
 let⟨H,c,e,g⟩:=h.v
 let⟨C,l,o,p,s,t⟩:=u
 exact⟨by rw[a _ C];exact h.dY,by rw[a _ l];exact h.d,by rw[a _ o];exact h.f,by rw[a _ p];exact h.n,by rw[a _ s];exact h.r,⟨H,c,e,by rw[a _ t];exact g⟩,j,h.ne⟩
def GQ:A->Bool
 |.jc=>dU
 | _=>dT
def ky(v:S->A)(t:L S):L A:=(t.map v).filter GQ
def fE(G:ez)(f:S):L S:=f::wl G (LB+1) f
def Q3{v:S->A}{q:S}{t:L S}(h:v q=.jc):ky v (q::t)=ky v t:=by simp[ky,h,GQ]
def Q4{v:S->A}{q:S}{t:TypeId}{x:A}(h:v q=.iface t x):ky v (q::a)=v q::ky v a:=by simp only[ky,jL,List.filter_cons,h,GQ,oH]
def wZ(i a:S)(m x:T AO):Prop:=∀(q:S) o,(q.dV<i.dV\/o=.eY)->q≠a->m.dZ q=Y o->x.dZ q=Y o
def wZ.of{i a:S}{m x:T AO}(h:∀q:S,q.dV<i.dV->x.dZ q=m.dZ q)(k:∀q,m.dZ q=Y .eY->x.dZ q=Y .eY):wZ i a m x:=λq o t _ f=>by
 obtain t|rfl:=t
 .rw[h q t];exact f
 exact k q f
def wZ.Bs{i b s:S}{m x:T AO}(h:∀q:S,q≠s->x.dZ q=m.dZ q)(t:i.dV<=s.dV)(w:m.dZ s=Y j)(a:j≠.eY):wZ i b m x:=
 .of (λq o=>h q λe=>by rw[e]at o;omega) λq f=>by rw[h q λe=>a (by rw[e,w]at f;exact gu f)];exact f
def wZ.kp{i a:S}{m x:T AO}(h:Kp a m x):wZ i a m x:=λq o _ K r=>h q o K r
structure GR (P:Program)(G:ez)(K:Gk)(fv:S→A)(k:Ck)(l n0:S)(Xa:S→Prop)(I:List A→T AO→S→Prop)(E:T AO→S→Prop):Prop where
 keep:∀r m nx m' nx',I r m nx→wZ n0 k.mp m m'→k.B K fv m' nx'→n0.dV≤nx'.dV→I r m' nx'
 Bt:∀m nx m' nx',E m nx→wZ n0 k.mp m m'→k.B K fv m' nx'→n0.dV≤nx'.dV→E m' nx'
 eV:∀q,Xa q→q.dV<n0.dV
 round:∀e r m nx,I (e::r) m nx→k.B K fv m nx→n0.dV≤nx.dV→jy P G true l [e] ⟨m,nx⟩ fun b H'=>((b=.bool true∧I r H'.ep H'.dX)∨(b=.bool false∧E H'.ep H'.dX))∧k.B K fv H'.ep H'.dX∧nx.dV≤H'.dX.dV∧∀q o,¬Xa q→o≠.eY→m.dZ q=some o→H'.ep.dZ q=some o
def JW(K:Gk)(W:S->Prop)(v:S->A)(c:S->A)(k:Ck)(b:L S)(I:L A->T AO->S->Prop)(i n7 e:S)(t:T AO)(a:L S)(H:eM):Prop:=
 (∀q∈a,W q)/\I (ky v (a++b)) H.ep H.dX/\k.B K c H.ep H.dX/\n7.dV<=H.dX.dV/\(∀(q:S) o,i.dV<=q.dV->q.dV<n7.dV->o≠.eY->t.dZ q=Y o->H.ep.dZ q=Y o)/\H.ep.dZ e=Y (.dY [.ea k.x 0])
def EW(K:Gk)(b:S->A)(k:Ck)(E:T AO->S->Prop)(i n5 n6 n7:S)(t:T AO)(F B:Code)(H:eM):Prop:=
 (∃d a c,H.ep.dZ n6=Y (.loop .done (Y (.exit 0)) d a c F B n5))/\E H.ep H.dX/\k.B K b H.ep H.dX/\n7.dV<=H.dX.dV/\(∀(q:S) o,i.dV<=q.dV->q.dV<n6.dV->o≠.eY->t.dZ q=Y o->H.ep.dZ q=Y o)
def Ln(C:fP P G)(g:FG P G K){Sa:nh P G K}{k:Ck}{v:S->A}{W:S->Prop}(hv:∀p,W p->GM P G Sa k p (v p)){l b b1 b2:S}{Xa:S->Prop}{I:L A->T AO->S->Prop}{E:T AO->S->Prop}(tk:GR P G K Sa.fv k l b Xa I E)
  {fs:L S}(hfs:fC (fu fs) vfs)(hop:∀f∈fs,∃nb,K f=some (.op 0 none nb))(hW:∀f∈fs,∀q∈fE G f,W q)(hlen:O fs<=eI){Q:A->eM->Prop}(at0:k.B K Sa.fv m b)(hI:I (ky v (fs.flatMap (fE G))) m b)(g1:m.dZ b1=some (.dY [vfs]))(g2:m.dZ b2=some (.dY [.ea k.x 0]))(hX2:¬Xa b2)(hXm:b2≠k.mp)
  (hend:∀m nx,I [] m nx->k.B K Sa.fv m nx->Q (.eK []) ⟨m,nx⟩)(hstop:∀m nx,E m nx->k.B K Sa.fv m nx->Q (.eK []) ⟨m,nx⟩):fK P G true 32 [.gF l,.ea b1 0,.ea b2 0] ⟨m,b⟩ Q:=by
 have hLB:LB=1099511627776:=Z;refine gT λhM=>?_;have s:=at0.lt;have l2:=at0.eH _ _ g2;refine fK.j7 (C.fs.h 32) (wK ?_);refine hX λm1 n1 em1 en1=>wK ?_;have t1:n1.dV=b.dV+1:=by rw[en1,S.gG]
 have s1:∀q:S,q.dV<b.dV->m1.dZ q=m.dZ q:=λq t=>by rw[em1,eJ M]
 have at1:k.B K Sa.fv m1 n1:=at0.eV s s1 (by rw[em1,en1];exact at0.eH.ew);have I1:=tk.keep _ _ _ m1 n1 hI (.of s1 λq t=>by rw[em1,eJ (by have:=at0.eH _ _ t;omega)];exact t) at1 M;have g3:=gE em1;have g1':m1.dZ b1=some (.dY [vfs]):=by rw[s1 _ (at0.eH _ _ g1)];exact g1
 have g2':m1.dZ b2=some (.dY [.ea k.x 0]):=by rw[s1 _ l2];exact g2
 refine eu g1' ?_;refine fM hfs ?_;refine eT.acL (λj vs D m2 n2=>∃i:Nat,i+j=O (fu fs)/\I (ky v ((fs.drop i).flatMap (fE G))) m2 n2/\k.B K Sa.fv m2 n2/\n1.dV<=n2.dV/\(∀d∈D,b.dV<=d.dV/\m2.dZ d=some .fX)/\D.Nodup/\m2.dZ b2=some (.dY [.ea k.x 0])/\m2.dZ b=some (.dY [.gF l])/\
  vs=[.ea b2 0,.ea b 0,vfs,V (O (fu fs)),V i]) (O (fu fs)) Z ⟨0,M,I1,at1,fQ _,(λd a=>by cases a),pE,g2',g3,Z⟩ ?_
 rintro j vs D m2 n2 ⟨i,hi,I2,at2,ln2,hD,hDn,H,h3,rfl⟩;conv=>whnf
 refine eW (λh=>?_) (λh=>?_)
 .replace h:=gz h;have h':i<O fs:=by rw[iM]at h;exact h
  obtain⟨nb,hK⟩:=hop _ (fB h');conv=>whnf
  refine gW hfs h ?_;refine Cf ?_;refine eu H ?_;obtain⟨hev,hec⟩:=hv _ (hW _ (fB h') _ (mw ..));obtain⟨H3,st3,hc3⟩:=hec m2 n2 at2;refine fK.one _ _ ?_ hc3
  let⟨m3,n3⟩:=H3
  have at3:k.B K Sa.fv m3 n3:=st3.ju;have kp3:Kp k.mp m2 m3:=st3.kp;have ln3:n2.dV<=n3.dV:=st3.le;have nmp:∀q:S,b.dV<=q.dV->q≠k.mp:=λq t e=>by have:=s.2.2.2.2.2;rw[e]at t;omega
  have I3:=tk.keep _ _ _ m3 n3 I2 (.kp kp3) at3 M;have h23:=kp3 _ _ hXm H;have h33:=kp3 _ _ (nmp b (fQ _)) h3;have hD3:∀d∈D,b.dV<=d.dV/\m3.dZ d=some .fX:=λd a=>⟨(hD d a).1,kp3 _ _ (nmp d (hD d a).1) (hD d a).2⟩
  rw[GO h']at I3;have nX:∀q:S,b.dV<=q.dV->¬Xa q:=λq t hx=>by have:=tk.eV q hx;omega
  obtain hn|⟨e,_,hn⟩:=hev
  .rw[hn];rw[fE,rW,Q3 hn]at I3;obtain⟨m4,em4⟩:∃m4,m4=m3:=⟨_,Z⟩;obtain⟨n4,en4⟩:∃n4,n4=n3:=⟨_,Z⟩;rw[<-em4,<-en4];rw[<-em4,<-en4]at at3 I3;rw[<-em4]at h23 h33 hD3;rw[<-en4]at ln3;have B:=at3;have I4:=I3;have h24:=h23;have h34:=h33;have hD4:=hD3;have ln4:n2.dV<=n4.dV:=ln3;exact Vd
  rw[fE,rW,Q4 hn,hn]at I3;rw[hn];conv=>whnf
  refine eu h33 ?_;refine jy.mono (tk.round _ _ _ _ I3 at3 M) ?_;rintro r ⟨m4,n4⟩ ⟨hb,B,ln4,ho4⟩;dsimp only at hb B ln4 ho4;have h24:=ho4 _ _ hX2 ei h23;have h34:=ho4 _ _ (nX b (fQ _)) ei h33;have hD4:∀d∈D,b.dV<=d.dV/\m4.dZ d=some .fX:=λd a=>⟨(hD3 d a).1,ho4 _ _ (nX d (hD3 d a).1) ei (hD3 d a).2⟩
  obtain⟨rfl,I4⟩|⟨rfl,hE⟩:=hb
  .exact Vd
  have DD:=hD4;have atE:=B;obtain⟨nE,enE⟩:∃nE,nE=n4:=⟨_,Z⟩;obtain⟨mE,emE⟩:∃mE,mE=m4:=⟨_,Z⟩;rw[<-enE,<-emE]at hE atE;rw[<-emE]at DD;rw[<-enE,<-emE];have lnE:b.dV<=nE.dV:=by rw[enE];omega
  conv=>whnf
  refine GP (λd a=>(DD d a).2) hDn λmz z hz2=>wK ?_;have sz:∀q:S,q.dV<b.dV->mz.dZ q=mE.dZ q:=λq t=>z q λa=>by have:=(DD q a).1;omega
  have F:k.B K Sa.fv mz nE:=atE.eV s sz λq o t=>by
   by_cases a:q∈D
   .rw[hz2 q a]at t;cases t
   rw[z q a]at t;exact atE.eH _ _ t
  exact UD
 refine uJ λh=>?_;refine GP (λd a=>(hD d a).2) hDn λmz z hz2=>wK ?_;have sz:∀q:S,q.dV<b.dV->mz.dZ q=m2.dZ q:=λq t=>z q λa=>by have:=(hD q a).1;omega
 have F:k.B K Sa.fv mz n2:=at2.eV s sz λq o t=>by
  by_cases a:q∈D
  .rw[hz2 q a]at t;cases t
  rw[z q a]at t;exact at2.eH _ _ t
 have:fs.drop i=[]:=zC (by rw[iM]at h;omega);rw[this]at I2;exact hend mz n2 (tk.keep _ _ _ mz n2 I2 (.of sz λq t=>by rw[z q λa=>by have:=(hD q a).2;rw[this]at t;cases t];exact t) F M) F
inductive oC (G:ez)(K:Gk):S→S→Prop
 |iw (p:S)(nb:Nat)(h:K p=some (.op 0 none nb)):oC G K p p
 |up (p b gg o f:S)(d nb:Nat)(c1 c2 c3:A)(h:K p=some (.op (d+1) (some b) nb))(hb:G.fU b=some [.fz gg 0,c1,c2])(hg:G.fU gg=some [.fz o 0,c3])(hr:oC G K o f):oC G K p f
def acM(C:fP P G)(g:FG P G K){p f:S}(n:K p=Y (.op d B l))(N:oC G K p f):ee P G 30 [.fz p 0] (.fz f 0):=by
 have:∃r,r=A.fz f 0/\ee P G 30 [.fz p 0] r:=by
  refine ee.fj (C.fs.h 30) C.dW kJ (wK ?_);refine eT.jz C.dW .h (λj w m=>∃q a e,K q=Y (.op j a e)/\oC G K q f/\w=[.fz q 0]/\m=hp []) d Z ⟨p,B,l,n,N,Z,Z⟩ Z ei Z ?_;rintro j w m ⟨q,a,e,t,v,rfl,rfl⟩;obtain⟨nm,vos,vrs,U,W,vss,os,rs,gs,as,ss,z,_⟩:=g.op t;cases v with
  |iw _ x h=>
   rw[t]at h;cases h;conv=>whnf
   repeat'(first|refine fD z ?_|refine fD k ?_|refine fD F ?_|fail)
   exact⟨_,.j qz,Z⟩
  |up _ b gg o _ y x c1 c2 c3 h k F I=>
  rw[t]at h;cases h;obtain⟨c,_⟩|⟨d2,b2,H,o2,i,D,k1,k2,k3,s,R,q3,E,q5,u,Q⟩:=g.pW t
  .cases c
  cases s;cases R;rw[k]at E;cases E;rw[F]at u;cases u;conv=>whnf
  repeat'(first|refine fD z ?_|refine fD k ?_|refine fD F ?_|fail)
  exact⟨Z,.iC [] _ ⟨y,M,o,i,D,Q,I,Z,Z⟩ ⟨.ey _ qz,eR⟩ eR⟩
 obtain⟨_,rfl,h⟩:=this;exact h
def acN(C:fP P G)(g:FG P G K){t:L S}(a:fC (fu t) v)(b:∀f∈t,∃l,K f=Y (.op 0 J l))(E:t.Nodup)(o:O t<=eI){i:Nat}(q:i<O t):ee P G 29 [v,.fz t[i] 0] (.int .i64 (.ofNat i)):=by
 refine gT λhM=>?_;obtain⟨_,p⟩:=b _ (fB q);have:∃r,r=V i/\ee P G 29 [v,.fz t[i] 0] r:=by
  refine ee.fj (C.fs.h 29) C.dW (jA (a.dW (fu.dW t)) qz) (wK ?_);refine fM a ?_;refine eT.jl (λj w m n=>∃k:Nat,k+j=O t/\k<=i/\w=[v,.fz t[i] 0,V (O (fu t)),V k]) (O t) Z ⟨0,M,M,Z⟩ ?_;rintro j w m n ⟨k,u,s,rfl⟩;conv=>whnf
  refine eW (λh=>?_) (λh=>?_)
  .replace h:=gz h;have h':k<O t:=by rw[iM]at h;exact h
   obtain⟨_,c⟩:=b _ (fB h');conv=>whnf
   refine gW a h ?_;refine Cf ?_;refine sK (AR Z Z (g.isSome p) (g.isSome c)) ?_;generalize d:decide (t[i]=t[k])=bd;cases bd
   .have e:i≠k:=λe=>by subst e;simp at d
    conv=>whnf
    refine iu ?_;exact⟨Z,j - 1,M,k+1,M,M,Z⟩
   have e:i=k:=(List.getElem_inj E).1 (j0 d);subst e;conv=>whnf
   exact⟨_,.j fI,Z⟩
  replace h:=iK h;rw[iM]at h;omega
 obtain⟨_,rfl,h⟩:=this;exact h
structure uk (P:Program)(G:ez):Prop where
 Lo:∀(m:T AO)(nx t p:S)(c:A)(e:Int),(G.fU p).isSome=true→m.dZ t=some (.dY [c])→eL P G 28 [.iface 106 (.fF [.fz p 0,.iface 122 (.int .i64 e)] 0),.iface 108 (.ea t 0)] ⟨m,nx⟩ fun r H=>r=.bool true∧H=⟨m.set t (some (.dY [.fF [.fz p 0,.iface 122 (.int .i64 e)] 0])),nx⟩
 Lp:∀(m:T AO)(nx t p:S)(c:A)(e:Int),(G.fU p).isSome=true→m.dZ t=some (.dY [c])→eL P G 28 [.iface 106 (.fF [.fz p 0,.iface 122 (.int .i64 e)] 0),.iface 123 (.ea t 0)] ⟨m,nx⟩ fun r H=>r=.bool true∧H=⟨m.set t (some (.dY [.int .i64 e])),nx⟩
def yW(p:S)(e:Int):A:=.iface 106 (.fF [.fz p 0,.iface 122 (.int .i64 e)] 0)
def acO(p:S)(e:Int):(yW p e).Pure:=FE (yu λv a=>by
 simp only[eZ,f7,fZ]at a;obtain rfl|rfl:=a
 .exact o9 _ _
 exact FE fI)
def Q5(C:fP P G)(F:uk P G){p:S}(hp:(G.fU p).isSome=dT)(e:Int):ee P G 19 [yW p e] (.int .i64 e):=by
 have:∃r,r=A.int .i64 e/\ee P G 19 [yW p e] r:=by
  refine ee.fj (C.fs.h 19) C.dW (it (acO p e)) (wK ?_);refine fK.one _ _ ?_ (F.Lp _ _ _ p _ e hp Z);conv=>whnf
  exact⟨_,.j fI,Z⟩
 obtain⟨_,rfl,h⟩:=this;exact h
def Q6(C:fP P G)(F:uk P G)(g:FG P G K){t:L S}(B:G.fU U=Y [u])(z:fC (fu t) u)(E:∀f∈t,∃l,K f=Y (.op 0 J l))(hn:t.Nodup)(k:O t<=eI)
  {p:S}(Q:K p=Y (.op d bo l)){i:Nat}(hi:i<O t)(ht:oC G K p t[i]){s:L A}(H:ee P G 31 [.fz p 0] a)(q:fC s a)(hix:mf s)(e:Int)
  {m:T AO}{nx x:S}(hx:m.dZ x=Y (.dY [.fz U 0,c1,c2,c3,c4,c5]))(j:eX m nx):
  ∃r D,(r=.agg [.int .i64 (.ofNat i),a,.int .i64 e]/\kF m nx D.ep D.dX)/\eL P G 16 [.ea x 0,yW p e] ⟨m,nx⟩ λr1 H1=>r1=r/\H1=D:=by
 have hp:=g.isSome Q;have f1:=acM C g Q ht;have f2:=acN C g z E hn k hi;have f3:=Q5 C F hp e;refine eL.fj (C.fs.h 16) (wK ?_);refine hX λm1 n1 o en1=>wK ?_;have W:=(kF.refl j).ew o en1;have k4:=gE o;refine Jd λt1=>?_;refine hX λm2 n2 b en2=>wK ?_;have G2:=W.ew b en2;refine IU λt2=>?_;have k5:=gE b;refine fK.one _ _ ?_ (F.Lo _ _ _ p _ e hp k5);obtain⟨y,R⟩:∃y,y=m2.set n1 (Y (.dY [.fF [.fz p 0,.iface 122 (.int .i64 e)] 0])):=⟨_,Z⟩;rw[<-R];have N:=G2.put M j M R;have g5:=gE R;have w:=gN R (gN b k4);have I:=N.old _ _ hx;conv=>whnf
 refine gC ?_;repeat'(first|refine eu I ?_|refine eu g5 ?_|refine fD B ?_|refine sK (jO Z Z) ?_|refine ee.c f1 ?_|refine ee.c f2 ?_|refine ee.c H ?_|refine ee.c f3 ?_|refine gI (gK _) (wK ?_)|fail)
 have hc:a.cells=[a]:=Sl.cells q;refine sK (Do (ps:=[(0,1,V i),(1,1,a),(2,1,.int .i64 e)]) (cs:=[V i,a,.int .i64 e]) Z (by simp only[qd,hc];rfl)) ?_;refine sK (ip (v:=.agg [V i,a,.int .i64 e]) Z Z w Z (by simp only[A.cells,fN,Sl.one q];rfl) Z) ?_;refine gH λm4 n=>wK ?_;have G4:=N.put (fQ _) j M n;have w:=gE n;repeat'(first|refine gI (gK _) (wK ?_)|fail)
 refine sK (Qo Z w Z) ?_;exact⟨Z,G4⟩
def Bu(P:Program)(G:ez)(K:Gk)(t:L S)(cell:A->L A)(e:A):Prop:=∃p z d B l,∃(i:Nat)(C:i<O t)(a:A)(s:L A),e=yW p z/\K p=Y (.op d B l)/\oC G K p t[i]/\ee P G 31 [.fz p 0] a/\fC s a/\mf s/\cell e=[.int .i64 (.ofNat i),a,.int .i64 z]
structure GS (G:ez)(K:Gk)(mo:S)(fs:List S):Prop where
 dY:∃vfs,G.fU mo=some [vfs]∧fC (fu fs) vfs
 op:∀f∈fs,∃nb,K f=some (.op 0 none nb)
 Bv:fs.Nodup
 len:fs.length≤eI
abbrev n6:=Q.e6.N
abbrev c6:=Q.e6.a
abbrev n9:=Q.e9.N
abbrev c9:=Q.e9.a
abbrev iX:=Q.e11.N
def acP:gx:=.fO [.o T10 (.iA (.t T30))]
def acQ:gx:=.block 1 (.fO [.o T31 (.load J (.t T9)),.o T32 (.iA (.t T10)),.o T33 (.rr (.t T31) [(.t T32)])])
def GT(k:Ck)(cell:A->L A)(a:L A)(l f c d e:S)(F B:Code)(i:L A)(m:T AO)(_ :S):Prop:=
 (∃done b t,a=done++i/\m.dZ c=Y (.dY [b])/\Ap m 3 b ((done.map cell).flatten) t/\∀q,t=Y q->q≠k.mp)/\m.dZ f=Y (.dY [.ea k.x 0])/\m.dZ d=Y (.dY [.func (.func 15) [] [.ea c 0,.ea f 0]])/\
  m.dZ l=Y (.loop .ready J n6 (gB [T9] [.ea d 0]) [30] F B e)/\m.dZ e=Y .fX
def acR(C:fP P G)(s9:uk P G)(g:FG P G K){fv:S->A}{k:Ck}(hF:GS G K mo fs)(hc0:k.c0=.fz mo 0){cell:A->L A}(Q:∀e∈j,Bu P G K fs cell e)(R:O j<=LB){l b6 b8 b9 dd n0:S}
  (has:gk P n6 as=Y acP.m)(hbo:gk P n6 bo=Y acQ.m)(h0:l.dV<n0.dV/\b6.dV<n0.dV/\b8.dV<n0.dV/\b9.dV<n0.dV/\dd.dV<n0.dV)(y:l≠k.mp/\b6≠k.mp/\b8≠k.mp/\b9≠k.mp/\dd≠k.mp)(hbx:b8≠k.x):
  GR P G K fv k l n0 (·=b8) (GT k cell j l b6 b8 b9 dd as bo) (λ_ _=>False)where
 keep:=by rintro r m nx m' nx' ⟨⟨done,F,t,B,s,D,W⟩,h4,h5,h6,h7⟩ eV E hle;refine⟨⟨done,F,t,B,eV _ _ (.inl h0.2.2.1) y.2.2.1 s,D.mono λq e=>eV _ _ (.inr Z) (W q e) (D.eY q e),W⟩,eV _ _ (.inl h0.2.1) y.2.1 h4,eV _ _ (.inl h0.2.2.2.1) y.2.2.2.1 h5,eV _ _ (.inl h0.1) y.1 h6,eV _ _ (.inl h0.2.2.2.2) y.2.2.2.2 h7⟩
 Bt:=λ_ _ _ _ h=>h.elim
 eV:=λq e=>by rw[e];exact h0.2.2.1
 round:=by
  rintro e r m nx ⟨⟨done,F,t,B,s,D,W⟩,h4,h5,h6,h7⟩ E hle;obtain⟨p,z,d,bop,nb,i,hi,pv,xs,rfl,hK,ht,f1,f2,f3,hcell⟩:=Q e (by rw[B];simp);refine MT ?_;refine gH λm4 em4=>?_
  let⟨vfs,hmo,hfs⟩:=hF.dY
  refine Nu λhln s4=>?_;have rl:∀q r,m.dZ q=Y (.dY r)->m4.dZ q=Y (.dY r):=λq r hq=>by rw[s4 q λe=>by rw[e,h6]at hq;cases hq];exact hq
  have k6:=rl _ _ h4;have k8:=rl _ _ s;have k9:=rl _ _ h5;have b4:eX m4 nx:=by rw[em4];exact E.eH.put hln
  have gl4:=gE em4;have hx4:=rl _ _ E.dY;rw[hc0]at hx4;have I:Ap m4 3 F ((done.map cell).flatten) t:=D.mono λq e=>by have:=D.eY q e;rw[s4 q λe'=>by rw[e',h6]at this;cases this];exact this
  obtain⟨_,⟨m5,n5⟩,⟨rfl,u⟩,hc⟩:=Q6 C s9 g hmo hfs hF.op hF.Bv hF.len hK hi ht f1 f2 f3 z hx4 b4;dsimp only at u;have k65:=u.old _ _ k6;have k85:=u.old _ _ k8;have N:Ap m5 3 F ((done.map cell).flatten) t:=I.mono λq e=>u.old _ _ (I.eY q e);have hcl:∀e∈j,O (cell e)=3:=λe he=>by obtain⟨_,_,_,_,_,_,_,_,_,_,_,_,_,_,_,h⟩:=Q e he;rw[h];rfl
  have hdl:O ((done.map cell).flatten)=O done*3:=by
   have:∀l:L A,(∀e∈l,e∈j)->O ((l.map cell).flatten)=O l*3:=by
    intro l;induction l with
    |nil=>intro _;rfl
    |cons a l ih=>intro h;rw[jL,nK,iN,hcl a (h a (by simp)),ih λe he=>h e (by simp[he]),lV];omega
   exact this done λe he=>by rw[B];simp[he]
  have hdn:O done<LB:=by rw[B]at R;simp at R;omega
  have hLB:LB=1099511627776:=Z;conv=>whnf
  refine eu k9 ?_;refine fK.j7 (C.fs.h 15) (wK ?_);refine gC ?_;repeat'(first|refine eu k6 ?_|refine eu k8 ?_|refine gI (gK _) (wK ?_)|fail)
  refine fK.one _ _ ?_ hc;conv=>whnf
  repeat'(first|refine eu k65 ?_|refine eu k85 ?_|refine gI (gK _) (wK ?_)|fail)
  have hone:fN [V i,pv,.int .i64 z]=dT:=by simp only[fN,Sl.one f2];rfl
  refine sK (nH (k:=O done) N hdl M Z Z hone Z nw) ?_;refine qW λm6 n6 H en6=>wK ?_;have l5:=u.le;refine zX λt6=>?_;have r6:∀q o,m5.dZ q=Y o->o≠.eY->m6.dZ q=Y o:=λq o hq ho=>by rw[H,jZ (by have:=u.eH _ _ hq;omega) (λe=>by have:=N.eY _ e;rw[hq]at this;exact ho (gu this))];exact hq
  have k86:=r6 _ _ k85 ei;have tk6:m6.dZ n5=Y .eY:=by rw[H];exact oQ
  have b6':eX m6 n6:=by rw[H,en6];exact u.eH.iW
  repeat'(first|refine gI (gK _) (wK ?_)|fail)
  refine mF k86 ?_;refine oV λm7 em7=>?_;have l8:=u.eH _ _ k85;have b7:eX m7 n6:=by rw[em7];exact b6'.put M
  have s7:∀q:S,q≠b8->m7.dZ q=m6.dZ q:=λq hq=>by rw[em7,T.gh _ _ _ _ hq]
  have U:=u.old _ _ gl4;have nb8:l≠b8:=λe=>by rw[e,s]at h6;cases h6
  have gl7:m7.dZ l= _:=(s7 l nb8).trans (r6 _ _ U ei);rw[gl7];refine gH λm8 w=>?_;have gl8:=gE w;have b:∀q o,q≠b8->o≠.eY->m.dZ q=Y o->m8.dZ q=Y o:=λq o B s hq=>by
   by_cases e:q=l
   .rw[e,h6]at hq;cases hq;rw[e];exact gl8
   rw[w,T.gh _ _ _ _ e,s7 q B];exact r6 _ _ (u.old _ _ (by rw[s4 q e];exact hq)) s
  have nm:∀q es c,m.dZ q=Y (.map es c)->q≠b8:=λq es c hq e=>by rw[e,s]at hq;cases hq
  let⟨es,ck,v1,v2⟩:=E.v
  have b8':eX m8 n6:=by rw[w];exact b7.put (by have:=b6' _ _ (r6 _ _ U ei);exact this)
  have t8:m8.dZ n5=Y .eY:=by rw[w,eJ (by have:=u.eH _ _ U;omega),em7,eJ M];exact tk6
  conv=>whnf
  refine⟨.inl ⟨Z,⟨done++[yW p z],.eG 3 (O done+1) ((done.map cell).flatten++[V i,pv,.int .i64 z]) (.open n5),Y n5,by rw[B,np];rfl,?_,?_,λq e=>?_⟩,b _ _ (λe=>?_) ei h4,b _ _ (λe=>?_) ei h5,gl8,b _ _ (λe=>by rw[e,s]at h7;cases h7) ei h7⟩,⟨b _ _ (mO hbx) ei E.dY,b _ _ (nm _ _ _ E.d) ei E.d,b _ _ (nm _ _ _ E.f) ei E.f,b _ _ (nm _ _ _ E.n) ei E.n,b _ _ (nm _ _ _ E.r) ei E.r,⟨es,ck,v1,b _ _ (nm _ _ _ v2) ei v2⟩,b8',E.ne⟩,(by show nx.dV<=n6.dV;omega),λq o B s hq=>b q o B s hq⟩
  .show m8.dZ b8= _;rw[w,T.gh _ _ _ _ (mO nb8),em7];exact fY
  .rw[oj,qE,jL,qH,nK,zW,oi,hcell];exact .eG _ _ _ t8 (by simp[hdl];omega)
  .cases e;intro e;have:=E.eH _ _ v2;rw[e]at l5;omega
  .rw[e,s]at h4;generalize(done.map cell).flatten=cs at D;cases D<;>simp at h4
  rw[e,s]at h5;generalize(done.map cell).flatten=cs at D;cases D<;>simp at h5
def acS:gx:=.fO [.o T8 (.iA (.t T28))]
def acT:gx:=match c9 with
 |.seq _ (.seq _ (.seq _ (.seq (.seq _ (.block _ (.rangeFunc _ _ _ _ b))) _)))=>b
 | _=>.skip
def GU(k:Ck)(a:L A)(l v b f c d:S)(F B:Code)(i:L A)(m:T AO)(_ :S):Prop:=
 i=a/\m.dZ v=Y (.dY [.int .i64 (.ofNat 0)])/\m.dZ b=Y (.dY [.ej])/\m.dZ f=Y (.dY [.int .i64 (.ofNat 0)])/\m.dZ c=Y (.dY [.ea k.x 0])/\
  m.dZ l=Y (.loop .ready J n9 (gB [T4,T5,T6,T7] [.ea v 0,.ea b 0,.ea f 0,.ea c 0]) [28] F B d)/\m.dZ d=Y .fX
def Lq(cell:A->L A)(d:L A)(l v i f g:S)(h B:Code)(m:T AO)(_ :S):Prop:=
 (∃e r a b c,d=e::r/\cell e=[a,b,c]/\m.dZ v=Y (.dY [a])/\m.dZ i=Y (.dY [b])/\m.dZ f=Y (.dY [c]))/\∃F,m.dZ l=Y (.loop .done (Y .ret) n9 F [28] h B g)/\m.dZ g=Y .fX
def acU(C:fP P G)(s9:uk P G){K:Gk}(g:FG P G K){fv:S->A}{k:Ck}{mo:S}{fs:L S}(hF:GS G K mo fs)(hc0:k.c0=.fz mo 0){cell:A->L A}{u:L A}(hfit:∀e∈u,Bu P G K fs cell e){l b4 b5 b6 b7 dd n0:S}{as bo:Code}
  (has:gk P n9 as=Y acS.m)(hbo:gk P n9 bo=Y acT.m)(h0:l.dV<n0.dV/\b4.dV<n0.dV/\b5.dV<n0.dV/\b6.dV<n0.dV/\b7.dV<n0.dV/\dd.dV<n0.dV)(y:l≠k.mp/\b4≠k.mp/\b5≠k.mp/\b6≠k.mp/\b7≠k.mp/\dd≠k.mp)(Q:b4≠k.x/\b5≠k.x/\b6≠k.x)
  (U:b4≠b5/\b4≠b6/\b5≠b6):
  GR P G K fv k l n0 (λq=>q=l\/q=b4\/q=b5\/q=b6) (GU k u l b4 b5 b6 b7 dd as bo) (Lq cell u l b4 b5 b6 dd as bo)where
 keep:=by rintro r m nx m' nx' ⟨B,D,H,I,h5,h6,s⟩ eV E hle;exact⟨B,eV _ _ (.inl h0.2.1) y.2.1 D,eV _ _ (.inl h0.2.2.1) y.2.2.1 H,eV _ _ (.inl h0.2.2.2.1) y.2.2.2.1 I,eV _ _ (.inl h0.2.2.2.2.1) y.2.2.2.2.1 h5,eV _ _ (.inl h0.1) y.1 h6,eV _ _ (.inl h0.2.2.2.2.2) y.2.2.2.2.2 s⟩
 Bt:=by rintro m nx m' nx' ⟨⟨e,r,a,b,c,B,D,H,I,h5⟩,F,h6,s⟩ eV E hle;exact⟨⟨e,r,a,b,c,B,D,eV _ _ (.inl h0.2.1) y.2.1 H,eV _ _ (.inl h0.2.2.1) y.2.2.1 I,eV _ _ (.inl h0.2.2.2.1) y.2.2.2.1 h5⟩,F,eV _ _ (.inl h0.1) y.1 h6,eV _ _ (.inl h0.2.2.2.2.2) y.2.2.2.2.2 s⟩
 eV:=λq e=>by obtain e|e|e|e:=e<;>(rw[e];first|exact h0.1|exact h0.2.1|exact h0.2.2.1|exact h0.2.2.2.1)
 round:=by
  rintro e r m nx ⟨B,D,H,I,h5,h6,s⟩ E hle;obtain⟨p,z,d,bop,nb,i,hi,pv,xs,rfl,hK,ht,f1,f2,f3,hcell⟩:=hfit e (by rw[<-B];simp);refine MT ?_;refine gH λm4 em4=>?_
  let⟨vfs,hmo,hfs⟩:=hF.dY
  refine Nu λhln s4=>?_;have rl:∀q r,m.dZ q=Y (.dY r)->m4.dZ q=Y (.dY r):=λq r hq=>by rw[s4 q λe=>by rw[e,h6]at hq;cases hq];exact hq
  have b4':eX m4 nx:=by rw[em4];exact E.eH.put hln
  have gl4:=gE em4;have hx4:=rl _ _ E.dY;rw[hc0]at hx4;obtain⟨_,⟨m5,n5⟩,⟨rfl,G5⟩,hc⟩:=Q6 C s9 g hmo hfs hF.op hF.Bv hF.len hK hi ht f1 f2 f3 z hx4 b4';dsimp only at G5;conv=>whnf
  refine eu (rl _ _ h5) ?_;refine fK.one _ _ ?_ hc;conv=>whnf
  refine hX λm6 n6 em6 en6=>wK ?_;have G6:=G5.ew em6 en6;refine zX λt6=>?_;have l5:=G5.le;have k9:=gE em6;refine sK (ip (v:=.agg [V i,pv,.int .i64 z]) Z Z k9 Z (by simp only[A.cells,fN,Sl.one f2];rfl) Z) ?_;refine oV λm7 em7=>?_;have G7:=G6.put M b4' M em7;have k9:=gE em7;refine gC ?_;repeat'(first|refine eu k9 ?_|refine gI (gK _) (wK ?_)|fail)
  have w:∀q r,m.dZ q=Y (.dY r)->m7.dZ q=Y (.dY r):=λq r hq=>G7.old _ _ (rl q r hq);have lt4:=h0.2.1;have lt5:=h0.2.2.1;have lt6:=h0.2.2.2.1;have c9:∀(q:S)(mm:T AO) o,q.dV<n0.dV->(mm.set q o).dZ n5=mm.dZ n5:=λq mm o hq=>eJ M;have R:pv.cells=[pv]:=Sl.cells f2;refine mF (w _ _ D) ?_;refine gH λm8 h=>wK ?_;have k98:=(fW (T.dZ n5) h).trans ((c9 _ _ _ lt4).trans k9);repeat'(first|refine eu k98 ?_|refine gI (gK _) (wK ?_)|fail)
  have g5:m8.dZ b5=Y (.dY [.ej]):=by rw[h,T.gh _ _ _ _ (mO U.1)];exact w _ _ H
  refine sK (ip (cs':=[pv]) Z Z g5 (by rw[R];rfl) (by rw[R];simp only[fN,Sl.one f2];rfl) (by rw[R];rfl)) ?_;refine gH λm9 j=>wK ?_;have k99:=(fW (T.dZ n5) j).trans ((c9 _ _ _ lt5).trans k98);repeat'(first|refine eu k99 ?_|refine gI (gK _) (wK ?_)|fail)
  have g6:m9.dZ b6=Y (.dY [V 0]):=by rw[j,T.gh _ _ _ _ (mO U.2.2),h,T.gh _ _ _ _ (mO U.2.1)];exact w _ _ I
  refine mF g6 ?_;refine gH λma t=>wK ?_;repeat'(first|refine gI (gK _) (wK ?_)|fail)
  have nl:l≠b4/\l≠b5/\l≠b6:=⟨λe=>(by rw[e,D]at h6;cases h6),λe=>(by rw[e,H]at h6;cases h6),λe=>(by rw[e,I]at h6;cases h6)⟩
  have sa:∀q:S,q≠b4->q≠b5->q≠b6->ma.dZ q=m7.dZ q:=λq q4 q5 q6=>by rw[t,T.gh _ _ _ _ q6,j,T.gh _ _ _ _ q5,h,T.gh _ _ _ _ q4]
  have gla:ma.dZ l= _:=(sa l nl.1 nl.2.1 nl.2.2).trans (G7.old _ _ gl4);rw[gla];refine gH λW N=>?_;have sz:∀q:S,q≠l->W.dZ q=ma.dZ q:=λq hq=>by rw[N,T.gh _ _ _ _ hq]
  have keep:∀q o,¬(q=l\/q=b4\/q=b5\/q=b6)->m.dZ q=Y o->W.dZ q=Y o:=λq o hq hm=>by have e1:q≠l:=λe=>hq (.inl e);rw[sz q e1,sa q (λe=>hq (.inr (.inl e))) (λe=>hq (.inr (.inr (.inl e)))) (λe=>hq (.inr (.inr (.inr e))))];exact G7.old _ _ (by rw[s4 q e1];exact hm)
  have nm:∀q es c,m.dZ q=Y (.map es c)->¬(q=l\/q=b4\/q=b5\/q=b6):=λq es c hq e=>by
   obtain e|e|e|e:=e<;>subst e
   .rw[h6]at hq;cases hq
   .rw[D]at hq;cases hq
   .rw[H]at hq;cases hq
   rw[I]at hq;cases hq
  let⟨es,ck,v1,v2⟩:=E.v
  have ba:eX ma n6:=by rw[t,j,h];exact((G7.eH.put M).put M).put M
  have bz:eX W n6:=by rw[N];exact ba.put M
  conv=>whnf
  refine⟨.inr ⟨Z,⟨_,r,V i,pv,.int .i64 z,B.symm,hcell,?_,?_,?_⟩,_,(fW (T.dZ l) N).trans fY,keep _ _ (λe=>by
   obtain e|e|e|e:=e
   .rw[e,h6]at s;cases s
   .rw[e,D]at s;cases s
   .rw[e,H]at s;cases s
   rw[e,I]at s;cases s) s⟩,⟨keep _ _ (λe=>?_) E.dY,keep _ _ (nm _ _ _ E.d) E.d,keep _ _ (nm _ _ _ E.f) E.f,keep _ _ (nm _ _ _ E.n) E.n,keep _ _ (nm _ _ _ E.r) E.r,⟨es,ck,v1,keep _ _ (nm _ _ _ v2) v2⟩,bz,E.ne⟩,(by show nx.dV<=n6.dV;omega),λq o B _ hq=>keep q o B hq⟩
  .show W.dZ b4= _;rw[sz _ (mO nl.1),t,T.gh _ _ _ _ U.2.1,j,T.gh _ _ _ _ U.1,h];exact fY
  .show W.dZ b5= _;rw[sz _ (mO nl.2.1),t,T.gh _ _ _ _ U.2.2,j];exact fY
  .show W.dZ b6= _;rw[sz _ (mO nl.2.2),t];exact fY
  obtain e|e|e|e:=e
  .rw[<-e,E.dY]at h6;cases h6
  .exact Q.1 e.symm
  .exact Q.2.1 e.symm
  exact Q.2.2 e.symm
def acV:gx:=.fO [.o T9 (.iA (.t T41))]
def acW:gx:=.block 1 (.seq (.fO [.o T42 (.iA (.t T9)),.o T43 (.call 19 [(.t T42)]),.n (.store 1 (.t T6) (.t T43))]) .ret)
def GV(a:L A)(l f b:S)(F B:Code)(i:L A)(m:T AO)(_ :S):Prop:=
 i=a/\m.dZ f=Y (.dY [.int .i64 (.ofNat 0)])/\m.dZ l=Y (.loop .ready J iX (gB [T6] [.ea f 0]) [41] F B b)/\m.dZ b=Y .fX
def Lr(cell:A->L A)(d:L A)(l f g:S)(h B:Code)(m:T AO)(_ :S):Prop:=
 (∃e r a b c,d=e::r/\cell e=[a,b,c]/\m.dZ f=Y (.dY [c]))/\∃F,m.dZ l=Y (.loop .done (Y .ret) iX F [41] h B g)/\m.dZ g=Y .fX
def acX(C:fP P G)(U:uk P G)(g:FG P G K){fv:S->A}{k:Ck}{cell:A->L A}{h:L A}(w:∀e∈h,Bu P G K fs cell e){l b6 dd n0:S}{R B:Code}
  (has:gk P iX R=Y acV.m)(hbo:gk P iX B=Y acW.m)(h0:l.dV<n0.dV/\b6.dV<n0.dV/\dd.dV<n0.dV)(y:l≠k.mp/\b6≠k.mp/\dd≠k.mp)(hbx:b6≠k.x):
  GR P G K fv k l n0 (λq=>q=l\/q=b6) (GV h l b6 dd R B) (Lr cell h l b6 dd R B)where
 keep:=by rintro r m nx m' nx' ⟨s,h2,h3,j⟩ eV E D;exact⟨s,eV _ _ (.inl h0.2.1) y.2.1 h2,eV _ _ (.inl h0.1) y.1 h3,eV _ _ (.inl h0.2.2) y.2.2 j⟩
 Bt:=by rintro m nx m' nx' ⟨⟨e,r,a,b,c,s,h2,h3⟩,F,h6,j⟩ eV E D;exact⟨⟨e,r,a,b,c,s,h2,eV _ _ (.inl h0.2.1) y.2.1 h3⟩,F,eV _ _ (.inl h0.1) y.1 h6,eV _ _ (.inl h0.2.2) y.2.2 j⟩
 eV:=λq e=>by obtain e|e:=e<;>(rw[e];first|exact h0.1|exact h0.2.1)
 round:=by
  rintro e r m nx ⟨s,N,h6,j⟩ E D;obtain⟨p,z,d,bop,nb,i,hi,pv,xs,rfl,hK,ht,f1,f2,f3,hcell⟩:=w e (by rw[<-s];simp);have fe:=Q5 C U (g.isSome hK) z;refine MT ?_;refine gH λm4 em4=>wK ?_;refine Nu λhln s4=>?_;have rl:∀q r,m.dZ q=Y (.dY r)->m4.dZ q=Y (.dY r):=λq r hq=>by rw[s4 q λe=>by rw[e,h6]at hq;cases hq];exact hq
  have W:=gE em4;refine ee.c fe ?_;refine mF (rl _ _ N) ?_;refine gH λma t=>wK ?_;have nl:l≠b6:=λe=>by rw[e,N]at h6;cases h6
  have sa:∀q:S,q≠b6->ma.dZ q=m4.dZ q:=λq q6=>by rw[t,T.gh _ _ _ _ q6]
  have gla:ma.dZ l= _:=(sa l nl).trans W;rw[gla];refine gH λQ u=>?_;have sz:∀q:S,q≠l->Q.dZ q=ma.dZ q:=λq hq=>by rw[u,T.gh _ _ _ _ hq]
  have keep:∀q o,¬(q=l\/q=b6)->m.dZ q=Y o->Q.dZ q=Y o:=λq o hq hm=>by have e1:q≠l:=λe=>hq (.inl e);rw[sz q e1,sa q (λe=>hq (.inr e)),s4 q e1];exact hm
  have I:∀q H c,m.dZ q=Y (.map H c)->¬(q=l\/q=b6):=λq H c hq e=>by
   obtain e|e:=e<;>subst e
   .rw[h6]at hq;cases hq
   rw[N]at hq;cases hq
  let⟨H,ck,v1,v2⟩:=E.v
  have bz:eX Q nx:=by rw[u,t,em4];exact((E.eH.put hln).put (by have:=h0.2.1;omega)).put hln
  conv=>whnf
  refine⟨.inr ⟨Z,⟨_,r,_,_,_,s.symm,hcell,?_⟩,_,(fW (T.dZ l) u).trans fY,keep _ _ (λe=>by
   obtain e|e:=e
   .rw[e,h6]at j;cases j
   rw[e,N]at j;cases j) j⟩,⟨keep _ _ (λe=>?_) E.dY,keep _ _ (I _ _ _ E.d) E.d,keep _ _ (I _ _ _ E.f) E.f,keep _ _ (I _ _ _ E.n) E.n,keep _ _ (I _ _ _ E.r) E.r,⟨H,ck,v1,keep _ _ (I _ _ _ v2) v2⟩,bz,E.ne⟩,(by show nx.dV<=nx.dV;omega),λq o s _ hq=>keep q o s hq⟩
  .show Q.dZ b6= _;rw[sz _ (mO nl),t];exact fY
  obtain e|e:=e
  .rw[<-e,E.dY]at h6;cases h6
  exact hbx e.symm
def iS(s:L (L (L A))):Nat:=(s.map O).sum
def Q7{s:L (L (L A))}{k:Nat}(h:k<O s):iS (s.take (k+1))=iS (s.take k)+s[k].length:=by rw[zR h,iS,oj,List.sum_append];simp[iS]
def Q8(s:L (L (L A)))(k:Nat):iS (s.take k)<=iS s:=by
 have:s.take k++s.drop k=s:=EL k s;have e:iS (s.take k++s.drop k)=iS (s.take k)+iS (s.drop k):=by simp only[iS,oj,List.sum_append]
 rw[this]at e;omega
def Q9{s:L (L (L A))}{k:Nat}(h:k<O s):(s.take (k+1)).flatten.flatten=(s.take k).flatten.flatten++s[k].flatten:=by rw[zR h,qE,qE];simp
def acY:∀{s:L (L (L A))},(∀x∈s,∀c∈x,O c=3)->O s.flatten.flatten=iS s*3:=by
 intro s;induction s with
 |nil=>intro _;rfl
 |cons x s i=>
 intro h;have e:∀l:L (L A),(∀c∈l,O c=3)->O l.flatten=O l*3:=by
  intro l;induction l with
  |nil=>intro _;rfl
  |cons c l i=>intro h;rw[nK,iN,i λc a=>h c (by simp[a]),h c (by simp),lV];omega
 have K:=i λx v=>h x xo;have r:=e x (h x ei);rw[nK,qE,iN,K,r];simp only[iS,jL,List.sum_cons];omega
def acZ(n:Nat):O (gV [A.J [],.ej,.ej] n)=n*3:=by
 induction n with
 |zero=>rfl
 |succ n i=>rw[gV,iN,i];simp;omega
def ac0(a b:Nat):gV [A.J [],.ej,.ej] a++gV [A.J [],.ej,.ej] b=gV [A.J [],.ej,.ej] (a+b):=by
 induction a with
 |zero=>simp[gV]
 |succ n i=>rw[Nat.succ_add,gV,gV,np,i]
def ac1(n:Nat):∀c∈gV [A.J [],.ej,.ej] n,c.Pure:=by
 induction n with
 |zero=>intro c K;cases K
 |succ n i=>
 intro c K;obtain h|h:=jf.1 K
 .simp only[eZ,f7,fZ]at h;obtain rfl|rfl|rfl:=h<;>simp[jX,kC]
 exact i c h
def ac2(C:fP P G){v:A}{vs:L A}{xs:L (L (L A))}(hv:fC vs v)(hl:O vs=O xs)(p:∀i (h:i<O vs)(f:i<O xs),fT 3 xs[i] vs[i]/\fN xs[i].flatten=dT)(l:∀x∈xs,∀c∈x.flatten,c.Pure)(h3:∀x∈xs,∀c∈x,O c=3)(ht:iS xs<=4*eI)(hz:iS xs≠0)(hn:O xs<=eI):
  ∃r D,(r=.eC .h 3 0 (iS xs) (iS xs) dU/\D=⟨hp [(.h,.dY xs.flatten.flatten)],.i .h⟩)/\eL P G 25 [v] ⟨.e,.h⟩ λr1 t=>r1=r/\t=D:=by
 refine gT λhM=>?_;have hvp:v.Pure:=Sl.dW hv λc K=>by obtain⟨i,hi,rfl⟩:=km K;exact Sl.dW (p i hi M).1.1 λc K=>l _ (fB M) c K
 have a:iS xs*64<=kr/\iS xs<=kr:=by simp only[kr];omega
 exact eL.fj (C.fs.h 25) (by
  refine xB ?_;refine eT.jz C.dW (.h) (λj b m=>∃k:Nat,k+j=O vs/\b=[v,V (iS (xs.take k)),v,V (O vs),V k]/\m=.e) (O vs) Z ⟨0,M,Z,Z⟩ Z ei Z ?_;rintro j b m ⟨k,hk,rfl,rfl⟩;conv=>whnf
  refine eW (λh=>?_) (λh=>?_)
  .replace h:=gz h;have f:k<O xs:=M
   obtain⟨o,_⟩:=p k h f;have d:=Q7 f;have R:=Q8 xs (k+1);conv=>whnf
   refine gW hv h ?_;refine sK (jO Z (v:=vs[k]) (by rw[kO];simp[part,h])) ?_;refine fM o.1 ?_;rw[je M,<-d];generalize hb2:lh (.ofNat (iS (xs.take (k+1)))) (.ofNat 0)=bb2;exact U8
  refine uJ λh=>?_;refine fK.j7 (C.fs.h 71) (wK ?_);have ek:xs.take k=xs:=oG M;rw[ek];have z:jN .i64 (0 - 0)=Int.ofNat 0:=Z;have s:jN .i64 (Int.ofNat (iS xs) - Int.ofNat 0)=Int.ofNat (iS xs):=qf M M;rw[z,s];have g:∀k n,∀c∈(xs.take k).flatten.flatten++gV [A.J [],.ej,.ej] n,c.Pure:=λk n c K=>by
   obtain h|h:=jf.1 K
   .obtain⟨x,B,E⟩:=lE.1 h;obtain⟨y,F,H⟩:=lE.1 B;exact l y (HV F) c (lE.2 ⟨x,H,E⟩)
   exact ac1 n c h
  have w:∀k,∀x∈xs.take k,∀c∈x,O c=3:=λk x p=>h3 x (HV p);by_cases h0:iS xs=0
  .exact absurd h0 hz
  generalize hb:lh (.ofNat 0) (.ofNat (iS xs))=bb;cases bb with
  |false=>exact absurd (iK hb) M
  |true=>
  conv=>whnf
  refine sK (Qr Z Z Z M Z (room a.1 a.2)) ?_;refine sK (Qs Z Z Z M) ?_;refine fM hv ?_;refine eT.jz C.dW (.i .h) (λj b m=>∃k:Nat,k+j=O vs/\b=[.eC .h 3 0 (iS (xs.take k)) (iS xs) dU,v,V (O vs),V k]/\m=hp [(.h,.dY ((xs.take k).flatten.flatten++gV [A.J [],.ej,.ej] (iS xs - iS (xs.take k))))]) (O vs) Z ⟨0,M,Z,Z⟩ Z ei Z ?_;rintro j b m ⟨k,hk,rfl,rfl⟩;conv=>whnf
  refine eW (λh2=>?_) (λh2=>?_)
  .replace h2:=gz h2;have f:k<O xs:=M
   obtain⟨o,ha⟩:=p k h2 f;have d:=Q7 f;have R:=Q8 xs (k+1);conv=>whnf
   refine gW hv h2 ?_;refine sK (jO Z (v:=vs[k]) (by rw[kO];simp[part,h2])) ?_;have N:(xs.take k).flatten.flatten++xs[k].flatten++gV [A.J [],.ej,.ej] (iS xs - iS (xs.take (k+1)))=(xs.take (k+1)).flatten.flatten++gV [A.J [],.ej,.ej] (iS xs - iS (xs.take (k+1))):=by rw[Q9 f]
   by_cases I:xs[k].length=0
   .have q:xs[k]=[]:=pG I;rw[q]at o;refine sK (KT Z (.inr ⟨_,_,_,_,Z⟩) Z o.1) ?_;refine iu ?_;have Q:iS (xs.take (k+1))=iS (xs.take k):=M
    have U:(xs.take (k+1)).flatten.flatten=(xs.take k).flatten.flatten:=by rw[Q9 f,q,zW,oi]
    exact⟨Z,.iC [(.h,.dY ((xs.take k).flatten.flatten++gV [A.J [],.ej,.ej] (iS xs - iS (xs.take k))))] [.eC .h 3 0 (iS (xs.take k)) (iS xs) dU,v,V (O vs),V (k+1)] ⟨j - 1,M,k+1,M,by rw[Q],by rw[Q,U]⟩ Ix ⟨⟨eV Z,fH Z (jB (g _ _))⟩,eR⟩⟩
   have W:(hp [(.h,.dY ((xs.take k).flatten.flatten++gV [A.J [],.ej,.ej] (iS xs - iS (xs.take k))))]:T AO).dZ .h=Y (.dY ((xs.take k).flatten.flatten++gV [A.J [],.ej,.ej] xs[k].length++gV [A.J [],.ej,.ej] (iS xs - iS (xs.take (k+1))))):=by show Y _ =Y _;rw[np,ac0,show xs[k].length+(iS xs - iS (xs.take (k+1)))=iS xs - iS (xs.take k) by omega]
   refine sK (Qq (old:=(xs.take k).flatten.flatten) (cs:=gV [A.J [],.ej,.ej] xs[k].length) (rest:=gV [A.J [],.ej,.ej] (iS xs - iS (xs.take (k+1)))) Z W (acY (w k)) (acZ _) Z o.1 ha M M) ?_;refine iu ?_;rw[N,<-d];exact⟨Z,.iC [(.h,.dY ((xs.take (k+1)).flatten.flatten++gV [A.J [],.ej,.ej] (iS xs - iS (xs.take (k+1)))))] _ ⟨j - 1,M,k+1,M,Z,Z⟩ Ix ⟨⟨eV Z,fH Z (jB (g _ _))⟩,eR⟩⟩
  refine zO λh2=>?_;have u:xs.take k=xs:=oG M;rw[u,BZ];rw[gV,oi];exact⟨Z,Z⟩)
def Ra{a:S->S}(h:∀i (h:i<O w),A.M a w[i]=w[i]):A.qp a w=w:=by rw[A7];refine Cv ei λi K r=>?_;rw[mM];exact h i r
def iY.GW(h:iY (λ_=>False) (λ_=>False) v)(a:S->S):v.M a=v:=by
 induction h with
 |eG o n w t j _ i=>
  simp only[A.M];rw[Ra i];cases t with
  |«open»p=>exact(j p Z).elim
  | _=>rfl
 | _=>simp_all[A.M,Ra]
def A.Pure.GW{v:A}(h:v.Pure)(a:S->S):v.M a=v:=iY.GW (h _ _) a
def ac3{a:S->S}{w:L A}(h:∀c∈w,c.Pure):w.map (A.M a)=w:=by refine Cv (by simp) λi K r=>?_;rw[mM];exact(h _ (fB r)).GW a
def yX:L (L Nat×L Nat×Nat):=[([102,117,110,99],[102,117,110,99],56),([102,117,110,99],[114,101,116,117,114,110],57),([99,102],[98,114],58),([99,102],[99,111,110,100],58),([99,102],[116,114,97,112],59),([97,114,105,116,104],[99,111,110,115,116],60),([97,114,105,116,104],[99,109,112],61),([97,114,105,116,104],[101,120,116,115],62),([97,114,105,116,104],[101,120,116,117],62),([97,114,105,116,104],[116,114,117,110,99],63),([97,114,105,116,104],[99,97,115,116],64),([109,101,109],[97,108,108,111,99],65),([97,114,114],[115,112,108,97,116],66),([115,99,102],[105,102],67),([115,99,102],[102,111,114],68),([115,99,102],[119,104,105,108,101],69),([115,99,102],[121,105,101,108,100],70),([115,99,102],[99,111,110,100],70)]
def yY:L (A×A):=yX.map λx=>(.J (x.1++46::x.2.1),.func (.func x.2.2) [] [])
def ac4(C:fP P G):∃r D,(∃H c,r=.map .h/\D=⟨hp [(.h,.map H c)],.o .h⟩/\H.map (λe=>(e.key,e.val))=yY)/\eL P G 24 [] ⟨.e,.h⟩ λa t=>a=r/\t=D:=by refine eL.fj (C.fs.h 24) (wK ?_);exact⟨_,_,Z,Z,Z⟩
def ac5(C:fP P G)(m:T AO)(n:S):∃H',(∃H c,H'.ep.dZ (up n .h)=Y (.map H c)/\H.map (λe=>(e.key,e.val))=yY/\(∀q:S,q.dV<n.dV->H'.ep.dZ q=m.dZ q)/\eX H'.ep H'.dX/\n.dV<=(up n .h).dV/\n.dV<=H'.dX.dV)/\eL P G 24 [] ⟨m,n⟩ λg t=>g=.map (up n .h)/\t=H':=by
 obtain⟨_,_,⟨H,c,rfl,rfl,he⟩,hf⟩:=ac4 (P:=P) (G:=G) C;obtain⟨H',hM⟩:=rN.ex m n ⟨hp [(.h,.map H c)],.o .h⟩;have b:eX H'.ep H'.dX:=λq o hq=>No;have d:=S.jD S.h;have f:yY.map (λx=>(A.M (up n) x.1,A.M (up n) x.2))=yY:=Z;refine⟨H',⟨H.map (gm.M (up n)),c,?_,?_,hM.old,b,by rw[kX];omega,by rw[hM.dX,kX];show n.dV<=n.dV+(S.o .h).dV - 1;have:=S.jD (S.o .h);omega⟩,eL.shift C.dW (λa h=>by cases h) hf hM⟩
 .rw[hM.ew .h (show(1:Nat)<2 by decide)];rfl
 rw[xU];have:H.map ((λe=>(e.key,e.val))∘gm.M (up n))=(H.map λe=>(e.key,e.val)).map λx=>(A.M (up n) x.1,A.M (up n) x.2):=by rw[xU];rfl
 rw[this,he,f]
def qu{F:T A}{H:eM}{x p:S}{n:Option Nat}(b:F.dZ x=Y (.ea p 0))(hp:H.ep.dZ p=Y (.dY w))(h:part 0 n w=Y v)(o:nU G F H l=Y a):nU G F H (.cell x n::l)=Y (v::a):=by
 have e:qL G H (.ea p 0)=Y (w,0):=by simp only[qL,li,hp,jb]
 simp only[nU,b,jm,e,o,jb,h]
def ac6(C:fP P G){F:L (L A)}(K:fT 6 F f)(n:iR (iI (iH P G)) F)(o:O F<=eI)(s:L Nat):∃x b,iI (iH P G) x/\∀(m:T AO)(nx p:S)(q:L Nat)(N B k l c6:A),m.dZ p=Y (.dY [.J q,N,B,f,k,l,c6])->eX m nx->
  ∃r D,(r=.eK [.agg x,.bool b]/\kF m nx D.ep D.dX)/\eL P G 79 [.ea p 0,.J s] ⟨m,nx⟩ λH t=>H=r/\t=D:=by
 obtain⟨_,⟨x,b,rfl,hx⟩,fa⟩:=Ql C K n o s;refine⟨x,b,hx,λm nx p q N B k l c6 hp j=>?_⟩;have d:=hx.Y;cases hx with
 |mk w kk nn tx vi vt U ts K n o E y I Q z R=>refine eL.fj (C.fs.h 79) (wK ?_);refine hX λm1 n1 e en1=>wK ?_;have i:=(kF.refl j).ew e en1;have W:=gE e;refine Jd λt1=>?_;refine eu (i.old _ _ hp) ?_;refine ee.c fa ?_;refine sK (ip (v:=.agg _) Z Z W Z d Z) ?_;refine gH λm2 g=>wK ?_;have u:=i.put (fQ _) j M g;have a:=gE g;refine sK (qu Z a Z Z) ?_;exact⟨Z,u⟩
def ac7(C:fP P G){F:L (L A)}(K:fT 6 F f)(o:iR (iI (iH P G)) F)(q:O F<=eI):∃s:L Nat,∀(m:T AO)(nx p:S)(l:L Nat)(N B i k c6:A),m.dZ p=Y (.dY [.J l,N,B,f,i,k,c6])->eX m nx->
  ∃r D,(r=.J s/\kF m nx D.ep D.dX)/\eL P G 27 [.ea p 0] ⟨m,nx⟩ λH t=>H=r/\t=D:=by
 obtain⟨x,b,u,y⟩:=ac6 C K o q [110,97,109,101];have d:=u.Y;cases u with
 |mk Q z nn I vi vt is ts K o q E U W h7 h8 h9=>
 refine⟨cond (gD z (.ofNat 2)) I [],λm nx p l N B i k c6 hp j=>?_⟩;obtain⟨_,⟨m1,n1⟩,⟨rfl,g⟩,hc⟩:=y m nx p l N B i k c6 hp j;dsimp only at g;refine eL.fj (C.fs.h 27) (wK ?_);refine fK.one _ _ ?_ hc;conv=>whnf
 refine hX λm2 n2 e en2=>wK ?_;have w:=g.ew e en2;refine IU λt2=>?_;have a:=gE e;refine sK (ip (v:=.agg _) Z Z a Z d Z) ?_;refine gH λm3 R=>wK ?_;have n:=w.put g.le j M R;have c:=gE R;refine eu c ?_;refine eW (λh=>?_) (λh=>?_)
 .rw[h];conv=>whnf
  refine eu c ?_;exact⟨Z,n⟩
 rw[h];conv=>whnf
 exact⟨Z,n⟩
def ac8:∀{l:L A}{c:A},fN l=dT->c∈l->mT c=dT:=by
 intro l c;induction l with
 |nil=>intro _ h;cases h
 |cons a l i=>
 intro h K;rw[fN]at h;cases ha:mT a
 .rw[ha]at h;cases h
 rw[ha]at h;obtain e|e:=eZ.1 K
 .rw[e];exact ha
 exact i h e
def ac9(C:fP P G){u s:A}(K:fT 3 b u)(p:fT 3 xs s)(I:∀x∈b,∀c∈x,c.Pure)(N:∀x∈xs,∀c∈x,c.Pure)(oc:∀x∈b,fN x=dT)(ox:∀x∈xs,fN x=dT)(lc:O b<=10)(lx:O xs<=eI)(U:b≠[]){nx:S}(hb:eX m nx):
  ∃q H',(H'.ep.dZ q=Y (.dY (b++xs).flatten)/\nx.dV<=q.dV/\kF m nx H'.ep H'.dX)/\eL P G 25 [.eG 1 2 [u,s] .fE] ⟨m,nx⟩ λr1 t=>r1=.eC q 3 0 (O b+O xs) (O b+O xs) dU/\t=H':=by
 refine gT λhM=>?_;have d:∀l:L (L A),(∀x∈l,fN x=dT)->fN l.flatten=dT:=by intro l hl;refine Dj λc K=>?_;obtain⟨x,g,k⟩:=lE.1 K;exact ac8 (hl x g) k
 have B:∀x∈[b,xs],∀c∈x.flatten,c.Pure:=by
  intro x p c K;obtain⟨y,g,k⟩:=lE.1 K;simp only[eZ,f7,fZ]at p;obtain rfl|rfl:=p
  .exact I y g c k
  exact N y g c k
 have j:iS [b,xs]=O b+O xs:=by simp[iS]
 have hcl:0<O b:=by cases b with|nil=>exact absurd Z U|cons a l=>simp
 obtain⟨r,Q,hr,hf⟩:=ac2 C (v:=.eG 1 2 [u,s] .fE) (vs:=[u,s]) (xs:=[b,xs]) BV Z (λi h R=>by
  match i,h,R with
  |0,_,_=>exact⟨K,d _ oc⟩
  |1,_,_=>exact⟨p,d _ ox⟩
  |i+2,h,_=>simp at h;omega) B (λx D c f=>by
   simp only[eZ,f7,fZ]at D;obtain e|e:=D
   .rw[e]at f;exact K.2 c f
   rw[e]at f;exact p.2 c f) (by rw[j];omega) (by rw[j];omega) lW
 obtain⟨H',hM⟩:=rN.ex m nx Q;have w:eX H'.ep H'.dX:=λq o hq=>No;obtain⟨rfl,rfl⟩:=hr;have hp1:=S.jD S.h;have F:(S.i S.h).dV=3:=Z;have H:(A.eG 1 2 [u,s] .fE).Pure:=by
  refine Sl.dW (sz:=1) (n:=2) (cs:=[u,s]) BV λc h=>?_;simp only[eZ,f7,fZ]at h;obtain rfl|rfl:=h
  .exact K.dW I
  exact p.dW N
 refine⟨up nx .h,H',⟨?_,by rw[kX];omega,⟨λq o hq=>by rw[hM.old q (hb q o hq)];exact hq,w,by rw[hM.dX,kX,F];omega⟩⟩,?_⟩
 .rw[hM.ew .h (show(1:Nat)<3 by decide)];show Y (AO.dY ((([b,xs].flatten).flatten).map (A.M (up nx))))= _;rw[ac3]
  .simp
  intro c K;obtain⟨y,g,k⟩:=lE.1 K;obtain⟨z,W,E⟩:=lE.1 g;exact B z W c (lE.2 ⟨y,E,k⟩)
 have:=eL.shift C.dW (it H) hf hM;rw[j]at this;exact this
def ada{F:T A}{x y:IX}{o n:Nat}(hx:x.ev G F=Y a)(hy:y.ev G F=Y v)(ha:a.cells=[a])(hv:Sl o n w v):fA G dU F H (.lit 1 2 [.ej] [(0,1,x),(1,1,y)])=Y (.val (.eG 1 2 [a,v] .fE)):=Uv
def adb{o:Nat}{s:L (L A)}(h:∀x∈s,O x=o)(e:j<O s):part (j*o) (Y o) s.flatten=Y (.agg s[j]):=by simp[part,Pr h e]
def adc{dY:Bool}{F:T A}{x:IX}(h:PL a v)(b:x.ev G F=Y v):fA G dY F H (.bi .nO [x])=Y (.val (.int .i64 (.ofNat (O a)))):=by obtain⟨rfl,rfl⟩|⟨t,rfl⟩:=h<;>simp[fA,fG,ko,b,iU]
def Rb{t:L S}(h:j<O t):(gp t)[j*1]? =Y (.ea t[j] 0):=by rw[kO,gp,pz,jq h];rfl
def yZ(s:L Nat):Prop:=∀c∈s,c≠46
def Rc(a:L (L A))(b:L Nat)(y:L A):Prop:=(∃x∈a,∃Q c l,x=[.J b,Q,c]/\fT 7 l c/\y∈l)\/∀x∈a,x[0]? ≠Y (.J b)
def DL(a:L (L A))(d:L gm):Prop:=∀e∈d,∃b c y,e.key=.J (b++46::c)/\yZ b/\yZ c/\e.val=.agg y/\j9 DAny y/\y[0]? =Y (.J c)/\Rc a b y
def DL.oT(h:DL a b):∀e∈b,mg G .J .i64 e.key:=λe F=>by obtain⟨c,d,_,K,_⟩:=h e F;rw[K];exact .J _ _
def GX(t:L S)(a:L gm):Prop:=∀e∈a,(∃s:L Nat,e.key=.J s)/\∃p∈t,e.val=.ea p 0
def GX.oT{t:L S}(h:GX t a):∀e∈a,mg G .J .i64 e.key:=λe he=>Mm
structure Re (P:Program)(G:ez)(core:List (List A))(nf:Nat)(K:Gk)(ps:List S)(pm x xd xf xn xr mp:S)(vf:A)(ed ef en er:List gm)(cd cf cn cr cm:Nat)(m:T AO)(nx:S):Prop where
 eH:eX m nx
 kE:jo P G K m
 dY:m.dZ x=some (.dY [.ea pm 0,.map xd,.map xf,.map xn,.func (.func 23) [.map mp] [],.map xr])
 DM:m.dZ pm=some (.dY [vf])
 sW:PL ps vf
 len:ps.length=nf
 Bv:ps.Nodup
 ops:∀p∈ps,K p=some (.op 0 none 0)∧yK m p 1
 Rf:K pm=none∧K x=none
 d:m.dZ xd=some (.map ed cd)
 f:m.dZ xf=some (.map ef cf)
 n:m.dZ xn=some (.map en cn)
 r:m.dZ xr=some (.map er cr)
 v:m.dZ mp=some (.map [] cm)
 ne:xd≠mp∧xf≠mp∧xn≠mp∧xr≠mp
 y9:DL core ed
 Bw:wV ef
 Rg:GX ps en
 Rh:er.map (fun e=>(e.key,e.val))=yY
 nd:[x,xd,xf,xn,xr,mp].Nodup
 sV:∃L:List S,L.length≤nf*eI∧∀q d bo nb,K q=some (.op d bo nb)→q∈L
def ade(C:iF P G){g:L (L A)}(hc:Df P G vc g)(hc0:g≠[])(hht:ht<=LB)(hm:vI lu ht (.agg [v]) fs)(hco:∀x∈fs,∃c0,c0<=eI/\OpC ht x c0)(hl:fT 3 xs lv)(hx:iR (lO DAny sL) xs)(hxl:O xs<=eI)(hb0:eX m0 n0):
  ∃r H',((∃e:Int,e≠0/\r=.eK [.gi,.int .i64 e])\/∃K ps pm x xd xf xn xr mp vf ed ef en er cd cf cn cr cm,r=.eK [.ea x 0,.int .i64 (.ofNat 0)]/\Re P G g (O fs) K ps pm x xd xf xn xr mp vf ed ef en er cd cf cn cr cm H'.ep H'.dX)/\
   eL P G 14 [.agg [v],lv] ⟨m0,n0⟩ λr1 H1=>r1=r/\H1=H':=by
 refine gT λhM=>?_;have hLB:LB=1099511627776:=Z;have C3:=C.topT;obtain⟨_,⟨e1,rfl,he1⟩,f20⟩:=aac C hc hl hx hxl;obtain⟨_,⟨e2,rfl,he2⟩,f21⟩:=ZN C3 hm;have hv:fT 6 fs v:=by cases hm;assumption
 have hfl:O fs<=eI:=by cases hm;assumption
 refine eL.fj (C.fs.h 14) (wK ?_);refine hX λm1 n1 em1 en1=>wK ?_;refine ee.c f20 ?_;refine eW (λw=>?_) (λw=>?_)
 .conv=>whnf
  exact .inl ⟨e1,λe=>by rw[e]at w;simp[gD]at w,Z⟩
 have e10:e1=0:=by
  have:gD e1 (.ofNat 0)=dT:=by simpa using w
  exact oP.1 this
 have hb1:eX m1 n1:=by rw[em1,en1];exact hb0.ew
 have k1:=gE em1;conv=>whnf
 refine eu k1 ?_;refine ee.c f21 ?_;refine eW (λf=>?_) (λf=>?_)
 .conv=>whnf
  exact .inl ⟨e2,λe=>by rw[e]at f;simp[gD]at f,Z⟩
 have e20:e2=0:=by
  have:gD e2 (.ofNat 0)=dT:=by simpa using f
  exact oP.1 this
 conv=>whnf
 refine eu k1 ?_;have hfs:=he2 e20;obtain⟨_,⟨m2,n2⟩,⟨pm,K,vf,ps,rfl,hmod,hps,hpl,hpn,b2,hn2,R,_,_,hkpm,hops,fr2,La,hL1,hL2⟩,hc22⟩:=aaI C3 hht hv hfl (λx hx=>by obtain⟨n,w,f⟩:=hfs x hx;obtain⟨c0,m,h4⟩:=hco x hx;exact⟨n,c0,w,m,f,h4⟩) (K:=λ_=>J) hb1 (λp k h=>by cases h)
 refine fK.one _ _ ?_ hc22;dsimp only at hmod b2 hn2 R hops fr2;conv=>whnf
 refine hX λm3 n3 em3 en3=>wK ?_;refine hX λm4 n4 em4 en4=>wK ?_;refine hX λm5 n5 F en5=>wK ?_;refine hX λm6 n6 H en6=>?_;have t3:n3.dV=n2.dV+1:=by rw[en3,S.gG]
 have t4:n4.dV=n3.dV+1:=by rw[en4,S.gG]
 have t5:n5.dV=n4.dV+1:=by rw[en5,S.gG]
 refine zX λt6=>?_;have G6:kF m2 n2 m6 n6:=((((kF.refl b2).ew em3 en3).ew em4 en4).ew F en5).ew H en6;obtain⟨H7,⟨er,cr,gr,hker,s7,b7,l7,l7'⟩,hc24⟩:=ac5 C.tofP m6 n6
 let⟨m7,n7⟩:=H7
 obtain⟨xr,exr⟩:∃xr,xr=up n6 .h:=⟨_,Z⟩;rw[<-exr]at gr l7 hc24;dsimp only at gr s7 b7 l7';conv=>whnf
 refine fK.one _ _ ?_ hc24;conv=>whnf
 refine hX λm8 n8 em8 en8=>wK ?_;have t8:n8.dV=n7.dV+1:=by rw[en8,S.gG]
 have G7:kF m2 n2 m7 n7:=G6.trans ⟨λq o hq=>by rw[s7 q (G6.eH q o hq)];exact hq,b7,l7'⟩;have G8:=G7.ew em8 en8;have s8:∀q:S,q.dV<n6.dV->m8.dZ q=m6.dZ q:=λq hq=>by rw[em8,eJ M];exact s7 q hq
 have gx8:=gE em8;have gd8:m8.dZ n2=Y (.map [] 0):=by rw[s8 _ M,H,eJ M,F,eJ M,em4,eJ M,em3];exact fY
 have gf8:m8.dZ n3=Y (.map [] 0):=by rw[s8 _ M,H,eJ M,F,eJ M,em4];exact fY
 have gn8:m8.dZ n4=Y (.map [] 0):=by rw[s8 _ M,H,eJ M,F];exact fY
 have gm8:m8.dZ n5=Y (.map [] 0):=by rw[s8 _ M,H];exact fY
 have lxr:=b7 _ _ gr;have gr8:=gN em8 gr;refine ee.c hc.run ?_;refine sK (ada Z Z (Sl.cells hc.sl.1) hl.1) ?_;have pu:∀x∈xs,∀c∈x,c.Pure:=λx h=>(hx x h).dW;obtain⟨q,⟨m9,n9⟩,⟨gq,lq,z⟩,hc25⟩:=ac9 C.tofP hc.sl hl (λx h=>(hc.all x h).dW) pu (λx h=>(hc.all x h).Y) (λx h=>(hx x h).Y) hc.Dh hxl hc0 G8.eH;dsimp only at gq z;refine fK.one _ _ ?_ hc25;have G9:=G8.trans z;obtain⟨N,eN⟩:∃N,N=O g+O xs:=⟨_,Z⟩;rw[<-eN];have hN:N<=eI+10:=by have:=hc.Dh;omega
 obtain⟨D,eD⟩:∃D,D=g++xs:=⟨_,Z⟩;rw[<-eD]at gq;have hDl:O D=N:=by rw[eD,iN,eN]
 have hD:∀x∈D,lO (sO P G) (λnm _ _=>yZ nm/\(x∈g\/∀y∈g,y[0]? ≠Y (.J nm))) x:=by
  intro x hxD;rw[eD]at hxD;obtain h|h:=jf.1 hxD
  .exact(hc.all x h).yH (λ_ _ _ _ _ _ _ h=>h) λnm _ _ hn=>⟨hn,.inl h⟩
  exact((he1 e10).1 x h).yH (λ_ _ _ _ _ _ _ h=>h) λnm _ _ hn=>⟨hn.1,.inr hn.2⟩
 have hD3:∀x∈D,O x=3:=λx h=>by cases hD x h;rfl
 have kq9:=gq;have lt9:n2.dV<n9.dV/\n3.dV<n9.dV/\n4.dV<n9.dV/\n7.dV<n9.dV:=by have w:=z.le;omega
 conv=>whnf
 refine eT.jl (λj vs m' n'=>∃(i:Nat)(ed ef:L gm)(cd cf:Nat),i+j=N/\eX m' n'/\n9.dV<=n'.dV/\(∀(a:S) o,a≠n2->a≠n3->m9.dZ a=Y o->m'.dZ a=Y o)/\m'.dZ n2=Y (.map ed cd)/\m'.dZ n3=Y (.map ef cf)/\DL g ed/\wV ef/\
  vs=[.ea n7 0,.eC q 3 0 N N dU,V N,V i]) N Z ⟨0,[],[],0,0,M,G9.eH,fQ _,λ_ _ _ _ h=>h,z.old _ _ gd8,z.old _ _ gf8,Je,Je,Z⟩ ?_
 rintro j vs m1 n1 ⟨i,ed,ef,cd,cf,hi,bel1,ln1,u,gd1,gf1,y9,Bw,rfl⟩;have nq:q≠n2/\q≠n3:=⟨λe=>by rw[e]at lq;omega,λe=>by rw[e]at lq;omega⟩
 have gq1:=u _ _ nq.1 nq.2 gq;conv=>whnf
 refine eW (λh=>?_) (λh=>?_)
 .replace h:=gz h;have h':i<O D:=M
  conv=>whnf
  have hDi:=hD _ (fB h');have hpart:oy (0+i*3) (Y 3) D.flatten=Y (.agg D[i]):=by rw[nG,lg];exact adb hD3 h'
  refine sK (nW Z Z Z h) ?_;refine sK (lB Z gq1 hpart) ?_;have I:∀vt vd ds nm,D[i]=[.J nm,vt,vd]->fT 7 ds vd->(D[i]∈g\/∀y∈g,y[0]? ≠Y (.J nm))->∀y∈ds,Rc g nm y:=λvt vd ds nm e1 e2 e3 y hy=>by
   obtain e3|e3:=e3
   .exact .inl ⟨_,e3,vt,vd,ds,e1,e2,hy⟩
   exact .inr e3
  generalize D[i]=x at hDi I;have xones:=hDi.Y;cases hDi with
  |mk dn vt vd tys ds u1 u2 u3 u4 u5 u6 u7 u8=>
  have I:=I vt vd ds dn Z u5 u8.2;conv=>whnf
  refine hX λm2 n2' em2 en2=>wK ?_;have t2:n2'.dV=n1.dV+1:=by rw[en2,S.gG]
  have k2:=gE em2;refine sK (ip (v:=.agg _) Z Z k2 Z xones Z) ?_;refine gH λm3 em3=>wK ?_;have k3:=gE em3;have s3:∀a:S,a.dV<n1.dV->m3.dZ a=m1.dZ a:=λa ha=>by rw[em3,eJ M,em2,eJ M]
  have BA:eX m3 n2':=by rw[em3,em2,en2];exact(bel1.ew).put kP
  refine eu k3 ?_;refine fM u5.1 ?_;refine eT.jl (λj vs m' n'=>∃(i2:Nat)(ed:L gm)(cd:Nat),i2+j=O ds/\eX m' n'/\n2'.dV<=n'.dV/\(∀(a:S) o,a≠n2->m3.dZ a=Y o->m'.dZ a=Y o)/\m'.dZ n2=Y (.map ed cd)/\DL g ed/\
   vs=[.ea n7 0,.ea n1 0,.eC q 3 0 N N dU,V N,V i,vd,V (O ds),V i2]) (O ds) Z ⟨0,ed,cd,M,BA,fQ _,λ_ _ _ h=>h,by rw[s3 _ M];exact gd1,y9,Z⟩ ?_
  rintro j2 vs m4 n4' ⟨i2,ed2,cd2,hi2,bel4,ln4,B,gd4,edOk2,rfl⟩;conv=>whnf
  refine eW (λf=>?_) (λf=>?_)
  .replace f:=gz f;conv=>whnf
   refine gW u5.1 f ?_;refine sK (lN Z u5.2 f) ?_;have hyd:=u6 _ (fB f);have hyf:=I _ (fB f);generalize ds[i2]=y at hyd hyf;have yones:=hyd.Y;have hyany:j9 DAny y:=hyd.yH λ_ _ _ _ _ _ _ _=>trivial;cases hyd with
   |mk on vi vo va zr zs vt2 is os as ts d1 d2 d3 d4 d5 d6 d7 d8 d9 d10 d11 d12 d13 d14=>
   conv=>whnf
   refine hX λm5 U F en5=>wK ?_;have t5':U.dV=n4'.dV+1:=by rw[en5,S.gG]
   have k5:=gE F;refine sK (ip (v:=.agg _) Z Z k5 Z yones Z) ?_;refine gH λm6 H=>?_;have s6:∀a:S,a.dV<n4'.dV->m6.dZ a=m4.dZ a:=λa ha=>by rw[H,eJ M,F,eJ M]
   have k6:=gE H;have hx6:m6.dZ n7= _:=(s6 n7 M).trans (B _ _ mi ((s3 n7 M).trans (u _ _ mi mi (z.old _ _ gx8))));have k36:m6.dZ n1=Y (.dY [.J dn,vt,vd]):=by rw[s6 _ M];exact B _ _ mi k3
   have gd6:m6.dZ n2=Y (.map ed2 cd2):=by rw[s6 _ M];exact gd4
   have bel6:eX m6 U:=by rw[H,F,en5];exact(bel4.ew).put kP
   obtain⟨es',ck',hu,u1',u2',u3'⟩:=yG (G:=G) (kd:=.J) (kk:=.i64) (k:=.J (dn++[46]++on)) (v:=.agg [.J on,vi,vo,va,.int .i64 zr,.int .i64 zs,vt2]) (clock:=cd2) (es:=ed2) (.J _ _) edOk2.oT;conv=>whnf
   refine gC ?_;repeat'(first|refine eu hx6 ?_|refine eu k36 ?_|refine eu k6 ?_|refine sK ED ?_|refine gI (gK _) (wK ?_)|fail)
   refine sK (hu _ _ _ _ _ _ _ Z gd6 Z Z) ?_;refine oV λm7 em7=>?_;repeat'(first|refine gI (gK _) (wK ?_)|fail)
   refine iu ?_;refine⟨j2 - 1,M,i2+1,es',ck',M,by rw[em7];exact bel6.put M,(by show n2'.dV<=U.dV;omega),λa o w f=>?_,by rw[em7];exact fY,λe he=>?_,Z⟩
   .rw[em7,T.gh _ _ _ _ w];have m:=B a o w f;rw[s6 a (bel4 _ _ m)];exact m
   obtain h|⟨h,h'⟩:=u1' e he
   .exact edOk2 e h
   exact⟨dn,on,_,by rw[h];simp,u8.1,d14.1,h',hyany,Z,hyf⟩
  replace f:=iK f;have k34:m4.dZ n1=Y (.dY [.J dn,vt,vd]):=B _ _ mi k3;conv=>whnf
  refine eu k34 ?_;refine fM u2 ?_;have hf4:m4.dZ n3=Y (.map ef cf):=B _ _ mi (by rw[s3 _ M];exact gf1);refine eT.jl (λj vs m' n'=>∃(i3:Nat)(ef:L gm)(cf:Nat),i3+j=O tys/\eX m' n'/\n4'.dV<=n'.dV/\(∀(a:S) o,a≠n3->m4.dZ a=Y o->m'.dZ a=Y o)/\m'.dZ n3=Y (.map ef cf)/\wV ef/\
   vs=[.ea n7 0,.ea n1 0,.eC q 3 0 N N dU,V N,V i,vt,V (O tys),V i3]) (O tys) Z ⟨0,ef,cf,M,bel4,fQ _,λ_ _ _ h=>h,hf4,Bw,Z⟩ ?_
  rintro j3 vs m5 U ⟨i3,ef3,cf3,hi3,bel5,ln5,W,gf5,efOk3,rfl⟩;have hx4:m4.dZ n7= _:=B _ _ mi ((s3 n7 M).trans (u _ _ mi mi (z.old _ _ gx8)));have hx5:=W _ _ mi hx4;have k35:=W _ _ mi k34;conv=>whnf
  refine eW (λm=>?_) (λm=>?_)
  .replace m:=gz m;obtain⟨ty,hty,htl⟩:=u3 _ (fB m);obtain⟨es',ck',hu,u1',u2',u3'⟩:=yG (G:=G) (kd:=.J) (kk:=.i64) (k:=.J ([33]++dn++[46]++ty)) (v:=.bool dT) (clock:=cf3) (es:=ef3) (.J _ _) efOk3.oT;conv=>whnf
   refine gW u2 m ?_;refine fH (oA Z m) ?_;rw[hty];conv=>whnf
   refine gC ?_;repeat'(first|refine eu hx5 ?_|refine eu k35 ?_|refine sK ED ?_|refine gI (gK _) (wK ?_)|fail)
   refine sK (hu _ _ _ _ _ _ _ Z gf5 Z Z) ?_;refine oV λm7 em7=>?_;repeat'(first|refine gI (gK _) (wK ?_)|fail)
   refine iu ?_;refine⟨j3 - 1,M,i3+1,es',ck',M,by rw[em7];exact bel5.put M,(by show n4'.dV<=U.dV;omega),λa o w f=>?_,by rw[em7];exact fY,λe he=>?_,Z⟩
   .rw[em7,T.gh _ _ _ _ w];exact W a o w f
   obtain h|⟨h,h'⟩:=u1' e he
   .exact efOk3 e h
   exact⟨⟨_,h⟩,dT,h'⟩
  replace m:=iK m;conv=>whnf
  refine iu ?_;refine⟨Z,j - 1,M,i+1,ed2,ef3,cd2,cf3,M,bel5,(by show n9.dV<=U.dV;omega),λa o w f m=>?_,W _ _ mi gd4,gf5,edOk2,efOk3,Z⟩;have h4:=u a o w f m;exact W _ _ f (B _ _ w (by rw[s3 a (bel1 _ _ h4)];exact h4))
 have gpm:m1.dZ pm=Y (.dY [vf]):=by have h:=b2 _ _ hmod;exact u _ _ mi mi (z.old _ _ (G8.old _ _ hmod))
 have hx1:=u _ _ mi mi (z.old _ _ gx8);have gn1:=u n4 _ mi mi (z.old _ _ gn8);have old21:∀(a:S) o,m2.dZ a=Y o->m1.dZ a=Y o:=λa o ha=>by have h:=b2 _ _ ha;exact u _ _ mi mi (z.old _ _ (G8.old _ _ ha))
 have hpl':O ps<=eI:=M
 conv=>whnf
 refine eu hx1 ?_;refine eu gpm ?_;refine sK (adc hps Z) ?_;refine eT.jl (λj vs m' n'=>∃(i2:Nat)(en:L gm)(cn:Nat),i2+j=O ps/\eX m' n'/\n1.dV<=n'.dV/\(∀(a:S) o,a≠n4->m1.dZ a=Y o->m'.dZ a=Y o)/\m'.dZ n4=Y (.map en cn)/\GX ps en/\
  vs=[.ea n7 0,vf,V (O ps),V i2]) (O ps) Z ⟨0,[],0,M,bel1,fQ _,λ_ _ _ h=>h,gn1,Je,Z⟩ ?_
 rintro j2 vs m3 n3' ⟨i2,en,cn,hi2,BA,ln3,l,gn3,Q,rfl⟩;conv=>whnf
 refine eW (λf=>?_) (λf=>?_)
 .replace f:=gz f;obtain⟨t,rfl⟩:∃t,vf=.eG 1 (O ps) (gp ps) t:=by
   obtain⟨_,h⟩|h:=hps
   .rw[h]at f;simp at f
   exact h
  have hpm:=fB f;obtain⟨nm,vos,vrs,vas,vgs,vss,os,rs,gs,as,ss,e0,q1,q2,q3,q4,q5,q6,q7,q8,_⟩:=R.Gm (hops _ hpm).1;obtain⟨s,hs⟩:=ac7 C.tofP q6 q7 q8;have nx7:n7≠n4:=λe=>by have:=fW S.dV e;omega
  have hp3:m3.dZ ps[i2]= _:=l _ _ (λe=>by have:=b2 _ _ e0;have:=fW S.dV e;omega) (old21 _ _ e0);have hx3:=l _ _ nx7 hx1;obtain⟨_,⟨m4,n4'⟩,⟨rfl,E⟩,hc27⟩:=hs m3 n3' _ _ _ _ _ _ _ hp3 BA;dsimp only at E;have hp4:=E.old _ _ hp3;have hx4:=E.old _ _ hx3;have gn4:=E.old _ _ gn3;obtain⟨lv',lb,hlk,hlc⟩:=rK (G:=G) (kd:=.J) (kk:=.i64) (zero:=.gi) (k:=.J s) (es:=en) (.J _ s) Q.oT;conv=>whnf
  refine sK (qg (n:=O ps) (cs:=gp ps) (t:=t) Z Z Z f) ?_;refine sK (jO Z (Rb f)) ?_;refine gC ?_;repeat'(first|refine eu hx3 ?_|refine gI (gK _) (wK ?_)|fail)
  refine fK.one _ _ ?_ hc27;conv=>whnf
  repeat'(first|refine eu hx4 ?_|refine sK (hlk _ _ _ _ _ _ _ _ Z gn4 Z) ?_|refine gI (gK _) (wK ?_)|fail)
  cases lb
  .obtain⟨_,⟨m5,U⟩,⟨rfl,G5'⟩,hc27'⟩:=hs m4 n4' _ _ _ _ _ _ _ hp4 E.eH;dsimp only at G5';have gn5:=G5'.old _ _ gn4;have hx5:=G5'.old _ _ hx4;obtain⟨es',ck',hu,u1',u2',u3'⟩:=yG (G:=G) (kd:=.J) (kk:=.i64) (k:=.J s) (v:=.ea ps[i2] 0) (clock:=cn) (es:=en) (.J _ _) Q.oT;have ln5:=G5'.eH _ _ gn5;conv=>whnf
   refine gC ?_;repeat'(first|refine eu hx4 ?_|refine gI (gK _) (wK ?_)|fail)
   refine fK.one _ _ ?_ hc27';conv=>whnf
   repeat'(first|refine eu hx5 ?_|refine gI (gK _) (wK ?_)|fail)
   refine sK (hu _ _ _ _ _ _ _ Z gn5 Z Z) ?_;refine oV λm7 em7=>?_;repeat'(first|refine gI (gK _) (wK ?_)|fail)
   refine iu ?_;have l4:=E.le;have l5:=G5'.le;refine⟨j2 - 1,M,i2+1,es',ck',M,by rw[em7];exact G5'.eH.put ln5,(by show n1.dV<=U.dV;omega),λa o w f=>?_,by rw[em7];exact fY,λe he=>?_,Z⟩
   .rw[em7,T.gh _ _ _ _ w];exact G5'.old _ _ (E.old _ _ (l a o w f))
   obtain h|⟨h,h'⟩:=u1' e he
   .exact Q e h
   exact⟨⟨_,h⟩,_,hpm,h'⟩
  conv=>whnf
  refine iu ?_;refine⟨Z,j2 - 1,M,i2+1,en,cn,M,E.eH,(by have:=E.le;show n1.dV<=n4'.dV;omega),λa o w f=>E.old _ _ (l a o w f),gn4,Q,Z⟩
 replace f:=iK f;have ne4:∀a:S,a.dV≠n4.dV->a≠n4:=λa h e=>h CB;have lt2:∀(a:S) o,m2.dZ a=Y o->a.dV<n2.dV:=b2;have old23:∀(a:S) o,m2.dZ a=Y o->m3.dZ a=Y o:=λa o ha=>l _ _ (ne4 _ (by have:=lt2 a o ha;omega)) (old21 _ _ ha);have hnm:∀a:S,a.dV≠n2.dV->a.dV≠n3.dV->a.dV≠n4.dV->∀o,m8.dZ a=Y o->m3.dZ a=Y o:=λa w f m o ha=>l _ _ (ne4 _ m) (u _ _ (λe=>w CB) (λe=>f CB) (z.old _ _ ha));have kx:K n7=J:=by
  cases hk:K n7 with
  |none=>rfl
  |some k=>obtain⟨dY,w,_⟩:=R _ _ hk;have:=b2 _ _ w;omega
 have inv3:jo P G K m3:=R.fr λp k hp=>by obtain⟨dY,w,_⟩:=R _ _ hp;rw[w];exact old23 _ _ w
 conv=>whnf
 refine .inr ⟨K,ps,pm,n7,n2,n3,n4,xr,n5,vf,ed,ef,en,er,cd,cf,cn,cr,0,Z,BA,inv3,l _ _ (ne4 _ M) hx1,l _ _ (ne4 _ (by have:=lt2 _ _ hmod;omega)) gpm,hps,hpl,hpn,λp hp=>⟨(hops p hp).1,?_⟩,⟨hkpm,kx⟩,l _ _ (ne4 _ M) gd1,l _ _ (ne4 _ M) gf1,gn3,hnm _ M M M _ gr8,hnm _ M M M _ gm8,⟨λe=>?_,λe=>?_,λe=>?_,λe=>?_⟩,y9,Bw,Q,hker,(by refine El λne=>?_;simp only[qB,eZ,f7,fZ,not_or,pE,wm,pA];exact⟨⟨ne _ _ M,ne _ _ M,ne _ _ M,ne _ _ M,ne _ _ M⟩,⟨ne _ _ M,ne _ _ M,ne _ _ M,ne _ _ M⟩,⟨ne _ _ M,ne _ _ M,ne _ _ M⟩,⟨ne _ _ M,ne _ _ M⟩,ne _ _ M⟩),La,hL1,λq d bo nb hq=>(hL2 q d bo nb hq).resolve_left ei⟩
 .obtain⟨dY,vgs,gs,a,b,c,d⟩:=(hops p hp).2;exact⟨dY,vgs,gs,old23 _ _ a,b,c,d⟩
 .have:=fW S.dV e;omega
 .have:=fW S.dV e;omega
 .have:=fW S.dV e;omega
 have:=fW S.dV e;omega
structure rR (G:ez)(K:Gk):Prop where
 op:∀p d bo nb,K p=some (.op d bo nb)→∀c0 c1 c2 c3 vgs c5 c6 gs,G.fU p=some [c0,c1,c2,c3,vgs,c5,c6]→fC (fu gs) vgs→gs.Nodup∧gs.length≤100∧∀r∈gs,∃c,G.fU r=some [.fz p 0,c]
 fO:∀r d nb,K r=some (.fO d nb)→∀o vbs bs,G.fU r=some [o,vbs]→fC (fu bs) vbs→bs.Nodup∧∀b∈bs,∃c1 c2,G.fU b=some [.fz r 0,c1,c2]
 eC:∀b d nb,K b=some (.eC d nb)→∀g va vops ops,G.fU b=some [g,va,vops]→fC (fu ops) vops→ops.Nodup
def DN:∀{s q:L S},fu s=fu q->s=q:=by
 intro s;induction s with
 |nil=>intro q h;cases q with|nil=>rfl|cons a l=>cases h
 |cons a l i=>intro q h;cases q with|nil=>cases h|cons b C=>simp only[fu,jL,ti,A.fz.injEq,pA]at h;rw[h.1,i h.2]
def rR.of{x:S}(C:jo P G K m):rR (G.iE K m x) K:=by
 refine⟨λp d B l hp c0 N c2 c3 vgs c5 c6 gs e hg=>?_,λr d l n o vbs bs e j=>?_,λb d l j g va U ops e ho=>?_⟩
 .obtain⟨dY,a,y⟩:=C p _ hp;rw[sU hp a]at e;generalize h:Kd.op d B l=k at y;cases y with
  |op d B l nm vos vrs f R vss os rs gs' F ss z s D E H t h7 h8 h9 q h11 h12 h13 h14 l1 l2 l3 l4 l5 i v t3=>simp only[jL,qH,oZ,ti,pA]at e;obtain⟨_,_,_,_,rfl,_⟩:=e;obtain rfl:=DN (fC.lT hg (ph h9));refine⟨v,t3,λr n=>?_⟩;obtain⟨c,e⟩:=i r n;obtain⟨u,e'⟩:=q r n;exact⟨_,sU e' e⟩
  | _=>cases h
 .obtain⟨dY,a,y⟩:=C r _ n;rw[sU n a]at e;generalize h:Kd.fO d l=k at y;cases y with
  |fO d l o' B u Q W z s D E H t i v=>simp only[jL,qH,oZ,ti,pA]at e;obtain⟨_,rfl⟩:=e;obtain rfl:=DN (fC.lT j (ph s));refine⟨v,λb j=>?_⟩;obtain⟨N,c2,e⟩:=i b j;exact⟨_,_,sU (t b j) e⟩
  | _=>cases h
 obtain⟨dY,a,y⟩:=C b _ j;rw[sU j a]at e;generalize h:Kd.eC d l=k at y;cases y with
 |eC d l g' f w F I z s D E H t l1 l2 i=>simp only[jL,qH,oZ,ti,pA]at e;obtain⟨_,_,rfl⟩:=e;obtain rfl:=DN (fC.lT ho (ph E));exact i
 | _=>cases h
def rR.DO(t:rR G K)(g:FG P G K){p q:S}(hp:K p=Y (.op d bo nb))(hr:r∈wY G p)(hb:b∈qZ G r)(hq:q∈qt G b):
  ∃l N B c3,K q=Y (.op (d+1) (Y b) l)/\G.fU b=Y [.fz r 0,N,B]/\G.fU r=Y [.fz p 0,c3]/\ug G p 1:=by
 obtain⟨nm,vos,vrs,vas,vgs,vss,os,rs,E,as,ss,z,q1,q2,q3,q4,q5,q6,q7,q8,s,n,_⟩:=g.op hp;have a:r∈E:=by simpa[wY,z,uj s]using hr
 obtain⟨nb2,h⟩:=n _ a;obtain⟨o,bo',nb3,vbs,H,u,f1,w,f3,f4,f5,f6⟩:=g.fO h;have f:b∈H:=by simpa[qZ,u,uj w]using hb
 obtain⟨gg,va,C,Q,R,U,b1,b2,b3,v,W,_⟩:=g.eC (f6 _ f);have i:q∈R:=by simpa[qt,U,uj v]using hq
 obtain⟨m,j⟩:=W _ i;obtain⟨_,_,u3⟩:=t.op _ _ _ _ hp _ _ _ _ _ _ _ E z s;obtain⟨c,e1⟩:=u3 r a;obtain⟨_,v2⟩:=t.fO _ _ _ h _ _ H u w;obtain⟨N,B,e2⟩:=v2 b f;refine⟨m,N,B,c,j,e2,e1,λnm' D F x y I vb' gs' e k=>?_⟩;rw[z]at e;cases e;obtain rfl:=DN (fC.lT k s);exact List.length_pos_of_mem a
def rR.Ri(t:rR G K)(g:FG P G K):∀(n:Nat){p:S}{d:Nat}{B:Option S}{l:Nat},K p=Y (.op d B l)->oC G K p f->∀q∈wl G n p,oC G K q f/\∃D k c,K q=Y (.op D k c)/\Be G k:=by
 intro n;induction n with
 |zero=>intro p d B l _ _ q h;cases h
 |succ n i=>
 intro p d B l hp H q h;simp only[wl,oX]at h
 let⟨r,F,b,j,o,w,h⟩:=h
 obtain⟨c,N,C,v,u,x,y,m⟩:=t.DO g hp F j w;have s:oC G K o f:=.up o b r p f d c N C v u x y H;obtain e|e:=eZ.1 h
 .subst e;refine⟨s,_,_,_,u,λI Q W a E z=>?_⟩;cases E;rw[x]at z;cases z;exact⟨p,v,y,m⟩
 exact i u s q e
inductive rb (G:ez)(K:Gk)(a:S):S→Prop
 |refl:rb G K a a
 |up (p b gg o:S)(d nb:Nat)(c1 c2 c3:A)(h:K p=some (.op (d+1) (some b) nb))(hb:G.fU b=some [.fz gg 0,c1,c2])(hg:G.fU gg=some [.fz o 0,c3])(hr:rb G K a o):rb G K a p
def rb.depth(g:FG P G K){a p:S}(h:rb G K a p):∀{d e:Nat}{B f:Option S}{l k:Nat},K a=Y (.op d B l)->K p=Y (.op e f k)->a=p\/d<e:=by
 induction h with
 |refl=>intro d e B f l k _ _;exact .inl Z
 |up p b H o y x N D E h j F n i=>
 intro d e B f l k r hp;rw[h]at hp;cases hp;obtain⟨c,_⟩|⟨m,C,w,o2,v,z,W,Q,U,s,R,q3,t,q5,u,q⟩:=g.pW h
 .cases c
 cases s;cases R;rw[j]at t;cases t;rw[F]at u;cases u;obtain rfl|I:=i r q
 .rw[r]at q;cases q;exact .inr M
 exact .inr M
def rb.lT(g:FG P G K){a p:S}(h:rb G K a p):∀{k:S}{d e:Nat}{B m q:Option S}{l s t:Nat},rb G K k p->K a=Y (.op d B l)->K k=Y (.op d m s)->K p=Y (.op e q t)->a=k:=by
 induction h with
 |refl=>
  intro k d e B m q l s t n v f hp;obtain e|e:=n.depth g f v
  .exact e.symm
  omega
 |up p b gg o d' t c1 c2 c3 h j F W i=>
 intro k d e B m q l s D n v f hp;obtain⟨c,_⟩|⟨d2,b2,U,o2,C,nb3,k1,k2,k3,q1,q2,q3,E,q5,u,y⟩:=g.pW h
 .cases c
 cases q1;cases q2;rw[j]at E;cases E;rw[F]at u;cases u;cases n with
 |refl=>
  rw[h]at f;cases f;obtain rfl|e1:=W.depth g v y
  .rw[v]at y;cases y
  omega
 |up _ b' R o' Q nb4 H I N r w x z=>rw[h]at r;cases r;rw[j]at w;cases w;rw[F]at x;cases x;exact i z v f y
def oC.lT{p f k:S}(h:oC G K p f):oC G K p k->f=k:=by
 induction h with
 |iw p l h=>
  intro n;cases n with
  |iw=>rfl
  |up _ b u o _ d e N B s r=>rw[h]at r;cases r
 |up p b u o f d l N B s h j F x i=>
 intro n;cases n with
 |iw _ e r=>rw[h]at r;cases r
 |up _ w v z _ y e m q t r a c g=>rw[h]at r;cases r;rw[j]at a;cases a;rw[F]at c;cases c;exact i g
def GY(t:rR G K)(g:FG P G K):∀(n:Nat){p:S}{d:Nat}{B:Option S}{l:Nat},K p=Y (.op d B l)->rb G K a p->∀q∈wl G n p,rb G K a q/\∃y c f,d<y/\K q=Y (.op y c f):=by
 intro n;induction n with
 |zero=>intro p d B l _ _ q h;cases h
 |succ n i=>
 intro p d B l hp F q h;simp only[wl,oX]at h
 let⟨r,H,b,j,o,w,h⟩:=h
 obtain⟨f,N,x,z,s,C,D,v⟩:=t.DO g hp H j w;have k:rb G K a o:=.up o b r p d f N x z s C D F;obtain e|e:=eZ.1 h
 .subst e;exact⟨k,_,_,_,Nat.lt_succ_self d,s⟩
 obtain⟨E,y,c,u,I,m⟩:=i s k q e;exact⟨E,y,c,u,M,m⟩
def adf(t:rR G K)(g:FG P G K):∀(n:Nat){p:S}{d:Nat}{bo:Option S}{nb:Nat},K p=Y (.op d bo nb)->(wl G n p).Nodup:=by
 intro n;induction n with
 |zero=>intro p d bo nb _;exact pE
 |succ n ih=>
 intro p d bo nb hp;have k:∀r b o I D m q,r∈wY G p->b∈qZ G r->o∈qt G b->I∈wY G p->D∈qZ G I->m∈qt G D->q∈o::wl G n o->q∈m::wl G n m->o=m/\b=D/\r=I:=by
  intro r b o I D m q s j w l c i hq hq';obtain⟨nb1,c1,c2,c3,F,e1,e2,_⟩:=t.DO g hp s j w;obtain⟨U,c1',c2',c3',B,Q,e2',_⟩:=t.DO g hp l c i;have h1:rb G K o q/\∃N f z,K q=Y (.op N f z):=by
   obtain e|e:=eZ.1 hq
   .subst e;exact⟨.refl,_,_,_,F⟩
   obtain⟨a,N,f,z,_,b⟩:=GY t g n F .refl q e;exact⟨a,N,f,z,b⟩
  have h2:rb G K m q:=by
   obtain e|e:=eZ.1 hq'
   .subst e;exact .refl
   exact(GY t g n B .refl q e).1
  let⟨h1,N,f,z,hkq⟩:=h1
  obtain rfl:=h1.lT g h2 F B hkq;rw[F]at B;cases B;rw[e1]at Q;cases Q;exact⟨Z,Z,Z⟩
 obtain⟨nm,vos,vrs,vas,vgs,vss,os,rs,gs,as,ss,e0,q1,q2,q3,q4,q5,q6,q7,q8,q9,W,_⟩:=g.op hp;have er:wY G p=gs:=by simp only[wY,e0,uj q9]
 obtain⟨u1,_,_⟩:=t.op _ _ _ _ hp _ _ _ _ _ _ _ gs e0 q9;simp only[wl];refine Ij.2 ⟨λr s=>Ij.2 ⟨λb j=>Ij.2 ⟨λo w=>?_,?_⟩,?_⟩,?_⟩
 .obtain⟨nb1,c1,c2,c3,F,_⟩:=t.DO g hp s j w;refine qB.2 ⟨λh=>?_,ih F⟩;obtain⟨_,N,f,z,h2,h3⟩:=GY t g n F .refl o h;rw[F]at h3;cases h3;omega
 .have l:r∈gs:=by rw[<-er];exact s
  obtain⟨U,C⟩:=W _ l;obtain⟨o,f,nb3,vbs,H,f0,f1,f2,f3,f4,f5,f6⟩:=g.fO C;have c:b∈H:=by simpa[qZ,f0,uj f2]using j
  obtain⟨gg,va,vops,as2,R,b0,b1,b2,b3,b4,b5,_⟩:=g.eC (f6 _ c);have eo:qt G b=R:=by simp only[qt,b0,uj b4]
  have E:=t.eC _ _ _ (f6 _ c) _ _ _ R b0 b4;rw[<-eo]at E;refine H8 (λ{o m} w i hne x v y u e=>hne ?_) E;subst e;exact(k r b o r b m x s j w s j i v u).1
 .have l:r∈gs:=by rw[<-er];exact s
  obtain⟨U,C⟩:=W _ l;obtain⟨o,f,nb3,vbs,H,f0,f1,f2,f3,f4,f5,f6⟩:=g.fO C;have eb:qZ G r=H:=by simp only[qZ,f0,uj f2]
  have E:=(t.fO _ _ _ C _ _ H f0 f2).1;rw[<-eb]at E;refine H8 (λ{b D} j c hne x v y u e=>hne ?_) E;subst e;obtain⟨o,w,v⟩:=oX.1 v;obtain⟨m,i,u⟩:=oX.1 u;exact(k r b o r D m x s j w s c i v u).2.1
 rw[<-er]at u1;refine H8 (λ{r I} s l hne x v y u e=>hne ?_) u1;subst e;obtain⟨b,j,v⟩:=oX.1 v;obtain⟨o,w,v⟩:=oX.1 v;obtain⟨D,c,u⟩:=oX.1 u;obtain⟨m,i,u⟩:=oX.1 u;exact(k r b o I D m x s j w l c i v u).2.2
def adg{Q:Type} [DecidableEq Q]:∀{l L:List Q},l.Nodup->(∀x∈l,x∈L)->O l<=O L:=by
 intro l;induction l with
 |nil=>intro L _ _;exact oE _
 |cons a l i=>intro L E r;have h:=qB.1 E;have b:=r a ei;have K:=i (L:=L.erase a) h.2 λx v=>(List.mem_erase_of_ne λe=>h.1 (by rw[<-e];exact v)).2 (r x xo);rw[List.length_erase_of_mem b]at K;have:=List.length_pos_of_mem b;simp only[lV];omega
def adh(t:rR G K)(g:FG P G K){i k:L S}(c:∀f∈i,∃l,K f=Y (.op 0 J l))(E:i.Nodup)(s:∀q d B l,K q=Y (.op d B l)->q∈k):O (i.flatMap (fE G))<=O k:=by
 have R:∀f∈i,∀q∈fE G f,oC G K q f/\∃d B l,K q=Y (.op d B l):=by
  intro f b q j;obtain⟨l,a⟩:=c f b;obtain e|e:=eZ.1 j
  .subst e;exact⟨.iw _ l a,_,_,_,a⟩
  obtain⟨o,d,B,p,r,_⟩:=t.Ri g _ a (.iw f l a) q e;exact⟨o,d,B,p,r⟩
 refine adg (Ij.2 ⟨λf b=>?_,?_⟩) λq j=>?_
 .obtain⟨l,a⟩:=c f b;refine qB.2 ⟨λh=>?_,adf t g _ a⟩;obtain⟨_,u,n,p,r,m⟩:=GY t g _ a .refl f h;rw[a]at m;cases m;omega
 .refine H8 (λ{f f'} b hf' hne x hx y hy e=>hne ?_) E;subst e;exact(R f b x hx).1.lT (R f' hf' x hy).1
 obtain⟨f,b,h⟩:=oX.1 j;obtain⟨_,d,B,l,r⟩:=R f b q h;exact s q d B l r
def gR(n c q:S):S:=if q.dV<c.dV then up n q else if q.dV<n.dV+c.dV - 1 then S.ofNat (q.dV - c.dV)else q
def jE(n c a:S):S:=if a.dV<n.dV then S.ofNat (a.dV+c.dV - 2)else if a.dV<n.dV+c.dV - 1 then kW n a else a
def adi{n q:S}(h:n.dV<=q.dV):(kW n q).dV=q.dV - n.dV+1:=by have:=n.jD;rw[kW,S.toNat_ofNat]
def Ls(n c q:S):jE n c (gR n c q)=q:=by
 have K:=n.jD;have r:=c.jD;have m:=q.jD;unfold gR;split
 .rename_i h;have Q:=kX n q;unfold jE;rw[gj M,gO M,Dt]
 split
 .rename_i h a;have:(S.ofNat (q.dV - c.dV)).dV=q.dV - c.dV+1:=S.toNat_ofNat _;unfold jE;rw[gO M];refine S.toNat_inj ?_;rw[S.toNat_ofNat];omega
 unfold jE;rw[gj M,gj M]
def GZ(n c a:S):gR n c (jE n c a)=a:=by
 have K:=n.jD;have r:=c.jD;have m:=a.jD;unfold jE;split
 .rename_i h;have:(S.ofNat (a.dV+c.dV - 2)).dV=a.dV+c.dV - 2+1:=S.toNat_ofNat _;unfold gR;rw[gj M,gO M];refine S.toNat_inj ?_;rw[S.toNat_ofNat];omega
 split
 .rename_i h b;have:=adi (n:=n) (q:=a) M;unfold gR;rw[gO M,Du M]
 unfold gR;rw[gj M,gj M]
def sY{n c q:S}(h:q.dV<c.dV):gR n c q=up n q:=gO h
def adj{n p q:S}(h:up n p=up n q):p=q:=by rw[<-Dt n p,h,Dt]
def adk{n c a:S}(h:n.dV+c.dV - 1<=a.dV):gR n c a=a:=by have K:=n.jD;rw[gR,gj M,gj M]
def adl{n c a:S}(h:n.dV+c.dV - 1<=a.dV):jE n c a=a:=by have K:=c.jD;rw[jE,gj M,gj M]
def Rj:∀l:L (S×AO),(l.map (·.1)).Nodup->∃m:T AO,(∀x∈l,m.dZ x.1=Y x.2)/\∀p o,m.dZ p=Y o->(p,o)∈l:=by
 intro l;induction l with
 |nil=>intro _;exact⟨.e,λx h=>B8,λp o h=>(by cases p<;>cases h)⟩
 |cons a l i=>
 intro E;have h:=qB.1 (show(a.1::l.map (·.1)).Nodup from E);obtain⟨m,K,r⟩:=i h.2;refine⟨m.set a.1 (Y a.2),λx v=>?_,λp o hp=>?_⟩
 .obtain e|e:=eZ.1 v
  .subst e;exact fY
  rw[T.gh _ _ _ _ λk=>h.1 (gS.2 ⟨x,e,k⟩)];exact K x e
 by_cases e:p=a.1
 .subst e;rw[fY]at hp;cases hp;exact mw ..
 rw[T.gh _ _ _ _ e]at hp;exact mL _ (r p o hp)
inductive ni (DF:S→Prop):A→Prop
 |bool (b:Bool):ni DF (.bool b)
 |int (k:IntKind)(z:Int):ni DF (.int k z)
 |J (s:List Nat):ni DF (.J s)
 |gi:ni DF .gi
 |ej:ni DF .ej
 |ea (p:S)(off:Nat)(h:DF p):ni DF (.ea p off)
 |eG (sz n:Nat)(cs:List A)(t:jt)(h:∀i (h:i<cs.length),ni DF cs[i]):ni DF (.eG sz n cs t)
def ni.iE{c:S->Prop}{B:S->S}{D:S->Prop}{n:S}(h:ni c v):gU B D (up n) c (v.M (up n)) v.w:=by
 induction h with
 |bool b=>exact .bool b
 |int k z=>exact .int k z
 |J s=>exact .J s
 |gi=>exact .gi
 |ej=>exact .ej
 |ea p a h=>exact .fz p a h
 |eG o m w t _ d=>simp only[A.M,A.w];refine .G _ _ _ _ _ (by rw[A7,A8];simp) λi h e=>?_;simp only[A7,A8,mM];exact d i (by simpa[A7]using h)
def ni.sl{z:S->Prop}{o n:Nat}(h:Sl o n w v)(K:∀c∈w,ni z c):ni z v:=by
 obtain⟨rfl,_,_⟩|⟨t,_,rfl,_⟩:=h
 .exact .ej
 exact .eG _ _ _ _ λi C=>K _ (fB C)
def ni.pl{z:S->Prop}{s:L S}(h:PL s v)(b:∀p∈s,z p):ni z v:=by
 obtain⟨rfl,_⟩|⟨t,rfl⟩:=h
 .exact .ej
 refine .eG _ _ _ _ λi C=>?_;have a:i<O s:=by simpa[gp]using C
 have:(gp s)[i]=.ea s[i] 0:=by simp[gp]
 rw[this];exact .ea _ _ (b _ (fB a))
def ni.adm{a:S->Prop}{Ta:L A->Prop}{x:L A}(h:iI Ta x):∀c∈x,ni a c:=by
 cases h with
 |mk v k n f p Q D q K r m E H b d e F=>
 refine oF λc hc=>?_;obtain rfl|rfl|rfl|rfl|rfl|rfl:=hc
 .exact .J _
 .exact .int _ _
 .exact .int _ _
 .exact .J _
 .exact .sl m λc hc=>by obtain⟨z,rfl⟩:=E c hc;exact .int _ _
 exact .sl b λc hc=>by obtain⟨z,rfl,_⟩:=d c hc;exact .J _
def oB.adn{z:S->Prop}(n:∀p k,K p=Y k->z p){p:S}{k:Kd}{dY:L A}(h:oB P G K m p k dY):∀c∈dY,ni z c:=by
 cases h with
 |qm s o k d B l a r=>
  refine oF λc hc=>?_;obtain rfl|rfl|rfl|rfl:=hc
  .exact .J _
  .exact .ea _ _ (n _ _ r)
  .exact .gi
  exact .int _ _
 |qn s b k d l a r=>
  refine oF λc hc=>?_;obtain rfl|rfl|rfl|rfl:=hc
  .exact .J _
  .exact .gi
  .exact .ea _ _ (n _ _ r)
  exact .int _ _
 |op d B l nm vos vrs f vgs vss os rs gs F ss a r v E H w h7 h8 h9 C D I j N l1 l2 l3 l4 l5=>
  refine oF λc hc=>?_;obtain rfl|rfl|rfl|rfl|rfl|rfl|rfl:=hc
  .exact .J _
  .exact .pl r λp hp=>n _ _ (v p hp)
  .exact .pl E λp hp=>n _ _ (H p hp)
  .refine .sl w.1 λc hc=>?_;obtain⟨x,hx,Q⟩:=lE.1 hc;exact .adm (h7 x hx) c Q
  .exact .pl h9 λp hp=>by obtain⟨u,e⟩:=C p hp;exact n _ _ e
  .have q:∀s∈ss,∀c∈s,ni z c:=by
    intro s q c hc;cases d with
    |zero=>rw[(j Z).1]at q;cases q
    |succ y=>
    cases I y Z s q with
    |mk c0 va xs k1 k2 k3 k4=>
    simp only[eZ,f7,fZ]at hc;obtain rfl|rfl:=hc
    .exact .ea _ _ (n _ _ k1)
    exact .pl k2 λp hp=>n _ _ (k3 p hp)
   obtain⟨rfl,_⟩|⟨t,rfl⟩:=D.1
   .exact .ej
   refine .eG _ _ _ _ λi hi=>?_;obtain⟨s,a,r⟩:=lE.1 (fB hi);exact q s a _ r
  cases B with
  |none=>exact .gi
  |some b=>
  cases d with
  |zero=>have:=(j Z).2.2.1;cases this
  |succ y=>obtain⟨b',U,W⟩:=N y Z;cases U;exact .ea _ _ (n _ _ W)
 |fO d l o B u vbs bs a r v E H w=>
  refine oF λc hc=>?_;obtain rfl|rfl:=hc
  .exact .ea _ _ (n _ _ a)
  exact .pl r λp hp=>n _ _ (w p hp)
 |eC d l g f R F ops a r v E H w l1 l2=>
 refine oF λc hc=>?_;obtain rfl|rfl|rfl:=hc
 .exact .ea _ _ (n _ _ a)
 .exact .pl r λp hp=>n _ _ (v p hp)
 exact .pl E λp hp=>by obtain⟨u,e⟩:=H p hp;exact n _ _ e
def ado{e:T AO}{nc l:S}(j:eX e nc)(C:jo P G K e)(v:e.dZ l=Y (.dY [I]))(u:PL E I)(y:∀p∈E,∃k,K p=Y k){n:S}{H:eM}(f:∀q:S,q.dV<nc.dV->∀o,e.dZ q=Y o->o≠.fX->(∀W U k F p a b d,o≠.loop W U k F p a b d)->H.ep.dZ (up n q)=o.M (up n)){B:S->S}{D:S->Prop}:
  ∀q w,(G.iE K e l).fU q=Y w->∃x,H.ep.dZ (up n q)=Y (.dY x)/\O x=O w/\∀i (h:i<O x)(N:i<O w),gU B D (up n) (λq=>((G.iE K e l).fU q).isSome=dT) x[i] w[i]:=by
 intro q w t;obtain⟨dY,g,rfl⟩:=Qk t;have z:∀p k,K p=Y k->((G.iE K e l).fU p).isSome=dT:=λp k hp=>by obtain⟨r,m,_⟩:=C p k hp;rw[sU hp m];rfl
 have R:∀c∈dY,ni (λq=>((G.iE K e l).fU q).isSome=dT) c:=by
  obtain rfl|⟨k,s⟩:=KK t
  .rw[v]at g;cases g;refine oF λc hc=>?_;subst hc;exact .pl u λp hp=>by obtain⟨k,s⟩:=y p hp;exact z p k s
  obtain⟨r,m,Q⟩:=C q k s;rw[g]at m;cases m;exact Q.adn z
 refine⟨dY.map (A.M (up n)),?_,ei,λi h N=>?_⟩
 .rw[f q (j q _ g) _ g (by simp) (by simp)];rfl
 simp only[mM];exact(R _ (fB ly)).iE
def Plain.J(s:L Nat):Plain (.J s):=λ_ _ _ _=>.J s
def Plain.int(k:IntKind)(z:Int):Plain (.int k z):=λ_ _ _ _=>.int k z
def Plain.bool(b:Bool):Plain (.bool b):=λ_ _ _ _=>.bool b
def Plain.eG{o n:Nat}{t:jt}(j:∀p,t≠.open p)(h:∀c∈w,Plain c):Plain (.eG o n w t):=λB D a z=>by
 cases t with
 |fE=>exact .fE _ _ _ _ Z λi C _=>h _ (fB C) B D a z
 |G=>exact .G _ _ _ _ _ Z λi C _=>h _ (fB C) B D a z
 |«open»p=>exact absurd Z (j p)
def Plain.sl{o n:Nat}(h:Sl o n w v)(K:∀c∈w,Plain c):Plain v:=by
 obtain⟨rfl,_,_⟩|⟨t,j,rfl,_⟩:=h
 .exact λ_ _ _ _=>.ej
 exact .eG j K
def Plain.agg(h:∀c∈w,Plain c):Plain (.agg w):=λB D a z=>.agg _ _ Z λi C _=>h _ (fB C) B D a z
def Plain.yE(h:iL a):∀c∈a,Plain c:=λc K=>by obtain⟨s,rfl,_⟩:=h c K;exact .J _
def j9.iC{Ta:L Nat->L A->L A->L (L A)->Int->Int->L A->Prop}{x:L A}(h:j9 Ta x):∀c∈x,Plain c:=by
 cases h with
 |mk v p a t u w Q D q n s K r m E H j o z F f d e g i=>
 refine oF λc hc=>?_;obtain rfl|rfl|rfl|rfl|rfl|rfl|rfl:=hc
 .exact .J _
 .exact .sl r (.yE m)
 .exact .sl H (.yE j)
 .refine .sl z.1 λc hc=>?_;obtain⟨y,l,b⟩:=lE.1 hc;cases F y l with
  |mk v k h=>
  simp only[eZ,f7,fZ]at b;obtain rfl|rfl:=b
  .exact .J _
  exact .int _ _
 .exact .int _ _
 .exact .int _ _
 exact .sl d (.yE e)
structure jF (P:Program)(G:ez)(core:List (List A))(nf:Nat)where
 (K:Gk)(ps:List S)(pm x xd xf xn xr mp:S)(vf:A)(ed ef en er:List gm)(cd cf cn cr cm:Nat)(mc:T AO)(nc:S)
 op:Re P G core nf K ps pm x xd xf xn xr mp vf ed ef en er cd cf cn cr cm mc nc
def gm.ul(e:gm):gm:={e with val:=e.val.w}
variable{core:List (List A)}{nf:Nat}
def jF.E(c:jF P G core nf):ez:=G.iE c.K c.mc c.pm
def jF.ck(c:jF P G core nf):Ck:=⟨c.x,c.xd,c.xf,c.xn,c.xr,c.mp,c.cd,c.cf,c.cn,c.cr,.fz c.pm 0,c.ed,c.ef,c.en.map gm.ul,c.er⟩
def jF.Rk(c:jF P G core nf):L A:=[.fz c.pm 0,.map c.xd,.map c.xf,.map c.xn,.func (.func 23) [.map c.mp] [],.map c.xr]
def jF.X(c:jF P G core nf):L (S×AO):=[(c.x,.dY c.Rk),(c.xd,.map c.ed c.cd),(c.xf,.map c.ef c.cf),(c.xn,.map (c.en.map gm.ul) c.cn),(c.xr,.map c.er c.cr),(c.mp,.map [] c.cm)]
section
variable(c:jF P G core nf)
def jF.Lu:c.E.fU c.pm=Y [c.vf.w]:=by rw[jF.E,abb c.op.Rf.1 c.op.DM];rfl
def jF.fg(a:∀q,G.fU q=J):FG P c.E c.K:=FG.of a c.op.kE
def jF.adp:rR c.E c.K:=rR.of c.op.kE
def jF.Lv(C:iF P G)(b:∀q,G.fU q=J):iF P c.E:=C.iE b (c.fg b) λw h v a=>by have:=c.Lu;rw[jF.E]at this;rw[this]at h;cases h;simp only[eZ,f7,fZ]at a;subst a;exact(ph c.op.sW).dW (fu.dW _)
def jF.sW:GS c.E c.K c.pm c.ps\/¬nf<=eI:=by
 by_cases h:nf<=eI
 .exact .inl ⟨⟨_,c.Lu,ph c.op.sW⟩,λf g=>⟨0,(c.op.ops f g).1⟩,c.op.Bv,by rw[c.op.len];exact h⟩
 exact .inr h
def Ha(P:Program)(G:ez)(core:L (L A)):Prop:=∀r∈yX,∀x∈core,∀Q a l,x=[.J r.1,Q,a]->fT 7 l a->∀y∈l,y[0]? =Y (.J r.2.1)->yV P G r.2.2 y
def Hb(core:L (L A)):Prop:=∀r∈yX,∃x∈core,x[0]? =Y (.J r.1)
def adq:∀{a b c d:L Nat},yZ a->yZ b->a++46::c=b++46::d->a=b/\c=d:=by
 intro a;induction a with
 |nil=>
  intro b c d _ j h;cases b with
  |nil=>simp at h;exact⟨Z,h⟩
  |cons y b=>simp at h;exact absurd h.1.symm (j y ei)
 |cons x a i=>
 intro b c d e j h;cases b with
 |nil=>simp at h;exact absurd h.1 (e x ei)
 |cons y b=>simp at h;obtain⟨f,r⟩:=i (λc K=>e c (by simp[K])) (λc K=>j c (by simp[K])) h.2;exact⟨by rw[h.1,f],r⟩
def adr:∀r∈yX,yZ r.1/\56<=r.2.2/\r.2.2<=70/\(r.1++46::r.2.1=ql->r.2.2=56):=by unfold yZ ql yX;decide
def jF.ok(j:Ha P c.E core)(hI:Hb core):c.ck.Ok P c.E c.K:=by
 refine⟨λe F=>?_,c.op.Bw,λe F=>?_,λe F=>?_⟩
 .obtain⟨Q,on,y,h,_,_,i,m,_⟩:=c.op.y9 e F;exact⟨_,y,h,i,m⟩
 .obtain⟨k,b,rfl⟩:=gS.1 F;obtain⟨⟨s,h⟩,p,hp,i⟩:=c.op.Rg k b;refine⟨⟨s,h⟩,p,0,by simp[gm.ul,i,A.w],(c.op.ops p hp).1,?_⟩;obtain⟨dY,C,gs,r1,r2,r3,r4⟩:=(c.op.ops p hp).2;intro nm D I f a t vb U z N;rw[jF.E,sU (c.op.ops p hp).1 r1]at z;have:dY.map A.w=[.J nm,D,I,f,a,t,vb]:=gu z;have o:(dY.map A.w)[4]? =Y a:=by rw[this];rfl
  rw[pz,r2]at o;have H:C.w=a:=gu o;rw[<-H]at N;have:=DN (fC.lT N (ph r3));rw[this,r4];exact fQ 1
 have hm:(e.key,e.val)∈yY:=by rw[<-c.op.Rh];exact gS.2 ⟨e,F,Z⟩
 obtain⟨r,n,g⟩:=gS.1 hm;simp only[wh]at g;obtain⟨k1,k2,k3,k4⟩:=adr r n;refine⟨_,r.2.2,g.1.symm,g.2.symm,k2,k3,k4,λk b y hk hv=>?_⟩;obtain⟨Q,on,y',h,i,m,o,H,W,q⟩:=c.op.y9 k b;rw[hv]at o;cases o;rw[hk]at h;obtain⟨d,R⟩:=adq k1 i (A.J.inj h);obtain⟨x,v,vt,vd,l,w,u,hy⟩|q:=q
 .exact j r n x v vt vd l (by rw[w,d]) u y hy (by rw[W,R])
 obtain⟨x,v,B⟩:=hI r n;exact absurd (by rw[B,d]) (q x v)
end
end Go.As
namespace Go.As
open Go.RowKit
variable{P:Program}{G:ez}{core:List (List A)}{nf:Nat}
def jF.oT(c:jF P G core nf):c.X.map (·.1)=[c.x,c.xd,c.xf,c.xn,c.xr,c.mp]:=Z
def jF.below(c:jF P G core nf):∀q∈[c.x,c.xd,c.xf,c.xn,c.xr,c.mp],q.dV<c.nc.dV:=by
 intro q t;simp only[eZ,f7,fZ]at t;obtain rfl|rfl|rfl|rfl|rfl|rfl:=t
 .exact c.op.eH _ _ c.op.dY
 .exact c.op.eH _ _ c.op.d
 .exact c.op.eH _ _ c.op.f
 .exact c.op.eH _ _ c.op.n
 .exact c.op.eH _ _ c.op.r
 exact c.op.eH _ _ c.op.v
def jF.DF(c:jF P G core nf)(q:S):Prop:=(c.E.fU q).isSome=dT
def jF.ads(c:jF P G core nf){n:S}{H:eM}(I:∀q:S,q.dV<c.nc.dV->∀o,c.mc.dZ q=Y o->o≠.fX->(∀st pe k F p a b d,o≠.loop st pe k F p a b d)->H.ep.dZ (up n q)=o.M (up n)){D:S->Prop}(hD:∀q∈[c.x,c.xd,c.xf,c.xn,c.xr,c.mp],D q):
  ∀x∈c.X,∃o',H.ep.dZ (gR n c.nc x.1)=Y o'/\kw (gR n c.nc) D (up n) c.DF o' x.2:=by
 have j:=c.below;have w:∀q∈[c.x,c.xd,c.xf,c.xn,c.xr,c.mp],gU (gR n c.nc) D (up n) c.DF (.map (up n q)) (.map q):=λq t=>by rw[<-sY (j q t)];exact .map q (hD q t)
 have B:∀(C N:L gm)(U:Nat),(∀e∈C,gU (gR n c.nc) D (up n) c.DF (e.key.M (up n)) (e.ul).key/\gU (gR n c.nc) D (up n) c.DF (e.val.M (up n)) (e.ul).val)->N=C.map gm.ul->kw (gR n c.nc) D (up n) c.DF (.map (C.map (gm.M (up n))) U) (.map N U):=by
  rintro C N U h rfl;refine .map _ _ _ ei λi hi hi'=>?_;have W:i<O C:=by simpa using hi
  simp only[mM];obtain⟨K,u⟩:=h _ (fB W);exact⟨K,u,Z⟩
 have pl:∀{v:A},v.Pure->Plain v->gU (gR n c.nc) D (up n) c.DF (v.M (up n)) v:=λK u=>by rw[K.GW];exact u _ _ _ _
 have z:∀C:L gm,(∀e∈C,e.val.w=e.val)->C=C.map gm.ul:=λC h=>by
  have:∀e∈C,gm.ul e=e:=λe l=>by unfold gm.ul;rw[h e l]
  rw[ER (g:=id) this,Cn]
 intro x hx;simp only[jF.X,eZ,f7,fZ]at hx;obtain rfl|rfl|rfl|rfl|rfl|rfl:=hx
 .refine⟨.dY ([A.ea c.pm 0,.map c.xd,.map c.xf,.map c.xn,.func (.func 23) [.map c.mp] [],.map c.xr].map (A.M (up n))),(by rw[sY sd,I _ sd _ c.op.dY (by simp) (by simp)];rfl),.dY _ _ Z λi h h'=>?_⟩
  match i,h with
  |0,_=>exact .fz c.pm 0 (by show(c.E.fU c.pm).isSome=dT;rw[c.Lu];rfl)
  |1,_=>exact w c.xd ei
  |2,_=>exact w c.xf ei
  |3,_=>exact w c.xn ei
  |4,_=>exact .func _ [.map (up n c.mp)] [.map c.mp] [] [] Z (λi h h'=>by
    match i,h with
    |0,_=>exact w c.mp ei) Z EO
  |5,_=>exact w c.xr ei
 .refine⟨_,(by rw[sY sd,I _ sd _ c.op.d (by simp) (by simp)];rfl),B _ _ _ (λe l=>?_) (z _ λe l=>?_)⟩
  .obtain⟨dn,on,y,K,_,_,u,m,_⟩:=c.op.y9 e l;refine⟨?_,?_⟩
   .show gU _ _ _ _ (e.key.M _) e.key;rw[K];exact pl j5 (.J _)
   show gU _ _ _ _ (e.val.M _) e.val.w;rw[u];exact pl (jg m.dW) (.agg m.iC)
  obtain⟨dn,on,y,_,_,_,u,_⟩:=c.op.y9 e l;rw[u];rfl
 .refine⟨_,(by rw[sY sd,I _ sd _ c.op.f (by simp) (by simp)];rfl),B _ _ _ (λe l=>?_) (z _ λe l=>?_)⟩
  .obtain⟨⟨s,K⟩,b,u⟩:=c.op.Bw e l;refine⟨?_,?_⟩
   .exact Mw
   show gU _ _ _ _ (e.val.M _) e.val.w;rw[u];exact .bool _
  obtain⟨_,b,u⟩:=c.op.Bw e l;rw[u];rfl
 .refine⟨_,(by rw[sY sd,I _ sd _ c.op.n (by simp) (by simp)];rfl),B _ _ _ (λe l=>?_) Z⟩;obtain⟨⟨s,K⟩,p,hp,u⟩:=c.op.Rg e l;refine⟨?_,?_⟩
  .exact Mw
  show gU _ _ _ _ (e.val.M _) e.val.w;rw[u];refine .fz p 0 ?_;exact TT
 .have R:∀e∈c.er,(∃s:L Nat,e.key=.J s)/\∃f:Nat,e.val=.func (.func f) [] []:=λe l=>by
   have I:(e.key,e.val)∈yY:=by rw[<-c.op.Rh];exact gS.2 ⟨e,l,Z⟩
   obtain⟨r,hr,Q⟩:=gS.1 I;simp only[wh]at Q;exact⟨⟨_,Q.1.symm⟩,_,Q.2.symm⟩
  refine⟨_,(by rw[sY sd,I _ sd _ c.op.r (by simp) (by simp)];rfl),B _ _ _ (λe l=>?_) (z _ λe l=>?_)⟩
  .obtain⟨⟨s,K⟩,f,u⟩:=R e l;refine⟨?_,?_⟩
   .exact Mw
   show gU _ _ _ _ (e.val.M _) e.val.w;rw[u];exact .func _ [] [] [] [] Z EO Z EO
  obtain⟨_,f,u⟩:=R e l;rw[u];rfl
 exact⟨_,(by rw[sY sd,I _ sd _ c.op.v (by simp) (by simp)];rfl),B [] _ _ (λe l=>by cases l) Z⟩
def jF.call(c:jF P G core nf)(hfr:∀q,G.fU q=J)(C:∀g w,G.gX g=Y w->Plain (.fF w 0)){n:S}{H:eM}(hm:∀q:S,q.dV<c.nc.dV->∀o,c.mc.dZ q=Y o->o≠.fX->(∀st pe k F p a b d,o≠.loop st pe k F p a b d)->H.ep.dZ (up n q)=o.M (up n))(hn:n.dV+c.nc.dV - 1<=H.dX.dV)
  (own:L (S×AO))(ho1:∀x∈own,c.nc.dV<=x.1.dV)(hnd:(own.map (·.1)).Nodup)(ho3:∀x∈own,x.1.dV<H.dX.dV)
  (ho2:∀x∈own,∃o',H.ep.dZ (gR n c.nc x.1)=Y o'/\kw (gR n c.nc) (·∈(c.X++own).map (·.1)) (up n) c.DF o' x.2){D m:L A}(Q:KJ (gR n c.nc) (·∈(c.X++own).map (·.1)) (up n) c.DF D m)
  {Fin:T AO->Prop}(hrun:∀U,(∀x∈c.X++own,U.dZ x.1=Y x.2)->eX U H.dX->∃I,Fin I.ep/\eL P c.E f m ⟨U,H.dX⟩ λr H2=>r=.eK []/\H2=I)
  {Good:L (S×AO)->Prop}(hfin:∀m1',Fin m1'->∃l:L (S×AO),(l.map (·.1)).Nodup/\(∀y∈l,y.1∈((c.X++own).map (·.1)).map (gR n c.nc)/\y.2≠.eY/\pO (λ_=>True) (λ_=>False) y.2/\∃o1,m1'.dZ (jE n c.nc y.1)=Y o1/\kw (jE n c.nc) (·∈((c.X++own).map (·.1)).map (gR n c.nc)) id (λ_=>False) o1 y.2)/\Good l):
  ∃l H',(Good l/\(∀y∈l,H'.ep.dZ y.1=Y y.2)/\H'.dX=H.dX/\∀p o,H'.ep.dZ p=Y o->(p,o)∈l)/\eL P G f D H λr H2=>r=.eK []/\H2=H':=by
 have hb:=c.below;have hnc:=c.nc.jD;have hn1:=n.jD;have R:((c.X++own).map (·.1)).Nodup:=by rw[oj,c.oT];refine B1.2 ⟨c.op.nd,hnd,λa ha b hb' e=>?_⟩;obtain⟨x,B,rfl⟩:=gS.1 hb';have W:=hb a ha;have h2:=ho1 x B;rw[e]at W;omega
 obtain⟨U,W,h2⟩:=Rj (c.X++own) R;have hlt:∀q∈(c.X++own).map (·.1),q.dV<H.dX.dV:=by
  intro q t;rw[oj,c.oT]at t;obtain h|h:=jf.1 t
  .have:=hb q h;omega
  obtain⟨x,B,rfl⟩:=gS.1 h;exact ho3 x B
 have hbel:eX U H.dX:=λp o hp=>hlt p (gS.2 ⟨(p,o),h2 p o hp,Z⟩);obtain⟨I,hF,z⟩:=hrun U W hbel;obtain⟨l,hl1,hl2,hl3⟩:=hfin _ hF;obtain⟨mz,hz1,hz2⟩:=Rj l hl1;have hDFk:∀q,c.DF q->q=c.pm\/∃k,c.K q=Y k:=λq t=>by have:(c.E.fU q).isSome=dT:=t;obtain⟨w,h⟩:=oW.1 this;exact KK h
 have N:∀q,c.DF q->q.dV<c.nc.dV:=λq t=>by have:(c.E.fU q).isSome=dT:=t;obtain⟨w,h⟩:=oW.1 this;obtain⟨dY,W,_⟩:=Qk h;exact c.op.eH _ _ W
 haveI:DecidablePred c.DF:=λq=>Classical.propDecidable _
 refine⟨l,⟨mz,H.dX⟩,⟨hl3,hz1,Z,hz2⟩,eL.aa8 (G':=c.E) (H1:=⟨U,H.dX⟩) ((c.X++own).map (·.1)) (gR n c.nc) (jE n c.nc) (up n) c.DF Z Z C hfr (λq w t=>⟨by show(c.E.fU q).isSome=dT;rw[t];rfl,?_⟩) (λq t=>t) (λq q' _ _ e=>adj e) (λq t s=>?_) (λp _=>Ls _ _ _) (λp o hp=>?_) (λp hp=>?_) (λq t s=>?_) Q z λr1 H1'' hr=>?_⟩
 .exact ado c.op.eH c.op.kE c.op.DM c.op.sW (λp hp=>⟨_,(c.op.ops p hp).1⟩) hm q w t
 .obtain⟨p,hp,e⟩:=gS.1 s;have hq2:=N q t;rw[<-sY (n:=n) hq2]at e;have e2:p=q:=by rw[<-Ls n c.nc p,e,Ls]
  subst e2;rw[oj,c.oT]at hp;obtain h|h:=jf.1 hp
  .obtain e|⟨k,hk⟩:=hDFk p t
   .have j:=c.op.DM;rw[<-e]at j;simp only[eZ,f7,fZ]at h;obtain rfl|rfl|rfl|rfl|rfl|rfl:=h
    .rw[c.op.dY]at j;simp at j
    .rw[c.op.d]at j;cases j
    .rw[c.op.f]at j;cases j
    .rw[c.op.n]at j;cases j
    .rw[c.op.r]at j;cases j
    rw[c.op.v]at j;cases j
   obtain⟨dY,u,_⟩:=c.op.kE p k hk;simp only[eZ,f7,fZ]at h;obtain rfl|rfl|rfl|rfl|rfl|rfl:=h
   .rw[c.op.Rf.2]at hk;cases hk
   .rw[c.op.d]at u;cases u
   .rw[c.op.f]at u;cases u
   .rw[c.op.n]at u;cases u
   .rw[c.op.r]at u;cases u
   rw[c.op.v]at u;cases u
  obtain⟨x,B,rfl⟩:=gS.1 h;have:=ho1 x B;omega
 .have B:=h2 p o hp;refine⟨gS.2 ⟨_,B,Z⟩,?_⟩;obtain h|h:=jf.1 B
  .exact c.ads hm (λq t=>by rw[oj,c.oT];exact jf.2 (.inl t)) _ h
  exact ho2 _ h
 .obtain⟨x,B,rfl⟩:=gS.1 hp;exact⟨_,W x B⟩
 .have:=hlt q s;dsimp only at t;omega
 obtain⟨rfl,rfl⟩:=hr;refine⟨.eK [],⟨mz,H.dX⟩,⟨Z,Z⟩,.eK _ _ Z EO,.eK _ Cy,Z,λq o t=>?_⟩;have:=hl2 _ (hz2 q o t);exact this
def Rl{Q:Type}{c:Nat}:∀{l:L (L Q)},(∀x∈l,O x<=c)->O l.flatten<=O l*c:=by
 intro l;induction l with
 |nil=>intro _;simp
 |cons a l i=>intro h;have K:=h a ei;have r:=i λx v=>h x xo;rw[nK,iN,lV,zN];omega
def wW.room(t:rR G K){p:S}{e:Option S}(n:K p=Y (.op d e m)){q:L A}(h:wW P G K p q):O q*16<=kr:=by
 refine gT λhM=>?_;obtain⟨s,D,H,f,C,I,vb,os,rs,E,t1,t2,t4,v1,v2,v4,B,Ta,z,q2,q4,w,l3,f1,N,Q,R,f2,U,u,W,f4,x1,x3,x4,g,rfl⟩:=h.dY;obtain⟨_,F,_⟩:=t.op _ _ _ _ n _ _ _ _ _ _ _ E z w;have h1:O ((E.map λr=>((B r).map λb=>(Ta b).2).flatten).flatten)<=O E*(200*eI):=by
  have:=Rl (c:=200*eI) (l:=E.map λr=>((B r).map λb=>(Ta b).2).flatten) λx v=>by
   obtain⟨r,k,rfl⟩:=gS.1 v;obtain⟨o,y,_,_,i,j⟩:=g r k;have:=Rl (c:=eI) (l:=(B r).map λb=>(Ta b).2) λx v=>by obtain⟨b,a,rfl⟩:=gS.1 v;obtain⟨_,_,_,_,_,_,_,h⟩:=j b a;exact h
   rw[jH]at this;exact ny this (nL _ i)
  rwa[jH]at this
 have h3:O E*(200*eI)<=100*(200*eI):=nL _ F;rw[iN,iN,iN];unfold kr;generalize iT s [102,117,110,99,46,102,117,110,99]=bs;cases bs
 .simp only[uH];omega
 dsimp only;omega
def adt(P:Program)(G:ez)(K:Gk)(t:L S)(cell:A->L A)(i:Nat)(e:A):Prop:=∃p z d B l,∃(C:i<O t)(a:A)(s:L A),(z≠0/\O s<=3*LB)/\e=yW p z/\K p=Y (.op d B l)/\oC G K p t[i]/\ee P G 31 [.fz p 0] a/\fC s a/\mf s/\cell e=[.int .i64 (.ofNat i),a,.int .i64 z]
structure By (P:Program)(G:ez){core:List (List A)}{nf:Nat}(c:jF P G core nf)where
 zc:nh P c.E c.K
 v:S→A
 cell:A→List A
 hv:∀f∈c.ps,∀q∈fE c.E f,GM P c.E zc c.ck q (v q)
 Hd:∀i (hi:i<c.ps.length),∀e∈ky v (fE c.E c.ps[i]),adt P c.E c.K c.ps cell i e
 len:(ky v (c.ps.flatMap (fE c.E))).length≤LB
def adu(v:S->A)(a b:L S):ky v (a++b)=ky v a++ky v b:=by simp[ky]
def Rm(v:S->A):∀{t:L S}{f:S->L S},ky v (t.flatMap f)=t.flatMap λx=>ky v (f x):=by
 intro t f;induction t with
 |nil=>rfl
 |cons a l i=>rw[List.flatMap_cons,List.flatMap_cons,adu,i]
theorem By.ex(c:jF P G core nf)(C:iF P G)(D:∀q,G.fU q=J)(so:Bm P c.E)(hE:Ha P c.E core)(hI:Hb core)(hnf:nf<=eI):Nonempty (By P G c):=by
 have hLB:LB=1099511627776:=Z;refine gT λhM=>?_;have Q:=c.Lv C D;have g:=c.fg D;have t:=c.adp;obtain⟨Sa⟩:=nh.ex Q.tofP so g;have ok:=c.ok hE hI;have F:∀f∈c.ps,∃l,c.K f=Y (.op 0 J l):=λf w=>⟨0,(c.op.ops f w).1⟩
 have n:∀f∈c.ps,∀q∈fE c.E f,oC c.E c.K q f/\∃d B l,c.K q=Y (.op d B l)/\Be c.E B:=by
  intro f w q u;obtain⟨l,m⟩:=F f w;obtain e|e:=eZ.1 u
  .subst e;exact⟨.iw _ l m,_,_,_,m,λb _ _ _ h=>by cases h⟩
  exact t.Ri g _ m (.iw f l m) q e
 have ex:∀q:S,∃v:A,∀f∈c.ps,q∈fE c.E f->GM P c.E Sa c.ck q v:=by
  intro q;by_cases h:∃f∈c.ps,q∈fE c.E f
  .let⟨f,w,u⟩:=h
   obtain⟨_,d,B,l,m,ow⟩:=n f w q u;obtain⟨v,a⟩:=acI Q g Sa ok ⟨ow,λts hts=>hts.room t m⟩ m;exact⟨v,λ_ _ _=>a⟩
  exact⟨.jc,λf w u=>absurd ⟨f,w,u⟩ h⟩
 obtain⟨v,a⟩:=xM ex;have U:∀q:S,∃x:A,∀d B l,c.K q=Y (.op d B l)->ee P c.E 31 [.fz q 0] x/\∃s,fC s x/\mf s/\O s<=3*LB:=by
  intro q;by_cases h:∃d B l,c.K q=Y (.op d B l)
  .let⟨d,B,l,m⟩:=h
   obtain⟨x,⟨s,W,r,h4⟩,h3⟩:=abh Q.tofP g m;exact⟨x,λ_ _ _ _=>⟨h3,s,W,r,h4⟩⟩
  exact⟨.ej,λd B l m=>absurd ⟨d,B,l,m⟩ h⟩
 obtain⟨x,hpv⟩:=xM U;have R:∀q:S,∃i:Nat,∀j (I:j<O c.ps),oC c.E c.K q c.ps[j]->i=j:=by
  intro q;by_cases h:∃j,∃I:j<O c.ps,oC c.E c.K q c.ps[j]
  .let⟨j,I,y⟩:=h
   exact⟨j,λk m ht'=>(List.getElem_inj c.op.Bv).1 (y.lT ht')⟩
  exact⟨0,λj I y=>absurd ⟨j,I,y⟩ h⟩
 obtain⟨ix,hix⟩:=xM R
 let⟨La,hL1,hL2⟩:=c.op.sV
 refine⟨⟨Sa,v,λe=>match e with|.iface _ (.fF [.fz p _,.iface _ (.int _ z)] _)=>[V (ix p),x p,.int .i64 z]| _=>[],λf w q u=>a q f w u,λi H e he=>?_,?_⟩⟩
 .have o:=BW.1 he;obtain⟨q,u,rfl⟩:=gS.1 o.1;obtain⟨y,d,B,l,m,_⟩:=n _ (fB H) q u;rcases(a q _ (fB H) u).1 with N|⟨z,hz,N⟩
  .rw[N]at o;simp[GQ]at o
  obtain⟨W,s,r,h3,h4⟩:=hpv q d B l m;refine⟨q,z,d,B,l,H,x q,s,⟨hz,h4⟩,N,m,y,W,r,h3,?_⟩;rw[N];show[V (ix q),x q,.int .i64 z]= _;rw[hix q i H y]
 refine ny (ny (List.length_filter_le _ _) (by rw[jH];exact adh t g F c.op.Bv hL2)) (ny hL1 ?_);rw[hLB]
 calc nf*eI<=eI*eI:=nL _ hnf
  _ =1099511627776:=by rw[hM]
def fK.wz{K:A->eM->Prop}(h:fK P G dT f a H K):∃r D,K r D/\eL P G f a H λd t=>d=r/\t=D:=by
 cases h with
 |any h _=>cases h
 |one r D b c=>exact⟨r,D,b,c⟩
def jF.at(c:jF P G core nf){v:T AO}{nx:S}{b:S->A}(a:∀x∈c.X,v.dZ x.1=Y x.2)(j:eX v nx):c.ck.B c.K b v nx:=
 ⟨a (c.x,.dY c.Rk) Cd,a (c.xd,.map c.ed c.cd) Cd,a (c.xf,.map c.ef c.cf) Cd,a (c.xn,.map (c.en.map gm.ul) c.cn) Cd,a (c.xr,.map c.er c.cr) Cd,⟨[],c.cm,Je,a (c.mp,.map [] c.cm) Cd⟩,j,c.op.ne⟩
def adv(C:iF P G)(hfr:∀q,G.fU q=J)(hplain:∀g cs,G.gX g=Y cs->Plain (.fF cs 0))(c:jF P G core nf)(F:By P G c)(s9:uk P c.E)(hnf:nf<=eI){v lv:A}(hv:v.Pure)(hlv:lv.Pure)
  (hop:eL P G 14 [.agg [v],lv] ⟨.e,.h⟩ λr H=>r=.eK [.ea c.x 0,.int .i64 (.ofNat 0)]/\H=⟨c.mc,c.nc⟩):
  ∃r,(∃u,r=.eK [u,.int .i64 (.ofNat 0)]/\Sl 3 (O (ky F.v (c.ps.flatMap (fE c.E)))) (((ky F.v (c.ps.flatMap (fE c.E))).map F.cell).flatten) u)/\ee P G 6 [.agg [v],lv] r:=by
 refine zH λpv=>?_;refine ee.fj (C.fs.h 6) C.dW (jA pv hlv) (wK ?_);obtain⟨H2,hM⟩:=rN.ex (T.n (Y (AO.dY [v])) T.e T.e) (.o .h) ⟨c.mc,c.nc⟩;have hcall:eL P G 14 [.agg [v],lv] ⟨T.n (Y (AO.dY [v])) T.e T.e,.o .h⟩ λr H=>r=.eK [.ea (up (.o .h) c.x) 0,V 0]/\H=H2:=eL.shift C.dW (by
  intro a ha;simp only[eZ,f7,fZ]at ha;obtain rfl|rfl:=ha
  .exact pv
  exact hlv) hop hM
 let⟨m2,n2⟩:=H2
 obtain⟨nn,enn⟩:∃nn,nn=S.o .h:=⟨_,Z⟩;have tnn:nn.dV=2:=by rw[enn];rfl
 rw[<-enn]at hcall hM⊢;have hnew:=hM.ew;have hnx:=hM.dX;have htop:=hM.iw;dsimp only at hnew hnx htop;have tn2:n2.dV=c.nc.dV+1:=by rw[hnx,kX,tnn];omega
 have hb2:eX m2 n2:=λq o hq=>MC;refine rV ?_;conv=>whnf
 refine hX λm3 n3 em3 en3=>wK ?_;have t3:n3.dV=n2.dV+1:=by rw[en3,S.gG]
 refine IC λg3 m4 em4=>?_;refine hX λm5 n5 em5 en5=>wK ?_;have t5:n5.dV=n3.dV+1:=by rw[en5,S.gG]
 refine hX λm6 n6 U en6=>wK ?_;refine zX λt6=>?_;have g6:=gE U;refine mF g6 ?_;refine oV λm7 em7=>?_;have s7:∀q:S,q.dV<n2.dV->m7.dZ q=m2.dZ q:=λq hq=>by rw[em7,eJ M,U,eJ M,em5,eJ M,em4,eJ M,em3,eJ M]
 have k6:m7.dZ n2=Y (.dY [.ea (up nn c.x) 0]):=by rw[em7,eJ M,U,eJ M,em5,eJ M,em4];exact fY
 have k8:m7.dZ n3=Y (.dY [.ej]):=by rw[em7,eJ M,U,eJ M,em5];exact fY
 have k9:=gE em7;have b7:eX m7 n6:=by
  have h3:eX m3 n3:=by rw[em3,en3];exact hb2.ew
  have h4:eX m4 n3:=by rw[em4];exact h3.put M
  have h5:eX m5 n5:=by rw[em5,en5];exact h4.ew
  have h6:eX m6 n6:=by rw[U,en6];exact h5.ew
  rw[em7];exact h6.put M
 have hcan:∀(q:S) o,c.mc.dZ q=Y o->(up nn q).dV<n2.dV/\m7.dZ (up nn q)=o.M (up nn):=λq o hq=>by have h1:=c.op.eH q o hq;have h2:=kX nn q;have h3:=hnew q h1;rw[hq]at h3;exact⟨M,by rw[s7 _ M];exact h3⟩
 refine S3 λkx kpm=>?_;clear em7 U em5 em4 em3 g3 g6;refine gC ?_;repeat'(first|refine eu k6 ?_|refine eu kx ?_|refine eu kpm ?_|refine gI (gK _) (wK ?_)|fail)
 refine fK.j7 (C.fs.h 17) ?_;have hvc:(c.vf.M (up nn)).cells=[c.vf.M (up nn)]:=by obtain⟨h,_⟩|⟨t,h⟩:=c.op.sW<;>rw[h]<;>rfl
 conv=>whnf
 refine hX λm8 n8 em8 en8=>wK ?_;have t8:n8.dV=n6.dV+1:=by rw[en8,S.gG]
 rw[hvc];refine hX λm9 n9 em9 en9=>wK ?_;have t9:n9.dV=n8.dV+1:=by rw[en9,S.gG]
 refine eT.range C.ey Z (C.fs.h 32) Z λR bo has hbo=>?_;refine Bp (wK ?_);intro l iX m10 m11 en10 en11 w em11;have t10:l.dV=n9.dV+1:=by rw[en10,S.gG]
 have t11:iX.dV=l.dV+1:=by rw[en11,S.gG]
 have s11:∀q:S,q.dV<n6.dV->m11.dZ q=m7.dZ q:=λq hq=>by rw[em11,eJ M,w,eJ M,em9,eJ M,em8,eJ M]
 have k6:=(s11 n2 M).trans k6;have k8:=(s11 n3 M).trans k8;have k9:=(s11 n5 M).trans k9;have kb2:m11.dZ n6=Y (.dY [.ea (up nn c.x) 0]):=by rw[em11,eJ M,w,eJ M,em9,eJ M,em8];exact fY
 have kb3:m11.dZ n8=Y (.dY [c.vf.M (up nn)]):=by rw[em11,eJ M,w,eJ M,em9];exact fY
 have kdd:m11.dZ n9=Y .fX:=by rw[em11,eJ M,w];exact fY
 refine Nb λkl hcan iw=>?_;clear em11 w em9 em8;refine Nx λC' g Fu=>?_;obtain⟨s,herrs⟩:∃s,s=ky F.v (c.ps.flatMap (fE c.E)):=⟨_,Z⟩;rw[<-herrs];have N:∀e∈s,Bu P c.E c.K c.ps F.cell e:=λe he=>S9;refine MH λhbc mpl nmp nx'=>?_;obtain⟨own,hown⟩:∃own:L (S×AO),own=[(n2,.dY [.ea c.x 0]),(n3,.dY [.ej]),(n5,.dY [.func (.func 15) [] [.ea n3 0,.ea n2 0]]),(n6,.dY [.ea c.x 0]),(n8,.dY [c.vf.w]),(n9,.fX),(l,.loop .ready J Go.As.n6 (gB [T9] [.ea n5 0]) [30] R bo n9)]:=⟨_,Z⟩;have hD:∀q:S,(q=n2\/q=n3\/q=n5\/q=n6\/q=n8\/q=n9\/q=l)->q∈(c.X++own).map (·.1):=λq h=>Mo;have hDx:c.x∈(c.X++own).map (·.1):=by rw[oj,c.oT];simp
 have I:∀q:S,n2.dV<=q.dV->q∈(c.X++own).map (·.1)->gU (gR nn c.nc) (·∈(c.X++own).map (·.1)) (up nn) c.DF (.ea q 0) (.ea q 0):=λq h1 h2=>by have:=gU.ea (π:=gR nn c.nc) (D:=(·∈(c.X++own).map (·.1))) (θ:=up nn) (DF:=c.DF) q 0 h2;rwa[(iw q h1).1]at this
 have xF:gU (gR nn c.nc) (·∈(c.X++own).map (·.1)) (up nn) c.DF (.ea (up nn c.x) 0) (.ea c.x 0):=by rw[<-sY (hbc c.x (by simp))];exact .ea c.x 0 hDx
 have lU:∀{a b:A},gU (gR nn c.nc) (·∈(c.X++own).map (·.1)) (up nn) c.DF a b->kw (gR nn c.nc) (·∈(c.X++own).map (·.1)) (up nn) c.DF (.dY [a]) (.dY [b]):=λh=>.dY _ _ Z λi hi hi'=>by
  match i,hi with
  |0,_=>exact h
 have funF:gU (gR nn c.nc) (·∈(c.X++own).map (·.1)) (up nn) c.DF (.func (.func 15) [] [.ea n3 0,.ea n2 0]) (.func (.func 15) [] [.ea n3 0,.ea n2 0]):=
  .func _ [] [] _ _ Z EO Z λi hi hi'=>by
   match i,hi with
   |0,_=>exact I n3 M (hD _ ei)
   |1,_=>exact I n2 M (hD _ ei)
 have zj:kw (gR nn c.nc) (·∈(c.X++own).map (·.1)) (up nn) c.DF (.loop .ready J Go.As.n6 (gB [T9] [.ea n5 0]) [30] R bo n9) (.loop .ready J Go.As.n6 (gB [T9] [.ea n5 0]) [30] R bo n9):=by
  have:=kw.loop (π:=gR nn c.nc) (D:=(·∈(c.X++own).map (·.1))) (θ:=up nn) (DF:=c.DF) .ready J Go.As.n6 (gB [T9] [.ea n5 0]) (gB [T9] [.ea n5 0]) [30] R bo n9 (hD _ ei) λt v hv=>by have:=FQ hv;simp only[eZ,f7,fZ]at this;subst this;exact⟨_,hv,I n5 M (hD _ ei)⟩
  rwa[(iw n9 M).1]at this
 refine VA λvfF=>?_;have run:=c.call hfr hplain (n:=nn) (H:=⟨m11,iX⟩) (λq _ o ho _ _=>hcan q o ho) US own (by
   refine Cm λx hx=>?_;obtain rfl|rfl|rfl|rfl|rfl|rfl|rfl:=hx<;>(dsimp only;omega)) (by
   refine El λne=>?_;rw[hown];simp only[jL,qH,qB,eZ,f7,fZ,not_or,pE,wm,pA];refine⟨⟨?_,?_,?_,?_,?_,?_⟩,⟨?_,?_,?_,?_,?_⟩,⟨?_,?_,?_,?_⟩,⟨?_,?_,?_⟩,⟨?_,?_⟩,?_⟩<;>exact ne _ _ M) (by
   refine Cm λx hx=>?_;obtain rfl|rfl|rfl|rfl|rfl|rfl|rfl:=hx<;>(dsimp only;omega)) (by
   intro x hx;have hx':=hx;rw[hown]at hx';simp only[eZ,f7,fZ]at hx';obtain rfl|rfl|rfl|rfl|rfl|rfl|rfl:=hx'
   .exact⟨_,by rw[(iw _ (by dsimp only;omega)).1];exact k6,lU xF⟩
   .exact⟨_,by rw[(iw _ (by dsimp only;omega)).1];exact k8,lU .ej⟩
   .exact⟨_,by rw[(iw _ (by dsimp only;omega)).1];exact k9,lU funF⟩
   .exact Mn
   .exact NI
   .exact M8
   exact Nf)
  (f:=32) (D:=[.gF l,.ea n8 0,.ea n6 0]) (m:=[.gF l,.ea n8 0,.ea n6 0]) ⟨by have:=gU.gF (π:=gR nn c.nc) (D:=(·∈(c.X++own).map (·.1))) (θ:=up nn) (DF:=c.DF) l (hD _ ei);rwa[(iw l M).1]at this,I n8 M (hD _ ei),I n6 M (hD _ ei),eR⟩
  (Fin:=λm=>GT c.ck F.cell s l n2 n3 n5 n9 R bo [] m .h) (Good:=λeG=>∃u,eG=[(l,.loop .ready J Go.As.n6 (gB [T9] [.ea n5 0]) [30] R bo n9),(n9,.fX),(n3,.dY [u])]/\Sl 3 (O s) ((s.map F.cell).flatten) u) ?_ ?_
 rotate_left
 .refine NP λm1 h1 hb1 ob ow=>?_;have at1:c.ck.B c.K F.zc.fv m1 iX:=c.at ob hb1;have tk:=acR C'.tofP s9 g (fv:=F.zc.fv) (k:=c.ck) (n0:=iX) (l:=l) (b6:=n2) (b8:=n3) (b9:=n5) (dd:=n9) Fu Z N (by rw[herrs];exact F.len) has hbo ⟨M,M,M,M,M⟩ ⟨nmp _ M,nmp _ M,nmp _ M,nmp _ M,nmp _ M⟩ (nx' _ M);have hI:GT c.ck F.cell s l n2 n3 n5 n9 R bo s m1 iX:=⟨⟨[],.ej,J,Z,ow (n3,_) ei,.nil,λq e=>by cases e⟩,ow (n2,.dY [.ea c.x 0]) ei,ow (n5,_) ei,ow (l,_) ei,ow (n9,_) ei⟩
  rw[herrs]at hI tk;have fr:=Ln C'.tofP g (W:=λp=>p∈c.ps.flatMap (fE c.E)) (v:=F.v) (λp hp=>by obtain⟨f,hf,hq⟩:=oX.1 hp;exact F.hv f hf p hq) tk (b1:=n8) (b2:=n6) (ph c.op.sW) Fu.op (λf hf q hq=>oX.2 ⟨f,hf,hq⟩) Fu.len at1 hI (ow (n8,_) ei) (ow (n6,.dY [.ea c.x 0]) ei) mi (nmp _ M) (Q:=λr H=>r=.eK []/\GT c.ck F.cell s l n2 n3 n5 n9 R bo [] H.ep .h) (λm nx h _=>⟨Z,by rw[herrs];exact h⟩) I0
  exact MB
 .rintro m1' ⟨⟨done,u,t,e1,e2,e3,_⟩,e4,e5,e6,e7⟩;rw[oi]at e1;subst e1;have hcl:∀x∈(s.map F.cell).flatten,x.Pure/\Plain x:=by
   intro x hx;obtain⟨ce,hce,hx⟩:=lE.1 hx;obtain⟨e,he,rfl⟩:=gS.1 hce;obtain⟨p,z,d,bo,nb,i,hi,pv,xs,_,_,_,_,h5,h6,h7⟩:=N e he;rw[h7]at hx;simp only[eZ,f7,fZ]at hx;obtain rfl|rfl|rfl:=hx
   .exact xE
   .exact⟨h5.dW h6.dW,.sl h5 λc hc=>by obtain⟨z,rfl⟩:=h6 c hc;exact .int _ _⟩
   exact xE
  have hll:O ((s.map F.cell).flatten)=O s*3:=by
   have:∀x∈s.map F.cell,O x=3:=λx hx=>by obtain⟨e,he,rfl⟩:=gS.1 hx;obtain⟨p,z,d,bo,nb,i,hi,pv,xs,_,_,_,_,h5,h6,h7⟩:=N e he;rw[h7];rfl
   rw[pS this,jH]
  have hout:∃B,Sl 3 (O s) ((s.map F.cell).flatten) B/\iY (λ_=>True) (λ_=>False) B/\gU (jE nn c.nc) (·∈((c.X++own).map (·.1)).map (gR nn c.nc)) id (λ_=>False) u B:=by
   generalize hcs:(s.map F.cell).flatten=cs at e3 hcl hll;cases e3 with
   |nil=>exact⟨.ej,.inl ⟨Z,by simp at hll;omega,Z⟩,.ej,.ej⟩
   |eG j cs t h hl=>
   obtain rfl:j=O s:=M
   exact⟨.eG 3 (O s) cs .G,.inr ⟨_,mR,Z,hl⟩,.eG _ _ _ _ mR λi hi=>(hcl _ (fB hi)).1 _ _,.G _ _ _ _ _ Z λi hi _=>(hcl _ (fB hi)).2 _ _ _ _⟩
  let⟨B,o1,o2,o3⟩:=hout
  have ep:∀q:S,n2.dV<=q.dV->q∈(c.X++own).map (·.1)->q∈((c.X++own).map (·.1)).map (gR nn c.nc):=λq h1 h2=>gS.2 ⟨q,h2,(iw q h1).1⟩;have ptrT:gU (jE nn c.nc) (·∈((c.X++own).map (·.1)).map (gR nn c.nc)) id (λ_=>False) (.ea n5 0) (.ea n5 0):=by have:=gU.ea (π:=jE nn c.nc) (D:=(·∈((c.X++own).map (·.1)).map (gR nn c.nc))) (θ:=id) (DF:=λ_=>False) n5 0 (ep _ M (hD _ ei));rwa[(iw n5 M).2]at this
  have loopT:kw (jE nn c.nc) (·∈((c.X++own).map (·.1)).map (gR nn c.nc)) id (λ_=>False) (.loop .ready J Go.As.n6 (gB [T9] [.ea n5 0]) [30] R bo n9) (.loop .ready J Go.As.n6 (gB [T9] [.ea n5 0]) [30] R bo n9):=by
   have:=kw.loop (π:=jE nn c.nc) (D:=(·∈((c.X++own).map (·.1)).map (gR nn c.nc))) (θ:=id) (DF:=λ_=>False) .ready J Go.As.n6 (gB [T9] [.ea n5 0]) (gB [T9] [.ea n5 0]) [30] R bo n9 (ep _ M (hD _ ei)) λt v hv=>by have:=FQ hv;simp only[eZ,f7,fZ]at this;subst this;exact⟨_,hv,ptrT⟩
   rwa[(iw n9 M).2]at this
  refine⟨_,?_,?_,B,Z,o1⟩
  .refine El λne=>?_;exact TS
  intro y hy;simp only[eZ,f7,fZ]at hy;obtain rfl|rfl|rfl:=hy
  .have k:T.dZ (jE nn c.nc l) m1'=Y (.loop .ready J Go.As.n6 (gB [T9] [.ea n5 0]) [30] R bo n9):=by rw[(iw _ M).2];exact e6
   exact⟨ep _ NG (hD _ ei),ei,⟨eR,λt v hv=>by have:=FQ hv;simp only[eZ,f7,fZ]at this;subst this;exact .ea _ _ eR⟩,_,k,loopT⟩
  .have k:T.dZ (jE nn c.nc n9) m1'=Y .fX:=by rw[(iw _ M).2];exact e7
   exact⟨ep _ NG (hD _ ei),ei,eR,_,k,.fX⟩
  have k:T.dZ (jE nn c.nc n3) m1'=Y (.dY [u]):=by rw[(iw _ M).2];exact e2
  exact⟨ep _ NG (hD _ ei),ei,(λi hi=>by
   match i,hi with
   |0,_=>exact o2),_,k,.dY _ _ Z λi hi _=>by
   match i,hi with
   |0,_=>exact o3⟩
 obtain⟨eG,⟨mz,nz⟩,⟨⟨u,rfl,hsl⟩,hz1,hz2,hz3⟩,hrun⟩:=run;have zl:=hz1 (l,.loop .ready J Go.As.n6 (gB [T9] [.ea n5 0]) [30] R bo n9) ei;have zd:=hz1 (n9,.fX) ei;have z3:=hz1 (n3,.dY [u]) ei;dsimp only at zl zd z3;refine fK.one _ _ ?_ hrun;conv=>whnf
 rw[zl];refine uA ?_;have z3':T.dZ n3 (mz.set l J)=Y (.dY [u]):=by rw[eJ M];exact z3
 have zd':T.dZ n9 (mz.set l J)=Y .fX:=by rw[eJ M];exact zd
 conv=>whnf
 refine eu z3' ?_;rw[zd'];refine my ?_;have hpo:u.Pure:=hsl.dW λx hx=>by
  obtain⟨ce,hce,hx⟩:=lE.1 hx;obtain⟨e,he,rfl⟩:=gS.1 hce;obtain⟨p,z,d,bo,nb,i,hi,pv,xs,_,_,_,_,h5,h6,h7⟩:=N e he;rw[h7]at hx;simp only[eZ,f7,fZ]at hx;obtain rfl|rfl|rfl:=hx
  .exact iQ _ _
  .exact h5.dW h6.dW
  exact iQ _ _
 exact⟨_,.j (kT (by intro c hc;simp only[eZ,f7,fZ]at hc;obtain rfl|rfl:=hc;exact hpo;exact iQ _ _)),u,Z,hsl⟩
def Rn{R:A->A->Prop}:∀{l:L S}{vs vs':L A},O vs=O vs'->(∀i (h:i<O vs)(c:i<O vs'),R vs[i] vs'[i])->∀{q:S}{v:A},(gB l vs').dZ q=Y v->∃u,(gB l vs).dZ q=Y u/\R u v:=by
 intro l;induction l with
 |nil=>intro vs vs' _ _ q v h;simp only[gB]at h;cases q<;>cases h
 |cons a l b=>
 intro vs vs' o n q v h;cases vs' with
 |nil=>simp only[gB]at h;cases q<;>cases h
 |cons w vs'=>
 cases vs with
 |nil=>simp at o
 |cons u vs=>
 simp only[gB]at h⊢;rw[T.jr]at h⊢;split at h
 .rename_i e;rw[gO e];cases h;exact⟨u,Z,n 0 ei ei⟩
 rename_i e;rw[gj e];exact b ME (λi K r=>n (i+1) Ii (by simpa using r)) h
def He{n c a:S}(h:a.dV<n.dV):(jE n c a).dV=a.dV+c.dV - 1:=by have K:=a.jD;have r:=c.jD;rw[jE,gO h,S.toNat_ofNat];omega
def Lw{Q:Type}(q:S):T.dZ q (.e:T Q)=J:=by cases q<;>rfl
def Hf(cell:A->L A):L A->L A
 |[]=>[.int .i64 (.ofNat 0),.ej,.int .i64 (.ofNat 0)]
 |e:: _=>cell e
def adw(C:iF P G)(hfr:∀q,G.fU q=J)(hplain:∀g cs,G.gX g=Y cs->Plain (.fF cs 0))(c:jF P G core nf)(F:By P G c)(s9:uk P c.E)(hnf:nf<=eI){v lv:A}(hv:v.Pure)(hlv:lv.Pure)
  (hop:eL P G 14 [.agg [v],lv] ⟨.e,.h⟩ λr H=>r=.eK [.ea c.x 0,.int .i64 (.ofNat 0)]/\H=⟨c.mc,c.nc⟩):
  ∃r,r=.eK (Hf F.cell (ky F.v (c.ps.flatMap (fE c.E))))/\ee P G 9 [.agg [v],lv] r:=by
 refine zH λpv=>?_;refine ee.fj (C.fs.h 9) C.dW (jA pv hlv) (wK ?_);obtain⟨m0,em0⟩:∃m0:T AO,m0=T.n (Y (AO.dY (A.agg [v]).cells)) (T.n (Y (AO.dY [V 0])) (T.n (Y (AO.dY [V 0])) T.e T.e) T.e) (T.n (Y (AO.dY [A.ej])) T.e T.e):=⟨_,Z⟩;obtain⟨nn,enn⟩:∃nn,nn=S.i (.o .h):=⟨_,Z⟩;have tnn:nn.dV=5:=by rw[enn];rfl
 obtain⟨H2,hM⟩:=rN.ex m0 nn ⟨c.mc,c.nc⟩;have hcall:eL P G 14 [.agg [v],lv] ⟨m0,nn⟩ λr H=>r=.eK [.ea (up nn c.x) 0,V 0]/\H=H2:=eL.shift C.dW (by
  intro a ha;simp only[eZ,f7,fZ]at ha;obtain rfl|rfl:=ha
  .exact pv
  exact hlv) hop hM
 let⟨m2,n2⟩:=H2
 have hnew:=hM.ew;have hnx:=hM.dX;have htop:=hM.iw;have hold:=hM.old;dsimp only at hnew hnx htop hold;have hnc:=c.nc.jD;have tn2:n2.dV=c.nc.dV+4:=by rw[hnx,kX,tnn];omega
 have hb2:eX m2 n2:=λq o hq=>MC;rw[<-em0,<-enn];refine rV ?_;obtain⟨b4,eb4⟩:∃b,b=S.o .h:=⟨_,Z⟩;obtain⟨b5,eb5⟩:∃b,b=S.i .h:=⟨_,Z⟩;obtain⟨b6,eb6⟩:∃b,b=S.o (.o .h):=⟨_,Z⟩;have tb4:b4.dV=2:=by rw[eb4];rfl
 have tb5:b5.dV=3:=by rw[eb5];rfl
 have tb6:b6.dV=4:=by rw[eb6];rfl
 refine Sx λg4 g5 g6 m3 n3 em3 en3=>?_;have t3:n3.dV=n2.dV+1:=by rw[en3,S.gG]
 refine IC λg3 m4 em4=>?_;have g64:=gN em4 (gN em3 g6);refine mF g64 ?_;refine oV λm7 em7=>?_;have k7:m7.dZ n2=Y (.dY [.ea (up nn c.x) 0]):=by rw[em7,eJ M,em4];exact fY
 have k6:=gE em7;have s7:∀q:S,q.dV<n2.dV->q.dV≠b6.dV->m7.dZ q=m2.dZ q:=λq hq h6=>by rw[em7,eJ M,em4,eJ M,em3,eJ M]
 have k4:=(s7 b4 M M).trans g4;have k5:=(s7 b5 M M).trans g5;have b7:eX m7 n3:=by
  have h3:eX m3 n3:=by rw[em3,en3];exact hb2.ew
  have h4:eX m4 n3:=by rw[em4];exact h3.put M
  rw[em7];exact h4.put M
 have hcan:∀(q:S) o,c.mc.dZ q=Y o->(up nn q).dV<n2.dV/\m7.dZ (up nn q)=o.M (up nn):=λq o hq=>by have h1:=c.op.eH q o hq;have h2:=kX nn q;have h3:=hnew q h1;have h4:=q.jD;rw[hq]at h3;exact⟨M,by rw[s7 _ M M];exact h3⟩
 refine S3 λkx kpm=>?_;clear em7 em4 em3 g3 g64;refine eu k6 ?_;refine gC ?_;repeat'(first|refine eu k7 ?_|refine eu kx ?_|refine eu kpm ?_|refine gI (gK _) (wK ?_)|fail)
 refine fK.j7 (C.fs.h 17) ?_;have hvc:(c.vf.M (up nn)).cells=[c.vf.M (up nn)]:=by obtain⟨h,_⟩|⟨t,h⟩:=c.op.sW<;>rw[h]<;>rfl
 conv=>whnf
 refine hX λm8 n8 em8 en8=>wK ?_;have t8:n8.dV=n3.dV+1:=by rw[en8,S.gG]
 rw[hvc];refine hX λm9 nd em9 en9=>wK ?_;have t9:nd.dV=n8.dV+1:=by rw[en9,S.gG]
 refine eT.range C.ey Z (C.fs.h 32) Z λI bo has hbo=>?_;refine Bp (wK ?_);intro l iX m10 m11 en10 en11 N em11;have t10:l.dV=nd.dV+1:=by rw[en10,S.gG]
 have t11:iX.dV=l.dV+1:=by rw[en11,S.gG]
 have s11:∀q:S,q.dV<n3.dV->m11.dZ q=m7.dZ q:=λq hq=>by rw[em11,eJ M,N,eJ M,em9,eJ M,em8,eJ M]
 have k7:=(s11 n2 M).trans k7;have k4:=(s11 b4 M).trans k4;have k5:=(s11 b5 M).trans k5;have k6:=(s11 b6 M).trans k6;have kb2:m11.dZ n3=Y (.dY [.ea (up nn c.x) 0]):=by rw[em11,eJ M,N,eJ M,em9,eJ M,em8];exact fY
 have kb3:m11.dZ n8=Y (.dY [c.vf.M (up nn)]):=by rw[em11,eJ M,N,eJ M,em9];exact fY
 have kdd:m11.dZ nd=Y .fX:=by rw[em11,eJ M,N];exact fY
 refine Nb λkl hcan iw=>?_;clear em11 N em9 em8;obtain⟨s,eq4⟩:∃q,q=jE nn c.nc b4:=⟨_,Z⟩;obtain⟨B,eq5⟩:∃q,q=jE nn c.nc b5:=⟨_,Z⟩;obtain⟨u,eq6⟩:∃q,q=jE nn c.nc b6:=⟨_,Z⟩;have tq4:s.dV=c.nc.dV+1:=by rw[eq4,He M];omega
 have tq5:B.dV=c.nc.dV+2:=by rw[eq5,He M];omega
 have tq6:u.dV=c.nc.dV+3:=by rw[eq6,He M];omega
 have r4:gR nn c.nc s=b4:=by rw[eq4,GZ]
 have r5:gR nn c.nc B=b5:=by rw[eq5,GZ]
 have r6:gR nn c.nc u=b6:=by rw[eq6,GZ]
 refine Nx λC' g Fu=>?_;obtain⟨j,herrs⟩:∃j,j=ky F.v (c.ps.flatMap (fE c.E)):=⟨_,Z⟩;rw[<-herrs];have U:∀e∈j,Bu P c.E c.K c.ps F.cell e:=λe he=>S9;refine MH λhbc mpl nmp nx'=>?_;refine El λne=>?_;obtain⟨own,hown⟩:∃own:L (S×AO),own=[(s,.dY [V 0]),(B,.dY [.ej]),(u,.dY [V 0]),(n2,.dY [.ea c.x 0]),(n3,.dY [.ea c.x 0]),(n8,.dY [c.vf.w]),(nd,.fX),(l,.loop .ready J n9 (gB [T4,T5,T6,T7] [.ea s 0,.ea B 0,.ea u 0,.ea n2 0]) [28] I bo nd)]:=⟨_,Z⟩;have hD:∀q:S,(q=s\/q=B\/q=u\/q=n2\/q=n3\/q=n8\/q=nd\/q=l)->q∈(c.X++own).map (·.1):=λq h=>Mo;have hDx:c.x∈(c.X++own).map (·.1):=by rw[oj,c.oT];simp
 have ptrF:∀q a:S,gR nn c.nc q=a->q∈(c.X++own).map (·.1)->gU (gR nn c.nc) (·∈(c.X++own).map (·.1)) (up nn) c.DF (.ea a 0) (.ea q 0):=λq a h1 h2=>SL;have xF:gU (gR nn c.nc) (·∈(c.X++own).map (·.1)) (up nn) c.DF (.ea (up nn c.x) 0) (.ea c.x 0):=ptrF _ _ (sY (hbc c.x ei)) hDx;have lU:∀{a b:A},gU (gR nn c.nc) (·∈(c.X++own).map (·.1)) (up nn) c.DF a b->kw (gR nn c.nc) (·∈(c.X++own).map (·.1)) (up nn) c.DF (.dY [a]) (.dY [b]):=λh=>.dY _ _ Z λi hi hi'=>by
  match i,hi with
  |0,_=>exact h
 have zj:kw (gR nn c.nc) (·∈(c.X++own).map (·.1)) (up nn) c.DF (.loop .ready J n9 (gB [T4,T5,T6,T7] [.ea b4 0,.ea b5 0,.ea b6 0,.ea n2 0]) [28] I bo nd) (.loop .ready J n9 (gB [T4,T5,T6,T7] [.ea s 0,.ea B 0,.ea u 0,.ea n2 0]) [28] I bo nd):=by
  have:=kw.loop (π:=gR nn c.nc) (D:=(·∈(c.X++own).map (·.1))) (θ:=up nn) (DF:=c.DF) .ready J n9 (gB [T4,T5,T6,T7] [.ea b4 0,.ea b5 0,.ea b6 0,.ea n2 0]) (gB [T4,T5,T6,T7] [.ea s 0,.ea B 0,.ea u 0,.ea n2 0]) [28] I bo nd (hD _ ei) λt v hv=>Rn (R:=gU (gR nn c.nc) (·∈(c.X++own).map (·.1)) (up nn) c.DF) (vs:=[.ea b4 0,.ea b5 0,.ea b6 0,.ea n2 0]) (vs':=[.ea s 0,.ea B 0,.ea u 0,.ea n2 0]) Z (λi h h'=>by
   match i,h with
   |0,_=>exact ptrF s b4 r4 (hD _ ei)
   |1,_=>exact ptrF B b5 r5 (hD _ ei)
   |2,_=>exact ptrF u b6 r6 (hD _ ei)
   |3,_=>exact ptrF n2 n2 (iw _ M).1 (hD _ ei)) hv
  rwa[(iw nd M).1]at this
 refine VA λvfF=>?_;have run:=c.call hfr hplain (n:=nn) (H:=⟨m11,iX⟩) (λq _ o ho _ _=>hcan q o ho) US own (by
   refine Cm λx hx=>?_;obtain rfl|rfl|rfl|rfl|rfl|rfl|rfl|rfl:=hx<;>(dsimp only;omega)) (by
   rw[hown];simp only[jL,qH,qB,eZ,f7,fZ,not_or,pE,wm,pA];refine⟨⟨?_,?_,?_,?_,?_,?_,?_⟩,⟨?_,?_,?_,?_,?_,?_⟩,⟨?_,?_,?_,?_,?_⟩,⟨?_,?_,?_,?_⟩,⟨?_,?_,?_⟩,⟨?_,?_⟩,?_⟩<;>exact ne _ _ M) (by
   refine Cm λx hx=>?_;obtain rfl|rfl|rfl|rfl|rfl|rfl|rfl|rfl:=hx<;>(dsimp only;omega)) (by
   intro x hx;have hx':=hx;rw[hown]at hx';simp only[eZ,f7,fZ]at hx';obtain rfl|rfl|rfl|rfl|rfl|rfl|rfl|rfl:=hx'
   .exact⟨_,by rw[r4];exact k4,lU (.int _ _)⟩
   .exact⟨_,by rw[r5];exact k5,lU .ej⟩
   .exact⟨_,by rw[r6];exact k6,lU (.int _ _)⟩
   .exact⟨_,by rw[(iw _ (by dsimp only;omega)).1];exact k7,lU xF⟩
   .exact Mn
   .exact NI
   .exact M8
   exact Nf)
  (f:=32) (D:=[.gF l,.ea n8 0,.ea n3 0]) (m:=[.gF l,.ea n8 0,.ea n3 0]) ⟨by have:=gU.gF (π:=gR nn c.nc) (D:=(·∈(c.X++own).map (·.1))) (θ:=up nn) (DF:=c.DF) l (hD _ ei);rwa[(iw l M).1]at this,ptrF n8 n8 (iw _ M).1 (hD _ ei),ptrF n3 n3 (iw _ M).1 (hD _ ei),eR⟩
  (Fin:=λm=>(j=[]/\GU c.ck j l s B u n2 nd I bo [] m .h)\/Lq F.cell j l s B u nd I bo m .h) (Good:=λeG=>∃o r4 r5 r6,eG=[(l,o),(nd,.fX),(b4,.dY [r4]),(b5,.dY [r5]),(b6,.dY [r6])]/\((j=[]/\r4=V 0/\r5=.ej/\r6=V 0/\∃F2,o=.loop .ready J n9 F2 [28] I bo nd)\/∃e r,j=e::r/\F.cell e=[r4,r5,r6]/\∃F2,o=.loop .done (Y .ret) n9 F2 [28] I bo nd)) ?_ ?_
 rotate_left
 .refine NP λm1 h1 hb1 ob ow=>?_;have at1:c.ck.B c.K F.zc.fv m1 iX:=c.at ob hb1;have tk:=acU C'.tofP s9 g (fv:=F.zc.fv) (k:=c.ck) (n0:=iX) (l:=l) (b4:=s) (b5:=B) (b6:=u) (b7:=n2) (dd:=nd) Fu Z U has hbo ⟨M,M,M,M,M,M⟩ ⟨nmp _ M,nmp _ M,nmp _ M,nmp _ M,nmp _ M,nmp _ M⟩ ⟨nx' _ M,nx' _ M,nx' _ M⟩ ⟨ne _ _ M,ne _ _ M,ne _ _ M⟩;have hI:GU c.ck j l s B u n2 nd I bo j m1 iX:=⟨Z,ow (s,.dY [V 0]) ei,ow (B,.dY [.ej]) ei,ow (u,.dY [V 0]) ei,ow (n2,.dY [.ea c.x 0]) ei,ow (l,.loop .ready J n9 (gB [T4,T5,T6,T7] [.ea s 0,.ea B 0,.ea u 0,.ea n2 0]) [28] I bo nd) ei,ow (nd,.fX) ei⟩
  rw[herrs]at hI tk;have fr:=Ln C'.tofP g (W:=λp=>p∈c.ps.flatMap (fE c.E)) (v:=F.v) (λp hp=>by obtain⟨f,hf,hq⟩:=oX.1 hp;exact F.hv f hf p hq) tk (b1:=n8) (b2:=n3) (ph c.op.sW) Fu.op (λf hf q hq=>oX.2 ⟨f,hf,hq⟩) Fu.len at1 hI (ow (n8,.dY [c.vf.w]) ei) (ow (n3,.dY [.ea c.x 0]) ei) (λe=>by obtain e|e|e|e:=e<;>(have:=fW S.dV e;omega)) (nmp _ M) (Q:=λr H=>r=.eK []/\((j=[]/\GU c.ck j l s B u n2 nd I bo [] H.ep .h)\/Lq F.cell j l s B u nd I bo H.ep .h)) (λm nx h _=>⟨Z,.inl ⟨by rw[herrs];exact h.1.symm,by rw[herrs];exact h⟩⟩) (λm nx h _=>⟨Z,.inr (by rw[herrs];exact h)⟩)
  exact MB
 .refine Ug λep=>?_;have nod:∀o r4 r5 r6,(([(l,o),(nd,.fX),(b4,.dY [r4]),(b5,.dY [r5]),(b6,.dY [r6])]:L (S×AO)).map (·.1)).Nodup:=λo r4 r5 r6=>by simp only[jL,qH,qB,eZ,f7,fZ,not_or,pE,wm,pA];exact⟨⟨ne _ _ M,ne _ _ M,ne _ _ M,ne _ _ M⟩,⟨ne _ _ M,ne _ _ M,ne _ _ M⟩,⟨ne _ _ M,ne _ _ M⟩,ne _ _ M⟩
  have loopE:∀(st:LoopState)(pe:Option Code)(F2:T A),kw (jE nn c.nc) (·∈((c.X++own).map (·.1)).map (gR nn c.nc)) id (λ_=>False) (.loop st pe n9 F2 [28] I bo nd) (.loop st pe n9 .e [28] I bo nd):=λst pe F2=>by
   have:=kw.loop (π:=jE nn c.nc) (D:=(·∈((c.X++own).map (·.1)).map (gR nn c.nc))) (θ:=id) (DF:=λ_=>False) st pe n9 F2 .e [28] I bo nd (ep nd nd (iw _ M).1 (hD _ ei)) λt v hv=>(by rw[Lw]at hv;cases hv)
   rwa[(iw nd M).2]at this
  have fin:∀(m1':T AO)(st:LoopState)(pe:Option Code)(F2:T A)(v4 v5 v6:A),m1'.dZ l=Y (.loop st pe n9 F2 [28] I bo nd)->m1'.dZ nd=Y .fX->m1'.dZ s=Y (.dY [v4])->m1'.dZ B=Y (.dY [v5])->m1'.dZ u=Y (.dY [v6])->(v4.Pure/\Plain v4)->(v5.Pure/\Plain v5)->(v6.Pure/\Plain v6)->
    ∀y∈([(l,.loop st pe n9 .e [28] I bo nd),(nd,.fX),(b4,.dY [v4]),(b5,.dY [v5]),(b6,.dY [v6])]:L (S×AO)),y.1∈((c.X++own).map (·.1)).map (gR nn c.nc)/\y.2≠.eY/\pO (λ_=>True) (λ_=>False) y.2/\∃o1,m1'.dZ (jE nn c.nc y.1)=Y o1/\kw (jE nn c.nc) (·∈((c.X++own).map (·.1)).map (gR nn c.nc)) id (λ_=>False) o1 y.2:=by
   intro m1' st pe F2 v4 v5 v6 gl gd g4 g5 g6 h4 h5 h6 y hy;refine Wa λrowE hy=>?_;obtain rfl|rfl|rfl|rfl|rfl:=hy
   .have k:T.dZ (jE nn c.nc l) m1'=Y (.loop st pe n9 F2 [28] I bo nd):=by rw[(iw _ M).2];exact gl
    exact TO
   .exact UR
   .exact rowE s b4 v4 eq4.symm r4 (hD _ ei) g4 h4
   .exact rowE B b5 v5 eq5.symm r5 (hD _ ei) g5 h5
   exact rowE u b6 v6 eq6.symm r6 (hD _ ei) g6 h6
  rintro m1' (⟨he,hI⟩|⟨⟨e,r,a,b,cc,h1,h2,h3,h4,h5⟩,F2,h6,h7⟩)
  .let⟨_,h2,h3,h4,h5,h6,h7⟩:=hI
   exact⟨_,nod _ _ _ _,fin m1' .ready J _ _ _ _ h6 h7 h2 h3 h4 xE ⟨kC,λ_ _ _ _=>.ej⟩ xE,_,_,_,_,Z,.inl ⟨he,Z,Z,Z,.e,Z⟩⟩
  have hce:=U e (by rw[h1];simp)
  let⟨p,z,d,bo',nb,i,hi,pv,xs,_,_,_,_,y5,y6,y7⟩:=hce
  rw[h2]at y7;simp only[ti,pA]at y7;obtain⟨rfl,rfl,rfl⟩:=y7;exact⟨_,nod _ _ _ _,fin m1' .done (Y .ret) F2 _ _ _ h6 h7 h3 h4 h5 xE ⟨y5.dW y6.dW,.sl y5 λc hc=>by obtain⟨z,rfl⟩:=y6 c hc;exact .int _ _⟩ xE,_,_,_,_,Z,.inr ⟨e,r,h1,h2,.e,Z⟩⟩
 obtain⟨eG,⟨mz,nz⟩,⟨⟨o,w4,w5,w6,rfl,hcase⟩,hz1,hz2,hz3⟩,hrun⟩:=run;have zl:=hz1 (l,o) ei;have zd:=hz1 (nd,.fX) ei;have z4:=hz1 (b4,.dY [w4]) ei;have z5:=hz1 (b5,.dY [w5]) ei;have z6:=hz1 (b6,.dY [w6]) ei;dsimp only at zl zd z4 z5 z6;refine fK.one _ _ ?_ hrun;obtain⟨he,rfl,rfl,rfl,F2,rfl⟩|⟨e,r,he,hce,F2,rfl⟩:=hcase
 .conv=>whnf
  rw[zl];refine uA ?_;have z4':T.dZ b4 (mz.set l J)=Y (.dY [V 0]):=by rw[eJ M];exact z4
  have z5':T.dZ b5 (mz.set l J)=Y (.dY [.ej]):=by rw[eJ M];exact z5
  have z6':T.dZ b6 (mz.set l J)=Y (.dY [V 0]):=by rw[eJ M];exact z6
  refine MR λzd'=>?_;generalize mz.set l J=ma at z4' z5' z6' zd';conv=>whnf
  refine mF z4' ?_;refine gH λmb emb=>wK ?_;have y5:=gN emb z5';refine mF y5 ?_;refine gH λmc' emc=>wK ?_;have y6:=gN emc (gN emb z6');refine mF y6 ?_;refine gH λmd emd=>wK ?_;have x4:T.dZ b4 (md.set nd J)=Y (.dY [V 0]):=by rw[eJ M,emd,eJ M,emc,eJ M,emb];exact fY
  have x5:T.dZ b5 (md.set nd J)=Y (.dY [.ej]):=by rw[eJ M,emd,eJ M,emc];exact fY
  have x6:T.dZ b6 (md.set nd J)=Y (.dY [V 0]):=by rw[eJ M,emd];exact fY
  have xd:md.dZ nd=Y .fX:=by rw[emd,eJ M,emc,eJ M,emb,eJ M];exact zd'
  rw[xd];refine my ?_;refine sK (qu Z x4 Z (qu Z x5 Z (qu Z x6 Z Z))) ?_;refine⟨_,.j (kT (by intro c hc;simp only[eZ,f7,fZ]at hc;obtain rfl|rfl|rfl:=hc;exact iQ _ _;exact kC;exact iQ _ _)),by rw[he];rfl⟩
 have hpure:∀x∈[w4,w5,w6],x.Pure:=by
  rw[<-hce];obtain⟨p,z,d,bo',nb,i,hi,pv,xs,_,_,_,_,y5,y6,y7⟩:=U e (by rw[he];simp);rw[y7];intro x hx;simp only[eZ,f7,fZ]at hx;obtain rfl|rfl|rfl:=hx
  .exact iQ _ _
  .exact y5.dW y6.dW
  exact iQ _ _
 conv=>whnf
 rw[zl];refine uA ?_;have z4':T.dZ b4 ((mz.set l J).set nd J)=Y (.dY [w4]):=by rw[eJ M,eJ M];exact z4
 have z5':T.dZ b5 ((mz.set l J).set nd J)=Y (.dY [w5]):=by rw[eJ M,eJ M];exact z5
 refine SO λz6'=>?_;refine my ?_;refine sK (qu Z z4' Z (qu Z z5' Z (qu Z z6' Z Z))) ?_;refine⟨_,.j (kT hpure),by rw[he];show _ =A.eK (F.cell e);rw[hce];rfl⟩
def sZ(cell:A->L A):L A->A
 |[]=>.int .i64 (.ofNat 0)
 |e:: _=>match cell e with|[_,_,z]=>z| _=>.gi
def adx(C:iF P G)(hfr:∀q,G.fU q=J)(hplain:∀g cs,G.gX g=Y cs->Plain (.fF cs 0))(c:jF P G core nf)(F:By P G c)(s9:uk P c.E)(hnf:nf<=eI){v lv:A}(hsv:fT 6 fs v)(hfl:O fs=nf)(hv:v.Pure)(hlv:lv.Pure)
  (hop:eL P G 14 [.agg [v],lv] ⟨.e,.h⟩ λr H=>r=.eK [.ea c.x 0,.int .i64 (.ofNat 0)]/\H=⟨c.mc,c.nc⟩){i:Nat}(hi:i<O c.ps):
  ∃r,r=sZ F.cell (ky F.v (fE c.E c.ps[i]))/\ee P G 11 [.agg [v],lv,.int .i64 (.ofNat i)] r:=by
 refine zH λpv=>?_;refine ee.fj (C.fs.h 11) C.dW (C5 pv hlv fI) (wK ?_);obtain⟨m0,em0⟩:∃m0:T AO,m0=T.n (Y (AO.dY (A.agg [v]).cells)) (T.n (Y (AO.dY [V 0])) T.e T.e) T.e:=⟨_,Z⟩;obtain⟨nn,enn⟩:∃nn,nn=S.i .h:=⟨_,Z⟩;have tnn:nn.dV=3:=by rw[enn];rfl
 obtain⟨H2,hM⟩:=rN.ex m0 nn ⟨c.mc,c.nc⟩;have hcall:eL P G 14 [.agg [v],lv] ⟨m0,nn⟩ λr H=>r=.eK [.ea (up nn c.x) 0,V 0]/\H=H2:=eL.shift C.dW (by
  intro a ha;simp only[eZ,f7,fZ]at ha;obtain rfl|rfl:=ha
  .exact pv
  exact hlv) hop hM
 let⟨m2,n2⟩:=H2
 have hnew:=hM.ew;have hnx:=hM.dX;have htop:=hM.iw;have hold:=hM.old;dsimp only at hnew hnx htop hold;have hnc:=c.nc.jD;have tn2:n2.dV=c.nc.dV+2:=by rw[hnx,kX,tnn];omega
 have hb2:eX m2 n2:=λq o hq=>MC;rw[<-em0,<-enn];refine rV ?_;obtain⟨b6,eb6⟩:∃b,b=S.o .h:=⟨_,Z⟩;have tb6:b6.dV=2:=by rw[eb6];rfl
 have g6:m2.dZ b6=Y (.dY [V 0]):=by rw[hold b6 M,em0,eb6];rfl
 obtain⟨b1,eb1⟩:∃b,b=S.h:=⟨_,Z⟩;have tb1:b1.dV=1:=by rw[eb1];rfl
 have g1:m2.dZ b1=Y (.dY [v]):=by rw[hold b1 M,em0,eb1];rfl
 have hif:i<O fs:=by rw[hfl,<-c.op.len];exact hi
 obtain⟨t,hvf⟩:∃t,c.vf=.eG 1 (O c.ps) (gp c.ps) t:=by
  obtain⟨_,h⟩|h:=c.op.sW
  .rw[h]at hi;simp at hi
  exact h
 have hcan:∀(q:S) o,c.mc.dZ q=Y o->(up nn q).dV<n2.dV/\m2.dZ (up nn q)=o.M (up nn):=λq o hq=>by have h1:=c.op.eH q o hq;have h2:=kX nn q;have h3:=hnew q h1;have h4:=q.jD;rw[hq]at h3;exact⟨M,h3⟩
 have kx:m2.dZ (up nn c.x)=Y (.dY ([A.ea c.pm 0,.map c.xd,.map c.xf,.map c.xn,.func (.func 23) [.map c.mp] [],.map c.xr].map (A.M (up nn)))):=(hcan _ _ c.op.dY).2;have kpm:m2.dZ (up nn c.pm)=Y (.dY [.eG 1 (O c.ps) ((gp c.ps).map (A.M (up nn))) (t.M (up nn))]):=by rw[(hcan _ _ c.op.DM).2,hvf];show Y (AO.dY [A.eG 1 (O c.ps) (A.qp (up nn) (gp c.ps)) _])= _;rw[A7]
 have hel:((gp c.ps).map (A.M (up nn)))[i*1]? =Y (.ea (up nn c.ps[i]) 0):=by rw[pz,Rb hi];rfl
 rw[<-eb6,<-eb1];conv=>whnf
 refine eu g1 ?_;refine fM hsv.1 ?_;generalize hb:lh (Int.ofNat i) (Int.ofNat (O fs))=bb;cases bb with
 |false=>exact absurd (iK hb) M
 |true=>
 conv=>whnf
 refine eu kx ?_;refine eu kpm ?_;refine sK (qg (n:=O c.ps) Z Z Z hi) ?_;refine B9 ?_;refine fK.j7 (C.fs.h 17) (wK ?_);refine hX λm8 n8 em8 en8=>wK ?_;have t8:n8.dV=n2.dV+1:=by rw[en8,S.gG]
 refine hX λm9 nd em9 en9=>wK ?_;have t9:nd.dV=n8.dV+1:=by rw[en9,S.gG]
 refine eT.range C.ey Z (C.fs.h 32) Z λB bo has hbo=>?_;refine Bp (wK ?_);intro l U m10 m11 en10 en11 I em11;have t10:l.dV=nd.dV+1:=by rw[en10,S.gG]
 have t11:U.dV=l.dV+1:=by rw[en11,S.gG]
 have s11:∀q:S,q.dV<n2.dV->m11.dZ q=m2.dZ q:=λq hq=>by rw[em11,eJ M,I,eJ M,em9,eJ M,em8,eJ M]
 have k6:=(s11 b6 M).trans g6;have kb2:m11.dZ n2=Y (.dY [.ea (up nn c.x) 0]):=by rw[em11,eJ M,I,eJ M,em9,eJ M,em8];exact fY
 have kb3:m11.dZ n8=Y (.dY [.eG 1 1 [.ea (up nn c.ps[i]) 0] .fE]):=by rw[em11,eJ M,I,eJ M,em9];exact fY
 have kdd:m11.dZ nd=Y .fX:=by rw[em11,eJ M,I];exact fY
 refine Nb λkl hcan iw=>?_;clear em11 I em9 em8;obtain⟨u,eq6⟩:∃q,q=jE nn c.nc b6:=⟨_,Z⟩;have tq6:u.dV=c.nc.dV+1:=by rw[eq6,He M];omega
 have r6:gR nn c.nc u=b6:=by rw[eq6,GZ]
 refine Nx λC' g Fu=>?_;have hpi:=fB hi;obtain⟨s,N⟩:∃s,s=ky F.v (fE c.E c.ps[i]):=⟨_,Z⟩;rw[<-N];have hfit:∀e∈s,Bu P c.E c.K c.ps F.cell e:=λe he=>by rw[N]at he;exact U1
 refine MH λhbc mpl nmp nx'=>?_;refine El λne=>?_;obtain⟨own,hown⟩:∃own:L (S×AO),own=[(u,.dY [V 0]),(n2,.dY [.ea c.x 0]),(n8,.dY [.eG 1 1 [.fz c.ps[i] 0] .fE]),(nd,.fX),(l,.loop .ready J iX (gB [T6] [.ea u 0]) [41] B bo nd)]:=⟨_,Z⟩;have hD:∀q:S,(q=u\/q=n2\/q=n8\/q=nd\/q=l)->q∈(c.X++own).map (·.1):=λq h=>Mo;have hDx:c.x∈(c.X++own).map (·.1):=by rw[oj,c.oT];simp
 have ptrF:∀q a:S,gR nn c.nc q=a->q∈(c.X++own).map (·.1)->gU (gR nn c.nc) (·∈(c.X++own).map (·.1)) (up nn) c.DF (.ea a 0) (.ea q 0):=λq a h1 h2=>SL;have xF:gU (gR nn c.nc) (·∈(c.X++own).map (·.1)) (up nn) c.DF (.ea (up nn c.x) 0) (.ea c.x 0):=ptrF _ _ (sY (hbc c.x ei)) hDx;have lU:∀{a b:A},gU (gR nn c.nc) (·∈(c.X++own).map (·.1)) (up nn) c.DF a b->kw (gR nn c.nc) (·∈(c.X++own).map (·.1)) (up nn) c.DF (.dY [a]) (.dY [b]):=λh=>.dY _ _ Z λi hi hi'=>by
  match i,hi with
  |0,_=>exact h
 have zj:kw (gR nn c.nc) (·∈(c.X++own).map (·.1)) (up nn) c.DF (.loop .ready J iX (gB [T6] [.ea b6 0]) [41] B bo nd) (.loop .ready J iX (gB [T6] [.ea u 0]) [41] B bo nd):=by
  have:=kw.loop (π:=gR nn c.nc) (D:=(·∈(c.X++own).map (·.1))) (θ:=up nn) (DF:=c.DF) .ready J iX (gB [T6] [.ea b6 0]) (gB [T6] [.ea u 0]) [41] B bo nd (hD _ ei) λt v hv=>Rn (R:=gU (gR nn c.nc) (·∈(c.X++own).map (·.1)) (up nn) c.DF) (vs:=[.ea b6 0]) (vs':=[.ea u 0]) Z (λi h h'=>by
   match i,h with
   |0,_=>exact ptrF u b6 r6 (hD _ ei)) hv
  rwa[(iw nd M).1]at this
 have vfF:gU (gR nn c.nc) (·∈(c.X++own).map (·.1)) (up nn) c.DF (.eG 1 1 [.ea (up nn c.ps[i]) 0] .fE) (.eG 1 1 [.fz c.ps[i] 0] .fE):=by
  refine .fE _ _ _ _ Z λj h h'=>?_
  match j,h with
  |0,_=>refine .fz c.ps[i] 0 ?_;obtain⟨dY,e1,_⟩:=c.op.kE _ _ (c.op.ops _ hpi).1;show(c.E.fU c.ps[i]).isSome=dT;rw[jF.E,sU (c.op.ops _ hpi).1 e1];rfl
 have run:=c.call hfr hplain (n:=nn) (H:=⟨m11,U⟩) (λq _ o ho _ _=>hcan q o ho) (by show nn.dV+c.nc.dV - 1<=U.dV;omega) own (by
   refine Cm λx hx=>?_;obtain rfl|rfl|rfl|rfl|rfl:=hx<;>(dsimp only;omega)) (by
   rw[hown];simp only[jL,qH,qB,eZ,f7,fZ,not_or,pE,wm,pA];refine⟨⟨?_,?_,?_,?_⟩,⟨?_,?_,?_⟩,⟨?_,?_⟩,?_⟩<;>exact ne _ _ M) (by
   refine Cm λx hx=>?_;obtain rfl|rfl|rfl|rfl|rfl:=hx<;>(dsimp only;omega)) (by
   intro x hx;have hx':=hx;rw[hown]at hx';simp only[eZ,f7,fZ]at hx';obtain rfl|rfl|rfl|rfl|rfl:=hx'
   .exact⟨_,by rw[r6];exact k6,lU (.int _ _)⟩
   .exact Mn
   .exact NI
   .exact M8
   exact Nf)
  (f:=32) (D:=[.gF l,.ea n8 0,.ea n2 0]) (m:=[.gF l,.ea n8 0,.ea n2 0]) ⟨by have:=gU.gF (π:=gR nn c.nc) (D:=(·∈(c.X++own).map (·.1))) (θ:=up nn) (DF:=c.DF) l (hD _ ei);rwa[(iw l M).1]at this,ptrF n8 n8 (iw _ M).1 (hD _ ei),ptrF n2 n2 (iw _ M).1 (hD _ ei),eR⟩
  (Fin:=λm=>(s=[]/\GV s l u nd B bo [] m .h)\/Lr F.cell s l u nd B bo m .h) (Good:=λeG=>∃o r6,eG=[(l,o),(nd,.fX),(b6,.dY [r6])]/\r6.Pure/\r6=sZ F.cell s/\((s=[]/\r6=V 0/\∃F2,o=.loop .ready J iX F2 [41] B bo nd)\/∃F2,o=.loop .done (Y .ret) iX F2 [41] B bo nd)) ?_ ?_
 rotate_left
 .refine NP λm1 h1 hb1 ob ow=>?_;have at1:c.ck.B c.K F.zc.fv m1 U:=c.at ob hb1;have tk:=acX C'.tofP s9 g (fv:=F.zc.fv) (k:=c.ck) (n0:=U) (l:=l) (b6:=u) (dd:=nd) hfit has hbo ⟨M,M,M⟩ ⟨nmp _ M,nmp _ M,nmp _ M⟩ (nx' _ M);have hI:GV s l u nd B bo s m1 U:=⟨Z,ow (u,.dY [V 0]) ei,ow (l,.loop .ready J iX (gB [T6] [.ea u 0]) [41] B bo nd) ei,ow (nd,.fX) ei⟩
  have hsl:fC (fu [c.ps[i]]) (.eG 1 1 [.fz c.ps[i] 0] .fE):=.inr zT;have hall:([c.ps[i]].flatMap (fE c.E))=fE c.E c.ps[i]:=ei
  have fr:=Ln C'.tofP g (W:=λp=>p∈fE c.E c.ps[i]) (v:=F.v) (λp hp=>F.hv _ hpi p hp) tk (b1:=n8) (b2:=n2) (fs:=[c.ps[i]]) hsl (λf hf=>by
   simp only[eZ,f7,fZ]at hf;rw[hf];exact Fu.op _ hpi) (λf hf q hq=>by
   simp only[eZ,f7,fZ]at hf;rw[hf]at hq;exact hq) (by simp[eI]) at1 (by rw[hall,<-N];exact hI) (ow (n8,.dY [.eG 1 1 [.fz c.ps[i] 0] .fE]) ei) (ow (n2,.dY [.ea c.x 0]) ei) (λe=>by obtain e|e:=e<;>(have:=fW S.dV e;omega)) (nmp _ M) (Q:=λr H=>r=.eK []/\((s=[]/\GV s l u nd B bo [] H.ep .h)\/Lr F.cell s l u nd B bo H.ep .h)) (λm nx h _=>⟨Z,.inl ⟨h.1.symm,h⟩⟩) (λm nx h _=>⟨Z,.inr h⟩)
  exact MB
 .refine Ug λep=>?_;have nod:∀o r6,(([(l,o),(nd,.fX),(b6,.dY [r6])]:L (S×AO)).map (·.1)).Nodup:=λo r6=>TS;have loopE:∀(st:LoopState)(pe:Option Code)(F2:T A),kw (jE nn c.nc) (·∈((c.X++own).map (·.1)).map (gR nn c.nc)) id (λ_=>False) (.loop st pe iX F2 [41] B bo nd) (.loop st pe iX .e [41] B bo nd):=λst pe F2=>by
   have:=kw.loop (π:=jE nn c.nc) (D:=(·∈((c.X++own).map (·.1)).map (gR nn c.nc))) (θ:=id) (DF:=λ_=>False) st pe iX F2 .e [41] B bo nd (ep nd nd (iw _ M).1 (hD _ ei)) λt v hv=>(by rw[Lw]at hv;cases hv)
   rwa[(iw nd M).2]at this
  have fin:∀(m1':T AO)(st:LoopState)(pe:Option Code)(F2:T A)(v6:A),m1'.dZ l=Y (.loop st pe iX F2 [41] B bo nd)->m1'.dZ nd=Y .fX->m1'.dZ u=Y (.dY [v6])->(v6.Pure/\Plain v6)->
    ∀y∈([(l,.loop st pe iX .e [41] B bo nd),(nd,.fX),(b6,.dY [v6])]:L (S×AO)),y.1∈((c.X++own).map (·.1)).map (gR nn c.nc)/\y.2≠.eY/\pO (λ_=>True) (λ_=>False) y.2/\∃o1,m1'.dZ (jE nn c.nc y.1)=Y o1/\kw (jE nn c.nc) (·∈((c.X++own).map (·.1)).map (gR nn c.nc)) id (λ_=>False) o1 y.2:=by
   intro m1' st pe F2 v6 gl gd g6 h6 y hy;refine Wa λrowE hy=>?_;obtain rfl|rfl|rfl:=hy
   .have k:T.dZ (jE nn c.nc l) m1'=Y (.loop st pe iX F2 [41] B bo nd):=by rw[(iw _ M).2];exact gl
    exact TO
   .exact UR
   exact rowE u b6 v6 eq6.symm r6 (hD _ ei) g6 h6
  rintro m1' (⟨he,hI⟩|⟨⟨e,r,a,b,cc,h1,h2,h3⟩,F2,h6,h7⟩)
  .let⟨_,h2,h6,h7⟩:=hI
   exact⟨_,nod _ _,fin m1' .ready J _ _ h6 h7 h2 xE,_,_,Z,iQ _ _,by rw[he];rfl,.inl ⟨he,Z,.e,Z⟩⟩
  have hce:=hfit e (by rw[h1];simp)
  let⟨p,z,d,bo',nb,i',hi',pv,xs,_,_,_,_,y5,y6,y7⟩:=hce
  have y8:=y7;rw[h2]at y7;simp only[ti,pA]at y7;obtain⟨rfl,rfl,rfl⟩:=y7;exact⟨_,nod _ _,fin m1' .done (Y .ret) F2 _ h6 h7 h3 xE,_,_,Z,iQ _ _,by rw[h1];simp only[sZ,h2],.inr ⟨.e,Z⟩⟩
 obtain⟨eG,⟨mz,nz⟩,⟨⟨o,w6,rfl,hwp,hw6,hcase⟩,hz1,hz2,hz3⟩,hrun⟩:=run;have zl:=hz1 (l,o) ei;have zd:=hz1 (nd,.fX) ei;have z6:=hz1 (b6,.dY [w6]) ei;dsimp only at zl zd z6;refine fK.one _ _ ?_ hrun;obtain⟨he,rfl,F2,rfl⟩|⟨F2,rfl⟩:=hcase
 .conv=>whnf
  rw[zl];refine uA ?_;have z6':T.dZ b6 (mz.set l J)=Y (.dY [V 0]):=by rw[eJ M];exact z6
  refine MR λzd'=>?_;generalize mz.set l J=ma at z6' zd';conv=>whnf
  refine mF z6' ?_;refine gH λmd emd=>wK ?_;have x6:T.dZ b6 (md.set nd J)=Y (.dY [V 0]):=by rw[eJ M,emd];exact fY
  have xd:=gN emd zd';rw[xd];refine my ?_;refine sK (qu Z x6 Z Z) ?_;exact⟨_,.j hwp,hw6⟩
 conv=>whnf
 rw[zl];refine uA ?_;refine SO λz6'=>?_;refine my ?_;refine sK (qu Z z6' Z Z) ?_;exact⟨_,.j hwp,hw6⟩
def ady(C:iF P G){v lv:A}(hv:v.Pure)(hlv:lv.Pure){e:Int}(he:e≠0)(hop:eL P G 14 [.agg [v],lv] ⟨.e,.h⟩ λr H=>r=.eK [.gi,.int .i64 e]/\H=j):∃r,r=.eK [.ej,.int .i64 e]/\ee P G 6 [.agg [v],lv] r:=by
 refine zH λpv=>?_;have y:(!gD e (Int.ofNat 0))=dT:=Np;refine ee.fj (C.fs.h 6) C.dW (jA pv hlv) ?_;obtain⟨m0,d⟩:∃m0:T AO,m0=T.n (Y (AO.dY [v])) T.e T.e:=⟨_,Z⟩;obtain⟨nn,g⟩:∃nn,nn=S.o .h:=⟨_,Z⟩;obtain⟨H2,hM⟩:=rN.ex m0 nn j;have hcall:eL P G 14 [.agg [v],lv] ⟨m0,nn⟩ λr H=>r=.eK [.gi,.int .i64 e]/\H=H2:=eL.shift C.dW (by
  intro a ha;simp only[eZ,f7,fZ]at ha;obtain rfl|rfl:=ha
  .exact pv
  exact hlv) hop hM
 let⟨N,f⟩:=H2
 have b:=hM.old;have i:=hM.dX;dsimp only at b i;rw[d,g]at hcall;conv=>whnf
 refine rV ?_;conv=>whnf
 refine hX λl n3 em3 k=>wK ?_;refine IC λg3 m4 em4=>?_;rw[y];conv=>whnf
 exact⟨_,.j (kT (by intro c K;simp only[eZ,f7,fZ]at K;obtain rfl|rfl:=K;exact kC;exact iQ _ _)),Z⟩
def adz(C:iF P G){v lv:A}(hv:v.Pure)(hlv:lv.Pure){e:Int}(he:e≠0){p:eM}(hop:eL P G 14 [.agg [v],lv] ⟨.e,.h⟩ λr H=>r=.eK [.gi,.int .i64 e]/\H=p):∃r,r=.eK [.int .i64 (.ofNat 0),.ej,.int .i64 e]/\ee P G 9 [.agg [v],lv] r:=by
 refine zH λpv=>?_;have y:(!gD e (Int.ofNat 0))=dT:=Np;refine ee.fj (C.fs.h 9) C.dW (jA pv hlv) ?_;obtain⟨m0,em0⟩:∃m0:T AO,m0=T.n (Y (AO.dY (A.agg [v]).cells)) (T.n (Y (AO.dY [V 0])) (T.n (Y (AO.dY [V 0])) T.e T.e) T.e) (T.n (Y (AO.dY [A.ej])) T.e T.e):=⟨_,Z⟩;obtain⟨nn,j⟩:∃nn,nn=S.i (.o .h):=⟨_,Z⟩;have u:nn.dV=5:=by rw[j];rfl
 obtain⟨H2,hM⟩:=rN.ex m0 nn p;have hcall:eL P G 14 [.agg [v],lv] ⟨m0,nn⟩ λr H=>r=.eK [.gi,.int .i64 e]/\H=H2:=eL.shift C.dW (by
  intro a ha;simp only[eZ,f7,fZ]at ha;obtain rfl|rfl:=ha
  .exact pv
  exact hlv) hop hM
 let⟨m2,f⟩:=H2
 have hold:=hM.old;have k:=hM.dX;dsimp only at hold k;conv=>whnf
 rw[<-em0,<-j];refine rV ?_;obtain⟨b4,eb4⟩:∃b,b=S.o .h:=⟨_,Z⟩;obtain⟨b5,eb5⟩:∃b,b=S.i .h:=⟨_,Z⟩;obtain⟨b6,eb6⟩:∃b,b=S.o (.o .h):=⟨_,Z⟩;have D:b4.dV=2:=by rw[eb4];rfl
 have E:b5.dV=3:=by rw[eb5];rfl
 have I:b6.dV=4:=by rw[eb6];rfl
 have N:5<=f.dV:=by rw[k,kX,u];have:=p.dX.jD;omega
 refine Sx λg4 g5 g6 m3 n3 em3 en3=>?_;refine IC λg3 m4 em4=>?_;have q:=gN em4 (gN em3 g6);refine mF q ?_;refine gH λx F=>wK ?_;have s:=gE F;have z:x.dZ b4=Y (.dY [V 0]):=by rw[F,eJ M,em4,eJ M,em3,eJ M];exact g4
 have B:x.dZ b5=Y (.dY [.ej]):=by rw[F,eJ M,em4,eJ M,em3,eJ M];exact g5
 refine eu s ?_;rw[y];conv=>whnf
 refine gC ?_;refine eu s ?_;refine mF z ?_;refine gH λW d=>wK ?_;have t:=gN d B;have l:=gN d s;repeat'(first|refine eu l ?_|refine gI (gK _) (wK ?_)|fail)
 refine mF t ?_;refine oV λm7 em7=>?_;have m:=gN em7 l;repeat'(first|refine eu m ?_|refine gI (gK _) (wK ?_)|fail)
 refine mF m ?_;refine gH λw g=>wK ?_;repeat'(first|refine gI (gK _) (wK ?_)|fail)
 have Q:w.dZ b4=Y (.dY [V 0]):=by rw[g,eJ M,em7,eJ M,d];exact fY
 have R:w.dZ b5=Y (.dY [.ej]):=by rw[g,eJ M,em7];exact fY
 have U:=gE g;refine sK (qu Z Q Z (qu Z R Z (qu Z U Z Z))) ?_;exact⟨_,.j (kT (by intro c K;simp only[eZ,f7,fZ]at K;obtain rfl|rfl|rfl:=K;exact iQ _ _;exact kC;exact iQ _ _)),Z⟩
def adA(C:iF P G){v lv:A}(hv:v.Pure)(hlv:lv.Pure){e:Int}(he:e≠0)(hop:eL P G 14 [.agg [v],lv] ⟨.e,.h⟩ λr H=>r=.eK [.gi,.int .i64 e]/\H=l)(i:Nat):∃r,r=.int .i64 e/\ee P G 11 [.agg [v],lv,.int .i64 (.ofNat i)] r:=by
 refine zH λpv=>?_;have y:(!gD e (Int.ofNat 0))=dT:=Np;refine ee.fj (C.fs.h 11) C.dW (C5 pv hlv fI) ?_;obtain⟨m0,g⟩:∃m0:T AO,m0=T.n (Y (AO.dY (A.agg [v]).cells)) (T.n (Y (AO.dY [V 0])) T.e T.e) T.e:=⟨_,Z⟩;obtain⟨nn,j⟩:∃nn,nn=S.i .h:=⟨_,Z⟩;have s:nn.dV=3:=by rw[j];rfl
 obtain⟨H2,hM⟩:=rN.ex m0 nn l;have hcall:eL P G 14 [.agg [v],lv] ⟨m0,nn⟩ λr H=>r=.eK [.gi,.int .i64 e]/\H=H2:=eL.shift C.dW (by
  intro a ha;simp only[eZ,f7,fZ]at ha;obtain rfl|rfl:=ha
  .exact pv
  exact hlv) hop hM
 let⟨N,t⟩:=H2
 have c:=hM.old;have k:=hM.dX;dsimp only at c k;conv=>whnf
 rw[<-g,<-j];refine rV ?_;obtain⟨f,d⟩:∃b,b=S.o .h:=⟨_,Z⟩;have q:f.dV=2:=by rw[d];rfl
 have m:N.dZ f=Y (.dY [V 0]):=by rw[c f M,g,d];rfl
 rw[<-d];conv=>whnf
 rw[y];conv=>whnf
 refine mF m ?_;refine gH λx F=>wK ?_;have p:=gE F;refine sK (qu Z p Z Z) ?_;exact⟨_,.j fI,Z⟩
def Lx(C:iF P G){v e a b z:A}(hv:v.Pure)(d:e.Pure)(f:a.Pure/\b.Pure/\z.Pure)(h:ee P G 9 [.agg [v],e] (.eK [a,b,z])):∃r,r=z/\ee P G 8 [.agg [v],e] r:=by refine zH λpv=>?_;refine ee.fj (C.fs.h 8) C.dW (jA pv d) (wK ?_);refine ee.c h ?_;exact⟨_,.j f.2.2,Z⟩
structure Lib (P:Program)(G:ez)(core:List (List A)):Prop where
 adE:∀(K:Gk)(m:T AO)(x:S),Bm P (G.iE K m x)
 s9:∀(K:Gk)(m:T AO)(x:S),uk P (G.iE K m x)
 GJ:∀(K:Gk)(m:T AO)(x:S),(G.iE K m x).Pure→Ha P (G.iE K m x) core
 Ll:Hb core
structure adB (P:Program)(G:ez)(mv lv:A)(e:Int):Prop where
 ne:e≠0
 all:ee P G 6 [mv,lv] (.eK [.ej,.int .i64 e])
 Ro:ee P G 9 [mv,lv] (.eK [.int .i64 (.ofNat 0),.ej,.int .i64 e])
 mW:ee P G 8 [mv,lv] (.int .i64 e)
 fn:∀i:Nat,ee P G 11 [mv,lv,.int .i64 (.ofNat i)] (.int .i64 e)
structure adC (P:Program)(G:ez)(mv lv:A)(nf:Nat)(cell:A→List A)(es:List (List A)):Prop where
 len:es.length=nf
 sV:es.flatten.length≤LB
 Hd:∀i (h:i<es.length),∀e∈es[i],∃pv xs z,(z≠0∧xs.length≤3*LB)∧cell e=[.int .i64 (.ofNat i),pv,.int .i64 z]∧fC xs pv∧mf xs
 all:∃out,Sl 3 es.flatten.length ((es.flatten.map cell).flatten) out∧ee P G 6 [mv,lv] (.eK [out,.int .i64 (.ofNat 0)])
 Ro:ee P G 9 [mv,lv] (.eK (Hf cell es.flatten))
 mW:ee P G 8 [mv,lv] (sZ cell es.flatten)
 fn:∀i (h:i<es.length),ee P G 11 [mv,lv,.int .i64 (.ofNat i)] (sZ cell es[i])
def adD(C:iF P G)(k:∀q,G.fU q=J)(a:∀g cs,G.gX g=Y cs->Plain (.fF cs 0))(Q:Lib P G core)(hc:Df P G vc core)(R:core≠[])(W:ht<=LB){v D:A}{t s:L (L A)}(hm:vI lu ht (.agg [v]) t)(U:∀x∈t,∃c0,c0<=eI/\OpC ht x c0)(hl:fT 3 s D)(hx:iR (lO DAny sL) s)(hxl:O s<=eI):
  (∃e,adB P G (.agg [v]) D e)\/∃cell es,adC P G (.agg [v]) D (O t) cell es:=by
 have hv:fT 6 t v:=by cases hm;assumption
 have o:O t<=eI:=by cases hm;assumption
 have j:v.Pure:=TW;have u:D.Pure:=hl.dW λx h=>(hx x h).dW;obtain⟨r,⟨mc,nc⟩,hr,b⟩:=ade C hc R W hm U hl hx hxl (eX.e (n:=.h));obtain⟨e,m,rfl⟩|⟨K,ps,pm,x,xd,xf,xn,xr,mp,vf,ed,ef,en,er,cd,cf,cn,cr,cm,rfl,op⟩:=hr
 .obtain⟨_,rfl,h1⟩:=ady C j u m b;obtain⟨_,rfl,h2⟩:=adz C j u m b;obtain⟨_,rfl,h3⟩:=Lx C j u ⟨iQ _ _,kC,iQ _ _⟩ h2;exact .inl ⟨e,m,h1,h2,h3,λi=>by obtain⟨_,rfl,h⟩:=adA C j u m b i;exact h⟩
 dsimp only at op;obtain⟨c,ec⟩:∃c:jF P G core (O t),c=⟨K,ps,pm,x,xd,xf,xn,xr,mp,vf,ed,ef,en,er,cd,cf,cn,cr,cm,mc,nc,op⟩:=⟨_,Z⟩;have b:eL P G 14 [.agg [v],D] ⟨.e,.h⟩ λr H=>r=.eK [.ea c.x 0,V 0]/\H=⟨c.mc,c.nc⟩:=by rw[ec];exact b
 obtain⟨F⟩:=By.ex c C k (Q.adE _ _ _) (Q.GJ _ _ _ (c.Lv C k).dW) Q.Ll o;have B:=Q.s9 c.K c.mc c.pm;have el:ky F.v (c.ps.flatMap (fE c.E))=(c.ps.map λf=>ky F.v (fE c.E f)).flatten:=by rw[Rm];rfl
 obtain⟨_,⟨out,rfl,hs⟩,h1⟩:=adv C k a c F B o j u b;obtain⟨_,N,h2⟩:=adw C k a c F B o j u b;rw[el]at hs N;subst N;have w:∀i (h:i<O (c.ps.map λf=>ky F.v (fE c.E f))),∀e∈(c.ps.map λf=>ky F.v (fE c.E f))[i],∃j s z,(z≠0/\O s<=3*LB)/\F.cell e=[V i,j,.int .i64 z]/\fC s j/\mf s:=by
  intro i h e m;have hi:i<O c.ps:=by simpa using h
  rw[mM]at m;obtain⟨p,z,d,bo,nb,hi',j,s,hz,h1,h2,h3,h4,h5,h6,h7⟩:=F.Hd i hi e m;exact⟨j,s,z,hz,h7,h5,h6⟩
 have h3:ee P G 8 [.agg [v],D] (sZ F.cell (c.ps.map λf=>ky F.v (fE c.E f)).flatten):=by
  cases hfe:(c.ps.map λf=>ky F.v (fE c.E f)).flatten with
  |nil=>rw[hfe]at h2;obtain⟨_,rfl,h⟩:=Lx C j u ⟨iQ _ _,kC,iQ _ _⟩ h2;exact h
  |cons e r=>
  rw[hfe]at h2;have m:e∈(c.ps.map λf=>ky F.v (fE c.E f)).flatten:=by rw[hfe];simp
  obtain⟨l,hl1,hl2⟩:=lE.1 m;obtain⟨i,hi,rfl⟩:=km hl1;obtain⟨pv',s,z,_,I,hs1,hs2⟩:=w i hi e hl2;simp only[Hf,I]at h2;obtain⟨_,rfl,h⟩:=Lx C j u ⟨iQ _ _,hs1.dW hs2.dW,iQ _ _⟩ h2;simp only[sZ,I];exact h
 refine .inr ⟨F.cell,c.ps.map λf=>ky F.v (fE c.E f),by rw[jH,c.op.len],by rw[<-el];exact F.len,w,⟨out,hs,h1⟩,h2,h3,λi h=>?_⟩;have hi:i<O c.ps:=by simpa using h
 obtain⟨_,rfl,h4⟩:=adx C k a c F B o hv Z j u b hi;rw[mM];exact h4
