/- Lemmas. No condition. -/
import Derived.Test.YtlkijhibifmamaaGreatDoorBD
import Derived.Lib.Bytealg
import Derived.Laws.Externs
import Derived.Laws.BitsLemmas
set_option linter.all false
set_option autoImplicit true
set_option relaxedAutoImplicit true
set_option maxHeartbeats 0
set_option maxRecDepth 100000
noncomputable section
open Option renaming some→Y,none→J
open Bool renaming true→dT,false→dU
open List renaming length→O
namespace Go.As
variable{P:Program}{G:ez}
def it{a:A}(h:a.Pure):∀v∈[a],v.Pure:=by simpa using h
def jA{a b:A}(h:a.Pure)(r:b.Pure):∀v∈[a,b],v.Pure:=by simp[h,r]
def C5{a b c:A}(h:a.Pure)(r:b.Pure)(m:c.Pure):∀v∈[a,b,c],v.Pure:=by simp[h,r,m]
def Pe(s:L Nat)(b:Bool):(A.eK [.J s,.bool b]).Pure:=kT (jA j5 iz)
def lr(s p:L Nat):Prop:=O p<=O s/\s.take (O p)=p
def AK(s p:L Nat):Prop:=O p<=O s/\s.drop (O s - O p)=p
def Pf(t:j8 P)(r:G.Pure)(s p:L Nat):f9 P G 197 [.J s,.J p] λv=>
  (v=.bool dT/\lr s p)\/(v=.bool dU/\¬lr s p):=by
 refine ee.fj (t.h 197) r uy (wK ?_);refine eW (λh=>?_) (λh=>?_)
 .replace h:=FN h;conv=>whnf
  refine sK (J9 Z Z Z h) ?_;exact VC
 exact Un
def YH(t:j8 P)(r:G.Pure)(s p:L Nat):f9 P G 204 [.J s,.J p] λv=>
  (v=.eK [.J (s.drop (O p)),.bool dT]/\lr s p)\/(v=.eK [.J s,.bool dU]/\¬lr s p):=by
 obtain⟨v,a,g⟩:=Pf t r s p;refine ee.fj (t.h 204) r uy (wK ?_);refine ee.c g ?_;obtain⟨rfl,h⟩|⟨rfl,h⟩:=a
 .conv=>whnf
  refine sK (Ka Z Z Z h.1) ?_;exact Mx
 exact NQ
def wI(t:j8 P)(r:G.Pure)(s p:L Nat):f9 P G 155 [.J s,.J p] λv=>
  (v=.eK [.J (s.drop (O p)),.bool dT]/\lr s p)\/(v=.eK [.J s,.bool dU]/\¬lr s p):=by
 obtain⟨v,hv,hf⟩:=YH t r s p;refine ee.fj (t.h 155) r uy (wK ?_);exact SH
def YI(t:j8 P)(r:G.Pure)(s p:L Nat):f9 P G 143 [.J s,.J p] λv=>∃b,v=.bool b:=by obtain⟨v,a,g⟩:=Pf t r s p;refine ee.fj (t.h 143) r uy (wK ?_);refine ee.c g ?_;obtain⟨rfl,h⟩|⟨rfl,h⟩:=a<;>exact uF
def YJ(t:j8 P)(r:G.Pure)(s p:L Nat)(a:O s<4611686018427387904):f9 P G 291 [.J s,.J p] λv=>
  (v=.bool dT/\AK s p)\/(v=.bool dU/\¬AK s p):=by
 refine ee.fj (t.h 291) r uy (wK ?_);refine eW (λh=>?_) (λh=>?_)
 .replace h:=FN h;conv=>whnf
  refine sK (Ka Z Z (qf h a) M) ?_;exact VC
 exact Un
def YK(t:j8 P)(r:G.Pure)(s p:L Nat)(b:O s<4611686018427387904):f9 P G 267 [.J s,.J p] λv=>
  (v=.eK [.J (s.take (O s - O p)),.bool dT]/\AK s p)\/(v=.eK [.J s,.bool dU]/\¬AK s p):=by
 obtain⟨v,a,g⟩:=YJ t r s p b;refine ee.fj (t.h 267) r uy (wK ?_);refine ee.c g ?_;obtain⟨rfl,h⟩|⟨rfl,h⟩:=a
 .conv=>whnf
  refine sK (J9 Z Z (qf h.1 b) M) ?_;exact Mx
 exact NQ
def YL(t:j8 P)(r:G.Pure)(s p:L Nat)(a:O s<4611686018427387904):f9 P G 246 [.J s,.J p] λv=>
  (v=.eK [.J (s.take (O s - O p)),.bool dT]/\AK s p)\/(v=.eK [.J s,.bool dU]/\¬AK s p):=by
 obtain⟨v,hv,hf⟩:=YK t r s p a;refine ee.fj (t.h 246) r uy (wK ?_);exact SH
def Pg(t:j8 P)(a:G.Pure)(c:Nat):f9 P G 98 [.int .u8 (.ofNat c)] λv=>∃b,v=.bool b/\(b=dT->c≠46):=by
 refine ee.fj (t.h 98) a (it fI) (wK ?_);refine eW (λh=>?_) (λh=>?_)
 .have K:97<=c:=iK ly;conv=>whnf
  refine bK (λr=>?_) λr=>?_
  .exact⟨_,.j iz,_,Z,λ_=>M⟩
  exact mP
 conv=>whnf
 exact mP
def rE(t:j8 P)(r:G.Pure)(s:L Nat)(F:O s<4611686018427387904):f9 P G 37 [.J s] λv=>v=.bool dU\/(v=.bool dT/\s≠[]/\∀c∈s,c≠46):=by
 refine ee.fj (t.h 37) r nJ (wK ?_);refine eW (λh=>?_) (λh=>?_)
 .exact I5
 replace h:=FD h;conv=>whnf
 refine eW (λp=>?_) (λp=>?_)
 .exact I5
 obtain⟨c,a,rfl⟩:∃c l,s=c::l:=by cases s with|nil=>exact absurd Z h|cons c l=>exact⟨c,l,Z⟩
 obtain⟨v,⟨b,rfl,_⟩,hf⟩:=Pg t r c;refine xQ ?_;cases b
 .exact I5
 conv=>whnf
 refine eT.jz r .h (λj w m=>∃k,k+j=O (c::a)/\(∀i (h:i<O (c::a)),i<k->(c::a)[i]≠46)/\w=[.J (c::a),V (O (c::a)),V k]/\m=.e)
  (O (c::a)) Z xP Z ei Z ?_
 rintro j w m ⟨k,D,E,rfl,rfl⟩;conv=>whnf
 refine eW (λf=>?_) (λf=>?_)
 .replace f:=gz f;conv=>whnf
  refine fH (Yj Z Z Z (jq f)) ?_;conv=>whnf
  obtain⟨v,⟨b,rfl,hb46⟩,hf⟩:=Pg t r (c::a)[k];refine ee.c hf ?_;have d:(c::a)[k]≠46->FC .h .h [T0,T19,T20] [] (λn B=>∃o,o<j/\∃k,k+o=O (c::a)/\(∀i (h:i<O (c::a)),i<k->(c::a)[i]≠46)/\n=[.J (c::a),V (O (c::a)),V k]/\B=.e)
    ⟨gB [T0,T19,T20] [.J (c::a),V (O (c::a)),.int .i64 (jN .i64 (.ofNat k+.ofNat 1))],[],⟨.e,.h⟩⟩:=by
   intro y;refine⟨Z,.mk [] _ .e ⟨j - 1,M,k+1,M,λi C u=>(by
    by_cases e:i=k
    .subst e;exact y
    exact E i C M),Z,Z⟩ Z ⟨.ey _ j5,.ey _ fI,?_,eR⟩ eR eR⟩
   refine iu ?_;exact .ey _ fI
  cases b
  .conv=>whnf
   refine bK (λg=>?_) λg=>?_
   .exact Ul
   refine eW (λq=>?_) (λq=>?_)
   .conv=>whnf
    exact Ul
   have g:48<=(c::a)[k]:=iK g;conv=>whnf
   exact d M
  conv=>whnf
  exact d (hb46 Z)
 replace f:=iK f;conv=>whnf
 exact⟨_,.j iz,.inr ⟨Z,ei,λx z=>by obtain⟨i,C,rfl⟩:=km z;exact E i C M⟩⟩
end Go.As
namespace Go.As
open Go.RowKit
variable{P:Program}{G:ez}
def tY(P:Program)(f:FuncId)(e:Array Value->Sem Value):Prop:=
 ∃fn,P.funcs[f]? =Y fn/\(fn.name== "runtime.NumGoroutine")=dU/\fn.body.isNone=dT/\Extern.findNext fn=J/\Extern.find fn=Y e
def YM(l:L UInt8)(c:UInt8):Lib.indexByte l c= -1\/∃k,Lib.indexByte l c=.ofNat k/\k<O l:=by
 induction l with
 |nil=>exact .inl Z
 |cons b l i=>
 unfold Lib.indexByte;split
 .exact .inr ⟨0,Z,ei⟩
 split
 .exact .inl Z
 rename_i h;obtain K|⟨k,K,r⟩:=i
 .rw[K]at h;exact absurd Z h
 exact .inr ⟨k+1,by rw[K];rfl,by simpa using r⟩
def YN(g:tY P 273 Extern.BytealgIndexByte.indexByte)(s:L Nat)(c:Nat):f9 P G 273 [.J s,.int .u8 (.ofNat c)] λv=>
  v=.int .i64 (.negSucc 0)\/∃k,v=.int .i64 (.ofNat k)/\k<O s:=by
 refine⟨.int .i64 (Lib.indexByte (s.map Nat.toUInt8) (Int.ofNat c).toNat.toUInt8),?_,?_⟩
 .obtain h|⟨k,h,e⟩:=YM (s.map Nat.toUInt8) (Int.ofNat c).toNat.toUInt8
  .rw[h];exact .inl Z
  rw[h];exact .inr ⟨k,Z,by simpa using e⟩
 intro H B w X cargs hH n
 let⟨l,m,K,a,d⟩:=n.Q
 obtain⟨i,j,rfl,hu2,hus'⟩:=d.Q;have:=hus'.lZ;subst this;obtain⟨b,rfl,hb⟩:=mn a;have r:i=.int .u8 (.ofNat c):=by cases hu2;rfl
 subst r;have hcargs:cargs=#[.string b,.int .u8 (.ofNat c)]:=by apply wj;simpa using K
 let⟨fn,h1,h3,h4,h5,h6⟩:=g
 refine UI ?_;have f:b.data.toList=s.map Nat.toUInt8:=by
  rw[<-hb,xU];conv=>lhs;rw[<-Cn b.data.toList]
  congr 1;funext x;simp
 rw[f];exact Ns
def YO(t:j8 P)(a:tY P 273 Extern.BytealgIndexByte.indexByte)(r:G.Pure)(s:L Nat)(c:Nat):f9 P G 257 [.J s,.int .u8 (.ofNat c)] λv=>
  v=.int .i64 (.negSucc 0)\/∃k,v=.int .i64 (.ofNat k)/\k<O s:=by
 obtain⟨v,hv,hf⟩:=YN (G:=G) a s c;refine ee.fj (t.h 257) r Ce (wK ?_);exact Wk
def YP(t:j8 P)(a:tY P 273 Extern.BytealgIndexByte.indexByte)(r:G.Pure)(s:L Nat)(c:Nat):f9 P G 231 [.J s,.J [c]] λv=>
  v=.int .i64 (.negSucc 0)\/∃k,v=.int .i64 (.ofNat k)/\k<O s:=by
 obtain⟨v,hv,hf⟩:=YO t a r s c;refine ee.fj (t.h 231) r uy (wK ?_);refine eW (λh=>?_) (λh=>?_)
 .replace h:=tU h;conv=>whnf
  exact⟨_,.j fI,.inr ⟨0,Z,by rw[<-h];simp⟩⟩
 conv=>whnf
 exact Wk
def Ph(s:L Nat)(v:A):Prop:=v=.eK [.J s,.J [],.bool dU]\/∃k,k<O s/\v=.eK [.J (s.take k),.J (s.drop (k+1)),.bool dT]
def YQ(t:j8 P)(d:tY P 273 Extern.BytealgIndexByte.indexByte)(r:G.Pure)(f:P.follows .mixedOrders=dT)(s:L Nat)(c:Nat)(e:O s<4611686018427387000):f9 P G 205 [.J s,.J [c]] (Ph s):=by
 obtain⟨v,a,g⟩:=YP t d r s c;refine ee.fj (t.h 205) r uy (wK ?_);refine ee.c g ?_;obtain rfl|⟨k,rfl,hk⟩:=a
 .exact VO
 conv=>whnf
 refine eT.jk f Z (wK ?_);refine sK (J9 Z Z Z M) ?_;refine sK (Ka Z Z (je (b:=1) M) M) ?_;exact Wd
def C6(t:j8 P)(d:tY P 273 Extern.BytealgIndexByte.indexByte)(r:G.Pure)(f:P.follows .mixedOrders=dT)(s:L Nat)(c:Nat)(b:O s<4611686018427387000):f9 P G 157 [.J s,.J [c]] (Ph s):=by
 obtain⟨v,a,g⟩:=YQ t d r f s c b;refine ee.fj (t.h 157) r uy (wK ?_);refine ee.c g ?_;obtain rfl|⟨k,hk,rfl⟩:=a
 .exact VO
 conv=>whnf
 exact Wd
def YR(n:Int): -9223372036854775808<=jN .i64 n/\jN .i64 n<=9223372036854775807:=by rw[Ar,IntKind.wrap_i64];omega
def YS(n:Int)(b:Bool):(A.eK [.int .i64 n,.bool b]).Pure:=kT (jA fI iz)
def YT(s:L Nat):0<(qM s).2:=by
 unfold qM;simp only;repeat' split
 all_goals simp
def YU{H:eM}{dY:Bool}{F:T A}{x:IX}{p:S}{i:L Nat}(v:x.ev G F=Y (.ea p 0))(hp:H.ep.dZ p=Y (.kQ (b::i) d)):
  ∃a e c,O a<O (b::i)/\fA G dY F H (.wq x)=Y (.put p (.kQ a e) (.eK [.bool dT,.int .i64 (.ofNat d),.int .i32 (.ofNat c)])):=by
 cases hb:Nat.blt b 128
 .have f:=YT (b::i);exact⟨(b::i).drop (qM (b::i)).2,d+(qM (b::i)).2,(qM (b::i)).1,by simp only[oI];simp;omega,by simp[fA,fG,v,CG,hp,hb]⟩
 exact⟨i,d+1,b,ei,by simp[fA,fG,v,CG,hp,hb]⟩
def Kb(u:j8 P)(r:G.Pure)(s:L Nat)(f:Int):f9 P G 266 [.J s,.int .i64 f] λv=>∃z b,v=.eK [.int .i64 z,.bool b]/\(b=dT->s≠[])/\ -9223372036854775808<=z/\z<=9223372036854775807:=by
 refine ee.fj (u.h 266) r Ce (wK ?_);refine eW (λh=>?_) (λh=>?_)
 .conv=>whnf
  exact eO
 replace h:=FD h;conv=>whnf
 refine eW (λy=>?_) (λy=>?_)
 .conv=>whnf
  exact eO
 obtain⟨c,i,rfl⟩:∃c l,s=c::l:=by cases s with|nil=>exact absurd Z h|cons c l=>exact⟨c,l,Z⟩
 refine eW (λB=>?a) (λB=>?b)
 case' a=>
  conv=>whnf
  refine eW (λE=>?c) (λE=>?d)
  case c=>
   conv=>whnf
   exact eO
  case' d=>conv=>whnf
 case' b=>conv=>whnf
 all_goals
  refine eT.jz r (.o .h) (λj w m=>∃s k z,O s=j/\(-9223372036854775808<=z/\z<=9223372036854775807)/\w=[.int .i64 f,.int .i64 z,.ea .h 0]/\m=.n (Y (.kQ s k)) .e .e) (O (c::i)) Z ⟨_,_,_,Z,by decide,Z,Z⟩ Z ei Z ?_;rintro j w m ⟨s,k,z,N,hz,rfl,rfl⟩;cases s with
  |nil=>
   conv=>whnf
   refine bK (λq=>?_) λq=>?_
   .exact eO
   exact eO
  |cons b l=>
  obtain⟨g,p,K,I,D⟩:=YU (G:=G) (dY:=dU) (F:=gB [T1,T6,T27] [.int .i64 f,.int .i64 z,.ea .h 0]) (H:=⟨.n (Y (.kQ (b::l) k)) .e .e,.o .h⟩) (x:=.t T27) Z Z;conv=>whnf
  refine sK D ?_;refine bK (λq=>?_) λq=>?_
  .exact eO
  refine bK (λC=>?_) λC=>?_
  .exact eO
  exact⟨Z,.mk [] _ (.n (Y (.kQ g p)) .e .e) ⟨O g,M,_,_,_,Z,YR _,Z,Z⟩ Z ⟨.ey _ fI,.ey _ fI,.ea .h 0 (show Below (.o .h) .h by decide),eR⟩
   ⟨⟨by decide,.kQ _ _⟩,eR,eR⟩ ⟨⟨λ_=>Z,eR,eR⟩,eR,eR⟩⟩
def qi(p:A):Prop:=∃(k:Nat)(b:Int)(r:Nat)(z d y:Int),(r<=3/\(-9223372036854775808<=b/\b<=9223372036854775807)/\(-9223372036854775808<=z/\z<=9223372036854775807)/\(-9223372036854775808<=d/\d<=9223372036854775807)/\ -9223372036854775808<=y/\y<=9223372036854775807)/\k<=4/\p=.agg [V k,.int .i64 b,V r,.int .i64 z,.int .i64 d,.int .i64 y]
def qi.dW{p:A}(h:qi p):p.Pure:=by obtain⟨k,b,r,z,d,y,_,_,rfl⟩:=h;exact jg rf
def Kc(t:j8 P)(r:G.Pure)(s:L Nat):f9 P G 245 [.J s] λv=>∃p b,v=.eK [p,.bool b]/\qi p/\(b=dT->s≠[]):=by
 have d:∀p b,qi p->(A.eK [p,.bool b]).Pure:=λp b h=>kT (jA h.dW iz);refine ee.fj (t.h 245) r nJ (wK ?_);refine eW (λh=>?_) (λh=>?_)
 .replace h:=tU h;conv=>whnf
  exact⟨_,.j (d _ _ ⟨1,64,0,0,0,0,M,M,Z⟩),_,_,Z,⟨1,64,0,0,0,0,M,M,Z⟩,λ_=>by rw[h];simp⟩
 obtain⟨v,a,hf⟩:=wI t r s [105];refine xQ ?_;obtain⟨rfl,hpre⟩|⟨rfl,hpre⟩:=a
 .obtain⟨v,⟨z,b,rfl,hb,hz⟩,hf⟩:=Kb t r (s.drop 1) 64;refine xQ ?_;refine V7 λc=>?_;have y:s≠[]:=by intro e;subst e;have:=hpre.1;simp at this
  cases b
  .conv=>whnf
   exact MF
  conv=>whnf
  refine bK (λf=>?_) λf=>?_
  .exact MF
  exact MF
 obtain⟨v,⟨z,b,rfl,hb,hz⟩,hf⟩:=Kb t r s 64;refine xQ ?_;refine V7 λc=>?_;conv=>whnf
 exact⟨_,.j (d _ _ c),_,_,Z,c,ei⟩
structure fP (P:Program)(G:ez):Prop where
 fs:j8 P
 dW:G.Pure
 mixed:P.follows .mixedOrders=true
 ey:G.ey=fun n c c'=>gk P n c=gk P n c'
 vD:tY P 273 Extern.BytealgIndexByte.indexByte
def YX{dY:Bool}{F:T A}{x:IX}{n:Option Nat}{p:S}(a:x.ev G F=Y (.ea p b))(hp:li H p=Y w)(h:part b n w=Y v):fA G dY F H (.load n x)=Y (.val v):=by simp only[fA,a,qL,hp,jm,jb,nG,h]
def YY(C:fP P G){p:S}{b n cap:Nat}{c:Bool}{K:A->eM->Prop}(hp:li H p=Y w)(f:∀i,i<n->∃z,w[b+i]? =Y (.int .i64 z))(E:n<4611686018427387000)
  (g:∀z,K (.int .i64 z) H):fK P G d 269 [.eC p 1 b n cap c] H K:=by
 let⟨m,nx⟩:=H
 refine fK.j7 (C.fs.h 269) (wK ?_);refine eT.pd (λj e=>∃k z,k+j=n/\e=[.int .i64 z,.eC p 1 b n cap c,V n,V k]) n Z ⟨0,_,M,Z⟩ ?_;rintro j e ⟨k,z,l,rfl⟩;conv=>whnf
 refine eW (λh=>?_) (λh=>?_)
 .replace h:=gz h;obtain⟨o,a⟩:=f k h;conv=>whnf
  refine sK (nW Z Z Z h) ?_;refine sK (YX Z hp (by simpa[part]using a)) ?_;exact Mq
 conv=>whnf
 exact g _
def Pk(C:fP P G)(k:Nat)(K:k<=4)(s:L Nat)(N:O s<4611686018427387000):f9 P G 248 [.int .i64 (.ofNat k),.J s] λv=>∃p b,v=.eK [p,.bool b]/\qi p:=by
 refine ee.fj (C.fs.h 248) C.dW (jA fI j5) (wK ?_);refine fK.j7 (C.fs.h 268) (wK ?_);refine eT.range C.ey Z (C.fs.h 292) Z ?_;intro F B f g;conv=>whnf
 refine fK.j7 (C.fs.h 292) (wK ?_);have Q:Int.ofNat 0=0:=Z;have D:∀p b,qi p->(A.eK [p,.bool b]).Pure:=λp b h=>kT (jA h.dW iz);refine eT.jz C.dW (.i (.i .h)) (λj w m=>∃(c:L Nat)(r:Nat)(l d y:Int),O c=j/\O c<=O s/\(r<=3/\(-9223372036854775808<=l/\l<=9223372036854775807)/\(-9223372036854775808<=d/\d<=9223372036854775807)/\ -9223372036854775808<=y/\y<=9223372036854775807)/\w=[.gF (.o (.i .h)),.ea (.o (.o .h)) 0]/\
   m=hp [(.h,.dY [.int .i64 0,.int .i64 0,.int .i64 0,.int .i64 0,.int .i64 0,.int .i64 0]),(.o .h,.dY [.bool dU]),(.i .h,.dY [V k,.int .i64 0,V r,.int .i64 l,.int .i64 d,.int .i64 y]),
    (.o (.o .h),.dY [.J c]),(.i (.o .h),.fX),(.o (.i .h),.loop .ready J Pc (gB [T4,T5,T6] [.ea .h 0,.ea (.o .h) 0,.ea (.i .h) 0]) [17,18] F B (.i (.o .h)))])
  (O s) Z ⟨s,0,0,0,0,Z,fQ _,M,Z,Z⟩ Z ei Z ?_
 rintro j w m ⟨c,r,l,d,y,e,H,n,rfl,rfl⟩;obtain⟨v,I,hf⟩:=C6 C.fs C.vD C.dW C.mixed c 120 M;refine xQ ?_;obtain rfl|⟨q,t,rfl⟩:=I
 .conv=>whnf
  refine jy.body C.ey f g Z Z Z ?_;obtain⟨v,⟨p,b,rfl,⟨k',b',r',f0,f1,f2,hr',hk',rfl⟩,_⟩,hf⟩:=Kc C.fs C.dW c;refine xQ ?_;have u:r=0\/r=1\/r=2\/r=3:=M
  refine eW (λh=>?a) (λh=>?b)
  case' a=>conv=>whnf
  case' b=>conv=>whnf
  all_goals
   exact UE
 conv=>whnf
 refine eW (λh=>?a2) (λh=>?b2)
 case a2=>
  conv=>whnf
  refine jy.body C.ey f g Z Z Z ?_;obtain⟨v,⟨p,b,rfl,⟨k',b',r',f0,f1,f2,hr',hk',rfl⟩,_⟩,hf⟩:=Kc C.fs C.dW c;refine xQ ?_;have u:r=0\/r=1\/r=2\/r=3:=M
  refine eW (λh=>?a3) (λh=>?b3)
  case' a3=>conv=>whnf
  case' b3=>conv=>whnf
  all_goals
   exact UE
 case b2=>
  conv=>whnf
  refine jy.body C.ey f g Z Z Z ?_;obtain⟨v,⟨z,b,rfl,_,hz⟩,hf⟩:=Kb C.fs C.dW (c.take q) 1000;refine xQ ?_;cases b
  .exact M6
  have u:r=0\/r=1\/r=2\/r=3:=M
  obtain rfl|rfl|rfl|rfl:=u
  case inr.inr.inr=>
   exact M6
  all_goals
   conv=>whnf
   have x:O (c.drop (q+1))<O c:=by simp;omega
   refine⟨Z,.iC [(.h,.dY [.int .i64 0,.int .i64 0,.int .i64 0,.int .i64 0,.int .i64 0,.int .i64 0]),(.o .h,.dY [.bool dU]),(.i .h,.dY [_,_,_,_,_,_]),
    (.o (.o .h),.dY [.J (c.drop (q+1))]),(.i (.o .h),.fX),(.o (.i .h),.loop .ready J Pc (gB [T4,T5,T6] [.ea .h 0,.ea (.o .h) 0,.ea (.i .h) 0]) [17,18] F B (.i (.o .h)))] _
    ⟨O (c.drop (q+1)),M,c.drop (q+1),_,_,_,_,Z,M,?_,Z,Z⟩ ⟨.Pj (eV Z) Z,.L (eV Z) Z,eR⟩
    ⟨rX,EP,rX,⟨eV Z,fH Z (jB (by simp[jX]))⟩,⟨eV Z,fH Z .fX⟩,
     ⟨eV Z,fH Z (Pi (eV Z) Z ⟨.L (eV Z) Z,.L (eV Z) Z,.L (eV Z) Z,eR⟩)⟩,eR⟩⟩
   omega
def AN:L A:=[.int .i64 0,.int .i64 0,.int .i64 0,.int .i64 0,.int .i64 0,.int .i64 0]
def qj(s:L Nat)(v:A):Prop:=∃p b,v=.eK [p,.bool b]/\qi p/\(b=dT->s≠[])
def qj.dW{s:L Nat}(h:qj s v):v.Pure:=by obtain⟨p,b,rfl,h,_⟩:=h;exact kT (jA h.dW iz)
def YZ(s:L Nat):¬(lr s [109,101,109,60]/\lr s [97,114,114,60]):=by
 rintro⟨⟨_,K⟩,⟨_,r⟩⟩;cases s with
 |nil=>simp at K
 |cons c l=>simp at K r;omega
def qj.zero(s:L Nat):qj s (.eK [.agg AN,.bool dU]):=⟨_,_,Z,⟨0,0,0,0,0,0,M,M,Z⟩,ei⟩
def lr.ne{s:L Nat}{c:Nat}(h:lr s [c]):s≠[]:=by intro e;subst e;have:=h.1;simp at this
def FR:L gm:=[⟨V 2,.J [109,101,109,60],0⟩,⟨V 3,.J [97,114,114,60],1⟩]
def Y0{B:S->S}{D:S->Prop}:jW B D (.map FR 2) (.map FR 2):=.map _ _ _ Z λi h _=>by
 match i,h with
 |0,_=>exact⟨.ey _ fI,.ey _ j5,Z⟩
 |1,_=>exact⟨.ey _ fI,.ey _ j5,Z⟩
def Y1(C:fP P G)(s:L Nat)(hs:O s<4611686018427387000):f9 P G 219 [.J s] (qj s):=by
 obtain⟨ve,⟨pe,be,rfl,⟨k,b,r,e0,e1,e2,hr,hk,rfl⟩,hbe⟩,hfe⟩:=Kc C.fs C.dW s;have x:=it (jX s);cases be with
 |true=>
  have hv:qj s (.eK [.agg [V k,.int .i64 b,V r,.int .i64 e0,.int .i64 e1,.int .i64 e2],.bool dT]):=⟨_,_,Z,⟨k,b,r,e0,e1,e2,hr,hk,Z⟩,hbe⟩
  refine⟨_,hv,ee.lM (C.fs.h 219) C.dW x ?_⟩;conv=>whnf
  refine ee.c hfe ?_;exact ot.j hv.dW
 |false=>
 obtain⟨w,hvs,R⟩:=YL C.fs C.dW s [62] M;obtain⟨rfl,hsuf⟩|⟨rfl,hsuf⟩:=hvs
 ·
  have z:s≠[]:=by intro e;subst e;have:=hsuf.1;simp at this
  generalize B:s.take (O s - [62].length)=body at R;have hbl:O body<4611686018427387000:=by rw[<-B];simp;omega
  obtain⟨vm,hvm,hm⟩:=wI C.fs C.dW body [109,101,109,60];obtain⟨va,U,ha⟩:=wI C.fs C.dW body [97,114,114,60];obtain⟨rfl,hmem⟩|⟨rfl,hmem⟩:=hvm
  .obtain⟨rfl,harr⟩|⟨rfl,harr⟩:=U
   .exact absurd ⟨hmem,harr⟩ (YZ body)
   obtain⟨vt,⟨p,N,rfl,hpp⟩,hsh⟩:=Pk C 2 M (body.drop 4) lW;have f:qj s (.eK [p,.bool N]):=⟨p,N,Z,hpp,λ_=>z⟩
   obtain⟨pk,pb,pr,p0,p1,p2,_,_,rfl⟩:=hpp;refine Cq ?_;rintro j w m ⟨seen,d,g,l,F,rfl,rfl⟩;obtain rfl|rfl|rfl|rfl|rfl:=d
   .conv=>whnf
    refine⟨?_,?_⟩
    .exact Wi
    exact NO
   .exact Et
   .have v:=l ei;conv=>whnf
    refine⟨?_,eR⟩;exact Wi
   .exact II
   exact II
  obtain⟨rfl,harr⟩|⟨rfl,harr⟩:=U
  .obtain⟨vt,⟨p,N,rfl,hpp⟩,hsh⟩:=Pk C 3 M (body.drop 4) lW;have f:qj s (.eK [p,.bool N]):=⟨p,N,Z,hpp,λ_=>z⟩
   obtain⟨pk,pb,pr,p0,p1,p2,_,_,rfl⟩:=hpp;refine Cq ?_;rintro j w m ⟨seen,d,g,l,F,rfl,rfl⟩;obtain rfl|rfl|rfl|rfl|rfl:=d
   .conv=>whnf
    refine⟨?_,?_⟩
    .exact NE
    exact UK
   .have u:=g ei;exact UK
   .exact Ex
   .exact II
   exact II
  
  obtain⟨vp,K,t⟩:=wI C.fs C.dW s [33];obtain⟨rfl,hpre⟩|⟨rfl,hpre⟩:=K
  .have y:=hpre.ne;by_cases n:O s<=60
   .obtain⟨vc,W,E⟩:=C6 C.fs C.vD C.dW C.mixed (s.drop 1) 46 lW;obtain⟨ca,cb,cc,rfl,hca,hcb⟩:∃a b c,vc=.eK [.J a,.J b,.bool c]/\O a<=O s/\O b<=O s:=Uj;obtain⟨v1,H,D⟩:=rE C.fs C.dW ca M;obtain⟨v2,I,Q⟩:=rE C.fs C.dW cb M;obtain rfl|⟨rfl,_⟩:=H
    .refine IK λf=>?_;refine Cq ?_;rintro j w m ⟨seen,d,g,l,F,rfl,rfl⟩;obtain rfl|rfl|rfl|rfl|rfl:=d
     .exact HR
     .exact Et
     .exact Ex
     .exact S1
     exact S1
    obtain rfl|⟨rfl,_⟩:=I
    .refine IK λf=>?_;exact UL
    refine S6 λf=>?_;exact UL
   have f:=qj.zero s;refine Cq ?_;rintro j w m ⟨seen,d,g,l,F,rfl,rfl⟩;obtain rfl|rfl|rfl|rfl|rfl:=d
   .exact HR
   .exact Et
   .exact Ex
   .exact SW
   exact SW
  have f:=qj.zero s;refine Cq ?_;rintro j w m ⟨seen,d,g,l,F,rfl,rfl⟩;obtain rfl|rfl|rfl|rfl|rfl:=d
  .exact HR
  .exact Et
  .exact Ex
  .exact Wf
  exact Wf
 have z:True:=eR;obtain⟨vp,K,t⟩:=wI C.fs C.dW s [33];obtain⟨rfl,hpre⟩|⟨rfl,hpre⟩:=K
 .have y:=hpre.ne;by_cases n:O s<=60
  .obtain⟨vc,W,E⟩:=C6 C.fs C.vD C.dW C.mixed (s.drop 1) 46 lW;obtain⟨ca,cb,cc,rfl,hca,hcb⟩:∃a b c,vc=.eK [.J a,.J b,.bool c]/\O a<=O s/\O b<=O s:=Uj;obtain⟨v1,H,D⟩:=rE C.fs C.dW ca M;obtain⟨v2,I,Q⟩:=rE C.fs C.dW cb M;obtain rfl|⟨rfl,_⟩:=H
   .refine IK λf=>?_;refine Cx ?_;exact UG
   obtain rfl|⟨rfl,_⟩:=I
   .refine IK λf=>?_;refine Cx ?_;exact Nd
   refine S6 λf=>?_;refine Cx ?_;exact Nd
  have f:=qj.zero s;refine Cx ?_;exact V6
 have f:=qj.zero s;refine Cx ?_;refine ee.c t ?_;exact zB
def FS(P:Program)(G:ez)(f:FuncId):Prop:=∀p,qi p->f9 P G f [p] λv=>∃b,v=.bool b
def Pm(C:fP P G):FS P G 180:=by intro p hp;refine ee.fj (C.fs.h 180) C.dW (it hp.dW) (wK ?_);exact lX
def Pn(C:fP P G):FS P G 175:=by intro p hp;have a:=it hp.dW;obtain⟨k,b,r,z,d,y,_,_,rfl⟩:=hp;refine ee.fj (C.fs.h 175) C.dW a (wK ?_);exact HQ
def Kf(C:fP P G):FS P G 181:=by intro p hp;have a:=it hp.dW;obtain⟨k,b,r,z,d,y,_,_,rfl⟩:=hp;refine ee.fj (C.fs.h 181) C.dW a (wK ?_);exact HQ
def AP(s:L Nat)(v:A):Prop:=∃p e,v=.eK [p,.int .i64 e]/\qi p/\(e=0->s≠[])
def AP.dW{s:L Nat}(h:AP s v):v.Pure:=by obtain⟨p,e,rfl,h,_⟩:=h;exact kT (jA h.dW fI)
def yC(C:fP P G)(s:L Nat)(n:O s<4611686018427387000)(f:FuncId)(g:FS P G f):f9 P G 174 [.J s,.func (.func f) [] []] (AP s):=by
 obtain⟨v,⟨p,b,rfl,hp,hb⟩,hr⟩:=Y1 C s n;have i:AP s (.eK [.agg AN,.int .i64 10]):=⟨_,_,Z,⟨0,0,0,0,0,0,M,M,Z⟩,ei⟩
 have e:AP s (.eK [.agg AN,.int .i64 1]):=⟨_,_,Z,⟨0,0,0,0,0,0,M,M,Z⟩,ei⟩
 obtain⟨q,⟨l,rfl⟩,hw⟩:=g p hp;have j:=hp;obtain⟨k,z,r,m,d,y,K,o,rfl⟩:=hp;refine ee.fj (C.fs.h 174) C.dW (jA j5 (CY ei ei)) (wK ?_);refine ee.c hr ?_;cases b
 .conv=>whnf
  exact⟨_,.j i.dW,i⟩
 conv=>whnf
 refine ee.c hw ?_;cases l
 .conv=>whnf
  exact⟨_,.j e.dW,e⟩
 have a:AP s (.eK [.agg [V k,.int .i64 z,V r,.int .i64 m,.int .i64 d,.int .i64 y],.int .i64 0]):=⟨_,_,Z,j,λ_=>hb Z⟩
 conv=>whnf
 exact⟨_,.j a.dW,a⟩
def Kg(a b:Int):(A.eK [.int .i64 a,.int .i64 b]).Pure:=kT (jA fI fI)
def FT(C:fP P G)(s:L Nat)(a:O s<4611686018427387000):f9 P G 127 [.J s] λv=>∃(k:Nat)(e:Int),v=.eK [.int .i64 (.ofNat k),.int .i64 e]:=by obtain⟨v,⟨p,e,rfl,⟨k,z,r,e0,e1,e2,h1,h2,rfl⟩,hb⟩,hr⟩:=yC C s a 180 (Pm C);refine ee.fj (C.fs.h 127) C.dW nJ (wK ?_);refine ee.c hr ?_;exact⟨_,.j (Kg _ _),_,_,Z⟩
def Y2(C:fP P G)(s:L Nat)(a:O s<4611686018427387000):f9 P G 179 [.J s] λv=>∃(k:Int)(e:Int),v=.eK [.int .i64 k,.int .i64 e]:=by obtain⟨v,⟨p,e,rfl,⟨k,z,r,e0,e1,e2,h1,h2,rfl⟩,hb⟩,hr⟩:=yC C s a 175 (Pn C);refine ee.fj (C.fs.h 179) C.dW nJ (wK ?_);refine ee.c hr ?_;exact⟨_,.j (Kg _ _),_,_,Z⟩
def Y3(C:fP P G)(s:L Nat)(a:O s<4611686018427387000):f9 P G 254 [.J s] λv=>∃(r:Nat)(e:Int),r<=3/\v=.eK [.int .i64 (.ofNat r),.int .i64 e]:=by obtain⟨v,⟨p,e,rfl,⟨k,z,r,e0,e1,e2,h1,h2,rfl⟩,hb⟩,hr⟩:=yC C s a 181 (Kf C);refine ee.fj (C.fs.h 254) C.dW nJ (wK ?_);refine ee.c hr ?_;exact⟨_,.j (Kg _ _),_,_,h1.1,Z⟩
def Po(z:Int):∃m:Nat,jN .u64 z=.ofNat m:=by
 unfold jN;cases h:tB .u64 z
 .have c:0<=IntKind.u64.wrap z:=by
   have:IntKind.u64.wrap z=z%(2^IntKind.u64.bits:Int):=by simp[IntKind.wrap,IntKind.signed]
   rw[this];exact Int.emod_nonneg _ gP
  exact⟨(IntKind.u64.wrap z).toNat,by simp;omega⟩
 cases z with
 |ofNat m=>exact⟨m,Z⟩
 |negSucc m=>simp only[tB,Jj]at h;have h:=zQ h;omega
def Pp{dY:Bool}{F:T A}{x y:IX}{lit:Bool}{k e:IntKind}(v:x.ev G F=Y (.int k a))(d:y.ev G F=Y (.int e z))(c:z=.ofNat m):
  ∃r,fA G dY F H (.gy .shl b lit x y)=Y (.val (.int k r)):=by
 subst c;exact⟨jN k (a*Int.ofNat (Nat.pow 2 (cond (Nat.ble m k.bits) m k.bits))),by simp only[fA,fG,v,d,jm,o6,xX,jb]⟩
def Y4(C:fP P G)(p:A)(hp:qi p):f9 P G 176 [p] λv=>∃z,v=.int .i64 z:=by have a:=it hp.dW;obtain⟨k,b,r,c,d,y,_,_,rfl⟩:=hp;obtain⟨m,f⟩:=Po (jN .i64 (b - .ofNat 1));refine ee.fj (C.fs.h 176) C.dW a (wK ?_);refine sK ((Pp Z Z f).choose_spec) ?_;exact tq
def Y5(C:fP P G)(p:A)(hp:qi p):f9 P G 177 [p] λv=>∃z,v=.int .i64 z:=by have a:=it hp.dW;obtain⟨k,b,r,c,d,y,_,_,rfl⟩:=hp;obtain⟨m,f⟩:=Po (jN .i64 (b - .ofNat 1));refine ee.fj (C.fs.h 177) C.dW a (wK ?_);refine sK ((Pp Z Z f).choose_spec) ?_;exact tq
def Y6(C:fP P G)(s:L Nat)(g:O s<4611686018427387000):f9 P G 120 [.J s] λv=>∃(a b e:Int),v=.eK [.int .i64 a,.int .i64 b,.int .i64 e]:=by
 have f:∀a b e:Int,(A.eK [.int .i64 a,.int .i64 b,.int .i64 e]).Pure:=λa b e=>kT (C5 fI fI fI);obtain⟨v,⟨p,e,rfl,hp,hb⟩,hr⟩:=yC C s g 175 (Pn C);obtain⟨j,⟨m,rfl⟩,h1⟩:=Y4 C p hp;obtain⟨l,⟨n,rfl⟩,h2⟩:=Y5 C p hp;obtain⟨k,z,r,i,d,y,_,_,rfl⟩:=hp;refine ee.fj (C.fs.h 120) C.dW nJ (wK ?_);refine ee.c hr ?_;refine bK (λh=>?_) λh=>?_
 .exact⟨_,.j (f _ _ _),_,_,_,Z⟩
 refine gC ?_;refine ee.c h1 ?_;repeat'(first|refine⟨Z,wK ?_⟩|refine bK (λ_=>?_) λ_=>?_)
 refine ee.c h2 ?_;exact⟨_,.j (f _ _ _),_,_,_,Z⟩
def Y7{H:eM}:∀(t:L (Nat×EK))(s q:L A),(∀f∈t,f.2=.int/\(∃z,s[f.1]? =Y (.int .i64 z))/\∃z,q[f.1]? =Y (.int .i64 z))->∃b,lF G H s q t=Y b:=by
 intro t;induction t with
 |nil=>intro s q _;exact⟨dT,Z⟩
 |cons f t i=>
 intro s q h
 let⟨o,k⟩:=f
 obtain⟨K,⟨a,c⟩,⟨b,j⟩⟩:=h _ (mw ..);simp only at K c j;subst K;obtain⟨r,n⟩:=i s q λf g=>h f (mL _ g);simp only[lF,c,j,jj,xW,gZ,jm];cases gD a b
 .exact⟨dU,Z⟩
 exact⟨r,n⟩
def Y8{dY:Bool}{F:T A}{x y:IX}{t:L (Nat×EK)}{lit:Bool}{s q:L A}(v:x.ev G F=Y (.agg s))(a:y.ev G F=Y (.agg q))
  (h:∀f∈t,f.2=.int/\(∃z,s[f.1]? =Y (.int .i64 z))/\∃z,q[f.1]? =Y (.int .i64 z)):∃b,fA G dY F H (.gy .eql (.struct t) lit x y)=Y (.val (.bool b)):=by
 obtain⟨b,j⟩:=Y7 (G:=G) (H:=H) t s q h;exact⟨b,by simp only[fA,fG,v,a,jm,o6,nM,j,jb]⟩
def Y9(C:fP P G)(p:A)(hp:qi p):f9 P G 206 [p] λv=>∃b,v=.bool b:=by have a:=it hp.dW;obtain⟨k,b,r,z,d,y,_,_,rfl⟩:=hp;refine ee.fj (C.fs.h 206) C.dW a (wK ?_);refine sK ((Y8 Z Z ei).choose_spec) ?_;exact HQ
def FU(C:fP P G)(s:L Nat)(b:O s<4611686018427387000):f9 P G 158 [.J s] λv=>∃e:Int,v=.int .i64 e/\(e=0->s≠[]):=by
 obtain⟨v,⟨p,e,rfl,hp,hb⟩,hr⟩:=yC C s b 180 (Pm C);obtain⟨g,⟨a,rfl⟩,h1⟩:=Y9 C p hp;obtain⟨k,z,r,f,d,y,_,_,rfl⟩:=hp;refine ee.fj (C.fs.h 158) C.dW nJ (wK ?_);refine ee.c hr ?_;refine bK (λh=>?_) λh=>?_
 .refine ee.c h1 ?_;cases a
  .conv=>whnf
   exact⟨_,.j fI,_,Z,hb⟩
  exact nu
 exact⟨_,.j fI,_,Z,hb⟩
def Za{dY:Bool}{F:T A}{x y:IX}{c:Ae}{lit:Bool}(v:x.ev G F=Y (.J a))(d:y.ev G F=Y (.J b))(h:O a+O b<9223372036854775808):
  fA G dY F H (.gy .add c lit x y)=Y (.val (.J (a++b))):=by
 have:Nat.blt (O a+O b) 9223372036854775808=dT:=by rw[lm];exact sc h
 simp only[fA,fG,v,d,jm,o6,E9,this,gZ,jb]
structure Kh (P:Program)(G:ez):Prop extends fP P G where
 itoa:∀z:Int, -9223372036854775808≤z→z≤9223372036854775807→f9 P G 220 [.int .i64 z] fun v=>∃s:List Nat,s.length≤32∧v=.J s
def Zb(C:Kh P G)(p:A)(hp:qi p):f9 P G 182 [p] λv=>∃s:L Nat,O s<=40/\v=.J s:=by have hpp:=it hp.dW;obtain⟨k,b,r,z,d,y,_,_,rfl⟩:=hp;exact Tv
def Pq(C:Kh P G)(s:L Nat)(a:O s<4611686018427387000):f9 P G 129 [.J s] λv=>∃(t:L Nat)(e:Int),O t<=40/\v=.eK [.J t,.int .i64 e]:=by
 refine TJ λps=>?_;obtain⟨v,⟨p,e,rfl,hp,hb⟩,hr⟩:=yC C.tofP s a 181 (Kf C.tofP);obtain⟨f,⟨t,j,rfl⟩,h1⟩:=Zb C p hp;obtain⟨k,z,r,b,d,y,_,_,rfl⟩:=hp;refine ee.fj (C.fs.h 129) C.dW nJ (wK ?_);refine ee.c hr ?_;refine bK (λh=>?_) λh=>?_
 .exact⟨_,.j (ps _ _),_,_,ei,Z⟩
 refine ee.c h1 ?_;exact⟨_,.j (ps _ _),_,_,j,Z⟩
def rG(P:Program)(G:ez)(H:eM)(f:FuncId)(first caps:L A)(q:A->Bool)(x:A):Prop:=eL P G f (first++[x]++caps) H λr D=>r=.bool (q x)/\D=H
def Pt{I:FuncId}{n:Nat}(c:Has P I n Yz YA){s:L A}{q:A->Bool}(a:fC s v)(b:O s<4611686018427387000)
  (t:∀x∈s,rG P G H f first caps q x):eL P G I [v,.func (.func f) first caps] H λr D=>D=H/\((s.any q=dU/\r=.int .i64 (.negSucc 0))\/(s.any q=dT/\∃k:Nat,r=.int .i64 (.ofNat k))):=by
 let⟨m,nx⟩:=H
 refine eL.lM c (wK ?_);refine fM a ?_;refine eT.pd (λj w=>∃k,k+j=O s/\(∀i (h:i<O s),i<k->q s[i]=dU)/\w=[v,.func (.func f) first caps,V (O s),V k]) (O s) Z ⟨0,M,λi _ h=>M,Z⟩ ?_;rintro j w ⟨k,d,hall,rfl⟩;conv=>whnf
 refine eW (λh=>?_) (λh=>?_)
 .replace h:=gz h;conv=>whnf
  refine gW a h ?_;refine sK xR ?_;refine fK.eq (t _ (fB h)) ?_;cases hb:q s[k]
  .exact UX
  conv=>whnf
  exact⟨Z,.inr ⟨CD.2 ⟨_,fB h,hb⟩,_,Z⟩⟩
 exact MM
def Pu(t:j8 P){H:eM}{s:L A}{f:FuncId}{first caps:L A}{q:A->Bool}(a:fC s v)(b:O s<4611686018427387000)
  (c:∀x∈s,rG P G H f first caps q x):eL P G 44 [v,.func (.func f) first caps] H λr H'=>r=.bool (s.any q)/\H'=H:=by
 have hC:Has P 44 _ _ _:=t.h 44;have hIdx:=Pt (t.h 100) a b c
 let⟨m,nx⟩:=H
 exact Cu
def Zc(t:j8 P){s:L A}{q:A->Bool}(a:fC s v)(b:O s<4611686018427387000)
  (c:∀x∈s,rG P G H f first caps q x):eL P G 209 [v,.func (.func f) first caps] H λr H'=>r=.bool (s.any q)/\H'=H:=by
 have hC:Has P 209 _ _ _:=t.h 209;have hIdx:=Pt (I:=234) (t.h 234) a b c
 let⟨m,nx⟩:=H
 exact Cu
def Zd(t:j8 P){q:A->Bool}(hv:fT 3 xs v)(a:O xs<4611686018427387000)
  (hq:∀x∈xs,rG P G H f first caps q (.agg x)):eL P G 99 [v,.func (.func f) first caps] H λr D=>D=H/\((xs.any (λx=>q (.agg x))=dU/\r=.int .i64 (.negSucc 0))\/(xs.any (λx=>q (.agg x))=dT/\∃k:Nat,r=.int .i64 (.ofNat k))):=by
 have hI:Has P 99 _ _ _:=t.h 99
 let⟨m,nx⟩:=H
 exact MG
def Ze(t:j8 P){s:L (L A)}{q:A->Bool}(a:fT 3 s v)(b:O s<4611686018427387000)
  (c:∀x∈s,rG P G H f first caps q (.agg x)):eL P G 38 [v,.func (.func f) first caps] H λr H'=>r=.bool (s.any λx=>q (.agg x))/\H'=H:=by
 have hC:Has P 38 _ _ _:=t.h 38;have hIdx:=Zd t a b c
 let⟨m,nx⟩:=H
 exact Cu
def Zf(t:j8 P){q:A->Bool}(hv:fT 7 xs v)(a:O xs<4611686018427387000)
  (hq:∀x∈xs,rG P G H f first caps q (.agg x)):eL P G 101 [v,.func (.func f) first caps] H λr D=>D=H/\((xs.any (λx=>q (.agg x))=dU/\r=.int .i64 (.negSucc 0))\/(xs.any (λx=>q (.agg x))=dT/\∃k:Nat,r=.int .i64 (.ofNat k))):=by
 have hI:Has P 101 _ _ _:=t.h 101
 let⟨m,nx⟩:=H
 exact MG
def Zg(t:j8 P){s:L (L A)}{q:A->Bool}(a:fT 7 s v)(b:O s<4611686018427387000)
  (c:∀x∈s,rG P G H f first caps q (.agg x)):eL P G 46 [v,.func (.func f) first caps] H λr H'=>r=.bool (s.any λx=>q (.agg x))/\H'=H:=by
 have hC:Has P 46 _ _ _:=t.h 46;have hIdx:=Zf t a b c
 let⟨m,nx⟩:=H
 exact Cu
def Zh(t:j8 P){q:A->Bool}(hv:fT 2 xs v)(a:O xs<4611686018427387000)
  (hq:∀x∈xs,rG P G H f first caps q (.agg x)):eL P G 198 [v,.func (.func f) first caps] H λr D=>D=H/\((xs.any (λx=>q (.agg x))=dU/\r=.int .i64 (.negSucc 0))\/(xs.any (λx=>q (.agg x))=dT/\∃k:Nat,r=.int .i64 (.ofNat k))):=by
 have hI:Has P 198 _ _ _:=t.h 198
 let⟨m,nx⟩:=H
 exact MG
def Zi(t:j8 P){s:L (L A)}{q:A->Bool}(a:fT 2 s v)(b:O s<4611686018427387000)
  (c:∀x∈s,rG P G H f first caps q (.agg x)):eL P G 144 [v,.func (.func f) first caps] H λr H'=>r=.bool (s.any λx=>q (.agg x))/\H'=H:=by
 have hC:Has P 144 _ _ _:=t.h 144;have hIdx:=Zh t a b c
 let⟨m,nx⟩:=H
 exact Cu
def tZ(a:L Nat):A->Bool
 |.J b=>iT a b
 | _=>dU
def AQ(t:j8 P)(q:G.Pure)(g:fC b v)(l:O b<4611686018427387000)(n:∀x∈b,∃s,x=.J s)(a:L Nat):ee P G 121 [v,.J a] (.bool (b.any (tZ a))):=by
 have p:v.Pure:=g.dW λc K=>by obtain⟨s,rfl⟩:=n c K;exact jX _
 have hIdx:∀H,eL P G 178 [v,.J a] H λr H'=>H'=H/\((b.any (tZ a)=dU/\r=.int .i64 (.negSucc 0))\/(b.any (tZ a)=dT/\∃k:Nat,r=V k)):=by
  intro H
  let⟨m,nx⟩:=H
  refine eL.lM (t.h 178) (wK ?_);refine fM g ?_;refine eT.pd (λj w=>∃k,k+j=O b/\(∀i (h:i<O b),i<k->tZ a b[i]=dU)/\w=[v,.J a,V (O b),V k]) (O b) Z ⟨0,M,λi _ h=>M,Z⟩ ?_;rintro j w ⟨k,u,hall,rfl⟩;conv=>whnf
  refine eW (λh=>?_) (λh=>?_)
  .replace h:=gz h;obtain⟨s,d⟩:=n _ (fB h);conv=>whnf
   refine gW g h ?_;refine sK ((oA Z h).trans (by rw[d])) ?_;refine bK (λf=>?_) λf=>?_
   .exact⟨Z,.inr ⟨CD.2 ⟨_,fB h,by rw[d];exact f⟩,_,Z⟩⟩
   refine⟨Z,Z,j - 1,M,k+1,M,λi hi o=>?_,by rw[je M]⟩;by_cases e:i=k
   .subst e;rw[d];exact f
   exact zx
  exact MM
 intro H;have hC:Has P 121 _ _ _:=t.h 121;have hIdx:=hIdx H
 let⟨m,nx⟩:=H
 exact Cu
def AR{dY:Bool}{F:T A}{x y:IX}{lit:Bool}{p q:S}(hx:x.ev G F=Y (.fz p 0))(hy:y.ev G F=Y (.fz q 0))(hp:(G.fU p).isSome=dT)(hq:(G.fU q).isSome=dT):
  fA G dY F H (.gy .eql (.one .ea) lit x y)=Y (.val (.bool (decide (p=q)))):=SU
def Zj{dY:Bool}{F:T A}{x y:IX}{lit:Bool}{p q:S}(hx:x.ev G F=Y (.fz p 0))(hy:y.ev G F=Y (.fz q 0))(hp:(G.fU p).isSome=dT)(hq:(G.fU q).isSome=dT):
  fA G dY F H (.gy .neq (.one .ea) lit x y)=Y (.val (.bool (!decide (p=q)))):=SU
def Zk(p:S)(s:L S)(v:A):Prop:=(v=.int .i64 (.negSucc 0)/\p∉s)\/∃k,∃h:k<O s,v=V k/\s[k]=p/\∀i (C:i<O s),i<k->s[i]≠p
def FV{I:FuncId}(g:Has P I YC YD YE)(r:G.Pure){s:L S}(a:fC (s.map λq=>A.fz q 0) v)(d:O s<4611686018427387000){p:S}(hp:(G.fU p).isSome=dT)(n:∀q∈s,(G.fU q).isSome=dT):
  f9 P G I [v,.fz p 0] (Zk p s):=by
 have b:v.Pure:=a.dW λc K=>by obtain⟨q,_,rfl⟩:=gS.1 K;exact o9 _ _
 refine ee.fj g r (jA b qz) (wK ?_);refine fM a ?_;refine eT.jz r .h (λj w m=>∃k,k+j=O s/\(∀i (h:i<O s),i<k->s[i]≠p)/\w=[v,.fz p 0,V (O s),V k]/\m=.e) (O s) (by simp[mq];rfl) xP Z ei Z ?_;rintro j w m ⟨k,o,hall,rfl,rfl⟩;conv=>whnf
 refine eW (λh=>?_) (λh=>?_)
 .replace h:=gz h;conv=>whnf
  refine sK (kL Z a Z Z ly) ?_;refine sK ((oA Z ly).trans (by rw[mM])) ?_;refine sK (AR Z Z hp (n _ (fB h))) ?_;refine eW (λe=>?_) (λe=>?_)
  .have e:=j0 e;conv=>whnf
   exact⟨_,.j fI,.inr ⟨k,h,Z,e.symm,hall⟩⟩
  have e:=Eo e;conv=>whnf
  refine⟨Z,.iC [] _ ⟨j - 1,M,k+1,M,λi hi l=>?_,Z,Z⟩ ⟨.ey _ b,.ey _ qz,.ey _ fI,by rw[je M];exact .ey _ fI,eR⟩ eR⟩;by_cases y:i=k
  .subst y;exact λN=>e N.symm
  exact zx
 refine uJ λh=>?_;refine⟨_,.j fI,.inl ⟨Z,λf=>?_⟩⟩;obtain⟨i,hi,e⟩:=km f;exact hall i hi M e
def eL.fj{n:Nat}{args:L A}{Q:A->eM->Prop}(g:Has P f n b a)
  (h:tX .h args λF=>kB P G dT J n a ⟨F,[],H⟩ (rC G b Q)):∃r D,Q r D/\eL P G f args H λc t=>c=r/\t=D:=by
 rw[yy,qO]at h;exact eL.AA g (lp h λ_ _=>wG)
def yD(P:Program)(G:ez)(H:eM)(f:FuncId)(first caps:L A)(x:A)(b:Bool):Prop:=eL P G f (first++[x]++caps) H λr D=>r=.bool b/\D=H
def Pv{H:eM}{f:FuncId}{first caps:L A}{a:L A}{R:A->Bool->Prop}(hq:∀x∈a,∃b,R x b/\yD P G H f first caps x b):∃q:A->Bool,∀x∈a,R x (q x)/\rG P G H f first caps q x:=by
 classical
 refine⟨λx=>if h:x∈a then(hq x h).choose else dU,λx hx=>?_⟩;exact Tk
def FW(s:L A)(R:A->Bool->Prop)(b:Bool):Prop:=(b=dT->∃x∈s,R x dT)/\(b=dU->∀x∈s,R x dU)
def FW.of{s:L A}{R:A->Bool->Prop}{q:A->Bool}(h:∀x∈s,R x (q x)):FW s R (s.any q):=by
 refine⟨λj=>?_,λj x v=>?_⟩
 .obtain⟨x,v,t⟩:=CD.1 j;exact⟨x,v,t▸h x v⟩
 rw[Iy]at j;have:=h x v;rw[show q x=dU by simpa using j x v]at this;exact this
def C7(d:j8 P){H:eM}{v:A}{xs:L A}{f:FuncId}{first caps:L A}{R:A->Bool->Prop}(a:fC xs v)(k:O xs<4611686018427387000)
  (t:∀x∈xs,∃b,R x b/\yD P G H f first caps x b):∃b,FW xs R b/\eL P G 44 [v,.func (.func f) first caps] H λr D=>r=.bool b/\D=H:=by
 obtain⟨q,t⟩:=Pv t;exact⟨_,.of λx c=>(t x c).1,Pu d a k λx c=>(t x c).2⟩
def Pw(d:j8 P){H:eM}{v:A}{s:L A}{f:FuncId}{first caps:L A}{R:A->Bool->Prop}(a:fC s v)(k:O s<4611686018427387000)
  (t:∀x∈s,∃b,R x b/\yD P G H f first caps x b):∃b,FW s R b/\eL P G 209 [v,.func (.func f) first caps] H λr D=>r=.bool b/\D=H:=by
 obtain⟨q,t⟩:=Pv t;exact⟨_,.of λx c=>(t x c).1,Zc d a k λx c=>(t x c).2⟩
def FX(a:L A):Prop:=∀x∈a,∃s:L Nat,x=.J s/\O s<4611686018427387000
def FX.dW(h:FX a):∀x∈a,x.Pure:=λx v=>by obtain⟨s,rfl,_⟩:=h x v;exact jX _
def iH(P:Program)(G:ez)(a:L A):Prop:=∀x∈a,∃s:L Nat,x=.J s/\s≠[]/\ee P G 158 [.J s] (.int .i64 0)
def Px(C:fP P G){g:L A}(m:fC g v)(l:FX g)(k:O g<4611686018427387000):f9 P G 161 [v] λr=>∃b,r=.bool b/\(b=dT->iH P G g):=by
 have d:Has P 208 _ _ _:=C.fs.h 208;obtain⟨j,c⟩:∃n:Nat,n=208:=⟨_,Z⟩;rw[<-c]at d;have i:v.Pure:=m.dW l.dW;obtain⟨b,hb,hc⟩:=C7 (G:=G) (H:=⟨.e,.h⟩) C.fs m k (f:=j) (first:=[]) (caps:=[]) (R:=λx b=>b=dU->∃s:L Nat,x=.J s/\s≠[]/\ee P G 158 [.J s] (.int .i64 0)) (λx hx=>by
  obtain⟨s,rfl,hsl⟩:=l x hx;obtain⟨o,⟨e,rfl,he⟩,h1⟩:=FU C s hsl;have:f9 P G j [.J s] λv=>∃b,v=.bool b/\(b=dU->e=0):=by refine ee.fj d C.dW nJ (wK ?_);exact Su
  obtain⟨_,⟨b,rfl,hb⟩,hf⟩:=this;exact⟨b,λe=>by obtain rfl:=hb e;exact⟨s,Z,he Z,h1⟩,hf _⟩)
 subst c;refine ee.fj (C.fs.h 161) C.dW (it i) (wK ?_);exact Ux
def mf(s:L A):Prop:=∀x∈s,∃z:Int,x=.int .i64 z
def mf.dW(h:mf a):∀x∈a,x.Pure:=λx v=>by obtain⟨s,rfl⟩:=h x v;exact iQ _ _
def Ki(C:fP P G){v:A}{xs:L A}(a:fC xs v)(g:mf xs)(c:O xs<4611686018427387000):f9 P G 162 [v] λr=>∃b,r=.bool b/\(b=dT->∀k:Nat,A.int .i64 (.ofNat k)∈xs->k<=100):=by
 have d:v.Pure:=a.dW g.dW;obtain⟨b,j,K⟩:=Pw (G:=G) (H:=⟨.e,.h⟩) C.fs a c (f:=210) (first:=[]) (caps:=[]) (R:=λx b=>b=dU->∀k:Nat,x=V k->k<=100) (λx l=>by
  obtain⟨z,rfl⟩:=g x l;have:f9 P G 210 [.int .i64 z] λv=>∃b,v=.bool b/\(b=dU->∀k:Nat,A.int .i64 z=V k->k<=100):=by
   refine ee.fj (C.fs.h 210) C.dW (it fI) (wK ?_);refine bK (λh=>?_) λh=>?_
   .exact⟨_,.j iz,dT,Z,λh=>by cases h⟩
   refine⟨_,.j iz,dU,Z,λ_ k e=>?_⟩;cases e;exact iK h
  obtain⟨_,⟨b,rfl,h⟩,hf⟩:=this;exact⟨b,h,hf _⟩)
 refine ee.fj (C.fs.h 162) C.dW (it d) (wK ?_);refine fK.eq K ?_;cases b
 .conv=>whnf
  exact⟨_,.j iz,_,Z,λ_ k i=>j.2 Z _ i Z k Z⟩
 conv=>whnf
 exact⟨_,.j iz,_,Z,λh=>by cases h⟩
def C8(s:L A)(n:Int):Prop:=∀x∈s,∃k:Nat,x=V k/\(k:Int)<n
def Py(C:fP P G){s:L A}(a:fC s v)(g:mf s)(c:O s<4611686018427387000)(n:Nat):f9 P G 163 [v,.int .i64 (.ofNat n)] λr=>∃b,r=.bool b/\(b=dT->C8 s n):=by
 have d:v.Pure:=a.dW g.dW;obtain⟨b,hb,hc⟩:=Pw (G:=G) (H:=⟨.n (Y (.dY [V n])) .e .e,.o .h⟩) C.fs a c (f:=211) (first:=[]) (caps:=[.ea .h 0]) (R:=λx b=>b=dU->∃k:Nat,x=V k/\(k:Int)<n) (λx hx=>by
  obtain⟨z,rfl⟩:=g x hx;have:∃r D,((∃b,r=.bool b/\(b=dU->∃k:Nat,(.int .i64 z:A)=V k/\(k:Int)<n))/\D=(⟨.n (Y (.dY [V n])) .e .e,.o .h⟩:eM))/\
    eL P G 211 [.int .i64 z,.ea .h 0] ⟨.n (Y (.dY [V n])) .e .e,.o .h⟩ λi t=>i=r/\t=D:=by
   refine eL.fj (C.fs.h 211) ?_;cases z with
   |negSucc k=>
    conv=>whnf
    exact⟨⟨_,Z,ei⟩,Z⟩
   |ofNat k=>
   conv=>whnf
   refine eW (λh=>?_) (λh=>?_)
   .conv=>whnf
    exact⟨⟨_,Z,ei⟩,Z⟩
   have h:=FO h;conv=>whnf
   exact⟨⟨_,Z,λ_=>⟨k,Z,M⟩⟩,Z⟩
  obtain⟨r,D,⟨⟨b,rfl,hb⟩,rfl⟩,hc⟩:=this;exact⟨b,hb,hc⟩)
 refine ee.fj (C.fs.h 163) C.dW (jA d fI) (wK ?_);exact Ux
def Zl(C:fP P G)(s:L Nat)(n:O s<4611686018427387000):f9 P G 159 [.J s] λr=>∃b,r=.bool b:=by
 obtain⟨o,j,f⟩:=C6 C.fs C.vD C.dW C.mixed s 46 n;obtain⟨k,l,m,rfl,hca,hcb⟩:∃a b c,o=.eK [.J a,.J b,.bool c]/\O a<=O s/\O b<=O s:=by
  obtain rfl|⟨q,t,rfl⟩:=j
  .exact⟨_,_,_,Z,fQ _,oE _⟩
  exact⟨_,_,_,Z,by rw[uw];omega,by rw[oI];omega⟩
 obtain⟨p,g,d⟩:=rE C.fs C.dW k M;obtain⟨u,i,e⟩:=rE C.fs C.dW l M;refine ee.fj (C.fs.h 159) C.dW nJ (wK ?_);refine ee.c f ?_;cases m
 .conv=>whnf
  exact lX
 conv=>whnf
 refine bK (λh=>?_) λh=>?_
 .refine ee.c d ?_;obtain rfl|⟨rfl,_⟩:=g
  .conv=>whnf
   exact lX
  conv=>whnf
  refine ee.c e ?_;obtain rfl|⟨rfl,_⟩:=i<;>(conv=>whnf)<;>exact uF
 exact lX
def eI:Nat:=1048576
def iL(a:L A):Prop:=∀x∈a,∃s:L Nat,x=.J s/\O s<=eI
def iL.yE(h:iL a):FX a:=λx v=>by obtain⟨s,e,h⟩:=h x v;exact⟨s,e,by unfold eI at h;omega⟩
def iL.dW{s:L A}(h:iL s):∀x∈s,x.Pure:=h.yE.dW
def F9(w:L A):Prop:=∀x∈w,∃z:Int,x=.int .i64 z/\ -9223372036854775808<=z/\z<=9223372036854775807
structure pT (P:Program)(G:ez):Prop extends Kh P G where
 join:∀(v:A)(xs:List A)(s:List Nat),fC xs v→iL xs→xs.length≤100→s.length≤10→f9 P G 302 [v,.J s] fun r=>∃t:List Nat,r=.J t∧t.length≤1099511627776
 text:∀(k:Int)(v:A)(cs:List A)(s:List Nat),fC cs v→F9 cs→cs.length≤3→s.length≤40→f9 P G 309 [.int .i64 k,v,.J s] fun r=>∃t:List Nat,r=.J t∧t.length≤eI
inductive iI (Ta:List A→Prop):List A→Prop
 |mk (nm:List Nat)(k n:Int)(tx:List Nat)(vi vt:A)(is ts:List A)(h1:nm.length≤eI)(h2:tx.length≤eI)(h3:fC is vi)(h4:mf is)(h5:is.length≤eI)(h6:fC ts vt)(h7:iL ts)(h8:ts.length≤eI)(h9:Ta ts):
   iI Ta [.J nm,.int .i64 k,.int .i64 n,.J tx,vi,vt]
def Sl.it(h:fC w v)(K:∀c∈w,c.Pure):v.Pure:=Sl.dW h K
def iI.dW{Ta:L A->Prop}{x:L A}(h:iI Ta x):∀c∈x,c.Pure:=by
 cases h with
 |mk v k n f p Q D q K r m E H a b z F=>have d:=Sl.dW m E.dW;have e:=Sl.dW a b.dW;refine oF λc hc=>?_;obtain rfl|rfl|rfl|rfl|rfl|rfl:=hc<;>simp[jX,iQ,d,e]
def iI.it{Ta:L A->Prop}{x:L A}(h:iI Ta x):∀a∈[A.agg x],a.Pure:=by intro a b;simp only[Cp]at b;subst b;exact jg h.dW
def Zv{o n:Nat}(h:Sl o n w v)(e:n=0):w=[]:=by
 obtain⟨_,_,h⟩|⟨t,_,_,h⟩:=h
 .exact h
 subst e;simpa using h
def iH.nil:iH P G []:=λx v=>by cases v
def pU(_ :L A):Prop:=True
def PC(C:fP P G){x:L A}(v:iI pU x):f9 P G 299 [.agg x] λr=>∃b,r=.bool b/\(b=dT->iI (iH P G) x):=by
 have hp:=v.it;cases v with
 |mk a k n m p Q D q h1 h2 h3 h4 h5 h6 h7 h8 F=>refine ee.fj (C.fs.h 299) C.dW hp (wK ?_);exact VP
def vE(P:Program)(G:ez)(x:L A)(f:FuncId)(Ta:Prop):Prop:=f9 P G f [.agg x] λr=>∃b,r=.bool b/\(b=dT->Ta)
def Zw(C:fP P G){x:L A}(a:iI pU x):vE P G x 276 (iI (iH P G) x):=by
 have hp:=a.it;obtain⟨v,⟨b,rfl,hb⟩,hf⟩:=PC C a;cases a with
 |mk f k n g p Q D q K r m E H c d z F=>refine ee.fj (C.fs.h 276) C.dW hp (wK ?_);exact Ui
def Zx(C:fP P G){x:L A}(a:iI pU x):vE P G x 279 (iI (iH P G) x):=by
 have hp:=a.it;obtain⟨v,⟨b,rfl,hb⟩,hf⟩:=PC C a;cases a with
 |mk f k n g p Q D q K r m E H c d z F=>refine ee.fj (C.fs.h 279) C.dW hp (wK ?_);exact Ui
def Zy(C:fP P G){x:L A}(v:iI pU x):vE P G x 275 True:=by refine ee.fj (C.fs.h 275) C.dW v.it (wK ?_);exact Ng
def Zz(C:fP P G){x:L A}(v:iI pU x):vE P G x 278 True:=by
 have hp:=v.it;cases v with
 |mk c k n d p Q D q K r m E H a b z F=>refine ee.fj (C.fs.h 278) C.dW hp (wK ?_);exact U3
def ZA(C:fP P G){x:L A}(b:iI pU x):vE P G x 281 True:=by
 have hp:=b.it;cases b with
 |mk i k n m p Q D q K r d E H e f z F=>obtain⟨v,a,g⟩:=rE C.fs C.dW m (by unfold eI at r;omega);refine ee.fj (C.fs.h 281) C.dW hp (wK ?_);refine ee.c g ?_;obtain rfl|⟨rfl,_⟩:=a<;>exact⟨_,.j iz,_,Z,λ_=>trivial⟩
def ZB(C:fP P G){x:L A}(a:iI pU x):vE P G x 283 True:=by
 have hp:=a.it;cases a with
 |mk g k n m p Q D q K r b E H d f z F=>obtain⟨v,⟨e,rfl,he⟩,hf⟩:=FU C m (by unfold eI at r;omega);refine ee.fj (C.fs.h 283) C.dW hp (wK ?_);refine ee.c hf ?_;exact U3
def ZC(C:fP P G){x:L A}(v:iI pU x):vE P G x 286 True:=by
 have hp:=v.it;cases v with
 |mk c k n d p Q D q K r m E H a b z F=>
 refine ee.fj (C.fs.h 286) C.dW hp (wK ?_);refine bK (λe=>?_) λe=>?_
 .refine eW (λe=>?_) (λe=>?_);all_goals
   conv=>whnf
   exact Ng
 exact Ng
def ZD(C:fP P G){x:L A}(v:iI pU x):vE P G x 285 (iI (iH P G) x):=by
 have hp:=v.it;cases v with
 |mk a k n m p Q D q h1 h2 h3 h4 h5 h6 h7 h8 F=>refine ee.fj (C.fs.h 285) C.dW hp (wK ?_);exact VP
def ZE(C:pT P G){g:L A}(hv:fC g v)(i:iL g)(k:O g<=eI):f9 P G 303 [v] λr=>∃(t:L Nat)(e:Int),r=.eK [.J t,.int .i64 e]/\(e=0->iH P G g):=by
 have m:v.Pure:=hv.dW i.dW;have d:O g<4611686018427387000:=by unfold eI at k;omega
 obtain⟨b,j,K⟩:=C7 (G:=G) (H:=⟨.e,.h⟩) C.fs hv d (f:=315) (first:=[]) (caps:=[]) (R:=λx b=>b=dU->∃s:L Nat,x=.J s/\s≠[]/\ee P G 158 [.J s] (.int .i64 0)) (λx o=>by
  obtain⟨s,rfl,l⟩:=i x o;obtain⟨p,⟨e,rfl,he⟩,h1⟩:=FU C.tofP s (by unfold eI at l;omega);have:f9 P G 315 [.J s] λv=>∃b,v=.bool b/\(b=dU->e=0):=by refine ee.fj (C.fs.h 315) C.dW nJ (wK ?_);exact Su
  obtain⟨_,⟨b,rfl,j⟩,hf⟩:=this;exact⟨b,λe=>by obtain rfl:=j e;exact⟨s,Z,he Z,h1⟩,hf _⟩)
 refine ee.fj (C.fs.h 303) C.dW (it m) (wK ?_);refine fK.eq K ?_;cases b
 .refine xB ?_;refine eW (λh=>?_) (λh=>?_)
  .exact Vh
  obtain⟨_,⟨t,rfl,ht⟩,hj⟩:=C.join v g [44,32] hv i IE ei;conv=>whnf
  refine ee.c hj ?_;refine sK ED ?_;refine sK ED ?_;exact⟨_,.j (kT Ce),_,_,Z,λ_ x o=>j.2 Z x o Z⟩
 exact Vh
def ZF(C:pT P G){x:L A}(i:iI pU x):vE P G x 288 (iI (iH P G) x):=by
 have hp:=i.it;cases i with
 |mk j k n l p Q D q K r m E H f g z F=>
 obtain⟨v,⟨t,e,rfl,he⟩,hf⟩:=ZE C f g z;refine ee.fj (C.fs.h 288) C.dW hp (wK ?_);refine ee.c hf ?_;refine eW (λd=>?_) (λd=>?_)
 .have:=he (by
   cases e with
   |ofNat n=>have:=wC (a:=n) (b:=0) d;rw[this];rfl
   |negSucc n=>simp[gD]at d)
  conv=>whnf
  refine fM m ?_;refine eW (λh=>?_) (λh=>?_);all_goals
   conv=>whnf
   exact⟨_,.j iz,_,Z,λ_=>.mk _ _ _ _ _ _ _ _ K r m E H f g z this⟩
 conv=>whnf
 exact mP
def sI:jP:=.q 1 (.q 2 (.kU 0 (.q 3 (.q 4 (.q 5 (.q 6 (.one 7 (.one 8 (.one 9 .done))))))) (.kU 7 (.one 0 (.q 3 (.q 4 (.q 5 (.q 6 (.one 8 (.one 9 .done))))))) .no)))
def ZG(C:pT P G){x:L A}(g:iI pU x):f9 P G 233 [.agg x] λr=>∃b,r=.bool b/\(b=dT->iI (iH P G) x):=by
 have z:=g.it;obtain⟨F,⟨q,rfl,_⟩,f275⟩:=Zy C.tofP g;obtain⟨H,⟨B,rfl,t276⟩,f276⟩:=Zw C.tofP g;obtain⟨I,⟨s,rfl,_⟩,f278⟩:=Zz C.tofP g;obtain⟨N,⟨D,rfl,t279⟩,f279⟩:=Zx C.tofP g;obtain⟨R,⟨t,rfl,_⟩,f281⟩:=ZA C.tofP g;obtain⟨U,⟨u,rfl,_⟩,f283⟩:=ZB C.tofP g;obtain⟨W,⟨w,rfl,t285⟩,f285⟩:=ZD C.tofP g;obtain⟨v286,⟨E,rfl,_⟩,f286⟩:=ZC C.tofP g;obtain⟨v288,⟨y,rfl,t288⟩,f288⟩:=ZF C g;cases g with
 |mk e k n m p Q is ts K h2 h3 h4 h5 h6 h7 h8 h9=>
 obtain⟨vn,f,fn⟩:=rE C.fs C.dW e (by unfold eI at K;omega);have hk:k=.ofNat 0\/k=.ofNat 1\/k=.ofNat 2\/k=.ofNat 3\/k=.ofNat 4\/k=.ofNat 5\/(∃j,k=.ofNat (j+6))\/∃j,k=.negSucc j:=by
  obtain j|j:=k
  .match j with
   |0=>simp
   |1=>simp
   |2=>simp
   |3=>simp
   |4=>simp
   |5=>simp
   |j+6=>exact .inr (.inr (.inr (.inr (.inr (.inr (.inl ⟨j,Z⟩))))))
  exact .inr (.inr (.inr (.inr (.inr (.inr (.inr ⟨j,Z⟩))))))
 have d:∀v∈[A.J e,.int .i64 k,.int .i64 n,.J m,p,Q],v.Pure:=iI.dW (.mk e k n m p Q is ts K h2 h3 h4 h5 h6 h7 h8 h9);refine Il λpfs=>?_;have l:∀v∈[A.gQ,.gQ,.gQ],v.Pure:=λv hv=>by simp only[eZ,f7,fZ]at hv;obtain rfl|rfl|rfl:=hv<;>exact OW
 refine ee.fj (C.fs.h 233) C.dW z ?_;obtain rfl|rfl|rfl|rfl|rfl|rfl|⟨j,rfl⟩|⟨j,rfl⟩:=hk
 .conv=>whnf
  refine eT.i7 (live:=[T1,T3,T4]) C.mixed C.dW sI (.i .h) [.ea .h 0,.ea (.o .h) 0,.bool dT] (hp [(.h,.dY [.J e,V 0,.int .i64 n,.J m,p,Q]),(.o .h,.dY [.func (.func 275) [] [],.func (.func 276) [] [],.func (.func 277) [] []])]) Z Z Z ?_ ?_
  .conv=>whnf
   refine⟨?_,?_⟩
   .conv=>whnf
    refine mQ ?_;repeat'(first|refine⟨Z,wK ?_⟩|refine bK (λ_=>?_) λ_=>?_)
    exact .lA [(.o .h,.i .h)] [(.h,.dY [.J e,V 0,.int .i64 n,.J m,p,Q]),(.o .h,.dY [.func (.func 275) [] [],.func (.func 276) [] [],.func (.func 277) [] []])] _ ⟨Z,Z⟩ Z tm
     rZ Z
   refine rg ?_;repeat'(first|refine⟨Z,wK ?_⟩|refine bK (λ_=>?_) λ_=>?_)
   refine mQ ?_;repeat'(first|refine⟨Z,wK ?_⟩|refine bK (λ_=>?_) λ_=>?_)
   exact .iC [(.h,.dY [.J e,V 0,.int .i64 n,.J m,p,Q]),(.o .h,.dY [.func (.func 275) [] [],.func (.func 276) [] [],.func (.func 277) [] []])] _ ⟨Z,Z⟩ tj
    rZ
  conv=>whnf
  refine ee.c fn ?_;obtain rfl|⟨rfl,_⟩:=f
  .conv=>whnf
   exact mP
  conv=>whnf
  refine ee.c f275 ?_;cases q
  .conv=>whnf
   exact mP
  conv=>whnf
  refine ee.c f276 ?_;exact⟨_,.j iz,_,Z,λh=>t276 h⟩
 .conv=>whnf
  refine eT.i7 (live:=[T1,T3,T4]) C.mixed C.dW sI (.i .h) [.ea .h 0,.ea (.o .h) 0,.bool dT] (hp [(.h,.dY [.J e,V 1,.int .i64 n,.J m,p,Q]),(.o .h,.dY [.func (.func 278) [] [],.func (.func 279) [] [],.func (.func 280) [] []])]) Z Z Z ?_ ?_
  .conv=>whnf
   refine⟨?_,?_⟩
   .conv=>whnf
    refine mQ ?_;repeat'(first|refine⟨Z,wK ?_⟩|refine bK (λ_=>?_) λ_=>?_)
    exact .lA [(.o .h,.i .h)] [(.h,.dY [.J e,V 1,.int .i64 n,.J m,p,Q]),(.o .h,.dY [.func (.func 278) [] [],.func (.func 279) [] [],.func (.func 280) [] []])] _ ⟨Z,Z⟩ Z tm
     rZ Z
   refine rg ?_;repeat'(first|refine⟨Z,wK ?_⟩|refine bK (λ_=>?_) λ_=>?_)
   refine mQ ?_;repeat'(first|refine⟨Z,wK ?_⟩|refine bK (λ_=>?_) λ_=>?_)
   exact .iC [(.h,.dY [.J e,V 1,.int .i64 n,.J m,p,Q]),(.o .h,.dY [.func (.func 278) [] [],.func (.func 279) [] [],.func (.func 280) [] []])] _ ⟨Z,Z⟩ tj
    rZ
  conv=>whnf
  refine ee.c fn ?_;obtain rfl|⟨rfl,_⟩:=f
  .conv=>whnf
   exact mP
  conv=>whnf
  refine ee.c f278 ?_;cases s
  .conv=>whnf
   exact mP
  exact NR
 .conv=>whnf
  refine eT.i7 (live:=[T1,T3,T4]) C.mixed C.dW sI (.i .h) [.ea .h 0,.ea (.o .h) 0,.bool dT] (hp [(.h,.dY [.J e,V 2,.int .i64 n,.J m,p,Q]),(.o .h,.dY [.func (.func 281) [] [],.func (.func 279) [] [],.func (.func 282) [] []])]) Z Z Z ?_ ?_
  .conv=>whnf
   refine⟨?_,?_⟩
   .conv=>whnf
    refine mQ ?_;repeat'(first|refine⟨Z,wK ?_⟩|refine bK (λ_=>?_) λ_=>?_)
    exact .lA [(.o .h,.i .h)] [(.h,.dY [.J e,V 2,.int .i64 n,.J m,p,Q]),(.o .h,.dY [.func (.func 281) [] [],.func (.func 279) [] [],.func (.func 282) [] []])] _ ⟨Z,Z⟩ Z tm
     rZ Z
   refine rg ?_;repeat'(first|refine⟨Z,wK ?_⟩|refine bK (λ_=>?_) λ_=>?_)
   refine mQ ?_;repeat'(first|refine⟨Z,wK ?_⟩|refine bK (λ_=>?_) λ_=>?_)
   exact .iC [(.h,.dY [.J e,V 2,.int .i64 n,.J m,p,Q]),(.o .h,.dY [.func (.func 281) [] [],.func (.func 279) [] [],.func (.func 282) [] []])] _ ⟨Z,Z⟩ tj
    rZ
  conv=>whnf
  refine ee.c fn ?_;obtain rfl|⟨rfl,_⟩:=f
  .conv=>whnf
   exact mP
  conv=>whnf
  refine ee.c f281 ?_;cases t
  .conv=>whnf
   exact mP
  exact NR
 .conv=>whnf
  refine eT.i7 (live:=[T1,T3,T4]) C.mixed C.dW sI (.i .h) [.ea .h 0,.ea (.o .h) 0,.bool dT] (hp [(.h,.dY [.J e,V 3,.int .i64 n,.J m,p,Q]),(.o .h,.dY [.func (.func 283) [] [],.func (.func 279) [] [],.func (.func 284) [] []])]) Z Z Z ?_ ?_
  .conv=>whnf
   refine⟨?_,?_⟩
   .conv=>whnf
    refine mQ ?_;repeat'(first|refine⟨Z,wK ?_⟩|refine bK (λ_=>?_) λ_=>?_)
    exact .lA [(.o .h,.i .h)] [(.h,.dY [.J e,V 3,.int .i64 n,.J m,p,Q]),(.o .h,.dY [.func (.func 283) [] [],.func (.func 279) [] [],.func (.func 284) [] []])] _ ⟨Z,Z⟩ Z tm
     rZ Z
   refine rg ?_;repeat'(first|refine⟨Z,wK ?_⟩|refine bK (λ_=>?_) λ_=>?_)
   refine mQ ?_;repeat'(first|refine⟨Z,wK ?_⟩|refine bK (λ_=>?_) λ_=>?_)
   exact .iC [(.h,.dY [.J e,V 3,.int .i64 n,.J m,p,Q]),(.o .h,.dY [.func (.func 283) [] [],.func (.func 279) [] [],.func (.func 284) [] []])] _ ⟨Z,Z⟩ tj
    rZ
  conv=>whnf
  refine ee.c fn ?_;obtain rfl|⟨rfl,_⟩:=f
  .conv=>whnf
   exact mP
  conv=>whnf
  refine ee.c f283 ?_;cases u
  .conv=>whnf
   exact mP
  exact NR
 .conv=>whnf
  refine eT.i7 (live:=[T1,T3,T4]) C.mixed C.dW sI (.i .h) [.ea .h 0,.ea (.o .h) 0,.bool dT] (hp [(.h,.dY [.J e,V 4,.int .i64 n,.J m,p,Q]),(.o .h,.dY [.func (.func 285) [] [],.func (.func 286) [] [],.func (.func 287) [] []])]) Z Z Z ?_ ?_
  .conv=>whnf
   refine⟨?_,?_⟩
   .conv=>whnf
    refine mQ ?_;repeat'(first|refine⟨Z,wK ?_⟩|refine bK (λ_=>?_) λ_=>?_)
    exact .lA [(.o .h,.i .h)] [(.h,.dY [.J e,V 4,.int .i64 n,.J m,p,Q]),(.o .h,.dY [.func (.func 285) [] [],.func (.func 286) [] [],.func (.func 287) [] []])] _ ⟨Z,Z⟩ Z tm
     rZ Z
   refine rg ?_;repeat'(first|refine⟨Z,wK ?_⟩|refine bK (λ_=>?_) λ_=>?_)
   refine mQ ?_;repeat'(first|refine⟨Z,wK ?_⟩|refine bK (λ_=>?_) λ_=>?_)
   exact .iC [(.h,.dY [.J e,V 4,.int .i64 n,.J m,p,Q]),(.o .h,.dY [.func (.func 285) [] [],.func (.func 286) [] [],.func (.func 287) [] []])] _ ⟨Z,Z⟩ tj
    rZ
  conv=>whnf
  refine ee.c fn ?_;obtain rfl|⟨rfl,_⟩:=f
  .conv=>whnf
   exact mP
  conv=>whnf
  refine ee.c f285 ?_;cases w
  .conv=>whnf
   exact mP
  conv=>whnf
  refine ee.c f286 ?_;exact⟨_,.j iz,_,Z,λh=>t285 Z⟩
 .conv=>whnf
  refine eT.i7 (live:=[T1,T3,T4]) C.mixed C.dW sI (.i .h) [.ea .h 0,.ea (.o .h) 0,.bool dT] (hp [(.h,.dY [.J e,V 5,.int .i64 n,.J m,p,Q]),(.o .h,.dY [.func (.func 288) [] [],.func (.func 286) [] [],.func (.func 289) [] []])]) Z Z Z ?_ ?_
  .conv=>whnf
   refine⟨?_,?_⟩
   .conv=>whnf
    refine mQ ?_;repeat'(first|refine⟨Z,wK ?_⟩|refine bK (λ_=>?_) λ_=>?_)
    exact .lA [(.o .h,.i .h)] [(.h,.dY [.J e,V 5,.int .i64 n,.J m,p,Q]),(.o .h,.dY [.func (.func 288) [] [],.func (.func 286) [] [],.func (.func 289) [] []])] _ ⟨Z,Z⟩ Z tm
     rZ Z
   refine rg ?_;repeat'(first|refine⟨Z,wK ?_⟩|refine bK (λ_=>?_) λ_=>?_)
   refine mQ ?_;repeat'(first|refine⟨Z,wK ?_⟩|refine bK (λ_=>?_) λ_=>?_)
   exact .iC [(.h,.dY [.J e,V 5,.int .i64 n,.J m,p,Q]),(.o .h,.dY [.func (.func 288) [] [],.func (.func 286) [] [],.func (.func 289) [] []])] _ ⟨Z,Z⟩ tj
    rZ
  conv=>whnf
  refine ee.c fn ?_;obtain rfl|⟨rfl,_⟩:=f
  .conv=>whnf
   exact mP
  conv=>whnf
  refine ee.c f288 ?_;cases y
  .conv=>whnf
   exact mP
  conv=>whnf
  refine ee.c f286 ?_;exact⟨_,.j iz,_,Z,λh=>t288 Z⟩
 .conv=>whnf
  refine eT.i7 (live:=[T1,T3,T4]) C.mixed C.dW sI (.i .h) [.ea .h 0,.ea (.o .h) 0,.bool dU] (hp [(.h,.dY [.J e,V (j+6),.int .i64 n,.J m,p,Q]),(.o .h,.dY [.gQ,.gQ,.gQ])]) Z Z Z ?_ ?_
  .conv=>whnf
   refine⟨?_,?_⟩
   .conv=>whnf
    refine mQ ?_;repeat'(first|refine⟨Z,wK ?_⟩|refine bK (λ_=>?_) λ_=>?_)
    exact .lA [(.o .h,.i .h)] [(.h,.dY [.J e,V (j+6),.int .i64 n,.J m,p,Q]),(.o .h,.dY [.gQ,.gQ,.gQ])] _ ⟨Z,Z⟩ Z tm
     Ik Z
   refine rg ?_;repeat'(first|refine⟨Z,wK ?_⟩|refine bK (λ_=>?_) λ_=>?_)
   refine mQ ?_;repeat'(first|refine⟨Z,wK ?_⟩|refine bK (λ_=>?_) λ_=>?_)
   exact .iC [(.h,.dY [.J e,V (j+6),.int .i64 n,.J m,p,Q]),(.o .h,.dY [.gQ,.gQ,.gQ])] _ ⟨Z,Z⟩ tj
    Ik
  conv=>whnf
  exact mP
 conv=>whnf
 refine eT.i7 (live:=[T1,T3,T4]) C.mixed C.dW sI (.i .h) [.ea .h 0,.ea (.o .h) 0,.bool dU] (hp [(.h,.dY [.J e,.int .i64 (.negSucc j),.int .i64 n,.J m,p,Q]),(.o .h,.dY [.gQ,.gQ,.gQ])]) Z Z Z ?_ ?_
 .conv=>whnf
  refine⟨?_,?_⟩
  .conv=>whnf
   refine mQ ?_;repeat'(first|refine⟨Z,wK ?_⟩|refine bK (λ_=>?_) λ_=>?_)
   exact .lA [(.o .h,.i .h)] [(.h,.dY [.J e,.int .i64 (.negSucc j),.int .i64 n,.J m,p,Q]),(.o .h,.dY [.gQ,.gQ,.gQ])] _ ⟨Z,Z⟩ Z tm
    Ik Z
  refine rg ?_;repeat'(first|refine⟨Z,wK ?_⟩|refine bK (λ_=>?_) λ_=>?_)
  refine mQ ?_;repeat'(first|refine⟨Z,wK ?_⟩|refine bK (λ_=>?_) λ_=>?_)
  exact .iC [(.h,.dY [.J e,.int .i64 (.negSucc j),.int .i64 n,.J m,p,Q]),(.o .h,.dY [.gQ,.gQ,.gQ])] _ ⟨Z,Z⟩ tj
   Ik
 conv=>whnf
 exact mP
def iR(Ta:L A->Prop)(s:L (L A)):Prop:=∀x∈s,Ta x
def fT.dW{sz:Nat}{s:L (L A)}(h:fT sz s v)(b:∀x∈s,∀c∈x,c.Pure):v.Pure:=
 Sl.dW h.1 λc a=>by obtain⟨x,K,r⟩:=lE.1 a;exact b x K c r
def vF{G:ez}{dY:Bool}{F:T A}{a x:IX}{n:Nat}{w i c:L A}{p:S}(d:a.ev G F=Y (.ea p b))(v:x.ev G F=Y (.agg w))(K:fN w=dT)(e:li H p=Y i)(o:O w=n)(r:kK b w i=Y c):
  fA G dY F H (.store n a x)=Y (.put p (.dY c) (.eK [])):=by
 subst o;simp only[fA,d,v,jm,e,A.cells,qA,K,qG,gZ,r,jb]
def Sl.one{o n:Nat}(h:Sl o n w v):mT v=dT:=by obtain⟨rfl,_,_⟩|⟨t,_,rfl,_⟩:=h<;>rfl
def iI.Y{Ta:L A->Prop}{x:L A}(h:iI Ta x):fN x=dT:=by
 cases h with
 |mk v c d e p Q D q K r m E H a b z F=>rw[fN,fN,fN,fN,fN,fN,Sl.one m,Sl.one a];rfl
def Sl.cells{o n:Nat}(h:Sl o n w v):v.cells=[v]:=by obtain⟨rfl,_,_⟩|⟨t,_,rfl,_⟩:=h<;>rfl
def ZH(C:pT P G){s:L (L A)}(hv:fT 6 s v)(D:iR (iI pU) s)(f:O s<=eI):f9 P G 160 [v] λr=>∃e,r=.int .i64 e/\(e=0->iR (iI (iH P G)) s):=by
 have l:v.Pure:=hv.dW λx h=>(D x h).dW;refine ee.fj (C.fs.h 160) C.dW (it l) (wK ?_);refine fM hv.1 ?_;refine bK (λh=>?_) λh=>?_
 .exact MN
 refine fK.j7 (C.fs.h 207) (wK ?_);rw[hv.1.cells];refine eT.range C.ey Z (C.fs.h 232) Z ?_;intro F B n p;conv=>whnf
 refine fK.j7 (C.fs.h 232) (wK ?_);refine fM hv.1 ?_;refine eT.jz C.dW (.i (.o .h)) (λj vs m=>∃k,k+j=O s/\(∀i (h:i<O s),i<k->iI (iH P G) s[i])/\vs=[.gF (.o (.o .h)),.ea (.o .h) 0,v,V (O s),V k]/\
   m=hp [(.h,.dY [.int .i64 0]),(.o .h,.dY [v]),(.i .h,.fX),(.o (.o .h),.loop .ready J J8 (gB [T2] [.ea .h 0]) [10,11] F B (.i .h))])
  (O s) Z xP Z ei Z ?_
 rintro j vs m ⟨k,hk,hall,rfl,rfl⟩;conv=>whnf
 refine eW (λh=>?_) (λh=>?_)
 .replace h:=gz h;obtain⟨_,⟨b,rfl,u⟩,g⟩:=ZG C (D _ (fB h));conv=>whnf
  refine zt ?_;have d:=D _ (fB h);have w:=d.Y;cases b
  .generalize s[k]=x at g d w⊢;cases d with
   |mk Q kk nn tx vi vt is ts K R U E H W h7 h8 h9=>
   refine MD ?_;repeat'(first|refine⟨Z,wK ?_⟩|refine bK (λ_=>?_) λ_=>?_)
   exact TF
  replace u:=u Z;obtain _ |k:=k
  .generalize q:s[0]=x at g d w u⊢;cases d with
   |mk Q kk nn tx vi vt is ts K R U E H W h7 h8 h9=>
   refine MD ?_;repeat'(first|refine⟨Z,wK ?_⟩|refine bK (λ_=>?_) λ_=>?_)
   refine jy.body C.ey n p Z Z Z (wK ?_);repeat'(first|refine⟨Z,wK ?_⟩|refine bK (λ_=>?_) λ_=>?_)
   rw[je (by unfold eI at f;omega)];refine .iC [(.h,.dY [.int .i64 0]),(.o .h,.dY [v]),(.i .h,.fX),(.o (.o .h),.loop .ready J J8 (gB [T2] [.ea .h 0]) [10,11] F B (.i .h))] _
    ⟨j - 1,M,0+1,M,λi hi I=>?_,Z,Z⟩ UU
    Ti
   by_cases e:i=0
   .subst e;rw[q];exact u
   exact zx
  generalize q:s[k+1]=x at g d w u⊢;cases d with
  |mk Q kk nn tx vi vt is ts K R U E H W h7 h8 h9=>
  refine MD ?_;repeat'(first|refine⟨Z,wK ?_⟩|refine bK (λ_=>?_) λ_=>?_)
  refine sK (kL (j:=k) Z hv.1 Z (qf (a:=k+1) (b:=1) M (by unfold eI at f;omega)) M) ?_;obtain⟨t,z⟩:∃t:L Nat,(s[k]' M)[0]? =Y (.J t):=by have:=D _ (fB (show k<O s by omega));generalize s[k]' M=y at this;cases this;exact⟨_,Z⟩
  refine sK (nY Z hv.2 M M z) ?_;repeat'(first|refine⟨Z,wK ?_⟩|refine bK (λ_=>?_) λ_=>?_)
  generalize si t Q=bb;cases bb
  .exact TF
  refine jy.body C.ey n p Z Z Z (wK ?_);repeat'(first|refine⟨Z,wK ?_⟩|refine bK (λ_=>?_) λ_=>?_)
  rw[je (by unfold eI at f;omega)];refine .iC [(.h,.dY [.int .i64 0]),(.o .h,.dY [v]),(.i .h,.fX),(.o (.o .h),.loop .ready J J8 (gB [T2] [.ea .h 0]) [10,11] F B (.i .h))] _
   ⟨j - 1,M,(k+1)+1,M,λi hi I=>?_,Z,Z⟩ UU
   Ti
  by_cases e:i=k+1
  .subst e;rw[q];exact u
  exact zx
 conv=>whnf
 repeat'(first|refine⟨Z,wK ?_⟩|refine bK (λ_=>?_) λ_=>?_)
 exact⟨_,.j fI,_,Z,λ_ x N=>by obtain⟨i,hi,rfl⟩:=km N;exact hall i hi IE⟩
def fV(f:Nat->Nat):Nat->Nat
 |0=>0
 |k+1=>fV f k+f k
def ZI(f:Nat->Nat):∀{a b:Nat},a<=b->fV f a<=fV f b:=by
 intro a b h;induction h with
 |refl=>exact fQ _
 |step h i=>exact ny i (Nat.le_add_right _ _)
def pf(f:Nat->Nat){k n:Nat}(h:k<n):fV f k+f k<=fV f n:=ZI f (a:=k+1) h
inductive Da:List A→Prop
 |mk (z:Int)(va:A)(as:List A)(h1:fC as va)(h2:mf as)(h3:as.length≤eI):Da [.int .i64 z,va]
structure qU where
 op:List Nat→Nat→List A→List A→List (List A)→List (List A)→Nat→Prop
 fO:Nat→Prop
 eC:List A→Prop
inductive sJ (K:qU)(O:Nat→List A→Nat→Prop)(nb:Nat):List A→Nat→Prop
 |mk (va vo:A)(args:List A)(ops:List (List A))(f:Nat→Nat)(h1:fC args va)(h2:iL args)(h3:args.length≤eI)(h4:fT 6 ops vo)(h5:ops.length≤eI)(h6:K.eC args)(h7:∀k (h:k<ops.length),O nb ops[k] (f k)):
   sJ K O nb [va,vo] (args.length+fV f ops.length)
inductive vG (K:qU)(O:Nat→List A→Nat→Prop):List A→Nat→Prop
 |mk (vb:A)(bs:List (List A))(f:Nat→Nat)(h1:fT 2 bs vb)(h2:bs.length≤eI)(h3:K.fO bs.length)(h4:∀k (h:k<bs.length),sJ K O bs.length bs[k] (f k)):vG K O [vb] (fV f bs.length)
inductive ua (K:qU)(O:Nat→List A→Nat→Prop)(nb:Nat):List A→Nat→Prop
 |mk (nm:List Nat)(vo vr va vg vs:A)(os rs:List A)(as gs ss:List (List A))(f:Nat→Nat)(h1:nm.length≤eI)(h2:fC os vo)(h3:mf os)(h4:os.length≤eI)(h5:fC rs vr)(h6:iL rs)(h7:rs.length≤eI)
   (h8:fT 6 as va)(h9:iR (iI pU) as)(h10:as.length≤eI)(h11:fT 1 gs vg)(h12:gs.length≤eI)(h13:fT 2 ss vs)(h14:iR Da ss)(h15:ss.length≤eI)(h16:K.op nm nb os rs as ss gs.length)(h17:∀k (h:k<gs.length),vG K O gs[k] (f k)):
   ua K O nb [.J nm,vo,vr,va,vg,vs] (rs.length+fV f gs.length)
def jJ(K:qU):Nat->Nat->L A->Nat->Prop
 |0=>λ_ _ _=>False
 |d+1=>ua K (jJ K d)
def Da.dW{x:L A}(h:Da x):∀c∈x,c.Pure:=by
 cases h with
 |mk z a F K r m=>
 have:=Sl.dW K r.dW;refine oF λc hc=>?_;obtain rfl|rfl:=hc
 .exact iQ _ _
 exact this
def sJ.dW{K:qU}{b:Nat->L A->Nat->Prop}{nb:Nat}(j:∀x n,b nb x n->∀c∈x,c.Pure){x:L A}{n:Nat}(h:sJ K b nb x n):∀c∈x,c.Pure:=by
 cases h with
 |mk F a d R f e r m E H p g=>
 have l:=Sl.dW e r.dW;have o:=fT.dW E λy k c hc=>by obtain⟨i,C,rfl⟩:=km k;exact j _ _ (g i C) c hc
 refine oF λc hc=>?_;obtain rfl|rfl:=hc
 .exact l
 exact o
def vG.dW{K:qU}{a:Nat->L A->Nat->Prop}(d:∀nb x n,a nb x n->∀c∈x,c.Pure){x:L A}{n:Nat}(h:vG K a x n):∀c∈x,c.Pure:=by
 cases h with
 |mk j H f b r m E=>
 have g:=fT.dW b λy e c hc=>by obtain⟨i,C,rfl⟩:=km e;exact(E i C).dW (d _) c hc
 refine oF λc hc=>?_;subst hc;exact g
def ua.dW{K:qU}{Oa:Nat->List A->Nat->Prop}(hO:∀nb x n,Oa nb x n->∀c∈x,c.Pure){nb:Nat}{x:List A}{n:Nat}(h:ua K Oa nb x n):∀c∈x,c.Pure:=by
 cases h with
 |mk nm vo vr va vg vs os rs as gs ss f h1 h2 h3 h4 h5 h6 h7 h8 h9 h10 h11 h12 h13 h14 h15 h16 h17=>
 have p1:=Sl.dW h2 h3.dW;have p2:=Sl.dW h5 h6.dW;have p3:=fT.dW h8 λy hy=>(h9 y hy).dW;have p4:=fT.dW h11 λy hy c hc=>by obtain⟨i,hi,rfl⟩:=km hy;exact(h17 i hi).dW hO c hc
 have p5:=fT.dW h13 λy hy=>(h14 y hy).dW;intro c hc;simp only[eZ,f7,fZ]at hc;obtain rfl|rfl|rfl|rfl|rfl|rfl:=hc
 .exact jX _
 all_goals assumption
def jJ.dW{K:qU}:∀{d nb:Nat}{x:L A}{n:Nat},jJ K d nb x n->∀c∈x,c.Pure:=by
 intro d;induction d with
 |zero=>intro nb x n h;exact h.elim
 |succ d i=>intro nb x n h;exact ua.dW (λnb x n h=>i h) h
def ua.Y{d:Nat->L A->Nat->Prop}{x:L A}{n:Nat}(h:ua K d l x n):fN x=dT:=by
 cases h with
 |mk v a N D I w q o F E C f s r m t H u y z B e b g c i j k p=>rw[fN,fN,fN,fN,fN,fN,Sl.one r,Sl.one H,Sl.one z.1,Sl.one b.1,Sl.one c.1];rfl
def jJ.Y{x:L A}{n:Nat}(h:jJ K d l x n):fN x=dT:=by
 cases d with
 |zero=>exact h.elim
 |succ d=>exact ua.Y h
def jJ.Kk{x:L A}{n:Nat}(h:jJ K d l x n):∃a N B b c e,x=[a,N,B,b,c,e]:=by
 cases d with
 |zero=>exact h.elim
 |succ d=>cases h;exact⟨_,_,_,_,_,_,Z⟩
def Kl{e:Int}(h:gD e (.ofNat 0)=dT):e=0:=by
 cases e with
 |ofNat n=>have:=wC (a:=n) (b:=0) h;rw[this];rfl
 |negSucc n=>simp[gD]at h
def lu:qU:={op:=λ_ _ _ _ _ _ _=>True,fO:=λ_=>True,eC:=λ_=>True}
def vH(P:Program)(G:ez):qU:={op:=λ_ _ _ o F _ a=>iH P G o/\iR (iI (iH P G)) F/\a<=100,fO:=λn=>1<=n/\n<=200,eC:=iH P G}
def ZJ(C:pT P G):∀(d nb:Nat)(x:L A)(n:Nat),jJ lu d nb x n->∀(I:Int)(b:Nat)(w:Int),b+n<4611686018427387000->
  ∃(r:Bool)(N u:Int),(r=dT->jJ (vH P G) d nb x n/\u=.ofNat (b+n))/\
   eL P G 108 [.ea .h 0,.agg x,.int .i64 w] ⟨.n (Y (.dY [.int .i64 I,.int .i64 (.ofNat b)])) .e .e,.o .h⟩ λr1 H1=>r1=.bool r/\H1.ep.dZ .h=Y (.dY [.int .i64 N,.int .i64 u]):=by
 intro d;induction d with
 |zero=>intro nb x n h;exact h.elim
 |succ d ih=>
 intro nb x n h I b w hbn;suffices hs:∃r H',(∃(r0:Bool)(N u:Int),(r0=dT->jJ (vH P G) (d+1) nb x n/\u=.ofNat (b+n))/\r=.bool r0/\H'.ep.dZ .h=Y (.dY [.int .i64 N,.int .i64 u]))/\
   eL P G 108 [.ea .h 0,.agg x,.int .i64 w] ⟨.n (Y (.dY [.int .i64 I,V b])) .e .e,.o .h⟩ λr1 H1=>r1=r/\H1=H' by
  obtain⟨r,H',⟨r0,N,u,h1,rfl,h3⟩,h4⟩:=hs;exact⟨r0,N,u,h1,h4.mono λr1 H1 ⟨e1,e2⟩=>IQ⟩
 cases h with
 |mk nm vo vr va D t os q as E ss f h1 h2 h3 h4 h5 h6 h7 h8 h9 h10 F h12 h13 h14 h15 h16 h17=>
 have hpx:∀c∈[A.J nm,vo,vr,va,D,t],c.Pure:=jJ.dW (K:=lu) (d:=d+1) (nb:=nb) (.mk nm vo vr va D t os q as E ss f h1 h2 h3 h4 h5 h6 h7 h8 h9 h10 F h12 h13 h14 h15 h16 h17);have pvg:D.Pure:=hpx D ei;refine gT λhM=>?_;obtain⟨_,⟨b159,rfl⟩,f159⟩:=Zl C.tofP nm M;obtain⟨_,⟨e160,rfl,W⟩,f160⟩:=ZH C h8 h9 h10;obtain⟨_,⟨b161,rfl,t161⟩,f161⟩:=Px C.tofP h5 h6.yE M;obtain⟨_,⟨b162,rfl,t162⟩,f162⟩:=Ki (v:=.eG 1 5 [V (O os),V (O q),V (O as),V (O E),V (O ss)] .fE) (xs:=[V (O os),V (O q),V (O as),V (O E),V (O ss)])
  C.tofP (.inr zT) (λy hy=>by simp only[eZ,f7,fZ]at hy;obtain rfl|rfl|rfl|rfl|rfl:=hy<;>exact⟨_,Z⟩) ei
 refine eL.fj (C.fs.h 108) (wK ?_);refine gC ?_;refine fM h5 ?_;refine iu ?_;repeat'(first|refine⟨Z,wK ?_⟩|refine bK (λ_=>?_) λ_=>?_)
 .exact⟨dU,_,_,ei,Z,Z⟩
 refine ee.c f159 ?_;cases b159
 .exact uG
 conv=>whnf
 refine ee.c f160 ?_;refine eW (λhe=>?_) (λhe=>?_)
 .exact uG
 replace W:=W (Kl (by simpa using he));conv=>whnf
 refine ee.c f161 ?_;cases b161
 .exact uG
 replace t161:=t161 Z;conv=>whnf
 refine fM h2 ?_;refine fM h5 ?_;refine fM h8.1 ?_;refine fM F.1 ?_;refine fM h13.1 ?_;refine ee.c f162 ?_;cases b162
 .exact uG
 conv=>whnf
 refine fM F.1 ?_;refine eT.jz C.dW (.i .h) (λj vs m=>∃k I,k+j=O E/\(∀i (h:i<O E),i<k->vG (vH P G) (jJ (vH P G) d) E[i] (f i))/\vs=[.ea .h 0,.int .i64 w,D,V (O E),V k]/\
   m=hp [(.h,.dY [.int .i64 I,V (b+O q+fV f k)]),(.o .h,.dY [.J nm,vo,vr,va,D,t])]) (O E) Z MZ Z ei Z ?_
 rintro j vs m ⟨k,I,hk,hall,rfl,rfl⟩;conv=>whnf
 refine eW (λh=>?_) (λh=>?_)
 .replace h:=gz h;have hsk:=pf f h;conv=>whnf
  refine gW F.1 h ?_;refine fH (lN Z F.2 h) ?_;have hg:=h17 k h;generalize hge:E[k]=g at hg⊢;generalize hfe:f k=fk at hg;cases hg with
  |mk vb H z g1 g2 g3 g4=>
  refine Uw λpvb=>?_;refine eW (λhd=>?_) (λhd=>?_)
  .exact uG
  conv=>whnf
  refine fM g1.1 ?_;refine eW (λhb0=>?_) (λhb0=>?_)
  .exact uG
  conv=>whnf
  refine fM g1.1 ?_;refine eW (λhb1=>?_) (λhb1=>?_)
  .exact uG
  replace hb0:=JX hb0;replace hb1:=iK hb1;conv=>whnf
  refine fM g1.1 ?_;refine eT.jz C.dW (.o (.o .h)) (λj vs m=>∃a I,a+j=O H/\(∀i (h:i<O H),i<a->sJ (vH P G) (jJ (vH P G) d) (O H) H[i] (z i))/\
    vs=[.ea .h 0,.int .i64 w,D,V (O E),V k,vb,V (O H),V a]/\
    m=hp [(.h,.dY [.int .i64 I,V (b+O q+fV f k+fV z a)]),(.o .h,.dY [.J nm,vo,vr,va,D,t]),(.i .h,.dY [vb])]) (O H) Z MZ Z ei Z ?_
  rintro j2 vs m ⟨a,I,jp,Q,rfl,rfl⟩;conv=>whnf
  refine eW (λh'=>?_) (λh'=>?_)
  .replace h':=gz h';have hsk2:=pf z h';conv=>whnf
   refine gW g1.1 h' ?_;refine fH (lN Z g1.2 h') ?_;have hbk:=g4 a h';generalize hbe:H[a]=y at hbk⊢;generalize hfe2:z a=fk2 at hbk;cases hbk with
   |mk va2 vo2 l R f2 q1 q2 q3 q4 q5 q6 q7=>
   refine UM λpva2 pvo2=>?_;obtain⟨_,⟨c162,rfl,_⟩,g162⟩:=Ki (v:=.eG 1 1 [V (O l)] .fE) (xs:=[V (O l)])
    C.tofP (.inr zT) Uu ei
   obtain⟨_,⟨c161,rfl,u161⟩,g161⟩:=Px C.tofP q1 q2.yE M;conv=>whnf
   refine sK Ve ?_;refine gC ?_;refine fM q1 ?_;refine iu ?_;refine fM q1 ?_;refine ee.c g162 ?_;cases c162 with
   |false=>exact uG
   |true=>
   conv=>whnf
   refine ee.c g161 ?_;cases c161 with
   |false=>exact uG
   |true=>
   conv=>whnf
   refine fM q4.1 ?_;refine eT.jz C.dW (.i (.o .h)) (λj vs m=>∃B I,B+j=O R/\(∀i (h:i<O R),i<B->jJ (vH P G) d (O H) R[i] (f2 i))/\
     vs=[.ea .h 0,.int .i64 w,D,V (O E),V k,vb,V (O H),V a,vo2,V (O R),V B]/\
     m=hp [(.h,.dY [.int .i64 I,V (b+O q+fV f k+fV z a+O l+fV f2 B)]),(.o .h,.dY [.J nm,vo,vr,va,D,t]),(.i .h,.dY [vb]),(.o (.o .h),.dY [va2,vo2])]) (O R) Z MZ Z ei Z ?_
   rintro j3 vs m ⟨B,I,xj,U,rfl,rfl⟩;conv=>whnf
   refine eW (λs=>?_) (λs=>?_)
   .replace s:=gz s;have hsk3:=pf f2 s;have hz:=q7 B s;obtain⟨r',N,u,hr',hcall⟩:=ih _ _ _ hz I (b+O q+fV f k+fV z a+O l+fV f2 B) (jN .i64 (w+.ofNat 1)) M;conv=>whnf
    refine gW q4.1 s ?_;refine fH (lN Z q4.2 s) ?_;have hones:=hz.Y;have hpz:=jg hz.dW
    let⟨c0,c1,c2,c3,c4,c5,hze⟩:=hz.Kk
    rw[hze]at hcall hones hpz⊢;conv=>whnf
    refine sf ?_;refine TK ?_;cases r' with
    |false=>exact uG
    |true=>
    obtain⟨hop,rfl⟩:=hr' Z;conv=>whnf
    rw[je M,show b+O q+fV f k+fV z a+O l+fV f2 B+f2 B=b+O q+fV f k+fV z a+O l+fV f2 (B+1) by simp only[fV];omega];exact⟨Z,.iC [(.h,.dY [.int .i64 _,V (b+O q+fV f k+fV z a+O l+fV f2 (B+1))]),(.o .h,.dY [.J nm,vo,vr,va,D,t]),(.i .h,.dY [vb]),(.o (.o .h),.dY [va2,vo2])] _
     ⟨j3 - 1,M,B+1,_,M,λi hi hik=>(by
      by_cases e:i=B
      .subst e;exact hop
      exact U i hi M),Z,Z⟩
     ⟨.L (eV Z) Z,.ey _ fI,.ey _ pvg,.ey _ fI,.ey _ fI,.ey _ pvb,.ey _ fI,.ey _ fI,.ey _ pvo2,.ey _ fI,.ey _ fI,eR⟩
     ⟨rX,Nw,Ig,Vq,eR⟩⟩
   replace s:=iK s;have e3:B=O R:=M
   subst e3;conv=>whnf
   rw[je M,show b+O q+fV f k+fV z a+O l+fV f2 (O R)=b+O q+fV f k+fV z (a+1) by simp only[fV];omega];exact⟨Z,.iC [(.h,.dY [.int .i64 _,V (b+O q+fV f k+fV z (a+1))]),(.o .h,.dY [.J nm,vo,vr,va,D,t]),(.i .h,.dY [vb])] _
    ⟨j2 - 1,M,a+1,_,M,λi hi hik=>(by
     by_cases e:i=a
     .subst e;rw[hbe,hfe2];exact .mk _ _ _ _ _ q1 q2 q3 q4 q5 (u161 Z) λi hi=>U i hi hi
     exact Q i hi M),Z,Z⟩
    ⟨.L (eV Z) Z,.ey _ fI,.ey _ pvg,.ey _ fI,.ey _ fI,.ey _ pvb,.ey _ fI,.ey _ fI,eR⟩
    ⟨rX,Nw,Ig,eR⟩⟩
  replace h':=iK h';have e2:a=O H:=M
  subst e2;conv=>whnf
  rw[je M,show b+O q+fV f k+fV z (O H)=b+O q+fV f (k+1) by simp only[fV];omega];exact⟨Z,.iC [(.h,.dY [.int .i64 _,V (b+O q+fV f (k+1))]),(.o .h,.dY [.J nm,vo,vr,va,D,t])] _
   ⟨j - 1,M,k+1,_,M,λi hi hik=>(by
    by_cases e:i=k
    .subst e;rw[hge,hfe];exact .mk _ _ _ g1 g2 ⟨M,hb1⟩ λi hi=>Q i hi hi
    exact hall i hi M),Z,Z⟩
   ⟨.L (eV Z) Z,.ey _ fI,.ey _ pvg,.ey _ fI,.ey _ fI,eR⟩
   ⟨rX,Nw,eR⟩⟩
 replace h:=iK h;have e1:k=O E:=M
 subst e1;conv=>whnf
 rw[show b+O q+fV f (O E)=b+(O q+fV f (O E)) by omega];exact⟨dT,_,.ofNat (b+(O q+fV f (O E))),λ_=>⟨.mk nm vo vr va D t os q as E ss f h1 h2 h3 h4 h5 h6 h7 h8 h9 h10 F h12 h13 h14 h15 ⟨t161,W,t162 Z _ ei⟩ λi hi=>hall i hi hi,Z⟩,Z,Z⟩
def ZK(h:(!gD (.ofNat a) (.ofNat b))=dU):a=b:=wC ly
inductive Ga (nv nb:Nat):List A→Prop
 |mk (j:Nat)(va:A)(as:List A)(h0:j<nb)(h1:fC as va)(h2:C8 as nv)(h3:as.length≤eI):Ga nv nb [.int .i64 (.ofNat j),va]
def nZ(P:Program)(G:ez)(q:Nat):qU:={op:=λ_ l b o F C a=>iH P G o/\iR (iI (iH P G)) F/\C8 b q/\iR (Ga q l) C/\a<=100,fO:=λn=>1<=n/\n<=200,eC:=iH P G}
def ZL(C:pT P G)(q:Nat)(B:Int):∀(d nb:Nat)(x:L A)(n:Nat),jJ (vH P G) d nb x n->
  ∃(r:Bool),(r=dT->jJ (nZ P G q) d nb x n)/\
   eL P G 109 [.ea .h 0,.agg x,.int .i64 (.ofNat nb)] ⟨.n (Y (.dY [.int .i64 B,.int .i64 (.ofNat q)])) .e .e,.o .h⟩ λr1 H1=>r1=.bool r/\H1.ep.dZ .h=Y (.dY [.int .i64 B,.int .i64 (.ofNat q)]):=by
 intro d;induction d with
 |zero=>intro nb x n h;exact h.elim
 |succ d ih=>
 intro nb x n h;suffices hs:∃r H',(∃(r0:Bool),(r0=dT->jJ (nZ P G q) (d+1) nb x n)/\r=.bool r0/\H'.ep.dZ .h=Y (.dY [.int .i64 B,V q]))/\
   eL P G 109 [.ea .h 0,.agg x,V nb] ⟨.n (Y (.dY [.int .i64 B,V q])) .e .e,.o .h⟩ λr1 H1=>r1=r/\H1=H' by
  obtain⟨r,H',⟨r0,h1,rfl,h3⟩,h4⟩:=hs;exact⟨r0,h1,h4.mono λr1 H1 ⟨e1,e2⟩=>IQ⟩
 cases h with
 |mk U a W F t b os rs as E ss f h1 h2 h3 h4 h5 h6 h7 h8 h9 h10 D h12 H h14 h15 h16 h17=>
 have u:∀c∈[A.J U,a,W,F,t,b],c.Pure:=jJ.dW (K:=(vH P G)) (d:=d+1) (nb:=nb) (.mk U a W F t b os rs as E ss f h1 h2 h3 h4 h5 h6 h7 h8 h9 h10 D h12 H h14 h15 h16 h17);have pvg:t.Pure:=u t ei;have pvs:b.Pure:=u b ei;refine gT λhM=>?_;obtain⟨_,⟨b163,rfl,t163⟩,f163⟩:=Py C.tofP h2 h3 M q;refine eL.fj (C.fs.h 109) (wK ?_);refine gC ?_;refine ee.c f163 ?_;cases b163 with
 |false=>exact EC
 |true=>
 repeat'(first|refine⟨Z,wK ?_⟩|refine bK (λ_=>?_) λ_=>?_)
 refine fM H.1 ?_;refine eT.jz C.dW (.i .h) (λj w m=>∃k,k+j=O ss/\(∀i (h:i<O ss),i<k->Ga q nb ss[i])/\w=[.ea .h 0,V nb,.ea (.o .h) 0,b,V (O ss),V k]/\
   m=hp [(.h,.dY [.int .i64 B,V q]),(.o .h,.dY [.J U,a,W,F,t,b])]) (O ss) Z xP Z ei Z ?_
 rintro j w m ⟨k,hk,hall,rfl,rfl⟩;conv=>whnf
 refine eW (λh=>?_) (λh=>?_)
 .replace h:=gz h;conv=>whnf
  refine gW H.1 h ?_;refine fH (lN Z H.2 h) ?_;have hg:=h14 _ (fB h);generalize hge:ss[k]=g at hg⊢;cases hg with
  |mk z vas as' q1 q2 q3=>
  obtain⟨_,⟨c163,rfl,u163⟩,g163⟩:=Py C.tofP q1 q2 M q;obtain⟨_,⟨c162,rfl,_⟩,g162⟩:=Ki (v:=.eG 1 1 [V (O as')] .fE) (xs:=[V (O as')])
   C.tofP (.inr zT) Uu ei
  have pvas:vas.Pure:=Sl.dW q1 q2.dW;cases z with
  |negSucc z=>
   conv=>whnf
   refine sK SX ?_;refine gC ?_;exact EC
  |ofNat z=>
  conv=>whnf
  refine sK SX ?_;refine gC ?_;generalize hlt:lh (.ofNat z) (.ofNat nb)=bz;cases bz with
  |false=>exact EC
  |true=>
  replace hlt:=gz hlt;conv=>whnf
  refine fM q1 ?_;refine ee.c g162 ?_;cases c162 with
  |false=>exact EC
  |true=>
  repeat'(first|refine⟨Z,wK ?_⟩|refine bK (λ_=>?_) λ_=>?_)
  refine ee.c g163 ?_;cases c163 with
  |false=>exact EC
  |true=>
  repeat'(first|refine⟨Z,wK ?_⟩|refine bK (λ_=>?_) λ_=>?_)
  refine iu ?_;refine .iC [(.h,.dY [.int .i64 B,V q]),(.o .h,.dY [.J U,a,W,F,t,b])] _
   ⟨j - 1,M,k+1,M,λi hi hik=>?_,Z,Z⟩
   ⟨.L (eV Z) Z,.ey _ fI,.L (eV Z) Z,.ey _ pvs,.ey _ fI,.ey _ fI,eR⟩
   ⟨rX,Cs,eR⟩
  by_cases e:i=k
  .subst e;rw[hge];exact .mk _ _ _ hlt q1 (u163 Z) q3
  exact zx
 refine uJ λh=>?_;refine fM D.1 ?_;refine eT.jz C.dW (.i .h) (λj w m=>∃k,k+j=O E/\(∀i (h:i<O E),i<k->vG (nZ P G q) (jJ (nZ P G q) d) E[i] (f i))/\w=[.ea .h 0,t,V (O E),V k]/\
   m=hp [(.h,.dY [.int .i64 B,V q]),(.o .h,.dY [.J U,a,W,F,t,b])]) (O E) Z xP Z ei Z ?_
 rintro j w m ⟨k1,og,I,rfl,rfl⟩;conv=>whnf
 refine eW (λh'=>?_) (λh'=>?_)
 .replace h':=gz h';conv=>whnf
  refine gW D.1 h' ?_;refine fH (lN Z D.2 h') ?_;have hg:=h17 k1 h';generalize hge:E[k1]=g at hg⊢;generalize hfe:f k1=fk at hg;cases hg with
  |mk vb bs f1 g1 g2 g3 g4=>
  refine Uw λpvb=>?_;refine fM g1.1 ?_;refine eT.jz C.dW (.o (.o .h)) (λj w m=>∃k2,k2+j=O bs/\(∀i (h:i<O bs),i<k2->sJ (nZ P G q) (jJ (nZ P G q) d) (O bs) bs[i] (f1 i))/\
    w=[.ea .h 0,.ea (.i .h) 0,t,V (O E),V k1,vb,V (O bs),V k2]/\
    m=hp [(.h,.dY [.int .i64 B,V q]),(.o .h,.dY [.J U,a,W,F,t,b]),(.i .h,.dY [vb])]) (O bs) Z xP Z ei Z ?_
  rintro j2 w m ⟨k2,jp,N,rfl,rfl⟩;conv=>whnf
  refine eW (λs=>?_) (λs=>?_)
  .replace s:=gz s;conv=>whnf
   refine gW g1.1 s ?_;refine fH (lN Z g1.2 s) ?_;have hbk:=g4 k2 s;generalize hbe:bs[k2]=y at hbk⊢;generalize hfe2:f1 k2=fk2 at hbk;cases hbk with
   |mk va2 vo2 args R f2 q1 q2 q3 q4 q5 q6 q7=>
   refine UM λpva2 pvo2=>?_;conv=>whnf
   refine sK Ve ?_;refine fM q4.1 ?_;refine eT.jz C.dW (.i (.o .h)) (λj w m=>∃k3,k3+j=O R/\(∀i (h:i<O R),i<k3->jJ (nZ P G q) d (O bs) R[i] (f2 i))/\
     w=[.ea .h 0,.ea (.i .h) 0,t,V (O E),V k1,vb,V (O bs),V k2,vo2,V (O R),V k3]/\
     m=hp [(.h,.dY [.int .i64 B,V q]),(.o .h,.dY [.J U,a,W,F,t,b]),(.i .h,.dY [vb]),(.o (.o .h),.dY [va2,vo2])]) (O R) Z xP Z ei Z ?_
   rintro j3 w m ⟨k3,xj,Q,rfl,rfl⟩;conv=>whnf
   refine eW (λl=>?_) (λl=>?_)
   .replace l:=gz l;have hz:=q7 k3 l;obtain⟨r',hr',hcall⟩:=ih _ _ _ hz;conv=>whnf
    refine gW q4.1 l ?_;refine fH (lN Z q4.2 l) ?_;have hones:=hz.Y;have hpz:=jg hz.dW
    let⟨c0,c1,c2,c3,c4,c5,hze⟩:=hz.Kk
    rw[hze]at hcall hones hpz⊢;conv=>whnf
    refine sf ?_;refine fM g1.1 ?_;refine TK ?_;cases r' with
    |false=>
     conv=>whnf
     exact⟨dU,ei,Z,Z⟩
    |true=>
    have hop:=hr' Z;conv=>whnf
    refine iu ?_;exact⟨Z,.iC [(.h,.dY [.int .i64 B,V q]),(.o .h,.dY [.J U,a,W,F,t,b]),(.i .h,.dY [vb]),(.o (.o .h),.dY [va2,vo2])] _
     ⟨j3 - 1,M,k3+1,M,λi hi hik=>(by
      by_cases e:i=k3
      .subst e;exact hop
      exact Q i hi M),Z,Z⟩
     ⟨.L (eV Z) Z,.L (eV Z) Z,.ey _ pvg,.ey _ fI,.ey _ fI,.ey _ pvb,.ey _ fI,.ey _ fI,.ey _ pvo2,.ey _ fI,.ey _ fI,eR⟩
     ⟨rX,Cs,Ig,Vq,eR⟩⟩
   replace l:=iK l;conv=>whnf
   refine iu ?_;exact⟨Z,.iC [(.h,.dY [.int .i64 B,V q]),(.o .h,.dY [.J U,a,W,F,t,b]),(.i .h,.dY [vb])] _
    ⟨j2 - 1,M,k2+1,M,λi hi hik=>(by
     by_cases e:i=k2
     .subst e;rw[hbe,hfe2];exact .mk _ _ _ _ _ q1 q2 q3 q4 q5 q6 λi hi=>Q i hi M
     exact N i hi M),Z,Z⟩
    ⟨.L (eV Z) Z,.L (eV Z) Z,.ey _ pvg,.ey _ fI,.ey _ fI,.ey _ pvb,.ey _ fI,.ey _ fI,eR⟩
    ⟨rX,Cs,Ig,eR⟩⟩
  replace s:=iK s;conv=>whnf
  refine iu ?_;exact⟨Z,.iC [(.h,.dY [.int .i64 B,V q]),(.o .h,.dY [.J U,a,W,F,t,b])] _
   ⟨j - 1,M,k1+1,M,λi hi hik=>(by
    by_cases e:i=k1
    .subst e;rw[hge,hfe];exact .mk _ _ _ g1 g2 g3 λi hi=>N i hi M
    exact I i hi M),Z,Z⟩
   ⟨.L (eV Z) Z,.ey _ pvg,.ey _ fI,.ey _ fI,eR⟩
   ⟨rX,Cs,eR⟩⟩
 replace h':=iK h';conv=>whnf
 exact⟨dT,λ_=>.mk U a W F t b os rs as E ss f h1 h2 h3 h4 h5 h6 h7 h8 h9 h10 D h12 H h14 h15
  ⟨h16.1,h16.2.1,t163 Z,λx hx=>(by obtain⟨i,hi,rfl⟩:=km hx;exact hall i hi M),h16.2.2⟩ λi hi=>I i hi M,Z,Z⟩
def ql:L Nat:=[102,117,110,99,46,102,117,110,99]
inductive AU (K:qU)(d:Nat):List A→Nat→Prop
 |mk (vo vr va vg vs:A)(os rs:List A)(as gs ss:List (List A))(n:Nat)(h1:fC os vo)(h2:fC rs vr)(h3:fT 6 as va)(h4:fT 1 gs vg)(h5:fT 2 ss vs)(h6:os.length=0)(h7:rs.length=0)(h8:ss.length=0)(h9:gs.length=1)
   (h10:jJ K d 0 [.J ql,vo,vr,va,vg,vs] n):AU K d [.J ql,vo,vr,va,vg,vs] n
inductive vI (K:qU)(d:Nat):A→List (List A)→Prop
 |mk (v:A)(fs:List (List A))(f:Nat→Nat)(h1:fT 6 fs v)(h2:fs.length≤eI)(h3:∀k,f k≤eI)(h4:∀k (h:k<fs.length),jJ K d 0 fs[k] (f k)):vI K d (.agg [v]) fs
def ZM(C:pT P G){t:L (L A)}(hm:vI lu d v t):f9 P G 49 [v] λr=>∃b,r=.bool b/\(b=dT->∀x∈t,∃n,n<=eI/\AU (nZ P G n) d x n):=by
 cases hm with
 |mk v _ f K h2 h3 h4=>
 refine gT λhM=>?_;have N:v.Pure:=fT.dW K λy hy c hc=>HL;refine ee.fj (C.fs.h 49) C.dW (it (jg (by simpa using N))) (wK ?_);refine fM K.1 ?_;refine eT.jz C.dW (.i .h) (λj vs m=>∃k Q zb,k+j=O t/\(∀i (h:i<O t),i<k->∃n,n<=eI/\AU (nZ P G n) d t[i] n)/\vs=[.ea (.o .h) 0,v,V (O t),V k]/\
   m=hp [(.h,.dY [v]),(.o .h,.dY [.int .i64 Q,.int .i64 zb])]) (O t) Z ⟨0,_,_,M,λi _ h=>M,Z,Z⟩ Z ei Z ?_
 rintro j vs m ⟨k,Q,zb,hk,E,rfl,rfl⟩;conv=>whnf
 refine eW (λh=>?_) (λh=>?_)
 .replace h:=gz h;have F:=h4 k h;have u:=h3 k;obtain⟨r1,R,zb',l,s⟩:=ZJ C d 0 _ _ F Q 0 0 M;conv=>whnf
  refine gW K.1 h ?_;refine fH (lN Z K.2 h) ?_;have hones:=F.Y;have g:=jg F.dW;generalize B:t[k]=x at F s hones g l⊢;generalize hfe:f k=fk at F u l;cases d with
  |zero=>exact F.elim
  |succ d=>
  have hg':=F;cases F with
  |mk nm vo vr va vg vs0 os rs as gs ss f' g1 U g3 g4 W g6 g7 g8 g9 g10 p g12 q g14 g15 g16 g17=>
  conv=>whnf
  refine sf ?_;refine eW (λw=>?_) (λw=>?_)
  .exact xq
  obtain rfl:=tU (by simpa using w);conv=>whnf
  refine fM U ?_;refine fM W ?_;refine fM q.1 ?_;rw[je M,je M];refine eW (λH=>?_) (λH=>?_)
  .exact xq
  replace H:=iK H;conv=>whnf
  refine fM p.1 ?_;refine eW (λD=>?_) (λD=>?_)
  .exact xq
  replace D:=ZK D;conv=>whnf
  refine fK.C9 C.dW Z rf rf (jA g fI) iz s ?_;cases r1 with
  |false=>exact xq
  |true=>
  obtain⟨I,rfl⟩:=l Z;obtain⟨r2,a,z⟩:=ZL C (0+(O rs+fV f' (O gs))) R (d+1) 0 _ _ I;conv=>whnf
  refine fK.C9 C.dW Z rf rf (jA g fI) iz z ?_;cases r2 with
  |false=>exact xq
  |true=>
  have a:=a Z;conv=>whnf
  refine iu ?_;exact⟨Z,.iC [(.h,.dY [v]),(.o .h,.dY [.int .i64 _,.int .i64 _])] _
   ⟨j - 1,M,k+1,_,_,M,λi hi hik=>(by
    by_cases e:i=k
    .subst e;rw[B];rw[lg]at a;exact⟨_,u,.mk _ _ _ _ _ _ _ _ _ _ _ U W g8 p q M M M M a⟩
    exact E i hi M),Z,Z⟩
   ⟨.L (eV Z) Z,.ey _ N,.ey _ fI,.ey _ fI,eR⟩
   ⟨⟨eV Z,fH Z (jB (by simpa using N))⟩,rX,eR⟩⟩
 refine uJ λh=>?_;exact⟨_,.j iz,dT,Z,λ_ x hx=>by obtain⟨i,hi,rfl⟩:=km hx;exact E i hi M⟩
def ZN(C:pT P G){t:L (L A)}(a:vI lu d v t):f9 P G 21 [v] λr=>∃e,r=.int .i64 e/\(e=0->∀x∈t,∃n,n<=eI/\AU (nZ P G n) d x n):=by
 obtain⟨_,⟨b,rfl,hb⟩,hf⟩:=ZM C a;cases a with
 |mk v _ f K j m h4=>
 have g:v.Pure:=fT.dW K λy hy c hc=>HL;refine ee.fj (C.fs.h 21) C.dW (it (jg HY)) (wK ?_);refine ee.c hf ?_;cases b
 .exact nu
 conv=>whnf
 exact⟨_,.j fI,_,Z,λ_=>hb Z⟩
inductive ub:List A→Prop
 |mk (nm:List Nat)(k:Int)(h:nm.length≤eI):ub [.J nm,.int .i64 k]
inductive j9 (Ta:List Nat→List A→List A→List (List A)→Int→Int→List A→Prop):List A→Prop
 |mk (nm:List Nat)(vi vo va:A)(zr zs:Int)(vt:A)(is os:List A)(as:List (List A))(ts:List A)(h1:nm.length≤eI)(h2:fC is vi)(h3:iL is)(h4:is.length≤eI)(h5:fC os vo)(h6:iL os)(h7:os.length≤eI)
   (h8:fT 2 as va)(h9:iR ub as)(h10:as.length≤eI)(h11:fC ts vt)(h12:iL ts)(h13:ts.length≤eI)(h14:Ta nm is os as zr zs ts):j9 Ta [.J nm,vi,vo,va,.int .i64 zr,.int .i64 zs,vt]
inductive lO (Ta:List Nat→List A→List A→List (List A)→Int→Int→List A→Prop)(U:List Nat→List A→List (List A)→Prop):List A→Prop
 |mk (nm:List Nat)(vt vd:A)(ts:List A)(ds:List (List A))(h1:nm.length≤eI)(h2:fC ts vt)(h3:iL ts)(h4:ts.length≤eI)(h5:fT 7 ds vd)(h6:iR (j9 Ta) ds)(h7:ds.length≤eI)(h8:U nm ts ds):lO Ta U [.J nm,vt,vd]
def DAny(_ :L Nat)(_ _ :L A)(_ :L (L A))(_ _ :Int)(_ :L A):Prop:=True
def sL(_ :L Nat)(_ :L A)(_ :L (L A)):Prop:=True
def ub.dW{x:L A}(h:ub x):∀c∈x,c.Pure:=by
 cases h with
 |mk v k h=>refine oF λc hc=>?_;obtain rfl|rfl:=hc<;>simp[jX,iQ]
def j9.dW{Ta:L Nat->L A->L A->L (L A)->Int->Int->L A->Prop}{x:L A}(h:j9 Ta x):∀c∈x,c.Pure:=by
 cases h with
 |mk v p a l n m Q D q F k K h2 h3 E h5 h6 i h8 h9 e b d f g=>have p1:=Sl.dW h2 h3.dW;have p2:=Sl.dW h5 h6.dW;have p3:=fT.dW h8 λy hy=>(h9 y hy).dW;have j:=Sl.dW b d.dW;intro c hc;simp only[eZ,f7,fZ]at hc;obtain rfl|rfl|rfl|rfl|rfl|rfl|rfl:=hc<;>first|assumption|exact jX _ |exact iQ _ _
def lO.dW{Ta:L Nat->L A->L A->L (L A)->Int->Int->L A->Prop}{U:L Nat->L A->L (L A)->Prop}{x:L A}(h:lO Ta U x):∀c∈x,c.Pure:=by
 cases h with
 |mk v Q g q l K r m E H a d z=>have e:=Sl.dW r m.dW;have f:=fT.dW H λy b=>(a y b).dW;refine oF λc hc=>?_;obtain rfl|rfl|rfl:=hc<;>first|assumption|exact jX _
def ZO(C:fP P G)(hv:fT 3 xs v)(hp:∀x∈xs,∀c∈x,c.Pure)(a:O xs<=eI)(hkey:∀x∈xs,∃s,ee P G key [.agg x] (.J s)):f9 P G 35 [v,.func (.func key) [] []] λr=>∃b,r=.bool b:=by have hF:Has P 35 _ _ _:=C.fs.h 35;exact Mt
def ZP(C:fP P G)(hv:fT 7 xs v)(hp:∀x∈xs,∀c∈x,c.Pure)(a:O xs<=eI)(hkey:∀x∈xs,∃s,ee P G key [.agg x] (.J s)):f9 P G 42 [v,.func (.func key) [] []] λr=>∃b,r=.bool b:=by have hF:Has P 42 _ _ _:=C.fs.h 42;exact Mt
def ZQ(C:fP P G)(hv:fT 2 xs v)(hp:∀x∈xs,∀c∈x,c.Pure)(a:O xs<=eI)(hkey:∀x∈xs,∃s,ee P G key [.agg x] (.J s)):f9 P G 106 [v,.func (.func key) [] []] λr=>∃b,r=.bool b:=by have hF:Has P 106 _ _ _:=C.fs.h 106;exact Mt
def PD(C:fP P G){g:L A}(a:fC g v)(hp:∀x∈g,x.Pure)(l:O g<=eI)(d:∀x∈g,∃s,ee P G f [x] (.J s)):f9 P G 40 [v,.func (.func f) [] []] λr=>∃b,r=.bool b:=by
 have m:Has P 40 _ _ _:=C.fs.h 40;have e:=a;have i:v.Pure:=a.dW hp;refine gT λhM=>?_;refine ee.fj m C.dW (jA i (CY ei ei)) (wK ?_);refine eT.pd (λj w=>∃k,1<=k/\k+j=O g+1/\w=[v,.func (.func f) [] [],V k]) (O g) Z ⟨1,M,M,Z⟩ ?_;rintro j w ⟨k,og,n,rfl⟩;conv=>whnf
 refine fM e ?_;refine eW (λh=>?_) (λh=>?_)
 .replace h:=gz h;obtain⟨o,z⟩:=d _ (fB (show k - 1<O g by omega));obtain⟨p,f2⟩:=d _ (fB h);conv=>whnf
  refine gC ?_;refine sK (kL (j:=k - 1) Z e Z (qf M M) M) ?_;refine sK (oA (j:=k - 1) Z M) ?_;refine gW e h ?_;refine sK xR ?_;refine ee.c z ?_;repeat'(first|refine⟨Z,wK ?_⟩|refine bK (λ_=>?_) λ_=>?_)
  refine sK xR ?_;exact Vf
 conv=>whnf
 exact lX
def PE(C:fP P G)(h:iL a):∀x∈a,∃s,ee P G 41 [x] (.J s):=by intro x v;obtain⟨s,rfl,_⟩:=h x v;refine⟨s,ee.lM (C.fs.h 41) C.dW nJ ?_⟩;exact I8
def ZR(C:fP P G){Ta:L Nat->L A->L A->L (L A)->Int->Int->L A->Prop}{U:L Nat->L A->L (L A)->Prop}(h:iR (lO Ta U) a):∀x∈a,∃s,ee P G 36 [.agg x] (.J s):=by
 intro x v;have hp:=it (jg (h x v).dW);cases h x v with
 |mk b Q e q l K r m E H c d z=>refine⟨b,ee.lM (C.fs.h 36) C.dW hp ?_⟩;exact I8
def ZS(C:fP P G){Ta:L Nat->L A->L A->L (L A)->Int->Int->L A->Prop}(h:iR (j9 Ta) b):∀x∈b,∃s,ee P G 43 [.agg x] (.J s):=by
 intro x v;have hp:=it (jg (h x v).dW);cases h x v with
 |mk i p a o t u Q D q F n K r m E H j k z l c d e f g=>refine⟨i,ee.lM (C.fs.h 43) C.dW hp ?_⟩;exact I8
def ZT(C:fP P G)(h:iR ub a):∀x∈a,∃s,ee P G 107 [.agg x] (.J s):=by
 intro x v;have hp:=it (jg (h x v).dW);cases h x v with
 |mk b k K=>refine⟨b,ee.lM (C.fs.h 107) C.dW hp ?_⟩;exact I8
def Db(G:ez)(n:Nat):Prop:=∃v s,G.gX n=Y [v]/\fC s v/\iL s/\O s<=eI
structure iF (P:Program)(G:ez):Prop extends pT P G where
 g1:Db G 1
 g2:Db G 2
 g3:Db G 3
 g4:Db G 4
def Dc{G:ez}{dY:Bool}{F:T A}{n:Nat}(h:G.gX n=Y [v]):fA G dY F H (.load J (.g n))=Y (.val v):=
 jO (cs:=[v]) (off:=0) (by simp only[IX.ev,h,jb]) Z
def iL.J{xs:L A}(h:iL xs):∀x∈xs,∃s,x=.J s:=λx v=>by obtain⟨s,e,_⟩:=h x v;exact⟨s,e⟩
def ZY(C:iF P G)(s:L Nat):f9 P G 103 [.J s] λr=>∃b,r=.bool b:=by
 let⟨k,d,K,g,m,E⟩:=C.g1
 let⟨l,e,W,a,i,j⟩:=C.g3
 refine gT λhM=>?_;have z:=AQ C.fs C.dW g M m.J s;have f:=AQ C.fs C.dW a M i.J s;generalize d.any (tZ s)=b1 at z;generalize e.any (tZ s)=b3 at f;refine ee.fj (C.fs.h 103) C.dW nJ (wK ?_);refine sK (Dc K) ?_;refine ee.c z ?_;cases b1
 .conv=>whnf
  refine sK (Dc W) ?_;refine ee.c f ?_;exact lX
 conv=>whnf
 exact lX
def Kn(C:iF P G){Ta:L Nat->L A->L A->L (L A)->Int->Int->L A->Prop}{x:L A}(d:j9 Ta x){v:A}{xs:L A}(a:fC xs v)(q:iL xs)(hl:O xs<=eI):f9 P G 104 [.agg x,v] λr=>∃b,r=.bool b:=by
 refine gT λhM=>?_;have k:=d.dW;have l:v.Pure:=a.dW q.dW;cases d with
 |mk y p z F B m Q is os D ts I N U E W h6 h7 h8 h9 t g j u w=>
 obtain⟨b,hb,K⟩:=C7 (G:=G) (H:=⟨.n (Y (.dY [.J y,p,z,F,.int .i64 B,.int .i64 m,Q])) (.n (Y (.dY [v])) .e .e) .e,.i .h⟩) C.fs g M (f:=153) (first:=[]) (caps:=[.ea (.o .h) 0]) (R:=λ_ _=>True) (λx d=>by
  obtain⟨s,rfl,hsl⟩:=j x d;have f:=AQ C.fs C.dW a M q.J s;generalize xs.any (tZ s)=b at f;refine⟨b,eR,eL.lM (C.fs.h 153) ?_⟩;conv=>whnf
  refine ee.c f ?_;exact⟨Z,Z⟩)
 refine ee.fj (C.fs.h 104) C.dW (jA (jg k) l) (wK ?_);rw[a.cells];conv=>whnf
 refine fK.eq K (wK ?_);exact lX
def Dd(C:iF P G)(s:L Nat):f9 P G 156 [.J s] λr=>∃(c:Int)(b:Bool),r=.eK [.int .i32 c,.bool b]:=by
 refine ee.fj (C.fs.h 156) C.dW nJ (wK ?_);refine eT.jz C.dW (.o .h) (λ_ w m=>w=[.J s,.ea .h 0]/\m=hp [(.h,.kQ s 0)]) 0 Z ⟨Z,Z⟩ Z ei Z ?_;rintro j w m ⟨rfl,rfl⟩;cases s with
 |nil=>
  conv=>whnf
  exact⟨_,.j (kT (jA fI iz)),_,_,Z⟩
 |cons b i=>
 conv=>whnf
 obtain⟨c,a,d,E⟩:=ZX (G:=G) (dY:=dU) (F:=gB [T0,T7] [.J (b::i),.ea .h 0]) (H:=⟨hp [(.h,.kQ (b::i) 0)],.o .h⟩) (x:=.t T7) Z Z;refine sK E ?_;repeat'(first|refine⟨Z,wK ?_⟩|refine bK (λ_=>?_) λ_=>?_)
 all_goals exact⟨_,.j (kT (jA fI iz)),_,_,Z⟩
def wO:L Nat:=[97,110,121,42]
def wP:L Nat:=[110,117,109,42]
def Gc:L Nat:=[101,108,101,109,32]
def Gd:L Nat:=[116,117,114,110,32]
def uc:L Nat:=[105,110,100,101,120,94]
def kD:L gm:=[⟨.J Gc,.int .i32 (.ofNat 101),0⟩,⟨.J Gd,.int .i32 (.ofNat 116),1⟩,⟨.J uc,.int .i32 (.ofNat 105),2⟩]
def Ko{B:S->S}{D:S->Prop}:jW B D (.map kD 3) (.map kD 3):=.map _ _ _ Z λi h _=>by
 match i,h with
 |0,_=>exact Nq
 |1,_=>exact Nq
 |2,_=>exact Nq
def ZZ{b c:Nat}(y:Nat.beq c b=dU)(h:lY b (l++[c])=dT):lY b l=dT:=by rw[Gb,y,Bool.or_false]at h;exact h
def lr.uT{s:L Nat}{c:Nat}{p:L Nat}(h:lr s (c::p)):s.head? =Y c:=by
 cases s with
 |nil=>have:=h.1;simp at this
 |cons d s=>have:=h.2;simp only[lV,List.take_succ_cons,ti]at this;simp[this.1]
def Kq{s:L Nat}{c d:Nat}{p q:L Nat}(h:lr s (c::p))(y:c≠d):¬lr s (d::q):=λr=>by have:=h.uT.symm.trans r.uT;exact y (gu this)
def sM(s:L Nat)(v:A):Prop:=∃(g F:Int)(a:L Nat)(b:Bool),v=.eK [.agg [.int .i32 g,.int .i32 F,.J a],.bool b]/\O a<=O s/\(g=115->s=wO\/s=wP)/\(g=105->lr s uc)
def Z0(a b:Int)(s:L Nat)(c:Bool):(A.eK [.agg [.int .i32 a,.int .i32 b,.J s],.bool c]).Pure:=
 kT (jA (jg zL) iz)
def sM.dW{s:L Nat}(h:sM s v):v.Pure:=by obtain⟨g,F,a,b,rfl,_⟩:=h;exact Z0 _ _ _ _
def Kr(C:iF P G)(s:L Nat)(hs:O s<=eI):f9 P G 105 [.J s] (sM s):=by
 refine gT λhM=>?_;by_cases ha:s=wO
 .subst ha;refine ee.fj (C.fs.h 105) C.dW nJ (wK ?_);have n:sM wO (.eK [.agg [.int .i32 (.ofNat 115),.int .i32 (.ofNat 0),.J [97,110,121]],.bool dT]):=⟨_,_,_,_,Z,by decide,λ_=>.inl Z,ri⟩
  exact⟨_,.j n.dW,n⟩
 by_cases hn:s=wP
 .subst hn;refine ee.fj (C.fs.h 105) C.dW nJ (wK ?_);have n:sM wP (.eK [.agg [.int .i32 (.ofNat 115),.int .i32 (.ofNat 0),.J [110,117,109]],.bool dT]):=⟨_,_,_,_,Z,by decide,λ_=>.inr Z,ri⟩
  exact⟨_,.j n.dW,n⟩
 obtain⟨v0,U,f0⟩:=wI C.fs C.dW s Gc;obtain⟨v1,N,f1⟩:=wI C.fs C.dW s Gd;obtain⟨v2,I,f2⟩:=wI C.fs C.dW s uc;obtain⟨rfl,p0⟩|⟨rfl,p0⟩:=U
 .obtain⟨rfl,p1⟩|⟨rfl,p1⟩:=N
  .exact absurd p1 (Kq p0 gP)
  obtain⟨rfl,p2⟩|⟨rfl,p2⟩:=I
  .exact absurd p2 (Kq p0 gP)
  obtain⟨_,⟨c,b,rfl⟩,fv⟩:=Dd C (s.drop (O Gc));have a:sM s (.eK [.agg [.int .i32 (.ofNat 101),.int .i32 c,.J []],.bool b]):=⟨_,_,_,_,Z,oE _,ri,ri⟩
  refine xw ?_;refine eW (λh=>?_) (λh=>?_)
  .exact xp
  conv=>whnf
  refine eW (λh=>?_) (λh=>?_)
  .exact xI
  refine xz ?_;rintro j w m ⟨seen,g,k,r,z,rfl,rfl⟩;rcases wM (G:=G) (dY:=dU) (F:=gB [T0,T2,T27] [.J s,.ea .h 0,.ea (.i .h) 0]) (H:=⟨hp [(.h,.dY [.int .i32 (.ofNat 0),.int .i32 (.ofNat 0),.J []]),(.o .h,.map kD 3),(.i .h,.b (Y (.o .h)) 3 seen 3)],.o (.o .h)⟩) (x:=.t T27)
   (p:=.i .h) (q:=.o .h) (b:=kD) (W:=3) Z Z Z Z Z with⟨E,d⟩|⟨l,v,d⟩
  .refine zV λB D f=>?_;exact absurd p0 B
  conv=>whnf
  refine fH d ?_;refine(wN (λy R=>?_):qe l _);obtain⟨e,u,K,rfl⟩:=v y R;simp only[kD,eZ,f7,fZ]at u;obtain rfl|rfl|rfl:=u
  .conv=>whnf
   refine AW ?_;refine ee.c f0 ?_;exact HN
  .exact zE
  exact zP
 obtain⟨rfl,p1⟩|⟨rfl,p1⟩:=N
 .obtain⟨rfl,p2⟩|⟨rfl,p2⟩:=I
  .exact absurd p2 (Kq p1 gP)
  obtain⟨_,⟨c,b,rfl⟩,fv⟩:=Dd C (s.drop (O Gd));have a:sM s (.eK [.agg [.int .i32 (.ofNat 116),.int .i32 c,.J []],.bool b]):=⟨_,_,_,_,Z,oE _,ri,ri⟩
  refine xw ?_;refine eW (λh=>?_) (λh=>?_)
  .exact xp
  conv=>whnf
  refine eW (λh=>?_) (λh=>?_)
  .exact xI
  refine xz ?_;rintro j w m ⟨seen,g,k,r,z,rfl,rfl⟩;rcases wM (G:=G) (dY:=dU) (F:=gB [T0,T2,T27] [.J s,.ea .h 0,.ea (.i .h) 0]) (H:=⟨hp [(.h,.dY [.int .i32 (.ofNat 0),.int .i32 (.ofNat 0),.J []]),(.o .h,.map kD 3),(.i .h,.b (Y (.o .h)) 3 seen 3)],.o (.o .h)⟩) (x:=.t T27)
   (p:=.i .h) (q:=.o .h) (b:=kD) (W:=3) Z Z Z Z Z with⟨E,d⟩|⟨l,v,d⟩
  .refine zV λB D f=>?_;exact absurd p1 D
  conv=>whnf
  refine fH d ?_;refine(wN (λy R=>?_):qe l _);obtain⟨e,u,K,rfl⟩:=v y R;simp only[kD,eZ,f7,fZ]at u;obtain rfl|rfl|rfl:=u
  .exact zD
  .conv=>whnf
   refine AW ?_;refine ee.c f1 ?_;exact HN
  exact zP
 obtain⟨rfl,p2⟩|⟨rfl,p2⟩:=I
 .obtain⟨_,⟨c,b,rfl⟩,fv⟩:=Dd C (s.drop (O uc));have a:sM s (.eK [.agg [.int .i32 (.ofNat 105),.int .i32 c,.J []],.bool b]):=⟨_,_,_,_,Z,oE _,ri,λ_=>p2⟩
  refine xw ?_;refine eW (λh=>?_) (λh=>?_)
  .exact xp
  conv=>whnf
  refine eW (λh=>?_) (λh=>?_)
  .exact xI
  refine xz ?_;rintro j w m ⟨seen,g,k,r,z,rfl,rfl⟩;rcases wM (G:=G) (dY:=dU) (F:=gB [T0,T2,T27] [.J s,.ea .h 0,.ea (.i .h) 0]) (H:=⟨hp [(.h,.dY [.int .i32 (.ofNat 0),.int .i32 (.ofNat 0),.J []]),(.o .h,.map kD 3),(.i .h,.b (Y (.o .h)) 3 seen 3)],.o (.o .h)⟩) (x:=.t T27)
   (p:=.i .h) (q:=.o .h) (b:=kD) (W:=3) Z Z Z Z Z with⟨E,d⟩|⟨l,v,d⟩
  .refine zV λB D f=>?_;exact absurd p2 f
  conv=>whnf
  refine fH d ?_;refine(wN (λy R=>?_):qe l _);obtain⟨e,u,K,rfl⟩:=v y R;simp only[kD,eZ,f7,fZ]at u;obtain rfl|rfl|rfl:=u
  .exact zD
  .exact zE
  conv=>whnf
  refine AW ?_;refine ee.c f2 ?_;exact HN
 obtain⟨vc,W,Q⟩:=C6 C.fs C.vD C.dW C.mixed s 58 M;obtain rfl|⟨q,hq,rfl⟩:=W
 .obtain⟨_,⟨c,b,rfl⟩,fv⟩:=Dd C s;cases b with
  |true=>
   have a:sM s (.eK [.agg [.int .i32 (.ofNat 118),.int .i32 c,.J []],.bool dT]):=⟨_,_,_,_,Z,oE _,ri,ri⟩
   refine xw ?_;refine eW (λh=>?_) (λh=>?_)
   .exact xp
   conv=>whnf
   refine eW (λh=>?_) (λh=>?_)
   .exact xI
   refine xz ?_;rintro j w m ⟨seen,g,k,r,z,rfl,rfl⟩;rcases wM (G:=G) (dY:=dU) (F:=gB [T0,T2,T27] [.J s,.ea .h 0,.ea (.i .h) 0]) (H:=⟨hp [(.h,.dY [.int .i32 (.ofNat 0),.int .i32 (.ofNat 0),.J []]),(.o .h,.map kD 3),(.i .h,.b (Y (.o .h)) 3 seen 3)],.o (.o .h)⟩) (x:=.t T27)
    (p:=.i .h) (q:=.o .h) (b:=kD) (W:=3) Z Z Z Z Z with⟨E,d⟩|⟨l,v,d⟩
   .exact U2
   conv=>whnf
   refine fH d ?_;refine(wN (λy R=>?_):qe l _);obtain⟨e,u,K,rfl⟩:=v y R;simp only[kD,eZ,f7,fZ]at u;obtain rfl|rfl|rfl:=u
   .exact zD
   .exact zE
   exact zP
  |false=>
  obtain⟨_,⟨e,rfl,_⟩,ft⟩:=FU C.tofP s M;have a:sM s (.eK [.agg [.int .i32 (.ofNat 120),.int .i32 (.ofNat 0),.J s],.bool (gD e (.ofNat 0))]):=⟨_,_,_,_,Z,fQ _,ri,ri⟩
  cases he0:gD e (.ofNat 0)
  .rw[he0]at a;refine xw ?_;refine eW (λh=>?_) (λh=>?_)
   .exact xp
   conv=>whnf
   refine eW (λh=>?_) (λh=>?_)
   .exact xI
   refine xz ?_;rintro j w m ⟨seen,g,k,r,z,rfl,rfl⟩;rcases wM (G:=G) (dY:=dU) (F:=gB [T0,T2,T27] [.J s,.ea .h 0,.ea (.i .h) 0]) (H:=⟨hp [(.h,.dY [.int .i32 (.ofNat 0),.int .i32 (.ofNat 0),.J []]),(.o .h,.map kD 3),(.i .h,.b (Y (.o .h)) 3 seen 3)],.o (.o .h)⟩) (x:=.t T27)
    (p:=.i .h) (q:=.o .h) (b:=kD) (W:=3) Z Z Z Z Z with⟨E,d⟩|⟨l,v,d⟩
   .refine zV λB D f=>?_;refine sK d ?_;refine ee.c Q ?_;refine ee.c fv ?_;refine ee.c ft ?_;refine eW (λhz=>?_) (λhz=>?_)
    .rw[he0]at hz;cases hz
    conv=>whnf
    exact .ey _ a.dW
   conv=>whnf
   refine fH d ?_;refine(wN (λy R=>?_):qe l _);obtain⟨e,u,K,rfl⟩:=v y R;simp only[kD,eZ,f7,fZ]at u;obtain rfl|rfl|rfl:=u
   .exact zD
   .exact zE
   exact zP
  rw[he0]at a;refine xw ?_;refine eW (λh=>?_) (λh=>?_)
  .exact xp
  conv=>whnf
  refine eW (λh=>?_) (λh=>?_)
  .exact xI
  refine xz ?_;rintro j w m ⟨seen,g,k,r,z,rfl,rfl⟩;rcases wM (G:=G) (dY:=dU) (F:=gB [T0,T2,T27] [.J s,.ea .h 0,.ea (.i .h) 0]) (H:=⟨hp [(.h,.dY [.int .i32 (.ofNat 0),.int .i32 (.ofNat 0),.J []]),(.o .h,.map kD 3),(.i .h,.b (Y (.o .h)) 3 seen 3)],.o (.o .h)⟩) (x:=.t T27)
   (p:=.i .h) (q:=.o .h) (b:=kD) (W:=3) Z Z Z Z Z with⟨E,d⟩|⟨l,v,d⟩
  .refine zV λB D f=>?_;refine sK d ?_;refine ee.c Q ?_;refine ee.c fv ?_;refine ee.c ft ?_;refine eW (λhz=>?_) (λhz=>?_)
   .conv=>whnf
    exact .ey _ a.dW
   rw[he0]at hz;cases hz
  conv=>whnf
  refine fH d ?_;refine(wN (λy R=>?_):qe l _);obtain⟨e,u,K,rfl⟩:=v y R;simp only[kD,eZ,f7,fZ]at u;obtain rfl|rfl|rfl:=u
  .exact zD
  .exact zE
  exact zP
 obtain⟨_,⟨c,b,rfl⟩,fv⟩:=Dd C (s.take q)
 let⟨v4,xs4,k1,k2,k3,k4⟩:=C.g4
 have f4:=AQ C.fs C.dW k2 M k3.J (s.drop (q+1));generalize xs4.any (tZ (s.drop (q+1)))=b4 at f4;have a:sM s (.eK [.agg [.int .i32 (.ofNat 98),.int .i32 c,.J (s.drop (q+1))],.bool (b&&b4)]):=⟨_,_,_,_,Z,ei,ri,ri⟩
 cases b
 .refine xw ?_;refine eW (λh=>?_) (λh=>?_)
  .exact xp
  conv=>whnf
  refine eW (λh=>?_) (λh=>?_)
  .exact xI
  refine xz ?_;rintro j w m ⟨seen,g,k,r,z,rfl,rfl⟩;rcases wM (G:=G) (dY:=dU) (F:=gB [T0,T2,T27] [.J s,.ea .h 0,.ea (.i .h) 0]) (H:=⟨hp [(.h,.dY [.int .i32 (.ofNat 0),.int .i32 (.ofNat 0),.J []]),(.o .h,.map kD 3),(.i .h,.b (Y (.o .h)) 3 seen 3)],.o (.o .h)⟩) (x:=.t T27)
   (p:=.i .h) (q:=.o .h) (b:=kD) (W:=3) Z Z Z Z Z with⟨E,d⟩|⟨l,v,d⟩
  .exact U2
  conv=>whnf
  refine fH d ?_;refine(wN (λy R=>?_):qe l _);obtain⟨e,u,K,rfl⟩:=v y R;simp only[kD,eZ,f7,fZ]at u;obtain rfl|rfl|rfl:=u
  .exact zD
  .exact zE
  exact zP
 refine xw ?_;refine eW (λh=>?_) (λh=>?_)
 .exact xp
 conv=>whnf
 refine eW (λh=>?_) (λh=>?_)
 .exact xI
 refine xz ?_;rintro j w m ⟨seen,g,k,r,z,rfl,rfl⟩;rcases wM (G:=G) (dY:=dU) (F:=gB [T0,T2,T27] [.J s,.ea .h 0,.ea (.i .h) 0]) (H:=⟨hp [(.h,.dY [.int .i32 (.ofNat 0),.int .i32 (.ofNat 0),.J []]),(.o .h,.map kD 3),(.i .h,.b (Y (.o .h)) 3 seen 3)],.o (.o .h)⟩) (x:=.t T27)
  (p:=.i .h) (q:=.o .h) (b:=kD) (W:=3) Z Z Z Z Z with⟨E,d⟩|⟨l,v,d⟩
 .refine zV λB D f=>?_;refine sK d ?_;refine ee.c Q ?_;refine ee.c fv ?_;refine sK (Dc k1) ?_;refine ee.c f4 ?_;exact .ey _ a.dW
 conv=>whnf
 refine fH d ?_;refine(wN (λy R=>?_):qe l _);obtain⟨e,u,K,rfl⟩:=v y R;simp only[kD,eZ,f7,fZ]at u;obtain rfl|rfl|rfl:=u
 .exact zD
 .exact zE
 exact zP
def mX(G:ez)(H:L gm):Prop:=∀e∈H,mg G .int .i32 e.key/\∃s:L Nat,e.val=.J s/\O s<=eI
def rL{B:S->S}{D:S->Prop}{c:Nat}(h:∀e∈H,e.key.Pure/\e.val.Pure):jW B D (.map H c) (.map H c):=
 .map _ _ _ Z λ_ C _=>⟨.ey _ (h _ (fB C)).1,.ey _ (h _ (fB C)).2,Z⟩
def mg.dW{G:ez}(h:mg G l a v):v.Pure:=by
 cases h with
 |int k z=>exact iQ _ _
 |J k s=>exact jX _
 |fz k p b w h=>exact λ_ _=>.fz _ _
def mX.dW{es:L gm}(h:mX G es):∀e∈es,e.key.Pure/\e.val.Pure:=λe F=>by obtain⟨K,s,r,_⟩:=h e F;exact⟨K.dW,by rw[r];exact jX _⟩
def ud(P:Program)(G:ez)(x:A)(g F:Int)(a:L Nat):Prop:=∃(s:L Nat)(b:Bool),x=.J s/\ee P G 105 [.J s] (.eK [.agg [.int .i32 g,.int .i32 F,.J a],.bool b])/\O a<=eI/\(g=115->s=wO\/s=wP)/\(g=105->lr s uc)
def vJ(P:Program)(G:ez)(s:L A):Prop:=O s<=10/\∀i (h:i<O s),∃g F a,ud P G s[i] g F a/\(i+1<O s->g≠115)
def PJ(C:iF P G)(hv:fC l v)(hs:iL l)(hl:O l<=eI)(q:Bool){es:L gm}(clock:Nat)(f:mX G es):
  ∃(r:Bool)(d:L gm)(a:Nat),mX G d/\(r=dT->vJ P G l)/\eL P G 102 [v,.map .h,.bool q] ⟨.n (Y (.map es clock)) .e .e,.o .h⟩ λr1 W=>r1=.bool r/\W.ep.dZ .h=Y (.map d a):=by
 refine gT λhM=>?_;have U:v.Pure:=hv.dW hs.dW;suffices hh:∃r H',(∃(B:Bool)(d:L gm)(a:Nat),mX G d/\(B=dT->vJ P G l)/\r=.bool B/\H'.ep.dZ .h=Y (.map d a))/\
   eL P G 102 [v,.map .h,.bool q] ⟨.n (Y (.map es clock)) .e .e,.o .h⟩ λr1 W=>r1=r/\W=H' by
  obtain⟨r,H',⟨B,d,a,h1,h2,rfl,h3⟩,h4⟩:=hh;exact⟨B,d,a,h1,h2,h4.mono λr1 W ⟨e1,e2⟩=>IQ⟩
 refine eL.fj (C.fs.h 102) (wK ?_);refine fM hv ?_;refine eW (λw=>?_) (λw=>?_)
 .conv=>whnf
  exact⟨dU,es,clock,f,ei,Z,Z⟩
 replace w:=iK w;refine xB ?_;refine eT.jz C.dW (.o .h) (λj vs m=>∃k es clock,k+j=O l/\mX G es/\(∀i (h:i<O l),i<k->∃g F x,ud P G l[i] g F x/\(i+1<O l->g≠115))/\
   vs=[v,.map .h,.bool q,v,V (O l),V k]/\m=hp [(.h,.map es clock)]) (O l) Z ⟨0,es,clock,M,f,λi _ h=>M,Z,Z⟩ Z ei Z ?_
 rintro j vs m ⟨k,es,clock,hk,f,E,rfl,rfl⟩;conv=>whnf
 refine eW (λh=>?_) (λh=>?_)
 .replace h:=gz h;obtain⟨s,Q,hsl⟩:=hs _ (fB h);obtain⟨_,⟨g,F,x,b,rfl,hcl,h115,h105⟩,fr⟩:=Kr C s hsl;have z:ud P G l[k] g F x:=⟨s,b,Q,fr,M,h115,h105⟩
  obtain⟨lv,lb,hlook,I⟩:=rK (G:=G) (kd:=.int) (kk:=.i32) (k:=.int .i32 F) (zero:=.J []) (.int _ _) (λe y=>(f e y).1);obtain⟨d,a,R,hu1,_,_⟩:=yG (G:=G) (kd:=.int) (kk:=.i32) (k:=.int .i32 F) (v:=.J x) (clock:=clock) (.int _ _) (λe y=>(f e y).1);have H:mX G d:=λe y=>by
   obtain h|⟨h1,h2⟩:=hu1 e y
   .exact f e h
   rw[h1,h2];exact⟨.int _ _,_,Z,M⟩
  obtain⟨ls,rfl⟩:∃ls,lv=.J ls:=by
   obtain⟨_,e,y,_,rfl⟩|⟨_,rfl,_⟩:=I
   .obtain⟨_,s,e2,_⟩:=f e y;exact⟨s,e2⟩
   exact⟨_,Z⟩
  clear I;have p:∀(u:L gm)(N:Nat),mX G u->(k+1<O l->g≠115)->∀(m:T AO)(nn:S),m.dZ .h=Y (.map u N)->AF (.o .h) (.o .h) [v,.map .h,.bool q,v,V (O l),.int .i64 (jN .i64 (.ofNat k+.ofNat 1))] ⟨m,nn⟩ (λvs' m'=>∃k',k'<j/\∃k es clock,k+k'=O l/\mX G es/\(∀i (h:i<O l),i<k->∃g F x,ud P G l[i] g F x/\(i+1<O l->g≠115))/\
    vs'=[v,.map .h,.bool q,v,V (O l),V k]/\m'=hp [(.h,.map es clock)]):=by
   intro u N D hne m nn hm;refine iu ?_;exact .iC [(.h,.map u N)] _ ⟨j - 1,M,k+1,u,N,M,D,λi hi hik=>(by
     by_cases e:i=k
     .subst e;exact⟨g,F,x,z,hne⟩
     exact E i hi M),Z,Z⟩
    ⟨.ey _ U,.map .h (eV Z),.ey _ iz,.ey _ U,.ey _ fI,.ey _ fI,eR⟩ ⟨⟨eV Z,fH hm (rL D.dW)⟩,eR⟩
  have no:∃(B:Bool)(d:L gm)(a:Nat),mX G d/\(B=dT->vJ P G l)/\A.bool dU=.bool B/\Y (AO.map es clock)=Y (.map d a):=⟨dU,es,clock,f,ei,Z,Z⟩
  conv=>whnf
  refine gW hv h ?_;refine fH xR ?_;rw[Q];conv=>whnf
  refine ee.c fr ?_;cases b with
  |false=>
   conv=>whnf
   exact no
  |true=>
  by_cases t:g=115
  .subst t;conv=>whnf
   refine Cg ?_;refine fM hv ?_;refine bK (λt=>?_) λt=>?_
   .exact no
   repeat'(first|refine⟨Z,wK ?_⟩|refine bK (λ_=>?_) λ_=>?_)
   refine p es clock f (λhlt=>?_) _ _ Z;have K:gD (.ofNat k) (jN .i64 (.ofNat (O l) - .ofNat 1))=dT:=by simpa using t
   rw[qf M M]at K;have:=wC K;omega
  cases lb<;>cases q;all_goals
   conv=>whnf
   refine Cg ?_;repeat'(first|refine⟨Z,wK ?_⟩|refine bK (λ_=>?_) λ_=>?_)
   all_goals first
    |exact no
    |exact p es clock f (λ_=>t) _ _ Z
    |(refine fH (R _ _ _ _ _ _ _ rfl rfl rfl rfl) ?_
      conv=>whnf
      exact⟨Z,p d a H (λ_=>t) _ _ Z⟩)
    |(refine fH (Ps rfl hv) ?_
      conv=>whnf
      repeat'(first|refine⟨Z,wK ?_⟩|refine bK (λ_=>?_) λ_=>?_)
      all_goals first|exact no|exact p es clock f (λ_=>t) _ _ Z)
 refine uJ λh=>?_;exact⟨dT,es,clock,f,λ_=>⟨w,λi hi=>E i hi M⟩,Z,Z⟩
def fK.De{p:S}{c l:Nat}{g args1:L A}{r:A}{m:T AO}{n:S}{K:A->eM->Prop}(v:G.Pure)(hp:m.dZ p=Y (.map H c))(j:∀e∈H,e.key.Pure/\e.val.Pure)(b:∀e∈a,e.key.Pure/\e.val.Pure)
  (k:mD (iP [(.h,p)]) (·∈[S.h]) g args1)(q:r.Pure)(h:eL P G f args1 ⟨.n (Y (.map H c)) .e .e,.o .h⟩ λs t=>s=r/\t.ep.dZ .h=Y (.map a l))(w:T.ir (Y (.map a l)) p m λx=>K r ⟨x,n⟩):fK P G d f g ⟨m,n⟩ K:=by
 refine fK.part v [(.h,p)] (.o .h) [(.h,.map H c)] [(.h,.map a l)] [(p,.map a l)] ?_ Z Z ⟨fH hp (rL j),eR⟩ k (h.mono λs t ⟨u,y⟩=>⟨u,y,eR⟩) (.ey _ q) (q _ _)
  ⟨⟨?_,ei,λi C=>⟨(b _ (fB C)).1 _ _,(b _ (fB C)).2 _ _⟩,rL b⟩,eR⟩ w
 .simp only[Ks,List.all_cons,List.all_nil,Bool.and_true,rJ,jL,qH,iP,mA,uI,gZ];rfl
 simp only[iP,mA,uI,gZ]
def Z8{G:ez}{dY:Bool}{F:T A}{x y:IX}{lit:Bool}{k:IntKind}{a b c d:Int}{s j:L Nat}(v:x.ev G F=Y (.agg [.int k a,.int k b,.J s]))(e:y.ev G F=Y (.agg [.int k c,.int k d,.J j])):
  fA G dY F H (.gy .neq (.struct [(0,.int),(1,.int),(2,.J)]) lit x y)=Y (.val (.bool (!(gD a c&&(gD b d&&iT s j))))):=by
 simp only[fA,fG,v,e,jm,o6,nM,lF,EH,EB,jj,Kt,gZ];cases gD a c<;>simp;cases gD b d<;>simp;cases iT s j<;>simp
def sO(P:Program)(G:ez)(v:L Nat)(D q:L A)(_ :L (L A))(_ _ :Int)(_ :L A):Prop:=(∀c∈v,c≠46)/\vJ P G D/\vJ P G q
def PK(C:iF P G){x:L A}(hx:j9 DAny x):f9 P G 48 [.agg x] λr=>∃b,r=.bool b/\(b=dT->j9 (sO P G) x):=by
 refine gT λhM=>?_;have u:=hx.dW;have d:∀s:L Nat,O s<=eI->f9 P G 104 [.agg x,.eG 1 1 [.J s] .fE] λr=>∃b,r=.bool b:=λs hs=>
  Kn C hx (v:=.eG 1 1 [.J s] .fE) (xs:=[.J s]) (.inr zT) (λy I=>by simp only[eZ,f7,fZ]at I;subst I;exact⟨_,Z,hs⟩) (by simp[hM])
 obtain⟨_,⟨bc,rfl⟩,fc⟩:=d [99,111,109,109,117,116,101,115] gP;obtain⟨_,⟨be,rfl⟩,fe⟩:=d [101,110,100] gP;obtain⟨_,⟨bp,rfl⟩,fp⟩:=d [112,117,114,101] gP
 let⟨vg,xg,k1,k2,k3,k4⟩:=C.g1
 obtain⟨_,⟨bg,rfl⟩,fg⟩:=Kn C hx k2 k3 k4;clear d;cases hx with
 |mk B D a F K N Q is os R ts h1 E h3 h4 h5 h6 h7 z h9 U f g W h14=>
 have pvi:=Sl.dW E h3.dW;have pvo:=Sl.dW h5 h6.dW;have pva:=fT.dW z λy I=>(h9 y I).dW;have pvt:=Sl.dW f g.dW;obtain⟨_,hvn,fn⟩:=rE C.fs C.dW B M;obtain⟨bi,es1,c1,q,t1,hc1⟩:=PJ C E h3 h4 dU (es:=[]) 0 (λe he=>by cases he);obtain⟨bo,l,c2,t,t2,hc2⟩:=PJ C h5 h6 h7 dT c1 q;obtain⟨_,⟨br,rfl⟩,frn⟩:=ZQ C.tofP z (λy I=>(h9 y I).dW) U (ZT C.tofP h9);obtain⟨_,⟨bt,rfl⟩,frt⟩:=PD C.tofP f g.dW W (PE C.tofP g);refine ee.fj (C.fs.h 48) C.dW (it (jg u)) (wK ?_);refine ee.c fn ?_;obtain rfl|⟨rfl,_,hdot⟩:=hvn
 .exact xq
 conv=>whnf
 refine fK.De (p:=.o .h) (args1:=[D,.map .h,.bool dU]) C.dW Z (λe he=>by cases he) q.dW ⟨.ey _ pvi,.map .h ei,.ey _ iz,eR⟩ iz hc1 ?_;cases bi with
 |false=>exact xq
 |true=>
 conv=>whnf
 refine fK.De (p:=.o .h) (args1:=[a,.map .h,.bool dT]) C.dW Z q.dW t.dW ⟨.ey _ pvo,.map .h ei,.ey _ iz,eR⟩ iz hc2 ?_;cases bo with
 |false=>exact xq
 |true=>
 have hD:j9 (sO P G) [.J B,D,a,F,.int .i64 K,.int .i64 N,Q]:=.mk B D a F K N Q is os R ts h1 E h3 h4 h5 h6 h7 z h9 U f g W ⟨hdot,t1 Z,t2 Z⟩;conv=>whnf
 refine fM z.1 ?_;refine eW (λhl=>?_) (λhl=>?_)
 .exact xL
 conv=>whnf
 refine fM z.1 ?_;refine eT.jz C.dW (.i .h) (λj vs m=>∃k,k+j=O R/\vs=[.ea .h 0,F,V (O R),V k]/\m=hp [(.h,.dY [.J B,D,a,F,.int .i64 K,.int .i64 N,Q]),(.o .h,.map l c2)]) (O R) Z ⟨0,M,Z,Z⟩ Z ei Z ?_;rintro j vs m ⟨k,hk,rfl,rfl⟩;conv=>whnf
 refine eW (λh=>?_) (λh=>?_)
 .replace h:=gz h;conv=>whnf
  refine gW z.1 h ?_;refine fH (lN Z z.2 h) ?_;have hn:=h9 _ (fB h);generalize R[k]=y at hn⊢;cases hn with
  |mk nn kn hnn=>
  obtain⟨_,hvn2,fn2⟩:=rE C.fs C.dW nn M;conv=>whnf
  refine ee.c fn2 ?_;obtain rfl|⟨rfl,_,_⟩:=hvn2
  .exact xL
  conv=>whnf
  repeat'(first|refine⟨Z,wK ?_⟩|refine bK (λ_=>?_) λ_=>?_)
  all_goals first
   |exact⟨_,.j iz,_,rfl,λ_=>hD⟩
   |(rw[je M]
     exact .iC [(.h,.dY [.J B,D,a,F,.int .i64 K,.int .i64 N,Q]),(.o .h,.map l c2)] _ ⟨j - 1,M,k+1,M,Z,Z⟩ ⟨.L (eV Z) Z,.ey _ pva,.ey _ fI,.ey _ fI,eR⟩
      ⟨Cs,⟨eV Z,fH Z (rL t.dW)⟩,eR⟩)
 conv=>whnf
 refine fM f ?_;refine eT.jz C.dW (.i .h) (λj vs m=>∃k,k+j=O ts/\vs=[.ea .h 0,Q,V (O ts),V k]/\m=hp [(.h,.dY [.J B,D,a,F,.int .i64 K,.int .i64 N,Q]),(.o .h,.map l c2)]) (O ts) Z ⟨0,M,Z,Z⟩ Z ei Z ?_;rintro j2 vs m ⟨k',hk',rfl,rfl⟩;conv=>whnf
 refine eW (λn=>?_) (λn=>?_)
 .replace n:=gz n;obtain⟨s,hse,hsl⟩:=g _ (fB n);obtain⟨_,⟨bs,rfl⟩,fs⟩:=ZY C s;conv=>whnf
  refine gW f n ?_;refine fH (oA Z n) ?_;rw[hse];conv=>whnf
  refine ee.c fs ?_;cases bs
  .exact xL
  conv=>whnf
  refine iu ?_;exact⟨Z,.iC [(.h,.dY [.J B,D,a,F,.int .i64 K,.int .i64 N,Q]),(.o .h,.map l c2)] _ ⟨j2 - 1,M,k'+1,M,Z,Z⟩ ⟨.L (eV Z) Z,.ey _ pvt,.ey _ fI,.ey _ fI,eR⟩
   ⟨Cs,⟨eV Z,fH Z (rL t.dW)⟩,eR⟩⟩
 conv=>whnf
 refine ee.c fc ?_;cases bc
 .exact TM
 conv=>whnf
 refine fM E ?_;refine eW (λH=>?_) (λH=>?_)
 .replace H:=gz H;obtain⟨s0,hs0,hl0⟩:=h3 _ (fB (show 0<O is by omega));obtain⟨s1,hs1,hl1⟩:=h3 _ (fB H);obtain⟨_,⟨so,va0,cl,b,rfl,_⟩,f0⟩:=Kr C s0 hl0;obtain⟨_,⟨so1,va1,cl1,b1,rfl,_⟩,f1⟩:=Kr C s1 hl1;conv=>whnf
  refine sK (kL Z E Z Z (show 0<O is by omega)) ?_;refine fH (oA Z (show 0<O is by omega)) ?_;rw[hs0];conv=>whnf
  refine ee.c f0 ?_;refine gW E H ?_;refine fH (oA Z H) ?_;rw[hs1];conv=>whnf
  refine ee.c f1 ?_;refine eW (λw=>?_) (λw=>?_)
  .exact xL
  conv=>whnf
  refine sK (Z8 Z Z) ?_;refine eW (λhst=>?_) (λhst=>?_)
  .exact xL
  exact TM
 exact xL
structure Df (P:Program)(G:ez)(v:A)(xs:List (List A)):Prop where
 run:ee P G 26 [] v
 sl:fT 3 xs v
 Dh:xs.length≤10
 all:iR (lO (sO P G) fun nm _ _ =>∀c∈nm,c≠46) xs
def lO.yH{Ta i:L Nat->L A->L A->L (L A)->Int->Int->L A->Prop}{U j:L Nat->L A->L (L A)->Prop}{x:L A}(h:lO Ta U x)(hT:∀a b c d e f g,Ta a b c d e f g->i a b c d e f g)(w:∀a b c,U a b c->j a b c):lO i j x:=by
 cases h with
 |mk nm vt m ts l h1 h2 h3 h4 h5 h6 h7 h8=>
 refine .mk nm vt m ts l h1 h2 h3 h4 h5 (λy k=>?_) h7 (w _ _ _ h8);cases h6 y k with
 |mk nm vi vo va zr zs vt is os as ts h1 h2 h3 h4 h5 h6 h7 h8 h9 h10 h11 h12 h13 h14=>exact Wg
def j9.yH{Ta i:L Nat->L A->L A->L (L A)->Int->Int->L A->Prop}{x:L A}(h:j9 Ta x)(hT:∀a b c d e f g,Ta a b c d e f g->i a b c d e f g):j9 i x:=by
 cases h with
 |mk nm vi vo va zr zs vt is os as ts h1 h2 h3 h4 h5 h6 h7 h8 h9 h10 h11 h12 h13 h14=>exact Wg
def Dg(s:L (L A))(R:L A->Bool->Prop)(b:Bool):Prop:=(b=dT->∃x∈s,R x dT)/\(b=dU->∀x∈s,R x dU)
def Ku{H:eM}{f:FuncId}{first caps:L A}{a:L (L A)}{R:L A->Bool->Prop}(hq:∀x∈a,∃b,R x b/\yD P G H f first caps (.agg x) b):∃q:A->Bool,∀x∈a,R x (q (.agg x))/\rG P G H f first caps q (.agg x):=by
 classical
 refine⟨λv=>match v with|.agg x=>if h:x∈a then(hq x h).choose else dU| _=>dU,λx hx=>?_⟩;exact Tk
def Dg.of{s:L (L A)}{R:L A->Bool->Prop}{q:A->Bool}(h:∀x∈s,R x (q (.agg x))):Dg s R (s.any λx=>q (.agg x)):=by
 refine⟨λj=>?_,λj x v=>?_⟩
 .obtain⟨x,v,t⟩:=CD.1 j;exact⟨x,v,t▸h x v⟩
 rw[Iy]at j;have:=h x v;rw[show q (.agg x)=dU by simpa using j x v]at this;exact this
def Z9(d:j8 P){H:eM}{v:A}{s:L (L A)}{f:FuncId}{first caps:L A}{R:L A->Bool->Prop}(a:fT 3 s v)(k:O s<4611686018427387000)
  (t:∀x∈s,∃b,R x b/\yD P G H f first caps (.agg x) b):∃b,Dg s R b/\eL P G 38 [v,.func (.func f) first caps] H λr D=>r=.bool b/\D=H:=by
 obtain⟨q,t⟩:=Ku t;exact⟨_,.of λx c=>(t x c).1,Ze d a k λx c=>(t x c).2⟩
def aaa(d:j8 P){H:eM}{v:A}{s:L (L A)}{f:FuncId}{first caps:L A}{R:L A->Bool->Prop}(a:fT 7 s v)(k:O s<4611686018427387000)
  (t:∀x∈s,∃b,R x b/\yD P G H f first caps (.agg x) b):∃b,Dg s R b/\eL P G 46 [v,.func (.func f) first caps] H λr D=>r=.bool b/\D=H:=by
 obtain⟨q,t⟩:=Ku t;exact⟨_,.of λx c=>(t x c).1,Zg d a k λx c=>(t x c).2⟩
def aab(d:j8 P){H:eM}{v:A}{s:L (L A)}{f:FuncId}{first caps:L A}{R:L A->Bool->Prop}(a:fT 2 s v)(k:O s<4611686018427387000)
  (t:∀x∈s,∃b,R x b/\yD P G H f first caps (.agg x) b):∃b,Dg s R b/\eL P G 144 [v,.func (.func f) first caps] H λr D=>r=.bool b/\D=H:=by
 obtain⟨q,t⟩:=Ku t;exact⟨_,.of λx c=>(t x c).1,Zi d a k λx c=>(t x c).2⟩
def PN(a:L (L A))(v:L Nat)(_ :L A)(_ :L (L A)):Prop:=(∀c∈v,c≠46)/\∀y∈a,y[0]? ≠Y (.J v)
def lO.Y{Ta:L Nat->L A->L A->L (L A)->Int->Int->L A->Prop}{U:L Nat->L A->L (L A)->Prop}{x:L A}(h:lO Ta U x):fN x=dT:=by
 cases h with
 |mk v Q c q l K r m E H a b z=>rw[fN,fN,fN,Sl.one r,Sl.one H.1];rfl
def aac(C:iF P G){g:L (L A)}(K:Df P G vc g)(hv:fT 3 l v)(hx:iR (lO DAny sL) l)(hl:O l<=eI):
  f9 P G 20 [v] λr=>∃e,r=.int .i64 e/\(e=0->iR (lO (sO P G) (PN g)) l/\O l<=10):=by
 refine gT λhM=>?_;have hvp:v.Pure:=hv.dW λx h=>(hx x h).dW;have hcp:vc.Pure:=K.sl.dW λx h=>(K.all x h).dW;obtain⟨_,⟨br,rfl⟩,fr⟩:=ZO C.tofP hv (λx h=>(hx x h).dW) hl (ZR C.tofP hx);refine ee.fj (C.fs.h 20) C.dW (it hvp) (wK ?_);refine fM hv.1 ?_;refine eW (λq=>?_) (λq=>?_)
 .exact nu
 replace q:=iK q;conv=>whnf
 refine ee.c fr ?_;cases br with
 |false=>exact nu
 |true=>
 conv=>whnf
 refine ee.c K.run ?_;refine fM hv.1 ?_;refine eT.jz C.dW .h (λj vs m=>∃k,k+j=O l/\(∀i (h:i<O l),i<k->lO (sO P G) (PN g) l[i])/\vs=[vc,v,V (O l),V k]/\m=hp []) (O l) Z xP Z ei Z ?_;rintro j vs m ⟨k,hk,E,rfl,rfl⟩;conv=>whnf
 refine eW (λh=>?_) (λh=>?_)
 .replace h:=gz h;have hd:=hx _ (fB h);have hones:=hd.Y;conv=>whnf
  refine zt ?_;generalize hxe:l[k]=d at hd hones⊢;cases hd with
  |mk p Q u ts ds h1 B D h4 F z h7 h8=>
  have hpd:∀c∈[A.J p,Q,u],c.Pure:=lO.dW (Ta:=DAny) (U:=sL) (.mk p Q u ts ds h1 B D h4 F z h7 h8);obtain⟨_,hvn,fn⟩:=rE C.fs C.dW p M;obtain⟨bcc,I,fcc⟩:=Z9 (G:=G) (H:=⟨.n (Y (.dY [.J p,Q,u])) .e .e,.o .h⟩) C.fs K.sl (by have:=K.Dh;omega) (f:=39) (first:=[]) (caps:=[.ea .h 0]) (R:=λy b=>b=dU->y[0]? ≠Y (.J p)) (λy a=>by
   have W:=(K.all y a).dW;cases K.all y a with
   |mk t w vd' ts' ds' g1 g2 g3 g4 g5 g6 g7 g8=>
   refine⟨iT t p,λhb=>?_,eL.PM (s:=[(.h,.dY [.J p,Q,u])]) iz (eL.lM (C.fs.h 39) ?_)⟩
   .have:=FD hb;simpa using this
   conv=>whnf
   refine bK (λhq=>?_) λhq=>?_
   .exact⟨by rw[hq];rfl,Z,eR⟩
   exact⟨by rw[hq];rfl,Z,eR⟩)
  obtain⟨_,⟨bt,rfl⟩,ft⟩:=PD C.tofP B D.dW h4 (PE C.tofP D);obtain⟨_,⟨bd,rfl⟩,fd⟩:=ZP C.tofP F (λy a=>(z y a).dW) h7 (ZS C.tofP z);obtain⟨bts,hbts,fts⟩:=C7 (G:=G) (H:=⟨.n (Y (.dY [.J p,Q,u])) .e .e,.o .h⟩) C.fs B M (f:=45) (first:=[]) (caps:=[]) (R:=λ_ _=>True) (λy a=>by
   obtain⟨s,rfl,hs⟩:=D y a;obtain⟨_,hvs,fs⟩:=rE C.fs C.dW s M;obtain rfl|⟨rfl,_⟩:=hvs
   .refine⟨dT,eR,eL.lM (C.fs.h 45) ?_⟩;conv=>whnf
    refine ee.c fs ?_;exact⟨Z,Z⟩
   refine⟨dU,eR,eL.lM (C.fs.h 45) ?_⟩;conv=>whnf
   refine ee.c fs ?_;exact⟨Z,Z⟩)
  obtain⟨bds,N,fds⟩:=aaa (G:=G) (H:=⟨.n (Y (.dY [.J p,Q,u])) .e .e,.o .h⟩) C.fs F M (f:=47) (first:=[]) (caps:=[]) (R:=λy b=>b=dU->j9 (sO P G) y) (λy a=>by
   obtain⟨_,⟨b,rfl,hb⟩,fr⟩:=PK C (z y a);have W:=(z y a).dW;cases z y a with
   |mk t vi vo va zr zs w is os as ts' g1 g2 g3 g4 g5 g6 g7 g8 g9 g10 ui g12 g13 g14=>
   cases b
   .refine⟨dT,ei,?_⟩;have:ee P G 47 [.agg [.J t,vi,vo,va,.int .i64 zr,.int .i64 zs,w]] (.bool dT):=VW;exact this _
   refine⟨dU,λ_=>hb Z,?_⟩;have:ee P G 47 [.agg [.J t,vi,vo,va,.int .i64 zr,.int .i64 zs,w]] (.bool dU):=VW;exact this _)
  conv=>whnf
  refine sf ?_;refine ee.c fn ?_;obtain rfl|⟨rfl,_,hdot⟩:=hvn
  .exact nu
  conv=>whnf
  refine fK.eq fcc ?_;cases bcc with
  |true=>exact nu
  |false=>
  conv=>whnf
  refine fM B ?_;refine eW (λhq1=>?_) (λhq1=>?_)
  .exact nu
  conv=>whnf
  refine fM F.1 ?_;refine eW (λhq2=>?_) (λhq2=>?_)
  .exact nu
  conv=>whnf
  refine ee.c ft ?_;cases bt with
  |false=>exact nu
  |true=>
  conv=>whnf
  refine ee.c fd ?_;cases bd with
  |false=>exact nu
  |true=>
  conv=>whnf
  refine fK.eq fts ?_;cases bts with
  |true=>exact nu
  |false=>
  conv=>whnf
  refine fK.eq fds ?_;cases bds with
  |true=>exact nu
  |false=>
  conv=>whnf
  refine iu ?_;exact⟨Z,.iC [] _ ⟨j - 1,M,k+1,M,λi hi hik=>(by
    by_cases e:i=k
    .subst e;rw[hxe];exact .mk p Q u ts ds h1 B D h4 F (λy a=>N.2 Z y a Z) h7 ⟨hdot,λy a=>I.2 Z y a Z⟩
    exact E i hi M),Z,Z⟩ ⟨.ey _ hcp,.ey _ hvp,.ey _ fI,.ey _ fI,eR⟩ eR⟩
 refine uJ λh=>?_;exact⟨_,.j fI,_,Z,λ_=>⟨λx hxm=>by obtain⟨i,hi,rfl⟩:=km hxm;exact E i hi M,q⟩⟩
def sP(P:Program)(G:ez)(s:L A)(o:L (L A)):Prop:=O s<=10/\O o=O s/\∀i (h:i<O s)(n:i<O o),∃g F a,o[i]=[.int .i32 g,.int .i32 F,.J a]/\ud P G s[i] g F a/\(i+1<O s->g≠115)
def sP.dZ{s:L A}{o:L (L A)}(h:sP P G s o){i:Nat}(C:i<O o):∃g F a,o[i]=[.int .i32 g,.int .i32 F,.J a]/\O a<=eI/\(i+1<O o->g≠115):=by
 let⟨K,r,m⟩:=h
 obtain⟨g,F,a,e,⟨_,_,_,_,b,_⟩,y⟩:=m i M C;exact⟨g,F,a,e,b,λh=>y M⟩
def sP.dW{s:L A}{o:L (L A)}(h:sP P G s o):∀x∈o,∀c∈x,c.Pure:=by intro x v;obtain⟨i,C,rfl⟩:=km v;obtain⟨g,F,a,e,_⟩:=h.dZ C;rw[e];simp[iQ,jX]
def PO{B:S->S}{D:S->Prop}{o n:Nat}{cs:L A}{p:S}(hp:D p)(h:∀c∈cs,c.Pure):gL B D (.eG o n cs (.open (B p))) (.eG o n cs (.open p)):=
 .eG _ _ _ _ _ hp Z λi K _=>.ey _ (h _ (fB K))
def Kv{B:S->S}{D:S->Prop}{o n:Nat}{t:jt}(h:∀c∈w,c.Pure):gL B D (.eG o n w t) (.eG o n w .G):=
 .G _ _ _ _ _ Z λi K _=>.ey _ (h _ (fB K))
def PP(C:iF P G)(hv:fC d v)(hs:iL d)(hr:vJ P G d):f9 P G 200 [v] λr=>∃a,fT 3 a r/\sP P G d a:=by
 refine gT λhM=>?_;have K:v.Pure:=hv.dW hs.dW
 let⟨h10,hr⟩:=hr
 refine ee.fj (C.fs.h 200) C.dW (it K) (wK ?_);refine fM hv ?_;refine eT.jz C.dW (.o .h) (λj vs m=>∃(k:Nat)(a:L (L A))(y:A),k+j=O d/\O a=k/\(∀i (h:i<O d)(n:i<O a),∃g F f,a[i]=[A.int .i32 g,.int .i32 F,.J f]/\ud P G d[i] g F f/\(i+1<O d->g≠115))/\
   ((k=0/\y=.ej/\m=hp [])\/(0<k/\y=.eG 3 k a.flatten (.open .h)/\m=hp [(.h,.eY)]))/\vs=[y,v,V (O d),V k]) (O d) Z ⟨0,[],_,M,Z,λi _ h=>by simp at h,.inl ⟨Z,Z,Z⟩,Z⟩ Z ei Z ?_
 rintro j vs m ⟨k,a,y,hk,t,E,W,rfl⟩;by_cases q:k<O d
 .obtain⟨g,F,f,⟨s,b,U,fr,hcl,Q,N⟩,hne⟩:=hr k q;have I:ud P G d[k] g F f:=⟨s,b,U,fr,hcl,Q,N⟩
  have l:∀i (h:i<O d)(n:i<O (a++[[A.int .i32 g,.int .i32 F,.J f]])),∃u z w,((a++[[A.int .i32 g,.int .i32 F,.J f]])[i]'n)=[A.int .i32 u,.int .i32 z,.J w]/\ud P G d[i] u z w/\(i+1<O d->u≠115):=by
   intro i h n;by_cases e:i<O a
   .rw[uE e];exact E i h e
   have:i=k:=by simp at n;omega
   subst this;rw[Ab M];simp only[t,BZ,wf];exact⟨g,F,f,Z,I,hne⟩
  have D:∀x∈a,∀c∈x,c.Pure:=by intro x hx;obtain⟨i,hi,rfl⟩:=km hx;obtain⟨u,z,w,e,_⟩:=E i M hi;rw[e];simp[iQ,jX]
  have R:∀c∈a.flatten++[A.int .i32 g,.int .i32 F,.J f],c.Pure:=by
   intro c hc;obtain h|h:=jf.1 hc
   .obtain⟨x,h1,h2⟩:=lE.1 h;exact D x h1 c h2
   simp only[eZ,f7,fZ]at h;obtain rfl|rfl|rfl:=h
   .exact iQ _ _
   .exact iQ _ _
   exact jX _
  have H:mU (k+1) 24=dT:=room xJ xJ;obtain⟨rfl,rfl,rfl⟩|⟨h0,rfl,rfl⟩:=W
  .obtain rfl:a=[]:=pG t;conv=>whnf
   refine eW (λh=>?_) (λh=>?_)
   .refine U6 ?_;refine iu ?_;exact⟨Z,.lA [(.h,.i .h)] [(.h,.eY)] _ ⟨j - 1,M,1,[[.int .i32 g,.int .i32 F,.J f]],_,M,Z,by simpa using l,.inr ⟨M,Z,Z⟩,Z⟩ Z
     ⟨PO (cs:=[.int .i32 g,.int .i32 F,.J f]) (p:=.h) (eV Z) (by simpa using R),.ey _ K,.ey _ fI,.ey _ fI,eR⟩ ⟨⟨eV Z,fH Z .eY⟩,eR⟩ Z⟩
   exact absurd q IE
  conv=>whnf
  refine eW (λh=>?_) (λh=>?_)
  .refine U6 ?_;refine sK (J0 (m:=1) Z Z Z Nat.zero_lt_one Z Z H) ?_;refine iu ?_;exact⟨Z,.lA [(.h,.i .h)] [(.h,.eY)] _ ⟨j - 1,M,k+1,a++[[.int .i32 g,.int .i32 F,.J f]],.eG 3 (k+1) (a.flatten++[.int .i32 g,.int .i32 F,.J f]) (.open .h),M,by simp[t],l,.inr ⟨M,ei,Z⟩,Z⟩ Z
    ⟨PO (p:=.h) (eV Z) R,.ey _ K,.ey _ fI,.ey _ fI,eR⟩ ⟨⟨eV Z,fH Z .eY⟩,eR⟩ Z⟩
  exact absurd q IE
 obtain rfl:k=O d:=M
 have B:∀x∈a,O x=3:=by intro x hx;obtain⟨i,hi,rfl⟩:=km hx;obtain⟨u,z,w,e,_⟩:=E i M hi;rw[e];rfl
 have hR:sP P G d a:=⟨h10,t,E⟩
 obtain⟨h0,rfl,rfl⟩|⟨h0,rfl,rfl⟩:=W
 .obtain rfl:a=[]:=pG M;conv=>whnf
  refine eW (λh=>?_) (λh=>?_)
  .exact absurd (gz h) M
  conv=>whnf
  exact⟨_,.ey _ kC,[],⟨.inl ⟨Z,Z,Z⟩,ei⟩,hR⟩
 conv=>whnf
 refine eW (λh=>?_) (λh=>?_)
 .exact absurd (gz h) M
 conv=>whnf
 have D:=hR.dW;exact⟨_,Kv (λc hc=>by obtain⟨x,h1,h2⟩:=lE.1 hc;exact D x h1 c h2),a,⟨.inr ⟨.G,mR,by rw[t],by rw[pS B]⟩,B⟩,hR⟩
def ue{B:S->S}{D:S->Prop}{n:Nat}{cs:L A}{t:jt}(h:∀c∈cs,c.Pure):gL B D (.eG 1 n cs t) (.eG 1 n cs .G):=Kv h
def AY(p:A):Prop:=∃(k b:Int)(r:Nat)(z d y:Int),(r<=3/\(-9223372036854775808<=b/\b<=9223372036854775807)/\(-9223372036854775808<=z/\z<=9223372036854775807)/\(-9223372036854775808<=d/\d<=9223372036854775807)/\ -9223372036854775808<=y/\y<=9223372036854775807)/\p=.agg [.int .i64 k,.int .i64 b,V r,.int .i64 z,.int .i64 d,.int .i64 y]
def AY.dW{p:A}(h:AY p):p.Pure:=by obtain⟨k,b,r,z,d,y,_,rfl⟩:=h;exact jg rf
def aad(C:iF P G){p:A}(hp:AY p):f9 P G 310 [p] λv=>∃cs,fC cs v/\F9 cs/\O cs<=3:=by
 have c:=it hp.dW;obtain⟨k,b,r,z,d,y,j,rfl⟩:=hp;refine ee.fj (C.fs.h 310) C.dW c ?_;have g:r=0\/r=1\/r=2\/r=3:=M
 obtain rfl|rfl|rfl|rfl:=g
 .refine Iw ?_;exact⟨_,.fE 1 0 [] [] Z Cy,[],.inr zT,(λx a=>by cases a),ei⟩
 .refine Iw ?_;exact⟨_,ue (n:=1) (cs:=[.int .i64 z]) rf,[.int .i64 z],.inr IT,(λx a=>by simp at a;exact⟨_,a,M⟩),ei⟩
 .refine Iw ?_;exact⟨_,ue (n:=2) (cs:=[.int .i64 z,.int .i64 d]) rf,[.int .i64 z,.int .i64 d],.inr IT,(λx a=>by simp at a;obtain h|h:=a<;>exact⟨_,h,M⟩),ei⟩
 refine Iw ?_;exact⟨_,ue (n:=3) (cs:=[.int .i64 z,.int .i64 d,.int .i64 y]) rf,[.int .i64 z,.int .i64 d,.int .i64 y],.inr IT,(λx a=>by simp at a;obtain h|h|h:=a<;>exact⟨_,h,M⟩),ei⟩
def aae(C:iF P G){p:A}(hp:AY p):f9 P G 182 [p] λv=>∃s:L Nat,O s<=40/\v=.J s:=by have hpp:=it hp.dW;obtain⟨k,b,r,z,d,y,_,rfl⟩:=hp;exact Tv
def aaf(C:iF P G){p:A}(hp:AY p):f9 P G 298 [p] λv=>∃s:L Nat,O s<=eI/\v=.J s:=by
 have a:=it hp.dW;obtain⟨i,⟨w,e,f,m⟩,z⟩:=aad C hp;obtain⟨_,⟨s,g,rfl⟩,f2⟩:=aae C hp;obtain⟨k,b,r,j,d,y,_,rfl⟩:=hp;obtain⟨_,⟨t,rfl,ht⟩,f3⟩:=C.text k i w s e f m g;refine ee.fj (C.fs.h 298) C.dW a (wK ?_);refine gC ?_;refine ee.c z ?_;repeat'(first|refine⟨Z,wK ?_⟩|refine bK (λ_=>?_) λ_=>?_)
 refine ee.c f2 ?_;repeat'(first|refine⟨Z,wK ?_⟩|refine bK (λ_=>?_) λ_=>?_)
 refine ee.c f3 ?_;repeat'(first|refine⟨Z,wK ?_⟩|refine bK (λ_=>?_) λ_=>?_)
 exact⟨_,.j j5,_,ht,Z⟩
def aag(C:iF P G)(s:L Nat)(l:O s<4611686018427387000):f9 P G 272 [.J s] λv=>∃(t:L Nat)(e:Int),O t<=eI/\v=.eK [.J t,.int .i64 e]:=by
 obtain⟨v,⟨p,e,rfl,hp,_⟩,hr⟩:=yC C.tofP s l 181 (Kf C.tofP);have a:=hp.dW;obtain⟨k,b,r,z,d,y,f,_,rfl⟩:=hp;have hz:AY (.agg [.int .i64 (jN .i64 (.ofNat 5 - .ofNat k)),.int .i64 b,V r,.int .i64 z,.int .i64 d,.int .i64 y]):=⟨_,_,_,_,_,_,f,Z⟩
 obtain⟨_,⟨t,j,rfl⟩,ft⟩:=aaf C hz;have g:ee P G 308 [.agg [V k,.int .i64 b,V r,.int .i64 z,.int .i64 d,.int .i64 y]] (.int .i64 (jN .i64 (.ofNat 5 - .ofNat k))):=by refine ee.lM (C.fs.h 308) C.dW (it a) (wK ?_);exact .ey _ fI
 have i:ee P G 297 [.agg [V k,.int .i64 b,V r,.int .i64 z,.int .i64 d,.int .i64 y]] (.agg [.int .i64 (jN .i64 (.ofNat 5 - .ofNat k)),.int .i64 b,V r,.int .i64 z,.int .i64 d,.int .i64 y]):=by refine ee.lM (C.fs.h 297) C.dW (it a) (wK ?_);refine ee.c g ?_;exact .ey _ hz.dW
 refine TJ λps=>?_;refine ee.fj (C.fs.h 272) C.dW nJ (wK ?_);refine ee.c hr ?_;refine bK (λh=>?_) λh=>?_
 .exact⟨_,.j (ps _ _),_,_,ei,Z⟩
 refine ee.c i ?_;refine ee.c ft ?_;exact⟨_,.j (ps _ _),_,_,j,Z⟩
def HM(H:L gm)(c:Nat):eM:=⟨.n (Y (.map H c)) .e .e,.o .h⟩
def sX(a:A)(H:L gm)(c:Nat):L (S×AO):=[(.h,.dY [a,.map (.o .h)]),(.o .h,.map H c)]
def HX(a:A)(H:L gm)(c:Nat):eM:=⟨hp (sX a H c),.i .h⟩
def yI(p:S):jT p p=dT:=by rw[mA];exact sc Z
def PQ{p q:S}(h:p≠q):jT p q=dU:=by rw[mA];exact Ac h
def fK.yJ{p q:S}{H k:L gm}{c B:Nat}{g:L A}{r:A}{m:T AO}{n:S}{K:A->eM->Prop}(R:G.Pure)(E:p≠q)(hp:m.dZ p=Y (.dY [u,.map q]))(hq:m.dZ q=Y (.map H c))
  (x:u.Pure)(j:∀e∈H,e.key.Pure/\e.val.Pure)(s:∀e∈k,e.key.Pure/\e.val.Pure)(v:∀a∈g,a.Pure)(Q:r.Pure)
  (h:eL P G f (.ea .h 0::g) (HX u H c) λr1 t=>r1=r/\qV t (sX u k B))(W:T.ir (Y (.dY [u,.map q])) p m λm'=>T.ir (Y (.map k B)) q m' λF=>K r ⟨F,n⟩):fK P G d f (.ea p 0::g) ⟨m,n⟩ K:=by
 have z:iP [(.h,p),(.o .h,q)] .h=p:=by simp only[iP,yI,gZ]
 have y:iP [(.h,p),(.o .h,q)] (.o .h)=q:=by simp only[iP,PQ (show S.h≠.o .h by decide),yI,gZ,jx]
 have N:iP (rJ [(.h,p),(.o .h,q)]) p=.h:=by simp only[rJ,jL,qH,iP,yI,gZ]
 have I:iP (rJ [(.h,p),(.o .h,q)]) q=.o .h:=by simp only[rJ,jL,qH,iP,PQ E,yI,gZ,jx]
 have w:∀{l:L A}{π:S->S}{D:S->Prop},(∀a∈l,a.Pure)->mD π D l l:=by
  intro l π D;induction l with
  |nil=>intro _;trivial
  |cons a l ih=>intro h;exact⟨.ey _ (h a ei),ih λb U=>h b (by simp[U])⟩
 refine fK.part (r1:=r) (r:=r) (args1:=.ea .h 0::g) R [(.h,p),(.o .h,q)] (.i .h) (sX u H c) (sX u k B) [(p,.dY [u,.map q]),(q,.map k B)] ?_ Z Z ?_ ?_ h (.ey _ Q) (Q _ _) ?_ W
 .simp only[Ks,List.all_cons,List.all_nil,Bool.and_true,z,y,N,I,yI,Bool.true_and];rfl
 .refine⟨fH (by dsimp only;rw[z];exact hp) (wL (cs:=[u,.map q]) (cs':=[u,.map (.o .h)]) ⟨.ey _ x,?_,eR⟩),fH (by dsimp only;rw[y];exact hq) (rL j),eR⟩;have:=gL.map (π:=iP [(.h,p),(.o .h,q)]) (D:=(·∈([(S.h,p),(.o .h,q)].map (·.1)))) (.o .h) ei;rw[y]at this;exact this
 .refine⟨?_,w v⟩;have:=gL.ea (π:=iP [(.h,p),(.o .h,q)]) (D:=(·∈([(S.h,p),(.o .h,q)].map (·.1)))) .h 0 ei;rw[z]at this;exact this
 refine⟨⟨by rw[z];exact yI _,ei,λi C=>?_,wL ⟨.ey _ x,?_,eR⟩⟩,⟨by rw[y];exact yI _,ei,λi C=>⟨(s _ (fB C)).1 _ _,(s _ (fB C)).2 _ _⟩,rL s⟩,eR⟩
 .match i,C with
  |0,_=>exact x _ _
  |1,_=>exact .map _ eR
 have:=gL.map (π:=iP (rJ [(.h,p),(.o .h,q)])) (D:=(·∈([(S.h,p),(.o .h,q)].map (·.1)).map (iP [(.h,p),(.o .h,q)]))) q (by simp[z,y]);rw[I]at this;exact this
def Kw(g:Int)(a b:Nat):Prop:=a<=3/\b<=1099511627776/\(g=115->a=0)/\(g≠115->g≠105->a=1)
def Ky(C:iF P G){c:Nat}(hes:mX G H)(g F:Int)(l:L Nat):∃a b:Nat,Kw g a b/\
  eL P G 229 [.agg [.int .i32 g,.int .i32 F,.J l],.map .h] (HM H c) λo t=>o=.eK [.int .i64 (.ofNat a),.int .i64 (.ofNat b)]/\t.ep.dZ .h=Y (.map H c):=by
 by_cases d:g=115
 .subst d;refine⟨0,1099511627776,⟨M,M,λ_=>Z,λh=>absurd Z h⟩,eL.lM (C.fs.h 229) ?_⟩;conv=>whnf
  exact⟨Z,Z⟩
 by_cases f:g=105
 .subst f;obtain⟨m,p,hlook,hlc⟩:=rK (G:=G) (kd:=.int) (kk:=.i32) (k:=.int .i32 F) (zero:=.J []) (.int _ _) (λe he=>(hes e he).1);obtain⟨i,rfl,j⟩:∃i,m=.J i/\O i<=eI:=Tz;obtain⟨_,⟨r,e,n,rfl⟩,fr⟩:=Y3 C.tofP i (by unfold eI at j;omega);refine⟨r,r,⟨n,M,λh=>absurd h gP,λ_ h=>absurd Z h⟩,eL.lM (C.fs.h 229) ?_⟩;conv=>whnf
  refine Cg ?_;refine ee.c fr ?_;exact⟨Z,Z⟩
 refine⟨1,1,⟨M,M,λh=>absurd h d,λ_ _=>Z⟩,eL.lM (C.fs.h 229) ?_⟩;conv=>whnf
 refine eW (λh=>?_) (λh=>?_)
 .exact absurd (oP.1 h) d
 conv=>whnf
 refine eW (λh=>?_) (λh=>?_)
 .exact absurd (oP.1 h) f
 conv=>whnf
 exact⟨Z,Z⟩
def aah(C:iF P G)(s:L Nat)(k:Int):f9 P G 255 [.J s,.int .i64 k] λr=>∃b,r=.bool b:=by refine ee.fj (C.fs.h 255) C.dW Ce (wK ?_);exact Vj
def aai(C:iF P G){vr:A}{c:Nat}(hes:mX G H)(g F:Int)(j:L Nat)(l:O j<=eI):∃(t:L Nat)(b:Bool),O t<=eI/\
  eL P G 256 [.ea .h 0,.agg [.int .i32 g,.int .i32 F,.J j]] (HX vr H c) λi f=>i=.eK [.J t,.bool b]/\qV f (sX vr H c):=by
 refine gT λhM=>?_;obtain⟨p,q,hlook,hlc⟩:=rK (G:=G) (kd:=.int) (kk:=.i32) (k:=.int .i32 F) (zero:=.J []) (.int _ _) (λe he=>(hes e he).1);obtain⟨a,rfl,hls⟩:∃a,p=.J a/\O a<=eI:=Tz;obtain⟨_,⟨u,d,n,rfl⟩,f1⟩:=Pq C.toKh a M;obtain⟨_,⟨v,e2,o,rfl⟩,f2⟩:=aag C a M;suffices m:∃r D,(∃(t:L Nat)(b:Bool),O t<=eI/\r=.eK [.J t,.bool b]/\qV D (sX vr H c))/\eL P G 256 [.ea .h 0,.agg [.int .i32 g,.int .i32 F,.J j]] (HX vr H c) λi f=>i=r/\f=D by obtain⟨r,D,⟨t,b,K,rfl,h3⟩,h4⟩:=m;exact⟨t,b,K,h4.mono λi f ⟨d,e2⟩=>⟨d,by rw[e2];exact h3⟩⟩
 refine eL.fj (C.fs.h 256) (wK ?_);refine gC ?_;refine Cg ?_;repeat'(first|exact⟨_,_,(by simp only[hM]at*;omega),Z,Z,Z,eR⟩|refine ee.c f1 ?_|refine ee.c f2 ?_|refine⟨Z,wK ?_⟩|refine bK (λ_=>?_) λ_=>?_)
def aaj(C:iF P G){vr:A}(i:vr.Pure){c:Nat}(j:mX G H)(g F:Int)(a:L Nat)(d:O a<=eI)(t:L Nat)(s:O t<=eI):∃(b:Bool),
  eL P G 230 [.ea .h 0,.agg [.int .i32 g,.int .i32 F,.J a],.J t] (HX vr H c) λr1 H1=>r1=.bool b/\qV H1 (sX vr H c):=by
 refine gT λhM=>?_;obtain⟨u,l,m,f⟩:=aai (vr:=vr) (c:=c) C j g F a d;obtain⟨_,⟨k,e,rfl⟩,fk⟩:=FT C.tofP t M;obtain⟨_,⟨n,rfl⟩,fb⟩:=aah C a (.ofNat k);suffices hh:∃r H',(∃(b:Bool),r=.bool b/\qV H' (sX vr H c))/\eL P G 230 [.ea .h 0,.agg [.int .i32 g,.int .i32 F,.J a],.J t] (HX vr H c) λr1 H1=>r1=r/\H1=H' by exact SE
 refine eL.fj (C.fs.h 230) (wK ?_);refine ee.c fk ?_;repeat'(first|exact⟨_,Z,Z,Z,eR⟩|refine ee.c fb ?_|refine⟨Z,wK ?_⟩|refine bK (λ_=>?_) λ_=>?_)
 refine fK.yJ (p:=.h) (q:=.o .h) C.dW gP Z Z i j.dW j.dW (it (jg zL)) (kT (jA j5 iz)) f ?_;cases l
 .conv=>whnf
  exact⟨_,Z,Z,Z,eR⟩
 conv=>whnf
 exact Mr
def aak(C:iF P G){q:A}(x:fT 3 B q)(w:sP P G is B)(hv:fC xs v)(hs:iL xs)(hl:O xs<=eI){es:L gm}{c:Nat}(f:mX G es):∃(d:L gm)(u:Nat),mX G d/\
  eL P G 201 [.ea .h 0,v] (HX q es c) λH t=>H=.eK []/\qV t (sX q d u):=by
 refine gT λhM=>?_;have y:q.Pure:=x.dW w.dW;have W:v.Pure:=hv.dW hs.dW;have h10:O B<=10:=by have:=w.1;have:=w.2.1;omega
 suffices hh:∃r H',(∃(d:L gm)(u:Nat),mX G d/\r=.eK []/\qV H' (sX q d u))/\eL P G 201 [.ea .h 0,v] (HX q es c) λH t=>H=r/\t=H' by obtain⟨r,H',⟨d,u,h1,rfl,I⟩,h4⟩:=hh;exact⟨d,u,h1,h4.mono λH t ⟨e1,e2⟩=>⟨e1,by rw[e2];exact I⟩⟩
 refine eL.fj (C.fs.h 201) (wK ?_);refine fM x.1 ?_;refine eT.jz C.dW (.i .h) (λj vs m=>∃(k E:Nat)(es:L gm)(c:Nat),k+j=O B/\E<=3*k/\mX G es/\vs=[.ea .h 0,v,V E,q,V (O B),V k]/\m=hp (sX q es c)) (O B) Z ⟨0,0,es,c,M,M,f,Z,Z⟩ Z ei Z ?_;rintro j vs m ⟨k,E,es,c,hk,hat,f,rfl,rfl⟩;conv=>whnf
 refine eW (λh=>?_) (λh=>?_)
 .replace h:=gz h;obtain⟨g,F,D,hre,hcl,hne⟩:=w.dZ h;obtain⟨a,b,K,hcc⟩:=Ky (c:=c) C f g F D;have Q:=jg (cs:=[A.int .i32 g,.int .i32 F,.J D]) zL;refine NA λpt=>?_;conv=>whnf
  refine gW x.1 h ?_;refine fH (lN Z x.2 h) ?_;rw[hre];conv=>whnf
  refine bK (λR=>?_) λR=>?_
  .refine fM hv ?_;refine eW (λn=>?_) (λn=>?_)
   .replace n:=gz n;obtain⟨s,hse,hsl⟩:=hs _ (fB n);obtain⟨d,u,U,hu1,_,_⟩:=yG (G:=G) (kd:=.int) (kk:=.i32) (k:=.int .i32 F) (v:=.J s) (clock:=c) (.int _ _) (λe he=>(f e he).1);have l:mX G d:=λe he=>by
     obtain h|⟨h1,h2⟩:=hu1 e he
     .exact f e h
     rw[h1,h2];exact⟨.int _ _,_,Z,hsl⟩
    obtain⟨a',b',z,N⟩:=Ky (c:=u) C l g F D;conv=>whnf
    refine gC ?_;refine gW hv n ?_;refine fH (oA Z n) ?_;rw[hse];conv=>whnf
    refine sK (U _ _ _ _ _ _ _ Z Z Z Z) ?_;refine gC ?_;refine fK.De (p:=.o .h) (args1:=[.agg [.int .i32 g,.int .i32 F,.J D],.map .h]) C.dW Z l.dW l.dW ⟨.ey _ Q,.map .h ei,eR⟩ (pt _ _) N (wK ?_);repeat'(first|refine⟨Z,wK ?_⟩|refine bK (λ_=>?_) λ_=>?_)
    have I:=z.1;rw[je M,je M];exact .iC (sX q d u) _ ⟨j - 1,M,k+1,E+a',d,u,M,by let⟨I,_⟩:=z;omega,l,Z,Z⟩ TX
     ⟨S0,⟨eV Z,fH Z (rL l.dW)⟩,eR⟩
   conv=>whnf
   exact Vt
  exact Vt
 conv=>whnf
 exact⟨es,c,f,Z,Z,Z,eR⟩
def PR(f:Nat->Nat){B:Nat}:∀{k:Nat},(∀i,i<k->f i<=B)->fV f k<=k*B:=by
 intro k;induction k with
 |zero=>intro _;simp[fV]
 |succ k a=>intro h;have K:=a λi C=>h i M;have r:=h k M;simp only[fV];rw[mK];omega
def Gg(P:Program)(G:ez)(H:L gm)(c:Nat)(o:L (L A))(a b:Nat->Nat):Prop:=
 ∀i (h:i<O o) so va cl,o[i]=[A.int .i32 so,.int .i32 va,.J cl]->Kw so (a i) (b i)/\
  eL P G 229 [.agg [.int .i32 so,.int .i32 va,.J cl],.map .h] (HM H c) λd t=>d=.eK [V (a i),V (b i)]/\t.ep.dZ .h=Y (.map H c)
def PS(C:iF P G){c:Nat}(j:mX G H){D:L A}{o:L (L A)}(l:sP P G D o):∃m p,Gg P G H c o m p:=by
 have h:∀i,∃d:Nat×Nat,∀(h:i<O o) g F f,o[i]=[A.int .i32 g,.int .i32 F,.J f]->Kw g d.1 d.2/\
   eL P G 229 [.agg [.int .i32 g,.int .i32 F,.J f],.map .h] (HM H c) λu t=>u=.eK [V d.1,V d.2]/\t.ep.dZ .h=Y (.map H c):=by
  intro i;by_cases h:i<O o
  .obtain⟨g,F,f,e,_⟩:=l.dZ h;obtain⟨a,b,K,r⟩:=Ky (c:=c) C j g F f;refine⟨(a,b),λ_ v w q k=>?_⟩;rw[e]at k;simp only[ti,A.int.injEq,A.J.injEq,true_and,pA]at k;obtain⟨rfl,rfl,rfl⟩:=k;exact⟨K,r⟩
  exact⟨(0,0),λn=>absurd n h⟩
 exact⟨λi=>(h i).choose.1,λi=>(h i).choose.2,λi s=>(h i).choose_spec s⟩
def PT(C:iF P G)(hvr:fT 3 f l)(g:sP P G W f){c:Nat}(hes:mX G H){q x:Nat->Nat}(u:Gg P G H c f q x)(n:Nat):∃(b:Bool),(b=dT->fV q (O f)<=n)/\
  eL P G 202 [.ea .h 0,.int .i64 (.ofNat n)] (HX l H c) λE t=>E=.bool b/\qV t (sX l H c):=by
 refine gT λhM=>?_;have v:l.Pure:=hvr.dW g.dW;have F:O f<=10:=by have:=g.1;have:=g.2.1;omega
 have s:∀i,i<O f->q i<=3/\x i<=1099511627776:=by intro i z;obtain⟨so,va,cl,e,_⟩:=g.dZ z;obtain⟨⟨K,I,_⟩,_⟩:=u i z so va cl e;exact⟨K,I⟩
 suffices R:∃r D,(∃(b:Bool),(b=dT->fV q (O f)<=n)/\r=.bool b/\qV D (sX l H c))/\eL P G 202 [.ea .h 0,V n] (HX l H c) λE t=>E=r/\t=D by obtain⟨r,D,⟨b,K,rfl,h3⟩,h4⟩:=R;exact⟨b,K,h4.mono λE t ⟨d,y⟩=>⟨d,by rw[y];exact h3⟩⟩
 refine eL.fj (C.fs.h 202) (wK ?_);refine fM hvr.1 ?_;refine eT.jz C.dW (.i .h) (λj w m=>∃k,k+j=O f/\w=[.ea .h 0,V n,V (fV q k),V (fV x k),l,V (O f),V k]/\m=hp (sX l H c)) (O f) Z ⟨0,M,Z,Z⟩ Z ei Z ?_;rintro j w m ⟨k,hk,rfl,rfl⟩;conv=>whnf
 refine eW (λh=>?_) (λh=>?_)
 .replace h:=gz h;obtain⟨so,va,cl,hre,Q,U⟩:=g.dZ h;obtain⟨N,hcc⟩:=u k h so va cl hre;have hpa:=jg (cs:=[A.int .i32 so,.int .i32 va,.J cl]) zL;refine NA λpt=>?_;have s1:=PR q (B:=3) (k:=k) λi z=>(s i M).1;have s2:=PR x (B:=1099511627776) (k:=k) λi z=>(s i M).2;obtain⟨c1,c2⟩:=s k h;refine U5 ?_;repeat'(first|refine⟨Z,wK ?_⟩|refine bK (λ_=>?_) λ_=>?_)
  rw[je M,je M,je M];exact .iC (sX l H c) _ ⟨j - 1,M,k+1,M,Z,Z⟩ ⟨.L (eV Z) Z,.ey _ fI,.ey _ fI,.ey _ fI,.ey _ v,.ey _ fI,.ey _ fI,eR⟩
   ⟨⟨eV Z,fH Z (wL ⟨.ey _ v,.map (.o .h) (eV Z),eR⟩)⟩,M2,eR⟩
 replace h:=iK h;obtain rfl:k=O f:=M
 conv=>whnf
 refine eW (λK=>?_) (λK=>?_)
 .replace K:fV q (O f)<=n:=FN K;conv=>whnf
  repeat'(first|exact⟨_,λ_=>K,Z,Z,Z,eR⟩|refine⟨Z,wK ?_⟩|refine bK (λ_=>?_) λ_=>?_)
 conv=>whnf
 repeat'(first|exact⟨false,ei,Z,Z,Z,eR⟩|refine⟨Z,wK ?_⟩|refine bK (λ_=>?_) λ_=>?_)
def PU(C:iF P G){n:A}(hvr:fT 3 l n)(B:sP P G is l){c:Nat}(hes:mX G H){F cb:Nat->Nat}(R:Gg P G H c l F cb){D:L A}(hv:fC D v)(hs:iL D)(hl:O D<=eI)
  (hsum:fV F (O l)<=O D):∃(b:Bool),eL P G 203 [.ea .h 0,v] (HX n H c) λr1 H1=>r1=.bool b/\qV H1 (sX n H c):=by
 refine gT λhM=>?_;have g:n.Pure:=hvr.dW B.dW;have K:v.Pure:=hv.dW hs.dW;have h10:O l<=10:=by have:=B.1;have:=B.2.1;omega
 suffices hh:∃r H',(∃(b:Bool),r=.bool b/\qV H' (sX n H c))/\eL P G 203 [.ea .h 0,v] (HX n H c) λr1 H1=>r1=r/\H1=H' by exact SE
 refine eL.fj (C.fs.h 203) (wK ?_);refine fM hvr.1 ?_;refine eT.jz C.dW (.i .h) (λj w m=>∃(k E:Nat),k+j=O l/\E<=O D/\(k<O l->E=fV F k)/\w=[.ea .h 0,v,V E,n,V (O l),V k]/\m=hp (sX n H c)) (O l) Z ⟨0,0,M,M,λ_=>Z,Z,Z⟩ Z ei Z ?_;rintro j w m ⟨k,E,hk,hat,u,rfl,rfl⟩;conv=>whnf
 refine eW (λh=>?_) (λh=>?_)
 .replace h:=gz h;replace u:=u h;obtain⟨so,va,cl,hre,Q,y⟩:=B.dZ h;obtain⟨hab,hcc⟩:=R k h so va cl hre;have I:∀c∈[A.int .i32 so,.int .i32 va,.J cl],c.Pure:=by simp[iQ,jX]
  have hpa:=jg I;refine NA λpt=>?_;have sk:=pf F h;refine U5 ?_;repeat'(first|refine⟨Z,wK ?_⟩|refine bK (λ_=>?_) λ_=>?_)
  .rename_i f;replace f:=oP.1 f;refine fM hv ?_;rw[qf M M];obtain⟨d,z⟩:∃d,d=O D - E:=⟨_,Z⟩;rw[<-z];have x:k+1<O l->E+d=fV F (k+1):=λe=>absurd f (y e);exact Wo
  rename_i f;obtain⟨d,z⟩:∃d,d=F k:=⟨_,Z⟩;rw[<-z];have x:k+1<O l->E+d=fV F (k+1):=λ_=>by rw[z,u];rfl
  exact Wo
 refine xB ?_;exact Mr
def PV(C:iF P G)(a:fC d v)(j:iH P G d)(o:O d<=eI):ee P G 146 [v] (.bool dT):=by
 have b:v.Pure:=a.dW λc K=>by obtain⟨s,rfl,_⟩:=j c K;exact jX _
 have K:=Pu (G:=G) (H:=⟨.e,.h⟩) C.fs a (by unfold eI at o;omega) (f:=199) (first:=[]) (caps:=[]) (q:=λ_=>dU) (λx g=>by
  obtain⟨s,rfl,_,hf⟩:=j x g;have:ee P G 199 [.J s] (.bool dU):=by refine ee.lM (C.fs.h 199) C.dW nJ (wK ?_);refine ee.c hf ?_;exact .ey _ iz
  exact this _)
 rw[Iy.2 (by simp)]at K;refine ee.lM (C.fs.h 146) C.dW (it b) (wK ?_);refine fK.eq K (wK ?_);exact .ey _ iz
def Kz{G:ez}{dY:Bool}{F:T A}{x y:IX}{a b e f:A}(v:x.ev G F=Y a)(d:y.ev G F=Y b)(c:a.cells=[a])(j:b.cells=[b]):fA G dY F H (.build [e,f] [(0,1,x),(1,1,y)])=Y (.val (.agg [a,b])):=by simp[fA,o5,v,d,qd,c,j,kK]
def AZ(D:L A)(n:Nat):Prop:=∃a:Nat->Nat,fV a (O D)<=n/\∀i (h:i<O D)(s:L Nat),D[i]=.J s->s≠wO->s≠wP->¬lr s uc->a i=1
def AZ.of{c:Nat}{D:L A}{o:L (L A)}(f:sP P G D o){d q:Nat->Nat}(h:Gg P G H c o d q){n:Nat}(E:fV d (O o)<=n):AZ D n:=by
 let⟨_,v,w⟩:=f
 refine⟨d,v▸E,λi C s l K r m=>?_⟩;obtain⟨g,F,u,e,⟨j,b,a,_,_,p,t⟩,_⟩:=w i C M;rw[l]at a;cases a;obtain⟨⟨_,_,_,k⟩,_⟩:=h i M g F u e;exact k (λh=>(p h).elim K r) λh=>m (t h)
def aal(C:iF P G){D os ts:L A}{as:L (L A)}{Ta:L Nat->L A->L A->L (L A)->Int->Int->L A->Prop}(hd:j9 Ta [.J nm,K,N,va,.int .i64 zr,.int .i64 zs,vt])
  (h2:fC D K)(h3:iL D)(h5:fC os N)(h6:iL os)(hb:ee P G 48 [.agg [.J nm,K,N,va,.int .i64 zr,.int .i64 zs,vt]] (.bool b))(hR:b=dT->vJ P G D/\vJ P G os)
  {s H:L A}(W:fC s v1)(k2:iL s)(k3:iH P G s)(k4:O s<=eI)(I:fC H v2)(l2:iL H)(l3:iH P G H)(l4:O H<=eI):
  f9 P G 88 [.agg [.J nm,K,N,va,.int .i64 zr,.int .i64 zs,vt],v1,v2] λr=>∃e,r=.int .i64 e/\(b=dT->e≠61->AZ D (O s)):=by
 refine gT λhM=>?_;have Q:=hd.dW;have p1:v1.Pure:=W.dW k2.dW;have p2:v2.Pure:=I.dW l2.dW;have fx:=PV C W k3 k4;have fy:=PV C I l3 l4;refine ee.fj (C.fs.h 88) C.dW (λa ha=>by
  simp only[eZ,f7,fZ]at ha;obtain rfl|rfl|rfl:=ha
  .exact jg Q
  .exact p1
  exact p2) (wK ?_)
 refine ee.c hb ?_;cases b with
 |false=>exact nu
 |true=>
 obtain⟨R,U⟩:=hR Z;obtain⟨vr,⟨rs,f,d⟩,fr⟩:=PP C h2 h3 R;obtain⟨vq,⟨qs,t,n⟩,fq⟩:=PP C h5 h6 U;have z:vr.Pure:=f.dW d.dW;have E:vq.Pure:=t.dW n.dW;obtain⟨es,c,j,w⟩:=aak C f d W k2 k4 (es:=[]) (c:=0) (λe F=>by cases F);obtain⟨ca,cb,x⟩:=PS (c:=c) C j d;obtain⟨da,db,B⟩:=PS (c:=c) C j n;obtain⟨m1,k,l⟩:=PT C f d j x (O s);obtain⟨m2,y,m⟩:=PT C t n j B (O H);conv=>whnf
 refine ee.c fx ?_;refine ee.c fy ?_;refine fK.j7 (C.fs.h 147) (wK ?_);refine ee.c fr ?_;refine sK (Kz Z Z f.1.cells Z) ?_;refine fK.yJ (p:=.o (.o .h)) (q:=.i .h) C.dW gP Z Z z (λe F=>by cases F) j.dW (it p1) (λ_ _=>.eK [] Cy) w (wK ?_);refine gC ?_;refine ee.c fq ?_;repeat'(first|refine⟨Z,wK ?_⟩|refine bK (λ_=>?_) λ_=>?_)
 refine sK (Kz Z Z t.1.cells Z) ?_;repeat'(first|refine⟨Z,wK ?_⟩|refine bK (λ_=>?_) λ_=>?_)
 refine fM W ?_;refine fK.yJ (p:=.o (.o .h)) (q:=.i .h) C.dW gP Z Z z j.dW j.dW (it fI) iz l ?_;cases m1 with
 |false=>
  conv=>whnf
  exact⟨_,.j fI,_,Z,λ_ h=>absurd Z h⟩
 |true=>
 replace k:=k Z;have g:AZ D (O s):=AZ.of d x k;obtain⟨a1,u⟩:=PU C f d j x W k2 k4 k;conv=>whnf
 refine fM I ?_;refine fK.yJ (p:=.i (.o .h)) (q:=.i .h) C.dW gP Z Z E j.dW j.dW (it fI) iz m ?_;cases m2 with
 |false=>exact IS
 |true=>
 replace y:=y Z;obtain⟨a2,v⟩:=PU C t n j B I l2 l4 y;conv=>whnf
 refine fK.yJ (p:=.o (.o .h)) (q:=.i .h) C.dW gP Z Z z j.dW j.dW (it p1) iz u ?_;cases a1 with
 |false=>exact IS
 |true=>
 conv=>whnf
 refine fK.yJ (p:=.i (.o .h)) (q:=.i .h) C.dW gP Z Z E j.dW j.dW (it p2) iz v ?_;cases a2
 .exact IS
 exact IS
def aam{G:ez}{dY:Bool}{F:T A}{x y:IX}{lit:Bool}{k:IntKind}{s j:L Nat}(v:x.ev G F=Y (.agg [.J s,.int k b]))(c:y.ev G F=Y (.agg [.J j,.int k a])):
  fA G dY F H (.gy .eql (.struct [(0,.J),(1,.int)]) lit x y)=Y (.val (.bool (iT s j&&gD b a))):=by
 simp only[fA,fG,v,c,jm,o6,nM,lF,EH,EB,jj,Kt,gZ];cases iT s j<;>simp;cases gD b a<;>simp
def aan(C:iF P G){e:L (L A)}(hv:fT 2 e v)(g:iR ub e)(q:O e<=eI)(s:L Nat)(z:Int):f9 P G 142 [v,.agg [.J s,.int .i64 z]] λr=>∃b,r=.bool b:=by
 refine gT λhM=>?_;have d:v.Pure:=hv.dW λy l=>(g y l).dW;have a:∀c∈[A.J s,.int .i64 z],c.Pure:=by simp[jX,iQ]
 have f:f9 P G 196 [v,.agg [.J s,.int .i64 z]] λr=>∃n:Int,r=.int .i64 n:=by
  refine ee.fj (C.fs.h 196) C.dW (jA d (jg a)) (wK ?_);refine fM hv.1 ?_;refine eT.jz C.dW (.o .h) (λj w m=>∃k,k+j=O e/\w=[v,.ea .h 0,V (O e),V k]/\m=hp [(.h,.dY [.J s,.int .i64 z])]) (O e) Z ⟨0,M,Z,Z⟩ Z ei Z ?_;rintro j w m ⟨k,p,rfl,rfl⟩;conv=>whnf
  refine eW (λh=>?_) (λh=>?_)
  .replace h:=gz h;have E:=g _ (fB h);conv=>whnf
   refine gC ?_;refine zt ?_;generalize e[k]=y at E⊢;cases E with
   |mk x u i=>
   conv=>whnf
   refine sK (aam Z Z) ?_;refine bK (λt=>?_) λt=>?_
   .exact tq
   refine iu ?_;exact⟨Z,.iC [(.h,.dY [.J s,.int .i64 z])] _ ⟨j - 1,M,k+1,M,Z,Z⟩ ⟨.ey _ d,.L (eV Z) Z,.ey _ fI,.ey _ fI,eR⟩ ⟨⟨eV Z,fH Z (jB a)⟩,eR⟩⟩
  conv=>whnf
  exact tq
 obtain⟨_,⟨n,rfl⟩,f⟩:=f;refine ee.fj (C.fs.h 142) C.dW (jA d (jg a)) (wK ?_);refine ee.c f ?_;exact Vj
def Gh(G:ez)(H:L gm):Prop:=∀e∈H,mg G .J .i64 e.key/\e.val=.bool dT
def Gh.dW{es:L gm}(h:Gh G es):∀e∈es,e.key.Pure/\e.val.Pure:=λe F=>by obtain⟨K,r⟩:=h e F;exact⟨K.dW,by rw[r];exact sD _⟩
inductive KA (as:List (List A))(ng ns:Nat):List A→Prop
 |mk (nm:List Nat)(vo vr va vg vs:A)(gs:List (List A))(cs:List A)(h0:nm.length≤eI)(p1:vo.Pure)(p2:vr.Pure)(o1:mT vo=true)(o2:mT vr=true)(h1:fT 6 as va)(h2:iR (iI pU) as)(h3:as.length≤eI)(h4:fT 1 gs vg)(h5:gs.length=ng)(h6:ng≤eI)
   (h7:∀g∈gs,∃vb n cs,g=[vb]∧Sl 2 n cs vb∧∀c∈cs,c.Pure)(h8:Sl 2 ns cs vs)(h9:∀c∈cs,c.Pure):KA as ng ns [.J nm,vo,vr,va,vg,vs]
def aao(C:iF P G){z a F:A}{Q:A}{is os ts:L A}{g:L (L A)}{Ta:L Nat->L A->L A->L (L A)->Int->Int->L A->Prop}(hd:j9 Ta [.J u,z,a,F,.int .i64 zr,.int .i64 zs,Q])
  (k1:fT 2 g F)(k2:iR ub g)(k3:O g<=eI)(hb:ee P G 48 [.agg [.J u,z,a,F,.int .i64 zr,.int .i64 zs,Q]] (.bool b))
  {x:L A}{t q:Nat}(hx:KA as t q x):f9 P G 86 [.agg [.J u,z,a,F,.int .i64 zr,.int .i64 zs,Q],.agg x] λr=>∃e,r=.int .i64 e/\(e=0->zr=.ofNat t/\zs=.ofNat q):=by
 refine gT λhM=>?_;have D:=hd.dW;obtain⟨_,⟨bk,rfl⟩,fk⟩:=Kn C hd (v:=.eG 1 1 [.J [98,108,111,99,107,115]] .fE) (xs:=[.J [98,108,111,99,107,115]]) (.inr zT) (λy s=>by simp only[eZ,f7,fZ]at s;subst s;exact⟨_,Z,by decide⟩) (by simp[hM]);cases hx with
 |mk nx W wr I K ws gs cs h0 p1 p2 o1 o2 h1 h2 h3 h4 h5 h6 h7 h8 h9=>
 have pwa:=fT.dW h1 λy s=>(h2 y s).dW;have pwg:=fT.dW h4 λy s c hc=>by obtain⟨vb,n,cs,rfl,hs,hp⟩:=h7 y s;simp only[eZ,f7,fZ]at hc;subst hc;exact hs.dW hp
 have pws:=h8.dW h9;have pva:F.Pure:=k1.dW λy s=>(k2 y s).dW;have E:∀c∈[A.J nx,W,wr,I,K,ws],c.Pure:=agv;refine ee.fj (C.fs.h 86) C.dW (jA (jg D) (jg E)) (wK ?_);refine ee.c hb ?_;cases b with
 |false=>exact nu
 |true=>
 conv=>whnf
 refine fM h4.1 ?_;refine eW (λhg=>?_) (λhg=>?_)
 .exact nu
 conv=>whnf
 refine fM h8 ?_;refine eW (λhs=>?_) (λhs=>?_)
 .exact nu
 have eg:zr=.ofNat t:=by
  have:gD (.ofNat (O gs)) zr=dT:=by simpa using hg
  rw[<-h5,<-oP.1 this]
 have es0:zs=.ofNat q:=by
  have:gD (.ofNat q) zs=dT:=by simpa using hs
  rw[<-oP.1 this]
 subst eg es0;clear hg hs;conv=>whnf
 refine fM h1.1 ?_;refine eT.jz C.dW (.o (.o .h)) (λj w m=>∃k es c,k+j=O as/\Gh G es/\w=[.ea .h 0,.ea (.o .h) 0,.map (.i .h),I,V (O as),V k]/\
   m=hp [(.h,.dY [.J u,z,a,F,V t,V q,Q]),(.o .h,.dY [.J nx,W,wr,I,K,ws]),(.i .h,.map es c)]) (O as) Z ⟨0,[],0,M,(λe l=>by cases l),Z,Z⟩ Z ei Z ?_
 rintro j w m ⟨k,es,c,hk,d,rfl,rfl⟩;conv=>whnf
 refine eW (λh=>?_) (λh=>?_)
 .replace h:=gz h;have ha:=h2 _ (fB h);have hones:=ha.Y;have hpa:=ha.dW;conv=>whnf
  refine gW h1.1 h ?_;refine fH (lN Z h1.2 h) ?_;generalize as[k]=y at ha hones hpa⊢;cases ha with
  |mk N ak az tx vi' vt' is' ts' a1 a2 a3 a4 a5 a6 a7 a8 a9=>
  obtain⟨lv,lb,hlook,hlc⟩:=rK (G:=G) (kd:=.J) (kk:=.i64) (k:=.J N) (zero:=.bool dU) (es:=es) (.J _ _) (λe l=>(d e l).1);obtain⟨B,c',hupd,hu1,_,_⟩:=yG (G:=G) (kd:=.J) (kk:=.i64) (k:=.J N) (v:=.bool dT) (clock:=c) (es:=es) (.J _ _) (λe l=>(d e l).1);have U:Gh G B:=λe l=>by
   obtain h|⟨h1,h2⟩:=hu1 e l
   .exact d e h
   rw[h1,h2];exact⟨.J _ _,Z⟩
  obtain⟨ml,rfl⟩:∃ml,lv=.bool ml:=VT;obtain⟨_,⟨bn,rfl⟩,fn⟩:=aan C k1 k2 k3 N ak;obtain⟨_,⟨bh,rfl⟩,fh⟩:=YI C.fs C.dW N [120,95];obtain⟨bf,_,ff⟩:=aab (G:=G) (H:=⟨hp [(.h,.dY [.J u,z,a,F,V t,V q,Q]),(.o .h,.dY [.J nx,W,wr,I,K,ws]),(.i .h,.map B c'),(.o (.o .h),.dY [.J N,.int .i64 ak,.int .i64 az,.J tx,vi',vt'])],.i (.o .h)⟩)
   C.fs k1 M (f:=145) (first:=[]) (caps:=[.ea (.o (.o .h)) 0]) (R:=λ_ _=>True) (λy s=>by
    cases k2 y s with
    |mk nn kn hnn=>
    refine⟨iT nn N,eR,eL.PM iz (eL.lM (C.fs.h 145) ?_)⟩;conv=>whnf
    refine bK (λhq=>?_) λhq=>?_
    .exact⟨by rw[hq];rfl,Z,Z,Z,Z,eR⟩
    exact⟨by rw[hq];rfl,Z,Z,Z,Z,eR⟩)
  conv=>whnf
  refine sf ?_;refine Cg ?_;cases ml with
  |true=>exact nu
  |false=>
  conv=>whnf
  refine sK (hupd _ _ _ _ _ _ _ Z Z Z Z) ?_;refine ee.c fn ?_;cases bn with
  |true=>exact Ts
  |false=>
  conv=>whnf
  refine ee.c fh ?_;cases bh with
  |false=>exact nu
  |true=>
  conv=>whnf
  refine fK.eq ff ?_;cases bf
  .exact Ts
  exact nu
 clear h;conv=>whnf
 refine fM k1.1 ?_;refine eT.jz C.dW (.o (.o .h)) (λj w m=>∃k,k+j=O g/\w=[.ea .h 0,.ea (.o .h) 0,.map (.i .h),F,V (O g),V k]/\
   m=hp [(.h,.dY [.J u,z,a,F,V t,V q,Q]),(.o .h,.dY [.J nx,W,wr,I,K,ws]),(.i .h,.map es c)]) (O g) Z ⟨0,M,Z,Z⟩ Z ei Z ?_
 rintro j2 w m ⟨k',hk',rfl,rfl⟩;conv=>whnf
 refine eW (λh=>?_) (λh=>?_)
 .replace h:=gz h;have ha:=k2 _ (fB h);conv=>whnf
  refine gW k1.1 h ?_;refine fH (lN Z k1.2 h) ?_;generalize g[k']=y at ha⊢;cases ha with
  |mk N ak han=>
  obtain⟨lv,lb,hlook,hlc⟩:=rK (G:=G) (kd:=.J) (kk:=.i64) (k:=.J N) (zero:=.bool dU) (es:=es) (.J _ _) (λe l=>(d e l).1);obtain⟨ml,rfl⟩:∃ml,lv=.bool ml:=VT;conv=>whnf
  refine Cg ?_;cases ml
  .exact nu
  conv=>whnf
  refine iu ?_;exact⟨Z,.iC [(.h,.dY [.J u,z,a,F,V t,V q,Q]),(.o .h,.dY [.J nx,W,wr,I,K,ws]),(.i .h,.map es c)] _ ⟨j2 - 1,M,k'+1,M,Z,Z⟩
   ⟨.L (eV Z) Z,.L (eV Z) Z,.map (.i .h) (eV Z),.ey _ pva,.ey _ fI,.ey _ fI,eR⟩ Wp⟩
 clear h;conv=>whnf
 refine fM h4.1 ?_;refine eT.jz C.dW (.o (.o .h)) (λj w m=>∃k,k+j=O gs/\w=[.ea .h 0,K,V (O gs),V k]/\
   m=hp [(.h,.dY [.J u,z,a,F,V t,V q,Q]),(.o .h,.dY [.J nx,W,wr,I,K,ws]),(.i .h,.map es c)]) (O gs) Z ⟨0,M,Z,Z⟩ Z ei Z ?_
 rintro j3 w m ⟨k3',xj,rfl,rfl⟩;conv=>whnf
 refine eW (λh=>?_) (λh=>?_)
 .replace h:=gz h;obtain⟨vb,n,cs',hge,hvb,_⟩:=h7 _ (fB h);conv=>whnf
  refine gW h4.1 h ?_;refine fH (lN Z h4.2 h) ?_;rw[hge];conv=>whnf
  refine sK (vF Z Z (by rw[fN,Sl.one hvb];rfl) Z Z Z) ?_;refine fM hvb ?_;refine bK (λhb1=>?_) λhb1=>?_
  .refine ee.c fk ?_;cases bk
   .exact nu
   conv=>whnf
   exact Uy
  exact Uy
 conv=>whnf
 exact⟨_,.j fI,_,Z,λ_=>⟨Z,Z⟩⟩
def aar{G:ez}{F:T A}{x y:IX}{o bytes n m:Nat}{w ew:L A}{t:jt}(v:x.ev G F=Y (.eG o n w .fE))(e:y.ev G F=Y (.eG b m ew t))(f:0<m)(a:fN ew=dT)
  (c:O ew=m*o)(d:mU (n+m) bytes=dT):fA G dU F H (.bi (.append o bytes) [x,y])=Y (.lH J o (n+m) (w++ew)):=by
 have K:Nat.beq (O ew) (m*o)=dT:=by rw[nr];exact c
 obtain⟨m,rfl⟩:∃k,m=k+1:=⟨m - 1,M⟩;simp only[fA,fG,ko,v,e,jm,jb,iU,rm,sj,a,K,qG,gZ,nN,d,qA,jx]
def Dj{s:L A}(h:∀x∈s,mT x=dT):fN s=dT:=by
 induction s with
 |nil=>rfl
 |cons a l i=>rw[fN,h a (by simp),gZ];exact i λx v=>h x xo
def aat(C:fP P G)(hv:fC xs v)(b:mf xs)(o:O xs<=eI):f9 P G 212 [v] (fC xs):=by
 have hf:Has P 212 _ _ _:=C.fs.h 212;have hp:=b.dW;have ho:∀x∈xs,mT x=dT:=λx c=>by obtain⟨z,rfl⟩:=b x c;rfl
 exact SS
def aau(C:fP P G)(hv:fC xs v)(b:iL xs)(o:O xs<=eI):f9 P G 213 [v] (fC xs):=by
 have hf:Has P 213 _ _ _:=C.fs.h 213;have hp:=b.dW;have ho:∀x∈xs,mT x=dT:=λx c=>by obtain⟨z,rfl,_⟩:=b x c;rfl
 exact SS
def aav(C:fP P G){s:L (L A)}(hv:fT 6 s v)(u:iR (iI (iH P G)) s)(hl:O s<=eI):f9 P G 164 [v] λr=>∃f,fT 6 f r/\iR (iI (iH P G)) f/\O f=O s:=by
 refine gT λhM=>?_;have W:v.Pure:=fT.dW hv λx h=>(u x h).dW;refine ee.fj (C.fs.h 164) C.dW (it W) (wK ?_);refine fM hv.1 ?_;refine eT.jl (λj vs m n=>∃(k:Nat)(f:L (L A))(i:A)(t:Option S),k+j=O s/\O f=k/\iR (iI (iH P G)) f/\eX m n/\Ap m 6 i f.flatten t/\vs=[i,v,V (O s),V k]) (O s) Z ⟨0,[],_,J,M,Z,zI,eX.e,.nil,Z⟩ ?_;rintro j vs m n ⟨k,f,i,t,hk,B,g,hb,l,rfl⟩;have H:∀x∈f,O x=6:=λx h=>by cases g x h;rfl
 conv=>whnf
 refine eW (λh=>?_) (λh=>?_)
 .replace h:=gz h;have p:=u _ (fB h);conv=>whnf
  refine zt ?_;generalize s[k]=x at p⊢;have o:=p.Y;cases p with
  |mk F D d I vi vt is ts h1 h2 K E h5 h6 h7 h8 h9=>
  obtain⟨N,a,fi⟩:=aat C K E h5;obtain⟨rt,b,ft⟩:=aau C h6 h7 h8;refine zY ?_;refine sK (ip (cs':=[.J F,.int .i64 D,.int .i64 d,.J I,vi,vt]) Z Z fY Z o Z) ?_;refine my ?_;refine eu fY ?_;refine ee.c fi ?_;refine sK (ip (cs':=[.J F,.int .i64 D,.int .i64 d,.J I,N,vt]) Z Z fY (by rw[Sl.cells a];rfl) (by rw[Sl.cells a,fN,Sl.one a];rfl) (by rw[Sl.cells a];rfl)) ?_;refine my ?_;refine eu fY ?_;refine ee.c ft ?_;refine sK (ip (cs':=[.J F,.int .i64 D,.int .i64 d,.J I,N,rt]) Z Z fY (by rw[Sl.cells b];rfl) (by rw[Sl.cells b,fN,Sl.one b];rfl) (by rw[Sl.cells b];rfl)) ?_;refine my ?_;refine eu fY ?_;generalize z:T.set n (Y (AO.dY [.J F,.int .i64 D,.int .i64 d,.J I,N,rt])) _ =m2;have Q:eX m2 n.succ:=by rw[<-z];exact((hb.ew.put kP).put kP).put kP
  have w:Ap m2 6 i f.flatten t:=l.mono λq e=>by have K:=l.eY q e;have E:=hb q _ K;rw[<-z,eJ M,eJ M,eJ M,eJ M];exact K
  have y:O f.flatten=k*6:=by rw[pS H,B]
  refine sK (nH w y M Z Z (by rw[fN,fN,fN,fN,fN,Sl.one a,fN,Sl.one b];rfl) Z nw) ?_;refine sR (wK ?_);refine iu ?_;refine⟨Z,j - 1,M,k+1,f++[[.J F,.int .i64 D,.int .i64 d,.J I,N,rt]],_,Y n.succ,M,by simp[B],?_,Q.iW,?_,Z⟩
  .intro x u;obtain h|h:=jf.1 u
   .exact g x h
   simp only[eZ,f7,fZ]at h;subst h;exact .mk _ _ _ _ _ _ is ts h1 h2 a E h5 b h7 h8 h9
  simp only[qE,nK,zW,oi];exact .dX (by rw[iN,y];show k*6+6= _;omega)
 conv=>whnf
 obtain⟨r,R,U⟩:=l.G M H (λx u=>(g x u).dW);exact⟨r,R,f,U,g,by have:=iK h;omega⟩
def gp(s:L S):L A:=s.map λp=>.ea p 0
def gp.one(s:L S):∀x∈gp s,mT x=dT:=by intro x v;obtain⟨p,_,rfl⟩:=gS.1 v;rfl
def PL(s:L S)(v:A):Prop:=(v=.ej/\s=[])\/∃t,v=.eG 1 (O s) (gp s) t
def PX(C:pT P G){v:A}{is:List A}(hv:fC is v)(hl:is.length<=eI){m:T AO}{n:S}(hb:eX m n){pr:S}{vv vl:A}{gY:List S}(hr:m.dZ pr=Y (.dY [vv,vl]))(hvv:PL gY vv)(hi:C8 is gY.length):
  ∃r H',(∃os t,(∀p∈os,p∈gY)/\os.length=is.length/\Ap H'.ep 1 r (gp os) t/\eX H'.ep H'.dX/\n.dV<=H'.dX.dV/\Fr (λ_=>False) m H'.ep)/\eL P G 167 [.ea pr 0,v] ⟨m,n⟩ λr1 H1=>r1=r/\H1=H':=by
 have hM:eI=1048576:=rfl;refine eL.fj (C.fs.h 167) (wK ?_);refine fM hv ?_;refine eT.jl (λj vs m1 n1=>∃(k:Nat)(os:List S)(out:A)(t:Option S),k+j=is.length/\os.length=k/\(∀p∈os,p∈gY)/\eX m1 n1/\n.dV<=n1.dV/\Fr (λ_=>False) m m1/\(∀q,t=Y q->n.dV<=q.dV)/\Ap m1 1 out (gp os) t/\vs=[.ea pr 0,out,v,.int .i64 (.ofNat is.length),.int .i64 (.ofNat k)]) is.length rfl
  ⟨0,[],_,J,M,rfl,(λp h=>by cases h),hb,M,Fr.refl,(λq e=>by cases e),.nil,rfl⟩ ?_
 rintro j vs m1 n1 ⟨k,os,out,t,hk,hol,hos,hb1,hn1,hfr,htk,hap,rfl⟩;conv=>whnf
 refine eW (λh=>?_) (λh=>?_)
 .replace h:=gz h;obtain⟨z,hz,hzl⟩:=hi _ (fB h);have hzl:z<gY.length:=M
  obtain⟨_,rfl⟩|⟨tv,rfl⟩:=hvv
  .simp at hzl
  conv=>whnf
  refine gW hv h ?_;refine fH (oA rfl h) ?_;rw[hz];conv=>whnf
  refine eu (hfr pr _ id hr) ?_;refine sK (qg rfl rfl rfl hzl) ?_;have hel:(gp gY)[z*1]? =Y (.ea gY[z] 0):=by rw[kO,gp,pz,jq hzl];rfl
  refine sK (jO rfl hel) ?_;refine sK (nH (k:=k) hap (by simp[gp,hol]) M rfl rfl rfl rfl (room (by unfold kr;omega) (by unfold kr;omega))) ?_;refine sR (wK ?_);rw[je M];refine⟨rfl,j - 1,M,k+1,os++[gY[z]],_,Y n1,M,by simp[hol],?_,hb1.iW,by rw[S.gG];omega,λq o hq ho=>?_,?_,?_,rfl⟩
  .intro p hp;obtain h|h:=jf.1 hp
   .exact hos p h
   simp only[eZ,f7,fZ]at h;subst h;exact fB hzl
  .have h3:=hfr q o hq ho;have h4:=hb q o ho;rw[jZ M (λe=>by have:=htk q e;omega)];exact h3
  .intro q e;cases e;omega
  rw[show gp (os++[gY[z]])=gp os++[.ea gY[z] 0] by simp[gp]];exact .dX (by rw[iN,show(gp os).length=k by simp[gp,hol]];show k+1= _;omega)
 conv=>whnf
 exact⟨os,t,hos,by have:=iK h;omega,hap,hb1,hn1,hfr⟩
inductive Kd where
 |val
 |op (d:Nat)(bo:Option S)(nb:Nat)
 |fO (d nb:Nat)
 |eC (d nb:Nat)
abbrev Gk:=S->Option Kd
def LB:Nat:=1099511627776
def uf(P:Program)(G:ez)(s:L Nat):Prop:=s≠[]/\O s<=eI/\ee P G 158 [.J s] (.int .i64 0)
def KD(o:Nat)(C:L (L A))(v:A):Prop:=((v=.ej/\C=[])\/∃t,v=.eG o (O C) C.flatten t)/\∀s∈C,O s=o
def kV:Option S->A
 |none=>.gi
 |some b=>.ea b 0
def ke(K:Gk)(s:L S):Prop:=∀q∈s,K q=Y .val
inductive vL (K:Gk)(d nb:Nat):List A→Prop
 |mk (c:S)(va:A)(xs:List S)(h1:K c=some (.eC d nb))(h2:PL xs va)(h3:ke K xs)(h4:xs.length≤eI):vL K d nb [.ea c 0,va]
def vM(m:T AO)(g p:S):Prop:=∃o a H,m.dZ g=Y (.dY [o,a])/\PL H a/\p∈H
inductive oB (P:Program)(G:ez)(K:Gk)(m:T AO)(p:S):Kd→List A→Prop
 |qm (s:List Nat)(o:S)(k:Int)(d:Nat)(bo:Option S)(nb:Nat)(h1:uf P G s)(h2:K o=some (.op d bo nb)):oB P G K m p .val [.J s,.ea o 0,.gi,.int .i64 k]
 |qn (s:List Nat)(b:S)(k:Int)(d nb:Nat)(h1:uf P G s)(h2:K b=some (.eC d nb)):oB P G K m p .val [.J s,.gi,.ea b 0,.int .i64 k]
 |op (d:Nat)(bo:Option S)(nb:Nat)(nm:List Nat)(vos vrs vas vgs vss:A)(os rs gs:List S)(as ss:List (List A))(h1:nm.length≤eI)(h2:PL os vos)(h3:ke K os)(h4:PL rs vrs)(h5:ke K rs)
   (h6:fT 6 as vas)(h7:iR (iI (iH P G)) as)(h8:as.length≤eI)(h9:PL gs vgs)(h10:∀q∈gs,∃nb',K q=some (.fO d nb'))(h11:KD 2 ss vss)(h12:∀d',d=d'+1→iR (vL K d' nb) ss)
   (h13:d=0→ss=[]∧nm=ql∧bo=none∧nb=0)(h14:∀d',d=d'+1→∃b,bo=some b∧K b=some (.eC d' nb))(l1:os.length≤eI)(l2:rs.length≤eI)(l3:gs.length≤eI)(l4:ss.length≤eI)(l5:d≤LB)(t1:∀q∈gs,∃c,m.dZ q=some (.dY [.ea p 0,c]))(t2:gs.Nodup)(t3:gs.length≤100):
   oB P G K m p (.op d bo nb) [.J nm,vos,vrs,vas,vgs,vss,kV bo]
 |fO (d nb:Nat)(o:S)(bo:Option S)(nb':Nat)(vbs:A)(bs:List S)(h1:K o=some (.op d bo nb'))(h2:PL bs vbs)(h3:bs.length=nb)(h4:1≤nb)(h5:nb≤200)(h6:∀b∈bs,K b=some (.eC d nb))(t1:∀b∈bs,∃c1 c2,m.dZ b=some (.dY [.ea p 0,c1,c2]))(t2:bs.Nodup):oB P G K m p (.fO d nb) [.ea o 0,vbs]
 |eC (d nb:Nat)(g:S)(vas vops:A)(as ops:List S)(h1:K g=some (.fO d nb))(h2:PL as vas)(h3:ke K as)(h4:PL ops vops)(h5:∀q∈ops,∃nb',K q=some (.op (d+1) (some p) nb'))(h6:vM m g p)(l1:as.length≤eI)(l2:ops.length≤eI)(t1:ops.Nodup):
   oB P G K m p (.eC d nb) [.ea g 0,vas,vops]
def ja(K C:Gk):Prop:=∀p k,K p=Y k->C p=Y k
def ja.refl(K:Gk):ja K K:=λ_ _ h=>h
def ja.trans{Aa B C:Gk}(h:ja Aa B)(k:ja B C):ja Aa C:=λp x e=>k p x (h p x e)
def ke.mono{K C:Gk}{s:L S}(h:ke K s)(a:ja K C):ke C s:=λq t=>a _ _ (h q t)
def vL.mono{K C:Gk}{s:L A}(h:vL K d l s)(a:ja K C):vL C d l s:=by
 cases h with
 |mk c F e b r m E=>exact .mk c F e (a _ _ b) r (m.mono a) E
def oB.mono{m m':T AO}{p:S}{k:Kd}{dY:L A}(h:oB P G K m p k dY)(j:ja K K')(hm:∀g d l,K g=Y (.fO d l)->m'.dZ g=m.dZ g)(hb:∀b d l c c1 c2,K b=Y (.eC d l)->m.dZ b=Y (.dY [c,c1,c2])->∃I N,m'.dZ b=Y (.dY [c,I,N])):oB P G K' m' p k dY:=by
 cases h with
 |qm s o k d B l i r=>exact .qm s o k d B l i (j _ _ r)
 |qn s b k d l i r=>exact .qn s b k d l i (j _ _ r)
 |op d B l nm vos vrs f vgs vss os rs gs F ss i r w E H u h7 h8 h9 v Q R U W l1 l2 l3 l4 l5 z t2 t3=>
  exact .op d B l nm vos vrs f vgs vss os rs gs F ss i r (w.mono j) E (H.mono j) u h7 h8 h9 (λq t=>let⟨a,e⟩:=v q t;⟨a,j _ _ e⟩) Q (λy e s hs=>(R y e s hs).mono j) U
   (λy e=>let⟨b,i,r⟩:=W y e;⟨b,i,j _ _ r⟩) l1 l2 l3 l4 l5 (λq t=>let⟨c,e⟩:=z q t;let⟨a,e'⟩:=v q t;⟨c,(hm q d a e').trans e⟩) t2 t3
 |fO d l o B a n D i r w E H u z t2=>exact .fO d l o B a n D (j _ _ i) r w E H (λb hb=>j _ _ (u b hb)) (λb x=>let⟨c1,c2,e⟩:=z b x;hb b d l _ _ _ (u b x) e) t2
 |eC d l g f C F ops i r w E H u l1 l2 z=>
 let⟨o,n,D,e1,e2,e3⟩:=u
 exact .eC d l g f C F ops (j _ _ i) r (w.mono j) E (λq t=>let⟨a,e⟩:=H q t;⟨a,j _ _ e⟩) ⟨o,n,D,(hm g d l i).trans e1,e2,e3⟩ l1 l2 z
def jo(P:Program)(G:ez)(K:Gk)(m:T AO):Prop:=∀p k,K p=Y k->∃dY,m.dZ p=Y (.dY dY)/\oB P G K m p k dY
def jo.fr{m x:T AO}(h:jo P G K m)(f:∀p k,K p=Y k->x.dZ p=m.dZ p):jo P G K x:=λp k hp=>by obtain⟨dY,a,r⟩:=h p k hp;exact⟨dY,(f p k hp).trans a,r.mono (ja.refl K) (λg d l F=>f g _ F) λb d l c N B j e=>⟨N,B,(f b _ j).trans e⟩⟩
def jo.upd{p:S}{k:Kd}{dY:L A}(h:jo P G K m)(hp:K p=Y k)(x:∀d l,k≠.fO d l)(n:oB P G K m p k dY)(w:∀d l c N B,k=.eC d l->m.dZ p=Y (.dY [c,N,B])->∃a i,dY=[c,a,i]):jo P G K (m.set p (Y (.dY dY))):=by
 have f:∀g d l,K g=Y (.fO d l)->(m.set p (Y (.dY dY))).dZ g=m.dZ g:=λg d l F=>T.gh _ _ _ _ λe=>by subst e;rw[hp]at F;exact x d l (gu F)
 have o:∀b d l c N B,K b=Y (.eC d l)->m.dZ b=Y (.dY [c,N,B])->∃a i,(m.set p (Y (.dY dY))).dZ b=Y (.dY [c,a,i]):=λb d l c N B j e=>by
  by_cases s:b=p
  .subst s;rw[hp]at j;obtain⟨a,i,h⟩:=w d l c N B (gu j) e;exact⟨a,i,by rw[h];exact fY⟩
  exact⟨N,B,(T.gh _ _ _ _ s).trans e⟩
 intro q y t;by_cases e:q=p
 .subst e;rw[hp]at t;cases t;exact⟨dY,fY,n.mono (ja.refl K) f o⟩
 obtain⟨r,u,v⟩:=h q y t;exact⟨r,(T.gh _ _ _ _ e).trans u,v.mono (ja.refl K) f o⟩
open Classical in
def Gk.add(K:Gk)(p:S)(k:Kd):Gk:=λq=>if q=p then Y k else K q
def Gk.A1{K:Gk}{p:S}{k:Kd}:K.add p k p=Y k:=by simp[Gk.add]
def Gk.wQ{K:Gk}{p q:S}{k:Kd}(h:q≠p):K.add p k q=K q:=by simp[Gk.add,h]
def Gk.sS{p:S}{k:Kd}(h:K p=J):ja K (K.add p k):=λq x e=>by rw[Gk.wQ λa=>by subst a;rw[h]at e;cases e];exact e
def jo.add{p:S}{k:Kd}{dY:L A}(h:jo P G K m)(hp:K p=J)(n:m.dZ p=Y (.dY dY))(c:oB P G (K.add p k) m p k dY):jo P G (K.add p k) m:=by
 intro q d t;by_cases e:q=p
 .subst e;rw[Gk.A1]at t;cases t;exact⟨dY,n,c⟩
 rw[Gk.wQ e]at t;obtain⟨r,a,b⟩:=h q d t;exact⟨r,a,b.mono (Gk.sS hp) zJ λ_ _ _ _ N B _ e=>⟨N,B,e⟩⟩
inductive wR (P:Program)(G:ez)(nv:Nat)(pr:S)(K:Gk)(m:T AO):A→S→Prop
 |mk (b1 b2 b3 b4 p:S)(d:Nat)(bo:Option S)(nb:Nat)(c0 vo c2 c3 c4 vs:A)(os:List A)(ss:List (List A))
   (h1:m.dZ b1=some (.dY [.ea pr 0]))(h2:m.dZ b2=some (.dY [c0,vo,c2,c3,c4,vs]))(h3:m.dZ b3=some (.dY [.ea p 0]))(h4:m.dZ b4=some (.dY [kV bo]))(h5:K p=some (.op d bo nb))
   (h6:fC os vo)(h7:C8 os nv)(h8:os.length≤eI)(h9:fT 2 ss vs)(h10:iR (Ga nv nb) ss)(h11:ss.length≤eI):wR P G nv pr K m (.func (.func 166) [] [.ea b1 0,.ea b2 0,.ea b3 0,.ea b4 0]) p
