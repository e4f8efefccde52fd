/- Lemmas. No condition. -/
import Derived.Test.YtlkijhibifmamaaGreatDoorBJ
import Derived.Lib.Split
import Derived.KernelRfl
set_option linter.all false
set_option autoImplicit true
set_option relaxedAutoImplicit true
set_option maxHeartbeats 0
set_option maxRecDepth 100000
noncomputable section
open Option renaming some→Y,none→J
open Bool renaming true→dT,false→dU
open List renaming length→O
namespace Go.As
open Go.RowKit
def BN(c:Nat):L Nat->Nat->Int
 |[],_=>.negSucc 0
 |x::l,i=>cond (Nat.beq x c) (.ofNat i) (BN c l (i+1))
def D2:L Nat->L Nat->Int
 |[],[]=>.ofNat 0
 |[],_ :: _=>.negSucc 0
 | _ :: _,[]=>.ofNat 1
 |a::x,b::y=>cond (Nat.blt a b) (.negSucc 0) (cond (Nat.blt b a) (.ofNat 1) (D2 x y))
def pn(l:L (L Nat)):A:=.eG 1 (O l) (l.map .J) .fE
def oU(s:L Nat):L UInt8:=s.map Nat.toUInt8
def xb:L Nat:=[32,38,32]
def aer(c:UInt8):∀(l:L UInt8)(i:Nat),BN c.toNat (l.map UInt8.toNat) i=if Lib.indexByte l c= -1 then .negSucc 0 else Lib.indexByte l c+i:=by
 intro l;induction l with
 |nil=>intro i;rfl
 |cons x l b=>
 intro i;simp only[jL,BN];by_cases e:x=c
 .subst e;have a:Lib.indexByte (x::l) x=0:=by simp[Lib.indexByte]
  simp only[a,qA,gZ];rw[gj (by decide)];exact(Int.zero_add _).symm
 have K:Nat.beq x.toNat c.toNat=dU:=by rw[pB,ne_eq,nr];exact λh=>e (UInt8.toNat_inj.1 h)
 have r:(x==c)=dU:=by simpa using e
 have a:Lib.indexByte (x::l) c=if Lib.indexByte l c== -1 then -1 else Lib.indexByte l c+1:=by show(if(x==c)=dT then 0 else _)= _;simp[r]
 rw[K];simp only[jx,b,a];by_cases m:Lib.indexByte l c= -1
 .simp[m]
 have:=Lib.indexByte_ge l c;have E:(Lib.indexByte l c== -1)=dU:=by simpa using m
 simp only[xO,r7,m,E];rw[gj M];omega
def aes:∀(x y:L UInt8),D2 (x.map UInt8.toNat) (y.map UInt8.toNat)=Lib.compareBytes x y:=by
 intro x;induction x with
 |nil=>intro y;cases y<;>rfl
 |cons a x i=>
 intro y;cases y with
 |nil=>rfl
 |cons b y=>
 have e:Lib.compareBytes (a::x) (b::y)=if a<b then -1 else if b<a then 1 else Lib.compareBytes x y:=Z
 simp only[jL,D2,i,e];rw[lm,lm];by_cases K:a<b
 .have:a.toNat<b.toNat:=K;simp[K,this]
 have c:¬a.toNat<b.toNat:=K;by_cases r:b<a
 .have:b.toNat<a.toNat:=r;simp[K,r,c,this]
 have d:¬b.toNat<a.toNat:=r;simp[K,r,c,d]
section
variable{P:Program}{G:ez}
def aet(v:tY P 273 Extern.BytealgIndexByte.indexByte)(s:L Nat)(c:Nat)(K:c<256):ee P G 273 [.J s,.int .u8 (.ofNat c)] (.int .i64 (BN c s 0)):=by
 intro H B w X cargs hH n
 let⟨i,j,hc1,d,f⟩:=n.Q
 obtain⟨g,h,rfl,hu2,hus'⟩:=f.Q;have:=hus'.lZ;subst this;obtain⟨b,rfl,hb⟩:=mn d;have r:g=.int .u8 (.ofNat c):=by cases hu2;rfl
 subst r;have hcargs:cargs=#[.string b,.int .u8 (.ofNat c)]:=r9
 let⟨fn,h1,h3,h4,h5,h6⟩:=v
 refine UI ?_;have a:(Int.ofNat c).toNat.toUInt8.toNat=c:=by show(c.toUInt8).toNat=c;simp only[Nat.toUInt8,UInt8.toNat_ofNat',Nat.reducePow];omega
 have F:Value.int .i64 (Lib.indexByte b.data.toList (Int.ofNat c).toNat.toUInt8)=.int .i64 (BN c s 0):=by
  congr 1;have:=aer (Int.ofNat c).toNat.toUInt8 b.data.toList 0;rw[a,hb]at this;rw[this];split
  .rename_i e;exact e
  exact(Int.add_zero _).symm
 rw[F];exact Ns
def aeu(v:tY P 195 Extern.BytealgCompare.compare)(s t:L Nat):ee P G 195 [.J s,.J t] (.int .i64 (D2 s t)):=by
 intro H B w X c hH n
 let⟨j,l,hc1,d,f⟩:=n.Q
 obtain⟨k,i,rfl,hu2,hus'⟩:=f.Q;have:=hus'.lZ;subst this;obtain⟨b,rfl,hb⟩:=mn d;obtain⟨e,rfl,hb2⟩:=mn hu2;have a:c=#[.string b,.string e]:=r9
 let⟨fn,K,m,E,g,h⟩:=v
 have y:=run_callFunc_extern (P:=P) K m E g h c w;rw[a,Lib.run_compareString]at y;rw[a,y,<-aes,hb,hb2];exact Ns
end
structure mh (P:Program)(G:ez):Prop extends fP P G where
 RH:tY P 195 Extern.BytealgCompare.compare
 split:∀(s:List Nat)(ps:List (List Nat)),Lib.split (oU s) (oU xb)=ps.map oU→s.length≤1000→(ps.all fun p=>p.all fun c=>Nat.blt c 256)=true→ee P G 133 [.J s,.J xb] (pn ps)
def BO(n:Nat):Option (L A):=
 cond (Nat.beq n 1) (Y [pn [[99,97,108,108,115],[112,114,105,110,116,115],[114,101,97,100,115],[116,114,97,112,115],[119,114,105,116,101,115]]])
 (cond (Nat.beq n 2) (Y [pn [[101,113],[110,101],[115,108,116],[115,108,101],[115,103,116],[115,103,101],[117,108,116],[117,108,101],[117,103,116],[117,103,101]]])
 (cond (Nat.beq n 3) (Y [pn [[98,108,111,99,107,115],[99,111,109,109,117,116,101,115],[101,110,100],[112,117,114,101]]])
 (cond (Nat.beq n 4) (Y [pn [[97,110,121],[97,114,114],[105,110,116],[109,101,109],[110,117,109]]]) J)))
structure xc where
 z:S→Option (List A)
 raw:Nat→Option Obj
def Gz(P:Program)(fz:xc):ez:=⟨BO,fz.z,λn c o=>gk P n c=gk P n o,fz.raw⟩
def RG:L (L Nat×L (L Nat)):=[([97],[[97]]),([97,58,110,117,109,32,38,32,97],[[97,58,110,117,109],[97]]),([97,58,110,117,109],[[97,58,110,117,109]]),([97,110,121,42],[[97,110,121,42]]),([98,108,111,99,107,115],[[98,108,111,99,107,115]]),([99,97,108,108,115,32,38,32,112,114,105,110,116,115,32,38,32,114,101,97,100,115,32,38,32,116,114,97,112,115,32,38,32,119,114,105,116,101,115],[[99,97,108,108,115],[112,114,105,110,116,115],[114,101,97,100,115],[116,114,97,112,115],[119,114,105,116,101,115]]),([101,108,101,109,32,109],[[101,108,101,109,32,109]]),([101,108,101,109,32,116],[[101,108,101,109,32,116]]),([101,110,100,32,38,32,116,114,97,112,115],[[101,110,100],[116,114,97,112,115]]),([101,110,100],[[101,110,100]]),([105,49,32,38,32,97,58,97,110,121,32,38,32,97],[[105,49],[97,58,97,110,121],[97]]),([105,49,32,38,32,97,110,121,42],[[105,49],[97,110,121,42]]),([105,49],[[105,49]]),([105,110,100,101,120,32,38,32,105,110,100,101,120,32,38,32,97,110,121,42],[[105,110,100,101,120],[105,110,100,101,120],[97,110,121,42]]),([109,58,109,101,109,32,38,32,101,108,101,109,32,109,32,38,32,105,110,100,101,120,94,109],[[109,58,109,101,109],[101,108,101,109,32,109],[105,110,100,101,120,94,109]]),([109,58,109,101,109,32,38,32,105,110,100,101,120,94,109],[[109,58,109,101,109],[105,110,100,101,120,94,109]]),([109,58,109,101,109,32,38,32,109],[[109,58,109,101,109],[109]]),([110,117,109,42],[[110,117,109,42]]),([112,114,105,110,116,115],[[112,114,105,110,116,115]]),([112,117,114,101],[[112,117,114,101]]),([114,101,97,100,115,32,38,32,116,114,97,112,115],[[114,101,97,100,115],[116,114,97,112,115]]),([114,101,97,100,115,32,38,32,119,114,105,116,101,115],[[114,101,97,100,115],[119,114,105,116,101,115]]),([116],[[116]]),([116,58,97,114,114,32,38,32,101,108,101,109,32,116,32,38,32,105,110,100,101,120,94,116],[[116,58,97,114,114],[101,108,101,109,32,116],[105,110,100,101,120,94,116]]),([116,58,97,114,114,32,38,32,105,110,100,101,120,94,116],[[116,58,97,114,114],[105,110,100,101,120,94,116]]),([116,114,97,112,115,32,38,32,119,114,105,116,101,115],[[116,114,97,112,115],[119,114,105,116,101,115]]),([116,114,97,112,115],[[116,114,97,112,115]]),([119,114,105,116,101,115],[[119,114,105,116,101,115]]),([99,111,109,109,117,116,101,115,32,38,32,112,117,114,101],[[99,111,109,109,117,116,101,115],[112,117,114,101]]),([97,58,105,110,116],[[97,58,105,110,116]])]
def Hu(s:L Nat):L (L Nat×L (L Nat))->Option (L (L Nat))
 |[]=>J
 |x::l=>cond (iT x.1 s) (Y x.2) (Hu s l)
def xe(f:Nat)(K:L A):Option A:=
 cond (Nat.beq f 133) (match K with
  |[.J s,.J sep]=>cond (iT sep xb) ((Hu s RG).map pn) J
  | _=>J)
 (cond (Nat.beq f 273) (match K with
  |[.J s,.int .u8 (.ofNat c)]=>cond (Nat.blt c 256) (Y (.int .i64 (BN c s 0))) J
  | _=>J)
 (cond (Nat.beq f 195) (match K with
  |[.J s,.J t]=>Y (.int .i64 (D2 s t))
  | _=>J) J))
def zk(z:L Nat):Option (jP×L S×L S):=
 cond (iT z [0,1,0,4,12,0,63,127,0,511]) (Y (.q 0 (.q 1 (.q 2 (.q 3 (.q 5 (.kU 4 (.q 6 (.kU 7 (.one 8 (.one 9 .done)) (.kU 8 (.one 7 (.one 9 .done)) .no))) (.kU 8 (.one 4 (.q 6 (.one 7 (.one 9 .done)))) .no)))))),[T3,T4,T5,T7],[T7,T23]))
 (cond (iT z [0,1,0,4,0,16,0,64,255,511,0,2047]) (Y (QC,[T0,T4],[T15,T17,T19,T21,T23,T4]))
 (cond (iT z [0,0,2,7,15,31,31,0,191,511]) (Y (.q 1 (.q 2 (.kU 0 (.q 3 (.q 4 (.q 5 (.q 6 (.one 7 (.one 8 (.one 9 .done))))))) (.kU 7 (.one 0 (.q 3 (.q 4 (.q 5 (.q 6 (.one 8 (.one 9 .done))))))) .no))),[],[])) J))
def aev{s:L Nat}{t:L (L Nat)}:∀{l:L (L Nat×L (L Nat))},Hu s l=Y t->(s,t)∈l:=by
 intro l;induction l with
 |nil=>intro h;cases h
 |cons x l i=>
 intro h;simp only[Hu]at h;cases hx:iT x.1 s
 .rw[hx]at h;exact mL _ (i h)
 rw[hx]at h;cases h;rw[<-tU hx];exact mw
def aew:(RG.all λx=>decide (Lib.split (oU x.1) (oU xb)=x.2.map oU)&&Nat.ble x.1.length 1000&&x.2.all λp=>p.all λc=>Nat.blt c 256)=dT:=by decide+kernel
def LS{P:Program}{G:ez}(C:mh P G)(h:xe f K=Y r):ee P G f K r:=by
 unfold xe at h;cases h1:Nat.beq f 133
 .rw[h1]at h;simp only[jx]at h;cases h2:Nat.beq f 273
  .rw[h2]at h;simp only[jx]at h;cases m:Nat.beq f 195
   .rw[m]at h;cases h
   rw[m]at h;obtain rfl:=iZ m;simp only[gZ]at h;split at h
   .cases h;exact aeu C.RH _ _
   cases h
  rw[h2]at h;obtain rfl:=iZ h2;simp only[gZ]at h;split at h
  .rename_i s c;cases m:Nat.blt c 256
   .rw[m]at h;cases h
   rw[m]at h;cases h;rw[lm]at m;exact aet C.vD s c (j0 m)
  cases h
 rw[h1]at h;obtain rfl:=iZ h1;simp only[gZ]at h;split at h
 .rename_i s a;cases h2:iT a xb
  .rw[h2]at h;cases h
  rw[h2]at h;obtain rfl:=tU h2;simp only[gZ,gA]at h;obtain⟨t,hp,rfl⟩:=h;have:=lf.1 aew _ (aev hp);simp only[jC]at this;exact C.split s t (j0 this.1.1) (zQ this.1.2) this.2
 cases h
def aex:T.D1 (λe:TE=>kN ⟨wa,xe,λ_ _ _=>J,λ_=>dU,zk⟩ e.a) Q.tabT=dT:=by kernel_rfl
def aey{h h':oD}(e:h.sp=h'.sp):∀a,kN h a=kN h' a:=by
 intro a;induction a with
 |jk r z F=>simp only[kN,e]
 |seq a b c d=>simp only[kN,c,d]
 |cond x a b c d=>simp only[kN,c,d]
 |block i a f=>simp only[kN,f]
 |loop l a f=>simp only[kN,f]
 |rangeFunc g t l a b c d=>simp only[kN,c,d]
 |scope a f=>simp only[kN,f]
 | _=>rfl
def p7.of{P:Program}{G:ez}(C:fP P G){h:oD}(j:h.vX=wa)(d:h.sp=zk)(c:∀f K r,h.ov f K=Y r->ee P G f K r)
  (i:∀f K H r p w,h.BI f K H=Y (r,p,w)->eL P G f K H λk t=>k=r/\t=⟨H.ep.set p (Y (.dY w)),H.dX⟩):p7 P G h:=by
 refine⟨⟨C.dW,C.ey,C.mixed,c,i⟩,λf N l a g=>?_⟩;rw[j]at g;obtain⟨b,q,e,F,rfl⟩:=aeq C.fs g;refine⟨b,?_⟩;rw[aey (h':=⟨wa,xe,λ_ _ _=>J,λ_=>dU,zk⟩) d];exact(T.aep aex).dZ F
structure RD where
 s:List Nat
 so:Nat
 va:Nat
 cl:List Nat
def uq:L RD:=[⟨[97],118,97,[]⟩,⟨[97,58,97,110,121],98,97,[97,110,121]⟩,⟨[97,58,105,110,116],98,97,[105,110,116]⟩,⟨[97,58,110,117,109],98,97,[110,117,109]⟩,⟨[97,110,121,42],115,0,[97,110,121]⟩,⟨[101,108,101,109,32,109],101,109,[]⟩,⟨[101,108,101,109,32,116],101,116,[]⟩,⟨[105,49],120,0,[105,49]⟩,⟨[105,110,100,101,120],120,0,[105,110,100,101,120]⟩,⟨[105,110,100,101,120,94,109],105,109,[]⟩,⟨[105,110,100,101,120,94,116],105,116,[]⟩,⟨[109],118,109,[]⟩,⟨[109,58,109,101,109],98,109,[109,101,109]⟩,⟨[110,117,109,42],115,0,[110,117,109]⟩,⟨[116],118,116,[]⟩,⟨[116,58,97,114,114],98,116,[97,114,114]⟩]
structure DD where
 nm:List Nat
 is:List (List Nat)
 os:List (List Nat)
 as:List (List Nat×Nat)
 zr:Nat
 zs:Nat
 ts:List (List Nat)
def D4:L (L Nat×jt×L DD):=[([97,114,105,116,104],jt.G,[⟨[97,100,100],[[97,58,110,117,109],[97]],[[97]],[],0,0,[[99,111,109,109,117,116,101,115],[112,117,114,101]]⟩,
 ⟨[97,110,100],[[97,58,110,117,109],[97]],[[97]],[],0,0,[[99,111,109,109,117,116,101,115],[112,117,114,101]]⟩,
 ⟨[99,97,115,116],[[97,58,110,117,109]],[[110,117,109,42]],[],0,0,[[112,117,114,101]]⟩,
 ⟨[99,109,112],[[97,58,110,117,109],[97]],[[105,49]],[([112,114,101,100],1)],0,0,[[112,117,114,101]]⟩,
 ⟨[99,111,110,115,116],[],[[110,117,109,42]],[([118,97,108,117,101],0)],0,0,[[112,117,114,101]]⟩,
 ⟨[100,105,118,115],[[97,58,110,117,109],[97]],[[97]],[],0,0,[[116,114,97,112,115]]⟩,
 ⟨[100,105,118,117],[[97,58,110,117,109],[97]],[[97]],[],0,0,[[116,114,97,112,115]]⟩,
 ⟨[101,120,116,115],[[97,58,105,110,116]],[[110,117,109,42]],[],0,0,[[112,117,114,101]]⟩,
 ⟨[101,120,116,117],[[97,58,105,110,116]],[[110,117,109,42]],[],0,0,[[112,117,114,101]]⟩,
 ⟨[109,117,108],[[97,58,110,117,109],[97]],[[97]],[],0,0,[[99,111,109,109,117,116,101,115],[112,117,114,101]]⟩,
 ⟨[111,114],[[97,58,110,117,109],[97]],[[97]],[],0,0,[[99,111,109,109,117,116,101,115],[112,117,114,101]]⟩,
 ⟨[114,101,109,115],[[97,58,110,117,109],[97]],[[97]],[],0,0,[[116,114,97,112,115]]⟩,
 ⟨[114,101,109,117],[[97,58,110,117,109],[97]],[[97]],[],0,0,[[116,114,97,112,115]]⟩,
 ⟨[115,101,108,101,99,116],[[105,49],[97,58,97,110,121],[97]],[[97]],[],0,0,[[112,117,114,101]]⟩,
 ⟨[115,104,108],[[97,58,110,117,109],[97]],[[97]],[],0,0,[[112,117,114,101]]⟩,
 ⟨[115,104,114,115],[[97,58,110,117,109],[97]],[[97]],[],0,0,[[112,117,114,101]]⟩,
 ⟨[115,104,114,117],[[97,58,110,117,109],[97]],[[97]],[],0,0,[[112,117,114,101]]⟩,
 ⟨[115,117,98],[[97,58,110,117,109],[97]],[[97]],[],0,0,[[112,117,114,101]]⟩,
 ⟨[116,114,117,110,99],[[97,58,105,110,116]],[[110,117,109,42]],[],0,0,[[112,117,114,101]]⟩,
 ⟨[120,111,114],[[97,58,110,117,109],[97]],[[97]],[],0,0,[[99,111,109,109,117,116,101,115],[112,117,114,101]]⟩]),
 ([97,114,114],jt.fE,[⟨[103,101,116],[[116,58,97,114,114],[105,110,100,101,120,94,116]],[[101,108,101,109,32,116]],[],0,0,[[116,114,97,112,115]]⟩,
 ⟨[115,101,116],[[116,58,97,114,114],[101,108,101,109,32,116],[105,110,100,101,120,94,116]],[[116]],[],0,0,[[116,114,97,112,115]]⟩,
 ⟨[115,112,108,97,116],[[97,58,110,117,109]],[[97,110,121,42]],[],0,0,[[112,117,114,101]]⟩]),
 ([99,102],jt.fE,[⟨[98,114],[],[],[],0,1,[[101,110,100]]⟩,
 ⟨[99,111,110,100],[[105,49]],[],[],0,2,[[101,110,100]]⟩,
 ⟨[116,114,97,112],[],[],[([99,111,100,101],0)],0,0,[[101,110,100],[116,114,97,112,115]]⟩]),
 ([102,117,110,99],jt.fE,[⟨[99,97,108,108],[[97,110,121,42]],[[97,110,121,42]],[([99,97,108,108,101,101],2)],0,0,[[99,97,108,108,115],[112,114,105,110,116,115],[114,101,97,100,115],[116,114,97,112,115],[119,114,105,116,101,115]]⟩,
 ⟨[102,117,110,99],[],[],[([110,97,109,101],2),([114,101,115,117,108,116,115],5)],1,0,[[98,108,111,99,107,115]]⟩,
 ⟨[114,101,116,117,114,110],[[97,110,121,42]],[],[],0,0,[[101,110,100]]⟩]),
 ([105,111],jt.fE,[⟨[112,114,105,110,116],[[97,58,110,117,109]],[],[],0,0,[[112,114,105,110,116,115]]⟩]),
 ([109,101,109],jt.fE,[⟨[97,108,108,111,99],[],[[97,110,121,42]],[],0,0,[[119,114,105,116,101,115]]⟩,
 ⟨[99,111,112,121],[[109,58,109,101,109],[109]],[],[],0,0,[[114,101,97,100,115],[119,114,105,116,101,115]]⟩,
 ⟨[108,111,97,100],[[109,58,109,101,109],[105,110,100,101,120,94,109]],[[101,108,101,109,32,109]],[],0,0,[[114,101,97,100,115],[116,114,97,112,115]]⟩,
 ⟨[115,116,111,114,101],[[109,58,109,101,109],[101,108,101,109,32,109],[105,110,100,101,120,94,109]],[],[],0,0,[[116,114,97,112,115],[119,114,105,116,101,115]]⟩]),
 ([115,99,102],jt.fE,[⟨[99,111,110,100],[[105,49],[97,110,121,42]],[],[],0,0,[[101,110,100]]⟩,
 ⟨[102,111,114],[[105,110,100,101,120],[105,110,100,101,120],[97,110,121,42]],[[97,110,121,42]],[([115,116,101,112],0)],1,0,[]⟩,
 ⟨[105,102],[[105,49]],[[97,110,121,42]],[],2,0,[]⟩,
 ⟨[119,104,105,108,101],[[97,110,121,42]],[[97,110,121,42]],[],2,0,[]⟩,
 ⟨[121,105,101,108,100],[[97,110,121,42]],[],[],0,0,[[101,110,100]]⟩])]
def pq(o:Nat)(s:L (L A))(t:jt):A:=match s with
 |[]=>.ej
 | _=>.eG o (O s) s.flatten t
def xh(l:L (L Nat)):A:=pq 1 (l.map λs=>[.J s]) .fE
def RI(x:L Nat×Nat):L A:=[.J x.1,.int .i64 (.ofNat x.2)]
def te(d:DD):L A:=[.J d.nm,xh d.is,xh d.os,pq 2 (d.as.map RI) .fE,.int .i64 (.ofNat d.zr),.int .i64 (.ofNat d.zs),xh d.ts]
def Hv(x:L Nat×jt×L DD):L A:=[.J x.1,.ej,pq 7 (x.2.2.map te) x.2.1]
def D5:L (L A):=D4.map Hv
def LU:A:=pq 3 D5 .G
def og:oD:=⟨wa,xe,λ_ _ _=>J,λ_=>dU,zk⟩
def RJ{P:Program}(C:mh P G):p7 P G og:=
 p7.of C.tofP Z Z (λ_ _ _ h=>LS C h) λ_ _ _ _ _ _ h=>by cases h
section
variable{P:Program}{fz:xc}
def RK(C:mh P (Gz P fz)):ee P (Gz P fz) 26 [] LU:=ee.Ht (RJ C) (fuel:=100) Z eU
def D6(x:RD):A:=.eK [.agg [.int .i32 (.ofNat x.so),.int .i32 (.ofNat x.va),.J x.cl],.bool dT]
def aez:(uq.all λx=>Nat.beq (DX P (Gz P fz) og 60 [] (.call 105 [.J x.s]) ⟨.e,.h⟩ λr D=>jv (BC D.ep 60 r) 1 λu=>mH (oe 60 u (D6 x)) 0 2) 0)=dT:=by kernel_rfl
def LV(C:mh P (Gz P fz)){x:RD}(v:x∈uq):ee P (Gz P fz) 105 [.J x.s] (D6 x):=
 ee.Ht (RJ C) Z (iZ (lf.1 (aez (P:=P) (fz:=fz)) x v))
instance(s p:L Nat):Decidable (lr s p):=inferInstanceAs (Decidable (_ /\ _))
def aeA:(uq.all λx=>decide (O x.cl<=100)&&(decide (x.so≠115)||decide (x.s=wO)||decide (x.s=wP))&&(decide (x.so≠105)||decide (lr x.s uc)))=dT:=by decide+kernel
def ur(s:L Nat):L RD->Option RD
 |[]=>J
 |x::l=>cond (iT x.s s) (Y x) (ur s l)
def LW{s:L Nat}{x:RD}:∀{l:L RD},ur s l=Y x->x∈l/\x.s=s:=by
 intro l;induction l with
 |nil=>intro h;cases h
 |cons y l i=>
 intro h;simp only[ur]at h;cases hy:iT y.s s
 .rw[hy]at h;exact⟨mL _ (i h).1,(i h).2⟩
 rw[hy]at h;cases h;exact⟨mw,tU hy⟩
def zm:L (L Nat)->Bool
 |[]=>dT
 |[s]=>(ur s uq).isSome
 |s::l=>(match ur s uq with|some x=> !(Nat.beq x.so 115)|none=>dU)&&zm l
def aeB(C:mh P (Gz P fz)):∀{l:L (L Nat)},zm l=dT->∀i (h:i<O l),∃g F b,ud P (Gz P fz) (.J l[i]) g F b/\(i+1<O l->g≠115):=by
 have k:∀{s:L Nat}{x:RD},ur s uq=Y x->ud P (Gz P fz) (.J s) (.ofNat x.so) (.ofNat x.va) x.cl:=by
  intro s x v;obtain⟨K,rfl⟩:=LW v;have r:=lf.1 aeA x K;simp only[jC,ux,oh]at r
  let⟨⟨p,a⟩,m⟩:=r
  refine⟨x.s,dT,Z,LV C K,by unfold eI;omega,λe=>?_,λe=>?_⟩
  .have e:x.so=115:=by injection e
   rcases a with(a|a)|a
   .exact absurd e a
   .exact .inl a
   exact .inr a
  have e:x.so=105:=by injection e
  exact m.resolve_left λh=>h e
 intro l;induction l with
 |nil=>intro _ i h;simp at h
 |cons s l d=>
 intro n i c;cases l with
 |nil=>
  obtain⟨x,v⟩:=oW.1 n;have:i=0:=by simpa using c
  subst this;exact⟨_,_,_,k v,λh=>by simp at h⟩
 |cons t l=>
 simp only[zm,jC]at n
 let⟨K,r⟩:=n
 cases i with
 |zero=>
  cases v:ur s uq with
  |none=>rw[v]at K;cases K
  |some x=>
  rw[v]at K;refine⟨_,_,_,k v,λ_ e=>?_⟩;have e:x.so=115:=by injection e
  dsimp only at K;rw[e]at K;cases K
 |succ i=>obtain⟨g,F,b,p,a⟩:=d (by simpa[zm]using r) i Jf;exact⟨g,F,b,p,λh=>a ly⟩
def ut(l:L (L Nat)):Bool:=Nat.ble (O l) 10&&l.all λs=>Nat.ble (O s) 100
def Hw(d:DD):Bool:=Nat.ble (O d.nm) 100&&ut d.is&&ut d.os&&ut d.ts&&ut (d.as.map (·.1))&&zm d.is&&zm d.os&&d.nm.all λc=> !(Nat.beq c 46)
def Hx{sz:Nat}{xs:L (L A)}{t:jt}(a:∀p,t≠.open p)(h:∀x∈xs,O x=sz):fT sz xs (pq sz xs t):=by
 refine⟨?_,h⟩;cases xs with
 |nil=>exact .inl ⟨Z,Z,Z⟩
 |cons x xs=>
 refine .inr ⟨t,a,Z,?_⟩;rw[List.length_flatten];have:(x::xs).map O=List.replicate (O (x::xs)) sz:=by rw[List.eq_replicate_iff];refine⟨ei,λb j=>?_⟩;obtain⟨y,G,rfl⟩:=gS.1 j;exact h y G
 rw[this,List.sum_replicate_nat]
def aeC(l:L (L Nat)):(l.map λs=>[A.J s]).flatten=l.map .J:=by
 induction l with
 |nil=>rfl
 |cons a l i=>simp only[jL,nK,i];rfl
def D7(l:L (L Nat)):fC (l.map .J) (xh l):=by have:=Hx (sz:=1) (xs:=l.map λs=>[A.J s]) (t:=.fE) Cz (λx v=>by obtain⟨s,_,rfl⟩:=gS.1 v;rfl);have h:=this.1;rw[aeC,jH]at h;show Sl 1 _ _ _;rw[jH];exact h
def BP(h:ut l=dT):iL (l.map .J)/\O (l.map A.J)<=eI:=by simp only[ut,jC,jS,lf]at h;refine⟨λx v=>?_,by rw[jH];unfold eI;omega⟩;obtain⟨s,r,rfl⟩:=gS.1 v;have:=h.2 s r;exact⟨s,Z,by unfold eI;omega⟩
def RL(C:mh P (Gz P fz))(h:Hw d=dT):j9 (sO P (Gz P fz)) (te d):=by
 simp only[Hw,jC,jS,lf]at h
 let⟨⟨⟨⟨⟨⟨⟨q,r⟩,m⟩,E⟩,H⟩,G⟩,k⟩,z⟩:=h
 have b:∀{l:L (L Nat)},ut l=dT->zm l=dT->vJ P (Gz P fz) (l.map .J):=by
  intro l p t;simp only[ut,jC,jS]at p;refine⟨by rw[jH];exact p.1,λi n=>?_⟩;have f:i<O l:=by simpa using n
  obtain⟨g,F,j,W,a⟩:=aeB C t i f;exact⟨g,F,j,by rw[mM];exact W,λh=>a ly⟩
 refine .mk d.nm _ _ _ _ _ _ (d.is.map .J) (d.os.map .J) (d.as.map RI) (d.ts.map .J) (by unfold eI;omega) (D7 _) (BP r).1 (BP r).2 (D7 _) (BP m).1 (BP m).2
  (Hx Cz λx v=>by obtain⟨s,_,rfl⟩:=gS.1 v;rfl) (λx v=>?_) ?_ (D7 _) (BP E).1 (BP E).2 ⟨λc K=>?_,b r G,b m k⟩
 .obtain⟨s,o,rfl⟩:=gS.1 v;simp only[ut,jC,jS,lf]at H;have:=H.2 s.1 (gS.2 ⟨s,o,Z⟩);exact .mk _ _ (by unfold eI;omega)
 .simp only[ut,jC,jS,jH]at H;rw[jH];unfold eI;omega
 have:=z c K;intro e;rw[e]at this;cases this
def aeD:(D4.all λx=>Nat.ble x.1.length 100&&Nat.ble x.2.2.length 100&&(x.1.all λc=> !(Nat.beq c 46))&&(match x.2.1 with|.open _=>dU| _=>dT)&&x.2.2.all Hw)=dT:=by decide+kernel
def RM(C:mh P (Gz P fz)){x:L Nat×jt×L DD}(v:x∈D4):fT 7 (x.2.2.map te) (pq 7 (x.2.2.map te) x.2.1)/\lO (sO P (Gz P fz)) (λb _ _=>∀c∈b,c≠46) (Hv x):=by
 have h:=lf.1 aeD x v;simp only[jC,jS,lf]at h
 let⟨⟨⟨⟨f,g⟩,m⟩,E⟩,H⟩:=h
 have j:∀p,x.2.1≠.open p:=λp e=>by rw[e]at E;cases E
 have r:fT 7 (x.2.2.map te) (pq 7 (x.2.2.map te) x.2.1):=Hx j λy G=>by obtain⟨d,_,rfl⟩:=gS.1 G;rfl
 refine⟨r,.mk x.1 .ej _ [] (x.2.2.map te) (by unfold eI;omega) (.inl ⟨Z,Z,Z⟩) Es (by unfold eI;simp) r (λy G=>?_) (by rw[jH];unfold eI;omega) λc K e=>?_⟩
 .obtain⟨d,a,rfl⟩:=gS.1 G;exact RL C (H d a)
 have:=m c K;rw[e]at this;cases this
def aeE(C:mh P (Gz P fz)):Df P (Gz P fz) LU D5:=by
 refine⟨RK C,Hx Cz λx v=>?_,by decide+kernel,λx v=>?_⟩
 .obtain⟨d,_,rfl⟩:=gS.1 v;rfl
 obtain⟨d,a,rfl⟩:=gS.1 v;exact(RM C a).2
def Hy:L (L Nat)->Nat
 |[]=>0
 |s::l=>(if s≠wO/\s≠wP/\¬lr s uc then 1 else 0)+Hy l
def aeF:∀{l:L (L Nat)}{ca:Nat->Nat},(∀i (h:i<O l),l[i]≠wO->l[i]≠wP->¬lr l[i] uc->ca i=1)->Hy l<=fV ca (O l):=by
 have a:∀(ca:Nat->Nat)(n:Nat),fV ca (n+1)=ca 0+fV (λi=>ca (i+1)) n:=by
  intro ca n;induction n with
  |zero=>simp[fV]
  |succ n b=>rw[fV,b];simp only[fV];omega
 intro l;induction l with
 |nil=>intro ca _;exact oE _
 |cons s l b=>
 intro ca h;have K:=b (ca:=λi=>ca (i+1)) λi C=>h (i+1) H9;rw[lV,a];simp only[Hy];have c:=h 0 ei;split
 .rename_i e;rw[c e.1 e.2.1 e.2.2];omega
 omega
def jp:oD:=⟨wa,λf K=>cond (Nat.beq f 105) (match K with
 |[.J s]=>(ur s uq).map D6
 | _=>J) (xe f K),λ_ _ _=>J,λ_=>dU,zk⟩
def aeG(C:mh P (Gz P fz))(h:cond (Nat.beq f 105) (match K with
 |[.J s]=>(ur s uq).map D6
 | _=>J) (xe f K)=Y r):ee P (Gz P fz) f K r:=by
 cases hb:Nat.beq f 105
 .rw[hb]at h;exact LS C h
 rw[hb]at h;obtain rfl:=iZ hb;simp only[gZ]at h;split at h
 .simp only[gA]at h;obtain⟨x,v,rfl⟩:=h;obtain⟨a,rfl⟩:=LW v;exact LV C a
 cases h
def D8(C:mh P (Gz P fz)):p7 P (Gz P fz) jp:=
 p7.of C.tofP Z Z (λ_ _ _ h=>aeG C h) λ_ _ _ _ _ _ h=>by cases h
def Hz:L (Nat×DD):=yX.flatMap λr=>D4.flatMap λx=>cond (iT x.1 r.1) (x.2.2.flatMap λd=>cond (iT d.nm r.2.1) [(r.2.2,d)] []) []
def aeH:(Hz.all λx=>Nat.beq (DX P (Gz P fz) jp 60 [] (.call 48 [.agg (te x.2)]) ⟨.e,.h⟩ λr D=>jv (BC D.ep 60 r) 1 λu=>mH (oe 60 u (.bool dT)) 0 2) 0&&ze [.agg (te x.2)])=dT:=by kernel_rfl
def aeI:(Hz.all λx=>Nat.ble (yU x.1).1 (Hy x.2.is)&&Nat.ble (yU x.1).2 x.2.zr&&Hw x.2)=dT:=by decide+kernel
def aeJ(C:mh P (Gz P fz)){x:Nat×DD}(v:x∈Hz):yV P (Gz P fz) x.1 (te x.2):=by
 have K:=lf.1 (aeH (P:=P) (fz:=fz)) x v;have r:=lf.1 aeI x v;simp only[jC,jS]at K r
 let⟨⟨p,t⟩,m⟩:=r
 refine⟨RL C m,_,_,_,_,_,_,_,x.2.is.map .J,Z,D7 _,ee.Ht (D8 C) K.2 (iZ K.1),λn E=>?_,Int.ofNat_le.2 t⟩
 let⟨ca,W,e⟩:=E
 have:=aeF (l:=x.2.is) (ca:=ca) λi d a b c=>e i zZ _ (by rw[mM]) a b c;rw[jH]at W;omega
def rows_ok(C:mh P (Gz P fz)):Ha P (Gz P fz) D5:=by
 intro r n x v Q j l e g y G E;obtain⟨d,a,rfl⟩:=gS.1 v;obtain⟨p,_⟩:=RM C a;simp only[Hv,ti,A.J.injEq,pA]at e
 let⟨h,_,N⟩:=e
 rw[<-N]at g;obtain rfl:=fT.lT gP g p;obtain⟨b,f,rfl⟩:=gS.1 G;have i:b.nm=r.2.1:=by simp only[te,EH,oZ,A.J.injEq]at E;exact E
 have:(r.2.2,b)∈Hz:=by
  refine oX.2 ⟨r,n,oX.2 ⟨d,a,?_⟩⟩;rw[h];have c:iT r.1 r.1=dT:=by rw[uV];simp
  rw[c];refine oX.2 ⟨b,f,?_⟩;rw[i];have z:iT r.2.1 r.2.1=dT:=by rw[uV];simp
  rw[z];exact Cp.2 Z
 exact aeJ C this
def aeK:Hb D5:=by
 have h:(yX.all λr=>D4.any λx=>decide (x.1=r.1))=dT:=by decide+kernel
 intro r n;have:=lf.1 h r n;obtain⟨x,v,a⟩:=CD.1 this;exact⟨Hv x,gS.2 ⟨x,v,Z⟩,by rw[<-j0 a];rfl⟩
end
structure AD where
 nm:List Nat
 k:Nat
 n:Nat
 tx:List Nat
 ts:List (List Nat)
def xi(d:AD):L A:=[.J d.nm,.int .i64 (.ofNat d.k),.int .i64 (.ofNat d.n),.J d.tx,.ej,xh d.ts]
def aeL(d:AD):L A:=[.J d.nm,.int .i64 (.ofNat d.k),.int .i64 (.ofNat d.n),.J d.tx,.ej,pq 1 (d.ts.map λs=>[.J s]) .G]
def D9(l:L AD):A:=pq 6 (l.map xi) .fE
def HA(l:L AD):A:=pq 6 (l.map aeL) .G
def LX:AD:=⟨[118,97,108,117,101],0,1,[],[]⟩
def LY:AD:=⟨[99,97,108,108,101,101],2,0,[102],[]⟩
def BQ(c:Nat):AD:=⟨[110,97,109,101],2,0,[c],[]⟩
def BR(q:L (L Nat)):AD:=⟨[114,101,115,117,108,116,115],5,0,[],q⟩
def Eb:L Nat:=[105,51,50]
def LZ:L (L AD):=[[LX],[],[LY],[BQ 102,BR [Eb]],[BQ 103,BR []],[BQ 102,BR []]]
def HB:L AD:=[LX,LY,BQ 102,BQ 103,BR [Eb],BR []]
def RN:Nat->Nat×Nat
 |0=>(275,276)
 |2=>(281,279)
 | _=>(288,286)
section
variable{P:Program}{fz:xc}
def BS(P:Program)(fz:xc)(h:oD)(f:Nat)(K:L A)(v:A):Bool:=
 Nat.beq (DX P (Gz P fz) h 100 [] (.call f K) ⟨.e,.h⟩ λr D=>jv (BC D.ep 60 r) 1 λu=>mH (oe 60 u v) 0 2) 0&&ze K
def wb{h:oD}(d:p7 P (Gz P fz) h){f:Nat}{K:L A}{v:A}(j:BS P fz h f K v=dT):ee P (Gz P fz) f K v:=by simp only[BS,jC]at j;exact ee.Ht d j.2 (iZ j.1)
def aeM:(LZ.all λl=>BS P fz jp 164 [D9 l] (HA l))=dT:=by kernel_rfl
def aeN(C:mh P (Gz P fz))(o:l∈LZ):ee P (Gz P fz) 164 [D9 l] (HA l):=
 wb (D8 C) (lf.1 (aeM (P:=P) (fz:=fz)) l o)
def aeO:(HB.all λd=>BS P fz jp 37 [.J d.nm] (.bool dT)&&BS P fz jp (RN d.k).1 [.agg (xi d)] (.bool dT)&&BS P fz jp (RN d.k).2 [.agg (xi d)] (.bool dT))=dT:=by kernel_rfl
def aeP(C:fP P G){n:Int}{Q:A}(hvt:Q.Pure)(fn:ee P G 37 [.J d] (.bool dT))(f1:ee P G 275 [.agg [.J d,.int .i64 (.ofNat 0),.int .i64 n,.J m,.ej,Q]] (.bool dT))(f2:ee P G 276 [.agg [.J d,.int .i64 (.ofNat 0),.int .i64 n,.J m,.ej,Q]] (.bool dT)):
  ee P G 233 [.agg [.J d,.int .i64 (.ofNat 0),.int .i64 n,.J m,.ej,Q]] (.bool dT):=by
 have pcs:∀v∈[A.J d,V 0,.int .i64 n,.J m,.ej,Q],v.Pure:=λv hv=>Nh;refine Il λpfs=>?_;suffices h:∃v,v=A.bool dT/\ee P G 233 [.agg [.J d,V 0,.int .i64 n,.J m,.ej,Q]] v by obtain⟨_,rfl,h⟩:=h;exact h
 refine Ms ?_;refine eT.i7 (live:=[T1,T3,T4]) C.mixed C.dW sI (.i .h) [.ea .h 0,.ea (.o .h) 0,.bool dT] (hp [(.h,.dY [.J d,V 0,.int .i64 n,.J m,.ej,Q]),(.o .h,.dY [.func (.func 275) [] [],.func (.func 276) [] [],.func (.func 277) [] []])]) Z Z Z ?_ ?_
 .conv=>whnf
  refine⟨?_,?_⟩
  .conv=>whnf
   refine mQ ?_;repeat'(first|refine⟨Z,wK ?_⟩|refine bK (λ_=>?_) λ_=>?_)
   exact .lA [(.o .h,.i .h)] [(.h,.dY [.J d,V 0,.int .i64 n,.J m,.ej,Q]),(.o .h,.dY [.func (.func 275) [] [],.func (.func 276) [] [],.func (.func 277) [] []])] _ ⟨Z,Z⟩ Z tm
    BT Z
  refine rg ?_;repeat'(first|refine⟨Z,wK ?_⟩|refine bK (λ_=>?_) λ_=>?_)
  refine mQ ?_;repeat'(first|refine⟨Z,wK ?_⟩|refine bK (λ_=>?_) λ_=>?_)
  exact .iC [(.h,.dY [.J d,V 0,.int .i64 n,.J m,.ej,Q]),(.o .h,.dY [.func (.func 275) [] [],.func (.func 276) [] [],.func (.func 277) [] []])] _ ⟨Z,Z⟩ tj
   BT
 exact MP
def L0(C:fP P G){n:Int}{Q:A}(hvt:Q.Pure)(fn:ee P G 37 [.J d] (.bool dT))(f1:ee P G 281 [.agg [.J d,.int .i64 (.ofNat 2),.int .i64 n,.J m,.ej,Q]] (.bool dT))(f2:ee P G 279 [.agg [.J d,.int .i64 (.ofNat 2),.int .i64 n,.J m,.ej,Q]] (.bool dT)):
  ee P G 233 [.agg [.J d,.int .i64 (.ofNat 2),.int .i64 n,.J m,.ej,Q]] (.bool dT):=by
 have pcs:∀v∈[A.J d,V 2,.int .i64 n,.J m,.ej,Q],v.Pure:=λv hv=>Nh;refine Il λpfs=>?_;suffices h:∃v,v=A.bool dT/\ee P G 233 [.agg [.J d,V 2,.int .i64 n,.J m,.ej,Q]] v by obtain⟨_,rfl,h⟩:=h;exact h
 refine Ms ?_;refine eT.i7 (live:=[T1,T3,T4]) C.mixed C.dW sI (.i .h) [.ea .h 0,.ea (.o .h) 0,.bool dT] (hp [(.h,.dY [.J d,V 2,.int .i64 n,.J m,.ej,Q]),(.o .h,.dY [.func (.func 281) [] [],.func (.func 279) [] [],.func (.func 282) [] []])]) Z Z Z ?_ ?_
 .conv=>whnf
  refine⟨?_,?_⟩
  .conv=>whnf
   refine mQ ?_;repeat'(first|refine⟨Z,wK ?_⟩|refine bK (λ_=>?_) λ_=>?_)
   exact .lA [(.o .h,.i .h)] [(.h,.dY [.J d,V 2,.int .i64 n,.J m,.ej,Q]),(.o .h,.dY [.func (.func 281) [] [],.func (.func 279) [] [],.func (.func 282) [] []])] _ ⟨Z,Z⟩ Z tm
    BT Z
  refine rg ?_;repeat'(first|refine⟨Z,wK ?_⟩|refine bK (λ_=>?_) λ_=>?_)
  refine mQ ?_;repeat'(first|refine⟨Z,wK ?_⟩|refine bK (λ_=>?_) λ_=>?_)
  exact .iC [(.h,.dY [.J d,V 2,.int .i64 n,.J m,.ej,Q]),(.o .h,.dY [.func (.func 281) [] [],.func (.func 279) [] [],.func (.func 282) [] []])] _ ⟨Z,Z⟩ tj
   BT
 exact MP
def RO(C:fP P G){n:Int}{Q:A}(hvt:Q.Pure)(fn:ee P G 37 [.J d] (.bool dT))(f1:ee P G 288 [.agg [.J d,.int .i64 (.ofNat 5),.int .i64 n,.J m,.ej,Q]] (.bool dT))(f2:ee P G 286 [.agg [.J d,.int .i64 (.ofNat 5),.int .i64 n,.J m,.ej,Q]] (.bool dT)):
  ee P G 233 [.agg [.J d,.int .i64 (.ofNat 5),.int .i64 n,.J m,.ej,Q]] (.bool dT):=by
 have pcs:∀v∈[A.J d,V 5,.int .i64 n,.J m,.ej,Q],v.Pure:=λv hv=>Nh;refine Il λpfs=>?_;suffices h:∃v,v=A.bool dT/\ee P G 233 [.agg [.J d,V 5,.int .i64 n,.J m,.ej,Q]] v by obtain⟨_,rfl,h⟩:=h;exact h
 refine Ms ?_;refine eT.i7 (live:=[T1,T3,T4]) C.mixed C.dW sI (.i .h) [.ea .h 0,.ea (.o .h) 0,.bool dT] (hp [(.h,.dY [.J d,V 5,.int .i64 n,.J m,.ej,Q]),(.o .h,.dY [.func (.func 288) [] [],.func (.func 286) [] [],.func (.func 289) [] []])]) Z Z Z ?_ ?_
 .conv=>whnf
  refine⟨?_,?_⟩
  .conv=>whnf
   refine mQ ?_;repeat'(first|refine⟨Z,wK ?_⟩|refine bK (λ_=>?_) λ_=>?_)
   exact .lA [(.o .h,.i .h)] [(.h,.dY [.J d,V 5,.int .i64 n,.J m,.ej,Q]),(.o .h,.dY [.func (.func 288) [] [],.func (.func 286) [] [],.func (.func 289) [] []])] _ ⟨Z,Z⟩ Z tm
    BT Z
  refine rg ?_;repeat'(first|refine⟨Z,wK ?_⟩|refine bK (λ_=>?_) λ_=>?_)
  refine mQ ?_;repeat'(first|refine⟨Z,wK ?_⟩|refine bK (λ_=>?_) λ_=>?_)
  exact .iC [(.h,.dY [.J d,V 5,.int .i64 n,.J m,.ej,Q]),(.o .h,.dY [.func (.func 288) [] [],.func (.func 286) [] [],.func (.func 289) [] []])] _ ⟨Z,Z⟩ tj
   BT
 exact MP
def aeQ(C:mh P (Gz P fz))(a:d∈HB):ee P (Gz P fz) 233 [.agg (xi d)] (.bool dT):=by
 have h:=lf.1 (aeO (P:=P) (fz:=fz)) d a;simp only[jC]at h
 let⟨⟨K,r⟩,b⟩:=h
 have p:=wb (D8 C) K;have t:=wb (D8 C) r;have m:=wb (D8 C) b;have hp:(xh d.ts).Pure:=(D7 d.ts).dW λc e=>by obtain⟨s,_,rfl⟩:=gS.1 e;exact jX _
 simp only[HB,eZ,f7,fZ]at a;obtain rfl|rfl|rfl|rfl|rfl|rfl:=a
 .exact aeP C.tofP hp p t m
 .exact L0 C.tofP hp p t m
 .exact L0 C.tofP hp p t m
 .exact L0 C.tofP hp p t m
 .exact RO C.tofP hp p t m
 exact RO C.tofP hp p t m
end
structure uu (P:Program)(G:ez):Prop where
 Lo:∀(H:eM)(t p:S)(c o:A)(e:Int),p≠t→H.ep.dZ p=some (.dY [o,.iface 122 (.int .i64 e)])→H.ep.dZ t=some (.dY [c])→eL P G 28 [.iface 106 (.ea p 0),.iface 108 (.ea t 0)] H fun r H'=>r=.bool true∧H'=⟨H.ep.set t (some (.dY [.ea p 0])),H.dX⟩
 Lp:∀(H:eM)(t p:S)(c o:A)(e:Int),p≠t→H.ep.dZ p=some (.dY [o,.iface 122 (.int .i64 e)])→H.ep.dZ t=some (.dY [c])→eL P G 28 [.iface 106 (.ea p 0),.iface 123 (.ea t 0)] H fun r H'=>r=.bool true∧H'=⟨H.ep.set t (some (.dY [.int .i64 e])),H.dX⟩
def Ec(v:L Nat)(q:L Nat)(o:L (L Nat))(F:L AD)(a:A):L A:=
 [.J v,pq 1 (q.map λn=>[.int .i64 (.ofNat n)]) .fE,xh o,pq 6 (F.map xi) .fE,a,.ej]
def HC(c:Nat)(b a:L (L Nat))(R:L (L A)):L A:=
 Ec [102,117,110,99,46,102,117,110,99] [] [] [BQ c,BR a] (pq 1 [[pq 2 [[xh b,pq 6 R .fE]] .fE]] .fE)
def L1:L A:=Ec [97,114,105,116,104,46,99,111,110,115,116] [] [Eb] [LX] .ej
def L2(l:L Nat):L A:=Ec [102,117,110,99,46,114,101,116,117,114,110] l [] [] .ej
def aeR:L A:=Ec [102,117,110,99,46,99,97,108,108] [0] [] [LY] .ej
def aeS:L A:=Ec [105,111,46,112,114,105,110,116] [0] [] [] .ej
def RP:L A:=HC 102 [] [Eb] [L1,L2 [0]]
def aeT:L A:=HC 103 [Eb] [] [aeR,L2 []]
def aeU:L A:=HC 102 [] [] [aeS,L1,L2 []]
def HD(l:L (L A)):A:=.agg [pq 6 l .fE]
def L4:A:=HD [RP]
def L6:A:=HD [RP,aeT]
def L7:A:=HD [HC 102 [] [] [L1]]
def L8:A:=HD [aeU]
def zn(f:Nat)(K:L A):Option A:=
 cond (Nat.beq f 26) (match K with|[]=>Y LU| _=>J)
 (cond (Nat.beq f 105) (match K with
  |[.J s]=>(ur s uq).map D6
  | _=>J)
 (cond (Nat.beq f 164) (match K with
  |[v]=>ol LZ v
  | _=>J)
 (cond (Nat.beq f 233) (match K with
  |[v]=>findB HB v
  | _=>J) (xe f K))))
 where
 ol:List (List AD)→A→Option A
  |[], _ =>none
  |l::t,v=>cond (oe 60 v (D9 l)) (some (HA l)) (ol t v)
 findB:List AD→A→Option A
  |[], _ =>none
  |d::t,v=>cond (oe 60 v (.agg (xi d))) (some (.bool true)) (findB t v)
def L9(f:Nat)(K:L A)(H:eM):Option (A×S×L A):=
 cond (Nat.beq f 28) (match K with
  |[.iface a (.ea p u),.iface b (.ea t v)]=>cond (Nat.beq a 106) (cond (Nat.beq u 0) (cond (Nat.beq v 0) (cond (jT p t) J (match H.ep.dZ p,H.ep.dZ t with
   |some (.dY [_,.iface c (.int .i64 e)]),some (.dY [_])=>cond (Nat.beq c 122) (cond (Nat.beq b 108) (Y (.bool dT,t,[.ea p 0])) (cond (Nat.beq b 123) (Y (.bool dT,t,[.int .i64 e])) J)) J
   | _,_=>J)) J) J) J
  | _=>J) J
def xj:oD:=⟨wa,zn,L9,λf=>Nat.beq f 219,zk⟩
section
variable{P:Program}{fz:xc}
def aeV:∀{t:L (L AD)},zn.ol t v=Y r->∃l∈t,v=D9 l/\r=HA l:=by
 intro t;induction t with
 |nil=>intro h;cases h
 |cons l t ih=>
 intro h;simp only[zn.ol]at h;cases hb:oe 60 v (D9 l)
 .exact Vk
 rw[hb]at h;cases h;exact⟨l,mw,vZ hb,Z⟩
def aeW:∀{t:L AD},zn.findB t v=Y r->∃d∈t,v=.agg (xi d)/\r=.bool dT:=by
 intro t;induction t with
 |nil=>intro h;cases h
 |cons l t ih=>
 intro h;simp only[zn.findB]at h;cases hb:oe 60 v (.agg (xi l))
 .exact Vk
 rw[hb]at h;cases h;exact⟨l,mw,vZ hb,Z⟩
def aeX(C:mh P (Gz P fz))(h:zn f K=Y r):ee P (Gz P fz) f K r:=by
 unfold zn at h;cases a:Nat.beq f 26 with
 |true=>
  rw[a]at h;obtain rfl:=iZ a;simp only[gZ]at h;split at h
  .cases h;exact RK C
  cases h
 |false=>
 rw[a]at h;simp only[jx]at h;cases h2:Nat.beq f 105
 .rw[h2]at h;simp only[jx]at h;cases h3:Nat.beq f 164
  .rw[h3]at h;simp only[jx]at h;cases h4:Nat.beq f 233
   .rw[h4]at h;simp only[jx]at h;exact LS C h
   rw[h4]at h;obtain rfl:=iZ h4;simp only[gZ]at h;split at h
   .obtain⟨l,o,rfl,rfl⟩:=aeW h;exact aeQ C o
   cases h
  rw[h3]at h;obtain rfl:=iZ h3;simp only[gZ]at h;split at h
  .obtain⟨l,o,rfl,rfl⟩:=aeV h;exact aeN C o
  cases h
 rw[h2]at h;obtain rfl:=iZ h2;simp only[gZ]at h;split at h
 .obtain⟨x,v,rfl⟩:=gA.1 h;obtain⟨a,rfl⟩:=LW v;exact LV C a
 cases h
def aeY(Aa:uu P G){p:S}(h:L9 f K H=Y (r,p,w)):eL P G f K H λk i=>k=r/\i=⟨H.ep.set p (Y (.dY w)),H.dX⟩:=by
 unfold L9 at h;cases h1:Nat.beq f 28
 .rw[h1]at h;cases h
 rw[h1]at h;obtain rfl:=iZ h1;simp only[gZ]at h;split at h
 .rename_i a q u b t v;cases h2:Nat.beq a 106
  .rw[h2]at h;cases h
  rw[h2]at h;obtain rfl:=iZ h2;cases h3:Nat.beq u 0
  .rw[h3]at h;cases h
  rw[h3]at h;obtain rfl:=iZ h3;cases h4:Nat.beq v 0
  .rw[h4]at h;cases h
  rw[h4]at h;obtain rfl:=iZ h4;cases d:jT q t
  .rw[d]at h;simp only[gZ,jx]at h;have y:q≠t:=λe=>by rw[e,mA]at d;simp at d
   split at h
   .rename_i o c e g hp j;cases h6:Nat.beq c 122
    .rw[h6]at h;cases h
    rw[h6]at h;obtain rfl:=iZ h6;cases h7:Nat.beq b 108
    .rw[h7]at h;cases h8:Nat.beq b 123
     .rw[h8]at h;cases h
     rw[h8]at h;obtain rfl:=iZ h8;cases h;exact Aa.Lp H p q g o e y hp j
    rw[h7]at h;obtain rfl:=iZ h7;cases h;exact Aa.Lo H p q g o e y hp j
   cases h
  rw[d]at h;cases h
 cases h
def HE(C:mh P (Gz P fz))(Aa:uu P (Gz P fz)):p7 P (Gz P fz) xj:=
 p7.of C.tofP Z Z (λ_ _ _ h=>aeX C h) λ_ _ _ _ _ _ h=>aeY Aa h
end
section
variable{P:Program}{fz:xc}
def RQ:A:=.eK [.int .i64 (.ofNat 1),.eG 1 2 [.int .i64 (.ofNat 0),.int .i64 (.ofNat 0)] .G,.int .i64 (.ofNat 65)]
def aeZ(C:mh P (Gz P fz))(Aa:uu P (Gz P fz)):ee P (Gz P fz) 8 [L7,.ej] (.int .i64 (.ofNat 64)):=wb (HE C Aa) eU
def ae0(C:mh P (Gz P fz))(Aa:uu P (Gz P fz)):ee P (Gz P fz) 8 [L8,.ej] (.int .i64 (.ofNat 63)):=wb (HE C Aa) eU
def ae1(C:mh P (Gz P fz))(Aa:uu P (Gz P fz)):ee P (Gz P fz) 8 [L4,.ej] (.int .i64 (.ofNat 0)):=wb (HE C Aa) eU
def ae2(C:mh P (Gz P fz))(Aa:uu P (Gz P fz)):ee P (Gz P fz) 9 [L6,.ej] RQ:=wb (HE C Aa) eU
def Ma(f:Nat)(K:L A):Option A:=
 match K with
 |[v,.ej]=>cond (Nat.beq f 8) (cond (oe 60 v L7) (Y (.int .i64 (.ofNat 64))) (cond (oe 60 v L8) (Y (.int .i64 (.ofNat 63))) (cond (oe 60 v L4) (Y (.int .i64 (.ofNat 0))) J)))
  (cond (Nat.beq f 9) (cond (oe 60 v L6) (Y RQ) J) J)
 | _=>J
def hk4:oD:=⟨wa,Ma,λ_ _ _=>J,λ_=>dU,zk⟩
def ae4(C:mh P (Gz P fz))(Aa:uu P (Gz P fz))(h:Ma f K=Y r):ee P (Gz P fz) f K r:=by
 unfold Ma at h;split at h
 .rename_i v;cases h1:Nat.beq f 8
  .rw[h1]at h;simp only[jx]at h;cases h2:Nat.beq f 9
   .rw[h2]at h;cases h
   rw[h2]at h;obtain rfl:=iZ h2;simp only[gZ]at h;cases h3:oe 60 v L6
   .rw[h3]at h;cases h
   rw[h3]at h;cases h;rw[vZ h3];exact ae2 C Aa
  rw[h1]at h;obtain rfl:=iZ h1;simp only[gZ]at h;cases h2:oe 60 v L7
  .rw[h2]at h;simp only[jx]at h;cases h3:oe 60 v L8
   .rw[h3]at h;simp only[jx]at h;cases h4:oe 60 v L4
    .rw[h4]at h;cases h
    rw[h4]at h;cases h;rw[vZ h4];exact ae1 C Aa
   rw[h3]at h;cases h;rw[vZ h3];exact ae0 C Aa
  rw[h2]at h;cases h;rw[vZ h2];exact aeZ C Aa
 cases h
def ae5(C:mh P (Gz P fz))(Aa:uu P (Gz P fz)):p7 P (Gz P fz) hk4:=
 p7.of C.tofP Z Z (λ_ _ _ h=>ae4 C Aa h) λ_ _ _ _ _ _ h=>by cases h
def ae6(C:mh P (Gz P fz))(Aa:uu P (Gz P fz)):ee P (Gz P fz) 5 [] (.bool dT):=wb (ae5 C Aa) eU
end
