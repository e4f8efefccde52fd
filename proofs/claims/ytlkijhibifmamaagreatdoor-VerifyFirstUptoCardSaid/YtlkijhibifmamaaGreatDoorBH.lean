/- Lemmas. No condition. -/
import Derived.Test.YtlkijhibifmamaaGreatDoorBF
set_option linter.all false
set_option autoImplicit true
set_option relaxedAutoImplicit true
set_option maxHeartbeats 0
set_option maxRecDepth 100000
noncomputable section
open Option renaming some→Y,none→J
open Bool renaming true→dT,false→dU
open List renaming length→O
namespace Go.As
open Go.RowKit
variable{P:Program}{G:ez}
def QF(c:A)(n:Nat):O (gV [c] n)=n:=by rw[Gw];simp
def QG{c:A}{n i:Nat}(h:i<O (gV [c] n)):(gV [c] n)[i]=c:=by simp only[Gw,List.getElem_replicate]
def QH(a b c d:A):∀n,O (gV [a,b,c,d] n)=n*4
 |0=>rfl
 |n+1=>by simp only[gV,iN,QH a b c d n,lV,uH];omega
def Fl.Dy(l:Nat):∃(f:FP)(d:S->Tg),f.qC=.o (.i .h)/\∀m nx,m=hp [(.h,.dY (gV [.ej] l)),(.o .h,.dY (gV [.ej] l)),(.i .h,.dY (gV [.bool dU] l)),(.o (.o .h),.dY (gV [.int .u64 (.ofNat 0),.int .u64 (.ofNat 0),.int .u64 (.ofNat 0),.int .u64 (.ofNat 0)] l)),(.i (.o .h),.dY [.eC .h 1 0 l l dT,.eC (.o .h) 1 0 l l dT,.eC (.i .h) 1 0 l l dT,.ej,.eC (.o (.o .h)) 4 0 l l dT]),(.o (.i .h),.dY [.ea (.i (.o .h)) 0])]->
  nx=.i (.i .h)->Fl l f d m nx (List.replicate l []) (List.replicate l []) (List.replicate l dU) [] (gV [.int .u64 (.ofNat 0),.int .u64 (.ofNat 0),.int .u64 (.ofNat 0),.int .u64 (.ofNat 0)] l):=by
 classical
 refine⟨⟨.h,.o .h,.i .h,.o (.o .h),.i (.o .h),.o (.i .h)⟩,λq=>if q=.h then .Sa else if q=.o .h then .P else if q=.i .h then .R else if q=.o (.o .h)then .D else if q=.i (.o .h)then .F else if q=.o (.i .h)then .C else .x,Z,?_⟩;rintro m nx rfl rfl;refine⟨λp o t=>?_,ei,ei,ei,ei,ei,ei,Z,⟨.ej,Z,.inl ⟨Z,Z⟩⟩,⟨gV [.ej] l,Z,by rw[QF];simp,λi a b=>?_⟩,⟨gV [.ej] l,Z,by rw[QF];simp,λi a b=>?_⟩,?_,Z,ei,ei,ei,QH _ _ _ _ l⟩
 .have c:=vC t;simp only[eZ,f7,fZ,wh]at c;obtain⟨rfl,_⟩|⟨rfl,_⟩|⟨rfl,_⟩|⟨rfl,_⟩|⟨rfl,_⟩|⟨rfl,_⟩:=c<;>decide
 .rw[QG];exact⟨J,by simp only[List.getElem_replicate];exact .nil,λq e=>by cases e⟩
 .rw[QG];exact .inl ⟨Z,ei⟩
 show Y _ =Y _;rw[Gw];simp
def mZ(l B:Nat)(C:L (L Nat)):Prop:=∀s∈C,(∀x∈s,x<l)/\O s<=B
def mZ.nil{l B n:Nat}:mZ l B (List.replicate n []):=λs r=>by rw[Ch r];exact⟨λx v=>(by cases v),ei⟩
def mZ.mono{C:L (L Nat)}(h:mZ l B C)(j:B<=a):mZ l a C:=λs r=>⟨(h s r).1,ny (h s r).2 j⟩
def mZ.iW{l B i j:Nat}{C:L (L Nat)}(h:mZ l B C)(a:i<O C)(e:j<l):mZ l (B+1) (C.set i (C[i]++[j])):=λs b=>by
 obtain K|K:=zq b
 .exact⟨(h s K).1,by have:=(h s K).2;omega⟩
 subst K;have:=h _ (fB a);refine⟨λx v=>?_,by simp;omega⟩;obtain r|r:=jf.1 v
 .exact this.1 x r
 simp only[eZ,f7,fZ]at r;omega
def Dz:A->Option S
 |.eC q _ _ _ _ _=>Y q
 | _=>J
def QI{i:Nat}{tg:S->Tg}{F:T A}{m:T AO}{nx:S}{x y:IX}{s:L Nat}{ew:L A}{tk:jt}(h:(v=.ej/\s=[])\/∃q,v=.eC q 1 0 (O s) (O s) dU/\m.dZ q=Y (.dY (gM s)))(a:x.ev G F=Y v)(b:y.ev G F=Y (.eG 1 1 ew tk))(K:fN ew=dT)(E:O ew=1)(n:mU (O s+1) 8=dT):
  fA G dT F ⟨m,nx⟩ (.bi (.append 1 8) [x,y])=Y (.oK (Dz v) 1 (O s+1) (gM s++ew)):=by
 have d:Nat.beq (O ew) (1*1)=dT:=by rw[E];rfl
 obtain⟨rfl,rfl⟩|⟨q,rfl,hq⟩:=h
 .simp only[fA,fG,ko,a,b,jm,jb,iU,rm,sj,K,d,qG,gZ,nN];rw[show mU 1 8=dT from Z];rfl
 have c:Nat.ble (O s+1) (O s)=dU:=by rw[pB];intro h;rw[jS]at h;omega
 have N:cut 0 (O s*1) (gM s)=Y (gM s):=by
  have:Nat.beq (O (gM s)) (O s*1)=dT:=by rw[nr,rQ,kO]
  have e:((gM s).drop 0).take (O s*1)=gM s:=by rw[En,oG (by rw[rQ];omega)]
  simp only[cut,e,this,gZ]
 simp only[fA,fG,ko,a,b,jm,jb,iU,rm,sj,K,d,qG,gZ,nN,li,hq,qA,c,jx,n,N];rfl
def QJ{t:Option S}{n:S}{K:T AO->S->Prop}(h:∀x a,x=(sQ t m).set n (Y (.dY w))->a=n.succ->K x a):vw t m λv=>T.ir (Y (.dY w)) n v λx=>mr n λa=>K x a:=
 PW (A0 (h _ _ Z Z))
def DA{k:Nat}(h:k<O w):kK (0+k*1) [v] w=Y (w.set k v):=by
 rw[lg,kO];induction w generalizing k with
 |nil=>simp at h
 |cons c w i=>
 cases k with
 |zero=>simp[kK]
 |succ k=>simp only[kK,i (by simpa using h),jb,HU]
def abP{D:L S}{t:L Nat}{F B:Code}{m:T AO}{n:S}{K:S->L S->eM->Prop}
  (h:oM D w λFl=>∀l x a,l=n.succ->x=(m.set n (Y .fX)).set l (Y (.loop .ready J N Fl t F B n))->a=l.succ->K l [n] ⟨x,a⟩):yB J N D w t F B m n K:=by
 unfold yB;rw[wB]at h⊢;simp only[ou,T.i6];exact h _ _ _ Z Z Z
def abQ:gx:=match Pb with
 |.seq _ (.seq _ (.seq _ (.seq _ x)))=>x
 |x=>x
def abR(C:fP P G)(g:FG P G K)(hr:K r=Y (.fO d u)){good:A->Prop}
  (hrest:∀(f:FP)(tg:S->Tg)(m:T AO)(nx n1:S)(fn:A)(ss ps:L (L Nat))(ds:L A),Fl u f tg m nx ss ps (List.replicate u dU) [] ds->m.dZ n1=Y .fX->tg n1=.x->ds=gV [.int .u64 (.ofNat 0),.int .u64 (.ofNat 0),.int .u64 (.ofNat 0),.int .u64 (.ofNat 0)] u->mZ u (200*eI) ss->mZ u (200*eI) ps->
   kB P G dT J yA abQ ⟨.n (Y (.fz r 0)) (.n J .e (.n J (.n J .e (.n (Y fn) .e .e)) .e)) (.n J (.n (Y (.ea f.qC 0)) (.n J .e (.n (Y (.fz r 0)) .e .e)) .e) .e),[n1],⟨m,nx⟩⟩ (rC G YB λr H'=>∃v,kM (λ_=>True) H'.ep r v/\v.Pure/\good v)):
  ∃v,good v/\ee P G 111 [.fz r 0] v:=by
 refine gT λhM=>?_;obtain⟨o,bo,nb',vbs,bs,f0,f1,f2,f3,f4,f5,f6⟩:=g.fO hr;refine ee.Qg (C.fs.h 111) C.dW kJ (wK ?_);refine fD f0 ?_;refine fM f2 ?_;rw[iM,f3];refine abJ C f5 ?_;obtain⟨f,tg,hfC,E⟩:=Fl.Dy u;generalize em:hp _ =m;generalize en:S.i (.i .h)=nx;have E:=E m nx em.symm en.symm;rw[<-hfC];clear em en hfC;conv=>whnf
 refine fK.j7 (C.fs.h 168) (wK ?_);refine hX (o:=.dY [.fz r 0]) λm1 n1 em1 en1=>wK ?_;refine eT.range C.ey Z (C.fs.h 214) Z ?_;intro as bo has hbo;refine abP (wK ?_);intro l m2 n2 el em2 en2;refine fK.j7 (C.fs.h 214) ?_;refine Jd λt1=>?_;have tl:l.dV=nx.dV+2:=by rw[el,S.gG,t1]
 have t2:n2.dV=nx.dV+3:=by rw[en2,S.gG,tl]
 have b1:eX m1 n1:=by rw[em1,en1];exact E.eH.ew
 have b2:eX m2 n2:=by rw[em2,en2,el];exact b1.ew.ew
 have old:∀q o,m.dZ q=Y o->m2.dZ q=Y o:=λq o D=>by have:=E.eH q o D;rw[em2,eJ M,eJ M,em1,eJ M];exact D
 have gbx:m2.dZ nx=Y (.dY [.fz r 0]):=by rw[em2,eJ M,eJ M,em1];exact fY
 have gl:=gE em2;have gd:=gN em2 fY;have F2:Fl u f (upd (upd tg l .x) n1 .x) m2 n2 (List.replicate u []) (List.replicate u []) (List.replicate u dU) [] _:=
  E.jQ (λq o D _=>⟨old q o D,by have:=E.eH q o D;have h1:q≠l:=IM;have h2:q≠n1:=IM;simp[upd,h1,h2]⟩) b2 (λq o D=>by have:=E.eH q o D;have h1:q≠l:=IM;have h2:q≠n1:=IM;simp[upd,h1,h2])
 have tgl:upd (upd tg l .x) n1 .x l=.x:=by simp[upd]
 have tgd:upd (upd tg l .x) n1 .x n1=.x:=Bj;generalize upd (upd tg l .x) n1 .x=tg2 at F2 tgl tgd;generalize eds:gV [A.int .u64 (.ofNat 0),.int .u64 (.ofNat 0),.int .u64 (.ofNat 0),.int .u64 (.ofNat 0)] u=ds at F2;clear old em2 em1 E;conv=>whnf
 refine eu gbx ?_;refine fD f0 ?_;refine fM f2 ?_;refine eT.jl (λj vs m nx=>∃(k:Nat)(tg:S->Tg)(ss ps:L (L Nat)),k+j=O (fu bs)/\Fl u f tg m nx ss ps (List.replicate u dU) [] ds/\m.dZ l=Y (.loop .ready J yA (gB [T4] [.ea f.qC 0]) [26] as bo n1)/\tg l=.x/\m.dZ n1=Y .fX/\tg n1=.x/\mZ u (k*eI) ss/\mZ u (k*eI) ps/\
   vs=[.gF l,vbs,V (O (fu bs)),V k]) (O (fu bs)) Z ⟨0,tg2,_,_,M,F2,gl,tgl,gd,tgd,mZ.nil,mZ.nil,Z⟩ ?_
 rintro j vs m3 n3 ⟨k,tg3,ss,ps,hk,F3,gl3,tgl3,gd3,tgd3,hss,hps,rfl⟩;conv=>whnf
 refine eW (λh=>?_) (λh=>?_)
 .replace h:=gz h;have h':k<O bs:=by rw[iM]at h;exact h
  have hKb:=f6 _ (fB h');obtain⟨vx,⟨xs,hx,hxl,hxs⟩,fn⟩:=abE C g hKb;conv=>whnf
  refine gW f2 h ?_;refine Cf ?_;refine ee.c fn ?_;refine fM hx ?_;refine eT.jl (λj2 vs m nx=>∃(k2:Nat)(tg:S->Tg)(ss ps:L (L Nat)),k2+j2=O (fu xs)/\Fl u f tg m nx ss ps (List.replicate u dU) [] ds/\m.dZ l=Y (.loop .ready J yA (gB [T4] [.ea f.qC 0]) [26] as bo n1)/\tg l=.x/\m.dZ n1=Y .fX/\tg n1=.x/\mZ u (k*eI+k2) ss/\mZ u (k*eI+k2) ps/\
   vs=[.gF l,V k,vbs,V (O (fu bs)),V k,vx,V (O (fu xs)),V k2]) (O (fu xs)) Z ⟨0,tg3,_,_,M,F3,gl3,tgl3,gd3,tgd3,hss.mono (Nat.le_add_right _ _),hps.mono (Nat.le_add_right _ _),Z⟩ ?_
  rintro j2 vs m4 n4 ⟨k2,tg4,z,y,jp,F4,I,tgl4,gd4,tgd4,hss4,W,rfl⟩;conv=>whnf
  refine eW (λh2=>?_) (λh2=>?_)
  .replace h2:=gz h2;have h2':k2<O xs:=by rw[iM]at h2;exact h2
   obtain⟨_,⟨w,rfl,hix⟩,fi⟩:=Gs C g (hxs _ (fB h2'));conv=>whnf
   refine gW hx h2 ?_;refine sK (jO Z (mY h2')) ?_;refine ee.c fi ?_;refine jy.body C.ey has hbo I Z Z (wK ?_);refine hX (o:=.dY [V 0,V 0]) λm5 n5 em5 en5=>wK ?_;have t5:n5.dV=n4.dV+1:=by rw[en5,S.gG]
   have ll:=F4.eH _ _ I;refine sK (ip (cs':=[V k,V w]) Z Z (by rw[em5];exact fY) Z Z Z) ?_;refine gH λm6 em6=>wK ?_;have g6:m6.dZ l=Y (.loop .ready J yA (gB [T4] [.ea f.qC 0]) [26] as bo n1):=by rw[em6,em5,eJ M,eJ M];exact I
   rw[g6];conv=>whnf
   refine oV λm7 em7=>?_;have B:=F4.eH;have nl:n4≠l:=λe=>by rw[e]at B;have:=B _ _ I;omega
   have gl7:=gE em7;have nd:n1≠l:=λe=>by rw[e,I]at gd4;cases gd4
   have ndn:n1.dV≠n4.dV:=λe=>by have:=F4.eH _ _ gd4;omega
   have gd7:m7.dZ n1=Y .fX:=by rw[em7,T.gh _ _ _ _ nd,em6,eJ ndn,em5,eJ ndn];exact gd4
   have ge7:m7.dZ n4=Y (.dY [V k,V w]):=by rw[em7,eJ (λe=>nl (S.toNat_inj e)),em6];exact fY
   have F:Fl u f (upd tg4 n4 .x) m7 n5 z y (List.replicate u dU) [] ds:=by
    refine F4.jQ (λq o D hx=>⟨?_,od B D⟩) ?_ (λq o D=>od B D)
    .have:=B q o D;rw[em7,T.gh _ _ _ _ (λe=>hx (by rw[e];exact tgl4)),em6,eJ M,em5,eJ M];exact D
    rw[em7,em6,em5,en5];exact(B.ew.put (p:=n4) kP).put (p:=l) kP
   have tl7:upd tg4 n4 .x l=.x:=by simp only[upd];split;rfl;exact tgl4
   have te7:upd tg4 n4 .x n4=.x:=Bj;have td7:upd tg4 n4 .x n1=.x:=by simp only[upd];split;rfl;exact tgd4
   generalize upd tg4 n4 .x=tg7 at F tl7 te7 td7;clear em7 em6 em5 g6 B F4 I gd4 nd ndn
   let⟨sl,eS,hsl,hli⟩:=F.hS
   let⟨ov,eF,hov⟩:=F.hF
   have hC7:=F.hC;have og:k<O z:=by rw[F.lS];omega
   have U:k<O sl:=M
   obtain⟨t,hap,htg⟩:=hli k U og;have hB:k*eI+k2<=201*1048576:=by have:=Nat.mul_le_mul (show k<=200 by omega) (Nat.le_of_eq hM);omega
   refine gC ?_;have hpt:oy (0+k*1) J sl=Y sl[k]:=by simp[nG,part,U]
   have hset:∀v:A,v.cells=[v]->kK (0+k*1) v.cells sl=Y (sl.set k v):=λv hv=>by rw[hv];exact DA U
   repeat'(first|refine eu hC7 ?_|refine eu eF ?_|refine eu ge7 ?_|refine sK (lB Z eS hpt) ?_|refine sK Cc ?_|refine gI (gK _) (wK ?_)|fail)
   refine sK (nH (bytes:=8) (k:=z[k].length) hap (by rw[rQ,kO]) M Z Z Z Z (room UW UW)) ?_;refine qW λm8 n8 em8 en8=>wK ?_;have k8:∀q o,m7.dZ q=Y o->(∀i,tg7 q≠.s i)->m8.dZ q=Y o:=λq o D hx=>by rw[em8,jZ (by have:=F.eH q o D;omega) (λe=>hx k (htg q e))];exact D
   have hC8:=k8 _ _ hC7 (by rw[F.tC];intro i e;cases e);have eF8:=k8 _ _ eF (by rw[F.tF];intro i e;cases e);have eS8:=k8 _ _ eS (by rw[F.tS];intro i e;cases e);have ge8:=k8 _ _ ge7 (by rw[te7];intro i e;cases e);have gd8:=k8 _ _ gd7 (by rw[td7];intro i e;cases e);have gl8:=k8 _ _ gl7 (by rw[tl7];intro i e;cases e);repeat'(first|refine eu hC8 ?_|refine eu eF8 ?_|refine eu ge8 ?_|refine sK (lB Z eS8 hpt) ?_|refine sK Cc ?_|refine gI (gK _) (wK ?_)|fail)
   refine sK (ip (cs':=sl.set k (.eG 1 (z[k].length+1) (gM z[k]++[V w]) (.open n5))) Z Z eS8 Z Z (hset _ Z)) ?_;refine gH λm9 em9=>?_;have H:Fl u f (upd tg7 n5 (.s k)) m9 n8 (z.set k (z[k]++[w])) y (List.replicate u dU) [] ds:=by rw[em9,em8,en8];exact F.abK M eS hsl hli U og (λq e=>⟨hap.eY q e,htg q e⟩) Z
   have k9:∀q o,m8.dZ q=Y o->q≠f.qS->m9.dZ q=Y o:=λq o D hx=>by rw[em9,T.gh _ _ _ _ hx];exact D
   have tl9:upd tg7 n5 (.s k) l=.x:=(od F.eH gl7).trans tl7;have te9:upd tg7 n5 (.s k) n4=.x:=(od F.eH ge7).trans te7;have td9:upd tg7 n5 (.s k) n1=.x:=(od F.eH gd7).trans td7;have gd9:=k9 _ _ gd8 (λe=>by rw[e,F.tS]at td7;cases td7);have gl9:=k9 _ _ gl8 (λe=>by rw[e,F.tS]at tl7;cases tl7);have ge9:=k9 _ _ ge8 (λe=>by rw[e,F.tS]at te7;cases te7);have hss9:mZ u (k*eI+k2+1) (z.set k (z[k]++[w])):=hss4.iW og hix;generalize upd tg7 n5 (.s k)=Q at H tl9 te9 td9;generalize z.set k (z[k]++[w])=ss9 at H hss9;clear k8 k9 hC8 eF8 eS8 ge8 gl8 gd8 em9 em8 en8 hC7 eF eS ge7 gl7 gd7 hov hsl hli;conv=>whnf
   let⟨pl,eP,hpl,hli⟩:=H.hP
   let⟨ov,eF,hov⟩:=H.hF
   have hC9:=H.hC;have hi1:w<O y:=by rw[H.lP];omega
   have hi2:w<O pl:=M
   have hlv:=hli w hi2 hi1;refine gC ?_;have hptp:oy (0+w*1) J pl=Y pl[w]:=by simp[nG,part,hi2]
   repeat'(first|refine eu hC9 ?_|refine eu eF ?_|refine eu ge9 ?_|refine sK (lB Z eP hptp) ?_|refine sK Cc ?_|refine gI (gK _) (wK ?_)|fail)
   refine sK (QI (i:=w) (tg:=Q) (hlv.imp id λ⟨q,a,b,_⟩=>⟨q,a,b⟩) Z Z Z Z (room U7 U7)) ?_;have htg9:∀q,Dz pl[w]=Y q->Q q=.p w:=λq e=>by
    obtain⟨h,_⟩|⟨q',h,_,h3,_⟩:=hlv
    .rw[h]at e;cases e
    rw[h]at e;cases e;exact h3
   refine QJ (t:=Dz pl[w]) λm10 n10 em10 en10=>wK ?_;have N:∀q o,m9.dZ q=Y o->(∀i,Q q≠.p i)->m10.dZ q=Y o:=λq o D hx=>by rw[em10,eJ (by have:=H.eH q o D;omega),Gx (λe=>hx w (htg9 q e))];exact D
   have hC10:=N _ _ hC9 (by rw[H.tC];intro i e;cases e);have eF10:=N _ _ eF (by rw[H.tF];intro i e;cases e);have eP10:=N _ _ eP (by rw[H.tP];intro i e;cases e);have ge10:=N _ _ ge9 (by rw[te9];intro i e;cases e);have gd10:=N _ _ gd9 (by rw[td9];intro i e;cases e);have gl10:=N _ _ gl9 (by rw[tl9];intro i e;cases e);repeat'(first|refine eu hC10 ?_|refine eu eF10 ?_|refine eu ge10 ?_|refine sK (lB Z eP10 hptp) ?_|refine sK Cc ?_|refine gI (gK _) (wK ?_)|fail)
   have hset2:∀v:A,v.cells=[v]->kK (0+w*1) v.cells pl=Y (pl.set w v):=λv hv=>by rw[hv];exact DA hi2
   refine sK (ip (cs':=pl.set w (.eC n8 1 0 (y[w].length+1) (y[w].length+1) dU)) Z Z eP10 Z Z (hset2 _ Z)) ?_;refine gH λm11 R=>?_;have F11:Fl u f (upd Q n8 (.p w)) m11 n10 ss9 (y.set w (y[w]++[k])) (List.replicate u dU) [] ds:=by rw[R,em10,en10];exact H.abL eP hpl hli hi1 htg9 Z Z
   have gl11:m11.dZ l=Y (.loop .busy J yA (gB [T4] [.ea f.qC 0]) [26] as bo n1):=by rw[R,T.gh _ _ _ _ (λe=>by rw[e,H.tP]at tl9;cases tl9)];exact gl10
   have gd11:m11.dZ n1=Y .fX:=by rw[R,T.gh _ _ _ _ (λe=>by rw[e,H.tP]at td9;cases td9)];exact gd10
   have td11:upd Q n8 (.p w) n1=.x:=(od H.eH gd9).trans td9;have tl11:upd Q n8 (.p w) l=.x:=(od H.eH gl9).trans tl9;have hps11:mZ u (k*eI+k2+1) (y.set w (y[w]++[k])):=W.iW hi1 M;generalize upd Q n8 (.p w)=tg11 at F11 tl11 td11;generalize y.set w (y[w]++[k])=ps11 at F11 hps11;clear R em10 en10 N hC10 eF10 eP10 ge10 gl10 gd10;conv=>whnf
   rw[gl11];conv=>whnf
   refine gH λm12 em12=>wK ?_;have F12:Fl u f tg11 m12 n10 ss9 ps11 (List.replicate u dU) [] ds:=by rw[em12];have:=F11.keep (p:=l) (o':=.loop .ready J yA (gB [T4] [.ea f.qC 0]) [26] as bo n1);rw[tl11]at this;exact F11.jQ this (F11.eH.put (F11.eH _ _ gl11)) CA
   rw[je (by rw[iM]at h2;omega)];exact⟨Z,j2 - 1,M,k2+1,tg11,ss9,ps11,M,F12,by rw[em12];exact fY,tl11,(by rw[em12,T.gh _ _ _ _ (λe=>by rw[e,gl11]at gd11;cases gd11)];exact gd11),td11,hss9.mono (Nat.le_of_eq (wg _ _ _)),hps11.mono (Nat.le_of_eq (wg _ _ _)),Z⟩
  refine zO λh2=>?_;have hle:k*eI+k2<=(k+1)*eI:=by rw[iM]at jp;rw[zN];exact Nat.add_le_add_left M _
  rw[je (by rw[iM]at h;omega)];exact⟨Z,j - 1,M,k+1,tg4,z,y,M,F4,I,tgl4,gd4,tgd4,hss4.mono hle,W.mono hle,Z⟩
 replace h:=iK h;rw[iM]at hk h;have hle:k*eI<=200*eI:=nL _ M;conv=>whnf
 rw[gl3];conv=>whnf
 refine uA ?_;have F13:Fl u f tg3 (m3.set l J) n3 ss ps (List.replicate u dU) [] ds:=
  F3.jQ (λq o D hx=>⟨by rw[T.gh _ _ _ _ (λe=>hx (by rw[e];exact tgl3))];exact D,Z⟩) (F3.eH.put (F3.eH _ _ gl3)) CA
 exact hrest f tg3 _ n3 n1 _ ss ps ds F13 (by rw[T.gh _ _ _ _ (λe=>by rw[e,gl3]at gd3;cases gd3)];exact gd3) tgd3 eds.symm (hss.mono (by rw[show k=O bs by omega];exact nL _ M)) (hps.mono (by rw[show k=O bs by omega];exact nL _ M))
def abS:gx:=
 (.seq
 (.fO [.o T6 (.load J (.t T1)),.o T7 (.pL (.t T6)),.o T8 (.oJ 2 (.t T7)),.o T9 (.load J (.t T8)),.o T10 (.iA (.t T0)),.o T11 (.lj (.sl 1) (.t T9) (.t T10)),.n (.store 1 (.t T11) (.c (.bool dT)))])
 (.seq
  (.seq
  (.fO [.o T12 (.load J (.t T1)),.o T13 (.pL (.t T12)),.o T14 (.oJ 0 (.t T13)),.o T15 (.load J (.t T14)),.o T16 (.iA (.t T0)),.o T17 (.lj (.sl 1) (.t T15) (.t T16)),.o T18 (.load J (.t T17)),.o T19 (.bi .nO [(.t T18)]),.o T20 (.iA (.c (.int .i64 (.ofNat 0))))])
  (.block 0
   (.loop [T0,T1,T2,T18,T19,T20]
   (.seq
    (.fO [.o T21 (.gy .lss (.one .int) dU (.t T20) (.t T19))])
    (.seq
    (.cond (.t T21)
     .skip
     (.exit 0))
    (.seq
     (.block 1
     (.seq
      (.fO [.o T22 (.lj (.sl 1) (.t T18) (.t T20)),.o T23 (.load J (.t T22)),.o T5 (.iA (.t T23))])
      (.seq
      (.fO [.o T24 (.load J (.t T1)),.o T25 (.pL (.t T24)),.o T26 (.oJ 2 (.t T25)),.o T27 (.load J (.t T26)),.o T28 (.iA (.t T5)),.o T29 (.lj (.sl 1) (.t T27) (.t T28)),.o T30 (.load J (.t T29)),.o T31 (.un .not (.t T30))])
      (.cond (.t T31)
       (.fO [.o T32 (.load J (.t T2)),.o T33 (.iA (.t T5)),.o T34 (.rr (.t T32) [(.t T33)])])
       .skip))))
     (.fO [.o T35 (.gy .add (.one .int) dU (.t T20) (.c (.int .i64 (.ofNat 1)))),.o T20 (.iA (.t T35))])))))))
  (.jk [0,1,2,3,4,5,6,7,8,9,10] [0,0,2,6,14,0,32,126,255,511,1023] [.o T36 (.load J (.t T1)),.o T37 (.load J (.t T1)),.o T38 (.pL (.t T37)) dU J [1],.o T39 (.oJ 3 (.t T38)) dU J [2],.o T40 (.load J (.t T39)) dU J [3],.o T41 (.iA (.t T0)),.o T42 (.lit 1 1 [(.int .i64 (.ofNat 0))] [(0,1,(.t T41))]) dU J [5],.o T43 (.bi (.append 1 8) [(.t T40),(.t T42)]) dT J [4,6],.o T44 (.pL (.t T36)) dU J [0,0,1,2,3,4,5,6,7],.o T45 (.oJ 3 (.t T44)) dU J [8,0,1,2,3,4,5,6,7],.n (.store 1 (.t T45) (.t T43)) dU J [9,7,7,0,1,2,3,4,5,6,7]])))
def abT(C:fP P G):Has P 170 YF YG abS:=(C.fs.h 170)
def QK{F:T A}{nx:S}{x:IX}{s:L Nat}{t:Option S}(h:Ap m 1 v (gM s) t)(hx:x.ev G F=Y v):fA G dU F ⟨m,nx⟩ (.bi .nO [x])=Y (.val (.int .i64 (.ofNat (O s)))):=by
 generalize K:gM s=w at h;have o:=rQ s;cases h with
 |nil=>
  have:O s=0:=by rw[<-o,K];rfl
  rw[this];exact Eg
 |eG i w t j a=>
 have:i=O s:=by rw[K]at o;omega
 subst this;exact Eg
def QL{F:T A}{nx:S}{x y:IX}{s:L Nat}{t:Option S}{k:IntKind}(h:Ap m 1 v (gM s) t)(b:x.ev G F=Y v)(d:y.ev G F=Y (.int k z))(c:z=.ofNat j)(e:j<O s):
  fA G dU F ⟨f,nx⟩ (.lj (.sl 1) x y)=Y (.val (.fF (gM s) (j*1))):=by
 generalize K:gM s=w at h;have o:=rQ s;cases h with
 |nil=>
  have:O s=0:=by rw[<-o,K];rfl
  omega
 |eG i w t g a=>
 have:i=O s:=by rw[K]at o;omega
 subst this;exact qg b d c e
def K7{o:L Bool}(h:o[v]? =Y b):oy (0+v*1) J (o.map A.bool)=Y (.bool b):=by simp[nG,part,h]
def QM{o:L Bool}(h:v<O o):kK (0+v*1) [A.bool dT] (o.map A.bool)=Y ((o.set v dT).map A.bool):=by rw[DA (by simpa using h),List.map_set]
structure yP (nb:Nat)(f:FP)(ss ps:List (List Nat))(ds:List A)(tg:S→Tg)(rs:List Bool)(os:List Nat)(m:T AO)(L:List Nat)(tg':S→Tg)(rs':List Bool)(m':T AO)(nx':S):Prop where
 fl:Fl nb f tg' m' nx' ss ps rs' (os++L) ds
 old:∀q o,m.dZ q=some o→tg q=.x→m'.dZ q=some o∧tg' q=.x
 jQ:∀i:Nat,rs[i]? =some true→rs'[i]? =some true
 ew:∀x∈L,x<nb∧rs[x]? =some false∧rs'[x]? =some true
 all:∀i:Nat,rs'[i]? =some true→rs[i]? =some true∨i∈L
 sV:(os++L).length+rs'.count false≤os.length+rs.count false
def yP.trans{B t:L (L Nat)}{F n p:S->Tg}{s e g:L Bool}{u D:L Nat}(h:yP l f B t w F s z m u n e E y)(k:yP l f B t w n e (z++u) E D p g N d)(Q:O s=l):
  yP l f B t w F s z m (u++D) p g N d:=by
 refine⟨by rw[<-np];exact k.fl,λq o I v=>?_,λi C=>k.jQ i (h.jQ i C),λx v=>?_,λi C=>?_,by rw[<-np];exact ny k.sV h.sV⟩
 .obtain⟨a,b⟩:=h.old q o I v;exact k.old q o a b
 .obtain K|K:=jf.1 v
  .obtain⟨a,b,c⟩:=h.ew x K;exact⟨a,b,k.jQ x c⟩
  obtain⟨a,b,c⟩:=k.ew x K;refine⟨a,?_,c⟩;cases j:s[x]? with
  |none=>rw[List.getElem?_eq_none_iff]at j;omega
  |some H=>
  cases H
  .rfl
  rw[h.jQ x j]at b;cases b
 obtain K|K:=k.all i C
 .obtain r|r:=h.all i K
  .exact .inl r
  exact .inr (List.mem_append_left _ r)
 exact .inr (List.mem_append_right _ K)
def abU:∀{o:L Bool}{v:Nat},o[v]? =Y dU->(o.set v dT).count dU+1=o.count dU:=by
 intro o;induction o with
 |nil=>intro v h;simp at h
 |cons b o i=>
 intro v h;cases v with
 |zero=>
  obtain rfl:b=dU:=by simpa using h
  simp
 |succ v=>have:=i (v:=v) ly;simp only[HU,List.count_cons];omega
def abV(C:fP P G){c8:S}(hss:mZ l (200*eI) d)(hnb:l<=200):∀(u v:Nat)(tg:S->Tg)(F:L Bool)(w:L Nat)(m:T AO)(nx:S),Fl l f tg m nx d ps F w ds->m.dZ c8=Y (.dY [.func (.func 170) [] [.ea f.qC 0,.ea c8 0]])->tg c8=.x->F[v]? =Y dU->F.count dU<=u->O w+F.count dU<=l->
  ∃r H',(r=.eK []/\∃z tg' H,v∉z/\(∀(h:v<O d),∀x∈d[v],H[x]? =Y dT)/\yP l f d ps ds tg F w m (z++[v]) tg' H H'.ep H'.dX)/\eL P G 170 [.int .i64 (.ofNat v),.ea f.qC 0,.ea c8 0] ⟨m,nx⟩ λr1 H1=>r1=r/\H1=H':=by
 refine gT λhM=>?_;intro u;induction u with
 |zero=>intro v tg F w m nx _ _ _ hv hu _;have:dU∈F:=BX hv;have:=List.count_pos_iff.2 this;omega
 |succ u ih=>
 intro v tg F w m nx U g8 t8 hv hu hos;have N:v<O F:=(oY.1 hv).1;have Q:v<l:=by rw[<-U.lR];exact N
 refine eL.fj (abT C) ?_
 let⟨ov,eF,hov⟩:=U.hF
 conv=>whnf
 refine eu U.hC ?_;refine eu eF ?_;refine sK (nW Z Z Z Q) ?_;refine sK (ip Z Z U.hR Z Z (QM N)) ?_;refine gH λm1 em1=>?_;have W:Fl l f tg m1 nx d ps (F.set v dT) w ds:=by rw[em1];exact U.QE v
 have hcnt:=abU hv;generalize s:F.set v dT=rs1 at W hcnt;have g81:m1.dZ c8=Y (.dY [.func (.func 170) [] [.ea f.qC 0,.ea c8 0]]):=by rw[em1,T.gh _ _ _ _ (λe=>by rw[e,U.tR]at t8;cases t8)];exact g8
 let⟨sl,eS,hsl,hli⟩:=W.hS
 let⟨ov1,eF1,hov1⟩:=W.hF
 have hv2:v<O d:=by rw[W.lS];exact Q
 have hv1:v<O sl:=M
 obtain⟨t,hap,htg⟩:=hli v hv1 hv2;have hsv:=hss _ (fB hv2);conv=>whnf
 refine eu W.hC ?_;refine eu eF1 ?_;refine sK (nW Z Z Z Q) ?_;refine sK (lB Z eS (show oy (0+v*1) J sl=Y sl[v] by simp[nG,part,hv1])) ?_;refine sK (QK hap Z) ?_;have hB:d[v].length<=200*1048576:=by have:=hsv.2;rw[hM]at this;exact this
 have D0:yP l f d ps ds tg rs1 w m1 [] tg rs1 m1 nx:=⟨by rw[oi];exact W,λq o hq g=>⟨hq,g⟩,λi h=>h,(λx g=>by cases g),(λi B=>.inl B),ei⟩
 refine eT.jl (λj vs m' nx'=>∃(k:Nat)(tg':S->Tg)(H:L Bool)(z:L Nat),k+j=d[v].length/\yP l f d ps ds tg rs1 w m1 z tg' H m' nx'/\(∀i (h:i<d[v].length),i<k->H[d[v][i]]? =Y dT)/\vs=[V v,.ea f.qC 0,.ea c8 0,sl[v],V d[v].length,V k]) d[v].length Z ⟨0,tg,rs1,[],M,D0,(λi h h'=>M),Z⟩ ?_;rintro j vs m2 R ⟨k,p,y,z,hk,D,n,rfl⟩;conv=>whnf
 refine eW (λh=>?_) (λh=>?_)
 .replace h:=gz h;have g:d[v][k]<l:=hsv.1 _ (fB h)
  let⟨ov2,I,E⟩:=D.fl.hF
  obtain⟨b,hb⟩:∃b,y[d[v][k]]? =Y b:=⟨y[d[v][k]]'(by rw[D.fl.lR];exact g),jq _⟩;conv=>whnf
  refine sK (QL hap Z Z Z h) ?_;refine sK (jO Z (v:=V d[v][k]) (by rw[kO];exact Bf h)) ?_;refine eu D.fl.hC ?_;refine eu I ?_;refine sK (nW Z Z Z g) ?_;refine sK (lB Z D.fl.hR (K7 hb)) ?_;cases b
  .have⟨g82,t82⟩:=D.old _ _ g81 t8;obtain⟨r3,⟨m3,nx3⟩,⟨rfl,L3,tg3,rs3,_,_,D3⟩,fr⟩:=ih d[v][k] p y (w++z) m2 R D.fl g82 t82 hb (by have:=D.sV;simp only[iN]at this;omega) (by have:=D.sV;omega);conv=>whnf
   refine eu g82 ?_;refine fK.one _ _ ?_ fr;conv=>whnf
   refine iu ?_;exact⟨Z,j - 1,M,k+1,tg3,rs3,_,M,D.trans D3 W.lR,λi B hik=>(by by_cases e:i=k;subst e;exact(D3.ew _ ei).2.2;exact D3.jQ _ (n i B M)),Z⟩
  conv=>whnf
  refine iu ?_;exact⟨Z,j - 1,M,k+1,p,y,z,M,D,λi B hik=>(by by_cases e:i=k;subst e;exact hb;exact n i B M),Z⟩
 replace h:=iK h
 let⟨ov2,I,E⟩:=D.fl.hF
 have hC2:=D.fl.hC;conv=>whnf
 refine gC ?_;repeat'(first|refine eu hC2 ?_|refine eu I ?_|refine gI (gK _) (wK ?_)|fail)
 have hlo:O (w++z)<=200:=by have:=D.sV;omega
 refine sK (QI (i:=0) (tg:=p) (E.imp id λ⟨q,a,b,_⟩=>⟨q,a,b⟩) Z Z Z Z nw) ?_;have hto:∀q,Dz ov2=Y q->p q=.o:=λq e=>by
  obtain⟨h,_⟩|⟨q',h,_,h3,_⟩:=E
  .rw[h]at e;cases e
  rw[h]at e;cases e;exact h3
 refine QJ (t:=Dz ov2) λm3 nx3 em3 en3=>wK ?_;have k3:∀q o,m2.dZ q=Y o->p q≠.o->m3.dZ q=Y o:=λq o hq g=>by rw[em3,eJ (by have:=D.fl.eH q o hq;omega),Gx (λe=>g (hto q e))];exact hq
 have hC3:=k3 _ _ hC2 (by rw[D.fl.tC];intro e;cases e);have eF3:=k3 _ _ I (by rw[D.fl.tF];intro e;cases e);repeat'(first|refine eu hC3 ?_|refine eu eF3 ?_|refine gI (gK _) (wK ?_)|fail)
 refine sK (ip (cs':=[.eC f.qS 1 0 l l dT,.eC f.qP 1 0 l l dT,.eC f.qR 1 0 l l dT,.eC R 1 0 (O (w++z)+1) (O (w++z)+1) dU,.eC f.qD 4 0 l l dT]) Z Z eF3 Z Z Z) ?_;refine gH λm4 em4=>wK ?_;have F4:Fl l f (upd p R .o) m4 nx3 d ps y (w++z++[v]) ds:=by rw[em4,em3,en3];exact D.fl.abM hto Z Z
 have hvr:rs1[v]? =Y dT:=by rw[<-s];simp[N]
 refine⟨Z,z,upd p R .o,y,λhm=>?_,λ_ x g=>?_,⟨by rw[<-np];exact F4,λq o hq g=>?_,λi B=>?_,λx g=>?_,λi B=>?_,?_⟩⟩
 .have:=(D.ew v hm).2.1;rw[hvr]at this;cases this
 .obtain⟨i,B,rfl⟩:=km g;exact n i B M
 .have hqR:q≠f.qR:=λe=>by rw[e,U.tR]at g;cases g
  obtain⟨a,b⟩:=D.old q o (by rw[em1,T.gh _ _ _ _ hqR];exact hq) g;refine⟨?_,(od D.fl.eH a).trans b⟩;show m4.dZ q=Y o;rw[em4,T.gh _ _ _ _ (λe=>by rw[e,D.fl.tF]at b;cases b)];exact k3 q o a (by rw[b];intro e;cases e)
 .refine D.jQ i ?_;rw[<-s,xA];split
  .rename_i e;subst e;simp[N]
  exact B
 .obtain K|K:=jf.1 g
  .obtain⟨a,b,c⟩:=D.ew x K;refine⟨a,?_,c⟩;rw[<-s,xA]at b;split at b
   .simp at b
   exact b
  simp only[eZ,f7,fZ]at K;subst K;exact⟨Q,hv,D.jQ _ hvr⟩
 .obtain K|K:=D.all i B
  .rw[<-s,xA]at K;split at K
   .rename_i e;subst e;exact .inr ei
   exact .inl K
  exact .inr (List.mem_append_left _ K)
 have:=D.sV;simp only[iN,lV,uH]at this⊢;omega
def QN{a:Nat}(h:a<18446744073709551616):IntKind.u64.wrap (a:Int)=.ofNat a:=by have K:(a:Int)%18446744073709551616=a:=Int.emod_eq_of_lt M M;simp[IntKind.wrap,IntKind.bits,IntKind.signed,K]
def abW{a b:Nat}(c:a<18446744073709551616)(j:b<18446744073709551616):sn .and .u64 (.ofNat a) (.ofNat b)=Y (.int .u64 (.ofNat (a&&&b))):=by
 have h:a&&&b<18446744073709551616:=Nat.lt_of_le_of_lt Nat.and_le_left c;have e:(BitVec.ofInt IntKind.u64.bits (.ofNat a)&&&BitVec.ofInt IntKind.u64.bits (.ofNat b)).toNat=a&&&b:=by show(BitVec.ofInt 64 (Int.ofNat a)&&&BitVec.ofInt 64 (Int.ofNat b)).toNat=a&&&b;rw[BitVec.toNat_and,xH,xH,IF,IF,IZ,IZ,Ey c,Ey j]
 simp only[sn,e];rw[QN h]
def abX{a b:Nat}(c:a<18446744073709551616)(j:b<18446744073709551616):sn .or .u64 (.ofNat a) (.ofNat b)=Y (.int .u64 (.ofNat (a|||b))):=by
 have h:a|||b<18446744073709551616:=Nat.or_lt_two_pow (n:=64) c j;have e:(BitVec.ofInt IntKind.u64.bits (.ofNat a)|||BitVec.ofInt IntKind.u64.bits (.ofNat b)).toNat=a|||b:=by show(BitVec.ofInt 64 (Int.ofNat a)|||BitVec.ofInt 64 (Int.ofNat b)).toNat=a|||b;rw[BitVec.toNat_or,xH,xH,IF,IF,IZ,IZ,Ey c,Ey j]
 simp only[sn,e];rw[QN h]
def abY(q a:L Nat)(i:Nat):Prop:=O a=O q/\∀p (h:p<O a)(n:p<O q),a[p]=if p<i\/O q<=p+i then q[O q - 1 - p]'(by omega)else q[p]
def K9(m:T AO)(nx q:S)(dY:L A)(D:eM):Prop:=D.ep.dZ q=Y (.dY dY)/\(∀p,p≠q->D.ep.dZ p=m.dZ p)/\D.dX=nx
def abZ(C:fP P G){c:List Nat}{m:T AO}{nx q:S}(W:m.dZ q=Y (.dY (gM c)))(hl:O c<=eI)(h0:0<O c):∃r D,(r=.eK []/\K9 m nx q (gM c.reverse) D)/\eL P G 171 [.eC q 1 0 (O c) (O c) dU] ⟨m,nx⟩ λr1 t=>r1=r/\t=D:=by
 refine gT λhM=>?_;refine eL.fj (C.fs.h 171) (wK ?_);rw[qf M M];refine eT.jl (λj I x w=>∃(i f:Nat)(a:List Nat),i+j=O c/\i+f+1=O c/\i<=f+1/\abY c a i/\K9 m nx q (gM a) ⟨x,w⟩/\I=[.eC q 1 0 (O c) (O c) dU,.int .i64 (.ofNat i),.int .i64 (.ofNat f)]) (O c) Z
  ⟨0,O c - 1,c,M,M,M,⟨Z,λp h h'=>by rw[gj M]⟩,⟨W,λ_ _=>Z,Z⟩,Z⟩ ?_
 rintro j I x w ⟨i,f,a,R,U,H,b,⟨l,k,g⟩,rfl⟩;dsimp only at l k g;conv=>whnf
 refine eW (λh=>?_) (λh=>?_)
 .replace h:=gz h;have z:O a=O c:=b.1;have B:i<O a:=M
  have e:f<O a:=M
  conv=>whnf
  refine gC ?_;have d:oy (0+f*1) J (gM a)=Y (.int .i64 (.ofNat a[f])):=by rw[nG];simp only[part,lg,kO];exact Bf e
  have y:oy (0+i*1) J (gM a)=Y (.int .i64 (.ofNat a[i])):=by rw[nG];simp only[part,lg,kO];exact Bf B
  have s1:kK (0+i*1) [.int .i64 (.ofNat a[f])] (gM a)=Y (gM (a.set i a[f])):=by rw[DA (by rw[rQ];exact B)];simp[gM,List.map_set]
  have s2:kK (0+f*1) [.int .i64 (.ofNat a[i])] (gM (a.set i a[f]))=Y (gM ((a.set i a[f]).set f a[i])):=by rw[DA (by rw[rQ];simpa using e)];simp[gM,List.map_set]
  repeat'(first|refine sK Cc ?_|refine sK (lB Z l d) ?_|refine sK (lB Z l y) ?_|fail)
  refine sK (ip Z Z l Z Z s1) ?_;refine gH λm1 n=>wK ?_;have Q:=gE n;repeat'(first|refine sK Cc ?_|fail)
  refine sK (ip Z Z Q Z Z s2) ?_;refine gH λN v=>wK ?_;rw[je M,qf M M];refine⟨Z,j - 1,M,i+1,f - 1,(a.set i a[f]).set f a[i],M,M,M,?_,⟨by show N.dZ q= _;rw[v];exact fY,λp hp=>by show N.dZ p= _;rw[v,T.gh _ _ _ _ hp,n,T.gh _ _ _ _ hp];exact k p hp,g⟩,Z⟩;refine⟨by simpa using z,λp K u=>?_⟩;have hp:=b.2 p M u;have o:=b.2 i B M;have s:=b.2 f e M;rw[gj M]at o s;by_cases F:p=f
  .subst F;simp only[Eu];rw[o,gO M];congr 1;omega
  simp only[EQ (mO F)];by_cases E:p=i
  .subst E;simp only[Eu];rw[s,gO M];congr 1;omega
  simp only[EQ (mO E)];rw[hp];have:(p<i\/O c<=p+i)↔(p<i+1\/O c<=p+(i+1)):=M
  simp only[this]
 refine uJ λh=>?_;have:a=c.reverse:=by
  refine Cv (by simp[b.1]) λp K u=>?_;rw[b.2 p K (by simpa using u),List.getElem_reverse];split
  .rfl
  congr 1;have:p<O c:=by simpa using u
  omega
 rw[this]at l;exact⟨Z,l,k,g⟩
def iq(a:L Nat):L A:=a.map λw=>.int .u64 (.ofNat w)
def pX(a:L Nat):∀c∈iq a,c.Pure:=λc K=>by obtain⟨k,_,rfl⟩:=gS.1 K;exact iQ _ _
def qq(a:L Nat):Prop:=∀w∈a,w<18446744073709551616
def kH(a:L Nat)(i:Nat):L Nat:=a.set (i/64) ((a[i/64]?.getD 0)|||2^(i%64))
def Gy(c:a<18446744073709551616)(j:b<18446744073709551616):IntKind.u64.wrap ((BitVec.ofInt IntKind.u64.bits (.ofNat a)|||BitVec.ofInt IntKind.u64.bits (.ofNat b)).toNat:Int)=.ofNat (a|||b):=by have h:=abX c j;simp only[sn]at h;injection h with h;injection h
def GA(c:a<18446744073709551616)(j:b<18446744073709551616):IntKind.u64.wrap ((BitVec.ofInt IntKind.u64.bits (.ofNat a)&&&BitVec.ofInt IntKind.u64.bits (.ofNat b)).toNat:Int)=.ofNat (a&&&b):=by have h:=abW c j;simp only[sn]at h;injection h with h;injection h
def Bk{i:Nat}(h:i<64):2^i<18446744073709551616:=by have:2^i<2^64:=Nat.pow_lt_pow_right M h;simpa using this
def ab0{i:Nat}(h:i<64):xX .shl .u64 (.ofNat 1) (.ofNat i)=Y (.int .u64 (.ofNat (2^i))):=by
 have K:Nat.ble i IntKind.u64.bits=dT:=by rw[jS];show i<=64;omega
 simp only[xX,K,gZ];have r:(Int.ofNat 1*Int.ofNat (Nat.pow 2 i))=Int.ofNat (2^i):=ei
 rw[r,JY (by show 2^i<18446744073709551616;exact Bk h)]
def Lb(C:fP P G){ws:L Nat}(o:O ws=4)(N:qq ws){i:Nat}(p:i<256):ee P G 217 [.agg (iq ws),.int .i64 (.ofNat i)] (.agg (iq (kH ws i))):=by
 obtain⟨a,b,c,d,rfl⟩:∃a b c d,ws=[a,b,c,d]:=by
  match ws,o with
  |[a,b,c,d],_=>exact⟨a,b,c,d,Z⟩
 have l:=N a ei;have j:=N b ei;have K:=N c ei;have m:=N d ei;obtain⟨r,n,g⟩:=ee.fj (args:=[.agg (iq [a,b,c,d]),V i]) (good:=λr=>r=.agg (iq (kH [a,b,c,d] i))) (C.fs.h 217) C.dW TP (by
  conv=>whnf
  refine Ur λe1 e2=>?_;unfold kH;have f:i%64<64:=Nat.mod_lt _ M;generalize i%64=e at e2 f⊢;have k:jN .u64 (Int.ofNat 1*Int.ofNat (Nat.pow 2 (cond (Nat.ble e IntKind.u64.bits) e IntKind.u64.bits)))=.ofNat (2^e):=by have h:=ab0 f;simp only[xX]at h;injection h with h;injection h
  have t:i/64=0\/i/64=1\/i/64=2\/i/64=3:=M
  obtain t|t|t|t:=t
  .rw[t];conv=>whnf
   rw[e2];conv=>whnf
   rw[k,Gy l (Bk f)];exact⟨_,.j (jg (pX [a|||2^e,b,c,d])),Z⟩
  .rw[t];conv=>whnf
   rw[e2];conv=>whnf
   rw[k,Gy j (Bk f)];exact⟨_,.j (jg (pX [a,b|||2^e,c,d])),Z⟩
  .rw[t];conv=>whnf
   rw[e2];conv=>whnf
   rw[k,Gy K (Bk f)];exact⟨_,.j (jg (pX [a,b,c|||2^e,d])),Z⟩
  rw[t];conv=>whnf
  rw[e2];conv=>whnf
  rw[k,Gy m (Bk f)];exact⟨_,.j (jg (pX [a,b,c,d|||2^e])),Z⟩)
 rw[n]at g;exact g
def ab1(C:fP P G){g:L Nat}(o:O g=4){i:Nat}(j:i<256):f9 P G 113 [.agg (iq g),.int .i64 (.ofNat i)] λr=>∃b,r=.bool b:=by
 obtain⟨a,b,c,d,rfl⟩:∃a b c d,g=[a,b,c,d]:=by
  match g,o with
  |[a,b,c,d],_=>exact⟨a,b,c,d,Z⟩
 refine ee.fj (args:=[.agg (iq [a,b,c,d]),V i]) (C.fs.h 113) C.dW TP (wK ?_);refine Ur λe1 e2=>?_;have f:i%64<64:=Nat.mod_lt _ M;generalize i%64=e at e2 f⊢;have t:i/64=0\/i/64=1\/i/64=2\/i/64=3:=M
 obtain t|t|t|t:=t
 .skip
  exact ID
 .skip
  exact ID
 .skip
  exact ID
 skip
 exact ID
def oS(s q:L Nat):L Nat:=List.zipWith (·&&&·) s q
def ab2(C:fP P G){s q:L Nat}(z:O s=4)(u:O q=4)(v:qq s)(t:qq q):ee P G 218 [.agg (iq s),.agg (iq q)] (.agg (iq (oS s q))):=by
 obtain⟨a,b,c,d,rfl⟩:∃a b c d,s=[a,b,c,d]:=by
  match s,z with
  |[a,b,c,d],_=>exact⟨a,b,c,d,Z⟩
 obtain⟨F,e,B,l,rfl⟩:∃a b c d,q=[a,b,c,d]:=by
  match q,u with
  |[a,b,c,d],_=>exact⟨a,b,c,d,Z⟩
 have D:=GA (v a ei) (t F ei);have R:=GA (v b ei) (t e ei);have E:=GA (v c ei) (t B ei);have H:=GA (v d ei) (t l ei);obtain⟨r,n,g⟩:=ee.fj (args:=[.agg (iq [a,b,c,d]),.agg (iq [F,e,B,l])]) (good:=λr=>r=.agg (iq (oS [a,b,c,d] [F,e,B,l]))) (C.fs.h 218) C.dW (by intro x v;simp only[eZ,f7,fZ]at v;obtain rfl|rfl:=v<;>exact jg (pX _)) (by
  conv=>whnf
  refine eT.jz C.dW (.o (.o .h)) (λj w m=>∃(k:Nat)(y:L Nat),k+j=4/\y=((oS [a,b,c,d] [F,e,B,l]).take k++[a,b,c,d].drop k)/\w=[.ea .h 0,.ea (.i .h) 0,.agg (iq [F,e,B,l]),V k]/\m=hp [(.h,.dY (iq y)),(.o .h,.dY (iq [F,e,B,l])),(.i .h,.dY (iq [0,0,0,0]))]) 4 Z ⟨0,_,M,Z,Z,Z⟩ Z ei Z ?_;rintro j w m ⟨k,y,p,f,rfl,rfl⟩
  match k,p,f with
  |0,p,f=>
   subst f;conv=>whnf
   rw[D];exact⟨Z,.iC [(.h,.dY (iq [a&&&F,b,c,d])),(.o .h,.dY (iq [F,e,B,l])),(.i .h,.dY (iq [0,0,0,0]))] [.ea .h 0,.ea (.i .h) 0,.agg (iq [F,e,B,l]),V 1] ⟨3,M,1,_,Z,Z,Z,Z⟩ IY ⟨⟨eV Z,fH Z (jB (pX [a&&&F,b,c,d]))⟩,Iq,IN,eR⟩⟩
  |1,p,f=>
   subst f;conv=>whnf
   rw[R];exact⟨Z,.iC [(.h,.dY (iq [a&&&F,b&&&e,c,d])),(.o .h,.dY (iq [F,e,B,l])),(.i .h,.dY (iq [0,0,0,0]))] [.ea .h 0,.ea (.i .h) 0,.agg (iq [F,e,B,l]),V 2] ⟨2,M,2,_,Z,Z,Z,Z⟩ IY ⟨⟨eV Z,fH Z (jB (pX [a&&&F,b&&&e,c,d]))⟩,Iq,IN,eR⟩⟩
  |2,p,f=>
   subst f;conv=>whnf
   rw[E];exact⟨Z,.iC [(.h,.dY (iq [a&&&F,b&&&e,c&&&B,d])),(.o .h,.dY (iq [F,e,B,l])),(.i .h,.dY (iq [0,0,0,0]))] [.ea .h 0,.ea (.i .h) 0,.agg (iq [F,e,B,l]),V 3] ⟨1,M,3,_,Z,Z,Z,Z⟩ IY ⟨⟨eV Z,fH Z (jB (pX [a&&&F,b&&&e,c&&&B,d]))⟩,Iq,IN,eR⟩⟩
  |3,p,f=>
   subst f;conv=>whnf
   rw[H];exact⟨Z,.iC [(.h,.dY (iq [a&&&F,b&&&e,c&&&B,d&&&l])),(.o .h,.dY (iq [F,e,B,l])),(.i .h,.dY (iq [0,0,0,0]))] [.ea .h 0,.ea (.i .h) 0,.agg (iq [F,e,B,l]),V 4] ⟨0,M,4,_,Z,Z,Z,Z⟩ IY ⟨⟨eV Z,fH Z (jB (pX [a&&&F,b&&&e,c&&&B,d&&&l]))⟩,Iq,IN,eR⟩⟩
  |4,p,f=>
   subst f;conv=>whnf
   exact⟨_,.j (jg (pX (oS [a,b,c,d] [F,e,B,l]))),Z⟩
  |k+5,p,_=>omega)
 rw[n]at g;exact g
def wd(a:L Nat)(k:Nat):Nat:=a[k]?.getD 0
def kh(a b:L Nat):Prop:=∀k t,(wd a k).testBit t=dT->(wd b k).testBit t=dT
def kh.refl(a:L Nat):kh a a:=λ_ _ h=>h
def kh.trans{a b c:L Nat}(h:kh a b)(k:kh b c):kh a c:=λi t e=>k i t (h i t e)
def Lc(h:O a=O b)(k:Nat):wd (oS a b) k=wd a k&&&wd b k:=by
 unfold wd oS;by_cases P:k<O a
 .have jp:k<O b:=M
  rw[List.getElem?_zipWith,jq P,jq jp];rfl
 rw[Ie (by simp[List.length_zipWith];omega),Ie (by omega:O a<=k)];simp
def DB(h:O a=O b):O (oS a b)=O a:=by simp[oS,List.length_zipWith];omega
def kh.ab3(h:O a=O b):kh (oS a b) a:=λk t e=>by rw[Lc h,Nat.testBit_and,jC]at e;exact e.1
def kh.and{a b c d:L Nat}(h:O a=O b)(n:O c=O d)(f:kh a c)(j:kh b d):kh (oS a b) (oS c d):=λk t e=>by rw[Lc h,Nat.testBit_and,jC]at e;rw[Lc n,Nat.testBit_and,jC];exact⟨f k t e.1,j k t e.2⟩
def DC{i:Nat}:O (kH a i)=O a:=by simp[kH]
def DE(o:O a=4){i:Nat}(C:i<256)(k:Nat):wd (kH a i) k=if k=i/64 then wd a k|||2^(i%64)else wd a k:=by
 unfold wd kH;rw[xA];by_cases P:i/64=k
 .subst P;rw[gO Z,gO M,gO Z];rfl
 rw[gj P,gj (λe=>P e.symm)]
def kh.ab4(o:O a=4){i:Nat}(C:i<256):kh a (kH a i):=λk t e=>by
 rw[DE o C];split
 .rw[xv,e];rfl
 exact e
def kh.with(o:O a=4)(c:O b=4){i:Nat}(C:i<256)(h:kh a b):kh (kH a i) (kH b i):=λk t e=>by
 rw[DE o C]at e;rw[DE c C];split at e
 .rw[gO ‹_›];rw[xv,ux]at e⊢;exact e.imp (h k t) id
 rw[gj ‹_›];exact h k t e
def uh(i:Nat)(a:L Nat):Prop:=(wd a (i/64)).testBit (i%64)=dT
def uh.with(o:O a=4){i:Nat}(C:i<256):uh i (kH a i):=by unfold uh;rw[DE o C,gO Z,xv,Nat.testBit_two_pow_self];simp
def uh.mono{i:Nat}(h:uh i a)(r:kh a b):uh i b:=r _ _ h
def kh.in(o:O a=4){i:Nat}(C:i<256)(h:kh a b)(j:uh i b):kh (kH a i) b:=λk t e=>by
 rw[DE o C]at e;split at e
 .rename_i P;subst P;rw[xv,ux,Nat.testBit_two_pow]at e;obtain e|e:=e
  .exact h _ t e
  obtain rfl:=j0 e;exact j
 exact h k t e
def ab5{x y:Nat}(h:∀t,x.testBit t=dT->y.testBit t=dT):x<=y:=by
 have:x&&&y=x:=Nat.eq_of_testBit_eq λt=>by
  rw[Nat.testBit_and];cases hx:x.testBit t
  .rfl
  rw[h t hx];rfl
 rw[<-this];exact Nat.and_le_right
def kh.le(h:kh a b)(k:Nat):wd a k<=wd b k:=ab5 (h k)
def vQ(a:L Nat):Nat:=wd a 0+wd a 1+wd a 2+wd a 3
def ab6(c:O a=4)(j:O b=4)(h:∀k,k<4->wd a k=wd b k):a=b:=by refine Cv M λk K r=>?_;have:=h k M;simp only[wd,jq K,jq r,rd]at this;exact this
def kh.val(d:O a=4)(j:O b=4)(h:kh a b)(y:a≠b):vQ a<vQ b:=by
 have c:=h.le 0;have K:=h.le 1;have r:=h.le 2;have m:=h.le 3;by_cases F:vQ a=vQ b
 .exact absurd (ab6 d j λk P=>by
   unfold vQ at F
   match k,P with
   |0,_=>omega
   |1,_=>omega
   |2,_=>omega
   |3,_=>omega) y
 unfold vQ at F⊢;omega
def pY(a:L (L Nat))(o:L Bool):L Nat->L Nat->L Nat
 |s,[]=>s
 |s,p::l=>pY a o (match o[p]? with|some true=>oS s (a[p]?.getD [])| _=>s) l
def qr(s:L (L Nat)):Prop:=∀a∈s,O a=4
def GB(a s:L (L Nat)):Prop:=O a=O s/\∀(i:Nat)(h:i<O a)(n:i<O s),kh a[i] s[i]
def Ld{rs:L Bool}(E:qr a):∀{l:L Nat}{s:L Nat},(∀p∈l,p<O a)->O s=4->O (pY a rs s l)=4:=by
 intro l;induction l with
 |nil=>intro s _ h;exact h
 |cons p l i=>
 intro s o r;refine i ET ?_;split
 .have hp:=o p ei;rw[jq hp,rd,DB (by rw[r,E _ (fB hp)])];exact r
 exact r
def ab7{c:L Bool}(E:qr a):∀{l:L Nat}{s:L Nat},(∀p∈l,p<O a)->O s=4->kh (pY a c s l) s:=by
 intro l;induction l with
 |nil=>intro s _ h;exact .refl _
 |cons p l i=>
 intro s o r;have hp:=o p ei;have b:=E _ (fB hp);simp only[pY];split
 .have e:a[p]?.getD []=a[p]:=by rw[jq hp,rd]
  rw[e];exact(i ET (by rw[DB M];exact r)).trans (.ab3 M)
 exact i ET r
def ab8{n:L Bool}(E:qr d)(g:qr b)(a:GB b d):∀{l:L Nat}{s j:L Nat},(∀p∈l,p<O d)->O s=4->O j=4->kh j s->kh (pY b n j l) (pY d n s l):=by
 intro l;induction l with
 |nil=>intro s j _ _ _ h;exact h
 |cons p l i=>
 intro s j o r f h;have hp:=o p ei;have c:p<O b:=by rw[a.1];exact hp
 have u:=E _ (fB hp);have m:=g _ (fB c);simp only[pY];split
 .have e:d[p]?.getD []=d[p]:=by rw[jq hp,rd]
  have k:b[p]?.getD []=b[p]:=by rw[jq c,rd]
  rw[e,k];exact i ET (by rw[DB M];exact r) (by rw[DB M];exact f) (.and M M h (a.2 p c hp))
 exact i ET r f h
def yQ(s:L (L Nat)):Nat:=(s.map vQ).sum
def ab9:∀{s:L (L Nat)}{i:Nat}{a:L Nat}(h:i<O s),vQ a<vQ s[i]->yQ (s.set i a)<yQ s:=by
 intro s;induction s with
 |nil=>intro i a h;simp at h
 |cons b s d=>
 intro i a h c;cases i with
 |zero=>simp[yQ]at c⊢;exact c
 |succ i=>have:=d (i:=i) (a:=a) ly Jf;simp only[yQ,HU,jL,List.sum_cons]at this⊢;omega
def GB.set{s:L (L Nat)}{i:Nat}(h:i<O s)(r:kh a s[i]):GB (s.set i a) s:=⟨ei,λk K b=>by
 rw[List.getElem_set];split
 .rename_i e;subst e;exact r
 exact .refl _⟩
def kY:L (L Nat)->L A
 |[]=>[]
 |a::l=>iq a++kY l
def nI(a:L Nat):O (iq a)=O a:=by simp[iq]
def QO:∀{s:L (L Nat)},qr s->O (kY s)=O s*4:=by
 intro s;induction s with
 |nil=>intro _;rfl
 |cons a s i=>intro h;rw[kY,iN,nI,h a (by simp),i λb j=>h b (by simp[j])];simp only[lV];omega
def aca:∀{s:L (L Nat)}{k:Nat},qr s->(h:k<O s)->(kY s).drop (k*4)=iq s[k]++kY (s.drop (k+1)):=by
 intro s;induction s with
 |nil=>intro k _ h;simp at h
 |cons a s i=>
 intro k E d;cases k with
 |zero=>simp[kY]
 |succ k=>
 have c:=E a ei;have e:(k+1)*4=O (iq a)+k*4:=by rw[nI,c];omega
 rw[kY,e,List.drop_append,zC M,uz];simp only[Nat.add_sub_cancel_left];rw[i (λb j=>E b (by simp[j])) (by simpa using d)];rfl
def Le{s:L (L Nat)}{k:Nat}(E:qr s)(h:k<O s):oy (0+k*4) (Y 4) (kY s)=Y (.agg (iq s[k])):=by
 have o:O (iq s[k])=4:=by rw[nI];exact E _ (fB h)
 rw[nG,lg];simp only[part,cut,aca E h];rw[List.take_left' o,o];rfl
def acb:∀(a:L A){n:Nat}{ew w:L A}{x:L A},kK n ew w=Y x->kK (O a+n) ew (a++w)=Y (a++x):=by
 intro a;induction a with
 |nil=>intro n ew w x h;simpa using h
 |cons v a i=>
 intro n ew w x h;have e:O (v::a)+n=(O a+n)+1:=by simp;omega
 rw[e];simp only[rW,kK,i h,jb]
def QP:∀{ew i cs:L A},O ew=O i->kK 0 ew (i++cs)=Y (ew++cs):=by
 intro ew;induction ew with
 |nil=>intro i cs h;obtain rfl:i=[]:=pG (by simpa using h.symm);cases cs<;>rfl
 |cons v ew a=>
 intro i cs h;cases i with
 |nil=>simp at h
 |cons o i=>simp only[rW,kK,a (by simpa using h),jb]
def Lf:∀{s:L (L Nat)}{k:Nat}{w:L Nat},qr s->O w=4->k<O s->kK (0+k*4) (iq w) (kY s)=Y (kY (s.set k w)):=by
 intro s;induction s with
 |nil=>intro k w _ _ h;simp at h
 |cons a s i=>
 intro k w E N d;have c:=E a ei;cases k with
 |zero=>rw[Nat.zero_mul];exact QP (by rw[nI,nI];omega)
 |succ k=>
 have:=i (k:=k) (w:=w) (λb j=>E b (by simp[j])) N zZ;rw[lg]at this⊢;have e:(k+1)*4=O (iq a)+k*4:=by rw[nI,c];omega
 rw[e];exact acb _ this
def qr.set{s:L (L Nat)}{k:Nat}(h:qr s)(N:O w=4):qr (s.set k w):=λa b=>by
 obtain K|K:=zq b
 .exact h a K
 rw[K];exact N
def pZ(m:T AO)(D:S)(v:A)(s:L Nat):Prop:=(v=.ej/\s=[])\/(∃q b a,q≠D/\v=.eC q 1 b (O s) (O s) dU/\m.dZ q=Y (.dY a)/\a.drop b=gM s/\b<=O a)\/∃t,v=.eG 1 (O s) (gM s) t
def pZ.mono{m m':T AO}{D:S}{s:L Nat}(h:pZ m D v s)(f:∀q o,m.dZ q=Y o->q≠D->m'.dZ q=Y o):pZ m' D v s:=by
 obtain h|⟨q,b,c,K,r,a,E⟩|h:=h
 .exact .inl h
 .exact .inr (.inl ⟨q,b,c,K,r,f q _ a K,E⟩)
 exact .inr (.inr h)
def GD{dY:Bool}{F:T A}{D:S}{x:IX}{s:L Nat}(h:pZ m D v s)(a:x.ev G F=Y v):fA G dY F H (.bi .nO [x])=Y (.val (.int .i64 (.ofNat (O s)))):=by obtain⟨rfl,rfl⟩|⟨q,b,c,_,rfl,_,_⟩|⟨t,rfl⟩:=h<;>simp[fA,fG,ko,a,iU]
def GE{D:S}{s:L Nat}(h:pZ m D v s)(e:j<O s):∃a,(∀(dY:Bool)(F:T A)(H:eM)(x y:IX)(k:IntKind),x.ev G F=Y v->y.ev G F=Y (.int k (.ofNat j))->fA G dY F H (.lj (.sl 1) x y)=Y (.val a))/\
  ∀(dY:Bool)(F:T A)(d:T AO)(nx:S)(x:IX),(∀q o,m.dZ q=Y o->q≠D->d.dZ q=Y o)->x.ev G F=Y a->fA G dY F ⟨d,nx⟩ (.load J x)=Y (.val (.int .i64 (.ofNat s[j]))):=by
 obtain⟨rfl,rfl⟩|⟨q,b,i,K,rfl,h3,h4⟩|⟨t,rfl⟩:=h
 .simp at e
 .refine⟨.ea q (b+j*1),λdY F H x y k c g=>nW c g Z e,λdY F d nx x f c=>lB c (f q _ h3 K) ?_⟩;rw[nG,kO];have:=Bf e;rw[<-h4.1,Em]at this;exact this
 refine⟨.fF (gM s) (j*1),λdY F H x y k c g=>qg c g Z e,λdY F d nx x f c=>jO c ?_⟩;rw[kO];exact Bf e
def acc{D:S}{o:Nat}{s:L Nat}(h:pZ m D v (o::s))(E:∀q b n c e,v=.eC q 1 b n c e->s≠[]):∃j,pZ m D j s/\∀(dY:Bool)(F:T A)(H:eM)(x y:IX)(k:IntKind),x.ev G F=Y v->y.ev G F=Y (.int k (.ofNat 1))->fA G dY F H (.slice (.sl 1) x (Y y) J J)=Y (.val j):=by
 have d:Nat.ble 1 (O s+1)=dT:=by rw[jS];omega
 obtain⟨_,h⟩|⟨q,b,r,K,rfl,h3,h4⟩|⟨t,rfl⟩:=h
 .cases h
 .have f:=E _ _ _ _ _ Z;have p:Nat.beq (O s+1) 1=dU:=by
   cases s with
   |nil=>exact absurd Z f
   |cons a l=>rfl
  refine⟨.eC q 1 (b+1) (O s) (O s) dU,.inr (.inl ⟨q,b+1,r,K,Z,h3,?_⟩),λdY F H x y k g i=>?_⟩
  .refine⟨by rw[<-List.drop_drop,h4.1];rfl,?_⟩;have:=fW O h4.1;rw[oI,rQ]at this;simp only[lV]at this;omega
  simp[fA,fG,g,i,pJ,pI,lG,pK,d,p]
 refine⟨.eG 1 (O s) (gM s) (tE 1 (O s+1) (O s+1) dU t),.inr (.inr ⟨_,Z⟩),λdY F H x y k g i=>?_⟩;have N:(gM (o::s)).tail.take (O s)=gM s:=by show(gM s).take (O s)=gM s;exact oG (by rw[rQ];omega)
 simp[fA,fG,g,i,pJ,pI,lG,pK,d,N]
def qq.with{i:Nat}(h:qq a)(o:O a=4)(C:i<256):qq (kH a i):=λw N=>by
 obtain K|K:=zq N
 .exact h w K
 subst K;have t:i/64<O a:=M
 rw[jq t,rd];exact Nat.or_lt_two_pow (n:=64) (h _ (fB t)) (Bk (Nat.mod_lt _ M))
def qq.and(h:qq a):qq (oS a b):=λw N=>by obtain⟨i,C,rfl⟩:=km N;simp only[oS,List.length_zipWith]at C;simp only[oS,List.getElem_zipWith];exact Nat.lt_of_le_of_lt Nat.and_le_left (h _ (fB M))
def yR(a:L Nat):fN (iq a)=dT:=Dj λx v=>by obtain⟨k,_,rfl⟩:=gS.1 v;rfl
def GF{ew i:L A}(h:O ew=O i):kK 0 ew i=Y ew:=by have:=QP (cs:=[]) h;simpa using this
def yS(h:O a=4):oy 0 (Y 4) (iq a)=Y (.agg (iq a)):=by
 have o:O (iq a)=4:=by rw[nI];exact h
 rw[nG];simp only[part,cut,En];rw[oG M,o];rfl
def acd(K:O f=4)(r:O w=4):∃j:Bool,(j=dT->f≠w)/\∀(dY:Bool)(F:T A)(H:eM)(x y:IX),x.ev G F=Y (.agg (iq f))->y.ev G F=Y (.agg (iq w))->fA G dY F H (.gy .neq (.struct [(0,.int),(1,.int),(2,.int),(3,.int)]) dU x y)=Y (.val (.bool j)):=by
 obtain⟨a,b,c,d,rfl⟩:∃a b c d,f=[a,b,c,d]:=by
  match f,K with
  |[a,b,c,d],_=>exact⟨a,b,c,d,Z⟩
 obtain⟨g,i,B,m,rfl⟩:∃a b c d,w=[a,b,c,d]:=by
  match w,r with
  |[a,b,c,d],_=>exact⟨a,b,c,d,Z⟩
 have k:∀H:eM,lF G H (iq [a,b,c,d]) (iq [g,i,B,m]) [(0,.int),(1,.int),(2,.int),(3,.int)]=Y (Nat.beq a g&&Nat.beq b i&&Nat.beq c B&&Nat.beq d m):=λH=>by have e:∀x y:Nat,jj G H dU .int (.int .u64 (.ofNat x)) (.int .u64 (.ofNat y))=Y (Nat.beq x y):=λx y=>Z;simp only[iq,List.map,lF,EH,EB,e,jm];cases Nat.beq a g<;>cases Nat.beq b i<;>cases Nat.beq c B<;>cases Nat.beq d m<;>rfl
 refine⟨!(Nat.beq a g&&Nat.beq b i&&Nat.beq c B&&Nat.beq d m),λh e=>?_,λdY F H x y v l=>?_⟩
 .cases e;simp at h
 simp only[fA,fG,v,l,jm,o6,nM,k,jb]
structure Dm (nb:Nat)(f:FP)(m:T AO)(nx:S)(ov:A)(pl:List A)(ps:List (List Nat))(rs:List Bool)(os:List Nat)(dl:List (List Nat)):Prop where
 eH:eX m nx
 hF:m.dZ f.qF=some (.dY [.eC f.qS 1 0 nb nb true,.eC f.qP 1 0 nb nb true,.eC f.qR 1 0 nb nb true,ov,.eC f.qD 4 0 nb nb true])
 hP:m.dZ f.qP=some (.dY pl)
 hR:m.dZ f.qR=some (.dY (rs.map .bool))
 hD:m.dZ f.qD=some (.dY (kY dl))
 kZ:pZ m f.qD ov os
 DG:∀i (h:i<pl.length)(h':i<ps.length),pZ m f.qD pl[i] ps[i]
 lP:pl.length=nb
 lQ:ps.length=nb
 lR:rs.length=nb
 lD:dl.length=nb
 mG:qr dl
 Bl:∀a∈dl,qq a
 nF:f.qF≠f.qD
 nP:f.qP≠f.qD
 nR:f.qR≠f.qD
def Dm.jQ{m m':T AO}{nx nx':S}{n:A}{p:L A}{t:L (L Nat)}{k:L Nat}{s c:L (L Nat)}(h:Dm l f m nx n p t r k s)(j:eX m' nx')(e:∀q o,m.dZ q=Y o->q≠f.qD->m'.dZ q=Y o)(u:m'.dZ f.qD=Y (.dY (kY c)))(v:O c=l)(d:qr c)(g:∀a∈c,qq a):Dm l f m' nx' n p t r k c:=
 ⟨j,e _ _ h.hF h.nF,e _ _ h.hP h.nP,e _ _ h.hR h.nR,u,h.kZ.mono e,λi a b=>(h.DG i a b).mono e,h.lP,h.lQ,h.lR,v,d,g,h.nF,h.nP,h.nR⟩
def Dm.ew{m x:T AO}{nx w:S}{c:A}{t:L (L Nat)}{e:L Bool}{s:L (L Nat)}(h:Dm l f m nx c d t e b s)(j:eX x w)(a:∀q o,m.dZ q=Y o->x.dZ q=Y o):Dm l f x w c d t e b s:=
 h.jQ j (λq o g _=>a q o g) (a _ _ h.hD) h.lD h.mG h.Bl
def QQ(C:fP P G){nx:S}(d0:Dm nb f m nx ov pl z rs (0::d) dl0)(hnb:nb<=200)(h1:1<=nb)(htl:∀x∈d,x<nb/\x≠0)(hlen:O d<=200)(hps:mZ nb (200*eI) z)
  (hn:∀q off n c e,ov=.eC q 1 off n c e->d≠[]):∃r H',(r=.eK []/\∃v,Dm nb f H'.ep H'.dX ov pl z rs (0::d) v/\∀q o,m.dZ q=Y o->q≠f.qD->H'.ep.dZ q=Y o)/\eL P G 172 [.ea f.qF 0] ⟨m,nx⟩ λr1 H1=>r1=r/\H1=H':=by
 refine gT λhM=>?_;refine eL.fj (C.fs.h 172) (wK ?_);refine hX (o:=.dY (iq [0,0,0,0])) λm1 n1 em1 en1=>wK ?_;have b1:eX m1 n1:=by rw[em1,en1];exact d0.eH.ew
 have old1:∀q o,m.dZ q=Y o->m1.dZ q=Y o:=λq o t=>by rw[em1,eJ (by have:=d0.eH q o t;omega)];exact t
 have d1:=d0.ew b1 old1;have hnx:∀q o,m.dZ q=Y o->q≠nx:=λq o t e=>by have:=d0.eH q o t;rw[e]at this;omega
 have g1:=gE em1;clear em1;refine eu d1.hF ?_;refine sK (GD d1.kZ Z) ?_;refine eT.jl (λj vs m' nx'=>∃(k:Nat)(ws:L Nat),k+j=O (0::d)/\Dm nb f m' nx' ov pl z rs (0::d) dl0/\(∀q o,m.dZ q=Y o->m'.dZ q=Y o)/\m'.dZ nx=Y (.dY (iq ws))/\O ws=4/\qq ws/\(∀i (h:i<O (0::d)),i<k->uh (0::d)[i] ws)/\
   vs=[.ea f.qF 0,.ea nx 0,ov,V (O (0::d)),V k]) (O (0::d)) Z ⟨0,[0,0,0,0],M,d1,old1,g1,Z,MQ,(λi h h'=>M),Z⟩ ?_
 have hos:∀i (h:i<O (0::d)),(0::d)[i]<nb:=λi h=>by
  have:=fB h;obtain e|e:=eZ.1 this
  .rw[e];omega
  exact(htl _ e).1
 rintro j vs m2 n2 ⟨k,ws,hk,u,D,g2,g,hw64,hin,rfl⟩;have hlc:O (0::d)<=201:=by simp;omega
 conv=>whnf
 refine eW (λh=>?_) (λh=>?_)
 .replace h:=gz h;obtain⟨a,ha1,ha2⟩:=GE u.kZ h;have H:=hos k h;generalize hbk:(0::d)[k]=b at ha2 H;refine M1 ?_;refine sK (lB Z g2 (yS g)) ?_;refine ee.c (Lb C g hw64 (show b<256 by omega)) ?_;refine sK (ip Z Z g2 (by show Nat.beq (O (iq (kH ws b))) 4=dT;rw[nI,DC,g];rfl) (yR _) (GF (by rw[A.cells,nI,nI,DC]))) ?_;refine gH λm3 R=>wK ?_;refine iu ?_;have l:∀q o,m.dZ q=Y o->m3.dZ q=Y o:=λq o t=>by rw[R,T.gh _ _ _ _ (hnx q o t)];exact D q o t
  have b3:eX m3 n2:=by rw[R];exact u.eH.put (u.eH _ _ g2)
  refine⟨Z,j - 1,M,k+1,kH ws b,M,d0.ew b3 l,l,by rw[R];exact fY,by rw[DC];exact g,hw64.with g M,λi hi hik=>?_,Z⟩;by_cases e:i=k
  .subst e;rw[hbk];exact uh.with g M
  exact(hin i hi M).mono (.ab4 g M)
 replace h:=iK h;have hin2:∀b∈0::d,uh b ws:=λb H=>by obtain⟨i,hi,rfl⟩:=km H;exact hin i hi M
 clear hin hk;have hnD:nx≠f.qD:=λe=>hnx _ _ d0.hD e.symm;conv=>whnf
 refine eu u.hF ?_;refine sK (GD u.kZ Z) ?_;refine eT.jl (λj vs m' nx'=>∃(k:Nat)(v:L (L Nat)),k+j=O (0::d)/\Dm nb f m' nx' ov pl z rs (0::d) v/\(∀q o,m.dZ q=Y o->q≠f.qD->m'.dZ q=Y o)/\m'.dZ nx=Y (.dY (iq ws))/\(∀i (h:i<O (0::d)),i<k->v[(0::d)[i]]? =Y ws)/\
  vs=[.ea f.qF 0,.ea nx 0,ov,V (O (0::d)),V k]) (O (0::d)) Z ⟨0,dl0,M,u,(λq o t _=>D q o t),g2,(λi h h'=>M),Z⟩ ?_
 clear u D g2 g1 d1 old1;rintro j vs m2 n2 ⟨k,v,hk,u,D,g2,hall,rfl⟩;conv=>whnf
 refine eW (λh2=>?_) (λh2=>?_)
 .replace h2:=gz h2;obtain⟨a,ha1,ha2⟩:=GE u.kZ h2;have H:=hos k h2;generalize hbk:(0::d)[k]=b at ha2 H;have B:b<O v:=by rw[u.lD];exact H
  refine M1 ?_;refine gC ?_;repeat'(first|refine eu u.hF ?_|refine sK (lB Z g2 (yS g)) ?_|refine sK (nW Z Z Z H) ?_|refine gI (gK _) (wK ?_)|fail)
  refine sK (ip Z Z u.hD Vb (yR _) (Lf u.mG g B)) ?_;refine gH λm3 R=>wK ?_;refine iu ?_;refine TC λg3 l=>?_;have d3:=u.jQ (m':=m3) (nx':=n2) (by rw[R];exact u.eH.put (u.eH _ _ u.hD)) l g3 (by rw[xu];exact u.lD) (u.mG.set g) (λc hc=>by obtain e|e:=zq hc;exact u.Bl c e;rw[e];exact hw64);refine⟨Z,j - 1,M,k+1,_,M,d3,λq o t hx=>l q o (D q o t hx) hx,l _ _ g2 hnD,λi hi hik=>?_,Z⟩;rw[xA];by_cases e:b=(0::d)[i]
  .rw[gO e,gO B]
  rw[gj e];by_cases e2:i=k
  .subst e2;exact absurd hbk.symm e
  exact zx
 replace h2:=iK h2;have hall2:∀b∈d,v[b]? =Y ws:=λb H=>by obtain⟨i,hi,rfl⟩:=km H;exact hall (i+1) zS (by simp only[lV]at hk h2⊢;omega)
 clear hall hk;have h0l:0<O v:=by rw[u.lD];omega
 conv=>whnf
 refine gC ?_;have fw0:=Lb C (ws:=[0,0,0,0]) Z MQ (show 0<256 by omega);have hz4:O (kH [0,0,0,0] 0)=4:=by rw[DC];rfl
 repeat'(first|refine eu u.hF ?_|refine ee.c fw0 ?_|refine sK (nW Z Z (show Int.ofNat 0=Int.ofNat 0 from Z) (show 0<nb by omega)) ?_|refine gI (gK _) (wK ?_)|fail)
 refine sK (ip Z Z u.hD (by show Nat.beq (O (iq _)) 4=dT;rw[nI,hz4];rfl) (yR _) (Lf u.mG hz4 h0l)) ?_;refine gH λm3 R=>wK ?_;refine TC λg3 l=>?_;have d3:=u.jQ (m':=m3) (nx':=n2) (by rw[R];exact u.eH.put (u.eH _ _ u.hD)) l g3 (by rw[xu];exact u.lD) (u.mG.set hz4) (λc hc=>by obtain e|e:=zq hc;exact u.Bl c e;rw[e];exact qq.with MQ Z M);have gx3:=l _ _ g2 hnD;have oldm:∀q o,m.dZ q=Y o->q≠f.qD->m3.dZ q=Y o:=λq o t hx=>l q o (D q o t hx) hx;have hpl:∀b∈d,∃(h1:b<O pl)(h2:b<O z),(∀x∈z[b],x<nb)/\z[b].length<=200*1048576:=λb H=>by
  have I:=(htl b H).1;have hb2:b<O z:=by rw[u.lQ];exact I
  have:=hps _ (fB hb2);exact⟨by rw[u.lP];exact I,hb2,this.1,by rw[<-hM];exact this.2⟩
 have inv3:∀b (H:b∈d)(h2:b<O z),kh (kH (pY (v.set 0 (kH [0,0,0,0] 0)) rs ws z[b]) b) ((v.set 0 (kH [0,0,0,0] 0))[b]?.getD []):=λb H h2=>by
  obtain⟨_,_,hx,_⟩:=hpl b H;have hne:=(htl b H).2;have I:=(htl b H).1;have hlt:∀p∈z[b],p<O (v.set 0 (kH [0,0,0,0] 0)):=λp hp=>by rw[d3.lD];exact hx p hp
  rw[xA,gj (λe=>hne e.symm),hall2 b H,rd];exact(ab7 d3.mG hlt g).in (Ld d3.mG hlt g) M (hin2 b (by simp[H]))
 clear hall2 u D g2 R l g3;generalize v.set 0 (kH [0,0,0,0] 0)=dl1 at d3 inv3;refine eT.jl (λj vs m' nx'=>∃v,yQ v=j/\Dm nb f m' nx' ov pl z rs (0::d) v/\(∀q o,m.dZ q=Y o->q≠f.qD->m'.dZ q=Y o)/\m'.dZ nx=Y (.dY (iq ws))/\(∀b (H:b∈d)(h2:b<O z),kh (kH (pY v rs ws z[b]) b) (v[b]?.getD []))/\
  vs=[.ea f.qF 0,.ea nx 0]) (yQ dl1) Z ⟨dl1,Z,d3,oldm,gx3,inv3,Z⟩ ?_
 clear d3 oldm gx3 inv3;rintro j vs m4 n4 ⟨v,rfl,d4,old4,g4,kE,rfl⟩;obtain⟨vt,hvt,hsl⟩:=acc d4.kZ hn;conv=>whnf
 refine eu d4.hF ?_;refine sK (hsl _ _ _ _ _ _ Z Z) ?_;refine sK (GD hvt Z) ?_;refine eT.jl (λj2 vs m' nx'=>∃k,k+j2=O d/\Dm nb f m' nx' ov pl z rs (0::d) v/\(∀q o,m.dZ q=Y o->q≠f.qD->m'.dZ q=Y o)/\m'.dZ nx=Y (.dY (iq ws))/\pZ m' f.qD vt d/\
  vs=[.ea f.qF 0,.ea nx 0,vt,V (O d),V k]) (O d) Z ⟨0,M,d4,old4,g4,hvt,Z⟩ ?_
 clear d4 old4 g4 hvt hsl;rintro j2 vs m5 n5 ⟨k,hk,N,old5,g5,hvt,rfl⟩;conv=>whnf
 refine eW (λh3=>?_) (λh3=>?_)
 .replace h3:=gz h3;have hbt:=fB h3;obtain⟨a,ha1,ha2⟩:=GE (G:=G) hvt h3;obtain⟨hb1,hb2,hpx,hpll⟩:=hpl _ hbt;have I:=(htl _ hbt).1;have W:=kE _ hbt hb2;generalize d[k]=b at hbt ha2 hb1 hb2 hpx hpll I W;have B:b<O v:=by rw[N.lD];exact I
  rw[jq B,rd]at W;refine M1 ?_;refine sK (lB Z g5 (yS g)) ?_;refine hX (o:=.dY (iq [0,0,0,0])) λm6 n6 em6 en6=>wK ?_;refine sK (ip Z Z (by rw[em6];exact fY) Vb (yR _) (GF (by rw[A.cells,nI,nI,g];rfl))) ?_;refine oV λm7 em7=>?_;have old7:∀q o,m5.dZ q=Y o->m7.dZ q=Y o:=λq o t=>by have:=N.eH q o t;rw[em7,eJ M,em6,eJ M];exact t
  have b7:eX m7 n6:=by rw[em7,em6,en6];exact N.eH.ew.put kP
  have d7:=N.ew b7 old7;have g7:=old7 _ _ g5;have g9:=gE em7;have hn5:∀q o,m5.dZ q=Y o->q≠n5:=λq o t e=>by have:=N.eH q o t;rw[e]at this;omega
  clear em7 em6;have hpv:=d7.DG b hb1 hb2;refine eu d7.hF ?_;refine sK (nW Z Z Z I) ?_;refine sK (lB Z d7.hP (show oy (0+b*1) J pl=Y pl[b] by simp[nG,part,hb1])) ?_;refine sK (GD hpv Z) ?_;refine eT.jl (λj3 vs m' nx'=>∃(k3:Nat)(s:L Nat),k3+j3=z[b].length/\eX m' nx'/\(∀q o,m5.dZ q=Y o->m'.dZ q=Y o)/\m'.dZ n5=Y (.dY (iq s))/\O s=4/\qq s/\pY v rs s (z[b].drop k3)=pY v rs ws z[b]/\
   vs=[.ea f.qF 0,.ea nx 0,V b,.ea n5 0,vt,V (O d),V k,pl[b],V z[b].length,V k3]) z[b].length Z ⟨0,ws,M,b7,old7,g9,g,hw64,Z,Z⟩ ?_
  clear hpv d7 g7 g9 b7 old7;rintro j3 vs m8 n8 ⟨k3,sw,xj,b8,E,g8,F,U,y,rfl⟩;have d8:=N.ew b8 E;have gx8:=E _ _ g5;conv=>whnf
  refine eW (λh4=>?_) (λh4=>?_)
  .replace h4:=gz h4;obtain⟨a3,hc1,hc2⟩:=GE (G:=G) (N.DG b hb1 hb2) h4;have hpn:=hpx _ (fB h4);have hdrop:z[b].drop k3=z[b][k3]::z[b].drop (k3+1):=EI h4;rw[hdrop]at y;simp only[pY]at y;generalize z[b][k3]=pp at hc2 hpn y;obtain⟨bb,hbb⟩:∃bb,rs[pp]? =Y bb:=⟨rs[pp]'(by rw[N.lR];exact hpn),jq _⟩;have hppl:pp<O v:=by rw[N.lD];exact hpn
   rw[hbb,jq hppl,rd]at y;conv=>whnf
   refine sK (hc1 _ _ _ _ _ _ Z Z) ?_;refine sK (hc2 _ _ _ _ _ (λq o t _=>E q o t) Z) ?_;refine eu d8.hF ?_;refine sK (nW Z Z Z hpn) ?_;refine sK (lB Z d8.hR (K7 hbb)) ?_;cases bb
   .conv=>whnf
    refine iu ?_;exact⟨Z,j3 - 1,M,k3+1,sw,M,b8,E,g8,F,U,y,Z⟩
   conv=>whnf
   have hd4:=N.mG _ (fB hppl);have hd64:=N.Bl _ (fB hppl);have fcm:=ab2 C F hd4 U hd64;refine gC ?_;repeat'(first|refine eu d8.hF ?_|refine sK (lB Z g8 (yS F)) ?_|refine sK (nW Z Z Z hpn) ?_|refine sK (lB Z d8.hD (Le d8.mG hppl)) ?_|refine ee.c fcm ?_|refine gI (gK _) (wK ?_)|fail)
   have hal:O (oS sw v[pp])=4:=by rw[DB M];exact F
   refine sK (ip Z Z g8 (by show Nat.beq (O (iq _)) 4=dT;rw[nI,hal];rfl) (yR _) (GF (by rw[A.cells,nI,nI,hal,F]))) ?_;refine gH λm9 Q=>wK ?_;refine iu ?_;exact⟨Z,j3 - 1,M,k3+1,oS sw v[pp],M,by rw[Q];exact b8.put (b8 _ _ g8),(λq o t=>by rw[Q,T.gh _ _ _ _ (hn5 q o t)];exact E q o t),by rw[Q];exact fY,hal,U.and,y,Z⟩
  replace h4:=iK h4;rw[zC h4]at y;simp only[pY]at y;rw[<-y]at W;have fw2:=Lb C F U (show b<256 by omega);have K:O (kH sw b)=4:=by rw[DC];exact F
  conv=>whnf
  refine sK (lB Z g8 (yS F)) ?_;refine ee.c fw2 ?_;refine sK (ip Z Z g8 Uo (yR _) (GF (by rw[A.cells,nI,nI,K,F]))) ?_;refine gH λm9 Q=>?_;have b9:eX m9 n8:=by rw[Q];exact b8.put (b8 _ _ g8)
  have old9:∀q o,m5.dZ q=Y o->m9.dZ q=Y o:=λq o t=>by rw[Q,T.gh _ _ _ _ (hn5 q o t)];exact E q o t
  have d9:=N.ew b9 old9;have gx9:=old9 _ _ g5;have gs9:=gE Q;have ht9:=hvt.mono (λq o t _=>old9 q o t);have oldm9:∀q o,m.dZ q=Y o->q≠f.qD->m9.dZ q=Y o:=λq o t hx=>old9 q o (old5 q o t hx);clear d8 gx8 g8 E b8 Q;obtain⟨nb2,hnb2,hneq⟩:=acd (G:=G) K (N.mG _ (fB B));conv=>whnf
  refine gC ?_;repeat'(first|refine eu d9.hF ?_|refine sK (lB Z gs9 (yS K)) ?_|refine sK (nW Z Z Z I) ?_|refine sK (lB Z d9.hD (Le d9.mG B)) ?_|refine sK (hneq _ _ _ _ _ Z Z) ?_|refine gI (gK _) (wK ?_)|fail)
  cases nb2
  .conv=>whnf
   refine iu ?_;exact⟨Z,j2 - 1,M,k+1,M,d9,oldm9,gx9,ht9,Z⟩
  conv=>whnf
  refine gC ?_;repeat'(first|refine eu d9.hF ?_|refine sK (lB Z gs9 (yS K)) ?_|refine sK (nW Z Z Z I) ?_|refine gI (gK _) (wK ?_)|fail)
  refine sK (ip Z Z d9.hD Uo (yR _) (Lf d9.mG K B)) ?_;refine gH λm10 em10=>wK ?_;have g10:=gE em10;have old10:∀q o,m9.dZ q=Y o->q≠f.qD->m10.dZ q=Y o:=λq o t hx=>by rw[em10,T.gh _ _ _ _ hx];exact t
  have d10:=d9.jQ (m':=m10) (nx':=n8) (by rw[em10];exact b9.put (b9 _ _ d9.hD)) old10 g10 (by rw[xu];exact d9.lD) (d9.mG.set K) (λc hc=>by obtain e|e:=zq hc;exact d9.Bl c e;rw[e];exact U.with F M);have hdown:GB (v.set b (kH sw b)) v:=.set B W;refine⟨Z,yQ (v.set b (kH sw b)),ab9 B (W.val K (N.mG _ (fB B)) (hnb2 Z)),v.set b (kH sw b),Z,d10,λq o t hx=>old10 q o (oldm9 q o t hx) hx,old10 _ _ gx9 hnD,λc hc h2=>?_,Z⟩;obtain⟨_,_,hcx,_⟩:=hpl c hc;have hcn:=(htl c hc).1;have hlt:∀p∈z[c],p<O v:=λp hp=>by rw[N.lD];exact hcx p hp
  have hlt':∀p∈z[c],p<O (v.set b (kH sw b)):=λp hp=>by rw[xu];exact hlt p hp
  have l1:=Ld (rs:=rs) d10.mG hlt' g;have l2:=Ld (rs:=rs) N.mG hlt g;have step:kh (kH (pY (v.set b (kH sw b)) rs ws z[c]) c) (kH (pY v rs ws z[c]) c):=.with l1 l2 M (ab8 N.mG d10.mG hdown hlt g g (.refl _));by_cases e:b=c
  .subst e;rw[xA,gO Z,gO B,rd];rw[<-y]at step;exact step
  rw[xA,gj e];exact step.trans (kE c hc h2)
 conv=>whnf
 exact⟨Z,v,N,old5⟩
structure Bm (P:Program)(G:ez):Prop where
 none:∀H,eL P G 169 [.ej] H fun r H'=>r=.eK []∧H'=H
 some:∀(xs:List Nat)(q:S)(m:T AO)(nx:S),0<xs.length→xs.length≤200*eI→(∀x∈xs,x<256)→m.dZ q=some (.dY (gM xs))→∃ys H',ys.length=xs.length∧(∀y∈ys,y∈xs)∧K9 m nx q (gM ys) H'∧eL P G 169 [.eC q 1 0 xs.length xs.length false] ⟨m,nx⟩ fun r1 H1=>r1=.eK []∧H1=H'
def Fl.congr{e:S->Tg}{m x:T AO}{nx w:S}{C t:L (L Nat)}{c:L Nat}(h:Fl b f e m nx C t d c l)(a:∀q,x.dZ q=m.dZ q)(E:w=nx):Fl b f e x w C t d c l:=by subst E;exact h.change (Xa:=λ_=>True) (λq o g _=>⟨by rw[a];exact g,Z⟩) (λp o hp=>h.eH p o (by rw[<-a];exact hp)) CA eR (.inl ⟨eR,eR,Z⟩) (.inl ⟨eR,λ_=>trivial,Z⟩) (.inl ⟨eR,λ_=>trivial,Z⟩) (.inl ⟨eR,Z⟩) (.inl ⟨eR,Z⟩)
def GG(m:T AO)(v:A):Prop:=∃l,kM (λ_=>True) m v l/\l.Pure
def pZ.fF{D:S}{s:L Nat}(h:pZ m D v s):GG m v:=by
 obtain⟨rfl,_⟩|⟨q,b,a,K,rfl,h3,h4⟩|⟨t,rfl⟩:=h
 .exact⟨.ej,.ey _,kC⟩
 .have o:O (a.drop b)=O s:=by rw[h4.1,rQ]
  rw[oI]at o;have H:=h4.2;refine⟨.eG 1 (O s) (gM s) .G,.eC q 1 b (O s) (O s) dU a (gM s) eR h3 M (by rw[rQ];omega) (λi h n=>?_),qQ ei (K0 _)⟩;have e:(gM s)[i]=a[b+i]:=by simp only[<-h4.1,List.getElem_drop]
  rw[e];exact .ey _
 exact⟨.eG 1 (O s) (gM s) .G,.eG 1 (O s) (gM s) (gM s) t Z (λi _ _=>.ey _),qQ ei (K0 _)⟩
def QR{m:T AO}:∀{l:L A},(∀i (h:i<O l),GG m l[i])->∃C:L A,O C=O l/\(∀i (h:i<O l)(n:i<O C),kM (λ_=>True) m l[i] C[i])/\∀c∈C,c.Pure:=by
 intro l;induction l with
 |nil=>intro _;exact⟨[],Z,λi h=>by simp at h,λc K=>by cases K⟩
 |cons v l f=>
 intro h;obtain⟨g,e,r⟩:=h 0 ei;obtain⟨C,p,t,d⟩:=f λi a=>h (i+1) HS;refine⟨g::C,by simp[p],λi a b=>?_,λc K=>?_⟩
 .cases i with
  |zero=>exact e
  |succ i=>exact t i HS Ev
 obtain rfl|K:=eZ.1 K
 .exact r
 exact d c K
def GH(l:Nat)(v:A):Prop:=v.Pure/\∃(b d a:A)(o:L Bool)(s:L (L Nat)),v=.fF [b,d,.eG 1 l (o.map .bool) .G,a,.eG 4 l (kY s) .G] 0/\O o=l/\O s=l/\qr s
def QS{g:Nat}{nx:S}{o:L Bool}{R:L Nat}{s:L (L Nat)}(d:Dm g f m nx U B ps o R s){sl:L A}(F:m.dZ f.qS=Y (.dY sl))(z:O sl=g)(y:∀i (h:i<O sl),GG m sl[i]):
  ∃v,kM (λ_=>True) m (.ea f.qF 0) v/\v.Pure/\GH g v:=by
 obtain⟨t,s1,s2,s3⟩:=QR y;obtain⟨r,W,p2,p3⟩:=QR (m:=m) (l:=B) λi h=>(d.DG i h (by rw[d.lQ,<-d.lP];exact h)).fF
 let⟨u,j,e⟩:=d.kZ.fF
 have k:∀(q:S)(w x:L A),m.dZ q=Y (.dY w)->O w=g->O x=g->(∀i (h:i<O w)(n:i<O x),kM (λ_=>True) m w[i] x[i])->kM (λ_=>True) m (.eC q 1 0 g g dT) (.eG 1 g x .G):=λq w x D h2 h3 E=>
  .eC q 1 0 g g dT w x eR D M M λi h n=>by have:=E i M n;simpa using this
 have N:=k f.qS sl t F z M s2;have H:=k f.qP B r d.hP d.lP (by rw[W];exact d.lP) p2;have I:=k f.qR _ _ d.hR (by rw[jH];exact d.lR) (by rw[jH];exact d.lR) (λi _ _=>.ey _);have C:kM (λ_=>True) m (.eC f.qD 4 0 g g dT) (.eG 4 g (kY s) .G):=.eC f.qD 4 0 g g dT (kY s) (kY s) eR d.hD (by rw[QO d.mG,d.lD];omega) (by rw[QO d.mG,d.lD]) λi h n=>by
  have:(kY s)[0+i]=(kY s)[i]:=ei
  rw[this];exact .ey _
 have pD:∀c∈kY s,c.Pure:=by
  intro c K;clear C d;induction s with
  |nil=>cases K
  |cons a s Q=>
  obtain h|h:=jf.1 K
  .exact pX _ c h
  exact Q h
 have p:(A.fF [.eG 1 g t .G,.eG 1 g r .G,.eG 1 g (o.map .bool) .G,u,.eG 4 g (kY s) .G] 0).Pure:=by
  refine yu λc K=>?_;simp only[eZ,f7,fZ]at K;obtain rfl|rfl|rfl|rfl|rfl:=K
  .exact qQ ei s3
  .exact qQ ei p3
  .exact qQ ei λc K=>by obtain⟨b,_,rfl⟩:=gS.1 K;exact sD b
  .exact e
  exact qQ ei pD
 refine⟨.fF [.eG 1 g t .G,.eG 1 g r .G,.eG 1 g (o.map .bool) .G,u,.eG 4 g (kY s) .G] 0,.ea f.qF 0 _ _ eR d.hF Z λi h n=>?_,p,p,_,_,_,o,s,Z,d.lR,d.lD,d.mG⟩
 match i,h,n with
 |0,_,_=>exact N
 |1,_,_=>exact H
 |2,_,_=>exact I
 |3,_,_=>exact j
 |4,_,_=>exact C
 |i+5,h,_=>simp at h;omega
def Dm.drop{nx d:S}{x:L (L Nat)}{o:L Bool}{p:L Nat}(h:Dm l f m nx u w x o p j)(k:m.dZ d=Y .fX):Dm l f (m.set d J) nx u w x o p j:=by
 have c:∀q r,m.dZ q=Y (.dY r)->(m.set d J).dZ q=Y (.dY r):=λq r t=>by rw[T.gh _ _ _ _ (λe=>by rw[e,k]at t;cases t)];exact t
 have n:∀v s,pZ m f.qD v s->pZ (m.set d J) f.qD v s:=λv s h=>by
  obtain h|⟨q,g,B,K,y,z,E⟩|h:=h
  .exact .inl h
  .exact .inr (.inl ⟨q,g,B,K,y,c q _ z,E⟩)
  exact .inr (.inr h)
 exact⟨h.eH.put (h.eH _ _ k),c _ _ h.hF,c _ _ h.hP,c _ _ h.hR,c _ _ h.hD,n _ _ h.kZ,λi a b=>n _ _ (h.DG i a b),h.lP,h.lQ,h.lR,h.lD,h.mG,h.Bl,h.nF,h.nP,h.nR⟩
def Lg:∀n,gV [.int .u64 (.ofNat 0),.int .u64 (.ofNat 0),.int .u64 (.ofNat 0),.int .u64 (.ofNat 0)] n=kY (List.replicate n [0,0,0,0])
 |0=>rfl
 |n+1=>by rw[gV,Lg n,NC];rfl
def Fl.ace{C:S->Tg}{nx:S}{o:L Bool}{F os':L Nat}{p:A}(h:Fl l f C m nx H u o F (kY (List.replicate l [0,0,0,0])))(x:m.dZ f.qF=Y (.dY [.eC f.qS 1 0 l l dT,.eC f.qP 1 0 l l dT,.eC f.qR 1 0 l l dT,p,.eC f.qD 4 0 l l dT]))(B:pZ m f.qD p os'):
  ∃r,Dm l f m nx p r u o os' (List.replicate l [0,0,0,0]):=by
 let⟨r,z,k,j⟩:=h.hP
 have y:∀(q:S)(t:Tg),C q=t->t≠.D->q≠f.qD:=λq t d c v=>c (by rw[<-d,v];exact h.tD);refine⟨r,h.eH,x,z,h.hR,h.hD,B,λi a b=>?_,by rw[k];exact h.lP,h.lP,h.lR,ei,λa g=>by rw[Ch g];rfl,λa g w N=>by rw[Ch g]at N;simp at N;omega,y _ _ h.tF ei,y _ _ h.tP ei,y _ _ h.tR ei⟩;obtain⟨e,c⟩|⟨q,e,E,n,s⟩:=j i a b
 .exact .inl ⟨e,c⟩
 exact .inr (.inl ⟨q,0,_,y _ _ n ei,e,E,Z,oE _⟩)
def yO.fF{C:S->Tg}{m x:T AO}{i:Nat}{s:L Nat}(h:yO C m i v s):GG x v:=by
 let⟨t,K,_⟩:=h
 generalize a:gM s=w at K;cases K with
 |nil=>exact⟨.ej,.ey _,kC⟩
 |eG j w t b o=>subst a;exact⟨.eG 1 j (gM s) .G,.eG 1 j (gM s) (gM s) _ Z (λi _ _=>.ey _),qQ ei (K0 _)⟩
def acf(C:fP P G){c8:S}{tg:S->Tg}{nx:S}(i:Fl l f tg m nx d ps u [] ds)(hv:u[0]? =Y dU)(hnb:l<=200)(h0:∀(h:0<O d),(∀x∈d[0],x=0)/\d[0].length<=200*1048576):
  ∃r D,(r=.eK []/\eX D.ep D.dX/\(∃t,D.ep.dZ f.qF=Y (.dY [.eC f.qS 1 0 l l dT,.eC f.qP 1 0 l l dT,.eC f.qR 1 0 l l dT,.eG 1 1 (gM [0]) (.open t),.eC f.qD 4 0 l l dT]))/\D.ep.dZ f.qR=Y (.dY ((u.set 0 dT).map .bool))/\∀q o,m.dZ q=Y o->q≠f.qF->q≠f.qR->D.ep.dZ q=Y o)/\eL P G 170 [.int .i64 (.ofNat 0),.ea f.qC 0,.ea c8 0] ⟨m,nx⟩ λr1 H1=>r1=r/\H1=D:=by
 have s:0<O u:=(oY.1 hv).1;have g:0<l:=by rw[<-i.lR];exact s
 refine eL.fj (C.fs.h 170) ?_
 let⟨ov,eF,U⟩:=i.hF
 obtain⟨rfl,_⟩|⟨q,_,_,_,h⟩:=U
 case inr=>simp at h
 have z0:Int.ofNat 0=Int.ofNat 0:=Z;conv=>whnf
 refine eu i.hC ?_;refine eu eF ?_;refine sK (nW Z Z z0 g) ?_;refine sK (ip Z Z i.hR Z Z (QM s)) ?_;refine gH λm1 p=>?_;have a:Fl l f tg m1 nx d ps (u.set 0 dT) [] ds:=by rw[p];exact i.QE 0
 have y:∀t,t≠Tg.R->∀q,tg q=t->q≠f.qR:=λt ht q e e2=>ht (by rw[<-e,e2];exact i.tR);have b:m1.dZ f.qF=Y (.dY [.eC f.qS 1 0 l l dT,.eC f.qP 1 0 l l dT,.eC f.qR 1 0 l l dT,.ej,.eC f.qD 4 0 l l dT]):=by rw[p,T.gh _ _ _ _ (y _ (by simp) _ i.tF)];exact eF
 let⟨sl,eS,hsl,Q⟩:=a.hS
 have F:0<O d:=by rw[a.lS];exact g
 have E:0<O sl:=M
 obtain⟨t,B,htg⟩:=Q 0 E F;obtain⟨hx0,hxl⟩:=h0 F;conv=>whnf
 refine eu a.hC ?_;refine eu b ?_;refine sK (nW Z Z z0 g) ?_;refine sK (lB Z eS (show oy (0+0*1) J sl=Y sl[0] by simp[nG,part,E])) ?_;refine sK (QK B Z) ?_;refine eT.pd (λj vs=>∃k:Nat,k+j=d[0].length/\vs=[V 0,.ea f.qC 0,.ea c8 0,sl[0],V d[0].length,V k]) d[0].length Z ⟨0,M,Z⟩ ?_;rintro j vs ⟨k,hk,rfl⟩;conv=>whnf
 refine eW (λh=>?_) (λh=>?_)
 .replace h:=gz h;have hxk:=hx0 _ (fB h);have W:(u.set 0 dT)[0]? =Y dT:=by simp[s]
  conv=>whnf
  refine sK (QL B Z Z Z h) ?_;refine sK (jO Z (v:=V d[0][k]) (by rw[kO];exact Bf h)) ?_;rw[hxk];conv=>whnf
  refine eu a.hC ?_;refine eu b ?_;refine sK (nW Z Z z0 g) ?_;refine sK (lB Z a.hR (K7 W)) ?_;refine iu ?_;exact⟨Z,Z,j - 1,M,k+1,M,Z⟩
 conv=>whnf
 refine gC ?_;repeat'(first|refine eu a.hC ?_|refine eu b ?_|refine gI (gK _) (wK ?_)|fail)
 refine hX (o:=.eY) λm3 nx3 z K=>wK ?_;have c:∀q o,m1.dZ q=Y o->m3.dZ q=Y o:=λq o H=>by have:=a.eH q o H;rw[z,eJ M];exact H
 have N:=c _ _ a.hC;have w:=c _ _ b;repeat'(first|refine eu N ?_|refine eu w ?_|refine gI (gK _) (wK ?_)|fail)
 refine sK (ip (cs':=[.eC f.qS 1 0 l l dT,.eC f.qP 1 0 l l dT,.eC f.qR 1 0 l l dT,.eG 1 1 (gM [0]) (.open nx),.eC f.qD 4 0 l l dT]) Z Z w Z Z Z) ?_;refine gH λI n=>wK ?_;refine⟨Z,?_,⟨nx,by show I.dZ _ = _;rw[n];exact fY⟩,?_,λq o H h1 h2=>?_⟩
 .show eX I nx3;rw[n,z,K];exact a.eH.ew.put (by rw[S.gG];have:=a.eH _ _ b;omega)
 .show I.dZ f.qR= _;rw[n,T.gh _ _ _ _ (y _ (by simp) _ i.tF).symm];exact c _ _ a.hR
 show I.dZ q= _;rw[n,T.gh _ _ _ _ h1];exact c q o (by rw[p,T.gh _ _ _ _ h2];exact H)
def QT(C:fP P G)(so:Bm P G)(g:FG P G K)(hr:K r=Y (.fO d l)):f9 P G 111 [.fz r 0] (GH l):=by
 refine gT λhM=>?_;obtain⟨o,bo,nb',vbs,bs,f0,f1,f2,f3,f4,f5,f6⟩:=g.fO hr;refine abR C g hr ?_;intro f tg m nx n1 fn ss ps ds F0 hgd htd hds hss hps;conv=>whnf
 let⟨ov,eF,hov⟩:=F0.hF
 refine eu F0.hC ?_;refine eu eF ?_;refine eT.jl (λj vs m' nx'=>∃(k:Nat)(ps':L (L Nat)),k+j=l/\Fl l f tg m' nx' ss ps' (List.replicate l dU) [] ds/\mZ l (200*eI) ps'/\m'.dZ n1=Y .fX/\vs=[.ea f.qC 0,.eC f.qP 1 0 l l dT,V l,V k]) l Z ⟨0,ps,M,F0,hps,hgd,Z⟩ ?_;clear eF hov F0 hps hgd;rintro j vs m1 E ⟨k,U,hk,W,H,gd1,rfl⟩;conv=>whnf
 refine eW (λh=>?_) (λh=>?_)
 .replace h:=gz h
  let⟨pl,eP,hpl,hli⟩:=W.hP
  have og:k<O U:=by rw[W.lP];omega
  have jp:k<O pl:=M
  have hv:=hli k jp og;conv=>whnf
  refine sK (nW Z Z Z h) ?_;refine sK (lB Z eP (show oy (0+k*1) J pl=Y pl[k] by simp[nG,part,jp])) ?_;obtain⟨e,_⟩|⟨q,e,Q,y,z⟩:=hv
  .rw[e];refine fK.one _ _ ?_ (so.none _);conv=>whnf
   refine iu ?_;exact⟨Z,j - 1,M,k+1,U,M,W,H,gd1,Z⟩
  have hsk:=H _ (fB og);obtain⟨ys,⟨m2,nx2⟩,hyl,hyx,⟨o1,o2,o3⟩,fr⟩:=so.some U[k] q m1 E z hsk.2 (λx v=>by have:=hsk.1 x v;omega) Q;dsimp only at o1 o2 o3;rw[e];refine fK.one _ _ ?_ fr;conv=>whnf
  refine iu ?_;have F2:Fl l f tg m2 nx2 ss (U.set k ys) (List.replicate l dU) [] ds:=(W.abO eP hpl hli jp og e Q y z hyl).congr (λp=>by
   rw[T.jr];split
   .rename_i e2;rw[<-e2]at o1;exact o1
   rename_i e2;exact o2 p (λe3=>e2 e3)) o3
  refine⟨Z,j - 1,M,k+1,_,M,F2,λs hs=>?_,(o2 n1 (λe=>by rw[e,y]at htd;cases htd)).trans gd1,Z⟩;obtain h1|h1:=zq hs
  .exact H s h1
  rw[h1];exact⟨λx v=>hsk.1 x (hyx x v),by rw[hyl];exact hsk.2⟩
 clear h hk;conv=>whnf
 refine hX (o:=.dY [.gQ]) λm2 nx2 em2 en2=>wK ?_;refine sK (ip (cs':=[.func (.func 170) [] [.ea f.qC 0,.ea E 0]]) Z Z (by rw[em2];exact fY) Z Z Z) ?_;refine gH λm3 em3=>?_;have u:Fl l f (upd tg E .x) m3 nx2 ss U (List.replicate l dU) [] ds:=by
  refine W.jQ (λq o Q v=>⟨?_,od W.eH Q⟩) ?_ (λq o Q=>od W.eH Q)
  .have:=W.eH q o Q;rw[em3,eJ M,em2,eJ M];exact Q
  rw[em3,em2,en2];exact W.eH.ew.put kP
 have g8:=gE em3;have t8:upd tg E .x E=.x:=Bj;have gd3:m3.dZ n1=Y .fX:=by have:=W.eH _ _ gd1;rw[em3,eJ M,em2,eJ M];exact gd1
 have td3:upd tg E .x n1=.x:=(od W.eH gd1).trans htd;generalize upd tg E .x=tg3 at u t8 td3;clear W em3 em2;conv=>whnf
 refine eu g8 ?_;have hrep:(List.replicate l dU)[0]? =Y dU:=by rw[List.getElem?_replicate,gO M]
 have hcnt:(List.replicate l dU).count dU=l:=ei
 obtain⟨r4,⟨m4,nx4⟩,⟨rfl,La,tg4,rs4,hL0,hsucc,D⟩,fr⟩:=abV C (c8:=E) hss f5 l 0 tg3 (List.replicate l dU) [] m3 nx2 u g8 t8 hrep M (by rw[hcnt];simp);by_cases hL:La=[]
 .subst hL;have hx0:∀(h:0<O ss),(∀x∈ss[0],x=0)/\ss[0].length<=200*1048576:=λh=>by
   refine⟨λx v=>?_,by rw[<-hM];exact(hss _ (fB h)).2⟩;rcases D.all x (hsucc h x v)with h1|h1
   .rw[List.getElem?_replicate]at h1;split at h1<;>simp at h1
   simpa using h1
  clear fr D hsucc;obtain⟨r4,⟨m4,nx4⟩,⟨rfl,b4,⟨t,eF4⟩,hR4,old4⟩,fr⟩:=acf C (c8:=E) u hrep f5 hx0;dsimp only at b4 eF4 hR4 old4;refine fK.one _ _ ?_ fr;have c:∀(q:S)(t t':Tg),tg3 q=t->t≠t'->∀p,tg3 p=t'->q≠p:=λq t t' e1 e2 p e3 e4=>e2 (by rw[<-e1,e4,e3]);have B:∀q o t,m3.dZ q=Y o->tg3 q=t->t≠.F->t≠.R->m4.dZ q=Y o:=λq o t Q ht h1 h2=>old4 q o Q (c q t _ ht h1 _ u.tF) (c q t _ ht h2 _ u.tR);have hC4:=B _ _ _ u.hC u.tC ei ei;have gd4:=B _ _ _ gd3 td3 ei ei
  let⟨pl,eP,hpl,hli⟩:=u.hP
  let⟨sl,eS,hsl,hsi⟩:=u.hS
  have hD4:=B _ _ _ u.hD u.tD ei ei;rw[hds,Lg]at hD4;have d4:Dm l f m4 nx4 (.eG 1 1 (gM [0]) (.open t)) pl U ((List.replicate l dU).set 0 dT) [0] (List.replicate l [0,0,0,0]):=by
   refine⟨b4,eF4,B _ _ _ eP u.tP ei ei,hR4,hD4,.inr (.inr ⟨_,Z⟩),λi a b=>?_,by rw[hpl];exact u.lP,u.lP,ei,ei,λa ha=>by rw[Ch ha];rfl,λa ha w hw=>by rw[Ch ha]at hw;simp at hw;omega,c _ _ _ u.tF ei _ u.tD,c _ _ _ u.tP ei _ u.tD,c _ _ _ u.tR ei _ u.tD⟩;obtain⟨e,e2⟩|⟨q,e,Q,y,z⟩:=hli i a b
   .exact .inl ⟨e,e2⟩
   exact .inr (.inl ⟨q,0,_,c _ _ _ y ei _ u.tD,e,B _ _ _ Q y ei ei,Z,oE _⟩)
  obtain⟨r6,⟨m6,nx6⟩,⟨rfl,dl6,d6,n⟩,fr3⟩:=QQ C d4 f5 f4 (λx v=>by cases v) ei H Ei;dsimp only at d6 n;conv=>whnf
  refine eu hC4 ?_;refine eu eF4 ?_;refine fK.j7 (C.fs.h 171) (wK ?_);refine eT.pd (λj vs=>vs=[.eG 1 1 (gM [0]) (.open t),V 0,V 0]) 0 Z Z ?_;rintro j vs rfl;conv=>whnf
  refine eu hC4 ?_;refine fK.one _ _ ?_ fr3;have hC6:=n _ _ hC4 (c _ _ _ u.tC ei _ u.tD);have N:=n _ _ (B _ _ _ eS u.tS ei ei) (c _ _ _ u.tS ei _ u.tD);have I:=n _ _ gd4 (c _ _ _ td3 ei _ u.tD);conv=>whnf
  refine eu hC6 ?_;rw[I];conv=>whnf
  refine my ?_;exact QS (d6.drop I) TI (by rw[hsl];exact u.lS) (λi hi=>(hsi i hi M).fF)
 refine fK.one _ _ ?_ fr;have F4:=D.fl;rw[uz,hds,Lg]at F4
 let⟨ov,eF,hov⟩:=F4.hF
 obtain⟨_,e⟩|⟨q,rfl,Q,y,z⟩:=hov
 .simp at e
 have hLn:∀x∈La,x<l/\x≠0:=λx v=>⟨(D.ew x xo).1,λe=>hL0 (e▸v)⟩
 have hLl:O (La++[0])<=200:=by have:=D.sV;rw[hcnt,uz]at this;simp only[uH]at this;omega
 obtain⟨r5,⟨m5,nx5⟩,⟨rfl,o1,o2,o3⟩,fr2⟩:=abZ C (nx:=nx4) Q M z;dsimp only at o1 o2 o3;conv=>whnf
 refine eu F4.hC ?_;refine eu eF ?_;refine fK.one _ _ ?_ fr2;have F5:Fl l f tg4 m5 nx5 ss U rs4 (La++[0]).reverse (kY (List.replicate l [0,0,0,0])):=(F4.abN eF Q y z ei).congr (λp=>by
  rw[T.jr];split
  .rename_i e2;rw[<-e2]at o1;exact o1
  rename_i e2;exact o2 p (λe3=>e2 e3)) o3
 have hqF:f.qF≠q:=λe=>by rw[<-e,F4.tF]at y;cases y
 have eF5:m5.dZ f.qF= _:=(o2 _ hqF).trans eF;have hrev:(La++[0]).reverse=0::La.reverse:=ei
 have hqD:q≠f.qD:=λe=>by rw[e,F4.tD]at y;cases y
 obtain⟨pl,d5⟩:=F5.ace eF5 (os':=0::La.reverse) (.inr (.inl ⟨q,0,_,hqD,ei,o1,by rw[hrev];rfl,oE _⟩));obtain⟨r6,⟨m6,nx6⟩,⟨rfl,dl6,d6,n⟩,fr3⟩:=QQ C d5 f5 f4 (λx v=>hLn x (by simpa using v)) (by simp at hLl⊢;omega) H (λ_ _ _ _ _ _=>by simpa using hL);dsimp only at d6 n;conv=>whnf
 refine eu F5.hC ?_;refine fK.one _ _ ?_ fr3;have hC6:=n _ _ F5.hC (λe=>by have:=F5.tC;rw[e,F5.tD]at this;cases this)
 let⟨sl,eS,hsl,hsi⟩:=F5.hS
 have N:=n _ _ eS (λe=>by have:=F5.tS;rw[e,F5.tD]at this;cases this);conv=>whnf
 refine eu hC6 ?_;have⟨gd4,td4⟩:=D.old _ _ gd3 td3;have gd5:=(o2 n1 (λe=>by rw[e,y]at td4;cases td4)).trans gd4;have I:=n _ _ gd5 (λe=>by rw[e,F4.tD]at td4;cases td4);rw[I];conv=>whnf
 refine my ?_;exact QS (d6.drop I) TI (by rw[hsl];exact F5.lS) (λi hi=>(hsi i hi M).fF)
def acg(C:fP P G)(a:GH l v)(t:l<=200){i j:Nat}(q:i<l)(e:j<l):f9 P G 54 [v,.int .i64 (.ofNat i),.int .i64 (.ofNat j)] λr=>∃b,r=.bool b:=by
 obtain⟨hp,z,d,y,o,s,rfl,h1,h2,h3⟩:=a;have g:i<O o:=M
 have m:j<O o:=M
 have f:j<O s:=M
 refine ee.fj (C.fs.h 54) C.dW (by intro x n;simp only[eZ,f7,fZ]at n;obtain rfl|rfl|rfl:=n;exact hp;exact iQ _ _;exact iQ _ _) ?_;have p:∀{k:Nat}(h:k<O o),part (k*1) J (o.map A.bool)=Y (.bool o[k]):=λh=>by rw[kO];simp[part,h]
 obtain⟨_,⟨w,rfl⟩,fh⟩:=ab1 C (h3 _ (fB f)) (show i<256 by omega);have u:part (j*4) (Y 4) (kY s)=Y (.agg (iq s[j])):=by have:=Le h3 f;rw[nG,lg]at this;exact this
 conv=>whnf
 refine sK (qg Z Z Z q) ?_;refine sK (jO Z (p g)) ?_;generalize o[i]=b1;cases b1
 .conv=>whnf
  exact lX
 conv=>whnf
 refine sK (qg Z Z Z e) ?_;refine sK (jO Z (p m)) ?_;generalize o[j]=b2;cases b2
 .conv=>whnf
  exact lX
 conv=>whnf
 refine sK (qg Z Z Z e) ?_;refine sK (jO Z u) ?_;refine ee.c fh ?_;exact lX
def DH(P:Program)(G:ez)(K:Gk)(a:S->A):Prop:=∀r d l,K r=Y (.fO d l)->GH l (a r)/\ee P G 111 [.fz r 0] (a r)
def DH.ex(C:fP P G)(a:Bm P G)(g:FG P G K):∃b,DH P G K b:=by
 classical
 refine⟨λr=>if h:∃d l,K r=Y (.fO d l)then Classical.choose (QT C a g (rh (rh h)))else .gi,λr d l n=>?_⟩;have h:∃d l,K r=Y (.fO d l):=⟨d,l,n⟩
 have e:=rh (rh h);have y:=n;rw[e]at y;simp only[oZ,Kd.fO.injEq]at y;have:=rh (QT C a g (rh (rh h)));simp only[th h]
 let⟨c,f⟩:=this
 exact⟨by rw[<-y.2];exact c,f⟩
def vR(K:Gk)(a:S->A)(H:L gm):Prop:=∀e∈H,∃r d l,K r=Y (.fO d l)/\e.key=.fz r 0/\e.val=a r
def Lh(K:Gk)(b:S->A)(m:T AO)(nx a:S)(D:eM):Prop:=(∃H W,vR K b H/\D.ep.dZ a=Y (.map H W))/\(∀q,q≠a->D.ep.dZ q=m.dZ q)/\D.dX=nx
def cOf(C:fP P G)(g:FG P G K){s:S->A}(hf:DH P G K s)(n:K r=Y (.fO d nb)){m:T AO}{nx mp:S}(N:vR K s H)(f:m.dZ mp=Y (.map H clock)):
  ∃v H',(v=s r/\Lh K s m nx mp H')/\eL P G 52 [.map mp,.fz r 0] ⟨m,nx⟩ λr1 H1=>r1=v/\H1=H':=by
 obtain⟨o,bo,p,vbs,bs,f0,_⟩:=g.fO n;obtain⟨h1,h2⟩:=hf r d nb n;have B:mg G .ea .i64 (.fz r 0):=.fz _ r 0 _ f0;have j:∀e∈H,mg G .ea .i64 e.key:=λe F=>by obtain⟨r',y,p,W,a,_⟩:=N e F;exact Vl
 obtain⟨v,b,hl,x⟩:=rK (zero:=.gi) B j;refine eL.fj (C.fs.h 52) (wK ?_);refine sK (hl _ _ _ _ _ _ _ _ Z f Z) ?_;obtain⟨rfl,e,F,W,a⟩|⟨rfl,rfl,hno⟩:=x
 .obtain⟨r',y,nb2,g1,t,R⟩:=N e F;rw[t]at W;cases W;have Q:v=s r:=by rw[<-a];exact R
  subst Q
  let⟨_,sv,pv,ov,rs,dl,e1,_⟩:=h1
  rw[e1];conv=>whnf
  refine sK (hl _ _ _ _ _ _ _ _ Z f (by rfl)) ?_;exact⟨e1,⟨H,clock,N,f⟩,λ_ _=>Z,Z⟩
 conv=>whnf
 refine ee.c h2 ?_;obtain⟨u,i,hu,u1,u2,u3⟩:=yG (clock:=clock) (v:=s r) B j;refine sK (hu _ _ _ _ _ _ _ Z f Z Z) ?_;refine gH λm1 D=>?_;have w:vR K s u:=λk z=>by
  obtain h|⟨W,a⟩:=u1 k z
  .exact N k h
  exact⟨r,d,nb,n,W,a⟩
 have E:∀e∈u,mg G .ea .i64 e.key:=λe F=>by obtain⟨r',y,p,W,a,_⟩:=w e F;exact Vl
 have I:=gE D;obtain⟨v2,b2,U,l⟩:=rK (zero:=.gi) B E;conv=>whnf
 refine sK (U _ _ _ _ _ _ _ _ Z I Z) ?_;have Q:v2=s r:=by
  obtain⟨rfl,e,F,W,a⟩|⟨rfl,rfl,hno2⟩:=l
  .obtain⟨r',y,nb2,g1,t,R⟩:=w e F;rw[t]at W;cases W;rw[<-a];exact R
  let⟨k,z,W,_⟩:=u2
  exact absurd W (hno2 k z)
 exact⟨Q,⟨u,i,w,I⟩,λq hq=>by show m1.dZ q= _;rw[D,T.gh _ _ _ _ hq],Z⟩
def aci(C:fP P G)(g:FG P G K)(a:K v=Y .val):f9 P G 51 [.fz v 0] λr=>∃B,r=vO B/\(∀b,B=Y b->∃d l,K b=Y (.eC d l))/\∀s o i k,G.fU v=Y [s,.fz o 0,i,k]->∃d l,K o=Y (.op d B l):=by
 obtain⟨s,po,i,k,e0,x,h⟩:=g.val a;refine ee.fj (C.fs.h 51) C.dW kJ ?_;obtain⟨o,d,B,l,rfl,rfl,ho⟩|⟨b,d,l,rfl,rfl,hb⟩:=h
 .obtain⟨nm,D,E,f,z,t,os,rs,gs,F,ss,n,H,I,N,Q,R,U,W,g9,p,q,u,w,g14,g15,_⟩:=g.op ho;refine qw ?_;refine fD e0 ?_;refine fD n ?_;refine⟨vO B,.j (by cases B;exact yt;exact o9 _ _),B,Z,λb e=>?_,λj y c m e'=>?_⟩
  .exact agt
  rw[e0]at e';cases e';exact⟨d,l,ho⟩
 refine qw ?_;refine fD e0 ?_;exact⟨.fz b 0,.j qz,Y b,Z,λb' e=>(by cases e;exact⟨_,_,hb⟩),λj y c m e'=>by rw[e0]at e';cases e'⟩
structure nh (P:Program)(G:ez)(K:Gk)where
 fv:S→A
 ix:S→Nat
 ju:S→Int
 ow:S→Option S
 dm:S→Nat→Nat→Bool
 hf:DH P G K fv
 hi:∀b d nb,K b=some (.eC d nb)→ee P G 53 [.fz b 0] (.int .i64 (.ofNat (ix b)))∧ix b<nb
 ha:∀p d bo nb,K p=some (.op d bo nb)→d≠0→ee P G 55 [.fz p 0] (.int .i64 (ju p))
 ho:∀v,K v=some .val→ee P G 51 [.fz v 0] (vO (ow v))∧(∀b,ow v=some b→∃d nb,K b=some (.eC d nb))∧∀s o pb k,G.fU v=some [s,.fz o 0,pb,k]→∃d nb,K o=some (.op d (ow v) nb)
 hd:∀r d nb i j,K r=some (.fO d nb)→i<nb→j<nb→ee P G 54 [fv r,.int .i64 (.ofNat i),.int .i64 (.ofNat j)] (.bool (dm r i j))
theorem nh.ex(C:fP P G)(Q:Bm P G)(g:FG P G K):Nonempty (nh P G K):=by
 classical
 obtain⟨u,D⟩:=DH.ex C Q g;have w:∀b,∃k:Nat,∀d l,K b=Y (.eC d l)->ee P G 53 [.fz b 0] (V k)/\k<l:=λb=>by
  by_cases h:∃d l,K b=Y (.eC d l)
  .let⟨d,l,c⟩:=h
   obtain⟨_,⟨k,rfl,hk⟩,hfun⟩:=Gs C g c;exact⟨k,λy I f=>by rw[c]at f;cases f;exact⟨hfun,hk⟩⟩
  exact⟨0,λd l c=>absurd ⟨d,l,c⟩ h⟩
 have x:∀p,∃z:Int,∀d B l,K p=Y (.op d B l)->d≠0->ee P G 55 [.fz p 0] (.int .i64 z):=λp=>by
  by_cases h:∃d B l,K p=Y (.op d B l)/\d≠0
  .let⟨d,B,l,hp,a⟩:=h
   obtain⟨_,⟨z,rfl⟩,hfun⟩:=Qm C g hp a;exact⟨z,λ_ _ _ _ _=>hfun⟩
  exact⟨0,λd B l hp a=>absurd ⟨d,B,l,hp,a⟩ h⟩
 have m:∀v,∃o:Option S,K v=Y .val->ee P G 51 [.fz v 0] (vO o)/\(∀b,o=Y b->∃d l,K b=Y (.eC d l))/\∀s F N k,G.fU v=Y [s,.fz F 0,N,k]->∃d l,K F=Y (.op d o l):=λv=>by
  by_cases h:K v=Y .val
  .obtain⟨_,⟨B,rfl,c,hb2⟩,hfun⟩:=aci C g h;exact⟨B,λ_=>⟨hfun,c,hb2⟩⟩
  exact⟨J,λe=>absurd e h⟩
 have E:∀(r:S)(i j:Nat),∃b:Bool,∀d l,K r=Y (.fO d l)->i<l->j<l->ee P G 54 [u r,V i,V j] (.bool b):=λr i j=>by
  by_cases h:∃d l,K r=Y (.fO d l)/\i<l/\j<l
  .let⟨d,l,n,q,t⟩:=h
   obtain⟨_,_,_,_,_,_,_,_,_,_,H,_⟩:=g.fO n;obtain⟨_,⟨b,rfl⟩,hfun⟩:=acg C (D r d l n).1 H q t;exact⟨b,λ_ _ _ _ _=>hfun⟩
  exact⟨dU,λd l n q t=>absurd ⟨d,l,n,q,t⟩ h⟩
 refine⟨⟨u,λb=>Classical.choose (w b),λp=>Classical.choose (x p),λv=>Classical.choose (m v),λr i j=>Classical.choose (E r i j),D,λb=>rh (w b),λp=>rh (x p),λv=>rh (m v),λr d l i j=>rh (E r i j) d l⟩⟩
end Go.As
namespace Go.As
open Go.RowKit
variable{P:Program}{G:ez}{K:Gk}
def Li(v:A)(i:Nat):Bool:=match v with
 |.fF (_ :: _ ::.eG _ _ cs _ :: _) _=>(match cs[i]? with|some (.bool b)=>b| _=>dU)
 | _=>dU
def Lj(Sa:nh P G K)(p b a g:S)(c:A):Bool:=
 match Li (Sa.fv g) (Sa.ix b)with
 |false=>dT
 |true=>match decide (a=b)with
  |true=>(match c with|.fz o _=>lh (Sa.ju o) (Sa.ju p)| _=>dT)
  |false=>Sa.dm g (Sa.ix a) (Sa.ix b)
inductive qY (Sa:nh P G K)(v:S):S→Bool→Prop
 |iw (p:S)(d nb:Nat)(h:K p=some (.op d none nb)):qY Sa v p false
 |none (p:S)(d:Nat)(b:S)(nb:Nat)(h:K p=some (.op d (some b) nb))(ho:Sa.ow v=none):qY Sa v p false
 |DI (p:S)(d:Nat)(b:S)(nb:Nat)(bv g:S)(c1 c2 c3 c4 s po pb k:A)(h:K p=some (.op d (some b) nb))(ho:Sa.ow v=some bv)(hb:G.fU b=some [.fz g 0,c1,c2])(hbv:G.fU bv=some [.fz g 0,c3,c4])(hv:G.fU v=some [s,po,pb,k]):qY Sa v p (Lj Sa p b bv g po)
 |up (p:S)(d:Nat)(b:S)(nb:Nat)(bv g gv o:S)(c1 c2 c3 c4 c5:A)(r:Bool)(h:K p=some (.op d (some b) nb))(ho:Sa.ow v=some bv)(hb:G.fU b=some [.fz g 0,c1,c2])(hbv:G.fU bv=some [.fz gv 0,c3,c4])(hne:gv≠g)(hg:G.fU g=some [.fz o 0,c5])(hr:qY Sa v o r):qY Sa v p r
def qY.ex(g:FG P G K)(Sa:nh P G K)(a:K v=Y .val):∀(d:Nat){p:S}{B:Option S}{l:Nat},K p=Y (.op d B l)->∃r,qY Sa v p r:=by
 intro d;induction d using Nat.strongRecOn with
 | _ d i=>
 intro p B l hp;obtain⟨_,rfl⟩|⟨y,b,o,x,t,u,N,C,D,rfl,rfl,hb,fb,hg,fg,ho⟩:=g.pW hp
 .exact⟨_,.iw p d l hp⟩
 cases hw:Sa.ow v with
 |none=>exact⟨_,.none p _ b l hp hw⟩
 |some c=>
 obtain⟨E,w,j⟩:=(Sa.ho v a).2.1 c hw;obtain⟨h,f,q,F,R,m,_⟩:=g.eC j;obtain⟨s,I,H,k,z,_⟩:=g.val a;by_cases e:h=o
 .subst e;exact⟨_,.DI p _ b l c h _ _ _ _ _ _ _ _ hp hw fb m z⟩
 obtain⟨r,n⟩:=i y M ho;exact⟨r,.up p _ b l c o h x _ _ _ _ _ r hp hw fb m e fg n⟩
def acj(C:fP P G)(g:FG P G K)(Sa:nh P G K){v p:S}(hv:K v=Y .val)(hp:K p=Y (.op d bo l))(n:qY Sa v p r){m:T AO}{nx mp:S}(U:vR K Sa.fv H)(hm:m.dZ mp=Y (.map H W)):
  ∃v1 H',(v1=.bool r/\Lh K Sa.fv m nx mp H')/\eL P G 23 [.map mp,.fz v 0,.fz p 0] ⟨m,nx⟩ λr1 H1=>r1=v1/\H1=H':=by
 refine eL.fj (C.fs.h 23) ?_;obtain⟨s,po,pb,kz,e0,hty,hpo⟩:=g.val hv;conv=>whnf
 refine eT.jl (λj vs m' nx'=>∃(p:S)(bo:Option S)(l:Nat)(H:L gm)(W:Nat),K p=Y (.op j bo l)/\qY Sa v p r/\vR K Sa.fv H/\m'.dZ mp=Y (.map H W)/\(∀q,q≠mp->m'.dZ q=m.dZ q)/\nx'=nx/\vs=[.map mp,.fz v 0,.fz p 0]) d Z ⟨p,bo,l,H,W,hp,n,U,hm,λ_ _=>Z,Z,Z⟩ ?_;clear hp n U hm;rintro j vs m1 nx1 ⟨p,bo,l,H,W,hp,n,U,hm,t,rfl,rfl⟩;obtain⟨nm,vos,vrs,vas,vgs,vss,os,rs,gs,as,ss,f0,_⟩:=g.op hp;conv=>whnf
 refine fD f0 ?_;obtain⟨_,rfl⟩|⟨d',b,gg,o',bo',nb',N,B,E,rfl,rfl,f,fb,F,fg,w⟩:=g.pW hp
 .conv=>whnf
  have y:r=dU:=by
   cases n with
   |iw=>rfl
   |none=>rfl
   |DI p d b l u g N B E Q s po pb k h=>rw[hp]at h;cases h
   |up p d b l u g D o N B E Q c5 r h=>rw[hp]at h;cases h
  subst y;exact⟨Z,⟨H,W,U,hm⟩,t,Z⟩
 obtain⟨fo,hob,hoo⟩:=Sa.ho v hv;conv=>whnf
 refine gC ?_;repeat'(first|refine fD f0 ?_|refine ee.c fo ?_|refine gI (gK _) (wK ?_)|fail)
 cases hw:Sa.ow v with
 |none=>
  have y:r=dU:=by
   cases n with
   |iw=>rfl
   |none=>rfl
   |DI p d b l u g N B E Q s po pb k h w=>rw[hw]at w;cases w
   |up p d b l u g D o N B E Q c5 r h w=>rw[hw]at w;cases w
  subst y;conv=>whnf
  exact⟨Z,⟨H,W,U,hm⟩,t,Z⟩
 |some u=>
 obtain⟨db,nbb,R⟩:=hob u hw;obtain⟨D,vas2,vops2,as2,ops2,k0,kg,_⟩:=g.eC R;conv=>whnf
 refine gC ?_;repeat'(first|refine fD k0 ?_|refine fD fb ?_|refine sK (AR Z Z (g.isSome kg) (g.isSome F)) ?_|refine gI (gK _) (wK ?_)|fail)
 by_cases e:D=gg
 .subst e;rw[sc Z];have y:r=Lj Sa p b u D po:=by
   cases n with
   |iw p d l h=>rw[hp]at h;cases h
   |none p d b l h w=>rw[hw]at w;cases w
   |DI p d b l u g N B E Q s po pb k h w f a hv2=>rw[hp]at h;cases h;rw[hw]at w;cases w;rw[fb]at f;cases f;rw[e0]at hv2;cases hv2;rfl
   |up p d b l u g D o N B E Q c5 r h w f a hne=>rw[hp]at h;cases h;rw[hw]at w;cases w;rw[fb]at f;cases f;rw[k0]at a;cases a;exact absurd Z hne
  subst y;obtain⟨fix,hix⟩:=Sa.hi b d' l f;obtain⟨⟨_,sv,pv,ov,z,dl,e1,l1,l2,l3⟩,_⟩:=Sa.hf D d' l F;obtain⟨_,⟨m2,nx2⟩,⟨rfl,⟨es2,clock2,hc2,hm2⟩,x,I⟩,frO⟩:=cOf C g Sa.hf F (nx:=nx1) U hm;dsimp only at hm2 x I;have i:Lh K Sa.fv m nx1 mp ⟨m2,nx2⟩:=⟨⟨es2,clock2,hc2,hm2⟩,λq hq=>(x q hq).trans (t q hq),I⟩
  have hi2:Sa.ix b<O z:=M
  have ld:part (Sa.ix b*1) J (z.map A.bool)=Y (.bool z[Sa.ix b]):=by rw[kO];simp[part,hi2]
  have hrc:Li (Sa.fv D) (Sa.ix b)=z[Sa.ix b]:=by rw[e1];simp[Li,hi2]
  rw[e1]at frO;unfold Lj;rw[hrc];conv=>whnf
  refine fD fb ?_;refine fK.one _ _ ?_ frO;conv=>whnf
  refine ee.c fix ?_;refine sK (qg Z Z Z hix) ?_;refine sK (jO Z ld) ?_;generalize z[Sa.ix b]=bb;cases bb
  .conv=>whnf
   exact⟨Z,i⟩
  conv=>whnf
  refine sK (Zj Z Z (g.isSome R) (g.isSome f)) ?_;by_cases eb:u=b
  .subst eb;rw[sc Z];refine qw ?_;obtain⟨o,d0,bo0,nb0,rfl,rfl,_⟩|⟨b0,d0,nb0,rfl,rfl,_⟩:=hpo
   .obtain⟨dd,nn,hKo⟩:=hoo _ _ _ _ e0;have hdd:dd≠0:=λe=>by
     obtain⟨_,h⟩|⟨_,_,_,_,_,_,_,_,_,h,_⟩:=g.pW hKo
     .rw[hw]at h;cases h
     omega
    have fa1:=Sa.ha o dd _ nn hKo hdd;have fa2:=Sa.ha p _ _ _ hp M;refine qw ?_;refine ee.c fa1 ?_;refine ee.c fa2 ?_;generalize hlt:lh (Sa.ju o) (Sa.ju p)=bb2;cases bb2
    .exact VB
    exact VB
   conv=>whnf
   exact⟨Z,i⟩
  rw[Ac eb];obtain⟨fix2,hix2⟩:=Sa.hi u db nbb R;rw[F]at kg;cases kg;have fd:=Sa.hd D _ _ (Sa.ix u) (Sa.ix b) F hix2 hix;rw[e1]at fd;conv=>whnf
  refine ee.c fix2 ?_;refine ee.c fd ?_;exact⟨Z,i⟩
 rw[Ac e];have hr2:qY Sa v o' r:=by
  cases n with
  |iw p d l h=>rw[hp]at h;cases h
  |none p d b l h w=>rw[hw]at w;cases w
  |DI p d b l u g N B E Q s po pb k h w f a hv2=>rw[hp]at h;cases h;rw[hw]at w;cases w;rw[fb]at f;cases f;rw[k0]at a;cases a;exact absurd Z e
  |up p d b l u g D o N B E Q c5 r h w f a hne F n=>rw[hp]at h;cases h;rw[hw]at w;cases w;rw[fb]at f;cases f;rw[fg]at F;cases F;exact n
 conv=>whnf
 refine fD fb ?_;refine fD fg ?_;exact⟨Z,d',M,o',bo',nb',H,W,w,hr2,U,hm,t,Z,Z⟩
end Go.As
namespace Go.As
open Go.RowKit
variable{P:Program}{G:ez}
def wV(H:L gm):Prop:=∀e∈H,(∃s:L Nat,e.key=.J s)/\∃b:Bool,e.val=.bool b
def wV.oT(h:wV H):∀e∈H,mg G .J .i64 e.key:=λe he=>Mm
def ack(C:fP P G)(n:wV ef){s:L Nat}(hs:s≠[]):∃b:Bool,∀(m:T AO)(nx x F:S)(W:Nat)(I N K Q U:A),m.dZ x=Y (.dY [I,N,.map F,K,Q,U])->m.dZ F=Y (.map ef W)->eX m nx->
  ∃r D,(r=.bool b/\(∀q o,m.dZ q=Y o->D.ep.dZ q=Y o)/\eX D.ep D.dX)/\eL P G 92 [.ea x 0,.eG 1 1 [.J s] .fE] ⟨m,nx⟩ λE t=>E=r/\t=D:=by
 obtain⟨v,bl,hl,i⟩:=rK (G:=G) (kd:=.J) (kk:=.i64) (zero:=.bool dU) (.J _ s) n.oT;obtain⟨k,rfl⟩:∃k,v=.bool k:=by
  obtain⟨_,e,he,_,k2⟩|⟨_,e,_⟩:=i
  .obtain⟨_,b,j⟩:=n e he;exact⟨b,by rw[<-k2];exact j⟩
  exact⟨dU,e⟩
 obtain⟨a,l,rfl⟩:∃a l,s=a::l:=by
  cases s with
  |nil=>exact absurd Z hs
  |cons a l=>exact⟨a,l,Z⟩
 refine⟨cond (gD (.ofNat a) (.ofNat 33)) (!k) dU,λm nx x F W I N K Q U hx hf j=>?_⟩;refine eL.fj (C.fs.h 92) (wK ?_);refine hX (o:=.dY [.ea x 0]) λp u g w=>?_;have c:∀q o,m.dZ q=Y o->p.dZ q=Y o:=λq o hq=>by rw[g,eJ (by have:=j q o hq;omega)];exact hq
 have g1:=gE g;have B:=c _ _ hx;have z:=c _ _ hf;obtain⟨b,d,hcall⟩:=C7 (P:=P) (G:=G) (H:=⟨p,u⟩) C.fs (v:=.eG 1 1 [.J (a::l)] .fE) (xs:=[.J (a::l)]) (f:=149) (first:=[]) (caps:=[.ea nx 0]) (R:=λ_ b=>b=cond (gD (.ofNat a) (.ofNat 33)) (!k) dU) BV ei (λy hy=>by
  simp only[eZ,f7,fZ]at hy;subst hy;refine⟨_,Z,?_⟩;have:∃r D,(r=A.bool (cond (gD (.ofNat a) (.ofNat 33)) (!k) dU)/\D=⟨p,u⟩)/\eL P G 149 [.J (a::l),.ea nx 0] ⟨p,u⟩ λE t=>E=r/\t=D:=by
   refine eL.fj (C.fs.h 149) (wK ?_);generalize gD (.ofNat a) (.ofNat 33)=bb;cases bb
   .conv=>whnf
    exact⟨Z,Z⟩
   conv=>whnf
   refine eu g1 ?_;refine eu B ?_;refine sK (hl _ _ _ _ _ _ _ _ Z z Z) ?_;cases k
   .exact⟨Z,Z⟩
   exact⟨Z,Z⟩
  obtain⟨_,_,⟨rfl,rfl⟩,hc⟩:=this;exact hc)
 conv=>whnf
 refine rV ?_;have eb:b=cond (gD (.ofNat a) (.ofNat 33)) (!k) dU:=by
  cases b
  .exact d.2 Z _ (mw ..)
  obtain⟨_,_,h⟩:=d.1 Z;exact h
 rw[<-eb];conv=>whnf
 exact⟨Z,c,by show eX p u;rw[g,w];exact j.ew⟩
def acl(C:fP P G)(g:FG P G K){p:S}(Q:K p=Y (.op d bo nb)){s N B t u D n:A}(hd:∀c∈[s,N,B,t,u,D,n],c.Pure)(h1:fN [s,N,B,t,u,D,n]=dT)(hv:fC m n)(hs:iL m)(hl:O m<=eI):
  ∃v,(∃b,v=.bool b)/\∀a0,ee P G 94 [a0,.fz p 0,.agg [s,N,B,t,u,D,n]] v:=by
 refine gT λhM=>?_;obtain⟨nm,vos,vrs,vas,f,vss,os,rs,E,as,ss,z,q1,q2,q3,q4,q5,q6,q7,q8,q9,q10,q11,q12,q13,q14,l1,l2,l3,l4,l5⟩:=g.op Q;have I:=AQ C.fs C.dW hv M hs.J [101,110,100];generalize m.any (tZ [101,110,100])=tb at I;refine ee.pi (C.fs.h 94) C.dW (jA qz (jg hd)) (wK ?_);refine gC ?_;obtain⟨_,rfl⟩|⟨d',b,gg,o',bo',nb',c6,c7,c8,rfl,rfl,hb,fb,hg,fg,ho⟩:=g.pW Q
 .repeat'(first|refine fD z ?_|refine gI (gK _) (wK ?_)|fail)
  refine S7 ?_;rintro j w ⟨k,hk,rfl⟩;conv=>whnf
  refine eW (λh=>?_) (λh=>?_)
  .exact Vp
  conv=>whnf
  repeat'(first|refine fD z ?_|fail)
  exact lX
 obtain⟨nm2,vos2,vrs2,vas2,vgs2,vss2,os2,rs2,gs2,o,ss2,e2,_⟩:=g.op ho;obtain⟨rl,W,fl⟩:=Qp C g hb;have U:∃i:Bool,∀(F:T A)(H:eM)(x y:IX),x.ev G F=Y rl->y.ev G F=Y (.fz p 0)->fA G dU F H (.gy .eql (.one .ea) dU x y)=Y (.val (.bool i)):=by
  obtain rfl|⟨q,nq,rfl,hq⟩:=W
  .exact⟨dU,λF H x y hx hy=>by simp[fA,fG,hx,hy,o6,nM,jj]⟩
  exact⟨decide (q=p),λF H x y hx hy=>AR hx hy (g.isSome hq) (g.isSome Q)⟩
 let⟨i,R⟩:=U
 repeat'(first|refine fD z ?_|refine ee.c I ?_|refine ee.c fl ?_|refine sK (R _ _ _ _ Z Z) ?_|refine gI (gK _) (wK ?_)|fail)
 generalize hcc:(!cond tb i (!i))=cc;cases cc
 .conv=>whnf
  repeat'(first|refine fD z ?_|fail)
  refine S7 ?_;rintro j w ⟨k,hk,rfl⟩;conv=>whnf
  refine eW (λh=>?_) (λh=>?_)
  .exact Vp
  conv=>whnf
  repeat'(first|refine fD z ?_|refine ee.c I ?_|fail)
  cases tb
  .conv=>whnf
   exact lX
  conv=>whnf
  repeat'(first|exact uF|refine fD z ?_|refine fD fb ?_|refine fD fg ?_|refine fD e2 ?_|refine bK (λ_=>?_) λ_=>?_|fail)
 conv=>whnf
 exact lX
def Bn(G:ez)(K:Gk)(H:L gm):Prop:=∀e∈H,(∃s:L Nat,e.key=.J s)/\∃t l,e.val=.fz t 0/\K t=Y (.op 0 J l)/\ug G t 1
def Bn.oT(h:Bn G K H):∀e∈H,mg G .J .i64 e.key:=λe he=>Mm
def Bn.look(h:Bn G K H)(s:L Nat):∃v b,yF .J H .gi (.J s) G v b/\((b=dU/\v=.gi)\/∃t l,b=dT/\v=.fz t 0/\K t=Y (.op 0 J l)/\ug G t 1):=by
 obtain⟨v,b,o⟩:=rK (G:=G) (kd:=.J) (kk:=.i64) (zero:=.gi) (.J _ s) h.oT;refine⟨v,b,o,?_⟩;obtain⟨rfl,e,he,_,k2⟩|⟨rfl,e,_⟩:=o.2
 .obtain⟨_,t,l,a,r,m⟩:=h e he;exact .inr ⟨t,l,Z,by rw[<-k2];exact a,r,m⟩
 exact .inl ⟨Z,e⟩
def acm(C:fP P G)(g:FG P G K){p:S}(hK:K p=Y (.op d bo nb))(hen:Bn G K en):∃b:Bool,∀(m:T AO)(nx x I:S)(cn:Nat)(U N B W c5:A),m.dZ x=Y (.dY [U,N,B,.map I,W,c5])->m.dZ I=Y (.map en cn)->eX m nx->
  ∃r H',(r=.bool b/\(∀q o,m.dZ q=Y o->H'.ep.dZ q=Y o)/\eX H'.ep H'.dX)/\eL P G 95 [.ea x 0,.fz p 0] ⟨m,nx⟩ λr1 H1=>r1=r/\H1=H':=by
 refine gT λhM=>?_;obtain⟨nm,vos,vrs,vas,vgs,vss,os,rs,gs,as,ss,e0,q1,q2,q3,q4,q5,q6,q7,q8,q9,q10,q11,q12,q13,q14,l1,l2,l3,l4,l5⟩:=g.op hK;generalize w:iT nm [102,117,110,99,46,102,117,110,99]=b1;cases b1
 .generalize n:iT nm [102,117,110,99,46,99,97,108,108]=e;cases e
  .refine⟨dT,λm nx x I cn U N B W c5 k E s=>?_⟩;refine eL.fj (C.fs.h 95) (wK ?_);refine fD e0 ?_;rw[w];conv=>whnf
   rw[n];conv=>whnf
   exact⟨Z,λ_ _ h=>h,s⟩
  obtain⟨_,⟨at1,ab,rfl,hat⟩,fa⟩:=Dv C g hK [99,97,108,108,101,101];have z:=hat.Y;cases hat with
  |mk an akk ann Q avi avt ais ats h1 h2 h3 h4 h5 h6 h7 h8 h9=>
  obtain⟨v,bl,hl,hv⟩:=hen.look Q;obtain⟨rfl,rfl⟩|⟨t,nt,rfl,rfl,ht,hreg⟩:=hv
  .refine⟨dU,λm nx x I cn U N B W c5 k E s=>?_⟩;refine UY λm1 n1 i l m2 f a e=>?_;have ga:=gE f;have D:=a _ _ k;have u:=a _ _ E;refine gC ?_;repeat'(first|refine eu D ?_|refine eu ga ?_|refine sK (hl.1 _ _ _ _ _ _ _ _ Z u Z) ?_|refine gI (gK _) (wK ?_)|fail)
   refine gC ?_;repeat'(first|refine gI (gK _) (wK ?_)|fail)
   exact⟨a,e⟩
  obtain⟨nm',vos',vrs',vas',vgs',vss',os',rs',gs',as',ss',e0',q1',q2',q3',q4',q5',q6',q7',q8',q9',q10',_⟩:=g.op ht;have h0:0<O gs':=hreg _ _ _ _ _ _ _ gs' e0' q9';obtain⟨nb',hr⟩:=q10' _ (fB h0);obtain⟨o,vbs,bs,gg,ca,vops,as2,f0,f2,hb0,k0,k2,k3,k4⟩:=g.entry hr;have hel:=mY h0;have hel2:=mY hb0;obtain⟨_,⟨t1,a1,a2,a3,a4⟩,ft1⟩:=oa C g q2 q3 l1;obtain⟨_,⟨t2,b1,e,b3,b4⟩,ft2⟩:=oa C g k2 k3 k4;obtain⟨_,⟨R,rfl⟩,fe1⟩:=KR C a1 b1 a3 b3 M;obtain⟨_,⟨t3,d1,d2,d3,d4⟩,ft3⟩:=oa C g q4 q5 l2;obtain⟨_,⟨t4,x1,x2,x3,x4⟩,fr⟩:=KN C g ht;obtain⟨_,⟨bE2,rfl⟩,fe2⟩:=KR C d1 x1 d3 x3 M;refine⟨R&&bE2,λm nx x I cn U N B W c5 k E s=>?_⟩;refine UY λm1 n1 i l m2 f a e=>?_;have ga:=gE f;have D:=a _ _ k;have u:=a _ _ E;refine gC ?_;repeat'(first|refine eu D ?_|refine eu ga ?_|refine sK (hl.1 _ _ _ _ _ _ _ _ Z u Z) ?_|refine gI (gK _) (wK ?_)|fail)
  refine gC ?_;cases R
  .exact VZ
  exact VZ
 obtain⟨_,⟨s0,rfl,_⟩,fn⟩:=abd C g hK;obtain⟨v,bl,hl,hv⟩:=hen.look s0;have heq:∃bq:Bool,∀(F:T A)(H:eM)(x y:IX),x.ev G F=Y v->y.ev G F=Y (.fz p 0)->fA G dU F H (.gy .eql (.one .ea) dU x y)=Y (.val (.bool bq)):=by
  obtain⟨_,rfl⟩|⟨t,nt,_,rfl,ht,_⟩:=hv
  .exact⟨dU,λF H x y k hy=>by simp[fA,fG,k,hy,o6,nM,jj]⟩
  exact⟨decide (t=p),λF H x y k hy=>AR k hy (g.isSome ht) (g.isSome hK)⟩
 let⟨bq,hbq⟩:=heq
 refine⟨bq,λm nx x I cn U N B W c5 k E s=>?_⟩;refine eL.fj (C.fs.h 95) (wK ?_);refine fD e0 ?_;rw[w];conv=>whnf
 refine gC ?_;repeat'(first|refine eu k ?_|refine ee.c fn ?_|refine sK (hl.1 _ _ _ _ _ _ _ _ Z E Z) ?_|refine sK (hbq _ _ _ _ Z Z) ?_|refine gI (gK _) (wK ?_)|fail)
 exact⟨λ_ _ h=>h,s⟩
def acn(C:fP P G)(hv:fC vs v)(o:O vs=O xs)(hx:∀i (h:i<O vs)(h':i<O xs),fC xs[i] vs[i]/\fN xs[i]=dT)(hpx:∀x∈xs,∀c∈x,c.Pure)(f:ij xs<=4*eI)(E:O xs<=eI):
  ∃r D,((r=.ej/\xs.flatten=[]/\D=⟨.e,.h⟩)\/(r=.eC .h 1 0 (ij xs) (ij xs) dU/\D=⟨hp [(.h,.dY xs.flatten)],.i .h⟩))/\eL P G 131 [v] ⟨.e,.h⟩ λH t=>H=r/\t=D:=by
 refine gT λhM=>?_;refine UT λhvp hroom=>?_;exact eL.fj (C.fs.h 131) (by
  refine xB ?_;refine Ss ?_;rintro j vs' m ⟨k,b,rfl,rfl⟩;conv=>whnf
  refine eW (λh=>?_) (λh=>?_)
  .exact Sr
  refine UC λh hpr=>?_;by_cases hz:ij xs=0
  .refine UP ?_;rintro j vs' m ⟨k,b,rfl,rfl⟩;conv=>whnf
   refine eW (λh2=>?_) (λh2=>?_)
   .exact V1
   conv=>whnf
   have:xs.flatten=[]:=pG (by rw[Bd];exact hz);exact .inl ⟨Z,this,Z⟩
  generalize d:lh (.ofNat 0) (.ofNat (ij xs))=bb;cases bb with
  |false=>exact absurd (iK d) M
  |true=>
  refine VN ?_;rintro j vs' m ⟨k,b,rfl,rfl⟩;conv=>whnf
  refine eW (λh2=>?_) (λh2=>?_)
  .exact V3
  refine zO λh2=>?_;have a:xs.take k=xs:=oG M;rw[a,BZ];rw[List.replicate_zero,oi];exact .inr ⟨Z,Z⟩)
def aco{b:S->S}:∀{l:L A},iL l->l.map (A.M b)=l:=by
 intro l;induction l with
 |nil=>intro _;rfl
 |cons a l i=>intro h;obtain⟨s,rfl,_⟩:=h a ei;rw[jL,i λx v=>h x (by simp[v])];rfl
def acp(C:fP P G){v:A}{vs:L A}{xs:L (L A)}(a:fC vs v)(k:O vs=O xs)(hx:∀i (h:i<O vs)(p:i<O xs),fC xs[i] vs[i]/\fN xs[i]=dT)(hpx:∀x∈xs,∀c∈x,c.Pure)(l:ij xs<=4*eI)(E:O xs<=eI)(d:iL xs.flatten){nx:S}(j:eX m nx):
  ∃r H',((r=.ej/\xs.flatten=[])\/∃q,r=.eC q 1 0 (ij xs) (ij xs) dU/\H'.ep.dZ q=Y (.dY xs.flatten)/\nx.dV<=q.dV)/\(∀q o,m.dZ q=Y o->H'.ep.dZ q=Y o)/\eX H'.ep H'.dX/\nx.dV<=H'.dX.dV/\eL P G 131 [v] ⟨m,nx⟩ λH t=>H=r/\t=H':=by
 have e:v.Pure:=Sl.dW a λc hc=>TU;obtain⟨r,f,n,g⟩:=acn C a k hx hpx l E;obtain⟨H',hM⟩:=rN.ex m nx f;have b:eX H'.ep H'.dX:=λq o hq=>No;refine⟨_,H',?_,λq o hq=>by rw[hM.old q (j q o hq)];exact hq,b,by rw[hM.dX,kX];have:=f.dX.jD;omega,eL.shift C.dW (it e) g hM⟩;obtain⟨rfl,h2,_⟩|⟨rfl,rfl⟩:=n
 .exact .inl ⟨Z,h2⟩
 refine .inr ⟨up nx .h,Z,?_,by rw[kX];have:=S.jD S.h;omega⟩;rw[hM.ew .h (show(1:Nat)<3 by decide)];show(Y (AO.dY (xs.flatten.map (A.M (up nx)))))= _;rw[aco d]
structure Bo (G:ez)(K:Gk)(p:S)(us:List S):Prop where
 val:ke K us
 dY:∃nm vos vrs vas vgs vss vb os ss,∃ys:List (List S),G.fU p=some [.J nm,vos,vrs,vas,vgs,vss,vb]∧fC (fu os) vos∧fT 2 ss vss∧os.length≤eI∧ss.length≤eI∧ys.length=ss.length∧(∀i (h:i<ss.length)(h':i<ys.length),∃c va,ss[i]=[.fz c 0,va]∧fC (fu ys[i]) va∧ys[i].length≤eI)∧us=os++ys.flatten
def Bo.ex(g:FG P G K){p:S}{o:Nat}(n:K p=Y (.op d B o)):∃us,Bo G K p us:=by
 obtain⟨nm,y,D,f,w,E,H,rs,gs,as,C,z,q1,q2,q3,q4,q5,q6,q7,q8,q9,q10,u,q12,q13,q14,W,l2,l3,l4,l5⟩:=g.op n;have j:∀s∈C,∃d',vP K d' o s:=λs hs=>S2;have k:∀l:L (L A),(∀s∈l,∃d',vP K d' o s)->∃a:L (L S),O a=O l/\ke K a.flatten/\∀i (h:i<O l)(h':i<O a),∃c F,l[i]=[.fz c 0,F]/\fC (fu a[i]) F/\a[i].length<=eI:=by
  intro l;induction l with
  |nil=>intro _;exact⟨[],Z,(λq t=>by cases t),λi h=>by simp at h⟩
  |cons s l U=>
  intro h;obtain⟨a,b,r,m⟩:=U λx v=>h x xo;obtain⟨d',hs⟩:=h s ei;cases hs with
  |mk c F xs g1 I N Q=>
  refine⟨xs::a,by simp[b],λq t=>?_,λi R e=>?_⟩
  .simp only[nK,jf]at t;exact t.elim (N q) (r q)
  cases i with
  |zero=>exact⟨c,F,Z,I,Q⟩
  |succ i=>exact m i (by simpa using R) (by simpa using e)
 obtain⟨a,b,r,m⟩:=k C j;exact⟨H++a.flatten,λq t=>(jf.1 t).elim (q3 q) (r q),nm,y,D,f,w,E,_,H,C,a,z,q2,u,W,l4,b,m,Z⟩
def acq(C:fP P G){K:Gk}{p:S}{us:List S}(hu:Bo G K p us){m:T AO}{nx b1 l:S}{Q:A->eM->Prop}(I:Nat->T AO->S->Prop)(h0:I 0 m nx)(hb1:m.dZ b1=Y (.dY [.fz p 0]))(hbel:∀i m nx,I i m nx->eX m nx)
  (hkeep:∀i m nx o1 o2,I i m nx->I i ((m.set nx (Y (.dY o1))).set nx (Y (.dY o2))) nx.succ)(hst:∀i m nx,I i m nx->m.dZ b1=Y (.dY [.fz p 0]))
  (round:∀i (h:i<us.length) m nx,I i m nx->∃m' nx',I (i+1) m' nx'/\jy P G dT l [.fz us[i] 0] ⟨m,nx⟩ λr H'=>r=.bool dT/\H'=⟨m',nx'⟩)
  (hend:∀m nx,I us.length m nx->Q (.eK []) ⟨m,nx⟩):fK P G dT 150 [.gF l,.ea b1 0] ⟨m,nx⟩ Q:=by
 obtain⟨hval,nm,vos,vrs,vas,vgs,vss,vb,os,ss,ys,e0,q2,q11,l1,l4,hyl,hys,rfl⟩:=hu;have hM:eI=1048576:=rfl;refine fK.j7 (C.fs.h 150) (wK ?_);refine eu hb1 ?_;refine fD e0 ?_;refine fM q2 ?_;refine eT.jl (λj vs m nx=>∃k:Nat,k+j=(fu os).length/\I k m nx/\vs=[.gF l,.ea b1 0,vos,.int .i64 (.ofNat (fu os).length),.int .i64 (.ofNat k)]) (fu os).length rfl ⟨0,M,h0,rfl⟩ ?_;rintro j vs m1 nx1 ⟨k,hk,hI,rfl⟩;conv=>whnf
 refine eW (λh=>?_) (λh=>?_)
 .replace h:=gz h;have h':k<os.length:=by rw[iM]at h;exact h
  obtain⟨m2,nx2,hI2,hr⟩:=round k (by simp;omega) m1 nx1 hI;rw[uE h']at hr;conv=>whnf
  refine gW q2 h ?_;refine sK (jO rfl (mY h')) ?_;refine jy.mono hr λr H' e=>?_;obtain⟨rfl,rfl⟩:=e;conv=>whnf
  rw[je M];exact⟨rfl,j - 1,M,k+1,M,hI2,rfl⟩
 replace h:=iK h;have hk':k=os.length:=by rw[iM]at hk h;omega
 subst hk';conv=>whnf
 refine eu (hst _ _ _ hI) ?_;refine fD e0 ?_;refine fM q11.1 ?_;refine eT.jl (λj vs m nx=>∃k:Nat,k+j=ss.length/\I (os.length+(ys.take k).flatten.length) m nx/\vs=[.gF l,vss,.int .i64 (.ofNat ss.length),.int .i64 (.ofNat k)]) ss.length rfl ⟨0,M,by simpa using hI,rfl⟩ ?_;rintro j2 vs m2 nx2 ⟨k,jp,hI2,rfl⟩;conv=>whnf
 refine eW (λh2=>?_) (λh2=>?_)
 .replace h2:=gz h2;have hy:k<ys.length:=M
  obtain⟨c,va,es,hva,hvl⟩:=hys k h2 hy;have hone:fN [A.fz c 0,va]=dT:=by obtain⟨rfl,_,_⟩|⟨t,_,rfl,_⟩:=hva<;>rfl
  conv=>whnf
  refine gW q11.1 h2 ?_;refine fH (lN rfl q11.2 h2) ?_;rw[es];conv=>whnf
  refine A0 (wK ?_);refine sK (ip (cs':=[.fz c 0,va]) rfl rfl fY rfl hone rfl) ?_;refine Di ?_;have hI3:=hkeep _ _ _ [.gi,.ej] [.fz c 0,va] hI2;have g3:(((m2.set nx2 (Y (.dY [.gi,.ej])))).set nx2 (Y (.dY [.fz c 0,va]))).dZ nx2=Y (.dY [.fz c 0,va]):=fY;generalize((m2.set nx2 (Y (.dY [.gi,.ej])))).set nx2 (Y (.dY [.fz c 0,va]))=m3 at hI3 g3⊢;conv=>whnf
  refine eu g3 ?_;refine fM hva ?_;refine eT.jl (λj3 vs m nx=>∃k3:Nat,k3+j3=(fu ys[k]).length/\I (os.length+(ys.take k).flatten.length+k3) m nx/\vs=[.gF l,vss,.int .i64 (.ofNat ss.length),.int .i64 (.ofNat k),va,.int .i64 (.ofNat (fu ys[k]).length),.int .i64 (.ofNat k3)]) (fu ys[k]).length rfl ⟨0,M,hI3,rfl⟩ ?_;rintro j3 vs m4 nx4 ⟨k3,xj,hI4,rfl⟩;have hfl:(ys.take (k+1)).flatten=(ys.take k).flatten++ys[k]:=by rw[zR hy,qE];simp
  conv=>whnf
  refine eW (λh3=>?_) (λh3=>?_)
  .replace h3:=gz h3;have h3':k3<ys[k].length:=by rw[iM]at h3;exact h3
   have hsplit:ys.flatten=(ys.take k).flatten++(ys[k]++(ys.drop (k+1)).flatten):=by
    conv=>lhs;rw[<-EL (k+1) ys]
    rw[qE,hfl,np]
   have hlt:os.length+(ys.take k).flatten.length+k3<(os++ys.flatten).length:=by rw[hsplit];simp only[iN];omega
   obtain⟨m5,nx5,hI5,hr⟩:=round _ hlt m4 nx4 hI4;have hget:(os++ys.flatten)[os.length+(ys.take k).flatten.length+k3]'hlt=ys[k][k3]:=by
    have:(os++ys.flatten)[os.length+(ys.take k).flatten.length+k3]? =Y ys[k][k3]:=by rw[Ca M,hsplit,Ca M,xt M];rw[show os.length+(ys.take k).flatten.length+k3 - os.length - (ys.take k).flatten.length=k3 by omega];exact jq h3'
    rw[jq hlt]at this;exact gu this
   rw[hget]at hr;conv=>whnf
   refine gW hva h3 ?_;refine sK (jO rfl (mY h3')) ?_;refine jy.mono hr λr H' e=>?_;obtain⟨rfl,rfl⟩:=e;conv=>whnf
   rw[je M];exact⟨rfl,j3 - 1,M,k3+1,M,hI5,rfl⟩
  replace h3:=iK h3;rw[iM]at xj h3;conv=>whnf
  rw[je M];refine⟨rfl,j2 - 1,M,k+1,M,?_,rfl⟩;rw[hfl,iN,<-wg,show ys[k].length=k3 by omega];exact hI4
 replace h2:=iK h2;conv=>whnf
 have:ys.take k=ys:=oG M;rw[this]at hI2;exact hend _ _ (by rw[iN];exact hI2)
def yT(m:T AO)(v:A)(w:L A)(t:Option S):Prop:=Ap m 1 v w t\/∃q,v=.eC q 1 0 (O w) (O w) dU/\m.dZ q=Y (.dY w)/\t=Y q
def QU{F:T A}{nx:S}{x y:IX}{v p:A}{w ew:L A}{t:Option S}(a:yT m v w t)(g:x.ev G F=Y v)(i:y.ev G F=Y p)(z:fC ew p)(K:fN ew=dT)(f:0<O ew)(n:mU (O w+O ew) b=dT):
  fA G dU F ⟨m,nx⟩ (.bi (.append 1 b) [x,y])=Y (.lH t 1 (O w+O ew) (w++ew)):=by
 obtain⟨_,r,_⟩:=Gv (H:=⟨m,nx⟩) z;have d:Nat.beq (O ew) (O ew*1)=dT:=by rw[nr,kO]
 obtain⟨k,c⟩:∃k,O ew=k+1:=⟨O ew - 1,M⟩;obtain a|⟨q,rfl,hq,rfl⟩:=a
 .cases a with
  |nil=>rw[c]at r d n⊢;simp only[uH,lg]at n⊢;simp only[fA,fG,ko,g,i,jm,jb,iU,r,K,c,d,qG,gZ,nN,n,jx,uz]
  |eG j w t u o=>
  have s:j=O w:=M
  subst s;rw[c]at r d n⊢;simp only[fA,fG,ko,g,i,jm,jb,iU,r,K,c,d,qG,gZ,nN,n,qA,jx,u]
 have l:Nat.ble (O w+O ew) (O w)=dU:=by rw[pB];intro h;rw[jS]at h;omega
 have N:cut 0 (O w*1) w=Y w:=by
  have e:(w.drop 0).take (O w*1)=w:=by rw[En,oG M]
  have:Nat.beq (O w) (O w*1)=dT:=by rw[nr,kO]
  simp only[cut,e,this,gZ]
 rw[c]at r d l n⊢;simp only[fA,fG,ko,g,i,jm,jb,iU,r,K,c,d,qG,gZ,nN,li,hq,qA,l,jx,n,N]
def QV{F:T A}{nx:S}{x y:IX}{v e:A}{t:Option S}(a:yT m v w t)(c:x.ev G F=Y v)(d:y.ev G F=Y e)(f:fC [] e):fA G dU F ⟨m,nx⟩ (.bi (.append 1 b) [x,y])=Y (.val v):=by
 obtain⟨_,r,_⟩:=Gv (H:=⟨m,nx⟩) f;obtain a|⟨q,rfl,hq,rfl⟩:=a
 .cases a with
  |nil=>simp[fA,fG,ko,c,d,iU,r,fN,nN]
  |eG j w t g o=>simp[fA,fG,ko,c,d,iU,r,fN,nN]
 simp[fA,fG,ko,c,d,iU,r,fN,nN]
structure Gr (m0:T AO)(n0:S)(m:T AO)(nx:S)(v:A)(cs:List A):Prop where
 old:∀q o,m0.dZ q=some o→m.dZ q=some o
 eH:eX m nx
 le:n0.dV≤nx.dV
 ap:∃t,yT m v cs t∧∀q,t=some q→n0.dV≤q.dV
def Gr.iW{c m:T AO}{i nx:S}{w ew:L A}{t:Option S}(h:Gr c i m nx v w)(a:eX c i)(j:∀q,t=Y q->i.dV<=q.dV):Gr c i (lC t m nx) nx.succ (.eG 1 (O w+O ew) (w++ew) (.open nx)) (w++ew):=by refine⟨λq o b=>?_,h.eH.iW,by rw[S.gG];have:=h.le;omega,Y nx,.inl (.eG _ _ _ oQ ei),λq e=>by cases e;exact h.le⟩;have K:=a q o b;rw[jZ (by have:=h.eH q o (h.old q o b);omega) (λe=>by have:=j q e;omega)];exact h.old q o b
def yT.len{F:T A}{x:IX}{t:Option S}(a:yT m v w t)(hx:x.ev G F=Y v):fA G dU F H (.bi .nO [x])=Y (.val (.int .i64 (.ofNat (O w)))):=by
 obtain a|⟨q,rfl,hq,rfl⟩:=a
 .cases a with
  |nil=>simp[fA,fG,ko,hx,iU]
  |eG j w t b o=>
  have e:j=O w:=M
  subst e;exact Eg
 exact Eg
def yT.dZ{t:Option S}(d:yT m v w t)(e:j<O w):∃a,(∀(F:T A)(H:eM)(x y:IX)(k:IntKind),x.ev G F=Y v->y.ev G F=Y (.int k (.ofNat j))->fA G dU F H (.lj (.sl 1) x y)=Y (.val a))/\
  ∀(F:T A)(c:T AO)(nx:S)(x:IX),(∀q r,t=Y q->m.dZ q=Y (.dY r)->c.dZ q=Y (.dY r))->x.ev G F=Y a->fA G dU F ⟨c,nx⟩ (.load J x)=Y (.val w[j]):=by
 obtain d|⟨q,rfl,hq,rfl⟩:=d
 .cases d with
  |nil=>simp at e
  |eG i w t h o=>
  have C:i=O w:=M
  subst C;exact⟨.fF w (j*1),λF H x y k b g=>qg b g Z e,λF c nx x f b=>jO b (by rw[kO];simp[part,e])⟩
 exact⟨.ea q (0+j*1),λF H x y k b g=>nW b g Z e,λF c nx x f b=>lB b (f q _ Z hq) (by rw[nG];simp[part,e])⟩
structure wW (P:Program)(G:ez)(K:Gk)(p:S)(ts:List A):Prop where
 types:iH P G ts
 dY:∃nm vos vrs vas vgs vss vb os rs gs,∃(t1 t2 t4:List A)(v1 v2 v4:A)(B:S→List S)(Ta:S→A×List A),G.fU p=some [.J nm,vos,vrs,vas,vgs,vss,vb]∧fC (fu os) vos∧fC (fu rs) vrs∧fC (fu gs) vgs∧gs.length≤eI∧
  ee P G 85 [vos] v1∧fC t1 v1∧iL t1∧t1.length≤eI∧ee P G 85 [vrs] v2∧fC t2 v2∧iL t2∧t2.length≤eI∧ee P G 116 [.fz p 0] v4∧fC t4 v4∧iL t4∧t4.length≤eI∧
  (∀r∈gs,∃o vbs,G.fU r=some [.fz o 0,vbs]∧fC (fu (B r)) vbs∧(B r).length≤200∧∀b∈B r,∃gg va vops,G.fU b=some [gg,va,vops]∧ee P G 85 [va] (Ta b).1∧fC (Ta b).2 (Ta b).1∧iL (Ta b).2∧(Ta b).2.length≤eI)∧
  ts=t1++t2++(gs.map fun r=>((B r).map fun b=>(Ta b).2).flatten).flatten++(match iT nm [102,117,110,99,46,102,117,110,99]with|true=>t4|false=>[])
def iH.iW{s q:L A}(h:iH P G s)(k:iH P G q):iH P G (s++q):=λx v=>(jf.1 v).elim (h x) (k x)
def iH.kY{a:L (L A)}(h:∀s∈a,iH P G s):iH P G a.flatten:=λx v=>by obtain⟨l,K,r⟩:=lE.1 v;exact h l K x r
def wW.ex(C:fP P G){K:Gk}(g:FG P G K){p:S}{d:Nat}{U:Option S}{l:Nat}(hK:K p=Y (.op d U l)):∃ts,wW P G K p ts:=by
 classical
 obtain⟨nm,Q,R,f,N,t,os,rs,gs,as,ss,e0,q1,q2,q3,q4,q5,q6,q7,q8,q9,z,q11,q12,q13,q14,l1,l2,l3,l4,l5⟩:=g.op hK;obtain⟨v1,⟨t1,a1,a2,a3,a4⟩,f1⟩:=oa C g q2 q3 l1;obtain⟨v2,⟨t2,b1,b2,b3,b4⟩,w⟩:=oa C g q4 q5 l2;obtain⟨v4,⟨t4,x1,x2,x3,x4⟩,f4⟩:=KN C g hK;have W:∀r,∃H:L S,∀d l,K r=Y (.fO d l)->∃o m,G.fU r=Y [.fz o 0,m]/\fC (fu H) m/\O H<=200/\∀b∈H,K b=Y (.eC d l):=λr=>by
  by_cases h:∃d l,K r=Y (.fO d l)
  .let⟨d,l,n⟩:=h
   obtain⟨o,U,y,m,H,f0,_,w,f3,_,f5,f6⟩:=g.fO n;have q:O H<=200:=by rw[f3];exact f5
   exact⟨H,λd' nb'' i=>by rw[n]at i;cases i;exact⟨o,m,f0,w,q,f6⟩⟩
  exact⟨[],λd l n=>absurd ⟨d,l,n⟩ h⟩
 have hT:∀b,∃Ta:A×L A,∀d l,K b=Y (.eC d l)->∃D F e,G.fU b=Y [D,F,e]/\ee P G 85 [F] Ta.1/\fC Ta.2 Ta.1/\iL Ta.2/\Ta.2.length<=eI/\iH P G Ta.2:=λb=>by
  by_cases h:∃d l,K b=Y (.eC d l)
  .let⟨d,l,j⟩:=h
   obtain⟨D,f,e,as,ops,I,_,a,c,_,_,_,k7,_⟩:=g.eC j;obtain⟨vt,⟨tt,y1,y2,y3,y4⟩,ft⟩:=oa C g a c k7;have k:O tt<=eI:=by rw[y4];exact k7
   exact⟨(vt,tt),λ_ _ _=>⟨_,f,e,I,ft,y1,y3,k,y2⟩⟩
  exact⟨(.ej,[]),λd l j=>absurd ⟨d,l,j⟩ h⟩
 let B:=λr=>Classical.choose (W r)
 let Ta:=λb=>Classical.choose (hT b)
 have s:=λr=>rh (W r);have u:=λb=>rh (hT b);refine⟨_,?_,nm,Q,R,f,N,t,_,os,rs,gs,t1,t2,t4,v1,v2,v4,B,Ta,e0,q2,q4,q9,l3,f1,a1,a3,M,w,b1,b3,M,f4,x1,x3,x4,λr n=>?_,Z⟩
 .refine((a2.iW b2).iW (iH.kY λxs v=>?_)).iW ?_
  .obtain⟨r,n,rfl⟩:=gS.1 v;obtain⟨y,i⟩:=z r n;obtain⟨_,_,_,_,_,E⟩:=s r _ _ i;refine iH.kY λys hy=>?_;obtain⟨b,j,rfl⟩:=gS.1 hy;obtain⟨_,_,_,_,_,_,_,_,h7⟩:=u b _ _ (E b j);exact h7
  split
  .exact x2
  exact λx v=>by cases v
 obtain⟨y,i⟩:=z r n;obtain⟨o,m,h1,h2,h3,E⟩:=s r _ _ i;refine⟨o,m,h1,h2,h3,λb j=>?_⟩;obtain⟨D,F,e,I,k1,a,c,k4,_⟩:=u b _ _ (E b j);exact⟨D,F,e,I,k1,a,c,k4⟩
def acr(C:fP P G){p:S}(hu:wW P G K p ts)(f:O ts*16<=kr){nx b1 l:S}{Q:A->eM->Prop}(I:Nat->T AO->S->Prop)(h0:I 0 m nx)(hb1:m.dZ b1=Y (.dY [.fz p 0]))(hbel:eX m nx)
  (hkeep:∀H w,(∀q o,m.dZ q=Y o->H.dZ q=Y o)->eX H w->nx.dV<=w.dV->I 0 H w)
  (round:∀i (h:i<O ts)(m1:T AO)(nx1:S),I i m1 nx1->∃H w,I (i+1) H w/\(∀q r,m1.dZ q=Y (.dY r)->nx.dV<=q.dV->H.dZ q=Y (.dY r))/\jy P G dT l [ts[i]] ⟨m1,nx1⟩ λr H'=>r=.bool dT/\H'=⟨H,w⟩)
  (hend:∀m nx,I (O ts) m nx->Q (.eK []) ⟨m,nx⟩):fK P G dT 148 [.gF l,.ea b1 0] ⟨m,nx⟩ Q:=by
 obtain⟨hty,nm,vos,vrs,vas,vgs,vss,vb,os,rs,E,n,u,t4,v1,v2,v4,B,Ta,e0,q2,q4,q9,l3,f1,a1,a3,a4,f2,b1',b3,b4,f4,x1,x3,x4,hB,rfl⟩:=hu;refine gT λhM=>?_;have hst:iL [n,u].flatten:=λx hx=>by simp only[nK,zW,oi,jf]at hx;exact hx.elim (a3 x) (b3 x)
 have D:∀{t:L A},iL t->fN t=dT:=λh=>Dj λx hx=>by obtain⟨s,rfl,_⟩:=h x hx;rfl
 obtain⟨rc,⟨mc,nc⟩,hrc,N,R,lec,fcc⟩:=acp C (v:=.eG 1 2 [v1,v2] .fE) (vs:=[v1,v2]) (xs:=[n,u]) BV Z (λi h h'=>by
  match i,h,h' with
  |0,_,_=>exact⟨a1,D a3⟩
  |1,_,_=>exact⟨b1',D b3⟩
  |i+2,h,_=>simp at h;omega) (λx hx c hc=>by have:c∈[n,u].flatten:=lE.2 ⟨x,hx,hc⟩;obtain⟨s,rfl,_⟩:=hst c this;exact jX _) (by simp[ij];omega) lW hst hbel
 dsimp only at hrc N R lec;refine fK.j7 (C.fs.h 148) (wK ?_);refine gC ?_;repeat'(first|refine eu hb1 ?_|refine fD e0 ?_|refine ee.c f1 ?_|refine ee.c f2 ?_|refine sK (KZ Z Z (Sl.cells a1) b1') ?_|refine gI (gK _) (wK ?_)|fail)
 refine fK.one _ _ ?_ fcc;conv=>whnf
 repeat'(first|refine eu (N _ _ hb1) ?_|refine fD e0 ?_|refine gI (gK _) (wK ?_)|fail)
 refine fM q9 ?_;have G0:Gr m nx mc nc rc (n++u):=by
  refine⟨N,R,lec,?_⟩;obtain⟨rfl,e⟩|⟨q,rfl,hq,hle⟩:=hrc
  .have:n++u=[]:=by simpa using e
   rw[this];exact⟨J,.inl .nil,λq e=>by cases e⟩
  have e1:[n,u].flatten=n++u:=ei
  have e2:ij [n,u]=O (n++u):=by simp[ij]
  rw[e1]at hq;rw[e2];exact⟨Y q,.inr ⟨q,Z,hq,Z⟩,λq' e=>by cases e;exact hle⟩
 clear fcc hrc;have hpre:∀{a b:L A},O a<=O ((n++u++(E.map λr=>((B r).map λb=>(Ta b).2).flatten).flatten)++b)->True:=λ_=>trivial;refine eT.jl (λj vs H w=>∃(k:Nat)(v:A),k+j=O (fu E)/\Gr m nx H w v (n++u++((E.take k).map λr=>((B r).map λb=>(Ta b).2).flatten).flatten)/\vs=[.gF l,.ea b1 0,v,vgs,V (O (fu E)),V k]) (O (fu E)) Z ⟨0,rc,M,by simpa using G0,Z⟩ ?_;clear G0 N R lec;rintro j vs mc nc ⟨k,rc,hk,G1,rfl⟩;conv=>whnf
 refine eW (λh=>?_) (λh=>?_)
 .replace h:=gz h;have h':k<O E:=by rw[iM]at h;exact h
  obtain⟨o,vbs,r0,r1,r2,hb⟩:=hB _ (fB h');have hgk:((E.take (k+1)).map λr=>((B r).map λb=>(Ta b).2).flatten).flatten=((E.take k).map λr=>((B r).map λb=>(Ta b).2).flatten).flatten++((B E[k]).map λb=>(Ta b).2).flatten:=by rw[zR h',oj,qE];simp
  generalize((E.take k).map λr=>((B r).map λb=>(Ta b).2).flatten).flatten=pre at G1 hgk;conv=>whnf
  refine gW q9 h ?_;refine Cf ?_;refine fD r0 ?_;refine fM r1 ?_;refine eT.jl (λj2 vs H w=>∃(g:Nat)(v:A),g+j2=O (fu (B E[k]))/\Gr m nx H w v (n++u++pre++(((B E[k]).take g).map λb=>(Ta b).2).flatten)/\vs=[.gF l,.ea b1 0,v,vgs,V (O (fu E)),V k,vbs,V (O (fu (B E[k]))),V g]) (O (fu (B E[k]))) Z ⟨0,rc,M,by simpa using G1,Z⟩ ?_;rintro j2 vs m2 n2 ⟨g,rc2,jp,G2,rfl⟩;conv=>whnf
  refine eW (λh2=>?_) (λh2=>?_)
  .replace h2:=gz h2;have h2':g<O (B E[k]):=by rw[iM]at h2;exact h2
   obtain⟨gg,va,vops,k0,ft,y1,y3,y4⟩:=hb _ (fB h2');have hbk:(((B E[k]).take (g+1)).map λb=>(Ta b).2).flatten=(((B E[k]).take g).map λb=>(Ta b).2).flatten++(Ta (B E[k])[g]).2:=by rw[zR h2',oj,qE];simp
   have hle:O (n++u++pre++(((B E[k]).take g).map λb=>(Ta b).2).flatten)+(Ta (B E[k])[g]).2.length<=O (n++u++(E.map λr=>((B r).map λb=>(Ta b).2).flatten).flatten++(match iT nm [102,117,110,99,46,102,117,110,99]with|true=>t4|false=>[])):=by
    have e1:E=E.take (k+1)++E.drop (k+1):=(EL _ _).symm;have e2:B E[k]=(B E[k]).take (g+1)++(B E[k]).drop (g+1):=(EL _ _).symm;have e3:O (((B E[k]).map λb=>(Ta b).2).flatten)=O ((((B E[k]).take (g+1)).map λb=>(Ta b).2).flatten)+O ((((B E[k]).drop (g+1)).map λb=>(Ta b).2).flatten):=by
     conv=>lhs;rw[e2]
     rw[oj,qE,iN]
    have e4:O ((E.map λr=>((B r).map λb=>(Ta b).2).flatten).flatten)=O (((E.take (k+1)).map λr=>((B r).map λb=>(Ta b).2).flatten).flatten)+O (((E.drop (k+1)).map λr=>((B r).map λb=>(Ta b).2).flatten).flatten):=by
     conv=>lhs;rw[e1]
     rw[oj,qE,iN]
    rw[hgk,iN]at e4;rw[hbk,iN]at e3;simp only[iN];omega
   have hrm:=ny (nL 16 hle) f;clear hle;generalize(((B E[k]).take g).map λb=>(Ta b).2).flatten=pre2 at G2 hbk hrm;generalize(Ta (B E[k])[g])=tb at ft y1 y3 y4 hbk hrm
   let⟨t,W,htg⟩:=G2.ap
   conv=>whnf
   refine gW r1 h2 ?_;refine sK (jO Z (mY h2')) ?_;refine fD k0 ?_;refine ee.c ft ?_;by_cases hz:tb.2=[]
   .rw[hz]at y1;refine sK (QV W Z Z y1) ?_;refine iu ?_;exact⟨Z,j2 - 1,M,g+1,rc2,M,by rw[hbk,hz,oi];exact G2,Z⟩
   have hpos:0<tb.2.length:=by cases h:tb.2 with|nil=>exact absurd h hz|cons a l=>simp
   refine sK (QU W Z Z y1 (D y3) hpos (room M M)) ?_;refine sR (wK ?_);refine iu ?_;exact⟨Z,j2 - 1,M,g+1,_,M,by rw[hbk,<-np];exact G2.iW hbel htg,Z⟩
  refine zO λh2=>?_;rw[je (by rw[iM]at h;omega)];have:(B E[k]).take g=B E[k]:=oG (by rw[iM]at h2;exact h2);rw[this]at G2;exact⟨Z,j - 1,M,k+1,rc2,M,by rw[hgk,<-np];exact G2,Z⟩
 replace h:=iK h;have hkk:E.take k=E:=oG (by rw[iM]at h;exact h);rw[hkk]at G1;generalize hnm:iT nm [102,117,110,99,46,102,117,110,99]=bn at*;conv=>whnf
 refine eu (G1.old _ _ hb1) ?_;refine fD e0 ?_;rw[hnm];cases bn
 .obtain⟨m5,F⟩:∃m5,m5=mc:=⟨_,Z⟩;obtain⟨v5,z⟩:∃v5,v5=rc:=⟨_,Z⟩;obtain⟨d,y⟩:∃d,d=n++u++(E.map λr=>((B r).map λb=>(Ta b).2).flatten).flatten++(match dU with|true=>t4|false=>[]):=⟨_,Z⟩;have G5:Gr m nx m5 nc v5 d:=by rw[F,z,y,oi];exact G1
  rw[<-F,<-z];exact MJ
 obtain⟨d,y⟩:∃d,d=n++u++(E.map λr=>((B r).map λb=>(Ta b).2).flatten).flatten++(match dT with|true=>t4|false=>[]):=⟨_,Z⟩;have U:d=n++u++(E.map λr=>((B r).map λb=>(Ta b).2).flatten).flatten++t4:=y;have hrm:O d*16<=kr:=by rw[y];exact f
 let⟨t,W,htg⟩:=G1.ap
 conv=>whnf
 refine eu (G1.old _ _ hb1) ?_;refine ee.c f4 ?_;by_cases hz:t4=[]
 .rw[hz]at x1;refine sK (QV W Z Z x1) ?_;obtain⟨m5,F⟩:∃m5,m5=mc:=⟨_,Z⟩;obtain⟨v5,z⟩:∃v5,v5=rc:=⟨_,Z⟩;have G5:Gr m nx m5 nc v5 d:=by rw[F,z,U,hz,oi];exact G1
  rw[<-F,<-z];exact MJ
 have hpos:0<O t4:=by cases h:t4 with|nil=>exact absurd h hz|cons a l=>simp
 rw[U,iN]at hrm;refine sK (QU W Z Z x1 (D x3) hpos (room M M)) ?_;refine sR ?_;have G5':=G1.iW (ew:=t4) hbel htg;rw[<-U]at G5'⊢;obtain⟨v5,z⟩:∃v5,v5=A.eG 1 (O (n++u++(E.map λr=>((B r).map λb=>(Ta b).2).flatten).flatten)+O t4) d (.open nc):=⟨_,Z⟩;rw[<-z]at G5'⊢;obtain⟨m5,F⟩:∃m5,m5=lC t mc nc:=⟨_,Z⟩;rw[<-F]at G5'⊢;have G5:=G5';exact MJ
def yU(f:Nat):Nat×Nat:=match f with
 |62=>(1,0)|63=>(1,0)|64=>(1,0)|66=>(1,0)|67=>(0,2)|68=>(2,1)|69=>(0,2)| _=>(0,0)
def acs(C:iF P G)(g:FG P G K){p:S}(e:Be G B)(n:K p=Y (.op d B l))(h:56<=f)(r:f<=70)(a:f=56\/d≠0)
  (w:∀j,j<(yU f).1->Bc G p j)(b:ug G p (yU f).2):oR P G f p:=by
 have:f=56\/f=57\/f=58\/f=59\/f=60\/f=61\/f=62\/f=63\/f=64\/f=65\/f=66\/f=67\/f=68\/f=69\/f=70:=M
 have c:=C.tofP;obtain rfl|rfl|rfl|rfl|rfl|rfl|rfl|rfl|rfl|rfl|rfl|rfl|rfl|rfl|rfl:=this
 .exact abk c p
 .exact abn c g n M
 .exact abl c g n M
 .exact abm c g n M
 .exact abr C g n
 .exact abq C g n
 .exact abs C g n (w 0 gP)
 .exact abt C g n (w 0 gP)
 .exact abu C g n (w 0 gP)
 .exact abp c g n
 .exact abv C g n (w 0 gP)
 .exact aby c g n b
 .exact abA c g n b (w 1 gP)
 .exact abz c g n b
 exact abC c g e n M
def yV(P:Program)(G:ez)(f:Nat)(x:L A):Prop:=j9 (sO P G) x/\∃v p a F b m Q D,x=[.J v,p,a,F,.int .i64 b,.int .i64 m,Q]/\fC D p/\ee P G 48 [.agg x] (.bool dT)/\(∀n,AZ D n->(yU f).1<=n)/\(.ofNat (yU f).2)<=b
def fC.lT{s q:L A}(h:fC s v)(k:fC q v):s=q:=by
 obtain⟨rfl,_,h⟩|⟨t,_,rfl,_⟩:=h
 .obtain⟨_,_,k⟩|⟨t,_,e,_⟩:=k
  .rw[h,k]
  cases e
 obtain⟨e,_,_⟩|⟨a,_,e,_⟩:=k
 .cases e
 injection e with _ _ h _
structure Lk (P:Program)(G:ez)(K:Gk)(p:S)(x:List A)(e1 e2:Int)(vin vout out:A):Prop where
 Ll:∃nm vos vrs vas vgs vss vb,G.fU p=some [.J nm,vos,vrs,vas,vgs,vss,vb]∧ee P G 85 [vos] vin∧ee P G 85 [vrs] vout
 acu:ee P G 87 [.fz p 0] out
 fits:ee P G 86 [.agg x,out] (.int .i64 e1)
 mat:ee P G 88 [.agg x,vin,vout] (.int .i64 e2)
 dY:∀f d bo nb,K p=some (.op d bo nb)→e1=0→e2≠61→56≤f→f≤70→(f=56∨d≠0)→yV P G f x→Be G bo→oR P G f p
def Lk.ex(C:iF P G)(g:FG P G K){p:S}(n:K p=Y (.op d bo nb)){x:L A}(hx:j9 DAny x):∃Q y m b u,Lk P G K p x Q y m b u:=by
 obtain⟨nm,vos,vrs,vas,vgs,vss,os,rs,gs,as,ss,z,q1,q2,q3,q4,q5,q6,q7,q8,q9,q10,q11,q12,q13,q14,l1,l2,l3,l4,l5⟩:=g.op n;obtain⟨m,⟨t1,a1,a2,a3,a4⟩,R⟩:=oa C.tofP g q2 q3 l1;obtain⟨b,⟨t2,b1,b2,b3,b4⟩,U⟩:=oa C.tofP g q4 q5 l2;obtain⟨_,⟨u,H,rfl,hout⟩,fo⟩:=abj C.tofP g n z q9 q11;obtain⟨e,F,i,hbq⟩:∃e,ee P G 48 [.agg x] (.bool e)/\(e=dT->j9 (sO P G) x)/\∀f,yV P G f x->e=dT:=by
  by_cases hq:∃f,yV P G f x
  .obtain⟨f,h1,_,_,_,_,_,_,_,_,rfl,_,r,_⟩:=hq;exact⟨dT,r,λ_=>h1,λ_ _=>Z⟩
  obtain⟨_,⟨e,rfl,i⟩,F⟩:=PK C hx;exact⟨e,F,i,λf h=>absurd ⟨f,h⟩ hq⟩
 have t:=hx;cases hx with
 |mk dn vi vo va zr zs vt is N I ts h1 r h3 h4 h5 h6 h7 h8 h9 o h11 h12 h13 q=>
 obtain⟨_,⟨Q,rfl,he1⟩,ff⟩:=aao C (os:=N) (is:=is) (ts:=ts) t h8 h9 o F hout;obtain⟨_,⟨y,rfl,he2⟩,fm⟩:=aal C (as:=I) (ts:=ts) t r h3 h5 h6 F (λhb=>by
  cases i hb with
  |mk _ _ _ _ _ _ _ is' os' H ts' h1 h2' h3 h4 h5' h6 h7 h8 h9 o h11 h12 h13 q=>have r1:=fC.lT r h2';have r2:=fC.lT h5 h5';subst r1;subst r2;exact q.2) a1 a3 a2 M b1 b3 b2 M
 refine⟨Q,y,m,b,_,⟨_,_,_,_,_,_,_,z,R,U⟩,fo,ff,fm,?_⟩;intro f d' bo' nb' s z1 z2 hf1 hf2 hd c ow;rw[n]at s;cases s;have hbt:e=dT:=hbq f c
 let⟨_,nm',vi',vo',va',zr',zs',vt',is',ex,g1,g2,g3,g4⟩:=c
 cases ex;have r1:=fC.lT r g1;subst r1;have hl:=he2 hbt z2;have hn:=g3 _ hl;have hz:=(he1 z1).1;refine acs C g ow n hf1 hf2 hd (λj hj=>?_) ?_
 .intro nm2 B D v w E vb2 os2 a l;rw[z]at a;cases a;have:=fC.lT q2 l;have k:O (fu os)=O (fu os2):=by rw[this]
  rw[iM,iM]at k;omega
 intro nm2 B D v w E vb2 W a l;rw[z]at a;cases a;have:=fC.lT q9 l;have k:O (fu gs)=O (fu W):=by rw[this]
 rw[iM,iM]at k;have:(Int.ofNat (yU f).2)<=Int.ofNat (O gs):=by rw[<-hz];exact g4
 have:=Int.ofNat_le.1 this;omega
def jy.wz{K:A->eM->Prop}(h:jy P G dT l a H K):∃r D,K r D/\jy P G dT l a H λd t=>d=r/\t=D:=by
 cases h with
 |any h _=>cases h
 |one r D b c=>exact⟨r,D,b,.one r D ⟨Z,Z⟩ c⟩
structure Ck where
 (x xd xf xn xr mp:S)
 (cd cf cn cr:Nat)
 (c0:A)
 (ed ef en er:List gm)
structure Ck.Ok (k:Ck)(P:Program)(G:ez)(K:Gk):Prop where
 fX:∀e∈k.ed,∃(s:List Nat)(y:List A),e.key=.J s∧e.val=.agg y∧j9 DAny y
 tru:wV k.ef
 nam:Bn G K k.en
 GJ:∀e∈k.er,∃(s:List Nat)(f:Nat),e.key=.J s∧e.val=.func (.func f) [] []∧56≤f∧f≤70∧(s=ql→f=56)∧∀e'∈k.ed,∀y,e'.key=.J s→e'.val=.agg y→yV P G f y
structure Ck.B (k:Ck)(K:Gk)(fv:S→A)(m:T AO)(nx:S):Prop where
 dY:m.dZ k.x=some (.dY [k.c0,.map k.xd,.map k.xf,.map k.xn,.func (.func 23) [.map k.mp] [],.map k.xr])
 d:m.dZ k.xd=some (.map k.ed k.cd)
 f:m.dZ k.xf=some (.map k.ef k.cf)
 n:m.dZ k.xn=some (.map k.en k.cn)
 r:m.dZ k.xr=some (.map k.er k.cr)
 v:∃es clock,vR K fv es∧m.dZ k.mp=some (.map es clock)
 eH:eX m nx
 ne:k.xd≠k.mp∧k.xf≠k.mp∧k.xn≠k.mp∧k.xr≠k.mp
def Kp(a:S)(m x:T AO):Prop:=∀q o,q≠a->m.dZ q=Y o->x.dZ q=Y o
def Kp.refl(m:T AO):Kp a m m:=λ_ _ _ h=>h
def Kp.trans{a b c:T AO}(h:Kp d a b)(k:Kp d b c):Kp d a c:=λq o t K=>k q o t (h q o t K)
def Kp.old{c:S}{a b:T AO}(h:∀q o,a.dZ q=Y o->b.dZ q=Y o):Kp c a b:=λq o _ K=>h q o K
def Ck.B.QW{k:Ck}{b:S->A}{nx:S}(h:k.B K b m nx):k.x≠k.mp:=λe=>by
 let⟨H,W,_,a⟩:=h.v
 rw[<-e,h.dY]at a;cases a
def Ck.B.kp{k:Ck}{c:S->A}{m x:T AO}{nx w:S}(h:k.B K c m nx)(b:Kp k.mp m x)(j:eX x w)(a:∃H W,vR K c H/\x.dZ k.mp=Y (.map H W)):k.B K c x w:=
 ⟨b _ _ h.QW h.dY,b _ _ h.ne.1 h.d,b _ _ h.ne.2.1 h.f,b _ _ h.ne.2.2.1 h.n,b _ _ h.ne.2.2.2 h.r,a,j,h.ne⟩
def Ck.B.old{k:Ck}{a:S->A}{m x:T AO}{nx w:S}(h:k.B K a m nx)(b:∀q o,m.dZ q=Y o->x.dZ q=Y o)(j:eX x w):k.B K a x w:=by
 let⟨H,W,c,r⟩:=h.v
 exact h.kp (.old b) j ⟨H,W,c,b _ _ r⟩
def Ck.B.put{k:Ck}{g:S->A}{nx q:S}{a b:L A}(h:k.B K g m nx)(t:m.dZ q=Y (.dY a))(l:q≠k.x):k.B K g (m.set q (Y (.dY b))) nx:=by
 have y:∀(p:S) H c,m.dZ p=Y (.map H c)->(m.set q (Y (.dY b))).dZ p=Y (.map H c):=λp H c hp=>by
  have:p≠q:=λe=>by rw[e,t]at hp;cases hp
  rw[T.gh _ _ _ _ this];exact hp
 let⟨H,W,i,j⟩:=h.v
 exact⟨by rw[T.gh _ _ _ _ (mO l)];exact h.dY,y _ _ _ h.d,y _ _ _ h.f,y _ _ _ h.n,y _ _ _ h.r,⟨H,W,i,y _ _ _ j⟩,h.eH.put (h.eH _ _ t),h.ne⟩
def mu(f:Nat->Bool):Nat->Bool
 |0=>dU
 |n+1=>mu f n||f n
def p6(p:S)(l:L (Bool×Int)):A:=match l.find? (·.1)with
 |some c=>.iface 106 (.fF [.fz p 0,.iface 122 (.int .i64 c.2)] 0)
 |none=>.jc
structure GI (P:Program)(G:ez)(K:Gk)(p:S)(bo:Option S):Prop where
 own:Be G bo
 room:∀ts,wW P G K p ts→ts.length*16≤kr
def j9.Y{Ta:L Nat->L A->L A->L (L A)->Int->Int->L A->Prop}{x:L A}(h:j9 Ta x):fN x=dT:=by
 cases h with
 |mk v p a l n o Q D q F k K r m E H g i z j c b d e f=>simp only[fN,Sl.one r,Sl.one H,Sl.one z.1,Sl.one b];rfl
def vS:L A:=[.J [],.ej,.ej,.ej,.int .i64 0,.int .i64 0,.ej]
def Ck.Ok.look{k:Ck}(h:k.Ok P G K)(s:L Nat):∃y b,yF .J k.ed (.agg vS) (.J s) G (.agg y) b/\(b=dT->j9 DAny y/\∃e∈k.ed,e.key=.J s/\e.val=.agg y)/\(b=dU->y=vS):=by
 obtain⟨v,b,o⟩:=rK (G:=G) (kd:=.J) (kk:=.i64) (zero:=.agg vS) (es:=k.ed) (.J _ s) (λe F=>by obtain⟨s,_,a,_⟩:=h.fX e F;rw[a];exact .J _ s)
 obtain⟨rfl,e,F,k1,k2⟩|⟨rfl,e,_⟩:=o.2
 .obtain⟨j,y,a,r,m⟩:=h.fX e F;exact⟨y,dT,by rw[<-r,k2];exact o,λ_=>⟨m,e,F,k1,r⟩,λh=>by cases h⟩
 exact⟨vS,dU,by rw[e]at o;exact o,λh=>B8,λ_=>Z⟩
def Ck.Ok.acy{k:Ck}(h:k.Ok P G K)(s:L Nat):∃v b,yF .J k.er .gQ (.J s) G v b/\((b=dU/\v=.gQ)\/∃f:Nat,b=dT/\v=.func (.func f) [] []/\56<=f/\f<=70/\(s=ql->f=56)/\∀c∈k.ed,∀y,c.key=.J s->c.val=.agg y->yV P G f y):=by
 obtain⟨v,b,o⟩:=rK (G:=G) (kd:=.J) (kk:=.i64) (zero:=.gQ) (es:=k.er) (.J _ s) (λe F=>by obtain⟨s,_,a,_⟩:=h.GJ e F;rw[a];exact .J _ s)
 refine⟨v,b,o,?_⟩;obtain⟨rfl,e,F,k1,k2⟩|⟨rfl,e,_⟩:=o.2
 .obtain⟨j,f,a,r,m,E,H,d⟩:=h.GJ e F;rw[k1]at a;cases a;exact .inr ⟨f,Z,by rw[<-k2,r],m,E,H,d⟩
 exact .inl ⟨Z,e⟩
structure Ck.wX (k:Ck)(K:Gk)(fv:S→A)(m:T AO)(nx:S)(H':eM):Prop where
 kp:Kp k.mp m H'.ep
 ju:k.B K fv H'.ep H'.dX
 le:nx.dV≤H'.dX.dV
def DJ(p:S)(v:A):Prop:=v=.jc\/∃e:Int,e≠0/\v=.iface 106 (.fF [.fz p 0,.iface 122 (.int .i64 e)] 0)
def DK(p nx:S)(v r:A)(m:T AO):Prop:=(v=.jc/\r=.jc)\/∃(q:S)(e:Int),v=.iface 106 (.fF [.fz p 0,.iface 122 (.int .i64 e)] 0)/\r=.iface 106 (.ea q 0)/\m.dZ q=Y (.dY [.fz p 0,.iface 122 (.int .i64 e)])/\nx.dV<=q.dV
structure kF (m0:T AO)(n0:S)(m:T AO)(nx:S):Prop where
 old:∀q o,m0.dZ q=some o→m.dZ q=some o
 eH:eX m nx
 le:n0.dV≤nx.dV
def kF.refl{nx:S}(h:eX m nx):kF m nx m nx:=⟨λ_ _ h=>h,h,fQ _⟩
def kF.ew{i nx:S}{o:AO}(h:kF a i m nx){e:S}(d:v=m.set nx (Y o))(y:e=nx.succ):kF a i v e:=by subst d;subst y;refine⟨λq r t=>?_,h.eH.ew,by rw[S.gG];have:=h.le;omega⟩;have K:=h.old q r t;rw[eJ (by have:=h.eH q r K;omega)];exact K
def kF.put{e m:T AO}{i nx q:S}{o:AO}(h:kF e i m nx)(t:i.dV<=q.dV)(b:eX e i)(c:q.dV<nx.dV)(d:v=m.set q (Y o)):kF e i v nx:=by subst d;refine⟨λf r a=>?_,h.eH.put c,h.le⟩;rw[eJ (by have:=b f r a;omega)];exact h.old f r a
def kF.trans{i e f:S}(h:kF a i v e)(k:kF v e N f):kF a i N f:=⟨λq o t=>k.old q o (h.old q o t),k.eH,ny h.le k.le⟩
def kF.step{k:Ck}{b:S->A}{nx:S}{D:eM}(h:kF m nx D.ep D.dX)(a:k.B K b m nx):k.wX K b m nx D:=⟨.old h.old,a.old h.old h.eH,h.le⟩
def acz(C:iF P G)(g:FG P G K)(Sa:nh P G K){k:Ck}(ok:k.Ok P G K){p:S}(n:K p=Y (.op d B l)){e:L Nat}{b c f a t q:A}(z:G.fU p=Y [.J e,b,c,f,a,t,q])
  (o:yF .J k.ed (.agg vS) (.J e) G (.agg vS) dU):∃v,DJ p v/\∀m nx,k.B K Sa.fv m nx->∃r H,(DK p nx v r H.ep/\k.wX K Sa.fv m nx H)/\eL P G 33 [.ea k.x 0,.fz p 0] ⟨m,nx⟩ λj i=>j=r/\i=H:=by
 refine⟨.iface 106 (.fF [.fz p 0,.iface 122 (.int .i64 60)] 0),.inr ⟨_,by decide,Z⟩,λm nx ju=>?_⟩;refine eL.fj (C.fs.h 33) ?_;have yones:fN vS=dT:=Z;conv=>whnf
 refine EG λm1 n1 em1 en1 m2 n2 em2 en2 G2 g2 g3 hx2 hd2=>?_;refine gC ?_;repeat'(first|refine eu g2 ?_|refine eu g3 ?_|refine eu hx2 ?_|refine fD z ?_|refine sK (o.1 _ _ _ _ _ _ _ _ Z hd2 Z) ?_|refine gI (gK _) (wK ?_)|fail)
 refine EA λm3 n3 em3 en3 G3 lt1 lt2 lt3 g2 g3 g5 hx3 hd3=>?_;repeat'(first|refine eu g2 ?_|refine eu g3 ?_|refine eu hx3 ?_|refine fD z ?_|refine sK (o.1 _ _ _ _ _ _ _ _ Z hd3 Z) ?_|refine gI (gK _) (wK ?_)|fail)
 refine EF λm4 em4 G4 g2 g3 g5=>?_;exact VV
def Bp{D:L S}{t:L Nat}{F B:Code}{m:T AO}{n:S}{K:S->L S->eM->Prop}
  (h:oM D w λFl=>∀e f v a,e=n.succ->f=e.succ->v=m.set n (Y .fX)->a=v.set e (Y (.loop .ready J N Fl t F B n))->K e [n] ⟨a,f⟩):yB J N D w t F B m n K:=by
 rw[wB]at h;simp only[yB,wB,ou,T.i6];exact h _ _ _ _ Z Z Z Z
def QX{N x:T AO}{Xa:S->Prop}(c:N.dZ a=Y b)(h:∀q o,¬Xa q->q≠a->N.dZ q=Y o->x.dZ q=Y o):∀q o,¬Xa q->N.dZ q=Y o->(x.set a (Y b)).dZ q=Y o:=λq o t f=>by
 by_cases e:q=a
 .subst e;rw[c]at f;cases f;exact fY
 rw[T.gh _ _ _ _ e];exact h q o t e f
def QY:gx:=match Yy with
 |.seq _ (.seq _ (.seq _ (.seq _ (.seq _ (.seq _ (.seq _ (.seq _ (.seq _ (.seq (.seq _ b) r)))))))))=>.seq b r
 | _=>.skip
def QZ{f:Nat->Bool}{i:Nat}(h:mu f i=dT):mu f (i+1)=dT:=by simp[mu,h]
def Q0{f:Nat->Bool}{i:Nat}(h:mu f i=dU):mu f (i+1)=f i:=by simp[mu,h]
def GK(P:Program)(G:ez)(j:L gm)(a:L A)(k:Nat->Bool):Prop:=∀i (h:i<O a)(m:T AO)(nx x b:S)(g:Nat)(c N d e f:A),m.dZ x=Y (.dY [c,N,.map b,d,e,f])->m.dZ b=Y (.map j g)->eX m nx->
  ∃r D,(r=.bool (k i)/\(∀q o,m.dZ q=Y o->D.ep.dZ q=Y o)/\eX D.ep D.dX)/\eL P G 92 [.ea x 0,.eG 1 1 [a[i]] .fE] ⟨m,nx⟩ λH t=>H=r/\t=D
def GK.ex(C:fP P G){c:L gm}(f:wV c)(g:iH P G a):∃d,GK P G c a d:=by
 have:∀i:Nat,∃b:Bool,∀(h:i<O a)(m:T AO)(nx x k:S)(w:Nat)(l N p u v:A),m.dZ x=Y (.dY [l,N,.map k,p,u,v])->m.dZ k=Y (.map c w)->eX m nx->
   ∃r D,(r=.bool b/\(∀q o,m.dZ q=Y o->D.ep.dZ q=Y o)/\eX D.ep D.dX)/\eL P G 92 [.ea x 0,.eG 1 1 [a[i]] .fE] ⟨m,nx⟩ λH t=>H=r/\t=D:=by
  intro i;by_cases h:i<O a
  .obtain⟨s,e,y,_⟩:=g _ (fB h);obtain⟨b,j⟩:=ack C f y;exact⟨b,λ_=>by rw[e];exact j⟩
  exact⟨dU,λn=>absurd n h⟩
 obtain⟨d,h⟩:=xM this;exact⟨d,h⟩
def GL(Sa:nh P G K)(p:S)(a:L S)(b:Nat->Bool):Prop:=∀i (h:i<O a),qY Sa a[i] p (b i)
def GL.ex(g:FG P G K)(Sa:nh P G K){p:S}(e:K p=Y (.op d B l))(Q:Bo G K p a):∃c,GL Sa p a c:=by
 have:∀i:Nat,∃b:Bool,∀h:i<O a,qY Sa a[i] p b:=by
  intro i;by_cases h:i<O a
  .obtain⟨r,f⟩:=qY.ex g Sa (Q.val _ (fB h)) d e;exact⟨r,λ_=>f⟩
  exact⟨dU,λn=>absurd n h⟩
 obtain⟨c,h⟩:=xM this;exact⟨c,h⟩
structure Bq (k:Ck)(p:S)(y:List A)(o0 o1 o2:Bool)(b2 b3 b5 b11:S)(m:T AO):Prop where
 g2:m.dZ b2=some (.dY [.ea k.x 0])
 g3:m.dZ b3=some (.dY [.fz p 0])
 g5:m.dZ b5=some (.dY y)
 ui:m.dZ b11=some (.dY [.bool o0,.bool o1,.bool o2])
def Q2:gx:=match QY with
 |.seq _ (.seq _ (.seq _ r))=>r
 | _=>.skip
def Br{k:Ck}{n:S->A}{i nx n4 b c:S}(a:k.B K n j i)(z:Kp k.mp j m)(l:k.B K n m nx)(g:kF m nx f n4)(B:i.dV<=b.dV)(C:i.dV<=c.dV)(w:b.dV<nx.dV)(x:c.dV<nx.dV):
  k.wX K n j i ⟨(f.set c J).set b J,n4⟩:=by
 have y:=g.le;have e:∀q,q.dV<i.dV->T.dZ q ((f.set c J).set b J)=f.dZ q:=λq t=>by rw[eJ M,eJ M]
 have d:Kp k.mp j ((f.set c J).set b J):=λq o t h=>by rw[e q (a.eH q o h)];exact g.old _ _ (z q o t h)
 refine⟨d,a.kp d ((g.eH.put M).put M) ?_,by show i.dV<=n4.dV;omega⟩
 let⟨H,p,s,r⟩:=l.v
 let⟨_,_,_,u⟩:=a.v
 exact⟨H,p,s,by rw[e _ (a.eH _ _ u)];exact g.old _ _ r⟩
def acA:gx:=match Q2 with
 |.seq (.seq _ b) r=>.seq b r
 | _=>.skip
def acB(C:iF P G){K:Gk}(g:FG P G K)(Sa:nh P G K){k:Ck}{p:S}{a1 a2 a3 a4 a5:Bool}{m0 m:T AO}{n0 nx b3 F I:S}(t:k.B K Sa.fv m0 n0)(W:Kp k.mp m0 m)(d:k.B K Sa.fv m nx)(g3:m.dZ b3=Y (.dY [.fz p 0]))(B:m.dZ F=Y .fX)(D:m.dZ I=Y .fX)(hd:F≠I)(u:n0.dV<=F.dV)(x:n0.dV<=I.dV):
  oM [T3,T162,T163,T164] [.ea b3 0,.eG 2 5 [.bool a1,.int .i64 (.ofNat 61),.bool a2,.int .i64 (.ofNat 62),.bool a3,.int .i64 (.ofNat 63),.bool a4,.int .i64 (.ofNat 64),.bool a5,.int .i64 (.ofNat 65)] .fE,.int .i64 (.ofNat 5),.int .i64 (.ofNat 0)] λF0=>
   kB P G dT J J6 acA ⟨F0,[I,F],⟨m,nx⟩⟩ (rC G J7 λr H=>DK p n0 (p6 p [(a1,61),(a2,62),(a3,63),(a4,64),(a5,65)]) r H.ep/\k.wX K Sa.fv m0 n0 H):=by
 conv=>whnf
 refine eT.jl (λj vs m' nx'=>∃i,i+j=5/\kF m nx m' nx'/\((1<=i->a1=dU)/\(2<=i->a2=dU)/\(3<=i->a3=dU)/\(4<=i->a4=dU)/\(5<=i->a5=dU))/\vs=[.ea b3 0,.eG 2 5 [.bool a1,V 61,.bool a2,V 62,.bool a3,V 63,.bool a4,V 64,.bool a5,V 65] .fE,V 5,V i]) 5 Z ⟨0,Z,.refl d.eH,ei,Z⟩ ?_;rintro j vs m1 nx1 ⟨i,hi,U,⟨z,w,f3,f4,f5⟩,rfl⟩;conv=>whnf
 have Q:i=0\/i=1\/i=2\/i=3\/i=4\/i=5:=M
 obtain rfl|rfl|rfl|rfl|rfl|rfl:=Q
 .skip
  refine EJ λN f e h o y R q c=>?_;cases a1
  .conv=>whnf
   exact⟨Z,j - 1,M,_,M,q,ei,Z⟩
  conv=>whnf
  refine eu (q.old _ _ g3) ?_;refine eu c ?_;refine hX λE n4 n l=>wK ?_;have s:=q.ew n l;have a:=d.eH _ _ B;have b:=d.eH _ _ D;have hg1:=U.le;rw[s.old _ _ D];refine my ?_;rw[show T.dZ F (E.set I J)= _ from(T.gh _ _ _ _ hd).trans (s.old _ _ B)];refine my ?_;refine⟨.inr ⟨f,61,?_,Z,?_,M⟩,Br t W d s u x a b⟩
  .simp[p6]
  show T.dZ f ((E.set I J).set F J)= _;rw[eJ M,eJ M,n];exact fY
 .skip
  refine EJ λN f e h o y R q c=>?_;cases a2
  .conv=>whnf
   exact⟨Z,j - 1,M,_,M,q,by simp[z M],Z⟩
  conv=>whnf
  refine eu (q.old _ _ g3) ?_;refine eu c ?_;refine hX λE n4 n l=>wK ?_;have s:=q.ew n l;have a:=d.eH _ _ B;have b:=d.eH _ _ D;have hg1:=U.le;rw[s.old _ _ D];refine my ?_;rw[show T.dZ F (E.set I J)= _ from(T.gh _ _ _ _ hd).trans (s.old _ _ B)];refine my ?_;refine⟨.inr ⟨f,62,?_,Z,?_,M⟩,Br t W d s u x a b⟩
  .simp[p6,z M]
  show T.dZ f ((E.set I J).set F J)= _;rw[eJ M,eJ M,n];exact fY
 .skip
  refine EJ λN f e h o y R q c=>?_;cases a3
  .conv=>whnf
   exact⟨Z,j - 1,M,_,M,q,by simp[z M,w M],Z⟩
  conv=>whnf
  refine eu (q.old _ _ g3) ?_;refine eu c ?_;refine hX λE n4 n l=>wK ?_;have s:=q.ew n l;have a:=d.eH _ _ B;have b:=d.eH _ _ D;have hg1:=U.le;rw[s.old _ _ D];refine my ?_;rw[show T.dZ F (E.set I J)= _ from(T.gh _ _ _ _ hd).trans (s.old _ _ B)];refine my ?_;refine⟨.inr ⟨f,63,?_,Z,?_,M⟩,Br t W d s u x a b⟩
  .simp[p6,z M,w M]
  show T.dZ f ((E.set I J).set F J)= _;rw[eJ M,eJ M,n];exact fY
 .skip
  refine EJ λN f e h o y R q c=>?_;cases a4
  .conv=>whnf
   exact⟨Z,j - 1,M,_,M,q,by simp[z M,w M,f3 M],Z⟩
  conv=>whnf
  refine eu (q.old _ _ g3) ?_;refine eu c ?_;refine hX λE n4 n l=>wK ?_;have s:=q.ew n l;have a:=d.eH _ _ B;have b:=d.eH _ _ D;have hg1:=U.le;rw[s.old _ _ D];refine my ?_;rw[show T.dZ F (E.set I J)= _ from(T.gh _ _ _ _ hd).trans (s.old _ _ B)];refine my ?_;refine⟨.inr ⟨f,64,?_,Z,?_,M⟩,Br t W d s u x a b⟩
  .simp[p6,z M,w M,f3 M]
  show T.dZ f ((E.set I J).set F J)= _;rw[eJ M,eJ M,n];exact fY
 .skip
  refine EJ λN f e h o y R q c=>?_;cases a5
  .conv=>whnf
   exact⟨Z,j - 1,M,_,M,q,by simp[z M,w M,f3 M,f4 M],Z⟩
  conv=>whnf
  refine eu (q.old _ _ g3) ?_;refine eu c ?_;refine hX λE n4 n l=>wK ?_;have s:=q.ew n l;have a:=d.eH _ _ B;have b:=d.eH _ _ D;have hg1:=U.le;rw[s.old _ _ D];refine my ?_;rw[show T.dZ F (E.set I J)= _ from(T.gh _ _ _ _ hd).trans (s.old _ _ B)];refine my ?_;refine⟨.inr ⟨f,65,?_,Z,?_,M⟩,Br t W d s u x a b⟩
  .simp[p6,z M,w M,f3 M,f4 M]
  show T.dZ f ((E.set I J).set F J)= _;rw[eJ M,eJ M,n];exact fY
 conv=>whnf
 have a:=d.eH _ _ B;have b:=d.eH _ _ D;rw[U.old _ _ D];refine my ?_;rw[show T.dZ F (m1.set I J)= _ from(T.gh _ _ _ _ hd).trans (U.old _ _ B)];refine my ?_;exact⟨.inl ⟨by simp[p6,z M,w M,f3 M,f4 M,f5 M],Z⟩,Br t W d U u x a b⟩
def acC(C:iF P G)(g:FG P G K)(Sa:nh P G K){k:Ck}{p:S}{t bH bE bS:Bool}
  (hbE:∀a0,ee P G 94 [a0,.fz p 0,.agg y] (.bool bE))(hy:O y=7)
  (hbS:∀(m:T AO)(nx x xn:S)(cn:Nat)(c0 N B c4 c5:A),m.dZ x=Y (.dY [c0,N,B,.map xn,c4,c5])->m.dZ xn=Y (.map k.en cn)->eX m nx->∃r D,(r=.bool bS/\(∀q o,m.dZ q=Y o->D.ep.dZ q=Y o)/\eX D.ep D.dX)/\eL P G 95 [.ea x 0,.fz p 0] ⟨m,nx⟩ λr1 H1=>r1=r/\H1=D)
  {i nx Q b3 b5 s u v R U:S}(at0:k.B K Sa.fv m0 i)(kp:Kp k.mp m0 m)(j:k.B K Sa.fv m nx)(l:Bq k p y o0 o1 W Q b3 b5 s m)(z:m.dZ u=Y (.dY [.bool t]))(F:m.dZ v=Y (.dY [.bool bH]))(gd1:m.dZ R=Y .fX)(gd2:m.dZ U=Y .fX)(hd:R≠U)
  (l2:i.dV<=Q.dV)(ld1:i.dV<=R.dV)(ld2:i.dV<=U.dV):
  oM [T2,T3,T5,T9,T10,T11,T14,T16] [.ea Q 0,.ea b3 0,.ea b5 0,.int .i64 e1,.int .i64 w,.ea s 0,.ea u 0,.ea v 0] λF0=>
   kB P G dT J J6 Q2 ⟨F0,[U,R],⟨m,nx⟩⟩ (rC G J7 λr H=>DK p i (p6 p [(!gD e1 (.ofNat 0)||gD w (.ofNat 61)||o0,61),(t||gD w (.ofNat 62)||o1,62),(bH,63),(W|| !bE,64),(!bS,65)]) r H.ep/\k.wX K Sa.fv m0 i H):=by
 obtain⟨y0,y1,y2,y3,y4,y5,y6,rfl⟩:∃y0 y1 y2 y3 y4 y5 y6,y=[y0,y1,y2,y3,y4,y5,y6]:=by
  match y,hy with
  |[a,b,c,d,e,f,g],_=>exact⟨a,b,c,d,e,f,g,Z⟩
 obtain⟨_,⟨m5,nx5⟩,⟨rfl,ho5,hb5⟩,hc⟩:=hbS m nx k.x k.xn _ _ _ _ _ _ j.dY j.n j.eH;have h:Bq k p [y0,y1,y2,y3,y4,y5,y6] o0 o1 W Q b3 b5 s m5:=⟨ho5 _ _ l.g2,ho5 _ _ l.g3,ho5 _ _ l.g5,ho5 _ _ l.ui⟩
 have E:=ho5 _ _ z;have I:=ho5 _ _ F;conv=>whnf
 refine gC ?_;generalize hc1:(!gD e1 (Int.ofNat 0))=N;generalize hc2:gD w (Int.ofNat 61)=B;generalize hc3:gD w (Int.ofNat 62)=c3;have h1:N=dT\/(N=dU/\B=dT)\/(N=dU/\B=dU):=by cases N<;>cases B<;>simp
 have h2:t=dT\/(t=dU/\c3=dT)\/(t=dU/\c3=dU):=by cases t<;>cases c3<;>simp
 obtain rfl|⟨rfl,rfl⟩|⟨rfl,rfl⟩:=h1<;>obtain rfl|⟨rfl,rfl⟩|⟨rfl,rfl⟩:=h2<;>cases W;all_goals
  conv=>whnf
  repeat'(first|(rw[hc2];conv=>whnf)|(rw[hc3];conv=>whnf)|refine eu l.g2 ?_|refine eu l.g3 ?_|refine eu l.g5 ?_|refine eu l.ui ?_|refine eu z ?_|refine eu F ?_|refine eu h.g2 ?_|refine eu h.g3 ?_|refine eu h.g5 ?_|refine eu h.ui ?_|refine eu E ?_|refine eu I ?_|refine ee.c (hbE _) ?_|(refine fK.one _ _ ?_ hc;conv=>whnf)|refine gI (gK _) (wK ?_)|fail)
  refine eT.frame (live:=[T3,T162,T163,T164]) Z ?_;exact acB C g Sa at0 (kp.trans (.old ho5)) (j.old ho5 hb5) h.g3 (ho5 _ _ gd1) (ho5 _ _ gd2) hd ld1 ld2
def acD(C:iF P G)(g:FG P G K)(Sa:nh P G K){k:Ck}(ok:k.Ok P G K){p:S}(sh:GI P G K p bo)(hK:K p=Y (.op d bo nb)){fb vb:Nat->Bool}{e1 e2:Int}
  (hts:wW P G K p ts)(hfb:GK P G k.ef ts fb)(hus:Bo G K p us)(hvb:GL Sa p us vb)(hbE:∀a0,ee P G 94 [a0,.fz p 0,.agg y] (.bool bE))(hy:O y=7)
  (hbS:∀(m:T AO)(nx x xn:S)(cn:Nat)(c0 c1 c2 c4 c5:A),m.dZ x=Y (.dY [c0,c1,c2,.map xn,c4,c5])->m.dZ xn=Y (.map k.en cn)->eX m nx->∃r D,(r=.bool bS/\(∀q o,m.dZ q=Y o->D.ep.dZ q=Y o)/\eX D.ep D.dX)/\eL P G 95 [.ea x 0,.fz p 0] ⟨m,nx⟩ λr1 H1=>r1=r/\H1=D)
  {n0 nx b2 b3 b5 b11 c b1:S}(j:k.B K Sa.fv m0 n0)(gr:kF m0 n0 m nx)(eh:Bq k p y o0 o1 o2 b2 b3 b5 b11 m)(g14:m.dZ c=Y (.dY [.bool dU]))(g1:m.dZ b1=Y (.dY [.fz p 0]))
  (l2:n0.dV<=b2.dV)(l3:n0.dV<=b3.dV)(l5:n0.dV<=b5.dV)(l11:n0.dV<=b11.dV)(l14:n0.dV<=c.dV)(ne14:c≠b2/\c≠b3/\c≠b5/\c≠b11/\c≠b1):
  oM [T2,T3,T5,T9,T10,T11,T14,T101] [.ea b2 0,.ea b3 0,.ea b5 0,.int .i64 e1,.int .i64 e2,.ea b11 0,.ea c 0,.func (.func 148) [] [.ea b1 0]] λF0=>
   kB P G dT J J6 QY ⟨F0,[],⟨m,nx⟩⟩ (rC G J7 λr H=>DK p n0 (p6 p [(!gD e1 (.ofNat 0)||gD e2 (.ofNat 61)||o0,61),(mu fb (O ts)||gD e2 (.ofNat 62)||o1,62),(mu (λi=> !vb i) (O us),63),(o2|| !bE,64),(!bS,65)]) r H.ep/\k.wX K Sa.fv m0 n0 H):=by
 have hroom:=sh.room _ hts;conv=>whnf
 refine eT.range C.ey Z (C.fs.h 148) Z λas bo has hbo=>?_;refine Bp (wK ?_);intro n1 n2 m1 m2 en1 en2 em1 em2;have lt1:=lS en1;have lt2:=lS en2;have G2:kF m0 n0 m2 n2:=(gr.ew em1 en1).ew em2 en2;have old2:∀q o,m.dZ q=Y o->m2.dZ q=Y o:=λq o t=>by have:=gr.eH q o t;rw[em2,eJ M,em1,eJ M];exact t
 have gl:=gE em2;have gd:m2.dZ nx= _:=(fW (T.dZ nx) em2).trans ((eJ M).trans ((fW (T.dZ nx) em1).trans fY));have hlt14:=gr.eH _ _ g14;have a2:=j.old G2.old G2.eH;have hle:=gr.le;refine acr C.tofP hts hroom (I:=λi m' nx'=>eX m' nx'/\(∀q o,q≠c->m2.dZ q=Y o->m'.dZ q=Y o)/\m'.dZ c=Y (.dY [.bool (mu fb i)])) ⟨G2.eH,λ_ _ _ h=>h,old2 _ _ g14⟩ (old2 _ _ g1) G2.eH ?_ ?_ ?_
 .intro m' nx' ho hb _;exact⟨hb,λq o _ h=>ho q o h,ho _ _ (old2 _ _ g14)⟩
 .rintro i hi m3 b ⟨B,w,N⟩;have:jy P G dT n1 [ts[i]] ⟨m3,b⟩ λr D=>r=.bool dT/\(eX D.ep D.dX/\(∀q o,q≠c->m2.dZ q=Y o->D.ep.dZ q=Y o)/\D.ep.dZ c=Y (.dY [.bool (mu fb (i+1))]))/\∀q r,m3.dZ q=Y (.dY r)->n2.dV<=q.dV->D.ep.dZ q=Y (.dY r):=by
   obtain⟨s,es,_⟩:=hts.types _ (fB hi);have kx:=j.eH _ _ j.dY;have kf:=j.eH _ _ j.f;rw[es];have n14:n1≠c:=λe=>by rw[<-e]at hlt14;omega
   have u:=w _ _ n14 gl;have ll2:=gr.eH _ _ eh.g2;refine jy.body C.ey has hbo u Z Z (wK ?_);rw[u];refine gH λz l=>wK ?_;have k2:=gN l (w _ _ (mO ne14.1) (old2 _ _ eh.g2));have k14:=gN l N;have k14l:c.dV<b.dV:=B _ _ N;have kll:n1.dV<b.dV:=B _ _ u;have hb4:eX z b:=by rw[l];exact B.put kll
   have gl4:=gE l;have U:∀q o,q≠c->q≠n1->m2.dZ q=Y o->z.dZ q=Y o:=λq o E Q t=>by rw[l,T.gh _ _ _ _ Q];exact w _ _ E t
   refine eu k14 ?_;generalize hA:mu fb i=bb at k14;cases bb
   .obtain⟨_,⟨m5,nx5⟩,⟨rfl,ho5,F⟩,hc⟩:=hfb i hi z b k.x k.xf k.cf _ _ _ _ _ (U _ _ (λe=>by rw[e]at kx;omega) (λe=>by rw[e]at kx;omega) a2.dY) (U _ _ (λe=>by rw[e]at kf;omega) (λe=>by rw[e]at kf;omega) a2.f) hb4;rw[es]at hc;conv=>whnf
    refine eu k2 ?_;refine fK.one _ _ ?_ hc;have k14':=ho5 _ _ k14;have k14l5:=F _ _ k14';have kll5:=F _ _ (ho5 _ _ gl4);conv=>whnf
    refine mF k14' ?_;refine Sp λm6 a m7 em7 hb7 ho7 e7=>?_;exact⟨Z,⟨hb7,ho7,by show m7.dZ c= _;rw[em7,eJ M,a,Q0 hA];exact fY⟩,e7⟩
   conv=>whnf
   refine mF k14 ?_;obtain⟨nx5,hnx5⟩:∃n,n=b:=⟨_,Z⟩;rw[<-hnx5];obtain⟨m5,em5⟩:∃m,m=z:=⟨_,Z⟩;rw[<-em5];have ho5:∀q o,z.dZ q=Y o->m5.dZ q=Y o:=λq o h=>by rw[em5];exact h
   have F:eX m5 nx5:=by rw[em5,hnx5];exact hb4
   have k14l5:=F _ _ (ho5 _ _ k14);have kll5:=F _ _ (ho5 _ _ gl4);refine Sp λm6 a m7 em7 hb7 ho7 e7=>?_;exact⟨Z,⟨hb7,ho7,by show m7.dZ c= _;rw[em7,eJ M,a,QZ hA];exact fY⟩,e7⟩
  obtain⟨r,D,⟨rfl,Q,h3⟩,h4⟩:=this.wz;exact⟨D.ep,D.dX,Q,h3,h4⟩
 rintro m3 b ⟨B,w,N⟩;have n14:n1≠c:=λe=>by rw[<-e]at hlt14;omega
 have u:=w _ _ n14 gl;have kll:=B _ _ u;conv=>whnf
 rw[u];refine uA ?_;obtain⟨z,l⟩:∃z,z=m3.set n1 J:=⟨_,Z⟩;rw[<-l];have U:∀q o,q≠c->q.dV<nx.dV->m.dZ q=Y o->z.dZ q=Y o:=λq o E Q t=>by rw[l,eJ M];exact w _ _ E (old2 _ _ t)
 have ll2:=gr.eH _ _ eh.g2;have ll3:=gr.eH _ _ eh.g3;have ll5:=gr.eH _ _ eh.g5;have ll11:=gr.eH _ _ eh.ui;have eh4:Bq k p y o0 o1 o2 b2 b3 b5 b11 z:=⟨U _ _ (mO ne14.1) ll2 eh.g2,U _ _ (mO ne14.2.1) ll3 eh.g3,U _ _ (mO ne14.2.2.1) ll5 eh.g5,U _ _ (mO ne14.2.2.2.1) ll11 eh.ui⟩
 have g14:=gN l N;have G4:kF m0 n0 z b:=⟨λq o t=>U q o (λe=>by have:=j.eH q o t;rw[e]at this;omega) (by have:=j.eH q o t;omega) (gr.old q o t),by rw[l];exact B.put kll,M⟩
 have k14:=G4.eH _ _ g14;have gd4:z.dZ nx=Y .fX:=by rw[l,eJ M];exact w _ _ (λe=>by rw[<-e]at hlt14;omega) gd
 clear N w u gl;conv=>whnf
 refine hX λm5 n5 em5 en5=>wK ?_;have lt5:=lS en5;have G5:=G4.ew em5 en5;have k16:=gE em5;refine mF k16 ?_;refine gH λm6 a=>wK ?_;have G6:=G5.put (q:=b) M j.eH lt5 a;have ho6:∀q o,z.dZ q=Y o->m6.dZ q=Y o:=λq o t=>by have:=G4.eH q o t;rw[a,eJ M,em5,eJ M];exact t
 have g16:=gE a;refine eu (ho6 _ _ eh4.g3) ?_;refine fK.j7 (C.fs.h 93) (wK ?_);refine hX λm7 n7 em7 en7=>wK ?_;have lt7:=lS en7;have G7:=G6.ew em7 en7;have ho7:∀q o,m6.dZ q=Y o->m7.dZ q=Y o:=λq o t=>by have:=G6.eH q o t;rw[em7,eJ M];exact t
 have gc:=gE em7;refine eT.range C.ey Z (C.fs.h 150) Z λas bo has hbo=>?_;refine Bp (wK ?_);intro n8 n9 m8 m9 en8 en9 em8 em9;have lt8:=lS en8;have lt9:=lS en9;have G9:kF m0 n0 m9 n9:=(G7.ew em8 en8).ew em9 en9;have ho9:∀q o,m7.dZ q=Y o->m9.dZ q=Y o:=λq o t=>by have:=G7.eH q o t;rw[em9,eJ M,em8,eJ M];exact t
 have gl:=gE em9;have gd9:m9.dZ n7=Y .fX:=by rw[em9,eJ M,em8];exact fY
 have ho49:∀q o,z.dZ q=Y o->m9.dZ q=Y o:=λq o t=>ho9 _ _ (ho7 _ _ (ho6 _ _ t));have a9:=j.old G9.old G9.eH
 let⟨es9,ck9,hca9,hmp9⟩:=a9.v
 have W:k.mp.dV<n0.dV:=by let⟨_,_,_,h⟩:=j.v;exact j.eH _ _ h
 refine acq C.tofP hus (b1:=n5) (I:=λi m' nx'=>eX m' nx'/\(∀q o,q≠b->q≠k.mp->m9.dZ q=Y o->m'.dZ q=Y o)/\m'.dZ b=Y (.dY [.bool (mu (λi=> !vb i) i)])/\∃es clock,vR K Sa.fv es/\m'.dZ k.mp=Y (.map es clock)) ⟨G9.eH,λ_ _ _ _ h=>h,ho9 _ _ (ho7 _ _ g16),⟨es9,ck9,hca9,hmp9⟩⟩ (ho9 _ _ gc) (λ_ _ _ h=>h.1) ?_ ?_ ?_ ?_
 .rintro i m' nx' o1 o2 ⟨hb,ho,hr,es,ck,E,Q⟩;have e:∀q o,m'.dZ q=Y o->((m'.set nx' (Y (.dY o1))).set nx' (Y (.dY o2))).dZ q=Y o:=λq o t=>by have:=hb q o t;rw[eJ M,eJ M];exact t
  exact⟨hb.ew.put kP,λq o h3 h4 h5=>e _ _ (ho q o h3 h4 h5),e _ _ hr,es,ck,E,e _ _ Q⟩
 .rintro i m' nx' ⟨hb,ho,hr,es,ck,E,Q⟩;exact ho _ _ (λe=>by rw[e]at lt5;omega) zp (ho9 _ _ gc)
 .rintro i hi m3 R ⟨B,w,N,es3,ck3,hca3,hmp3⟩;have:jy P G dT n8 [.fz us[i] 0] ⟨m3,R⟩ λr D=>r=.bool dT/\(eX D.ep D.dX/\(∀q o,q≠b->q≠k.mp->m9.dZ q=Y o->D.ep.dZ q=Y o)/\D.ep.dZ b=Y (.dY [.bool (mu (λi=> !vb i) (i+1))])/\∃es clock,vR K Sa.fv es/\D.ep.dZ k.mp=Y (.map es clock)):=by
   have u:=w _ _ (λe=>by rw[e]at lt8;omega) zp gl;refine jy.body C.ey has hbo u Z Z (wK ?_);rw[u];refine gH λz l=>wK ?_;have kll3:=B _ _ u;have n16:b.dV<n8.dV:=M
   have h49:∀q o,q≠b->q≠k.mp->q≠n8->m9.dZ q=Y o->z.dZ q=Y o:=λq o E Q h3 t=>by rw[l,T.gh _ _ _ _ h3];exact w _ _ E Q t
   have h4m:∀q,q≠n8->z.dZ q=m3.dZ q:=λq h=>by rw[l,T.gh _ _ _ _ h]
   have gl4:=gE l;have k2:z.dZ b2=Y (.dY [.ea k.x 0]):=h49 _ _ (λe=>by rw[e]at ll2;omega) zp (λe=>by rw[e]at ll2;omega) (ho49 _ _ eh4.g2);have k3:z.dZ b3=Y (.dY [.fz p 0]):=h49 _ _ (λe=>by rw[e]at ll3;omega) zp (λe=>by rw[e]at ll3;omega) (ho49 _ _ eh4.g3);have kx0:=j.eH _ _ j.dY;have kx:z.dZ k.x= _:=h49 _ _ (λe=>by rw[e]at kx0;omega) j.QW (λe=>by rw[e]at kx0;omega) a9.dY;have k16:z.dZ b= _:=(h4m b (λe=>by rw[e]at n16;omega)).trans N;have kmp4:z.dZ k.mp= _:=(h4m k.mp (λe=>by rw[e]at W;omega)).trans hmp3;have hb4:eX z R:=by rw[l];exact B.put kll3
   refine gC ?_;refine eu k16 ?_;generalize hA:mu (λi=> !vb i) i=bb at k16;cases bb
   .obtain⟨_,H5,⟨rfl,hmo⟩,hc⟩:=acj C.tofP g Sa (hus.val _ (fB hi)) hK (hvb i hi) hca3 kmp4;conv=>whnf
    repeat'(first|refine eu k16 ?_|refine eu k2 ?_|refine eu k3 ?_|refine eu kx ?_|refine gI (gK _) (wK ?_)|fail)
    refine fK.one _ _ ?_ hc
    let⟨m5,nx5⟩:=H5
    let⟨⟨es5,ck5,hca5,kmp5⟩,h5m,e5n⟩:=hmo
    dsimp only at e5n kmp5 h5m;subst e5n;have F:eX m5 nx5:=λq o t=>by
     by_cases e:q=k.mp
     .rw[e];exact hb4 _ _ kmp4
     rw[h5m q e]at t;exact hb4 _ _ t
    have k16':=(h5m b zp).trans k16;have gl5:=(h5m n8 zp).trans gl4;conv=>whnf
    refine mF k16' ?_;refine gH λm6 a=>wK ?_;have gl6:m6.dZ n8= _:=(fW (T.dZ n8) a).trans ((eJ M).trans gl5);rw[gl6];refine oV λm7 em7=>?_;refine⟨Z,by show eX m7 nx5;rw[em7,a];exact(F.put M).put kll3,λq o E Q t=>?_,by show m7.dZ b= _;rw[em7,eJ M,a];exact by rw[Q0 hA];exact fY,es5,ck5,hca5,?_⟩
    .exact SK
    exact Wn
   conv=>whnf
   repeat'(first|refine eu k16 ?_|refine gI (gK _) (wK ?_)|fail)
   refine mF k16 ?_;refine gH λm6 a=>wK ?_;have F:=hb4;have h5m:∀q,q≠k.mp->z.dZ q=z.dZ q:=λq _=>Z;have kmp5:=kmp4;have hca5:=hca3;have gl6:m6.dZ n8= _:=(fW (T.dZ n8) a).trans ((eJ M).trans gl4);rw[gl6];refine oV λm7 em7=>?_;refine⟨Z,by show eX m7 R;rw[em7,a];exact(F.put M).put kll3,λq o E Q t=>?_,by show m7.dZ b= _;rw[em7,eJ M,a];exact by rw[QZ hA];exact fY,es3,ck3,hca5,?_⟩
   .exact SK
   exact Wn
  obtain⟨r,D,⟨rfl,Q⟩,h4⟩:=this.wz;exact⟨D.ep,D.dX,Q,h4⟩
 rintro m3 R ⟨B,w,N,es3,ck3,hca3,hmp3⟩;have u:=w _ _ (λe=>by rw[e]at lt8;omega) zp gl;have kll:=B _ _ u;conv=>whnf
 rw[u];refine uA ?_;obtain⟨ma,ema⟩:∃ma,ma=m3.set n8 J:=⟨_,Z⟩;rw[<-ema];have hoa:∀q o,q≠k.mp->q.dV<b.dV->z.dZ q=Y o->ma.dZ q=Y o:=λq o E Q t=>by rw[ema,eJ M];exact w _ _ (λe=>by rw[e]at Q;omega) E (ho49 _ _ t)
 have nmp:∀q:S,n0.dV<=q.dV->q≠k.mp:=λq t e=>by rw[<-e]at W;omega
 have eha:Bq k p y o0 o1 o2 b2 b3 b5 b11 ma:=⟨hoa _ _ (nmp _ l2) M eh4.g2,hoa _ _ (nmp _ l3) M eh4.g3,hoa _ _ (nmp _ l5) M eh4.g5,hoa _ _ (nmp _ l11) M eh4.ui⟩
 have g14a:=hoa _ _ (nmp _ l14) M g14;have g16a:=gN ema N;have mpa:=gN ema hmp3;have ba:eX ma R:=by rw[ema];exact B.put kll
 have kpa:Kp k.mp m0 ma:=λq o E t=>by have hlt:=j.eH q o t;exact hoa q o E M (G4.old q o t)
 have ata:k.B K Sa.fv ma R:=j.kp kpa ba ⟨es3,ck3,hca3,mpa⟩;clear N u gl;conv=>whnf
 refine eT.frame (live:=[T2,T3,T5,T9,T10,T11,T14,T16]) Z ?_;have hgda:=hoa _ _ (nmp _ M) M gd4;have hgd7:ma.dZ n7=Y .fX:=by rw[ema,eJ M];exact w _ _ (λe=>by rw[e]at lt7;omega) (nmp _ M) gd9
 exact acC C g Sa hbE hy hbS j kpa ata eha g14a g16a hgda hgd7 (λe=>by rw[e]at lt1;omega) l2 M M
