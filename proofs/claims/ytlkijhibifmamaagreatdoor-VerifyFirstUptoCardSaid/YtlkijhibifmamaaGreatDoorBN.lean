/- Lemmas. No condition. -/
import Derived.Test.YtlkijhibifmamaaGreatDoorBG
import Derived.Test.YtlkijhibifmamaaGreatDoorBM
import Derived.Deep.DeepHandedRow
import Derived.Deep.DeepWitnessRowRef
import Derived.Lib.LaidTab
import Derived.Carry
import Derived.Test.YtlkijhibifmamaaGreatDoorCards
import Derived.Test.YtlkijhibifmamaaGreatDoorTie
import Derived.Lay
import Derived.LaidHandle
set_option linter.all false
set_option autoImplicit true
set_option relaxedAutoImplicit true
set_option maxHeartbeats 0
set_option maxRecDepth 100000
noncomputable section
open Option renaming some→Y,none→J
open Bool renaming true→dT,false→dU
open List renaming length→O
namespace Go.As
open Go.Proofs
def fns:j8 Tryz.prog:=by repeat'(first|exact eR|exact Has.of Nv|refine gI ?_ ?_)
end Go.As
namespace Go.As
open Go.RowKit
open Go.Proofs (Tryz.prog)
section
variable{fz:xc}
def Se{fn:Func}{e:Array Value->Sem Value}(K:Tryz.prog.funcs[f]? =Y fn)(r:(fn.name== "runtime.NumGoroutine")=dU)(m:fn.body.isNone=dT)(E:Extern.findNext fn=J)(H:Extern.find fn=Y e):tY Tryz.prog f e:=⟨fn,K,r,m,E,H⟩
def Sf(c:(Gz Tryz.prog fz).Pure):fP Tryz.prog (Gz Tryz.prog fz)where
 fs:=fns
 dW:=c
 mixed:=by kernel_rfl
 ey:=Z
 vD:=Se Go.Proofs.Tryz.func273 eU eU eU eU
def Mk(R:rU (Gz Tryz.prog fz))(c:(Gz Tryz.prog fz).Pure):mh Tryz.prog (Gz Tryz.prog fz):=
 {Sf c with
  RH:=Se Go.Proofs.Tryz.func195 eU eU eU eU
  split:=λs t K r m=>split_ok R s t K r m}
def HJ(n:Nat)(l:L (L Nat))(h:BO n=Y [pn l])(o:O l<=100)(r:∀s∈l,O s<=100):Db (Gz Tryz.prog fz) n:=
 ⟨pn l,l.map .J,h,.inr ⟨.fE,mR,by rw[jH];rfl,by rw[kO]⟩,λx v=>by obtain⟨s,a,rfl⟩:=gS.1 v;exact⟨s,Z,by have:=r s a;unfold eI;omega⟩,by rw[jH];unfold eI;omega⟩
def af4(R:rU (Gz Tryz.prog fz))(c:(Gz Tryz.prog fz).Pure):iF Tryz.prog (Gz Tryz.prog fz):=
 {Sf c with
  itoa:=afT R
  join:=afZ
  text:=afV R
  g1:=HJ 1 _ Z gP gP
  g2:=HJ 2 _ Z gP gP
  g3:=HJ 3 _ Z gP gP
  g4:=HJ 4 _ Z gP gP}
def Sg{n:Nat}(h:BO n=Y w):∃l,w=[pn l]:=by
 unfold BO at h;cases h1:Nat.beq n 1
 .rw[h1]at h;cases h2:Nat.beq n 2
  .rw[h2]at h;cases h3:Nat.beq n 3
   .rw[h3]at h;cases h4:Nat.beq n 4
    .rw[h4]at h;cases h
    rw[h4]at h;cases h;exact⟨_,Z⟩
   rw[h3]at h;cases h;exact⟨_,Z⟩
  rw[h2]at h;cases h;exact⟨_,Z⟩
 rw[h1]at h;cases h;exact⟨_,Z⟩
def af5(l:L (L Nat)):Plain (pn l):=.eG mR λc K=>by obtain⟨s,_,rfl⟩:=gS.1 K;exact .J _
def af6{n:Nat}(h:BO n=Y w):Plain (.fF w 0):=by
 obtain⟨l,rfl⟩:=Sg h;intro B D a z;refine .fF _ _ _ Z λi C _=>?_
 match i,C with
 |0,_=>exact af5 l B D a z
def af7{n:Nat}(h:BO n=Y w):(A.fF w 0).Pure:=by
 obtain⟨l,rfl⟩:=Sg h;refine yu λc K=>?_;obtain rfl:c=pn l:=by simpa using K
 exact qQ mR λx v=>by obtain⟨s,_,rfl⟩:=gS.1 v;exact jX _
def af8(k:fz.z=λ_=>J)(R:rU (Gz Tryz.prog fz))(d:j<=LB){t s:L (L A)}(f:vI lu j (.agg [v]) t)(a:∀x∈t,∃i,i<=eI/\OpC j x i)(o:fT 3 s l)(u:iR (lO DAny sL) s)(e:O s<=eI):
  ee Tryz.prog (Gz Tryz.prog fz) 3 [.agg [v],l] (.bool dT):=by
 have c:(Gz Tryz.prog fz).Pure:=⟨λg w h=>af7 h,λp w h=>by have:fz.z p=Y w:=h;rw[k]at this;cases this⟩
 have b:∀q,(Gz Tryz.prog fz).fU q=J:=λq=>by show fz.z q=J;rw[k]
 have n:Lib Tryz.prog (Gz Tryz.prog fz) D5:=⟨λK m x=>af2,λK m x=>afS ⟨R.err,R.max,R.pow⟩,λK m x hp=>by
   have r:rU (Gz Tryz.prog ⟨((Gz Tryz.prog fz).iE K m x).fU,fz.raw⟩):=⟨R.err,R.max,R.pow⟩
   exact rows_ok (fz:=⟨((Gz Tryz.prog fz).iE K m x).fU,fz.raw⟩) (Mk r hp),aeK⟩
 exact adO (af4 R c) b (λg w h=>af6 h) n (aeE (Mk R c)) ES (ae6 (Mk R c) (afR R)) d f a o u e
end
end Go.As
namespace Go.As
open Go.RowKit Go.Deep
open Go.Proofs (Tryz.prog)
open Go.Proofs.YtlkijhibifmamaaGreatDoor.Rows (uptoBulk uptoBulkAll)
section
variable{H:Type}{enc:TypeId×Value→H}{W:World}{sp:Nat→Bool}{held:Bool}
def af9(bs:List (List UInt8))(hne:0<bs.length)(hsp:∀b,sp b=dT){fuel:Nat}{v:Value}{ps:List MemPlace}
  (h:DataW.trod enc Tryz.prog W 0 sp held fuel 44 [v]=Y (.slice (bs.map λb=>.lit (.string b)) [],ps)):eQ W (hV W) (pn (bs.map λb=>b.map UInt8.toNat)) v:=by
 rcases P9 (φ:=λx d=>∀b:List UInt8,d=.lit (.string b)->x=[.J (b.map UInt8.toNat)]) Go.Proofs.Tryz.underlying44 (sz:=1) (by kernel_rfl) M h (λfuel' cs d' ps' _ h'=>by obtain⟨b,h1,h2,_⟩:=DataW.trod_string Go.Proofs.Tryz.underlying9 h';subst h1;cases h2;refine⟨[.J (b.data.toList.map UInt8.toNat)],.one (.J _ _ rfl),λb' e=>?_⟩;cases e;rfl)with⟨_,e⟩|⟨a,len,cap,m,xs,D,rfl,hle,hm,hd,hl,hxs,hφ,h0,h1⟩
 .cases e
 injection hd with e1 e2;rw[hsp,gO rfl]at hm;have hn:bs.length=len:=by simpa using fW List.length e1
 have hcap:cap=len:=by have:=fW List.length e2;simp at this;omega
 subst hl;have hx:xs.flatten=bs.map λb=>A.J (b.map UInt8.toNat):=by
  have:xs=bs.map λb=>[A.J (b.map UInt8.toNat)]:=by
   refine Cv (by simp[hn]) λk h1 h2=>?_;have g:=fW (λl=>l[k]?) e1;have hk:k<bs.length:=M
   simp only[pz,jq hk,jb,List.getElem?_range h1,oZ]at g;rw[mM];exact hφ k h1 _ g.symm
  rw[this];clear this e1 hφ h0 h1 h hn hne;induction bs with
  |nil=>rfl
  |cons b l ih=>simp[ih]
 have:=h1 M .fE (show cap=xs.length from hcap);rw[hx]at this;rw[pn,xU,jH,hn];exact this
def Ml:∀{l:L (String×DataW Unit)}{i:L MemPlace},DataW.LaidVars Tryz.prog w l i->∀n d,(n,d)∈l->
  ∃g t c b p,Tryz.prog.globalNamed n=Y g/\(Tryz.prog.globals[g]?).map (·.type)=Y t/\w.var? Tryz.prog n=Y c/\DataW.trod (λ_=>()) Tryz.prog w 0 (λ_=>dT) dU b t c.toList=Y (d,p)
 |[],_,_,n,d,f=>by cases f
 |(a,y)::l,i,h,n,d,f=>by
  let⟨g,t,c,b,p,q,K,r,m,E,j,G⟩:=h
  obtain e|f:=eZ.1 f
  .cases e;exact⟨g,t,c,b,p,K,r,m,E⟩
  exact Ml j n d f
def HK{D:L MemPlace}(o:DataW.LaidVars Tryz.prog w l D){n:String}{g:Nat}(F:Tryz.prog.globalNamed n=Y g)(j:(Tryz.prog.globals[g]?).map (·.type)=Y 44)(c:L (L UInt8))(y:0<O c)
  (f:(n,DataW.slice (c.map λb=>.lit (.string b)) [])∈l):eQ w (hV w) (.fF [pn (c.map λb=>b.map UInt8.toNat)] 0) (.pointer (Y ⟨g,0,J⟩)):=by
 obtain⟨G,t,h,k,p,K,q,m,E⟩:=Ml o _ _ f;obtain rfl:=gu (F.symm.trans K);obtain rfl:=gu (j.symm.trans q);have r:∃v,h.toList=[v]:=by
  obtain⟨e,_⟩|⟨a,B,cap,_,_,_,_,e,_⟩:=open_slice Go.Proofs.Tryz.underlying44 E
  .exact⟨_,e⟩
  exact⟨_,e⟩
 let⟨v,r⟩:=r
 rw[r]at E;have x:=af9 c y mJ E;have u:=World.var?_cell F m 0;have z:h[0]? =Y v:=by rw[<-qx,r];rfl
 have d:w.cell? ⟨g,0,J⟩=Y v:=u.trans z;have s:=(cell_spot d).2;refine eQ.fF [pn (c.map λb=>b.map UInt8.toNat)] 0 g 0 (λ_=>v) ?_ (λi C=>?_) λi C=>?_
 .simp only[List.length_singleton];exact s
 .have:i=0:=by simpa using C
  subst this;exact d
 have:i=0:=by simpa using C
 subst this;exact x
end
end Go.As
namespace Go.As
open Go.RowKit Go.Deep
open Go.Proofs (Tryz.prog)
open Go.Proofs.YtlkijhibifmamaaGreatDoor (Rows.verifyFirstUptoRow Rows.laid_errors_errorType)
abbrev tf:L (String×DataW Unit):=Rows.verifyFirstUptoRow.laid
def Sh(h:laidMetH Tryz.prog tf W):laidMet Tryz.prog (tf.filter λx=>x.2.handleName?.isNone) W/\handlesMet Tryz.prog [("errors.errorType",Rows.laid_errors_errorType)] W:=by
 have g:(tf.filter λx=>x.2.handleName?.isSome)=[("errors.errorType",Rows.laid_errors_errorType)]:=by kernel_rfl
 unfold laidMetH at h;rw[g]at h;exact h
def aga(h:handlesMet Tryz.prog [("errors.errorType",Rows.laid_errors_errorType)] W):W.cell? ⟨0,0,J⟩=Y (.iface 257 (.agg #[.pointer (Y ⟨11,59,J⟩)])):=by
 have h:=h ("errors.errorType",Rows.laid_errors_errorType) (Cp.2 Z);have e:(Rows.laid_errors_errorType:DataW Unit).funcsIn? =J:=by kernel_rfl
 simp only[e]at h
 let⟨c,u,b,K,r,m,E,H⟩:=h
 have d:(Rows.laid_errors_errorType:DataW Unit).handleName? =Y [101,114,114,111,114]:=by kernel_rfl
 have y:(Tryz.prog.cutTypes.find? (·.1== "internal/reflectlite.rtype")).map (·.2)=Y 257:=by kernel_rfl
 obtain rfl:=gu (d.symm.trans K);obtain rfl:=gu (y.symm.trans r);have a:((List.range Tryz.prog.types.size).all λb=> !Tryz.prog.rowNamed b [101,114,114,111,114]||Nat.beq b 59)=dT:=by kernel_rfl
 have j:=lf.1 a b (List.mem_range.2 m);rw[E]at j;obtain rfl:b=59:=iZ (by simpa using j);have N:typeHandle Tryz.prog 59=.pointer (Y ⟨11,59,J⟩):=by kernel_rfl
 rw[N]at H;have F:Tryz.prog.globalNamed "errors.errorType" =Y 0:=by kernel_rfl
 exact(World.var?_cell F H 0).trans Z
def agb(h:laidMet Tryz.prog (tf.filter λx=>x.2.handleName?.isNone) W):Lib.TabIs Tryz.prog W "internal/strconv.uint64pow10" .u64 Lib.pow10Tab:=by
 let⟨b,o,_⟩:=h
 have f:("internal/strconv.uint64pow10",Lib.tabData .u64 Lib.pow10Tab)∈(tf.filter λx=>x.2.handleName?.isNone):=BX (i:=2) eU;obtain⟨g,t,w,a,p,K,r,m,E⟩:=Ml o _ _ f;have d:Tryz.prog.globalNamed "internal/strconv.uint64pow10" =Y 8:=by kernel_rfl
 have y:(Tryz.prog.globals[8]?).map (·.type)=Y 416:=by kernel_rfl
 obtain rfl:=gu (d.symm.trans K);obtain rfl:=gu (y.symm.trans r);have:=Lib.cells_of_tab Go.Proofs.Tryz.underlying416 Go.Proofs.Tryz.underlying230 eU eU E;unfold Lib.TabIs;rw[m,<-this]
def agc{W:World}(h:W.ShapedOpen Tryz.prog):∃m:Int,W.cell? ⟨5,0,J⟩=Y (.int .i64 m):=by
 have c:(((begin Tryz.prog (λ_ _=>0) default).world.heap[5]?).bind Obj.row?)=Y (#[.int .i64 0],3):=by kernel_rfl
 obtain⟨w,K,r,b⟩:=h.1 5 _ _ (j0 eU) c;obtain⟨q,E,_,H⟩:=b eU;have a:Tryz.prog.cellTypes Tryz.prog.depth 3=Y [3]:=by kernel_rfl
 obtain rfl:=gu (a.symm.trans E);have C:0<w.size:=by rw[r];decide
 obtain⟨u,G,P⟩:=H 0 w[0] (sg C);obtain rfl:3=u:=by simpa using G
 unfold Cell.ok at P;rw[Go.Proofs.Tryz.underlying3]at P;have d:W.cell? ⟨5,0,J⟩=Y w[0]:=by simp only[World.cell?,K,Cb,xO,r7];exact sg C
 rw[d];revert P;generalize w[0]=v;intro P;cases v with
 |int k n=>obtain⟨rfl,_⟩:=P;exact⟨n,Z⟩
 | _=>exact P.elim
end Go.As
namespace Go.As
open Go.RowKit Go.Deep Go.ChangeShapes Go.WideShapes
open Go.Proofs (Tryz.prog Tryz.f3)
open Go.Proofs.YtlkijhibifmamaaGreatDoor
open Go.Proofs.YtlkijhibifmamaaGreatDoor.Rows (uptoBulk uptoBulkAll)
def agd{H:Type}{g:TypeId×Value->H}{P:Program}{f:Func}{s:ChangeSpec}{e u h q:Bool}{W y:World}{K:Array Value}{v:Value}{l E:L (DataW H)}{d pa pv:L MemPlace}
  (B:DataW.Whole g P f.params.toList s.vars e W K.toList l E d)
  (o:∀(b:Nat)(x:Nat->Bool)(G:Bool),DataW.TrodAll g P y b x G f.resultTypes.toList (v.resultList f.resultTypes.size) (s.fn H (l++E)).results [])
  (i:∀x:Nat->Bool,(∀p∈d,x p.block=dT)->DataW.TrodAll g P y 0 x dT f.params.toList K.toList (s.fn H (l++E)).args pa)
  (k:∀x:Nat->Bool,(∀p∈d,x p.block=dT)->DataW.TrodVars g P y x s.vars (s.fn H (l++E)).vars pv)
  (m:d=pa++pv)(F:Go.RowKit.Below W.heap.size W y)
  (D:∀(j:Nat)(t:TypeId)(r:Value),f.resultTypes[j]? =Y t->(v.resultList f.resultTypes.size)[j]? =Y r->Value.okWide P y .any 0 t r):
  s.post g P f e u h q W K v y:=by
 have n:∀p∈d,(λb=>decide (b<W.heap.size)) p.block=dT:=λp hp=>by simpa using B.lt p hp
 have C:=B.lt;refine⟨l,E,d,[],pa,pv,B,o _ _ _,i _ n,k _ n,World.keptBut_mono (λp hp=>⟨hp,?_⟩) (F.frame (·∈d)),λ_=>?_⟩
 .rw[m,jf]at hp;exact Or.inr hp
 obtain⟨_,_,_,_,_,c,I⟩:=B;refine⟨D,_,_,([]++pa)++pv,⟨[]++pa,pv,trodAll_append (i _ (λ_ _=>Z)) (o _ _ _),k _ (λ_ _=>Z),Z,?_,?_⟩,?_⟩
 .intro b w hp;have z:MemPlace.cell b w∈d:=by rw[m];simpa using hp
  rw[F.frozen (p:=⟨b,w,J⟩) (C _ z)];exact c b w z
 .intro a;have:=I a;rw[m]at this;simpa using this
 intro p hp _;rw[m];simpa using hp
section
variable{W:World}
abbrev fz0(W:World):xc:=⟨λ_=>J,λg=>W.heap[g]?⟩
def age(d:laidMet Tryz.prog (tf.filter λx=>x.2.handleName?.isNone) W):uK (λk=>k<W.heap.size) (Gz Tryz.prog (fz0 W)) W (hV W):=by
 let⟨t,a,_⟩:=d
 refine⟨λg w e=>?_,λp w e=>(by cases e),λp q w b c e=>(by cases e),λg o h=>⟨?_,h⟩⟩
 .match g,e with
  |0,e=>cases e
  |1,e=>cases e;exact HK a (n:= "demotic/dialect.effects") (g:=1) eU eU [[99,97,108,108,115],[112,114,105,110,116,115],[114,101,97,100,115],[116,114,97,112,115],[119,114,105,116,101,115]] gP (BX (i:=4) eU)
  |2,e=>cases e;exact HK a (n:= "demotic/verify.predicates") (g:=2) eU eU [[101,113],[110,101],[115,108,116],[115,108,101],[115,103,116],[115,103,101],[117,108,116],[117,108,101],[117,103,116],[117,103,101]] gP (BX (i:=7) eU)
  |3,e=>cases e;exact HK a (n:= "demotic/dialect.others") (g:=3) eU eU [[98,108,111,99,107,115],[99,111,109,109,117,116,101,115],[101,110,100],[112,117,114,101]] gP (BX (i:=5) eU)
  |4,e=>cases e;exact HK a (n:= "demotic/dialect.classes") (g:=4) eU eU [[97,110,121],[97,114,114],[105,110,116],[109,101,109],[110,117,109]] gP (BX (i:=6) eU)
  |g+5,e=>cases e
 exact(Array.getElem?_eq_some_iff.1 h).1
def Si(h:Ef (Gz Tryz.prog (fz0 W)) w)(K:W.cell? a=Y v):w.cell? a=Y v:=by
 have j:W.heap[a.block]? ≠J:=λe=>by simp[World.cell?,e]at K
 obtain⟨o,b⟩:=Option.ne_none_iff_exists'.1 j;have:=h a.block o b;rw[World.cell?_of_block (w:=W) (this.trans b.symm)];exact K
def agf(a:laidMetH Tryz.prog tf W)(b:W.ShapedOpen Tryz.prog):rU (Gz Tryz.prog (fz0 W)):=by
 obtain⟨K,r⟩:=Sh a;obtain⟨m,f⟩:=agc b;refine⟨λw N=>Si N (aga r),⟨m,λw N=>Si N f⟩,λw N=>?_⟩;have hp:=agb K;have F:Tryz.prog.globalNamed "internal/strconv.uint64pow10" =Y 8:=by kernel_rfl
 unfold Lib.TabIs World.var? at hp⊢;rw[F]at hp⊢;simp only[jm]at hp⊢;cases ho:W.heap[8]? with
 |none=>rw[ho]at hp;cases hp
 |some o=>rw[N 8 o ho];rw[ho]at hp;exact hp
def agh(F:uK (λk=>k<W.heap.size) G W (hV W)):fJ (λk=>k<W.heap.size) G ⟨.e,.h⟩ W (hV W):=by
 refine⟨λk h=>h,λp o h=>?_,λp q o r c h=>?_,λp _=>⟨Z,Z,T.Jh p⟩,λp c h=>B8,λc h=>?_,F⟩
 .rw[T.Jh]at h;cases h
 .rw[T.Jh]at h;cases h
 obtain n|n:=kG c W.heap.size
 .exact n
 simp only[hV,pF n]at h;omega
def agi(z:laidMetH Tryz.prog tf W)(I:W.ShapedOpen Tryz.prog){H:Type}{d:TypeId×Value->H}{E:Nat->Bool}{w:Array Value}{h:Value}{x y:DataW H}(j:uptoBulk x+uptoBulk y<=eI)
  (c:ie d W E a 24 w.toList x)(K:ie d W E a 25 [h] y):
  Calls Tryz.prog 3 #[.agg w,h] W λe P=>e=.returned (.bool dT)/\Go.RowKit.Below W.heap.size W P:=by
 obtain⟨v,t,B,f,k⟩:=aa4 M c;obtain⟨l,xs,U,o,R,q⟩:=aaZ M K;have s:=af8 (fz:=fz0 W) Z (agf z I) (j:=eI) gP f k o R q;have G:=agh (age (Sh z).1);have C:w.size=1:=by rw[<-tu,<-B.1];rfl
 have b:fR W (hV W) [.agg [v],l] (#[Value.agg w,h]:Array Value).toList:=by
  refine .cons' (.agg [v] w (by rw[C];rfl) λi Q=>?_) (.one U);have n:i=0:=by simpa using Q
  subst n;have:=B.2 0 ei (by rw[tu,C];omega);rw[xT,sg M];simpa using this
 have F:=s _ _ W (hV W) _ G b;have m:(callFunc 3 #[Value.agg w,h]).run Tryz.prog W=.ok (.enter 3 #[Value.agg w,h]) W:=by kernel_rfl
 rw[m]at F;have N:=callsIn_wide.1 F;refine N.mono λe P g=>?_;cases e with
 |returned u=>obtain⟨r,D,p,⟨rfl,rfl⟩,hE,_,hv⟩:=g;cases hv;exact⟨Z,hE.below.os,hE.below.tape,hE.below.output,hE.below.size,hE.below.block⟩
 | _=>exact g.elim
end
end Go.As
namespace Go.As
open Go.RowKit Go.Deep Go.ChangeShapes Go.WideShapes Go.ChangeAt
open Go.Proofs (Tryz.prog Tryz.f3 Tryz.checked Tryz.func3 Tryz.params3 Tryz.underlying24 Tryz.underlying25 Tryz.underlying4)
open Go.Proofs.YtlkijhibifmamaaGreatDoor
open Go.Proofs.YtlkijhibifmamaaGreatDoor.Rows (uptoBulk uptoBulkAll)
def own:ownKnob Tryz.prog.godebug=J:=by kernel_rfl
def base0(q:Os):World:=
 {World.holding Tryz.prog q ⟨#[],#[],[]⟩with heap:=(World.holding Tryz.prog q ⟨#[],#[],[]⟩).heap.modify 0 λ
   |.cells _ t frozen=>.cells #[.iface 257 (.agg #[.pointer (Y ⟨11,59,J⟩)])] t frozen
   |o=>o}
def wc:L (String×DataW Unit):=tf.filter λx=>x.2.handleName?.isNone
def wit(q:Os):World:=(base0 q).layVars Tryz.prog wc
abbrev uv:Array Value:=#[.agg #[.slice J 0 0],.slice J 0 0]
def agj(q:Os):laidMetH Tryz.prog tf ((wit q).forCall (λ_ _=>0) ⟨#[],uv,[]⟩).memory:=by
 refine laidMetH_of_parts ?_ eU;show laidMet Tryz.prog wc _;have d:(wc.filter λx=>(wc.map (·.1)).contains x.1)=wc:=List.filter_eq_self.2 λx v=>List.contains_iff_mem.2 (gS.2 ⟨x,v,Z⟩);have y:(wc.filter λx=> !(wc.map (·.1)).contains x.1)=[]:=List.filter_eq_nil_iff.2 λx v=>by rw[List.contains_iff_mem.2 (gS.2 ⟨x,v,Z⟩)];simp
 have h:laidMet Tryz.prog wc (wit q):=laidMet_layVars (w0:=base0 q) (wc.map (·.1)) [] (by rw[d];rfl) (by rw[d];kernel_rfl) (by rw[d];kernel_rfl) (by rw[y];exact LaidIn.none);exact h.of_heap (by simp[World.memory,World.forCall,Input.heap])
def agk(q:Os):(wit q).os=q:=World.layVars_os _ _ _
def agl(q:Os){H:Type}(a:TypeId×Value->H):DataW.whole a Tryz.prog ((wit q).forCall (λ_ _=>0) ⟨#[],uv,[]⟩).memory Tryz.f3.params.toList Rows.verifyFirstSpec.vars dU uv.toList 8=Y ([.agg [.nil],.nil],[],[]):=by kernel_rfl
def agm(q:Os):((wit q).forCall (λ_ _=>0) ⟨#[],uv,[]⟩).variablesZipB Tryz.prog=dT:=by kernel_rfl
def agn(q:Os):(((wit q).forCall (λ_ _=>0) ⟨#[],uv,[]⟩).heap.toList.drop Tryz.prog.globals.size).take ((begin Tryz.prog (λ_ _=>0) default).world.heap.size - Tryz.prog.globals.size)=
   (begin Tryz.prog (λ_ _=>0) default).world.heap.toList.drop Tryz.prog.globals.size:=by kernel_rfl
def Sj(q:Os):Input.okWideB Tryz.prog ((wit q).forCall (λ_ _=>0) ⟨#[],uv,[]⟩) 3 ⟨#[],uv,[]⟩=dT:=by kernel_rfl
def contract{H:Type}{c:TypeId×Value->H}{W:World}{m:Nat}{K:Array Value}{l E:L (DataW H)}{g:L MemPlace}
  (f:∀(j:Nat) t v,Tryz.f3.params[j]? =Y t->K[j]? =Y v->Value.okWide Tryz.prog W .any m t v)
  (G:DataW.Whole c Tryz.prog Tryz.f3.params.toList Rows.verifyFirstSpec.vars dU W K.toList l E g)(hk:uptoBulkAll (l++E)<=1048576)
  (Q:laidMetH Tryz.prog tf W)(R:W.ShapedOpen Tryz.prog):
  Calls Tryz.prog 3 K W λe B=>∃v,e=.returned v/\Rows.verifyFirstSpec.post c Tryz.prog Tryz.f3 dU dT dU dU W K v B:=by
 have I:=G;have n:=G.lt;obtain⟨p,q,F,U,rfl,hfz,hnd⟩:=G;have P:DataW.TrodAll c Tryz.prog W 0 (λ_=>dT) dT Tryz.f3.params.toList K.toList l p:=F;rw[Tryz.params3]at P f;obtain⟨v0,v1,C,D,u,y,rfl,rfl,rfl,h0,h1⟩:=trodAll_two P;obtain⟨rfl,rfl⟩:=trodVars_none U;obtain⟨w,rfl,_⟩:=okWide_struct Tryz.underlying24 (f 0 24 v0 Z Z);obtain⟨a,s,cap,rfl⟩:=okWide_slice Tryz.underlying25 (f 1 25 v1 Z Z);have hb:uptoBulk C+uptoBulk D<=eI:=by simp only[oi,uptoBulkAll]at hk;have:eI=1048576:=Z;omega
 have t0:ie c W (λ_=>dT) dT 24 w.toList C:=by obtain⟨d,h⟩:=h0;exact⟨d,u,h⟩
 have t1:ie c W (λ_=>dT) dT 25 [.slice a s cap] D:=by obtain⟨d,h⟩:=h1;exact⟨d,y,h⟩
 refine(agi Q R hb t0 t1).mono λe B ⟨he,N⟩=>?_;subst he;have i:laidOutB Tryz.prog=dT:=by kernel_rfl
 have same:∀z:Nat->Bool,(∀x∈(u++y)++[],z x.block=dT)->DataW.TrodAll c Tryz.prog B 0 z dT Tryz.f3.params.toList (#[Value.agg w,.slice a s cap]:Array Value).toList [C,D] (u++y):=λz r=>by
  rw[Tryz.params3];refine trodAll_mk2 ?_ ?_
  .exact WideElems.Trod_stays i eU (j0 eU) h0 (λx k=>N.same (n x Ct)) λx k=>r x Ct
  exact WideElems.Trod_stays i eU (j0 eU) h1 (λx k=>N.same (n x Ct)) λx k=>r x Ct
 have o:Tryz.f3.resultTypes=#[4]:=by kernel_rfl
 refine⟨_,Z,agd (pa:=u++y) (pv:=[]) I (λb z hd=>?_) same (λ_ _=>Z) Z N (ok_one o Z (okWide_bool_mk Tryz.underlying4 _))⟩;rw[o];exact trodAll_mk1 (shut_bool Tryz.underlying4 _)
def lifted(q:Os)(a:q.Started)(H:Type)(b:TypeId×Value->H)(F:Stop.Interp):
  ReturnsInHanded {} Tryz.checked q 3 .any ((Rows.OpenSpec.upto Rows.verifyFirstSpec).preRow b Tryz.prog Tryz.f3 Rows.verifyFirstUptoRow.domain dU Rows.verifyFirstUptoRow.laid) (((Rows.OpenSpec.upto Rows.verifyFirstSpec).at F).post b Tryz.prog Tryz.f3 dU dT dU dU):=by
 have f:=agj q;have c:(Rows.OpenSpec.upto Rows.verifyFirstSpec).preRow b Tryz.prog Tryz.f3 Rows.verifyFirstUptoRow.domain dU Rows.verifyFirstUptoRow.laid ((wit q).forCall (λ_ _=>0) ⟨#[],uv,[]⟩).memory uv:=
  OpenSpec.preRow_of_cond 8 (agl q b) eU (λk P=>by cases P;kernel_rfl) eU f
 refine returnsInHanded_of_row (C:=Tryz.checked) (s:=Rows.OpenSpec.upto Rows.verifyFirstSpec) own a eU Tryz.func3
  ⟨wit q,λ_ _=>0,⟨#[],uv,[]⟩,agk q,World.shaped_of_ZipB (agm q) (agn q),(Input.okWide_of_okWideB (base:=0) (Sj q)).1,(Input.okWide_of_okWideB (Sj q)).2,c,by simp only[Assume.holds];exact⟨ei,ei,λh=>B8,ei,ei⟩⟩ ?_
 intro W base K l E e d j _ P _ g i _;exact contract d j (j0 (P _ Z)) g i
