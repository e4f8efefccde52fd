/- Lemmas. No condition. -/
import Derived.Test.YtlkijhibifmamaaGreatDoorBF
import Derived.Test.YtlkijhibifmamaaGreatDoorRows
import Derived.OpenShut
import Derived.ProofKit
import Derived.Deep.Slices
set_option linter.all false
set_option autoImplicit true
set_option relaxedAutoImplicit true
set_option maxHeartbeats 0
set_option maxRecDepth 100000
noncomputable section
open Option renaming some→Y,none→J
open Bool renaming true→dT,false→dU
open List renaming length→O
namespace Go.As
open Go.RowKit Go.Deep
open Go.Proofs (Tryz.prog)
open Go.Proofs.YtlkijhibifmamaaGreatDoor.Rows (uptoBulk uptoBulkAll)
def hV(W:World):Kx:=⟨λ_=>J,λ_=>J,λc=>match W.heap[c]? with|some (.cells eE _ _)=>eE.size| _=>0,λ_=>J⟩
def aaJ{H:Type}(d:DataW H):1<=uptoBulk d:=by
 cases d with
 |lit l=>cases l<;>simp[uptoBulk]
 | _=>simp[uptoBulk]
def aaK{H:Type}:∀(l r:L (DataW H)),uptoBulkAll (l++r)=uptoBulkAll l+uptoBulkAll r:=by
 intro l r;induction l with
 |nil=>simp[uptoBulkAll]
 |cons a l i=>simp only[rW,uptoBulkAll,i];omega
def P8{H:Type}(D:Nat->DataW H):∀n,uptoBulkAll ((List.range n).map D)=fV (λk=>uptoBulk (D k)) n:=by
 intro n;induction n with
 |zero=>simp[uptoBulkAll,fV]
 |succ n ih=>rw[List.range_succ,oj,aaK,ih];simp[uptoBulkAll,fV]
def A4{f g:Nat->Nat}:∀{n:Nat},(∀k,k<n->f k<=g k)->fV f n<=fV g n:=by
 intro n;induction n with
 |zero=>intro _;exact fQ _
 |succ n ih=>exact VH
def yL{f:Nat->Nat}:∀{n:Nat},(∀k,k<n->1<=f k)->n<=fV f n:=by
 intro n;induction n with
 |zero=>intro _;exact oE _
 |succ n ih=>exact VH
section
variable{H:Type}{enc:TypeId×Value→H}{W:World}{sp:Nat→Bool}{held:Bool}
def cell_spot(h:W.cell? a=Y v):a=⟨a.block,a.off,J⟩/\a.off<(hV W).U a.block:=by
 let⟨c,o,sp⟩:=a
 simp only[World.cell?,hV]at h⊢;split at h
 .rename_i eE e fz j;cases sp with
  |some s=>simp at h
  |none=>
  refine⟨Z,?_⟩;simp only[Cb,xO,r7]at h;obtain n|n:=kG o eE.size
  .rw[j];exact n
  rw[pF n]at h;cases h
 cases h
def P9{Ta E sz:Nat}(hT:Tryz.prog.underlying Ta=Y (.slice E))(hc:Tryz.prog.cellsOf E=sz)(hsz:0<sz){φ:List A->DataW H->Prop}{fuel:Nat}{v:Value}{d:DataW H}{ps:List MemPlace}
  (h:DataW.trod enc Tryz.prog W 0 sp held fuel Ta [v]=Y (d,ps))
  (elem:∀fuel' cs d' ps',uptoBulk d'<uptoBulk d->DataW.trod enc Tryz.prog W 0 sp held fuel' E cs=Y (d',ps')->∃zs,fR W (hV W) zs cs/\φ zs d'):
  (v=.slice J 0 0/\d=.nil)\/∃(a:Addr)(len cap m:Nat)(xs:List (List A))(D:Nat->DataW H),v=.slice (Y a) len cap/\len<=cap/\m=(if sp a.block then cap else len)/\d=.slice ((List.range len).map D) ((List.range (m - len)).map λj=>D (len+j))/\xs.length=len/\(∀x∈xs,x.length=sz)/\
   (∀k (h:k<xs.length),φ xs[k] (D k))/\(len=0->eQ W (hV W) (.eG sz 0 [] .G) v)/\(0<len->∀t,mS W (hV W) a.block a.off len sz cap t->eQ W (hV W) (.eG sz len xs.flatten t) v):=by
 obtain⟨h1,h2⟩|⟨a,len,cap,m,n,D,Pl,h1,_,hle,hcap,hm,h2,hx⟩:=open_slice hT h
 .cases h2;exact .inl ⟨by simpa using h1,rfl⟩
 obtain rfl:v=.slice (Y a) len cap:=by simpa using h1
 have hd:d=.slice ((List.range len).map D) ((List.range (m - len)).map λj=>D (len+j)):=by simpa using fW Prod.fst h2
 have hml:len<=m:=by rw[hm];split<;>omega
 have hbulk:uptoBulk d=fV (λk=>uptoBulk (D k)) len+uptoBulkAll ((List.range (m - len)).map λj=>D (len+j))+1:=by rw[hd,uptoBulk,P8]
 have hone:∀i,i<len->uptoBulk (D i)<uptoBulk d:=λi hi=>by have:=pf (λk=>uptoBulk (D k)) hi;omega
 obtain⟨Aa,hA⟩:=xM (r:=λ(i:Nat)(p:List A×List Value)=>i<len->W.cells? 0 (a.add (i*sz)) sz=Y p.2/\fR W (hV W) p.1 p.2/\φ p.1 (D i)) λi=>by
  by_cases hi:i<len
  .obtain⟨cs',g1,g2⟩:=hx i M;rw[hc]at g1;obtain⟨zs,g3,g4⟩:=elem n cs' (D i) (Pl i) (hone i hi) g2;exact⟨(zs,cs'),λ_=>⟨g1,g3,g4⟩⟩
  exact⟨([],[]),λh=>absurd h hi⟩
 have hlen:∀i,i<len->(Aa i).2.length=sz/\(Aa i).1.length=sz:=λi hi=>by obtain⟨g1,g2,_⟩:=hA i hi;have g3:=(World.cells?_some g1).2.1;exact⟨g3,g2.1.trans g3⟩
 have hxs:∀x∈(List.range len).map λi=>(Aa i).1,x.length=sz:=λx hx=>by obtain⟨i,hi,rfl⟩:=gS.1 hx;exact(hlen i (List.mem_range.1 hi)).2
 have hfl:((List.range len).map λi=>(Aa i).1).flatten.length=len*sz:=by rw[pS hxs];simp
 refine .inr ⟨a,len,cap,m,(List.range len).map λi=>(Aa i).1,D,rfl,hle,hm,hd,ei,hxs,λk hk=>?_,λh0=>?_,?_⟩
 .have hk':k<len:=by simpa using hk
  simp only[mM,List.getElem_range];exact(hA k hk').2.2
 .subst h0;exact .emp sz a cap hsz
 intro h0 t ht;have cell:∀i j,i<len->j<sz->W.cell? ⟨a.block,a.off+(i*sz+j),J⟩=(Aa i).2[j]? /\(Aa i).2[j]?.isSome=dT:=λi j hi hj=>by
  obtain⟨g1,_,_⟩:=hA i hi;have g2:=(World.cells?_some g1).2.2 j hj;have g3:(Aa i).2[j]?.isSome=dT:=by rw[jq (by rw[(hlen i hi).1];exact hj)];rfl
  refine⟨?_,g3⟩;rw[add_add]at g2;rw[<-g2];by_cases hz:i*sz+j=0
  .rw[hz];obtain⟨y,hy⟩:=oW.1 g3;have hc2:W.cell? (a.add (i*sz+j))=Y y:=g2.trans hy;rw[hz]at hc2;have:=(cell_spot hc2).1;simp only[Addr.add,oH]at this⊢;rw[zu,<-this]
  simp only[Addr.add,hz,r7]
 have flatA:∀i j,i<len->j<sz->((List.range len).map λi=>(Aa i).1).flatten[i*sz+j]? =(Aa i).1[j]? :=λi j hi hj=>by rw[flat_get hxs (by simpa using hi) hj];simp
 have split:∀k,k<len*sz->k/sz<len/\k%sz<sz/\k=k/sz*sz+k%sz:=λk hk=>⟨(Nat.div_lt_iff_lt_mul hsz).2 hk,Nat.mod_lt _ hsz,by rw[Nat.mul_comm];exact(Nat.div_add_mod k sz).symm⟩
 have last:a.off+len*sz<=(hV W).U a.block:=by
  obtain⟨g1,g2⟩:=cell (len - 1) (sz - 1) M M;obtain⟨y,hy⟩:=oW.1 g2;have:=(cell_spot (g1.trans hy)).2;dsimp only at this;have e:(len - 1)*sz+(sz - 1)+1=len*sz:=by obtain⟨l,rfl⟩:∃l,len=l+1:=⟨len - 1,M⟩;rw[zN,Nat.add_sub_cancel];omega
  omega
 have ha:a=⟨a.block,a.off,J⟩:=by obtain⟨g1,g2⟩:=cell 0 0 h0 hsz;obtain⟨g3,_,_⟩:=hA 0 h0;have g4:=(World.cells?_some g3).2.2 0 hsz;rw[add_add]at g4;obtain⟨y,hy⟩:=oW.1 g2;have:=(cell_spot (g4.trans hy)).1;simpa[Addr.add]using this
 rw[ha];refine .eG sz len _ t a.block a.off cap (λk=>((Aa (k/sz)).2[k%sz]?).getD undef) (by rw[hfl];exact last) (λk hk=>?_) (λk hk=>?_) hfl hle hsz ht
 .rw[hfl]at hk;obtain⟨s1,s2,s3⟩:=split k hk;obtain⟨g1,g2⟩:=cell _ _ s1 s2;obtain⟨y,hy⟩:=oW.1 g2;rw[<-s3,hy]at g1;rw[g1,hy];rfl
 have hk':=hk;rw[hfl]at hk';obtain⟨s1,s2,s3⟩:=split k hk';have g1:=flatA _ _ s1 s2;rw[<-s3,jq hk]at g1;obtain⟨_,g2,_⟩:=hA _ s1;obtain⟨l1,l2⟩:=hlen _ s1;have hj:k%sz<(Aa (k/sz)).1.length:=M
 have hj':k%sz<(Aa (k/sz)).2.length:=M
 rw[jq hj]at g1;have g3:=g2.2 (k%sz) hj hj';rw[gu g1,jq hj'];exact g3
def A5{Ta E sz:Nat}(hT:Tryz.prog.underlying Ta=Y (.slice E))(hc:Tryz.prog.cellsOf E=sz)(hsz:0<sz){φ:List A->Nat->Prop}{fuel:Nat}{v:Value}{d:DataW H}{ps:List MemPlace}
  (h:DataW.trod enc Tryz.prog W 0 sp held fuel Ta [v]=Y (d,ps))
  (elem:∀fuel' cs d' ps',uptoBulk d'<uptoBulk d->DataW.trod enc Tryz.prog W 0 sp held fuel' E cs=Y (d',ps')->∃zs,fR W (hV W) zs cs/\φ zs (uptoBulk d')):
  ∃a xs,∃bs:Nat->Nat,eQ W (hV W) a v/\fT sz xs a/\fV bs (O xs)+1<=uptoBulk d/\∀k (h:k<O xs),φ xs[k] (bs k)/\1<=bs k:=by
 obtain⟨rfl,rfl⟩|⟨a,len,cap,m,xs,D,rfl,_,hm,hd,hl,hxs,hφ,h0,h1⟩:=P9 (φ:=λx d=>φ x (uptoBulk d)) hT hc hsz h elem
 .exact⟨.ej,[],λ_=>0,.ej,⟨.inl ⟨Z,Z,Z⟩,λx h=>by cases h⟩,by simp[fV,uptoBulk],λk hk=>by simp at hk⟩
 subst hl;have hbulk:uptoBulk d=fV (λk=>uptoBulk (D k)) (O xs)+uptoBulkAll ((List.range (m - O xs)).map λj=>D (O xs+j))+1:=by rw[hd,uptoBulk,P8]
 refine⟨.eG sz (O xs) xs.flatten .G,xs,λk=>uptoBulk (D k),?_,⟨.inr ⟨.G,(λp e=>by cases e),Z,pS hxs⟩,hxs⟩,M,λk hk=>⟨hφ k hk,aaJ _⟩⟩;obtain e|e:=xN (O xs)
 .rw[pG e]at h0⊢;exact h0 Z
 exact h1 e .G eR
end
section
variable{H:Type}{enc:TypeId×Value→H}{W:World}{sp:Nat→Bool}{held:Bool}
abbrev ie(enc:TypeId×Value->H)(W:World)(sp:Nat->Bool)(held:Bool)(Ta:TypeId)(w:L Value)(d:DataW H):Prop:=∃a t,DataW.trod enc Tryz.prog W 0 sp held a Ta w=Y (d,t)
def fR.one{P:Kx}(h:eQ w P a v):fR w P [a] [v]:=⟨Z,λi K _=>by
 match i,K with
 |0,_=>exact h⟩
def fR.cons'{P:Kx}(h:eQ w P a v)(o:fR w P l r):fR w P (a::l) (v::r):=⟨by simp[o.1],λi K b=>by
 match i,K,b with
 |0,_,_=>exact h
 |i+1,K,b=>exact o.2 i Ii Ev⟩
def yM(h:ie enc W sp held 9 [v] d):∃s:L Nat,eQ W (hV W) (.J s) v/\O s+1<=uptoBulk d:=by
 let⟨a,t,h⟩:=h
 obtain⟨b,K,r,_⟩:=DataW.trod_string Go.Proofs.Tryz.underlying9 h;obtain rfl:v=.string b:=by simpa using K
 cases r;exact⟨b.data.toList.map UInt8.toNat,.J _ _ Z,by simp[uptoBulk]⟩
def A6(b:Tryz.prog.underlying Ta=Y (.int .i64))(h:ie enc W sp held Ta [v] d):∃z:Int,eQ W (hV W) (.int .i64 z) v:=by
 let⟨a,t,h⟩:=h
 obtain⟨z,K,r,_⟩:=DataW.trod_int b h;obtain rfl:v=.int .i64 z:=by simpa using K
 exact⟨z,.int _ _⟩
def fC.of{s:L (L A)}(h:fT 1 s a):fC s.flatten a/\O s.flatten=O s/\∀x∈s.flatten,∃k,∃h:k<O s,s[k]=[x]:=by
 have o:O s.flatten=O s:=by rw[pS h.2,kO]
 refine⟨?_,o,λx v=>?_⟩
 .show Sl 1 (O s.flatten) s.flatten a;rw[o];exact h.1
 obtain⟨l,K,r⟩:=lE.1 v;obtain⟨k,P,rfl⟩:=km K;have m:=h.2 _ K
 match hxk:s[k],m,r with
 |[y],_,r=>
 obtain rfl:x=y:=by simpa using r
 exact⟨k,P,hxk⟩
def KG(h:ie enc W sp held 44 [v] d):∃a f,eQ W (hV W) a v/\fC f a/\(∀x∈f,∃s:L Nat,x=.J s/\O s<=uptoBulk d)/\O f+1<=uptoBulk d:=by
 let⟨i,B,h⟩:=h
 obtain⟨a,f,j,K,r,u,E⟩:=A5 (φ:=λx b=>∃s:L Nat,x=[.J s]/\O s+1<=b) (sz:=1) Go.Proofs.Tryz.underlying44 eU M h λc w q g _ n=>by obtain⟨b,l,y,_⟩:=DataW.trod_string Go.Proofs.Tryz.underlying9 n;subst l;obtain⟨s,p,t⟩:=yM ⟨c,g,n⟩;exact⟨[.J s],.one p,s,Z,t⟩
 obtain⟨p,t,m⟩:=fC.of r;have z:=yL λk P=>(E k P).2;refine⟨a,f.flatten,K,p,λx o=>?_,M⟩;obtain⟨k,P,e⟩:=m x o;obtain⟨⟨s,y,G⟩,_⟩:=E k P;rw[e]at y;have:=pf j P;exact⟨s,by simpa using y,M⟩
def Qa(i:Tryz.prog.underlying Ta=Y (.slice E))(j:Tryz.prog.underlying E=Y (.int .i64))(l:Tryz.prog.cellsOf E=1)(h:ie enc W sp held Ta [v] d):∃a s,eQ W (hV W) a v/\fC s a/\mf s/\O s+1<=uptoBulk d:=by
 let⟨c,F,h⟩:=h
 obtain⟨a,s,u,K,r,C,f⟩:=A5 (φ:=λx _=>∃z:Int,x=[.int .i64 z]) (sz:=1) i l M h λb w B q _ n=>by obtain⟨z,g,y,_⟩:=DataW.trod_int j n;subst g;exact⟨[.int .i64 z],.one (.int _ _),z,Z⟩
 obtain⟨p,t,m⟩:=fC.of r;have D:=yL λk P=>(f k P).2;refine⟨a,s.flatten,K,p,λx o=>?_,M⟩;obtain⟨k,P,e⟩:=m x o;obtain⟨⟨z,y⟩,_⟩:=f k P;rw[e]at y;exact⟨z,by simpa using y⟩
def vN{t:TypeId}{n:Nat}(Q:Tryz.prog.underlying t=Y (.struct b))(B:Tryz.prog.cellsOf t=n)(D:b.size=n)(c:b.toList.map (λf=>(f.offset,Tryz.prog.cellsOf f.type))=(List.range n).map λi=>(i,1))(h:ie enc W sp held t w d):
  ∃k:L (DataW H),O w=n/\O k=n/\d=.agg k/\∀(i:Nat)(K:i<O w)(r:i<O k)(f:Field),b[i]? =Y f->ie enc W sp held f.type [w[i]] k[i]:=by
 let⟨u,F,h⟩:=h
 obtain⟨s,m,_,x,y,N,z⟩:=DataW.trod_struct Q h;have a:d=.agg (s.map (·.1)):=by simpa using fW Prod.fst x
 refine⟨s.map (·.1),y.trans B,by rw[jH,N,D],a,λi K r f g=>?_⟩;have C:i<O s:=by simpa using r
 have v:=fW (λl=>l[i]?) c;have q:i<n:=M
 have p:b.toList[i]? =Y f:=by rw[qx];exact g
 simp only[pz,p,jb,List.getElem?_range q,oZ,wh]at v
 let⟨j,e⟩:=v
 have o:=z i f g;rw[j,e,jq C]at o;have E:(w.drop i).take 1=[w[i]]:=by rw[EI K];rfl
 rw[E]at o;refine⟨m,s[i].2,?_⟩;rw[o,mM]
end
section
variable{H:Type}{enc:TypeId×Value→H}{W:World}{sp:Nat→Bool}{held:Bool}
def aaL(h:ie enc W sp held 24 cs d):∃v0,∃d0:DataW H,cs=[v0]/\uptoBulk d=uptoBulk d0+1/\ie enc W sp held 22 [v0] d0:=by obtain⟨ds,l1,l2,rfl,g⟩:=vN Go.Proofs.Tryz.underlying24 eU Z eU h;exact Tx
def aaM(h:ie enc W sp held 53 cs d):∃v0 v1 v2 v3 v4 v5,∃d0 d1 d2 d3 d4 d5:DataW H,cs=[v0,v1,v2,v3,v4,v5]/\uptoBulk d=uptoBulk d0+uptoBulk d1+uptoBulk d2+uptoBulk d3+uptoBulk d4+uptoBulk d5+1/\ie enc W sp held 9 [v0] d0/\ie enc W sp held 35 [v1] d1/\ie enc W sp held 44 [v2] d2/\ie enc W sp held 49 [v3] d3/\ie enc W sp held 50 [v4] d4/\ie enc W sp held 51 [v5] d5:=by obtain⟨ds,l1,l2,rfl,g⟩:=vN Go.Proofs.Tryz.underlying53 eU Z eU h;exact VL
def aaN(h:ie enc W sp held 48 cs d):∃v0 v1 v2 v3 v4 v5,∃d0 d1 d2 d3 d4 d5:DataW H,cs=[v0,v1,v2,v3,v4,v5]/\uptoBulk d=uptoBulk d0+uptoBulk d1+uptoBulk d2+uptoBulk d3+uptoBulk d4+uptoBulk d5+1/\ie enc W sp held 9 [v0] d0/\ie enc W sp held 45 [v1] d1/\ie enc W sp held 2 [v2] d2/\ie enc W sp held 9 [v3] d3/\ie enc W sp held 46 [v4] d4/\ie enc W sp held 44 [v5] d5:=by obtain⟨ds,l1,l2,rfl,g⟩:=vN Go.Proofs.Tryz.underlying48 eU Z eU h;exact VL
def aaO(h:ie enc W sp held 93 cs d):∃v0,∃d0:DataW H,cs=[v0]/\uptoBulk d=uptoBulk d0+1/\ie enc W sp held 91 [v0] d0:=by obtain⟨ds,l1,l2,rfl,g⟩:=vN Go.Proofs.Tryz.underlying93 eU Z eU h;exact Tx
def aaP(h:ie enc W sp held 95 cs d):∃v0 v1,∃d0 d1:DataW H,cs=[v0,v1]/\uptoBulk d=uptoBulk d0+uptoBulk d1+1/\ie enc W sp held 44 [v0] d0/\ie enc W sp held 22 [v1] d1:=by obtain⟨ds,l1,l2,rfl,g⟩:=vN Go.Proofs.Tryz.underlying95 eU Z eU h;exact M9
def aaQ(h:ie enc W sp held 276 cs d):∃v0 v1,∃d0 d1:DataW H,cs=[v0,v1]/\uptoBulk d=uptoBulk d0+uptoBulk d1+1/\ie enc W sp held 3 [v0] d0/\ie enc W sp held 35 [v1] d1:=by obtain⟨ds,l1,l2,rfl,g⟩:=vN Go.Proofs.Tryz.underlying276 eU Z eU h;exact M9
def aaR(h:ie enc W sp held 78 w d):∃c e f,∃a b m:DataW H,w=[c,e,f]/\uptoBulk d=uptoBulk a+uptoBulk b+uptoBulk m+1/\ie enc W sp held 9 [c] a/\ie enc W sp held 44 [e] b/\ie enc W sp held 76 [f] m:=by
 obtain⟨l,C,v,rfl,g⟩:=vN Go.Proofs.Tryz.underlying78 eU Z eU h
 match w,l,C,v,g with
 |[c,e,f],[a,b,m],_,_,g=>exact⟨c,e,f,a,b,m,Z,by simp only[uptoBulk,uptoBulkAll]<;>omega,g 0 ei ei _ Z,g 1 ei ei _ Z,g 2 ei ei _ Z⟩
def aaS(h:ie enc W sp held 88 w d):∃j k n o p q r,∃a b m c e f i:DataW H,w=[j,k,n,o,p,q,r]/\uptoBulk d=uptoBulk a+uptoBulk b+uptoBulk m+uptoBulk c+uptoBulk e+uptoBulk f+uptoBulk i+1/\ie enc W sp held 9 [j] a/\ie enc W sp held 44 [k] b/\ie enc W sp held 44 [n] m/\ie enc W sp held 86 [o] c/\ie enc W sp held 3 [p] e/\ie enc W sp held 3 [q] f/\ie enc W sp held 44 [r] i:=by
 obtain⟨l,C,v,rfl,g⟩:=vN Go.Proofs.Tryz.underlying88 eU Z eU h
 match w,l,C,v,g with
 |[j,k,n,o,p,q,r],[a,b,m,c,e,f,i],_,_,g=>exact⟨j,k,n,o,p,q,r,a,b,m,c,e,f,i,Z,by simp only[uptoBulk,uptoBulkAll]<;>omega,g 0 ei ei _ Z,g 1 ei ei _ Z,g 2 ei ei _ Z,g 3 ei ei _ Z,g 4 ei ei _ Z,g 5 ei ei _ Z,g 6 ei ei _ Z⟩
def aaT(h:ie enc W sp held 120 cs d):∃v0 v1,∃d0 d1:DataW H,cs=[v0,v1]/\uptoBulk d=uptoBulk d0+uptoBulk d1+1/\ie enc W sp held 9 [v0] d0/\ie enc W sp held 45 [v1] d1:=by obtain⟨ds,l1,l2,rfl,g⟩:=vN Go.Proofs.Tryz.underlying120 eU Z eU h;exact M9
def Dp{Ta E sz:Nat}(hT:Tryz.prog.underlying Ta=Y (.slice E))(hc:Tryz.prog.cellsOf E=sz)(hsz:0<sz){φ:List A->Prop}{v:Value}{d:DataW H}(h:ie enc W sp held Ta [v] d)(hb:uptoBulk d<=eI)
  (elem:∀cs d',uptoBulk d'<=eI->ie enc W sp held E cs d'->∃zs,fR W (hV W) zs cs/\φ zs):∃a xs,eQ W (hV W) a v/\fT sz xs a/\iR φ xs/\O xs<=eI:=by
 obtain⟨fuel,ps,h⟩:=h;obtain⟨a,xs,bs,h1,h2,h3,h4⟩:=A5 (φ:=λx _=>φ x) hT hc hsz h λfuel' cs d' ps' hlt h'=>elem cs d' M ⟨fuel',ps',h'⟩;have h5:=yL λk hk=>(h4 k hk).2;refine⟨a,xs,h1,h2,λx hx=>?_,M⟩;obtain⟨k,hk,rfl⟩:=km hx;exact(h4 k hk).1
def Dq(h:ie enc W sp held 44 [v] d)(j:uptoBulk d<=eI):∃a b,eQ W (hV W) a v/\fC b a/\iL b/\O b<=eI:=by obtain⟨a,b,K,r,h3,E⟩:=KG h;refine⟨a,b,K,r,λx hx=>?_,M⟩;exact Nc
def Qb(h:ie enc W sp held 35 [v] d):∃a s,eQ W (hV W) a v/\fC s a/\mf s/\O s+1<=uptoBulk d:=Qa Go.Proofs.Tryz.underlying35 Go.Proofs.Tryz.underlying3 eU h
def aaU(j:uptoBulk d<=eI)(h:ie enc W sp held 48 w d):∃x,fR W (hV W) x w/\iI pU x:=by obtain⟨I,K,N,P,R,U,t,u,y,z,B,C,rfl,hd,h0,h1,h2,h3,h4,h5⟩:=aaN h;obtain⟨v,b,E⟩:=yM h0;obtain⟨k,c⟩:=A6 Go.Proofs.Tryz.underlying45 h1;obtain⟨n,e⟩:=A6 Go.Proofs.Tryz.underlying2 h2;obtain⟨m,f,F⟩:=yM h3;obtain⟨p,D,g,l,r,G⟩:=Qa Go.Proofs.Tryz.underlying46 Go.Proofs.Tryz.underlying2 eU h4;obtain⟨Q,q,i,o,s,a⟩:=Dq h5 M;exact⟨[.J v,.int .i64 k,.int .i64 n,.J m,p,Q],.cons' b (.cons' c (.cons' e (.cons' f (.cons' g (.one i))))),.mk v k n m p Q D q M M l r M o s a eR⟩
def aaV(j:uptoBulk d<=eI)(h:ie enc W sp held 276 w d):∃x,fR W (hV W) x w/\Da x:=by obtain⟨g,i,e,f,rfl,hd,h0,h1⟩:=aaQ h;obtain⟨k,a⟩:=A6 Go.Proofs.Tryz.underlying3 h0;obtain⟨p,D,b,c,r,C⟩:=Qb h1;exact⟨[.int .i64 k,p],.cons' a (.one b),.mk k p D c r M⟩
def aaW(j:uptoBulk d<=eI)(h:ie enc W sp held 120 w d):∃x,fR W (hV W) x w/\ub x:=by obtain⟨g,i,c,e,rfl,hd,h0,h1⟩:=aaT h;obtain⟨v,a,f⟩:=yM h0;obtain⟨k,b⟩:=A6 Go.Proofs.Tryz.underlying45 h1;exact⟨[.J v,.int .i64 k],.cons' a (.one b),.mk v k M⟩
def aaX(j:uptoBulk d<=eI)(h:ie enc W sp held 88 w d):∃x,fR W (hV W) x w/\j9 DAny x:=by obtain⟨v0,v1,v2,v3,v4,v5,v6,P,R,U,d3,d4,d5,d6,rfl,hd,h0,h1,h2,h3,h4,h5,h6⟩:=aaS h;obtain⟨v,k,l0⟩:=yM h0;obtain⟨p,D,l,c,r,C⟩:=Dq h1 M;obtain⟨a,q,n,z,G,e⟩:=Dq h2 M;obtain⟨F,i,o,B,I,f⟩:=Dp Go.Proofs.Tryz.underlying86 (sz:=2) eU M h3 M λw y j h=>aaW j h;obtain⟨b,s⟩:=A6 Go.Proofs.Tryz.underlying3 h4;obtain⟨m,t⟩:=A6 Go.Proofs.Tryz.underlying3 h5;obtain⟨Q,N,u,E,K,g⟩:=Dq h6 M;exact⟨[.J v,p,a,F,.int .i64 b,.int .i64 m,Q],.cons' k (.cons' l (.cons' n (.cons' o (.cons' s (.cons' t (.one u)))))),.mk v p a F b m Q D q i N M c r C z G e B I f E K g eR⟩
def aaY(j:uptoBulk d<=eI)(h:ie enc W sp held 78 w d):∃x,fR W (hV W) x w/\lO DAny sL x:=by obtain⟨p,s,t,k,n,m,rfl,hd,h0,h1,h2⟩:=aaR h;obtain⟨v,e,o⟩:=yM h0;obtain⟨Q,q,f,c,r,C⟩:=Dq h1 M;obtain⟨a,l,g,z,i,b⟩:=Dp Go.Proofs.Tryz.underlying76 (sz:=7) eU M h2 M λw y j h=>aaX j h;exact⟨[.J v,Q,a],.cons' e (.cons' f (.one g)),.mk v Q a q l M c r C z i b eR⟩
def aaZ(j:uptoBulk d<=eI)(h:ie enc W sp held 25 [v] d):∃l s,eQ W (hV W) l v/\fT 3 s l/\iR (lO DAny sL) s/\O s<=eI:=
 Dp Go.Proofs.Tryz.underlying25 (sz:=3) eU M h j λw y j h=>aaY j h
def Gn{n:Nat}{R:Nat->Nat->Nat->Prop}(h:∀k,k<n->∃a b,R k a b):∃f g:Nat->Nat,(∀k,k<n->R k (f k) (g k))/\∀k,n<=k->f k=0/\g k=0:=by
 obtain⟨F,G⟩:=xM (r:=λ(k:Nat)(p:Nat×Nat)=>(k<n->R k p.1 p.2)/\(n<=k->p.1=0/\p.2=0)) λk=>by
  by_cases P:k<n
  .obtain⟨a,b,h⟩:=h k P;exact⟨(a,b),λ_=>h,λc=>M⟩
  exact⟨(0,0),λh=>absurd h P,λ_=>⟨Z,Z⟩⟩
 exact⟨λk=>(F k).1,λk=>(F k).2,λk P=>(G k).1 P,λk P=>(G k).2 P⟩
def KH(x:L A)(b:Nat):Prop:=∃n c,n<=b/\c<=b/\∀j l,b<=j->jJ lu j l x n/\OpC j x c
def Qc(x:L A)(b:Nat):Prop:=∃n c,n<=b/\c<=b/\∀j l,b<=j->sJ lu (jJ lu j) l x n/\A3 (OpC j) x c
def Qd(x:L A)(b:Nat):Prop:=∃n c,n<=b/\c+1<=b/\∀j,b<=j->vG lu (jJ lu j) x n/\Dn (OpC j) x c
abbrev Dr (enc:TypeId×Value->H)(W:World)(sp:Nat->Bool)(held:Bool)(b:Nat):Prop:=∀cs d',uptoBulk d'<b->ie enc W sp held 53 cs d'->∃zs,fR W (hV W) zs cs/\KH zs (uptoBulk d')
def Qe(i:Dr enc W sp held b)(j:uptoBulk d<=b)(h:ie enc W sp held 22 [v] d):
  ∃a s,∃e:Nat->Nat,eQ W (hV W) a v/\fT 6 s a/\fV e (O s)+1<=uptoBulk d/\∀k (h:k<O s),KH s[k] (e k)/\1<=e k:=by
 let⟨g,t,h⟩:=h
 exact A5 Go.Proofs.Tryz.underlying22 eU M h λc w y f l n=>i w y M ⟨c,f,n⟩
def aa0(p:b<=eI)(B:Dr enc W sp held b)(hb:uptoBulk d<=b)(h:ie enc W sp held 95 w d):∃m,fR W (hV W) m w/\Qc m (uptoBulk d):=by
 obtain⟨Q,v1,C,U,rfl,hd,h0,u⟩:=aaP h;have y:∃a t,eQ W (hV W) a Q/\fC t a/\iL t/\O t+1<=uptoBulk C:=by obtain⟨a,t,u,r,h3,E⟩:=KG h0;refine⟨a,t,u,r,λx hx=>?_,E⟩;exact Nc
 let⟨F,K,G,N,P,y⟩:=y
 obtain⟨v,e,q,I,z,l1,q1⟩:=Qe B M u;obtain⟨f,g,o,_⟩:=Gn (n:=O e) (R:=λk n c=>∀h:k<O e,n<=q k/\c<=q k/\∀j l,q k<=j->jJ lu j l e[k] n/\OpC j e[k] c) λk hk=>Nr;have m1:fV f (O e)<=fV q (O e):=A4 λk hk=>(o k hk hk).1;have m2:fV g (O e)<=fV q (O e):=A4 λk hk=>(o k hk hk).2.1;have m3:=yL λk hk=>(q1 k hk).2;refine⟨[F,v],.cons' G (.one I),O K+fV f (O e),fV g (O e),M,M,λj l D=>?_⟩;have i:∀k (h:k<O e),jJ lu j l e[k] (f k)/\OpC j e[k] (g k):=λk hk=>(o k hk hk).2.2 j l (by have:=pf q hk;omega)
 exact⟨.mk F v K e f N P M z M eR λk h=>(i k h).1,.mk F v e g z λk h=>(i k h).2⟩
def aa1(p:b<=eI)(B:Dr enc W sp held b)(K:uptoBulk d<=b)(h:ie enc W sp held 93 w d):∃m,fR W (hV W) m w/\Qd m (uptoBulk d):=by
 obtain⟨Q,I,rfl,hd,r⟩:=aaO h
 let⟨x,t,r⟩:=r
 obtain⟨u,a,q,G,z,C,q1⟩:=A5 (φ:=Qc) Go.Proofs.Tryz.underlying91 (sz:=2) eU M r λi w y s F D=>aa0 p B M ⟨i,s,D⟩;obtain⟨f,g,o,_⟩:=Gn (n:=O a) (R:=λk n c=>∀h:k<O a,n<=q k/\c<=q k/\∀j l,q k<=j->sJ lu (jJ lu j) l a[k] n/\A3 (OpC j) a[k] c) λk hk=>Nr;have v:fV f (O a)<=fV q (O a):=A4 λk hk=>(o k hk hk).1;have N:fV g (O a)<=fV q (O a):=A4 λk hk=>(o k hk hk).2.1;have P:=yL λk hk=>(q1 k hk).2;refine⟨[u],.one G,fV f (O a),fV g (O a),M,M,λj E=>?_⟩;have e:∀k (h:k<O a),sJ lu (jJ lu j) (O a) a[k] (f k)/\A3 (OpC j) a[k] (g k):=λk hk=>(o k hk hk).2.2 j (O a) (by have:=pf q hk;omega)
 exact⟨.mk u a f z M eR λk h=>(e k h).1,.mk u a g z λk h=>(e k h).2⟩
def aa2{b:Nat}(hM:b<=eI)(IH:Dr enc W sp held b){w:List Value}{d:DataW H}(t:uptoBulk d<=b)(h:ie enc W sp held 53 w d):∃zs,fR W (hV W) zs w/\KH zs (uptoBulk d):=by
 obtain⟨v0,v1,v2,v3,v4,v5,d0,d1,d2,d3,d4,d5,rfl,hd,h0,K,r,h3,p,h5⟩:=aaM h;obtain⟨D,r0,l0⟩:=yM h0;obtain⟨Q,os,r1,s1,t1,l1⟩:=Qb K;have v:∃a q,eQ W (hV W) a v2/\fC q a/\iL q/\O q+1<=uptoBulk d2:=by obtain⟨a,q,K,r,h3,p⟩:=KG r;refine⟨a,q,K,r,λx hx=>?_,p⟩;exact Nc
 obtain⟨G,o,r2,s2,t2,v⟩:=v;obtain⟨F,u,r3,s3,t3,l3⟩:=Dp Go.Proofs.Tryz.underlying49 (sz:=6) eU M h3 M λw y t h=>aaU t h;obtain⟨U,ss,r5,s5,t5,l5⟩:=Dp Go.Proofs.Tryz.underlying51 (sz:=2) eU M h5 M λw y t h=>aaV t h;obtain⟨C,ps,p⟩:=p;obtain⟨B,E,m,r4,N,l4,I⟩:=A5 (φ:=Qd) Go.Proofs.Tryz.underlying50 (sz:=1) eU M p λi w y z hlt h'=>aa1 hM IH M ⟨i,z,h'⟩;obtain⟨f,g,l,_⟩:=Gn (n:=O E) (R:=λk n c=>∀h:k<O E,n<=m k/\c+1<=m k/\∀j,m k<=j->vG lu (jJ lu j) E[k] n/\Dn (OpC j) E[k] c) λk P=>by obtain⟨n,c,h⟩:=(I k P).1;exact⟨n,c,λ_=>h⟩
 have m1:fV f (O E)<=fV m (O E):=A4 λk P=>(l k P P).1;have m2:fV g (O E)<=fV m (O E):=A4 λk P=>by have:=(l k P P).2.1;omega
 have m3:=yL λk P=>(I k P).2;refine⟨[.J D,Q,G,F,B,U],.cons' r0 (.cons' r1 (.cons' r2 (.cons' r3 (.cons' r4 (.one r5))))),O o+fV f (O E),1+fV g (O E),M,M,λj nb hle=>?_⟩;obtain⟨j,rfl⟩:∃k,j=k+1:=⟨j - 1,M⟩;have e:∀k (h:k<O E),vG lu (jJ lu j) E[k] (f k)/\Dn (OpC j) E[k] (g k):=λk P=>(l k P P).2.2 j (by have:=pf m P;omega)
 exact⟨ua.mk D Q G F B U os o u E ss f M s1 t1 M s2 t2 M s3 t3 l3 N M s5 t5 l5 eR λk h=>(e k h).1,Gl.mk _ _ _ _ B _ E g N λk h=>(e k h).2⟩
def aa3:∀b,b<=eI+1->Dr enc W sp held b:=by
 intro b;induction b with
 |zero=>intro _ w d a;omega
 |succ b i=>intro j w d a h;exact aa2 (b:=b) M (i M) M h
def aa4(z:uptoBulk d<=eI)(h:ie enc W sp held 24 w d):∃v t,fR W (hV W) [v] w/\vI lu eI (.agg [v]) t/\∀x∈t,∃o,o<=eI/\OpC eI x o:=by
 obtain⟨B,u,rfl,hd,h0⟩:=aaL h;obtain⟨a,b,i,r,s,C,q1⟩:=Qe (aa3 (eI+1) M) M h0;obtain⟨f,g,e,q⟩:=Gn (n:=O b) (R:=λk n c=>∀h:k<O b,n<=i k/\c<=i k/\∀j l,i k<=j->jJ lu j l b[k] n/\OpC j b[k] c) λk hk=>Nr;have y:=yL λk hk=>(q1 k hk).2;have m:∀k,k<O b->i k<=eI:=λk hk=>by have:=pf i hk;omega
 refine⟨a,b,.one r,.mk a b f s M (λk=>?_) λk hk=>((e k hk hk).2.2 eI 0 (m k hk)).1,λx p=>?_⟩
 .by_cases hk:k<O b
  .have:=(e k hk hk).1;have:=m k hk;omega
  rw[(q k M).1];exact oE _
 obtain⟨k,hk,rfl⟩:=km p;have:=(e k hk hk).2.1;have:=m k hk;exact⟨g k,M,((e k hk hk).2.2 eI 0 (m k hk)).2⟩
end
