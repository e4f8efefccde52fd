/- Lemmas. No condition. -/
import Derived.Test.YtlkijhibifmamaaGreatDoorA
import GoSem.Core.Value
import GoSem.Core.World
import GoSem.Core.Code
import Derived.Below
import Derived.Laws.World
import GoSem.Dispatch
import Derived.Laws.Sem
import Derived.CallsIn
import Derived.IntWalk
import Derived.Laws.Strings
import Derived.Laws.BytesString
import Derived.Laws.MakeOwn
set_option linter.all false
set_option autoImplicit true
set_option relaxedAutoImplicit true
set_option maxHeartbeats 0
set_option maxRecDepth 100000
noncomputable section
open Option renaming some→Y,none→J
open Bool renaming true→dT,false→dU
open List renaming length→O
namespace Go.As
inductive S where
 |h
 |o (p:S)
 |i (p:S)
 deriving DecidableEq
namespace S
def dV:S->Nat
 |.h=>1
 |.o p=>2*p.dV
 |.i p=>2*p.dV+1
def CE:Nat->Nat->S
 |0,_=>.h
 |f+1,n=>if n<=1 then .h else if n%2=0 then .o (CE f (n/2))else .i (CE f (n/2))
def ofNat(n:Nat):S:=CE (n+1) (n+1)
def succ:S->S
 |.h=>.o .h
 |.o p=>.i p
 |.i p=>.o p.succ
def jD(p:S):1<=p.dV:=by
 induction p with
 |h=>simp[dV]
 |o p a=>simp[dV];omega
 |i p a=>simp[dV]
def Wq(f:Nat):∀n,1<=n->n<=f->(CE f n).dV=n:=by
 induction f with
 |zero=>intro n K r;omega
 |succ f i=>
 intro n K r;unfold CE;by_cases h:n<=1
 .rw[gO h];simp[dV];omega
 rw[gj h];by_cases e:n%2=0
 .rw[gO e];simp only[dV];rw[i _ M M];omega
 rw[gj e];simp only[dV];rw[i _ M M];omega
def toNat_ofNat(n:Nat):(ofNat n).dV=n+1:=Wq _ _ M M
def Jg{m n:Nat}(h:ofNat m=ofNat n):m=n:=by have:=fW dV h;rw[toNat_ofNat,toNat_ofNat]at this;omega
def gG(p:S):p.succ.dV=p.dV+1:=by
 induction p with
 |h=>simp[succ,dV]
 |o p a=>simp[succ,dV]
 |i p a=>simp[succ,dV,a];omega
end S
inductive T (α:Type)where
 |e
 |n (v:Option α)(l r:T α)
namespace T
variable{α:Type}
def dZ(p:S):T α->Option α:=
 S.rec (λt=>T.rec J (λv _ _ _ _=>v) t) (λ_ g t=>T.rec J (λ_ l _ _ _=>g l) t) (λ_ g t=>T.rec J (λ_ _ r _ _=>g r) t) p
def set(p:S)(v:Option α):T α->T α:=
 S.rec (λt=>T.rec (.n v .e .e) (λ_ l r _ _=>.n v l r) t)
  (λ_ g t=>T.rec (.n J (g .e) .e) (λx l r _ _=>.n x (g l) r) t)
  (λ_ g t=>T.rec (.n J .e (g .e)) (λx l r _ _=>.n x l (g r)) t) p
def ir{b:Type}(v:Option α)(p:S):T α->(T α->b)->b:=
 S.rec (λt k=>T.rec (k (.n v .e .e)) (λ_ l r _ _=>k (.n v l r)) t)
  (λ_ g t k=>T.rec (g .e λC=>k (.n J C .e)) (λx l r _ _=>g l λC=>k (.n x C r)) t)
  (λ_ g t k=>T.rec (g .e λa=>k (.n J .e a)) (λx l r _ _=>g r λa=>k (.n x l a)) t) p
@[simp]theorem Jh(p:S):dZ p (.e:T α)=J:=by cases p<;>rfl
@[simp]theorem Wr(v:Option α)(l r:T α):dZ .h (.n v l r)=v:=Z
@[simp]theorem agF(p:S)(v:Option α)(l r:T α):dZ (.o p) (.n v l r)=dZ p l:=Z
@[simp]theorem agG(p:S)(v:Option α)(l r:T α):dZ (.i p) (.n v l r)=dZ p r:=Z
def NS(v:Option α):set .h v .e=.n v .e .e:=Z
def NT(v:Option α)(x:Option α)(l r:T α):set .h v (.n x l r)=.n v l r:=Z
def EU(p:S)(v:Option α):set (.o p) v .e=.n J (set p v .e) .e:=Z
def EV(p:S)(v:Option α)(x:Option α)(l r:T α):set (.o p) v (.n x l r)=.n x (set p v l) r:=Z
def EX(p:S)(v:Option α):set (.i p) v .e=.n J .e (set p v .e):=Z
def EY(p:S)(v:Option α)(x:Option α)(l r:T α):set (.i p) v (.n x l r)=.n x l (set p v r):=Z
def EZ(p:S)(v:Option α):∀t:T α,dZ p (set p v t)=v:=by
 induction p with
 |h=>intro t;cases t<;>rfl
 |o p a=>intro t;cases t<;>simp[EU,EV,a]
 |i p a=>intro t;cases t<;>simp[EX,EY,a]
def gh(p:S)(v:Option α):∀(q:S)(t:T α),q≠p->dZ q (set p v t)=dZ q t:=by
 induction p with
 |h=>
  intro q t a;cases q with
  |h=>exact absurd Z a
  |o q=>cases t<;>simp[NS,NT]
  |i q=>cases t<;>simp[NS,NT]
 |o p b=>
  intro q t a;cases q with
  |h=>cases t<;>simp[EU,EV]
  |o q=>cases t<;>simp[EU,EV,b q _ (λe=>a (by rw[e]))]
  |i q=>cases t<;>simp[EU,EV]
 |i p b=>
 intro q t a;cases q with
 |h=>cases t<;>simp[EX,EY]
 |o q=>cases t<;>simp[EX,EY]
 |i q=>cases t<;>simp[EX,EY,b q _ (λe=>a (by rw[e]))]
def jr(p q:S)(v:Option α)(t:T α):dZ q (set p v t)=if q=p then v else dZ q t:=by
 by_cases h:q=p
 .subst h;rw[gO Z];exact EZ _ _ _
 rw[gj h];exact gh _ _ _ _ h
def i6{b:Type}(v:Option α)(p:S):∀(t:T α)(k:T α->b),ir v p t k=k (set p v t):=by
 induction p with
 |h=>intro t k;cases t<;>rfl
 |o p a=>
  intro t k;cases t with
  |e=>exact a .e _
  |n x l r=>exact a l _
 |i p a=>
 intro t k;cases t with
 |e=>exact a .e _
 |n x l r=>exact a r _
end T
inductive jt where
 |fE
 |open(t:S)
 |G
inductive A where
 |bool (b:Bool)
 |int (k:IntKind)(n:Int)
 |J (s:List Nat)
 |gi
 |ea (p:S)(off:Nat)
 |fF (cs:List A)(off:Nat)
 |fz (p:S)(off:Nat)
 |ej
 |eG (sz n:Nat)(cs:List A)(t:jt)
 |eC (p:S)(sz off n cap:Nat)(exact:Bool)
 |ji
 |map (p:S)
 |gQ
 |func (f:Fn)(first captured:List A)
 |gF (l:S)
 |jc
 |iface (t:TypeId)(v:A)
 |agg (cs:List A)
 |eK (vs:List A)
instance:Inhabited A:=⟨.eK []⟩
structure gm where
 key:A
 val:A
 born:Nat
inductive AO where
 |dY (cs:List A)
 |map (es:List gm)(clock:Nat)
 |kQ (s:List Nat)(pos:Nat)
 |b (m:Option S)(since:Nat)(seen:List Nat)(stepped:Nat)
 |eY
 |loop (st:LoopState)(pend:Option Code)(n:Nat)(F:T A)(params:List Nat)(assign body:Code)(defers:S)
 |fX
structure eM where
 ep:T AO
 dX:S
structure ez where
 gX:Nat→Option (List A)
 fU:S→Option (List A)
 ey:Nat→Code→Code→Prop
 raw:Nat→Option Obj
def A.cells:A->L A
 |.agg cs=>cs
 |v=>[v]
abbrev V(n:Nat):A:=.int .i64 (.ofNat n)
end Go.As
namespace Go.As
open Go.RowKit
structure Kx where
 ρ:S→Option Nat
 τ:S→Option Nat
 U:Nat→Nat
 φ:S→Option Nat
def mS(w:World)(P:Kx)(c o n a cap:Nat):jt->Prop
 |.fE=>cap=n
 |.open t=>P.ρ t=Y c/\P.τ t=Y (o+n*a)/\∀i,i<cap*a->(w.cell? ⟨c,o+i,J⟩).isSome=dT
 |.G=>True
inductive eQ (w:World)(X:Kx):A→Value→Prop
 |bool (b:Bool):eQ w X (.bool b) (.bool b)
 |int (k:IntKind)(n:Int):eQ w X (.int k n) (.int k n)
 |J (s:List Nat)(b:ByteArray)(h:b.data.toList.map UInt8.toNat=s):eQ w X (.J s) (.string b)
 |gi:eQ w X .gi (.pointer none)
 |ea (p:S)(off c:Nat)(h:X.ρ p=some c):eQ w X (.ea p off) (.pointer (some ⟨c,off,none⟩))
 |fF (cs:List A)(off c o:Nat)(vs:Nat→Value)(hU:o+cs.length≤X.U c)
   (hc:∀i,i<cs.length→w.cell? ⟨c,o+i,none⟩=some (vs i))(hv:∀i (h:i<cs.length),eQ w X cs[i] (vs i)):
   eQ w X (.fF cs off) (.pointer (some ⟨c,o+off,none⟩))
 |fz (p:S)(off c:Nat)(h:X.φ p=some c):eQ w X (.fz p off) (.pointer (some ⟨c,off,none⟩))
 |ej:eQ w X .ej (.slice none 0 0)
 |eG (sz n:Nat)(cs:List A)(t:jt)(c o cap:Nat)(vs:Nat→Value)(hU:o+cs.length≤X.U c)
   (hc:∀i,i<cs.length→w.cell? ⟨c,o+i,none⟩=some (vs i))(hv:∀i (h:i<cs.length),eQ w X cs[i] (vs i))
   (hn:cs.length=n*sz)(hcap:n≤cap)(hsz:0<sz)
   (htok:mS w X c o n sz cap t):
   eQ w X (.eG sz n cs t) (.slice (some ⟨c,o,none⟩) n cap)
 |emp (sz:Nat)(a:Addr)(cap:Nat)(hsz:0<sz):eQ w X (.eG sz 0 [] .G) (.slice (some a) 0 cap)
 |eC (p:S)(sz off n cap c cap':Nat)(exact:Bool)(h:X.ρ p=some c)(hcap:cap≤cap')(he:exact=true→cap'=cap)(hn:n≤cap)
   (hs:∀i,i<cap'*sz→(w.cell? ⟨c,off+i,none⟩).isSome=true)(hsz:0<sz):
   eQ w X (.eC p sz off n cap exact) (.slice (some ⟨c,off,none⟩) n cap')
 |ji:eQ w X .ji (.map none)
 |map (p:S)(c:Nat)(h:X.ρ p=some c):eQ w X (.map p) (.map (some c))
 |gQ:eQ w X .gQ .nilFunc
 |func (f:Fn)(first captured:List A)(first' captured':Array Value)(hf:∀l,f≠.yield l)
   (h1:first'.size=first.length)(h2:∀i (h:i<first.length),eQ w X first[i] (first'.getD i undef))
   (h3:captured'.size=captured.length)(h4:∀i (h:i<captured.length),eQ w X captured[i] (captured'.getD i undef)):
   eQ w X (.func f first captured) (.func f first' captured')
 |gF (l:S)(c:Nat)(h:X.ρ l=some c):eQ w X (.gF l) (.func (.yield c) #[] #[])
 |jc:eQ w X .jc .nilIface
 |iface (t:TypeId)(v:A)(v':Value)(h:eQ w X v v'):eQ w X (.iface t v) (.iface t v')
 |agg (cs:List A)(vs:Array Value)(h1:vs.size=cs.length)(h2:∀i (h:i<cs.length),eQ w X cs[i] (vs.getD i undef)):
   eQ w X (.agg cs) (.agg vs)
 |eK (cs:List A)(vs:Array Value)(h1:vs.size=cs.length)(h2:∀i (h:i<cs.length),eQ w X cs[i] (vs.getD i undef)):
   eQ w X (.eK cs) (.tuple vs)
def fR(w:World)(P:Kx)(a:L A)(b:L Value):Prop:=
 O a=O b/\∀i (h:i<O a)(n:i<O b),eQ w P a[i] b[i]
structure tw (B:Nat→Prop)(w w':World):Prop where
 os:w'.os=w.os
 tape:w'.tape=w.tape
 output:w'.output=w.output
 size:w.heap.size≤w'.heap.size
 block:∀k,B k→w'.heap[k]? =w.heap[k]?
def tw.refl(B:Nat->Prop)(w:World):tw B w w:=⟨Z,Z,Z,fQ _,λ_ _=>Z⟩
def tw.trans{B:Nat->Prop}{a b c:World}(h:tw B a b)(k:tw B b c):tw B a c:=
 ⟨k.os.trans h.os,k.tape.trans h.tape,k.output.trans h.output,ny h.size k.size,λi C=>(k.block i C).trans (h.block i C)⟩
structure fL (B:Nat→Prop)(w:World)(X:Kx)(w':World)(κ':Kx):Prop where
 below:tw B w w'
 jM:∀p c,X.ρ p=some c→κ'.ρ p=some c
 qI:∀p c,X.τ p=some c→κ'.τ p=some c
 u:∀c,X.U c≤κ'.U c
 fF:∀c i,i<X.U c→w'.cell? ⟨c,i,none⟩=w.cell? ⟨c,i,none⟩
 cells:∀c i,(w.cell? ⟨c,i,none⟩).isSome=true→(w'.cell? ⟨c,i,none⟩).isSome=true
 rj:∀c,B c→κ'.U c=X.U c
 tz:∀p c,X.φ p=some c→κ'.φ p=some c
def fL.refl(B:Nat->Prop)(w:World)(P:Kx):fL B w P w P:=
 ⟨tw.refl _ _,λ_ _ h=>h,λ_ _ h=>h,λ_=>fQ _,λ_ _ _=>Z,λ_ _ h=>h,λ_ _=>Z,λ_ _ h=>h⟩
def fL.trans{B:Nat->Prop}{P a b:Kx}(h:fL B w P d a)(k:fL B d a f b):fL B w P f b:=
 ⟨h.below.trans k.below,λp c e=>k.jM p c (h.jM p c e),λp c e=>k.qI p c (h.qI p c e),λc=>ny (h.u c) (k.u c),
  λc i C=>(k.fF c i (lw C (h.u c))).trans (h.fF c i C),λc i e=>k.cells c i (h.cells c i e),λc K=>(k.rj c K).trans (h.rj c K),λp c e=>k.tz p c (h.tz p c e)⟩
def eQ.mono{B:Nat->Prop}{w P:World}{R F:Kx}(E:fL B w R P F){c:Value}(h:eQ w R v c):eQ P F v c:=by
 induction h with
 |bool b=>exact .bool b
 |int k n=>exact .int k n
 |J s b h=>exact .J s b h
 |gi=>exact .gi
 |ea p d c h=>exact .ea p d c (E.jM _ _ h)
 |fF r d c o y G H _ q=>exact .fF r d c o y (ny G (E.u c)) (λi x=>(E.fF c (o+i) M).trans (H i x)) q
 |fz p d c h=>exact .fz p d c (E.tz _ _ h)
 |ej=>exact .ej
 |eG D n r t c o cap y G H _ I j C e q=>
  refine .eG D n r t c o cap y (ny G (E.u c)) (λi x=>(E.fF c (o+i) M).trans (H i x)) q I j C ?_;cases t with
  |fE=>exact e
  |«open»t=>exact⟨E.jM _ _ e.1,E.qI _ _ e.2.1,λi x=>E.cells _ _ (e.2.2 i x)⟩
  |G=>trivial
 |emp D a cap C=>exact .emp D a cap C
 |eC p D d n cap c z exact h j he I hs C=>exact .eC p D d n cap c z exact (E.jM _ _ h) j he I (λi x=>E.cells _ _ (hs i x)) C
 |ji=>exact .ji
 |map p c h=>exact .map p c (E.jM _ _ h)
 |gQ=>exact .gQ
 |func f a b U W g K _ m _ N Q=>exact .func f a b U W g K N m Q
 |gF l c h=>exact .gF l c (E.jM _ _ h)
 |jc=>exact .jc
 |iface t v v' _ q=>exact .iface t v v' q
 |agg r y K _ q=>exact .agg r y K q
 |eK r y K _ q=>exact .eK r y K q
def fR.mono{B:Nat->Prop}{w P:World}{a p:Kx}(E:fL B w a P p){c:L Value}(h:fR w a v c):fR P p v c:=
 ⟨h.1,λi K r=>(h.2 i K r).mono E⟩
def CF(n:Nat)(fz:Nat×Nat):Prop:=∀i,i<n->¬(fz.1<=i/\i<fz.2)
def kR(G:ez)(w:World)(P:Kx):AO->Nat->Prop
 |.dY cs,c=>∃eE e fz,w.heap[c]? =Y (.cells eE e fz)/\fz.2<=fz.1/\O cs<=eE.size/\
   ∀i (h:i<O cs),eQ w P cs[i] (eE.getD i undef)
 |.map es clock,c=>∃eE:Array MapEntry,w.heap[c]? =Y (.map eE clock)/\eE.size=O es/\
   ∀i (h:i<O es),eQ w P es[i].key (eE.getD i default).key/\eQ w P es[i].val (eE.getD i default).val/\(eE.getD i default).born=es[i].born
 |.kQ s pos,c=>∃b:ByteArray,w.heap[c]? =Y (.stringIter b pos)/\(b.data.toList.map UInt8.toNat).drop pos=s/\pos<=b.size
 |.b m since seen stepped,c=>∃g,w.heap[c]? =Y (.mapIter g since seen.toArray stepped)/\
   (match m,g with|none,none=>True|some p,some o=>P.ρ p=Y o| _,_=>False)
 |.eY,c=>∃u eE e fz,w.heap[c]? =Y (.cells eE e fz)/\CF eE.size fz/\P.U c=u
 |.loop st pend n F params assign body d,c=>∃fn tmps f a B,w.heap[c]? =Y (.loop {state:=st,pending:=pend,fn:=fn,tmps:=tmps,params:=params.toArray,assign:=a,body:=B,defers:=f})/\(G.ey n a assign/\G.ey n B body)/\
   P.ρ d=Y f/\n<=tmps.size/\∀t v,F.dZ (S.ofNat t)=Y v->∃x,tmps[t]? =Y x/\eQ w P v x
 |.fX,c=>w.heap[c]? =Y (.deferred (Y []))
structure uK (B:Nat→Prop)(G:ez)(w:World)(X:Kx):Prop where
 gX:∀g cs,G.gX g=some cs→eQ w X (.fF cs 0) (.pointer (some ⟨g,0,none⟩))
 fU:∀p cs,G.fU p=some cs→∃c,X.φ p=some c∧B c∧(∃eE e fz,w.heap[c]? =some (.cells eE e fz)∧fz.2≤fz.1)∧eQ w X (.fF cs 0) (.pointer (some ⟨c,0,none⟩))
 inj:∀p q cs cs' c,G.fU p=some cs→G.fU q=some cs'→X.φ p=some c→X.φ q=some c→p=q
 raw:∀g o,G.raw g=some o→B g∧w.heap[g]? =some o
def uK.mono{B:Nat->Prop}{w P:World}(E:fL B w j P b)(h:uK B G w j):uK B G P b:=by
 refine⟨λg a e=>(h.gX g a e).mono E,λp a e=>?_,λp q a x c hp i K r=>?_,λg o e=>⟨(h.raw g o e).1,(E.below.block g (h.raw g o e).1).trans (h.raw g o e).2⟩⟩
 .obtain⟨c,K,f,⟨eE,l,fz,m,k⟩,r⟩:=h.fU p a e;exact⟨c,E.tz _ _ K,f,⟨eE,l,fz,(E.below.block c f).trans m,k⟩,r.mono E⟩
 obtain⟨N,d,_⟩:=h.fU p a hp;obtain⟨n,t,_⟩:=h.fU q x i;obtain rfl:=gu ((E.tz _ _ d).symm.trans K);obtain rfl:=gu ((E.tz _ _ t).symm.trans r);exact h.inj p q a x _ hp i d t
structure fJ (B:Nat→Prop)(G:ez)(H:eM)(w:World)(X:Kx):Prop where
 base:∀k,B k→k<w.heap.size
 obj:∀p o,H.ep.dZ p=some o→∃c,X.ρ p=some c∧¬B c∧kR G w X o c∧(o=.eY→X.τ p=some (X.U c))∧(o≠.eY→X.U c=0)
 inj:∀p q o o' c,H.ep.dZ p=some o→H.ep.dZ q=some o'→X.ρ p=some c→X.ρ q=some c→p=q
 fresh:∀p,H.dX.dV≤p.dV→X.ρ p=none∧X.τ p=none∧H.ep.dZ p=none
 room:∀p c,X.ρ p=some c→c<w.heap.size
 kS:∀c,0<X.U c→c<w.heap.size
 gX:uK B G w X
def mj{w:World}{c:Nat}{eE:Array Value}{e:TypeId}{fz:Nat×Nat}(h:w.heap[c]? =Y (.cells eE e fz))(i:Nat):
  w.cell? ⟨c,i,J⟩=eE[i]? :=by
 simp[World.cell?,h]
def getD_some{eE:Array Value}{i:Nat}(h:i<eE.size):eE[i]? =Y (eE.getD i undef):=by simp[Array.getD,h]
def qJ {Q:Type}{a:Array Q}{i:Nat}{x:Q}(h:a[i]? =Y x):i<a.size:=by
 obtain n|n:=kG i a.size
 .exact n
 simp[pF n]at h
def kR.mono{B:Nat->Prop}{w P:World}{z p:Kx}(E:fL B w z P p){o:AO}{c:Nat}(f:P.heap[c]? =w.heap[c]?)(hU:o=.eY->p.U c=z.U c)
  (h:kR G w z o c):kR G P p o c:=by
 cases o with
 |dY cs=>
  let⟨eE,e,fz,K,r,a,h4⟩:=h
  exact⟨eE,e,fz,f.trans K,r,a,λi C=>(h4 i C).mono E⟩
 |map es W=>
  let⟨eE,K,r,a⟩:=h
  exact⟨eE,f.trans K,r,λi C=>⟨(a i C).1.mono E,(a i C).2.1.mono E,(a i C).2.2⟩⟩
 |kQ s pos=>
  let⟨b,K,r⟩:=h
  exact⟨b,f.trans K,r⟩
 |b m y seen g=>
  let⟨H,K,r⟩:=h
  refine⟨H,f.trans K,?_⟩;cases m<;>cases H<;>simp at r⊢;exact E.jM _ _ r
 |eY=>
  let⟨u,eE,e,fz,K,r,a⟩:=h
  exact⟨u,eE,e,fz,f.trans K,r,(hU Z).trans a⟩
 |loop st I n F l k D d=>
  let⟨fn,j,R,N,Q,K,q,r,hn,a⟩:=h
  refine⟨fn,j,R,N,Q,f.trans K,q,E.jM _ _ r,hn,λt v hv=>?_⟩;obtain⟨x,hx,hr⟩:=a t v hv;exact⟨x,hx,hr.mono E⟩
 |fX=>exact f.trans h
def tA(B:Nat->Prop)(w:World)(P:Kx)(n:Nat):fL B w P {w with drawn:=n} P:=
 ⟨⟨Z,Z,Z,fQ _,λ_ _=>Z⟩,λ_ _ h=>h,λ_ _ h=>h,λ_=>fQ _,λ_ _ _=>Z,λ_ _ h=>h,λ_ _=>Z,λ_ _ h=>h⟩
def fJ.drew{B:Nat->Prop}{P:Kx}(h:fJ B G H w P)(n:Nat):fJ B G H {w with drawn:=n} P:=by refine⟨h.base,λp o a=>?_,h.inj,h.fresh,h.room,h.kS,h.gX.mono (tA B w P n)⟩;obtain⟨c,K,r,m,E⟩:=h.obj p o a;exact⟨c,K,r,m.mono (tA B w P n) Z mJ,E⟩
def fJ.keep{B:Nat->Prop}{P f:Kx}(h:fJ B G H w P)(E:fL B w P l f)
  (j:∀p o c,H.ep.dZ p=Y o->P.ρ p=Y c->l.heap[c]? =w.heap[c]? /\f.U c=P.U c)
  (g:∀p c,f.ρ p=Y c->P.ρ p=Y c)(s:∀p c,f.τ p=Y c->P.τ p=Y c)
  (Q:∀c,0<f.U c->c<l.heap.size):fJ B G H l f:=by
 refine⟨λk z=>lw (h.base k z) E.below.size,λp o i=>?_,λp q o C c i n hp t=>h.inj p q o C c i n (g _ _ hp) (g _ _ t),λp hp=>?_,λp c hp=>lw (h.room p c (g _ _ hp)) E.below.size,Q,h.gX.mono E⟩
 .obtain⟨c,K,r,m,u,v⟩:=h.obj p o i;obtain⟨d,y⟩:=j p o c i K;exact⟨c,E.jM _ _ K,r,m.mono E d (λ_=>y),λe=>by rw[y];exact E.qI _ _ (u e),λe=>by rw[y];exact v e⟩
 obtain⟨a,b,c⟩:=h.fresh p hp;refine⟨?_,?_,c⟩
 .cases hr:f.ρ p with
  |none=>rfl
  |some x=>rw[g _ _ hr]at a;cases a
 cases hr:f.τ p with
 |none=>rfl
 |some x=>rw[s _ _ hr]at b;cases b
def E6(w:World)(o:Obj){c:Nat}(h:c<w.heap.size):(w.alloc o).heap[c]? =w.heap[c]? :=by show(w.heap.push o)[c]? = _;rw[Array.getElem?_push,gj M]
def qK(w:World)(o:Obj):(w.alloc o).heap[w.heap.size]? =Y o:=by show(w.heap.push o)[w.heap.size]? = _;simp
def NU(w:World)(o:Obj){c:Nat}(i:Nat)(h:c<w.heap.size):(w.alloc o).cell? ⟨c,i,J⟩=w.cell? ⟨c,i,J⟩:=by simp only[World.cell?,E6 w o h]
def Ws{w:World}{c i:Nat}(h:(w.cell? ⟨c,i,J⟩).isSome=dT):c<w.heap.size:=by
 obtain n|n:=kG c w.heap.size
 .exact n
 simp[World.cell?,pF n]at h
def Kx.with(P:Kx)(p:Option S)(t:Option Nat)(c u:Nat):Kx:=
 {ρ:=λq=>if Y q=p then Y c else P.ρ q
  τ:=λq=>if Y q=p then t else P.τ q
  U:=λd=>if d=c then u else P.U d
  φ:=P.φ}
def Ad(H:eM)(P:Kx)(p:S):Prop:=P.ρ p=J/\P.τ p=J/\H.ep.dZ p=J
def fJ.xV{B:Nat->Prop}{P:Kx}(h:fJ B G H w P):Ad H P H.dX:=h.fresh _ (fQ _)
def rk{B:Nat->Prop}{P:Kx}(h:fJ B G H w P)(o:Obj)(p:Option S)(hp:∀q,p=Y q->Ad H P q)(t:Option Nat)(u:Nat):
  fL B w P (w.alloc o) (P.with p t w.heap.size u):=by
 refine⟨⟨Z,Z,Z,ei,λk d=>E6 w o (h.base k d)⟩,λq c a=>?_,λq c a=>?_,λc=>?_,λc i C=>?_,λc i C=>?_,λc K=>?_,λ_ _ h=>h⟩
 .simp only[Kx.with];split
  .rename_i e;rw[(hp q e.symm).1]at a;cases a
  exact a
 .simp only[Kx.with];split
  .rename_i e;rw[(hp q e.symm).2.1]at a;cases a
  exact a
 .simp only[Kx.with];split
  .rename_i e;subst e;rcases xN (P.U w.heap.size)with b|b
   .omega
   exact absurd (h.kS _ b) (Nat.lt_irrefl _)
  exact fQ _
 .exact NU w o i (h.kS c M)
 .rw[NU w o i (Ws C)];exact C
 have:=h.base c K;simp only[Kx.with];rw[gj M]
def fJ.Wt{B:Nat->Prop}{P:Kx}(h:fJ B G H w P)(o:Obj)(u:Nat):fJ B G H (w.alloc o) (P.with J J w.heap.size u):=by
 refine h.keep (rk h o J Cz J u) (λp r c a hc=>?_) (λp c hp=>?_) (λp c hp=>?_) (λc hc=>?_)
 .have b:=h.room p c hc;exact⟨E6 w o b,by simp only[Kx.with];rw[gj M]⟩
 .simpa[Kx.with]using hp
 .simpa[Kx.with]using hp
 exact UJ
def fJ.E7{B:Nat->Prop}{P:Kx}(h:fJ B G H w P)(o:Obj)(a:AO)(u:Nat)(t:Option Nat){n nx:S}(hn:Ad H P n)(I:∀q:S,nx.dV<=q.dV->H.dX.dV<=q.dV/\q≠n)
  (ha:kR G (w.alloc o) (P.with (Y n) t w.heap.size u) a w.heap.size)(ht:a=.eY->t=Y u)(hu:a≠.eY->u=0):
  fJ B G {ep:=H.ep.set n (Y a),dX:=nx} (w.alloc o) (P.with (Y n) t w.heap.size u):=by
 have E:=rk h o (Y n) (λq e=>gu e▸hn) t u;refine⟨λk hk=>lw (h.base k hk) E.below.size,λp o' l=>?_,λp q j m c l x hp Q=>?_,λp hp=>?_,λp c hp=>?_,λc hc=>?_,h.gX.mono E⟩
 .simp only[T.jr]at l;split at l
  .rename_i e;subst e;obtain rfl:=gu l;refine⟨w.heap.size,by simp[Kx.with],λhB=>Nat.lt_irrefl _ (h.base _ hB),ha,λe=>by simp[Kx.with,ht e],λe=>by simp[Kx.with,hu e]⟩
  rename_i e;obtain⟨c,K,h2,h3,h4,h5⟩:=h.obj p o' l;have b:=h.room p c K;have D:(P.with (Y n) t w.heap.size u).U c=P.U c:=by simp only[Kx.with];rw[gj M]
  exact⟨c,E.jM _ _ K,h2,h3.mono E (E6 w o b) (λ_=>D),λe=>by rw[D];exact E.qI _ _ (h4 e),λe=>by rw[D];exact h5 e⟩
 .have i:∀q m,T.dZ q (H.ep.set n (Y a))=Y m->q≠n->∀d,(P.with (Y n) t w.heap.size u).ρ q=Y d->d<w.heap.size/\P.ρ q=Y d/\H.ep.dZ q=Y m:=by
   intro q m F y d C;simp only[T.jr,gj y]at F;have s:P.ρ q=Y d:=by have g:¬(Y q=Y n):=λe=>y (gu e);simpa only[Kx.with,gj g]using C
   exact⟨h.room q d s,s,F⟩
  have v:∀d,(P.with (Y n) t w.heap.size u).ρ n=Y d->d=w.heap.size:=by intro d C;simp[Kx.with]at C;exact C.symm
  by_cases z:p=n
  .by_cases r:q=n
   .rw[z,r]
   subst z;have:=v c hp;have:=(i q m x r c Q).1;omega
  by_cases r:q=n
  .subst r;have:=v c Q;have:=(i p j l z c hp).1;omega
  obtain⟨_,R,f⟩:=i p j l z c hp;obtain⟨_,W,b2⟩:=i q m x r c Q;exact h.inj p q j m c f b2 R W
 .obtain⟨N,y⟩:=I p hp;have g:¬(Y p=Y n):=λe=>y (gu e);obtain⟨f1,f2,f3⟩:=h.fresh p N;refine⟨by simp only[Kx.with,gj g];exact f1,by simp only[Kx.with,gj g];exact f2,by simp only[T.jr,gj y];exact f3⟩
 .simp only[Kx.with]at hp;split at hp
  .obtain rfl:=gu hp;simp
  have:=h.room p c hp;simp;omega
 exact UJ
def fJ.ew{B:Nat->Prop}{P:Kx}(h:fJ B G H w P)(o:Obj)(a:AO)(u:Nat)(t:Option Nat)
  (b:kR G (w.alloc o) (P.with (Y H.dX) t w.heap.size u) a w.heap.size)(j:a=.eY->t=Y u)(Q:a≠.eY->u=0):
  fJ B G {ep:=H.ep.set H.dX (Y a),dX:=H.dX.succ} (w.alloc o) (P.with (Y H.dX) t w.heap.size u):=by
 refine h.E7 o a u t h.xV (λq c=>?_) b j Q;rw[S.gG]at c;exact⟨M,λe=>by subst e;omega⟩
def fJ.put{B:Nat->Prop}{P:Kx}(h:fJ B G H w P)(E:fL B w P l P){p:S}{o a:AO}{c:Nat}
  (f:H.ep.dZ p=Y o)(K:P.ρ p=Y c)(hb:∀d,d≠c->l.heap[d]? =w.heap[d]?)(ha:kR G l P a c)(v:o≠.eY)(u:a≠.eY):
  fJ B G {H with ep:=H.ep.set p (Y a)} l P:=by
 refine⟨λk hk=>lw (h.base k hk) E.below.size,λq N t=>?_,λq r j D d U W h3 h4=>?_,λq t=>?_,λq d t=>lw (h.room q d t) E.below.size,λd hd=>lw (h.kS d hd) E.below.size,h.gX.mono E⟩
 .simp only[T.jr]at t;split at t
  .rename_i e;subst e;obtain rfl:=gu t;obtain⟨F,b,n,m,g,C⟩:=h.obj q o f;obtain rfl:F=c:=gu (b.symm.trans K);exact⟨F,b,n,ha,λe=>absurd e u,λ_=>C v⟩
  rename_i e;obtain⟨d,b,n,m,g,C⟩:=h.obj q N t;have s:d≠c:=λQ=>e (h.inj q p N o c t f (Q▸b) K);exact⟨d,b,n,m.mono E (hb d s) mJ,g,C⟩
 .have i:∀q j,T.dZ q (H.ep.set p (Y a))=Y j->∃D,H.ep.dZ q=Y D:=by
   intro q j t;simp only[T.jr]at t;split at t
   .rename_i e;exact⟨o,e▸f⟩
   exact⟨j,t⟩
  obtain⟨x,hx⟩:=i q j U;obtain⟨y,hy⟩:=i r D W;exact h.inj q r x y d hx hy h3 h4
 obtain⟨z,R,I⟩:=h.fresh q t;refine⟨z,R,?_⟩;simp only[T.jr];split
 .rename_i e;subst e;rw[I]at f;cases f
 exact I
inductive IX where
 |t (p:S)
 |c (v:A)
 |g (n:Nat)
inductive EK where
 |int|bool|J|ea|iface|sl|map|fn
inductive Ae where
 |one (k:EK)
 |struct (fs:List (Nat×EK))
inductive Wu where
 |wp (k:IntKind)
 |ey
 |Wy
 |Wz
 |WA
inductive Ji where
 |J
 |sl (sz:Nat)
 |eE (len sz:Nat)
inductive Wv where
 |sl (sz:Nat)
 |eE (len sz:Nat)
inductive BK where
 |CI
 |nO
 |Fa
 |cap
 |append (sz bytes:Nat)
 |Ah (sz bytes:Nat)(zero:List A)
 |Jp (sz:Nat)
 |min
 |max
 |agH (kd:EK)
 |agI
 |agJ (sz:Nat)(zero:List A)
inductive jI where
 |iA (x:IX)
 |pick (c a b:IX)
 |alloc (zero:List A)
 |box (x:IX)
 |build (zero:List A)(parts:List (Nat×Nat×IX))
 |lit (sz len:Nat)(zero:List A)(parts:List (Nat×Nat×IX))
 |load (n:Option Nat)(x:IX)
 |store (n:Nat)(a x:IX)
 |pL (x:IX)
 |gy (op:BinOp)(ek:Ae)(lit:Bool)(x y:IX)
 |un (op:UnOp)(x:IX)
 |conv(k:Wu)(x:IX)
 |rp (t:TypeId)(x:IX)
 |rq (fn:Fn)(first captured:List IX)
 |Ai
 |tG (zero:List A)(sz bytes:Nat)(len cap:IX)
 |slice (k:Ji)(x:IX)(lo hi mx:Option IX)
 |oJ (off:Nat)(x:IX)
 |field (off:Nat)(n:Option Nat)(x:IX)
 |lj (k:Wv)(x i:IX)
 |tH (x i:IX)
 |xY (len sz:Nat)(n:Option Nat)(x i:IX)
 |look (kd:EK)(zero:A)(x k:IX)(ok:Bool)
 |p9 (kd:EK)(m k v:IX)
 |Jq (kd:EK)(zero:A)(m k:IX)
 |Jr (m s v:IX)
 |Aj (x:IX)
 |Ak (x:IX)
 |wq (x:IX)
 |uL (x:IX)
 |entry (x:IX)
 |extract (x:IX)(i:Nat)
 |fail
 |call (f:FuncId)(args:List IX)
 |rr (x:IX)(args:List IX)
 |bi (b:BK)(args:List IX)
inductive NK where
 |ea
 |slice (sz n:Nat)
 |map
inductive iD where
 |val (v:A)
 |ew (o:AO)(k:NK)
 |put (p:S)(o:AO)(v:A)
 |lH (nT:Option S)(sz n:Nat)(cs:List A)
 |oK (nT:Option S)(sz n:Nat)(cs:List A)
 |call (f:FuncId)(args:List A)
 |yield (l:S)(args:List A)
 |any (l:List (AO×A))(p:S)
def Jj:IntKind->Nat
 |.i8=>128|.i16=>32768|.i32=>2147483648|.i64=>9223372036854775808| _=>0
def wn:IntKind->Nat
 |.i8=>128|.i16=>32768|.i32=>2147483648|.i64=>9223372036854775808
 |.u8=>256|.u16=>65536|.u32=>4294967296|.u64=>18446744073709551616
def tB(k:IntKind):Int->Bool
 |.ofNat m=>Nat.blt m (wn k)
 |.negSucc m=>Nat.blt m (Jj k)
def jN(k:IntKind)(n:Int):Int:=cond (tB k n) n (k.wrap n)
def lh:Int->Int->Bool
 |.ofNat a,.ofNat b=>Nat.blt a b
 |.ofNat _,.negSucc _=>dU
 |.negSucc _,.ofNat _=>dT
 |.negSucc a,.negSucc b=>Nat.blt b a
def gD:Int->Int->Bool
 |.ofNat a,.ofNat b=>Nat.beq a b
 |.negSucc a,.negSucc b=>Nat.beq a b
 | _,_=>dU
def xW:IntKind->IntKind->Bool
 |.i8,.i8|.i16,.i16|.i32,.i32|.i64,.i64|.u8,.u8|.u16,.u16|.u32,.u32|.u64,.u64=>dT
 | _,_=>dU
def iT:L Nat->L Nat->Bool
 |[],[]=>dT
 |a::x,b::y=>cond (Nat.beq a b) (iT x y) dU
 | _,_=>dU
def si:L Nat->L Nat->Bool
 | _,[]=>dU
 |[],_ :: _=>dT
 |a::x,b::y=>cond (Nat.blt a b) dT (cond (Nat.beq a b) (si x y) dU)
def jT:S->S->Bool
 |.h,.h=>dT
 |.o p,.o q=>jT p q
 |.i p,.i q=>jT p q
 | _,_=>dU
def mT:A->Bool
 |.agg _ |.eK _=>dU
 | _=>dT
def fN:L A->Bool
 |[]=>dT
 |v::l=>cond (mT v) (fN l) dU
def cut(b n:Nat)(w:L A):Option (L A):=
 let l:=(w.drop b).take n
 cond (Nat.beq (O l) n) (Y l) J
def o4(b:Nat)(ew w:L A):Option (L A):=
 cond (Nat.ble (b+O ew) (O w)) (Y (w.take b++ew++w.drop (b+O ew))) J
def part(b:Nat)(n:Option Nat)(w:L A):Option A:=
 match n with
 |none=>w[b]?
 |some n=>(cut b n w).map .agg
section
variable(G:ez)
def IX.ev(F:T A):IX->Option A
 |.t p=>F.dZ p
 |.c v=>Y v
 |.g n=>(G.gX n).map λw=>.fF w 0
def ko(F:T A):L IX->Option (L A)
 |[]=>Y []
 |x::l=>(x.ev G F).bind λv=>(ko F l).map (v::·)
end
def li(H:eM)(p:S):Option (L A):=
 match H.ep.dZ p with
 |some (.dY cs)=>Y cs
 | _=>J
def qL(G:ez)(H:eM):A->Option (L A×Nat)
 |.ea p off=>(li H p).map (·,off)
 |.fF cs off=>Y (cs,off)
 |.fz p off=>(G.fU p).map (·,off)
 | _=>J
def sj(H:eM):A->Option (Nat×L A)
 |.ej=>Y (0,[])
 |.eG _ n w _=>Y (n,w)
 |.eC p sz off n _ _=>(li H p).bind λw=>(cut off (n*sz) w).map (n,·)
 | _=>J
def E8(s:L Nat):L A:=s.map λb=>.int .u8 (.ofNat b)
def NV:L A->Option (L Nat)
 |[]=>Y []
 |.int .u8 (.ofNat n)::l=>cond (Nat.blt n 256) ((NV l).map (n::·)) J
 | _=>J
def rm(H:eM):A->Option (Nat×L A)
 |.J s=>Y (O s,E8 s)
 |v=>sj H v
def sm:L (Nat×Nat×A)->L A->Option (L A)
 |[],cs=>Y cs
 |(b,a,v)::rest,cs=>cond (Nat.beq (O v.cells) a) ((o4 b v.cells cs).bind (sm rest)) J
def o5(G:ez)(F:T A):L (Nat×Nat×IX)->Option (L (Nat×Nat×A))
 |[]=>Y []
 |(b,a,x)::rest=>(x.ev G F).bind λv=>(o5 G F rest).map ((b,a,v)::·)
def gV(zero:L A):Nat->L A
 |0=>[]
 |n+1=>zero++gV zero n
def jj(G:ez)(H:eM)(lit:Bool)(k:EK)(x y:A):Option Bool:=
 match k,x,y with
 |.int,.int k a,.int k' b=>cond (xW k k') (Y (gD a b)) J
 |.bool,.bool a,.bool b=>Y (cond a b (!b))
 |.J,.J a,.J b=>Y (iT a b)
 |.ea,.gi,.gi=>Y dT
 |.ea,.gi,.ea _ _ |.ea,.ea _ _,.gi|.ea,.gi,.fF _ _ |.ea,.fF _ _,.gi|.ea,.gi,.fz _ _ |.ea,.fz _ _,.gi=>Y dU
 |.ea,.fz p a,.fz q b=>
  cond (jT p q) (Y (Nat.beq a b)) (match G.fU p,G.fU q with
   |some _,some _=>Y dU
   | _,_=>J)
 |.ea,.ea p a,.ea q b=>
  cond (jT p q) (Y (Nat.beq a b)) (match H.ep.dZ p,H.ep.dZ q with
   |some (.dY _),some (.dY _)=>Y dU
   | _,_=>J)
 |.iface,.jc,.jc=>cond lit (Y dT) J
 |.iface,.jc,.iface _ _ |.iface,.iface _ _,.jc=>Y dU
 |.sl,.ej,.ej=>Y dT
 |.sl,.ej,.eG _ _ _ _ |.sl,.ej,.eC .. |.sl,.eG _ _ _ _,.ej|.sl,.eC ..,.ej=>Y dU
 |.map,.ji,.ji=>Y dT
 |.map,.ji,.map _ |.map,.map _,.ji=>Y dU
 |.fn,.gQ,.gQ=>Y dT
 |.fn,.gQ,.func .. |.fn,.func ..,.gQ|.fn,.gQ,.gF _ |.fn,.gF _,.gQ=>Y dU
 | _,_,_=>J
def lF(G:ez)(H:eM)(s q:L A):L (Nat×EK)->Option Bool
 |[]=>Y dT
 |(o,k)::l=>
 match s[o]?,q[o]? with
 |some a,some b=>(jj G H dU k a b).bind λr=>cond r (lF G H s q l) (Y dU)
 | _,_=>J
def nM(G:ez)(H:eM)(lit:Bool):Ae->A->A->Option Bool
 |.one k,a,b=>jj G H lit k a b
 |.struct fs,.agg xs,.agg ys=>lF G H xs ys fs
 |.struct _,_,_=>J
def NW(x:Int)(n:Nat):Int:=x.fdiv (.ofNat (Nat.pow 2 n))
def sn(op:BinOp)(k:IntKind)(a b:Int):Option A:=
 match op with
 |.add=>Y (.int k (jN k (a+b)))
 |.sub=>Y (.int k (jN k (a - b)))
 |.mul=>Y (.int k (jN k (a*b)))
 |.quo=>cond (gD b 0) J (Y (.int k (jN k (a.tdiv b))))
 |.rem=>cond (gD b 0) J (Y (.int k (a.tmod b)))
 |.and=>Y (.int k (k.wrap ((BitVec.ofInt k.bits a&&&BitVec.ofInt k.bits b)).toNat))
 |.or=>Y (.int k (k.wrap ((BitVec.ofInt k.bits a|||BitVec.ofInt k.bits b)).toNat))
 |.xor=>Y (.int k (k.wrap ((BitVec.ofInt k.bits a^^^BitVec.ofInt k.bits b)).toNat))
 |.andNot=>Y (.int k (k.wrap ((BitVec.ofInt k.bits a&&&~~~BitVec.ofInt k.bits b)).toNat))
 |.lss=>Y (.bool (lh a b))
 |.leq=>Y (.bool (!lh b a))
 |.gtr=>Y (.bool (lh b a))
 |.geq=>Y (.bool (!lh a b))
 |.eql=>Y (.bool (gD a b))
 |.neq=>Y (.bool (!gD a b))
 | _=>J
def xX(op:BinOp)(k:IntKind)(a b:Int):Option A:=
 match b with
 |.negSucc _=>J
 |.ofNat m=>
 let n:=cond (Nat.ble m k.bits) m k.bits
 match op with
 |.shl=>Y (.int k (jN k (a*.ofNat (Nat.pow 2 n))))
 |.shr=>Y (.int k (NW a n))
 | _=>J
def E9(op:BinOp)(a b:L Nat):Option A:=
 match op with
 |.add=>cond (Nat.blt (O a+O b) 9223372036854775808) (Y (.J (a++b))) J
 |.eql=>Y (.bool (iT a b))
 |.neq=>Y (.bool (!iT a b))
 |.lss=>Y (.bool (si a b))
 |.leq=>Y (.bool (si a b||iT a b))
 |.gtr=>Y (.bool !(si a b||iT a b))
 |.geq=>Y (.bool !(si a b))
 | _=>J
def o6(G:ez)(H:eM)(op:BinOp)(c:Ae)(lit:Bool)(x y:A):Option A:=
 match x,y with
 |.int k a,.int k' b=>
  match op with
  |.shl|.shr=>xX op k a b
  | _=>cond (xW k k') (sn op k a b) J
 |.J a,.J b=>E9 op a b
 |x,y=>
 match op with
 |.eql=>(nM G H lit c x y).map .bool
 |.neq=>(nM G H lit c x y).map λb=>.bool !b
 | _=>J
def NX(op:UnOp)(x:A):Option A:=
 match op,x with
 |.neg,.int k n=>Y (.int k (jN k (0 - n)))
 |.xor,.int k n=>sn .xor k (if k.signed then -1 else k.max) n
 |.not,.bool b=>Y (.bool !b)
 | _,_=>J
def lG:A->Option Nat
 |.int _ (.ofNat n)=>Y n
 | _=>J
def pI(j cap:Nat)(b C a:Option A):Option (Nat×Nat×Nat):=
 (match a with
  |none=>Y cap
  |some v=>(lG v).bind λm=>cond (Nat.ble m cap) (Y m) J).bind λm=>
 (match C,a with
  |none,none=>Y j
  |none,some _=>J
  |some v,none=>(lG v).bind λh=>cond (Nat.ble h cap) (Y h) J
  |some v,some _=>(lG v).bind λh=>cond (Nat.ble h m) (Y h) J).bind λh=>
 (match b with
  |none=>Y 0
  |some v=>(lG v).bind λl=>cond (Nat.ble l h) (Y l) J).bind λl=>Y (l,h,m)
def tE(l n h:Nat)(a:Bool)(t:jt):jt:=
 match a with
 |true=>match t with
  |.G=>cond (Nat.beq n 0) .G .fE
  | _=>.fE
 |false=>cond (Nat.beq h n) (match t with
  |.open t=>cond (Nat.beq l n) (cond (Nat.beq l 0) (.open t) .G) (.open t)
  |t=>t) .G
def pJ(H:eM)(k:Ji)(x:A)(b C a:Option A):Option A:=
 match k,x with
 |.J,.J s=>
  match a with
  |some _=>J
  |none=>(pI (O s) (O s) b C J).bind λ(l,h,_)=>Y (.J ((s.drop l).take (h - l)))
 |.sl _,.ej=>(pI 0 0 b C a).bind λ_=>Y .ej
 |.sl sz,.eG sz' n w t=>
  (pI n n b C a).bind λ(l,h,m)=>
   cond (Nat.beq sz sz'&&(match a with|none=>dT|some _=>Nat.beq m h)) (Y (.eG sz (h - l) ((w.drop (l*sz)).take ((h - l)*sz)) (tE l n h a.isSome t))) J
 |.sl sz,.eC p sz' off n cap ex=>
  (pI n cap b C a).bind λ(l,h,m)=>
   cond (Nat.beq sz sz') (match a with
   |some _=>Y (.eC p sz (cond (Nat.beq m l) off (off+l*sz)) (h - l) (m - l) dT)
   |none=>cond (Nat.beq m l) (cond ex (Y (.eC p sz off (h - l) (m - l) ex)) J) (Y (.eC p sz (off+l*sz) (h - l) (m - l) ex))) J
 |.eE len sz,.ea p off=>
  (li H p).bind λw=>(pI len len b C a).bind λ(l,h,m)=>
   cond (Nat.ble (off+len*sz) (O w)) (Y (.eC p sz (cond (Nat.beq m l) off (off+l*sz)) (h - l) (m - l) dT)) J
 |.eE len sz,.fF w off=>
  (pI len len b C a).bind λ(l,h,m)=>
   cond (Nat.ble (off+len*sz) (O w)) (Y (.eG sz (h - l) ((w.drop (off+l*sz)).take ((h - l)*sz)) (cond (Nat.beq m h) .fE .G))) J
 | _,_=>J
def ol(G:ez)(H:eM)(l:EK)(k:A):L gm->Nat->Option (Option (Nat×A×Nat))
 |[],_=>Y J
 |e::es,i=>(jj G H dU l k e.key).bind λr=>cond r (Y (Y (i,e.val,e.born))) (ol G H l k es (i+1))
def p8:EK->A->Bool
 |.int,.int _ _ |.J,.J _ |.bool,.bool _ |.ea,.ea _ _ |.ea,.fz _ _ |.ea,.gi=>dT
 | _,_=>dU
def lz(i:Nat)(k v:A):L gm->L gm
 |[]=>[]
 |e::es=>match i with
  |0=>{key:=k,val:=v,born:=e.born}::es
  |i+1=>e::lz i k v es
def om(H:eM)(p:S):Option (L gm×Nat):=
 match H.ep.dZ p with
 |some (.map es clock)=>Y (es,clock)
 | _=>J
def Jk(G:ez)(H:eM)(l:EK)(zero:A)(x k:A)(ok:Bool):Option A:=
 (match x with
  |.ji=>Y J
  |.map p=>(om H p).bind λ(a,_)=>ol G H l k a 0
  | _=>J).bind λr=>
 cond (p8 l k) (match r with
  |some (_,v,_)=>Y (cond ok (.eK [v,.bool dT]) v)
  |none=>Y (cond ok (.eK [zero,.bool dU]) zero)) J
def Jl(G:ez)(H:eM)(l:EK)(m k v:A):Option iD:=
 match m with
 |.map p=>(om H p).bind λ(a,W)=>cond (p8 l k) ((ol G H l k a 0).bind λr=>
  match r with
  |some (i,_,_)=>Y (.put p (.map (lz i k v a) W) (.eK []))
  |none=>Y (.put p (.map (a++[{key:=k,val:=v,born:=W}]) (W+1)) (.eK []))) J
 | _=>J
def Ww(G:ez)(H:eM)(l:EK)(zero:A)(m k:A):Option iD:=
 match m with
 |.map p=>(om H p).bind λ(a,W)=>cond (p8 l k) ((ol G H l k a 0).bind λr=>
  match r with
  |some (i,v,b)=>Y (.put p (.map (lz i k v a) W) (.eK [v,V b]))
  |none=>Y (.put p (.map (a++[{key:=k,val:=zero,born:=W}]) (W+1)) (.eK [zero,V W]))) J
 | _=>J
def NY(b:Nat):L gm->Nat->Option (Nat×A)
 |[],_=>J
 |e::es,i=>cond (Nat.beq e.born b) (Y (i,e.key)) (NY b es (i+1))
def Wx(H:eM)(m s v:A):Option iD:=
 match m,s with
 |.map p,.int .i64 (.ofNat b)=>(om H p).bind λ(a,W)=>(NY b a 0).bind λ(i,k)=>Y (.put p (.map (lz i k v a) W) (.eK []))
 | _,_=>J
def qM(s:L Nat):Nat×Nat:=
 let b (k:Nat):Nat:=s.getD k 0
 let a (k:Nat):Bool:=decide (k<O s)&&b k/64==2
 let d:=b 0
 if d<0x80 then(d,1)
 else if d/32==6&&a 1 then
  let c:=(d%32)*64+b 1%64
  if c≥0x80 then(c,2)else(0xFFFD,1)
 else if d/16==14&&a 1&&a 2 then
  let c:=(d%16)*4096+(b 1%64)*64+b 2%64
  if c≥0x800&&Utf8.valid c then(c,3)else(0xFFFD,1)
 else if d/8==30&&a 1&&a 2&&a 3 then
  let c:=(d%8)*262144+(b 1%64)*4096+(b 2%64)*64+b 3%64
  if c≥0x10000&&Utf8.valid c then(c,4)else(0xFFFD,1)
 else(0xFFFD,1)
def CG(H:eM):A->Option iD
 |.ea p 0=>
  match H.ep.dZ p with
  |some (.kQ s pos)=>
   match s with
   |[]=>Y (.val (.eK [.bool dU]))
   |b::rest=>
   cond (Nat.blt b 128) (Y (.put p (.kQ rest (pos+1)) (.eK [.bool dT,V pos,.int .i32 (.ofNat b)])))
    (let(c,wd):=qM s
     Y (.put p (.kQ (s.drop wd) (pos+wd)) (.eK [.bool dT,V pos,.int .i32 (.ofNat c)])))
  | _=>J
 | _=>J
def lY(b:Nat):L Nat->Bool
 |[]=>dU
 |x::l=>cond (Nat.beq x b) dT (lY b l)
def wo(a:Nat):L gm->Bool
 |[]=>dT
 |e::es=>cond (Nat.blt e.born a) (wo a es) dU
def nC(seen:L Nat):L gm->L gm
 |[]=>[]
 |e::es=>cond (lY e.born seen) (nC seen es) (e::nC seen es)
def Jm(H:eM):A->Option iD
 |.ea p 0=>
  match H.ep.dZ p with
  |some (.b none _ _ _)=>Y (.val (.eK [.bool dU]))
  |some (.b (some m) since seen last)=>
   (om H m).bind λ(a,W)=>
    cond (wo since a&&(wo last a||(match seen with|[]=>dT| _=>dU)||(match a with|[]=>dT| _=>dU)))
     (match nC seen a with
      |[]=>Y (.val (.eK [.bool dU]))
      |e::l=>Y (.any ((e::l).map λe=>(.b (Y m) since (seen++[e.born]) W,.eK [.bool dT,e.key,e.val])) p)) J
  | _=>J
 | _=>J
def CH:L Nat->Option Nat
 |[]=>J
 |[x]=>Y x
 | _ ::l=>CH l
def Af(b:Nat):L gm->Option gm
 |[]=>J
 |e::es=>cond (Nat.beq e.born b) (Y e) (Af b es)
def Jo(H:eM):A->Option A
 |.ea p 0=>
  match H.ep.dZ p with
  |some (.b (some m) _ seen stepped)=>(CH seen).bind λb=>(om H m).bind λ(a,W)=>cond (Nat.beq W stepped) ((Af b a).map λe=>.eK [e.key,e.val]) J
  | _=>J
 | _=>J
def kr:Nat:=70368744177664
def mU(n bytes:Nat):Bool:=Nat.ble (n*bytes) kr&&Nat.ble n kr
def nN(H:eM)(dY:Bool)(o bytes:Nat)(s:A)(m:Nat)(ew:L A):Option iD:=
 match m with
 |0=>match s with
  |.ej|.eG .. |.eC .. =>Y (.val s)
  | _=>J
 | _=>
 match s with
 |.ej=>cond (mU m bytes) (Y (cond dY (.oK J o m ew) (.lH J o m ew))) J
 |.eG sz' n w t=>
  cond (mU (n+m) bytes&&Nat.beq o sz')
   (match t with
    |.fE=>Y (cond dY (.oK J o (n+m) (w++ew)) (.lH J o (n+m) (w++ew)))
    |.open t=>cond dY J (match H.ep.dZ t with
     |some .eY=>Y (.lH (Y t) o (n+m) (w++ew))
     | _=>J)
    |.G=>J) J
 |.eC p sz' off n cap ex=>
  (li H p).bind λw=>
   cond (Nat.beq o sz') (cond (Nat.ble (n+m) cap)
    ((o4 (off+n*o) ew w).bind λx=>Y (.put p (.dY x) (.eC p o off (n+m) cap ex)))
    (cond (mU (n+m) bytes)
     ((cut off (n*o) w).bind λi=>
      cond ex (Y (cond dY (.oK J o (n+m) (i++ew)) (.lH J o (n+m) (i++ew))))
       (cond (Nat.beq off 0) (Y (cond dY (.oK (Y p) o (n+m) (i++ew)) (.lH (Y p) o (n+m) (i++ew)))) J)) J)) J
 | _=>J
def Ag(a:Bool):A->L A->Option A
 |v,[]=>Y v
 |.int k x,.int k' y::l=>cond (xW k k') (Ag a (.int k (cond (cond a (lh y x) (lh x y)) y x)) l) J
 | _,_=>J
def iU(H:eM)(dY:Bool):BK->L A->Option iD
 |.CI,[.J s]=>Y (.val (V (O s)))
 |.nO,[.ej]=>Y (.val (.int .i64 0))
 |.nO,[.eG _ n _ _]=>Y (.val (V n))
 |.nO,[.eC _ _ _ n _ _]=>Y (.val (V n))
 |.Fa,[.ji]=>Y (.val (.int .i64 0))
 |.Fa,[.map p]=>(om H p).map λ(b,_)=>.val (V (O b))
 |.cap,[.ej]=>Y (.val (.int .i64 0))
 |.cap,[.eG _ n _ .fE]=>Y (.val (V n))
 |.cap,[.eC _ _ _ _ cap true]=>Y (.val (V cap))
 |.append sz bytes,[s,x]=>(rm H x).bind λ(m,ew)=>cond (fN ew&&Nat.beq (O ew) (m*sz)) (nN H dY sz bytes s m ew) J
 |.Ah sz bytes zero,[s,x]=>(lG x).bind λm=>cond (fN zero&&mU m bytes) (nN H dY sz bytes s m (gV zero m)) J
 |.Jp sz,[.eC p _ off n _ _,x]=>
  (rm H x).bind λ(m,ew)=>
   let k:=cond (Nat.ble m n) m n
   (li H p).bind λw=>(cut 0 (k*sz) ew).bind λew=>cond (fN ew) ((o4 off ew w).bind λa=>Y (.put p (.dY a) (V k))) J
 |.Jp _,[.ej,x]=>(rm H x).map λ_=>.val (.int .i64 0)
 |.Jp _,[.eG _ 0 _ _,x]=>(rm H x).map λ_=>.val (.int .i64 0)
 |.min,v::l=>match v with|.int _ _=>(Ag dT v l).map .val| _=>J
 |.max,v::l=>match v with|.int _ _=>(Ag dU v l).map .val| _=>J
 | _,_=>J
def pK{Q:Type}(f:IX->Option Q):Option IX->Option (Option Q)
 |none=>Y J
 |some x=>(f x).map Y
def fG(G:ez)(dY:Bool)(F:T A)(H:eM)(o:jI):Option iD:=
 match o with
 |.iA x=>(x.ev G F).map .val
 |.pick c a b=>(c.ev G F).bind λ
  |.bool true=>(a.ev G F).map .val
  |.bool false=>(b.ev G F).map .val
  | _=>J
 |.alloc zero=>Y (.ew (.dY zero) .ea)
 |.box x=>(x.ev G F).map λv=>.ew (.dY v.cells) .ea
 |.build zero parts=>(o5 G F parts).bind λj=>(sm j zero).map λw=>.val (.agg w)
 |.lit sz len zero parts=>(o5 G F parts).bind λj=>(sm j (gV zero len)).map λw=>cond dY (.ew (.dY w) (.slice sz len)) (.val (.eG sz len w .fE))
 |.load n x=>(x.ev G F).bind λa=>(qL G H a).bind λ(w,d)=>(part d n w).map .val
 |.store n a x=>(a.ev G F).bind λa=>(x.ev G F).bind λv=>
  match a with
  |.ea p d=>(li H p).bind λw=>cond (Nat.beq (O v.cells) n&&fN v.cells) ((o4 d v.cells w).map λe=>.put p (.dY e) (.eK [])) J
  | _=>J
 |.pL x=>(x.ev G F).bind λ
  |.ea p d=>Y (.val (.ea p d))
  |.fF w d=>Y (.val (.fF w d))
  |.fz p d=>Y (.val (.fz p d))
  |.iface t v=>Y (.val (.iface t v))
  |.func (.func f) a b=>Y (.val (.func (.func f) a b))
  |.gF l=>Y (.val (.gF l))
  | _=>J
 |.gy op ek lit x y=>(x.ev G F).bind λa=>(y.ev G F).bind λb=>(o6 G H op ek lit a b).map .val
 |.un op x=>(x.ev G F).bind λa=>(NX op a).map .val
 |.conv k x=>(x.ev G F).bind λa=>
  match k,a with
  |.wp k,.int _ n=>Y (.val (.int k (jN k n)))
  |.ey,.J s=>Y (.val (.J s))
  |.Wy,v=>(sj H v).bind λ(_,w)=>(NV w).map λs=>.val (.J s)
  |.Wz,.J s=>cond (Nat.ble (O s) kr) (Y (.lH J 1 (O s) (E8 s))) J
  |.WA,.int _ (.ofNat n)=>cond (Nat.blt n 128) (Y (.val (.J [n]))) J
  | _,_=>J
 |.rp t x=>(x.ev G F).map λv=>.val (.iface t v)
 |.rq fn first captured=>
  match fn with
  |.yield _=>J
  |fn=>(ko G F first).bind λa=>(ko G F captured).map λb=>.val (.func fn a b)
 |.Ai=>Y (.ew (.map [] 0) .map)
 |.tG zero sz bytes len cap=>(len.ev G F).bind λl=>(cap.ev G F).bind λc=>(lG l).bind λl=>(lG c).bind λc=>cond (Nat.beq l c&&Nat.ble (c*bytes) kr&&Nat.ble c kr) (Y (cond dY (.ew (.dY (gV zero c)) (.slice sz c)) (.val (.eG sz c (gV zero c) .fE)))) J
 |.slice k x g C h=>(x.ev G F).bind λv=>(pK (IX.ev G F) g).bind λg=>(pK (IX.ev G F) C).bind λC=>(pK (IX.ev G F) h).bind λh=>(pJ H k v g C h).map .val
 |.oJ d x=>(x.ev G F).bind λ
  |.ea p o=>Y (.val (.ea p (o+d)))
  |.fF w o=>Y (.val (.fF w (o+d)))
  |.fz p o=>Y (.val (.fz p (o+d)))
  | _=>J
 |.field d n x=>(x.ev G F).bind λ
  |.agg w=>(part d n w).map .val
  | _=>J
 |.lj k x i=>(x.ev G F).bind λv=>(i.ev G F).bind λi=>(lG i).bind λi=>
  match k,v with
  |.sl sz,.eG _ n w _=>cond (Nat.blt i n) (Y (.val (.fF w (i*sz)))) J
  |.sl sz,.eC p _ d n _ _=>cond (Nat.blt i n) (Y (.val (.ea p (d+i*sz)))) J
  |.eE len sz,.ea p d=>cond (Nat.blt i len) (Y (.val (.ea p (d+i*sz)))) J
  |.eE len sz,.fz p d=>cond (Nat.blt i len) (Y (.val (.fz p (d+i*sz)))) J
  |.eE len sz,.fF w d=>cond (Nat.blt i len) (Y (.val (.fF w (d+i*sz)))) J
  | _,_=>J
 |.tH x i=>(x.ev G F).bind λv=>(i.ev G F).bind λi=>(lG i).bind λi=>
  match v with
  |.J s=>(s[i]?).map λb=>.val (.int .u8 (.ofNat b))
  | _=>J
 |.xY len sz n x i=>(x.ev G F).bind λv=>(i.ev G F).bind λi=>(lG i).bind λi=>
  match v with
  |.agg w=>cond (Nat.blt i len) ((part (i*sz) n w).map .val) J
  | _=>J
 |.look kd zero x k ok=>(x.ev G F).bind λv=>(k.ev G F).bind λk=>(Jk G H kd zero v k ok).map .val
 |.p9 kd m k v=>(m.ev G F).bind λm=>(k.ev G F).bind λk=>(v.ev G F).bind λv=>Jl G H kd m k v
 |.Jq kd zero m k=>(m.ev G F).bind λm=>(k.ev G F).bind λk=>Ww G H kd zero m k
 |.Jr m s v=>(m.ev G F).bind λm=>(s.ev G F).bind λs=>(v.ev G F).bind λv=>Wx H m s v
 |.Aj x=>(x.ev G F).bind λ
  |.J s=>Y (.ew (.kQ s 0) .ea)
  | _=>J
 |.Ak x=>(x.ev G F).bind λ
  |.ji=>Y (.ew (.b J 0 [] 0) .ea)
  |.map p=>(om H p).map λ(_,W)=>.ew (.b (Y p) W [] W) .ea
  | _=>J
 |.wq x=>(x.ev G F).bind (CG H)
 |.uL x=>(x.ev G F).bind (Jm H)
 |.entry x=>(x.ev G F).bind λv=>(Jo H v).map .val
 |.extract x i=>(x.ev G F).bind λ
  |.eK vs=>(vs[i]?).map .val
  | _=>J
 |.call f args=>(ko G F args).map λa=>.call f a
 |.rr x args=>(x.ev G F).bind λv=>(ko G F args).bind λa=>
  match v with
  |.func (.func f) first captured=>Y (.call f (first++a++captured))
  |.gF l=>Y (.yield l a)
  | _=>J
 |.bi b args=>(ko G F args).bind (iU H dY b)
 |.fail=>J
def qa:Nat->Value->Option A
 |0,_=>J
 |n+1,v=>
 match v with
 |.bool b=>Y (.bool b)
 |.int k n=>Y (.int k n)
 |.string s=>Y (.J (s.data.toList.map UInt8.toNat))
 |.pointer none=>Y .gi
 |.slice none 0 0=>Y .ej
 |.map none=>Y .ji
 |.nilFunc=>Y .gQ
 |.nilIface=>Y .jc
 |.func (.func f) a b=>if a.isEmpty&&b.isEmpty then Y (.func (.func f) [] [])else J
 |.agg cs=>(ofVals n cs.toList).map .agg
 |.tuple cs=>(ofVals n cs.toList).map .eK
 | _=>J
 where
 ofVals (n:Nat):List Value→Option (List A)
  |[]=>some []
  |v::l=>(qa n v).bind fun a=>(ofVals n l).map (a::·)
def iO:Operand->Option IX
 |.tmp t=>Y (.t (S.ofNat t))
 |.const v=>(qa 8 v).map .c
 |.global g=>Y (.g g)
 |.func f=>Y (.c (.func (.func f) [] []))
def xZ:L Operand->Option (L IX)
 |[]=>Y []
 |x::l=>(iO x).bind λa=>(xZ l).map (a::·)
def CJ:Option Operand->Option (Option IX)
 |none=>Y J
 |some x=>(iO x).map Y
def wt(P:Program)(t:TypeId):Option Bool:=
 match P.underlying t with
 |some (.struct _)|some (.array _ _)=>Y dT
 |some _=>Y dU
 |none=>J
def nD(P:Program)(t:TypeId):Option Nat:=(P.info? t).map (·.size)
def nQ(P:Program)(t:TypeId):Option Nat:=(nD P t).bind λn=>if n=0 then J else Y n
def uM(P:Program)(t:TypeId):Option Nat:=(P.info? t).map (·.bytes)
def qb(P:Program)(t:TypeId):Option A:=((P.info? t).bind (·.zero)).bind (qa 8)
def uN(P:Program)(t:TypeId):Option (Option Nat):=
 (wt P t).bind λ
  |true=>(nD P t).map Y
  |false=>Y J
def mV(P:Program)(t:TypeId):Option EK:=
 match P.underlying t with
 |some (.int _)=>Y .int
 |some .bool=>Y .bool
 |some .string=>Y .J
 |some (.pointer e)=>(nQ P e).map λ_=>.ea
 |some (.interface _)=>Y .iface
 |some (.slice _)=>Y .sl
 |some (.map _ _)=>Y .map
 |some (.func _ _ _)=>Y .fn
 | _=>J
def wu(P:Program)(t:TypeId):Option EK:=
 match mV P t with
 |some .int=>Y .int
 |some .bool=>Y .bool
 |some .J=>Y .J
 |some .ea=>Y .ea
 | _=>J
def ru(k:EK)(a:Nat):Nat->Nat->L (Nat×EK)
 | _,0=>[]
 |o,n+1=>(o,k)::ru k a (o+a) n
def uO(P:Program):L Field->Option (L (Nat×EK))
 |[]=>Y []
 |f::l=>
 if f.name= "_" then J else
 match P.underlying f.type with
 |some (.array n e)=>(wu P e).bind λk=>(nQ P e).bind λo=>if nD P f.type=Y (n*o)then(uO P l).map (ru k o f.offset n++·)else J
 | _=>(wu P f.type).bind λk=>(uO P l).map ((f.offset,k)::·)
def Al(P:Program)(t:TypeId):Option Ae:=
 match P.underlying t with
 |some (.struct fs)=>if P.stoodInHeld t||P.eqGuardType P.depth t then J else(uO P fs.toList).map .struct
 |some (.array n e)=>if P.eqGuardType P.depth t then J else(wu P e).bind λk=>(nQ P e).map λo=>.struct (ru k o 0 n)
 | _=>(mV P t).map .one
def wv(P:Program)(c:Nat->Option (Nat×Nat)):L (Nat×Operand)->Option (L (Nat×Nat×IX))
 |[]=>Y []
 |(i,x)::l=>(c i).bind λ(b,d)=>(iO x).bind λa=>(wv P c l).map ((b,d,a)::·)
def ya(P:Program)(t:TypeId):Option EK:=
 match mV P t with
 |some .int=>Y .int
 |some .bool=>Y .bool
 |some .J=>Y .J
 |some .ea=>Y .ea
 | _=>J
def uP:Operand->Bool
 |.const _=>dT
 | _=>dU
def uQ(P:Program)(b:Builtin)(a:Array TypeId):Option BK:=
 match b with
 |.len=>(a[0]?).bind λt=>match P.underlying t with
  |some .string=>Y .CI
  |some (.slice _)=>Y .nO
  |some (.map _ _)=>Y .Fa
  | _=>J
 |.cap=>(a[0]?).bind λt=>match P.underlying t with
  |some (.slice _)=>Y .cap
  | _=>J
 |.append=>(a[0]?).bind λt=>(a[1]?).bind λu=>match P.underlying t,P.underlying u with
  |some (.slice e),some (.int _)=>(nQ P e).bind λo=>(uM P e).bind λc=>(qb P e).bind λz=>if O z.cells=o then Y (.Ah o c z.cells)else J
  |some (.slice e),some _=>(nQ P e).bind λo=>(uM P e).bind λc=>(qb P e).bind λz=>if O z.cells=o then Y (.append o c)else J
  | _,_=>J
 |.min=>Y .min
 | _=>J
def ib(P:Program)(o:Op):Option jI:=
 match o with
 |.move x|.assign x=>(iO x).map .iA
 |.pick c a b=>(iO c).bind λc=>(iO a).bind λa=>(iO b).map λb=>.pick c a b
 |.alloc e=>(qb P e).map λz=>.alloc z.cells
 |.box _ x=>(iO x).map .box
 |.build t parts=>(qb P t).bind λz=>match P.underlying t with
  |some (.struct fs)=>(fs.toList.mapM λf=>(P.info? f.type).map λi=>(f.offset,i.size)).bind λd=>(wv P (λi=>d[i]?) parts.toList).map (.build z.cells)
  |some (.array _ e)=>(nD P e).bind λs=>(wv P (λi=>Y (i*s,s)) parts.toList).map (.build z.cells)
  | _=>J
 |.buildSlice t len parts=>match P.underlying t with
  |some (.slice e)=>(nQ P e).bind λs=>(qb P e).bind λz=>if len*s<=16777216/\O z.cells=s then(wv P (λi=>Y (i*s,s)) parts.toList).map (.lit s len z.cells)else J
  | _=>J
 |.load t a=>(uN P t).bind λn=>(iO a).map (.load n)
 |.store t a x=>(nD P t).bind λn=>(iO a).bind λa=>(iO x).map (.store n a)
 |.nilCheck x=>(iO x).map .pL
 |.binOp op t x y _=>(iO x).bind λa=>(iO y).bind λb=>
  match op with
  |.eql|.neq=>(Al P t).map λk=>.gy op k (uP x||uP y) a b
  | _=>Y (.gy op (.one .int) dU a b)
 |.unOp op _ x=>(iO x).map (.un op)
 |.convert src dst x=>(iO x).bind λa=>
  match P.underlying src,P.underlying dst with
  |some (.int _),some (.int k)=>Y (.conv (.wp k) a)
  | _,_=>J
 |.makeInterface t x=>match P.underlying t with
  |some (.interface _)|none=>J
  | _=>(iO x).map (.rp t)
 |.makeFunc fn first captured=>(xZ first.toList).bind λa=>(xZ captured.toList).map (.rq fn a)
 |.makeMap _ none=>Y .Ai
 |.makeSlice t l c=>match P.underlying t with
  |some (.slice e)=>(nQ P e).bind λs=>(uM P e).bind λj=>(qb P e).bind λz=>if O z.cells=s then(iO l).bind λl=>(iO c).map (.tG z.cells s j l)else J
  | _=>J
 |.slice t x g C h=>(iO x).bind λx=>(CJ g).bind λg=>(CJ C).bind λC=>(CJ h).bind λh=>
  match P.underlying t with
  |some .string=>Y (.slice .J x g C h)
  |some (.slice e)=>(nQ P e).map λs=>.slice (.sl s) x g C h
  |some (.array n e)=>(nQ P e).map λs=>.slice (.eE n s) x g C h
  | _=>J
 |.fieldAddr s x i=>match P.underlying s with
  |some (.struct fs)=>(fs[i]?).bind λf=>(nQ P f.type).bind λ_=>(iO x).map (.oJ f.offset)
  | _=>J
 |.field s x i=>match P.underlying s with
  |some (.struct fs)=>(fs[i]?).bind λf=>(uN P f.type).bind λn=>(iO x).map (.field f.offset n)
  | _=>J
 |.indexAddr t x i=>(iO x).bind λx=>(iO i).bind λi=>match P.underlying t with
  |some (.slice e)=>(nQ P e).map λs=>.lj (.sl s) x i
  |some (.array n e)=>(nQ P e).map λs=>.lj (.eE n s) x i
  | _=>J
 |.index t x i=>(iO x).bind λx=>(iO i).bind λi=>match P.underlying t with
  |some .string=>Y (.tH x i)
  |some (.array n e)=>(nD P e).bind λs=>(uN P e).map λl=>.xY n s l x i
  | _=>J
 |.lookup t x k ok=>(iO x).bind λx=>(iO k).bind λk=>match P.underlying t with
  |some (.map kt e)=>(ya P kt).bind λp=>(qb P e).map λz=>.look p z x k ok
  | _=>J
 |.mapUpdate t m k v|.insert t m k v=>(iO m).bind λm=>(iO k).bind λk=>(iO v).bind λv=>match P.underlying t with
  |some (.map kt _)=>(ya P kt).map λp=>.p9 p m k v
  | _=>J
 |.range t x=>(iO x).bind λx=>match P.underlying t with
  |some .string=>Y (.Aj x)
  |some (.map _ _)=>Y (.Ak x)
  | _=>J
 |.next x true=>(iO x).map .wq
 |.next x false=>(iO x).map .uL
 |.entry x=>(iO x).map .entry
 |.extract x i=>(iO x).map λx=>.extract x i
 |.call c=>(xZ c.args.toList).bind λK=>match c.callee with
  |.value (.func f)=>Y (.call f K)
  |.value x=>(iO x).map λx=>.rr x K
  |.builtin b=>(uQ P b c.argTypes).map λb=>.bi b K
  |.invoke _ _=>J
 | _=>J
section kE
variable{w:World}{X:Kx}{v:Value}
def uR(h:eQ w X (.bool b) v):v=.bool b:=by cases h;rfl
def qN{k:IntKind}{n:Int}(h:eQ w X (.int k n) v):v=.int k n:=by cases h;rfl
def mn{s:L Nat}(h:eQ w X (.J s) v):∃b:ByteArray,v=.string b/\b.data.toList.map UInt8.toNat=s:=by cases h;exact⟨_,Z,by assumption⟩
def Js(h:eQ w X .gi v):v=.pointer J:=by cases h;rfl
def uS{p:S}(h:eQ w X (.fz p b) v):∃c,v=.pointer (Y ⟨c,b,J⟩)/\X.φ p=Y c:=by cases h;exact⟨_,Z,by assumption⟩
def o7{p:S}(h:eQ w X (.ea p b) v):∃c,v=.pointer (Y ⟨c,b,J⟩)/\X.ρ p=Y c:=by cases h;exact⟨_,Z,by assumption⟩
def yb(h:eQ w X (.fF d b) v):∃c o,v=.pointer (Y ⟨c,o+b,J⟩)/\o+O d<=X.U c/\
  ∀i (h:i<O d),∃v,w.cell? ⟨c,o+i,J⟩=Y v/\eQ w X d[i] v:=by
 match v,h with
 | _,.fF _ _ c o vs hU hc hv=>exact⟨c,o,Z,hU,λi C=>⟨vs i,hc i C,hv i C⟩⟩
def Am(h:eQ w X .ej v):v=.slice J 0 0:=by cases h;rfl
def yc{d n:Nat}{t:jt}(h:eQ w X (.eG d n b t) v):(∃c o cap,v=.slice (Y ⟨c,o,J⟩) n cap/\o+O b<=X.U c/\
  (∀i (h:i<O b),∃v,w.cell? ⟨c,o+i,J⟩=Y v/\eQ w X b[i] v)/\O b=n*d/\n<=cap/\0<d/\mS w X c o n d cap t)\/∃a cap,v=.slice (Y a) 0 cap/\n=0/\b=[]/\t=.G/\0<d:=by
 match v,h with
 | _,.eG _ _ _ _ c o cap vs hU hc hv hn hcap hsz htok=>exact .inl ⟨c,o,cap,Z,hU,λi C=>⟨vs i,hc i C,hv i C⟩,hn,hcap,hsz,htok⟩
 | _,.emp _ a cap hsz=>exact .inr ⟨a,cap,Z,Z,Z,Z,hsz⟩
def Jt{e n:Nat}{t:jt}(h:eQ w X (.eG e n b t) v)(f:0<n\/t≠.G):∃c o cap,v=.slice (Y ⟨c,o,J⟩) n cap/\o+O b<=X.U c/\
  (∀i (h:i<O b),∃v,w.cell? ⟨c,o+i,J⟩=Y v/\eQ w X b[i] v)/\O b=n*e/\n<=cap/\0<e/\mS w X c o n e cap t:=by
 obtain h|⟨_,_,_,d,_,y,_⟩:=yc h
 .exact h
 exact absurd y (f.resolve_left M)
def yd{p:S}{o b n cap:Nat}{e:Bool}(h:eQ w X (.eC p o b n cap e) v):∃c d,v=.slice (Y ⟨c,b,J⟩) n d/\X.ρ p=Y c/\cap<=d/\
  (e=dT->d=cap)/\n<=cap/\(∀i,i<d*o->(w.cell? ⟨c,b+i,J⟩).isSome=dT)/\0<o:=by
 cases h;exact⟨_,_,Z,by assumption,by assumption,by assumption,by assumption,by assumption,by assumption⟩
def Ju(h:eQ w X .ji v):v=.map J:=by cases h;rfl
def Fb{p:S}(h:eQ w X (.map p) v):∃c,v=.map (Y c)/\X.ρ p=Y c:=by cases h;exact⟨_,Z,by assumption⟩
def NZ(h:eQ w X (.gF l) v):∃c,v=.func (.yield c) #[] #[]/\X.ρ l=Y c:=by cases h;exact⟨_,Z,by assumption⟩
def WB{t:TypeId}{a:A}(h:eQ w X (.iface t a) v):∃x,v=.iface t x/\eQ w X a x:=by cases h;exact⟨_,Z,by assumption⟩
end kE
def An{w:World}{X:Kx}(h:fR w X b vs):eQ w X (.agg b) (.agg vs.toArray):=
 .agg b vs.toArray (by simp[h.1]) λi hi=>Tl
def sq{w:World}{X:Kx}{vs:L Value}(h:fR w X b vs):eQ w X (.eK b) (.tuple vs.toArray):=
 .eK b vs.toArray (by simp[h.1]) λi hi=>Tl
def Fc{w:World}{X:Kx}(h:eQ w X (.agg b) (.agg vs)):fR w X b vs.toList:=by
 cases h with
 |agg _ _ h1 h2=>exact SP
def WC{w:World}{X:Kx}(h:eQ w X (.eK b) (.tuple vs)):fR w X b vs.toList:=by
 cases h with
 |eK _ _ h1 h2=>exact SP
def fR.nil{w:World}{X:Kx}:fR w X [] []:=we
def fR.cons{w:World}{X:Kx}{a:A}{v:Value}{C:L Value}(h:eQ w X a v)(t:fR w X l C):fR w X (a::l) (v::C):=
 ⟨by simp[t.1],λi K r=>by
  cases i with
  |zero=>exact h
  |succ i=>exact t.2 i Ii (by simpa using r)⟩
def fR.uT{w:World}{X:Kx}{a:A}{v:Value}{C:L Value}(h:fR w X (a::l) (v::C)):eQ w X a v:=h.2 0 ei ei
def fR.tail{w:World}{X:Kx}{a:A}{v:Value}{C:L Value}(h:fR w X (a::l) (v::C)):fR w X l C:=
 ⟨by simpa using h.1,λi K r=>h.2 (i+1) Ii (by simpa using r)⟩
def fR.append{w:World}{X:Kx}{a b:L A}{c d:L Value}(h:fR w X a c)(k:fR w X b d):fR w X (a++b) (c++d):=by
 induction a generalizing c with
 |nil=>cases c with
  |nil=>exact k
  |cons x l=>have:=h.1;simp at this
 |cons x l i=>cases c with
  |nil=>have:=h.1;simp at this
  |cons y C=>exact .cons h.uT (i h.tail)
def fR.drop{w:World}{X:Kx}{a:L A}{k:L Value}(h:fR w X a k)(n:Nat):fR w X (a.drop n) (k.drop n):=
 ⟨by simp[h.1],λi K r=>by simpa using h.2 (n+i) (by simp at K;omega) (by simp at r;omega)⟩
def fR.take{w:World}{X:Kx}{a:L A}{k:L Value}(h:fR w X a k)(n:Nat):fR w X (a.take n) (k.take n):=
 ⟨by simp[h.1],λi K r=>by simpa using h.2 i (by simp at K;omega) (by simp at r;omega)⟩
def fR.Q{w:World}{X:Kx}{a:A}(h:fR w X (a::l) b):∃v C,b=v::C/\eQ w X a v/\fR w X l C:=by
 cases b with
 |nil=>have:=h.1;simp at this
 |cons v C=>exact⟨v,C,Z,h.uT,h.tail⟩
def fR.lZ{w:World}{X:Kx}(h:fR w X [] b):b=[]:=by
 cases b with
 |nil=>rfl
 |cons v C=>have:=h.1;simp at this
def Ao{w:World}{X:Kx}{v:Value}{c:L A}(h:eQ w X (.agg c) v):∃b:L Value,v=.agg b.toArray/\fR w X c b:=by
 cases h with
 |agg _ b K r=>exact⟨b.toList,Z,Fc (.agg c b K r)⟩
def N0{w:World}{X:Kx}{v:Value}{c:L A}(h:eQ w X (.eK c) v):∃b:L Value,v=.tuple b.toArray/\fR w X c b:=by
 cases h with
 |eK _ b K r=>exact⟨b.toList,Z,WC (.eK c b K r)⟩
def Jv{w:World}{X:Kx}{v:Value}{a b:L A}(h:eQ w X (.func f a b) v):∃x y:L Value,v=.func f x.toArray y.toArray/\(∀l,f≠.yield l)/\fR w X a x/\fR w X b y:=by
 cases h with
 |func _ _ _ k c g K r m E=>exact⟨k.toList,c.toList,Z,g,Fc (.agg a k K r),Fc (.agg b c m E)⟩
def WD{w:World}{X:Kx}{a b:L A}{x y:L Value}(g:∀l,f≠.yield l)(c:fR w X a x)(j:fR w X b y):eQ w X (.func f a b) (.func f x.toArray y.toArray):=by
 cases An c with
 |agg _ _ K r=>cases An j with
  |agg _ _ m E=>exact .func f a b _ _ g K r m E
def Fe{w:World}{X:Kx}{c o b:Nat}(e:o+O d<=X.U c)(h:∀i (h:i<O d),∃v,w.cell? ⟨c,o+i,J⟩=Y v/\eQ w X d[i] v):
  eQ w X (.fF d b) (.pointer (Y ⟨c,o+b,J⟩)):=by
 refine .fF d b c o (λi=>if h':i<O d then(h i h').choose else undef) e (λi C=>?_) (λi C=>?_)
 .simp only[C,th];exact(h i C).choose_spec.1
 simp only[C,th];exact(h i C).choose_spec.2
def sr{w:World}{X:Kx}{c o e n cap:Nat}{t:jt}(g:o+O b<=X.U c)(h:∀i (h:i<O b),∃v,w.cell? ⟨c,o+i,J⟩=Y v/\eQ w X b[i] v)
  (E:O b=n*e)(d:n<=cap)(f:0<e)(j:mS w X c o n e cap t):eQ w X (.eG e n b t) (.slice (Y ⟨c,o,J⟩) n cap):=by
 refine .eG e n b t c o cap (λi=>if h':i<O b then(h i h').choose else undef) g (λi C=>?_) (λi C=>?_) E d f j
 .simp only[C,th];exact(h i C).choose_spec.1
 simp only[C,th];exact(h i C).choose_spec.2
def Jw(w:World)(X:Kx):∀(n:Nat),(∀(v:Value)(a:A),qa n v=Y a->eQ w X a v)/\
  (∀(l:L Value)(c:L A),qa.ofVals n l=Y c->fR w X c l):=by
 intro n;induction n with
 |zero=>
  refine⟨λv a h=>by simp[qa]at h,λl=>?_⟩;induction l with
  |nil=>intro c h;simp[qa.ofVals]at h;subst h;exact .nil
  |cons v l d=>intro c h;simp[qa.ofVals,qa]at h
 |succ n d=>
 have k:∀(v:Value)(a:A),qa (n+1) v=Y a->eQ w X a v:=by
  intro v a h;unfold qa at h;split at h
  .cases h;exact .bool _
  .cases h;exact .int _ _
  .cases h;exact .J _ _ Z
  .cases h;exact .gi
  .cases h;exact .ej
  .cases h;exact .ji
  .cases h;exact .gQ
  .cases h;exact .jc
  .rename_i f x y;split at h
   .rename_i K;cases h;simp at K;obtain⟨rfl,rfl⟩:=K;exact Vw
   cases h
  .rename_i m;simp at h;obtain⟨l,o,rfl⟩:=h;have:=An (d.2 _ _ o);simpa using this
  .rename_i m;simp at h;obtain⟨l,o,rfl⟩:=h;have:=sq (d.2 _ _ o);simpa using this
  cases h
 refine⟨k,λl=>?_⟩;induction l with
 |nil=>intro c h;simp[qa.ofVals]at h;subst h;exact .nil
 |cons v l g=>intro c h;simp only[qa.ofVals,fS,gA]at h;obtain⟨a,p,b,j,rfl⟩:=h;exact .cons (k _ _ p) (g _ j)
def kA(w:World)(X:Kx)(F:T A)(b:Array Value):Prop:=
 ∀t v,F.dZ (S.ofNat t)=Y v->∃x,b[t]? =Y x/\eQ w X v x
def kA.mono{B:Nat->Prop}{w P:World}{X p:Kx}(E:fL B w X P p){F:T A}(h:kA w X F b):kA P p F b:=
 λt v c=>let⟨x,d,n⟩:=h t v c;⟨x,d,n.mono E⟩
def kA.put{w:World}{X:Kx}{F:T A}(h:kA w X F f)(d:Nat){v:A}{x:Value}(i:(F.dZ (S.ofNat d)).isSome=dT)(j:eQ w X v x):
  kA w X (F.set (S.ofNat d) (Y v)) (f.setIfInBounds d x):=by
 intro t u Q;simp only[T.jr]at Q;split at Q
 .rename_i e;have e:=S.Jg e;subst e;cases Q;obtain⟨y,l⟩:=oW.1 i;obtain⟨z,c,_⟩:=h t y l;have b:=qJ c;exact⟨x,by simp[b],j⟩
 rename_i e;obtain⟨z,c,n⟩:=h t u Q;have g:d≠t:=λk=>e (by rw[k]);refine⟨z,?_,n⟩;rw[Array.getElem?_setIfInBounds_ne g];exact c
section
variable{B:Nat→Prop}{G:ez}{H:eM}{w:World}{X:Kx}{F:T A}{a:Act}
def jU(r:fJ B G H w X)(q:kA w X F a.tmps){x:Operand}{o:IX}{v:A}(K:iO x=Y o)(d:o.ev G F=Y v):eQ w X v (a.eval x):=by
 cases x with
 |tmp t=>
  simp[iO]at K;subst K;obtain⟨y,k,n⟩:=q t v d;have:a.eval (.tmp t)=y:=by simp[Act.eval,Array.getD,qJ k];have:=sg (qJ k);rw[this]at k;exact gu k
  rw[this];exact n
 |const c=>simp[iO]at K;obtain⟨b,j,rfl⟩:=K;simp[IX.ev]at d;subst d;exact(Jw w X 8).1 _ _ j
 |global g=>simp[iO]at K;subst K;simp[IX.ev]at d;obtain⟨p,m,rfl⟩:=d;exact r.gX.gX g p m
 |func f=>simp[iO]at K;subst K;simp[IX.ev]at d;subst d;exact Vw
def CK(h:fJ B G H w X)(g:kA w X F a.tmps){s:L Operand}(K:xZ s=Y b)(c:ko G F b=Y f):
  fR w X f (s.map a.eval):=by
 induction s generalizing b f with
 |nil=>simp[xZ]at K;subst K;simp[ko]at c;subst c;exact .nil
 |cons x l j=>simp only[xZ,fS,gA]at K;obtain⟨i,C,D,d,rfl⟩:=K;simp only[ko,fS,gA]at c;obtain⟨v,c,P,e,rfl⟩:=c;exact .cons (jU h g C c) (j d e)
end
def pM(w:World)(X:Kx)(b:L A)(c o:Nat):Prop:=∀i (h:i<O b),∃v,w.cell? ⟨c,o+i,J⟩=Y v/\eQ w X b[i] v
def ks{Q:Type}{b:Bool}{x:Option Q}{y:Q}:(cond b x J)=Y y↔b=dT/\x=Y y:=by cases b<;>simp
def Jx{b n:Nat}{c l:L A}(h:cut b n c=Y l):l=(c.drop b).take n/\O l=n:=by unfold As.cut at h;obtain⟨K,r⟩:=ks.1 h;have r:=(gu r).symm;exact⟨r,by rw[r];exact iZ K⟩
def pM.cut{w:World}{X:Kx}{c o b n:Nat}(h:pM w X d c o)(e:cut b n d=Y l):pM w X l c (o+b)/\O l=n:=by
 obtain⟨rfl,hlen⟩:=Jx e;refine⟨λi C=>?_,hlen⟩;have r:b+i<O d:=by simp at C;omega
 obtain⟨v,g,f⟩:=h (b+i) r;exact⟨v,by rw[show o+b+i=o+(b+i) by omega];exact g,by simpa using f⟩
def pM.mono{B:Nat->Prop}{w P:World}{X p:Kx}(E:fL B w X P p){c o:Nat}(h:pM w X b c o)(e:o+O b<=X.U c):pM P p b c o:=
 λi C=>let⟨v,d,n⟩:=h i C;⟨v,(E.fF c (o+i) M).trans d,n.mono E⟩
def pN(c o k n:Nat)(s:Option Nat)(h:n=o+k)(r:k=0->s=J):({block:=c,off:=o,spot:=s}:Addr).add k=⟨c,n,J⟩:=by
 unfold Addr.add;split
 .rename_i e;subst e;simp[h,r Z]
 simp[h]
def WE{P:Program}{w:World}{X:Kx}{c o:Nat}{s:Option Nat}(r:s=J):∀(n i:Nat)(b:Array Value)(d:L A),O d=i+n->pM w X d c o->
  ∃f:L Value,(loadCellsFrom ⟨c,o,s⟩ i n b).run P w=.ok (b++f.toArray) w/\fR w X (d.drop i) f:=by
 intro n;induction n with
 |zero=>intro i b d g K;refine⟨[],by simp[loadCellsFrom],?_⟩;rw[List.drop_eq_nil_of_le M];exact .nil
 |succ n k=>
 intro i b d g K;obtain⟨v,j,h⟩:=K i M;obtain⟨f,y,e⟩:=k (i+1) (b.push v) d M K;refine⟨v::f,?_,?_⟩
 .subst r;simp only[loadCellsFrom,gb,pN c o i (o+i) J Z mJ,run_load,j,iV,y];simp
 rw[EI M];exact .cons h e
def WF{P:Program}{w:World}{X:Kx}{c o:Nat}(e:pM w X b c o):
  ∃d:L Value,(loadCells ⟨c,o,J⟩ (O b)).run P w=.ok d.toArray w/\fR w X b d:=by
 obtain⟨d,K,r⟩:=WE (P:=P) Z (O b) 0 #[] b M e;exact⟨d,by simpa[loadCells]using K,by simpa using r⟩
def Ff{P:Program}{t:TypeId}(h:wt P t=Y b)(w:World):(isAgg t).run P w=.ok b w:=by
 unfold wt at h;simp only[isAgg,underlying,gb,run_program,iV];cases hu:P.underlying t with
 |none=>simp[hu]at h
 |some d=>simp only[jR,iV];cases d<;>simp_all
def su{P:Program}{t:TypeId}{i:TypeInfo}(h:P.info? t=Y i)(w:World):(typeInfo t).run P w=.ok i w:=by simp only[typeInfo,gb,run_program,iV,h,jR]
def lI{P:Program}{t:TypeId}{n:Nat}(h:nD P t=Y n)(w:World):(sizeOf t).run P w=.ok n w:=by unfold nD at h;simp only[gA]at h;obtain⟨i,C,rfl⟩:=h;simp only[sizeOf,gb,su C,iV,jR]
def iB{P:Program}{t:TypeId}(h:P.underlying t=Y d)(w:World):(underlying t).run P w=.ok d w:=by simp only[underlying,gb,run_program,iV,h,jR]
def rv{P:Program}{t:TypeId}{n:Nat}(h:nQ P t=Y n):nD P t=Y n/\0<n:=by
 unfold nQ at h;simp only[fS]at h
 let⟨m,f,h⟩:=h
 split at h
 .cases h
 cases h;exact⟨f,M⟩
def Aq{P:Program}{t:TypeId}(h:qb P t=Y z)(w:World):∃v,(zeroValue t).run P w=.ok v w/\∀X,eQ w X z v:=by
 unfold qb at h;simp only[fS]at h
 let⟨v,⟨i,C,c⟩,b⟩:=h
 exact⟨v,by simp only[zeroValue,gb,su C,iV,c,jR],λX=>(Jw w X 8).1 _ _ b⟩
def N2{P:Program}{w:World}{X:Kx}{c o d:Nat}{p:L A}{t:TypeId}{n:Option Nat}{v:A}(E:uN P t=Y n)(K:pM w X p c o)(e:part d n p=Y v):
  ∃x,(loadVar t ⟨c,o+d,J⟩).run P w=.ok x w/\eQ w X v x:=by
 unfold uN at E;simp only[fS]at E
 let⟨b,j,E⟩:=E
 simp only[loadVar,gb,Ff j,iV];cases b
 .cases E;simp only[part]at e;obtain⟨i,e⟩:=oY.1 e;obtain⟨x,s,r⟩:=K d i;exact⟨x,by simp[s],e▸r⟩
 simp only[gA]at E;obtain⟨m,f,rfl⟩:=E;simp only[part,gA]at e;obtain⟨l,q,rfl⟩:=e;obtain⟨h,k⟩:=K.cut q;obtain⟨u,y,g⟩:=WF (P:=P) h;rw[k]at y;refine⟨.agg u.toArray,?_,An g⟩;simp only[oH,gb,lI f,iV,y,jR]
def uU{w:World}{X:Kx}{v:A}{x:Value}(h:eQ w X v x):fR w X v.cells x.cells.toList:=by
 cases h with
 |agg b c K r=>exact Fc (.agg b c K r)
 | _=>exact .cons (by constructor<;>assumption) .nil
structure nS (c:Nat)(w w':World):Prop where
 os:w'.os=w.os
 tape:w'.tape=w.tape
 output:w'.output=w.output
 size:w'.heap.size=w.heap.size
 other:∀d,d≠c→w'.heap[d]? =w.heap[d]?
def nS.refl(c:Nat)(w:World):nS c w w:=⟨Z,Z,Z,Z,λ_ _=>Z⟩
def nS.trans{c:Nat}(h:nS c a b)(k:nS c b d):nS c a d:=
 ⟨k.os.trans h.os,k.tape.trans h.tape,k.output.trans h.output,k.size.trans h.size,λe F=>(k.other e F).trans (h.other e F)⟩
def nS.below{c:Nat}{w P:World}(h:nS c w P){B:Nat->Prop}(a:¬B c):tw B w P:=
 ⟨h.os,h.tape,h.output,Nat.le_of_eq h.size.symm,λk b=>h.other k (λe=>a (e▸b))⟩
def nS.cell{c:Nat}{w P:World}(h:nS c w P)(a:d≠c)(i:Nat):P.cell? ⟨d,i,J⟩=w.cell? ⟨d,i,J⟩:=by simp only[World.cell?,h.other d a]
def Jy{B:Nat->Prop}{w P:World}{f:Kx}{c:Nat}{eE a:Array Value}{e:TypeId}{fz b:Nat×Nat}(h:nS c w P)(g:¬B c)
  (K:w.heap[c]? =Y (.cells eE e fz))(r:P.heap[c]? =Y (.cells a e b))(k:eE.size<=a.size)(j:∀i,i<f.U c->a[i]? =eE[i]?):fL B w f P f:=by
 refine⟨h.below g,λ_ _ h=>h,λ_ _ h=>h,λ_=>fQ _,λd i C=>?_,λd i C=>?_,λ_ _=>Z,λ_ _ h=>h⟩
 .by_cases e:d=c
  .subst e;rw[mj K,mj r];exact j i C
  exact h.cell e i
 by_cases e:d=c
 .subst e;rw[mj K]at C;rw[mj r];have:i<eE.size:=by
   obtain n|n:=kG i eE.size
   .exact n
   simp[pF n]at C
  simp[lw this k]
 rw[h.cell e i];exact C
def N3{B:Nat->Prop}{P:Kx}{c:Nat}(h:nS c w a)(b:¬B c)(f:P.U c=0)(K:∀i,w.cell? ⟨c,i,J⟩=J):fL B w P a P:=by
 refine⟨h.below b,λ_ _ h=>h,λ_ _ h=>h,λ_=>fQ _,λd i C=>?_,λd i C=>?_,λ_ _=>Z,λ_ _ h=>h⟩
 .by_cases e:d=c
  .subst e;omega
  exact h.cell e i
 by_cases e:d=c
 .subst e;rw[K i]at C;cases C
 rw[h.cell e i];exact C
def WG{P:Program}{w:World}{c o:Nat}{eE:Array Value}{e:TypeId}{fz:Nat×Nat}{v:Value}(h:w.heap[c]? =Y (.cells eE e fz))(g:CF eE.size fz)(j:o<eE.size)
  (k:v.oneCell'=dT):∃i,(store ⟨c,o,J⟩ v).run P w=.ok () i/\nS c w i/\i.heap[c]? =Y (.cells (eE.setIfInBounds o v) e fz):=by
 have b:w.cell? ⟨c,o,J⟩=Y eE[o]:=by rw[mj h];simp[j]
 have f:w.frozen? ⟨c,o,J⟩=dU:=by
  simp only[World.frozen?,h];have:=g o j;cases a:(decide (fz.1<=o)&&decide (o<fz.2))
  .rfl
  simp at a;exact absurd a this
 refine⟨w.setCell ⟨c,o,J⟩ v,?_,⟨Z,Z,Z,ei,λd a=>?_⟩,?_⟩
 .rw[run_store P w _ _ _ k,b];simp[f]
 .simp only[World.setCell,Ci];rw[gj (λe=>a e.symm)]
 simp only[World.setCell,Ci,oH,h];rfl
def N4(eE:Array Value)(o:Nat)(v:Value)(w:o<eE.size):(eE.setIfInBounds o v).toList=eE.toList.take o++[v]++eE.toList.drop (o+1):=by rw[Array.toList_setIfInBounds,List.set_eq_take_append_cons_drop];simp[w]
def N5{P:Program}{c o:Nat}{e:TypeId}{fz:Nat×Nat}:∀(d:L Value)(i:Nat)(w:World)(eE:Array Value),w.heap[c]? =Y (.cells eE e fz)->CF eE.size fz->o+i+O d<=eE.size->
  (∀v∈d,v.oneCell'=dT)->
  ∃j b,(storeCells ⟨c,o,J⟩ d i).run P w=.ok () j/\nS c w j/\j.heap[c]? =Y (.cells b e fz)/\
   b.toList=eE.toList.take (o+i)++d++eE.toList.drop (o+i+O d):=by
 intro d;induction d with
 |nil=>intro i w eE h g l a;exact⟨w,eE,by simp[storeCells],nS.refl _ _,h,ei⟩
 |cons v d n=>
 intro i w eE h g l a;simp only[lV]at l;obtain⟨B,K,r,m⟩:=WG (P:=P) (o:=o+i) h g M (a v ei);obtain⟨t,f,W,p,q,s⟩:=n (i+1) B (eE.setIfInBounds (o+i) v) m HY lW (λu Q=>a u (by simp[Q]));refine⟨t,f,?_,r.trans p,q,?_⟩
 .simp only[storeCells,gb,pN c o i (o+i) J Z mJ,K,iV,W]
 rw[s,N4 eE (o+i) v M];have k:O (eE.toList.take (o+i)++[v])=o+(i+1):=by simp;omega
 rw[List.take_append_of_le_length M,oG M];rw[List.drop_append,List.drop_eq_nil_of_le (as:=eE.toList.take (o+i)++[v]) M,k];simp only[uz,List.drop_drop,np,MK,lV];congr 3;omega
def WH{P:Kx}{x:Value}(h:eQ w P v x)(a:mT v=dT):x.oneCell'=dT:=by cases h<;>first|rfl|(simp[mT]at a)
def Fg{P:Kx}:∀{l:L A}{s:L Value},fR w P l s->fN l=dT->∀x∈s,x.oneCell'=dT:=by
 intro l;induction l with
 |nil=>intro s h _ x b;rw[h.lZ]at b;cases b
 |cons v l i=>
 intro s h K x b;obtain⟨y,C,rfl,hr,ht⟩:=h.Q;unfold fN at K;obtain⟨a,j⟩:mT v=dT/\fN l=dT:=by cases hv:mT v<;>simp_all
 obtain rfl|b:=eZ.1 b
 .exact WH hr a
 exact i ht j x b
def Jz{ew w x:L A}(h:o4 b ew w=Y x):b+O ew<=O w/\x=w.take b++ew++w.drop (b+O ew):=by unfold o4 at h;obtain⟨K,r⟩:=ks.1 h;exact⟨zQ K,(gu r).symm⟩
def JA{P:Kx}{eE:Array Value}(m:O a<=eE.size):(∀i (h:i<O a),eQ w P a[i] (eE.getD i undef))↔fR w P a (eE.toList.take (O a)):=by
 constructor
 .intro h;refine⟨by simp;omega,λi K r=>?_⟩;have:=h i K;have C:i<eE.size:=M
  simpa[Array.getD,C]using this
 intro h i K;have:=h.2 i K lW;have C:i<eE.size:=M
 simpa[Array.getD,C]using this
def N6{P:Program}{B:Nat->Prop}(h:fJ B G H w f){p:S}{a x ew:L A}{n:L Value}
  (hp:H.ep.dZ p=Y (.dY a))(r:o4 b ew a=Y x)(u:fR w f ew n)(N:fN ew=dT):
  ∃c q,f.ρ p=Y c/\(storeCells ⟨c,b,J⟩ n).run P w=.ok () q/\fL B w f q f/\fJ B G {H with ep:=H.ep.set p (Y (.dY x))} q f:=by
 obtain⟨c,K,Q,⟨eE,e,fz,z,t,m,g⟩,_,D⟩:=h.obj p _ hp;have D:=D ei;obtain⟨hl,rfl⟩:=Jz r;have k:=u.1;obtain⟨q,j,U,F,I,v⟩:=N5 (P:=P) (o:=b) n 0 w eE z (λi _=>M) M (Fg u N);simp only[zu]at v;have C:j.size=eE.size:=by have:=fW O v;simp at this;omega
 have E:fL B w f q f:=Jy F Q z I M (λi W=>M);have s:O (a.take b++ew++a.drop (b+O ew))=O a:=by simp;omega
 have R:kR G q f (.dY (a.take b++ew++a.drop (b+O ew))) c:=by
  refine⟨j,e,fz,I,t,by rw[s];omega,?_⟩;rw[JA (by rw[s];omega)];rw[s,v];have y:=(JA m).1 g;have d:(eE.toList.take b++n++eE.toList.drop (b+O n)).take (O a)=(eE.toList.take (O a)).take b++n++(eE.toList.take (O a)).drop (b+O n):=by rw[List.take_append,List.take_append];simp only[uw,iN,tu];rw[oG (l:=List.take b eE.toList) (by simp;omega),oG (l:=n) M];rw[List.take_take,Nat.min_eq_left (by omega:b<=O a),List.drop_take];congr 2;omega
  rw[d,<-k];exact(((y.take b).append u).append (y.drop _)).mono E
 exact⟨c,q,K,U,E,h.put E hp K F.other R ei ei⟩
def N7:Next->Option Value
 |.value v=>Y v
 |.skip=>Y undef
 | _=>J
def Fh(B:Nat->Prop)(G:ez)(w:World)(X:Kx)(r:Result Next)(v:A)(D:eM):Prop:=
 ∃nx c b p,r=.ok nx b/\N7 nx=Y c/\fL B w X b p/\fJ B G D b p/\eQ b p v c
def CM(p:S):NK->A
 |.ea=>.ea p 0
 |.slice sz n=>.eC p sz 0 n n dT
 |.map=>.map p
def ye(k:Option S)(m:T AO):T AO:=
 match k with
 |none=>m
 |some p=>m.set p J
def iD.state(H:eM):iD->Option (A×eM)
 |.val v=>Y (v,H)
 |.ew o k=>Y (CM H.dX k,{ep:=H.ep.set H.dX (Y o),dX:=H.dX.succ})
 |.put p o v=>Y (v,{H with ep:=H.ep.set p (Y o)})
 |.lH k sz n cs=>Y (.eG sz n cs (.open H.dX),{ep:=(ye k H.ep).set H.dX (Y .eY),dX:=H.dX.succ})
 |.oK k sz n cs=>Y (.eC H.dX sz 0 n n dU,{ep:=(ye k H.ep).set H.dX (Y (.dY cs)),dX:=H.dX.succ})
 | _=>J
def iJ(P:Program)(B:Nat->Prop)(G:ez)(H:eM)(w:World)(X:Kx)(r:Result Next)(e:iD):Prop:=
 match e with
 |.call f args=>∃s:Array Value,r=(callFunc f s).run P w/\fR w X args s.toList
 |.yield l args=>∃b,∃s:Array Value,X.ρ l=Y b/\r=(Instr.yield b s).run P w/\fR w X args s.toList
 |.any l p=>∃o v,(o,v)∈l/\Fh B G w X r v {H with ep:=H.ep.set p (Y o)}
 |.ew o k=>∀(n nx:S),Ad H X n->(∀q:S,nx.dV<=q.dV->H.dX.dV<=q.dV/\q≠n)->Fh B G w X r (CM n k) {ep:=H.ep.set n (Y o),dX:=nx}
 |e=>∃v D,e.state H=Y (v,D)/\Fh B G w X r v D
section
variable{P:Program}{B:Nat→Prop}{G:ez}{H:eM}{w:World}{X:Kx}{F:T A}{a:Act}
def tI(K:fJ B G H w X){c:Value}(h:eQ w X v c):iJ P B G H w X (.ok (.value c) w) (.val v):=
 ⟨v,H,Z,.value c,c,w,X,Z,Z,fL.refl _ _ _,K,h⟩
def WI{k:IntKind}{n:Int}(h:tB k n=dT):k.wrap n=n:=by
 cases n with
 |ofNat m=>
  rw[xH];cases k<;>simp only[tB,wn]at h<;>have:=zQ h
  .exact IntWalk.i8_in _ ⟨M,M⟩
  .exact IntWalk.i16_in _ ⟨M,M⟩
  .exact IntWalk.i32_in _ ⟨M,M⟩
  .exact IntWalk.i64_in _ ⟨M,M⟩
  .exact IntWalk.u8_in _ ⟨M,M⟩
  .exact IntWalk.u16_in _ ⟨M,M⟩
  .exact IntWalk.u32_in _ ⟨M,M⟩
  exact IntWalk.u64_in _ ⟨M,M⟩
 |negSucc m=>
 rw[Int.negSucc_eq];cases k<;>simp only[tB,Jj]at h<;>have:=zQ h
 .exact IntWalk.i8_in _ ⟨M,M⟩
 .exact IntWalk.i16_in _ ⟨M,M⟩
 .exact IntWalk.i32_in _ ⟨M,M⟩
 .exact IntWalk.i64_in _ ⟨M,M⟩
 all_goals omega
def Ar(k:IntKind)(n:Int):jN k n=k.wrap n:=by
 unfold jN;cases h:tB k n
 .rfl
 exact(WI h).symm
def lm(a b:Nat):Nat.blt a b=decide (a<b):=by
 cases h:Nat.blt a b
 .have:¬a+1<=b:=λe=>by have r:=Nat.ble_eq_true_of_le e;unfold Nat.blt at h;simp only[Nat.succ_eq_add_one]at h;rw[r]at h;cases h
  simp;omega
 have:=zQ h;simp;omega
def beq_eq(a b:Nat):Nat.beq a b=decide (a=b):=by
 cases h:Nat.beq a b
 .have:=Nat.ne_of_beq_eq_false h;simp[this]
 have:=iZ h;simp[this]
def ble_eq(a b:Nat):Nat.ble a b=decide (a<=b):=by
 cases h:Nat.ble a b
 .have:¬a<=b:=λe=>by rw[Nat.ble_eq_true_of_le e]at h;cases h
  simp[this]
 have:=zQ h;simp[this]
def CN(a b:Int):lh a b=decide (a<b):=by
 cases a<;>cases b<;>simp only[lh,lm,xH,Int.negSucc_eq]<;>first
  |(congr 1;apply propext;omega)
  |(symm;simp;omega)
def Au(a b:Int):gD a b=(a==b):=by cases a<;>cases b<;>simp only[gD,beq_eq,xH,Int.negSucc_eq]<;>(rw[wi];simp;try omega)
def Av{k m:IntKind}(h:xW k m=dT):k=m:=by cases k<;>cases m<;>first|rfl|cases h
def uV(a b:L Nat):iT a b=decide (a=b):=by
 induction a generalizing b with
 |nil=>cases b<;>simp[iT]
 |cons x a i=>
 cases b with
 |nil=>simp[iT]
 |cons y b=>simp only[iT,i,beq_eq];by_cases h:x=y<;>simp[h]
def Fi{a b:L UInt8}(h:a.map UInt8.toNat=b.map UInt8.toNat):a=b:=
 (List.map_inj_right (λ_ _ e=>UInt8.toNat_inj.1 e)).1 h
def WJ{a b:ByteArray}(h:a.data.toList=b.data.toList):a=b:=by cases a;cases b;rename_i x y;cases x;cases y;simpa using h
def JB(a b:ByteArray):(a==b)=decide (a.data.toList=b.data.toList):=by
 cases a with|mk x=>cases b with|mk y=>
 show(x==y)= _;rw[wi];simp
def Fj(b:ByteArray):b.toList=b.data.toList:=by exact ByteArray.toList_eq b
def N8{eE:Array Value}{e:TypeId}{fz:Nat×Nat}{c o:Nat}(h:w.heap[c]? =Y (.cells eE e fz))(g:fz.2<=fz.1):w.frozen? ⟨c,o,J⟩=dU:=by
 simp only[World.frozen?,h];cases b:(decide (fz.1<=o)&&decide (o<fz.2))
 .rfl
 simp at b;omega
def N9{eE:Array Value}{e:TypeId}{fz:Nat×Nat}{c:Nat}(h:w.heap[c]? =Y (.cells eE e fz)):(viewAt c).run P w=.ok J w:=by simp[viewAt,World.shape?,h]
def Ob{eE:Array Value}{e:TypeId}{fz:Nat×Nat}{c o:Nat}(h:w.heap[c]? =Y (.cells eE e fz))(g:fz.2<=fz.1):(stringish ⟨c,o,J⟩).run P w=.ok dU w:=by simp[stringish,N8 h g,World.shape?,h]
def Oc{c d o r:Nat}{eE f:Array Value}{e k:TypeId}{fz b:Nat×Nat}(i:c≠d)(h:w.heap[c]? =Y (.cells eE e fz))(g:fz.2<=fz.1)
  (n:w.heap[d]? =Y (.cells f k b))(l:b.2<=b.1):(sameAddr ⟨c,o,J⟩ ⟨d,r,J⟩).run P w=.ok dU w:=by
 have j:(c==d)=dU:=by simpa using i
 simp[sameAddr,j,N8 h g,noView,N9 h,N9 n,mayBeOne,Ob h g,Ob n l,World.shape?,n]
def mA(p q:S):jT p q=decide (p=q):=by
 induction p generalizing q with
 |h=>cases q<;>simp[jT]
 |o p b=>cases q<;>simp[jT,b]
 |i p b=>cases q<;>simp[jT,b]
def CO{t:TypeId}(h:mV P t=Y .int):∃k,P.underlying t=Y (.int k):=zK
def CP{t:TypeId}(h:mV P t=Y .bool):P.underlying t=Y .bool:=zK
def CQ{t:TypeId}(h:mV P t=Y .J):P.underlying t=Y .string:=zK
def Aw{t:TypeId}(h:mV P t=Y .ea):∃e n,P.underlying t=Y (.pointer e)/\nD P e=Y n/\0<n:=by
 unfold mV at h;split at h<;>simp_all;rename_i e _
 let⟨n,E⟩:=h
 exact⟨n,rv E⟩
def JC{t:TypeId}(h:mV P t=Y .iface):∃z,P.underlying t=Y (.interface z):=zK
def WK{t:TypeId}(h:mV P t=Y .sl):∃e,P.underlying t=Y (.slice e):=zK
def WL{t:TypeId}(h:mV P t=Y .map):∃k e,P.underlying t=Y (.map k e):=zK
def WM{t:TypeId}(h:mV P t=Y .fn):∃p r v,P.underlying t=Y (.func p r v):=zK
def Fk(K:fJ B G H w X){t:TypeId}{k:EK}{lit r:Bool}{x y:A}{a b:Value}(d:Nat)(g:mV P t=Y k)(i:eQ w X x a)(j:eQ w X y b)
  (h:jj G H lit k x y=Y r):(Op.equalIn (d+1) t a b).run P w=.ok r w:=by
 unfold jj at h;split at h
 .obtain⟨kk,Q⟩:=CO g;obtain⟨h1,h2⟩:=ks.1 h;cases Av h1;cases i;cases j;cases h2;simp[Op.equalIn,iB Q,Au]
 .have Q:=CP g;cases i;cases j;cases h;rename_i a b;cases a<;>cases b<;>simp[Op.equalIn,iB Q]
 .have Q:=CQ g;obtain⟨b1,rfl,U⟩:=mn i;obtain⟨b2,rfl,W⟩:=mn j;cases h;simp only[Op.equalIn,gb,iB Q,iV,jR];congr 1;rw[uV,JB,<-U,<-W,wi];simp only[oh];exact⟨λh=>by rw[h],λh=>Fi h⟩
 .exact zy
 .exact zy
 .exact zy
 .exact zy
 .exact zy
 .exact zy
 .exact zy
 .obtain⟨e,n,Q,E,h0⟩:=Aw g;rename_i p o1 q o2;obtain⟨c,rfl,hc⟩:=uS i;obtain⟨o,rfl,hc'⟩:=uS j;have l:n≠0:=M
  simp only[Op.equalIn,gb,iB Q,iV,lI E,l,ne_eq,wm,oH];cases f:jT p q
  .rw[f]at h;simp only[jx]at h;split at h
   .rename_i cs R hp D;cases h;rw[mA]at f;have f:=Eo f;obtain⟨N,z,_,⟨eE,U,fz,k1,k2⟩,_⟩:=K.gX.fU p _ hp;obtain⟨I,C,_,⟨u,W,fz',m,s⟩,_⟩:=K.gX.fU q _ D;obtain rfl:N=c:=gu (z.symm.trans hc);obtain rfl:I=o:=gu (C.symm.trans hc');exact Oc (λe=>f (K.gX.inj p q _ _ N hp D z (e▸C))) k1 k2 m s
   cases h
  exact Wb
 .obtain⟨e,n,Q,E,h0⟩:=Aw g;rename_i p o1 q o2;obtain⟨c,rfl,hc⟩:=o7 i;obtain⟨o,rfl,hc'⟩:=o7 j;have l:n≠0:=M
  simp only[Op.equalIn,gb,iB Q,iV,lI E,l,ne_eq,wm,oH];cases f:jT p q
  .rw[f]at h;simp only[jx]at h;split at h
   .rename_i cs R hp D;cases h;rw[mA]at f;have f:=Eo f;obtain⟨N,z,_,⟨eE,U,fz,k1,k2,_⟩,_⟩:=K.obj p _ hp;obtain⟨I,C,_,⟨u,W,fz',m,s,_⟩,_⟩:=K.obj q _ D;obtain rfl:N=c:=gu (z.symm.trans hc);obtain rfl:I=o:=gu (C.symm.trans hc');exact Oc (λe=>f (K.inj p q _ _ N hp D z (e▸C))) k1 k2 m s
   cases h
  exact Wb
 .obtain⟨ms,Q⟩:=JC g;cases i;cases j;obtain⟨h1,h2⟩:=ks.1 h;cases h2;simp[Op.equalIn,iB Q]
 .obtain⟨ms,Q⟩:=JC g;exact Ew
 .obtain⟨ms,Q⟩:=JC g;exact Ew
 .exact EN
 .exact EN
 .exact EN
 .exact EN
 .exact EN
 .exact NL
 .exact NL
 .exact NL
 .exact EM
 .exact EM
 .exact EM
 .exact EM
 .exact EM
 cases h
end
section
variable{P:Program}{B:Nat→Prop}{G:ez}{H:eM}{w:World}{X:Kx}{F:T A}{a:Act}
def WN{op:BinOp}{k yk:IntKind}{x y:Int}(h:xX op k x y=Y r):∃c,(Op.shift op k x yk y).run P w=.ok c w/\eQ w X r c:=by
 unfold xX at h;cases y with
 |negSucc m=>cases h
 |ofNat m=>
 have b:¬(Int.ofNat m<0):=ei
 have E:(cond (Nat.ble m k.bits) m k.bits)=min m k.bits:=by
  rw[ble_eq];by_cases e:m<=k.bits
  .simp[e]
  simp[e];omega
 simp only[E]at h;cases op<;>simp at h
 .subst h;refine⟨_,by simp only[Op.shift,b,r7];rfl,?_⟩;rw[Ar];exact .int _ _
 subst h;refine⟨_,by simp only[Op.shift,b,r7];rfl,?_⟩;unfold NW;have:(Int.ofNat (Nat.pow 2 (min m k.bits)))=(2:Int)^(min (Int.toNat (Int.ofNat m)) k.bits):=by show((2^(min m k.bits):Nat):Int)= _;rw[Int.natCast_pow];rfl
 rw[this];exact .int _ _
def WO{op:BinOp}{t:TypeId}{k:IntKind}{x y:Int}{r:A}(h:sn op k x y=Y r):∃c,(binOp op t (.int k x) (.int k y)).run P w=.ok c w/\eQ w X r c:=by
 cases op with
 |add|sub|mul=>cases h;exact⟨_,by simp[binOp,Op.intArith];rfl,by rw[Ar];exact .int _ _⟩
 |and|or|xor|andNot=>cases h;exact⟨_,by simp[binOp,Op.intBits],.int _ _⟩
 |lss=>cases h;exact⟨_,by simp[binOp,Op.intCmp];rfl,by rw[CN];exact .bool _⟩
 |gtr=>cases h;exact⟨_,by simp[binOp,Op.intCmp];rfl,by rw[CN];exact .bool _⟩
 |leq=>cases h;refine⟨.bool (decide (x<=y)),by simp[binOp,Op.intCmp],?_⟩;rw[CN,show(!decide (y<x))=decide (x<=y) by rw[wi];simp];exact .bool _
 |geq=>cases h;refine⟨.bool (decide (y<=x)),by simp[binOp,Op.intCmp],?_⟩;rw[CN,show(!decide (x<y))=decide (y<=x) by rw[wi];simp];exact .bool _
 |eql=>cases h;exact⟨_,by simp[binOp,Op.intCmp];rfl,by rw[Au];exact .bool _⟩
 |neq=>cases h;exact⟨_,by simp[binOp,Op.intCmp];rfl,by rw[Au];exact .bool _⟩
 |quo|rem=>
  simp only[sn]at h;cases hy:gD y 0
  .rw[hy]at h;cases h;rw[Au]at hy;have hy:y≠0:=by simpa using hy
   refine⟨_,by simp[binOp,Op.intDiv,hy];rfl,?_⟩;first|exact .int _ _ |(rw[Ar];exact .int _ _)
  rw[hy]at h;cases h
 |shl|shr=>cases h
def WP(a b:L UInt8):si (a.map UInt8.toNat) (b.map UInt8.toNat)=Op.bytesLess a b:=by
 induction a generalizing b with
 |nil=>cases b<;>simp[si,Op.bytesLess]
 |cons x a i=>
 cases b with
 |nil=>simp[si,Op.bytesLess]
 |cons y b=>
 simp only[jL,si,Op.bytesLess,i,lm,beq_eq];have K:decide (x.toNat<y.toNat)=decide (x<y):=by rw[wi];simp[UInt8.lt_iff_toNat_lt]
 have r:decide (x.toNat=y.toNat)=(x==y):=by rw[wi];simp[UInt8.toNat_inj]
 rw[K,r];cases decide (x<y)<;>cases(x==y)<;>simp
def Ax{s:L Nat}{b:ByteArray}(h:b.data.toList.map UInt8.toNat=s):b.size=O s:=by rw[<-h,jH];rfl
def WQ(a b:ByteArray):(a++b).data.toList.map UInt8.toNat=a.data.toList.map UInt8.toNat++b.data.toList.map UInt8.toNat:=by rw[ByteArray.data_append,Array.toList_append,oj]
def WR{op:BinOp}{t:TypeId}{x y:L Nat}{a b:ByteArray}(v:a.data.toList.map UInt8.toNat=x)(e:b.data.toList.map UInt8.toNat=y)(h:E9 op x y=Y r):
  ∃c,(binOp op t (.string a) (.string b)).run P w=.ok c w/\eQ w X r c:=by
 have d:iT x y=(a.toList==b.toList):=by rw[uV,Fj,Fj,<-v,<-e,wi];simp only[oh,beq_iff_eq];exact⟨Fi,λh=>by rw[h]⟩
 have o:si x y=Op.bytesLess a.toList b.toList:=by rw[Fj,Fj,<-v,<-e,WP]
 cases op with
 |add=>
  simp only[E9]at h;obtain⟨K,g⟩:=ks.1 h;cases g;rw[lm]at K;have K:=j0 K;rw[<-Ax v,<-Ax e]at K;have f:¬(IntKind.max .i64<((a.size+b.size:Nat):Int)):=by
   have:IntKind.max .i64=9223372036854775807:=by decide
   rw[this];omega
  refine⟨.string (a++b),?_,.J _ _ (by rw[WQ,v,e])⟩;simp only[binOp,Op.stringOp];rw[gj f];rfl
 |eql=>cases h;exact Tb
 |neq=>cases h;exact Tb
 |lss=>cases h;exact We
 |leq=>cases h;exact⟨.bool (Op.bytesLess a.toList b.toList||(a.toList==b.toList)),by simp[binOp,Op.stringOp],by rw[o,d];exact .bool _⟩
 |gtr=>cases h;exact⟨.bool (!(Op.bytesLess a.toList b.toList||(a.toList==b.toList))),by simp[binOp,Op.stringOp],by rw[o,d];exact .bool _⟩
 |geq=>cases h;exact We
 | _=>cases h
def Od{α β:Type}(l:List α)(b:β)(f:α->β->Sem (ForInStep β))(x:α):
  (forIn (x::l) b f:Sem β).run P w=((f x b).run P w).andThen λr w'=>match r with
   |.done b=>.ok b w'
   |.yield b=>(forIn l b f:Sem β).run P w':=by
 simp only[List.forIn_cons,gb];congr 1;funext r w';cases r<;>rfl
def Oe{t:TypeId}{k:EK}(h:wu P t=Y k):mV P t=Y k/\wt P t=Y dU:=by
 unfold wu at h;split at h<;>cases h<;>rename_i b
 .obtain⟨k,Q⟩:=CO b;exact Im
 .have Q:=CP b;exact Im
 .have Q:=CQ b;exact Im
 obtain⟨e,n,Q,_⟩:=Aw b;exact Im
def Fm{t:TypeId}(h:wt P t=Y dU){g:L A}{f:Array Value}{o:Nat}(e:fR w X g f.toList)(c:g[o]? =Y z):
  ∃v,(Go.part t f o).run P w=.ok v w/\eQ w X z v:=by
 obtain⟨b,c⟩:=oY.1 c;have d:o<f.size:=by have:=e.1;simp at this;omega
 refine⟨f[o],?_,?_⟩
 .simp[Go.part,Ff h,d]
 have:=e.2 o b zZ;rw[c]at this;simpa using this
def WS(D:fJ B G H w X)(d:Nat){t:TypeId}{k:EK}{sz:Nat}(I:wu P t=Y k){s q:L A}{vs us:Array Value}(R:fR w X s vs.toList)(U:fR w X q us.toList):
  ∀(n i:Nat)(r:Bool),lF G H s q (ru k sz (i*sz) n)=Y r->
   ∀(f:L Nat->Sem Bool),((f []).run P w=.ok dT w)->(∀j C v u b,(Go.part t vs (j*sz)).run P w=.ok v w->(Go.part t us (j*sz)).run P w=.ok u w->
    (Op.equalIn (d+1) t v u).run P w=.ok b w->(f (j::C)).run P w=if b then(f C).run P w else .ok dU w)->(f (List.range' i n)).run P w=.ok r w:=by
 obtain⟨g,e⟩:=Oe I;intro n;induction n with
 |zero=>intro i r h f c _;simp[ru,lF]at h;subst h;exact c
 |succ n W=>
 intro i r h f c K;simp only[ru,lF]at h;split at h
 .rename_i x y p z;simp only[fS]at h
  let⟨b,E,h⟩:=h
  obtain⟨v,N,o⟩:=Fm (P:=P) e R p;obtain⟨u,Q,m⟩:=Fm (P:=P) e U z;have l:=Fk D d g o m E;rw[List.range'_succ,K i _ v u b N Q l];cases b
  .simp only[jx]at h;cases h;simp
  simp only[gZ]at h;rw[gO Z];rw[show i*sz+sz=(i+1)*sz by rw[mK,Nat.one_mul]]at h;exact W (i+1) r h f c K
 cases h
def Of(hH:fJ B G H w X)(d:Nat){t e:TypeId}{k:EK}{n sz:Nat}(hu:P.underlying t=Y (.array n e))(he:wu P e=Y k)(hsz:nD P e=Y sz){xs ys:List A}{vs us:List Value}{r:Bool}
  (h:lF G H xs ys (ru k sz 0 n)=Y r)(hx:fR w X xs vs)(hy:fR w X ys us):(Op.equalIn (d+2) t (.agg vs.toArray) (.agg us.toArray)).run P w=.ok r w:=by
 rw[Op.equalIn];simp only[gb,iB hu,iV,lI hsz];have:=WS (P:=P) (vs:=vs.toArray) (us:=us.toArray) (sz:=sz) hH d he (by simpa using hx) (by simpa using hy) n 0 r (by simpa using h)
  (λl=>(do
   for i in l do
    if !(<-Op.equalIn (d+1) e (<-Go.part e vs.toArray (i*sz)) (<-Go.part e us.toArray (i*sz)))then return dU
   pure dT:Sem Bool)) (by simp) (λj js v u b hv hu' he'=>by simp only[gb,Od,hv,hu',he',iV];cases b<;>simp)
 rw[Std.Legacy.Range.forIn_eq_forIn_range'];simp only[gb,Std.Legacy.Range.size,Nat.sub_zero,Nat.add_sub_cancel,Nat.div_one]at this⊢;exact this
def WT{s q:L A}:∀{C v:L (Nat×EK)}{r:Bool},lF G H s q (C++v)=Y r->∃b,lF G H s q C=Y b/\(b=dT->lF G H s q v=Y r)/\(b=dU->r=dU):=by
 intro C;induction C with
 |nil=>intro v r h;exact⟨dT,Z,(λ_=>h),λe=>by cases e⟩
 |cons p C i=>
 intro v r h
 let⟨o,k⟩:=p
 simp only[rW,lF]at h⊢;split at h
 .rename_i a b l j;simp only[fS]at h
  let⟨c,K,h⟩:=h
  cases c
  .cases h;exact⟨dU,by simp[K],py,λ_=>Z⟩
  obtain⟨d,f,g,m⟩:=i h;exact⟨d,by simp[K,f],g,m⟩
 cases h
def WU{k:EK}{o off:Nat}(c:0<o){xs ys:L A}{m:Nat}:∀{n i:Nat},(i+n)*o<=m->lF G H xs ys (ru k o (off+i*o) n)=lF G H ((xs.drop off).take m) ((ys.drop off).take m) (ru k o (i*o) n):=by
 intro n;induction n with
 |zero=>intro i _;rfl
 |succ n e=>
 intro i C;simp only[ru,lF];have b:i*o<m:=by
  have:(i+(n+1))*o=i*o+n*o+o:=by rw[mK,mK,Nat.one_mul];omega
  omega
 have g:∀d:L A,((d.drop off).take m)[i*o]? =d[off+i*o]? :=by intro d;rw[If,gO b,Em]
 rw[g,g];have:=e (i:=i+1) (by rw[show i+1+n=i+(n+1) by omega];exact C);rw[show off+i*o+o=off+(i+1)*o by rw[mK,Nat.one_mul];omega,show i*o+o=(i+1)*o by rw[mK,Nat.one_mul],this]
def WV(hH:fJ B G H w X)(d:Nat):∀{t:L Field}{l:L (Nat×EK)}{xs ys:L A}{vs us:Array Value}{r:Bool},uO P t=Y l->lF G H xs ys l=Y r->
  fR w X xs vs.toList->fR w X ys us.toList->
  ∀(f:L Field->Sem Bool),((f []).run P w=.ok dT w)->(∀g E v u b,g.name≠ "_" ->(Go.part g.type vs g.offset).run P w=.ok v w->(Go.part g.type us g.offset).run P w=.ok u w->
   (Op.equalIn (d+2) g.type v u).run P w=.ok b w->(f (g::E)).run P w=if b then(f E).run P w else .ok dU w)->(f t).run P w=.ok r w:=by
 intro t;induction t with
 |nil=>intro l xs ys vs us r o h N R f c _;simp[uO]at o;subst o;simp[lF]at h;subst h;exact c
 |cons g E ih=>
 intro l xs ys vs us r o h N R f c h1;unfold uO at o;split at o
 .cases o
 rename_i hn;have go:∀(v u:Value)(b:Bool)(C:L (Nat×EK)),uO P E=Y C->(Go.part g.type vs g.offset).run P w=.ok v w->(Go.part g.type us g.offset).run P w=.ok u w->(Op.equalIn (d+2) g.type v u).run P w=.ok b w->
   (b=dT->lF G H xs ys C=Y r)->(b=dU->r=dU)->(f (g::E)).run P w=.ok r w:=by
  intro v u b C p hv Q heq ht hf;rw[h1 g E v u b hn hv Q heq];cases b
  .rw[hf Z];simp
  rw[gO Z];exact ih p (ht Z) N R f c h1
 split at o
 .rename_i n e Q;simp only[fS]at o
  let⟨k,hk,q,K,o⟩:=o
  obtain⟨hsz,D⟩:=rv K;split at o
  .rename_i hms;simp only[gA]at o;obtain⟨C,p,rfl⟩:=o;obtain⟨b,j,ht,hf⟩:=WT h;have part:∀{U:Array Value},(Go.part g.type U g.offset).run P w=.ok (.agg ((U.toList.drop g.offset).take (n*q)).toArray) w:=by
    intro U;have z:wt P g.type=Y dT:=by simp[wt,Q]
    simp only[Go.part,gb,Ff z,iV,oH,lI hms,jR];congr 2;apply wj;simp[List.take_drop]
   have I:lF G H ((xs.drop g.offset).take (n*q)) ((ys.drop g.offset).take (n*q)) (ru k q 0 n)=Y b:=by have:=WU (G:=G) (H:=H) (k:=k) (off:=g.offset) D (xs:=xs) (ys:=ys) (m:=n*q) (n:=n) (i:=0) ei;rw[Nat.zero_mul,zu]at this;rw[<-this];exact j
   exact go _ _ b C p part part (Of hH d Q hk hsz I ((N.drop g.offset).take (n*q)) ((R.drop g.offset).take (n*q))) ht hf
  cases o
 simp only[fS,gA]at o;obtain⟨k,hk,C,p,rfl⟩:=o;obtain⟨W,s⟩:=Oe hk;simp only[lF]at h;split at h
 .rename_i x y hxo hyo;simp only[fS]at h
  let⟨b,j,h⟩:=h
  obtain⟨v,hv,hvr⟩:=Fm (P:=P) s N hxo;obtain⟨u,Q,hur⟩:=Fm (P:=P) s R hyo;exact go v u b C p hv Q (Fk hH (d+1) W hvr hur j) (λe=>by subst e;exact h) (λe=>by subst e;simpa using h.symm)
 cases h
def WW(hH:fJ B G H w X){t:TypeId}{fs:Array Field}{l:List (Nat×EK)}{xs ys:List A}{vs us:List Value}{r:Bool}(d:Nat)(hu:P.underlying t=Y (.struct fs))
  (hst:P.stoodInHeld t=dU)(hl:uO P fs.toList=Y l)(h:lF G H xs ys l=Y r)(hx:fR w X xs vs)(hy:fR w X ys us):
  (Op.equalIn (d+3) t (.agg vs.toArray) (.agg us.toArray)).run P w=.ok r w:=by
 rw[Op.equalIn];simp only[gb,iB hu,iV,run_program,hst,xO,r7];rw[<-Array.forIn_toList];have:=WV (vs:=vs.toArray) (us:=us.toArray) hH d hl h (by simpa using hx) (by simpa using hy)
  (λfs=>(do
   for f in fs do
    if f.name≠ "_" then
     if !(<-Op.equalIn (d+2) f.type (<-Go.part f.type vs.toArray f.offset) (<-Go.part f.type us.toArray f.offset))then return dU
   pure dT:Sem Bool)) (by simp) (λg gs v u b hn hv hu he=>by simp only[gb,Od,hn,ne_eq,wm,oH,hv,hu,he,iV];cases b<;>simp)
 simp only[gb]at this⊢;exact this
def WX{t:TypeId}{k:Ae}(h:Al P t=Y k):(∃e,k=.one e/\mV P t=Y e)\/
  (∃c l,k=.struct l/\P.underlying t=Y (.struct c)/\P.stoodInHeld t=dU/\P.eqGuardType P.depth t=dU/\uO P c.toList=Y l)\/
  (∃n e b o,k=.struct (ru b o 0 n)/\P.underlying t=Y (.array n e)/\P.eqGuardType P.depth t=dU/\wu P e=Y b/\nD P e=Y o):=by
 unfold Al at h;split at h
 .rename_i c Q;split at h
  .cases h
  rename_i E;simp only[gA]at h;obtain⟨l,f,rfl⟩:=h;simp at E;exact .inr (.inl ⟨c,l,Z,Q,E.1,E.2,f⟩)
 .rename_i n e Q;split at h
  .cases h
  rename_i E;simp only[fS,gA]at h;obtain⟨b,j,o,C,rfl⟩:=h;exact .inr (.inr ⟨n,e,b,o,Z,Q,by simpa using E,j,(rv C).1⟩)
 simp only[gA]at h;obtain⟨e,d,rfl⟩:=h;exact .inl ⟨e,Z,d⟩
def Og(K:fJ B G H w X){op:BinOp}(d:op=.eql\/op=.neq){t:TypeId}{lit r:Bool}{x y:Operand}{f k:A}{a b:Value}(c:lit=(uP x||uP y))(p:Al P t=Y z)
  (i:eQ w X f a)(j:eQ w X k b)(h:nM G H lit z f k=Y r):(eqGuard op t x y a b).run P w=.ok () w/\(Op.equal t a b).run P w=.ok r w:=by
 obtain⟨e,rfl,he⟩|⟨I,l,rfl,hu,hst,hg,o⟩|⟨n,e,E,N,rfl,hu,hg,hb',hsz⟩:=WX p
 .refine⟨?_,Fk K 9999 he i j h⟩;have g:∀(Xa:Sem Unit),(∃u v,f=.agg u\/f=.eK v)->False:=by intro _ ⟨u,v,m⟩;obtain rfl|rfl:=m<;>simp[nM,jj]at h
  cases i<;>first
   |(exfalso;exact g (pure ()) ⟨_,[],.inl Z⟩)
   |(exfalso;exact g (pure ()) ⟨[],_,.inr Z⟩)
   |(obtain rfl|rfl:=d<;>simp[eqGuard];done)
   |skip
  cases j<;>first
   |(obtain rfl|rfl:=d<;>simp[eqGuard];done)
   |skip
  have o:lit=dT:=by cases e<;>simp[nM,jj]at h;cases lit<;>simp_all
  rw[c]at o;have m:(∃v,x=.const v)\/(∃v,y=.const v):=by clear c h;cases x<;>cases y<;>first|exact .inl ⟨_,Z⟩|exact .inr ⟨_,Z⟩|(simp[uP]at o)
  clear c h o;obtain⟨v,rfl⟩|⟨v,rfl⟩:=m<;>obtain rfl|rfl:=d<;>simp[eqGuard]
 .cases f with
  |agg s=>
   cases k with
   |agg q=>obtain⟨D,rfl,hvs⟩:=Ao i;obtain⟨C,rfl,hus⟩:=Ao j;refine⟨?_,WW K 9997 hu hst o h hvs hus⟩;obtain rfl|rfl:=d<;>simp[eqGuard,hg]
   | _=>simp[nM]at h
  | _=>simp[nM]at h
 cases f with
 |agg s=>
  cases k with
  |agg q=>obtain⟨D,rfl,hvs⟩:=Ao i;obtain⟨C,rfl,hus⟩:=Ao j;refine⟨?_,Of K 9998 hu hb' hsz h hvs hus⟩;obtain rfl|rfl:=d<;>simp[eqGuard,hg]
  | _=>simp[nM]at h
 | _=>simp[nM]at h
def WY(R:fJ B G H w X){op:BinOp}{t:TypeId}{lit:Bool}{x y:Operand}{a b:Value}(g:op=.eql\/op=.neq->lit=(uP x||uP y))
  (l:op=.eql\/op=.neq->Al P t=Y N)(v:eQ w X U a)(i:eQ w X W b)(h:o6 G H op N lit U W=Y r):
  ∃c,(do eqGuard op t x y a b;binOp op t a b:Sem Value).run P w=.ok c w/\eQ w X r c:=by
 have d:∀(k:IntKind)(n:Int)(b:Value),(eqGuard op t x y (.int k n) b).run P w=.ok () w:=by intro k n b;cases op<;>simp[eqGuard]
 have f:∀(s:ByteArray)(b:Value),(eqGuard op t x y (.string s) b).run P w=.ok () w:=by intro s b;cases op<;>simp[eqGuard]
 unfold o6 at h;split at h
 .rename_i k n C m;have:=qN v;subst this;have:=qN i;subst this;simp only[gb,d,iV];split at h
  .exact TZ
  .exact TZ
  obtain⟨K,D⟩:=ks.1 h;cases Av K;exact WO D
 .rename_i s u;obtain⟨b1,rfl,e1⟩:=mn v;obtain⟨b2,rfl,e2⟩:=mn i;simp only[gb,f,iV];exact WR e1 e2 h
 rename_i o I;have z:∀(q:Value->Value->Sem Value),(∀k n C m,¬(a=.int k n/\b=.int C m)):=by intro _ k n C m ⟨ha,j⟩;subst ha;subst j;cases v;cases i;exact o _ _ _ _ Z Z
 split at h
 .simp only[gA]at h;obtain⟨e,E,rfl⟩:=h;obtain⟨p,Q⟩:=Og R (.inl Z) (g (.inl Z)) (l (.inl Z)) v i E;refine⟨.bool e,?_,.bool _⟩;have j:(binOp .eql t a b).run P w=.ok (.bool e) w:=Sk;simp only[gb,p,j,iV]
 .simp only[gA]at h;obtain⟨e,E,rfl⟩:=h;obtain⟨p,Q⟩:=Og R (.inr Z) (g (.inr Z)) (l (.inr Z)) v i E;refine⟨.bool (!e),?_,.bool _⟩;have j:(binOp .neq t a b).run P w=.ok (.bool (!e)) w:=Sk;simp only[gb,p,j,iV]
 cases h
end
section
variable{P:Program}{B:Nat→Prop}{G:ez}{H:eM}{w:World}{X:Kx}{F:T A}{a:Act}
theorem yf{p:S}(h:li H p=Y b):H.ep.dZ p=Y (.dY b):=by
 unfold li at h;split at h
 .cases h;assumption
 cases h
theorem Fo(hH:fJ B G H w X){p:S}(h:H.ep.dZ p=Y (.dY d)):∃c,X.ρ p=Y c/\pM w X d c 0:=by
 obtain⟨c,f,_,⟨eE,e,fz,K,r,m,E⟩,_⟩:=hH.obj p _ h;refine⟨c,f,λi C=>?_⟩;have b:i<eE.size:=M
 exact⟨eE.getD i undef,by rw[lg,mj K,getD_some b],E i C⟩
theorem Oh(hH:fJ B G H w X){x:Value}{n:L A}(m:eQ w X v x)(h:qL G H v=Y (n,b)):
  ∃c o,x=.pointer (Y ⟨c,o+b,J⟩)/\pM w X n c o:=by
 cases v<;>simp only[qL]at h<;>try cases h
 .rename_i p k;simp only[gA]at h
  let⟨i,g,h⟩:=h
  cases h;obtain⟨c,rfl,hc⟩:=o7 m;obtain⟨l,f,d⟩:=Fo hH (yf g);obtain rfl:=gu (f.symm.trans hc);exact⟨l,0,ei,d⟩
 .obtain⟨c,o,rfl,r,d⟩:=yb m;exact⟨c,o,Z,d⟩
 rename_i p k;simp only[gA]at h
 let⟨i,g,h⟩:=h
 obtain⟨c,rfl,hc⟩:=uS m;obtain⟨l,f,_,_,j⟩:=hH.gX.fU p i g;obtain rfl:=gu (f.symm.trans hc);obtain⟨q,t,s,r,d⟩:=yb j;have K:l=q/\t=0:=by simp at s;omega
 obtain⟨rfl,rfl⟩:=K;cases h;exact⟨l,0,ei,d⟩
theorem WZ(hH:fJ B G H w X){x:Value}{n:Nat}(j:eQ w X v x)(h:sj H v=Y (n,f)):
  (x=.slice J 0 0/\n=0/\f=[])\/(∃c o cap k,x=.slice (Y ⟨c,o,J⟩) n cap/\pM w X f c o/\O f=n*k/\0<k)\/(∃a cap,x=.slice (Y a) 0 cap/\n=0/\f=[]):=by
 cases v<;>simp only[sj]at h<;>try cases h
 .left;exact⟨Am j,Z,Z⟩
 .right;obtain⟨c,o,cap,rfl,hU,b,hn,hcap,hsz,ht⟩|⟨a,cap,rfl,K,r,_⟩:=yc j
  .exact .inl ⟨c,o,cap,_,Z,b,hn,hsz⟩
  exact .inr ⟨a,cap,Z,K,r⟩
 right;left;simp only[fS,gA]at h
 let⟨p,i,l,q,h⟩:=h
 cases h;obtain⟨c,d,rfl,hc,hcap,he,hn,hs,hsz⟩:=yd j;obtain⟨m,g,b⟩:=Fo hH (yf i);obtain rfl:=gu (g.symm.trans hc);obtain⟨K,r⟩:=b.cut q;exact⟨m,_,d,_,Z,by simpa using K,r,hsz⟩
theorem tJ{o:Oper}{s:Sem Value}(h:execOp a.eval o=(do pure (.value (<-s)))){c:Value}(r:s.run P w=.ok c b):(execOp a.eval o).run P w=.ok (.value c) b:=by rw[h];simp only[gb,r,iV,jR]
theorem JD{o:Oper}{s:Sem Unit}(h:execOp a.eval o=(do s;pure .skip))(r:s.run P w=.ok () b):(execOp a.eval o).run P w=.ok .skip b:=by rw[h];simp only[gb,r,iV,jR]
theorem lJ(hH:fJ B G H w X){o:Oper}{s:Sem Value}(h:execOp a.eval o=(do pure (.value (<-s))))(b:∃c,s.run P w=.ok c w/\eQ w X v c):
  iJ P B G H w X ((execOp a.eval o).run P w) (.val v):=by
 let⟨c,K,r⟩:=b
 rw[tJ h K];exact tI hH r
section ops
variable(hH:fJ B G H w X)(hF:kA w X F a.tmps){dY:Bool}{e:iD}{io:jI}
include hH hF
theorem Oi{o:Oper}{x:Operand}(b:o.op=.move x\/o.op=.assign x)(K:ib P o.op=Y io)(h:fG G dY F H io=Y e):iJ P B G H w X ((execOp a.eval o).run P w) e:=by
 have c:execOp a.eval o=pure (.value (a.eval x)):=by obtain b|b:=b<;>simp[execOp,b]
 have K:(iO x).map jI.iA=Y io:=by obtain b|b:=b<;>simpa[b,ib]using K
 simp only[gA]at K;obtain⟨g,d,rfl⟩:=K;simp only[fG,gA]at h;obtain⟨v,f,rfl⟩:=h;rw[c];exact tI hH (jU hH hF d f)
theorem W0{o:Oper}{c x y:Operand}(k:o.op=.pick c x y)(K:ib P o.op=Y io)(h:fG G dY F H io=Y e):iJ P B G H w X ((execOp a.eval o).run P w) e:=by
 simp only[k,ib,fS,gA]at K;obtain⟨m,f,n,g,p,i,rfl⟩:=K;simp only[fG,fS]at h
 let⟨v,l,h⟩:=h
 have j:=jU hH hF f l;have d:execOp a.eval o=(do pure (.value (if<-asBool (a.eval c)then a.eval x else a.eval y))):=by simp[execOp,k]
 rw[d];cases v<;>try cases h
 rename_i b;have j:=uR j;cases b
 .simp only[gA]at h;obtain⟨u,Q,rfl⟩:=h;simp only[j,asBool,gb,jR,iV];exact tI hH (jU hH hF i Q)
 simp only[gA]at h;obtain⟨u,Q,rfl⟩:=h;simp only[j,asBool,gb,jR,iV];exact tI hH (jU hH hF g Q)
theorem W1{o:Oper}{t:TypeId}{x:Operand}(i:o.op=.load t x)(K:ib P o.op=Y io)(h:fG G dY F H io=Y e):iJ P B G H w X ((execOp a.eval o).run P w) e:=by simp only[i,ib,fS,gA]at K;obtain⟨n,E,q,g,rfl⟩:=K;simp only[fG,fS,gA]at h;obtain⟨v,k,⟨p,b⟩,f,u,Q,rfl⟩:=h;obtain⟨c,r,l,d⟩:=Oh hH (jU hH hF g k) f;refine lJ hH (s:=Instr.loadAt t (a.eval x)) (by simp[execOp,i]) ?_;obtain⟨y,m,j⟩:=N2 E d Q;exact⟨y,by rw[l];simpa[Instr.loadAt,Instr.sureAddr]using m,j⟩
theorem W2{o:Oper}{x:Operand}(j:o.op=.nilCheck x)(K:ib P o.op=Y io)(h:fG G dY F H io=Y e):iJ P B G H w X ((execOp a.eval o).run P w) e:=by
 simp only[j,ib,gA]at K;obtain⟨q,i,rfl⟩:=K;simp only[fG,fS]at h
 let⟨v,m,h⟩:=h
 have n:=jU hH hF i m;have k:∀c,a.eval x=c->(match c with|.pointer none|.nilIface|.nilFunc=>False|.func (.method _) _ _=>False| _=>True)->eQ w X v c->e=.val v->iJ P B G H w X ((execOp a.eval o).run P w) e:=by
  intro c K g n l;subst l;have:(execOp a.eval o).run P w=.ok (.value c) w:=by
   simp only[execOp,j,K];cases c with
   |pointer p=>cases p<;>first|exact g.elim|rfl
   |func f x y=>cases f<;>first|exact g.elim|rfl
   |nilIface=>exact g.elim
   |nilFunc=>exact g.elim
   | _=>rfl
  rw[this];exact tI hH n
 split at h
 .cases h;obtain⟨c,b,K⟩:=o7 n;exact Cw
 .cases h;obtain⟨c,r,b,_⟩:=yb n;exact Cw
 .cases h;obtain⟨c,b,_⟩:=uS n;exact Cw
 .cases h;obtain⟨c,b,_⟩:=WB n;exact Cw
 .cases h;obtain⟨c,d,b,_⟩:=Jv n;exact Cw
 .cases h;obtain⟨c,b,_⟩:=NZ n;exact Cw
 cases h
theorem W3{o:Oper}{op:BinOp}{t u:TypeId}{x y:Operand}(i:o.op=.binOp op t x y u)(K:ib P o.op=Y io)(h:fG G dY F H io=Y e):iJ P B G H w X ((execOp a.eval o).run P w) e:=by
 simp only[i,ib,fS]at K
 let⟨q,d,z,f,K⟩:=K
 have g:∃c lit,io=.gy op c lit q z/\(op=.eql\/op=.neq->lit=(uP x||uP y))/\(op=.eql\/op=.neq->Al P t=Y c):=by
  split at K
  .exact V5
  .exact V5
  rename_i j l;cases K;have b:¬(op=.eql\/op=.neq):=λe=>e.elim (λe=>j e) (λe=>l e);exact⟨_,_,Z,λe=>absurd e b,λe=>absurd e b⟩
 obtain⟨c,lit,rfl,hlit,hek⟩:=g;simp only[fG,fS,gA]at h;obtain⟨v,p,C,Q,r,n,rfl⟩:=h;exact lJ hH (s:=do eqGuard op t x y (a.eval x) (a.eval y);binOp op t (a.eval x) (a.eval y)) (by simp[execOp,i])
  (WY hH hlit hek (jU hH hF d p) (jU hH hF f Q) n)
theorem W4{o:Oper}{op:UnOp}{t:TypeId}{x:Operand}(b:o.op=.unOp op t x)(K:ib P o.op=Y io)(h:fG G dY F H io=Y e):iJ P B G H w X ((execOp a.eval o).run P w) e:=by
 simp only[b,ib,gA]at K;obtain⟨c,hix,rfl⟩:=K;simp only[fG,fS,gA]at h;obtain⟨v,hv,r,n,rfl⟩:=h;refine uC λhx=>?_;refine lJ hH (s:=Op.unary op (a.eval x)) (by simp[execOp,b]) ?_;unfold NX at n;split at n
 .have hx:=qN hx;cases n;exact⟨_,by simp[hx,Op.unary,Op.intArith];rfl,by rw[Ar];first|exact .int _ _ |(simp;exact .int _ _)⟩
 .have hx:=qN hx;simp only[sn]at n;cases n;exact⟨_,by simp[hx,Op.unary,Op.intBits],.int _ _⟩
 .have hx:=uR hx;cases n;exact⟨_,by simp[hx,Op.unary],.bool _⟩
 cases n
theorem W5{o:Oper}{x:Operand}{i:Nat}(f:o.op=.extract x i)(K:ib P o.op=Y io)(h:fG G dY F H io=Y e):iJ P B G H w X ((execOp a.eval o).run P w) e:=by
 simp only[f,ib,gA]at K;obtain⟨j,hix,rfl⟩:=K;simp only[fG,fS]at h
 let⟨v,hv,h⟩:=h
 refine uC λhx=>?_;cases v<;>try cases h
 rename_i k;simp only[gA]at h;obtain⟨u,Q,rfl⟩:=h;obtain⟨g,hx,d⟩:=N0 hx;refine lJ hH (s:=Instr.extract (a.eval x) i) (by simp[execOp,f]) ?_;obtain⟨b,Q⟩:=oY.1 Q;have c:i<O g:=by rw[<-d.1];exact b
 exact⟨g[i],by simp[hx,Instr.extract,c],Q▸d.2 i b c⟩
theorem W6{o:Oper}{t:TypeId}{x:Operand}(g:o.op=.makeInterface t x)(K:ib P o.op=Y io)(h:fG G dY F H io=Y e):iJ P B G H w X ((execOp a.eval o).run P w) e:=by
 simp only[g,ib]at K;have k:∃d,P.underlying t=Y d/\(∀z,d≠.interface z)/\(iO x).map (jI.rp t)=Y io:=by
  split at K
  .cases K
  .cases K
  rename_i i r;cases b:P.underlying t with
  |none=>exact absurd b r
  |some d=>exact⟨d,Z,λz e=>i z (e▸b),K⟩
 let⟨d,b,f,K⟩:=k
 simp only[gA]at K;obtain⟨l,c,rfl⟩:=K;simp only[fG,gA]at h;obtain⟨v,j,rfl⟩:=h;refine lJ hH (s:=Instr.makeInterface t (a.eval x)) (by simp[execOp,g]) ⟨.iface t (a.eval x),?_,.iface _ _ _ (jU hH hF c j)⟩;simp only[Instr.makeInterface,gb,iB b,iV];cases d<;>first|(exact absurd Z (f _))|rfl
theorem W7{o:Oper}{fn:Fn}{c b:Array Operand}(g:o.op=.makeFunc fn c b)(K:ib P o.op=Y io)(h:fG G dY F H io=Y e):iJ P B G H w X ((execOp a.eval o).run P w) e:=by
 simp only[g,ib,fS,gA]at K;obtain⟨m,j,n,r,rfl⟩:=K;simp only[fG]at h;split at h
 .cases h
 rename_i f;simp only[fS,gA]at h;obtain⟨x,v,y,k,rfl⟩:=h;refine lJ hH (s:=Instr.makeFunc fn (c.map a.eval) (b.map a.eval)) (by simp[execOp,g]) ⟨.func fn (c.map a.eval) (b.map a.eval),Z,?_⟩;have d:c.map a.eval=(c.toList.map a.eval).toArray:=by rw[<-ND,HO]
 have i:b.map a.eval=(b.toList.map a.eval).toArray:=by rw[<-ND,HO]
 rw[d,i];exact WD (λl e=>f l e) (CK hH hF j v) (CK hH hF r k)
end ops
end
section
variable{P:Program}{B:Nat→Prop}{G:ez}{H:eM}{w:World}{X:Kx}{F:T A}{a:Act}
def Oj(K:fJ B G H w X){c:L A}(h:fR w X c b)(t:TypeId){n nx:S}(f:Ad H X n)(d:∀q:S,nx.dV<=q.dV->H.dX.dV<=q.dV/\q≠n):
  ∃p,fL B w X (w.alloc (.cells b.toArray t)) p/\fJ B G {ep:=H.ep.set n (Y (.dY c)),dX:=nx} (w.alloc (.cells b.toArray t)) p/\p.ρ n=Y w.heap.size:=by
 have E:=rk K (.cells b.toArray t) (Y n) (λq e=>gu e▸f) J 0;refine⟨_,E,K.E7 (.cells b.toArray t) (.dY c) 0 J f d ?_ py mJ,by simp[Kx.with]⟩;refine⟨b.toArray,t,(0,0),qK _ _,fQ _,by simp[h.1],?_⟩;rw[JA (by simp[h.1])];rw[show(b.toArray.toList.take (O c))=b by rw[h.1];simp];exact h.mono E
def Ol(K:fJ B G H w X)(h:fR w X d b)(t:TypeId):
  ∃p,fL B w X (w.alloc (.cells b.toArray t)) p/\fJ B G H (w.alloc (.cells b.toArray t)) p/\p.U w.heap.size=O d/\pM (w.alloc (.cells b.toArray t)) p d w.heap.size 0:=by
 have E:=rk K (.cells b.toArray t) J uB J (O d);refine⟨_,E,K.Wt _ _,by simp[Kx.with],λi C=>?_⟩;have c:i<O b:=by rw[<-h.1];exact C
 exact⟨b[i],by rw[mj (qK w _)];simp[c],(h.2 i C c).mono E⟩
def Om(K:fJ B G H w X){e:L A}(h:fR w X e f)(t:TypeId):
  iJ P B G H w X (.ok (.value (.pointer (Y ⟨w.heap.size,0,J⟩))) (w.alloc (.cells f.toArray t))) (.ew (.dY e) .ea):=by
 intro n nx g c;obtain⟨p,E,b,d⟩:=Oj K h t g c;exact⟨_,_,_,p,Z,Z,E,b,.ea _ _ _ d⟩
def On(K:fJ B G H w X){g:L Value}(h:fR w X b g)(t:TypeId){o n:Nat}(C:0<o)(k:O b=n*o):
  iJ P B G H w X (.ok (.value (.slice (Y ⟨w.heap.size,0,J⟩) n n)) (w.alloc (.cells g.toArray t))) (.ew (.dY b) (.slice o n)):=by
 intro p nx hp d;obtain⟨f,E,c,e⟩:=Oj K h t hp d;refine⟨_,_,_,f,Z,Z,E,c,.eC _ _ _ _ _ _ _ _ e (fQ _) mJ (fQ _) (λi j=>?_) C⟩;rw[lg,mj (qK w _)];have:=h.1;simp;omega
def Oo(K:fJ B G H w X)(h:fR w X b d)(t:TypeId){o n:Nat}(C:0<o)(f:O b=n*o):
  iJ P B G H w X (.ok (.value (.slice (Y ⟨w.heap.size,0,J⟩) n n)) (w.alloc (.cells d.toArray t))) (.val (.eG o n b .fE)):=by
 obtain⟨p,E,c,g,e⟩:=Ol K h t;exact⟨_,_,Z,_,_,_,p,Z,Z,E,c,sr M e f (fQ _) C Z⟩
def W8:∀(e:L Value)(b k:Nat)(d:Array Value),b+k+O e<=d.size->
  ((e.zipIdx k).foldl (λd (c,j)=>d.setIfInBounds (b+j) c) d).toList=d.toList.take (b+k)++e++d.toList.drop (b+k+O e):=by
 intro e;induction e with
 |nil=>intro b k d _;simp
 |cons v e i=>
 intro b k d h;simp only[lV]at h;simp only[List.zipIdx_cons,List.foldl_cons];rw[i b (k+1) _ (by simp;omega),N4 d (b+k) v M];have f:O (d.toList.take (b+k)++[v])=b+(k+1):=by simp;omega
 rw[List.take_append_of_le_length M,oG M];rw[List.drop_append,List.drop_eq_nil_of_le (as:=d.toList.take (b+k)++[v]) M,f];simp only[uz,List.drop_drop,np,MK,lV];congr 3;omega
def Oq{w:World}{X:Kx}{place:Nat->Option (Nat×Nat)}:∀{t:L (Nat×Nat×A)}{s:L (Nat×Value)}{g f:L A}{eE:Array Value},sm t g=Y f->fR w X g eE.toList->
  O t=O s->(∀i (h:i<O t)(W:i<O s),place (s[i]).1=Y ((t[i]).1,(t[i]).2.1)/\eQ w X (t[i]).2.2 (s[i]).2)->
  ∃e,Instr.fill place eE s=Y e/\fR w X f e.toList:=by
 intro t;induction t with
 |nil=>
  intro s g f eE h n o _;cases s with
  |nil=>simp[sm]at h;subst h;exact⟨eE,Z,n⟩
  |cons x s=>simp at o
 |cons p t U=>
 intro s g f eE h n o hp;cases s with
 |nil=>simp at o
 |cons x s=>
 let⟨b,q,v⟩:=p
 let⟨i,y⟩:=x
 obtain⟨K,r⟩:=hp 0 ei ei;simp only[wf]at K r;simp only[sm]at h;obtain⟨I,h⟩:=ks.1 h;simp only[fS]at h
 let⟨D,R,h⟩:=h
 have C:=iZ I;have m:=uU r;obtain⟨Q,rfl⟩:=Jz R;have z:=m.1;have u:=n.1;simp only[tu]at z u;have l:(y.cells.size≠q||decide (b+y.cells.size>eE.size))=dU:=by simp;omega
 have k:fR w X (g.take b++v.cells++g.drop (b+O v.cells)) ((y.cells.zipIdx.foldl (λg (c,j)=>g.setIfInBounds (b+j) c) eE).toList):=by rw[<-Array.foldl_toList,Array.toList_zipIdx,W8 _ b 0 eE (by simp;omega)];simp only[zu,tu];rw[show b+y.cells.size=b+O v.cells by omega];exact((n.take b).append m).append (n.drop _)
 obtain⟨e,d,E⟩:=U h k ME (λj hj N=>by have:=hp (j+1) lW lW;simpa using this)
 refine⟨e,?_,E⟩;simp only[Instr.fill,K];rw[gj (by simpa using l)];exact d
def wx(a:Act)(p:Nat×Operand):Nat×Value:=(p.1,a.eval p.2)
def Ot(C:fJ B G H w X)(z:kA w X F a.tmps){f:Nat->Option (Nat×Nat)}:∀{c:L (Nat×Operand)}{g:L (Nat×Nat×IX)}{t:L (Nat×Nat×A)},wv P f c=Y g->o5 G F g=Y t->
  O t=O (c.map (wx a))/\∀i (h:i<O t)(n:i<O (c.map (wx a))),f ((c.map (wx a))[i]).1=Y ((t[i]).1,(t[i]).2.1)/\eQ w X (t[i]).2.2 ((c.map (wx a))[i]).2:=by
 intro c;induction c with
 |nil=>intro g t K r;simp[wv]at K;subst K;simp[o5]at r;subst r;exact we
 |cons p c E=>
 intro g t K r
 let⟨i,x⟩:=p
 simp only[wv,fS,gA]at K;obtain⟨⟨b,u⟩,s,I,k,l,o,rfl⟩:=K;simp only[o5,fS,gA]at r;obtain⟨v,D,N,q,rfl⟩:=r;obtain⟨d,y⟩:=E o q;refine⟨by simpa using d,λj e m=>?_⟩;cases j with
 |zero=>exact⟨s,jU C z k D⟩
 |succ j=>have:=y j (by simpa using e) (by simpa using m);simpa using this
def W9{Q:Type}{z:L Q}(c:0<O z):∀(n i:Nat),i<n*O z->(List.replicate n z).flatten[i]? =z[i%O z]? :=by
 intro n;induction n with
 |zero=>intro i h;omega
 |succ n b=>
 intro i h;rw[NC,nK];by_cases C:i<O z
 .rw[xt C,Ey C]
 rw[Ca M,b (i - O z) (by rw[zN]at h;omega)];rw[Nat.mod_eq_sub_mod (by omega:i≥O z)]
theorem JE{w:World}{X:Kx}{zero:List A}{z:List Value}(h:fR w X zero z)(hz:0<z.length)(n:Nat):fR w X (gV zero n) ((Array.range (n*z.length)).map (fun i=>z.toArray[i%z.toArray.size]!)).toList:=by
 have key:((Array.range (n*z.length)).map (fun i=>z.toArray[i%z.toArray.size]!)).toList=(List.replicate n z).flatten:=by
  apply List.ext_getElem?
  intro i
  by_cases hi:i<n*z.length
  .rw[W9 hz n i hi]
   have hm:i%z.length<z.length:=Nat.mod_lt _ hz
   simp[hi,hm]
  rw[List.getElem?_eq_none (by simp;omega),List.getElem?_eq_none (by simp;omega)]
 rw[key]
 clear key
 induction n with
 |zero=>simp[gV];exact .nil
 |succ n ih=>
 rw[List.replicate_succ,List.flatten_cons]
 exact h.append ih
def CR(zero:L A)(n:Nat):O (gV zero n)=n*O zero:=by
 induction n with
 |zero=>simp[gV]
 |succ n i=>simp[gV,i,zN];omega
end
section
variable{P:Program}{B:Nat→Prop}{G:ez}{H:eM}{w:World}{X:Kx}{F:T A}{a:Act}
variable(hH:fJ B G H w X)(hF:kA w X F a.tmps){dY:Bool}{e:iD}{io:jI}
include hH hF
theorem Xb{o:Oper}{t:TypeId}(b:o.op=.alloc t)(K:ib P o.op=Y io)(h:fG G dY F H io=Y e):iJ P B G H w X ((execOp a.eval o).run P w) e:=by
 simp only[b,ib,gA]at K;obtain⟨z,c,rfl⟩:=K;simp only[fG]at h;cases h;obtain⟨v,d,n⟩:=Aq (P:=P) c w;have r:(Instr.alloc t dT (.tuple #[])).run P w=.ok (.pointer (Y ⟨w.heap.size,0,J⟩)) (w.alloc (.cells v.cells t)):=by simp[Instr.alloc,gb,d,newVar,newRow]
 rw[tJ (s:=Instr.alloc t dT (.tuple #[])) (by simp[execOp,b]) r];have:=Om (P:=P) hH (uU (n X)) t;simpa using this
theorem Xc{o:Oper}{t:TypeId}{x:Operand}(c:o.op=.box t x)(K:ib P o.op=Y io)(h:fG G dY F H io=Y e):iJ P B G H w X ((execOp a.eval o).run P w) e:=by
 simp only[c,ib,gA]at K;obtain⟨f,b,rfl⟩:=K;simp only[fG,gA]at h;obtain⟨v,d,rfl⟩:=h;have n:=jU hH hF b d;have r:(Instr.box t (a.eval x)).run P w=.ok (.pointer (Y ⟨w.heap.size,0,J⟩)) (w.alloc (.cells (a.eval x).cells t)):=by simp[Instr.box,newVar,newRow]
 rw[tJ (s:=Instr.box t (a.eval x)) (by simp[execOp,c]) r];have:=Om (P:=P) hH (uU n) t;simpa using this
theorem Xd{o:Oper}{t:TypeId}(D:o.op=.build t u)(K:ib P o.op=Y io)(h:fG G dY F H io=Y e):iJ P B G H w X ((execOp a.eval o).run P w) e:=by
 simp only[D,ib,fS]at K
 let⟨z,c,K⟩:=K
 obtain⟨v,I,n⟩:=Aq (P:=P) c w;have p:execOp a.eval o=(do pure (.value (<-Instr.build t (u.map (wx a))))):=by simp[execOp,D];rfl
 have k:∀(b:Nat->Option (Nat×Nat))(g:L (Nat×Nat×IX)),wv P b u.toList=Y g->fG G dY F H (.build z.cells g)=Y e->
   ∃l eE,e=.val (.agg l)/\Instr.fill b v.cells (u.map (wx a)).toList=Y eE/\eQ w X (.agg l) (.agg eE):=by
  intro b g hp h;simp only[fG,fS,gA]at h;obtain⟨d,C,l,x,rfl⟩:=h;obtain⟨i,r⟩:=Ot hH hF hp C;obtain⟨eE,m,E⟩:=Oq (w:=w) (X:=X) x (uU (n X)) i r;refine⟨l,eE,Z,by simpa using m,?_⟩;have:=An E;simpa using this
 split at K
 .rename_i U Q;simp only[fS,gA]at K;obtain⟨q,y,g,f,rfl⟩:=K;obtain⟨l,eE,rfl,i,r⟩:=k _ _ f h;refine lJ hH p ⟨.agg eE,?_,r⟩;have hp:=run_places (P:=P) w _ _ y;simp[Instr.build,gb,I,iB Q,Array.mapM_eq_mapM_toList,hp];simp at i;rw[i];rfl
 .rename_i j R Q;simp only[fS,gA]at K;obtain⟨s,N,g,f,rfl⟩:=K;obtain⟨l,eE,rfl,i,r⟩:=k _ _ f h;refine lJ hH p ⟨.agg eE,?_,r⟩;simp[Instr.build,gb,I,iB Q,lI N];simp at i;rw[i];rfl
 cases K
theorem Xe{o:Oper}{t:TypeId}{g:Array (Nat×Operand)}(ho:o.op=.buildSlice t j g)(K:ib P o.op=Y io)(h:fG G dY F H io=Y e):iJ P B G H w X ((execOp a.eval o).run P w) e:=by
 simp only[ho,ib]at K;split at K
 .rename_i I hu;simp only[fS]at K
  let⟨l,C,z,hz,K⟩:=K
  split at K
  .rename_i b;simp only[gA]at K;obtain⟨ips,s,rfl⟩:=K;obtain⟨hs,f⟩:=rv C;obtain⟨v,hv,hr⟩:=Aq (P:=P) hz w;have Q:execOp a.eval o=(do pure (.value (<-Instr.buildSlice t j (g.map (wx a))))):=by simp[execOp,ho];rfl
   simp only[fG,fS,gA]at h
   let⟨pv,W,n,r,h⟩:=h
   obtain⟨h1,h2⟩:=Ot hH hF s W;have q:=uU (hr X);have d:O v.cells.toList=l:=by rw[<-q.1,b.2]
   have D:=JE (w:=w) (X:=X) q M j;obtain⟨eE,m,E⟩:=Oq (w:=w) (X:=X) (place:=λi=>Y (i*l,l)) r D h1 h2;have k:O n=j*l:=by
    have e1:∀{g:L (Nat×Nat×A)}{n x:L A},sm g n=Y x->O x=O n:=by
     intro g;induction g with
     |nil=>intro n x h;simp[sm]at h;rw[h]
     |cons p g ih=>
     intro n x h
     let⟨o1,s1,v1⟩:=p
     simp only[sm]at h;obtain⟨_,h⟩:=ks.1 h;simp only[fS]at h
     let⟨c1,N,h⟩:=h
     obtain⟨u,rfl⟩:=Jz N;rw[ih h];simp;omega
    rw[e1 r,CR,b.2]
   have U:j*l=0->j=0:=λe=>by
    obtain h|h:=Nat.mul_eq_zero.1 e
    .exact h
    omega
   have y:(Instr.buildSlice t j (g.map (wx a))).run P w=.ok (.slice (Y ⟨w.heap.size,0,J⟩) j j) (w.alloc (.cells eE I)):=by
    have u:¬(16777216<j*l):=M
    by_cases c:j*l=0
    .have R:=U c;subst R;simp only[Nat.zero_mul,Array.range_zero']at m;simp[Instr.buildSlice,gb,iB hu,lI hs,Array.range_zero',newRow];simp at m;rw[m];rfl
    simp[Instr.buildSlice,gb,iB hu,lI hs,u,c,hv,newRow];rw[d]at m;simp at m d;rw[d];rw[d]at m;rw[m];rfl
   rw[tJ Q y];cases dY
   .cases h;have:=Oo (P:=P) hH E I f k;simpa using this
   cases h;have:=On (P:=P) hH E I f k;simpa using this
  cases K
 cases K
theorem Xf{o:Oper}{t:TypeId}(d:o.op=.makeMap t J)(K:ib P o.op=Y io)(h:fG G dY F H io=Y e):iJ P B G H w X ((execOp a.eval o).run P w) e:=by
 simp only[d,ib]at K;cases K;simp only[fG]at h;cases h;have r:(Instr.makeMap t (none.map a.eval)).run P w=.ok (.map (Y w.heap.size)) (w.alloc (.map #[] 0)):=by simp[Instr.makeMap]
 rw[tJ (s:=Instr.makeMap t (none.map a.eval)) (by simp[execOp,d]) r];intro n nx c b;have E:=rk hH (.map #[] 0) (Y n) (λq e=>gu e▸c) J 0;refine⟨_,_,_,_,Z,Z,E,hH.E7 (.map #[] 0) (.map [] 0) 0 J c b ?_ py mJ,.map _ _ Ek⟩;exact⟨#[],qK _ _,Z,λi C=>by simp at C⟩
theorem Xg{o:Oper}{t:TypeId}{l c:Operand}(ho:o.op=.makeSlice t l c)(K:ib P o.op=Y io)(h:fG G dY F H io=Y e):iJ P B G H w X ((execOp a.eval o).run P w) e:=by
 simp only[ho,ib]at K;split at K
 .rename_i D hu;simp only[fS]at K
  let⟨I,C,j,R,z,hz,K⟩:=K
  split at K
  .rename_i b;simp only[fS,gA]at K;obtain⟨il,hil,ic,hic,rfl⟩:=K;simp only[fG,fS]at h
   let⟨vl,hvl,vc,hvc,n,hn,m,hm,h⟩:=h
   obtain⟨hb,h⟩:=ks.1 h;simp only[jC,beq_eq,ble_eq,oh]at hb
   let⟨⟨hnm,p⟩,r⟩:=hb
   obtain⟨hs,g⟩:=rv C;have uW:∀{v:A}{x:Value}{n:Nat},eQ w X v x->lG v=Y n->∃k,x=.int k n:=by intro v x n hx hn;exact SM
   obtain⟨kl,W⟩:=uW (jU hH hF hil hvl) hn;obtain⟨kc,U⟩:=uW (jU hH hF hic hvc) hm;cases hi:P.info? D with
   |none=>simp[nQ,nD,hi]at C
   |some i=>
   have hzi:∃q,i.zero=Y q/\qa 8 q=Y z:=by simpa[qb,hi,fS]using hz
   let⟨q,hzv,hzo⟩:=hzi
   have N:i.bytes=j:=by simpa[uM,hi]using R
   have hsi:i.size=I:=by simpa[nD,hi]using hs
   have E:m*j<=70368744177664:=p;have Q:m<=70368744177664:=r;have f:(i.bytes:Int)*(m:Int)<=281474976710656:=by
    have h3:((j*m:Nat):Int)<=281474976710656:=by rw[Nat.mul_comm];omega
    rw[N];rwa[Int.natCast_mul]at h3
   have y:=run_make (P:=P) w t D i q hu hi hzv kl kc n m M M f M;have hzr:eQ w X z q:=(Jw w X 8).1 _ _ hzo;have s:=uU hzr;have u:O q.cells.toList=I:=by rw[<-s.1,b]
   have d:=JE (w:=w) (X:=X) s M m;have hex:execOp a.eval o=(do pure (.value (<-Instr.makeSlice t (a.eval l) (a.eval c)))):=by simp[execOp,ho]
   rw[tJ hex (by rw[W,U];exact y)];simp only[Int.toNat_natCast,hsi,madeCells];rw[u]at d;subst hnm;cases dY
   .cases h;have:=Oo (P:=P) hH d D g (by rw[CR,b]:O (gV z.cells n)=n*I);rw[HO]at this;exact this
   cases h;have:=On (P:=P) hH d D g (by rw[CR,b]:O (gV z.cells n)=n*I);rw[HO]at this;exact this
  cases K
 cases K
end
theorem uW{w:World}{X:Kx}{x:Value}{n:Nat}(hx:eQ w X v x)(hn:lG v=Y n):∃k,x=.int k n:=SM
def OV(w:World)(X:Kx):Option A->Option Value->Prop
 |none,none=>True
 |some v,some x=>eQ w X v x
 | _,_=>False
theorem Fp{P:Program}{w:World}{X:Kx}{x:Value}{n y d:Nat}(c:BoundsCode)(g:eQ w X v x)(i:y<=d)(h:((lG v).bind λm=>cond (Nat.ble m y) (Y m) J)=Y n):
  (Instr.sliceBound x d c).run P w=.ok n w/\n<=y:=by
 simp only[fS]at h
 let⟨m,f,h⟩:=h
 obtain⟨j,h⟩:=ks.1 h;cases h;obtain⟨k,rfl⟩:=uW g f;rw[ble_eq]at j;have j:=j0 j;refine⟨?_,j⟩;have b:n<=d:=M
 simp[Instr.sliceBound,asIntOf,b]
theorem yg{P:Program}{w:World}{X:Kx}{j cap b l h m:Nat}{N C D:Option A}{i g n:Option Value}(s:Bool)(E:OV w X N i)(q:OV w X C g)(I:OV w X D n)
  (k:j<=cap)(z:cap<=b)(R:pI j cap N C D=Y (l,h,m)):
  (Instr.sliceBounds s j b i g n).run P w=.ok (l,h,if D.isSome then m else b) w/\l<=h/\h<=m/\m<=cap/\(D=J->m=cap)/\(D=J->C=J->h=j):=by
 unfold pI at R;simp only[fS,oZ,wh]at R;obtain⟨Q,f,K,d,U,o,rfl,rfl,rfl⟩:=R;have t:(N=J/\i=J/\U=0)\/(∃v x,N=Y v/\i=Y x/\∀c,(Instr.sliceBound x K c).run P w=.ok U w/\U<=K):=by
  cases N with
  |none=>cases i with
   |none=>cases o;exact .inl ⟨Z,Z,Z⟩
   |some _=>exact E.elim
  |some v=>cases i with
   |none=>exact E.elim
   |some x=>exact .inr ⟨v,x,Z,Z,λc=>Fp c E (fQ _) o⟩
 have p:(D=J/\n=J/\Q=cap/\((C=J/\g=J/\K=j)\/(∃v x,C=Y v/\g=Y x/\∀c,(Instr.sliceBound x b c).run P w=.ok K w/\K<=cap)))\/
   (∃v x u y,D=Y v/\n=Y x/\C=Y u/\g=Y y/\(∀c,(Instr.sliceBound x b c).run P w=.ok Q w/\Q<=cap)/\∀c,(Instr.sliceBound y Q c).run P w=.ok K w/\K<=Q):=by
  cases D with
  |none=>cases n with
   |some _=>exact I.elim
   |none=>
   cases f;refine .inl ⟨Z,Z,Z,?_⟩;cases C with
   |none=>cases g with
    |none=>cases d;exact .inl ⟨Z,Z,Z⟩
    |some _=>exact q.elim
   |some v=>cases g with
    |none=>exact q.elim
    |some x=>exact .inr ⟨v,x,Z,Z,λc=>Fp c q z d⟩
  |some v=>cases n with
   |none=>exact I.elim
   |some x=>
   cases C with
   |none=>cases d
   |some u=>cases g with
    |none=>exact q.elim
    |some y=>exact .inr ⟨v,x,u,y,Z,Z,Z,Z,λc=>Fp c I z f,λc=>Fp c q (fQ _) d⟩
 have r:BoundsCode:=.sliceB;obtain⟨rfl,rfl,rfl⟩|⟨v1,x1,rfl,rfl,t⟩:=t<;>obtain⟨rfl,rfl,rfl,⟨rfl,rfl,rfl⟩|⟨W,x2,rfl,rfl,p⟩⟩|⟨W,x2,u2,y2,rfl,rfl,rfl,rfl,p,hK⟩:=p
 .exact⟨by simp[Instr.sliceBounds],M,k,fQ _,λ_=>Z,λ_ _=>Z⟩
 .exact⟨by simp[Instr.sliceBounds,(p _).1],M,(p r).2,fQ _,λ_=>Z,λ_ h=>by cases h⟩
 .exact⟨by simp[Instr.sliceBounds,(p _).1,(hK _).1],M,(hK r).2,(p r).2,ES,ES⟩
 .exact⟨by simp[Instr.sliceBounds,(t _).1],(t r).2,k,fQ _,λ_=>Z,λ_ _=>Z⟩
 .exact⟨by simp[Instr.sliceBounds,(p _).1,(t _).1],(t r).2,(p r).2,fQ _,λ_=>Z,λ_ h=>by cases h⟩
 exact⟨by simp[Instr.sliceBounds,(p _).1,(hK _).1,(t _).1],(t r).2,(hK r).2,(p r).2,ES,ES⟩
section
variable{P:Program}{B:Nat→Prop}{G:ez}{H:eM}{w:World}{X:Kx}{F:T A}{a:Act}
variable(hH:fJ B G H w X)(hF:kA w X F a.tmps){dY:Bool}{e:iD}{io:jI}
include hH hF
theorem Xh{o:Oper}{s t:TypeId}{x:Operand}(c:o.op=.convert s t x)(K:ib P o.op=Y io)(h:fG G dY F H io=Y e):iJ P B G H w X ((execOp a.eval o).run P w) e:=by
 simp only[c,ib,fS]at K
 let⟨f,b,K⟩:=K
 split at K
 .rename_i g k r j;cases K;simp only[fG,fS]at h
  let⟨v,d,h⟩:=h
  have n:=jU hH hF b d;cases v<;>simp at h;subst h;have n:=qN n;refine lJ hH (s:=convert s t (a.eval x)) (by simp[execOp,c]) ⟨_,by simp[n,convert,gb,iB r,iB j,Conv.intToInt];rfl,?_⟩;rw[Ar];exact .int _ _
 cases K
theorem JF{x:Option Operand}{c:Option IX}(K:CJ x=Y c)(b:pK (IX.ev G F) c=Y v):OV w X v (x.map a.eval):=by
 cases x with
 |none=>cases K;cases b;trivial
 |some x=>simp only[CJ,gA]at K;obtain⟨i,C,rfl⟩:=K;simp only[pK,gA]at b;obtain⟨u,Q,rfl⟩:=b;exact jU hH hF C Q
theorem Xi{o:Oper}{s:TypeId}{x:Operand}{i:Nat}(p:o.op=.fieldAddr s x i)(K:ib P o.op=Y io)(h:fG G dY F H io=Y e):iJ P B G H w X ((execOp a.eval o).run P w) e:=by
 simp only[p,ib]at K;split at K
 .rename_i t Q;simp only[fS,gA]at K;obtain⟨f,g,D,C,E,l,rfl⟩:=K;obtain⟨r,q⟩:=rv C;simp only[fG,fS]at h
  let⟨v,z,h⟩:=h
  have n:=jU hH hF l z;have j:execOp a.eval o=(do pure (.value (<-Instr.fieldAt s (a.eval x) i))):=by simp[execOp,p]
  have y:∀c b,a.eval x=.pointer (Y ⟨c,b,J⟩)->(Instr.fieldAt s (a.eval x) i).run P w=.ok (.pointer (Y ⟨c,b+f.offset,J⟩)) w:=by
   intro c b k;have m:¬(D=0):=M
   simp[Instr.fieldAt,gb,iB Q,g,k,Instr.sureAddr,fieldPlace,lI r,m,pN]
  cases v<;>simp at h
  .subst h;obtain⟨c,k,K⟩:=o7 n;exact lJ hH j ⟨_,y _ _ k,.ea _ _ _ K⟩
  .subst h;obtain⟨c,I,k,u,d⟩:=yb n;refine lJ hH j ⟨_,y _ _ k,?_⟩;rw[wg];exact Fe u d
  subst h;obtain⟨c,k,K⟩:=uS n;exact lJ hH j ⟨_,y _ _ k,.fz _ _ _ K⟩
 cases K
omit hH hF in
theorem Ou{w:World}{t:TypeId}{n:Option Nat}{p:L A}{i:L Value}{c:Nat}(E:uN P t=Y n)(k:fR w X p i)(g:part c n p=Y v):
  ∃x,(Go.part t i.toArray c).run P w=.ok x w/\eQ w X v x:=by
 unfold uN at E;simp only[fS]at E
 let⟨b,j,E⟩:=E
 simp only[Go.part,gb,Ff j,iV];cases b
 .cases E;simp only[part]at g;obtain⟨h,g⟩:=oY.1 g;have d:c<O i:=by rw[<-k.1];exact h
  exact⟨i[c],by simp[d],g▸k.2 c h d⟩
 simp only[gA]at E;obtain⟨m,f,rfl⟩:=E;simp only[part,gA]at g;obtain⟨l,o,rfl⟩:=g;obtain⟨rfl,hlen⟩:=Jx o;refine⟨.agg ((i.drop c).take m).toArray,?_,An ((k.drop c).take m)⟩;simp only[oH,gb,lI f,iV,jR];congr 2;apply wj;simp[List.extract]
theorem Xj{o:Oper}{s:TypeId}{x:Operand}{i:Nat}(k:o.op=.field s x i)(K:ib P o.op=Y io)(h:fG G dY F H io=Y e):iJ P B G H w X ((execOp a.eval o).run P w) e:=by
 simp only[k,ib]at K;split at K
 .rename_i t Q;simp only[fS,gA]at K;obtain⟨f,g,n,E,r,b,rfl⟩:=K;simp only[fG,fS]at h
  let⟨v,m,h⟩:=h
  have l:=jU hH hF b m;cases v<;>simp at h;obtain⟨u,c,rfl⟩:=h;obtain⟨z,p,d⟩:=Ao l;obtain⟨y,q,j⟩:=Ou (P:=P) E d c;exact lJ hH (s:=Instr.field s (a.eval x) i) (by simp[execOp,k]) ⟨y,by simp[Instr.field,gb,iB Q,g,p,asAgg,q],j⟩
 cases K
theorem Xk{o:Oper}{t:TypeId}{x i:Operand}(ho:o.op=.index t x i)(K:ib P o.op=Y io)(h:fG G dY F H io=Y e):iJ P B G H w X ((execOp a.eval o).run P w) e:=by
 simp only[ho,ib,fS]at K
 let⟨ix,q,ii,p,K⟩:=K
 have g:execOp a.eval o=(do pure (.value (<-Instr.index t (a.eval x) (a.eval i)))):=by simp[execOp,ho]
 split at K
 .rename_i Q;cases K;simp only[fG,fS]at h
  let⟨v,W,iv,d,n,E,h⟩:=h
  obtain⟨k,z⟩:=uW (jU hH hF p d) E;have I:=jU hH hF q W;cases v<;>simp at h;obtain⟨b,j,rfl⟩:=h;rename_i s;obtain⟨c,hx,f⟩:=mn I;obtain⟨D,j⟩:=oY.1 j;have C:=Ax f;have r:n<c.size:=M
  refine lJ hH g ⟨.int .u8 (c[n].toNat:Int),?_,?_⟩
  .have m:c[n]? =Y c[n]:=by simp[r]
   simp[Instr.index,z,hx,asIntOf,gb,iB Q,m]
  have:(c[n].toNat)=b:=by
   have h1:(c.data.toList.map UInt8.toNat)[n]? =Y b:=by rw[f];exact oY.2 ⟨D,j⟩
   simp only[pz,gA]at h1
   let⟨u,R,U⟩:=h1
   have h3:c[n]=u:=by
    have:c.data.toList[n]? =Y c[n]:=by rw[qx];show c.data[n]? =Y c.data[n];simp
    exact gu (this.symm.trans R)
   rw[h3];exact U
  rw[this];exact .int _ _
 .rename_i len et Q;simp only[fS,gA]at K;obtain⟨sz,C,l,hl,rfl⟩:=K;simp only[fG,fS]at h
  let⟨v,W,iv,d,n,E,h⟩:=h
  obtain⟨k,z⟩:=uW (jU hH hF p d) E;have I:=jU hH hF q W;cases v<;>simp at h;obtain⟨j,h⟩:=ks.1 h;simp only[gA]at h;obtain⟨u,N,rfl⟩:=h;rw[lm]at j;have j:=j0 j;obtain⟨vs,hx,hvs⟩:=Ao I;obtain⟨y,hy,hyr⟩:=Ou (P:=P) hl hvs N;refine lJ hH g ⟨y,?_,hyr⟩;simp[Instr.index,z,hx,asIntOf,gb,iB Q,j,lI C,hy]
 cases K
theorem Xl{o:Oper}{t:TypeId}{x i:Operand}(ho:o.op=.indexAddr t x i)(K:ib P o.op=Y io)(h:fG G dY F H io=Y e):iJ P B G H w X ((execOp a.eval o).run P w) e:=by
 simp only[ho,ib,fS]at K
 let⟨ix,z,ii,u,K⟩:=K
 have g:execOp a.eval o=(do pure (.value (<-Instr.indexAt t (a.eval x) (a.eval i)))):=by simp[execOp,ho]
 split at K
 .rename_i et Q;simp only[gA]at K;obtain⟨sz,C,rfl⟩:=K;obtain⟨r,D⟩:=rv C;simp only[fG,fS]at h
  let⟨v,W,iv,m,n,E,h⟩:=h
  obtain⟨k,R⟩:=uW (jU hH hF u m) E;have q:=jU hH hF z W;have y:∀c b l cap,a.eval x=.slice (Y ⟨c,b,J⟩) l cap->n<l->(Instr.indexAt t (a.eval x) (a.eval i)).run P w=.ok (.pointer (Y ⟨c,b+n*sz,J⟩)) w:=by intro c b l cap f p;simp[Instr.indexAt,R,f,asIntOf,gb,iB Q,p,lI r,pN]
  cases v<;>simp at h
  .obtain⟨j,h⟩:=ks.1 h;cases h;rw[lm]at j;have j:=j0 j;obtain⟨c,o',cap,f,N,d,U,s,I,ht⟩:=Jt q (.inl M);exact lJ hH g ⟨_,y _ _ _ _ f j,Fe N d⟩
  obtain⟨j,h⟩:=ks.1 h;cases h;rw[lm]at j;have j:=j0 j;obtain⟨c,cap',f,K,s,he,U,hs',I⟩:=yd q;exact lJ hH g ⟨_,y _ _ _ _ f j,.ea _ _ _ K⟩
 .rename_i l et Q;simp only[gA]at K;obtain⟨sz,C,rfl⟩:=K;obtain⟨r,D⟩:=rv C;simp only[fG,fS]at h
  let⟨v,W,iv,m,n,E,h⟩:=h
  obtain⟨k,R⟩:=uW (jU hH hF u m) E;have q:=jU hH hF z W;have y:∀c b,a.eval x=.pointer (Y ⟨c,b,J⟩)->n<l->(Instr.indexAt t (a.eval x) (a.eval i)).run P w=.ok (.pointer (Y ⟨c,b+n*sz,J⟩)) w:=by intro c b f p;simp[Instr.indexAt,R,f,asIntOf,gb,iB Q,p,lI r,pN,Instr.sureAddr]
  cases v<;>simp at h
  .obtain⟨j,h⟩:=ks.1 h;cases h;rw[lm]at j;have j:=j0 j;obtain⟨c,f,K⟩:=o7 q;exact lJ hH g ⟨_,y _ _ f j,.ea _ _ _ K⟩
  .obtain⟨j,h⟩:=ks.1 h;cases h;rw[lm]at j;have j:=j0 j;obtain⟨c,o',f,N,d⟩:=yb q;refine lJ hH g ⟨_,y _ _ f j,?_⟩;rw[wg];exact Fe N d
  obtain⟨j,h⟩:=ks.1 h;cases h;rw[lm]at j;have j:=j0 j;obtain⟨c,f,K⟩:=uS q;exact lJ hH g ⟨_,y _ _ f j,.fz _ _ _ K⟩
 cases K
end
section
variable{P:Program}{B:Nat→Prop}{G:ez}{H:eM}{w:World}{X:Kx}{F:T A}{a:Act}
variable(hH:fJ B G H w X)(hF:kA w X F a.tmps){dY:Bool}{e:iD}{io:jI}
include hH hF
omit hH hF in
theorem Xm{b:ByteArray}{s:L Nat}(h:b.data.toList.map UInt8.toNat=s)(l r:Nat):(b.extract l r).data.toList.map UInt8.toNat=(s.drop l).take (r - l):=by
 subst h;have:(b.extract l r).data.toList=(b.data.toList.drop l).take (r - l):=by rw[ByteArray.data_extract];simp[List.extract]
 rw[this,List.map_take,List.map_drop]
theorem Xn{k:Ji}{t:TypeId}{x r:A}{lo hi mx:Option A}{x':Value}{lo' hi' mx':Option Value}
  (hk:(k=.J/\P.underlying t=Y .string)\/(∃et sz,k=.sl sz/\P.underlying t=Y (.slice et)/\nQ P et=Y sz)\/(∃n et sz,k=.eE n sz/\P.underlying t=Y (.array n et)/\nQ P et=Y sz))
  (hx:eQ w X x x')(hlo:OV w X lo lo')(hhi:OV w X hi hi')(hmx:OV w X mx mx')(h:pJ H k x lo hi mx=Y r):
  ∃c,(Instr.sliceAt t x' lo' hi' mx').run P w=.ok c w/\eQ w X r c:=by
 obtain⟨rfl,hu⟩|⟨et,sz,rfl,hu,hsz⟩|⟨n,et,sz,rfl,hu,hsz⟩:=hk
 .cases x<;>try cases h
  rename_i s;cases mx with
  |some _=>cases h
  |none=>
  cases mx' with
  |some _=>exact hmx.elim
  |none=>simp only[pJ,fS]at h;obtain⟨⟨l,hh,m⟩,hb,h⟩:=h;cases h;obtain⟨b,rfl,hb'⟩:=mn hx;have hlen:=Ax hb';rw[<-hlen]at hb;obtain⟨h1,h2,h3,h4,h5,h6⟩:=yg (P:=P) dU hlo hhi hmx (fQ _) (fQ _) hb;refine⟨.string (b.extract l hh),?_,.J _ _ (Xm hb' _ _)⟩;simp[Instr.sliceAt,Instr.slice,gb,iB hu,h1]
 .obtain⟨hs,hpos⟩:=rv hsz;have hrun:∀base len cap l h m,(Instr.sliceBounds dT len cap lo' hi' mx').run P w=.ok (l,h,m) w->
    (Instr.sliceAt t (.slice base len cap) lo' hi' mx').run P w=.ok (.slice (if m=l then base else base.map (·.add (l*sz))) (h - l) (m - l)) w:=by
   intro base len cap l h m hb;simp[Instr.sliceAt,Instr.slice,gb,iB hu,hb,lI hs]
  cases x<;>try cases h
  .simp only[pJ,fS]at h;obtain⟨⟨l,hh,m⟩,hb,h⟩:=h;cases h;have hx:=Am hx;subst hx;obtain⟨h1,h2,h3,h4,h5,h6⟩:=yg (P:=P) dT hlo hhi hmx (fQ _) (fQ _) hb;refine⟨_,hrun _ _ _ _ _ _ h1,?_⟩;have e1:l=0:=M
   have e2:hh=0:=M
   have e3:m=0:=M
   subst e1;subst e2;subst e3;cases mx<;>exact .ej
  .rename_i sz' n cs tk;simp only[pJ,fS]at h;obtain⟨⟨l,hh,m⟩,hb,h⟩:=h;obtain⟨hc,h⟩:=ks.1 h;cases h;simp only[jC,beq_eq,oh]at hc;obtain⟨rfl,hc⟩:=hc;obtain⟨c,o,cap,rfl,hU,hcells,hn,hcap,hsz',ht⟩|⟨a,cap,rfl,rfl,rfl,rfl,hsz'⟩:=yc hx
   case inr=>
    obtain⟨h1,h2,h3,h4,h5,h6⟩:=yg (P:=P) dT hlo hhi hmx (fQ _) (oE cap) hb;refine⟨_,hrun _ _ _ _ _ _ h1,?_⟩;have e1:l=0:=M
    have e2:hh=0:=M
    subst e1;subst e2;have e3:tE 0 0 0 mx.isSome .G=.G:=by cases mx<;>rfl
    rw[e3];have e4:(([]:List A).drop (0*sz)).take ((0 - 0)*sz)=[]:=ei
    have e5:∀Xa:Nat,∃a',(if Xa=0 then Y a else Option.map (λx:Addr=>x.add (0*sz)) (Y a))=Y a':=λXa=>by split<;>exact⟨_,Z⟩
    show eQ w X (.eG sz (0 - 0) ((([]:List A).drop (0*sz)).take ((0 - 0)*sz)) .G) _;rw[e4];split;all_goals
     obtain⟨a',ha'⟩:=e5 _;rw[ha'];exact .emp _ _ _ hpos
   obtain⟨h1,h2,h3,h4,h5,h6⟩:=yg (P:=P) dT hlo hhi hmx (fQ _) hcap hb;refine⟨_,hrun _ _ _ _ _ _ h1,?_⟩;have hlen:O ((cs.drop (l*sz)).take ((hh - l)*sz))=(hh - l)*sz:=by have:hh*sz<=n*sz:=nL _ M;rw[uw,oI,hn,zA];have:l*sz<=hh*sz:=nL _ h2;omega
   have hln:l*sz<=n*sz:=nL _ M;have hcs:∀i (hi:i<O ((cs.drop (l*sz)).take ((hh - l)*sz))),∃v,w.cell? ⟨c,o+l*sz+i,J⟩=Y v/\eQ w X ((cs.drop (l*sz)).take ((hh - l)*sz))[i] v:=by
    intro i hi;have hi2:l*sz+i<O cs:=by simp at hi;omega
    obtain⟨v,hv,hr⟩:=hcells (l*sz+i) hi2;exact⟨v,by rw[wg];exact hv,by simpa using hr⟩
   have hU2:o+l*sz+O ((cs.drop (l*sz)).take ((hh - l)*sz))<=X.U c:=by
    have:l*sz+O ((cs.drop (l*sz)).take ((hh - l)*sz))<=O cs:=by rw[uw,oI];omega
    omega
   cases mx with
   |none=>
    simp only[Cb,xO,r7];by_cases hml:cap=l
    ·
     have e1:hh=l:=M
     have e2:n=l:=M
     subst e1;rw[gO hml];have hnil:(cs.drop (hh*sz)).take ((hh - hh)*sz)=[]:=ei
     rw[hnil];refine sr (by simp;omega) (λi hi=>by simp at hi) (by simp) (Is M _) hpos ?_;simp only[tE,Cb,e2,beq_eq,uI,gZ];cases tk with
     |fE=>simp only[mS]at ht⊢;omega
     |G=>trivial
     |«open»tk=>
     by_cases h0:hh=0
     .subst h0;simp only[uI,gZ,mS]at ht⊢;simpa[e2]using ht
     simp[h0,mS]
    rw[gj hml];simp only[jb,pN c o (l*sz) _ J Z (λ_=>Z)];refine sr hU2 hcs hlen (Is M _) hpos ?_;simp only[tE,Cb,beq_eq];by_cases hhn:hh=n
    .simp only[hhn,uI,gZ];cases tk with
     |fE=>simp only[mS]at ht⊢;omega
     |G=>trivial
     |«open»tk=>
     have hopen:mS w X c (o+l*sz) (n - l) sz (cap - l) (.open tk):=by simp only[mS]at ht⊢;obtain⟨t1,t2,t3⟩:=ht;refine⟨t1,by rw[t2,zA];congr 1;omega,λi hi=>?_⟩;rw[wg];refine t3 _ ?_;have:l*sz<=cap*sz:=nL _ M;rw[zA]at hi;omega
     show mS w X c (o+l*sz) (n - l) sz (cap - l) (bif decide (l=n)then bif decide (l=0)then jt.open tk else jt.G else jt.open tk);by_cases e1:l=n
     .by_cases e2:l=0
      .rw[sc e1,sc e2];exact hopen
      rw[sc e1,Ac e2];trivial
     rw[Ac e1];exact hopen
    simp[hhn,mS]
   |some v=>
   simp only[beq_eq,oh]at hc;subst hc;simp only[Option.isSome_some,oH];by_cases hml:m=l
   .subst hml;rw[gO Z];have hnil:(cs.drop (m*sz)).take ((m - m)*sz)=[]:=ei
    rw[hnil];exact sr (by simp;omega) (λi hi=>by simp at hi) (by simp) (fQ _) hpos (by cases tk<;>simp only[tE]<;>(try cases Nat.beq n 0)<;>simp[mS])
   rw[gj hml];simp only[jb,pN c o (l*sz) _ J Z (λ_=>Z)];exact sr hU2 hcs hlen (fQ _) hpos (by cases tk<;>simp only[tE]<;>(try cases Nat.beq n 0)<;>simp[mS])
  rename_i p sz' off n cap ex;simp only[pJ,fS]at h;obtain⟨⟨l,hh,m⟩,hb,h⟩:=h;replace h:=ks.1 h;rw[beq_eq]at h;obtain⟨hc,h⟩:=h;have hc:=j0 hc;subst hc;obtain⟨c,cap',rfl,hc,hcap,he,hn,hs',hsz'⟩:=yd hx;simp only at h;obtain⟨h1,h2,h3,h4,h5,h6⟩:=yg (P:=P) dT hlo hhi hmx hn hcap hb;refine⟨_,hrun _ _ _ _ _ _ h1,?_⟩;have cellsAt:∀k,l+k<=cap'->∀i,i<k*sz->(w.cell? ⟨c,off+l*sz+i,J⟩).isSome=dT:=by intro k hk i hi;rw[wg];refine hs' _ ?_;have:(l+k)*sz<=cap'*sz:=nL _ hk;rw[mK]at this;omega
  cases mx with
  |none=>
   simp only[Cb,xO,r7];have hmc:=h5 Z;simp only[beq_eq]at h;by_cases hml:m=l
   .simp only[hml,uI,gZ]at h;obtain⟨hex,h⟩:=ks.1 h;cases h;have:=he hex;rw[gO M];refine .eC _ _ _ _ _ _ _ _ hc M (λ_=>M) M (λi hi=>hs' i ?_) hsz';have:(cap' - l)*sz<=cap'*sz:=nL _ M;omega
   simp only[hml,decide_false,jx]at h;cases h;rw[gj M];simp only[jb,pN c off _ _ J Z (λ_=>Z)];exact .eC _ _ _ _ _ _ _ _ hc M (λe=>by have:=he e;omega) M (cellsAt _ M) hsz'
  |some v=>
  cases h;simp only[Option.isSome_some,oH,beq_eq];by_cases hml:m=l
  .rw[gO hml];simp only[hml,uI,gZ];refine .eC _ _ _ _ _ _ _ _ hc (fQ _) (λ_=>Z) M (λi hi=>hs' i ?_) hsz';simp at hi
  rw[gj hml];simp only[hml,decide_false,jx,jb,pN c off _ _ J Z (λ_=>Z)];exact .eC _ _ _ _ _ _ _ _ hc (fQ _) (λ_=>Z) M (cellsAt _ M) hsz'
 obtain⟨hs,hpos⟩:=rv hsz;have hrun:∀ad l h m,(Instr.sliceBounds dU n n lo' hi' mx').run P w=.ok (l,h,m) w->
   (Instr.sliceAt t (.pointer (Y ad)) lo' hi' mx').run P w=.ok (.slice (Y (if m=l then ad else ad.add (l*sz))) (h - l) (m - l)) w:=by
  intro ad l h m hb;simp[Instr.sliceAt,gb,iB hu,hb,lI hs,Instr.sureAddr]
 cases x<;>try cases h
 .rename_i p off;simp only[pJ,fS]at h;obtain⟨cs,hrow,⟨l,hh,m⟩,hb,h⟩:=h;obtain⟨hc,h⟩:=ks.1 h;cases h;simp only[ble_eq,oh]at hc;obtain⟨c,rfl,hρ⟩:=o7 hx;obtain⟨c',hc',hcells⟩:=Fo hH (yf hrow);obtain rfl:=gu (hc'.symm.trans hρ);obtain⟨h1,h2,h3,h4,h5,h6⟩:=yg (P:=P) dU hlo hhi hmx (fQ _) (fQ _) hb;have hm:(if mx.isSome=dT then m else n)=m:=by
   cases mx with
   |none=>simp[h5 Z]
   |some _=>simp
  rw[hm]at h1;refine⟨_,hrun _ _ _ _ h1,?_⟩;have cellsAt:∀i,i<n*sz->(w.cell? ⟨c',off+i,J⟩).isSome=dT:=by intro i hi;obtain⟨v,hv,_⟩:=hcells (off+i) M;rw[lg]at hv;simp[hv]
  simp only[beq_eq];by_cases hml:m=l
  .rw[gO hml];simp only[hml,uI,gZ];exact .eC _ _ _ _ _ _ _ _ hρ (fQ _) (λ_=>Z) M (λi hi=>by simp at hi) hpos
  rw[gj hml];simp only[hml,decide_false,jx,pN c' off _ _ J Z (λ_=>Z)];refine .eC _ _ _ _ _ _ _ _ hρ (fQ _) (λ_=>Z) M (λi hi=>?_) hpos;rw[wg];refine cellsAt _ ?_;have:m*sz<=n*sz:=nL _ M;have:l*sz<=m*sz:=nL _ M;rw[zA]at hi;omega
 rename_i cs off;simp only[pJ,fS]at h;obtain⟨⟨l,hh,m⟩,hb,h⟩:=h;obtain⟨hc,h⟩:=ks.1 h;cases h;simp only[ble_eq,oh]at hc;obtain⟨c,o,rfl,hU,hcells⟩:=yb hx;obtain⟨h1,h2,h3,h4,h5,h6⟩:=yg (P:=P) dU hlo hhi hmx (fQ _) (fQ _) hb;have hm:(if mx.isSome=dT then m else n)=m:=by
  cases mx with
  |none=>simp[h5 Z]
  |some _=>simp
 rw[hm]at h1;refine⟨_,hrun _ _ _ _ h1,?_⟩;have hhn:hh*sz<=n*sz:=nL _ M;have hlh:l*sz<=hh*sz:=nL _ h2;have htok:∀o',mS w X c o' (hh - l) sz (m - l) (bif m.beq hh then .fE else .G):=by
  intro o';simp only[beq_eq];by_cases e:m=hh
  .simp[e,mS]
  simp[e,mS]
 by_cases hml:m=l
 .rw[gO hml];have e1:hh=l:=M
  have hnil:(cs.drop (off+l*sz)).take ((hh - l)*sz)=[]:=by simp[e1]
  rw[hnil];exact sr (by simp;omega) (λi hi=>by simp at hi) (by simp[e1]) (Is h3 l) hpos (htok _)
 rw[gj hml];simp only[pN c (o+off) _ _ J Z (λ_=>Z)];refine sr ?_ (λi hi=>?_) ?_ (Is h3 l) hpos (htok _)
 .rw[uw,oI,zA];omega
 .have hi2:off+l*sz+i<O cs:=by simp at hi;omega
  obtain⟨v,hv,hr⟩:=hcells (off+l*sz+i) hi2;exact⟨v,by rw[<-hv];congr 2;omega,by simpa using hr⟩
 rw[uw,oI,zA];omega
theorem Xo{o:Oper}{t:TypeId}{x:Operand}{z u D:Option Operand}(y:o.op=.slice t x z u D)(K:ib P o.op=Y io)(h:fG G dY F H io=Y e):iJ P B G H w X ((execOp a.eval o).run P w) e:=by
 simp only[y,ib,fS]at K
 let⟨W,m,R,j,i,g,U,l,K⟩:=K
 have d:execOp a.eval o=(do pure (.value (<-Instr.sliceAt t (a.eval x) (z.map a.eval) (u.map a.eval) (D.map a.eval)))):=by simp[execOp,y]
 have s:∃k,io=.slice k W R i U/\((k=.J/\P.underlying t=Y .string)\/(∃b c,k=.sl c/\P.underlying t=Y (.slice b)/\nQ P b=Y c)\/(∃n b c,k=.eE n c/\P.underlying t=Y (.array n b)/\nQ P b=Y c)):=by
  split at K
  .rename_i Q;cases K;exact⟨_,Z,.inl ⟨Z,Q⟩⟩
  .rename_i b Q;simp only[gA]at K;obtain⟨c,C,rfl⟩:=K;exact⟨_,Z,.inr (.inl ⟨b,c,Z,Q,C⟩)⟩
  .rename_i n b Q;simp only[gA]at K;obtain⟨c,C,rfl⟩:=K;exact⟨_,Z,.inr (.inr ⟨n,b,c,Z,Q,C⟩)⟩
  cases K
 obtain⟨k,rfl,hk⟩:=s;simp only[fG,fS,gA]at h;obtain⟨v,N,lo',p,E,f,mx',q,r,I,rfl⟩:=h;exact lJ hH d (Xn hH hF hk (jU hH hF m N) (JF hH hF j p) (JF hH hF g f) (JF hH hF l q) I)
end
theorem rx{P:Program}{w:World}{c:Nat}{o:Obj}(h:w.heap[c]? =Y o)(b:∀x y z,o≠.cells x y z):(getObj c).run P w=.ok o w:=by simp only[getObj,Sem.run,h]
section
variable{P:Program}{B:Nat→Prop}{G:ez}{H:eM}{w:World}{X:Kx}{F:T A}{a:Act}
variable(hH:fJ B G H w X)(hF:kA w X F a.tmps){dY:Bool}{e:iD}{io:jI}
include hH hF
theorem Xp{o:Oper}{t:TypeId}{x y:Operand}(I:o.op=.store t x y)(K:ib P o.op=Y io)(h:fG G dY F H io=Y e):iJ P B G H w X ((execOp a.eval o).run P w) e:=by
 simp only[I,ib,fS,gA]at K;obtain⟨n,U,ix,hix,iy,m,rfl⟩:=K;simp only[fG,fS]at h
 let⟨v,hv,u,Q,h⟩:=h
 refine uC λhx=>?_;have W:=jU hH hF m Q;cases v<;>simp at h;rename_i p b;simp only[fS]at h
 let⟨cs,l,h⟩:=h
 refine Ez λh=>?_
 let⟨j,h⟩:=h
 simp only[gA]at h;obtain⟨N,q,rfl⟩:=h;simp only[jC,beq_eq,oh]at j;obtain⟨c,z,D⟩:=o7 hx;have d:=uU W;obtain⟨c',w',k,f,E,g⟩:=N6 (P:=P) hH (yf l) q d j.2;obtain rfl:=gu (k.symm.trans D);have C:(a.eval y).cells.size=n:=by have:=d.1;simp only[tu]at this;omega
 have r:(Instr.storeAt t (a.eval x) (a.eval y)).run P w=.ok () w':=by simp[Instr.storeAt,z,Instr.sureAddr,storeVar,gb,lI U,C,f]
 rw[JD (s:=Instr.storeAt t (a.eval x) (a.eval y)) (by simp[execOp,I]) r];refine⟨_,_,Z,_,_,_,_,Z,Z,E,g,?_⟩;exact .eK _ _ Z (λi R=>by simp at R)
omit hF in
theorem Ay{p:S}{es:L gm}(h:om H p=Y (es,W)):∃c eE,X.ρ p=Y c/\¬B c/\w.heap[c]? =Y (.map eE W)/\eE.size=O es/\X.U c=0/\
  ∀i (h:i<O es),eQ w X es[i].key (eE.getD i default).key/\eQ w X es[i].val (eE.getD i default).val/\(eE.getD i default).born=es[i].born:=by
 have f:H.ep.dZ p=Y (.map es W):=by
  unfold om at h;split at h
  .cases h;assumption
  cases h
 obtain⟨c,K,r,⟨eE,m,E,b⟩,g,d⟩:=hH.obj p _ f;exact⟨c,eE,K,r,m,E,d ei,b⟩
omit hF in
theorem JG{t:TypeId}{k:EK}(h:ya P t=Y k):mV P t=Y k/\(k=.int\/k=.bool\/k=.J\/k=.ea):=by unfold ya at h;split at h<;>first|(cases h;simp_all;done)|cases h
omit hF in
theorem JH{t:TypeId}{k:A}{g:Value}(b:Bool)(n:Nat)(j:ya P t=Y l)(d:eQ w X k g)(f:p8 l k=dT):(Instr.checkKey b (n+1) t g).run P w=.ok () w:=by
 obtain⟨K,r⟩:=JG (H:=H) hH j;obtain rfl|rfl|rfl|rfl:=r
 .obtain⟨o,Q⟩:=CO K;cases k<;>simp[p8]at f;rw[qN d];exact BU
 .have Q:=CP K;cases k<;>simp[p8]at f;rw[uR d];exact BU
 .have Q:=CQ K;cases k<;>simp[p8]at f;obtain⟨h,rfl,_⟩:=mn d;exact BU
 obtain⟨i,m,Q,_,_⟩:=Aw K;cases k<;>simp[p8]at f
 .rw[Js d];exact BU
 .obtain⟨c,rfl,_⟩:=o7 d;exact BU
 obtain⟨c,rfl,_⟩:=uS d;exact BU
omit hF in
theorem Xq{t:TypeId}{k c:A}{a b:Value}{r:Bool}(j:mV P t=Y l)(d:eQ w X k a)(jp:eQ w X c b)(h:jj G H dU l k c=Y r):(Op.equal t a b).run P w=.ok r w:=by exact Fk hH (Op.maxDepth - 1) j d jp h
omit hF hH in
def uX(w:World)(X:Kx)(i n:Nat):Option (Nat×A×Nat)->Option (Nat×Value)->Prop
 |none,none=>True
 |some (j,v,_),some (b,l)=>j=b/\eQ w X v l/\i<=j/\j<i+n
 | _,_=>False
omit hF hH in
theorem uX.dX{w:World}{X:Kx}{i n:Nat}{r:Option (Nat×A×Nat)}(h:uX w X (i+1) n r b):uX w X i (n+1) r b:=by
 cases r with
 |none=>cases b with
  |none=>trivial
  |some _=>exact h.elim
 |some q=>cases b with
  |none=>exact h.elim
  |some d=>let⟨K,c,m,E⟩:=h;exact⟨K,c,M,M⟩
omit hF in
theorem Xr{t:TypeId}{k g:A}{m i:Value}{r:Bool}(j:mV P t=Y l)(n:P.underlying t=Y d)(o:eQ w X k m)(jp:eQ w X g i)
  (p:l=.int\/l=.bool\/l=.J)(h:jj G H dU l k g=Y r):Instr.sameNow d m i=Y r:=by
 obtain rfl|rfl|rfl:=p
 .obtain⟨u,Q⟩:=CO j;obtain rfl:=gu (n.symm.trans Q);cases k<;>try(simp[jj]at h;done)
  cases g<;>try(simp[jj]at h;done)
  simp only[jj]at h;refine Ez λh=>?_
  let⟨K,q⟩:=h
  have c:=qN o;have y:=qN jp;subst c;subst y;cases q;have:=Av K;simp only[Instr.sameNow,this,oH,Au]
 .have Q:=CP j;obtain rfl:=gu (n.symm.trans Q);cases k<;>try(simp[jj]at h;done)
  cases g<;>try(simp[jj]at h;done)
  simp only[jj]at h;have c:=uR o;have y:=uR jp;subst c;subst y;cases h;rename_i a b;cases a<;>cases b<;>rfl
 have Q:=CQ j;obtain rfl:=gu (n.symm.trans Q);cases k<;>try(simp[jj]at h;done)
 cases g<;>try(simp[jj]at h;done)
 simp only[jj]at h;obtain⟨f,rfl,c⟩:=mn o;obtain⟨s,rfl,y⟩:=mn jp;cases h;subst c;subst y;simp only[Instr.sameNow,JB,uV];congr 1;apply decide_eq_decide.2;exact⟨λe=>by rw[e],λe=>Fi e⟩
omit hF in
theorem Xs{t:TypeId}{k:A}{q:Value}(z:mV P t=Y l)(v:P.underlying t=Y d)(y:eQ w X k q)(p:l=.int\/l=.bool\/l=.J):
  ∀{es:L gm}{eE:L MapEntry}{i:Nat}{r:Option (Nat×A×Nat)},
  O es=O eE->(∀j (h:j<O es)(n:j<O eE),eQ w X es[j].key eE[j].key/\eQ w X es[j].val eE[j].val)->ol G H l k es i=Y r->
  ∃o,Instr.findNow d q eE i=Y o/\uX w X i (O es) r o:=by
 intro es;induction es with
 |nil=>
  intro eE i r hl hr h;cases eE with
  |nil=>cases h;exact⟨J,Z,eR⟩
  |cons _ _=>simp at hl
 |cons e es C=>
 intro eE i r hl hr h;cases eE with
 |nil=>simp at hl
 |cons m eE=>
 obtain⟨f,g⟩:=hr 0 ei ei;simp only[wf]at f g;simp only[ol,fS]at h
 let⟨b,u,h⟩:=h
 have c:=Xr (P:=P) hH z v y f p u;cases b
 .obtain⟨o,K,s⟩:=C (i:=i+1) EE (λj D x=>by have:=hr (j+1) lW lW;simpa using this) h
  exact⟨o,by simp[Instr.findNow,c,K],s.dX⟩
 cases h;exact⟨Y (i,m.val),by simp[Instr.findNow,c],Z,g,fQ _,ei⟩
omit hF in
theorem Xt{t:TypeId}{k:A}{o:Value}(v:mV P t=Y l)(u:eQ w X k o):
  ∀{es:L gm}{eE:L MapEntry}{i:Nat}{r:Option (Nat×A×Nat)},
  O es=O eE->(∀j (h:j<O es)(n:j<O eE),eQ w X es[j].key eE[j].key/\eQ w X es[j].val eE[j].val)->ol G H l k es i=Y r->
  ∃g,(Instr.findAsking t o eE i).run P w=.ok g w/\uX w X i (O es) r g:=by
 intro es;induction es with
 |nil=>
  intro eE i r hl hr h;cases eE with
  |nil=>cases h;exact⟨J,Z,eR⟩
  |cons _ _=>simp at hl
 |cons e es x=>
 intro eE i r hl hr h;cases eE with
 |nil=>simp at hl
 |cons m eE=>
 obtain⟨d,f⟩:=hr 0 ei ei;simp only[wf]at d f;simp only[ol,fS]at h
 let⟨b,q,h⟩:=h
 have c:=Xq (P:=P) hH v u d q;cases b
 .obtain⟨g,K,p⟩:=x (i:=i+1) EE (λj y s=>by have:=hr (j+1) lW lW;simpa using this) h
  exact⟨g,by simp[Instr.findAsking,gb,c,K],p.dX⟩
 cases h;exact⟨Y (i,m.val),by simp[Instr.findAsking,gb,c],Z,f,fQ _,ei⟩
omit hF in
theorem JI{t:TypeId}{g:EK}{k:A}{C:Value}(R:ya P t=Y g)(D:eQ w X k C){es:L gm}{eE:Array MapEntry}{r:Option (Nat×A×Nat)}
  (o:eE.size=O es)(n:∀i (h:i<O es),eQ w X es[i].key (eE.getD i default).key/\eQ w X es[i].val (eE.getD i default).val/\(eE.getD i default).born=es[i].born)
  (h:ol G H g k es 0=Y r):∃b,(Instr.findKey t C eE.toList).run P w=.ok b w/\uX w X 0 (O es) r b:=by
 obtain⟨K,E⟩:=JG (H:=H) hH R;have p:O es=O eE.toList:=by simp[o]
 have v:∀j (h:j<O es)(W:j<O eE.toList),eQ w X es[j].key eE.toList[j].key/\eQ w X es[j].val eE.toList[j].val:=by
  intro j I h4;have:=n j I;have N:j<eE.size:=M
  simp only[Array.getD,N,th]at this;exact⟨by simpa using this.1,by simpa using this.2.1⟩
 have s:=Xt (P:=P) hH K D p v h;have u:(g=.int\/g=.bool\/g=.J)->∃d,P.underlying t=Y d/\∃b,Instr.findNow d C eE.toList 0=Y b/\uX w X 0 (O es) r b:=by
  intro f;have q:∃d,P.underlying t=Y d:=by
   obtain rfl|rfl|rfl:=f
   .obtain⟨_,Q⟩:=CO K;exact⟨_,Q⟩
   .exact⟨_,CP K⟩
   exact⟨_,CQ K⟩
  let⟨d,q⟩:=q
  exact⟨d,q,Xs (P:=P) hH K q D f p v h⟩
 have c:(g=.int\/g=.bool\/g=.J)->∃b,(Instr.findKey t C eE.toList).run P w=.ok b w/\uX w X 0 (O es) r b:=by intro f;obtain⟨d,q,b,z,y⟩:=u f;exact⟨b,by simp[Instr.findKey,gb,iB q,z],y⟩
 obtain rfl|rfl|rfl|rfl:=E
 .exact c (.inl Z)
 .exact c (.inr (.inl Z))
 .exact c (.inr (.inr Z))
 obtain⟨U,m,Q,_,_⟩:=Aw K
 let⟨b,z,y⟩:=s
 cases hal:eE.toList with
 |nil=>
  have:es=[]:=by apply pG;rw[p,hal];rfl
  subst this;cases h;exact⟨J,by simp[Instr.findKey,gb,iB Q,Instr.findNow],eR⟩
 |cons x l=>rw[hal]at z;exact⟨b,by simp[Instr.findKey,gb,iB Q,Instr.findNow,Instr.sameNow,z],y⟩
theorem Xu{o:Oper}{t:TypeId}{x k:Operand}{ok:Bool}(ho:o.op=.lookup t x k ok)(K:ib P o.op=Y io)(h:fG G dY F H io=Y e):iJ P B G H w X ((execOp a.eval o).run P w) e:=by
 simp only[ho,ib,fS]at K
 let⟨ix,hix,ik,hik,K⟩:=K
 split at K
 .rename_i kt et hu;simp only[fS,gA]at K;obtain⟨kd,f,z,hz,rfl⟩:=K;simp only[fG,fS,gA]at h;obtain⟨v,hv,kv,hkv,r,n,rfl⟩:=h;refine uC λhx=>?_;have U:=jU hH hF hik hkv;simp only[Jk,fS]at n
  let⟨q,D,n⟩:=n
  replace n:=ks.1 n
  let⟨u,n⟩:=n
  obtain⟨zv,Q,N⟩:=Aq (P:=P) hz w;have hex:execOp a.eval o=(do pure (.value (<-Instr.lookup t (a.eval x) (a.eval k) ok))):=by simp[execOp,ho]
  have key:∃(es:Array MapEntry)(b:Option (Nat×Value)),(Instr.lookup t (a.eval x) (a.eval k) ok).run P w=(do
    let(v,ok')<-match b with
     |some (_,v)=>pure (v,dT)
     |none=>pure (<-zeroValue et,dU)
    pure (if ok then .tuple #[v,.bool ok']else v):Sem Value).run P w/\uX w X 0 es.size q b:=by
   cases v<;>try cases D
   .have hx:=Ju hx;refine⟨#[],J,?_,eR⟩;have g:=JH (P:=P) hH dT 9999 f U u;have hfk:(Instr.findKey kt (a.eval k) []).run P w=.ok J w:=by
     obtain⟨r',d,e2⟩:=JI (P:=P) (eE:=#[]) (es:=[]) (r:=J) hH f U Z (λi hi=>by simp at hi) Z;cases r' with
     |none=>exact d
     |some _=>exact e2.elim
    simp[Instr.lookup,gb,iB hu,hx,g,hfk]
   rename_i p;simp only[fS]at D
   let⟨⟨es,W⟩,hm,D⟩:=D
   obtain⟨c,eE,hρ,hB,l,C,hU,hes⟩:=Ay hH hm;obtain⟨c',hx',R⟩:=Fb hx;obtain rfl:=gu (R.symm.trans hρ);obtain⟨b,d,e2⟩:=JI (P:=P) hH f U C hes D;refine⟨eE,b,?_,by rw[C];exact e2⟩;have g:=JH (P:=P) hH eE.isEmpty 9999 f U u;have s:=rx (P:=P) l pC;cases b<;>simp[Instr.lookup,gb,iB hu,hx',s,g,d]
  let⟨es,b,E,m⟩:=key
  refine lJ hH hex ?_;rw[E];cases q with
  |none=>
   cases b with
   |some _=>exact m.elim
   |none=>
   cases n;cases ok
   .exact⟨zv,by simp[gb,Q],N X⟩
   exact⟨.tuple #[zv,.bool dU],by simp[gb,Q],sq (vs:=[zv,.bool dU]) ((fR.nil.cons (.bool dU)).cons (N X))⟩
  |some q=>
  let⟨j,v2,b2⟩:=q
  cases b with
  |none=>exact m.elim
  |some b=>
  let⟨j',v'⟩:=b
  let⟨_,I,_⟩:=m
  cases n;cases ok
  .exact⟨v',by simp[gb],I⟩
  exact⟨.tuple #[v',.bool dT],by simp[gb],sq (vs:=[v',.bool dT]) ((fR.nil.cons (.bool dT)).cons I)⟩
 cases K
omit hF in
theorem CS{p:S}{o ao:AO}{c:Nat}{q:Obj}(f:Obj)(v:H.ep.dZ p=Y o)(K:X.ρ p=Y c)(r:¬B c)(g:w.heap[c]? =Y q)(u:∀x y z,q≠.cells x y z)(s:X.U c=0)
  (n:o≠.eY)(m:ao≠.eY)(t:∀h,h.heap[c]? =Y f->fL B w X h X->kR G h X ao c):
  ∃h,(setObj c f).run P w=.ok () h/\fL B w X h X/\fJ B G {H with ep:=H.ep.set p (Y ao)} h X:=by
 have b:c<w.heap.size:=qJ g;have k:nS c w {w with heap:=w.heap.setIfInBounds c f}:=by refine⟨Z,Z,Z,ei,λd l=>?_⟩;show(w.heap.setIfInBounds c f)[d]? =w.heap[d]?;rw[zG,gj (λe=>l e.symm)]
 have j:({w with heap:=w.heap.setIfInBounds c f}:World).heap[c]? =Y f:=by show(w.heap.setIfInBounds c f)[c]? =Y f;rw[zG];simp[b]
 have E:fL B w X {w with heap:=w.heap.setIfInBounds c f} X:=by refine N3 k r s (λi=>?_);simp only[World.cell?,g];cases q<;>first|rfl|exact absurd Z (u _ _ _)
 refine⟨_,?_,E,hH.put E v K (λd l=>k.other d l) (t _ j E) n m⟩;simp only[setObj,Sem.run,g]
omit hF hH in
theorem Xv{k:A}:∀{c:L gm}{i j b:Nat}{v:A},ol G H l k c i=Y (Y (j,v,b))->
  ∃h:j - i<O c,i<=j/\c[j - i].val=v/\c[j - i].born=b/\jj G H dU l k c[j - i].key=Y dT:=by
 intro c;induction c with
 |nil=>intro i j b v h;cases h
 |cons e c f=>
 intro i j b v h;simp only[ol,fS]at h
 let⟨r,n,h⟩:=h
 cases r
 .obtain⟨K,g,m,E,o⟩:=f h;have d:j - i=(j - (i+1))+1:=M
  refine⟨by rw[d];simp;omega,M,?_,?_,?_⟩<;>simp only[d,Nz]<;>assumption
 cases h;exact⟨ei,fQ _,ei,ei,by simpa using n⟩
omit hF in
theorem Xw{k i:A}{a b:Value}(o:l=.int\/l=.bool\/l=.J\/l=.ea)(g:p8 l k=dT)(j:eQ w X k a)(jp:eQ w X i b)(h:jj G H dU l k i=Y dT):Instr.sameBits 10000 b a=dT:=by
 obtain rfl|rfl|rfl|rfl:=o
 .cases k<;>try(simp[p8]at g;done)
  cases i<;>try(simp[jj]at h;done)
  simp only[jj]at h;refine Ez λh=>?_
  let⟨K,r⟩:=h
  have m:=qN j;have n:=qN jp;subst m;subst n;have:=Av K;rw[Au]at r;simp at r;simp[Instr.sameBits,this,r]
 .cases k<;>try(simp[p8]at g;done)
  cases i<;>try(simp[jj]at h;done)
  have m:=uR j;have n:=uR jp;subst m;subst n;rename_i x y;cases x<;>cases y<;>simp[jj]at h<;>rfl
 .cases k<;>try(simp[p8]at g;done)
  cases i<;>try(simp[jj]at h;done)
  obtain⟨f,rfl,m⟩:=mn j;obtain⟨s,rfl,n⟩:=mn jp;simp only[jj,uV]at h;simp at h;subst m;subst n;have:=WJ (Fi h);rw[this];simp[Instr.sameBits,JB]
 cases k<;>try(simp[p8]at g;done)
 .cases i<;>try(simp[jj]at h;done)
  rw[Js j,Js jp];simp[Instr.sameBits]
 .cases i<;>try(simp[jj]at h;done)
  rename_i p a q b;simp only[jj,mA]at h;by_cases e:p=q
  .simp[e]at h;subst e;obtain⟨c,rfl,hc⟩:=o7 j;obtain⟨d,rfl,hd⟩:=o7 jp;obtain rfl:=gu (hc.symm.trans hd);simp[Instr.sameBits,h]
  simp[e]at h;split at h<;>simp at h
 cases i<;>try(simp[jj]at h;done)
 rename_i p a q b;simp only[jj,mA]at h;by_cases e:p=q
 .simp[e]at h;subst e;obtain⟨c,rfl,hc⟩:=uS j;obtain⟨d,rfl,hd⟩:=uS jp;obtain rfl:=gu (hc.symm.trans hd);simp[Instr.sameBits,h]
 simp[e]at h;split at h<;>simp at h
omit hF hH in
theorem Xx{k v:A}:∀{b:L gm}{i:Nat}(j:Nat),(lz i k v b)[j]? =if j=i then(b[j]?).map (λe=>{key:=k,val:=v,born:=e.born})else b[j]? :=by
 intro b;induction b with
 |nil=>intro i j;simp[lz]
 |cons e b c=>
 intro i j;cases i with
 |zero=>
  cases j with
  |zero=>simp[lz]
  |succ j=>simp[lz]
 |succ i=>
 cases j with
 |zero=>simp[lz]
 |succ j=>simp[lz,c]
omit hF hH in
theorem JJ{k v:A}:∀{b:L gm}{i:Nat},O (lz i k v b)=O b:=by
 intro b;induction b with
 |nil=>intro i;simp[lz]
 |cons e b c=>intro i;cases i<;>simp[lz,c]
theorem Ov{o:Oper}{t:TypeId}{x k y:Operand}(Q:o.op=.mapUpdate t x k y\/o.op=.insert t x k y)(K:ib P o.op=Y io)(h:fG G dY F H io=Y e):iJ P B G H w X ((execOp a.eval o).run P w) e:=by
 have hex:execOp a.eval o=(do Instr.mapUpdate t (a.eval x) (a.eval k) (a.eval y);pure .skip):=by obtain Q|Q:=Q<;>simp[execOp,Q]
 have K:((iO x).bind λm=>(iO k).bind λk=>(iO y).bind λv=>match P.underlying t with
  |some (.map kt _)=>(ya P kt).map λkd=>jI.p9 kd m k v
  | _=>J)=Y io:=by obtain Q|Q:=Q<;>rw[Q]at K<;>exact K
 simp only[fS]at K
 let⟨ix,hix,ik,hik,iy,hiy,K⟩:=K
 split at K
 .rename_i kt et hu;simp only[gA]at K;obtain⟨kd,hkd,rfl⟩:=K;simp only[fG,fS]at h
  let⟨m,hm,kv,hkv,v,hv,h⟩:=h
  have hx:=jU hH hF hix hm;have hk:=jU hH hF hik hkv;have hy:=jU hH hF hiy hv;cases m<;>try cases h
  rename_i p;simp only[Jl,fS]at h
  let⟨⟨f,W⟩,g,h⟩:=h
  refine Ez λh=>?_
  let⟨hko,h⟩:=h
  simp only[fS]at h
  let⟨r,hr,h⟩:=h
  obtain⟨c,eE,hρ,hB,d,C,hU,s⟩:=Ay hH g;have N:H.ep.dZ p=Y (.map f W):=by
   unfold om at g;split at g
   .cases g;assumption
   cases g
  obtain⟨c',hx',hρ'⟩:=Fb hx;obtain rfl:=gu IJ;obtain⟨q,e1,e2⟩:=JI (P:=P) hH hkd hk C s hr;have hck:=JH (P:=P) hH dU 9999 hkd hk hko;have D:=rx (P:=P) d pC;have hkd2:=(JG (H:=H) hH hkd).2;have n:∀{R κ'},eQ R κ' (.eK []) undef:=λ{R κ'}=>.eK _ _ Z (λi I=>by simp at I);cases r with
  |none=>
   cases q with
   |some _=>exact e2.elim
   |none=>
   cases h;obtain⟨R,l,E,U⟩:=CS (P:=P) hH (ao:=.map (f++[{key:=kv,val:=v,born:=W}]) (W+1)) (.map (eE.push {key:=a.eval k,val:=a.eval y,born:=W}) (W+1)) N hρ hB d pC hU ei ei (by
    intro R hw' E;refine⟨_,hw',by simp[C],λi I=>?_⟩;simp only[iN,lV,uH]at I;by_cases hlt:i<O f
    .have:=s i hlt;have h1:i<eE.size:=M
     have h2:i<eE.size+1:=M
     simp only[Array.getD,Array.size_push,h1,h2,th]at this⊢;simp only[uE hlt,Array.getInternal_eq_getElem,Array.getElem_push_lt h1]at this⊢;exact⟨this.1.mono E,this.2.1.mono E,this.2.2⟩
    have u:i=O f:=M
    subst u;have h2:O f<eE.size+1:=M
    have h3:O f=eE.size:=C.symm;simp only[Array.getD,Array.size_push,h2,th];simp[h3];exact⟨hk.mono E,hy.mono E⟩)
   have hs:(Instr.mapUpdate t (a.eval x) (a.eval k) (a.eval y)).run P w=.ok () R:=by simp[Instr.mapUpdate,gb,iB hu,hx',D,hck,e1,l]
   rw[JD hex hs];exact⟨_,_,Z,_,_,_,_,Z,Z,E,U,n⟩
  |some r=>
  let⟨j,v0,b0⟩:=r
  cases q with
  |none=>exact e2.elim
  |some q=>
  let⟨j',v'⟩:=q
  obtain⟨rfl,hvr,_,hjlt⟩:=e2;cases h;obtain⟨hj,_,hj1,hj2,hj3⟩:=Xv hr;simp only[Nat.sub_zero]at hj hj1 hj2 hj3;have hjs:j<eE.size:=M
  have hkj:=(s j hj).1;have hgd:eE.getD j default=eE[j]:=by simp[Array.getD,hjs]
  rw[hgd]at hkj;have hsb:=Xw hH hkd2 hko hk hkj hj3;have hstay:(Instr.keyThatStays (((eE[j]?).map (·.key)).getD (a.eval k)) (a.eval k)).run P w=.ok (a.eval k) w:=by simp[Instr.keyThatStays,hjs,hsb]
  obtain⟨R,l,E,U⟩:=CS (P:=P) hH (ao:=.map (lz j kv v f) W) (.map (eE.modify j λe=>{e with key:=a.eval k,val:=a.eval y}) W) N hρ hB d pC hU ei ei (by
   intro R hw' E;refine⟨_,hw',by simp[C,JJ],λi I=>?_⟩;rw[JJ]at I;have u:i<eE.size:=M
   have h0:=s i I;have hgi:eE.getD i default=eE[i]:=by simp[Array.getD,u]
   rw[hgi]at h0;have hg2:(eE.modify j λe=>{e with key:=a.eval k,val:=a.eval y}).getD i default=if j=i then{eE[i]with key:=a.eval k,val:=a.eval y}else eE[i]:=by simp[Array.getD,u,Array.getElem_modify]
   rw[hg2];have b:(lz j kv v f)[i]? =if i=j then Y {key:=kv,val:=v,born:=f[i].born}else Y f[i]:=by rw[Xx];simp[I]
   have hi3:i<O (lz j kv v f):=by rw[JJ];exact I
   rw[jq hi3]at b;by_cases hij:i=j
   .subst hij;simp only[gO]at b⊢;have b:=gu b;rw[b];exact⟨hk.mono E,hy.mono E,h0.2.2⟩
   rw[gj hij]at b;rw[gj (λe=>hij e.symm)];have b:=gu b;rw[b];exact⟨h0.1.mono E,h0.2.1.mono E,h0.2.2⟩)
  have hs:(Instr.mapUpdate t (a.eval x) (a.eval k) (a.eval y)).run P w=.ok () R:=by simp only[Instr.mapUpdate,gb,iB hu,iV,hx',D,hck,e1,hstay,l]
  rw[JD hex hs];exact⟨_,_,Z,_,_,_,_,Z,Z,E,U,n⟩
 cases K
end
