/- Lemmas. No condition. -/
import Derived.Test.YtlkijhibifmamaaGreatDoorBE
set_option linter.all false
set_option autoImplicit true
set_option relaxedAutoImplicit true
set_option maxHeartbeats 0
set_option maxRecDepth 100000
noncomputable section
open Option renaming some→Y,none→J
open Bool renaming true→dT,false→dU
open List renaming length→O
namespace Go.As
open Go.RowKit
variable{P:Program}{G:ez}
def oB.len{K:Gk}{m:T AO}{p:S}{k:Kd}{dY:L A}(h:oB P G K m p k dY):O dY=2\/O dY=3\/O dY=4\/O dY=7:=by cases h<;>simp
def wR.mono{nv:Nat}{pr:S}{K K':Gk}{m m':T AO}{c:A}{p:S}(h:wR P G nv pr K m c p)(Q:ja K K')(f:∀b r,m.dZ b=Y (.dY r)->(O r=1\/O r=6)->m'.dZ b=Y (.dY r)):wR P G nv pr K' m' c p:=by
 cases h with
 |mk k e u v p d B nb l a o s t w q C x y D E H I N z F i j=>exact .mk k e u v p d B nb l a o s t w q C (f _ _ x (.inl Z)) (f _ _ y (.inr Z)) (f _ _ D (.inl Z)) (f _ _ E (.inl Z)) (Q _ _ H) I N z F i j
def Gi(P:Program)(G:ez)(nv:Nat)(W:L S)(pr:S)(K:Gk)(m:T AO)(hZ:L A):Prop:=∃t:L S,O t=O hZ/\t.Nodup/\(∀p∈t,p∉W)/\(∀i (h:i<O hZ)(a:i<O t),wR P G nv pr K m hZ[i] t[i])/\∀p d B nb,K p=Y (.op d B nb)->p∈t\/p∈W
def Gi.mono{nv:Nat}{W:L S}{pr:S}{K K':Gk}{m m':T AO}{hZ:L A}(h:Gi P G nv W pr K m hZ)(l:∀p d B nb,K' p=Y (.op d B nb)->K p=Y (.op d B nb)\/p∈W)(k:ja K K')(f:∀b r,m.dZ b=Y (.dY r)->(O r=1\/O r=6)->m'.dZ b=Y (.dY r)):Gi P G nv W pr K' m' hZ:=by
 let⟨t,c,e,j,E,H⟩:=h
 exact⟨t,c,e,j,λi C a=>(E i C a).mono k f,λp d B nb hp=>(l p d B nb hp).elim (λh=>H p d B nb h) .inr⟩
structure Rd (P:Program)(G:ez)(nv:Nat)(W:List S)(pr:S)(m:T AO)(n:S)(K:Gk)(gY:List S)(hZ:List A)(tv tl:Option S):Prop where
 eH:eX m n
 kE:jo P G K m
 dY:∃vv vl,m.dZ pr=some (.dY [vv,vl])∧Ap m 1 vv (gp gY) tv∧Ap m 1 vl hZ tl
 gY:ke K gY
 hZ:Gi P G nv W pr K m hZ
 ne:∀q,tv=some q→tl≠some q
 pV:K pr=none
 ns:∀p d bo nb dY,K p=some (.op d bo nb)→m.dZ p=some (.dY dY)→dY[5]? =some .ej
section
variable{nv:Nat}{W:List S}{pr:S}{m:T AO}{n:S}{K:Gk}{gY:List S}{hZ:List A}{tv tl:Option S}
def Rd.lt(h:Rd P G nv W pr m n K gY hZ tv tl){p:S}{k:Kd}(hp:K p=Y k):p.dV<n.dV:=by obtain⟨dY,a,_⟩:=h.kE p k hp;exact h.eH p _ a
def Rd.qX(h:Rd P G nv W pr m n K gY hZ tv tl):pr.dV<n.dV:=by
 let⟨_,_,a,_⟩:=h.dY
 exact h.eH pr _ a
def Rd.fresh(h:Rd P G nv W pr m n K gY hZ tv tl){p:S}(hp:n.dV<=p.dV):K p=J:=by
 cases hk:K p with
 |none=>rfl
 |some k=>have:=h.lt hk;omega
def Rd.rM(h:Rd P G nv W pr m n K gY hZ tv tl){q:S}(t:tv=Y q):m.dZ q=Y .eY/\q.dV<n.dV:=by
 let⟨e,c,a,r,b⟩:=h.dY
 exact⟨r.eY q t,h.eH q _ (r.eY q t)⟩
def Rd.sT(h:Rd P G nv W pr m n K gY hZ tv tl){q:S}(t:tl=Y q):m.dZ q=Y .eY/\q.dV<n.dV:=by
 let⟨e,c,b,r,a⟩:=h.dY
 exact⟨a.eY q t,h.eH q _ (a.eY q t)⟩
def Rd.jQ(h:Rd P G nv W pr m n K gY hZ tv tl){ex:S->Prop}{m':T AO}{n':S}(f:Fr ex m m')(j:eX m' n')(v:∀q,ex q->(∀o,m.dZ q=Y o->o=.eY)/\tv≠Y q/\tl≠Y q):Rd P G nv W pr m' n' K gY hZ tv tl:=by
 have dY:∀b r,m.dZ b=Y (.dY r)->m'.dZ b=Y (.dY r):=λb r j=>f b _ (λe=>by cases(v b e).1 _ j) j
 let⟨x,w,a,l,s⟩:=h.dY
 exact⟨j,h.kE.fr (λp k hp=>(by obtain⟨r,a,_⟩:=h.kE p k hp;rw[a];exact dY p r a)),
  ⟨x,w,dY _ _ a,l.mono λq e=>f q _ (λc=>(v q c).2.1 e) (l.eY q e),s.mono λq e=>f q _ (λc=>(v q c).2.2 e) (s.eY q e)⟩,
  h.gY,h.hZ.mono (λ_ _ _ _ h=>.inl h) (ja.refl K) λb r j _=>dY b r j,h.ne,h.pV,λp d B nb r hp t=>by obtain⟨u,i,_⟩:=h.kE p _ hp;have:=dY p u i;rw[t]at this;cases this;exact h.ns p d B nb _ hp i⟩
def Rd.ew(h:Rd P G nv W pr m n K gY hZ tv tl)(o:AO):Rd P G nv W pr (m.set n (Y o)) n.succ K gY hZ tv tl:=
 h.jQ (ex:=λ_=>False) (Fr.refl.ew h.eH) h.eH.ew qy
def Rd.put(h:Rd P G nv W pr m n K gY hZ tv tl){p:S}(hp:p.dV<n.dV)(v:K p=J)(i:p≠pr)(x:tv≠Y p)(o:tl≠Y p)(f:∀a,m.dZ p=Y (.dY a)->O a≠1/\O a≠6):Rd P G nv W pr (m.set p (Y (.dY r))) n K gY hZ tv tl:=by
 have dY:∀b a,m.dZ b=Y (.dY a)->b≠p->(m.set p (Y (.dY r))).dZ b=Y (.dY a):=λb a j e=>by rw[T.gh _ _ _ _ e];exact j
 let⟨z,y,w,s,u⟩:=h.dY
 refine⟨h.eH.put hp,h.kE.fr λq k t=>T.gh _ _ _ _ λe=>(by subst e;rw[v]at t;cases t),⟨z,y,dY _ _ w (λe=>i e.symm),s.mono λq e=>?_,u.mono λq e=>?_⟩,h.gY,h.hZ.mono (λ_ _ _ _ h=>.inl h) (ja.refl K) λb a j l=>dY b a j λe=>?_,h.ne,h.pV,λq d B nb r t l=>?_⟩
 .rw[T.gh _ _ _ _ (λc=>x (by rw[e,c]))];exact s.eY q e
 .rw[T.gh _ _ _ _ (λc=>o (by rw[e,c]))];exact u.eY q e
 .subst e;have:=f a j;omega
 rw[T.gh _ _ _ _ (λe=>by subst e;rw[v]at t;cases t)]at l;exact h.ns q d B nb r t l
def Rd.iW(h:Rd P G nv W pr m n K gY hZ tv tl){t:Option S}(j:∀q,t=Y q->m.dZ q=Y .eY/\tv≠Y q/\tl≠Y q):Rd P G nv W pr (lC t m n) n.succ K gY hZ tv tl:=by
 refine h.jQ (ex:=λq=>t=Y q) (λq o a w=>?_) h.eH.iW (λq e=>⟨λo w=>?_,(j q e).2⟩)
 .rw[jZ (by have:=h.eH q o w;omega) a];exact w
 rw[(j q e).1]at w;exact(gu w).symm
def Rd.upd(h:Rd P G nv W pr m n K gY hZ tv tl){p:S}{k:Kd}{dY:L A}(hp:K p=Y k)(y:∀d nb,k≠.fO d nb)(v:oB P G K m p k dY)(o:∀d B nb,k=.op d B nb->dY[5]? =Y .ej)(f:∀d nb c N w,k=.eC d nb->m.dZ p=Y (.dY [c,N,w])->∃i l,dY=[c,i,l]):Rd P G nv W pr (m.set p (Y (.dY dY))) n K gY hZ tv tl:=by
 obtain⟨H,z,D⟩:=h.kE p k hp;have C:=D.len
 let⟨F,E,x,s,u⟩:=h.dY
 have eY:∀q,m.dZ q=Y .eY->(m.set p (Y (.dY dY))).dZ q=Y .eY:=λq t=>by rw[T.gh _ _ _ _ (λe=>by subst e;rw[z]at t;cases t)];exact t
 refine⟨h.eH.put (h.lt hp),h.kE.upd hp y v f,⟨F,E,?_,s.mono λq e=>eY q (s.eY q e),u.mono λq e=>eY q (u.eY q e)⟩,h.gY,h.hZ.mono (λ_ _ _ _ h=>.inl h) (ja.refl K) λb r j v=>?_,h.ne,h.pV,λq d B nb r t a=>?_⟩
 .rw[T.gh _ _ _ _ (λe=>by subst e;rw[h.pV]at hp;cases hp)];exact x
 .rw[T.gh _ _ _ _ (λe=>by subst e;rw[z]at j;cases j;omega)];exact j
 rw[T.jr]at a;split at a
 .rename_i e;subst e;rw[hp]at t;rw[<-AO.dY.inj (gu a)];exact o d B nb (gu t)
 exact h.ns q d B nb r t a
def Rd.add(h:Rd P G nv W pr m n K gY hZ tv tl){p:S}{k:Kd}{dY:L A}(hp:K p=J)(c:p≠pr)(f:m.dZ p=Y (.dY dY))(l:oB P G (K.add p k) m p k dY)(b:∀d B nb,k=.op d B nb->dY[5]? =Y .ej)(i:∀d B nb,k=.op d B nb->p∈W):Rd P G nv W pr m n (K.add p k) gY hZ tv tl:=
 ⟨h.eH,h.kE.add hp f l,h.dY,h.gY.mono (Gk.sS hp),h.hZ.mono (λq d B nb t=>by
  by_cases e:q=p
  .subst e;rw[Gk.A1]at t;exact .inr (i d B nb (gu t))
  .rw[Gk.wQ e]at t;exact .inl t) (Gk.sS hp) λ_ _ j _=>j,h.ne,(by rw[Gk.wQ (λe=>c e.symm)];exact h.pV),λq d B nb r t a=>by
  by_cases e:q=p
  .subst e;rw[f]at a;cases a;rw[Gk.A1]at t;exact b d B nb (gu t)
  rw[Gk.wQ e]at t;exact h.ns q d B nb r t a⟩
def Rd.Gj(h:Rd P G nv W pr m n K gY hZ tv tl)(o:Ap m 1 f hZ tl)(a:K v=Y .val){k:Nat}(u:O gY=k):
  Rd P G nv W pr ((lC tv m n).set pr (Y (.dY [.eG 1 (k+1) (gp gY++[.ea v 0]) (.open n),f]))) n.succ K (gY++[v]) hZ (Y n) tl:=by
 let⟨C,y,l,z,B⟩:=h.dY
 have w:=h.qX;have x:tv≠Y pr:=λe=>by have:=(h.rM e).1;rw[l]at this;cases this
 have s:tl≠Y pr:=λe=>by have:=(h.sT e).1;rw[l]at this;cases this
 have dY:∀b r,m.dZ b=Y (.dY r)->b≠pr->((lC tv m n).set pr (Y (.dY [.eG 1 (k+1) (gp gY++[.ea v 0]) (.open n),f]))).dZ b=Y (.dY r):=λb r j e=>by rw[T.gh _ _ _ _ e,jZ (by have:=h.eH b _ j;omega) (λe=>by have:=(h.rM e).1;rw[j]at this;cases this)];exact j
 refine⟨h.eH.iW.put kP,h.kE.fr λp kk hp=>?_,⟨_,f,fY,?_,?_⟩,λq hq=>?_,h.hZ.mono (λ_ _ _ _ h=>.inl h) (ja.refl K) λb r j hr=>dY b r j λe=>?_,λq e=>?_,h.pV,λq d bo nb r hq hr=>?_⟩
 .exact Uh
 .rw[show gp (gY++[v])=gp gY++[.ea v 0] by simp[gp]];refine .eG _ _ _ ?_ (by simp[gp,u]);rw[eJ M];exact oQ
 .refine o.mono λq e=>?_;obtain⟨g1,t⟩:=h.sT e;rw[T.gh _ _ _ _ (λi=>s (by rw[e,i])),jZ M (λi=>h.ne q i e)];exact g1
 .obtain c|c:=jf.1 hq
  .exact h.gY q c
  simp only[eZ,f7,fZ]at c;subst c;exact a
 .subst e;rw[l]at j;cases j;simp at hr
 .cases e;intro e;have:=(h.sT e).2;omega
 exact V9
def Rd.KE{o:S}(h:Rd P G nv (o::W) pr m n K gY hZ tv tl)(w:o∉W)(Q:Ap m 1 u (gp gY) tv){c:A}(D:wR P G nv pr K m c o){k:Nat}(H:O hZ=k):
  Rd P G nv W pr ((lC tl m n).set pr (Y (.dY [u,.eG 1 (k+1) (hZ++[c]) (.open n)]))) n.succ K gY (hZ++[c]) tv (Y n):=by
 let⟨vv',vl',v,h2,h3⟩:=h.dY
 have I:=h.qX;have x:tv≠Y pr:=λe=>by have:=(h.rM e).1;rw[v]at this;cases this
 have U:tl≠Y pr:=λe=>by have:=(h.sT e).1;rw[v]at this;cases this
 have dY:∀b r,m.dZ b=Y (.dY r)->b≠pr->((lC tl m n).set pr (Y (.dY [u,.eG 1 (k+1) (hZ++[c]) (.open n)]))).dZ b=Y (.dY r):=λb r j e=>by rw[T.gh _ _ _ _ e,jZ (by have:=h.eH b _ j;omega) (λe=>by have:=(h.sT e).1;rw[j]at this;cases this)];exact j
 refine⟨h.eH.iW.put kP,h.kE.fr λp kk hp=>?_,⟨u,_,fY,?_,?_⟩,h.gY,?_,λq e s=>?_,h.pV,λq d bo nb r hq hr=>?_⟩
 .exact Uh
 .refine Q.mono λq e=>?_;obtain⟨g1,t⟩:=h.rM e;rw[T.gh _ _ _ _ (λs=>x (by rw[e,s])),jZ M (λs=>h.ne q e s)];exact g1
 .refine .eG _ _ _ ?_ (by simp[H]);rw[eJ M];exact oQ
 .have f:∀b r,m.dZ b=Y (.dY r)->(O r=1\/O r=6)->((lC tl m n).set pr (Y (.dY [u,.eG 1 (k+1) (hZ++[c]) (.open n)]))).dZ b=Y (.dY r):=λb r j hr=>dY b r j λe=>by subst e;rw[v]at j;cases j;simp at hr
  let⟨R,g1,t,y,z,C⟩:=h.hZ
  refine⟨R++[o],by simp[g1],B1.2 ⟨t,ei,λa B b j e=>?_⟩,λp hp=>?_,λi E F=>?_,λp d bo nb hp=>?_⟩
  .simp only[eZ,f7,fZ]at j;subst j e;exact y _ B ei
  .obtain l|l:=jf.1 hp
   .exact λN=>y p l (by simp[N])
   simp only[eZ,f7,fZ]at l;subst l;exact w
  .by_cases e:i<O hZ
   .rw[uE e,uE M];exact(z i e M).mono (ja.refl K) f
   have:i=O hZ:=by simp at E;omega
   subst this;rw[Ab (fQ _),Ab M];simp only[BZ,wf,<-g1];exact D.mono (ja.refl K) f
  obtain l|l:=C p d bo nb hp
  .exact .inl (by simp[l])
  obtain e|e:=eZ.1 l
  .exact .inl (by simp[e])
  exact .inr e
 .cases s;have:=(h.rM e).2;omega
 exact V9
def Rd.cons(h:Rd P G nv W pr m n K gY hZ tv tl){o:S}(w:K o=J):Rd P G nv (o::W) pr m n K gY hZ tv tl:=by
 let⟨s,j,t,k,b,C⟩:=h.hZ
 refine⟨h.eH,h.kE,h.dY,h.gY,⟨s,j,t,λp hp N=>?_,b,λp d B nb hp=>(C p d B nb hp).imp id λe=>by simp[e]⟩,h.ne,h.pV,h.ns⟩;obtain e|e:=eZ.1 N
 .subst e;obtain⟨i,l,rfl⟩:=km hp;have:=b i M l;generalize hZ[i]=c at this;cases this with
  |mk f x u v p d B nb y a z D F U q R I r Q E H=>rw[w]at H;cases H
 exact k p hp e
end
structure iG (pr:S)(ex:S→Prop)(m:T AO)(n:S)(K:Gk)(tv tl:Option S)(m':T AO)(n':S)(K':Gk)(tv' tl':Option S):Prop where
 fr:Fr (fun q=>q=pr∨tv=some q∨tl=some q∨ex q) m m'
 sub:ja K K'
 old:∀q:S,q.dV<n.dV→K' q=K q
 dX:n.dV≤n'.dV
 tv:∀q:S,tv'=some q→tv=some q∨n.dV≤q.dV
 tl:∀q:S,tl'=some q→tl=some q∨n.dV≤q.dV
section
variable{pr:S}{ex ex':S→Prop}{m m' m'':T AO}{n n' n'':S}{K K' K'':Gk}{tv tl tv' tl' tv'' tl'':Option S}
def iG.refl:iG pr ex m n K tv tl m n K tv tl:=⟨Fr.refl,ja.refl K,λ_ _=>Z,fQ _,λ_ h=>.inl h,λ_ h=>.inl h⟩
def iG.trans(h:iG pr ex m n K tv tl m' n' K' tv' tl')(k:iG pr ex' m' n' K' tv' tl' m'' n'' K'' tv'' tl'')(j:eX m n)(v:∀q,ex' q->ex q\/n.dV<=q.dV):iG pr ex m n K tv tl m'' n'' K'' tv'' tl'':=by
 refine⟨λq o t w=>k.fr q o (λa=>?_) (h.fr q o t w),h.sub.trans k.sub,λq t=>(k.old q (by have:=h.dX;omega)).trans (h.old q t),ny h.dX k.dX,λq t=>?_,λq t=>?_⟩
 .have b:=j q o w;obtain e|e|e|e:=a
  .exact t (.inl e)
  .obtain e|e:=h.tv q e
   .exact t (.inr (.inl e))
   omega
  .obtain e|e:=h.tl q e
   .exact t (.inr (.inr (.inl e)))
   omega
  obtain e|e:=v q e
  .exact t (.inr (.inr (.inr e)))
  omega
 .obtain e|e:=k.tv q t
  .exact h.tv q e
  exact .inr (by have:=h.dX;omega)
 obtain e|e:=k.tl q t
 .exact h.tl q e
 exact .inr (by have:=h.dX;omega)
def iG.ew(j:eX m n)(o:AO):iG pr ex m n K tv tl (m.set n (Y o)) n.succ K tv tl:=
 ⟨Fr.refl.ew j,ja.refl K,λ_ _=>Z,by rw[S.gG];omega,λ_ h=>.inl h,λ_ h=>.inl h⟩
def iG.put{p:S}{o:AO}(hp:ex p):iG pr ex m n K tv tl (m.set p (Y o)) n K tv tl:=
 ⟨Fr.refl.put (.inr (.inr (.inr hp))),ja.refl K,λ_ _=>Z,fQ _,λ_ h=>.inl h,λ_ h=>.inl h⟩
def iG.iW{t:Option S}(j:eX m n)(b:∀q,t=Y q->ex q):iG pr ex m n K tv tl (lC t m n) n.succ K tv tl:=
 ⟨λq o a w=>by rw[jZ (by have:=j q o w;omega) (λe=>a (.inr (.inr (.inr (b q e)))))];exact w,ja.refl K,λ_ _=>Z,by rw[S.gG];omega,λ_ h=>.inl h,λ_ h=>.inl h⟩
def iG.add{p:S}{k:Kd}(hp:K p=J)(E:n.dV<=p.dV):iG pr ex m n K tv tl m n (K.add p k) tv tl:=
 ⟨Fr.refl,Gk.sS hp,λq t=>Gk.wQ λe=>by subst e;omega,fQ _,λ_ h=>.inl h,λ_ h=>.inl h⟩
def iG.Gj{o:AO}(j:eX m n):iG pr ex m n K tv tl ((lC tv m n).set pr (Y o)) n.succ K (Y n) tl:=
 ⟨Fr.put (λq o t w=>by rw[jZ (by have:=j q o w;omega) (λe=>t (.inr (.inl e)))];exact w) (.inl Z),ja.refl K,λ_ _=>Z,by rw[S.gG];omega,λq h=>by cases h;exact .inr (fQ _),λ_ h=>.inl h⟩
def iG.KE{o:AO}(j:eX m n):iG pr ex m n K tv tl ((lC tl m n).set pr (Y o)) n.succ K tv (Y n):=
 ⟨Fr.put (λq o t w=>by rw[jZ (by have:=j q o w;omega) (λe=>t (.inr (.inr (.inl e))))];exact w) (.inl Z),ja.refl K,λ_ _=>Z,by rw[S.gG];omega,λ_ h=>.inl h,λq h=>by cases h;exact .inr (fQ _)⟩
end
def PL.of{m:T AO}{s:L S}{t:Option S}(h:Ap m 1 v (gp s) t):PL s v:=by
 generalize e:gp s=w at h;cases h with
 |nil=>exact .inl ⟨Z,by simpa[gp]using e⟩
 |eG j w t h o=>
 subst e;have:j=O s:=by simp[gp]at o;omega
 subst this;exact .inr ⟨_,Z⟩
def aax:∀{s q:L S},gp s=gp q->s=q:=by
 intro s;induction s with
 |nil=>intro q h;cases q with|nil=>rfl|cons a l=>cases h
 |cons a l i=>intro q h;cases q with|nil=>cases h|cons b C=>simp only[gp,jL,ti,A.ea.injEq,pA]at h;rw[h.1,i h.2]
def PL.lT{s q:L S}(h:PL s v)(k:PL q v):s=q:=by
 obtain⟨rfl,rfl⟩|⟨t,rfl⟩:=h
 .obtain⟨_,rfl⟩|⟨t,e⟩:=k
  .rfl
  cases e
 obtain⟨e,_⟩|⟨a,e⟩:=k
 .cases e
 injection e with _ _ h _;exact aax h
def vM.iW{m:T AO}{n g p:S}{t:Option S}(h:vM m g p)(j:eX m n)(c:∀q,t=Y q->m.dZ q=Y .eY):vM (lC t m n) g p:=by
 let⟨o,b,H,a,y,N⟩:=h
 refine⟨o,b,H,?_,y,N⟩;rw[jZ (by have:=j g _ a;omega) (λe=>by have:=c g e;rw[a]at this;cases this)];exact a
def vM.ew{m:T AO}{n g p:S}{o:Option AO}(h:vM m g p)(j:eX m n):vM (m.set n o) g p:=by
 let⟨o,a,H,b,y,N⟩:=h
 exact⟨o,a,H,by rw[eJ (by have:=j g _ b;omega)];exact b,y,N⟩
def Rd.eC{nv:Nat}{W:L S}{pr:S}{m:T AO}{n:S}{K:Gk}{gY:L S}{hZ:L A}{tv tl:Option S}(R:Rd P G nv W pr m n K gY hZ tv tl){b g:S}{d nb:Nat}{s a:A}(j:K b=Y (.eC d nb))(e:m.dZ b=Y (.dY [.ea g 0,s,a])):
  K g=Y (.fO d nb)/\vM m g b/\∃F c,PL F s/\ke K F/\PL c a/\(∀q∈c,∃p,K q=Y (.op (d+1) (Y b) p))/\O F<=eI/\O c<=eI/\c.Nodup:=by
 obtain⟨o,l,y⟩:=R.kE b _ j;rw[e]at l;cases l;generalize k:Kd.eC d nb=kb at y;cases y with
 |eC d nb g f u i h w t x z C B D v r=>cases k;exact⟨w,B,i,h,t,x,z,C,D,v,r⟩
def jo.KF{K:Gk}{m:T AO}(h:jo P G K m){p:S}{d:Nat}{nb:Nat}(hp:K p=Y (.op d B nb)){N j l a o c6:A}(b:m.dZ p=Y (.dY [.J v,N,j,l,a,o,c6])){e:L S}(z:PL e a):(∀q∈e,∃c,m.dZ q=Y (.dY [.ea p 0,c]))/\e.Nodup/\O e<=100:=by
 obtain⟨dY,i,r⟩:=h p _ hp;rw[b]at i;cases i;generalize U:Kd.op d B nb=k at r;cases r with
 |op d B nb v I Q f a t os rs E R ss h1 r h3 h4 h5 h6 h7 h8 F s u w x y l1 l2 l3 l4 l5 C D H=>obtain rfl:=PL.lT z F;exact⟨C,D,H⟩
def Rd.eY{nv:Nat}{W:L S}{pr:S}{m:T AO}{n:S}{K:Gk}{gY:L S}{hZ:L A}{tv tl:Option S}(R:Rd P G nv W pr m n K gY hZ tv tl){q:S}(t:m.dZ q=Y (.dY r)):tv≠Y q/\tl≠Y q:=
 ⟨λe=>(by have:=(R.rM e).1;rw[t]at this;cases this),λe=>(by have:=(R.sT e).1;rw[t]at this;cases this)⟩
open Classical in
def Gk.fO(K:Gk)(g:S)(bl:L S)(d nb:Nat):Gk:=λq=>if q=g then Y (.fO d nb)else if q∈bl then Y (.eC d nb)else K q
section
variable{nv:Nat}{W:List S}{pr:S}{m:T AO}{n:S}{K:Gk}{gY:List S}{hZ:List A}{tv tl:Option S}{g:S}{bl:List S}{d nb:Nat}
def Gk.Dk:K.fO g bl d nb g=Y (.fO d nb):=by simp[Gk.fO]
def Gk.Dl(F:g∉bl)(j:b∈bl):K.fO g bl d nb b=Y (.eC d nb):=by have:b≠g:=λe=>F (e▸j);simp[Gk.fO,this,j]
def Gk.A2{q:S}(a:q≠g)(r:q∉bl):K.fO g bl d nb q=K q:=by simp[Gk.fO,a,r]
def Gk.P2(F:K g=J)(j:∀b∈bl,K b=J):ja K (K.fO g bl d nb):=λp k hp=>by rw[Gk.A2 (λe=>by rw[e,F]at hp;cases hp) (λe=>by rw[j p e]at hp;cases hp)];exact hp
def Rd.aay(h:Rd P G nv W pr m n K gY hZ tv tl)(F:K g=J)(j:∀b∈bl,K b=J)(a:g∉bl)(x:g≠pr)(v:pr∉bl){o:S}{p:Nat}{c:A}(w:K o=Y (.op d B p))(f:m.dZ g=Y (.dY [.ea o 0,c]))(l:PL bl c)(R:O bl=nb)(I:1<=nb)(Q:nb<=200)
  (k:∀b∈bl,m.dZ b=Y (.dY [.ea g 0,.ej,.ej]))(z:bl.Nodup):Rd P G nv W pr m n (K.fO g bl d nb) gY hZ tv tl:=by
 have u:ja K (K.fO g bl d nb):=Gk.P2 F j;refine⟨h.eH,λq kq t=>?_,h.dY,h.gY.mono u,h.hZ.mono (λq C i s t=>.inl (by
  by_cases e:q=g
  .subst e;rw[Gk.Dk]at t;cases t
  by_cases y:q∈bl
  .rw[Gk.Dl a y]at t;cases t
  rw[Gk.A2 e y]at t;exact t)) u λ_ _ j _=>j,h.ne,(by rw[Gk.A2 (λe=>x e.symm) v];exact h.pV),λq C i s r t U=>?_⟩
 by_cases e:q=g
 .subst e;rw[Gk.Dk]at t;cases t;exact⟨_,f,.fO d nb o B p c bl (u _ _ w) l R I Q (λb j=>Gk.Dl a j) (λb j=>⟨_,_,k b j⟩) z⟩
 .by_cases y:q∈bl
  .rw[Gk.Dl a y]at t;cases t;exact⟨_,k q y,.eC d nb g _ _ [] [] Gk.Dk zU (λq t=>by cases t) zU (λq t=>by cases t) ⟨_,c,bl,f,l,y⟩ ei ei pE⟩
  rw[Gk.A2 e y]at t;obtain⟨r,E,H⟩:=h.kE q kq t;exact⟨r,E,H.mono u zJ λ_ _ _ _ N D _ e=>⟨N,D,e⟩⟩
 by_cases e:q=g
 .subst e;rw[Gk.Dk]at t;cases t
 by_cases y:q∈bl
 .rw[Gk.Dl a y]at t;cases t
 rw[Gk.A2 e y]at t;exact h.ns q C i s r t U
end
inductive A3 (O:List A→Nat→Prop):List A→Nat→Prop
 |mk (va vo:A)(ops:List (List A))(f:Nat→Nat)(h4:fT 6 ops vo)(h7:∀k (h:k<ops.length),O ops[k] (f k)):A3 O [va,vo] (fV f ops.length)
inductive Dn (O:List A→Nat→Prop):List A→Nat→Prop
 |mk (vb:A)(bs:List (List A))(f:Nat→Nat)(h1:fT 2 bs vb)(h4:∀k (h:k<bs.length),A3 O bs[k] (f k)):Dn O [vb] (fV f bs.length)
inductive Gl (O:List A→Nat→Prop):List A→Nat→Prop
 |mk (c0 c1 c2 c3 vg c5:A)(gs:List (List A))(f:Nat→Nat)(h1:fT 1 gs vg)(h2:∀k (h:k<gs.length),Dn O gs[k] (f k)):Gl O [c0,c1,c2,c3,vg,c5] (1+fV f gs.length)
def OpC:Nat->L A->Nat->Prop
 |0=>λ_ _=>False
 |d+1=>Gl (OpC d)
def aaz{o:Nat}(C:0<o):∀{s q:L (L A)},(∀x∈s,O x=o)->(∀y∈q,O y=o)->s.flatten=q.flatten->s=q:=by
 intro s;induction s with
 |nil=>
  intro q _ a h;cases q with
  |nil=>rfl
  |cons y q=>have:=fW O h;simp[a y (by simp)]at this;omega
 |cons x s i=>
 intro q v a h;cases q with
 |nil=>have:=fW O h;simp[v x (by simp)]at this;omega
 |cons y q=>simp only[nK]at h;obtain⟨K,r⟩:=List.append_inj h (by rw[v x (by simp),a y (by simp)]);rw[K,i (λz c=>v z (by simp[c])) (λz c=>a z (by simp[c])) r]
def fT.lT{o:Nat}(C:0<o){s q:L (L A)}(h:fT o s v)(k:fT o q v):s=q:=by
 refine aaz C h.2 k.2 ?_;obtain⟨rfl,_,h1⟩|⟨t,_,rfl,_⟩:=h.1
 .obtain⟨_,_,W⟩|⟨t,_,W,_⟩:=k.1
  .rw[h1,W]
  cases W
 obtain⟨W,_⟩|⟨t,_,W,_⟩:=k.1
 .cases W
 injection W
def aaA(P:Program)(G:ez)(q:Nat)(k:S)(x:L A)(d:Nat)(B:Option S)(l i s:Nat)(m:T AO)(n:S)(K:Gk)(W h:L S)(c:L A)(u t:Option S)(r:A)(D:eM):Prop:=
 ∃p C b a g f,r=.ea p 0/\Rd P G q W k D.ep D.dX C b a g f/\iG k (λ_=>False) m n K u t D.ep D.dX C g f/\O b=O h+i/\O a=O c+s/\C p=Y (.op d B l)/\n.dV<=p.dV/\
  ∀e o,x[4]? =Y o->fT 1 e o->∃dY j E,D.ep.dZ p=Y (.dY dY)/\dY[4]? =Y j/\PL E j/\O E=O e
def P3(P:Program)(G:ez)(q:Nat)(f:S)(j:Nat):Prop:=∀(d l i e:Nat)(x:L A)(B:Option S),jJ (nZ P G q) j l x i->OpC j x e->∀(m:T AO)(n:S)(K:Gk)(W c:L S)(a:L A)(g t:Option S),
 Rd P G q W f m n K c a g t->O c+i<=LB->O a+e<=LB->(d=0->B=J/\l=0/\x[0]? =Y (.J ql))->(∀y,d=y+1->∃b,B=Y b/\K b=Y (.eC y l))->(∀p∈W,p.dV<n.dV)->d+j<=LB->
 ∃r D,aaA P G q f x d B l i e m n K W c a g t r D/\eL P G 110 [.ea f 0,.agg x,kV B] ⟨m,n⟩ λH h=>H=r/\h=D
def aaB(C:pT P G){x:S}(hop:P3 P G nv x ht)(hy:sJ (nZ P G nv) (jJ (nZ P G nv) ht) nb y n0)(hc:A3 (OpC ht) y c0){b g:S}{n:S}{tv t:Option S}
  (R:Rd P G nv W x m n K I l tv t)(hl1:O I+n0<=LB)(hl2:O l+c0<=LB)(hb:K b=Y (.eC d nb))(hrow:m.dZ b=Y (.dY [.ea g 0,.ej,.ej]))(hW:∀p∈W,p.dV<n.dV)(hdl:d+1+ht<=LB):
  ∃r H',(∃K' vals' links' tv' tl',Rd P G nv W x H'.ep H'.dX K' vals' links' tv' tl'/\iG x (·=b) m n K tv t H'.ep H'.dX K' tv' tl'/\O vals'=O I+n0/\O links'=O l+c0)/\
   eL P G 165 [.ea x 0,.agg y,.ea b 0] ⟨m,n⟩ λr1 H1=>r1=r/\H1=H':=by
 have hLB:LB=1099511627776:=Z;refine gT λhM=>?_;cases hy with
 |mk va vo args ops f h1 h2 h3 h4 h5 h6 h7=>
 cases hc with
 |mk _ _ F fc k1 k2=>
 obtain rfl:F=ops:=fT.lT M k1 h4;have hbpr:b≠x:=λe=>by rw[e,R.pV]at hb;cases hb
 have hbn:=R.lt hb;refine eL.fj (C.fs.h 165) (wK ?_);refine A0 (wK ?_);refine eu fY ?_;refine fM h1 ?_;have R10:=R.ew (.dY [va,vo]);have G10:iG x (·=b) m n K tv t (m.set n (Y (.dY [va,vo]))) n.succ K tv t:=.ew R.eH _;refine eT.jl (λj vs m1 u=>∃(k:Nat)(K1:Gk)(vals1:L S)(B:Option S)(as:L S)(va1:A)(ta:Option S),k+j=O args/\Rd P G nv W x m1 u K1 vals1 l B t/\iG x (·=b) m n K tv t m1 u K1 B t/\O vals1=O I+k/\
   m1.dZ b=Y (.dY [.ea g 0,va1,.ej])/\Ap m1 1 va1 (gp as) ta/\O as=k/\ke K1 as/\(∀q,ta=Y q->n.dV<=q.dV/\B≠Y q/\t≠Y q)/\m1.dZ n=Y (.dY [va,vo])/\K1 n=J/\
   vs=[.ea x 0,.ea b 0,.ea n 0,va,V (O args),V k]) (O args) Z
  ⟨0,K,I,tv,[],.ej,J,M,R10,G10,Z,by rw[eJ M];exact hrow,.nil,Z,tp,uB,fY,R.fresh (fQ _),Z⟩ ?_
 rintro j vs m1 u ⟨k,K1,vals1,B,as,va1,ta,hk,R1,G1,hvl,hrb,hap,hal,hav,hta,hbox,hkn,rfl⟩;conv=>whnf
 refine eW (λh=>?_) (λh=>?_)
 .replace h:=gz h;obtain⟨s,hs,hsl⟩:=h2 _ (fB h);obtain⟨s',hs',hty1,hty2⟩:=h6 _ (fB h);rw[hs]at hs';cases hs';conv=>whnf
  refine gW h1 h ?_;refine fH xR ?_;rw[hs];conv=>whnf
  refine aaw (o:=.dY [.J s,.gi,.ea b 0,V k]) λm2 em2=>?_;have hn1:=G1.dX;have N:K1 u=J:=R1.fresh (fQ _);have hnpr:u≠x:=λe=>by have:=R1.qX;rw[e]at this;omega
  have hb1:K1 b=Y (.eC d nb):=G1.sub _ _ hb;have R2:Rd P G nv W x m2 u.succ (K1.add u .val) vals1 l B t:=by rw[em2];exact(R1.ew _).add N hnpr fY (.qn s b _ d nb ⟨hty1,hsl,hty2⟩ (Gk.sS N _ _ hb1)) Cj Cj
  have G2:iG x (·=b) m n K tv t m2 u.succ (K1.add u .val) B t:=by rw[em2];exact(G1.trans ((iG.add (ex:=λ_=>False) N (fQ _)).trans (iG.ew R1.eH _ (ex:=λ_=>False)) R1.eH (λ_ e=>.inl e)) R.eH qy)
  have E:=gN em2 hrb;have hbox2:m2.dZ n=Y (.dY [va,vo]):=by rw[em2,eJ (by have:=R1.eH _ _ hbox;omega)];exact hbox
  have D:Ap m2 1 va1 (gp as) ta:=hap.mono λq e=>by have:=hap.eY q e;rw[em2,eJ (by have:=R1.eH _ _ this;omega)];exact this
  have hv2:(K1.add u .val) u=Y .val:=Gk.A1;have hav2:ke (K1.add u .val) as:=hav.mono (Gk.sS N);have hkn2:(K1.add u .val) n=J:=by rw[Gk.wQ (λe=>by have:=R1.eH _ _ hbox;rw[e]at this;omega)];exact hkn
  generalize K1.add u .val=K2 at R2 G2 hv2 hav2 hkn2;conv=>whnf
  refine eu E ?_;refine sK (nH (k:=k) D (by simp[gp,hal]) M Z Z Z Z nw) ?_;refine KC λm3 em3=>?_;have hta2:∀q,ta=Y q->m2.dZ q=Y .eY/\B≠Y q/\t≠Y q:=λq e=>⟨D.eY q e,(hta q e).2⟩
  have hb2:K2 b=Y (.eC d nb):=G2.sub _ _ hb;obtain⟨hg2,hrg2,_⟩:=R2.eC hb2 E;have R3:=R2.iW hta2;have z:(lC ta m2 u.succ).dZ b=Y (.dY [.ea g 0,va1,.ej]):=by rw[jZ (by have:=R2.eH _ _ E;omega) (λe=>by have:=D.eY _ e;rw[E]at this;cases this)];exact E
  rw[<-em3]at z;conv=>whnf
  refine sK (ip (cs':=[.ea g 0,.eG 1 (k+1) (gp as++[.ea u 0]) (.open u.succ),.ej]) Z Z z Z Z Z) ?_;refine gH λm4 em4=>?_;rw[em3]at em4;have R4:Rd P G nv W x m4 u.succ.succ K2 vals1 l B t:=by
   rw[em4];refine R3.upd hb2 B0 (.eC d nb g _ _ (as++[u]) [] hg2 ?_ ?_ zU tp (hrg2.iW R2.eH λq e=>(hta2 q e).1) (by simp[hal];omega) ei pE) Cj (λ_ _ c c1 c2 _ e=>by rw[<-em3,z]at e;cases e;exact⟨_,_,Z⟩)
   .exact .inr ⟨.open u.succ,by simp[gp,hal]⟩
   exact Mv
  have v:=gE em4;have htk4:m4.dZ u.succ=Y .eY:=by rw[em4,eJ (by rw[S.gG];omega)];exact oQ
  have hbox4:m4.dZ n=Y (.dY [va,vo]):=by rw[em4,eJ M,jZ (by have:=R2.eH _ _ hbox2;omega) (λe=>by have:=D.eY _ e;rw[hbox2]at this;cases this)];exact hbox2
  have G4:iG x (·=b) m n K tv t m4 u.succ.succ K2 B t:=by
   rw[em4];refine(G2.trans ((iG.iW (ex:=λq=>q=b\/ta=Y q) R2.eH λq e=>.inr e).trans (iG.put (ex:=λq=>q=b) Z) R2.eH λq e=>.inl (.inl e)) R.eH ?_);rintro q (e|e)
   .exact .inl e
   exact .inr (hta q e).1
  clear em4 em3 em2 R3
  let⟨vv,vl,hr4,hv4,hl4⟩:=R4.dY
  conv=>whnf
  refine Wh ?_;refine KC λm5 em5=>wK ?_;have hr5:m5.dZ x=Y (.dY [vv,vl]):=by rw[em5,jZ (by have:=R4.qX;omega) (λe=>by have:=hv4.eY _ e;rw[hr4]at this;cases this)];exact hr4
  refine sK (ip (cs':=[.eG 1 (O vals1+1) (gp vals1++[.ea u 0]) (.open u.succ.succ),vl]) Z Z hr5 Z Z Z) ?_;refine gH λm6 em6=>?_;rw[em5]at em6;conv=>whnf
  refine iu ?_;have R6:=R4.Gj hl4 hv2 Z;have G6:iG x (·=b) m n K tv t m6 u.succ.succ.succ K2 (Y u.succ.succ) t:=by rw[em6];exact Tu
  rw[<-em6]at R6;have keep:∀q o,m4.dZ q=Y o->q≠x->B≠Y q->m6.dZ q=Y o:=λq o hq e1 e2=>S4;have hnb:n≠x:=λe=>by have:=R.qX;rw[e]at this;omega
  have tok4:∀q r,m4.dZ q=Y (.dY r)->B≠Y q:=λq r hq e=>by have:=(R4.rM e).1;rw[hq]at this;cases this
  refine⟨Z,j - 1,M,k+1,K2,vals1++[u],Y u.succ.succ,as++[u],_,Y u.succ,M,R6,G6,by simp[hvl];omega,keep _ _ v hbpr (tok4 _ _ v),?_,by simp[hal],?_,?_,keep _ _ hbox4 hnb (tok4 _ _ hbox4),hkn2,Z⟩
  .rw[show gp (as++[u])=gp as++[.ea u 0] by simp[gp]];refine .eG _ _ _ (keep _ _ htk4 (λe=>by have:=R1.qX;rw[<-e,S.gG]at this;omega) (λe=>by have:=(R1.rM e).2;rw[S.gG]at this;omega)) (by simp[gp,hal])
  .exact Mv
  intro q e;cases e;refine⟨by rw[S.gG];omega,λe=>?_,λe=>?_⟩
  .have:=fW S.dV (gu e);simp only[S.gG]at this;omega
  have:=(R1.sT e).2;rw[S.gG]at this;omega
 replace h:=iK h;obtain rfl:k=O args:=M
 conv=>whnf
 refine eu hbox ?_;refine fM h4.1 ?_;clear hbox hkn hta hav hal hap R10 G10;refine eT.jl (λj vs m2 n2=>∃(k:Nat)(K2:Gk)(H:L S)(w:L A)(U Q:Option S)(i:L S)(vops2:A)(tb:Option S),k+j=O F/\Rd P G nv W x m2 n2 K2 H w U Q/\iG x (·=b) m n K tv t m2 n2 K2 U Q/\
   O H=O I+O args+fV f k/\O w=O l+fV fc k/\m2.dZ b=Y (.dY [.ea g 0,va1,vops2])/\Ap m2 1 vops2 (gp i) tb/\O i=k/\(∀q∈i,∃nb',K2 q=Y (.op (d+1) (Y b) nb'))/\
   (∀q,tb=Y q->n.dV<=q.dV/\U≠Y q/\Q≠Y q)/\vs=[.ea x 0,.ea b 0,vo,V (O F),V k]) (O F) Z
  ⟨0,K1,vals1,l,B,t,[],.ej,J,M,R1,G1,by simp[fV,hvl],Z,hrb,.nil,Z,tp,uB,Z⟩ ?_
 clear R1 G1 hvl hrb;rintro j2 vs m2 n2 ⟨k,K2,H,w,U,Q,i,vops2,tb,jp,R2,G2,hvl2,hll2,E,D,hol2,hok2,htb2,rfl⟩;conv=>whnf
 refine eW (λh2=>?_) (λh2=>?_)
 .replace h2:=gz h2;have hx:=h7 k h2;have hxc:=k2 k h2;have hx1:=hx.Y
  let⟨c0,c1,c2,c3,c4,c5,hx6⟩:=hx.Kk
  have hf1:fV f k+f k<=fV f (O F):=pf f h2;have hf2:fV fc k+fc k<=fV fc (O F):=pf fc h2;have hn2:=G2.dX;conv=>whnf
  refine gW h4.1 h2 ?_;refine fH (lN Z h4.2 h2) ?_;rw[hx6]at hx hxc hx1⊢;refine zY ?_;refine sK (ip (cs':=[c0,c1,c2,c3,c4,c5]) Z Z fY Z hx1 Z) ?_;refine gH λm3 em3=>wK ?_;have hbox3:=gE em3;have keep3:∀q o,m2.dZ q=Y o->m3.dZ q=Y o:=λq o hq=>Vv;have F3:Fr (λ_=>False) m2 m3:=λq o _ hq=>keep3 q o hq;have B3:eX m3 n2.succ:=by rw[em3];exact R2.eH.ew.put kP
  have R3:=R2.jQ F3 B3 qy;have G3:iG x (·=b) m n K tv t m3 n2.succ K2 U Q:=G2.trans ⟨F3.mono λ_ e=>e.elim,ja.refl K2,λ_ _=>Z,by rw[S.gG];omega,λ_ e=>.inl e,λ_ e=>.inl e⟩ R.eH (ex':=λ_=>False) qy;have z:=keep3 _ _ E;have hap3:=D.mono λq e=>keep3 q _ (D.eY q e);have hb3:K2 b=Y (.eC d nb):=G2.sub _ _ hb;clear em3;refine gC ?_;refine eu z ?_;refine eu hbox3 ?_;obtain⟨r4,⟨m4,n4⟩,⟨p,K4,vals4,links4,tv4,tl4,rfl,R4,G4,hvl4,hll4,hp4,hpn4,_⟩,hcall⟩:=hop (d+1) nb (f k) (fc k) _ (Y b) hx hxc m3 n2.succ K2 W H w U Q R3 M M M (λd' e=>⟨b,Z,(by have e':d'=d:=M;rw[e'];exact hb3)⟩) (λp hp=>by have:=hW p hp;rw[S.gG];omega) hdl;refine rV ?_;dsimp only at R4 G4;have tok3:∀q r,m3.dZ q=Y (.dY r)->U≠Y q/\Q≠Y q:=λq r hq=>R3.eY hq;have keep4:∀q o,m3.dZ q=Y o->q≠x->U≠Y q->Q≠Y q->m4.dZ q=Y o:=λq o hq e1 e2 e3=>G4.fr q o (λe=>by
   obtain e|e|e|e:=e
   .exact e1 e
   .exact e2 e
   .exact e3 e
   exact e) hq
  have v:=keep4 _ _ z hbpr (tok3 _ _ z).1 (tok3 _ _ z).2;have hap4:=hap3.mono λq e=>keep4 q _ (hap3.eY q e) (λe'=>by
   let⟨vv,vl,e1,_⟩:=R3.dY
   have:=hap3.eY q e;rw[e',e1]at this;cases this) (htb2 q e).2.1 (htb2 q e).2.2
  have hn4:=G4.dX;have G4':iG x (·=b) m n K tv t m4 n4 K4 tv4 tl4:=G3.trans G4 R.eH qy;have hb4:K4 b=Y (.eC d nb):=G4'.sub _ _ hb;have htb4:∀q,tb=Y q->m4.dZ q=Y .eY/\tv4≠Y q/\tl4≠Y q:=λq e=>by
   have h1:=hap3.eY q e;have h2:=B3 q _ h1;refine⟨hap4.eY q e,λe'=>?_,λe'=>?_⟩
   .obtain h|h:=G4.tv q e'
    .exact(htb2 q e).2.1 h
    omega
   obtain h|h:=G4.tl q e'
   .exact(htb2 q e).2.2 h
   omega
  conv=>whnf
  refine eu v ?_;refine wk ?_;refine sK (nH (k:=k) hap4 (by simp[gp,hol2]) M Z Z Z Z nw) ?_;refine KC λm5 em5=>?_;have hrb5:(lC tb m4 n4).dZ b=Y (.dY [.ea g 0,va1,vops2]):=by rw[jZ (by have:=R4.eH _ _ v;omega) (λe=>by have:=(htb4 _ e).1;rw[v]at this;cases this)];exact v
  have R5:=R4.iW htb4;obtain⟨hg4,hrg4,as4,ops4,q1,q2,q3,q4,q5,q6,q7⟩:=R4.eC hb4 v;have hnd4:(i++[p]).Nodup:=by have:i=ops4:=PL.lT (PL.of hap4) q3;refine B1.2 ⟨by rw[this];exact q7,ei,λa ha b hb' e=>?_⟩;simp only[eZ,f7,fZ]at hb';subst hb' e;obtain⟨nb',e⟩:=hok2 _ ha;have:=R2.lt e;rw[S.gG]at hpn4;omega
  rw[<-em5]at hrb5;conv=>whnf
  refine sK (ip (cs':=[.ea g 0,va1,.eG 1 (k+1) (gp i++[.ea p 0]) (.open n4)]) Z Z hrb5 Z Z Z) ?_;refine gH λm6 em6=>?_;rw[em5]at em6;conv=>whnf
  refine iu ?_;have hok6:∀q∈i++[p],∃nb',K4 q=Y (.op (d+1) (Y b) nb'):=by
   intro q hq;obtain h'|h':=jf.1 hq
   .obtain⟨nb',e⟩:=hok2 q h';exact⟨nb',G4.sub _ _ e⟩
   simp only[eZ,f7,fZ]at h';subst h';exact⟨nb,hp4⟩
  have R6:Rd P G nv W x m6 n4.succ K4 vals4 links4 tv4 tl4:=by rw[em6];exact R5.upd hb4 B0 (.eC d nb g _ _ as4 (i++[p]) hg4 q1 q2 (.inr ⟨.open n4,by simp[gp,hol2]⟩) hok6 (hrg4.iW R4.eH λq e=>(htb4 q e).1) q5 (by simp[hol2];omega) hnd4) Cj (λ_ _ c c1 c2 _ e=>by rw[<-em5,hrb5]at e;cases e;exact⟨_,_,Z⟩)
  have G6:iG x (·=b) m n K tv t m6 n4.succ K4 tv4 tl4:=by
   rw[em6];refine(G4'.trans ((iG.iW (ex:=λq=>q=b\/tb=Y q) R4.eH λq e=>.inr e).trans (iG.put (ex:=λq=>q=b) Z) R4.eH λq e=>.inl (.inl e)) R.eH ?_);rintro q (e|e)
   .exact .inl e
   exact .inr (htb2 q e).1
  have hn2':n2.succ.dV=n2.dV+1:=S.gG n2;refine⟨Z,j2 - 1,M,k+1,K4,vals4,links4,tv4,tl4,i++[p],_,Y n4,M,R6,G6,by rw[hvl4,hvl2];simp only[fV];omega,by rw[hll4,hll2];simp only[fV];omega,by rw[em6];exact fY,?_,by simp[hol2],hok6,?_,Z⟩
  .rw[show gp (i++[p])=gp i++[.ea p 0] by simp[gp]];refine .eG _ _ _ (by rw[em6,eJ (by have:=R4.eH _ _ v;omega)];exact oQ) (by simp[gp,hol2])
  intro q e;cases e;exact⟨M,λe=>by have:=(R4.rM e).2;omega,λe=>by have:=(R4.sT e).2;omega⟩
 replace h2:=iK h2;obtain rfl:k=O F:=M
 conv=>whnf
 exact⟨K2,H,w,U,Q,R2,G2,M,hll2⟩
def aaC:jP:=.q 0 (.q 1 (.q 2 (.q 3 (.q 5 (.kU 4 (.q 6 (.kU 7 (.one 8 (.one 9 .done)) (.kU 8 (.one 7 (.one 9 .done)) .no))) (.kU 8 (.one 4 (.q 6 (.one 7 (.one 9 .done)))) .no))))))
def pg(a b p:S):S:=if p=a then b else if p=b then a else p
def P4{a b p q:S}(h:pg a b p=pg a b q):p=q:=by
 unfold pg at h;split at h<;>split at h<;>try split at h
 all_goals try split at h
 all_goals simp_all
def P5{F:T A}{n n1 n2 n3 x y:S}{s:St}(hb:eX z n3)(Q:∀c∈d,c.Pure\/∃b w,c=.ea b w/\b.dV<n3.dV)(K:n.dV<n3.dV)(r:n1.dV<n3.dV)(m:n2.dV<n3.dV)
  (E:(x=n3/\y=n3.succ)\/(x=n3.succ/\y=n3))(a:s.D=[])(U:mq s.F [T3,T4,T5,T7]=Y [.ea n 0,.ea n1 0,.ea n2 0,.ea y 0])(v:s.H.ep.dZ x=Y (.dY d))(W:s.H.ep.dZ y=Y (.dY [.ea x 0]))(l:∀q o,z.dZ q=Y o->s.H.ep.dZ q=Y o):
  P1 ⟨F,[],⟨z,n3⟩⟩ [T3,T4,T5,T7] [.ea n 0,.ea n1 0,.ea n2 0,.ea n3.succ 0] ((z.set n3 (Y (.dY d))).set n3.succ (Y (.dY [.ea n3 0]))) n3.succ.succ s:=by
 have e1:n3.succ.dV=n3.dV+1:=S.gG _;have e2:n3.succ.succ.dV=n3.dV+2:=by rw[S.gG,S.gG]
 have R:n3≠n3.succ:=λe=>by have:=fW S.dV e;omega
 have f:∀p:S,p.dV<n3.dV+2->Below n3.succ.succ p:=λp hp=>by show p.dV< _;omega
 have k:∃π:S->S,(∀p,Below n3 p->π p=p)/\π n3=x/\π n3.succ=y/\∀p q,π p=π q->p=q:=by
  obtain⟨rfl,rfl⟩|⟨rfl,rfl⟩:=E
  .exact⟨id,λ_ _=>Z,Z,Z,λ_ _ h=>h⟩
  refine⟨pg y y.succ,λp hp=>?_,by simp[pg],by simp[pg],λ_ _ h=>P4 h⟩;have hp:p.dV<y.dV:=hp;have I:p≠y:=λe=>by rw[e]at hp;omega
  have N:p≠y.succ:=λe=>by rw[e]at hp;omega
  simp[pg,I,N]
 let⟨π,g,t,u,j⟩:=k
 have eV:∀p:S,p.dV<n3.dV->gL π (Below n3.succ.succ) (.ea p 0) (.ea p 0):=λp hp=>.L (f p M) (g p hp);refine⟨a,fH U ⟨π,g,⟨eV n K,eV n1 r,eV n2 m,?_,eR⟩,λp o hp=>?_,j⟩⟩
 .have:=gL.ea (π:=π) n3.succ 0 (f n3.succ M);rwa[u]at this
 rw[T.jr]at hp;split at hp
 .rename_i e;subst e;obtain rfl:=gu hp;refine .inr ⟨f _ M,_,by rw[u];exact W,wL (cs:=[.ea x 0]) ⟨?_,eR⟩⟩;have:=gL.ea (π:=π) n3 0 (f n3 M);rwa[t]at this
 rw[T.jr]at hp;split at hp
 .rename_i e;subst e;obtain rfl:=gu hp;refine .inr ⟨f _ M,_,by rw[t];exact v,.dY _ _ Z λi C _=>?_⟩;rcases Q _ (fB C)with h|⟨b,w,e,B⟩
  .exact .ey _ h
  rw[e];exact .L (f b M) (g b B)
 exact .inl ⟨hp,l p o hp⟩
def Do{G:ez}{dY:Bool}{F:T A}{zero cs:L A}{ps:L (Nat×Nat×A)}(h:o5 G F a=Y ps)(r:qd ps zero=Y cs):fA G dY F H (.build zero a)=Y (.val (.agg cs)):=by simp only[fA,h,jm,r,jb]
structure Bx (m:T AO)(pr b1 b2 b3 b4 o:S)(x:List A)(bo:Option S):Prop where
 h1:m.dZ b1=some (.dY [.ea pr 0])
 h2:m.dZ b2=some (.dY x)
 h3:m.dZ b3=some (.dY [.ea o 0])
 h4:m.dZ b4=some (.dY [kV bo])
def Bx.mono{m m':T AO}{c a e u v o:S}{x:L A}(h:Bx m c a e u v o x B)(f:∀b r,m.dZ b=Y (.dY r)->(b=a\/b=e\/b=u\/b=v)->m'.dZ b=Y (.dY r)):Bx m' c a e u v o x B:=
 ⟨f _ _ h.h1 (.inl Z),f _ _ h.h2 (.inr (.inl Z)),f _ _ h.h3 (.inr (.inr (.inl Z))),f _ _ h.h4 (.inr (.inr (.inr Z)))⟩
def cOp(C:pT P G):∀ht,P3 P G nv z ht:=by
 have hLB:LB=1099511627776:=Z;refine gT λhM=>?_;intro ht;induction ht with
 |zero=>intro d nb n0 c0 x B hx;exact hx.elim
 |succ ht ih=>
 intro d nb n0 c0 x B hx hc m n K W gY hZ tv tl R hl1 hl2 hd0 hd1 hW hdl;have hones:=hx.Y;have hx:ua (nZ P G nv) (jJ (nZ P G nv) ht) nb x n0:=hx;have hc:Gl (OpC ht) x c0:=hc;cases hx with
 |mk nm vo vr va vg vs' os rs as gs ss f h1 h2 h3 h4 h5 h6 h7 h8 h9 h10 h11 h12 h13 h14 h15 h16 h17=>
 cases hc with
 |mk _ _ _ _ _ _ gs' fc k1 k2=>
 obtain rfl:gs'=gs:=fT.lT M k1 h11
 let⟨hty,hat,hro,hss,hng⟩:=h16
 obtain⟨ra,⟨as',hra,has',hal'⟩,fa⟩:=aav C.toKh.tofP h8 hat h10;refine eL.fj (C.fs.h 110) (wK ?_);refine hX (o:=.dY [.ea z 0]) λm1 n1 em1 en1=>wK ?_;refine hX (o:=.dY [.J nm,vo,vr,va,vg,vs']) λm2 n2 em2 en2=>wK ?_;have ebo:(kV B).cells=[kV B]:=by cases B<;>rfl
 refine hX (o:=.dY (kV B).cells) λm3 n3 em3 en3=>?_;rw[ebo]at em3;have t1:n1.dV=n.dV+1:=by rw[en1,S.gG]
 have t2:n2.dV=n.dV+2:=by rw[en2,S.gG,t1]
 have t3:n3.dV=n.dV+3:=by rw[en3,S.gG,t2]
 have a1:m3.dZ n=Y (.dY [.ea z 0]):=by rw[em3,em2,em1,eJ M,eJ M];exact fY
 have a2:m3.dZ n1=Y (.dY [.J nm,vo,vr,va,vg,vs']):=by rw[em3,em2,eJ M];exact fY
 have a3:=gE em3;have B3:eX m3 n3:=by rw[em3,em2,em1,en3,en2,en1];exact R.eH.ew.ew.ew
 have F3:Fr (λ_=>False) m m3:=by rw[em3,em2,em1];exact((Fr.refl.ew R.eH).ew (λq o hq=>by have:=R.eH q o hq;omega)).ew (λq o hq=>by have:=R.eH q o hq;omega)
 have R3:Rd P G nv W z m3 n3 K gY hZ tv tl:=R.jQ F3 B3 qy;clear em3 em2 em1 en3 en2 en1;have pra:ra.Pure:=fT.dW hra λx h=>(has' x h).dW;have cra:ra.cells=[ra]:=Sl.cells hra.1;have hcells:∀c∈[A.J nm,.ej,.ej,ra,.ej,.ej,kV B],c.Pure\/∃b off,c=.ea b off/\b.dV<n3.dV:=by
  refine oF λc hc=>?_;obtain rfl|rfl|rfl|rfl|rfl|rfl|rfl:=hc
  .exact .inl j5
  .exact .inl kC
  .exact .inl kC
  .exact .inl pra
  .exact .inl kC
  .exact .inl kC
  cases d with
  |zero=>rw[(hd0 Z).1];exact .inl yt
  |succ d'=>obtain⟨b,e,H⟩:=hd1 d' Z;rw[e];exact .inr ⟨b,0,Z,R3.lt H⟩
 obtain⟨m5,em5⟩:∃m5,m5=(m3.set n3 (Y (.dY [A.J nm,.ej,.ej,ra,.ej,.ej,kV B]))).set n3.succ (Y (.dY [.ea n3 0])):=⟨_,Z⟩;have t4:n3.succ.dV=n3.dV+1:=S.gG _;have t5:n3.succ.succ.dV=n3.dV+2:=by rw[S.gG,t4]
 conv=>whnf
 refine eT.vK C.mixed C.dW aaC n3.succ.succ [.ea n 0,.ea n1 0,.ea n2 0,.ea n3.succ 0] m5 Z M Es (b:=[T3,T4,T5,T7]) ?_ ?_
 .rw[em5];conv=>whnf
  repeat'(first|refine eu a2 ?_|refine eu a3 ?_|refine eu b2 ?_|refine eu b3 ?_|refine eu d2 ?_|refine eu d3 ?_|refine gI (gK _) (wK ?_)|fail)
  refine⟨?_,?_,eR⟩
  .conv=>whnf
   refine ee.c fa ?_;repeat'(first|refine eu a2 ?_|refine eu a3 ?_|refine eu b2 ?_|refine eu b3 ?_|refine eu d2 ?_|refine eu d3 ?_|refine gI (gK _) (wK ?_)|fail)
   refine SV ?_;refine⟨?_,?_,eR⟩
   .conv=>whnf
    refine hX (o:=.dY [A.J nm,.ej,.ej,ra,.ej,.ej,kV B]) λm4 n4 v en4=>wK ?_;have b2:=gN v a2;have b3:=gN v a3;repeat'(first|refine eu a2 ?_|refine eu a3 ?_|refine eu b2 ?_|refine eu b3 ?_|refine eu d2 ?_|refine eu d3 ?_|refine gI (gK _) (wK ?_)|fail)
    refine hX (o:=.dY [.gi]) λm6 n6 em6 en6=>wK ?_;have d2:m6.dZ n1=Y (.dY [.J nm,vo,vr,va,vg,vs']):=by rw[em6,eJ (by rw[en4];omega)];exact b2
    have d3:m6.dZ n2=Y (.dY [kV B]):=by rw[em6,eJ (by rw[en4];omega)];exact b3
    repeat'(first|refine eu a2 ?_|refine eu a3 ?_|refine eu b2 ?_|refine eu b3 ?_|refine eu d2 ?_|refine eu d3 ?_|refine gI (gK _) (wK ?_)|fail)
    have g1:=gE em6;refine sK (ip (cs':=[.ea n3 0]) Z Z g1 Z Z Z) ?_;refine oV λm7 em7=>?_;exact P5 (n:=n) (n1:=n1) (n2:=n2) (n3:=n3) (s:=⟨_,[],⟨m7,_⟩⟩) B3 hcells M M M (.inl ⟨Z,en4⟩) Z Z (by show m7.dZ n3= _;rw[em7,eJ (by rw[en4];omega),em6,eJ (by rw[en4];omega),v];exact fY) (by show m7.dZ n4= _;rw[em7];exact fY)
     (λq o hq=>by have:=B3 q o hq;show m7.dZ q= _;rw[em7,eJ (by rw[en4];omega),em6,eJ (by rw[en4];omega),v,eJ M];exact hq)
   conv=>whnf
   refine hX (o:=.dY [.gi]) λm4 n4 v en4=>wK ?_;have b2:=gN v a2;have b3:=gN v a3;repeat'(first|refine eu a2 ?_|refine eu a3 ?_|refine eu b2 ?_|refine eu b3 ?_|refine eu d2 ?_|refine eu d3 ?_|refine gI (gK _) (wK ?_)|fail)
   exact Tj
  conv=>whnf
  refine hX (o:=.dY [.gi]) λm4 n4 v en4=>wK ?_;have b2:=gN v a2;have b3:=gN v a3;repeat'(first|refine eu a2 ?_|refine eu a3 ?_|refine eu b2 ?_|refine eu b3 ?_|refine eu d2 ?_|refine eu d3 ?_|refine gI (gK _) (wK ?_)|fail)
  refine ee.c fa ?_;repeat'(first|refine eu a2 ?_|refine eu a3 ?_|refine eu b2 ?_|refine eu b3 ?_|refine eu d2 ?_|refine eu d3 ?_|refine gI (gK _) (wK ?_)|fail)
  refine SV ?_;exact Tj
 obtain⟨b3,eb3⟩:∃b3,b3=n3.succ:=⟨_,Z⟩;obtain⟨n5,en5⟩:∃n5,n5=n3.succ.succ:=⟨_,Z⟩;rw[<-en5,<-eb3];rw[<-eb3]at em5 t4;rw[<-en5]at t5;have k1':Bx m5 z n n1 b3 n2 n3 [.J nm,vo,vr,va,vg,vs'] B:=⟨by rw[em5,eJ M,eJ M];exact a1,by rw[em5,eJ M,eJ M];exact a2,by rw[em5];exact fY,by rw[em5,eJ M,eJ M];exact a3⟩
 have ho5:=gN em5 fY;have F5:Fr (λ_=>False) m3 m5:=λq o _ hq=>by have:=B3 q o hq;rw[em5,eJ M,eJ M];exact hq
 have B5:eX m5 n5:=by rw[em5];exact(B3.set (n':=n5) M M).put M
 have ho3:K n3=J:=R3.fresh (fQ _);have hopr:n3≠z:=λe=>by have:=R.qX;rw[e]at t3;omega
 have krow:∀(K':Gk)(m':T AO)(vrs vgs:A)(rl gl:L S),ja K K'->PL rl vrs->ke K' rl->PL gl vgs->(∀q∈gl,∃nb',K' q=Y (.fO d nb'))->O rl<=eI->O gl<=100->(∀q∈gl,∃c,m'.dZ q=Y (.dY [.ea n3 0,c]))->gl.Nodup->
   oB P G K' m' n3 (.op d B nb) [.J nm,.ej,vrs,ra,vgs,.ej,kV B]:=λK' m' vrs vgs rl gl hk q1 q2 q3 q4 q5 q6 t1 t2=>
  .op d B nb nm _ _ _ _ _ [] rl gl as' [] h1 zU tp q1 q2 hra has' M q3 q4 ⟨.inl ⟨Z,Z⟩,λs hs=>by cases hs⟩ (λd' e s hs=>by cases hs)
   (λe=>⟨Z,by have:=(hd0 e).2.2;simpa using this,(hd0 e).1,(hd0 e).2.1⟩) (λd' e=>by obtain⟨b,e1,e2⟩:=hd1 d' e;exact⟨b,e1,hk _ _ e2⟩) ei q5 M ei M t1 t2 q6
 have R5:Rd P G nv (n3::W) z m5 n5 (K.add n3 (.op d B nb)) gY hZ tv tl:=
  ((R3.jQ F5 B5 qy).cons ho3).add ho3 hopr ho5 (krow _ _ _ _ [] [] (Gk.sS ho3) zU tp zU tp ei ei tp pE) zJ (λ_ _ _ _=>ei)
 have G5:iG z (λ_=>False) m n K tv tl m5 n5 (K.add n3 (.op d B nb)) tv tl:=
  ⟨(F3.trans F5).mono λ_ e=>e.elim,Gk.sS ho3,λq hq=>Gk.wQ λe=>by subst e;omega,M,λ_ e=>.inl e,λ_ e=>.inl e⟩
 have hK5:K.add n3 (.op d B nb) n3=Y (.op d B nb):=Gk.A1;generalize K.add n3 (.op d B nb)=K5 at R5 G5 hK5;have hbn:∀q,(q=n\/q=n1\/q=b3\/q=n2)->n.dV<=q.dV/\q≠n3:=λq e=>by obtain rfl|rfl|rfl|rfl:=e<;>exact⟨M,λe=>by have:=fW S.dV e;omega⟩
 clear a1 a2 a3 B3 F3 R3 em5 F5 B5 hcells;conv=>whnf
 refine eu k1'.h2 ?_;refine fM h5 ?_;refine eT.jl (λj vs m1 nn=>∃(k:Nat)(K1:Gk)(vals1:L S)(tv1:Option S)(rl:L S)(vrs:A)(tr:Option S),k+j=O rs/\Rd P G nv (n3::W) z m1 nn K1 vals1 hZ tv1 tl/\iG z (λ_=>False) m n K tv tl m1 nn K1 tv1 tl/\n5.dV<=nn.dV/\O vals1=O gY+k/\
   Bx m1 z n n1 b3 n2 n3 [.J nm,vo,vr,va,vg,vs'] B/\m1.dZ n3=Y (.dY [.J nm,.ej,vrs,ra,.ej,.ej,kV B])/\K1 n3=Y (.op d B nb)/\Ap m1 1 vrs (gp rl) tr/\O rl=k/\ke K1 rl/\(∀q,tr=Y q->n.dV<=q.dV/\tv1≠Y q/\tl≠Y q)/\
   vs=[.ea n 0,.ea n1 0,.ea n2 0,.ea b3 0,vr,V (O rs),V k]) (O rs) Z
  ⟨0,K5,gY,tv,[],.ej,J,M,R5,G5,M,Z,k1',ho5,hK5,.nil,Z,tp,uB,Z⟩ ?_
 clear R5 G5 k1' ho5 hK5;rintro j vv m1 nn ⟨k,K1,vals1,tv1,rl,vrs,tr,hk,R1,G1,hnn,hvl,bx,ho,hKo,hap,hrl,hav,htr,rfl⟩;conv=>whnf
 refine eW (λh=>?_) (λh=>?_)
 .replace h:=gz h;obtain⟨s,hs,hsl⟩:=h6 _ (fB h);obtain⟨s',hs',hty1,hty2⟩:=hty _ (fB h);rw[hs]at hs';cases hs';conv=>whnf
  refine gW h5 h ?_;refine fH xR ?_;rw[hs];conv=>whnf
  refine eu bx.h3 ?_;refine hX (o:=.dY [.J s,.ea n3 0,.gi,V k]) λm2 n6 em2 en6=>?_;have t6:n6.dV=nn.dV+1:=by rw[en6,S.gG]
  have hnew:K1 nn=J:=R1.fresh (fQ _);have hnpr:nn≠z:=λe=>by have:=R1.qX;rw[e]at this;omega
  have keep2:∀q o,m1.dZ q=Y o->m2.dZ q=Y o:=λq o hq=>by rw[em2,eJ (by have:=R1.eH q o hq;omega)];exact hq
  have R2:Rd P G nv (n3::W) z m2 n6 (K1.add nn .val) vals1 hZ tv1 tl:=by rw[em2,en6];exact(R1.ew _).add hnew hnpr fY (.qm s n3 _ d B nb ⟨hty1,hsl,hty2⟩ (Gk.sS hnew _ _ hKo)) Cj Cj
  have G2:iG z (λ_=>False) m n K tv tl m2 n6 (K1.add nn .val) tv1 tl:=by rw[em2,en6];exact(G1.trans ((iG.add (ex:=λ_=>False) hnew (fQ _)).trans (iG.ew R1.eH _ (ex:=λ_=>False)) R1.eH (λ_ e=>.inl e)) R.eH qy)
  have bx2:=bx.mono λb r H _=>keep2 b _ H;have ho2:=keep2 _ _ ho;have hap2:=hap.mono λq e=>keep2 q _ (hap.eY q e);have hv2:(K1.add nn .val) nn=Y .val:=Gk.A1;have hav2:ke (K1.add nn .val) rl:=hav.mono (Gk.sS hnew);have hKo2:(K1.add nn .val) n3=Y (.op d B nb):=Gk.sS hnew _ _ hKo;generalize K1.add nn .val=Q at R2 G2 hv2 hav2 hKo2;conv=>whnf
  refine gC ?_;refine eu bx2.h3 ?_;refine eu bx2.h3 ?_;refine eu ho2 ?_;refine sK (nH (k:=k) hap2 (by simp[gp,hrl]) M Z Z Z Z nw) ?_;refine qW λm3 n7 em3 en7=>wK ?_;have t7:n7.dV=n6.dV+1:=by rw[en7,S.gG]
  have htr2:∀q,tr=Y q->m2.dZ q=Y .eY/\tv1≠Y q/\tl≠Y q:=λq e=>⟨hap2.eY q e,(htr q e).2⟩
  have E:∀q r,m2.dZ q=Y (.dY r)->m3.dZ q=Y (.dY r):=λq r hq=>by rw[em3,jZ (by have:=R2.eH _ _ hq;omega) (λe=>by have:=hap2.eY _ e;rw[hq]at this;cases this)];exact hq
  have R3:Rd P G nv (n3::W) z m3 n7 Q vals1 hZ tv1 tl:=by rw[em3,en7];exact R2.iW htr2
  have bx3:=bx2.mono λb r H _=>E b r H;have ho3:=E _ _ ho2;have htk3:m3.dZ n6=Y .eY:=by rw[em3];exact oQ
  have hpl2:PL (rl++[nn]) (.eG 1 (k+1) (gp rl++[.ea nn 0]) (.open n6)):=.inr ⟨.open n6,by simp[gp,hrl]⟩;have hav3:ke Q (rl++[nn]):=Mv;refine eu bx3.h3 ?_;refine wk ?_;refine sK (ip (cs':=[.J nm,.ej,.eG 1 (k+1) (gp rl++[.ea nn 0]) (.open n6),ra,.ej,.ej,kV B]) Z Z ho3 Z Z Z) ?_;refine gH λm4 v=>?_;have R4:Rd P G nv (n3::W) z m4 n7 Q vals1 hZ tv1 tl:=by rw[v];exact R3.upd hKo2 B0 (krow Q m3 _ _ (rl++[nn]) [] G2.sub hpl2 hav3 zU tp (by simp[hrl];omega) ei tp pE) zJ Ei
  have G4:iG z (λ_=>False) m n K tv tl m4 n7 Q tv1 tl:=by
   rw[v,em3,en7];refine(G2.trans ((iG.iW (ex:=λq=>q=n3\/tr=Y q) R2.eH λq e=>.inr e).trans (iG.put (ex:=λq=>q=n3) Z) R2.eH λq e=>.inl (.inl e)) R.eH ?_);rintro q (e|e)
   .exact .inr (by rw[e];omega)
   exact .inr (htr q e).1
  have ho4:=gE v;have F:∀q o,m3.dZ q=Y o->q≠n3->m4.dZ q=Y o:=λq o hq e=>by rw[v,T.gh _ _ _ _ e];exact hq
  have bx4:=bx3.mono λb r H hbq=>F b _ H (hbn b hbq).2;have htk4:=F _ _ htk3 mi;clear v em3 en7
  let⟨vv,vl,hr4,hv4,hl4⟩:=R4.dY
  conv=>whnf
  refine gC ?_;refine eu bx4.h1 ?_;refine eu bx4.h1 ?_;refine Wh ?_;refine qW λm5 n8 em5 en8=>wK ?_;have t8:n8.dV=n7.dV+1:=by rw[en8,S.gG]
  have keep5:∀q r,m4.dZ q=Y (.dY r)->m5.dZ q=Y (.dY r):=λq r hq=>by rw[em5,jZ (by have:=R4.eH _ _ hq;omega) (R4.eY hq).1];exact hq
  have bx5:=bx4.mono λb r H _=>keep5 b r H;refine eu bx5.h1 ?_;refine wk ?_;refine sK (ip (cs':=[.eG 1 (O vals1+1) (gp vals1++[.ea nn 0]) (.open n7),vl]) Z Z (keep5 _ _ hr4) Z Z Z) ?_;refine gH λm6 em6=>?_;rw[em5]at em6;conv=>whnf
  refine iu ?_;have R6:=R4.Gj hl4 hv2 Z;have G6:iG z (λ_=>False) m n K tv tl m6 n8 Q (Y n7) tl:=by rw[em6,en8];exact Tu
  rw[<-em6,<-en8]at R6;have keep6:∀q o,m4.dZ q=Y o->q≠z->tv1≠Y q->m6.dZ q=Y o:=λq o hq e1 e2=>S4;have hge:∀q:S,n.dV<=q.dV->q≠z:=λq hq e=>by have:=R.qX;rw[e]at hq;omega
  refine⟨Z,j - 1,M,k+1,Q,vals1++[nn],Y n7,rl++[nn],_,Y n6,M,R6,G6,(by show n5.dV<=n8.dV;omega),by simp[hvl];omega,bx4.mono λb r H hbq=>keep6 _ _ H (hge b (hbn b hbq).1) (R4.eY H).1,keep6 _ _ ho4 hopr (R4.eY ho4).1,hKo2,?_,by simp[hrl],hav3,?_,Z⟩
  .rw[show gp (rl++[nn])=gp rl++[.ea nn 0] by simp[gp]];refine .eG _ _ _ (keep6 _ _ htk4 (hge n6 M) (λe=>by have:=(R1.rM e).2;omega)) (by simp[gp,hrl])
  intro q e;cases e;refine⟨M,λe=>by have:=fW S.dV (gu e);omega,λe=>by have:=(R1.sT e).2;omega⟩
 replace h:=iK h;obtain rfl:k=O rs:=M
 have hplr:=PL.of hap;clear hap htr;conv=>whnf
 refine eu bx.h2 ?_;refine fM h11.1 ?_;refine eT.jl (λj vs m2 n6=>∃(k:Nat)(Q:Gk)(w:L S)(u:L A)(N tl2:Option S)(gl:L S)(vgs:A)(tg:Option S),k+j=O gs'/\Rd P G nv (n3::W) z m2 n6 Q w u N tl2/\iG z (λ_=>False) m n K tv tl m2 n6 Q N tl2/\n5.dV<=n6.dV/\
   O w=O gY+O rs+fV f k/\O u=O hZ+fV fc k/\Bx m2 z n n1 b3 n2 n3 [.J nm,vo,vr,va,vg,vs'] B/\m2.dZ n3=Y (.dY [.J nm,.ej,vrs,ra,vgs,.ej,kV B])/\Q n3=Y (.op d B nb)/\ke Q rl/\Ap m2 1 vgs (gp gl) tg/\O gl=k/\
   (∀q∈gl,∃nb',Q q=Y (.fO d nb'))/\(∀q,tg=Y q->n.dV<=q.dV/\N≠Y q/\tl2≠Y q)/\vs=[.ea n 0,.ea n1 0,.ea n2 0,.ea b3 0,vg,V (O gs'),V k]) (O gs') Z
  ⟨0,K1,vals1,hZ,tv1,tl,[],.ej,J,M,R1,G1,hnn,by simp[fV,hvl],Z,bx,ho,hKo,hav,.nil,Z,tp,uB,Z⟩ ?_
 clear R1 G1 hnn hvl bx ho hKo hav;rintro j2 vv2 m2 n6 ⟨k,Q,w,u,N,tl2,gl,vgs,tg,jp,R2,G2,hnn2,hvl2,hll2,bx2,ho2,hKo2,hav2,hap2,hgl2,hgk2,htg2,rfl⟩;conv=>whnf
 refine eW (λhg=>?_) (λhg=>?_)
 .replace hg:=gz hg;have hx:=h17 k hg;have hxc:=k2 k hg;have hf1:fV f k+f k<=fV f (O gs'):=pf f hg;have hf2:fV fc k+fc k<=fV fc (O gs'):=pf fc hg;conv=>whnf
  refine gW h11.1 hg ?_;refine fH (lN Z h11.2 hg) ?_;generalize gs'[k]=y at hx hxc⊢;generalize efk:f k=fk at hx hf1;generalize ecfk:fc k=cfk at hxc hf2;cases hx with
  |mk vb bs fb q1 q2 q3 q4=>
  cases hxc with
  |mk _ D fbc r1 r4=>
  obtain rfl:D=bs:=fT.lT M r1 q1
  let⟨q3a,q3b⟩:=q3
  refine zY ?_;refine sK (ip (cs':=[vb]) Z Z fY (by rw[show(A.agg [vb]).cells=[vb]from Z];rfl) (by show fN [vb]=dT;rw[fN,Sl.one q1.1];rfl) Z) ?_;refine gH λm3 em3=>?_;obtain⟨g,eg⟩:∃g,g=n6.succ:=⟨_,Z⟩;rw[<-eg];have tg0:g.dV=n6.dV+1:=by rw[eg,S.gG]
  have E:∀q o,m2.dZ q=Y o->m3.dZ q=Y o:=λq o hq=>Vv;have hc3:=gE em3;have B3:eX m3 g:=by rw[em3,eg];exact R2.eH.ew.put kP
  have R3:Rd P G nv (n3::W) z m3 g Q w u N tl2:=R2.jQ (ex:=λ_=>False) (λq o _ hq=>E q o hq) B3 qy;have bx3:=bx2.mono λb r H _=>E b _ H;conv=>whnf
  refine eu bx3.h3 ?_;refine hX (o:=.dY [.ea n3 0,.ej]) λm4 n8 v en8=>wK ?_;have t8:n8.dV=g.dV+1:=by rw[en8,S.gG]
  have F:∀q o,m3.dZ q=Y o->m4.dZ q=Y o:=λq o hq=>by have:=B3 q o hq;rw[v,eJ M];exact hq
  have R4:Rd P G nv (n3::W) z m4 n8 Q w u N tl2:=by rw[v,en8];exact R3.ew _
  have hg4:=gE v;have F4:Fr (λ_=>False) m2 m4:=λq o _ hq=>F _ _ (E q o hq);have G4:iG z (λ_=>False) m n K tv tl m4 n8 Q N tl2:=
   G2.trans (ex':=λ_=>False) ⟨F4.mono λ_ e=>e.elim,ja.refl _,λ_ _=>Z,M,λ_ e=>.inl e,λ_ e=>.inl e⟩ R.eH qy
  have bx4:=bx3.mono λb r H _=>F b _ H;have ho4:=F4 _ _ id ho2;have hc4:=F _ _ hc3;have htok4:∀q,tg=Y q->m4.dZ q=Y .eY/\q.dV<g.dV:=λq e=>⟨F4 q _ id (hap2.eY q e),by have:=R2.eH q _ (hap2.eY q e);omega⟩
  have hKg:Q g=J:=R2.fresh M;have hn2le:=G2.dX;have hgpr:g≠z:=λe=>by have:=R.qX;rw[<-e]at this;omega
  have hgn3:g≠n3:=λe=>by rw[e]at tg0;omega
  have hgn6:n6≠g:=λe=>by rw[<-e]at tg0;omega
  have hbxg:∀q,(q=n\/q=n1\/q=b3\/q=n2)->q≠g:=λq hq e=>by rw[e]at hq;obtain e|e|e|e:=hq<;>(have:=fW S.dV e;omega)
  clear E F R3 bx3 hc3 em3 v en8;refine eu hc4 ?_;refine fM q1.1 ?_;refine eT.jl (λj vs m5 n9=>∃(kb:Nat)(bl:L S)(vbs:A)(tb:Option S),kb+j=O D/\Rd P G nv (n3::W) z m5 n9 Q w u N tl2/\iG z (λ_=>False) m n K tv tl m5 n9 Q N tl2/\n8.dV<=n9.dV/\Fr (·=g) m4 m5/\m5.dZ g=Y (.dY [.ea n3 0,vbs])/\Ap m5 1 vbs (gp bl) tb/\O bl=kb/\
    (∀b∈bl,m5.dZ b=Y (.dY [.ea g 0,.ej,.ej])/\g.dV<b.dV)/\bl.Nodup/\(∀q,tb=Y q->g.dV<q.dV/\N≠Y q/\tl2≠Y q)/\
    vs=[.ea n 0,.ea n1 0,.ea n2 0,.ea b3 0,.ea n6 0,.ea g 0,vg,V (O gs'),V k,V (O D),V kb]) (O D) Z
   ⟨0,[],.ej,J,M,R4,G4,fQ _,Fr.refl,hg4,.nil,Z,(λb H=>by cases H),pE,uB,Z⟩ ?_
  rintro j3 vv3 m5 n9 ⟨kb,bl,vbs,tb,hkb,R5,G5,hn9,F5,hg5,hap5,hbl5,hbr5,hnd5,htb5,rfl⟩;conv=>whnf
  refine eW (λH=>?_) (λH=>?_)
  .replace H:=gz H;conv=>whnf
   refine eu hg5 ?_;refine hX (o:=.dY [.ea g 0,.ej,.ej]) λm6 n10 em6 en10=>wK ?_;have t10:n10.dV=n9.dV+1:=by rw[en10,S.gG]
   have keep6:∀q o,m5.dZ q=Y o->m6.dZ q=Y o:=λq o hq=>by have:=R5.eH q o hq;rw[em6,eJ M];exact hq
   have R6:Rd P G nv (n3::W) z m6 n10 Q w u N tl2:=by rw[em6,en10];exact R5.ew _
   have hap6:=hap5.mono λq e=>keep6 q _ (hap5.eY q e);have hg6:=keep6 _ _ hg5;have hnb6:=gE em6;refine sK (nH (k:=kb) hap6 (by simp[gp,hbl5]) M Z Z Z Z nw) ?_;refine qW λm7 iX em7 en11=>wK ?_;have t11:iX.dV=n10.dV+1:=by rw[en11,S.gG]
   have l:∀q r,m6.dZ q=Y (.dY r)->m7.dZ q=Y (.dY r):=λq r hq=>by rw[em7,jZ (by have:=R6.eH _ _ hq;omega) (λe=>by have:=hap6.eY _ e;rw[hq]at this;cases this)];exact hq
   have R7:Rd P G nv (n3::W) z m7 iX Q w u N tl2:=by rw[em7,en11];exact R6.iW λq e=>⟨hap6.eY q e,(htb5 q e).2⟩
   have hg7:=l _ _ hg6;refine sK (ip (cs':=[.ea n3 0,.eG 1 (kb+1) (gp bl++[.ea n9 0]) (.open n10)]) Z Z hg7 Z Z Z) ?_;refine gH λm8 em8=>wK ?_;have hgt:=R7.eY hg7;have R8:Rd P G nv (n3::W) z m8 iX Q w u N tl2:=by rw[em8];exact R7.put M hKg hgpr hgt.1 hgt.2 (λr' hr=>by rw[hg7]at hr;cases hr;simp)
   have F8:Fr (·=g) m4 m8:=by rw[em8,em7,em6];refine Fr.put (λq o hq ho=>?_) Z;have h1:=F5 q o hq ho;have h2:=R5.eH q o h1;have h3:=R4.eH q o ho;rw[jZ M (λe=>by have:=(htb5 q e).1;omega),eJ M];exact h1
   have G8:iG z (λ_=>False) m n K tv tl m8 iX Q N tl2:=
    ⟨(G4.trans (ex':=(·=g)) (n'':=iX) ⟨F8.mono λ_ e=>.inr (.inr (.inr e)),ja.refl _,λ_ _=>Z,M,λ_ e=>.inl e,λ_ e=>.inl e⟩ R.eH (λq e=>.inr (by rw[e];omega))).fr,G5.sub,G5.old,by have:=G5.dX;omega,G5.tv,G5.tl⟩
   refine iu ?_;refine⟨Z,j3 - 1,M,kb+1,bl++[n9],_,Y n10,M,R8,G8,(by show n8.dV<=iX.dV;omega),F8,(by rw[em8];exact fY),?_,by simp[hbl5],?_,?_,?_,Z⟩
   .rw[show gp (bl++[n9])=gp bl++[.ea n9 0] by simp[gp]];refine .eG _ _ _ (by rw[em8,eJ M,em7];exact oQ) (by simp[gp,hbl5])
   .intro b hbm;obtain h'|h':=jf.1 hbm
    .obtain⟨h1,h2⟩:=hbr5 b h';refine⟨?_,h2⟩;rw[em8,eJ M];exact l _ _ (keep6 _ _ h1)
    simp only[eZ,f7,fZ]at h';subst h';refine⟨?_,M⟩;rw[em8,eJ M];exact l _ _ hnb6
   .refine B1.2 ⟨hnd5,ei,λa ha b hb' e=>?_⟩;simp only[eZ,f7,fZ]at hb';subst hb' e;have:=R5.eH _ _ (hbr5 _ ha).1;omega
   intro q e;cases e;exact⟨M,λe=>by have:=(R5.rM e).2;omega,λe=>by have:=(R5.sT e).2;omega⟩
  replace H:=iK H;obtain rfl:kb=O D:=M
  have hgb:g∉bl:=λh=>by have:=(hbr5 g h).2;omega
  have hbK:∀b∈bl,Q b=J:=λb h=>R2.fresh (by have:=(hbr5 b h).2;omega);have hbp:z∉bl:=λh=>by have:=(hbr5 z h).2;have:=R.qX;omega
  have hplb:=PL.of hap5;have R6:Rd P G nv (n3::W) z m5 n9 (Q.fO g bl d (O D)) w u N tl2:=R5.aay hKg hbK hgb hgpr hbp hKo2 hg5 hplb hbl5 q3a q3b (λb H=>(hbr5 b H).1) hnd5;have hs6:ja Q (Q.fO g bl d (O D)):=Gk.P2 hKg hbK;have hn6:=G2.dX;have G6:iG z (λ_=>False) m n K tv tl m5 n9 (Q.fO g bl d (O D)) N tl2:=
   ⟨G5.fr,G5.sub.trans hs6,λq hq=>(Gk.A2 (λe=>by rw[e]at hq;omega) (λh=>by have:=(hbr5 q h).2;omega)).trans (G5.old q hq),G5.dX,G5.tv,G5.tl⟩
  have hg6:(Q.fO g bl d (O D)) g=Y (.fO d (O D)):=Gk.Dk;have hb6:∀b∈bl,(Q.fO g bl d (O D)) b=Y (.eC d (O D)):=λb H=>Gk.Dl hgb H;generalize Q.fO g bl d (O D)=K3 at R6 G6 hs6 hg6 hb6;have ne5:∀q o,m4.dZ q=Y o->q≠g->m5.dZ q=Y o:=λq o hq e=>F5 q o e hq;have bx5:=bx4.mono λb r H hq=>ne5 _ _ H (hbxg b hq);have ho5:=ne5 _ _ ho4 (λe=>hgn3 e.symm);have hc5:=ne5 _ _ hc4 hgn6;have htg5:∀q,tg=Y q->m5.dZ q=Y .eY:=λq e=>ne5 _ _ (htok4 q e).1 (λe'=>by have:=(htok4 q e).2;rw[e']at this;omega);clear htb5 hap5 R5 G5 F5;conv=>whnf
  refine eu hc5 ?_;refine fM q1.1 ?_;refine eT.jl (λj vs m6 n10=>∃(kb:Nat)(K4:Gk)(vals4:L S)(I:L A)(tv4 tl4:Option S),kb+j=O D/\Rd P G nv (n3::W) z m6 n10 K4 vals4 I tv4 tl4/\iG z (λ_=>False) m n K tv tl m6 n10 K4 tv4 tl4/\n9.dV<=n10.dV/\O vals4=O w+fV fb kb/\O I=O u+fV fbc kb/\
    ja K3 K4/\Bx m6 z n n1 b3 n2 n3 [.J nm,vo,vr,va,vg,vs'] B/\m6.dZ n3=Y (.dY [.J nm,.ej,vrs,ra,vgs,.ej,kV B])/\(∀q,tg=Y q->m6.dZ q=Y .eY/\tv4≠Y q/\tl4≠Y q)/\m6.dZ g=Y (.dY [.ea n3 0,vbs])/\
    (∀i (hi:i<O bl),kb<=i->m6.dZ bl[i]=Y (.dY [.ea g 0,.ej,.ej]))/\vs=[.ea n 0,.ea n1 0,.ea n2 0,.ea b3 0,.ea g 0,vg,V (O gs'),V k,vb,V (O D),V kb]) (O D) Z
   ⟨0,K3,w,u,N,tl2,M,R6,G6,fQ _,Z,Z,ja.refl _,bx5,ho5,λq e=>⟨htg5 q e,(htg2 q e).2⟩,hg5,λi hi _=>(hbr5 _ (fB hi)).1,Z⟩ ?_
  clear R6 G6 bx5 ho5 hc5 htg5 hg5;rintro j4 vv4 m6 n10 ⟨kb,K4,vals4,I,tv4,tl4,hkb6,R6,G6,hn10,hvl6,hll6,hs4,bx6,ho6,htg6,hgr6,hbr6,rfl⟩;conv=>whnf
  refine eW (λhb2=>?_) (λhb2=>?_)
  .replace hb2:=gz hb2;have hy:=q4 kb hb2;have hyc:=r4 kb hb2;have hfb1:fV fb kb+fb kb<=fV fb (O D):=pf fb hb2;have hfb2:fV fbc kb+fbc kb<=fV fbc (O D):=pf fbc hb2;have hbi:kb<O bl:=M
   conv=>whnf
   refine gW q1.1 hb2 ?_;refine fH (lN Z q1.2 hb2) ?_;generalize D[kb]=y at hy hyc⊢;have hyr:∀nk,sJ (nZ P G nv) (jJ (nZ P G nv) ht) (O D) y nk->∃y0 y1,y=[y0,y1]/\fN [y0,y1]=dT:=by
    intro nk hy;cases hy with
    |mk y0 y1 args ops ff z1 z2 z3 z4 z5 z6 z7=>exact⟨y0,y1,Z,by rw[fN,Sl.one z1,gZ,fN,Sl.one z4.1];rfl⟩
   obtain⟨y0,y1,rfl,hyo⟩:=hyr _ hy;refine zY ?_;refine sK (ip (cs':=[y0,y1]) Z Z fY Z hyo Z) ?_;refine gH λm7 em7=>?_;obtain⟨iX,en11⟩:∃iX,iX=n10.succ:=⟨_,Z⟩;rw[<-en11];have t11:iX.dV=n10.dV+1:=by rw[en11,S.gG]
   have l:∀q o,m6.dZ q=Y o->m7.dZ q=Y o:=λq o hq=>by have:=R6.eH q o hq;rw[em7,eJ M,eJ M];exact hq
   have hd7:=gE em7;have B7:eX m7 iX:=by rw[em7,en11];exact R6.eH.ew.put kP
   have R7:Rd P G nv (n3::W) z m7 iX K4 vals4 I tv4 tl4:=R6.jQ (ex:=λ_=>False) (λq o _ hq=>l q o hq) B7 qy;have G7:iG z (λ_=>False) m n K tv tl m7 iX K4 tv4 tl4:=
    G6.trans (ex':=λ_=>False) ⟨Fr.mono (ex:=λ_=>False) (λq o _ hq=>l q o hq) λ_ e=>e.elim,ja.refl _,λ_ _=>Z,M,λ_ e=>.inl e,λ_ e=>.inl e⟩ R.eH qy
   have bx7:=bx6.mono λb r H _=>l b _ H;have hgr7:=l _ _ hgr6;have hbk7:=l _ _ (hbr6 kb hbi (fQ _));have hbm:=fB hbi;have hvbs:∃t,vbs=.eG 1 (O bl) (gp bl) t:=by
    obtain⟨_,e⟩|h:=hplb
    .rw[e]at hbi;simp at hbi
    exact h
   let⟨tvb,evb⟩:=hvbs
   have hel:(gp bl)[kb*1]? =Y (.ea bl[kb] 0):=by rw[kO,gp,pz,jq hbi];rfl
   obtain⟨r8,⟨m8,n12⟩,⟨K8,vals8,links8,tv8,tl8,R8,G8,hvl8,hll8⟩,hcall⟩:=aaB C ih hy hyc R7 M M (hs4 _ _ (hb6 _ hbm)) hbk7 (λp hp=>by
    obtain e|e:=eZ.1 hp
    .rw[e];omega
    have:=hW p e;omega) M
   conv=>whnf
   refine gC ?_;refine eu bx7.h1 ?_;refine eu hd7 ?_;refine eu hgr7 ?_;refine sK (qg (sz':=1) (n:=O bl) (cs:=gp bl) (t:=tvb) (by rw[<-evb];rfl) Z Z hbi) ?_;refine B9 ?_;refine rV ?_;dsimp only at R8 G8;conv=>whnf
   refine iu ?_;have U:∀q o,m7.dZ q=Y o->q≠z->tv4≠Y q->tl4≠Y q->q≠bl[kb]->m8.dZ q=Y o:=λq o hq e1 e2 e3 e4=>G8.fr q o (λe=>by
    obtain e|e|e|e:=e
    .exact e1 e
    .exact e2 e
    .exact e3 e
    exact e4 e) hq
   have hge:∀q:S,n.dV<=q.dV->q≠z:=λq hq e=>by have:=R.qX;rw[e]at hq;omega
   have hbig:=(hbr5 _ hbm).2;have lt8:∀q:S,q.dV<=g.dV->q≠bl[kb]:=λq hq e=>by rw[e]at hq;omega
   have hn8:=G8.dX;refine⟨Z,j4 - 1,M,kb+1,K8,vals8,links8,tv8,tl8,M,R8,G7.trans G8 R.eH (λq e=>.inr (by rw[e];omega)),(by show n9.dV<=n12.dV;omega),by rw[hvl8,hvl6];simp only[fV];omega,by rw[hll8,hll6];simp only[fV];omega,hs4.trans G8.sub,
    bx7.mono λb r H hq=>U _ _ H (hge b (hbn b hq).1) (R7.eY H).1 (R7.eY H).2 (lt8 b ?_),U _ _ (l _ _ ho6) hopr (R7.eY (l _ _ ho6)).1 (R7.eY (l _ _ ho6)).2 (lt8 _ M),λq e=>?_,U _ _ hgr7 hgpr (R7.eY hgr7).1 (R7.eY hgr7).2 (lt8 _ (fQ _)),λi hi hik=>?_,Z⟩
   .obtain e|e|e|e:=hq<;>(rw[e];omega)
   .obtain⟨a1,a2,a3⟩:=htg6 q e;have hq7:=l _ _ a1;have hlt:=(htok4 q e).2;have hqn:n.dV<=q.dV:=(htg2 q e).1;refine⟨U _ _ hq7 (hge q hqn) a2 a3 (lt8 q M),λe'=>?_,λe'=>?_⟩
    .obtain h|h:=G8.tv q e'
     .exact a2 h
     have:=B7 q _ hq7;omega
    obtain h|h:=G8.tl q e'
    .exact a3 h
    have:=B7 q _ hq7;omega
   have h7:=l _ _ (hbr6 i hi M);have h8:=(hbr5 _ (fB hi)).2;exact U _ _ h7 (hge _ M) (R7.eY h7).1 (R7.eY h7).2 (λe=>by have:=(List.getElem_inj hnd5).1 e;omega)
  replace hb2:=iK hb2;obtain rfl:kb=O D:=M
  have hs8:ja Q K4:=hs6.trans hs4;have hgl8:∀q∈gl++[g],∃nb',K4 q=Y (.fO d nb'):=by
   intro q hq;obtain h'|h':=jf.1 hq
   .obtain⟨nb',e⟩:=hgk2 q h';exact⟨nb',hs8 _ _ e⟩
   simp only[eZ,f7,fZ]at h';subst h';exact⟨_,hs4 _ _ hg6⟩
  have hap6:Ap m6 1 vgs (gp gl) tg:=hap2.mono λq e=>(htg6 q e).1;have hK06:ja K K4:=G6.sub;conv=>whnf
  refine gC ?_;refine eu bx6.h3 ?_;refine eu bx6.h3 ?_;refine eu ho6 ?_;refine sK (nH (k:=k) hap6 (by simp[gp,hgl2]) M Z Z Z Z nw) ?_;refine qW λm7 iX em7 en11=>wK ?_;have t11:iX.dV=n10.dV+1:=by rw[en11,S.gG]
  have l:∀q r,m6.dZ q=Y (.dY r)->m7.dZ q=Y (.dY r):=λq r hq=>by rw[em7,jZ (by have:=R6.eH _ _ hq;omega) (λe=>by have:=(htg6 _ e).1;rw[hq]at this;cases this)];exact hq
  have bx7:=bx6.mono λb r H _=>l b _ H;have ho7:=l _ _ ho6;have R7:Rd P G nv (n3::W) z m7 iX K4 vals4 I tv4 tl4:=by rw[em7,en11];exact R6.iW htg6
  have htk7:m7.dZ n10=Y .eY:=by rw[em7];exact oQ
  refine eu bx7.h3 ?_;refine wk ?_;refine sK (ip (cs':=[.J nm,.ej,vrs,ra,.eG 1 (k+1) (gp gl++[.ea g 0]) (.open n10),.ej,kV B]) Z Z ho7 Z Z Z) ?_;refine gH λm8 em8=>?_;obtain⟨u1,u2,u3⟩:=R6.kE.KF (hs8 _ _ hKo2) ho6 (PL.of hap6);have u4:∀q∈gl++[g],∃c,m7.dZ q=Y (.dY [.ea n3 0,c]):=λq hq=>by
   obtain h'|h':=jf.1 hq
   .obtain⟨c,e⟩:=u1 q h';exact⟨c,l _ _ e⟩
   simp only[eZ,f7,fZ]at h';subst h';exact⟨_,l _ _ hgr6⟩
  have u5:(gl++[g]).Nodup:=by refine B1.2 ⟨u2,ei,λa ha b hb' e=>?_⟩;simp only[eZ,f7,fZ]at hb';subst hb' e;obtain⟨nb',e⟩:=hgk2 _ ha;rw[hKg]at e;cases e
  have R8:Rd P G nv (n3::W) z m8 iX K4 vals4 I tv4 tl4:=by rw[em8];exact R7.upd (hs8 _ _ hKo2) B0 (krow K4 m7 _ _ rl (gl++[g]) hK06 hplr (hav2.mono hs8) (.inr ⟨.open n10,by simp[gp,hgl2]⟩) hgl8 M (by simp[hgl2];omega) u4 u5) zJ Ei
  have G8:iG z (λ_=>False) m n K tv tl m8 iX K4 tv4 tl4:=by
   rw[em8,em7,en11];refine(G6.trans ((iG.iW (ex:=λq=>q=n3\/tg=Y q) R6.eH λq e=>.inr e).trans (iG.put (ex:=λq=>q=n3) Z) R6.eH λq e=>.inl (.inl e)) R.eH ?_);rintro q (e|e)
   .exact .inr (by rw[e];omega)
   exact .inr (htg2 q e).1
  have U:∀q o,m7.dZ q=Y o->q≠n3->m8.dZ q=Y o:=λq o hq e=>by rw[em8,T.gh _ _ _ _ e];exact hq
  conv=>whnf
  refine iu ?_;refine⟨Z,j2 - 1,M,k+1,K4,vals4,I,tv4,tl4,gl++[g],_,Y n10,M,R8,G8,(by show n5.dV<=iX.dV;omega),by rw[hvl6,hvl2];simp only[fV];omega,by rw[hll6,hll2];simp only[fV];omega,bx7.mono λb r H hq=>U _ _ H (hbn b hq).2,(by rw[em8];exact fY),hs8 _ _ hKo2,hav2.mono hs8,?_,by simp[hgl2],hgl8,?_,Z⟩
  .rw[show gp (gl++[g])=gp gl++[.ea g 0] by simp[gp]];exact .eG _ _ _ (U _ _ htk7 mi) (by simp[gp,hgl2])
  intro q e;cases e;exact⟨M,λe=>by have:=(R6.rM e).2;omega,λe=>by have:=(R6.sT e).2;omega⟩
 replace hg:=iK hg;obtain rfl:k=O gs':=M
 have hplg:=PL.of hap2
 let⟨vv,vl,hr2,hv2,hl2'⟩:=R2.dY
 conv=>whnf
 refine gC ?_;refine eu bx2.h1 ?_;refine eu bx2.h1 ?_;refine eu hr2 ?_;refine sK (nH (k:=O u) hl2' ei M Z Z Z Z nw) ?_;refine qW λm3 n7 em3 en7=>wK ?_;have E:∀q r,m2.dZ q=Y (.dY r)->m3.dZ q=Y (.dY r):=λq r hq=>by rw[em3,jZ (by have:=R2.eH _ _ hq;omega) (R2.eY hq).2];exact hq
 have bx3:=bx2.mono λb r H _=>E b _ H;refine eu bx3.h1 ?_;refine wk ?_;refine sK (ip (cs':=[vv,.eG 1 (O u+1) (u++[.func (.func 166) [] [.ea n 0,.ea n1 0,.ea b3 0,.ea n2 0]]) (.open n6)]) Z Z (E _ _ hr2) Z Z Z) ?_;refine gH λm4 v=>?_;rw[em3]at v;have hlk:wR P G nv z Q m2 (.func (.func 166) [] [.ea n 0,.ea n1 0,.ea b3 0,.ea n2 0]) n3:=
  .mk n n1 b3 n2 n3 d B nb (.J nm) vo vr va vg vs' os ss bx2.h1 bx2.h2 bx2.h3 bx2.h4 hKo2 h2 hro h4 h13 hss h15
 have hoW:n3∉W:=λh=>by have:=hW n3 h;omega
 have R4:=R2.KE hoW hv2 hlk Z;have G4:iG z (λ_=>False) m n K tv tl m4 n7 Q N (Y n6):=by rw[v,en7];exact G2.trans (iG.KE (ex:=λ_=>False) R2.eH) R.eH qy
 rw[<-v,<-en7]at R4;have F:∀q r,m2.dZ q=Y (.dY r)->q≠z->m4.dZ q=Y (.dY r):=λq r hq e=>by rw[v,T.gh _ _ _ _ e,jZ (by have:=R2.eH _ _ hq;omega) (R2.eY hq).2];exact hq
 have hb3pr:b3≠z:=λe=>by have:=R.qX;rw[<-e]at this;omega
 conv=>whnf
 refine eu (F _ _ bx2.h3 hb3pr) ?_;refine⟨n3,Q,w,_,N,Y n6,Z,R4,G4,M,by simp[hll2];omega,hKo2,M,λgsd vg' e1 e2=>?_⟩;simp only[EB,EH,oZ]at e1;subst e1;obtain rfl:gsd=gs':=fT.lT M e2 h11;exact⟨_,vgs,gl,F _ _ ho2 hopr,Z,hplg,hgl2⟩
def jo.Gm(h:jo P G K m){p:S}(hp:K p=Y (.op d B l)):∃nm vos vrs vas vgs vss os rs gs as ss,m.dZ p=Y (.dY [.J nm,vos,vrs,vas,vgs,vss,kV B])/\O nm<=eI/\PL os vos/\ke K os/\PL rs vrs/\ke K rs/\
  fT 6 as vas/\iR (iI (iH P G)) as/\O as<=eI/\PL gs vgs/\(∀q∈gs,∃a,K q=Y (.fO d a))/\KD 2 ss vss/\(∀y,d=y+1->iR (vL K y l) ss)/\(d=0->ss=[]/\nm=ql/\B=J/\l=0)/\(∀y,d=y+1->∃b,B=Y b/\K b=Y (.eC y l))/\
  O os<=eI/\O rs<=eI/\O gs<=eI/\O ss<=eI/\d<=LB:=by
 obtain⟨dY,e1,h2⟩:=h p _ hp;generalize ek:Kd.op d B l=k at h2;cases h2 with
 |qm=>cases ek
 |qn=>cases ek
 |fO=>cases ek
 |eC=>cases ek
 |op d B l nm vos vrs vas vgs vss os rs gs as ss h1 h2 h3 h4 h5 h6 h7 h8 h9 h10 h11 h12 h13 h14 l1 l2 l3 l4 l5 r c e=>exact VD
def jo.aaE(h:jo P G K m){p:S}(hp:K p=Y (.eC d nb)):∃g vas vops as ops,m.dZ p=Y (.dY [.ea g 0,vas,vops])/\K g=Y (.fO d nb)/\PL as vas/\ke K as/\PL ops vops/\(∀q∈ops,∃a,K q=Y (.op (d+1) (Y p) a))/\vM m g p/\O as<=eI/\O ops<=eI:=by obtain⟨dY,e1,h2⟩:=h p _ hp;exact V0
def jo.aaF(h:jo P G K m){p:S}(hp:K p=Y (.fO d l)):∃o B c a H,m.dZ p=Y (.dY [.ea o 0,a])/\K o=Y (.op d B c)/\PL H a/\O H=l/\1<=l/\l<=200/\∀b∈H,K b=Y (.eC d l):=by
 obtain⟨dY,f,r⟩:=h p _ hp;generalize e:Kd.fO d l=k at r;cases r with
 |qm=>cases e
 |qn=>cases e
 |eC=>cases e
 |op=>cases e
 |fO d l o B c a H g r i E j n=>cases e;exact⟨o,B,c,a,H,f,g,r,i,E,j,n⟩
def jo.jQ{m m':T AO}(h:jo P G K m)(g:Fr (λ_=>False) m m'):jo P G K m':=
 h.fr λp k hp=>by obtain⟨r,a,_⟩:=h p k hp;rw[a];exact g p _ id a
def aaG(C:pT P G){pr b1 b2 b3 b4 p:S}{n:S}(hl:wR P G nv pr K m (.func (.func 166) [] [.ea b1 0,.ea b2 0,.ea b3 0,.ea b4 0]) p)(hns:∀dY,m.dZ p=Y (.dY dY)->dY[5]? =Y .ej)
  (hb:eX m n)(hi:jo P G K m)(hr:m.dZ pr=Y (.dY [vv,vl]))(hvv:PL z vv)(hva:ke K z)(hnv:O z=nv)(hpr:K pr=J):
  ∃r H',(eX H'.ep H'.dX/\n.dV<=H'.dX.dV/\jo P G K H'.ep/\Fr (·=p) m H'.ep/\∃dY row',m.dZ p=Y (.dY dY)/\H'.ep.dZ p=Y (.dY row')/\row'[4]? =dY[4]?)/\eL P G 166 [.ea b1 0,.ea b2 0,.ea b3 0,.ea b4 0] ⟨m,n⟩ λr1 H1=>r1=r/\H1=H':=by
 refine gT λhM=>?_;cases hl with
 |mk _ _ _ _ _ d bo nb c0 vo c2 c3 c4 vs os ss h1 h2 h3 h4 h5 h6 h7 h8 h9 h10 h11=>
 obtain⟨nm,vos,vrs,vas,vgs,i,os0,rs,gs,as,ss0,g1,g2,g3,g4,g5,g6,g7,g8,g9,E,ui,g12,g13,g14,g15,g16,g17,g18,g19,g20⟩:=hi.Gm h5;have evss:i=.ej:=by have:=hns _ g1;simpa using this
 subst evss;have hplt:=hb _ _ g1;subst hnv;refine eL.fj (C.fs.h 166) (wK ?_);refine gC ?_;refine eu h3 ?_;refine eu h1 ?_;refine eu h2 ?_;obtain⟨r,⟨m1,n1⟩,⟨os1,t1,q1,q2,q3,q4,q5,q6⟩,hcall⟩:=PX C h6 h8 hb hr hvv h7;dsimp only at q3 q4 q5 q6;refine rV ?_;conv=>whnf
 refine eu (q6 _ _ id h3) ?_;refine wk ?_;refine sK (ip (cs':=[.J nm,r,vrs,vas,vgs,.ej,kV bo]) Z Z (q6 _ _ id g1) (by rw[q3.cells];rfl) (by rw[q3.cells,fN,q3.one];rfl) (by rw[q3.cells];rfl)) ?_;refine gH λm2 v=>wK ?_;have W:=PL.of q3;have U:ke K os1:=λq hq=>hva q (q1 q hq);have lU:∀q x,m.dZ q=Y (.dY x)->q≠p->m2.dZ q=Y (.dY x):=λq x hq e=>by rw[v,T.gh _ _ _ _ e];exact q6 _ _ id hq
 have F2:Fr (·=p) m m2:=λq o hq ho=>by rw[v,T.gh _ _ _ _ hq];exact q6 _ _ id ho
 have B2:eX m2 n1:=by rw[v];exact q4.put M
 have hi2:jo P G K m2:=by rw[v];obtain⟨u1,u2,u3⟩:=(hi.jQ q6).KF h5 (q6 _ _ id g1) E;exact(hi.jQ q6).upd h5 B0 (.op d bo nb nm _ _ _ _ _ os1 rs gs as [] g2 W U g5 g6 g7 g8 g9 E ui ⟨.inl ⟨Z,Z⟩,λs w=>by cases w⟩ (λy e s w=>by cases w) (λe=>⟨Z,(g14 e).2⟩) g15 M g17 g18 ei g20 u1 u2 u3) Ei
 have hp2:=gE v;have ne:∀b x,m.dZ b=Y (.dY x)->O x≠7->b≠p:=λb x hb hl e=>by rw[e,g1]at hb;cases hb;simp at hl
 have nb1:=ne _ _ h1 ei;have nb2:=ne _ _ h2 ei;have nb3:=ne _ _ h3 ei;have nb4:=ne _ _ h4 ei;have pV:pr≠p:=ne _ _ hr ei;refine eu (lU _ _ h2 nb2) ?_;refine fM h9.1 ?_;refine eT.jl (λj vs' m3 n3=>∃(k:Nat)(a:L (L A))(i:A)(ts:Option S),k+j=O ss/\eX m3 n3/\n.dV<=n3.dV/\jo P G K m3/\Fr (·=p) m m3/\m3.dZ p=Y (.dY [.J nm,r,vrs,vas,vgs,i,kV bo])/\Ap m3 2 i a.flatten ts/\O a=k/\(∀s∈a,O s=2)/\
   (∀y,d=y+1->iR (vL K y nb) a)/\(d=0->a=[])/\(∀q,ts=Y q->n.dV<=q.dV)/\vs'=[.ea b1 0,.ea b3 0,.ea b4 0,vs,V (O ss),V k]) (O ss) Z
  ⟨0,[],.ej,J,M,B2,q5,hi2,F2,hp2,.nil,Z,(λs w=>by cases w),(λy e s w=>by cases w),mJ,uB,Z⟩ ?_
 clear F2 B2 hi2 hp2 lU v;rintro j vv2 m3 n3 ⟨k,a,i,ts,hk,B3,hn3,hi3,F3,hp3,Q,N,hs3,hsk3,hd3,hts3,rfl⟩;conv=>whnf
 refine eW (λh=>?_) (λh=>?_)
 .replace h:=gz h;have hss:=h10 _ (fB h);conv=>whnf
  refine gW h9.1 h ?_;refine fH (lN Z h9.2 h) ?_;generalize ss[k]=s at hss⊢;cases hss with
  |mk f va as2 z0 z1 z2 z3=>
  refine zY ?_;refine sK (ip (cs':=[V f,va]) Z Z fY Z (by rw[show(A.agg [V f,va]).cells=[V f,va]from Z,fN,fN,Sl.one z1];rfl) Z) ?_;refine gH λm4 em4=>?_;obtain⟨n4,en4⟩:∃n4,n4=n3.succ:=⟨_,Z⟩;refine Wj λt4 F4 hx4 B4=>?_;have hi4:=hi3.jQ F4;have a1:=F4 _ _ id (F3 _ _ nb1 h1);have a3:=F4 _ _ id (F3 _ _ nb3 h3);have a4:=F4 _ _ id (F3 _ _ nb4 h4);have apr:=F4 _ _ id (F3 _ _ pV hr);have ap:=F4 _ _ id hp3;obtain⟨y,rfl⟩:∃y,d=y+1:=by
   cases d with
   |zero=>have:=(g14 Z).2.2.2;omega
   |succ y=>exact⟨y,Z⟩
  obtain⟨b,rfl,hkb⟩:=g15 y Z;obtain⟨g,vas',vops',as',ops',r1,r2,_⟩:=hi4.aaE hkb;obtain⟨o',bo',nb',vbs,H,s1,s2,s3,s4,s5,s6,s7⟩:=hi4.aaF r2;have u:f<O H:=M
  have hvbs:∃t,vbs=.eG 1 (O H) (gp H) t:=by
   obtain⟨_,e⟩|h:=s3
   .rw[e]at u;simp at u
   exact h
  obtain⟨tvb,rfl⟩:=hvbs;have hel:(gp H)[f*1]? =Y (.ea H[f] 0):=by rw[kO,gp,pz,jq u];rfl
  obtain⟨r5,⟨m5,n5⟩,⟨os5,t5,w1,w2,w3,w4,w5,B⟩,I⟩:=PX C z1 z3 B4 apr hvv z2;dsimp only at w3 w4 w5 B;conv=>whnf
  refine gC ?_;refine eu a3 ?_;refine eu a3 ?_;refine eu ap ?_;refine eu a4 ?_;refine eu r1 ?_;refine eu s1 ?_;refine eu hx4 ?_;refine sK (qg Z Z Z u) ?_;refine B9 ?_;refine eu a1 ?_;refine eu hx4 ?_;refine fK.one _ _ ?_ I;have c3':=B _ _ id a3;have l:=B _ _ id ap;have c4':=B _ _ id a4;have cr':=B _ _ id r1;have cs':=B _ _ id s1;have cx':=B _ _ id hx4;have hi5:=hi4.jQ B;conv=>whnf
  repeat'(first|refine eu c3' ?_|refine eu l ?_|refine eu c4' ?_|refine eu cr' ?_|refine eu cs' ?_|refine eu cx' ?_|refine sK Cl ?_|refine⟨Z,wK ?_⟩|fail)
  refine sK (Kz Z Z Z w3.cells) ?_;have R:Ap m5 2 i a.flatten ts:=Q.mono λq e=>B _ _ id (F4 _ _ id (Q.eY q e));have hfl:O a.flatten=k*2:=by rw[pS hs3,N]
  refine sK (nH (k:=k) (ew:=[.ea H[f] 0,r5]) R hfl M Z Z (by rw[fN,fN,w3.one];rfl) Z nw) ?_;refine qW λm6 n6 D en6=>wK ?_;refine zX λt6=>?_;have c:∀q x,m5.dZ q=Y (.dY x)->m6.dZ q=Y (.dY x):=λq x hq=>by rw[D,jZ (by have:=w4 _ _ hq;omega) SN];exact hq
  have htk6:m6.dZ n5=Y .eY:=by rw[D];exact oQ
  refine eu (c _ _ c3') ?_;refine wk ?_;refine sK (ip (cs':=[.J nm,r,vrs,vas,vgs,.eG 2 (k+1) (a.flatten++[.ea H[f] 0,r5]) (.open n5),kV (Y b)]) Z Z (c _ _ l) Z Z Z) ?_;refine oV λm7 em7=>?_;have hi6:jo P G K m6:=hi5.fr λq kq hq=>by obtain⟨r0,e1,_⟩:=hi5 q kq hq;rw[e1];exact c _ _ e1
  have hsk7:∀d2,y+1=d2+1->iR (vL K d2 nb) (a++[[.ea H[f] 0,r5]]):=by
   intro d2 e s w;obtain F|F:=jf.1 w
   .exact hsk3 d2 e s F
   simp only[eZ,f7,fZ]at F;subst F;obtain rfl:d2=y:=M
   exact .mk _ _ os5 (s7 _ (fB u)) (PL.of w3) (λq hq=>hva q (w1 q hq)) M
  have hs7:∀s∈a++[[A.ea H[f] 0,r5]],O s=2:=by
   intro s w;obtain F|F:=jf.1 w
   .exact hs3 s F
   simp only[eZ,f7,fZ]at F;subst F;rfl
  have hi7:jo P G K m7:=by rw[em7];obtain⟨u1,u2,u3⟩:=hi6.KF h5 (c _ _ l) E;refine hi6.upd h5 B0 (.op _ (Y b) nb nm _ _ _ _ _ os1 rs gs as (a++[[.ea H[f] 0,r5]]) g2 W U g5 g6 g7 g8 g9 E ui ⟨.inr ⟨.open n5,?_⟩,hs7⟩ hsk7 (λe=>M) g15 M g17 g18 (by simp[N];omega) g20 u1 u2 u3) Ei;simp[N]
  have F7:Fr (·=p) m m7:=λq o hq ho=>by have h3:=B _ _ id (F4 _ _ id (F3 q o hq ho));have hql:=hb q o ho;rw[em7,T.gh _ _ _ _ hq,D,jZ (by have:=w4 q o h3;omega) (λe=>by have:=hts3 q e;omega)];exact h3
  refine iu ?_;refine⟨Z,j - 1,M,k+1,a++[[.ea H[f] 0,r5]],_,Y n5,M,?_,(by show n.dV<=n6.dV;omega),hi7,F7,(by rw[em7];exact fY),?_,by simp[N],hs7,hsk7,(λe=>M),λq e=>by cases e;omega,Z⟩
  .rw[em7,D,en6];exact w4.iW.put (by rw[S.gG];have:=w4 _ _ l;omega)
  rw[show(a++[[A.ea H[f] 0,r5]]).flatten=a.flatten++[.ea H[f] 0,r5] by simp];refine .eG _ _ _ ?_ (by rw[iN,hfl];show k*2+2= _;omega);rw[em7,eJ (by have:=w4 _ _ l;omega)];exact htk6
 conv=>whnf
 exact⟨B3,hn3,hi3,F3,_,_,g1,hp3,Z⟩
def Gk.qo(K a:Gk):Gk:=λq=>match K q with|some k=>Y k|none=>a q
def Gk.P6:ja K (K.qo a):=λp k h=>by simp only[Gk.qo,h]
def Gk.P7{K b:Gk}(a:∀p k,b p=Y k->K p=J):ja b (K.qo b):=λp k h=>by simp only[Gk.qo,a p k h,h]
def jo.qo(h:jo P G K m)(f:jo P G b m)(a:∀p k,b p=Y k->K p=J):jo P G (K.qo b) m:=by
 intro p k hp;cases hk:K p with
 |some c=>
  have:c=k:=by simp only[Gk.qo,hk,oZ]at hp;exact hp
  subst this;obtain⟨dY,d,y⟩:=h p c hk;exact⟨dY,d,y.mono Gk.P6 zJ λ_ _ _ _ N B _ e=>⟨N,B,e⟩⟩
 |none=>
 have:b p=Y k:=by simp only[Gk.qo,hk]at hp;exact hp
 obtain⟨dY,d,y⟩:=f p k this;exact⟨dY,d,y.mono (Gk.P7 a) zJ λ_ _ _ _ N B _ e=>⟨N,B,e⟩⟩
def yK(m:T AO)(p:S)(k:Nat):Prop:=∃dY a E,m.dZ p=Y (.dY dY)/\dY[4]? =Y a/\PL E a/\O E=k
def aaH(C:pT P G){x:L A}(hx:AU (nZ P G nv) ht x nv)(hc:OpC ht x c0)(hnv:nv<=eI)(hc0:c0<=LB)(hht:ht<=LB){n:S}(hb:eX m n)(hi:jo P G K m):
  ∃r D,(∃p K',r=.ea p 0/\eX D.ep D.dX/\n.dV<=D.dX.dV/\jo P G K' D.ep/\ja K K'/\(∀q:S,q.dV<n.dV->K' q=K q)/\K' p=Y (.op 0 J 0)/\n.dV<=p.dV/\Fr (λ_=>False) m D.ep/\yK D.ep p 1/\∃La:L S,O La<=c0/\∀q d B l,K' q=Y (.op d B l)->K q=Y (.op d B l)\/q∈La)/\
   eL P G 50 [.agg x] ⟨m,n⟩ λr1 H1=>r1=r/\H1=D:=by
 have hLB:LB=1099511627776:=Z;refine gT λhM=>?_;cases hx with
 |mk vo vr va vg vs os rs as gs ss nn z1 z2 z3 z4 z5 z6 z7 z8 z9 z10=>
 have hones:=z10.Y;refine eL.fj (C.fs.h 50) (wK ?_);refine hX (o:=.dY [.J ql,vo,vr,va,vg,vs]) λm1 n1 em1 en1=>wK ?_;refine hX (o:=.dY [.ej,.ej]) λm2 n2 em2 en2=>?_;have t1:n1.dV=n.dV+1:=by rw[en1,S.gG]
 refine IU λt2=>?_;have hd:m2.dZ n=Y (.dY [.J ql,vo,vr,va,vg,vs]):=by rw[em2,eJ M,em1];exact fY
 have hr2:=gE em2;refine Sv λB2 F2=>?_;have R2:Rd P G nv [] n1 m2 n2 (λ_=>J) [] [] J J:=
  ⟨B2,(λp k h=>by cases h),⟨.ej,.ej,hr2,.nil,.nil⟩,(λq h=>by cases h),⟨[],Z,pE,(λp h=>by cases h),Cy,(λp d B l h=>by cases h)⟩,uB,Z,(λp d B l dY h=>by cases h)⟩
 obtain⟨r,⟨m3,n3⟩,⟨p,E,gY,a,tv,tl,rfl,y,G3,hvl,hll,hp,hpn,Q⟩,hcall⟩:=cOp C ht 0 0 nv c0 _ J z10 hc m2 n2 (λ_=>J) [] [] [] J J R2 lW (by simpa using hc0) (λ_=>⟨Z,Z,Z⟩) (λd' e=>M) (λp h=>by cases h) M;dsimp only at y G3 Q;obtain⟨row0,vgs,gl,hrow0,hrow4,hpl0,hgl0⟩:=Q gs vg Z z4;have hn3:=G3.dX;have f:∀q k,E q=Y k->n2.dV<=q.dV:=λq k hq=>by
  obtain h|h:=kG q.dV n2.dV
  .rw[G3.old q h]at hq;cases hq
  exact h
 have F3:∀q o,m2.dZ q=Y o->q≠n1->m3.dZ q=Y o:=λq o hq e=>G3.fr q o (λg=>by
  obtain g|g|g|g:=g
  .exact e g
  .cases g
  .cases g
  exact g) hq
 conv=>whnf
 refine eu hd ?_;refine rV ?_
 let⟨vv,vl,hr3,hv3,hl3⟩:=y.dY
 conv=>whnf
 refine eu hr3 ?_
 let⟨s,p1,p2,p3,p4,p5⟩:=y.hZ
 have hpl3:=PL.of hv3;simp only[uH,lg]at hvl hll;have hlen:fA G dU (T.n J T.e T.e) ⟨m3,n3⟩ (.bi .nO [.c vl])=Y (.val (V (O a))):=by
  cases hl3 with
  |nil=>rfl
  |eG j cs t h hl=>
  obtain rfl:O a=j:=M
  rfl
 have hlen':∀(F:T A)(x:IX),x.ev G F=Y vl->fA G dU F ⟨m3,n3⟩ (.bi .nO [x])=Y (.val (V (O a))):=λF x hx=>by
  cases hl3 with
  |nil=>simp[fA,fG,ko,hx,iU]
  |eG j cs t h hl=>
  obtain rfl:O a=j:=M
  exact Eg
 refine sK (hlen' _ _ Z) ?_;refine eT.jl (λj vs' u n4=>∃(k:Nat),k+j=O a/\eX u n4/\n3.dV<=n4.dV/\jo P G E u/\Fr (λq=>∃i,∃h:i<O s,i<k/\q=s[i]) m3 u/\yK u p 1/\vs'=[.ea p 0,vl,V (O a),V k]) (O a) Z
  ⟨0,M,y.eH,fQ _,y.kE,Fr.refl,⟨row0,vgs,gl,hrow0,hrow4,hpl0,M⟩,Z⟩ ?_
 rintro j vv4 u n4 ⟨k,hk,B4,hn4,hi4,F4,w,rfl⟩;have opK:∀i (h:i<O s),∃d B l,E s[i]=Y (.op d B l):=λi h=>by
  have:=p4 i M h;generalize a[i]' M=c at this;cases this with
  |mk b1 b2 b3 b4 q d B l c0 vo c2 c3 c4 vs os ss h1 h2 h3 h4 h5=>exact⟨d,B,l,h5⟩
 have U:∀q ro,m3.dZ q=Y (.dY ro)->O ro≠7->u.dZ q=Y (.dY ro):=λq ro hq hl=>F4 q _ (λe=>by obtain⟨i,h,_,rfl⟩:=e;obtain⟨d,B,l,e⟩:=opK i h;obtain⟨nm,_,_,_,_,_,_,_,_,_,_,g,_⟩:=y.kE.Gm e;rw[hq]at g;cases g;simp at hl) hq
 conv=>whnf
 refine eW (λh=>?_) (λh=>?_)
 .replace h:=gz h;have hkp:k<O s:=M
  have H:=(p4 k h hkp).mono (ja.refl E) (m':=u) λb ro hb hl=>U b ro hb M;have N:∀dY,u.dZ s[k]=Y (.dY dY)->dY[5]? =Y .ej:=λdY hr=>by
   obtain⟨d,B,l,e⟩:=opK k hkp;obtain⟨nm,_,_,_,_,_,_,_,_,_,_,g,_⟩:=y.kE.Gm e;have:=F4 s[k] _ (λe=>by
    let⟨i,h,hik,e⟩:=e
    have:=(List.getElem_inj p2).1 e;omega) g
   rw[hr]at this;cases this;exact y.ns _ d B l _ e g
  have hr4:=U _ _ hr3 ei;have hvl':∃t,vl=.eG 1 (O a) a t:=by
   cases hl3 with
   |nil=>simp at h
   |eG j cs t h' hl=>exact⟨_,by rw[show O a=j by omega]⟩
  let⟨tvl,evl⟩:=hvl'
  have hel:a[k*1]? =Y a[k]:=by rw[kO,jq h]
  conv=>whnf
  refine sK (qg (sz':=1) (n:=O a) (cs:=a) (t:=tvl) (by rw[<-evl];rfl) Z Z h) ?_;refine B9 ?_;have step:∃r5 z,(eX z.ep z.dX/\n4.dV<=z.dX.dV/\jo P G E z.ep/\Fr (·=s[k]) u z.ep/\∃dY R,u.dZ s[k]=Y (.dY dY)/\z.ep.dZ s[k]=Y (.dY R)/\R[4]? =dY[4]?)/\∃v,a[k]=.func (.func 166) [] v/\eL P G 166 v ⟨u,n4⟩ λr1 H1=>r1=r5/\H1=z:=by
   generalize a[k]=c at H⊢;generalize s[k]=q at H N⊢;have hlk':=H;cases H with
   |mk b1 b2 b3 b4 q d B l c0 vo c2 c3 c4 vs os ss h1 h2 h3 h4 h5 h6 h7 h8 h9 h10 h11=>obtain⟨r5,z,hpost,hc5⟩:=aaG C hlk' N B4 hi4 hr4 hpl3 y.gY hvl y.pV;exact⟨r5,z,hpost,_,Z,hc5⟩
  let⟨r5,⟨m5,n5⟩,⟨w1,w2,w3,w4,rw1,rw2,w5,w6,w7⟩,v,ecap,hc5⟩:=step
  dsimp only at w1 w2 w3 w4 w6;rw[ecap];conv=>whnf
  refine fK.one _ _ ?_ hc5;conv=>whnf
  refine iu ?_;refine⟨Z,j - 1,M,k+1,M,w1,(by show n3.dV<=n5.dV;omega),w3,λq o hq ho=>?_,?_,Z⟩
  .exact w4 q o (λe=>hq ⟨k,hkp,M,e⟩) (F4 q o (λe=>by let⟨i,hi,hik,e⟩:=e;exact hq ⟨i,hi,M,e⟩) ho)
  let⟨lU,W,gs1,e1,e2,e3,e4⟩:=w
  by_cases e:p=s[k]
  .rw[e]at e1;rw[w5]at e1;cases e1;exact⟨rw2,W,gs1,by rw[e];exact w6,w7.trans e2,e3,e4⟩
  exact⟨lU,W,gs1,w4 p _ e e1,e2,e3,e4⟩
 conv=>whnf
 have I:∀q k,E q=Y k->K q=J:=λq kk hq=>by
  cases hkq:K q with
  |none=>rfl
  |some k2=>obtain⟨r0,e1,_⟩:=hi q k2 hkq;have:=hb _ _ e1;have:=f q kk hq;omega
 have F:Fr (λ_=>False) m u:=λq o _ hq=>by have hlt:=hb q o hq;have h2:=F2 q o id hq;refine F4 q o (λe=>?_) (F3 q o h2 (λe=>by rw[e]at hlt;omega));obtain⟨i,hi',_,rfl⟩:=e;obtain⟨d,B,l,e⟩:=opK i hi';have:=f _ _ e;omega
 refine⟨p,K.qo E,Z,B4,(by show n.dV<=n4.dV;omega),(hi.jQ F).qo hi4 I,Gk.P6,λq hq=>?_,Gk.P7 I _ _ hp,M,F,w,s,(by rw[p1,hll];simp),λq d B l hq=>?_⟩
 rotate_left
 .cases hkq:K q with
  |some k2=>
   have:Y k2=Y (Kd.op d B l):=by simpa only[Gk.qo,hkq]using hq
   exact .inl this
  |none=>
  have:E q=Y (.op d B l):=by simpa only[Gk.qo,hkq]using hq
  exact .inr ((p5 q d B l this).resolve_right ei)
 cases hkq:K q with
 |some k2=>simp only[Gk.qo,hkq]
 |none=>
 simp only[Gk.qo,hkq];cases h1:E q with
 |none=>rfl
 |some k2=>have:=f q k2 h1;omega
def aaI(C:pT P G)(hht:ht<=LB){F:L (L A)}(hv:fT 6 F v)(hl:O F<=eI)(hf:∀x∈F,∃nv c0,nv<=eI/\c0<=eI/\AU (nZ P G nv) ht x nv/\OpC ht x c0){n:S}{K:Gk}(hb:eX m n)(hi:jo P G K m):
  ∃r D,(∃pm K' vf c,r=.ea pm 0/\D.ep.dZ pm=Y (.dY [vf])/\PL c vf/\O c=O F/\c.Nodup/\eX D.ep D.dX/\n.dV<=D.dX.dV/\jo P G K' D.ep/\ja K K'/\(∀q:S,q.dV<n.dV->K' q=K q)/\K' pm=J/\(∀p∈c,K' p=Y (.op 0 J 0)/\yK D.ep p 1)/\Fr (λ_=>False) m D.ep/\∃Q:L S,O Q<=O F*eI/\∀q d B l,K' q=Y (.op d B l)->K q=Y (.op d B l)\/q∈Q)/\
   eL P G 22 [.agg [v]] ⟨m,n⟩ λr1 H1=>r1=r/\H1=D:=by
 refine gT λhM=>?_;refine eL.fj (C.fs.h 22) (wK ?_);refine hX (o:=.dY [v]) λm1 n1 em1 en1=>wK ?_;refine hX (o:=.dY [.ej]) λm2 n2 em2 en2=>wK ?_;have t1:n1.dV=n.dV+1:=by rw[en1,S.gG]
 refine IU λt2=>?_;have hd2:m2.dZ n=Y (.dY [v]):=by rw[em2,eJ M,em1];exact fY
 have hm2:=gE em2;refine Sv λB2 F2=>?_;have hKn1:K n1=J:=by
  cases h:K n1 with
  |none=>rfl
  |some k=>obtain⟨r0,I,_⟩:=hi _ k h;have:=hb _ _ I;omega
 refine eu hd2 ?_;refine fM hv.1 ?_;refine eT.jl (λj vs' m3 n3=>∃(k:Nat)(N:Gk)(c:L S)(vf:A)(t:Option S)(Q:L S),k+j=O F/\eX m3 n3/\n2.dV<=n3.dV/\m3.dZ n1=Y (.dY [vf])/\Ap m3 1 vf (gp c) t/\O c=k/\jo P G N m3/\ja K N/\(∀q:S,q.dV<n.dV->N q=K q)/\N n1=J/\Fr (λ_=>False) m m3/\
   (∀p∈c,N p=Y (.op 0 J 0)/\yK m3 p 1)/\c.Nodup/\(∀q,t=Y q->n.dV<=q.dV)/\(O Q<=k*eI/\∀q d B l,N q=Y (.op d B l)->K q=Y (.op d B l)\/q∈Q)/\vs'=[.ea n1 0,v,V (O F),V k]) (O F) Z
  ⟨0,K,[],.ej,J,[],M,B2,fQ _,hm2,.nil,Z,hi.jQ F2,ja.refl K,(λ_ _=>Z),hKn1,F2,(λp hp=>by cases hp),pE,uB,⟨ei,λ_ _ _ _ h=>.inl h⟩,Z⟩ ?_
 rintro j vv3 m3 n3 ⟨k,N,c,vf,t,Q,hk,B3,hn3,hm3,g,i,hi3,hs3,ho3,hK3,F3,s,U,htn3,⟨hL1,hL2⟩,rfl⟩;conv=>whnf
 refine eW (λh=>?_) (λh=>?_)
 .replace h:=gz h;obtain⟨nv,c0,hnv,hc0,hx,hxc⟩:=hf _ (fB h);conv=>whnf
  refine zt ?_;generalize F[k]=x at hx hxc⊢;have hx':=hx;cases hx with
  |mk vo vr va vg vs os rs as gs ss nn z1 z2 z3 z4 z5 z6 z7 z8 z9 z10=>
  have hones:=z10.Y;refine zY ?_;refine sK (ip (cs':=[.J ql,vo,vr,va,vg,vs]) Z Z fY Z hones Z) ?_;refine gH λm4 em4=>?_;obtain⟨n4,en4⟩:∃n4,n4=n3.succ:=⟨_,Z⟩;refine Wj λt4 F4 hx4 B4=>?_;have hm4:=F4 _ _ id hm3;obtain⟨r5,⟨m5,n5⟩,⟨p,K5,rfl,B5,hn5,hi5,hs5,ho5,hp5,hpn5,F5,u,L5,hL51,hL52⟩,hcall⟩:=aaH C hx' hxc hnv (ny hc0 gP) hht B4 (hi3.jQ F4);dsimp only at B5 hn5 hi5 F5 u;conv=>whnf
  refine gC ?_;refine eu hm4 ?_;refine eu hx4 ?_;refine rV ?_;have hm5:=F5 _ _ id hm4;conv=>whnf
  refine eu hm5 ?_;refine wk ?_;have R:=g.mono λq e=>F5 _ _ id (F4 _ _ id (g.eY q e));refine sK (nH (k:=k) R (by simp[gp,i]) M Z Z Z Z nw) ?_;refine qW λm6 n6 H en6=>wK ?_;refine zX λt6=>?_;have y:∀q ro,m5.dZ q=Y (.dY ro)->m6.dZ q=Y (.dY ro):=λq ro hq=>by rw[H,jZ (by have:=B5 _ _ hq;omega) SN];exact hq
  refine sK (ip (cs':=[.eG 1 (k+1) (gp c++[.ea p 0]) (.open n5)]) Z Z (y _ _ hm5) Z Z Z) ?_;refine oV λm7 em7=>?_;have z:∀q ro,m5.dZ q=Y (.dY ro)->q≠n1->m7.dZ q=Y (.dY ro):=λq ro hq e=>by rw[em7,T.gh _ _ _ _ e];exact y _ _ hq
  have f:K5 n1=J:=by rw[ho5 n1 M];exact hK3
  have w:∀q kk,K5 q=Y kk->yK m5 q 1->yK m7 q 1:=λq kk hq hreg=>by
   let⟨lU,E,W,I,e2,e3,e4⟩:=hreg
   exact⟨lU,E,W,z q _ I (λe=>by rw[e,f]at hq;cases hq),e2,e3,e4⟩
  have hps3n:∀q∈c,q.dV<n3.dV:=λq hq=>by obtain⟨I,lU,_,_,e2,_⟩:=s q hq;exact B3 _ _ e2
  refine iu ?_;refine⟨Z,j - 1,M,k+1,K5,c++[p],_,Y n5,Q++L5,M,?_,(by show n2.dV<=n6.dV;omega),(by rw[em7];exact fY),?_,by simp[i],?_,hs3.trans hs5,λq hq=>(ho5 q M).trans (ho3 q hq),f,λq o hq ho=>?_,λq hq=>?_,?_,(λq e=>by cases e;omega),⟨by simp only[iN,zN];omega,λq d B l hq=>(hL52 q d B l hq).elim (λh=>(hL2 q d B l h).imp id λh=>by simp[h]) λh=>.inr (by simp[h])⟩,Z⟩
  .rw[em7,H,en6];exact B5.iW.put kP
  .rw[show gp (c++[p])=gp c++[.ea p 0] by simp[gp]];exact .eG _ _ _ (by rw[em7,eJ M,H];exact oQ) (by simp[gp,i])
  .exact hi5.fr λq kk hq=>by obtain⟨r0,I,_⟩:=hi5 q kk hq;rw[I];exact z q _ I (λe=>by rw[e,f]at hq;cases hq)
  .have h3:=F5 _ _ id (F4 _ _ id (F3 q o id ho));have hlt:=hb q o ho;rw[em7,eJ M,H,jZ M (λe=>by have:=htn3 q e;omega)];exact h3
  .obtain h'|h':=jf.1 hq
   .obtain⟨I,lU,E,W,e2,e3⟩:=s q h';have e4:=hs5 _ _ I;exact⟨e4,w q _ e4 ⟨lU,E,W,F5 _ _ id (F4 _ _ id e2),e3⟩⟩
   simp only[eZ,f7,fZ]at h';subst h';exact⟨hp5,w _ _ hp5 u⟩
  refine B1.2 ⟨U,ei,λa ha b hb' e=>?_⟩;simp only[eZ,f7,fZ]at hb';subst hb' e;have:=hps3n _ ha;omega
 conv=>whnf
 exact⟨n1,N,vf,c,Z,hm3,PL.of g,by have:=iK h;omega,U,B3,by show n.dV<=n3.dV;omega,hi3,hs3,ho3,hK3,s,F3,Q,(by have:=iK h;rw[show O F=k by omega];exact hL1),hL2⟩
def fu(s:L S):L A:=s.map λp=>.fz p 0
def fu.dW(s:L S):∀v∈fu s,v.Pure:=by intro v a;obtain⟨p,_,rfl⟩:=gS.1 a;exact o9 _ _
def vO:Option S->A
 |none=>.gi
 |some b=>.fz b 0
inductive vP (K:Gk)(d nb:Nat):List A→Prop
 |mk (c:S)(va:A)(xs:List S)(h1:K c=some (.eC d nb))(h2:fC (fu xs) va)(h3:ke K xs)(h4:xs.length≤eI):vP K d nb [.fz c 0,va]
def Qi(G:ez)(g p:S):Prop:=∃o a H,G.fU g=Y [o,a]/\fC (fu H) a/\p∈H
inductive wT (P:Program)(G:ez)(K:Gk)(p:S):Kd→List A→Prop
 |qm (s:List Nat)(o:S)(k:Int)(d:Nat)(bo:Option S)(nb:Nat)(h1:uf P G s)(h2:K o=some (.op d bo nb)):wT P G K p .val [.J s,.fz o 0,.gi,.int .i64 k]
 |qn (s:List Nat)(b:S)(k:Int)(d nb:Nat)(h1:uf P G s)(h2:K b=some (.eC d nb)):wT P G K p .val [.J s,.gi,.fz b 0,.int .i64 k]
 |op (d:Nat)(bo:Option S)(nb:Nat)(nm:List Nat)(vos vrs vas vgs vss:A)(os rs gs:List S)(as ss:List (List A))(h1:nm.length≤eI)(h2:fC (fu os) vos)(h3:ke K os)(h4:fC (fu rs) vrs)(h5:ke K rs)
   (h6:fT 6 as vas)(h7:iR (iI (iH P G)) as)(h8:as.length≤eI)(h9:fC (fu gs) vgs)(h10:∀q∈gs,∃nb',K q=some (.fO d nb'))(h11:fT 2 ss vss)(h12:∀d',d=d'+1→iR (vP K d' nb) ss)
   (h13:d=0→ss=[]∧nm=ql∧bo=none)(h14:∀d',d=d'+1→∃b,bo=some b∧K b=some (.eC d' nb))(l1:os.length≤eI)(l2:rs.length≤eI)(l3:gs.length≤eI)(l4:ss.length≤eI)(l5:d≤LB):
   wT P G K p (.op d bo nb) [.J nm,vos,vrs,vas,vgs,vss,vO bo]
 |fO (d nb:Nat)(o:S)(bo:Option S)(nb':Nat)(vbs:A)(bs:List S)(h1:K o=some (.op d bo nb'))(h2:fC (fu bs) vbs)(h3:bs.length=nb)(h4:1≤nb)(h5:nb≤200)(h6:∀b∈bs,K b=some (.eC d nb)):wT P G K p (.fO d nb) [.fz o 0,vbs]
 |eC (d nb:Nat)(g:S)(vas vops:A)(as ops:List S)(h1:K g=some (.fO d nb))(h2:fC (fu as) vas)(h3:ke K as)(h4:fC (fu ops) vops)(h5:∀q∈ops,∃nb',K q=some (.op (d+1) (some p) nb'))(h6:Qi G g p)(l1:as.length≤eI)(l2:ops.length≤eI):
   wT P G K p (.eC d nb) [.fz g 0,vas,vops]
structure FG (P:Program)(G:ez)(K:Gk):Prop where
 dY:∀p k,K p=some k→∃dY,G.fU p=some dY∧wT P G K p k dY
def FG.op(h:FG P G K){p:S}(hp:K p=Y (.op d B l)):∃nm vos vrs vas vgs vss os rs gs as ss,G.fU p=Y [.J nm,vos,vrs,vas,vgs,vss,vO B]/\O nm<=eI/\fC (fu os) vos/\ke K os/\fC (fu rs) vrs/\ke K rs/\
  fT 6 as vas/\iR (iI (iH P G)) as/\O as<=eI/\fC (fu gs) vgs/\(∀q∈gs,∃a,K q=Y (.fO d a))/\fT 2 ss vss/\(∀y,d=y+1->iR (vP K y l) ss)/\(d=0->ss=[]/\nm=ql/\B=J)/\(∀y,d=y+1->∃b,B=Y b/\K b=Y (.eC y l))/\
  O os<=eI/\O rs<=eI/\O gs<=eI/\O ss<=eI/\d<=LB:=by
 obtain⟨dY,e1,h2⟩:=h.dY p _ hp;generalize ek:Kd.op d B l=k at h2;cases h2 with
 |qm=>cases ek
 |qn=>cases ek
 |fO=>cases ek
 |eC=>cases ek
 |op d B l nm vos vrs vas vgs vss os rs gs as ss h1 h2 h3 h4 h5 h6 h7 h8 h9 h10 h11 h12 h13 h14 l1 l2 l3 l4 l5=>exact VD
def FG.eC(h:FG P G K){p:S}(hp:K p=Y (.eC d nb)):∃g vas vops as ops,G.fU p=Y [.fz g 0,vas,vops]/\K g=Y (.fO d nb)/\fC (fu as) vas/\ke K as/\fC (fu ops) vops/\(∀q∈ops,∃a,K q=Y (.op (d+1) (Y p) a))/\Qi G g p/\O as<=eI/\O ops<=eI:=by obtain⟨dY,e1,h2⟩:=h.dY p _ hp;exact V0
def FG.fO(h:FG P G K){p:S}(hp:K p=Y (.fO d l)):∃o B c a H,G.fU p=Y [.fz o 0,a]/\K o=Y (.op d B c)/\fC (fu H) a/\O H=l/\1<=l/\l<=200/\∀b∈H,K b=Y (.eC d l):=by
 obtain⟨dY,f,r⟩:=h.dY p _ hp;generalize e:Kd.fO d l=k at r;cases r with
 |qm=>cases e
 |qn=>cases e
 |op=>cases e
 |eC=>cases e
 |fO d l o B c a H g r m E i j=>cases e;exact⟨o,B,c,a,H,f,g,r,m,E,i,j⟩
def FG.val(h:FG P G K){p:S}(hp:K p=Y .val):∃s f e k,G.fU p=Y [.J s,f,e,.int .i64 k]/\uf P G s/\((∃o d B l,f=.fz o 0/\e=.gi/\K o=Y (.op d B l))\/∃b d l,f=.gi/\e=.fz b 0/\K b=Y (.eC d l)):=by
 obtain⟨dY,g,r⟩:=h.dY p _ hp;generalize a:Kd.val=k at r;cases r with
 |op=>cases a
 |fO=>cases a
 |eC=>cases a
 |qm s o k d B l c r=>exact⟨s,_,_,k,g,c,.inl ⟨o,d,B,l,Z,Z,r⟩⟩
 |qn s b k d l c r=>exact⟨s,_,_,k,g,c,.inr ⟨b,d,l,Z,Z,r⟩⟩
def FG.isSome(h:FG P G K){p:S}{k:Kd}(hp:K p=Y k):(G.fU p).isSome=dT:=by obtain⟨dY,e,_⟩:=h.dY p k hp;rw[e];rfl
mutual
def A.w:A->A
 |.ea p off=>.fz p off
 |.eG sz n cs _=>.eG sz n (A.Gq cs) .G
 |v=>v
def A.Gq:L A->L A
 |[]=>[]
 |v::l=>A.w v::A.Gq l
end
def A8:∀l:L A,A.Gq l=l.map A.w:=by
 intro l;induction l with
 |nil=>rfl
 |cons a l i=>simp[A.Gq,i]
def ph{s:L S}(h:PL s v):fC (fu s) v.w:=by
 obtain⟨rfl,rfl⟩|⟨t,rfl⟩:=h
 .exact .inl ⟨Z,Z,Z⟩
 refine .inr ⟨.G,mR,?_,by simp[fu]⟩;simp only[A.w,A8,gp,xU,fu,jH];rfl
def Qj{o n:Nat}(h:Sl o n w v)(K:∀c∈w,c.w=c):Sl o n w v.w:=by
 obtain⟨rfl,h2,h3⟩|⟨t,j,rfl,hl⟩:=h
 .exact .inl ⟨Z,h2,h3⟩
 refine .inr ⟨.G,mR,?_,hl⟩;simp only[A.w,A8];rw[ER (g:=id) K,Cn]
def aa9{Ta:L A->Prop}{F:L (L A)}(h:fT 6 F v)(y:iR (iI Ta) F):∃d,fT 6 d v.w/\iR (iI Ta) d/\O d=O F:=by
 have f:∀a∈F,iI Ta (a.map A.w):=by
  intro a i;cases y a i with
  |mk B k n C I Q D q o r m E H s l u w=>exact .mk B k n C _ _ D q o r (Qj m λc K=>by obtain⟨z,rfl⟩:=E c K;rfl) E H (Qj s λc K=>by obtain⟨z,rfl,_⟩:=l c K;rfl) l u w
 refine⟨F.map (·.map A.w),⟨?_,λx g=>?_⟩,λx g=>?_,ei⟩
 .obtain⟨rfl,r,m⟩|⟨t,j,rfl,hl⟩:=h.1
  .have:F=[]:=pG r;subst this;exact .inl ⟨Z,Z,Z⟩
  refine .inr ⟨.G,mR,?_,?_⟩
  .simp only[A.w,A8,List.map_flatten,jH]
  rw[pS (sz:=6) (by intro x g;obtain⟨a,b,rfl⟩:=gS.1 g;rw[jH];exact h.2 a b)]
 .obtain⟨a,b,rfl⟩:=gS.1 g;rw[jH];exact h.2 a b
 obtain⟨a,b,rfl⟩:=gS.1 g;exact f a b
def aba{C:L (L A)}(h:KD 2 C v)(n:iR (vL K d l) C):∃f,fT 2 f v.w/\iR (vP K d l) f/\O f=O C:=by
 have g:∀s∈C,vP K d l (s.map A.w):=by
  intro s j;cases n s j with
  |mk c F o k r m E=>exact .mk c _ o k (ph r) m E
 refine⟨C.map (·.map A.w),⟨?_,λx i=>?_⟩,λx i=>?_,ei⟩
 .obtain⟨rfl,rfl⟩|⟨t,rfl⟩:=h.1
  .exact .inl ⟨Z,Z,Z⟩
  refine .inr ⟨.G,mR,?_,?_⟩
  .simp only[A.w,A8,List.map_flatten,jH]
  rw[pS (sz:=2) (by intro x i;obtain⟨a,b,rfl⟩:=gS.1 i;rw[jH];exact h.2 a b)]
 .obtain⟨a,b,rfl⟩:=gS.1 i;rw[jH];exact h.2 a b
 obtain⟨a,b,rfl⟩:=gS.1 i;exact g a b
def ez.iE(G:ez)(K:Gk)(m:T AO)(x:S):ez:={G with fU:=λp=>match K p with
 |none=>if p=x then(li ⟨m,.h⟩ p).map λw=>w.map A.w else J
 |some _=>(li ⟨m,.h⟩ p).map λw=>w.map A.w}
def sU{m:T AO}{p x:S}{k:Kd}{dY:L A}(a:K p=Y k)(n:m.dZ p=Y (.dY dY)):(G.iE K m x).fU p=Y (dY.map A.w):=by simp only[ez.iE,a,li,n,jb]
def abb{m:T AO}{x:S}{dY:L A}(a:K x=J)(n:m.dZ x=Y (.dY dY)):(G.iE K m x).fU x=Y (dY.map A.w):=by simp only[ez.iE,a,li,n,jb,oH]
def KK{p x:S}(h:(G.iE K m x).fU p=Y w):p=x\/∃k,K p=Y k:=by
 simp only[ez.iE]at h;cases hk:K p with
 |none=>
  rw[hk]at h;by_cases e:p=x
  .exact .inl e
  simp[e]at h
 |some k=>exact .inr ⟨k,Z⟩
def Qk{p x:S}(h:(G.iE K m x).fU p=Y w):∃dY,m.dZ p=Y (.dY dY)/\w=dY.map A.w:=by
 have:((li ⟨m,.h⟩ p).map λw=>w.map A.w)=Y w:=by
  simp only[ez.iE]at h;cases hk:K p with
  |none=>
   rw[hk]at h;by_cases e:p=x
   .simpa[e]using h
   simp[e]at h
  |some k=>rw[hk]at h;exact h
 simp only[li]at this;cases hm:m.dZ p with
 |none=>rw[hm]at this;cases this
 |some o=>rw[hm]at this;cases o<;>simp at this;exact⟨_,Z,this.symm⟩
def uf.rO{G':ez}(a:(G'.gX,G'.raw)=(G.gX,G.raw))(b:G'.ey=G.ey)(c:∀q,G.fU q=J){s:L Nat}(h:uf P G s):uf P G' s:=⟨h.1,h.2.1,h.2.2.rO a b c⟩
def iH.rO{G':ez}(a:(G'.gX,G'.raw)=(G.gX,G.raw))(b:G'.ey=G.ey)(c:∀q,G.fU q=J)(h:iH P G d):iH P G' d:=λx v=>let⟨s,e,K,r⟩:=h x v;⟨s,e,K,r.rO a b c⟩
def iI.yH{Ta a:L A->Prop}{x:L A}(h:iI Ta x)(d:∀q,Ta q->a q):iI a x:=by
 cases h with
 |mk v k n e p Q D q K r m E H b c z F=>exact .mk v k n e p Q D q K r m E H b c z (d _ F)
def FG.of{x:S}(z:∀q,G.fU q=J)(hi:jo P G K m):FG P (G.iE K m x) K:=by
 have ty:∀s,uf P G s->uf P (G.iE K m x) s:=λs h=>h.rO (G:=G) (G':=G.iE K m x) Z Z z;have R:∀F,iR (iI (iH P G)) F->iR (iI (iH P (G.iE K m x))) F:=λF h a ha=>(h a ha).yH λts ht=>ht.rO (G:=G) (G':=G.iE K m x) Z Z z;refine⟨λp k hp=>?_⟩
 obtain⟨dY,W,e2⟩:=hi p k hp;refine⟨_,sU hp W,?_⟩;cases e2 with
 |qm s o k d B l i r=>exact .qm s o k d B l (ty s i) r
 |qn s b k d l i r=>exact .qn s b k d l (ty s i) r
 |op d B l nm I N f D j os rs gs F ss i r v E H w h7 h8 h9 h10 n h12 u h14 l1 l2 l3 l4 l5=>
  obtain⟨Q,q1,q2,q3⟩:=aa9 w (R F h7);have ebo:(kV B).w=vO B:=by cases B<;>rfl
  have succ:∃c,fT 2 c j.w/\(∀y,d=y+1->iR (vP K y l) c)/\O c=O ss:=by
   cases d with
   |zero=>
    obtain⟨rfl,_⟩:=u Z;obtain⟨rfl,_⟩|⟨t,rfl⟩:=n.1
    .exact⟨[],⟨.inl ⟨Z,Z,Z⟩,λx h=>by cases h⟩,λy e=>M,Z⟩
    exact⟨[],⟨.inr IT,λx h=>by cases h⟩,λy e=>M,Z⟩
   |succ y=>obtain⟨c,r1,r2,r3⟩:=aba n (h12 y Z);exact⟨c,r1,λd2 e=>by(obtain rfl:d2=y:=by omega);exact r2,r3⟩
  let⟨c,r1,r2,r3⟩:=succ
  rw[show List.map A.w [.J nm,I,N,f,D,j,kV B]=[.J nm,I.w,N.w,f.w,D.w,j.w,(kV B).w]from Z,ebo];exact .op d B l nm _ _ _ _ _ os rs gs Q c i (ph r) v (ph E) H q1 q2 M (ph h9) h10 r1 r2 (λe=>by obtain⟨W,e2,e3,_⟩:=u e;subst W;exact⟨pG (by simpa using r3),e2,e3⟩) h14 l1 l2 l3 M l5
 |fO d l o B nb' C U i r v E H w=>exact .fO d l o B nb' _ U i (ph r) v E H w
 |eC d l g f vops F ops i r v E H w l1 l2=>
 let⟨o,C,U,f1,f2,f3⟩:=w
 exact .eC d l g _ _ F ops i (ph r) v (ph E) H ⟨o.w,C.w,U,sU i f1,ph f2,f3⟩ l1 l2
def wT.dW{K:Gk}{p:S}{k:Kd}{dY:L A}(h:wT P G K p k dY)(hd:∀d B nb,k=.op d B nb->d=0\/∃y,d=y+1):∀c∈dY,c.Pure:=by
 cases h with
 |qm=>simp[jX,o9,yt,iQ]
 |qn=>simp[jX,o9,yt,iQ]
 |op d B nb nm U W f Q vss q I t F ss b r m E h5 w x h8 z u e i j v l1 l2 l3 l4 l5=>
  refine oF λc hc=>?_;obtain rfl|rfl|rfl|rfl|rfl|rfl|rfl:=hc
  .exact jX _
  .exact r.dW (fu.dW q)
  .exact E.dW (fu.dW I)
  .exact fT.dW w λa C=>(x a C).dW
  .exact z.dW (fu.dW t)
  .refine fT.dW e λs l=>?_;cases d with
   |zero=>rw[(j Z).1]at l;cases l
   |succ y=>
   cases i y Z s l with
   |mk c va xs b r m E=>simp[o9,r.dW (fu.dW xs)]
  cases B
  .exact yt
  exact o9 _ _
 |fO d nb o B D N H b r=>simp[o9,r.dW (fu.dW H)]
 |eC d nb g f n F R b r m E=>simp[o9,r.dW (fu.dW F),E.dW (fu.dW R)]
def ez.abc{x:S}(r:G.Pure)(h:FG P (G.iE K m x) K)(v:∀w,(G.iE K m x).fU x=Y w->∀c∈w,c.Pure):(G.iE K m x).Pure:=by
 refine⟨r.1,λp w e=>?_⟩;obtain rfl|⟨k,b⟩:=KK e
 .exact yu (v _ e)
 obtain⟨dY,a,y⟩:=h.dY p k b;rw[e]at a;cases a;exact yu (y.dW λd _ _ _=>by cases d<;>simp)
def iF.iE{x:S}(C:iF P G)(e:∀q,G.fU q=J)(h:FG P (G.iE K m x) K)(g:∀w,(G.iE K m x).fU x=Y w->∀c∈w,c.Pure):iF P (G.iE K m x):=by
 have a:∀{f args good},f9 P G f args good->f9 P (G.iE K m x) f args good:=λh=>let⟨v,b,r⟩:=h;⟨v,b,r.rO (G:=G) (G':=G.iE K m x) Z Z e⟩
 exact{fs:=C.fs,dW:=ez.abc C.dW h g,mixed:=C.mixed,ey:=C.ey,vD:=C.vD,itoa:=λz b r=>a (C.itoa z b r),join:=λv i s b r d E=>a (C.join v i s b r d E),text:=λk v w s b r d E=>a (C.text k v w s b r d E),g1:=C.g1,g2:=C.g2,g3:=C.g3,g4:=C.g4}
def KL:L A:=[.J [],.int .i64 0,.int .i64 0,.J [],.ej,.ej]
def KM:iI (iH P G) KL:=.mk [] 0 0 [] .ej .ej [] [] ei ei (.inl ⟨Z,Z,Z⟩) zI ei (.inl ⟨Z,Z,Z⟩) zI ei iH.nil
def Ql(C:fP P G){F:L (L A)}(hv:fT 6 F v)(a:iR (iI (iH P G)) F)(Q:O F<=eI)(s:L Nat):f9 P G 137 [v,.J s] λr=>∃x b,r=.eK [.agg x,.bool b]/\iI (iH P G) x:=by
 refine gT λhM=>?_;have e:v.Pure:=fT.dW hv λx h=>(a x h).dW;refine ee.fj (C.fs.h 137) C.dW (jA e j5) (wK ?_);refine fM hv.1 ?_;refine eT.jz C.dW (.o .h) (λj w m=>∃(k:Nat),k+j=O F/\w=[.J s,.ea .h 0,v,V (O F),V k]/\m=hp [(.h,.dY KL)]) (O F) Z ⟨0,M,Z,Z⟩ Z ei Z ?_;rintro j w m ⟨k,N,rfl,rfl⟩;conv=>whnf
 refine eW (λh=>?_) (λh=>?_)
 .replace h:=gz h;have f:=a _ (fB h);conv=>whnf
  refine zt ?_;generalize F[k]=x at f⊢;have hones:=f.Y;have g:=f.dW;have i:=f;cases f with
  |mk U R d W p vt D q n t u E H y B z I=>
  conv=>whnf
  refine sf ?_;refine bK (λl=>?_) λl=>?_
  .refine sf ?_;exact⟨_,.j (kT (by intro c K;simp only[eZ,f7,fZ]at K;obtain rfl|rfl:=K;exact jg g;exact sD _)),_,dT,Z,i⟩
  refine iu ?_;exact⟨Z,.iC [(.h,.dY KL)] _ ⟨j - 1,M,k+1,M,Z,Z⟩ ⟨.ey _ j5,.L (eV Z) Z,.ey _ e,.ey _ fI,.ey _ fI,eR⟩ ⟨⟨eV Z,fH Z (jB (KM (P:=P) (G:=G)).dW)⟩,eR⟩⟩
 conv=>whnf
 exact⟨_,.j (kT (by intro c K;simp only[eZ,f7,fZ]at K;obtain rfl|rfl:=K;exact jg (KM (P:=P) (G:=G)).dW;exact sD _)),_,dU,Z,KM⟩
def Dv(C:fP P G)(g:FG P G K){p:S}(hp:K p=Y (.op d B l))(s:L Nat):f9 P G 79 [.fz p 0,.J s] λr=>∃x b,r=.eK [.agg x,.bool b]/\iI (iH P G) x:=by
 obtain⟨v,q,u,f,o,t,os,rs,E,F,ss,e0,w,m,y,z,D,j,k,n,_⟩:=g.op hp;obtain⟨_,⟨x,b,rfl,hx⟩,fa⟩:=Ql C j k n s;have hones:=hx.Y;have a:=hx.dW;have e:=hx;refine ee.fj (C.fs.h 79) C.dW (jA qz j5) ?_;cases hx with
 |mk v kk nn tx vi vt is ts I N Q R H U W h8 h9=>refine qw ?_;refine ee.c fa ?_;refine sf ?_;exact⟨_,.j (kT (by intro c i;simp only[eZ,f7,fZ]at i;obtain rfl|rfl:=i;exact jg a;exact sD _)),_,b,Z,e⟩
def KN(C:fP P G)(g:FG P G K){p:S}(hp:K p=Y (.op d B l)):f9 P G 116 [.fz p 0] λr=>∃q,fC q r/\iH P G q/\iL q/\O q<=eI:=by
 obtain⟨_,⟨x,b,rfl,hx⟩,fa⟩:=Dv C g hp [114,101,115,117,108,116,115];have hones:=hx.Y;refine ee.fj (C.fs.h 116) C.dW kJ ?_;cases hx with
 |mk v j k n o Q D q f i m E H a e z F=>
 conv=>whnf
 refine ee.c fa ?_;refine sf ?_;exact⟨_,.j (a.dW e.dW),q,a,F,e,z⟩
def KO(C:fP P G)(g:FG P G K){p:S}(hp:K p=Y (.op d B l))(s:L Nat)(f e:Int):f9 P G 117 [.fz p 0,.J s,.int .i64 f,.int .i64 e] λr=>∃b,r=.bool b:=by
 obtain⟨_,⟨x,b,rfl,hx⟩,fa⟩:=Dv C g hp s;have hones:=hx.Y;refine ee.fj (C.fs.h 117) C.dW (by simp[o9,jX,iQ]) ?_;cases hx with
 |mk v n o t u Q D q i a m E H j k z F=>
 conv=>whnf
 refine ee.c fa ?_;refine sf ?_;refine bK (λh=>?_) λh=>?_
 .refine bK (λa=>?_) λa=>?_
  .exact lX
  exact lX
 exact lX
def abd(C:fP P G)(g:FG P G K){p:S}(hp:K p=Y (.op d B l)):f9 P G 27 [.fz p 0] λr=>∃s:L Nat,r=.J s/\O s<=eI:=by
 obtain⟨_,⟨x,b,rfl,hx⟩,fa⟩:=Dv C g hp [110,97,109,101];have hones:=hx.Y;refine ee.fj (C.fs.h 27) C.dW kJ ?_;cases hx with
 |mk v j k n o Q D q e a m E H f i z F=>
 conv=>whnf
 refine ee.c fa ?_;refine sf ?_;refine bK (λh=>?_) λh=>?_
 .exact⟨_,.j j5,_,Z,a⟩
 exact⟨_,.j j5,_,Z,ei⟩
def FG.pW(g:FG P G K){p:S}(hp:K p=Y (.op d B l)):(d=0/\B=J)\/∃y b h r a e N q s,d=y+1/\B=Y b/\K b=Y (.eC y l)/\G.fU b=Y [.fz h 0,N,q]/\K h=Y (.fO y l)/\G.fU h=Y [.fz r 0,s]/\K r=Y (.op y a e):=by
 obtain⟨nm,Q,R,f,I,t,os,rs,gs,F,ss,U,W,g3,g4,g5,g6,g7,g8,g9,v,w,x,C,i,j,_⟩:=g.op hp;cases d with
 |zero=>exact .inl ⟨Z,(i Z).2.2⟩
 |succ y=>obtain⟨b,rfl,hb⟩:=j y Z;obtain⟨h,n,k,o,m,u,z,_⟩:=g.eC hb;obtain⟨r,a,e,E,H,c,D,_⟩:=g.fO z;exact .inr ⟨y,b,h,r,a,e,_,_,_,Z,Z,hb,u,z,c,D⟩
def Gs(C:fP P G)(g:FG P G K)(j:K b=Y (.eC d l)):f9 P G 53 [.fz b 0] λr=>∃k:Nat,r=.int .i64 (.ofNat k)/\k<l:=by
 refine gT λhM=>?_;obtain⟨gg,w,m,y,o,D,z,_,_,_,_,⟨o1,vbs,H,s,u,r3⟩,_⟩:=g.eC j;obtain⟨o',B,p,x,f,n,h1,I,h3,h4,h5,N⟩:=g.fO z;rw[s]at n;cases n;have U:O H=O f:=by
  have:=fW O (show fu H=fu f from ?_)
  .simpa[fu]using this
  exact VE
 obtain⟨v,i,E⟩:=FV (C.fs.h 112) C.dW u M (g.isSome j) (λq W=>by
  have:q∈f:=by have e:fu H=fu f:=VE;have Q:A.fz q 0∈fu f:=e▸gS.2 ⟨q,W,Z⟩;obtain⟨q',R,F⟩:=gS.1 Q;cases F;exact R
  exact g.isSome (N q this))
 refine ee.fj (C.fs.h 53) C.dW kJ (wK ?_);refine fD D ?_;refine fD s ?_;refine ee.c E ?_;obtain⟨_,i⟩|⟨k,hk,rfl,_⟩:=i
 .exact absurd r3 i
 exact⟨_,.j fI,k,Z,M⟩
def FG.abe(g:FG P G K){k N a:A}(j:K b=Y (.eC d l))(n:G.fU b=Y [k,N,a]):∃R,fC (fu R) a/\(∀q∈R,∃p,K q=Y (.op (d+1) (Y b) p))/\O R<=eI:=by obtain⟨v,h,e,i,c,f,z,w,s,m,o,t,u,r⟩:=g.eC j;rw[n]at f;cases f;exact⟨c,m,o,r⟩
def Qm(C:fP P G)(g:FG P G K){p:S}(hp:K p=Y (.op d B l))(a:d≠0):f9 P G 55 [.fz p 0] λr=>∃z:Int,r=.int .i64 z:=by
 refine gT λhM=>?_;obtain⟨h,_⟩|⟨y,b,W,o',i,s,N,Q,U,rfl,rfl,hb,fb,hgg,fgg,ho'⟩:=g.pW hp
 .exact absurd h a
 obtain⟨nm,x,D,f,w,H,os,rs,E,F,ss,m,_⟩:=g.op hp;obtain⟨R,j,u,o3⟩:=g.abe hb fb;obtain⟨v,o,n⟩:=FV (I:=29) (C.fs.h 29) C.dW j M (g.isSome hp) (λq t=>by obtain⟨_,e⟩:=u q t;exact g.isSome e);refine ee.fj (C.fs.h 55) C.dW kJ (wK ?_);refine fD m ?_;refine fD fb ?_;refine ee.c n ?_;obtain⟨rfl,_⟩|⟨k,hk,rfl,_⟩:=o
 .exact tq
 exact tq
def abf(C:fP P G)(g:FG P G K):∀(d:Nat){p:S}{B:Option S}{l:Nat},K p=Y (.op d B l)->f9 P G 30 [.fz p 0] λr=>∃t a,r=.fz t 0/\K t=Y (.op 0 J a)/\(d=0->t=p):=by
 intro d p B l n;refine ee.fj (C.fs.h 30) C.dW kJ (wK ?_);refine eT.jz C.dW .h (λj w m=>∃q c a,K q=Y (.op j c a)/\w=[.fz q 0]/\m=hp []/\j<=d/\(d=0->q=p)) d Z ⟨p,B,l,n,Z,Z,fQ _,λ_=>Z⟩ Z ei Z ?_;rintro j w m ⟨q,c,a,s,rfl,rfl,hjd,hqp⟩;obtain⟨v,z,D,f,x,H,U,o,E,F,W,e0,_⟩:=g.op s;obtain⟨rfl,rfl⟩|⟨y,b,R,u,i,k,N,I,Q,rfl,rfl,hb,fb,hgg,fgg,ho'⟩:=g.pW s
 .refine qw ?_;exact⟨_,.j qz,q,a,Z,s,hqp⟩
 refine qw ?_;refine fD e0 ?_;refine fD fb ?_;refine fD fgg ?_;exact⟨Z,.iC [] _ ⟨y,M,u,i,k,ho',Z,Z,M,λe=>M⟩ ⟨.ey _ qz,eR⟩ eR⟩
def KP(m:T AO)(n:S)(a:Nat)(r:A)(D:eM):Prop:=∃s t,Ap D.ep 1 r s t/\mf s/\O s<=a/\eX D.ep D.dX/\n.dV<=D.dX.dV/\Fr (λ_=>False) m D.ep/\∀q,t=Y q->n.dV<=q.dV
def mf.iW{s q:L A}(h:mf s)(k:mf q):mf (s++q):=λx v=>by
 obtain n|n:=jf.1 v
 .exact h x n
 exact k x n
def Qn{G:ez}{F:T A}{x y:IX}{j:Nat}{w ew:L A}{t:Option S}{tk:jt}(a:Ap m 1 v w t)(b:x.ev G F=Y v)(c:y.ev G F=Y (.eG 1 j ew tk))(e:0<j)(K:fN ew=dT)(E:O ew=j)
  (n:mU (O w+j) 8=dT):fA G dU F ⟨m,f⟩ (.bi (.append 1 8) [x,y])=Y (.lH t 1 (O w+j) (w++ew)):=by
 cases a with
 |nil=>rw[OU b c e K M (by simpa using n)];simp
 |eG i w t d o=>
 have:i=O w:=M
 subst this;exact J0 b c d e K M n
def abg(C:fP P G)(g:FG P G K):∀d:Nat,d<=LB->(∀{p:S}{B:Option S}{l:Nat},K p=Y (.op d B l)->∀{m:T AO}{n:S},eX m n->∃r D,KP m n (3*d) r D/\eL P G 31 [.fz p 0] ⟨m,n⟩ λH W=>H=r/\W=D)/\
  (∀{p:S}{l:Nat},K p=Y (.fO d l)->∀{m:T AO}{n:S},eX m n->∃r D,KP m n (3*d+1) r D/\eL P G 84 [.fz p 0] ⟨m,n⟩ λH W=>H=r/\W=D):=by
 refine gT λhM=>?_;have hLB:LB=1099511627776:=Z;intro d;induction d with
 |zero=>
  intro _;refine⟨λ{p B l} u {m n} y=>?_,λ{p l} u {m n} y=>?_⟩
  .obtain⟨nm,F,Q,f,E,R,os,rs,gs,as,ss,e0,_⟩:=g.op u;obtain⟨_,rfl⟩|⟨d',b,gg,o',i,w,c1,c2,c3,h,_⟩:=g.pW u
   .refine eL.fj (C.fs.h 31) (wK ?_);exact Vc
   omega
  obtain⟨o,bo',nb',vbs,bs,f0,U,_⟩:=g.fO u;obtain⟨nm,F,Q,f,E,R,os,rs,gs,as,ss,e0,_⟩:=g.op U;obtain⟨_,rfl⟩|⟨d',b,gg,o',i,w,c1,c2,c3,h,_⟩:=g.pW U
  .refine eL.fj (C.fs.h 84) (wK ?_);refine fD f0 ?_;exact Vc
  omega
 |succ d ih=>
 intro hd;obtain⟨_,ih2⟩:=ih M;have op:∀{p:S}{B:Option S}{l:Nat},K p=Y (.op (d+1) B l)->∀{m:T AO}{n:S},eX m n->∃r D,KP m n (3*(d+1)) r D/\eL P G 31 [.fz p 0] ⟨m,n⟩ λH W=>H=r/\W=D:=by
  intro p B l u m n y;obtain⟨nm,F,Q,f,E,R,os,rs,gs,as,ss,e0,_⟩:=g.op u;obtain⟨h,_⟩|⟨d',b,gg,o',i,w,c1,c2,c3,h,rfl,hkb,fb,hgg,fgg,ho'⟩:=g.pW u
  .omega
  obtain rfl:d'=d:=M
  obtain⟨H,⟨m1,n1⟩,⟨xs,t,w1,w2,w3,w4,w5,w6,w7⟩,fr⟩:=ih2 hgg y;dsimp only at w1 w4 w5 w6;obtain⟨_,⟨kb,rfl,_⟩,fb2⟩:=Gs C g hkb;obtain⟨_,⟨za,rfl⟩,fa⟩:=Qm C g u M;refine eL.fj (C.fs.h 31) (wK ?_);refine fD e0 ?_;refine fD e0 ?_;refine fD fb ?_;refine fK.one _ _ ?_ fr;refine qw ?_;refine ee.c fb2 ?_;refine ee.c fa ?_;refine sK (Qn (j:=2) w1 Z Z M Z Z nw) ?_;refine qW λN n2 a s=>wK ?_;refine⟨xs++[V kb,.int .i64 za],Y n1,.eG _ _ _ (by show N.dZ n1= _;rw[a];exact oQ) (by rw[iN];show O xs+2= _;omega),w2.iW (by intro x hx;simp only[eZ,f7,fZ]at hx;obtain rfl|rfl:=hx<;>exact⟨_,Z⟩),by simp;omega,?_,?_,λq o _ hq=>?_,λq e=>by cases e;omega⟩
  .show eX N n2;rw[a,s];exact w4.iW
  .show n.dV<=n2.dV;rw[s,S.gG];omega
  exact Vs
 refine⟨op,λ{p l} u {m n} y=>?_⟩;obtain⟨o,bo',nb',vbs,bs,f0,U,_⟩:=g.fO u;obtain⟨nm,F,Q,f,E,R,os,rs,gs,as,ss,e0,_,_,_,_,_,_,_,_,q9,q10,_,_,_,_,_,_,l3,_⟩:=g.op U;obtain⟨h,_⟩|⟨d',b,gg,o',i,w,c1,c2,c3,h,rfl,hkb,fb,hgg,fgg,ho'⟩:=g.pW U
 .omega
 obtain⟨v,hv,fi⟩:=FV (I:=141) (C.fs.h 141) C.dW q9 M (g.isSome u) (λq hq=>by obtain⟨_,e⟩:=q10 q hq;exact g.isSome e);obtain⟨z,rfl⟩:∃z:Int,v=.int .i64 z:=by obtain⟨rfl,_⟩|⟨k,hk,rfl,_⟩:=hv<;>exact⟨_,Z⟩
 obtain⟨H,⟨m1,n1⟩,⟨xs,t,w1,w2,w3,w4,w5,w6,w7⟩,fr⟩:=op U y;dsimp only at w1 w4 w5 w6;refine eL.fj (C.fs.h 84) (wK ?_);refine fD f0 ?_;refine sK (JZ Z e0 Z) (wK ?_);refine gC ?_;refine fD e0 ?_;refine fK.one _ _ ?_ fr;refine qw ?_;refine wk ?_;refine ee.c fi ?_;refine sK (Qn (j:=1) w1 Z Z M Z Z nw) ?_;refine qW λN n2 a s=>wK ?_;refine⟨xs++[.int .i64 z],Y n1,.eG _ _ _ (by show N.dZ n1= _;rw[a];exact oQ) (by rw[iN];show O xs+1= _;omega),w2.iW (by intro x hx;simp only[eZ,f7,fZ]at hx;subst hx;exact⟨_,Z⟩),by simp;omega,?_,?_,λq o _ hq=>?_,λq e=>by cases e;omega⟩
 .show eX N n2;rw[a,s];exact w4.iW
 .show n.dV<=n2.dV;rw[s,S.gG];omega
 exact Vs
def abh(C:fP P G)(g:FG P G K){p:S}(b:K p=Y (.op d B l)):f9 P G 31 [.fz p 0] λr=>∃s,fC s r/\mf s/\O s<=3*LB:=by obtain⟨I,m,u,f,k,w,q,o,E,F,N,z,_,_,_,_,_,_,_,_,_,_,_,_,_,_,_,_,_,_,a⟩:=g.op b;obtain⟨r,D,⟨s,t,x,c,Q,_⟩,h⟩:=(abg C g d a).1 b (eX.e (n:=.h));obtain⟨v,i,j⟩:=x.ue c.dW;exact⟨v,⟨s,j,c,M⟩,ee.of C.dW kJ (h.mono λH y e=>by rw[e.1];exact i)⟩
def oa(C:fP P G)(g:FG P G K)(a:fC (fu b) v)(H:ke K b)(o:O b<=eI):f9 P G 85 [v] λr=>∃q,fC q r/\iH P G q/\iL q/\O q=O b:=by
 refine gT λhM=>?_;have y:O (fu b)=O b:=by simp[fu]
 have B:v.Pure:=a.dW (fu.dW b);refine ee.fj (C.fs.h 85) C.dW (it B) (wK ?_);refine fM a ?_;rw[y];refine eT.jl (λj w m n=>∃(k:Nat)(q:L A)(i:A)(t:Option S),k+j=O b/\O q=k/\iH P G q/\iL q/\eX m n/\Ap m 1 i q t/\w=[i,v,V (O b),V k]) (O b) Z ⟨0,[],_,J,M,Z,zI,zI,eX.e,.nil,Z⟩ ?_;rintro j w m n ⟨k,q,i,t,R,z,p,d,F,l,rfl⟩;conv=>whnf
 refine eW (λh=>?_) (λh=>?_)
 .replace h:=gz h;obtain⟨s,po,W,U,e0,⟨I,N,Q⟩,_⟩:=g.val (H _ (fB h));have u:(fu b)[k]' M=.fz b[k] 0:=by simp[fu]
  conv=>whnf
  refine sK (kL Z a Z Z M) ?_;refine fH (oA Z M) ?_;rw[u];refine qw ?_;refine sK (nH (k:=k) l M M Z Z Z Z nw) ?_;refine sR (wK ?_);refine iu ?_;refine⟨Z,j - 1,M,k+1,q++[.J s],_,Y n,M,by simp[z],?_,?_,F.iW,.dX (by rw[iN];show O q+1= _;omega),Z⟩
  .intro x f;obtain c|c:=jf.1 f
   .exact p x c
   simp only[eZ,f7,fZ]at c;subst c;exact⟨s,Z,I,Q⟩
  intro x f;obtain c|c:=jf.1 f
  .exact d x c
  simp only[eZ,f7,fZ]at c;subst c;exact⟨s,Z,N⟩
 conv=>whnf
 obtain⟨r,D,E⟩:=l.ue d.dW;exact⟨r,D,q,E,p,d,by have:=iK h;omega⟩
def Qo{F:T A}{H:eM}{x p:S}{n:Option Nat}{cs:L A}(a:F.dZ x=Y (.ea p 0))(hp:H.ep.dZ p=Y (.dY cs))(h:part 0 n cs=Y v):nU G F H [.cell x n]=Y [v]:=by simp only[nU,a,jm,qL,li,hp,jb,h]
def abi{F:T A}{x y:IX}{k m:IntKind}{zero:L A}{o bytes n:Nat}(hx:x.ev G F=Y (.int k z))(hz:z=.ofNat n)(hy:y.ev G F=Y (.int m a))(hz':a=.ofNat n)(h:n*bytes<=kr)(h2:n<=kr):
  fA G dU F H (.tG zero o bytes x y)=Y (.val (.eG o n (gV zero n) .fE)):=Vx
def KQ(C:fP P G)(g:FG P G K){p:S}(n:K p=Y (.op d B l))(a:d≠0):f9 P G 114 [.fz p 0] λr=>∃b,r=.bool b:=by
 obtain⟨nm,I,Q,f,H,t,os,rs,E,F,ss,z,_⟩:=g.op n;obtain⟨h,_⟩|⟨y,b,W,o',c,e,N,R,U,h,rfl,hkb,fb,hgg,fgg,ho'⟩:=g.pW n
 .exact absurd h a
 obtain⟨v,k,m,i,j,o,w,x,u,q,D,s,_⟩:=g.op ho';refine ee.fj (C.fs.h 114) C.dW kJ (wK ?_);refine fD z ?_;refine fD fb ?_;refine fD fgg ?_;refine fD s ?_;cases c with
 |none=>exact uF
 |some _=>exact uF
def Qp(C:fP P G)(g:FG P G K)(s:K b=Y (.eC d l)):f9 P G 151 [.fz b 0] λr=>r=.gi\/∃p c,r=.fz p 0/\K p=Y (.op (d+1) (Y b) c):=by
 refine gT λhM=>?_;obtain⟨D,n,m,o,a,z,t,w,u,i,q,v,x,B⟩:=g.eC s;have f:O (fu a)=O a:=by simp[fu]
 refine ee.fj (C.fs.h 151) C.dW kJ (wK ?_);refine fD z ?_;refine fM i ?_;rw[f];refine eW (λh=>?_) (λh=>?_)
 .conv=>whnf
  exact⟨_,.j yt,.inl Z⟩
 have y:O a≠0:=λe=>by rw[e]at h;cases h
 have k:(fu a)[O a - 1]' M=.fz (a[O a - 1]' M) 0:=by simp[fu]
 conv=>whnf
 refine gC ?_;refine fD z ?_;refine fD z ?_;refine fM i ?_;rw[f];refine sK (kL (j:=O a - 1) Z i Z (qf (b:=1) M M) M) ?_;refine fH (oA Z M) ?_;rw[k];conv=>whnf
 obtain⟨c,e⟩:=q (a[O a - 1]' M) (fB _);exact⟨_,.j qz,.inr ⟨_,c,Z,e⟩⟩
def A9{zero:L A}(h:∀c∈zero,c.Pure):∀n,∀c∈gV zero n,c.Pure:=by
 intro n;induction n with
 |zero=>intro c K;cases K
 |succ n i=>
 intro c K;obtain a|a:=jf.1 K
 .exact h c a
 exact i c a
def abj(C:fP P G)(g:FG P G K){p:S}(hK:K p=Y (.op d bo nb))(e0:G.fU p=Y [.J w,vos,vrs,f,vgs,vss,vb])(hgs:fC (fu gs) vgs)(hss:fT 2 ss vss):
  f9 P G 87 [.fz p 0] λr=>∃x as,r=.agg x/\KA as (O gs) (O ss) x:=by
 refine gT λhM=>?_;obtain⟨nm',vos',vrs',vas',vgs',vss',os',rs',l,as',ss',e1,q1,q2,q3,q4,q5,q6,q7,q8,q9,q10,q11,q12,q13,q14,l1,l2,l3,l4,l5⟩:=g.op hK;rw[e0]at e1;cases e1;have hgl:O gs=O l:=by
  have e:fu gs=fu l:=by
   obtain⟨rfl,_,a⟩|⟨t,_,rfl,_⟩:=hgs
   .obtain⟨_,_,b⟩|⟨t,_,b,_⟩:=q9
    .rw[a,b]
    cases b
   obtain⟨b,_⟩|⟨t,_,b,_⟩:=q9
   .cases b
   injection b
  simpa[fu]using fW O e
 have hsl:ss=ss':=fT.lT M hss q11;subst hsl;rw[hgl];clear hgs hss;have hfl:O (fu l)=O l:=by simp[fu]
 have pvas:f.Pure:=fT.dW q6 λa ha=>(q7 a ha).dW;refine ee.fj (C.fs.h 87) C.dW kJ (wK ?_);refine gC ?_;refine fD e0 ?_;refine fD e0 ?_;have cvas:f.cells=[f]:=Sl.cells q6.1;have U:mT f=dT:=Sl.one q6.1;have l0:fN [.J w,.ej,.ej,f,.ej,.ej]=dT:=by rw[fN,fN,fN,fN,U];rfl
 refine sK (Do (ps:=[(0,1,.J w),(3,1,f)]) (cs:=[.J w,.ej,.ej,f,.ej,.ej]) Z (by simp only[qd,cvas];rfl)) ?_;repeat'(first|refine fD e0 ?_|refine⟨Z,wK ?_⟩|fail)
 refine sK (vF Z Z l0 Z Z Z) ?_;refine fD e0 ?_;refine fM q9 ?_;rw[hfl];obtain⟨hA,eA⟩:∃q:S,q=.h:=⟨_,Z⟩;obtain⟨hB,eB⟩:∃q:S,q=.o .h:=⟨_,Z⟩;have nA:hA.dV=1:=by rw[eA];rfl
 have nB:hB.dV=2:=by rw[eB];rfl
 refine eT.jl (λj vs m n=>∃(k:Nat)(I:L A)(W:A)(t:Option S),k+j=O l/\O I=k/\eX m n/\3<=n.dV/\m.dZ hA=Y (.dY [.J [],.ej,.ej,.ej,.ej,.ej])/\m.dZ hB=Y (.dY [.J w,.ej,.ej,f,W,.ej])/\Ap m 1 W I t/\
   (∀v∈I,∃n,n<=200/\v=.eG 2 n (gV [.ej,.ej] n) .fE)/\vs=[.fz p 0,.ea hA 0,.ea hB 0,vgs,V (O l),V k]) (O l) Z
  ⟨0,[],.ej,J,M,Z,?_,by decide,by rw[eA];rfl,by rw[eB];rfl,.nil,(λv h=>by cases h),by rw[eA,eB];rfl⟩ ?_
 .intro q o hq;have:(hp [(.h,.dY [A.J [],.ej,.ej,.ej,.ej,.ej]),(.o .h,.dY [.J w,.ej,.ej,f,.ej,.ej])]).dZ q=Y o:=hq;have:=vC this;simp only[eZ,wh,f7,fZ]at this;obtain⟨rfl,_⟩|⟨rfl,_⟩:=this<;>decide
 rintro j vs m n ⟨k,I,W,t,hk,hgd,hb,hn,m1,m2,hap,E,rfl⟩;conv=>whnf
 refine eW (λh=>?_) (λh=>?_)
 .replace h:=gz h;obtain⟨s,hkg⟩:=q10 _ (fB h);obtain⟨o,bo',nb2,vbs,bs,f0,f1,f2,f3,f4,f5,_⟩:=g.fO hkg;have hbl:O (fu bs)=s:=by simp[fu,f3]
  have hel:(fu l)[k]' M=.fz l[k] 0:=by simp[fu]
  conv=>whnf
  refine sK (kL Z q9 Z Z M) ?_;refine fH (oA Z M) ?_;rw[hel];conv=>whnf
  refine gC ?_;refine eu m2 ?_;refine fD f0 ?_;refine fM f2 ?_;rw[hbl];refine sK (abi Z Z Z Z xJ xJ) ?_;repeat'(first|refine eu m2 ?_|refine fD f0 ?_|refine⟨Z,wK ?_⟩|fail)
  refine sK (nH (k:=k) (bytes:=24) (ew:=[.eG 2 s (gV [.ej,.ej] s) .fE]) hap M M Z Z Z Z nw) ?_;refine qW λm3 n3 em3 en3=>wK ?_;have t3:n3.dV=n.dV+1:=by rw[en3,S.gG]
  have y:∀q ro,m.dZ q=Y (.dY ro)->m3.dZ q=Y (.dY ro):=λq ro hq=>by rw[em3,jZ (by have:=hb _ _ hq;omega) (λe=>by have:=hap.eY _ e;rw[hq]at this;cases this)];exact hq
  repeat'(first|refine eu (y _ _ m2) ?_|refine fD f0 ?_|refine⟨Z,wK ?_⟩|fail)
  have l1':fN [.J w,.ej,.ej,f,.eG 1 (k+1) (I++[.eG 2 s (gV [.ej,.ej] s) .fE]) (.open n),.ej]=dT:=by rw[fN,fN,fN,fN,U];rfl
  refine sK (ip (cs':=[.J w,.ej,.ej,f,.eG 1 (k+1) (I++[.eG 2 s (gV [.ej,.ej] s) .fE]) (.open n),.ej]) Z Z (y _ _ m2) Z Z Z) ?_;refine gH λm4 u=>wK ?_;refine iu ?_;refine⟨Z,j - 1,M,k+1,I++[.eG 2 s (gV [.ej,.ej] s) .fE],_,Y n,M,by simp[hgd],?_,(by show 3<=n3.dV;omega),?_,(by rw[u];exact fY),?_,?_,Z⟩
  .rw[u,em3,en3];exact hb.iW.put kP
  .rw[u,eJ M];exact y _ _ m1
  .exact .eG _ _ _ (by rw[u,eJ M,em3];exact oQ) (by rw[iN];show O I+1= _;omega)
  intro v hv;obtain h'|h':=jf.1 hv
  .exact E v h'
  simp only[eZ,f7,fZ]at h';subst h';exact⟨s,M,Z⟩
 replace h:=iK h;obtain rfl:k=O l:=M
 refine qw ?_;refine fM q11.1 ?_;have hvr:∃z,gL id (λ_=>False) W z/\fT 1 (I.map λv=>[v]) z:=by
  have hpg:∀c∈I,c.Pure:=λc hc=>by obtain⟨n,_,rfl⟩:=E c hc;exact J2 (A9 IW n)
  obtain⟨r,h1,H⟩:=hap.ue hpg;refine⟨r,h1,?_,ei⟩;rw[KB,jH];exact H
 refine eT.jl (λj vs m3 n3=>∃(k:Nat)(cs:L (L A))(B:A)(t2:Option S),k+j=O ss/\O cs=k/\(∀x∈cs,x=[.int .i64 0,.ej])/\eX m3 n3/\3<=n3.dV/\m3.dZ hA=Y (.dY [.J [],.ej,.ej,.ej,.ej,.ej])/\m3.dZ hB=Y (.dY [.J w,.ej,.ej,f,W,B])/\
   Ap m3 2 B cs.flatten t2/\vs=[.ea hA 0,.ea hB 0,V (O ss),V k]) (O ss) Z
  ⟨0,[],.ej,J,M,Z,(λv h=>by cases h),hb,hn,m1,m2,.nil,Z⟩ ?_
 rintro j2 vs m3 n3 ⟨k,cs,B,t2,jp,hcs,N,hb3,hn3,m13,m23,D,rfl⟩;conv=>whnf
 refine eW (λH=>?_) (λH=>?_)
 .replace H:=gz H;have hc2:∀x∈cs,O x=2:=λx Q=>by rw[N x Q];rfl
  conv=>whnf
  refine eu m23 ?_;refine sK (nH (k:=k) (bytes:=32) (ew:=[.int .i64 0,.ej]) D (by rw[pS hc2,hcs]) M Z Z Z Z nw) ?_;refine qW λm4 n4 u en4=>wK ?_;have t4:n4.dV=n3.dV+1:=by rw[en4,S.gG]
  have R:∀q ro,m3.dZ q=Y (.dY ro)->m4.dZ q=Y (.dY ro):=λq ro hq=>by rw[u,jZ (by have:=hb3 _ _ hq;omega) (λe=>by have:=D.eY _ e;rw[hq]at this;cases this)];exact hq
  refine sK (ip (cs':=[.J w,.ej,.ej,f,W,.eG 2 (k+1) (cs.flatten++[.int .i64 0,.ej]) (.open n3)]) Z Z (R _ _ m23) Z Z Z) ?_;refine gH λm5 F=>wK ?_;refine iu ?_;refine⟨Z,j2 - 1,M,k+1,cs++[[.int .i64 0,.ej]],_,Y n3,M,by simp[hcs],?_,?_,(by show 3<=n4.dV;omega),?_,(by rw[F];exact fY),?_,Z⟩
  .intro x Q;obtain h'|h':=jf.1 Q
   .exact N x h'
   simp only[eZ,f7,fZ]at h';exact h'
  .rw[F,u,en4];exact hb3.iW.put kP
  .rw[F,eJ M];exact R _ _ m13
  rw[show(cs++[[A.int .i64 0,.ej]]).flatten=cs.flatten++[.int .i64 0,.ej] by simp];exact .eG _ _ _ (by rw[F,eJ M,u];exact oQ) (by rw[iN,pS hc2,hcs];show k*2+2= _;omega)
 replace H:=iK H;obtain rfl:k=O ss:=M
 have hc2:∀x∈cs,O x=2:=λx Q=>by rw[N x Q];rfl
 let⟨z,hr1,hr2⟩:=hvr
 obtain⟨vs',hs1,hs2⟩:=D.G M hc2 (λx Q=>by rw[N x Q];simp[iQ,kC]);conv=>whnf
 refine eu m23 ?_;have ovr:mT W=dT:=hap.one;have ovs:mT B=dT:=D.one;refine sK (ip (cs':=[.J w,.ej,.ej,f,W,B]) Z Z m13 Z (by show fN [.J w,.ej,.ej,f,W,B]=dT;rw[fN,fN,fN,fN,U,fN,ovr,fN,ovs];rfl) Z) ?_;refine gH λm5 F=>wK ?_;refine fH (Qo (p:=hA) (cs:=[.J w,.ej,.ej,f,W,B]) Z (by rw[F];exact fY) Z) ?_;have pvr:z.Pure:=fT.dW hr2 λx Q=>by obtain⟨c,hc,rfl⟩:=gS.1 Q;obtain⟨n,_,rfl⟩:=E c hc;refine oF λc hc=>?_;subst hc;exact J2 (A9 (zero:=[.ej,.ej]) IW n)
 refine⟨.agg [.J w,.ej,.ej,f,z,vs'],.agg _ _ Z λi h1 H=>?_,[.J w,.ej,.ej,f,z,vs'],as',Z,?_⟩
 .match i,h1 with
  |0,_=>exact .ey _ j5
  |1,_=>exact .ey _ kC
  |2,_=>exact .ey _ kC
  |3,_=>exact .ey _ pvas
  |4,_=>exact hr1
  |5,_=>exact hs1
 exact .mk w .ej .ej f z vs' (I.map λv=>[v]) cs.flatten q1 kC kC Z Z q6 (λa ha=>(q7 a ha).yH λ_ _=>trivial) q8 hr2 (by simp[hgd]) l3
  (λx Q=>by obtain⟨c,hc,rfl⟩:=gS.1 Q;obtain⟨n,_,rfl⟩:=E c hc;exact⟨_,n,_,Z,.inr ⟨.fE,mR,Z,by rw[CR];rfl⟩,A9 IW n⟩)
  (by rw[<-hcs];exact hs2.1) (λc hc=>by
   obtain⟨x,h1,H⟩:=lE.1 hc;rw[N x h1]at H;simp only[eZ,f7,fZ]at H;obtain rfl|rfl:=H
   .exact iQ _ _
   exact kC)
def rP(r:A):Prop:=∃a b c,r=.agg [.bool a,.bool b,.bool c]
def rP.mk(a b c:Bool):rP (.agg [.bool a,.bool b,.bool c]):=⟨a,b,c,Z⟩
def Gu(a b c:Bool):(A.agg [.bool a,.bool b,.bool c]).Pure:=jg (by simp[sD])
def rP.dW{r:A}(h:rP r):r.Pure:=by obtain⟨a,b,c,rfl⟩:=h;exact Gu a b c
def KR(C:fP P G){f g:A}{s q:L A}(K:fC s f)(e:fC q g)(c:iL s)(z:iL q)(p:O s<4611686018427387000):f9 P G 152 [f,g] λr=>∃b,r=.bool b:=by
 refine ee.fj (C.fs.h 152) C.dW (jA (K.dW c.dW) (e.dW z.dW)) (wK ?_);refine fM K ?_;refine fM e ?_;refine eW (λh=>?_) (λh=>?_)
 .conv=>whnf
  exact lX
 have o:O s=O q:=by simpa[gD]using h
 conv=>whnf
 refine fM K ?_;refine eT.jz C.dW .h (λj w m=>∃k:Nat,k+j=O s/\w=[f,g,V (O s),V k]/\m=hp []) (O s) Z ⟨0,M,Z,Z⟩ Z ei Z ?_;rintro j w m ⟨k,n,rfl,rfl⟩;conv=>whnf
 refine eW (λd=>?_) (λd=>?_)
 .replace d:=gz d;obtain⟨a,i,_⟩:=c _ (fB d);obtain⟨b,l,_⟩:=z _ (fB (show k<O q by omega));conv=>whnf
  refine gC ?_;refine gW K d ?_;refine fH (oA Z d) ?_;rw[i];conv=>whnf
  refine sK (kL Z e Z Z (show k<O q by omega)) ?_;refine fH (oA Z (show k<O q by omega)) ?_;rw[l];conv=>whnf
  refine bK (λF=>?_) λF=>?_
  .exact lX
  refine iu ?_;exact⟨Z,.iC [] _ ⟨j - 1,M,k+1,M,Z,Z⟩ ⟨.ey _ (K.dW c.dW),.ey _ (e.dW z.dW),.ey _ fI,.ey _ fI,eR⟩ eR⟩
 conv=>whnf
 exact lX
def yN(C:fP P G){d e:A}{s q:L A}(K:fC s d)(r:fC q e)(a:iL s)(z:iL q)(f:O s<4611686018427387000):f9 P G 115 [d,e] rP:=by
 obtain⟨_,⟨b,rfl⟩,fe⟩:=KR C K r a z f;refine ee.fj (C.fs.h 115) C.dW (jA (K.dW a.dW) (r.dW z.dW)) (wK ?_);refine fM K ?_;refine fM r ?_;refine bK (λh=>?_) λh=>?_
 .exact mN
 refine ee.c fe ?_;cases b<;>exact uD
def Ba(C:fP P G)(g:FG P G K){p:S}(n:K p=Y (.op d B l)):f9 P G 173 [.fz p 0] λr=>∃s:L Nat,r=.J s/\O s<=eI:=by
 obtain⟨v,m,u,f,k,t,q,o,E,F,N,e0,H,R,I,c,i,_⟩:=g.op n;refine ee.fj (C.fs.h 173) C.dW kJ (wK ?_);refine fD e0 ?_;refine fM c ?_;have b:O (fu o)=O o:=by simp[fu]
 rw[b];refine eW (λh=>?_) (λh=>?_)
 .conv=>whnf
  exact⟨_,.j j5,_,Z,ei⟩
 have x:O o=1:=by simpa[gD]using h
 have a:(fu o)[0]' M=.fz (o[0]' M) 0:=by simp[fu]
 obtain⟨s,D,z,y,e,⟨Q,w,U⟩,_⟩:=g.val (i _ (fB (show 0<O o by omega)));refine qw ?_;refine sK (kL (j:=0) Z c Z Z M) ?_;refine fH (oA Z (show 0<O (fu o) by omega)) ?_;rw[a];conv=>whnf
 refine fD e ?_;exact⟨_,.j j5,s,Z,w⟩
def Bb(C:fP P G)(s:L Nat)(a:O s<=eI):f9 P G 123 [.J s] λr=>∃z:Int,r=.int .i64 z:=by
 refine gT λhM=>?_;obtain⟨_,⟨k,e,rfl⟩,fk⟩:=FT C s M;obtain⟨_,⟨z,y,rfl⟩,fb⟩:=Y2 C s M;refine ee.fj (C.fs.h 123) C.dW nJ (wK ?_);refine ee.c fk ?_;refine bK (λh=>?_) λh=>?_
 .exact tq
 refine ee.c fb ?_;exact tq
def oR(P:Program)(G:ez)(f:FuncId)(p:S):Prop:=∃v,rP v/\∀x,ee P G f [x,.fz p 0] v
def abk(C:fP P G)(p:S):oR P G 56 p:=by refine ee.pi (C.fs.h 56) C.dW kJ (wK ?_);exact mN
def abl(C:fP P G)(g:FG P G K){p:S}(n:K p=Y (.op d B l))(a:d≠0):oR P G 58 p:=by obtain⟨_,⟨b,rfl⟩,fb⟩:=KQ C g n a;refine ee.pi (C.fs.h 58) C.dW kJ (wK ?_);refine ee.c fb ?_;cases b<;>exact uD
def abm(C:fP P G)(g:FG P G K){p:S}(n:K p=Y (.op d B l))(a:d≠0):oR P G 59 p:=by obtain⟨_,⟨b,rfl⟩,fb⟩:=KQ C g n a;obtain⟨_,⟨e,rfl⟩,fw⟩:=KO C g n [99,111,100,101] (.ofNat 16) (.ofNat 2147483647);refine ee.pi (C.fs.h 59) C.dW kJ (wK ?_);refine ee.c fw ?_;cases e<;>(conv=>whnf)<;>refine ee.c fb ?_<;>cases b<;>exact uD
def abn(C:fP P G)(g:FG P G K){p:S}(n:K p=Y (.op d B l))(a:d≠0):oR P G 57 p:=by
 refine gT λhM=>?_;obtain⟨v,x,y,f,w,z,q,o,E,Q,ss,e0,s,R,m,U,W,_,_,_,_,_,_,_,_,_,j,_⟩:=g.op n;obtain⟨_,⟨b,rfl⟩,fb⟩:=KQ C g n a;obtain⟨v1,⟨ts,r,t2,u,t4⟩,i⟩:=oa C g R m j;obtain⟨_,⟨t,k,rfl,ht,_⟩,ff⟩:=abf C g d n;obtain⟨v2,⟨ys,D,y2,H,y4⟩,e⟩:=KN C g ht;obtain⟨_,⟨I,F,N,rfl⟩,fs⟩:=yN C r D u H M;refine ee.pi (C.fs.h 57) C.dW kJ (wK ?_);refine ee.c fb ?_;cases b
 .conv=>whnf
  exact mN
 refine qw ?_;refine ee.c i ?_;refine ee.c ff ?_;refine ee.c e ?_;refine ee.c fs ?_;exact mN
def abp(C:fP P G)(g:FG P G K){p:S}(n:K p=Y (.op d B l)):oR P G 65 p:=by
 refine gT λhM=>?_;obtain⟨_,⟨s,rfl,hs⟩,fo⟩:=Ba C g n;obtain⟨_,⟨k,e,rfl⟩,fk⟩:=FT C s M;refine ee.pi (C.fs.h 65) C.dW kJ (wK ?_);refine BY ?_;refine bK (λh=>?_) λh=>?_
 .exact Up
 exact Up
def mY{s:L S}{k:Nat}(h:k<O s):(fu s)[k*1]? =Y (.fz s[k] 0):=by rw[kO,fu,pz,jq h];rfl
def iM(s:L S):O (fu s)=O s:=by simp[fu]
def abq(C:iF P G)(g:FG P G K){p:S}(n:K p=Y (.op d B l)):oR P G 61 p:=by
 refine gT λhM=>?_;obtain⟨_,⟨x,b,rfl,hx⟩,fa⟩:=Dv C.tofP g n [112,114,101,100]
 let⟨v,s,F,a,r,o⟩:=C.g2
 have hones:=hx.Y;cases hx with
 |mk y w I m N Q D q f i j E H k t z u=>have e:=AQ C.fs C.dW a M r.J m;refine ee.pi (C.fs.h 61) C.dW kJ (wK ?_);refine ee.c fa ?_;refine sf ?_;refine sK (Dc F) ?_;refine ee.c e ?_;generalize s.any (tZ m)=bb;cases bb<;>exact uD
def abr(C:iF P G)(g:FG P G K){p:S}(n:K p=Y (.op d B l)):oR P G 60 p:=by
 refine gT λhM=>?_;obtain⟨_,⟨s,rfl,hs⟩,fo⟩:=Ba C.tofP g n;obtain⟨_,⟨a,b,e,rfl⟩,fr⟩:=Y6 C.tofP s M;obtain⟨_,⟨f,rfl⟩,fw⟩:=KO C.tofP g n [118,97,108,117,101] a b;refine ee.pi (C.fs.h 60) C.dW kJ (wK ?_);refine BY ?_;refine bK (λh=>?_) λh=>?_
 .exact U0
 exact U0
def FG.first(g:FG P G K){q:L S}(w:ke K q)(h:0<O q):∃s b a k,G.fU q[0]=Y [.J s,b,a,.int .i64 k]/\O s<=eI:=by obtain⟨s,b,a,c,d,⟨f,e,i⟩,_⟩:=g.val (w _ (fB h));exact⟨s,b,a,c,d,e⟩
def Bc(G:ez)(p:S)(k:Nat):Prop:=∀v a K f b t c q,G.fU p=Y [.J v,a,K,f,b,t,c]->fC (fu q) a->k<O q
def abs(C:iF P G)(g:FG P G K){p:S}(n:K p=Y (.op d B l))(E:Bc G p 0):oR P G 62 p:=by
 refine gT λhM=>?_;obtain⟨v,i,k,f,e,t,q,o,m,F,z,e0,y,q2,b,_⟩:=g.op n;have h0:0<O q:=E _ _ _ _ _ _ _ q e0 q2;obtain⟨c,x,w,u,e1,a⟩:=g.first b h0;have hel:=mY h0;obtain⟨_,⟨s,rfl,hs⟩,fo⟩:=Ba C.tofP g n;obtain⟨_,⟨D,rfl⟩,f1⟩:=Bb C.tofP s hs;obtain⟨_,⟨H,rfl⟩,f2⟩:=Bb C.tofP c a;refine ee.pi (C.fs.h 62) C.dW kJ (wK ?_);refine BY ?_;refine bK (λh=>?_) λh=>?_
 .exact SC
 exact SC
def abt(C:iF P G)(g:FG P G K){p:S}(n:K p=Y (.op d B l))(E:Bc G p 0):oR P G 63 p:=by
 refine gT λhM=>?_;obtain⟨v,k,m,f,i,t,q,o,w,F,H,e0,D,q2,b,_⟩:=g.op n;have h0:0<O q:=E _ _ _ _ _ _ _ q e0 q2;obtain⟨e,z,y,x,e1,a⟩:=g.first b h0;have hel:=mY h0;obtain⟨_,⟨s,rfl,hs⟩,fo⟩:=Ba C.tofP g n;obtain⟨_,⟨u,rfl⟩,f1⟩:=Bb C.tofP s hs;obtain⟨_,⟨I,rfl⟩,f2⟩:=Bb C.tofP e a;refine ee.pi (C.fs.h 63) C.dW kJ (wK ?_);refine BY ?_;refine bK (λh=>?_) λh=>?_
 .exact Wm
 exact Wm
def abu(C:iF P G)(g:FG P G K){p:S}(n:K p=Y (.op d B l))(E:Bc G p 0):oR P G 64 p:=by
 refine gT λhM=>?_;obtain⟨v,w,x,f,u,t,q,o,y,F,Q,z,N,R,m,_⟩:=g.op n;have b:0<O q:=E _ _ _ _ _ _ _ q z R;obtain⟨k,I,H,D,i,e⟩:=g.first m b;have a:=mY b;obtain⟨_,⟨s,rfl,hs⟩,fo⟩:=Ba C.tofP g n;obtain⟨_,⟨U,rfl⟩,f1⟩:=Bb C.tofP s hs;obtain⟨_,⟨W,rfl⟩,f2⟩:=Bb C.tofP k e;refine ee.pi (C.fs.h 64) C.dW kJ (wK ?_);refine BY ?_;refine bK (λh=>?_) λh=>?_
 .refine bK (λr=>?_) λr=>?_
  .exact VK
  exact mN
 refine bK (λr=>?_) λr=>?_
 .exact VK
 exact mN
def abv(C:iF P G)(g:FG P G K){p:S}(n:K p=Y (.op d B l))(o:Bc G p 0):oR P G 66 p:=by
 refine gT λhM=>?_;obtain⟨v,D,H,f,x,I,q,rs,N,F,ss,z,q1,R,w,_⟩:=g.op n;have a:0<O q:=o _ _ _ _ _ _ _ q z R;obtain⟨so,po,W,U,i,u⟩:=g.first w a;have b:=mY a;obtain⟨_,⟨s,rfl,hs⟩,fo⟩:=Ba C.tofP g n;obtain⟨_,⟨k,e,rfl⟩,fk⟩:=FT C.tofP s M;obtain⟨_,⟨t,y,Q,rfl⟩,fe⟩:=Pq C.toKh s M;refine ee.pi (C.fs.h 66) C.dW kJ (wK ?_);refine BY ?_;refine bK (λh=>?_) λh=>?_
 .exact Tw
 exact Tw
def ug(G:ez)(p:S)(k:Nat):Prop:=∀v b K f a t c E,G.fU p=Y [.J v,b,K,f,a,t,c]->fC (fu E) a->k<=O E
def FG.entry(g:FG P G K)(n:K r=Y (.fO d l)):∃o e H i f b F,G.fU r=Y [.fz o 0,e]/\fC (fu H) e/\∃h:0<O H,G.fU H[0]=Y [.fz i 0,f,b]/\fC (fu F) f/\ke K F/\O F<=eI:=by
 obtain⟨o,B,p,e,H,j,z,w,t,u,v,k⟩:=g.fO n;have c:0<O H:=M
 obtain⟨i,f,b,F,R,m,W,a,q,x,y,C,s,D⟩:=g.eC (k _ (fB c));exact⟨o,e,H,i,f,b,F,j,w,c,m,a,q,s⟩
def KS(C:fP P G){xs:L (L A)}(hv:fT 3 xs v)(g:∀x∈xs,∃a b c,x=[.bool a,.bool b,.bool c])(n:O xs<=eI):f9 P G 90 [v] rP:=by
 refine gT λhM=>?_;have d:v.Pure:=fT.dW hv λx h=>by obtain⟨a,b,c,rfl⟩:=g x h;simp[sD]
 refine ee.fj (C.fs.h 90) C.dW (it d) (wK ?_);refine fM hv.1 ?_;refine eT.jz C.dW (.i .h) (λj w m=>∃(k:Nat)(a b c:Bool),k+j=O xs/\w=[.ea .h 0,.ea (.o .h) 0,v,V (O xs),V k]/\m=hp [(.h,.dY [.bool dU,.bool dU,.bool dU]),(.o .h,.dY [.bool a,.bool b,.bool c])]) (O xs) Z ⟨0,_,_,_,M,Z,Z⟩ Z ei Z ?_;rintro j w m ⟨k,a,b,c,l,rfl,rfl⟩;conv=>whnf
 refine eW (λh=>?_) (λh=>?_)
 .replace h:=gz h;obtain⟨F,e,B,f⟩:=g _ (fB h);conv=>whnf
  refine zt ?_;rw[f];conv=>whnf
  cases a<;>cases b<;>cases c<;>cases F<;>cases e<;>cases B<;>(conv=>whnf)<;>rw[je M]<;>exact⟨Z,.iC [(.h,.dY [.bool dU,.bool dU,.bool dU]),(.o .h,.dY [.bool _,.bool _,.bool _])] _ ⟨j - 1,M,k+1,_,_,_,M,Z,Z⟩ ⟨.L (eV Z) Z,.L (eV Z) Z,.ey _ d,.ey _ fI,.ey _ fI,eR⟩ ⟨EP,EP,eR⟩⟩
 conv=>whnf
 exact mN
def Gv{H:eM}{o n:Nat}(h:Sl o n w v):sj H v=Y (n,w)/\rm H v=Y (n,w)/\O w=n*o:=by
 obtain⟨rfl,rfl,rfl⟩|⟨t,_,rfl,hl⟩:=h
 .exact⟨Z,Z,ei⟩
 exact⟨Z,Z,hl⟩
def KT{dY:Bool}{F:T A}{x y:IX}{o b:Nat}{s v:A}(e:x.ev G F=Y s)(d:s=.ej\/∃p o n c,s=.eC p o 0 n c dU)(f:y.ev G F=Y v)(a:Sl o 0 [] v):
  fA G dY F H (.bi (.append o b) [x,y])=Y (.val s):=by
 obtain⟨_,r,_⟩:=Gv (H:=H) a;obtain rfl|⟨p,o,n,c,rfl⟩:=d<;>simp[fA,fG,ko,e,f,iU,r,fN,nN]
def Qq{dY:Bool}{F:T A}{H:eM}{x y:IX}{o b n m cap:Nat}{p:S}{cs ew old rest:L A}(j:x.ev G F=Y (.eC p o 0 n cap dU))(hp:H.ep.dZ p=Y (.dY (old++cs++rest)))(w:O old=n*o)(q:O cs=m*o)
  (l:y.ev G F=Y v)(a:Sl o m ew v)(K:fN ew=dT)(f:0<m)(c:n+m<=cap):fA G dY F H (.bi (.append o b) [x,y])=Y (.put p (.dY (old++ew++rest)) (.eC p o 0 (n+m) cap dU)):=by
 obtain⟨_,r,i⟩:=Gv (H:=H) a;obtain⟨m,rfl⟩:∃k,m=k+1:=⟨m - 1,M⟩;have d:Nat.beq (O ew) ((m+1)*o)=dT:=by rw[nr];exact i
 have h:Nat.ble (n+(m+1)) cap=dT:=by rw[jS];exact c
 have N:o4 (0+n*o) ew (old++cs++rest)=Y (old++ew++rest):=by
  have:Nat.ble (0+n*o+O ew) (O (old++cs++rest))=dT:=by rw[jS];simp;omega
  rw[lg]at this⊢;simp only[o4,this,gZ];have e:(old++cs++rest).take (n*o)=old:=by rw[<-w,np,List.take_left' Z]
  have g:(old++cs++rest).drop (n*o+O ew)=rest:=List.drop_left' lW;rw[e,g]
 simp only[fA,fG,ko,j,l,jm,jb,iU,r,K,d,qG,gZ,nN,li,hp,qA,h,N]
def Qr{F:T A}{x y:IX}{o b m:Nat}{zero:L A}{k:IntKind}(v:x.ev G F=Y .ej)(a:y.ev G F=Y (.int k z))(c:z=.ofNat m)(f:0<m)(K:fN zero=dT)(n:mU m b=dT):
  fA G dT F H (.bi (.Ah o b zero) [x,y])=Y (.oK J o m (gV zero m)):=by
 subst c;obtain⟨m,rfl⟩:∃k,m=k+1:=⟨m - 1,M⟩;simp only[fA,fG,ko,v,a,jm,jb,iU,lG,K,n,qG,gZ,nN]
def gL.abw{π:S->S}{D:S->Prop}{p:S}{o b n cap:Nat}(hp:D p)(a:π p=p):gL π D (.eC p o b n cap w) (.eC p o b n cap w):=by have:=gL.eC (π:=π) (D:=D) p o b n cap w hp;rw[a]at this;exact this
def Qs{dY:Bool}{F:T A}{x y:IX}{o n:Nat}{p:S}{k:IntKind}(v:x.ev G F=Y (.eC p o 0 n n dU))(b:y.ev G F=Y (.int k z))(c:z=.ofNat 0)(E:0<n):
  fA G dY F H (.slice (.sl o) x J (Y y) J)=Y (.val (.eC p o 0 0 n dU)):=by
 subst c;have e:Nat.beq n 0=dU:=by cases n with|zero=>omega|succ n=>rfl
 have a:Nat.ble 0 n=dT:=by rw[jS];omega
 simp[fA,fG,v,b,pJ,pI,lG,pK,e,a]
def ij(s:L (L A)):Nat:=(s.map O).sum
def KU{s:L (L A)}{k:Nat}(h:k<O s):ij (s.take (k+1))=ij (s.take k)+s[k].length:=by rw[zR h,ij,oj,List.sum_append];simp[ij]
def KV(s:L (L A))(k:Nat):ij (s.take k)<=ij s:=by
 have:s.take k++s.drop k=s:=EL k s;have e:ij (s.take k++s.drop k)=ij (s.take k)+ij (s.drop k):=by simp only[ij,oj,List.sum_append]
 rw[this]at e;omega
def KW{s:L (L A)}{k:Nat}(h:k<O s):(s.take (k+1)).flatten=(s.take k).flatten++s[k]:=by rw[zR h,qE];simp
def Bd(s:L (L A)):O s.flatten=ij s:=by simp[ij,List.length_flatten]
def Gw(c:A)(n:Nat):gV [c] n=List.replicate n c:=by
 induction n with
 |zero=>rfl
 |succ n i=>simp[gV,i,NC]
def Qt(C:fP P G){v:A}{vs:L A}{xs:L (L A)}(hv:fC vs v)(o:O vs=O xs)(hx:∀i (h:i<O vs)(h':i<O xs),fC xs[i] vs[i]/\fN xs[i]=dT)(hpx:∀x∈xs,∀c∈x,c.Pure)(t:ij xs<=4*eI)(E:O xs<=eI):
  f9 P G 131 [v] λr=>fC xs.flatten r:=by
 refine gT λhM=>?_;refine UT λhvp hroom=>?_;obtain⟨r,s,g⟩:=ee.Qg (good:=λr=>fC xs.flatten r) (C.fs.h 131) C.dW (it hvp) (by
  refine xB ?_;refine Ss ?_;rintro j vs' m ⟨k,b,rfl,rfl⟩;conv=>whnf
  refine eW (λh=>?_) (λh=>?_)
  .exact Sr
  refine UC λh hpr=>?_;by_cases hz:ij xs=0
  .refine UP ?_;rintro j vs' m ⟨k,b,rfl,rfl⟩;conv=>whnf
   refine eW (λh2=>?_) (λh2=>?_)
   .exact V1
   conv=>whnf
   have:xs.flatten=[]:=pG (by rw[Bd];exact hz);exact⟨_,.ey _,kC,by rw[this];exact .inl ⟨Z,Z,Z⟩⟩
  generalize p:lh (.ofNat 0) (.ofNat (ij xs))=bb;cases bb with
  |false=>exact absurd (iK p) M
  |true=>
  refine VN ?_;rintro j vs' m ⟨k,b,rfl,rfl⟩;conv=>whnf
  refine eW (λh2=>?_) (λh2=>?_)
  .exact V3
  refine zO λh2=>?_;have a:xs.take k=xs:=oG M;rw[a,BZ];have d:(0:Nat)+ij xs*1<=O (xs.flatten++List.replicate 0 (A.J [])):=by rw[iN,Bd];simp
  have f:O xs.flatten=ij xs*1:=by rw[Bd,kO]
  refine⟨.eG 1 (ij xs) xs.flatten .G,.eC .h 1 0 (ij xs) (ij xs) dU (xs.flatten++List.replicate 0 (A.J [])) xs.flatten eR Z d f (λi hi q=>?_),qQ ei λc hc=>by obtain⟨x,hx1,hx2⟩:=lE.1 hc;exact hpx x hx1 c hx2,.inr ⟨.G,ei,by rw[Bd],ei⟩⟩;have l:(xs.flatten++List.replicate 0 (A.J []))[0+i]=xs.flatten[i]:=ei
  rw[l];exact .ey _)
 exact⟨_,s,g⟩
def KX(C:fP P G)(g:FG P G K){p:S}(n:K p=Y (.op d B nb)){j:Nat}(N:ug G p (j+1)){q:L A}(s:fC q v)(r:iL q):f9 P G 130 [.fz p 0,.int .i64 (.ofNat j),v] rP:=by
 refine gT λhM=>?_;obtain⟨nm,vos,vrs,vas,vgs,vss,os,rs,E,as,ss,z,q1,q2,q3,q4,q5,q6,q7,q8,u,m,_⟩:=g.op n;have k:j<O E:=N _ _ _ _ _ _ _ E z u;obtain⟨nb',Q⟩:=m _ (fB k);obtain⟨o,vbs,bs,gg,ca,y,H,i,w,e,l,R,U,W⟩:=g.entry Q;have hel:=mY k;have f:=mY e;obtain⟨_,⟨t1,D,a2,F,a4⟩,I⟩:=oa C g R U W;obtain⟨_,⟨a,b,c,rfl⟩,fs⟩:=yN C D s F r M;refine ee.fj (C.fs.h 130) C.dW (by intro x t;simp only[eZ,f7,fZ]at t;obtain rfl|rfl|rfl:=t;exact o9 _ _;exact iQ _ _;exact s.dW r.dW) (wK ?_);repeat'(first|refine fD z ?_|refine fD i ?_|refine fD l ?_|refine⟨Z,wK ?_⟩|fail)
 refine sK (kL (j:=j) Z u Z Z (by rw[iM];exact k)) ?_;refine B9 ?_;repeat'(first|refine fD z ?_|refine fD i ?_|refine fD l ?_|refine⟨Z,wK ?_⟩|fail)
 refine sK (kL (j:=0) Z w Z Z (by rw[iM];exact e)) ?_;refine sK (jO Z f) ?_;repeat'(first|refine fD z ?_|refine fD i ?_|refine fD l ?_|refine⟨Z,wK ?_⟩|fail)
 refine ee.c I ?_;refine ee.c fs ?_;exact mN
def abx{sz n m:Nat}{cs:List A}{v:A}(h:Sl sz n cs v)(hm:m<=n):∃v',Sl sz (n - m) (cs.drop (m*sz)) v'/\∀(dY:Bool)(F:T A)(H:eM)(x i j k:IX)(ki kj kk:IntKind),x.ev G F=Y v->i.ev G F=Y (.int ki (.ofNat m))->j.ev G F=Y (.int kj (.ofNat n))->k.ev G F=Y (.int kk (.ofNat n))->fA G dY F H (.slice (.sl sz) x (Y i) (Y j) (Y k))=Y (.val v'):=by
 have e1:Nat.ble n n=dT:=by rw[jS];omega
 have e2:Nat.ble m n=dT:=by rw[jS];omega
 obtain⟨rfl,rfl,rfl⟩|⟨t,_,rfl,hl⟩:=h
 .refine⟨.ej,.inl ⟨Z,M,ei⟩,λdY F H x i j k ki kj kk hx hi hj hk=>?_⟩;obtain rfl:m=0:=M
  simp only[fA,fG,hx,hi,hj,hk,pJ,pI,lG,pK,jm,jb];rfl
 have e3:O (cs.drop (m*sz))=(n - m)*sz:=by rw[oI,hl,zA]
 have e5:∀p,tE m n n dT t≠.open p:=λp e=>by
  cases t<;>simp only[tE]at e
  .cases e
  .cases e
  revert e;cases Nat.beq n 0<;>intro e<;>cases e
 refine⟨.eG sz (n - m) (cs.drop (m*sz)) (tE m n n dT t),.inr ⟨_,e5,Z,e3⟩,λdY F H x i j k ki kj kk hx hi hj hk=>?_⟩;have e4:(cs.drop (m*sz)).take ((n - m)*sz)=cs.drop (m*sz):=oG M;simp[fA,fG,hx,hi,hj,hk,pJ,pI,lG,pK,e1,e2,e4]
def Qu(C:fP P G)(a b c:Bool):f9 P G 90 [.eG 3 1 [.bool a,.bool b,.bool c] .fE] rP:=
 KS C (xs:=[[.bool a,.bool b,.bool c]]) NH (λx v=>by simp only[eZ,f7,fZ]at v;subst v;exact⟨_,_,_,Z⟩) My
def Qv(C:fP P G)(a b c d e f:Bool):f9 P G 90 [.eG 3 2 [.bool a,.bool b,.bool c,.bool d,.bool e,.bool f] .fE] rP:=
 KS C (xs:=[[.bool a,.bool b,.bool c],[.bool d,.bool e,.bool f]]) NH (λx v=>by simp only[eZ,f7,fZ]at v;obtain rfl|rfl:=v<;>exact⟨_,_,_,Z⟩) My
def KY(C:fP P G)(a b c d e f g h i:Bool):f9 P G 90 [.eG 3 3 [.bool a,.bool b,.bool c,.bool d,.bool e,.bool f,.bool g,.bool h,.bool i] .fE] rP:=
 KS C (xs:=[[.bool a,.bool b,.bool c],[.bool d,.bool e,.bool f],[.bool g,.bool h,.bool i]]) NH (λx v=>by simp only[eZ,f7,fZ]at v;obtain rfl|rfl|rfl:=v<;>exact⟨_,_,_,Z⟩) My
def aby(C:fP P G)(g:FG P G K){p:S}(n:K p=Y (.op d B nb))(hn:ug G p 2):oR P G 67 p:=by
 refine gT λhM=>?_;obtain⟨nm,vos,vrs,vas,vgs,vss,os,rs,E,as,ss,z,q1,q2,q3,q4,q5,q6,q7,q8,F,q,_⟩:=g.op n;have v:1<O E:=hn _ _ _ _ _ _ _ E z F;have u:0<O E:=M
 obtain⟨nb',hr⟩:=q _ (fB u);obtain⟨o,vbs,bs,gg,ca,Q,r,s,w,i,y,k2,k3,k4⟩:=g.entry hr;obtain⟨I,x⟩:=q _ (fB v);obtain⟨o2,N,R,W,U,H,f,b,t,a,e,D,k32,k42⟩:=g.entry x;have hel:=mY u;have k:=mY v;have l:=mY i;have m:=mY a;obtain⟨_,⟨a1,b1,c1,rfl⟩,f1⟩:=Qu C dT dU dU;obtain⟨_,⟨a2,b2,c2,rfl⟩,f2'⟩:=Qu C dU dU dU;refine ee.pi (C.fs.h 67) C.dW kJ (wK ?_);repeat'(first|refine fD z ?_|refine fD s ?_|refine fD y ?_|refine⟨Z,wK ?_⟩|fail)
 refine sK (kL (j:=0) Z F Z Z (by rw[iM];exact u)) ?_;refine B9 ?_;repeat'(first|refine fD z ?_|refine fD s ?_|refine fD y ?_|refine⟨Z,wK ?_⟩|fail)
 refine sK (kL (j:=0) Z w Z Z (by rw[iM];exact i)) ?_;refine sK (jO Z l) ?_;repeat'(first|refine fD z ?_|refine fD s ?_|refine fD y ?_|refine⟨Z,wK ?_⟩|fail)
 refine fM k2 ?_;generalize lh (.ofNat 0) (.ofNat (O (fu r)))=bb;cases bb
 .conv=>whnf
  repeat'(first|refine fD z ?_|refine fD b ?_|refine fD e ?_|fail)
  refine sK (kL (j:=1) Z F Z Z (by rw[iM];exact v)) ?_;refine sK (jO Z k) ?_;repeat'(first|refine fD z ?_|refine fD b ?_|refine fD e ?_|fail)
  refine sK (kL (j:=0) Z t Z Z (by rw[iM];exact a)) ?_;refine sK (jO Z m) ?_;repeat'(first|refine fD z ?_|refine fD b ?_|refine fD e ?_|fail)
  refine fM D ?_;generalize lh (.ofNat 0) (.ofNat (O (fu f)))=bb;cases bb
  .conv=>whnf
   refine ee.c f2' ?_;exact mN
  conv=>whnf
  refine ee.c f1 ?_;exact mN
 conv=>whnf
 refine ee.c f1 ?_;exact mN
def abz(C:fP P G)(g:FG P G K){p:S}(n:K p=Y (.op d B l))(E:ug G p 2):oR P G 69 p:=by
 refine gT λhM=>?_;obtain⟨nm,vos,vrs,U,W,vss,os,rs,gs,as,ss,z,q1,R,I,N,Q,q6,q7,q8,q9,x,y,D,F,H,w,v,_⟩:=g.op n;have q:ug G p 1:=λa b c d e f h i j k=>by have:=E a b c d e f h i j k;omega
 obtain⟨_,⟨t1,r,a2,s,a4⟩,m⟩:=oa C g R I w;obtain⟨_,⟨t2,t,b2,u,b4⟩,o⟩:=oa C g N Q v;obtain⟨_,⟨x1,x2,x3,rfl⟩,fk1⟩:=KX C g n (j:=0) q r s;obtain⟨_,⟨y1,y2,y3,rfl⟩,fk2⟩:=KX C g n (j:=1) E t u;obtain⟨_,⟨z1,z2,z3,rfl⟩,f1⟩:=Qv C x1 x2 x3 y1 y2 y3;refine ee.pi (C.fs.h 69) C.dW kJ (wK ?_);refine gC ?_;repeat'(first|refine fD z ?_|refine ee.c m ?_|refine ee.c o ?_|refine ee.c fk1 ?_|refine ee.c fk2 ?_|refine ee.c f1 ?_|refine⟨Z,wK ?_⟩|fail)
 exact mN
def Qw{F:T A}{o j:Nat}{zero w:L A}{ps:L (Nat×Nat×A)}(h:o5 G F a=Y ps)(r:qd ps (gV zero j)=Y w):fA G dU F H (.lit o j zero a)=Y (.val (.eG o j w .fE)):=by simp only[fA,h,jm,r,jb,jx]
def KZ{F:T A}{x y:IX}(hx:x.ev G F=Y a)(hy:y.ev G F=Y v)(ha:a.cells=[a])(hv:fC w v):fA G dU F H (.lit 1 2 [.ej] [(0,1,x),(1,1,y)])=Y (.val (.eG 1 2 [a,v] .fE)):=Uv
def Qx{c:L Nat}{q:L A}{Q:A}(K:fC q Q)(r:iL q){i:Nat}(h:i<[A.eG 1 1 [.J c] .fE,Q].length)(n:i<[[A.J c],q].length):fC [[A.J c],q][i] [A.eG 1 1 [.J c] .fE,Q][i]/\fN [[A.J c],q][i]=dT:=by
 match i with
 |0=>exact⟨.inr ⟨_,ei,Z,Z⟩,Z⟩
 |1=>exact⟨K,Dj λx v=>by obtain⟨s,rfl,_⟩:=r x v;rfl⟩
 |i+2=>simp at h;omega
def Qy{c:L Nat}{q:L A}(r:iL q):∀x∈[[A.J c],q],∀a∈x,a.Pure:=λx v a b=>by
 simp only[eZ,f7,fZ]at v;obtain rfl|rfl:=v
 .simp only[eZ,f7,fZ]at b;subst b;exact jX _
 obtain⟨s,rfl,_⟩:=r a b;exact jX _
def Qz{c:L Nat}{q:L A}(r:iL q)(K:O c<=eI:=by show _ <=1048576;decide):iL [[A.J c],q].flatten:=λx v=>by
 simp only[nK,zW,oi,jf,eZ,f7,fZ]at v;obtain rfl|v:=v
 .exact⟨_,Z,K⟩
 exact r x v
def abA(C:fP P G)(g:FG P G K){p:S}(n:K p=Y (.op d B nb))(E:ug G p 1)(W:Bc G p 1):oR P G 68 p:=by
 refine gT λhM=>?_;obtain⟨nm,vos,vrs,vas,vgs,vss,a,rs,gs,as,ss,z,q1,R,q3,q4,q5,q6,q7,q8,q9,q10,q11,q12,q13,q14,l1,l2,_⟩:=g.op n;have h2:1<O a:=W _ _ _ _ _ _ _ a z R;obtain⟨_,⟨t2,f,b2,u,b4⟩,k⟩:=oa C g q4 q5 l2;obtain⟨_,⟨I,rfl⟩,fw⟩:=KO C g n [115,116,101,112] 1 2147483647;rename_i b;obtain⟨o,w1,w2⟩:=abx (G:=G) (m:=2) R (by rw[iM];omega);have w3:fC (fu (a.drop 2)) o:=by
  have N:fu (a.drop 2)=(fu a).drop (2*1):=by simp[fu]
  show Sl 1 _ _ _;rw[N,oI];exact w1
 obtain⟨_,⟨t1,D,a2,F,H⟩,e⟩:=oa C g w3 (λq hq=>q3 q (List.mem_of_mem_drop hq)) lW;rw[oI]at H;obtain⟨_,l,Q⟩:=Qt C (v:=.eG 1 2 [.eG 1 1 [.J [105,110,100,101,120]] .fE,b] .fE) (vs:=[.eG 1 1 [.J [105,110,100,101,120]] .fE,b]) (xs:=[[.J [105,110,100,101,120]],t2]) BV Z (λi h U=>Qx f u h U) (Qy u) (by simp[ij];omega) lW;obtain⟨_,⟨r,s,t,rfl⟩,fs⟩:=yN C D f F u M;obtain⟨_,⟨w,x,y,rfl⟩,fk⟩:=KX C g n (j:=0) E l (Qz u);cases I
 .obtain⟨_,⟨z1,z2,z3,rfl⟩,f1⟩:=KY C dU (!dU) dU r s t w x y;exact SA
 obtain⟨_,⟨z1,z2,z3,rfl⟩,f1⟩:=KY C dU (!dT) dU r s t w x y;exact SA
def abB(C:fP P G)(g:FG P G K){p:S}(hK:K p=Y (.op d bo l)):f9 P G 89 [.fz p 0] rP:=by
 refine gT λhM=>?_;obtain⟨nm,vos,vrs,vas,vgs,v,os,rs,gs,as,u,e0,q1,q2,q3,q4,q5,q6,q7,q8,q9,q10,e,q12,q13,q14,l1,l2,l3,l4,l5⟩:=g.op hK;refine ee.fj (C.fs.h 89) C.dW kJ (wK ?_);refine fD e0 ?_;refine fM e.1 ?_;have n:∀s∈u,∃d',vP K d' l s:=λs hs=>S2;have H:v.Pure:=fT.dW e λs hs c N=>by
  obtain⟨d',h⟩:=n s hs;cases h with
  |mk B F xs D r I E=>
  simp only[eZ,f7,fZ]at N;obtain rfl|rfl:=N
  .exact o9 _ _
  exact Sl.dW r (fu.dW _)
 refine eT.jz C.dW (.i .h) (λj w m=>∃(k:Nat)(a b c:Bool),k+j=O u/\w=[.ea .h 0,.ea (.o .h) 0,v,V (O u),V k]/\m=hp [(.h,.dY [.bool dU,.bool dU,.bool dU]),(.o .h,.dY [.bool a,.bool b,.bool c])]) (O u) Z ⟨0,_,_,_,M,Z,Z⟩ Z ei Z ?_;rintro j w m ⟨k,a,b,c,hk,rfl,rfl⟩;conv=>whnf
 refine eW (λh=>?_) (λh=>?_)
 .replace h:=gz h;conv=>whnf
  refine gW e.1 h ?_;refine fH (lN Z e.2 h) ?_;obtain⟨d',q⟩:=n _ (fB h);generalize u[k]=sx at q⊢;cases q with
  |mk B F xs D r I E=>
  obtain⟨gg,ca,Q,W,ops,k0,k1,k2,k3,k4,k5,k6,k7,k8⟩:=g.eC D;obtain⟨_,⟨z,rfl,hz⟩,fi⟩:=Gs C g D;obtain⟨_,⟨t1,R,a2,U,a4⟩,x⟩:=oa C g r I E;obtain⟨_,⟨t2,b1,b2,b3,b4⟩,y⟩:=oa C g k2 k3 k7;obtain⟨_,⟨x1,x2,x3,rfl⟩,fs⟩:=yN C R b1 U b3 M;have f:fN [A.fz B 0,F]=dT:=by obtain⟨rfl,_,_⟩|⟨t,_,rfl,_⟩:=r<;>rfl
  obtain⟨_,⟨y1,y2,y3,rfl⟩,f1⟩:=KY C a b c (gD (.ofNat z) (.ofNat 0)) dU dU x1 x2 x3;conv=>whnf
  refine sK (vF Z Z f Z Z Z) ?_;refine gC ?_;repeat'(first|refine fD k0 ?_|refine ee.c fi ?_|refine ee.c x ?_|refine ee.c y ?_|refine ee.c fs ?_|refine ee.c f1 ?_|refine gI (gK _) (wK ?_)|fail)
  refine iu ?_;exact(.iC [(.h,.dY [.bool dU,.bool dU,.bool dU]),(.o .h,.dY [.bool y1,.bool y2,.bool y3])] _ ⟨j - 1,M,k+1,_,_,_,M,Z,Z⟩ ⟨.L (eV Z) Z,.L (eV Z) Z,.ey _ H,.ey _ fI,.ey _ fI,eR⟩ ⟨EP,EP,eR⟩)
 conv=>whnf
 exact mN
def Be(G:ez)(B:Option S):Prop:=∀b a N d,B=Y b->G.fU b=Y [.fz a 0,N,d]->∃o c,G.fU a=Y [.fz o 0,c]/\ug G o 1
def abC(C:fP P G)(g:FG P G K){p:S}(ow:Be G B)(n:K p=Y (.op d B nb))(hd:d≠0):oR P G 70 p:=by
 refine gT λhM=>?_;obtain⟨nm,vos,vrs,vas,vgs,vss,os,rs,gs,as,ss,e0,q1,q2,q3,q4,q5,q6,q7,q8,q9,q10,q11,q12,q13,q14,l1,l2,l3,l4,l5⟩:=g.op n;obtain⟨h,_⟩|⟨d',b,gg,o',bo',nb',c1,c2,c3,rfl,rfl,hb,k0,hg,f0,ho⟩:=g.pW n
 .exact absurd h hd
 obtain⟨nm',vos',vrs',vas',vgs',vss',os',rs',e,as',ss',a,q1',z,D,E,F,q6',q7',q8',l,k,Q,R,U,W,x,y,l3',l4',l5'⟩:=g.op ho;obtain⟨o2,c4,y1,y2⟩:=ow b gg _ _ Z k0;rw[f0]at y1;cases y1;have H:0<O e:=y2 _ _ _ _ _ _ _ e a l;obtain⟨nb3,hr⟩:=k _ (fB H);obtain⟨_,_,_,_,_,w,_⟩:=g.fO hr;obtain⟨vt0,⟨t0,I,z2,N,z4⟩,o⟩:=oa C g q2 q3 l1;obtain⟨vt1,⟨t1,a1,a2,a3,a4⟩,q⟩:=oa C g z D x;obtain⟨m,⟨t2,f,b2,u,b4⟩,r⟩:=oa C g E F y;obtain⟨_,s,fc⟩:=Qt C (v:=.eG 1 2 [.eG 1 1 [.J [105,49]] .fE,m] .fE) (vs:=[.eG 1 1 [.J [105,49]] .fE,m]) (xs:=[[.J [105,49]],t2]) BV Z (λi h h'=>Qx f u h h') (Qy u) (by simp[ij];omega) lW;obtain⟨_,⟨x1,x2,x3,rfl⟩,s1⟩:=yN C I f N u M;obtain⟨_,⟨w1,w2,w3,rfl⟩,s2⟩:=yN C I a1 N a3 M;obtain⟨_,⟨v1,v2,v3,rfl⟩,s3⟩:=yN C I s N (Qz u) M;have t:=mY H;have k1:=f0;refine ee.pi (C.fs.h 70) C.dW kJ (wK ?_);repeat'(first|exact uD|refine fD e0 ?_|refine fD k0 ?_|refine fD f0 ?_|refine fD a ?_|refine sK (kL (j:=0) Z l Z Z (by rw[iM];exact H)) ?_|refine sK (jO Z t) ?_|refine sK (KZ Z Z Z f) ?_|refine sK (AR Z Z (by rw[f0];rfl) (by rw[w];rfl)) ?_|refine ee.c o ?_|refine ee.c q ?_|refine ee.c r ?_|refine ee.c fc ?_|refine ee.c s1 ?_|refine ee.c s2 ?_|refine ee.c s3 ?_|refine bK (λ_=>?_) λ_=>?_|refine eT.jk C.mixed Z (wK ?_)|refine gI (gK _) (wK ?_)|fail)
def abD(C:fP P G){s:L S}(a:fC (fu s) v)(o:O s<=eI)(j:(G.fU b).isSome=dT)(d:∀q∈s,(G.fU q).isSome=dT):f9 P G 235 [v,.fz b 0] λr=>∃e,r=.bool e:=by
 refine gT λhM=>?_;obtain⟨r,n,f⟩:=FV (C.fs.h 112) C.dW a M j d;refine ee.fj (C.fs.h 235) C.dW (by intro x d;simp only[eZ,f7,fZ]at d;obtain rfl|rfl:=d;exact Sl.dW a (fu.dW _);exact o9 _ _) (wK ?_);refine ee.c f ?_;obtain⟨rfl,_⟩|⟨k,g,rfl,_⟩:=n
 .conv=>whnf
  exact lX
 conv=>whnf
 exact lX
def abE(C:fP P G)(g:FG P G K)(hb:K b=Y (.eC d l)):f9 P G 215 [.fz b 0] λr=>∃s,fC (fu s) r/\O s<=eI/\∀q∈s,K q=Y (.eC d l):=by
 refine gT λhM=>?_;obtain⟨rl,R,fl⟩:=Qp C g hb;refine ee.fj (C.fs.h 215) C.dW kJ (wK ?_);refine ee.c fl ?_;obtain rfl|⟨p,nb',rfl,hp⟩:=R
 .conv=>whnf
  exact⟨_,.j kC,[],.inl ⟨Z,Z,Z⟩,ei,λq E=>by cases E⟩
 obtain⟨nm,vos,vrs,vas,vgs,W,os,rs,gs,as,I,e0,q1,q2,q3,q4,q5,q6,q7,q8,q9,q10,w,z,q13,U,l1,l2,l3,l4,l5⟩:=g.op hp;obtain⟨b',e1,y⟩:=U d Z;cases e1;rw[hb]at y;cases y;have z:=z d Z;refine qw ?_;refine fM w.1 ?_;refine eT.jl (λj vs m n=>∃(k:Nat)(s:L S)(i:A)(t:Option S),k+j=O I/\O s<=k/\(∀q∈s,K q=Y (.eC d l))/\eX m n/\Ap m 1 i (fu s) t/\vs=[i,W,V (O I),V k]) (O I) Z ⟨0,[],_,J,M,ei,zI,eX.e,.nil,Z⟩ ?_;rintro j vs m n ⟨k,s,i,t,hk,hxl,o,u,a,rfl⟩;conv=>whnf
 refine eW (λh=>?_) (λh=>?_)
 .replace h:=gz h;have H:=z _ (fB h);conv=>whnf
  refine gW w.1 h ?_;refine fH (lN Z w.2 h) ?_;generalize I[k]=sx at H⊢;cases H with
  |mk B F ys h1 h2 h3 h4=>
  have D:fN [A.fz B 0,F]=dT:=by obtain⟨rfl,_,_⟩|⟨t,_,rfl,_⟩:=h2<;>rfl
  obtain⟨r,v,Q⟩:=a.ue (fu.dW s);obtain⟨_,⟨bb,rfl⟩,fc⟩:=abD C Q M (g.isSome h1) (λq E=>g.isSome (o q E));refine zY ?_;refine sK (ip (cs':=[.fz B 0,F]) Z Z fY Z D Z) ?_;refine my ?_;refine eu fY ?_;refine ee.c (fc.QA ⟨v,.ey _ qz,eR⟩) ?_;have f:eX (((m.set n (Y (.dY [.gi,.ej])))).set n (Y (.dY [.fz B 0,F]))) n.succ:=u.ew.put kP;have g1:(((m.set n (Y (.dY [.gi,.ej])))).set n (Y (.dY [.fz B 0,F]))).dZ n=Y (.dY [.fz B 0,F]):=fY;have N:Ap (((m.set n (Y (.dY [.gi,.ej])))).set n (Y (.dY [.fz B 0,F]))) 1 i (fu s) t:=a.mono λq e=>by have:=u q _ (a.eY q e);rw[eJ M,eJ M];exact a.eY q e
  generalize((m.set n (Y (.dY [.gi,.ej])))).set n (Y (.dY [.fz B 0,F]))=m1 at f g1 N⊢;cases bb
  .conv=>whnf
   refine eu g1 ?_;refine sK (nH (bytes:=8) (k:=O s) N (by rw[iM,kO]) M Z Z Z Z nw) ?_;refine sR (wK ?_);refine iu ?_;refine⟨Z,j - 1,M,k+1,s++[B],_,Y n.succ,M,by simp;omega,?_,f.iW,?_,Z⟩
   .intro q E;obtain h|h:=jf.1 E
    .exact o q h
    simp only[eZ,f7,fZ]at h;subst h;exact h1
   rw[show fu (s++[B])=fu s++[.fz B 0] by simp[fu]];exact .dX (by rw[iN,iM];simp[gV])
  conv=>whnf
  refine iu ?_;exact⟨Z,j - 1,M,k+1,s,i,t,M,M,o,f,N,Z⟩
 conv=>whnf
 obtain⟨r,v,Q⟩:=a.ue (fu.dW s);exact⟨r,v,s,Q,M,o⟩
def QB(n:Nat):∀(t c:L S),O t=O c->t.Nodup->c.Nodup->(∀p∈t,n<=p.dV)->(∀q∈c,n<=q.dV)->∃B:S->S,(∀p,p.dV<n->B p=p)/\(∀p q,B p=B q->p=q)/\(∀p,n<=p.dV->n<=(B p).dV)/\∀i (h:i<O t)(D:i<O c),B t[i]=c[i]:=by
 intro t;induction t with
 |nil=>intro c o _ _ _ _;exact⟨id,λ_ _=>Z,λ_ _ h=>h,λ_ h=>h,λi h=>by simp at h⟩
 |cons p t z=>
 intro c o K r s E;cases c with
 |nil=>simp at o
 |cons q c=>
 rw[qB]at K r;obtain⟨B,u,l,m,g⟩:=z c ME K.2 r.2 (λx v=>s x xo) (λx v=>E x xo);have hp:=m p (s p ei);have w:=E q ei;have ey:∀x,x≠B p->x≠q->pg (B p) q x=x:=λx a b=>by simp[pg,a,b]
 refine⟨λx=>pg (B p) q (B x),λx v=>?_,λx y h=>l _ _ (P4 h),λx v=>?_,λi C d=>?_⟩
 .show pg (B p) q (B x)=x;rw[u x v];exact ey x (λe=>by rw[e]at v;omega) (λe=>by rw[e]at v;omega)
 .have:=m x v;show n<=(pg (B p) q (B x)).dV;unfold pg;split
  .exact w
  split
  .exact hp
  exact this
 cases i with
 |zero=>show pg (B p) q (B p)=q;simp[pg]
 |succ i=>
 have e:=g i H9 zZ;have j:i<O t:=by simpa using C
 have k:i<O c:=by simpa using d
 show pg (B p) q (B t[i])=c[i];rw[e];refine ey _ (λf=>?_) (λf=>r.1 (f▸fB k));exact K.1 (l _ _ (e.trans f)▸fB j)
def abF{F:T A}{x y:IX}{k m:IntKind}{zero:L A}{o bytes n:Nat}(hx:x.ev G F=Y (.int k z))(hz:z=.ofNat n)(hy:y.ev G F=Y (.int m a))(hz':a=.ofNat n)(h:n*bytes<=kr)(h2:n<=kr):
  fA G dT F H (.tG zero o bytes x y)=Y (.ew (.dY (gV zero n)) (.slice o n)):=Vx
def abG:L (Nat×jP)->jP
 |[]=>.one 11 .done
 |[(i,t)]=>.one i t
 |l=>l.foldr (λx t=>.kU x.1 x.2 t) .no
def Dw:Nat->L Nat->Bool->Bool->jP
 |0,_,_,_=>.no
 |f+1,a,b,c=>abG (a.map (λi=>(i,match a.erase i with|[]=>.q 8 (Dw f [] b c)|l=>Dw f l b c))++(match a,b with|[],false=>[(9,Dw f [] dT c)]| _,_=>[])++(match c with|false=>[(10,Dw f a b dT)]|true=>[]))
def QC:jP:=.q 0 (.q 2 (.q 4 (.q 6 (Dw 8 [1,3,5,7] dU dU))))
def abH{z s:St}{r e R g d k u:S}{m C E B:L A}{n:Nat}(h1:∀c∈m,c.Pure)(h2:∀c∈C,c.Pure)(h3:∀c∈E,c.Pure)(h4:∀c∈B,c.Pure)
  (h0:z.H.dX=.h)(g6:s.H.ep.dZ u=Y (.dY [.ea k 0]))
  (g5:s.H.ep.dZ k=Y (.dY [.eC e 1 0 n n dT,.eC R 1 0 n n dT,.eC g 1 0 n n dT,.ej,.eC d 4 0 n n dT]))(W:s.H.ep.dZ e=Y (.dY m))(t:s.H.ep.dZ R=Y (.dY C))(g3:s.H.ep.dZ g=Y (.dY E))(g4:s.H.ep.dZ d=Y (.dY B))(x:[e,R,g,d,k,u].Nodup):
  ∃π:S->S,(∀p,Below z.H.dX p->π p=p)/\mD π (Below (.i (.i .h))) [.fz r 0,.ea u 0] [.fz r 0,.ea (.o (.i .h)) 0]/\
   (∀p o,(hp [(.h,.dY m),(.o .h,.dY C),(.i .h,.dY E),(.o (.o .h),.dY B),(.i (.o .h),.dY [.eC .h 1 0 n n dT,.eC (.o .h) 1 0 n n dT,.eC (.i .h) 1 0 n n dT,.ej,.eC (.o (.o .h)) 4 0 n n dT]),(.o (.i .h),.dY [.ea (.i (.o .h)) 0])]).dZ p=Y o->
    (z.H.ep.dZ p=Y o/\s.H.ep.dZ p=Y o)\/(Below (.i (.i .h)) p/\∃U,s.H.ep.dZ (π p)=Y U/\jW π (Below (.i (.i .h))) U o))/\∀p q,π p=π q->p=q:=by
 obtain⟨π,v,l,_,a⟩:=QB 1 [.h,.o .h,.i .h,.o (.o .h),.i (.o .h),.o (.i .h)] [e,R,g,d,k,u] Z gP x gP (λq _=>S.jD q);have F:π .h=e:=a 0 ei ei;have y:π (.o .h)=R:=a 1 ei ei;have N:π (.i .h)=g:=a 2 ei ei;have I:π (.o (.o .h))=d:=a 3 ei ei;have K:π (.i (.o .h))=k:=a 4 ei ei;have Q:π (.o (.i .h))=u:=a 5 ei ei;have b:∀p:S,p.dV<7->Below (.i (.i .h)) p:=λp hp=>hp;refine⟨π,λp hp=>v p (by rw[h0]at hp;exact hp),⟨.ey _ qz,?_,eR⟩,λp o hp=>.inr ?_,l⟩
 .have:=gL.ea (π:=π) (D:=Below (.i (.i .h))) (.o (.i .h)) 0 (b _ gP);rwa[Q]at this
 have j:∀(p:S) w,p.dV<7->gL π (Below (.i (.i .h))) (.eC (π p) w 0 n n dT) (.eC p w 0 n n dT):=λp w h=>.eC p w 0 n n dT (b p h);have f:=vC hp;simp only[eZ,f7,fZ,wh]at f;obtain⟨rfl,rfl⟩|⟨rfl,rfl⟩|⟨rfl,rfl⟩|⟨rfl,rfl⟩|⟨rfl,rfl⟩|⟨rfl,rfl⟩:=f
 .exact⟨b _ gP,_,by rw[F];exact W,jB h1⟩
 .exact⟨b _ gP,_,by rw[y];exact t,jB h2⟩
 .exact⟨b _ gP,_,by rw[N];exact g3,jB h3⟩
 .exact⟨b _ gP,_,by rw[I];exact g4,jB h4⟩
 .refine⟨b _ gP,_,by rw[K];exact g5,wL (cs:=[.eC e 1 0 n n dT,.eC R 1 0 n n dT,.eC g 1 0 n n dT,.ej,.eC d 4 0 n n dT]) ⟨?_,?_,?_,.ey _ kC,?_,eR⟩⟩
  .have:=j .h 1 gP;rwa[F]at this
  .have:=j (.o .h) 1 gP;rwa[y]at this
  .have:=j (.i .h) 1 gP;rwa[N]at this
  have:=j (.o (.o .h)) 4 gP;rwa[I]at this
 refine⟨b _ gP,_,by rw[Q];exact g6,wL (cs:=[.ea k 0]) ⟨?_,eR⟩⟩;have:=gL.ea (π:=π) (D:=Below (.i (.i .h))) (.i (.o .h)) 0 (b _ gP);rwa[K]at this
def abI:gx:=match Pb with
 |.seq _ (.seq _ (.seq x _))=>x
 |x=>x
def abJ(C:fP P G)(E:l<=200){Q:Exit->St->Prop}
  (d:oM [T0,T4] [.fz r 0,.ea (.o (.i .h)) 0] λF=>Q .normal ⟨F,[],⟨hp [(.h,.dY (gV [.ej] l)),(.o .h,.dY (gV [.ej] l)),(.i .h,.dY (gV [.bool dU] l)),(.o (.o .h),.dY (gV [.int .u64 (.ofNat 0),.int .u64 (.ofNat 0),.int .u64 (.ofNat 0),.int .u64 (.ofNat 0)] l)),(.i (.o .h),.dY [.eC .h 1 0 l l dT,.eC (.o .h) 1 0 l l dT,.eC (.i .h) 1 0 l l dT,.ej,.eC (.o (.o .h)) 4 0 l l dT]),(.o (.i .h),.dY [.ea (.i (.o .h)) 0])],.i (.i .h)⟩⟩):
  eT P G dT J yA abI ⟨T.n (Y (A.fz r 0))
     (T.n J (T.n (Y (A.int IntKind.i64 (Int.ofNat l))) T.e (T.n (Y (A.fz r (0+1))) T.e T.e))
      (T.n J (T.n (Y (A.fz r 0)) T.e T.e) (T.n (Y (A.int IntKind.i64 (Int.ofNat l))) T.e T.e)))
     (T.n (Y A.gi) (T.n J T.e (T.n (Y a) T.e T.e))
      (T.n J (T.n (Y (A.fz r 0)) T.e T.e) T.e)),[],⟨.e,.h⟩⟩ Q:=by
 refine eT.vK C.mixed C.dW QC (.i (.i .h)) [.fz r 0,.ea (.o (.i .h)) 0] _ Z gP Es (b:=[T0,T4]) ?_ d;conv=>whnf
 have b:∀c∈gV [A.ej] l,c.Pure:=A9 IW l;have f:∀c∈gV [A.bool dU] l,c.Pure:=A9 (by simp[sD]) l;have g:∀c∈gV [A.int .u64 (.ofNat 0),.int .u64 (.ofNat 0),.int .u64 (.ofNat 0),.int .u64 (.ofNat 0)] l,c.Pure:=A9 rf l;repeat'(first|exact abH b b f g Z Z Z Z Z Z Z gP|exact eR|refine sK (abF Z Z Z Z xJ xJ) ?_|(refine gI ?_ ?_<;>conv=>whnf)|fail)
inductive Tg where
 |Sa|P|R|D|F|C|s (i:Nat)|p (i:Nat)|o|x
structure FP where
 qS:S
 qP:S
 qR:S
 qD:S
 qF:S
 qC:S
def gM(s:L Nat):L A:=s.map λk=>.int .i64 (.ofNat k)
def rQ(s:L Nat):O (gM s)=O s:=by simp[gM]
def K0(s:L Nat):∀c∈gM s,c.Pure:=λc K=>by obtain⟨k,_,rfl⟩:=gS.1 K;exact iQ _ _
def Bf{s:L Nat}{i:Nat}(h:i<O s):(gM s)[i]? =Y (.int .i64 (.ofNat s[i])):=by rw[gM,pz,jq h];rfl
def K6(s:L Nat)(j:Nat):gM (s++[j])=gM s++[.int .i64 (.ofNat j)]:=by simp[gM]
section
variable{tg tg':S→Tg}{m m':T AO}
def yO(tg:S->Tg)(m:T AO)(i:Nat)(v:A)(a:L Nat):Prop:=∃t,Ap m 1 v (gM a) t/\∀q,t=Y q->tg q=.s i
def Bg(tg:S->Tg)(m:T AO)(i:Nat)(v:A)(s:L Nat):Prop:=(v=.ej/\s=[])\/∃q,v=.eC q 1 0 (O s) (O s) dU/\m.dZ q=Y (.dY (gM s))/\tg q=.p i/\0<O s
def Dx(tg:S->Tg)(m:T AO)(v:A)(s:L Nat):Prop:=(v=.ej/\s=[])\/∃q,v=.eC q 1 0 (O s) (O s) dU/\m.dZ q=Y (.dY (gM s))/\tg q=.o/\0<O s
def Bh(tg:S->Tg)(m:T AO)(Sa:S)(C:L (L Nat)):Prop:=∃sl,m.dZ Sa=Y (.dY sl)/\O sl=O C/\∀i (h:i<O sl)(n:i<O C),yO tg m i sl[i] C[i]
def Bi(tg:S->Tg)(m:T AO)(Sa:S)(C:L (L Nat)):Prop:=∃sl,m.dZ Sa=Y (.dY sl)/\O sl=O C/\∀i (h:i<O sl)(n:i<O C),Bg tg m i sl[i] C[i]
def wU(Xa:Tg->Prop)(tg:S->Tg)(m:T AO)(tg':S->Tg)(m':T AO):Prop:=∀q o,m.dZ q=Y o->Xa (tg q)->m'.dZ q=Y o/\tg' q=tg q
def yO.mono{Xa:Tg->Prop}{i:Nat}(h:yO tg m i v a)(c:wU Xa tg m tg' m')(d:Xa (.s i)):yO tg' m' i v a:=by
 let⟨t,K,r⟩:=h
 have k:∀q,t=Y q->m'.dZ q=Y .eY/\tg' q=.s i:=λq e=>by obtain⟨p,b⟩:=c q _ (K.eY q e) (by rw[r q e];exact d);exact⟨p,by rw[b,r q e]⟩
 exact⟨t,K.mono λq e=>(k q e).1,λq e=>(k q e).2⟩
def Bg.mono{Xa:Tg->Prop}{i:Nat}{s:L Nat}(h:Bg tg m i v s)(hs:wU Xa tg m tg' m')(hx:Xa (.p i)):Bg tg' m' i v s:=Vm
def Dx.mono{Xa:Tg->Prop}{s:L Nat}(h:Dx tg m v s)(hs:wU Xa tg m tg' m')(hx:Xa .o):Dx tg' m' v s:=Vm
def Bh.mono{Xa:Tg->Prop}{Sa:S}{C:L (L Nat)}(h:Bh tg m Sa C)(r:wU Xa tg m tg' m')(e:Xa (tg Sa))(v:∀i,Xa (.s i)):Bh tg' m' Sa C:=by
 let⟨sl,K,c,d⟩:=h
 exact⟨sl,(r Sa _ K e).1,c,λi a b=>(d i a b).mono r (v i)⟩
def Bi.mono{Xa:Tg->Prop}{Sa:S}{C:L (L Nat)}(h:Bi tg m Sa C)(r:wU Xa tg m tg' m')(e:Xa (tg Sa))(v:∀i,Xa (.p i)):Bi tg' m' Sa C:=by
 let⟨sl,K,c,d⟩:=h
 exact⟨sl,(r Sa _ K e).1,c,λi a b=>(d i a b).mono r (v i)⟩
structure Fl (nb:Nat)(f:FP)(tg:S→Tg)(m:T AO)(nx:S)(ss ps:List (List Nat))(rs:List Bool)(os:List Nat)(ds:List A):Prop where
 eH:eX m nx
 tS:tg f.qS=.Sa
 tP:tg f.qP=.P
 tR:tg f.qR=.R
 tD:tg f.qD=.D
 tF:tg f.qF=.F
 tC:tg f.qC=.C
 hC:m.dZ f.qC=some (.dY [.ea f.qF 0])
 hF:∃ov,m.dZ f.qF=some (.dY [.eC f.qS 1 0 nb nb true,.eC f.qP 1 0 nb nb true,.eC f.qR 1 0 nb nb true,ov,.eC f.qD 4 0 nb nb true])∧Dx tg m ov os
 hS:Bh tg m f.qS ss
 hP:Bi tg m f.qP ps
 hR:m.dZ f.qR=some (.dY (rs.map .bool))
 hD:m.dZ f.qD=some (.dY ds)
 lS:ss.length=nb
 lP:ps.length=nb
 lR:rs.length=nb
 lD:ds.length=nb*4
def QD(l:Nat)(f:FP)(tg:S->Tg)(m:T AO)(q:L Nat):Prop:=∃a,m.dZ f.qF=Y (.dY [.eC f.qS 1 0 l l dT,.eC f.qP 1 0 l l dT,.eC f.qR 1 0 l l dT,a,.eC f.qD 4 0 l l dT])/\Dx tg m a q
def Fl.change{Xa:Tg->Prop}{nx w:S}{G t d b:L (L Nat)}{E c:L Bool}{B e:L Nat}(h:Fl l f tg m nx G t E B z)(r:wU Xa tg m tg' m')(hb:eX m' w)(j:∀q o,m.dZ q=Y o->tg' q=tg q)(xC:Xa .C)
  (N:(Xa .F/\Xa .o/\e=B)\/QD l f tg' m' e)(W:(Xa .Sa/\(∀i,Xa (.s i))/\d=G)\/(Bh tg' m' f.qS d/\O d=l))(Q:(Xa .P/\(∀i,Xa (.p i))/\b=t)\/(Bi tg' m' f.qP b/\O b=l))
  (U:(Xa .R/\c=E)\/(m'.dZ f.qR=Y (.dY (c.map .bool))/\O c=l))(I:(Xa .D/\a=z)\/(m'.dZ f.qD=Y (.dY a)/\O a=l*4)):Fl l f tg' m' w d b c e a:=by
 let⟨sl,s1,_⟩:=h.hS
 let⟨pl,p1,_⟩:=h.hP
 let⟨ov,K,h2⟩:=h.hF
 have H:QD l f tg' m' e:=by
  obtain⟨k,n,rfl⟩|g:=N
  .exact⟨ov,(r _ _ K (by rw[h.tF];exact k)).1,h2.mono r n⟩
  exact g
 have y:Bh tg' m' f.qS d/\O d=l:=by
  obtain⟨k,n,rfl⟩|g:=W
  .exact⟨h.hS.mono r (by rw[h.tS];exact k) n,h.lS⟩
  exact g
 have v:Bi tg' m' f.qP b/\O b=l:=by
  obtain⟨k,n,rfl⟩|g:=Q
  .exact⟨h.hP.mono r (by rw[h.tP];exact k) n,h.lP⟩
  exact g
 have x:m'.dZ f.qR=Y (.dY (c.map .bool))/\O c=l:=by
  obtain⟨k,rfl⟩|g:=U
  .exact⟨(r _ _ h.hR (by rw[h.tR];exact k)).1,h.lR⟩
  exact g
 have u:m'.dZ f.qD=Y (.dY a)/\O a=l*4:=by
  obtain⟨k,rfl⟩|g:=I
  .exact⟨(r _ _ h.hD (by rw[h.tD];exact k)).1,h.lD⟩
  exact g
 exact⟨hb,(j _ _ s1).trans h.tS,(j _ _ p1).trans h.tP,(j _ _ h.hR).trans h.tR,(j _ _ h.hD).trans h.tD,(j _ _ K).trans h.tF,(j _ _ h.hC).trans h.tC,(r _ _ h.hC (by rw[h.tC];exact xC)).1,H,y.1,v.1,x.1,u.1,y.2,v.2,x.2,u.2⟩
def Fl.jQ{nx nx':S}{C c:L (L Nat)}(h:Fl a f tg m nx C c d b l)(r:wU (λt=>t≠.x) tg m tg' m')(j:eX m' nx')(e:∀q o,m.dZ q=Y o->tg' q=tg q):Fl a f tg' m' nx' C c d b l:=
 h.change r j e ei pH pH pH re re
open Classical in
def upd(tg:S->Tg)(p:S)(t:Tg):S->Tg:=λq=>if q=p then t else tg q
def Bj{p:S}{t:Tg}:upd tg p t p=t:=by simp[upd]
def od{nx q:S}{o:AO}{t:Tg}(j:eX m nx)(a:m.dZ q=Y o):upd tg nx t q=tg q:=by
 have:q≠nx:=λe=>by have:=j q o a;rw[e]at this;omega
 simp[upd,this]
def Fl.abK{nx:S}{C z:L (L Nat)}{x:L A}(h:Fl l f tg m nx C z B y x){i j:Nat}(H:i<l){sl:L A}{t:Option S}(e:m.dZ f.qS=Y (.dY sl))(F:O sl=O C)
  (w:∀i (h:i<O sl)(n:i<O C),yO tg m i sl[i] C[i])(D:i<O sl)(E:i<O C)(G:∀q,t=Y q->m.dZ q=Y .eY/\tg q=.s i)(a:v=.eG 1 (C[i].length+1) (gM C[i]++[.int .i64 (.ofNat j)]) (.open nx)):
  Fl l f (upd tg nx (.s i)) ((lC t m nx).set f.qS (Y (.dY (sl.set i v)))) nx.succ (C.set i (C[i]++[j])) z B y x:=by
 have b:=h.eH _ _ e;have g:∀q o,m.dZ q=Y o->tg q≠.Sa->tg q≠.s i->((lC t m nx).set f.qS (Y (.dY (sl.set i v)))).dZ q=Y o:=λq o c K r=>by rw[T.gh _ _ _ _ (λe=>K (by rw[e];exact h.tS)),jZ (by have:=h.eH q o c;omega) (λe=>r (G q e).2)];exact c
 refine h.change (Xa:=λt=>t≠.Sa/\t≠.s i) (λq o c d=>⟨g q o c d.1 d.2,od h.eH c⟩) (h.eH.iW.put kP) (λq o c=>od h.eH c) ⟨ei,ei⟩
  pH (.inr ⟨⟨_,fY,by simp[F],λk P u=>?_⟩,by rw[xu];exact h.lS⟩) pH re re
 by_cases p:k=i
 .subst p;simp only[Eu,a];refine⟨Y nx,?_,λq e=>by cases e;exact Bj⟩;rw[K6];exact .eG _ _ _ (by rw[eJ M];exact oQ) (by simp[rQ])
 simp only[EQ (mO p)];have og:k<O sl:=by simpa using P
 have jp:k<O C:=by simpa using u
 refine(w k og jp).mono (Xa:=λt=>t=.s k) (λq o c d=>⟨g q o c (by rw[d];intro e;cases e) (by rw[d];intro e;cases e;exact p Z),od h.eH c⟩) Z
def Gx{t:Option S}{q:S}(j:t≠Y q):(sQ t m).dZ q=m.dZ q:=by
 cases t with
 |none=>rfl
 |some p=>exact T.gh _ _ _ _ λe=>j CB
def Fl.abL{nx:S}{C c:L (L Nat)}{D:L Nat}(h:Fl B f tg m nx C c E D l){i j:Nat}{sl:L A}{t:Option S}(e:m.dZ f.qP=Y (.dY sl))(H:O sl=O c)
  (y:∀i (h:i<O sl)(n:i<O c),Bg tg m i sl[i] c[i])(F:i<O c)(I:∀q,t=Y q->tg q=.p i)(a:v=.eC nx 1 0 (c[i].length+1) (c[i].length+1) dU){s:L A}(z:s=gM c[i]++[.int .i64 (.ofNat j)]):
  Fl B f (upd tg nx (.p i)) (((sQ t m).set nx (Y (.dY s))).set f.qP (Y (.dY (sl.set i v)))) nx.succ C (c.set i (c[i]++[j])) E D l:=by
 have b:=h.eH _ _ e;have u:∀q o,m.dZ q=Y o->tg q≠.P->tg q≠.p i->(((sQ t m).set nx (Y (.dY s))).set f.qP (Y (.dY (sl.set i v)))).dZ q=Y o:=λq o d K r=>by rw[T.gh _ _ _ _ (λe=>K (by rw[e];exact h.tP)),eJ (by have:=h.eH q o d;omega),Gx (λe=>r (I q e))];exact d
 refine h.change (Xa:=λt=>t≠.P/\t≠.p i) (λq o d g=>⟨u q o d g.1 g.2,od h.eH d⟩) (h.eH.nT.ew.put kP) (λq o d=>od h.eH d) ⟨ei,ei⟩
  pH pH (.inr ⟨⟨_,fY,by simp[H],λk G x=>?_⟩,by rw[xu];exact h.lP⟩) re re
 by_cases w:k=i
 .subst w;simp only[Eu,a];refine .inr ⟨nx,ei,?_,Bj,ei⟩;rw[eJ M,K6,z];exact fY
 simp only[EQ (mO w)];have og:k<O sl:=by simpa using G
 have jp:k<O c:=by simpa using x
 refine(y k og jp).mono (Xa:=λt=>t=.p k) (λq o d g=>⟨u q o d (by rw[g];intro e;cases e) (by rw[g];intro e;cases e;exact w Z),od h.eH d⟩) Z
def Fl.keep{nx p:S}{C d:L (L Nat)}{g:L Bool}{c:L Nat}(_ :Fl b f tg m nx C d g c l){o':AO}:wU (λt=>t≠tg p) tg m tg (m.set p (Y o')):=λq o a v=>
 ⟨by rw[T.gh _ _ _ _ (λe=>v (by rw[e]))];exact a,Z⟩
def Fl.QE{nx:S}{C t:L (L Nat)}{o:L Bool}{q:L Nat}(h:Fl a f tg m nx C t o q l)(i:Nat):Fl a f tg (m.set f.qR (Y (.dY ((o.set i dT).map .bool)))) nx C t (o.set i dT) q l:=by have P:=h.keep (p:=f.qR) (o':=.dY ((o.set i dT).map .bool));rw[h.tR]at P;exact h.change P (h.eH.put (h.eH _ _ h.hR)) CA ei pH pH pH (.inr ⟨fY,by rw[xu];exact h.lR⟩) re
def Fl.abM{nx:S}{C n:L (L Nat)}{p:L Bool}{i:L A}(h:Fl l f tg m nx C n p d i){t:Option S}(r:∀q,t=Y q->tg q=.o)(a:v=.eC nx 1 0 (O d+1) (O d+1) dU){s:L A}(g:s=gM d++[.int .i64 (.ofNat j)]):
  Fl l f (upd tg nx .o) (((sQ t m).set nx (Y (.dY s))).set f.qF (Y (.dY [.eC f.qS 1 0 l l dT,.eC f.qP 1 0 l l dT,.eC f.qR 1 0 l l dT,v,.eC f.qD 4 0 l l dT]))) nx.succ C n p (d++[j]) i:=by
 let⟨u,K,_⟩:=h.hF
 have b:=h.eH _ _ K;refine h.change (Xa:=λt=>t≠.F/\t≠.o) (λq o c k=>⟨?_,od h.eH c⟩) (h.eH.nT.ew.put kP) (λq o c=>od h.eH c) ⟨ei,ei⟩
  (.inr ⟨v,fY,.inr ⟨nx,by simp[a],?_,Bj,ei⟩⟩) pH pH re re
 .rw[T.gh _ _ _ _ (λe=>k.1 (by rw[e];exact h.tF)),eJ (by have:=h.eH q o c;omega),Gx (λe=>k.2 (r q e))];exact c
 rw[eJ M,K6,g];exact fY
def Fl.abN{nx p:S}{C t:L (L Nat)}{q b:L Nat}{c:L A}(h:Fl l f tg m nx C t d q c)(e:m.dZ f.qF=Y (.dY [.eC f.qS 1 0 l l dT,.eC f.qP 1 0 l l dT,.eC f.qR 1 0 l l dT,.eC p 1 0 (O q) (O q) dU,.eC f.qD 4 0 l l dT]))(hp:m.dZ p=Y (.dY (gM q)))(a:tg p=.o)(g:0<O q)(G:O b=O q):
  Fl l f tg (m.set p (Y (.dY (gM b)))) nx C t d b c:=by
 have P:=h.keep (p:=p) (o':=.dY (gM b));rw[a]at P;refine h.change P (h.eH.put (h.eH _ _ hp)) CA ei (.inr ⟨_,?_,.inr ⟨p,Z,fY,a,M⟩⟩) pH pH re re;rw[T.gh _ _ _ _ (λe=>by rw[<-e,h.tF]at a;cases a),G];exact e
def Fl.abO{s:Nat}{nx p:S}{C b:L (L Nat)}(h:Fl s f tg m nx C b w u l){i:Nat}{sl:L A}(e:m.dZ f.qP=Y (.dY sl))(z:O sl=O b)
  (r:∀i (h:i<O sl)(n:i<O b),Bg tg m i sl[i] b[i])(x:i<O sl)(y:i<O b)(a:sl[i]=.eC p 1 0 b[i].length b[i].length dU)(hp:m.dZ p=Y (.dY (gM b[i])))(c:tg p=.p i)(B:0<b[i].length)(G:O d=b[i].length):
  Fl s f tg (m.set p (Y (.dY (gM d)))) nx C (b.set i d) w u l:=by
 have P:=h.keep (p:=p) (o':=.dY (gM d));rw[c]at P;refine h.change P (h.eH.put (h.eH _ _ hp)) CA ei pH pH (.inr ⟨⟨sl,?_,by simp[z],λk P j=>?_⟩,by rw[xu];exact h.lP⟩) re re
 .rw[T.gh _ _ _ _ (λe=>by rw[<-e,h.tP]at c;cases c)];exact e
 by_cases g:k=i
 .subst g;simp only[Eu];refine .inr ⟨p,by rw[a,G],fY,c,M⟩
 simp only[EQ (mO g)];have jp:k<O b:=by simpa using j
 exact(r k P jp).mono (Xa:=λt=>t=.p k) (λq o D v=>⟨by rw[T.gh _ _ _ _ (λe=>by rw[e,c]at v;cases v;exact g Z)];exact D,Z⟩) Z
end
