/- Lemmas. No condition. -/
import Derived.Test.YtlkijhibifmamaaGreatDoorBA
import Derived.Laws.Append
set_option linter.all false
set_option autoImplicit true
set_option relaxedAutoImplicit true
set_option maxHeartbeats 0
set_option maxRecDepth 100000
noncomputable section
open Option renaming some→Y,none→J
open Bool renaming true→dT,false→dU
open List renaming length→O
namespace Go.As
open Go.RowKit
section
variable{P:Program}{B:Nat→Prop}{G:ez}{H:eM}{w:World}{X:Kx}{F:T A}{a:Act}
variable(hH:fJ B G H w X)(hF:kA w X F a.tmps){dY:Bool}{e:iD}{io:jI}
include hH hF
theorem Xy{o:Oper}{t:TypeId}{x:Operand}(U:o.op=.range t x)(K:ib P o.op=Y io)(h:fG G dY F H io=Y e):iJ P B G H w X ((execOp a.eval o).run P w) e:=by
 simp only[U,ib,fS]at K
 let⟨ix,hix,K⟩:=K
 have I:execOp a.eval o=(do pure (.value (<-Instr.range t (a.eval x)))):=by simp[execOp,U]
 have i:∀(u:Obj)(g:AO),g≠.eY->(∀n,Ad H X n->kR G (w.alloc u) (X.with (Y n) J w.heap.size 0) g w.heap.size)->(Instr.range t (a.eval x)).run P w=.ok (.pointer (Y ⟨w.heap.size,0,J⟩)) (w.alloc u)->e=.ew g .ea->iJ P B G H w X ((execOp a.eval o).run P w) e:=by intro u g D R l he;subst he;rw[tJ I l];intro n nx E N;exact⟨_,_,_,_,Z,Z,rk hH u (Y n) (λq e=>gu e▸E) J 0,hH.E7 u g 0 J E N (R n E) (λe=>absurd e D) mJ,.ea _ _ _ Ek⟩
 split at K
 .rename_i Q;cases K;simp only[fG,fS]at h
  let⟨v,hv,h⟩:=h
  refine uC λhx=>?_;cases v<;>try cases h
  rename_i s;obtain⟨b,d,j⟩:=mn hx;exact i (.stringIter b 0) (.kQ s 0) ei (λ_ _=>⟨b,qK _ _,by simpa using j,oE _⟩) (by simp[Instr.range,gb,iB Q,d]) Z
 .rename_i kt et Q;cases K;simp only[fG,fS]at h
  let⟨v,hv,h⟩:=h
  refine uC λhx=>?_;cases v<;>try cases h
  .have d:=Ju hx;exact i (.mapIter J 0 #[] 0) (.b J 0 [] 0) ei (λ_ _=>⟨J,qK _ _,eR⟩) (by simp[Instr.range,gb,iB Q,d]) Z
  rename_i p;simp only[gA]at h;obtain⟨⟨es,W⟩,hm,rfl⟩:=h;obtain⟨c,eE,m,hB,f,hsz,hU,hes⟩:=Ay hH hm;obtain⟨C,d,r⟩:=Fb hx;obtain rfl:=gu (r.symm.trans m);have k:=rx (P:=P) f pC;refine i (.mapIter (Y C) W #[] W) (.b (Y p) W [] W) ei (λn E=>⟨Y C,qK _ _,?_⟩) (by simp[Instr.range,gb,iB Q,d,k]) Z;exact(rk hH (.mapIter (Y C) W #[] W) (Y n) (λq e=>gu e▸E) J 0).jM _ _ m
 cases K
theorem Xz{o:Oper}{x:Operand}(ho:o.op=.entry x)(hc:ib P o.op=Y io)(h:fG G dY F H io=Y e):iJ P B G H w X ((execOp a.eval o).run P w) e:=by
 simp only[ho,ib,gA]at hc;obtain⟨ix,hix,rfl⟩:=hc;simp only[fG,fS,gA]at h;obtain⟨v,hv,r,n,rfl⟩:=h;refine uC λhx=>?_;have U:execOp a.eval o=(do pure (.value (<-Instr.entry (a.eval x)))):=by simp[execOp,ho]
 unfold Jo at n;split at n
 .rename_i p;split at n
  .rename_i m since seen f hp;simp only[fS]at n
   let⟨b,hb,⟨es,W⟩,hm,n⟩:=n
   replace n:=ks.1 n
   let⟨g,n⟩:=n
   simp only[gA]at n;obtain⟨C,R,rfl⟩:=n;obtain⟨c,hx',hρ⟩:=o7 hx;obtain⟨c',K,hB,⟨m',t,I⟩,_⟩:=hH.obj p _ hp;obtain rfl:=gu (K.symm.trans hρ);cases m' with
   |none=>exact I.elim
   |some mc=>
   obtain⟨mc',eE,N,hBm,k,hsz,hU,j⟩:=Ay hH hm;obtain rfl:=gu (I.symm.trans N);have E:=rx (P:=P) t pC;have s:=rx (P:=P) k pC;have u:seen.getLast? =Y b:=by
    have:∀{l:L Nat},CH l=Y b->l.getLast? =Y b:=by
     intro l;induction l with
     |nil=>intro h;cases h
     |cons x l ih=>
     intro h;cases l with
     |nil=>simpa[CH]using h
     |cons y l=>rw[List.getLast?_cons_cons];exact ih h
    exact this hb
   rw[beq_eq]at g;have g:W=f:=j0 g;subst g;have q:∀{l:L gm}{l':L MapEntry}{C:gm},O l=O l'->(∀i (h:i<O l)(h':i<O l'),eQ w X l[i].key l'[i].key/\eQ w X l[i].val l'[i].val/\l'[i].born=l[i].born)->Af b l=Y C->
     ∃d,l'.find? (λe=>e.born==b)=Y d/\eQ w X C.key d.key/\eQ w X C.val d.val:=by
    intro l;induction l with
    |nil=>intro l' C _ _ h;cases h
    |cons x l ih=>
    intro l' C hl n h;cases l' with
    |nil=>simp at hl
    |cons y l'=>
    have D:=n 0 ei ei;simp only[wf]at D;simp only[Af,beq_eq]at h;by_cases e:x.born=b
    .simp[e]at h;subst h;exact⟨y,by simp[D.2.2,e],D.1,D.2.1⟩
    simp[e]at h;obtain⟨d,h1,h2⟩:=ih EE (λi hi hi'=>by have:=n (i+1) lW lW;simpa using this) h
    refine⟨d,?_,h2⟩;rw[List.find?_cons_of_neg (by simp[D.2.2,e])];exact h1
   obtain⟨d,hd,hk,hv'⟩:=q (l':=eE.toList) (by simp[hsz]) (λi hi hi'=>by
    have:=j i hi;have h5:i<eE.size:=M
    simp only[Array.getD,h5,th]at this;simpa using this) R
   have Q:eE.find? (λe=>e.born==b)=Y d:=by rw[<-Array.find?_toList];exact hd
   refine lJ hH U ⟨.tuple #[d.key,d.val],?_,sq (vs:=[d.key,d.val]) ((fR.nil.cons hv').cons hk)⟩;simp[Instr.entry,hx',gb,E,u,s,Q]
  cases n
 cases n
omit hF hH in
theorem XB{b:ByteArray}{c:Nat}{s:L Nat}(h:(b.data.toList.map UInt8.toNat).drop c=s):Utf8.decode b c=qM s:=by
 have d:∀k,(b.get! (c+k)).toNat=s.getD k 0:=by
  intro k;subst h;have e:b.get! (c+k)=b.data[c+k]! :=Z;rw[e];by_cases f:c+k<b.data.size
  .rw[getElem!_pos b.data (c+k) f];rw[List.getD_eq_getElem?_getD,Em,pz,qx,sg f];rfl
  rw[getElem!_neg b.data (c+k) f];rw[List.getD_eq_getElem?_getD,Em,pz,qx,pF M];rfl
 have C:∀k,decide (c+k<b.size)=decide (k<O s):=by
  intro k;have e:O s=b.size - c:=by rw[<-h,oI,jH];rfl
  rw[e];apply decide_eq_decide.2;omega
 unfold Utf8.decode qM;simp only[d,C,Utf8.runeError]
omit hF hH in
theorem XC{s:L Nat}(h:s≠[]):(qM s).2<=O s:=by
 have b:0<O s:=List.length_pos_iff.2 h;unfold qM;simp only;repeat' split
 all_goals first
  |(simp only[];omega)
  |(rename_i K _;simp at K;simp only[];omega)
  |(rename_i K;simp at K;simp only[];omega)
omit hF hH in
theorem XD{s:L Nat}(h:b<128):qM (b::s)=(b,1):=by unfold qM;simp[h]
theorem XE{o:Oper}{x:Operand}(ho:o.op=.next x dT)(K:ib P o.op=Y io)(h:fG G dY F H io=Y e):iJ P B G H w X ((execOp a.eval o).run P w) e:=by
 simp only[ho,ib,gA]at K;obtain⟨ix,hix,rfl⟩:=K;simp only[fG,fS]at h
 let⟨v,hv,h⟩:=h
 refine uC λhx=>?_;have t:execOp a.eval o=(do pure (.value (<-Instr.next (a.eval x) dT o.type))):=by simp[execOp,ho]
 unfold CG at h;split at h
 .rename_i p;split at h
  .rename_i s f hp;obtain⟨c,C,D⟩:=o7 hx;obtain⟨c',I,hB,⟨b,g,j,hle⟩,_,hU⟩:=hH.obj p _ hp;obtain rfl:=gu (I.symm.trans D);have q:=rx (P:=P) g pC;have k:O s=b.size - f:=by rw[<-j,oI,jH];rfl
   cases s with
   |nil=>
    cases h;have R:¬f<b.size:=by simp at k;omega
    exact lJ hH t ⟨.tuple #[.bool dU],by simp[Instr.next,C,gb,q,R],sq (vs:=[.bool dU]) (fR.nil.cons (.bool dU))⟩
   |cons d i=>
   have U:f<b.size:=by simp at k;omega
   have N:∀m,qM (d::i)=m->e=.put p (.kQ ((d::i).drop m.2) (f+m.2)) (.eK [.bool dT,V f,.int .i32 (.ofNat m.1)])->
     iJ P B G H w X ((execOp a.eval o).run P w) e:=by
    intro m r he;subst he;have hw:=XC (s:=d::i) ei;rw[r]at hw;obtain⟨w',u,E,Q⟩:=CS (P:=P) hH (ao:=.kQ ((d::i).drop m.2) (f+m.2)) (.stringIter b (f+m.2)) hp D hB g pC (hU ei) ei ei (by intro w' W E;exact⟨b,W,by rw[<-j,List.drop_drop],M⟩)
    have hs:(Instr.next (a.eval x) dT o.type).run P w=.ok (.tuple #[.bool dT,.int .i64 (f:Int),.int .i32 (m.1:Int)]) w':=by have n:=XB j;rw[r]at n;simp only[Instr.next,C,gb,q,iV,U,oH,n,u,jR];rfl
    rw[tJ t hs];exact⟨_,_,Z,_,_,_,_,Z,Z,E,Q,sq (vs:=[.bool dT,.int .i64 (f:Int),.int .i32 (m.1:Int)]) (((fR.nil.cons (.int .i32 _)).cons (.int .i64 _)).cons (.bool dT))⟩
   simp only[lm]at h;by_cases l:d<128
   .simp only[l,uI,gZ]at h;cases h;exact N (d,1) (XD l) Z
   simp only[l,decide_false,jx]at h;cases h;exact N _ Z Z
  cases h
 cases h
end
section
variable{P:Program}{B:Nat→Prop}{G:ez}{H:eM}{w:World}{X:Kx}{F:T A}{a:Act}
variable(hH:fJ B G H w X)(hF:kA w X F a.tmps){dY:Bool}{e:iD}{io:jI}
include hH hF
omit hF in
theorem Ow(q:Question):∃n b,(choose q).run P w=.ok n b/\fL B w X b X/\fJ B G H b X/\(q.forced=dT->n=0)/\(q.forced=dU->∃t,n=q.cut t)/\b.heap=w.heap:=by
 unfold choose;simp only[Sem.run];by_cases h:q.forced=dT
 .rw[gO h];exact⟨0,w,Z,fL.refl _ _ _,hH,λ_=>Z,(λe=>by rw[h]at e;cases e),Z⟩
 rw[gj h];exact⟨_,_,Z,tA B w X _,hH.drew _,λe=>absurd e h,λ_=>⟨_,Z⟩,Z⟩
omit hF hH in
def wy(w:World)(X:Kx):L gm->L MapEntry->Prop
 |[],[]=>True
 |e::es,d::ds=>(eQ w X e.key d.key/\eQ w X e.val d.val/\d.born=e.born)/\wy w X es ds
 | _,_=>False
omit hF hH in
theorem XF{w:World}{X:Kx}:∀{b:L gm}{l:L MapEntry},O l=O b->(∀i (h:i<O b)(g:i<O l),eQ w X b[i].key l[i].key/\eQ w X b[i].val l[i].val/\l[i].born=b[i].born)->wy w X b l:=by
 intro b;induction b with
 |nil=>intro l h _;cases l with
  |nil=>trivial
  |cons _ _=>simp at h
 |cons e b f=>intro l h n;cases l with
  |nil=>simp at h
  |cons d l=>exact⟨n 0 ei ei,f ly (λi C c=>n (i+1) lW lW)⟩
omit hF hH in
theorem XG(b:Nat):∀(l:L Nat),lY b l=l.contains b:=by
 intro l;induction l with
 |nil=>rfl
 |cons x l i=>
 simp only[lY,beq_eq,List.contains_cons,i];by_cases e:x=b
 .subst e;simp
 have:(b==x)=dU:=by simp;exact λh=>e h.symm
 simp[e,this]
omit hF hH in
theorem XH{w:World}{X:Kx}(seen:L Nat):∀{b:L gm}{l:L MapEntry},wy w X b l->wy w X (nC seen b) (l.filter λe=> !seen.contains e.born):=by
 intro b;induction b with
 |nil=>intro l h;cases l with
  |nil=>trivial
  |cons _ _=>exact h.elim
 |cons e b i=>intro l h;cases l with
  |nil=>exact h.elim
  |cons d l=>
  let⟨⟨K,r,m⟩,E⟩:=h
  simp only[nC,XG];cases hc:seen.contains e.born
  .rw[List.filter_cons_of_pos (by rw[m,hc];simp)];exact⟨⟨K,r,m⟩,i E⟩
  rw[List.filter_cons_of_neg (by rw[m,hc];simp)];exact i E
omit hF hH in
theorem Ox{w:World}{X:Kx}{n:Nat}:∀{c:L gm}{l:L MapEntry},wy w X c l->wo n c=dT->∀d∈l,d.born<n:=by
 intro c;induction c with
 |nil=>intro l h _;cases l with
  |nil=>intro d f;cases f
  |cons _ _=>exact h.elim
 |cons e c i=>intro l h j;cases l with
  |nil=>exact h.elim
  |cons d l=>
  let⟨⟨K,r,m⟩,E⟩:=h
  simp only[wo,lm]at j;by_cases b:e.born<n
  .simp[b]at j;intro x v;obtain rfl|v:=eZ.1 v
   .omega
   exact i E j x v
  simp[b]at j
omit hF hH in
theorem XI{w:World}{X:Kx}:∀{b:L gm}{l:L MapEntry},wy w X b l->O l=O b/\∀i (h:i<O b)(n:i<O l),eQ w X b[i].key l[i].key/\eQ w X b[i].val l[i].val/\l[i].born=b[i].born:=by
 intro b;induction b with
 |nil=>intro l h;cases l with
  |nil=>exact we
  |cons _ _=>exact h.elim
 |cons e b j=>intro l h;cases l with
  |nil=>exact h.elim
  |cons d l=>
  let⟨K,E⟩:=h
  obtain⟨f,g⟩:=j E;refine⟨by simp[f],λi C c=>?_⟩;cases i with
  |zero=>exact K
  |succ i=>exact g i H9 Jf
omit hF hH in
theorem XJ{w:World}{X:Kx}(h:wy w X b l)(y:b≠[]){n:Nat}(j:wo n b=dT):l.all (λd=>decide (d.born≥n))=dU:=by
 cases l with
 |nil=>cases b with
  |nil=>exact absurd Z y
  |cons _ _=>exact h.elim
 |cons d l=>have:=Ox h j d ei;simp only[List.all_cons];rw[Ac M];rfl
theorem XK{o:Oper}{x:Operand}(ho:o.op=.next x dU)(hc:ib P o.op=Y io)(h:fG G dY F H io=Y e):iJ P B G H w X ((execOp a.eval o).run P w) e:=by
 simp only[ho,ib,gA]at hc;obtain⟨ix,hix,rfl⟩:=hc;simp only[fG,fS]at h
 let⟨v,hv,h⟩:=h
 refine uC λhx=>?_;have hex:execOp a.eval o=(do pure (.value (<-Instr.next (a.eval x) dU o.type))):=by simp[execOp,ho]
 unfold Jm at h;split at h
 .rename_i p;split at h
  .rename_i b seen stepped hp;cases h;obtain⟨c,hx',Q⟩:=o7 hx;obtain⟨c',I,hB,⟨m',g,D⟩,_,hU⟩:=hH.obj p _ hp;obtain rfl:=gu (I.symm.trans Q);have s:=rx (P:=P) g pC;cases m' with
   |some _=>exact D.elim
   |none=>exact lJ hH hex ⟨.tuple #[.bool dU],by simp[Instr.next,hx',gb,s],sq (vs:=[.bool dU]) (fR.nil.cons (.bool dU))⟩
  .rename_i m b seen last hp;simp only[fS]at h
   let⟨⟨es,W⟩,hm,h⟩:=h
   refine Ez λh=>?_
   let⟨hb,h⟩:=h
   obtain⟨c,hx',Q⟩:=o7 hx;obtain⟨c',I,hB,⟨m',g,D⟩,_,hU⟩:=hH.obj p _ hp;obtain rfl:=gu (I.symm.trans Q);have s:=rx (P:=P) g pC;cases m' with
   |none=>exact D.elim
   |some mc=>
   obtain⟨mc',eE,hρm,hBm,K,hsz,hUm,hes⟩:=Ay hH hm;obtain rfl:=gu (D.symm.trans hρm);have hgetm:=rx (P:=P) K pC;have r:wy w X es eE.toList:=XF (by simp[hsz]) (λi hi hi'=>by
    have:=hes i hi;have h5:i<eE.size:=M
    simp only[Array.getD,h5,th]at this;simpa using this)
   simp only[jC]at hb
   let⟨N,u⟩:=hb
   have hbef:=Ox r N;have hchk:(!seen.toArray.isEmpty&& !eE.isEmpty&&eE.all (λe=>decide (e.born≥last)))=dU:=by
    cases seen with
    |nil=>simp
    |cons z zs=>
    cases es with
    |nil=>
     have:eE=#[]:=by apply Array.eq_empty_of_size_eq_zero;simpa using hsz
     simp[this]
    |cons q qs=>simp at u;have:=XJ r ei u;rw[<-Array.all_toList,this];simp
   have C:(eE.filter λe=> !seen.toArray.contains e.born).toList=eE.toList.filter λe=> !seen.contains e.born:=ei
   have k:=XH seen r;obtain⟨j,l⟩:=XI k;have hlt:∀d∈(eE.filter λe=> !seen.toArray.contains e.born),d.born<b:=by
    intro d hd;have:d∈eE.toList:=by have h2:=Array.mem_toList_iff.2 hd;rw[C]at h2;exact(BW.1 h2).1
    exact hbef d this
   have hold:((eE.filter λe=> !seen.toArray.contains e.born).filter λe=>decide (e.born<b))=eE.filter λe=> !seen.toArray.contains e.born:=by apply Array.filter_eq_self.2;intro d hd;simpa using hlt d hd
   have hnew:((eE.filter λe=> !seen.toArray.contains e.born).filter λe=>decide (e.born≥b))=#[]:=by apply Array.filter_eq_empty_iff.2;intro d hd;have:=hlt d hd;simp;omega
   generalize hL:(eE.filter λe=> !seen.toArray.contains e.born)=La at*;have hLl:La.toList=eE.toList.filter λe=> !seen.contains e.born:=C;rw[<-hLl]at k j l;have U:(Instr.next (a.eval x) dU o.type).run P w=(do
     let f:=(if La.isEmpty then#[J]else#[])++La.map Y
     match f[<-choose (.mapNext f.size)]? with
     |some (some e)=>
      setObj c' (.mapIter (Y mc) b (seen.toArray.push e.born) W)
      pure (.tuple #[.bool dT,e.key,e.val])
     |some none=>pure (.tuple #[.bool dU])
     |none=>stuck "Next: no such candidate" :Sem Value).run P w:=by
    simp only[Instr.next,hx',gb,s,iV,hgetm,hchk,xO,r7,hL,hold,hnew,Array.append_empty];rfl
   have hne:H.ep.dZ p≠J:=by rw[hp];simp
   cases hlo:nC seen es with
   |nil=>
    rw[hlo]at h k;cases h;have hLe:La=#[]:=by
     apply Array.toList_inj.1;cases hLt:La.toList with
     |nil=>rfl
     |cons _ _=>rw[hLt]at k;exact k.elim
    subst hLe;obtain⟨n,w',hch,E,hH',hf0,hf1,R⟩:=Ow (P:=P) hH (.mapNext 1);have hn:n=0:=hf0 Z;subst hn;have hs:(Instr.next (a.eval x) dU o.type).run P w=.ok (.tuple #[.bool dU]) w':=by rw[U];simp[gb,hch]
    rw[tJ hex hs];exact⟨_,_,Z,_,_,_,_,Z,Z,E,hH',sq (vs:=[.bool dU]) (fR.nil.cons (.bool dU))⟩
   |cons e1 l1=>
   rw[hlo]at h k j l;cases h;have hLs:0<La.size:=by have:=j;simp at this;omega
   have hLe:La.isEmpty=dU:=by rw[<-Bool.not_eq_true,Array.isEmpty_iff_size_eq_zero];omega
   obtain⟨n,w',hch,E,hH',hf0,hf1,R⟩:=Ow (P:=P) hH (.mapNext La.size);have hn:n<La.size:=by
    by_cases hle:La.size<=1
    .have:=hf0 (by simp[Question.forced,hle]);omega
    obtain⟨t,ht⟩:=hf1 (by simp[Question.forced];omega);rw[ht];exact Nat.mod_lt _ hLs
   have hn2:n<O (e1::l1):=by rw[<-j];simpa using hn
   have hen:=l n hn2 (by simpa using hn);have hp':H.ep.dZ p=Y (.b (Y m) b seen last):=hp;obtain⟨w'',hset,E2,hH2⟩:=CS (P:=P) hH' (ao:=.b (Y m) b (seen++[(e1::l1)[n].born]) W) (.mapIter (Y mc) b (seen.toArray.push La[n].born) W) hp' Q hB (by rw[R];exact g) pC (hU ei) ei ei (by
    intro w3 hw3 E3;refine⟨Y mc,?_,D⟩;have hb3:La[n].born=(e1::l1)[n].born:=by simpa using hen.2.2
    rw[hw3,hb3];simp)
   have hs:(Instr.next (a.eval x) dU o.type).run P w=.ok (.tuple #[.bool dT,La[n].key,La[n].val]) w'':=by
    rw[U];have hcs:((if La.isEmpty=dT then#[J]else#[])++La.map Y:Array (Option MapEntry))=La.map Y:=by simp[hLe]
    simp only[hcs,Array.size_map,gb,hch,iV];have hget2:(La.map Y)[n]? =Y (Y La[n]):=by simp[hn]
    simp only[hget2,gb,hset,iV,jR]
   rw[tJ hex hs];refine⟨_,_,gS.2 ⟨(e1::l1)[n],fB _,Z⟩,_,_,_,_,Z,Z,E.trans E2,hH2,?_⟩;have hk:=(hen.1).mono (E.trans E2);have hv2:=(hen.2.1).mono (E.trans E2);simp only[Array.getElem_toList]at hk hv2;exact sq (vs:=[.bool dT,La[n].key,La[n].val]) (((fR.nil.cons hv2).cons hk).cons (.bool dT))
  cases h
 cases h
end
section
variable{P:Program}{B:Nat→Prop}{G:ez}{H:eM}{w:World}{X:Kx}{F:T A}{a:Act}
variable(hH:fJ B G H w X)(hF:kA w X F a.tmps){dY:Bool}{e:iD}{io:jI}
theorem Oy{o:Oper}{c:Call}(d:o.op=.call c)(j:c.callee=.builtin b):execOp a.eval o=builtin b c.argTypes o.type (c.args.map λ|.const _=>dT| _=>dU) (c.args.map a.eval):=by simp only[execOp,d,resolve,j];rfl
theorem JK(hH:fJ B G H w X){o:Oper}{c:Call}{s:Sem Value}(d:o.op=.call c)(j:c.callee=.builtin b)(f:builtin b c.argTypes o.type (c.args.map λ|.const _=>dT| _=>dU) (c.args.map a.eval)=(do pure (.value (<-s))))
  (h:∃x,s.run P w=.ok x w/\eQ w X v x):iJ P B G H w X ((execOp a.eval o).run P w) (.val v):=by
 let⟨x,K,r⟩:=h
 rw[Oy d j,f];simp only[gb,K,iV,jR];exact tI hH r
include hH hF
theorem XL{o:Oper}{c:Call}{bk:BK}{vs:List A}(ho:o.op=.call c)(hb:c.callee=.builtin .len)(hc:uQ P .len c.argTypes=some bk)(hr:fR w X vs (c.args.toList.map a.eval))(h:iU H dY bk vs=some e):
  iJ P B G H w X ((execOp a.eval o).run P w) e:=by
 simp only[uQ,Option.bind_eq_some_iff]at hc
 obtain⟨t,ht,hc⟩:=hc
 have fin:∀{v:A}{x:Value},c.args.toList.map a.eval=[x]→(∀y,(Builtin.len_ c.argTypes o.type #[x]).run P w=.ok y w→eQ w X v y→e=.val v→iJ P B G H w X ((execOp a.eval o).run P w) e):=by
  intro v x hx y hy hv he
  subst he
  refine JK hH ho hb (s:=Builtin.len_ c.argTypes o.type (c.args.map a.eval)) rfl ⟨y,?_,hv⟩
  have:c.args.map a.eval=#[x]:=by
   apply Array.toList_inj.1
   rw[Array.toList_map,hx]
  rw[this];exact hy
 split at hc
 .rename_i hu
  cases hc
  obtain _ |⟨v, _ |⟨v2,vl⟩⟩:=vs<;>try(simp[iU]at h;done)
  cases v<;>try(simp[iU]at h;done)
  simp only[iU]at h
  cases h
  obtain⟨x,l,hx,hv,hl⟩:=hr.Q
  rw[hl.lZ]at hx
  obtain⟨b,rfl,hb'⟩:=mn hv
  refine fin hx (.int .i64 b.size) ?_ ?_ rfl
  .simp[Builtin.len_,ht,Sem.run_bind,iB hu,goInt]
  rw[Ax hb'];exact .int _ _
 .rename_i et hu
  cases hc
  have key:∀{v:A}{n:Nat},(∀{x},eQ w X v x→∃b cap,x=.slice b n cap)→vs=[v]→e=.val (.int .i64 (.ofNat n))→iJ P B G H w X ((execOp a.eval o).run P w) e:=by
   intro v n hn hvs he
   subst hvs
   obtain⟨x,l,hx,hv,hl⟩:=hr.Q
   rw[hl.lZ]at hx
   obtain⟨b,cap,rfl⟩:=hn hv
   exact fin hx (.int .i64 n) (by simp[Builtin.len_,ht,Sem.run_bind,iB hu,goInt]) (.int _ _) he
  obtain _ |⟨v, _ |⟨v2,vl⟩⟩:=vs<;>try(simp[iU]at h;done)
  cases v<;>try(simp[iU]at h;done)
  .simp only[iU]at h;cases h;exact key (fun h=>⟨_, _,Am h⟩) rfl rfl
  .simp only[iU]at h;cases h;exact key (fun h=>by obtain⟨c,o,cap,rfl, _⟩|⟨a,cap,rfl,rfl, _⟩:=yc h<;>exact⟨_, _,rfl⟩) rfl rfl
  simp only[iU]at h;cases h;exact key (fun h=>by obtain⟨c,cap',rfl, _⟩:=yd h;exact⟨_, _,rfl⟩) rfl rfl
 .rename_i kt et hu
  cases hc
  obtain _ |⟨v, _ |⟨v2,vl⟩⟩:=vs<;>try(simp[iU]at h;done)
  cases v<;>try(simp[iU]at h;done)
  .simp only[iU]at h
   cases h
   obtain⟨x,l,hx,hv,hl⟩:=hr.Q
   rw[hl.lZ]at hx
   have hv:=Ju hv
   subst hv
   exact fin hx (.int .i64 0) (by simp[Builtin.len_,ht,Sem.run_bind,iB hu,goInt]) (.int _ _) rfl
  simp only[iU,Option.map_eq_some_iff]at h
  obtain⟨⟨es,clock⟩,hm,rfl⟩:=h
  obtain⟨x,l,hx,hv,hl⟩:=hr.Q
  rw[hl.lZ]at hx
  obtain⟨c',eE,hρ,hB,hheap,hsz,hU,hes⟩:=Ay hH hm
  obtain⟨c2,rfl,hρ'⟩:=Fb hv
  obtain rfl:=Option.some.inj (hρ'.symm.trans hρ)
  have hget:=rx (P:=P) hheap (by intro x y z h;cases h)
  refine fin hx (.int .i64 eE.size) ?_ ?_ rfl
  .simp[Builtin.len_,ht,Sem.run_bind,iB hu,goInt,hget]
  rw[hsz];exact .int _ _
 cases hc
theorem XM{o:Oper}{c:Call}{bk:BK}{vs:List A}(ho:o.op=.call c)(hb:c.callee=.builtin .cap)(hc:uQ P .cap c.argTypes=some bk)(hr:fR w X vs (c.args.toList.map a.eval))(h:iU H dY bk vs=some e):
  iJ P B G H w X ((execOp a.eval o).run P w) e:=by
 simp only[uQ,Option.bind_eq_some_iff]at hc
 obtain⟨t,ht,hc⟩:=hc
 split at hc
 .rename_i et hu
  cases hc
  have key:∀{v:A}{n:Nat},(∀{x},eQ w X v x→∃b m,x=.slice b m n)→vs=[v]→e=.val (.int .i64 (.ofNat n))→iJ P B G H w X ((execOp a.eval o).run P w) e:=by
   intro v n hn hvs he
   subst hvs
   obtain⟨x,l,hx,hv,hl⟩:=hr.Q
   rw[hl.lZ]at hx
   obtain⟨b,m,rfl⟩:=hn hv
   subst he
   refine JK hH ho hb (s:=Builtin.cap_ c.argTypes o.type (c.args.map a.eval)) rfl ⟨.int .i64 n,?_,.int _ _⟩
   have:c.args.map a.eval=#[.slice b m n]:=by
    apply Array.toList_inj.1
    rw[Array.toList_map,hx]
   rw[this]
   simp[Builtin.cap_,ht,Sem.run_bind,iB hu,goInt]
  obtain _ |⟨v, _ |⟨v2,vl⟩⟩:=vs<;>try(simp[iU]at h;done)
  cases v<;>try(simp[iU]at h;done)
  .simp only[iU]at h;cases h;exact key (fun h=>⟨_, _,Am h⟩) rfl rfl
  .rename_i sz n cs tk
   cases tk<;>try(simp[iU]at h;done)
   simp only[iU]at h;cases h;exact key (fun h=>by obtain⟨c,o,cap,rfl, _, _, _, _, _,ht⟩:=Jt h (.inr (by simp));simp only[mS]at ht;subst ht;exact⟨_, _,rfl⟩) rfl rfl
  rename_i p sz off n cap ex
  cases ex<;>try(simp[iU]at h;done)
  simp only[iU]at h;cases h;exact key (fun h=>by obtain⟨c,cap',rfl, _, _,he, _⟩:=yd h;have:=he rfl;subst this;exact⟨_, _,rfl⟩) rfl rfl
 cases hc
theorem XN{o:Oper}{c:Call}{bk:BK}{vs:List A}(ho:o.op=.call c)(hb:c.callee=.builtin .min)(hc:uQ P .min c.argTypes=some bk)(hr:fR w X vs (c.args.toList.map a.eval))(h:iU H dY bk vs=some e):
  iJ P B G H w X ((execOp a.eval o).run P w) e:=by
 cases hc
 obtain _ |⟨v,l⟩:=vs<;>try(simp[iU]at h;done)
 obtain⟨x,l',hx,hv,hl⟩:=hr.Q
 have key:∀{l:List A}{l':List Value}{k:IntKind}{n:Int}{r:A},fR w X l l'→Ag true (.int k n) l=some r→∃y,(l'.foldlM Builtin.min2 (.int k n)).run P w=.ok y w∧eQ w X r y:=by
  intro l
  induction l with
  |nil=>intro l' k n r hl h;rw[hl.lZ];cases h;exact⟨_,rfl,.int _ _⟩
  |cons u l ih=>
  intro l' k n r hl h
  obtain⟨y,l2,rfl,hy,hl2⟩:=hl.Q
  cases u<;>try(simp[Ag]at h;done)
  have hy:=qN hy
  subst hy
  simp only[Ag]at h
  replace h:=ks.1 h
  obtain⟨hk,h⟩:=h
  have hk:=Av hk
  subst hk
  rename_i m
  obtain⟨y,h1,h2⟩:=ih hl2 h
  refine⟨y,?_,h2⟩
  simp only[List.foldlM_cons,Builtin.min2,Sem.run_bind,Sem.run_pure,Result.andThen_ok]
  rw[←h1]
  congr 3
  rw[CN]
  by_cases e:m<n<;>simp[e]
 cases v<;>try(simp[iU]at h;done)
 rename_i k n
 simp only[iU,Option.map_eq_some_iff]at h
 obtain⟨r,hr',rfl⟩:=h
 have hv:=qN hv
 subst hv
 obtain⟨y,h1,h2⟩:=key hl hr'
 refine JK hH ho hb (s:=Builtin.min_ c.argTypes o.type (c.args.map a.eval)) rfl ⟨y,?_,h2⟩
 simp only[Builtin.min_,Array.toList_map,hx]
 exact h1
end
def JL(P:Program)(w:World)(a:Array TypeId)(c:TypeId)(o:Nat)(x:Value)(m:Nat)(e:L Value):Prop:=
 (∃u d,a[1]? =Y u/\P.underlying u=Y d/\(∀k,d≠.int k)/\(Builtin.lenOf x).run P w=.ok m w/\∀k,(Builtin.firstCells o m x).run P {w with drawn:=k}=.ok e.toArray {w with drawn:=k})\/
 (∃u k f z b,a[1]? =Y u/\P.underlying u=Y (.int k)/\x=.int f m/\mU m b=dT/\uM P c=Y b/\(∀w,(zeroValue c).run P w=.ok z w)/\(e.toArray=if m*o=0 then#[]else Builtin.zeroCells z.cells m))
section
variable{P:Program}{w:World}
def Oz{n a:Nat}(h:mU n a=dT):n*a<=70368744177664/\n<=70368744177664:=by unfold mU at h;simp only[jC,ble_eq,oh]at h;exact h
def yh{ty t F:TypeId}{x:Value}{n s o m:Nat}{R:World}(c:b[0]? =Y t)(Q:P.underlying t=Y (.slice F))(r:nD P F=Y o)
  (v:JL P w b F o x m G)(l:n+m<=s)(e:(match j with|some a=>storeCells (a.add (n*o)) G|none=>pure ():Sem Unit).run P w=.ok () R):
  (Builtin.append_ b ty #[.slice j n s,x]).run P w=.ok (.slice j (n+m) s) R:=by
 obtain⟨u,d,K,B,E,I,g⟩|⟨u,k,kx,z,by_,K,B,rfl,hroom,hby,D,y⟩:=v
 .have D:(match d with|.int _=>dT| _=>dU)=dU:=by cases d<;>first|rfl|exact absurd Z (E _)
  have C:=g w.drawn;cases j with
  |none=>simp only[jR]at e;cases e;simp[Builtin.append_,c,K,gb,iB Q,iB B,lI r,D,I,l,C]
  |some a=>simp only at e;simp[Builtin.append_,c,K,gb,iB Q,iB B,lI r,D,I,l,C,e]
 obtain⟨U,W⟩:=Oz hroom;cases hi:P.info? F with
 |none=>simp[nD,hi]at r
 |some i=>
 have H:i.bytes=by_:=by simpa[uM,hi]using hby
 have N:IntKind.i64.wrap (m:Int)=m:=by rw[IntKind.wrap_i64];omega
 have n1:¬((m:Int)<0):=M
 have f:¬(281474976710656<(m:Int)*(i.bytes:Int)):=by rw[H];exact UQ
 by_cases p:m*o=0
 .rw[gO p]at y;have q:G=[]:=by simpa using y
  subst q;cases j with
  |none=>simp only[jR]at e;cases e;simp[Builtin.append_,c,K,gb,iB Q,iB B,lI r,l,asInt,asIntOf,N,su hi,f,p];intro h;omega
  |some a=>simp only at e;simp[Builtin.append_,c,K,gb,iB Q,iB B,lI r,l,asInt,asIntOf,N,su hi,f,p,e];intro h;omega
 rw[gj p]at y;have q:(Builtin.zeroCells z.cells m).toList=G:=by rw[<-y]
 cases j with
 |none=>simp only[jR]at e;cases e;simp[Builtin.append_,c,K,gb,iB Q,iB B,lI r,l,asInt,asIntOf,N,su hi,f,p,D];intro h;omega
 |some a=>simp only at e;simp[Builtin.append_,c,K,gb,iB Q,iB B,lI r,l,asInt,asIntOf,N,su hi,f,p,D,q,e];intro h;omega
def XO{e:Array TypeId}{ty t et:TypeId}{x:Value}{n:Option Addr}{b g o m by_:Nat}{H q:L Value}(c:e[0]? =Y t)(Q:P.underlying t=Y (.slice et))(r:nD P et=Y o)
  (hx:JL P w e et o x m H)(hg:g<b+m)(D:mU (b+m) by_=dT)(K:uM P et=Y by_)(hz:qb P et=Y z)
  (F:∀k,(Builtin.firstCells o b (.slice n b g)).run P {w with drawn:=k}=.ok q.toArray {w with drawn:=k}):
  ∃cap y,b+m<=cap/\O y=(cap - (b+m))*O z.cells/\(Builtin.append_ e ty #[.slice n b g,x]).run P w=
   .ok (.slice (Y ⟨w.heap.size,0,J⟩) (b+m) cap) (w.drew.alloc (.cells (q++H++y).toArray et)):=by
 obtain⟨hr1,hr2⟩:=Oz D;cases hi:P.info? et with
 |none=>simp[nD,hi]at r
 |some i=>
 have E:i.bytes=by_:=by simpa[uM,hi]using K
 obtain⟨I,hzv,W⟩:=Aq (P:=P) hz w;have l:∀w',(zeroValue et).run P w'=.ok I w':=by intro w';exact agu
 have G:O I.cells.toList=O z.cells:=((uU (W ⟨λ_=>J,λ_=>J,λ_=>0,λ_=>J⟩)).1).symm;have h:¬(281474976710656<Builtin.nextslicecap (b+m) g*i.bytes):=by have:=growslice_fits (bytes:=i.bytes) hg (by rw[E];omega);omega
 have B:¬(9223372036854775807<((b:Int)+(m:Int))):=M
 have C:¬(b+m<=g):=M
 refine⟨grownCap w (b+m) g et,(Builtin.zeroCells I.cells (grownCap w (b+m) g et - (b+m))).toList,?_,?_,?_⟩
 .simp only[grownCap,Question.cut];omega
 .simp[Builtin.zeroCells];simp at G;rw[G]
 have j:(Builtin.firstCells o b (.slice n b g)).run P w.drew=.ok q.toArray w.drew:=F (w.drawn+1);obtain⟨u,d,h1,a,hn,hl,hf⟩|⟨u,k,kx,z2,by2,h1,a,rfl,hroom2,hby2,hz2,v⟩:=hx
 .have U:(match d with|.int _=>dT| _=>dU)=dU:=by cases d<;>first|rfl|exact absurd Z (hn _)
  have R:(Builtin.firstCells o m x).run P w.drew=.ok H.toArray w.drew:=hf (w.drawn+1);simp[Builtin.append_,c,h1,gb,iB Q,iB a,lI r,U,hl,C,B,su hi,h,Question.forced,j,R,l,newRow,grownCap];congr 2;apply wj;simp
 obtain rfl:z2=I:=by have:=hz2 w;rw[hzv]at this;cases this;rfl
 have N:IntKind.i64.wrap (m:Int)=m:=by rw[IntKind.wrap_i64];omega
 have f:¬(281474976710656<(m:Int)*(i.bytes:Int)):=by rw[E];have h3:m*by_<=(b+m)*by_:=nL _ M;exact UQ
 by_cases s:m*o=0
 .rw[gO s]at v;have p:H=[]:=by simpa using v
  subst p;simp[Builtin.append_,c,h1,gb,iB Q,iB a,lI r,asInt,asIntOf,N,f,s,C,B,su hi,h,Question.forced,j,l,newRow,grownCap];rw[gj M];congr 2;congr 1;apply wj;simp
 rw[gj s]at v;have p:(Builtin.zeroCells z2.cells m).toList=H:=by rw[<-v]
 simp[Builtin.append_,c,h1,gb,iB Q,iB a,lI r,asInt,asIntOf,N,f,s,C,B,su hi,h,Question.forced,j,hz2,l,newRow,grownCap];rw[gj M];rw[<-p];simp;congr 2;apply wj;simp
end
section
variable{P:Program}{B:Nat→Prop}{G:ez}{H:eM}{w:World}{X:Kx}
def fJ.JM(K:fJ B G H w X)(p:S):fJ B G {H with ep:=H.ep.set p J} w X:=by
 have k:∀q o,T.dZ q (H.ep.set p J)=Y o->H.ep.dZ q=Y o:=by
  intro q o t;rw[T.jr]at t;split at t
  .cases t
  exact t
 refine⟨K.base,λq o t=>K.obj q o (k q o t),λq r o f c d e=>K.inj q r o f c (k _ _ d) (k _ _ e),λq t=>?_,K.room,K.kS,K.gX⟩;obtain⟨z,a,b⟩:=K.fresh q t;refine⟨z,a,?_⟩;show T.dZ q (H.ep.set p J)=J;rw[T.jr];split
 .rfl
 exact b
def JN(K:fJ B G H w X){o0 o1:AO}{c s0 u1:Nat}{t1:Option Nat}{eE:Array Value}{e:TypeId}{fz:Nat×Nat}{F:L Value}(h0:H.ep.dZ u=Y o0)(W:X.ρ u=Y c)(hB:¬B c)
  (j:w.heap[c]? =Y (.cells eE e fz))(I:CF eE.size fz)(hs:s0+O F<=eE.size)(hU:X.U c<=s0)(h1:∀v∈F,v.oneCell'=dT)(hu:X.U c<=u1)
  (ht:o1=.eY->t1=Y u1)(ht':o1≠.eY->u1=0)
  (hor:∀(n:World)(b:Array Value),n.heap[c]? =Y (.cells b e fz)->b.toList=eE.toList.take s0++F++eE.toList.drop (s0+O F)->fL B w X n (X.with (Y H.dX) t1 c u1)->kR G n (X.with (Y H.dX) t1 c u1) o1 c):
  ∃n b,(storeCells ⟨c,s0,J⟩ F).run P w=.ok () n/\n.heap[c]? =Y (.cells b e fz)/\b.toList=eE.toList.take s0++F++eE.toList.drop (s0+O F)/\
   fL B w X n (X.with (Y H.dX) t1 c u1)/\fJ B G {ep:=(H.ep.set u J).set H.dX (Y o1),dX:=H.dX.succ} n (X.with (Y H.dX) t1 c u1):=by
 obtain⟨n,b,hrun,x,f,hl⟩:=N5 (P:=P) F 0 w eE j I (by simpa using hs) h1;simp only[zu]at hl;have R:b.size=eE.size:=by have:=fW O hl;simp at this;omega
 have hget:∀i,i<s0->b[i]? =eE[i]? :=by intro i C;rw[<-qx,<-qx,hl,np,xt (by simp;omega),If,gO C]
 have hlt:c<w.heap.size:=qJ j;obtain⟨f1,f2,f3⟩:=K.fresh H.dX (fQ _);have E:fL B w X n (X.with (Y H.dX) t1 c u1):=by
  refine⟨x.below hB,λq d t=>?_,λq d t=>?_,λd=>?_,λd i C=>?_,λd i C=>?_,λd a=>?_,λ_ _ h=>h⟩
  .simp only[Kx.with];split
   .rename_i e;cases e;rw[f1]at t;cases t
   exact t
  .simp only[Kx.with];split
   .rename_i e;cases e;rw[f2]at t;cases t
   exact t
  .simp only[Kx.with];split
   .rename_i e;subst e;exact hu
   exact fQ _
  .by_cases e:d=c
   .subst e;rw[mj f,mj j];exact hget i M
   exact x.cell e i
  .by_cases e:d=c
   .subst e;rw[mj j]at C;rw[mj f];have:i<eE.size:=by
     obtain h|h:=kG i eE.size
     .exact h
     rw[pF h]at C;cases C
    simp[R,this]
   rw[x.cell e i];exact C
  simp only[Kx.with];rw[gj (λ(e:d=c)=>hB (e▸a))]
 have hor':=hor n b f hl E;refine⟨n,b,hrun,f,hl,E,?_⟩;have hnp:u≠H.dX:=λe=>by rw[e,f3]at h0;cases h0
 have z:∀q o,T.dZ q ((H.ep.set u J).set H.dX (Y o1))=Y o->(q=H.dX/\o=o1)\/(q≠H.dX/\q≠u/\H.ep.dZ q=Y o):=by
  intro q o t;rw[T.jr]at t;split at t
  .rename_i e;exact .inl ⟨e,(gu t).symm⟩
  rename_i e;rw[T.jr]at t;split at t
  .cases t
  rename_i e2;exact .inr ⟨e,e2,t⟩
 have l:(X.with (Y H.dX) t1 c u1).ρ H.dX=Y c:=by simp[Kx.with]
 have g:∀q,q≠H.dX->(X.with (Y H.dX) t1 c u1).ρ q=X.ρ q:=by intro q t;simp only[Kx.with];rw[gj (λe=>t (gu e))]
 have D:∀q,q≠H.dX->(X.with (Y H.dX) t1 c u1).τ q=X.τ q:=by intro q t;simp only[Kx.with];rw[gj (λe=>t (gu e))]
 have UN:(X.with (Y H.dX) t1 c u1).U c=u1:=by simp[Kx.with]
 have UO:∀d,d≠c->(X.with (Y H.dX) t1 c u1).U d=X.U d:=by intro d a;simp[Kx.with,a]
 refine⟨λk hk=>lw (K.base k hk) E.below.size,λq o t=>?_,λq r o o' d t hr s m=>?_,λq t=>?_,λq d t=>?_,λd a=>?_,K.gX.mono E⟩
 .obtain⟨rfl,rfl⟩|⟨p,hp,t⟩:=z q o t
  .refine⟨c,l,hB,hor',λe=>?_,λe=>by rw[UN];exact ht' e⟩;rw[UN,<-ht e];simp[Kx.with]
  obtain⟨d,g1,g2,g3,g4,g5⟩:=K.obj q o t;have y:d≠c:=λe=>hp (K.inj q u o o0 c t h0 (e▸g1) W);exact⟨d,by rw[g q p];exact g1,g2,g3.mono E (x.other d y) (λ_=>UO d y),λe=>by rw[D q p,UO d y];exact g4 e,λe=>by rw[UO d y];exact g5 e⟩
 .obtain⟨eq,_⟩|⟨p,hp,hq2⟩:=z q o t
  .rw[eq,l]at s;cases s;obtain⟨er,_⟩|⟨N,hp',Q⟩:=z r o' hr
   .rw[eq,er]
   rw[g r N]at m;exact absurd (K.inj r u o' o0 c Q h0 m W) hp'
  rw[g q p]at s;obtain⟨er,_⟩|⟨N,hp',Q⟩:=z r o' hr
  .rw[er,l]at m;cases m;exact absurd (K.inj q u o o0 c hq2 h0 s W) hp
  rw[g r N]at m;exact K.inj q r o o' d hq2 Q s m
 .have hq':H.dX.dV<=q.dV:=by rw[S.gG]at t;omega
  have p:q≠H.dX:=λe=>by rw[e,S.gG]at t;omega
  obtain⟨g1,g2,g3⟩:=K.fresh q hq';refine⟨by rw[g q p];exact g1,by rw[D q p];exact g2,?_⟩;show T.dZ q ((H.ep.set u J).set H.dX (Y o1))=J;rw[T.jr,gj p,T.jr];split
  .rfl
  exact g3
 .by_cases p:q=H.dX
  .subst p;rw[l]at t;cases t;exact lw hlt E.below.size
  rw[g q p]at t;exact lw (K.room q d t) E.below.size
 by_cases e:d=c
 .subst e;exact lw hlt E.below.size
 rw[UO d e]at a;exact lw (K.kS d a) E.below.size
def JO{c o:Nat}(K:pM w X d c o):∃f:L Value,fR w X d f/\∀j v,f[j]? =Y v->w.cell? ⟨c,o+j,J⟩=Y v:=by
 refine⟨(List.range (O d)).map λj=>(w.cell? ⟨c,o+j,J⟩).getD undef,⟨ei,λi g r=>?_⟩,λj v e=>?_⟩
 .obtain⟨v,a,n⟩:=K i g;simp only[mM,List.getElem_range,a,rd];exact n
 simp only[pz,gA]at e;obtain⟨i,C,rfl⟩:=e;obtain⟨b,C⟩:=oY.1 C;simp at C;subst C;obtain⟨v,a,n⟩:=K j Ev;simp[a]
def JP{c o m sz cap:Nat}(a:∀j v,b[j]? =Y v->w.cell? ⟨c,o+j,J⟩=Y v)(d:O b=m*sz)(k:Nat):
  (Builtin.firstCells sz m (.slice (Y ⟨c,o,J⟩) m cap)).run P {w with drawn:=k}=.ok b.toArray {w with drawn:=k}:=by
 refine run_firstCells_some (P:=P) _ sz m _ m cap b d (λj v e=>?_);rw[pN c o j _ J Z mJ];exact a j v e
def XP(j:fJ B G H w X){x:A}{m g:Nat}{ew:L A}(v:eQ w X x f)(h:rm H x=Y (m,ew))(l:O ew=m*g):
  ∃e,fR w X ew e/\(Builtin.lenOf f).run P w=.ok m w/\∀k,(Builtin.firstCells g m f).run P {w with drawn:=k}=.ok e.toArray {w with drawn:=k}:=by
 by_cases d:∃s,x=.J s
 .obtain⟨s,rfl⟩:=d;simp only[rm]at h;cases h;obtain⟨b,rfl,hb⟩:=mn v;have C:=Ax hb;refine⟨(b.data.toList).map λc=>.int .u8 c.toNat,?_,by simp[Builtin.lenOf,C],λk=>?_⟩
  .subst hb;refine⟨by simp[E8],λi K r=>?_⟩;simp only[E8,mM];exact .int _ _
  have:b.extract 0 (O s)=b:=by rw[<-C];exact ByteArray.extract_zero_size
  simp only[Builtin.firstCells,this,jR];congr 1;apply wj;simp
 have n:sj H x=Y (m,ew):=by cases x<;>first|exact h|exact absurd ⟨_,Z⟩ d
 obtain⟨rfl,rfl,rfl⟩|⟨c,o,cap,p,rfl,hc,hl',hsz'⟩|⟨a,cap,rfl,rfl,rfl⟩:=WZ j v n
 .exact⟨[],.nil,by simp[Builtin.lenOf],λk=>by simp[Builtin.firstCells]⟩
 .obtain⟨e,K,r⟩:=JO hc;exact⟨e,K,by simp[Builtin.lenOf],λk=>by simp only[Builtin.firstCells];have:=JP (P:=P) (cap:=cap) r (by rw[<-K.1];exact l) k;simpa only[Builtin.firstCells]using this⟩
 exact⟨[],.nil,by simp[Builtin.lenOf],λk=>by simp[Builtin.firstCells];rfl⟩
end
section
variable{P:Program}{B:Nat→Prop}{G:ez}{H:eM}{w:World}{X:Kx}
def fJ.nT(K:fJ B G H w X)(k:Option S):fJ B G {ep:=ye k H.ep,dX:=H.dX} w X:=by
 cases k with
 |none=>exact K
 |some p=>exact K.JM p
def XQ(K:fJ B G H w X)(dY:Bool)(nT:Option S){s n cap:Nat}(h:fR w X j d)(E:O j=n*s)(x:O (d++b)=cap*s)(m:n<=cap)(u:0<s):
  iJ P B G H w X (.ok (.value (.slice (Y ⟨w.heap.size,0,J⟩) n cap)) (w.drew.alloc (.cells (d++b).toArray l))) (cond dY (.oK nT s n j) (.lH nT s n j)):=by
 have r:=(K.nT nT).drew (w.drawn+1);have v:fL B w X w.drew X:=tA B w X _;have f:∀i,i<cap*s->((w.drew.alloc (.cells (d++b).toArray l)).cell? ⟨w.heap.size,0+i,J⟩).isSome=dT:=by intro i C;refine Vg ?_;simp only[List.getElem?_toArray];rw[jq M];rfl
 have k:=h.1;have p:∀i (C:i<O j),∃a:i<O d,(d++b).toArray.getD i undef=d[i]:=by
  intro i C;have a:i<O d:=M
  refine⟨a,?_⟩;have:i<O (d++b):=by simp;omega
  simp[Array.getD,uE a];omega
 cases dY
 .have t:=rk r (.cells (d++b).toArray l) (Y H.dX) (λq e=>gu e▸r.xV) (Y (O j)) (O j);refine⟨_,_,Z,_,_,_,_,Z,Z,v.trans t,r.ew (.cells (d++b).toArray l) .eY (O j) (Y (O j)) ?_ mJ (λe=>absurd Z e),?_⟩
  .refine⟨O j,_,l,(0,0),qK _ _,λi _ g=>by simp at g,by simp[Kx.with]⟩
  refine sr (c:=w.heap.size) (o:=0) Ek (λi C=>?_) E m u ?_
  .obtain⟨a,F⟩:=p i C;refine⟨d[i],?_,(h.2 i C a).mono (v.trans t)⟩;refine Vg ?_;simp only[List.getElem?_toArray];rw[xt a,jq a]
  refine⟨by simp[Kx.with],by simp[Kx.with,E],f⟩
 have t:=rk r (.cells (d++b).toArray l) (Y H.dX) (λq e=>gu e▸r.xV) J 0;refine⟨_,_,Z,_,_,_,_,Z,Z,v.trans t,r.ew (.cells (d++b).toArray l) (.dY j) 0 J ?_ py mJ,?_⟩
 .refine⟨_,l,(0,0),qK _ _,fQ _,by simp;omega,λi C=>?_⟩;obtain⟨a,F⟩:=p i C;rw[F];exact(h.2 i C a).mono (v.trans t)
 exact .eC _ _ _ _ _ _ _ _ Ek m py (fQ _) f u
def XR(hH:fJ B G H w X){t:S}{l ew:L A}{c o a n m cap:Nat}(ht:H.ep.dZ t=Y .eY)(hU:o+O l<=X.U c)(hc:pM w X l c o)(hn:O l=n*a)(C:0<a)
  (F:mS w X c o n a cap (.open t))(b:fR w X ew N)(hm:O ew=m*a)(h1:fN ew=dT)(q:n+m<=cap)(hm0:0<m):
  ∃Q,(storeCells ⟨c,o+n*a,J⟩ N).run P w=.ok () Q/\iJ P B G H w X (.ok (.value (.slice (Y ⟨c,o,J⟩) (n+m) cap)) Q) (.lH (Y t) a (n+m) (l++ew)):=by
 let⟨I,hτ,f⟩:=F
 obtain⟨R,K,hB,⟨u,eE,e,fz,j,g,_⟩,D,_⟩:=hH.obj t _ ht;obtain rfl:=gu (K.symm.trans I);have hUs:X.U R=o+n*a:=gu ((D Z).symm.trans hτ);have hvl:O N=m*a:=by rw[<-b.1];exact hm
 have hms:0<m*a:=Nat.mul_pos hm0 C;have hnm:(n+m)*a<=cap*a:=nL _ q;rw[mK]at hnm;have r:o+n*a+m*a<=eE.size:=by
  have:=f (n*a+m*a - 1) M;rw[mj j]at this;obtain h|h:=kG (o+(n*a+m*a - 1)) eE.size
  .omega
  rw[pF h]at this;cases this
 have z:=Fg b h1;obtain⟨Q,d,y,p,hl,E,W⟩:=JN (P:=P) hH (o1:=.eY) (s0:=o+n*a) (u1:=o+n*a+m*a) (t1:=Y (o+n*a+m*a)) ht I hB j g (by rw[hvl];exact r) M z M mJ (λe=>absurd Z e) (by
  intro Q d hw' hl E;refine⟨o+n*a+m*a,d,e,fz,hw',?_,by simp[Kx.with]⟩;have:d.size=eE.size:=by have:=fW O hl;simp at this;omega
  rw[this];exact g)
 refine⟨Q,y,_,_,Z,_,_,_,_,Z,Z,E,W,?_⟩;have k:O (l++ew)=(n+m)*a:=by rw[iN,hn,hm,mK]
 refine sr (c:=R) (o:=o) (by simp only[Kx.with,oH];rw[k,mK];omega) (λi hi=>?_) k q C ⟨by simp[Kx.with],by simp[Kx.with,mK];omega,λi hi=>E.cells _ _ (f i hi)⟩;by_cases s:i<O l
 .obtain⟨v,hv,hr⟩:=hc i s;refine⟨v,?_,?_⟩
  .rw[E.fF R (o+i) M];exact hv
  rw[uE s];exact hr.mono E
 have x:i - O l<O ew:=by rw[iN]at hi;omega
 have hi4:i - O l<O N:=by rw[<-b.1];exact x
 refine⟨N[i - O l],?_,?_⟩
 .rw[mj p,<-qx,hl,np];have e1:O (eE.toList.take (o+n*a))=o+n*a:=by simp;omega
  rw[Ca (by rw[e1];omega),e1,xt M];rw[oY];exact⟨M,by congr 1;omega⟩
 rw[Ab M];exact(b.2 _ x hi4).mono E
def XS(hH:fJ B G H w X)(dY:Bool){p:S}{cs d ew:L A}{c b n m cap:Nat}(hp:H.ep.dZ p=Y (.dY cs))(hρ:X.ρ p=Y c)(hold:cut 0 (n*b) cs=Y d)(U:0<b)
  (f:∀i,i<cap*b->(w.cell? ⟨c,0+i,J⟩).isSome=dT)(r:fR w X ew z)(hm:O ew=m*b)(h1:fN ew=dT)(u:n+m<=cap)(hm0:0<m):
  ∃t,(storeCells ⟨c,n*b,J⟩ z).run P w=.ok () t/\iJ P B G H w X (.ok (.value (.slice (Y ⟨c,0,J⟩) (n+m) cap)) t) (cond dY (.oK (Y p) b (n+m) (d++ew)) (.lH (Y p) b (n+m) (d++ew))):=by
 obtain⟨c',hρ',hB,⟨eE,e,fz,j,hfz,hcl,hcs⟩,_,hU⟩:=hH.obj p _ hp;obtain rfl:=gu IJ;have hU:=hU ei;have hvl:O z=m*b:=by rw[<-r.1];exact hm
 have hms:0<m*b:=Nat.mul_pos hm0 U;have hnm:(n+m)*b<=cap*b:=nL _ u;rw[mK]at hnm;have l:n*b+m*b<=eE.size:=by
  have:=f (n*b+m*b - 1) M;rw[mj j]at this;obtain h|h:=kG (0+(n*b+m*b - 1)) eE.size
  .omega
  rw[pF h]at this;cases this
 have F:=Fg r h1;obtain⟨D,hol⟩:=Jx hold;have g:CF eE.size fz:=λi _ hf=>M
 have k:O (d++ew)=(n+m)*b:=by rw[iN,hol,hm,mK]
 have I:∀(t:World)(κ':Kx)(a:Array Value),fL B w X t κ'->a.toList=eE.toList.take (n*b)++z++eE.toList.drop (n*b+O z)->∀i (C:i<O (d++ew)),∃v,a[i]? =Y v/\eQ t κ' (d++ew)[i] v:=by
  intro t κ' a E s i C;have e1:O (eE.toList.take (n*b))=n*b:=by simp;omega
  by_cases Q:i<O d
  .have x:i<O cs:=by rw[D]at Q;simp at Q;omega
   have R:i<eE.size:=M
   refine⟨eE.getD i undef,?_,?_⟩
   .rw[<-qx,s,np,xt (by rw[e1];omega),If,gO M,qx];exact getD_some R
   have:(d++ew)[i]=cs[i]:=by rw[uE Q];simp[D]
   rw[this];exact(hcs i x).mono E
  have x:i - O d<O ew:=by rw[iN]at C;omega
  have R:i - O d<O z:=by rw[<-r.1];exact x
  refine⟨z[i - O d],?_,?_⟩
  .rw[<-qx,s,np,Ca (by rw[e1];omega),e1,xt M];rw[oY];exact⟨M,by congr 1;omega⟩
  rw[Ab M];exact(r.2 _ x R).mono E
 have K:∀a:Array Value,a.toList=eE.toList.take (n*b)++z++eE.toList.drop (n*b+O z)->a.size=eE.size:=by intro a s;have:=fW O s;simp at this;omega
 cases dY
 .obtain⟨t,a,y,q,s,E,N⟩:=JN (P:=P) hH (o1:=.eY) (s0:=n*b) (u1:=n*b+m*b) (t1:=Y (n*b+m*b)) hp hρ hB j g (by rw[hvl];exact l) M F M mJ (λe=>absurd Z e) (by intro t a W s E;exact⟨n*b+m*b,a,e,fz,W,by rw[K _ s];exact g,by simp[Kx.with]⟩)
  refine⟨t,y,_,_,Z,_,_,_,_,Z,Z,E,N,?_⟩;refine sr (c:=c') (o:=0) (by simp only[Kx.with,oH];rw[k,mK];omega) (λi C=>?_) k u U ⟨by simp[Kx.with],by simp[Kx.with,mK],λi C=>E.cells _ _ (f i C)⟩;obtain⟨v,hv,hr⟩:=I _ _ a E s i C;exact⟨v,by rw[lg,mj q];exact hv,hr⟩
 obtain⟨t,a,y,q,s,E,N⟩:=JN (P:=P) hH (o1:=.dY (d++ew)) (s0:=n*b) (u1:=0) (t1:=J) hp hρ hB j g (by rw[hvl];exact l) M F M py mJ (by intro t a W s E;refine⟨a,e,fz,W,hfz,by rw[K _ s,k,mK];exact l,λi C=>?_⟩;obtain⟨v,hv,hr⟩:=I _ _ a E s i C;have hlt:=qJ hv;have:a.getD i undef=v:=gu ((getD_some hlt).symm.trans hv);rw[this];exact hr)
 refine⟨t,y,_,_,Z,_,_,_,_,Z,Z,E,N,?_⟩;exact .eC _ _ _ _ _ _ _ _ Ek u py (fQ _) (λi C=>E.cells _ _ (f i C)) U
end
section
variable{P:Program}{B:Nat→Prop}{G:ez}{H:eM}{w:World}{X:Kx}
def OA(hH:fJ B G H w X){dY:Bool}{d:Array TypeId}{ty t et:TypeId}{sz by_ m:Nat}{s z:A}{s' x':Value}{ew:L A}{vs:L Value}{e:iD}(h0:d[0]? =Y t)(hu:P.underlying t=Y (.slice et))
  (C:nD P et=Y sz)(hpos:0<sz)(hby:uM P et=Y by_)(hz:qb P et=Y z)(hzl:O z.cells=sz)(hs:eQ w X s s')(q:JL P w d et sz x' m vs)
  (u:fR w X ew vs)(hm:O ew=m*sz)(h1:fN ew=dT)(h:nN H dY sz by_ s m ew=Y e):
  iJ P B G H w X ((do pure (.value (<-Builtin.append_ d ty #[s',x'])):Sem Next).run P w) e:=by
 have v:∀{c:Value}{w':World},(Builtin.append_ d ty #[s',x']).run P w=.ok c w'->iJ P B G H w X (.ok (.value c) w') e->iJ P B G H w X ((do pure (.value (<-Builtin.append_ d ty #[s',x'])):Sem Next).run P w) e:=by intro c w' hrun he;simpa only[gb,hrun,iV,jR]using he
 cases m with
 |zero=>
  have hvs:vs=[]:=by apply pG;rw[<-u.1,hm,Nat.zero_mul]
  subst hvs;simp only[nN]at h;cases s<;>try(simp at h;done)
  .cases h;have l:=Am hs;subst l;exact v (yh (ty:=ty) h0 hu C q (fQ _) Z) (tI hH hs)
  .cases h;obtain⟨c,o,cap,rfl,hU,g,hn,r,D,ht⟩|⟨a,cap,rfl,rfl,rfl,rfl,D⟩:=yc hs
   .exact v (yh (ty:=ty) h0 hu C q r (by simp[storeCells])) (tI hH hs)
   exact v (yh (ty:=ty) h0 hu C q (oE _) (by simp[storeCells])) (tI hH hs)
  cases h;obtain⟨c,R,rfl,hc,r,he,hn,hs',D⟩:=yd hs;exact v (yh (ty:=ty) h0 hu C q M (by simp[storeCells])) (tI hH hs)
 |succ m=>
 have hvl:O vs=(m+1)*sz:=by rw[<-u.1];exact hm
 have hone:=Fg u h1;simp only[nN]at h;have x:∀{base:Option Addr}{sLen sCap:Nat}{old:L A}{olds:L Value}(nT:Option S),s'=.slice base sLen sCap->sCap<sLen+(m+1)->mU (sLen+(m+1)) by_=dT->
   fR w X old olds->O old=sLen*sz->(∀k,(Builtin.firstCells sz sLen (.slice base sLen sCap)).run P {w with drawn:=k}=.ok olds.toArray {w with drawn:=k})->
   e=cond dY (.oK nT sz (sLen+(m+1)) (old++ew)) (.lH nT sz (sLen+(m+1)) (old++ew))->iJ P B G H w X ((do pure (.value (<-Builtin.append_ d ty #[s',x'])):Sem Next).run P w) e:=by
  intro base sLen sCap old olds nT l hg b j Q f he;subst l;obtain⟨cap,rest,r,hrest,hrun⟩:=XO (ty:=ty) h0 hu C q hg b hby hz f;refine v hrun ?_;rw[he];refine XQ hH dY nT (j.append u) (by rw[iN,Q,hm,<-mK]) ?_ r hpos;rw[iN,iN,hrest,hvl,<-j.1,Q,hzl,<-mK,<-mK];congr 1;omega
 cases s<;>try(simp at h;done)
 ·
  simp only at h;replace h:=ks.1 h;obtain⟨b,h⟩:=h;have l:=Am hs;refine x (base:=J) (sLen:=0) (sCap:=0) (old:=[]) (olds:=[]) J l M (by rw[lg];exact b) .nil ei (λk=>run_firstCells_none _ _ _ _ _) ?_;rw[lg];exact(gu h).symm
 ·
  rename_i sz' n cs tk;simp only at h;replace h:=ks.1 h;obtain⟨b,h⟩:=h;simp only[jC,beq_eq,oh]at b;obtain⟨b,rfl⟩:=b;have htk:tk≠.G:=λe=>by subst e;cases h
  obtain⟨c,o,cap,l,hU,g,hn,r,D,ht⟩:=Jt hs (.inr htk);obtain⟨olds,j,I⟩:=JO g;have f:=λk=>JP (P:=P) (w:=w) (m:=n) (sz:=sz) (cap:=cap) I (by rw[<-j.1];exact hn) k;cases tk with
  |fE=>simp only[mS]at ht;subst ht;exact x J l M b j hn f (gu h).symm
  |G=>cases h
  |«open»t=>
  simp only at h;cases dY
  .simp only[jx]at h;have htm:H.ep.dZ t=Y .eY/\e=.lH (Y t) sz (n+(m+1)) (cs++ew):=by
    split at h
    .exact⟨by assumption,(gu h).symm⟩
    cases h
   obtain⟨htm,rfl⟩:=htm;by_cases y:n+(m+1)<=cap
   .obtain⟨w',hst,N⟩:=XR (P:=P) hH htm hU g hn hpos ht u hm h1 y M;subst l;exact v (yh (ty:=ty) h0 hu C q y (by simp only[pN c o (n*sz) _ J Z mJ];exact hst)) N
   exact x (Y t) l M b j hn f Z
  cases h
 
 rename_i p sz' off n cap ex;simp only[fS]at h;obtain⟨cs,hcs,h⟩:=h;replace h:=ks.1 h;rw[beq_eq]at h;obtain⟨hsz2,h⟩:=h;have hsz2:=j0 hsz2;subst hsz2;obtain⟨c,R,l,hρ,r,hex,hn,U,D⟩:=yd hs;rw[ble_eq]at h;by_cases y:n+(m+1)<=cap
 .rw[sc y,gZ]at h;simp only[fS]at h;obtain⟨cs',hsp,h⟩:=h;cases h;obtain⟨c',w',hρ',hst,E,hH'⟩:=N6 (P:=P) hH (yf hcs) hsp u h1;obtain rfl:=gu IJ;subst l;refine v (yh (ty:=ty) h0 hu C q M (by simp only[pN c' off (n*sz) _ J Z mJ];exact hst)) ?_;exact⟨_,_,Z,_,_,_,_,Z,Z,E,hH',.eC _ _ _ _ _ _ _ _ hρ r hex M (λi hi=>E.cells _ _ (U i hi)) D⟩
 rw[Ac y,jx]at h;replace h:=ks.1 h;obtain⟨b,h⟩:=h;simp only[fS]at h;obtain⟨old,j,h⟩:=h;obtain⟨c',hρ',g⟩:=Fo hH (yf hcs);obtain rfl:=gu IJ;obtain⟨hoc,Q⟩:=g.cut j;rw[lg]at hoc;obtain⟨olds,K,I⟩:=JO hoc;have f:=λk=>JP (P:=P) (w:=w) (m:=n) (sz:=sz) (cap:=R) I (by rw[<-K.1];exact Q) k;cases ex
 .simp only[jx]at h;replace h:=ks.1 h;rw[beq_eq]at h;obtain⟨ho,h⟩:=h;have ho:=j0 ho;subst ho;by_cases W:n+(m+1)<=R
  .obtain⟨w',hst,N⟩:=XS (P:=P) hH dY (yf hcs) hρ j hpos U u hm h1 W M;rw[gu h]at N;subst l;exact v (yh (ty:=ty) h0 hu C q W (by simp only[pN c' 0 (n*sz) _ J Z mJ,lg];exact hst)) N
  exact x (Y p) l M b K Q f (gu h).symm
 have:=hex Z;subst this;simp only[gZ]at h;exact x J l M b K Q f (gu h).symm
variable{F:T A}{a:Act}
theorem XT(hH:fJ B G H w X){dY:Bool}{e:iD}{o:Oper}{c:Call}{bk:BK}{vs:List A}(ho:o.op=.call c)(hb:c.callee=.builtin .append)(hc:uQ P .append c.argTypes=some bk)(hr:fR w X vs (c.args.toList.map a.eval))(h:iU H dY bk vs=some e):
  iJ P B G H w X ((execOp a.eval o).run P w) e:=by
 simp only[uQ,Option.bind_eq_some_iff]at hc
 obtain⟨t,ht,u,hu,hc⟩:=hc
 have args2:∀{s x:A},vs=[s,x]→∃s' x',c.args.map a.eval=#[s',x']∧eQ w X s s'∧eQ w X x x':=by
  intro s x hvs
  subst hvs
  obtain⟨s',l,hx,hs,hl⟩:=hr.Q
  obtain⟨x',l2,hl2,hx',hl3⟩:=hl.Q
  rw[hl2,hl3.lZ]at hx
  refine⟨s',x',?_,hs,hx'⟩
  apply Array.toList_inj.1
  rw[Array.toList_map,hx]
 have fin:∀{s' x':Value},c.args.map a.eval=#[s',x']→iJ P B G H w X ((do pure (.value (←Builtin.append_ c.argTypes o.type #[s',x'])):Sem Next).run P w) e→iJ P B G H w X ((execOp a.eval o).run P w) e:=by
  intro s' x' hargs he
  rw[Oy ho hb,hargs]
  exact he
 split at hc
 .rename_i et ik hut huu
  simp only[Option.bind_eq_some_iff]at hc
  obtain⟨sz,hsz,by_,hby,z,hz,hc⟩:=hc
  obtain⟨hs,hpos⟩:=rv hsz
  split at hc
  .rename_i hzl
   cases hc
   obtain _ |⟨s, _ |⟨x, _ |⟨y,l⟩⟩⟩:=vs<;>try(simp[iU]at h;done)
   simp only[iU,Option.bind_eq_some_iff]at h
   obtain⟨m,hm,h⟩:=h
   replace h:=ks.1 h
   obtain⟨hcond,h⟩:=h
   simp only[Bool.and_eq_true]at hcond
   obtain⟨hone,hroom⟩:=hcond
   obtain⟨s',x',hargs,hsr,hxr⟩:=args2 rfl
   obtain⟨kx,rfl⟩:=uW hxr hm
   obtain⟨zv,hzv,hzr⟩:=Aq (P:=P) hz w
   have hzall:∀w',(zeroValue et).run P w'=.ok zv w':=by
    intro w'
    cases hi:P.info? et with
    |none=>simp[nD,hi]at hs
    |some i=>
    simp only[qb,hi,Option.bind_some,Option.bind_eq_some_iff]at hz
    obtain⟨zv',h1,h2⟩:=hz
    have e1:∀w',(zeroValue et).run P w'=.ok zv' w':=by intro w';simp[zeroValue,Sem.run_bind,su hi,h1]
    have:=e1 w
    rw[hzv]at this
    cases this
    exact e1 w'
   have hcr:=uU (hzr X)
   have hzl2:zv.cells.toList.length=sz:=by rw[←hcr.1,hzl]
   have hrep:=JE (w:=w) (X:=X) hcr M m
   have hall:∀m,fN (gV z.cells m)=true:=by
    intro m
    have iW:∀l l2:List A,fN l=true→fN l2=true→fN (l++l2)=true:=by
     intro l
     induction l with
     |nil=>intro l2 _ h;exact h
     |cons x l ih=>
     intro l2 h1 h2
     simp only[fN]at h1
     cases hx:mT x
     .rw[hx]at h1;cases h1
     rw[hx]at h1;simp only[List.cons_append,fN,hx,cond_true];exact ih l2 h1 h2
    induction m with
    |zero=>rfl
    |succ m ih=>exact iW _ _ hone ih
   refine fin hargs (OA hH (ty:=o.type) (vs:=(Builtin.zeroCells zv.cells m).toList) ht hut hs hpos hby hz hzl hsr (.inr ⟨u,ik,kx,zv,by_,hu,huu,rfl,hroom,hby,hzall,?_⟩) ?_ (by rw[CR,hzl]) (hall m) h)
   .rw[Array.toArray_toList]
    split
    .rename_i h0
     have:zv.cells.size=sz:=by simpa using hzl2
     simp[Builtin.zeroCells,this,h0]
    rfl
   simp only[Array.toArray_toList,Array.length_toList]at hrep
   exact hrep
  cases hc
 .rename_i et d hno hut huu
  simp only[Option.bind_eq_some_iff]at hc
  obtain⟨sz,hsz,by_,hby,z,hz,hc⟩:=hc
  obtain⟨hs,hpos⟩:=rv hsz
  split at hc
  .rename_i hzl
   cases hc
   obtain _ |⟨s, _ |⟨x, _ |⟨y,l⟩⟩⟩:=vs<;>try(simp[iU]at h;done)
   simp only[iU,Option.bind_eq_some_iff]at h
   obtain⟨⟨m,ew⟩,hg,h⟩:=h
   replace h:=ks.1 h
   obtain⟨hcond,h⟩:=h
   simp only[Bool.and_eq_true,beq_eq,decide_eq_true_eq]at hcond
   obtain⟨hone,hm⟩:=hcond
   obtain⟨s',x',hargs,hsr,hxr⟩:=args2 rfl
   obtain⟨us,h1,h2,h3⟩:=XP (P:=P) hH hxr hg hm
   exact fin hargs (OA hH (ty:=o.type) ht hut hs hpos hby hz hzl hsr (.inl ⟨u, _,hu,huu,(fun k e=>by first|exact hno _ k (by rw[e])|exact hno et k rfl (by rw[e])|(subst e;simp_all)),h2,h3⟩) h1 hm hone h)
  cases hc
 cases hc
end
section
variable{P:Program}{B:Nat→Prop}{G:ez}{H:eM}{w:World}{X:Kx}{F:T A}{a:Act}
variable(hH:fJ B G H w X)(hF:kA w X F a.tmps){dY:Bool}{e:iD}{io:jI}
include hH hF
theorem XU{o:Oper}{c:Call}(p:o.op=.call c)(K:ib P o.op=Y io)(h:fG G dY F H io=Y e):iJ P B G H w X ((execOp a.eval o).run P w) e:=by
 simp only[p,ib,fS]at K
 let⟨y,k,K⟩:=K
 have g:(c.args.map a.eval).toList=c.args.toList.map a.eval:=ND;split at K
 ·
  rename_i f d;cases K;simp only[fG,gA]at h;obtain⟨s,m,rfl⟩:=h;have n:=CK hH hF k m;refine⟨c.args.map a.eval,?_,by rw[g];exact n⟩;have j:a.eval (.func f)=.func (.func f) #[] #[]:=Z;simp only[execOp,p,resolve,d,Deferred.ofValue,j,gb,jR,iV,invoke,Array.append_empty,Array.empty_append]
 ·
  rename_i x u d;simp only[gA]at K;obtain⟨I,hix,rfl⟩:=K;simp only[fG,fS]at h
  let⟨v,hv,s,m,h⟩:=h
  have n:=CK hH hF k m;refine uC λhx=>?_;split at h
  .rename_i f first captured
   cases h;obtain⟨C,D,j,_,t,r⟩:=Jv hx;refine⟨C.toArray++c.args.map a.eval++D.toArray,?_,?_⟩
   .simp only[execOp,p,resolve,d,Deferred.ofValue,j,gb,jR,iV,invoke]
   simp only[Array.toList_append,g];exact(t.append n).append r
  .rename_i l;cases h;obtain⟨z,j,q⟩:=NZ hx;refine⟨z,c.args.map a.eval,q,?_,by rw[g];exact n⟩;simp only[execOp,p,resolve,d,Deferred.ofValue,j,gb,jR,iV,invoke,Array.empty_append]
  cases h
 ·
  rename_i b d;simp only[gA]at K;obtain⟨E,i,rfl⟩:=K;simp only[fG,fS]at h
  let⟨s,m,h⟩:=h
  have n:=CK hH hF k m;cases b<;>try(simp[uQ]at i;done)
  .exact XT hH p d i n h
  .exact XM hH hF p d i n h
  .exact XL hH hF p d i n h
  exact XN hH hF p d i n h
 cases K
theorem XV{o:Oper}(K:ib P o.op=Y io)(h:fG G dY F H io=Y e):iJ P B G H w X ((execOp a.eval o).run P w) e:=by
 cases ho:o.op with
 |move x=>exact Oi hH hF (.inl ho) K h
 |assign x=>exact Oi hH hF (.inr ho) K h
 |pick c x y=>exact W0 hH hF ho K h
 |alloc t=>exact Xb hH hF ho K h
 |box t x=>exact Xc hH hF ho K h
 |build t b=>exact Xd hH hF ho K h
 |buildSlice t n b=>exact Xe hH hF ho K h
 |insert t m k v=>exact Ov hH hF (.inr ho) K h
 |load t x=>exact W1 hH hF ho K h
 |store t x y=>exact Xp hH hF ho K h
 |nilCheck x=>exact W2 hH hF ho K h
 |binOp op t x y u=>exact W3 hH hF ho K h
 |unOp op t x=>exact W4 hH hF ho K h
 |convert s t x=>exact Xh hH hF ho K h
 |makeInterface t x=>exact W6 hH hF ho K h
 |makeFunc fn x y=>exact W7 hH hF ho K h
 |makeMap t r=>
  cases r with
  |none=>exact Xf hH hF ho K h
  |some _=>rw[ho]at K;cases K
 |makeSlice t l c=>exact Xg hH hF ho K h
 |slice t x l d m=>exact Xo hH hF ho K h
 |fieldAddr t x i=>exact Xi hH hF ho K h
 |field t x i=>exact Xj hH hF ho K h
 |indexAddr t x i=>exact Xl hH hF ho K h
 |index t x i=>exact Xk hH hF ho K h
 |lookup t x k ok=>exact Xu hH hF ho K h
 |mapUpdate t m k v=>exact Ov hH hF (.inl ho) K h
 |range t x=>exact Xy hH hF ho K h
 |next x s=>
  cases s
  .exact XK hH hF ho K h
  exact XE hH hF ho K h
 |entry x=>exact Xz hH hF ho K h
 |extract x i=>exact W5 hH hF ho K h
 |call c=>exact XU hH hF ho K h
 | _=>rw[ho]at K;cases K
end
section
variable{P:Program}{G:ez}{H:eM}{w w':World}{X κ':Kx}
def ku(B:Nat->Prop)(H:eM)(X:Kx)(hid:S->Prop):Nat->Prop:=λc=>B c\/∃p o,hid p/\H.ep.dZ p=Y o/\X.ρ p=Y c
def fL.yi{B a:Nat->Prop}(E:fL a w X w' κ')(h:∀c,B c->a c):fL B w X w' κ':=
 ⟨⟨E.below.os,E.below.tape,E.below.output,E.below.size,λk b=>E.below.block k (h k b)⟩,E.jM,E.qI,E.u,E.fF,E.cells,λc K=>E.rj c (h c K),E.tz⟩
def uK.yi{B a:Nat->Prop}(h:uK B G w X)(b:∀c,B c->a c):uK a G w X:=
 ⟨h.gX,λp d e=>let⟨c,K,r,m⟩:=h.fU p d e;⟨c,K,b c r,m⟩,h.inj,λg o e=>⟨b g (h.raw g o e).1,(h.raw g o e).2⟩⟩
def fJ.Fq{B:Nat->Prop}(K:fJ B G H w X)(hid:S->Prop){H1:eM}(b:∀p o,H1.ep.dZ p=Y o->H.ep.dZ p=Y o/\¬hid p)(E:∀q:S,H1.dX.dV<=q.dV->H.dX.dV<=q.dV):
  fJ (ku B H X hid) G H1 w X:=by
 refine⟨λc a=>?_,λp o n=>?_,λp q o i c e r=>K.inj p q o i c (b _ _ e).1 (b _ _ r).1,λq s=>?_,K.room,K.kS,K.gX.yi λc a=>.inl a⟩
 .obtain a|⟨p,o,_,_,h⟩:=a
  .exact K.base c a
  exact K.room p c h
 .obtain⟨e,r⟩:=b p o n;obtain⟨c,k,t,m⟩:=K.obj p o e;refine⟨c,k,λa=>?_,m⟩;obtain a|⟨u,i,g,f,d⟩:=a
  .exact t a
  exact r (K.inj p u o i c e f k d▸g)
 obtain⟨z,l,j⟩:=K.fresh q (E q s);refine⟨z,l,?_⟩;cases hg:H1.ep.dZ q with
 |none=>rfl
 |some o=>rw[(b q o hg).1]at j;cases j
def fJ.join{B:Nat->Prop}(v:fJ B G H w X){hid:S->Prop}(E:fL (ku B H X hid) w X w' κ'){y D:eM}(K:fJ (ku B H X hid) G y w' κ')
  (f:∀p o,D.ep.dZ p=Y o->y.ep.dZ p=Y o\/(hid p/\H.ep.dZ p=Y o))(hx:∀q:S,D.dX.dV<=q.dV->y.dX.dV<=q.dV):
  fL B w X w' κ'/\fJ B G D w' κ':=by
 have Q:fL B w X w' κ':=E.yi (λc N=>.inl N);have b:∀p o d,hid p->H.ep.dZ p=Y o->κ'.ρ p=Y d->X.ρ p=Y d/\ku B H X hid d:=by intro p o d hp i a;obtain⟨c,h,_⟩:=v.obj p o i;have:=E.jM p c h;rw[a]at this;cases this;exact⟨h,.inr ⟨p,o,hp,i,h⟩⟩
 have seen:∀p o d,y.ep.dZ p=Y o->κ'.ρ p=Y d->¬ku B H X hid d:=by intro p o d i a;obtain⟨c,h,u,_⟩:=K.obj p o i;rw[a]at h;cases h;exact u
 refine⟨Q,λk W=>K.base k (.inl W),λp o i=>?_,λp q o r c hp t j n=>?_,λq t=>?_,K.room,K.kS,v.gX.mono Q⟩
 .obtain i|⟨hp,i⟩:=f p o i
  .obtain⟨c,h,u,m⟩:=K.obj p o i;exact⟨c,h,λN=>u (.inl N),m⟩
  obtain⟨c,h,u,m,g,C⟩:=v.obj p o i;have s:ku B H X hid c:=.inr ⟨p,o,hp,i,h⟩;have I:=E.rj c s;exact⟨c,E.jM _ _ h,u,m.mono E (E.below.block c s) (λ_=>I),λe=>by rw[I];exact E.qI _ _ (g e),λe=>by rw[I];exact C e⟩
 .obtain hp|⟨x,hp⟩:=f p o hp
  .obtain t|⟨l,t⟩:=f q r t
   .exact K.inj p q o r c hp t j n
   exact absurd (b q r c l t n).2 (seen p o c hp j)
  obtain t|⟨l,t⟩:=f q r t
  .exact absurd (b p o c x hp j).2 (seen q r c t n)
  exact v.inj p q o r c hp t (b p o c x hp j).1 (b q r c l t n).1
 obtain⟨z,R,U⟩:=K.fresh q (hx q t);refine⟨z,R,?_⟩;cases F:D.ep.dZ q with
 |none=>rfl
 |some o=>
 obtain F|⟨l,F⟩:=f q o F
 .rw[U]at F;cases F
 obtain⟨c,h,_⟩:=v.obj q o F;rw[E.jM q c h]at z;cases z
def Kx.only(X:Kx)(D:S->Prop) [DecidablePred D]:Kx:={ρ:=λp=>if D p then X.ρ p else J,τ:=λp=>if D p then X.τ p else J,U:=X.U,φ:=X.φ}
inductive iY (D Ta:S→Prop):A→Prop
 |bool (b:Bool):iY D Ta (.bool b)
 |int (k:IntKind)(n:Int):iY D Ta (.int k n)
 |J (s:List Nat):iY D Ta (.J s)
 |gi:iY D Ta .gi
 |ea (p:S)(off:Nat)(h:D p):iY D Ta (.ea p off)
 |fF (cs:List A)(off:Nat)(h:∀i (h:i<cs.length),iY D Ta cs[i]):iY D Ta (.fF cs off)
 |fz (p:S)(off:Nat):iY D Ta (.fz p off)
 |ej:iY D Ta .ej
 |eG (sz n:Nat)(cs:List A)(t:jt)(ht:∀p,t=.open p→Ta p)(h:∀i (h:i<cs.length),iY D Ta cs[i]):iY D Ta (.eG sz n cs t)
 |eC (p:S)(sz off n cap:Nat)(ex:Bool)(h:D p):iY D Ta (.eC p sz off n cap ex)
 |ji:iY D Ta .ji
 |map (p:S)(h:D p):iY D Ta (.map p)
 |gQ:iY D Ta .gQ
 |func (f:Fn)(x y:List A)(h1:∀i (h:i<x.length),iY D Ta x[i])(h2:∀i (h:i<y.length),iY D Ta y[i]):iY D Ta (.func f x y)
 |gF (l:S)(h:D l):iY D Ta (.gF l)
 |jc:iY D Ta .jc
 |iface (t:TypeId)(v:A)(h:iY D Ta v):iY D Ta (.iface t v)
 |agg (cs:List A)(h:∀i (h:i<cs.length),iY D Ta cs[i]):iY D Ta (.agg cs)
 |eK (cs:List A)(h:∀i (h:i<cs.length),iY D Ta cs[i]):iY D Ta (.eK cs)
def eQ.oq{D Ta:S->Prop}{x:Value}(h:eQ w X v x)(q:iY D Ta v)(K:∀p c,D p->X.ρ p=Y c->κ'.ρ p=Y c)(h3:∀p c,Ta p->X.ρ p=Y c->κ'.ρ p=Y c)(h4:∀p c,Ta p->X.τ p=Y c->κ'.τ p=Y c)(r:∀c,X.U c<=κ'.U c)(h6:∀p c,X.φ p=Y c->κ'.φ p=Y c):eQ w κ' v x:=by
 induction h with
 |bool b=>exact .bool b
 |int k n=>exact .int k n
 |J s b h=>exact .J s b h
 |gi=>exact .gi
 |ea p e c h=>cases q with|ea _ _ d=>exact .ea p e c (K p c d h)
 |fF y e c o z N Q _ u=>cases q with|fF _ _ d=>exact .fF y e c o z (ny N (r c)) Q (λi C=>u i C (d i C))
 |fz p e c h=>exact .fz p e c (h6 p c h)
 |ej=>exact .ej
 |eG I n y t c o cap z N Q _ E j m g u=>
  cases q with|eG _ _ _ _ ht d=>
  refine .eG I n y t c o cap z (ny N (r c)) Q (λi C=>u i C (d i C)) E j m ?_;cases t with
  |fE=>exact g
  |«open»t=>exact⟨h3 t _ (ht t Z) g.1,h4 t _ (ht t Z) g.2.1,g.2.2⟩
  |G=>trivial
 |emp I a cap m=>exact .emp I a cap m
 |eC p I e n cap c B exact h j he E hs m=>cases q with|eC _ _ _ _ _ _ d=>exact .eC p I e n cap c B exact (K p c d h) j he E hs m
 |ji=>exact .ji
 |map p c h=>cases q with|map _ d=>exact .map p c (K p c d h)
 |gQ=>exact .gQ
 |func f a b a' b' hf F _ g3 _ R W=>cases q with|func _ _ _ d1 d2=>exact .func f a b a' b' hf F (λi C=>R i C (d1 i C)) g3 (λi C=>W i C (d2 i C))
 |gF l c h=>cases q with|gF _ d=>exact .gF l c (K l c d h)
 |jc=>exact .jc
 |iface t v v' _ u=>cases q with|iface _ _ d=>exact .iface t v v' (u d)
 |agg y z F _ u=>cases q with|agg _ d=>exact .agg y z F (λi C=>u i C (d i C))
 |eK y z F _ u=>cases q with|eK _ d=>exact .eK y z F (λi C=>u i C (d i C))
def eQ.ry{x:Value}(h:eQ w X v x):iY (λp=>(X.ρ p).isSome=dT) (λp=>(X.ρ p).isSome=dT/\(X.τ p).isSome=dT) v:=by
 induction h with
 |bool b=>exact .bool b
 |int k n=>exact .int k n
 |J s b h=>exact .J s
 |gi=>exact .gi
 |ea p d c h=>exact .ea p d (by rw[h];rfl)
 |fF r d c o D N K _ j=>exact .fF r d j
 |fz p d c h=>exact .fz p d
 |ej=>exact .ej
 |eG y n r t c o cap D N K _ E u C q j=>refine .eG y n r t (λp e=>?_) j;subst e;exact⟨by rw[q.1];rfl,by rw[q.2.1];rfl⟩
 |emp y a cap C=>exact .eG y 0 [] .G mR (λi Q=>by simp at Q)
 |eC p y d n cap c F exact h u he E hs C=>exact .eC p y d n cap exact (by rw[h];rfl)
 |ji=>exact .ji
 |map p c h=>exact .map p (by rw[h];rfl)
 |gQ=>exact .gQ
 |func f a b R U g I _ m _ z B=>exact .func f a b z B
 |gF l c h=>exact .gF l (by rw[h];rfl)
 |jc=>exact .jc
 |iface t v W _ j=>exact .iface t v j
 |agg r D I _ j=>exact .agg r j
 |eK r D I _ j=>exact .eK r j
def iY.and{D Ta z B:S->Prop}(h:iY D Ta v)(d:iY z B v):iY (λp=>D p/\z p) (λp=>Ta p/\B p) v:=by
 induction h with
 |bool b=>exact .bool b
 |int k n=>exact .int k n
 |J s=>exact .J s
 |gi=>exact .gi
 |ea p c h=>cases d with|ea _ _ a=>exact .ea p c ⟨h,a⟩
 |fF m c _ g=>cases d with|fF _ _ a=>exact .fF m c (λi C=>g i C (a i C))
 |fz p c=>exact .fz p c
 |ej=>exact .ej
 |eG o n m t j _ g=>cases d with|eG _ _ _ _ q a=>exact .eG o n m t (λp e=>⟨j p e,q p e⟩) (λi C=>g i C (a i C))
 |eC p o c n cap E h=>cases d with|eC _ _ _ _ _ _ a=>exact .eC p o c n cap E ⟨h,a⟩
 |ji=>exact .ji
 |map p h=>cases d with|map _ a=>exact .map p ⟨h,a⟩
 |gQ=>exact .gQ
 |func f x y _ _ r u=>cases d with|func _ _ _ F I=>exact .func f x y (λi C=>r i C (F i C)) (λi C=>u i C (I i C))
 |gF l h=>cases d with|gF _ a=>exact .gF l ⟨h,a⟩
 |jc=>exact .jc
 |iface t v _ g=>cases d with|iface _ _ a=>exact .iface t v (g a)
 |agg m _ g=>cases d with|agg _ a=>exact .agg m (λi C=>g i C (a i C))
 |eK m _ g=>cases d with|eK _ a=>exact .eK m (λi C=>g i C (a i C))
def pO(D Ta:S->Prop):AO->Prop
 |.dY cs=>∀i (h:i<O cs),iY D Ta cs[i]
 |.map es _=>∀i (h:i<O es),iY D Ta es[i].key/\iY D Ta es[i].val
 |.kQ _ _=>True
 |.b m _ _ _=>∀p,m=Y p->D p
 |.eY=>True
 |.loop _ _ _ F _ _ _ d=>D d/\∀t v,F.dZ (S.ofNat t)=Y v->iY D Ta v
 |.fX=>True
def kR.oq{D Ta:S->Prop}{o:AO}{c:Nat}(h:kR G w X o c)(a:pO D Ta o)(K:∀p c,D p->X.ρ p=Y c->κ'.ρ p=Y c)(y:∀p c,Ta p->X.ρ p=Y c->κ'.ρ p=Y c)(E:∀p c,Ta p->X.τ p=Y c->κ'.τ p=Y c)
  (r:∀c,X.U c<=κ'.U c)(z:∀p c,X.φ p=Y c->κ'.φ p=Y c)(h5:κ'.U c=X.U c):kR G w κ' o c:=by
 cases o with
 |dY cs=>
  let⟨eE,e,fz,f,b,g,g4⟩:=h
  exact⟨eE,e,fz,f,b,g,λi C=>(g4 i C).oq (a i C) K y E r z⟩
 |map es W=>
  let⟨eE,f,b,g⟩:=h
  exact⟨eE,f,b,λi C=>⟨(g i C).1.oq (a i C).1 K y E r z,(g i C).2.1.oq (a i C).2 K y E r z,(g i C).2.2⟩⟩
 |kQ s pos=>exact h
 |b m N seen k=>
  let⟨R,f,b⟩:=h
  refine⟨R,f,?_⟩;cases m<;>cases R<;>simp at b⊢;exact K _ _ (a _ Z) b
 |eY=>
  let⟨u,eE,e,fz,f,b,g⟩:=h
  exact⟨u,eE,e,fz,f,b,h5.trans g⟩
 |loop st pend n F B q Q d=>
  let⟨fn,l,dc,as,bo,f,I,b,gn,g⟩:=h
  refine⟨fn,l,dc,as,bo,f,I,K _ _ a.1 b,gn,λt v j=>?_⟩;obtain⟨x,hx,hr⟩:=g t v j;exact⟨x,hx,hr.oq (a.2 t v j) K y E r z⟩
 |fX=>exact h
def kR.ry{o:AO}{c:Nat}(h:kR G w X o c):pO (λp=>(X.ρ p).isSome=dT) (λp=>(X.ρ p).isSome=dT/\(X.τ p).isSome=dT) o:=by
 cases o with
 |dY Q=>let⟨eE,e,fz,q,b,f,g⟩:=h;exact λi C=>(g i C).ry
 |map U W=>let⟨eE,q,b,f⟩:=h;exact λi C=>⟨(f i C).1.ry,(f i C).2.1.ry⟩
 |kQ s K=>trivial
 |b m r seen j=>
  let⟨I,q,b⟩:=h
  intro p hp;subst hp;cases I with
  |none=>exact b.elim
  |some d=>simp only at b;rw[b];rfl
 |eY=>trivial
 |loop st y n F l k u d=>
  let⟨fn,z,R,N,B,q,D,b,gn,f⟩:=h
  refine⟨by show(X.ρ d).isSome=dT;rw[b];rfl,λt v a=>?_⟩;obtain⟨x,hx,E⟩:=f t v a;exact E.ry
 |fX=>trivial
def A.Pure(v:A):Prop:=∀D Ta,iY D Ta v
def ez.Pure(G:ez):Prop:=(∀g a,G.gX g=Y a->(A.fF a 0).Pure)/\(∀p a,G.fU p=Y a->(A.fF a 0).Pure)
def fJ.only{B:Nat->Prop}(K:fJ B G H w X)(D:S->Prop) [DecidablePred D](r:G.Pure)(a:∀p o,H.ep.dZ p=Y o->D p/\pO D D o){n:S}(E:∀q:S,n.dV<=q.dV->¬D q):
  fJ B G {ep:=H.ep,dX:=n} w (X.only D):=by
 have b:∀p c,D p->X.ρ p=Y c->(X.only D).ρ p=Y c:=by intro p c hp l;simp[Kx.only,hp,l]
 have f:∀p c,D p->X.τ p=Y c->(X.only D).τ p=Y c:=by intro p c hp l;simp[Kx.only,hp,l]
 have d:∀p c,(X.only D).ρ p=Y c->X.ρ p=Y c:=M4;refine⟨K.base,λp o s=>?_,λp q o y c u v j t=>K.inj p q o y c u v (d _ _ j) (d _ _ t),λq x=>?_,λp c hp=>K.room p c (d _ _ hp),K.kS,?_⟩
 .obtain⟨hp,N⟩:=a p o s;obtain⟨c,j,t,m,k,C⟩:=K.obj p o s;exact⟨c,b _ _ hp j,t,m.oq N b b f (λ_=>fQ _) (λ_ _ h=>h) Z,λe=>f _ _ hp (k e),C⟩
 .have:=E q x;refine⟨by simp[Kx.only,this],by simp[Kx.only,this],?_⟩;cases hg:H.ep.dZ q with
  |none=>rfl
  |some o=>exact absurd (a q o hg).1 this
 refine⟨λg i e=>(K.gX.gX g i e).oq (r.1 g i e D D) b b f (λ_=>fQ _) (λ_ _ h=>h),λp i e=>?_,K.gX.inj,K.gX.raw⟩;obtain⟨c,j,t,m,k⟩:=K.gX.fU p i e;exact⟨c,j,t,m,k.oq (r.2 p i e D D) b b f (λ_=>fQ _) (λ_ _ h=>h)⟩
def fJ.dW{B:Nat->Prop}(q:fJ B G H w X){H1 n:eM}(D:S->Prop) [DecidablePred D]
  (R:∀p o,H1.ep.dZ p=Y o->H.ep.dZ p=Y o/\D p)(F:fJ (ku B H X λp=>H1.ep.dZ p=J) G H1 w (X.only D))
  (E:fL (ku B H X λp=>H1.ep.dZ p=J) w (X.only D) w' b)(m:fJ (ku B H X λp=>H1.ep.dZ p=J) G n w' b)(ey:∀p o,H1.ep.dZ p=Y o->n.ep.dZ p=Y o):
  ∃κ',fL B w X w' κ'/\fJ B G H w' κ'/\∀v x,eQ w' b v x->iY (λp=>∃o,H1.ep.dZ p=Y o) (λp=>H1.ep.dZ p=Y .eY) v->eQ w' κ' v x:=by
 have j:∀p c,(X.only D).ρ p=Y c->X.ρ p=Y c:=M4;have g:∀p c,(X.only D).τ p=Y c->X.τ p=Y c:=M4;have y:fL (ku B H X λp=>H1.ep.dZ p=J) w X w' {ρ:=X.ρ,τ:=X.τ,U:=b.U,φ:=b.φ}:=
  Jb
 have W:fL B w X w' {ρ:=X.ρ,τ:=X.τ,U:=b.U,φ:=b.φ}:=y.yi (λc K=>.inl K);have f:∀p c,((X.only D).ρ p).isSome=dT->b.ρ p=Y c->X.ρ p=Y c:=by intro p c r K;obtain⟨d,a⟩:=oW.1 r;have:=E.jM p d a;rw[K]at this;cases this;exact j p _ a
 have i:∀p c,((X.only D).τ p).isSome=dT->b.τ p=Y c->X.τ p=Y c:=by intro p c r K;obtain⟨d,a⟩:=oW.1 r;have:=E.qI p d a;rw[K]at this;cases this;exact g p _ a
 refine⟨{ρ:=X.ρ,τ:=X.τ,U:=b.U,φ:=b.φ},W,⟨λk hk=>m.base k (.inl hk),λp o s=>?_,q.inj,q.fresh,λp c hp=>lw (q.room p c hp) E.below.size,m.kS,q.gX.mono W⟩,λv x hv hw=>?_⟩
 .obtain⟨c,z,t,g3,g4,g5⟩:=q.obj p o s;cases hg:H1.ep.dZ p with
  |none=>have hid:ku B H X (λp=>H1.ep.dZ p=J) c:=.inr ⟨p,o,hg,s,z⟩;have Q:=y.rj c hid;exact⟨c,z,t,g3.mono y (y.below.block c hid) (λ_=>Q),λe=>by rw[Q];exact g4 e,λe=>by rw[Q];exact g5 e⟩
  |some o1=>
  obtain⟨s1,s2⟩:=R p o1 hg;rw[s]at s1;cases s1;obtain⟨N,k1,k2,k3,k4,k5⟩:=m.obj p o (ey p o hg);obtain⟨l,C,l2,l3,I,l5⟩:=F.obj p o hg;obtain rfl:l=c:=by have:=j p l C;rw[z]at this;cases this;rfl
  obtain rfl:N=l:=by have:=E.jM p l C;rw[k1]at this;cases this;rfl
  refine⟨N,z,t,k3.oq l3.ry f (λp c h=>f p c h.1) (λp c h=>i p c h.2) (λ_=>fQ _) (λ_ _ h=>h) Z,λe=>?_,λe=>k5 e⟩;have t1:=E.qI p _ (I e);have t2:=k4 e;rw[t1]at t2;have t3:X.τ p=Y ((X.only D).U N):=g _ _ (I e);exact t3.trans t2
 refine hv.oq hw (λp c hp K=>?_) (λp c hp K=>?_) (λp c hp K=>?_) (λ_=>fQ _) (λ_ _ h=>h)
 .let⟨o,s⟩:=hp
  obtain⟨l,C,_⟩:=F.obj p o s;exact f p c (by rw[C];rfl) K
 .obtain⟨l,C,_⟩:=F.obj p _ hp;exact f p c (by rw[C];rfl) K
 obtain⟨l,C,_,_,I,_⟩:=F.obj p _ hp;exact i p c (by rw[I Z];rfl) K
end
