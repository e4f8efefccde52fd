/- Short names of lemmas, and short scripts. No condition. -/
import Derived.KernelRfl
import GoSem.Core.Code
import Derived.Laws.World
import Derived.Laws.Sem
set_option linter.all false
set_option autoImplicit true
set_option relaxedAutoImplicit true
set_option maxHeartbeats 0
set_option maxRecDepth 100000
noncomputable section
open Option renaming some→Y,none→J
open Bool renaming true→dT,false→dU
open List renaming length→O
theorem Z{α:Sort u}{a:α}:a=a:=rfl
abbrev L:=@List
abbrev gO:=@if_pos
abbrev gj:=@if_neg
abbrev fW:=@congrArg
abbrev fQ:=@Nat.le_refl
abbrev ny:=@Nat.le_trans
abbrev lw:=@Nat.lt_of_lt_of_le
abbrev eR:=@trivial
abbrev gu:=@Option.some.inj
abbrev kG:=@Nat.lt_or_ge
abbrev pF:=@Array.getElem?_eq_none
abbrev xN:=@Nat.eq_zero_or_pos
abbrev th:=@dif_pos
abbrev fS:=@Option.bind_eq_some_iff
abbrev gA:=@Option.map_eq_some_iff
abbrev oW:=@Option.isSome_iff_exists
abbrev sg:=@Array.getElem?_eq_getElem
abbrev iZ:=@Nat.eq_of_beq_eq_true
abbrev gb:=@Go.Sem.run_bind
abbrev iV:=@Go.Result.andThen_ok
abbrev EI:=@List.drop_eq_getElem_cons
abbrev jR:=@Go.Sem.run_pure
abbrev oH:=@if_true
abbrev oY:=@List.getElem?_eq_some_iff
abbrev Ci:=@Array.getElem?_modify
abbrev lV:=@List.length_cons
abbrev oG:=@List.take_of_length_le
abbrev uz:=@List.nil_append
abbrev np:=@List.append_assoc
abbrev MK:=@List.singleton_append
abbrev eZ:=@List.mem_cons
abbrev zQ:=@Nat.le_of_ble_eq_true
abbrev zu:=@Nat.add_zero
abbrev uw:=@List.length_take
abbrev iN:=@List.length_append
abbrev tu:=@Array.length_toList
abbrev xH:=@Int.ofNat_eq_natCast
abbrev wi:=@Bool.eq_iff_iff
abbrev oh:=@decide_eq_true_eq
abbrev wm:=@not_false_eq_true
abbrev j0:=@of_decide_eq_true
abbrev jx:=@cond_false
abbrev Eo:=@of_decide_eq_false
abbrev r7:=@if_false
abbrev jL:=@List.map_cons
abbrev jH:=@List.length_map
abbrev oj:=@List.map_append
abbrev gZ:=@cond_true
abbrev mK:=@Nat.add_mul
abbrev rW:=@List.cons_append
abbrev If:=@List.getElem?_take
abbrev Em:=@List.getElem?_drop
abbrev wj:=@Array.ext'
abbrev xO:=@Bool.false_eq_true
abbrev lg:=@Nat.zero_add
abbrev ND:=@Array.toList_map
abbrev HO:=@Array.toArray_toList
abbrev wf:=@List.getElem_cons_zero
abbrev NC:=@List.replicate_succ
abbrev nK:=@List.flatten_cons
abbrev xt:=@List.getElem?_append_left
abbrev Ey:=@Nat.mod_eq_of_lt
abbrev Ca:=@List.getElem?_append_right
abbrev zN:=@Nat.succ_mul
abbrev Ie:=@List.getElem?_eq_none
abbrev jC:=@Bool.and_eq_true
abbrev oZ:=@Option.some.injEq
abbrev wh:=@Prod.mk.injEq
abbrev wg:=@Nat.add_assoc
abbrev pz:=@List.getElem?_map
abbrev qx:=@Array.getElem?_toList
abbrev oE:=@Nat.zero_le
abbrev nL:=@Nat.mul_le_mul_right
abbrev oI:=@List.length_drop
abbrev zA:=@Nat.sub_mul
abbrev Cb:=@Option.isSome_none
abbrev Is:=@Nat.sub_le_sub_right
abbrev uI:=@decide_true
abbrev jb:=@Option.map_some
abbrev sc:=@decide_eq_true
abbrev Ac:=@decide_eq_false
abbrev pG:=@List.eq_nil_of_length_eq_zero
abbrev zG:=@Array.getElem?_setIfInBounds
abbrev Nz:=@List.getElem_cons_succ
abbrev uH:=@List.length_nil
abbrev uE:=@List.getElem_append_left
abbrev jq:=@List.getElem?_eq_getElem
abbrev BW:=@List.mem_filter
abbrev gS:=@List.mem_map
abbrev fB:=@List.getElem_mem
abbrev jm:=@Option.bind_some
abbrev mM:=@List.getElem_map
abbrev rd:=@Option.getD_some
abbrev Ab:=@List.getElem_append_right
abbrev qH:=@List.map_nil
abbrev ti:=@List.cons.injEq
abbrev MI:=@Array.getElem?_append_left
abbrev jS:=@Nat.ble_eq
abbrev pB:=@Bool.eq_false_iff
abbrev nr:=@Nat.beq_eq
abbrev En:=@List.drop_zero
abbrev lf:=@List.all_eq_true
abbrev qG:=@Bool.and_self
abbrev qA:=@Nat.beq_refl
abbrev jf:=@List.mem_append
abbrev xv:=@Nat.testBit_or
abbrev ux:=@Bool.or_eq_true
abbrev Cr:=@Bool.not_eq_true'
abbrev NB:=@Nat.testBit_two_pow_sub_one
abbrev Ny:=@List.mem_zipIdx_iff_getElem?
abbrev mO:=@Ne.symm
abbrev xT:=@Array.getD_eq_getD_getElem?
abbrev HU:=@List.set_cons_succ
abbrev km:=@List.getElem_of_mem
abbrev xU:=@List.map_map
abbrev Cn:=@List.map_id
abbrev mw:=@List.mem_cons_self
abbrev mL:=@List.mem_cons_of_mem
abbrev CD:=@List.any_eq_true
abbrev Iy:=@List.any_eq_false
abbrev Cp:=@List.mem_singleton
abbrev pA:=@and_true
abbrev f7:=@List.not_mem_nil
abbrev fZ:=@or_false
abbrev lE:=@List.mem_flatten
abbrev zF:=@List.mem_map_of_mem
abbrev EH:=@List.getElem?_cons_zero
abbrev EB:=@List.getElem?_cons_succ
abbrev BZ:=@Nat.sub_self
abbrev MS:=@Nat.eq_of_mul_eq_mul_right
abbrev qE:=@List.flatten_append
abbrev zW:=@List.flatten_nil
abbrev oi:=@List.append_nil
abbrev kO:=@Nat.mul_one
abbrev B1:=@List.nodup_append
abbrev pE:=@List.nodup_nil
abbrev gI:=@And.intro
abbrev gK:=@Eq.refl
abbrev xM:=@Classical.axiomOfChoice
abbrev ER:=@List.map_congr_left
abbrev zR:=@List.take_succ_eq_append_getElem
abbrev EL:=@List.take_append_drop
abbrev HV:=@List.mem_of_mem_take
abbrev Ch:=@List.eq_of_mem_replicate
abbrev qB:=@List.nodup_cons
abbrev xu:=@List.length_set
abbrev Eu:=@List.getElem_set_self
abbrev EQ:=@List.getElem_set_ne
abbrev zq:=@List.mem_or_eq_of_mem_set
abbrev BX:=@List.mem_of_getElem?
abbrev xA:=@List.getElem?_set
abbrev IF:=@BitVec.ofInt_natCast
abbrev IZ:=@BitVec.toNat_ofNat
abbrev Cv:=@List.ext_getElem
abbrev zC:=@List.drop_of_length_le
abbrev rh:=@Classical.choose_spec
abbrev oX:=@List.mem_flatMap
abbrev Ij:=@List.pairwise_flatMap
abbrev H8:=@List.Pairwise.imp_of_mem
abbrev jK:=@Nat.succ_ne_zero
abbrev rY:=@Go.World.cell?_alloc_lt
abbrev xy:=@Go.World.frozen?_alloc_old
structure Bx_(q:Sort u)where
 k:q
variable{p:Prop}{q:Sort _}
def TV(h:p:=by
 exact⟨Z,.iC [(.h,.dY AN),(.o .h,.dY [V k,.int .i64 b,V r,.int .i64 e0,.int .i64 e1,.int .i64 e2]),(.i .h,.map FR 2),(.o (.o .h),.b (Y (.i .h)) 2 _ 2)] _
  ⟨j - 1,by have:=F;simp at this;omega,_,by simp,by simp_all,by simp_all,by have:=F;simp at this;simp;omega,Z,Z⟩ ⟨.ey _ j5,.L (eV Z) Z,.ey _ j5,.L (eV Z) Z,eR⟩
  ⟨⟨eV Z,fH Z (jB (by simp[AN,iQ]))⟩,rX,⟨eV Z,fH Z Y0⟩,⟨eV Z,fH Z (.b (Y (.i .h)) 2 _ 2 (λp e=>by cases e;exact eV Z))⟩,eR⟩⟩):p:=h
def Vd(h:p:=by
 conv=>whnf
 refine fK.j7 (C.fs.h 34) (wK ?_);refine hX λm5 n5 em5 en5=>wK ?_;refine eT.range C.ey Z (C.fs.h 96) Z λas bo has hbo=>?_;refine Bp (wK ?_);intro n6 n7 m6 R en6 en7 em6 em7;have t5:n5.dV=n4.dV+1:=by rw[en5,S.gG]
 refine zX λt6=>?_;have t7:n7.dV=n6.dV+1:=by rw[en7,S.gG]
 have s7:∀q:S,q.dV<n4.dV->R.dZ q=m4.dZ q:=λq t=>by rw[em7,eJ (by omega),em6,eJ (by omega),em5,eJ (by omega)]
 have b7:eX R n7:=by rw[em7,em6,em5,en7,en6,en5];exact B.eH.ew.ew.ew
 have at7:k.B K Sa.fv R n7:=B.eV s (λq t=>s7 q M) b7;have I7:=tk.keep _ _ _ R n7 I4 (.of (λq t=>s7 q M) λq t=>by rw[s7 q (B.eH _ _ t)];exact t) at7 M;have h27:R.dZ b2=some (.dY [.ea k.x 0]):=by rw[s7 _ (by omega)];exact h24
 have h37:R.dZ b=some (.dY [.gF l]):=by rw[s7 _ (by omega)];exact h34
 have hD7:∀d∈D,b.dV<=d.dV/\R.dZ d=some .fX:=λd a=>⟨(hD4 d a).1,by have h:=(hD4 d a).2;rw[s7 _ (B.eH _ _ h)];exact h⟩
 have gd7:R.dZ n5=some .fX:=by rw[em7,eJ (by omega),em6];exact fY
 have gl:=gE em7;have gw:R.dZ n4=some (.dY [.fz fs[i] 0]):=by rw[em7,eJ (by omega),em6,eJ (by omega),em5];exact fY
 have hDn7:([n5]++D).Nodup:=by rw[MK,qB];exact⟨λa=>by have:=B.eH _ _ (hD4 _ a).2;omega,hDn⟩
 generalize hRR:(fs.drop (i+1)).flatMap (fE G)=RR at*;refine fK.j7 (C.fs.h 96) (wK ?_);refine eu gw ?_;have rnd:∀q rest m nx,JW K W v Sa.fv k RR I b n7 b2 R (q::rest) ⟨m,nx⟩->jy P G true n6 [.fz q 0] ⟨m,nx⟩ λr H'=>(r=.bool true/\JW K W v Sa.fv k RR I b n7 b2 R rest H')\/(r=.bool false/\EW K Sa.fv k E b n5 n6 n7 R as bo H'):=by
  rintro q rest ma na ⟨hops,Ia,c,lna,y,hba⟩;dsimp only at Ia c lna y hba;have n:=y _ _ M M ei gl;have hwq:=hops q (mw ..);refine jy.body C.ey has hbo n Z Z (wK ?_);rw[n];refine gH λmb emb=>wK ?_;have n6a:=c.eH _ _ n;have bb:eX mb na:=by rw[emb];exact c.eH.put n6a
  have sb:∀q:S,q≠n6->mb.dZ q=ma.dZ q:=λq t=>by rw[emb,T.gh _ _ _ _ t]
  have u:∀q:S,q.dV<b.dV->q≠n6:=λq t e=>by rw[e]at t;omega
  have atb:k.B K Sa.fv mb na:=c.eV s (λq t=>sb q (u q t)) bb;have Ib:=tk.keep _ _ _ mb na Ia (.Bs sb M n ei) atb M;have h2b:mb.dZ b2=some (.dY [.ea k.x 0]):=by rw[sb _ (u _ l2)];exact hba
  have glb:=gE emb;have hob:∀(q:S) o,b.dV<=q.dV->q.dV<n7.dV->q≠n6->o≠.eY->R.dZ q=some o->mb.dZ q=some o:=λq o h1 H h3 ht N=>by rw[sb q h3];exact y q o h1 H ht N
  refine eu h2b ?_;obtain⟨hev,hec⟩:=hv _ hwq;obtain⟨Hc,stc,hcc⟩:=hec mb na atb;refine fK.one _ _ ?_ hcc
  let⟨mc,nc⟩:=Hc
  have atc:k.B K Sa.fv mc nc:=stc.ju;have kpc:Kp k.mp mb mc:=stc.kp;have lnc:na.dV<=nc.dV:=stc.le;have Ic:=tk.keep _ _ _ mc nc Ib (.kp kpc) atc M;have h2c:=kpc _ _ hXm h2b;have glc:=kpc _ _ (nmp n6 M) glb;have hoc:∀(q:S) o,b.dV<=q.dV->q.dV<n7.dV->q≠n6->o≠.eY->R.dZ q=some o->mc.dZ q=some o:=λq o h1 H h3 ht N=>kpc _ _ (nmp q h1) (hob q o h1 H h3 ht N);have h3c:=hoc b _ M M mi ei h37;have hops':∀q∈rest,W q:=λq t=>hops q (mL _ t);rw[rW]at Ic;rcases hev with hn|⟨e,_,hn⟩
  .rw[hn];rw[Q3 hn]at Ic;conv=>whnf
   rw[glc];refine gH λU w=>wK ?_;have be:eX U nc:=by rw[w];exact atc.eH.put (atc.eH _ _ glc)
   have se:∀q:S,q≠n6->U.dZ q=mc.dZ q:=λq t=>by rw[w,T.gh _ _ _ _ t]
   have ate:k.B K Sa.fv U nc:=atc.eV s (λq t=>se q (u q t)) be;refine .inl ⟨Z,hops',tk.keep _ _ _ U nc Ic (.Bs se M glc ei) ate M,ate,(by show n7.dV<=nc.dV;omega),λq o h1 H ht N=>?_,by show U.dZ b2= _;rw[se _ (u _ l2)];exact h2c⟩;show U.dZ q=some o;by_cases e:q=n6
   .subst e;rw[gl]at N;cases N;rw[w];exact fY
   rw[se q e];exact hoc q o h1 H e ht N
  rw[Q4 hn,hn]at Ic;rw[hn];conv=>whnf
  refine eu h3c ?_;refine jy.mono (tk.round _ _ _ _ Ic atc M) ?_;rintro r ⟨md,nd⟩ ⟨hb,atd,lnd,hod⟩;dsimp only at hb atd lnd hod;have h2d:=hod _ _ hX2 ei h2c;have gld:=hod _ _ (nX n6 M) ei glc;have hodd:∀(q:S) o,b.dV<=q.dV->q.dV<n7.dV->q≠n6->o≠.eY->R.dZ q=some o->md.dZ q=some o:=λq o h1 H h3 ht N=>hod _ _ (nX q h1) ht (hoc q o h1 H h3 ht N);rcases hb with⟨rfl,Id⟩|⟨rfl,hE⟩
  .conv=>whnf
   rw[gld];refine gH λU w=>wK ?_;have be:eX U nd:=by rw[w];exact atd.eH.put (atd.eH _ _ gld)
   have se:∀q:S,q≠n6->U.dZ q=md.dZ q:=λq t=>by rw[w,T.gh _ _ _ _ t]
   have ate:k.B K Sa.fv U nd:=atd.eV s (λq t=>se q (u q t)) be;refine .inl ⟨Z,hops',tk.keep _ _ _ U nd Id (.Bs se M gld ei) ate M,ate,(by show n7.dV<=nd.dV;omega),λq o h1 H ht N=>?_,by show U.dZ b2= _;rw[se _ (u _ l2)];exact h2d⟩;show U.dZ q=some o;by_cases e:q=n6
   .subst e;rw[gl]at N;cases N;rw[w];exact fY
   rw[se q e];exact hodd q o h1 H e ht N
  conv=>whnf
  rw[gld];refine gH λU w=>wK ?_;have be:eX U nd:=by rw[w];exact atd.eH.put (atd.eH _ _ gld)
  have se:∀q:S,q≠n6->U.dZ q=md.dZ q:=λq t=>by rw[w,T.gh _ _ _ _ t]
  have ate:k.B K Sa.fv U nd:=atd.eV s (λq t=>se q (u q t)) be;refine .inr ⟨Z,⟨_,_,_,(fW (T.dZ n6) w).trans fY⟩,tk.Bt _ _ U nd hE (.Bs se M gld ei) ate M,ate,(by show n7.dV<=nd.dV;omega),λq o h1 H ht N=>?_⟩;show U.dZ q=some o;have e:q≠n6:=λe=>by rw[e]at H;omega
  rw[se q e];exact hodd q o h1 M e ht N
 refine fK.mono (acJ C g (J:=JW K W v Sa.fv k RR I b n7 b2 R) (E:=EW K Sa.fv k E b n5 n6 n7 R as bo) rnd (LB+1) (rest:=[]) hK M ⟨by rw[oi];exact λq t=>hW _ (fB h') q (mL _ t),by rw[oi];exact I7,at7,fQ _,λq o _ _ _ h=>h,h27⟩) ?_;rintro r ⟨ma,na⟩ (⟨rfl,_,Ia,c,lna,y,hba⟩|⟨rfl,⟨nn,F2,ps,n⟩,hEa,c,lna,y⟩)
 .dsimp only at Ia c lna y hba;have n:=y _ _ M M ei gl;have n6a:=c.eH _ _ n;conv=>whnf
  rw[n];refine uA ?_;obtain⟨mz,emz⟩:∃mz,mz=ma.set n6 none:=⟨_,Z⟩;rw[<-emz];have sz:∀q:S,q≠n6->mz.dZ q=ma.dZ q:=λq t=>by rw[emz,T.gh _ _ _ _ t]
  have u:∀q:S,q.dV<b.dV->q≠n6:=λq t e=>by rw[e]at t;omega
  have F:k.B K Sa.fv mz na:=c.eV s (λq t=>sz q (u q t)) (by rw[emz];exact c.eH.put n6a);have Iz:=tk.keep _ _ _ mz na Ia (.Bs sz M n ei) F M;have old:∀(q:S) o,b.dV<=q.dV->q.dV<n6.dV->o≠.eY->R.dZ q=some o->mz.dZ q=some o:=λq o h1 H ht N=>by rw[sz q (λe=>by rw[e]at H;omega)];exact y q o h1 M ht N
  conv=>whnf
  rw[je (by rw[iM]at h;omega)];refine⟨j - 1,by omega,i+1,by omega,by rw[hRR];exact Iz,F,(by show n1.dV<=na.dV;omega),λd a=>?_,hDn7,by rw[sz _ (u _ l2)];exact hba,old _ _ M M ei h37,Z⟩;exact Va
 dsimp only at hEa c lna y n;have n6a:=c.eH _ _ n;conv=>whnf
 rw[n];refine uA ?_;obtain⟨mE,emz⟩:∃mE,mE=ma.set n6 none:=⟨_,Z⟩;rw[<-emz];have sz:∀q:S,q≠n6->mE.dZ q=ma.dZ q:=λq t=>by rw[emz,T.gh _ _ _ _ t]
 have u:∀q:S,q.dV<b.dV->q≠n6:=λq t e=>by rw[e]at t;omega
 have atE:k.B K Sa.fv mE na:=c.eV s (λq t=>sz q (u q t)) (by rw[emz];exact c.eH.put n6a);have hE:=tk.Bt _ _ mE na hEa (.Bs sz M n ei) atE M;have old:∀(q:S) o,b.dV<=q.dV->q.dV<n6.dV->o≠.eY->R.dZ q=some o->mE.dZ q=some o:=λq o h1 H ht N=>by rw[sz q (λe=>by rw[e]at H;omega)];exact y q o h1 H ht N
 have DD:∀d∈[n5]++D,b.dV<=d.dV/\mE.dZ d=some .fX:=λd a=>by exact Va
 obtain⟨nE,enE⟩:∃nE,nE=na:=⟨_,Z⟩;rw[<-enE]at hE atE;rw[<-enE];have lnE:b.dV<=nE.dV:=by rw[enE];omega
 conv=>whnf
 refine GP (λd a=>(DD d a).2) hDn7 λmz z hz2=>wK ?_;have sz:∀q:S,q.dV<b.dV->mz.dZ q=mE.dZ q:=λq t=>z q λa=>by have:=(DD q a).1;omega
 have F:k.B K Sa.fv mz nE:=atE.eV s sz λq o t=>by
  by_cases a:q∈[n5]++D
  .rw[hz2 q a]at t;cases t
  rw[z q a]at t;exact atE.eH _ _ t
 exact UD):p:=h
def IB(h:p:=by
 conv=>whnf
 refine hX λm7 n7 em7 en7=>wK ?_;have lt7:=lS en7;have G7:=Q.ew em7 en7;have g14:=gE em7;refine mF g14 ?_;refine gH λm8 em8=>wK ?_;have hlB:=Q.le;have G8:=G7.put M ju.eH lt7 em8;have b2:=Q.eH _ _ g2B;have b3:=Q.eH _ _ R;have b5:=Q.eH _ _ g5B;have b11:=Q.eH _ _ w;have h8:∀q o,U.dZ q=Y o->m8.dZ q=Y o:=λq o hq=>by have:=Q.eH q o hq;rw[em8,eJ (by omega),em7,eJ (by omega)];exact hq
 have g14:=gE em8;refine eu (h8 _ _ R) ?_;refine fK.j7 (C.fs.h 91) (wK ?_);refine hX λm9 n9 em9 en9=>wK ?_;have lt9:=lS en9;have G9:=G8.ew em9 en9;have h9:∀q o,m8.dZ q=Y o->m9.dZ q=Y o:=λq o hq=>by have:=G8.eH q o hq;rw[em9,eJ (by omega)];exact hq
 have gc:=gE em9;refine eT.frame (live:=[T2,T3,T5,T9,T10,T11,T14,T101]) Z ?_;have fin:=acD C g Sa ok sh hK (e1:=e1) (e2:=e2) hts hfb hus hvb hbE Z hbS ju G9 (⟨h9 _ _ (h8 _ _ g2B),h9 _ _ (h8 _ _ R),h9 _ _ (h8 _ _ g5B),h9 _ _ (h8 _ _ w)⟩:Bq k p [y0,y1,y2,y3,y4,y5,y6] I j N nx n1 n2 n3 m9) (h9 _ _ g14) gc M M M M M ⟨λe=>by rw[e]at E;omega,λe=>by rw[e]at E;omega,λe=>by rw[e]at E;omega,λe=>by rw[e]at E;omega,λe=>by rw[e]at lt7;omega⟩;rw[<-hv]at fin;exact fin):p:=h
def UL(h:p:=by
 refine Cq ?_;rintro j w m ⟨seen,d,g,l,F,rfl,rfl⟩;rcases d with rfl|rfl|rfl|rfl|rfl
 .exact HR
 .exact Et
 .exact Ex
 .exact SF
 exact SF):p:=h
def zP(h:p:=by
 conv=>whnf
 refine AW ?_;refine ee.c f2 ?_;exact⟨Z,.iC [(.h,.dY [.int .i32 (.ofNat 0),.int .i32 (.ofNat 0),.J []]),(.o .h,.map kD 3),(.i .h,.b (Y (.o .h)) 3 (seen++[2]) 3)] _
  ⟨_,by rw[<-z];exact Km (mL _ (mL _ (mw ..))) K,seen++[2],λh=>g CC,λh=>k CC,λ_=>p2,Z,Z,Z⟩ Mu
  ⟨⟨eV Z,fH Z (jB zL)⟩,⟨eV Z,fH Z Ko⟩,⟨eV Z,fH Z (.b (Y (.o .h)) 3 _ 3 (λp e=>by cases e;exact eV Z))⟩,eR⟩⟩):p:=h
def zE(h:p:=by
 conv=>whnf
 refine AW ?_;refine ee.c f1 ?_;exact⟨Z,.iC [(.h,.dY [.int .i32 (.ofNat 0),.int .i32 (.ofNat 0),.J []]),(.o .h,.map kD 3),(.i .h,.b (Y (.o .h)) 3 (seen++[1]) 3)] _
  ⟨_,by rw[<-z];exact Km (mL _ (mw ..)) K,seen++[1],λh=>g CC,λ_=>p1,λh=>r CC,Z,Z,Z⟩ Mu
  ⟨⟨eV Z,fH Z (jB zL)⟩,⟨eV Z,fH Z Ko⟩,⟨eV Z,fH Z (.b (Y (.o .h)) 3 _ 3 (λp e=>by cases e;exact eV Z))⟩,eR⟩⟩):p:=h
def zD(h:p:=by
 conv=>whnf
 refine AW ?_;refine ee.c f0 ?_;exact⟨Z,.iC [(.h,.dY [.int .i32 (.ofNat 0),.int .i32 (.ofNat 0),.J []]),(.o .h,.map kD 3),(.i .h,.b (Y (.o .h)) 3 (seen++[0]) 3)] _
  ⟨_,by rw[<-z];exact Km (mw ..) K,seen++[0],λ_=>p0,λh=>k CC,λh=>r CC,Z,Z,Z⟩ Mu
  ⟨⟨eV Z,fH Z (jB zL)⟩,⟨eV Z,fH Z Ko⟩,⟨eV Z,fH Z (.b (Y (.o .h)) 3 _ 3 (λp e=>by cases e;exact eV Z))⟩,eR⟩⟩):p:=h
def Mt(h:p:=by
 have hv1:=hv.1;have hvp:v.Pure:=hv.dW hp;refine gT λhM=>?_;refine ee.fj hF C.dW (jA hvp (CY ei ei)) (wK ?_);refine eT.pd (λj vs=>∃k,1<=k/\k+j=O xs+1/\vs=[v,.func (.func key) [] [],V k]) (O xs) Z ⟨1,by omega,by omega,Z⟩ ?_;rintro j vs ⟨k,og,hk,rfl⟩;conv=>whnf
 refine fM hv1 ?_;refine eW (λh=>?_) (λh=>?_)
 .replace h:=gz h;obtain⟨s1,f1⟩:=hkey _ (fB (show k - 1<O xs by omega));obtain⟨s2,f2⟩:=hkey _ (fB h);conv=>whnf
  refine gC ?_;refine sK (kL (j:=k - 1) Z hv1 Z (qf M M) M) ?_;refine sK (lN (j:=k - 1) Z hv.2 M) ?_;refine gW hv1 h ?_;refine sK HP ?_;refine ee.c f1 ?_;repeat'(first|refine⟨Z,wK ?_⟩|refine bK (λ_=>?_) λ_=>?_)
  refine sK HP ?_;exact Vf
 conv=>whnf
 exact lX):p:=h
def MJ(h:p:=by
 conv=>whnf
 let⟨t5,hap5,htg5⟩:=G5.ap
 refine sK (hap5.len Z) ?_;refine eT.jl (λj vs H w=>∃k:Nat,k+j=O d/\I k H w/\(∀q r,m5.dZ q=Y (.dY r)->nx.dV<=q.dV->H.dZ q=Y (.dY r))/\vs=[.gF l,v5,V (O d),V k]) (O d) Z ⟨0,by omega,hkeep _ _ G5.old G5.eH G5.le,λ_ _ h _=>h,Z⟩ ?_;rintro j6 vs m6 n6 ⟨k6,hk6,hI6,hold6,rfl⟩;conv=>whnf
 refine eW (λh6=>?_) (λh6=>?_)
 .replace h6:=gz h6;obtain⟨a6,ha6,hb6⟩:=hap5.dZ (G:=G) h6;obtain⟨m7,n7,hI7,hold7,hr7⟩:=round k6 (by rw[<-y];exact h6) m6 n6 hI6;simp only[<-y]at hr7;conv=>whnf
  refine sK (ha6 _ _ _ _ _ Z Z) ?_;refine sK (hb6 _ _ _ _ (λq r e hq=>hold6 q r hq (htg5 q e)) Z) ?_;refine jy.mono hr7 λr H' e=>?_;obtain⟨rfl,rfl⟩:=e;conv=>whnf
  rw[je (by unfold kr at f;rw[<-y]at f;omega)];exact⟨Z,j6 - 1,by omega,k6+1,by omega,hI7,λq r hq hn=>hold7 q r (hold6 q r hq hn) hn,Z⟩
 replace h6:=iK h6;conv=>whnf
 exact hend _ _ (by rw[<-y,show O d=k6 by omega];exact hI6)):p:=h
def Wo(h:p:=by
 have hb:E+d<=O D:=by omega
 refine eT.jz C.dW (.o (.o .h)) (λj2 w m=>∃t,t+j2=d/\w=[.ea .h 0,v,V (E+t),.ea (.i .h) 0,n,V (O l),V k,V d,V t]/\m=hp [(.h,.dY [n,.map (.o .h)]),(.o .h,.map H c),(.i .h,.dY [.int .i32 so,.int .i32 va,.J cl])]) d Z ⟨0,by omega,Z,Z⟩ Z ei Z ?_;rintro j2 w m ⟨t,ht,rfl,rfl⟩;conv=>whnf
 refine eW (λh2=>?_) (λh2=>?_)
 .replace h2:=gz h2;have e:E+t<O D:=by omega
  obtain⟨s,U,W⟩:=hs _ (fB e);obtain⟨bf,N⟩:=aaj (c:=c) C g hes so va cl Q s W;conv=>whnf
  refine gC ?_;refine gW hv e ?_;refine fH (oA Z e) ?_;rw[U];conv=>whnf
  refine fK.yJ (p:=.h) (q:=.o .h) C.dW gP Z Z g hes.dW hes.dW (jA hpa j5) iz N ?_;cases bf
  .conv=>whnf
   repeat'(first|refine⟨Z,wK ?_⟩|refine bK (λ_=>?_) λ_=>?_)
   refine fM hv ?_;exact Mr
  conv=>whnf
  repeat'(first|refine⟨Z,wK ?_⟩|refine bK (λ_=>?_) λ_=>?_)
  rw[je (by omega),je (by omega)];exact .iC [(.h,.dY [n,.map (.o .h)]),(.o .h,.map H c),(.i .h,.dY [.int .i32 so,.int .i32 va,.J cl])] _ ⟨j2 - 1,by omega,t+1,by omega,Z,Z⟩
   ⟨.L (eV Z) Z,.ey _ K,.ey _ fI,.L (eV Z) Z,.ey _ g,.ey _ fI,.ey _ fI,.ey _ fI,.ey _ fI,eR⟩
   ⟨V4,M2,⟨eV Z,fH Z (jB I)⟩,eR⟩
 refine zO λh2=>?_;refine iu ?_;exact⟨Z,.iC (sX n H c) _ ⟨j - 1,by omega,k+1,E+t,by omega,by omega,(λe=>by have:=x e;rw[<-this];congr 1;omega),Z,Z⟩ ⟨.L (eV Z) Z,.ey _ K,.ey _ fI,.ey _ g,.ey _ fI,.ey _ fI,eR⟩
  ⟨V4,M2,eR⟩⟩):p:=h
def V3(h:p:=by
 replace h2:=gz h2;have h':k<O xs:=by omega
 obtain⟨hs,ha⟩:=hx k h2 h';have e1:=KU h';have e2:=KV xs (k+1);conv=>whnf
 refine gW hv h2 ?_;refine sK (jO Z (v:=vs[k]) (by rw[kO];simp[part,h2])) ?_;have e3:(xs.take k).flatten++xs[k]++List.replicate (ij xs - ij (xs.take (k+1))) (.J [])=(xs.take (k+1)).flatten++List.replicate (ij xs - ij (xs.take (k+1))) (.J []):=by rw[KW h']
 by_cases hz2:xs[k].length=0
 .have hz3:xs[k]=[]:=pG hz2;rw[hz3]at hs;refine sK (KT Z (.inr ⟨_,_,_,_,Z⟩) Z hs) ?_;refine iu ?_;have e4:ij (xs.take (k+1))=ij (xs.take k):=by omega
  have e5:(xs.take (k+1)).flatten=(xs.take k).flatten:=by rw[KW h',hz3,oi]
  exact⟨Z,.iC [(.h,.dY ((xs.take k).flatten++List.replicate (ij xs - ij (xs.take k)) (.J [])))] [.eC .h 1 0 (ij (xs.take k)) (ij xs) dU,v,V (O vs),V (k+1)] ⟨j - 1,by omega,k+1,by omega,by rw[e4],by rw[e4,e5]⟩ Ix ⟨⟨eV Z,fH Z (jB (hpr _ _))⟩,eR⟩⟩
 have e6:(hp [(.h,.dY ((xs.take k).flatten++List.replicate (ij xs - ij (xs.take k)) (.J [])))]:T AO).dZ .h=Y (.dY ((xs.take k).flatten++List.replicate xs[k].length (.J [])++List.replicate (ij xs - ij (xs.take (k+1))) (.J []))):=by show Y _ =Y _;rw[np,List.replicate_append_replicate,show xs[k].length+(ij xs - ij (xs.take (k+1)))=ij xs - ij (xs.take k) by omega]
 refine sK (Qq (old:=(xs.take k).flatten) (cs:=List.replicate xs[k].length (.J [])) (rest:=List.replicate (ij xs - ij (xs.take (k+1))) (.J [])) Z e6 (by rw[Bd];simp) ei Z hs ha M M) ?_;refine iu ?_;rw[e3,<-e1];exact⟨Z,.iC [(.h,.dY ((xs.take (k+1)).flatten++List.replicate (ij xs - ij (xs.take (k+1))) (.J [])))] _ ⟨j - 1,by omega,k+1,by omega,Z,Z⟩ Ix ⟨⟨eV Z,fH Z (jB (hpr _ _))⟩,eR⟩⟩):p:=h
def MG(h:p:=by
 refine eL.lM hI (wK ?_);refine fM hv.1 ?_;refine eT.pd (λj vs=>∃k,k+j=O xs/\(∀i (h:i<O xs),i<k->q (.agg xs[i])=dU)/\vs=[v,.func (.func f) first caps,V (O xs),V k]) (O xs) Z ⟨0,by omega,λi _ h=>by omega,Z⟩ ?_;rintro j vs ⟨k,hk,hall,rfl⟩;conv=>whnf
 refine eW (λh=>?_) (λh=>?_)
 .replace h:=gz h;conv=>whnf
  refine gW hv.1 h ?_;refine sK HP ?_;refine fK.eq (hq _ (fB h)) ?_;cases hb:q (.agg xs[k])with
  |true=>
   conv=>whnf
   exact⟨Z,.inr ⟨CD.2 ⟨_,fB h,hb⟩,_,Z⟩⟩
  |false=>exact UX
 exact MM):p:=h
def zM(h:p:=by
 generalize hrun:(callFunc f cargs).run P w=x at hcall⊢;cases x with
 |halt=>exact hcall.elim
 |ok nx w'=>
 cases nx<;>try exact hcall.elim
 .exact fin _ _ hcall
 exact CallsIn.mono hcall λe w'' he=>by cases e<;>first|exact he|exact fin _ _ he):p:=h
def TD(h:p:=by
 repeat'(first|refine fD e0 ?_|refine fD e1 ?_|refine sK Cl ?_|refine sK (kL (j:=0) Z q2 Z Z IP) ?_|refine⟨Z,wK ?_⟩|fail)
 refine ee.c f1 ?_;repeat'(first|refine fD e0 ?_|refine fD e1 ?_|refine sK Cl ?_|refine sK (kL (j:=0) Z q2 Z Z IP) ?_|refine⟨Z,wK ?_⟩|fail)
 refine ee.c f2 ?_;exact So):p:=h
def Vp(h:p:=by
 replace h:=gz h;have h':k<O E:=by rw[iM]at h;exact h
 obtain⟨nb2,hr⟩:=q10 _ (fB h');obtain⟨o2,bo2,nb3,vbs,l,r0,r1,r2,r3,r4,r5,r6⟩:=g.fO hr;conv=>whnf
 refine gW q9 h ?_;refine Cf ?_;refine fD r0 ?_;refine fM r2 ?_;refine eT.pd (λj2 w=>∃a:Nat,a+j2=O (fu l)/\w=[.fz p 0,.ea .h 0,f,V (O (fu E)),V k,vbs,V (O (fu l)),V a]) (O (fu l)) Z ⟨0,by omega,Z⟩ ?_;rintro j2 w ⟨a,jp,rfl⟩;conv=>whnf
 refine eW (λr=>?_) (λr=>?_)
 .replace r:=gz r;have e:a<O l:=by rw[iM]at r;exact r
  obtain⟨gg,ca,vops,o,ops,k0,_,_,_,k4,_,_,_,k8⟩:=g.eC (r6 _ (fB e));conv=>whnf
  refine gW r2 r ?_;refine sK (jO Z (mY e)) ?_;refine fD k0 ?_;refine fM k4 ?_;generalize gD (.ofNat (O (fu ops))) (.ofNat 0)=bb;cases bb with
  |true=>
   conv=>whnf
   exact lX
  |false=>
  conv=>whnf
  rw[je (by rw[iM]at r;omega)];exact⟨Z,Z,j2 - 1,by omega,a+1,by omega,Z⟩
 conv=>whnf
 rw[je (by rw[iM]at h;omega)];exact⟨Z,Z,j - 1,by omega,k+1,by omega,Z⟩):p:=h
def Nd(h:p:=by
 refine ee.c t ?_;refine eW (λhz=>?_) (λhz=>absurd n (by have:=FO hz;omega));conv=>whnf
 refine ee.c E ?_;refine ee.c D ?_;refine ee.c Q ?_;exact zB):p:=h
def mN(h:p:=by exact uD):p:=h
def Tj(h:p:=by
 refine hX (o:=.dY [A.J nm,.ej,.ej,ra,.ej,.ej,kV B]) λm6 n6 em6 en6=>wK ?_;have d2:m6.dZ n1=Y (.dY [.J nm,vo,vr,va,vg,vs']):=by rw[em6,eJ (by rw[en4];omega)];exact b2
 have d3:m6.dZ n2=Y (.dY [kV B]):=by rw[em6,eJ (by rw[en4];omega)];exact b3
 repeat'(first|refine eu a2 ?_|refine eu a3 ?_|refine eu b2 ?_|refine eu b3 ?_|refine eu d2 ?_|refine eu d3 ?_|refine gI (gK _) (wK ?_)|fail)
 have g1:m6.dZ n3=Y (.dY [.gi]):=by rw[em6,eJ (by rw[en4];omega),v];exact fY
 refine sK (ip (cs':=[.ea n4 0]) Z Z g1 Z Z Z) ?_;refine oV λm7 em7=>?_;exact P5 (n:=n) (n1:=n1) (n2:=n2) (n3:=n3) (s:=⟨_,[],⟨m7,_⟩⟩) B3 hcells M M M (.inr ⟨en4,Z⟩) Z Z (by show m7.dZ n4= _;rw[em7,eJ (by rw[en4];omega),em6];exact fY) (by show m7.dZ n3= _;rw[em7];exact fY)
  (λq o hq=>by have:=B3 q o hq;show m7.dZ q= _;rw[em7,eJ (by omega),em6,eJ (by rw[en4];omega),v,eJ (by omega)];exact hq)):p:=h
def nu(h:p:=by
 conv=>whnf
 exact MN):p:=h
def mP(h:p:=by exact⟨_,.j iz,_,Z,by simp⟩):p:=h
def Cu(h:p:=by
 refine eL.lM hC (wK ?_);refine .any Z (hIdx.mono ?_);rintro r H' ⟨rfl,⟨ha,rfl⟩|⟨ha,k,rfl⟩⟩
 .conv=>whnf
  exact⟨by rw[ha];rfl,Z⟩
 conv=>whnf
 exact⟨by rw[ha];rfl,Z⟩):p:=h
def Ew(h:p:=by cases i;cases j;cases h;simp[Op.equalIn,iB Q]):p:=h
def MN(h:p:=by exact⟨_,.j fI,_,Z,by simp⟩):p:=h
def lX(h:p:=by exact uF):p:=h
def UE(h:p:=by
 refine eT.jk C.mixed Z ?_;cases b with
 |true=>
  rcases u with rfl|rfl|rfl|rfl;all_goals
   conv=>whnf
   refine YY C Z ?_ M (λz=>?_)
   .intro i E
    match i,E with
    |0,_=>exact⟨_,Z⟩
    |1,_=>exact⟨_,Z⟩
    |2,_=>exact⟨_,Z⟩
   conv=>whnf
   repeat'(first|refine⟨Z,wK ?_⟩|refine bK (λ_=>?_) λ_=>?_)
   all_goals exact⟨_,.j (D _ _ ⟨_,_,_,_,_,_,by omega,by omega,Z⟩),_,_,Z,⟨_,_,_,_,_,_,by omega,by omega,Z⟩⟩
 |false=>exact M6):p:=h
def Vt(h:p:=by
 refine gC ?_;refine fK.De (p:=.o .h) (args1:=[.agg [.int .i32 g,.int .i32 F,.J D],.map .h]) C.dW Z f.dW f.dW ⟨.ey _ Q,.map .h ei,eR⟩ (pt _ _) hcc (wK ?_);repeat'(first|refine⟨Z,wK ?_⟩|refine bK (λ_=>?_) λ_=>?_)
 have I:=K.1;rw[je (by omega),je (by omega)];exact .iC (sX q es c) _ ⟨j - 1,by omega,k+1,E+a,es,c,by omega,by let⟨I,_⟩:=K;omega,f,Z,Z⟩ TX
  ⟨S0,⟨eV Z,fH Z (rL f.dW)⟩,eR⟩):p:=h
def Tm(h:p:=by
 refine⟨λq v hq=>mD.gY hvs2 hv' q v hq,⟨?_,λp hp=>?_⟩,⟨λp o hp=>?_,λp q o o' hp hq e=>?_,λq hq hb=>?_⟩⟩
 .rw[hsD];show D=D.map (iP lA);have:∀l:L S,(∀p∈l,Below n p)->l=l.map (iP lA):=by
   intro l;induction l with
   |nil=>intro _;rfl
   |cons p l ih=>intro h;rw[jL,eV p (h p (by simp)),<-ih (λq hq=>h q (by simp[hq]))]
  exact this D hD'
 .have:p.dV<n.dV:=hD' p hp;show p.dV<nx.dV;omega
 .obtain⟨h1,h2⟩:=JV ho p o hp;obtain⟨o',h3,h4⟩:=lK.1 h2;exact⟨h1,o',h3,h4⟩
 .exact JV (JV hi p o hp) q o' hq e
 have hb:q.dV<nx.dV:=hb;have hq:nx.dV<=q.dV:=hq;omega):p:=h
def Sr(h:p:=by
 replace h:=gz h;have h':k<O xs:=by omega
 obtain⟨hs,_⟩:=hx k h h';have e1:=KU h';have e2:=KV xs (k+1);conv=>whnf
 refine gW hv h ?_;refine sK (jO Z (v:=vs[k]) (by rw[kO];simp[part,h])) ?_;refine fM hs ?_;rw[je (by omega),<-e1];generalize hb2:lh (.ofNat (ij (xs.take (k+1)))) (.ofNat 0)=bb2;exact U8):p:=h
def SS(h:p:=by
 refine gT λhM=>?_;have hvp:v.Pure:=hv.dW hp;refine ee.fj hf C.dW (it hvp) ?_;rcases hv with⟨rfl,h1,rfl⟩|⟨t,ht,rfl,h1⟩
 .conv=>whnf
  exact⟨_,.j kC,.inl ⟨Z,h1,Z⟩⟩
 conv=>whnf
 cases xs with
 |nil=>
  conv=>whnf
  exact⟨_,.j (qQ mR (by simp[gV])),.inr ⟨_,mR,Z,Z⟩⟩
 |cons a l=>
 refine sK (aar Z Z ei (Dj ho) ei nw) ?_;have e:0+O (a::l)=O (a::l):=by omega
 rw[e];exact⟨_,Kv hp,.inr ⟨.G,mR,Z,by simp⟩⟩):p:=h
def M6(h:p:=by
 conv=>whnf
 repeat'(first|refine⟨Z,wK ?_⟩|refine bK (λ_=>?_) λ_=>?_)
 exact⟨_,.j (D _ _ ⟨_,_,_,_,_,_,by omega,by omega,Z⟩),_,_,Z,⟨_,_,_,_,_,_,by omega,by omega,Z⟩⟩):p:=h
def MM(h:p:=by refine uJ λh=>?_;refine⟨Z,.inl ⟨?_,Z⟩⟩;rw[Iy];intro x hx;obtain⟨i,hi,rfl⟩:=km hx;simpa using hall i hi M):p:=h
def V1(h:p:=by
 replace h2:=gz h2;have h':k<O xs:=by omega
 obtain⟨hs,_⟩:=hx k h2 h';have e1:=KU h';have e2:=KV xs (k+1);have hz2:xs[k]=[]:=pG M;rw[hz2]at hs;conv=>whnf
 refine gW hv h2 ?_;refine sK (jO Z (v:=vs[k]) (by rw[kO];simp[part,h2])) ?_;refine sK (KT Z (.inl Z) Z hs) ?_;refine iu ?_;exact⟨Z,.iC [] _ ⟨j - 1,by omega,k+1,by omega,Z,Z⟩ ⟨.ey _ kC,.ey _ hvp,.ey _ fI,.ey _ fI,eR⟩ eR⟩):p:=h
def TM(h:p:=by
 conv=>whnf
 refine ee.c frn ?_;cases br with
 |false=>exact xL
 |true=>
 conv=>whnf
 refine ee.c frt ?_;cases bt with
 |false=>exact xL
 |true=>
 cases be<;>cases bp<;>cases bg;all_goals
  conv=>whnf
  repeat'(first|exact⟨_,.j iz,_,Z,λ_=>hD⟩|refine ee.c fe ?_|refine ee.c fp ?_|refine ee.c fg ?_|refine sK (Dc k1) ?_|refine⟨Z,wK ?_⟩|refine bK (λ_=>?_) λ_=>?_)):p:=h
def pw(h:p:=by rename_i id ops d;cases d<;>simp[gk]at hc):p:=h
def VK(h:p:=by
 refine fK.j7 (C.fs.h 125) (wK ?_);repeat'(first|refine fD z ?_|refine fD i ?_|refine sK (jO Z a) ?_|refine sK (kL (j:=0) Z R Z Z (by rw[iM];exact b)) ?_|refine⟨Z,wK ?_⟩|fail)
 generalize iT s k=bb;cases bb<;>(conv=>whnf)
 all_goals repeat'(first|exact uD|refine ee.c f1 ?_|refine ee.c f2 ?_|refine bK (λ_=>?_) λ_=>?_|refine fD z ?_|refine fD i ?_|refine sK (jO Z a) ?_|refine sK (kL (j:=0) Z R Z Z (by rw[iM];exact b)) ?_|refine⟨Z,wK ?_⟩|fail)):p:=h
def Vr(h:p:=by
 intro i a ha hLi;have hlt:i<l.size:=by obtain⟨h,_⟩:=oY.1 ha;omega
 obtain⟨o,ho,_,hd⟩:=hop i a ha;apply Classical.byContradiction;intro hcon;have hready:i∈Region.ready .any opsA l:=by
  refine mem_ready.2 ⟨by rw[dd l i hlt];exact hLi,o,ho,λe he hb=>?_⟩;cases hL:l.getD e.on dU with
  |true=>rfl
  |false=>refine(hcon ⟨e.on,?_,hL⟩).elim;rw[hd];exact gS.2 ⟨e,BW.2 ⟨by simpa using he,hb⟩,Z⟩
 rw[hnil]at hready;cases hready):p:=h
def Ih(h:p:=by
 rcases eZ.1 hi with rfl|hi
 .exact hk
 refine ih h5 (λj hj=>?_) i hi;rw[qh]at hj;simp only[ux,oh]at hj;rcases hj with hj|rfl
 .exact hE j hj
 exact hk):p:=h
def ID(h:p:=by
 rw[t];conv=>whnf
 rw[e2];conv=>whnf
 generalize gD _ _ =bb;cases bb with
 |true=>exact uF
 |false=>exact uF):p:=h
def Sn(h:p:=by
 obtain⟨o,ho,hfree⟩:=Yt hreck j hin;rw[hb]at ho;cases ho;rcases hfree with hf|⟨d2,v2,k1,k2,k3⟩
 .refine⟨dj,vj,h2,?_,?_⟩
  .rw[putF,gj (λe=>(hdd dj e).1 h2)];exact h3
  rw[Yo (H':=⟨m,n⟩) hf];rw[show lL G b (St.I ⟨F,rD,⟨m,n⟩⟩ a.dst v H').F ⟨m,n⟩=lL G b F ⟨m,n⟩from AG λt ht=>by rw[putF,gj (λe=>(hdd t e).2 ht)]];exact h4
 exact⟨d2,v2,k1,k2,k3⟩):p:=h
def xL(h:p:=by
 conv=>whnf
 exact⟨_,.j iz,_,Z,λ_=>hD⟩):p:=h
def TY(h:p:=by
 intro l r w X act hl hu hs E0 hr hR;have hall:∀i,i<l.size->l.getD i dT=dT:=by
  intro i hi;cases hv:l.getD i dT with
  |true=>rfl
  |false=>have:=O8 hv;omega
 have hnil:Region.ready .any opsA l=[]:=by apply List.eq_nil_iff_forall_not_mem.2;intro i hi;obtain⟨h1,o,ho,_⟩:=mem_ready.1 hi;have:i<opsA.size:=qJ ho;rw[hall i (by omega)]at h1;cases h1
 exact⟨hnil,fin l r w X act hl hs E0 hr hnil⟩):p:=h
def MA(h:p:=by
 generalize hrun:(callFunc f cargs).run P w=x at hc⊢;cases x with
 |halt=>exact hc.elim
 |ok nx w'=>
 cases nx<;>try exact hc.elim
 .exact fin _ _ hc
 exact CallsIn.mono hc λe w'' he=>by cases e<;>first|exact he|exact fin _ _ he):p:=h
def UG(h:p:=by
 refine ee.c t ?_;refine eW (λhz=>?_) (λhz=>absurd n (by have:=FO hz;omega));conv=>whnf
 refine ee.c E ?_;refine ee.c D ?_;exact zB):p:=h
def So(h:p:=by refine eW (λh3=>?_) (λh3=>?_)<;>(conv=>whnf)<;>exact uD):p:=h
def Ts(h:p:=by
 conv=>whnf
 refine iu ?_;exact⟨Z,.iC [(.h,.dY [.J u,z,a,F,V t,V q,Q]),(.o .h,.dY [.J nx,W,wr,I,K,ws]),(.i .h,.map B c')] _ ⟨j - 1,by omega,k+1,B,c',by omega,U,Z,Z⟩
  ⟨.L (eV Z) Z,.L (eV Z) Z,.map (.i .h) (eV Z),.ey _ pwa,.ey _ fI,.ey _ fI,eR⟩ ⟨⟨eV Z,fH Z (jB D)⟩,⟨eV Z,fH Z (jB E)⟩,⟨eV Z,fH Z (rL U.dW)⟩,eR⟩⟩):p:=h
def VZ(h:p:=by
 repeat'(first|refine fD e0 ?_|refine fD e0' ?_|refine fD f0 ?_|refine fD k0 ?_|refine sK (kL (j:=0) Z q9' Z Z IP) ?_|refine sK (kL (j:=0) Z f2 Z Z (by rw[iM];exact hb0)) ?_|refine sK Cl ?_|refine sK (jO Z hel2) ?_|refine ee.c ft1 ?_|refine ee.c ft2 ?_|refine ee.c ft3 ?_|refine ee.c fr ?_|refine ee.c fe1 ?_|refine ee.c fe2 ?_|refine gI (gK _) (wK ?_)|fail)
 exact⟨a,e⟩):p:=h
def TN(h:p:=by
 rw[h2,vA];split
 .rename_i e;rw[e];exact h3.symm
 rename_i e;exact h.yw t λj b hb hj hLj hd=>by
  by_cases hji:j=i
  .subst hji;rw[ha]at hb;cases hb;rw[h2]at hd;exact e (gu hd).symm
  refine ht j b hb hj ?_ hd;cases hL2:L' j
  .rfl
  exact((hL' j).1 hL2).elim (λg=>by rw[hLj]at g;cases g) λg=>absurd g hji):p:=h
def Uy(h:p:=by
 refine iu ?_;exact⟨Z,.iC [(.h,.dY [.J u,z,a,F,V t,V q,Q]),(.o .h,.dY [.J nx,W,wr,I,K,ws]),(.i .h,.map es c)] _ ⟨j3 - 1,by omega,k3'+1,by omega,Z,Z⟩
  ⟨.L (eV Z) Z,.ey _ pwg,.ey _ fI,.ey _ fI,eR⟩ Wp⟩):p:=h
def uG(h:p:=by
 conv=>whnf
 exact⟨dU,_,_,by simp,Z,Z⟩):p:=h
def M0(h:p:=by have h2:=hH.Fq (H1:={ep:=.e,dX:=H.dX}) (λp=>T.dZ p (.e:T AO)=J) xK (λq h=>h);exact Tq):p:=h
def eO(h:p:=by exact⟨_,.j (YS _ _),_,_,Z,by simp,by first|exact hz|decide⟩):p:=h
def IL(h:p:=by
 rw[qh];rcases hbit j hj with hj|rfl
 .rw[h.tW j b hb hj k hk];rfl
 rw[ha]at hb;cases hb;rw[hdep k hk];rfl):p:=h
def Nh(h:p:=by
 simp only[eZ,f7,fZ]at hv;rcases hv with rfl|rfl|rfl|rfl|rfl|rfl
 .exact jX _
 .exact iQ _ _
 .exact iQ _ _
 .exact jX _
 .exact kC
 exact hvt):p:=h
def EC(h:p:=by
 repeat'(first|refine⟨Z,wK ?_⟩|refine bK (λ_=>?_) λ_=>?_)
 exact⟨dU,by simp,Z,Z⟩):p:=h
def xq(h:p:=by
 conv=>whnf
 exact⟨_,.j iz,dU,Z,by simp⟩):p:=h
def EN(h:p:=by obtain⟨e,Q⟩:=WK g;cases i<;>cases j<;>cases h<;>simp[Op.equalIn,iB Q]):p:=h
def UB(h:p:=by
 rw[ha]at hb;cases hb;refine⟨by simp,d,v,hdst,by rw[vA,gO Z],?_⟩;rw[show lL G a (St.I ⟨F,D,⟨m,n⟩⟩ (Y d) v ⟨m,n⟩).F (St.I ⟨F,D,⟨m,n⟩⟩ (Y d) v ⟨m,n⟩).H=lL G a F ⟨m,n⟩from ?_]
 .exact hv
 refine AG λt ht=>?_;rw[vA,gj (λe:t=d=>hown (e▸ht))]):p:=h
def UA(h:p:=by obtain⟨κ2,E2,hH2,hv2⟩:=hH.dW (H1:={ep:=.e,dX:=.h}) (λ_=>False) xK h1 E hH' xK;have h3:eQ w' (κ'.y id λ_=>False) v v':=hrv.jV hcl;have h4:eQ w' κ' v v':=h3.dW hcl.JU (λ_=>fQ _) (λ_ _ h=>h);exact⟨v,H,κ2,⟨Z,Z⟩,E2,hH2,hv2 v v' h4 (hcl.JU _ _)⟩):p:=h
def agw(h:p:=by
 intro p c hp;rcases kG p.dV n.dV with h|h
 .exact h
 obtain⟨f1,f2,_⟩:=hfresh p h;rcases hp with hp|hp
 .rw[f1]at hp;cases hp
 rw[f2]at hp;cases hp):p:=h
def M9(h:p:=by
 match cs,ds,l1,l2,g with
 |[v0,v1],[d0,d1],_,_,g=>exact⟨v0,v1,d0,d1,Z,by simp only[uptoBulk,uptoBulkAll]<;>omega,g 0 ei ei _ Z,g 1 ei ei _ Z⟩):p:=h
def VL(h:p:=by
 match cs,ds,l1,l2,g with
 |[v0,v1,v2,v3,v4,v5],[d0,d1,d2,d3,d4,d5],_,_,g=>exact⟨v0,v1,v2,v3,v4,v5,d0,d1,d2,d3,d4,d5,Z,by simp only[uptoBulk,uptoBulkAll]<;>omega,g 0 ei ei _ Z,g 1 ei ei _ Z,g 2 ei ei _ Z,g 3 ei ei _ Z,g 4 ei ei _ Z,g 5 ei ei _ Z⟩):p:=h
def tq(h:p:=by exact⟨_,.j fI,_,Z⟩):p:=h
def HQ(h:p:=by
 repeat'(first|refine⟨Z,wK ?_⟩|refine bK (λ_=>?_) λ_=>?_)
 all_goals exact uF):p:=h
def zB(h:p:=by exact ot.j f.dW):p:=h
def Tv(h:p:=by
 obtain⟨v,⟨s,hs,rfl⟩,h⟩:=C.itoa b M M;refine ee.fj (C.fs.h 182) C.dW hpp (wK ?_);refine bK (λh0=>?_) λh0=>?_
 .exact⟨_,.j j5,_,by simp,Z⟩
 refine ee.c h ?_;refine sK ED ?_;exact⟨_,.j j5,_,by simp;omega,Z⟩):p:=h
def Ue(h:p:=by
 rw[putF,putF];split
 .rfl
 exact h.yw t λj b hb hj hLj=>ht j b hb (by rw[qh,hj];rfl) (by
  cases hL2:L' j
  .rfl
  rcases(hL' j).1 hL2 with g|rfl
  .rw[hLj]at g;cases g
  rw[hE]at hj;cases hj)):p:=h
def SK(h:p:=by show m7.dZ q= _;rw[em7];refine QX (Xa:=λq=>q=b\/q=k.mp) gl (λq o E Q h3=>?_) q o (λh=>h.elim E Q) t;rw[a,T.gh _ _ _ _ (λe=>E (.inl e)),h5m q (λe=>E (.inr e))];exact h49 _ _ (λe=>E (.inl e)) (λe=>E (.inr e)) Q h3):p:=h
def II(h:p:=by have u:=g ei;have v:=l ei;exact absurd ‹lr body _› (by assumption)):p:=h
def TL(h:p:=by
 have hLi:La i=dU:=by
  cases hL:La i
  .rfl
  rw[h.sub i hL]at hE;cases hE
 have htd:t≠d:=λe=>ht i a ha (by rw[qh];simp) hLi (by rw[hdst,e]);rw[vA,gj htd];exact h.yw t λj b hb hj hL=>ht j b hb (by rw[qh,hj];rfl) hL):p:=h
def Su(h:p:=by
 refine ee.c h1 ?_;refine bK (λh=>?_) λh=>?_
 .exact mP
 exact⟨_,.j iz,_,Z,λ_=>by
  cases e with
  |ofNat n=>have:=wC (a:=n) (b:=0) ly;rw[this];rfl
  |negSucc n=>simp[gD]at h⟩):p:=h
def IG(h:p:=by exact⟨e3,a3,w3,hq3,.of_steps (StepsIn.trans harr (.one (fenced_calm hb hroom Z) stepR_inLoop)) harr3⟩):p:=h
def Uc(h:p:=by refine wpOpIn_mono ?_ (OJ (Xa:=λe a' w'=>∃s' κ',Q e s'/\fL B w0 hV w' κ'/\jd B G N s' w' κ' a') ho hop' htake hr hR);rintro a' w' ⟨s',κ',hs',E1,hr'⟩;exact ih _ s' w' κ' a' (by simp[hl]) (by have:=O8 h1;omega) hs' (E0.trans E1) hr' (hR.mono E1)):p:=h
def agp(h:p:=by
 repeat'(first|refine fD z ?_|refine fD i ?_|refine sK (jO Z b) ?_|refine sK (kL (j:=0) Z R Z Z (by rw[iM];exact a)) ?_|refine⟨Z,wK ?_⟩|fail)
 refine eW (λE=>?_) (λE=>?_)<;>(conv=>whnf)<;>exact uD):p:=h
def Np(h:p:=by
 have:gD e (Int.ofNat 0)=dU:=by
  cases h:gD e (Int.ofNat 0)
  .rfl
  exact absurd (oP.1 h) he
 rw[this];rfl):p:=h
def agA(h:p:=by simp only[eZ,f7,fZ]at hv;rcases hv with rfl|rfl|rfl<;>exact CY ei ei):p:=h
def VC(h:p:=by
 refine eW (λh2=>?_) (λh2=>?_)
 .replace h2:=tU h2;conv=>whnf
  exact⟨_,.j iz,.inl ⟨Z,h,h2⟩⟩
 replace h2:=FD h2;conv=>whnf
 exact⟨_,.j iz,.inr ⟨Z,λh3=>h2 h3.2⟩⟩):p:=h
def Ul(h:p:=by
 refine eW (λH=>?_) (λH=>?_)
 .exact I5
 have H:(c::a)[k]=95:=wC (by simpa using H);conv=>whnf
 exact d M):p:=h
def U1(h:p:=by obtain⟨p,z,d,bo,nb,hi',pv,xs,_,h1,h2,h3,h4,h5,h6,h7⟩:=F.Hd i hi e he;exact⟨p,z,d,bo,nb,i,hi',pv,xs,h1,h2,h3,h4,h5,h6,h7⟩):p:=h
def VE(h:p:=by
 have a:=u;have b:=I;rcases a with⟨rfl,_,a⟩|⟨t,_,rfl,_⟩
 .rcases b with⟨_,_,b⟩|⟨t,_,b,_⟩
  .rw[a,b]
  cases b
 rcases b with⟨b,_⟩|⟨t,_,b,_⟩
 .cases b
 injection b):p:=h
def TT(h:p:=by obtain⟨dY,e1,_⟩:=c.op.kE p _ (c.op.ops p hp).1;show(c.E.fU p).isSome=dT;rw[jF.E,sU (c.op.ops p hp).1 e1];rfl):p:=h
def M7(h:p:=by intro j hj;rw[qh]at hj;simp only[ux,oh]at hj;exact hj.imp id Eq.symm):p:=h
def Mr(h:p:=by repeat'(first|exact⟨_,Z,Z,Z,eR⟩|refine⟨Z,wK ?_⟩|refine bK (λ_=>?_) λ_=>?_)):p:=h
def agu(h:p:=by
 simp only[qb,hi,jm,fS]at hz
 let⟨zv',h1,h2⟩:=hz
 have e1:∀w',(zeroValue et).run P w'=.ok zv' w':=by intro w';simp[zeroValue,gb,su hi,h1]
 have:=e1 w;rw[hzv]at this;cases this;exact e1 w'):p:=h
def V0(h:p:=by
 generalize ek:Kd.eC d nb=k at h2;cases h2 with
 |qm=>cases ek
 |qn=>cases ek
 |fO=>cases ek
 |op=>cases ek
 |eC d nb g vas vops as ops g1 g2 g3 g4 g5 g6 l1 l2=>cases ek;exact⟨g,vas,vops,as,ops,e1,g1,g2,g3,g4,g5,g6,l1,l2⟩):p:=h
def MP(h:p:=by
 conv=>whnf
 refine ee.c fn (wK ?_);refine ee.c f1 (wK ?_);refine ee.c f2 ?_;exact MU):p:=h
def Nl(h:p:=by refine⟨?_,Bz⟩;show Ending.returned (Value.string (_ ++s++⟨#[62]⟩))= _;rw[text_eq];all_goals simp only[np,rW,uz]):p:=h
def U2(h:p:=by refine zV λB D f=>?_;refine sK d ?_;refine ee.c Q ?_;exact HN):p:=h
def Mv(h:p:=by
 intro q hq;rcases jf.1 hq with h'|h'
 .exact hav2 q h'
 simp only[eZ,f7,fZ]at h';subst h';exact hv2):p:=h
def MY(h:p:=by
 cases F.dZ g with
 |none=>rfl
 |some v=>
 cases v<;>try rfl
 rename_i b;cases b<;>cases want<;>rfl):p:=h
def UH(h:p:=by
 cases e<;>first
  |exact h1.elim
  |(obtain⟨H',h7,h8⟩:=lK.1 h1
    obtain⟨vs,h9,h10⟩:=lK.1 h8;exact⟨_,H',h10,λe1 s1 he=>by obtain⟨rfl,rfl⟩:=he;exact fH h7 (fH h9 ⟨Z,Z⟩)⟩)):p:=h
def Io(h:p:=by
 cases R with
 |none=>rw[hr];trivial
 |some l=>obtain⟨c,_,rfl⟩:=hr;trivial):p:=h
def IR(h:p:=by exact⟨e,a',w',hq,.of_steps (.one (fenced_calm hb hroom Z) stepR_loop) harr⟩):p:=h
def MO(h:p:=by obtain⟨o1,ho1⟩:=old q o hq;obtain⟨o2,ho2⟩:=old q' o' hq';exact hH.inj q q' o1 o2 d ho1 ho2 hd hd'):p:=h
def r9(h:p:=by apply wj;simpa using hc1):p:=h
def MU(h:p:=by exact⟨_,.j iz,Z⟩):p:=h
def To(h:p:=by
 refine⟨c,X,hd,E0,⟨hr.size,hs.heap▸hr.heap,λt v hv=>?_,hs.fX▸hr.fX⟩⟩;have:=hs.yw (S.ofNat t) λi a ha hE hL=>by rw[hEl i hE]at hL;cases hL
 exact hr.tmps t v (by rw[this];exact hv)):p:=h
def Sq(h:p:=by
 rw[hn]at hq;obtain⟨f1,f2,f3⟩:=hH.fresh q hq;refine⟨f1,f2,?_⟩;cases hg:H'.ep.dZ q with
 |none=>rfl
 |some o=>obtain⟨o',ho'⟩:=old q o hg;rw[ho']at f3;cases f3):p:=h
def ML(h:p:=by refine tM h λv hv=>?_;rw[o8 (s:=⟨F,D,⟨m,n⟩⟩) Z Z Z]at hv⊢;exact ih hv hk):p:=h
def TR(h:p:=by
 have hlt:i<O ops.toList:=by obtain⟨hj,_⟩:=oY.1 ha;omega
 obtain⟨b',hb',hi,hd⟩:=h2 i _ (jq hlt);rw[ha]at hb';cases hb';exact⟨_,by rw[<-qx];exact jq hlt,hi,hd⟩):p:=h
def TH(h:p:=by
 cases ho:g[i]? with
 |none=>rw[ho]at h;exact h.elim
 |some o=>rw[ho]at h;exact Vn):p:=h
def V8(h:p:=by
 cases h with
 |func _ _ _ x y hf h1 h2 h3 h4=>exact .func f a' b' x y hf (by rw[h1,ha]) (λi hi=>ih1 i M hi (h2 i M)) (by rw[h3,hb]) (λi hi=>ih2 i M hi (h4 i M))):p:=h
def I5(h:p:=by
 conv=>whnf
 exact⟨_,.j iz,.inl Z⟩):p:=h
def Ux(h:p:=by
 refine fK.eq hc ?_;cases b with
 |true=>
  conv=>whnf
  exact mP
 |false=>
 conv=>whnf
 exact⟨_,.j iz,_,Z,λ_ x hx=>hb.2 Z x hx Z⟩):p:=h
def TU(h:p:=by obtain⟨i,hi,rfl⟩:=km hc;exact Sl.dW (hx i hi M).1 λc hc=>hpx _ (fB M) c hc):p:=h
def SU(h:p:=by
 obtain⟨c1,hc1⟩:=oW.1 hp;obtain⟨c2,hc2⟩:=oW.1 hq;by_cases e:p=q
 .subst e;simp[fA,fG,hx,hy,o6,nM,jj,mA]
 simp[fA,fG,hx,hy,o6,nM,jj,mA,e,hc1,hc2]):p:=h
def HL(h:p:=by obtain⟨i,hi,rfl⟩:=km hy;exact(h4 i hi).dW c hc):p:=h
def NR(h:p:=by
 conv=>whnf
 refine ee.c f279 ?_;exact⟨_,.j iz,_,Z,λh=>t279 h⟩):p:=h
def IS(h:p:=by
 conv=>whnf
 exact⟨_,.j fI,_,Z,λ_ _=>g⟩):p:=h
def agx(h:p:=by
 intro F t;cases hd:a.dst with
 |none=>simp[St.I]
 |some d=>
 rw[vA];by_cases e:t=d
 .simp[e]
 rw[gj e,gj (λh=>e (gu h).symm)]):p:=h
def SH(h:p:=by
 refine ee.c hf ?_;rcases hv with⟨rfl,h⟩|⟨rfl,h⟩
 .conv=>whnf
  exact Mx
 exact NQ):p:=h
def Wb(h:p:=by rw[f]at h;cases h;rw[mA]at f;have f:=j0 f;subst f;have:c=o:=gu (hc.symm.trans hc');subst this;simp[sameAddr,beq_eq];rw[wi];simp):p:=h
def VV(h:p:=by refine eu g3 ?_;refine hX λm5 n5 em5 en5=>wK ?_;have G5:=G4.ew em5 en5;exact⟨.inr ⟨n3,_,Z,Z,(by show T.dZ n3 m5= _;rw[em5];exact fY),by omega⟩,G5.step ju⟩):p:=h
def zK(h:p:=by unfold mV at h;split at h<;>simp_all):p:=h
def Ub(h:p:=by
 rcases ih h5 i hi with h|h
 .rw[qh]at h;simp only[ux,oh]at h;rcases h with h|rfl
  .exact .inl h
  exact .inr ei
 exact .inr (by simp[h])):p:=h
def Vx(h:p:=by
 subst hz hz';have e1:Nat.ble (n*bytes) kr=dT:=by rw[jS];exact h
 have e2:Nat.ble n kr=dT:=by rw[jS];exact h2
 simp only[fA,fG,hx,hy,jm,lG,qA,e1,e2,qG,gZ,jx]):p:=h
def BU(h:p:=by simp[Instr.checkKey,gb,iB Q]):p:=h
def agq(h:p:=by rw[em7];refine QX (Xa:=λq=>q=c) gl (λq o E Q h3=>?_) q o t hm;rw[a,T.gh _ _ _ _ E];exact ho5 _ _ (U _ _ E Q h3)):p:=h
def SZ(h:p:=by
 intro j hj;refine⟨?_,λe=>?_⟩
 .cases hLj:La j
  .rfl
  rw[(hL' j).2 (.inl hLj)]at hj;cases hj
 rw[(hL' j).2 (.inr e)]at hj;cases hj):p:=h
def VS(h:p:=by exact⟨_,s2,hq,λk t=>k=j/\t=s,⟨Z,Z⟩,λk t ⟨_,e⟩=>by subst e;exact lp hw λe1 s1 he=>by obtain⟨rfl,rfl⟩:=he;exact⟨Z,Z⟩⟩):p:=h
def TB(h:p:=by
 intro j b hb hj k hk;rcases(hL' j).1 hj with hj|rfl
 .exact(hL' k).2 (.inl (h.closed j b hb hj k hk))
 rw[ha]at hb;cases hb;exact(hL' k).2 (.inl (hdeps k hk))):p:=h
def zx(h:p:=by exact hall i hi M):p:=h
def UR(h:p:=by
 have k:T.dZ (jE nn c.nc nd) m1'=Y .fX:=by rw[(iw _ (by omega)).2];exact gd
 exact⟨ep nd nd (iw _ M).1 (hD _ ei),by simp,eR,_,k,.fX⟩):p:=h
def agz(h:p:=by refine⟨_,.j iz,_,Z,λh=>?_⟩;have:=Zv h6 (wC e2);subst this;exact .mk _ _ _ _ _ _ _ _ h1 h2 h3 h4 h5 h6 h7 h8 .nil):p:=h
def HN(h:p:=by refine ee.c fv ?_;exact .ey _ a.dW):p:=h
def No(h:p:=by
 rcases kG q.dV H'.dX.dV with h|h
 .exact h
 rw[hM.iw q h]at hq;cases hq):p:=h
def V9(h:p:=by
 obtain⟨r0,g1,_⟩:=h.kE q _ hq;have:=dY q r0 g1 λe=>by subst e;rw[h.pV]at hq;cases hq
 rw[hr]at this;cases this;exact h.ns q d bo nb _ hq g1):p:=h
def xp(h:p:=by exact absurd (tU h) ha):p:=h
def xI(h:p:=by exact absurd (tU h) hn):p:=h
def agt(h:p:=by
 cases d with
 |zero=>rw[(g14 Z).2.2]at e;cases e
 |succ d'=>obtain⟨b',e',hb⟩:=g15 d' Z;rw[e]at e';cases e';exact⟨_,_,hb⟩):p:=h
def HT(h:p:=by exact⟨_,w4,y,_,_,κ3,hQ,U.trans E4,p,.bool _⟩):p:=h
def Uj(h:p:=by
 rcases W with rfl|⟨q,hq,rfl⟩
 .exact⟨_,_,_,Z,by simp,oE _⟩
 exact⟨_,_,_,Z,by rw[uw,oI];omega,by rw[oI,oI];omega⟩):p:=h
def VG(h:p:=by unfold zg at f;obtain⟨K,c⟩:=jG f;rw[lm]at K;have K:=j0 K;exact⟨by rw[b p K];exact uo c,.inl K⟩):p:=h
def Ni(h:p:=by refine lp r λe t F=>?_;obtain⟨rfl,rfl⟩:=F;exact⟨Z,Z⟩):p:=h
def VM(h:p:=by have hU:=Eh.rj d hid;exact⟨d,g1,g2,g3.mono Eh (Eh.below.block d hid) (λ_=>hU),λe=>by rw[hU];exact g4 e,λe=>by rw[hU];exact g5 e⟩):p:=h
def MC(h:p:=by
 rcases kG q.dV n2.dV with h|h
 .exact h
 rw[htop q h]at hq;cases hq):p:=h
def Vs(h:p:=by show N.dZ q=Y o;have h1:=w6 q o id hq;have h2:=y q o hq;rw[a,jZ (by omega) (λe=>by have:=w7 q e;omega)];exact h1):p:=h
def Vm(h:p:=by
 rcases h with h|⟨q,h1,h2,h3,h4⟩
 .exact .inl h
 obtain⟨g1,g2⟩:=hs q _ h2 (by rw[h3];exact hx);exact .inr ⟨q,h1,g1,by rw[g2,h3],h4⟩):p:=h
def Sk(h:p:=by
 cases v<;>cases i<;>first
  |(exfalso;exact o _ _ _ _ Z Z)
  |(exfalso;exact I _ _ Z Z)
  |(simp only[binOp,gb,Q,iV,jR])):p:=h
def M4(h:p:=by
 intro p c h;simp only[Kx.only]at h;split at h
 .exact h
 cases h):p:=h
def agC(h:p:=by
 simp only[Kx.fF]at hc;split at hc
 .rename_i h
  let⟨p,cs,_,_,h3⟩:=h
  exact hH.room p c h3
 exact hH.kS c hc):p:=h
def Mo(h:p:=by rw[oj,hown];refine jf.2 (.inr ?_);simp only[jL,qH,eZ,f7,fZ];exact h):p:=h
def Ut(h:p:=by
 cases hL:La k with
 |true=>rfl
 |false=>obtain⟨q,hq,hqL⟩:=hno k a ha hL;rw[hE q (hd q hq)]at hqL;cases hqL):p:=h
def Tf(h:p:=by intro k hk;rw[hd]at hk;obtain⟨e,he,rfl⟩:=gS.1 hk;obtain⟨he,hb⟩:=BW.1 he;exact hafter e (by simpa using he) hb):p:=h
def Tx(h:p:=by
 match cs,ds,l1,l2,g with
 |[v0],[d0],_,_,g=>exact⟨v0,d0,Z,by simp only[uptoBulk,uptoBulkAll]<;>omega,g 0 ei ei _ Z⟩):p:=h
def UV(h:p:=by intro q hq;obtain⟨p,hp,rfl⟩:=gS.1 hq;obtain⟨o,ho⟩:=hdom p hp;obtain⟨_,o',ho',_⟩:=hobj p o ho;exact⟨o',ho'⟩):p:=h
def Mq(h:p:=by exact⟨Z,Z,j - 1,by omega,k+1,_,by omega,by rw[je (by omega)]⟩):p:=h
def Tz(h:p:=by
 rcases hlc with⟨_,e,he,_,rfl⟩|⟨_,rfl,_⟩
 .obtain⟨_,s,e2,hs⟩:=hes e he;exact⟨s,e2,hs⟩
 exact⟨_,Z,by simp⟩):p:=h
def TO(h:p:=by exact⟨ep l l (iw _ M).1 (hD _ ei),by simp,⟨eR,λt v hv=>by rw[Lw]at hv;cases hv⟩,_,k,loopE st pe F2⟩):p:=h
def U3(h:p:=by
 repeat'(first|refine⟨Z,wK ?_⟩|refine bK (λ_=>?_) λ_=>?_)
 all_goals exact⟨_,.j iz,_,Z,λ_=>trivial⟩):p:=h
def SP(h:p:=by
 refine⟨by simp[h1],λi hi h'=>?_⟩;have:=h2 i hi;have h'':i<vs.size:=by simpa using h'
 simpa[Array.getD,h'']using this):p:=h
def agE(h:p:=by
 rcases jf.1 hc with h|h
 .obtain⟨x,hx1,hx2⟩:=lE.1 h;exact hpx x (HV hx1) c hx2
 rw[Ch h];exact jX _):p:=h
def Vo(h:p:=by
 have o:om H p=Y (es,clock):=by simp only[om,f]
 simp only[fA,fG,s,u,c,jm,Jl,o,PH P n,hr,P.ok,gZ]):p:=h
def NI(h:p:=by exact⟨_,by rw[(iw _ (by dsimp only;omega)).1];exact kb3,lU vfF⟩):p:=h
def Te(h:p:=by
 intro c hc;cases c<;>simp[gk,gx.m,fS]at hc
 .exact pw
 exact⟨_,Z,hc⟩):p:=h
def VW(h:p:=by refine ee.lM (C.fs.h 47) C.dW (it (jg W)) (wK ?_);refine ee.c fr ?_;exact .ey _ iz):p:=h
def S5(h:p:=by
 intro hx;cases R with
 |none=>rw[hr]at hx;simp[Fence.wide]at hx
 |some l=>obtain⟨c,_,rfl⟩:=hr;simp[Fence.wide]at hx):p:=h
def Tn(h:p:=by unfold AJ;have:=List.countP_le_length (p:=λb=> !b) (l:=(Array.replicate ops.size dU).toList);simpa using this):p:=h
def agv(h:p:=by
 refine oF λc hc=>?_;rcases hc with rfl|rfl|rfl|rfl|rfl|rfl
 .exact jX _
 all_goals assumption):p:=h
def Mn(h:p:=by exact⟨_,by rw[(iw _ (by dsimp only;omega)).1];exact kb2,lU xF⟩):p:=h
def I9(h:p:=by rw[U]at u;cases u;exact done m hK):p:=h
def U4(h:p:=by
 have c:om H p=Y (es,W):=by simp only[om,f]
 simp only[fA,fG,g,h,jm,Jk,c,PH P a,hr,P.ok,gZ,jb]):p:=h
def VD(h:p:=by cases ek;exact⟨nm,vos,vrs,vas,vgs,vss,os,rs,gs,as,ss,e1,h1,h2,h3,h4,h5,h6,h7,h8,h9,h10,h11,h12,h13,h14,l1,l2,l3,l4,l5⟩):p:=h
def M8(h:p:=by exact⟨_,by rw[(iw _ (by dsimp only;omega)).1];exact kdd,.fX⟩):p:=h
def SQ(h:p:=by
 have h:=iZ h;have:E=2^O as - 1:=by omega
 rw[this]at hb;simp only[gf,NB,oh]at hb;omega):p:=h
def TS(h:p:=by simp only[jL,qH,qB,eZ,f7,fZ,not_or,pE,wm,pA];exact⟨⟨ne _ _ M,ne _ _ M⟩,ne _ _ M⟩):p:=h
def TG(h:p:=by
 rcases hbit j hj with hj|rfl
 .exact(hL' j).2 (.inl (h.pR j b hb hj hbq'))
 exact(hL' j).2 (.inr Z)):p:=h
def agr(h:p:=by rw[em7,eJ (by omega),a,eJ (by omega)];refine ho5 _ _ ?_;rw[l,eJ (by omega)];exact t):p:=h
def Un(h:p:=by
 replace h:=FO h;conv=>whnf
 exact⟨_,.j iz,.inr ⟨Z,λh3=>by have:=h3.1;omega⟩⟩):p:=h
def Td(h:p:=by rw[T.i6]at hz⊢;exact⟨hl.set (fQ _) λ_ _ _ _ _ _ _ _ _ e=>by cases e;exact⟨_,_,_,_,_,hg⟩,hz⟩):p:=h
def agB(h:p:=by obtain⟨h1,h2⟩:=hcan q o hq;rw[s11 _ (by omega)];exact h2):p:=h
def MB(h:p:=by obtain⟨r,H',⟨rfl,h2⟩,h3⟩:=fr.wz;exact⟨H',h2,h3⟩):p:=h
def Tp(h:p:=by
 rcases hbit j hj with hj|rfl
 .exact h.pR j b hb hj hbq
 rw[ha]at hb;cases hb;rw[hq]at hbq;cases hbq):p:=h
def SL(h:p:=by have:=gU.ea (π:=gR nn c.nc) (D:=(·∈(c.X++own).map (·.1))) (θ:=up nn) (DF:=c.DF) q 0 h2;rwa[h1]at this):p:=h
def VY(h:p:=by
 cases R with
 |none=>rw[hr];exact hcall
 |some l=>obtain⟨c,_,rfl⟩:=hr;exact CallsIn.inRound c hcall):p:=h
def SE(h:p:=by obtain⟨r,H',⟨b,rfl,h3⟩,h4⟩:=hh;exact⟨b,h4.mono λr1 H1 ⟨e1,e2⟩=>IQ⟩):p:=h
def Cw(h:p:=by exact k _ b eR (b▸n) Z):p:=h
def Vc(h:p:=by refine fD e0 ?_;exact⟨[],J,.nil,zI,by simp,y,fQ _,Fr.refl,uB⟩):p:=h
def Mw(h:p:=by show gU _ _ _ _ (e.key.M _) e.key;rw[K];exact .J _):p:=h
def Tc(h:p:=by
 intro args w;have h1:fn.name≠ "runtime.NumGoroutine" :=by simpa using hname
 simp[callFunc,hf,h1,hb,mark]):p:=h
def Vw(h:p:=by exact .func (.func f) [] [] #[] #[] (λl e=>by cases e) Z Cy Z Cy):p:=h
def TZ(h:p:=by obtain⟨c,K,D⟩:=WN (P:=P) (w:=w) (X:=X) (yk:=C) h;exact⟨c,by simpa[binOp]using K,D⟩):p:=h
def Wc(h:p:=by
 cases h with
 |any _ h=>exact h
 |one r H' hk h=>exact h.mono λr1 H1 ⟨e1,e2⟩=>by rw[e1,e2];exact hk):p:=h
def VJ(h:p:=by have:=h.wE j hj b hb (gf E) h.tW (h.tW j b hb hj) i g;rw[hE]at this;cases this):p:=h
def Wg(h:p:=by exact .mk nm vi vo va zr zs vt is os as ts h1 h2 h3 h4 h5 h6 h7 h8 h9 h10 h11 h12 h13 (hT _ _ _ _ _ _ _ h14)):p:=h
def Nr(h:p:=by obtain⟨n,c,h⟩:=(q1 k hk).1;exact⟨n,c,λ_=>h⟩):p:=h
def VT(h:p:=by
 rcases hlc with⟨_,e,l,_,rfl⟩|⟨_,rfl,_⟩
 .exact⟨dT,(d e l).2⟩
 exact⟨_,Z⟩):p:=h
def VH(h:p:=by intro h;have h1:=ih λk hk=>h k M;have h2:=h n M;simp only[fV];omega):p:=h
def SD(h:p:=by
 cases i with
 |zero=>exact h.1
 |succ i=>exact h2 i zS (by simpa using hi')):p:=h
def Vj(h:p:=by repeat'(first|exact uF|refine⟨Z,wK ?_⟩|refine bK (λ_=>?_) λ_=>?_)):p:=h
def NN(h:p:=by obtain rfl:cs'=[]:=pG hl.symm;exact .emp _ a cap hsz):p:=h
def Wk(h:p:=by refine ee.c hf ?_;refine⟨_,.j ?_,hv⟩;rcases hv with rfl|⟨k,rfl,_⟩<;>exact iQ _ _):p:=h
def Uv(h:p:=by refine Qw (ps:=[(0,1,a),(1,1,v)]) (by simp[o5,hx,hy]) ?_;simp only[qd,ha,Sl.cells hv];rfl):p:=h
def Mm(h:p:=by obtain⟨⟨s,h1⟩,_⟩:=h e he;rw[h1];exact .J _ s):p:=h
def Uh(h:p:=by obtain⟨r,g1,_⟩:=h.kE p kk hp;rw[g1];exact dY p r g1 λe=>by subst e;rw[h.pV]at hp;cases hp):p:=h
def Nc(h:p:=by obtain⟨s,rfl,h5⟩:=h3 x hx;exact⟨s,Z,by omega⟩):p:=h
def MF(h:p:=by exact⟨_,.j (d _ _ c),_,_,Z,c,λ_=>y⟩):p:=h
def I8(h:p:=by
 conv=>whnf
 exact .ey _ j5):p:=h
def Wn(h:p:=by show m7.dZ k.mp= _;rw[em7,eJ (by omega),a,eJ (by omega)];exact kmp5):p:=h
def UQ(h:p:=by
 have:((m*by_:Nat):Int)<=281474976710656:=by omega
 rw[Int.natCast_mul]at this;omega):p:=h
def Sz(h:p:=by have hlt:p.dV<n.dV:=old p c hp;exact⟨show p.dV<s3.H.dX.dV by omega,hπ p hlt⟩):p:=h
def Us(h:p:=by
 rw[qh];rcases(hL' j).1 hj with hj|rfl
 .rw[h.sub j hj];rfl
 simp):p:=h
def Ns(h:p:=by exact⟨_,H,X,⟨Z,Z⟩,fL.refl _ _ _,hH,.int _ _⟩):p:=h
def Tt(h:p:=by obtain⟨l,W,z⟩:=lK.1 p;obtain⟨q,h9,C⟩:=lK.1 z;exact u W h9 C):p:=h
def VR(h:p:=by
 cases h with
 |any hd h=>exact .any hd (h.mono hk)
 |one r H' h1 h=>exact .one r H' (hk _ _ h1) h):p:=h
def VO(h:p:=by
 conv=>whnf
 exact⟨_,.j (kT (C5 j5 j5 iz)),.inl Z⟩):p:=h
def Sy(h:p:=by
 have:Nat.blt j n=dT:=by rw[lm];exact sc h
 subst zhi;simp only[fA,fG,hx,hi,lG,jm,this,gZ]):p:=h
def Ng(h:p:=by exact⟨_,.j iz,_,Z,λ_=>trivial⟩):p:=h
def Vy(h:p:=by refine tn λhz=>?_;simp only[iD.state,im];exact⟨c.nT.ew.I,hz⟩):p:=h
def Vh(h:p:=by
 conv=>whnf
 exact⟨_,.j (kT Ce),_,_,Z,by simp⟩):p:=h
def Ua(h:p:=by
 cases args1 with
 |nil=>exact⟨hl,λi hi=>by simp at hi⟩
 |cons=>exact hargs.elim):p:=h
def Na(h:p:=by refine tn λhz=>?_;exact⟨_,hz⟩):p:=h
def Tl(h:p:=by
 have h':i<O vs:=by rw[<-h.1];exact hi
 have:=h.2 i hi h';simpa[Array.getD,h']using this):p:=h
def Wd(h:p:=by exact⟨_,.j (kT (C5 j5 j5 iz)),.inr ⟨k,hk,Z⟩⟩):p:=h
def V5(h:p:=by simp only[gA]at K;obtain⟨k,m,rfl⟩:=K;exact⟨k,_,Z,λ_=>Z,λ_=>m⟩):p:=h
def UJ(h:p:=by
 simp only[Kx.with]at hc;split at hc
 .simp;omega
 have:=h.kS c hc;simp;omega):p:=h
def HW(h:p:=by obtain⟨h,_⟩:=oY.1 ha;exact h):p:=h
def S2(h:p:=by
 cases d with
 |zero=>rw[(q13 Z).1]at hs;cases hs
 |succ d'=>exact⟨d',q12 d' Z s hs⟩):p:=h
def Vz(h:p:=by obtain⟨K,r⟩:=jG h;obtain⟨r,m⟩:=jG r;rw[iZ K,iZ r,zh t m]):p:=h
def UZ(h:p:=by
 cases hq:b.W with
 |true=>rfl
 |false=>rw[h.pR j b hb hj hq]at hLj;cases hLj):p:=h
def SJ(h:p:=by
 cases hq:a.W with
 |true=>rfl
 |false=>rw[h.pR i a ha hE hq]at hL;cases hL):p:=h
def ags(h:p:=by obtain⟨i,hi,rfl⟩:=km hy;exact(g4 i hi).dW (λx n h=>jJ.dW h) c hc):p:=h
def SM(h:p:=by
 unfold lG at hn;split at hn
 .cases hn;exact⟨_,qN hx⟩
 cases hn):p:=h
def Vu(h:p:=by
 simp only[Kx.y]at t;split at t
 .rename_i hd;exact hd.1
 cases t):p:=h
def S4(h:p:=by rw[em6,T.gh _ _ _ _ e1,jZ (by have:=R4.eH q _ hq;omega) e2];exact hq):p:=h
def Sw(h:p:=by
 have h:=iZ h;left;have:E=2^O as - 1:=by omega
 rw[this];simp[gf,NB,hi]):p:=h
def VI(h:p:=by
 cases h with
 |any a=>cases a
 |one r D g h=>exact⟨_,g,.one r D Z h⟩):p:=h
def agy(h:p:=by refine ee.c fw ?_;cases f<;>exact uD):p:=h
def agD(h:p:=by have:=s q o hq;rw[f,eJ (by omega),i,eJ (by omega)];exact hq):p:=h
def Vv(h:p:=by have:=R2.eH q o hq;rw[em3,eJ (by omega),eJ (by omega)];exact hq):p:=h
def UF(h:p:=by dsimp only at i;rw[BL (H0:=⟨m,n⟩)]at i;exact⟨s.I,i⟩):p:=h
def SG(h:p:=by subst hji;rw[ha]at hb;cases hb;exact hp.own j a t ha e hqb ht):p:=h
def Uz(h:p:=by have s:=qJ E;exact gu ((getD_some s).symm.trans E)):p:=h
def Tu(h:p:=by exact G4.trans (iG.Gj (ex:=λ_=>False) R4.eH) R.eH qy):p:=h
def Eg(h:p:=by simp[fA,fG,ko,hx,iU]):p:=h
def SY(h:p:=by exact⟨Z,Z,j1 - 1,by omega,W+1,_,by omega,by rw[je (by omega)]⟩):p:=h
def TA(h:p:=by have:=fW O hb;rw[jH,tu]at this;show b.data.size<=1000;omega):p:=h
def Tk(h:p:=by have:=(hq x hx).choose_spec;unfold rG;simp only[hx,th];exact this):p:=h
def Vl(h:p:=by obtain⟨_,_,_,_,_,k3,_⟩:=g.fO W;rw[a];exact .fz _ _ _ _ k3):p:=h
def Vk(h:p:=by rw[hb]at h;obtain⟨l',h1,h2⟩:=ih h;exact⟨l',mL _ h1,h2⟩):p:=h
def SB(h:p:=by
 refine gC ?_;repeat'(first|refine eu g2 ?_|refine eu g3 ?_|refine fD z ?_|refine ee.c f1 ?_|refine ee.c f2 ?_|refine gI (gK _) (wK ?_)|fail)
 refine gC ?_;repeat'(first|refine eu g2 ?_|refine eu g3 ?_|refine eu g5 ?_|refine fD z ?_|refine ee.c f3 ?_|refine ee.c f4 ?_|refine gI (gK _) (wK ?_)|fail)
 refine ee.c f5 ?_;refine hX λm5 n5 F t=>wK ?_;have u:=lS t;have G5:=G4.ew F t;have l:=gE F;refine sK (ip (v:=.agg [.bool dU,.bool dU,.bool dU]) Z Z l Z Z Z) ?_;refine gH λm6 H=>wK ?_;have G6:=G5.put M ju.eH u H;have g2:=gN H (gN F g2);have g3:=gN H (gN F g3);have g5:m6.dZ n2= _:=(fW (T.dZ n2) H).trans NJ;have l:=gE H;have hx6:=G6.old _ _ ju.dY;rw[hA1];conv=>whnf
 rw[hA2];conv=>whnf
 refine eu g3 ?_;refine ee.c fs ?_;refine sK (ip (v:=.agg [.bool s0,.bool s1,.bool s2]) Z Z l Z Z Z) ?_;refine gH λmC n=>wK ?_;have GC:=G6.put M ju.eH u n;have B:=gN n g2;have D:=gN n g3;have g5C:mC.dZ n2= _:=(fW (T.dZ n2) n).trans ((eJ M).trans g5);have x:=gE n;have hxC:=GC.old _ _ ju.dY;have hrC:=GC.old _ _ ju.r;refine gC ?_;repeat'(first|refine eu B ?_|refine eu D ?_|refine eu hxC ?_|refine fD z ?_|refine sK (hlr.1 _ _ _ _ _ _ _ _ Z hrC Z) ?_|refine gI (gK _) (wK ?_)|fail)
 refine gC ?_;repeat'(first|refine eu x ?_|refine eu B ?_|refine eu D ?_|refine ee.c (fr _) ?_|refine ee.c fa ?_|refine gI (gK _) (wK ?_)|fail)
 refine sK (ip (v:=.agg [.bool I,.bool j,.bool N]) Z Z x Z Z Z) ?_;refine gH λU a=>?_;have Q:=GC.put M ju.eH u a;have g2B:=gN a B;have R:=gN a D;have g5B:U.dZ n2= _:=(fW (T.dZ n2) a).trans ((eJ M).trans g5C);have w:=gE a;obtain⟨W,s⟩:∃W,W=n5:=⟨_,Z⟩;rw[<-s];rw[<-s]at Q;have E:n3.dV<W.dV:=by rw[s];omega
 exact IB):p:=h
def Uk(h:p:=by
 refine gC ?_;repeat'(first|refine eu g2 ?_|refine eu g3 ?_|refine fD z ?_|refine ee.c f1 ?_|refine ee.c f2 ?_|refine gI (gK _) (wK ?_)|fail)
 refine gC ?_;repeat'(first|refine eu g2 ?_|refine eu g3 ?_|refine eu g5 ?_|refine fD z ?_|refine ee.c f3 ?_|refine ee.c f4 ?_|refine gI (gK _) (wK ?_)|fail)
 refine ee.c f5 ?_;refine hX λm5 n5 F t=>wK ?_;have u:=lS t;have G5:=G4.ew F t;have l:=gE F;refine sK (ip (v:=.agg [.bool dU,.bool dU,.bool dU]) Z Z l Z Z Z) ?_;refine gH λm6 H=>wK ?_;have G6:=G5.put M ju.eH u H;have g2:=gN H (gN F g2);have g3:=gN H (gN F g3);have g5:m6.dZ n2= _:=(fW (T.dZ n2) H).trans NJ;have l:=gE H;have hx6:=G6.old _ _ ju.dY;rw[hA1];conv=>whnf
 rw[hA2];conv=>whnf
 refine eu g3 ?_;refine ee.c fs ?_;refine sK (ip (v:=.agg [.bool s0,.bool s1,.bool s2]) Z Z l Z Z Z) ?_;refine gH λmC n=>wK ?_;have GC:=G6.put M ju.eH u n;have B:=gN n g2;have D:=gN n g3;have g5C:mC.dZ n2= _:=(fW (T.dZ n2) n).trans ((eJ M).trans g5);have x:=gE n;have hxC:=GC.old _ _ ju.dY;have hrC:=GC.old _ _ ju.r;refine gC ?_;repeat'(first|refine eu B ?_|refine eu D ?_|refine eu hxC ?_|refine fD z ?_|refine sK (hlr.1 _ _ _ _ _ _ _ _ Z hrC Z) ?_|refine gI (gK _) (wK ?_)|fail)
 obtain⟨U,a⟩:∃U,U=mC:=⟨_,Z⟩;have Q:kF m nx U n5:=by rw[a];exact GC
 have g2B:=(fW (T.dZ nx) a).trans B;have R:=(fW (T.dZ n1) a).trans D;have g5B:=(fW (T.dZ n2) a).trans g5C;have w:U.dZ n3=Y (.dY [.bool I,.bool j,.bool N]):=by rw[a,ho0,ho1,ho2];exact x
 obtain⟨W,s⟩:∃W,W=n5:=⟨_,Z⟩;rw[<-a,<-s];rw[<-s]at Q;have E:n3.dV<W.dV:=by rw[s];omega
 exact IB):p:=h
def Th(h:p:=by
 refine gC ?_;repeat'(first|refine eu g2 ?_|refine eu g3 ?_|refine fD z ?_|refine ee.c f1 ?_|refine ee.c f2 ?_|refine gI (gK _) (wK ?_)|fail)
 refine gC ?_;repeat'(first|refine eu g2 ?_|refine eu g3 ?_|refine eu g5 ?_|refine fD z ?_|refine ee.c f3 ?_|refine ee.c f4 ?_|refine gI (gK _) (wK ?_)|fail)
 refine ee.c f5 ?_;refine hX λm5 n5 F t=>wK ?_;have u:=lS t;have G5:=G4.ew F t;have l:=gE F;refine sK (ip (v:=.agg [.bool dU,.bool dU,.bool dU]) Z Z l Z Z Z) ?_;refine gH λm6 H=>wK ?_;have G6:=G5.put M ju.eH u H;have g2:=gN H (gN F g2);have g3:=gN H (gN F g3);have g5:m6.dZ n2= _:=(fW (T.dZ n2) H).trans NJ;have l:=gE H;have hx6:=G6.old _ _ ju.dY;have hA':gD e1 (.ofNat 0)=dU\/(gD e1 (.ofNat 0)=dT/\(!gD e2 (.ofNat 61))=dU):=by cases h:gD e1 (.ofNat 0)<;>cases h':gD e2 (.ofNat 61)<;>simp_all
 obtain⟨U,a⟩:∃U,U=m6:=⟨_,Z⟩;obtain⟨W,s⟩:∃W,W=n5:=⟨_,Z⟩;rw[<-a,<-s];rw[<-a]at G6 g2 g3 g5 l;rw[<-s]at G6;have Q:=G6;have g2B:=g2;have R:=g3;have g5B:=g5;have w:U.dZ n3=Y (.dY [.bool I,.bool j,.bool N]):=by rw[ho0,ho1,ho2];exact l
 have E:n3.dV<W.dV:=by rw[s];omega
 rcases hA' with q1|⟨q1,q2⟩
 .rw[q1];exact IB
 rw[q1];conv=>whnf
 rw[q2];exact IB):p:=h
def NO(h:p:=by refine rg ?_;refine ee.c ha ?_;exact TV):p:=h
def Ex(h:p:=by
 have v:=l ei;conv=>whnf
 refine⟨?_,eR⟩;exact NE):p:=h
def Wm(h:p:=by
 refine bK (λr=>?_) λr=>?_
 .refine fK.j7 (C.fs.h 124) (wK ?_);refine gC ?_;refine ee.c f1 ?_;generalize lh (.ofNat 0) u=bb;cases bb
  .conv=>whnf
   repeat'(first|refine fD e0 ?_|refine fD e1 ?_|refine sK Cl ?_|refine sK (kL (j:=0) Z q2 Z Z IP) ?_|refine⟨Z,wK ?_⟩|fail)
   exact mN
  conv=>whnf
  exact TD
 exact mN):p:=h
def SA(h:p:=by
 refine ee.pi (C.fs.h 68) C.dW kJ (wK ?_);refine fD z ?_;refine ee.c k ?_;refine gC ?_;repeat'(first|refine fD z ?_|refine ee.c fw ?_|refine sK (w2 _ _ _ _ _ _ _ _ _ _ Z Z (by rw[iM];rfl) (by rw[iM];rfl)) ?_|refine fM R ?_|refine ee.c e ?_|refine ee.c fs ?_|refine sK (KZ Z Z Z f) ?_|refine ee.c Q ?_|refine ee.c fk ?_|refine ee.c f1 ?_|refine⟨Z,wK ?_⟩|fail)
 exact mN):p:=h
def NE(h:p:=by
 conv=>whnf
 refine ee.c hm ?_;exact TV):p:=h
def U8(h:p:=by
 cases bb2 with
 |true=>exact absurd (gz hb2) M
 |false=>
 conv=>whnf
 refine iu ?_;exact⟨Z,.iC [] _ ⟨j - 1,by omega,k+1,by omega,Z,Z⟩ ⟨.ey _ hvp,.ey _ fI,.ey _ hvp,.ey _ fI,.ey _ fI,eR⟩ eR⟩):p:=h
def Va(h:p:=by
 rcases jf.1 a with e|e
 .simp only[eZ,f7,fZ]at e;subst e;exact⟨by omega,old _ _ M M ei gd7⟩
 have h8:=(hD7 d e).2;have h9:=B.eH _ _ (hD4 d e).2;exact⟨(hD7 d e).1,old _ _ (hD7 d e).1 M ei h8⟩):p:=h
def V6(h:p:=by
 refine ee.c t ?_;refine eW (λhz=>absurd (FN hz) n) (λhz=>?_);conv=>whnf
 exact zB):p:=h
def Vf(h:p:=by
 repeat'(first|refine⟨Z,wK ?_⟩|refine bK (λ_=>?_) λ_=>?_)
 refine ee.c f2 ?_;repeat'(first|refine⟨Z,wK ?_⟩|refine bK (λ_=>?_) λ_=>?_)
 .exact lX
 exact⟨j - 1,by omega,k+1,by omega,by omega,by rw[je (by omega)]⟩):p:=h
def zy(h:p:=by obtain⟨e,n,Q,E,h0⟩:=Aw g;exact Ew):p:=h
def Tw(h:p:=by
 refine bK (λr=>?_) λr=>?_
 .refine fK.j7 (C.fs.h 128) (wK ?_);refine ee.c fk ?_;refine ee.c fe ?_;refine bK (λm=>?_) λm=>?_
  .exact agp
  exact mN
 exact mN):p:=h
def U0(h:p:=by
 refine bK (λr=>?_) λr=>?_
 .refine fK.j7 (C.fs.h 119) (wK ?_);refine ee.c fr ?_;refine bK (λm=>?_) λm=>?_
  .exact agy
  exact mN
 exact mN):p:=h
def UX(h:p:=by
 conv=>whnf
 refine⟨Z,Z,j - 1,by omega,k+1,by omega,λi hi hik=>?_,by rw[je (by omega)]⟩;by_cases e:i=k
 .subst e;exact hb
 exact zx):p:=h
def VP(h:p:=by
 refine fM h3 ?_;refine bK (λe=>?_) λe=>?_
 .refine fM h6 ?_;refine bK (λe2=>?_) λe2=>?_
  .exact agz
  exact mP
 exact mP):p:=h
def Up(h:p:=by
 refine eW (λr=>?_) (λr=>?_)
 .conv=>whnf
  refine fK.j7 (C.fs.h 126) (wK ?_);refine ee.c fk ?_;exact So
 exact mN):p:=h
def UD(h:p:=by exact hstop mz nE (tk.Bt _ _ mz nE hE (.of sz λq t=>by rw[z q λa=>by have:=(DD q a).2;rw[this]at t;cases t];exact t) F M) F):p:=h
def UK(h:p:=by refine rg ?_;refine ee.c ha ?_;refine ee.c hsh ?_;exact zB):p:=h
def SC(h:p:=by
 refine bK (λr=>?_) λr=>?_
 .refine fK.j7 (C.fs.h 122) (wK ?_);refine gC ?_;exact TD
 exact mN):p:=h
def EM(h:p:=by obtain⟨p,r,v,Q⟩:=WM g;exact Ew):p:=h
def TF(h:p:=by
 refine jy.body C.ey n p Z Z Z (wK ?_);repeat'(first|refine⟨Z,wK ?_⟩|refine bK (λ_=>?_) λ_=>?_)
 exact MN):p:=h
def Wf(h:p:=by
 have u:=g ei;have v:=l ei;conv=>whnf
 refine ee.c t ?_;exact zB):p:=h
def S1(h:p:=by
 have u:=g ei;have v:=l ei;conv=>whnf
 exact UG):p:=h
def Ui(h:p:=by
 refine bK (λe=>?_) λe=>?_
 .refine ee.c hf ?_;exact⟨_,.j iz,_,Z,hb⟩
 exact mP):p:=h
def NQ(h:p:=by
 conv=>whnf
 exact⟨_,.j (Pe _ _),.inr ⟨Z,h⟩⟩):p:=h
def Vn(h:p:=by dsimp only at h⊢;rw[sC]at h⊢;exact tQ h λs' hs'=>J5 hs' λh=>ih h hk):p:=h
def S9(h:p:=by rw[herrs,Rm]at he;obtain⟨f,hf,he⟩:=oX.1 he;obtain⟨i,hi,rfl⟩:=km hf;exact U1):p:=h
def Er(h:p:=by refine ee.c aw ?_;exact MU):p:=h
def Wi(h:p:=by
 conv=>whnf
 refine ee.c hm ?_;refine ee.c hsh ?_;exact zB):p:=h
def TW(h:p:=by
 refine fT.dW hv λy hy c hc=>?_;cases hm with
 |mk _ _ f h1 h2 h3 h4=>exact HL):p:=h
def Mx(h:p:=by exact⟨_,.j (Pe _ _),.inl ⟨Z,h⟩⟩):p:=h
def Tq(h:p:=by exact h2.only (λ_=>False) hG xK (n:=.h) (λ_ _ h=>h)):p:=h
def SF(h:p:=by
 have u:=g ei;have v:=l ei;conv=>whnf
 exact Nd):p:=h
def NL(h:p:=by obtain⟨kt,e,Q⟩:=WL g;exact Ew):p:=h
def HR(h:p:=by
 conv=>whnf
 refine⟨?_,?_⟩
 .exact NE
 exact NO):p:=h
def Et(h:p:=by have u:=g ei;exact NO):p:=h
def SW(h:p:=by
 have u:=g ei;have v:=l ei;conv=>whnf
 exact V6):p:=h
def gC(k:q)(h:Bx_ q->p:=by intro eO;refine eT.jk C.mixed Z (wK ?_);exact eO.1):p:=h ⟨k⟩
def Cq(k:q)(h:Bx_ q->p:=by
 intro eO;refine Cx ?_;refine fK.j7 (C.fs.h 247) (wK ?_);refine eT.jz C.dW (.i (.o .h)) (λj w m=>∃seen:L Nat,(seen=[]\/seen=[0]\/seen=[1]\/seen=[0,1]\/seen=[1,0])/\(0∈seen->¬lr body [109,101,109,60])/\(1∈seen->¬lr body [97,114,114,60])/\O seen+j=2/\
   w=[.J s,.ea .h 0,.J body,.ea (.o (.o .h)) 0]/\m=hp [(.h,.dY AN),(.o .h,.dY [V k,.int .i64 b,V r,.int .i64 e0,.int .i64 e1,.int .i64 e2]),(.i .h,.map FR 2),(.o (.o .h),.b (Y (.i .h)) 2 seen 2)])
  2 Z ⟨[],by simp,by simp,by simp,Z,Z,Z⟩ Z ei Z ?_
 exact eO.1):p:=h ⟨k⟩
def xz(k:q)(h:Bx_ q->p:=by
 intro eO;conv=>whnf
 refine fK.j7 (C.fs.h 154) (wK ?_);refine eT.jz C.dW (.o (.o .h)) (λj w m=>∃seen,(lY 0 seen=dT->¬lr s Gc)/\(lY 1 seen=dT->¬lr s Gd)/\(lY 2 seen=dT->¬lr s uc)/\O (nC seen kD)=j/\w=[.J s,.ea .h 0,.ea (.i .h) 0]/\
   m=hp [(.h,.dY [.int .i32 (.ofNat 0),.int .i32 (.ofNat 0),.J []]),(.o .h,.map kD 3),(.i .h,.b (Y (.o .h)) 3 seen 3)]) 3 Z ⟨[],by simp[lY],by simp[lY],by simp[lY],Z,Z,Z⟩ Z ei Z ?_
 exact eO.1):p:=h ⟨k⟩
def gT(k:q)(h:Bx_ q->p:=by intro eO;have hM:eI=1048576:=Z;exact eO.1 hM):p:=h ⟨k⟩
def iu(k:q)(h:Bx_ q->p:=by intro eO;rw[je (by omega)];exact eO.1):p:=h ⟨k⟩
def EG(k:q)(h:Bx_ q->p:=by
 intro eO;refine hX λm1 n1 em1 en1=>wK ?_;have G1:=(kF.refl ju.eH).ew em1 en1;have g2:=gE em1;refine hX λm2 n2 em2 en2=>wK ?_;have G2:=G1.ew em2 en2;have g2:m2.dZ nx=Y (.dY [.ea k.x 0]):=by rw[em2,eJ (by rw[en1,S.gG];omega)];exact g2
 have g3:=gE em2;have hx2:=G2.old _ _ ju.dY;have hd2:=G2.old _ _ ju.d;exact eO.1 m1 n1 em1 en1 m2 n2 em2 en2 G2 g2 g3 hx2 hd2):p:=h ⟨k⟩
def EJ(k:q)(h:Bx_ q->p:=by
 intro eO;conv=>whnf
 refine hX λN f e h=>wK ?_;have o:=lS h;have G2:=U.ew e h;have g19:=gE e;refine sK (ip (v:=.agg _) Z Z g19 Z Z Z) ?_;refine gH λy R=>wK ?_;have q:=G2.put U.le d.eH o R;have c:=gE R;refine eu c ?_;exact eO.1 N f e h o y R q c):p:=h ⟨k⟩
def Iv(k:q)(h:Bx_ q->p:=by
 intro eO;have hw:=afM (w.alloc (.cells #[.pointer J,.slice J 0 0] 422));have hfresh:=Lib.fresh_isBuilder 422 5 w;have hl:=RX k;have b0:=(Below.refl w.heap.size w).alloc (fQ _) (.cells #[.pointer J,.slice J 0 0] 422);have hsz:(w.alloc (.cells #[.pointer J,.slice J 0 0] 422)).heap.size=w.heap.size+1:=by simp
 exact eO.1 hw hfresh hl b0 hsz):p:=h ⟨k⟩
def EA(k:q)(h:Bx_ q->p:=by intro eO;refine hX λm3 n3 em3 en3=>wK ?_;have G3:=G2.ew em3 en3;have lt1:=lS en1;have lt2:=lS en2;have lt3:=lS en3;have g2:=gN em3 g2;have g3:=gN em3 g3;have g5:=gE em3;have hx3:=G3.old _ _ ju.dY;have hd3:=G3.old _ _ ju.d;exact eO.1 m3 n3 em3 en3 G3 lt1 lt2 lt3 g2 g3 g5 hx3 hd3):p:=h ⟨k⟩
def EF(k:q)(h:Bx_ q->p:=by intro eO;refine sK (ip (v:=.agg _) Z Z g5 Z yones Z) ?_;refine gH λm4 em4=>wK ?_;have G4:=G3.put M ju.eH lt3 em4;have g2:=gN em4 g2;have g3:=gN em4 g3;have g5:=gE em4;have hx4:=G4.old _ _ ju.dY;exact eO.1 m4 em4 G4 g2 g3 g5):p:=h ⟨k⟩
def mQ(k:q)(h:Bx_ q->p:=by intro eO;refine fK.j7 (C.fs.h 261) (wK ?_);exact eO.1):p:=h ⟨k⟩
def Cx(k:q)(h:Bx_ q->p:=by
 intro eO;refine⟨_,f,ee.lM (C.fs.h 219) C.dW x ?_⟩;conv=>whnf
 refine ee.c hfe ?_;refine ee.c R ?_;exact eO.1):p:=h ⟨k⟩
def Wa(k:q)(h:Bx_ q->p:=by
 intro eO;have rowE:∀(q a:S)(w:A),jE nn c.nc a=q->gR nn c.nc q=a->q∈(c.X++own).map (·.1)->m1'.dZ q=Y (.dY [w])->(w.Pure/\Plain w)->a∈((c.X++own).map (·.1)).map (gR nn c.nc)/\AO.dY [w]≠.eY/\pO (λ_=>True) (λ_=>False) (.dY [w])/\∃o1,m1'.dZ (jE nn c.nc a)=Y o1/\kw (jE nn c.nc) (·∈((c.X++own).map (·.1)).map (gR nn c.nc)) id (λ_=>False) o1 (.dY [w]):=λq a w e1 e2 e3 e4 e5=>
  ⟨ep q a e2 e3,by simp,(λi hi=>by
   match i,hi with
   |0,_=>exact e5.1 _ _),_,by rw[e1];exact e4,.dY _ _ Z λi hi _=>by
   match i,hi with
   |0,_=>exact e5.2 _ _ _ _⟩
 simp only[eZ,f7,fZ]at hy;exact eO.1 rowE hy):p:=h ⟨k⟩
def MH(k:q)(h:Bx_ q->p:=by
 intro eO;have hbc:=c.below;have mpl:∀q:S,c.nc.dV<=q.dV->q∉[c.x,c.xd,c.xf,c.xn,c.xr,c.mp]:=λq hq h=>by have:=hbc q h;omega
 have nmp:∀q:S,c.nc.dV<=q.dV->q≠c.mp:=λq hq e=>mpl q hq (by rw[e];simp);have nx':∀q:S,c.nc.dV<=q.dV->q≠c.x:=λq hq e=>mpl q hq (by rw[e];simp);exact eO.1 hbc mpl nmp nx'):p:=h ⟨k⟩
def oF(k:q)(h:Bx_ q->p:=by intro eO;intro c hc;simp only[eZ,f7,fZ]at hc;exact eO.1 c hc):p:=h ⟨k⟩
def zV(k:q)(h:Bx_ q->p:=by intro eO;have B:=g (E _ (mw ..));have D:=k (E _ (mL _ (mw ..)));have f:=r (E _ (mL _ (mL _ (mw ..))));exact eO.1 B D f):p:=h ⟨k⟩
def HZ(k:q)(h:Bx_ q->p:=by intro eO;rw[uz]at hb2;have B2:=b1'.trans b2;have hb2:Lib.IsBuilder 422 5 w.heap.size w.heap.size (Lib.byteCells (nj k).data.toList) w2:=.inr hb2;have l2:(nj k).data.toList.length<=4:=hl;exact eO.1 B2 hb2 l2):p:=h ⟨k⟩
def oV(k:q)(h:Bx_ q->p:=by intro eO;refine gH λm7 em7=>wK ?_;exact eO.1 m7 em7):p:=h ⟨k⟩
def UY(k:q)(h:Bx_ q->p:=by
 intro eO;refine eL.fj (C.fs.h 95) (wK ?_);refine fD e0 ?_;rw[w];conv=>whnf
 rw[n];conv=>whnf
 refine ee.c fa ?_;refine hX (o:=.dY [.J [],V 0,V 0,.J [],.ej,.ej]) λm1 n1 i l=>wK ?_;refine sK (ip (cs':=[.J an,.int .i64 akk,.int .i64 ann,.J Q,avi,avt]) Z Z (by rw[i];exact fY) Z z Z) ?_;refine gH λm2 f=>wK ?_;have a:∀q o,m.dZ q=Y o->m2.dZ q=Y o:=λq o hq=>by exact agD
 have e:eX m2 n1:=by rw[f,i,l];exact s.ew.put kP
 exact eO.1 m1 n1 i l m2 f a e):p:=h ⟨k⟩
def IK(k:q)(h:Bx_ q->p:=by
 intro eO;have f:qj s (.eK [.agg [V 4,.int .i64 0,V 0,.int .i64 0,.int .i64 0,.int .i64 0],.bool dU]):=⟨_,_,Z,⟨4,0,0,0,0,0,by omega,by omega,Z⟩,λ_=>y⟩
 exact eO.1 f):p:=h ⟨k⟩
def my(k:q)(h:Bx_ q->p:=by intro eO;refine Di (wK ?_);exact eO.1):p:=h ⟨k⟩
def Nb(k:q)(h:Bx_ q->p:=by
 intro eO;have kl:=gE em11;have hcan:∀(q:S) o,c.mc.dZ q=Y o->m11.dZ (up nn q)=o.M (up nn):=λq o hq=>by exact agB
 have iw:∀q:S,n2.dV<=q.dV->gR nn c.nc q=q/\jE nn c.nc q=q:=λq hq=>⟨adk M,adl M⟩
 exact eO.1 kl hcan iw):p:=h ⟨k⟩
def sf(k:q)(h:Bx_ q->p:=by intro eO;refine sK (vF Z Z hones Z Z Z) ?_;exact eO.1):p:=h ⟨k⟩
def VN(k:q)(h:Bx_ q->p:=by
 intro eO;conv=>whnf
 refine sK (Qr Z Z Z M Z (room hroom.1 hroom.2)) ?_;refine sK (Qs Z Z Z M) ?_;refine fM hv ?_;refine eT.jz C.dW (.i .h) (λj vs' m=>∃k:Nat,k+j=O vs/\vs'=[.eC .h 1 0 (ij (xs.take k)) (ij xs) dU,v,V (O vs),V k]/\m=hp [(.h,.dY ((xs.take k).flatten++List.replicate (ij xs - ij (xs.take k)) (.J [])))]) (O vs) Z ⟨0,by omega,Z,by rw[Gw];rfl⟩ Z ei Z ?_;exact eO.1):p:=h ⟨k⟩
def Sp(k:q)(h:Bx_ q->p:=by
 intro eO;refine gH λm6 a=>wK ?_;have gl5:m6.dZ n1= _:=(fW (T.dZ n1) a).trans ((eJ M).trans (ho5 _ _ gl4));rw[gl5];refine oV λm7 em7=>?_;have hb7:eX m7 nx5:=by rw[em7,a];exact(F.put k14l5).put kll5
 have ho7:∀q o,q≠c->m2.dZ q=Y o->m7.dZ q=Y o:=λq o t hm=>by exact agq
 have e7:∀q r,m3.dZ q=Y (.dY r)->n2.dV<=q.dV->m7.dZ q=Y (.dY r):=λq r t hn=>by exact agr
 exact eO.1 m6 a m7 em7 hb7 ho7 e7):p:=h ⟨k⟩
def Il(k:q)(h:Bx_ q->p:=by
 intro eO;have pfs:∀(a b c:Nat),∀v∈[A.func (.func a) [] [],.func (.func b) [] [],.func (.func c) [] []],v.Pure:=λa b c v hv=>by exact agA
 exact eO.1 pfs):p:=h ⟨k⟩
def xw(k:q)(h:Bx_ q->p:=by
 intro eO;refine⟨_,a,ee.lM (C.fs.h 105) C.dW nJ ?_⟩;conv=>whnf
 exact eO.1):p:=h ⟨k⟩
def qw(k:q)(h:Bx_ q->p:=by
 intro eO;conv=>whnf
 refine fD e0 ?_;exact eO.1):p:=h ⟨k⟩
def rg(k:q)(h:Bx_ q->p:=by
 intro eO;conv=>whnf
 refine⟨?_,eR⟩;conv=>whnf
 exact eO.1):p:=h ⟨k⟩
def UC(k:q)(h:Bx_ q->p:=by
 intro eO;refine uJ λh=>?_;refine fK.j7 (C.fs.h 183) (wK ?_);have ek:xs.take k=xs:=oG M;rw[ek];have e0:jN .i64 (0 - 0)=Int.ofNat 0:=Z;have e00:jN .i64 (Int.ofNat (ij xs) - Int.ofNat 0)=Int.ofNat (ij xs):=qf M M;rw[e0,e00];have hpr:∀k n,∀c∈(xs.take k).flatten++List.replicate n (A.J []),c.Pure:=λk n c hc=>by exact agE
 exact eO.1 h hpr):p:=h ⟨k⟩
def Mp(k:q)(h:Bx_ q->p:=by
 intro eO;have hr1:fR w (X.only λ_=>False) args cargs.toList:=
  ⟨hr.1,λi hi hj=>(hr.2 i hi hj).dW (hargs _ (fB hi)) (λ_=>fQ _) (λ_ _ h=>h)⟩
 have hcall:=h _ w _ cargs h1 hr1;exact eO.1 hcall):p:=h ⟨k⟩
def M3(k:q)(h:Bx_ q->p:=by intro eO;rw[Mf]at hb4;have B4:=B3.trans b4;have hb4:Lib.IsBuilder 422 5 w.heap.size w.heap.size _ w4:=.inr hb4;have l4:O ((nj k).data.toList++(Lib.itoa z0++[120]))<=29:=Mg z0 r0 l2;exact eO.1 B4 hb4 l4):p:=h ⟨k⟩
def Ez(k:q)(h:Bx_ q->p:=by intro eO;replace h:=ks.1 h;exact eO.1 h):p:=h ⟨k⟩
def zt(k:q)(h:Bx_ q->p:=by intro eO;refine gW hv.1 h ?_;refine fH HP ?_;exact eO.1):p:=h ⟨k⟩
def NP(k:q)(h:Bx_ q->p:=by intro eO;intro m1 h1 hb1;have ob:∀x∈c.X,m1.dZ x.1=Y x.2:=λx hx=>h1 x (jf.2 (.inl hx));have ow:∀x∈own,m1.dZ x.1=Y x.2:=λx hx=>h1 x (jf.2 (.inr hx));rw[hown]at ow;exact eO.1 m1 h1 hb1 ob ow):p:=h ⟨k⟩
def zH(k:q)(h:Bx_ q->p:=by intro eO;have pv:(A.agg [v]).Pure:=jg (by simpa using hv);exact eO.1 pv):p:=h ⟨k⟩
def Ir(k:q)(h:Bx_ q->p:=by intro eO;refine(Tryz.Builder_WriteString w.heap.size w.heap.size [] (nj k) w1 hb1 lW b1'.size).mono ?_;exact eO.1):p:=h ⟨k⟩
def rV(k:q)(h:Bx_ q->p:=by intro eO;refine fK.one _ _ ?_ hcall;exact eO.1):p:=h ⟨k⟩
def U5(k:q)(h:Bx_ q->p:=by
 intro eO;conv=>whnf
 refine gW hvr.1 h ?_;refine fH (lN Z hvr.2 h) ?_;rw[hre];conv=>whnf
 refine gC ?_;refine fK.De (p:=.o .h) (args1:=[.agg [.int .i32 so,.int .i32 va,.J cl],.map .h]) C.dW Z hes.dW hes.dW ⟨.ey _ hpa,.map .h ei,eR⟩ (pt _ _) hcc (wK ?_);exact eO.1):p:=h ⟨k⟩
def IA(k:q)(h:Bx_ q->p:=by intro eO;rw[hsz]at g1;have look1:=look _ k w1 g1;have hb1:=Ee hfresh b1;have b1':=rT b0 b1;exact eO.1 g1 look1 hb1 b1'):p:=h ⟨k⟩
def uJ(k:q)(h:Bx_ q->p:=by
 intro eO;replace h:=iK h;conv=>whnf
 exact eO.1 h):p:=h ⟨k⟩
def BY(k:q)(h:Bx_ q->p:=by intro eO;refine fK.j7 (C.fs.h 118) (wK ?_);refine ee.c fo ?_;exact eO.1):p:=h ⟨k⟩
def Sx(k:q)(h:Bx_ q->p:=by
 intro eO;have g4:m2.dZ b4=Y (.dY [V 0]):=by rw[hold b4 (by omega),em0,eb4];rfl
 have g5:m2.dZ b5=Y (.dY [.ej]):=by rw[hold b5 (by omega),em0,eb5];rfl
 have g6:m2.dZ b6=Y (.dY [V 0]):=by rw[hold b6 (by omega),em0,eb6];rfl
 rw[<-eb6,<-eb5,<-eb4];conv=>whnf
 refine hX λm3 n3 em3 en3=>wK ?_;exact eO.1 g4 g5 g6 m3 n3 em3 en3):p:=h ⟨k⟩
def El(k:q)(h:Bx_ q->p:=by intro eO;have ne:∀a b:S,a.dV≠b.dV->a≠b:=λa b h e=>h CB;exact eO.1 ne):p:=h ⟨k⟩
def Wj(k:q)(h:Bx_ q->p:=by
 intro eO;rw[<-en4];have t4:n4.dV=n3.dV+1:=by rw[en4,S.gG]
 have F4:Fr (λ_=>False) m3 m4:=λq o _ hq=>by have:=B3 q o hq;rw[em4,eJ (by omega),eJ (by omega)];exact hq
 have hx4:=gE em4;have B4:eX m4 n4:=by rw[em4,en4];exact B3.ew.put kP
 exact eO.1 t4 F4 hx4 B4):p:=h ⟨k⟩
def MV(k:q)(h:Bx_ q->p:=by intro eO;have wr:=Tryz.Builder_WriteString w.heap.size w.heap.size _ (xS z0) w3 hb3 (Mh z0 r0 M) B3.size;unfold xS at wr;refine wr.mono ?_;exact eO.1 wr):p:=h ⟨k⟩
def Nu(k:q)(h:Bx_ q->p:=by
 intro eO;have hln:l.dV<nx.dV:=by have:=h0.1;omega
 have s4:∀q:S,q≠l->m4.dZ q=m.dZ q:=λq hq=>by rw[em4,T.gh _ _ _ _ hq]
 exact eO.1 hln s4):p:=h ⟨k⟩
def uC(k:q)(h:Bx_ q->p:=by intro eO;have hx:=jU hH hF hix hv;exact eO.1 hx):p:=h ⟨k⟩
def zX(k:q)(h:Bx_ q->p:=by
 intro eO;have t6:n6.dV=n5.dV+1:=by rw[en6,S.gG]
 exact eO.1 t6):p:=h ⟨k⟩
def tn(k:q)(h:Bx_ q->p:=by intro eO;rw[BL (H0:=⟨m,n⟩)]at hz;exact eO.1 hz):p:=h ⟨k⟩
def Ur(k:q)(h:Bx_ q->p:=by intro eO;have e1:jN .i64 ((Int.ofNat i).tdiv (Int.ofNat 64))=.ofNat (i/64):=JY (by show i/64<9223372036854775808;omega);have e2:jN .u64 ((Int.ofNat i).tmod (Int.ofNat 64))=.ofNat (i%64):=JY (by show i%64<18446744073709551616;omega);rw[e1];exact eO.1 e1 e2):p:=h ⟨k⟩
def S3(k:q)(h:Bx_ q->p:=by intro eO;have kx:m7.dZ (up nn c.x)=Y (.dY ([A.ea c.pm 0,.map c.xd,.map c.xf,.map c.xn,.func (.func 23) [.map c.mp] [],.map c.xr].map (A.M (up nn)))):=(hcan _ _ c.op.dY).2;have kpm:m7.dZ (up nn c.pm)=Y (.dY [c.vf.M (up nn)]):=(hcan _ _ c.op.DM).2;exact eO.1 kx kpm):p:=h ⟨k⟩
def uA(k:q)(h:Bx_ q->p:=by intro eO;refine⟨Z,?_⟩;refine Di ?_;exact eO.1):p:=h ⟨k⟩
def M5(k:q)(h:Bx_ q->p:=by intro eO;have c0':w2.cell? ⟨eC,off,J⟩=Y (.int .i64 z0):=(B2.cell hblk).trans c0;have t0:=tab_below htab B2;rw[rounds_succ];exact eO.1 c0' t0):p:=h ⟨k⟩
def zY(k:q)(h:Bx_ q->p:=by
 intro eO;conv=>whnf
 refine A0 (wK ?_);exact eO.1):p:=h ⟨k⟩
def NA(k:q)(h:Bx_ q->p:=by intro eO;have pt:∀a b:Int,(A.eK [.int .i64 a,.int .i64 b]).Pure:=λa b=>kT (jA fI fI);exact eO.1 pt):p:=h ⟨k⟩
def MR(k:q)(h:Bx_ q->p:=by
 intro eO;have zd':T.dZ nd (mz.set l J)=Y .fX:=by rw[eJ (by omega)];exact zd
 exact eO.1 zd'):p:=h ⟨k⟩
def Nm(k:q)(h:Bx_ q->p:=by
 intro eO;have hfresh:=hs.heap.fresh;rw[hn]at hfresh;have old:∀p c,X.ρ p=Y c\/X.τ p=Y c->Below n p:=by exact agw
 exact eO.1 old):p:=h ⟨k⟩
def Nj(k:q)(h:Bx_ q->p:=by
 intro eO;refine eu g3 ?_;refine fD z ?_;have h2:∃b1:Bool,iT nm [102,117,110,99,46,102,117,110,99]=b1:=⟨_,Z⟩
 exact eO.1):p:=h ⟨k⟩
def Cm(k:q)(h:Bx_ q->p:=by intro eO;rw[hown];intro x hx;simp only[eZ,f7,fZ]at hx;exact eO.1 x hx):p:=h ⟨k⟩
def IV(k:q)(h:Bx_ q->p:=by intro eO;rw[wB,qO]at h1;refine lp h1 (Fz ?_ λ_ _ h=>h);exact eO.1 h1):p:=h ⟨k⟩
def xB(k:q)(h:Bx_ q->p:=by
 intro eO;conv=>whnf
 refine fM hv ?_;exact eO.1):p:=h ⟨k⟩
def wk(k:q)(h:Bx_ q->p:=by
 intro eO;refine⟨Z,?_⟩;conv=>whnf
 exact eO.1):p:=h ⟨k⟩
def NF(k:q)(h:Bx_ q->p:=by intro eO;have bg0:=below_grow w2 n0 os0;rw[<-ew0]at bg0;have hb3:=Ee hb2 bg0;have B3:=rT B2 bg0;exact eO.1 bg0 hb3 B3):p:=h ⟨k⟩
def Cg(k:q)(h:Bx_ q->p:=by intro eO;refine sK (hlook _ _ _ _ _ _ _ _ Z Z Z) ?_;exact eO.1):p:=h ⟨k⟩
def zO(k:q)(h:Bx_ q->p:=by
 intro eO;replace h2:=iK h2;conv=>whnf
 exact eO.1 h2):p:=h ⟨k⟩
def Ud(k:q)(h:Bx_ q->p:=by intro eO;rw[Mf]at hb6;have B6:=B5.trans b6;have hb6:Lib.IsBuilder 422 5 w.heap.size w.heap.size _ w6:=.inr hb6;have l6:O (((nj k).data.toList++(Lib.itoa z0++[120]))++(Lib.itoa z1++[120]))<=54:=Mg z1 r1 l4;exact eO.1 B6 hb6 l6):p:=h ⟨k⟩
def MD(k:q)(h:Bx_ q->p:=by
 intro eO;conv=>whnf
 refine sK (vF Z Z w Z Z Z) ?_;refine gC ?_;refine ee.c g ?_;exact eO.1):p:=h ⟨k⟩
def xQ(k:q)(h:Bx_ q->p:=by
 intro eO;conv=>whnf
 refine ee.c hf ?_;exact eO.1):p:=h ⟨k⟩
def SO(k:q)(h:Bx_ q->p:=by
 intro eO;have z6':T.dZ b6 ((mz.set l J).set nd J)=Y (.dY [w6]):=by rw[eJ (by omega),eJ (by omega)];exact z6
 refine MR λzd'=>?_;conv=>whnf
 rw[zd'];exact eO.1 z6'):p:=h ⟨k⟩
def Nx(k:q)(h:Bx_ q->p:=by intro eO;have C':=c.Lv C hfr;have g:=c.fg hfr;have Fu:GS c.E c.K c.pm c.ps:=c.sW.resolve_right M;exact eO.1 C' g Fu):p:=h ⟨k⟩
def IC(k:q)(h:Bx_ q->p:=by intro eO;have g3:=gE em3;refine mF g3 ?_;refine gH λm4 em4=>wK ?_;exact eO.1 g3 m4 em4):p:=h ⟨k⟩
def M1(k:q)(h:Bx_ q->p:=by
 intro eO;conv=>whnf
 refine sK (ha1 _ _ _ _ _ _ Z Z) ?_;refine sK (ha2 _ _ _ _ _ (λq o t _=>t) Z) ?_;exact eO.1):p:=h ⟨k⟩
def Vg(k:q)(h:Bx_ q->p:=by intro eO;have:(w.drew.alloc (.cells (d++b).toArray l)).heap[w.heap.size]? =Y (.cells (d++b).toArray l):=qK w.drew (.cells (d++b).toArray l);rw[lg,mj this];exact eO.1):p:=h ⟨k⟩
def Sv(k:q)(h:Bx_ q->p:=by
 intro eO;have B2:eX m2 n2:=by rw[em2,em1,en2,en1];exact hb.ew.ew
 have F2:Fr (λ_=>False) m m2:=λq o _ hq=>by have:=hb q o hq;rw[em2,eJ (by omega),em1,eJ (by omega)];exact hq
 exact eO.1 B2 F2):p:=h ⟨k⟩
def UP(k:q)(h:Bx_ q->p:=by intro eO;rw[hz];refine xB ?_;refine eT.jz C.dW (.h) (λj vs' m=>∃k:Nat,k+j=O vs/\vs'=[.ej,v,V (O vs),V k]/\m=.e) (O vs) Z ⟨0,by omega,Z,Z⟩ Z ei Z ?_;exact eO.1):p:=h ⟨k⟩
def Cf(k:q)(h:Bx_ q->p:=by intro eO;refine sK (jO Z (mY h')) ?_;exact eO.1):p:=h ⟨k⟩
def Um(k:q)(h:Bx_ q->p:=by intro eO;refine gW a.1 h ?_;refine sK (nY (k:=4) Z a.2 h M (by rw[u];rfl)) ?_;refine gW b.1 n ?_;refine sK (nY (k:=0) Z b.2 n M (by rw[I];rfl)) ?_;exact eO.1):p:=h ⟨k⟩
def B9(k:q)(h:Bx_ q->p:=by intro eO;refine sK Cl ?_;exact eO.1):p:=h ⟨k⟩
def MW(k:q)(h:Bx_ q->p:=by intro eO;refine⟨v,hv▸main I j N,λm nx ju=>?_⟩;refine eL.fj (C.fs.h 33) (wK ?_);exact eO.1 m nx ju):p:=h ⟨k⟩
def Uq(k:q)(h:Bx_ q->p:=by
 intro eO;have hf:∀i,me (Array.replicate n dU) i=dU:=by intro i;simp only[me,xT,Array.getElem?_replicate];split<;>rfl
 have hb:∀i,gf 0 i=dU:=by intro i;simp[gf]
 exact eO.1 hf hb):p:=h ⟨k⟩
def S6(k:q)(h:Bx_ q->p:=by
 intro eO;have f:qj s (.eK [.agg [V 4,.int .i64 0,V 0,.int .i64 0,.int .i64 0,.int .i64 0],.bool dT]):=⟨_,_,Z,⟨4,0,0,0,0,0,by omega,by omega,Z⟩,λ_=>y⟩
 exact eO.1 f):p:=h ⟨k⟩
def IU(k:q)(h:Bx_ q->p:=by
 intro eO;have t2:n2.dV=n1.dV+1:=by rw[en2,S.gG]
 exact eO.1 t2):p:=h ⟨k⟩
def Ss(k:q)(h:Bx_ q->p:=by intro eO;refine eT.jz C.dW (.h) (λj vs' m=>∃k:Nat,k+j=O vs/\vs'=[v,V (ij (xs.take k)),v,V (O vs),V k]/\m=.e) (O vs) Z ⟨0,by omega,Z,Z⟩ Z ei Z ?_;exact eO.1):p:=h ⟨k⟩
def Jd(k:q)(h:Bx_ q->p:=by
 intro eO;have t1:n1.dV=nx.dV+1:=by rw[en1,S.gG]
 exact eO.1 t1):p:=h ⟨k⟩
def Vi(k:q)(h:Bx_ q->p:=by intro eO;refine ee.fj (C.fs.h 12) C.dW (it pv) (wK ?_);refine eT.pd (λj w=>∃k z,k+j=O R/\w=[v,.int .i64 z,V k]) (O R) Z ⟨0,_,by omega,Z⟩ ?_;exact eO.1):p:=h ⟨k⟩
def Wh(k:q)(h:Bx_ q->p:=by intro eO;refine eu hr4 ?_;refine sK (nH (k:=O vals1) hv4 (by simp[gp]) M Z Z Z Z nw) ?_;exact eO.1):p:=h ⟨k⟩
def S7(k:q)(h:Bx_ q->p:=by intro eO;refine fM q9 ?_;refine eT.pd (λj w=>∃k:Nat,k+j=O (fu E)/\w=[.fz p 0,.ea .h 0,f,V (O (fu E)),V k]) (O (fu E)) Z ⟨0,by omega,Z⟩ ?_;exact eO.1):p:=h ⟨k⟩
def VA(k:q)(h:Bx_ q->p:=by
 intro eO;have vfF:gU (gR nn c.nc) (·∈(c.X++own).map (·.1)) (up nn) c.DF (c.vf.M (up nn)) c.vf.w:=by refine(ni.pl c.op.sW λp hp=>?_).iE;exact TT
 exact eO.1 vfF):p:=h ⟨k⟩
def Nk(k:q)(h:Bx_ q->p:=by
 intro eO;have q0:¬9223372036854775807<O (Lib.itoa z0)+1:=by have:=qv z0 r0;omega
 exact eO.1 q0):p:=h ⟨k⟩
def VF(k:q)(h:Bx_ q->p:=by
 intro eO;rw[o8 (s:=⟨F,D,⟨m,n⟩⟩) Z Z Z,hdst]at hd;have hbit:∀j,gf (E|||2^i) j=dT->gf E j=dT\/j=i:=by exact M7
 have hown:=hp.own i a d ha hdst hq;exact eO.1 hd hbit hown):p:=h ⟨k⟩
def SV(k:q)(h:Bx_ q->p:=by intro eO;refine sK (Do (ps:=[(0,1,.J nm),(3,1,ra),(6,1,kV B)]) (cs:=[.J nm,.ej,.ej,ra,.ej,.ej,kV B]) Z (by simp only[qd,cra,ebo];rfl)) ?_;exact eO.1):p:=h ⟨k⟩
def Sm(k:q)(h:Bx_ q->p:=by
 intro eO;have hD':∀p∈D,Below n p:=by intro p hp;have:=lf.1 hD p hp;rw[lm]at this;exact j0 this
 have hnx':n.dV<=nx.dV:=by rw[jS]at hnx;exact hnx
 exact eO.1 hD' hnx'):p:=h ⟨k⟩
def Iw(k:q)(h:Bx_ q->p:=by
 intro eO;conv=>whnf
 refine fK.j7 (C.fs.h 318) (wK ?_);exact eO.1):p:=h ⟨k⟩
def Ug(k:q)(h:Bx_ q->p:=by intro eO;have ep:∀q a:S,gR nn c.nc q=a->q∈(c.X++own).map (·.1)->a∈((c.X++own).map (·.1)).map (gR nn c.nc):=λq a h1 h2=>gS.2 ⟨q,h2,h1⟩;exact eO.1 ep):p:=h ⟨k⟩
def UM(k:q)(h:Bx_ q->p:=by
 intro eO;have pva2:va2.Pure:=Sl.dW q1 q2.dW;have pvo2:vo2.Pure:=fT.dW q4 λy hy c hc=>by obtain⟨i,hi,rfl⟩:=km hy;exact(q7 i hi).dW c hc
 exact eO.1 pva2 pvo2):p:=h ⟨k⟩
def Wl(k:q)(h:Bx_ q->p:=by intro eO;have wr:=Tryz.Builder_WriteString w.heap.size w.heap.size _ (xS z1) w5 hb5 (Mh z1 r1 M) B5.size;unfold xS at wr;refine wr.mono ?_;exact eO.1 wr):p:=h ⟨k⟩
def UT(k:q)(h:Bx_ q->p:=by
 intro eO;have hvp:v.Pure:=Sl.dW hv λc hc=>by exact TU
 have hroom:ij xs*16<=kr/\ij xs<=kr:=by simp only[kr];omega
 exact eO.1 hvp hroom):p:=h ⟨k⟩
def Uw(k:q)(h:Bx_ q->p:=by
 intro eO;have pvb:vb.Pure:=fT.dW g1 λy hy c hc=>by exact ags
 conv=>whnf
 refine sK (vF Z Z (by rw[fN,Sl.one g1.1];rfl) Z Z Z) ?_;exact eO.1 pvb):p:=h ⟨k⟩
def TC(k:q)(h:Bx_ q->p:=by
 intro eO;have g3:=gE R;have l:∀q o,m2.dZ q=Y o->q≠f.qD->m3.dZ q=Y o:=λq o t hx=>by rw[R,T.gh _ _ _ _ hx];exact t
 exact eO.1 g3 l):p:=h ⟨k⟩
def Ms(k:q)(h:Bx_ q->p:=by intro eO;refine ee.fj (C.fs.h 233) C.dW (it (jg pcs)) (wK ?_);exact eO.1):p:=h ⟨k⟩
def VU(k:q)(h:Bx_ q->p:=by
 intro eO;have putF:∀(F:T A)(t:S),(St.I ⟨F,rD,⟨m,n⟩⟩ a.dst v H').F.dZ t=if a.dst=Y t then Y v else F.dZ t:=by exact agx
 exact eO.1 putF):p:=h ⟨k⟩
def S8(k:q)(h:Bx_ q->p:=by
 intro eO;have W:∀(o:Obj)(w:World),(newObj o).run P w=.ok w.heap.size (w.alloc o):=λo w=>by simp only[newObj,Sem.run,World.alloc]
 exact eO.1 W):p:=h ⟨k⟩
def Mz(k:q)(h:Bx_ q->p:=by
 intro eO;conv=>whnf
 refine eu g3 ?_;refine sK (JZ Z z Z) (wK ?_);exact eO.1):p:=h ⟨k⟩
def V7(k:q)(h:Bx_ q->p:=by
 intro eO;have c:qi (.agg [V 0,.int .i64 z,V 0,.int .i64 0,.int .i64 0,.int .i64 0]):=⟨0,z,0,0,0,0,by omega,by omega,Z⟩
 exact eO.1 c):p:=h ⟨k⟩
def UI(k:q)(h:Bx_ q->p:=by intro eO;have hrun:=run_callFunc_extern (P:=P) h1 h3 h4 h5 h6 cargs w;rw[hcargs,Lib.run_indexByteString]at hrun;rw[hcargs,hrun];exact eO.1):p:=h ⟨k⟩
def TJ(k:q)(h:Bx_ q->p:=by intro eO;have ps:∀(t:L Nat)(e:Int),(A.eK [.J t,.int .i64 e]).Pure:=λt e=>kT Ce;exact eO.1 ps):p:=h ⟨k⟩
def TK(k:q)(h:Bx_ q->p:=by intro eO;refine fK.C9 C.dW Z rf rf (jA hpz fI) iz hcall ?_;exact eO.1):p:=h ⟨k⟩
def MT(k:q)(h:Bx_ q->p:=by intro eO;refine jy.body C.ey has hbo h6 Z Z (wK ?_);rw[h6];exact eO.1):p:=h ⟨k⟩
def U6(k:q)(h:Bx_ q->p:=by
 intro eO;conv=>whnf
 refine gW hv q ?_;refine fH (oA Z q) ?_;rw[U];conv=>whnf
 refine ee.c fr ?_;exact eO.1):p:=h ⟨k⟩
def Ty(k:q)(h:Bx_ q->p:=by
 intro eO;conv=>whnf
 refine gW o.1 h ?_;refine sK (nY (k:=2) Z o.2 h M Ej) ?_;exact eO.1):p:=h ⟨k⟩
def M(h:p:=by omega):p:=h
def ei(h:p:=by simp):p:=h
def eU(h:p:=by kernel_rfl):p:=h
def fI(h:p:=by exact iQ _ _):p:=h
def nw(h:p:=by exact room xJ xJ):p:=h
def iz(h:p:=by exact sD _):p:=h
def rZ(h:p:=by exact⟨⟨eV Z,fH Z (jB d)⟩,⟨eV Z,fH Z (jB (pfs _ _ _))⟩,eR⟩):p:=h
def j5(h:p:=by exact jX _):p:=h
def gP(h:p:=by decide):p:=h
def mi(h:p:=by exact λe=>by have:=fW S.dV e;omega):p:=h
def kP(h:p:=by rw[S.gG];omega):p:=h
def lW(h:p:=by simp;omega):p:=h
def kJ(h:p:=by exact it qz):p:=h
def tm(h:p:=by exact⟨.L (eV Z) Z,.ea (.o .h) 0 (eV Z),.ey _ iz,eR⟩):p:=h
def rX(h:p:=by exact⟨eV Z,fH Z (jB rf)⟩):p:=h
def mR(h:p:=by exact λp e=>by cases e):p:=h
def pH(h:p:=by exact .inl ⟨by simp,by simp,Z⟩):p:=h
def ly(h:p:=by simpa using h):p:=h
def tj(h:p:=by exact⟨.L (eV Z) Z,.L (eV Z) Z,.ey _ iz,eR⟩):p:=h
def BT(h:p:=by exact⟨⟨eV Z,fH Z (jB pcs)⟩,⟨eV Z,fH Z (jB (pfs _ _ _))⟩,eR⟩):p:=h
def pC(h:p:=by intro x y z h;cases h):p:=h
def uD(h:p:=by exact⟨_,.j (Gu _ _ _),.mk _ _ _⟩):p:=h
def mJ(h:p:=by exact λ_=>Z):p:=h
def xP(h:p:=by exact⟨0,by omega,λi _ h=>by omega,Z,Z⟩):p:=h
def re(h:p:=by exact .inl ⟨by simp,Z⟩):p:=h
def py(h:p:=by exact λe=>by cases e):p:=h
def IY(h:p:=by exact⟨.L (eV Z) Z,.L (eV Z) Z,.ey _ (jg (pX _)),.ey _ fI,eR⟩):p:=h
def NG(h:p:=by dsimp only;omega):p:=h
def we(h:p:=by exact⟨Z,λi h=>by simp at h⟩):p:=h
def ri(h:p:=by exact λh=>absurd h gP):p:=h
def tp(h:p:=by exact λq hq=>by cases hq):p:=h
def Jb(h:p:=by exact⟨E.below,λ_ _ h=>h,λ_ _ h=>h,E.u,E.fF,E.cells,E.rj,E.tz⟩):p:=h
def Ik(h:p:=by exact⟨⟨eV Z,fH Z (jB d)⟩,⟨eV Z,fH Z (jB l)⟩,eR⟩):p:=h
def EP(h:p:=by exact⟨eV Z,fH Z (jB (by simp[sD]))⟩):p:=h
def rf(h:p:=by simp[iQ]):p:=h
def qy(h:p:=by exact λ_ e=>e.elim):p:=h
def xE(h:p:=by exact⟨iQ _ _,.int _ _⟩):p:=h
def uB(h:p:=by exact λq e=>by cases e):p:=h
def Ix(h:p:=by exact⟨.abw (eV Z) Z,.ey _ hvp,.ey _ fI,.ey _ fI,eR⟩):p:=h
def zp(h:p:=by exact λe=>by rw[<-e]at W;omega):p:=h
def xG(h:p:=by rw[hb i]at h;cases h):p:=h
def nJ(h:p:=by exact it j5):p:=h
def Ti(h:p:=by exact⟨rX,⟨eV Z,fH Z (jB (by simpa using l))⟩,⟨eV Z,fH Z .fX⟩,⟨eV Z,fH Z (Pi (eV Z) Z ⟨.L (eV Z) Z,eR⟩)⟩,eR⟩):p:=h
def Iq(h:p:=by exact⟨eV Z,fH Z (jB (pX [F,e,B,l]))⟩):p:=h
def IN(h:p:=by exact⟨eV Z,fH Z (jB (pX [0,0,0,0]))⟩):p:=h
def qz(h:p:=by exact o9 _ _):p:=h
def sd(h:p:=by exact j _ ei):p:=h
def Ig(h:p:=by exact⟨eV Z,fH Z (jB (by simpa using pvb))⟩):p:=h
def Cs(h:p:=by exact⟨eV Z,fH Z (jB u)⟩):p:=h
def xD(h:p:=by exact λq c h _=>h.elim):p:=h
def xJ(h:p:=by unfold kr;omega):p:=h
def NJ(h:p:=by exact (eJ M).trans ((fW (T.dZ n2) F).trans ((eJ M).trans g5))):p:=h
def BV(h:p:=by exact .inr ⟨_,by simp,Z,Z⟩):p:=h
def Nf(h:p:=by exact⟨_,by rw[(iw _ (by dsimp only;omega)).1];exact kl,zj⟩):p:=h
def Cj(h:p:=by exact λ_ _ _ e=>by cases e):p:=h
def zZ(h:p:=by simpa using d):p:=h
def Ei(h:p:=by exact λ_ _ _ _ _ e=>by cases e):p:=h
def TP(h:p:=by intro x v;simp only[eZ,f7,fZ]at v;rcases v with rfl|rfl;exact jg (pX _);exact iQ _ _):p:=h
def Uf(h:p:=by exact λi C=>by simp at C):p:=h
def B0(h:p:=by exact λ_ _ e=>by cases e):p:=h
def Wp(h:p:=by exact⟨⟨eV Z,fH Z (jB D)⟩,⟨eV Z,fH Z (jB E)⟩,⟨eV Z,fH Z (rL d.dW)⟩,eR⟩):p:=h
def zS(h:p:=by simpa using hi):p:=h
def ET(h:p:=by exact λq t=>o q (by simp[t])):p:=h
def uy(h:p:=by exact jA j5 j5):p:=h
def Mu(h:p:=by exact⟨.ey _ j5,.L (eV Z) Z,.L (eV Z) Z,eR⟩):p:=h
def zT(h:p:=by exact⟨.fE,mR,Z,Z⟩):p:=h
def EO(h:p:=by exact λi h _=>by simp at h):p:=h
def zI(h:p:=by exact λx h=>by cases h):p:=h
def Cz(h:p:=by exact λ_ e=>by cases e):p:=h
def Cd(h:p:=by simp[jF.X]):p:=h
def zJ(h:p:=by exact λ_ _ _ _=>Z):p:=h
def xR(h:p:=by exact oA Z h):p:=h
def Cc(h:p:=by exact nW Z Z Z M):p:=h
def IM(h:p:=by exact λe=>by rw[e]at this;omega):p:=h
def zU(h:p:=by exact .inl ⟨Z,Z⟩):p:=h
def MZ(h:p:=by exact⟨0,_,by omega,λi _ h=>by omega,Z,Z⟩):p:=h
def xo(h:p:=by simp[v]):p:=h
def CB(h:p:=by rw[e]):p:=h
def CC(h:p:=by exact ZZ Z h):p:=h
def CA(h:p:=by exact λ_ _ _=>Z):p:=h
def zL(h:p:=by simp[iQ,jX]):p:=h
def IE(h:p:=by have:=iK h;omega):p:=h
def uF(h:p:=by exact⟨_,.j iz,_,Z⟩):p:=h
def Es(h:p:=by exact λ_ h=>by cases h):p:=h
def IQ(h:p:=by exact⟨e1,by rw[e2];exact h3⟩):p:=h
def TX(h:p:=by exact⟨.L (eV Z) Z,.ey _ W,.ey _ fI,.ey _ y,.ey _ fI,.ey _ fI,eR⟩):p:=h
def H6(h:p:=by show _ <=X.U c;omega):p:=h
def NH(h:p:=by exact⟨.inr ⟨_,by simp,Z,Z⟩,by simp⟩):p:=h
def Uu(h:p:=by exact λy hy=>by simp only[eZ,f7,fZ]at hy;rcases hy with rfl;exact⟨_,Z⟩):p:=h
def TI(h:p:=by rw[T.gh _ _ _ _ (λe=>by rw[e,I]at N;cases N)];exact N):p:=h
def M2(h:p:=by exact⟨eV Z,fH Z (rL hes.dW)⟩):p:=h
def UU(h:p:=by exact⟨.Pj (eV Z) Z,.L (eV Z) Z,.ey _ l,.ey _ fI,.ey _ fI,eR⟩):p:=h
def Cl(h:p:=by exact jO Z hel):p:=h
def Im(h:p:=by exact⟨b,by simp[wt,Q]⟩):p:=h
def xK(h:p:=by exact λp o h=>by simp at h):p:=h
def Ja(h:p:=by rw[hf i]at h;cases h):p:=h
def Ve(h:p:=by exact vF Z Z (by rw[fN,fN,Sl.one q1,Sl.one q4.1];rfl) Z Z Z):p:=h
def ES(h:p:=by exact λh=>by cases h):p:=h
def EE(h:p:=by simpa using hl):p:=h
def S0(h:p:=by exact⟨eV Z,fH Z (wL ⟨.ey _ y,.map (.o .h) (eV Z),eR⟩)⟩):p:=h
def V4(h:p:=by exact⟨eV Z,fH Z (wL ⟨.ey _ g,.map (.o .h) (eV Z),eR⟩)⟩):p:=h
def VB(h:p:=by exact⟨by show A.bool _ =A.bool (lh (Sa.ju o) (Sa.ju p));rw[hlt],i⟩):p:=h
def IP(h:p:=by rw[iM];exact h0):p:=h
def Iu(h:p:=by simpa using n):p:=h
def Ev(h:p:=by simpa using b):p:=h
def Ep(h:p:=by simpa using F):p:=h
def H9(h:p:=by simpa using C):p:=h
def Ek(h:p:=by simp[Kx.with]):p:=h
def Cy(h:p:=by exact λi h=>by simp at h):p:=h
def Nw(h:p:=by exact⟨eV Z,fH Z (jB hpx)⟩):p:=h
def I6(h:p:=by rw[<-hl];exact m):p:=h
def We(h:p:=by exact⟨_,by simp[binOp,Op.stringOp];rfl,by rw[o];exact .bool _⟩):p:=h
def Tb(h:p:=by exact⟨_,by simp[binOp,Op.stringOp];rfl,by rw[d];exact .bool _⟩):p:=h
def Vq(h:p:=by exact⟨eV Z,fH Z (jB (by simpa using⟨pva2,pvo2⟩))⟩):p:=h
def MQ(h:p:=by exact λw hw=>by simp at hw;omega):p:=h
def IJ(h:p:=by exact hρ'.symm.trans hρ):p:=h
def Je(h:p:=by exact λe h=>by cases h):p:=h
def SX(h:p:=by exact vF Z Z (by rw[fN,fN,Sl.one q1];rfl) Z Z Z):p:=h
def NM(h:p:=by exact hl.1 _ _ _ _ _ _ _ _ Z hd3 Z):p:=h
def MX(h:p:=by exact hl.1 _ _ _ _ _ _ _ _ Z hd2 Z):p:=h
def VX(h:p:=by obtain⟨_,c,_,_,_,rfl,_,h6⟩:=g;exact⟨c,h6⟩):p:=h
def ED(h:p:=by exact Za Z Z lW):p:=h
def Ce(h:p:=by exact jA j5 fI):p:=h
def Nq(h:p:=by exact⟨.ey _ j5,.ey _ fI,Z⟩):p:=h
def IW(h:p:=by simp[kC]):p:=h
def Nv(h:p:=by as_aux_lemma=>kernel_rfl):p:=h
def Vb(h:p:=by show Nat.beq (O (iq ws)) 4=dT;rw[nI,g];rfl):p:=h
def Uo(h:p:=by show Nat.beq (O (iq _)) 4=dT;rw[nI,K];rfl):p:=h
def Nn(h:p:=by rw[sA hp];exact K):p:=h
def UW(h:p:=by have:=(hss4 _ (fB og)).2;unfold kr;omega):p:=h
def HP(h:p:=by exact lN Z hv.2 h):p:=h
def I0(h:p:=by exact λ_ _ h=>h.elim):p:=h
def Jc(h:p:=by simpa using hj):p:=h
def SN(h:p:=by exact λe=>by have:=R.eY _ e;rw[hq]at this;cases this):p:=h
def Ct(h:p:=by simp[k]):p:=h
def My(h:p:=by show _ <=1048576;simp):p:=h
def Nt(h:p:=by rw[Gp hp];exact K):p:=h
def B8(h:p:=by cases h):p:=h
def US(h:p:=by show nn.dV+c.nc.dV - 1<=iX.dV;omega):p:=h
def SR(h:p:=by show l.getD i dU=dU;rw[<-dd l i hlt];exact h1):p:=h
def U7(h:p:=by have:=(W _ (fB hi1)).2;unfold kr;omega):p:=h
def IT(h:p:=by exact⟨.G,mR,Z,Z⟩):p:=h
def ME(h:p:=by simpa using o):p:=h
def HY(h:p:=by simpa using g):p:=h
def Jf(h:p:=by simpa using c):p:=h
def HS(h:p:=by simpa using a):p:=h
def Ii(h:p:=by simpa using K):p:=h
def Ej(h:p:=by rw[g];rfl):p:=h
