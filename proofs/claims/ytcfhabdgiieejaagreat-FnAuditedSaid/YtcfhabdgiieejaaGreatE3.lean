/- A part. -/
import Derived.Test.YtcfhabdgiieejaaGreatE2
import Derived.Laws.IdiomStrings
import Derived.JoinedOf
set_option linter.unusedVariables false
set_option linter.unusedSimpArgs false
set_option maxHeartbeats 4000000
open Bool renaming and_eq_true->hV,not_eq_true'->aaw,not_eq_true->abC,or_eq_true->aan,not_true->abh,false_or->aaC
open Array renaming replicate->aai,getD_eq_getD_getElem?->abv,getElem?_setIfInBounds_ne->abB,setIfInBounds_comm->abE,toArray_toList->aaU
open List renaming all_eq_true->aag,getElem?_append_right->aao,getElem?_append_left->aaq,mem_of_mem_take->aas,flatten_append->aaL,eq_nil_iff_forall_not_mem->abx,getElem?_toArray->aaT,getElem?_eq_some_iff->aaa,length_take->aaM,take_append_drop->aby,eq_nil_of_length_eq_zero->aaQ,replicate->aac,getElem?_set->abu,getElem?_cons_succ->abG,range->f5,filter_eq_self->abz,mem_map->aba,length_append->aaz,getElem?_map->aaN,any_eq_false->abA,any_eq_true->aax,map_toArray->aaV,map_cons->aau,map_take->aaZ,mem_cons->aaf,map_nil->aaJ
open Nat renaming beq->d0,min_eq_left->aaG,lt_or_ge->aat,eq_of_beq_eq_true->aad,zero_add->aaj,ble->aar,zero_le->aap,le_of_ble_eq_true->aaF,lt_of_lt_of_le->aay,lt_succ_of_lt->abH,le_refl->aah,ne_of_lt->abI,add_zero->aaR,add_mul->abD
open Option renaming bind_eq_some_iff->abw
namespace Go.AM
open Go.RowKit
variable {t ty nt:TypeId} {i n e N nx nx' q sz k by_ id j:Nat} {s st:Go.AM.St} {els:Go.AM.Lad} {g gy b:Bool} {a:Act} {w:World} {f:FuncId} {p G R R1:Prop} {P:Program} {fn:Func} {sl sl0:Go.AM.Lab} {out:Go.AM.T} {nob nw:Go.AM.Laa} {u:Value} {cs:List Go.AM.C} {res:List Go.AM.RV} {h:Int} {ρ α:Type} {dj:Tmp} {X:Code} {r:ρ}
section
variable {P:Program} {N:Nat} {d:Tmp} {tt:TypeId} {ps:String} {af:Array Edge} {gd:Option (Nat×Bool)} {x y:Operand} {sl sl1 sl2:Lab} {ob ob1:Laa} {nx:Nat} {AQ:Exit->St->Prop}
theorem Lz {o s:Nat} {els:List (Int×List Int)} {hole:ML} {e:Int×List Int} {ys:List Int} [ht:TyN P t 1] (hx:opT sl x= .v (.c (.e o 2 i 1))) (hy:opT sl y= .v (.c (.w s n))) (ho:go ob o=some (.cxo o ty nt els hole)) (hs:go ob s=some (.row nt 1 (ys.map eI) g true))
 (hn:ys.length=n) (he:els[i]?=some e) (hh:hole=none\/∃A n k,hole=some (i,A,n,k)) (hrv:rsv s=false) (hso:d0 s o=false) (hol:nlt o nx=true) (h1:oF s sl=some sl1) (h2:CL s sl1=some sl2) (h3:B6 s (B6 o ob)=ob1) (h4:okO s s ob1=true):
 AWO P N ⟨none,.store t x y,tt,ps,af,gd⟩ ⟨sl,ob,nx⟩ ⟨sl2,(o,.cxo o ty nt (els.set i (e.1,ys)) none)::ob1,nx⟩:=by
 intro cx E a w hR
 have hx1:=hR.op x;rw[hx] at hx1
 have hy1:=hR.op y;rw[hy] at hy1
 have ok:=hR.ok
 obtain⟨b,c,hr,hu⟩:=hx1
 obtain⟨hnn,b',c',hd,hr',hS,hF⟩:=Dz he (hR.obs o _ ho)
 rw[hr] at hr';cases hr'
 obtain⟨bs,cs,hrs,hv⟩:=hy1
 obtain⟨bs',cs',arrs,hrs',hhs,has,hls,hcs,_,hrds,hFs,_⟩:=hR.obs s _ hs
 rw[hrs] at hrs';cases hrs'
 have hFs:=hFs rfl
 have hso:s≠o:=jl hso
 have hbb:bs≠b:=λe=>by subst e;exact hso (ok.inj _ _ _ _ _ hrs hr)
 have hil:i<els.length:=(aaa.1 he).1
 have hrow:=DW.of hhs has hls hcs hrds
 obtain⟨arr,hh0,ha0⟩:=hS.blk
 have hvc:(a.eval y).cells= #[a.eval y]:=by rw[hv];rfl
 have hbound:i*2+1+1<=arr.size:=by have:=hS.len;omega
 have hrun:=uD (P:=P) (t:=t) (n:=1) (k:=i*2+1) (u:=a.eval y) (w:=w) (b:=b) (by rw[hvc];rfl) (by rw[hvc];simp;rw[hv];rfl) hh0 hbound
 unfold Oper.wp
 simp only[execOp,hu,Sem.run_bind,hrun,Result.andThen_ok,Sem.run_pure,Oper.upon_skip,Act.put]
 obtain⟨arr',harr'⟩:∃arr',arr'=(arr.toList.take (i*2+1)++(a.eval y).cells.toList++arr.toList.drop (i*2+1+1)).toArray:=⟨_,rfl⟩
 rw[<-harr']
 have hsz':arr'.size=arr.size:=by rw[harr',hvc];simp;omega
 have hget:∀j,arr'[j]?=if j=i*2+1 then some (a.eval y) else arr[j]?:=by
  intro j
  rw[harr',aaT,mW (by rw[hvc];rfl) oaa,hvc]
  by_cases hj:j=i*2+1
  .simp_all
  grind
 have hw':=i7 arr' hh0
 have hcell:∀j,j≠i*2+1->(w.setRow b arr').cell? ⟨b,j,none⟩=w.cell? ⟨b,j,none⟩:=λj hj=>by rw[eS hw',eS hh0,hget,if_neg hj]
 have ok1:dJ cx E (w.setRow b arr'):=AZ ok hr hF
 have hk:=kc (cs:=arr') (w:=w) ok hr hF
 have hTb:∀l k,E.T l k->k≠b:=λl k h e=>by subst e;exact(ok.sf.tb l k h).2.2.1 o c hr
 have hTs:∀l,¬E.T l bs:=λl h=>(ok.sf.tb l bs h).2.2.1 s cs hrs
 have hsb:=ok1.rb s bs cs hrs
 have hnew:cx.w0.heap.size<=bs:=hsb.2.resolve_right (λh=>by simp_all)
 obtain⟨E',hE'⟩:∃E':Env,E'={E with r:=λl=>if l=s then none else E.r l,T:=λl k=>E.T l k\/(l=o/\k=bs)}:=⟨_,rfl⟩
 have e_r:∀l p,E'.r l=some p↔l≠s/\E.r l=some p:=λl p=>by
  simp_all
 have e_T:∀l k,E'.T l k↔E.T l k\/(l=o/\k=bs):=λl k=>by simp_all
 have e_F:E'.F=E.F:=by subst hE';rfl
 have e_G:E'.G=E.G:=by subst hE';rfl
 have e_Z:E'.Z=E.Z:=by subst hE';rfl
 have e_n:E'.n=E.n:=by subst hE';rfl
 have e_H:∀g,E'.H g=E.H g:=λg=>by cases g;exact e_F;exact e_G
 have ok':dJ cx E' (w.setRow b arr'):=by
  refine⟨by rw[e_F];exact ok1.fb,by rw[e_F,e_G];exact ok1.gf,by rw[e_G];exact ok1.gn,λl b c h=>ok1.rb l b c ((e_r _ _).1 h).2,λl l' b c c' h h'=>ok1.inj l l' b c c' ((e_r _ _).1 h).2 ((e_r _ _).1 h').2,ok1.os,ok1.tape,ok1.output,ok1.size,ok1.block,λl p hp h=>ok1.pin l p hp ((e_r _ _).1 h).2,by rw[e_F];exact ok1.ff,by rw[e_F];exact ok1.gc,⟨λl k h=>?_,λl l' k h h'=>?_,λk h=>?_,ok1.sf.zs,by rw[e_Z];exact ok1.sf.ze⟩⟩
  .rcases(e_T l k).1 h with h|⟨rfl,rfl⟩
   .obtain⟨h1,h2,h3,h4⟩:=ok1.sf.tb l k h
    simp_all
   refine⟨⟨hsb.1,hnew⟩,by simp_all,λo' c' h'=>?_,.mk (by rw[d5 _ _ _ _ hbb];exact hhs)⟩
   obtain⟨h5,h6⟩:=(e_r _ _).1 h'
   exact h5 (ok.inj _ _ _ _ _ h6 hrs)
  .rcases(e_T l k).1 h with h|⟨rfl,rfl⟩<;>rcases(e_T l' k).1 h' with h'|⟨rfl,h'⟩
   .exact ok1.sf.tt l l' k h h'
   .simp_all
   .simp_all
   rfl
  obtain⟨h1,h2,h3,h4⟩:=ok1.sf.zc k h
  simp_all
 have kg:KG s s E w E' (w.setRow b arr'):=⟨λl p hl h=>(e_r _ _).2 ⟨hl,h⟩,λg k h=>by rw[e_H];exact h,λg k h=>hk.heap g k h,λl k _ h=>⟨(e_T l k).2 (.inl h),(hk.T l k h).2⟩,λk h=>⟨by simp_all,(hk.Z k h).2⟩,λl _=>by rw[e_n]⟩
 refine⟨E',JD hR ok' kg h1 h2 h3 h4 ?_ (λl b' c' hl hlo hrl=>d5 _ _ _ _ (λe=>by subst e;exact hlo (ok.inj _ _ _ _ _ hrl hr))) (λl b' c' _ _ _ hf=>by simp_all) (λl p h=>hR.dom l p ((e_r _ _).1 h).2) (λl k h=>?_)⟩
 .refine .inr ⟨by simp_all,b,c,(e_r _ _).2 ⟨Ne.symm hso,hr⟩,⟨λj=>if j=i then some (bs,cs) else hd j,⟨arr',hw',by omega⟩,by simpa using hS.len,hS.cap,λj ej hj=>?_,λj ej hj _=>?_,λj ej hj _=>?_,λj j' k c1 c2 hj hj' _ _ q1 q2=>?_,λ_ _ _ _ h=>by cases h⟩,by simp_all⟩
  .rw[hcell _ oaa]
   rw[abu] at hj
   by_cases e1:i=j
   .subst e1
    rw[if_pos rfl,if_pos hil] at hj;cases hj
    exact hS.a i e he
   rw[if_neg e1] at hj;exact hS.a j ej hj
  .rw[abu] at hj
   by_cases e1:i=j
   .subst e1
    rw[if_pos rfl,if_pos hil] at hj;cases hj
    rw[eS hw',hget,if_pos rfl,if_pos rfl,hv,hn];rfl
   rw[if_neg e1] at hj
   rw[hcell _ oaa,if_neg (Ne.symm e1)]
   refine hS.s j ej hj ?_
   rcases hh with rfl|⟨A,n',k',rfl⟩
   .rfl
   exact nj e1
  .rw[abu] at hj
   by_cases e1:i=j
   .subst e1
    rw[if_pos rfl,if_pos hil] at hj;cases hj
    rw[if_pos rfl]
    exact⟨(e_T o bs).2 (.inr ⟨rfl,rfl⟩),hrow.keep (d5 _ _ _ _ hbb)⟩
   rw[if_neg e1] at hj
   rw[if_neg (Ne.symm e1)]
   refine(hS.ne j ej hj ?_).keep (λk c' _ hk'=>(e_T o k).2 (.inl hk')) (λk c' _ hk'=>d5 _ _ _ _ (hTb o k hk'))
   rcases hh with rfl|⟨A,n',k',rfl⟩
   .rfl
   exact nj e1
  have hole_ne:∀j,j≠i->Ag hole j=false:=λj hj=>by
   rcases hh with rfl|⟨A,n',k',rfl⟩
   .rfl
   exact nj (Ne.symm hj)
  have hR':∀j,j≠i->j<els.length->∀k c',hd j=some (k,c')->E.T o k:=λj hj hjl k c' hdj=>by
   have:=hS.ne j _ (List.getElem?_eq_getElem hjl) (hole_ne j hj)
   rw[hdj] at this
   exact this.1
  have hj:j<els.length:=by simpa using hj
  have hj':j'<els.length:=by simpa using hj'
  by_cases e1:j=i<;>by_cases e2:j'=i
  .rw[e1,e2]
  .grind
  .grind
  rw[if_neg e1] at q1;rw[if_neg e2] at q2
  exact hS.inj j j' k c1 c2 hj hj' (hole_ne j e1) (hole_ne j' e2) q1 q2
 rcases(e_T l k).1 h with h|⟨rfl,_⟩
 .exact hR.td l k h
 exact dt hol
end
section
variable {P:Program} {N:Nat} {sl sl1 sl2:Lab} {ob ob1:Laa} {nx:Nat} {AQ:Exit->St->Prop}
theorem X9 {cx:Cx} {E:Env} {o:Nat} {z:Ob} (hR:Rel N cx E ⟨sl,ob,nx⟩ a w) (hz:df E w o z):Rel N cx E ⟨sl,(o,z)::ob,nx⟩ a w:=
 ⟨hR.ok,hR.dom,λl x h=>by
  by_cases e:o=l
  .subst e;rw[cI] at h;simp_all
  rw[b7 _ _ e] at h;exact hR.obs l x h,hR.sl,hR.dfr,hR.size,hR.td⟩
theorem Kw {c:Code} {o:Nat} {els:List (Int×List Int)} {e:Int×List Int} (ho:go ob o=some (.cxo o ty nt els none)) (he:els[i]?=some e) (hol:nlt o nx=true) (hrv:rsv nx=false)
 (h1:oF nx sl=some sl1) (h2:CL o sl1=some sl2) (h3:B6 nx (B6 o ob)=ob1) (h4:okO nx o ob1=true)
 (hnil:e.2=[]->AWC P N c ⟨sl2,(o,.cxo o ty nt els (some (i,none,0,0)))::ob1,nx⟩ AQ)
 (hcons:∀k cc,AWC P N c ⟨sl2,(nx,.abs nx (Hid.loc nt (some ⟨k,0,none⟩) e.2.length cc e.2))::(o,.cxo o ty nt els (some (i,some ⟨k,0,none⟩,e.2.length,cc)))::ob1,nx+1⟩ AQ):AWC P N c ⟨sl,ob,nx⟩ AQ:=by
 intro cx E a w hR
 have ok:=hR.ok
 obtain⟨hnn,b,cb,hd,hr,hS,hF⟩:=Dz he (hR.obs o _ ho)
 have hil:i<els.length:=(aaa.1 he).1
 have hs0:=hS.s i e he rfl
 have hn0:=hS.ne i e he rfl
 cases hdi:hd i with
 |none=>
  rw[hdi] at hs0 hn0
  refine hnil hn0 cx E a w (JD hR ok ⟨λ_ _ _ h=>h,λ_ _ h=>h,λ_ _ _=>rfl,λ_ _ _ h=>⟨h,rfl⟩,λb _=>⟨by assumption,sD.refl w b⟩,λ_ _=>Iff.rfl⟩ h1 h2 h3 h4 (.inr ⟨hnn,b,cb,hr,⟨hd,hS.blk,hS.len,hS.cap,hS.a,λj ej hj _=>hS.s j ej hj rfl,λj ej hj _=>hS.ne j ej hj rfl,λj j' k c1 c2 hj hj' _ _=>hS.inj j j' k c1 c2 hj hj' rfl rfl,λj A n k h=>?_⟩,hF⟩) (λ_ _ _ _ _ _=>rfl) (λ_ _ _ _ _ _ h=>h) hR.dom hR.td)
  cases h
  exact hs0
 |some p=>
  obtain⟨k,cc⟩:=p
  rw[hdi] at hs0 hn0
  obtain⟨hTk,hrow⟩:=hn0
  obtain⟨t1,t2,t3,t4⟩:=ok.sf.tb o k hTk
  obtain⟨E',hE'⟩:∃E':Env,E'={E with r:=λl=>if l=nx then some (k,cc) else E.r l,T:=λl j=>E.T l j/\j≠k,n:=λl=>l≠nx/\E.n l}:=⟨_,rfl⟩
  have e_r:∀l p,E'.r l=some p↔(l=nx/\p=(k,cc))\/(l≠nx/\E.r l=some p):=λl p=>by
   subst hE'
   grind
  have e_T:∀l j,E'.T l j↔E.T l j/\j≠k:=λl j=>by simp_all
  have e_F:E'.F=E.F:=by subst hE';rfl
  have e_G:E'.G=E.G:=by subst hE';rfl
  have e_Z:E'.Z=E.Z:=by subst hE';rfl
  have e_n:∀l,E'.n l↔l≠nx/\E.n l:=λl=>by simp_all
  have e_H:∀g,E'.H g=E.H g:=λg=>by cases g;exact e_F;exact e_G
  have hnx:∀l p,E.r l=some p->l≠nx:=λl p h=>abI (hR.dom l p h)
  have hon:o≠nx:=abI (dt hol)
  have ok':dJ cx E' w:=by
   refine⟨by rw[e_F];exact ok.fb,by rw[e_F,e_G];exact ok.gf,by rw[e_G];exact ok.gn,λl j c h=>?_,λl l' j c c' h h'=>?_,ok.os,ok.tape,ok.output,ok.size,ok.block,λl p hp h=>?_,by rw[e_F];exact ok.ff,by rw[e_F];exact ok.gc,⟨λl j h=>?_,λl l' j h h'=>ok.sf.tt l l' j ((e_T _ _).1 h).1 ((e_T _ _).1 h').1,λj h=>?_,ok.sf.zs,by rw[e_Z];exact ok.sf.ze⟩⟩
   .rcases(e_r _ _).1 h with⟨rfl,hp⟩|⟨_,h⟩
    .simp_all
    exact ok.rb l j c h
   .rcases(e_r _ _).1 h with⟨rfl,hp⟩|⟨q1,h⟩<;>rcases(e_r _ _).1 h' with⟨rfl,hp'⟩|⟨q2,h'⟩
    .rfl
    .simp_all
    .simp_all
    exact ok.inj l l' j c c' h h'
   .rcases(e_r _ _).1 h with⟨rfl,hp'⟩|⟨_,h⟩
    .rw[rN hrv] at hp;cases hp
    exact ok.pin l p hp h
   .obtain⟨h,hj⟩:=(e_T _ _).1 h
    obtain⟨u1,u2,u3,u4⟩:=ok.sf.tb l j h
    simp_all
   obtain⟨u1,u2,u3,u4⟩:=ok.sf.zc j h
   grind
  have kg:KG nx o E w E' w:=⟨λl p hl h=>(e_r _ _).2 (.inr ⟨hl,h⟩),λg j h=>by rw[e_H];exact h,λ_ _ _=>rfl,λl j hl h=>⟨(e_T _ _).2 ⟨h,λe=>by subst e;exact hl (ok.sf.tt l o j h hTk)⟩,rfl⟩,λj h=>⟨by simp_all,sD.refl w j⟩,λl hl=>by simp_all⟩
  refine hcons k cc cx E' a w (X9 (JD hR ok' kg h1 h2 h3 h4 (.inr ⟨by simp_all,b,cb,(e_r _ _).2 (.inr ⟨hon,hr⟩),⟨hd,hS.blk,hS.len,hS.cap,hS.a,λj ej hj _=>hS.s j ej hj rfl,λj ej hj hjh=>(hS.ne j ej hj rfl).keep (λk' c' hk' hT=>(e_T o k').2 ⟨hT,λek=>?_⟩) (λ_ _ _ _=>rfl),λj j' k c1 c2 hj hj' _ _=>hS.inj j j' k c1 c2 hj hj' rfl rfl,λj A n k' h=>?_⟩,by simp_all⟩)
   (λ_ _ _ _ _ _=>rfl) (λl b' c' _ _ _ h=>by simp_all) (λl p h=>?_) (λl j h=>abH (hR.td l j ((e_T _ _).1 h).1))) (.inr ⟨by simp_all,k,cc,(e_r _ _).2 (.inl ⟨rfl,rfl⟩),⟨rfl,rfl,rfl,hrow⟩,by simp_all⟩))
  .subst ek
   have:=hS.inj j i k' c' cc (aaa.1 hj).1 hil rfl rfl hk' hdi
   subst this
   simp[Ag] at hjh
  .cases h;exact hs0
  rcases(e_r _ _).1 h with⟨rfl,_⟩|⟨_,h⟩
  .omega
  exact abH (hR.dom l p h)
theorem YK {o:Nat} {al:List Int} (ho:go ob o=some (.rown ty 2 (al.map λa=>[.i .i64 a,.k none 0 0]) g)) (h3:B6 o ob=ob1):dQ N ⟨sl,ob,nx⟩ ⟨sl,(o,.cxo o ty nt (al.map λa=>(a,[])) none)::ob1,nx⟩:=by
 subst h3
 intro cx E a w hR
 refine⟨E,hR.ok,hR.dom,λl x h=>?_,hR.sl,hR.dfr,hR.size,hR.td⟩
 by_cases e:o=l
 .subst e
  rw[cI] at h;cases h
  rcases hR.obs o _ ho with⟨h0,h1⟩|⟨h0,b,c,arr,hr,hh,h1,h2,h3,h4,h5,h6⟩
  .refine .inl ⟨h0,?_⟩
   show al.map _=[]
   simp_all
  have key:∀i e,(al.map λa=>((a,[]):Int×List Int))[i]?=some e->w.cell? ⟨b,i*2,none⟩=some (.int .i64 e.1)/\w.cell? ⟨b,i*2+1,none⟩=some (.slice none 0 0)/\e.2=[]:=by
   intro i e hi
   rw[aaN] at hi
   cases ha:al[i]? with
   |none=>simp_all
   |some x=>
    rw[ha] at hi;cases hi
    have:=rL (sz:=2) (i:=i) (e:=[.i .i64 x,.k none 0 0]) h5 h4 (by simp_all)
    rw[rdL,rdL] at this
    obtain⟨⟨u,u1,u2⟩,⟨v,v1,v2⟩,_⟩:=this
    simp only[rdD] at u2 v2
    simp_all
  refine .inr ⟨h0,b,c,hr,⟨λ_=>none,⟨arr,hh,h1⟩,by simp_all,h3,λi e hi=>(key i e hi).1,λi e hi _=>?_,λi e hi _=>(key i e hi).2.2,λ_ _ _ _ _ _ _ _ _ h=>(by cases h),λ_ _ _ _ h=>(by cases h)⟩,h6⟩
  rw[(key i e hi).2.2];exact(key i e hi).2.1
 rw[b7 _ _ e] at h
 exact hR.obs l x (AW h).2
def TO (e:Int×List Int):List D:=[.i .i64 e.1,.l (e.2.map eI)]
theorem On {o:Nat} {els:List (Int×List Int)} (ho:go ob o=some (.cxo o ty nt els none)) (h1:oF nx sl=some sl1) (h2:CL o sl1=some sl2) (h3:B6 nx (B6 o ob)=ob1) (h4:okO nx o ob1=true):
 dQ N ⟨sl,ob,nx⟩ ⟨sl2,(o,.rown ty 2 (els.map TO) true)::ob1,nx⟩:=by
 intro cx E a w hR
 have ok:=hR.ok
 obtain⟨E',hE'⟩:∃E':Env,E'={E with F:=λj=>E.F j\/E.T o j,G:=λj=>E.G j\/E.T o j,T:=λl j=>l≠o/\E.T l j}:=⟨_,rfl⟩
 have e_T:∀l j,E'.T l j↔l≠o/\E.T l j:=λl j=>by simp_all
 have e_F:∀j,E'.F j↔E.F j\/E.T o j:=λj=>by simp_all
 have e_G:∀j,E'.G j↔E.G j\/E.T o j:=λj=>by simp_all
 have e_r:E'.r=E.r:=by subst hE';rfl
 have e_Z:E'.Z=E.Z:=by subst hE';rfl
 have e_n:E'.n=E.n:=by subst hE';rfl
 have ok':dJ cx E' w:=by
  refine⟨λj h=>?_,λj h=>?_,λj h=>?_,by rw[e_r];exact ok.rb,by rw[e_r];exact ok.inj,ok.os,ok.tape,ok.output,ok.size,ok.block,by rw[e_r];exact ok.pin,λj h=>?_,λj h h'=>?_,⟨λl j h=>?_,λl l' j h h'=>ok.sf.tt l l' j ((e_T _ _).1 h).2 ((e_T _ _).1 h').2,λj h=>?_,ok.sf.zs,by rw[e_Z];exact ok.sf.ze⟩⟩
  .rcases(e_F j).1 h with h|h
   .exact ok.fb j h
   exact(ok.sf.tb o j h).1.1
  .rcases(e_G j).1 h with h|h
   .exact(e_F j).2 (.inl (ok.gf j h))
   simp_all
  .rcases(e_G j).1 h with h|h
   .exact ok.gn j h
   exact .inl (ok.sf.tb o j h).1.2
  .rcases(e_F j).1 h with h|h
   .exact ok.ff j h
   exact .inr (ok.sf.tb o j h).1.2
  .rcases(e_F j).1 h with h|h
   .exact ok.gc j h h'
   exact(ok.sf.tb o j h).2.2.2
  .obtain⟨hl,h⟩:=(e_T _ _).1 h
   obtain⟨u1,u2,u3,u4⟩:=ok.sf.tb l j h
   refine⟨u1,λhf=>?_,by simp_all,u4⟩
   rcases(e_F j).1 hf with hf|hf
   .exact u2 hf
   exact hl (ok.sf.tt l o j h hf)
  obtain⟨u1,u2,u3,u4⟩:=ok.sf.zc j h
  refine⟨u1,λhf=>?_,by simp_all,u4⟩
  rcases(e_F j).1 hf with hf|hf
  .exact u2 hf
  have:=(ok.sf.tb o j hf).1.2;omega
 have hFr:∀l b c,E.r l=some (b,c)->¬E.F b->¬E'.F b:=λl b c hr hn hf=>by
  rcases(e_F b).1 hf with hf|hf
  .exact hn hf
  exact(ok.sf.tb o b hf).2.2.1 l c hr
 have kg:KG nx o E w E' w:=⟨λl p _ h=>by simp_all,λg j h=>by cases g;exact(e_F j).2 (.inl h);exact(e_G j).2 (.inl h),λ_ _ _=>rfl,λl j hl h=>⟨(e_T _ _).2 ⟨hl,h⟩,rfl⟩,λj h=>⟨by simp_all,sD.refl w j⟩,λl _=>by rw[e_n]⟩
 refine⟨E',JD hR ok' kg h1 h2 h3 h4 ?_ (λ_ _ _ _ _ _=>rfl) (λl b c _ _ hr=>hFr l b c hr) (by rw[e_r];exact hR.dom) (λl j h=>hR.td l j ((e_T _ _).1 h).2)⟩
 rcases hR.obs o _ ho with⟨h0,h0'⟩|⟨h0,b,c,hr,⟨hd,hS⟩,hF⟩
 .have h0':els=[]:=h0'
  exact .inl ⟨by simp_all,by rw[h0'];rfl⟩
 obtain⟨arr,hh,ha⟩:=hS.blk
 refine .inr ⟨by simp_all,b,c,arr,by simp_all,hh,ha,by simpa using hS.len,hS.cap,(λe he=>by obtain⟨x,_,rfl⟩:=aba.1 he;rfl),wv (sz:=2) (λe he=>by obtain⟨x,_,rfl⟩:=aba.1 he;rfl) λi e hi=>?_,hFr o b c hr hF⟩
 rw[aaN] at hi
 cases hx:els[i]? with
 |none=>simp_all
 |some x=>
  rw[hx] at hi;cases hi
  rw[TO,rdL,rdL,rdL,aaj]
  refine⟨⟨_,hS.a i x hx,by rw[rdD]⟩,⟨_,hS.s i x hx rfl,?_⟩,trivial⟩
  have hne:=hS.ne i x hx rfl
  rw[rdD]
  cases hdi:hd i with
  |none=>
   rw[hdi] at hne
   have hne:x.2=[]:=hne
   rw[hne];exact⟨none,0,rfl,aah _,.inl rfl⟩
  |some p=>
   obtain⟨k,cc⟩:=p
   rw[hdi] at hne
   exact⟨some ⟨k,0,none⟩,cc,by simp[nv],by simpa using hne.2.2.1,.inr ⟨k,0,rfl,(e_G k).2 (.inr hne.1),hne.2.rd _⟩⟩
end
def UG (f:C->Option C):Ob->Option Ob
 | .abs l h=>some (.abs l h)
 |x=>GV f x
theorem Pn {E E':Env} {f:C->Option C} {l o:Nat} {x y:Ob} (h:UG f x=some y) (hf:∀c c' u,f c=some c'->cvC E w c u->cvC E' w c' u) (hr:∀p,E.r l=some p->E'.r o=some p) (hn:E'.n o↔E.n l)
 (hH:∀g b,E.H g b->E'.H g b) (hF:∀b,¬E.F b->¬E'.F b) (hT:∀j z,x= .abs j z->∀b,E.T j b->E'.T j b) (hx:df E w l x):df E' w o y:=by
 cases x with
 |abs j z=>
  cases h
  rcases hx with⟨h1,h2⟩|⟨h1,b,c,k1,k2,k3⟩
  .exact .inl ⟨hn.2 h1,h2⟩
  exact .inr ⟨λk=>h1 (hn.1 k),b,c,hr _ k1,z.st _ _ _ _ w w k2 (hT j z rfl) rfl (λ_ _=>rfl),hF b k3⟩
 |var t cs=>exact Bv (x:=.var t cs) h hf (λb c _ hr'=>hr _ hr') hn hH (λb c _ _=>hF b) hx
 |row t sz els g m=>exact Bv (x:=.row t sz els g m) h hf (λb c _ hr'=>hr _ hr') hn hH (λb c _ _=>hF b) hx
 |rown t sz els g=>exact Bv (x:=.rown t sz els g) h hf (λb c _ hr'=>hr _ hr') hn hH (λb c _ _=>hF b) hx
def LC (f:C->Option C) (ob:Laa):Lac->Option Laa
 |[]=>some []
 |(k,o)::r=>match go ob o with
  |some x=>match UG f x,LC f ob r with
   |some y,some ys=>some ((k,y)::ys)
   |_,_=>none
  |none=>none
theorem LD {f:C->Option C} {ob:Laa}:∀{m:Lac} {xs:Laa} {l:Nat} {x:Ob},LC f ob m=some xs->go xs l=some x->∃o x0,d7 m l=some o/\go ob o=some x0/\UG f x0=some x
 |[],xs,l,x,h,hg=>by simp[LC] at h;subst h;cases hg
 |(k,o)::r,xs,l,x,h,hg=>by
  simp only[LC] at h
  split at h
  .rename_i x0 h0
   split at h
   .rename_i y ys h1 h2
    simp at h;subst h
    by_cases e:k=l
    .subst e;rw[cI] at hg;cases hg;exact⟨o,x0,by simp[d7],h0,h1⟩
    rw[b7 _ _ e] at hg
    obtain⟨o',x',a1,a2,a3⟩:=LD h2 hg
    exact⟨o',x',by simp only[d7,nj e];exact a1,a2,a3⟩
   cases h
  cases h
def UH (m:Lac):Laa->Option Laa
 |[]=>some []
 |(k,x)::r=>match d7 m k,UG (rlC m) x,UH m r with
  |some o,some y,some ys=>some ((o,y)::ys)
  |_,_,_=>none
theorem Po {m:Lac} (hinj:∀a a' b,d7 m a=some b->d7 m a'=some b->a=a'):∀{ys ys':Laa} {o:Nat} {y':Ob},UH m ys=some ys'->go ys' o=some y'->∃k y,d7 m k=some o/\go ys k=some y/\UG (rlC m) y=some y'
 |[],ys',o,y',h,hg=>by simp[UH] at h;subst h;cases hg
 |(k,x)::r,ys',o,y',h,hg=>by
  simp only[UH] at h
  split at h
  .rename_i o1 y1 ys1 h1 h2 h3
   simp at h;subst h
   by_cases e:o1=o
   .subst e;rw[cI] at hg;cases hg;exact⟨k,x,h1,cI _ _ _,h2⟩
   rw[b7 _ _ e] at hg
   obtain⟨k',y,a1,a2,a3⟩:=Po hinj h3 hg
   have hne:k≠k':=λe'=>by simp_all
   exact⟨k',y,a1,by rw[b7 _ _ hne];exact a2,a3⟩
  cases h
def kpC (pn:Lac):C->C
 | .p o k=>match d7 pn o with
  |some _=>.p o k
  |none=>.any
 | .d _ (.i k n)=>.d false (.i k n)
 | .d _ (.b b)=>.d false (.b b)
 | .d _ (.str s)=>.d false (.str s)
 |_=>.any
def kpT (pn:Lac):T->T
 | .v (.c c)=>.v (.c (kpC pn c))
 |_=>.any
def kpS (pn:Lac):Lab->Lab
 |[]=>[]
 |(k,t)::r=>(k,kpT pn t)::kpS pn r
theorem Ux (pn:Lac):∀(sl:Lab) (k:Nat),gt (kpS pn sl) k=kpT pn (gt sl k)
 |[],k=>rfl
 |(j,t)::r,k=>by
  rw[kpS]
  by_cases e:j=k
  .subst e;rw[dR,dR]
  rw[c9 _ _ e,c9 _ _ e];exact Ux pn r k
def memP (m:Lac) (p:Nat×Nat):Bool:=m.any λq=>d0 q.1 p.1&&d0 q.2 p.2
theorem Jk {m:Lac} {p:Nat×Nat} (h:memP m p=true):p∈m:=by
 obtain⟨q,h1,h2⟩:=aax.1 h
 simp only[hV] at h2
 have a:=aad h2.1
 have b:=aad h2.2
 grind
def Y2 (m m':Lac) (ys:Laa) (nx nx':Nat):Bool:=
 oG (m.map (·.1))&&oG (m.map (·.2))&&oG (m'.map (·.1))&&oG (m'.map (·.2))&&
 m.all (λp=>nlt p.1 nx&&(!rsv p.2||rsv p.1)&&(!rsp p.1||memP m' p&&match go ys p.1 with|some (.var _ _)=>true|_=>false))&&
 m'.all (λp=>nlt p.2 nx'&&((rsp p.1&&memP m p)||(!rsv p.1&&!rsv p.2)))
def D0 (n:Nat):Laa->Bool
 |[]=>true
 |(_,.abs j _)::r=>nlt j n&&D0 n r
 |_::r=>D0 n r
theorem D1 {n k j:Nat} {z:Hid}:∀{ob:Laa},D0 n ob=true->go ob k=some (.abs j z)->j<n
 |[],_,h=>by cases h
 |(k',x)::r,h0,h=>by
  by_cases e:k'=k
  .subst e;rw[cI] at h;cases h
   simp only[D0,hV] at h0;exact dt h0.1
  rw[b7 _ _ e] at h
  cases x<;>first|(simp only[D0,hV] at h0;exact D1 h0.2 h)|(simp only[D0] at h0;exact D1 h0 h)
def pinned (m:Lac):Lac:=(m.filter λp=>rsp p.1).map λp=>(p.2,p.1)
theorem o_inl  {N':Nat} {d:Tmp}  {ps:String} {af:Array Edge} {gd:Option (Nat×Bool)}   {c:Code} {args:List Operand} {tys:Array TypeId} {sl':Lab} {ob obs2:Laa}  {ts ts2:List T} {ys ys':Laa} {out':T} {m m':Lac}  {rs:List ResultVar}
 (hf:P.funcs[f]?=some fn) (hb:fn.body=some c) (hnm:(fn.name== "runtime.NumGoroutine")=false) (hN:fn.ntmps=N') (hrs:fn.results.toList=rs) (h:AWC P N' c ⟨sl0,obs2,nx⟩ (xt N' P rs ys out []))
 (ht:zx sl args=some ts) (ha:sZ (rlC (inv m)) ts=some ts2) (hle:aar ts2.length N'=true) (hs0:xz 0 ts2=sl0) (hx:LC (rlC (inv m)) ob m=some obs2)
 (hm:Y2 m m' ys nx nx'=true) (hj:D0 nx' ys=true) (hy:UH m' ys=some ys') (ho:zw (rlC m') out=some out') (hs:kpS (pinned m) sl=sl') (hd:nlt d N=true):
 AWO P N ⟨some d,.call ⟨.value (.func f),args.toArray,tys⟩,ty,ps,af,gd⟩ ⟨sl,ob,nx⟩ ⟨(d,out')::sl',ys',nx'⟩:=by
 subst hs0;subst hrs;subst hs
 intro cx E a w hR
 have ok:=hR.ok
 obtain⟨t1,t2⟩:=ub ht
 simp only[Y2,hV,aag,aan,aaw] at hm
 obtain⟨⟨⟨⟨⟨hm1,hm2⟩,hm3⟩,hm4⟩,hm5⟩,hm6⟩:=hm
 have ndm1:=kK hm1
 have ndm2:=kK hm2
 have ndm3:=kK hm3
 have ndm4:=kK hm4
 have inv_of:∀{k o},d7 m k=some o->d7 (inv m) o=some k:=λh=>jJ (by rw[xX];exact ndm2) (rJ.2 (eA h))
 have of_inv:∀{k o},d7 (inv m) o=some k->d7 m k=some o:=λh=>jJ ndm1 (rJ.1 (eA h))
 have inv_of':∀{k o},d7 m' k=some o->d7 (inv m') o=some k:=λh=>jJ (by rw[xX];exact ndm4) (rJ.2 (eA h))
 have of_inv':∀{k o},d7 (inv m') o=some k->d7 m' k=some o:=λh=>jJ ndm3 (rJ.1 (eA h))
 obtain⟨E2,hE2⟩:∃E2:Env,E2={E with r:=λk=>match d7 m k with|some o=>E.r o|none=>none,n:=λk=>match d7 m k with|some o=>E.n o|none=>False}:=⟨_,rfl⟩
 have e_r:∀k o,d7 m k=some o->E2.r k=E.r o:=λk o h=>by simp_all
 have e_n:∀k o,d7 m k=some o->(E2.n k↔E.n o):=λk o h=>by simp_all
 have e_r':∀k p,E2.r k=some p->∃o,d7 m k=some o/\E.r o=some p:=λk p h=>by
  subst hE2
  grind
 have e_F:E2.F=E.F:=by subst hE2;rfl
 have e_G:E2.G=E.G:=by subst hE2;rfl
 have e_T:E2.T=E.T:=by subst hE2;rfl
 have e_Z:E2.Z=E.Z:=by subst hE2;rfl
 have e_H:∀g,E2.H g=E.H g:=λg=>by cases g;exact e_F;exact e_G
 let cx2:Cx:=⟨cx.w0,cx.W,E2.r,cx.F0,cx.Z,cx.gw,cx.G0⟩
 have ok2:dJ cx2 E2 w:=by
  refine⟨by rw[e_F];exact ok.fb,by rw[e_F,e_G];exact ok.gf,by rw[e_G];exact ok.gn,λk b c h=>?_,λk k' b c c' h h'=>?_,ok.os,ok.tape,ok.output,ok.size,ok.block,λ_ _ _ h=>h,by rw[e_F];exact ok.ff,by rw[e_F];exact ok.gc,⟨λl b h=>?_,by rw[e_T];exact ok.sf.tt,λb h=>?_,ok.sf.zs,by rw[e_Z];exact ok.sf.ze⟩⟩
  .obtain⟨o,h1,h2⟩:=e_r' k _ h
   obtain⟨h3,h4⟩:=ok.rb o b c h2
   refine⟨h3,h4.imp id λ⟨q1,q2⟩=>⟨q1,?_⟩⟩
   rcases(hm5 _ (eA h1)).1.2 with h|h
   .simp_all
   exact h
  .obtain⟨o,h1,h2⟩:=e_r' k _ h
   obtain⟨o',h1',h2'⟩:=e_r' k' _ h'
   have:=ok.inj o o' b c c' h2 h2';grind
  .rw[e_T] at h
   obtain⟨h1,h2,h3,h4⟩:=ok.sf.tb l b h
   grind
  obtain⟨h1,h2,h3,h4⟩:=ok.sf.zc b h
  grind
 have hin:∀c c' u,rlC (inv m) c=some c'->cvC E w c u->cvC E2 w c' u:=by
  intro c c' u h hc
  cases c with
  |d g x=>cases h;exact cS (λ_ _=>rfl) (λb hb=>by rw[e_H];exact hb) _ _ hc
  |nil=>cases h;exact hc
  |any=>cases h;trivial
  |fn f=>cases h;exact hc
  |w l n=>
   simp only[rlC] at h
   split at h
   .rename_i k h1;cases h
    obtain⟨b,cc,q1,q2⟩:=hc
    exact⟨b,cc,(e_r k l (of_inv h1)).trans q1,q2⟩
   cases h
  |wn l n=>
   simp only[rlC] at h
   split at h
   .rename_i k h1;cases h
    rcases hc with⟨q0,q1⟩|⟨q0,b,cc,q1,q2⟩
    .exact .inl ⟨(e_n k l (of_inv h1)).2 q0,q1⟩
    exact .inr ⟨λq=>q0 ((e_n k l (of_inv h1)).1 q),b,cc,(e_r k l (of_inv h1)).trans q1,q2⟩
   cases h
  |p l n=>
   simp only[rlC] at h
   split at h
   .rename_i k h1;cases h
    obtain⟨b,cc,q1,q2⟩:=hc
    exact⟨b,cc,(e_r k l (of_inv h1)).trans q1,q2⟩
   cases h
  |_=>cases h
 have hTV:TV E2 w ts2 (args.map a.eval):=Fb hin ha t1 (λx t hm=>by have:=hR.op x;rwa [Lk.mem t2 x t hm] at this)
 obtain⟨v1,v2⟩:=Dv 0 hTV
 have hle':ts2.length<=N':=aaF hle
 obtain⟨vals,hvals⟩:∃vals:Array Value,vals=(args.map a.eval).toArray:=⟨_,rfl⟩
 have hsz:vals.size=ts2.length:=by rw[hvals];simpa using v1
 have hR2:Rel N' cx2 E2 ⟨xz 0 ts2,obs2,nx⟩ {tmps:=vals++aai (fn.ntmps-vals.size) undef,defers:=[]} w:=by
  refine⟨ok2,λk p h=>?_,λk x h=>?_,λk=>?_,rfl,by simp;omega,λl b h=>by rw[e_T] at h;exact hR.td l b h⟩
  .obtain⟨o,h1,_⟩:=e_r' k p h
   exact dt (hm5 _ (eA h1)).1.1
  .obtain⟨o,x0,h1,h2,h3⟩:=LD hx h
   exact Pn h3 hin (λp hp=>(e_r k o h1).trans hp) (e_n k o h1) (λg b hb=>by rw[e_H];exact hb) (λb hb=>by simp_all) (λj z _ b hb=>by simp_all) (hR.obs o x0 h2)
  by_cases hk:k<ts2.length
  .obtain⟨u,h3,h4⟩:=(v2 k).1 ⟨aap _,by omega⟩
   have:(vals++aai (fn.ntmps-vals.size) undef).getD k undef=u:=by
    have h5:vals[k]?=some u:=by rw[hvals];simpa using h3
    have h6:(vals++aai (fn.ntmps-vals.size) undef)[k]?=some u:=by rw[Array.getElem?_append_left oaa];exact h5
    simp[h6]
   grind
  have:=(v2 k).2 oaa
  show cvT _ w (gt (xz 0 ts2) k) _
  rw[this];trivial
 have hwp:=h cx2 E2 _ w hR2
 have hcalls:Calls P f vals w λe w'=>∃v E',e= .returned v/\dJ cx2 E' w'/\cvT E' w' out v/\(∀l y,go ys l=some y->df E' w' l y):=by
  refine calls_of_wp hf hb (wp_mono hwp ?_)
  rintro e a' w' ⟨E',s',hR',hq⟩
  have fin:(∃s'' vs,dQ N' s' s''/\pf P s'' fn.results.toList vs/\U6 vs=out/\LoA s''.ob ys/\LoA s''.ob [])->
   a'.defers=[]/\∃v,(results fn a'.tmps).run P w'= .ok v w'/\∃v' E',Ending.returned v= .returned v'/\dJ cx2 E' w'/\cvT E' w' out v'/\(∀l y,go ys l=some y->df E' w' l y):=by
   rintro⟨s'',vs,hw,hres,ho,hys,_⟩
   obtain⟨E'',hR''⟩:=hw _ _ _ _ hR'
   obtain⟨us,k1,k2⟩:=xu hR'' hres
   have hmm:(fn.results.mapM (nu a'.tmps)).run P w'= .ok us.toArray w':=by
    rw[<-aaU (xs:=fn.results),List.mapM_toArray]
    simp only[Sem.run_map,k1]
    rfl
   have hrr:results fn a'.tmps=(fn.results.mapM (nu a'.tmps))>>= λvs=>pure (if h:vs.size=1 then vs[0] else .tuple vs):=rfl
   have hv:∃v,(results fn a'.tmps).run P w'= .ok v w'/\cvT E'' w' out v:=by
    subst ho
    match vs,us,k2 with
    |[],[],_=>exact⟨.tuple #[],by simp_all,#[],rfl,trivial⟩
    |[v],[u],k2=>exact⟨u,by simp_all,k2.1⟩
    |v1::v2::vs,u1::u2::us,k2=>exact⟨.tuple (u1::u2::us).toArray,by simp_all,_,rfl,k2⟩
   obtain⟨v,q1,q2⟩:=hv
   exact⟨hR''.dfr,v,q1,v,E'',rfl,hR''.ok,q2,λl y h=>hR''.obs l y (Il hys h)⟩
  cases e with
  |normal=>exact fin hq
  |ret=>exact fin hq
  |_=>exact hq.elim
 have hent:(callFunc f vals).run P w= .ok (.enter f vals) w:=by simp[callFunc,hf,hb];simpa using hnm
 unfold Oper.wp
 have hrun:(execOp a.eval ⟨some d,.call ⟨.value (.func f),args.toArray,tys⟩,ty,ps,af,gd⟩).run P w= .ok (.enter f vals) w:=by
  subst hvals
  simp only[execOp,resolve,Act.eval,Deferred.ofValue,Sem.run_bind,Sem.run_pure,Result.andThen_ok,invoke]
  simpa using hent
 rw[hrun,Oper.upon_enter]
 refine hcalls.mono ?_
 rintro e w' ⟨v,E',rfl,ok',hv,hobs⟩
 obtain⟨E3,hE3⟩:∃E3:Env,E3={E' with r:=λo=>match d7 (inv m') o with|some k=>E'.r k|none=>none,n:=λo=>match d7 (inv m') o with|some k=>E'.n k|none=>False,T:=λl b=>l<nx'/\E'.T l b}:=⟨_,rfl⟩
 have f_r:∀k o,d7 m' k=some o->E3.r o=E'.r k:=λk o h=>by subst hE3;grind
 have f_n:∀k o,d7 m' k=some o->(E3.n o↔E'.n k):=λk o h=>by subst hE3;grind
 have f_r':∀o p,E3.r o=some p->∃k,d7 m' k=some o/\E'.r k=some p:=λo p h=>by
  subst hE3
  grind
 have f_F:E3.F=E'.F:=by subst hE3;rfl
 have f_G:E3.G=E'.G:=by subst hE3;rfl
 have f_T:∀l b,E3.T l b↔l<nx'/\E'.T l b:=λl b=>by subst hE3;exact Iff.rfl
 have f_Z:E3.Z=E'.Z:=by subst hE3;rfl
 have f_H:∀g,E3.H g=E'.H g:=λg=>by cases g;exact f_F;exact f_G
 have hpin:∀k o p,rsp k=true->(k,o)∈m->E'.r k=some p->E.r o=some p:=λk o p hk hm hp=>by
  have h1:E2.r k=some p:=ok'.pin k p hk hp
  rwa [e_r k o (jJ ndm1 hm)] at h1
 have ok3:dJ cx E3 w':=by
  refine⟨by rw[f_F];exact ok'.fb,by rw[f_F,f_G];exact ok'.gf,by rw[f_G];exact ok'.gn,λo b c h=>?_,λo o' b c c' h h'=>?_,ok'.os,ok'.tape,ok'.output,ok'.size,ok'.block,λo p ho h=>?_,by rw[f_F];exact ok'.ff,by rw[f_F];exact ok'.gc,⟨λl b h=>?_,λl l' b h h'=>ok'.sf.tt l l' b ((f_T _ _).1 h).2 ((f_T _ _).1 h').2,λb h=>?_,ok'.sf.zs,by rw[f_Z];exact ok'.sf.ze⟩⟩
  .obtain⟨k,h1,h2⟩:=f_r' o _ h
   obtain⟨h3,h4⟩:=ok'.rb k b c h2
   refine⟨h3,?_⟩
   rcases(hm6 _ (eA h1)).2 with⟨q1,q2⟩|⟨q1,q2⟩
   .exact(ok.rb o b c (hpin k o _ q1 (Jk q2) h2)).2
   grind
  .obtain⟨k,h1,h2⟩:=f_r' o _ h
   obtain⟨k',h1',h2'⟩:=f_r' o' _ h'
   have:=ok'.inj k k' b c c' h2 h2';grind
  .obtain⟨k,h1,h2⟩:=f_r' o _ h
   rcases(hm6 _ (eA h1)).2 with⟨q1,q2⟩|⟨q1,q2⟩
   .exact ok.pin o p ho (hpin k o _ q1 (Jk q2) h2)
   rw[rN q2] at ho;cases ho
  .obtain⟨_,h⟩:=(f_T _ _).1 h
   obtain⟨h1,h2,h3,h4⟩:=ok'.sf.tb l b h
   grind
  obtain⟨h1,h2,h3,h4⟩:=ok'.sf.zc b h
  grind
 have hout:∀c c' u,rlC m' c=some c'->cvC E' w' c u->cvC E3 w' c' u:=by
  intro c c' u h hc
  cases c with
  |d g x=>cases h;exact cS (λ_ _=>rfl) (λb hb=>by rw[f_H];exact hb) _ _ hc
  |nil=>cases h;exact hc
  |any=>cases h;trivial
  |fn f=>cases h;exact hc
  |w l n=>
   simp only[rlC] at h
   split at h
   .rename_i k h1;cases h
    obtain⟨b,cc,q1,q2⟩:=hc
    exact⟨b,cc,(f_r l k h1).trans q1,q2⟩
   cases h
  |wn l n=>
   simp only[rlC] at h
   split at h
   .rename_i k h1;cases h
    rcases hc with⟨q0,q1⟩|⟨q0,b,cc,q1,q2⟩
    .exact .inl ⟨(f_n l k h1).2 q0,q1⟩
    exact .inr ⟨λq=>q0 ((f_n l k h1).1 q),b,cc,(f_r l k h1).trans q1,q2⟩
   cases h
  |p l n=>
   simp only[rlC] at h
   split at h
   .rename_i k h1;cases h
    obtain⟨b,cc,q1,q2⟩:=hc
    exact⟨b,cc,(f_r l k h1).trans q1,q2⟩
   cases h
  |_=>cases h
 have hinj':∀a a' b,d7 m' a=some b->d7 m' a'=some b->a=a':=λa a' b h h'=>by
  grind
 refine⟨E3,ok3,λo p h=>?_,λo y h=>?_,λk=>?_,hR.dfr,by simpa [Act.put] using hR.size,λl b h=>((f_T _ _).1 h).1⟩
 .obtain⟨k,h1,_⟩:=f_r' o p h
  exact dt (hm6 _ (eA h1)).1
 .obtain⟨k,y0,h1,h2,h3⟩:=Po hinj' hy h
  refine Pn h3 hout (λp hp=>(f_r k o h1).trans hp) (f_n k o h1) (λg b hb=>by rw[f_H];exact hb) (λb hb=>by grind) (λj z e b hb=>(f_T _ _).2 ⟨D1 hj (e▸h2),hb⟩) (hobs k y0 h2)
 show cvT E3 w' (gt ((d,out')::kpS (pinned m) sl) k) ((a.put (some d) v).tmps.getD k undef)
 rw[iv (by rw[hR.size];exact dt hd)]
 by_cases hk:d=k
 .subst hk;rw[dR,if_pos rfl];exact Bk hout ho hv
 rw[c9 _ _ hk,if_neg hk,Ux]
 have h0:=hR.sl k
 simp only at h0
 cases hg:gt sl k with
 |tup ts=>trivial
 |any=>trivial
 |v vv=>
  cases vv with
  |agg cs=>trivial
  |c c=>
   rw[hg] at h0
   have h0:cvC E w c (a.tmps.getD k undef):=h0
   show cvC E3 w' (kpC (pinned m) c) _
   cases c with
   |p o j=>
    simp only[kpC]
    split
    .rename_i k' h1
     have hmem:=eA h1
     simp only[pinned,aba,List.mem_filter,Prod.mk.injEq] at hmem
     obtain⟨⟨p1,p2⟩,⟨hp1,hp2⟩,hp3,hp4⟩:=hmem
     simp only at hp2 hp3 hp4
     subst hp3;subst hp4
     obtain⟨b,cc,q1,q2⟩:=h0
     have hh:=(hm5 _ hp1).2
     rcases hh with hh|⟨hh1,hh2⟩
     .grind
     split at hh2
     .rename_i t cs hgo
      obtain⟨b',c',arr,r1,_⟩:=hobs _ _ hgo
      have r2:=hpin _ _ _ hp2 hp1 r1
      rw[q1] at r2
      have r3:=f_r _ _ (jJ ndm3 (Jk hh1))
      exact⟨b,cc,by grind,q2⟩
     cases hh2
    trivial
   |d g x=>
    cases x<;>first|trivial|(simp only[kpC,cvC,rdD] at h0 ⊢;exact h0)
   |_=>trivial
theorem Th {o:Oper} {needs:List (Operand×T)} (hn:els.length=n)
 (h:AWK P o needs nob (.v (.c (.w q n))) [(q,.row e sz els g true)] [] none):AWK P o needs nob (.v (.c (.d g (.l els)))) [(q,.row e sz els g false)] [] none:=by
 intro cx E a w ok hne hnob hfr
 obtain⟨hq1,hq2⟩:=hfr q _ (.head _)
 refine Oper.wp_mono ?_ (h cx E a w ok hne hnob (λl x hm=>by simp_all))
 rintro a' w' ⟨v,E',k1,ok',k3,⟨b,c,hr,hv⟩,k5,k6,k7⟩
 obtain⟨b',c',arr,hr',hh,ha,hlc,hmx,hes,hrd,hFm,_⟩:=k5 q _ (.head _)
 rw[hr] at hr';cases hr'
 have hF:=hFm rfl
 obtain⟨hb1,hb2⟩:=ok'.rb q b c hr
 have hb3:cx.w0.heap.size<=b:=by
  rcases hb2 with h|h
  .exact h
  simp_all
 let E2:Env:=⟨E'.r,λj=>E'.F j\/j=b,λj=>E'.G j\/(g=true/\j=b),E'.T,E'.Z,E'.n⟩
 have hH:∀g' j,E'.H g' j->E2.H g' j:=λg' j hj=>by cases g'<;>exact .inl hj
 have hold:∀l c',E.r l≠some (b,c'):=λl c' hl=>by
  have h1:=k3.r l _ (by simp) hl
  have:=ok'.inj _ _ _ _ _ h1 hr
  simp_all
 refine⟨v,E2,k1,⟨?_,?_,?_,ok'.rb,ok'.inj,ok'.os,ok'.tape,ok'.output,ok'.size,ok'.block,ok'.pin,λj hj=>hj.elim (ok'.ff j) (λe=>.inr (e▸hb3)),λj hj hj'=>hj.elim (λh=>ok'.gc j h hj') (λe=>e▸.mk hh),
  ⟨λl j h=>?_,ok'.sf.tt,λj h=>?_,ok'.sf.zs,ok'.sf.ze⟩⟩,⟨k3.r,λj hj=>.inl (k3.F j hj),λj hj=>.inl (k3.G j hj),?_,k3.heap,k3.own,k3.ownk,k3.T,k3.Z,k3.n⟩,?_,λl x hm=>?_,(λ_ _ h=>by cases h),λl x hl=>?_⟩
 .rintro j (h|rfl)
  .exact ok'.fb j h
  exact hb1
 .rintro j (h|⟨_,rfl⟩)
  .exact .inl (ok'.gf j h)
  omega
 .rintro j (h|⟨_,rfl⟩)
  .exact ok'.gn j h
  omega
 .obtain⟨h1,h2,h3,h4⟩:=ok'.sf.tb l j h
  grind
 .obtain⟨h1,h2,h3,h4⟩:=ok'.sf.zc j h
  grind
 .rintro j (h|rfl)
  .exact k3.F' j h
  simp_all
 .refine⟨some ⟨b,0,none⟩,c,by rw[hv,hn],hlc,.inr ⟨b,0,rfl,?_,cT (λ_ _=>rfl) (hH g) rfl _ _ hrd⟩⟩
  cases g
  .exact .inr rfl
  exact .inr ⟨rfl,rfl⟩
 .simp at hm;obtain⟨rfl,rfl⟩:=hm
  exact⟨b,c,arr,hr,hh,ha,hlc,hmx,hes,cT (λ_ _=>rfl) (hH g) rfl _ _ hrd,(λh=>by cases h),λ_=>⟨.inr rfl,λhg=>.inr ⟨hg,rfl⟩⟩⟩
 grind
section
variable {P:Program} {N:Nat} {d:Tmp} {tt:TypeId} {ps:String} {af:Array Edge} {gd:Option (Nat×Bool)} {x y:Operand} {sl sl1 sl2:Lab} {ob ob1:Laa} {nx:Nat}
theorem olh {o:Nat} {els:List (Int×List Int)} {A:Option Addr} {e:Int×List Int} [jw P t] (he:els[i]?=some e) (hx:opT sl x= .v (.c (.e o 2 i 1))) (ho:go ob o=some (.cxo o ty nt els (some (i,A,n,k)))) (hN:nlt d N=true):
 NS0 P N ⟨some d,.load t x,tt,ps,af,gd⟩ sl ob nx d (.v (.c (.d false (.k A n k)))) ⟨d,[(x,.v (.c (.e o 2 i 1)))],[(o,.cxo o ty nt els (some (i,A,n,k)))],.v (.c (.d false (.k A n k))),[]⟩:=dS (st:=⟨sl,ob,nx⟩) (Ls he) rfl hN ⟨hx,trivial⟩ ⟨ho,trivial⟩ rfl
theorem olx {o:Nat} {els:List (Int×List Int)} {e:Int×List Int} [jw P t] (he:els[i]?=some e) (hx:opT sl x= .v (.c (.e o 2 i 1))) (ho:go ob o=some (.cxo o ty nt els none)) (hN:nlt d N=true):
 NS0 P N ⟨some d,.load t x,tt,ps,af,gd⟩ sl ob nx d (.v (.c (.r o (.l (e.2.map eI))))) ⟨d,[(x,.v (.c (.e o 2 i 1)))],[(o,.cxo o ty nt els none)],.v (.c (.r o (.l (e.2.map eI)))),[]⟩:=dS (st:=⟨sl,ob,nx⟩) (Rf he rfl) rfl hN ⟨hx,trivial⟩ ⟨ho,trivial⟩ rfl
theorem WY {o:Oper} {needs:List (Operand×T)} {out':T} (h:AWN P o needs nob out nw) (ho:∀E w v,cvT E w out v->cvT E w out' v):AWN P o needs nob out' nw:=by
 intro cx E a w ok hn hb hf
 refine Oper.wp_mono ?_ (h cx E a w ok hn hb hf)
 grind
def nkC:C->C
 | .nil=>.d false (.k none 0 0)
 |c=>c
def nkCs:List C->List C
 |[]=>[]
 |c::cs=>nkC c::nkCs cs
theorem nkC_ok {E:Env} {c:C} (h:cvC E w c u):cvC E w (nkC c) u:=by
 cases c with
 |nil=>have h:u= .slice none 0 0:=h;subst h;rfl
 |_=>exact h
theorem Pq {E:Env} {w:World}:∀{cs:List C} {us:Lae},CV E w cs us->CV E w (nkCs cs) us
 |[],[],_=>trivial
 |c::cs,u::us,h=>⟨nkC_ok h.1,Pq h.2⟩
 |[],_::_,h=>h.elim
 |_::_,[],h=>h.elim
theorem bdk {zs cs':List C} {pl:Lac} {parts:List (Nat×Operand)} {vs:List V} [TyZ P t zs] [TyB P t pl] (hv:Nx sl (parts.map (·.2))=some vs) (h:Ed pl zs ((parts.map (·.1)).zip vs)=some cs) (hk:nkCs cs=cs') (hN:nlt d N=true):
 NS0 P N ⟨some d,.build t parts.toArray,tt,ps,af,gd⟩ sl ob nx d (.v (.agg cs')) ⟨d,(parts.map (·.2)).zip (vs.map T.v),[],.v (.agg cs'),[]⟩:=by
 subst hk
 obtain⟨h1,h2⟩:=DE hv
 exact dS (st:=⟨sl,ob,nx⟩) (WY (Pp (by simp_all) h) (λE w v ⟨arr,hu,hc⟩=>⟨arr,hu,Pq hc⟩)) rfl hN h2 trivial rfl
theorem bsx {len:Nat} {parts:List (Nat×Operand)} {vs:List V} (h:NS P N ⟨some d,.buildSlice t len parts.toArray,tt,ps,af,gd⟩ ⟨sl,ob,nx⟩ ⟨(d,.v (.c (.w nx len)))::sl,(nx,.row e sz els g true)::ob,nx'⟩ ⟨d,(parts.map (·.2)).zip (vs.map T.v),[],.v (.c (.w nx len)),[(nx,.row e sz els g true)]⟩) (hn:els.length=len):
 NX P N ⟨some d,.buildSlice t len parts.toArray,tt,ps,af,gd⟩ ⟨sl,ob,nx⟩ ⟨(d,.v (.c (.d g (.l els))))::sl,(nx,.row e sz els g false)::ob,nx'⟩ ⟨⟨d,(parts.map (·.2)).zip (vs.map T.v),[],.v (.c (.d g (.l els))),[(nx,.row e sz els g false)]⟩,[],none⟩:=by
 obtain⟨h1,h2,h3,h4,h5,h6,h7⟩:=h
 exact⟨Th hn (vT (Ea h1)),.inl ⟨rfl,h3⟩,h4,h5,h6,rfl⟩
def ZL (a:Int):List D:=[.i .i64 a,.k none 0 0]
end
def fzC (nw:Laa):C->Option (RC×Lac)
 | .d _ (.i k n)=>some (.d (.i k n),[])
 | .d _ (.b x)=>some (.d (.b x),[])
 | .d _ (.str s)=>some (.d (.str s),[])
 | .d true (.l xs)=>some (.d (.l xs),[])
 | .wn l n=>match go nw l with
  |some (.rown _ _ els true)=>some (.d (.l els),[(els.length,n)])
  |_=>none
 | .w l n=>match go nw l with
  |some (.row _ _ els true true)=>some (.d (.l els),[(els.length,n)])
  |_=>none
 |_=>none
def T1 (nw:Laa):List C->Option (List RC×Lac)
 |[]=>some ([],[])
 |c::cs=>match fzC nw c,T1 nw cs with
  |some (r,e),some (rs,es)=>some (r::rs,e++es)
  |_,_=>none
def fzV (nw:Laa):V->Option (RV×Lac)
 | .c c=>match fzC nw c with
  |some (r,e)=>some (.c r,e)
  |none=>none
 | .agg cs=>match T1 nw cs with
  |some (r,e)=>some (.agg r,e)
  |none=>none
def Nc (nw:Laa):List V->Option (List RV×Lac)
 |[]=>some ([],[])
 |c::cs=>match fzV nw c,Nc nw cs with
  |some (r,e),some (rs,es)=>some (r::rs,e++es)
  |_,_=>none
def fzT (nw:Laa):T->Option (List RV×Lac)
 | .v v=>match fzV nw v with
  |some (r,e)=>some ([r],e)
  |none=>none
 | .tup (a::b::vs)=>Nc nw (a::b::vs)
 |_=>none
section
variable {nw:Laa} {E:Env} {w:World} {G:Nat->Prop} {base:Nat} (hG:∀b,E.G b->G b) (hN:∀l y,go nw l=some y->df E w l y) (hb:∀l y b c,go nw l=some y->E.r l=some (b,c)->jv w b->G b)
include hG hN hb
theorem T0 {c:C} {r:RC} {e:Lac} (h:fzC nw c=some (r,e)) (he:Eqs e) (hc:cvC E w c u):rcR w G base r u []:=by
 cases c with
 |d g x=>
  cases x with
  |i k n=>simp[fzC] at h;obtain⟨rfl,rfl⟩:=h;exact⟨rfl,by simpa [cvC,rdD] using hc⟩
  |b n=>simp[fzC] at h;obtain⟨rfl,rfl⟩:=h;exact⟨rfl,by simpa [cvC,rdD] using hc⟩
  |str n=>simp[fzC] at h;obtain⟨rfl,rfl⟩:=h;exact⟨rfl,by simpa [cvC,rdD] using hc⟩
  |k A n c'=>simp[fzC] at h
  |l xs=>
   cases g with
   |false=>simp[fzC] at h
   |true=>simp[fzC] at h;obtain⟨rfl,rfl⟩:=h;exact⟨rfl,cS (λ_ _=>rfl) hG _ _ hc⟩
 |wn l n=>
  simp only[fzC] at h
  split at h
  .rename_i ty sz els hg
   simp at h;obtain⟨rfl,rfl⟩:=h
   have hn:els.length=n:=he.1
   rcases hc with⟨h0,h1,h2⟩|⟨h0,b,c,h1,h2⟩
   .subst h2;subst hn
    have:els=[]:=aaQ h1
    subst this
    exact⟨rfl,none,0,rfl,aah _,.inl rfl⟩
   rcases hN l _ hg with⟨k0,_⟩|⟨_,b',c',arr,k1,k2,k3,k4,k5,k6,k7,k8⟩
   .simp_all
   rw[h1] at k1;cases k1
   exact⟨rfl,some ⟨b,0,none⟩,c,by simp_all,k4,.inr ⟨b,0,rfl,hb l _ b c hg h1 (.mk k2),cT (λ_ _=>rfl) hG rfl _ _ k7⟩⟩
  cases h
 |w l n=>
  simp only[fzC] at h
  split at h
  .rename_i ty sz els hg
   simp at h;obtain⟨rfl,rfl⟩:=h
   have hn:els.length=n:=he.1
   obtain⟨b,c,h1,h2⟩:=hc
   obtain⟨b',c',arr,k1,k2,k3,k4,k5,k6,k7,k8,_⟩:=hN l _ hg
   rw[h1] at k1;cases k1
   exact⟨rfl,some ⟨b,0,none⟩,c,by simp_all,k4,.inr ⟨b,0,rfl,hb l _ b c hg h1 (.mk k2),cT (λ_ _=>rfl) hG rfl _ _ k7⟩⟩
  cases h
 |_=>simp[fzC] at h
theorem OR:∀{cs:List C} {rs:List RC} {e:Lac} {us:Lae},T1 nw cs=some (rs,e)->Eqs e->CV E w cs us->GT w G base rs us []
 |[],rs,e,us,h,he,hc=>by
  simp[T1] at h;obtain⟨rfl,rfl⟩:=h
  cases us with
  |nil=>rfl
  |cons _ _=>exact hc.elim
 |c::cs,rs,e,us,h,he,hc=>by
  simp only[T1] at h
  split at h
  .rename_i r e1 rs' e2 h1 h2
   simp at h;obtain⟨rfl,rfl⟩:=h
   obtain⟨g1,g2⟩:=eR he
   cases us with
   |nil=>exact hc.elim
   |cons u us=>exact⟨[],[],rfl,T0 hG hN hb h1 g1 hc.1,OR h2 g2 hc.2⟩
  cases h
theorem T6 {v:V} {r:RV} {e:Lac} (h:fzV nw v=some (r,e)) (he:Eqs e) (hc:cvV E w v u):rvR w G base r u []:=by
 cases v with
 |c c=>
  simp only[fzV] at h
  split at h
  .rename_i r' e' h1;simp at h;obtain⟨rfl,rfl⟩:=h;exact T0 hG hN hb h1 he hc
  cases h
 |agg cs=>
  simp only[fzV] at h
  split at h
  .rename_i r' e' h1;simp at h;obtain⟨rfl,rfl⟩:=h
   obtain⟨arr,hu,hc⟩:=hc
   exact⟨arr,hu,OR hG hN hb h1 he hc⟩
  cases h
theorem OU:∀{cs:List V} {rs:List RV} {e:Lac} {us:Lae},Nc nw cs=some (rs,e)->Eqs e->VV E w cs us->Dq w G base rs us []
 |[],rs,e,us,h,he,hc=>by
  simp[Nc] at h;obtain⟨rfl,rfl⟩:=h
  cases us with
  |nil=>rfl
  |cons _ _=>exact hc.elim
 |c::cs,rs,e,us,h,he,hc=>by
  simp only[Nc] at h
  split at h
  .rename_i r e1 rs' e2 h1 h2
   simp at h;obtain⟨rfl,rfl⟩:=h
   obtain⟨g1,g2⟩:=eR he
   cases us with
   |nil=>exact hc.elim
   |cons u us=>exact⟨[],[],rfl,T6 hG hN hb h1 g1 hc.1,OU h2 g2 hc.2⟩
  cases h
theorem ZT {t:T} {rs:List RV} {e:Lac} (h:fzT nw t=some (rs,e)) (he:Eqs e) (hc:cvT E w t u):As w G base rs u []:=by
 cases t with
 |v v=>
  simp only[fzT] at h
  split at h
  .rename_i r' e' h1;simp at h;obtain⟨rfl,rfl⟩:=h;exact T6 hG hN hb h1 he hc
  cases h
 |any=>cases h
 |tup ts=>
  match ts,h,hc with
  |[],h,_=>cases h
  |[_],h,_=>cases h
  |a::b::vs,h,hc=>
   obtain⟨arr,hu,hc⟩:=hc
   have h:Nc nw (a::b::vs)=some (rs,e):=h
   have key:=OU hG hN hb (base:=base) h he hc
   have hlen:∃x y zs,rs=x::y::zs:=by
    simp only[Nc] at h
    split at h
    .grind
    cases h
   obtain⟨x,y,zs,rfl⟩:=hlen
   exact⟨arr,hu,key⟩
end
def Pt:Laa->Bool
 |[]=>true
 |(l,_)::r=>!rsv l&&Pt r
theorem Lv {l:Nat} {y:Ob}:∀{nw:Laa},Pt nw=true->go nw l=some y->rsv l=false
 |[],_,h=>by cases h
 |(k,z)::r,h0,h=>by
  simp only[Pt,hV,aaw] at h0
  by_cases e:k=l
  .simp_all
  rw[b7 _ _ e] at h;exact Lv h0.2 h
theorem FnV.frzW {t':TypeId} {cs':List C} {args:List T} {e:Lac} (h:FnV P f [(200,.var t cs)] args [(200,.var t' cs')] out nw) (hf:cs'.all C.free=true) (hz:fzT nw out=some (res,e)) (he:Eqs e) (hn:Pt nw=true):
 FnW P f (.var t cs) args (.var t' cs') res:=by
 refine⟨h.enters,λF w vals b c hF hb hT hs hx hA=>?_⟩
 have hbF:¬F b:=by
  obtain⟨b',c',arr,k1,k2,k3,k4⟩:=hx
  simp[E0] at k1;obtain⟨rfl,rfl⟩:=k1
  exact k4
 have hr0:∀o p,(E0 b c F).r o=some p↔o=200/\p=(b,c):=λo p=>by
  show(if o=200 then some (b,c) else none)=some p↔_
  grind
 have hI:VIn (E0 b c F) w:=⟨hF,λ_ h=>h.elim,λo b' c' h=>by
  obtain⟨rfl,e⟩:=(hr0 _ _).1 h;cases e;exact⟨hb,rfl,hbF⟩,λo o' b' c1 c2 h h'=>by simp_all,λ_ _ h=>h,λ_ h=>h⟩
 refine(h.calls (E0 b c F) w vals hI hT (λk hk o c' h=>by simp_all) (λl x h=>?_) hA).mono ?_
 .by_cases el:200=l
  .subst el;rw[cI] at h;simp_all
  rw[b7 _ _ el] at h;cases h
 rintro en w' ⟨v,E',hen,vo,hv,hys,hnw⟩
 refine⟨v,λk=>(E'.F k/\w.heap.size<=k)\/(w.heap.size<=k/\k<w'.heap.size/\jv w' k/\∃l y c,go nw l=some y/\E'.r l=some (k,c)),[],hen,⟨vo.past.os,vo.past.tape,vo.past.output,vo.past.size,λk hk hW=>vo.past.block k hk (λ⟨o,c',ho⟩=>hW (by simp_all))⟩,λk hk=>?_,?_,by simp,?_⟩
 .rcases hk with⟨h1,h2⟩|⟨h1,h2,h3,_⟩
  .refine⟨h2,vo.fb k h1,?_⟩
   rcases vo.f0 k h1 with h|h
   .have:=hF k h;omega
   exact h.2
  simp_all
 .refine ZT (λk hk=>.inl ⟨vo.gf k hk,(vo.g0 k hk).resolve_right (λh=>h.elim)⟩) hnw (λl y k c' hg hr hp=>?_) hz he hv
  obtain⟨q1,q2⟩:=vo.rb l k c' hr
  exact .inr ⟨q2.resolve_right (λq=>by rw[Lv hn hg] at q;cases q.2),q1,hp,l,y,c',hg,hr⟩
 obtain⟨b',c',arr,k1,k2,k3,k4⟩:=hys 200 _ (cI _ _ _)
 have hp:=vo.pin 200 _ rfl k1
 obtain⟨_,ep⟩:=(hr0 _ _).1 hp;cases ep
 refine⟨b,c,arr,by simp[E1],k2,If (E:=E') (λg k hk=>?_) (λ_ _ _=>rfl) hf k3,?_⟩
 .have hFk:∀k,E'.F k->F k\/(E'.F k/\w.heap.size<=k):=λk hk=>(vo.f0 k hk).imp id (λh=>⟨hk,h.1⟩)
  cases g with
  |false=>
   show F k\/_
   rcases hFk k hk with h|h
   .exact .inl h
   simp_all
  |true=>
   exact .inl ⟨vo.gf k hk,(vo.g0 k hk).resolve_right (λh=>h.elim)⟩
 rintro(h1|⟨h1,h2⟩|⟨h1,_⟩)
 .exact hbF h1
 .omega
 omega
def upC:C->C
 | .d false (.l xs)=>.d true (.l xs)
 |c=>c
def upCs:List C->List C
 |[]=>[]
 |c::cs=>upC c::upCs cs
def upV:V->V
 | .c c=>.c (upC c)
 | .agg cs=>.agg (upCs cs)
def upVs:List V->List V
 |[]=>[]
 |c::cs=>upV c::upVs cs
def upT:T->T
 | .v v=>.v (upV v)
 | .tup vs=>.tup (upVs vs)
 | .any=>.any
section
variable {E E':Env} {w:World} (hr:∀o p,E.r o=some p->E'.r o=some p) (hn:∀o,E'.n o↔E.n o) (hF:∀b,E.F b->E'.F b) (hG:∀b,E.G b->E'.G b) (hFG:∀b,E.F b->E'.G b) (hT:E'.T=E.T) (hZ:E'.Z=E.Z)
include hr hn hF hG hFG hT hZ
theorem Wg {c:C} (h:cvC E w c u):cvC E' w (upC c) u:=by
 have kp:kQ E w E' w\/True:=.inr trivial
 cases c with
 |d g x=>
  cases g with
  |false=>
   cases x with
   |l xs=>exact cS (λ_ _=>rfl) hFG _ _ h
   |i k n=>exact cS (λ_ _=>rfl) hF _ _ h
   |b n=>exact cS (λ_ _=>rfl) hF _ _ h
   |str n=>exact cS (λ_ _=>rfl) hF _ _ h
   |k A n c=>exact cS (λ_ _=>rfl) hF _ _ h
  |true=>exact cS (λ_ _=>rfl) hG _ _ h
 |w o n=>obtain⟨b,c,h1,h2⟩:=h;exact⟨b,c,hr _ _ h1,h2⟩
 |s o sz off len=>obtain⟨A,c,b,k,h1,h2⟩:=h;exact⟨A,c,b,k,hr _ _ h1,h2⟩
 |p o k=>obtain⟨b,c,h1,h2⟩:=h;exact⟨b,c,hr _ _ h1,h2⟩
 |e o sz i j=>obtain⟨b,c,h1,h2⟩:=h;exact⟨b,c,hr _ _ h1,h2⟩
 |q g y j=>
  obtain⟨b,k,h1,h2,h3⟩:=h
  cases g with
  |false=>exact⟨b,k,h1,hF b h2,rdL_mono (λ_ _=>rfl) hF _ _ _ h2 h3⟩
  |true=>exact⟨b,k,h1,hG b h2,rdL_mono (λ_ _=>rfl) hG _ _ _ h2 h3⟩
 |fn f=>exact h
 |nil=>exact h
 |any=>trivial
 |r l x=>exact cS (λ_ _=>rfl) (λb hb=>by simp_all) _ _ h
 |z x=>exact vx (λ_ _=>sD.refl _ _) (λb hb=>by simp_all) _ _ h
 |zq y j=>obtain⟨b,k,h1,h2,h3⟩:=h;exact⟨b,k,h1,by simp_all,rsL_mono (λ_ _=>sD.refl _ _) (λb hb=>by simp_all) _ _ _ h2 h3⟩
 |wn o n=>
  rcases h with⟨h1,h2⟩|⟨h1,b,c,h2,h3⟩
  .exact .inl ⟨(hn o).2 h1,h2⟩
  exact .inr ⟨λk=>h1 ((hn o).1 k),b,c,hr _ _ h2,h3⟩
theorem Qg:∀{cs:List C} {us:Lae},CV E w cs us->CV E' w (upCs cs) us
 |[],[],_=>trivial
 |c::cs,u::us,h=>⟨Wg hr hn hF hG hFG hT hZ h.1,Qg h.2⟩
 |[],_::_,h=>h.elim
 |_::_,[],h=>h.elim
theorem Wh {v:V} (h:cvV E w v u):cvV E' w (upV v) u:=by
 cases v with
 |c c=>exact Wg hr hn hF hG hFG hT hZ h
 |agg cs=>obtain⟨arr,hu,h⟩:=h;exact⟨arr,hu,Qg hr hn hF hG hFG hT hZ h⟩
theorem Qh:∀{cs:List V} {us:Lae},VV E w cs us->VV E' w (upVs cs) us
 |[],[],_=>trivial
 |c::cs,u::us,h=>⟨Wh hr hn hF hG hFG hT hZ h.1,Qh h.2⟩
 |[],_::_,h=>h.elim
 |_::_,[],h=>h.elim
theorem upT_ok {t:T} (h:cvT E w t u):cvT E' w (upT t) u:=by
 cases t with
 |v v=>exact Wh hr hn hF hG hFG hT hZ h
 |tup vs=>obtain⟨arr,hu,h⟩:=h;exact⟨arr,hu,Qh hr hn hF hG hFG hT hZ h⟩
 |any=>trivial
end
def dnC:C->Option C
 | .d true (.l xs)=>some (.d false (.l xs))
 | .d g (.i k n)=>some (.d g (.i k n))
 | .d g (.b x)=>some (.d g (.b x))
 | .d g (.str s)=>some (.d g (.str s))
 | .nil=>some .nil
 | .fn f=>some (.fn f)
 |_=>none
theorem ZJ {E E':Env} (hG:∀b,E.G b->E'.F b) {c c':C} (h:dnC c=some c') (hc:cvC E w c u):cvC E' w c' u:=by
 cases c with
 |d g x=>
  cases x with
  |l xs=>
   cases g with
   |false=>cases h
   |true=>cases h;exact cS (λ_ _=>rfl) hG _ _ hc
  |i k n=>cases g<;>(cases h;simpa [cvC,rdD] using hc)
  |b n=>cases g<;>(cases h;simpa [cvC,rdD] using hc)
  |str n=>cases g<;>(cases h;simpa [cvC,rdD] using hc)
  |k A n c=>cases g<;>cases h
 |nil=>cases h;exact hc
 |fn f=>cases h;exact hc
 |_=>simp[dnC] at h
theorem SO {f:C->Option C} {E E':Env} {w w':World} (hf:∀c c' u,f c=some c'->cvC E w c u->cvC E' w' c' u):∀{ts ts':List T} {us:Lae},sZ f ts=some ts'->TV E w ts us->TV E' w' ts' us
 |[],ts',us,h,hv=>by
  simp[sZ] at h;subst h
  cases us with
  |nil=>trivial
  |cons _ _=>exact hv.elim
 |t::ts,ts',us,h,hv=>by
  simp only[sZ] at h
  split at h
  .rename_i h1 h2
   simp at h;subst h
   cases us with
   |nil=>exact hv.elim
   |cons u us=>exact⟨Bk hf h1 hv.1,SO hf h2 hv.2⟩
  cases h
theorem FnV.up {args args':List T} {out':T} (h:FnV P f [] args [] out nw) (ha:sZ dnC args'=some args) (ho:upT out=out'):FnV P f [] args' [] out' nw:=by
 subst ho
 refine⟨h.enters,λE w vals hI ht hs hx hA=>?_⟩
 obtain⟨E0,hE0⟩:∃E0:Env,E0={E with F:=E.G}:=⟨_,rfl⟩
 have e_r:E0.r=E.r:=by subst hE0;rfl
 have e_F:E0.F=E.G:=by subst hE0;rfl
 have e_G:E0.G=E.G:=by subst hE0;rfl
 have e_T:E0.T=E.T:=by subst hE0;rfl
 have e_Z:E0.Z=E.Z:=by subst hE0;rfl
 have hI0:VIn E0 w:=⟨λb hb=>hI.fb b (hI.gf b (by simp_all)),λb hb=>by simp_all,λo b c hr=>by
  rw[e_r] at hr
  obtain⟨k1,k2,k3⟩:=hI.rb o b c hr
  exact⟨k1,k2,by rw[e_F];exact λhg=>k3 (hI.gf b hg)⟩,by rw[e_r];exact hI.inj,by rw[e_T];exact hI.T,by rw[e_Z];exact hI.Z⟩
 refine(h.calls E0 w vals hI0 ht (by simp_all) (λl x hg=>by cases hg) (SO (λc c' u hc hv=>ZJ (λb hb=>by simp_all) hc hv) ha hA)).mono ?_
 rintro e w' ⟨v,E',he,vo,hv,_,hnw⟩
 have f0:∀b,E'.F b->E.G b\/(w.heap.size<=b/\jv w' b):=λb hb=>by have:=vo.f0 b hb;simp_all
 have hr0:∀o b c,E'.r o=some (b,c)->b<w'.heap.size/\(w.heap.size<=b\/((∃o' c',E.r o'=some (b,c'))/\rsv o=true)):=λo b c hr=>by have:=vo.rb o b c hr;simp_all
 refine⟨v,{E' with F:=λb=>E'.F b\/E.F b,G:=E'.F},he,⟨by have:=vo.past;simp_all,λb hb=>hb.elim (vo.fb b) (λhb=>aay (hI.fb b hb) vo.past.size),λb hb=>hb.elim (λhb=>(f0 b hb).imp (hI.gf b) id) .inl,λb hb=>.inr hb,λb hb=>vo.F b (by simp_all),λb hb=>.inl hb,λb hb=>(f0 b hb).elim .inr (λk=>.inl k.1),hr0,vo.inj,λo x ho hx'=>by have:=vo.pin o x ho hx';simp_all⟩,
  upT_ok (E:=E') (E':={E' with F:=λb=>E'.F b\/E.F b,G:=E'.F}) (λ_ _ h=>h) (λ_=>Iff.rfl) (λb hb=>.inl hb) (λb hb=>vo.gf b hb) (λb hb=>hb) rfl rfl hv,λl y hg=>(by cases hg),λl y hg=>?_⟩
 have hk:kQ E' w' {E' with F:=λb=>E'.F b\/E.F b,G:=E'.F} w':=⟨λ_ _ h=>h,λg b hb=>by cases g;exact .inl hb;exact vo.gf b hb,λ_ _ _=>rfl,λ_ _ h=>⟨h,rfl⟩,λ_ h=>⟨h,.refl _ _⟩,rfl⟩
 refine gN hk (λ_ _ _=>rfl) (λb c hr hn hF=>hF.elim hn (λhb=>?_)) (hnw l y hg)
 rcases(hr0 l b c hr).2 with k|⟨⟨o',c',k⟩,_⟩
 .have:=hI.fb b hb;omega
 exact(hI.rb o' b c' k).2.2 hb
section
variable {P:Program} {d:Tmp} {ty:TypeId} {ps:String} {af:Array Edge} {gd:Option (Nat×Bool)} {x y:Operand}
theorem GR {t:Nat} {g2:Bool} {o:Nat} {m:Bool} {rt:TypeId} {hi:Operand} [ht:ei P t e sz by_] (hn:els.length=n) (h0:0<=h) (h2:h<=n):
 AWN P ⟨some d,.slice t x none (some hi) none,ty,ps,af,gd⟩ [(x,.v (.c (.w o n))),(hi,.v (.c (.d g2 (.i .i64 h))))] [(o,.row rt sz els g m)] (.v (.c (.w o h.toNat))) []:=
 cE λE ac w hne hob=>by
  have k1:=hne x _ (.head _)
  have k3:=iI (hne hi _ (.tail _ (.head _)))
  obtain⟨b,c,hr,hu⟩:=k1
  obtain⟨b',c',arr,hr',_,_,hlc,_⟩:=hob o _ (.head _)
  rw[hr] at hr';cases hr'
  obtain⟨i,z,hi1,hi2,_⟩:=ht.i
  obtain⟨he,hu'⟩:=AY ht.u
  refine⟨sliced (some ⟨b,0,none⟩) 0 h.toNat c sz,?_,?_⟩
  .simp[execOp,hu,k3,run_sliceAt_slice w t _ _ _ _ hu',run_slice_h w t (some ⟨b,0,none⟩) n c hu' .i64 h h0 oaa,he,eW hi1,hi2]
  exact⟨b,c,hr,by simp[sliced,vQ]⟩
theorem Ja {o:Nat} {ys:Lad} {c:C} [ht:ei P t e sz by_] (hrv:rsv o=false)
 (ho:go nob o=some (.row e sz els g true)) (hs:Src nob c ys gy) (hn:n<=els.length) (hsz:∀e∈ys,e.length=sz) (hb:(n+ys.length)*by_<=140737488355328) (h63:n+ys.length<=9223372036854775807):
 AWK P ⟨some d,.call ⟨.builtin .append,#[x,y],#[t,t]⟩,ty,ps,af,gd⟩ [(x,.v (.c (.w o n))),(y,.v (.c c))] nob (.v (.c (.w q (n+ys.length)))) [(q,.row e sz (els.take n++ys) (g&&gy) true)] [] (some o):=by
 intro cx E a w ok hne hnob hfr
 have hob:∀l x,go nob l=some x->df E w l x:=λl x h=>hnob l x (Af h)
 obtain⟨hq1,hq2⟩:=hfr q _ (.head _)
 have h1:cvT E w (.v (.c (.w o n))) (a.eval x):=hne x _ (.head _)
 have h2:cvT E w (.v (.c c)) (a.eval y):=hne y _ (.tail _ (.head _))
 obtain⟨b,cc,hr,hu⟩:=h1
 obtain⟨b',c',arr,hr',hh,ha,hlc,hmx,hes,hrd,hFm,_⟩:=hob o _ ho
 rw[hr] at hr';cases hr'
 have hF:=hFm rfl
 have hesT:∀e'∈els.take n,e'.length=sz:=λe' he'=>hes e' (aas he')
 have hrdT:=pD n hrd
 have hnT:(els.take n).length=n:=by simp;omega
 have hoq:o≠q:=λe=>by simp_all
 obtain⟨A,k,hv,hyk,hA⟩:=DO hob hs h2
 obtain⟨ii,zz,i1,i2,i3,i4,i5⟩:=ht.i
 have hbl:=(ok.rb o b cc hr)
 have hown:w.ownsRow 0 e sz (.slice (some ⟨b,0,none⟩) n cc) n (arr.toList.take (n*sz)):=
  ⟨by simp[ha];grind,.inr ⟨b,cc,arr,rfl,aap _,hh,by omega,hmx,ha,rfl⟩⟩
 have hsrc:∃news:Lae,news.length=ys.length*sz/\(∀u∈news,u.oneCell'=true)/\(∀(j:Nat) (xd:D),ys.flatten[j]?=some xd->∃u,news[j]?=some u/\rdD w (E.H gy) xd u)/\
  ∃v' w',(Builtin.append_ #[t,t] ty #[.slice (some ⟨b,0,none⟩) n cc,.slice A ys.length k]).run P w= .ok v' w'/\w'.ownsRow 0 e sz v' (n+ys.length) (arr.toList.take (n*sz)++news)/\w.grownBy w' (some b)/\v'≠.slice none 0 0/\(v'.ownBlock=some b\/v'.ownBlock=some w.heap.size):=by
  have hgood:∀ad,A=some ad->∀news:Lae,news.length=ys.length*sz->(∀(j:Nat) (u:Value),news[j]?=some u->w.cell? (ad.add j)=some u)->(∀u∈news,u.oneCell'=true)->
   ∃v' w',(Builtin.append_ #[t,t] ty #[.slice (some ⟨b,0,none⟩) n cc,.slice A ys.length k]).run P w= .ok v' w'/\w'.ownsRow 0 e sz v' (n+ys.length) (arr.toList.take (n*sz)++news)/\w.grownBy w' (some b)/\v'≠.slice none 0 0/\(v'.ownBlock=some b\/v'.ownBlock=some w.heap.size):=by
   intro ad hAd news n1 n2 n3
   obtain⟨v',w',r1,r2,r3,r4,r5⟩:=run_append_own_at (P:=P) w 0 t ty e ii zz sz by_ ht.u i1 i4 i2 i3 i5 ht.p _ n _ hown ad ys.length k news n1 n2 n3 (by unfold maxLen;omega) hb (aap _)
   exact⟨v',w',by simp_all,r2,r3,(λh=>by simp_all),r5⟩
  rcases hA with h0|⟨b2,off,rfl,hrd2⟩
  .subst h0
   refine⟨[],by simp,by simp,by simp,?_⟩
   cases A with
   |none=>exact⟨_,w,s9 w ht.u i1 hown k,by simp_all,⟨rfl,rfl,rfl,aah _,λ_ _ _=>rfl⟩,by simp,.inl rfl⟩
   |some ad=>simp_all
  obtain⟨us,q1,q2,q3,q4⟩:=vw (fw.1 hrd2)
  exact⟨us,by rw[q1,gE hsz],q3,q4,hgood _ rfl us (by rw[q1,gE hsz]) q2 q3⟩
 obtain⟨news,n1,n2,n3,v',w',r1,r2,r3,r4,r5⟩:=hsrc
 obtain⟨_,r2⟩:=r2
 rcases r2 with⟨rfl,_⟩|⟨bn,cap,cur,rfl,_,hhn,hcap,hcapm,hcur,htk⟩
 .simp_all
 unfold Oper.wp
 simp only[execOp,resolve,invoke,builtin,Sem.run_bind,Sem.run_pure,Result.andThen_ok,aaV,aau,aaJ,hu,hv,r1,Oper.upon_value]
 have hbn:bn=b\/bn=w.heap.size:=by simpa [Value.ownBlock] using r5
 have hsame:∀k,k<w.heap.size->k≠b->w'.heap[k]?=w.heap[k]?:=λk hk hne=>r3.block k hk (λe=>hne (by injection e))
 have hnF:¬E.F bn:=by
  rcases hbn with rfl|rfl
  .exact hF
  exact λh=>by have:=ok.fb _ h;omega
 have hbig:bn<w'.heap.size:=by
  rcases aat bn w'.heap.size with h|h
  .exact h
  simp_all
 have hnew:∀l bl cl,l≠o->E.r l=some (bl,cl)->bl≠bn:=by
  intro l bl cl hne hl e
  subst e
  rcases hbn with h|h
  .subst h;exact hne (ok.inj l o _ _ _ hl hr)
  have:=(ok.rb l bl cl hl).1;omega
 have hHb:∀g k,E.H g k->k≠b/\k<w.heap.size:=λg k hk=>⟨λe=>by subst e;cases g;exact hF hk;exact hF (ok.gf _ hk),ok.hb hk⟩
 have kH:∀(g:Bool) (k:Nat),E.H g k->w'.heap[k]?=w.heap[k]?:=λg k hk=>hsame k (hHb g k hk).2 (hHb g k hk).1
 have kI:∀(g:Bool) (k:Nat),E.H g k->(E.mv o q bn cap).H g k:=λ_ _ h=>h
 have hbnew:cx.w0.heap.size<=b:=by
  rcases hbl.2 with h|h
  .exact h
  simp_all
 have hmv:∀l bl cl,(E.mv o q bn cap).r l=some (bl,cl)->(l=q/\bl=bn/\cl=cap)\/(l≠q/\l≠o/\E.r l=some (bl,cl)):=by
  intro l bl cl hl
  simp only[Env.mv] at hl
  split at hl
  .simp_all
  simp_all
 refine⟨_,E.mv o q bn cap,rfl,⟨λk hk=>aay (ok.fb k hk) r3.size,ok.gf,ok.gn,λl bl cl hl=>?_,λl l' bl cl cl' hl hl'=>?_,by rw[r3.os];exact ok.os,by rw[r3.tape];exact ok.tape,by rw[r3.output];exact ok.output,Nat.le_trans ok.size r3.size,λk hk hW=>?_,λl xx hv hl=>?_,ok.ff,λk hk hk'=>(ok.gc k hk hk').of_eq (hsame k (hHb false k hk).2 (hHb false k hk).1),ok.sf.turn hr rfl rfl (λ_ h=>.inl h) (λl bl cl hl=>?_) r3.size hsame⟩,
  ⟨λl xx hl hlr=>?_,λ_ h=>h,λ_ h=>h,λ_ h=>.inl h,λk hk _ hkl=>hsame k hk (λe=>hkl o cc rfl (e▸hr)),(λ_ _ _ _ h=>by cases h),λl bl cl hl hlr=>?_,rfl,rfl,rfl⟩,⟨bn,cap,by simp[Env.mv],rfl⟩,λl ob hm=>?_,(λ_ _ h=>by cases h),λl xx hl=>?_⟩
 .rcases hmv l bl cl hl with⟨_,rfl,rfl⟩|⟨_,_,hl⟩
  .omega
  have:=ok.rb l bl cl hl;grind
 .rcases hmv l bl cl hl with⟨h1,h2,h3⟩|⟨h1,h2,h3⟩<;>rcases hmv l' bl cl' hl' with⟨k1,k2,k3⟩|⟨k1,k2,k3⟩
  .omega
  .grind
  .grind
  exact ok.inj l l' bl cl cl' h3 k3
 .rw[hsame k oaa oaa];exact ok.block k hk hW
 .obtain⟨bl,cl⟩:=xx
  rcases hmv l bl cl hl with⟨rfl,_⟩|⟨_,_,hl⟩
  .rw[rN hq2] at hv;cases hv
  exact ok.pin l _ hv hl
 .grind
 .simp only[Env.mv]
  grind
 .grind
 .simp at hm;obtain⟨rfl,rfl⟩:=hm
  have hall:∀e'∈els.take n++ys,e'.length=sz:=λe' he'=>by
   grind
  refine⟨bn,cap,cur,by simp[Env.mv],hhn,hcur,by simp;omega,hcapm,hall,?_,λ_=>hnF,λh=>by cases h⟩
  rw[fw]
  refine oI λj xd hj=>?_
  rw[aaj,eS hhn]
  rw[aaL] at hj
  have hfl:(els.take n).flatten.length=n*sz:=by rw[gE hesT,hnT]
  have hxs:(arr.toList.take (n*sz)).length=n*sz:=by simp[ha];rw[aaG oaa]
  have hcurj:∀u,(arr.toList.take (n*sz)++news)[j]?=some u->cur[j]?=some u:=by
   intro u hu
   rw[<-htk,List.getElem?_take] at hu
   split at hu
   .simp_all
   cases hu
  by_cases hjn:j<n*sz
  .rw[aaq oaa] at hj
   obtain⟨u,u1,u2⟩:=nq (fw.1 hrdT) hj
   rw[aaj,eS hh] at u1
   refine⟨u,hcurj u ?_,cS (kH _) (kI _) _ _ (pj ok u2 (by simp_all))⟩
   grind
  rw[aao oaa,hfl] at hj
  obtain⟨u,u1,u2⟩:=n3 _ _ hj
  refine⟨u,hcurj u ?_,cS (kH _) (kI _) _ _ (pj ok u2 (by simp))⟩
  rw[aao oaa,hxs]
  exact u1
 grind
end
section
variable {P:Program} {N:Nat} {d:Tmp} {ty:TypeId} {ps:String} {af:Array Edge} {gd:Option (Nat×Bool)} {x y:Operand} {sl:Lab} {ob:Laa} {nx:Nat} {α:Type} {enc:α->List D}
theorem cwfT {t:Nat} {g2:Bool} {o:Nat} {ys:List α} {m:Bool} {rt:TypeId} {hi:Operand} [ht:ei P t e sz by_] (H:eF ys 0 h=true) (hn:ys.length=n) (hx:opT sl x= .v (.c (.w o n))) (ho:go ob o=some (.row rt sz (ys.map enc) g m)) (hh:opT sl hi= .v (.c (.d g2 (.i .i64 h)))) (hN:nlt d N=true):
 NS0 P N ⟨some d,.slice t x none (some hi) none,ty,ps,af,gd⟩ sl ob nx d (.v (.c (.w o h.toNat))) ⟨d,[(x,.v (.c (.w o n))),(hi,.v (.c (.d g2 (.i .i64 h))))],[(o,.row rt sz (ys.map enc) g m)],.v (.c (.w o h.toNat)),[]⟩:=by
 simp only[eF,decide_eq_true_eq] at H
 exact dS (st:=⟨sl,ob,nx⟩) (GR (by simp_all) H.2.1 oaa) rfl hN ⟨hx,hh,trivial⟩ ⟨ho,trivial⟩ rfl
theorem apxP {o:Nat} {ys zs:List α} {zd:Lad} {gg:Bool} {c:C} (ls:List Nat) [ei P t e sz by_] (H0:eF ys 0 h=true) (H:da by_ (ys.take h.toNat++zs).length=true) (hzd:zs.map enc=zd) (henc:∀a,(enc a).length=sz)
 (hp:vp ob ls=some nob) (hs:Src nob c zd gy) (hd:nlt d N=true) (hx:opT sl x= .v (.c (.w o h.toNat))) (hy:opT sl y= .v (.c c)) (ho:go nob o=some (.row e sz (ys.map enc) g true)) (hg:(g&&gy)=gg) (hrv:rsv o=false) (hnx:nxt nx=some nx'):
 NX P N ⟨some d,.call ⟨.builtin .append,#[x,y],#[t,t]⟩,ty,ps,af,gd⟩ ⟨sl,ob,nx⟩ ⟨(d,.v (.c (.w nx (ys.take h.toNat++zs).length)))::sl,(nx,.row e sz ((ys.take h.toNat++zs).map enc) gg true)::ob,nx'⟩
  ⟨⟨d,[(x,.v (.c (.w o h.toNat))),(y,.v (.c c))],nob,.v (.c (.w nx (ys.take h.toNat++zs).length)),[(nx,.row e sz ((ys.take h.toNat++zs).map enc) gg true)]⟩,[],some o⟩:=by
 subst hzd;subst hg
 simp only[eF,decide_eq_true_eq] at H0
 have hle:h.toNat<=ys.length:=by omega
 have hl:(ys.take h.toNat++zs).length=h.toNat+zs.length:=by simp;omega
 simp only[da,decide_eq_true_eq,hl] at H
 have:=Ja (P:=P) (d:=d) (ty:=ty) (ps:=ps) (af:=af) (gd:=gd) (x:=x) (y:=y) (t:=t) (e:=e) (sz:=sz) (by_:=by_) (q:=nx) (n:=h.toNat) hrv ho hs (by simp_all) (Je henc zs) (by simp_all) (by simp_all)
 rw[<-aaZ,<-List.map_append,List.length_map,<-hl] at this
 exact⟨this,.inl ⟨rfl,dt hd⟩,⟨hx,hy,trivial⟩,vq hp,pB hnx,rfl⟩
theorem apxPF {o:Nat} {ys zs:List α} {zd:Lad} {c:C} (ls:List Nat) [ei P t e sz by_] (H0:eF ys 0 h=true) (H:da by_ (ys.take h.toNat++zs).length=true) (hzd:zs.map enc=zd) (henc:∀a,(enc a).length=sz) (hfl:∀a,tM (enc a)=true)
 (hp:vp ob ls=some nob) (hs:Src nob c zd gy) (hd:nlt d N=true) (hx:opT sl x= .v (.c (.w o h.toNat))) (hy:opT sl y= .v (.c c)) (ho:go nob o=some (.row e sz (ys.map enc) g true)) (hrv:rsv o=false) (hnx:nxt nx=some nx'):
 NX P N ⟨some d,.call ⟨.builtin .append,#[x,y],#[t,t]⟩,ty,ps,af,gd⟩ ⟨sl,ob,nx⟩ ⟨(d,.v (.c (.w nx (ys.take h.toNat++zs).length)))::sl,(nx,.row e sz ((ys.take h.toNat++zs).map enc) true true)::ob,nx'⟩
  ⟨⟨d,[(x,.v (.c (.w o h.toNat))),(y,.v (.c c))],nob,.v (.c (.w nx (ys.take h.toNat++zs).length)),[(nx,.row e sz ((ys.take h.toNat++zs).map enc) true true)]⟩,[],some o⟩:=by
 obtain⟨h1,h2,h3,h4,h5,h6⟩:=apxP (P:=P) (N:=N) (t:=t) (x:=x) (y:=y) (enc:=enc) (d:=d) (ty:=ty) (ps:=ps) (af:=af) (gd:=gd) (sl:=sl) (ob:=ob) (nx:=nx) ls H0 H hzd henc hp hs hd hx hy ho rfl hrv hnx
 refine⟨?_,h2,h3,h4,pB hnx,rfl⟩
 intro cx E a w ok hne hnob hfr
 refine Oper.wp_mono ?_ (h1 cx E a w ok hne hnob (λl x hm=>by simp_all))
 rintro a' w' ⟨v,E',k1,k2,k3,k4,k5,k6,k7⟩
 refine⟨v,E',k1,k2,k3,k4,λl x hm=>?_,k6,λl x hl=>(k7 l x hl).imp id (λ⟨x',hm⟩=>by simp_all)⟩
 simp at hm;obtain⟨rfl,rfl⟩:=hm
 obtain⟨b,c,arr,j1,j2,j3,j4,j5,j6,j7,j8,j9⟩:=k5 _ _ (.head _)
 refine⟨b,c,arr,j1,j2,j3,by simp_all,j5,by simp_all,?_,j8,λh=>by cases h⟩
 have:rdLL w' (E'.H true) ((ys.take h.toNat++zs).map enc) b 0:=yU (λe he=>by grind) j7
 simp_all
end
def nmO (d:Nat):Operand->Bool
 | .tmp t=>!d0 t d
 |_=>true
def Rj (d:Nat):Op->Bool
 | .move x| .assign x| .nilCheck x| .fieldAddr _ x _| .field _ x _| .load _ x| .unOp _ _ x| .convert _ _ x| .extract x _=>nmO d x
 | .store _ x y| .indexAddr _ x y| .index _ x y| .binOp _ _ x y _=>nmO d x&&nmO d y
 | .buildSlice _ _ ps| .build _ ps=>ps.toList.all λp=>nmO d p.2
 | .call c=>(match c.callee with| .value x=>nmO d x| .builtin _=>true|_=>false)&&c.args.toList.all (nmO d)
 |_=>false
theorem map_nm {d:Nat} {ρ ρ':Operand->Value} (hρ:∀x,nmO d x=true->ρ x=ρ' x) {l:Array Operand} (h:l.toList.all (nmO d)=true):l.map ρ=l.map ρ':=by
 grind
theorem XG {d:Nat} {ρ ρ':Operand->Value} (hρ:∀x,nmO d x=true->ρ x=ρ' x) {l:Array (α×Operand)} (h:(l.toList.all λp=>nmO d p.2)=true):(l.map λ(i,x)=>(i,ρ x))=(l.map λ(i,x)=>(i,ρ' x)):=by
 grind
theorem XU {d:Nat} {o:Oper} {ρ ρ':Operand->Value} (h:Rj d o.op=true) (hρ:∀x,nmO d x=true->ρ x=ρ' x):execOp ρ o=execOp ρ' o:=by
 unfold execOp
 cases e:o.op with
 |move x|assign x|nilCheck x|fieldAddr _ x _|field _ x _|load _ x|unOp _ _ x|convert _ _ x|extract x _=>
  rw[e] at h;simp only[hρ x h]
 |store _ x y|indexAddr _ x y|index _ x y|binOp _ _ x y _=>
  rw[e] at h;simp only[Rj,hV] at h;simp_all
 |buildSlice _ _ ps|build _ ps=>rw[e] at h;simp only[XG hρ h]
 |call c=>
  rw[e] at h
  simp only[Rj,hV] at h
  have h2:=map_nm hρ h.2
  have:resolve ρ c o.type=resolve ρ' c o.type:=by
   unfold resolve
   rw[h2]
   cases e2:c.callee with
   |value x=>simp_all
   |builtin b=>rfl
   |invoke r n=>simp_all
  simp_all
 |_=>first|rfl|(rw[e] at h;cases h)
section
variable {P:Program} {ops:Array Oper} {Q:Exit->Act->World->Prop}
theorem vu (a:Act) (o:Option Nat) (d:Nat) (u v:Value) (h:o≠some d):(a.put (some d) v).put o u=(a.put o u).put (some d) v:=by
 cases o with
 |none=>rfl
 |some k=>
  have hk:k≠d:=λe=>h (by rw[e])
  simp only[Act.put]
  congr 1
  exact abE _ _ (Ne.symm hk)
theorem TU {d:Nat} {v:Value} {x:Operand} (h:nmO d x=true):(a.put (some d) v).eval x=a.eval x:=by
 cases x with
 |tmp t=>
  have ht:t≠d:=λe=>by subst e;simp[nmO] at h
  show(a.tmps.setIfInBounds d v).getD t undef=a.tmps.getD t undef
  rw[abv,abv,abB (Ne.symm ht)]
 |_=>rfl
theorem Ww {o:Oper} {d s:Nat} {v:Value} {K K':Act->World->Prop} (hQ:∀e a w,Q e a w->e= .normal) (h:Rj d o.op=true) (hd:o.dst≠some d) (hs:o.dst≠some s)
 (hK:∀a' w',a'.tmps.getD s undef=a.tmps.getD s undef->K (a'.put (some d) v) w'->K' a' w') (hh:o.wp P (a.put (some d) v) w K Q):o.wp P a w K' Q:=by
 have hput:∀(a0:Act) (u:Value),a0.tmps=a.tmps->(a0.put o.dst u).tmps.getD s undef=a.tmps.getD s undef:=λa0 u h0=>by
  rw[<-h0]
  cases e:o.dst with
  |none=>rfl
  |some k=>
   have hk:k≠s:=λe'=>hs (by rw[e,e'])
   show(a0.tmps.setIfInBounds k u).getD s undef=a0.tmps.getD s undef
   simp_all
 unfold Oper.wp at*
 rw[XU h (ρ':=a.eval) (λx hx=>TU hx)] at hh
 generalize hr:(execOp a.eval o).run P w=r at*
 cases r with
 |ok n w'=>
  cases n with
  |value u=>exact hK _ w' (hput a u rfl) (by rw[<-vu a o.dst d u v hd];exact hh)
  |skip=>exact hK _ w' (hput a undef rfl) (by rw[<-vu a o.dst d undef v hd];exact hh)
  |defer x=>exact hK _ w' (hput {a with defers:=x::a.defers} undef rfl) (by rw[<-vu _ o.dst d undef v hd];exact hh)
  |enter f args=>
   refine Calls.mono hh (λe w'' he=>?_)
   cases e with
   |returned u=>exact hK _ w'' (hput a u rfl) (by rw[<-vu a o.dst d u v hd];exact he)
   |panicked c=>grind
   |outgrown=>exact he
  |row r args=>exact Rows.mono hh (λu w'' he=>hK _ w'' (hput a u rfl) (by rw[<-vu a o.dst d u v hd];exact he))
  |_=>exact hh.elim
 |halt x w'=>
  cases x with
  |panic u=>have:=hQ _ _ _ hh;cases this
  |_=>exact hh.elim
def Ij (ops:Array Oper) (i0 d s:Nat):Prop:=∀j o,ops[j]?=some o->j≠i0->(∃e∈o.after,Region.binds .any e=true/\e.on=i0)\/(Rj d o.op=true/\o.dst≠some d/\o.dst≠some s/\∀q b,o.guard=some (q,b)->(ops[q]?).bind (·.dst)≠some d)
theorem Om {o:Oper} {d:Nat} {v:Value} (hg:∀q b,o.guard=some (q,b)->(ops[q]?).bind (·.dst)≠some d):Region.wanted o (yielded ops (a.put (some d) v).tmps)=Region.wanted o (yielded ops a.tmps):=by
 unfold Region.wanted
 cases e:o.guard with
 |none=>rfl
 |some qb=>
  obtain⟨q,b⟩:=qb
  have:=hg q b e
  have hy:yielded ops (a.put (some d) v).tmps q=yielded ops a.tmps q:=by
   unfold yielded
   cases e2:(ops[q]?).bind (·.dst) with
   |none=>rfl
   |some k=>
    have hk:d≠k:=λe'=>this (by rw[e2,e'])
    show(match(a.tmps.setIfInBounds d v)[k]? with|some (.bool b)=>some b|_=>none)=_
    grind
  simp_all
theorem Eu {i0 d s:Nat} {o0:Oper} {listed:Array Bool} (hQ:∀e a w,Q e a w->e= .normal) (ho:ops[i0]?=some o0) (hop:o0.op= .move (.tmp s)) (hod:o0.dst=some d) (hog:o0.guard=none) (hoa:o0.after= #[]) (hE:Ij ops i0 d s) (hlt:i0<ops.size)
 (hsz:listed.size=ops.size) (hun:listed.getD i0 false=false) (hh:wpAny P .any ops Q n (listed.setIfInBounds i0 true) (a.put (some d) (a.tmps.getD s undef)) w)
 (h:∀i,(i∈Region.ready .any ops listed/\i≠i0/\i∈Region.ready .any ops (listed.setIfInBounds i0 true))->wpOp P ops Q i (wpAny P .any ops Q n (listed.setIfInBounds i true)) a w):wpAny P .any ops Q (n+1) listed a w:=by
 have hr0:i0∈Region.ready .any ops listed:=by
  rw[mem_ready]
  refine⟨?_,o0,ho,λe he=>by simp_all⟩
  rw[abv,Array.getElem?_eq_getElem oaa] at hun ⊢
  simpa using hun
 refine⟨λh0=>(by simp_all),λi hi=>?_⟩
 by_cases hne:i=i0
 .subst hne
  unfold wpOp
  simp only[ho]
  rw[if_pos (by simp[Region.wanted,hog])]
  refine .inl ?_
  unfold Oper.wp execOp
  rw[hop]
  show wpAny P .any ops Q n _ (a.put o0.dst (a.tmps.getD s undef)) w
  simp_all
 refine h i ⟨hi,hne,?_⟩
 obtain⟨h1,h2,o,h3,h4⟩:=mL hsz hi
 rw[mem_ready]
 refine⟨?_,o,h3,λe he hb=>?_⟩
 .have:(listed.setIfInBounds i0 true).getD i false=false:=by rw[cY oaa,if_neg (Ne.symm hne)];exact h2
  simp_all
 rw[cY oaa]
 simp_all
theorem My {i0 d s:Nat} {o0:Oper} (hQ:∀e a w,Q e a w->e= .normal) (ho:ops[i0]?=some o0) (hop:o0.op= .move (.tmp s)) (hod:o0.dst=some d) (hog:o0.guard=none) (hoa:o0.after= #[]) (hsd:s≠d) (hE:Ij ops i0 d s):
 ∀(n:Nat) (listed:Array Bool) (a:Act) (w:World),listed.size=ops.size->listed.getD i0 false=false->wpAny P .any ops Q n (listed.setIfInBounds i0 true) (a.put (some d) (a.tmps.getD s undef)) w->wpAny P .any ops Q (n+1) listed a w:=by
 have hlt:i0<ops.size:=by
  rcases aat i0 ops.size with h|h
  .exact h
  simp_all
 intro n
 induction n with
 |zero=>
  intro listed a w hsz hun hh
  refine Eu hQ ho hop hod hog hoa hE hlt hsz hun hh (λi hi=>?_)
  have hi2:=hi.2.2;rw[hh.1] at hi2;cases hi2
 |succ n ih=>
  intro listed a w hsz hun hh
  refine Eu hQ ho hop hod hog hoa hE hlt hsz hun hh (λi hi=>?_)
  obtain⟨h1,h2,o,h3,h4⟩:=mL hsz hi.1
  have hne:=hi.2.1
  have hR:=hi.2.2
  have h5:=hh.2 i hR
  rcases hE i o h3 hne with⟨e,he,hb,hon⟩|⟨k1,k2,k3,k4⟩
  .grind
  have hs2:(listed.setIfInBounds i true).size=ops.size:=by simpa using hsz
  have hun2:(listed.setIfInBounds i true).getD i0 false=false:=by rw[cY oaa,if_neg hne];exact hun
  have key:∀a' w',a'.tmps.getD s undef=a.tmps.getD s undef->wpAny P .any ops Q n ((listed.setIfInBounds i0 true).setIfInBounds i true) (a'.put (some d) (a.tmps.getD s undef)) w'->wpAny P .any ops Q (n+1) (listed.setIfInBounds i true) a' w':=λa' w' hs' hk=>by
   refine ih _ a' w' hs2 hun2 ?_
   rw[hs',abE _ _ hne];exact hk
  unfold wpOp at h5 ⊢
  simp only[h3] at h5 ⊢
  rw[Om k4] at h5
  split
  .rename_i hw
   rw[if_pos hw] at h5
   rcases h5 with h5|⟨_,a'',w'',h5⟩
   .exact .inl (Ww hQ k1 k2 k3 key h5)
   grind
  rename_i hw
  rw[if_neg hw] at h5
  rw[vu a o.dst d undef _ k2] at h5
  refine key _ w ?_ h5
  cases e:o.dst with
  |none=>rfl
  |some k=>
   have hk:k≠s:=λe'=>k3 (by rw[e,e'])
   show(a.tmps.setIfInBounds k undef).getD s undef=a.tmps.getD s undef
   rw[abv,abv,abB hk]
theorem Mz {Q':Exit->Act->World->Prop} (hQ:∀e a w,Q e a w->Q' e a w):∀(n:Nat) (listed:Array Bool) (a:Act) (w:World),wpAny P .any ops Q n listed a w->wpAny P .any ops Q' n listed a w:=by
 intro n
 induction n with
 |zero=>exact λ_ _ _ h=>⟨h.1,hQ _ _ _ h.2⟩
 |succ n ih=>
  intro listed a w h
  refine⟨λh0=>hQ _ _ _ (h.1 h0),λi hi=>?_⟩
  have h2:=h.2 i hi
  unfold wpOp at h2 ⊢
  split
  .simp_all
  rename_i o e
  simp only[e] at h2
  split
  .rename_i hw
   rw[if_pos hw] at h2
   rcases h2 with h2|⟨h2,a',w',h3⟩
   .exact .inl (tz hQ (Oper.wp_mono (λa w=>ih _ a w) h2))
   exact .inr ⟨h2,a',w',hQ _ _ _ h3⟩
  simp_all
end
def M6 (ops:Array Oper) (i0 d s:Nat):Bool:=
 (match ops[i0]? with
  |some ⟨some d',.move (.tmp s'),_,_,af,none⟩=>d0 d' d&&d0 s' s&&af.toList.isEmpty
  |_=>false)&&!d0 s d&&(f5 ops.size).all λj=>d0 j i0||(match ops[j]? with
   |some o=>(o.after.toList.any λe=>Region.binds .any e&&d0 e.on i0)||(Rj d o.op&&(match o.dst with|some k=>!d0 k d&&!d0 k s|none=>true)&&
    (match o.guard with|some (q,_)=>(match(ops[q]?).bind (·.dst) with|some k=>!d0 k d|none=>true)|none=>true))
   |none=>false)
theorem XS {a b:Nat} (h:(!d0 a b)=true):a≠b:=λe=>by simp_all
theorem QH {ops:Array Oper} {i0 d s:Nat} (h:M6 ops i0 d s=true):(∃o0,ops[i0]?=some o0/\o0.op= .move (.tmp s)/\o0.dst=some d/\o0.guard=none/\o0.after= #[])/\s≠d/\Ij ops i0 d s:=by
 simp only[M6,hV] at h
 obtain⟨⟨h1,h2⟩,h3⟩:=h
 refine⟨?_,XS h2,λj o hj hne=>?_⟩
 .split at h1
  .simp_all
  cases h1
 have hlt:j<ops.size:=by
  rcases aat j ops.size with h|h
  .exact h
  simp_all
 have k:=aag.1 h3 j (by simp_all)
 simp only[hj,aan,hV] at k
 rcases k with k|k|⟨⟨k1,k2⟩,k3⟩
 .simp_all
 .obtain⟨e,he,hb⟩:=aax.1 k
  simp only[hV] at hb
  exact .inl ⟨e,by simp_all,hb.1,aad hb.2⟩
 refine .inr ⟨k1,λe=>?_,λe=>?_,λq b hg e=>?_⟩
 .simp_all
 .simp_all
 simp_all
theorem OB {l:List Oper} {ob:Laa} {AQ:Exit->St->Prop} (i0 d s:Nat) (is:List Nat) {r:List (Nat×Oper)} {t:T} (hm:P.follows .mixedOrders=true) (he:DA l.toArray=true) (hc:Tn l.length (i0::is)=true) (ho:Jy l is=some r)
 (hE:M6 l.toArray i0 d s=true) (hd:nlt d N=true) (ht:gt sl s=t) (h:DZ P N l.toArray r [i0] [] [] ⟨(d,t)::sl,ob,nx⟩ ⟨(d,t)::sl,ob,nx⟩ (λs=>AQ .normal s)):AWC P N (.region id l.toArray true) ⟨sl,ob,nx⟩ AQ:=by
 subst ht
 intro cx E a w hR
 refine wp_region_any hm ?_
 have hR':=Bu hR
 obtain⟨⟨o0,e1,e2,e3,e4,e5⟩,hsd,hE⟩:=QH hE
 have hlt:i0<l.toArray.size:=by
  rcases aat i0 l.toArray.size with h|h
  .exact h
  simp_all
 have hdN:d<N:=dt hd
 have hedge:∀i o,l.toArray[i]?=some o->∀e∈o.after,Region.binds .any e=true->e.on<i:=by
  intro i o ho e hm hb
  have hi:i<l.toArray.size:=by
   rcases aat i l.toArray.size with h|h
   .exact h
   simp_all
  have:=aag.1 he i (by simp_all)
  simp only[ho] at this
  have:=aag.1 this e (by simp_all)
  simp only[hb,abh,aaC] at this
  exact dt this
 have hfull:unl l.toArray (aai l.toArray.size false)=l.toArray.size:=by
  unfold unl
  rw[abz.2]
  .simp
  simp_all
 have hst:=tw (ops:=l.toArray) (listed:=aai l.toArray.size false) (i:=i0) (by simp) hlt (iX _ _)
 rw[hfull] at hst
 have hcl:xr l.toArray ((aai l.toArray.size false).setIfInBounds i0 true):=xA (by simp) hlt e1 (λe he=>by grind) (λi o ho hd=>by rw[iX] at hd;cases hd)
 have hR2:Rel N cx E ⟨(d,gt sl s)::sl,ob,nx⟩ (a.put (some d) (a.tmps.getD s undef)) {w with drawn:=w.drawn+1}:=by
  refine⟨hR'.ok,hR'.dom,hR'.obs,λk=>?_,hR'.dfr,by simpa [Act.put] using hR'.size,hR'.td⟩
  rw[iv (by rw[hR'.size];exact hdN)]
  by_cases hk:d=k
  .subst hk;rw[dR,if_pos rfl];exact hR'.sl s
  rw[c9 _ _ hk,if_neg hk];exact hR'.sl k
 have key:=TJ (P:=P) (cx:=cx) (Q:=λe a w=>e= .normal/\E9 N cx AQ .normal a w) (TM hedge) (λE st a w hR hK=>⟨rfl,E,st,hR,hK⟩) h rfl (λq hq=>by have:=(s6 ho).1 q hq;grind) (λj hj=>by
  have hj':j<l.length:=by simpa using hj
  have:=aag.1 hc j (by grind)
  rcases aaf.1 (gL.1 this) with e|e
  .grind
  exact .inr (.inr ((s6 ho).2 j e))) (λi o y _ hy=>by simp at hy) (λk=>rfl) rfl rfl ((aai l.toArray.size false).setIfInBounds i0 true) _ _ E (by simp) hcl (λj=>by
  rw[cY (by grind)]
  split
  .rename_i e;subst e;simp[mw]
  rename_i e;rw[iX];symm;rw[Bool.eq_false_iff];intro h;have:=gL.1 h;grind) hR2
 have k2:=My (λe a w h=>h.1) e1 e2 e3 e4 e5 hsd hE _ (aai l.toArray.size false) a {w with drawn:=w.drawn+1} (by simp) (iX _ _) key
 rw[<-hst] at k2
 exact Mz (λe a w h=>by grind) _ _ _ _ k2
section
variable {P:Program} {N:Nat} {d:Tmp} {x y:Operand} {ty:TypeId} {ps:String} {af:Array Edge} {gd:Option (Nat×Bool)} {sl:Lab} {ob:Laa} {nx:Nat}
end
def qO (ops:Array Oper):Array Bool->List Nat->Prop
 |listed,[]=>Region.ready .any ops listed=[]
 |listed,i::L=>i∈Region.ready .any ops listed/\qO ops (listed.setIfInBounds i true) L
section
variable {P:Program} {ops:Array Oper} {Q:Exit->Act->World->Prop}
theorem Q1:∀(fuel t:Nat) (listed:Array Bool),listed.size=ops.size->unl ops listed<=fuel->qO ops listed (Region.linearise.go .any ops fuel t listed []):=by
 intro fuel
 induction fuel with
 |zero=>
  intro t listed hsz hu
  simp only[Region.linearise.go,List.reverse_nil,qO]
  rw[abx]
  intro i hi
  obtain⟨h1,h2,_⟩:=mL hsz hi
  have:=tw hsz h1 h2
  omega
 |succ fuel ih=>
  intro t listed hsz hu
  simp only[Region.linearise.go]
  change qO ops listed (match(Region.ready .any ops listed)[t%(Region.ready .any ops listed).length]? with
   |some i=>Region.linearise.go .any ops fuel (t/(Region.ready .any ops listed).length) (listed.setIfInBounds i true) [i]
   |none=>[].reverse)
  cases hi:(Region.ready .any ops listed)[t%(Region.ready .any ops listed).length]? with
  |none=>
   have hnil:Region.ready .any ops listed=[]:=by
    cases hr:Region.ready .any ops listed with
    |nil=>rfl
    |cons x xs=>
     rw[hr] at hi
     have hlt:t%(x::xs).length<(x::xs).length:=Nat.mod_lt _ (by simp)
     grind
   exact hnil
  |some i=>
   simp only[]
   rw[linearise_go_acc,List.reverse_singleton,List.singleton_append]
   have hm:=List.mem_of_getElem? hi
   obtain⟨h1,h2,_⟩:=mL hsz hm
   have:=tw hsz h1 h2
   exact⟨hm,ih _ _ (by simp_all) oaa⟩
theorem Ia:∀(L:List Nat) (listed:Array Bool),listed.size=ops.size->qO ops listed L->L.length<=unl ops listed
 |[],_,_,_=>aap _
 |i::L,listed,hsz,h=>by
  obtain⟨h1,h2,_⟩:=mL hsz h.1
  have:=tw hsz h1 h2
  have h3:=Ia L _ (by simp_all) h.2
  simp_all
theorem Ib:∀(L:List Nat) (n:Nat) (listed:Array Bool) (a:Act) (w:World),qO ops listed L->L.length<=n->wpAny P .any ops Q n listed a w->wpOps P ops Q L a w
 |[],0,_,_,_,_,_,h=>h.2
 |[],n+1,_,_,_,hv,_,h=>h.1 hv
 |i::L,0,_,_,_,_,hl,_=>by simp at hl
 |i::L,n+1,listed,a,w,hv,hl,h=>by
  rw[wpOps_cons]
  exact wpOp_mono (λa w h=>Ib L n _ a w hv.2 (by simp_all) h) (h.2 i hv.1)
end
def qP:List Oper->Nat->Nat->List Oper
 |[],_,_=>[]
 |⟨d,op,ty,ps,af,gd⟩::r,0,q=>⟨d,op,ty,ps,af.push ⟨q,.data⟩,gd⟩::r
 |o::r,p+1,q=>o::qP r p q
theorem vP:∀{l:List Oper} {p q i:Nat},i≠p->(qP l p q)[i]?=l[i]?
 |[],_,_,_,_=>rfl
 |o::r,0,q,0,h=>absurd rfl h
 |⟨d,op,ty,ps,af,gd⟩::r,0,q,i+1,_=>by simp[qP]
 |o::r,p+1,q,0,_=>by simp[qP]
 |o::r,p+1,q,i+1,h=>by simp only[qP,abG];exact vP (λe=>h (by rw[e]))
theorem yO:∀{l:List Oper} {p q:Nat},(qP l p q)[p]?=(l[p]?).map λo=>{o with after:=o.after.push ⟨q,.data⟩}
 |[],_,_=>rfl
 |⟨d,op,ty,ps,af,gd⟩::r,0,q=>by simp[qP]
 |o::r,p+1,q=>by simp only[qP,abG];exact yO
theorem D3:∀{l:List Oper} {p q:Nat},(qP l p q).length=l.length
 |[],_,_=>rfl
 |⟨d,op,ty,ps,af,gd⟩::r,0,q=>by simp[qP]
 |o::r,p+1,q=>by simp[qP,D3]
theorem nr {l:List Oper} {p:Nat} {listed:Array Bool} :i∈Region.ready .any (qP l p q).toArray listed↔i∈Region.ready .any l.toArray listed/\(i=p->listed.getD q false=true):=by
 rw[mem_ready,mem_ready]
 simp only[aaT]
 by_cases h:i=p
 .subst h
  rw[yO]
  constructor
  .rintro⟨h1,o,ho,hd⟩
   rw[Option.map_eq_some_iff] at ho
   obtain⟨o',ho',rfl⟩:=ho
   exact⟨⟨h1,o',ho',λe he hb=>hd e (by simp[he]) hb⟩,λ_=>hd ⟨q,.data⟩ (by simp) rfl⟩
  grind
 rw[vP h]
 simp_all
theorem Gm {l:List Oper} {p q:Nat}:∀(L:List Nat) (listed:Array Bool),listed.size=l.toArray.size->listed.getD q false=true->qO l.toArray listed L->qO (qP l p q).toArray listed L
 |[],listed,_,hq,h=>by
  show Region.ready .any (qP l p q).toArray listed=[]
  rw[abx]
  intro i hi
  have:=(nr.1 hi).1
  have h':Region.ready .any l.toArray listed=[]:=h
  simp_all
 |i::L,listed,hsz,hq,h=>by
  refine⟨nr.2 ⟨h.1,λ_=>hq⟩,Gm L _ (by simp_all) ?_ h.2⟩
  obtain⟨h1,_⟩:=mL hsz h.1
  rw[cY oaa]
  simp_all
theorem Db {l:List Oper} {p q:Nat} (hpq:p≠q):∀(L:List Nat) (listed:Array Bool),listed.size=l.toArray.size->listed.getD p false=false->listed.getD q false=false->qO l.toArray listed L->qO (qP l p q).toArray listed L\/qO (qP l q p).toArray listed L
 |[],listed,_,_,_,h=>by
  left
  show Region.ready .any (qP l p q).toArray listed=[]
  rw[abx]
  intro i hi
  have:=(nr.1 hi).1
  have h':Region.ready .any l.toArray listed=[]:=h
  simp_all
 |i::L,listed,hsz,hp,hq,h=>by
  have hs2:(listed.setIfInBounds i true).size=l.toArray.size:=by simpa using hsz
  obtain⟨h1,_⟩:=mL hsz h.1
  have hg:∀j,(listed.setIfInBounds i true).getD j false=if i=j then true else listed.getD j false:=λj=>cY oaa
  by_cases e1:i=q
  .left
   exact⟨nr.2 ⟨h.1,λe=>absurd (e.symm.trans e1) hpq⟩,Gm L _ hs2 (by simp_all) h.2⟩
  by_cases e2:i=p
  .right
   exact⟨nr.2 ⟨h.1,λe=>absurd e e1⟩,Gm L _ hs2 (by simp_all) h.2⟩
  rcases Db hpq L _ hs2 (by simp_all) (by simp_all) h.2 with k|k
  .exact .inl ⟨nr.2 ⟨h.1,λe=>absurd e e2⟩,k⟩
  exact .inr ⟨nr.2 ⟨h.1,λe=>absurd e e1⟩,k⟩
section
variable {P:Program} {Q:Exit->Act->World->Prop}
theorem Kd {l:List Oper} {p:Nat} (ts:Array Value) (j:Nat):yielded (qP l p q).toArray ts j=yielded l.toArray ts j:=by
 unfold yielded
 have:(((qP l p q).toArray)[j]?).bind (·.dst)=((l.toArray)[j]?).bind (·.dst):=by
  simp only[aaT]
  by_cases h:j=p
  .subst h;rw[yO];grind
  rw[vP h]
 rw[this]
theorem AF {l:List Oper} {p q:Nat}:∀(L:List Nat) (a:Act) (w:World),wpOps P (qP l p q).toArray Q L a w->wpOps P l.toArray Q L a w
 |[],_,_,h=>h
 |i::L,a,w,h=>by
  rw[wpOps_cons] at h ⊢
  have h':=wpOp_mono (λa w=>AF L a w) h
  unfold wpOp at h' ⊢
  have hy:yielded (qP l p q).toArray a.tmps=yielded l.toArray a.tmps:=funext (Kd a.tmps)
  rw[hy] at h'
  simp only[aaT] at h' ⊢
  by_cases e:i=p
  .subst e
   rw[yO] at h'
   cases e2:l[i]? with
   |none=>simp_all
   |some o=>rw[e2] at h';exact h'
  rw[vP e] at h';exact h'
end
def rkO:List Nat->Nat->Nat
 |[],_=>0
 |i::is,k=>bif d0 i k then 0 else rkO is k+1
def TN (ops:Array Oper) (is:List Nat):Bool:=
 (f5 ops.size).all λi=>match ops[i]? with
  |some o=>o.after.toList.all λe=>!Region.binds .any e||(nlt e.on ops.size&&nlt (rkO is e.on) (rkO is i))
  |none=>false
theorem QI {ops:Array Oper} {is:List Nat} (h:TN ops is=true):Edg ops (rkO is):=by
 intro i o ho e he hb
 have hi:i<ops.size:=by
  rcases aat i ops.size with h|h
  .exact h
  simp_all
 have:=aag.1 h i (by simp_all)
 simp only[ho] at this
 have:=aag.1 this e (by simp_all)
 simp only[hb,abh,aaC,hV] at this
 exact⟨dt this.1,dt this.2⟩
def AWA (P:Program) (N:Nat) (l:List Oper) (st:St) (K:St->Prop):Prop:=
 ∀cx E a w,Rel N cx E st a w->∀L,qO l.toArray (aai l.toArray.size false) L->wpOps P l.toArray (E9 N cx (onN K)) L a {w with drawn:=w.drawn+1}
theorem B0 {l:List Oper} {K:St->Prop} (p q:Nat) (hpq:d0 p q=false) (h1:AWA P N (qP l p q) st K) (h2:AWA P N (qP l q p) st K):AWA P N l st K:=by
 intro cx E a w hR L hv
 have e1:(qP l p q).toArray.size=l.toArray.size:=by simp[D3]
 have e2:(qP l q p).toArray.size=l.toArray.size:=by simp[D3]
 have hne:p≠q:=λe=>by simp_all
 rcases Db hne L _ (by simp) (iX _ _) (iX _ _) hv with k|k
 .rw[<-e1] at k;exact AF L _ _ (h1 cx E a w hR L k)
 rw[<-e2] at k;exact AF L _ _ (h2 cx E a w hR L k)
theorem BZ {l:List Oper} {K:St->Prop} (is:List Nat) {r:List (Nat×Oper)} (he:TN l.toArray is=true) (hc:Tn l.length is=true) (ho:Jy l is=some r)
 (h:DZ P N l.toArray r [] [] [] st st K):AWA P N l st K:=by
 intro cx E a w hR L hv
 have hR':=Bu hR
 have hedge:=QI he
 have hfull:unl l.toArray (aai l.toArray.size false)=l.toArray.size:=by
  unfold unl
  rw[abz.2]
  .simp
  simp_all
 have:=TJ (P:=P) (cx:=cx) (Q:=E9 N cx (onN K)) hedge (λE st a w hR hK=>⟨E,st,hR,hK⟩) h rfl (λq hq=>by have:=(s6 ho).1 q hq;simp_all) (λj hj=>by
  have hj':j<l.length:=by simpa using hj
  have:=aag.1 hc j (by simp_all)
  exact .inr (.inr ((s6 ho).2 j (gL.1 this)))) (λi o y _ hy=>by simp at hy) (λk=>rfl) rfl rfl (aai l.toArray.size false) a _ E (by simp) (λi o ho hd=>by rw[iX] at hd;cases hd) (λj=>by rw[iX];simp[mw]) hR'
 exact Ib L _ _ _ _ hv (Ia L _ (by simp) hv) this
theorem Iu {l:List Oper} {AQ:Exit->St->Prop} (M:St) [c:Clo N AQ] (hm:P.follows .mixedOrders=true) (h:AWA P N l st (λs=>dQ N s M)) (h2:AQ .normal M):AWC P N (.region id l.toArray true) st AQ:=by
 refine AK (AQ:=onN λs=>dQ N s M) ?_ (λe s h=>by
  cases e<;>first|exact c.h _ _ _ h h2|exact h.elim)
 intro cx E a w hR
 exact wp_region_draw λt=>by
  simp only[Region.schedule,hm,Bool.true_or,if_true]
  exact h cx E a w hR _ (Q1 _ _ _ (by simp) (by
   unfold unl
   grind))
def cpD (els:List α) (off:Nat) (ys:List α):List α:=els.take off++cpL (els.drop off) ys
theorem W2 {β:Type} (f:α->β) (els ys:List α) (off:Nat):cpD (els.map f) off (ys.map f)=(cpD els off ys).map f:=by simp[cpD,<-aaZ,<-List.map_drop,OF]
@[simp] theorem cpD_len (els ys:List α) (off:Nat):(cpD els off ys).length=els.length:=by simp[cpD];omega
section
variable {P:Program} {N:Nat} {d:Tmp} {ty:TypeId} {ps:String} {af:Array Edge} {gd:Option (Nat×Bool)} {x y z:Operand} {st:St}
theorem UY {o off len:Nat} {ys:Lad} {c:C} [ht:ei P t e sz by_] (hd:d<N)
 (hx:opT st.sl x= .v (.c (.s o sz off len))) (hy:opT st.sl y= .v (.c c)) (ho:go st.ob o=some (.row e sz els g true)) (hs:Src st.ob c ys gy)
 (hn:els.length=off+len) (hsz:∀e∈ys,e.length=sz):
 AWO P N ⟨some d,.call ⟨.builtin .copy,#[x,y],#[t,t]⟩,ty,ps,af,gd⟩ st ⟨(d,.any)::st.sl,(o,.row e sz (cpD els off ys) (g&&gy) true)::st.ob,st.nx⟩:=by
 intro cx E a w hR
 have h1:=hR.op x;rw[hx] at h1
 have h2:=hR.op y;rw[hy] at h2
 obtain⟨AA,cc,b,kk,hr,hu,hlc0,hAA⟩:=h1
 obtain⟨b',c',arr,hr',hh,ha,hlc,hmx,hes,hrd,hFm,_⟩:=hR.obs o _ ho
 rw[hr] at hr';cases hr'
 have hF:=hFm rfl
 obtain⟨A,k,hv,hyk,hA⟩:=Oc hR hs h2
 obtain⟨ii,zz,i1,i2,i3,i4,i5⟩:=ht.i
 obtain⟨m,hm⟩:∃m,m=Nat.min ys.length len:=⟨_,rfl⟩
 have hm1:m<=ys.length:=by rw[hm];exact Nat.min_le_left _ _
 have hm2:m<=len:=by rw[hm];exact Nat.min_le_right _ _
 have hcp:cpD els off ys=els.take off++ys.take m++els.drop (off+m):=by
  unfold cpD cpL
  rw[List.length_drop,List.drop_drop,List.append_assoc,hn,show off+len-off=len by omega]
  congr 1
  rcases Nat.le_total ys.length len with h|h
  .grind
  simp_all
 have hsrc:∃news:Lae,news.length=m*sz/\(∀u∈news,u.oneCell'=true)/\(∀(j:Nat) (xd:D),(ys.take m).flatten[j]?=some xd->∃u,news[j]?=some u/\rdD w (E.H gy) xd u)/\
  (Builtin.firstCells sz m (.slice A ys.length k)).run P w= .ok news.toArray w:=by
  rcases hA with h0|⟨b2,off,rfl,hrd2⟩
  .subst h0
   have hm0:m=0:=by simpa using hm1
   refine⟨[],by simp[hm0],by simp,by simp,?_⟩
   cases A with
   |none=>rfl
   |some ad=>simp[Builtin.firstCells,hm0,loadCells,loadCellsFrom]
  obtain⟨us,q1,q2,q3,q4⟩:=vw (fw.1 (pD m hrd2))
  have ql:us.length=m*sz:=by
   rw[q1,gE (λe he=>hsz e (aas he)),aaM,aaG hm1]
  refine⟨us,ql,q3,q4,?_⟩
  simp only[Builtin.firstCells]
  exact zL ql (λj u hj=>by have:=q2 j u hj;rwa [vQ] at this)
 obtain⟨news,n1,n2,n3,n4⟩:=hsrc
 have hmul:off*sz+m*sz<=arr.size:=by rw[ha,<-abD];exact Nat.mul_le_mul_right _ oaa
 have hrun:∃w',w'=w.setRow b (arr.toList.take (off*sz)++news++arr.toList.drop (off*sz+m*sz)).toArray/\(Builtin.copy_ #[t,t] ty #[.slice AA len cc,.slice A ys.length k]).run P w= .ok (goInt m) w':=by
  refine⟨_,rfl,?_⟩
  rcases hAA with h0|rfl
  .have hm0:m=0:=by omega
   subst hm0
   have hn0:news=[]:=aaQ oaa
   subst hn0
   have hw:w.setRow b (arr.toList.take (off*sz)++[]++arr.toList.drop (off*sz+0*sz)).toArray=w:=by
    rw[Nat.zero_mul,aaR,List.append_nil,aby,aaU,setRow_self w b arr e (0,0) hh]
   rw[hw]
   simp only[Builtin.copy_]
   simp[underlying,ht.u,Builtin.lenOf,eW i1,i2]
   rw[<-hm,n4]
   cases AA<;>simp[storeCells]
  have hst:=run_storeCells_at (P:=P) b (off*sz) e news 0 arr w hh oaa n2
  simp only[aaR,n1] at hst
  simp only[Builtin.copy_]
  simp[underlying,ht.u,Builtin.lenOf,eW i1,i2]
  simp_all
 obtain⟨w',hw',hrun⟩:=hrun
 unfold Oper.wp
 simp only[execOp,resolve,invoke,builtin,Sem.run_bind,Sem.run_pure,Result.andThen_ok,aaV,aau,aaJ,hu,hv,hrun,Oper.upon_value]
 subst hw'
 generalize hcs:(arr.toList.take (off*sz)++news++arr.toList.drop (off*sz+m*sz)).toArray=cs
 have hk:=kc (cs:=cs) (w:=w) hR.ok hr hF
 have hall:∀e'∈cpD els off ys,e'.length=sz:=λe' he'=>by
  grind
 have hlt:(arr.toList.take (off*sz)).length=off*sz:=by simp;omega
 have hrel:=ww (ob':=.row e sz (cpD els off ys) (g&&gy) true) (cs:=cs) hR hr hF ⟨b,_,_,hr,i7 _ hh,by grind,by grind,hmx,hall,by
  rw[fw]
  refine oI λj xd hj=>?_
  rw[aaj,eS (i7 _ hh),show cs[j]?=(arr.toList.take (off*sz)++news++arr.toList.drop (off*sz+m*sz))[j]? by grind]
  rw[hcp,aaL,aaL] at hj
  have hft:(els.take off).flatten.length=off*sz:=by rw[gE (λe he=>hes e (aas he)),aaM,aaG oaa]
  have hfl:(ys.take m).flatten.length=m*sz:=by rw[gE (λe he=>hsz e (aas he)),aaM,aaG hm1]
  have old:∀(p:Nat) (xd:D),els.flatten[p]?=some xd->∃u,arr[p]?=some u/\rdD (w.setRow b cs) (E.H (g&&gy)) xd u:=λp xd hp=>by
   obtain⟨u,u1,u2⟩:=nq (fw.1 hrd) hp
   rw[aaj,eS hh] at u1
   exact⟨u,u1,cS (hk.heap _) (hk.H _) _ _ (pj hR.ok u2 (by simp_all))⟩
  by_cases hj1:j<off*sz
  .rw[aaq (by grind),aaq oaa] at hj
   have hjd:els.flatten[j]?=some xd:=by
    rw[<-aby off els,aaL,aaq oaa];exact hj
   obtain⟨u,u1,u2⟩:=old _ _ hjd
   grind
  by_cases hjn:j<off*sz+m*sz
  .rw[aaq (by simp_all),aao oaa,hft] at hj
   obtain⟨u,u1,u2⟩:=n3 _ _ hj
   exact⟨u,by grind,cS (hk.heap _) (hk.H _) _ _ (pj hR.ok u2 (by simp))⟩
  rw[aao (by simp_all),aaz,hft,hfl] at hj
  have hjd:els.flatten[j]?=some xd:=by
   have e1:els.flatten=(els.take (off+m)).flatten++(els.drop (off+m)).flatten:=by rw[<-aaL,aby]
   have e2:(els.take (off+m)).flatten.length=off*sz+m*sz:=by rw[gE (λe he=>hes e (aas he)),aaM,aaG oaa,abD]
   rw[e1,aao oaa,e2];exact hj
  obtain⟨u,u1,u2⟩:=old _ _ hjd
  refine⟨u,?_,u2⟩
  have hl2:(arr.toList.take (off*sz)++news).length=off*sz+m*sz:=by rw[aaz,hlt,n1]
  rw[aao oaa,hl2,List.getElem?_drop,show off*sz+m*sz+(j-(off*sz+m*sz))=j from by omega]
  simp_all,λ_=>hF,λh=>by cases h⟩
 exact⟨E,hrel.putAny hd _⟩
theorem cpsT {enc:α->List D} {ob:Laa} {o:Nat} {ys zs:List α} {zd:Lad} {l:Int} {gg:Bool} {c:C} [ei P t e sz by_] (H:eF ys l ys.length=true) (hzd:zs.map enc=zd:=by exact rfl) (henc:∀a,(enc a).length=sz:=by exact λ_=>rfl) (hd:nlt d N=true:=by exact rfl)
 (hx:opT sl x= .v (.c (.s o sz l.toNat (n-l.toNat))):=by exact rfl) (hy:opT sl y= .v (.c c):=by exact rfl) (hn:ys.length=n:=by first|rfl|simp) (hs:Src ob c zd gy:=by first|exact .d|exact .nil|exact .w rfl (by first|rfl|exact lm _|simp)|exact .wn rfl (by first|rfl|exact lm _|simp)) (ho:go ob o=some (.row e sz (ys.map enc) g true):=by exact rfl) (hg:(g&&gy)=gg:=by exact rfl):
 AWO P N ⟨some d,.call ⟨.builtin .copy,#[x,y],#[t,t]⟩,ty,ps,af,gd⟩ ⟨sl,ob,nx⟩ ⟨(d,.any)::sl,(o,.row e sz ((cpD ys l.toNat zs).map enc) gg true)::ob,nx⟩:=by
 simp only[eF,decide_eq_true_eq] at H
 subst hzd;subst hg;subst hn
 have:=UY (P:=P) (N:=N) (st:=⟨sl,ob,nx⟩) (d:=d) (ty:=ty) (ps:=ps) (af:=af) (gd:=gd) (t:=t) (e:=e) (sz:=sz) (by_:=by_) (dt hd) hx hy ho hs (by simp_all) (Je henc zs)
 rwa [W2] at this
theorem weak_g {o:Nat} {rt:TypeId} {ob:Laa} (ho:go ob o=some (.row rt sz els true true):=by exact rfl):dQ N ⟨sl,ob,nx⟩ ⟨sl,(o,.row rt sz els false true)::ob,nx⟩:=by
 intro cx E a w hR
 refine⟨E,hR.ok,hR.dom,λl x hl=>?_,hR.sl,hR.dfr,hR.size,hR.td⟩
 by_cases e:o=l
 .subst e
  rw[cI] at hl;cases hl
  obtain⟨b,c,arr,hr,hh,h1,h2,h3,h4,h5,h6,h7⟩:=hR.obs _ _ ho
  exact⟨b,c,arr,hr,hh,h1,h2,h3,h4,cT (λ_ _=>rfl) (λb hb=>hR.ok.gf b hb) rfl _ _ h5,h6,λhm=>by cases hm⟩
 rw[b7 _ _ e] at hl;exact hR.obs l x hl
end
def dCs:List C->Option (List D)
 |[]=>some []
 | .d _ d::r=>(dCs r).map (d:: ·)
 |_=>none
def tAV:List T->Option (List AV)
 |[]=>some []
 | .v (.agg cs)::r=>(dCs cs).bind λds=>(tAV r).map (.agg ds:: ·)
 | .v (.c (.d _ d))::r=>(tAV r).map (.c d:: ·)
 |_=>none
theorem Tw {E:Env} {w:World} {F:Nat->Prop} (hH:∀g,E.H g=F):∀{cs:List C} {ds:List D} {us:Lae},dCs cs=some ds->DV w F ds us->CV E w cs us
 |[],ds,us,h,hd=>by
  cases h
  cases us with
  |nil=>trivial
  |cons u us=>exact hd.elim
 | .d g d::r,ds,us,h,hd=>by
  cases e:dCs r with
  |none=>simp[dCs,e] at h
  |some x=>
   simp[dCs,e] at h;subst h
   cases us with
   |nil=>exact hd.elim
   |cons u us=>exact⟨by show rdD w (E.H g) d u;rw[hH];exact hd.1,Tw hH e hd.2⟩
theorem Oe {E:Env} {w:World} {F:Nat->Prop} (hH:∀g,E.H g=F):∀{ts:List T} {as:List AV} {us:Lae},tAV ts=some as->AR w F as us->TV E w ts us
 |[],as,us,h,hd=>by
  cases h
  cases us with
  |nil=>trivial
  |cons u us=>exact hd.elim
 | .v (.agg cs)::r,as,us,h,hd=>by
  cases e1:dCs cs with
  |none=>simp[tAV,e1] at h
  |some ds=>
   cases e2:tAV r with
   |none=>simp[tAV,e1,e2] at h
   |some x=>
    simp[tAV,e1,e2] at h;subst h
    cases us with
    |nil=>exact hd.elim
    |cons u us=>
     obtain⟨⟨arr,hu,hv⟩,h2⟩:=hd
     exact⟨⟨arr,hu,Tw hH e1 hv⟩,Oe hH e2 h2⟩
 | .v (.c (.d g d))::r,as,us,h,hd=>by
  cases e2:tAV r with
  |none=>simp[tAV,e2] at h
  |some x=>
   simp[tAV,e2] at h;subst h
   cases us with
   |nil=>exact hd.elim
   |cons u us=>exact⟨by show rdD w (E.H g) d u;rw[hH];exact hd.1,Oe hH e2 hd.2⟩
theorem FnV.pure {args:List T} {as:List AV} {r:Bool} (h:FnV P f [] args [] (.v (.c (.d false (.b r)))) []) (ha:tAV args=some as:=by exact rfl):Fn P f as [.c (.d (.b r))]:=by
 refine⟨h.enters,λF w vals hF hT hA=>?_⟩
 have hI:VIn {E0 0 0 F with r:=λ_=>none,G:=F} w:=⟨hF,λ_ h=>h,λo b c h=>(by cases h),λo o' b c c' h=>(by cases h),λ_ _ h=>h,λ_ h=>h⟩
 refine(h.calls {E0 0 0 F with r:=λ_=>none,G:=F} w vals hI hT (λk hk o c h=>by cases h) (λl x h=>by cases h) (Oe (λg=>by cases g<;>rfl) ha hA)).mono ?_
 rintro en w' ⟨v,E',hen,vo,hv,_,_⟩
 refine⟨v,λ_=>False,[],hen,⟨vo.past.os,vo.past.tape,vo.past.output,vo.past.size,λk hk hW=>vo.past.block k hk (λ⟨o,c',ho⟩=>by cases ho)⟩,λb h=>h.elim,⟨rfl,?_⟩,by simp⟩
 have:rdD w' (E'.H false) (.b r) v:=hv
 simpa [rdD] using this
theorem wkz (hr:R) (h:R->G:=by intro h;(repeat' (first|refine Ix ?_|refine sJ ?_|refine Dw ?_|refine vS ?_|refine uL rfl ?_|refine sF rfl ?_|refine Iv ?_|refine D7 ?_|refine tn ?_|refine tr ?_|refine B1 ?_|refine D6 ?_|refine te ?_|refine bx rfl ?_|refine bo rfl ?_|refine bn ?_|refine br ?_|refine M5 (by kernel_rfl) rfl ?_|((first|apply tF rfl|apply Iw rfl rfl rfl rfl|apply jD rfl|apply OK rfl rfl rfl rfl); · first|exact op rfl rfl rfl rfl|exact opa rfl rfl rfl rfl|exact oq rfl rfl rfl|exact oqa rfl rfl rfl|exact fp rfl rfl rfl|exact fq rfl rfl rfl|exact fe rfl rfl rfl|exact io rfl rfl rfl rfl|exact se rfl rfl rfl|exact bq rfl rfl rfl|exact qe rfl rfl rfl rfl rfl rfl rfl|exact sn rfl rfl rfl|exact bne rfl rfl rfl|exact qn rfl rfl rfl rfl rfl rfl rfl|exact mv1 rfl rfl|exact mv2 rfl rfl|exact mv3 rfl rfl|exact as1 rfl rfl|exact as2 rfl rfl|exact as3 rfl rfl|exact ldT rfl rfl|exact ld rfl rfl|exact lw rfl rfl|exact lwn rfl rfl|exact ls rfl rfl|exact ln rfl rfl|exact Z9 rfl rfl|exact lz rfl rfl|exact fz rfl rfl rfl|exact oz rfl rfl rfl|exact oza rfl rfl rfl|exact un rfl rfl|exact ng rfl rfl|exact ba rfl rfl rfl|exact bc rfl rfl rfl rfl|exact al rfl rfl|exact pk1 rfl rfl rfl|exact pk0 rfl rfl rfl|exact ex rfl rfl rfl|exact nc rfl rfl|exact fv rfl rfl rfl|exact fva rfl rfl rfl|exact bd rfl rfl rfl|exact bs rfl rfl rfl rfl rfl rfl rfl rfl|exact cv rfl rfl|exact bt1 rfl rfl|exact ib rfl rfl rfl rfl)|(apply jx rfl; · first|exact sp rfl rfl rfl rfl rfl rfl rfl|exact stz rfl rfl rfl rfl)|refine gs rfl rfl rfl rfl rfl rfl ?_|refine zgs rfl rfl rfl rfl rfl rfl rfl ?_|fail));exact h):G:=h hr
theorem wkb (hr:R) (h:R->G:=by intro h;(repeat' (first|refine Ix ?_|refine sJ ?_|refine Dw ?_|refine vS ?_|refine uL rfl ?_|refine sF rfl ?_|refine Iv ?_|refine D7 ?_|refine tn ?_|refine tr ?_|refine B1 ?_|refine D6 ?_|refine te ?_|refine bx rfl ?_|refine bo rfl ?_|refine bn ?_|refine br ?_|refine M5 (by kernel_rfl) rfl ?_|((first|apply tF rfl|apply Iw rfl rfl rfl rfl|apply jD rfl|apply OK rfl rfl rfl rfl); · first|exact op rfl rfl rfl rfl|exact opa rfl rfl rfl rfl|exact oq rfl rfl rfl|exact oqa rfl rfl rfl|exact fp rfl rfl rfl|exact fq rfl rfl rfl|exact fe rfl rfl rfl|exact io rfl rfl rfl rfl|exact se rfl rfl rfl|exact bq rfl rfl rfl|exact qe rfl rfl rfl rfl rfl rfl rfl|exact sn rfl rfl rfl|exact bne rfl rfl rfl|exact qn rfl rfl rfl rfl rfl rfl rfl|exact mv1 rfl rfl|exact mv2 rfl rfl|exact mv3 rfl rfl|exact as1 rfl rfl|exact as2 rfl rfl|exact as3 rfl rfl|exact ldT rfl rfl|exact ld rfl rfl|exact lw rfl rfl|exact lwn rfl rfl|exact ls rfl rfl|exact ln rfl rfl|exact Z9 rfl rfl|exact lz rfl rfl|exact fz rfl rfl rfl|exact oz rfl rfl rfl|exact oza rfl rfl rfl|exact un rfl rfl|exact ng rfl rfl|exact ba rfl rfl rfl|exact bc rfl rfl rfl rfl|exact al rfl rfl|exact pk1 rfl rfl rfl|exact pk0 rfl rfl rfl|exact ex rfl rfl rfl|exact nc rfl rfl|exact fv rfl rfl rfl|exact fva rfl rfl rfl|exact bd rfl rfl rfl|exact cv rfl rfl|exact bt1 rfl rfl|exact ib rfl rfl rfl rfl)|(apply jx rfl; · first|exact sp rfl rfl rfl rfl rfl rfl rfl|exact stz rfl rfl rfl rfl)|refine gs rfl rfl rfl rfl rfl rfl ?_|refine zgs rfl rfl rfl rfl rfl rfl rfl ?_|fail));exact h):G:=h hr
inductive F where
 |s (d:D)
 |l (t z:Nat) (e:Lad) (n:Nat)
inductive LM where
 |t
 |f
 |z
 |w (o:Nat)
 |n (o:Nat)
def LM.c:LM->Lad->Nat->C
 | .t,e,_=>.d true (.l e)
 | .f,e,_=>.d false (.l e)
 | .z,_,_=>.nil
 | .w o,_,k=>.w o k
 | .n o,_,k=>.wn o k
def kM:List LM->List F->List C
 |ms,.s d::r=>.d false d::kM ms r
 |m::ms,.l _ _ e n::r=>m.c e n::kM ms r
 |_,_=>[]
def LM.o:LM->Nat->Nat->Lad->Laa->Laa
 | .w o,a,b,e,r=>(o,.row a b e true true)::r
 | .n o,a,b,e,r=>(o,.rown a b e true)::r
 |_,_,_,_,r=>r
def rM:List LM->List F->Laa->Laa
 |ms,.s _::r,q=>rM ms r q
 |m::ms,.l t z e _::r,q=>m.o t z e (rM ms r q)
 |_,_,q=>q
def oM (ms:List LM) (o ty:Nat) (x:List F):Laa:=rM ms x [(o,.var ty (kM ms x))]
inductive RM where
 |d
 |o
 |z
def RM.c:RM->Nat->Nat->Lad->Nat->RC
 | .d,_,_,e,_=>.d (.l e)
 | .o,a,b,e,n=>.own a b e n
 | .z,_,_,_,_=>.nil
def qM:List RM->List F->List RC
 |ms,.s d::r=>.d d::qM ms r
 |m::ms,.l t z e n::r=>m.c t z e n::qM ms r
 |_,_=>[]
abbrev tP (o:Nat):T:=.v (.c (.p o 0))
def m0:Lac:=[(190,190),(191,191),(192,192),(193,193),(200,200)]
theorem wJ (h:R->G:=by(intro h;(repeat' (first|refine Ix ?_|refine sJ ?_|refine Dw ?_|refine vS ?_|refine uL rfl ?_|refine sF rfl ?_|refine Iv ?_|refine D7 ?_|refine tn ?_|refine tr ?_|refine B1 ?_|refine D6 ?_|refine te ?_|refine bx rfl ?_|refine bo rfl ?_|refine bn ?_|refine br ?_|refine M5 (by kernel_rfl) rfl ?_|refine ZK ⟨by kernel_rfl,?_⟩|((first|apply tF rfl|apply Iw rfl rfl rfl rfl|apply jD rfl|apply OK rfl rfl rfl rfl|apply dr_n rfl|apply YT rfl rfl rfl rfl); · first|exact op rfl rfl rfl rfl|exact opa rfl rfl rfl rfl|exact oq rfl rfl rfl|exact oqa rfl rfl rfl|exact fp rfl rfl rfl|exact fq rfl rfl rfl|exact fe rfl rfl rfl|exact iqT rfl rfl rfl rfl|exact iqF rfl rfl rfl rfl|exact io rfl rfl rfl rfl|exact se rfl rfl rfl|exact bq rfl rfl rfl|exact qe rfl rfl rfl rfl rfl rfl rfl|exact sn rfl rfl rfl|exact bne rfl rfl rfl|exact qn rfl rfl rfl rfl rfl rfl rfl|exact mv1 rfl rfl|exact mv2 rfl rfl|exact mv3 rfl rfl|exact as1 rfl rfl|exact as2 rfl rfl|exact as3 rfl rfl|exact ldT rfl rfl|exact ld rfl rfl|exact lw rfl rfl|exact lwn rfl rfl|exact ls rfl rfl|exact ln rfl rfl|exact Z9 rfl rfl|exact lz rfl rfl|exact fz rfl rfl rfl|exact oz rfl rfl rfl|exact oza rfl rfl rfl|exact un rfl rfl|exact ng rfl rfl|exact ba rfl rfl rfl|exact bc rfl rfl rfl rfl|exact al rfl rfl|exact pk1 rfl rfl rfl|exact pk0 rfl rfl rfl|exact ex rfl rfl rfl|exact nc rfl rfl|exact fv rfl rfl rfl|exact fva rfl rfl rfl|exact bd rfl rfl rfl|exact bs rfl rfl rfl rfl rfl rfl rfl rfl|exact cv rfl rfl|exact bt1 rfl rfl|exact ib rfl rfl rfl rfl)|(apply jx rfl; · first|exact sp rfl rfl rfl rfl rfl rfl rfl|exact stz rfl rfl rfl rfl)|refine gs rfl rfl rfl rfl rfl rfl ?_|refine zgs rfl rfl rfl rfl rfl rfl rfl ?_|refine dgs rfl rfl rfl rfl rfl rfl rfl ?_|fail));exact h)):R->G:=h
theorem wI (hr:R) (h:R->G:=by exact wJ):G:=h hr
theorem wo {st':St} (h1:LeS st.sl st'.nx st'.sl:=by repeat (first|exact trivial|refine⟨rfl,rfl,?_⟩|refine⟨wn rfl (by first|rfl|simp),rfl,?_⟩|refine⟨wnn rfl (by first|rfl|simp),rfl,?_⟩)) (h2:LeO st.ob st'.nx st'.ob:=by repeat (first|exact trivial|refine⟨rfl,⟨rfl,rfl⟩,?_⟩)):dQ N st st':=eQ h1 h2
section
variable {P:Program} {N:Nat} {st st':St} {AQ:Exit->St->Prop} {ops:Array Oper} {l:List Oper} {o:Oper} {x:Inf} {K:St->Prop} {R:Prop}
theorem nA (h:NS P N o st st' x) (hr:R) (hg:o.guard=none:=by exact rfl) (w:R->AWR P N ops l st' K:=by exact wJ):AWR P N ops (o::l) st K:=tF hg h (w hr)
theorem nG (h:NS P N o st st' x) (hr:R) (hg:o.guard=some (j,b):=by exact rfl) (hj:(ops[j]?).bind (·.dst)=some dj:=by exact rfl) (hdj:nlt dj N=true:=by exact rfl) (hb:gt st.sl dj=tB b:=by exact rfl) (w:R->AWR P N ops l st' K:=by exact wJ):AWR P N ops (o::l) st K:=Iw hg hj hdj hb h (w hr)
theorem sA (h:AWO P N o st st') (hr:R) (hg:o.guard=none:=by exact rfl) (w:R->AWR P N ops l st' K:=by exact wJ):AWR P N ops (o::l) st K:=jx hg h (w hr)
theorem sG (h:AWO P N o st st') (hr:R) (hg:o.guard=some (j,b):=by exact rfl) (hj:(ops[j]?).bind (·.dst)=some dj:=by exact rfl) (hdj:nlt dj N=true:=by exact rfl) (hb:gt st.sl dj=tB b:=by exact rfl) (w:R->AWR P N ops l st' K:=by exact wJ):AWR P N ops (o::l) st K:=mz hg hj (dt hdj) hb h (w hr)
theorem cC {c:Operand} {Y:Code} {p q r:Option α} {R0:Prop} (H:(bif b then p else q)=r) (h1:p=r->R1) (h0:q=r->R0) (hb:opT st.sl c=tB b:=by exact rfl) (w1:R1->AWC P N X st AQ:=by exact wJ) (w0:R0->AWC P N Y st AQ:=by exact wJ):AWC P N (.cond c X Y) st AQ:=
 qh hb (λh=>w1 (h1 (bt h H))) (λh=>w0 (h0 (bf h H)))
theorem jA {R2:Prop} (M:St) [c:Clo N AQ] (h1:R1) (h2:R2) (w1:R1->AWC P N X st (uF (λs=>dQ N s M) AQ):=by exact wJ) (w2:R2->AQ .normal M:=by exact wJ):AWC P N X st AQ:=va M (w1 h1) (w2 h2)
theorem jB {R2:Prop} (M:St) [c:Clo N AQ] (h1:R1) (h2:R2) (w1:R1->AWC P N X st (jy id (uF (λs=>dQ N s M) AQ)):=by exact wJ) (w2:R2->AQ .normal M:=by exact wJ):AWC P N X st (jy id AQ):=sI M (w1 h1) (w2 h2)
theorem jR {R2:Prop} (M:St) [c:Gr N K] (h1:R1) (h2:R2) (w1:R1->AWR P N ops l st (λs=>dQ N s M):=by exact wJ) (w2:R2->K M:=by exact wJ):AWR P N ops l st K:=D9 M (w1 h1) (w2 h2)
theorem zI (is:List Nat) {ll:List Oper} {r:List (Nat×Oper)} (hr:R) (hm:P.follows .mixedOrders=true:=by exact Try.follows) (he:DA ll.toArray=true:=by kernel_rfl) (hc:Tn ll.length is=true:=by kernel_rfl) (ho:Jy ll is=some r:=by exact rfl) (w:R->DZ P N ll.toArray r [] [] [] st st (λs=>AQ .normal s):=by exact wJ):AWC P N (.region id ll.toArray true) st AQ:=qR is hm he hc ho (w hr)
theorem dI {ll:List Oper} (hr:R) (hm:P.follows .mixedOrders=true:=by exact Try.follows) (hol:U0 st.nx st.ob=true:=by exact rfl) (w:R->DR P N ll.toArray ll [] st (λis t=>Ad ll.toArray is st.nx=true/\AQ .normal t):=by exact wJ):AWC P N (.region id ll.toArray true) st AQ:=Tf hm hol (w hr)
section
variable {KK:List Inf->St->Prop} {is:List Inf}
theorem dA (h:NS P N o st st' x) (hr:R) (hg:o.guard=none:=by exact rfl) (w:R->DR P N ops l (is++[x]) st' KK:=by exact wJ):DR P N ops (o::l) is st KK:=dr_n hg h (w hr)
theorem dG (h:NS P N o st st' x) (hr:R) (hg:o.guard=some (j,b):=by exact rfl) (hj:(ops[j]?).bind (·.dst)=some dj:=by exact rfl) (hdj:nlt dj N=true:=by exact rfl) (hb:gt st.sl dj=tB b:=by exact rfl) (w:R->DR P N ops l (is++[{x with needs:=(.tmp dj,tB b)::x.needs}]) st' KK:=by exact wJ):DR P N ops (o::l) is st KK:=YT hg hj hdj hb h (w hr)
end
section
variable {α:Type} {p q r:Option α} {R1 R0:Prop} {j:Nat} {dj:Tmp} {b c:Bool} {sl:Lab} {ob:Laa} {nx:Nat}
theorem gC (H:(bif c then p else q)=r) (h1:p=r->R1) (h0:q=r->R0) (hg:o.guard=some (j,b):=by exact rfl) (hj:(ops[j]?).bind (·.dst)=some dj:=by exact rfl) (hb:gt sl dj=tB c:=by exact rfl)
 (w1:R1->AWR P N ops (o::l) ⟨(dj,tB true)::sl,ob,nx⟩ K:=by exact wJ) (w0:R0->AWR P N ops (o::l) ⟨(dj,tB false)::sl,ob,nx⟩ K:=by exact wJ):AWR P N ops (o::l) ⟨sl,ob,nx⟩ K:=
 g2 hg hj hb (λh=>w1 (h1 (bt h H))) (λh=>w0 (h0 (bf h H)))
theorem dC {is:List Inf} {KK:List Inf->St->Prop} (H:(bif c then p else q)=r) (h1:p=r->R1) (h0:q=r->R0) (hg:o.guard=some (j,b):=by exact rfl) (hj:(ops[j]?).bind (·.dst)=some dj:=by exact rfl) (hb:gt sl dj=tB c:=by exact rfl)
 (w1:R1->DR P N ops (o::l) is ⟨(dj,tB true)::sl,ob,nx⟩ KK:=by exact wJ) (w0:R0->DR P N ops (o::l) is ⟨(dj,tB false)::sl,ob,nx⟩ KK:=by exact wJ):DR P N ops (o::l) is ⟨sl,ob,nx⟩ KK:=
 dg2 hg hj hb (λh=>w1 (h1 (bt h H))) (λh=>w0 (h0 (bf h H)))
end
section
variable {lz:List (Nat×Oper)} {dn seg:List Nat} {ys:List Inx} {base:St} {p:Nat} {y:Inx}
theorem zA (h:NS P N o st st' x) (hr:R) (hg:o.guard=none:=by exact rfl) (w:R->DZ P N ops lz dn (seg++[p]) (ys++[⟨x,[],none⟩]) base st' K:=by exact wJ):DZ P N ops ((p,o)::lz) dn seg ys base st K:=jD hg h (w hr)
theorem zG (h:NS P N o st st' x) (hr:R) (hg:o.guard=some (j,b):=by exact rfl) (hj:(ops[j]?).bind (·.dst)=some dj:=by exact rfl) (hdj:nlt dj N=true:=by exact rfl) (hb:gt st.sl dj=tB b:=by exact rfl)
 (w:R->DZ P N ops lz dn (seg++[p]) (ys++[⟨{x with needs:=(.tmp dj,tB b)::x.needs},[],none⟩]) base st' K:=by exact wJ):DZ P N ops ((p,o)::lz) dn seg ys base st K:=OK hg hj hdj hb h (w hr)
theorem wA (h:NX P N o st st' y) (hr:R) (hg:o.guard=none:=by exact rfl) (w:R->DZ P N ops lz dn (seg++[p]) (ys++[y]) base st' K:=by exact wJ):DZ P N ops ((p,o)::lz) dn seg ys base st K:=B9 hg h (w hr)
theorem zB {st0 st1 st2:St} {dn':List Nat} (hw:dQ N st st0) (h:BO P N ops o st0 st1) (hw2:dQ N st1 st2) (hr:R) (hs:zZ ops dn seg ys=true:=by kernel_rfl) (hkl:kls ys=[]:=by exact rfl) (hb:Hi ops (seg++dn) p=true:=by kernel_rfl) (hlo:p::(seg++dn)=dn':=by exact rfl) (w:R->DZ P N ops lz dn' [] [] st2 st2 K:=by exact wJ):DZ P N ops ((p,o)::lz) dn seg ys base st K:=B8 hs hkl hb hw h hw2 hlo (w hr)
theorem zC {a q r:Option α} {R0:Prop} {c:Bool} {ob:Laa} (H:(bif c then a else q)=r) (h1:a=r->R1) (h0:q=r->R0) (hg:o.guard=some (j,b):=by exact rfl) (hj:(ops[j]?).bind (·.dst)=some dj:=by exact rfl) (hb:gt sl dj=tB c:=by exact rfl)
 (w1:R1->DZ P N ops ((p,o)::lz) dn seg ys base ⟨(dj,tB true)::sl,ob,nx⟩ K:=by exact wJ) (w0:R0->DZ P N ops ((p,o)::lz) dn seg ys base ⟨(dj,tB false)::sl,ob,nx⟩ K:=by exact wJ):DZ P N ops ((p,o)::lz) dn seg ys base ⟨sl,ob,nx⟩ K:=
 zg2 hg hj hb (λh=>w1 (h1 (bt h H))) (λh=>w0 (h0 (bf h H)))
end
theorem aW (hw:dQ N st st') (hr:R) (w:R->AWR P N ops l st' K:=by exact wJ):AWR P N ops l st K:=bL hw (w hr)
theorem iT {c:Code} {σ:Type} {step:σ->Option (cr σ ρ)} {x0:σ} {r:ρ} (H:iter step n x0=some r) (S:σ->St) (round:∀x o,step x=some o->AWC P N c (S x) (f9 N S r o AQ)) (h0:dQ N st (S x0):=by exact wo):AWC P N (.loop c) st AQ:=sH S H h0 round
end
theorem wB {sl':Lab} {ob ob':Laa} (o:Nat) (k:Nat) (hs:zy o k sl=some sl':=by exact rfl) (ho:Kb o k ob=some ob':=by exact rfl) (he:Eqs (Se o k sl):=by repeat (first|exact trivial|refine⟨by first|rfl|simp,?_⟩)) (he2:Eqs (Oo o k ob):=by repeat (first|exact trivial|refine⟨by first|rfl|simp,?_⟩)):dQ N ⟨sl,ob,nx⟩ ⟨sl',ob',nx⟩:=vN hs ho he he2
theorem wS {ob:Laa} (p q:Nat) (hp:rsv p=false:=by exact rfl) (hq:rsv q=false:=by exact rfl) (hpn:nlt p nx=true:=by exact rfl) (hqn:nlt q nx=true:=by exact rfl):dQ N ⟨sl,ob,nx⟩ ⟨swS p q sl,swO p q ob,nx⟩:=Mw hp hq hpn hqn
theorem fI     {c:Code} {args:List AV} {rs:List ResultVar}    (hf:P.funcs[f]?=some fn) (hN:fn.ntmps=N) (hr:R) (hb:fn.body=some c:=by exact rfl) (hnm:(fn.name== "runtime.NumGoroutine")=false:=by kernel_rfl) (hrs:fn.results.toList=rs:=by exact rfl)
 (ha:aar args.length N=true:=by exact rfl) (hs:Ku 0 args=some sl0:=by exact rfl) (w:R->AWC P N c ⟨sl0,[],0⟩ (qN N P rs res):=by exact wJ):Fn P f args res:=YZ hf hb hnm hN hrs ha hs (w hr)
theorem fW    {c:Code}  {x y:Ob} {args:List T} {rs:List ResultVar}    (hf:P.funcs[f]?=some fn) (hN:fn.ntmps=N) (hr:R) (hb:fn.body=some c:=by exact rfl) (hnm:(fn.name== "runtime.NumGoroutine")=false:=by kernel_rfl) (hrs:fn.results.toList=rs:=by exact rfl)
 (ha:aar args.length N=true:=by exact rfl) (hfx:x.free=true:=by exact rfl) (hfy:y.free=true:=by exact rfl) (hs:xz 0 args=sl0:=by exact rfl) (w:R->AWC P N c ⟨sl0,[(200,x)],210⟩ (Km N P rs res y):=by exact wJ):FnW P f x args y res:=ZR hf hb hnm hN hrs ha hfx hfy hs (w hr)
theorem fV    {c:Code}  {xs ys:Laa} {args:List T} {rs:List ResultVar}     (hf:P.funcs[f]?=some fn) (hN:fn.ntmps=N) (hr:R) (hb:fn.body=some c:=by exact rfl) (hnm:(fn.name== "runtime.NumGoroutine")=false:=by kernel_rfl) (hrs:fn.results.toList=rs:=by exact rfl)
 (ha:aar args.length N=true:=by exact rfl) (hs:xz 0 args=sl0:=by exact rfl) (w:R->AWC P N c ⟨sl0,xs,210⟩ (xt N P rs ys out nw):=by exact wJ):FnV P f xs args ys out nw:=TZ hf hb hnm hN hrs ha hs (w hr)
theorem aa {β:Type} {p:Option α} {f:α->Option β} {y:β} (H:p.bind f=some y) (k:∀x,p=some x->f x=some y->G):G:=by
 obtain⟨x,h1,h2⟩:=ob H
 exact k x h1 h2
theorem ai (H:p) (h:p->G:=by(intro H;cases H;exact wo)):G:=h H
theorem ao (H:p) (h:p->G:=by(intro H;cases H;exact dM)):G:=h H
theorem aN (H:p) (h:p->G:=by(intro H;cases H;refine sV ?_;exact wo)):G:=h H
theorem aE (H:p) (h:p->G:=by(intro H;cases H;refine E4 (λhq=>?_);cases hq;refine wI ?_;exact wo)):G:=h H
theorem aR {AQ:Exit->St->Prop} {σ:Type} {m:Option ρ} {o:cr σ ρ} {S:σ->St} {e:Exit} (H:dn m=some o) (k:m=some r->R) (he:∀r',(r'=r->AQ e s)->f9 N S r (.done r') AQ e s:=by(intro r' h;first|exact E4 h|exact iq_r h)) (w:R->AQ e s:=by exact wJ):f9 N S r o AQ e s:=by
 obtain⟨r0,Hd,rfl⟩:=dnE H
 exact he r0 λhq=>w (k (Hd.trans (congrArg some hq)))
theorem aQ (H:p) (h:p->G:=by(intro H;refine aR H λH=>?_;exact ao H)):G:=h H
theorem ad (hr:R) (h:R->G:=by(intro h;(try dsimp only);revert h;exact wJ)):G:=h hr
theorem az (H:p) (h:p->G:=by(intro H;repeat' (first|(refine gC H ?_ ?_<;>intro H)|(refine cC H ?_ ?_<;>intro H)|exact ai H))):G:=h H
theorem ay (H:p) (h:p->G:=by(intro H;repeat' (first|(refine cC H ?_ ?_<;>intro H)|(refine gC H ?_ ?_<;>intro H)|exact ao H))):G:=h H
theorem au:(∀{α β:Type} (a:α) (f:α->Option β),Option.bind (some a) f=f a)/\(∀{α:Type} (a b:α),cond true a b=a)/\(∀{α:Type} (a b:α),cond false a b=b)/\(!true)=false/\(!false)=true:=⟨λ_ _=>rfl,λ_ _=>rfl,λ_ _=>rfl,rfl,rfl⟩
class FC (P:Program) (p:Prop) (f:outParam FuncId) (as:outParam (List AV)) (rs:outParam (List RV)):Prop where
 h:p->Fn P f as rs
def T.isAny:T->Bool
 | .any=>true
 |_=>false
theorem T.isAny_eq {t:T} (h:t.isAny=true):t= .any:=by cases t<;>simp_all [T.isAny]
def fS:List Nat->Lab->Lab
 |_,[]=>[]
 |ks,(k,t)::r=>bif mw ks k then fS ks r else bif T.isAny t then fS (k::ks) r else(k,t)::fS (k::ks) r
def fO:List Nat->Laa->Laa
 |_,[]=>[]
 |ks,(k,x)::r=>bif mw ks k then fO ks r else(k,x)::fO (k::ks) r
def hasN (os:List Nat) (t:T):Bool:=os.any λo=>t.has o
def xS (os:List Nat):Lab->Lab
 |[]=>[]
 |(k,t)::r=>(k,bif hasN os t then .any else t)::xS os r
theorem YX {k:Nat}:∀{sl:Lab} {ks:List Nat},gt (fS ks sl) k=bif mw ks k then .any else gt sl k
 |[],ks=>by simp[fS,gt]
 |(j,t)::r,ks=>by
  have ih:=λks=>YX (k:=k) (sl:=r) (ks:=ks)
  rw[fS]
  cases hj:mw ks j with
  |true=>
   rw[cond_true,ih]
   by_cases h:j=k
   .subst h;rw[hj];rfl
   rw[c9 _ _ h]
  |false=>
   rw[cond_false]
   have hm:mw (j::ks) k=(d0 j k||mw ks k):=by
    by_cases h:j=k<;>simp_all [mw,nj]
   cases ha:t.isAny with
   |true=>
    rw[cond_true,ih,hm]
    by_cases h:j=k
    .subst h;rw[hj,dR,T.isAny_eq ha];simp
    rw[c9 _ _ h,nj h];rfl
   |false=>
    rw[cond_false]
    by_cases h:j=k
    .subst h;rw[hj,cond_false,dR,dR]
    rw[c9 _ _ h,c9 _ _ h,ih,hm,nj h];rfl
theorem YW {k:Nat}:∀{ob:Laa} {ks:List Nat},go (fO ks ob) k=bif mw ks k then none else go ob k
 |[],ks=>by simp[fO,go]
 |(j,x)::r,ks=>by
  have ih:=λks=>YW (k:=k) (ob:=r) (ks:=ks)
  rw[fO]
  cases hj:mw ks j with
  |true=>
   rw[cond_true,ih]
   by_cases h:j=k
   .subst h;rw[hj];rfl
   rw[b7 _ _ h]
  |false=>
   rw[cond_false]
   have hm:mw (j::ks) k=(d0 j k||mw ks k):=by
    by_cases h:j=k<;>simp_all [mw,nj]
   by_cases h:j=k
   .subst h;rw[hj,cond_false,cI,cI]
   rw[b7 _ _ h,b7 _ _ h,ih,hm,nj h];rfl
theorem weak_f {m:St} (h:dQ N s ⟨fS [] m.sl,fO [] m.ob,m.nx⟩):dQ N s m:=λcx E a w hR=>by
 obtain⟨E',h⟩:=h cx E a w hR
 refine⟨E',h.ok,h.dom,λo ob ho=>h.obs o ob ?_,λk=>?_,h.dfr,h.size,h.td⟩
 .show go (fO [] m.ob) o=some ob
  rw[YW];exact ho
 have:=h.sl k
 rw[show gt (fS [] m.sl) k=gt m.sl k from YX] at this
 exact this
theorem wf {st':St} (h1:LeS st.sl st'.nx (fS [] st'.sl):=by repeat (first|exact trivial|refine⟨rfl,rfl,?_⟩|refine⟨wn rfl (by first|rfl|simp),rfl,?_⟩|refine⟨wnn rfl (by first|rfl|simp),rfl,?_⟩)) (h2:LeO st.ob st'.nx (fO [] st'.ob):=by repeat (first|exact trivial|refine⟨rfl,⟨rfl,rfl⟩,?_⟩)):dQ N st st':=weak_f (eQ h1 h2)
def MT:T->List C
 | .v (.agg cs)=>cs
 | .v (.c c)=>[c]
 |_=>[]
def rcsV:RV->List RC
 | .agg xs=>xs
 | .c x=>[x]
def ZS (ob:Laa):List C->List RC->Option Nat
 | .w o _::cs,.d _::rs=>match go ob o with
  |some (.row _ _ _ _ true)=>some o
  |_=>ZS ob cs rs
 |_::cs,_::rs=>ZS ob cs rs
 |_,_=>none
def wC:List C->List RC->Bool
 | .w _ _::_,.d _::_=>true
 |_::cs,_::rs=>wC cs rs
 |_,_=>false
def nC:List C->List RC->Bool
 | .nil::_,.d _::_=>true
 |_::cs,_::rs=>nC cs rs
 |_,_=>false
def resC (sl:Lab) (ob:Laa):ResultVar->List C×Nat×Bool
 | .tmp k=>(MT (gt sl k),k,true)
 | .cell p _=>match gt sl p with
  | .v (.c (.p o _))=>match go ob o with
   |some (.var _ cs)=>(cs,o,false)
   |_=>([],0,true)
  |_=>([],0,true)
def nfz (sl:Lab) (ob:Laa):List ResultVar->List RV->Option Nat
 |r::rs,v::vs=>match ZS ob (resC sl ob r).1 (rcsV v) with
  |some o=>some o
  |none=>nfz sl ob rs vs
 |_,_=>none
def nct (f:List C->List RC->Bool) (sl:Lab) (ob:Laa):List ResultVar->List RV->Option (Nat×Bool)
 |r::rs,v::vs=>bif f (resC sl ob r).1 (rcsV v) then some (resC sl ob r).2 else nct f sl ob rs vs
 |_,_=>none
section
variable {N:Nat} {P:Program} {rs:List ResultVar} {res:List RV} {e:Exit} {sl:Lab} {ob:Laa} {nx o k:Nat}
theorem pF {ty:Nat} (h:nfz sl ob rs res=some o) (ho:go ob o=some (.row ty sz els g true)) (hlt:rsv o=false) (w:qN N P rs res e ⟨sl,(o,.row ty sz els g false)::ob,nx⟩):qN N P rs res e ⟨sl,ob,nx⟩:=vb (bv ho hlt) w
theorem pK {t t':T} {eq:Lac} (h:nct wC sl ob rs res=some (k,true)) (hk:gt sl k=t) (hv:vfz ob t=some (t',eq)) (he:Eqs eq) (w:qN N P rs res e ⟨(k,t')::sl,ob,nx⟩):qN N P rs res e ⟨sl,ob,nx⟩:=vb (bH hk hv he) w
theorem pL {ty:Nat} {cs':List C} {eq:Lac} (h:nct wC sl ob rs res=some (o,false)) (ho:go ob o=some (.var ty cs)) (hv:M4 ob cs=some (cs',eq)) (he:Eqs eq) (w:qN N P rs res e ⟨sl,(o,.var ty cs')::ob,nx⟩):qN N P rs res e ⟨sl,ob,nx⟩:=vb (de ho hv he) w
theorem pM {t:T} (h:nct nC sl ob rs res=some (k,true)) (hk:gt sl k=t) (w:qN N P rs res e ⟨(k,nlT t)::sl,ob,nx⟩):qN N P rs res e ⟨sl,ob,nx⟩:=vb (Wr hk) w
theorem pN {ty:Nat} (h:nct nC sl ob rs res=some (o,false)) (ho:go ob o=some (.var ty cs)) (w:qN N P rs res e ⟨sl,(o,.var ty (UW cs))::ob,nx⟩):qN N P rs res e ⟨sl,ob,nx⟩:=vb (Mu ho) w
end
class FCV (P:Program) (p:Prop) (f:outParam FuncId) (xs:outParam Laa) (as:outParam (List T)) (ys:outParam Laa) (out:outParam T) (nw:outParam Laa):Prop where
 h:p->FnV P f xs as ys out nw
def idM:Laa->Lac
 |[]=>[]
 |(l,_)::r=>(l,l)::idM r
def nlM:Laa->Nat->Lac
 |[],_=>[]
 |(l,_)::r,n=>(l,n)::nlM r (n+1)
def nlN:Laa->Nat->Nat
 |[],n=>n
 |_::r,n=>nlN r (n+1)
def fzW (ob:Laa):List C->Option Nat
 |[]=>none
 | .w o _::cs=>bif rsv o then fzW ob cs else match go ob o with
  |some (.row _ _ _ _ true)=>some o
  |_=>fzW ob cs
 |_::cs=>fzW ob cs
def Zx:List C->Bool
 |[]=>false
 | .w o _::cs=>!rsv o||Zx cs
 |_::cs=>Zx cs
def fzA (sl:Lab) (ob:Laa):List Operand->Option Nat
 |[]=>none
 | .tmp k::r=>match fzW ob (MT (gt sl k)) with
  |some o=>some o
  |none=>fzA sl ob r
 |_::r=>fzA sl ob r
def ctA (sl:Lab):List Operand->Option Nat
 |[]=>none
 | .tmp k::r=>bif Zx (MT (gt sl k)) then some k else ctA sl r
 |_::r=>ctA sl r
section
variable {P:Program} {N:Nat} {d:Tmp} {ty:TypeId} {ps:String} {af:Array Edge} {gd:Option (Nat×Bool)} {f:FuncId} {args:List Operand} {tys:Array TypeId} {sl sl':Lab} {ob ob' ob1 ob2:Laa} {nx:Nat} {ts ts':List T} {xs ys ys' nw nw':Laa} {out out':T} {p:Prop}
theorem cvF (q:p) [i:FCV P p f xs ts' ys out nw]
 (ht:zx sl args=some ts:=by exact rfl) (ha:sZ (agC true ob (inv (idM xs))) ts=some ts':=by exact rfl) (hx:zQ (inv (idM xs)) ob (idM xs)=some xs:=by exact rfl) (hm:mOK (idM xs) (nlM nw nx) nx (nlN nw nx) ys=true:=by exact rfl) (hs:An (kvC (inv (idM xs))) sl=some sl':=by exact rfl) (hb:ye (kvC (inv (idM xs))) (λ_ x=>some x) ob=some ob':=by exact rfl)
 (hy:s8 (idM xs++nlM nw nx) ys=some ys':=by exact rfl) (hw:s8 (idM xs++nlM nw nx) nw=some nw':=by exact rfl) (ho:zw (rlC (idM xs++nlM nw nx)) out=some out':=by exact rfl) (hsl:Ds nx sl=true:=by exact rfl) (hol:zP nx ob=true:=by exact rfl) (hN:nlt d N=true:=by exact rfl) (h1:apO ys' ob'=some ob1:=by exact rfl) (h2:apO nw' ob1=some ob2:=by exact rfl):
 AWO P N ⟨some d,.call ⟨.value (.func f),args.toArray,tys⟩,ty,ps,af,gd⟩ ⟨sl,ob,nx⟩ ⟨(d,out')::sl',ob2,nlN nw nx⟩:=cwu _ _ _ (i.h q) ht ha hx hm hs hb hy hw ho hsl hol hN h1 h2
theorem cvU {as:List T} {out0:T} (q:p) [i:FCV P p f [] as [] out0 nw]
 (ht:zx sl args=some ts:=by exact rfl) (ha:sZ (agC true ob (inv [])) ts=some ts':=by exact rfl) (hd:sZ dnC ts'=some as:=by exact rfl) (hu:upT out0=out:=by exact rfl) (hm:mOK [] (nlM nw nx) nx (nlN nw nx) []=true:=by exact rfl) (hs:An (kvC (inv [])) sl=some sl':=by exact rfl) (hb:ye (kvC (inv [])) (λ_ x=>some x) ob=some ob':=by exact rfl)
 (hw:s8 ([]++nlM nw nx) nw=some nw':=by exact rfl) (ho:zw (rlC ([]++nlM nw nx)) out=some out':=by exact rfl) (hsl:Ds nx sl=true:=by exact rfl) (hol:zP nx ob=true:=by exact rfl) (hN:nlt d N=true:=by exact rfl) (h2:apO nw' ob'=some ob2:=by exact rfl):
 AWO P N ⟨some d,.call ⟨.value (.func f),args.toArray,tys⟩,ty,ps,af,gd⟩ ⟨sl,ob,nx⟩ ⟨(d,out')::sl',ob2,nlN nw nx⟩:=cwu [] _ _ (FnV.up (i.h q) hd hu) ht ha rfl hm hs hb rfl hw ho hsl hol hN rfl h2
variable {ops:Array Oper} {l:List Oper} {K:St->Prop}
theorem aZf {o t:Nat} (h:fzA sl ob args=some o) (ho:go ob o=some (.row t sz els g true)) (hlt:rsv o=false) (w:AWR P N ops (⟨some d,.call ⟨.value (.func f),args.toArray,tys⟩,ty,ps,af,gd⟩::l) ⟨sl,(o,.row t sz els g false)::ob,nx⟩ K):AWR P N ops (⟨some d,.call ⟨.value (.func f),args.toArray,tys⟩,ty,ps,af,gd⟩::l) ⟨sl,ob,nx⟩ K:=bL (bv ho hlt) w
theorem aZk {t t':T} {e:Lac} (h:ctA sl args=some k) (hk:gt sl k=t) (hv:vfz ob t=some (t',e)) (he:Eqs e) (w:AWR P N ops (⟨some d,.call ⟨.value (.func f),args.toArray,tys⟩,ty,ps,af,gd⟩::l) ⟨(k,t')::sl,ob,nx⟩ K):AWR P N ops (⟨some d,.call ⟨.value (.func f),args.toArray,tys⟩,ty,ps,af,gd⟩::l) ⟨sl,ob,nx⟩ K:=bL (bH hk hv he) w
end
def WZ (N:Nat) (args:List Operand) (s t:St):Prop:=dQ N s t
section
variable {P:Program} {N:Nat} {d:Tmp} {ty:TypeId} {ps:String} {af:Array Edge} {f:FuncId} {args:List Operand} {tys:Array TypeId} {sl:Lab} {ob:Laa} {nx:Nat} {st0 st1:St} {ops:Array Oper} {lz:List (Nat×Oper)} {dn seg dn':List Nat} {ys:List Inx} {base:St} {p:Nat} {K:St->Prop} {R:Prop}
theorem wzI:WZ N args s s:=vM s
theorem wzF {o t:Nat} (h:fzA sl ob args=some o) (ho:go ob o=some (.row t sz els g true)) (hlt:rsv o=false) (w:WZ N args ⟨sl,(o,.row t sz els g false)::ob,nx⟩ st0):WZ N args ⟨sl,ob,nx⟩ st0:=am (bv ho hlt) w
theorem wzK {t t':T} {e:Lac} (h:ctA sl args=some k) (hk:gt sl k=t) (hv:vfz ob t=some (t',e)) (he:Eqs e) (w:WZ N args ⟨(k,t')::sl,ob,nx⟩ st0):WZ N args ⟨sl,ob,nx⟩ st0:=am (bH hk hv he) w
theorem zBv (hw:WZ N args ⟨sl,ob,nx⟩ st0) (h:AWO P N ⟨some d,.call ⟨.value (.func f),args.toArray,tys⟩,ty,ps,af,none⟩ st0 st1) (hr:R) (hs:zZ ops dn seg ys=true:=by kernel_rfl) (hkl:kls ys=[]:=by exact rfl) (hb:Hi ops (seg++dn) p=true:=by kernel_rfl) (hlo:p::(seg++dn)=dn':=by exact rfl) (w:R->DZ P N ops lz dn' [] [] st1 st1 K:=by exact wJ):
 DZ P N ops ((p,⟨some d,.call ⟨.value (.func f),args.toArray,tys⟩,ty,ps,af,none⟩)::lz) dn seg ys base ⟨sl,ob,nx⟩ K:=zB hw (fg rfl h) bC hr hs hkl hb hlo w
end
abbrev FSt (α:Type):=α->Lab->Laa->Nat->St
structure HJ (k:Nat) {α:Type} (F:FSt α):Prop
structure HC (k:Nat) {α:Type} (F:FSt α):Prop
structure HB (k:Nat) {α:Type} (F:FSt α):Prop
structure HL (k:Nat) {α:Type} (F:FSt α):Prop
section
variable {P:Program} {N:Nat} {ops:Array Oper} {l:List Oper} {o:Oper} {sl:Lab} {ob:Laa} {nx:Nat} {K:St->Prop} {AQ:Exit->St->Prop} {α β:Type} {p:Option α} {f:α->Option β} {y:β} {F:FSt α}
theorem caF {d:Tmp} {ps:String} {af:Array Edge} {gd:Option (Nat×Bool)} {f:FuncId} {args:List Operand} {tys:Array TypeId} {ts:List T} {avs:List AV} {eqs:Lac} {ob':Laa} {p:Prop} (q:p) [i:FC P p f avs res]
 (ht:zx sl args=some ts:=by exact rfl) (hp:vp ob (Li ts)=some nob:=by exact rfl) (ha:AE nob ts=some (avs,eqs):=by exact rfl) (he:Eqs eqs:=by repeat (first|exact trivial|refine⟨by first|rfl|exact lm _|simp,?_⟩)) (hi:EX nx res=some (out,nw,n):=by exact rfl) (hw:Lw nx nw n=true:=by exact rfl) (hN:nlt d N=true:=by exact rfl) (hob:apO nw ob=some ob':=by exact rfl):
 NS P N ⟨some d,.call ⟨.value (.func f),args.toArray,tys⟩,ty,ps,af,gd⟩ ⟨sl,ob,nx⟩ ⟨(d,out)::sl,ob',n⟩ ⟨d,args.zip ts,nob,out,nw⟩:=ca ht hp ha (i.h q) he hi hw hN hob
theorem jr {d:Nat} (H:p.bind f=some y) (hg:o.guard=some (j,b)) (hj:(ops[j]?).bind (·.dst)=some d) (J:HJ d F) [c:Gr N K]
 (w1:∀v,p=some v->AWR P N ops (o::l) ⟨sl,ob,nx⟩ (λs=>dQ N s (F v sl ob nx))) (w2:∀v,f v=some y->K (F v sl ob nx)):AWR P N ops (o::l) ⟨sl,ob,nx⟩ K:=by
 obtain⟨v,h1,h2⟩:=abw.1 H
 exact D9 _ (w1 v h1) (w2 v h2)
theorem jd {ops':Array Oper} {is:List Inf} {mx d:Nat} (H:p.bind f=some y) (hg:o.guard=some (j,b)) (hj:(ops[j]?).bind (·.dst)=some d) (J:HJ d F) [c:Gr N K]
 (w1:∀v,p=some v->DR P N ops (o::l) is ⟨sl,ob,nx⟩ (λis t=>Ad ops' is mx=true/\dQ N t (F v sl ob nx))) (w2:∀v,f v=some y->K (F v sl ob nx)):DR P N ops (o::l) is ⟨sl,ob,nx⟩ (λis t=>Ad ops' is mx=true/\K t):=by
 obtain⟨v,h1,h2⟩:=abw.1 H
 exact pQ _ (w1 v h1) (w2 v h2)
theorem jz {lz:List (Nat×Oper)} {dn seg:List Nat} {ys:List Inx} {base:St} {d:Nat} (H:p.bind f=some y) (hg:o.guard=some (j,b)) (hj:(ops[j]?).bind (·.dst)=some d) (J:HJ d F) [c:Gr N K]
 (w1:∀v,p=some v->DZ P N ops ((q,o)::lz) dn seg ys base ⟨sl,ob,nx⟩ (λs=>dQ N s (F v sl ob nx))) (w2:∀v,f v=some y->K (F v sl ob nx)):DZ P N ops ((q,o)::lz) dn seg ys base ⟨sl,ob,nx⟩ K:=by
 obtain⟨v,h1,h2⟩:=abw.1 H
 exact Xh _ (w1 v h1) (w2 v h2)
theorem jc {Y:Code} (H:p.bind f=some y) (J:HC k F) [c:Clo N AQ]
 (w1:∀v,p=some v->AWC P N (.cond (.tmp k) X Y) ⟨sl,ob,nx⟩ (uF (λs=>dQ N s (F v sl ob nx)) AQ)) (w2:∀v,f v=some y->AQ .normal (F v sl ob nx)):AWC P N (.cond (.tmp k) X Y) ⟨sl,ob,nx⟩ AQ:=by
 obtain⟨v,h1,h2⟩:=abw.1 H
 exact va _ (w1 v h1) (w2 v h2)
theorem jb (H:p.bind f=some y) (J:HB id F) [c:Clo N AQ]
 (w1:∀v,p=some v->AWC P N X ⟨sl,ob,nx⟩ (jy id (uF (λs=>dQ N s (F v sl ob nx)) AQ))) (w2:∀v,f v=some y->AQ .normal (F v sl ob nx)):AWC P N X ⟨sl,ob,nx⟩ (jy id AQ):=by
 obtain⟨v,h1,h2⟩:=abw.1 H
 exact sI _ (w1 v h1) (w2 v h2)
theorem il {c:Code} {step:α->Option (cr α ρ)} {x0:α} (H:iter step n x0=some r) (J:HL id F) (h0:dQ N ⟨sl,ob,nx⟩ (F x0 sl ob nx))
 (round:∀x o,step x=some o->AWC P N c (F x sl ob nx) (f9 N (λx=>F x sl ob nx) r o (jy id AQ))):AWC P N (.loop c) ⟨sl,ob,nx⟩ (jy id AQ):=sH _ H h0 round
theorem are {σ:Type} {m:Option ρ} {o:cr σ ρ} {S:σ->St} (H:dn m=some o) (w:m=some r->AQ (.exit n) s):f9 N S r o AQ (.exit n) s:=by
 obtain⟨r0,Hd,rfl⟩:=dnE H
 exact E4 λhq=>w (Hd.trans (congrArg some hq))
theorem arr {σ:Type} {m:Option ρ} {o:cr σ ρ} {S:σ->St} (H:dn m=some o) (w:m=some r->AQ .ret s):f9 N S r o AQ .ret s:=by
 obtain⟨r0,Hd,rfl⟩:=dnE H
 exact iq_r λhq=>w (Hd.trans (congrArg some hq))
end
theorem zR {AQ:Exit->St->Prop} {ll:List Oper} {r:List (Nat×Oper)} (hr:R) (hm:P.follows .mixedOrders=true:=by exact Try.follows) (he:DA ll.toArray=true:=by kernel_rfl) (hc:Tn ll.length (f5 ll.length)=true:=by kernel_rfl) (ho:Jy ll (f5 ll.length)=some r:=by exact rfl) (w:R->DZ P N ll.toArray r [] [] [] st st (λs=>AQ .normal s):=by exact wJ):AWC P N (.region id ll.toArray true) st AQ:=qR _ hm he hc ho (w hr)
theorem sgd {a b:α} (H:some a=some b) (k:G):G:=k
section
variable {P:Program} {N:Nat} {d:Tmp} {ty:TypeId} {ps:String} {af:Array Edge} {gd:Option (Nat×Bool)} {x y:Operand} {sl:Lab} {ob:Laa} {nx:Nat} {α:Type} {enc:α->List D}
theorem xdF {g':Bool} {kd:IntKind} {xs:List α} {i:Int} {a:α} (H:ix xs i=some a) [ei P t e sz by_] (hx:opT sl x= .v (.c (.d g (.l (xs.map enc)))):=by exact rfl) (hy:opT sl y= .v (.c (.d g' (.i kd i))):=by exact rfl) (hN:nlt d N=true:=by exact rfl) (henc:∀a,(enc a).length=sz:=by exact λ_=>rfl):
 NS0 P N ⟨some d,.indexAddr t x y,ty,ps,af,gd⟩ sl ob nx d (.v (.c (.q g (enc a) 0))) ⟨d,[(x,.v (.c (.d g (.l (xs.map enc))))),(y,.v (.c (.d g' (.i kd i))))],[],.v (.c (.q g (enc a) 0)),[]⟩:=xdT H henc hx hy hN
theorem oeF {o:Nat} {i:Int} {rt:TypeId} {ys:List α} {a:α} {m:Bool} {c:C} [jw P t] (hx:opT sl x= .v (.c (.e o sz i.toNat j)):=by exact rfl) (ho:go ob o=some (.row rt sz (ys.map enc) g m):=by exact rfl) (hN:nlt d N=true:=by exact rfl) (H:ix ys i=some a:=by assumption) (hc:ld1 g j (enc a)=some c:=by exact rfl):
 NS0 P N ⟨some d,.load t x,ty,ps,af,gd⟩ sl ob nx d (.v (.c c)) ⟨d,[(x,.v (.c (.e o sz i.toNat j)))],[(o,.row rt sz (ys.map enc) g m)],.v (.c c),[]⟩:=oe hx ho hN (dF enc H) hc
theorem Rm {o:Nat} {i:Int} {rt:TypeId} {ys:List α} {a:α} {m:Bool} [g7 P t n] (hx:opT sl x= .v (.c (.e o sz i.toNat j)):=by exact rfl) (ho:go ob o=some (.row rt sz (ys.map enc) g m):=by exact rfl) (hN:nlt d N=true:=by exact rfl) (H:ix ys i=some a:=by assumption) (hc:GL g j n (enc a)=some cs:=by exact rfl):
 NS0 P N ⟨some d,.load t x,ty,ps,af,gd⟩ sl ob nx d (.v (.agg cs)) ⟨d,[(x,.v (.c (.e o sz i.toNat j)))],[(o,.row rt sz (ys.map enc) g m)],.v (.agg cs),[]⟩:=oea hx ho hN (dF enc H) hc
end
theorem pE {β:Type} {G:α×β->Prop} (h:∀a b,G (a,b)):∀x,G x:=λ(a,b)=>h a b
theorem hJ (k:Nat) (F:FSt α):HJ k F:=⟨⟩
theorem hC (k:Nat) (F:FSt α):HC k F:=⟨⟩
theorem hB (k:Nat) (F:FSt α):HB k F:=⟨⟩
theorem hL (k:Nat) (F:FSt α):HL k F:=⟨⟩
theorem hb (d n:Nat):HJ d (λ(v:Bool) sl ob nx=>⟨(n,tB v)::(d,.any)::sl,ob,nx⟩):=⟨⟩
theorem hl (d n:Nat):HL d (λ(v:Int) sl ob nx=>⟨(n,tI v)::sl,ob,nx⟩):=⟨⟩
theorem hm (d n m:Nat):HL d (λ(v:Int×Int) sl ob nx=>⟨(n,tI v.1)::(m,tI v.2)::sl,ob,nx⟩):=⟨⟩
theorem he (d n m:Nat):HB d (λ(v:Int) sl ob nx=>⟨(n,tI v)::(m,.any)::sl,ob,nx⟩):=⟨⟩
theorem hc (d n:Nat):HC d (λ(v:Bool) sl ob nx=>⟨(n,tB v)::sl,ob,nx⟩):=⟨⟩
theorem hi (d n:Nat):HC d (λ(v:Int) sl ob nx=>⟨(n,tI v)::sl,ob,nx⟩):=⟨⟩
section
variable {P:Program} {N:Nat} {d:Tmp} {ty:TypeId} {ps:String} {af:Array Edge} {gd:Option (Nat×Bool)} {x y:Operand} {sl:Lab} {ob:Laa} {nx:Nat} {α:Type} {enc:α->List D} {ops:Array Oper} {lz:List (Nat×Oper)} {dn seg:List Nat} {ys:List Inx} {base:St} {p:Nat} {K:St->Prop} {R:Prop} {AQ:Exit->St->Prop}
theorem zS {o:Nat} {vt:TypeId} {cs' ns:List C} {v:V} [ht:TyN P t n] (hr:R) (hx:opT sl x= .v (.c (.p o k)):=by exact rfl) (hy:opT sl y= .v v:=by exact rfl) (ho:go ob o=some (.var vt cs):=by exact rfl) (hv:vcs v=some ns:=by exact rfl)
 (hn:d0 ns.length n=true:=by exact rfl) (hst:ns.all C.sto=true:=by exact rfl) (hs:u5 k ns cs=some cs':=by exact rfl) (hq:aar N (100000+p)=true:=by exact rfl) (w:R->DZ P N ops lz dn (seg++[p]) (ys++[⟨⟨100000+p,[(x,.v (.c (.p o k))),(y,.v v)],[(o,.var vt cs)],.any,[]⟩,[(o,.var vt cs')],none⟩]) base ⟨(100000+p,.any)::sl,(o,.var vt cs')::ob,nx⟩ K:=by exact wJ):
 DZ P N ops ((p,⟨none,.store t x y,ty,ps,af,none⟩)::lz) dn seg ys base ⟨sl,ob,nx⟩ K:=wA (spx (100000+p) hq hx hy ho hv hn hst hs) hr rfl w
theorem iZs (h:DZ P N ops ((p,⟨none,.store t x y,ty,ps,af,none⟩)::lz) dn seg ys base st K):DZ P N ops ((p,⟨none,.store t x y,ty,ps,af,none⟩)::lz) dn seg ys base st K:=h
theorem awoW {o:Oper} {a b c:St} (h:AWO P N o a b) (k:dQ N b c):AWO P N o a c:=λcx E ac w hR=>Oper.wp_mono (λ_ _ ⟨E',h'⟩=>k cx E' _ _ h') (h cx E ac w hR)
theorem apF {o:Nat} {ys zs:List α} {gg:Bool} {c:C} {sl':Lab} {ob':Laa} (H:da by_ (ys++zs).length=true) [ei P t e sz by_] (hd:nlt d N=true:=by exact rfl)
 (hx:opT sl x= .v (.c (.w o n)):=by exact rfl) (ho:go ob o=some (.row e sz (ys.map enc) g true):=by exact rfl) (hy:opT sl y= .v (.c c):=by exact rfl) (hn:ys.length=n:=by first|rfl|simp) (hs:Src ob c (zs.map enc) gy:=by first|exact .d|exact .nil|exact .w rfl (by first|rfl|exact lm _|simp)|exact .wn rfl (by first|rfl|exact lm _|simp)) (henc:∀a,(enc a).length=sz:=by exact λ_=>rfl) (hk:oF o sl=some sl':=by exact rfl) (hkb:ml o ob=some ob':=by exact rfl) (hg:(g&&gy)=gg:=by exact rfl) (hrv:rsp o=false:=by exact rfl):
 AWO P N ⟨some d,.call ⟨.builtin .append,#[x,y],#[t,t]⟩,ty,ps,af,gd⟩ ⟨sl,ob,nx⟩ ⟨(d,.v (.c (.w o (ys++zs).length)))::sl',(o,.row e sz ((ys++zs).map enc) gg true)::ob',nx⟩:=apT H rfl henc hd hx hy hn hs ho hk hkb hg hrv
theorem apFf {o:Nat} {ys zs:List α} {c:C} {sl':Lab} {ob':Laa} (H:da by_ (ys++zs).length=true) [ei P t e sz by_] (hd:nlt d N=true:=by exact rfl)
 (hx:opT sl x= .v (.c (.w o n)):=by exact rfl) (ho:go ob o=some (.row e sz (ys.map enc) g true):=by exact rfl) (hy:opT sl y= .v (.c c):=by exact rfl) (hn:ys.length=n:=by first|rfl|simp) (hs:Src ob c (zs.map enc) gy:=by first|exact .d|exact .nil|exact .w rfl (by first|rfl|exact lm _|simp)|exact .wn rfl (by first|rfl|exact lm _|simp)) (henc:∀a,(enc a).length=sz:=by exact λ_=>rfl) (hf:∀a,tM (enc a)=true:=by exact λ_=>rfl) (hk:oF o sl=some sl':=by exact rfl) (hkb:ml o ob=some ob':=by exact rfl) (hrv:rsp o=false:=by exact rfl):
 AWO P N ⟨some d,.call ⟨.builtin .append,#[x,y],#[t,t]⟩,ty,ps,af,gd⟩ ⟨sl,ob,nx⟩ ⟨(d,.v (.c (.w o (ys++zs).length)))::sl',(o,.row e sz ((ys++zs).map enc) true true)::(o,.row e sz ((ys++zs).map enc) (g&&gy) true)::ob',nx⟩:=awoW (apT H rfl henc hd hx hy hn hs ho hk hkb rfl hrv) (sB (cI _ _ _) hf)
theorem cpF {o:Nat} {ys zs:List α} {gg:Bool} {c:C} [ei P t e sz by_] (hd:nlt d N=true:=by exact rfl) (hx:opT sl x= .v (.c (.w o n)):=by exact rfl) (ho:go ob o=some (.row e sz (ys.map enc) g true):=by exact rfl) (hy:opT sl y= .v (.c c):=by exact rfl) (hs:Src ob c (zs.map enc) gy:=by first|exact .d|exact .nil|exact .w rfl (by first|rfl|exact lm _|simp)|exact .wn rfl (by first|rfl|exact lm _|simp)) (henc:∀a,(enc a).length=sz:=by exact λ_=>rfl) (hn:ys.length=n:=by first|rfl|simp) (hg:(g&&gy)=gg:=by exact rfl):
 AWO P N ⟨some d,.call ⟨.builtin .copy,#[x,y],#[t,t]⟩,ty,ps,af,gd⟩ ⟨sl,ob,nx⟩ ⟨(d,.any)::sl,(o,.row e sz ((cpL ys zs).map enc) gg true)::ob,nx⟩:=cpT rfl henc hn hs hd hx hy ho hg
theorem cpFf {o:Nat} {ys zs:List α} {c:C} [ei P t e sz by_] (hd:nlt d N=true:=by exact rfl) (hx:opT sl x= .v (.c (.w o n)):=by exact rfl) (ho:go ob o=some (.row e sz (ys.map enc) g true):=by exact rfl) (hy:opT sl y= .v (.c c):=by exact rfl) (hs:Src ob c (zs.map enc) gy:=by first|exact .d|exact .nil|exact .w rfl (by first|rfl|exact lm _|simp)|exact .wn rfl (by first|rfl|exact lm _|simp)) (henc:∀a,(enc a).length=sz:=by exact λ_=>rfl) (hf:∀a,tM (enc a)=true:=by exact λ_=>rfl) (hn:ys.length=n:=by first|rfl|simp):
 AWO P N ⟨some d,.call ⟨.builtin .copy,#[x,y],#[t,t]⟩,ty,ps,af,gd⟩ ⟨sl,ob,nx⟩ ⟨(d,.any)::sl,(o,.row e sz ((cpL ys zs).map enc) true true)::(o,.row e sz ((cpL ys zs).map enc) (g&&gy) true)::ob,nx⟩:=awoW (cpT rfl henc hn hs hd hx hy ho rfl) (sB (cI _ _ _) hf)
class ElT (P:Program) (e:TypeId) (α:outParam Type) (enc:outParam (α->List D)) (za:outParam α):Prop
theorem mkF {zd:List D} {g':Bool} {k k':IntKind} {n c:Int} {za:α} (H:pA by_ n c=true) [ei P t e sz by_] [ElT P e α enc za] [TyE P e zd] (hz:enc za=zd:=by exact rfl) (hx:opT sl x= .v (.c (.d g (.i k n))):=by exact rfl) (hy:opT sl y= .v (.c (.d g' (.i k' c))):=by exact rfl) (hN:nlt d N=true:=by exact rfl) (hq:nxt nx=some nx':=by exact rfl):
 NS1 P N ⟨some d,.makeSlice t x y,ty,ps,af,gd⟩ sl ob nx nx' d (.v (.c (.w nx (aac n.toNat za).length))) (.row e sz ((aac n.toNat za).map enc) true true) ⟨d,[(x,.v (.c (.d g (.i k n)))),(y,.v (.c (.d g' (.i k' c))))],[],.v (.c (.w nx (aac n.toNat za).length)),[(nx,.row e sz ((aac n.toNat za).map enc) true true)]⟩:=mkT H hz hx hy hN hq
theorem Qx {t:Nat} {g2:Bool} {xs:List α} {hi:Operand} (H:eF xs 0 h=true) [ht:ei P t e sz by_] (hx:opT sl x= .v (.c (.d g (.l (xs.map enc)))):=by exact rfl) (hh:opT sl hi= .v (.c (.d g2 (.i .i64 h))):=by exact rfl) (hN:nlt d N=true:=by exact rfl) (henc:∀a,(enc a).length=sz:=by exact λ_=>rfl):
 NS0 P N ⟨some d,.slice t x none (some hi) none,ty,ps,af,gd⟩ sl ob nx d (.v (.c (.d g (.l ((xs.take h.toNat).map enc))))) ⟨d,[(x,.v (.c (.d g (.l (xs.map enc))))),(hi,.v (.c (.d g2 (.i .i64 h))))],[],.v (.c (.d g (.l ((xs.take h.toNat).map enc)))),[]⟩:=ZB H henc hx hh hN
theorem Qy {t:Nat} {g2:Bool} {xs:List α} {l:Int} {lo:Operand} (H:eF xs l xs.length=true) [ht:ei P t e sz by_] (hx:opT sl x= .v (.c (.d g (.l (xs.map enc)))):=by exact rfl) (hl:opT sl lo= .v (.c (.d g2 (.i .i64 l))):=by exact rfl) (hN:nlt d N=true:=by exact rfl) (henc:∀a,(enc a).length=sz:=by exact λ_=>rfl):
 NS0 P N ⟨some d,.slice t x (some lo) none none,ty,ps,af,gd⟩ sl ob nx d (.v (.c (.d g (.l ((xs.drop l.toNat).map enc))))) ⟨d,[(x,.v (.c (.d g (.l (xs.map enc))))),(lo,.v (.c (.d g2 (.i .i64 l))))],[],.v (.c (.d g (.l ((xs.drop l.toNat).map enc)))),[]⟩:=Tl H henc hx hl hN
structure HZ (k:Nat):Prop
theorem hz (k:Nat):HZ k:=⟨⟩
theorem iHZ {c:Array Oper} (J:HZ id) (h:AWC P N (.region id c true) st AQ):AWC P N (.region id c true) st AQ:=h
theorem aq {x:Option α} {r:α} (H:(bif b then x else none)=some r) (k:b=true->x=some r->G):G:=k (rq H).1 (rq H).2
end
section
variable {P:Program} {N:Nat} {ops:Array Oper} {l:List Oper} {o:Oper} {st:St} {K:St->Prop} {AQ:Exit->St->Prop} {is:List Inf} {KK:List Inf->St->Prop} {lz:List (Nat×Oper)} {dn seg:List Nat} {ys:List Inx} {base:St} {q j d:Nat} {b:Bool} {G:Prop}
theorem iR (h:AWR P N ops (o::l) st K):AWR P N ops (o::l) st K:=h
theorem iD (h:DR P N ops (o::l) is st KK):DR P N ops (o::l) is st KK:=h
theorem iZ (h:DZ P N ops ((q,o)::lz) dn seg ys base st K):DZ P N ops ((q,o)::lz) dn seg ys base st K:=h
theorem rD (hg:o.guard=some (j,b)) (hj:(ops[j]?).bind (·.dst)=some d) (hb:gt st.sl d=tB b) (h:AWR P N ops (o::l) st K):AWR P N ops (o::l) st K:=h
theorem dD (hg:o.guard=some (j,b)) (hj:(ops[j]?).bind (·.dst)=some d) (hb:gt st.sl d=tB b) (h:DR P N ops (o::l) is st KK):DR P N ops (o::l) is st KK:=h
theorem zD (hg:o.guard=some (j,b)) (hj:(ops[j]?).bind (·.dst)=some d) (hb:gt st.sl d=tB b) (h:DZ P N ops ((q,o)::lz) dn seg ys base st K):DZ P N ops ((q,o)::lz) dn seg ys base st K:=h
theorem rU (hg:o.guard=some (j,b)) (h:AWR P N ops (o::l) st K):AWR P N ops (o::l) st K:=h
theorem dU (hg:o.guard=some (j,b)) (h:DR P N ops (o::l) is st KK):DR P N ops (o::l) is st KK:=h
theorem zU (hg:o.guard=some (j,b)) (h:DZ P N ops ((q,o)::lz) dn seg ys base st K):DZ P N ops ((q,o)::lz) dn seg ys base st K:=h
section
variable {dd:Option Tmp} {cl:Call} {ty t1:TypeId} {x1 x2:Operand} {ps:String} {af:Array Edge} {gd:Option (Nat×Bool)}
theorem rCl (h:AWR P N ops (⟨dd,.call cl,ty,ps,af,gd⟩::l) st K):AWR P N ops (⟨dd,.call cl,ty,ps,af,gd⟩::l) st K:=h
theorem rIx (h:AWR P N ops (⟨dd,.indexAddr t1 x1 x2,ty,ps,af,gd⟩::l) st K):AWR P N ops (⟨dd,.indexAddr t1 x1 x2,ty,ps,af,gd⟩::l) st K:=h
theorem dCl (h:DR P N ops (⟨dd,.call cl,ty,ps,af,gd⟩::l) is st KK):DR P N ops (⟨dd,.call cl,ty,ps,af,gd⟩::l) is st KK:=h
theorem dIx (h:DR P N ops (⟨dd,.indexAddr t1 x1 x2,ty,ps,af,gd⟩::l) is st KK):DR P N ops (⟨dd,.indexAddr t1 x1 x2,ty,ps,af,gd⟩::l) is st KK:=h
theorem zCl (h:DZ P N ops ((q,⟨dd,.call cl,ty,ps,af,gd⟩)::lz) dn seg ys base st K):DZ P N ops ((q,⟨dd,.call cl,ty,ps,af,gd⟩)::lz) dn seg ys base st K:=h
theorem zIx (h:DZ P N ops ((q,⟨dd,.indexAddr t1 x1 x2,ty,ps,af,gd⟩)::lz) dn seg ys base st K):DZ P N ops ((q,⟨dd,.indexAddr t1 x1 x2,ty,ps,af,gd⟩)::lz) dn seg ys base st K:=h
end
theorem cL {c:Code} (h:AWC P N (.loop c) st AQ):AWC P N (.loop c) st AQ:=h
theorem cK {c:Operand} {Y:Code} (h:AWC P N (.cond c X Y) st AQ):AWC P N (.cond c X Y) st AQ:=h
theorem cR {a:Nat} {c:Array Oper} (h:AWC P N (.region a c true) st AQ):AWC P N (.region a c true) st AQ:=h
theorem iW (h:dQ N st s):dQ N st s:=h
theorem iP {rs:List ResultVar} (h:qN N P rs res .ret st):qN N P rs res .ret st:=h
theorem iE {rs:List ResultVar} (h:qN N P rs res .normal st):qN N P rs res .normal st:=h
end
theorem gF    {c:Code}  {args:List AV} {rs:List ResultVar}   {A B C D E F H I J K L:Prop} (hf:P.funcs[f]?=some fn) (hN:fn.ntmps=N)
 (ha0:A:=by exact trivial) (hb0:B:=by exact trivial) (hc:C:=by exact trivial) (hd:D:=by exact trivial) (he:E:=by exact trivial) (hf0:F:=by exact trivial) (hg:G:=by exact trivial) (hh:H:=by exact trivial) (hi:I:=by exact trivial) (hj:J:=by exact trivial) (hk:K:=by exact trivial) (hl:L:=by exact trivial)
 (hb:fn.body=some c:=by exact rfl) (hnm:(fn.name== "runtime.NumGoroutine")=false:=by kernel_rfl) (hrs:fn.results.toList=rs:=by exact rfl)
 (ha:aar args.length N=true:=by exact rfl) (hs:Ku 0 args=some sl0:=by exact rfl) (w:A->B->C->D->E->F->G->H->I->J->K->L->p->AWC P N c ⟨sl0,[],0⟩ (qN N P rs res):=by
 intros _ _ _ _ _ _ _ _ _ _ _ _
 intro H
 refine wI ?_
 repeat' (first
  |(refine iR ?_;first|(refine rD rfl rfl rfl ?_;(first|(refine rCl ?_;refine aa H ?_;intro x q H;first|refine nG (caF q) ?_|refine sA (cvF q) ?_|refine sA (cvU q) ?_)|refine aZf rfl rfl rfl ?_|refine aZk rfl rfl rfl (by repeat (first|exact trivial|refine⟨by first|rfl|exact lm _|simp,?_⟩)) ?_|(refine rIx ?_;refine aa H ?_;intro x q H;first|refine nG (xdF q) ?_|refine nG (xwT q) ?_)|refine nG Rm ?_|refine nG oeF ?_|refine nG (ir rfl rfl rfl (by decide)) ?_|refine nG (iq rfl rfl rfl (by decide)) ?_|refine sA cpFf ?_|refine sA cpF ?_|(refine aq H ?_;intro h H;first|refine sA (apFf h) ?_|refine sA (apF h) ?_|refine nG (mkF h) ?_|refine nG (Qx h) ?_|refine nG (Qy h) ?_|refine nG (Lc h rfl rfl rfl rfl) ?_)))|(refine rU rfl ?_;first|(refine jr H rfl rfl (by assumption) ?_ ?_<;>((first|(refine pE ?_;intro _;(repeat (refine pE ?_;intro _));intro v H;(try dsimp only))|intro v H);refine wI ?_))|(refine gC H ?_ ?_<;>intro H))|(first|(refine rCl ?_;refine aa H ?_;intro x q H;first|refine nA (caF q) ?_|refine sA (cvF q) ?_|refine sA (cvU q) ?_)|refine aZf rfl rfl rfl ?_|refine aZk rfl rfl rfl (by repeat (first|exact trivial|refine⟨by first|rfl|exact lm _|simp,?_⟩)) ?_|(refine rIx ?_;refine aa H ?_;intro x q H;first|refine nA (xdF q) ?_|refine nA (xwT q) ?_)|refine nA Rm ?_|refine nA oeF ?_|refine nA (ir rfl rfl rfl (by decide)) ?_|refine nA (iq rfl rfl rfl (by decide)) ?_|refine sA cpFf ?_|refine sA cpF ?_|(refine aq H ?_;intro h H;first|refine sA (apFf h) ?_|refine sA (apF h) ?_|refine nA (mkF h) ?_|refine nA (Qx h) ?_|refine nA (Qy h) ?_|refine nA (Lc h rfl rfl rfl rfl) ?_)))
  |(refine cK ?_;first|(refine jc H (by assumption) ?_ ?_<;>((first|(refine pE ?_;intro _;(repeat (refine pE ?_;intro _));intro v H;(try dsimp only))|intro v H);refine wI ?_))|(refine cC H ?_ ?_<;>intro H))
  |(refine cL ?_;first|(refine jb H (by assumption) ?_ ?_<;>((first|(refine pE ?_;intro _;(repeat (refine pE ?_;intro _));intro v H;(try dsimp only))|intro v H);refine wI ?_))|(refine il H (by assumption) (by exact wf) ?_;((first|(refine pE ?_;intro _;(repeat (refine pE ?_;intro _));intro v o H;(try dsimp only))|intro v o H);refine wI ?_)))
  |(refine cR ?_;first|(refine iHZ (by assumption) ?_;refine zR ?_)|refine dI ?_)
  |(refine are H ?_;intro H;refine wI ?_)
  |(refine arr H ?_;intro H;refine wI ?_)
  |(refine iD ?_;first|(refine dD rfl rfl rfl ?_;(first|(refine dCl ?_;refine aa H ?_;intro x q H;first|refine dG (caF q) ?_)|(refine dIx ?_;refine aa H ?_;intro x q H;first|refine dG (xdF q) ?_|refine dG (xwT q) ?_)|refine dG Rm ?_|refine dG oeF ?_|refine dG (ir rfl rfl rfl (by decide)) ?_|refine dG (iq rfl rfl rfl (by decide)) ?_|(refine aq H ?_;intro h H;first|refine dG (mkF h) ?_|refine dG (Qx h) ?_|refine dG (Qy h) ?_|refine dG (Lc h rfl rfl rfl rfl) ?_)))|(refine dU rfl ?_;first|(refine jd H rfl rfl (by assumption) ?_ ?_<;>((first|(refine pE ?_;intro _;(repeat (refine pE ?_;intro _));intro v H;(try dsimp only))|intro v H);refine wI ?_))|(refine dC H ?_ ?_<;>intro H))|(first|(refine dCl ?_;refine aa H ?_;intro x q H;first|refine dA (caF q) ?_)|(refine dIx ?_;refine aa H ?_;intro x q H;first|refine dA (xdF q) ?_|refine dA (xwT q) ?_)|refine dA Rm ?_|refine dA oeF ?_|refine dA (ir rfl rfl rfl (by decide)) ?_|refine dA (iq rfl rfl rfl (by decide)) ?_|(refine aq H ?_;intro h H;first|refine dA (mkF h) ?_|refine dA (Qx h) ?_|refine dA (Qy h) ?_|refine dA (Lc h rfl rfl rfl rfl) ?_)))
  |(refine iZ ?_;first|(refine iZs ?_;refine zS ?_)|(refine zD rfl rfl rfl ?_;(first|(refine zCl ?_;refine aa H ?_;intro x q H;first|refine zG (caF q) ?_|refine zBv (by(repeat (first|refine wzF rfl rfl rfl ?_|refine wzK rfl rfl rfl (by repeat (first|exact trivial|refine⟨by first|rfl|exact lm _|simp,?_⟩)) ?_));exact wzI) (cvF q) ?_|refine zBv (by(repeat (first|refine wzF rfl rfl rfl ?_|refine wzK rfl rfl rfl (by repeat (first|exact trivial|refine⟨by first|rfl|exact lm _|simp,?_⟩)) ?_));exact wzI) (cvU q) ?_)|(refine zIx ?_;refine aa H ?_;intro x q H;first|refine zG (xdF q) ?_|refine zG (xwT q) ?_)|refine zG Rm ?_|refine zG oeF ?_|refine zG (ir rfl rfl rfl (by decide)) ?_|refine zG (iq rfl rfl rfl (by decide)) ?_|(refine aq H ?_;intro h H;first|refine zG (mkF h) ?_|refine zG (Qx h) ?_|refine zG (Qy h) ?_|refine zG (Lc h rfl rfl rfl rfl) ?_)))|(refine zU rfl ?_;first|(refine jz H rfl rfl (by assumption) ?_ ?_<;>((first|(refine pE ?_;intro _;(repeat (refine pE ?_;intro _));intro v H;(try dsimp only))|intro v H);refine wI ?_))|(refine zC H ?_ ?_<;>intro H))|(first|(refine zCl ?_;refine aa H ?_;intro x q H;first|refine zA (caF q) ?_|refine zBv (by(repeat (first|refine wzF rfl rfl rfl ?_|refine wzK rfl rfl rfl (by repeat (first|exact trivial|refine⟨by first|rfl|exact lm _|simp,?_⟩)) ?_));exact wzI) (cvF q) ?_|refine zBv (by(repeat (first|refine wzF rfl rfl rfl ?_|refine wzK rfl rfl rfl (by repeat (first|exact trivial|refine⟨by first|rfl|exact lm _|simp,?_⟩)) ?_));exact wzI) (cvU q) ?_)|(refine zIx ?_;refine aa H ?_;intro x q H;first|refine zA (xdF q) ?_|refine zA (xwT q) ?_)|refine zA Rm ?_|refine zA oeF ?_|refine zA (ir rfl rfl rfl (by decide)) ?_|refine zA (iq rfl rfl rfl (by decide)) ?_|(refine aq H ?_;intro h H;first|refine zA (mkF h) ?_|refine zA (Qx h) ?_|refine zA (Qy h) ?_|refine zA (Lc h rfl rfl rfl rfl) ?_)))
  |(refine sgd H ?_;cases H;first|(refine iP ?_;(repeat (first|refine pF rfl rfl rfl ?_|refine pK rfl rfl rfl (by repeat (first|exact trivial|refine⟨by first|rfl|exact lm _|simp,?_⟩)) ?_|refine pL rfl rfl rfl (by repeat (first|exact trivial|refine⟨by first|rfl|exact lm _|simp,?_⟩)) ?_|refine pM rfl rfl ?_|refine pN rfl rfl ?_));exact dM)|(refine iW ?_;exact wf)|(refine iE ?_;(repeat (first|refine pF rfl rfl rfl ?_|refine pK rfl rfl rfl (by repeat (first|exact trivial|refine⟨by first|rfl|exact lm _|simp,?_⟩)) ?_|refine pL rfl rfl rfl (by repeat (first|exact trivial|refine⟨by first|rfl|exact lm _|simp,?_⟩)) ?_|refine pM rfl rfl ?_|refine pN rfl rfl ?_));exact Xo)|(refine sV ?_;exact wf)|(refine E4 (λhq=>?_);cases hq;refine wI ?_;refine iW ?_;exact wf)))):FC P p f args res:=⟨λq=>YZ hf hb hnm hN hrs ha hs (w ha0 hb0 hc hd he hf0 hg hh hi hj hk hl q)⟩
end Go.AM
namespace Go
def yp (N h:Nat):Nat:=Nat.mod (Nat.shiftRight N (10*h)) 1024
def ranked (P:Program) (N:Nat):Bool:=P.funcs.toList.zipIdx.all λy=>(P.leadsTo y.1).all λh=>aar (yp N h+1) (yp N y.2)
theorem HQ {P:Program} {N:Nat} (h:ranked P N=true) {g:Nat} {fn:Func} (hg:P.funcs[g]?=some fn):∀x∈P.leadsTo fn,yp N x<yp N g:=by
 intro x hx
 unfold ranked at h
 rw[aag] at h
 have h1:=h (fn,g) (by rw[List.mem_zipIdx_iff_getElem?];simpa using hg)
 rw[aag] at h1
 exact aaF (h1 x hx)
theorem uM {P:Program} {N r:Nat} (h:ranked P N=true):∀(fuel:Nat) (todo seen:List FuncId),(∀x∈todo,yp N x<=r)->(∀x∈seen,yp N x<=r)->∀x∈P.closureVia fuel todo seen,yp N x<=r
 |0,todo,seen,h1,h2,x,hx=>h2 x (by simpa [Program.closureVia] using hx)
 |n+1,[],seen,h1,h2,x,hx=>h2 x (by simpa [Program.closureVia] using hx)
 |n+1,f::todo,seen,h1,h2,x,hx=>by
  rw[Program.closureVia] at hx
  split at hx
  .exact uM h n todo seen (λy hy=>h1 y (by simp[hy])) h2 x hx
  refine uM h n _ (f::seen) (λy hy=>?_) (λy hy=>?_) x hx
  .rcases List.mem_append.1 hy with hy|hy
   .cases e:P.funcs[f]? with
    |none=>rw[e] at hy;simp at hy
    |some fn=>
     rw[e] at hy
     have:=HQ h e y (by simpa using hy)
     have:=h1 f (by simp)
     omega
   exact h1 y (by simp[hy])
  rcases aaf.1 hy with rfl|hy
  .exact h1 _ (by simp)
  exact h2 y hy
theorem recurses_of {P:Program} {N:Nat} (h:ranked P N=true) (f:FuncId):P.recurses f=P.unfollowed f:=by
 unfold Program.recurses
 rw[show((P.closure f).any λg=>((P.funcs[g]?).elim [] P.leadsTo).any λh=>(P.closure h).contains g)=false from ?_]
 .simp
 rw[abA]
 intro g hg
 rw[abC,abA]
 intro x hx
 rw[abC]
 cases hc:(P.closure x).contains g with
 |false=>rfl
 |true=>
  have hm:g∈P.closure x:=by simpa using hc
  have h1:=uM h (r:=yp N x) _ [x] [] (by simp) (by simp) g hm
  cases e:P.funcs[g]? with
  |none=>rw[e] at hx;simp at hx
  |some fn=>
   rw[e] at hx
   have:=HQ h e x (by simpa using hx)
   omega
def QV (P:Program) (l:List FuncId):List String:=
 l.filterMap λg=>(P.funcs[g]?).bind λfn=>if fn.ours||fn.body.isNone||fn.name== "runtime.NumGoroutine" then some fn.name else none
def J6 (P:Program) (l:List FuncId):Bool:=
 l.any λg=>(P.funcs[g]?).any λfn=>match fn.body with|some c=>c.unfollowed|none=>entryCalls fn
def Ms (P:Program) (l:List FuncId):List String:=
 (((l.flatMap λg=>((P.funcs[g]?).bind (·.body)).elim [] Code.globalsNamed).eraseDups).filterMap (λg=>(P.globals[g]?).map (·.name))++
  l.filterMap λg=>(P.funcs[g]?).bind λfn=>if fn.body.isNone then entryReads.lookup fn.name else none).eraseDups
theorem inPlace_is {P:Program} {f:FuncId} {l:List FuncId} (h:P.closure f=l):P.inPlace f=QV P l:=by unfold Program.inPlace;rw[h];rfl
theorem unfollowed_is {P:Program} {f:FuncId} {l:List FuncId} (h:P.closure f=l):P.unfollowed f=J6 P l:=by unfold Program.unfollowed;rw[h];rfl
theorem varsNamed_is {P:Program} {f:FuncId} {l:List FuncId} (h:P.closure f=l):P.varsNamed f=Ms P l:=by unfold Program.varsNamed;rw[h];rfl
end Go
