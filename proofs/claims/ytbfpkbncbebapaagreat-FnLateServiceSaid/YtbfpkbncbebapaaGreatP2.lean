/- A part. -/
import Derived.Test.YtbfpkbncbebapaaGreatP1
set_option linter.unusedVariables false
set_option linter.unusedSimpArgs false
open Int renaming le_refl->aaF,toNat_natCast->aaH,le_trans->abp
open List renaming getElem?_eq_some_iff->YP,getElem?_eq_getElem->YO,mem_map->ZQ,mem_append->YR,mem_append_left->abo,mem_of_getElem?->YS,mem_append_right->abq,getElem?_set_ne->abr,getElem?_set_self->abv,length_nil->aaI,prefix_refl->abt,mem_singleton->ZS,append_nil->abu,nil_append->ZR,getElem?_append_right->Y1,getElem?_append_left->YZ,mem_of_mem_take->Y9,length_cons->YY,map_cons->Ze,filter_append->abz,eq_nil_of_length_eq_zero->Zl,append_assoc->Zr,getElem?_of_mem->Y4,drop_eq_getElem_cons->ZD,length_set->abw,length_append->Y8,take_of_length_le->aar,filter_eq_nil_iff->Z6,mem_cons->YU,any_eq_true->Zh,take_append_drop->aau,filter_eq_self->aas,sum_cons->abx,map_append->ZU,drop_eq_nil_of_le->abD,getElem?_eq_none->aaN,length_filter_le->aaZ,mem_of_mem_drop->aby,map_nil->ZV,getElem?_take->Za,ext_getElem?->aaQ,take_add_one->aa0,sum_append->abB,countP_nil->abE,length_map->Y3,mem_filter->ZZ,mem_range->ZW
open Bool renaming and_eq_true->v0,or_eq_false_iff->Y2,or_eq_true->Y6,false_or->Zk,not_eq_false'->aaM,not_true->Z0,and_self->abA,or_self->aaT,eq_iff_iff->aaJ,false_and->aa7,and_false->aa6,or_true->abC,true_or->aa1
open Nat renaming zero_le->Y0,le_refl->YW,add_assoc->ZB
open Option renaming bind_some->aaE
namespace Go.AM
open Go.Proofs
attribute [local simp] bB aQ bk
theorem AP:∀(l:List Int) (r:ByteArray),(l.foldl (λr n=>r.push (UInt8.ofNat n.toNat)) r).data.toList=r.data.toList++l.map λn=>UInt8.ofNat n.toNat
 |[],r=>by simp
 |x::l,r=>by
  rw[List.foldl_cons,AP l,Ze]
  simp[ByteArray.push]
theorem Rk {a b:List Int} (ha:okB a) (hb:okB b) (h:xM a=xM b):a=b:=by
 have h1:=AP a ByteArray.empty
 have h2:=AP b ByteArray.empty
 have e:(a.foldl (λr n=>r.push (UInt8.ofNat n.toNat)) ByteArray.empty).data.toList=(b.foldl (λr n=>r.push (UInt8.ofNat n.toNat)) ByteArray.empty).data.toList:=by
  have:xM a=xM b:=h
  unfold xM at this;rw[this]
 rw[h1,h2] at e
 replace e:=List.append_cancel_left e
 clear h h1 h2
 induction a generalizing b with
 |nil=>cases b with
  |nil=>rfl
  |cons y b=>simp at e
 |cons x a ih=>cases b with
  |nil=>simp at e
  |cons y b=>
   simp only[Ze,List.cons.injEq] at e
   have hx:=ha x (by simp)
   have hy:=hb y (by simp)
   have e1:=congrArg UInt8.toNat e.1
   simp only[yT] at hx hy
   rw[UInt8.toNat_ofNat',UInt8.toNat_ofNat'] at e1
   rw[ih (λz hz=>ha z (by simp[hz])) (λz hz=>hb z (by simp[hz])) e.2,show x=y by omega]
theorem Wi {a b:List Int} (ha:okB a) (hb:okB b):strB (xM a) (xM b)=decide (a=b):=by
 rw[aaJ,strB_t,decide_eq_true_eq]
 exact⟨Rk ha hb,λh=>by rw[h]⟩
def hUp (s:ae) (m:aR):Bool:=
 bif eqB m.aS 3 then leB m.ag s.be.cQ&&(!eqB m.ag s.bi||!eqB m.bI s.aO.xW) else
 bif eqB m.aS 5||eqB m.aS 8 then ltB m.ag s.ag||(eqB m.ag s.ag&&!lN s.aV m) else true
def Ga (d:aw) (m:aR):Bool:=
 bif eqB m.aS 2 then eqB (jm d.cZ.eR d.cZ.df m.cO) 1||eqB (jm d.cZ.eR d.cZ.df m.cO) 2 else
 bif eqB m.aS 4||eqB m.aS 6 then ltB m.ag d.ag||(eqB m.ag d.ag&&!lN d.aV m) else true
def Vu (d:aw) (x:aK):Bool:=ltB x.ag d.ag||(eqB x.ag d.ag&&!EX d.aV x)
def Xz (n:ab) (f:a9):Bool:=match n.ah[f.aJ.toNat]?,n.aj[f.aJ.toNat]? with
 |some d,some s=>bif f.bW then f.dS||Vu d f.b6 else bif f.dS then hUp s f.aM else Ga d f.aM
 |_,_=>true
def zw (n:ab) (e:cr):Bool:=!eqB e.aS 13||(!Ac n e.dK||(n.aA.any (λf=>decide (f=e.dK))||Xz n e.dK))
theorem YJ {c:bV} (h:fc c):Wp (Au c) (λr=>fc r.2/\r.1.bv.length<=4/\pL r.1=true):=by
 unfold Au
 refine Wp.call (qc h oaa) λr1 h1=>Wp.call (qc h1.1 oaa) λr2 h2=>Wp.call (qc h2.1 oaa) λr3 h3=>?_
 refine Wp.call (P:=λx=>fc x.2/\x.1.length<=4/\(∀a∈x.1,0<=a/\a<=3)/\x.1.Pairwise λa b=>a<b) ?_ ?_
 .refine Wp.iterF (λx=>(0<=x.1/\x.1<=4)/\fc x.2.2/\(x.2.1.length:Int)<=x.1/\(∀a∈x.2.1,0<=a/\a<x.1)/\x.2.1.Pairwise λa b=>a<b) (λx=>(4-x.1).toNat) ⟨⟨by omega,by omega⟩,h3.1,by simp,by simp,by simp⟩ (by simp) ?_
  rintro⟨v4,v8,v9⟩ ⟨⟨i0,i1⟩,i2,i3,i4,i5⟩
  simp only at i0 i1 i2 i3 i4 i5
  simp only[B5]
  refine Wp.cond (λhb=>?_) (λhb=>Wp.some ⟨i2,by show v8.length<=4;omega,λa ha=>by have:=i4 a ha;omega,i5⟩)
  have hb:=ko hb
  refine Wp.call (Ls i2 oaa) λr15 h15=>?_
  refine Wp.call (P:=λx=>(x.length:Int)<=v4+1/\(∀a∈x,0<=a/\a<v4+1)/\x.Pairwise λa b=>a<b) ?_ λx hx=>Wp.some ⟨⟨⟨?_,?_⟩,h15,?_,?_,hx.2.2⟩,?_⟩
  .refine Wp.cond (λ_=>Wp.ok (iD (by simp;omega) (by simp;omega)) (Wp.some ⟨by simp;omega,λa ha=>?_,?_⟩)) (λ_=>Wp.some ⟨by omega,λa ha=>by have:=i4 a ha;omega,i5⟩)
   .rcases YR.1 ha with ha|ha
    .have:=i4 a ha;omega
    simp at ha;omega
   refine List.pairwise_append.2 ⟨i5,by simp,λx hx y hy=>?_⟩
   simp at hy;have:=i4 x hx;omega
  all_goals simp only[bP (show-9223372036854775808<=v4+1/\v4+1<=9223372036854775807 by omega)]
  .omega
  .omega
  .exact hx.1
  .exact hx.2.1
  omega
 rintro⟨x,c2⟩ ⟨k1,k2,k3,k4⟩
 simp only at k1 k2 k3 k4
 refine Wp.some ⟨k1,k2,?_⟩
 simp only[pL,yU,v0,bu,eb]
 rw[bP (show-9223372036854775808<=1+r1.1/\1+r1.1<=9223372036854775807 by omega),bP (show-9223372036854775808<=1+r2.1/\1+r2.1<=9223372036854775807 by omega),bP (show-9223372036854775808<=1+r3.1/\1+r3.1<=9223372036854775807 by omega)]
 refine⟨⟨by omega,by omega,by omega⟩,λk a ha=>⟨k3 a (YS ha),CN (key:=id) (by simpa using k4) ha⟩⟩
theorem UG {c:bV} (h:fc c):Wp (mx c) (λr=>fc r.2/\(1<=r.1.length/\r.1.length<=3)/\s7 r.1=true/\∀y∈r.1,y.cQ<=20):=by
 unfold mx
 refine Wp.call (qc h oaa) λr1 h1=>?_
 have hw:WR (1+r1.1)=1+r1.1:=bP oaa
 refine Wp.call (P:=λx=>fc x.2/\(x.1.length:Int)=1+r1.1/\∀(k:Nat) y,x.1[k]?=some y->uC y=true/\y.ID.bI=1+r1.1-k/\y.cQ<=20) ?_ ?_
 .refine Wp.iterF (λx=>0<=x.1/\fc x.2.2/\(x.2.1.length:Int)+x.1=1+r1.1/\∀(k:Nat) y,x.2.1[k]?=some y->uC y=true/\y.ID.bI=1+r1.1-k/\y.cQ<=20) (λx=>x.1.toNat) ⟨by rw[hw];omega,h1.1,by rw[hw];simp,by simp⟩ (by simp only;rw[hw];omega) ?_
  rintro⟨v2,v6,v7⟩ ⟨i0,i2,i3,i4⟩
  simp only at i0 i2 i3 i4
  simp only[rU]
  refine Wp.cond (λhb=>?_) (λhb=>Wp.some ⟨i2,by have:=nO hb;show(v6.length:Int)=_;omega,i4⟩)
  have hb:=ko hb
  have hkey:Wp (IE v7) (λr=>fc r.2/\mf r.1=true):=by
   unfold IE
   exact Wp.call (qc i2 oaa) λr1 h1=>Wp.some ⟨h1.1,bu.2 (by rw[bP oaa];omega)⟩
  refine Wp.call hkey λr13 h13=>Wp.call (qc h13.1 oaa) λr14 h14=>Wp.ok (iD (by simp;omega) (by simp;omega)) (Wp.some ⟨⟨?_,h14.1,?_,λk y hy=>?_⟩,?_⟩)
  rotate_left 2
  .rw[List.getElem?_append] at hy
   split at hy
   .exact i4 k y hy
   rename_i hk
   have hk0:k-v6.length=0:=by
    have:=(YP.1 hy).1
    simp at this;omega
   rw[hk0] at hy
   simp at hy;subst hy
   simp only[uC,FF,v0,bu]
   exact⟨⟨⟨by omega,by omega⟩,h13.2,by omega⟩,by omega,by omega⟩
  all_goals simp only[bP (show-9223372036854775808<=v2-1/\v2-1<=9223372036854775807 by omega)]
  .omega
  .omega
  simp;omega
 rintro⟨x,c2⟩ ⟨k1,k2,k3⟩
 simp only at k1 k2 k3
 refine Wp.some ⟨k1,by show 1<=x.length/\x.length<=3;omega,?_,λy hy=>by obtain⟨k,hk⟩:=Y4 hy;exact(k3 k y hk).2.2⟩
 simp only[s7,v0,eb,BU]
 refine⟨λk y hy=>⟨(k3 k y hy).1,λi z hz=>?_⟩,leB_t.2 oaa⟩
 obtain⟨hz1,hz2⟩:=K9 hz
 have e1:=(k3 k y hy).2.1
 have e2:=(k3 i z hz1).2.1
 have:eqB z.ID.bI y.ID.bI=false:=eqB_f.2 oaa
 simp[yX,this]
inductive mV:Nat->ab->Prop
 |new {m:aU} {rs:List aP} {p:bz} {b:Int} (h:oI m=true/\pL p=true/\s7 rs=true) (hm:gR m) (hp:ez p) (hl:1<=rs.length/\rs.length<=3) (hq:∀y∈rs,y.cQ<=20):mV 0 (gH m rs p b rs.length)
 |step {k:Nat} {n:ab} {e:cr}:mV k n->EP e->zw n e=true->mV (k+1) (dZ n e).2
def FS (n:ab) (e:cr):Prop:=e.aS=13->e.dK.bW=true->e.dK.dS=false/\∃d,n.ah[e.dK.aJ.toNat]?=some d/\e.dK.b6.ag=d.ag/\EX d.aV e.dK.b6=false
theorem JP (n:ab) {e:cr} (h:e.aS≠13):FS n e:=λh1=>absurd h1 h
inductive C4:Nat->ab->Prop
 |new {m:aU} {rs:List aP} {p:bz} {b:Int} (h:oI m=true/\pL p=true/\s7 rs=true) (hm:gR m) (hp:ez p) (hl:1<=rs.length/\rs.length<=3) (hq:∀y∈rs,y.cQ<=20):C4 0 (gH m rs p b rs.length)
 |step {k:Nat} {n:ab} {e:cr}:C4 k n->EP e->zw n e=true->FS n e->C4 (k+1) (dZ n e).2
theorem C4.re:∀{k:Nat} {n:ab},C4 k n->mV k n
 |_,_,.new h hm hp hl hq=>.new h hm hp hl hq
 |_,_,.step h he hh _=>.step h.re he hh
theorem mV.np:∀{k:Nat} {n:ab},mV k n->k<=1000000->NP (10000*(k:Int)) n
 |_,_,.new (m:=m) (rs:=rs) (p:=p) (b:=b) h hm hp hl _,_=>by
  have ok:lb (gH m rs p b rs.length):=okN hm hp oaa
  have v:=XV (b:=b) h
  have by':BY (gH m rs p b rs.length):=by
   refine⟨λd hd=>?_,λd hd=>?_,λs hs=>?_,λs hs=>?_,by simp[gH]⟩
   .simp only[gH,ZQ] at hd;obtain⟨j,_,rfl⟩:=hd;simp[pb]
   .simp only[gH,ZQ] at hd;obtain⟨j,_,rfl⟩:=hd;simp[pb]
   .simp only[gH,ZQ] at hs;obtain⟨j,_,rfl⟩:=hs;simp[lh]
   simp only[gH,ZQ] at hs;obtain⟨j,_,rfl⟩:=hs;simp[lh]
  exact(NP.of ok v by').mono (by show(0:Int)<=_;omega)
 |_,_,.step (k:=k) h he _,hk=>by
  have:=(yv (h.np oaa) he oaa).2.2
  exact this.mono oaa
theorem wi {k i c:Int} {b:List Int} (hb:okB b):EP ⟨k,i,c,b,bU⟩:=⟨hb,Pd,λx hx=>by simp[bU,gx,oJ] at hx⟩
theorem ph (n:ab) {e:cr} (h:e.aS≠13):zw n e=true:=by
 rw[zw,eqB_f.2 h];rfl
theorem VS {B:Int} {n:ab} (h:NP B n) {i:Nat} {s:ae} (hs:n.aj[i]?=some s) (b:List Int):(dZ n ⟨8,i,0,b,bU⟩).2={n with aj:=n.aj.set i (mS s b).1}:=by
 have hi:=(YP.1 hs).1
 have hls:=h.ls
 obtain⟨d,s',a,e1,e2,e3,hm⟩:=h.at_ (show i<n.ah.length by omega)
 have hr:inR (i:Int) 0 ((n.ah.length:Int)-1)=true:=bu.2 oaa
 simp only[dZ]
 rw[if_neg (show ¬(8:Int)=1 by omega),if_neg (show ¬((8:Int)=2\/(8:Int)=3\/(8:Int)=4) by omega),if_pos (show(8:Int)=5\/(8:Int)=6\/(8:Int)=7\/True by simp)]
 simp only[wX,hr,aaH,e1,hs,Kz,KA,KB,au]
 cases hb:(mS s b).2
 .have hs':(mS s b).1=s:=by
   revert hb;rw[mS];cases leB 24 (s.ax.length:Int)||ltB 60 (b.length:Int)
   .intro hb;cases hb
   intro _;rfl
  simp only[cond_false,hs',fk hs]
 rfl
theorem X9 {B:Int} {n:ab} (h:NP B n) {i:Nat} {d:aw} (hd:n.ah[i]?=some d):(dZ n ⟨5,i,0,[],bU⟩).2=dM n i (dOn d):=by
 have hi:=(YP.1 hd).1
 obtain⟨d',s,a,e1,e2,e3,hm⟩:=h.at_ hi
 have hr:inR (i:Int) 0 ((n.ah.length:Int)-1)=true:=bu.2 oaa
 simp only[dZ]
 rw[if_neg (show ¬(5:Int)=1 by omega),if_neg (show ¬((5:Int)=2\/(5:Int)=3\/(5:Int)=4) by omega),if_pos (show True\/(5:Int)=6\/(5:Int)=7\/(5:Int)=8 by simp)]
 simp only[wX,hr,aaH,hd,e2,aQ,au]
 cases hb:eqB d.aG 0
 .simp only[dM,dOn,hb,fk hd,ZV,au];rfl
 rfl
def RN (B:Nat) (l:Nat) (n:ab):Prop:=∃k,C4 k n/\k<=B/\n.ah.length=l
theorem RN.np {B l:Nat} {n:ab} (h:RN B l n) (hB:B<=1000000):∃b:Int,NP b n/\b<=10000000000:=by
 obtain⟨k,h1,h2,_⟩:=h
 exact⟨_,h1.re.np oaa,by omega⟩
theorem RN.sub {B l:Nat} {n:ab} (h:RN B l n) (hB:B<=1000000) {i:Nat} {s:ae} (hs:n.aj[i]?=some s) {b:List Int} (hb:okB b):RN (B+1) l {n with aj:=n.aj.set i (mS s b).1}:=by
 obtain⟨b',hn,_⟩:=h.np hB
 obtain⟨k,h1,h2,h3⟩:=h
 have:=C4.step h1 (wi (k:=8) (i:=(i:Int)) (c:=0) hb) (ph n (by simp)) (JP n (by simp))
 rw[VS hn hs b] at this
 exact⟨_,this,by omega,h3⟩
theorem RN.on {B l:Nat} {n:ab} (h:RN B l n) (hB:B<=1000000) {i:Nat} {d:aw} (hd:n.ah[i]?=some d):RN (B+1) l (dM n i (dOn d)):=by
 obtain⟨b',hn,_⟩:=h.np hB
 obtain⟨k,h1,h2,h3⟩:=h
 have:=C4.step h1 (wi (k:=5) (i:=(i:Int)) (c:=0) (b:=[]) (λx hx=>by simp at hx)) (ph n (by simp)) (JP n (by simp))
 rw[X9 hn hd] at this
 exact⟨_,this,by omega,by rw[(iq n i (dOn d)).1];exact h3⟩
def RZ (B:Nat) (l:Nat) (n:ab):Prop:=∃k,C4 k n/\k<=B/\n.ah.length=l/\n.bp=0
theorem RZ.rn {B l:Nat} {n:ab} (h:RZ B l n):RN B l n:=by
 obtain⟨k,h1,h2,h3,_⟩:=h;exact⟨k,h1,h2,h3⟩
theorem RZ.np {B l:Nat} {n:ab} (h:RZ B l n) (hB:B<=1000000):∃b:Int,NP b n/\b<=10000000000:=h.rn.np hB
theorem RZ.sub {B l:Nat} {n:ab} (h:RZ B l n) (hB:B<=1000000) {i:Nat} {s:ae} (hs:n.aj[i]?=some s) {b:List Int} (hb:okB b):RZ (B+1) l {n with aj:=n.aj.set i (mS s b).1}:=by
 obtain⟨k,h1,h2,h3⟩:=h.rn.sub hB hs hb
 exact⟨k,h1,h2,h3,h.choose_spec.2.2.2⟩
theorem RZ.on {B l:Nat} {n:ab} (h:RZ B l n) (hB:B<=1000000) {i:Nat} {d:aw} (hd:n.ah[i]?=some d):RZ (B+1) l (dM n i (dOn d)):=by
 obtain⟨k,h1,h2,h3⟩:=h.rn.on hB hd
 exact⟨k,h1,h2,h3,(cU ((dOn d).bL.map (b9 i true)) {n with ah:=n.ah.set i (dOn d).aJ}).2.2.2.2.1.trans h.choose_spec.2.2.2⟩
theorem Wv {c:bV} (h:fc c):Wp (CT c) (λr=>fc r.2/\∃l,(1<=l/\l<=3)/\RZ 40 l r.1):=by
 unfold CT
 refine Wp.call (YJ h) λr1 h1=>?_
 have hp:ez r1.1:=⟨by have:=h1.2.1;omega,λ_ _=>trivial⟩
 refine Wp.call (P:=λx=>fc x.2.2.2.2.2.2.2.1/\∃l,(1<=l/\l<=3)/\RZ 0 l ⟨⟨x.2.2.2.2.2.2.1⟩,x.2.2.2.2.2.1,x.2.2.2.2.1,x.2.2.2.1,[],x.1,x.2.2.2.2.2.2.2.2,x.2.1,x.2.2.1⟩) ?_ ?_
 .refine Wp.call (UE h1.1) λr16 h16=>Wp.call (UG h16.1) λr17 h17=>Wp.call (qc h17.1 oaa) λr18 h18=>?_
  have hv:oI r16.1=true/\pL r1.1=true/\s7 r17.1=true:=⟨h16.2.2,h1.2.2,h17.2.2.1⟩
  have hl:=h17.2.1
  rw[new_s h16.2.1 oaa hp,hv.1,hv.2.1,hv.2.2]
  refine Wp.some ⟨h18.1,r17.1.length,hl,0,?_,YW _,by simp[gH]⟩
  exact C4.new (b:=WR (30+r18.1)) hv h16.2.1 hp hl h17.2.2.2
 rintro⟨v5,v8,v9,v10,v11,v12,v13,v14,v15⟩ ⟨hc,l,hl,hr⟩
 simp only at hc hr
 refine Wp.call (P:=λx=>fc x.1/\RZ 40 l x.2) ?_ λx hx=>Wp.some ⟨hx.1,l,hl,hx.2⟩
 refine Wp.iterF (λx=>(0<=x.1/\x.1<=(l:Int))/\fc x.2.1/\RZ (7*x.1.toNat) l x.2.2) (λx=>((l:Int)-x.1).toNat) ⟨⟨by simp only;omega,by simp only;omega⟩,hc,hr⟩ (by simp only;omega) ?_
 rintro⟨v20,v34,n⟩ ⟨⟨i0,i1⟩,i2,i3⟩
 simp only at i0 i1 i2 i3
 obtain⟨b,hn,hb⟩:=i3.np oaa
 have hdl:n.ah.length=l:=i3.choose_spec.2.2.1
 simp only[ER]
 refine Wp.cond (λhb=>?_) (λhb=>Wp.some ⟨i2,?_⟩)
 rotate_left
 .obtain⟨k,g1,g2,g3⟩:=i3;exact⟨k,g1,by omega,g3⟩
 have hb:=ko hb
 obtain⟨q,rfl⟩:∃q:Nat,v20=q:=⟨v20.toNat,by omega⟩
 refine Wp.call (qc i2 oaa) λr117 h117=>?_
 refine Wp.call (P:=λx=>fc x.2/\RZ (7*q+6) l {n with aj:=x.1}) ?_ ?_
 .refine Wp.iterF (λx=>(0<=x.1/\x.1<=6)/\fc x.2.2/\RZ (7*q+(6-x.1.toNat)) l {n with aj:=x.2.1}) (λx=>x.1.toNat) ⟨⟨by simp only;omega,by simp only;omega⟩,h117.1,?_⟩ (by simp only;omega) ?_
  .obtain⟨k,g1,g2,g3⟩:=i3;exact⟨k,g1,by simp only[aaH] at g2;omega,g3⟩
  rintro⟨v118,v122,v123⟩ ⟨⟨j0,j1⟩,j2,j3⟩
  simp only at j0 j1 j2 j3
  simp only[ES]
  refine Wp.cond (λhc=>?_) (λhc=>Wp.some ⟨j2,?_⟩)
  rotate_left
  .obtain⟨k,g1,g2,g3⟩:=j3;exact⟨k,g1,by omega,g3⟩
  have hc:=ko hc
  obtain⟨b',hn',_⟩:=j3.np oaa
  have hls:=hn'.ls
  simp only at hls
  obtain⟨s,hs⟩:∃s,v122[q]?=some s:=⟨_,YO oaa⟩
  obtain⟨d',s',a',e1,e2,e3,hm⟩:=hn'.at_ (i:=q) (by simp only;omega)
  simp only at e1 e2 e3
  rw[hs] at e2;cases e2
  simp only[bk,hs,aaE]
  refine Wp.call (qc j2 oaa) λr135 h135=>Wp.call (YG h135.1 h135.2.1 oaa) λr136 h136=>?_
  rw[sub_s hm.sg.sp.ok]
  simp only[aaE,aaH]
  refine Wp.some ⟨⟨⟨?_,?_⟩,h136.1,?_⟩,?_⟩
  all_goals simp only[bP (show-9223372036854775808<=v118-1/\v118-1<=9223372036854775807 by omega)]
  .omega
  .omega
  .have:=j3.sub oaa (i:=q) hs h136.2.1
   obtain⟨k,g1,g2,g3⟩:=this
   exact⟨k,g1,by omega,g3⟩
  omega
 rintro⟨v132,v133⟩ ⟨k1,k2⟩
 simp only at k1 k2
 obtain⟨b',hn',_⟩:=k2.np oaa
 obtain⟨d,hd⟩:∃d,n.ah[q]?=some d:=⟨_,YO oaa⟩
 obtain⟨d',s',a',e1,e2,e3,hm⟩:=hn'.at_ (i:=q) (by simp only;omega)
 simp only at e1
 rw[hd] at e1;cases e1
 refine Wp.call (Ls k1 oaa) λr139 h139=>?_
 refine Wp.call (P:=λx=>RZ (7*q+7) l x) ?_ λx hx=>Wp.some ⟨⟨⟨?_,?_⟩,h139,?_⟩,?_⟩
 .refine Wp.cond (λ_=>?_) (λ_=>Wp.some ?_)
  .simp only[bk,hd,on_s hm.dp.ok,aaE,aaH]
   have hlen:=(HC d).len
   have:=fP (step:=rS (q:Int) (dOn d)) (dOn d).bL (λk n=>((k:Int),n)) (λn x=>Option.bind (rT n (b9 (q:Int) true x)) λr=>some (.next r)) some oaa
    (λk x n hx hk=>by
     simp only[rS,dm hk,bk,hx,cp (show k<9223372036854775807 by omega),b9,au]
     cases rT n ⟨(q:Int),true,false,x.aE,x,gx⟩<;>rfl) (λn=>by simp[rS]) {n with ah:=n.ah.set q (dOn d).aJ,aj:=v132}
   rw[xo rT (b9 (q:Int) true) (λn x=>VN (CS (q:Int) true x))] at this
   rw[show iter (rS (q:Int) (dOn d)) FU (0,{n with ah:=n.ah.set q (dOn d).aJ,aj:=v132})=_ from this]
   exact Wp.some (k2.on oaa (i:=q) hd)
  obtain⟨k,g1,g2,g3⟩:=k2;exact⟨k,g1,by omega,g3⟩
 all_goals simp only[bP (show-9223372036854775808<=(q:Int)+1/\(q:Int)+1<=9223372036854775807 by omega)]
 .omega
 .omega
 .obtain⟨k,g1,g2,g3⟩:=hx;exact⟨k,g1,by omega,g3⟩
 omega
theorem Eg (n:ab) (f:a9):(dP n f).ah.length=n.ah.length:=by rw[(fQ n f).1]
theorem Lf:∀(c i:Nat) (n:ab),(dT c i n).ah.length=n.ah.length
 |0,_,_=>rfl
 |c+1,i,n=>by
  rw[dT]
  cases n.ah[i]? with
  |none=>rfl
  |some d=>simp only;rw[Lf,(iq _ _ _).1]
theorem Lm:∀(c i:Nat) (n:ab),(eL c i n).ah.length=n.ah.length
 |0,_,_=>rfl
 |c+1,i,n=>by
  rw[eL]
  cases n.aj[i]? with
  |none=>rfl
  |some s=>cases n.aB[i]? with
   |none=>rfl
   |some a=>simp only;rw[Lm,(Gy _ _ _).1]
theorem LT (n:ab) (k:Nat):(dJ n k).ah.length=n.ah.length:=by
 rw[dJ]
 cases n.aA[k]? with
 |none=>rfl
 |some f=>
  simp only
  cases tA (d7 n k) f.aE
  .rfl
  simp only[au]
  cases f.dS
  .simp only[cond_false]
   cases hd:(d7 n k).ah[f.aJ.toNat]? with
   |none=>rfl
   |some d=>
    simp only
    cases eqB d.aE f.aE
    .rfl
    simp only[au];rw[(iq _ _ _).1];rfl
  simp only[cond_true]
  cases f.bW||!eqB f.aM.aE f.aE
  .simp only[cond_false]
   cases hs:(d7 n k).aj[f.aJ.toNat]? with
   |none=>rfl
   |some s=>simp only[rN];rw[(cU _ _).1];rfl
  rfl
theorem Ra (n:ab) (e:cr):(dZ n e).2.ah.length=n.ah.length:=by
 rw[dZ]
 split
 .rw[iA]
  cases leB 100000 n.gZ
  .simp only[cond_false];rw[Lm,Lf]
  rfl
 split
 .rw[oW]
  cases inR e.bR 0 ((n.aA.length:Int)-1)
  .rfl
  simp only[au]
  cases eqB e.aS 2
  .simp only[cond_false]
   cases eqB e.aS 3
   .simp only[cond_false]
    cases leB 200 (n.aA.length:Int)
    .simp only[cond_false]
     cases n.aA[e.bR.toNat]? with
     |none=>rfl
     |some f=>exact Eg n f
    rfl
   rfl
  exact LT n _
 split
 .rw[wX]
  cases inR e.bR 0 ((n.ah.length:Int)-1)
  .rfl
  simp only[au]
  cases n.ah[e.bR.toNat]? with
  |none=>rfl
  |some d=>cases n.aj[e.bR.toNat]? with
   |none=>rfl
   |some s=>
    simp only
    cases eqB e.aS 5
    .simp only[cond_false]
     cases eqB e.aS 6
     .simp only[cond_false]
      cases eqB e.aS 7
      .simp only[cond_false]
       cases(mS s e.a8).2<;>rfl
      simp only[cond_true]
      cases eqB d.aG 2
      .rfl
      simp
     simp only[cond_true]
     cases eqB e.aE d.aE||!ew n.bX e.aE
     .exact(iq _ _ _).1
     rfl
    simp only[cond_true]
    cases eqB d.aG 0
    .rfl
    exact(iq _ _ _).1
 split
 .rw[yl];cases !ew n.bX e.bR||booB (tA n e.bR) (eqB e.aS 10)<;>rfl
 split
 .rw[kE]
  cases !inR e.bR 0 (n.eD.hP-1)||(booB (uB n.eD e.bR) (eqB e.aS 12)||eqB (kF n.eD e.bR (eqB e.aS 12)).f7 0)<;>rfl
 split
 .rw[tG];cases Ac n e.dK
  .rfl
  exact Eg n _
 rfl
theorem RN.apply {B l:Nat} {n:ab} (h:RN B l n) {e:cr} (he:EP e) (hh:zw n e=true) (hf:FS n e):RN (B+1) l (dZ n e).2:=by
 obtain⟨k,h1,h2,h3⟩:=h
 exact⟨k+1,h1.step he hh hf,by omega,by rw[Ra];exact h3⟩
def yh (r:aP) (g:Int):Int:=(vec r.eR (vQ r.ID g) g).eR
def dX (l:List bm) (k:Nat):Int:=((l.take k).map λp=>(p.a8.length:Int)).sum
def cf (w:bh):Int:=w.bb-1-w.aD.length
structure SI (d:aw) (s:ae) (a:av):Prop where
 cl:d.cZ.df<=s.be.cQ
 pq:s.bi<=s.be.cQ
 pg:0<s.bi->s.ag<s.bi
 pv:0<s.bi->s.aO=vec s.be.eR (vQ s.be.ID s.bi) s.bi
 sg:s.ag<=s.be.cQ
 s1:s.aG=1->0<s.ag
 sk:0<s.ag->s.aV=yh s.be s.ag
 dg:d.ag<=d.cZ.df
 dk:0<d.ag->d.aV=yh s.be d.ag
 pr:d.aT.bj<+:s.ax
 pe:∀x∈d.aT.aO,s.ax[(x.cQ-1).toNat]?=some ⟨x.a8⟩/\x.cQ<s.aq.bb
 nx:d.aT.bb<=s.aq.bb
 wn:∀x∈s.aq.aD,s.ax[(x.cQ-1).toNat]?=some ⟨x.a8⟩
 ak:cf s.aq<d.aT.bb
 ch:a.dW+s.bC.d4=dX s.ax (cf s.aq).toNat
def Ca (s:ae) (x:aK):Prop:=∃(k g e:Int) (b:List Int),0<g/\(1<=k/\k<s.aq.bb)/\s.ax[(k-1).toNat]?=some ⟨b⟩/\x=iQ (yh s.be g) g e ⟨k,b⟩
def W8 (d:aw) (x:aK):Prop:=x.ag<d.ag\/(x.ag=d.ag/\EX d.aV x=false)
def Pf (s:ae) (m:aR):Prop:=∃q,(1<=q/\q<=s.be.cQ)/\m.ag=q/\m.cO=vec s.be.eR (vQ s.be.ID q) q
def Pe (d:aw) (m:aR):Prop:=jm d.cZ.eR d.cZ.df m.cO=1\/jm d.cZ.eR d.cZ.df m.cO=2
def CZ (s:ae) (m:aR):Prop:=m.ag<s.ag\/(m.ag=s.ag/\lN s.aV m=false)
structure FI (d:aw) (s:ae) (f:a9):Prop where
 up:f.dS=true->f.bW=false->f.aM.aS=8->f.aM.bI<=d.aT.bb\/CZ s f.aM
 rd:f.dS=false->f.bW=true->Ca s f.b6\/W8 d f.b6
 dn:f.dS=false->f.bW=false->f.aM.aS=2->Pf s f.aM\/Pe d f.aM
structure sa (d:aw) (s:ae) (d':aw) (s':ae):Prop where
 ck:d'.cZ.eR=d.cZ.eR
 cl:d.cZ.df<=d'.cZ.df
 dg:d.ag<d'.ag\/(d'.ag=d.ag/\d'.aV=d.aV)
 rn:d.aT.bb<=d'.aT.bb
 ri:s'.be.ID=s.be.ID
 rk:s'.be.eR=s.be.eR
 rs:s.be.cQ<=s'.be.cQ
 sg:s.ag<s'.ag\/(s'.ag=s.ag/\s'.aV=s.aV)
 su:s.ax<+:s'.ax
 wn:s.aq.bb<=s'.aq.bb
theorem sa.refl (d:aw) (s:ae):sa d s d s:=⟨rfl,aaF _,.inr ⟨rfl,rfl⟩,aaF _,rfl,rfl,aaF _,.inr ⟨rfl,rfl⟩,abt _,aaF _⟩
theorem Ii {α:Type} {xs ys:List α} (h:xs<+:ys) {k:Nat} {x:α} (hx:xs[k]?=some x):ys[k]?=some x:=by
 obtain⟨zs,rfl⟩:=h
 rw[YZ (YP.1 hx).1];exact hx
theorem SM {r r':aP} (h1:r'.ID=r.ID) (h2:r'.eR=r.eR) (g:Int):yh r' g=yh r g:=by rw[yh,yh,h1,h2]
theorem M8 {k l l':Int} {v:dH} (h:l<=l') (hb:jm k l v=1\/jm k l v=2):jm k l' v=1\/jm k l' v=2:=by
 revert hb
 rw[jm,jm]
 intro hb
 split at hb
 .rename_i h1;rw[if_pos h1];exact hb
 rename_i h1;rw[if_neg h1]
 split at hb
 .rename_i h2;rw[if_pos oaa];exact .inr rfl
 split at hb<;>omega
theorem FI.mono {d d':aw} {s s':ae} {f:a9} (h:FI d s f) (m:sa d s d' s'):FI d' s' f:=by
 refine⟨λh1 h2 h3=>?_,λh1 h2=>?_,λh1 h2 h3=>?_⟩
 .rcases h.up h1 h2 h3 with q|q
  .exact .inl (abp q m.rn)
  right
  rcases m.sg with g|⟨g1,g2⟩
  .left;rcases q with q|q<;>omega
  rcases q with q|q
  .left;omega
  right;rw[g1,g2];exact q
 .rcases h.rd h1 h2 with⟨k,g,e,b,q1,q2,q3,q4⟩|q
  .left;exact⟨k,g,e,b,q1,⟨q2.1,Int.lt_of_lt_of_le q2.2 m.wn⟩,Ii m.su q3,by rw[SM m.ri m.rk];exact q4⟩
  right
  rcases m.dg with g|⟨g1,g2⟩
  .left;rcases q with q|q<;>omega
  rcases q with q|q
  .left;omega
  right;rw[g1,g2];exact q
 rcases h.dn h1 h2 h3 with⟨q,q1,q2,q3⟩|q
 .left;exact⟨q,⟨q1.1,abp q1.2 m.rs⟩,q2,by rw[m.ri,m.rk];exact q3⟩
 right;rw[Pe,m.ck];exact M8 m.cl q
structure PI (n:ab):Prop where
 si:∀(i:Nat) d s a,n.ah[i]?=some d->n.aj[i]?=some s->n.aB[i]?=some a->SI d s a
 fi:∀f∈n.aA,∀d s,n.ah[f.aJ.toNat]?=some d->n.aj[f.aJ.toNat]?=some s->FI d s f
theorem PI.send {n:ab} (h:PI n) {f:a9} (hf:∀d s,n.ah[f.aJ.toNat]?=some d->n.aj[f.aJ.toNat]?=some s->FI d s f):PI (dP n f):=by
 rw[dP]
 cases leB 200 (n.aA.length:Int)
 .refine⟨h.si,λg hg=>?_⟩
  rcases YR.1 hg with hg|hg
  .exact h.fi g hg
  simp at hg;subst hg;exact hf
 exact⟨h.si,h.fi⟩
theorem PI.sends:∀(l:List a9) {n:ab},PI n->(∀f∈l,∀d s,n.ah[f.aJ.toNat]?=some d->n.aj[f.aJ.toNat]?=some s->FI d s f)->PI (sends n l)
 |[],n,h,_=>h
 |f::l,n,h,hf=>by
  have hk:=fQ n f
  exact PI.sends l (h.send (hf f (by simp))) (λg hg=>by rw[hk.1,hk.2.1];exact hf g (by simp[hg]))
theorem PI.setM {n:ab} (h:PI n) {i:Nat} {d d':aw} {s s':ae} {a':av} (hd:n.ah[i]?=some d) (hs:n.aj[i]?=some s) (hm:sa d s d' s') (hi:SI d' s' a'):
 PI {n with ah:=n.ah.set i d',aj:=n.aj.set i s',aB:=n.aB.set i a'}:=by
 refine⟨λj x y z hx hy hz=>?_,λf hf x y hx hy=>?_⟩
 .rcases gI hx with⟨e1,e2⟩|⟨e1,e2⟩<;>rcases gI hy with⟨e3,e4⟩|⟨e3,e4⟩<;>rcases gI hz with⟨e5,e6⟩|⟨e5,e6⟩<;>first|omega|skip
  .subst e2;subst e4;subst e6;exact hi
  exact h.si j x y z e2 e4 e6
 rcases gI hx with⟨e1,e2⟩|⟨e1,e2⟩<;>rcases gI hy with⟨e3,e4⟩|⟨e3,e4⟩<;>first|omega|skip
 .subst e2;subst e4
  exact(h.fi f hf d s (by rw[<-e1];exact hd) (by rw[<-e1];exact hs)).mono hm
 exact h.fi f hf x y e2 e4
structure AF (d:aw) (s:ae) (a:av) (r:bg):Prop where
 mo:sa d s r.aJ s
 si:SI r.aJ s a
 sg:∀m∈r.bL,m.aS=8->m.bI<=r.aJ.aT.bb
theorem AF.keep {d:aw} {s:ae} {a:av} (h:SI d s a) {r:bg} (h1:r.aJ.cZ=d.cZ) (h2:r.aJ.ag=d.ag) (h3:r.aJ.aV=d.aV) (h4:r.aJ.aT=d.aT) (h5:∀m∈r.bL,m.aS≠8):AF d s a r:=
 ⟨⟨by rw[h1],by rw[h1];exact aaF _,.inr ⟨h2,h3⟩,by rw[h4];exact aaF _,rfl,rfl,aaF _,.inr ⟨rfl,rfl⟩,abt _,aaF _⟩,
  {h with cl:=by rw[h1];exact h.cl,dg:=by rw[h1,h2];exact h.dg,dk:=by rw[h2,h3];exact h.dk,pr:=by rw[h4];exact h.pr,pe:=by rw[h4];exact h.pe,nx:=by rw[h4];exact h.nx,ak:=by rw[h4];exact h.ak},
  λm hm e=>absurd e (h5 m hm)⟩
theorem AF.none {d:aw} {s:ae} {a:av} (h:SI d s a):AF d s a ⟨d,[]⟩:=.keep h rfl rfl rfl rfl (by simp)
section
variable {d:aw} {s:ae} {a:av} (h:SI d s a)
include h
theorem Dc {d':aw} (h1:d'.cZ=d.cZ) (h2:d'.ag=d.ag) (h3:d'.aV=d.aV) (h4:d'.aT=d.aT):AF d s a (km d'):=
 .keep h h1 h2 h3 h4 (by simp[km,eC,kG])
theorem Dv:AF d s a (dR d):=by
 rw[dR]
 cases ltB 0 d.di<;>cases eqB d.aG 1<;>cases eqB d.aG 2&&!d.bM<;>exact .keep h rfl rfl rfl rfl (by simp[gV,eC,kG])
theorem Ry:AF d s a (dOn d):=by
 rw[dOn];cases eqB d.aG 0<;>exact .keep h rfl rfl rfl rfl (by simp[gV])
theorem JB (c:Int):AF d s a (qg d c):=by
 rw[qg]
 cases eqB c d.aE||!inR c 0 5
 .cases eqB d.aG 2&&ltB d.aF 999999
  .exact .keep h rfl rfl rfl rfl (by simp)
  exact Dc h rfl rfl rfl rfl
 exact .none h
theorem ND (hk:d.cZ.eR=s.be.eR) (hr:s.be.cQ<=999999) {m:aR} (hf:Pf s m\/Pe d m):AF d s a (yA d m):=by
 rw[yA]
 cases hv:eqB (jm d.cZ.eR d.cZ.df m.cO) 0
 .exact .none h
 have hv:=fx hv
 rcases hf with⟨q,q1,q2,q3⟩|q
 .have hq:inR q 0 999999=true:=bu.2 oaa
  rw[q3,hk,BA oaa oaa] at hv
  have hlt:d.cZ.df<q:=by
   by_cases hle:q<=d.cZ.df
   .rw[if_pos hle] at hv;omega
   omega
  have hu:unm d.cZ.eR m.cO.gN m.cO.lp=q:=by
   rw[q3,hk];simp only[vec,hq,cond_true];exact IN oaa oaa
  have hrand:m.cO.gN=vQ s.be.ID q:=by rw[q3];simp only[vec,hq,cond_true]
  have hg:=h.dg
  rw[hk,hrand] at hu
  simp only[cond_true,hu,hrand,q2,hk]
  refine⟨⟨hk.symm,by simp only;omega,.inl (by simp only;omega),aaF _,rfl,rfl,aaF _,.inr ⟨rfl,rfl⟩,abt _,aaF _⟩,{h with cl:=q1.2,dg:=aaF _,dk:=λ_=>rfl},λm hm=>by simp at hm;subst hm;intro e;simp at e⟩
 rcases q with q|q<;>omega
theorem NF (hk:d.cZ.eR=s.be.eR) (hr:s.be.cQ<=999999) {m:aR} (hf:m.aS=2->Pf s m\/Pe d m):AF d s a (ia d m):=by
 rw[ia]
 cases !ey m||(!eqB m.aE d.aE||eqB d.aG 0)
 .simp only[cond_false]
  cases h2:eqB m.aS 2&&eqB d.aG 1
  .simp only[cond_false]
   cases eqB m.aS 4&&(eqB d.aG 1&&(mf d.aV&&(eqB m.ag d.ag&&lN d.aV m)))
   .simp only[cond_false]
    cases eqB m.aS 6&&(eqB d.aG 2&&(eqB m.ag d.ag&&(eqB m.aF d.aF&&lN d.aV m)))
    .simp only[cond_false]
     cases eqB m.aS 7&&(eqB d.aG 3&&ltB d.aF 999999)
     .simp only[cond_false]
      cases eqB m.aS 7&&eqB d.aG 2
      .exact .none h
      exact Dc h rfl rfl rfl rfl
     exact Dc h rfl rfl rfl rfl
    exact .keep h rfl rfl rfl rfl (by simp)
   exact .keep h rfl rfl rfl rfl (by simp)
  rw[v0] at h2
  exact ND h hk hr (hf (fx h2.1))
 exact .none h
omit h in
theorem TE {l sub:List bm} {t:List an} {nx:Int} (hp:l<+:sub) (hn:nx=(l.length:Int)+1) (ht:∀(k:Nat) (y:an),t[k]?=some y->y.cQ=nx+k/\sub[(y.cQ-1).toNat]?=some ⟨y.a8⟩):l++t.map (λy=>(⟨y.a8⟩:bm))<+:sub:=by
 obtain⟨zs,hz⟩:=hp
 refine⟨zs.drop t.length,?_⟩
 apply aaQ
 intro i
 rw[<-hz]
 by_cases h1:i<l.length
 .rw[Zr,YZ h1,YZ h1]
 rw[Zr,Y1 oaa,Y1 (show l.length<=i by omega)]
 by_cases h2:i-l.length<t.length
 .rw[YZ (by simpa using h2),List.getElem?_map,YO h2]
  obtain⟨e1,e2⟩:=ht (i-l.length) _ (YO h2)
  rw[<-hz,e1,Y1 oaa] at e2
  rw[show(nx+((i-l.length:Nat):Int)-1).toNat-l.length=i-l.length by omega] at e2
  rw[e2];rfl
 rw[Y1 (by simpa using h2),List.getElem?_drop]
 congr 1;simp;omega
theorem NE (hp:RcV d.aT) (hs:SP s) (hb:∀p∈s.ax,okB p.a8) {x:aK} (hf:Ca s x\/W8 d x):AF d s a (js d x):=by
 simp only[js]
 cases ho:eqB d.aG 2&&(lE d.aV d.ag d.aF x).2
 .exact .none h
 simp only[cond_true]
 rw[v0] at ho
 have hcond:x.ag=d.ag/\x.aF=d.aF/\EX d.aV x=true:=by
  have:=ho.2
  rw[lE] at this
  split at this
  .assumption
  cases this
 rcases hf with⟨k,g,e,b,q1,q2,q3,q4⟩|q
 .have hsub:=YS q3
  have hl:=hs.sl
  have hnx:=hs.nx
  have hgen:d.ag=g:=by rw[<-hcond.1,q4];rfl
  have hep:d.aF=e:=by rw[<-hcond.2.1,q4];rfl
  have hkey:d.aV=yh s.be g:=by rw[<-hgen];exact h.dk oaa
  have hopen:lE d.aV d.ag d.aF x=(⟨k,b⟩,true):=by
   rw[q4,hgen,hep,hkey]
   exact Bk q2.1 (by show k<=100000;omega) (hb _ hsub) (hs.sd _ hsub) _ _ _
  rw[hopen]
  simp only
  cases hlate:yN d.aT ⟨k,b⟩
  .obtain⟨t,dd,t1,t2,t3,t4,t5,t6,t7,t8⟩:=vy hp hlate
   have hmem:∀y∈rC ⟨k,b⟩ d.aT.aO,s.ax[(y.cQ-1).toNat]?=some ⟨y.a8⟩/\y.cQ<s.aq.bb:=λy hy=>by
    rcases ub.1 hy with e|e
    .subst e;exact⟨q3,q2.2⟩
    exact h.pe y e
   have hpre:=TE (l:=d.aT.bj) (sub:=s.ax) (t:=t) h.pr hp.n (λk y hy=>⟨t2 k y hy,(hmem y (by rw[t1];exact abo _ (YS hy))).1⟩)
   have hnext:(iu d.aT ⟨k,b⟩).bb<=s.aq.bb:=by
    rw[t3]
    by_cases ht:t.length=0
    .rw[ht];have:=h.nx;simp;omega
    obtain⟨y,hy⟩:∃y,t[t.length-1]?=some y:=⟨_,YO oaa⟩
    have e1:=t2 _ y hy
    have e2:=(hmem y (by rw[t1];exact abo _ (YS hy))).2
    omega
   have hak:=h.ak
   refine⟨⟨rfl,aaF _,.inr ⟨rfl,rfl⟩,by simp only;rw[t3];omega,rfl,rfl,aaF _,.inr ⟨rfl,rfl⟩,abt _,aaF _⟩,
    {h with pr:=by simp only;rw[t4];exact hpre,pe:=λy hy=>?_,nx:=hnext,ak:=by simp only;rw[t3];omega},λm hm _=>?_⟩
   .simp only at hy
    rcases t6 with e|e
    .rw[e] at hy;exact hmem y (by rw[t1];exact abq _ hy)
    rw[e] at hy;simp at hy
   simp at hm;subst hm;exact aaF _
  have e:iu d.aT ⟨k,b⟩=d.aT:=by rw[iu,hlate];rfl
  rw[e]
  refine⟨sa.refl d s,h,λm hm _=>?_⟩
  simp at hm;subst hm;exact aaF _
 exfalso
 rcases q with q|⟨q1,q2⟩
 .omega
 rw[hcond.2.2] at q2;cases q2
end
theorem N1 {d:aw} {s:ae} {a:av} (h:SI d s a):SI (sh d) s a/\sa d s (sh d) s:=by
 rw[sh]
 cases eqB d.aG 2
 .exact⟨h,sa.refl d s⟩
 have:=AF.keep h (r:=⟨{d with aG:=3},[]⟩) rfl rfl rfl rfl (by simp)
 exact⟨this.si,this.mo⟩
theorem qK {n:ab} (h:PI n) {i:Nat} {d:aw} {s:ae} {a:av} (hd:n.ah[i]?=some d) (hs:n.aj[i]?=some s) (ha:n.aB[i]?=some a) {r:bg} (st:AF d s a r):PI (dM n i r):=by
 have hi:=(YP.1 hd).1
 have hm:=h.setM hd hs st.mo (a':=a) st.si
 rw[fk hs,fk ha] at hm
 refine PI.sends _ hm λf hf x y hx hy=>?_
 obtain⟨m,hm',rfl⟩:=ZQ.1 hf
 simp only[b9,aaH] at hx hy
 have e1:(n.ah.set i r.aJ)[i]?=some r.aJ:=by simp[hi]
 rw[e1] at hx;rw[hs] at hy
 cases hx;cases hy
 exact⟨λ_ _ h3=>.inl (st.sg m hm' h3),λh1 _=>by simp[b9] at h1,λh1 _ _=>by simp[b9] at h1⟩
structure C5 (d:aw) (s:ae) (a:av) (r:bT):Prop where
 mo:sa d s d r.az
 si:SI d r.az a
 sg:∀m∈r.bL,m.aS=2->Pf r.az m
theorem Uh (xs:List an) (j:Nat):fY xs=fY (xs.take j)+fY (xs.drop j):=by
 simp only[fY]
 rw[<-abB,<-ZU,aau]
theorem wd {l:List bm} {k:Nat} {p:bm} (h:l[k]?=some p):dX l (k+1)=dX l k+p.a8.length:=by
 simp only[dX]
 rw[aa0,h]
 simp
theorem yx {l:List bm} {u:List an} {A:Nat} (h:∀(i:Nat) x,u[i]?=some x->l[A+i]?=some ⟨x.a8⟩):∀j:Nat,j<=u.length->dX l (A+j)=dX l A+fY (u.take j)
 |0,_=>by simp[fY]
 |j+1,hj=>by
  obtain⟨x,hx⟩:∃x,u[j]?=some x:=⟨_,YO oaa⟩
  rw[<-ZB,wd (h j x hx),yx h j oaa,aa0,hx]
  simp only[fY,Option.toList_some,ZU,abB,Ze,ZV,abx,List.sum_nil]
  omega
theorem LJ {l l':List bm} (h:l<+:l') {k:Nat} (hk:k<=l.length):dX l' k=dX l k:=by
 obtain⟨z,rfl⟩:=h
 simp only[dX]
 rw[List.take_append_of_le_length hk]
theorem pK {x:aP} (h:uC x=true):0<=x.cQ/\x.cQ<=999999:=by
 simp only[uC,v0,bu] at h;omega
section
variable {d:aw} {s:ae} {a:av} (h:SI d s a) (g:SG s a)
theorem C5.none (h:SI d s a):C5 d s a ⟨s,[]⟩:=⟨sa.refl d s,h,by simp⟩
include h
theorem PO {s':ae} {l:List aR} (h1:s'.be=s.be) (h2:s'.aO=s.aO) (h3:s'.bi=s.bi) (h4:s'.aG=s.aG) (h5:s'.ag=s.ag) (h6:s'.aV=s.aV) (h7:s'.ax=s.ax) (h8:s'.aq=s.aq) (h9:s'.bC.d4=s.bC.d4) (hl:∀m∈l,m.aS≠2):C5 d s a ⟨s',l⟩:=by
 refine⟨⟨rfl,aaF _,.inr ⟨rfl,rfl⟩,aaF _,by rw[h1],by rw[h1],by rw[h1];exact aaF _,.inr ⟨h5,h6⟩,by rw[h7];exact abt _,by rw[h8];exact aaF _⟩,?_,λm hm e=>absurd e (hl m hm)⟩
 exact⟨by rw[h1];exact h.cl,by rw[h1,h3];exact h.pq,by rw[h3,h5];exact h.pg,by rw[h1,h2,h3];exact h.pv,by rw[h1,h5];exact h.sg,by rw[h4,h5];exact h.s1,by rw[h1,h5,h6];exact h.sk,h.dg,by rw[h1];exact h.dk,by rw[h7];exact h.pr,by rw[h7,h8];exact h.pe,by rw[h8];exact h.nx,by rw[h7,h8];exact h.wn,by rw[h8];exact h.ak,by rw[h7,h8,h9];exact h.ch⟩
include g
theorem GL (m:aR):C5 d s a (xT s m):=by
 have hr:=pK g.sp.rcd
 simp only[xT]
 cases hb:eqB s.be.cQ 999999
 .have hb:=Cd hb
  simp only[cond_false]
  refine⟨⟨rfl,aaF _,.inr ⟨rfl,rfl⟩,aaF _,rfl,rfl,by simp only;omega,.inr ⟨rfl,rfl⟩,abt _,aaF _⟩,?_,λx hx e=>?_⟩
  .have h1:=h.cl
   have h2:=h.sg
   exact {h with cl:=by simp only;omega,pq:=aaF _,pg:=λ_=>by simp only;omega,pv:=λ_=>rfl,sg:=by simp only;omega,sk:=h.sk,dk:=h.dk}
  simp at hx;subst hx
  exact⟨s.be.cQ+1,⟨by omega,aaF _⟩,rfl,rfl⟩
 exact .none h
theorem EC (m:aR):C5 d s a (qk s m):=by
 rw[qk]
 cases hb:leB s.bi 0||(!eqB m.ag s.bi||(!eqB m.bI s.aO.xW||leB 999999 s.aF))
 .simp only[Y2] at hb
  have hp:=tD hb.1
  have h1:=h.pg hp
  simp only[cond_false,mH]
  refine⟨⟨rfl,aaF _,.inr ⟨rfl,rfl⟩,aaF _,rfl,rfl,aaF _,.inl h1,abt _,aaF _⟩,?_,λx hx e=>?_⟩
  .have h2:=h.pq
   have h3:=pK g.sp.rcd
   exact {h with pq:=by show(0:Int)<=s.be.cQ;omega,pg:=λe=>by simp at e,pv:=λe=>by simp at e,sg:=h2,s1:=λ_=>hp,sk:=λ_=>by show s.aO.eR=yh s.be s.bi;rw[h.pv hp];rfl}
  simp[jK,kG] at hx;subst hx;simp at e
 exact .none h
omit g in
theorem EB (m:aR):C5 d s a (md s m):=by
 rw[md]
 cases !f6 s m||(ltB m.aF s.aF||(eqB m.aF s.aF&&!eqB m.aE s.aE))
 .exact PO h rfl rfl rfl rfl rfl rfl rfl rfl rfl (by simp[jK,kG])
 exact .none h
theorem GJ {m:aR} (hf:m.bI<=d.aT.bb\/CZ s m):C5 d s a (um s m):=by
 rw[um]
 cases hb:!f6 s m||ltB s.aq.bb m.bI
 .simp only[cond_false]
  simp only[Y2,aaM] at hb
  obtain⟨hk,hn⟩:=hb
  simp only[f6,v0] at hk
  rcases hf with hf|hf
  .have hg:=GK g m.bI
   have hw:=g.sp.win
   have hd:=AI hw hn
   have hle:=nO hn
   have f1:=hw.f
   have f2:=hw.n
   have hch:=h.ch
   have hak:=h.ak
   obtain⟨j,hj⟩:∃j,j=(m.bI-(s.aq.bb-s.aq.aD.length)).toNat:=⟨_,rfl⟩
   rw[<-hj] at hd
   have hjl:j<=s.aq.aD.length:=by omega
   have hnx:(lO s.aq m.bI).bb=s.aq.bb:=by rw[hd]
   have hlen:(lO s.aq m.bI).aD.length=s.aq.aD.length-j:=by rw[hd];simp
   have hacked:cf (lO s.aq m.bI)=cf s.aq+j:=by simp only[cf,hnx,hlen];omega
   have ha0:0<=cf s.aq:=by simp only[cf];omega
   have hcut:=Uh s.aq.aD j
   have hb':dX s.ax ((cf s.aq).toNat+j)=dX s.ax (cf s.aq).toNat+fY (s.aq.aD.take j):=by
    refine yx (λi x hx=>?_) j hjl
    have e1:=(hw.u i x hx).1
    have e2:=h.wn x (YS hx)
    rw[show(cf s.aq).toNat+i=(x.cQ-1).toNat by simp only[cf];omega];exact e2
   refine⟨⟨rfl,aaF _,.inr ⟨rfl,rfl⟩,aaF _,rfl,rfl,aaF _,.inr ⟨rfl,rfl⟩,abt _,by simp only[jJ,hnx];exact aaF _⟩,?_,by simp⟩
   refine⟨h.cl,h.pq,h.pg,h.pv,h.sg,h.s1,h.sk,h.dg,h.dk,h.pr,?_,?_,λx hx=>h.wn x (y8 _ _ x hx),?_,?_⟩
   .simp only[jJ,hnx];exact h.pe
   .simp only[jJ,hnx];exact h.nx
   .show cf (lO s.aq m.bI)<d.aT.bb
    rw[hacked];simp only[cf] at hak ⊢;omega
   rw[hg.2]
   show a.dW+(s.bC.d4+(fY s.aq.aD-fY (lO s.aq m.bI).aD))=dX s.ax (cf (lO s.aq m.bI)).toNat
   rw[hacked,show(cf s.aq+(j:Int)).toNat=(cf s.aq).toNat+j by omega,hb',<-hch,hd]
   simp only;omega
  exfalso
  have e1:=fx hk.2.1
  rcases hf with q|⟨q1,q2⟩
  .omega
  rw[hk.2.2] at q2;cases q2
 exact .none h
theorem T1 {m:aR} (hf:m.aS=8->m.bI<=d.aT.bb\/CZ s m):C5 d s a (sUp s m):=by
 rw[sUp]
 cases ey m
 .exact .none h
 simp only[au]
 cases eqB m.aS 1
 .cases eqB m.aS 3
  .cases eqB m.aS 5
   .cases h8:eqB m.aS 8
    .exact .none h
    exact GJ h g (hf (fx h8))
   exact EB h m
  exact EC h g m
 exact GL h g m
theorem EA:C5 d s a ⟨lg s,[]⟩:=by
 have hr:=pK g.sp.rcd
 exact⟨⟨rfl,aaF _,.inr ⟨rfl,rfl⟩,aaF _,rfl,rfl,aaF _,.inr ⟨rfl,rfl⟩,abt _,aaF _⟩,
  {h with pq:=by show(0:Int)<=s.be.cQ;omega,pg:=λe=>by simp[lg] at e,pv:=λe=>by simp[lg] at e},by simp⟩
theorem GM (b:List Int):C5 d s a ⟨(mS s b).1,[]⟩:=by
 rw[mS]
 cases leB 24 (s.ax.length:Int)||ltB 60 (b.length:Int)
 .simp only[cond_false]
  have hp:s.ax<+:s.ax++[(⟨b⟩:bm)]:=List.prefix_append _ _
  have hnx:=g.sp.nx
  refine⟨⟨rfl,aaF _,.inr ⟨rfl,rfl⟩,aaF _,rfl,rfl,aaF _,.inr ⟨rfl,rfl⟩,hp,aaF _⟩,
   {h with pr:=h.pr.trans hp,pe:=λx hx=>⟨Ii hp (h.pe x hx).1,(h.pe x hx).2⟩,wn:=λx hx=>Ii hp (h.wn x hx),ch:=?_},by simp⟩
  show a.dW+s.bC.d4=dX (s.ax++[(⟨b⟩:bm)]) (cf s.aq).toNat
  rw[LJ hp (by simp only[cf];omega)];exact h.ch
 exact .none h
end
theorem Ca.mono {s s':ae} {x:aK} (h:Ca s x) (h1:s'.be=s.be) (h2:s'.ax=s.ax) (h3:s.aq.bb<=s'.aq.bb):Ca s' x:=by
 obtain⟨k,g,e,b,q1,q2,q3,q4⟩:=h
 exact⟨k,g,e,b,q1,⟨q2.1,by omega⟩,by rw[h2];exact q3,by rw[h1];exact q4⟩
structure TrS (d:aw) (s:ae) (a:av) (s':ae) (a':av) (r:List aK):Prop where
 rc:s'.be=s.be
 gn:s'.ag=s.ag
 rk:s'.aV=s.aV
 su:s'.ax=s.ax
 st:s'.aG=s.aG
 wn:s.aq.bb<=s'.aq.bb
 si:SI d s' a'
 rd:∀x∈r,Ca s' x
theorem TrS.mo {d:aw} {s s':ae} {a a':av} {r:List aK} (h:TrS d s a s' a' r):sa d s d s':=
 ⟨rfl,aaF _,.inr ⟨rfl,rfl⟩,aaF _,by rw[h.rc],by rw[h.rc],by rw[h.rc];exact aaF _,.inr ⟨h.gn,h.rk⟩,by rw[h.su];exact abt _,h.wn⟩
theorem SI.pay {d:aw} {s s':ae} {a a':av} (h:SI d s a) (h1:s'.be=s.be) (h2:s'.aO=s.aO) (h3:s'.bi=s.bi) (h4:s'.aG=s.aG) (h5:s'.ag=s.ag) (h6:s'.aV=s.aV) (h7:s'.ax=s.ax) (h8:s'.aq=s.aq) (h9:a'.dW+s'.bC.d4=a.dW+s.bC.d4):SI d s' a':=
 ⟨by rw[h1];exact h.cl,by rw[h1,h3];exact h.pq,by rw[h3,h5];exact h.pg,by rw[h1,h2,h3];exact h.pv,by rw[h1,h5];exact h.sg,by rw[h4,h5];exact h.s1,by rw[h1,h5,h6];exact h.sk,h.dg,by rw[h1];exact h.dk,by rw[h7];exact h.pr,by rw[h7,h8];exact h.pe,by rw[h8];exact h.nx,by rw[h7,h8];exact h.wn,by rw[h8];exact h.ak,by rw[h9,h7,h8];exact h.ch⟩
theorem LY {s:ae} {a:av} (h:SG s a) (n:Int):(bS s a n).2.dW+(bS s a n).1.bC.d4=a.dW+s.bC.d4:=by
 rw[bS]
 cases leB (gk s n) 0
 .have:=(vf h.mo.acc s.bC.aC (wW (gk s n) s.gT.dQ)).2.2.2.2.2.1
  simp only[cond_false,jI,this]
 rfl
theorem PE {d:aw} {s:ae} {a:av} (h:SI d s a) (g:SG s a) (n:Int):SI d (bS s a n).1 (bS s a n).2:=by
 obtain⟨q,hk⟩:=iE s a n
 have hp:=LY g n
 exact h.pay (by rw[hk]) (by rw[hk]) (by rw[hk]) (by rw[hk]) (by rw[hk]) (by rw[hk]) (by rw[hk]) (by rw[hk]) hp
theorem Wd {d:aw} {s:ae} {a:av} (h:SI d s a) (g:SG s a) {x:bm} (e:mN s=some x):SI d {s with aq:=sent s.aq x.a8} a:=by
 obtain⟨hm,_,hx,hn,hl,hb⟩:=iX g.sp e
 have hnx:=h.nx
 have hac:cf (sent s.aq x.a8)=cf s.aq:=by simp only[cf,sent,Y8,YY,aaI];omega
 refine⟨h.cl,h.pq,h.pg,h.pv,h.sg,h.s1,h.sk,h.dg,h.dk,h.pr,λy hy=>⟨(h.pe y hy).1,by have:=(h.pe y hy).2;simp only[sent];omega⟩,by simp only[sent];omega,λy hy=>?_,by rw[hac];exact h.ak,by rw[hac];exact h.ch⟩
 simp only[sent,YR,ZS] at hy
 rcases hy with hy|hy
 .exact h.wn y hy
 subst hy;exact hx
theorem GO {d:aw} {s:ae} {a:av} (h:SI d s a) (h1:s.aG=1) {y:an} (hy:s.ax[(y.cQ-1).toNat]?=some ⟨y.a8⟩) (hk:1<=y.cQ/\y.cQ<s.aq.bb) (e:Int):Ca s (iQ s.aV s.ag e y):=by
 have hg:=h.s1 h1
 exact⟨y.cQ,s.ag,e,y.a8,hg,hk,hy,by rw[h.sk hg]⟩
theorem GR {d:aw}:∀(k:Nat) {s:ae} {a:av} {r:List aK},SI d s a->SG s a->s.aG=1->(∀x∈r,Ca s x)->TrS d s a (fT k s a r).1 (fT k s a r).2.1 (fT k s a r).2.2
 |0,s,a,r,h,g,h1,hr=>⟨rfl,rfl,rfl,rfl,rfl,aaF _,h,hr⟩
 |k+1,s,a,r,h,g,h1,hr=>by
  rw[fT]
  cases e:mN s with
  |none=>exact⟨rfl,rfl,rfl,rfl,rfl,aaF _,h,hr⟩
  |some x=>
   obtain⟨hm,_,hx,hn,hl,hb⟩:=iX g.sp e
   have he:=qG g (n:=(x.a8.length:Int)) oaa
   have hsi:=PE h g (x.a8.length:Int)
   obtain⟨q,hk⟩:=iE s a (x.a8.length:Int)
   have hw:=g.sp.win.n
   simp only
   cases hq:ltB 0 (gk (bS s a (x.a8.length:Int)).1 (x.a8.length:Int))
   .simp only[cond_false]
    have e':mN (bS s a (x.a8.length:Int)).1=some x:=by rw[hk];exact e
    have hsent:=Wd hsi he e'
    have hsg:=xD he e' hq
    have hst:({(bS s a (x.a8.length:Int)).1 with aq:=sent (bS s a (x.a8.length:Int)).1.aq x.a8}:ae).aG=1:=by rw[hk];exact h1
    have hrad:∀y∈r++[iQ (bS s a (x.a8.length:Int)).1.aV (bS s a (x.a8.length:Int)).1.ag (bS s a (x.a8.length:Int)).1.aF ⟨(bS s a (x.a8.length:Int)).1.aq.bb,x.a8⟩],Ca {(bS s a (x.a8.length:Int)).1 with aq:=sent (bS s a (x.a8.length:Int)).1.aq x.a8} y:=by
     intro y hy
     rcases YR.1 hy with hy|hy
     .exact(hr y hy).mono (by rw[hk]) (by rw[hk]) (by rw[hk];simp only[sent];omega)
     simp at hy;subst hy
     exact GO hsent hst (y:=⟨(bS s a (x.a8.length:Int)).1.aq.bb,x.a8⟩) (by rw[hk];exact hx) (by rw[hk];simp only[sent];omega) _
    have ih:=GR k hsent hsg hst hrad
    refine⟨by rw[ih.rc,hk],by rw[ih.gn,hk],by rw[ih.rk,hk],by rw[ih.su,hk],by rw[ih.st,hk],?_,ih.si,ih.rd⟩
    refine abp ?_ ih.wn
    rw[hk];simp only[sent];omega
   simp only[cond_true]
   refine⟨by rw[hk],by rw[hk],by rw[hk],by rw[hk],by rw[hk],by rw[hk];exact aaF _,hsi,λy hy=>(hr y hy).mono (by rw[hk]) (by rw[hk]) (by rw[hk];exact aaF _)⟩
theorem LC {d:aw} {s:ae} {a:av} (h:SI d s a) (g:SG s a) (h1:s.aG=1):∀x∈xX s,Ca s x:=by
 rw[xX,h1]
 simp only[aQ,cond_true]
 intro x hx
 obtain⟨y,hy,rfl⟩:=ZQ.1 hx
 have hy:=Y9 hy
 obtain⟨k,hk⟩:=Y4 hy
 have hu:=(g.sp.win.u k y hk).1
 have hf:=g.sp.win.f
 have hlt:=(YP.1 hk).1
 exact GO h h1 (h.wn y hy) oaa _
theorem Br {d:aw} {s:ae} {a:av} (h:SI d s a) (g:SG s a) (m:aU):TrS d s a (bF s a m).az (bF s a m).cy (bF s a m).b6/\∀x∈(bF s a m).eW,x.aS=7:=by
 rw[bF]
 cases h1:eqB s.aG 1
 .exact⟨⟨rfl,rfl,rfl,rfl,rfl,aaF _,h,by simp⟩,by simp⟩
 have h1:=fx h1
 simp only[au]
 have hg:=wq g
 have hq:=uh g.sp
 cases ltB 4 (eE s)
 .simp only[cond_false,sW]
  have hsi:SI d {s with c9:=eE s,cR:=(iN s).2,bC:=(eP s a).2} (eP s a).1:=h.pay rfl rfl rfl rfl rfl rfl rfl rfl hg.2.2.2.1
  have ht:=GR 2 hsi (g.upd hq (uj g.sp)) h1 (r:=[]) (by simp)
  refine⟨⟨ht.rc,ht.gn,ht.rk,ht.su,ht.st,ht.wn,ht.si,λx hx=>?_⟩,by simp⟩
  rcases YR.1 hx with hx|hx
  .have hx':Ca s x:=by
    rw[iN] at hx;revert hx
    cases uI s
    .simp
    cases ltB 0 s.cR
    .exact LC h g h1 x
    simp
   exact hx'.mono ht.rc ht.su ht.wn
  exact ht.rd x hx
 simp only[cond_true,BW]
 refine⟨⟨rfl,rfl,rfl,rfl,rfl,aaF _,h.pay rfl rfl rfl rfl rfl rfl rfl rfl hg.2.2.2.1,by simp⟩,λx hx=>?_⟩
 obtain⟨c,_,rfl⟩:=ZQ.1 hx
 rfl
theorem MP.key {nc i:Nat} {d:aw} {s:ae} {a:av} (h:MP nc i d s a):d.cZ.eR=s.be.eR:=by
 have:=h.ids
 simp only[Fm,v0,eqB_t] at this
 exact this.2
theorem Ql {n:ab} (h:PI n) {i:Nat} {d:aw} {s:ae} {a:av} (hd:n.ah[i]?=some d) (hs:n.aj[i]?=some s) (ha:n.aB[i]?=some a) {r:bT} (st:C5 d s a r):PI (rN n i r):=by
 have hi:=(YP.1 hs).1
 have hm:=h.setM hd hs st.mo (a':=a) st.si
 rw[fk hd,fk ha] at hm
 refine PI.sends _ hm λf hf x y hx hy=>?_
 obtain⟨m,hm',rfl⟩:=ZQ.1 hf
 simp only[b9,aaH] at hx hy
 have e1:(n.aj.set i r.az)[i]?=some r.az:=by simp[hi]
 rw[e1] at hy;rw[hd] at hx
 cases hx;cases hy
 exact⟨λh1 _=>by simp[b9] at h1,λ_ h1=>by simp[b9] at h1,λ_ _ h3=>.inl (st.sg m hm' h3)⟩
theorem Ky {n:ab} (h:PI n) {i:Nat} {d:aw} {s:ae} {a:av} (hd:n.ah[i]?=some d) (hs:n.aj[i]?=some s) (ha:n.aB[i]?=some a) {t:bZ} (st:TrS d s a t.az t.cy t.b6) (hp:∀x∈t.eW,x.aS=7):PI (fS n i t):=by
 have hi:=(YP.1 hs).1
 have hm:=h.setM hd hs st.mo st.si
 rw[fk hd] at hm
 have e1:(n.aj.set i t.az)[i]?=some t.az:=by simp[hi]
 have hpg:=PI.sends (t.eW.map (b9 i false)) hm λf hf x y hx hy=>by
  obtain⟨m,hm',rfl⟩:=ZQ.1 hf
  have hk:=hp m hm'
  exact⟨λh1 _=>by simp[b9] at h1,λ_ h1=>by simp[b9] at h1,λ_ _ h3=>by simp only[b9] at h3;omega⟩
 have hkeep:=cU (t.eW.map (b9 i false)) {n with aj:=n.aj.set i t.az,aB:=n.aB.set i t.cy}
 refine PI.sends _ hpg λf hf x y hx hy=>?_
 obtain⟨m,hm',rfl⟩:=ZQ.1 hf
 rw[hkeep.2.1] at hy
 simp only[lL,aaH] at hy
 rw[e1] at hy;cases hy
 exact⟨λh1=>by simp[lL] at h1,λ_ _=>.inl (st.rd m hm'),λ_ h1=>by simp[lL] at h1⟩
theorem Ld:∀(c i:Nat) {B:Int} {n:ab},NP B n->B+c<4611686018427387904->PI n->PI (dT c i n)
 |0,_,_,_,_,_,h=>h
 |c+1,i,B,n,hn,hB,h=>by
  rw[dT]
  cases hd:n.ah[i]? with
  |none=>exact h
  |some d=>
   obtain⟨d',s,a,e1,e2,e3,hm⟩:=hn.at_ (YP.1 hd).1
   rw[hd] at e1;cases e1
   exact Ld c (i+1) (kh hn hd (mX d) (wg hm.dp) hm.dc oaa) oaa (qK h hd e2 e3 (Dv (h.si i d s a hd e2 e3)))
theorem Li:∀(c i:Nat) {B:Int} {n:ab},NP B n->B+2000*c<4611686018427387904->PI n->PI (eL c i n)
 |0,_,_,_,_,_,h=>h
 |c+1,i,B,n,hn,hB,h=>by
  rw[eL]
  cases hs:n.aj[i]? with
  |none=>exact h
  |some s=>cases ha:n.aB[i]? with
   |none=>exact h
   |some a=>
    have hls:=hn.ls
    have hml:=iw hn.map
    obtain⟨d,s',a',e1,e2,e3,hm⟩:=hn.at_ (i:=i) (by have:=(YP.1 hs).1;omega)
    rw[hs] at e2;rw[ha] at e3;cases e2;cases e3
    have ht:=Br (h.si i d s a e1 hs ha) hm.sg n.bX
    exact Li c (i+1) (Ad hn hs ha (me hm.sg oaa) (xc hm.sg hn.map) oaa) oaa (Ky h e1 hs ha ht.1 ht.2)
theorem Ro {n:ab} (h:PI n) (k:Nat):PI (d7 n k):=⟨h.si,λf hf=>h.fi f (by
 simp only[d7,YR] at hf
 rcases hf with hf|hf
 .exact Y9 hf
 exact aby hf)⟩
theorem uO {B:Int} {n:ab} (hn:NP B n) (h:PI n) (k:Nat):PI (dJ n k):=by
 rw[dJ]
 cases hf:n.aA[k]? with
 |none=>exact h
 |some f=>
  have hfm:=YS hf
  have hp:=hn.fs f hfm
  have h1:=Ro h k
  have hdd:=hp.d
  obtain⟨d,s,a,e1,e2,e3,hm⟩:=hn.at_ (i:=f.aJ.toNat) oaa
  have hfi:=h.fi f hfm d s e1 e2
  have hsi:=h.si _ d s a e1 e2 e3
  have q1:(d7 n k).ah[f.aJ.toNat]?=some d:=e1
  have q2:(d7 n k).aj[f.aJ.toNat]?=some s:=e2
  have q3:(d7 n k).aB[f.aJ.toNat]?=some a:=e3
  simp only
  cases tA (d7 n k) f.aE
  .exact⟨h1.si,h1.fi⟩
  simp only[q1,q2,au]
  cases hu:f.dS
  .simp only[cond_false]
   cases eqB d.aE f.aE
   .exact⟨h1.si,h1.fi⟩
   simp only[au]
   cases hr:f.bW
   .exact qK h1 q1 q2 q3 (NF hsi hm.key (pK hm.sg.sp.rcd).2 (λe=>hfi.dn hu hr e))
   exact qK h1 q1 q2 q3 (NE hsi (lM.1 hm.dp.rc.v) hm.sg.sp hm.sg.b1 (hfi.rd hu hr))
  simp only[cond_true]
  cases hr:f.bW||!eqB f.aM.aE f.aE
  .simp only[cond_false]
   simp only[Y2] at hr
   exact Ql h1 q1 q2 q3 (T1 hsi hm.sg (λe=>hfi.up hu hr.1 e))
  exact h1
theorem Vs {d:aw} {s:ae} {f:a9} (h:(bif f.bW then f.dS||Vu d f.b6 else bif f.dS then hUp s f.aM else Ga d f.aM)=true):FI d s f:=by
 refine⟨λh1 h2 h3=>?_,λh1 h2=>?_,λh1 h2 h3=>?_⟩
 .rw[h2,h1] at h
  simp only[hUp,h3,show eqB 8 3=false from by simp[eqB],aQ,abC,au] at h
  right
  rcases Y6 _ _ |>.mp h with q|q
  .exact .inl (ko q)
  rw[v0] at q;exact .inr ⟨fx q.1,by simpa using q.2⟩
 .rw[h2,h1] at h
  simp only[cond_true,Zk,Vu] at h
  right
  rcases Y6 _ _ |>.mp h with q|q
  .exact .inl (ko q)
  rw[v0] at q;exact .inr ⟨fx q.1,by simpa using q.2⟩
 rw[h2,h1] at h
 simp only[Ga,h3,aQ,au] at h
 right
 rcases Y6 _ _ |>.mp h with q|q
 .exact .inl (fx q)
 exact .inr (fx q)
theorem PI.same {n n':ab} (h:PI n) (h1:n'.ah=n.ah) (h2:n'.aj=n.aj) (h3:n'.aB=n.aB) (h4:∀f∈n'.aA,f∈n.aA):PI n':=
 ⟨by rw[h1,h2,h3];exact h.si,λf hf=>by rw[h1,h2];exact h.fi f (h4 f hf)⟩
theorem X7 {B:Int} {n:ab} (hn:NP B n) (h:PI n) (e:cr):PI (wX n e).2:=by
 rw[wX]
 cases inR e.bR 0 ((n.ah.length:Int)-1)
 .exact h
 simp only[au]
 cases hd:n.ah[e.bR.toNat]? with
 |none=>exact h
 |some d=>
  obtain⟨d',s,a,e1,e2,e3,hm⟩:=hn.at_ (YP.1 hd).1
  rw[hd] at e1;cases e1
  have hsi:=h.si _ d s a hd e2 e3
  simp only[e2]
  cases eqB e.aS 5
  .simp only[cond_false]
   cases eqB e.aS 6
   .simp only[cond_false]
    cases eqB e.aS 7
    .simp only[cond_false]
     cases(mS s e.a8).2
     .exact h
     have st:=GM hsi hm.sg e.a8
     have hm':=h.setM hd e2 st.mo (a':=a) st.si
     rw[fk hd,fk e3] at hm'
     exact hm'
    simp only[cond_true]
    cases eqB d.aG 2
    .exact h
    have st:=N1 hsi
    have hm':=h.setM hd e2 st.2 (a':=a) st.1
    rw[fk e2,fk e3] at hm'
    exact hm'
   simp only[cond_true]
   cases eqB e.aE d.aE||!ew n.bX e.aE
   .exact qK h hd e2 e3 (JB hsi e.aE)
   exact h
  simp only[cond_true]
  cases eqB d.aG 0
  .exact h
  exact qK h hd e2 e3 (Ry hsi)
theorem QC {B:Int} {n:ab} (hn:NP B n) (h:PI n) (k:Int) (up:Bool):PI (kE n k up).2:=by
 rw[kE]
 cases !inR k 0 (n.eD.hP-1)||(booB (uB n.eD k) up||eqB (kF n.eD k up).f7 0)
 .simp only[cond_false]
  have key:∀(i:Nat) d s' a,n.ah[i]?=some d->(vE n.eD (kF n.eD k up) n.aj.length 0 n.aj)[i]?=some s'->n.aB[i]?=some a->∃s,n.aj[i]?=some s/\SI d s' a/\sa d s d s':=by
   intro i d s' a hd hs ha
   rcases mI n.eD (kF n.eD k up) n.aj.length 0 n.aj i with q|⟨t,q1,q2⟩
   .rw[q] at hs;exact⟨s',hs,h.si i d s' a hd hs ha,sa.refl d s'⟩
   rw[q2] at hs;cases hs
   have hm:=hn.m i d t a hd q1 ha
   have st:=EA (h.si i d t a hd q1 ha) hm.sg
   exact⟨t,q1,st.si,st.mo⟩
  refine⟨λi d s' a hd hs ha=>?_,λf hf d s' hd hs=>?_⟩
  .obtain⟨s,_,g,_⟩:=key i d s' a hd hs ha;exact g
  obtain⟨d',t,a,e1,e2,e3,hm⟩:=hn.at_ (i:=f.aJ.toNat) (YP.1 hd).1
  obtain⟨s,g1,_,g2⟩:=key _ d s' a hd hs e3
  exact(h.fi f hf d s hd g1).mono g2
 exact h
theorem De {B:Int} {n:ab} (hn:NP B n) (hB:B+10000<4611686018427387904) (h:PI n) {e:cr} (he:EP e) (hh:zw n e=true):PI (dZ n e).2:=by
 rw[dZ]
 split
 .rw[iA]
  cases hb:leB 100000 n.gZ
  .simp only[cond_false]
   have hb:=tD hb
   have hl:=hn.ld
   have hnw:=hn.nw
   have h1:NP B {n with gZ:=n.gZ+1}:={hn with nw:=by simp only;omega}
   have p1:PI {n with gZ:=n.gZ+1}:=h.same rfl rfl rfl (λf hf=>hf)
   have p2:=Ld n.ah.length 0 h1 oaa p1
   have hnp:∀(c i:Nat) {B:Int} {n:ab},NP B n->B+c<4611686018427387904->NP (B+c) (dT c i n):=by
    intro c
    induction c with
    |zero=>intro i B n hn _;simpa [dT] using hn
    |succ c ih=>
     intro i B n hn hB
     rw[dT]
     cases hd:n.ah[i]? with
     |none=>exact hn.mono oaa
     |some d=>
      obtain⟨d',s,a,e1,e2,e3,hm⟩:=hn.at_ (YP.1 hd).1
      rw[hd] at e1;cases e1
      exact(ih (i+1) (kh hn hd (mX d) (wg hm.dp) hm.dc oaa) oaa).mono oaa
   have h2:=hnp n.ah.length 0 h1 oaa
   have hls:=h2.ls
   have hl2:=h2.ld
   exact Li _ 0 h2 oaa p2
  exact h
 split
 .rw[oW]
  cases inR e.bR 0 ((n.aA.length:Int)-1)
  .exact h
  simp only[au]
  cases eqB e.aS 2
  .simp only[cond_false]
   cases eqB e.aS 3
   .simp only[cond_false]
    cases leB 200 (n.aA.length:Int)
    .simp only[cond_false]
     cases hf:n.aA[e.bR.toNat]? with
     |none=>exact h
     |some f=>exact h.send (h.fi f (YS hf))
    exact h
   exact(Ro h _).same rfl rfl rfl (λf hf=>hf)
  exact uO hn h _
 split
 .exact X7 hn h e
 split
 .rw[yl];cases !ew n.bX e.bR||booB (tA n e.bR) (eqB e.aS 10)
  .exact h.same rfl rfl rfl (λf hf=>hf)
  exact h
 split
 .exact QC hn h _ _
 split
 .rename_i h13
  rw[tG];cases hp:Ac n e.dK
  .exact h
  refine h.send λd s hd hs=>?_
  rw[zw,h13,hp] at hh
  simp only[aQ,Z0,Zk,Y6,Zh,decide_eq_true_eq] at hh
  rcases hh with⟨f,hf,rfl⟩|hh
  .exact h.fi _ hf d s hd hs
  rw[Xz,hd,hs] at hh
  exact Vs hh
 exact h
theorem XX {m:aU} {rs:List aP} {p:bz} {b:Int} (hv:s7 rs=true):PI (gH m rs p b rs.length):=by
 refine⟨λi d s a hd hs ha=>?_,λf hf=>by simp[gH] at hf⟩
 obtain⟨hk,rfl⟩:=pE hd
 obtain⟨_,rfl⟩:=pE hs
 obtain⟨_,rfl⟩:=pE ha
 simp only[s7,v0,eb] at hv
 have hr:=hv.1 i _ (YO hk)
 simp only[BU,v0] at hr
 have hq:=pK hr.1
 have hg:rs.getD i default=rs[i]:=HM (YO hk)
 refine⟨aaF _,?_,λe=>?_,λe=>?_,?_,λe=>?_,λe=>?_,?_,λe=>?_,?_,?_,?_,?_,?_,?_⟩
 .simp only[lh];rw[hg];exact hq.1
 .simp[lh] at e
 .simp[lh] at e
 .simp only[lh];rw[hg];exact hq.1
 .simp[lh] at e
 .simp[lh] at e
 .simp only[pb];rw[hg];exact hq.1
 .simp[pb] at e
 .simp[pb]
 .simp[pb]
 .simp[pb,lh]
 .simp[lh]
 .simp[cf,lh,pb]
 simp[cf,lh,xL,dX]
theorem mV.pi:∀{k:Nat} {n:ab},mV k n->k<=1000000->PI n
 |_,_,.new h hm hp hl _,_=>XX h.2.2
 |_,_,.step h he hh,hk=>De (h.np oaa) oaa (h.pi oaa) he hh
theorem T4 {a b:List Int} (ha:okB a) (hb:okB b):KT a b=decide (a=b):=Wi ha hb
def Ek (d:aw) (s:ae):Bool:=decide (d.aT.bj<+:s.ax)
theorem TF {xs ys:List bm} (hx:∀p∈xs,okB p.a8) (hy:∀p∈ys,okB p.a8) (hl:xs.length<=1000):sB xs ys=some (decide (xs<+:ys)):=by
 rw[sB]
 cases hb:ltB (ys.length:Int) (xs.length:Int)
 .have hb:=nO hb
  have:=jW (L:=mZ xs ys) xs (λk x=>decide (ys[k]?=some x)) (some true) oaa (λk x hx' hk=>by
   obtain⟨y,hy'⟩:∃y,ys[k]?=some y:=⟨_,YO oaa⟩
   simp only[mZ,dm hk,bk,hx',hy',WL,T4 (hx x (YS hx')) (hy y (YS hy')),cp (show k<9223372036854775807 by omega),dn,au]
   have e:decide (x.a8=y.a8)=decide (some y=some x):=by
    obtain⟨x⟩:=x;obtain⟨y⟩:=y
    simp only[Option.some.injEq,bm.mk.injEq]
    exact decide_eq_decide.2 ⟨Eq.symm,Eq.symm⟩
   rw[e]
   cases decide (some y=some x)<;>rfl) (by simp only[mZ,bB,cond_false])
  rw[cond_false,this]
  have e:fZ (λk x=>decide (ys[k]?=some x)) xs=decide (xs<+:ys):=by
   rw[aaJ,eb,decide_eq_true_eq,List.prefix_iff_eq_take]
   constructor
   .intro h
    apply aaQ
    intro k
    by_cases hk:k<xs.length
    .have:=h k _ (YO hk)
     rw[decide_eq_true_eq] at this
     rw[Za,if_pos hk,this,YO hk]
    rw[aaN oaa,aaN (by simp;omega)]
   intro h k x hk
   rw[decide_eq_true_eq]
   have hlt:=(YP.1 hk).1
   rw[h,Za,if_pos hlt] at hk;exact hk
  rw[e];cases decide (xs<+:ys)<;>rfl
 have hb:=ko hb
 have:¬xs<+:ys:=λh=>by have:=h.length_le;omega
 rw[decide_eq_false this];rfl
theorem Ku:∀(c k fu:Nat) (l:List bm) (v:Int),l.length<=1000->k+c=l.length->c<fu->0<=v->v+60*c<=1000000->(∀p∈l,p.a8.length<=60)->iter (jj l) fu (v,(k:Int))=some (v+((l.drop k).map λp=>(p.a8.length:Int)).sum)
 |0,k,fu,l,v,h6,h1,h2,h3,h4,h5=>by
  cases fu with
  |zero=>omega
  |succ fu=>
   rw[iter]
   simp only[jj,ltB_f.2 (show(l.length:Int)<=(k:Int) by omega),cond_false]
   rw[abD oaa];simp
 |c+1,k,fu,l,v,h6,h1,h2,h3,h4,h5=>by
  cases fu with
  |zero=>omega
  |succ fu=>
   obtain⟨x,hx⟩:∃x,l[k]?=some x:=⟨_,YO oaa⟩
   have hxl:=h5 x (YS hx)
   rw[iter]
   simp only[jj,dm (show k<l.length by omega),bk,hx,cp (show k<9223372036854775807 by omega),bP (n:=v+(x.a8.length:Int)) oaa,au]
   rw[Ku c (k+1) fu l _ h6 oaa oaa oaa oaa h5,ZD (show k<l.length by omega)]
   have:l[k]=x:=by have:=YO (show k<l.length by omega);rw[hx] at this;exact(Option.some.inj this).symm
   rw[this];simp only[Ze,abx];congr 1;omega
theorem U1 {s:ae} (h:SP s) (k:Int):oN s k=some (dX s.ax k.toNat):=by
 have hl:=h.sl
 rw[oN,SW]
 simp only[aaE,Ol]
 obtain⟨m,hm,hm2,hm3⟩:∃m:Nat,lK (wW k 0) (s.ax.length:Int)=(m:Int)/\m<=s.ax.length/\s.ax.take m=s.ax.take k.toNat:=by
  refine⟨min k.toNat s.ax.length,?_,Nat.min_le_right _ _,?_⟩
  .unfold lK wW;split<;>split<;>omega
  rw[List.take_eq_take_min (i:=k.toNat)]
 rw[hm,show it s.ax 0 (m:Int)=true by simp[it];omega]
 simp only[cond_true,aaH,tz]
 have:=Ku (s.ax.take m).length 0 FU (s.ax.take m) 0 (by simp;omega) oaa (by have:=kj;simp;omega) oaa (by simp;omega) (λp hp=>h.sd p (Y9 hp))
 rw[show iter (jj (s.ax.take m)) FU (0,0)=_ from this]
 simp only[aaE,List.drop_zero,dX,hm3];congr 1;omega
section
variable {B:Int} {n:ab} (h:NP B n) {i:Nat} {d:aw} {s:ae} {a:av} (hd:n.ah[i]?=some d) (hs:n.aj[i]?=some s) (ha:n.aB[i]?=some a)
include h hd hs ha
omit hs ha in
theorem Sl:ov n (i:Int)=some true/\px n (i:Int)=some true:=by
 have h1:=h.ls
 have h2:=h.la
 have h3:=h.ld
 have hi:=(YP.1 hd).1
 simp only[ov,px,gj,bP (n:=(n.ah.length:Int)-1) oaa,bP (n:=(n.aj.length:Int)-1) oaa,bP (n:=(n.aB.length:Int)-1) oaa,bu.2 (show(0:Int)<=(i:Int)/\(i:Int)<=(n.ah.length:Int)-1 by omega),bu.2 (show(0:Int)<=(i:Int)/\(i:Int)<=(n.aj.length:Int)-1 by omega),bu.2 (show(0:Int)<=(i:Int)/\(i:Int)<=(n.aB.length:Int)-1 by omega),au]
 exact⟨trivial,trivial⟩
theorem VR:kw n (i:Int)=some (Ek d s):=by
 obtain⟨e1,e2⟩:=Sl h hd
 have hm:=h.m i d s a hd hs ha
 have hr:=lM.1 hm.dp.rc.v
 simp only[kw,e1,bk,hd,hs,TF hm.dp.rc.b2 hm.sg.b1 (by have:=hr.l;omega),Ek,au]
theorem Pq:oO n (i:Int)=some (a.dW+s.bC.d4):=by
 obtain⟨e1,e2⟩:=Sl h hd
 have hm:=h.m i d s a hd hs ha
 have q1:=hm.sg.mo.acc.s
 have q2:=hm.sg.mo.acc.t
 have q3:=hm.sg.sp.q
 have q4:=q3.u
 have q5:=q3.g
 have q6:=q3.m
 simp only[oO,e2,bk,ha,hs,bP (n:=a.dW+s.bC.d4) oaa,au]
theorem Hl:fD s=some (cf s.aq):=by
 have hm:=h.m i d s a hd hs ha
 have hn:=hm.sg.sp.win.n
 have hl:=hm.sg.sp.win.l
 rw[fD,bP (n:=s.aq.bb-1) oaa,bP oaa];rfl
theorem X4:iZ n (i:Int)=some (eqB (a.dW+s.bC.d4) (dX s.ax (cf s.aq).toNat)):=by
 obtain⟨e1,e2⟩:=Sl h hd
 have hm:=h.m i d s a hd hs ha
 simp only[iZ,e2,Pq h hd hs ha,Hl h hd hs ha,U1 hm.sg.sp,bk,hs,au]
theorem Wx:fM n (i:Int)=some (leB (cf s.aq) (d.aT.bj.length:Int)):=by
 obtain⟨e1,e2⟩:=Sl h hd
 simp only[fM,e1,Hl h hd hs ha,bk,hs,hd,au]
end
def Rc (n:ab) (i:Nat) (d:aw):Bool:=match n.aj[i]?,n.aB[i]? with
 |some s,some a=>Ek d s&&(eqB (a.dW+s.bC.d4) (dX s.ax (cf s.aq).toNat)&&leB (cf s.aq) (d.aT.bj.length:Int))
 |_,_=>true
theorem Rd {B:Int} {n:ab} (h:NP B n):DL n=some (fZ (Rc n) n.ah):=by
 have hl:=h.ld
 simp only[DL,Bi h.okN,h.vn,au]
 have:=jW (L:=xq n) n.ah (Rc n) (some true) oaa (λk d hd hk=>by
  obtain⟨d',s,a,e1,e2,e3,hm⟩:=h.at_ hk
  rw[hd] at e1;cases e1
  simp only[xq,dm hk,VR h hd e2 e3,X4 h hd e2 e3,Wx h hd e2 e3,cp (show k<9223372036854775807 by omega),Rc,e2,e3,au]
  cases Ek d s<;>cases eqB (a.dW+s.bC.d4) (dX s.ax (cf s.aq).toNat)<;>cases leB (cf s.aq) (d.aT.bj.length:Int)<;>rfl) (by simp only[xq,bB,cond_false])
 rw[this]
 cases fZ (Rc n) n.ah<;>rfl
theorem Re {B:Int} {n:ab} (h:NP B n) (p:PI n):DL n=some true:=by
 rw[Rd h]
 congr 1
 refine eb.2 λi d hd=>?_
 obtain⟨d',s,a,e1,e2,e3,hm⟩:=h.at_ (YP.1 hd).1
 rw[hd] at e1;cases e1
 have si:=p.si i d s a hd e2 e3
 have hr:=lM.1 hm.dp.rc.v
 have hak:=si.ak
 have hn:=hr.n
 simp only[Rc,e2,e3,Ek,v0,decide_eq_true_eq,eqB_t,leB_t]
 exact⟨si.pr,si.ch,by omega⟩
def jo (k:Int):Nat:=if k=1 then 4 else if k=2\/k=7 then 3 else if k=3\/k=5 then 2 else 1
def wf (f:a9):Nat:=if f.bW then 2 else jo f.aM.aS
def mT (l:List a9):Nat:=(l.map wf).sum
theorem wk_in (k:Int):1<=jo k/\jo k<=4:=by unfold jo;split;omega;split;omega;split<;>omega
theorem UK (f:a9):1<=wf f/\wf f<=4:=by
 unfold wf;split
 .omega
 exact wk_in _
theorem E5 (a b:List a9):mT (a++b)=mT a+mT b:=by simp[mT]
theorem Qc (n:ab) (f:a9):mT (dP n f).aA<=mT n.aA+wf f:=by
 rw[dP]
 cases leB 200 (n.aA.length:Int)
 .simp only[cond_false];rw[E5];simp[mT]
 simp only[cond_true];omega
theorem CR:∀(l:List a9) (n:ab),mT (sends n l).aA<=mT n.aA+mT l
 |[],n=>by simp[sends,mT]
 |f::l,n=>by
  have h1:=Qc n f
  have h2:=CR l (dP n f)
  have e:mT (f::l)=wf f+mT l:=by simp[mT]
  rw[show sends n (f::l)=sends (dP n f) l from rfl,e];omega
theorem cut_w {n:ab} {k:Nat} {f:a9} (hf:n.aA[k]?=some f):mT (d7 n k).aA+wf f=mT n.aA:=by
 obtain⟨hk,e⟩:=YP.1 hf
 have h:n.aA=n.aA.take k++f::n.aA.drop (k+1):=by
  rw[<-e,<-ZD hk,aau]
 have h2:mT n.aA=mT (n.aA.take k)+(wf f+mT (n.aA.drop (k+1))):=by
  conv=>lhs;rw[h]
  rw[E5];simp[mT]
 simp only[d7];rw[E5,h2];omega
theorem Ts {l:List aR} {i:Int} {up:Bool} {b:Nat} (hl:l.length<=1) (h:∀m∈l,jo m.aS<=b):mT (l.map (b9 i up))<=b:=by
 rcases l with _|⟨m,_|⟨x,l⟩⟩
 .exact Y0 _
 .have h1:=h m (by simp)
  have h2:mT (List.map (b9 i up) [m])=jo m.aS:=by
   show wf (b9 i up m)+0=_
   rw[Nat.add_zero,wf,if_neg (by simp[b9])];rfl
  rw[h2];exact h1
 simp at hl
theorem Rw {d:aw}:∀x∈(km d).bL,jo x.aS<=2:=by simp[km,eC,kG,jo]
theorem Xn (d:aw) (m:aR):∀x∈(ia d m).bL,jo x.aS+1<=jo m.aS:=by
 rw[ia]
 cases !ey m||(!eqB m.aE d.aE||eqB d.aG 0)
 .simp only[cond_false]
  cases h2:eqB m.aS 2&&eqB d.aG 1
  .simp only[cond_false]
   cases eqB m.aS 4&&(eqB d.aG 1&&(mf d.aV&&(eqB m.ag d.ag&&lN d.aV m)))
   .simp only[cond_false]
    cases eqB m.aS 6&&(eqB d.aG 2&&(eqB m.ag d.ag&&(eqB m.aF d.aF&&lN d.aV m)))
    .simp only[cond_false]
     cases h7:eqB m.aS 7&&(eqB d.aG 3&&ltB d.aF 999999)
     .simp only[cond_false]
      cases h8:eqB m.aS 7&&eqB d.aG 2
      .simp
      rw[v0] at h8
      intro x hx
      have:=Rw x hx
      have e:=fx h8.1
      rw[e,show jo 7=3 from by simp[jo]];omega
     rw[v0] at h7
     intro x hx
     have:=Rw x hx
     have e:=fx h7.1
     rw[e,show jo 7=3 from by simp[jo]];omega
    simp
   simp
  rw[v0] at h2
  have e:=fx h2.1
  simp only[cond_true,yA]
  cases eqB (jm d.cZ.eR d.cZ.df m.cO) 0
  .simp
  simp[jo,e]
 simp
theorem Xm (d:aw) (x:aK):∀m∈(js d x).bL,jo m.aS<=1:=by
 simp only[js]
 cases eqB d.aG 2&&(lE d.aV d.ag d.aF x).2
 .simp
 simp[qW,kG,jo]
theorem sUp_w (s:ae) (m:aR):∀x∈(sUp s m).bL,jo x.aS+1<=jo m.aS:=by
 rw[sUp]
 cases ey m
 .simp
 simp only[au]
 cases h1:eqB m.aS 1
 .cases h3:eqB m.aS 3
  .cases h5:eqB m.aS 5
   .cases h8:eqB m.aS 8
    .simp
    simp only[um,au]
    cases !f6 s m||ltB s.aq.bb m.bI<;>simp
   have e:=fx h5
   simp only[md,au]
   cases !f6 s m||(ltB m.aF s.aF||(eqB m.aF s.aF&&!eqB m.aE s.aE))
   .simp[jK,kG,jo,e]
   simp
  have e:=fx h3
  simp only[qk,au]
  cases leB s.bi 0||(!eqB m.ag s.bi||(!eqB m.bI s.aO.xW||leB 999999 s.aF))
  .simp[jK,kG,jo,e]
  simp
 have e:=fx h1
 simp only[cond_true,xT]
 cases eqB s.be.cQ 999999
 .simp[jo,e]
 simp
theorem Pz {n:ab} {k:Nat} (hk:k<n.aA.length):mT (dJ n k).aA+1<=mT n.aA:=by
 obtain⟨f,hf⟩:∃f,n.aA[k]?=some f:=⟨_,YO hk⟩
 have hc:=cut_w hf
 have hw:=UK f
 rw[dJ,hf]
 simp only
 cases tA (d7 n k) f.aE
 .simp only[H0,au];omega
 simp only[au]
 cases hu:f.dS
 .simp only[cond_false]
  cases hd:(d7 n k).ah[f.aJ.toNat]? with
  |none=>simp only;omega
  |some d=>
   simp only
   cases eqB d.aE f.aE
   .simp only[H0,au];omega
   simp only[au]
   cases hr:f.bW
   .have hwf:wf f=jo f.aM.aS:=by simp[wf,hr]
    simp only[cond_false,dM]
    have h1:=CR ((ia d f.aM).bL.map (b9 (f.aJ.toNat:Nat) true)) {d7 n k with ah:=(d7 n k).ah.set f.aJ.toNat (ia d f.aM).aJ}
    have h2:=Ts (i:=(f.aJ.toNat:Int)) (up:=true) (zm d f.aM).len (b:=jo f.aM.aS-1) (λm hm=>by have:=Xn d f.aM m hm;omega)
    simp only at h1;omega
   have hwf:wf f=2:=by simp[wf,hr]
   simp only[cond_true,dM]
   have h1:=CR ((js d f.b6).bL.map (b9 (f.aJ.toNat:Nat) true)) {d7 n k with ah:=(d7 n k).ah.set f.aJ.toNat (js d f.b6).aJ}
   have h2:=Ts (i:=(f.aJ.toNat:Int)) (up:=true) (zl d f.b6).len (b:=1) (Xm d f.b6)
   simp only at h1;omega
 simp only[cond_true]
 cases hr:f.bW||!eqB f.aM.aE f.aE
 .simp only[cond_false]
  simp only[Y2] at hr
  have hwf:wf f=jo f.aM.aS:=by simp[wf,hr.1]
  cases hs:(d7 n k).aj[f.aJ.toNat]? with
  |none=>simp only;omega
  |some s=>
   simp only[rN]
   have h1:=CR ((sUp s f.aM).bL.map (b9 (f.aJ.toNat:Nat) false)) {d7 n k with aj:=(d7 n k).aj.set f.aJ.toNat (sUp s f.aM).az}
   have h2:=Ts (i:=(f.aJ.toNat:Int)) (up:=false) (Is s f.aM).len (b:=jo f.aM.aS-1) (λm hm=>by have:=sUp_w s f.aM m hm;omega)
   simp only at h1;omega
 simp only[cond_true];omega
theorem Wy (l:List a9):mT l<=4*l.length:=by
 induction l with
 |nil=>simp[mT]
 |cons f l ih=>have:=(UK f).2;simp only[mT,Ze,abx,YY] at ih ⊢;omega
theorem BD {l:List bm}:∀{j k:Nat},j<=k->dX l j<=dX l k:=by
 intro j k h
 obtain⟨m,rfl⟩:∃m,k=j+m:=⟨k-j,by omega⟩
 clear h
 induction m with
 |zero=>exact aaF _
 |succ m ih=>
  refine abp ih ?_
  rw[<-ZB]
  by_cases hk:j+m<l.length
  .rw[wd (YO hk)];omega
  simp only[dX]
  rw[aar oaa,aar oaa];exact aaF _
theorem Pn (l:List bm) (k:Nat):0<=dX l k:=by
 have:=BD (l:=l) (Y0 k)
 simpa [dX] using this
structure Paid (d:aw) (s:ae) (a:av):Prop where
 le:d.aT.bj.length<=s.ax.length
 eq:s.ax.take d.aT.bj.length=d.aT.bj
 ch:a.dW+s.bC.d4<=dX s.ax d.aT.bj.length
 to:a.dW+s.bC.d4<=a.iz
structure Good (n:ab):Prop where
 np:∃B:Int,NP B n/\B<=100000000
 pi:PI n
 dl:1<=n.ah.length/\n.ah.length<=3
 re:∃k,mV k n/\k<=200
 ru:∃k,C4 k n/\k<=200
def kK:Nat->ab->ab
 |0,n=>n
 |c+1,n=>bif eqB (n.aA.length:Int) 0 then n else kK c (dJ n 0)
theorem UP {l:List a9} (h:l≠[]):1<=mT l:=by
 cases l with
 |nil=>exact absurd rfl h
 |cons f l=>have:=(UK f).1;simp only[mT,Ze,abx];omega
theorem Ds:∀(c:Nat) (n:ab),mT n.aA<=c->(kK c n).aA=[]
 |0,n,h=>by
  by_cases e:n.aA=[]
  .exact e
  have:=UP e;omega
 |c+1,n,h=>by
  rw[kK]
  cases hb:eqB (n.aA.length:Int) 0
  .have hb:=Cd hb
   have:=Pz (n:=n) (k:=0) oaa
   exact Ds c _ oaa
  have hb:=fx hb
  simp only[cond_true]
  exact Zl oaa
theorem HA:∀(c:Nat) {B:Int} {n:ab},NP B n->B+c<4611686018427387904->NP (B+c) (kK c n)
 |0,B,n,h,_=>by simpa [kK] using h
 |c+1,B,n,h,hB=>by
  rw[kK]
  cases eqB (n.aA.length:Int) 0
  .have:=HA c (mA h 0 oaa) oaa
   exact this.mono oaa
  exact h.mono oaa
theorem NC:∀(c:Nat) {B:Int} {n:ab},NP B n->B+c<4611686018427387904->PI n->PI (kK c n)
 |0,B,n,_,_,p=>p
 |c+1,B,n,h,hB,p=>by
  rw[kK]
  cases eqB (n.aA.length:Int) 0
  .exact NC c (mA h 0 oaa) oaa (uO h p 0)
  exact p
theorem BT {B:Int} {n:ab} (h:NP B n) {c:Nat} (hc:800<=c):(kK c n).aA=[]:=
 Ds c n (by have:=Wy n.aA;have:=h.fl;omega)
theorem Gu:∀(c k fu:Nat) (m:Nat) {B:Int} {n:ab},NP B n->B+c<4611686018427387904->k+c=m->m<=4000->c<fu->iter (ji (m:Int)) fu ((k:Int),n)=some (kK c n)
 |0,k,fu,m,B,n,h,hB,h1,h2,h3=>by
  cases fu with
  |zero=>omega
  |succ fu=>rw[iter];simp only[ji,ltB_f.2 (show(m:Int)<=(k:Int) by omega),kK,au]
 |c+1,k,fu,m,B,n,h,hB,h1,h2,h3=>by
  cases fu with
  |zero=>omega
  |succ fu=>
   rw[iter,kK]
   simp only[ji,ltB_t.2 (show(k:Int)<(m:Int) by omega),au]
   by_cases e:n.aA.length=0
   .rw[ltB_f.2 (show(n.aA.length:Int)<=0 by omega),eqB_t.2 (show(n.aA.length:Int)=0 by omega)];rfl
   rw[ltB_t.2 (show(0:Int)<(n.aA.length:Int) by omega),eqB_f.2 (show(n.aA.length:Int)≠0 by omega)]
   have hd:=FZ h (k:=0) oaa
   simp only[au]
   rw[show(0:Int)=((0:Nat):Int) from rfl,hd]
   simp only[aaE,cp (show k<9223372036854775807 by omega)]
   exact Gu c (k+1) fu m (mA h 0 oaa) oaa oaa h2 oaa
theorem VT {B:Int} {n:ab} (h:NP B n) (hB:B+4000<4611686018427387904):oU n 4000=some (kK 4000 n):=by
 have:=Gu 4000 0 FU 4000 h oaa oaa oaa (by have:=kj;omega)
 rw[oU,show iter (ji 4000) FU (0,n)=_ from this];rfl
def dN (n:ab):ab:=kK 4000 (iA n).2
def gW:Nat->ab->ab
 |0,n=>n
 |c+1,n=>gW c (dN n)
theorem PT {B:Int} {n:ab} (h:NP B n) (hB:B+14000<4611686018427387904):NP (B+14000) (dN n):=
 (HA 4000 (qN h oaa).2.2 oaa).mono oaa
theorem Ex:∀(c k fu:Nat) (m:Nat) {B:Int} {n:ab},NP B n->B+14000*c<4611686018427387904->k+c=m->m<=200->c<fu->iter (rp (m:Int)) fu ((k:Int),n)=some (gW c n)
 |0,k,fu,m,B,n,h,hB,h1,h2,h3=>by
  cases fu with
  |zero=>omega
  |succ fu=>rw[iter];simp only[rp,ltB_f.2 (show(m:Int)<=(k:Int) by omega),cond_false,gW]
 |c+1,k,fu,m,B,n,h,hB,h1,h2,h3=>by
  cases fu with
  |zero=>omega
  |succ fu=>
   have ht:=qN h oaa
   rw[iter,gW]
   simp only[rp,ltB_t.2 (show(k:Int)<(m:Int) by omega),ht.2.1,VT ht.2.2 oaa,cp (show k<9223372036854775807 by omega),au]
   exact Ex c (k+1) fu m (PT h oaa) oaa oaa h2 oaa
theorem KN {B:Int} {n:ab} (h:NP B n) {m:Nat} (hm:m<=200) (hB:B+14000*m<4611686018427387904):xt n (m:Int)=some (gW m n):=by
 have:=Ex m 0 FU m h hB oaa hm (by have:=kj;omega)
 simp only[xt,Tk h.okN,Bi h.okN,h.vn,gj,bu.2 (show(0:Int)<=(m:Int)/\(m:Int)<=200 by omega),au]
 rw[show iter (rp (m:Int)) FU (0,n)=_ from this];rfl
theorem D5 {α ρ:Type} {L:Int->Option (cK Int ρ)} (xs:List α) (f:ρ) {c:Option ρ} (hl:xs.length<=9223372036854775806)
 (hs:∀(k:Nat) (x:α),xs[k]?=some x->k<xs.length->L (k:Int)=some (.next ((k+1:Nat):Int))) (he:L (xs.length:Int)=dn c):iter L FU 0=c:=by
 have:=my (L:=L) xs (λ_ _=>true) f c hl (λk x hx hk=>by rw[hs k x hx hk];rfl) he
 rw[this,AJ];rfl
theorem EE {xs:List Int} (hl:xs.length<=1048576):u9 xs xs=some true:=by
 simp only[u9,aQ,au]
 exact D5 xs false oaa (λk x hx hk=>by
  simp only[tE,dm hk,bk,hx,aQ,cp (show k<9223372036854775807 by omega),au]) (by simp only[tE,bB,cond_false])
theorem Al {xs:List bm} (hl:xs.length<=1048576) (hd:∀p∈xs,p.a8.length<=1048576):ma xs xs=some true:=by
 simp only[ma,aQ,au]
 exact D5 xs false oaa (λk x hx hk=>by
  simp only[oA,dm hk,bk,hx,EE (hd x (YS hx)),cp (show k<9223372036854775807 by omega),au]) (by simp only[oA,bB,cond_false])
structure LI (K:Int) (d:aw) (s:ae):Prop where
 de:d.aF<=K
 se:s.aF<=K
 sd:s.ag<=d.ag
 cn:2<=d.aG->s.aG=1/\s.ag=d.ag/\0<d.ag/\s.aF<=d.aF
 cc:d.aG=2->s.aF=d.aF->s.aE=d.aE
 pc:d.aG=2->d.bM=true->s.aF=d.aF
def Nl (K:Int) (d:aw) (m:aR):Prop:=m.aF<=K/\(m.ag<d.ag\/(m.ag=d.ag/\2<=d.aG/\m.aF<=d.aF/\(d.aG=2->m.aF=d.aF->m.aE=d.aE)))
def Lz (d:aw) (m:aR):Prop:=m.ag<d.ag\/(m.ag=d.ag/\lN d.aV m=false)
def W6 (K:Int) (d:aw) (s:ae) (m:aR):Prop:=
 m.aF<=K/\0<m.ag/\(m.ag<s.ag\/(m.ag=s.ag/\s.aG=1/\(d.aG<=1->d.ag=s.ag->s.aF=m.aF/\s.aE=m.aE)))
def W7 (s:ae) (m:aR):Prop:=m.ag<s.ag\/(m.ag=s.ag/\m.aF<=s.aF)
def QX (s:ae) (m:aR):Prop:=m.ag<=s.be.cQ/\(0<s.bi->m.ag≠s.bi\/m.bI≠s.aO.xW)
structure LF (K:Int) (d:aw) (s:ae) (f:a9):Prop where
 pa:f.dS=true->f.bW=false->f.aM.aS=5->CZ s f.aM\/Nl K d f.aM
 re:f.dS=true->f.bW=false->f.aM.aS=3->QX s f.aM\/f.aM.ag<=d.ag
 ac:f.dS=false->f.bW=false->f.aM.aS=4->Lz d f.aM\/W6 K d s f.aM
 ka:f.dS=false->f.bW=false->f.aM.aS=6->Lz d f.aM\/W7 s f.aM
theorem LI.up {K K':Int} {d:aw} {s:ae} (h:LI K d s) (hk:K<=K'):LI K' d s:=⟨abp h.de hk,abp h.se hk,h.sd,h.cn,h.cc,h.pc⟩
theorem LF.up {K K':Int} {d:aw} {s:ae} {f:a9} (h:LF K d s f) (hk:K<=K'):LF K' d s f:=
 ⟨λa b c=>(h.pa a b c).imp_right λq=>⟨abp q.1 hk,q.2⟩,h.re,λa b c=>(h.ac a b c).imp_right λq=>⟨abp q.1 hk,q.2⟩,h.ka⟩
theorem CZ.mo {d d':aw} {s s':ae} {m:aR} (h:CZ s m) (mo:sa d s d' s'):CZ s' m:=by
 rcases mo.sg with g|⟨g1,g2⟩
 .left;rcases h with q|q<;>omega
 rcases h with q|q
 .left;omega
 right;rw[g1,g2];exact q
theorem Lz.mo {d d':aw} {s s':ae} {m:aR} (h:Lz d m) (mo:sa d s d' s'):Lz d' m:=by
 rcases mo.dg with g|⟨g1,g2⟩
 .left;rcases h with q|q<;>omega
 rcases h with q|q
 .left;omega
 right;rw[g1,g2];exact q
structure QT (d d':aw) (s:ae):Prop where
 mo:sa d s d' s
 pa:d.ag<d'.ag\/(2<=d.aG->2<=d'.aG/\d.aF<=d'.aF/\(d'.aG=2->d'.aF=d.aF->d.aG=2/\d'.aE=d.aE))
 ac:d'.aG<=1->d'.ag=s.ag->d.aG<=1/\d.ag=s.ag
theorem LF.dev {K:Int} {d d':aw} {s:ae} {f:a9} (h:LF K d s f) (k:QT d d' s):LF K d' s f:=by
 refine⟨λa b c=>(h.pa a b c).imp_right λq=>?_,λa b c=>(h.re a b c).imp_right λq=>?_,λa b c=>?_,λa b c=>(h.ka a b c).imp_left λq=>q.mo k.mo⟩
 .refine⟨q.1,?_⟩
  rcases k.pa with g|g
  .left;rcases q.2 with q|q<;>omega
  rcases k.mo.dg with e|⟨e1,e2⟩
  .left;rcases q.2 with q|q<;>omega
  rcases q.2 with q|⟨q1,q2,q3,q4⟩
  .left;omega
  right;obtain⟨g1,g2,g3⟩:=g q2
  exact⟨by omega,g1,by omega,λx y=>by
   obtain⟨z1,z2⟩:=g3 x oaa
   rw[z2];exact q4 z1 oaa⟩
 .rcases k.mo.dg with e|⟨e1,e2⟩<;>omega
 rcases h.ac a b c with q|q
 .exact .inl (q.mo k.mo)
 right
 refine⟨q.1,q.2.1,q.2.2.imp_right λr=>⟨r.1,r.2.1,λx y=>?_⟩⟩
 have:=k.ac x y
 exact r.2.2 this.1 this.2
structure UU (d:aw) (s s':ae):Prop where
 mo:sa d s d s'
 ac:s.ag<s'.ag\/(s'.ag=s.ag/\(s.aG=1->s'.aG=1)/\s.aF<=s'.aF/\(d.aG<=1->d.ag=s.ag->s'.aF=s.aF/\s'.aE=s.aE))
 rb:0<s'.bi->s.be.cQ<s'.bi\/(s'.bi=s.bi/\s'.aO=s.aO)
theorem LF.ses {K:Int} {d:aw} {s s':ae} {f:a9} (h:LF K d s f) (k:UU d s s'):LF K d s' f:=by
 refine⟨λa b c=>(h.pa a b c).imp_left λq=>q.mo k.mo,λa b c=>(h.re a b c).imp_left λq=>?_,λa b c=>(h.ac a b c).imp_right λq=>⟨q.1,q.2.1,?_⟩,λa b c=>(h.ka a b c).imp_right λq=>?_⟩
 .refine⟨abp q.1 k.mo.rs,λhp=>?_⟩
  rcases k.rb hp with g|⟨g1,g2⟩
  .left;have:=q.1;omega
  rw[g1,g2];exact q.2 oaa
 .rcases k.ac with g|⟨g1,g2,g4,g3⟩
  .left;rcases q.2.2 with q|q<;>omega
  rcases q.2.2 with q|⟨q1,q2,q3⟩
  .left;omega
  right;exact⟨by omega,g2 q2,λx y=>⟨(g3 x oaa).1.trans (q3 x oaa).1,(g3 x oaa).2.trans (q3 x oaa).2⟩⟩
 rcases k.ac with g|⟨g1,g2,g4,g3⟩
 .left;rcases q with q|q<;>omega
 rcases q with q|q
 .left;omega
 right;omega
structure B9 (K:Int) (d:aw) (s:ae) (r:bg):Prop where
 li:LI (K+1) r.aJ s
 k:QT d r.aJ s
 sg:∀m∈r.bL,(m.aS=5->Nl (K+1) r.aJ m)/\(m.aS=3->m.ag<=r.aJ.ag)
section
variable {K:Int} {d:aw} {s:ae} {a:av}
theorem QT.keep {d':aw} (mo:sa d s d' s) (h1:d'.aG=d.aG) (h2:d'.aF=d.aF) (h3:d'.ag=d.ag) (h4:d.aG=2->d'.aE=d.aE):QT d d' s:=
 ⟨mo,.inr λh=>⟨by omega,by omega,λx _=>⟨by omega,h4 oaa⟩⟩,λh e=>⟨by omega,by omega⟩⟩
theorem LI.keepD {d':aw} (h:LI K d s) (h1:d'.aG=d.aG) (h2:d'.aF=d.aF) (h3:d'.ag=d.ag) (h4:d.aG=2->d'.aE=d.aE) (h5:d'.bM=true->d.bM=true):LI K d' s:=
 ⟨by rw[h2];exact h.de,h.se,by rw[h3];exact h.sd,λe=>by rw[h2,h3];exact h.cn oaa,λe x=>by rw[h4 oaa];exact h.cc oaa oaa,λe x=>by rw[h2];exact h.pc oaa (h5 x)⟩
variable (h:LI K d s) (si:SI d s a)
include h si
omit si in
theorem oy {r:bg} (mo:sa d s r.aJ s) (h1:r.aJ.aG=d.aG) (h2:r.aJ.aF=d.aF) (h3:r.aJ.ag=d.ag) (h4:d.aG=2->r.aJ.aE=d.aE) (h5:r.aJ.bM=true->d.bM=true) (hs:∀m∈r.bL,m.aS≠3/\(m.aS=5->2<=d.aG/\m.ag=d.ag/\m.aF=d.aF/\m.aE=r.aJ.aE)):B9 K d s r:=
 ⟨(h.keepD h1 h2 h3 h4 h5).up oaa,.keep mo h1 h2 h3 h4,λm hm=>⟨λe=>by
  obtain⟨q1,q2,q3,q4⟩:=(hs m hm).2 e
  have:=h.de
  exact⟨by omega,.inr ⟨by omega,by omega,by omega,λ_ _=>q4⟩⟩,λe=>absurd e (hs m hm).1⟩⟩
omit si in
theorem mO:B9 K d s ⟨d,[]⟩:=oy h (sa.refl d s) rfl rfl rfl (λ_=>rfl) (λx=>x) (by simp)
theorem Q8 (h2:2<=d.aG):B9 K d s (km d):=oy h (Dc si rfl rfl rfl rfl).mo rfl rfl rfl (λ_=>rfl) (λx=>by simp[km] at x) (by simp[km,eC,kG];exact h2)
theorem Gr {c st:Int} (h2:2<=d.aG) (hst:2<=st):B9 K d s (km {d with aG:=st,aE:=c,aF:=d.aF+1}):=by
 have hc:=h.cn h2
 have hde:=h.de
 refine⟨⟨by simp only[km];omega,by have:=h.se;omega,h.sd,λ_=>⟨hc.1,hc.2.1,hc.2.2.1,by simp only[km];omega⟩,λ_ x=>by simp only[km] at x;omega,λ_ x=>by simp[km] at x⟩,⟨(Dc (d':={d with aG:=st,aE:=c,aF:=d.aF+1}) si rfl rfl rfl rfl).mo,.inr λ_=>⟨hst,by simp only[km];omega,λ_ x=>by simp only[km] at x;omega⟩,λe=>by simp only[km] at e;omega⟩,λm hm=>?_⟩
 simp only[km,ZS] at hm;subst hm
 exact⟨λ_=>⟨by simp only[eC,kG];omega,.inr ⟨rfl,hst,aaF _,λ_ _=>rfl⟩⟩,λe=>by simp[eC,kG] at e⟩
theorem LR:B9 K d s (dR d):=by
 have st:=Dv (a:=a) (s:=s) (d:=d) si
 rw[dR] at st ⊢
 revert st
 cases ltB 0 d.di
 .simp only[cond_false]
  cases h1:eqB d.aG 1
  .simp only[cond_false]
   cases h2:eqB d.aG 2&&!d.bM
   .intro st;exact mO h
   intro st
   rw[v0] at h2
   have:=fx h2.1
   exact oy h st.mo rfl rfl rfl (λ_=>rfl) (λx=>x) (by simp[eC,kG];omega)
  intro st;exact oy h st.mo rfl rfl rfl (λ_=>rfl) (λx=>x) (by simp[gV])
 intro st;exact oy h st.mo rfl rfl rfl (λ_=>rfl) (λx=>x) (by simp)
theorem Rz:B9 K d s (dOn d):=by
 have st:=Ry (a:=a) (s:=s) (d:=d) si
 rw[dOn] at st ⊢
 revert st
 cases h0:eqB d.aG 0
 .intro st;exact mO h
 intro st
 have h0:=fx h0
 refine⟨⟨by have:=h.de;simp only[cond_true];omega,by have:=h.se;omega,h.sd,λe=>by simp at e,λe=>by simp at e,λe=>by simp at e⟩,⟨st.mo,.inr λe=>by omega,λ_ e=>⟨by omega,e⟩⟩,λm hm=>?_⟩
 simp only[cond_true,ZS] at hm;subst hm
 exact⟨λe=>by simp[gV] at e,λe=>by simp[gV] at e⟩
theorem LP (hK:K<999999) (c:Int):B9 K d s (qg d c):=by
 have st:=JB (a:=a) (s:=s) (d:=d) si c
 rw[qg] at st ⊢
 revert st
 cases eqB c d.aE||!inR c 0 5
 .simp only[cond_false]
  cases h2:eqB d.aG 2&&ltB d.aF 999999
  .intro st
   have hn:d.aG≠2:=λe=>by
    have:=h.de
    rw[e,aQ,Bool.true_and] at h2
    have:=nO h2
    omega
   exact oy h st.mo rfl rfl rfl (λe=>absurd e hn) (λx=>x) (by simp)
  intro st
  rw[v0] at h2
  have:=fx h2.1
  exact Gr h si (c:=c) (st:=d.aG) oaa oaa
 intro st;exact mO h
theorem Pt (hk:d.cZ.eR=s.be.eR) (hr:s.be.cQ<=999999) (h1:d.aG=1) {m:aR} (hf:Pf s m\/Pe d m):B9 K d s (yA d m):=by
 have st:=ND si hk hr hf
 rw[yA] at st ⊢
 revert st
 cases hv:eqB (jm d.cZ.eR d.cZ.df m.cO) 0
 .intro st;exact mO h
 intro st
 have hv:=fx hv
 simp only[cond_true] at st ⊢
 have hlt:d.ag<m.ag:=by
  rcases hf with⟨q,q1,q2,q3⟩|q
  .have hq:inR q 0 999999=true:=bu.2 oaa
   rw[q3,hk,BA oaa oaa] at hv
   have hg:=si.dg
   by_cases hle:q<=d.cZ.df
   .rw[if_pos hle] at hv;omega
   omega
  rcases q with q|q<;>omega
 have hsd:=h.sd
 refine⟨⟨by have:=h.de;simp only;omega,by have:=h.se;omega,by simp only;omega,λe=>by simp only at e;omega,λe=>by simp only at e;omega,λe=>by simp only at e;omega⟩,⟨st.mo,.inl hlt,λ_ e=>by simp only at e;omega⟩,λx hx=>?_⟩
 simp only[ZS] at hx;subst hx
 exact⟨λe=>by simp at e,λ_=>aaF _⟩
theorem Pw (hk:d.cZ.eR=s.be.eR) (hr:s.be.cQ<=999999) {m:aR} (hf:m.aS=2->Pf s m\/Pe d m) (ha:m.aS=4->Lz d m\/W6 K d s m) (h6':m.aS=6->Lz d m\/W7 s m):B9 K d s (ia d m):=by
 have st:=NF si hk hr hf
 rw[ia] at st ⊢
 revert st
 cases h0:!ey m||(!eqB m.aE d.aE||eqB d.aG 0)
 .simp only[cond_false]
  simp only[Y2,aaM] at h0
  have hce:=fx h0.2.1
  cases h2:eqB m.aS 2&&eqB d.aG 1
  .simp only[cond_false]
   cases h4:eqB m.aS 4&&(eqB d.aG 1&&(mf d.aV&&(eqB m.ag d.ag&&lN d.aV m)))
   .simp only[cond_false]
    cases h6:eqB m.aS 6&&(eqB d.aG 2&&(eqB m.ag d.ag&&(eqB m.aF d.aF&&lN d.aV m)))
    .simp only[cond_false]
     cases h7:eqB m.aS 7&&(eqB d.aG 3&&ltB d.aF 999999)
     .simp only[cond_false]
      cases h8:eqB m.aS 7&&eqB d.aG 2
      .intro st;exact mO h
      intro st
      rw[v0] at h8
      have:=fx h8.2
      exact Q8 h si oaa
     intro st
     simp only[v0] at h7
     have:=fx h7.2.1
     exact Gr h si (c:=d.aE) (st:=2) oaa oaa
    intro st
    simp only[v0] at h6
    obtain⟨g1,g2,g3,g4,g5⟩:=h6
    have g1:=fx g1
    have g2:=fx g2
    have g3:=fx g3
    have g4:=fx g4
    have hc:=h.cn oaa
    have heq:s.aF=d.aF:=by
     rcases h6' g1 with q|q
     .exfalso;rcases q with q|⟨_,q⟩
      .omega
      rw[g5] at q;cases q
     rcases q with q|q<;>omega
    simp only[cond_true] at st ⊢
    exact⟨⟨by have:=h.de;simp only;omega,by have:=h.se;omega,h.sd,h.cn,h.cc,λ_ _=>heq⟩,.keep st.mo rfl rfl rfl (λ_=>rfl),by simp⟩
   intro st
   simp only[v0] at h4
   obtain⟨g1,g2,g3,g4,g5⟩:=h4
   have g1:=fx g1
   have g2:=fx g2
   have g4:=fx g4
   have hsd:=h.sd
   simp only[cond_true] at st ⊢
   rcases ha g1 with q|⟨q1,q2,q3⟩
   .exfalso;rcases q with q|⟨_,q⟩
    .omega
    rw[g5] at q;cases q
   rcases q3 with q3|⟨q3,q4,q5⟩
   .omega
   have q5:=q5 oaa oaa
   refine⟨⟨by simp only;omega,by have:=h.se;omega,hsd,λ_=>⟨q4,by simp only;omega,by simp only;omega,by simp only;omega⟩,λ_ _=>by simp only;omega,λ_ _=>q5.1⟩,⟨st.mo,.inr λe=>by omega,λe=>by simp only at e;omega⟩,by simp⟩
  intro st
  rw[v0] at h2
  exact Pt h si hk hr (fx h2.2) (hf (fx h2.1))
 intro st;exact mO h
theorem Pu (hp:RcV d.aT) (hs:SP s) (hb:∀p∈s.ax,okB p.a8) {x:aK} (hf:Ca s x\/W8 d x):B9 K d s (js d x):=by
 have st:=NE si hp hs hb hf
 simp only[js] at st ⊢
 revert st
 cases eqB d.aG 2&&(lE d.aV d.ag d.aF x).2
 .intro st;exact mO h
 intro st;exact oy h st.mo rfl rfl rfl (λ_=>rfl) (λx=>x) (by simp[qW,kG])
theorem LL:B9 K d s ⟨sh d,[]⟩:=by
 have st:=(N1 si).2
 rw[sh] at st ⊢
 revert st
 cases h2:eqB d.aG 2
 .intro st;exact mO h
 intro st
 have h2:=fx h2
 have hc:=h.cn oaa
 exact⟨⟨by have:=h.de;simp only[cond_true];omega,by have:=h.se;omega,h.sd,λ_=>hc,λe=>by simp at e,λe=>by simp at e⟩,⟨st,.inr λ_=>⟨by simp,by simp,λe=>by simp at e⟩,λe=>by simp at e⟩,by simp⟩
end
structure Fa (K:Int) (d:aw) (s:ae) (r:bT):Prop where
 li:LI (K+1) d r.az
 k:UU d s r.az
 sg:∀m∈r.bL,(m.aS=4->W6 (K+1) d r.az m)/\(m.aS=6->W7 r.az m)
section
variable {K:Int} {d:aw} {s:ae} {a:av} (h:LI K d s) (si:SI d s a) (g:SG s a)
include h si
omit si in
theorem Bf {r:bT} (mo:sa d s d r.az) (h1:r.az.aG=s.aG) (h2:r.az.ag=s.ag) (h3:r.az.aF=s.aF) (h4:r.az.bi=s.bi) (h5:r.az.aO=s.aO) (h6:r.az.aE=s.aE) (hs:∀m∈r.bL,m.aS≠4/\m.aS≠6):Fa K d s r:=
 ⟨⟨by have:=h.de;omega,by have:=h.se;omega,by have:=h.sd;omega,λe=>by rw[h1,h2,h3];exact h.cn e,λe=>by rw[h3,h6];exact h.cc e,λe=>by rw[h3];exact h.pc e⟩,⟨mo,.inr ⟨h2,λe=>by omega,by omega,λ_ _=>⟨h3,h6⟩⟩,λe=>.inr ⟨h4,h5⟩⟩,λm hm=>⟨λe=>absurd e (hs m hm).1,λe=>absurd e (hs m hm).2⟩⟩
omit si in
theorem oC:Fa K d s ⟨s,[]⟩:=Bf h (sa.refl d s) rfl rfl rfl rfl rfl rfl (by simp)
include g
theorem Qu (m:aR):Fa K d s (xT s m):=by
 have st:=GL si g m
 have hr:=pK g.sp.rcd
 simp only[xT] at st ⊢
 revert st
 cases eqB s.be.cQ 999999
 .intro st
  simp only[cond_false] at st ⊢
  refine⟨⟨by have:=h.de;omega,by have:=h.se;simp only;omega,h.sd,h.cn,h.cc,h.pc⟩,⟨st.mo,.inr ⟨rfl,λe=>e,aaF _,λ_ _=>⟨rfl,rfl⟩⟩,λe=>.inl (by simp only;omega)⟩,λx hx=>?_⟩
  simp at hx;subst hx;exact⟨λe=>by simp at e,λe=>by simp at e⟩
 intro st;exact oC h
theorem MJ {m:aR} (hf:QX s m\/m.ag<=d.ag):Fa K d s (qk s m):=by
 have st:=EC si g m
 rw[qk] at st ⊢
 revert st
 cases hb:leB s.bi 0||(!eqB m.ag s.bi||(!eqB m.bI s.aO.xW||leB 999999 s.aF))
 .intro st
  simp only[Y2,aaM] at hb
  obtain⟨b1,b2,b3,b4⟩:=hb
  have b1:=tD b1
  have b2:=fx b2
  have b3:=fx b3
  have hpg:=si.pg b1
  have hse:=h.se
  simp only[cond_false] at st ⊢
  have hgen:m.ag<=d.ag:=by
   rcases hf with q|q
   .exfalso;rcases q.2 b1 with q|q
    .exact q b2
    exact q b3
   exact q
  have hst:d.aG<=1:=by
   by_cases e:2<=d.aG
   .have:=(h.cn e).2.1;omega
   omega
  have e1:(mH s m.aE).ag=s.bi:=rfl
  have e2:(mH s m.aE).aF=s.aF+1:=rfl
  refine⟨⟨by have:=h.de;omega,by rw[e2];omega,by rw[e1];omega,λe=>by omega,λe=>by omega,λe=>by omega⟩,⟨st.mo,.inl (by rw[e1];omega),λe=>by simp[mH] at e⟩,λx hx=>?_⟩
  simp only[ZS] at hx;subst hx
  exact⟨λ_=>⟨by simp only[jK,kG];rw[e2];omega,by simp only[jK,kG];rw[e1];omega,.inr ⟨rfl,rfl,λ_ _=>⟨rfl,rfl⟩⟩⟩,λe=>by simp[jK,kG] at e⟩
 intro st;exact oC h
omit g in
theorem MH {m:aR} (hf:CZ s m\/Nl K d m):Fa K d s (md s m):=by
 have st:=EB si m
 rw[md] at st ⊢
 revert st
 cases hb:!f6 s m||(ltB m.aF s.aF||(eqB m.aF s.aF&&!eqB m.aE s.aE))
 .intro st
  simp only[Y2,aaM,f6,v0] at hb
  obtain⟨⟨b1,b2,b3⟩,b4,_⟩:=hb
  have b1:=fx b1
  have b2:=fx b2
  have b4:=nO b4
  simp only[cond_false] at st ⊢
  rcases hf with q|⟨q1,q2⟩
  .exfalso;rcases q with q|⟨_,q⟩
   .omega
   rw[b3] at q;cases q
  have e1:(oG s m).aF=m.aF:=rfl
  refine⟨⟨by have:=h.de;omega,by rw[e1];omega,h.sd,λe=>?_,λe x=>?_,λe x=>?_⟩,⟨st.mo,.inr ⟨rfl,λe=>e,by rw[e1];exact b4,λx y=>?_⟩,λ_=>.inr ⟨rfl,rfl⟩⟩,λx hx=>?_⟩
  .have hc:=h.cn e
   refine⟨hc.1,hc.2.1,hc.2.2.1,?_⟩
   rw[e1]
   rcases q2 with q|q<;>omega
  .have hc:=h.cn oaa
   rw[e1] at x
   rcases q2 with q|q
   .omega
   exact q.2.2.2 e x
  .have hc:=h.cn oaa
   have:=h.pc e x
   rw[e1]
   rcases q2 with q|q<;>omega
  .exfalso;rcases q2 with q|q<;>omega
  simp only[ZS] at hx;subst hx
  exact⟨λe=>by simp[jK,kG] at e,λ_=>.inr ⟨rfl,aaF _⟩⟩
 intro st;exact oC h
theorem Qt {m:aR} (hf:m.bI<=d.aT.bb\/CZ s m):Fa K d s (um s m):=by
 have st:=GJ si g hf
 rw[um] at st ⊢
 revert st
 cases !f6 s m||ltB s.aq.bb m.bI
 .intro st;exact Bf h st.mo rfl rfl rfl rfl rfl rfl (by simp)
 intro st;exact oC h
theorem T0 {m:aR} (hf:m.aS=8->m.bI<=d.aT.bb\/CZ s m) (hr:m.aS=3->QX s m\/m.ag<=d.ag) (hp:m.aS=5->CZ s m\/Nl K d m):Fa K d s (sUp s m):=by
 rw[sUp]
 cases ey m
 .exact oC h
 simp only[au]
 cases eqB m.aS 1
 .cases h3:eqB m.aS 3
  .cases h5:eqB m.aS 5
   .cases h8:eqB m.aS 8
    .exact oC h
    exact Qt h si g (hf (fx h8))
   exact MH h si (hp (fx h5))
  exact MJ h si g (hr (fx h3))
 exact Qu h si g m
theorem MF:Fa K d s ⟨lg s,[]⟩:=by
 have st:=EA si g
 exact⟨⟨by have:=h.de;omega,by have:=h.se;show s.aF<=_;omega,h.sd,h.cn,h.cc,h.pc⟩,⟨st.mo,.inr ⟨rfl,λe=>e,aaF _,λ_ _=>⟨rfl,rfl⟩⟩,λe=>by simp[lg] at e⟩,by simp⟩
theorem Qv (b:List Int):Fa K d s ⟨(mS s b).1,[]⟩:=by
 have st:=GM si g b
 rw[mS] at st ⊢
 revert st
 cases leB 24 (s.ax.length:Int)||ltB 60 (b.length:Int)
 .intro st;exact Bf h st.mo rfl rfl rfl rfl rfl rfl (by simp)
 intro st;exact oC h
end
theorem yY:∀(k:Nat) (s:ae) (a:av) (r:List aK),∃w q,(fT k s a r).1={s with aq:=w,bC:=q}
 |0,s,a,r=>⟨s.aq,s.bC,rfl⟩
 |k+1,s,a,r=>by
  rw[fT]
  cases e:mN s with
  |none=>exact⟨s.aq,s.bC,rfl⟩
  |some x=>
   obtain⟨q,hk⟩:=iE s a (x.a8.length:Int)
   simp only
   cases ltB 0 (gk (bS s a (x.a8.length:Int)).1 (x.a8.length:Int))
   .simp only[cond_false]
    obtain⟨w,q',e'⟩:=yY k {(bS s a (x.a8.length:Int)).1 with aq:=sent (bS s a (x.a8.length:Int)).1.aq x.a8} (bS s a (x.a8.length:Int)).2
     (r++[iQ (bS s a (x.a8.length:Int)).1.aV (bS s a (x.a8.length:Int)).1.ag (bS s a (x.a8.length:Int)).1.aF ⟨(bS s a (x.a8.length:Int)).1.aq.bb,x.a8⟩])
    exact⟨w,q',by rw[e',hk]⟩
   exact⟨s.aq,q,by simp only[cond_true];rw[hk]⟩
theorem vl (s:ae) (a:av) (m:aU):∃q r p w u,(bF s a m).az={s with c9:=q,cR:=r,eo:=p,aq:=w,bC:=u}:=by
 rw[bF]
 cases eqB s.aG 1
 .exact⟨s.c9,s.cR,s.eo,s.aq,s.bC,rfl⟩
 simp only[au]
 cases ltB 4 (eE s)
 .simp only[cond_false,sW]
  obtain⟨w,q,e⟩:=yY 2 {s with c9:=eE s,cR:=(iN s).2,bC:=(eP s a).2} (eP s a).1 []
  exact⟨eE s,(iN s).2,s.eo,w,q,by rw[e]⟩
 simp only[cond_true,BW]
 exact⟨eE s,s.cR,_,s.aq,_,rfl⟩
structure LN (K:Int) (n:ab):Prop where
 li:∀(i:Nat) d s,n.ah[i]?=some d->n.aj[i]?=some s->LI K d s
 lf:∀f∈n.aA,∀d s,n.ah[f.aJ.toNat]?=some d->n.aj[f.aJ.toNat]?=some s->LF K d s f
theorem LN.up {K K':Int} {n:ab} (h:LN K n) (hk:K<=K'):LN K' n:=⟨λi d s a b=>(h.li i d s a b).up hk,λf hf d s a b=>(h.lf f hf d s a b).up hk⟩
theorem LN.send {K:Int} {n:ab} (h:LN K n) {f:a9} (hf:∀d s,n.ah[f.aJ.toNat]?=some d->n.aj[f.aJ.toNat]?=some s->LF K d s f):LN K (dP n f):=by
 rw[dP]
 cases leB 200 (n.aA.length:Int)
 .refine⟨h.li,λg hg=>?_⟩
  rcases YR.1 hg with hg|hg
  .exact h.lf g hg
  simp at hg;subst hg;exact hf
 exact⟨h.li,h.lf⟩
theorem LN.sends {K:Int}:∀(l:List a9) {n:ab},LN K n->(∀f∈l,∀d s,n.ah[f.aJ.toNat]?=some d->n.aj[f.aJ.toNat]?=some s->LF K d s f)->LN K (sends n l)
 |[],n,h,_=>h
 |f::l,n,h,hf=>by
  have hk:=fQ n f
  exact LN.sends l (h.send (hf f (by simp))) (λg hg=>by rw[hk.1,hk.2.1];exact hf g (by simp[hg]))
theorem LN.same {K:Int} {n n':ab} (h:LN K n) (h1:n'.ah=n.ah) (h2:n'.aj=n.aj) (h4:∀f∈n'.aA,f∈n.aA):LN K n':=
 ⟨by rw[h1,h2];exact h.li,λf hf=>by rw[h1,h2];exact h.lf f (h4 f hf)⟩
theorem LN.sameU {K K':Int} {n n':ab} (h:LN K n) (hk:K<=K') (h1:n'.ah=n.ah) (h2:n'.aj=n.aj) (h4:∀f∈n'.aA,f∈n.aA):LN K' n':=(h.same h1 h2 h4).up hk
theorem LN.setD {K:Int} {n:ab} (h:LN K n) {i:Nat} {d d':aw} {s:ae} (hd:n.ah[i]?=some d) (hs:n.aj[i]?=some s) (hl:LI (K+1) d' s) (k:QT d d' s):LN (K+1) {n with ah:=n.ah.set i d'}:=by
 refine⟨λj x y hx hy=>?_,λf hf x y hx hy=>?_⟩
 .rcases gI hx with⟨e1,e2⟩|⟨e1,e2⟩
  .subst e1;rw[hs] at hy;cases hy;subst e2;exact hl
  exact(h.li j x y e2 hy).up oaa
 rcases gI hx with⟨e1,e2⟩|⟨e1,e2⟩
 .simp only at hy
  rw[<-e1] at hy
  have hy':n.aj[i]?=some y:=hy
  rw[hs] at hy';cases hy'
  subst e2
  exact((h.lf f hf d s (by rw[<-e1];exact hd) (by rw[<-e1];exact hs)).dev k).up oaa
 exact(h.lf f hf x y e2 hy).up oaa
theorem LN.setS {K:Int} {n:ab} (h:LN K n) {i:Nat} {d:aw} {s s':ae} (hd:n.ah[i]?=some d) (hs:n.aj[i]?=some s) (hl:LI (K+1) d s') (k:UU d s s'):LN (K+1) {n with aj:=n.aj.set i s'}:=by
 refine⟨λj x y hx hy=>?_,λf hf x y hx hy=>?_⟩
 .rcases gI hy with⟨e1,e2⟩|⟨e1,e2⟩
  .subst e1;rw[hd] at hx;cases hx;subst e2;exact hl
  exact(h.li j x y hx e2).up oaa
 rcases gI hy with⟨e1,e2⟩|⟨e1,e2⟩
 .simp only at hx
  rw[<-e1] at hx
  have hx':n.ah[i]?=some x:=hx
  rw[hd] at hx';cases hx'
  subst e2
  exact((h.lf f hf d s (by rw[<-e1];exact hd) (by rw[<-e1];exact hs)).ses k).up oaa
 exact(h.lf f hf x y hx e2).up oaa
section
variable {K:Int} {n:ab} (h:LN K n) {i:Nat} {d:aw} {s:ae} (hd:n.ah[i]?=some d) (hs:n.aj[i]?=some s)
include h hd hs
theorem uf {r:bg} (st:B9 K d s r):LN (K+1) (dM n i r):=by
 have hi:=(YP.1 hd).1
 refine LN.sends _ (h.setD hd hs st.li st.k) λf hf x y hx hy=>?_
 obtain⟨m,hm',rfl⟩:=ZQ.1 hf
 simp only[b9,aaH] at hx hy
 have e1:(n.ah.set i r.aJ)[i]?=some r.aJ:=by simp[hi]
 rw[e1] at hx;rw[hs] at hy
 cases hx;cases hy
 exact⟨λ_ _ h3=>.inr ((st.sg m hm').1 h3),λ_ _ h3=>.inr ((st.sg m hm').2 h3),λh1 _ _=>by simp[b9] at h1,λh1 _ _=>by simp[b9] at h1⟩
theorem Qj {r:bT} (st:Fa K d s r):LN (K+1) (rN n i r):=by
 have hi:=(YP.1 hs).1
 refine LN.sends _ (h.setS hd hs st.li st.k) λf hf x y hx hy=>?_
 obtain⟨m,hm',rfl⟩:=ZQ.1 hf
 simp only[b9,aaH] at hx hy
 have e1:(n.aj.set i r.az)[i]?=some r.az:=by simp[hi]
 rw[e1] at hy;rw[hd] at hx
 cases hx;cases hy
 exact⟨λh1 _ _=>by simp[b9] at h1,λh1 _ _=>by simp[b9] at h1,λ_ _ h3=>.inr ((st.sg m hm').1 h3),λ_ _ h3=>.inr ((st.sg m hm').2 h3)⟩
theorem TG {a:av} {t:bZ} (st:TrS d s a t.az t.cy t.b6) (hp:∀x∈t.eW,x.aS=7) (e:∃q r p w u,t.az={s with c9:=q,cR:=r,eo:=p,aq:=w,bC:=u}):LN (K+1) (fS n i t):=by
 obtain⟨q,r,p,w,u,e⟩:=e
 have hl:=h.li i d s hd hs
 have hm:=h.setS hd hs (s':=t.az) (by rw[e];exact LI.up (K:=K) ⟨hl.de,hl.se,hl.sd,hl.cn,hl.cc,hl.pc⟩ oaa) ⟨st.mo,.inr ⟨by rw[e],by rw[e];exact λx=>x,by rw[e];exact aaF _,λ_ _=>by rw[e];exact⟨rfl,rfl⟩⟩,λ_=>.inr (by rw[e];exact⟨rfl,rfl⟩)⟩
 have hm2:LN (K+1) {n with aj:=n.aj.set i t.az,aB:=n.aB.set i t.cy}:=hm.same rfl rfl (λf hf=>hf)
 have hpg:=LN.sends (t.eW.map (b9 i false)) hm2 λf hf x y hx hy=>by
  obtain⟨m,hm',rfl⟩:=ZQ.1 hf
  have hk:=hp m hm'
  exact⟨λh1 _ _=>by simp[b9] at h1,λh1 _ _=>by simp[b9] at h1,λ_ _ h3=>by simp only[b9] at h3;omega,λ_ _ h3=>by simp only[b9] at h3;omega⟩
 refine LN.sends _ hpg λf hf x y hx hy=>?_
 obtain⟨m,hm',rfl⟩:=ZQ.1 hf
 exact⟨λ_ h1 _=>by simp[lL] at h1,λ_ h1 _=>by simp[lL] at h1,λ_ h1 _=>by simp[lL] at h1,λ_ h1 _=>by simp[lL] at h1⟩
end
theorem Lb:∀(c i:Nat) {K B:Int} {n:ab},NP B n->B+c<4611686018427387904->PI n->LN K n->LN (K+c) (dT c i n)/\PI (dT c i n)/\NP (B+c) (dT c i n)
 |0,_,K,B,n,hn,_,p,h=>⟨by simpa [dT] using h,p,by simpa [dT] using hn⟩
 |c+1,i,K,B,n,hn,hB,p,h=>by
  rw[dT]
  cases hd:n.ah[i]? with
  |none=>exact⟨h.up oaa,p,hn.mono oaa⟩
  |some d=>
   obtain⟨d',s,a,e1,e2,e3,hm⟩:=hn.at_ (YP.1 hd).1
   rw[hd] at e1;cases e1
   have si:=p.si i d s a hd e2 e3
   have hi:=Lb c (i+1) (kh hn hd (mX d) (wg hm.dp) hm.dc oaa) oaa (qK p hd e2 e3 (Dv si)) (uf h hd e2 (LR (h.li i d s hd e2) si))
   exact⟨hi.1.up oaa,hi.2.1,hi.2.2.mono oaa⟩
theorem Lh:∀(c i:Nat) {K B:Int} {n:ab},NP B n->B+2000*c<4611686018427387904->PI n->LN K n->LN (K+c) (eL c i n)
 |0,_,K,B,n,hn,_,p,h=>by simpa [eL] using h
 |c+1,i,K,B,n,hn,hB,p,h=>by
  rw[eL]
  cases hs:n.aj[i]? with
  |none=>exact h.up oaa
  |some s=>cases ha:n.aB[i]? with
   |none=>exact h.up oaa
   |some a=>
    have hls:=hn.ls
    have hml:=iw hn.map
    obtain⟨d,s',a',e1,e2,e3,hm⟩:=hn.at_ (i:=i) (by have:=(YP.1 hs).1;omega)
    rw[hs] at e2;rw[ha] at e3;cases e2;cases e3
    have si:=p.si i d s a e1 hs ha
    have ht:=Br si hm.sg n.bX
    exact(Lh c (i+1) (Ad hn hs ha (me hm.sg oaa) (xc hm.sg hn.map) oaa) oaa (Ky p e1 hs ha ht.1 ht.2) (TG h e1 hs ht.1 ht.2 (vl s a n.bX))).up oaa
theorem Rn {K:Int} {n:ab} (h:LN K n) (k:Nat):LN K (d7 n k):=h.same rfl rfl λf hf=>by
 simp only[d7,YR] at hf
 rcases hf with hf|hf
 .exact Y9 hf
 exact aby hf
theorem yD {K B:Int} {n:ab} (hn:NP B n) (p:PI n) (h:LN K n) (k:Nat):LN (K+1) (dJ n k):=by
 rw[dJ]
 cases hf:n.aA[k]? with
 |none=>exact h.up oaa
 |some f=>
  have hfm:=YS hf
  have hp:=hn.fs f hfm
  have h1:=Rn h k
  have hdd:=hp.d
  obtain⟨d,s,a,e1,e2,e3,hm⟩:=hn.at_ (i:=f.aJ.toNat) oaa
  have hfi:=p.fi f hfm d s e1 e2
  have hsi:=p.si _ d s a e1 e2 e3
  have hl:=h.li _ d s e1 e2
  have hlf:=h.lf f hfm d s e1 e2
  have q1:(d7 n k).ah[f.aJ.toNat]?=some d:=e1
  have q2:(d7 n k).aj[f.aJ.toNat]?=some s:=e2
  simp only
  cases tA (d7 n k) f.aE
  .exact h1.sameU oaa rfl rfl λf hf=>hf
  simp only[q1,q2,au]
  cases hu:f.dS
  .simp only[cond_false]
   cases eqB d.aE f.aE
   .exact h1.sameU oaa rfl rfl λf hf=>hf
   simp only[au]
   cases hr:f.bW
   .exact uf h1 q1 q2 (Pw hl hsi hm.key (pK hm.sg.sp.rcd).2 (λe=>hfi.dn hu hr e) (λe=>hlf.ac hu hr e) (λe=>hlf.ka hu hr e))
   exact uf h1 q1 q2 (Pu hl hsi (lM.1 hm.dp.rc.v) hm.sg.sp hm.sg.b1 (hfi.rd hu hr))
  simp only[cond_true]
  cases hr:f.bW||!eqB f.aM.aE f.aE
  .simp only[cond_false]
   simp only[Y2] at hr
   exact Qj h1 q1 q2 (T0 hl hsi hm.sg (λe=>hfi.up hu hr.1 e) (λe=>hlf.re hu hr.1 e) (λe=>hlf.pa hu hr.1 e))
  exact h1.up oaa
theorem Vt {K:Int} {d:aw} {s:ae} {f:a9} (h:(bif f.bW then f.dS||Vu d f.b6 else bif f.dS then hUp s f.aM else Ga d f.aM)=true):LF K d s f:=by
 refine⟨λh1 h2 h3=>?_,λh1 h2 h3=>?_,λh1 h2 h3=>?_,λh1 h2 h3=>?_⟩
 .rw[h2,h1] at h
  simp only[hUp,h3,show eqB 5 3=false from by simp[eqB],aQ,aa1,au] at h
  left
  rcases Y6 _ _ |>.mp h with q|q
  .exact .inl (ko q)
  rw[v0] at q;exact .inr ⟨fx q.1,by simpa using q.2⟩
 .rw[h2,h1] at h
  simp only[hUp,h3,aQ,au] at h
  left
  rw[v0,Y6] at h
  refine⟨sb h.1,λ_=>?_⟩
  rcases h.2 with q|q
  .exact .inl (Cd (by simpa using q))
  exact .inr (Cd (by simpa using q))
 .rw[h2,h1] at h
  simp only[Ga,h3,show eqB 4 2=false from by simp[eqB],aQ,aa1,au] at h
  left
  rcases Y6 _ _ |>.mp h with q|q
  .exact .inl (ko q)
  rw[v0] at q;exact .inr ⟨fx q.1,by simpa using q.2⟩
 rw[h2,h1] at h
 simp only[Ga,h3,show eqB 6 2=false from by simp[eqB],show eqB 6 4=false from by simp[eqB],aQ,abC,au] at h
 left
 rcases Y6 _ _ |>.mp h with q|q
 .exact .inl (ko q)
 rw[v0] at q;exact .inr ⟨fx q.1,by simpa using q.2⟩
theorem X6 {K B:Int} {n:ab} (hK:K<999999) (hn:NP B n) (p:PI n) (h:LN K n) (e:cr):LN (K+1) (wX n e).2:=by
 rw[wX]
 have h':=h.up (K':=K+1) oaa
 cases inR e.bR 0 ((n.ah.length:Int)-1)
 .exact h'
 simp only[au]
 cases hd:n.ah[e.bR.toNat]? with
 |none=>exact h'
 |some d=>
  obtain⟨d',s,a,e1,e2,e3,hm⟩:=hn.at_ (YP.1 hd).1
  rw[hd] at e1;cases e1
  have hsi:=p.si _ d s a hd e2 e3
  have hl:=h.li _ d s hd e2
  simp only[e2]
  cases eqB e.aS 5
  .simp only[cond_false]
   cases eqB e.aS 6
   .simp only[cond_false]
    cases eqB e.aS 7
    .simp only[cond_false]
     cases(mS s e.a8).2
     .exact h'
     have st:=Qv hl hsi hm.sg e.a8
     exact h.setS hd e2 st.li st.k
    simp only[cond_true]
    cases eqB d.aG 2
    .exact h'
    have st:=LL hl hsi
    exact h.setD hd e2 st.li st.k
   simp only[cond_true]
   cases eqB e.aE d.aE||!ew n.bX e.aE
   .exact uf h hd e2 (LP hl hsi hK e.aE)
   exact h'
  simp only[cond_true]
  cases eqB d.aG 0
  .exact h'
  exact uf h hd e2 (Rz hl hsi)
theorem QB {K B:Int} {n:ab} (hn:NP B n) (p:PI n) (h:LN K n) (k:Int) (up:Bool):LN (K+1) (kE n k up).2:=by
 rw[kE]
 cases !inR k 0 (n.eD.hP-1)||(booB (uB n.eD k) up||eqB (kF n.eD k up).f7 0)
 .simp only[cond_false]
  have key:∀(i:Nat) d s',n.ah[i]?=some d->(vE n.eD (kF n.eD k up) n.aj.length 0 n.aj)[i]?=some s'->∃s,n.aj[i]?=some s/\(s'=s\/(LI (K+1) d s'/\UU d s s')):=by
   intro i d s' hd hs
   rcases mI n.eD (kF n.eD k up) n.aj.length 0 n.aj i with q|⟨t,q1,q2⟩
   .rw[q] at hs;exact⟨s',hs,.inl rfl⟩
   rw[q2] at hs;cases hs
   obtain⟨d',t',a,e1,e2,e3,hm⟩:=hn.at_ (YP.1 hd).1
   rw[hd] at e1;cases e1
   rw[q1] at e2;cases e2
   have st:=MF (h.li i d t hd q1) (p.si i d t a hd q1 e3) hm.sg
   exact⟨t,q1,.inr ⟨st.li,st.k⟩⟩
  refine⟨λi d s' hd hs=>?_,λf hf d s' hd hs=>?_⟩
  .obtain⟨s,g1,g2|g2⟩:=key i d s' hd hs
   .subst g2;exact(h.li i d s' hd g1).up oaa
   exact g2.1
  obtain⟨s,g1,g2|g2⟩:=key _ d s' hd hs
  .subst g2;exact(h.lf f hf d s' hd g1).up oaa
  exact((h.lf f hf d s hd g1).ses g2.2).up oaa
 exact h.up oaa
theorem Dd {K B:Int} {n:ab} (hK:K<999999) (hn:NP B n) (hB:B+10000<4611686018427387904) (p:PI n) (h:LN K n) {e:cr} (hh:zw n e=true):LN (K+8) (dZ n e).2:=by
 have h':=h.up (K':=K+8) oaa
 rw[dZ]
 split
 .rw[iA]
  cases hb:leB 100000 n.gZ
  .simp only[cond_false]
   have hb:=tD hb
   have hl:=hn.ld
   have hnw:=hn.nw
   have h1:NP B {n with gZ:=n.gZ+1}:={hn with nw:=by simp only;omega}
   have p1:PI {n with gZ:=n.gZ+1}:=p.same rfl rfl rfl (λf hf=>hf)
   have q1:LN K {n with gZ:=n.gZ+1}:=h.same rfl rfl (λf hf=>hf)
   obtain⟨a1,a2,a3⟩:=Lb n.ah.length 0 h1 oaa p1 q1
   have hls:=a3.ls
   have hl2:=a3.ld
   exact(Lh _ 0 a3 oaa a2 a1).up oaa
  exact h'
 split
 .rw[oW]
  cases inR e.bR 0 ((n.aA.length:Int)-1)
  .exact h'
  simp only[au]
  cases eqB e.aS 2
  .simp only[cond_false]
   cases eqB e.aS 3
   .simp only[cond_false]
    cases leB 200 (n.aA.length:Int)
    .simp only[cond_false]
     cases hf:n.aA[e.bR.toNat]? with
     |none=>exact h'
     |some f=>exact(h.send (h.lf f (YS hf))).up oaa
    exact h'
   exact(Rn h _).sameU oaa rfl rfl (λf hf=>hf)
  exact(yD hn p h _).up oaa
 split
 .exact(X6 hK hn p h e).up oaa
 split
 .rw[yl];cases !ew n.bX e.bR||booB (tA n e.bR) (eqB e.aS 10)
  .exact h'.same rfl rfl (λf hf=>hf)
  exact h'
 split
 .exact(QB hn p h _ _).up oaa
 split
 .rename_i h13
  rw[tG];cases hp:Ac n e.dK
  .exact h'
  refine h'.send λd s hd hs=>?_
  rw[zw,h13,hp] at hh
  simp only[aQ,Z0,Zk,Y6,Zh,decide_eq_true_eq] at hh
  rcases hh with⟨f,hf,rfl⟩|hh
  .exact h'.lf _ hf d s hd hs
  rw[Xz,hd,hs] at hh
  exact Vt hh
 exact h'
theorem XW {m:aU} {rs:List aP} {p:bz} {b:Int}:LN 0 (gH m rs p b rs.length):=by
 refine⟨λi d s hd hs=>?_,λf hf=>by simp[gH] at hf⟩
 obtain⟨hk,rfl⟩:=pE hd
 obtain⟨_,rfl⟩:=pE hs
 exact⟨by simp[pb],by simp[lh],by simp[pb,lh],λe=>by simp[pb] at e,λe=>by simp[pb] at e,λe=>by simp[pb] at e⟩
theorem mV.ln:∀{k:Nat} {n:ab},mV k n->k<=100000->LN (8*k) n
 |_,_,.new h hm hp hl _,_=>by simpa using XW
 |_,_,.step (k:=k) h he hh,hk=>(Dd oaa (h.np oaa) oaa (h.pi oaa) (h.ln oaa) hh).up oaa
def uF (i:Nat) (f:a9):Bool:=f.dS&&(!f.bW&&(eqB f.aM.aS 1&&decide (f.aJ.toNat=i)))
def mb (l:List a9) (i:Nat):Int:=(l.countP (uF i):Nat)
def b2i (b:Bool):Int:=bif b then 1 else 0
theorem wY (a b:List a9) (i:Nat):mb (a++b) i=mb a i+mb b i:=by simp[mb,List.countP_append]
theorem zZ (f:a9) (i:Nat):mb [f] i=b2i (uF i f):=by
 simp only[mb,List.countP_cons,abE,b2i];cases uF i f<;>simp
theorem Oq (l:List a9) (i:Nat):0<=mb l i:=by simp[mb]
theorem AO (b:Bool):0<=b2i b/\b2i b<=1:=by cases b<;>simp[b2i]
def GB (G:Int) (n:ab):Prop:=∀(i:Nat) s,n.aj[i]?=some s->s.be.cQ+mb n.aA i<=G
theorem GB.up {G G':Int} {n:ab} (h:GB G n) (hg:G<=G'):GB G' n:=λi s hs=>abp (h i s hs) hg
theorem BP (n:ab) (f:a9) (i:Nat):mb (dP n f).aA i<=mb n.aA i+b2i (uF i f):=by
 have:=AO (uF i f)
 rw[dP]
 cases leB 200 (n.aA.length:Int)
 .simp only[cond_false];rw[wY,zZ];exact aaF _
 simp only[cond_true];omega
theorem oH:∀(l:List a9) (n:ab) (i:Nat),mb (sends n l).aA i<=mb n.aA i+mb l i
 |[],n,i=>by simp[sends,mb]
 |f::l,n,i=>by
  have h1:=BP n f i
  have h2:=oH l (dP n f) i
  have e:mb (f::l) i=b2i (uF i f)+mb l i:=by
   rw[show f::l=[f]++l from rfl,wY,zZ]
  rw[show sends n (f::l)=sends (dP n f) l from rfl,e];omega
theorem Hx {n:ab} {k:Nat} {f:a9} (hf:n.aA[k]?=some f) (i:Nat):mb (d7 n k).aA i+b2i (uF i f)=mb n.aA i:=by
 obtain⟨hk,e⟩:=YP.1 hf
 have h:n.aA=n.aA.take k++([f]++n.aA.drop (k+1)):=by
  rw[<-e,List.singleton_append,<-ZD hk,aau]
 have h2:mb n.aA i=mb (n.aA.take k) i+(b2i (uF i f)+mb (n.aA.drop (k+1)) i):=by
  conv=>lhs;rw[h]
  rw[wY,wY,zZ]
 simp only[d7];rw[wY,h2];omega
theorem Ig {l:List a9} {i:Nat} (h:∀f∈l,uF i f=false):mb l i=0:=by
 simp only[mb]
 have:l.countP (uF i)=0:=List.countP_eq_zero.2 λf hf=>by rw[h f hf];simp
 omega
theorem QE {i:Nat} {j:Int} {up:Bool} {l:List aR} (h:∀m∈l,m.aS≠1):mb (l.map (b9 j up)) i=0:=Ig λf hf=>by
 obtain⟨m,hm,rfl⟩:=ZQ.1 hf
 simp only[uF,b9,eqB_f.2 (h m hm)];simp
theorem Dy {i:Nat} {j:Int} {l:List aR}:mb (l.map (b9 j false)) i=0:=Ig λf hf=>by
 obtain⟨m,hm,rfl⟩:=ZQ.1 hf
 simp[uF,b9]
theorem Qm {i:Nat} {j c:Int} {l:List aK}:mb (l.map (lL j c)) i=0:=Ig λf hf=>by
 obtain⟨m,hm,rfl⟩:=ZQ.1 hf
 simp[uF,lL]
theorem KZ {i:Nat} {j:Int} {up:Bool} {l:List aR} (hl:l.length<=1):mb (l.map (b9 j up)) i<=1:=by
 match l,hl with
 |[],_=>simp[mb]
 |[m],_=>
  rw[show [m].map (b9 j up)=[b9 j up m] from rfl,zZ];exact(AO _).2
theorem Va (d:aw) (m:aR):∀x∈(ia d m).bL,x.aS≠1:=by
 rw[ia]
 cases !ey m||(!eqB m.aE d.aE||eqB d.aG 0)
 .simp only[cond_false]
  cases eqB m.aS 2&&eqB d.aG 1
  .simp only[cond_false]
   cases eqB m.aS 4&&(eqB d.aG 1&&(mf d.aV&&(eqB m.ag d.ag&&lN d.aV m)))
   .simp only[cond_false]
    cases eqB m.aS 6&&(eqB d.aG 2&&(eqB m.ag d.ag&&(eqB m.aF d.aF&&lN d.aV m)))
    .simp only[cond_false]
     cases eqB m.aS 7&&(eqB d.aG 3&&ltB d.aF 999999)
     .simp only[cond_false]
      cases eqB m.aS 7&&eqB d.aG 2
      .simp
      simp[km,eC,kG]
     simp[km,eC,kG]
    simp
   simp
  simp only[cond_true,yA]
  cases eqB (jm d.cZ.eR d.cZ.df m.cO) 0<;>simp
 simp
theorem U8 (d:aw) (x:aK):∀m∈(js d x).bL,m.aS≠1:=by
 simp only[js]
 cases eqB d.aG 2&&(lE d.aV d.ag d.aF x).2<;>simp[qW,kG]
theorem Wa (s:ae) (m:aR):(sUp s m).az.be.cQ<=s.be.cQ+b2i (eqB m.aS 1):=by
 have:=AO (eqB m.aS 1)
 rw[sUp]
 cases ey m
 .simp only[au];omega
 simp only[au]
 cases h1:eqB m.aS 1
 .simp only[cond_false]
  cases eqB m.aS 3
  .simp only[cond_false]
   cases eqB m.aS 5
   .simp only[cond_false]
    cases eqB m.aS 8
    .simp[b2i]
    simp only[cond_true,um]
    cases !f6 s m||ltB s.aq.bb m.bI<;>simp[b2i,jJ]
   simp only[cond_true,md]
   cases !f6 s m||(ltB m.aF s.aF||(eqB m.aF s.aF&&!eqB m.aE s.aE))<;>simp[b2i,oG]
  simp only[cond_true,qk]
  cases leB s.bi 0||(!eqB m.ag s.bi||(!eqB m.bI s.aO.xW||leB 999999 s.aF))<;>simp[b2i,mH]
 simp only[cond_true,xT]
 cases eqB s.be.cQ 999999<;>first|(simp[b2i];done)|(simp[b2i];omega)
theorem Gx {G:Int} {n:ab} (h:GB G n) {i:Nat} {r:bg} (hl:r.bL.length<=1):GB (G+1) (dM n i r):=λj s hs=>by
 have hk:=cU (r.bL.map (b9 i true)) {n with ah:=n.ah.set i r.aJ}
 have h1:=oH (r.bL.map (b9 i true)) {n with ah:=n.ah.set i r.aJ} j
 have h2:=KZ (i:=j) (j:=(i:Int)) (up:=true) hl
 have hs':n.aj[j]?=some s:=by simpa [dM,hk.2.1] using hs
 have:=h j s hs'
 simp only[dM]
 simp only at h1
 omega
theorem En {G:Int} {n:ab} (h:GB G n) {i:Nat} {r:bg} (hl:∀m∈r.bL,m.aS≠1):GB G (dM n i r):=λj s hs=>by
 have hk:=cU (r.bL.map (b9 i true)) {n with ah:=n.ah.set i r.aJ}
 have h1:=oH (r.bL.map (b9 i true)) {n with ah:=n.ah.set i r.aJ} j
 have h2:=QE (i:=j) (j:=(i:Int)) (up:=true) hl
 have hs':n.aj[j]?=some s:=by simpa [dM,hk.2.1] using hs
 have:=h j s hs'
 simp only[dM]
 simp only at h1
 omega
theorem yC {G B:Int} {n:ab} (hn:NP B n) (h:GB G n) (k:Nat):GB G (dJ n k):=by
 rw[dJ]
 cases hf:n.aA[k]? with
 |none=>exact h
 |some f=>
  have hc:GB G (d7 n k):=λi s hs=>by
   have h1:=Hx hf i
   have h2:=h i s hs
   have:=AO (uF i f)
   omega
  simp only
  cases tA (d7 n k) f.aE
  .exact hc
  simp only[au]
  cases hu:f.dS
  .simp only[cond_false]
   cases hd:(d7 n k).ah[f.aJ.toNat]? with
   |none=>exact hc
   |some d=>
    simp only
    cases eqB d.aE f.aE
    .exact hc
    simp only[au]
    cases f.bW
    .exact En hc (Va d f.aM)
    exact En hc (U8 d f.b6)
  simp only[cond_true]
  cases hr:f.bW||!eqB f.aM.aE f.aE
  .simp only[cond_false]
   simp only[Y2] at hr
   cases hs:(d7 n k).aj[f.aJ.toNat]? with
   |none=>exact hc
   |some s=>
    simp only
    intro j t ht
    have hk:=cU ((sUp s f.aM).bL.map (b9 (f.aJ.toNat:Int) false)) {d7 n k with aj:=(d7 n k).aj.set f.aJ.toNat (sUp s f.aM).az}
    have h1:=oH ((sUp s f.aM).bL.map (b9 (f.aJ.toNat:Int) false)) {d7 n k with aj:=(d7 n k).aj.set f.aJ.toNat (sUp s f.aM).az} j
    have h2:=Dy (i:=j) (j:=(f.aJ.toNat:Int)) (l:=(sUp s f.aM).bL)
    have ht':((d7 n k).aj.set f.aJ.toNat (sUp s f.aM).az)[j]?=some t:=by
     have hz:=ht
     simp only[rN] at hz
     rw[hk.2.1] at hz;exact hz
    simp only[rN]
    simp only at h1
    rcases gI ht' with⟨e1,e2⟩|⟨e1,e2⟩
    .subst e1;subst e2
     have h3:=h _ s (show n.aj[f.aJ.toNat]?=some s from hs)
     have h4:=Hx hf f.aJ.toNat
     have h5:=Wa s f.aM
     have h6:uF f.aJ.toNat f=eqB f.aM.aS 1:=by simp[uF,hu,hr.1]
     rw[h6] at h4
     omega
    have:=hc j t e2
    omega
  exact hc
theorem ML {i j:Nat} (h:i≠j) {up:Bool} {l:List aR}:mb (l.map (b9 (i:Int) up)) j=0:=Ig λf hf=>by
 obtain⟨m,hm,rfl⟩:=ZQ.1 hf
 simp[uF,b9,h]
def GP (i:Nat) (G:Int) (n:ab):Prop:=∀(j:Nat) s,n.aj[j]?=some s->s.be.cQ+mb n.aA j<=if j<i then G+1 else G
theorem Qi {G:Int} {n:ab} {i:Nat} (h:GP i G n) {r:bg} (hl:r.bL.length<=1):GP (i+1) G (dM n i r):=λj s hs=>by
 have hk:=cU (r.bL.map (b9 i true)) {n with ah:=n.ah.set i r.aJ}
 have h1:=oH (r.bL.map (b9 i true)) {n with ah:=n.ah.set i r.aJ} j
 have h2:=KZ (i:=j) (j:=(i:Int)) (up:=true) hl
 have hs':n.aj[j]?=some s:=by simpa [dM,hk.2.1] using hs
 have h3:=h j s hs'
 simp only[dM]
 simp only at h1
 by_cases e:i=j
 .subst e
  rw[if_neg oaa] at h3
  rw[if_pos oaa]
  omega
 have h4:=ML e (up:=true) (l:=r.bL)
 by_cases q:j<i
 .rw[if_pos q] at h3;rw[if_pos oaa];omega
 rw[if_neg q] at h3;rw[if_neg oaa];omega
theorem La:∀(c i:Nat) {G:Int} {n:ab},GP i G n->GB (G+1) (dT c i n)
 |0,i,G,n,h=>λj s hs=>by
  have:=h j s hs
  simp only[dT]
  split at this<;>omega
 |c+1,i,G,n,h=>by
  rw[dT]
  cases hd:n.ah[i]? with
  |none=>
   intro j s hs
   have:=h j s hs
   split at this<;>simp only at this ⊢<;>omega
  |some d=>exact La c (i+1) (Qi h (mX d).len)
theorem Lg:∀(c i:Nat) {G:Int} {n:ab},GB G n->GB G (eL c i n)
 |0,_,G,n,h=>by simpa [eL] using h
 |c+1,i,G,n,h=>by
  rw[eL]
  cases hs:n.aj[i]? with
  |none=>exact h
  |some s=>cases ha:n.aB[i]? with
   |none=>exact h
   |some a=>
    refine Lg c (i+1) λj t ht=>?_
    obtain⟨q,r,p,w,u,e⟩:=vl s a n.bX
    have k1:=cU ((bF s a n.bX).eW.map (b9 i false)) {n with aj:=n.aj.set i (bF s a n.bX).az,aB:=n.aB.set i (bF s a n.bX).cy}
    have k2:=cU ((bF s a n.bX).b6.map (lL i (bF s a n.bX).az.aE)) (sends {n with aj:=n.aj.set i (bF s a n.bX).az,aB:=n.aB.set i (bF s a n.bX).cy} ((bF s a n.bX).eW.map (b9 i false)))
    have h1:=oH ((bF s a n.bX).eW.map (b9 i false)) {n with aj:=n.aj.set i (bF s a n.bX).az,aB:=n.aB.set i (bF s a n.bX).cy} j
    have h2:=oH ((bF s a n.bX).b6.map (lL i (bF s a n.bX).az.aE)) (sends {n with aj:=n.aj.set i (bF s a n.bX).az,aB:=n.aB.set i (bF s a n.bX).cy} ((bF s a n.bX).eW.map (b9 i false))) j
    have h3:=Dy (i:=j) (j:=(i:Int)) (l:=(bF s a n.bX).eW)
    have h4:=Qm (i:=j) (j:=(i:Int)) (c:=(bF s a n.bX).az.aE) (l:=(bF s a n.bX).b6)
    have ht':(n.aj.set i (bF s a n.bX).az)[j]?=some t:=by simpa [fS,k2.2.1,k1.2.1] using ht
    simp only[fS]
    simp only at h1 h2
    rcases gI ht' with⟨e1,e2⟩|⟨e1,e2⟩
    .subst e1;subst e2
     have h5:=h _ s hs
     rw[e];rw[e] at h1 h2 h4
     simp only at h1 h2 h4 ⊢
     omega
    have:=h j t e2
    omega
theorem AC {G:Int} {n:ab} (h:GB G n):GB (G+1) (iA n).2:=by
 rw[iA]
 cases leB 100000 n.gZ
 .simp only[cond_false]
  exact Lg _ 0 (La n.ah.length 0 (n:={n with gZ:=n.gZ+1}) (λj s hs=>by rw[if_neg oaa];exact h j s hs))
 exact h.up oaa
theorem X5 {G:Int} {n:ab} (h:GB G n) (e:cr):GB (G+1) (wX n e).2:=by
 have h':=h.up (G':=G+1) oaa
 rw[wX]
 cases inR e.bR 0 ((n.ah.length:Int)-1)
 .exact h'
 simp only[au]
 cases hd:n.ah[e.bR.toNat]? with
 |none=>exact h'
 |some d=>cases hs:n.aj[e.bR.toNat]? with
  |none=>exact h'
  |some s=>
   simp only
   cases eqB e.aS 5
   .simp only[cond_false]
    cases eqB e.aS 6
    .simp only[cond_false]
     cases eqB e.aS 7
     .simp only[cond_false]
      cases(mS s e.a8).2
      .exact h'
      refine λj t ht=>?_
      rcases gI ht with⟨e1,e2⟩|⟨e1,e2⟩
      .subst e1;subst e2
       have:=h' _ s hs
       rw[mS]
       cases leB 24 (s.ax.length:Int)||ltB 60 (e.a8.length:Int)<;>exact this
      exact h' j t e2
     simp only[cond_true]
     cases eqB d.aG 2<;>exact h'
    simp only[cond_true]
    cases eqB e.aE d.aE||!ew n.bX e.aE
    .refine Gx h ?_
     rcases Du d e.aE with q|q
     .exact q.len
     exact q.2.len
    exact h'
   simp only[cond_true]
   cases eqB d.aG 0
   .exact h'
   exact Gx h (HC d).len
theorem QA {G:Int} {n:ab} (h:GB G n) (k:Int) (up:Bool):GB G (kE n k up).2:=by
 rw[kE]
 cases !inR k 0 (n.eD.hP-1)||(booB (uB n.eD k) up||eqB (kF n.eD k up).f7 0)
 .simp only[cond_false]
  intro j t ht
  rcases mI n.eD (kF n.eD k up) n.aj.length 0 n.aj j with q|⟨s,q1,q2⟩
  .exact h j t (by rw[<-q];exact ht)
  have ht':(vE n.eD (kF n.eD k up) n.aj.length 0 n.aj)[j]?=some t:=ht
  rw[q2] at ht';cases ht'
  exact h j s q1
 exact h
theorem Jj {G B:Int} {n:ab} (hn:NP B n) (h:GB G n) (e:cr):GB (G+1) (dZ n e).2:=by
 have h':=h.up (G':=G+1) oaa
 have hs1:∀f:a9,GB (G+1) (dP n f):=λf j s hs=>by
  have hk:=(fQ n f).2.1
  have h1:=BP n f j
  have:=AO (uF j f)
  rw[hk] at hs
  have:=h j s hs
  omega
 have hc:∀k:Nat,GB (G+1) (d7 n k):=λk j s hs=>by
  have:=h j s hs
  cases hf:n.aA[k]? with
  |none=>
   have hk:=List.getElem?_eq_none_iff.1 hf
   have e:(d7 n k).aA=n.aA:=by
    simp only[d7];rw[aar hk,abD oaa,abu]
   rw[e];omega
  |some f=>
   have h1:=Hx hf j
   have:=AO (uF j f)
   omega
 rw[dZ]
 split
 .exact AC h
 split
 .rw[oW]
  cases inR e.bR 0 ((n.aA.length:Int)-1)
  .exact h'
  simp only[au]
  cases eqB e.aS 2
  .simp only[cond_false]
   cases eqB e.aS 3
   .simp only[cond_false]
    cases leB 200 (n.aA.length:Int)
    .simp only[cond_false]
     cases n.aA[e.bR.toNat]? with
     |none=>exact h'
     |some f=>exact hs1 f
    exact h'
   exact hc _
  exact(yC hn h _).up oaa
 split
 .exact X5 h e
 split
 .rw[yl];cases !ew n.bX e.bR||booB (tA n e.bR) (eqB e.aS 10)
  .exact h'
  exact h'
 split
 .exact(QA h _ _).up oaa
 split
 .rw[tG];cases Ac n e.dK
  .exact h'
  exact hs1 _
 exact h'
theorem mV.gb:∀{k:Nat} {n:ab},mV k n->k<=1000000->GB (20+k) n
 |_,_,.new h hm hp hl hq,_=>λi s hs=>by
  obtain⟨hk,rfl⟩:=pE hs
  simp only[gH,mb,abE,lh]
  rw[HM (YO hk)]
  have:=hq _ (List.getElem_mem hk)
  simp;omega
 |_,_,.step (k:=k) h he hh,hk=>(Jj (h.np oaa) (h.gb oaa) _).up oaa
theorem uq:∀(l:List a9) {n:ab},n.aA.length+l.length<=200->(sends n l).aA=n.aA++l
 |[],n,_=>by simp[sends]
 |f::l,n,h=>by
  simp only[YY] at h
  have e:dP n f={n with aA:=n.aA++[f]}:=by
   rw[dP,leB_f.2 (show(n.aA.length:Int)<200 by omega)];rfl
  rw[show sends n (f::l)=sends (dP n f) l from rfl,uq l (by rw[e];simp;omega),e]
  simp
def tH (i:Nat) (d:aw):List a9:=(dR d).bL.map (b9 i true)
def vb (i:Nat) (t:bZ):List a9:=t.eW.map (b9 i false)++t.b6.map (lL i t.az.aE)
theorem Qw {s:ae} {a:av} {m:aU} (hm:m.aZ.length<=6):(bF s a m).b6.length<=4/\(bF s a m).eW.length<=6:=by
 rw[bF]
 cases eqB s.aG 1
 .exact⟨by simp,by simp⟩
 simp only[au]
 cases ltB 4 (eE s)
 .simp only[cond_false,sW]
  have hl:=xC 2 {s with c9:=eE s,cR:=(iN s).2,bC:=(eP s a).2} (eP s a).1 []
  have hr:=Bo s
  exact⟨by simp at hl ⊢;omega,by simp⟩
 simp only[cond_true,BW,Y3]
 refine⟨by simp,?_⟩
 rw[mQ]
 cases ltB 0 s.eo.di
 .simp only[cond_false,z6]
  cases eqB (bif ltB s.eo.dt 4 then s.eo.dt+1 else 1) 1&&ltB 0 (((jq m (iB m s.aE)).length:Nat):Int)
  .cases inR (bif ltB s.eo.dt 4 then s.eo.dt+1 else 1) 1 4
   .simp
   simp[LD];exact hm
  simp only[cond_true,jq,Y3]
  have:=aaZ (λy:eY×Nat=>eqB y.1.fJ (iB m s.aE)) m.aZ.zipIdx
  simp at this;omega
 simp
theorem Le:∀(c i:Nat) {n:ab},i+c=n.ah.length->n.aA.length+c<=200->
 (∀(j:Nat) d,n.ah[j]?=some d->(dT c i n).ah[j]?=some (if i<=j then(dR d).aJ else d))/\
 (∃l,(dT c i n).aA=n.aA++l/\l.length<=c/\∀(j:Nat) d,n.ah[j]?=some d->l.filter (λf=>decide (f.aJ.toNat=j))=if i<=j then tH j d else [])/\
 (dT c i n).aj=n.aj/\(dT c i n).aB=n.aB/\(dT c i n).bX=n.bX/\(dT c i n).bp=n.bp/\(dT c i n).gZ=n.gZ/\(dT c i n).ah.length=n.ah.length
 |0,i,n,h,_=>by
  have e0:dT 0 i n=n:=by simp only[dT]
  rw[e0]
  refine⟨λj d hd=>?_,⟨[],by simp,by simp,λj d hd=>?_⟩,rfl,rfl,rfl,rfl,rfl,rfl⟩
  .have:=(YP.1 hd).1
   rw[if_neg oaa];exact hd
  have:=(YP.1 hd).1
  rw[if_neg oaa];rfl
 |c+1,i,n,h,hl=>by
  obtain⟨d,hd⟩:∃d,n.ah[i]?=some d:=⟨_,YO oaa⟩
  have hlen:=(mX d).len
  have hk:=cU ((dR d).bL.map (b9 i true)) {n with ah:=n.ah.set i (dR d).aJ}
  have hfl:(dM n i (dR d)).aA=n.aA++tH i d:=uq _ (by simp;omega)
  have hdl:(dM n i (dR d)).ah=n.ah.set i (dR d).aJ:=hk.1
  have ih:=Le c (i+1) (n:=dM n i (dR d)) (by rw[hdl,abw];omega) (by rw[hfl];simp[tH];omega)
  obtain⟨i1,⟨l,i2,i3,i4⟩,i5,i6,i7,i8,i9,i10⟩:=ih
  have e:dT (c+1) i n=dT c (i+1) (dM n i (dR d)):=by rw[dT,hd]
  rw[e]
  refine⟨λj x hx=>?_,⟨tH i d++l,by rw[i2,hfl,Zr],by simp[tH];omega,λj x hx=>?_⟩,i5.trans hk.2.1,i6.trans hk.2.2.1,i7.trans hk.2.2.2.1,i8.trans hk.2.2.2.2.1,i9.trans hk.2.2.2.2.2.2,by rw[i10,hdl];simp⟩
  .by_cases q:i=j
   .subst q
    rw[hd] at hx;cases hx
    rw[i1 i (dR d).aJ (by rw[hdl];exact abv oaa),if_neg oaa,if_pos oaa]
   rw[i1 j x (by rw[hdl,abr q];exact hx)]
   by_cases w:i<=j
   .rw[if_pos oaa,if_pos w]
   rw[if_neg oaa,if_neg w]
  rw[abz]
  by_cases q:i=j
  .subst q
   rw[hd] at hx;cases hx
   rw[i4 i (dR d).aJ (by rw[hdl];exact abv oaa),if_neg oaa,if_pos oaa,abu]
   exact aas.2 λf hf=>by
    obtain⟨m,_,rfl⟩:=ZQ.1 hf
    simp[b9]
  rw[i4 j x (by rw[hdl,abr q];exact hx)]
  have e0:(tH i d).filter (λf=>decide (f.aJ.toNat=j))=[]:=Z6.2 λf hf=>by
   obtain⟨m,_,rfl⟩:=ZQ.1 hf
   simp only[b9,aaH];exact λe=>q (of_decide_eq_true e)
  rw[e0,ZR]
  by_cases w:i<=j
  .rw[if_pos oaa,if_pos w]
  rw[if_neg oaa,if_neg w]
theorem Ll:∀(c i:Nat) {n:ab},n.bX.aZ.length<=6->i+c=n.aj.length->n.aB.length=n.aj.length->n.aA.length+10*c<=200->
 (∀(j:Nat) s a,n.aj[j]?=some s->n.aB[j]?=some a->(eL c i n).aj[j]?=some (if i<=j then(bF s a n.bX).az else s)/\(eL c i n).aB[j]?=some (if i<=j then(bF s a n.bX).cy else a))/\
 (∃l,(eL c i n).aA=n.aA++l/\∀(j:Nat) s a,n.aj[j]?=some s->n.aB[j]?=some a->l.filter (λf=>decide (f.aJ.toNat=j))=if i<=j then vb j (bF s a n.bX) else [])/\
 (eL c i n).ah=n.ah/\(eL c i n).bX=n.bX/\(eL c i n).bp=n.bp/\(eL c i n).gZ=n.gZ
 |0,i,n,hm,h,ha,_=>by
  have e0:eL 0 i n=n:=by simp only[eL]
  rw[e0]
  refine⟨λj s a hs hx=>?_,⟨[],by simp,λj s a hs hx=>?_⟩,rfl,rfl,rfl,rfl⟩
  .have:=(YP.1 hs).1
   simp only[if_neg (show ¬i<=j by omega)];exact⟨hs,hx⟩
  have:=(YP.1 hs).1
  rw[if_neg oaa];rfl
 |c+1,i,n,hm,h,hal,hl=>by
  obtain⟨s,hs⟩:∃s,n.aj[i]?=some s:=⟨_,YO oaa⟩
  obtain⟨a,ha⟩:∃a,n.aB[i]?=some a:=⟨_,YO oaa⟩
  obtain⟨t,ht⟩:∃t,t=bF s a n.bX:=⟨_,rfl⟩
  have hlen:=Qw (s:=s) (a:=a) hm
  rw[<-ht] at hlen
  have hk1:=cU (t.eW.map (b9 i false)) {n with aj:=n.aj.set i t.az,aB:=n.aB.set i t.cy}
  have hk2:=cU (t.b6.map (lL i t.az.aE)) (sends {n with aj:=n.aj.set i t.az,aB:=n.aB.set i t.cy} (t.eW.map (b9 i false)))
  have hf1:(sends {n with aj:=n.aj.set i t.az,aB:=n.aB.set i t.cy} (t.eW.map (b9 i false))).aA=n.aA++t.eW.map (b9 i false):=uq _ (by simp;omega)
  have hfl:(fS n i t).aA=n.aA++vb i t:=by
   rw[fS,uq _ (by rw[hf1];simp;omega),hf1,vb,Zr]
  have hse:(fS n i t).aj=n.aj.set i t.az:=by rw[fS,hk2.2.1,hk1.2.1]
  have hac:(fS n i t).aB=n.aB.set i t.cy:=by rw[fS,hk2.2.2.1,hk1.2.2.1]
  have hmp:(fS n i t).bX=n.bX:=by rw[fS,hk2.2.2.2.1,hk1.2.2.2.1]
  have hol:(vb i t).length<=10:=by simp[vb];omega
  have ih:=Ll c (i+1) (n:=fS n i t) (by rw[hmp];exact hm) (by rw[hse,abw];omega) (by rw[hse,hac];simpa using hal) (by rw[hfl];simp;omega)
  obtain⟨i1,⟨l,i2,i4⟩,i5,i6,i7,i8⟩:=ih
  have e:eL (c+1) i n=eL c (i+1) (fS n i t):=by simp only[eL,hs,ha,<-ht]
  rw[e]
  rw[hmp] at i1 i4 i6
  have hown:∀f∈vb i t,f.aJ.toNat=i:=λf hf=>by
   rcases YR.1 hf with hf|hf<;>obtain⟨m,_,rfl⟩:=ZQ.1 hf<;>simp[b9,lL]
  refine⟨λj x y hx hy=>?_,⟨vb i t++l,by rw[i2,hfl,Zr],λj x y hx hy=>?_⟩,i5.trans (by rw[fS,hk2.1,hk1.1]),i6,i7.trans (by rw[fS,hk2.2.2.2.2.1,hk1.2.2.2.2.1]),i8.trans (by rw[fS,hk2.2.2.2.2.2.2,hk1.2.2.2.2.2.2])⟩
  .by_cases q:i=j
   .subst q
    rw[hs] at hx;rw[ha] at hy;cases hx;cases hy
    have:=i1 i t.az t.cy (by rw[hse];exact abv oaa) (by rw[hac];exact abv oaa)
    rw[this.1,this.2]
    simp only[if_neg (show ¬i+1<=i by omega),if_pos (YW i),<-ht]
    exact⟨trivial,trivial⟩
   have:=i1 j x y (by rw[hse,abr q];exact hx) (by rw[hac,abr q];exact hy)
   rw[this.1,this.2]
   by_cases w:i<=j
   .simp only[if_pos (show i+1<=j by omega),if_pos w];exact⟨trivial,trivial⟩
   simp only[if_neg (show ¬i+1<=j by omega),if_neg w];exact⟨trivial,trivial⟩
  rw[abz]
  by_cases q:i=j
  .subst q
   rw[hs] at hx;rw[ha] at hy;cases hx;cases hy
   rw[i4 i t.az t.cy (by rw[hse];exact abv oaa) (by rw[hac];exact abv oaa),if_neg oaa,if_pos (YW _),abu,<-ht]
   exact aas.2 λf hf=>by rw[hown f hf];simp
  rw[i4 j x y (by rw[hse,abr q];exact hx) (by rw[hac,abr q];exact hy)]
  have e0:(vb i t).filter (λf=>decide (f.aJ.toNat=j))=[]:=Z6.2 λf hf=>by rw[hown f hf];simpa using q
  rw[e0,ZR]
  by_cases w:i<=j
  .rw[if_pos oaa,if_pos w]
  rw[if_neg oaa,if_neg w]
def vT (i:Nat) (n:ab):List a9:=n.aA.filter λf=>decide (f.aJ.toNat=i)
structure Xa (i:Nat) (n:ab) (d0:aw) (s0:ae) (a0:av) (n':ab):Prop where
 d:n'.ah[i]?=some (dR d0).aJ
 s:n'.aj[i]?=some (bF s0 a0 n.bX).az
 a:n'.aB[i]?=some (bF s0 a0 n.bX).cy
 f:vT i n'=tH i d0++vb i (bF s0 a0 n.bX)
 m:n'.bX=n.bX
 w:n'.bp=n.bp
theorem Wo {B:Int} {n:ab} (hn:NP B n) (hq:n.aA=[]) (hw:n.gZ<100000) {i:Nat} {d:aw} {s:ae} {a:av} (hd:n.ah[i]?=some d) (hs:n.aj[i]?=some s) (ha:n.aB[i]?=some a):Xa i n d s a (iA n).2:=by
 have hls:=hn.ls
 have hla:=hn.la
 have hld:=hn.ld
 have hml:=iw hn.map
 obtain⟨n1,e1⟩:∃n1,n1=dT n.ah.length 0 {n with gZ:=n.gZ+1}:=⟨_,rfl⟩
 have e:(iA n).2=eL n1.aj.length 0 n1:=by rw[iA,leB_f.2 hw,e1];rfl
 have h1:=Le n.ah.length 0 (n:={n with gZ:=n.gZ+1}) (by simp) (by simp only[hq,aaI];omega)
 rw[<-e1] at h1
 obtain⟨p1,⟨l,p2,p3,p4⟩,p5,p6,p7,p8,p9,p10⟩:=h1
 simp only[hq,ZR] at p2
 simp only at p5 p6 p7 p8
 have h2:=Ll n1.aj.length 0 (n:=n1) (by rw[p7];exact hml.2) (by simp) (by rw[p5,p6];omega) (by rw[p2,p5];omega)
 rw[p5,p6,p7] at h2
 obtain⟨q1,⟨l2,q2,q4⟩,q5,q6,q7,q8⟩:=h2
 have g1:=q1 i s a hs ha
 rw[if_pos (Y0 _),if_pos (Y0 _)] at g1
 have g2:=p1 i d hd
 rw[if_pos (Y0 _)] at g2
 refine⟨?_,?_,?_,?_,?_,?_⟩
 .rw[e,p5,q5];exact g2
 .rw[e,p5];exact g1.1
 .rw[e,p5];exact g1.2
 .rw[e,p5,vT,q2,p2,abz,p4 i d hd,q4 i s a hs ha,if_pos (Y0 _),if_pos (Y0 _)]
 .rw[e,p5,q6]
 rw[e,p5,q7,p8]
def dy (u:Int->Bool) (i:Nat) (f:a9) (d:aw) (s:ae):aw×ae×List a9:=
 bif !u f.aE then(d,s,[]) else
 bif f.dS then(bif f.bW||!eqB f.aM.aE f.aE then(d,s,[]) else(d,(sUp s f.aM).az,(sUp s f.aM).bL.map (b9 i false)))
 else bif !eqB d.aE f.aE then(d,s,[]) else
  ((bif f.bW then js d f.b6 else ia d f.aM).aJ,s,(bif f.bW then js d f.b6 else ia d f.aM).bL.map (b9 i true))
def upF (m:aU) (w:Int) (c:Int):Bool:=ew m c&&eqB (yw .i64 (Cc .i64 w c) 1) 0
theorem V0 (d:aw) (f:a9):(bif f.bW then js d f.b6 else ia d f.aM).bL.length<=1:=by
 cases f.bW
 .exact(zm d f.aM).len
 exact(zl d f.b6).len
structure QS (i:Nat) (n:ab) (d:aw) (s:ae) (f:a9) (n':ab):Prop where
 own:f.aJ.toNat=i->n'.ah[i]?=some (dy (upF n.bX n.bp) i f d s).1/\n'.aj[i]?=some (dy (upF n.bX n.bp) i f d s).2.1/\vT i n'=(vT i n).tail++(dy (upF n.bX n.bp) i f d s).2.2/\vT i n=f::(vT i n).tail
 oth:f.aJ.toNat≠i->n'.ah[i]?=some d/\n'.aj[i]?=some s/\vT i n'=vT i n
 a:n'.aB=n.aB
 m:n'.bX=n.bX
 w:n'.bp=n.bp
 t:n'.gZ=n.gZ
theorem Xo {B:Int} {n:ab} (hn:NP B n) {f:a9} {r:List a9} (hf:n.aA=f::r) {i:Nat} {d:aw} {s:ae} (hd:n.ah[i]?=some d) (hs:n.aj[i]?=some s):QS i n d s f (dJ n 0):=by
 have hl:=hn.fl
 rw[hf,YY] at hl
 have h0:n.aA[0]?=some f:=by rw[hf];rfl
 have hcut:(d7 n 0).aA=r:=by simp[d7,hf]
 have hdd:=(hn.fs f (by rw[hf];simp)).d
 obtain⟨d0,s0,a0,e1,e2,e3,hm⟩:=hn.at_ (i:=f.aJ.toNat) oaa
 have q1:(d7 n 0).ah[f.aJ.toNat]?=some d0:=e1
 have q2:(d7 n 0).aj[f.aJ.toNat]?=some s0:=e2
 have hmine:vT i n=(if f.aJ.toNat=i then [f] else [])++r.filter (λg=>decide (g.aJ.toNat=i)):=by
  rw[vT,hf,List.filter_cons]
  by_cases e:f.aJ.toNat=i
  .rw[if_pos e,if_pos (by simpa using e)];rfl
  rw[if_neg e,if_neg (by simpa using e)];rfl
 have hup:tA (d7 n 0) f.aE=upF n.bX n.bp f.aE:=rfl
 have key:∀(n':ab) (d1:aw) (s1:ae) (l:List a9),n'.ah=n.ah.set f.aJ.toNat d1->n'.aj=n.aj.set f.aJ.toNat s1->n'.aA=r++l->(∀g∈l,g.aJ.toNat=f.aJ.toNat)->
  (f.aJ.toNat=i->dy (upF n.bX n.bp) i f d s=(d1,s1,l))->n'.aB=n.aB->n'.bX=n.bX->n'.bp=n.bp->n'.gZ=n.gZ->QS i n d s f n':=by
  intro n' d1 s1 l g1 g2 g3 g4 g5 g6 g7 g8 g9
  refine⟨λe=>?_,λe=>?_,g6,g7,g8,g9⟩
  .have hil:=(YP.1 hd).1
   have his:=(YP.1 hs).1
   rw[g5 e,g1,g2,e]
   rw[if_pos e] at hmine
   refine⟨by simp[hil],by simp[his],?_,?_⟩
   .rw[hmine,vT,g3,abz]
    congr 1
    exact aas.2 λg hg=>by rw[g4 g hg,e];simp
   rw[hmine];rfl
  rw[if_neg e] at hmine
  refine⟨by rw[g1,abr e];exact hd,by rw[g2,abr e];exact hs,?_⟩
  rw[hmine,vT,g3,abz,ZR]
  have:l.filter (λg=>decide (g.aJ.toNat=i))=[]:=Z6.2 λg hg=>by rw[g4 g hg];simpa using e
  rw[this,abu]
 have hsame:∀n':ab,n'.ah=n.ah->n'.aj=n.aj->n'.aA=r->(f.aJ.toNat=i->dy (upF n.bX n.bp) i f d s=(d,s,[]))->n'.aB=n.aB->n'.bX=n.bX->n'.bp=n.bp->n'.gZ=n.gZ->QS i n d s f n':=by
  intro n' g1 g2 g3 g5 g6 g7 g8 g9
  refine key n' d0 s0 [] (by rw[fk e1];exact g1) (by rw[fk e2];exact g2) (by rw[g3,abu]) (by simp) (λe=>?_) g6 g7 g8 g9
  rw[g5 e]
  rw[e,hd] at e1;rw[e,hs] at e2;cases e1;cases e2;rfl
 rw[dJ,h0]
 simp only
 rw[hup]
 cases hu:upF n.bX n.bp f.aE
 .simp only[au]
  exact hsame _ rfl rfl hcut (λe=>by simp[dy,hu]) rfl rfl rfl rfl
 simp only[q1,q2,au]
 cases hU:f.dS
 .simp only[cond_false]
  cases hc:eqB d0.aE f.aE
  .simp only[au]
   refine hsame _ rfl rfl hcut (λe=>?_) rfl rfl rfl rfl
   rw[e,hd] at e1;cases e1
   simp[dy,hu,hU,hc]
  simp only[au]
  have hk:=cU ((bif f.bW then js d0 f.b6 else ia d0 f.aM).bL.map (b9 (f.aJ.toNat:Int) true)) {d7 n 0 with ah:=(d7 n 0).ah.set f.aJ.toNat (bif f.bW then js d0 f.b6 else ia d0 f.aM).aJ}
  have hlen:=V0 d0 f
  refine key _ (bif f.bW then js d0 f.b6 else ia d0 f.aM).aJ s0 ((bif f.bW then js d0 f.b6 else ia d0 f.aM).bL.map (b9 (f.aJ.toNat:Int) true)) hk.1 (by rw[fk e2];exact hk.2.1) ?_ (λg hg=>?_) (λe=>?_) hk.2.2.1 hk.2.2.2.1 hk.2.2.2.2.1 hk.2.2.2.2.2.2
  .rw[dM,uq _ (by rw[show({d7 n 0 with ah:=(d7 n 0).ah.set f.aJ.toNat (bif f.bW then js d0 f.b6 else ia d0 f.aM).aJ}:ab).aA=r from hcut];simp;omega)]
   show(d7 n 0).aA++_=_
   rw[hcut]
  .obtain⟨m,_,rfl⟩:=ZQ.1 hg;exact aaH _
  rw[e,hd] at e1;rw[e,hs] at e2;cases e1;cases e2
  simp[dy,hu,hU,hc,e]
 simp only[cond_true]
 cases hc:f.bW||!eqB f.aM.aE f.aE
 .simp only[cond_false]
  have hk:=cU ((sUp s0 f.aM).bL.map (b9 (f.aJ.toNat:Int) false)) {d7 n 0 with aj:=(d7 n 0).aj.set f.aJ.toNat (sUp s0 f.aM).az}
  have hlen:=(Is s0 f.aM).len
  refine key _ d0 (sUp s0 f.aM).az ((sUp s0 f.aM).bL.map (b9 (f.aJ.toNat:Int) false)) (by rw[fk e1];exact hk.1) hk.2.1 ?_ (λg hg=>?_) (λe=>?_) hk.2.2.1 hk.2.2.2.1 hk.2.2.2.2.1 hk.2.2.2.2.2.2
  .rw[rN,uq _ (by rw[show({d7 n 0 with aj:=(d7 n 0).aj.set f.aJ.toNat (sUp s0 f.aM).az}:ab).aA=r from hcut];simp;omega)]
   show(d7 n 0).aA++_=_
   rw[hcut]
  .obtain⟨m,_,rfl⟩:=ZQ.1 hg;exact aaH _
  rw[e,hd] at e1;rw[e,hs] at e2;cases e1;cases e2
  simp[dy,hu,hU,hc,e]
 simp only[cond_true]
 refine hsame _ rfl rfl hcut (λe=>?_) rfl rfl rfl rfl
 simp[dy,hu,hU,hc]
structure vP (K G:Int) (nc i:Nat) (d:aw) (s:ae) (a:av) (F:List a9):Prop where
 mp:MP nc i d s a
 si:SI d s a
 li:LI K d s
 sq:s.be.cQ<=G
 fi:∀f∈F,FI d s f
 lf:∀f∈F,LF K d s f
theorem L0 {B K G:Int} {n:ab} (hn:NP B n) (p:PI n) (l:LN K n) (g:GB G n) {i:Nat} {d:aw} {s:ae} {a:av} (hd:n.ah[i]?=some d) (hs:n.aj[i]?=some s) (ha:n.aB[i]?=some a):vP K G n.bX.aZ.length i d s a (vT i n):=by
 refine⟨hn.m i d s a hd hs ha,p.si i d s a hd hs ha,l.li i d s hd hs,?_,λf hf=>?_,λf hf=>?_⟩
 .have:=g i s hs
  have:=Oq n.aA i
  omega
 all_goals
  obtain⟨h1,h2⟩:=ZZ.1 hf
  have h2:f.aJ.toNat=i:=by simpa using h2
 .exact p.fi f h1 d s (by rw[h2];exact hd) (by rw[h2];exact hs)
 exact l.lf f h1 d s (by rw[h2];exact hd) (by rw[h2];exact hs)
theorem Yq {P:aw->ae->List a9->Prop} {m:aU} {w:Int} {i:Nat} {a:av} {KK G:Int}
 (qh:∀(d:aw) (s:ae) (f:a9) (F:List a9),vP KK G m.aZ.length i d s a (f::F)->vP KK G m.aZ.length i (dy (upF m w) i f d s).1 (dy (upF m w) i f d s).2.1 a (F++(dy (upF m w) i f d s).2.2)->P d s (f::F)->P (dy (upF m w) i f d s).1 (dy (upF m w) i f d s).2.1 (F++(dy (upF m w) i f d s).2.2)):
 ∀(c:Nat) {B K:Int} {n:ab} {d:aw} {s:ae},NP B n->B+c<4611686018427387904->PI n->LN K n->K+c<=KK->GB G n->n.bX=m->n.bp=w->n.aB[i]?=some a->n.ah[i]?=some d->n.aj[i]?=some s->P d s (vT i n)->
  ∃d' s',(kK c n).ah[i]?=some d'/\(kK c n).aj[i]?=some s'/\(kK c n).aB[i]?=some a/\P d' s' (vT i (kK c n))/\(kK c n).bX=m/\(kK c n).bp=w/\(kK c n).gZ=n.gZ
 |0,B,K,n,d,s,hn,_,p,l,hk,g,h1,h2,ha,hd,hs,hp=>⟨d,s,hd,hs,ha,hp,h1,h2,rfl⟩
 |c+1,B,K,n,d,s,hn,hB,p,l,hk,g,h1,h2,ha,hd,hs,hp=>by
  rw[kK]
  cases hf:n.aA with
  |nil=>
   simp only[aaI]
   rw[show eqB ((0:Nat):Int) 0=true from eqB_t.2 rfl]
   exact⟨d,s,hd,hs,ha,hp,h1,h2,rfl⟩
  |cons f r=>
   rw[eqB_f.2 (show(((f::r).length:Nat):Int)≠0 by simp only[YY];omega)]
   simp only[cond_false]
   have hat:=Xo hn hf hd hs
   have hn':=mA hn 0 oaa
   have p':=uO hn p 0
   have l':=yD hn p l 0
   have g':=yC hn g 0
   have m':(dJ n 0).bX=m:=hat.m.trans h1
   have w':(dJ n 0).bp=w:=hat.w.trans h2
   have a':(dJ n 0).aB[i]?=some a:=by rw[hat.a];exact ha
   have step:∀{d' s'},(dJ n 0).ah[i]?=some d'->(dJ n 0).aj[i]?=some s'->P d' s' (vT i (dJ n 0))->_:=λ{d' s'} x y z=>by
    have:=Yq qh c hn' oaa p' l' oaa g' m' w' a' x y z
    rw[hat.t] at this
    exact this
   by_cases e:f.aJ.toNat=i
   .obtain⟨o1,o2,o3,o4⟩:=hat.own e
    rw[h1,h2] at o1 o2 o3
    have e1:=(L0 hn p (l.up (K':=KK) oaa) g hd hs ha)
    have e2:=(L0 hn' p' (l'.up (K':=KK) oaa) g' o1 o2 a')
    rw[h1,o4] at e1
    rw[m',o3] at e2
    refine step o1 o2 ?_
    rw[o3]
    exact qh d s f _ e1 e2 (by rw[<-o4];exact hp)
   obtain⟨o1,o2,o3⟩:=hat.oth e
   exact step o1 o2 (by rw[o3];exact hp)
def tM (i:Int) (l:List aY):Prop:=∀x∈l,x.aC=i
theorem Q5 {i n:Int}:∀{l:List aY},tM i l->tM i (Da l i n)
 |[],_=>λx hx=>by simp[Da] at hx;subst hx;rfl
 |y::l,h=>by
  have h1:tM i l:=λx hx=>h x (by simp[hx])
  have hy:=h y (by simp)
  rw[Da,if_neg oaa,if_pos hy]
  intro x hx
  rcases YU.1 hx with rfl|hx
  .rfl
  exact h1 x hx
theorem Rm {i n:Int}:∀{l:List aY},tM i l->tM i (Jw l i n)
 |[],_=>λx hx=>by simp[Jw] at hx
 |y::l,h=>by
  have h1:tM i l:=λx hx=>h x (by simp[hx])
  have hy:=h y (by simp)
  rw[Jw,if_pos hy]
  split
  .intro x hx
   rcases YU.1 hx with rfl|hx
   .rfl
   exact h1 x hx
  exact h1
theorem KL {a:av} {i n:Int} (h:tM i a.ay):tM i (iy a i n).1.ay:=by
 rw[iy]
 cases ltB i 0||(!inR n 1 100000||(eqB a.bK 0||full a i))
 .exact Q5 h
 exact h
theorem Py {a:av} {i n:Int} (h:tM i a.ay):tM i (wh a i n).ay:=by
 rw[wh]
 cases ltB 0 n
 .exact h
 exact Rm h
theorem DD {s:ae} {a:av} {n:Int} (h:tM s.bC.aC a.ay):tM s.bC.aC (bS s a n).2.ay:=by
 rw[bS]
 cases leB (gk s n) 0
 .exact KL h
 exact h
def pH (s:ae) (a:av):Int:=a.dW+a.bK+s.bC.cB
theorem DE {s:ae} {a:av} (h:SG s a) (n:Int):pH (bS s a n).1 (bS s a n).2=pH s a/\(bS s a n).1.bC.d4=s.bC.d4:=by
 rw[bS]
 cases leB (gk s n) 0
 .obtain⟨h1,h2,h3,h4,h5,h6,h7⟩:=vf h.mo.acc s.bC.aC (wW (gk s n) s.gT.dQ)
  refine⟨?_,rfl⟩
  simp only[cond_false,pH,jI]
  rw[h5,h6];omega
 exact⟨rfl,rfl⟩
theorem GS:∀(k:Nat) (s:ae) (a:av) (r:List aK),SG s a->tM s.bC.aC a.ay->
 pH (fT k s a r).1 (fT k s a r).2.1=pH s a/\tM s.bC.aC (fT k s a r).2.1.ay
 |0,s,a,r,h,o=>⟨rfl,o⟩
 |k+1,s,a,r,h,o=>by
  rw[fT]
  cases e:mN s with
  |none=>exact⟨rfl,o⟩
  |some x=>
   obtain⟨hm,hx,_,hn,hl,hb⟩:=iX h.sp e
   have he:=qG h (n:=(x.a8.length:Int)) oaa
   obtain⟨q,hk⟩:=iE s a (x.a8.length:Int)
   have hid:=AX s a (x.a8.length:Int)
   have ht:=(DE h (x.a8.length:Int)).1
   have ho:=DD (n:=(x.a8.length:Int)) o
   simp only
   cases hq:ltB 0 (gk (bS s a (x.a8.length:Int)).1 (x.a8.length:Int))
   .simp only[cond_false]
    have ih:=GS k {(bS s a (x.a8.length:Int)).1 with aq:=sent (bS s a (x.a8.length:Int)).1.aq x.a8} (bS s a (x.a8.length:Int)).2
     (r++[iQ (bS s a (x.a8.length:Int)).1.aV (bS s a (x.a8.length:Int)).1.ag (bS s a (x.a8.length:Int)).1.aF ⟨(bS s a (x.a8.length:Int)).1.aq.bb,x.a8⟩])
     (xD he (by rw[hk];exact e) hq) (by simp only;rw[hid];exact ho)
    simp only at ih
    rw[hid] at ih
    exact⟨ih.1.trans ht,ih.2⟩
   exact⟨ht,ho⟩
theorem F9 {s:ae} {a:av} (h:tM s.bC.aC a.ay):tM s.bC.aC (eP s a).1.ay:=by
 rw[eP]
 cases leB s.gT.dQ s.bC.d4
 .exact h
 exact Py h
theorem Bs {s:ae} {a:av} (h:SG s a) (m:aU) (o:tM s.bC.aC a.ay):
 pH (bF s a m).az (bF s a m).cy=pH s a/\tM s.bC.aC (bF s a m).cy.ay:=by
 have hg:=wq h
 have ho:=F9 o
 have e:(eP s a).1.dW+(eP s a).1.bK+(eP s a).2.cB=pH s a:=by
  obtain⟨_,g2,_,g4,_,g6⟩:=hg
  simp only[pH];omega
 rw[bF]
 cases eqB s.aG 1
 .exact⟨rfl,o⟩
 simp only[au]
 cases ltB 4 (eE s)
 .simp only[cond_false,sW]
  have hn:=GS 2 _ _ [] (h.upd (uh h.sp) (uj h.sp)) (by simp only;rw[hg.2.2.1];exact ho)
  simp only at hn
  rw[hg.2.2.1] at hn
  exact⟨hn.1.trans e,hn.2⟩
 exact⟨e,ho⟩
def RA (n:ab):Prop:=∀(i:Nat) a,n.aB[i]?=some a->tM i a.ay
theorem GV:∀(c i:Nat) (n:ab),(dT c i n).aB=n.aB
 |0,_,_=>rfl
 |c+1,i,n=>by
  rw[dT]
  cases n.ah[i]? with
  |none=>rfl
  |some d=>exact(GV c (i+1) _).trans (iq n i (dR d)).2.2.2.1
theorem Lj:∀(c i:Nat) {B:Int} {n:ab},NP B n->B+2000*c<4611686018427387904->RA n->RA (eL c i n)
 |0,_,B,n,_,_,h=>h
 |c+1,i,B,n,hn,hB,h=>by
  rw[eL]
  cases hs:n.aj[i]? with
  |none=>exact h
  |some s=>cases ha:n.aB[i]? with
   |none=>exact h
   |some a=>
    have hls:=hn.ls
    have hml:=iw hn.map
    obtain⟨d,s',a',e1,e2,e3,hm⟩:=hn.at_ (i:=i) (by have:=(YP.1 hs).1;omega)
    rw[hs] at e2;rw[ha] at e3;cases e2;cases e3
    have ho:=h i a ha
    rw[<-hm.si] at ho
    have ht:=(Bs hm.sg n.bX ho).2
    rw[hm.si] at ht
    refine Lj c (i+1) (Ad hn hs ha (me hm.sg oaa) (xc hm.sg hn.map) oaa) oaa λj x hx=>?_
    have k1:=cU ((bF s a n.bX).eW.map (b9 i false)) {n with aj:=n.aj.set i (bF s a n.bX).az,aB:=n.aB.set i (bF s a n.bX).cy}
    have k2:=cU ((bF s a n.bX).b6.map (lL i (bF s a n.bX).az.aE)) (sends {n with aj:=n.aj.set i (bF s a n.bX).az,aB:=n.aB.set i (bF s a n.bX).cy} ((bF s a n.bX).eW.map (b9 i false)))
    have hx':(n.aB.set i (bF s a n.bX).cy)[j]?=some x:=by simpa [fS,k2.2.2.1,k1.2.2.1] using hx
    rcases gI hx' with⟨e1,e2⟩|⟨e1,e2⟩
    .subst e1;subst e2;exact ht
    exact h j x e2
theorem Lc:∀(c i:Nat) {B:Int} {n:ab},NP B n->B+c<4611686018427387904->NP (B+c) (dT c i n)
 |0,_,_,_,hn,_=>by simpa [dT] using hn
 |c+1,i,B,n,hn,hB=>by
  rw[dT]
  cases hd:n.ah[i]? with
  |none=>exact hn.mono oaa
  |some d=>
   obtain⟨d',s,a,e1,e2,e3,hm⟩:=hn.at_ (YP.1 hd).1
   rw[hd] at e1;cases e1
   exact(Lc c (i+1) (kh hn hd (mX d) (wg hm.dp) hm.dc oaa) oaa).mono oaa
theorem O6 {B:Int} {n:ab} (hn:NP B n) (hB:B+10000<4611686018427387904) (h:RA n):RA (iA n).2:=by
 rw[iA]
 cases hb:leB 100000 n.gZ
 .simp only[cond_false]
  have hb:=tD hb
  have hnw:=hn.nw
  have hl:=hn.ld
  have h1:NP B {n with gZ:=n.gZ+1}:={hn with nw:=by simp only;omega}
  have a3:=Lc n.ah.length 0 h1 oaa
  have hls:=a3.ls
  have hl2:=a3.ld
  exact Lj _ 0 a3 oaa (λj x hx=>h j x (by rw[GV] at hx;exact hx))
 exact h
theorem BE (n:ab) (k:Nat):(dJ n k).aB=n.aB:=by
 rw[dJ]
 cases n.aA[k]? with
 |none=>rfl
 |some f=>
  simp only
  cases tA (d7 n k) f.aE
  .rfl
  simp only[au]
  cases f.dS
  .simp only[cond_false]
   cases(d7 n k).ah[f.aJ.toNat]? with
   |none=>rfl
   |some d=>
    simp only
    cases eqB d.aE f.aE
    .rfl
    exact(iq (d7 n k) f.aJ.toNat _).2.2.2.1
  simp only[cond_true]
  cases f.bW||!eqB f.aM.aE f.aE
  .simp only[cond_false]
   cases(d7 n k).aj[f.aJ.toNat]? with
   |none=>rfl
   |some s=>exact(cU _ _).2.2.1
  rfl
theorem Jk {B:Int} {n:ab} (hn:NP B n) (hB:B+10000<4611686018427387904) (h:RA n) (e:cr):RA (dZ n e).2:=by
 have keep:∀n':ab,n'.aB=n.aB->RA n':=λn' e j x hx=>h j x (by rw[<-e];exact hx)
 rw[dZ]
 split
 .exact O6 hn hB h
 split
 .rw[oW]
  cases inR e.bR 0 ((n.aA.length:Int)-1)
  .exact h
  simp only[au]
  cases eqB e.aS 2
  .simp only[cond_false]
   cases eqB e.aS 3
   .simp only[cond_false]
    cases leB 200 (n.aA.length:Int)
    .simp only[cond_false]
     cases n.aA[e.bR.toNat]? with
     |none=>exact h
     |some f=>exact keep _ (fQ n f).2.2.1
    exact h
   exact keep _ rfl
  exact keep _ (BE n _)
 split
 .rw[wX]
  cases inR e.bR 0 ((n.ah.length:Int)-1)
  .exact h
  simp only[au]
  cases n.ah[e.bR.toNat]? with
  |none=>exact h
  |some d=>cases n.aj[e.bR.toNat]? with
   |none=>exact h
   |some s=>
    simp only
    cases eqB e.aS 5
    .simp only[cond_false]
     cases eqB e.aS 6
     .simp only[cond_false]
      cases eqB e.aS 7
      .simp only[cond_false]
       cases(mS s e.a8).2
       .exact h
       exact keep _ rfl
      simp only[cond_true]
      cases eqB d.aG 2
      .exact h
      exact keep _ rfl
     simp only[cond_true]
     cases eqB e.aE d.aE||!ew n.bX e.aE
     .exact keep _ (iq n _ _).2.2.2.1
     exact h
    simp only[cond_true]
    cases eqB d.aG 0
    .exact h
    exact keep _ (iq n _ _).2.2.2.1
 split
 .rw[yl];cases !ew n.bX e.bR||booB (tA n e.bR) (eqB e.aS 10)
  .exact keep _ rfl
  exact h
 split
 .rw[kE];cases !inR e.bR 0 (n.eD.hP-1)||(booB (uB n.eD e.bR) (eqB e.aS 12)||eqB (kF n.eD e.bR (eqB e.aS 12)).f7 0)
  .exact keep _ rfl
  exact h
 split
 .rw[tG];cases Ac n e.dK
  .exact h
  exact keep _ (fQ n _).2.2.1
 exact h
theorem mV.ra:∀{k:Nat} {n:ab},mV k n->k<=100000->RA n
 |_,_,.new h hm hp hl hq,_=>λi a ha=>by
  obtain⟨_,rfl⟩:=pE ha
  intro x hx;simp[xL] at hx
 |_,_,.step (k:=k) h he hh,hk=>Jk (h.np oaa) oaa (h.ra oaa) _
theorem W2 (n:ab):dZ n ⟨1,0,0,[],bU⟩=iA n:=by rw[dZ,if_pos rfl]
theorem IL {B:Int} {n:ab} (hn:NP B n) (hB:B+10000<4611686018427387904) (p:PI n):PI (iA n).2:=by
 have:=De hn hB p (e:=⟨1,0,0,[],bU⟩) (wi (by intro x hx;simp at hx)) (ph n (by simp))
 rwa [W2] at this
structure EQ (r:Nat) (n:ab):Prop where
 np:∃B:Int,NP B n/\B+14000*r<=1000000000000
 pi:PI n
 ln:∃K:Int,LN K n/\K+4100*r<=900000
 gb:∃G:Int,GB G n/\G+r<=900
 ra:RA n
 nw:n.gZ+r<=100000
theorem IK {K B:Int} {n:ab} (hK:K<999999) (hn:NP B n) (hB:B+10000<4611686018427387904) (p:PI n) (h:LN K n):LN (K+8) (iA n).2:=by
 have:=Dd hK hn hB p h (e:=⟨1,0,0,[],bU⟩) (ph n (by simp))
 rwa [W2] at this
theorem NB:∀(c:Nat) {B K:Int} {n:ab},NP B n->B+c<4611686018427387904->PI n->LN K n->LN (K+c) (kK c n)
 |0,B,K,n,h,_,_,l=>by simpa [kK] using l
 |c+1,B,K,n,h,hB,p,l=>by
  rw[kK]
  cases eqB (n.aA.length:Int) 0
  .exact(NB c (mA h 0 oaa) oaa (uO h p 0) (yD h p l 0)).up oaa
  exact l.up oaa
theorem NA:∀(c:Nat) {B G:Int} {n:ab},NP B n->B+c<4611686018427387904->GB G n->GB G (kK c n)
 |0,B,G,n,h,_,l=>l
 |c+1,B,G,n,h,hB,l=>by
  rw[kK]
  cases eqB (n.aA.length:Int) 0
  .exact NA c (mA h 0 oaa) oaa (yC h l 0)
  exact l
theorem Jz:∀(c:Nat) (n:ab),(kK c n).aB=n.aB
 |0,n=>rfl
 |c+1,n=>by
  rw[kK]
  cases eqB (n.aA.length:Int) 0
  .exact(Jz c _).trans (BE n 0)
  rfl
theorem zo (n:ab) (k:Nat):(dJ n k).bX=n.bX/\(dJ n k).bp=n.bp/\(dJ n k).gZ=n.gZ/\(dJ n k).ah.length=n.ah.length:=by
 rw[dJ]
 cases n.aA[k]? with
 |none=>exact⟨rfl,rfl,rfl,rfl⟩
 |some f=>
  simp only
  cases tA (d7 n k) f.aE
  .exact⟨rfl,rfl,rfl,rfl⟩
  simp only[au]
  cases f.dS
  .simp only[cond_false]
   cases(d7 n k).ah[f.aJ.toNat]? with
   |none=>exact⟨rfl,rfl,rfl,rfl⟩
   |some d=>
    simp only
    cases eqB d.aE f.aE
    .exact⟨rfl,rfl,rfl,rfl⟩
    simp only[au]
    have hk:=cU ((bif f.bW then js d f.b6 else ia d f.aM).bL.map (b9 (f.aJ.toNat:Int) true)) {d7 n k with ah:=(d7 n k).ah.set f.aJ.toNat (bif f.bW then js d f.b6 else ia d f.aM).aJ}
    exact⟨hk.2.2.2.1,hk.2.2.2.2.1,hk.2.2.2.2.2.2,by rw[dM,hk.1];simp[d7]⟩
  simp only[cond_true]
  cases f.bW||!eqB f.aM.aE f.aE
  .simp only[cond_false]
   cases(d7 n k).aj[f.aJ.toNat]? with
   |none=>exact⟨rfl,rfl,rfl,rfl⟩
   |some s=>
    have hk:=cU ((sUp s f.aM).bL.map (b9 (f.aJ.toNat:Int) false)) {d7 n k with aj:=(d7 n k).aj.set f.aJ.toNat (sUp s f.aM).az}
    exact⟨hk.2.2.2.1,hk.2.2.2.2.1,hk.2.2.2.2.2.2,by simp only[rN];rw[hk.1];rfl⟩
  exact⟨rfl,rfl,rfl,rfl⟩
theorem FW:∀(c:Nat) (n:ab),(kK c n).bX=n.bX/\(kK c n).bp=n.bp/\(kK c n).gZ=n.gZ/\(kK c n).ah.length=n.ah.length
 |0,n=>⟨rfl,rfl,rfl,rfl⟩
 |c+1,n=>by
  rw[kK]
  cases eqB (n.aA.length:Int) 0
  .have h1:=FW c (dJ n 0)
   have h2:=zo n 0
   exact⟨h1.1.trans h2.1,h1.2.1.trans h2.2.1,h1.2.2.1.trans h2.2.2.1,h1.2.2.2.trans h2.2.2.2⟩
  exact⟨rfl,rfl,rfl,rfl⟩
theorem EW:∀(c i:Nat) (n:ab),(eL c i n).bX=n.bX/\(eL c i n).bp=n.bp/\(eL c i n).gZ=n.gZ/\(eL c i n).ah.length=n.ah.length
 |0,_,n=>⟨rfl,rfl,rfl,rfl⟩
 |c+1,i,n=>by
  rw[eL]
  cases n.aj[i]? with
  |none=>exact⟨rfl,rfl,rfl,rfl⟩
  |some s=>cases n.aB[i]? with
   |none=>exact⟨rfl,rfl,rfl,rfl⟩
   |some a=>
    have k1:=cU ((bF s a n.bX).eW.map (b9 i false)) {n with aj:=n.aj.set i (bF s a n.bX).az,aB:=n.aB.set i (bF s a n.bX).cy}
    have k2:=cU ((bF s a n.bX).b6.map (lL i (bF s a n.bX).az.aE)) (sends {n with aj:=n.aj.set i (bF s a n.bX).az,aB:=n.aB.set i (bF s a n.bX).cy} ((bF s a n.bX).eW.map (b9 i false)))
    have ih:=EW c (i+1) (fS n i (bF s a n.bX))
    simp only[fS] at ih ⊢
    rw[k2.2.2.2.1,k2.2.2.2.2.1,k2.2.2.2.2.2.2,k2.1,k1.2.2.2.1,k1.2.2.2.2.1,k1.2.2.2.2.2.2,k1.1] at ih
    exact ih
theorem EU:∀(c i:Nat) (n:ab),(dT c i n).bX=n.bX/\(dT c i n).bp=n.bp/\(dT c i n).gZ=n.gZ/\(dT c i n).ah.length=n.ah.length
 |0,_,n=>⟨rfl,rfl,rfl,rfl⟩
 |c+1,i,n=>by
  rw[dT]
  cases n.ah[i]? with
  |none=>exact⟨rfl,rfl,rfl,rfl⟩
  |some d=>
   have hk:=cU ((dR d).bL.map (b9 i true)) {n with ah:=n.ah.set i (dR d).aJ}
   have ih:=EU c (i+1) (dM n i (dR d))
   simp only[dM] at ih ⊢
   rw[hk.2.2.2.1,hk.2.2.2.2.1,hk.2.2.2.2.2.2,hk.1,abw] at ih
   exact ih
theorem Bw {n:ab} (hw:n.gZ<100000):(iA n).2.bX=n.bX/\(iA n).2.bp=n.bp/\(iA n).2.gZ=n.gZ+1/\(iA n).2.ah.length=n.ah.length:=by
 rw[iA,leB_f.2 hw]
 simp only[cond_false]
 have h1:=EU n.ah.length 0 {n with gZ:=n.gZ+1}
 have h2:=EW (dT n.ah.length 0 {n with gZ:=n.gZ+1}).aj.length 0 (dT n.ah.length 0 {n with gZ:=n.gZ+1})
 exact⟨h2.1.trans h1.1,h2.2.1.trans h1.2.1,h2.2.2.1.trans h1.2.2.1,h2.2.2.2.trans h1.2.2.2⟩
theorem rP {n:ab} (hw:n.gZ<100000):(dN n).bX=n.bX/\(dN n).bp=n.bp/\(dN n).gZ=n.gZ+1/\(dN n).ah.length=n.ah.length:=by
 have h1:=Bw hw
 have h2:=FW 4000 (iA n).2
 exact⟨h2.1.trans h1.1,h2.2.1.trans h1.2.1,h2.2.2.1.trans h1.2.2.1,h2.2.2.2.trans h1.2.2.2⟩
theorem EQ.round {r:Nat} {n:ab} (h:EQ (r+1) n):EQ r (dN n)/\(dN n).aA=[]:=by
 obtain⟨B,hn,hB⟩:=h.np
 obtain⟨K,hl,hK⟩:=h.ln
 obtain⟨G,hg,hG⟩:=h.gb
 have hw:=h.nw
 have t1:=(qN hn oaa).2.2
 have t2:=IL hn oaa h.pi
 have t3:=IK oaa hn oaa h.pi hl
 have t4:=AC hg
 have t5:=O6 hn oaa h.ra
 refine⟨⟨⟨_,HA 4000 t1 oaa,by omega⟩,NC 4000 t1 oaa t2,⟨_,NB 4000 t1 oaa t2 t3,by omega⟩,⟨_,NA 4000 t1 oaa t4,by omega⟩,?_,?_⟩,BT t1 oaa⟩
 .intro j x hx
  rw[dN,Jz] at hx
  exact t5 j x hx
 rw[(rP oaa).2.2.1];omega
theorem Qs {P:aw->ae->List a9->Prop} {r:Nat} {n:ab} (h:EQ (r+1) n) (hf:n.aA=[]) {i:Nat} {d:aw} {s:ae} {a:av} (hd:n.ah[i]?=some d) (hs:n.aj[i]?=some s) (ha:n.aB[i]?=some a)
 (qh:∀(d':aw) (s':ae) (f:a9) (F:List a9),vP 900000 900 n.bX.aZ.length i d' s' (bF s a n.bX).cy (f::F)->vP 900000 900 n.bX.aZ.length i (dy (upF n.bX n.bp) i f d' s').1 (dy (upF n.bX n.bp) i f d' s').2.1 (bF s a n.bX).cy (F++(dy (upF n.bX n.bp) i f d' s').2.2)->P d' s' (f::F)->P (dy (upF n.bX n.bp) i f d' s').1 (dy (upF n.bX n.bp) i f d' s').2.1 (F++(dy (upF n.bX n.bp) i f d' s').2.2))
 (h0:vP 900000 900 n.bX.aZ.length i (dR d).aJ (bF s a n.bX).az (bF s a n.bX).cy (tH i d++vb i (bF s a n.bX))->P (dR d).aJ (bF s a n.bX).az (tH i d++vb i (bF s a n.bX))):
 ∃d' s',(dN n).ah[i]?=some d'/\(dN n).aj[i]?=some s'/\(dN n).aB[i]?=some (bF s a n.bX).cy/\P d' s' []:=by
 obtain⟨B,hn,hB⟩:=h.np
 obtain⟨K,hl,hK⟩:=h.ln
 obtain⟨G,hg,hG⟩:=h.gb
 have hw:=h.nw
 have t1:=(qN hn oaa).2.2
 have t2:=IL hn oaa h.pi
 have t3:=IK oaa hn oaa h.pi hl
 have t4:=(AC hg).up (G':=900) oaa
 have ht:=Wo hn hf oaa hd hs ha
 have e0:=L0 t1 t2 (t3.up (K':=900000) oaa) t4 ht.d ht.s ht.a
 rw[ht.m,ht.f] at e0
 obtain⟨d',s',q1,q2,q3,q4,_⟩:=Yq qh 4000 t1 oaa t2 t3 oaa t4 ht.m ht.w ht.a ht.d ht.s (by rw[ht.f];exact h0 e0)
 refine⟨d',s',q1,q2,q3,?_⟩
 have:vT i (kK 4000 (iA n).2)=[]:=by rw[vT,BT t1 oaa];rfl
 rw[this] at q4
 exact q4
theorem T3 (s:ae) (m:aR):(sUp s m).az.ax=s.ax/\(sUp s m).az.bC.cB=s.bC.cB/\(sUp s m).az.bC.aC=s.bC.aC/\(sUp s m).az.gT=s.gT:=by
 rw[sUp]
 cases ey m
 .exact⟨rfl,rfl,rfl,rfl⟩
 simp only[au]
 cases eqB m.aS 1
 .simp only[cond_false]
  cases eqB m.aS 3
  .simp only[cond_false]
   cases eqB m.aS 5
   .simp only[cond_false]
    cases eqB m.aS 8
    .exact⟨rfl,rfl,rfl,rfl⟩
    simp only[cond_true,um]
    cases !f6 s m||ltB s.aq.bb m.bI
    .simp only[cond_false,jJ,uM]
     cases inR (fY s.aq.aD-fY (lO s.aq m.bI).aD) 0 (s.bC.cB-s.bC.d4)<;>refine⟨?_,?_,?_,?_⟩<;>first|rfl|trivial
    exact⟨rfl,rfl,rfl,rfl⟩
   simp only[cond_true,md]
   cases !f6 s m||(ltB m.aF s.aF||(eqB m.aF s.aF&&!eqB m.aE s.aE))<;>exact⟨rfl,rfl,rfl,rfl⟩
  simp only[cond_true,qk]
  cases leB s.bi 0||(!eqB m.ag s.bi||(!eqB m.bI s.aO.xW||leB 999999 s.aF))<;>exact⟨rfl,rfl,rfl,rfl⟩
 simp only[cond_true,xT]
 cases eqB s.be.cQ 999999<;>exact⟨rfl,rfl,rfl,rfl⟩
structure KP (d0:aw) (s0:ae) (d:aw) (s:ae):Prop where
 c:d.aE=d0.aE
 u:s.ax=s0.ax
 g:s.bC.cB=s0.bC.cB
 i:s.bC.aC=s0.bC.aC
theorem KP.refl (d:aw) (s:ae):KP d s d s:=⟨rfl,rfl,rfl,rfl⟩
theorem O2 {u:Int->Bool} {i:Nat} {f:a9} {d0 d:aw} {s0 s:ae} (h:KP d0 s0 d s):KP d0 s0 (dy u i f d s).1 (dy u i f d s).2.1:=by
 rw[dy]
 cases u f.aE
 .exact h
 simp only[au]
 cases f.dS
 .simp only[cond_false]
  cases eqB d.aE f.aE
  .exact h
  simp only[au]
  refine⟨?_,h.u,h.g,h.i⟩
  rw[<-h.c]
  cases f.bW
  .exact(zm d f.aM).cell
  exact(zl d f.b6).cell
 simp only[cond_true]
 cases f.bW||!eqB f.aM.aE f.aE
 .obtain⟨h1,h2,h3,_⟩:=T3 s f.aM
  exact⟨h.c,h1.trans h.u,h2.trans h.g,h3.trans h.i⟩
 exact h
theorem Dw (d:aw):(dR d).aJ.aE=d.aE:=(mX d).cell
structure E9 (n:ab) (i:Nat) (d:aw) (s:ae) (a:av) (d':aw) (s':ae) (a':av):Prop where
 c:d'.aE=d.aE
 u:s'.ax=s.ax
 t:pH s' a'=pH s a
theorem uk {P:aw->ae->List a9->Prop} {r:Nat} {n:ab} (h:EQ (r+1) n) (hf:n.aA=[]) {i:Nat} {d:aw} {s:ae} {a:av} (hd:n.ah[i]?=some d) (hs:n.aj[i]?=some s) (ha:n.aB[i]?=some a)
 (qh:∀(d':aw) (s':ae) (f:a9) (F:List a9),vP 900000 900 n.bX.aZ.length i d' s' (bF s a n.bX).cy (f::F)->vP 900000 900 n.bX.aZ.length i (dy (upF n.bX n.bp) i f d' s').1 (dy (upF n.bX n.bp) i f d' s').2.1 (bF s a n.bX).cy (F++(dy (upF n.bX n.bp) i f d' s').2.2)->KP (dR d).aJ (bF s a n.bX).az d' s'->P d' s' (f::F)->P (dy (upF n.bX n.bp) i f d' s').1 (dy (upF n.bX n.bp) i f d' s').2.1 (F++(dy (upF n.bX n.bp) i f d' s').2.2))
 (h0:vP 900000 900 n.bX.aZ.length i (dR d).aJ (bF s a n.bX).az (bF s a n.bX).cy (tH i d++vb i (bF s a n.bX))->P (dR d).aJ (bF s a n.bX).az (tH i d++vb i (bF s a n.bX))):
 ∃d' s' a',(dN n).ah[i]?=some d'/\(dN n).aj[i]?=some s'/\(dN n).aB[i]?=some a'/\P d' s' []/\E9 n i d s a d' s' a':=by
 obtain⟨B,hn,hB⟩:=h.np
 have hm:=hn.m i d s a hd hs ha
 have ho:=h.ra i a ha
 rw[<-hm.si] at ho
 have ht:=(Bs hm.sg n.bX ho).1
 have hk:=me hm.sg (m:=n.bX) (by have:=(iw hn.map).2;omega)
 obtain⟨d',s',q1,q2,q3,q4,q5⟩:=Qs (P:=λd' s' F=>P d' s' F/\KP (dR d).aJ (bF s a n.bX).az d' s') h hf hd hs ha
  (λd' s' f F e1 e2 hp=>⟨qh d' s' f F e1 e2 hp.2 hp.1,O2 hp.2⟩) (λe=>⟨h0 e,KP.refl _ _⟩)
 refine⟨d',s',_,q1,q2,q3,q4,⟨q5.c.trans (Dw d),q5.u.trans hk.sub,?_⟩⟩
 rw[<-ht,pH,pH,q5.g]
def BQ (f:a9):Prop:=f.dS=false/\(f.bW=true\/f.aM.aS=7)
theorem SH:eqB 7 2=false:=by simp[eqB]
theorem SJ:eqB 7 4=false:=by simp[eqB]
theorem SL:eqB 7 6=false:=by simp[eqB]
theorem LQ {d:aw} {m:aR} (hk:m.aS=7) (h3:d.aG≠3) (h2:d.aG≠2):ia d m=⟨d,[]⟩:=by
 rw[ia,hk,eqB_f.2 h3,eqB_f.2 h2,SH,SJ,SL]
 cases !ey m||(!eqB m.aE d.aE||eqB d.aG 0)<;>simp
theorem JD {d:aw} (x:aK) (h2:d.aG≠2):js d x=⟨d,[]⟩:=by
 simp only[js];rw[eqB_f.2 h2];rfl
theorem Ei {u:Int->Bool} {i:Nat} {f:a9} {d:aw} {s:ae} (h:BQ f) (h3:d.aG≠3) (h2:d.aG≠2):dy u i f d s=(d,s,[]):=by
 obtain⟨h1,hr⟩:=h
 rw[dy,h1]
 cases u f.aE
 .rfl
 cases eqB d.aE f.aE
 .rfl
 simp only[au]
 cases hR:f.bW
 .simp only[cond_false]
  rw[LQ (by simpa [hR] using hr) h3 h2];rfl
 simp only[cond_true]
 rw[JD f.b6 h2];rfl
theorem oD {d:aw} {s:ae} {a:av} (si:SI d s a) (g:SG s a) (m:aU) (i:Nat):∀f∈vb i (bF s a m),BQ f:=by
 intro f hf
 rcases YR.1 hf with hf|hf
 .obtain⟨x,hx,rfl⟩:=ZQ.1 hf
  exact⟨rfl,.inr ((Br si g m).2 x hx)⟩
 obtain⟨x,hx,rfl⟩:=ZQ.1 hf
 exact⟨rfl,.inl rfl⟩
theorem Na {r:Nat} {n:ab} (h:EQ (r+1) n) (hf:n.aA=[]) {i:Nat} {d:aw} {s:ae} {a:av} (hd:n.ah[i]?=some d) (hs:n.aj[i]?=some s) (ha:n.aB[i]?=some a) (h1:d.aG=1) (hw:0<d.di):
 ∃s' a',(dN n).ah[i]?=some {d with di:=d.di-1}/\(dN n).aj[i]?=some s'/\(dN n).aB[i]?=some a'/\E9 n i d s a {d with di:=d.di-1} s' a':=by
 obtain⟨B,hn,hB⟩:=h.np
 have hm:=hn.m i d s a hd hs ha
 have si:=h.pi.si i d s a hd hs ha
 have e:dR d=⟨{d with di:=d.di-1},[]⟩:=by rw[dR,ltB_t.2 hw];rfl
 obtain⟨d',s',a',q1,q2,q3,q4,q5⟩:=uk (P:=λd' s' F=>d'={d with di:=d.di-1}/\∀f∈F,BQ f) h hf hd hs ha
  (λd' s' f F _ _ _ hp=>by
   obtain⟨rfl,hp⟩:=hp
   rw[Ei (d:={d with di:=d.di-1}) (hp f (by simp)) (show d.aG≠3 by omega) (show d.aG≠2 by omega)]
   exact⟨rfl,λg hg=>hp g (by simpa using .inr (by simpa using hg))⟩)
  (λ_=>⟨by rw[e],λf hf=>by
   rcases YR.1 hf with hf|hf
   .rw[tH,e] at hf;simp at hf
   exact oD si hm.sg n.bX i f hf⟩)
 obtain⟨rfl,_⟩:=q4
 exact⟨s',a',q1,q2,q3,q5⟩
structure qR (d:aw) (s:ae):Prop where
 st:d.aG=2
 ep:s.aF=d.aF
theorem M9 {k r q:Int} (h0:0<=q) (h1:q<=999999):vec k r q=⟨r,(q+msk k r)%1000000,eQ k [2,r,q],eQ k [3,r],Kk (eQ k [4,r,q])⟩:=by
 rw[vec,bu.2 ⟨h0,h1⟩];rfl
theorem Hp {r:Nat} {n:ab} (h:EQ (r+1) n) (hf:n.aA=[]) {i:Nat} {d:aw} {s:ae} {a:av} (hd:n.ah[i]?=some d) (hs:n.aj[i]?=some s) (ha:n.aB[i]?=some a) (h1:d.aG=1) (hw:d.di=0) (hup:upF n.bX n.bp d.aE=true):
 ∃d' s' a',(dN n).ah[i]?=some d'/\(dN n).aj[i]?=some s'/\(dN n).aB[i]?=some a'/\E9 n i d s a d' s' a'/\qR d' s':=by
 obtain⟨B,hn,hB⟩:=h.np
 obtain⟨K,hl,hK⟩:=h.ln
 obtain⟨G,hg,hG⟩:=h.gb
 have hm:=hn.m i d s a hd hs ha
 have si:=h.pi.si i d s a hd hs ha
 obtain⟨qq,rr,pp,ww,uu,hsame⟩:=vl s a n.bX
 obtain⟨s1,hs1⟩:∃s1,s1=(bF s a n.bX).az:=⟨_,rfl⟩
 obtain⟨q,hq⟩:∃q,q=s1.be.cQ+1:=⟨_,rfl⟩
 obtain⟨d1,hd1⟩:∃d1,d1={d with di:=3}:=⟨_,rfl⟩
 have e:dR d=⟨d1,[gV d]⟩:=by rw[dR,show ltB 0 d.di=false from by rw[hw];exact ltB_f.2 (aaF _),show eqB d.aG 1=true from eqB_t.2 h1,hd1];rfl
 have hrec:s1.be=s.be:=by rw[hs1,hsame]
 have hseq:0<=s.be.cQ/\s.be.cQ<=900:=by
  have h2:=hg i s hs
  have h3:=Oq n.aA i
  have h4:=pK hm.sg.sp.rcd
  omega
 have hqr:1<=q/\q<=999:=by rw[hq,hrec];omega
 have hlast:0<=d.cZ.df/\d.cZ.df<q:=by
  have h2:=si.cl
  have h3:=si.dg
  have h4:=hm.dp.gn
  rw[hq,hrec];omega
 have hkey:=hm.key
 have hce:=hm.dp.ce
 obtain⟨V,hV⟩:∃V,V=vec s.be.eR (vQ s.be.ID q) q:=⟨_,rfl⟩
 have hVk:V.eR=yh s.be q:=by rw[hV];rfl
 obtain⟨ch,hch⟩:∃ch:aR,ch=⟨2,d.aE,q,0,0,V,0⟩:=⟨_,rfl⟩
 obtain⟨s2,hs2⟩:∃s2:ae,s2={s1 with be:={s1.be with cQ:=q},aO:=V,bi:=q}:=⟨_,rfl⟩
 obtain⟨d2,hd2⟩:∃d2:aw,d2={d1 with cZ:={d1.cZ with df:=q},ag:=q,aV:=V.eR}:=⟨_,rfl⟩
 obtain⟨rs,hrs⟩:∃rs:aR,rs=⟨3,d.aE,q,0,V.xW,c7,0⟩:=⟨_,rfl⟩
 have hepk:0<=s1.aF/\s1.aF<=900000:=by
  have h2:=(hl.li i d s hd hs).se
  have h3:=hm.sg.sp.ep
  rw[hs1,hsame];simp only;omega
 have hVin:V=⟨vQ s.be.ID q,(q+msk s.be.eR (vQ s.be.ID q))%1000000,eQ s.be.eR [2,vQ s.be.ID q,q],eQ s.be.eR [3,vQ s.be.ID q],Kk (eQ s.be.eR [4,vQ s.be.ID q,q])⟩:=by
  rw[hV];exact M9 oaa oaa
 have hVkey:1<=V.eR/\V.eR<=2147483646:=by rw[hVin];exact Oj _ _
 have g1:sUp s1 (gV d)=⟨s2,[ch]⟩:=by
  rw[sUp,show ey (gV d)=true from by simp only[ey,gV,fG,v0,bu];omega]
  simp only[gV,aQ,xT,au]
  rw[eqB_f.2 (show s1.be.cQ≠999999 by rw[hrec];omega),<-hq,hrec,<-hV,hs2,hch,hrec];rfl
 have g2:ia d1 ch=⟨d2,[rs]⟩:=by
  rw[ia,show ey ch=true from by simp only[ey,hch,v0,bu];omega]
  have hst:d1.aG=1:=by rw[hd1];exact h1
  have hc1:d1.aE=d.aE:=by rw[hd1]
  have hk1:d1.cZ=d.cZ:=by rw[hd1]
  rw[show ch.aE=d.aE from by rw[hch],show ch.aS=2 from by rw[hch],hc1,hst,aQ,aQ,aQ,show eqB (1:Int) 0=false from by simp[eqB]]
  simp only[aaT,abA,yA,au]
  have hvec:ch.cO=vec d1.cZ.eR (vQ s.be.ID q) q:=by rw[hch,hk1,hkey];exact hV
  have hu:unm d1.cZ.eR ch.cO.gN ch.cO.lp=q:=by
   rw[hvec,M9 oaa oaa];exact IN oaa oaa
  have hrand:ch.cO.gN=vQ s.be.ID q:=by rw[hvec,M9 oaa oaa]
  rw[show eqB (jm d1.cZ.eR d1.cZ.df ch.cO) 0=true from by
   rw[hvec,BA oaa oaa,if_neg (by rw[hk1];omega),if_neg (by rw[hk1];omega),aQ]]
  rw[hrand] at hu
  simp only[cond_true,hrand,hu]
  rw[hd2,hrs,show ch.ag=q from by rw[hch],hc1]
  congr 1
  .rw[hk1,hkey,<-hV];simp only[hkey]
  rw[hk1,hkey,hVin]
 obtain⟨ac,hac⟩:∃ac,ac=jK (mH s2 d.aE) 4:=⟨_,rfl⟩
 have g3:sUp s2 rs=⟨mH s2 d.aE,[ac]⟩:=by
  have hres:0<=V.xW/\V.xW<=1000000000000:=by
   rw[hVin];have:=rD s.be.eR [3,vQ s.be.ID q];unfold hM at this;simp only;omega
  rw[sUp,show ey rs=true from by simp only[ey,hrs,v0,bu];omega]
  rw[show rs.aS=3 from by rw[hrs],show eqB (3:Int) 1=false from by simp[eqB],aQ]
  simp only[qk,au]
  rw[show rs.ag=q from by rw[hrs],show rs.bI=V.xW from by rw[hrs],show s2.bi=q from by rw[hs2],show s2.aO=V from by rw[hs2],show s2.aF=s1.aF from by rw[hs2],show rs.aE=d.aE from by rw[hrs],
   leB_f.2 (show(0:Int)<q by omega),aQ,aQ,leB_f.2 (show s1.aF<999999 by omega),<-hac]
  rfl
 obtain⟨d3,hd3⟩:∃d3:aw,d3={d2 with aG:=2,aF:=ac.aF,bM:=true}:=⟨_,rfl⟩
 have f1:ac.aE=d.aE:=by rw[hac];rfl
 have f2:ac.ag=q:=by rw[hac];show s2.bi=q;rw[hs2]
 have f3:ac.aF=s1.aF+1:=by rw[hac];show s2.aF+1=_;rw[hs2]
 have f4:ac.aS=4:=by rw[hac];rfl
 have g4:ia d2 ac=⟨d3,[]⟩:=by
  have c1:d2.aG=1:=by rw[hd2,hd1];exact h1
  have c2:d2.aE=d.aE:=by rw[hd2,hd1]
  have c3:d2.aV=V.eR:=by rw[hd2]
  have c4:d2.ag=q:=by rw[hd2]
  have hv:lN d2.aV ac=true:=by
   have hk:(mH s2 d.aE).aV=V.eR:=by show s2.aO.eR=V.eR;rw[hs2]
   rw[c3,hac,jK,hk];exact vSig_sign _ _
  have ho:ey ac=true:=by
   have:ac.bI=0:=by rw[hac];rfl
   simp only[ey,f1,f2,f3,f4,this,v0,bu];omega
  have hvk:mf V.eR=true:=bu.2 hVkey
  rw[ia,ho,f1,c2,c1,f4,f2,c4,hv,c3,hvk,hd3]
  simp[eqB]
  exact⟨c2.symm,c4.symm,c3.symm⟩
 have at_up:dy (upF n.bX n.bp) i (b9 i true (gV d)) d1 s1=(d1,s2,[b9 i false ch]):=by
  rw[dy,show(b9 i true (gV d)).aE=d.aE from rfl,hup]
  simp only[b9,gV,aQ,aaT,au]
  rw[show({fG with aS:=1,aE:=d.aE}:aR)=gV d from rfl,g1]
  simp[hch];rfl
 have ch_dn:dy (upF n.bX n.bp) i (b9 i false ch) d1 s2=(d2,s2,[b9 i true rs]):=by
  rw[dy,show(b9 i false ch).aE=d.aE from by rw[b9,hch],hup]
  simp only[b9,hd1,aQ,au]
  rw[<-hd1,g2];rfl
 have rs_up:dy (upF n.bX n.bp) i (b9 i true rs) d2 s2=(d2,mH s2 d.aE,[b9 i false ac]):=by
  rw[dy,show(b9 i true rs).aE=d.aE from by rw[b9,hrs],hup]
  simp only[b9,au]
  rw[show rs.aE=d.aE from by rw[hrs],aQ,g3];rfl
 have ac_dn:dy (upF n.bX n.bp) i (b9 i false ac) d2 (mH s2 d.aE)=(d3,mH s2 d.aE,[]):=by
  rw[dy,show(b9 i false ac).aE=d.aE from f1,hup]
  simp only[b9,au]
  rw[show d2.aE=d.aE from by rw[hd2,hd1],aQ,g4];rfl
 have hst1:d1.aG≠3/\d1.aG≠2:=by rw[hd1];simp only;omega
 obtain⟨d',s',a',q1,q2,q3,q4,q5⟩:=uk (P:=λd' s' F=>
  (d'=d1/\s'=s1/\∃N,F=b9 i true (gV d)::N/\∀f∈N,BQ f)\/(d'=d1/\s'=s2/\∃N,F=N++[b9 i false ch]/\∀f∈N,BQ f)\/(d'=d2/\s'=s2/\F=[b9 i true rs])\/(d'=d2/\s'=mH s2 d.aE/\F=[b9 i false ac])\/(d'=d3/\s'=mH s2 d.aE/\F=[])) h hf hd hs ha
  (λd' s' f F _ _ _ hp=>by
   rcases hp with⟨rfl,rfl,N,hN,hn⟩|⟨rfl,rfl,N,hN,hn⟩|⟨rfl,rfl,hN⟩|⟨rfl,rfl,hN⟩|⟨_,_,hN⟩
   .cases hN
    rw[at_up]
    exact .inr (.inl ⟨rfl,rfl,F,rfl,hn⟩)
   .cases N with
    |nil=>
     simp only[ZR,List.cons.injEq] at hN
     obtain⟨rfl,rfl⟩:=hN
     rw[ch_dn]
     exact .inr (.inr (.inl ⟨rfl,rfl,rfl⟩))
    |cons g N=>
     simp only[List.cons_append,List.cons.injEq] at hN
     obtain⟨rfl,rfl⟩:=hN
     rw[Ei (hn f (by simp)) hst1.1 hst1.2]
     exact .inr (.inl ⟨rfl,rfl,N,by simp,λx hx=>hn x (by simp[hx])⟩)
   .cases hN
    rw[rs_up]
    exact .inr (.inr (.inr (.inl ⟨rfl,rfl,rfl⟩)))
   .cases hN
    rw[ac_dn]
    exact .inr (.inr (.inr (.inr ⟨rfl,rfl,rfl⟩)))
   cases hN)
  (λ_=>by
   refine .inl ⟨by rw[e],hs1.symm,vb i (bF s a n.bX),by rw[tH,e];rfl,oD si hm.sg n.bX i⟩)
 rcases q4 with⟨_,_,N,hN,_⟩|⟨_,_,N,hN,_⟩|⟨_,_,hN⟩|⟨_,_,hN⟩|⟨rfl,rfl,_⟩
 .cases hN
 .simp at hN
 .cases hN
 .cases hN
 refine⟨_,_,a',q1,q2,q3,q5,⟨by rw[hd3],?_⟩⟩
 rw[hd3,f3];show s2.aF+1=_;rw[hs2]
def okM (f:a9):Prop:=(f.dS=true/\f.bW=false/\(f.aM.aS=5\/f.aM.aS=8))\/(f.dS=false/\(f.bW=true\/f.aM.aS=6\/f.aM.aS=7))
theorem Gs {f:a9} (h:BQ f):okM f:=.inr ⟨h.1,h.2.imp_right .inr⟩
theorem k_6_2:eqB 6 2=false:=by simp[eqB]
theorem k_6_4:eqB 6 4=false:=by simp[eqB]
theorem k_6_7:eqB 6 7=false:=by simp[eqB]
theorem Gh:eqB 5 1=false:=by simp[eqB]
theorem Gi:eqB 5 3=false:=by simp[eqB]
theorem J4:eqB 8 1=false:=by simp[eqB]
theorem J5:eqB 8 3=false:=by simp[eqB]
theorem J6:eqB 8 5=false:=by simp[eqB]
theorem T2 (s:ae) (m:aR):s.aF<=(sUp s m).az.aF:=by
 rw[sUp]
 cases ey m
 .exact aaF _
 simp only[au]
 cases eqB m.aS 1
 .simp only[cond_false]
  cases eqB m.aS 3
  .simp only[cond_false]
   cases eqB m.aS 5
   .simp only[cond_false]
    cases eqB m.aS 8
    .exact aaF _
    simp only[cond_true,um]
    cases !f6 s m||ltB s.aq.bb m.bI<;>exact aaF _
   simp only[cond_true,md]
   cases hb:!f6 s m||(ltB m.aF s.aF||(eqB m.aF s.aF&&!eqB m.aE s.aE))
   .simp only[Y2] at hb
    exact nO hb.2.1
   exact aaF _
  simp only[cond_true,qk]
  cases leB s.bi 0||(!eqB m.ag s.bi||(!eqB m.bI s.aO.xW||leB 999999 s.aF))
  .simp only[cond_false,mH];omega
  exact aaF _
 simp only[cond_true,xT]
 cases eqB s.be.cQ 999999<;>exact aaF _
structure vV (d d':aw):Prop where
 st:d'.aG=2
 ep:d'.aF=d.aF
 ce:d'.aE=d.aE
 gn:d'.ag=d.ag
 rk:d'.aV=d.aV
theorem vV.refl {d:aw} (h:d.aG=2):vV d d:=⟨h,rfl,rfl,rfl,rfl⟩
theorem vV.trans {a b c:aw} (h:vV a b) (k:vV b c):vV a c:=⟨k.st,k.ep.trans h.ep,k.ce.trans h.ce,k.gn.trans h.gn,k.rk.trans h.rk⟩
theorem vV.path {d d':aw} (h:vV d d'):eC d'=eC d:=by rw[eC,eC,h.ep,h.ce,h.gn,h.rk]
theorem FX {d:aw} {m:aR} (h2:d.aG=2) (hk:m.aS=6\/m.aS=7):
 vV d (ia d m).aJ/\(ia d m).aJ.aT=d.aT/\((ia d m).bL=[]/\(ia d m).aJ.di=d.di\/(ia d m).bL=[eC d]/\m.aS=7)/\(m.aS=7->ey m=true->m.aE=d.aE->(ia d m).bL=[eC d]):=by
 rw[ia]
 cases h0:!ey m||(!eqB m.aE d.aE||eqB d.aG 0)
 .simp only[cond_false]
  rw[h2]
  rcases hk with hk|hk
  .rw[hk,k_6_2,k_6_4,k_6_7,show eqB 2 3=false from by simp[eqB],show eqB (2:Int) 1=false from by simp[eqB]]
   simp only[aa7,cond_false]
   cases eqB 6 6&&(eqB 2 2&&(eqB m.ag d.ag&&(eqB m.aF d.aF&&lN d.aV m)))
   .exact⟨.refl h2,rfl,.inl ⟨rfl,rfl⟩,λe=>by omega⟩
   exact⟨⟨rfl,rfl,rfl,rfl,rfl⟩,rfl,.inl ⟨rfl,rfl⟩,λe=>by omega⟩
  rw[hk,SH,SJ,SL,show eqB 2 3=false from by simp[eqB],aQ,aQ]
  simp only[aa7,aa6,abA,au]
  exact⟨⟨h2,rfl,rfl,rfl,rfl⟩,rfl,.inr ⟨rfl,trivial⟩,λ_ _ _=>rfl⟩
 simp only[cond_true]
 refine⟨.refl h2,by first|rfl|trivial,.inl ⟨by first|rfl|trivial,by first|rfl|trivial⟩,λ_ e1 e2=>?_⟩
 rw[e1,e2,aQ,h2] at h0
 simp[eqB] at h0
theorem Pv {d:aw} (x:aK) (h2:d.aG=2):vV d (js d x).aJ/\(js d x).aJ.di=d.di/\∀m∈(js d x).bL,m.aS=8:=by
 simp only[js]
 cases eqB d.aG 2&&(lE d.aV d.ag d.aF x).2
 .exact⟨.refl h2,rfl,by simp⟩
 exact⟨⟨h2,rfl,rfl,rfl,rfl⟩,rfl,by simp[qW,kG]⟩
theorem OW {s:ae} {m:aR} {i:Int} (hk:m.aS=5\/m.aS=8):∀f∈(sUp s m).bL.map (b9 i false),okM f:=by
 intro f hf
 obtain⟨x,hx,rfl⟩:=ZQ.1 hf
 refine .inr ⟨rfl,.inr (.inl ?_)⟩
 revert hx
 rw[sUp]
 cases ey m
 .simp
 simp only[au]
 rcases hk with hk|hk
 .rw[hk,Gh,Gi,aQ]
  simp only[md,au]
  cases !f6 s m||(ltB m.aF s.aF||(eqB m.aF s.aF&&!eqB m.aE s.aE))
  .simp only[cond_false,ZS]
   intro e;subst e;rfl
  simp
 rw[hk,J4,J5,J6,aQ]
 simp only[um,au]
 cases !f6 s m||ltB s.aq.bb m.bI<;>simp
theorem OF {K G:Int} {nc i:Nat} {d:aw} {s:ae} {a:av} {F:List a9} (e:vP K G nc i d s a F) (hK:K<=900000) (h2:d.aG=2):sUp s (eC d)=⟨oG s (eC d),[jK (oG s (eC d)) 6]⟩:=by
 have hc:=e.li.cn oaa
 have h1:=e.mp.dp.ce
 have h3:=e.mp.dp.gn
 have h4:=e.mp.dp.ep
 have hkey:s.aV=d.aV:=by
  rw[e.si.sk oaa,e.si.dk oaa,hc.2.1]
 have ho:ey (eC d)=true:=by simp only[ey,eC,kG,v0,bu];omega
 have hkn:f6 s (eC d)=true:=by
  simp only[f6,v0,eqB_t]
  exact⟨hc.1,hc.2.1.symm,by rw[hkey,eC];exact vSig_sign _ _⟩
 rw[sUp,ho,show(eC d).aS=5 from rfl,Gh,Gi,aQ]
 simp only[md,hkn,show(eC d).aF=d.aF from rfl,show(eC d).aE=d.aE from rfl,ltB_f.2 hc.2.2.2,Zk,au]
 cases he:eqB d.aF s.aF
 .rfl
 rw[e.li.cc h2 (fx he).symm,aQ];rfl
structure QU (d0:aw) (i:Nat) (w:Int) (d:aw) (s:ae) (F:List a9):Prop where
 cn:vV d0 d
 ok:∀f∈F,okM f
 st:qR d s\/b9 i true (eC d)∈F\/d.di<=w
theorem Gk {K G:Int} (hK:K<=900000) {m:aU} {w:Int} {i:Nat} {d0:aw} {ww:Int} {d:aw} {s:ae} {a:av} {f:a9} {F:List a9} (hup:upF m w d0.aE=true)
 (e1:vP K G m.aZ.length i d s a (f::F)) (e2:vP K G m.aZ.length i (dy (upF m w) i f d s).1 (dy (upF m w) i f d s).2.1 a (F++(dy (upF m w) i f d s).2.2)) (h:QU d0 i ww d s (f::F)):
 QU d0 i ww (dy (upF m w) i f d s).1 (dy (upF m w) i f d s).2.1 (F++(dy (upF m w) i f d s).2.2):=by
 have h2:=h.cn.st
 have hF:∀g∈F,okM g:=λg hg=>h.ok g (by simp[hg])
 have stay:∀(d':aw) (s':ae) (l:List a9),vP K G m.aZ.length i d' s' a (F++l)->vV d d'->s.aF<=s'.aF->(∀g∈l,okM g)->(d'.di=d.di\/b9 i true (eC d)∈l)->(f=b9 i true (eC d)->s'.aF=d'.aF)->QU d0 i ww d' s' (F++l):=by
  intro d' s' l ee hc he hl hw hp
  refine⟨h.cn.trans hc,λg hg=>?_,?_⟩
  .rcases YR.1 hg with hg|hg
   .exact hF g hg
   exact hl g hg
  rcases hw with hw|hw
  .rcases h.st with q|q|q
   .left
    have:=(ee.li.cn (by have:=hc.st;omega)).2.2.2
    have h3:=hc.ep
    have h4:=q.ep
    exact⟨hc.st,by omega⟩
   .rcases YU.1 q with q|q
    .left;exact⟨hc.st,hp q.symm⟩
    right;left;rw[hc.path];exact abo _ q
   right;right;omega
  right;left;rw[hc.path];exact abq _ hw
 rw[dy] at e2 ⊢
 cases hu:upF m w f.aE
 .rw[hu] at e2
  simp only[au] at e2 ⊢
  refine stay d s [] e2 (.refl h2) (aaF _) (by simp) (.inl rfl) (λq=>?_)
  rw[q,show(b9 i true (eC d)).aE=d.aE from rfl,h.cn.ce,hup] at hu;cases hu
 rw[hu] at e2
 simp only[au] at e2 ⊢
 have hok:=h.ok f (by simp)
 cases hU:f.dS
 .rw[hU] at e2
  simp only[cond_false] at e2 ⊢
  have hnp:f=b9 i true (eC d)->False:=λq=>by rw[q] at hU;cases hU
  cases hce:eqB d.aE f.aE
  .rw[hce] at e2
   simp only[au] at e2 ⊢
   exact stay d s [] e2 (.refl h2) (aaF _) (by simp) (.inl rfl) (λq=>(hnp q).elim)
  rw[hce] at e2
  simp only[au] at e2 ⊢
  cases hR:f.bW
  .rw[hR] at e2
   simp only[cond_false] at e2 ⊢
   have hk:f.aM.aS=6\/f.aM.aS=7:=by
    rcases hok with q|q
    .rw[hU] at q;exact absurd q.1 (by simp)
    rcases q.2 with q|q
    .rw[hR] at q;cases q
    exact q
   obtain⟨c1,c2,c3,c4⟩:=FX (m:=f.aM) h2 hk
   refine stay _ s _ e2 c1 (aaF _) (λg hg=>?_) ?_ (λq=>(hnp q).elim)
   .obtain⟨x,hx,rfl⟩:=ZQ.1 hg
    rcases c3 with⟨c3,_⟩|⟨c3,_⟩
    .rw[c3] at hx;simp at hx
    rw[c3] at hx;simp at hx;subst hx
    exact .inl ⟨rfl,rfl,.inl rfl⟩
   rcases c3 with⟨_,c3⟩|⟨c3,_⟩
   .exact .inl c3
   right;rw[c3];simp
  rw[hR] at e2
  simp only[cond_true] at e2 ⊢
  obtain⟨c1,c2,c3⟩:=Pv f.b6 h2
  refine stay _ s _ e2 c1 (aaF _) (λg hg=>?_) (.inl c2) (λq=>(hnp q).elim)
  obtain⟨x,hx,rfl⟩:=ZQ.1 hg
  exact .inl ⟨rfl,rfl,.inr (c3 x hx)⟩
 rw[hU] at e2
 simp only[cond_true] at e2 ⊢
 have hk:f.bW=false/\(f.aM.aS=5\/f.aM.aS=8):=by
  rcases hok with q|q
  .exact q.2
  rw[hU] at q;exact absurd q.1 (by simp)
 rw[hk.1] at e2 ⊢
 simp only[Zk] at e2 ⊢
 cases hce:eqB f.aM.aE f.aE
 .rw[hce] at e2
  simp only[au] at e2 ⊢
  refine stay d s [] e2 (.refl h2) (aaF _) (by simp) (.inl rfl) (λq=>?_)
  rw[q] at hce
  simp[b9] at hce
 rw[hce] at e2
 simp only[au] at e2 ⊢
 refine stay d _ _ e2 (.refl h2) (T2 s f.aM) (OW hk.2) (.inl rfl) (λq=>?_)
 rw[show f.aM=eC d from by rw[q];rfl,OF e1 hK h2]
 rfl
theorem Kt {d:aw} {s:ae} {a:av} (si:SI d s a) (g:SG s a) (m:aU) (i:Nat):∀f∈vb i (bF s a m),okM f:=λf hf=>Gs (oD si g m i f hf)
theorem Mn {r:Nat} {n:ab} (h:EQ (r+1) n) (hf:n.aA=[]) {i:Nat} {d:aw} {s:ae} {a:av} (hd:n.ah[i]?=some d) (hs:n.aj[i]?=some s) (ha:n.aB[i]?=some a) (h2:d.aG=2) (hm':s.aF≠d.aF) (hup:upF n.bX n.bp d.aE=true):
 ∃d' s' a',(dN n).ah[i]?=some d'/\(dN n).aj[i]?=some s'/\(dN n).aB[i]?=some a'/\E9 n i d s a d' s' a'/\d'.aG=2/\(qR d' s'\/d'.di<d.di):=by
 obtain⟨B,hn,hB⟩:=h.np
 obtain⟨K,hl,hK⟩:=h.ln
 have hm:=hn.m i d s a hd hs ha
 have si:=h.pi.si i d s a hd hs ha
 have hpc:d.bM=false:=by
  cases hb:d.bM
  .rfl
  exact absurd ((hl.li i d s hd hs).pc h2 hb) hm'
 have hwt:=hm.dp.wt
 obtain⟨d1,hd1⟩:∃d1,d1=(dR d).aJ:=⟨_,rfl⟩
 have hc1:vV d d1/\(d1.di<d.di\/tH i d=[b9 i true (eC d)])/\∀f∈tH i d,okM f:=by
  rw[hd1,tH,dR]
  cases hb:ltB 0 d.di
  .simp only[cond_false]
   rw[h2,hpc,show eqB (2:Int) 1=false from by simp[eqB],aQ]
   refine⟨⟨by first|rfl|exact h2,rfl,rfl,rfl,rfl⟩,.inr rfl,λf hf=>?_⟩
   simp at hf;subst hf
   exact .inl ⟨rfl,rfl,.inl rfl⟩
  exact⟨⟨h2,rfl,rfl,rfl,rfl⟩,.inl (by simp only[cond_true];omega),by simp⟩
 obtain⟨c1,c2,c3⟩:=hc1
 obtain⟨d',s',a',q1,q2,q3,q4,q5⟩:=uk (P:=QU d i (d.di-1)) h hf hd hs ha
  (λd' s' f F e1 e2 _ hp=>Gk oaa hup e1 e2 hp)
  (λ_=>by
   rw[<-hd1]
   refine⟨c1,λf hf=>?_,?_⟩
   .rcases YR.1 hf with hf|hf
    .exact c3 f hf
    exact Kt si hm.sg n.bX i f hf
   rcases c2 with c2|c2
   .right;right;omega
   right;left;rw[c2,c1.path];simp)
 refine⟨d',s',a',q1,q2,q3,q5,q4.cn.st,?_⟩
 rcases q4.st with q|q|q
 .exact .inl q
 .simp at q
 right;omega
theorem KS {s:ae} {a:av} {m:aU}:∀x∈(bF s a m).eW,∃c,x=iM c:=by
 rw[bF]
 cases eqB s.aG 1
 .simp
 simp only[au]
 cases ltB 4 (eE s)
 .simp[sW]
 simp only[cond_true,BW]
 intro x hx
 obtain⟨c,_,rfl⟩:=ZQ.1 hx
 exact⟨c,rfl⟩
structure US (d1:aw) (s1:ae) (i:Nat) (b:Prop) (d:aw) (s:ae) (F:List a9):Prop where
 st:(d=d1/\s=s1/\(∀f∈F,BQ f/\(f.bW=false->f=b9 i false (iM f.aE)/\0<=f.aE/\f.aE<=5))/\(b->b9 i false (iM d1.aE)∈F))\/(d.aE=d1.aE/\QU d i (-1) d s F)
theorem OE {c:Int} (h:0<=c/\c<=5):ey (iM c)=true:=by
 simp only[ey,iM,fG,v0,bu];omega
theorem PJ {K G:Int} (hK:K<=900000) {m:aU} {w:Int} {i:Nat} {d1:aw} {s1:ae} {b:Prop} {d:aw} {s:ae} {a:av} {f:a9} {F:List a9} (hup:upF m w d1.aE=true) (h3:d1.aG=3)
 (e1:vP K G m.aZ.length i d s a (f::F)) (e2:vP K G m.aZ.length i (dy (upF m w) i f d s).1 (dy (upF m w) i f d s).2.1 a (F++(dy (upF m w) i f d s).2.2)) (h:US d1 s1 i b d s (f::F)):
 US d1 s1 i b (dy (upF m w) i f d s).1 (dy (upF m w) i f d s).2.1 (F++(dy (upF m w) i f d s).2.2):=by
 rcases h.st with⟨rfl,rfl,hF,hb⟩|⟨hc,hL⟩
 .obtain⟨⟨n1,n2⟩,n3⟩:=hF f (by simp)
  have hF':∀g∈F,BQ g/\(g.bW=false->g=b9 i false (iM g.aE)/\0<=g.aE/\g.aE<=5):=λg hg=>hF g (by simp[hg])
  have skip:f≠b9 i false (iM d.aE)->US d s i b d s (F++[]):=λhne=>by
   refine⟨.inl ⟨rfl,rfl,by simpa using hF',λhb'=>?_⟩⟩
   rcases YU.1 (hb hb') with q|q
   .exact absurd q.symm hne
   simpa using q
  rw[dy,n1] at e2 ⊢
  cases hu:upF m w f.aE
  .simp only[au]
   refine skip λq=>?_
   rw[q,show(b9 i false (iM d.aE)).aE=d.aE from rfl,hup] at hu;cases hu
  rw[hu] at e2
  simp only[au] at e2 ⊢
  cases hce:eqB d.aE f.aE
  .simp only[au]
   refine skip λq=>?_
   rw[q] at hce;simp[b9,iM] at hce
  rw[hce] at e2
  simp only[au] at e2 ⊢
  cases hR:f.bW
  .simp only[cond_false]
   obtain⟨g1,g2,g3⟩:=n3 hR
   have hcell:f.aE=d.aE:=(fx hce).symm
   have hs:f.aM=iM d.aE:=by rw[g1,<-hcell];rfl
   have hde:=e1.li.de
   have hdd:ia d (iM d.aE)=km {d with aG:=2,aF:=d.aF+1}:=by
    rw[ia,OE oaa,show(iM d.aE).aE=d.aE from rfl,show(iM d.aE).aS=7 from rfl,h3,aQ,aQ,SH,SJ,SL,ltB_t.2 (show d.aF<999999 by omega)]
    simp[eqB]
   rw[hs,hdd]
   refine⟨.inr ⟨rfl,⟨.refl rfl,λg hg=>?_,.inr (.inl ?_)⟩⟩⟩
   .rcases YR.1 hg with hg|hg
    .exact Gs (hF' g hg).1
    simp[km] at hg;subst hg
    exact .inl ⟨rfl,rfl,.inl rfl⟩
   refine abq _ ?_
   simp[km,eC]
  simp only[cond_true]
  rw[JD f.b6 oaa]
  refine skip λq=>?_
  rw[q] at hR;cases hR
 have:=Gk hK (d0:=d) (by rw[hc];exact hup) e1 e2 hL
 exact⟨.inr ⟨this.cn.ce.trans hc,⟨.refl this.cn.st,this.ok,this.st⟩⟩⟩
theorem Ml {r:Nat} {n:ab} (h:EQ (r+1) n) (hf:n.aA=[]) {i:Nat} {d:aw} {s:ae} {a:av} (hd:n.ah[i]?=some d) (hs:n.aj[i]?=some s) (ha:n.aB[i]?=some a) (h3:d.aG=3) (hup:upF n.bX n.bp d.aE=true):
 ∃d' s' a',(dN n).ah[i]?=some d'/\(dN n).aj[i]?=some s'/\(dN n).aB[i]?=some a'/\E9 n i d s a d' s' a'/\(qR d' s'\/(d'.aG=3/\d'.aT=d.aT/\s'=(bF s a n.bX).az/\iM d.aE∉(bF s a n.bX).eW)):=by
 obtain⟨B,hn,hB⟩:=h.np
 have hm:=hn.m i d s a hd hs ha
 have si:=h.pi.si i d s a hd hs ha
 obtain⟨d1,hd1⟩:∃d1,d1=(dR d).aJ:=⟨_,rfl⟩
 have hml:=iw hn.map
 have hk:=me hm.sg (m:=n.bX) oaa
 have hc:d1.aG=3/\d1.aE=d.aE/\d1.aT=d.aT/\tH i d=[]:=by
  rw[hd1,tH,dR,h3,show eqB (3:Int) 1=false from by simp[eqB],show eqB (3:Int) 2=false from by simp[eqB]]
  cases ltB 0 d.di<;>exact⟨by first|rfl|exact h3,rfl,rfl,rfl⟩
 obtain⟨c1,c2,c3,c4⟩:=hc
 obtain⟨d',s',a',q1,q2,q3,q4,q5⟩:=uk (P:=US d1 (bF s a n.bX).az i (iM d.aE∈(bF s a n.bX).eW)) h hf hd hs ha
  (λd' s' f F e1 e2 _ hp=>PJ oaa (by rw[c2];exact hup) c1 e1 e2 hp)
  (λ_=>by
   rw[<-hd1,c4,ZR]
   refine⟨.inl ⟨rfl,rfl,λf hf=>⟨oD si hm.sg n.bX i f hf,λhR=>?_⟩,λhb=>?_⟩⟩
   .rcases YR.1 hf with hf|hf
    .obtain⟨x,hx,rfl⟩:=ZQ.1 hf
     obtain⟨c,rfl⟩:=KS x hx
     have:=hk.pg _ hx
     exact⟨rfl,by simp only[b9,iM] at this ⊢;omega⟩
    obtain⟨x,hx,rfl⟩:=ZQ.1 hf
    simp[lL] at hR
   rw[c2]
   exact abo _ (ZQ.2 ⟨_,hb,rfl⟩))
 refine⟨d',s',a',q1,q2,q3,q5,?_⟩
 rcases q4.st with⟨rfl,rfl,_,hb⟩|⟨_,hL⟩
 .exact .inr ⟨c1,c3,rfl,λhb'=>by simpa using hb hb'⟩
 rcases hL.st with q|q|q
 .exact .inl q
 .simp at q
 have:=(hn.m i d s a hd hs ha).dp.wt
 exfalso
 obtain⟨B',hn',_⟩:=(h.round).1.np
 have hw:=(hn'.m i d' s' a' q1 q2 q3).dp.wt
 omega
structure Aff (s:ae) (a:av):Prop where
 ch:a.dW+s.bC.d4=dX s.ax (cf s.aq).toNat
 co:dX s.ax s.ax.length<=pH s a
 ow:tM s.bC.aC a.ay
 wn:∀x∈s.aq.aD,s.ax[(x.cQ-1).toNat]?=some ⟨x.a8⟩
theorem Yt {s:ae} {a:av} (g:SG s a) (f:Aff s a):dX s.ax (s.aq.bb-1).toNat=dX s.ax (cf s.aq).toNat+fY s.aq.aD:=by
 have hw:=g.sp.win
 have h1:=hw.n
 have h2:=hw.f
 have:=yx (l:=s.ax) (u:=s.aq.aD) (A:=(cf s.aq).toNat) (λi x hx=>by
  have e1:=(hw.u i x hx).1
  have e2:=f.wn x (YS hx)
  rw[show(cf s.aq).toNat+i=(x.cQ-1).toNat by simp only[cf];omega];exact e2) s.aq.aD.length (YW _)
 rw[List.take_length] at this
 rw[<-this]
 congr 1
 simp only[cf];omega
theorem Sj {p:bz} (h:pL p=true):1<=p.dQ/\p.dQ<=100000:=by
 simp only[pL,yU,v0,bu] at h
 exact h.1.2.2
theorem Qb {s:ae} {a:av} (g:SG s a) (f:Aff s a) {x:bm} (e:mN s=some x):ltB 0 (gk (bS s a (x.a8.length:Int)).1 (x.a8.length:Int))=false:=by
 obtain⟨hm,_,hx,hn,hl,hb⟩:=iX g.sp e
 have hw:=g.sp.win
 have h1:=hw.n
 have h2:=hw.f
 have hu:=Yt g f
 have hnext:dX s.ax ((s.aq.bb-1).toNat+1)=dX s.ax (s.aq.bb-1).toNat+x.a8.length:=wd hx
 have hle:dX s.ax ((s.aq.bb-1).toNat+1)<=dX s.ax s.ax.length:=BD oaa
 have hco:=f.co
 have hch:=f.ch
 simp only[pH] at hco
 have hq:=g.mo.quo
 have q1:=hq.u
 have q2:=hq.g
 have q3:=hq.m
 have q4:=hq.i
 have hacc:=g.mo.acc
 have a1:=hacc.v
 have a2:=hacc.t
 have hpd:=g.sp.pd
 have hgr:=Sj g.sp.plan
 have hsb:=AB hw.d
 have hl8:=hw.l
 obtain⟨L,hL⟩:∃L:Int,L=(x.a8.length:Int):=⟨_,rfl⟩
 rw[<-hL] at hnext ⊢
 rw[bS]
 cases hz:leB (gk s L) 0
 .have hz:=tD hz
  simp only[cond_false]
  have hneed:gk s L=fY s.aq.aD+L-(s.bC.cB-s.bC.d4):=by
   rw[gk,wW] at hz ⊢;split at hz<;>rename_i h5
   .rw[if_pos h5]
   omega
  obtain⟨w,hwd⟩:∃w,w=wW (gk s L) s.gT.dQ:=⟨_,rfl⟩
  have hw1:gk s L<=w/\1<=w/\w<=100000:=by
   rw[hwd,wW];split<;>omega
  rw[<-hwd]
  have hful:full a s.bC.aC=false:=by
   rw[full]
   cases h8:leB 8 (a.ay.length:Int)
   .rfl
   have h8:=sb h8
   obtain⟨y,hy⟩:∃y,y∈a.ay:=by
    cases hr:a.ay with
    |nil=>rw[hr] at h8;simp at h8
    |cons y l=>exact⟨y,by simp⟩
   have:a.ay.any (λx=>eqB x.aC s.bC.aC)=true:=Zh.2 ⟨y,hy,eqB_t.2 (f.ow y hy)⟩
   rw[this];rfl
  have hres:(iy a s.bC.aC w).2=lK w a.bK:=by
   rw[iy,ltB_f.2 q4,bu.2 ⟨hw1.2.1,hw1.2.2⟩,eqB_f.2 (show a.bK≠0 by omega),hful];rfl
  have hmin:gk s L<=lK w a.bK:=by rw[lK];split<;>omega
  rw[gk]
  simp only[jI]
  rw[hres]
  refine ltB_f.2 ?_
  rw[wW];split<;>omega
 have hz:=sb hz
 exact ltB_f.2 hz
theorem LZ (s:ae) (a:av) (n:Int):(bS s a n).1.aq=s.aq/\(bS s a n).1.ax=s.ax:=by
 obtain⟨q,e⟩:=iE s a n;rw[e];exact⟨rfl,rfl⟩
theorem HH {s:ae} {a:av} (h:SG s a) (n:Int):(bS s a n).2.dW=a.dW:=by
 rw[bS]
 cases leB (gk s n) 0
 .exact(vf h.mo.acc s.bC.aC (wW (gk s n) s.gT.dQ)).2.2.2.2.2.1
 rfl
theorem Aff.sent {s:ae} {a:av} (g:SG s a) (f:Aff s a) {x:bm} (e:mN s=some x):Aff {(bS s a (x.a8.length:Int)).1 with aq:=sent (bS s a (x.a8.length:Int)).1.aq x.a8} (bS s a (x.a8.length:Int)).2:=by
 obtain⟨hm,_,hx,hn,hl,hb⟩:=iX g.sp e
 have h1:=LZ s a (x.a8.length:Int)
 have h2:=HH g (x.a8.length:Int)
 have h3:=DE g (x.a8.length:Int)
 have h4:=DD (n:=(x.a8.length:Int)) f.ow
 have h5:=AX s a (x.a8.length:Int)
 refine⟨?_,?_,?_,λy hy=>?_⟩
 .simp only
  rw[h2,h3.2,h1.1,h1.2,f.ch]
  congr 2
  simp only[cf,AM.sent,Y8,List.length_singleton];omega
 .have:=f.co
  rw[<-h3.1] at this
  simp only[pH] at this ⊢
  rw[h1.2];exact this
 .simp only;rw[h5];exact h4
 simp only[AM.sent,h1.1,h1.2,YR,ZS] at hy ⊢
 rcases hy with hy|rfl
 .exact f.wn y hy
 exact hx
theorem EI:∀(k:Nat) (s:ae) (a:av) (r:List aK),SG s a->
 ∃N,(fT k s a r).2.2=r++N.map (λx=>iQ s.aV s.ag s.aF x)/\(fT k s a r).1.aq=⟨s.aq.bb+N.length,s.aq.aD++N⟩/\N.length<=k/\(∀(j:Nat) x,N[j]?=some x->x.cQ=s.aq.bb+j/\s.ax[(x.cQ-1).toNat]?=some ⟨x.a8⟩)/\(Aff s a->N.length=k\/mN (fT k s a r).1=none)
 |0,s,a,r,g=>⟨[],by simp[fT],by simp[fT],by simp,by simp,λ_=>.inl rfl⟩
 |k+1,s,a,r,g=>by
  rw[fT]
  cases e:mN s with
  |none=>exact⟨[],by simp,by simp,by simp,by simp,λ_=>.inr e⟩
  |some x=>
   obtain⟨hm,_,hx,hn,hl,hb⟩:=iX g.sp e
   have he:=qG g (n:=(x.a8.length:Int)) oaa
   obtain⟨q,hk⟩:=iE s a (x.a8.length:Int)
   simp only
   cases hq:ltB 0 (gk (bS s a (x.a8.length:Int)).1 (x.a8.length:Int))
   .simp only[cond_false]
    obtain⟨N,n1,n2,n3,n4,n5⟩:=EI k {(bS s a (x.a8.length:Int)).1 with aq:=sent (bS s a (x.a8.length:Int)).1.aq x.a8} (bS s a (x.a8.length:Int)).2
     (r++[iQ (bS s a (x.a8.length:Int)).1.aV (bS s a (x.a8.length:Int)).1.ag (bS s a (x.a8.length:Int)).1.aF ⟨(bS s a (x.a8.length:Int)).1.aq.bb,x.a8⟩])
     (xD he (by rw[hk];exact e) hq)
    have hnn:=g.sp.win.n
    refine⟨⟨s.aq.bb,x.a8⟩::N,?_,?_,by simp;omega,λj y hy=>?_,λf=>?_⟩
    .rw[n1,hk];simp
    .rw[n2,hk];simp[sent];omega
    .cases j with
     |zero=>simp at hy;subst hy;exact⟨by simp,hx⟩
     |succ j=>
      have:=n4 j y (by simpa using hy)
      rw[hk] at this
      simp only[sent] at this
      exact⟨by rw[this.1];omega,this.2⟩
    have:=n5 (f.sent g e)
    simp only[YY]
    rcases this with h|h
    .left;omega
    exact .inr h
   simp only[cond_true]
   refine⟨[],by simp,by simp only[hk,aaI,abu];simp,by simp,by simp,λf=>?_⟩
   rw[Qb g f e] at hq;cases hq
def xS (r:aX) (k:Int):Prop:=k<r.bb\/∃y∈r.aO,y.cQ=k
theorem QH {r:aX} (h:RcV r) {x:an} (hd:x.a8.length<=60) (h7:x.cQ<=r.bb+7) (h24:x.cQ<=24):xS (iu r x) x.cQ/\∀k,k<=24->xS r k->xS (iu r x) k:=by
 have hn:=h.n
 cases hl:yN r x
 .obtain⟨t,d,e1,e2,e3,e4,e5,e6,e7,e8⟩:=vy h hl
  have hn':=e5.n
  have key:∀y∈rC x r.aO,y.cQ<=24->xS (iu r x) y.cQ:=λy hy hy24=>by
   rw[e1] at hy
   rcases YR.1 hy with hy|hy
   .obtain⟨k,hk⟩:=Y4 hy
    have:=e2 k y hk
    have:=(YP.1 hk).1
    left;omega
   rcases e6 with e|e
   .right;rw[e];exact⟨y,hy,rfl⟩
   .
     obtain⟨t',d',f1,f2,f3,f4,f5⟩:=yE (rC x r.aO) r.bb r.bj
     left
     have hz:24<=(iu r x).bj.length\/(tT (rC x r.aO) r.bb r.bj).aO=[]:=by
      rw[iu,hl] at e ⊢
      simp only[cond_false] at e ⊢
      cases hb:leB 24 (((tT (rC x r.aO) r.bb r.bj).bj.length:Nat):Int)
      .rw[hb] at e;exact .inr e
      have hb:=sb hb
      left;simp only[cond_true];omega
     rcases hz with hz|hz
     .omega
     rw[f2] at hz
     simp only at hz
     subst hz
     rw[abu] at f1
     have hnx:(iu r x).bb=r.bb+t'.length:=by
      rw[iu,hl]
      simp only[cond_false]
      cases leB 24 (((tT (rC x r.aO) r.bb r.bj).bj.length:Nat):Int)<;>simp only[f2,au]
     have hy':y∈t':=by rw[<-f1,e1];exact abq _ hy
     obtain⟨k,hk⟩:=Y4 hy'
     have:=f3 k y hk
     have:=(YP.1 hk).1
     omega
  refine⟨key x (ub.2 (.inl rfl)) h24,λk hk hr=>?_⟩
  rcases hr with hr|⟨y,hy,rfl⟩
  .left;rw[e3];omega
  exact key y (ub.2 (.inr hy)) hk
 have e:iu r x=r:=by rw[iu,hl];rfl
 rw[e]
 refine⟨?_,λk _ hr=>hr⟩
 simp only[yN,lM.2 h,Z0,Zk] at hl
 simp only[Y6,Bool.not_eq_true'] at hl
 rcases hl with hl|hl|hl|hl
 .have:=ko hl;omega
 .left
  have:¬(r.bb<=x.cQ/\x.cQ<=r.bb+7):=λq=>by rw[bu.2 q] at hl;cases hl
  omega
 .right
  obtain⟨y,hy,hyq⟩:=Zh.1 hl
  exact⟨y,hy,fx hyq⟩
 left
 have:=sb hl
 have:=h.l
 omega
theorem Ae {r:aX} (h:RcV r) {N:Int} (hall:∀k,r.bb<=k->k<N->xS r k):N<=r.bb:=by
 by_cases hN:N<=r.bb
 .exact hN
 rcases hall r.bb (aaF _) oaa with q|⟨y,hy,hq⟩
 .omega
 have:=(h.pr y hy).1;omega
theorem yt (w:bh) (k:Int):cf w<=cf (lO w k)/\(lO w k).bb=w.bb:=by
 rw[lO]
 cases ltB w.bb k
 .simp only[cond_false,cf]
  have:=aaZ (λx:an=>leB k x.cQ) w.aD
  exact⟨by omega,trivial⟩
 exact⟨aaF _,rfl⟩
theorem UW {w:bh} (h:WOK w) {k:Int} (h1:cf w<k) (h2:k<=w.bb):cf (lO w k)=k-1:=by
 rw[AI h (ltB_f.2 h2)]
 have hf:=h.f
 simp only[cf,List.length_drop] at h1 ⊢
 omega
def Cs (i:Nat) (d:aw) (x:an):a9:=lL i d.aE (iQ d.aV d.ag d.aF x)
structure MR (i:Nat) (d1:aw) (s1:ae) (S:List an) (pg:Prop) (d:aw) (s:ae) (F:List a9):Prop where
 cn:vV d1 d
 ok:∀f∈F,okM f
 rd:∀f∈F,f.bW=true->∃x∈S,f=Cs i d1 x
 ep:s.aF=d.aF
 nx:s.aq.bb=s1.aq.bb
 got:∀x∈S,xS d.aT x.cQ\/Cs i d1 x∈F
 mo:∀k,k<=24->xS d1.aT k->xS d.aT k
 ack:((∀x∈S,Cs i d1 x∈F)/\∀f∈F,f.dS=true->f.aM.aS=5)\/cf s.aq=d.aT.bb-1\/b9 i true (qW d d.aT)∈F
 am:cf s1.aq<=cf s.aq
 tm:(s.c9=s1.c9/\s.cR=s1.cR/\s.eo=s1.eo)\/(s.c9=0/\s.cR=0)\/(S≠[]/\s.c9=0/\s.cR=s1.cR/\s.eo=s1.eo)
 na:S=[]->∀f∈F,f.dS=true->f.aM.aS=5
 pd:pg->b9 i false (iM d1.aE)∈F\/b9 i true (eC d1)∈F\/(s.c9=0/\s.cR=0)
theorem FV {d d':aw} (h:vV d d') (r:aX):qW d' r=qW d r:=by rw[qW,qW,h.ep,h.ce,h.gn,h.rk]
theorem Mo {K G:Int} (hK:K<=900000) {m:aU} {w:Int} {i:Nat} {d1:aw} {s1:ae} {S:List an} {pg:Prop} {d:aw} {s:ae} {a:av} {f:a9} {F:List a9} (hup:upF m w d1.aE=true)
 (hS:∀x∈S,1<=x.cQ/\x.cQ<s1.aq.bb/\x.a8.length<=60/\okB x.a8)
 (e1:vP K G m.aZ.length i d s a (f::F)) (e2:vP K G m.aZ.length i (dy (upF m w) i f d s).1 (dy (upF m w) i f d s).2.1 a (F++(dy (upF m w) i f d s).2.2)) (h:MR i d1 s1 S pg d s (f::F)):
 MR i d1 s1 S pg (dy (upF m w) i f d s).1 (dy (upF m w) i f d s).2.1 (F++(dy (upF m w) i f d s).2.2):=by
 have h2:=h.cn.st
 have hok:=h.ok f (by simp)
 have hF:∀g∈F,okM g:=λg hg=>h.ok g (by simp[hg])
 have hrd:∀g∈F,g.bW=true->∃x∈S,g=Cs i d1 x:=λg hg=>h.rd g (by simp[hg])
 have old:∀g,g∈f::F->f≠g->g∈F:=λg hg hne=>by
  rcases YU.1 hg with q|q
  .exact absurd q.symm hne
  exact q
 have hdp:=lM.1 e1.mp.dp.rc.v
 have hsl:=e1.mp.sg.sp.sl
 have hsn:=e1.mp.sg.sp.nx
 have hwl:=e1.mp.sg.sp.win.l
 have hak:=e1.si.ak
 have hcn:=e1.li.cn oaa
 have hkey:s.aV=d.aV:=by rw[e1.si.sk oaa,e1.si.dk oaa,hcn.2.1]
 have skip:(∀x,f≠Cs i d1 x)->f≠b9 i true (qW d d.aT)->f≠b9 i false (iM d1.aE)->f≠b9 i true (eC d1)->MR i d1 s1 S pg d s (F++[]):=λn1 n2 n3 n4=>by
  rw[abu]
  refine⟨h.cn,hF,hrd,h.ep,h.nx,λx hx=>(h.got x hx).imp_right λq=>old _ q (n1 x),h.mo,?_,h.am,h.tm,λhp g hg hgu=>?_,λhp=>?_⟩
  .rcases h.ack with⟨q1,q2⟩|q|q
   .exact .inl ⟨λx hx=>old _ (q1 x hx) (n1 x),λg hg=>q2 g (by simp[hg])⟩
   .exact .inr (.inl q)
   exact .inr (.inr (old _ q n2))
  .exact h.na hp g (by simp[hg]) hgu
  rcases h.pd hp with q|q|q
  .exact .inl (old _ q n3)
  .exact .inr (.inl (old _ q n4))
  exact .inr (.inr q)
 have hdc:=h.cn.ce
 have cA:(b9 i true (qW d d.aT)).aE=d1.aE:=hdc
 have cD:(b9 i true (eC d1)).aE=d1.aE:=rfl
 rw[dy] at e2 ⊢
 cases hu:upF m w f.aE
 .simp only[au]
  have hne:∀g:a9,g.aE=d1.aE->f≠g:=λg hg q=>by
   rw[q,hg,hup] at hu;cases hu
  exact skip (λx=>hne _ rfl) (hne _ cA) (hne _ rfl) (hne _ rfl)
 rw[hu] at e2
 simp only[au] at e2 ⊢
 cases hU:f.dS
 .rw[hU] at e2
  simp only[cond_false] at e2 ⊢
  have nup:∀g:a9,g.dS=true->f≠g:=λg hg q=>by rw[q,hg] at hU;cases hU
  cases hce:eqB d.aE f.aE
  .simp only[au]
   have hne:∀g:a9,g.aE=d1.aE->f≠g:=λg hg q=>by
    rw[q,hg,hdc,aQ] at hce;cases hce
   exact skip (λx=>hne _ rfl) (hne _ cA) (hne _ rfl) (hne _ rfl)
  rw[hce] at e2
  simp only[au] at e2 ⊢
  cases hR:f.bW
  .
    rw[hR] at e2
    simp only[cond_false] at e2 ⊢
    have hk:f.aM.aS=6\/f.aM.aS=7:=by
     rcases hok with q|q
     .rw[hU] at q;exact absurd q.1 (by simp)
     rcases q.2 with q|q
     .rw[hR] at q;cases q
     exact q
    obtain⟨c1,c2,c3,c4⟩:=FX (m:=f.aM) h2 hk
    have nrad:∀x,f≠Cs i d1 x:=λx q=>by rw[q] at hR;cases hR
    have hnew:∀g∈(ia d f.aM).bL.map (b9 (i:Int) true),g=b9 i true (eC d1):=λg hg=>by
     obtain⟨x,hx,rfl⟩:=ZQ.1 hg
     rcases c3 with⟨c3,_⟩|⟨c3,_⟩
     .rw[c3] at hx;simp at hx
     rw[c3] at hx;simp at hx;subst hx;rw[h.cn.path]
    refine⟨h.cn.trans c1,λg hg=>?_,λg hg hr=>?_,h.ep.trans c1.ep.symm,h.nx,λx hx=>?_,λk hk' hr=>by rw[c2];exact h.mo k hk' hr,?_,h.am,h.tm,λhp g hg hgu=>?_,λhp=>?_⟩
    .rcases YR.1 hg with hg|hg
     .exact hF g hg
     rw[hnew g hg];exact .inl ⟨rfl,rfl,.inl rfl⟩
    .rcases YR.1 hg with hg|hg
     .exact hrd g hg hr
     rw[hnew g hg] at hr;cases hr
    .rw[c2];exact(h.got x hx).imp_right λq=>abo _ (old _ q (nrad x))
    .rw[c2]
     rcases h.ack with⟨q1,q2⟩|q|q
     .refine .inl ⟨λx hx=>abo _ (old _ (q1 x hx) (nrad x)),λg hg hgu=>?_⟩
      rcases YR.1 hg with hg|hg
      .exact q2 g (by simp[hg]) hgu
      rw[hnew g hg];rfl
     .exact .inr (.inl q)
     rw[FV c1]
     exact .inr (.inr (abo _ (old _ q (nup _ rfl))))
    .rcases YR.1 hg with hg|hg
     .exact h.na hp g (by simp[hg]) hgu
     rw[hnew g hg];rfl
    rcases h.pd hp with q|q|q
    .by_cases hq:f=b9 i false (iM d1.aE)
     .right;left
      have hs:f.aM=iM d1.aE:=by rw[hq];rfl
      have hce':=e1.mp.dp.ce
      have:=c4 (by rw[hs];rfl) (by rw[hs];exact OE oaa) (by rw[hs,hdc];rfl)
      rw[this,h.cn.path]
      simp
     exact .inl (abo _ (old _ q hq))
    .exact .inr (.inl (abo _ (old _ q (nup _ rfl))))
    exact .inr (.inr q)
  .
    rw[hR] at e2
    simp only[cond_true] at e2 ⊢
    obtain⟨x0,hx0,hfx⟩:=h.rd f (by simp) hR
    obtain⟨z1,z2,z3,z4⟩:=hS x0 hx0
    have hnxt:=h.nx
    have hopen:lE d.aV d.ag d.aF f.b6=(x0,true):=by
     rw[hfx,show(Cs i d1 x0).b6=iQ d1.aV d1.ag d1.aF x0 from rfl,h.cn.rk,h.cn.gn,h.cn.ep]
     exact Bk z1 oaa z4 z3 _ _ _
    have hrad:js d f.b6=⟨{d with aT:=iu d.aT x0},[qW d (iu d.aT x0)]⟩:=by
     simp only[js,hopen,h2,aQ,abA,cond_true]
    rw[hrad]
    have h7:x0.cQ<=d.aT.bb+7:=by
     simp only[cf] at hak;omega
    obtain⟨t1,t2⟩:=QH hdp z3 h7 oaa
    have c1:vV d {d with aT:=iu d.aT x0}:=⟨h2,rfl,rfl,rfl,rfl⟩
    have hgood:∀x∈S,x.cQ<=24:=λx hx=>by have:=(hS x hx).2.1;omega
    simp only[Ze,ZV]
    refine⟨h.cn.trans c1,λg hg=>?_,λg hg hr=>?_,h.ep,h.nx,λx hx=>?_,λk hk' hr=>t2 k hk' (h.mo k hk' hr),?_,h.am,h.tm,λhp=>by rw[hp] at hx0;simp at hx0,λhp=>?_⟩
    .rcases YR.1 hg with hg|hg
     .exact hF g hg
     simp at hg;subst hg;exact .inl ⟨rfl,rfl,.inr rfl⟩
    .rcases YR.1 hg with hg|hg
     .exact hrd g hg hr
     simp at hg;subst hg;cases hr
    .rcases h.got x hx with q|q
     .exact .inl (t2 _ (hgood x hx) q)
     by_cases hq:f=Cs i d1 x
     .left
      have:x=x0:=by
       have e:=Bk (x:=x) (hS x hx).1 (by have:=hgood x hx;omega) (hS x hx).2.2.2 (hS x hx).2.2.1 d1.aV d1.ag d1.aF
       rw[show iQ d1.aV d1.ag d1.aF x=f.b6 from by rw[hq];rfl,<-h.cn.rk,<-h.cn.gn,<-h.cn.ep,hopen] at e
       exact(Prod.mk.injEq .. ▸e).1.symm
      rw[this];exact t1
     exact .inr (abo _ (old _ q hq))
    .right;right
     rw[FV c1]
     exact abq _ (by simp)
    rcases h.pd hp with q|q|q
    .exact .inl (abo _ (old _ q (λq'=>by rw[q'] at hR;cases hR)))
    .exact .inr (.inl (abo _ (old _ q (nup _ rfl))))
    exact .inr (.inr q)
 rw[hU] at e2
 simp only[cond_true] at e2 ⊢
 have hk:f.bW=false/\(f.aM.aS=5\/f.aM.aS=8):=by
  rcases hok with q|q
  .exact q.2
  rw[hU] at q;exact absurd q.1 (by simp)
 rw[hk.1] at e2 ⊢
 simp only[Zk] at e2 ⊢
 have nrad:∀x,f≠Cs i d1 x:=λx q=>by rw[q] at hU;cases hU
 have npage:f≠b9 i false (iM d1.aE):=λq=>by rw[q] at hU;cases hU
 cases hce:eqB f.aM.aE f.aE
 .simp only[au]
  have hne:∀x:aR,f≠b9 i true x:=λx q=>by rw[q] at hce;simp[b9] at hce
  exact skip nrad (hne _) npage (hne _)
 rw[hce] at e2
 simp only[au] at e2 ⊢
 have fin:∀(s':ae) (l:List a9),LI K d s'->SI d s' a->s.aF<=s'.aF->s'.aq.bb=s.aq.bb->cf s.aq<=cf s'.aq->(∀g∈l,okM g/\g.bW=false/\g.dS=false)->
  ((s'.c9=s.c9/\s'.cR=s.cR/\s'.eo=s.eo)\/(s'.c9=0/\s'.cR=0)\/(f.aM.aS=8/\s'.c9=0/\s'.cR=s.cR/\s'.eo=s.eo))->
  (f.aM.aS=5->cf s'.aq=cf s.aq)->(f=b9 i true (qW d d.aT)->cf s'.aq=d.aT.bb-1)->(f=b9 i true (eC d1)->s'.c9=0/\s'.cR=0)->MR i d1 s1 S pg d s' (F++l):=by
  intro s' l hl hsi g1 g2 g3 g4 g5 g6 g7 g8
  have hcn':=hl.cn oaa
  have hak':=hsi.ak
  refine⟨h.cn,λg hg=>?_,λg hg hr=>?_,?_,g2.trans h.nx,λx hx=>(h.got x hx).imp_right λq=>abo _ (old _ q (nrad x)),h.mo,?_,abp h.am g3,?_,λhp g hg hgu=>?_,λhp=>?_⟩
  .rcases YR.1 hg with hg|hg
   .exact hF g hg
   exact(g4 g hg).1
  .rcases YR.1 hg with hg|hg
   .exact hrd g hg hr
   rw[(g4 g hg).2.1] at hr;cases hr
  .have:=h.ep;omega
  .rcases h.ack with⟨q1,q2⟩|q|q
   .refine .inl ⟨λx hx=>abo _ (old _ (q1 x hx) (nrad x)),λg hg hgu=>?_⟩
    rcases YR.1 hg with hg|hg
    .exact q2 g (by simp[hg]) hgu
    rw[(g4 g hg).2.2] at hgu;cases hgu
   .right;left;omega
   by_cases hq:f=b9 i true (qW d d.aT)
   .exact .inr (.inl (g7 hq))
   exact .inr (.inr (abo _ (old _ q hq)))
  .rcases g5 with⟨p1,p2,p3⟩|p|⟨p0,p1,p2,p3⟩
   .rcases h.tm with⟨r1,r2,r3⟩|r|⟨r0,r1,r2,r3⟩
    .exact .inl ⟨by omega,by omega,p3.trans r3⟩
    .exact .inr (.inl ⟨by omega,by omega⟩)
    exact .inr (.inr ⟨r0,by omega,by omega,p3.trans r3⟩)
   .exact .inr (.inl p)
   have hne:S≠[]:=λe=>by
    have:=h.na e f (by simp) hU
    omega
   rcases h.tm with⟨r1,r2,r3⟩|r|⟨r0,r1,r2,r3⟩
   .exact .inr (.inr ⟨hne,p1,by omega,p3.trans r3⟩)
   .exact .inr (.inl ⟨p1,by omega⟩)
   exact .inr (.inr ⟨hne,p1,by omega,p3.trans r3⟩)
  .rcases YR.1 hg with hg|hg
   .exact h.na hp g (by simp[hg]) hgu
   rw[(g4 g hg).2.2] at hgu;cases hgu
  rcases h.pd hp with q|q|q
  .exact .inl (abo _ (old _ q npage))
  .by_cases hq:f=b9 i true (eC d1)
   .exact .inr (.inr (g8 hq))
   exact .inr (.inl (abo _ (old _ q hq)))
  right;right
  rcases g5 with⟨p1,p2,p3⟩|p|⟨p0,p1,p2,p3⟩
  .omega
  .exact p
  omega
 have hnew:∀g∈(sUp s f.aM).bL.map (b9 (i:Int) false),okM g/\g.bW=false/\g.dS=false:=λg hg=>by
  refine⟨OW hk.2 g hg,?_⟩
  obtain⟨x,_,rfl⟩:=ZQ.1 hg
  exact⟨rfl,rfl⟩
 have hdp1:eC d1=eC d:=h.cn.path.symm
 refine fin _ _ e2.li e2.si (T2 s f.aM) ?_ ?_ hnew ?_ ?_ ?_ ?_
 .
   rw[sUp]
   cases ey f.aM
   .rfl
   simp only[au]
   rcases hk.2 with q|q
   .rw[q,Gh,Gi,aQ]
    simp only[md,au]
    cases !f6 s f.aM||(ltB f.aM.aF s.aF||(eqB f.aM.aF s.aF&&!eqB f.aM.aE s.aE))<;>rfl
   rw[q,J4,J5,J6,aQ]
   simp only[um,au]
   cases !f6 s f.aM||ltB s.aq.bb f.aM.bI
   .exact(yt s.aq f.aM.bI).2
   rfl
 .rw[sUp]
  cases ey f.aM
  .exact aaF _
  simp only[au]
  rcases hk.2 with q|q
  .rw[q,Gh,Gi,aQ]
   simp only[md,au]
   cases !f6 s f.aM||(ltB f.aM.aF s.aF||(eqB f.aM.aF s.aF&&!eqB f.aM.aE s.aE))<;>exact aaF _
  rw[q,J4,J5,J6,aQ]
  simp only[um,au]
  cases !f6 s f.aM||ltB s.aq.bb f.aM.bI
  .exact(yt s.aq f.aM.bI).1
  exact aaF _
 .rw[sUp]
  cases ey f.aM
  .exact .inl ⟨rfl,rfl,rfl⟩
  simp only[au]
  rcases hk.2 with q|q
  .rw[q,Gh,Gi,aQ]
   simp only[md,au]
   cases !f6 s f.aM||(ltB f.aM.aF s.aF||(eqB f.aM.aF s.aF&&!eqB f.aM.aE s.aE))
   .exact .inr (.inl ⟨rfl,rfl⟩)
   exact .inl ⟨rfl,rfl,rfl⟩
  rw[q,J4,J5,J6,aQ]
  simp only[um,au]
  cases !f6 s f.aM||ltB s.aq.bb f.aM.bI
  .exact .inr (.inr ⟨by first|exact q|trivial,by first|rfl|trivial,by first|rfl|trivial,by first|rfl|trivial⟩)
  exact .inl ⟨rfl,rfl,rfl⟩
 .intro q
  rw[sUp]
  cases ey f.aM
  .rfl
  simp only[au]
  rw[q,Gh,Gi,aQ]
  simp only[md,au]
  cases !f6 s f.aM||(ltB f.aM.aF s.aF||(eqB f.aM.aF s.aF&&!eqB f.aM.aE s.aE))<;>rfl
 .intro q
  have hs:f.aM=qW d d.aT:=by rw[q];rfl
  have g1:=e1.mp.dp.ce
  have g2:=e1.mp.dp.gn
  have g3:=e1.mp.dp.ep
  have g4:=hdp.n
  have g5:=hdp.l
  have hnx:=e1.si.nx
  have ho:ey (qW d d.aT)=true:=by simp only[ey,qW,kG,v0,bu];omega
  have hkn:f6 s (qW d d.aT)=true:=by
   simp only[f6,v0,eqB_t]
   exact⟨hcn.1,hcn.2.1.symm,by rw[hkey,qW];exact vSig_sign _ _⟩
  rw[hs,sUp,ho,show(qW d d.aT).aS=8 from rfl,J4,J5,J6,aQ]
  simp only[um,hkn,show(qW d d.aT).bI=d.aT.bb from rfl,ltB_f.2 hnx,aaT,au]
  exact UW e1.mp.sg.sp.win hak hnx
 intro q
 have hs:f.aM=eC d:=by rw[q,hdp1];rfl
 rw[hs,OF e1 hK h2]
 exact⟨rfl,rfl⟩
theorem wV {r:Nat} {n:ab} (h:EQ (r+1) n) (hf:n.aA=[]) {i:Nat} {d:aw} {s:ae} {a:av} (hd:n.ah[i]?=some d) (hs:n.aj[i]?=some s) (ha:n.aB[i]?=some a) (hm':qR d s) (hup:upF n.bX n.bp d.aE=true)
 {S:List an} (hS:(bF s a n.bX).b6=S.map λx=>iQ s.aV s.ag s.aF x) (hSx:∀x∈S,1<=x.cQ/\x.cQ<(bF s a n.bX).az.aq.bb/\x.a8.length<=60/\okB x.a8):
 ∃d' s' a',(dN n).ah[i]?=some d'/\(dN n).aj[i]?=some s'/\(dN n).aB[i]?=some a'/\E9 n i d s a d' s' a'/\qR d' s'/\
  s'.aq.bb=(bF s a n.bX).az.aq.bb/\(∀x∈S,xS d'.aT x.cQ)/\(∀k,k<=24->xS d.aT k->xS d'.aT k)/\(S≠[]->cf s'.aq=d'.aT.bb-1)/\cf (bF s a n.bX).az.aq<=cf s'.aq/\
  ((s'.c9=(bF s a n.bX).az.c9/\s'.cR=(bF s a n.bX).az.cR/\s'.eo=(bF s a n.bX).az.eo)\/(s'.c9=0/\s'.cR=0)\/(S≠[]/\s'.c9=0/\s'.cR=(bF s a n.bX).az.cR/\s'.eo=(bF s a n.bX).az.eo))/\(iM d.aE∈(bF s a n.bX).eW->s'.c9=0/\s'.cR=0):=by
 obtain⟨B,hn,hB⟩:=h.np
 obtain⟨K,hl,hK⟩:=h.ln
 have hm:=hn.m i d s a hd hs ha
 have si:=h.pi.si i d s a hd hs ha
 have h2:=hm'.st
 have hli:=hl.li i d s hd hs
 have hcn:=hli.cn oaa
 have hkey:s.aV=d.aV:=by rw[si.sk oaa,si.dk oaa,hcn.2.1]
 have hcell:s.aE=d.aE:=hli.cc h2 hm'.ep
 have hml:=iw hn.map
 have hTK:=me hm.sg (m:=n.bX) oaa
 obtain⟨d1,hd1⟩:∃d1,d1=(dR d).aJ:=⟨_,rfl⟩
 have hc1:vV d d1/\d1.aT=d.aT/\∀f∈tH i d,f=b9 i true (eC d):=by
  rw[hd1,tH,dR]
  cases ltB 0 d.di
  .simp only[cond_false]
   rw[h2,show eqB (2:Int) 1=false from by simp[eqB],aQ]
   cases d.bM
   .exact⟨⟨by first|rfl|exact h2,rfl,rfl,rfl,rfl⟩,rfl,λf hf=>by simpa using hf⟩
   exact⟨⟨by first|rfl|exact h2,rfl,rfl,rfl,rfl⟩,rfl,by simp⟩
  exact⟨⟨by first|rfl|exact h2,rfl,rfl,rfl,rfl⟩,rfl,by simp⟩
 obtain⟨c1,c2,c3⟩:=hc1
 obtain⟨qq,rr,pp,ww,uu,hsame⟩:=vl s a n.bX
 have hse:(bF s a n.bX).az.aF=s.aF/\(bF s a n.bX).az.aE=s.aE:=by rw[hsame];exact⟨rfl,rfl⟩
 have hrad:∀x,lL i (bF s a n.bX).az.aE (iQ s.aV s.ag s.aF x)=Cs i d1 x:=λx=>by
  rw[Cs,c1.ce,c1.rk,c1.gn,c1.ep,hse.2,hcell,hkey,hcn.2.1,hm'.ep]
 obtain⟨d',s',a',q1,q2,q3,q4,q5⟩:=uk (P:=MR i d1 (bF s a n.bX).az S (iM d.aE∈(bF s a n.bX).eW)) h hf hd hs ha
  (λd' s' f F e1 e2 _ hp=>Mo oaa (by rw[c1.ce];exact hup) hSx e1 e2 hp)
  (λ_=>by
   rw[<-hd1]
   have hmem:∀x∈S,Cs i d1 x∈tH i d++vb i (bF s a n.bX):=λx hx=>by
    rw[<-hrad x,vb,hS]
    exact abq _ (abq _ (ZQ.2 ⟨_,ZQ.2 ⟨x,hx,rfl⟩,rfl⟩))
   refine⟨.refl c1.st,λf hf=>?_,λf hf hR=>?_,by rw[hse.1,hm'.ep,c1.ep],rfl,λx hx=>.inr (hmem x hx),λk _ hk=>hk,.inl ⟨hmem,λf hf hU=>?_⟩,aaF _,.inl ⟨rfl,rfl,rfl⟩,λ_ f hf hU=>?_,λhp=>.inl ?_⟩
   .rcases YR.1 hf with hf|hf
    .rw[c3 f hf];exact .inl ⟨rfl,rfl,.inl rfl⟩
    exact Kt si hm.sg n.bX i f hf
   .rcases YR.1 hf with hf|hf
    .rw[c3 f hf] at hR;cases hR
    rcases YR.1 hf with hf|hf
    .obtain⟨x,hx,rfl⟩:=ZQ.1 hf;cases hR
    obtain⟨x,hx,rfl⟩:=ZQ.1 hf
    rw[hS] at hx
    obtain⟨y,hy,rfl⟩:=ZQ.1 hx
    exact⟨y,hy,hrad y⟩
   .rcases YR.1 hf with hf|hf
    .rw[c3 f hf];rfl
    have:=(oD si hm.sg n.bX i f hf).1
    rw[hU] at this;cases this
   .rcases YR.1 hf with hf|hf
    .rw[c3 f hf];rfl
    have:=(oD si hm.sg n.bX i f hf).1
    rw[hU] at this;cases this
   rw[c1.ce,vb]
   exact abq _ (abo _ (ZQ.2 ⟨_,hp,rfl⟩)))
 refine⟨d',s',a',q1,q2,q3,q5,⟨q4.cn.st,q4.ep⟩,q4.nx,λx hx=>?_,λk hk hr=>q4.mo k hk (by rw[c2];exact hr),λhne=>?_,q4.am,q4.tm,λhp=>?_⟩
 .rcases q4.got x hx with q|q
  .exact q
  simp at q
 .rcases q4.ack with⟨q,_⟩|q|q
  .cases S with
   |nil=>exact absurd rfl hne
   |cons x S=>have:=q x (by simp);simp at this
  .exact q
  simp at q
 rcases q4.pd hp with q|q|q
 .simp at q
 .simp at q
 exact q
structure AG (d:aw) (s:ae):Prop where
 d:d.aT.bj.length=s.ax.length
 a:cf s.aq=s.ax.length
structure At (R:Nat) (n:ab) (i:Nat) (d0:aw) (s0:ae) (a0:av):Prop where
 q:EQ R n
 f:n.aA=[]
 d:n.ah[i]?=some d0
 s:n.aj[i]?=some s0
 a:n.aB[i]?=some a0
 u:upF n.bX n.bp d0.aE=true
 c:dX s0.ax s0.ax.length<=pH s0 a0
theorem At.aff {R i:Nat} {n:ab} {d:aw} {s:ae} {a:av} (h:At R n i d s a):Aff s a:=by
 obtain⟨B,hn,hB⟩:=h.q.np
 have hm:=hn.m i d s a h.d h.s h.a
 have si:=h.q.pi.si i d s a h.d h.s h.a
 have ho:=h.q.ra i a h.a
 rw[<-hm.si] at ho
 exact⟨si.ch,h.c,ho,si.wn⟩
theorem At.next {R i:Nat} {n:ab} {d:aw} {s:ae} {a:av} (h:At (R+1) n i d s a) {d':aw} {s':ae} {a':av} (hd:(dN n).ah[i]?=some d') (hs:(dN n).aj[i]?=some s') (ha:(dN n).aB[i]?=some a') (k:E9 n i d s a d' s' a'):At R (dN n) i d' s' a':=by
 have hr:=h.q.round
 have hk:=rP (n:=n) (by have:=h.q.nw;omega)
 exact⟨hr.1,hr.2,hd,hs,ha,by rw[hk.1,hk.2.1,k.c];exact h.u,by rw[k.u,k.t];exact h.c⟩
def qQ (b:Nat) (X:aw->ae->Prop):Prop:=∀(R:Nat) (n:ab) (i:Nat) (d:aw) (s:ae) (a:av),b<=R->At R n i d s a->X d s->
 ∃d' s',(gW R n).ah[i]?=some d'/\(gW R n).aj[i]?=some s'/\AG d' s'/\s'.ax=s.ax
theorem qQ.step {b:Nat} {X:aw->ae->Prop} (h:∀(R:Nat) (n:ab) (i:Nat) (d:aw) (s:ae) (a:av),b<=R->At (R+1) n i d s a->X d s->
 ∃d' s' a',(dN n).ah[i]?=some d'/\(dN n).aj[i]?=some s'/\(dN n).aB[i]?=some a'/\E9 n i d s a d' s' a'/\∃Y,qQ b Y/\Y d' s'):qQ (b+1) X:=by
 intro R n i d s a hb hat hx
 cases R with
 |zero=>omega
 |succ R=>
  obtain⟨d',s',a',q1,q2,q3,q4,Y,q5,q6⟩:=h R n i d s a oaa hat hx
  obtain⟨x,y,z1,z2,z3,z4⟩:=q5 R (dN n) i d' s' a' oaa (hat.next q1 q2 q3 q4) q6
  exact⟨x,y,z1,z2,z3,z4.trans q4.u⟩
theorem qQ.mono {b b':Nat} {X:aw->ae->Prop} (h:qQ b X) (hb:b<=b'):qQ b' X:=λR n i d s a h1 h2 h3=>h R n i d s a oaa h2 h3
theorem Wh {K G:Int} {nc:Nat} {u:Int->Bool} {i:Nat} {f:a9} {d:aw} {s:ae} {a:av} {F:List a9} (e:vP K G nc i d s a F):cf s.aq<=cf (dy u i f d s).2.1.aq/\d.aT.bb<=(dy u i f d s).1.aT.bb:=by
 rw[dy]
 cases u f.aE
 .exact⟨aaF _,aaF _⟩
 simp only[au]
 cases f.dS
 .simp only[cond_false]
  cases eqB d.aE f.aE
  .exact⟨aaF _,aaF _⟩
  simp only[au]
  refine⟨aaF _,?_⟩
  cases f.bW
  .simp only[cond_false]
   rw[ia]
   cases !ey f.aM||(!eqB f.aM.aE d.aE||eqB d.aG 0)
   .simp only[cond_false]
    cases eqB f.aM.aS 2&&eqB d.aG 1
    .simp only[cond_false]
     cases eqB f.aM.aS 4&&(eqB d.aG 1&&(mf d.aV&&(eqB f.aM.ag d.ag&&lN d.aV f.aM)))
     .simp only[cond_false]
      cases eqB f.aM.aS 6&&(eqB d.aG 2&&(eqB f.aM.ag d.ag&&(eqB f.aM.aF d.aF&&lN d.aV f.aM)))
      .simp only[cond_false]
       cases eqB f.aM.aS 7&&(eqB d.aG 3&&ltB d.aF 999999)
       .simp only[cond_false]
        cases eqB f.aM.aS 7&&eqB d.aG 2<;>exact aaF _
       exact aaF _
      exact aaF _
     exact aaF _
    simp only[cond_true,yA]
    cases eqB (jm d.cZ.eR d.cZ.df f.aM.cO) 0<;>exact aaF _
   exact aaF _
  simp only[cond_true,js]
  cases eqB d.aG 2&&(lE d.aV d.ag d.aF f.b6).2
  .exact aaF _
  simp only[cond_true]
  have hv:=lM.1 e.mp.dp.rc.v
  cases hl:yN d.aT (lE d.aV d.ag d.aF f.b6).1
  .obtain⟨t,dd,_,_,t3,_⟩:=vy hv hl
   rw[t3];omega
  rw[iu,hl];exact aaF _
 simp only[cond_true]
 cases f.bW||!eqB f.aM.aE f.aE
 .simp only[cond_false]
  refine⟨?_,aaF _⟩
  rw[sUp]
  cases ey f.aM
  .exact aaF _
  simp only[au]
  cases eqB f.aM.aS 1
  .simp only[cond_false]
   cases eqB f.aM.aS 3
   .simp only[cond_false]
    cases eqB f.aM.aS 5
    .simp only[cond_false]
     cases eqB f.aM.aS 8
     .exact aaF _
     simp only[cond_true,um]
     cases !f6 s f.aM||ltB s.aq.bb f.aM.bI
     .exact(yt _ _).1
     exact aaF _
    simp only[cond_true,md]
    cases !f6 s f.aM||(ltB f.aM.aF s.aF||(eqB f.aM.aF s.aF&&!eqB f.aM.aE s.aE))<;>exact aaF _
   simp only[cond_true,qk]
   cases leB s.bi 0||(!eqB f.aM.ag s.bi||(!eqB f.aM.bI s.aO.xW||leB 999999 s.aF))<;>exact aaF _
  simp only[cond_true,xT]
  cases eqB s.be.cQ 999999<;>exact aaF _
 exact⟨aaF _,aaF _⟩
theorem ED {s:ae} {a:av} (g:SG s a) (m:aU) (h1:s.aG=1) (hq:ltB 4 (eE s)=false):
 ∃N,(bF s a m).b6=(iN s).1++N.map (λx=>iQ s.aV s.ag s.aF x)/\(bF s a m).az.aq=⟨s.aq.bb+N.length,s.aq.aD++N⟩/\(∀(j:Nat) x,N[j]?=some x->x.cQ=s.aq.bb+j/\s.ax[(x.cQ-1).toNat]?=some ⟨x.a8⟩)/\
  (bF s a m).az.c9=eE s/\(bF s a m).az.cR=(iN s).2/\(bF s a m).az.eo=s.eo/\N.length<=2/\(Aff s a->N.length=2\/((bF s a m).az.ax.length:Int)<(bF s a m).az.aq.bb\/8<=(bF s a m).az.aq.aD.length):=by
 have hg:=wq g
 have gu:=g.upd (uh g.sp) (uj g.sp)
 obtain⟨N,n1,n2,n3,n4,n5⟩:=EI 2 {s with c9:=eE s,cR:=(iN s).2,bC:=(eP s a).2} (eP s a).1 [] gu
 obtain⟨w,u,e⟩:=yY 2 {s with c9:=eE s,cR:=(iN s).2,bC:=(eP s a).2} (eP s a).1 []
 have ht:bF s a m=sW s a m:=by rw[bF,h1,aQ,hq];rfl
 have hsg:SG (bF s a m).az (bF s a m).cy:=by rw[ht];exact EG 2 _ _ [] gu
 rw[ht] at hsg ⊢
 refine⟨N,?_,?_,n4,?_,?_,?_,n3,λf=>?_⟩
 .simp only[sW];rw[n1];rfl
 .simp only[sW];exact n2
 .simp only[sW];rw[e]
 .simp only[sW];rw[e]
 .simp only[sW];rw[e]
 have fa:Aff {s with c9:=eE s,cR:=(iN s).2,bC:=(eP s a).2} (eP s a).1:=by
  refine⟨?_,?_,?_,f.wn⟩
  .simp only;rw[hg.2.2.2.1];exact f.ch
  .have:=f.co
   simp only[pH] at this ⊢
   obtain⟨_,g2,_,g4,_,g6⟩:=hg
   omega
  simp only;rw[hg.2.2.1];exact F9 f.ow
 rcases n5 fa with h|h
 .exact .inl h
 right
 have:=Eh hsg.sp h
 simp only[Bool.and_eq_false_iff] at this
 rcases this with h|h
 .exact .inl (tD h)
 have:=nO h;right;omega
theorem Qx {s:ae} {a:av} {m:aU} (h1:s.aG≠1):bF s a m=⟨s,a,[],[]⟩:=by rw[bF,eqB_f.2 h1];rfl
theorem vk {s:ae} {a:av} {m:aU} (h1:s.aG=1) (hq:ltB 4 (eE s)=true):
 (bF s a m).az.aq=s.aq/\(bF s a m).b6=[]/\(bF s a m).az.c9=eE s/\(bF s a m).az.cR=s.cR/\(bF s a m).az.eo=(mQ {s.eo with fJ:=iB m s.aE} m).1/\(bF s a m).eW=(mQ {s.eo with fJ:=iB m s.aE} m).2.map iM:=by
 rw[bF,h1,aQ,hq];exact⟨rfl,rfl,rfl,rfl,rfl,rfl⟩
theorem rO {s:ae} (g:SP s):ltB 4 (eE s)=true↔uI s=true/\4<=s.c9:=by
 have hq:=g.qu
 rw[eE]
 cases uI s
 .simp[ltB]
 simp only[cond_true,lK,true_and]
 rw[ltB_t];split<;>omega
theorem lQ {s:ae}:uI s=true↔s.aq.aD≠[]:=by
 rw[uI,ltB_t]
 cases s.aq.aD with
 |nil=>simp
 |cons x l=>simp
theorem KR {s:ae} {a:av} (g:SG s a) (m:aU):cf (bF s a m).az.aq=cf s.aq:=by
 by_cases h1:s.aG=1
 .cases hq:ltB 4 (eE s)
  .obtain⟨N,_,n2,_⟩:=ED g m h1 hq
   rw[n2];simp only[cf,Y8];omega
  rw[(vk h1 hq).1]
 rw[Qx h1]
theorem Px (d:aw):(dR d).aJ.aT=d.aT:=by
 rw[dR]
 cases ltB 0 d.di<;>cases eqB d.aG 1<;>cases eqB d.aG 2&&!d.bM<;>rfl
theorem BL:qQ 0 AG:=by
 intro R
 induction R with
 |zero=>intro n i d s a _ hat hx;exact⟨d,s,hat.d,hat.s,hx,rfl⟩
 |succ R ih=>
  intro n i d s a _ hat hx
  obtain⟨B,hn,hB⟩:=hat.q.np
  have hm:=hn.m i d s a hat.d hat.s hat.a
  obtain⟨d',s',a',q1,q2,q3,q4,q5⟩:=uk (P:=λd' s' F=>cf s.aq<=cf s'.aq/\d.aT.bb<=d'.aT.bb) hat.q hat.f hat.d hat.s hat.a
   (λd' s' f F e1 e2 _ hp=>by
    have:=Wh (u:=upF n.bX n.bp) (f:=f) e1
    exact⟨abp hp.1 this.1,abp hp.2 this.2⟩)
   (λ_=>⟨by rw[KR hm.sg];exact aaF _,by rw[Px];exact aaF _⟩)
  have hat':=hat.next q1 q2 q3 q5
  obtain⟨B',hn',_⟩:=hat'.q.np
  have hm':=hn'.m i d' s' a' q1 q2 q3
  have si':=hat'.q.pi.si i d' s' a' q1 q2 q3
  have r1:=(lM.1 hm'.dp.rc.v).n
  have r2:=(lM.1 hm.dp.rc.v).n
  have l1:=si'.pr.length_le
  have l2:=hm'.sg.sp.nx
  have hu:=q5.u
  have hv:AG d' s':=⟨by rw[hu] at l1 ⊢;have:=hx.d;omega,by
   have h1:=hx.a
   have h2:cf s'.aq<=s'.aq.bb-1:=by simp only[cf];omega
   rw[hu] at l2 ⊢;omega⟩
  obtain⟨x,y,z1,z2,z3,z4⟩:=ih (dN n) i d' s' a' (Y0 _) hat' hv
  exact⟨x,y,z1,z2,z3,z4.trans hu⟩
def Nh (j:Nat) (d:aw) (s:ae):Prop:=qR d s/\s.aq.aD=[]/\(s.ax.length:Int)-(s.aq.bb-1)<=2*j
section
variable {R i:Nat} {n:ab} {d:aw} {s:ae} {a:av}
theorem At.mp (h:At R n i d s a):MP n.bX.aZ.length i d s a/\SI d s a/\∃K,LI K d s/\K<=900000:=by
 obtain⟨B,hn,hB⟩:=h.q.np
 obtain⟨K,hl,hK⟩:=h.q.ln
 exact⟨hn.m i d s a h.d h.s h.a,h.q.pi.si i d s a h.d h.s h.a,K,hl.li i d s h.d h.s,by omega⟩
theorem At.map (h:At R n i d s a):oI n.bX=true:=by
 obtain⟨B,hn,hB⟩:=h.q.np
 exact hn.map
theorem yZ (h:At R n i d s a) (h1:s.aG=1) (hq:ltB 4 (eE s)=false):
 ∃N S,(bF s a n.bX).b6=S.map (λx=>iQ s.aV s.ag s.aF x)/\(S=(if s.aq.aD≠[]/\s.cR=0 then s.aq.aD.take 2 else [])++N)/\(∀x∈S,1<=x.cQ/\x.cQ<(bF s a n.bX).az.aq.bb/\x.a8.length<=60/\okB x.a8)/\
  (bF s a n.bX).az.aq=⟨s.aq.bb+N.length,s.aq.aD++N⟩/\(∀(j:Nat) x,N[j]?=some x->x.cQ=s.aq.bb+j)/\(bF s a n.bX).az.c9=eE s/\(bF s a n.bX).az.cR=(iN s).2/\(bF s a n.bX).az.eo=s.eo/\
  (N.length=2\/(s.ax.length:Int)<s.aq.bb+N.length\/8<=s.aq.aD.length+N.length):=by
 obtain⟨hm,si,K,li,hK⟩:=h.mp
 obtain⟨N,n1,n2,n3,n4,n5,n6,n7,n8⟩:=ED hm.sg n.bX h1 hq
 have hsp:=hm.sg.sp
 have hTK:=me hm.sg (m:=n.bX) (by have:=(iw h.map).2;omega)
 have hsg:=xc hm.sg h.map
 have hret:(iN s).1=(if s.aq.aD≠[]/\s.cR=0 then s.aq.aD.take 2 else []).map (λx=>iQ s.aV s.ag s.aF x):=by
  have hrt:=hsp.rt
  rw[iN]
  by_cases hb:s.aq.aD=[]
  .have:uI s=false:=by
    cases hb':uI s
    .rfl
    exact absurd hb (lQ.1 hb')
   rw[this,if_neg (λq=>q.1 hb)];rfl
  rw[lQ.2 hb]
  by_cases hr:s.cR=0
  .rw[if_pos ⟨hb,hr⟩,ltB_f.2 (show s.cR<=0 by omega)]
   simp only[aa6,xX,h1,aQ,au]
  rw[if_neg (λq=>hr q.2),ltB_t.2 (show 0<s.cR by omega)];rfl
 refine⟨N,_,by rw[n1,hret,ZU],rfl,λx hx=>?_,n2,λj x hj=>(n3 j x hj).1,n4,n5,n6,?_⟩
 .have hmem:x∈(bF s a n.bX).az.aq.aD:=by
   rw[n2]
   rcases YR.1 hx with hx|hx
   .split at hx
    .exact abo _ (Y9 hx)
    simp at hx
   exact abq _ hx
  have:=M6 hsg.sp.win hmem
  exact⟨this.1,this.2.1,this.2.2.2,hsg.b2 x hmem⟩
 have:=n8 h.aff
 rw[n2,hTK.sub] at this
 simpa using this
end
theorem B7 {d:aw} {s:ae} (h:s.aq.bb<=d.aT.bb) (ha:cf s.aq=d.aT.bb-1):s.aq.aD=[]:=by
 simp only[cf] at ha
 exact Zl oaa
theorem yO:∀j:Nat,qQ j (Nh j)
 |0=>λR n i d s a hb hat hx=>by
  obtain⟨hm,si,K,li,hK⟩:=hat.mp
  obtain⟨h1,h2,h3⟩:=hx
  have hnx:=hm.sg.sp.nx
  have hak:=si.ak
  have hr:=(lM.1 hm.dp.rc.v).n
  have hle:=si.pr.length_le
  have ha:cf s.aq=s.aq.bb-1:=by simp only[cf,h2,aaI];omega
  exact BL R n i d s a (Y0 _) hat ⟨by omega,by omega⟩
 |j+1=>qQ.step λR n i d s a hb hat hx=>by
  obtain⟨hm,si,K,li,hK⟩:=hat.mp
  obtain⟨h1,h2,h3⟩:=hx
  have hcn:=li.cn (by have:=h1.st;omega)
  have hnx:=hm.sg.sp.nx
  have hbz:uI s=false:=by
   cases hb':uI s
   .rfl
   exact absurd h2 (lQ.1 hb')
  have hq:ltB 4 (eE s)=false:=by
   cases hq':ltB 4 (eE s)
   .rfl
   have:=((rO hm.sg.sp).1 hq').1;rw[hbz] at this;cases this
  obtain⟨N,S,g1,g2,g3,g4,g5,g6,g7,g8,g9⟩:=yZ hat hcn.1 hq
  rw[if_neg (λq=>q.1 h2),ZR] at g2
  subst g2
  obtain⟨d',s',a',q1,q2,q3,q4,q5,q6,q7,q8,q9,q10,_⟩:=wV hat.q hat.f hat.d hat.s hat.a h1 hat.u g1 g3
  have hat':=hat.next q1 q2 q3 q4
  obtain⟨hm',si',K',li',hK'⟩:=hat'.mp
  rw[g4] at q6
  simp only at q6
  have hu:=q4.u
  refine⟨d',s',a',q1,q2,q3,q4,Nh j,yO j,q5,?_,?_⟩
  .
    have hr:=(lM.1 hm'.dp.rc.v)
    have hak:=si.ak
    have ha:cf s.aq=s.aq.bb-1:=by simp only[cf,h2,aaI];omega
    have hle:s.aq.bb<=d.aT.bb:=by omega
    have hall:s'.aq.bb<=d'.aT.bb:=by
     refine Ae hr λk hk1 hk2=>?_
     have hk24:k<=24:=by have:=hm'.sg.sp.nx;have:=hm'.sg.sp.sl;omega
     by_cases hk:k<s.aq.bb
     .exact q8 k hk24 (.inl oaa)
     obtain⟨x,hx⟩:∃x,S[(k-s.aq.bb).toNat]?=some x:=⟨_,YO oaa⟩
     have:=g5 _ x hx
     have:=q7 x (YS hx)
     rw[show k=x.cQ by omega];exact this
    by_cases hN:S=[]
    .have hak':=q10
     rw[g4] at hak'
     have hnx':=q6
     rw[hN] at hak' hnx'
     simp only[abu,aaI] at hak' hnx'
     have h6:cf (⟨s.aq.bb+((0:Nat):Int),s.aq.aD⟩:bh)=s.aq.bb-1:=by
      simp only[cf,h2,aaI];omega
     rw[h6] at hak'
     simp only[cf] at hak'
     exact Zl oaa
    exact B7 hall (q9 hN)
  rw[hu]
  rw[h2] at g9
  simp only[aaI] at g9
  omega
def Lost (m:Int) (d:aw) (s:ae):Prop:=∃N0,(∀k,N0<=k->k<s.aq.bb->xS d.aT k)/\N0-1<=cf s.aq+m
def phi (s:ae):Int:=if 4<=s.c9 then s.eo.di+1 else if s.cR=0 then 0 else s.cR+5
def Nj (j p:Nat) (d:aw) (s:ae):Prop:=qR d s/\Lost (2*j+2) d s/\phi s<=p
theorem FO {R i:Nat} {n:ab} {d:aw} {s:ae} {a:av} (h:At R n i d s a) (hm:qR d s) (h2:s.aq.aD=[]):Nh 12 d s:=by
 obtain⟨hp,si,K,li,hK⟩:=h.mp
 have:=hp.sg.sp.sl
 have:=hp.sg.sp.win.n
 exact⟨hm,h2,by omega⟩
theorem M3 {m:aU} {p:cL} (hp:0<=p.di/\p.di<=3) (c:Int) (hc:0<=c/\c<m.aZ.length) (ha:p.fJ=iB m c) (h4:0<=p.dt/\p.dt<=4) (hw:p.di=0):c∈(mQ p m).2:=by
 rw[mQ,hw,bB]
 simp only[cond_false]
 have hall:c∈LD m:=ZQ.2 ⟨c.toNat,ZW.2 oaa,by omega⟩
 obtain⟨x,hx⟩:∃x,m.aZ[c.toNat]?=some x:=⟨_,YO oaa⟩
 have harea:iB m c=x.fJ:=by
  rw[iB,show ew m c=true from bu.2 oaa,hx];rfl
 have hin:c∈jq m p.fJ:=by
  rw[jq]
  refine ZQ.2 ⟨(x,c.toNat),ZZ.2 ⟨?_,by rw[ha,harea];exact aQ _⟩,by simp;omega⟩
  rw[List.mem_zipIdx_iff_getElem?];exact hx
 rw[z6]
 cases eqB (bif ltB p.dt 4 then p.dt+1 else 1) 1&&ltB 0 (((jq m p.fJ).length:Nat):Int)
 .have:inR (bif ltB p.dt 4 then p.dt+1 else 1) 1 4=true:=by
   cases hb:ltB p.dt 4
   .exact bu.2 (by simp only[cond_false];omega)
   have:=ko hb;exact bu.2 (by simp only[cond_true];omega)
  rw[this];exact hall
 exact hin
theorem EV {m:aU} {p:cL} (hw:0<p.di):mQ p m=({p with di:=p.di-1},[]):=by rw[mQ,ltB_t.2 hw];rfl
theorem Kg {R i:Nat} {n:ab} {d:aw} {s:ae} {a:av} (h:At (R+1) n i d s a) (hM:qR d s) {mm:Int} (hL:Lost mm d s) (hb:s.aq.aD≠[]):
 ∃d' s' a',(dN n).ah[i]?=some d'/\(dN n).aj[i]?=some s'/\(dN n).aB[i]?=some a'/\E9 n i d s a d' s' a'/\qR d' s'/\
  (s'.aq.aD=[]\/(Lost mm d' s'/\phi s'<phi s)\/(phi s=0/\2<mm/\Lost (mm-2) d' s')):=by
 obtain⟨hm,si,K,li,hK⟩:=h.mp
 have hcn:=li.cn (by have:=hM.st;omega)
 have hml:=iw h.map
 have hsp:=hm.sg.sp
 have hpg:=nQ hsp.page
 obtain⟨N0,L1,L2,L3⟩:∃N0,(∀k,N0<=k->k<s.aq.bb->xS d.aT k)/\N0-1<=cf s.aq+mm/\N0<=s.aq.bb:=by
  obtain⟨N0,L1,L2⟩:=hL
  by_cases h:N0<=s.aq.bb
  .exact⟨N0,L1,L2,h⟩
  exact⟨s.aq.bb,λk k1 k2=>by omega,by omega,aaF _⟩
 have hph:0<=phi s:=by
  have:=hpg.w;have:=hsp.rt
  rw[phi];split
  .omega
  split<;>omega
 cases hq:ltB 4 (eE s)
 .
   have hq4:s.c9<4:=by
    by_cases h4:4<=s.c9
    .have:=(rO hsp).2 ⟨lQ.2 hb,h4⟩;rw[hq] at this;cases this
    omega
   obtain⟨N,S,g1,g2,g3,g4,g5,g6,g7,g8,g9⟩:=yZ h hcn.1 hq
   obtain⟨d',s',a',q1,q2,q3,q4,q5,q6,q7,q8,q9,q10,tt,_⟩:=wV h.q h.f h.d h.s h.a hM h.u g1 g3
   have hat':=h.next q1 q2 q3 q4
   obtain⟨hm',si',K',li',hK'⟩:=hat'.mp
   have hr':=lM.1 hm'.dp.rc.v
   rw[g4] at q6 q10
   simp only at q6
   have hak1:cf (⟨s.aq.bb+N.length,s.aq.aD++N⟩:bh)=cf s.aq:=by simp only[cf,Y8];omega
   rw[hak1] at q10
   have hnew:∀k,N0<=k->k<s'.aq.bb->xS d'.aT k:=λk k1 k2=>by
    have hk24:k<=24:=by have:=hm'.sg.sp.nx;have:=hm'.sg.sp.sl;omega
    by_cases hk:k<s.aq.bb
    .exact q8 k hk24 (L1 k k1 hk)
    obtain⟨x,hx⟩:∃x,N[(k-s.aq.bb).toNat]?=some x:=⟨_,YO oaa⟩
    have:=g5 _ x hx
    have:=q7 x (by rw[g2];exact abq _ (YS hx))
    rw[show k=x.cQ by omega];exact this
   refine⟨d',s',a',q1,q2,q3,q4,q5,?_⟩
   by_cases hr:s.cR=0
   .
     rw[if_pos ⟨hb,hr⟩] at g2
     have hSne:S≠[]:=λe=>by
      rw[e] at g2
      have:=(List.append_eq_nil_iff.1 g2.symm).1
      cases hu:s.aq.aD with
      |nil=>exact hb hu
      |cons x l=>rw[hu] at this;simp at this
     have ha':=q9 hSne
     have hp0:phi s=0:=by rw[phi,if_neg oaa,if_pos hr]
     have hwin:=hsp.win
     have first:∀j:Nat,j<2->j<s.aq.aD.length->xS d'.aT (cf s.aq+1+j):=λj j1 j2=>by
      obtain⟨x,hx⟩:∃x,s.aq.aD[j]?=some x:=⟨_,YO j2⟩
      have e:=(hwin.u j x hx).1
      have:=q7 x (by
       rw[g2]
       refine abo _ (YS (i:=j) ?_)
       rw[List.getElem?_take_of_lt j1];exact hx)
      rw[show cf s.aq+1+(j:Int)=x.cQ by simp only[cf];omega];exact this
     have hak:=si.ak
     have hr:=lM.1 hm.dp.rc.v
     have low:∀k,1<=k->k<=24->k<=cf s.aq->xS d'.aT k:=λk _ k2 k3=>q8 k k2 (.inl oaa)
     by_cases hall:N0-1<=cf s.aq+2
     .left
      refine B7 (d:=d') (Ae hr' λk k1 k2=>?_) ha'
      have hk24:k<=24:=by have:=hm'.sg.sp.nx;have:=hm'.sg.sp.sl;omega
      have hk1:1<=k:=by have:=hr'.n;omega
      by_cases hk:N0<=k
      .exact hnew k hk k2
      by_cases hlow:k<=cf s.aq
      .exact low k hk1 hk24 hlow
      by_cases hin:k<s.aq.bb
      .have:=first (k-cf s.aq-1).toNat oaa (by simp only[cf] at hlow hin ⊢;omega)
       rw[show cf s.aq+1+((k-cf s.aq-1).toNat:Int)=k by omega] at this
       exact this
      obtain⟨x,hx⟩:∃x,N[(k-s.aq.bb).toNat]?=some x:=⟨_,YO oaa⟩
      have:=g5 _ x hx
      have:=q7 x (by rw[g2];exact abq _ (YS hx))
      rw[show k=x.cQ by omega];exact this
     right;right
     refine⟨hp0,by omega,N0,hnew,?_⟩
     have htwo:cf s.aq+3<=d'.aT.bb\/s'.aq.bb<=d'.aT.bb:=by
      by_cases hlen:2<=s.aq.aD.length
      .left
       refine Ae hr' λk k1 k2=>?_
       have hk1:1<=k:=by have:=hr'.n;omega
       have hnx:=hsp.nx
       have hsl:=hsp.sl
       by_cases hlow:k<=cf s.aq
       .exact low k hk1 (by simp only[cf] at hlow;omega) hlow
       have:=first (k-cf s.aq-1).toNat oaa oaa
       rw[show cf s.aq+1+((k-cf s.aq-1).toNat:Int)=k by omega] at this
       exact this
      right
      refine Ae hr' λk k1 k2=>?_
      have hk24:k<=24:=by have:=hm'.sg.sp.nx;have:=hm'.sg.sp.sl;omega
      have hk1:1<=k:=by have:=hr'.n;omega
      by_cases hlow:k<=cf s.aq
      .exact low k hk1 hk24 hlow
      by_cases hin:k<s.aq.bb
      .have:=first (k-cf s.aq-1).toNat (by simp only[cf] at hlow hin ⊢;omega) (by simp only[cf] at hlow hin ⊢;omega)
       rw[show cf s.aq+1+((k-cf s.aq-1).toNat:Int)=k by omega] at this
       exact this
      obtain⟨x,hx⟩:∃x,N[(k-s.aq.bb).toNat]?=some x:=⟨_,YO oaa⟩
      have:=g5 _ x hx
      have:=q7 x (by rw[g2];exact abq _ (YS hx))
      rw[show k=x.cQ by omega];exact this
     rcases htwo with ht|ht
     .omega
     omega
   right;left
   have hrt:=hsp.rt
   refine⟨⟨N0,hnew,by omega⟩,?_⟩
   rw[g6,g7,g8] at tt
   have hqv:eE s=s.c9+1:=by
    rw[eE,lQ.2 hb];simp only[cond_true,lK];split<;>omega
   have hrv:(iN s).2=s.cR-1:=by rw[iN,lQ.2 hb,ltB_t.2 (show 0<s.cR by omega)];rfl
   rw[hqv,hrv] at tt
   have hp':=nQ hm'.sg.sp.page
   have hpw:=hp'.w
   have hq':=hm'.sg.sp.qu
   have hps:phi s=s.cR+5:=by rw[phi,if_neg oaa,if_neg hr]
   rw[hps,phi]
   rcases tt with⟨t1,t2,t3⟩|⟨t1,t2⟩|⟨_,t1,t2,t3⟩
   .split
    .omega
    split<;>omega
   .rw[if_neg oaa,if_pos t2];omega
   rw[if_neg oaa];split<;>omega
 .
   obtain⟨hbz,h4⟩:=(rO hsp).1 hq
   obtain⟨g1,g2,g3,g4,g5,g6⟩:=vk (a:=a) (m:=n.bX) hcn.1 hq
   obtain⟨d',s',a',q1,q2,q3,q4,q5,q6,q7,q8,q9,q10,tt,t4⟩:=wV (S:=[]) h.q h.f h.d h.s h.a hM h.u (by rw[g2];rfl) (by simp)
   have hat':=h.next q1 q2 q3 q4
   obtain⟨hm',si',K',li',hK'⟩:=hat'.mp
   rw[g1] at q6 q10
   refine⟨d',s',a',q1,q2,q3,q4,q5,.inr (.inl ⟨⟨N0,λk k1 k2=>?_,by omega⟩,?_⟩)⟩
   .have hk24:k<=24:=by have:=hm'.sg.sp.nx;have:=hm'.sg.sp.sl;omega
    exact q8 k hk24 (L1 k k1 oaa)
   have hps:phi s=s.eo.di+1:=by rw[phi,if_pos h4]
   have hcell:s.aE=d.aE:=li.cc hM.st hM.ep
   have hwp:=hpg.w
   by_cases hw:s.eo.di=0
   .have hin:=M3 (m:=n.bX) (p:={s.eo with fJ:=iB n.bX s.aE}) hwp s.aE (by have:=hm.sc;have:=hsp.ce;omega) rfl hpg.a hw
    have:=t4 (by rw[g6,<-hcell];exact ZQ.2 ⟨_,hin,rfl⟩)
    rw[hps,phi,if_neg oaa,if_pos this.2];omega
   rw[EV (show 0<({s.eo with fJ:=iB n.bX s.aE}:cL).di from by simp only;omega)] at g5
   rw[hps,phi]
   rcases tt with⟨t1,t2,t3⟩|⟨t1,t2⟩|⟨t0,_⟩
   .have:=ko hq
    rw[g3] at t1
    rw[g5] at t3
    rw[if_pos oaa,t3];simp only;omega
   .rw[if_neg oaa,if_pos t2];omega
   exact absurd rfl t0
theorem TC {s:ae} (g:SP s):phi s<=8:=by
 have:=(nQ g.page).w
 have:=g.rt
 rw[phi];split
 .omega
 split<;>omega
theorem yP (j p:Nat):qQ (9*j+p+13) (Nj j p):=by
 intro R n i d s a hb hat hx
 by_cases hu:s.aq.aD=[]
 .exact yO 12 R n i d s a oaa hat (FO hat hx.1 hu)
 refine qQ.step (b:=9*j+p+12) (X:=λd s=>Nj j p d s/\s.aq.aD≠[]) (λR n i d s a hb hat hx=>?_) R n i d s a hb hat ⟨hx,hu⟩
 obtain⟨⟨h1,h2,h3⟩,hu⟩:=hx
 obtain⟨d',s',a',q1,q2,q3,q4,q5,q6⟩:=Kg hat h1 h2 hu
 have hat':=hat.next q1 q2 q3 q4
 obtain⟨hm',_⟩:=hat'.mp
 refine⟨d',s',a',q1,q2,q3,q4,?_⟩
 rcases q6 with q6|⟨q6,q7⟩|⟨q6,q7,q8⟩
 .exact⟨Nh 12,(yO 12).mono oaa,FO hat' q5 q6⟩
 .cases p with
  |zero=>
   have hph:0<=phi s':=by
    have:=(nQ hm'.sg.sp.page).w
    have:=hm'.sg.sp.rt
    rw[phi];split
    .omega
    split<;>omega
   exfalso;omega
  |succ p=>exact⟨Nj j p,(yP j p).mono oaa,q5,q6,by omega⟩
 cases j with
 |zero=>exfalso;omega
 |succ j=>
  refine⟨Nj j 8,(yP j 8).mono oaa,q5,?_,?_⟩
  .obtain⟨N0,l1,l2⟩:=q8
   exact⟨N0,l1,by omega⟩
  have:=TC hm'.sg.sp
  omega
termination_by (j,p)
theorem u7:qQ 48 qR:=λR n i d s a hb hat hx=>by
 obtain⟨hm,si,K,li,hK⟩:=hat.mp
 have hw:=hm.sg.sp.win.l
 have hf:=hm.sg.sp.win.f
 refine yP 3 8 R n i d s a oaa hat ⟨hx,⟨s.aq.bb,λk k1 k2=>by omega,?_⟩,TC hm.sg.sp⟩
 simp only[cf];omega
theorem Ea (w:Nat) (ih:∀w',w=w'+1->qQ (w'+49) (λd _=>d.aG=2/\d.di<=w')):qQ (w+49) (λd _=>d.aG=2/\d.di<=w):=λR n i d s a hb hat hx=>by
 by_cases hM:s.aF=d.aF
 .exact u7 R n i d s a oaa hat ⟨hx.1,hM⟩
 refine qQ.step (b:=w+48) (X:=λd s=>(d.aG=2/\d.di<=w)/\s.aF≠d.aF) (λR n i d s a hb hat hx=>?_) R n i d s a hb hat ⟨hx,hM⟩
 obtain⟨⟨h1,h2⟩,hM⟩:=hx
 obtain⟨d',s',a',q1,q2,q3,q4,q5,q6⟩:=Mn hat.q hat.f hat.d hat.s hat.a h1 hM hat.u
 refine⟨d',s',a',q1,q2,q3,q4,?_⟩
 rcases q6 with q6|q6
 .exact⟨qR,u7.mono oaa,q6⟩
 have hat':=hat.next q1 q2 q3 q4
 obtain⟨hm',_⟩:=hat'.mp
 have:=hm'.dp.wt
 by_cases w0:w=0
 .exfalso;omega
 exact⟨_,(ih (w-1) oaa).mono oaa,q5,by omega⟩
theorem Gn:∀w:Nat,qQ (w+49) (λd _=>d.aG=2/\d.di<=w)
 |0=>Ea 0 λw' e=>by omega
 |w+1=>Ea (w+1) λw' e=>by cases e;exact Gn w
theorem Gl (w:Nat) (ih:∀w',w=w'+1->qQ (w'+49) (λd _=>d.aG=1/\d.di<=w')):qQ (w+49) (λd _=>d.aG=1/\d.di<=w):=
 qQ.step (b:=w+48) λR n i d s a hb hat hx=>by
  obtain⟨h1,h2⟩:=hx
  obtain⟨hm,_⟩:=hat.mp
  have hwt:=hm.dp.wt
  by_cases hw:d.di=0
  .obtain⟨d',s',a',q1,q2,q3,q4,q5⟩:=Hp hat.q hat.f hat.d hat.s hat.a h1 hw hat.u
   exact⟨d',s',a',q1,q2,q3,q4,qR,u7.mono oaa,q5⟩
  obtain⟨s',a',q1,q2,q3,q4⟩:=Na hat.q hat.f hat.d hat.s hat.a h1 oaa
  by_cases w0:w=0
  .exfalso;omega
  exact⟨_,s',a',q1,q2,q3,q4,_,(ih (w-1) oaa).mono oaa,h1,by simp only;omega⟩
theorem Kd:∀w:Nat,qQ (w+49) (λd _=>d.aG=1/\d.di<=w)
 |0=>Gl 0 λw' e=>by omega
 |w+1=>Gl (w+1) λw' e=>by cases e;exact Kd w
def nu (p:cL):Int:=if p.dt=0\/p.dt=4 then p.di+5 else p.di+1
def mu (s:ae):Int:=if s.aq.aD=[] then 14 else if s.c9<4 then(4-s.c9)+9 else nu s.eo
theorem WV {p:cL} (h:POK p):1<=nu p/\nu p<=8:=by
 have:=h.w
 rw[nu];split<;>omega
theorem S7 {s:ae} (g:SP s):1<=mu s/\mu s<=14:=by
 have:=WV (nQ g.page)
 have:=g.qu
 rw[mu];split
 .omega
 split<;>omega
theorem M2 {m:aU} {p:cL} (hp:POK p) {c:Int} (hc:0<=c/\c<m.aZ.length) (hn:c∉(mQ p m).2):nu (mQ p m).1<nu p:=by
 have h1:=hp.a
 have h2:=hp.w
 by_cases hw:p.di=0
 .rw[mQ,hw,bB] at hn ⊢
  simp only[cond_false] at hn ⊢
  have hall:c∈LD m:=ZQ.2 ⟨c.toNat,ZW.2 oaa,by omega⟩
  obtain⟨t,ht⟩:∃t,t=(bif ltB p.dt 4 then p.dt+1 else 1):=⟨_,rfl⟩
  rw[<-ht] at hn ⊢
  have htv:(p.dt<4/\t=p.dt+1)\/(p.dt=4/\t=1):=by
   cases hb:ltB p.dt 4
   .rw[hb] at ht;have:=nO hb;right;exact⟨by omega,ht⟩
   rw[hb] at ht;have:=ko hb;left;exact⟨this,ht⟩
  have t1:t=1:=by
   cases hb:eqB t 1
   .rw[z6,hb,bu.2 (show 1<=t/\t<=4 by omega)] at hn
    exact absurd hall hn
   exact fx hb
  simp only[nu]
  rw[t1,if_neg oaa,if_pos oaa]
  omega
 rw[EV oaa]
 simp only[nu]
 split<;>omega
theorem Gm:∀k:Nat,qQ (k+48) (λd s=>d.aG=3/\mu s<=k)
 |0=>λR n i d s a hb hat hx=>by
  obtain⟨hm,_⟩:=hat.mp
  have:=S7 hm.sg.sp
  exfalso;omega
 |k+1=>λR n i d s a hb hat hx=>by
  by_cases hv:AG d s
  .exact BL R n i d s a (Y0 _) hat hv
  refine qQ.step (b:=k+48) (X:=λd s=>(d.aG=3/\mu s<=(k+1:Nat))/\¬AG d s) (λR n i d s a hb hat hx=>?_) R n i d s a oaa hat ⟨hx,hv⟩
  obtain⟨⟨h3,hmu⟩,hv⟩:=hx
  obtain⟨hm,si,K,li,hK⟩:=hat.mp
  have hsp:=hm.sg.sp
  have hcn:=li.cn oaa
  obtain⟨d',s',a',q1,q2,q3,q4,q5⟩:=Ml hat.q hat.f hat.d hat.s hat.a h3 hat.u
  refine⟨d',s',a',q1,q2,q3,q4,?_⟩
  rcases q5 with q5|⟨q5,q6,q7,q8⟩
  .exact⟨qR,u7.mono oaa,q5⟩
  refine⟨_,Gm k,q5,?_⟩
  have hat':=hat.next q1 q2 q3 q4
  obtain⟨hm',_⟩:=hat'.mp
  have hmu':=S7 hm'.sg.sp
  have hpg:=nQ hsp.page
  cases hq:ltB 4 (eE s)
  .obtain⟨N,S,g1,g2,g3,g4,g5,g6,g7,g8,g9⟩:=yZ hat hcn.1 hq
   rw[<-q7] at g4 g6 g8
   by_cases hu:s.aq.aD=[]
   .have hN:N≠[]:=λe=>by
     apply hv
     rw[e,hu] at g9
     simp only[aaI] at g9
     have hnx:=hsp.nx
     have hr:=(lM.1 hm.dp.rc.v).n
     have hak:=si.ak
     have hle:=si.pr.length_le
     have ha:cf s.aq=s.aq.bb-1:=by simp only[cf,hu,aaI];omega
     exact⟨by omega,by omega⟩
    have hqz:eE s=0:=by
     rw[eE]
     cases hb':uI s
     .rfl
     exact absurd hu (lQ.1 hb')
    have e1:mu s=14:=by rw[mu,if_pos hu]
    have e2:mu s'=13:=by
     rw[mu,if_neg (by rw[g4];simp[hN]),g6,hqz,if_pos oaa];omega
    omega
   have hq4:s.c9<4:=by
    by_cases h4:4<=s.c9
    .have:=(rO hsp).2 ⟨lQ.2 hu,h4⟩;rw[hq] at this;cases this
    omega
   have hqv:eE s=s.c9+1:=by
    rw[eE,lQ.2 hu];simp only[cond_true,lK];split<;>omega
   have hqu:=hsp.qu
   have e1:mu s=(4-s.c9)+9:=by rw[mu,if_neg hu,if_pos hq4]
   have hnn:=WV (nQ hm'.sg.sp.page)
   have e2:mu s'<mu s:=by
    rw[e1,mu,if_neg (by rw[g4];simp[hu]),g6,hqv]
    split<;>omega
   omega
  obtain⟨hbz,h4⟩:=(rO hsp).1 hq
  have hu:=lQ.1 hbz
  obtain⟨g1,g2,g3,g4,g5,g6⟩:=vk (a:=a) (m:=n.bX) hcn.1 hq
  rw[<-q7] at g1 g3 g5
  rw[g6] at q8
  have hmiss:d.aE∉(mQ {s.eo with fJ:=iB n.bX s.aE} n.bX).2:=λhin=>q8 (ZQ.2 ⟨_,hin,rfl⟩)
  have hce:=hm.dp.ce
  obtain⟨v,hv⟩:∃v,v=nu s'.eo:=⟨_,rfl⟩
  have hlt:v<nu s.eo:=by
   rw[hv,g5];exact M2 (p:={s.eo with fJ:=iB n.bX s.aE}) ⟨hpg.a,hpg.w⟩ ⟨hce.1,hm.dc⟩ hmiss
  have e1:mu s=nu s.eo:=by rw[mu,if_neg hu,if_neg oaa]
  have hq5:=ko hq
  have e2:mu s'=nu s'.eo:=by rw[mu,if_neg (by rw[g1];exact hu),if_neg (by rw[g3];omega)]
  rw[<-hv] at e2
  omega
theorem ST:qQ 62 (λd _=>d.aG≠0):=λR n i d s a hb hat hx=>by
 obtain⟨hm,_⟩:=hat.mp
 have hst:=hm.dp.st
 have hwt:=hm.dp.wt
 have hmu:=S7 hm.sg.sp
 by_cases h1:d.aG=1
 .exact Kd 3 R n i d s a oaa hat ⟨h1,by omega⟩
 by_cases h2:d.aG=2
 .exact Gn 3 R n i d s a oaa hat ⟨h2,by omega⟩
 exact Gm 14 R n i d s a oaa hat ⟨by omega,by omega⟩
theorem GW:∀(c i:Nat) {n:ab},i+c=n.ah.length->
 (∀(j:Nat) d,n.ah[j]?=some d->(dT c i n).ah[j]?=some (if i<=j then(dR d).aJ else d))/\(dT c i n).aj=n.aj/\(dT c i n).aB=n.aB/\(dT c i n).bX=n.bX
 |0,i,n,h=>by
  have e0:dT 0 i n=n:=by simp only[dT]
  rw[e0]
  refine⟨λj d hd=>?_,rfl,rfl,rfl⟩
  have:=(YP.1 hd).1
  rw[if_neg oaa];exact hd
 |c+1,i,n,h=>by
  obtain⟨d,hd⟩:∃d,n.ah[i]?=some d:=⟨_,YO oaa⟩
  have hk:=cU ((dR d).bL.map (b9 i true)) {n with ah:=n.ah.set i (dR d).aJ}
  have hdl:(dM n i (dR d)).ah=n.ah.set i (dR d).aJ:=hk.1
  obtain⟨i1,i5,i6,i7⟩:=GW c (i+1) (n:=dM n i (dR d)) (by rw[hdl,abw];omega)
  have e:dT (c+1) i n=dT c (i+1) (dM n i (dR d)):=by rw[dT,hd]
  rw[e]
  refine⟨λj x hx=>?_,i5.trans hk.2.1,i6.trans hk.2.2.1,i7.trans hk.2.2.2.1⟩
  by_cases q:i=j
  .subst q
   rw[hd] at hx;cases hx
   rw[i1 i (dR d).aJ (by rw[hdl];exact abv oaa),if_neg oaa,if_pos oaa]
  rw[i1 j x (by rw[hdl,abr q];exact hx)]
  by_cases w:i<=j
  .rw[if_pos oaa,if_pos w]
  rw[if_neg oaa,if_neg w]
theorem GZ:∀(c i:Nat) {n:ab},i+c=n.aj.length->n.aB.length=n.aj.length->
 (∀(j:Nat) s a,n.aj[j]?=some s->n.aB[j]?=some a->(eL c i n).aj[j]?=some (if i<=j then(bF s a n.bX).az else s)/\(eL c i n).aB[j]?=some (if i<=j then(bF s a n.bX).cy else a))/\(eL c i n).ah=n.ah
 |0,i,n,h,ha=>by
  have e0:eL 0 i n=n:=by simp only[eL]
  rw[e0]
  refine⟨λj s a hs hx=>?_,rfl⟩
  have:=(YP.1 hs).1
  simp only[if_neg (show ¬i<=j by omega)];exact⟨hs,hx⟩
 |c+1,i,n,h,hal=>by
  obtain⟨s,hs⟩:∃s,n.aj[i]?=some s:=⟨_,YO oaa⟩
  obtain⟨a,ha⟩:∃a,n.aB[i]?=some a:=⟨_,YO oaa⟩
  obtain⟨t,ht⟩:∃t,t=bF s a n.bX:=⟨_,rfl⟩
  have hk1:=cU (t.eW.map (b9 i false)) {n with aj:=n.aj.set i t.az,aB:=n.aB.set i t.cy}
  have hk2:=cU (t.b6.map (lL i t.az.aE)) (sends {n with aj:=n.aj.set i t.az,aB:=n.aB.set i t.cy} (t.eW.map (b9 i false)))
  have hse:(fS n i t).aj=n.aj.set i t.az:=by rw[fS,hk2.2.1,hk1.2.1]
  have hac:(fS n i t).aB=n.aB.set i t.cy:=by rw[fS,hk2.2.2.1,hk1.2.2.1]
  have hmp:(fS n i t).bX=n.bX:=by rw[fS,hk2.2.2.2.1,hk1.2.2.2.1]
  obtain⟨i1,i5⟩:=GZ c (i+1) (n:=fS n i t) (by rw[hse,abw];omega) (by rw[hse,hac];simpa using hal)
  have e:eL (c+1) i n=eL c (i+1) (fS n i t):=by simp only[eL,hs,ha,<-ht]
  rw[hmp] at i1
  rw[e]
  refine⟨λj x y hx hy=>?_,i5.trans (by rw[fS,hk2.1,hk1.1])⟩
  by_cases q:i=j
  .subst q
   rw[hs] at hx;rw[ha] at hy;cases hx;cases hy
   have:=i1 i t.az t.cy (by rw[hse];exact abv oaa) (by rw[hac];exact abv oaa)
   rw[this.1,this.2]
   simp only[if_neg (show ¬i+1<=i by omega),if_pos (YW i),<-ht]
   exact⟨trivial,trivial⟩
  have:=i1 j x y (by rw[hse,abr q];exact hx) (by rw[hac,abr q];exact hy)
  rw[this.1,this.2]
  by_cases w:i<=j
  .simp only[if_pos (show i+1<=j by omega),if_pos w];exact⟨trivial,trivial⟩
  simp only[if_neg (show ¬i+1<=j by omega),if_neg w];exact⟨trivial,trivial⟩
theorem Up {B:Int} {n:ab} (hn:NP B n) (hw:n.gZ<100000) {i:Nat} {d:aw} {s:ae} {a:av} (hd:n.ah[i]?=some d) (hs:n.aj[i]?=some s) (ha:n.aB[i]?=some a):
 (iA n).2.ah[i]?=some (dR d).aJ/\(iA n).2.aj[i]?=some (bF s a n.bX).az/\(iA n).2.aB[i]?=some (bF s a n.bX).cy:=by
 have hls:=hn.ls
 have hla:=hn.la
 obtain⟨n1,e1⟩:∃n1,n1=dT n.ah.length 0 {n with gZ:=n.gZ+1}:=⟨_,rfl⟩
 have e:(iA n).2=eL n1.aj.length 0 n1:=by rw[iA,leB_f.2 hw,e1];rfl
 have h1:=GW n.ah.length 0 (n:={n with gZ:=n.gZ+1}) (by simp)
 rw[<-e1] at h1
 obtain⟨p1,p5,p6,p7⟩:=h1
 simp only at p5 p6 p7
 have h2:=GZ n1.aj.length 0 (n:=n1) (by simp) (by rw[p5,p6];omega)
 rw[p5,p6,p7] at h2
 obtain⟨q1,q5⟩:=h2
 have g1:=q1 i s a hs ha
 rw[if_pos (Y0 _),if_pos (Y0 _)] at g1
 have g2:=p1 i d hd
 rw[if_pos (Y0 _)] at g2
 rw[e,p5]
 exact⟨by rw[q5];exact g2,g1.1,g1.2⟩
theorem Wg {u:Int->Bool} {i:Nat} {f:a9} {d:aw} {s:ae} (h:d.aG≠0):(dy u i f d s).1.aG≠0:=by
 rw[dy]
 cases u f.aE
 .exact h
 simp only[au]
 cases f.dS
 .simp only[cond_false]
  cases eqB d.aE f.aE
  .exact h
  simp only[au]
  cases f.bW
  .simp only[cond_false]
   rw[ia]
   cases !ey f.aM||(!eqB f.aM.aE d.aE||eqB d.aG 0)
   .simp only[cond_false]
    cases eqB f.aM.aS 2&&eqB d.aG 1
    .simp only[cond_false]
     cases eqB f.aM.aS 4&&(eqB d.aG 1&&(mf d.aV&&(eqB f.aM.ag d.ag&&lN d.aV f.aM)))
     .simp only[cond_false]
      cases eqB f.aM.aS 6&&(eqB d.aG 2&&(eqB f.aM.ag d.ag&&(eqB f.aM.aF d.aF&&lN d.aV f.aM)))
      .simp only[cond_false]
       cases eqB f.aM.aS 7&&(eqB d.aG 3&&ltB d.aF 999999)
       .simp only[cond_false]
        cases eqB f.aM.aS 7&&eqB d.aG 2<;>exact h
       simp[km]
      exact h
     simp
    simp only[cond_true,yA]
    cases eqB (jm d.cZ.eR d.cZ.df f.aM.cO) 0<;>exact h
   exact h
  simp only[cond_true,js]
  cases eqB d.aG 2&&(lE d.aV d.ag d.aF f.b6).2<;>exact h
 simp only[cond_true]
 cases f.bW||!eqB f.aM.aE f.aE<;>exact h
theorem JE (d:aw):(dR d).aJ.aG=d.aG:=by
 rw[dR]
 cases ltB 0 d.di<;>cases eqB d.aG 1<;>cases eqB d.aG 2&&!d.bM<;>rfl
theorem GI {r:Nat} {n:ab} (h:EQ (r+1) n) {i:Nat} {d:aw} {s:ae} {a:av} (hd:n.ah[i]?=some d) (hs:n.aj[i]?=some s) (ha:n.aB[i]?=some a):
 ∃d' s' a',(dN n).ah[i]?=some d'/\(dN n).aj[i]?=some s'/\(dN n).aB[i]?=some a'/\E9 n i d s a d' s' a'/\(d.aG≠0->d'.aG≠0):=by
 obtain⟨B,hn,hB⟩:=h.np
 obtain⟨K,hl,hK⟩:=h.ln
 obtain⟨G,hg,hG⟩:=h.gb
 have hw:=h.nw
 have hm:=hn.m i d s a hd hs ha
 have ho:=h.ra i a ha
 rw[<-hm.si] at ho
 have ht:=(Bs hm.sg n.bX ho).1
 have hk:=me hm.sg (m:=n.bX) (by have:=(iw hn.map).2;omega)
 have t1:=(qN hn oaa).2.2
 have t2:=IL hn oaa h.pi
 have t3:=IK oaa hn oaa h.pi hl
 have t4:=(AC hg).up (G':=900) oaa
 have td:=Up hn oaa hd hs ha
 have tk:=Bw (n:=n) oaa
 obtain⟨d',s',q1,q2,q3,q4,_⟩:=Yq (P:=λd' s' _=>KP (dR d).aJ (bF s a n.bX).az d' s'/\(d.aG≠0->d'.aG≠0)) (KK:=900000) (G:=900)
  (λd' s' f F e1 e2 hp=>⟨O2 hp.1,λq=>Wg (hp.2 q)⟩) 4000 t1 oaa t2 t3 oaa t4 tk.1 tk.2.1 td.2.2 td.1 td.2.1 ⟨KP.refl _ _,λq=>by rw[JE];exact q⟩
 refine⟨d',s',_,q1,q2,q3,⟨q4.1.c.trans (Dw d),q4.1.u.trans hk.sub,?_⟩,q4.2⟩
 rw[<-ht,pH,pH,q4.1.g]
theorem FC {n:ab} (h:EQ 80 n) {i:Nat} {d:aw} {s:ae} {a:av} (hd:n.ah[i]?=some d) (hs:n.aj[i]?=some s) (ha:n.aB[i]?=some a) (h0:d.aG≠0) (hu:upF n.bX n.bp d.aE=true) (hc:dX s.ax s.ax.length<=pH s a):
 ∃d' s',(gW 80 n).ah[i]?=some d'/\(gW 80 n).aj[i]?=some s'/\AG d' s'/\s'.ax=s.ax:=by
 obtain⟨d',s',a',q1,q2,q3,q4,q5⟩:=GI (r:=79) h hd hs ha
 have hr:=h.round (r:=79)
 have hk:=rP (n:=n) (by have:=h.nw;omega)
 obtain⟨x,y,z1,z2,z3,z4⟩:=ST 79 (dN n) i d' s' a' oaa ⟨hr.1,hr.2,q1,q2,q3,by rw[hk.1,hk.2.1,q4.c];exact hu,by rw[q4.u,q4.t];exact hc⟩ (q5 h0)
 exact⟨x,y,z1,z2,z3,z4.trans q4.u⟩
theorem EQ.rounds:∀(c:Nat) {r:Nat} {n:ab},EQ (r+c) n->EQ r (gW c n)
 |0,r,n,h=>h
 |c+1,r,n,h=>EQ.rounds c (h.round (r:=r+c)).1
theorem Ew:∀(c:Nat) {r:Nat} {n:ab},EQ (r+c) n->(gW c n).ah.length=n.ah.length
 |0,r,n,h=>rfl
 |c+1,r,n,h=>by
  rw[gW,Ew c (h.round (r:=r+c)).1]
  exact(rP (n:=n) (by have:=h.nw;omega)).2.2.2
theorem EQ.mono {r r':Nat} {n:ab} (h:EQ r n) (hr:r'<=r):EQ r' n:=by
 obtain⟨B,hn,hB⟩:=h.np
 obtain⟨K,hl,hK⟩:=h.ln
 obtain⟨G,hg,hG⟩:=h.gb
 exact⟨⟨B,hn,by omega⟩,h.pi,⟨K,hl,by omega⟩,⟨G,hg,by omega⟩,h.ra,by have:=h.nw;omega⟩
theorem Eo (n:ab) (i:Nat) (r:bg):(dM n i r).gZ=n.gZ:=(iq n i r).2.2.2.2
theorem FK {n:ab} (e:cr) (h:n.gZ<=99999):(dZ n e).2.gZ<=n.gZ+1:=by
 rw[dZ]
 split
 .rw[(Bw (n:=n) oaa).2.2.1];exact aaF _
 split
 .rw[oW]
  cases inR e.bR 0 ((n.aA.length:Int)-1)
  .simp only[au];omega
  simp only[au]
  cases eqB e.aS 2
  .simp only[cond_false]
   cases eqB e.aS 3
   .simp only[cond_false]
    cases leB 200 (n.aA.length:Int)
    .simp only[cond_false]
     cases n.aA[e.bR.toNat]? with
     |none=>simp only;omega
     |some f=>simp only;rw[(fQ n f).2.2.2.2.2.2];omega
    simp only[cond_true];omega
   simp only[cond_true,H0,d7];omega
  simp only[cond_true];rw[(zo n _).2.2.1];omega
 split
 .rw[wX]
  cases inR e.bR 0 ((n.ah.length:Int)-1)
  .simp only[au];omega
  simp only[au]
  cases n.ah[e.bR.toNat]? with
  |none=>simp only;omega
  |some d=>cases n.aj[e.bR.toNat]? with
   |none=>simp only;omega
   |some s=>
    simp only
    cases eqB e.aS 5
    .simp only[cond_false]
     cases eqB e.aS 6
     .simp only[cond_false]
      cases eqB e.aS 7
      .simp only[cond_false]
       cases(mS s e.a8).2<;>simp only[au]<;>omega
      simp only[cond_true]
      cases eqB d.aG 2<;>simp only[au]<;>omega
     simp only[cond_true]
     cases eqB e.aE d.aE||!ew n.bX e.aE
     .simp only[cond_false];rw[Eo];omega
     simp only[cond_true];omega
    simp only[cond_true]
    cases eqB d.aG 0
    .simp only[au];omega
    simp only[au];rw[Eo];omega
 split
 .rw[yl];cases !ew n.bX e.bR||booB (tA n e.bR) (eqB e.aS 10)<;>simp only[au]<;>omega
 split
 .rw[kE];cases !inR e.bR 0 (n.eD.hP-1)||(booB (uB n.eD e.bR) (eqB e.aS 12)||eqB (kF n.eD e.bR (eqB e.aS 12)).f7 0)<;>simp only[au]<;>omega
 split
 .rw[tG];cases Ac n e.dK
  .simp only[au];omega
  simp only[au];rw[(fQ n _).2.2.2.2.2.2];omega
 simp only;omega
theorem mV.now:∀{k:Nat} {n:ab},mV k n->k<=90000->n.gZ<=k
 |_,_,.new h hm hp hl hq,_=>by simp[gH]
 |_,_,.step (k:=k) (e:=e) h he hh,hk=>by
  have h1:=h.now oaa
  have:=FK e (abp h1 (show(_:Int)<=(99999:Int) by omega))
  omega
theorem mV.eq {k:Nat} {n:ab} (h:mV k n) (hk:k<=500) {r:Nat} (hr:r<=200):EQ r n:=by
 have h1:=h.now oaa
 exact⟨⟨_,h.np oaa,by omega⟩,h.pi oaa,⟨_,h.ln oaa,by omega⟩,⟨_,h.gb oaa,by omega⟩,h.ra oaa,by omega⟩
end Go.AM
