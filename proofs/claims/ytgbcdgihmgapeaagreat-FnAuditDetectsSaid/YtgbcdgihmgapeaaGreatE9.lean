/- A part. -/
import Derived.Test.YtgbcdgihmgapeaaGreatE4
set_option linter.unusedVariables false
set_option linter.unusedSimpArgs false
set_option maxHeartbeats 4000000
open Option renaming some->ς,none->ξ
open Bool renaming true->ζ,false->η
open True renaming intro->θ
open Bool renaming and_eq_true->hV
open List renaming all_cons->aaa,cons_append->Z9
namespace Go.AM
open Go.RowKit
variable{l:Nat}{x:Go.AM.Ob}{w:World}{u:Value}{E E':Go.AM.Env}{R:Go.AM.Laa}
def rdC(R:Laa):C->Option (C×Lac)
 | .d (.b g) x=>ς (.d (.b g) x,[])
 | .nil=>ς (.nil,[])
 | .any=>ς (.any,[])
 | .fn f=>ς (.fn f,[])
 | .p o k=>match go R o with
  |some _=>ξ
  |none=>ς (.p o k,[])
 | .wn l n=>match go R l with
  |some (.rown _ _ els (.b _))=>ς (.d η (.l els),[(els.length,n)])
  |some _=>ξ
  |none=>ς (.wn l n,[])
 |_=>ξ
def zy1(R:Laa):List C->Option (List C×Lac)
 |[]=>ς ([],[])
 |c::cs=>match rdC R c,zy1 R cs with
  |some (x,e),ς (xs,es)=>ς (x::xs,e++es)
  |_,_=>ξ
def zy2(R:Laa):T->Option (T×Lac)
 | .v (.c c)=>match rdC R c with
  |some (x,e)=>ς (.v (.c x),e)
  |none=>ξ
 | .v (.agg cs)=>match zy1 R cs with
  |some (x,e)=>ς (.v (.agg x),e)
  |none=>ξ
 |_=>ξ
def zy3(R:Laa):List T->Option (List T×Lac)
 |[]=>ς ([],[])
 |c::cs=>match zy2 R c,zy3 R cs with
  |some (x,e),ς (xs,es)=>ς (x::xs,e++es)
  |_,_=>ξ
def inC(R:Laa):C->Bool
 | .d (.b _) _| .nil| .any| .fn _=>ζ
 | .wn l _=>(go R l).isSome
 |_=>η
def zy4(R:Laa):Laa->Bool
 |[]=>ζ
 |(l,.var _ cs)::r=>(rsv l&&cs.all (inC R))&&zy4 R r
 |(l,.rown _ _ _ (.b _))::r=>rsv l&&zy4 R r
 |_=>η
def ouC(R:Laa):C->Bool
 | .d (.b ζ) _=>ζ
 | .d (.b η) (.l _)=>η
 | .d (.b η) _=>ζ
 | .nil| .any| .fn _=>ζ
 | .wn l _| .w l _| .p l _=>(go R l).isNone
 |_=>η
def ouV(R:Laa):V->Bool
 | .c c=>ouC R c
 | .agg cs=>cs.all (ouC R)
def ouT(R:Laa):T->Bool
 | .v v=>ouV R v
 | .tup vs=>vs.all (ouV R)
 | .any=>ζ
def ouO(R:Laa):Laa->Bool
 |[]=>ζ
 |(l,.var _ cs)::r=>((go R l).isNone&&cs.all (ouC R))&&ouO R r
 |(l,.row _ _ _ (.b g) m)::r=>((go R l).isNone&&(g&&m))&&ouO R r
 |(l,.rown _ _ _ (.b g))::r=>((go R l).isNone&&g)&&ouO R r
 |_=>η
def xsO(R:Laa):Laa->Bool
 |[]=>ζ
 |(l,.var _ cs)::r=>((go R l).isNone&&cs.all λc=>match c with
  | .d (.b _) _| .nil| .any| .fn _=>ζ
  | .wn l _| .w l _| .p l _=>(go R l).isNone
  |_=>η)&&xsO R r
 |(l,.row _ _ _ (.b _) m)::r=>((go R l).isNone&&m)&&xsO R r
 |(l,.rown _ _ _ (.b _))::r=>(go R l).isNone&&xsO R r
 |_=>η
theorem zy5{k:Nat}{y:Ob}{r:Laa}(h:go ((k,x)::r) l=ς y):(k=l/\x=y)\/(k≠l/\go r l=ς y):=by
 by_cases e:k=l
 .subst e;rw[bM] at h;cases h;exact .inl ⟨rfl,rfl⟩
 rw[a9 _ _ e] at h;exact .inr ⟨e,h⟩
theorem AU{R:Laa}{l:Nat}{x:Ob}:∀{r:Laa},zy4 R r=ζ->go r l=ς x->rsv l=ζ/\((∃t cs,x= .var t cs/\cs.all (inC R)=ζ)\/∃t sz els,∃g:Bool,x= .rown t sz els (.b g))
 |[],_,hg=>by cases hg
 |(k,.var t cs)::r,h,hg=>by
  simp only[zy4,hV] at h
  rcases zy5 hg with⟨rfl,rfl⟩|⟨_,hg⟩
  .exact⟨h.1.1,.inl ⟨_,_,rfl,h.1.2⟩⟩
  exact AU h.2 hg
 |(k,.rown t sz els (.b g))::r,h,hg=>by
  simp only[zy4,hV] at h
  rcases zy5 hg with⟨rfl,rfl⟩|⟨_,hg⟩
  .exact⟨h.1,.inr ⟨_,_,_,_,rfl⟩⟩
  exact AU h.2 hg
 |(k,.rown t sz els (.s g))::r,h,hg=>by simp[zy4] at h
 |(k,.rown t sz els (.t g))::r,h,hg=>by simp[zy4] at h
 |(k,.row ..)::r,h,hg=>by simp[zy4] at h
 |(k,.abs ..)::r,h,hg=>by simp[zy4] at h
theorem zy6{R:Laa}{l:Nat}{x:Ob}:∀{r:Laa},ouO R r=ζ->go r l=ς x->go R l=ξ/\((∃t cs,x= .var t cs/\cs.all (ouC R)=ζ)\/(∃t sz els,x= .row t sz els (.b ζ) ζ)\/∃t sz els,x= .rown t sz els (.b ζ))
 |[],_,hg=>by cases hg
 |(k,.var t cs)::r,h,hg=>by
  simp only[ouO,hV] at h
  rcases zy5 hg with⟨rfl,rfl⟩|⟨_,hg⟩
  .exact⟨by simpa using h.1.1,.inl ⟨_,_,rfl,h.1.2⟩⟩
  exact zy6 h.2 hg
 |(k,.row t sz els (.b g) m)::r,h,hg=>by
  simp only[ouO,hV] at h
  rcases zy5 hg with⟨rfl,rfl⟩|⟨_,hg⟩
  .obtain⟨⟨h1,rfl,rfl⟩,_⟩:=h
   exact⟨by simpa using h1,.inr (.inl ⟨_,_,_,rfl⟩)⟩
  exact zy6 h.2 hg
 |(k,.rown t sz els (.b g))::r,h,hg=>by
  simp only[ouO,hV] at h
  rcases zy5 hg with⟨rfl,rfl⟩|⟨_,hg⟩
  .obtain⟨⟨h1,rfl⟩,_⟩:=h
   exact⟨by simpa using h1,.inr (.inr ⟨_,_,_,rfl⟩)⟩
  exact zy6 h.2 hg
 |(k,.rown t sz els (.s g))::r,h,hg=>by simp[ouO] at h
 |(k,.rown t sz els (.t g))::r,h,hg=>by simp[ouO] at h
 |(k,.row t sz els (.s g) m)::r,h,hg=>by simp[ouO] at h
 |(k,.row t sz els (.t g) m)::r,h,hg=>by simp[ouO] at h
 |(k,.abs ..)::r,h,hg=>by simp[ouO] at h
def xsC(R:Laa):C->Bool
 | .d (.b _) _| .nil| .any| .fn _=>ζ
 | .wn l _| .w l _| .p l _=>(go R l).isNone
 |_=>η
theorem zy7{R:Laa}{l:Nat}{x:Ob}:∀{r:Laa},xsO R r=ζ->go r l=ς x->go R l=ξ/\((∃t cs,x= .var t cs/\cs.all (xsC R)=ζ)\/(∃t sz els,∃g:Bool,x= .row t sz els (.b g) ζ)\/∃t sz els,∃g:Bool,x= .rown t sz els (.b g))
 |[],_,hg=>by cases hg
 |(k,.var t cs)::r,h,hg=>by
  simp only[xsO,hV] at h
  rcases zy5 hg with⟨rfl,rfl⟩|⟨_,hg⟩
  .exact⟨by simpa using h.1.1,.inl ⟨_,_,rfl,h.1.2⟩⟩
  exact zy7 h.2 hg
 |(k,.row t sz els (.b g) m)::r,h,hg=>by
  simp only[xsO,hV] at h
  rcases zy5 hg with⟨rfl,rfl⟩|⟨_,hg⟩
  .obtain⟨⟨h1,rfl⟩,_⟩:=h
   exact⟨by simpa using h1,.inr (.inl ⟨_,_,_,_,rfl⟩)⟩
  exact zy7 h.2 hg
 |(k,.rown t sz els (.b g))::r,h,hg=>by
  simp only[xsO,hV] at h
  rcases zy5 hg with⟨rfl,rfl⟩|⟨_,hg⟩
  .exact⟨by simpa using h.1,.inr (.inr ⟨_,_,_,_,rfl⟩)⟩
  exact zy7 h.2 hg
 |(k,.rown t sz els (.s g))::r,h,hg=>by simp[xsO] at h
 |(k,.rown t sz els (.t g))::r,h,hg=>by simp[xsO] at h
 |(k,.row t sz els (.s g) m)::r,h,hg=>by simp[xsO] at h
 |(k,.row t sz els (.t g) m)::r,h,hg=>by simp[xsO] at h
 |(k,.abs ..)::r,h,hg=>by simp[xsO] at h
theorem zy8{A B:Laa}(h:go A l=ς x):go (A++B) l=ς x:=by
 induction A with
 |nil=>cases h
 |cons p r ih=>
  obtain⟨k,v⟩:=p
  by_cases e:k=l
  .subst e;rw[bM] at h;rw[Z9,bM];exact h
  rw[a9 _ _ e] at h;rw[Z9,a9 _ _ e];exact ih h
theorem zy9{A B:Laa}(h:go A l=ξ):go (A++B) l=go B l:=by
 induction A with
 |nil=>rfl
 |cons p r ih=>
  obtain⟨k,v⟩:=p
  by_cases e:k=l
  .subst e;rw[bM] at h;cases h
  rw[a9 _ _ e] at h;rw[Z9,a9 _ _ e];exact ih h
theorem KZ{w':World}{F F':Nat->Prop}{x:D}(hx:∀xs,x≠.l xs)(h:rdD w F x u):rdD w' F' x u:=by
 cases x<;>simp only[rdD] at h ⊢<;>try exact h
 exact absurd rfl (hx _)
section
variable{E E0:Env}{w:World}{R:Laa}
theorem SN(hr:∀l,go R l=ξ->E0.r l=E.r l/\(E0.n l↔E.n l))(hH:∀(g:Bool) b,E.H g b->E0.H g b)(hg:∀b,E.G b->E.F b)(hR:∀l x,go R l=ς x->cg E w l x)(hF:∀l x b c,go R l=ς x->E.r l=ς (b,c)->E0.F b){c c':C}{e:Lac}(h:rdC R c=ς (c',e))(he:Eqs e)(hc:cvC E w c u):cvC E0 w c' u:=by
 cases c<;>simp only[rdC] at h<;>try (cases h;done)
 case d g x=>
  cases g<;>simp only[] at h<;>try (cases h;done)
  cases h;exact bP (λ_ _=>rfl) (hH _) _ _ hc
 case p o k=>
  split at h
  .cases h
  rename_i h1;cases h
  obtain⟨b,c,h2,h3⟩:=hc
  exact⟨b,c,(hr _ h1).1.trans h2,h3⟩
 case fn f=>cases h;exact hc
 case nil=>cases h;exact hc
 case any=>cases h;trivial
 case wn l n=>
  split at h
  .rename_i t sz els g h1
   simp at h;obtain⟨rfl,rfl⟩:=h
   have hn:els.length=n:=he.1
   rcases hc with⟨h2,rfl,rfl⟩|⟨h2,b,c,h3,rfl⟩
   .obtain rfl:=List.eq_nil_of_length_eq_zero hn
    exact⟨ξ,0,rfl,Nat.le_refl _,.inl rfl⟩
   rcases hR _ _ h1 with⟨h4,_⟩|⟨_,b',c',arr,h5,h6,h7,h8,h9,h10,h11,h12⟩
   .exact absurd h4 h2
   rw[h3] at h5;cases h5
   have hHF:∀k,E.H g k->E0.H η k:=λk hk=>hH η k (by cases g;exact hk;exact hg k hk)
   exact⟨ς ⟨b,0,ξ⟩,c,by rw[hn],h8,.inr ⟨b,0,rfl,hF _ _ _ _ h1 h3,bS (λ_ _=>rfl) hHF rfl _ _ h11⟩⟩
  .cases h
  rename_i h1;cases h
  rcases hc with⟨h2,h3⟩|⟨h2,b,c,h3,h4⟩
  .exact .inl ⟨(hr _ h1).2.2 h2,h3⟩
  exact .inr ⟨λk=>h2 ((hr _ h1).2.1 k),b,c,(hr _ h1).1.trans h3,h4⟩
theorem zy10(hr:∀l,go R l=ξ->E0.r l=E.r l/\(E0.n l↔E.n l))(hH:∀(g:Bool) b,E.H g b->E0.H g b)(hg:∀b,E.G b->E.F b)(hR:∀l x,go R l=ς x->cg E w l x)(hF:∀l x b c,go R l=ς x->E.r l=ς (b,c)->E0.F b):
 ∀{cs cs':List C} {e:Lac} {us:Lae},zy1 R cs=ς (cs',e)->Eqs e->CV E w cs us->CV E0 w cs' us
 |[],cs',e,us,h,he,hc=>by
  simp[zy1] at h;obtain⟨rfl,rfl⟩:=h
  cases us with
  |nil=>trivial
  |cons _ _=>exact hc.elim
 |c::cs,cs',e,us,h,he,hc=>by
  cases us with
  |nil=>exact hc.elim
  |cons u us=>
   simp only[zy1] at h
   split at h
   .rename_i h1 h2;cases h
    obtain⟨k1,k2⟩:=dq he
    exact⟨SN hr hH hg hR hF h1 k1 hc.1,zy10 hr hH hg hR hF h2 k2 hc.2⟩
   cases h
theorem zy11(hr:∀l,go R l=ξ->E0.r l=E.r l/\(E0.n l↔E.n l))(hH:∀(g:Bool) b,E.H g b->E0.H g b)(hg:∀b,E.G b->E.F b)(hR:∀l x,go R l=ς x->cg E w l x)(hF:∀l x b c,go R l=ς x->E.r l=ς (b,c)->E0.F b):
 ∀{ts ts':List T} {e:Lac} {us:Lae},zy3 R ts=ς (ts',e)->Eqs e->TV E w ts us->TV E0 w ts' us
 |[],ts',e,us,h,he,hc=>by
  simp[zy3] at h;obtain⟨rfl,rfl⟩:=h
  cases us with
  |nil=>trivial
  |cons _ _=>exact hc.elim
 |t::ts,ts',e,us,h,he,hc=>by
  cases us with
  |nil=>exact hc.elim
  |cons u us=>
   simp only[zy3] at h
   split at h
   .rename_i h1 h2;cases h
    obtain⟨k1,k2⟩:=dq he
    refine⟨?_,zy11 hr hH hg hR hF h2 k2 hc.2⟩
    have h0:=hc.1
    unfold zy2 at h1
    split at h1
    .split at h1
     .rename_i h3;cases h1;exact SN hr hH hg hR hF h3 k1 h0
     cases h1
    .split at h1
     .rename_i h3;cases h1
      obtain⟨arr,q1,q2⟩:=h0
      exact⟨arr,q1,zy10 hr hH hg hR hF h3 k1 q2⟩
     cases h1
    cases h1
   cases h
end
theorem Su(hr:∀l,go R l=ξ->E'.r l=E.r l/\(E'.n l↔E.n l))(hG:∀b,E.G b->E'.G b){c:C}(h:ouC R c=ζ)(hc:cvC E w c u):cvC E' w c u:=by
 cases c<;>simp only[ouC] at h<;>try (cases h;done)
 case d g x=>
  cases g with
  |b g=>
   cases g
   .refine KZ (F:=E.F) (λxs e=>?_) hc
    subst e;simp at h
   exact bP (λ_ _=>rfl) hG _ _ hc
  |s n=>simp at h
  |t n=>simp at h
 case w o n=>obtain⟨b,c,h1,h2⟩:=hc;exact⟨b,c,(hr o (by simpa using h)).1.trans h1,h2⟩
 case p o n=>obtain⟨b,c,h1,h2⟩:=hc;exact⟨b,c,(hr o (by simpa using h)).1.trans h1,h2⟩
 case fn f=>exact hc
 case nil=>exact hc
 case any=>trivial
 case wn o n=>
  have k:=hr o (by simpa using h)
  rcases hc with⟨h2,h3⟩|⟨h2,b,c,h3,h4⟩
  .exact .inl ⟨k.2.2 h2,h3⟩
  exact .inr ⟨λq=>h2 (k.2.1 q),b,c,k.1.trans h3,h4⟩
theorem zy12{E E':Env}{w:World}{R:Laa}(hr:∀l,go R l=ξ->E'.r l=E.r l/\(E'.n l↔E.n l))(hG:∀b,E.G b->E'.G b):∀{cs:List C} {us:Lae},cs.all (ouC R)=ζ->CV E w cs us->CV E' w cs us
 |[],[],_,_=>trivial
 |c::cs,u::us,h,hc=>by
  simp only[aaa,hV] at h
  exact⟨Su hr hG h.1 hc.1,zy12 hr hG h.2 hc.2⟩
 |[],_::_,_,h=>h.elim
 |_::_,[],_,h=>h.elim
theorem zy13(hr:∀l,go R l=ξ->E'.r l=E.r l/\(E'.n l↔E.n l))(hG:∀b,E.G b->E'.G b){v:V}(h:ouV R v=ζ)(hc:cvV E w v u):cvV E' w v u:=by
 cases v with
 |c c=>exact Su hr hG h hc
 |agg cs=>obtain⟨arr,h1,h2⟩:=hc;exact⟨arr,h1,zy12 hr hG h h2⟩
theorem zy14{E E':Env}{w:World}{R:Laa}(hr:∀l,go R l=ξ->E'.r l=E.r l/\(E'.n l↔E.n l))(hG:∀b,E.G b->E'.G b):∀{vs:List V} {us:Lae},vs.all (ouV R)=ζ->VV E w vs us->VV E' w vs us
 |[],[],_,_=>trivial
 |c::cs,u::us,h,hc=>by
  simp only[aaa,hV] at h
  exact⟨zy13 hr hG h.1 hc.1,zy14 hr hG h.2 hc.2⟩
 |[],_::_,_,h=>h.elim
 |_::_,[],_,h=>h.elim
theorem YB(hr:∀l,go R l=ξ->E'.r l=E.r l/\(E'.n l↔E.n l))(hG:∀b,E.G b->E'.G b){t:T}(h:ouT R t=ζ)(hc:cvT E w t u):cvT E' w t u:=by
 cases t with
 |v v=>exact zy13 hr hG h hc
 |tup vs=>obtain⟨arr,h1,h2⟩:=hc;exact⟨arr,h1,zy14 hr hG h h2⟩
 |any=>trivial
theorem Sv{r:Laa}(hr:∀l,go R l=ξ->E'.r l=E.r l/\(E'.n l↔E.n l))(hG:∀b,E.G b->E'.G b)(hF:∀b,E'.F b->E.F b)(h:ouO R r=ζ)(hx:go r l=ς x)(hc:cg E w l x):cg E' w l x:=by
 obtain⟨k1,k2⟩:=zy6 h hx
 obtain⟨k3,k4⟩:=hr l k1
 rcases k2 with⟨t,cs,rfl,k5⟩|⟨t,sz,els,rfl⟩|⟨t,sz,els,rfl⟩
 .obtain⟨b,c,arr,h1,h2,h3,h4⟩:=hc
  exact⟨b,c,arr,k3.trans h1,h2,zy12 hr hG k5 h3,λq=>h4 (hF b q)⟩
 .obtain⟨b,c,arr,h1,h2,h3,h4,h5,h6,h7,h8,h9⟩:=hc
  exact⟨b,c,arr,k3.trans h1,h2,h3,h4,h5,h6,bS (λ_ _=>rfl) hG rfl _ _ h7,λ_ q=>h8 rfl (hF b q),(λq=>by cases q),θ⟩
 rcases hc with⟨h0,h1⟩|⟨h0,b,c,arr,h1,h2,h3,h4,h5,h6,h7,h8⟩
 .exact .inl ⟨k4.2 h0,h1⟩
 exact .inr ⟨λq=>h0 (k4.1 q),b,c,arr,k3.trans h1,h2,h3,h4,h5,h6,bS (λ_ _=>rfl) hG rfl _ _ h7,λq=>h8.1 (hF b q),θ⟩
theorem zy15(hr:∀l,go R l=ξ->E'.r l=E.r l/\(E'.n l↔E.n l))(hH:∀(g:Bool) b,E.H g b->E'.H g b){c:C}(h:xsC R c=ζ)(hc:cvC E w c u):cvC E' w c u:=by
 cases c<;>simp only[xsC] at h<;>try (cases h;done)
 case d g x=>
  cases g with
  |b g=>exact bP (λ_ _=>rfl) (hH g) _ _ hc
  |s n=>simp at h
  |t n=>simp at h
 case w o n=>obtain⟨b,c,h1,h2⟩:=hc;exact⟨b,c,(hr o (by simpa using h)).1.trans h1,h2⟩
 case p o n=>obtain⟨b,c,h1,h2⟩:=hc;exact⟨b,c,(hr o (by simpa using h)).1.trans h1,h2⟩
 case fn f=>exact hc
 case nil=>exact hc
 case any=>trivial
 case wn o n=>
  have k:=hr o (by simpa using h)
  rcases hc with⟨h2,h3⟩|⟨h2,b,c,h3,h4⟩
  .exact .inl ⟨k.2.2 h2,h3⟩
  exact .inr ⟨λq=>h2 (k.2.1 q),b,c,k.1.trans h3,h4⟩
theorem zy16{E E':Env}{w:World}{R:Laa}(hr:∀l,go R l=ξ->E'.r l=E.r l/\(E'.n l↔E.n l))(hH:∀(g:Bool) b,E.H g b->E'.H g b):∀{cs:List C} {us:Lae},cs.all (xsC R)=ζ->CV E w cs us->CV E' w cs us
 |[],[],_,_=>trivial
 |c::cs,u::us,h,hc=>by
  simp only[aaa,hV] at h
  exact⟨zy15 hr hH h.1 hc.1,zy16 hr hH h.2 hc.2⟩
 |[],_::_,_,h=>h.elim
 |_::_,[],_,h=>h.elim
theorem zy17{r:Laa}(hr:∀l,go R l=ξ->E'.r l=E.r l/\(E'.n l↔E.n l))(hH:∀(g:Bool) b,E.H g b->E'.H g b)(hF:∀l b c,go R l=ξ->E.r l=ς (b,c)->¬E.F b->¬E'.F b)(h:xsO R r=ζ)(hx:go r l=ς x)(hc:cg E w l x):cg E' w l x:=by
 obtain⟨k1,k2⟩:=zy7 h hx
 obtain⟨k3,k4⟩:=hr l k1
 rcases k2 with⟨t,cs,rfl,k5⟩|⟨t,sz,els,g,rfl⟩|⟨t,sz,els,g,rfl⟩
 .obtain⟨b,c,arr,h1,h2,h3,h4⟩:=hc
  exact⟨b,c,arr,k3.trans h1,h2,zy16 hr hH k5 h3,hF l b c k1 h1 h4⟩
 .obtain⟨b,c,arr,h1,h2,h3,h4,h5,h6,h7,h8,h9⟩:=hc
  exact⟨b,c,arr,k3.trans h1,h2,h3,h4,h5,h6,bS (λ_ _=>rfl) (hH g) rfl _ _ h7,λq=>hF l b c k1 h1 (h8 q),(λq=>by cases q),θ⟩
 rcases hc with⟨h0,h1⟩|⟨h0,b,c,arr,h1,h2,h3,h4,h5,h6,h7,h8⟩
 .exact .inl ⟨k4.2 h0,h1⟩
 exact .inr ⟨λq=>h0 (k4.1 q),b,c,arr,k3.trans h1,h2,h3,h4,h5,h6,bS (λ_ _=>rfl) (hH g) rfl _ _ h7,hF l b c k1 h1 h8.1,θ⟩
theorem X6{w':World}(hr:∀l x,go R l=ς x->E'.r l=E.r l/\(E'.n l↔E.n l))(hw:∀(g:Bool) b,E.H g b->w'.heap[b]?=w.heap[b]?)(hH:∀(g:Bool) b,E.H g b->E'.H g b){c:C}(h:inC R c=ζ)(hc:cvC E w c u):cvC E' w' c u:=by
 cases c<;>simp only[inC] at h<;>try (cases h;done)
 case d g x=>
  cases g with
  |b g=>exact bP (hw g) (hH g) _ _ hc
  |s n=>simp at h
  |t n=>simp at h
 case fn f=>exact hc
 case nil=>exact hc
 case any=>trivial
 case wn o n=>
  obtain⟨x,hx⟩:=Option.isSome_iff_exists.1 h
  have k:=hr o x hx
  rcases hc with⟨h2,h3⟩|⟨h2,b,c,h3,h4⟩
  .exact .inl ⟨k.2.2 h2,h3⟩
  exact .inr ⟨λq=>h2 (k.2.1 q),b,c,k.1.trans h3,h4⟩
theorem zy18{E E':Env}{w w':World}{R:Laa}(hr:∀l x,go R l=ς x->E'.r l=E.r l/\(E'.n l↔E.n l))(hw:∀(g:Bool) b,E.H g b->w'.heap[b]?=w.heap[b]?)(hH:∀(g:Bool) b,E.H g b->E'.H g b):∀{cs:List C} {us:Lae},cs.all (inC R)=ζ->CV E w cs us->CV E' w' cs us
 |[],[],_,_=>trivial
 |c::cs,u::us,h,hc=>by
  simp only[aaa,hV] at h
  exact⟨X6 hr hw hH h.1 hc.1,zy18 hr hw hH h.2 hc.2⟩
 |[],_::_,_,h=>h.elim
 |_::_,[],_,h=>h.elim
theorem FnV.rd{P:Program}{f:FuncId}{xs ys nw:Laa}{args args':List T}{out:T}{e:Lac}(h:FnV P f xs args ys out nw)(R:Laa)(args'':List T)(h0:args''=args':=by exact rfl)(ha:zy3 R args'=ς (args,e):=by exact rfl)(he:Eqs e:=by repeat (first|exact θ|refine⟨by first|rfl|exact lm _|simp,?_⟩))(h1:zy4 R R=true:=by exact rfl)(h2:xsO R xs=true:=by exact rfl)(h3:ouO R ys=true:=by exact rfl)(h4:ouO R nw=true:=by exact rfl)(h5:ouT R out=true:=by exact rfl):FnV P f (R++xs) args'' (R++ys) out nw:=by
 subst h0
 refine⟨h.enters,λE w vals hI hT hTb hx hA=>?_⟩
 have hRo:∀l x,go R l=ς x->cg E w l x:=λl x hl=>hx l x (zy8 hl)
 have hRv:∀l x,go R l=ς x->rsv l=true:=λl x hl=>(AU h1 hl).1
 let isR:Nat->Prop:=λb=>∃l x c,go R l=ς x/\E.r l=ς (b,c)
 let E0:Env:=⟨λo=>if(go R o).isSome then ξ else E.r o,λb=>E.F b\/isR b,E.G,E.T,E.Z,E.n⟩
 have e0:∀l,go R l=ξ->E0.r l=E.r l/\(E0.n l↔E.n l):=λl hl=>⟨by simp[E0,hl],Iff.rfl⟩
 have zy19:∀l z,E0.r l=ς z->go R l=ξ/\E.r l=ς z:=λl z hl=>by
  cases hg:go R l with
  |none=>simp[E0,hg] at hl;exact⟨rfl,hl⟩
  |some x=>simp[E0,hg] at hl
 have hH0:∀(g:Bool) b,E.H g b->E0.H g b:=λg b hb=>by
  cases g
  .exact .inl hb
  exact hb
 have hnR:∀b,E.F b->¬isR b:=λb hb ⟨l,x,c,_,hl⟩=>(hI.rb l b c hl).2.2 hb
 have hR0:∀l z b c,go R l=ς z->E.r l=ς (b,c)->∀l' c',E0.r l'≠ς (b,c'):=λl z b c hl hb l' c' hl'=>by
  obtain⟨k1,k2⟩:=zy19 l' _ hl'
  rw[hI.inj l' l b c' c k2 hb] at k1
  rw[k1] at hl;cases hl
 have hI0:VIn E0 w:=⟨λb hb=>hb.elim (hI.fb b) (λ⟨l,x,c,_,hl⟩=>(hI.rb l b c hl).1),λb hb=>.inl (hI.gf b hb),λo b c ho=>?_,λo o' b c c' ho ho'=>hI.inj o o' b c c' (zy19 o _ ho).2 (zy19 o' _ ho').2,λl b hb=>⟨(hI.T l b hb).1,λq=>q.elim (hI.T l b hb).2.1 (λ⟨l',_,c,_,hl⟩=>(hI.T l b hb).2.2.1 l' c hl),λo c ho=>(hI.T l b hb).2.2.1 o c (zy19 o _ ho).2,(hI.T l b hb).2.2.2⟩,hI.tt,hI.ts,hI.Z⟩
 rotate_left
 .obtain⟨k1,k2⟩:=zy19 o _ ho
  obtain⟨k3,k4,k5⟩:=hI.rb o b c k2
  exact⟨k3,k4,λq=>q.elim k5 (λ⟨l,x,c',hl,hb⟩=>hR0 l x b c' hl hb o c ho)⟩
 refine(h.calls E0 w vals hI0 hT (λk hk o c ho=>hTb k hk o c (zy19 o _ ho).2) (λl x hl=>?_) (zy11 e0 hH0 hI.gf hRo (λl x b c hl hb=>.inr ⟨l,x,c,hl,hb⟩) ha he hA)).mono ?_
 .obtain⟨k1,_⟩:=zy7 h2 hl
  refine zy17 e0 hH0 (λl' b c hl' hb hf q=>q.elim hf (λ⟨l2,x2,c2,hl2,hb2⟩=>?_)) h2 hl (hx l x (by rw[zy9 k1];exact hl))
  rw[hI.inj l' l2 b c c2 hb hb2] at hl'
  rw[hl'] at hl2;cases hl2
 rintro zy20 w' ⟨v,E1,rfl,ho,hv,hy,hn⟩
 have hpast:∀b,b<w.heap.size->(∀l c,E0.r l≠ς (b,c))->(∀l,¬E.T l b)->w'.heap[b]?=w.heap[b]?:=λb hb hl ht=>ho.past.block b hb (λq=>q.elim (λ⟨o,c,q⟩=>hl o c q) (λ⟨l,q⟩=>ht l q))
 have hRh:∀l z b c,go R l=ς z->E.r l=ς (b,c)->w'.heap[b]?=w.heap[b]?:=λl z b c hl hb=>hpast b (hI.rb l b c hb).1 (hR0 l z b c hl hb) (λl' q=>(hI.T l' b q).2.2.1 l c hb)
 have hFh:∀b,E.F b->w'.heap[b]?=w.heap[b]?:=λb hb=>hpast b (hI.fb b hb) (λl c hl=>(hI.rb l b c (zy19 l _ hl).2).2.2 hb) (λl q=>(hI.T l b q).2.1 hb)
 have hHh:∀(g:Bool) b,E.H g b->w'.heap[b]?=w.heap[b]?:=λg b hb=>hFh b (by cases g;exact hb;exact hI.gf b hb)
 let E':Env:=⟨λo=>if(go R o).isSome then E.r o else E1.r o,λb=>E1.F b/\¬isR b,E1.G,E1.T,E1.Z,λo=>if(go R o).isSome then E.n o else E1.n o⟩
 have f0:∀l,go R l=ξ->E'.r l=E1.r l/\(E'.n l↔E1.n l):=λl hl=>by simp[E',hl]
 have f1:∀l x,go R l=ς x->E'.r l=E.r l/\(E'.n l↔E.n l):=λl x hl=>by simp[E',hl]
 have hG':∀b,E1.G b->¬isR b:=λb hb ⟨l,x,c,hl,hr⟩=>by
  rcases ho.g0 b hb with k|k|⟨l',k⟩
  .have:=(hI.rb l b c hr).1;omega
  .exact(hI.rb l b c hr).2.2 (hI.gf b k)
  exact(hI.T l' b k).2.2.1 l c hr
 have hH':∀(g:Bool) b,E.H g b->E'.H g b:=λg b hb=>by
  cases g
  .exact⟨ho.F b (.inl hb),hnR b hb⟩
  exact ho.G b hb
 have hd:∀l z b c,go R l=ς z->E.r l=ς (b,c)->∀l' c',E1.r l'≠ς (b,c'):=λl z b c hl hb l' c' hl'=>by
  rcases(ho.rb l' b c' hl').2 with(k|⟨l2,k⟩)|⟨⟨o',c2,k⟩,_⟩
  .have:=(hI.rb l b c hb).1;omega
  .exact(hI.T l2 b k).2.2.1 l c hb
  exact hR0 l z b c hl hb o' c2 k
 have hcase:∀l z,E'.r l=ς z->(∃x,go R l=ς x/\E.r l=ς z)\/(go R l=ξ/\E1.r l=ς z):=λl z hl=>by
  cases hg:go R l with
  |none=>exact .inr ⟨rfl,by rw[<-(f0 l hg).1];exact hl⟩
  |some x=>exact .inl ⟨x,rfl,by rw[<-(f1 l x hg).1];exact hl⟩
 refine⟨v,E',rfl,⟨⟨ho.past.os,ho.past.tape,ho.past.output,ho.past.size,λb hb hw=>hpast b hb (λl c hl=>hw (.inl ⟨l,c,(zy19 l _ hl).2⟩)) (λl q=>hw (.inr ⟨l,q⟩))⟩,λb hb=>ho.fb b hb.1,λb hb=>?_,λb hb=>hH' η b hb,λb hb=>ho.G b hb,λb hb=>⟨ho.gf b hb,hG' b hb⟩,ho.g0,λl b c hl=>?_,λl l' b c c' hl hl'=>?_,λl z hv hl=>?_,λl b hb=>⟨(ho.T l b hb).1,λq=>(ho.T l b hb).2.1 q.1,λo c hr=>?_,(ho.T l b hb).2.2.2⟩,ho.tt⟩,YB f0 (λ_ h=>h) h5 hv,λl y hl=>?_,λl y hl=>Sv f0 (λ_ h=>h) (λb hb=>hb.1) h4 hl (hn l y hl)⟩
 .rcases ho.f0 b hb.1 with(k|k)|k
  .exact .inl k
  .exact absurd k hb.2
  exact .inr k
 .rcases hcase l _ hl with⟨x,k1,k2⟩|⟨k1,k2⟩
  .exact⟨Nat.lt_of_lt_of_le (hI.rb l b c k2).1 ho.past.size,.inr ⟨⟨l,c,k2⟩,hRv l x k1⟩⟩
  obtain⟨q1,q2⟩:=ho.rb l b c k2
  exact⟨q1,q2.imp id (λ⟨⟨o',c',q⟩,q'⟩=>⟨⟨o',c',(zy19 o' _ q).2⟩,q'⟩)⟩
 .rcases hcase l _ hl with⟨x,k1,k2⟩|⟨k1,k2⟩<;>rcases hcase l' _ hl' with⟨x',m1,m2⟩|⟨m1,m2⟩
  .exact hI.inj l l' b c c' k2 m2
  .exact absurd m2 (hd l x b c k1 k2 l' c')
  .exact absurd k2 (hd l' x' b c' m1 m2 l c)
  exact ho.inj l l' b c c' k2 m2
 .rcases hcase l _ hl with⟨x,k1,k2⟩|⟨k1,k2⟩
  .exact k2
  exact(zy19 l z (ho.pin l z hv k2)).2
 .rcases hcase o _ hr with⟨x,k1,k2⟩|⟨k1,k2⟩
  .rcases(ho.T l b hb).1.2 with k|⟨l',k⟩
   .have:=(hI.rb o b c k2).1;omega
   exact(hI.T l' b k).2.2.1 o c k2
  exact(ho.T l b hb).2.2.1 o c k2
 cases hg:go R l with
 |none=>rw[zy9 hg] at hl;exact Sv f0 (λ_ h=>h) (λb hb=>hb.1) h3 hl (hy l y hl)
 |some x=>
  rw[zy8 hg] at hl;cases hl
  have hx0:=hRo l y hg
  obtain⟨_,k2⟩:=AU h1 hg
  have hnF:∀b c,E.r l=ς (b,c)->¬E'.F b:=λb c hb q=>q.2 ⟨l,y,c,hg,hb⟩
  rcases k2 with⟨t,cs,rfl,k5⟩|⟨t,sz,els,g,rfl⟩
  .obtain⟨b,c,arr,m1,m2,m3,m4⟩:=hx0
   exact⟨b,c,arr,(f1 l _ hg).1.trans m1,(hRh l _ b c hg m1).trans m2,zy18 f1 hHh hH' k5 m3,hnF b c m1⟩
  rcases hx0 with⟨mq0,m1⟩|⟨mq0,b,c,arr,m1,m2,m3,m4,m5,m6,m7,m8⟩
  .exact .inl ⟨(f1 l _ hg).2.2 mq0,m1⟩
  exact .inr ⟨λq=>mq0 ((f1 l _ hg).2.1 q),b,c,arr,(f1 l _ hg).1.trans m1,(hRh l _ b c hg m1).trans m2,m3,m4,m5,m6,bS (hHh g) (hH' g) (hRh l _ b c hg m1) _ _ m7,hnF b c m1,θ⟩
end Go.AM
