/- A part. -/
import Derived.Test.YtbfpkbncbebapaaGreatP3
set_option linter.unusedVariables false
set_option linter.unusedSimpArgs false
namespace Go.AM
open Go.Proofs
open Tryz
open Go.RowKit Go.ChangeShapes Go.WideShapes Go.Deep
section
variable {H:Type} {enc:TypeId×Value→H} {P:Program} {w:World} {held:Bool}
theorem one_cell {t:TypeId} {r:Reach} {b0:Nat} {v:Value} {s:Sh} (hs:xV P t [s]) (hn:∀fs,P.underlying t≠some (.struct fs)) (hv:Value.okWide P w r b0 t v):v.cells.toList=[v]:=by
 cases hs with
 |int h=>obtain⟨n,rfl⟩:=okWide_int h hv;rfl
 |bool h=>obtain⟨n,rfl⟩:=okWide_bool h hv;rfl
 |string h=>obtain⟨n,rfl⟩:=okWide_string h hv;rfl
 |slice h=>obtain⟨a,l,c,rfl⟩:=okWide_slice h hv;rfl
 |struct h=>exact absurd h (hn _)
theorem open_c {t:TypeId} {r:Reach} {b0:Nat} {v:Value} {d:DataW H} {p:List MemPlace} {s:Sh} (hs:xV P t [s]) (hn:∀fs,P.underlying t≠some (.struct fs)) (hv:Value.okWide P w r b0 t v) (h:DataW.Trod enc P w 0 (fun _=>true) held t v d p):
 ∃x,WT s x∧avR w (fun b=>b<w.heap.size) (.c x) v:=by
 obtain⟨fuel,hf⟩:=h
 rw[one_cell hs hn hv] at hf
 obtain⟨xs,h1,h2⟩:=OC hs hf
 cases h1 with
 |cons h h'=>cases h' with
  |nil=>exact⟨_,h,h2.1⟩
end
theorem past_below {w w':World} (h:Ja w w' (fun _=>False)):Below w.heap.size w w':=⟨h.os,h.tape,h.output,h.size,fun b hb=>h.block b hb (fun h=>h)⟩
theorem law_calls {P:Program} {f:FuncId} {args:List AV} {w:World} {vals:Array Value} (h:Fn P f args [rB true]) (hT:TabsIn w) (hA:AR w (fun b=>b<w.heap.size) args vals.toList):
 Calls P f vals w fun e w'=>e= .returned (.bool true)∧Below w.heap.size w w':=by
 refine(h.calls _ w vals (fun _ h=>h) hT hA).mono ?_
 rintro e w' ⟨v,G,bs,rfl,hp,_,hr,_⟩
 obtain⟨_,hr⟩:=hr
 simp only[rdD] at hr
 exact⟨by rw[hr],past_below hp⟩
theorem fnLateService_fn (x0:D) (h0:WT (.l [.i .u8]) x0):Fn prog 4 [.c x0] [rB true]:=by
 obtain⟨y0,rfl,l0,w0⟩:=h0.gl
 obtain⟨a0,rfl,p0⟩:=No (f:=eU8) (p:=yT) (λx h=>by obtain⟨n,r,rfl,w,h⟩:=h.gi;obtain rfl:=h.gn;exact⟨n,rfl,wf_u8 w⟩) w0
 exact Bg (zV a0 ⟨by simpa using l0,p0⟩)
end Go.AM
