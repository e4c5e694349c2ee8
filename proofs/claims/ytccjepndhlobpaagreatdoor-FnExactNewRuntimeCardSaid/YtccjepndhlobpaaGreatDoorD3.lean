/-
  Plain facts and facts on memory that the walks lean on.
-/
import Derived.Test.YtccjepndhlobpaaGreatDoorB0
import Derived.Test.YtccjepndhlobpaaGreatDoorRows
import Derived.Deep.DeepMust
import Derived.Test.YtccjepndhlobpaaGreatDoorCards
import Derived.Test.YtccjepndhlobpaaGreatDoorTie
import Derived.ProofKit
import Derived.ShutString
import Derived.Lib.SmallJoins
import Derived.Deep.DeepHandedRow
import Derived.Lib.LaidTab
import Derived.Lay
import Derived.LaidSub
import Derived.MakeChecks
/-
  The door for deep data: the program's types (printed by gen_r2.py).
-/
namespace Go.Proofs.YtccjepndhlobpaaGreatDoor
open Go.RowKit Go.ChangeShapes Go.WideShapes
set_option linter.unusedVariables false
set_option linter.unusedSimpArgs false
set_option maxRecDepth 100000
section
variable {H:Type} {enc:TypeId × Value→H} {w:World}
theorem cells_int:Tryz.prog.cellsOf 3=1:=by kernel_rfl
theorem cells_string:Tryz.prog.cellsOf 9=1:=by kernel_rfl
theorem cells_Aint:Tryz.prog.cellsOf 166=2:=by kernel_rfl
theorem opens_i:OpensAt enc Tryz.prog w 3 IntP:=opens_int Tryz.underlying3
theorem opens_s:OpensAt enc Tryz.prog w 9 StrP:=opens_string Tryz.underlying9
theorem opens_Aint:OpensAt enc Tryz.prog w 166 PairP:=by
 intro fuel cs x h
 obtain ⟨xs,n,_,_,hl,hlen,hf⟩:=DataW.trod_array Tryz.underlying166 h
 rw [cells_Aint] at hl
 obtain ⟨c0,c1,rfl⟩:=list2 hl
 have e0:=hf 0 (by omega)
 have e1:=hf 1 (by omega)
 rw [cells_int,List.getElem?_eq_getElem (by omega)] at e0 e1
 obtain ⟨x0,h0,b0⟩:=opens_i (enc:=enc) (w:=w) _ _ _ (show DataW.trod enc Tryz.prog w 0 (fun _=>true) true n 3 [c0]=some _ by simpa using e0)
 obtain ⟨x1,h1,b1⟩:=opens_i (enc:=enc) (w:=w) _ _ _ (show DataW.trod enc Tryz.prog w 0 (fun _=>true) true n 3 [c1]=some _ by simpa using e1)
 simp only [List.cons.injEq,and_true] at h0 h1
 subst h0 h1
 exact ⟨(x0,x1),rfl,b0,b1⟩
theorem cells_Sint:Tryz.prog.cellsOf 23=1:=by kernel_rfl
theorem openv_Sint:∀fuel cs x,DataW.trod enc Tryz.prog w 0 (fun _=>true) true fuel 23 cs=some x→∃v xs,cs = [v]∧SlV 1 IntP 0 w.heap.size w v xs:=opens_slice Tryz.underlying23 cells_int (by decide) opens_i
theorem opens_Sint:OpensAt enc Tryz.prog w 23 RowP:=fun fuel cs x h=>by obtain ⟨v,xs,e,h⟩:=openv_Sint fuel cs x h;exact ⟨xs,v,e,h⟩
theorem cells_Sstring:Tryz.prog.cellsOf 29=1:=by kernel_rfl
theorem openv_Sstring:∀fuel cs x,DataW.trod enc Tryz.prog w 0 (fun _=>true) true fuel 29 cs=some x→∃v xs,cs = [v]∧SlV 1 StrP 0 w.heap.size w v xs:=opens_slice Tryz.underlying29 cells_string (by decide) opens_s
theorem cells_SAint:Tryz.prog.cellsOf 25=1:=by kernel_rfl
theorem openv_SAint:∀fuel cs x,DataW.trod enc Tryz.prog w 0 (fun _=>true) true fuel 25 cs=some x→∃v xs,cs = [v]∧SlV 2 PairP 0 w.heap.size w v xs:=opens_slice Tryz.underlying25 cells_Aint (by decide) opens_Aint
theorem cells_SSint:Tryz.prog.cellsOf 24=1:=by kernel_rfl
theorem openv_SSint:∀fuel cs x,DataW.trod enc Tryz.prog w 0 (fun _=>true) true fuel 24 cs=some x→∃v xs,cs = [v]∧SlV 1 RowP 0 w.heap.size w v xs:=opens_slice Tryz.underlying24 cells_Sint (by decide) opens_Sint
theorem cells_Control:Tryz.prog.cellsOf 109=3:=by kernel_rfl
theorem opens_Control:OpensAt enc Tryz.prog w 109 CtlP:=by
 intro fuel cs x h
 obtain ⟨hl,n,hf⟩:=opens_field Tryz.underlying109 h
 rw [cells_Control] at hl
 obtain ⟨c0,c1,c2,rfl⟩:=list3 hl
 obtain ⟨y0,e0⟩:=hf 0 _ rfl
 replace e0:DataW.trod enc Tryz.prog w 0 (fun _=>true) true n 9 [c0]=some y0:=by simpa [cells_string] using e0
 obtain ⟨x0,h0,b0⟩:=opens_s _ _ _ e0
 obtain rfl:=(List.cons.inj h0).1
 obtain ⟨y1,e1⟩:=hf 1 _ rfl
 replace e1:DataW.trod enc Tryz.prog w 0 (fun _=>true) true n 3 [c1]=some y1:=by simpa [cells_int] using e1
 obtain ⟨x1,h1,b1⟩:=opens_i _ _ _ e1
 obtain rfl:=(List.cons.inj h1).1
 obtain ⟨y2,e2⟩:=hf 2 _ rfl
 replace e2:DataW.trod enc Tryz.prog w 0 (fun _=>true) true n 3 [c2]=some y2:=by simpa [cells_int] using e2
 obtain ⟨x2,h2,b2⟩:=opens_i _ _ _ e2
 obtain rfl:=(List.cons.inj h2).1
 exact ⟨⟨x0,x1,x2⟩,rfl,b0,b1,b2⟩
theorem cells_Node:Tryz.prog.cellsOf 179=3:=by kernel_rfl
theorem opens_Node:OpensAt enc Tryz.prog w 179 NdP:=by
 intro fuel cs x h
 obtain ⟨hl,n,hf⟩:=opens_field Tryz.underlying179 h
 rw [cells_Node] at hl
 obtain ⟨c0,c1,c2,rfl⟩:=list3 hl
 obtain ⟨y0,e0⟩:=hf 0 _ rfl
 replace e0:DataW.trod enc Tryz.prog w 0 (fun _=>true) true n 3 [c0]=some y0:=by simpa [cells_int] using e0
 obtain ⟨x0,h0,b0⟩:=opens_i _ _ _ e0
 obtain rfl:=(List.cons.inj h0).1
 obtain ⟨y1,e1⟩:=hf 1 _ rfl
 replace e1:DataW.trod enc Tryz.prog w 0 (fun _=>true) true n 3 [c1]=some y1:=by simpa [cells_int] using e1
 obtain ⟨x1,h1,b1⟩:=opens_i _ _ _ e1
 obtain rfl:=(List.cons.inj h1).1
 obtain ⟨y2,e2⟩:=hf 2 _ rfl
 replace e2:DataW.trod enc Tryz.prog w 0 (fun _=>true) true n 23 [c2]=some y2:=by simpa [cells_Sint] using e2
 obtain ⟨v2,x2,h2,b2⟩:=openv_Sint _ _ _ e2
 obtain rfl:=(List.cons.inj h2).1
 exact ⟨⟨x0,x1,x2⟩,_,rfl,b0,b1,b2⟩
theorem cells_Wire:Tryz.prog.cellsOf 181=2:=by kernel_rfl
theorem opens_Wire:OpensAt enc Tryz.prog w 181 WrP:=by
 intro fuel cs x h
 obtain ⟨hl,n,hf⟩:=opens_field Tryz.underlying181 h
 rw [cells_Wire] at hl
 obtain ⟨c0,c1,rfl⟩:=list2 hl
 obtain ⟨y0,e0⟩:=hf 0 _ rfl
 replace e0:DataW.trod enc Tryz.prog w 0 (fun _=>true) true n 9 [c0]=some y0:=by simpa [cells_string] using e0
 obtain ⟨x0,h0,b0⟩:=opens_s _ _ _ e0
 obtain rfl:=(List.cons.inj h0).1
 obtain ⟨y1,e1⟩:=hf 1 _ rfl
 replace e1:DataW.trod enc Tryz.prog w 0 (fun _=>true) true n 3 [c1]=some y1:=by simpa [cells_int] using e1
 obtain ⟨x1,h1,b1⟩:=opens_i _ _ _ e1
 obtain rfl:=(List.cons.inj h1).1
 exact ⟨⟨x0,x1⟩,rfl,b0,b1⟩
theorem cells_SControl:Tryz.prog.cellsOf 22=1:=by kernel_rfl
theorem openv_SControl:∀fuel cs x,DataW.trod enc Tryz.prog w 0 (fun _=>true) true fuel 22 cs=some x→∃v xs,cs = [v]∧SlV 3 CtlP 0 w.heap.size w v xs:=opens_slice Tryz.underlying22 cells_Control (by decide) opens_Control
theorem cells_SNode:Tryz.prog.cellsOf 30=1:=by kernel_rfl
theorem openv_SNode:∀fuel cs x,DataW.trod enc Tryz.prog w 0 (fun _=>true) true fuel 30 cs=some x→∃v xs,cs = [v]∧SlV 3 NdP 0 w.heap.size w v xs:=opens_slice Tryz.underlying30 cells_Node (by decide) opens_Node
theorem cells_SWire:Tryz.prog.cellsOf 31=1:=by kernel_rfl
theorem openv_SWire:∀fuel cs x,DataW.trod enc Tryz.prog w 0 (fun _=>true) true fuel 31 cs=some x→∃v xs,cs = [v]∧SlV 2 WrP 0 w.heap.size w v xs:=opens_slice Tryz.underlying31 cells_Wire (by decide) opens_Wire
theorem cells_Bigraph:Tryz.prog.cellsOf 33=6:=by kernel_rfl
theorem opens_Bigraph:OpensAt enc Tryz.prog w 33 BigP:=by
 intro fuel cs x h
 obtain ⟨hl,n,hf⟩:=opens_field Tryz.underlying33 h
 rw [cells_Bigraph] at hl
 obtain ⟨c0,c1,c2,c3,c4,c5,rfl⟩:=list6 hl
 obtain ⟨y0,e0⟩:=hf 0 _ rfl
 replace e0:DataW.trod enc Tryz.prog w 0 (fun _=>true) true n 3 [c0]=some y0:=by simpa [cells_int] using e0
 obtain ⟨x0,h0,b0⟩:=opens_i _ _ _ e0
 obtain rfl:=(List.cons.inj h0).1
 obtain ⟨y1,e1⟩:=hf 1 _ rfl
 replace e1:DataW.trod enc Tryz.prog w 0 (fun _=>true) true n 30 [c1]=some y1:=by simpa [cells_SNode] using e1
 obtain ⟨v1,x1,h1,b1⟩:=openv_SNode _ _ _ e1
 obtain rfl:=(List.cons.inj h1).1
 obtain ⟨y2,e2⟩:=hf 2 _ rfl
 replace e2:DataW.trod enc Tryz.prog w 0 (fun _=>true) true n 23 [c2]=some y2:=by simpa [cells_Sint] using e2
 obtain ⟨v2,x2,h2,b2⟩:=openv_Sint _ _ _ e2
 obtain rfl:=(List.cons.inj h2).1
 obtain ⟨y3,e3⟩:=hf 3 _ rfl
 replace e3:DataW.trod enc Tryz.prog w 0 (fun _=>true) true n 3 [c3]=some y3:=by simpa [cells_int] using e3
 obtain ⟨x3,h3,b3⟩:=opens_i _ _ _ e3
 obtain rfl:=(List.cons.inj h3).1
 obtain ⟨y4,e4⟩:=hf 4 _ rfl
 replace e4:DataW.trod enc Tryz.prog w 0 (fun _=>true) true n 29 [c4]=some y4:=by simpa [cells_Sstring] using e4
 obtain ⟨v4,x4,h4,b4⟩:=openv_Sstring _ _ _ e4
 obtain rfl:=(List.cons.inj h4).1
 obtain ⟨y5,e5⟩:=hf 5 _ rfl
 replace e5:DataW.trod enc Tryz.prog w 0 (fun _=>true) true n 31 [c5]=some y5:=by simpa [cells_SWire] using e5
 obtain ⟨v5,x5,h5,b5⟩:=openv_SWire _ _ _ e5
 obtain rfl:=(List.cons.inj h5).1
 exact ⟨⟨x0,x1,x2,x3,x4,x5⟩,_,_,_,_,rfl,b0,b3,b1,b2,b4,b5⟩
theorem cells_Rule:Tryz.prog.cellsOf 114=13:=by kernel_rfl
theorem opens_Rule:OpensAt enc Tryz.prog w 114 RulP:=by
 intro fuel cs x h
 obtain ⟨hl,n,hf⟩:=opens_field Tryz.underlying114 h
 rw [cells_Rule] at hl
 obtain ⟨c0,c1,c2,c3,c4,c5,c6,c7,c8,c9,c10,c11,c12,rfl⟩:=list13 hl
 obtain ⟨y0,e0⟩:=hf 0 _ rfl
 replace e0:DataW.trod enc Tryz.prog w 0 (fun _=>true) true n 33 [c0,c1,c2,c3,c4,c5]=some y0:=by simpa [cells_Bigraph] using e0
 obtain ⟨x0,b0⟩:=opens_Bigraph _ _ _ e0
 obtain ⟨y1,e1⟩:=hf 1 _ rfl
 replace e1:DataW.trod enc Tryz.prog w 0 (fun _=>true) true n 33 [c6,c7,c8,c9,c10,c11]=some y1:=by simpa [cells_Bigraph] using e1
 obtain ⟨x1,b1⟩:=opens_Bigraph _ _ _ e1
 obtain ⟨y2,e2⟩:=hf 2 _ rfl
 replace e2:DataW.trod enc Tryz.prog w 0 (fun _=>true) true n 23 [c12]=some y2:=by simpa [cells_Sint] using e2
 obtain ⟨v2,x2,h2,b2⟩:=openv_Sint _ _ _ e2
 obtain rfl:=(List.cons.inj h2).1
 exact ⟨⟨x0,x1,x2⟩,_,_,_,rfl,b0,b1,b2⟩
theorem cells_SRule:Tryz.prog.cellsOf 28=1:=by kernel_rfl
theorem openv_SRule:∀fuel cs x,DataW.trod enc Tryz.prog w 0 (fun _=>true) true fuel 28 cs=some x→∃v xs,cs = [v]∧SlV 13 RulP 0 w.heap.size w v xs:=opens_slice Tryz.underlying28 cells_Rule (by decide) opens_Rule
theorem cells_Sorting:Tryz.prog.cellsOf 27=5:=by kernel_rfl
theorem opens_Sorting:OpensAt enc Tryz.prog w 27 SrtP:=by
 intro fuel cs x h
 obtain ⟨hl,n,hf⟩:=opens_field Tryz.underlying27 h
 rw [cells_Sorting] at hl
 obtain ⟨c0,c1,c2,c3,c4,rfl⟩:=list5 hl
 obtain ⟨y0,e0⟩:=hf 0 _ rfl
 replace e0:DataW.trod enc Tryz.prog w 0 (fun _=>true) true n 23 [c0]=some y0:=by simpa [cells_Sint] using e0
 obtain ⟨v0,x0,h0,b0⟩:=openv_Sint _ _ _ e0
 obtain rfl:=(List.cons.inj h0).1
 obtain ⟨y1,e1⟩:=hf 1 _ rfl
 replace e1:DataW.trod enc Tryz.prog w 0 (fun _=>true) true n 24 [c1]=some y1:=by simpa [cells_SSint] using e1
 obtain ⟨v1,x1,h1,b1⟩:=openv_SSint _ _ _ e1
 obtain rfl:=(List.cons.inj h1).1
 obtain ⟨y2,e2⟩:=hf 2 _ rfl
 replace e2:DataW.trod enc Tryz.prog w 0 (fun _=>true) true n 24 [c2]=some y2:=by simpa [cells_SSint] using e2
 obtain ⟨v2,x2,h2,b2⟩:=openv_SSint _ _ _ e2
 obtain rfl:=(List.cons.inj h2).1
 obtain ⟨y3,e3⟩:=hf 3 _ rfl
 replace e3:DataW.trod enc Tryz.prog w 0 (fun _=>true) true n 23 [c3]=some y3:=by simpa [cells_Sint] using e3
 obtain ⟨v3,x3,h3,b3⟩:=openv_Sint _ _ _ e3
 obtain rfl:=(List.cons.inj h3).1
 obtain ⟨y4,e4⟩:=hf 4 _ rfl
 replace e4:DataW.trod enc Tryz.prog w 0 (fun _=>true) true n 25 [c4]=some y4:=by simpa [cells_SAint] using e4
 obtain ⟨v4,x4,h4,b4⟩:=openv_SAint _ _ _ e4
 obtain rfl:=(List.cons.inj h4).1
 exact ⟨⟨x0,x1,x2,x3,x4⟩,_,_,_,_,_,rfl,b0,b1,b2,b3,b4⟩
theorem cells_Runtime:Tryz.prog.cellsOf 35=15:=by kernel_rfl
theorem opens_Runtime:OpensAt enc Tryz.prog w 35 RntP:=by
 intro fuel cs x h
 obtain ⟨hl,n,hf⟩:=opens_field Tryz.underlying35 h
 rw [cells_Runtime] at hl
 obtain ⟨c0,c1,c2,c3,c4,c5,c6,c7,c8,c9,c10,c11,c12,c13,c14,rfl⟩:=list15 hl
 obtain ⟨y0,e0⟩:=hf 0 _ rfl
 replace e0:DataW.trod enc Tryz.prog w 0 (fun _=>true) true n 22 [c0]=some y0:=by simpa [cells_SControl] using e0
 obtain ⟨v0,x0,h0,b0⟩:=openv_SControl _ _ _ e0
 obtain rfl:=(List.cons.inj h0).1
 obtain ⟨y1,e1⟩:=hf 1 _ rfl
 replace e1:DataW.trod enc Tryz.prog w 0 (fun _=>true) true n 27 [c1,c2,c3,c4,c5]=some y1:=by simpa [cells_Sorting] using e1
 obtain ⟨x1,b1⟩:=opens_Sorting _ _ _ e1
 obtain ⟨y2,e2⟩:=hf 2 _ rfl
 replace e2:DataW.trod enc Tryz.prog w 0 (fun _=>true) true n 28 [c6]=some y2:=by simpa [cells_SRule] using e2
 obtain ⟨v2,x2,h2,b2⟩:=openv_SRule _ _ _ e2
 obtain rfl:=(List.cons.inj h2).1
 obtain ⟨y3,e3⟩:=hf 3 _ rfl
 replace e3:DataW.trod enc Tryz.prog w 0 (fun _=>true) true n 29 [c7]=some y3:=by simpa [cells_Sstring] using e3
 obtain ⟨v3,x3,h3,b3⟩:=openv_Sstring _ _ _ e3
 obtain rfl:=(List.cons.inj h3).1
 obtain ⟨y4,e4⟩:=hf 4 _ rfl
 replace e4:DataW.trod enc Tryz.prog w 0 (fun _=>true) true n 33 [c8,c9,c10,c11,c12,c13]=some y4:=by simpa [cells_Bigraph] using e4
 obtain ⟨x4,b4⟩:=opens_Bigraph _ _ _ e4
 obtain ⟨y5,e5⟩:=hf 5 _ rfl
 replace e5:DataW.trod enc Tryz.prog w 0 (fun _=>true) true n 3 [c14]=some y5:=by simpa [cells_int] using e5
 obtain ⟨x5,h5,b5⟩:=opens_i _ _ _ e5
 obtain rfl:=(List.cons.inj h5).1
 exact ⟨⟨x0,x1,x2,x3,x4,x5⟩,_,_,_,_,_,rfl,b0,b1,b2,b3,b4,b5⟩
/-- A handed argument of a struct type, opened. -/
theorem opened {t:TypeId} {fs:Array Field} {α:Type} {L:Lie α} {b0:Nat} {r:Reach} {v:Value} {d:DataW H} {p:List MemPlace} (hs:Tryz.prog.underlying t=some (.struct fs)) (ho:OpensAt enc Tryz.prog w t L)
 (hv:Value.okWide Tryz.prog w r b0 t v) (h:DataW.Trod enc Tryz.prog w 0 (fun _=>true) true t v d p):∃(cs:List Value) (x:α),v=.agg cs.toArray∧L 0 w.heap.size w cs x:=by
 obtain ⟨cs,rfl,_⟩:=okWide_struct hs hv
 obtain ⟨fuel,hf⟩:=h
 obtain ⟨x,hx⟩:=ho _ _ _ hf
 exact ⟨cs.toList,x,by simp,by simpa [Value.cells] using hx⟩
/-- A handed argument of a slice type, opened. -/
theorem openedv {t e:TypeId} {α:Type} {L:Lie α} {size b0:Nat} {r:Reach} {v:Value} {d:DataW H} {p:List MemPlace} (hs:Tryz.prog.underlying t=some (.slice e))
 (ho:∀fuel cs x,DataW.trod enc Tryz.prog w 0 (fun _=>true) true fuel t cs=some x→∃v xs,cs = [v]∧SlV size L 0 w.heap.size w v xs)
 (hv:Value.okWide Tryz.prog w r b0 t v) (h:DataW.Trod enc Tryz.prog w 0 (fun _=>true) true t v d p):∃(u:Value) (xs:List α),v=u∧SlV size L 0 w.heap.size w u xs:=by
 obtain ⟨a,n,k,rfl⟩:=okWide_slice hs hv
 obtain ⟨fuel,hf⟩:=h
 obtain ⟨u,xs,e,hx⟩:=ho _ _ _ hf
 simp [Value.cells] at e
 exact ⟨u,xs,e,hx⟩
end
end Go.Proofs.YtccjepndhlobpaaGreatDoor
/-
  The door for laws that lean on no listed variable's value.
-/
namespace Go.Proofs.YtccjepndhlobpaaGreatDoor
open Go.ChangeShapes Go.WideShapes Go.ChangeAt Go.RowKit Go.Joins
set_option linter.unusedVariables false
set_option linter.unusedSimpArgs false

theorem own:ownKnob Tryz.prog.godebug=none:=by kernel_rfl
theorem laidOut:laidOutB Tryz.prog=true:=by kernel_rfl
/-- The seat's list of variables. -/
def laidL : List (String × DataW Unit) := [("unicode/utf8.acceptRanges", Rows.laid_unicode_utf8_acceptRanges), ("unicode/utf8.first", Rows.laid_unicode_utf8_first)]
theorem laid_met (os:Os) (args:Array Value):laidMetH Tryz.prog laidL ((World.laidAll Tryz.prog os laidL).forCall (fun _ _=>0) ⟨#[],args,[]⟩).memory:=by
 rw [MakeChecks.laidMetH_plain _ _ _ (by kernel_rfl)];exact laidMet_laidAll _ (by kernel_rfl) (by kernel_rfl)
end Go.Proofs.YtccjepndhlobpaaGreatDoor
