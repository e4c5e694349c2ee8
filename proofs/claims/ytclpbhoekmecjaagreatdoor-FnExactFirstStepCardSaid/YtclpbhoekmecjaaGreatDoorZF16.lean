/-
  Proved facts that the law leans on.
-/
import Derived.Test.YtclpbhoekmecjaaGreatDoorZF13
import Derived.Test.YtclpbhoekmecjaaGreatDoorZF15
namespace Go.Proofs.YtclpbhoekmecjaaGreatDoor
open Go.RowKit
set_option linter.unusedVariables false
set_option maxRecDepth 100000
set_option maxHeartbeats 1000000
attribute [local irreducible] au Der At
theorem szP {n:Nat} {l:Int} (h:(n:Int)≤l):szR n l=l - n:=if_pos h
theorem szN {n:Nat} {l:Int} (h:¬(n:Int)≤l):szR n l = -1:=if_neg h
attribute [local irreducible] szR
theorem ql (xs:List Int) (left:Int) (h0:0≤left) (h1:left≤1048576):FnD Tryz.prog 42 [.l 1 (xs.map D.i),.i left] (.d (.i (szR xs.length left))):=by
 refine ah Tryz.func42 (fun hw W0=>?_)
 have hl:=(wfM hw.1).1
 refine kgo ?_
 refine bt (fun h=>?_) (fun h=>?_)
 ·rw [szN (by omega)]
  refine kgo ?_
  exact aD
 rw [szP (by omega)]
 refine kgo ?_
 exact aD
theorem uc (xs:List ByteArray) (left:Int) (h0:0≤left) (h1:left≤1048576):FnD Tryz.prog 43 [.l 1 (xs.map D.s),.i left] (.d (.i (szR (wtL gF xs) left))):=by
 have hww:wtL gF xs=xs.length+(xs.map gF).sum:=rfl
 refine ah Tryz.func43 (fun hw W0=>?_)
 have hl:=(wfM hw.1).1
 refine kgo ?_
 refine bt (fun h=>?_) (fun h=>?_)
 ·rw [szN (by omega)]
  refine kgo ?_
  exact aD
 refine kgo ?_
 refine aq [0] (fun x:Nat × Int=>x.1≤xs.length∧0≤x.2∧x.2=left - xs.length - (((xs.take x.1).map gF).sum:Nat)) (fun x=>xs.length - x.1) (fun x=>[(1,.sy (.d (.i x.2))),(5,.sy (.d (.i x.1)))]) (0,left - xs.length) ⟨Nat.zero_le _,by show 0≤left - (xs.length:Int);omega,by simp⟩ (fun x hx=>?_)
 obtain ⟨i,K⟩:=x
 obtain ⟨hi,hK0,hK⟩:=hx
 dsimp only at hi hK hK0 ⊢
 refine kgo ?_
 refine bt (fun h=>?_) (fun h=>?_)
 ·have hlt:i<xs.length:=by omega
  have hs:=lR gF xs i hlt
  have hle:=fN gF xs (i+1)
  have hx:gF xs[i]=(xs[i]).size:=rfl
  have hz:=hw.1.2.at _ (List.mem_map.2 ⟨xs[i],List.getElem_mem hlt,rfl⟩)
  have hz':(xs[i]).size≤9223372036854775807:=hz
  refine kgo ?_
  refine bS (e:=0) ?_
  refine kgo ?_
  refine bt (fun h=>?_) (fun h=>?_)
  ·rw [szN (by omega)]
   refine kgo ?_
   exact aD
  refine kgo ?_
  exact af (i+1,K - ((xs[i]).size:Nat)) ⟨hlt,by show 0≤K - ((xs[i]).size:Int);omega,by show K - ((xs[i]).size:Int)=left - xs.length - (((xs.take (i+1)).map gF).sum:Nat);omega⟩ (by show _ - (i+1)<_ - i;omega)
 obtain rfl:i=xs.length:=by omega
 rw [List.take_length] at hK
 rw [szP (by omega),show left - ((wtL gF xs:Nat):Int)=K by omega]
 refine kgo ?_
 exact aD
theorem tI (x:Ctl) (left:Int) (h0:0≤left) (h1:left≤1048576):FnD Tryz.prog 39 [Ctl.D x,.i left] (.d (.i (szR (fL x) left))):=by
 have hww:fL x=(x.name).size:=rfl
 refine ah Tryz.func39 (fun hw W0=>?_)
 have hz:(x.name).size≤9223372036854775807:=hw.1.1
 refine kgo ?_
 refine bS (e:=0) ?_
 refine kgo ?_
 refine bt (fun h=>?_) (fun h=>?_)
 ·rw [szN (by omega)]
  refine kgo ?_
  exact aD
 rw [szP (by omega),show left - ((fL x:Nat):Int)=left - ((x.name).size:Nat) by omega]
 refine kgo ?_
 exact aD
theorem sj (xs:List Ctl) (left:Int) (h0:0≤left) (h1:left≤1048576):FnD Tryz.prog 7 [.l 3 (xs.map Ctl.D),.i left] (.d (.i (szR (wtL fL xs) left))):=by
 have hww:wtL fL xs=xs.length+(xs.map fL).sum:=rfl
 refine ah Tryz.func7 (fun hw W0=>?_)
 have hl:=(wfM hw.1).1
 refine kgo ?_
 refine bt (fun h=>?_) (fun h=>?_)
 ·rw [szN (by omega)]
  refine kgo ?_
  exact aD
 refine kgo ?_
 refine aq [0] (fun x:Nat × Int=>x.1≤xs.length∧0≤x.2∧x.2=left - xs.length - (((xs.take x.1).map fL).sum:Nat)) (fun x=>xs.length - x.1) (fun x=>[(1,.sy (.d (.i x.2))),(5,.sy (.d (.i x.1)))]) (0,left - xs.length) ⟨Nat.zero_le _,by show 0≤left - (xs.length:Int);omega,by simp⟩ (fun x hx=>?_)
 obtain ⟨i,K⟩:=x
 obtain ⟨hi,hK0,hK⟩:=hx
 dsimp only at hi hK hK0 ⊢
 refine kgo ?_
 refine bt (fun h=>?_) (fun h=>?_)
 ·have hlt:i<xs.length:=by omega
  have hs:=lR fL xs i hlt
  have hle:=fN fL xs (i+1)
  have f:=tI xs[i] K hK0 (by omega)
  by_cases hz:((fL xs[i]:Nat):Int)≤K
  ·rw [szP hz] at f
   refine kgo ?_
   refine bt (fun h=>?_) (fun h=>?_)
   ·omega
   refine kgo ?_
   exact af (i+1,K - (fL xs[i]:Nat)) ⟨hlt,by show 0≤K - ((fL xs[i]:Nat):Int);omega,by show K - ((fL xs[i]:Nat):Int)=left - xs.length - (((xs.take (i+1)).map fL).sum:Nat);omega⟩ (by show _ - (i+1)<_ - i;omega)
  rw [szN hz] at f
  rw [szN (by omega)]
  refine kgo ?_
  exact aD
 obtain rfl:i=xs.length:=by omega
 rw [List.take_length] at hK
 rw [szP (by omega),show left - ((wtL fL xs:Nat):Int)=K by omega]
 refine kgo ?_
 exact aD
theorem CG (x:Wr) (left:Int) (h0:0≤left) (h1:left≤1048576):FnD Tryz.prog 90 [Wr.D x,.i left] (.d (.i (szR (kN x) left))):=by
 have hww:kN x=(x.name).size:=rfl
 refine ah Tryz.func90 (fun hw W0=>?_)
 have hz:(x.name).size≤9223372036854775807:=hw.1.1
 refine kgo ?_
 refine bS (e:=0) ?_
 refine kgo ?_
 refine bt (fun h=>?_) (fun h=>?_)
 ·rw [szN (by omega)]
  refine kgo ?_
  exact aD
 rw [szP (by omega),show left - ((kN x:Nat):Int)=left - ((x.name).size:Nat) by omega]
 refine kgo ?_
 exact aD
theorem zM (xs:List Wr) (left:Int) (h0:0≤left) (h1:left≤1048576):FnD Tryz.prog 44 [.l 2 (xs.map Wr.D),.i left] (.d (.i (szR (wtL kN xs) left))):=by
 have hww:wtL kN xs=xs.length+(xs.map kN).sum:=rfl
 refine ah Tryz.func44 (fun hw W0=>?_)
 have hl:=(wfM hw.1).1
 refine kgo ?_
 refine bt (fun h=>?_) (fun h=>?_)
 ·rw [szN (by omega)]
  refine kgo ?_
  exact aD
 refine kgo ?_
 refine aq [0] (fun x:Nat × Int=>x.1≤xs.length∧0≤x.2∧x.2=left - xs.length - (((xs.take x.1).map kN).sum:Nat)) (fun x=>xs.length - x.1) (fun x=>[(1,.sy (.d (.i x.2))),(5,.sy (.d (.i x.1)))]) (0,left - xs.length) ⟨Nat.zero_le _,by show 0≤left - (xs.length:Int);omega,by simp⟩ (fun x hx=>?_)
 obtain ⟨i,K⟩:=x
 obtain ⟨hi,hK0,hK⟩:=hx
 dsimp only at hi hK hK0 ⊢
 refine kgo ?_
 refine bt (fun h=>?_) (fun h=>?_)
 ·have hlt:i<xs.length:=by omega
  have hs:=lR kN xs i hlt
  have hle:=fN kN xs (i+1)
  have f:=CG xs[i] K hK0 (by omega)
  by_cases hz:((kN xs[i]:Nat):Int)≤K
  ·rw [szP hz] at f
   refine kgo ?_
   refine bt (fun h=>?_) (fun h=>?_)
   ·omega
   refine kgo ?_
   exact af (i+1,K - (kN xs[i]:Nat)) ⟨hlt,by show 0≤K - ((kN xs[i]:Nat):Int);omega,by show K - ((kN xs[i]:Nat):Int)=left - xs.length - (((xs.take (i+1)).map kN).sum:Nat);omega⟩ (by show _ - (i+1)<_ - i;omega)
  rw [szN hz] at f
  rw [szN (by omega)]
  refine kgo ?_
  exact aD
 obtain rfl:i=xs.length:=by omega
 rw [List.take_length] at hK
 rw [szP (by omega),show left - ((wtL kN xs:Nat):Int)=K by omega]
 refine kgo ?_
 exact aD
theorem CU (x:Nd) (left:Int) (h0:0≤left) (h1:left≤1048576):FnD Tryz.prog 89 [Nd.D x,.i left] (.d (.i (szR (jl x) left))):=by
 have hww:jl x=(x.links).length:=rfl
 refine ah Tryz.func89 (fun hw W0=>?_)
 have flinks:=ql x.links (left) (by omega) (by omega)
 by_cases hlinks:(((x.links).length:Nat):Int)≤left
 rotate_left
 ·rw [szN hlinks] at flinks
  rw [szN (by omega)]
  refine kgo ?_
  exact aD
 rw [szP hlinks] at flinks
 refine kgo ?_
 refine bt (fun h=>?_) (fun h=>?_)
 ·omega
 rw [szP (by omega),show left - ((jl x:Nat):Int)=left - ((x.links).length:Nat) by omega]
 refine kgo ?_
 exact aD
theorem ze (xs:List Nd) (left:Int) (h0:0≤left) (h1:left≤1048576):FnD Tryz.prog 41 [.l 3 (xs.map Nd.D),.i left] (.d (.i (szR (wtL jl xs) left))):=by
 have hww:wtL jl xs=xs.length+(xs.map jl).sum:=rfl
 refine ah Tryz.func41 (fun hw W0=>?_)
 have hl:=(wfM hw.1).1
 refine kgo ?_
 refine bt (fun h=>?_) (fun h=>?_)
 ·rw [szN (by omega)]
  refine kgo ?_
  exact aD
 refine kgo ?_
 refine aq [0] (fun x:Nat × Int=>x.1≤xs.length∧0≤x.2∧x.2=left - xs.length - (((xs.take x.1).map jl).sum:Nat)) (fun x=>xs.length - x.1) (fun x=>[(1,.sy (.d (.i x.2))),(5,.sy (.d (.i x.1)))]) (0,left - xs.length) ⟨Nat.zero_le _,by show 0≤left - (xs.length:Int);omega,by simp⟩ (fun x hx=>?_)
 obtain ⟨i,K⟩:=x
 obtain ⟨hi,hK0,hK⟩:=hx
 dsimp only at hi hK hK0 ⊢
 refine kgo ?_
 refine bt (fun h=>?_) (fun h=>?_)
 ·have hlt:i<xs.length:=by omega
  have hs:=lR jl xs i hlt
  have hle:=fN jl xs (i+1)
  have f:=CU xs[i] K hK0 (by omega)
  by_cases hz:((jl xs[i]:Nat):Int)≤K
  ·rw [szP hz] at f
   refine kgo ?_
   refine bt (fun h=>?_) (fun h=>?_)
   ·omega
   refine kgo ?_
   exact af (i+1,K - (jl xs[i]:Nat)) ⟨hlt,by show 0≤K - ((jl xs[i]:Nat):Int);omega,by show K - ((jl xs[i]:Nat):Int)=left - xs.length - (((xs.take (i+1)).map jl).sum:Nat);omega⟩ (by show _ - (i+1)<_ - i;omega)
  rw [szN hz] at f
  rw [szN (by omega)]
  refine kgo ?_
  exact aD
 obtain rfl:i=xs.length:=by omega
 rw [List.take_length] at hK
 rw [szP (by omega),show left - ((wtL jl xs:Nat):Int)=K by omega]
 refine kgo ?_
 exact aD
theorem li (x:Big) (left:Int) (h0:0≤left) (h1:left≤1048576):FnD Tryz.prog 9 [Big.D x,.i left] (.d (.i (szR (cT x) left))):=by
 have hww:cT x=wtL jl x.nodes+(x.sites).length+wtL gF x.outer+wtL kN x.inner:=rfl
 refine ah Tryz.func9 (fun hw W0=>?_)
 have fnodes:=ze x.nodes (left) (by omega) (by omega)
 by_cases hnodes:((wtL jl x.nodes:Nat):Int)≤left
 rotate_left
 ·rw [szN hnodes] at fnodes
  rw [szN (by omega)]
  refine kgo ?_
  exact aD
 rw [szP hnodes] at fnodes
 refine kgo ?_
 refine bt (fun h=>?_) (fun h=>?_)
 ·omega
 have fsites:=ql x.sites (left - (wtL jl x.nodes:Nat)) (by omega) (by omega)
 by_cases hsites:(((x.sites).length:Nat):Int)≤left - (wtL jl x.nodes:Nat)
 rotate_left
 ·rw [szN hsites] at fsites
  rw [szN (by omega)]
  refine kgo ?_
  exact aD
 rw [szP hsites] at fsites
 refine kgo ?_
 refine bt (fun h=>?_) (fun h=>?_)
 ·omega
 have fouter:=uc x.outer (left - (wtL jl x.nodes:Nat) - ((x.sites).length:Nat)) (by omega) (by omega)
 by_cases houter:((wtL gF x.outer:Nat):Int)≤left - (wtL jl x.nodes:Nat) - ((x.sites).length:Nat)
 rotate_left
 ·rw [szN houter] at fouter
  rw [szN (by omega)]
  refine kgo ?_
  exact aD
 rw [szP houter] at fouter
 refine kgo ?_
 refine bt (fun h=>?_) (fun h=>?_)
 ·omega
 have finner:=zM x.inner (left - (wtL jl x.nodes:Nat) - ((x.sites).length:Nat) - (wtL gF x.outer:Nat)) (by omega) (by omega)
 by_cases hinner:((wtL kN x.inner:Nat):Int)≤left - (wtL jl x.nodes:Nat) - ((x.sites).length:Nat) - (wtL gF x.outer:Nat)
 rotate_left
 ·rw [szN hinner] at finner
  rw [szN (by omega)]
  refine kgo ?_
  exact aD
 rw [szP hinner] at finner
 refine kgo ?_
 refine bt (fun h=>?_) (fun h=>?_)
 ·omega
 rw [szP (by omega),show left - ((cT x:Nat):Int)=left - (wtL jl x.nodes:Nat) - ((x.sites).length:Nat) - (wtL gF x.outer:Nat) - (wtL kN x.inner:Nat) by omega]
 refine kgo ?_
 exact aD
theorem C1 (x:Rul) (left:Int) (h0:0≤left) (h1:left≤1048576):FnD Tryz.prog 40 [Rul.D x,.i left] (.d (.i (szR (dH x) left))):=by
 have hww:dH x=cT x.redex+cT x.reactum+(x.copies).length:=rfl
 refine ah Tryz.func40 (fun hw W0=>?_)
 have fredex:=li x.redex (left) (by omega) (by omega)
 by_cases hredex:((cT x.redex:Nat):Int)≤left
 rotate_left
 ·rw [szN hredex] at fredex
  rw [szN (by omega)]
  refine kgo ?_
  exact aD
 rw [szP hredex] at fredex
 refine kgo ?_
 refine bt (fun h=>?_) (fun h=>?_)
 ·omega
 have freactum:=li x.reactum (left - (cT x.redex:Nat)) (by omega) (by omega)
 by_cases hreactum:((cT x.reactum:Nat):Int)≤left - (cT x.redex:Nat)
 rotate_left
 ·rw [szN hreactum] at freactum
  rw [szN (by omega)]
  refine kgo ?_
  exact aD
 rw [szP hreactum] at freactum
 refine kgo ?_
 refine bt (fun h=>?_) (fun h=>?_)
 ·omega
 have fcopies:=ql x.copies (left - (cT x.redex:Nat) - (cT x.reactum:Nat)) (by omega) (by omega)
 by_cases hcopies:(((x.copies).length:Nat):Int)≤left - (cT x.redex:Nat) - (cT x.reactum:Nat)
 rotate_left
 ·rw [szN hcopies] at fcopies
  rw [szN (by omega)]
  refine kgo ?_
  exact aD
 rw [szP hcopies] at fcopies
 refine kgo ?_
 refine bt (fun h=>?_) (fun h=>?_)
 ·omega
 rw [szP (by omega),show left - ((dH x:Nat):Int)=left - (cT x.redex:Nat) - (cT x.reactum:Nat) - ((x.copies).length:Nat) by omega]
 refine kgo ?_
 exact aD
theorem y6 (xs:List Rul) (left:Int) (h0:0≤left) (h1:left≤1048576):FnD Tryz.prog 8 [.l 13 (xs.map Rul.D),.i left] (.d (.i (szR (wtL dH xs) left))):=by
 have hww:wtL dH xs=xs.length+(xs.map dH).sum:=rfl
 refine ah Tryz.func8 (fun hw W0=>?_)
 have hl:=(wfM hw.1).1
 refine kgo ?_
 refine bt (fun h=>?_) (fun h=>?_)
 ·rw [szN (by omega)]
  refine kgo ?_
  exact aD
 refine kgo ?_
 refine aq [0] (fun x:Nat × Int=>x.1≤xs.length∧0≤x.2∧x.2=left - xs.length - (((xs.take x.1).map dH).sum:Nat)) (fun x=>xs.length - x.1) (fun x=>[(1,.sy (.d (.i x.2))),(5,.sy (.d (.i x.1)))]) (0,left - xs.length) ⟨Nat.zero_le _,by show 0≤left - (xs.length:Int);omega,by simp⟩ (fun x hx=>?_)
 obtain ⟨i,K⟩:=x
 obtain ⟨hi,hK0,hK⟩:=hx
 dsimp only at hi hK hK0 ⊢
 refine kgo ?_
 refine bt (fun h=>?_) (fun h=>?_)
 ·have hlt:i<xs.length:=by omega
  have hs:=lR dH xs i hlt
  have hle:=fN dH xs (i+1)
  have f:=C1 xs[i] K hK0 (by omega)
  by_cases hz:((dH xs[i]:Nat):Int)≤K
  ·rw [szP hz] at f
   refine kgo ?_
   refine bt (fun h=>?_) (fun h=>?_)
   ·omega
   refine kgo ?_
   exact af (i+1,K - (dH xs[i]:Nat)) ⟨hlt,by show 0≤K - ((dH xs[i]:Nat):Int);omega,by show K - ((dH xs[i]:Nat):Int)=left - xs.length - (((xs.take (i+1)).map dH).sum:Nat);omega⟩ (by show _ - (i+1)<_ - i;omega)
  rw [szN hz] at f
  rw [szN (by omega)]
  refine kgo ?_
  exact aD
 obtain rfl:i=xs.length:=by omega
 rw [List.take_length] at hK
 rw [szP (by omega),show left - ((wtL dH xs:Nat):Int)=K by omega]
 refine kgo ?_
 exact aD
end Go.Proofs.YtclpbhoekmecjaaGreatDoor
namespace Go.Proofs.YtclpbhoekmecjaaGreatDoor
open Go.RowKit
set_option linter.unusedVariables false
set_option maxRecDepth 100000
set_option maxHeartbeats 1000000
attribute [local irreducible] au Der At
theorem qg (xs:List Int) (hx:xs.length≤1048576):FnO Tryz.prog 51 [.l 1 (xs.map D.i)] [0] [.tk (.own (.l 1 (xs.map D.i)) none none)]:=by
 refine dz Tryz.func51 (fun hw W0=>?_)
 refine kgo ?_
 refine pP (n:=xs.length) (.i 0) ?_ rfl rfl (hb:=by show 8 * xs.length≤1000000000;omega)
 refine kgo ?_
 refine qZ (ds:=List.replicate xs.length (.i 0)) 10007 (fun d hd=>by rw [(List.mem_replicate.1 hd).2];exact ⟨rfl,rfl⟩) ?_
 refine aq [0,3,10007] (fun x:Nat × List D=>x.1≤xs.length∧x.2=sq D.i (.i 0) x.1 xs) (fun x=>xs.length - x.1) (fun x=>[(4,.sy (.d (.i x.1))),(10007,.tk (.own (.l 1 x.2) none none))]) (0,List.replicate xs.length (.i 0)) ⟨Nat.zero_le _,iT _ _ _⟩ (fun x hx=>?_)
 obtain ⟨i,ds⟩:=x
 obtain ⟨hi,hd⟩:=hx
 dsimp only at hi hd ⊢
 have hdl:=ke hi hd
 refine kgt ?_
 refine bt (fun h=>?_) (fun h=>?_)
 ·have hlt:i<xs.length:=by omega
  have hlt':i<ds.length:=by omega
  have he:=ml hlt hd
  refine kgt ?_
  refine ul i 0 (ds.set i (D.i xs[i])) he rfl ?_
  refine kgt ?_
  exact af (i+1,ds.set i (D.i xs[i])) ⟨hlt,iL hlt hd⟩ (by show _ - (i+1)<_ - i;omega)
 rw [kc (by omega) hd]
 refine kgt ?_
 exact ic (hp:=.cons (.k rfl rfl) .nil)
theorem tR (xs:List ByteArray) (hx:wtL gF xs≤1048576):FnO Tryz.prog 52 [.l 1 (xs.map D.s)] [0] [.tk (.own (.l 1 (xs.map D.s)) none none)]:=by
 refine dz Tryz.func52 (fun hw W0=>?_)
 have hxl:=gz gF xs
 refine kgo ?_
 refine pP (n:=xs.length) (.s ⟨#[]⟩) ?_ rfl rfl (hb:=by show 16 * xs.length≤1000000000;omega)
 refine kgo ?_
 refine qZ (ds:=List.replicate xs.length (.s ⟨#[]⟩)) 10007 (fun d hd=>by rw [(List.mem_replicate.1 hd).2];exact ⟨rfl,rfl⟩) ?_
 refine aq [0,3,10007] (fun x:Nat × List D=>x.1≤xs.length∧x.2=sq D.s (.s ⟨#[]⟩) x.1 xs) (fun x=>xs.length - x.1) (fun x=>[(4,.sy (.d (.i x.1))),(10007,.tk (.own (.l 1 x.2) none none))]) (0,List.replicate xs.length (.s ⟨#[]⟩)) ⟨Nat.zero_le _,iT _ _ _⟩ (fun x hx=>?_)
 obtain ⟨i,ds⟩:=x
 obtain ⟨hi,hd⟩:=hx
 dsimp only at hi hd ⊢
 have hdl:=ke hi hd
 refine kgt ?_
 refine bt (fun h=>?_) (fun h=>?_)
 ·have hlt:i<xs.length:=by omega
  have hlt':i<ds.length:=by omega
  have he:=ml hlt hd
  refine kgt ?_
  refine ul i 0 (ds.set i (D.s xs[i])) he rfl ?_
  refine kgt ?_
  exact af (i+1,ds.set i (D.s xs[i])) ⟨hlt,iL hlt hd⟩ (by show _ - (i+1)<_ - i;omega)
 rw [kc (by omega) hd]
 refine kgt ?_
 exact ic (hp:=.cons (.k rfl rfl) .nil)
theorem uy (x:Ctl):FnD Tryz.prog 48 [Ctl.D x] (.d (Ctl.D x)):=by
 refine ah Tryz.func48 (fun hw W0=>?_)
 refine kgo ?_
 exact aD
theorem ij (xs:List Ctl) (hx:wtL fL xs≤1048576):FnO Tryz.prog 12 [.l 3 (xs.map Ctl.D)] [0] [.tk (.own (.l 3 (xs.map Ctl.D)) none none)]:=by
 refine dz Tryz.func12 (fun hw W0=>?_)
 have hxl:=gz fL xs
 refine kgo ?_
 refine pP (n:=xs.length) (.t [.s ⟨#[]⟩,.i 0,.i 0]) ?_ rfl rfl (hb:=by show 32 * xs.length≤1000000000;omega)
 refine kgo ?_
 refine qZ (ds:=List.replicate xs.length (.t [.s ⟨#[]⟩,.i 0,.i 0])) 10007 (fun d hd=>by rw [(List.mem_replicate.1 hd).2];exact ⟨rfl,rfl⟩) ?_
 refine aq [0,3,10007] (fun x:Nat × List D=>x.1≤xs.length∧x.2=sq Ctl.D (.t [.s ⟨#[]⟩,.i 0,.i 0]) x.1 xs) (fun x=>xs.length - x.1) (fun x=>[(4,.sy (.d (.i x.1))),(10007,.tk (.own (.l 3 x.2) none none))]) (0,List.replicate xs.length (.t [.s ⟨#[]⟩,.i 0,.i 0])) ⟨Nat.zero_le _,iT _ _ _⟩ (fun x hx=>?_)
 obtain ⟨i,ds⟩:=x
 obtain ⟨hi,hd⟩:=hx
 dsimp only at hi hd ⊢
 have hdl:=ke hi hd
 refine kgt ?_
 refine bt (fun h=>?_) (fun h=>?_)
 ·have hlt:i<xs.length:=by omega
  have hlt':i<ds.length:=by omega
  have he:=ml hlt hd
  have f:=uy xs[i]
  refine kgt ?_
  exact af (i+1,ds.set i (Ctl.D xs[i])) ⟨hlt,iL hlt hd⟩ (by show _ - (i+1)<_ - i;omega)
 rw [kc (by omega) hd]
 refine kgt ?_
 exact ic (hp:=.cons (.k rfl rfl) .nil)
theorem Ca (x:Wr):FnD Tryz.prog 96 [Wr.D x] (.d (Wr.D x)):=by
 refine ah Tryz.func96 (fun hw W0=>?_)
 refine kgo ?_
 exact aD
theorem zH (xs:List Wr) (hx:wtL kN xs≤1048576):FnO Tryz.prog 53 [.l 2 (xs.map Wr.D)] [0] [.tk (.own (.l 2 (xs.map Wr.D)) none none)]:=by
 refine dz Tryz.func53 (fun hw W0=>?_)
 have hxl:=gz kN xs
 refine kgo ?_
 refine pP (n:=xs.length) (.t [.s ⟨#[]⟩,.i 0]) ?_ rfl rfl (hb:=by show 24 * xs.length≤1000000000;omega)
 refine kgo ?_
 refine qZ (ds:=List.replicate xs.length (.t [.s ⟨#[]⟩,.i 0])) 10007 (fun d hd=>by rw [(List.mem_replicate.1 hd).2];exact ⟨rfl,rfl⟩) ?_
 refine aq [0,3,10007] (fun x:Nat × List D=>x.1≤xs.length∧x.2=sq Wr.D (.t [.s ⟨#[]⟩,.i 0]) x.1 xs) (fun x=>xs.length - x.1) (fun x=>[(4,.sy (.d (.i x.1))),(10007,.tk (.own (.l 2 x.2) none none))]) (0,List.replicate xs.length (.t [.s ⟨#[]⟩,.i 0])) ⟨Nat.zero_le _,iT _ _ _⟩ (fun x hx=>?_)
 obtain ⟨i,ds⟩:=x
 obtain ⟨hi,hd⟩:=hx
 dsimp only at hi hd ⊢
 have hdl:=ke hi hd
 refine kgt ?_
 refine bt (fun h=>?_) (fun h=>?_)
 ·have hlt:i<xs.length:=by omega
  have hlt':i<ds.length:=by omega
  have he:=ml hlt hd
  have f:=Ca xs[i]
  refine kgt ?_
  exact af (i+1,ds.set i (Wr.D xs[i])) ⟨hlt,iL hlt hd⟩ (by show _ - (i+1)<_ - i;omega)
 rw [kc (by omega) hd]
 refine kgt ?_
 exact ic (hp:=.cons (.k rfl rfl) .nil)
theorem Cm (x:Nd) (hx:jl x≤1048576):FnO Tryz.prog 95 [Nd.D x] [3] [.d (.i x.control),.d (.i x.parent),.tk (.own (.l 1 (x.links.map D.i)) none none)]:=by
 have hww:jl x=(x.links).length:=rfl
 have flinks:=qg x.links (by omega)
 refine dz Tryz.func95 (fun hw W0=>?_)
 refine kgt ?_
 exact ic (hp:=.cons (.d rfl) (.cons (.d rfl) (.cons (.k rfl rfl) (.nil))))
theorem Av (xs:List Nd) (hx:wtL jl xs≤1048576):FnO Tryz.prog 50 [.l 3 (xs.map Nd.D)] [0] [.tk (.own (.l 3 (xs.map Nd.D)) none none)]:=by
 refine dz Tryz.func50 (fun hw W0=>?_)
 have hxl:=gz jl xs
 refine kgo ?_
 refine pP (n:=xs.length) (.t [.i 0,.i 0,.n 1]) ?_ rfl rfl (hb:=by show 40 * xs.length≤1000000000;omega)
 refine kgo ?_
 refine qZ (ds:=List.replicate xs.length (.t [.i 0,.i 0,.n 1])) 10007 (fun d hd=>by rw [(List.mem_replicate.1 hd).2];exact ⟨rfl,rfl⟩) ?_
 refine aq [0,3,10007] (fun x:Nat × List D=>x.1≤xs.length∧x.2=sq Nd.D (.t [.i 0,.i 0,.n 1]) x.1 xs) (fun x=>xs.length - x.1) (fun x=>[(4,.sy (.d (.i x.1))),(10007,.tk (.own (.l 3 x.2) none none))]) (0,List.replicate xs.length (.t [.i 0,.i 0,.n 1])) ⟨Nat.zero_le _,iT _ _ _⟩ (fun x hx=>?_)
 obtain ⟨i,ds⟩:=x
 obtain ⟨hi,hd⟩:=hx
 dsimp only at hi hd ⊢
 have hdl:=ke hi hd
 refine kgt ?_
 refine bt (fun h=>?_) (fun h=>?_)
 ·have hlt:i<xs.length:=by omega
  have hlt':i<ds.length:=by omega
  have he:=ml hlt hd
  have f:=Cm xs[i] (by have:=mK jl xs _ (List.getElem_mem hlt);omega)
  refine kgt ?_
  refine vt (Nd.D xs[i]) ?_
  refine kgt ?_
  exact af (i+1,ds.set i (Nd.D xs[i])) ⟨hlt,iL hlt hd⟩ (by show _ - (i+1)<_ - i;omega)
 rw [kc (by omega) hd]
 refine kgt ?_
 exact ic (hp:=.cons (.k rfl rfl) .nil)
theorem fA (x:Big) (hx:cT x≤1048576):FnO Tryz.prog 14 [Big.D x] [6] [.d (.i x.roots),.tk (.own (.l 3 (x.nodes.map Nd.D)) none none),.tk (.own (.l 1 (x.sites.map D.i)) none none),.d (.i x.edges),.tk (.own (.l 1 (x.outer.map D.s)) none none),.tk (.own (.l 2 (x.inner.map Wr.D)) none none)]:=by
 have hww:cT x=wtL jl x.nodes+(x.sites).length+wtL gF x.outer+wtL kN x.inner:=rfl
 have fnodes:=Av x.nodes (by omega)
 have fsites:=qg x.sites (by omega)
 have fouter:=tR x.outer (by omega)
 have finner:=zH x.inner (by omega)
 refine dz Tryz.func14 (fun hw W0=>?_)
 refine kgt ?_
 exact ic (hp:=.cons (.d rfl) (.cons (.k rfl rfl) (.cons (.k rfl rfl) (.cons (.d rfl) (.cons (.k rfl rfl) (.cons (.k rfl rfl) (.nil)))))))
theorem C5 (x:Rul) (hx:dH x≤1048576):FnO Tryz.prog 49 [Rul.D x] [13] [.d (.i x.redex.roots),.tk (.own (.l 3 (x.redex.nodes.map Nd.D)) none none),.tk (.own (.l 1 (x.redex.sites.map D.i)) none none),.d (.i x.redex.edges),.tk (.own (.l 1 (x.redex.outer.map D.s)) none none),.tk (.own (.l 2 (x.redex.inner.map Wr.D)) none none),.d (.i x.reactum.roots),.tk (.own (.l 3 (x.reactum.nodes.map Nd.D)) none none),.tk (.own (.l 1 (x.reactum.sites.map D.i)) none none),.d (.i x.reactum.edges),.tk (.own (.l 1 (x.reactum.outer.map D.s)) none none),.tk (.own (.l 2 (x.reactum.inner.map Wr.D)) none none),.tk (.own (.l 1 (x.copies.map D.i)) none none)]:=by
 have hww:dH x=cT x.redex+cT x.reactum+(x.copies).length:=rfl
 have fredex:=fA x.redex (by omega)
 have freactum:=fA x.reactum (by omega)
 have fcopies:=qg x.copies (by omega)
 refine dz Tryz.func49 (fun hw W0=>?_)
 refine kgt ?_
 exact ic (hp:=.cons (.d rfl) (.cons (.k rfl rfl) (.cons (.k rfl rfl) (.cons (.d rfl) (.cons (.k rfl rfl) (.cons (.k rfl rfl) (.cons (.d rfl) (.cons (.k rfl rfl) (.cons (.k rfl rfl) (.cons (.d rfl) (.cons (.k rfl rfl) (.cons (.k rfl rfl) (.cons (.k rfl rfl) (.nil))))))))))))))
theorem lW (xs:List Rul) (hx:wtL dH xs≤1048576):FnO Tryz.prog 13 [.l 13 (xs.map Rul.D)] [0] [.tk (.own (.l 13 (xs.map Rul.D)) none none)]:=by
 refine dz Tryz.func13 (fun hw W0=>?_)
 have hxl:=gz dH xs
 refine kgo ?_
 refine pP (n:=xs.length) (.t [.t [.i 0,.n 3,.n 1,.i 0,.n 1,.n 2],.t [.i 0,.n 3,.n 1,.i 0,.n 1,.n 2],.n 1]) ?_ rfl rfl (hb:=by show 248 * xs.length≤1000000000;omega)
 refine kgo ?_
 refine qZ (ds:=List.replicate xs.length (.t [.t [.i 0,.n 3,.n 1,.i 0,.n 1,.n 2],.t [.i 0,.n 3,.n 1,.i 0,.n 1,.n 2],.n 1])) 10007 (fun d hd=>by rw [(List.mem_replicate.1 hd).2];exact ⟨rfl,rfl⟩) ?_
 refine aq [0,3,10007] (fun x:Nat × List D=>x.1≤xs.length∧x.2=sq Rul.D (.t [.t [.i 0,.n 3,.n 1,.i 0,.n 1,.n 2],.t [.i 0,.n 3,.n 1,.i 0,.n 1,.n 2],.n 1]) x.1 xs) (fun x=>xs.length - x.1) (fun x=>[(4,.sy (.d (.i x.1))),(10007,.tk (.own (.l 13 x.2) none none))]) (0,List.replicate xs.length (.t [.t [.i 0,.n 3,.n 1,.i 0,.n 1,.n 2],.t [.i 0,.n 3,.n 1,.i 0,.n 1,.n 2],.n 1])) ⟨Nat.zero_le _,iT _ _ _⟩ (fun x hx=>?_)
 obtain ⟨i,ds⟩:=x
 obtain ⟨hi,hd⟩:=hx
 dsimp only at hi hd ⊢
 have hdl:=ke hi hd
 refine kgt ?_
 refine bt (fun h=>?_) (fun h=>?_)
 ·have hlt:i<xs.length:=by omega
  have hlt':i<ds.length:=by omega
  have he:=ml hlt hd
  have f:=C5 xs[i] (by have:=mK dH xs _ (List.getElem_mem hlt);omega)
  refine kgt ?_
  refine vt (Rul.D xs[i]) ?_
  refine kgt ?_
  exact af (i+1,ds.set i (Rul.D xs[i])) ⟨hlt,iL hlt hd⟩ (by show _ - (i+1)<_ - i;omega)
 rw [kc (by omega) hd]
 refine kgt ?_
 exact ic (hp:=.cons (.k rfl rfl) .nil)
end Go.Proofs.YtclpbhoekmecjaaGreatDoor
namespace Go.Proofs.YtclpbhoekmecjaaGreatDoor
open Go.RowKit
set_option linter.unusedVariables false
set_option maxRecDepth 100000
attribute [local irreducible] cnL wtL
theorem kh (sig:List Ctl) (rs:List Rul) (a:Big) (h:wtL fL sig+wtL dH rs+cT a≤1048576):cnL c3 sig+cnL fc rs+jJ a≤800000000:=by
 have h1:=gz fL sig
 have h2:=DC fc dH 4 (by omega) C3 rs
 have h3:=uD a
 rw [FS]
 omega
theorem DX:∀xs:List Nd,(∀x∈xs,x.links.length≤1000)→cnL cNd xs≤1002 * xs.length:=by
 intro xs
 induction xs with
 | nil=>intro _;simp [cnL]
 | cons x xs ih=>
  intro h
  have h1:=ih (fun y hy=>h y (by simp [hy]))
  have h2:=h x (by simp)
  have h3:cNd x=2+cnL c1 x.links:=rfl
  rw [jq] at h3
  rw [kv,List.length_cons]
  omega
theorem zV {b:Big} (h:rA b):jJ b≤10000:=by
 have e:jJ b=cnL cNd b.nodes+cnL c1 b.sites+cnL c1 b.outer+cnL c2 b.inner:=rfl
 have h1:=DX b.nodes (fun x hx=>by
  obtain ⟨i,hi,rfl⟩:=List.mem_iff_getElem.1 hx
  exact h.dims.links i hi)
 rw [jq,jq,zr] at e
 have:=h.nodes;have:=h.sitesN;have:=h.outer;have:=h.inner
 omega
theorem yc:jJ eU=0:=by
 show cnL cNd []+cnL c1 ([]:List Int)+cnL c1 ([]:List ByteArray)+cnL c2 ([]:List Wr)=0
 rw [jq,jq,zr];simp [cnL]
end Go.Proofs.YtclpbhoekmecjaaGreatDoor
namespace Go.Proofs.YtclpbhoekmecjaaGreatDoor
open Go.RowKit
set_option linter.unusedVariables false
set_option maxRecDepth 100000
set_option maxHeartbeats 2000000
attribute [local irreducible] au Der At jt mkL cnL mf
def FW:List D:=[.i 0,.t [.i 0,.i 0],.t [.i 0,.i 0,.i 0,.i 0,.i 0,.i 0]]
theorem Aq {w:World} {S:BS} (sh:List D) {ds es:List D} {v:Value} (hn:tc sh ds=some (es,[])) (h:DV w S (.t ds) v):DV w S (.t es) v:=by
 obtain ⟨cs,h2,h3⟩:=h
 obtain ⟨us,xs,e1,e2,e3⟩:=nD sh ds es [] cs hn h3
 cases (show xs = [] from e3)
 rw [List.append_nil] at e1
 exact ⟨us,by rw [h2,e1],e2⟩
def FY (s:Stp):Nat:=1+(cnL c1 s.mat.nodes+cnL c1 s.mat.roots)+lL s.res
def th (s:Stp):Nat:=na s.mat+jJ s.res
def eW (k:Int) (s:Stp):Stp:=⟨s.rule,CH k s.mat,sA (k+(na s.mat:Nat)) s.res⟩
abbrev Hw (s:Stp):List D:=[.i s.rule,DI s.mat.nodes,DI s.mat.roots,.i s.res.roots,.l 3 (s.res.nodes.map Nd.D),DI s.res.sites,.i s.res.edges,DS s.res.outer,.l 2 (s.res.inner.map Wr.D)]
theorem CS (x:Stp):FnD Tryz.prog 28 [Stp.D x,Stp.D x] (.d (.b true)):=by
 have fmat:=yV x.mat
 have fres:=iX x.res
 refine ah Tryz.func28 (fun hw W0=>?_)
 refine kgo ?_
 refine lV (fun h=>absurd rfl h) (fun _=>?_)
 refine kgo ?_
 exact aD
theorem oJ (x:Stp):FnD Tryz.prog 28 [.t (Hw x),Stp.D x] (.d (.b true)):=(CS x).arg (fun w F vs hv=>by
 obtain ⟨v1,t1,rfl,h1,v2,t2,rfl,h2,h3⟩:=hv
 exact ⟨v1,_,rfl,Aq FW rfl h1,v2,_,rfl,h2,h3⟩)
theorem AJ (s:Stp) (b:Bool):∀p∈GV s++[.d (.b b)],EF p:=fun p hp=>by
 simp only [GV,List.cons_append,List.nil_append,List.mem_cons,List.not_mem_nil,or_false] at hp
 rcases hp with rfl|rfl|rfl|rfl|rfl|rfl|rfl|rfl|rfl|rfl <;> first|trivial|rfl
def xv (sig:List Ctl) (s:Stp):Prop:=s.mat.nodes.length≤1000∧s.mat.roots.length≤1000∧gQ sig s.res=true
theorem An {sig:List Ctl} {r a:Big} {m:Mat} (hr:ay sig r=true) (h:dO r a m=true):m.nodes.length≤1000∧m.roots.length≤1000:=by
 have h1:=(iB (cK h).1).len
 have h2:=(bD hr).nodes
 have h3:=iN (rs:=m.roots) (ns:=m.nodes) (cK h).2.1
 have h4:=aN hr
 omega
theorem zG {sig:List Ctl} {r:Rul} {a:Big} {k:Int} (hr:ay sig r.redex=true):∀(ms:List Mat) (out l:List Stp),(∀m∈ms,dO r.redex a m=true)→(∀s∈out,xv sig s)→iu sig r a k ms out=some l→(∀s∈l,xv sig s)∧l.length≤out.length+ms.length:=by
 intro ms
 induction ms with
 | nil=>intro out l _ ho h;cases h;exact ⟨ho,Nat.le_refl _⟩
 | cons m ms ih=>
  intro out l hm ho h
  have hm1:=fun x hx=>hm x (List.mem_cons_of_mem _ hx)
  unfold iu at h
  split at h
  ·split at h
   ·rename_i h2
    obtain ⟨q1,q2⟩:=ih _ l hm1 (fun s hs=>by
     rcases List.mem_append.1 hs with hs|hs
     ·exact ho s hs
     ·rw [List.mem_singleton.1 hs]
      obtain ⟨m1,m2⟩:=An hr (hm m (by simp))
      exact ⟨m1,m2,vi h2⟩) h
    exact ⟨q1,by simp at q2 ⊢;omega⟩
   ·cases h
  ·obtain ⟨q1,q2⟩:=ih out l hm1 ho h
   exact ⟨q1,by simp;omega⟩
theorem yM {sig:List Ctl} {a:Big}:∀(rs:List Rul) (k:Nat) (out l:List Stp),(∀r∈rs,ay sig r.redex=true)→(∀s∈out,xv sig s)→eF sig a rs k out=some l→(∀s∈l,xv sig s)∧l.length≤out.length+400 * rs.length:=by
 intro rs
 induction rs with
 | nil=>intro k out l _ ho h;cases h;exact ⟨ho,Nat.le_refl _⟩
 | cons r rs ih=>
  intro k out l hr ho h
  unfold eF at h
  split at h
  ·cases h
  ·rename_i hn
   cases hm:iu sig r a k (pl r.redex a) out with
   | none=>rw [hm] at h;cases h
   | some o=>
    rw [hm] at h
    obtain ⟨q1,q2⟩:=zG (hr r (by simp)) _ out o (fun m hx=>mM m hx) ho hm
    obtain ⟨q3,q4⟩:=ih (k+1) o l (fun r' h'=>hr r' (List.mem_cons_of_mem _ h')) q1 h
    exact ⟨q3,by simp;omega⟩
theorem zU (sig:List Ctl) (rs:List Rul) (a:Big):(∀s∈(il sig rs a).1,xv sig s)∧(il sig rs a).1.length≤2400:=by
 unfold il
 split
 ·rename_i h
  rw [Bool.and_eq_true] at h
  have hrs:=List.all_eq_true.1 (Bool.and_eq_true_iff.1 h.1).2
  have hrl:=bT (Bool.and_eq_true_iff.1 h.1).1
  cases hs:eF sig a rs 0 [] with
  | none=>exact ⟨fun s hs=>(by cases hs),by show (0:Nat)≤_;omega⟩
  | some l=>
   obtain ⟨q1,q2⟩:=yM rs 0 [] l (fun r hr=>(gO (hrs r hr)).1) (fun s hs=>by cases hs) hs
   exact ⟨q1,by show l.length≤_;simp at q2;omega⟩
 ·exact ⟨fun s hs=>(by cases hs),by show (0:Nat)≤_;omega⟩
theorem Cz {sig:List Ctl} {s:Stp} (h:xv sig s):FY s≤20000∧th s≤20000:=by
 obtain ⟨h1,h2,h3⟩:=h
 have h4:=zV (dC (ot h3))
 have e1:FY s=1+(cnL c1 s.mat.nodes+cnL c1 s.mat.roots)+(jJ s.res+2):=rfl
 have e2:th s=cnL c1 s.mat.nodes+cnL c1 s.mat.roots+jJ s.res:=rfl
 rw [jq,jq] at e1 e2
 omega
theorem yL (sig:List Ctl) (rs:List Rul) (a:Big):th (ai sig rs a).1≤20000:=by
 obtain ⟨h1,_⟩:=zU sig rs a
 have h0:th GW≤20000:=by
  show cnL c1 ([]:List Int)+cnL c1 ([]:List Int)+jJ eU≤20000
  rw [jq,yc];simp
 unfold ai
 split
 ·cases hl:(il sig rs a).1 with
  | nil=>exact h0
  | cons s l=>exact (Cz (h1 s (by rw [hl];simp))).2
 ·exact h0
theorem tU (m:Mat) (k:Int) (h0:0≤k) (h1:k+na m≤1000000000):Gd Tryz.prog 80 [DI m.nodes,DI m.roots] [DI (CH k m).nodes,DI (CH k m).roots] k (k+na m):=by
 have e:na m=cnL c1 m.nodes+cnL c1 m.roots:=rfl
 have f1:=fI m.nodes k h0 (by omega)
 have f2:=fI m.roots (k+(cnL c1 m.nodes:Nat)) (by omega) (by omega)
 rw [show k+(na m:Int)=k+(cnL c1 m.nodes:Nat)+(cnL c1 m.roots:Nat) by omega]
 refine tJ Tryz.func80 (Ck h0 (by omega)) (fun W0 V T=>?_)
 refine kgl ?_
 exact EO
theorem xW (s:Stp) (k:Int) (h0:0≤k) (h1:k+th s≤1000000000):Gd Tryz.prog 29 [.i s.rule,DI s.mat.nodes,DI s.mat.roots,.i s.res.roots,.l 3 (s.res.nodes.map Nd.D),DI s.res.sites,.i s.res.edges,.l 1 (s.res.outer.map D.s),.l 2 (s.res.inner.map Wr.D)] [.i (eW k s).rule,DI (eW k s).mat.nodes,DI (eW k s).mat.roots,.i (eW k s).res.roots,.l 3 ((eW k s).res.nodes.map Nd.D),DI (eW k s).res.sites,.i (eW k s).res.edges,.l 1 ((eW k s).res.outer.map D.s),.l 2 ((eW k s).res.inner.map Wr.D)] k (k+th s):=by
 have e:th s=na s.mat+jJ s.res:=rfl
 have f1:=tU s.mat k h0 (by omega)
 have f2:=lE s.res (k+(na s.mat:Nat)) (by omega) (by omega)
 rw [show k+(th s:Int)=k+(na s.mat:Nat)+(jJ s.res:Nat) by omega]
 refine tJ Tryz.func29 (Ck h0 (by omega)) (fun W0 V T=>?_)
 refine kgl ?_
 refine Bf ?_
 refine kgl ?_
 refine kT ?_
 refine kgl ?_
 refine Bf ?_
 refine kgl ?_
 refine kT ?_
 refine kgl ?_
 exact EO
theorem uA (m:Mat) (k:Int) (h0:0≤k) (h1:k+na m≤1000000000):FnD Tryz.prog 81 [(CH k m).D,.i k] (.d (.i (k+na m))):=by
 have e:na m=cnL c1 m.nodes+cnL c1 m.roots:=rfl
 have f1:=kr m.nodes k h0 (by omega)
 have f2:=kr m.roots (k+(cnL c1 m.nodes:Nat)) (by omega) (by omega)
 rw [show k+(na m:Int)=k+(cnL c1 m.nodes:Nat)+(cnL c1 m.roots:Nat) by omega]
 refine ah Tryz.func81 (fun hw W0=>?_)
 refine kgo ?_
 refine bt (fun h=>?_) (fun _=>?_)
 ·omega
 refine kgo ?_
 refine bt (fun h=>?_) (fun _=>?_)
 ·omega
 refine kgo ?_
 exact aD
theorem uU (s:Stp) (k:Int) (h0:0≤k) (h1:k+th s≤1000000000):FnD Tryz.prog 30 [(eW k s).D,.i k] (.d (.i (k+th s))):=by
 have e:th s=na s.mat+jJ s.res:=rfl
 have f1:=uA s.mat k h0 (by omega)
 have f2:=qO s.res (k+(na s.mat:Nat)) (by omega) (by omega)
 rw [show k+(th s:Int)=k+(na s.mat:Nat)+(jJ s.res:Nat) by omega]
 refine ah Tryz.func30 (fun hw W0=>?_)
 refine kgo ?_
 refine bt (fun h=>?_) (fun _=>?_)
 ·omega
 refine kgo ?_
 refine bt (fun h=>?_) (fun _=>?_)
 ·omega
 refine kgo ?_
 exact aD
theorem pV (s:Stp) (k:Int) (h0:0≤k) (h1:k+th s≤1000000000):FnD Tryz.prog 30 [.t (Hw (eW k s)),.i k] (.d (.i (k+th s))):=(uU s k h0 h1).arg (fun w F vs hv=>by
 obtain ⟨v1,t1,rfl,h1,h3⟩:=hv
 exact ⟨v1,_,rfl,Aq FW rfl h1,h3⟩)
end Go.Proofs.YtclpbhoekmecjaaGreatDoor
