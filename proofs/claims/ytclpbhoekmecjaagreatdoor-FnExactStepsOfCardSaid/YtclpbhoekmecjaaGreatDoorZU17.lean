/-
  Proved facts that the law leans on.
-/
import Derived.Test.YtclpbhoekmecjaaGreatDoorZU14
import Derived.Test.YtclpbhoekmecjaaGreatDoorZU16
namespace Go.Proofs.YtclpbhoekmecjaaGreatDoor
open Go.RowKit
set_option linter.unusedVariables false
set_option maxRecDepth 100000
set_option maxHeartbeats 1000000
attribute [local irreducible] aq Der At
theorem szP {n:Nat} {l:Int} (h:(n:Int)≤l):szR n l=l - n:=if_pos h
theorem szN {n:Nat} {l:Int} (h:¬(n:Int)≤l):szR n l = -1:=if_neg h
attribute [local irreducible] szR
theorem rA (xs:List Int) (left:Int) (h0:0≤left) (h1:left≤1048576):FnD Tryz.prog 42 [.l 1 (xs.map D.i),.i left] (.d (.i (szR xs.length left))):=by
 refine ah Tryz.func42 (fun hw W0=>?_)
 have hl:=(wfM hw.1).1
 refine kgo ?_
 refine aO (fun h=>?_) (fun h=>?_)
 ·rw [szN (by omega)]
  refine kgo ?_
  exact ar
 rw [szP (by omega)]
 refine kgo ?_
 exact ar
theorem we (xs:List ByteArray) (left:Int) (h0:0≤left) (h1:left≤1048576):FnD Tryz.prog 43 [.l 1 (xs.map D.s),.i left] (.d (.i (szR (wtL fS xs) left))):=by
 have hww:wtL fS xs=xs.length+(xs.map fS).sum:=rfl
 refine ah Tryz.func43 (fun hw W0=>?_)
 have hl:=(wfM hw.1).1
 refine kgo ?_
 refine aO (fun h=>?_) (fun h=>?_)
 ·rw [szN (by omega)]
  refine kgo ?_
  exact ar
 refine kgo ?_
 refine aj [0] (fun x:Nat × Int=>x.1≤xs.length∧0≤x.2∧x.2=left - xs.length - (((xs.take x.1).map fS).sum:Nat)) (fun x=>xs.length - x.1) (fun x=>[(1,.sy (.d (.i x.2))),(5,.sy (.d (.i x.1)))]) (0,left - xs.length) ⟨Nat.zero_le _,by show 0≤left - (xs.length:Int);omega,by simp⟩ (fun x hx=>?_)
 obtain ⟨i,K⟩:=x
 obtain ⟨hi,hK0,hK⟩:=hx
 dsimp only at hi hK hK0 ⊢
 refine kgo ?_
 refine aO (fun h=>?_) (fun h=>?_)
 ·have hlt:i<xs.length:=by omega
  have hs:=lT fS xs i hlt
  have hle:=gi fS xs (i+1)
  have hx:fS xs[i]=(xs[i]).size:=rfl
  have hz:=hw.1.2.at _ (List.mem_map.2 ⟨xs[i],List.getElem_mem hlt,rfl⟩)
  have hz':(xs[i]).size≤9223372036854775807:=hz
  refine kgo ?_
  refine bS (e:=0) ?_
  refine kgo ?_
  refine aO (fun h=>?_) (fun h=>?_)
  ·rw [szN (by omega)]
   refine kgo ?_
   exact ar
  refine kgo ?_
  exact af (i+1,K - ((xs[i]).size:Nat)) ⟨hlt,by show 0≤K - ((xs[i]).size:Int);omega,by show K - ((xs[i]).size:Int)=left - xs.length - (((xs.take (i+1)).map fS).sum:Nat);omega⟩ (by show _ - (i+1)<_ - i;omega)
 obtain rfl:i=xs.length:=by omega
 rw [List.take_length] at hK
 rw [szP (by omega),show left - ((wtL fS xs:Nat):Int)=K by omega]
 refine kgo ?_
 exact ar
theorem vP (x:Ctl) (left:Int) (h0:0≤left) (h1:left≤1048576):FnD Tryz.prog 39 [Ctl.D x,.i left] (.d (.i (szR (eB x) left))):=by
 have hww:eB x=(x.name).size:=rfl
 refine ah Tryz.func39 (fun hw W0=>?_)
 have hz:(x.name).size≤9223372036854775807:=hw.1.1
 refine kgo ?_
 refine bS (e:=0) ?_
 refine kgo ?_
 refine aO (fun h=>?_) (fun h=>?_)
 ·rw [szN (by omega)]
  refine kgo ?_
  exact ar
 rw [szP (by omega),show left - ((eB x:Nat):Int)=left - ((x.name).size:Nat) by omega]
 refine kgo ?_
 exact ar
theorem nI (xs:List Ctl) (left:Int) (h0:0≤left) (h1:left≤1048576):FnD Tryz.prog 7 [.l 3 (xs.map Ctl.D),.i left] (.d (.i (szR (wtL eB xs) left))):=by
 have hww:wtL eB xs=xs.length+(xs.map eB).sum:=rfl
 refine ah Tryz.func7 (fun hw W0=>?_)
 have hl:=(wfM hw.1).1
 refine kgo ?_
 refine aO (fun h=>?_) (fun h=>?_)
 ·rw [szN (by omega)]
  refine kgo ?_
  exact ar
 refine kgo ?_
 refine aj [0] (fun x:Nat × Int=>x.1≤xs.length∧0≤x.2∧x.2=left - xs.length - (((xs.take x.1).map eB).sum:Nat)) (fun x=>xs.length - x.1) (fun x=>[(1,.sy (.d (.i x.2))),(5,.sy (.d (.i x.1)))]) (0,left - xs.length) ⟨Nat.zero_le _,by show 0≤left - (xs.length:Int);omega,by simp⟩ (fun x hx=>?_)
 obtain ⟨i,K⟩:=x
 obtain ⟨hi,hK0,hK⟩:=hx
 dsimp only at hi hK hK0 ⊢
 refine kgo ?_
 refine aO (fun h=>?_) (fun h=>?_)
 ·have hlt:i<xs.length:=by omega
  have hs:=lT eB xs i hlt
  have hle:=gi eB xs (i+1)
  have f:=vP xs[i] K hK0 (by omega)
  by_cases hz:((eB xs[i]:Nat):Int)≤K
  ·rw [szP hz] at f
   refine kgo ?_
   refine aO (fun h=>?_) (fun h=>?_)
   ·omega
   refine kgo ?_
   exact af (i+1,K - (eB xs[i]:Nat)) ⟨hlt,by show 0≤K - ((eB xs[i]:Nat):Int);omega,by show K - ((eB xs[i]:Nat):Int)=left - xs.length - (((xs.take (i+1)).map eB).sum:Nat);omega⟩ (by show _ - (i+1)<_ - i;omega)
  rw [szN hz] at f
  rw [szN (by omega)]
  refine kgo ?_
  exact ar
 obtain rfl:i=xs.length:=by omega
 rw [List.take_length] at hK
 rw [szP (by omega),show left - ((wtL eB xs:Nat):Int)=K by omega]
 refine kgo ?_
 exact ar
theorem CZ (x:Wr) (left:Int) (h0:0≤left) (h1:left≤1048576):FnD Tryz.prog 90 [Wr.D x,.i left] (.d (.i (szR (jm x) left))):=by
 have hww:jm x=(x.name).size:=rfl
 refine ah Tryz.func90 (fun hw W0=>?_)
 have hz:(x.name).size≤9223372036854775807:=hw.1.1
 refine kgo ?_
 refine bS (e:=0) ?_
 refine kgo ?_
 refine aO (fun h=>?_) (fun h=>?_)
 ·rw [szN (by omega)]
  refine kgo ?_
  exact ar
 rw [szP (by omega),show left - ((jm x:Nat):Int)=left - ((x.name).size:Nat) by omega]
 refine kgo ?_
 exact ar
theorem Bz (xs:List Wr) (left:Int) (h0:0≤left) (h1:left≤1048576):FnD Tryz.prog 44 [.l 2 (xs.map Wr.D),.i left] (.d (.i (szR (wtL jm xs) left))):=by
 have hww:wtL jm xs=xs.length+(xs.map jm).sum:=rfl
 refine ah Tryz.func44 (fun hw W0=>?_)
 have hl:=(wfM hw.1).1
 refine kgo ?_
 refine aO (fun h=>?_) (fun h=>?_)
 ·rw [szN (by omega)]
  refine kgo ?_
  exact ar
 refine kgo ?_
 refine aj [0] (fun x:Nat × Int=>x.1≤xs.length∧0≤x.2∧x.2=left - xs.length - (((xs.take x.1).map jm).sum:Nat)) (fun x=>xs.length - x.1) (fun x=>[(1,.sy (.d (.i x.2))),(5,.sy (.d (.i x.1)))]) (0,left - xs.length) ⟨Nat.zero_le _,by show 0≤left - (xs.length:Int);omega,by simp⟩ (fun x hx=>?_)
 obtain ⟨i,K⟩:=x
 obtain ⟨hi,hK0,hK⟩:=hx
 dsimp only at hi hK hK0 ⊢
 refine kgo ?_
 refine aO (fun h=>?_) (fun h=>?_)
 ·have hlt:i<xs.length:=by omega
  have hs:=lT jm xs i hlt
  have hle:=gi jm xs (i+1)
  have f:=CZ xs[i] K hK0 (by omega)
  by_cases hz:((jm xs[i]:Nat):Int)≤K
  ·rw [szP hz] at f
   refine kgo ?_
   refine aO (fun h=>?_) (fun h=>?_)
   ·omega
   refine kgo ?_
   exact af (i+1,K - (jm xs[i]:Nat)) ⟨hlt,by show 0≤K - ((jm xs[i]:Nat):Int);omega,by show K - ((jm xs[i]:Nat):Int)=left - xs.length - (((xs.take (i+1)).map jm).sum:Nat);omega⟩ (by show _ - (i+1)<_ - i;omega)
  rw [szN hz] at f
  rw [szN (by omega)]
  refine kgo ?_
  exact ar
 obtain rfl:i=xs.length:=by omega
 rw [List.take_length] at hK
 rw [szP (by omega),show left - ((wtL jm xs:Nat):Int)=K by omega]
 refine kgo ?_
 exact ar
theorem B9 (x:Nd) (left:Int) (h0:0≤left) (h1:left≤1048576):FnD Tryz.prog 89 [Nd.D x,.i left] (.d (.i (szR (i6 x) left))):=by
 have hww:i6 x=(x.links).length:=rfl
 refine ah Tryz.func89 (fun hw W0=>?_)
 have flinks:=rA x.links (left) (by omega) (by omega)
 by_cases hlinks:(((x.links).length:Nat):Int)≤left
 rotate_left
 ·rw [szN hlinks] at flinks
  rw [szN (by omega)]
  refine kgo ?_
  exact ar
 rw [szP hlinks] at flinks
 refine kgo ?_
 refine aO (fun h=>?_) (fun h=>?_)
 ·omega
 rw [szP (by omega),show left - ((i6 x:Nat):Int)=left - ((x.links).length:Nat) by omega]
 refine kgo ?_
 exact ar
theorem AO (xs:List Nd) (left:Int) (h0:0≤left) (h1:left≤1048576):FnD Tryz.prog 41 [.l 3 (xs.map Nd.D),.i left] (.d (.i (szR (wtL i6 xs) left))):=by
 have hww:wtL i6 xs=xs.length+(xs.map i6).sum:=rfl
 refine ah Tryz.func41 (fun hw W0=>?_)
 have hl:=(wfM hw.1).1
 refine kgo ?_
 refine aO (fun h=>?_) (fun h=>?_)
 ·rw [szN (by omega)]
  refine kgo ?_
  exact ar
 refine kgo ?_
 refine aj [0] (fun x:Nat × Int=>x.1≤xs.length∧0≤x.2∧x.2=left - xs.length - (((xs.take x.1).map i6).sum:Nat)) (fun x=>xs.length - x.1) (fun x=>[(1,.sy (.d (.i x.2))),(5,.sy (.d (.i x.1)))]) (0,left - xs.length) ⟨Nat.zero_le _,by show 0≤left - (xs.length:Int);omega,by simp⟩ (fun x hx=>?_)
 obtain ⟨i,K⟩:=x
 obtain ⟨hi,hK0,hK⟩:=hx
 dsimp only at hi hK hK0 ⊢
 refine kgo ?_
 refine aO (fun h=>?_) (fun h=>?_)
 ·have hlt:i<xs.length:=by omega
  have hs:=lT i6 xs i hlt
  have hle:=gi i6 xs (i+1)
  have f:=B9 xs[i] K hK0 (by omega)
  by_cases hz:((i6 xs[i]:Nat):Int)≤K
  ·rw [szP hz] at f
   refine kgo ?_
   refine aO (fun h=>?_) (fun h=>?_)
   ·omega
   refine kgo ?_
   exact af (i+1,K - (i6 xs[i]:Nat)) ⟨hlt,by show 0≤K - ((i6 xs[i]:Nat):Int);omega,by show K - ((i6 xs[i]:Nat):Int)=left - xs.length - (((xs.take (i+1)).map i6).sum:Nat);omega⟩ (by show _ - (i+1)<_ - i;omega)
  rw [szN hz] at f
  rw [szN (by omega)]
  refine kgo ?_
  exact ar
 obtain rfl:i=xs.length:=by omega
 rw [List.take_length] at hK
 rw [szP (by omega),show left - ((wtL i6 xs:Nat):Int)=K by omega]
 refine kgo ?_
 exact ar
theorem jp (x:Big) (left:Int) (h0:0≤left) (h1:left≤1048576):FnD Tryz.prog 9 [Big.D x,.i left] (.d (.i (szR (bG x) left))):=by
 have hww:bG x=wtL i6 x.nodes+(x.sites).length+wtL fS x.outer+wtL jm x.inner:=rfl
 refine ah Tryz.func9 (fun hw W0=>?_)
 have fnodes:=AO x.nodes (left) (by omega) (by omega)
 by_cases hnodes:((wtL i6 x.nodes:Nat):Int)≤left
 rotate_left
 ·rw [szN hnodes] at fnodes
  rw [szN (by omega)]
  refine kgo ?_
  exact ar
 rw [szP hnodes] at fnodes
 refine kgo ?_
 refine aO (fun h=>?_) (fun h=>?_)
 ·omega
 have fsites:=rA x.sites (left - (wtL i6 x.nodes:Nat)) (by omega) (by omega)
 by_cases hsites:(((x.sites).length:Nat):Int)≤left - (wtL i6 x.nodes:Nat)
 rotate_left
 ·rw [szN hsites] at fsites
  rw [szN (by omega)]
  refine kgo ?_
  exact ar
 rw [szP hsites] at fsites
 refine kgo ?_
 refine aO (fun h=>?_) (fun h=>?_)
 ·omega
 have fouter:=we x.outer (left - (wtL i6 x.nodes:Nat) - ((x.sites).length:Nat)) (by omega) (by omega)
 by_cases houter:((wtL fS x.outer:Nat):Int)≤left - (wtL i6 x.nodes:Nat) - ((x.sites).length:Nat)
 rotate_left
 ·rw [szN houter] at fouter
  rw [szN (by omega)]
  refine kgo ?_
  exact ar
 rw [szP houter] at fouter
 refine kgo ?_
 refine aO (fun h=>?_) (fun h=>?_)
 ·omega
 have finner:=Bz x.inner (left - (wtL i6 x.nodes:Nat) - ((x.sites).length:Nat) - (wtL fS x.outer:Nat)) (by omega) (by omega)
 by_cases hinner:((wtL jm x.inner:Nat):Int)≤left - (wtL i6 x.nodes:Nat) - ((x.sites).length:Nat) - (wtL fS x.outer:Nat)
 rotate_left
 ·rw [szN hinner] at finner
  rw [szN (by omega)]
  refine kgo ?_
  exact ar
 rw [szP hinner] at finner
 refine kgo ?_
 refine aO (fun h=>?_) (fun h=>?_)
 ·omega
 rw [szP (by omega),show left - ((bG x:Nat):Int)=left - (wtL i6 x.nodes:Nat) - ((x.sites).length:Nat) - (wtL fS x.outer:Nat) - (wtL jm x.inner:Nat) by omega]
 refine kgo ?_
 exact ar
theorem DK (x:Rul) (left:Int) (h0:0≤left) (h1:left≤1048576):FnD Tryz.prog 40 [Rul.D x,.i left] (.d (.i (szR (cQ x) left))):=by
 have hww:cQ x=bG x.redex+bG x.reactum+(x.copies).length:=rfl
 refine ah Tryz.func40 (fun hw W0=>?_)
 have fredex:=jp x.redex (left) (by omega) (by omega)
 by_cases hredex:((bG x.redex:Nat):Int)≤left
 rotate_left
 ·rw [szN hredex] at fredex
  rw [szN (by omega)]
  refine kgo ?_
  exact ar
 rw [szP hredex] at fredex
 refine kgo ?_
 refine aO (fun h=>?_) (fun h=>?_)
 ·omega
 have freactum:=jp x.reactum (left - (bG x.redex:Nat)) (by omega) (by omega)
 by_cases hreactum:((bG x.reactum:Nat):Int)≤left - (bG x.redex:Nat)
 rotate_left
 ·rw [szN hreactum] at freactum
  rw [szN (by omega)]
  refine kgo ?_
  exact ar
 rw [szP hreactum] at freactum
 refine kgo ?_
 refine aO (fun h=>?_) (fun h=>?_)
 ·omega
 have fcopies:=rA x.copies (left - (bG x.redex:Nat) - (bG x.reactum:Nat)) (by omega) (by omega)
 by_cases hcopies:(((x.copies).length:Nat):Int)≤left - (bG x.redex:Nat) - (bG x.reactum:Nat)
 rotate_left
 ·rw [szN hcopies] at fcopies
  rw [szN (by omega)]
  refine kgo ?_
  exact ar
 rw [szP hcopies] at fcopies
 refine kgo ?_
 refine aO (fun h=>?_) (fun h=>?_)
 ·omega
 rw [szP (by omega),show left - ((cQ x:Nat):Int)=left - (bG x.redex:Nat) - (bG x.reactum:Nat) - ((x.copies).length:Nat) by omega]
 refine kgo ?_
 exact ar
theorem tC (xs:List Rul) (left:Int) (h0:0≤left) (h1:left≤1048576):FnD Tryz.prog 8 [.l 13 (xs.map Rul.D),.i left] (.d (.i (szR (wtL cQ xs) left))):=by
 have hww:wtL cQ xs=xs.length+(xs.map cQ).sum:=rfl
 refine ah Tryz.func8 (fun hw W0=>?_)
 have hl:=(wfM hw.1).1
 refine kgo ?_
 refine aO (fun h=>?_) (fun h=>?_)
 ·rw [szN (by omega)]
  refine kgo ?_
  exact ar
 refine kgo ?_
 refine aj [0] (fun x:Nat × Int=>x.1≤xs.length∧0≤x.2∧x.2=left - xs.length - (((xs.take x.1).map cQ).sum:Nat)) (fun x=>xs.length - x.1) (fun x=>[(1,.sy (.d (.i x.2))),(5,.sy (.d (.i x.1)))]) (0,left - xs.length) ⟨Nat.zero_le _,by show 0≤left - (xs.length:Int);omega,by simp⟩ (fun x hx=>?_)
 obtain ⟨i,K⟩:=x
 obtain ⟨hi,hK0,hK⟩:=hx
 dsimp only at hi hK hK0 ⊢
 refine kgo ?_
 refine aO (fun h=>?_) (fun h=>?_)
 ·have hlt:i<xs.length:=by omega
  have hs:=lT cQ xs i hlt
  have hle:=gi cQ xs (i+1)
  have f:=DK xs[i] K hK0 (by omega)
  by_cases hz:((cQ xs[i]:Nat):Int)≤K
  ·rw [szP hz] at f
   refine kgo ?_
   refine aO (fun h=>?_) (fun h=>?_)
   ·omega
   refine kgo ?_
   exact af (i+1,K - (cQ xs[i]:Nat)) ⟨hlt,by show 0≤K - ((cQ xs[i]:Nat):Int);omega,by show K - ((cQ xs[i]:Nat):Int)=left - xs.length - (((xs.take (i+1)).map cQ).sum:Nat);omega⟩ (by show _ - (i+1)<_ - i;omega)
  rw [szN hz] at f
  rw [szN (by omega)]
  refine kgo ?_
  exact ar
 obtain rfl:i=xs.length:=by omega
 rw [List.take_length] at hK
 rw [szP (by omega),show left - ((wtL cQ xs:Nat):Int)=K by omega]
 refine kgo ?_
 exact ar
end Go.Proofs.YtclpbhoekmecjaaGreatDoor
namespace Go.Proofs.YtclpbhoekmecjaaGreatDoor
open Go.RowKit
set_option linter.unusedVariables false
set_option maxRecDepth 100000
set_option maxHeartbeats 1000000
attribute [local irreducible] aq Der At
theorem qC (xs:List Int) (hx:xs.length≤1048576):FnO Tryz.prog 51 [.l 1 (xs.map D.i)] [0] [.tk (.own (.l 1 (xs.map D.i)) none none)]:=by
 refine dH Tryz.func51 (fun hw W0=>?_)
 refine kgo ?_
 refine oz (n:=xs.length) (.i 0) ?_ rfl rfl (hb:=by show 8 * xs.length≤1000000000;omega)
 refine kgo ?_
 refine mZ (ds:=List.replicate xs.length (.i 0)) 10007 (fun d hd=>by rw [(List.mem_replicate.1 hd).2];exact ⟨rfl,rfl⟩) ?_
 refine aj [0,3,10007] (fun x:Nat × List D=>x.1≤xs.length∧x.2=sX D.i (.i 0) x.1 xs) (fun x=>xs.length - x.1) (fun x=>[(4,.sy (.d (.i x.1))),(10007,.tk (.own (.l 1 x.2) none none))]) (0,List.replicate xs.length (.i 0)) ⟨Nat.zero_le _,jd _ _ _⟩ (fun x hx=>?_)
 obtain ⟨i,ds⟩:=x
 obtain ⟨hi,hd⟩:=hx
 dsimp only at hi hd ⊢
 have hdl:=kQ hi hd
 refine kgt ?_
 refine aO (fun h=>?_) (fun h=>?_)
 ·have hlt:i<xs.length:=by omega
  have hlt':i<ds.length:=by omega
  have he:=mO hlt hd
  refine kgt ?_
  refine vT i 0 (ds.set i (D.i xs[i])) he rfl ?_
  refine kgt ?_
  exact af (i+1,ds.set i (D.i xs[i])) ⟨hlt,ja hlt hd⟩ (by show _ - (i+1)<_ - i;omega)
 rw [kF (by omega) hd]
 refine kgt ?_
 exact g6 (hp:=.cons (.k rfl rfl) .nil)
theorem vm (xs:List ByteArray) (hx:wtL fS xs≤1048576):FnO Tryz.prog 52 [.l 1 (xs.map D.s)] [0] [.tk (.own (.l 1 (xs.map D.s)) none none)]:=by
 refine dH Tryz.func52 (fun hw W0=>?_)
 have hxl:=eR fS xs
 refine kgo ?_
 refine oz (n:=xs.length) (.s ⟨#[]⟩) ?_ rfl rfl (hb:=by show 16 * xs.length≤1000000000;omega)
 refine kgo ?_
 refine mZ (ds:=List.replicate xs.length (.s ⟨#[]⟩)) 10007 (fun d hd=>by rw [(List.mem_replicate.1 hd).2];exact ⟨rfl,rfl⟩) ?_
 refine aj [0,3,10007] (fun x:Nat × List D=>x.1≤xs.length∧x.2=sX D.s (.s ⟨#[]⟩) x.1 xs) (fun x=>xs.length - x.1) (fun x=>[(4,.sy (.d (.i x.1))),(10007,.tk (.own (.l 1 x.2) none none))]) (0,List.replicate xs.length (.s ⟨#[]⟩)) ⟨Nat.zero_le _,jd _ _ _⟩ (fun x hx=>?_)
 obtain ⟨i,ds⟩:=x
 obtain ⟨hi,hd⟩:=hx
 dsimp only at hi hd ⊢
 have hdl:=kQ hi hd
 refine kgt ?_
 refine aO (fun h=>?_) (fun h=>?_)
 ·have hlt:i<xs.length:=by omega
  have hlt':i<ds.length:=by omega
  have he:=mO hlt hd
  refine kgt ?_
  refine vT i 0 (ds.set i (D.s xs[i])) he rfl ?_
  refine kgt ?_
  exact af (i+1,ds.set i (D.s xs[i])) ⟨hlt,ja hlt hd⟩ (by show _ - (i+1)<_ - i;omega)
 rw [kF (by omega) hd]
 refine kgt ?_
 exact g6 (hp:=.cons (.k rfl rfl) .nil)
theorem vX (x:Ctl):FnD Tryz.prog 48 [Ctl.D x] (.d (Ctl.D x)):=by
 refine ah Tryz.func48 (fun hw W0=>?_)
 refine kgo ?_
 exact ar
theorem dK (xs:List Ctl) (hx:wtL eB xs≤1048576):FnO Tryz.prog 12 [.l 3 (xs.map Ctl.D)] [0] [.tk (.own (.l 3 (xs.map Ctl.D)) none none)]:=by
 refine dH Tryz.func12 (fun hw W0=>?_)
 have hxl:=eR eB xs
 refine kgo ?_
 refine oz (n:=xs.length) (.t [.s ⟨#[]⟩,.i 0,.i 0]) ?_ rfl rfl (hb:=by show 32 * xs.length≤1000000000;omega)
 refine kgo ?_
 refine mZ (ds:=List.replicate xs.length (.t [.s ⟨#[]⟩,.i 0,.i 0])) 10007 (fun d hd=>by rw [(List.mem_replicate.1 hd).2];exact ⟨rfl,rfl⟩) ?_
 refine aj [0,3,10007] (fun x:Nat × List D=>x.1≤xs.length∧x.2=sX Ctl.D (.t [.s ⟨#[]⟩,.i 0,.i 0]) x.1 xs) (fun x=>xs.length - x.1) (fun x=>[(4,.sy (.d (.i x.1))),(10007,.tk (.own (.l 3 x.2) none none))]) (0,List.replicate xs.length (.t [.s ⟨#[]⟩,.i 0,.i 0])) ⟨Nat.zero_le _,jd _ _ _⟩ (fun x hx=>?_)
 obtain ⟨i,ds⟩:=x
 obtain ⟨hi,hd⟩:=hx
 dsimp only at hi hd ⊢
 have hdl:=kQ hi hd
 refine kgt ?_
 refine aO (fun h=>?_) (fun h=>?_)
 ·have hlt:i<xs.length:=by omega
  have hlt':i<ds.length:=by omega
  have he:=mO hlt hd
  have f:=vX xs[i]
  refine kgt ?_
  exact af (i+1,ds.set i (Ctl.D xs[i])) ⟨hlt,ja hlt hd⟩ (by show _ - (i+1)<_ - i;omega)
 rw [kF (by omega) hd]
 refine kgt ?_
 exact g6 (hp:=.cons (.k rfl rfl) .nil)
theorem CY (x:Wr):FnD Tryz.prog 96 [Wr.D x] (.d (Wr.D x)):=by
 refine ah Tryz.func96 (fun hw W0=>?_)
 refine kgo ?_
 exact ar
theorem BD (xs:List Wr) (hx:wtL jm xs≤1048576):FnO Tryz.prog 53 [.l 2 (xs.map Wr.D)] [0] [.tk (.own (.l 2 (xs.map Wr.D)) none none)]:=by
 refine dH Tryz.func53 (fun hw W0=>?_)
 have hxl:=eR jm xs
 refine kgo ?_
 refine oz (n:=xs.length) (.t [.s ⟨#[]⟩,.i 0]) ?_ rfl rfl (hb:=by show 24 * xs.length≤1000000000;omega)
 refine kgo ?_
 refine mZ (ds:=List.replicate xs.length (.t [.s ⟨#[]⟩,.i 0])) 10007 (fun d hd=>by rw [(List.mem_replicate.1 hd).2];exact ⟨rfl,rfl⟩) ?_
 refine aj [0,3,10007] (fun x:Nat × List D=>x.1≤xs.length∧x.2=sX Wr.D (.t [.s ⟨#[]⟩,.i 0]) x.1 xs) (fun x=>xs.length - x.1) (fun x=>[(4,.sy (.d (.i x.1))),(10007,.tk (.own (.l 2 x.2) none none))]) (0,List.replicate xs.length (.t [.s ⟨#[]⟩,.i 0])) ⟨Nat.zero_le _,jd _ _ _⟩ (fun x hx=>?_)
 obtain ⟨i,ds⟩:=x
 obtain ⟨hi,hd⟩:=hx
 dsimp only at hi hd ⊢
 have hdl:=kQ hi hd
 refine kgt ?_
 refine aO (fun h=>?_) (fun h=>?_)
 ·have hlt:i<xs.length:=by omega
  have hlt':i<ds.length:=by omega
  have he:=mO hlt hd
  have f:=CY xs[i]
  refine kgt ?_
  exact af (i+1,ds.set i (Wr.D xs[i])) ⟨hlt,ja hlt hd⟩ (by show _ - (i+1)<_ - i;omega)
 rw [kF (by omega) hd]
 refine kgt ?_
 exact g6 (hp:=.cons (.k rfl rfl) .nil)
theorem C7 (x:Nd) (hx:i6 x≤1048576):FnO Tryz.prog 95 [Nd.D x] [3] [.d (.i x.control),.d (.i x.parent),.tk (.own (.l 1 (x.links.map D.i)) none none)]:=by
 have hww:i6 x=(x.links).length:=rfl
 have flinks:=qC x.links (by omega)
 refine dH Tryz.func95 (fun hw W0=>?_)
 refine kgt ?_
 exact g6 (hp:=.cons (.d rfl) (.cons (.d rfl) (.cons (.k rfl rfl) (.nil))))
theorem Bt (xs:List Nd) (hx:wtL i6 xs≤1048576):FnO Tryz.prog 50 [.l 3 (xs.map Nd.D)] [0] [.tk (.own (.l 3 (xs.map Nd.D)) none none)]:=by
 refine dH Tryz.func50 (fun hw W0=>?_)
 have hxl:=eR i6 xs
 refine kgo ?_
 refine oz (n:=xs.length) (.t [.i 0,.i 0,.n 1]) ?_ rfl rfl (hb:=by show 40 * xs.length≤1000000000;omega)
 refine kgo ?_
 refine mZ (ds:=List.replicate xs.length (.t [.i 0,.i 0,.n 1])) 10007 (fun d hd=>by rw [(List.mem_replicate.1 hd).2];exact ⟨rfl,rfl⟩) ?_
 refine aj [0,3,10007] (fun x:Nat × List D=>x.1≤xs.length∧x.2=sX Nd.D (.t [.i 0,.i 0,.n 1]) x.1 xs) (fun x=>xs.length - x.1) (fun x=>[(4,.sy (.d (.i x.1))),(10007,.tk (.own (.l 3 x.2) none none))]) (0,List.replicate xs.length (.t [.i 0,.i 0,.n 1])) ⟨Nat.zero_le _,jd _ _ _⟩ (fun x hx=>?_)
 obtain ⟨i,ds⟩:=x
 obtain ⟨hi,hd⟩:=hx
 dsimp only at hi hd ⊢
 have hdl:=kQ hi hd
 refine kgt ?_
 refine aO (fun h=>?_) (fun h=>?_)
 ·have hlt:i<xs.length:=by omega
  have hlt':i<ds.length:=by omega
  have he:=mO hlt hd
  have f:=C7 xs[i] (by have:=iV i6 xs _ (List.getElem_mem hlt);omega)
  refine kgt ?_
  refine wP (Nd.D xs[i]) ?_
  refine kgt ?_
  exact af (i+1,ds.set i (Nd.D xs[i])) ⟨hlt,ja hlt hd⟩ (by show _ - (i+1)<_ - i;omega)
 rw [kF (by omega) hd]
 refine kgt ?_
 exact g6 (hp:=.cons (.k rfl rfl) .nil)
theorem dm (x:Big) (hx:bG x≤1048576):FnO Tryz.prog 14 [Big.D x] [6] [.d (.i x.roots),.tk (.own (.l 3 (x.nodes.map Nd.D)) none none),.tk (.own (.l 1 (x.sites.map D.i)) none none),.d (.i x.edges),.tk (.own (.l 1 (x.outer.map D.s)) none none),.tk (.own (.l 2 (x.inner.map Wr.D)) none none)]:=by
 have hww:bG x=wtL i6 x.nodes+(x.sites).length+wtL fS x.outer+wtL jm x.inner:=rfl
 have fnodes:=Bt x.nodes (by omega)
 have fsites:=qC x.sites (by omega)
 have fouter:=vm x.outer (by omega)
 have finner:=BD x.inner (by omega)
 refine dH Tryz.func14 (fun hw W0=>?_)
 refine kgt ?_
 exact g6 (hp:=.cons (.d rfl) (.cons (.k rfl rfl) (.cons (.k rfl rfl) (.cons (.d rfl) (.cons (.k rfl rfl) (.cons (.k rfl rfl) (.nil)))))))
theorem Ci (x:Rul) (hx:cQ x≤1048576):FnO Tryz.prog 49 [Rul.D x] [13] [.d (.i x.redex.roots),.tk (.own (.l 3 (x.redex.nodes.map Nd.D)) none none),.tk (.own (.l 1 (x.redex.sites.map D.i)) none none),.d (.i x.redex.edges),.tk (.own (.l 1 (x.redex.outer.map D.s)) none none),.tk (.own (.l 2 (x.redex.inner.map Wr.D)) none none),.d (.i x.reactum.roots),.tk (.own (.l 3 (x.reactum.nodes.map Nd.D)) none none),.tk (.own (.l 1 (x.reactum.sites.map D.i)) none none),.d (.i x.reactum.edges),.tk (.own (.l 1 (x.reactum.outer.map D.s)) none none),.tk (.own (.l 2 (x.reactum.inner.map Wr.D)) none none),.tk (.own (.l 1 (x.copies.map D.i)) none none)]:=by
 have hww:cQ x=bG x.redex+bG x.reactum+(x.copies).length:=rfl
 have fredex:=dm x.redex (by omega)
 have freactum:=dm x.reactum (by omega)
 have fcopies:=qC x.copies (by omega)
 refine dH Tryz.func49 (fun hw W0=>?_)
 refine kgt ?_
 exact g6 (hp:=.cons (.d rfl) (.cons (.k rfl rfl) (.cons (.k rfl rfl) (.cons (.d rfl) (.cons (.k rfl rfl) (.cons (.k rfl rfl) (.cons (.d rfl) (.cons (.k rfl rfl) (.cons (.k rfl rfl) (.cons (.d rfl) (.cons (.k rfl rfl) (.cons (.k rfl rfl) (.cons (.k rfl rfl) (.nil))))))))))))))
theorem gz (xs:List Rul) (hx:wtL cQ xs≤1048576):FnO Tryz.prog 13 [.l 13 (xs.map Rul.D)] [0] [.tk (.own (.l 13 (xs.map Rul.D)) none none)]:=by
 refine dH Tryz.func13 (fun hw W0=>?_)
 have hxl:=eR cQ xs
 refine kgo ?_
 refine oz (n:=xs.length) (.t [.t [.i 0,.n 3,.n 1,.i 0,.n 1,.n 2],.t [.i 0,.n 3,.n 1,.i 0,.n 1,.n 2],.n 1]) ?_ rfl rfl (hb:=by show 248 * xs.length≤1000000000;omega)
 refine kgo ?_
 refine mZ (ds:=List.replicate xs.length (.t [.t [.i 0,.n 3,.n 1,.i 0,.n 1,.n 2],.t [.i 0,.n 3,.n 1,.i 0,.n 1,.n 2],.n 1])) 10007 (fun d hd=>by rw [(List.mem_replicate.1 hd).2];exact ⟨rfl,rfl⟩) ?_
 refine aj [0,3,10007] (fun x:Nat × List D=>x.1≤xs.length∧x.2=sX Rul.D (.t [.t [.i 0,.n 3,.n 1,.i 0,.n 1,.n 2],.t [.i 0,.n 3,.n 1,.i 0,.n 1,.n 2],.n 1]) x.1 xs) (fun x=>xs.length - x.1) (fun x=>[(4,.sy (.d (.i x.1))),(10007,.tk (.own (.l 13 x.2) none none))]) (0,List.replicate xs.length (.t [.t [.i 0,.n 3,.n 1,.i 0,.n 1,.n 2],.t [.i 0,.n 3,.n 1,.i 0,.n 1,.n 2],.n 1])) ⟨Nat.zero_le _,jd _ _ _⟩ (fun x hx=>?_)
 obtain ⟨i,ds⟩:=x
 obtain ⟨hi,hd⟩:=hx
 dsimp only at hi hd ⊢
 have hdl:=kQ hi hd
 refine kgt ?_
 refine aO (fun h=>?_) (fun h=>?_)
 ·have hlt:i<xs.length:=by omega
  have hlt':i<ds.length:=by omega
  have he:=mO hlt hd
  have f:=Ci xs[i] (by have:=iV cQ xs _ (List.getElem_mem hlt);omega)
  refine kgt ?_
  refine wP (Rul.D xs[i]) ?_
  refine kgt ?_
  exact af (i+1,ds.set i (Rul.D xs[i])) ⟨hlt,ja hlt hd⟩ (by show _ - (i+1)<_ - i;omega)
 rw [kF (by omega) hd]
 refine kgt ?_
 exact g6 (hp:=.cons (.k rfl rfl) .nil)
end Go.Proofs.YtclpbhoekmecjaaGreatDoor
namespace Go.Proofs.YtclpbhoekmecjaaGreatDoor
open Go.RowKit
set_option linter.unusedVariables false
set_option maxRecDepth 100000
attribute [local irreducible] cnL wtL
theorem fl (sig:List Ctl) (rs:List Rul) (a:Big) (h:wtL eB sig+wtL cQ rs+bG a≤1048576):cnL c3 sig+cnL eQ rs+jo a≤800000000:=by
 have h1:=eR eB sig
 have h2:=Eb eQ cQ 4 (by omega) Dq rs
 have h3:=vo a
 rw [G2]
 omega
theorem FD:∀xs:List Nd,(∀x∈xs,x.links.length≤1000)→cnL cNd xs≤1002 * xs.length:=by
 intro xs
 induction xs with
 | nil=>intro _;simp [cnL]
 | cons x xs ih=>
  intro h
  have h1:=ih (fun y hy=>h y (by simp [hy]))
  have h2:=h x (by simp)
  have h3:cNd x=2+cnL c1 x.links:=rfl
  rw [ic] at h3
  rw [iH,List.length_cons]
  omega
theorem tc {b:Big} (h:sa b):jo b≤10000:=by
 have e:jo b=cnL cNd b.nodes+cnL c1 b.sites+cnL c1 b.outer+cnL c2 b.inner:=rfl
 have h1:=FD b.nodes (fun x hx=>by
  obtain ⟨i,hi,rfl⟩:=List.mem_iff_getElem.1 hx
  exact h.dims.links i hi)
 rw [ic,ic,BC] at e
 have:=h.nodes;have:=h.sitesN;have:=h.outer;have:=h.inner
 omega
theorem yp:jo dx=0:=by
 show cnL cNd []+cnL c1 ([]:List Int)+cnL c1 ([]:List ByteArray)+cnL c2 ([]:List Wr)=0
 rw [ic,ic,BC];simp [cnL]
end Go.Proofs.YtclpbhoekmecjaaGreatDoor
namespace Go.Proofs.YtclpbhoekmecjaaGreatDoor
open Go.RowKit
set_option linter.unusedVariables false
set_option maxRecDepth 100000
set_option maxHeartbeats 2000000
attribute [local irreducible] aq Der At jI mkL cnL lC
def eK (s:Stp):Nat:=1+(cnL c1 s.mat.nodes+cnL c1 s.mat.roots)+jO s.res
def lW (k:Int) (s:Stp):Stp:=⟨k,⟨mkL mkI c1 (k+1) s.mat.nodes,mkL mkI c1 (k+1+cnL c1 s.mat.nodes) s.mat.roots⟩,BL (k+1+cnL c1 s.mat.nodes+cnL c1 s.mat.roots) s.res⟩
def IC (s:Stp):Nat:=gP s.mat+jo s.res
theorem Ck (x:Stp):FnD Tryz.prog 28 [Stp.D x,Stp.D x] (.d (.b true)):=by
 have fmat:=tH x.mat
 have fres:=eD x.res
 refine ah Tryz.func28 (fun hw W0=>?_)
 refine kgo ?_
 refine kJ (fun h=>absurd rfl h) (fun _=>?_)
 refine kgo ?_
 exact ar
theorem oc (xs:List Stp):FnD Tryz.prog 33 [.l 9 (xs.map Stp.D),.l 9 (xs.map Stp.D)] (.d (.b true)):=by
 refine ah Tryz.func33 (fun hw W0=>?_)
 have hl:=(wfM hw.1).1
 refine kgo ?_
 refine kJ (fun h=>absurd rfl h) (fun _=>?_)
 refine kgo ?_
 refine aj [0,1] (fun i:Nat=>i≤xs.length) (fun i=>xs.length - i) (fun i=>[(5,.sy (.d (.i i)))]) 0 (Nat.zero_le _) (fun i hi=>?_)
 refine kgo ?_
 refine aO (fun h=>?_) (fun h=>?_)
 ·have hlt:i<xs.length:=by omega
  have f:=Ck xs[i]
  refine kgo ?_
  exact af (i+1) hlt (by show _ - (i+1)<_ - i;omega)
 refine kgo ?_
 exact ar
theorem uT (xs:List Stp) (k:Int) (h0:0≤k) (h1:k+cnL eK xs≤1000000000):FnM Tryz.prog 34 (.l 9 (xs.map Stp.D)) (.l 9 ((mkL lW eK k xs).map Stp.D)) k (k+cnL eK xs):=by
 refine nA Tryz.func34 (BO h0 (by omega)) (fun W0 v M hM hw=>?_)
 have hw':xs.length≤9223372036854775807:=by rw [← List.length_map];exact hw
 refine kgm ?_
 refine aj [0,20000] (fun x:Nat × Int × List D=>x.1≤xs.length∧x.2.1=k+cnL eK (xs.take x.1)∧x.2.2=(lC lW eK x.1 k xs).map Stp.D) (fun x=>xs.length - x.1) (fun x=>[(1,.sy (.d (.i x.2.1))),(5,.sy (.d (.i x.1))),(20000,.tk (.own (.l 9 x.2.2) none (some (v,M))))]) (0,k,xs.map Stp.D) ⟨Nat.zero_le _,by simp [cnL],by rw [gD]⟩ (fun x hx=>?_)
 obtain ⟨i,K,ds⟩:=x
 obtain ⟨hi,hK,hd⟩:=hx
 dsimp only at hi hK hd ⊢
 have hl:=tW hd
 have hc:=aE eK xs i
 refine kgm ?_
 refine aO (fun h=>?_) (fun h=>?_)
 ·have hlt:i<xs.length:=by omega
  have hlt':i<ds.length:=by omega
  have hct:=d8 eK xs i hlt
  have hc':=aE eK xs (i+1)
  have hcx:eK xs[i]=3+cnL c1 xs[i].mat.nodes+cnL c1 xs[i].mat.roots+cnL cNd xs[i].res.nodes+cnL c1 xs[i].res.sites+cnL c1 xs[i].res.outer+cnL c2 xs[i].res.inner:=by first|rfl|(simp only [eK,jO,jo];omega)|(simp only [gP];omega)
  have hKb:K+eK xs[i]≤1000000000:=by omega
  have hK0:0≤K:=by omega

  have f1:=dy xs[i].mat.nodes (K+1) (by omega) (by omega)
  have f2:=dy xs[i].mat.roots (K+1+(cnL c1 xs[i].mat.nodes:Nat)) (by omega) (by omega)
  have f4:=jM xs[i].res.nodes (K+1+(cnL c1 xs[i].mat.nodes:Nat)+(cnL c1 xs[i].mat.roots:Nat)+1) (by omega) (by omega)
  have f5:=dy xs[i].res.sites (K+1+(cnL c1 xs[i].mat.nodes:Nat)+(cnL c1 xs[i].mat.roots:Nat)+1+(cnL cNd xs[i].res.nodes:Nat)) (by omega) (by omega)
  have f7:=gW xs[i].res.outer (K+1+(cnL c1 xs[i].mat.nodes:Nat)+(cnL c1 xs[i].mat.roots:Nat)+1+(cnL cNd xs[i].res.nodes:Nat)+(cnL c1 xs[i].res.sites:Nat)+1) (by omega) (by omega)
  have f8:=jD xs[i].res.inner (K+1+(cnL c1 xs[i].mat.nodes:Nat)+(cnL c1 xs[i].mat.roots:Nat)+1+(cnL cNd xs[i].res.nodes:Nat)+(cnL c1 xs[i].res.sites:Nat)+1+(cnL c1 xs[i].res.outer:Nat)) (by omega) (by omega)
  refine mH 20000 (congrArg (fun d=>Tk.own (.l 9 d) none (some (v,M))) (ud hlt hd)) ?_
  refine kgm ?_
  refine mH 20000 (t':=.own (.l 9 (ds.set i (Stp.D (⟨K,⟨xs[i].mat.nodes,xs[i].mat.roots⟩,⟨xs[i].res.roots,xs[i].res.nodes,xs[i].res.sites,xs[i].res.edges,xs[i].res.outer,xs[i].res.inner⟩⟩:Stp)))) none (some (v,M))) rfl ?_
  refine jR 20000 1 (fun u=>?_)
  refine dD ?_
  refine kgm ?_
  refine mH 20000 (t':=.own (.l 9 (ds.set i (Stp.D (⟨K,⟨mkL mkI c1 (K+1) xs[i].mat.nodes,xs[i].mat.roots⟩,⟨xs[i].res.roots,xs[i].res.nodes,xs[i].res.sites,xs[i].res.edges,xs[i].res.outer,xs[i].res.inner⟩⟩:Stp)))) none (some (v,M))) rfl ?_
  refine jR 20000 2 (fun u=>?_)
  refine dD ?_
  refine kgr ?_
  refine dP (aM ?_)
  refine mH 20000 (t':=.own (.l 9 (ds.set i (Stp.D (⟨K,⟨mkL mkI c1 (K+1) xs[i].mat.nodes,mkL mkI c1 (K+1+(cnL c1 xs[i].mat.nodes:Nat)) xs[i].mat.roots⟩,⟨xs[i].res.roots,xs[i].res.nodes,xs[i].res.sites,xs[i].res.edges,xs[i].res.outer,xs[i].res.inner⟩⟩:Stp)))) none (some (v,M))) rfl ?_
  refine kgm ?_
  try (refine aN ?_;refine iN (f:=3) ?_;refine kgm ?_)
  refine mH 20000 (t':=.own (.l 9 (ds.set i (Stp.D (⟨K,⟨mkL mkI c1 (K+1) xs[i].mat.nodes,mkL mkI c1 (K+1+(cnL c1 xs[i].mat.nodes:Nat)) xs[i].mat.roots⟩,⟨K+1+(cnL c1 xs[i].mat.nodes:Nat)+(cnL c1 xs[i].mat.roots:Nat),xs[i].res.nodes,xs[i].res.sites,xs[i].res.edges,xs[i].res.outer,xs[i].res.inner⟩⟩:Stp)))) none (some (v,M))) rfl ?_
  refine jR 20000 4 (fun u=>?_)
  refine dD ?_
  refine kgm ?_
  refine mH 20000 (t':=.own (.l 9 (ds.set i (Stp.D (⟨K,⟨mkL mkI c1 (K+1) xs[i].mat.nodes,mkL mkI c1 (K+1+(cnL c1 xs[i].mat.nodes:Nat)) xs[i].mat.roots⟩,⟨K+1+(cnL c1 xs[i].mat.nodes:Nat)+(cnL c1 xs[i].mat.roots:Nat),mkL lO cNd (K+1+(cnL c1 xs[i].mat.nodes:Nat)+(cnL c1 xs[i].mat.roots:Nat)+1) xs[i].res.nodes,xs[i].res.sites,xs[i].res.edges,xs[i].res.outer,xs[i].res.inner⟩⟩:Stp)))) none (some (v,M))) rfl ?_
  refine jR 20000 5 (fun u=>?_)
  refine dD ?_
  refine kgr ?_
  refine dP (aM ?_)
  refine mH 20000 (t':=.own (.l 9 (ds.set i (Stp.D (⟨K,⟨mkL mkI c1 (K+1) xs[i].mat.nodes,mkL mkI c1 (K+1+(cnL c1 xs[i].mat.nodes:Nat)) xs[i].mat.roots⟩,⟨K+1+(cnL c1 xs[i].mat.nodes:Nat)+(cnL c1 xs[i].mat.roots:Nat),mkL lO cNd (K+1+(cnL c1 xs[i].mat.nodes:Nat)+(cnL c1 xs[i].mat.roots:Nat)+1) xs[i].res.nodes,mkL mkI c1 (K+1+(cnL c1 xs[i].mat.nodes:Nat)+(cnL c1 xs[i].mat.roots:Nat)+1+(cnL cNd xs[i].res.nodes:Nat)) xs[i].res.sites,xs[i].res.edges,xs[i].res.outer,xs[i].res.inner⟩⟩:Stp)))) none (some (v,M))) rfl ?_
  refine kgm ?_
  try (refine aN ?_;refine iN (f:=6) ?_;refine kgm ?_)
  refine mH 20000 (t':=.own (.l 9 (ds.set i (Stp.D (⟨K,⟨mkL mkI c1 (K+1) xs[i].mat.nodes,mkL mkI c1 (K+1+(cnL c1 xs[i].mat.nodes:Nat)) xs[i].mat.roots⟩,⟨K+1+(cnL c1 xs[i].mat.nodes:Nat)+(cnL c1 xs[i].mat.roots:Nat),mkL lO cNd (K+1+(cnL c1 xs[i].mat.nodes:Nat)+(cnL c1 xs[i].mat.roots:Nat)+1) xs[i].res.nodes,mkL mkI c1 (K+1+(cnL c1 xs[i].mat.nodes:Nat)+(cnL c1 xs[i].mat.roots:Nat)+1+(cnL cNd xs[i].res.nodes:Nat)) xs[i].res.sites,K+1+(cnL c1 xs[i].mat.nodes:Nat)+(cnL c1 xs[i].mat.roots:Nat)+1+(cnL cNd xs[i].res.nodes:Nat)+(cnL c1 xs[i].res.sites:Nat),xs[i].res.outer,xs[i].res.inner⟩⟩:Stp)))) none (some (v,M))) rfl ?_
  refine jR 20000 7 (fun u=>?_)
  refine dD ?_
  refine kgm ?_
  refine mH 20000 (t':=.own (.l 9 (ds.set i (Stp.D (⟨K,⟨mkL mkI c1 (K+1) xs[i].mat.nodes,mkL mkI c1 (K+1+(cnL c1 xs[i].mat.nodes:Nat)) xs[i].mat.roots⟩,⟨K+1+(cnL c1 xs[i].mat.nodes:Nat)+(cnL c1 xs[i].mat.roots:Nat),mkL lO cNd (K+1+(cnL c1 xs[i].mat.nodes:Nat)+(cnL c1 xs[i].mat.roots:Nat)+1) xs[i].res.nodes,mkL mkI c1 (K+1+(cnL c1 xs[i].mat.nodes:Nat)+(cnL c1 xs[i].mat.roots:Nat)+1+(cnL cNd xs[i].res.nodes:Nat)) xs[i].res.sites,K+1+(cnL c1 xs[i].mat.nodes:Nat)+(cnL c1 xs[i].mat.roots:Nat)+1+(cnL cNd xs[i].res.nodes:Nat)+(cnL c1 xs[i].res.sites:Nat),mkL mkS c1 (K+1+(cnL c1 xs[i].mat.nodes:Nat)+(cnL c1 xs[i].mat.roots:Nat)+1+(cnL cNd xs[i].res.nodes:Nat)+(cnL c1 xs[i].res.sites:Nat)+1) xs[i].res.outer,xs[i].res.inner⟩⟩:Stp)))) none (some (v,M))) rfl ?_
  refine jR 20000 8 (fun u=>?_)
  refine dD ?_
  refine kgm ?_
  exact af (i+1,K+1+(cnL c1 xs[i].mat.nodes:Nat)+(cnL c1 xs[i].mat.roots:Nat)+1+(cnL cNd xs[i].res.nodes:Nat)+(cnL c1 xs[i].res.sites:Nat)+1+(cnL c1 xs[i].res.outer:Nat)+(cnL c2 xs[i].res.inner:Nat),ds.set i (Stp.D (lW K xs[i]))) ⟨hlt,by show K+1+(cnL c1 xs[i].mat.nodes:Nat)+(cnL c1 xs[i].mat.roots:Nat)+1+(cnL cNd xs[i].res.nodes:Nat)+(cnL c1 xs[i].res.sites:Nat)+1+(cnL c1 xs[i].res.outer:Nat)+(cnL c2 xs[i].res.inner:Nat)=k+(cnL eK (xs.take (i+1)):Nat);omega,nL hlt hd hK⟩ (by show _ - (i+1)<_ - i;omega)
 have hie:i=xs.length:=by omega
 rw [s8 hie hd]
 rw [hie,fx] at hK
 rw [← hK]
 refine kgm ?_
 exact Ea hM
theorem oM (xs:List Stp) (k:Int) (h0:0≤k) (h1:k+cnL eK xs≤1000000000):FnD Tryz.prog 35 [.l 9 ((mkL lW eK k xs).map Stp.D),.i k] (.d (.i (k+cnL eK xs))):=by
 have hl:=iZ lW eK xs k
 have ha:=fun i h=>qg lW eK i k xs h (by rw [hl];exact h)
 refine ah Tryz.func35 (fun hw W0=>?_)
 have hw':=(wfM hw.1).1
 obtain ⟨ys,hys⟩:∃ys,mkL lW eK k xs=ys:=⟨_,rfl⟩
 simp only [hys] at hl ha hw' ⊢
 refine kgo ?_
 refine aj [0] (fun x:Nat × Int=>x.1≤xs.length∧x.2=k+cnL eK (xs.take x.1)) (fun x=>xs.length - x.1) (fun x=>[(1,.sy (.d (.i x.2))),(5,.sy (.d (.i x.1)))]) (0,k) ⟨Nat.zero_le _,by simp [cnL]⟩ (fun x hx=>?_)
 obtain ⟨i,K⟩:=x
 obtain ⟨hi,hK⟩:=hx
 dsimp only at hi hK ⊢
 have hc:=aE eK xs i
 refine kgo ?_
 refine aO (fun h=>?_) (fun h=>?_)
 ·have hlt:i<xs.length:=by omega
  have hlt':i<ys.length:=by omega
  have hct:=d8 eK xs i hlt
  have hc':=aE eK xs (i+1)
  have hcx:eK xs[i]=3+cnL c1 xs[i].mat.nodes+cnL c1 xs[i].mat.roots+cnL cNd xs[i].res.nodes+cnL c1 xs[i].res.sites+cnL c1 xs[i].res.outer+cnL c2 xs[i].res.inner:=by first|rfl|(simp only [eK,jO,jo];omega)|(simp only [gP];omega)
  have hKb:K+eK xs[i]≤1000000000:=by omega
  have hK0:0≤K:=by omega
  have hat:=ha i hlt
  rw [← hK] at hat
  have e0:ys[i].rule=K:=by rw [hat];rfl
  have f1:=fm xs[i].mat.nodes (K+1) (by omega) (by omega)
  rw [show mkL mkI c1 (K+1) xs[i].mat.nodes=ys[i].mat.nodes by rw [hat];rfl] at f1
  have f2:=fm xs[i].mat.roots (K+1+(cnL c1 xs[i].mat.nodes:Nat)) (by omega) (by omega)
  rw [show mkL mkI c1 (K+1+(cnL c1 xs[i].mat.nodes:Nat)) xs[i].mat.roots=ys[i].mat.roots by rw [hat];rfl] at f2
  have e3:ys[i].res.roots=K+1+(cnL c1 xs[i].mat.nodes:Nat)+(cnL c1 xs[i].mat.roots:Nat):=by rw [hat];rfl
  have f4:=oJ xs[i].res.nodes (K+1+(cnL c1 xs[i].mat.nodes:Nat)+(cnL c1 xs[i].mat.roots:Nat)+1) (by omega) (by omega)
  rw [show mkL lO cNd (K+1+(cnL c1 xs[i].mat.nodes:Nat)+(cnL c1 xs[i].mat.roots:Nat)+1) xs[i].res.nodes=ys[i].res.nodes by rw [hat];rfl] at f4
  have f5:=fm xs[i].res.sites (K+1+(cnL c1 xs[i].mat.nodes:Nat)+(cnL c1 xs[i].mat.roots:Nat)+1+(cnL cNd xs[i].res.nodes:Nat)) (by omega) (by omega)
  rw [show mkL mkI c1 (K+1+(cnL c1 xs[i].mat.nodes:Nat)+(cnL c1 xs[i].mat.roots:Nat)+1+(cnL cNd xs[i].res.nodes:Nat)) xs[i].res.sites=ys[i].res.sites by rw [hat];rfl] at f5
  have e6:ys[i].res.edges=K+1+(cnL c1 xs[i].mat.nodes:Nat)+(cnL c1 xs[i].mat.roots:Nat)+1+(cnL cNd xs[i].res.nodes:Nat)+(cnL c1 xs[i].res.sites:Nat):=by rw [hat];rfl
  have f7:=mn xs[i].res.outer (K+1+(cnL c1 xs[i].mat.nodes:Nat)+(cnL c1 xs[i].mat.roots:Nat)+1+(cnL cNd xs[i].res.nodes:Nat)+(cnL c1 xs[i].res.sites:Nat)+1) (by omega) (by omega)
  rw [show mkL mkS c1 (K+1+(cnL c1 xs[i].mat.nodes:Nat)+(cnL c1 xs[i].mat.roots:Nat)+1+(cnL cNd xs[i].res.nodes:Nat)+(cnL c1 xs[i].res.sites:Nat)+1) xs[i].res.outer=ys[i].res.outer by rw [hat];rfl] at f7
  have f8:=oI xs[i].res.inner (K+1+(cnL c1 xs[i].mat.nodes:Nat)+(cnL c1 xs[i].mat.roots:Nat)+1+(cnL cNd xs[i].res.nodes:Nat)+(cnL c1 xs[i].res.sites:Nat)+1+(cnL c1 xs[i].res.outer:Nat)) (by omega) (by omega)
  rw [show mkL sb c2 (K+1+(cnL c1 xs[i].mat.nodes:Nat)+(cnL c1 xs[i].mat.roots:Nat)+1+(cnL cNd xs[i].res.nodes:Nat)+(cnL c1 xs[i].res.sites:Nat)+1+(cnL c1 xs[i].res.outer:Nat)) xs[i].res.inner=ys[i].res.inner by rw [hat];rfl] at f8
  refine kgo ?_
  rw [e0]
  refine kJ (fun h=>absurd rfl h) (fun _=>?_)
  refine kgo ?_
  refine aO (fun h=>?_) (fun _=>?_)
  ·omega
  refine kgo ?_
  refine aO (fun h=>?_) (fun _=>?_)
  ·omega
  refine kgo ?_
  rw [e3]
  refine kJ (fun h=>absurd rfl h) (fun _=>?_)
  refine kgo ?_
  refine aO (fun h=>?_) (fun _=>?_)
  ·omega
  refine kgo ?_
  refine aO (fun h=>?_) (fun _=>?_)
  ·omega
  refine kgo ?_
  rw [e6]
  refine kJ (fun h=>absurd rfl h) (fun _=>?_)
  refine kgo ?_
  refine aO (fun h=>?_) (fun _=>?_)
  ·omega
  refine kgo ?_
  refine aO (fun h=>?_) (fun _=>?_)
  ·omega
  refine kgo ?_
  exact af (i+1,K+1+(cnL c1 xs[i].mat.nodes:Nat)+(cnL c1 xs[i].mat.roots:Nat)+1+(cnL cNd xs[i].res.nodes:Nat)+(cnL c1 xs[i].res.sites:Nat)+1+(cnL c1 xs[i].res.outer:Nat)+(cnL c2 xs[i].res.inner:Nat)) ⟨hlt,by show K+1+(cnL c1 xs[i].mat.nodes:Nat)+(cnL c1 xs[i].mat.roots:Nat)+1+(cnL cNd xs[i].res.nodes:Nat)+(cnL c1 xs[i].res.sites:Nat)+1+(cnL c1 xs[i].res.outer:Nat)+(cnL c2 xs[i].res.inner:Nat)=k+(cnL eK (xs.take (i+1)):Nat);omega⟩ (by show _ - (i+1)<_ - i;omega)
 have hie:i=xs.length:=by omega
 rw [hie,fx] at hK
 rw [← hK]
 refine kgo ?_
 exact ar
theorem Ia (s:Stp) (b:Bool):∀p∈Ix s++[.d (.b b)],Ak p:=fun p hp=>by
 simp only [Ix,List.cons_append,List.nil_append,List.mem_cons,List.not_mem_nil,or_false] at hp
 rcases hp with rfl|rfl|rfl|rfl|rfl|rfl|rfl|rfl|rfl|rfl <;> first|trivial|rfl
theorem rK (z e:Nat) (ds:List D) (b:Bool):∀p∈[Pt.tk (.grw z e ds),.d (.b b)],Ak p:=fun p hp=>by
 simp only [List.mem_cons,List.not_mem_nil,or_false] at hp
 rcases hp with rfl|rfl <;> first|trivial|rfl
def vI (sig:List Ctl) (s:Stp):Prop:=s.mat.nodes.length≤1000∧s.mat.roots.length≤1000∧dp sig s.res=true
theorem zq {sig:List Ctl} {r a:Big} {m:Mat} (hr:aF sig r=true) (h:eh r a m=true):m.nodes.length≤1000∧m.roots.length≤1000:=by
 have h1:=(iR (cP h).1).len
 have h2:=(bB hr).nodes
 have h3:=ji (rs:=m.roots) (ns:=m.nodes) (cP h).2.1
 have h4:=aL hr
 omega
theorem z8 {sig:List Ctl} {r:Rul} {a:Big} {k:Int} (hr:aF sig r.redex=true):∀(ms:List Mat) (out l:List Stp),(∀m∈ms,eh r.redex a m=true)→(∀s∈out,vI sig s)→gG sig r a k ms out=some l→(∀s∈l,vI sig s)∧l.length≤out.length+ms.length:=by
 intro ms
 induction ms with
 | nil=>intro out l _ ho h;cases h;exact ⟨ho,Nat.le_refl _⟩
 | cons m ms ih=>
  intro out l hm ho h
  have hm1:=fun x hx=>hm x (List.mem_cons_of_mem _ hx)
  unfold gG at h
  split at h
  ·split at h
   ·rename_i h2
    obtain ⟨q1,q2⟩:=ih _ l hm1 (fun s hs=>by
     rcases List.mem_append.1 hs with hs|hs
     ·exact ho s hs
     ·rw [List.mem_singleton.1 hs]
      obtain ⟨m1,m2⟩:=zq hr (hm m (by simp))
      exact ⟨m1,m2,pb h2⟩) h
    exact ⟨q1,by simp at q2 ⊢;omega⟩
   ·cases h
  ·obtain ⟨q1,q2⟩:=ih out l hm1 ho h
   exact ⟨q1,by simp;omega⟩
theorem ub {sig:List Ctl} {a:Big}:∀(rs:List Rul) (k:Nat) (out l:List Stp),(∀r∈rs,aF sig r.redex=true)→(∀s∈out,vI sig s)→dt sig a rs k out=some l→(∀s∈l,vI sig s)∧l.length≤out.length+400 * rs.length:=by
 intro rs
 induction rs with
 | nil=>intro k out l _ ho h;cases h;exact ⟨ho,Nat.le_refl _⟩
 | cons r rs ih=>
  intro k out l hr ho h
  unfold dt at h
  split at h
  ·cases h
  ·rename_i hn
   cases hm:gG sig r a k (pF r.redex a) out with
   | none=>rw [hm] at h;cases h
   | some o=>
    rw [hm] at h
    obtain ⟨q1,q2⟩:=z8 (hr r (by simp)) _ out o (fun m hx=>nk m hx) ho hm
    obtain ⟨q3,q4⟩:=ih (k+1) o l (fun r' h'=>hr r' (List.mem_cons_of_mem _ h')) q1 h
    exact ⟨q3,by simp;omega⟩
theorem Bs (sig:List Ctl) (rs:List Rul) (a:Big):(∀s∈(bH sig rs a).1,vI sig s)∧(bH sig rs a).1.length≤2400:=by
 unfold bH
 split
 ·rename_i h
  rw [Bool.and_eq_true] at h
  have hrs:=List.all_eq_true.1 (Bool.and_eq_true_iff.1 h.1).2
  have hrl:=bO (Bool.and_eq_true_iff.1 h.1).1
  cases hs:dt sig a rs 0 [] with
  | none=>exact ⟨fun s hs=>(by cases hs),by show (0:Nat)≤_;omega⟩
  | some l=>
   obtain ⟨q1,q2⟩:=ub rs 0 [] l (fun r hr=>(gd (hrs r hr)).1) (fun s hs=>by cases hs) hs
   exact ⟨q1,by show l.length≤_;simp at q2;omega⟩
 ·exact ⟨fun s hs=>(by cases hs),by show (0:Nat)≤_;omega⟩
theorem Dg {sig:List Ctl} {s:Stp} (h:vI sig s):eK s≤20000∧IC s≤20000:=by
 obtain ⟨h1,h2,h3⟩:=h
 have h4:=tc (dh (ij h3))
 have e1:eK s=1+(cnL c1 s.mat.nodes+cnL c1 s.mat.roots)+(jo s.res+2):=rfl
 have e2:IC s=cnL c1 s.mat.nodes+cnL c1 s.mat.roots+jo s.res:=rfl
 rw [ic,ic] at e1 e2
 omega
theorem Af (sig:List Ctl) (rs:List Rul) (a:Big):cnL eK (bH sig rs a).1≤60000000:=by
 obtain ⟨h1,h2⟩:=Bs sig rs a
 have key:∀l:List Stp,(∀s∈l,vI sig s)→cnL eK l≤20000 * l.length:=by
  intro l
  induction l with
  | nil=>intro _;simp [cnL]
  | cons s l ih=>
   intro h
   have:=ih (fun x hx=>h x (List.mem_cons_of_mem _ hx))
   have:=(Dg (h s (by simp))).1
   rw [iH,List.length_cons]
   omega
 have:=key _ h1
 omega
end Go.Proofs.YtclpbhoekmecjaaGreatDoor
namespace Go.Proofs.YtclpbhoekmecjaaGreatDoor
open Go.RowKit
set_option linter.unusedVariables false
set_option linter.unusedSimpArgs false
set_option maxRecDepth 100000
set_option maxHeartbeats 4000000
attribute [local irreducible] aq Der At
def pD (sig:List Ctl) (rs:List Rul):Nat→Trc→Big→Option (Trc × Big)
 | 0,t,b=>some (t,b)
 | n+1,t,b=>match dt sig b rs 0 [] with
  | none=>none
  | some []=>some (t,b)
  | some (s :: _)=>pD sig rs n ⟨t.rules++[s.rule],t.ms++[s.mat]⟩ s.res
theorem pm (sig:List Ctl) (rs:List Rul) (n:Nat) (t:Trc) (b:Big):pD sig rs (n+1) t b=match dt sig b rs 0 [] with
 | none=>none
 | some []=>some (t,b)
 | some (s :: _)=>pD sig rs n ⟨t.rules++[s.rule],t.ms++[s.mat]⟩ s.res:=rfl
def bd (sig:List Ctl) (rs:List Rul) (a:Big) (most:Int):Trc × Big × Bool:=if fo sig rs && (dp sig a && inR most 0 20) then (match pD sig rs most.toNat ⟨[],[]⟩ a with|some (t,b)=>(t,b,true)|none=>(⟨[],[]⟩,dx,false)) else (⟨[],[]⟩,dx,false)
theorem s9 {sig:List Ctl} {r:Rul} {a:Big} {k:Int}:∀(ms:List Mat) (out l:List Stp),(∀s∈out,dp sig s.res=true)→gG sig r a k ms out=some l→∀s∈l,dp sig s.res=true:=by
 intro ms
 induction ms with
 | nil=>intro out l ho h;cases h;exact ho
 | cons m ms ih=>
  intro out l ho h
  unfold gG at h
  split at h
  ·split at h
   ·rename_i h2
    exact ih _ l (fun s hs=>by
     rcases List.mem_append.1 hs with hs|hs
     ·exact ho s hs
     ·rw [List.mem_singleton.1 hs];exact pb h2) h
   ·cases h
  ·exact ih out l ho h
theorem nO {sig:List Ctl} {a:Big}:∀(rs:List Rul) (k:Nat) (out l:List Stp),(∀s∈out,dp sig s.res=true)→dt sig a rs k out=some l→∀s∈l,dp sig s.res=true:=by
 intro rs
 induction rs with
 | nil=>intro k out l ho h;cases h;exact ho
 | cons r rs ih=>
  intro k out l ho h
  unfold dt at h
  split at h
  ·cases h
  ·cases hm:gG sig r a k (pF r.redex a) out with
   | none=>rw [hm] at h;cases h
   | some o=>rw [hm] at h;exact ih (k+1) o l (s9 _ out o ho hm) h
theorem pT (sig:List Ctl) (rs:List Rul) (a:Big) (most:Int) (hr:∀r∈rs,r.redex.inner.length≤1048576∧r.reactum.inner.length≤1048576) (ha:a.inner.length≤1048576):FnD Tryz.prog 36 [.l 3 (sig.map Ctl.D),.l 13 (rs.map Rul.D),a.D,.i most] (.tp [(bd sig rs a most).1.D,(bd sig rs a most).2.1.D,.b (bd sig rs a most).2.2]):=by
 have f1:=uj sig rs hr
 have f2:=tZ sig a ha
 have f3:=tw most 0 20
 refine ah Tryz.func36 (fun hw W0=>?_)
 unfold bd
 refine kgo ?_
 cases h1:fo sig rs
 ·refine kgo ?_
  (repeat refine fa ?_)
  refine kgo ?_
  exact g8
 refine kgo ?_
 cases h2:dp sig a
 ·refine kgo ?_
  (repeat refine fa ?_)
  refine kgo ?_
  exact g8
 refine kgo ?_
 cases h3:inR most 0 20
 ·refine kgo ?_
  exact g8
 have hm:=bO h3
 have f4:=Er (ij h2)
 have hgo:∀t b,pD sig rs most.toNat ⟨[],[]⟩ a=some (t,b)→(if (true && (true && true))=true then (match pD sig rs most.toNat ⟨[],[]⟩ a with|some (t,b)=>(t,b,true)|none=>(⟨[],[]⟩,dx,false)) else (⟨[],[]⟩,dx,false):Trc × Big × Bool)=(t,b,true):=fun t b h=>by rw [h];rfl
 have hno:pD sig rs most.toNat ⟨[],[]⟩ a=none→(if (true && (true && true))=true then (match pD sig rs most.toNat ⟨[],[]⟩ a with|some (t,b)=>(t,b,true)|none=>(⟨[],[]⟩,dx,false)) else (⟨[],[]⟩,dx,false):Trc × Big × Bool)=(⟨[],[]⟩,dx,false):=fun h=>by rw [h];rfl
 refine kgo ?_
 refine aj [0,1,3,8,9,11,12] (fun x:Trc × Big=>(x.1.rules.length:Int)≤most∧x.1.ms.length=x.1.rules.length∧dp sig x.2=true∧pD sig rs most.toNat ⟨[],[]⟩ a=pD sig rs (most.toNat - x.1.rules.length) x.1 x.2) (fun x=>most.toNat - x.1.rules.length) (fun x=>[(10011,.tk (.bx [.k 20001,.k 20002])),(20001,.tk (.row 1 3 (x.1.rules.map .i))),(20002,.tk (.row 2 62 (x.1.ms.map Mat.D))),(10012,.tk (.bx (flat x.2.D)))]) (⟨[],[]⟩,a) ⟨hm.1,rfl,h2,rfl⟩ (fun x hx=>?_)
 obtain ⟨t,b⟩:=x
 obtain ⟨hl,hml,hb,hrun⟩:=hx
 dsimp only at hl hml hb hrun ⊢
 have f5:=ul h1 hb
 refine kgo ?_
 refine aO (fun h=>?_) (fun h=>?_)
 rotate_left
 ·rw [hgo t b (by rw [hrun,show most.toNat - t.rules.length=0 by simp at h;omega];rfl)]
  refine mi 10011 0 ?_
  refine mi 10011 1 ?_
  refine kgo ?_
  exact g8
 obtain ⟨n,hn⟩:∃n,most.toNat - t.rules.length=n+1:=⟨most.toNat - t.rules.length - 1,by simp at h;omega⟩
 have hag:=fun l=>nO rs 0 [] l (fun s hs=>nomatch hs) (sig:=sig) (a:=b)
 have hnx:=hrun
 rw [hn,pm] at hnx
 generalize dt sig b rs 0 []=q at *
 cases q with
 | none=>
  rw [hno hnx]
  refine kgo ?_
  exact g8
 | some l=>
  cases l with
  | nil=>
   rw [hgo t b hnx]
   refine mi 10011 0 ?_
   refine mi 10011 1 ?_
   refine kgo ?_
   exact g8
  | cons s l=>
   have hz:0<(s :: l).length:=Nat.succ_pos _
   have hsa:dp sig s.res=true:=hag _ rfl s (List.mem_cons_self ..)
   have hs1:(t.rules++[s.rule]).map D.i=t.rules.map D.i++[D.i s.rule]:=List.map_append
   have hs2:(t.ms++[s.mat]).map Mat.D=t.ms.map Mat.D++[Mat.D s.mat]:=List.map_append
   refine kgo ?_
   exact af (⟨t.rules++[s.rule],t.ms++[s.mat]⟩,s.res) ⟨by show ((t.rules++[s.rule]).length:Int)≤most;rw [List.length_append,List.length_singleton];omega,by show (t.ms++[s.mat]).length=(t.rules++[s.rule]).length;rw [List.length_append,List.length_append,hml];rfl,hsa,by rw [hnx];show pD sig rs n _ _=pD sig rs (most.toNat - (t.rules++[s.rule]).length) _ _;rw [List.length_append,List.length_singleton,show most.toNat - (t.rules.length+1)=n by omega]⟩ (by show _ - (t.rules++[s.rule]).length<_ - t.rules.length;rw [List.length_append,List.length_singleton];omega)
theorem Ip {P:Program} {ops:Array Oper} {W0:b7} {N:Nat} {Fin:Us→Env→Prop} {os:List Oper} {us:Us} {pk fk:List Nat} {σ:Env} (i:Nat) {z e:Nat} {ds:List D} {o:Oper} (h:Der P ops W0 N Fin (o :: os) us ([i]++pk) ([i]++fk) ((i,.tk (.own (.l z ds) none none)) :: σ)) (hi:ai σ i=some (.tk (.grw z e ds)):=by rfl):Der P ops W0 N Fin (o :: os) us pk fk σ:=
 sGh [i] [(i,.tk (.own (.l z ds) none none))] (fun σ' a w hk ⟨c,hc⟩=>by
  have hi':=(hk i (by simp)).trans hi
  obtain ⟨hA,hT,hlt⟩:=hc.tok i _ hi'
  exact ⟨c,hc.upd2 hi' Chg.rfl' (fun _=>⟨AB hT,fun p hp=>(by cases hp),fun p hp=>(by cases hp)⟩)⟩) h
abbrev H9 (t:Trc) (b:Big) (k:Bool):List Pt:=[.tk (.own (DI t.rules) none none),.tk (.own (.l 2 (t.ms.map Mat.D)) none none),.d (.i b.roots),.tk (.own (.l 3 (b.nodes.map Nd.D)) none none),.tk (.own (DI b.sites) none none),.d (.i b.edges),.tk (.own (DS b.outer) none none),.tk (.own (.l 2 (b.inner.map Wr.D)) none none),.d (.b k)]
theorem kE (sig:List Ctl) (rs:List Rul) (a:Big) (most:Int) (hr:∀r∈rs,r.redex.inner.length≤1048576∧r.reactum.inner.length≤1048576) (ha:a.inner.length≤1048576):FnO Tryz.prog 37 [.l 3 (sig.map Ctl.D),.l 13 (rs.map Rul.D),a.D,.i most] [2,6,0] (H9 (bd sig rs a most).1 (bd sig rs a most).2.1 (bd sig rs a most).2.2):=by
 have f1:=pY sig rs hr
 have f2:=tg sig a (by omega)
 have f3:=rU most 0 20
 refine dH Tryz.func37 (fun hw W0=>?_)
 unfold bd
 refine kgo ?_
 cases h1:fo sig rs
 ·refine kgo ?_
  (repeat refine fa ?_)
  refine kgo ?_
  exact g6 (hp:=.cons .o (.cons .o (.cons (.d rfl) (.cons .o (.cons .o (.cons (.d rfl) (.cons .o (.cons .o (.cons (.d rfl) .nil)))))))))
 refine kgo ?_
 cases h2:dp sig a
 ·refine kgo ?_
  (repeat refine fa ?_)
  refine kgo ?_
  exact g6 (hp:=.cons .o (.cons .o (.cons (.d rfl) (.cons .o (.cons .o (.cons (.d rfl) (.cons .o (.cons .o (.cons (.d rfl) .nil)))))))))
 refine kgo ?_
 cases h3:inR most 0 20
 ·refine kgo ?_
  exact g6 (hp:=.cons .o (.cons .o (.cons (.d rfl) (.cons .o (.cons .o (.cons (.d rfl) (.cons .o (.cons .o (.cons (.d rfl) .nil)))))))))
 have hm:=bO h3
 have f4:=kf a (bB (ij h2)) (by have:=(dh (ij h2)).inner;omega)
 have hgo:∀t b,pD sig rs most.toNat ⟨[],[]⟩ a=some (t,b)→(if (true && (true && true))=true then (match pD sig rs most.toNat ⟨[],[]⟩ a with|some (t,b)=>(t,b,true)|none=>(⟨[],[]⟩,dx,false)) else (⟨[],[]⟩,dx,false):Trc × Big × Bool)=(t,b,true):=fun t b h=>by rw [h];rfl
 have hno:pD sig rs most.toNat ⟨[],[]⟩ a=none→(if (true && (true && true))=true then (match pD sig rs most.toNat ⟨[],[]⟩ a with|some (t,b)=>(t,b,true)|none=>(⟨[],[]⟩,dx,false)) else (⟨[],[]⟩,dx,false):Trc × Big × Bool)=(⟨[],[]⟩,dx,false):=fun h=>by rw [h];rfl
 refine kgo ?_
 refine Ge 31034 ?_
 refine mZ (ds:=a.sites.map D.i) 32034 (fun d hd=>by obtain ⟨n,_,rfl⟩:=List.mem_map.1 hd;exact ⟨rfl,rfl⟩) ?_
 refine mZ (ds:=a.outer.map D.s) 34034 (fun d hd=>by obtain ⟨n,_,rfl⟩:=List.mem_map.1 hd;exact ⟨rfl,rfl⟩) ?_
 refine mZ (ds:=a.inner.map Wr.D) 35034 (fun d hd=>by obtain ⟨n,_,rfl⟩:=List.mem_map.1 hd;exact ⟨rfl,rfl⟩) ?_
 refine lx 10011 0 20001 3 ?_
 refine lx 10011 1 20002 62 ?_
 refine GX 20002 ?_
 refine aj [0,1,8,9,11,12,35] (fun x:Nat × Trc × Big=>(x.1:Int)≤most∧x.2.1.rules.length≤x.1∧x.2.1.ms.length≤x.1∧dp sig x.2.2=true∧pD sig rs most.toNat ⟨[],[]⟩ a=pD sig rs (most.toNat - x.1) x.2.1 x.2.2) (fun x=>most.toNat - x.1) (fun x=>[(36,.sy (.d (.i x.1))),(10011,.tk (.bx [.k 20001,.k 20002])),(20001,.tk (.row 1 3 (x.2.1.rules.map .i))),(20002,.tk (.grw 2 62 (x.2.1.ms.map Mat.D))),(10012,.tk (.bx [.d (.i x.2.2.roots),.k 20003,.k 20004,.d (.i x.2.2.edges),.k 20005,.k 20006])),(20003,.tk (.own (.l 3 (x.2.2.nodes.map Nd.D)) none none)),(20004,.tk (.own (DI x.2.2.sites) none none)),(20005,.tk (.own (DS x.2.2.outer) none none)),(20006,.tk (.own (.l 2 (x.2.2.inner.map Wr.D)) none none))]) (0,⟨[],[]⟩,a) ⟨hm.1,Nat.le_refl _,Nat.le_refl _,h2,rfl⟩ (fun x hx=>?_)
 obtain ⟨i,t,b⟩:=x
 obtain ⟨hl,hrl,hml,hb,hrun⟩:=hx
 dsimp only at hl hrl hml hb hrun ⊢
 have f5:=tI h1 hb
 refine kgo ?_
 refine aO (fun h=>?_) (fun h=>?_)
 rotate_left
 ·rw [hgo t b (by rw [hrun,show most.toNat - i=0 by (try simp at h);omega];rfl)]
  refine mZ (ds:=t.rules.map D.i) 20001 (fun d hd=>by obtain ⟨n,_,rfl⟩:=List.mem_map.1 hd;exact ⟨rfl,rfl⟩) ?_
  refine G5 20002 ?_
  refine kgo ?_
  exact g6 (hp:=.cons (.k rfl rfl) (.cons (.k rfl rfl) (.cons (.d rfl) (.cons (.k rfl rfl) (.cons (.k rfl rfl) (.cons (.d rfl) (.cons (.k rfl rfl) (.cons (.k rfl rfl) (.cons (.d rfl) .nil)))))))))
 obtain ⟨n,hn⟩:∃n,most.toNat - i=n+1:=⟨most.toNat - i - 1,by (try simp at h);omega⟩
 have hag:=fun l=>nO rs 0 [] l (fun s hs=>nomatch hs) (sig:=sig) (a:=b)
 have hnx:=hrun
 rw [hn,pm] at hnx
 generalize dt sig b rs 0 []=q at *
 refine kgo ?_
 refine pj (rK _ _ _ _) ?_
 cases q with
 | none=>
  rw [hno hnx]
  refine kgo ?_
  exact g6 (hp:=.cons .o (.cons .o (.cons (.d rfl) (.cons .o (.cons .o (.cons (.d rfl) (.cons .o (.cons .o (.cons (.d rfl) .nil)))))))))
 | some l=>
  cases l with
  | nil=>
   rw [hgo t b hnx]
   refine En (ds:=t.rules.map D.i) 20001 (fun d hd=>by obtain ⟨n,_,rfl⟩:=List.mem_map.1 hd;exact ⟨rfl,rfl⟩) ?_
   refine Ip 20002 ?_
   refine kgo ?_
   exact g6 (hp:=.cons (.k rfl rfl) (.cons (.k rfl rfl) (.cons (.d rfl) (.cons (.k rfl rfl) (.cons (.k rfl rfl) (.cons (.d rfl) (.cons (.k rfl rfl) (.cons (.k rfl rfl) (.cons (.d rfl) .nil)))))))))
  | cons s l=>
   have hz:0<(s :: l).length:=Nat.succ_pos _
   have hsa:dp sig s.res=true:=hag _ rfl s (List.mem_cons_self ..)
   have hs1:(t.rules++[s.rule]).map D.i=t.rules.map D.i++[D.i s.rule]:=List.map_append
   have hs2:(t.ms++[s.mat]).map Mat.D=t.ms.map Mat.D++[Mat.D s.mat]:=List.map_append
   refine wI ?_
   refine dP (aM ?_)
   (repeat (first|refine e9 ?_|refine bU ?_|refine fy ?_|refine fp ?_|refine aM ?_))
   refine dD ?_
   refine wI ?_
   refine dP (aM ?_)
   (repeat (first|refine e9 ?_|refine bU ?_|refine fy ?_|refine fp ?_|refine aM ?_))
   refine dD ?_
   refine wI ?_
   refine dP (aM ?_)
   (repeat (first|refine e9 ?_|refine bU ?_|refine fy ?_|refine fp ?_|refine aM ?_))
   refine Hp 30042 40000 ?_
   refine kgo ?_
   refine AQ ?_
   refine kgo ?_
   refine Gt (Mat.D s.mat) ?_
   refine kgo ?_
   refine rL ?_
   refine kgo ?_
   refine AQ ?_
   refine kgo ?_

   exact af (i+1,⟨t.rules++[s.rule],t.ms++[s.mat]⟩,s.res) ⟨by show ((i+1:Nat):Int)≤most;omega,by show (t.rules++[s.rule]).length≤i+1;rw [List.length_append,List.length_singleton];omega,by show (t.ms++[s.mat]).length≤i+1;rw [List.length_append,List.length_singleton];omega,hsa,by rw [hnx];show pD sig rs n _ _=pD sig rs (most.toNat - (i+1)) _ _;rw [show most.toNat - (i+1)=n by omega]⟩ (by show _ - (i+1)<_ - i;omega) (hs:=⟨⟨rfl,rfl⟩,⟨rfl,rfl⟩,⟨jN rfl hs1.symm,rfl⟩,⟨Em rfl hs2.symm,rfl⟩,by repeat (first|exact trivial|refine ⟨⟨rfl,rfl⟩,?_⟩)⟩)
end Go.Proofs.YtclpbhoekmecjaaGreatDoor
namespace Go.Proofs.YtclpbhoekmecjaaGreatDoor
open Go.RowKit
set_option linter.unusedVariables false
set_option linter.unusedSimpArgs false
set_option maxRecDepth 100000
set_option maxHeartbeats 4000000
attribute [local irreducible] aq Der At
theorem pe (t:Trc) (k:Int) (h0:0≤k) (h1:k+lN t≤1000000000):FnD Tryz.prog 38 [(qY k t).D,.i k] (.d (.i (k+lN t))):=by
 have e:lN t=cnL c1 t.rules+cnL gP t.ms:=rfl
 have f1:=fm t.rules k h0 (by omega)
 have f2:=sU t.ms (k+(cnL c1 t.rules:Nat)) (by omega) (by omega)
 rw [show k+(lN t:Int)=k+(cnL c1 t.rules:Nat)+(cnL gP t.ms:Nat) by omega]
 refine ah Tryz.func38 (fun hw W0=>?_)
 refine kgo ?_
 refine aO (fun h=>?_) (fun _=>?_)
 ·omega
 refine kgo ?_
 refine aO (fun h=>?_) (fun _=>?_)
 ·omega
 refine kgo ?_
 exact ar
theorem zv (t:Trc) (b:Big) (k:Bool):∀p∈H9 t b k,Ak p:=fun p hp=>by
 simp only [H9,List.mem_cons,List.not_mem_nil,or_false] at hp
 rcases hp with rfl|rfl|rfl|rfl|rfl|rfl|rfl|rfl|rfl <;> first|trivial|rfl
theorem EM {sig:List Ctl} {rs:List Rul} (hr:∀r∈rs,aF sig r.redex=true):∀(n:Nat) (t:Trc) (b:Big) (q:Trc × Big),(∀m∈t.ms,m.nodes.length≤1000∧m.roots.length≤1000)→dp sig b=true→pD sig rs n t b=some q→(∀m∈q.1.ms,m.nodes.length≤1000∧m.roots.length≤1000)∧q.1.rules.length≤t.rules.length+n∧q.1.ms.length≤t.ms.length+n∧dp sig q.2=true:=by
 intro n
 induction n with
 | zero=>intro t b q h1 h2 h;cases h;exact ⟨h1,Nat.le_refl _,Nat.le_refl _,h2⟩
 | succ n ih=>
  intro t b q h1 h2 h
  rw [pm] at h
  cases hs:dt sig b rs 0 [] with
  | none=>rw [hs] at h;cases h
  | some l=>
   rw [hs] at h
   cases l with
   | nil=>cases h;exact ⟨h1,by show t.rules.length≤_;omega,by show t.ms.length≤_;omega,h2⟩
   | cons s l=>
    obtain ⟨k1,_⟩:=ub rs 0 [] _ hr (fun s hs=>nomatch hs) hs
    have k2:=k1 s (List.mem_cons_self ..)
    obtain ⟨q1,q2,q3,q4⟩:=ih _ _ q (fun m hm=>by
     rcases List.mem_append.1 hm with hm|hm
     ·exact h1 m hm
     ·rw [List.mem_singleton.1 hm];exact ⟨k2.1,k2.2.1⟩) k2.2.2 h
    simp only [List.length_append,List.length_singleton] at q2 q3
    exact ⟨q1,by omega,by omega,q4⟩
theorem Iv (sig:List Ctl) (rs:List Rul) (a:Big) (most:Int):lN (bd sig rs a most).1≤100000∧jo (bd sig rs a most).2.1≤10000:=by
 have h0:lN ⟨[],[]⟩≤100000∧jo dx≤10000:=⟨by show cnL c1 ([]:List Int)+cnL gP []≤_;rw [ic];simp [cnL],by rw [yp];omega⟩
 have key:∀l:List Mat,(∀m∈l,m.nodes.length≤1000∧m.roots.length≤1000)→cnL gP l≤2000 * l.length:=by
  intro l
  induction l with
  | nil=>intro _;simp [cnL]
  | cons m l ih=>
   intro h
   have h1:=ih (fun x hx=>h x (List.mem_cons_of_mem _ hx))
   have h2:=h m (List.mem_cons_self ..)
   have e:gP m=cnL c1 m.nodes+cnL c1 m.roots:=rfl
   rw [ic,ic] at e
   rw [iH,List.length_cons]
   omega
 unfold bd
 split
 ·rename_i h
  rw [Bool.and_eq_true,Bool.and_eq_true] at h
  obtain ⟨g1,g2,g3⟩:=h
  have hrs:=List.all_eq_true.1 (Bool.and_eq_true_iff.1 g1).2
  have hm:=bO g3
  cases hq:pD sig rs most.toNat ⟨[],[]⟩ a with
  | none=>exact h0
  | some q=>
   obtain ⟨t,b⟩:=q
   obtain ⟨q1,q2,q3,q4⟩:=EM (fun r hr=>(gd (hrs r hr)).1) _ ⟨[],[]⟩ _ _ (fun m hm=>by cases hm) g2 hq
   have k1:=key _ q1
   have e:lN t=cnL c1 t.rules+cnL gP t.ms:=rfl
   rw [ic] at e
   simp only [List.length_nil] at q2 q3 k1
   exact ⟨by show lN t≤_;omega,tc (dh (ij q4))⟩
 ·exact h0
end Go.Proofs.YtclpbhoekmecjaaGreatDoor
