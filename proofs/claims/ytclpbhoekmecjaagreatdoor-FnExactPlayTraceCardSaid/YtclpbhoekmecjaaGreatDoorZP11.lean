/-
  Proved facts that the law leans on.
-/
import Derived.Test.YtclpbhoekmecjaaGreatDoorZP10
namespace Go.Proofs.YtclpbhoekmecjaaGreatDoor
open Go.RowKit
set_option linter.unusedVariables false
set_option maxRecDepth 100000
set_option maxHeartbeats 1000000
attribute [local irreducible] az Der At
theorem szP {n:Nat} {l:Int} (h:(n:Int)≤l):szR n l=l - n:=if_pos h
theorem szN {n:Nat} {l:Int} (h:¬(n:Int)≤l):szR n l = -1:=if_neg h
attribute [local irreducible] szR
def fl (m:Mat):Nat:=m.nodes.length+m.roots.length
def oT (t:Trc):Nat:=t.rules.length+wtL fl t.ms
theorem kv (xs:List Int) (left:Int) (h0:0≤left) (h1:left≤1048576):FnD Tryz.prog 42 [.l 1 (xs.map D.i),.i left] (.d (.i (szR xs.length left))):=by
 refine ai Tryz.func42 (fun hw W0=>?_)
 have hl:=(wfM hw.1).1
 refine kgo ?_
 refine aV (fun h=>?_) (fun h=>?_)
 ·rw [szN (by omega)]
  refine kgo ?_
  exact ax
 rw [szP (by omega)]
 refine kgo ?_
 exact ax
theorem uv (xs:List ByteArray) (left:Int) (h0:0≤left) (h1:left≤1048576):FnD Tryz.prog 43 [.l 1 (xs.map D.s),.i left] (.d (.i (szR (wtL gB xs) left))):=by
 have hww:wtL gB xs=xs.length+(xs.map gB).sum:=rfl
 refine ai Tryz.func43 (fun hw W0=>?_)
 have hl:=(wfM hw.1).1
 refine kgo ?_
 refine aV (fun h=>?_) (fun h=>?_)
 ·rw [szN (by omega)]
  refine kgo ?_
  exact ax
 refine kgo ?_
 refine ar [0] (fun x:Nat × Int=>x.1≤xs.length∧0≤x.2∧x.2=left - xs.length - (((xs.take x.1).map gB).sum:Nat)) (fun x=>xs.length - x.1) (fun x=>[(1,.sy (.d (.i x.2))),(5,.sy (.d (.i x.1)))]) (0,left - xs.length) ⟨Nat.zero_le _,by show 0≤left - (xs.length:Int);omega,by simp⟩ (fun x hx=>?_)
 obtain ⟨i,K⟩:=x
 obtain ⟨hi,hK0,hK⟩:=hx
 dsimp only at hi hK hK0 ⊢
 refine kgo ?_
 refine aV (fun h=>?_) (fun h=>?_)
 ·have hlt:i<xs.length:=by omega
  have hs:=kg gB xs i hlt
  have hle:=eM gB xs (i+1)
  have hx:gB xs[i]=(xs[i]).size:=rfl
  have hz:=hw.1.2.at _ (List.mem_map.2 ⟨xs[i],List.getElem_mem hlt,rfl⟩)
  have hz':(xs[i]).size≤9223372036854775807:=hz
  refine kgo ?_
  refine bY (e:=0) ?_
  refine kgo ?_
  refine aV (fun h=>?_) (fun h=>?_)
  ·rw [szN (by omega)]
   refine kgo ?_
   exact ax
  refine kgo ?_
  exact ab (i+1,K - ((xs[i]).size:Nat)) ⟨hlt,by show 0≤K - ((xs[i]).size:Int);omega,by show K - ((xs[i]).size:Int)=left - xs.length - (((xs.take (i+1)).map gB).sum:Nat);omega⟩ (by show _ - (i+1)<_ - i;omega)
 obtain rfl:i=xs.length:=by omega
 rw [List.take_length] at hK
 rw [szP (by omega),show left - ((wtL gB xs:Nat):Int)=K by omega]
 refine kgo ?_
 exact ax
theorem vu (x:Ctl) (left:Int) (h0:0≤left) (h1:left≤1048576):FnD Tryz.prog 39 [Ctl.D x,.i left] (.d (.i (szR (fb x) left))):=by
 have hww:fb x=(x.name).size:=rfl
 refine ai Tryz.func39 (fun hw W0=>?_)
 have hz:(x.name).size≤9223372036854775807:=hw.1.1
 refine kgo ?_
 refine bY (e:=0) ?_
 refine kgo ?_
 refine aV (fun h=>?_) (fun h=>?_)
 ·rw [szN (by omega)]
  refine kgo ?_
  exact ax
 rw [szP (by omega),show left - ((fb x:Nat):Int)=left - ((x.name).size:Nat) by omega]
 refine kgo ?_
 exact ax
theorem tI (xs:List Ctl) (left:Int) (h0:0≤left) (h1:left≤1048576):FnD Tryz.prog 7 [.l 3 (xs.map Ctl.D),.i left] (.d (.i (szR (wtL fb xs) left))):=by
 have hww:wtL fb xs=xs.length+(xs.map fb).sum:=rfl
 refine ai Tryz.func7 (fun hw W0=>?_)
 have hl:=(wfM hw.1).1
 refine kgo ?_
 refine aV (fun h=>?_) (fun h=>?_)
 ·rw [szN (by omega)]
  refine kgo ?_
  exact ax
 refine kgo ?_
 refine ar [0] (fun x:Nat × Int=>x.1≤xs.length∧0≤x.2∧x.2=left - xs.length - (((xs.take x.1).map fb).sum:Nat)) (fun x=>xs.length - x.1) (fun x=>[(1,.sy (.d (.i x.2))),(5,.sy (.d (.i x.1)))]) (0,left - xs.length) ⟨Nat.zero_le _,by show 0≤left - (xs.length:Int);omega,by simp⟩ (fun x hx=>?_)
 obtain ⟨i,K⟩:=x
 obtain ⟨hi,hK0,hK⟩:=hx
 dsimp only at hi hK hK0 ⊢
 refine kgo ?_
 refine aV (fun h=>?_) (fun h=>?_)
 ·have hlt:i<xs.length:=by omega
  have hs:=kg fb xs i hlt
  have hle:=eM fb xs (i+1)
  have f:=vu xs[i] K hK0 (by omega)
  by_cases hz:((fb xs[i]:Nat):Int)≤K
  ·rw [szP hz] at f
   refine kgo ?_
   refine aV (fun h=>?_) (fun h=>?_)
   ·omega
   refine kgo ?_
   exact ab (i+1,K - (fb xs[i]:Nat)) ⟨hlt,by show 0≤K - ((fb xs[i]:Nat):Int);omega,by show K - ((fb xs[i]:Nat):Int)=left - xs.length - (((xs.take (i+1)).map fb).sum:Nat);omega⟩ (by show _ - (i+1)<_ - i;omega)
  rw [szN hz] at f
  rw [szN (by omega)]
  refine kgo ?_
  exact ax
 obtain rfl:i=xs.length:=by omega
 rw [List.take_length] at hK
 rw [szP (by omega),show left - ((wtL fb xs:Nat):Int)=K by omega]
 refine kgo ?_
 exact ax
theorem CZ (x:Wr) (left:Int) (h0:0≤left) (h1:left≤1048576):FnD Tryz.prog 90 [Wr.D x,.i left] (.d (.i (szR (kF x) left))):=by
 have hww:kF x=(x.name).size:=rfl
 refine ai Tryz.func90 (fun hw W0=>?_)
 have hz:(x.name).size≤9223372036854775807:=hw.1.1
 refine kgo ?_
 refine bY (e:=0) ?_
 refine kgo ?_
 refine aV (fun h=>?_) (fun h=>?_)
 ·rw [szN (by omega)]
  refine kgo ?_
  exact ax
 rw [szP (by omega),show left - ((kF x:Nat):Int)=left - ((x.name).size:Nat) by omega]
 refine kgo ?_
 exact ax
theorem Ao (xs:List Wr) (left:Int) (h0:0≤left) (h1:left≤1048576):FnD Tryz.prog 44 [.l 2 (xs.map Wr.D),.i left] (.d (.i (szR (wtL kF xs) left))):=by
 have hww:wtL kF xs=xs.length+(xs.map kF).sum:=rfl
 refine ai Tryz.func44 (fun hw W0=>?_)
 have hl:=(wfM hw.1).1
 refine kgo ?_
 refine aV (fun h=>?_) (fun h=>?_)
 ·rw [szN (by omega)]
  refine kgo ?_
  exact ax
 refine kgo ?_
 refine ar [0] (fun x:Nat × Int=>x.1≤xs.length∧0≤x.2∧x.2=left - xs.length - (((xs.take x.1).map kF).sum:Nat)) (fun x=>xs.length - x.1) (fun x=>[(1,.sy (.d (.i x.2))),(5,.sy (.d (.i x.1)))]) (0,left - xs.length) ⟨Nat.zero_le _,by show 0≤left - (xs.length:Int);omega,by simp⟩ (fun x hx=>?_)
 obtain ⟨i,K⟩:=x
 obtain ⟨hi,hK0,hK⟩:=hx
 dsimp only at hi hK hK0 ⊢
 refine kgo ?_
 refine aV (fun h=>?_) (fun h=>?_)
 ·have hlt:i<xs.length:=by omega
  have hs:=kg kF xs i hlt
  have hle:=eM kF xs (i+1)
  have f:=CZ xs[i] K hK0 (by omega)
  by_cases hz:((kF xs[i]:Nat):Int)≤K
  ·rw [szP hz] at f
   refine kgo ?_
   refine aV (fun h=>?_) (fun h=>?_)
   ·omega
   refine kgo ?_
   exact ab (i+1,K - (kF xs[i]:Nat)) ⟨hlt,by show 0≤K - ((kF xs[i]:Nat):Int);omega,by show K - ((kF xs[i]:Nat):Int)=left - xs.length - (((xs.take (i+1)).map kF).sum:Nat);omega⟩ (by show _ - (i+1)<_ - i;omega)
  rw [szN hz] at f
  rw [szN (by omega)]
  refine kgo ?_
  exact ax
 obtain rfl:i=xs.length:=by omega
 rw [List.take_length] at hK
 rw [szP (by omega),show left - ((wtL kF xs:Nat):Int)=K by omega]
 refine kgo ?_
 exact ax
theorem C7 (x:Nd) (left:Int) (h0:0≤left) (h1:left≤1048576):FnD Tryz.prog 89 [Nd.D x,.i left] (.d (.i (szR (i6 x) left))):=by
 have hww:i6 x=(x.links).length:=rfl
 refine ai Tryz.func89 (fun hw W0=>?_)
 have flinks:=kv x.links (left) (by omega) (by omega)
 by_cases hlinks:(((x.links).length:Nat):Int)≤left
 rotate_left
 ·rw [szN hlinks] at flinks
  rw [szN (by omega)]
  refine kgo ?_
  exact ax
 rw [szP hlinks] at flinks
 refine kgo ?_
 refine aV (fun h=>?_) (fun h=>?_)
 ·omega
 rw [szP (by omega),show left - ((i6 x:Nat):Int)=left - ((x.links).length:Nat) by omega]
 refine kgo ?_
 exact ax
theorem y9 (xs:List Nd) (left:Int) (h0:0≤left) (h1:left≤1048576):FnD Tryz.prog 41 [.l 3 (xs.map Nd.D),.i left] (.d (.i (szR (wtL i6 xs) left))):=by
 have hww:wtL i6 xs=xs.length+(xs.map i6).sum:=rfl
 refine ai Tryz.func41 (fun hw W0=>?_)
 have hl:=(wfM hw.1).1
 refine kgo ?_
 refine aV (fun h=>?_) (fun h=>?_)
 ·rw [szN (by omega)]
  refine kgo ?_
  exact ax
 refine kgo ?_
 refine ar [0] (fun x:Nat × Int=>x.1≤xs.length∧0≤x.2∧x.2=left - xs.length - (((xs.take x.1).map i6).sum:Nat)) (fun x=>xs.length - x.1) (fun x=>[(1,.sy (.d (.i x.2))),(5,.sy (.d (.i x.1)))]) (0,left - xs.length) ⟨Nat.zero_le _,by show 0≤left - (xs.length:Int);omega,by simp⟩ (fun x hx=>?_)
 obtain ⟨i,K⟩:=x
 obtain ⟨hi,hK0,hK⟩:=hx
 dsimp only at hi hK hK0 ⊢
 refine kgo ?_
 refine aV (fun h=>?_) (fun h=>?_)
 ·have hlt:i<xs.length:=by omega
  have hs:=kg i6 xs i hlt
  have hle:=eM i6 xs (i+1)
  have f:=C7 xs[i] K hK0 (by omega)
  by_cases hz:((i6 xs[i]:Nat):Int)≤K
  ·rw [szP hz] at f
   refine kgo ?_
   refine aV (fun h=>?_) (fun h=>?_)
   ·omega
   refine kgo ?_
   exact ab (i+1,K - (i6 xs[i]:Nat)) ⟨hlt,by show 0≤K - ((i6 xs[i]:Nat):Int);omega,by show K - ((i6 xs[i]:Nat):Int)=left - xs.length - (((xs.take (i+1)).map i6).sum:Nat);omega⟩ (by show _ - (i+1)<_ - i;omega)
  rw [szN hz] at f
  rw [szN (by omega)]
  refine kgo ?_
  exact ax
 obtain rfl:i=xs.length:=by omega
 rw [List.take_length] at hK
 rw [szP (by omega),show left - ((wtL i6 xs:Nat):Int)=K by omega]
 refine kgo ?_
 exact ax
theorem k7 (x:Big) (left:Int) (h0:0≤left) (h1:left≤1048576):FnD Tryz.prog 9 [Big.D x,.i left] (.d (.i (szR (cR x) left))):=by
 have hww:cR x=wtL i6 x.nodes+(x.sites).length+wtL gB x.outer+wtL kF x.inner:=rfl
 refine ai Tryz.func9 (fun hw W0=>?_)
 have fnodes:=y9 x.nodes (left) (by omega) (by omega)
 by_cases hnodes:((wtL i6 x.nodes:Nat):Int)≤left
 rotate_left
 ·rw [szN hnodes] at fnodes
  rw [szN (by omega)]
  refine kgo ?_
  exact ax
 rw [szP hnodes] at fnodes
 refine kgo ?_
 refine aV (fun h=>?_) (fun h=>?_)
 ·omega
 have fsites:=kv x.sites (left - (wtL i6 x.nodes:Nat)) (by omega) (by omega)
 by_cases hsites:(((x.sites).length:Nat):Int)≤left - (wtL i6 x.nodes:Nat)
 rotate_left
 ·rw [szN hsites] at fsites
  rw [szN (by omega)]
  refine kgo ?_
  exact ax
 rw [szP hsites] at fsites
 refine kgo ?_
 refine aV (fun h=>?_) (fun h=>?_)
 ·omega
 have fouter:=uv x.outer (left - (wtL i6 x.nodes:Nat) - ((x.sites).length:Nat)) (by omega) (by omega)
 by_cases houter:((wtL gB x.outer:Nat):Int)≤left - (wtL i6 x.nodes:Nat) - ((x.sites).length:Nat)
 rotate_left
 ·rw [szN houter] at fouter
  rw [szN (by omega)]
  refine kgo ?_
  exact ax
 rw [szP houter] at fouter
 refine kgo ?_
 refine aV (fun h=>?_) (fun h=>?_)
 ·omega
 have finner:=Ao x.inner (left - (wtL i6 x.nodes:Nat) - ((x.sites).length:Nat) - (wtL gB x.outer:Nat)) (by omega) (by omega)
 by_cases hinner:((wtL kF x.inner:Nat):Int)≤left - (wtL i6 x.nodes:Nat) - ((x.sites).length:Nat) - (wtL gB x.outer:Nat)
 rotate_left
 ·rw [szN hinner] at finner
  rw [szN (by omega)]
  refine kgo ?_
  exact ax
 rw [szP hinner] at finner
 refine kgo ?_
 refine aV (fun h=>?_) (fun h=>?_)
 ·omega
 rw [szP (by omega),show left - ((cR x:Nat):Int)=left - (wtL i6 x.nodes:Nat) - ((x.sites).length:Nat) - (wtL gB x.outer:Nat) - (wtL kF x.inner:Nat) by omega]
 refine kgo ?_
 exact ax
theorem De (x:Rul) (left:Int) (h0:0≤left) (h1:left≤1048576):FnD Tryz.prog 40 [Rul.D x,.i left] (.d (.i (szR (dw x) left))):=by
 have hww:dw x=cR x.redex+cR x.reactum+(x.copies).length:=rfl
 refine ai Tryz.func40 (fun hw W0=>?_)
 have fredex:=k7 x.redex (left) (by omega) (by omega)
 by_cases hredex:((cR x.redex:Nat):Int)≤left
 rotate_left
 ·rw [szN hredex] at fredex
  rw [szN (by omega)]
  refine kgo ?_
  exact ax
 rw [szP hredex] at fredex
 refine kgo ?_
 refine aV (fun h=>?_) (fun h=>?_)
 ·omega
 have freactum:=k7 x.reactum (left - (cR x.redex:Nat)) (by omega) (by omega)
 by_cases hreactum:((cR x.reactum:Nat):Int)≤left - (cR x.redex:Nat)
 rotate_left
 ·rw [szN hreactum] at freactum
  rw [szN (by omega)]
  refine kgo ?_
  exact ax
 rw [szP hreactum] at freactum
 refine kgo ?_
 refine aV (fun h=>?_) (fun h=>?_)
 ·omega
 have fcopies:=kv x.copies (left - (cR x.redex:Nat) - (cR x.reactum:Nat)) (by omega) (by omega)
 by_cases hcopies:(((x.copies).length:Nat):Int)≤left - (cR x.redex:Nat) - (cR x.reactum:Nat)
 rotate_left
 ·rw [szN hcopies] at fcopies
  rw [szN (by omega)]
  refine kgo ?_
  exact ax
 rw [szP hcopies] at fcopies
 refine kgo ?_
 refine aV (fun h=>?_) (fun h=>?_)
 ·omega
 rw [szP (by omega),show left - ((dw x:Nat):Int)=left - (cR x.redex:Nat) - (cR x.reactum:Nat) - ((x.copies).length:Nat) by omega]
 refine kgo ?_
 exact ax
theorem zP (xs:List Rul) (left:Int) (h0:0≤left) (h1:left≤1048576):FnD Tryz.prog 8 [.l 13 (xs.map Rul.D),.i left] (.d (.i (szR (wtL dw xs) left))):=by
 have hww:wtL dw xs=xs.length+(xs.map dw).sum:=rfl
 refine ai Tryz.func8 (fun hw W0=>?_)
 have hl:=(wfM hw.1).1
 refine kgo ?_
 refine aV (fun h=>?_) (fun h=>?_)
 ·rw [szN (by omega)]
  refine kgo ?_
  exact ax
 refine kgo ?_
 refine ar [0] (fun x:Nat × Int=>x.1≤xs.length∧0≤x.2∧x.2=left - xs.length - (((xs.take x.1).map dw).sum:Nat)) (fun x=>xs.length - x.1) (fun x=>[(1,.sy (.d (.i x.2))),(5,.sy (.d (.i x.1)))]) (0,left - xs.length) ⟨Nat.zero_le _,by show 0≤left - (xs.length:Int);omega,by simp⟩ (fun x hx=>?_)
 obtain ⟨i,K⟩:=x
 obtain ⟨hi,hK0,hK⟩:=hx
 dsimp only at hi hK hK0 ⊢
 refine kgo ?_
 refine aV (fun h=>?_) (fun h=>?_)
 ·have hlt:i<xs.length:=by omega
  have hs:=kg dw xs i hlt
  have hle:=eM dw xs (i+1)
  have f:=De xs[i] K hK0 (by omega)
  by_cases hz:((dw xs[i]:Nat):Int)≤K
  ·rw [szP hz] at f
   refine kgo ?_
   refine aV (fun h=>?_) (fun h=>?_)
   ·omega
   refine kgo ?_
   exact ab (i+1,K - (dw xs[i]:Nat)) ⟨hlt,by show 0≤K - ((dw xs[i]:Nat):Int);omega,by show K - ((dw xs[i]:Nat):Int)=left - xs.length - (((xs.take (i+1)).map dw).sum:Nat);omega⟩ (by show _ - (i+1)<_ - i;omega)
  rw [szN hz] at f
  rw [szN (by omega)]
  refine kgo ?_
  exact ax
 obtain rfl:i=xs.length:=by omega
 rw [List.take_length] at hK
 rw [szP (by omega),show left - ((wtL dw xs:Nat):Int)=K by omega]
 refine kgo ?_
 exact ax
theorem zY (x:Mat) (left:Int) (h0:0≤left) (h1:left≤1048576):FnD Tryz.prog 91 [Mat.D x,.i left] (.d (.i (szR (fl x) left))):=by
 have hww:fl x=(x.nodes).length+(x.roots).length:=rfl
 refine ai Tryz.func91 (fun hw W0=>?_)
 have fnodes:=kv x.nodes (left) (by omega) (by omega)
 by_cases hnodes:(((x.nodes).length:Nat):Int)≤left
 rotate_left
 ·rw [szN hnodes] at fnodes
  rw [szN (by omega)]
  refine kgo ?_
  exact ax
 rw [szP hnodes] at fnodes
 refine kgo ?_
 refine aV (fun h=>?_) (fun h=>?_)
 ·omega
 have froots:=kv x.roots (left - ((x.nodes).length:Nat)) (by omega) (by omega)
 by_cases hroots:(((x.roots).length:Nat):Int)≤left - ((x.nodes).length:Nat)
 rotate_left
 ·rw [szN hroots] at froots
  rw [szN (by omega)]
  refine kgo ?_
  exact ax
 rw [szP hroots] at froots
 refine kgo ?_
 refine aV (fun h=>?_) (fun h=>?_)
 ·omega
 rw [szP (by omega),show left - ((fl x:Nat):Int)=left - ((x.nodes).length:Nat) - ((x.roots).length:Nat) by omega]
 refine kgo ?_
 exact ax
theorem xp (xs:List Mat) (left:Int) (h0:0≤left) (h1:left≤1048576):FnD Tryz.prog 45 [.l 2 (xs.map Mat.D),.i left] (.d (.i (szR (wtL fl xs) left))):=by
 have hww:wtL fl xs=xs.length+(xs.map fl).sum:=rfl
 refine ai Tryz.func45 (fun hw W0=>?_)
 have hl:=(wfM hw.1).1
 refine kgo ?_
 refine aV (fun h=>?_) (fun h=>?_)
 ·rw [szN (by omega)]
  refine kgo ?_
  exact ax
 refine kgo ?_
 refine ar [0] (fun x:Nat × Int=>x.1≤xs.length∧0≤x.2∧x.2=left - xs.length - (((xs.take x.1).map fl).sum:Nat)) (fun x=>xs.length - x.1) (fun x=>[(1,.sy (.d (.i x.2))),(5,.sy (.d (.i x.1)))]) (0,left - xs.length) ⟨Nat.zero_le _,by show 0≤left - (xs.length:Int);omega,by simp⟩ (fun x hx=>?_)
 obtain ⟨i,K⟩:=x
 obtain ⟨hi,hK0,hK⟩:=hx
 dsimp only at hi hK hK0 ⊢
 refine kgo ?_
 refine aV (fun h=>?_) (fun h=>?_)
 ·have hlt:i<xs.length:=by omega
  have hs:=kg fl xs i hlt
  have hle:=eM fl xs (i+1)
  have f:=zY xs[i] K hK0 (by omega)
  by_cases hz:((fl xs[i]:Nat):Int)≤K
  ·rw [szP hz] at f
   refine kgo ?_
   refine aV (fun h=>?_) (fun h=>?_)
   ·omega
   refine kgo ?_
   exact ab (i+1,K - (fl xs[i]:Nat)) ⟨hlt,by show 0≤K - ((fl xs[i]:Nat):Int);omega,by show K - ((fl xs[i]:Nat):Int)=left - xs.length - (((xs.take (i+1)).map fl).sum:Nat);omega⟩ (by show _ - (i+1)<_ - i;omega)
  rw [szN hz] at f
  rw [szN (by omega)]
  refine kgo ?_
  exact ax
 obtain rfl:i=xs.length:=by omega
 rw [List.take_length] at hK
 rw [szP (by omega),show left - ((wtL fl xs:Nat):Int)=K by omega]
 refine kgo ?_
 exact ax
theorem yV (x:Trc) (left:Int) (h0:0≤left) (h1:left≤1048576):FnD Tryz.prog 10 [Trc.D x,.i left] (.d (.i (szR (oT x) left))):=by
 have hww:oT x=(x.rules).length+wtL fl x.ms:=rfl
 refine ai Tryz.func10 (fun hw W0=>?_)
 have frules:=kv x.rules (left) (by omega) (by omega)
 by_cases hrules:(((x.rules).length:Nat):Int)≤left
 rotate_left
 ·rw [szN hrules] at frules
  rw [szN (by omega)]
  refine kgo ?_
  exact ax
 rw [szP hrules] at frules
 refine kgo ?_
 refine aV (fun h=>?_) (fun h=>?_)
 ·omega
 have fms:=xp x.ms (left - ((x.rules).length:Nat)) (by omega) (by omega)
 by_cases hms:((wtL fl x.ms:Nat):Int)≤left - ((x.rules).length:Nat)
 rotate_left
 ·rw [szN hms] at fms
  rw [szN (by omega)]
  refine kgo ?_
  exact ax
 rw [szP hms] at fms
 refine kgo ?_
 refine aV (fun h=>?_) (fun h=>?_)
 ·omega
 rw [szP (by omega),show left - ((oT x:Nat):Int)=left - ((x.rules).length:Nat) - (wtL fl x.ms:Nat) by omega]
 refine kgo ?_
 exact ax
end Go.Proofs.YtclpbhoekmecjaaGreatDoor
namespace Go.Proofs.YtclpbhoekmecjaaGreatDoor
open Go.RowKit
set_option linter.unusedVariables false
set_option maxRecDepth 100000
set_option maxHeartbeats 1000000
attribute [local irreducible] az Der At
theorem ko (xs:List Int) (hx:xs.length≤1048576):FnO Tryz.prog 51 [.l 1 (xs.map D.i)] [0] [.tk (.own (.l 1 (xs.map D.i)) none none)]:=by
 refine dy Tryz.func51 (fun hw W0=>?_)
 refine kgo ?_
 refine m7 (n:=xs.length) (.i 0) ?_ rfl rfl (hb:=by show 8 * xs.length≤1000000000;omega)
 refine kgo ?_
 refine pA (ds:=List.replicate xs.length (.i 0)) 10007 (fun d hd=>by rw [(List.mem_replicate.1 hd).2];exact ⟨rfl,rfl⟩) ?_
 refine ar [0,3,10007] (fun x:Nat × List D=>x.1≤xs.length∧x.2=rG D.i (.i 0) x.1 xs) (fun x=>xs.length - x.1) (fun x=>[(4,.sy (.d (.i x.1))),(10007,.tk (.own (.l 1 x.2) none none))]) (0,List.replicate xs.length (.i 0)) ⟨Nat.zero_le _,gN _ _ _⟩ (fun x hx=>?_)
 obtain ⟨i,ds⟩:=x
 obtain ⟨hi,hd⟩:=hx
 dsimp only at hi hd ⊢
 have hdl:=iZ hi hd
 refine kgt ?_
 refine aV (fun h=>?_) (fun h=>?_)
 ·have hlt:i<xs.length:=by omega
  have hlt':i<ds.length:=by omega
  have he:=ld hlt hd
  refine kgt ?_
  refine tU i 0 (ds.set i (D.i xs[i])) he rfl ?_
  refine kgt ?_
  exact ab (i+1,ds.set i (D.i xs[i])) ⟨hlt,gS hlt hd⟩ (by show _ - (i+1)<_ - i;omega)
 rw [i7 (by omega) hd]
 refine kgt ?_
 exact gP (hp:=.cons (.k rfl rfl) .nil)
theorem vo (xs:List ByteArray) (hx:wtL gB xs≤1048576):FnO Tryz.prog 52 [.l 1 (xs.map D.s)] [0] [.tk (.own (.l 1 (xs.map D.s)) none none)]:=by
 refine dy Tryz.func52 (fun hw W0=>?_)
 have hxl:=fC gB xs
 refine kgo ?_
 refine m7 (n:=xs.length) (.s ⟨#[]⟩) ?_ rfl rfl (hb:=by show 16 * xs.length≤1000000000;omega)
 refine kgo ?_
 refine pA (ds:=List.replicate xs.length (.s ⟨#[]⟩)) 10007 (fun d hd=>by rw [(List.mem_replicate.1 hd).2];exact ⟨rfl,rfl⟩) ?_
 refine ar [0,3,10007] (fun x:Nat × List D=>x.1≤xs.length∧x.2=rG D.s (.s ⟨#[]⟩) x.1 xs) (fun x=>xs.length - x.1) (fun x=>[(4,.sy (.d (.i x.1))),(10007,.tk (.own (.l 1 x.2) none none))]) (0,List.replicate xs.length (.s ⟨#[]⟩)) ⟨Nat.zero_le _,gN _ _ _⟩ (fun x hx=>?_)
 obtain ⟨i,ds⟩:=x
 obtain ⟨hi,hd⟩:=hx
 dsimp only at hi hd ⊢
 have hdl:=iZ hi hd
 refine kgt ?_
 refine aV (fun h=>?_) (fun h=>?_)
 ·have hlt:i<xs.length:=by omega
  have hlt':i<ds.length:=by omega
  have he:=ld hlt hd
  refine kgt ?_
  refine tU i 0 (ds.set i (D.s xs[i])) he rfl ?_
  refine kgt ?_
  exact ab (i+1,ds.set i (D.s xs[i])) ⟨hlt,gS hlt hd⟩ (by show _ - (i+1)<_ - i;omega)
 rw [i7 (by omega) hd]
 refine kgt ?_
 exact gP (hp:=.cons (.k rfl rfl) .nil)
theorem vx (x:Ctl):FnD Tryz.prog 48 [Ctl.D x] (.d (Ctl.D x)):=by
 refine ai Tryz.func48 (fun hw W0=>?_)
 refine kgo ?_
 exact ax
theorem ik (xs:List Ctl) (hx:wtL fb xs≤1048576):FnO Tryz.prog 12 [.l 3 (xs.map Ctl.D)] [0] [.tk (.own (.l 3 (xs.map Ctl.D)) none none)]:=by
 refine dy Tryz.func12 (fun hw W0=>?_)
 have hxl:=fC fb xs
 refine kgo ?_
 refine m7 (n:=xs.length) (.t [.s ⟨#[]⟩,.i 0,.i 0]) ?_ rfl rfl (hb:=by show 32 * xs.length≤1000000000;omega)
 refine kgo ?_
 refine pA (ds:=List.replicate xs.length (.t [.s ⟨#[]⟩,.i 0,.i 0])) 10007 (fun d hd=>by rw [(List.mem_replicate.1 hd).2];exact ⟨rfl,rfl⟩) ?_
 refine ar [0,3,10007] (fun x:Nat × List D=>x.1≤xs.length∧x.2=rG Ctl.D (.t [.s ⟨#[]⟩,.i 0,.i 0]) x.1 xs) (fun x=>xs.length - x.1) (fun x=>[(4,.sy (.d (.i x.1))),(10007,.tk (.own (.l 3 x.2) none none))]) (0,List.replicate xs.length (.t [.s ⟨#[]⟩,.i 0,.i 0])) ⟨Nat.zero_le _,gN _ _ _⟩ (fun x hx=>?_)
 obtain ⟨i,ds⟩:=x
 obtain ⟨hi,hd⟩:=hx
 dsimp only at hi hd ⊢
 have hdl:=iZ hi hd
 refine kgt ?_
 refine aV (fun h=>?_) (fun h=>?_)
 ·have hlt:i<xs.length:=by omega
  have hlt':i<ds.length:=by omega
  have he:=ld hlt hd
  have f:=vx xs[i]
  refine kgt ?_
  exact ab (i+1,ds.set i (Ctl.D xs[i])) ⟨hlt,gS hlt hd⟩ (by show _ - (i+1)<_ - i;omega)
 rw [i7 (by omega) hd]
 refine kgt ?_
 exact gP (hp:=.cons (.k rfl rfl) .nil)
theorem CL (x:Wr):FnD Tryz.prog 96 [Wr.D x] (.d (Wr.D x)):=by
 refine ai Tryz.func96 (fun hw W0=>?_)
 refine kgo ?_
 exact ax
theorem A0 (xs:List Wr) (hx:wtL kF xs≤1048576):FnO Tryz.prog 53 [.l 2 (xs.map Wr.D)] [0] [.tk (.own (.l 2 (xs.map Wr.D)) none none)]:=by
 refine dy Tryz.func53 (fun hw W0=>?_)
 have hxl:=fC kF xs
 refine kgo ?_
 refine m7 (n:=xs.length) (.t [.s ⟨#[]⟩,.i 0]) ?_ rfl rfl (hb:=by show 24 * xs.length≤1000000000;omega)
 refine kgo ?_
 refine pA (ds:=List.replicate xs.length (.t [.s ⟨#[]⟩,.i 0])) 10007 (fun d hd=>by rw [(List.mem_replicate.1 hd).2];exact ⟨rfl,rfl⟩) ?_
 refine ar [0,3,10007] (fun x:Nat × List D=>x.1≤xs.length∧x.2=rG Wr.D (.t [.s ⟨#[]⟩,.i 0]) x.1 xs) (fun x=>xs.length - x.1) (fun x=>[(4,.sy (.d (.i x.1))),(10007,.tk (.own (.l 2 x.2) none none))]) (0,List.replicate xs.length (.t [.s ⟨#[]⟩,.i 0])) ⟨Nat.zero_le _,gN _ _ _⟩ (fun x hx=>?_)
 obtain ⟨i,ds⟩:=x
 obtain ⟨hi,hd⟩:=hx
 dsimp only at hi hd ⊢
 have hdl:=iZ hi hd
 refine kgt ?_
 refine aV (fun h=>?_) (fun h=>?_)
 ·have hlt:i<xs.length:=by omega
  have hlt':i<ds.length:=by omega
  have he:=ld hlt hd
  have f:=CL xs[i]
  refine kgt ?_
  exact ab (i+1,ds.set i (Wr.D xs[i])) ⟨hlt,gS hlt hd⟩ (by show _ - (i+1)<_ - i;omega)
 rw [i7 (by omega) hd]
 refine kgt ?_
 exact gP (hp:=.cons (.k rfl rfl) .nil)
theorem B4 (x:Nd) (hx:i6 x≤1048576):FnO Tryz.prog 95 [Nd.D x] [3] [.d (.i x.control),.d (.i x.parent),.tk (.own (.l 1 (x.links.map D.i)) none none)]:=by
 have hww:i6 x=(x.links).length:=rfl
 have flinks:=ko x.links (by omega)
 refine dy Tryz.func95 (fun hw W0=>?_)
 refine kgt ?_
 exact gP (hp:=.cons (.d rfl) (.cons (.d rfl) (.cons (.k rfl rfl) (.nil))))
theorem zh (xs:List Nd) (hx:wtL i6 xs≤1048576):FnO Tryz.prog 50 [.l 3 (xs.map Nd.D)] [0] [.tk (.own (.l 3 (xs.map Nd.D)) none none)]:=by
 refine dy Tryz.func50 (fun hw W0=>?_)
 have hxl:=fC i6 xs
 refine kgo ?_
 refine m7 (n:=xs.length) (.t [.i 0,.i 0,.n 1]) ?_ rfl rfl (hb:=by show 40 * xs.length≤1000000000;omega)
 refine kgo ?_
 refine pA (ds:=List.replicate xs.length (.t [.i 0,.i 0,.n 1])) 10007 (fun d hd=>by rw [(List.mem_replicate.1 hd).2];exact ⟨rfl,rfl⟩) ?_
 refine ar [0,3,10007] (fun x:Nat × List D=>x.1≤xs.length∧x.2=rG Nd.D (.t [.i 0,.i 0,.n 1]) x.1 xs) (fun x=>xs.length - x.1) (fun x=>[(4,.sy (.d (.i x.1))),(10007,.tk (.own (.l 3 x.2) none none))]) (0,List.replicate xs.length (.t [.i 0,.i 0,.n 1])) ⟨Nat.zero_le _,gN _ _ _⟩ (fun x hx=>?_)
 obtain ⟨i,ds⟩:=x
 obtain ⟨hi,hd⟩:=hx
 dsimp only at hi hd ⊢
 have hdl:=iZ hi hd
 refine kgt ?_
 refine aV (fun h=>?_) (fun h=>?_)
 ·have hlt:i<xs.length:=by omega
  have hlt':i<ds.length:=by omega
  have he:=ld hlt hd
  have f:=B4 xs[i] (by have:=kV i6 xs _ (List.getElem_mem hlt);omega)
  refine kgt ?_
  refine qH (Nd.D xs[i]) ?_
  refine kgt ?_
  exact ab (i+1,ds.set i (Nd.D xs[i])) ⟨hlt,gS hlt hd⟩ (by show _ - (i+1)<_ - i;omega)
 rw [i7 (by omega) hd]
 refine kgt ?_
 exact gP (hp:=.cons (.k rfl rfl) .nil)
theorem fA (x:Big) (hx:cR x≤1048576):FnO Tryz.prog 14 [Big.D x] [6] [.d (.i x.roots),.tk (.own (.l 3 (x.nodes.map Nd.D)) none none),.tk (.own (.l 1 (x.sites.map D.i)) none none),.d (.i x.edges),.tk (.own (.l 1 (x.outer.map D.s)) none none),.tk (.own (.l 2 (x.inner.map Wr.D)) none none)]:=by
 have hww:cR x=wtL i6 x.nodes+(x.sites).length+wtL gB x.outer+wtL kF x.inner:=rfl
 have fnodes:=zh x.nodes (by omega)
 have fsites:=ko x.sites (by omega)
 have fouter:=vo x.outer (by omega)
 have finner:=A0 x.inner (by omega)
 refine dy Tryz.func14 (fun hw W0=>?_)
 refine kgt ?_
 exact gP (hp:=.cons (.d rfl) (.cons (.k rfl rfl) (.cons (.k rfl rfl) (.cons (.d rfl) (.cons (.k rfl rfl) (.cons (.k rfl rfl) (.nil)))))))
theorem Cm (x:Rul) (hx:dw x≤1048576):FnO Tryz.prog 49 [Rul.D x] [13] [.d (.i x.redex.roots),.tk (.own (.l 3 (x.redex.nodes.map Nd.D)) none none),.tk (.own (.l 1 (x.redex.sites.map D.i)) none none),.d (.i x.redex.edges),.tk (.own (.l 1 (x.redex.outer.map D.s)) none none),.tk (.own (.l 2 (x.redex.inner.map Wr.D)) none none),.d (.i x.reactum.roots),.tk (.own (.l 3 (x.reactum.nodes.map Nd.D)) none none),.tk (.own (.l 1 (x.reactum.sites.map D.i)) none none),.d (.i x.reactum.edges),.tk (.own (.l 1 (x.reactum.outer.map D.s)) none none),.tk (.own (.l 2 (x.reactum.inner.map Wr.D)) none none),.tk (.own (.l 1 (x.copies.map D.i)) none none)]:=by
 have hww:dw x=cR x.redex+cR x.reactum+(x.copies).length:=rfl
 have fredex:=fA x.redex (by omega)
 have freactum:=fA x.reactum (by omega)
 have fcopies:=ko x.copies (by omega)
 refine dy Tryz.func49 (fun hw W0=>?_)
 refine kgt ?_
 exact gP (hp:=.cons (.d rfl) (.cons (.k rfl rfl) (.cons (.k rfl rfl) (.cons (.d rfl) (.cons (.k rfl rfl) (.cons (.k rfl rfl) (.cons (.d rfl) (.cons (.k rfl rfl) (.cons (.k rfl rfl) (.cons (.d rfl) (.cons (.k rfl rfl) (.cons (.k rfl rfl) (.cons (.k rfl rfl) (.nil))))))))))))))
theorem lJ (xs:List Rul) (hx:wtL dw xs≤1048576):FnO Tryz.prog 13 [.l 13 (xs.map Rul.D)] [0] [.tk (.own (.l 13 (xs.map Rul.D)) none none)]:=by
 refine dy Tryz.func13 (fun hw W0=>?_)
 have hxl:=fC dw xs
 refine kgo ?_
 refine m7 (n:=xs.length) (.t [.t [.i 0,.n 3,.n 1,.i 0,.n 1,.n 2],.t [.i 0,.n 3,.n 1,.i 0,.n 1,.n 2],.n 1]) ?_ rfl rfl (hb:=by show 248 * xs.length≤1000000000;omega)
 refine kgo ?_
 refine pA (ds:=List.replicate xs.length (.t [.t [.i 0,.n 3,.n 1,.i 0,.n 1,.n 2],.t [.i 0,.n 3,.n 1,.i 0,.n 1,.n 2],.n 1])) 10007 (fun d hd=>by rw [(List.mem_replicate.1 hd).2];exact ⟨rfl,rfl⟩) ?_
 refine ar [0,3,10007] (fun x:Nat × List D=>x.1≤xs.length∧x.2=rG Rul.D (.t [.t [.i 0,.n 3,.n 1,.i 0,.n 1,.n 2],.t [.i 0,.n 3,.n 1,.i 0,.n 1,.n 2],.n 1]) x.1 xs) (fun x=>xs.length - x.1) (fun x=>[(4,.sy (.d (.i x.1))),(10007,.tk (.own (.l 13 x.2) none none))]) (0,List.replicate xs.length (.t [.t [.i 0,.n 3,.n 1,.i 0,.n 1,.n 2],.t [.i 0,.n 3,.n 1,.i 0,.n 1,.n 2],.n 1])) ⟨Nat.zero_le _,gN _ _ _⟩ (fun x hx=>?_)
 obtain ⟨i,ds⟩:=x
 obtain ⟨hi,hd⟩:=hx
 dsimp only at hi hd ⊢
 have hdl:=iZ hi hd
 refine kgt ?_
 refine aV (fun h=>?_) (fun h=>?_)
 ·have hlt:i<xs.length:=by omega
  have hlt':i<ds.length:=by omega
  have he:=ld hlt hd
  have f:=Cm xs[i] (by have:=kV dw xs _ (List.getElem_mem hlt);omega)
  refine kgt ?_
  refine qH (Rul.D xs[i]) ?_
  refine kgt ?_
  exact ab (i+1,ds.set i (Rul.D xs[i])) ⟨hlt,gS hlt hd⟩ (by show _ - (i+1)<_ - i;omega)
 rw [i7 (by omega) hd]
 refine kgt ?_
 exact gP (hp:=.cons (.k rfl rfl) .nil)
theorem A8 (x:Mat) (hx:fl x≤1048576):FnO Tryz.prog 97 [Mat.D x] [2] [.tk (.own (.l 1 (x.nodes.map D.i)) none none),.tk (.own (.l 1 (x.roots.map D.i)) none none)]:=by
 have hww:fl x=(x.nodes).length+(x.roots).length:=rfl
 have fnodes:=ko x.nodes (by omega)
 have froots:=ko x.roots (by omega)
 refine dy Tryz.func97 (fun hw W0=>?_)
 refine kgt ?_
 exact gP (hp:=.cons (.k rfl rfl) (.cons (.k rfl rfl) (.nil)))
theorem xB (xs:List Mat) (hx:wtL fl xs≤1048576):FnO Tryz.prog 54 [.l 2 (xs.map Mat.D)] [0] [.tk (.own (.l 2 (xs.map Mat.D)) none none)]:=by
 refine dy Tryz.func54 (fun hw W0=>?_)
 have hxl:=fC fl xs
 refine kgo ?_
 refine m7 (n:=xs.length) (.t [.n 1,.n 1]) ?_ rfl rfl (hb:=by show 48 * xs.length≤1000000000;omega)
 refine kgo ?_
 refine pA (ds:=List.replicate xs.length (.t [.n 1,.n 1])) 10007 (fun d hd=>by rw [(List.mem_replicate.1 hd).2];exact ⟨rfl,rfl⟩) ?_
 refine ar [0,3,10007] (fun x:Nat × List D=>x.1≤xs.length∧x.2=rG Mat.D (.t [.n 1,.n 1]) x.1 xs) (fun x=>xs.length - x.1) (fun x=>[(4,.sy (.d (.i x.1))),(10007,.tk (.own (.l 2 x.2) none none))]) (0,List.replicate xs.length (.t [.n 1,.n 1])) ⟨Nat.zero_le _,gN _ _ _⟩ (fun x hx=>?_)
 obtain ⟨i,ds⟩:=x
 obtain ⟨hi,hd⟩:=hx
 dsimp only at hi hd ⊢
 have hdl:=iZ hi hd
 refine kgt ?_
 refine aV (fun h=>?_) (fun h=>?_)
 ·have hlt:i<xs.length:=by omega
  have hlt':i<ds.length:=by omega
  have he:=ld hlt hd
  have f:=A8 xs[i] (by have:=kV fl xs _ (List.getElem_mem hlt);omega)
  refine kgt ?_
  refine qH (Mat.D xs[i]) ?_
  refine kgt ?_
  exact ab (i+1,ds.set i (Mat.D xs[i])) ⟨hlt,gS hlt hd⟩ (by show _ - (i+1)<_ - i;omega)
 rw [i7 (by omega) hd]
 refine kgt ?_
 exact gP (hp:=.cons (.k rfl rfl) .nil)
theorem lY (x:Trc) (hx:oT x≤1048576):FnO Tryz.prog 15 [Trc.D x] [2] [.tk (.own (.l 1 (x.rules.map D.i)) none none),.tk (.own (.l 2 (x.ms.map Mat.D)) none none)]:=by
 have hww:oT x=(x.rules).length+wtL fl x.ms:=rfl
 have frules:=ko x.rules (by omega)
 have fms:=xB x.ms (by omega)
 refine dy Tryz.func15 (fun hw W0=>?_)
 refine kgt ?_
 exact gP (hp:=.cons (.k rfl rfl) (.cons (.k rfl rfl) (.nil)))
end Go.Proofs.YtclpbhoekmecjaaGreatDoor
namespace Go.Proofs.YtclpbhoekmecjaaGreatDoor
open Go.RowKit
set_option linter.unusedVariables false
set_option maxRecDepth 100000
attribute [local irreducible] cnL wtL
theorem Ej (m:Mat):li m=fl m:=by unfold li fl;rw [jz,jz]
theorem lC (sig:List Ctl) (rs:List Rul) (a:Big) (t:Trc) (h:wtL fb sig+wtL dw rs+cR a+oT t≤1048576):cnL c3 sig+cnL eR rs+kz a+Dr t≤900000000:=by
 have h1:=fC fb sig
 have h2:=za eR dw 4 (by omega) Cs rs
 have h3:=uJ a
 have h4:=za li fl 1 (by omega) (fun m=>by rw [Ej];omega) t.ms
 have e:oT t=t.rules.length+wtL fl t.ms:=rfl
 have e2:Dr t=cnL c1 t.rules+cnL li t.ms:=rfl
 rw [jz] at e2
 rw [F7]
 omega
theorem Ex:∀xs:List Nd,(∀x∈xs,x.links.length≤1000)→cnL cNd xs≤1002 * xs.length:=by
 intro xs
 induction xs with
 | nil=>intro _;simp [cnL]
 | cons x xs ih=>
  intro h
  have h1:=ih (fun y hy=>h y (by simp [hy]))
  have h2:=h x (by simp)
  have h3:cNd x=2+cnL c1 x.links:=rfl
  rw [jz] at h3
  rw [kq,List.length_cons]
  omega
theorem zA {b:Big} (h:rK b):kz b≤10000:=by
 have e:kz b=cnL cNd b.nodes+cnL c1 b.sites+cnL c1 b.outer+cnL c2 b.inner:=rfl
 have h1:=Ex b.nodes (fun x hx=>by
  obtain ⟨i,hi,rfl⟩:=List.mem_iff_getElem.1 hx
  exact h.dims.links i hi)
 rw [jz,jz,Aj] at e
 have:=h.nodes;have:=h.sitesN;have:=h.outer;have:=h.inner
 omega
theorem xn:kz eE=0:=by
 show cnL cNd []+cnL c1 ([]:List Int)+cnL c1 ([]:List ByteArray)+cnL c2 ([]:List Wr)=0
 rw [jz,jz,Aj];simp [cnL]
theorem uy {sig:List Ctl} {rs:List Rul}:∀(l:List (Int × Mat)) (b:Big) (i:Nat),fq sig b=true→fq sig (rm sig rs l b i).1=true:=by
 intro l
 induction l with
 | nil=>intro b i h;exact h
 | cons p l ih=>
  intro b i h
  obtain ⟨k,m⟩:=p
  unfold rm
  split
  ·rename_i hs
   unfold Ac at hs
   simp only [Bool.and_eq_true] at hs
   exact ih _ _ (kZ hs.2.2.2)
  ·exact h
theorem mu (sig:List Ctl) (rs:List Rul) (a:Big) (t:Trc):kz (al sig rs a t).1≤10000:=by
 unfold al
 split
 ·rename_i h
  unfold kb at h
  simp only [Bool.and_eq_true] at h
  exact zA (dt (eI (uy _ _ _ h.2.1)))
 ·rw [xn];omega
end Go.Proofs.YtclpbhoekmecjaaGreatDoor
namespace Go.Proofs.YtclpbhoekmecjaaGreatDoor
open Go.RowKit
set_option linter.unusedVariables false
set_option maxRecDepth 100000
set_option maxHeartbeats 16000000
attribute [local irreducible] az Der At jZ mkL cnL mh szR wtL al
theorem nO (sig:List Ctl) (rs:List Rul) (a:Big) (t:Trc) (W0:oK) (hS:wtL fb sig+wtL dw rs+cR a+oT t≤1048576):az Tryz.prog W0.toB Tryz.f3.ntmps (CM 29 (Tryz.f3.body.getD .skip)) [(0,.sy (.d (.l 3 (sig.map Ctl.D)))),(1,.sy (.d (.l 13 (rs.map Rul.D)))),(6,.sy (.bx 10006 0)),(10006,.tk (.bx [.d (.i a.roots),.d (.l 3 (a.nodes.map Nd.D)),.d (.l 1 (a.sites.map D.i)),.d (.i a.edges),.d (.l 1 (a.outer.map D.s)),.d (.l 2 (a.inner.map Wr.D))])),(7,.sy (.bx 10007 0)),(10007,.tk (.bx [.d (.l 1 (t.rules.map D.i)),.d (.l 2 (t.ms.map Mat.D))])),(8,.sy (.d (.b false))),(10,.sy (.bx 10010 0)),(10010,.tk (.bx [.d (.i (al sig rs a t).1.roots),.d (.l 3 ((al sig rs a t).1.nodes.map Nd.D)),.d (.l 1 ((al sig rs a t).1.sites.map D.i)),.d (.i (al sig rs a t).1.edges),.d (.l 1 ((al sig rs a t).1.outer.map D.s)),.d (.l 2 ((al sig rs a t).1.inner.map Wr.D))])),(11,.sy (.d (.i (al sig rs a t).2.1))),(12,.sy (.d (.b (al sig rs a t).2.2))),(17,.sy (.bx 10017 0)),(10017,.tk (.bx [.d (.i (jg (1) (al sig rs a t).1).roots),.k 31072,.k 32072,.d (.i (jg (1) (al sig rs a t).1).edges),.k 34072,.k 35072])),(31072,.tk (.own (.l 3 ((jg (1) (al sig rs a t).1).nodes.map Nd.D)) none none)),(32072,.tk (.own (.l 1 ((jg (1) (al sig rs a t).1).sites.map D.i)) none none)),(34072,.tk (.own (.l 1 ((jg (1) (al sig rs a t).1).outer.map D.s)) none none)),(35072,.tk (.own (.l 2 ((jg (1) (al sig rs a t).1).inner.map Wr.D)) none none)),(18,.sy (.d (.i (al sig rs a t).2.1))),(19,.sy (.d (.b (al sig rs a t).2.2))),(21,.sy (.d (.i (1+(kz (al sig rs a t).1:Nat)))))] (bodyPost Tryz.prog Tryz.f3 (post W0 (.d (.b true)))):=by
 have hb:=lC sig rs a t hS
 have o0:=ik sig (by omega)
 have o1:=lJ rs (by omega)
 have o2:=fA a (by omega)
 have o3:=lY t (by omega)
 have hin:∀b:Big,cR b≤1048576→b.inner.length≤1048576:=fun b h=>by
  have e:cR b=wtL i6 b.nodes+b.sites.length+wtL gB b.outer+wtL kF b.inner:=rfl
  have:=fC kF b.inner
  omega
 have hrs:∀r∈rs,r.redex.inner.length≤1048576∧r.reactum.inner.length≤1048576:=fun r hr=>by
  have h1:=kV dw rs r hr
  have e:dw r=cR r.redex+cR r.reactum+r.copies.length:=rfl
  exact ⟨hin _ (by omega),hin _ (by omega)⟩
 have fi:=jb sig rs a t hrs (hin a (by omega))
 have hB:=mu sig rs a t
 refine tM ?_
 have h10:=lK (al sig rs a t).1 (1) (by omega) (by omega)
 refine ig ?_
 refine tM ?_
 clear h10
 refine ur (rf (al sig rs a t).1 [.i (al sig rs a t).2.1,.b (al sig rs a t).2.2] rfl) ?_
 refine tM ?_
 clear o0 o1 o2 o3
 have eB0:=fw (al sig rs a t).1
 refine ig ?_
 refine tM ?_
 have h10:=lK (al sig rs a t).1 (1) (by omega) (by omega)
 refine ig ?_
 refine tM ?_
 exact ax
theorem om (sig:List Ctl) (rs:List Rul) (a:Big) (t:Trc) (W0:oK) (hS:wtL fb sig+wtL dw rs+cR a+oT t≤1048576):az Tryz.prog W0.toB Tryz.f3.ntmps (CM 26 (Tryz.f3.body.getD .skip)) [(0,.sy (.d (.l 3 (sig.map Ctl.D)))),(1,.sy (.d (.l 13 (rs.map Rul.D)))),(6,.sy (.bx 10006 0)),(10006,.tk (.bx [.d (.i a.roots),.d (.l 3 (a.nodes.map Nd.D)),.d (.l 1 (a.sites.map D.i)),.d (.i a.edges),.d (.l 1 (a.outer.map D.s)),.d (.l 2 (a.inner.map Wr.D))])),(7,.sy (.bx 10007 0)),(10007,.tk (.bx [.d (.l 1 (t.rules.map D.i)),.d (.l 2 (t.ms.map Mat.D))])),(8,.sy (.d (.b false))),(10,.sy (.bx 10010 0)),(10010,.tk (.bx [.d (.i (al sig rs a t).1.roots),.d (.l 3 ((al sig rs a t).1.nodes.map Nd.D)),.d (.l 1 ((al sig rs a t).1.sites.map D.i)),.d (.i (al sig rs a t).1.edges),.d (.l 1 ((al sig rs a t).1.outer.map D.s)),.d (.l 2 ((al sig rs a t).1.inner.map Wr.D))])),(11,.sy (.d (.i (al sig rs a t).2.1))),(12,.sy (.d (.b (al sig rs a t).2.2))),(17,.sy (.bx 10017 0)),(10017,.tk (.bx [.d (.i (al sig rs a t).1.roots),.k 31072,.k 32072,.d (.i (al sig rs a t).1.edges),.k 34072,.k 35072])),(31072,.tk (.own (.l 3 ((al sig rs a t).1.nodes.map Nd.D)) none none)),(32072,.tk (.own (.l 1 ((al sig rs a t).1.sites.map D.i)) none none)),(34072,.tk (.own (.l 1 ((al sig rs a t).1.outer.map D.s)) none none)),(35072,.tk (.own (.l 2 ((al sig rs a t).1.inner.map Wr.D)) none none)),(18,.sy (.d (.i (al sig rs a t).2.1))),(19,.sy (.d (.b (al sig rs a t).2.2))),(20,.sy (.d (.i (1+(cnL c3 sig:Nat)+(cnL eR rs:Nat)+(kz a:Nat)+(Dr t:Nat)))))] (bodyPost Tryz.prog Tryz.f3 (post W0 (.d (.b true)))):=by
 have hb:=lC sig rs a t hS
 have o0:=ik sig (by omega)
 have o1:=lJ rs (by omega)
 have o2:=fA a (by omega)
 have o3:=lY t (by omega)
 have hin:∀b:Big,cR b≤1048576→b.inner.length≤1048576:=fun b h=>by
  have e:cR b=wtL i6 b.nodes+b.sites.length+wtL gB b.outer+wtL kF b.inner:=rfl
  have:=fC kF b.inner
  omega
 have hrs:∀r∈rs,r.redex.inner.length≤1048576∧r.reactum.inner.length≤1048576:=fun r hr=>by
  have h1:=kV dw rs r hr
  have e:dw r=cR r.redex+cR r.reactum+r.copies.length:=rfl
  exact ⟨hin _ (by omega),hin _ (by omega)⟩
 have fi:=jb sig rs a t hrs (hin a (by omega))
 have hB:=mu sig rs a t
 refine tM ?_
 have eB0:=fw (al sig rs a t).1
 refine ig ?_
 refine tM ?_
 clear eB0
 have m10:=lp (al sig rs a t).1 (1) (by omega) (by omega)
 refine mi ?_
 refine GD ?_
 refine fm (bD ?_)
 refine GG [(0,.sy (.d (.l 3 (sig.map Ctl.D)))),(1,.sy (.d (.l 13 (rs.map Rul.D)))),(6,.sy (.bx 10006 0)),(10006,.tk (.bx [.d (.i a.roots),.d (.l 3 (a.nodes.map Nd.D)),.d (.l 1 (a.sites.map D.i)),.d (.i a.edges),.d (.l 1 (a.outer.map D.s)),.d (.l 2 (a.inner.map Wr.D))])),(7,.sy (.bx 10007 0)),(10007,.tk (.bx [.d (.l 1 (t.rules.map D.i)),.d (.l 2 (t.ms.map Mat.D))])),(8,.sy (.d (.b false))),(10,.sy (.bx 10010 0)),(10010,.tk (.bx [.d (.i (al sig rs a t).1.roots),.d (.l 3 ((al sig rs a t).1.nodes.map Nd.D)),.d (.l 1 ((al sig rs a t).1.sites.map D.i)),.d (.i (al sig rs a t).1.edges),.d (.l 1 ((al sig rs a t).1.outer.map D.s)),.d (.l 2 ((al sig rs a t).1.inner.map Wr.D))])),(11,.sy (.d (.i (al sig rs a t).2.1))),(12,.sy (.d (.b (al sig rs a t).2.2))),(17,.sy (.bx 10017 0)),(10017,.tk (.bx [.d (.i (jg (1) (al sig rs a t).1).roots),.k 31072,.k 32072,.d (.i (jg (1) (al sig rs a t).1).edges),.k 34072,.k 35072])),(31072,.tk (.own (.l 3 ((jg (1) (al sig rs a t).1).nodes.map Nd.D)) none none)),(32072,.tk (.own (.l 1 ((jg (1) (al sig rs a t).1).sites.map D.i)) none none)),(34072,.tk (.own (.l 1 ((jg (1) (al sig rs a t).1).outer.map D.s)) none none)),(35072,.tk (.own (.l 2 ((jg (1) (al sig rs a t).1).inner.map Wr.D)) none none)),(18,.sy (.d (.i (al sig rs a t).2.1))),(19,.sy (.d (.b (al sig rs a t).2.2))),(21,.sy (.d (.i (1+(kz (al sig rs a t).1:Nat)))))] ?_
 exact nO sig rs a t W0 hS
theorem oq (sig:List Ctl) (rs:List Rul) (a:Big) (t:Trc) (W0:oK) (hS:wtL fb sig+wtL dw rs+cR a+oT t≤1048576):az Tryz.prog W0.toB Tryz.f3.ntmps (CM 17 (Tryz.f3.body.getD .skip)) [(0,.sy (.d (.l 3 (sig.map Ctl.D)))),(1,.sy (.d (.l 13 (rs.map Rul.D)))),(6,.sy (.bx 10006 0)),(10006,.tk (.bx [.d (.i a.roots),.d (.l 3 (a.nodes.map Nd.D)),.d (.l 1 (a.sites.map D.i)),.d (.i a.edges),.d (.l 1 (a.outer.map D.s)),.d (.l 2 (a.inner.map Wr.D))])),(7,.sy (.bx 10007 0)),(10007,.tk (.bx [.d (.l 1 (t.rules.map D.i)),.d (.l 2 (t.ms.map Mat.D))])),(8,.sy (.d (.b false))),(10,.sy (.bx 10010 0)),(10010,.tk (.bx [.d (.i (al sig rs a t).1.roots),.d (.l 3 ((al sig rs a t).1.nodes.map Nd.D)),.d (.l 1 ((al sig rs a t).1.sites.map D.i)),.d (.i (al sig rs a t).1.edges),.d (.l 1 ((al sig rs a t).1.outer.map D.s)),.d (.l 2 ((al sig rs a t).1.inner.map Wr.D))])),(11,.sy (.d (.i (al sig rs a t).2.1))),(12,.sy (.d (.b (al sig rs a t).2.2))),(13,.sy (.k 30060)),(30060,.tk (.own (.l 3 (sig.map Ctl.D)) none none)),(14,.sy (.k 30062)),(30062,.tk (.own (.l 13 (rs.map Rul.D)) none none)),(15,.sy (.bx 10015 0)),(10015,.tk (.bx [.d (.i a.roots),.k 31064,.k 32064,.d (.i a.edges),.k 34064,.k 35064])),(31064,.tk (.own (.l 3 (a.nodes.map Nd.D)) none none)),(32064,.tk (.own (.l 1 (a.sites.map D.i)) none none)),(34064,.tk (.own (.l 1 (a.outer.map D.s)) none none)),(35064,.tk (.own (.l 2 (a.inner.map Wr.D)) none none)),(16,.sy (.bx 10016 0)),(10016,.tk (.bx [.k 30066,.k 31066])),(30066,.tk (.own (.l 1 (t.rules.map D.i)) none none)),(31066,.tk (.own (.l 2 (t.ms.map Mat.D)) none none)),(17,.sy (.bx 10017 0)),(10017,.tk (.bx [.d (.i (al sig rs a t).1.roots),.k 31072,.k 32072,.d (.i (al sig rs a t).1.edges),.k 34072,.k 35072])),(31072,.tk (.own (.l 3 ((al sig rs a t).1.nodes.map Nd.D)) none none)),(32072,.tk (.own (.l 1 ((al sig rs a t).1.sites.map D.i)) none none)),(34072,.tk (.own (.l 1 ((al sig rs a t).1.outer.map D.s)) none none)),(35072,.tk (.own (.l 2 ((al sig rs a t).1.inner.map Wr.D)) none none)),(18,.sy (.d (.i (al sig rs a t).2.1))),(19,.sy (.d (.b (al sig rs a t).2.2))),(89,.sy (.d (.b false)))] (bodyPost Tryz.prog Tryz.f3 (post W0 (.d (.b true)))):=by
 have hb:=lC sig rs a t hS
 have o0:=ik sig (by omega)
 have o1:=lJ rs (by omega)
 have o2:=fA a (by omega)
 have o3:=lY t (by omega)
 have hin:∀b:Big,cR b≤1048576→b.inner.length≤1048576:=fun b h=>by
  have e:cR b=wtL i6 b.nodes+b.sites.length+wtL gB b.outer+wtL kF b.inner:=rfl
  have:=fC kF b.inner
  omega
 have hrs:∀r∈rs,r.redex.inner.length≤1048576∧r.reactum.inner.length≤1048576:=fun r hr=>by
  have h1:=kV dw rs r hr
  have e:dw r=cR r.redex+cR r.reactum+r.copies.length:=rfl
  exact ⟨hin _ (by omega),hin _ (by omega)⟩
 have fi:=jb sig rs a t hrs (hin a (by omega))
 have hB:=mu sig rs a t
 refine tM ?_
 have e0:=tc sig
 refine ig ?_
 refine tM ?_
 have e1:=AI rs
 refine ig ?_
 refine tM ?_
 have e2:=fw a
 refine ig ?_
 refine tM ?_
 have e3:=Ak t
 refine ig ?_
 refine tM ?_
 have m0:=pp sig (1) (by omega) (by omega)
 refine jG ?_
 refine tM ?_
 have m1:=vH rs (1+(cnL c3 sig:Nat)) (by omega) (by omega)
 refine jG ?_
 refine tM ?_
 have m2:=lp a (1+(cnL c3 sig:Nat)+(cnL eR rs:Nat)) (by omega) (by omega)
 refine mi ?_
 refine GD ?_
 refine fm (bD ?_)
 refine GG [(0,.sy (.d (.l 3 (sig.map Ctl.D)))),(1,.sy (.d (.l 13 (rs.map Rul.D)))),(6,.sy (.bx 10006 0)),(10006,.tk (.bx [.d (.i a.roots),.d (.l 3 (a.nodes.map Nd.D)),.d (.l 1 (a.sites.map D.i)),.d (.i a.edges),.d (.l 1 (a.outer.map D.s)),.d (.l 2 (a.inner.map Wr.D))])),(7,.sy (.bx 10007 0)),(10007,.tk (.bx [.d (.l 1 (t.rules.map D.i)),.d (.l 2 (t.ms.map Mat.D))])),(8,.sy (.d (.b false))),(10,.sy (.bx 10010 0)),(10010,.tk (.bx [.d (.i (al sig rs a t).1.roots),.d (.l 3 ((al sig rs a t).1.nodes.map Nd.D)),.d (.l 1 ((al sig rs a t).1.sites.map D.i)),.d (.i (al sig rs a t).1.edges),.d (.l 1 ((al sig rs a t).1.outer.map D.s)),.d (.l 2 ((al sig rs a t).1.inner.map Wr.D))])),(11,.sy (.d (.i (al sig rs a t).2.1))),(12,.sy (.d (.b (al sig rs a t).2.2))),(16,.sy (.bx 10016 0)),(10016,.tk (.bx [.k 30066,.k 31066])),(30066,.tk (.own (.l 1 (t.rules.map D.i)) none none)),(31066,.tk (.own (.l 2 (t.ms.map Mat.D)) none none)),(17,.sy (.bx 10017 0)),(10017,.tk (.bx [.d (.i (al sig rs a t).1.roots),.k 31072,.k 32072,.d (.i (al sig rs a t).1.edges),.k 34072,.k 35072])),(31072,.tk (.own (.l 3 ((al sig rs a t).1.nodes.map Nd.D)) none none)),(32072,.tk (.own (.l 1 ((al sig rs a t).1.sites.map D.i)) none none)),(34072,.tk (.own (.l 1 ((al sig rs a t).1.outer.map D.s)) none none)),(35072,.tk (.own (.l 2 ((al sig rs a t).1.inner.map Wr.D)) none none)),(18,.sy (.d (.i (al sig rs a t).2.1))),(19,.sy (.d (.b (al sig rs a t).2.2))),(20,.sy (.d (.i (1+(cnL c3 sig:Nat)+(cnL eR rs:Nat)+(kz a:Nat)))))] ?_
 clear m2
 refine tM ?_
 have m3:=ud t (1+(cnL c3 sig:Nat)+(cnL eR rs:Nat)+(kz a:Nat)) (by omega) (by omega)
 refine mi ?_
 refine GD ?_
 refine fm (bD ?_)
 refine GG [(0,.sy (.d (.l 3 (sig.map Ctl.D)))),(1,.sy (.d (.l 13 (rs.map Rul.D)))),(6,.sy (.bx 10006 0)),(10006,.tk (.bx [.d (.i a.roots),.d (.l 3 (a.nodes.map Nd.D)),.d (.l 1 (a.sites.map D.i)),.d (.i a.edges),.d (.l 1 (a.outer.map D.s)),.d (.l 2 (a.inner.map Wr.D))])),(7,.sy (.bx 10007 0)),(10007,.tk (.bx [.d (.l 1 (t.rules.map D.i)),.d (.l 2 (t.ms.map Mat.D))])),(8,.sy (.d (.b false))),(10,.sy (.bx 10010 0)),(10010,.tk (.bx [.d (.i (al sig rs a t).1.roots),.d (.l 3 ((al sig rs a t).1.nodes.map Nd.D)),.d (.l 1 ((al sig rs a t).1.sites.map D.i)),.d (.i (al sig rs a t).1.edges),.d (.l 1 ((al sig rs a t).1.outer.map D.s)),.d (.l 2 ((al sig rs a t).1.inner.map Wr.D))])),(11,.sy (.d (.i (al sig rs a t).2.1))),(12,.sy (.d (.b (al sig rs a t).2.2))),(17,.sy (.bx 10017 0)),(10017,.tk (.bx [.d (.i (al sig rs a t).1.roots),.k 31072,.k 32072,.d (.i (al sig rs a t).1.edges),.k 34072,.k 35072])),(31072,.tk (.own (.l 3 ((al sig rs a t).1.nodes.map Nd.D)) none none)),(32072,.tk (.own (.l 1 ((al sig rs a t).1.sites.map D.i)) none none)),(34072,.tk (.own (.l 1 ((al sig rs a t).1.outer.map D.s)) none none)),(35072,.tk (.own (.l 2 ((al sig rs a t).1.inner.map Wr.D)) none none)),(18,.sy (.d (.i (al sig rs a t).2.1))),(19,.sy (.d (.b (al sig rs a t).2.2))),(20,.sy (.d (.i (1+(cnL c3 sig:Nat)+(cnL eR rs:Nat)+(kz a:Nat)+(Dr t:Nat)))))] ?_
 exact om sig rs a t W0 hS
theorem pl (sig:List Ctl) (rs:List Rul) (a:Big) (t:Trc):FnD Tryz.prog 3 [.l 3 (sig.map Ctl.D),.l 13 (rs.map Rul.D),a.D,t.D] (.d (.b true)):=by
 refine ai Tryz.func3 (fun hw W0=>?_)
 have f0:=tI sig 1048576 (by omega) (by omega)
 by_cases s0:((wtL fb sig:Nat):Int)≤1048576
 rotate_left
 ·rw [szN s0] at f0
  refine kgo ?_
  exact ax
 rw [szP s0] at f0
 have f1:=zP rs (1048576 - (wtL fb sig:Nat)) (by omega) (by omega)
 refine kgo ?_
 refine aV (fun h=>?_) (fun _=>?_)
 ·omega
 by_cases s1:((wtL dw rs:Nat):Int)≤1048576 - (wtL fb sig:Nat)
 rotate_left
 ·rw [szN s1] at f1
  refine kgo ?_
  exact ax
 rw [szP s1] at f1
 have f2:=k7 a (1048576 - (wtL fb sig:Nat) - (wtL dw rs:Nat)) (by omega) (by omega)
 refine kgo ?_
 refine aV (fun h=>?_) (fun _=>?_)
 ·omega
 by_cases s2:((cR a:Nat):Int)≤1048576 - (wtL fb sig:Nat) - (wtL dw rs:Nat)
 rotate_left
 ·rw [szN s2] at f2
  refine kgo ?_
  exact ax
 rw [szP s2] at f2
 have f3:=yV t (1048576 - (wtL fb sig:Nat) - (wtL dw rs:Nat) - (cR a:Nat)) (by omega) (by omega)
 refine kgo ?_
 refine aV (fun h=>?_) (fun _=>?_)
 ·omega
 by_cases s3:((oT t:Nat):Int)≤1048576 - (wtL fb sig:Nat) - (wtL dw rs:Nat) - (cR a:Nat)
 rotate_left
 ·rw [szN s3] at f3
  refine kgo ?_
  exact ax
 rw [szP s3] at f3
 have hb:=lC sig rs a t (by omega)
 have o0:=ik sig (by omega)
 have o1:=lJ rs (by omega)
 have o2:=fA a (by omega)
 have o3:=lY t (by omega)
 have hin:∀b:Big,cR b≤1048576→b.inner.length≤1048576:=fun b h=>by
  have e:cR b=wtL i6 b.nodes+b.sites.length+wtL gB b.outer+wtL kF b.inner:=rfl
  have:=fC kF b.inner
  omega
 have hrs:∀r∈rs,r.redex.inner.length≤1048576∧r.reactum.inner.length≤1048576:=fun r hr=>by
  have h1:=kV dw rs r hr
  have e:dw r=cR r.redex+cR r.reactum+r.copies.length:=rfl
  exact ⟨hin _ (by omega),hin _ (by omega)⟩
 have fi:=jb sig rs a t hrs (hin a (by omega))
 have g0:=o0.toR
 have g1:=o1.toR
 have g2:=FnO.toD (n:=5) o2
 have g3:=FnO.toD (n:=1) o3
 clear f0 f1 f2
 refine kgo ?_
 refine aV (fun h=>?_) (fun _=>?_)
 ·omega
 clear f3
 refine kgo ?_
 have fs:=n7 sig rs a t hrs (hin a (by omega))
 refine bc ?_
 clear g0 g1 g2 g3 fs
 refine kgo ?_
 refine ur (rf (al sig rs a t).1 [.i (al sig rs a t).2.1,.b (al sig rs a t).2.2] rfl) ?_
 refine tM ?_
 have eB0:=fw (al sig rs a t).1
 refine ig ?_
 refine GD ?_
 refine fm (bD ?_)
 refine G3 31072 ?_
 refine pA (ds:=(al sig rs a t).1.sites.map D.i) 32072 (fun d hd=>by obtain ⟨n,_,rfl⟩:=List.mem_map.1 hd;exact ⟨rfl,rfl⟩) ?_
 refine pA (ds:=(al sig rs a t).1.outer.map D.s) 34072 (fun d hd=>by obtain ⟨n,_,rfl⟩:=List.mem_map.1 hd;exact ⟨rfl,rfl⟩) ?_
 refine pA (ds:=(al sig rs a t).1.inner.map Wr.D) 35072 (fun d hd=>by obtain ⟨n,_,rfl⟩:=List.mem_map.1 hd;exact ⟨rfl,rfl⟩) ?_
 refine GG [(0,.sy (.d (.l 3 (sig.map Ctl.D)))),(1,.sy (.d (.l 13 (rs.map Rul.D)))),(6,.sy (.bx 10006 0)),(10006,.tk (.bx [.d (.i a.roots),.d (.l 3 (a.nodes.map Nd.D)),.d (.l 1 (a.sites.map D.i)),.d (.i a.edges),.d (.l 1 (a.outer.map D.s)),.d (.l 2 (a.inner.map Wr.D))])),(7,.sy (.bx 10007 0)),(10007,.tk (.bx [.d (.l 1 (t.rules.map D.i)),.d (.l 2 (t.ms.map Mat.D))])),(8,.sy (.d (.b false))),(10,.sy (.bx 10010 0)),(10010,.tk (.bx [.d (.i (al sig rs a t).1.roots),.d (.l 3 ((al sig rs a t).1.nodes.map Nd.D)),.d (.l 1 ((al sig rs a t).1.sites.map D.i)),.d (.i (al sig rs a t).1.edges),.d (.l 1 ((al sig rs a t).1.outer.map D.s)),.d (.l 2 ((al sig rs a t).1.inner.map Wr.D))])),(11,.sy (.d (.i (al sig rs a t).2.1))),(12,.sy (.d (.b (al sig rs a t).2.2))),(13,.sy (.k 30060)),(30060,.tk (.own (.l 3 (sig.map Ctl.D)) none none)),(14,.sy (.k 30062)),(30062,.tk (.own (.l 13 (rs.map Rul.D)) none none)),(15,.sy (.bx 10015 0)),(10015,.tk (.bx [.d (.i a.roots),.k 31064,.k 32064,.d (.i a.edges),.k 34064,.k 35064])),(31064,.tk (.own (.l 3 (a.nodes.map Nd.D)) none none)),(32064,.tk (.own (.l 1 (a.sites.map D.i)) none none)),(34064,.tk (.own (.l 1 (a.outer.map D.s)) none none)),(35064,.tk (.own (.l 2 (a.inner.map Wr.D)) none none)),(16,.sy (.bx 10016 0)),(10016,.tk (.bx [.k 30066,.k 31066])),(30066,.tk (.own (.l 1 (t.rules.map D.i)) none none)),(31066,.tk (.own (.l 2 (t.ms.map Mat.D)) none none)),(17,.sy (.bx 10017 0)),(10017,.tk (.bx [.d (.i (al sig rs a t).1.roots),.k 31072,.k 32072,.d (.i (al sig rs a t).1.edges),.k 34072,.k 35072])),(31072,.tk (.own (.l 3 ((al sig rs a t).1.nodes.map Nd.D)) none none)),(32072,.tk (.own (.l 1 ((al sig rs a t).1.sites.map D.i)) none none)),(34072,.tk (.own (.l 1 ((al sig rs a t).1.outer.map D.s)) none none)),(35072,.tk (.own (.l 2 ((al sig rs a t).1.inner.map Wr.D)) none none)),(18,.sy (.d (.i (al sig rs a t).2.1))),(19,.sy (.d (.b (al sig rs a t).2.2))),(89,.sy (.d (.b false)))] ?_
 refine gA ?_
 refine cM ?_
 refine bD ?_
 exact oq sig rs a t W0 (by omega)
end Go.Proofs.YtclpbhoekmecjaaGreatDoor
namespace Go.Proofs.YtclpbhoekmecjaaGreatDoor
open Go.RowKit
theorem kA (v0:Value) (sig:List Ctl) (v1:Value) (rs:List Rul) (cs2:List Value) (a:Big) (cs3:List Value) (t:Trc) (W:World) (b0:Rp W (fun b=>b<W.heap.size) (.l 3 (sig.map Ctl.D)) [v0]) (b1:Rp W (fun b=>b<W.heap.size) (.l 13 (rs.map Rul.D)) [v1]) (b2:Rp W (fun b=>b<W.heap.size) a.D cs2) (b3:Rp W (fun b=>b<W.heap.size) t.D cs3):Calls Tryz.prog 3 #[v0,v1,.agg cs2.toArray,.agg cs3.toArray] W fun e w'=>e=.returned (.bool true)∧Ext W w':=
 Gf (pl sig rs a t) ⟨v0,_,rfl,b0,v1,_,rfl,b1,_,_,rfl,⟨cs2,rfl,b2⟩,_,_,rfl,⟨cs3,rfl,b3⟩,rfl⟩
end Go.Proofs.YtclpbhoekmecjaaGreatDoor
