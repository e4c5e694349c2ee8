/-
  Proved facts that the law leans on.
-/
import Derived.Test.YtnobdioccfeokaaGreatDoorZE5
import Derived.Test.YtnobdioccfeokaaGreatDoorZE7
import Derived.Sort.OwnSorted
import Derived.MapKept
import Derived.Shelf.GgSortFunc.RowK
namespace Go.Proofs.YtnobdioccfeokaaGreatDoor
open Go.RowKit
set_option linter.unusedVariables false
set_option linter.unusedSimpArgs false
theorem aE.upd2 {W0:cz} {N:Nat} {σ:Env} {a:Act} {w w':World} {c:Cx} (h:aE W0 N σ a w c) {i:Nat} {t u:Tk} (hi:al σ i=some (.tk t)) (hg:Chg (c.T i) w w') (hu:fR c.F w w'→u.ok c w' (c.ρ i) (c.T i)) :
 aE W0 N ((i,.tk u) :: σ) a w' c:=by
 obtain ⟨hAi,_,hti⟩:=h.tok i t hi
 have hS:∀b,c.T i b→¬c.F b:=fun b hb=>(hti b hb).1
 have hag:=h.agF hg hS
 refine ⟨h.ext' hg (fun b hb=>(hti b hb).2.2),h.old,fun b hb=>Nat.lt_of_lt_of_le (h.lt b hb) hg.size,h.size,h.defers,fun j hj=>?_,fun j x hj=>?_,fun j k x y hj hk hne b=>?_,fun t' s ht'=>?_⟩
 ·rw [ab];split
  ·simp
  ·exact h.all j hj
 ·rw [ab] at hj
  by_cases e:i=j
  ·subst e
   rw [if_pos rfl] at hj;cases hj
   exact ⟨hAi,hu hag,fun b hb=>⟨(hti b hb).1,Nat.lt_of_lt_of_le (hti b hb).2.1 hg.size,(hti b hb).2.2⟩⟩
  ·rw [if_neg e] at hj
   obtain ⟨k1,k2,k3⟩:=h.tok j x hj
   exact ⟨k1,Tk.keep (Cx.Le.refl c) hg.size hag (fun b hb hl=>hg.block b hl (fun hs=>h.off i j t x hi hj e b hs hb)) x _ k2,fun b hb=>⟨(k3 b hb).1,Nat.lt_of_lt_of_le (k3 b hb).2.1 hg.size,(k3 b hb).2.2⟩⟩
 ·have conv:∀j x,al ((i,.tk u) :: σ) j=some (.tk x)→∃x',al σ j=some (.tk x'):=fun j x hj=>by
   rw [ab] at hj
   by_cases e:i=j
   ·subst e;exact ⟨t,hi⟩
   ·rw [if_neg e] at hj;exact ⟨x,hj⟩
  obtain ⟨x',hx'⟩:=conv j x hj
  obtain ⟨y',hy'⟩:=conv k y hk
  exact h.off j k x' y' hx' hy' hne b
 ·rw [ab] at ht'
  split at ht'
  ·cases ht'
  ·obtain ⟨x,h1,h2⟩:=h.tmp t' s ht'
   exact ⟨x,h1,Sy.keep (Cx.Le.refl c) hag s x h2⟩
structure FnS (P:Program) (f:FuncId) (z e:Nat) (xs ds ys:List D):Prop where
 enter:∀args w,(callFunc f args).run P w=.ok (.enter f args) w
 calls:∀(F S:BS) (w:World) (v:Value) (vs:List Value),(Tk.row z e xs).ok (Cx.of F) w v S→DVs w F ds vs→(∀b,F b→b<w.heap.size)→(∀b,S b→¬F b∧b<w.heap.size) →
  Calls P f (v :: vs).toArray w fun en w'=>en=.returned (.tuple #[])∧Chg S w w'∧(Tk.row z e ys).ok (Cx.of F) w' v S
structure FnC (P:Program) (f:FuncId) (z e:Nat) (xs ds ys:List D):Prop where
 enter:∀args w,(callFunc f args).run P w=.ok (.enter f args) w
 calls:∀(F S:BS) (w:World) (v:Value) (vs:List Value),(Tk.row z e xs).ok (Cx.of F) w v S→DVs w F ds vs→(∀b,F b→b<w.heap.size)→(∀b,S b→¬F b∧b<w.heap.size) →
  Calls P f (v :: vs).toArray w fun en w'=>∃u,en=.returned u∧Chg S w w'∧(Tk.row z e ys).ok (Cx.of F) w' u S
section
variable {P:Program} {ops:Array Oper} {W0:cz} {N:Nat} {Fin:Us→Env→Prop} {os:List Oper} {us:Us} {pk fk:List Nat} {σ:Env} {g:Option (Nat × Bool)} {gk:List Nat} {d ty ty' f:Nat} {pos:String} {after:Array Edge} {at':Array TypeId} {ds:List D}
theorem AE {z e:Nat} {xs:List D} {c:Cx} {w:World} {v:Value} {S:BS} (h:(Tk.row z e xs).ok c w v S):(Tk.row z e xs).ok (Cx.of c.F) w v S:=h
theorem uM {z e:Nat} {xs:List D} {c:Cx} {w:World} {v:Value} {S:BS} (h:(Tk.row z e xs).ok (Cx.of c.F) w v S):(Tk.row z e xs).ok c w v S:=h
theorem aQ {x:Operand} {rest:List Operand} {i z e:Nat} {xs ys:List D} (h:Der P ops W0 N Fin os (us++[((d :: (gk++(i :: (kx x++kxs rest))))++pk,([d,i])++fk)]) [] [] ((d,.sy (.v (.tuple #[]))) :: (i,.tk (.row z e ys)) :: σ)) (hx:ev σ x=some (.k i):=by rfl) (hi:al σ i=some (.tk (.row z e xs)):=by rfl) (hr:evs σ rest=some ds:=by rfl) (hf:FnS P f z e xs ds ys:=by assumption) (hg:gst ops σ g=some (true,gk):=by rfl) (hN:Nat.blt d N=true:=by rfl) (hs:aF ((i,.tk (.row z e ys)) :: σ) d=true:=by rfl) (hu:Nat.beq i d=false:=by rfl):Der P ops W0 N Fin (⟨some d,.call { callee:=.value (.func f),args:=(x :: rest).toArray,argTypes:=at' },ty,pos,after,g⟩ :: os) us pk fk σ:=
 jy (.v (.tuple #[])) (i :: (kx x++kxs rest)) [(i,.tk (.row z e ys))] (fun σ' c a w hk hc=>by
  have hi':=(hk i (by simp)).trans hi
  obtain ⟨hA,hT,hti⟩:=hc.tok i _ hi'
  obtain ⟨_,hv⟩:=ap hc (ah hx (fun κ hκ=>hk κ (by simp [hκ])))
  unfold Oper.wp
  rw [cw hf.enter rfl]
  refine (hf.calls c.F (c.T i) w (a.eval x) (rest.map a.eval) (by rw [hv];exact AE hT) (kR hc rest ds hr (fun κ hκ=>hk κ (by simp [hκ]))) hc.lt (fun b hb=>⟨(hti b hb).1,(hti b hb).2.1⟩)).mono ?_
  rintro en w' ⟨rfl,hch,hok⟩
  rw [hv] at hok
  exact ⟨_,c,rfl,hc.upd2 hi' hch (fun _=>uM hok),rfl⟩) h hg hN hs (by simp [hu])
theorem aY {x:Operand} {rest:List Operand} {i z e:Nat} {xs ys:List D} (h:Der P ops W0 N Fin os (us++[((d :: (gk++(i :: (10000+d) :: (kx x++kxs rest))))++pk,([d,10000+d,i])++fk)]) [] [] ((d,.sy (.k (10000+d))) :: (10000+d,.tk (.row z e ys)) :: (i,.no) :: σ)) (hx:ev σ x=some (.k i):=by rfl) (hi:al σ i=some (.tk (.row z e xs)):=by rfl) (hn:al σ (10000+d)=none:=by rfl) (hr:evs σ rest=some ds:=by rfl) (hf:FnC P f z e xs ds ys:=by assumption) (hg:gst ops σ g=some (true,gk):=by rfl) (hN:Nat.blt d N=true:=by rfl) (hs:aF ((10000+d,.tk (.row z e ys)) :: (i,.no) :: σ) d=true:=by rfl) (hu:(Nat.beq (10000+d) d || Nat.beq i d || Nat.beq i (10000+d))=false:=by rfl):Der P ops W0 N Fin (⟨some d,.call { callee:=.value (.func f),args:=(x :: rest).toArray,argTypes:=at' },ty,pos,after,g⟩ :: os) us pk fk σ:=by
 simp only [Bool.or_eq_false_iff] at hu
 refine jy (.k (10000+d)) (i :: (10000+d) :: (kx x++kxs rest)) [(10000+d,.tk (.row z e ys)),(i,.no)] (fun σ' c a w hk hc=>?_) h hg hN hs (by simp [hu.1.1,hu.1.2])
 have hi':=(hk i (by simp)).trans hi
 obtain ⟨hA,hT,hti⟩:=hc.tok i _ hi'
 obtain ⟨_,hv⟩:=ap hc (ah hx (fun κ hκ=>hk κ (by simp [hκ])))
 unfold Oper.wp
 rw [cw hf.enter rfl]
 refine (hf.calls c.F (c.T i) w (a.eval x) (rest.map a.eval) (by rw [hv];exact AE hT) (kR hc rest ds hr (fun κ hκ=>hk κ (by simp [hκ]))) hc.lt (fun b hb=>⟨(hti b hb).1,(hti b hb).2.1⟩)).mono ?_
 rintro en w' ⟨u,rfl,hch,hok⟩
 have h1:=hc.eff (τ:=[]) hi' hch c.F (fun _ h=>h) (fun b hb=>.inl hb) (fun b hb=>Nat.lt_of_lt_of_le (hc.lt b hb) hch.size)
 have h2:=h1.new (i:=10000+d) (t:=.row z e ys) (v:=u) (S:=c.T i) (by rw [ab,if_neg (fun e=>by rw [e] at hu;simp at hu)];exact (hk _ (by simp)).trans hn) (uM hok) (fun b hb=>⟨(hti b hb).1,Nat.lt_of_lt_of_le (hti b hb).2.1 hch.size,(hti b hb).2.2⟩) (fun j t hj b hb=>by
  rw [ab] at hj
  split at hj
  ·cases hj
  ·rename_i hne
   exact hc.off i j _ t hi' hj hne b hb)
 exact ⟨u,_,rfl,h2,.inr rfl,(if_pos rfl).symm⟩
end
end Go.Proofs.YtnobdioccfeokaaGreatDoor
namespace Go.Proofs.YtnobdioccfeokaaGreatDoor
open Go.RowKit Go.Sort Go.Proofs
set_option linter.unusedVariables false
set_option linter.unusedSimpArgs false
set_option linter.unusedSectionVars false
section
variable {α:Type} [Inhabited α] (enc:α→Value)
theorem o6 {w:World} {g:Nat} {cur:Array Value} {e:TypeId} {ss:List α} (hb:w.heap[g]? = some (.cells cur e (0,0))) (ht:cur.toList.take ss.length=ss.map enc):Go.Sort.Holds enc w g 0 ss.toArray:=by
 intro j hj
 have hj':j<ss.length:=by simpa using hj
 refine ⟨?_,by simp [World.frozen?,hb]⟩
 have h1:(cur.toList.take ss.length)[j]? = (ss.map enc)[j]?:=by rw [ht]
 rw [List.getElem?_take_of_lt hj'] at h1
 simp only [World.cell?,hb,Nat.zero_add]
 simp only [Option.isSome_none,Bool.false_eq_true,if_false]
 rw [← Array.getElem?_toList,h1]
 simp [hj']
theorem wV {w:World} {g n:Nat} {os:Array Obj} {cur:Array Value} {e:TypeId} {fr:Nat × Nat} (d:Array α) (hb:w.heap[g]? = some (.cells cur e fr)) :
 (grow (putRow enc (Sort.ahead w n) g 0 d) os).heap[g]? = some (.cells (putCells enc 0 d cur) e fr):=by
 have hg:g<w.heap.size:=(Array.getElem?_eq_some_iff.1 hb).1
 rw [heap_grow_old _ _ (by simpa using hg)]
 simp [putRow,mapBlock,Sort.ahead,Array.getElem?_modify,hb,onCells]
theorem kg {w:World} {g n:Nat} {os:Array Obj} (d:Array α):w.grownBy (grow (putRow enc (Sort.ahead w n) g 0 d) os) (some g):=by
 refine ⟨rfl,rfl,rfl,by simp,fun k hk hne=>?_⟩
 rw [heap_grow_old _ _ (by simpa using hk)]
 have:g≠k:=fun e=>hne (by rw [e])
 simp [putRow,mapBlock,Sort.ahead,Array.getElem?_modify,this]
theorem wH (cur:Array Value) (ts us:List α) (h:(ts++us).length≤cur.size):(putCells enc 0 (ts++us).toArray cur).toList.take ts.length=ts.map enc:=by
 apply List.ext_getElem?
 intro j
 rw [List.length_append] at h
 by_cases hj:j<ts.length
 ·rw [List.getElem?_take_of_lt hj,Array.getElem?_toList]
  simp [putCells,hj,show j<cur.size by omega,show j<ts.length+us.length by omega]
 ·rw [List.getElem?_take_eq_none (by omega),List.getElem?_eq_none (by simp;omega)]
theorem v8 {w:World} {g cap m n:Nat} {e:TypeId} {os:Array Obj} {cur:Array Value} {ts us:List α} (hm:(ts++us).length=m) (hb:w.heap[g]? = some (.cells cur e (0,0)))
 (h1:m≤cap) (h2:cap≤maxLen) (h3:cur.size=cap * 1) :
 (grow (putRow enc (Sort.ahead w n) g 0 (ts++us).toArray) os).ownsRow 0 e 1 (.slice (some ⟨g,0,none⟩) ts.length cap) ts.length (ts.map enc):=by
 have hle:ts.length≤m:=by rw [← hm,List.length_append];omega
 exact ⟨by simp,.inr ⟨g,cap,_,rfl,Nat.zero_le _,wV enc _ hb,by omega,h2,by simp [putCells,h3],by rw [Nat.mul_one];exact wH enc cur ts us (by omega)⟩⟩
end
structure wl {α:Type} (enc:α→Value) (f:α→D):Prop where
 val:∀w S x cs,Rp w S (f x) cs→cs = [enc x]
 any:∀w w' S S' x cs,Rp w S (f x) cs→Rp w' S' (f x) cs
theorem Fd:wl (Value.int .i64) D.i:=⟨fun _ _ _ _ h=>h.1,fun _ _ _ _ _ _ h=>h⟩
theorem Fe:wl _root_.Go.Proofs.encStr (fun l:List UInt8=>D.s ⟨l.toArray⟩):=⟨fun _ _ _ _ h=>h.1,fun _ _ _ _ _ _ h=>h⟩
section
variable {α:Type} [Inhabited α] {enc:α→Value} {fD:α→D} {P:Program} {f:FuncId} {e:TypeId}
theorem Je (hc:wl enc fD) {F S:BS} {w:World} {v:Value} {xs:List α} (h:(Tk.row 1 e (xs.map fD)).ok (Cx.of F) w v S):(xs = []∧∃a k,v=.slice a 0 k)∨∃g cap cur,v=.slice (some ⟨g,0,none⟩) xs.length cap∧S g∧w.heap[g]? = some (.cells cur e (0,0))∧xs.length≤cap∧cap≤maxLen∧cur.size=cap * 1∧cur.toList.take xs.length=xs.map enc∧∀x∈xs,∀w' S',Rp w' S' (fD x) [enc x]:=by
 rcases h with ⟨hd,a,hv⟩|⟨cells,own,hS,hel⟩
 ·exact .inl ⟨List.map_eq_nil_iff.1 hd,a,0,hv⟩
 have hel:∀j (h:j<xs.length),∃cs,cs.length=1∧Rp w (Cx.of F).F (fD xs[j]) cs∧∀t u,cs[t]? = some u→cells[j * 1+t]? = some u:=fun j h=>by
  obtain ⟨cs,q1,q2,q3⟩:=hel j (by rw [List.length_map];exact h)
  rw [List.getElem_map] at q2
  exact ⟨cs,q1,q2,q3⟩
 rw [List.length_map] at own
 have hcells:cells=xs.map enc:=by
  have hl:=own.1
  rw [Nat.mul_one] at hl
  apply List.ext_getElem (by simp [hl])
  intro j h1 h2
  obtain ⟨cs,q1,q2,q3⟩:=hel j (by simpa using h2)
  have e1:=hc.val _ _ _ _ q2
  subst e1
  have:=q3 0 _ rfl
  rw [Nat.mul_one,Nat.add_zero,List.getElem?_eq_getElem h1] at this
  rw [List.getElem_map];exact Option.some.inj this
 have hall:∀x∈xs,∀w' S',Rp w' S' (fD x) [enc x]:=fun x hx w' S'=>by
  obtain ⟨j,hj,rfl⟩:=List.mem_iff_getElem.1 hx
  obtain ⟨cs,q1,q2,q3⟩:=hel j hj
  have e1:=hc.val _ _ _ _ q2
  subst e1
  exact hc.any _ _ _ _ _ _ q2
 rcases own.2 with ⟨hv,hn⟩|⟨g,cap,cur,hv,_,hg,h5,h6,h7,h8⟩
 ·exact .inl ⟨List.eq_nil_of_length_eq_zero hn,none,0,hv⟩
 ·exact .inr ⟨g,cap,cur,hv,hS g (by rw [hv];rfl),hg,h5,h6,h7,by rw [← hcells,← Nat.mul_one xs.length];exact h8,hall⟩
theorem oy {ys:List α} (hall:∀(w':World) (S':BS),∀y∈ys,Rp w' S' (fD y) [enc y]) {F S:BS} {w':World} {g cap:Nat} (own:w'.ownsRow 0 e 1 (.slice (some ⟨g,0,none⟩) ys.length cap) ys.length (ys.map enc)) (hS:S g):(Tk.row 1 e (ys.map fD)).ok (Cx.of F) w' (.slice (some ⟨g,0,none⟩) ys.length cap) S:=by
 refine .inr ⟨ys.map enc,by rw [List.length_map];exact own,fun k hk=>by cases hk;exact hS,fun j hj=>⟨[enc (ys[j]'(by simpa using hj))],rfl,?_,fun t u ht=>?_⟩⟩
 ·rw [List.getElem_map];exact hall _ _ _ (List.getElem_mem _)
 ·rcases t with _|t
  ·simp at ht hj
   subst ht
   simp [hj]
  ·simp at ht
theorem Fs (hc:wl enc fD) {xs ys:List α} (henter:∀args w,(callFunc f args).run P w=.ok (.enter f args) w) (hmem:∀y∈ys,y∈xs) (hlen:ys.length=xs.length) (hno:∀p cap w,Calls P f #[.slice p 0 cap] w fun en w'=>en=.returned (.tuple #[])∧w'=w)
 (hyes:∀g cap w,Go.Sort.Holds enc w g 0 xs.toArray→g<w.heap.size→Calls P f #[.slice (some ⟨g,0,none⟩) xs.length cap] w fun en w'=>en=.returned (.tuple #[])∧∃n os,w'=grow (putRow enc (Sort.ahead w n) g 0 ys.toArray) os):FnS P f 1 e (xs.map fD) [] (ys.map fD):=by
 refine ⟨henter,fun F S w v vs hv hvs hF hS=>?_⟩
 cases (show vs = [] from hvs)
 rcases Je hc hv with ⟨rfl,a,k,rfl⟩|⟨g,cap,cur,rfl,hSg,hb,h5,h6,h7,h8,hall⟩
 ·have:ys = []:=List.eq_nil_of_length_eq_zero hlen
  subst this
  refine (hno a k w).mono ?_
  rintro en w' ⟨rfl,rfl⟩
  exact ⟨rfl,⟨rfl,rfl,rfl,Nat.le_refl _,fun _ _ _=>rfl⟩,hv⟩
 ·refine (hyes g cap w (o6 enc hb h8) (Array.getElem?_eq_some_iff.1 hb).1).mono ?_
  rintro en w' ⟨rfl,n,os,rfl⟩
  refine ⟨rfl,Chg.grown (kg enc _) (fun k hk=>by cases hk;exact hSg),?_⟩
  have own:=v8 enc (n:=n) (os:=os) (ts:=ys) (us:=[]) (m:=xs.length) (by simp [hlen]) hb h5 h6 h7
  rw [List.append_nil] at own
  rw [← hlen]
  exact oy (fun w' S' y hy=>hall y (hmem y hy) w' S') own hSg
theorem Fn (hc:wl enc fD) {xs ys us:List α} (henter:∀args w,(callFunc f args).run P w=.ok (.enter f args) w) (hmem:∀y∈ys,y∈xs) (hlen:(ys++us).length=xs.length) (hno:∀p cap w,Calls P f #[.slice p 0 cap] w fun en w'=>en=.returned (.slice p 0 cap)∧w'=w)
 (hyes:∀g cap w,Go.Sort.Holds enc w g 0 xs.toArray→xs.length≤cap→xs.length≤maxLen→Calls P f #[.slice (some ⟨g,0,none⟩) xs.length cap] w fun en w'=>en=.returned (.slice (some ⟨g,0,none⟩) ys.length cap)∧∃q,w'=putRow enc (Sort.ahead w q) g 0 (ys++us).toArray):FnC P f 1 e (xs.map fD) [] (ys.map fD):=by
 refine ⟨henter,fun F S w v vs hv hvs hF hS=>?_⟩
 cases (show vs = [] from hvs)
 rcases Je hc hv with ⟨rfl,a,k,rfl⟩|⟨g,cap,cur,rfl,hSg,hb,h5,h6,h7,h8,hall⟩
 ·have:ys = []:=by
   have:=List.eq_nil_of_length_eq_zero hlen
   exact (List.append_eq_nil_iff.1 this).1
  subst this
  refine (hno a k w).mono ?_
  rintro en w' ⟨rfl,rfl⟩
  exact ⟨_,rfl,⟨rfl,rfl,rfl,Nat.le_refl _,fun _ _ _=>rfl⟩,hv⟩
 ·refine (hyes g cap w (o6 enc hb h8) h5 (Nat.le_trans h5 h6)).mono ?_
  rintro en w' ⟨rfl,q,rfl⟩
  have hg0:putRow enc (Sort.ahead w q) g 0 (ys++us).toArray=grow (putRow enc (Sort.ahead w q) g 0 (ys++us).toArray) #[]:=by unfold grow;rw [Array.append_empty]
  rw [hg0]
  exact ⟨_,rfl,Chg.grown (kg enc _) (fun k hk=>by cases hk;exact hSg),oy (fun w' S' y hy=>hall y (hmem y hy) w' S') (v8 enc hlen hb h5 h6 h7) hSg⟩
end
theorem Cn (t id e:Nat) {W0:cz} {N:Nat} {σ:Env} {Q:Exit→Act→World→Prop} {x:Exit} {z:Nat} (h:At W0 N ((t,.sy (.k id)) :: (id,.tk (.row z e [])) :: σ) x Q) (ht:al σ t=some (.sy (.d (.n z))):=by rfl) (hf:al σ id=none:=by rfl) (hne:Nat.beq id t=false:=by rfl):At W0 N σ x Q:=fun a w hh=>h a w (hh.nilS ht hf hne)
end Go.Proofs.YtnobdioccfeokaaGreatDoor
namespace Go.Proofs.YtnobdioccfeokaaGreatDoor
open Go.RowKit
set_option linter.unusedVariables false
set_option linter.unusedSimpArgs false
section
variable {P:Program} {ops:Array Oper} {W0:cz} {N:Nat} {Fin:Us→Env→Prop} {os:List Oper} {us:Us} {pk fk:List Nat} {σ:Env} {g:Option (Nat × Bool)} {gk:List Nat} {d ty ty' ty2:Nat} {pos:String} {after:Array Edge}
theorem BI {ρ:Operand→Value} {w:World} {dd:Option Nat} {x y:Operand} {m n:Int} (hb : -1000000≤m+n∧m+n≤1000000) (h1:ρ x=.int .i32 m) (h2:ρ y=.int .i32 n):(execOp ρ ⟨dd,.binOp .add ty' x y ty2,ty,pos,after,g⟩).run P w=.ok (.value (.int .i32 (m+n))) w:=by
 have hw:IntKind.i32.wrap (m+n)=m+n:=by
  simp only [IntKind.wrap,IntKind.signed,IntKind.bits]
  simp
  omega
 simp only [execOp,h1,h2]
 exact congrArg (fun q=>Result.ok (Next.value (.int .i32 q)) w) hw
theorem bc {x y:Operand} {m n:Int} (h:Der P ops W0 N Fin os (us++[((d :: (gk++(kx x++kx y)))++pk,([d])++fk)]) [] [] ((d,.sy (.v (.int .i32 (m+n)))) :: σ)) (hx:ev σ x=some (.v (.int .i32 m)):=by rfl) (hy:ev σ y=some (.v (.int .i32 n)):=by rfl) (hb : -1000000≤m+n∧m+n≤1000000:=by omega) (hg:gst ops σ g=some (true,gk):=by rfl) (hN:Nat.blt d N=true:=by rfl) (hs:aF σ d=true:=by rfl):Der P ops W0 N Fin (⟨some d,.binOp .add ty' x y ty2,ty,pos,after,g⟩ :: os) us pk fk σ:=
 cr (.v (.int .i32 (m+n))) (kx x++kx y) (fun σ' c a w hk hc=>by
  have h1:a.eval x=.int .i32 m:=ap hc (ah hx (fun κ hκ=>hk κ (by simp [hκ])))
  have h2:a.eval y=.int .i32 n:=ap hc (ah hy (fun κ hκ=>hk κ (by simp [hκ])))
  exact ⟨_,BI hb h1 h2,rfl⟩) h hg hN hs
theorem Ee {ρ:Operand→Value} {w:World} {dd:Option Nat} {s t:Nat} {x:Operand} {n:Int} (hu:P.underlying s=some (.int .i32)) (ht:P.underlying t=some .string) (h1:ρ x=.int .i32 n):(execOp ρ ⟨dd,.convert s t x,ty,pos,after,g⟩).run P w=.ok (.value (.string (Utf8.encode n))) w:=by
 simp only [execOp,h1]
 unfold convert
 simp [run_underlying hu,run_underlying ht,Conv.intToString,go_sem]
theorem I6 {s t:Nat} {x:Operand} {n:Int} {b:ByteArray} (hb:Utf8.encode n=b) (hl:b.size≤maxLen) (h:Der P ops W0 N Fin os (us++[((d :: (gk++kx x))++pk,([d])++fk)]) [] [] ((d,.sy (.d (.s b))) :: σ)) (hx:ev σ x=some (.v (.int .i32 n)):=by rfl) (hu:P.underlying s=some (.int .i32):=by rfl) (ht:P.underlying t=some .string:=by rfl) (hg:gst ops σ g=some (true,gk):=by rfl) (hN:Nat.blt d N=true:=by rfl) (hs:aF σ d=true:=by rfl):Der P ops W0 N Fin (⟨some d,.convert s t x,ty,pos,after,g⟩ :: os) us pk fk σ:=
 cr (.d (.s b)) (kx x) (fun σ' c a w hk hc=>by
  have h1:a.eval x=.int .i32 n:=ap hc (ah hx hk)
  exact ⟨_,Ee hu ht h1,by rw [hb];exact ⟨rfl,hl⟩⟩) h hg hN hs
end
end Go.Proofs.YtnobdioccfeokaaGreatDoor
namespace Go.Proofs.YtnobdioccfeokaaGreatDoor
open Go.RowKit
set_option linter.unusedVariables false
set_option linter.unusedSimpArgs false
theorem Bi {σ:Env} {κ n e:Nat} {ds ds':List D} {ps:List (Nat × Value)} (h:al σ κ=some (.tk (.deep n e ds ps))) (he:ds=ds'):al σ κ=some (.tk (.deep n e ds' ps)):=he ▸ h
def EC:List Nat→List Sy→List Sy
 | [],_=>[]
 | 0 :: sh,ss=>ss.take 1++EC sh (ss.drop 1)
 | (n+1) :: sh,ss=>.ag (ss.take (n+1)) :: EC sh (ss.drop (n+1))
def se:List Nat→List Value→List Value
 | [],_=>[]
 | 0 :: sh,vs=>vs.take 1++se sh (vs.drop 1)
 | (n+1) :: sh,vs=>.agg (vs.take (n+1)).toArray :: se sh (vs.drop (n+1))
def FT:List Sy→Sy
 | [s]=>s
 | ss=>.tp ss
def FI:List Value→Value
 | [v]=>v
 | vs=>.tuple vs.toArray
theorem Cg {c:Cx} {w:World}:∀(sh:List Nat) (ss:List Sy) (vs:List Value),Sy.oks c w ss vs→Sy.oks c w (EC sh ss) (se sh vs):=by
 intro sh
 induction sh with
 | nil=>intro ss vs _;exact rfl
 | cons n sh ih=>
  intro ss vs h
  cases n with
  | zero=>exact ln _ _ _ _ (kw 1 _ _ h) (ih _ _ (kC 1 _ _ h))
  | succ n=>exact ⟨_,_,rfl,⟨_,rfl,kw (n+1) _ _ h⟩,ih _ _ (kC (n+1) _ _ h)⟩
theorem vc {c:Cx} {w:World}:∀(ss:List Sy) (vs:List Value),Sy.oks c w ss vs→(FT ss).ok c w (FI vs):=by
 intro ss vs h
 cases ss with
 | nil=>rw [show vs = [] from h];exact ⟨[],rfl,rfl⟩
 | cons s ss=>
  obtain ⟨y,t,rfl,h1,h2⟩:=h
  cases ss with
  | nil=>rw [show t = [] from h2];exact h1
  | cons s' ss=>
   obtain ⟨y',t',rfl,h3,h4⟩:=h2
   exact ⟨_,rfl,y,_,rfl,h1,y',t',rfl,h3,h4⟩
def FJ (W0:pd) (sh:List Nat) (ps:List Pt):Ending→World→Prop:=fun e w'=>∃(us:List Value) (T:Nat→BS),e=.returned (FI (se sh us))∧Ext W0.w w'∧us.length=ps.length∧(∀i b,T i b→W0.w.heap.size≤b∧b<w'.heap.size)∧(∀i j,i≠j→∀b,T i b→¬T j b) ∧
 ∀(i:Nat) (p:Pt),ps[i]? = some p→∃u,us[i]? = some u∧p.ok w' (fun b=>fresh W0.w w' W0.F b∧∀j,¬T j b) (T i) u
structure FnO (P:Program) (f:FuncId) (ds:List D) (sh:List Nat) (ps:List Pt):Prop where
 enter:∀args w,(callFunc f args).run P w=.ok (.enter f args) w
 calls:∀(F:BS) (w:World) (vs:List Value),DVs w F ds vs→(∀b,F b→b<w.heap.size)→Calls P f vs.toArray w (FJ ⟨w,F⟩ sh ps)
section
variable {P:Program} {ops:Array Oper} {W0:cz} {N:Nat} {Fin:Us→Env→Prop} {os:List Oper} {us:Us} {pk fk:List Nat} {σ:Env} {g:Option (Nat × Bool)} {gk:List Nat} {d ty ty' f:Nat} {pos:String} {after:Array Edge} {at':Array TypeId} {xs:List Operand} {ds:List D}
theorem aW {sh:List Nat} {ps:List Pt} (h:Der P ops W0 N Fin os (us++[((d :: (gk++(((List.range ps.length).map fun k=>30000+1000 * k+d)++kxs xs)))++pk,(d :: (nE d 0 ps).map Prod.fst)++fk)]) [] [] ((d,.sy (FT (EC sh (C2 d 0 ps)))) :: (nE d 0 ps++σ))) (hx:evs σ xs=some ds:=by rfl) (hf:FnO P f ds sh ps:=by assumption) (hi:((List.range ps.length).all fun k=>(al σ (30000+1000 * k+d)).isNone)=true:=by rfl) (hg:gst ops σ g=some (true,gk):=by rfl) (hN:Nat.blt d N=true:=by rfl) (hs:aF (nE d 0 ps++σ) d=true:=by rfl) (hu:(nE d 0 ps).all (fun p=>!(Nat.beq p.1 d))=true:=by rfl):Der P ops W0 N Fin (⟨some d,.call { callee:=.value (.func f),args:=xs.toArray,argTypes:=at' },ty,pos,after,g⟩ :: os) us pk fk σ:=
 jy (FT (EC sh (C2 d 0 ps))) (((List.range ps.length).map fun k=>30000+1000 * k+d)++kxs xs) (nE d 0 ps) (fun σ' c a w hk hc=>by
  unfold Oper.wp
  rw [cw hf.enter rfl]
  refine (hf.calls c.F w _ (kR hc xs ds hx (fun κ hκ=>hk κ (by simp [hκ]))) hc.lt).mono ?_
  rintro e' w' ⟨vs,T,rfl,hX,hl,hT,hdis,hel⟩
  have hc1:=hc.grow hX (fun b=>fresh w w' c.F b∧∀j,¬T j b) (fun b hb=>⟨.inl hb,fun j e=>by have:=hc.lt b hb;have e2:w.heap.size≤b:=(hT j b e).1;omega⟩) (fun _ h=>h.1.imp id (fun h=>h.1)) (fun b hb=>hb.1.elim (fun h'=>Nat.lt_of_lt_of_le (hc.lt b h') (Below.size hX)) (fun h=>h.2))
  obtain ⟨c',h1,h2,h3,h4,h5⟩:=oz hc1 d w.heap.size T hc.ext.size (fun j u hj b hb=>((hc.tok j u hj).2.2 b hb).2.1) (fun i b hb=>⟨fun hF=>hF.2 i hb,hT i b hb⟩) hdis ps 0 vs (fun k=>by
   rcases Nat.lt_or_ge k ps.length with hk'|hk'
   ·left
    rw [Nat.zero_add,hk _ (List.mem_append_left _ (List.mem_map.2 ⟨k,List.mem_range.2 hk',rfl⟩))]
    have:=List.all_eq_true.1 hi k (List.mem_range.2 hk')
    simpa using this
   ·exact .inr hk') hl (fun k p hp=>by rw [Nat.zero_add];exact hel k p hp)
  exact ⟨_,c',rfl,h1,vc _ _ (Cg sh _ _ h5)⟩) h hg hN hs hu
theorem ax {x y:Operand} {i j o z e:Nat} {ds:List D} {ps:List (Nat × Value)} {cs:List Sy} (h:Der P ops W0 N Fin os (us++[((gk++(i :: ([j]++(kx x++kx y))))++pk,([i])++fk)]) [] [] ((i,.tk (.bx (cs.set o (.k j)))) :: σ)) (hx:ev σ x=some (.bx i o):=by rfl) (hi:al σ i=some (.tk (.bx cs)):=by rfl) (hy:ev σ y=some (.k j):=by rfl) (hj:al σ j=some (.tk (.deep z e ds ps)):=by rfl) (ho:Nat.blt o cs.length=true:=by rfl) (hz:sizeOf? P ty'=some 1:=by rfl) (hg:gst ops σ g=some (true,gk):=by rfl):Der P ops W0 N Fin (⟨none,.store ty' x y,ty,pos,after,g⟩ :: os) us pk fk σ:=
 lq (i :: ([j]++(kx x++kx y))) [(i,.tk (.bx (cs.set o (.k j))))] (fun σ' c a w hk hc=>by
  obtain ⟨hAi,b,e1,e2⟩:=ap hc (ah hx (fun κ hκ=>hk κ (by simp [hκ])))
  have hi':=(hk i (by simp)).trans hi
  obtain ⟨_,⟨b',vs,e3,e4,e5,e6⟩,hlt⟩:=hc.tok i _ hi'
  rw [e1] at e3;cases e3
  have hv:=ap hc (ah hy (fun κ hκ=>hk κ (by simp [hκ])))
  have hone:(a.eval y).oneCell'=true:=my hc hv (by unfold pu;dsimp only;rw [(hk j (by simp)).trans hj])
  have hol:o<vs.length:=by rw [cM _ _ e5];exact Nat.blt_eq.mp ho
  obtain ⟨q4,q5⟩:=e6 o _ (List.getElem?_eq_getElem hol)
  unfold Oper.wp
  rw [fu hz hone q4 q5 e2 rfl]
  have hch:Chg (c.T i) w (w.setCell ⟨b,o,none⟩ (a.eval y)):=Chg.grown (co b o _) (fun g hg=>by cases hg;exact e4)
  refine ⟨rfl,c,hc.upd hi' hch (by simp) (fun hag=>⟨b,vs.set o (a.eval y),e1,e4,?_,e6.set o _⟩)⟩
  exact jY _ _ _ _ _ (Sy.keeps (Cx.Le.refl c) hag _ _ e5) (Sy.keep (Cx.Le.refl c) hag _ _ hv)) h hg
end
theorem JY (t:Nat) {P:Program} {ops:Array Oper} {W0:cz} {N:Nat} {Fin:Us→Env→Prop} {os:List Oper} {us:Us} {pk fk:List Nat} {σ:Env} {o:Oper} {i:Nat} {cs:List Sy} (h:Der P ops W0 N Fin (o :: os) us (([t,i]++cP cs)++pk) ([t,i]++fk) ((t,.sy (.atS 0 cs)) :: (i,.no) :: σ)) (hx:al σ t=some (.sy (.bx i 0)):=by rfl) (hi:al σ i=some (.tk (.bx cs)):=by rfl) (ho:cs.all (pu σ)=true:=by rfl) (hu:Nat.beq i t=false:=by rfl):Der P ops W0 N Fin (o :: os) us pk fk σ:=by
 obtain ⟨keys,upd,h1,h2⟩:=h
 refine ⟨keys++([t,i]++cP cs),upd++[(t,.sy (.atS 0 cs)),(i,.no)],fun σ' a w hk hh=>?_,?_⟩
 ·have h3:=Holds.fzS ((hk t (by simp)).trans hx) ((hk i (by simp)).trans hi) ((fo (fun κ hκ=>hk κ (by simp [hκ]))).trans ho) hu hh
  have h4:=h1 _ a w (fun κ hκ=>?_) h3
  ·rw [List.append_assoc];exact h4
  ·rw [ab,ab,ab,ab,hk κ (by simp [hκ])]
 ·simp only [List.append_assoc,List.map_append] at h2 ⊢
  exact h2
inductive wg (σ:Env):Sy→Pt→Prop
 | d {r:D}:isT r=false→wg σ (.d r) (.d r)
 | k {i:Nat} {t:Tk}:al σ i=some (.tk t)→t.rowB=true→wg σ (.k i) (.tk t)
 | n {z z' e:Nat}:wg σ (.d (.n z)) (.tk (.row z' e []))
 | m {z z' e:Nat}:wg σ (.d (.n z)) (.tk (.deep z' e [] []))
 | o {z z':Nat}:wg σ (.d (.n z)) (.tk (.own (.l z' []) none none))
inductive qL (σ:Env):List Sy→List Pt→Prop
 | nil:qL σ [] []
 | cons {s:Sy} {p:Pt} {ss:List Sy} {ps:List Pt}:wg σ s p→qL σ ss ps→qL σ (s :: ss) (p :: ps)
theorem qL.at {σ:Env} {ss:List Sy} {ps:List Pt} (h:qL σ ss ps):ss.length=ps.length∧∀(k:Nat) (p:Pt),ps[k]? = some p→∃s,ss[k]? = some s∧wg σ s p:=by
 induction h with
 | nil=>exact ⟨rfl,fun k p h=>by simp at h⟩
 | cons h1 _ ih=>
  refine ⟨by simp [ih.1],fun k p hk=>?_⟩
  cases k with
  | zero=>simp at hk;subst hk;exact ⟨_,rfl,h1⟩
  | succ k=>exact ih.2 k p (by simpa using hk)
def isK (j:Nat):Sy→Bool
 | .k i=>Nat.beq i j
 | _=>false
def zV:List Sy→Bool
 | []=>true
 | .k i :: q=>q.all (fun s=>!isK i s) && zV q
 | _ :: q=>zV q
theorem tZ {s:Sy} {q:List Sy} (h:zV (s :: q)=true):zV q=true:=by
 cases s with
 | k i=>exact (Bool.and_eq_true _ _ ▸ h:_∧_).2
 | _=>exact h
theorem iL:∀(q:List Sy) (k l i j:Nat),zV q=true→k<l→q[k]? = some (.k i)→q[l]? = some (.k j)→i≠j:=by
 intro q
 induction q with
 | nil=>intro k l i j _ _ h;simp at h
 | cons s q ih=>
  intro k l i j hq hkl hk hl
  cases l with
  | zero=>omega
  | succ l=>
   rw [List.getElem?_cons_succ] at hl
   cases k with
   | zero=>
    simp at hk
    subst hk
    have h1:q.all (fun s=>!isK i s)=true:=(Bool.and_eq_true _ _ ▸ hq:_∧_).1
    have:=List.all_eq_true.1 h1 _ (List.mem_of_getElem? hl)
    intro e
    subst e
    simp [isK] at this
   | succ k=>exact ih k l i j (tZ hq) (by omega) (by simpa using hk) hl
def Gq (P:Program) (σ:Env):List ResultVar→Option (List Nat × List Sy)
 | []=>some ([],[])
 | .tmp t :: rs=>match ev σ (.tmp t),Gq P σ rs with
  | some (.d r),some (sh,q)=>some (0 :: sh,.d r :: q)
  | some (.k i),some (sh,q)=>some (0 :: sh,.k i :: q)
  | _,_=>none
 | .cell t ty :: rs=>match ev σ (.tmp t),isAgg? P ty,Gq P σ rs with
  | some (.bx i 0),some true,some (sh,q)=>match al σ i with
   | some (.tk (.bx cs))=>match sizeOf? P ty with
    | some (z+1)=>match Nat.beq (z+1) cs.length with|true=>some ((z+1) :: sh,cs++q)|false=>none
    | _=>none
   | _=>none
  | _,_,_=>none
theorem Df {P:Program} {W0:cz} {N:Nat} {a:Act} {w:World} {c:Cx} {σ:Env} (h:aE W0 N σ a w c):∀(rs:List ResultVar) (sh:List Nat) (q:List Sy),Gq P σ rs=some (sh,q)→∃us:List Value,(rs.mapM (m:=Sem) (rvF a.tmps)).run P w=.ok (se sh us) w∧Sy.oks c w q us:=by
 intro rs
 induction rs with
 | nil=>intro sh q he;cases he;exact ⟨[],by simp [go_sem,se],rfl⟩
 | cons r rs ih=>
  intro sh q he
  cases r with
  | tmp t=>
   have key:∀s sh' q',ev σ (.tmp t)=some s→Gq P σ rs=some (sh',q')→∃us:List Value,((ResultVar.tmp t :: rs).mapM (m:=Sem) (rvF a.tmps)).run P w=.ok (se (0 :: sh') us) w∧Sy.oks c w (s :: q') us:=fun s sh' q' h1 h2=>by
    obtain ⟨us,h3,h4⟩:=ih sh' q' h2
    refine ⟨_ :: us,?_,_,us,rfl,ap h h1,h4⟩
    rw [List.mapM_cons]
    simp only [Sem.run_bind,Sem.run_pure,Result.andThen_ok,h3,rvF]
    rfl
   unfold Gq at he
   split at he
   ·rename_i h1 h2;cases he;exact key _ _ _ h1 h2
   ·rename_i h1 h2;cases he;exact key _ _ _ h1 h2
   ·cases he
  | cell t ty=>
   unfold Gq at he
   split at he
   ·rename_i i sh' q' h1 hA h2
    split at he
    ·rename_i cs hcs
     split at he
     ·rename_i z hz
      split at he
      ·rename_i hb
       cases he
       obtain ⟨us',h3,h4⟩:=ih _ _ h2
       obtain ⟨_,b,e1,e2⟩:=ap h h1
       obtain ⟨_,⟨b',us,e3,e4,e5,e6⟩,_⟩:=h.tok i _ hcs
       rw [e1] at e3;cases e3
       have hlen:us.length=z+1:=(cM _ _ e5).trans (Nat.eq_of_beq_eq_true hb).symm
       refine ⟨us++us',?_,ln _ _ _ _ e5 h4⟩
       have hld:=eL (P:=P) (ty:=ty) (b:=b) (off:=0) (w:=w) hA (by rw [hz,hlen]) (fun j u hj=>by rw [Nat.zero_add];exact (e6 j u hj).1)
       have hld':(loadVar ty ⟨b,0,none⟩).run P w=.ok (.agg us.toArray) w:=by
        unfold Instr.loadAt at hld
        simpa [Instr.sureAddr] using hld
       have ht:a.tmps.getD t undef=.pointer (some ⟨b,0,none⟩):=e2
       rw [List.mapM_cons]
       have hadr:(asAddr (.pointer (some ⟨b,0,none⟩))).run P w=.ok ⟨b,0,none⟩ w:=rfl
       simp only [Sem.run_bind,Sem.run_pure,Result.andThen_ok,ht,hadr,hld',h3,rvF,se]
       rw [List.take_append_of_le_length (by omega),List.drop_append_of_le_length (by omega),List.take_of_length_le (by omega),List.drop_of_length_le (by omega)]
       rfl
      ·cases he
     ·cases he
    ·cases he
   ·cases he
def tOf (c:Cx):Option Sy→BS
 | some (.k i)=>c.T i
 | _=>fun _=>False
section
variable {P:Program} {W0:pd} {N:Nat} {σ:Env} {fn:Func} {rs:List ResultVar}
theorem ik {sh:List Nat} {q:List Sy} {ps:List Pt} (hr:fn.results=rs.toArray:=by rfl) (hd:Gq P σ rs=some (sh,q):=by rfl) (hp:qL σ q ps) (hk:zV q=true:=by rfl) (hl:Nat.beq sh.length rs.length=true:=by rfl):At W0.toB N σ .ret (bodyPost P fn (FJ W0 sh ps)):=fun a w hh=>by
 obtain ⟨c,h⟩:=hh
 obtain ⟨us,h1,h2⟩:=Df h rs _ _ hd
 obtain ⟨hq,hat⟩:=hp.at
 have htok:∀(k i:Nat),q[k]? = some (.k i)→∃t,al σ i=some (.tk t):=fun k i hki=>by
  obtain ⟨p,hpk⟩:∃p,ps[k]? = some p:=by
   have:k<ps.length:=by rw [← hq];exact (List.getElem?_eq_some_iff.1 hki).1
   exact ⟨_,List.getElem?_eq_getElem this⟩
  obtain ⟨s,e1,e2⟩:=hat k p hpk
  rw [hki] at e1;cases e1
  cases e2 with
  | k e _=>exact ⟨_,e⟩
 have hT:∀(k b:Nat),tOf c q[k]? b→∃i t,q[k]? = some (.k i)∧al σ i=some (.tk t)∧c.T i b:=fun k b hb=>by
  cases e:q[k]? with
  | none=>rw [e] at hb;exact hb.elim
  | some s=>
   rw [e] at hb
   cases s with
   | k i=>obtain ⟨t,ht⟩:=htok k i e;exact ⟨i,t,rfl,ht,hb⟩
   | _=>exact hb.elim
 refine bodyPost_ret (v:=FI (se sh us)) ?_ h.defers ⟨us,fun k=>tOf c q[k]?,rfl,h.ext.toExt,?_,fun k b hb=>?_,fun k l hne b hb hb'=>?_,fun k p hpk=>?_⟩
 ·rw [gM,hr,Array.mapM_eq_mapM_toList,show rs.toArray.toList=rs from rfl]
  simp only [Sem.run_bind,Sem.run_map,h1]
  cases se sh us with
  | nil=>simp [Result.andThen,FI,go_sem]
  | cons v t=>
   cases t with
   | nil=>simp [Result.andThen,FI,go_sem]
   | cons v' t=>simp [Result.andThen,FI,go_sem]
 ·rw [cM _ _ h2,hq]
 ·obtain ⟨i,t,_,ht,hi⟩:=hT k b hb
  have:=(h.tok i t ht).2.2 b hi
  exact ⟨this.2.2.elim False.elim _root_.id,this.2.1⟩
 ·obtain ⟨i,t,e1,ht,hi⟩:=hT k b hb
  obtain ⟨j,u,e2,hu,hj⟩:=hT l b hb'
  refine h.off i j t u ht hu ?_ b hi hj
  rcases Nat.lt_or_gt_of_ne hne with hlt|hlt
  ·exact iL q k l i j hk hlt e1 e2
  ·exact (iL q l k j i hk hlt e2 e1).symm
 ·obtain ⟨s,e1,e2⟩:=hat k p hpk
  obtain ⟨v,e3,e4⟩:=qB _ _ k s h2 e1
  refine ⟨v,e3,?_⟩
  have hG:∀b,c.F b→fresh W0.w w W0.F b∧∀j,¬tOf c q[j]? b:=fun b hb=>⟨(h.old b hb).imp _root_.id (fun h'=>⟨h'.elim False.elim _root_.id,h.lt b hb⟩),fun j hj=>by
   obtain ⟨i,t,_,ht,hi⟩:=hT j b hj
   exact ((h.tok i t ht).2.2 b hi).1 hb⟩
  cases e2 with
  | d hr=>exact ⟨hr,DV.keep hG (fun _ _ _=>rfl) e4⟩
  | k hi hb=>
   refine ⟨hb,?_⟩
   obtain ⟨_,e5⟩:=e4
   rw [e5]
   rename_i i0 t0 _
   have hS:tOf c q[k]? = c.T i0:=by rw [e1];rfl
   show Tk.ok _ w _ _ (tOf c q[k]?)
   rw [hS]
   exact Tk.cx hb hG (h.tok _ _ hi).2.1
  | n=>obtain ⟨a0,ha⟩:=e4;exact ⟨rfl,.inl ⟨rfl,a0,(List.cons.inj ha).1⟩⟩
  | m=>obtain ⟨a0,ha⟩:=e4;exact ⟨rfl,.inl ⟨rfl,rfl,a0,(List.cons.inj ha).1⟩⟩
  | o=>obtain ⟨a0,ha⟩:=e4;exact ⟨rfl,⟨a0,0,ha,Nat.le_refl _,by decide,fun _=>rfl,.inl rfl⟩,fun p hp=>(by cases hp),fun p hp=>(by cases hp)⟩
end
theorem cT {P : Program} {f : FuncId} {ds : List D} {sh : List Nat} {ps : List Pt} {fn : Func} {c : Code} {N : Nat} (hf : P.funcs[f]? = some fn) (h : WfL ds → ∀ W0 : pd, ar P W0.toB N c (Fc 0 ds) (bodyPost P fn (FJ W0 sh ps))) (hb : fn.body = some c := by rfl) (hN : fn.ntmps = N := by rfl) (hl : Nat.ble ds.length N = true := by rfl) (hnm : (fn.name == "runtime.NumGoroutine") = false := by kernel_rfl) : FnO P f ds sh ps := by
 refine ⟨fun args w=>?_,fun F w vs hv hF=>?_⟩
 ·unfold callFunc
  simp only [Sem.run_bind,show (program).run P w=.ok P w from rfl,Result.andThen_ok,hf,hnm,hb]
  rfl
 ·obtain ⟨h1,h2⟩:=xV ds vs hv
  refine calls_of_wp hf hb (h (DVs.wf ds vs hv) ⟨w,F⟩ _ w ⟨⟨F,fun _=>undef,fun _ _=>False,fun _=>False⟩,⟨rfl,rfl,rfl,Nat.le_refl _,fun _ _ _=>rfl⟩,fun b hb=>.inl hb,hF,?_,rfl,fun i hi=>hi.elim,fun i t ht=>?_,fun i j t u hi=>?_,fun t s ht=>?_⟩)
  ·have:=Nat.le_of_ble_eq_true hl
   simp [h1,hN];omega
  ·obtain ⟨r',e,_⟩:=gU _ _ _ _ ht;cases e
  ·obtain ⟨r',e,_⟩:=gU _ _ _ _ hi;cases e
  ·obtain ⟨r',e,h3,h4⟩:=gU _ _ _ _ ht
   cases e
   obtain ⟨v,h5,h6⟩:=h2 _ _ h4
   rw [Nat.sub_zero] at h5
   refine ⟨v,?_,Cu (by exact h6)⟩
   have hlt:t<vs.length:=by
    rcases Nat.lt_or_ge t vs.length with h|h
    ·exact h
    ·rw [List.getElem?_eq_none h] at h5;cases h5
   show (vs.toArray++Array.replicate (fn.ntmps - vs.toArray.size) undef)[t]? = some v
   rw [Array.getElem?_append_left (by simpa using hlt)]
   simpa using h5
end Go.Proofs.YtnobdioccfeokaaGreatDoor
namespace Go.Proofs.YtnobdioccfeokaaGreatDoor
open Go.RowKit
set_option linter.unusedVariables false
set_option linter.unusedSimpArgs false
def nS:List (Int × Int)→Int→Option Int
 | [],_=>none
 | p :: m,n=>if n=p.1 then some p.2 else nS m n
theorem Ba (kd:IntKind) (k:Int):∀(es:List MapEntry) (m:List (Int × Int)) (i:Nat),es.map (fun e=>(e.key,e.val))=m.map (fun p=>(Value.int .i64 p.1,Value.int .i64 p.2))→∃r,Instr.findNow (.int kd) (.int .i64 k) es i=some r∧r.map Prod.snd=(nS m k).map (Value.int .i64):=by
 intro es
 induction es with
 | nil=>
  intro m i h
  cases m with
  | nil=>exact ⟨none,rfl,rfl⟩
  | cons p m=>simp at h
 | cons e es ih=>
  intro m i h
  cases m with
  | nil=>simp at h
  | cons p m=>
   simp only [List.map_cons,List.cons.injEq,Prod.mk.injEq] at h
   obtain ⟨⟨h1,h2⟩,h3⟩:=h
   unfold Instr.findNow nS
   rw [h1]
   by_cases hk:k=p.1
   ·rw [if_pos hk]
    exact ⟨some (i,e.val),by simp [Instr.sameNow,hk],by simp [h2]⟩
   ·rw [if_neg hk]
    obtain ⟨r,h4,h5⟩:=ih m (i+1) h3
    have hb:(k == p.1)=false:=by simp [hk]
    exact ⟨r,by simp only [Instr.sameNow,if_pos,hb];simp [h4],h5⟩
def map? (P:Program) (ty:Nat):Option (Nat × Nat):=match P.underlying ty with|some (.map k e)=>some (k,e)|_=>none
def int? (P:Program) (ty:Nat):Option IntKind:=match P.underlying ty with|some (.int k)=>some k|_=>none
theorem Fm {P:Program} {ty k e:Nat} (h:map? P ty=some (k,e)):P.underlying ty=some (.map k e):=by
 unfold map? at h;split at h
 ·rename_i h1;cases h;exact h1
 ·cases h
theorem xM {P:Program} {ty:Nat} {k:IntKind} (h:int? P ty=some k):P.underlying ty=some (.int k):=by
 unfold int? at h;split at h
 ·rename_i h1;cases h;exact h1
 ·cases h
theorem z1 {P:Program} {w:World} {ty kt et b:Nat} {m:List (Int × Int)} {n:Int} (ht:map? P ty=some (kt,et)) (hk:int? P kt=some .i64) (hz:rh P et=some (.int .i64 0)) (hm:G1 w b m):(Instr.lookup ty (.map (some b)) (.int .i64 n) true).run P w=.ok (.tuple #[.int .i64 ((nS m n).getD 0),.bool (nS m n).isSome]) w:=by
 obtain ⟨es,clock,h1,h2⟩:=hm
 obtain ⟨r,h3,h4⟩:=Ba .i64 n es.toList m 0 h2
 have hzr:(zeroValue et).run P w=.ok (.int .i64 0) w:=by
  unfold rh at hz
  rw [Option.bind_eq_some_iff] at hz
  obtain ⟨i,hi,hz⟩:=hz
  simp [zeroValue,typeInfo,hi,hz,Sem.run_bind,Result.andThen]
 have hc:∀e,(Instr.checkKey e 10000 kt (.int .i64 n)).run P w=.ok () w:=fun e=>_root_.Go.MapKept.run_checkKey (xM hk) (by exact rfl) e 9999
 unfold Instr.lookup
 simp only [Sem.run_bind,run_underlying (Fm ht),Result.andThen_ok,_root_.Go.MapKept.run_getObj_map h1,Sem.run_pure,hc,_root_.Go.MapKept.run_findKey (xM hk) h3]
 cases r with
 | none=>
  have:nS m n=none:=by cases hg:nS m n with|none=>rfl|some v=>rw [hg] at h4;simp at h4
  rw [this]
  simp [hzr,Result.andThen]
 | some q=>
  obtain ⟨i,v⟩:=q
  cases hg:nS m n with
  | none=>rw [hg] at h4;simp at h4
  | some x=>
   rw [hg] at h4
   simp at h4
   simp [h4,Result.andThen]
theorem EL {P:Program} {w:World} {ty kt et b:Nat} {m:List (Int × Int)} {n v:Int} (ht:map? P ty=some (kt,et)) (hk:int? P kt=some .i64) (hm:G1 w b m) (hn:nS m n=none):∃w',(Instr.mapUpdate ty (.map (some b)) (.int .i64 n) (.int .i64 v)).run P w=.ok () w'∧w.grownBy w' (some b)∧w'.heap.size=w.heap.size∧G1 w' b (m++[(n,v)]):=by
 obtain ⟨es,clock,h1,h2⟩:=hm
 obtain ⟨r,h3,h4⟩:=Ba .i64 n es.toList m 0 h2
 rw [hn] at h4
 have hr:r=none:=by cases r with|none=>rfl|some q=>simp at h4
 subst hr
 have hc:(Instr.checkKey false 10000 kt (.int .i64 n)).run P w=.ok () w:=_root_.Go.MapKept.run_checkKey (xM hk) (by exact rfl) false 9999
 refine ⟨{ w with heap:=w.heap.setIfInBounds b (.map (es.push { key:=.int .i64 n,val:=.int .i64 v,born:=clock }) (clock+1)) },?_,⟨rfl,rfl,rfl,by simp,fun k hk hne=>?_⟩,by simp,?_⟩
 ·unfold Instr.mapUpdate
  simp only [Sem.run_bind,run_underlying (Fm ht),Result.andThen_ok,_root_.Go.MapKept.run_getObj_map h1,hc,_root_.Go.MapKept.run_findKey (xM hk) h3,_root_.Go.MapKept.run_setObj_map _ h1]
 ·exact (_root_.Go.MapKept.heap_set h1).2 k (fun e=>hne (by rw [e]))
 ·exact ⟨_,_,(_root_.Go.MapKept.heap_set h1).1,by simp [h2]⟩
section
variable {P:Program} {ops:Array Oper} {W0:cz} {N:Nat} {Fin:Us→Env→Prop} {os:List Oper} {us:Us} {pk fk:List Nat} {σ:Env} {g:Option (Nat × Bool)} {gk:List Nat} {d ty ty':Nat} {pos:String} {after:Array Edge} {x y z:Operand} {i kt et:Nat} {m:List (Int × Int)} {s t:Sy} {n v:Int}
theorem FD (h:Der P ops W0 N Fin os (us++[((d :: (gk++[10000+d]))++pk,([d,10000+d])++fk)]) [] [] ((d,.sy (.k (10000+d))) :: (10000+d,.tk (.mp [])) :: σ)) (hi:al σ (10000+d)=none:=by rfl) (hg:gst ops σ g=some (true,gk):=by rfl) (hN:Nat.blt d N=true:=by rfl) (hs:aF ((10000+d,.tk (.mp [])) :: σ) d=true:=by rfl) (hu:Nat.beq (10000+d) d=false:=by rfl):Der P ops W0 N Fin (⟨some d,.makeMap ty' none,ty,pos,after,g⟩ :: os) us pk fk σ:=
 jy (.k (10000+d)) [10000+d] [(10000+d,.tk (.mp []))] (fun σ' c a w hk hc=>by
  have hX:Ext w (w.alloc (.map #[] 0)):=(Ext.refl w).alloc _
  have hr:(execOp a.eval ⟨some d,.makeMap ty' none,ty,pos,after,g⟩).run P w=.ok (.value (.map (some w.heap.size))) (w.alloc (.map #[] 0)):=rfl
  unfold Oper.wp
  rw [hr]
  have hc1:=hc.grow hX c.F (fun _ h=>h) (fun _ h=>.inl h) (fun b hb=>Nat.lt_of_lt_of_le (hc.lt b hb) (Below.size hX))
  refine ⟨_,_,rfl,hc1.new (i:=10000+d) (t:=.mp []) (v:=.map (some w.heap.size)) (S:=fun b=>b=w.heap.size) ((hk _ (by simp)).trans hi) ⟨_,rfl,rfl,#[],0,(_root_.Go.MapKept.heap_alloc w _).1,rfl⟩ (fun b hb=>⟨fun hF=>?_,?_⟩) (fun j u hj b hb hT=>?_),?_⟩
  ·subst hb;exact absurd (hc.lt _ hF) (Nat.lt_irrefl _)
  ·subst hb;exact ⟨by simp,.inr hc.ext.size⟩
  ·subst hb;exact absurd ((hc.tok j u hj).2.2 _ hT).2.1 (Nat.lt_irrefl _)
  ·exact ⟨.inr rfl,(if_pos rfl).symm⟩) h hg hN hs (by simp [hu])
theorem Ah (hx:ev σ x=some (.k i)) (hi:al σ i=some (.tk (.mp m))) (hy:ev σ y=some s) (hz:ev σ z=some t) (hm:s.int? = some n) (hv:t.int? = some v) (hn:nS m n=none) (ht:map? P ty'=some (kt,et)) (hk':int? P kt=some .i64) {σ':Env} {c:Cx} {a:Act} {w:World} (hk:∀κ∈i :: (kx x++(kx y++kx z)),al σ' κ=al σ κ) (hc:aE W0 N σ' a w c):∃w',(Instr.mapUpdate ty' (a.eval x) (a.eval y) (a.eval z)).run P w=.ok () w'∧aE W0 N ((i,.tk (.mp (m++[(n,v)]))) :: σ') a w' c:=by
 have hi':=(hk i (by simp)).trans hi
 obtain ⟨_,⟨b,e1,e2,e3⟩,_⟩:=hc.tok i _ hi'
 obtain ⟨_,hxv⟩:=ap hc (ah hx (fun κ hκ=>hk κ (by simp [hκ])))
 have hyv:=df hm (ap hc (ah hy (fun κ hκ=>hk κ (by simp [hκ]))))
 have hzv:=df hv (ap hc (ah hz (fun κ hκ=>hk κ (by simp [hκ]))))
 obtain ⟨w',h1,h2,h3,h4⟩:=EL ht hk' e3 hn (v:=v)
 rw [hxv,e1,hyv,hzv]
 exact ⟨w',h1,hc.upd hi' (Chg.grown h2 (fun g hg=>by cases hg;exact e2)) h3 (fun _=>⟨b,e1,e2,h4⟩)⟩
theorem Fx (h:Der P ops W0 N Fin os (us++[((gk++(i :: (kx x++(kx y++kx z))))++pk,([i])++fk)]) [] [] ((i,.tk (.mp (m++[(n,v)]))) :: σ)) (hn:nS m n=none) (hx:ev σ x=some (.k i):=by rfl) (hi:al σ i=some (.tk (.mp m)):=by rfl) (hy:ev σ y=some s:=by rfl) (hz:ev σ z=some t:=by rfl) (hm:s.int? = some n:=by rfl) (hv:t.int? = some v:=by rfl) (ht:map? P ty'=some (kt,et):=by rfl) (hk':int? P kt=some .i64:=by rfl) (hg:gst ops σ g=some (true,gk):=by rfl):Der P ops W0 N Fin (⟨none,.mapUpdate ty' x y z,ty,pos,after,g⟩ :: os) us pk fk σ:=
 lq (i :: (kx x++(kx y++kx z))) [(i,.tk (.mp (m++[(n,v)])))] (fun σ' c a w hk hc=>by
  obtain ⟨w',h1,h2⟩:=Ah hx hi hy hz hm hv hn ht hk' hk hc
  unfold Oper.wp
  rw [show (execOp a.eval ⟨none,.mapUpdate ty' x y z,ty,pos,after,g⟩).run P w=.ok .skip w' from tR h1]
  exact ⟨rfl,c,h2⟩) h hg
theorem FM (h:Der P ops W0 N Fin os (us++[((gk++(i :: (kx x++(kx y++kx z))))++pk,([i])++fk)]) [] [] ((i,.tk (.mp (m++[(n,v)]))) :: σ)) (hn:nS m n=none) (hx:ev σ x=some (.k i):=by rfl) (hi:al σ i=some (.tk (.mp m)):=by rfl) (hy:ev σ y=some s:=by rfl) (hz:ev σ z=some t:=by rfl) (hm:s.int? = some n:=by rfl) (hv:t.int? = some v:=by rfl) (ht:map? P ty'=some (kt,et):=by rfl) (hk':int? P kt=some .i64:=by rfl) (hg:gst ops σ g=some (true,gk):=by rfl):Der P ops W0 N Fin (⟨none,.insert ty' x y z,ty,pos,after,g⟩ :: os) us pk fk σ:=
 lq (i :: (kx x++(kx y++kx z))) [(i,.tk (.mp (m++[(n,v)])))] (fun σ' c a w hk hc=>by
  obtain ⟨w',h1,h2⟩:=Ah hx hi hy hz hm hv hn ht hk' hk hc
  unfold Oper.wp
  rw [show (execOp a.eval ⟨none,.insert ty' x y z,ty,pos,after,g⟩).run P w=.ok .skip w' from tR h1]
  exact ⟨rfl,c,h2⟩) h hg
theorem Bf (o:Option Int) (ho:nS m n=o) (h:Der P ops W0 N Fin os (us++[((d :: (gk++(i :: (kx x++kx y))))++pk,([d])++fk)]) [] [] ((d,.sy (.tp [.d (.i (o.getD 0)),.d (.b o.isSome)])) :: σ)) (hb:∀v,o=some v→I64 v) (hx:ev σ x=some (.k i):=by rfl) (hi:al σ i=some (.tk (.mp m)):=by rfl) (hy:ev σ y=some s:=by rfl) (hm:s.int? = some n:=by rfl) (ht:map? P ty'=some (kt,et):=by rfl) (hk':int? P kt=some .i64:=by rfl) (hz:rh P et=some (.int .i64 0):=by rfl) (hg:gst ops σ g=some (true,gk):=by rfl) (hN:Nat.blt d N=true:=by rfl) (hs:aF σ d=true:=by rfl):Der P ops W0 N Fin (⟨some d,.lookup ty' x y true,ty,pos,after,g⟩ :: os) us pk fk σ:=
 cr (.tp [.d (.i (o.getD 0)),.d (.b o.isSome)]) (i :: (kx x++kx y)) (fun σ' c a w hk hc=>by
  obtain ⟨_,⟨b,e1,e2,e3⟩,_⟩:=hc.tok i _ ((hk i (by simp)).trans hi)
  obtain ⟨_,hxv⟩:=ap hc (ah hx (fun κ hκ=>hk κ (by simp [hκ])))
  have hyv:=df hm (ap hc (ah hy (fun κ hκ=>hk κ (by simp [hκ]))))
  have hr:=z1 (w:=w) (n:=n) ht hk' hz e3
  rw [ho] at hr
  refine ⟨_,dl (X:=Instr.lookup ty' (a.eval x) (a.eval y) true) (by rw [hxv,e1,hyv];exact hr),⟨_,rfl,_,_,rfl,⟨rfl,?_⟩,_,_,rfl,rfl,rfl⟩⟩
  cases hgm:o with
  | none=>unfold I64;simp
  | some v=>exact hb v hgm) h hg hN hs
end
theorem C8 (m:List (Int × Int)) (a b x:Int):nS (m++[(a,b)]) x=(nS m x).or (if x=a then some b else none):=by
 induction m with
 | nil=>unfold nS;simp [nS]
 | cons p m ih=>
  show nS (p :: (m++[(a,b)])) x=_
  unfold nS
  by_cases h:x=p.1
  ·rw [if_pos h,if_pos h];rfl
  ·rw [if_neg h,if_neg h,ih]
end Go.Proofs.YtnobdioccfeokaaGreatDoor
namespace Go.Proofs.YtnobdioccfeokaaGreatDoor
open Go.RowKit
set_option linter.unusedVariables false
set_option linter.unusedSimpArgs false
mutual
def EM:D→Nat→Option D
 | .t ds,q=>IW ds q
 | .i n,q=>match q with|0=>some (.i n)|_=>none
 | .s n,q=>match q with|0=>some (.s n)|_=>none
 | .b n,q=>match q with|0=>some (.b n)|_=>none
 | .n z,q=>match q with|0=>some (.n z)|_=>none
 | .l z xs,q=>match q with|0=>some (.l z xs)|_=>none
 | _,_=>none
def IW:List D→Nat→Option D
 | [],_=>none
 | d :: ds,q=>match Nat.blt q d.sz with|true=>EM d q|false=>IW ds (q - d.sz)
end
mutual
def Dk:D→Nat→D→D
 | .t ds,q,r=>.t (IA ds q r)
 | .i _,_,r=>r
 | .s _,_,r=>r
 | .b _,_,r=>r
 | .n _,_,r=>r
 | .l _ _,_,r=>r
 | d,_,_=>d
def IA:List D→Nat→D→List D
 | [],_,_=>[]
 | d :: ds,q,r=>match Nat.blt q d.sz with|true=>Dk d q r :: ds|false=>d :: IA ds (q - d.sz) r
end
theorem AG {w:World} {d d0 r:D} {T:BS} {cs:List Value} {q:Nat} (h:Ow w d T cs) (hc:∃u,cs = [u]) (hg:(match q with|0=>some d|_=>none)=some d0):∃(T0:BS) (u:Value),(∀x,T0 x→T x)∧cs[q]? = some u∧Ow w d0 T0 [u]∧∀(w':World) (r:D) (u':Value),w.heap.size≤w'.heap.size→(∀b,T b→¬T0 b→b<w.heap.size→w'.heap[b]? = w.heap[b]?)→Ow w' r T0 [u']→Ow w' r T (cs.set q u'):=by
 obtain ⟨u,rfl⟩:=hc
 cases q with
 | succ q=>cases hg
 | zero=>cases hg;exact ⟨T,u,fun _ h=>h,rfl,h,fun w' r u' _ _ hr=>hr⟩
mutual
theorem JA {w:World}:∀(d:D) (q:Nat) (T:BS) (cs:List Value) (d0:D),Ow w d T cs→EM d q=some d0→∃(T0:BS) (u:Value),(∀x,T0 x→T x)∧cs[q]? = some u∧Ow w d0 T0 [u]∧∀(w':World) (r:D) (u':Value),w.heap.size≤w'.heap.size→(∀b,T b→¬T0 b→b<w.heap.size→w'.heap[b]? = w.heap[b]?)→Ow w' r T0 [u']→Ow w' (Dk d q r) T (cs.set q u')
 | .t ds,q,T,cs,d0,h,hg=>Ia ds q T cs d0 h hg
 | .i n,q,T,cs,d0,h,hg=>AG (r:=.i n) h ⟨_,h.1⟩ hg
 | .s n,q,T,cs,d0,h,hg=>AG (r:=.s n) h ⟨_,h.1⟩ hg
 | .b n,q,T,cs,d0,h,hg=>AG (r:=.b n) h ⟨_,h⟩ hg
 | .n z,q,T,cs,d0,h,hg=>AG (r:=.n z) h (h.elim fun a ha=>⟨_,ha⟩) hg
 | .l z xs,q,T,cs,d0,h,hg=>AG (r:=.l z xs) h (h.elim fun a ha=>ha.elim fun k hk=>⟨_,hk.1⟩) hg
 | .p _,q,T,cs,d0,h,hg=>h.elim
 | .f _ _,q,T,cs,d0,h,hg=>h.elim
 | .any,q,T,cs,d0,h,hg=>h.elim
 | .c _,q,T,cs,d0,h,hg=>h.elim
theorem Ia {w:World}:∀(ds:List D) (q:Nat) (T:BS) (cs:List Value) (d0:D),OwL w ds T cs→IW ds q=some d0→∃(T0:BS) (u:Value),(∀x,T0 x→T x)∧cs[q]? = some u∧Ow w d0 T0 [u]∧∀(w':World) (r:D) (u':Value),w.heap.size≤w'.heap.size→(∀b,T b→¬T0 b→b<w.heap.size→w'.heap[b]? = w.heap[b]?)→Ow w' r T0 [u']→OwL w' (IA ds q r) T (cs.set q u')
 | [],q,T,cs,d0,h,hg=>by cases hg
 | d :: ds,q,T,cs,d0,⟨T1,T2,c,e,h1,h2,h3,h4,h5,h6⟩,hg=>by
  subst h4
  have hl:=Rp.len d c (Ow.rp d T1 c h5)
  unfold IW at hg
  cases hq:Nat.blt q d.sz with
  | true=>
   rw [hq] at hg
   have hlt:=Nat.blt_eq.mp hq
   obtain ⟨T0,u,k1,k2,k3,k4⟩:=JA d q T1 c d0 h5 hg
   refine ⟨T0,u,fun x hx=>h1 x (k1 x hx),by rw [List.getElem?_append_left (by omega)];exact k2,k3,fun w' r u' hs hag hr=>?_⟩
   have k5:=k4 w' r u' hs (fun b hb hn hbl=>hag b (h1 b hb) hn hbl) hr
   unfold IA
   rw [hq]
   exact ⟨T1,T2,c.set q u',e,h1,h2,h3,by rw [List.set_append_left _ _ (by omega)],k5,OwL.keep hs ds T2 T2 e (fun _ h=>h) (fun b hb hbl=>hag b (h2 b hb) (fun h0=>h3 b (k1 b h0) hb) hbl) h6⟩
  | false=>
   rw [hq] at hg
   have hge:d.sz≤q:=by
    rcases Nat.lt_or_ge q d.sz with h|h
    ·rw [Nat.blt_eq.mpr h] at hq;cases hq
    ·exact h
   obtain ⟨T0,u,k1,k2,k3,k4⟩:=Ia ds (q - d.sz) T2 e d0 h6 hg
   refine ⟨T0,u,fun x hx=>h2 x (k1 x hx),by rw [List.getElem?_append_right (by omega),hl];exact k2,k3,fun w' r u' hs hag hr=>?_⟩
   have k5:=k4 w' r u' hs (fun b hb hn hbl=>hag b (h2 b hb) hn hbl) hr
   unfold IA
   rw [hq]
   exact ⟨T1,T2,c,e.set (q - d.sz) u',h1,h2,h3,by rw [List.set_append_right _ _ (by omega),hl],Ow.keep hs d T1 T1 c (fun _ h=>h) (fun b hb hbl=>hag b (h1 b hb) (fun h0=>h3 b hb (k1 b h0)) hbl) h5,k5⟩
end
theorem OwR.keep2 {w w':World} (hsz:w.heap.size≤w'.heap.size):∀(ds:List D) (U:BS) (z b o:Nat),fR U w w'→(∀j,o≤j→w'.cell? ⟨b,j,none⟩=w.cell? ⟨b,j,none⟩)→OwR w ds U z b o→OwR w' ds U z b o
 | [],U,z,b,o,h,hb,r=>trivial
 | d :: ds,U,z,b,o,h,hb,⟨U1,U2,h1,h2,h3,⟨cs,h4,h5,h6⟩,h7⟩=>⟨U1,U2,h1,h2,h3,⟨cs,h4,Ow.keep hsz d U1 U1 cs (fun _ h=>h) (fun c hc=>h c (h1 c hc)) h5,fun j u hj=>(hb (o+j) (by omega)).trans (h6 j u hj)⟩,OwR.keep2 hsz ds U2 z b (o+z) (fun c hc=>h c (h2 c hc)) (fun j hj=>hb j (by omega)) h7⟩
theorem EE {w:World}:∀(ds:List D) (n:Nat) (U:BS) (z b o:Nat),OwR w ds U z b o→∀hn:n<ds.length,∃(Tn:BS) (cs:List Value),(∀x,Tn x→U x)∧cs.length=z∧Ow w ds[n] Tn cs∧bA w b (o+n * z) cs∧∀(w':World) (r:D) (cs':List Value),w.heap.size≤w'.heap.size→(∀c,U c→¬Tn c→c<w.heap.size→w'.heap[c]? = w.heap[c]?)→(∀j,j<o+n * z∨o+n * z+z≤j→w'.cell? ⟨b,j,none⟩=w.cell? ⟨b,j,none⟩)→Ow w' r Tn cs'→cs'.length=z→bA w' b (o+n * z) cs'→OwR w' (ds.set n r) U z b o
 | [],n,U,z,b,o,h,hn=>absurd hn (Nat.not_lt_zero _)
 | d :: ds,0,U,z,b,o,⟨U1,U2,h1,h2,h3,⟨cs,h4,h5,h6⟩,h7⟩,hn=>by
  refine ⟨U1,cs,h1,h4,h5,by rw [Nat.zero_mul,Nat.add_zero];exact h6,fun w' r cs' hs hag hc hr hl hca=>?_⟩
  rw [Nat.zero_mul,Nat.add_zero] at hc hca
  exact ⟨U1,U2,h1,h2,h3,⟨cs',hl,hr,hca⟩,OwR.keep2 hs ds U2 z b (o+z) (fun c hcu hcl=>hag c (h2 c hcu) (fun h=>h3 c h hcu) hcl) (fun j hj=>hc j (.inr hj)) h7⟩
 | d :: ds,n+1,U,z,b,o,⟨U1,U2,h1,h2,h3,⟨cs0,h4,h5,h6⟩,h7⟩,hn=>by
  obtain ⟨Tn,cs,k1,k2,k3,k4,k5⟩:=EE ds n U2 z b (o+z) h7 (by simpa using hn)
  have e:o+z+n * z=o+(n+1) * z:=by rw [Nat.succ_mul];omega
  rw [e] at k4 k5
  refine ⟨Tn,cs,fun x hx=>h2 x (k1 x hx),k2,k3,k4,fun w' r cs' hs hag hc hr hl hca=>?_⟩
  refine ⟨U1,U2,h1,h2,h3,⟨cs0,h4,Ow.keep hs d U1 U1 cs0 (fun _ h=>h) (fun c hcu hcl=>hag c (h1 c hcu) (fun h=>h3 c hcu (k1 c h)) hcl) h5,fun j u hj=>?_⟩,k5 w' r cs' hs (fun c hcu hn' hcl=>hag c (h2 c hcu) hn' hcl) hc hr hl hca⟩
  have hj':=(List.getElem?_eq_some_iff.1 hj).1
  have hz:z≤(n+1) * z:=Nat.le_mul_of_pos_left z (Nat.succ_pos n)
  exact (hc (o+j) (.inl (by omega))).trans (h6 j u hj)
theorem qV {w:World} {z:Nat} {xs:List D} {S:BS} {v:Value} (h:Ow w (.l z xs) S [v]) {n f:Nat} {e d0:D} (he:xs[n]? = some e) (hg:EM e f=some d0):∃(b o k:Nat) (T0:BS) (u:Value),v=.slice (some ⟨b,o,none⟩) xs.length k∧S b∧b<w.heap.size∧(∀q,w.frozen? ⟨b,q,none⟩=false)∧(∀x,T0 x→S x∧x≠b)∧w.cell? ⟨b,o+(n * z+f),none⟩=some u∧Ow w d0 T0 [u] ∧
 ∀(w':World) (r:D) (u':Value),w.heap.size≤w'.heap.size→(∀c,S c→c≠b→¬T0 c→c<w.heap.size→w'.heap[c]? = w.heap[c]?)→(∀q,w'.frozen? ⟨b,q,none⟩=false)→(∀j,j≠o+(n * z+f)→w'.cell? ⟨b,j,none⟩=w.cell? ⟨b,j,none⟩)→w'.cell? ⟨b,o+(n * z+f),none⟩=some u'→Ow w' r T0 [u']→Ow w' (.l z (xs.set n (Dk e f r))) S [v]:=by
 obtain ⟨hn,he⟩:=List.getElem?_eq_some_iff.1 he
 obtain ⟨a,k,h1,h2,h3,h4,h5⟩:=h
 cases h1
 rcases h5 with h5|⟨b,o,U,rfl,e2,e3,e4,e5,e6⟩
 ·rw [h5] at hn;exact absurd hn (Nat.not_lt_zero _)
 obtain ⟨Tn,cs,k1,k2,k3,k4,k5⟩:=EE xs n U z b o e6 hn
 rw [he] at k3
 obtain ⟨T0,u,q1,q2,q3,q4⟩:=JA e f Tn cs d0 k3 hg
 have hf:f<cs.length:=(List.getElem?_eq_some_iff.1 q2).1
 refine ⟨b,o,k,T0,u,rfl,e2,e3,e4,fun x hx=>e5 x (k1 x (q1 x hx)),by rw [← Nat.add_assoc];exact k4 f u q2,q3,fun w' r u' hs hag hfr hc hcu hr=>?_⟩
 have q5:=q4 w' r u' hs (fun c hc1 hc2 hc3=>hag c (e5 c (k1 c hc1)).1 (e5 c (k1 c hc1)).2 hc2 hc3) hr
 have hlen:(xs.set n (Dk e f r)).length=xs.length:=List.length_set
 refine ⟨some ⟨b,o,none⟩,k,by rw [hlen],by rw [hlen];exact h2,h3,h4,.inr ⟨b,o,U,rfl,e2,Nat.lt_of_lt_of_le e3 hs,hfr,e5,k5 w' _ (cs.set f u') hs (fun c hc1 hc2 hc3=>hag c (e5 c hc1).1 (e5 c hc1).2 (fun h=>hc2 (q1 c h)) hc3) (fun j hj=>hc j (by omega)) q5 (by rw [List.length_set];exact k2) (fun j v' hj=>?_)⟩⟩
 rw [List.getElem?_set] at hj
 by_cases ej:f=j
 ·subst ej
  rw [if_pos rfl,if_pos hf] at hj
  cases hj
  rw [Nat.add_assoc];exact hcu
 ·rw [if_neg ej] at hj
  rw [hc _ (by omega)]
  exact k4 j v' hj
theorem Chg.mono {S S':BS} {w w':World} (h:Chg S w w') (hS:∀b,S b→S' b):Chg S' w w':=⟨h.os,h.tape,h.output,h.size,fun b hb hn=>h.block b hb (fun h'=>hn (hS b h'))⟩
structure FnM (P:Program) (f:FuncId) (d d':D) (k k':Int):Prop where
 enter:∀args w,(callFunc f args).run P w=.ok (.enter f args) w
 calls:∀(T:BS) (w:World) (v:Value),Ow w d T [v]→(∀b,T b→b<w.heap.size)→Calls P f #[v,.int .i64 k] w fun e w'=>e=.returned (.int .i64 k')∧I64 k'∧Chg T w w'∧Ow w' d' T [v]
section
variable {P:Program} {ops:Array Oper} {W0:cz} {N:Nat} {Fin:Us→Env→Prop} {os:List Oper} {us:Us} {pk fk:List Nat} {σ:Env} {g:Option (Nat × Bool)} {gk:List Nat} {d ty ty' f:Nat} {pos:String} {after:Array Edge} {at':Array TypeId} {x y:Operand} {i z n q o:Nat} {xs:List D} {tag:Option (Value × BS)} {pin:Option (Nat × Value)} {s:Sy}
theorem yJ {t e:Nat} (h:Der P ops W0 N Fin os (us++[((d :: (gk++(i :: kx x)))++pk,([d])++fk)]) [] [] ((d,.sy (.d (.i xs.length))) :: σ)) (hx:ev σ x=some (.k i):=by rfl) (hi:al σ i=some (.tk (.own (.l z xs) pin tag)):=by rfl) (ht:elem? P t=some e:=by rfl) (hg:gst ops σ g=some (true,gk):=by rfl) (hN:Nat.blt d N=true:=by rfl) (hs:aF σ d=true:=by rfl):Der P ops W0 N Fin (⟨some d,.call { callee:=.builtin .len,args:=#[x],argTypes:=#[t] },ty,pos,after,g⟩ :: os) us pk fk σ:=
 cr (.d (.i xs.length)) (i :: kx x) (fun σ' c a w hk hc=>by
  obtain ⟨_,⟨⟨ad,k,h1,h2,h3,_⟩,_⟩,_⟩:=hc.tok i _ ((hk i (by simp)).trans hi)
  obtain ⟨_,hv⟩:=ap hc (ah hx (fun κ hκ=>hk κ (by simp [hκ])))
  rw [(List.cons.inj h1).1] at hv
  exact ⟨_,gw ht hv,rfl,I64.nat (Nat.le_trans h2 h3)⟩) h hg hN hs
theorem ya {n e:Nat} (h:Der P ops W0 N Fin os (us++[((d :: (gk++(i :: (kx x++kx y))))++pk,([d])++fk)]) [] [] ((d,.sy (.eo i (n * z))) :: σ)) (hx:ev σ x=some (.k i):=by rfl) (hi:al σ i=some (.tk (.own (.l z xs) pin tag)):=by rfl) (hy:ev σ y=some s:=by rfl) (hn':s.int? = some (n:Int):=by rfl) (he:elem? P ty'=some e:=by rfl) (hz:sizeOf? P e=some z:=by rfl) (hg:gst ops σ g=some (true,gk):=by rfl) (hN:Nat.blt d N=true:=by rfl) (hs:aF σ d=true:=by rfl) (hn:n<xs.length:=by first|assumption|(rw [List.length_set];assumption)):Der P ops W0 N Fin (⟨some d,.indexAddr ty' x y,ty,pos,after,g⟩ :: os) us pk fk σ:=
 cr (.eo i (n * z)) (i :: (kx x++kx y)) (fun σ' c a w hk hc=>by
  obtain ⟨hA,⟨⟨ad,k,h1,h2,h3,h4,h5⟩,_⟩,_⟩:=hc.tok i _ ((hk i (by simp)).trans hi)
  obtain ⟨_,hv⟩:=ap hc (ah hx (fun κ hκ=>hk κ (by simp [hκ])))
  have hyv:=df hn' (ap hc (ah hy (fun κ hκ=>hk κ (by simp [hκ]))))
  have h1':=(List.cons.inj h1).1
  rcases h5 with h5|⟨b,o,U,rfl,_⟩
  ·rw [h5] at hn;exact absurd hn (Nat.not_lt_zero _)
  refine ⟨_,dl (X:=Instr.indexAt ty' (a.eval x) (a.eval y)) (by rw [hv,hyv,h1'];exact oM he hz hn),hA,b,o,_,k,h1',rfl⟩) h hg hN hs
theorem yH {k:Nat} (h:Der P ops W0 N Fin os (us++[((d :: (gk++kx x))++pk,([d])++fk)]) [] [] ((d,.sy (.eo i (q+o))) :: σ)) (hx:ev σ x=some (.eo i q):=by rfl) (ho:fld P ty' k=some o:=by rfl) (hg:gst ops σ g=some (true,gk):=by rfl) (hN:Nat.blt d N=true:=by rfl) (hs:aF σ d=true:=by rfl):Der P ops W0 N Fin (⟨some d,.fieldAddr ty' x k,ty,pos,after,g⟩ :: os) us pk fk σ:=
 cr (.eo i (q+o)) (kx x) (fun σ' c a w hk hc=>by
  obtain ⟨hA,b,o',m,cp,h1,h2⟩:=ap hc (ah hx (fun κ hκ=>hk κ hκ))
  refine ⟨_,dl (X:=Instr.fieldAt ty' (a.eval x) k) (by rw [h2];exact oO ho),hA,b,o',m,cp,h1,by rw [Nat.add_assoc]⟩) h hg hN hs
def Hk:D→Bool
 | .i _=>true
 | .s _=>true
 | .b _=>true
 | _=>false
theorem vG (n f:Nat) {e d0 r:D} (xs':List D) (he:xs[n]? = some e) (hxs:xs.set n (Dk e f r)=xs') (h:Der P ops W0 N Fin os (us++[((gk++(i :: (kx x++kx y)))++pk,([i])++fk)]) [] [] ((i,.tk (.own (.l z xs') none tag)) :: σ)) (hg':EM e f=some d0:=by rfl) (hx:ev σ x=some (.eo i q):=by rfl) (hi:al σ i=some (.tk (.own (.l z xs) none tag)):=by rfl) (hy:ev σ y=some (.d r):=by rfl) (hr:Hk r=true:=by rfl) (hq:q=n * z+f:=by rfl) (hz:sizeOf? P ty'=some 1:=by rfl) (hg:gst ops σ g=some (true,gk):=by rfl):Der P ops W0 N Fin (⟨none,.store ty' x y,ty,pos,after,g⟩ :: os) us pk fk σ:=
 lq (i :: (kx x++kx y)) [(i,.tk (.own (.l z xs') none tag))] (fun σ' c a w hk hc=>by
  subst hq
  have hi':=(hk i (by simp)).trans hi
  obtain ⟨hA,⟨hO,_,htag⟩,hlt⟩:=hc.tok i _ hi'
  obtain ⟨_,b',o',m',k',e1,e2⟩:=ap hc (ah hx (fun κ hκ=>hk κ (by simp [hκ])))
  have hv:=ap hc (ah hy (fun κ hκ=>hk κ (by simp [hκ])))
  obtain ⟨b,o,k,T0,u,h1,h2,h3,h4,h5,h6,h7,h8⟩:=qV hO he hg'
  rw [h1] at e1
  cases e1
  have hone:(a.eval y).oneCell'=true∧∀(w':World) (T:BS),Ow w' r T [a.eval y]:=by
   cases r with
   | i n=>obtain ⟨q1,q2⟩:=hv;rw [(List.cons.inj q1).1];exact ⟨rfl,fun _ _=>⟨rfl,q2⟩⟩
   | s n=>obtain ⟨q1,q2⟩:=hv;rw [(List.cons.inj q1).1];exact ⟨rfl,fun _ _=>⟨rfl,q2⟩⟩
   | b n=>have q1 : [a.eval y] = [Value.bool n]:=hv;rw [(List.cons.inj q1).1];exact ⟨rfl,fun _ _=>rfl⟩
   | _=>cases hr
  unfold Oper.wp
  rw [fu hz hone.1 h6 (h4 _) e2 rfl]
  have hch:Chg (c.T i) w (w.setCell ⟨b',o'+(n * z+f),none⟩ (a.eval y)):=Chg.grown (co b' _ _) (fun g hg=>by cases hg;exact h2)
  have hbx:ey (w.setCell ⟨b',o'+(n * z+f),none⟩ (a.eval y)) b' []:=fun j v hj=>by simp at hj
  refine ⟨rfl,c,hc.upd hi' hch (by simp) (fun hag=>⟨?_,fun p hp=>(by cases hp),htag⟩)⟩
  rw [← hxs]
  refine h8 _ r (a.eval y) (by simp) (fun c' hc1 hc2 _ _=>(co b' _ _).block c' (by assumption) (fun e=>hc2 (by cases e;rfl))) (fun q=>?_) (fun j hj=>?_) ?_ (hone.2 _ _)
  ·rw [World.frozen?_setCell];exact h4 q
  ·exact World.cell?_setCell_other _ _ _ _ (fun e=>hj (by cases e;rfl))
  ·exact World.cell?_setCell_same _ _ _ h6) h hg
theorem Chg.rfl' {S:BS} {w:World}:Chg S w w:=⟨rfl,rfl,rfl,Nat.le_refl _,fun _ _ _=>rfl⟩
theorem Ju {C:Code} {Q:Exit→Act→World→Prop} (i n f:Nat) {e d0:D} (he:xs[n]? = some e) (h:∀u:Value,ar P W0 N C ((i,.tk (.own (.l z xs) (some (n * z+f,u)) tag)) :: σ) Q) (hg':EM e f=some d0:=by rfl) (hi:al σ i=some (.tk (.own (.l z xs) none tag)):=by rfl):ar P W0 N C σ Q:=by
 intro a w ⟨c,hc⟩
 obtain ⟨hA,⟨hO,_,htag⟩,hlt⟩:=hc.tok i _ hi
 obtain ⟨b,o,k,T0,u,h1,h2,h3,h4,h5,h6,h7,h8⟩:=qV hO he hg'
 exact h u a w ⟨c,hc.upd2 hi Chg.rfl' (fun _=>⟨hO,fun p hp=>by cases hp;exact ⟨b,o,_,k,h1,h2,h6⟩,htag⟩)⟩
theorem vW {dd:D} {u:Value} (h:Der P ops W0 N Fin os (us++[((d :: (gk++(i :: kx x)))++pk,([d])++fk)]) [] [] ((d,.sy (.v u)) :: σ)) (hx:ev σ x=some (.eo i q):=by rfl) (hi:al σ i=some (.tk (.own dd (some (q,u)) tag)):=by rfl) (hz:sizeOf? P ty'=some 1:=by rfl) (hA:isAgg? P ty'=some false:=by rfl) (hg:gst ops σ g=some (true,gk):=by rfl) (hN:Nat.blt d N=true:=by rfl) (hs:aF σ d=true:=by rfl):Der P ops W0 N Fin (⟨some d,.load ty' x,ty,pos,after,g⟩ :: os) us pk fk σ:=
 cr (.v u) (i :: kx x) (fun σ' c a w hk hc=>by
  obtain ⟨_,⟨_,hp,_⟩,_⟩:=hc.tok i _ ((hk i (by simp)).trans hi)
  obtain ⟨b,o,m,k,h1,h2,h3⟩:=hp _ rfl
  obtain ⟨_,b',o',m',k',e1,e2⟩:=ap hc (ah hx (fun κ hκ=>hk κ (by simp [hκ])))
  rw [h1] at e1
  cases e1
  exact ⟨u,dl (X:=Instr.loadAt ty' (a.eval x)) (by rw [e2];exact gY hA h3),rfl⟩) h hg hN hs
theorem Ge (n f':Nat) {e d0 d':D} {k k':Int} {u:Value} (xs':List D) (he:xs[n]? = some e) (hxs:xs.set n (Dk e f' d')=xs') (h:Der P ops W0 N Fin os (us++[((d :: (gk++(i :: (kx x++kx y))))++pk,([d,i])++fk)]) [] [] ((d,.sy (.d (.i k'))) :: (i,.tk (.own (.l z xs') none tag)) :: σ)) (hg':EM e f'=some d0:=by rfl) (hf:FnM P f d0 d' k k':=by assumption) (hx:ev σ x=some (.v u):=by rfl) (hy:ev σ y=some (.d (.i k)):=by rfl) (hi:al σ i=some (.tk (.own (.l z xs) (some (q,u)) tag)):=by rfl) (hq:q=n * z+f':=by rfl) (hg:gst ops σ g=some (true,gk):=by rfl) (hN:Nat.blt d N=true:=by rfl) (hs:aF ((i,.tk (.own (.l z xs') none tag)) :: σ) d=true:=by rfl) (hu:Nat.beq i d=false:=by rfl):Der P ops W0 N Fin (⟨some d,.call { callee:=.value (.func f),args:=[x,y].toArray,argTypes:=at' },ty,pos,after,g⟩ :: os) us pk fk σ:=
 jy (.d (.i k')) (i :: (kx x++kx y)) [(i,.tk (.own (.l z xs') none tag))] (fun σ' c a w hk hc=>by
  subst hq
  have hi':=(hk i (by simp)).trans hi
  obtain ⟨hA,⟨hO,hp,htag⟩,hlt⟩:=hc.tok i _ hi'
  obtain ⟨b,o,k1,T0,u',h1,h2,h3,h4,h5,h6,h7,h8⟩:=qV hO he hg'
  obtain ⟨b2,o2,m2,k2,e1,e2,e3⟩:=hp _ rfl
  rw [h1] at e1
  have e6:=Value.slice.inj e1
  have e7:b=b2:=by injection Option.some.inj e6.1
  have e8:o=o2:=by injection Option.some.inj e6.1
  subst e7;subst e8
  have e4:some u'=some u:=h6.symm.trans e3
  have e5:u'=u:=Option.some.inj e4
  subst e5
  have hxv:a.eval x=u':=ap hc (ah hx (fun κ hκ=>hk κ (by simp [hκ])))
  obtain ⟨hyv,_⟩:=ap hc (ah hy (fun κ hκ=>hk κ (by simp [hκ])))
  unfold Oper.wp
  rw [cw hf.enter rfl]
  show Calls P f (#[a.eval x,a.eval y]) w _
  rw [hxv,(List.cons.inj hyv).1]
  refine (hf.calls T0 w u' h7 (fun b hb=>(hlt b (h5 b hb).1).2.1)).mono ?_
  rintro en w' ⟨rfl,hk',hch,hok⟩
  have hch':Chg (c.T i) w w':=hch.mono (fun b hb=>(h5 b hb).1)
  refine ⟨_,c,rfl,hc.upd2 hi' hch' (fun hag=>⟨?_,fun p hp=>(by cases hp),htag⟩),rfl,hk'⟩
  rw [← hxs]
  have hbk:w'.heap[b]? = w.heap[b]?:=hch.block b h3 (fun hb=>(h5 _ hb).2 rfl)
  exact h8 w' d' u' hch.size (fun c' hc1 hc2 hc3 hc4=>hch.block c' hc4 hc3) (fun q=>(World.frozen?_of_block hbk).trans (h4 q)) (fun j _=>World.cell?_of_block hbk) ((World.cell?_of_block hbk).trans h6) hok) h hg hN hs (by simp [hu])
theorem lx {d0 d':D} {k k':Int} (h:Der P ops W0 N Fin os (us++[((d :: (gk++(i :: (kx x++kx y))))++pk,([d,i])++fk)]) [] [] ((d,.sy (.d (.i k'))) :: (i,.tk (.own d' none tag)) :: σ)) (hx:ev σ x=some (.k i):=by rfl) (hi:al σ i=some (.tk (.own d0 none tag)):=by rfl) (hy:ev σ y=some (.d (.i k)):=by rfl) (hf:FnM P f d0 d' k k':=by assumption) (hg:gst ops σ g=some (true,gk):=by rfl) (hN:Nat.blt d N=true:=by rfl) (hs:aF ((i,.tk (.own d' none tag)) :: σ) d=true:=by rfl) (hu:Nat.beq i d=false:=by rfl):Der P ops W0 N Fin (⟨some d,.call { callee:=.value (.func f),args:=[x,y].toArray,argTypes:=at' },ty,pos,after,g⟩ :: os) us pk fk σ:=
 jy (.d (.i k')) (i :: (kx x++kx y)) [(i,.tk (.own d' none tag))] (fun σ' c a w hk hc=>by
  have hi':=(hk i (by simp)).trans hi
  obtain ⟨hA,⟨hO,hp,htag⟩,hlt⟩:=hc.tok i _ hi'
  obtain ⟨_,hxv⟩:=ap hc (ah hx (fun κ hκ=>hk κ (by simp [hκ])))
  obtain ⟨hyv,_⟩:=ap hc (ah hy (fun κ hκ=>hk κ (by simp [hκ])))
  unfold Oper.wp
  rw [cw hf.enter rfl]
  show Calls P f (#[a.eval x,a.eval y]) w _
  rw [hxv,(List.cons.inj hyv).1]
  refine (hf.calls (c.T i) w _ hO (fun b hb=>(hlt b hb).2.1)).mono ?_
  rintro en w' ⟨rfl,hk',hch,hok⟩
  exact ⟨_,c,rfl,hc.upd2 hi' hch (fun hag=>⟨hok,fun p hp=>(by cases hp),htag⟩),rfl,hk'⟩) h hg hN hs (by simp [hu])
theorem GR {ds:List D} {n:Nat} {e:D} (h:n<ds.length):(ds.set n e)[n]? = some e:=by rw [List.getElem?_set_self h]
theorem iw {n f:Nat} {e d0 r:D} (h:Der P ops W0 N Fin os (us++[((gk++(i :: (kx x++kx y)))++pk,([i])++fk)]) [] [] ((i,.tk (.own (.l z (xs.set n (Dk e f r))) none tag)) :: σ)) (hx:ev σ x=some (.eo i q):=by rfl) (hi:al σ i=some (.tk (.own (.l z (xs.set n e)) none tag)):=by rfl) (hq:q=n * z+f:=by first|rfl|exact (Nat.add_zero _).symm) (hg':EM e f=some d0:=by rfl) (hy:ev σ y=some (.d r):=by rfl) (hr:Hk r=true:=by rfl) (hz:sizeOf? P ty'=some 1:=by rfl) (hg:gst ops σ g=some (true,gk):=by rfl) (hn:n<xs.length:=by assumption):Der P ops W0 N Fin (⟨none,.store ty' x y,ty,pos,after,g⟩ :: os) us pk fk σ:=
 vG n f _ (GR hn) (List.set_set ..) h hg' hx hi hy hr hq hz hg
theorem oW {C:Code} {Q:Exit→Act→World→Prop} (i f:Nat) {n:Nat} {e d0:D} (h:∀u:Value,ar P W0 N C ((i,.tk (.own (.l z (xs.set n e)) (some (n * z+f,u)) tag)) :: σ) Q) (hi:al σ i=some (.tk (.own (.l z (xs.set n e)) none tag)):=by rfl) (hg':EM e f=some d0:=by rfl) (hn:n<xs.length:=by assumption):ar P W0 N C σ Q:=Ju i n f (GR hn) h hg' hi
theorem uJ {j n f':Nat} {e d0 d':D} {k k':Int} {u:Value} (h:Der P ops W0 N Fin os (us++[((d :: (gk++(j :: (kx x++kx y))))++pk,([d,j])++fk)]) [] [] ((d,.sy (.d (.i k'))) :: (j,.tk (.own (.l z (xs.set n (Dk e f' d'))) none tag)) :: σ)) (hx:ev σ x=some (.v u):=by rfl) (hj:20000=j:=by rfl) (hi:al σ j=some (.tk (.own (.l z (xs.set n e)) (some (q,u)) tag)):=by rfl) (hq:q=n * z+f':=by first|rfl|exact (Nat.add_zero _).symm) (hg':EM e f'=some d0:=by rfl) (hy:ev σ y=some (.d (.i k)):=by rfl) (hf:FnM P f d0 d' k k':=by assumption) (hg:gst ops σ g=some (true,gk):=by rfl) (hN:Nat.blt d N=true:=by rfl) (hs:aF ((j,.tk (.own (.l z (xs.set n (Dk e f' d'))) none tag)) :: σ) d=true:=by rfl) (hu:Nat.beq j d=false:=by rfl) (hn:n<xs.length:=by assumption):Der P ops W0 N Fin (⟨some d,.call { callee:=.value (.func f),args:=[x,y].toArray,argTypes:=at' },ty,pos,after,g⟩ :: os) us pk fk σ:=
 Ge n f' _ (GR hn) (List.set_set ..) h hg' hf hx hy hi hq hg hN hs hu
end
def H5 (d:D) (v:Value) (T:BS) (k:Int):Env:=[(0,.sy (.k 20000)),(20000,.tk (.own d none (some (v,T)))),(1,.sy (.d (.i k)))]
def Ht (W0:cz) (v:Value) (d':D) (k':Int):Ending→World→Prop:=fun e w'=>e=.returned (.int .i64 k')∧I64 k'∧Chg W0.M W0.w w'∧Ow w' d' W0.M [v]
def WfO:D→Prop
 | .l _ xs=>xs.length≤9223372036854775807
 | _=>True
theorem Iv {w:World} {d:D} {T:BS} {v:Value} (h:Ow w d T [v]):WfO d:=by
 cases d with
 | l z xs=>obtain ⟨a,k,h1,h2,h3,_⟩:=h;unfold maxLen at h3;exact Nat.le_trans h2 h3
 | _=>exact trivial
theorem nx {P : Program} {f : FuncId} {d d' : D} {k k' : Int} {fn : Func} {c : Code} {N : Nat} (hf : P.funcs[f]? = some fn) (hk : I64 k) (h : ∀ (W0 : cz) (v : Value) (M : BS), W0.M = M → WfO d → ar P W0 N c (H5 d v M k) (bodyPost P fn (Ht W0 v d' k'))) (hb : fn.body = some c := by rfl) (hN : fn.ntmps = N := by rfl) (hl : Nat.ble 2 N = true := by rfl) (hnm : (fn.name == "runtime.NumGoroutine") = false := by kernel_rfl) : FnM P f d d' k k' := by
 refine ⟨fun args w=>?_,fun T w v hv hT=>?_⟩
 ·unfold callFunc
  simp only [Sem.run_bind,show (program).run P w=.ok P w from rfl,Result.andThen_ok,hf,hnm,hb]
  rfl
 ·have hl':=Nat.le_of_ble_eq_true hl
  have look20:al (H5 d v T k) 20000=some (.tk (.own d none (some (v,T)))):=rfl
  have key:∀(i:Nat) (t:Tk),al (H5 d v T k) i=some (.tk t)→i=20000∧t=.own d none (some (v,T)):=fun i t hi=>by
   unfold H5 at hi
   simp only [ab] at hi
   split at hi
   ·cases hi
   ·split at hi
    ·rename_i e;cases hi;exact ⟨e.symm,rfl⟩
    ·split at hi
     ·cases hi
     ·cases hi
  refine calls_of_wp hf hb (h ⟨w,fun _=>False,T⟩ v T rfl (Iv hv) _ w ⟨⟨fun _=>False,fun _=>v,fun _=>T,fun i=>i=20000⟩,Chg.rfl',fun b hb=>hb.elim,fun b hb=>hb.elim,?_,rfl,fun i hi=>by rw [show i=20000 from hi,look20];simp,fun i t ht=>?_,fun i j t u hi hj hne=>absurd ((key i t hi).1.trans (key j u hj).1.symm) hne,fun t s ht=>?_⟩)
  ·simp [hN];omega
  ·obtain ⟨rfl,rfl⟩:=key i t ht
   exact ⟨rfl,⟨hv,fun p hp=>(by cases hp),fun p hp=>by cases hp;exact ⟨rfl,rfl⟩⟩,fun b hb=>⟨fun h=>h,hT b hb,.inl hb⟩⟩
  ·unfold H5 at ht
   simp only [ab] at ht
   split at ht
   ·rename_i e
    cases ht;subst e
    exact ⟨v,by rw [Array.getElem?_append_left (by simp)];rfl,rfl,rfl⟩
   ·split at ht
    ·cases ht
    ·split at ht
     ·rename_i e
      cases ht;subst e
      exact ⟨.int .i64 k,by rw [Array.getElem?_append_left (by simp)];rfl,rfl,hk⟩
     ·cases ht
theorem Ft {P:Program} {W0:cz} {N:Nat} {σ:Env} {fn:Func} {rs:List ResultVar} {v:Value} {M:BS} {d':D} {k':Int} (hM:W0.M=M) (hr:fn.results=rs.toArray:=by rfl) (hd:CT P σ rs=some [.i k']:=by rfl) (ht:al σ 20000=some (.tk (.own d' none (some (v,M)))):=by rfl):At W0 N σ .ret (bodyPost P fn (Ht W0 v d' k')):=fun a w hh=>by
 obtain ⟨c,h⟩:=hh
 obtain ⟨vs,h1,u,t,rfl,⟨h2,h2'⟩,h3⟩:=pp h rs _ hd
 have:t = []:=h3
 subst this
 obtain ⟨_,⟨hO,_,htag⟩,_⟩:=h.tok _ _ ht
 obtain ⟨e1,e2⟩:=htag _ rfl
 rw [e1,e2] at hO
 refine bodyPost_ret (v:=u) ?_ h.defers ⟨by rw [(List.cons.inj h2).1],h2',h.ext,by rw [hM];exact hO⟩
 rw [gM,hr,Array.mapM_eq_mapM_toList,show rs.toArray.toList=rs from rfl]
 simp only [Sem.run_bind,Sem.run_map,h1]
 simp [Result.andThen]
end Go.Proofs.YtnobdioccfeokaaGreatDoor
namespace Go.Proofs.YtnobdioccfeokaaGreatDoor
open Go.RowKit
set_option linter.unusedVariables false
set_option linter.unusedSimpArgs false
theorem BY {k:Int} (h0:0≤k) (h1:k≤1000000000):I64 k:=by unfold I64;omega
theorem sC {α:Type} {f:Int→α→α} {c:α→Nat} {fD:α→D} {k:Int} {xs:List α} {ds:List D} {i:Nat} (h:i<xs.length) (hd:ds=(lC f c i k xs).map fD):ds=ds.set i (fD xs[i]):=by
 subst hd
 refine List.ext_getElem? (fun j=>?_)
 rw [List.getElem?_set]
 split
 ·rename_i e;subst e
  rw [List.length_map,qY,if_pos h,List.getElem?_map,List.getElem?_eq_getElem (by rw [qY];exact h),FL f c i k xs h];rfl
 ·rfl
theorem sE {α:Type} {f:Int→α→α} {c:α→Nat} {fD:α→D} {k:Int} {xs:List α} {ds:List D} {i:Nat} (hd:ds=(lC f c i k xs).map fD):ds.length=xs.length:=by
 subst hd;rw [List.length_map,qY]
theorem nn {α:Type} {f:Int→α→α} {c:α→Nat} {fD:α→D} {k K:Int} {xs:List α} {ds:List D} {i:Nat} (h:i<xs.length) (hd:ds=(lC f c i k xs).map fD) (hK:K=k+cnL c (xs.take i)):ds.set i (fD (f K xs[i]))=(lC f c (i+1) k xs).map fD:=by
 subst hd;rw [Bo f c i k xs h,List.map_set,hK]
theorem sx {α:Type} {f:Int→α→α} {c:α→Nat} {fD:α→D} {k:Int} {xs:List α} {ds:List D} {i:Nat} (h:i=xs.length) (hd:ds=(lC f c i k xs).map fD):ds=(mkL f c k xs).map fD:=by
 subst h;rw [hd,Ez]
theorem qw (i:Nat) {t t':Tk} {P:Program} {W0:cz} {N:Nat} {σ:Env} {Q:Exit→Act→World→Prop} {x:Code} (he:t=t') (h:ar P W0 N x ((i,.tk t') :: σ) Q) (hi:al σ i=some (.tk t):=by rfl):ar P W0 N x σ Q:=fun a w hh=>h a w (hh.congr fun κ=>by
 rw [ab]
 split
 ·rename_i e;rw [← e,hi,he]
 ·rfl)
def Ae:List Oper→Bool
 | []=>true
 | o :: os=>(match o.op with | .load _ _=>false|_=>true) && Ae os
theorem Jm {P:Program} {W0:cz} {N:Nat} {σ:Env} {Q:Exit→Act→World→Prop} {id:Nat} {os:List Oper} (h:Der P os.toArray W0 N (fun _ σ=>At W0 N σ .normal Q) os [] [] [] σ) (hn:Ae os=true:=by rfl):ar P W0 N (.region id os.toArray false) σ Q:=dq h
theorem kgm {p q:Prop} (hq:q) (h:Beh q→p:=by intro h0;(repeat (first|(refine ca ?_;first|refine vW ?_|refine aM ?_|refine b6 ?_|refine aR ?_|refine bh ?_|refine aL ?_|refine bg ?_|refine aX ?_|refine az ?_|refine aV ?_)|(refine eG ?_;first|refine yH ?_|refine bH ?_|refine eC ?_|refine bP ?_|refine cb ?_)|(refine eT ?_;first|refine ya ?_|refine vy (h:=?_)|refine cd ?_|refine bR ?_|refine b9 ?_|refine bu ?_|refine bJ ?_|refine b8 ?_)|(refine eR ?_;first|refine yJ ?_|refine ch ?_|refine d7 ?_|refine b7 ?_|refine bD ?_|refine bN ?_|refine bX ?_|refine bS ?_)|(refine eK ?_;first|refine eF ?_|refine eA ?_|refine bU ?_|refine bG ?_|refine eH ?_|refine bd ?_|refine bc ?_)|(refine bV ?_;first|refine ba ?_|refine bT ?_)|(refine eV ?_;first|refine bI ?_|refine bQ ?_|refine eJ ?_)|(refine bL ?_;first|refine lx ?_|refine uJ ?_|refine bO ?_|refine aS ?_|refine aN ?_|refine aW ?_|refine aQ ?_|refine aY ?_)|(refine eE ?_;first|refine bZ ?_|refine eB ?_|refine be ?_|refine aP ?_|refine aU ?_)|(refine aK ?_;first|refine iw ?_|refine aq _ ?_|refine bf ?_|refine aw ?_|refine au ?_|refine ax ?_)|(refine eP ?_;first|refine bW ?_|refine bE ?_|refine bM ?_)|(refine gOp ?_;first|refine FV ?_|refine eD ?_|refine eM ?_|refine aZ ?_|refine eU ?_|refine eN ?_|refine bK ?_|refine aO ?_|refine cf ?_|refine eO ?_|refine bC ?_|refine bY ?_|refine aT ?_|refine ay ?_|refine cg ?_|refine sNo ?_|refine dU ?_|refine av ?_)|refine dY ?_|refine Jm ?_|refine fj ?_|refine bj ?_|refine ci ?_|refine br ?_|refine fm ?_|refine fl ?_|refine eX ?_|refine dB ?_|refine ck ?_|refine bo ?_|refine aA ?_|refine bk ?_|refine ct ?_|refine bt ?_|refine aBlkX ?_|refine cm ?_));exact h0.out):p:=h ⟨hq⟩
theorem kgr {p q:Prop} (hq:q) (h:Beh q→p:=by intro h0;(repeat (first|(refine ca ?_;first|refine vW ?_|refine aM ?_|refine b6 ?_|refine aR ?_|refine bh ?_|refine aL ?_|refine bg ?_|refine aX ?_|refine az ?_|refine aV ?_)|(refine eG ?_;first|refine yH ?_|refine bH ?_|refine eC ?_|refine bP ?_|refine cb ?_)|(refine eT ?_;first|refine ya ?_|refine vy (h:=?_)|refine cd ?_|refine bR ?_|refine b9 ?_|refine bu ?_|refine bJ ?_|refine b8 ?_)|(refine eR ?_;first|refine yJ ?_|refine ch ?_|refine d7 ?_|refine b7 ?_|refine bD ?_|refine bN ?_|refine bX ?_|refine bS ?_)|(refine eK ?_;first|refine eF ?_|refine eA ?_|refine bU ?_|refine bG ?_|refine eH ?_|refine bd ?_|refine bc ?_)|(refine bV ?_;first|refine ba ?_|refine bT ?_)|(refine eV ?_;first|refine bI ?_|refine bQ ?_|refine eJ ?_)|(refine bL ?_;first|refine lx ?_|refine uJ ?_|refine bO ?_|refine aS ?_|refine aN ?_|refine aW ?_|refine aQ ?_|refine aY ?_)|(refine eE ?_;first|refine bZ ?_|refine eB ?_|refine be ?_|refine aP ?_|refine aU ?_)|(refine aK ?_;first|refine iw ?_|refine aq _ ?_|refine bf ?_|refine aw ?_|refine au ?_|refine ax ?_)|(refine eP ?_;first|refine bW ?_|refine bE ?_|refine bM ?_)|(refine gOp ?_;first|refine FV ?_|refine eD ?_|refine eM ?_|refine aZ ?_|refine eU ?_|refine eN ?_|refine bK ?_|refine aO ?_|refine cf ?_|refine eO ?_|refine bC ?_|refine bY ?_|refine aT ?_|refine ay ?_|refine cg ?_|refine sNo ?_|refine dU ?_|refine av ?_)));exact h0.out):p:=h ⟨hq⟩
theorem kgl {p q:Prop} (hq:q) (h:Beh q→p:=by intro h0;(repeat (first|(refine ca ?_;first|refine vW ?_|refine aM ?_|refine b6 ?_|refine aR ?_|refine bh ?_|refine aL ?_|refine bg ?_|refine aX ?_|refine az ?_|refine aV ?_)|(refine eG ?_;first|refine yH ?_|refine bH ?_|refine eC ?_|refine bP ?_|refine cb ?_)|(refine eT ?_;first|refine ya ?_|refine vy (h:=?_)|refine cd ?_|refine bR ?_|refine b9 ?_|refine bu ?_|refine bJ ?_|refine b8 ?_)|(refine eR ?_;first|refine yJ ?_|refine ch ?_|refine d7 ?_|refine b7 ?_|refine bD ?_|refine bN ?_|refine bX ?_|refine bS ?_)|(refine eK ?_;first|refine eF ?_|refine eA ?_|refine bU ?_|refine bG ?_|refine eH ?_|refine bd ?_|refine bc ?_)|(refine bV ?_;first|refine ba ?_|refine bT ?_)|(refine eV ?_;first|refine bI ?_|refine bQ ?_|refine eJ ?_)|(refine bL ?_;first|refine lx ?_|refine uJ ?_|refine bO ?_|refine aS ?_|refine aN ?_|refine aW ?_|refine aQ ?_|refine aY ?_)|(refine eE ?_;first|refine bZ ?_|refine eB ?_|refine be ?_|refine aP ?_|refine aU ?_)|(refine aK ?_;first|refine iw ?_|refine aq _ ?_|refine bf ?_|refine aw ?_|refine au ?_|refine ax ?_)|(refine eP ?_;first|refine bW ?_|refine bE ?_|refine bM ?_)|(refine gOp ?_;first|refine FV ?_|refine eD ?_|refine eM ?_|refine aZ ?_|refine eU ?_|refine eN ?_|refine bK ?_|refine aO ?_|refine cf ?_|refine eO ?_|refine bC ?_|refine bY ?_|refine aT ?_|refine ay ?_|refine cg ?_|refine sNo ?_|refine dU ?_|refine av ?_)|refine dY ?_|refine dq ?_|refine fj ?_|refine bj ?_|refine ci ?_|refine br ?_|refine fm ?_|refine fl ?_|refine eX ?_|refine dB ?_|refine ck ?_|refine bo ?_|refine aA ?_|refine bk ?_|refine ct ?_|refine bt ?_|refine aBlkX ?_|refine cm ?_));exact h0.out):p:=h ⟨hq⟩
end Go.Proofs.YtnobdioccfeokaaGreatDoor
namespace Go.Proofs.YtnobdioccfeokaaGreatDoor
open Go.RowKit
set_option linter.unusedVariables false
set_option linter.unusedSimpArgs false
theorem aE.updM {W0:cz} {N:Nat} {σ τ:Env} {a:Act} {w w':World} {c:Cx} {U:BS} (h:aE W0 N σ a w c) (hg:Chg U w w') (hU:∀b,U b→∃i x,al τ i=some x∧c.T i b) (hτ:∀i x,al τ i=some x→∃t u,x=.tk u∧al σ i=some (.tk t)∧u.ok c w' (c.ρ i) (c.T i)):aE W0 N (τ++σ) a w' c:=by
 have hUf:∀b,U b→¬c.F b∧(W0.M b∨W0.w.heap.size≤b):=fun b hb=>by
  obtain ⟨i,x,h1,h2⟩:=hU b hb
  obtain ⟨t,u,_,h4,_⟩:=hτ i x h1
  exact ⟨((h.tok i t h4).2.2 b h2).1,((h.tok i t h4).2.2 b h2).2.2⟩
 have hag:=h.agF hg (fun b hb=>(hUf b hb).1)
 have conv:∀j x,al (τ++σ) j=some (.tk x)→∃x',al σ j=some (.tk x'):=fun j x hj=>by
  rw [eW] at hj
  cases hl:al τ j with
  | none=>rw [hl] at hj;exact ⟨x,hj⟩
  | some y=>obtain ⟨t,_,_,h4,_⟩:=hτ j y hl;exact ⟨t,h4⟩
 refine ⟨h.ext' hg (fun b hb=>(hUf b hb).2),h.old,fun b hb=>Nat.lt_of_lt_of_le (h.lt b hb) hg.size,h.size,h.defers,fun j hj=>?_,fun j x hj=>?_,fun j k x y hj hk hne b=>?_,fun t' s ht'=>?_⟩
 ·rw [eW]
  cases hl:al τ j with
  | none=>exact h.all j hj
  | some y=>simp
 ·rw [eW] at hj
  cases hl:al τ j with
  | none=>
   rw [hl] at hj
   obtain ⟨k1,k2,k3⟩:=h.tok j x hj
   refine ⟨k1,Tk.keep (Cx.Le.refl c) hg.size hag (fun b hb hlt=>hg.block b hlt (fun hs=>?_)) x _ k2,fun b hb=>⟨(k3 b hb).1,Nat.lt_of_lt_of_le (k3 b hb).2.1 hg.size,(k3 b hb).2.2⟩⟩
   obtain ⟨i,y,h1,h2⟩:=hU b hs
   obtain ⟨t,u,_,h4,_⟩:=hτ i y h1
   have hij:i≠j:=fun e=>by subst e;rw [hl] at h1;cases h1
   exact h.off i j t x h4 hj hij b h2 hb
  | some y=>
   rw [hl] at hj
   obtain ⟨t,u,h3,h4,h5⟩:=hτ j y hl
   subst h3
   cases hj
   obtain ⟨k1,k2,k3⟩:=h.tok j t h4
   exact ⟨k1,h5,fun b hb=>⟨(k3 b hb).1,Nat.lt_of_lt_of_le (k3 b hb).2.1 hg.size,(k3 b hb).2.2⟩⟩
 ·obtain ⟨x',hx'⟩:=conv j x hj
  obtain ⟨y',hy'⟩:=conv k y hk
  exact h.off j k x' y' hx' hy' hne b
 ·rw [eW] at ht'
  cases hl:al τ t' with
  | none=>
   rw [hl] at ht'
   obtain ⟨x,h1,h2⟩:=h.tmp t' s ht'
   exact ⟨x,h1,Sy.keep (Cx.Le.refl c) hag s x h2⟩
  | some y=>
   rw [hl] at ht'
   obtain ⟨t,u,h3,_⟩:=hτ t' y hl
   subst h3
   cases ht'
structure Ho (P:Program) (f:FuncId) (ds ds':List D) (k k':Int):Prop where
 enter:∀args w,(callFunc f args).run P w=.ok (.enter f args) w
 calls:∀(T:Nat→BS) (w:World) (cs:List Value),cs.length=ds.length→(∀(i:Nat) (d:D),ds[i]? = some d→∃u,cs[i]? = some u∧Ow w d (T i) [u])→(∀i j,i≠j→∀b,T i b→¬T j b)→(∀i b,T i b→b<w.heap.size) →
  Calls P f #[.agg cs.toArray,.int .i64 k] w fun e w'=>e=.returned (.int .i64 k')∧I64 k'∧Chg (fun b=>∃i,i<ds.length∧T i b) w w'∧∀(i z:Nat) (xs:List D),ds'[i]? = some (.l z xs)→∃u,cs[i]? = some u∧Ow w' (.l z xs) (T i) [u]
def jq (σ:Env):List Sy→Option (List D)
 | []=>some []
 | .k i :: ss=>match al σ i,jq σ ss with
  | some (.tk (.own (.l z xs) none _)),some ds=>some (.l z xs :: ds)
  | _,_=>none
 | .d r :: ss=>match Hk r,jq σ ss with
  | true,some ds=>some (r :: ds)
  | _,_=>none
 | _ :: _=>none
def sJ (σ:Env):List Sy→List D→Env
 | .k i :: ss,d :: ds=>match al σ i with
  | some (.tk (.own _ _ tag))=>(i,.tk (.own d none tag)) :: sJ σ ss ds
  | _=>sJ σ ss ds
 | _ :: ss,_ :: ds=>sJ σ ss ds
 | _,_=>[]
def Bq:List D→List D→Bool
 | [],[]=>true
 | .l _ _ :: ds,.l _ _ :: ds'=>Bq ds ds'
 | .l _ _ :: _,_ :: _=>false
 | _ :: ds,_ :: ds'=>Bq ds ds'
 | _,_=>false
def tkT (c:Cx):Option Sy→BS
 | some (.k i)=>c.T i
 | _=>fun _=>False
theorem GG {r:D} {c:Cx} {w:World} {v:Value} {T:BS} (h:Hk r=true) (hv:(Sy.d r).ok c w v):Ow w r T [v]:=by
 cases r with
 | i n=>exact hv
 | s n=>exact hv
 | b n=>exact hv
 | _=>cases h
theorem kq {σ σ':Env}:∀(ss:List Sy),(∀κ∈cP ss,al σ' κ=al σ κ)→jq σ' ss=jq σ ss:=by
 intro ss
 induction ss with
 | nil=>intro _;rfl
 | cons s ss ih=>
  intro h
  have h2:=ih (fun κ hκ=>h κ (by simp [cP,hκ]))
  cases s with
  | k i=>unfold jq;rw [h i (by simp [cP,kSy]),h2]
  | d r=>unfold jq;rw [h2]
  | _=>rfl
theorem zp {σ σ':Env}:∀(ss:List Sy) (ds:List D),(∀κ∈cP ss,al σ' κ=al σ κ)→sJ σ' ss ds=sJ σ ss ds:=by
 intro ss
 induction ss with
 | nil=>intro ds _;rfl
 | cons s ss ih=>
  intro ds h
  cases ds with
  | nil=>cases s <;> rfl
  | cons d ds=>
   have h2:=ih ds (fun κ hκ=>h κ (by simp [cP,hκ]))
   cases s with
   | k i=>unfold sJ;rw [h i (by simp [cP,kSy]),h2]
   | _=>exact h2
theorem rk {W0:cz} {N:Nat} {σ:Env} {a:Act} {w:World} {c:Cx} (h:aE W0 N σ a w c):∀(ss:List Sy) (ds:List D) (vs:List Value),jq σ ss=some ds→Sy.oks c w ss vs→vs.length=ds.length∧ss.length=ds.length∧∀(i:Nat) (d:D),ds[i]? = some d→∃u,vs[i]? = some u∧Ow w d (tkT c ss[i]?) [u]:=by
 intro ss
 induction ss with
 | nil=>intro ds vs h1 h2;cases h1;rw [show vs = [] from h2];exact ⟨rfl,rfl,fun i d hi=>by simp at hi⟩
 | cons s ss ih=>
  intro ds vs h1 ⟨v,t,e1,e2,e3⟩
  subst e1
  have fin:∀(d:D) (es:List D),ds=d :: es→jq σ ss=some es→Ow w d (tkT c (some s)) [v]→(v :: t).length=ds.length∧(s :: ss).length=ds.length∧∀(i:Nat) (d:D),ds[i]? = some d→∃u,(v :: t)[i]? = some u∧Ow w d (tkT c (s :: ss)[i]?) [u]:=fun d es hd he ho=>by
   subst hd
   obtain ⟨q1,q2,q3⟩:=ih es t he e3
   refine ⟨by simp [q1],by simp [q2],fun i d' hi=>?_⟩
   cases i with
   | zero=>simp at hi;subst hi;exact ⟨v,rfl,ho⟩
   | succ i=>exact q3 i d' (by simpa using hi)
  cases s with
  | k i=>
   unfold jq at h1
   split at h1
   ·rename_i z xs tag es q1 q2
    cases h1
    obtain ⟨_,⟨hO,_⟩,_⟩:=h.tok i _ q1
    exact fin _ _ rfl q2 (by rw [e2.2];exact hO)
   ·cases h1
  | d r=>
   unfold jq at h1
   split at h1
   ·rename_i es q1 q2
    cases h1
    exact fin _ _ rfl q2 (GG q1 e2)
   ·cases h1
  | _=>cases h1
theorem tq {σ:Env}:∀(ss:List Sy) (ds ds':List D),jq σ ss=some ds→Bq ds ds'=true→zV ss=true→∀(j:Nat) (x:In),al (sJ σ ss ds') j=some x→∃(n:Nat) (z z':Nat) (xs xs':List D) (tag:Option (Value × BS)),ss[n]? = some (.k j)∧ds'[n]? = some (.l z' xs')∧al σ j=some (.tk (.own (.l z xs) none tag))∧x=.tk (.own (.l z' xs') none tag):=by
 intro ss
 induction ss with
 | nil=>intro ds ds' h1 h2 _ j x hj;cases h1;cases ds' <;> cases hj
 | cons s ss ih=>
  intro ds ds' h1 h2 h3 j x hj
  have up:∀(es es':List D) (d':D),ds'=d' :: es'→jq σ ss=some es→Bq es es'=true→al (sJ σ ss es') j=some x→∃(n:Nat) (z z':Nat) (xs xs':List D) (tag:Option (Value × BS)),(s :: ss)[n]? = some (.k j)∧ds'[n]? = some (.l z' xs')∧al σ j=some (.tk (.own (.l z xs) none tag))∧x=.tk (.own (.l z' xs') none tag):=fun es es' d' e1 e2 e3 e4=>by
   obtain ⟨n,z,z',xs,xs',tag,q1,q2,q3,q4⟩:=ih es es' e2 e3 (tZ h3) j x e4
   exact ⟨n+1,z,z',xs,xs',tag,by simpa using q1,by rw [e1];simpa using q2,q3,q4⟩
  cases s with
  | k i=>
   unfold jq at h1
   split at h1
   ·rename_i z xs tag es q1 q2
    cases h1
    cases ds' with
    | nil=>cases h2
    | cons d' es'=>
     cases d' with
     | l z' xs'=>
      unfold sJ at hj
      rw [q1] at hj
      dsimp only at hj
      rw [ab] at hj
      split at hj
      ·rename_i e
       subst e
       cases hj
       exact ⟨0,z,z',xs,xs',tag,rfl,rfl,q1,rfl⟩
      ·exact up es es' _ rfl q2 h2 hj
     | _=>cases h2
   ·cases h1
  | d r=>
   unfold jq at h1
   split at h1
   ·rename_i es q1 q2
    cases h1
    cases ds' with
    | nil=>cases r <;> cases h2
    | cons d' es'=>
     refine up es es' _ rfl q2 ?_ hj
     cases r with
     | l z xs=>cases q1
     | _=>exact h2
   ·cases h1
  | _=>cases h1
theorem wK {σ:Env}:∀(ss:List Sy) (ds ds':List D),jq σ ss=some ds→ds.length=ds'.length→∀(n i:Nat),ss[n]? = some (.k i)→∃x,al (sJ σ ss ds') i=some x:=by
 intro ss
 induction ss with
 | nil=>intro ds ds' _ _ n i h;simp at h
 | cons s ss ih=>
  intro ds ds' h1 h2 n i hn
  have go:∀(es es':List D) (d':D),ds'=d' :: es'→jq σ ss=some es→es.length=es'.length→(∀m,n=m+1→∃x,al (sJ σ ss es') i=some x):=fun es es' d' e1 e2 e3 m em=>by
   subst em
   exact ih es es' e2 e3 m i (by simpa using hn)
  cases s with
  | k j=>
   unfold jq at h1
   split at h1
   ·rename_i z xs tag es q1 q2
    cases h1
    cases ds' with
    | nil=>cases h2
    | cons d' es'=>
     unfold sJ
     rw [q1]
     dsimp only
     rw [ab]
     split
     ·exact ⟨_,rfl⟩
     ·cases n with
      | zero=>rename_i e;simp at hn;exact absurd hn e
      | succ m=>exact go es es' d' rfl q2 (by simpa using h2) m rfl
   ·cases h1
  | d r=>
   unfold jq at h1
   split at h1
   ·rename_i es q1 q2
    cases h1
    cases ds' with
    | nil=>cases h2
    | cons d' es'=>
     cases n with
     | zero=>simp at hn
     | succ m=>exact go es es' d' rfl q2 (by simpa using h2) m rfl
   ·cases h1
  | _=>cases h1
section
variable {P:Program} {ops:Array Oper} {W0:cz} {N:Nat} {Fin:Us→Env→Prop} {os:List Oper} {us:Us} {pk fk:List Nat} {σ:Env} {g:Option (Nat × Bool)} {gk:List Nat} {d ty ty' f:Nat} {pos:String} {after:Array Edge} {at':Array TypeId} {x y:Operand}
theorem mS {ss:List Sy} {ds ds':List D} {k k':Int} (h:Der P ops W0 N Fin os (us++[((d :: (gk++(cP ss++(kx x++kx y))))++pk,(d :: (sJ σ ss ds').map Prod.fst)++fk)]) [] [] ((d,.sy (.d (.i k'))) :: (sJ σ ss ds'++σ))) (hx:ev σ x=some (.ag ss):=by rfl) (ho:jq σ ss=some ds:=by rfl) (hy:ev σ y=some (.d (.i k)):=by rfl) (hf:Ho P f ds ds' k k':=by assumption) (hr:Bq ds ds'=true:=by rfl) (hl:Nat.beq ds.length ds'.length=true:=by rfl) (hd:zV ss=true:=by rfl) (hg:gst ops σ g=some (true,gk):=by rfl) (hN:Nat.blt d N=true:=by rfl) (hs:aF (sJ σ ss ds'++σ) d=true:=by rfl) (hu:(sJ σ ss ds').all (fun p=>!(Nat.beq p.1 d))=true:=by rfl):Der P ops W0 N Fin (⟨some d,.call { callee:=.value (.func f),args:=[x,y].toArray,argTypes:=at' },ty,pos,after,g⟩ :: os) us pk fk σ:=
 jy (.d (.i k')) (cP ss++(kx x++kx y)) (sJ σ ss ds') (fun σ' c a w hk hc=>by
  have hks:∀κ∈cP ss,al σ' κ=al σ κ:=fun κ hκ=>hk κ (by simp [hκ])
  have ho':=(kq ss hks).trans ho
  have hl':=Nat.eq_of_beq_eq_true hl
  obtain ⟨vs,hv,hoks⟩:=ap hc (ah hx (fun κ hκ=>hk κ (by simp [hκ])))
  obtain ⟨hyv,_⟩:=ap hc (ah hy (fun κ hκ=>hk κ (by simp [hκ])))
  obtain ⟨h1,h2,h3⟩:=rk hc ss ds vs ho' hoks
  have tkLt:∀(n:Nat) (b:Nat),tkT c ss[n]? b→∃i t,ss[n]? = some (.k i)∧al σ' i=some (.tk t)∧c.T i b:=fun n b hb=>by
   cases hn:ss[n]? with
   | none=>rw [hn] at hb;exact hb.elim
   | some s=>
    rw [hn] at hb
    cases s with
    | k i=>
     obtain ⟨x',hx'⟩:=wK ss ds ds' ho' hl' n i hn
     obtain ⟨_,_,_,_,_,_,_,_,q3,_⟩:=tq ss ds ds' ho' hr hd i x' hx'
     exact ⟨i,_,rfl,q3,hb⟩
    | _=>exact hb.elim
  unfold Oper.wp
  rw [cw hf.enter rfl]
  show Calls P f (#[a.eval x,a.eval y]) w _
  rw [hv,(List.cons.inj hyv).1]
  refine (hf.calls (fun n=>tkT c ss[n]?) w vs h1 h3 (fun n m hnm b hb hb'=>?_) (fun n b hb=>?_)).mono ?_
  ·obtain ⟨i,t,e1,e2,e3⟩:=tkLt n b hb
   obtain ⟨j,t',e4,e5,e6⟩:=tkLt m b hb'
   have hij:i≠j:=by
    rcases Nat.lt_or_ge n m with hlt|hge
    ·exact iL ss n m i j hd hlt e1 e4
    ·exact fun e=>iL ss m n j i hd (by omega) e4 e1 e.symm
   exact hc.off i j t t' e2 e5 hij b e3 e6
  ·obtain ⟨i,t,e1,e2,e3⟩:=tkLt n b hb
   exact ((hc.tok i t e2).2.2 b e3).2.1
  rintro en w' ⟨rfl,hk',hch,hok⟩
  rw [← zp ss ds' hks]
  refine ⟨_,c,rfl,hc.updM hch (fun b hb=>?_) (fun i x' hx'=>?_),rfl,hk'⟩
  ·obtain ⟨n,hn,hb⟩:=hb
   obtain ⟨i,t,e1,e2,e3⟩:=tkLt n b hb
   obtain ⟨x',hx'⟩:=wK ss ds ds' ho' hl' n i e1
   exact ⟨i,x',hx',e3⟩
  ·obtain ⟨n,z,z',xs,xs',tag,q1,q2,q3,q4⟩:=tq ss ds ds' ho' hr hd i x' hx'
   obtain ⟨hA,⟨_,_,htag⟩,_⟩:=hc.tok i _ q3
   obtain ⟨u,q5,q6⟩:=hok n z' xs' q2
   have q7:u=c.ρ i:=by
    have:∀(ss:List Sy) (vs:List Value) (n:Nat),Sy.oks c w ss vs→ss[n]? = some (.k i)→vs[n]? = some u→u=c.ρ i:=by
     intro ss
     induction ss with
     | nil=>intro vs n _ hn;simp at hn
     | cons s ss ih=>
      intro vs n ⟨v,t,e1,e2,e3⟩ hn hu
      subst e1
      cases n with
      | zero=>simp at hn hu;subst hn;rw [← hu];exact e2.2
      | succ n=>exact ih t n e3 (by simpa using hn) (by simpa using hu)
    exact this ss vs n hoks q1 q5
   rw [q7] at q6
   have q8:tkT c ss[n]? = c.T i:=by rw [q1];rfl
   refine ⟨_,_,q4,q3,?_,fun p hp=>(by cases hp),htag⟩
   rw [q8] at q6
   exact q6) h hg hN hs hu
theorem FV {ss:List Sy} (h:Der P ops W0 N Fin os (us++[((d :: (gk++((10000+d) :: (cP ss++kx x))))++pk,([d,10000+d])++fk)]) [] [] ((d,.sy (.bx (10000+d) 0)) :: (10000+d,.tk (.bx ss)) :: σ)) (hx:ev σ x=some (.ag ss):=by rfl) (h1:ss.all (pu σ)=true:=by rfl) (hi:al σ (10000+d)=none:=by rfl) (hg:gst ops σ g=some (true,gk):=by rfl) (hN:Nat.blt d N=true:=by rfl) (hs:aF ((10000+d,.tk (.bx ss)) :: σ) d=true:=by rfl) (hu:Nat.beq (10000+d) d=false:=by rfl):Der P ops W0 N Fin (⟨some d,.box ty' x,ty,pos,after,g⟩ :: os) us pk fk σ:=
 jy (.bx (10000+d) 0) ((10000+d) :: (cP ss++kx x)) [(10000+d,.tk (.bx ss))] (fun σ' c a w hk hc=>by
  obtain ⟨cs,hv,hok⟩:=ap hc (ah hx (fun κ hκ=>hk κ (by simp [hκ])))
  unfold Oper.wp
  rw [A9 (cs:=cs) (by rw [hv];rfl)]
  have hX:Ext w (w.alloc (.cells cs.toArray ty')):=(Ext.refl w).alloc _
  have hc1:=hc.grow hX c.F (fun _ h=>h) (fun _ h=>.inl h) (fun b hb=>Nat.lt_of_lt_of_le (hc.lt b hb) (Below.size hX))
  refine ⟨_,_,rfl,hc1.new (i:=10000+d) (t:=.bx ss) (v:=.pointer (some ⟨w.heap.size,0,none⟩)) (S:=fun b=>b=w.heap.size) ((hk _ (by simp)).trans hi) ⟨w.heap.size,cs,rfl,rfl,Sy.keeps (Cx.Le.refl c) (fun b _ hl=>hX.block b hl) _ _ hok,ey.new w ty' cs _ rfl⟩ (fun b hb=>⟨fun hF=>?_,?_⟩) (fun j u hj b hb hT=>?_),?_⟩
  ·subst hb;exact absurd (hc.lt _ hF) (Nat.lt_irrefl _)
  ·subst hb;exact ⟨by simp,.inr hc.ext.size⟩
  ·subst hb;exact absurd ((hc.tok j u hj).2.2 _ hT).2.1 (Nat.lt_irrefl _)
  ·exact ⟨.inr rfl,w.heap.size,if_pos rfl,rfl⟩) h hg hN hs (by simp [hu])
end
def agS:Nat→List D→List Sy
 | _,[]=>[]
 | j,.l _ _ :: ds=>.k j :: agS (j+1) ds
 | j,d :: ds=>.d d :: agS (j+1) ds
def agT (V:Nat→Value) (T:Nat→BS):Nat→List D→Env
 | _,[]=>[]
 | j,.l z xs :: ds=>(j,.tk (.own (.l z xs) none (some (V j,T j)))) :: agT V T (j+1) ds
 | j,_ :: ds=>agT V T (j+1) ds
def vP (V:Nat→Value) (T:Nat→BS) (ds:List D) (k:Int):Env:=(0,.sy (.ag (agS 20000 ds))) :: (1,.sy (.d (.i k))) :: agT V T 20000 ds
def Fj (W0:cz) (V:Nat→Value) (T:Nat→BS) (ds':List D) (k':Int):Ending→World→Prop:=fun e w'=>e=.returned (.int .i64 k')∧I64 k'∧Chg W0.M W0.w w'∧∀(i z:Nat) (xs:List D),ds'[i]? = some (.l z xs)→Ow w' (.l z xs) (T (20000+i)) [V (20000+i)]
theorem wJ {V:Nat→Value} {T:Nat→BS}:∀(ds:List D) (j κ:Nat) (x:In),al (agT V T j ds) κ=some x→j≤κ∧∃z xs,ds[κ - j]? = some (.l z xs)∧x=.tk (.own (.l z xs) none (some (V κ,T κ))):=by
 intro ds
 induction ds with
 | nil=>intro j κ x h;cases h
 | cons d ds ih=>
  intro j κ x h
  have up:al (agT V T (j+1) ds) κ=some x→j≤κ∧∃z xs,(d :: ds)[κ - j]? = some (.l z xs)∧x=.tk (.own (.l z xs) none (some (V κ,T κ))):=fun h=>by
   obtain ⟨h1,z,xs,h2,h3⟩:=ih _ _ _ h
   refine ⟨by omega,z,xs,?_,h3⟩
   rw [show κ - j=(κ - (j+1))+1 by omega]
   simpa using h2
  cases d with
  | l z xs=>
   unfold agT at h
   rw [ab] at h
   split at h
   ·rename_i e
    subst e
    cases h
    exact ⟨Nat.le_refl _,z,xs,by simp,rfl⟩
   ·exact up h
  | _=>exact up h
theorem H7 {V:Nat→Value} {T:Nat→BS}:∀(ds:List D) (j i z:Nat) (xs:List D),ds[i]? = some (.l z xs)→al (agT V T j ds) (j+i)=some (.tk (.own (.l z xs) none (some (V (j+i),T (j+i))))):=by
 intro ds
 induction ds with
 | nil=>intro j i z xs h;simp at h
 | cons d ds ih=>
  intro j i z xs h
  cases i with
  | zero=>
   simp at h
   subst h
   have e:al (agT V T j (.l z xs :: ds)) j=some (.tk (.own (.l z xs) none (some (V j,T j)))):=by unfold agT;rw [ab,if_pos rfl]
   exact e
  | succ i=>
   have h1:=ih (j+1) i z xs (by simpa using h)
   rw [show j+1+i=j+(i+1) by omega] at h1
   cases d with
   | l z' xs'=>
    unfold agT
    rw [ab,if_neg (by omega)]
    exact h1
   | _=>exact h1
theorem Gi {V:Nat→Value} {T:Nat→BS} {w:World} {c:Cx}:∀(ds:List D) (j:Nat) (cs:List Value),cs.length=ds.length→(∀i d,ds[i]? = some d→cs[i]? = some (V (j+i))∧((∃z xs,d=.l z xs)∨∃S,Hk d=true∧Ow w d S [V (j+i)]))→(∀κ,c.ρ κ=V κ)→(∀i z xs,ds[i]? = some (.l z xs)→c.A (j+i))→Sy.oks c w (agS j ds) cs:=by
 intro ds
 induction ds with
 | nil=>intro j cs hl _ _ _;exact List.eq_nil_of_length_eq_zero hl
 | cons d ds ih=>
  intro j cs hl h hρ hA
  cases cs with
  | nil=>simp at hl
  | cons v cs=>
   obtain ⟨h1,h2⟩:=h 0 d (by simp)
   simp at h1
   have h3:=ih (j+1) cs (by simpa using hl) (fun i d' hi=>by
    have:=h (i+1) d' (by simpa using hi)
    rw [show j+(i+1)=j+1+i by omega] at this
    simpa using this) hρ (fun i z xs hi=>by
    have:=hA (i+1) z xs (by simpa using hi)
    rw [show j+(i+1)=j+1+i by omega] at this
    exact this)
   cases d with
   | l z xs=>exact ⟨v,cs,rfl,⟨hA 0 z xs (by simp),by rw [h1,hρ]⟩,h3⟩
   | _=>
    refine ⟨v,cs,rfl,?_,h3⟩
    rcases h2 with ⟨z,xs,e⟩|⟨S,e,h2⟩
    ·cases e
    ·first|(cases e;done)|(rw [h1];exact h2)
theorem uH {P : Program} {f : FuncId} {ds ds' : List D} {k k' : Int} {fn : Func} {c : Code} {N : Nat} (hf : P.funcs[f]? = some fn) (hk : I64 k) (h : ∀ (W0 : cz) (V : Nat → Value) (T : Nat → BS), ar P W0 N c (vP V T ds k) (bodyPost P fn (Fj W0 V T ds' k'))) (hb : fn.body = some c := by rfl) (hN : fn.ntmps = N := by rfl) (hl : Nat.ble 2 N = true := by rfl) (hsc : (ds.all fun d => match d with | .l _ _ => true | d => Hk d) = true := by rfl) (hll : Nat.beq ds.length ds'.length = true := by rfl) (hnm : (fn.name == "runtime.NumGoroutine") = false := by kernel_rfl) : Ho P f ds ds' k k' := by
 refine ⟨fun args w=>?_,fun T w cs hlen hv hoff hT=>?_⟩
 ·unfold callFunc
  simp only [Sem.run_bind,show (program).run P w=.ok P w from rfl,Result.andThen_ok,hf,hnm,hb]
  rfl
 ·have hl':=Nat.le_of_ble_eq_true hl
  have hle:=Nat.eq_of_beq_eq_true hll
  obtain ⟨V,hV⟩:∃V:Nat→Value,V=fun κ=>cs.getD (κ - 20000) undef:=⟨_,rfl⟩
  obtain ⟨T',hT'⟩:∃T':Nat→BS,T'=fun κ=>T (κ - 20000):=⟨_,rfl⟩
  have hVi:∀i u,cs[i]? = some u→V (20000+i)=u:=fun i u hi=>by rw [hV];simp [hi]
  have hTi:∀i,T' (20000+i)=T i:=fun i=>by rw [hT'];simp
  have key:∀(i:Nat) (t:Tk),al (vP V T' ds k) i=some (.tk t)→∃n z xs,i=20000+n∧ds[n]? = some (.l z xs)∧t=.own (.l z xs) none (some (V i,T' i)):=fun i t hi=>by
   unfold vP at hi
   rw [ab] at hi
   split at hi
   ·cases hi
   ·rw [ab] at hi
    split at hi
    ·cases hi
    ·obtain ⟨h1,z,xs,h2,h3⟩:=wJ ds 20000 i _ hi
     cases h3
     exact ⟨i - 20000,z,xs,by omega,h2,rfl⟩
  have hat:∀(i z:Nat) (xs:List D),ds[i]? = some (.l z xs)→al (vP V T' ds k) (20000+i)=some (.tk (.own (.l z xs) none (some (V (20000+i),T' (20000+i))))):=fun i z xs hi=>by
   unfold vP
   rw [ab,if_neg (by omega),ab,if_neg (by omega)]
   exact H7 ds 20000 i z xs hi
  refine (calls_of_wp hf hb (h ⟨w,fun _=>False,fun b=>∃i,i<ds.length∧T i b⟩ V T' _ w ⟨⟨fun _=>False,V,T',fun i=>∃t,al (vP V T' ds k) i=some (.tk t)⟩,Chg.rfl',fun b hb=>hb.elim,fun b hb=>hb.elim,?_,rfl,fun i ⟨t,hi⟩=>by rw [hi];simp,fun i t ht=>?_,fun i j t u hi hj hne b hb hb'=>?_,fun t s ht=>?_⟩)).mono ?_
  ·simp [hN];omega
  ·obtain ⟨n,z,xs,rfl,h2,rfl⟩:=key i t ht
   obtain ⟨u,h3,h4⟩:=hv n _ h2
   have hn:n<ds.length:=(List.getElem?_eq_some_iff.1 h2).1
   refine ⟨⟨_,ht⟩,⟨?_,fun p hp=>(by cases hp),fun p hp=>by cases hp;exact ⟨rfl,rfl⟩⟩,fun b hb=>?_⟩
   ·show Ow w _ (T' (20000+n)) [V (20000+n)]
    rw [hVi n u h3,hTi];exact h4
   ·have hb':T n b:=by rw [← hTi];exact hb
    exact ⟨fun h=>h,hT n b hb',.inl ⟨n,hn,hb'⟩⟩
  ·obtain ⟨n,_,_,rfl,_,_⟩:=key i t hi
   obtain ⟨m,_,_,rfl,_,_⟩:=key j u hj
   have h1:T n b:=by rw [← hTi];exact hb
   have h2:T m b:=by rw [← hTi];exact hb'
   exact hoff n m (fun e=>hne (by rw [e])) b h1 h2
  ·unfold vP at ht
   rw [ab] at ht
   split at ht
   ·rename_i e
    cases ht;subst e
    refine ⟨.agg cs.toArray,by rw [Array.getElem?_append_left (by simp)];rfl,cs,rfl,Gi (V:=V) (T:=T') ds 20000 cs hlen (fun i d hi=>?_) (fun _=>rfl) (fun i z xs hi=>⟨_,hat i z xs hi⟩)⟩
    obtain ⟨u,h3,h4⟩:=hv i d hi
    rw [hVi i u h3]
    refine ⟨h3,?_⟩
    have:=List.all_eq_true.1 hsc d (List.mem_of_getElem? hi)
    cases d with
    | l z xs=>exact .inl ⟨z,xs,rfl⟩
    | _=>exact .inr ⟨_,this,h4⟩
   ·rw [ab] at ht
    split at ht
    ·rename_i e
     cases ht;subst e
     exact ⟨.int .i64 k,by rw [Array.getElem?_append_left (by simp)];rfl,rfl,hk⟩
    ·obtain ⟨_,_,_,_,h3⟩:=wJ ds 20000 t _ ht
     cases h3
  ·rintro e w' ⟨rfl,h2,h3,h4⟩
   refine ⟨rfl,h2,h3,fun i z xs hi=>?_⟩
   have hi':i<cs.length:=by rw [hlen,hle];exact (List.getElem?_eq_some_iff.1 hi).1
   have h5:=h4 i z xs hi
   rw [hVi i _ (List.getElem?_eq_getElem hi'),hTi] at h5
   exact ⟨_,List.getElem?_eq_getElem hi',h5⟩
def Bb (σ:Env) (V:Nat→Value) (T:Nat→BS):Nat→List D→Prop
 | _,[]=>True
 | j,.l z xs :: ds=>al σ j=some (.tk (.own (.l z xs) none (some (V j,T j))))∧Bb σ V T (j+1) ds
 | j,_ :: ds=>Bb σ V T (j+1) ds
theorem DA {σ:Env} {V:Nat→Value} {T:Nat→BS}:∀(ds:List D) (j i z:Nat) (xs:List D),Bb σ V T j ds→ds[i]? = some (.l z xs)→al σ (j+i)=some (.tk (.own (.l z xs) none (some (V (j+i),T (j+i))))):=by
 intro ds
 induction ds with
 | nil=>intro j i z xs _ h;simp at h
 | cons d ds ih=>
  intro j i z xs hr h
  cases i with
  | zero=>simp at h;subst h;exact hr.1
  | succ i=>
   have h1:Bb σ V T (j+1) ds→al σ (j+(i+1))=some (.tk (.own (.l z xs) none (some (V (j+(i+1)),T (j+(i+1)))))):=fun hr'=>by
    have h1:=ih (j+1) i z xs hr' (by simpa using h)
    rw [show j+1+i=j+(i+1) by omega] at h1
    exact h1
   cases d with
   | l z' xs'=>exact h1 hr.2
   | _=>exact h1 hr
theorem GX {P:Program} {W0:cz} {N:Nat} {σ:Env} {fn:Func} {rs:List ResultVar} {V:Nat→Value} {T:Nat→BS} {ds':List D} {k':Int} (hr:fn.results=rs.toArray:=by rfl) (hd:CT P σ rs=some [.i k']:=by rfl) (ht:Bb σ V T 20000 ds':=by repeat (first|exact trivial|exact ⟨rfl,trivial⟩|refine ⟨rfl,?_⟩)):At W0 N σ .ret (bodyPost P fn (Fj W0 V T ds' k')):=fun a w hh=>by
 obtain ⟨c,h⟩:=hh
 obtain ⟨vs,h1,u,t,rfl,⟨h2,h2'⟩,h3⟩:=pp h rs _ hd
 have:t = []:=h3
 subst this
 refine bodyPost_ret (v:=u) ?_ h.defers ⟨by rw [(List.cons.inj h2).1],h2',h.ext,fun i z xs hi=>?_⟩
 ·rw [gM,hr,Array.mapM_eq_mapM_toList,show rs.toArray.toList=rs from rfl]
  simp only [Sem.run_bind,Sem.run_map,h1]
  simp [Result.andThen]
 ·obtain ⟨_,⟨hO,_,htag⟩,_⟩:=h.tok _ _ (DA ds' 20000 i z xs ht hi)
  obtain ⟨e1,e2⟩:=htag _ rfl
  rw [e1,e2] at hO
  exact hO
end Go.Proofs.YtnobdioccfeokaaGreatDoor
namespace Go.Proofs.YtnobdioccfeokaaGreatDoor
open Go.RowKit Go.Sort Go.Proofs
set_option linter.unusedVariables false
set_option linter.unusedSimpArgs false
set_option linter.unusedSectionVars false
structure Ep {α:Type} (k:Nat) (enc:α→List Value) (f:α→D):Prop where
 len:∀x,(enc x).length=k
 val:∀w S x cs,Rp w S (f x) cs→cs=enc x
 any:∀w w' S S' x cs,Rp w S (f x) cs→Rp w' S' (f x) cs
section
variable {α:Type} [Inhabited α] {k:Nat} {enc:α→List Value} {fD:α→D} {P:Program} {f:FuncId} {e:TypeId}
theorem JZ (hk:0<k) (hc:Ep k enc fD) {F S:BS} {w:World} {v:Value} {xs:List α} (h:(Tk.row k e (xs.map fD)).ok (Cx.of F) w v S):(xs = []∧∃a c,v=.slice a 0 c)∨∃g cap cur,v=.slice (some ⟨g,0,none⟩) xs.length cap∧S g∧w.heap[g]? = some (.cells cur e (0,0))∧xs.length≤cap∧cap≤maxLen∧cur.size=cap * k∧HoldsK enc k w g 0 xs.toArray∧∀x∈xs,∀w' S',Rp w' S' (fD x) (enc x):=by
 rcases h with ⟨hd,a,hv⟩|⟨cells,own,hS,hel⟩
 ·exact .inl ⟨List.map_eq_nil_iff.1 hd,a,0,hv⟩
 have hel:∀j (h:j<xs.length),∃cs,cs.length=k∧Rp w (Cx.of F).F (fD xs[j]) cs∧∀t u,cs[t]? = some u→cells[j * k+t]? = some u:=fun j h=>by
  obtain ⟨cs,q1,q2,q3⟩:=hel j (by rw [List.length_map];exact h)
  rw [List.getElem_map] at q2
  exact ⟨cs,q1,q2,q3⟩
 rw [List.length_map] at own
 have hall:∀x∈xs,∀w' S',Rp w' S' (fD x) (enc x):=fun x hx w' S'=>by
  obtain ⟨j,hj,rfl⟩:=List.mem_iff_getElem.1 hx
  obtain ⟨cs,q1,q2,q3⟩:=hel j hj
  have e1:=hc.val _ _ _ _ q2
  subst e1
  exact hc.any _ _ _ _ _ _ q2
 rcases own.2 with ⟨hv,hn⟩|⟨g,cap,cur,hv,_,hg,h5,h6,h7,h8⟩
 ·exact .inl ⟨List.eq_nil_of_length_eq_zero hn,none,0,hv⟩
 refine .inr ⟨g,cap,cur,hv,hS g (by rw [hv];rfl),hg,h5,h6,h7,fun t ht=>?_,hall⟩
 have ht':t<xs.length * k:=by simpa using ht
 have hq:t / k<xs.length:=Nat.div_lt_of_lt_mul (by rw [Nat.mul_comm];exact ht')
 have hr:t % k<k:=Nat.mod_lt _ hk
 refine ⟨?_,by simp [World.frozen?,hg]⟩
 obtain ⟨cs,q1,q2,q3⟩:=hel (t / k) hq
 have e1:=hc.val _ _ _ _ q2
 subst e1
 have h9:=q3 (t % k) _ (List.getElem?_eq_getElem (by rw [q1];exact hr))
 rw [show t / k * k+t % k=t by rw [Nat.mul_comm];exact Nat.div_add_mod t k,← h8,List.getElem?_take_of_lt ht',Array.getElem?_toList] at h9
 simp only [World.cell?,hg,Nat.zero_add]
 simp only [Option.isSome_none,Bool.false_eq_true,if_false]
 rw [h9]
 show _=some ((flatK enc k xs.toArray)[t]!)
 rw [get_flatK _ _ _ _ (by simpa using ht')]
 simp [hq,q1,hr]
theorem Ap (hk:0<k) (hc:Ep k enc fD) {ys:List α} (hall:∀(w':World) (S':BS),∀y∈ys,Rp w' S' (fD y) (enc y)) {F S:BS} {w':World} {g cap:Nat} (own:w'.ownsRow 0 e k (.slice (some ⟨g,0,none⟩) ys.length cap) ys.length (flatK enc k ys.toArray).toList) (hS:S g):(Tk.row k e (ys.map fD)).ok (Cx.of F) w' (.slice (some ⟨g,0,none⟩) ys.length cap) S:=by
 refine .inr ⟨(flatK enc k ys.toArray).toList,by rw [List.length_map];exact own,fun k hk=>by cases hk;exact hS,fun j hj=>⟨enc (ys[j]'(by simpa using hj)),hc.len _,?_,fun t u ht=>?_⟩⟩
 ·rw [List.getElem_map];exact hall _ _ _ (List.getElem_mem _)
 ·have hj':j<ys.length:=by simpa using hj
  have htk:t<k:=by
   have:=(List.getElem?_eq_some_iff.1 ht).1
   rwa [hc.len] at this
  have hb:j * k+t<ys.toArray.size * k:=by
   have:=Nat.mul_le_mul_right k (show j+1≤ys.length from hj')
   rw [Nat.add_mul,Nat.one_mul] at this
   simp;omega
  have e1:(j * k+t) / k=j:=(blk_iff k j _ hk).1 ⟨by omega,by omega⟩
  have e2:(j * k+t) % k=t:=by rw [Nat.mod_eq_sub_div_mul,e1];omega
  have h1:=get_flatK enc k ys.toArray _ hb
  rw [e1,e2] at h1
  have hs:j * k+t<(flatK enc k ys.toArray).size:=by rw [size_flatK];exact hb
  rw [Array.getElem?_toList,Array.getElem?_eq_getElem hs,← getElem!_pos (flatK enc k ys.toArray) (j * k+t) hs,h1]
  have h2:=(List.getElem?_eq_some_iff.1 ht).2
  simp [hj',hc.len,htk,h2]
theorem Fw (hk:0<k) (hc:Ep k enc fD) {xs ys:List α} {ds:List D} {vs0:List Value} (henter:∀args w,(callFunc f args).run P w=.ok (.enter f args) w) (hmem:∀y∈ys,y∈xs) (hlen:ys.length=xs.length) (hvs:∀w F vs,DVs w F ds vs→vs=vs0) (hno:∀p cap w,Calls P f (.slice p 0 cap :: vs0).toArray w fun en w'=>en=.returned (.tuple #[])∧w'=w)
 (hyes:∀g cap w,HoldsK enc k w g 0 xs.toArray→g<w.heap.size→Calls P f (.slice (some ⟨g,0,none⟩) xs.length cap :: vs0).toArray w fun en w'=>en=.returned (.tuple #[])∧∃n os,w'=grow (putRowK enc k (Sort.ahead w n) g 0 ys.toArray) os):FnS P f k e (xs.map fD) ds (ys.map fD):=by
 refine ⟨henter,fun F S w v vs hv hds hF hS=>?_⟩
 obtain rfl:=hvs _ _ _ hds
 rcases JZ hk hc hv with ⟨rfl,a,c,rfl⟩|⟨g,cap,cur,rfl,hSg,hb,h5,h6,h7,hH,hall⟩
 ·have:ys = []:=List.eq_nil_of_length_eq_zero hlen
  subst this
  refine (hno a c w).mono ?_
  rintro en w' ⟨rfl,rfl⟩
  exact ⟨rfl,⟨rfl,rfl,rfl,Nat.le_refl _,fun _ _ _=>rfl⟩,hv⟩
 ·refine (hyes g cap w hH (Array.getElem?_eq_some_iff.1 hb).1).mono ?_
  rintro en w' ⟨rfl,n,os,rfl⟩
  refine ⟨rfl,Chg.grown (kg id _) (fun k hk=>by cases hk;exact hSg),?_⟩
  have hfl:(flatK enc k ys.toArray).toList.length=ys.length * k:=by simp
  have hle:ys.length * k≤cap * k:=Nat.mul_le_mul_right k (by omega)
  rw [← hlen]
  refine Ap hk hc (fun w' S' y hy=>hall y (hmem y hy) w' S') ⟨hfl,.inr ⟨g,cap,_,rfl,Nat.zero_le _,wV id _ hb,by omega,h6,by simp [putCells,h7],?_⟩⟩ hSg
  have ht:=wH id cur (flatK enc k ys.toArray).toList [] (by rw [List.append_nil,hfl,h7];exact hle)
  rw [List.append_nil,hfl,List.map_id] at ht
  rw [show (flatK enc k ys.toArray).toList.toArray=flatK enc k ys.toArray from rfl] at ht
  exact ht
theorem Gs {z:Nat} {F S:BS} {w:World} {v:Value} (h:(Tk.row z e []).ok (Cx.of F) w v S) (G:BS):DV w G (.l z []) v:=by
 rcases h with ⟨_,a,rfl⟩|⟨cells,own,_,_⟩
 ·exact ⟨a,0,rfl,Nat.le_refl _,by decide,fun _=>rfl,.inl rfl⟩
 ·rcases own.2 with ⟨rfl,_⟩|⟨g,cap,cur,rfl,_,_,h5,h6,_,_⟩
  ·exact ⟨none,0,rfl,Nat.le_refl _,by decide,fun _=>rfl,.inl rfl⟩
  ·exact ⟨_,cap,rfl,h5,h6,(fun h=>by cases h),.inl rfl⟩
theorem G0 {enc:α→Value} (hc:wl enc fD) {xs ys us:List α} {ds:List D} (henter:∀args w,(callFunc f args).run P w=.ok (.enter f args) w) (hmem:∀y∈ys,y∈xs) (hlen:(ys++us).length=xs.length) (hno:∀(w:World) (F:BS) (vs:List Value) (v:Value),DVs w F ds vs→(∀b,F b→b<w.heap.size)→DV w F (.l 1 []) v→xs = []→Calls P f (v :: vs).toArray w fun en w'=>en=.returned v∧Ext w w')
 (hyes:∀(w:World) (F:BS) (vs:List Value) (g cap:Nat),DVs w F ds vs→(∀b,F b→b<w.heap.size)→¬F g→Go.Sort.Holds enc w g 0 xs.toArray→g<w.heap.size→xs.length≤cap→xs.length≤maxLen→Calls P f (.slice (some ⟨g,0,none⟩) xs.length cap :: vs).toArray w fun en w'=>en=.returned (.slice (some ⟨g,0,none⟩) ys.length cap)∧∃q,w'=putRow enc (Sort.ahead w q) g 0 (ys++us).toArray):FnC P f 1 e (xs.map fD) ds (ys.map fD):=by
 refine ⟨henter,fun F S w v vs hv hvs hF hS=>?_⟩
 by_cases hx:xs = []
 ·subst hx
  have:ys = []:=by
   have:=List.eq_nil_of_length_eq_zero hlen
   exact (List.append_eq_nil_iff.1 this).1
  subst this
  refine (hno w F vs v hvs hF (Gs hv F) rfl).mono ?_
  rintro en w' ⟨rfl,hX⟩
  exact ⟨_,rfl,Chg.ext hX,Tk.keep (Cx.Le.refl _) (Below.size hX) (fun b _ hl=>hX.block b hl) (fun b _ hl=>hX.block b hl) _ _ hv⟩
 rcases Je hc hv with ⟨rfl,a,k,rfl⟩|⟨g,cap,cur,rfl,hSg,hb,h5,h6,h7,h8,hall⟩
 ·exact absurd rfl hx
 ·refine (hyes w F vs g cap hvs hF (hS g hSg).1 (o6 enc hb h8) (Array.getElem?_eq_some_iff.1 hb).1 h5 (Nat.le_trans h5 h6)).mono ?_
  rintro en w' ⟨rfl,q,rfl⟩
  have hg0:putRow enc (Sort.ahead w q) g 0 (ys++us).toArray=grow (putRow enc (Sort.ahead w q) g 0 (ys++us).toArray) #[]:=by unfold grow;rw [Array.append_empty]
  rw [hg0]
  exact ⟨_,rfl,Chg.grown (kg enc _) (fun k hk=>by cases hk;exact hSg),oy (fun w' S' y hy=>hall y (hmem y hy) w' S') (v8 enc hlen hb h5 h6 h7) hSg⟩
end
theorem JU (i o:Nat) {W0:cz} {N:Nat} {σ:Env} {Q:Exit→Act→World→Prop} {x:Exit} {n e j:Nat} {cs:List Sy} {ds:List D} (h:At W0 N ((i,.tk (.bx (cs.set o (.d (.l n ds))))) :: (j,.no) :: σ) x Q) (hi:al σ i=some (.tk (.bx cs)):=by rfl) (hc:cs[o]? = some (.k j):=by rfl) (hj:al σ j=some (.tk (.row n e ds)):=by rfl) (hne:Nat.beq j i=false:=by rfl):At W0 N σ x Q:=fun a w hh=>h a w (hh.fzB hi hc hj hne)
end Go.Proofs.YtnobdioccfeokaaGreatDoor
namespace Go.Proofs.YtnobdioccfeokaaGreatDoor
open Go.RowKit
set_option linter.unusedVariables false
set_option linter.unusedSimpArgs false
set_option maxRecDepth 100000
section
variable {P:Program} {ops:Array Oper} {W0:cz} {N:Nat} {Fin:Us→Env→Prop} {os:List Oper} {us:Us} {pk fk:List Nat} {σ:Env} {g:Option (Nat × Bool)} {gk:List Nat} {d ty ty':Nat} {pos:String} {after:Array Edge}
theorem yC {ρ:Operand→Value} {w:World} {dd:Option Tmp} {x y u:Operand} {e z len cap n m:Nat} {ad:Option Addr} (he:elem? P ty'=some e) (hz:sizeOf? P e=some z) (h1:ρ x=.slice ad len cap) (h2:ρ y=.int .i64 n) (h3:ρ u=.int .i64 m) (hn:n≤m) (hm:m≤cap):(execOp ρ ⟨dd,.slice ty' x (some y) (some u) none,ty,pos,after,g⟩).run P w=.ok (.value (.slice (if cap=n then ad else ad.map (·.add (n * z))) (m - n) (cap - n))) w:=by
 replace hz:=cY hz
 rw [Option.map_eq_some_iff] at hz
 obtain ⟨i,hi,hz⟩:=hz
 have hn':(n:Int)≤(m:Int):=by omega
 have hm':(m:Int)≤(cap:Int):=by omega
 simp [execOp,Instr.sliceAt,Instr.slice,run_underlying (dE he),Instr.sliceBounds,Instr.sliceBound,asIntOf,hn,hm,h1,h2,h3,sizeOf,typeInfo,hi,hz,go_sem]
theorem I4 {α:Type} {f:α→D} {l:List α} {x y u:Operand} {z e n:Nat} {s t:Sy} (h:∀hn:n<l.length,Der P ops W0 N Fin os (us++[((d :: (gk++(kx x++(kx y++kx u))))++pk,([d])++fk)]) [] [] ((d,.sy (.d (.l z ([l[n]].map f)))) :: σ)) (hx:ev σ x=some (.d (.l z (l.map f))):=by rfl) (hy:ev σ y=some s:=by rfl) (hi:s.int? = some (n:Int):=by rfl) (hu:ev σ u=some t:=by rfl) (hj:t.int? = some ((n:Int)+1):=by rfl) (he:elem? P ty'=some e:=by rfl) (hz:sizeOf? P e=some z:=by rfl) (hn:n<l.length:=by first|assumption|omega) (hg:gst ops σ g=some (true,gk):=by rfl) (hN:Nat.blt d N=true:=by rfl) (hs:aF σ d=true:=by rfl):Der P ops W0 N Fin (⟨some d,.slice ty' x (some y) (some u) none,ty,pos,after,g⟩ :: os) us pk fk σ:=
 cr (.d (.l z ([l[n]].map f))) (kx x++(kx y++kx u)) (fun σ' c a w hk hc=>by
  obtain ⟨ad,k,h1,h2,h3,h4,h5⟩:=ap hc (ah hx (fun κ hκ=>hk κ (by simp [hκ])))
  have h6:=df hi (ap hc (ah hy (fun κ hκ=>hk κ (by simp [hκ]))))
  have h7:a.eval u=.int .i64 ((n+1:Nat):Int):=by
   have:=df hj (ap hc (ah hu (fun κ hκ=>hk κ (by simp [hκ]))))
   simpa using this
  rw [List.length_map] at h1 h2
  have h1':a.eval x=.slice ad l.length k:=by simpa using h1
  rcases h5 with h5|⟨b,o,rfl,g1,g2⟩
  ·rw [List.map_eq_nil_iff] at h5;rw [h5] at hn;exact absurd hn (Nat.not_lt_zero _)
  refine ⟨_,yC he hz h1' h6 h7 (by omega) (by omega),_,k - n,by rw [show n+1 - n=1 by omega];rfl,by show 1≤k - n;omega,by omega,fun hh=>?_,.inr ⟨b,o+n * z,?_,g1,(gB _ _).2 fun j hj=>?_⟩⟩
  ·split at hh
   ·omega
   ·cases hh
  ·rw [if_neg (by omega)]
   simp only [Option.map_some,Addr.add]
   split
   ·rename_i h0;rw [h0];rfl
   ·rfl
  ·have hj0:j=0:=by simp at hj;omega
   subst hj0
   obtain ⟨cs,q1,q2,q3⟩:=(gB _ _).1 g2 n (by rw [List.length_map];exact hn)
   rw [List.getElem_map] at q2
   refine ⟨cs,q1,q2,?_⟩
   rw [Nat.zero_mul,Nat.add_zero];exact q3) (h hn) hg hN hs
end
end Go.Proofs.YtnobdioccfeokaaGreatDoor
