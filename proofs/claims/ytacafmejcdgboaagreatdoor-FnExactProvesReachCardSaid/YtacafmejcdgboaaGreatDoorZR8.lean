/-
  Proved facts that the law leans on.
-/
import Derived.Test.YtacafmejcdgboaaGreatDoorZR2
import Derived.Test.YtacafmejcdgboaaGreatDoorZR3
import Derived.Test.YtacafmejcdgboaaGreatDoorZR7
import Derived.Sort.OwnSorted
import Derived.MapKept
import Derived.Test.YtacafmejcdgboaaGreatDoorRows
import Derived.WalkSpells
import Derived.WalkLawsBesides
import Derived.BigQuiet
import Derived.Deep.DeepMust
import Derived.Shelf.GgSortFunc.RowK
namespace Go.Proofs.YtacafmejcdgboaaGreatDoor
open Go.RowKit
set_option linter.unusedVariables false
set_option linter.unusedSimpArgs false
theorem qj (z:Array Value) (n j t:Nat) (u:Value) (hj:j<n) (ht:z.toList[t]? = some u):(madeCells z (n * z.size)).toList[j * z.size+t]? = some u:=by
 obtain ⟨h1,h2⟩:=List.getElem?_eq_some_iff.1 ht
 rw [Array.length_toList] at h1
 have h3:j * z.size+t<n * z.size:=by
  have:(j+1) * z.size≤n * z.size:=Nat.mul_le_mul_right _ hj
  rw [Nat.succ_mul] at this;omega
 unfold madeCells
 rw [Array.getElem?_toList,Array.getElem?_map,Array.getElem?_range,if_pos h3]
 simp only [Option.map_some]
 rw [Nat.mul_comm,Nat.mul_add_mod,Nat.mod_eq_of_lt h1,getElem!_pos z t h1]
 rw [Array.getElem_toList] at h2
 rw [h2]
section
variable {P:Program} {ops:Array Oper} {W0:cE} {N:Nat} {Fin:Us→Env→Prop} {os:List Oper} {us:Us} {pk fk:List Nat} {σ:Env} {g:Option (Nat × Bool)} {gk:List Nat} {d ty ty':Nat} {pos:String} {after:Array Edge}
theorem mu {x y:Operand} {s t:Sy} {e n k:Nat} {ti:TypeInfo} {z:Value} (r:D) (h:Der P ops W0 N Fin os (us++[((d :: (gk++((10000+d) :: (kx x++kx y))))++pk,([d,10000+d])++fk)]) [] [] ((d,.sy (.k (10000+d))) :: (10000+d,.tk (.row k e (List.replicate n r))) :: σ)) (hx:ev σ x=some s:=by rfl) (hy:ev σ y=some t:=by rfl) (hm:s.int? = some (n:Int):=by rfl) (hm':t.int? = some (n:Int):=by rfl) (hf:am σ (10000+d)=none:=by rfl) (he:elem? P ty'=some e:=by rfl) (hti:P.info? e=some ti:=by rfl) (htz:ti.zero=some z:=by rfl) (hsz:ti.size=k:=by rfl) (hzl:z.cells.toList.length=k:=by rfl) (hzr:zok r z.cells.toList=true:=by rfl) (hb:ti.bytes * n≤1000000000) (hn:n≤1000000000:=by omega) (hg:gst ops σ g=some (true,gk):=by rfl) (hN:Nat.blt d N=true:=by rfl) (hs:aI ((10000+d,.tk (.row k e (List.replicate n r))) :: σ) d=true:=by rfl) (hu:Nat.beq (10000+d) d=false:=by rfl):Der P ops W0 N Fin (⟨some d,.makeSlice ty' x y,ty,pos,after,g⟩ :: os) us pk fk σ:=by
 refine ko (.k (10000+d)) ((10000+d) :: (kx x++kx y)) [(10000+d,.tk (.row k e (List.replicate n r)))] (fun σ' c a w hk hc=>?_) h hg hN hs (by simp [hu])
 have h1:=ee hm (aq hc (af hx (fun κ hκ=>hk κ (by simp [hκ]))))
 have h2:=ee hm' (aq hc (af hy (fun κ hκ=>hk κ (by simp [hκ]))))
 have hml:n≤maxLen:=Nat.le_trans hn (Nat.le_of_ble_eq_true rfl)
 obtain ⟨w',h3,h4,h5⟩:=run_make_full (P:=P) w w.heap.size ty' e ti z k (dR he) hti htz hsz .i64 .i64 n (by omega) hml (Nat.le_refl _)
 have hrz:∀S,Rp w' S r z.cells.toList:=fun S=>oV r _ hzr
 have hX:Ext w w':=⟨h5.os,h5.tape,h5.output,h5.size,fun b hb=>h5.block b hb (by simp)⟩
 have hc1:=hc.grow hX c.F (fun _ h=>h) (fun _ h=>.inl h) (fun b hb=>Nat.lt_of_lt_of_le (hc.lt b hb) (Below.size hX))
 have hrun:(execOp a.eval ⟨some d,.makeSlice ty' x y,ty,pos,after,g⟩).run P w=.ok (.value (.slice (some ⟨w.heap.size,0,none⟩) n n)) w':=dL (X:=Instr.makeSlice ty' (a.eval x) (a.eval y)) (by rw [h1,h2];exact h3)
 unfold Oper.wp
 rw [hrun]
 have hlt:=h4.lt w.heap.size rfl
 rw [Array.length_toList] at hzl
 subst hzl
 refine ⟨_,_,rfl,hc1.new (i:=10000+d) (t:=.row z.cells.size e (List.replicate n r)) (v:=.slice (some ⟨w.heap.size,0,none⟩) n n) (S:=fun b=>b=w.heap.size) ((hk _ (by simp)).trans hf) (.inr ⟨(madeCells z.cells (n * z.cells.size)).toList,?_,fun g hg=>by cases hg;rfl,fun j hj=>?_⟩) (fun b hb=>⟨fun hF=>?_,?_⟩) (fun j u hj b hb hT=>?_),.inr rfl,(if_pos rfl).symm⟩
 ·rw [List.length_replicate]
  exact ⟨h4.1,h4.2.imp id (fun ⟨g,cap,cur,q1,_,q2⟩=>⟨g,cap,cur,q1,Nat.zero_le _,q2⟩)⟩
 ·rw [List.length_replicate] at hj
  exact ⟨z.cells.toList,by rw [Array.length_toList],by rw [List.getElem_replicate];exact hrz _,fun t u ht=>qj z.cells n j t u hj ht⟩
 ·subst hb;exact absurd (hc.lt _ hF) (Nat.lt_irrefl _)
 ·subst hb;exact ⟨hlt.2,.inr hc.ext.size⟩
 ·subst hb;exact absurd ((hc.tok j u hj).2.2 _ hT).2.1 (Nat.lt_irrefl _)
theorem Dm {α:Type} {f:α→D} {l:List α} (x':α) {x y:Operand} {i z n e:Nat} {ds:List D} (h:Der P ops W0 N Fin os (us++[((gk++(i :: (kx x++kx y)))++pk,([i])++fk)]) [] [] ((i,.tk (.row z e ((l.set n x').map f))) :: σ)) (hx:ev σ x=some (.el i z n 0):=by rfl) (hi:am σ i=some (.tk (.row z e (l.map f))):=by rfl) (hy:ev σ y=some (.d (.t ds)):=by rfl) (hq:f x'=.t ds:=by rfl) (hlt:n<l.length:=by first|assumption|omega) (hz:sizeOf? P ty'=some z:=by rfl) (hzs:szs ds=z:=by rfl) (hg:gst ops σ g=some (true,gk):=by rfl):Der P ops W0 N Fin (⟨none,.store ty' x y,ty,pos,after,g⟩ :: os) us pk fk σ:=
 kQ (i :: (kx x++kx y)) [(i,.tk (.row z e ((l.set n x').map f)))] (fun σ' c a w hk hc=>by
  obtain ⟨hAi,b,m,cp,e1,e2⟩:=aq hc (af hx (fun κ hκ=>hk κ (by simp [hκ])))
  have hi':=(hk i (by simp)).trans hi
  obtain ⟨_,hT,hlt'⟩:=hc.tok i _ hi'
  rcases hT with ⟨hd,_⟩|⟨cells,own,hS,hel⟩
  ·rw [List.map_eq_nil_iff] at hd;subst hd;exact absurd hlt (Nat.not_lt_zero _)
  obtain ⟨us',e7,e8⟩:=aq hc (af hy (fun κ hκ=>hk κ (by simp [hκ])))
  have hul:us'.length=z:=(RpL.len _ _ e8).trans hzs
  rw [e1] at own
  have hcs:cells.length=(l.map f).length * z:=own.1
  rw [List.length_map] at hcs
  have hin:n * z+z≤l.length * z:=by rw [← Nat.succ_mul];exact Nat.mul_le_mul_right z hlt
  have own':w.ownsRow 0 e z (.slice (some ⟨b,0,none⟩) (l.map f).length cp) (l.map f).length cells:=by
   rcases own.2 with ⟨hv0,_⟩|⟨gb,cap,cur,hv0,rest⟩
   ·cases hv0
   ·cases hv0;exact own
  have hb:c.T i b:=hS b (by rw [e1];rfl)
  have h1:us'.all (·.oneCell')=true:=List.all_eq_true.2 (fun u hu=>RpL.one _ _ e8 u hu)
  have h2:(Instr.storeAt ty' (.pointer (some ⟨b,n * z,none⟩)) (.agg us'.toArray)).run P w=.ok () (qH w b (n * z) us'):=by
   rw [run_storeAt_mid w b (n * z) ty' us'.toArray (fun j hj=>?_) (by simpa [hul] using cQ hz) (all_oneCell_toArray (by simpa using h1)),iM]
   have hj':n * z+j<cells.length:=by simp at hj;omega
   have q5:=World.ownsRow.cellAt (h:=own') (n * z+j) (by rw [List.length_map,← hcs];exact hj')
   rw [List.getElem?_eq_getElem hj'] at q5
   exact ⟨by rw [q5];rfl,World.ownsRow.frozenAt (h:=own') (n * z+j)⟩
  obtain ⟨q7,q8⟩:=DW us' w (n * z) cells own'
  have hrun:(execOp a.eval ⟨none,.store ty' x y,ty,pos,after,g⟩).run P w=.ok .skip (qH w b (n * z) us'):=pD (X:=Instr.storeAt ty' (a.eval x) (a.eval y)) (by rw [e2,e7];exact h2)
  unfold Oper.wp
  rw [hrun]
  have hm : .slice (some ⟨b,0,none⟩) m cp=Value.slice (some ⟨b,0,none⟩) (l.map f).length cp:=by
   rcases own.2 with ⟨hv0,_⟩|⟨gb,cap,cur,hv0,rest⟩
   ·cases hv0
   ·cases hv0;rfl
  refine ⟨rfl,c,hc.upd hi' (Chg.grown q8 (fun g hg=>by cases hg;exact hb)) (iy _ _ _ _) (fun hag=>.inr ⟨jl cells (n * z) us',?_,hS,fun j hj=>?_⟩)⟩
  ·rw [e1,hm]
   simp only [List.length_map,List.length_set] at q7 ⊢
   exact q7
  ·simp only [List.length_map,List.length_set] at hj
   by_cases hjn:j=n
   ·subst hjn
    refine ⟨us',hul,?_,fun t u ht=>jO us' cells (j * z) t u (by omega) ht⟩
    rw [List.getElem_map,List.getElem_set_self,hq]
    exact RpL.keep (fun _ h=>h) hag _ _ e8
   ·obtain ⟨cs',p1,p2,p3⟩:=hel j (by rw [List.length_map];exact hj)
    rw [List.getElem_map] at p2
    refine ⟨cs',p1,?_,fun t u ht=>?_⟩
    ·rw [List.getElem_map,List.getElem_set_ne (Ne.symm hjn)]
     exact Rp.keep (fun _ h=>h) hag _ _ p2
    ·rw [iE us' cells (n * z) (j * z+t) ?_]
     ·exact p3 t u ht
     ·have htz:t<z:=by
       rcases Nat.lt_or_ge t z with h|h
       ·exact h
       ·rw [List.getElem?_eq_none (by omega)] at ht;cases ht
      rcases Nat.lt_trichotomy j n with h|h|h
      ·left
       have:(j+1) * z≤n * z:=Nat.mul_le_mul_right z h
       rw [Nat.succ_mul] at this;omega
      ·exact absurd h hjn
      ·right
       have:(n+1) * z≤j * z:=Nat.mul_le_mul_right z h
       rw [Nat.succ_mul] at this;omega) h hg
end
end Go.Proofs.YtacafmejcdgboaaGreatDoor
namespace Go.Proofs.YtacafmejcdgboaaGreatDoor
open Go.RowKit
set_option linter.unusedVariables false
set_option linter.unusedSimpArgs false
theorem aF.upd2 {W0:cE} {N:Nat} {σ:Env} {a:Act} {w w':World} {c:Cx} (h:aF W0 N σ a w c) {i:Nat} {t u:Tk} (hi:am σ i=some (.tk t)) (hg:Chg (c.T i) w w') (hu:fy c.F w w'→u.ok c w' (c.ρ i) (c.T i)) :
 aF W0 N ((i,.tk u) :: σ) a w' c:=by
 obtain ⟨hAi,_,hti⟩:=h.tok i t hi
 have hS:∀b,c.T i b→¬c.F b:=fun b hb=>(hti b hb).1
 have hag:=h.agF hg hS
 refine ⟨h.ext' hg (fun b hb=>(hti b hb).2.2),h.old,fun b hb=>Nat.lt_of_lt_of_le (h.lt b hb) hg.size,h.size,h.defers,fun j hj=>?_,fun j x hj=>?_,fun j k x y hj hk hne b=>?_,fun t' s ht'=>?_⟩
 ·rw [aa];split
  ·simp
  ·exact h.all j hj
 ·rw [aa] at hj
  by_cases e:i=j
  ·subst e
   rw [if_pos rfl] at hj;cases hj
   exact ⟨hAi,hu hag,fun b hb=>⟨(hti b hb).1,Nat.lt_of_lt_of_le (hti b hb).2.1 hg.size,(hti b hb).2.2⟩⟩
  ·rw [if_neg e] at hj
   obtain ⟨k1,k2,k3⟩:=h.tok j x hj
   exact ⟨k1,Tk.keep (Cx.Le.refl c) hg.size hag (fun b hb hl=>hg.block b hl (fun hs=>h.off i j t x hi hj e b hs hb)) x _ k2,fun b hb=>⟨(k3 b hb).1,Nat.lt_of_lt_of_le (k3 b hb).2.1 hg.size,(k3 b hb).2.2⟩⟩
 ·have conv:∀j x,am ((i,.tk u) :: σ) j=some (.tk x)→∃x',am σ j=some (.tk x'):=fun j x hj=>by
   rw [aa] at hj
   by_cases e:i=j
   ·subst e;exact ⟨t,hi⟩
   ·rw [if_neg e] at hj;exact ⟨x,hj⟩
  obtain ⟨x',hx'⟩:=conv j x hj
  obtain ⟨y',hy'⟩:=conv k y hk
  exact h.off j k x' y' hx' hy' hne b
 ·rw [aa] at ht'
  split at ht'
  ·cases ht'
  ·obtain ⟨x,h1,h2⟩:=h.tmp t' s ht'
   exact ⟨x,h1,Sy.keep (Cx.Le.refl c) hag s x h2⟩
structure FnS (P:Program) (f:FuncId) (z e:Nat) (xs ds ys:List D):Prop where
 enter:∀args w,(callFunc f args).run P w=.ok (.enter f args) w
 calls:∀(F S:BS) (w:World) (v:Value) (vs:List Value),(Tk.row z e xs).ok (Cx.of F) w v S→DVs w F ds vs→(∀b,F b→b<w.heap.size)→(∀b,S b→¬F b∧b<w.heap.size) →
  Calls P f (v :: vs).toArray w fun en w'=>en=.returned (.tuple #[])∧Chg S w w'∧(Tk.row z e ys).ok (Cx.of F) w' v S
structure FnC (P:Program) (f:FuncId) (z e:Nat) (xs ds ys:List D):Prop where
 enter:∀args w,(callFunc f args).run P w=.ok (.enter f args) w
 calls:∀(F S:BS) (w:World) (v:Value) (vs:List Value),(Tk.row z e xs).ok (Cx.of F) w v S→DVs w F ds vs→(∀b,F b→b<w.heap.size)→(∀b,S b→¬F b∧b<w.heap.size) →
  Calls P f (v :: vs).toArray w fun en w'=>∃u,en=.returned u∧Chg S w w'∧(Tk.row z e ys).ok (Cx.of F) w' u S
section
variable {P:Program} {ops:Array Oper} {W0:cE} {N:Nat} {Fin:Us→Env→Prop} {os:List Oper} {us:Us} {pk fk:List Nat} {σ:Env} {g:Option (Nat × Bool)} {gk:List Nat} {d ty ty' f:Nat} {pos:String} {after:Array Edge} {at':Array TypeId} {ds:List D}
theorem uU {z e:Nat} {xs:List D} {c:Cx} {w:World} {v:Value} {S:BS} (h:(Tk.row z e xs).ok c w v S):(Tk.row z e xs).ok (Cx.of c.F) w v S:=h
theorem qx {z e:Nat} {xs:List D} {c:Cx} {w:World} {v:Value} {S:BS} (h:(Tk.row z e xs).ok (Cx.of c.F) w v S):(Tk.row z e xs).ok c w v S:=h
theorem aP {x:Operand} {rest:List Operand} {i z e:Nat} {xs ys:List D} (h:Der P ops W0 N Fin os (us++[((d :: (gk++(i :: (kx x++kxs rest))))++pk,([d,i])++fk)]) [] [] ((d,.sy (.v (.tuple #[]))) :: (i,.tk (.row z e ys)) :: σ)) (hx:ev σ x=some (.k i):=by rfl) (hi:am σ i=some (.tk (.row z e xs)):=by rfl) (hr:evs σ rest=some ds:=by rfl) (hf:FnS P f z e xs ds ys:=by assumption) (hg:gst ops σ g=some (true,gk):=by rfl) (hN:Nat.blt d N=true:=by rfl) (hs:aI ((i,.tk (.row z e ys)) :: σ) d=true:=by rfl) (hu:Nat.beq i d=false:=by rfl):Der P ops W0 N Fin (⟨some d,.call { callee:=.value (.func f),args:=(x :: rest).toArray,argTypes:=at' },ty,pos,after,g⟩ :: os) us pk fk σ:=
 ko (.v (.tuple #[])) (i :: (kx x++kxs rest)) [(i,.tk (.row z e ys))] (fun σ' c a w hk hc=>by
  have hi':=(hk i (by simp)).trans hi
  obtain ⟨hA,hT,hti⟩:=hc.tok i _ hi'
  obtain ⟨_,hv⟩:=aq hc (af hx (fun κ hκ=>hk κ (by simp [hκ])))
  unfold Oper.wp
  rw [cB hf.enter rfl]
  refine (hf.calls c.F (c.T i) w (a.eval x) (rest.map a.eval) (by rw [hv];exact uU hT) (iz hc rest ds hr (fun κ hκ=>hk κ (by simp [hκ]))) hc.lt (fun b hb=>⟨(hti b hb).1,(hti b hb).2.1⟩)).mono ?_
  rintro en w' ⟨rfl,hch,hok⟩
  rw [hv] at hok
  exact ⟨_,c,rfl,hc.upd2 hi' hch (fun _=>qx hok),rfl⟩) h hg hN hs (by simp [hu])
theorem aY {x:Operand} {rest:List Operand} {i z e:Nat} {xs ys:List D} (h:Der P ops W0 N Fin os (us++[((d :: (gk++(i :: (10000+d) :: (kx x++kxs rest))))++pk,([d,10000+d,i])++fk)]) [] [] ((d,.sy (.k (10000+d))) :: (10000+d,.tk (.row z e ys)) :: (i,.no) :: σ)) (hx:ev σ x=some (.k i):=by rfl) (hi:am σ i=some (.tk (.row z e xs)):=by rfl) (hn:am σ (10000+d)=none:=by rfl) (hr:evs σ rest=some ds:=by rfl) (hf:FnC P f z e xs ds ys:=by assumption) (hg:gst ops σ g=some (true,gk):=by rfl) (hN:Nat.blt d N=true:=by rfl) (hs:aI ((10000+d,.tk (.row z e ys)) :: (i,.no) :: σ) d=true:=by rfl) (hu:(Nat.beq (10000+d) d || Nat.beq i d || Nat.beq i (10000+d))=false:=by rfl):Der P ops W0 N Fin (⟨some d,.call { callee:=.value (.func f),args:=(x :: rest).toArray,argTypes:=at' },ty,pos,after,g⟩ :: os) us pk fk σ:=by
 simp only [Bool.or_eq_false_iff] at hu
 refine ko (.k (10000+d)) (i :: (10000+d) :: (kx x++kxs rest)) [(10000+d,.tk (.row z e ys)),(i,.no)] (fun σ' c a w hk hc=>?_) h hg hN hs (by simp [hu.1.1,hu.1.2])
 have hi':=(hk i (by simp)).trans hi
 obtain ⟨hA,hT,hti⟩:=hc.tok i _ hi'
 obtain ⟨_,hv⟩:=aq hc (af hx (fun κ hκ=>hk κ (by simp [hκ])))
 unfold Oper.wp
 rw [cB hf.enter rfl]
 refine (hf.calls c.F (c.T i) w (a.eval x) (rest.map a.eval) (by rw [hv];exact uU hT) (iz hc rest ds hr (fun κ hκ=>hk κ (by simp [hκ]))) hc.lt (fun b hb=>⟨(hti b hb).1,(hti b hb).2.1⟩)).mono ?_
 rintro en w' ⟨u,rfl,hch,hok⟩
 have h1:=hc.eff (τ:=[]) hi' hch c.F (fun _ h=>h) (fun b hb=>.inl hb) (fun b hb=>Nat.lt_of_lt_of_le (hc.lt b hb) hch.size)
 have h2:=h1.new (i:=10000+d) (t:=.row z e ys) (v:=u) (S:=c.T i) (by rw [aa,if_neg (fun e=>by rw [e] at hu;simp at hu)];exact (hk _ (by simp)).trans hn) (qx hok) (fun b hb=>⟨(hti b hb).1,Nat.lt_of_lt_of_le (hti b hb).2.1 hch.size,(hti b hb).2.2⟩) (fun j t hj b hb=>by
  rw [aa] at hj
  split at hj
  ·cases hj
  ·rename_i hne
   exact hc.off i j _ t hi' hj hne b hb)
 exact ⟨u,_,rfl,h2,.inr rfl,(if_pos rfl).symm⟩
end
end Go.Proofs.YtacafmejcdgboaaGreatDoor
namespace Go.Proofs.YtacafmejcdgboaaGreatDoor
open Go.RowKit Go.Sort Go.Proofs
set_option linter.unusedVariables false
set_option linter.unusedSimpArgs false
set_option linter.unusedSectionVars false
section
variable {α:Type} [Inhabited α] (enc:α→Value)
theorem n8 {w:World} {g:Nat} {cur:Array Value} {e:TypeId} {ss:List α} (hb:w.heap[g]? = some (.cells cur e (0,0))) (ht:cur.toList.take ss.length=ss.map enc):Go.Sort.Holds enc w g 0 ss.toArray:=by
 intro j hj
 have hj':j<ss.length:=by simpa using hj
 refine ⟨?_,by simp [World.frozen?,hb]⟩
 have h1:(cur.toList.take ss.length)[j]? = (ss.map enc)[j]?:=by rw [ht]
 rw [List.getElem?_take_of_lt hj'] at h1
 simp only [World.cell?,hb,Nat.zero_add]
 simp only [Option.isSome_none,Bool.false_eq_true,if_false]
 rw [← Array.getElem?_toList,h1]
 simp [hj']
theorem vm {w:World} {g n:Nat} {os:Array Obj} {cur:Array Value} {e:TypeId} {fr:Nat × Nat} (d:Array α) (hb:w.heap[g]? = some (.cells cur e fr)) :
 (grow (putRow enc (Sort.ahead w n) g 0 d) os).heap[g]? = some (.cells (putCells enc 0 d cur) e fr):=by
 have hg:g<w.heap.size:=(Array.getElem?_eq_some_iff.1 hb).1
 rw [heap_grow_old _ _ (by simpa using hg)]
 simp [putRow,mapBlock,Sort.ahead,Array.getElem?_modify,hb,onCells]
theorem jF {w:World} {g n:Nat} {os:Array Obj} (d:Array α):w.grownBy (grow (putRow enc (Sort.ahead w n) g 0 d) os) (some g):=by
 refine ⟨rfl,rfl,rfl,by simp,fun k hk hne=>?_⟩
 rw [heap_grow_old _ _ (by simpa using hk)]
 have:g≠k:=fun e=>hne (by rw [e])
 simp [putRow,mapBlock,Sort.ahead,Array.getElem?_modify,this]
theorem vj (cur:Array Value) (ts us:List α) (h:(ts++us).length≤cur.size):(putCells enc 0 (ts++us).toArray cur).toList.take ts.length=ts.map enc:=by
 apply List.ext_getElem?
 intro j
 rw [List.length_append] at h
 by_cases hj:j<ts.length
 ·rw [List.getElem?_take_of_lt hj,Array.getElem?_toList]
  simp [putCells,hj,show j<cur.size by omega,show j<ts.length+us.length by omega]
 ·rw [List.getElem?_take_eq_none (by omega),List.getElem?_eq_none (by simp;omega)]
theorem tF {w:World} {g cap m n:Nat} {e:TypeId} {os:Array Obj} {cur:Array Value} {ts us:List α} (hm:(ts++us).length=m) (hb:w.heap[g]? = some (.cells cur e (0,0)))
 (h1:m≤cap) (h2:cap≤maxLen) (h3:cur.size=cap * 1) :
 (grow (putRow enc (Sort.ahead w n) g 0 (ts++us).toArray) os).ownsRow 0 e 1 (.slice (some ⟨g,0,none⟩) ts.length cap) ts.length (ts.map enc):=by
 have hle:ts.length≤m:=by rw [← hm,List.length_append];omega
 exact ⟨by simp,.inr ⟨g,cap,_,rfl,Nat.zero_le _,vm enc _ hb,by omega,h2,by simp [putCells,h3],by rw [Nat.mul_one];exact vj enc cur ts us (by omega)⟩⟩
end
structure sV {α:Type} (enc:α→Value) (f:α→D):Prop where
 val:∀w S x cs,Rp w S (f x) cs→cs = [enc x]
 any:∀w w' S S' x cs,Rp w S (f x) cs→Rp w' S' (f x) cs
theorem CZ:sV (Value.int .i64) D.i:=⟨fun _ _ _ _ h=>h.1,fun _ _ _ _ _ _ h=>h⟩
theorem CK:sV _root_.Go.Proofs.encStr (fun l:List UInt8=>D.s ⟨l.toArray⟩):=⟨fun _ _ _ _ h=>h.1,fun _ _ _ _ _ _ h=>h⟩
section
variable {α:Type} [Inhabited α] {enc:α→Value} {fD:α→D} {P:Program} {f:FuncId} {e:TypeId}
theorem Gi (hc:sV enc fD) {F S:BS} {w:World} {v:Value} {xs:List α} (h:(Tk.row 1 e (xs.map fD)).ok (Cx.of F) w v S):(xs = []∧∃a k,v=.slice a 0 k)∨∃g cap cur,v=.slice (some ⟨g,0,none⟩) xs.length cap∧S g∧w.heap[g]? = some (.cells cur e (0,0))∧xs.length≤cap∧cap≤maxLen∧cur.size=cap * 1∧cur.toList.take xs.length=xs.map enc∧∀x∈xs,∀w' S',Rp w' S' (fD x) [enc x]:=by
 rcases h with ⟨hd,a,hv⟩|⟨cells,own,hS,hel⟩
 ·exact .inl ⟨List.map_eq_nil_iff.1 hd,a,0,hv⟩
 have hel:∀j (h:j<xs.length),∃cs,cs.length=1∧Rp w (Cx.of F).F (fD xs[j]) cs∧∀t u,cs[t]? = some u→cells[j * 1+t]? = some u:=fun j h=>by
  obtain ⟨cs,q1,q2,q3⟩:=hel j (by rw [List.length_map];exact h)
  rw [List.getElem_map] at q2
  exact ⟨cs,q1,q2,q3⟩
 rw [List.length_map] at own
 have hcells:cells=xs.map enc:=by
  have hl:=own.1
  rw [Nat.mul_one] at hl
  apply List.ext_getElem (by simp [hl])
  intro j h1 h2
  obtain ⟨cs,q1,q2,q3⟩:=hel j (by simpa using h2)
  have e1:=hc.val _ _ _ _ q2
  subst e1
  have:=q3 0 _ rfl
  rw [Nat.mul_one,Nat.add_zero,List.getElem?_eq_getElem h1] at this
  rw [List.getElem_map];exact Option.some.inj this
 have hall:∀x∈xs,∀w' S',Rp w' S' (fD x) [enc x]:=fun x hx w' S'=>by
  obtain ⟨j,hj,rfl⟩:=List.mem_iff_getElem.1 hx
  obtain ⟨cs,q1,q2,q3⟩:=hel j hj
  have e1:=hc.val _ _ _ _ q2
  subst e1
  exact hc.any _ _ _ _ _ _ q2
 rcases own.2 with ⟨hv,hn⟩|⟨g,cap,cur,hv,_,hg,h5,h6,h7,h8⟩
 ·exact .inl ⟨List.eq_nil_of_length_eq_zero hn,none,0,hv⟩
 ·exact .inr ⟨g,cap,cur,hv,hS g (by rw [hv];rfl),hg,h5,h6,h7,by rw [← hcells,← Nat.mul_one xs.length];exact h8,hall⟩
theorem oh {ys:List α} (hall:∀(w':World) (S':BS),∀y∈ys,Rp w' S' (fD y) [enc y]) {F S:BS} {w':World} {g cap:Nat} (own:w'.ownsRow 0 e 1 (.slice (some ⟨g,0,none⟩) ys.length cap) ys.length (ys.map enc)) (hS:S g):(Tk.row 1 e (ys.map fD)).ok (Cx.of F) w' (.slice (some ⟨g,0,none⟩) ys.length cap) S:=by
 refine .inr ⟨ys.map enc,by rw [List.length_map];exact own,fun k hk=>by cases hk;exact hS,fun j hj=>⟨[enc (ys[j]'(by simpa using hj))],rfl,?_,fun t u ht=>?_⟩⟩
 ·rw [List.getElem_map];exact hall _ _ _ (List.getElem_mem _)
 ·rcases t with _|t
  ·simp at ht hj
   subst ht
   simp [hj]
  ·simp at ht
theorem CU (hc:sV enc fD) {xs ys:List α} (henter:∀args w,(callFunc f args).run P w=.ok (.enter f args) w) (hmem:∀y∈ys,y∈xs) (hlen:ys.length=xs.length) (hno:∀p cap w,Calls P f #[.slice p 0 cap] w fun en w'=>en=.returned (.tuple #[])∧w'=w)
 (hyes:∀g cap w,Go.Sort.Holds enc w g 0 xs.toArray→g<w.heap.size→Calls P f #[.slice (some ⟨g,0,none⟩) xs.length cap] w fun en w'=>en=.returned (.tuple #[])∧∃n os,w'=grow (putRow enc (Sort.ahead w n) g 0 ys.toArray) os):FnS P f 1 e (xs.map fD) [] (ys.map fD):=by
 refine ⟨henter,fun F S w v vs hv hvs hF hS=>?_⟩
 cases (show vs = [] from hvs)
 rcases Gi hc hv with ⟨rfl,a,k,rfl⟩|⟨g,cap,cur,rfl,hSg,hb,h5,h6,h7,h8,hall⟩
 ·have:ys = []:=List.eq_nil_of_length_eq_zero hlen
  subst this
  refine (hno a k w).mono ?_
  rintro en w' ⟨rfl,rfl⟩
  exact ⟨rfl,⟨rfl,rfl,rfl,Nat.le_refl _,fun _ _ _=>rfl⟩,hv⟩
 ·refine (hyes g cap w (n8 enc hb h8) (Array.getElem?_eq_some_iff.1 hb).1).mono ?_
  rintro en w' ⟨rfl,n,os,rfl⟩
  refine ⟨rfl,Chg.grown (jF enc _) (fun k hk=>by cases hk;exact hSg),?_⟩
  have own:=tF enc (n:=n) (os:=os) (ts:=ys) (us:=[]) (m:=xs.length) (by simp [hlen]) hb h5 h6 h7
  rw [List.append_nil] at own
  rw [← hlen]
  exact oh (fun w' S' y hy=>hall y (hmem y hy) w' S') own hSg
theorem CV (hc:sV enc fD) {xs ys us:List α} (henter:∀args w,(callFunc f args).run P w=.ok (.enter f args) w) (hmem:∀y∈ys,y∈xs) (hlen:(ys++us).length=xs.length) (hno:∀p cap w,Calls P f #[.slice p 0 cap] w fun en w'=>en=.returned (.slice p 0 cap)∧w'=w)
 (hyes:∀g cap w,Go.Sort.Holds enc w g 0 xs.toArray→xs.length≤cap→xs.length≤maxLen→Calls P f #[.slice (some ⟨g,0,none⟩) xs.length cap] w fun en w'=>en=.returned (.slice (some ⟨g,0,none⟩) ys.length cap)∧∃q,w'=putRow enc (Sort.ahead w q) g 0 (ys++us).toArray):FnC P f 1 e (xs.map fD) [] (ys.map fD):=by
 refine ⟨henter,fun F S w v vs hv hvs hF hS=>?_⟩
 cases (show vs = [] from hvs)
 rcases Gi hc hv with ⟨rfl,a,k,rfl⟩|⟨g,cap,cur,rfl,hSg,hb,h5,h6,h7,h8,hall⟩
 ·have:ys = []:=by
   have:=List.eq_nil_of_length_eq_zero hlen
   exact (List.append_eq_nil_iff.1 this).1
  subst this
  refine (hno a k w).mono ?_
  rintro en w' ⟨rfl,rfl⟩
  exact ⟨_,rfl,⟨rfl,rfl,rfl,Nat.le_refl _,fun _ _ _=>rfl⟩,hv⟩
 ·refine (hyes g cap w (n8 enc hb h8) h5 (Nat.le_trans h5 h6)).mono ?_
  rintro en w' ⟨rfl,q,rfl⟩
  have hg0:putRow enc (Sort.ahead w q) g 0 (ys++us).toArray=grow (putRow enc (Sort.ahead w q) g 0 (ys++us).toArray) #[]:=by unfold grow;rw [Array.append_empty]
  rw [hg0]
  exact ⟨_,rfl,Chg.grown (jF enc _) (fun k hk=>by cases hk;exact hSg),oh (fun w' S' y hy=>hall y (hmem y hy) w' S') (tF enc hlen hb h5 h6 h7) hSg⟩
end
theorem D3 (t id e:Nat) {W0:cE} {N:Nat} {σ:Env} {Q:Exit→Act→World→Prop} {x:Exit} {z:Nat} (h:At W0 N ((t,.sy (.k id)) :: (id,.tk (.row z e [])) :: σ) x Q) (ht:am σ t=some (.sy (.d (.n z))):=by rfl) (hf:am σ id=none:=by rfl) (hne:Nat.beq id t=false:=by rfl):At W0 N σ x Q:=fun a w hh=>h a w (hh.nilS ht hf hne)
end Go.Proofs.YtacafmejcdgboaaGreatDoor
namespace Go.Proofs.YtacafmejcdgboaaGreatDoor
open Go.RowKit
set_option linter.unusedVariables false
set_option linter.unusedSimpArgs false
section
variable {P:Program} {ops:Array Oper} {W0:cE} {N:Nat} {Fin:Us→Env→Prop} {os:List Oper} {us:Us} {pk fk:List Nat} {σ:Env} {g:Option (Nat × Bool)} {gk:List Nat} {d ty ty' ty2:Nat} {pos:String} {after:Array Edge}
theorem yk {ρ:Operand→Value} {w:World} {dd:Option Nat} {x y:Operand} {m n:Int} (hb : -1000000≤m+n∧m+n≤1000000) (h1:ρ x=.int .i32 m) (h2:ρ y=.int .i32 n):(execOp ρ ⟨dd,.binOp .add ty' x y ty2,ty,pos,after,g⟩).run P w=.ok (.value (.int .i32 (m+n))) w:=by
 have hw:IntKind.i32.wrap (m+n)=m+n:=by
  simp only [IntKind.wrap,IntKind.signed,IntKind.bits]
  simp
  omega
 simp only [execOp,h1,h2]
 exact congrArg (fun q=>Result.ok (Next.value (.int .i32 q)) w) hw
theorem bd {x y:Operand} {m n:Int} (h:Der P ops W0 N Fin os (us++[((d :: (gk++(kx x++kx y)))++pk,([d])++fk)]) [] [] ((d,.sy (.v (.int .i32 (m+n)))) :: σ)) (hx:ev σ x=some (.v (.int .i32 m)):=by rfl) (hy:ev σ y=some (.v (.int .i32 n)):=by rfl) (hb : -1000000≤m+n∧m+n≤1000000:=by omega) (hg:gst ops σ g=some (true,gk):=by rfl) (hN:Nat.blt d N=true:=by rfl) (hs:aI σ d=true:=by rfl):Der P ops W0 N Fin (⟨some d,.binOp .add ty' x y ty2,ty,pos,after,g⟩ :: os) us pk fk σ:=
 cC (.v (.int .i32 (m+n))) (kx x++kx y) (fun σ' c a w hk hc=>by
  have h1:a.eval x=.int .i32 m:=aq hc (af hx (fun κ hκ=>hk κ (by simp [hκ])))
  have h2:a.eval y=.int .i32 n:=aq hc (af hy (fun κ hκ=>hk κ (by simp [hκ])))
  exact ⟨_,yk hb h1 h2,rfl⟩) h hg hN hs
theorem Cd {ρ:Operand→Value} {w:World} {dd:Option Nat} {s t:Nat} {x:Operand} {n:Int} (hu:P.underlying s=some (.int .i32)) (ht:P.underlying t=some .string) (h1:ρ x=.int .i32 n):(execOp ρ ⟨dd,.convert s t x,ty,pos,after,g⟩).run P w=.ok (.value (.string (Utf8.encode n))) w:=by
 simp only [execOp,h1]
 unfold convert
 simp [run_underlying hu,run_underlying ht,Conv.intToString,go_sem]
theorem Gk {s t:Nat} {x:Operand} {n:Int} {b:ByteArray} (hb:Utf8.encode n=b) (hl:b.size≤maxLen) (h:Der P ops W0 N Fin os (us++[((d :: (gk++kx x))++pk,([d])++fk)]) [] [] ((d,.sy (.d (.s b))) :: σ)) (hx:ev σ x=some (.v (.int .i32 n)):=by rfl) (hu:P.underlying s=some (.int .i32):=by rfl) (ht:P.underlying t=some .string:=by rfl) (hg:gst ops σ g=some (true,gk):=by rfl) (hN:Nat.blt d N=true:=by rfl) (hs:aI σ d=true:=by rfl):Der P ops W0 N Fin (⟨some d,.convert s t x,ty,pos,after,g⟩ :: os) us pk fk σ:=
 cC (.d (.s b)) (kx x) (fun σ' c a w hk hc=>by
  have h1:a.eval x=.int .i32 n:=aq hc (af hx hk)
  exact ⟨_,Cd hu ht h1,by rw [hb];exact ⟨rfl,hl⟩⟩) h hg hN hs
end
end Go.Proofs.YtacafmejcdgboaaGreatDoor
namespace Go.Proofs.YtacafmejcdgboaaGreatDoor
open Go.RowKit
set_option linter.unusedVariables false
set_option linter.unusedSimpArgs false
theorem yg {σ:Env} {κ n e:Nat} {ds ds':List D} {ps:List (Nat × Value)} (h:am σ κ=some (.tk (.deep n e ds ps))) (he:ds=ds'):am σ κ=some (.tk (.deep n e ds' ps)):=he ▸ h
def A8:List Nat→List Sy→List Sy
 | [],_=>[]
 | 0 :: sh,ss=>ss.take 1++A8 sh (ss.drop 1)
 | (n+1) :: sh,ss=>.ag (ss.take (n+1)) :: A8 sh (ss.drop (n+1))
def mM:List Nat→List Value→List Value
 | [],_=>[]
 | 0 :: sh,vs=>vs.take 1++mM sh (vs.drop 1)
 | (n+1) :: sh,vs=>.agg (vs.take (n+1)).toArray :: mM sh (vs.drop (n+1))
def Dj:List Sy→Sy
 | [s]=>s
 | ss=>.tp ss
def DH:List Value→Value
 | [v]=>v
 | vs=>.tuple vs.toArray
theorem yQ {c:Cx} {w:World}:∀(sh:List Nat) (ss:List Sy) (vs:List Value),Sy.oks c w ss vs→Sy.oks c w (A8 sh ss) (mM sh vs):=by
 intro sh
 induction sh with
 | nil=>intro ss vs _;exact rfl
 | cons n sh ih=>
  intro ss vs h
  cases n with
  | zero=>exact nO _ _ _ _ (mQ 1 _ _ h) (ih _ _ (mX 1 _ _ h))
  | succ n=>exact ⟨_,_,rfl,⟨_,rfl,mQ (n+1) _ _ h⟩,ih _ _ (mX (n+1) _ _ h)⟩
theorem un {c:Cx} {w:World}:∀(ss:List Sy) (vs:List Value),Sy.oks c w ss vs→(Dj ss).ok c w (DH vs):=by
 intro ss vs h
 cases ss with
 | nil=>rw [show vs = [] from h];exact ⟨[],rfl,rfl⟩
 | cons s ss=>
  obtain ⟨y,t,rfl,h1,h2⟩:=h
  cases ss with
  | nil=>rw [show t = [] from h2];exact h1
  | cons s' ss=>
   obtain ⟨y',t',rfl,h3,h4⟩:=h2
   exact ⟨_,rfl,y,_,rfl,h1,y',t',rfl,h3,h4⟩
def DB (W0:rO) (sh:List Nat) (ps:List Pt):Ending→World→Prop:=fun e w'=>∃(us:List Value) (T:Nat→BS),e=.returned (DH (mM sh us))∧Ext W0.w w'∧us.length=ps.length∧(∀i b,T i b→W0.w.heap.size≤b∧b<w'.heap.size)∧(∀i j,i≠j→∀b,T i b→¬T j b) ∧
 ∀(i:Nat) (p:Pt),ps[i]? = some p→∃u,us[i]? = some u∧p.ok w' (fun b=>fresh W0.w w' W0.F b∧∀j,¬T j b) (T i) u
structure FnO (P:Program) (f:FuncId) (ds:List D) (sh:List Nat) (ps:List Pt):Prop where
 enter:∀args w,(callFunc f args).run P w=.ok (.enter f args) w
 calls:∀(F:BS) (w:World) (vs:List Value),DVs w F ds vs→(∀b,F b→b<w.heap.size)→Calls P f vs.toArray w (DB ⟨w,F⟩ sh ps)
section
variable {P:Program} {ops:Array Oper} {W0:cE} {N:Nat} {Fin:Us→Env→Prop} {os:List Oper} {us:Us} {pk fk:List Nat} {σ:Env} {g:Option (Nat × Bool)} {gk:List Nat} {d ty ty' f:Nat} {pos:String} {after:Array Edge} {at':Array TypeId} {xs:List Operand} {ds:List D}
theorem bj {sh:List Nat} {ps:List Pt} (h:Der P ops W0 N Fin os (us++[((d :: (gk++(((List.range ps.length).map fun k=>30000+1000 * k+d)++kxs xs)))++pk,(d :: (mJ d 0 ps).map Prod.fst)++fk)]) [] [] ((d,.sy (Dj (A8 sh (Cc d 0 ps)))) :: (mJ d 0 ps++σ))) (hx:evs σ xs=some ds:=by rfl) (hf:FnO P f ds sh ps:=by assumption) (hi:((List.range ps.length).all fun k=>(am σ (30000+1000 * k+d)).isNone)=true:=by rfl) (hg:gst ops σ g=some (true,gk):=by rfl) (hN:Nat.blt d N=true:=by rfl) (hs:aI (mJ d 0 ps++σ) d=true:=by rfl) (hu:(mJ d 0 ps).all (fun p=>!(Nat.beq p.1 d))=true:=by rfl):Der P ops W0 N Fin (⟨some d,.call { callee:=.value (.func f),args:=xs.toArray,argTypes:=at' },ty,pos,after,g⟩ :: os) us pk fk σ:=
 ko (Dj (A8 sh (Cc d 0 ps))) (((List.range ps.length).map fun k=>30000+1000 * k+d)++kxs xs) (mJ d 0 ps) (fun σ' c a w hk hc=>by
  unfold Oper.wp
  rw [cB hf.enter rfl]
  refine (hf.calls c.F w _ (iz hc xs ds hx (fun κ hκ=>hk κ (by simp [hκ]))) hc.lt).mono ?_
  rintro e' w' ⟨vs,T,rfl,hX,hl,hT,hdis,hel⟩
  have hc1:=hc.grow hX (fun b=>fresh w w' c.F b∧∀j,¬T j b) (fun b hb=>⟨.inl hb,fun j e=>by have:=hc.lt b hb;have e2:w.heap.size≤b:=(hT j b e).1;omega⟩) (fun _ h=>h.1.imp id (fun h=>h.1)) (fun b hb=>hb.1.elim (fun h'=>Nat.lt_of_lt_of_le (hc.lt b h') (Below.size hX)) (fun h=>h.2))
  obtain ⟨c',h1,h2,h3,h4,h5⟩:=ot hc1 d w.heap.size T hc.ext.size (fun j u hj b hb=>((hc.tok j u hj).2.2 b hb).2.1) (fun i b hb=>⟨fun hF=>hF.2 i hb,hT i b hb⟩) hdis ps 0 vs (fun k=>by
   rcases Nat.lt_or_ge k ps.length with hk'|hk'
   ·left
    rw [Nat.zero_add,hk _ (List.mem_append_left _ (List.mem_map.2 ⟨k,List.mem_range.2 hk',rfl⟩))]
    have:=List.all_eq_true.1 hi k (List.mem_range.2 hk')
    simpa using this
   ·exact .inr hk') hl (fun k p hp=>by rw [Nat.zero_add];exact hel k p hp)
  exact ⟨_,c',rfl,h1,un _ _ (yQ sh _ _ h5)⟩) h hg hN hs hu
theorem az {x y:Operand} {i j o z e:Nat} {ds:List D} {ps:List (Nat × Value)} {cs:List Sy} (h:Der P ops W0 N Fin os (us++[((gk++(i :: ([j]++(kx x++kx y))))++pk,([i])++fk)]) [] [] ((i,.tk (.bx (cs.set o (.k j)))) :: σ)) (hx:ev σ x=some (.bx i o):=by rfl) (hi:am σ i=some (.tk (.bx cs)):=by rfl) (hy:ev σ y=some (.k j):=by rfl) (hj:am σ j=some (.tk (.deep z e ds ps)):=by rfl) (ho:Nat.blt o cs.length=true:=by rfl) (hz:sizeOf? P ty'=some 1:=by rfl) (hg:gst ops σ g=some (true,gk):=by rfl):Der P ops W0 N Fin (⟨none,.store ty' x y,ty,pos,after,g⟩ :: os) us pk fk σ:=
 kQ (i :: ([j]++(kx x++kx y))) [(i,.tk (.bx (cs.set o (.k j))))] (fun σ' c a w hk hc=>by
  obtain ⟨hAi,b,e1,e2⟩:=aq hc (af hx (fun κ hκ=>hk κ (by simp [hκ])))
  have hi':=(hk i (by simp)).trans hi
  obtain ⟨_,⟨b',vs,e3,e4,e5,e6⟩,hlt⟩:=hc.tok i _ hi'
  rw [e1] at e3;cases e3
  have hv:=aq hc (af hy (fun κ hκ=>hk κ (by simp [hκ])))
  have hone:(a.eval y).oneCell'=true:=nr hc hv (by unfold sp;dsimp only;rw [(hk j (by simp)).trans hj])
  have hol:o<vs.length:=by rw [dC _ _ e5];exact Nat.blt_eq.mp ho
  obtain ⟨q4,q5⟩:=e6 o _ (List.getElem?_eq_getElem hol)
  unfold Oper.wp
  rw [fL hz hone q4 q5 e2 rfl]
  have hch:Chg (c.T i) w (w.setCell ⟨b,o,none⟩ (a.eval y)):=Chg.grown (bF b o _) (fun g hg=>by cases hg;exact e4)
  refine ⟨rfl,c,hc.upd hi' hch (by simp) (fun hag=>⟨b,vs.set o (a.eval y),e1,e4,?_,e6.set o _⟩)⟩
  exact jv _ _ _ _ _ (Sy.keeps (Cx.Le.refl c) hag _ _ e5) (Sy.keep (Cx.Le.refl c) hag _ _ hv)) h hg
end
theorem Hm (t:Nat) {P:Program} {ops:Array Oper} {W0:cE} {N:Nat} {Fin:Us→Env→Prop} {os:List Oper} {us:Us} {pk fk:List Nat} {σ:Env} {o:Oper} {i:Nat} {cs:List Sy} (h:Der P ops W0 N Fin (o :: os) us (([t,i]++jk cs)++pk) ([t,i]++fk) ((t,.sy (.atS 0 cs)) :: (i,.no) :: σ)) (hx:am σ t=some (.sy (.bx i 0)):=by rfl) (hi:am σ i=some (.tk (.bx cs)):=by rfl) (ho:cs.all (sp σ)=true:=by rfl) (hu:Nat.beq i t=false:=by rfl):Der P ops W0 N Fin (o :: os) us pk fk σ:=by
 obtain ⟨keys,upd,h1,h2⟩:=h
 refine ⟨keys++([t,i]++jk cs),upd++[(t,.sy (.atS 0 cs)),(i,.no)],fun σ' a w hk hh=>?_,?_⟩
 ·have h3:=Holds.fzS ((hk t (by simp)).trans hx) ((hk i (by simp)).trans hi) ((iB (fun κ hκ=>hk κ (by simp [hκ]))).trans ho) hu hh
  have h4:=h1 _ a w (fun κ hκ=>?_) h3
  ·rw [List.append_assoc];exact h4
  ·rw [aa,aa,aa,aa,hk κ (by simp [hκ])]
 ·simp only [List.append_assoc,List.map_append] at h2 ⊢
  exact h2
inductive uv (σ:Env):Sy→Pt→Prop
 | d {r:D}:isT r=false→uv σ (.d r) (.d r)
 | k {i:Nat} {t:Tk}:am σ i=some (.tk t)→t.rowB=true→uv σ (.k i) (.tk t)
 | n {z z' e:Nat}:uv σ (.d (.n z)) (.tk (.row z' e []))
 | m {z z' e:Nat}:uv σ (.d (.n z)) (.tk (.deep z' e [] []))
 | o {z z':Nat}:uv σ (.d (.n z)) (.tk (.own (.l z' []) none none))
inductive pm (σ:Env):List Sy→List Pt→Prop
 | nil:pm σ [] []
 | cons {s:Sy} {p:Pt} {ss:List Sy} {ps:List Pt}:uv σ s p→pm σ ss ps→pm σ (s :: ss) (p :: ps)
theorem pm.at {σ:Env} {ss:List Sy} {ps:List Pt} (h:pm σ ss ps):ss.length=ps.length∧∀(k:Nat) (p:Pt),ps[k]? = some p→∃s,ss[k]? = some s∧uv σ s p:=by
 induction h with
 | nil=>exact ⟨rfl,fun k p h=>by simp at h⟩
 | cons h1 _ ih=>
  refine ⟨by simp [ih.1],fun k p hk=>?_⟩
  cases k with
  | zero=>simp at hk;subst hk;exact ⟨_,rfl,h1⟩
  | succ k=>exact ih.2 k p (by simpa using hk)
def isK (j:Nat):Sy→Bool
 | .k i=>Nat.beq i j
 | _=>false
def DJ:List Sy→Bool
 | []=>true
 | .k i :: q=>q.all (fun s=>!isK i s) && DJ q
 | _ :: q=>DJ q
theorem yz {s:Sy} {q:List Sy} (h:DJ (s :: q)=true):DJ q=true:=by
 cases s with
 | k i=>exact (Bool.and_eq_true _ _ ▸ h:_∧_).2
 | _=>exact h
theorem pG:∀(q:List Sy) (k l i j:Nat),DJ q=true→k<l→q[k]? = some (.k i)→q[l]? = some (.k j)→i≠j:=by
 intro q
 induction q with
 | nil=>intro k l i j _ _ h;simp at h
 | cons s q ih=>
  intro k l i j hq hkl hk hl
  cases l with
  | zero=>omega
  | succ l=>
   rw [List.getElem?_cons_succ] at hl
   cases k with
   | zero=>
    simp at hk
    subst hk
    have h1:q.all (fun s=>!isK i s)=true:=(Bool.and_eq_true _ _ ▸ hq:_∧_).1
    have:=List.all_eq_true.1 h1 _ (List.mem_of_getElem? hl)
    intro e
    subst e
    simp [isK] at this
   | succ k=>exact ih k l i j (yz hq) (by omega) (by simpa using hk) hl
def D5 (P:Program) (σ:Env):List ResultVar→Option (List Nat × List Sy)
 | []=>some ([],[])
 | .tmp t :: rs=>match ev σ (.tmp t),D5 P σ rs with
  | some (.d r),some (sh,q)=>some (0 :: sh,.d r :: q)
  | some (.k i),some (sh,q)=>some (0 :: sh,.k i :: q)
  | _,_=>none
 | .cell t ty :: rs=>match ev σ (.tmp t),isAgg? P ty,D5 P σ rs with
  | some (.bx i 0),some true,some (sh,q)=>match am σ i with
   | some (.tk (.bx cs))=>match sizeOf? P ty with
    | some (z+1)=>match Nat.beq (z+1) cs.length with|true=>some ((z+1) :: sh,cs++q)|false=>none
    | _=>none
   | _=>none
  | _,_,_=>none
theorem CC {P:Program} {W0:cE} {N:Nat} {a:Act} {w:World} {c:Cx} {σ:Env} (h:aF W0 N σ a w c):∀(rs:List ResultVar) (sh:List Nat) (q:List Sy),D5 P σ rs=some (sh,q)→∃us:List Value,(rs.mapM (m:=Sem) (rvF a.tmps)).run P w=.ok (mM sh us) w∧Sy.oks c w q us:=by
 intro rs
 induction rs with
 | nil=>intro sh q he;cases he;exact ⟨[],by simp [go_sem,mM],rfl⟩
 | cons r rs ih=>
  intro sh q he
  cases r with
  | tmp t=>
   have key:∀s sh' q',ev σ (.tmp t)=some s→D5 P σ rs=some (sh',q')→∃us:List Value,((ResultVar.tmp t :: rs).mapM (m:=Sem) (rvF a.tmps)).run P w=.ok (mM (0 :: sh') us) w∧Sy.oks c w (s :: q') us:=fun s sh' q' h1 h2=>by
    obtain ⟨us,h3,h4⟩:=ih sh' q' h2
    refine ⟨_ :: us,?_,_,us,rfl,aq h h1,h4⟩
    rw [List.mapM_cons]
    simp only [Sem.run_bind,Sem.run_pure,Result.andThen_ok,h3,rvF]
    rfl
   unfold D5 at he
   split at he
   ·rename_i h1 h2;cases he;exact key _ _ _ h1 h2
   ·rename_i h1 h2;cases he;exact key _ _ _ h1 h2
   ·cases he
  | cell t ty=>
   unfold D5 at he
   split at he
   ·rename_i i sh' q' h1 hA h2
    split at he
    ·rename_i cs hcs
     split at he
     ·rename_i z hz
      split at he
      ·rename_i hb
       cases he
       obtain ⟨us',h3,h4⟩:=ih _ _ h2
       obtain ⟨_,b,e1,e2⟩:=aq h h1
       obtain ⟨_,⟨b',us,e3,e4,e5,e6⟩,_⟩:=h.tok i _ hcs
       rw [e1] at e3;cases e3
       have hlen:us.length=z+1:=(dC _ _ e5).trans (Nat.eq_of_beq_eq_true hb).symm
       refine ⟨us++us',?_,nO _ _ _ _ e5 h4⟩
       have hld:=eU (P:=P) (ty:=ty) (b:=b) (off:=0) (w:=w) hA (by rw [hz,hlen]) (fun j u hj=>by rw [Nat.zero_add];exact (e6 j u hj).1)
       have hld':(loadVar ty ⟨b,0,none⟩).run P w=.ok (.agg us.toArray) w:=by
        unfold Instr.loadAt at hld
        simpa [Instr.sureAddr] using hld
       have ht:a.tmps.getD t undef=.pointer (some ⟨b,0,none⟩):=e2
       rw [List.mapM_cons]
       have hadr:(asAddr (.pointer (some ⟨b,0,none⟩))).run P w=.ok ⟨b,0,none⟩ w:=rfl
       simp only [Sem.run_bind,Sem.run_pure,Result.andThen_ok,ht,hadr,hld',h3,rvF,mM]
       rw [List.take_append_of_le_length (by omega),List.drop_append_of_le_length (by omega),List.take_of_length_le (by omega),List.drop_of_length_le (by omega)]
       rfl
      ·cases he
     ·cases he
    ·cases he
   ·cases he
def tOf (c:Cx):Option Sy→BS
 | some (.k i)=>c.T i
 | _=>fun _=>False
section
variable {P:Program} {W0:rO} {N:Nat} {σ:Env} {fn:Func} {rs:List ResultVar}
theorem gK {sh:List Nat} {q:List Sy} {ps:List Pt} (hr:fn.results=rs.toArray:=by rfl) (hd:D5 P σ rs=some (sh,q):=by rfl) (hp:pm σ q ps) (hk:DJ q=true:=by rfl) (hl:Nat.beq sh.length rs.length=true:=by rfl):At W0.toB N σ .ret (bodyPost P fn (DB W0 sh ps)):=fun a w hh=>by
 obtain ⟨c,h⟩:=hh
 obtain ⟨us,h1,h2⟩:=CC h rs _ _ hd
 obtain ⟨hq,hat⟩:=hp.at
 have htok:∀(k i:Nat),q[k]? = some (.k i)→∃t,am σ i=some (.tk t):=fun k i hki=>by
  obtain ⟨p,hpk⟩:∃p,ps[k]? = some p:=by
   have:k<ps.length:=by rw [← hq];exact (List.getElem?_eq_some_iff.1 hki).1
   exact ⟨_,List.getElem?_eq_getElem this⟩
  obtain ⟨s,e1,e2⟩:=hat k p hpk
  rw [hki] at e1;cases e1
  cases e2 with
  | k e _=>exact ⟨_,e⟩
 have hT:∀(k b:Nat),tOf c q[k]? b→∃i t,q[k]? = some (.k i)∧am σ i=some (.tk t)∧c.T i b:=fun k b hb=>by
  cases e:q[k]? with
  | none=>rw [e] at hb;exact hb.elim
  | some s=>
   rw [e] at hb
   cases s with
   | k i=>obtain ⟨t,ht⟩:=htok k i e;exact ⟨i,t,rfl,ht,hb⟩
   | _=>exact hb.elim
 refine bodyPost_ret (v:=DH (mM sh us)) ?_ h.defers ⟨us,fun k=>tOf c q[k]?,rfl,h.ext.toExt,?_,fun k b hb=>?_,fun k l hne b hb hb'=>?_,fun k p hpk=>?_⟩
 ·rw [iD,hr,Array.mapM_eq_mapM_toList,show rs.toArray.toList=rs from rfl]
  simp only [Sem.run_bind,Sem.run_map,h1]
  cases mM sh us with
  | nil=>simp [Result.andThen,DH,go_sem]
  | cons v t=>
   cases t with
   | nil=>simp [Result.andThen,DH,go_sem]
   | cons v' t=>simp [Result.andThen,DH,go_sem]
 ·rw [dC _ _ h2,hq]
 ·obtain ⟨i,t,_,ht,hi⟩:=hT k b hb
  have:=(h.tok i t ht).2.2 b hi
  exact ⟨this.2.2.elim False.elim _root_.id,this.2.1⟩
 ·obtain ⟨i,t,e1,ht,hi⟩:=hT k b hb
  obtain ⟨j,u,e2,hu,hj⟩:=hT l b hb'
  refine h.off i j t u ht hu ?_ b hi hj
  rcases Nat.lt_or_gt_of_ne hne with hlt|hlt
  ·exact pG q k l i j hk hlt e1 e2
  ·exact (pG q l k j i hk hlt e2 e1).symm
 ·obtain ⟨s,e1,e2⟩:=hat k p hpk
  obtain ⟨v,e3,e4⟩:=oZ _ _ k s h2 e1
  refine ⟨v,e3,?_⟩
  have hG:∀b,c.F b→fresh W0.w w W0.F b∧∀j,¬tOf c q[j]? b:=fun b hb=>⟨(h.old b hb).imp _root_.id (fun h'=>⟨h'.elim False.elim _root_.id,h.lt b hb⟩),fun j hj=>by
   obtain ⟨i,t,_,ht,hi⟩:=hT j b hj
   exact ((h.tok i t ht).2.2 b hi).1 hb⟩
  cases e2 with
  | d hr=>exact ⟨hr,DV.keep hG (fun _ _ _=>rfl) e4⟩
  | k hi hb=>
   refine ⟨hb,?_⟩
   obtain ⟨_,e5⟩:=e4
   rw [e5]
   rename_i i0 t0 _
   have hS:tOf c q[k]? = c.T i0:=by rw [e1];rfl
   show Tk.ok _ w _ _ (tOf c q[k]?)
   rw [hS]
   exact Tk.cx hb hG (h.tok _ _ hi).2.1
  | n=>obtain ⟨a0,ha⟩:=e4;exact ⟨rfl,.inl ⟨rfl,a0,(List.cons.inj ha).1⟩⟩
  | m=>obtain ⟨a0,ha⟩:=e4;exact ⟨rfl,.inl ⟨rfl,rfl,a0,(List.cons.inj ha).1⟩⟩
  | o=>obtain ⟨a0,ha⟩:=e4;exact ⟨rfl,⟨a0,0,ha,Nat.le_refl _,by decide,fun _=>rfl,.inl rfl⟩,fun p hp=>(by cases hp),fun p hp=>(by cases hp)⟩
end
theorem dp {P : Program} {f : FuncId} {ds : List D} {sh : List Nat} {ps : List Pt} {fn : Func} {c : Code} {N : Nat} (hf : P.funcs[f]? = some fn) (h : WfL ds → ∀ W0 : rO, aD P W0.toB N c (C8 0 ds) (bodyPost P fn (DB W0 sh ps))) (hb : fn.body = some c := by rfl) (hN : fn.ntmps = N := by rfl) (hl : Nat.ble ds.length N = true := by rfl) (hnm : (fn.name == "runtime.NumGoroutine") = false := by kernel_rfl) : FnO P f ds sh ps := by
 refine ⟨fun args w=>?_,fun F w vs hv hF=>?_⟩
 ·unfold callFunc
  simp only [Sem.run_bind,show (program).run P w=.ok P w from rfl,Result.andThen_ok,hf,hnm,hb]
  rfl
 ·obtain ⟨h1,h2⟩:=sf ds vs hv
  refine calls_of_wp hf hb (h (DVs.wf ds vs hv) ⟨w,F⟩ _ w ⟨⟨F,fun _=>undef,fun _ _=>False,fun _=>False⟩,⟨rfl,rfl,rfl,Nat.le_refl _,fun _ _ _=>rfl⟩,fun b hb=>.inl hb,hF,?_,rfl,fun i hi=>hi.elim,fun i t ht=>?_,fun i j t u hi=>?_,fun t s ht=>?_⟩)
  ·have:=Nat.le_of_ble_eq_true hl
   simp [h1,hN];omega
  ·obtain ⟨r',e,_⟩:=gF _ _ _ _ ht;cases e
  ·obtain ⟨r',e,_⟩:=gF _ _ _ _ hi;cases e
  ·obtain ⟨r',e,h3,h4⟩:=gF _ _ _ _ ht
   cases e
   obtain ⟨v,h5,h6⟩:=h2 _ _ h4
   rw [Nat.sub_zero] at h5
   refine ⟨v,?_,yK (by exact h6)⟩
   have hlt:t<vs.length:=by
    rcases Nat.lt_or_ge t vs.length with h|h
    ·exact h
    ·rw [List.getElem?_eq_none h] at h5;cases h5
   show (vs.toArray++Array.replicate (fn.ntmps - vs.toArray.size) undef)[t]? = some v
   rw [Array.getElem?_append_left (by simpa using hlt)]
   simpa using h5
end Go.Proofs.YtacafmejcdgboaaGreatDoor
namespace Go.Proofs.YtacafmejcdgboaaGreatDoor
open Go.RowKit
set_option linter.unusedVariables false
set_option linter.unusedSimpArgs false
def mV:List (Int × Int)→Int→Option Int
 | [],_=>none
 | p :: m,n=>if n=p.1 then some p.2 else mV m n
theorem yP (kd:IntKind) (k:Int):∀(es:List MapEntry) (m:List (Int × Int)) (i:Nat),es.map (fun e=>(e.key,e.val))=m.map (fun p=>(Value.int .i64 p.1,Value.int .i64 p.2))→∃r,Instr.findNow (.int kd) (.int .i64 k) es i=some r∧r.map Prod.snd=(mV m k).map (Value.int .i64):=by
 intro es
 induction es with
 | nil=>
  intro m i h
  cases m with
  | nil=>exact ⟨none,rfl,rfl⟩
  | cons p m=>simp at h
 | cons e es ih=>
  intro m i h
  cases m with
  | nil=>simp at h
  | cons p m=>
   simp only [List.map_cons,List.cons.injEq,Prod.mk.injEq] at h
   obtain ⟨⟨h1,h2⟩,h3⟩:=h
   unfold Instr.findNow mV
   rw [h1]
   by_cases hk:k=p.1
   ·rw [if_pos hk]
    exact ⟨some (i,e.val),by simp [Instr.sameNow,hk],by simp [h2]⟩
   ·rw [if_neg hk]
    obtain ⟨r,h4,h5⟩:=ih m (i+1) h3
    have hb:(k == p.1)=false:=by simp [hk]
    exact ⟨r,by simp only [Instr.sameNow,if_pos,hb];simp [h4],h5⟩
def map? (P:Program) (ty:Nat):Option (Nat × Nat):=match P.underlying ty with|some (.map k e)=>some (k,e)|_=>none
def int? (P:Program) (ty:Nat):Option IntKind:=match P.underlying ty with|some (.int k)=>some k|_=>none
theorem CN {P:Program} {ty k e:Nat} (h:map? P ty=some (k,e)):P.underlying ty=some (.map k e):=by
 unfold map? at h;split at h
 ·rename_i h1;cases h;exact h1
 ·cases h
theorem uH {P:Program} {ty:Nat} {k:IntKind} (h:int? P ty=some k):P.underlying ty=some (.int k):=by
 unfold int? at h;split at h
 ·rename_i h1;cases h;exact h1
 ·cases h
theorem yD {P:Program} {w:World} {ty kt et b:Nat} {m:List (Int × Int)} {n:Int} (ht:map? P ty=some (kt,et)) (hk:int? P kt=some .i64) (hz:rc P et=some (.int .i64 0)) (hm:Ey w b m):(Instr.lookup ty (.map (some b)) (.int .i64 n) true).run P w=.ok (.tuple #[.int .i64 ((mV m n).getD 0),.bool (mV m n).isSome]) w:=by
 obtain ⟨es,clock,h1,h2⟩:=hm
 obtain ⟨r,h3,h4⟩:=yP .i64 n es.toList m 0 h2
 have hzr:(zeroValue et).run P w=.ok (.int .i64 0) w:=by
  unfold rc at hz
  rw [Option.bind_eq_some_iff] at hz
  obtain ⟨i,hi,hz⟩:=hz
  simp [zeroValue,typeInfo,hi,hz,Sem.run_bind,Result.andThen]
 have hc:∀e,(Instr.checkKey e 10000 kt (.int .i64 n)).run P w=.ok () w:=fun e=>_root_.Go.MapKept.run_checkKey (uH hk) (by exact rfl) e 9999
 unfold Instr.lookup
 simp only [Sem.run_bind,run_underlying (CN ht),Result.andThen_ok,_root_.Go.MapKept.run_getObj_map h1,Sem.run_pure,hc,_root_.Go.MapKept.run_findKey (uH hk) h3]
 cases r with
 | none=>
  have:mV m n=none:=by cases hg:mV m n with|none=>rfl|some v=>rw [hg] at h4;simp at h4
  rw [this]
  simp [hzr,Result.andThen]
 | some q=>
  obtain ⟨i,v⟩:=q
  cases hg:mV m n with
  | none=>rw [hg] at h4;simp at h4
  | some x=>
   rw [hg] at h4
   simp at h4
   simp [h4,Result.andThen]
theorem Cu {P:Program} {w:World} {ty kt et b:Nat} {m:List (Int × Int)} {n v:Int} (ht:map? P ty=some (kt,et)) (hk:int? P kt=some .i64) (hm:Ey w b m) (hn:mV m n=none):∃w',(Instr.mapUpdate ty (.map (some b)) (.int .i64 n) (.int .i64 v)).run P w=.ok () w'∧w.grownBy w' (some b)∧w'.heap.size=w.heap.size∧Ey w' b (m++[(n,v)]):=by
 obtain ⟨es,clock,h1,h2⟩:=hm
 obtain ⟨r,h3,h4⟩:=yP .i64 n es.toList m 0 h2
 rw [hn] at h4
 have hr:r=none:=by cases r with|none=>rfl|some q=>simp at h4
 subst hr
 have hc:(Instr.checkKey false 10000 kt (.int .i64 n)).run P w=.ok () w:=_root_.Go.MapKept.run_checkKey (uH hk) (by exact rfl) false 9999
 refine ⟨{ w with heap:=w.heap.setIfInBounds b (.map (es.push { key:=.int .i64 n,val:=.int .i64 v,born:=clock }) (clock+1)) },?_,⟨rfl,rfl,rfl,by simp,fun k hk hne=>?_⟩,by simp,?_⟩
 ·unfold Instr.mapUpdate
  simp only [Sem.run_bind,run_underlying (CN ht),Result.andThen_ok,_root_.Go.MapKept.run_getObj_map h1,hc,_root_.Go.MapKept.run_findKey (uH hk) h3,_root_.Go.MapKept.run_setObj_map _ h1]
 ·exact (_root_.Go.MapKept.heap_set h1).2 k (fun e=>hne (by rw [e]))
 ·exact ⟨_,_,(_root_.Go.MapKept.heap_set h1).1,by simp [h2]⟩
section
variable {P:Program} {ops:Array Oper} {W0:cE} {N:Nat} {Fin:Us→Env→Prop} {os:List Oper} {us:Us} {pk fk:List Nat} {σ:Env} {g:Option (Nat × Bool)} {gk:List Nat} {d ty ty':Nat} {pos:String} {after:Array Edge} {x y z:Operand} {i kt et:Nat} {m:List (Int × Int)} {s t:Sy} {n v:Int}
theorem Dz (h:Der P ops W0 N Fin os (us++[((d :: (gk++[10000+d]))++pk,([d,10000+d])++fk)]) [] [] ((d,.sy (.k (10000+d))) :: (10000+d,.tk (.mp [])) :: σ)) (hi:am σ (10000+d)=none:=by rfl) (hg:gst ops σ g=some (true,gk):=by rfl) (hN:Nat.blt d N=true:=by rfl) (hs:aI ((10000+d,.tk (.mp [])) :: σ) d=true:=by rfl) (hu:Nat.beq (10000+d) d=false:=by rfl):Der P ops W0 N Fin (⟨some d,.makeMap ty' none,ty,pos,after,g⟩ :: os) us pk fk σ:=
 ko (.k (10000+d)) [10000+d] [(10000+d,.tk (.mp []))] (fun σ' c a w hk hc=>by
  have hX:Ext w (w.alloc (.map #[] 0)):=(Ext.refl w).alloc _
  have hr:(execOp a.eval ⟨some d,.makeMap ty' none,ty,pos,after,g⟩).run P w=.ok (.value (.map (some w.heap.size))) (w.alloc (.map #[] 0)):=rfl
  unfold Oper.wp
  rw [hr]
  have hc1:=hc.grow hX c.F (fun _ h=>h) (fun _ h=>.inl h) (fun b hb=>Nat.lt_of_lt_of_le (hc.lt b hb) (Below.size hX))
  refine ⟨_,_,rfl,hc1.new (i:=10000+d) (t:=.mp []) (v:=.map (some w.heap.size)) (S:=fun b=>b=w.heap.size) ((hk _ (by simp)).trans hi) ⟨_,rfl,rfl,#[],0,(_root_.Go.MapKept.heap_alloc w _).1,rfl⟩ (fun b hb=>⟨fun hF=>?_,?_⟩) (fun j u hj b hb hT=>?_),?_⟩
  ·subst hb;exact absurd (hc.lt _ hF) (Nat.lt_irrefl _)
  ·subst hb;exact ⟨by simp,.inr hc.ext.size⟩
  ·subst hb;exact absurd ((hc.tok j u hj).2.2 _ hT).2.1 (Nat.lt_irrefl _)
  ·exact ⟨.inr rfl,(if_pos rfl).symm⟩) h hg hN hs (by simp [hu])
theorem Ao (hx:ev σ x=some (.k i)) (hi:am σ i=some (.tk (.mp m))) (hy:ev σ y=some s) (hz:ev σ z=some t) (hm:s.int? = some n) (hv:t.int? = some v) (hn:mV m n=none) (ht:map? P ty'=some (kt,et)) (hk':int? P kt=some .i64) {σ':Env} {c:Cx} {a:Act} {w:World} (hk:∀κ∈i :: (kx x++(kx y++kx z)),am σ' κ=am σ κ) (hc:aF W0 N σ' a w c):∃w',(Instr.mapUpdate ty' (a.eval x) (a.eval y) (a.eval z)).run P w=.ok () w'∧aF W0 N ((i,.tk (.mp (m++[(n,v)]))) :: σ') a w' c:=by
 have hi':=(hk i (by simp)).trans hi
 obtain ⟨_,⟨b,e1,e2,e3⟩,_⟩:=hc.tok i _ hi'
 obtain ⟨_,hxv⟩:=aq hc (af hx (fun κ hκ=>hk κ (by simp [hκ])))
 have hyv:=ee hm (aq hc (af hy (fun κ hκ=>hk κ (by simp [hκ]))))
 have hzv:=ee hv (aq hc (af hz (fun κ hκ=>hk κ (by simp [hκ]))))
 obtain ⟨w',h1,h2,h3,h4⟩:=Cu ht hk' e3 hn (v:=v)
 rw [hxv,e1,hyv,hzv]
 exact ⟨w',h1,hc.upd hi' (Chg.grown h2 (fun g hg=>by cases hg;exact e2)) h3 (fun _=>⟨b,e1,e2,h4⟩)⟩
theorem DM (h:Der P ops W0 N Fin os (us++[((gk++(i :: (kx x++(kx y++kx z))))++pk,([i])++fk)]) [] [] ((i,.tk (.mp (m++[(n,v)]))) :: σ)) (hn:mV m n=none) (hx:ev σ x=some (.k i):=by rfl) (hi:am σ i=some (.tk (.mp m)):=by rfl) (hy:ev σ y=some s:=by rfl) (hz:ev σ z=some t:=by rfl) (hm:s.int? = some n:=by rfl) (hv:t.int? = some v:=by rfl) (ht:map? P ty'=some (kt,et):=by rfl) (hk':int? P kt=some .i64:=by rfl) (hg:gst ops σ g=some (true,gk):=by rfl):Der P ops W0 N Fin (⟨none,.mapUpdate ty' x y z,ty,pos,after,g⟩ :: os) us pk fk σ:=
 kQ (i :: (kx x++(kx y++kx z))) [(i,.tk (.mp (m++[(n,v)])))] (fun σ' c a w hk hc=>by
  obtain ⟨w',h1,h2⟩:=Ao hx hi hy hz hm hv hn ht hk' hk hc
  unfold Oper.wp
  rw [show (execOp a.eval ⟨none,.mapUpdate ty' x y z,ty,pos,after,g⟩).run P w=.ok .skip w' from pD h1]
  exact ⟨rfl,c,h2⟩) h hg
theorem ED (h:Der P ops W0 N Fin os (us++[((gk++(i :: (kx x++(kx y++kx z))))++pk,([i])++fk)]) [] [] ((i,.tk (.mp (m++[(n,v)]))) :: σ)) (hn:mV m n=none) (hx:ev σ x=some (.k i):=by rfl) (hi:am σ i=some (.tk (.mp m)):=by rfl) (hy:ev σ y=some s:=by rfl) (hz:ev σ z=some t:=by rfl) (hm:s.int? = some n:=by rfl) (hv:t.int? = some v:=by rfl) (ht:map? P ty'=some (kt,et):=by rfl) (hk':int? P kt=some .i64:=by rfl) (hg:gst ops σ g=some (true,gk):=by rfl):Der P ops W0 N Fin (⟨none,.insert ty' x y z,ty,pos,after,g⟩ :: os) us pk fk σ:=
 kQ (i :: (kx x++(kx y++kx z))) [(i,.tk (.mp (m++[(n,v)])))] (fun σ' c a w hk hc=>by
  obtain ⟨w',h1,h2⟩:=Ao hx hi hy hz hm hv hn ht hk' hk hc
  unfold Oper.wp
  rw [show (execOp a.eval ⟨none,.insert ty' x y z,ty,pos,after,g⟩).run P w=.ok .skip w' from pD h1]
  exact ⟨rfl,c,h2⟩) h hg
theorem Az (o:Option Int) (ho:mV m n=o) (h:Der P ops W0 N Fin os (us++[((d :: (gk++(i :: (kx x++kx y))))++pk,([d])++fk)]) [] [] ((d,.sy (.tp [.d (.i (o.getD 0)),.d (.b o.isSome)])) :: σ)) (hb:∀v,o=some v→I64 v) (hx:ev σ x=some (.k i):=by rfl) (hi:am σ i=some (.tk (.mp m)):=by rfl) (hy:ev σ y=some s:=by rfl) (hm:s.int? = some n:=by rfl) (ht:map? P ty'=some (kt,et):=by rfl) (hk':int? P kt=some .i64:=by rfl) (hz:rc P et=some (.int .i64 0):=by rfl) (hg:gst ops σ g=some (true,gk):=by rfl) (hN:Nat.blt d N=true:=by rfl) (hs:aI σ d=true:=by rfl):Der P ops W0 N Fin (⟨some d,.lookup ty' x y true,ty,pos,after,g⟩ :: os) us pk fk σ:=
 cC (.tp [.d (.i (o.getD 0)),.d (.b o.isSome)]) (i :: (kx x++kx y)) (fun σ' c a w hk hc=>by
  obtain ⟨_,⟨b,e1,e2,e3⟩,_⟩:=hc.tok i _ ((hk i (by simp)).trans hi)
  obtain ⟨_,hxv⟩:=aq hc (af hx (fun κ hκ=>hk κ (by simp [hκ])))
  have hyv:=ee hm (aq hc (af hy (fun κ hκ=>hk κ (by simp [hκ]))))
  have hr:=yD (w:=w) (n:=n) ht hk' hz e3
  rw [ho] at hr
  refine ⟨_,dL (X:=Instr.lookup ty' (a.eval x) (a.eval y) true) (by rw [hxv,e1,hyv];exact hr),⟨_,rfl,_,_,rfl,⟨rfl,?_⟩,_,_,rfl,rfl,rfl⟩⟩
  cases hgm:o with
  | none=>unfold I64;simp
  | some v=>exact hb v hgm) h hg hN hs
end
theorem AN (m:List (Int × Int)) (a b x:Int):mV (m++[(a,b)]) x=(mV m x).or (if x=a then some b else none):=by
 induction m with
 | nil=>unfold mV;simp [mV]
 | cons p m ih=>
  show mV (p :: (m++[(a,b)])) x=_
  unfold mV
  by_cases h:x=p.1
  ·rw [if_pos h,if_pos h];rfl
  ·rw [if_neg h,if_neg h,ih]
end Go.Proofs.YtacafmejcdgboaaGreatDoor
namespace Go.Proofs.YtacafmejcdgboaaGreatDoor
open Go.RowKit
set_option linter.unusedVariables false
set_option linter.unusedSimpArgs false
mutual
def F9:D→Nat→Option D
 | .t ds,q=>Gb ds q
 | .i n,q=>match q with|0=>some (.i n)|_=>none
 | .s n,q=>match q with|0=>some (.s n)|_=>none
 | .b n,q=>match q with|0=>some (.b n)|_=>none
 | .n z,q=>match q with|0=>some (.n z)|_=>none
 | .l z xs,q=>match q with|0=>some (.l z xs)|_=>none
 | _,_=>none
def Gb:List D→Nat→Option D
 | [],_=>none
 | d :: ds,q=>match Nat.blt q d.sz with|true=>F9 d q|false=>Gb ds (q - d.sz)
end
mutual
def Fn:D→Nat→D→D
 | .t ds,q,r=>.t (Fp ds q r)
 | .i _,_,r=>r
 | .s _,_,r=>r
 | .b _,_,r=>r
 | .n _,_,r=>r
 | .l _ _,_,r=>r
 | d,_,_=>d
def Fp:List D→Nat→D→List D
 | [],_,_=>[]
 | d :: ds,q,r=>match Nat.blt q d.sz with|true=>Fn d q r :: ds|false=>d :: Fp ds (q - d.sz) r
end
theorem yJ {w:World} {d d0 r:D} {T:BS} {cs:List Value} {q:Nat} (h:Ow w d T cs) (hc:∃u,cs = [u]) (hg:(match q with|0=>some d|_=>none)=some d0):∃(T0:BS) (u:Value),(∀x,T0 x→T x)∧cs[q]? = some u∧Ow w d0 T0 [u]∧∀(w':World) (r:D) (u':Value),w.heap.size≤w'.heap.size→(∀b,T b→¬T0 b→b<w.heap.size→w'.heap[b]? = w.heap[b]?)→Ow w' r T0 [u']→Ow w' r T (cs.set q u'):=by
 obtain ⟨u,rfl⟩:=hc
 cases q with
 | succ q=>cases hg
 | zero=>cases hg;exact ⟨T,u,fun _ h=>h,rfl,h,fun w' r u' _ _ hr=>hr⟩
mutual
theorem GN {w:World}:∀(d:D) (q:Nat) (T:BS) (cs:List Value) (d0:D),Ow w d T cs→F9 d q=some d0→∃(T0:BS) (u:Value),(∀x,T0 x→T x)∧cs[q]? = some u∧Ow w d0 T0 [u]∧∀(w':World) (r:D) (u':Value),w.heap.size≤w'.heap.size→(∀b,T b→¬T0 b→b<w.heap.size→w'.heap[b]? = w.heap[b]?)→Ow w' r T0 [u']→Ow w' (Fn d q r) T (cs.set q u')
 | .t ds,q,T,cs,d0,h,hg=>F4 ds q T cs d0 h hg
 | .i n,q,T,cs,d0,h,hg=>yJ (r:=.i n) h ⟨_,h.1⟩ hg
 | .s n,q,T,cs,d0,h,hg=>yJ (r:=.s n) h ⟨_,h.1⟩ hg
 | .b n,q,T,cs,d0,h,hg=>yJ (r:=.b n) h ⟨_,h⟩ hg
 | .n z,q,T,cs,d0,h,hg=>yJ (r:=.n z) h (h.elim fun a ha=>⟨_,ha⟩) hg
 | .l z xs,q,T,cs,d0,h,hg=>yJ (r:=.l z xs) h (h.elim fun a ha=>ha.elim fun k hk=>⟨_,hk.1⟩) hg
 | .p _,q,T,cs,d0,h,hg=>h.elim
 | .f _ _,q,T,cs,d0,h,hg=>h.elim
 | .any,q,T,cs,d0,h,hg=>h.elim
theorem F4 {w:World}:∀(ds:List D) (q:Nat) (T:BS) (cs:List Value) (d0:D),OwL w ds T cs→Gb ds q=some d0→∃(T0:BS) (u:Value),(∀x,T0 x→T x)∧cs[q]? = some u∧Ow w d0 T0 [u]∧∀(w':World) (r:D) (u':Value),w.heap.size≤w'.heap.size→(∀b,T b→¬T0 b→b<w.heap.size→w'.heap[b]? = w.heap[b]?)→Ow w' r T0 [u']→OwL w' (Fp ds q r) T (cs.set q u')
 | [],q,T,cs,d0,h,hg=>by cases hg
 | d :: ds,q,T,cs,d0,⟨T1,T2,c,e,h1,h2,h3,h4,h5,h6⟩,hg=>by
  subst h4
  have hl:=Rp.len d c (Ow.rp d T1 c h5)
  unfold Gb at hg
  cases hq:Nat.blt q d.sz with
  | true=>
   rw [hq] at hg
   have hlt:=Nat.blt_eq.mp hq
   obtain ⟨T0,u,k1,k2,k3,k4⟩:=GN d q T1 c d0 h5 hg
   refine ⟨T0,u,fun x hx=>h1 x (k1 x hx),by rw [List.getElem?_append_left (by omega)];exact k2,k3,fun w' r u' hs hag hr=>?_⟩
   have k5:=k4 w' r u' hs (fun b hb hn hbl=>hag b (h1 b hb) hn hbl) hr
   unfold Fp
   rw [hq]
   exact ⟨T1,T2,c.set q u',e,h1,h2,h3,by rw [List.set_append_left _ _ (by omega)],k5,OwL.keep hs ds T2 T2 e (fun _ h=>h) (fun b hb hbl=>hag b (h2 b hb) (fun h0=>h3 b (k1 b h0) hb) hbl) h6⟩
  | false=>
   rw [hq] at hg
   have hge:d.sz≤q:=by
    rcases Nat.lt_or_ge q d.sz with h|h
    ·rw [Nat.blt_eq.mpr h] at hq;cases hq
    ·exact h
   obtain ⟨T0,u,k1,k2,k3,k4⟩:=F4 ds (q - d.sz) T2 e d0 h6 hg
   refine ⟨T0,u,fun x hx=>h2 x (k1 x hx),by rw [List.getElem?_append_right (by omega),hl];exact k2,k3,fun w' r u' hs hag hr=>?_⟩
   have k5:=k4 w' r u' hs (fun b hb hn hbl=>hag b (h2 b hb) hn hbl) hr
   unfold Fp
   rw [hq]
   exact ⟨T1,T2,c,e.set (q - d.sz) u',h1,h2,h3,by rw [List.set_append_right _ _ (by omega),hl],Ow.keep hs d T1 T1 c (fun _ h=>h) (fun b hb hbl=>hag b (h1 b hb) (fun h0=>h3 b hb (k1 b h0)) hbl) h5,k5⟩
end
theorem OwR.keep2 {w w':World} (hsz:w.heap.size≤w'.heap.size):∀(ds:List D) (U:BS) (z b o:Nat),fy U w w'→(∀j,o≤j→w'.cell? ⟨b,j,none⟩=w.cell? ⟨b,j,none⟩)→OwR w ds U z b o→OwR w' ds U z b o
 | [],U,z,b,o,h,hb,r=>trivial
 | d :: ds,U,z,b,o,h,hb,⟨U1,U2,h1,h2,h3,⟨cs,h4,h5,h6⟩,h7⟩=>⟨U1,U2,h1,h2,h3,⟨cs,h4,Ow.keep hsz d U1 U1 cs (fun _ h=>h) (fun c hc=>h c (h1 c hc)) h5,fun j u hj=>(hb (o+j) (by omega)).trans (h6 j u hj)⟩,OwR.keep2 hsz ds U2 z b (o+z) (fun c hc=>h c (h2 c hc)) (fun j hj=>hb j (by omega)) h7⟩
theorem EM {w:World}:∀(ds:List D) (n:Nat) (U:BS) (z b o:Nat),OwR w ds U z b o→∀hn:n<ds.length,∃(Tn:BS) (cs:List Value),(∀x,Tn x→U x)∧cs.length=z∧Ow w ds[n] Tn cs∧bB w b (o+n * z) cs∧∀(w':World) (r:D) (cs':List Value),w.heap.size≤w'.heap.size→(∀c,U c→¬Tn c→c<w.heap.size→w'.heap[c]? = w.heap[c]?)→(∀j,j<o+n * z∨o+n * z+z≤j→w'.cell? ⟨b,j,none⟩=w.cell? ⟨b,j,none⟩)→Ow w' r Tn cs'→cs'.length=z→bB w' b (o+n * z) cs'→OwR w' (ds.set n r) U z b o
 | [],n,U,z,b,o,h,hn=>absurd hn (Nat.not_lt_zero _)
 | d :: ds,0,U,z,b,o,⟨U1,U2,h1,h2,h3,⟨cs,h4,h5,h6⟩,h7⟩,hn=>by
  refine ⟨U1,cs,h1,h4,h5,by rw [Nat.zero_mul,Nat.add_zero];exact h6,fun w' r cs' hs hag hc hr hl hca=>?_⟩
  rw [Nat.zero_mul,Nat.add_zero] at hc hca
  exact ⟨U1,U2,h1,h2,h3,⟨cs',hl,hr,hca⟩,OwR.keep2 hs ds U2 z b (o+z) (fun c hcu hcl=>hag c (h2 c hcu) (fun h=>h3 c h hcu) hcl) (fun j hj=>hc j (.inr hj)) h7⟩
 | d :: ds,n+1,U,z,b,o,⟨U1,U2,h1,h2,h3,⟨cs0,h4,h5,h6⟩,h7⟩,hn=>by
  obtain ⟨Tn,cs,k1,k2,k3,k4,k5⟩:=EM ds n U2 z b (o+z) h7 (by simpa using hn)
  have e:o+z+n * z=o+(n+1) * z:=by rw [Nat.succ_mul];omega
  rw [e] at k4 k5
  refine ⟨Tn,cs,fun x hx=>h2 x (k1 x hx),k2,k3,k4,fun w' r cs' hs hag hc hr hl hca=>?_⟩
  refine ⟨U1,U2,h1,h2,h3,⟨cs0,h4,Ow.keep hs d U1 U1 cs0 (fun _ h=>h) (fun c hcu hcl=>hag c (h1 c hcu) (fun h=>h3 c hcu (k1 c h)) hcl) h5,fun j u hj=>?_⟩,k5 w' r cs' hs (fun c hcu hn' hcl=>hag c (h2 c hcu) hn' hcl) hc hr hl hca⟩
  have hj':=(List.getElem?_eq_some_iff.1 hj).1
  have hz:z≤(n+1) * z:=Nat.le_mul_of_pos_left z (Nat.succ_pos n)
  exact (hc (o+j) (.inl (by omega))).trans (h6 j u hj)
theorem CD {w:World} {z:Nat} {xs:List D} {S:BS} {v:Value} (h:Ow w (.l z xs) S [v]) {n f:Nat} {e d0:D} (he:xs[n]? = some e) (hg:F9 e f=some d0):∃(b o k:Nat) (T0:BS) (u:Value),v=.slice (some ⟨b,o,none⟩) xs.length k∧S b∧b<w.heap.size∧(∀q,w.frozen? ⟨b,q,none⟩=false)∧(∀x,T0 x→S x∧x≠b)∧w.cell? ⟨b,o+(n * z+f),none⟩=some u∧Ow w d0 T0 [u] ∧
 ∀(w':World) (r:D) (u':Value),w.heap.size≤w'.heap.size→(∀c,S c→c≠b→¬T0 c→c<w.heap.size→w'.heap[c]? = w.heap[c]?)→(∀q,w'.frozen? ⟨b,q,none⟩=false)→(∀j,j≠o+(n * z+f)→w'.cell? ⟨b,j,none⟩=w.cell? ⟨b,j,none⟩)→w'.cell? ⟨b,o+(n * z+f),none⟩=some u'→Ow w' r T0 [u']→Ow w' (.l z (xs.set n (Fn e f r))) S [v]:=by
 obtain ⟨hn,he⟩:=List.getElem?_eq_some_iff.1 he
 obtain ⟨a,k,h1,h2,h3,h4,h5⟩:=h
 cases h1
 rcases h5 with h5|⟨b,o,U,rfl,e2,e3,e4,e5,e6⟩
 ·rw [h5] at hn;exact absurd hn (Nat.not_lt_zero _)
 obtain ⟨Tn,cs,k1,k2,k3,k4,k5⟩:=EM xs n U z b o e6 hn
 rw [he] at k3
 obtain ⟨T0,u,q1,q2,q3,q4⟩:=GN e f Tn cs d0 k3 hg
 have hf:f<cs.length:=(List.getElem?_eq_some_iff.1 q2).1
 refine ⟨b,o,k,T0,u,rfl,e2,e3,e4,fun x hx=>e5 x (k1 x (q1 x hx)),by rw [← Nat.add_assoc];exact k4 f u q2,q3,fun w' r u' hs hag hfr hc hcu hr=>?_⟩
 have q5:=q4 w' r u' hs (fun c hc1 hc2 hc3=>hag c (e5 c (k1 c hc1)).1 (e5 c (k1 c hc1)).2 hc2 hc3) hr
 have hlen:(xs.set n (Fn e f r)).length=xs.length:=List.length_set
 refine ⟨some ⟨b,o,none⟩,k,by rw [hlen],by rw [hlen];exact h2,h3,h4,.inr ⟨b,o,U,rfl,e2,Nat.lt_of_lt_of_le e3 hs,hfr,e5,k5 w' _ (cs.set f u') hs (fun c hc1 hc2 hc3=>hag c (e5 c hc1).1 (e5 c hc1).2 (fun h=>hc2 (q1 c h)) hc3) (fun j hj=>hc j (by omega)) q5 (by rw [List.length_set];exact k2) (fun j v' hj=>?_)⟩⟩
 rw [List.getElem?_set] at hj
 by_cases ej:f=j
 ·subst ej
  rw [if_pos rfl,if_pos hf] at hj
  cases hj
  rw [Nat.add_assoc];exact hcu
 ·rw [if_neg ej] at hj
  rw [hc _ (by omega)]
  exact k4 j v' hj
theorem Chg.mono {S S':BS} {w w':World} (h:Chg S w w') (hS:∀b,S b→S' b):Chg S' w w':=⟨h.os,h.tape,h.output,h.size,fun b hb hn=>h.block b hb (fun h'=>hn (hS b h'))⟩
section
variable {P:Program} {ops:Array Oper} {W0:cE} {N:Nat} {Fin:Us→Env→Prop} {os:List Oper} {us:Us} {pk fk:List Nat} {σ:Env} {g:Option (Nat × Bool)} {gk:List Nat} {d ty ty' f:Nat} {pos:String} {after:Array Edge} {at':Array TypeId} {x y:Operand} {i z n q o:Nat} {xs:List D} {tag:Option (Value × BS)} {pin:Option (Nat × Value)} {s:Sy}
theorem Dl {n e:Nat} (h:Der P ops W0 N Fin os (us++[((d :: (gk++(i :: (kx x++kx y))))++pk,([d])++fk)]) [] [] ((d,.sy (.eo i (n * z))) :: σ)) (hx:ev σ x=some (.k i):=by rfl) (hi:am σ i=some (.tk (.own (.l z xs) pin tag)):=by rfl) (hy:ev σ y=some s:=by rfl) (hn':s.int? = some (n:Int):=by rfl) (he:elem? P ty'=some e:=by rfl) (hz:sizeOf? P e=some z:=by rfl) (hg:gst ops σ g=some (true,gk):=by rfl) (hN:Nat.blt d N=true:=by rfl) (hs:aI σ d=true:=by rfl) (hn:n<xs.length:=by first|assumption|(rw [List.length_set];assumption)):Der P ops W0 N Fin (⟨some d,.indexAddr ty' x y,ty,pos,after,g⟩ :: os) us pk fk σ:=
 cC (.eo i (n * z)) (i :: (kx x++kx y)) (fun σ' c a w hk hc=>by
  obtain ⟨hA,⟨⟨ad,k,h1,h2,h3,h4,h5⟩,_⟩,_⟩:=hc.tok i _ ((hk i (by simp)).trans hi)
  obtain ⟨_,hv⟩:=aq hc (af hx (fun κ hκ=>hk κ (by simp [hκ])))
  have hyv:=ee hn' (aq hc (af hy (fun κ hκ=>hk κ (by simp [hκ]))))
  have h1':=(List.cons.inj h1).1
  rcases h5 with h5|⟨b,o,U,rfl,_⟩
  ·rw [h5] at hn;exact absurd hn (Nat.not_lt_zero _)
  refine ⟨_,dL (X:=Instr.indexAt ty' (a.eval x) (a.eval y)) (by rw [hv,hyv,h1'];exact ox he hz hn),hA,b,o,_,k,h1',rfl⟩) h hg hN hs
def Gl:D→Bool
 | .i _=>true
 | .s _=>true
 | .b _=>true
 | _=>false
theorem ym (n f:Nat) {e d0 r:D} (xs':List D) (he:xs[n]? = some e) (hxs:xs.set n (Fn e f r)=xs') (h:Der P ops W0 N Fin os (us++[((gk++(i :: (kx x++kx y)))++pk,([i])++fk)]) [] [] ((i,.tk (.own (.l z xs') none tag)) :: σ)) (hg':F9 e f=some d0:=by rfl) (hx:ev σ x=some (.eo i q):=by rfl) (hi:am σ i=some (.tk (.own (.l z xs) none tag)):=by rfl) (hy:ev σ y=some (.d r):=by rfl) (hr:Gl r=true:=by rfl) (hq:q=n * z+f:=by rfl) (hz:sizeOf? P ty'=some 1:=by rfl) (hg:gst ops σ g=some (true,gk):=by rfl):Der P ops W0 N Fin (⟨none,.store ty' x y,ty,pos,after,g⟩ :: os) us pk fk σ:=
 kQ (i :: (kx x++kx y)) [(i,.tk (.own (.l z xs') none tag))] (fun σ' c a w hk hc=>by
  subst hq
  have hi':=(hk i (by simp)).trans hi
  obtain ⟨hA,⟨hO,_,htag⟩,hlt⟩:=hc.tok i _ hi'
  obtain ⟨_,b',o',m',k',e1,e2⟩:=aq hc (af hx (fun κ hκ=>hk κ (by simp [hκ])))
  have hv:=aq hc (af hy (fun κ hκ=>hk κ (by simp [hκ])))
  obtain ⟨b,o,k,T0,u,h1,h2,h3,h4,h5,h6,h7,h8⟩:=CD hO he hg'
  rw [h1] at e1
  cases e1
  have hone:(a.eval y).oneCell'=true∧∀(w':World) (T:BS),Ow w' r T [a.eval y]:=by
   cases r with
   | i n=>obtain ⟨q1,q2⟩:=hv;rw [(List.cons.inj q1).1];exact ⟨rfl,fun _ _=>⟨rfl,q2⟩⟩
   | s n=>obtain ⟨q1,q2⟩:=hv;rw [(List.cons.inj q1).1];exact ⟨rfl,fun _ _=>⟨rfl,q2⟩⟩
   | b n=>have q1 : [a.eval y] = [Value.bool n]:=hv;rw [(List.cons.inj q1).1];exact ⟨rfl,fun _ _=>rfl⟩
   | _=>cases hr
  unfold Oper.wp
  rw [fL hz hone.1 h6 (h4 _) e2 rfl]
  have hch:Chg (c.T i) w (w.setCell ⟨b',o'+(n * z+f),none⟩ (a.eval y)):=Chg.grown (bF b' _ _) (fun g hg=>by cases hg;exact h2)
  have hbx:dA (w.setCell ⟨b',o'+(n * z+f),none⟩ (a.eval y)) b' []:=fun j v hj=>by simp at hj
  refine ⟨rfl,c,hc.upd hi' hch (by simp) (fun hag=>⟨?_,fun p hp=>(by cases hp),htag⟩)⟩
  rw [← hxs]
  refine h8 _ r (a.eval y) (by simp) (fun c' hc1 hc2 _ _=>(bF b' _ _).block c' (by assumption) (fun e=>hc2 (by cases e;rfl))) (fun q=>?_) (fun j hj=>?_) ?_ (hone.2 _ _)
  ·rw [World.frozen?_setCell];exact h4 q
  ·exact World.cell?_setCell_other _ _ _ _ (fun e=>hj (by cases e;rfl))
  ·exact World.cell?_setCell_same _ _ _ h6) h hg
theorem Chg.rfl' {S:BS} {w:World}:Chg S w w:=⟨rfl,rfl,rfl,Nat.le_refl _,fun _ _ _=>rfl⟩
end
end Go.Proofs.YtacafmejcdgboaaGreatDoor
namespace Go.Proofs.YtacafmejcdgboaaGreatDoor
open Go.RowKit
set_option linter.unusedVariables false
set_option linter.unusedSimpArgs false
def sP (σ:Env):List Sy→Option (List D)
 | []=>some []
 | .k i :: ss=>match am σ i,sP σ ss with
  | some (.tk (.own (.l z xs) none _)),some ds=>some (.l z xs :: ds)
  | _,_=>none
 | .d r :: ss=>match Gl r,sP σ ss with
  | true,some ds=>some (r :: ds)
  | _,_=>none
 | _ :: _=>none
def Gz (σ:Env):List Sy→List D→Env
 | .k i :: ss,d :: ds=>match am σ i with
  | some (.tk (.own _ _ tag))=>(i,.tk (.own d none tag)) :: Gz σ ss ds
  | _=>Gz σ ss ds
 | _ :: ss,_ :: ds=>Gz σ ss ds
 | _,_=>[]
def tkT (c:Cx):Option Sy→BS
 | some (.k i)=>c.T i
 | _=>fun _=>False
theorem D7 {r:D} {c:Cx} {w:World} {v:Value} {T:BS} (h:Gl r=true) (hv:(Sy.d r).ok c w v):Ow w r T [v]:=by
 cases r with
 | i n=>exact hv
 | s n=>exact hv
 | b n=>exact hv
 | _=>cases h
theorem xx {σ σ':Env}:∀(ss:List Sy),(∀κ∈jk ss,am σ' κ=am σ κ)→sP σ' ss=sP σ ss:=by
 intro ss
 induction ss with
 | nil=>intro _;rfl
 | cons s ss ih=>
  intro h
  have h2:=ih (fun κ hκ=>h κ (by simp [jk,hκ]))
  cases s with
  | k i=>unfold sP;rw [h i (by simp [jk,kSy]),h2]
  | d r=>unfold sP;rw [h2]
  | _=>rfl
theorem EF {W0:cE} {N:Nat} {σ:Env} {a:Act} {w:World} {c:Cx} (h:aF W0 N σ a w c):∀(ss:List Sy) (ds:List D) (vs:List Value),sP σ ss=some ds→Sy.oks c w ss vs→vs.length=ds.length∧ss.length=ds.length∧∀(i:Nat) (d:D),ds[i]? = some d→∃u,vs[i]? = some u∧Ow w d (tkT c ss[i]?) [u]:=by
 intro ss
 induction ss with
 | nil=>intro ds vs h1 h2;cases h1;rw [show vs = [] from h2];exact ⟨rfl,rfl,fun i d hi=>by simp at hi⟩
 | cons s ss ih=>
  intro ds vs h1 ⟨v,t,e1,e2,e3⟩
  subst e1
  have fin:∀(d:D) (es:List D),ds=d :: es→sP σ ss=some es→Ow w d (tkT c (some s)) [v]→(v :: t).length=ds.length∧(s :: ss).length=ds.length∧∀(i:Nat) (d:D),ds[i]? = some d→∃u,(v :: t)[i]? = some u∧Ow w d (tkT c (s :: ss)[i]?) [u]:=fun d es hd he ho=>by
   subst hd
   obtain ⟨q1,q2,q3⟩:=ih es t he e3
   refine ⟨by simp [q1],by simp [q2],fun i d' hi=>?_⟩
   cases i with
   | zero=>simp at hi;subst hi;exact ⟨v,rfl,ho⟩
   | succ i=>exact q3 i d' (by simpa using hi)
  cases s with
  | k i=>
   unfold sP at h1
   split at h1
   ·rename_i z xs tag es q1 q2
    cases h1
    obtain ⟨_,⟨hO,_⟩,_⟩:=h.tok i _ q1
    exact fin _ _ rfl q2 (by rw [e2.2];exact hO)
   ·cases h1
  | d r=>
   unfold sP at h1
   split at h1
   ·rename_i es q1 q2
    cases h1
    exact fin _ _ rfl q2 (D7 q1 e2)
   ·cases h1
  | _=>cases h1
section
variable {P:Program} {ops:Array Oper} {W0:cE} {N:Nat} {Fin:Us→Env→Prop} {os:List Oper} {us:Us} {pk fk:List Nat} {σ:Env} {g:Option (Nat × Bool)} {gk:List Nat} {d ty ty' f:Nat} {pos:String} {after:Array Edge} {at':Array TypeId} {x y:Operand}
end
end Go.Proofs.YtacafmejcdgboaaGreatDoor
namespace Go.Proofs.YtacafmejcdgboaaGreatDoor
open Go.RowKit Go.Sort Go.Proofs
set_option linter.unusedVariables false
set_option linter.unusedSimpArgs false
set_option linter.unusedSectionVars false
structure Bd {α:Type} (k:Nat) (enc:α→List Value) (f:α→D):Prop where
 len:∀x,(enc x).length=k
 val:∀w S x cs,Rp w S (f x) cs→cs=enc x
 any:∀w w' S S' x cs,Rp w S (f x) cs→Rp w' S' (f x) cs
section
variable {α:Type} [Inhabited α] {k:Nat} {enc:α→List Value} {fD:α→D} {P:Program} {f:FuncId} {e:TypeId}
theorem G0 (hk:0<k) (hc:Bd k enc fD) {F S:BS} {w:World} {v:Value} {xs:List α} (h:(Tk.row k e (xs.map fD)).ok (Cx.of F) w v S):(xs = []∧∃a c,v=.slice a 0 c)∨∃g cap cur,v=.slice (some ⟨g,0,none⟩) xs.length cap∧S g∧w.heap[g]? = some (.cells cur e (0,0))∧xs.length≤cap∧cap≤maxLen∧cur.size=cap * k∧HoldsK enc k w g 0 xs.toArray∧∀x∈xs,∀w' S',Rp w' S' (fD x) (enc x):=by
 rcases h with ⟨hd,a,hv⟩|⟨cells,own,hS,hel⟩
 ·exact .inl ⟨List.map_eq_nil_iff.1 hd,a,0,hv⟩
 have hel:∀j (h:j<xs.length),∃cs,cs.length=k∧Rp w (Cx.of F).F (fD xs[j]) cs∧∀t u,cs[t]? = some u→cells[j * k+t]? = some u:=fun j h=>by
  obtain ⟨cs,q1,q2,q3⟩:=hel j (by rw [List.length_map];exact h)
  rw [List.getElem_map] at q2
  exact ⟨cs,q1,q2,q3⟩
 rw [List.length_map] at own
 have hall:∀x∈xs,∀w' S',Rp w' S' (fD x) (enc x):=fun x hx w' S'=>by
  obtain ⟨j,hj,rfl⟩:=List.mem_iff_getElem.1 hx
  obtain ⟨cs,q1,q2,q3⟩:=hel j hj
  have e1:=hc.val _ _ _ _ q2
  subst e1
  exact hc.any _ _ _ _ _ _ q2
 rcases own.2 with ⟨hv,hn⟩|⟨g,cap,cur,hv,_,hg,h5,h6,h7,h8⟩
 ·exact .inl ⟨List.eq_nil_of_length_eq_zero hn,none,0,hv⟩
 refine .inr ⟨g,cap,cur,hv,hS g (by rw [hv];rfl),hg,h5,h6,h7,fun t ht=>?_,hall⟩
 have ht':t<xs.length * k:=by simpa using ht
 have hq:t / k<xs.length:=Nat.div_lt_of_lt_mul (by rw [Nat.mul_comm];exact ht')
 have hr:t % k<k:=Nat.mod_lt _ hk
 refine ⟨?_,by simp [World.frozen?,hg]⟩
 obtain ⟨cs,q1,q2,q3⟩:=hel (t / k) hq
 have e1:=hc.val _ _ _ _ q2
 subst e1
 have h9:=q3 (t % k) _ (List.getElem?_eq_getElem (by rw [q1];exact hr))
 rw [show t / k * k+t % k=t by rw [Nat.mul_comm];exact Nat.div_add_mod t k,← h8,List.getElem?_take_of_lt ht',Array.getElem?_toList] at h9
 simp only [World.cell?,hg,Nat.zero_add]
 simp only [Option.isSome_none,Bool.false_eq_true,if_false]
 rw [h9]
 show _=some ((flatK enc k xs.toArray)[t]!)
 rw [get_flatK _ _ _ _ (by simpa using ht')]
 simp [hq,q1,hr]
theorem Au (hk:0<k) (hc:Bd k enc fD) {ys:List α} (hall:∀(w':World) (S':BS),∀y∈ys,Rp w' S' (fD y) (enc y)) {F S:BS} {w':World} {g cap:Nat} (own:w'.ownsRow 0 e k (.slice (some ⟨g,0,none⟩) ys.length cap) ys.length (flatK enc k ys.toArray).toList) (hS:S g):(Tk.row k e (ys.map fD)).ok (Cx.of F) w' (.slice (some ⟨g,0,none⟩) ys.length cap) S:=by
 refine .inr ⟨(flatK enc k ys.toArray).toList,by rw [List.length_map];exact own,fun k hk=>by cases hk;exact hS,fun j hj=>⟨enc (ys[j]'(by simpa using hj)),hc.len _,?_,fun t u ht=>?_⟩⟩
 ·rw [List.getElem_map];exact hall _ _ _ (List.getElem_mem _)
 ·have hj':j<ys.length:=by simpa using hj
  have htk:t<k:=by
   have:=(List.getElem?_eq_some_iff.1 ht).1
   rwa [hc.len] at this
  have hb:j * k+t<ys.toArray.size * k:=by
   have:=Nat.mul_le_mul_right k (show j+1≤ys.length from hj')
   rw [Nat.add_mul,Nat.one_mul] at this
   simp;omega
  have e1:(j * k+t) / k=j:=(blk_iff k j _ hk).1 ⟨by omega,by omega⟩
  have e2:(j * k+t) % k=t:=by rw [Nat.mod_eq_sub_div_mul,e1];omega
  have h1:=get_flatK enc k ys.toArray _ hb
  rw [e1,e2] at h1
  have hs:j * k+t<(flatK enc k ys.toArray).size:=by rw [size_flatK];exact hb
  rw [Array.getElem?_toList,Array.getElem?_eq_getElem hs,← getElem!_pos (flatK enc k ys.toArray) (j * k+t) hs,h1]
  have h2:=(List.getElem?_eq_some_iff.1 ht).2
  simp [hj',hc.len,htk,h2]
theorem Et (hk:0<k) (hc:Bd k enc fD) {xs ys:List α} {ds:List D} {vs0:List Value} (henter:∀args w,(callFunc f args).run P w=.ok (.enter f args) w) (hmem:∀y∈ys,y∈xs) (hlen:ys.length=xs.length) (hvs:∀w F vs,DVs w F ds vs→vs=vs0) (hno:∀p cap w,Calls P f (.slice p 0 cap :: vs0).toArray w fun en w'=>en=.returned (.tuple #[])∧w'=w)
 (hyes:∀g cap w,HoldsK enc k w g 0 xs.toArray→g<w.heap.size→Calls P f (.slice (some ⟨g,0,none⟩) xs.length cap :: vs0).toArray w fun en w'=>en=.returned (.tuple #[])∧∃n os,w'=grow (putRowK enc k (Sort.ahead w n) g 0 ys.toArray) os):FnS P f k e (xs.map fD) ds (ys.map fD):=by
 refine ⟨henter,fun F S w v vs hv hds hF hS=>?_⟩
 obtain rfl:=hvs _ _ _ hds
 rcases G0 hk hc hv with ⟨rfl,a,c,rfl⟩|⟨g,cap,cur,rfl,hSg,hb,h5,h6,h7,hH,hall⟩
 ·have:ys = []:=List.eq_nil_of_length_eq_zero hlen
  subst this
  refine (hno a c w).mono ?_
  rintro en w' ⟨rfl,rfl⟩
  exact ⟨rfl,⟨rfl,rfl,rfl,Nat.le_refl _,fun _ _ _=>rfl⟩,hv⟩
 ·refine (hyes g cap w hH (Array.getElem?_eq_some_iff.1 hb).1).mono ?_
  rintro en w' ⟨rfl,n,os,rfl⟩
  refine ⟨rfl,Chg.grown (jF id _) (fun k hk=>by cases hk;exact hSg),?_⟩
  have hfl:(flatK enc k ys.toArray).toList.length=ys.length * k:=by simp
  have hle:ys.length * k≤cap * k:=Nat.mul_le_mul_right k (by omega)
  rw [← hlen]
  refine Au hk hc (fun w' S' y hy=>hall y (hmem y hy) w' S') ⟨hfl,.inr ⟨g,cap,_,rfl,Nat.zero_le _,vm id _ hb,by omega,h6,by simp [putCells,h7],?_⟩⟩ hSg
  have ht:=vj id cur (flatK enc k ys.toArray).toList [] (by rw [List.append_nil,hfl,h7];exact hle)
  rw [List.append_nil,hfl,List.map_id] at ht
  rw [show (flatK enc k ys.toArray).toList.toArray=flatK enc k ys.toArray from rfl] at ht
  exact ht
theorem Dt {z:Nat} {F S:BS} {w:World} {v:Value} (h:(Tk.row z e []).ok (Cx.of F) w v S) (G:BS):DV w G (.l z []) v:=by
 rcases h with ⟨_,a,rfl⟩|⟨cells,own,_,_⟩
 ·exact ⟨a,0,rfl,Nat.le_refl _,by decide,fun _=>rfl,.inl rfl⟩
 ·rcases own.2 with ⟨rfl,_⟩|⟨g,cap,cur,rfl,_,_,h5,h6,_,_⟩
  ·exact ⟨none,0,rfl,Nat.le_refl _,by decide,fun _=>rfl,.inl rfl⟩
  ·exact ⟨_,cap,rfl,h5,h6,(fun h=>by cases h),.inl rfl⟩
theorem Eh {enc:α→Value} (hc:sV enc fD) {xs ys us:List α} {ds:List D} (henter:∀args w,(callFunc f args).run P w=.ok (.enter f args) w) (hmem:∀y∈ys,y∈xs) (hlen:(ys++us).length=xs.length) (hno:∀(w:World) (F:BS) (vs:List Value) (v:Value),DVs w F ds vs→(∀b,F b→b<w.heap.size)→DV w F (.l 1 []) v→xs = []→Calls P f (v :: vs).toArray w fun en w'=>en=.returned v∧Ext w w')
 (hyes:∀(w:World) (F:BS) (vs:List Value) (g cap:Nat),DVs w F ds vs→(∀b,F b→b<w.heap.size)→¬F g→Go.Sort.Holds enc w g 0 xs.toArray→g<w.heap.size→xs.length≤cap→xs.length≤maxLen→Calls P f (.slice (some ⟨g,0,none⟩) xs.length cap :: vs).toArray w fun en w'=>en=.returned (.slice (some ⟨g,0,none⟩) ys.length cap)∧∃q,w'=putRow enc (Sort.ahead w q) g 0 (ys++us).toArray):FnC P f 1 e (xs.map fD) ds (ys.map fD):=by
 refine ⟨henter,fun F S w v vs hv hvs hF hS=>?_⟩
 by_cases hx:xs = []
 ·subst hx
  have:ys = []:=by
   have:=List.eq_nil_of_length_eq_zero hlen
   exact (List.append_eq_nil_iff.1 this).1
  subst this
  refine (hno w F vs v hvs hF (Dt hv F) rfl).mono ?_
  rintro en w' ⟨rfl,hX⟩
  exact ⟨_,rfl,Chg.ext hX,Tk.keep (Cx.Le.refl _) (Below.size hX) (fun b _ hl=>hX.block b hl) (fun b _ hl=>hX.block b hl) _ _ hv⟩
 rcases Gi hc hv with ⟨rfl,a,k,rfl⟩|⟨g,cap,cur,rfl,hSg,hb,h5,h6,h7,h8,hall⟩
 ·exact absurd rfl hx
 ·refine (hyes w F vs g cap hvs hF (hS g hSg).1 (n8 enc hb h8) (Array.getElem?_eq_some_iff.1 hb).1 h5 (Nat.le_trans h5 h6)).mono ?_
  rintro en w' ⟨rfl,q,rfl⟩
  have hg0:putRow enc (Sort.ahead w q) g 0 (ys++us).toArray=grow (putRow enc (Sort.ahead w q) g 0 (ys++us).toArray) #[]:=by unfold grow;rw [Array.append_empty]
  rw [hg0]
  exact ⟨_,rfl,Chg.grown (jF enc _) (fun k hk=>by cases hk;exact hSg),oh (fun w' S' y hy=>hall y (hmem y hy) w' S') (tF enc hlen hb h5 h6 h7) hSg⟩
end
theorem G2 (i o:Nat) {W0:cE} {N:Nat} {σ:Env} {Q:Exit→Act→World→Prop} {x:Exit} {n e j:Nat} {cs:List Sy} {ds:List D} (h:At W0 N ((i,.tk (.bx (cs.set o (.d (.l n ds))))) :: (j,.no) :: σ) x Q) (hi:am σ i=some (.tk (.bx cs)):=by rfl) (hc:cs[o]? = some (.k j):=by rfl) (hj:am σ j=some (.tk (.row n e ds)):=by rfl) (hne:Nat.beq j i=false:=by rfl):At W0 N σ x Q:=fun a w hh=>h a w (hh.fzB hi hc hj hne)
end Go.Proofs.YtacafmejcdgboaaGreatDoor
