/-
  Proved facts that the law leans on.
-/
import Derived.Test.YtclpbhoekmecjaaGreatDoorZP3
import Derived.Laws.OwnMore
import Derived.Deep.Cut
import Derived.Laws.CopyRow
import Derived.Laws.CopyOwn
namespace Go.Proofs.YtclpbhoekmecjaaGreatDoor
open Go.RowKit
set_option linter.unusedVariables false
set_option linter.unusedSimpArgs false
theorem uX {w:World} {S:BS}:∀(ds:List D) (vs:List Value),(ds.all fun r=>!isT r)=true→DVs w S ds vs→RpL w S ds vs:=by
 intro ds
 induction ds with
 | nil=>intro vs _ h;exact h
 | cons d ds ih=>
  intro vs ht ⟨v,t,h1,h2,h3⟩
  rw [List.all_cons,Bool.and_eq_true] at ht
  refine ⟨[v],t,h1,?_,ih t ht.2 h3⟩
  cases d with
  | t ds=>cases ht.1
  | _=>exact h2
theorem D6 {w:World} {S:BS}:∀(ds:List D) (vs:List Value),(ds.all fun r=>!isT r)=true→RpL w S ds vs→DVs w S ds vs:=by
 intro ds
 induction ds with
 | nil=>intro vs _ h;exact h
 | cons d ds ih=>
  intro vs ht ⟨c,e,h1,h2,h3⟩
  rw [List.all_cons,Bool.and_eq_true] at ht
  have hl:=Rp.len d c h2
  have hz:d.sz=1:=by cases d <;> first|rfl|cases ht.1
  obtain ⟨v,rfl⟩:=List.length_eq_one_iff.1 (hl.trans hz)
  refine ⟨v,e,h1,?_,ih e ht.2 h3⟩
  cases d with
  | t ds=>cases ht.1
  | _=>exact h2
theorem EP {w:World} {S:BS}:∀(ds es:List D) (vs us:List Value),DVs w S ds vs→DVs w S es us→DVs w S (ds++es) (vs++us):=by
 intro ds
 induction ds with
 | nil=>intro es vs us h1 h2;rw [show vs = [] from h1];exact h2
 | cons d ds ih=>
  intro es vs us ⟨v,t,h1,h2,h3⟩ h4
  exact ⟨v,t++us,by rw [h1];rfl,h2,ih es t us h3 h4⟩
theorem uf {P:Program} {ρ:Operand→Value} {w:World} {dd:Option Tmp} {f ty:Nat} {t:Operand} {xs:List Operand} {cv:List Value} {at':Array TypeId} {pos:String} {after:Array Edge} {g:Option (Nat × Bool)} (he:∀args w,(callFunc f args).run P w=.ok (.enter f args) w) (hf:ρ t=.func (.func f) #[] cv.toArray):(execOp ρ ⟨dd,.call { callee:=.value t,args:=xs.toArray,argTypes:=at' },ty,pos,after,g⟩).run P w=.ok (.enter f (xs.map ρ++cv).toArray) w:=by
 simp [execOp,resolve,invoke,hf,he,Deferred.ofValue,go_sem]
section
variable {P:Program} {ops:Array Oper} {W0:cf} {N:Nat} {Fin:Us→Env→Prop} {os:List Oper} {us:Us} {pk fk:List Nat} {σ:Env} {g:Option (Nat × Bool)} {gk:List Nat} {d ty ty' f:Nat} {pos:String} {after:Array Edge} {at':Array TypeId} {xs:List Operand} {ds cs:List D} {t:Operand}
theorem cL (h:Der P ops W0 N Fin os (us++[((d :: (gk++kxs xs))++pk,([d])++fk)]) [] [] ((d,.sy (.d (.f f ds))) :: σ)) (hx:evs σ xs=some ds:=by rfl) (ht:(ds.all fun r=>!isT r)=true:=by rfl) (hg:gst ops σ g=some (true,gk):=by rfl) (hN:Nat.blt d N=true:=by rfl) (hs:aM σ d=true:=by rfl):Der P ops W0 N Fin (⟨some d,.makeFunc (.func f) #[] xs.toArray,ty,pos,after,g⟩ :: os) us pk fk σ:=
 b6 (.d (.f f ds)) (kxs xs) (fun σ' c a w hk hc=>⟨.func (.func f) #[] (xs.map a.eval).toArray,d7 (X:=Instr.makeFunc (.func f) (#[].map a.eval) (xs.toArray.map a.eval)) (by simp [Instr.makeFunc,go_sem]),xs.map a.eval,rfl,uX _ _ ht (nj hc xs ds hx hk)⟩) h hg hN hs
theorem bg {r:D} (h:Der P ops W0 N Fin os (us++[((d :: (gk++(kx t++kxs xs)))++pk,([d])++fk)]) [] [] ((d,.sy (.d r)) :: σ)) (hx:evs σ xs=some ds:=by rfl) (hv:ev σ t=some (.d (.f f cs)):=by rfl) (ht:(cs.all fun r=>!isT r)=true:=by first|rfl|assumption) (hf:FnD P f (ds++cs) (.d r):=by assumption) (hg:gst ops σ g=some (true,gk):=by rfl) (hN:Nat.blt d N=true:=by rfl) (hs:aM σ d=true:=by rfl):Der P ops W0 N Fin (⟨some d,.call { callee:=.value t,args:=xs.toArray,argTypes:=at' },ty,pos,after,g⟩ :: os) us pk fk σ:=
 me (.d r) (kx t++kxs xs) [] (fun σ' c a w hk hc=>by
  obtain ⟨cv,h1,h2⟩:=av hc (af hv (fun κ hκ=>hk κ (by simp [hκ])))
  cases h1':a.eval t <;> rw [h1'] at h1 <;> cases h1
  unfold Oper.wp
  rw [uf hf.enter h1']
  refine (hf.calls c.F w _ (EP _ _ _ _ (nj hc xs ds hx (fun κ hκ=>hk κ (by simp [hκ]))) (D6 _ _ ht h2)) hc.lt).mono ?_
  rintro e w' ⟨v,rfl,hX,hv⟩
  exact ⟨v,_,rfl,hc.fresh hX,hv⟩) h hg hN hs rfl
end
theorem ir {c:Cx} {w:World}:∀(d:D) (vs:List Value),isT d=false→Sy.oks c w (flat d) vs→Rp w c.F d vs:=by
 intro d vs ht ho
 cases d with
 | t ds=>cases ht
 | _=>
  obtain ⟨y,t,rfl,h1,h2⟩:=ho
  cases (show t = [] from h2)
  exact h1
theorem y8 {c:Cx} {w:World}:∀(ss ts:List Sy) (vs:List Value),Sy.oks c w (ss++ts) vs→∃us xs,vs=us++xs∧Sy.oks c w ss us∧Sy.oks c w ts xs:=by
 intro ss
 induction ss with
 | nil=>intro ts vs h;exact ⟨[],vs,rfl,rfl,h⟩
 | cons s ss ih=>
  intro ts vs ⟨y,t,h1,h2,h3⟩
  obtain ⟨us,xs,e,h4,h5⟩:=ih ts t h3
  exact ⟨y :: us,xs,by rw [h1,e];rfl,⟨y,us,rfl,h2,h4⟩,h5⟩
mutual
theorem sn {c:Cx} {w:World}:∀(d:D) (vs:List Value),Sy.oks c w (flat d) vs→Rp w c.F d vs
 | .t ds,vs,h=>pU ds vs h
 | .i n,vs,h=>ir (.i n) vs rfl h
 | .s n,vs,h=>ir (.s n) vs rfl h
 | .b n,vs,h=>ir (.b n) vs rfl h
 | .l z xs,vs,h=>ir (.l z xs) vs rfl h
 | .n z,vs,h=>ir (.n z) vs rfl h
 | .p d,vs,h=>ir (.p d) vs rfl h
 | .f g ds,vs,h=>ir (.f g ds) vs rfl h
 | .any,vs,h=>ir .any vs rfl h
theorem pU {c:Cx} {w:World}:∀(ds:List D) (vs:List Value),Sy.oks c w (px ds) vs→RpL w c.F ds vs
 | [],vs,h=>h
 | d :: ds,vs,h=>by
  obtain ⟨us,xs,e,h1,h2⟩:=y8 (flat d) (px ds) vs h
  exact ⟨us,xs,e,sn d us h1,pU ds xs h2⟩
end
theorem Holds.fzX {W0:cf} {N t i:Nat} {σ:Env} {cs:List Sy} (D:D) {a:Act} {w:World} (ht:au σ t=some (.sy (.bx i 0))) (hi:au σ i=some (.tk (.bx cs))) (hD:cs=flat D) (hu:Nat.beq i t=false) (hh:Holds W0 N σ a w):Holds W0 N ((t,.sy (.at D)) :: (i,.no) :: σ) a w:=by
 subst hD
 obtain ⟨c,hc⟩:=hh
 have hf:=hc.freeze hi
 obtain ⟨v,h3,_,b,h4,h5⟩:=hc.tmp t _ ht
 obtain ⟨_,⟨b',us,e3,e4,e5,e6⟩,_⟩:=hc.tok i _ hi
 rw [h4] at e3;cases e3
 have hput:=hf.put (d:=t) (s:=.at D) (v:=v) (by rw [← hc.size];exact (Array.getElem?_eq_some_iff.1 h3).1) ⟨b,0,us,h5,.inr e4,Rp.keep (fun _ h=>.inl h) (fun _ _ _=>rfl) _ _ (sn D us e5),fun j u hj=>by rw [Nat.zero_add];exact (e6 j u hj).1⟩ (.inr ⟨.bx i 0,by rw [ah,if_neg (fun e=>by rw [e] at hu;simp at hu)];exact ht⟩)
 have e:a.put (some t) v=a:=qz (iH _ _ _) (fun j=>by
  simp only [Act.put]
  by_cases hj:t=j
  ·subst hj
   rw [Array.getElem?_setIfInBounds_self_of_lt (Array.getElem?_eq_some_iff.1 h3).1,h3]
  ·rw [Array.getElem?_setIfInBounds_ne hj])
 rw [e] at hput
 exact ⟨_,hput⟩
theorem FK (t:Nat) (D:D) {P:Program} {W0:cf} {N:Nat} {σ:Env} {Q:Exit→Act→World→Prop} {x:Code} {i:Nat} {cs:List Sy} (h:az P W0 N x ((t,.sy (.at D)) :: (i,.no) :: σ) Q) (hx:au σ t=some (.sy (.bx i 0)):=by rfl) (hi:au σ i=some (.tk (.bx cs)):=by rfl) (hD:cs=flat D:=by rfl) (hu:Nat.beq i t=false:=by rfl):az P W0 N x σ Q:=fun a w hh=>h a w (hh.fzX D hx hi hD hu)
theorem rH {P:Program} {ops:Array Oper} {W0:cf} {N:Nat} {Fin:Us→Env→Prop} {os:List Oper} {us:Us} {pk fk:List Nat} {σ:Env} (t:Nat) (D:D) {o:Oper} {i:Nat} {cs:List Sy} (h:Der P ops W0 N Fin (o :: os) us ([t,i]++pk) ([t,i]++fk) ((t,.sy (.at D)) :: (i,.no) :: σ)) (hx:au σ t=some (.sy (.bx i 0)):=by rfl) (hi:au σ i=some (.tk (.bx cs)):=by rfl) (hD:cs=flat D:=by rfl) (hu:Nat.beq i t=false:=by rfl):Der P ops W0 N Fin (o :: os) us pk fk σ:=by
 obtain ⟨keys,upd,h1,h2⟩:=h
 refine ⟨keys++[t,i],upd++[(t,.sy (.at D)),(i,.no)],fun σ' a w hk hh=>?_,?_⟩
 ·have h3:=Holds.fzX D ((hk t (by simp)).trans hx) ((hk i (by simp)).trans hi) hD hu hh
  have h4:=h1 _ a w (fun κ hκ=>?_) h3
  ·rw [List.append_assoc];exact h4
  ·rw [ah,ah,ah,ah,hk κ (by simp [hκ])]
 ·simp only [List.append_assoc,List.map_append] at h2 ⊢
  exact h2
def rt:List D→Nat→D→Option (List D)
 | [],_,_=>none
 | d :: ds,o,r=>match Nat.beq o 0 with
  | true=>match isT d with|true=>none|false=>some (r :: ds)
  | false=>match Nat.ble d.sz o with|true=>(rt ds (o - d.sz) r).map (d :: ·)|false=>none
def GP:D→Nat→D→Option D
 | .t ds,o,r=>(rt ds o r).map .t
 | _,0,r=>some r
 | _,_,_=>none
theorem yA {w:World} {S:BS} {r:D} {v:Value} (hr:Rp w S r [v]):∀(ds:List D) (o:Nat) (cs:List Value) (es:List D),RpL w S ds cs→rt ds o r=some es→o<cs.length∧RpL w S es (cs.set o v):=by
 intro ds
 induction ds with
 | nil=>intro o cs es _ h;cases h
 | cons d ds ih=>
  intro o cs es ⟨c,e,h1,h2,h3⟩ h
  unfold rt at h
  have hl:=Rp.len d c h2
  split at h
  ·rename_i h0
   have:=Nat.eq_of_beq_eq_true h0
   subst this
   split at h
   ·cases h
   ·rename_i hT
    cases h
    have hz:d.sz=1:=by cases d <;> first|rfl|cases hT
    obtain ⟨u,rfl⟩:=List.length_eq_one_iff.1 (hl.trans hz)
    subst h1
    exact ⟨by simp,[v],e,rfl,hr,h3⟩
  ·split at h
   ·rename_i hle
    have hle':=Nat.le_of_ble_eq_true hle
    rw [Option.map_eq_some_iff] at h
    obtain ⟨es',h4,rfl⟩:=h
    obtain ⟨h5,h6⟩:=ih _ e es' h3 h4
    refine ⟨by rw [h1,List.length_append];omega,c,e.set (o - d.sz) v,?_,h2,h6⟩
    rw [h1,List.set_append_right _ _ (by omega),hl]
   ·cases h
theorem El {w:World} {S:BS} {d q r:D} {o:Nat} {cs:List Value} {v:Value} (hr:Rp w S r [v]) (h:Rp w S d cs) (hq:GP d o r=some q):o<cs.length∧Rp w S q (cs.set o v):=by
 cases d with
 | t ds=>
  unfold GP at hq
  rw [Option.map_eq_some_iff] at hq
  obtain ⟨es,h1,rfl⟩:=hq
  exact yA hr ds o cs es h h1
 | _=>
  have hl:=Rp.len _ _ h
  obtain ⟨u,rfl⟩:=List.length_eq_one_iff.1 hl
  cases o with
  | zero=>cases hq;exact ⟨by simp,hr⟩
  | succ o=>cases hq
section
variable {P:Program} {ops:Array Oper} {W0:cf} {N:Nat} {Fin:Us→Env→Prop} {os:List Oper} {us:Us} {pk fk:List Nat} {σ:Env} {g:Option (Nat × Bool)} {gk:List Nat} {d ty ty':Nat} {pos:String} {after:Array Edge}
theorem b8 {x y:Operand} {s t:Sy} {e n:Nat} {ti:TypeInfo} {z:Value} {r:D} (h:Der P ops W0 N Fin os (us++[((d :: (gk++((10000+d) :: (kx x++kx y))))++pk,([d,10000+d])++fk)]) [] [] ((d,.sy (.k (10000+d))) :: (10000+d,.tk (.row 1 e (List.replicate n r))) :: σ)) (hx:ev σ x=some s:=by rfl) (hy:ev σ y=some t:=by rfl) (hm:s.int? = some (n:Int):=by rfl) (hm':t.int? = some (n:Int):=by rfl) (hf:au σ (10000+d)=none:=by rfl) (he:elem? P ty'=some e:=by rfl) (hti:P.info? e=some ti:=by rfl) (htz:ti.zero=some z:=by rfl) (hsz:ti.size=1:=by rfl) (hzr:zok r [z]=true:=by rfl) (hT:isT r=false:=by rfl) (hb:ti.bytes * n≤1000000000:=by first|omega|(simp;omega)) (hn:n≤1000000000:=by omega) (hg:gst ops σ g=some (true,gk):=by rfl) (hN:Nat.blt d N=true:=by rfl) (hs:aM ((10000+d,.tk (.row 1 e (List.replicate n r))) :: σ) d=true:=by rfl) (hu:Nat.beq (10000+d) d=false:=by rfl):Der P ops W0 N Fin (⟨some d,.makeSlice ty' x y,ty,pos,after,g⟩ :: os) us pk fk σ:=by
 refine me (.k (10000+d)) ((10000+d) :: (kx x++kx y)) [(10000+d,.tk (.row 1 e (List.replicate n r)))] (fun σ' c a w hk hc=>?_) h hg hN hs (by simp [hu])
 have h1:=ex hm (av hc (af hx (fun κ hκ=>hk κ (by simp [hκ]))))
 have h2:=ex hm' (av hc (af hy (fun κ hκ=>hk κ (by simp [hκ]))))
 have hml:n≤maxLen:=Nat.le_trans hn (Nat.le_of_ble_eq_true rfl)
 obtain ⟨w',h3,h4,h5⟩:=run_make_full (P:=P) w w.heap.size ty' e ti z 1 (eD he) hti htz hsz .i64 .i64 n (by omega) hml (Nat.le_refl _)
 have hrz:∀S,Rp w' S r [z]:=fun S=>pJ r [z] hzr
 have hz1:z.cells = #[z]:=by
  have:=Rp.one r [z] (hrz (fun _=>True)) z (by simp)
  cases z <;> first|rfl|simp [Value.oneCell'] at this
 rw [hz1,Nat.mul_one,toList_madeCells_one] at h4
 have hX:Ext w w':=⟨h5.os,h5.tape,h5.output,h5.size,fun b hb=>h5.block b hb (by simp)⟩
 have hc1:=hc.grow hX c.F (fun _ h=>h) (fun _ h=>.inl h) (fun b hb=>Nat.lt_of_lt_of_le (hc.lt b hb) (Below.size hX))
 have hrun:(execOp a.eval ⟨some d,.makeSlice ty' x y,ty,pos,after,g⟩).run P w=.ok (.value (.slice (some ⟨w.heap.size,0,none⟩) n n)) w':=d7 (X:=Instr.makeSlice ty' (a.eval x) (a.eval y)) (by rw [h1,h2];exact h3)
 unfold Oper.wp
 rw [hrun]
 have hlt:=h4.lt w.heap.size rfl
 refine ⟨_,_,rfl,hc1.new (i:=10000+d) (t:=.row 1 e (List.replicate n r)) (v:=.slice (some ⟨w.heap.size,0,none⟩) n n) (S:=fun b=>b=w.heap.size) ((hk _ (by simp)).trans hf) (.inr ⟨List.replicate n z,?_,fun g hg=>by cases hg;rfl,fun j hj=>?_⟩) (fun b hb=>⟨fun hF=>?_,?_⟩) (fun j u hj b hb hT=>?_),.inr rfl,(if_pos rfl).symm⟩
 ·rw [List.length_replicate]
  exact ⟨h4.1,h4.2.imp id (fun ⟨g,cap,cur,q1,_,q2⟩=>⟨g,cap,cur,q1,Nat.zero_le _,q2⟩)⟩
 ·rw [List.length_replicate] at hj
  refine ⟨[z],rfl,by rw [List.getElem_replicate];exact hrz _,fun t u ht=>?_⟩
  rw [List.getElem?_replicate,if_pos (by
   have:t<1:=by
    rcases Nat.lt_or_ge t 1 with h|h
    ·exact h
    ·rw [List.getElem?_eq_none (by simpa using h)] at ht;cases ht
   omega)]
  rcases t with _|t
  ·simpa using ht
  ·simp at ht
 ·subst hb;exact absurd (hc.lt _ hF) (Nat.lt_irrefl _)
 ·subst hb;exact ⟨hlt.2,.inr hc.ext.size⟩
 ·subst hb;exact absurd ((hc.tok j u hj).2.2 _ hT).2.1 (Nat.lt_irrefl _)
theorem aC {α:Type} {f:α→D} {l:List α} (x':α) {x y:Operand} {i z n o e:Nat} {r:D} (h:Der P ops W0 N Fin os (us++[((gk++(i :: (kx x++kx y)))++pk,([i])++fk)]) [] [] ((i,.tk (.row z e ((l.set n x').map f))) :: σ)) (hx:ev σ x=some (.el i z n o):=by rfl) (hi:au σ i=some (.tk (.row z e (l.map f))):=by rfl) (hy:(ev σ y).bind Sy.dat=some r:=by rfl) (hr:isT r=false:=by rfl) (hlt:n<l.length:=by first|assumption|omega) (hq:GP (f l[n]) o r=some (f x'):=by rfl) (hz:sizeOf? P ty'=some 1:=by rfl) (hg:gst ops σ g=some (true,gk):=by rfl):Der P ops W0 N Fin (⟨none,.store ty' x y,ty,pos,after,g⟩ :: os) us pk fk σ:=
 lI (i :: (kx x++kx y)) [(i,.tk (.row z e ((l.set n x').map f)))] (fun σ' c a w hk hc=>by
  obtain ⟨hAi,b,m,cp,e1,e2⟩:=av hc (af hx (fun κ hκ=>hk κ (by simp [hκ])))
  have hi':=(hk i (by simp)).trans hi
  obtain ⟨_,hT,hlt'⟩:=hc.tok i _ hi'
  rcases hT with ⟨hd,_⟩|⟨cells,own,hS,hel⟩
  ·rw [List.map_eq_nil_iff] at hd;subst hd;exact absurd hlt (Nat.not_lt_zero _)
  rw [Option.bind_eq_some_iff] at hy
  obtain ⟨sy,hy1,hy2⟩:=hy
  have hv:=jW hy2 (av hc (af hy1 (fun κ hκ=>hk κ (by simp [hκ]))))
  have hvr:Rp w c.F r [a.eval y]:=by
   cases r with
   | t ds=>cases hr
   | _=>exact hv
  have hone:(a.eval y).oneCell'=true:=Rp.one _ _ hvr (a.eval y) (List.mem_singleton.2 rfl)
  obtain ⟨cs,q1,q2,q3⟩:=hel n (by rw [List.length_map];exact hlt)
  rw [List.getElem_map] at q2
  obtain ⟨ho,q4⟩:=El hvr q2 hq
  rw [e1] at own
  have hcs:cells.length=(l.map f).length * z:=own.1
  have hin:n * z+o<(l.map f).length * z:=by
   rw [List.length_map]
   have:n * z+z≤l.length * z:=by rw [← Nat.succ_mul];exact Nat.mul_le_mul_right z hlt
   omega
  have own':w.ownsRow 0 e z (.slice (some ⟨b,0,none⟩) (l.map f).length cp) (l.map f).length cells:=by
   rcases own.2 with ⟨hv0,_⟩|⟨gb,cap,cur,hv0,rest⟩
   ·cases hv0
   ·cases hv0;exact own
  have hb:c.T i b:=hS b (by rw [e1];rfl)
  have q5:=World.ownsRow.cellAt (h:=own') (n * z+o) hin
  rw [List.getElem?_eq_getElem (by omega)] at q5
  have q6:=World.ownsRow.frozenAt (h:=own') (n * z+o)
  obtain ⟨q7,q8⟩:=World.ownsRow.stored (h:=own') (n * z+o) (a.eval y)
  unfold Oper.wp
  rw [gH hz hone q5 q6 e2 rfl]
  have hch:Chg (c.T i) w (w.setCell ⟨b,n * z+o,none⟩ (a.eval y)):=Chg.grown (bO b (n * z+o) _) (fun g hg=>by cases hg;exact hb)
  have hm : .slice (some ⟨b,0,none⟩) m cp=Value.slice (some ⟨b,0,none⟩) (l.map f).length cp:=by
   rcases own.2 with ⟨hv0,_⟩|⟨gb,cap,cur,hv0,rest⟩
   ·cases hv0
   ·cases hv0;rfl
  refine ⟨rfl,c,hc.upd hi' hch (by simp) (fun hag=>.inr ⟨cells.set (n * z+o) (a.eval y),?_,hS,fun j hj=>?_⟩)⟩
  ·rw [e1,hm]
   simp only [List.length_map,List.length_set] at q7 ⊢
   exact q7
  ·simp only [List.length_map,List.length_set] at hj
   have hkeep:fR c.F w (w.setCell ⟨b,n * z+o,none⟩ (a.eval y)):=hag
   by_cases hjn:j=n
   ·subst hjn
    refine ⟨cs.set o (a.eval y),by rw [List.length_set,q1],?_,fun t u ht=>?_⟩
    ·rw [List.getElem_map,List.getElem_set_self]
     exact Rp.keep (fun _ h=>h) hkeep _ _ q4
    ·by_cases hto:o=t
     ·subst hto
      rw [List.getElem?_set_self ho] at ht
      rw [List.getElem?_set_self (by omega)]
      exact ht
     ·rw [List.getElem?_set_ne hto] at ht
      rw [List.getElem?_set_ne (by omega)]
      exact q3 t u ht
   ·obtain ⟨cs',p1,p2,p3⟩:=hel j (by rw [List.length_map];exact hj)
    refine ⟨cs',p1,?_,fun t u ht=>?_⟩
    ·rw [List.getElem_map] at p2 ⊢
     rw [List.getElem_set_ne (Ne.symm hjn)]
     exact Rp.keep (fun _ h=>h) hkeep _ _ p2
    ·have htz:t<z:=by
      rcases Nat.lt_or_ge t z with h|h
      ·exact h
      ·rw [List.getElem?_eq_none (by omega)] at ht;cases ht
     have hne:n * z+o≠j * z+t:=by
      rcases Nat.lt_or_ge j n with h|h
      ·have:j * z+z≤n * z:=by rw [← Nat.succ_mul];exact Nat.mul_le_mul_right z h
       omega
      ·have:n * z+z≤j * z:=by rw [← Nat.succ_mul];exact Nat.mul_le_mul_right z (by omega)
       omega
     rw [List.getElem?_set_ne hne]
     exact p3 t u ht) h hg
end
end Go.Proofs.YtclpbhoekmecjaaGreatDoor
namespace Go.Proofs.YtclpbhoekmecjaaGreatDoor
open Go.RowKit
set_option linter.unusedVariables false
set_option linter.unusedSimpArgs false
def sZ (σ:Env):Sy→Bool
 | .k i=>match au σ i with|some (.tk (.row _ _ _))=>true|some (.tk (.deep _ _ _ _))=>true|some (.tk (.own (.l _ _) _ _))=>true|some (.tk (.grw _ _ _))=>true|_=>false
 | s=>one? s
theorem ru {W0:cf} {N:Nat} {σ:Env} {a:Act} {w:World} {c:Cx} (h:aL W0 N σ a w c) {s:Sy} {v:Value} (hv:s.ok c w v) (hs:sZ σ s=true):v.oneCell'=true:=by
 cases s with
 | k j=>
  unfold sZ at hs
  dsimp only at hs
  obtain ⟨_,q2⟩:=hv
  rw [q2]
  split at hs
  ·rename_i hj
   obtain ⟨_,hT,_⟩:=h.tok j _ hj
   rcases hT with ⟨_,_,q3⟩|⟨cells,q1,_⟩
   ·rw [q3];rfl
   ·rcases q1.2 with ⟨q3,_⟩|⟨_,_,_,q3,_⟩ <;> rw [q3] <;> rfl
  ·rename_i hj
   obtain ⟨_,hT,_⟩:=h.tok j _ hj
   rcases hT with ⟨_,_,_,q3⟩|⟨cells,T,q1,_⟩
   ·rw [q3];rfl
   ·rcases q1.2 with ⟨q3,_⟩|⟨_,_,_,q3,_⟩ <;> rw [q3] <;> rfl
  ·rename_i hj
   obtain ⟨_,hT,_⟩:=h.tok j _ hj
   obtain ⟨a,k,q3,_⟩:=hT.1
   rw [(List.cons.inj q3).1];rfl
  ·rename_i hj
   obtain ⟨_,hT,_⟩:=h.tok j _ hj
   rcases hT with ⟨_,_,q3⟩|⟨cells,T,q1,_⟩
   ·rw [q3];rfl
   ·rcases q1.2 with ⟨q3,_⟩|⟨_,_,_,q3,_⟩ <;> rw [q3] <;> rfl
  ·cases hs
 | _=>exact DE hv hs (fun i h=>by cases h)
def iw:List Sy→List Nat
 | []=>[]
 | s :: ss=>kSy s++iw ss
theorem pS {σ σ':Env} {s:Sy} (h:∀κ∈kSy s,au σ' κ=au σ κ):sZ σ' s=sZ σ s:=by
 cases s with
 | k j=>unfold sZ;dsimp only;rw [h j (by simp [kSy])]
 | _=>rfl
theorem qE {W0:cf} {N:Nat} {σ:Env} {a:Act} {w:World} {c:Cx} (h:aL W0 N σ a w c):∀(ss:List Sy) (vs:List Value),Sy.oks c w ss vs→ss.all (sZ σ)=true→∀u∈vs,u.oneCell'=true:=by
 intro ss
 induction ss with
 | nil=>intro vs ho _ u hu;rw [show vs = [] from ho] at hu;cases hu
 | cons s ss ih=>
  intro vs ⟨v,t,e1,e2,e3⟩ hs u hu
  rw [List.all_cons,Bool.and_eq_true] at hs
  subst e1
  rcases List.mem_cons.1 hu with rfl|hu
  ·exact ru h e2 hs.1
  ·exact ih t e3 hs.2 u hu
theorem iR {σ σ':Env}:∀{ss:List Sy},(∀κ∈iw ss,au σ' κ=au σ κ)→ss.all (sZ σ')=ss.all (sZ σ):=by
 intro ss
 induction ss with
 | nil=>intro _;rfl
 | cons s ss ih=>
  intro h
  rw [List.all_cons,List.all_cons,pS (fun κ hκ=>h κ (by simp [iw,hκ])),ih (fun κ hκ=>h κ (by simp [iw,hκ]))]
def GL (ss:List Sy):List (Nat × Sy)→List Sy
 | []=>ss
 | (i,s) :: ps=>GL (ss.set i s) ps
def evq (σ:Env):List (Nat × Operand)→Option (List (Nat × Sy))
 | []=>some []
 | (i,x) :: ps=>match ev σ x,evq σ ps with
  | some s,some rs=>some ((i,s) :: rs)
  | _,_=>none
def Fp (vs:List Value):List (Nat × Value)→List Value
 | []=>vs
 | (i,v) :: ps=>Fp (vs.set i v) ps
def GC (n:Nat):List (Nat × Nat):=(List.range n).map fun i=>(i,1)
theorem Ah {n:Nat} {place:Nat→Option (Nat × Nat)} (hp:∀i,i<n→place i=some (i,1)):∀(ps:List (Nat × Value)) (cs:List Value),n≤cs.length→(∀p∈ps,p.1<n∧p.2.oneCell'=true)→Instr.fill place cs.toArray ps=some (Fp cs ps).toArray:=by
 intro ps
 induction ps with
 | nil=>intro cs _ _;rfl
 | cons p ps ih=>
  intro cs hl h
  obtain ⟨i,v⟩:=p
  obtain ⟨h1,h2⟩:=h (i,v) (by simp)
  unfold Instr.fill
  rw [hp i h1]
  have hc:=tt h2
  dsimp only
  rw [hc]
  have:=ih (cs.set i v) (by simpa using hl) (fun p hp=>h p (by simp [hp]))
  have h3:i+1≤cs.length:=by omega
  simpa [Fp,h3] using this
theorem BR {c:Cx} {w:World}:∀(ps:List (Nat × Sy)) (qs:List (Nat × Value)) (ss:List Sy) (vs:List Value),Sy.oks c w ss vs→ps.length=qs.length→(∀(j i:Nat) (s:Sy),ps[j]? = some (i,s)→∃v,qs[j]? = some (i,v)∧s.ok c w v)→Sy.oks c w (GL ss ps) (Fp vs qs):=by
 intro ps
 induction ps with
 | nil=>intro qs ss vs h hl _;cases qs with|nil=>exact h|cons q qs=>simp at hl
 | cons p ps ih=>
  intro qs ss vs h hl hq
  obtain ⟨i,s⟩:=p
  cases qs with
  | nil=>simp at hl
  | cons q qs=>
   obtain ⟨v,e,hv⟩:=hq 0 i s rfl
   simp at e
   subst e
   exact ih qs _ _ (kS _ _ _ _ _ h hv) (by simpa using hl) (fun j i' s' hj=>by have:=hq (j+1) i' s' (by simpa using hj);simpa using this)
theorem FU {W0:cf} {N:Nat} {a:Act} {w:World} {c:Cx} {σ σ':Env} (h:aL W0 N σ' a w c):∀(xs:List (Nat × Operand)) (ps:List (Nat × Sy)),evq σ xs=some ps→(∀κ∈kxp xs,au σ' κ=au σ κ)→ps.length=(xs.map fun p=>(p.1,a.eval p.2)).length∧∀(j i:Nat) (s:Sy),ps[j]? = some (i,s)→∃v,(xs.map fun p=>(p.1,a.eval p.2))[j]? = some (i,v)∧s.ok c w v:=by
 intro xs
 induction xs with
 | nil=>intro ps he _;cases he;exact ⟨rfl,fun j i s hj=>by simp at hj⟩
 | cons x xs ih=>
  intro ps he hk
  obtain ⟨i0,x⟩:=x
  unfold evq at he
  split at he
  ·rename_i s rs h1 h2
   cases he
   obtain ⟨h3,h4⟩:=ih rs h2 (fun κ hκ=>hk κ (by simp [kxp,hκ]))
   refine ⟨by simpa using h3,fun j i s' hj=>?_⟩
   cases j with
   | zero=>simp at hj;obtain ⟨rfl,rfl⟩:=hj;exact ⟨_,rfl,av h (af h1 (fun κ hκ=>hk κ (by simp [kxp,hκ])))⟩
   | succ j=>simp at hj;obtain ⟨v,e,hv⟩:=h4 j i s' hj;exact ⟨v,by simpa using e,hv⟩
  ·cases he
section
variable {P:Program} {ops:Array Oper} {W0:cf} {N:Nat} {Fin:Us→Env→Prop} {os:List Oper} {us:Us} {pk fk:List Nat} {σ:Env} {g:Option (Nat × Bool)} {gk:List Nat} {d ty ty' f:Nat} {pos:String} {after:Array Edge} {at':Array TypeId}
theorem aH {xs:List (Nat × Operand)} {ps:List (Nat × Sy)} {ds0:List D} {v0:Value} (h:Der P ops W0 N Fin os (us++[((d :: (gk++(iw (ps.map Prod.snd)++kxp xs)))++pk,([d])++fk)]) [] [] ((d,.sy (.ag (GL (px ds0) ps))) :: σ)) (hx:evq σ xs=some ps:=by rfl) (hr:zd P 4 ty'=some (.t ds0):=by rfl) (hv:su P ty'=some v0:=by rfl) (hz:zok (.t ds0) v0.cells.toList=true:=by rfl) (hp:plc P ty'=some (GC v0.cells.size):=by rfl) (hi:(ps.all fun p=>Nat.blt p.1 v0.cells.size)=true:=by rfl) (h1:(ps.map Prod.snd).all (sZ σ)=true:=by rfl) (hg:gst ops σ g=some (true,gk):=by rfl) (hN:Nat.blt d N=true:=by rfl) (hs:aM σ d=true:=by rfl):Der P ops W0 N Fin (⟨some d,.build ty' xs.toArray,ty,pos,after,g⟩ :: os) us pk fk σ:=
 b6 (.ag (GL (px ds0) ps)) (iw (ps.map Prod.snd)++kxp xs) (fun σ' c a w hk hc=>by
  obtain ⟨h3,h4⟩:=FU hc xs ps hx (fun κ hκ=>hk κ (by simp [hκ]))
  have hz0:Sy.oks c w (px ds0) v0.cells.toList:=nF ds0 _ (pJ (.t ds0) _ hz)
  have hone:=iR (σ:=σ) (σ':=σ') (ss:=ps.map Prod.snd) (fun κ hκ=>hk κ (by simp [hκ]))
  rw [h1] at hone
  have hall:∀p∈(xs.map fun p=>(p.1,a.eval p.2)),p.1<v0.cells.size∧p.2.oneCell'=true:=fun p hm=>by
   obtain ⟨j,hj,e⟩:=List.getElem_of_mem hm
   have hj':j<ps.length:=by omega
   obtain ⟨v,e2,hv2⟩:=h4 j (ps[j]).1 (ps[j]).2 (List.getElem?_eq_getElem hj')
   rw [List.getElem?_eq_getElem hj,e] at e2
   cases e2
   exact ⟨Nat.blt_eq.mp (List.all_eq_true.1 hi _ (List.getElem_mem hj')),ru hc hv2 (List.all_eq_true.1 hone _ (List.mem_map.2 ⟨_,List.getElem_mem hj',rfl⟩))⟩
  have hfill:Instr.fill (fun i=>(GC v0.cells.size)[i]?) v0.cells (xs.map fun p=>(p.1,a.eval p.2))=some (Fp v0.cells.toList (xs.map fun p=>(p.1,a.eval p.2))).toArray:=by
   have:=Ah (n:=v0.cells.size) (place:=fun i=>(GC v0.cells.size)[i]?) (fun i hi=>by unfold GC;simp [hi]) _ v0.cells.toList (by simp) hall
   rw [Array.toArray_toList] at this;exact this
  have hb:=qK hv hp hfill
  refine ⟨.agg (Fp v0.cells.toList (xs.map fun p=>(p.1,a.eval p.2))).toArray,?_,_,rfl,BR ps _ _ _ hz0 h3 h4⟩
  refine d7 (X:=Instr.build ty' (xs.toArray.map fun (i,x)=>(i,a.eval x))) (run_build w ty' _ _ (qK hv hp ?_))
  simpa using hfill) h hg hN hs
theorem aE {x y:Operand} {i:Nat} {cs ss:List Sy} (h:Der P ops W0 N Fin os (us++[((gk++(i :: (iw ss++(kx x++kx y))))++pk,([i])++fk)]) [] [] ((i,.tk (.bx ss)) :: σ)) (hx:ev σ x=some (.bx i 0):=by rfl) (hi:au σ i=some (.tk (.bx cs)):=by rfl) (hy:ev σ y=some (.ag ss):=by rfl) (hz:sizeOf? P ty'=some ss.length:=by rfl) (hl:Nat.beq cs.length ss.length=true:=by rfl) (h1:ss.all (sZ σ)=true:=by rfl) (hg:gst ops σ g=some (true,gk):=by rfl):Der P ops W0 N Fin (⟨none,.store ty' x y,ty,pos,after,g⟩ :: os) us pk fk σ:=
 lI (i :: (iw ss++(kx x++kx y))) [(i,.tk (.bx ss))] (fun σ' c a w hk hc=>by
  obtain ⟨hAi,b,e1,e2⟩:=av hc (af hx (fun κ hκ=>hk κ (by simp [hκ])))
  have hi':=(hk i (by simp)).trans hi
  obtain ⟨_,⟨b',vs,e3,e4,e5,e6⟩,hlt⟩:=hc.tok i _ hi'
  rw [e1] at e3;cases e3
  obtain ⟨us',e7,e8⟩:=av hc (af hy (fun κ hκ=>hk κ (by simp [hκ])))
  have hone:=iR (σ:=σ) (σ':=σ') (ss:=ss) (fun κ hκ=>hk κ (by simp [hκ]))
  rw [h1] at hone
  have hlen:us'.length=vs.length:=by rw [dU _ _ e8,dU _ _ e5,Nat.eq_of_beq_eq_true hl]
  obtain ⟨w',r1,r2,r3,r4⟩:=mr (P:=P) e6 0 us' (by omega) ty' (by rw [dU _ _ e8];exact cZ hz) (List.all_eq_true.2 (fun u hu=>qE hc _ _ e8 hone u hu))
  have hrun:(execOp a.eval ⟨none,.store ty' x y,ty,pos,after,g⟩).run P w=.ok .skip w':=qT (X:=Instr.storeAt ty' (a.eval x) (a.eval y)) (by rw [e2,e7];exact r1)
  unfold Oper.wp
  rw [hrun]
  have hpa:ka vs 0 us'=us':=by
   apply List.ext_getElem?
   intro j
   by_cases hj:j<us'.length
   ·have:=kk us' vs 0 j _ (by omega) (List.getElem?_eq_getElem hj)
    rw [Nat.zero_add] at this
    rw [this,List.getElem?_eq_getElem hj]
   ·rw [List.getElem?_eq_none (by rw [mW];omega),List.getElem?_eq_none (by omega)]
  rw [hpa] at r2
  exact ⟨rfl,c,hc.upd hi' (Chg.grown r3 (fun g hg=>by cases hg;exact e4)) r4 (fun hag=>⟨b,us',e1,e4,Sy.keeps (Cx.Le.refl c) hag _ _ e8,r2⟩)⟩) h hg
theorem bw {x:Operand} {i:Nat} {cs:List Sy} (h:Der P ops W0 N Fin os (us++[((d :: (gk++(i :: kx x)))++pk,([d])++fk)]) [] [] ((d,.sy (.ag cs)) :: σ)) (hx:ev σ x=some (.bx i 0):=by rfl) (hi:au σ i=some (.tk (.bx cs)):=by rfl) (hA:isAgg? P ty'=some true:=by rfl) (hz:sizeOf? P ty'=some cs.length:=by rfl) (hg:gst ops σ g=some (true,gk):=by rfl) (hN:Nat.blt d N=true:=by rfl) (hs:aM σ d=true:=by rfl):Der P ops W0 N Fin (⟨some d,.load ty' x,ty,pos,after,g⟩ :: os) us pk fk σ:=
 b6 (.ag cs) (i :: kx x) (fun σ' c a w hk hh=>by
  obtain ⟨hAi,b,h1,h2⟩:=av hh (af hx (fun κ hκ=>hk κ (by simp [hκ])))
  obtain ⟨_,⟨b',vs,h3,h4,h5,h6⟩,_⟩:=hh.tok i _ ((hk i (by simp)).trans hi)
  rw [h1] at h3;cases h3
  exact ⟨.agg vs.toArray,d7 (X:=Instr.loadAt ty' (a.eval x)) (by rw [h2];exact fc hA (by rw [hz,dU _ _ h5]) (fun j u hj=>by rw [Nat.zero_add];exact (h6 j u hj).1)),vs,rfl,h5⟩) h hg hN hs
theorem cz {x:Operand} {k o off:Nat} {cs:List Sy} (h:Der P ops W0 N Fin os (us++[((d :: (gk++kx x))++pk,([d])++fk)]) [] [] ((d,.sy (.atS (off+o) cs)) :: σ)) (hx:ev σ x=some (.atS off cs):=by rfl) (ho:fld P ty' k=some o:=by rfl) (hg:gst ops σ g=some (true,gk):=by rfl) (hN:Nat.blt d N=true:=by rfl) (hs:aM σ d=true:=by rfl):Der P ops W0 N Fin (⟨some d,.fieldAddr ty' x k,ty,pos,after,g⟩ :: os) us pk fk σ:=
 b6 (.atS (off+o) cs) (kx x) (fun σ' c a w hk hc=>by
  obtain ⟨b,vs,h1,h2⟩:=av hc (af hx hk)
  exact ⟨_,d7 (X:=Instr.fieldAt ty' (a.eval x) k) (by rw [h1];exact oD ho),b,vs,rfl,h2⟩) h hg hN hs
theorem br {x:Operand} {o:Nat} {cs:List Sy} {s:Sy} (h:Der P ops W0 N Fin os (us++[((d :: (gk++kx x))++pk,([d])++fk)]) [] [] ((d,.sy s) :: σ)) (hx:ev σ x=some (.atS o cs):=by rfl) (hc:cs[o]? = some s:=by rfl) (hA:isAgg? P ty'=some false:=by rfl) (hg:gst ops σ g=some (true,gk):=by rfl) (hN:Nat.blt d N=true:=by rfl) (hs:aM σ d=true:=by rfl):Der P ops W0 N Fin (⟨some d,.load ty' x,ty,pos,after,g⟩ :: os) us pk fk σ:=
 b6 s (kx x) (fun σ' c a w hk hh=>by
  obtain ⟨b,vs,h1,h2,h3,h4,_⟩:=av hh (af hx hk)
  obtain ⟨v,h7,h8⟩:=sj cs vs o s h3 hc
  have:=h4 o v h7
  rw [Nat.zero_add] at this
  exact ⟨v,d7 (X:=Instr.loadAt ty' (a.eval x)) (by rw [h1];exact iU hA this),h8⟩) h hg hN hs
theorem aK {x:Operand} {cs:List Sy} (h:Der P ops W0 N Fin os (us++[((d :: (gk++kx x))++pk,([d])++fk)]) [] [] ((d,.sy (.ag cs)) :: σ)) (hx:ev σ x=some (.atS 0 cs):=by rfl) (hA:isAgg? P ty'=some true:=by rfl) (hz:sizeOf? P ty'=some cs.length:=by rfl) (hg:gst ops σ g=some (true,gk):=by rfl) (hN:Nat.blt d N=true:=by rfl) (hs:aM σ d=true:=by rfl):Der P ops W0 N Fin (⟨some d,.load ty' x,ty,pos,after,g⟩ :: os) us pk fk σ:=
 b6 (.ag cs) (kx x) (fun σ' c a w hk hh=>by
  obtain ⟨b,vs,h1,h2,h3,h4,_⟩:=av hh (af hx hk)
  exact ⟨.agg vs.toArray,d7 (X:=Instr.loadAt ty' (a.eval x)) (by rw [h1];exact fc hA (by rw [hz,dU _ _ h3]) h4),vs,rfl,h3⟩) h hg hN hs
theorem oN {P:Program} {w:World} {t e:TypeId} {ad:Option Addr} {n k:Nat} (d:Nat) (ht:elem? P t=some e):(Op.equalIn (d+1) t (.slice ad n k) (.slice none 0 0)).run P w=.ok (decide (ad=none)) w:=by
 cases ad <;> simp [Op.equalIn,run_underlying (eD ht)]
theorem zS {P:Program} {ρ:Operand→Value} {w:World} {d:Option Tmp} {x:Operand} {ty ty' ty2 e:Nat} {pos:String} {after:Array Edge} {g:Option (Nat × Bool)} {ad:Option Addr} {n k:Nat} (ht:elem? P ty'=some e) (h1:ρ x=.slice ad n k) (h2:ρ (.const (.slice none 0 0))=.slice none 0 0):(execOp ρ ⟨d,.binOp .eql ty' x (.const (.slice none 0 0)) ty2,ty,pos,after,g⟩).run P w=.ok (.value (.bool (decide (ad=none)))) w:=by
 have h3:(Op.equal ty' (.slice ad n k) (.slice none 0 0)).run P w=.ok (decide (ad=none)) w:=oN 9999 ht
 simp [execOp,h1,h2,eqGuard,binOp,h3,go_sem]
theorem bf {x:Operand} {z:Nat} {xs:List D} {ty2 e:Nat} (h:Der P ops W0 N Fin os (us++[((d :: (gk++kx x))++pk,([d])++fk)]) [] [] ((d,.sy (.q (xs = []))) :: σ)) (hx:ev σ x=some (.d (.l z xs)):=by rfl) (ht:elem? P ty'=some e:=by rfl) (hg:gst ops σ g=some (true,gk):=by rfl) (hN:Nat.blt d N=true:=by rfl) (hs:aM σ d=true:=by rfl):Der P ops W0 N Fin (⟨some d,.binOp .eql ty' x (.const (.slice none 0 0)) ty2,ty,pos,after,g⟩ :: os) us pk fk σ:=
 b6 (.q (xs = [])) (kx x) (fun σ' c a w hk hc=>by
  obtain ⟨ad,k,h1,h2,h3,h4,h5⟩:=av hc (af hx hk)
  have h1':a.eval x=.slice ad xs.length k:=by simpa using h1
  refine ⟨.bool (decide (ad=none)),zS ht h1' rfl,decide (ad=none),rfl,fun hd=>?_⟩
  have hd':=of_decide_eq_true hd
  have:=h4 hd'
  exact List.eq_nil_of_length_eq_zero (by omega)) h hg hN hs
end
theorem GY {P:Program} {W0:cf} {N:Nat} {σ:Env} {Q:Exit→Act→World→Prop} {x y:Code} {c:Operand} {p:Prop} (ht:p→az P W0 N x σ Q) (hf:az P W0 N y σ Q) (hs:ev σ c=some (.q p):=by rfl):az P W0 N (.cond c x y) σ Q:=fun a w hh=>by
 obtain ⟨cx,hc⟩:=id hh
 obtain ⟨b,hv,hp⟩:=av hc hs
 cases b
 ·exact wp_cond_false hv (hf a w hh)
 ·exact wp_cond_true hv (ht (hp rfl) a w hh)
theorem Holds.fzS {W0:cf} {N t i:Nat} {σ:Env} {cs:List Sy} {a:Act} {w:World} (ht:au σ t=some (.sy (.bx i 0))) (hi:au σ i=some (.tk (.bx cs))) (h1:cs.all (sZ σ)=true) (hu:Nat.beq i t=false) (hh:Holds W0 N σ a w):Holds W0 N ((t,.sy (.atS 0 cs)) :: (i,.no) :: σ) a w:=by
 obtain ⟨c,hc⟩:=hh
 have hf:=hc.freeze hi
 obtain ⟨v,h3,_,b,h4,h5⟩:=hc.tmp t _ ht
 obtain ⟨_,⟨b',us,e3,e4,e5,e6⟩,_⟩:=hc.tok i _ hi
 rw [h4] at e3;cases e3
 have hle:Cx.Le c { c with F:=fun b=>c.F b∨c.T i b }:=⟨fun _ h=>.inl h,fun _ h=>⟨h,rfl⟩⟩
 have hput:=hf.put (d:=t) (s:=.atS 0 cs) (v:=v) (by rw [← hc.size];exact (Array.getElem?_eq_some_iff.1 h3).1) ⟨b,us,h5,.inr e4,Sy.keeps hle (fun _ _ _=>rfl) _ _ e5,fun j u hj=>by rw [Nat.zero_add];exact (e6 j u hj).1,qE hc _ _ e5 h1⟩ (.inr ⟨.bx i 0,by rw [ah,if_neg (fun e=>by rw [e] at hu;simp at hu)];exact ht⟩)
 have e:a.put (some t) v=a:=qz (iH _ _ _) (fun j=>by
  simp only [Act.put]
  by_cases hj:t=j
  ·subst hj
   rw [Array.getElem?_setIfInBounds_self_of_lt (Array.getElem?_eq_some_iff.1 h3).1,h3]
  ·rw [Array.getElem?_setIfInBounds_ne hj])
 rw [e] at hput
 exact ⟨_,hput⟩
def BL (d:Nat):Nat→List Pt→List Sy
 | _,[]=>[]
 | i,.d r :: ps=>.d r :: BL d (i+1) ps
 | i,.tk _ :: ps=>.k (30000+1000 * i+d) :: BL d (i+1) ps
def nr (d:Nat):Nat→List Pt→Env
 | _,[]=>[]
 | i,.d _ :: ps=>nr d (i+1) ps
 | i,.tk t :: ps=>(30000+1000 * i+d,.tk t) :: nr d (i+1) ps
theorem Tk.cx {t:Tk} (hb:t.rowB=true) {c c':Cx} {w:World} {v:Value} {S:BS} (hF:∀b,c.F b→c'.F b) (h:t.ok c w v S):t.ok c' w v S:=by
 cases t with
 | bx cs=>cases hb
 | mp m=>cases hb
 | abs p tag=>cases hb
 | bxs cs=>cases hb
 | bxt cs u=>cases hb
 | grw z e ds=>exact h
 | deep z e ds ps=>exact h
 | own d pin tag=>exact h
 | row z e ds=>
  rcases h with h|⟨cells,h1,h2,h3⟩
  ·exact .inl h
  ·refine .inr ⟨cells,h1,h2,fun j hj=>?_⟩
   obtain ⟨cs,q1,q2,q3⟩:=h3 j hj
   exact ⟨cs,q1,Rp.keep hF (fun _ _ _=>rfl) _ _ q2,q3⟩
theorem Al (d:Nat):∀(ps:List Pt) (i j:Nat) (x:In),au (nr d i ps) j=some x→∃k,i≤k∧j=30000+1000 * k+d:=by
 intro ps
 induction ps with
 | nil=>intro i j x h;cases h
 | cons p ps ih=>
  intro i j x h
  cases p with
  | d r=>obtain ⟨k,h1,h2⟩:=ih (i+1) j x h;exact ⟨k,by omega,h2⟩
  | tk t=>
   unfold nr at h
   rw [ah] at h
   split at h
   ·rename_i e;exact ⟨i,Nat.le_refl _,e.symm⟩
   ·obtain ⟨k,h1,h2⟩:=ih (i+1) j x h;exact ⟨k,by omega,h2⟩
theorem n8 {W0:cf} {N:Nat} {σ:Env} {a:Act} {w':World} {c0:Cx} (hc:aL W0 N σ a w' c0) (d m:Nat) (T:Nat→BS) (hm:W0.w.heap.size≤m) (hold:∀j u,au σ j=some (.tk u)→∀b,c0.T j b→b<m) (hT:∀i b,T i b→¬c0.F b∧m≤b∧b<w'.heap.size) (hdis:∀i j,i≠j→∀b,T i b→¬T j b):∀(ps:List Pt) (i:Nat) (vs:List Value),(∀k,au σ (30000+1000 * (i+k)+d)=none∨ps.length≤k)→vs.length=ps.length→(∀(k:Nat) (p:Pt),ps[k]? = some p→∃u,vs[k]? = some u∧p.ok w' c0.F (T (i+k)) u) →
 ∃c',aL W0 N (nr d i ps++σ) a w' c'∧c0.Le c'∧c'.F=c0.F∧(∀j u,au (nr d i ps++σ) j=some (.tk u)→(∀b,c'.T j b→b<m)∨∃k,i≤k∧c'.T j=T k)∧Sy.oks c' w' (BL d i ps) vs:=by
 intro ps
 induction ps with
 | nil=>
  intro i vs _ hl _
  exact ⟨c0,hc,Cx.Le.refl _,rfl,fun j u h=>.inl (hold j u h),List.eq_nil_of_length_eq_zero hl⟩
 | cons p ps ih=>
  intro i vs hf hl hp
  cases vs with
  | nil=>simp at hl
  | cons u vs=>
   obtain ⟨c1,h1,h2,h3,h4,h5⟩:=ih (i+1) vs (fun k=>by
    have:=hf (k+1)
    rw [show i+(k+1)=i+1+k by omega] at this
    simpa using this) (by simpa using hl) (fun k p' hk=>by
    have:=hp (k+1) p' (by simpa using hk)
    rw [show i+(k+1)=i+1+k by omega] at this
    simpa using this)
   obtain ⟨u',e1,hu⟩:=hp 0 p rfl
   simp at e1
   subst e1
   cases p with
   | d r=>exact ⟨c1,h1,h2,h3,fun j x hj=>(h4 j x hj).imp id (fun ⟨k,a,b⟩=>⟨k,by omega,b⟩),u,vs,rfl,by show DV w' c1.F r u;rw [h3];exact hu.2,h5⟩
   | tk t=>
    have hnone:au (nr d (i+1) ps++σ) (30000+1000 * i+d)=none:=by
     rw [ii]
     cases e:au (nr d (i+1) ps) (30000+1000 * i+d) with
     | some x=>obtain ⟨k,k1,k2⟩:=Al d ps _ _ _ e;omega
     | none=>
      have:=(hf 0).resolve_right (by simp)
      simpa using this
    have hnew:=h1.new (i:=30000+1000 * i+d) hnone (t:=t) (v:=u) (S:=T i) (Tk.cx hu.1 (fun b hb=>by rw [h3];exact hb) hu.2) (fun b hb=>by rw [h3];exact ⟨(hT i b hb).1,(hT i b hb).2.2,.inr (Nat.le_trans hm (hT i b hb).2.1)⟩) (fun j x hj b hb hb'=>by
     rcases h4 j x hj with h|⟨k,k1,k2⟩
     ·have:=h b hb';have:=(hT i b hb).2.1;omega
     ·rw [k2] at hb';exact hdis i k (by omega) b hb hb')
    have hA:¬c1.A (30000+1000 * i+d):=fun hA=>h1.all _ hA hnone
    have hle:=Cx.add_le (v:=u) (S:=T i) hA
    refine ⟨_,hnew,⟨fun b hb=>hle.F b (h2.F b hb),fun j hj=>⟨(hle.ρ j (h2.ρ j hj).1).1,(hle.ρ j (h2.ρ j hj).1).2.trans (h2.ρ j hj).2⟩⟩,h3,fun j x hj=>?_,u,vs,rfl,⟨.inr rfl,(if_pos rfl).symm⟩,Sy.keeps hle (fun _ _ _=>rfl) _ _ h5⟩
    show (∀b,(if j=30000+1000 * i+d then T i else c1.T j) b→b<m)∨∃k,i≤k∧(if j=30000+1000 * i+d then T i else c1.T j)=T k
    by_cases e:j=30000+1000 * i+d
    ·rw [if_pos e];exact .inr ⟨i,Nat.le_refl _,rfl⟩
    ·rw [if_neg e]
     have hj':au (nr d (i+1) ps++σ) j=some (.tk x):=by
      have:au ((30000+1000 * i+d,In.tk t) :: (nr d (i+1) ps++σ)) j=some (.tk x):=hj
      rw [ah,if_neg (Ne.symm e)] at this;exact this
     exact (h4 j x hj').imp id (fun ⟨k,a,b⟩=>⟨k,by omega,b⟩)
section
variable {P:Program} {ops:Array Oper} {W0:cf} {N:Nat} {Fin:Us→Env→Prop} {os:List Oper} {us:Us} {pk fk:List Nat} {σ:Env} {g:Option (Nat × Bool)} {gk:List Nat} {d ty ty' f:Nat} {pos:String} {after:Array Edge} {at':Array TypeId} {xs:List Operand} {ds:List D}
end
end Go.Proofs.YtclpbhoekmecjaaGreatDoor
namespace Go.Proofs.YtclpbhoekmecjaaGreatDoor
open Go.RowKit
set_option linter.unusedVariables false
set_option linter.unusedSimpArgs false
theorem Ht {w:World} {T:BS} {ls:List Int} {e z:Nat} {v:Value} {cells:List Value} {F:BS} (own:w.ownsRow 0 e 1 v (ls.map D.i).length cells) (hT:∀g,v.ownBlock=some g→T g) (hel:∀j (h:j<(ls.map D.i).length),∃cs,cs.length=1∧Rp w F (ls.map D.i)[j] cs∧∀t u,cs[t]? = some u→cells[j * 1+t]? = some u):Rp w T (DI ls) [v]:=by
 rcases own.2 with ⟨hv,hn⟩|⟨g,cap,cur,hv,_,hg,h5,h6,h7,h8⟩
 ·have:ls = []:=by cases ls with|nil=>rfl|cons=>simp at hn
  subst this
  exact ⟨none,0,by rw [hv];rfl,Nat.le_refl _,by decide,fun _=>rfl,.inl rfl⟩
 ·refine ⟨_,cap,by rw [hv],h5,h6,fun h=>(by cases h),.inr ⟨g,0,rfl,hT g (by rw [hv];rfl),(ij _ _).2 fun j hj=>?_⟩⟩
  obtain ⟨cs,q1,q2,q3⟩:=hel j hj
  rw [List.getElem_map] at q2 ⊢
  refine ⟨cs,q1,q2,fun t u ht=>?_⟩
  have:=q3 t u ht
  rw [hv] at own
  rw [Nat.zero_add,World.ownsRow.cellAt own (j * 1+t)]
  ·exact this
  ·rcases Nat.lt_or_ge (j * 1+t) cells.length with h|h
   ·rw [← own.1];exact h
   ·rw [List.getElem?_eq_none h] at this;cases this
theorem AC {w:World} {e z:Nat} {v:Value} {n:Nat} {cells:List Value} (own:w.ownsRow 0 e z v n cells) {g:Nat} (hg:v.ownBlock=some g):g<w.heap.size∧∀o,w.frozen? ⟨g,o,none⟩=false:=by
 refine ⟨(own.lt g hg).2,fun o=>?_⟩
 rcases own.2 with ⟨hv,_⟩|⟨g',cap,cur,hv,_,hb,_⟩
 ·rw [hv] at hg;cases hg
 ·rw [hv] at hg;cases hg
  exact frozen_of_row w _ o cur e hb
theorem Holds.nilD {W0:cf} {N i o z e id:Nat} {σ:Env} {cs:List Sy} {a:Act} {w:World} (hi:au σ i=some (.tk (.bx cs))) (hc:cs[o]? = some (.d (.n z))) (hf:au σ id=none) (hne:Nat.beq id i=false) (hh:Holds W0 N σ a w):Holds W0 N ((i,.tk (.bx (cs.set o (.k id)))) :: (id,.tk (.deep z e [] [])) :: σ) a w:=by
 obtain ⟨c,h⟩:=hh
 obtain ⟨_,⟨b,us,p1,p2,p3,p4⟩,_⟩:=h.tok i _ hi
 obtain ⟨v0,p5,a0,p6⟩:=sj cs us o _ p3 hc
 have hne':¬id=i:=fun e=>by rw [e] at hne;simp at hne
 have hle:c.Le (c.add id v0 (fun _=>False)):=Cx.add_le (fun hA=>h.all id hA hf)
 have h1:=h.new (i:=id) hf (t:=.deep z e [] []) (v:=v0) (S:=fun _=>False) (.inl ⟨rfl,rfl,a0,by simpa using p6⟩) (fun b hb=>hb.elim) (fun j u _ b hb=>hb.elim)
 have hi':au ((id,.tk (.deep z e [] [])) :: σ) i=some (.tk (.bx cs)):=by rw [ah,if_neg hne'];exact hi
 refine ⟨_,h1.upd hi' ⟨rfl,rfl,rfl,Nat.le_refl _,fun _ _ _=>rfl⟩ rfl (fun _=>⟨b,us,(if_neg (Ne.symm hne')).trans p1,?_,?_,p4⟩)⟩
 ·show (if i=id then _ else c.T i) b
  rw [if_neg (Ne.symm hne')];exact p2
 ·have:=kS cs us o (.k id) v0 (Sy.keeps hle (fun _ _ _=>rfl) _ _ p3) ⟨.inr rfl,(if_pos rfl).symm⟩
  rw [qI p5] at this
  exact this
theorem GX (i o id e:Nat) {P:Program} {W0:cf} {N:Nat} {σ:Env} {Q:Exit→Act→World→Prop} {x:Code} {z:Nat} {cs:List Sy} (h:az P W0 N x ((i,.tk (.bx (cs.set o (.k id)))) :: (id,.tk (.deep z e [] [])) :: σ) Q) (hi:au σ i=some (.tk (.bx cs)):=by rfl) (hc:cs[o]? = some (.d (.n z)):=by rfl) (hf:au σ id=none:=by rfl) (hne:Nat.beq id i=false:=by rfl):az P W0 N x σ Q:=fun a w hh=>h a w (hh.nilD hi hc hf hne)
section
variable {P:Program} {ops:Array Oper} {W0:cf} {N:Nat} {Fin:Us→Env→Prop} {os:List Oper} {us:Us} {pk fk:List Nat} {σ:Env} {g:Option (Nat × Bool)} {gk:List Nat} {d ty ty' f:Nat} {pos:String} {after:Array Edge}
theorem cD {x:Operand} {e j e1:Nat} {n p:Int} {ls:List Int} {v:Value} (h:Der P ops W0 N Fin os (us++[((d :: (gk++((10000+d) :: j :: kx x)))++pk,([d,10000+d,j])++fk)]) [] [] ((d,.sy (.k (10000+d))) :: (10000+d,.tk (.deep 3 e [.t [.i n,.i p,DI ls]] [])) :: (j,.no) :: σ)) (hx:ev σ x=some (.ag [.d (.i n),.d (.i p),.k j]):=by rfl) (hj:au σ j=some (.tk (.row 1 e1 (ls.map .i))):=by rfl) (hf:au σ (10000+d)=none:=by rfl) (he:elem? P ty'=some e:=by rfl) (hz:sizeOf? P e=some 3:=by rfl) (hv:su P e=some v:=by rfl) (hvs:v.cells.size=3:=by rfl) (hg:gst ops σ g=some (true,gk):=by rfl) (hN:Nat.blt d N=true:=by rfl) (hs:aM ((10000+d,.tk (.deep 3 e [.t [.i n,.i p,DI ls]] [])) :: (j,.no) :: σ) d=true:=by rfl) (hu:(Nat.beq (10000+d) d || Nat.beq j d || Nat.beq j (10000+d))=false:=by rfl):Der P ops W0 N Fin (⟨some d,.buildSlice ty' 1 #[(0,x)],ty,pos,after,g⟩ :: os) us pk fk σ:=by
 simp only [Bool.or_eq_false_iff] at hu
 refine me (.k (10000+d)) ((10000+d) :: j :: kx x) [(10000+d,.tk (.deep 3 e [.t [.i n,.i p,DI ls]] [])),(j,.no)] (fun σ' c a w hk hc=>?_) h hg hN hs (by simp [hu.1.1,hu.1.2])
 obtain ⟨vs,e1',v1,t1,rfl,o1,v2,t2,rfl,o2,v3,t3,rfl,o3,o4⟩:=av hc (af hx (fun κ hκ=>hk κ (by simp [hκ])))
 cases (show t3 = [] from o4)
 have hj':=(hk j (by simp)).trans hj
 obtain ⟨hAj,hT,hlt⟩:=hc.tok j _ hj'
 obtain ⟨_,rfl⟩:=o3
 have hone:(c.ρ j).oneCell'=true:=by
  rcases hT with ⟨_,_,q3⟩|⟨cells,q1,_⟩
  ·rw [q3];rfl
  ·rcases q1.2 with ⟨q3,_⟩|⟨_,_,_,q3,_⟩ <;> rw [q3] <;> rfl
 have hrow:Rp w (fun b=>(∃g,g=b∧(c.ρ j).ownBlock=some g∧c.T j g∧b<w.heap.size∧∀o,w.frozen? ⟨b,o,none⟩=false)) (DI ls) [c.ρ j]:=by
  rcases hT with ⟨hd,a0,q3⟩|⟨cells,q1,q2,q3⟩
  ·have:ls = []:=by cases ls with|nil=>rfl|cons=>simp at hd
   subst this
   exact ⟨a0,0,by rw [q3];rfl,Nat.le_refl _,by decide,fun _=>rfl,.inl rfl⟩
  ·exact Ht (z:=1) q1 (fun g hg=>⟨g,rfl,hg,q2 g hg,AC q1 hg⟩) q3
 have hc3:(Value.agg [v1,v2,c.ρ j].toArray).cells = [v1,v2,c.ρ j].toArray:=rfl
 unfold Oper.wp
 rw [wU (zs:=[]) he hz hv hvs ⟨by decide,by decide⟩ (by rw [e1']) rfl]
 have hX:Ext w (w.alloc (.cells [v1,v2,c.ρ j].toArray e)):=(Ext.refl w).alloc _
 have hc1:=hc.grow hX c.F (fun _ h=>h) (fun _ h=>.inl h) (fun b hb=>Nat.lt_of_lt_of_le (hc.lt b hb) (Below.size hX))
 have hc2:=hc1.eff (τ:=[]) hj' ⟨rfl,rfl,rfl,Nat.le_refl _,fun _ _ _=>rfl⟩ c.F (fun _ h=>h) (fun _ h=>.inl h) hc1.lt
 have hne:¬j=10000+d:=fun e=>by rw [e] at hu;simp at hu
 have hf':au ((j,.no) :: σ') (10000+d)=none:=by rw [ah,if_neg hne,hk _ (by simp),hf]
 have hfr:∀b,b<w.heap.size→∀o,(w.alloc (.cells [v1,v2,c.ρ j].toArray e)).frozen? ⟨b,o,none⟩=w.frozen? ⟨b,o,none⟩:=fun b hb o=>World.frozen?_of_block (hX.block b hb)
 refine ⟨_,_,rfl,hc2.new (i:=10000+d) (t:=.deep 3 e [.t [.i n,.i p,DI ls]] []) (v:=.slice (some ⟨w.heap.size,0,none⟩) 1 1) (S:=fun b=>b=w.heap.size∨c.T j b) hf' (.inr ⟨[v1,v2,c.ρ j],fun k b=>k=0∧(∃g,g=b∧(c.ρ j).ownBlock=some g∧c.T j g∧b<w.heap.size∧∀o,w.frozen? ⟨b,o,none⟩=false),?_,fun g hg=>?_,fun k b hb=>?_,fun i k hik b hb hb'=>hik (hb.1.trans hb'.1.symm),fun k hk'=>?_,fun p hp=>(by cases hp)⟩) (fun b hb=>?_) (fun j' u hj'' b hb hb'=>?_),.inr rfl,(if_pos rfl).symm⟩
 ·have:=World.ownsRow_lit (base:=0) (e:=e) (size:=3) w [v1,v2,c.ρ j].toArray 1 (Nat.zero_le _) (by decide) rfl
  exact this
 ·cases hg
  exact ⟨.inl rfl,fun k hk2=>by obtain ⟨_,g,e1,_,_,h3,_⟩:=hk2;exact absurd h3 (Nat.lt_irrefl _)⟩
 ·obtain ⟨_,g,e1,_,h2,h3,h4⟩:=hb
  subst e1
  exact ⟨.inr h2,Nat.lt_of_lt_of_le h3 (Below.size hX),fun o=>(hfr g h3 o).trans (h4 o)⟩
 ·have hk0:k=0:=by simpa using hk'
  subst hk0
  refine ⟨[v1,v2,c.ρ j],rfl,?_,fun t u ht=>by simpa using ht⟩
  refine Rp.keep (w:=w) (S:=fun b=>(∃g,g=b∧(c.ρ j).ownBlock=some g∧c.T j g∧b<w.heap.size∧∀o,w.frozen? ⟨b,o,none⟩=false)) (fun b hb=>⟨rfl,hb⟩) (fun b _ hl=>hX.block b hl) (.t [.i n,.i p,DI ls]) _ ⟨[v1],_,rfl,o1,[v2],_,rfl,o2,[c.ρ j],_,rfl,hrow,rfl⟩
 ·rcases hb with rfl|hb
  ·exact ⟨fun hF=>absurd (hc.lt _ hF) (Nat.lt_irrefl _),by simp,.inr hc.ext.size⟩
  ·exact ⟨(hlt b hb).1,Nat.lt_of_lt_of_le (hlt b hb).2.1 (Below.size hX),(hlt b hb).2.2⟩
 ·rw [ah] at hj''
  split at hj''
  ·cases hj''
  ·rename_i hjj
   rcases hb with rfl|hb
   ·exact absurd ((hc.tok j' u hj'').2.2 _ hb').2.1 (Nat.lt_irrefl _)
   ·exact hc.off j j' _ u hj' hj'' hjj b hb hb'
theorem bq {x y:Operand} {i j e n:Nat} {ds:List D} {y0:D} {ti:TypeInfo} {z:Value} (h:Der P ops W0 N Fin os (us++[((d :: (gk++(i :: j :: (10000+d) :: (kx x++kx y))))++pk,([d,10000+d,i,j])++fk)]) [] [] ((d,.sy (.k (10000+d))) :: (10000+d,.tk (.deep n e (ds++[y0]) [])) :: (i,.no) :: (j,.no) :: σ)) (hx:ev σ x=some (.k i):=by rfl) (hi:au σ i=some (.tk (.deep n e ds [])):=by rfl) (hy:ev σ y=some (.k j):=by rfl) (hj:au σ j=some (.tk (.deep n e [y0] [])):=by rfl) (hf:au σ (10000+d)=none:=by rfl) (he:elem? P ty'=some e:=by rfl) (hti:P.info? e=some ti:=by rfl) (htz:ti.zero=some z:=by rfl) (hsz:ti.size=n:=by rfl) (hzs:z.cells.size=n:=by rfl) (hn:(Nat.blt 0 n && Nat.ble ti.bytes 1000)=true:=by rfl) (hb:ds.length≤1000000:=by first|omega|(simp only [List.length_map,List.length_take];omega)) (hg:gst ops σ g=some (true,gk):=by rfl) (hN:Nat.blt d N=true:=by rfl) (hs:aM ((10000+d,.tk (.deep n e (ds++[y0]) [])) :: (i,.no) :: (j,.no) :: σ) d=true:=by rfl) (hu:(Nat.beq (10000+d) d || Nat.beq i d || Nat.beq j d || Nat.beq i (10000+d) || Nat.beq j (10000+d) || Nat.beq i j)=false:=by rfl):Der P ops W0 N Fin (⟨some d,.call { callee:=.builtin .append,args:=#[x,y],argTypes:=#[ty',ty'] },ty,pos,after,g⟩ :: os) us pk fk σ:=by
 simp only [Bool.or_eq_false_iff] at hu
 obtain ⟨⟨⟨⟨⟨hu1,hu2⟩,hu3⟩,hu4⟩,hu5⟩,hu6⟩:=hu
 refine me (.k (10000+d)) (i :: j :: (10000+d) :: (kx x++kx y)) [(10000+d,.tk (.deep n e (ds++[y0]) [])),(i,.no),(j,.no)] (fun σ' c a w hk hc=>?_) h hg hN hs (by simp [hu1,hu2,hu3])
 rw [Bool.and_eq_true] at hn
 have hn0:0<n:=Nat.blt_eq.mp hn.1
 have hij:¬i=j:=fun e=>by rw [e] at hu6;simp at hu6
 have hi':=(hk i (by simp)).trans hi
 have hj':=(hk j (by simp)).trans hj
 obtain ⟨hAi,hxv⟩:=av hc (af hx (fun κ hκ=>hk κ (by simp [hκ])))
 obtain ⟨hAj,hyv⟩:=av hc (af hy (fun κ hκ=>hk κ (by simp [hκ])))
 obtain ⟨_,hTi,hlt⟩:=hc.tok i _ hi'
 obtain ⟨_,hTj,hltj⟩:=hc.tok j _ hj'
 rcases hTj with ⟨hd,_⟩|⟨news,Tj,jown,jS,jT,jdis,jel,_⟩
 ·cases hd
 obtain ⟨cs0,q1,q2,q3⟩:=jel 0 (by simp)
 have hnl:news.length=1 * n:=jown.1
 have hncs:news=cs0:=by
  apply List.ext_getElem?
  intro t
  rcases Nat.lt_or_ge t cs0.length with ht|ht
  ·rw [List.getElem?_eq_getElem ht]
   have:=q3 t _ (List.getElem?_eq_getElem ht)
   rw [Nat.zero_mul,Nat.zero_add] at this;exact this
  ·rw [List.getElem?_eq_none ht,List.getElem?_eq_none (by omega)]
 have hnone:∀u∈news,u.oneCell'=true:=by rw [hncs];exact Rp.one _ _ q2
 obtain ⟨g',k',hvj⟩:∃g' k',c.ρ j=.slice (some ⟨g',0,none⟩) 1 k':=by
  rcases jown.2 with ⟨_,hn'⟩|⟨g',k',_,hv,_⟩
  ·simp at hn'
  ·exact ⟨g',k',hv⟩
 have hnc:∀t u,news[t]? = some u→w.cell? ((⟨g',0,none⟩:Addr).add t)=some u:=jown.cells (by rw [hvj];rfl)
 obtain ⟨v',w',cells,T,hrun,own',hcl,hch,hob,hT1,hT2,hT3⟩:∃(v':Value) (w':World) (cells:List Value) (T:Nat→BS),(Builtin.append_ #[ty',ty'] ty #[a.eval x,c.ρ j]).run P w=.ok v' w'∧w'.ownsRow 0 e n v' (ds.length+1) (cells++news)∧cells.length=ds.length * n∧Chg (c.T i) w w'∧(∀b,v'.ownBlock=some b→c.T i b∨b=w.heap.size) ∧
  (∀k b,T k b→c.T i b∧b<w.heap.size∧v'.ownBlock≠some b∧w'.heap[b]? = w.heap[b]?∧∀o,w.frozen? ⟨b,o,none⟩=false)∧(∀k l,k≠l→∀b,T k b→¬T l b)∧(∀k (h:k<ds.length),∃cs,cs.length=n∧Rp w (T k) ds[k] cs∧∀t u,cs[t]? = some u→cells[k * n+t]? = some u):=by
  rcases hTi with ⟨hd,_,a0,hv0⟩|⟨cells,T,own,hS,hT,hdis,hel,_⟩
  ·subst hd
   obtain ⟨v',w',r1,r2,r3,r4⟩:=nh (P:=P) (ty:=ty) he hti htz hsz hzs hn0 a0 ⟨g',0,none⟩ 1 k' news hnl hnc hnone (by decide) (by have:=Nat.le_of_ble_eq_true hn.2;omega) (by decide)
   refine ⟨v',w',[],fun _ _=>False,?_,by simpa using r2,by simp,Chg.grown r3 (fun g hg=>by cases hg),fun b hb=>.inr (r4 b hb),fun k b hb=>hb.elim,fun k l _ b hb=>hb.elim,fun k hk'=>absurd hk' (Nat.not_lt_zero _)⟩
   rw [hxv,hv0,hvj];exact r1
  ·rw [← hxv] at own hS
   have hmb:(ds.length+1) * ti.bytes≤140737488355328:=by
    have:(ds.length+1) * ti.bytes≤1000001 * 1000:=Nat.mul_le_mul (by omega) (Nat.le_of_ble_eq_true hn.2)
    omega
   obtain ⟨v',w',r1,r2,r3,_,r5⟩:=run_append_own_at (P:=P) w 0 ty' ty e ti z n ti.bytes (eD he) hti htz hsz rfl hzs hn0 (a.eval x) ds.length cells own ⟨g',0,none⟩ 1 k' news hnl hnc hnone (by unfold maxLen;omega) hmb (Nat.zero_le _)
   have hne:∀k b,T k b→some b≠(a.eval x).ownBlock:=fun k b hb e=>(hS b e.symm).2 k hb
   refine ⟨v',w',cells,T,by rw [hvj];exact r1,r2,own.1,Chg.grown r3 (fun g hg=>(hS g hg).1),fun b hb=>?_,fun k b hb=>?_,hdis,hel⟩
   ·rcases r5 with r5|r5
    ·exact .inl (hS b (by rw [← r5];exact hb)).1
    ·rw [r5] at hb;cases hb;exact .inr rfl
   ·obtain ⟨t1,t2,t3⟩:=hT k b hb
    refine ⟨t1,t2,fun e=>?_,r3.block b t2 (hne k b hb),t3⟩
    rcases r5 with r5|r5
    ·exact hne k b hb (by rw [← r5,e])
    ·rw [r5] at e;cases e;exact Nat.lt_irrefl _ t2
 have hex:(execOp a.eval ⟨some d,.call { callee:=.builtin .append,args:=#[x,y],argTypes:=#[ty',ty'] },ty,pos,after,g⟩).run P w=.ok (.value v') w':=by
  generalize a.eval=ρ at *
  simp [execOp,resolve,invoke,builtin,hyv,hrun,Result.andThen]
 have hi1:au ((j,.no) :: σ') i=some (.tk (.deep n e ds [])):=by rw [ah,if_neg (Ne.symm hij)];exact hi'
 have hc1:=hc.eff (τ:=[]) hj' ⟨rfl,rfl,rfl,Nat.le_refl _,fun _ _ _=>rfl⟩ c.F (fun _ h=>h) (fun _ h=>.inl h) hc.lt
 have hc2:=hc1.eff (τ:=[]) hi1 hch c.F (fun _ h=>h) (fun _ h=>.inl h) (fun b hb=>Nat.lt_of_lt_of_le (hc.lt b hb) hch.size)
 have hne1:¬i=10000+d:=fun e=>by rw [e] at hu4;simp at hu4
 have hne2:¬j=10000+d:=fun e=>by rw [e] at hu5;simp at hu5
 have hjk:∀b,c.T j b→w'.heap[b]? = w.heap[b]?:=fun b hb=>hch.block b (hltj b hb).2.1 (fun hb'=>hc.off i j _ _ hi' hj' hij b hb' hb)
 unfold Oper.wp
 rw [hex]
 have hnew:=hc2.new (i:=10000+d) (by rw [ah,if_neg hne1,ah,if_neg hne2,hk _ (by simp),hf]) (t:=.deep n e (ds++[y0]) []) (v:=v') (S:=fun b=>v'.ownBlock=some b∨(∃k,T k b)∨∃k,Tj k b) (.inr ⟨cells++news,fun k b=>if k<ds.length then T k b else Tj (k - ds.length) b,by rw [List.length_append];exact own',fun g hg=>⟨.inl hg,fun k hk'=>?_⟩,fun k b hb=>?_,fun k l hkl b hb hb'=>?_,fun k hk'=>?_,fun p hp=>(by cases hp)⟩) (fun b hb=>?_) (fun j'' u hj'' b hb hb'=>?_)
 ·exact ⟨v',_,rfl,hnew,.inr rfl,(if_pos rfl).symm⟩
 ·dsimp only at hk'
  by_cases hkl:k<ds.length
  ·rw [if_pos hkl] at hk'
   exact (hT1 k g hk').2.2.1 hg
  ·rw [if_neg hkl] at hk'
   have h1:=(jT _ g hk').1
   rcases hob g hg with h2|h2
   ·exact hc.off i j _ _ hi' hj' hij g h2 h1
   ·have:=(jT _ g hk').2.1;omega
 ·dsimp only at hb
  by_cases hkl:k<ds.length
  ·rw [if_pos hkl] at hb
   obtain ⟨t1,t2,t3,t4,t5⟩:=hT1 k b hb
   exact ⟨.inr (.inl ⟨k,hb⟩),Nat.lt_of_lt_of_le t2 hch.size,fun o=>(World.frozen?_of_block t4).trans (t5 o)⟩
  ·rw [if_neg hkl] at hb
   obtain ⟨t1,t2,t3⟩:=jT _ b hb
   exact ⟨.inr (.inr ⟨_,hb⟩),Nat.lt_of_lt_of_le t2 hch.size,fun o=>(World.frozen?_of_block (hjk b t1)).trans (t3 o)⟩
 ·dsimp only at hb hb'
  by_cases h1:k<ds.length <;> by_cases h2:l<ds.length
  ·rw [if_pos h1] at hb;rw [if_pos h2] at hb';exact hT2 k l hkl b hb hb'
  ·rw [if_pos h1] at hb;rw [if_neg h2] at hb';exact hc.off i j _ _ hi' hj' hij b (hT1 k b hb).1 (jT _ b hb').1
  ·rw [if_neg h1] at hb;rw [if_pos h2] at hb';exact hc.off i j _ _ hi' hj' hij b (hT1 l b hb').1 (jT _ b hb).1
  ·rw [if_neg h1] at hb;rw [if_neg h2] at hb';exact jdis _ _ (by omega) b hb hb'
 ·by_cases hkl:k<ds.length
  ·obtain ⟨cs,p1,p2,p3⟩:=hT3 k hkl
   refine ⟨cs,p1,?_,fun t u ht=>?_⟩
   ·rw [List.getElem_append_left hkl]
    exact Rp.keep (fun b hb=>by (try dsimp only);rw [if_pos hkl];exact hb) (fun b hb _=>(hT1 k b hb).2.2.2.1) _ _ p2
   ·have:=p3 t u ht
    rw [List.getElem?_append_left]
    ·exact this
    ·rcases Nat.lt_or_ge (k * n+t) cells.length with h|h
     ·exact h
     ·rw [List.getElem?_eq_none h] at this;cases this
  ·have hke:k=ds.length:=by simp at hk';omega
   subst hke
   refine ⟨cs0,q1,?_,fun t u ht=>?_⟩
   ·rw [List.getElem_append_right (Nat.le_refl _)]
    simp only [Nat.sub_self,List.getElem_cons_zero]
    exact Rp.keep (fun b hb=>by (try dsimp only);rw [if_neg hkl];first|exact hb|(rw [Nat.sub_self];exact hb)) (fun b hb _=>hjk b (jT 0 b hb).1) _ _ q2
   ·have:=q3 t u ht
    rw [List.getElem?_append_right (by omega),hcl,show ds.length * n+t - ds.length * n=t by omega]
    rw [Nat.zero_mul,Nat.zero_add] at this;exact this
 ·rcases hb with hb|⟨k,hb⟩|⟨k,hb⟩
  ·rcases hob b hb with h1|h1
   ·exact ⟨(hlt b h1).1,Nat.lt_of_lt_of_le (hlt b h1).2.1 hch.size,(hlt b h1).2.2⟩
   ·subst h1
    exact ⟨fun hF=>absurd (hc.lt _ hF) (Nat.lt_irrefl _),(own'.lt _ hb).2,.inr hc.ext.size⟩
  ·have h1:=(hT1 k b hb).1
   exact ⟨(hlt b h1).1,Nat.lt_of_lt_of_le (hlt b h1).2.1 hch.size,(hlt b h1).2.2⟩
  ·have h1:=(jT k b hb).1
   exact ⟨(hltj b h1).1,Nat.lt_of_lt_of_le (hltj b h1).2.1 hch.size,(hltj b h1).2.2⟩
 ·have hj3:¬i=j''∧¬j=j''∧au σ' j''=some (.tk u):=by
   rw [ah] at hj''
   split at hj''
   ·cases hj''
   ·rename_i e1
    rw [ah] at hj''
    split at hj''
    ·cases hj''
    ·rename_i e2;exact ⟨e1,e2,hj''⟩
  obtain ⟨e2,e1,hj3⟩:=hj3
  rcases hb with hb|⟨k,hb⟩|⟨k,hb⟩
  ·rcases hob b hb with h1|h1
   ·exact hc.off i j'' _ u hi' hj3 e2 b h1 hb'
   ·subst h1;exact absurd ((hc.tok j'' u hj3).2.2 _ hb').2.1 (Nat.lt_irrefl _)
  ·exact hc.off i j'' _ u hi' hj3 e2 b (hT1 k b hb).1 hb'
  ·exact hc.off j j'' _ u hj' hj3 e1 b (jT k b hb).1 hb'
end
theorem wj {w:World} {T:BS} {n:Nd} {cs:List Value} (h:Rp w T n.D cs):∃ad k,cs = [.int .i64 n.control,.int .i64 n.parent,.slice ad n.links.length k]∧n.links.length≤k∧k≤maxLen∧(n.links = []∨∃b o,ad=some ⟨b,o,none⟩∧T b∧RpR w T 1 b o (n.links.map D.i)):=by
 obtain ⟨c,e,rfl,⟨rfl,_⟩,c1,e1,rfl,⟨rfl,_⟩,c2,e2,rfl,⟨ad,k,h1,h2,h3,h4,h5⟩,rfl⟩:=h
 rw [List.length_map] at h1 h2
 refine ⟨ad,k,by rw [h1];rfl,h2,h3,?_⟩
 rcases h5 with h5|⟨b,o,e1,e2,e3⟩
 ·rw [List.map_eq_nil_iff] at h5;exact .inl h5
 ·exact .inr ⟨b,o,e1,e2,e3⟩
theorem HW (i n:Nat) {P:Program} {W0:cf} {N:Nat} {σ:Env} {Q:Exit→Act→World→Prop} {x:Code} {e:Nat} {l:List Nd} (hlt:n<l.length) (h:∀(ad:Option Addr) (k:Nat),l[n].links.length≤maxLen→(l[n].links = []∨∃b o,ad=some ⟨b,o,none⟩)→az P W0 N x ((i,.tk (.deep 3 e (l.map Nd.D) [(n * 3+2,.slice ad l[n].links.length k)])) :: σ) Q) (hi:au σ i=some (.tk (.deep 3 e (l.map Nd.D) [])):=by rfl):az P W0 N x σ Q:=fun a w hh=>by
 obtain ⟨c,hc⟩:=hh
 obtain ⟨_,hT,_⟩:=hc.tok i _ hi
 rcases hT with ⟨hd,_⟩|⟨cells,T,h1,h2,h3,h4,h5,h6⟩
 ·rw [List.map_eq_nil_iff] at hd;subst hd;exact absurd hlt (Nat.not_lt_zero _)
 obtain ⟨cs,q1,q2,q3⟩:=h5 n (by rw [List.length_map];exact hlt)
 rw [List.getElem_map] at q2
 obtain ⟨ad,k,e1,e2,e3,e4⟩:=wj q2
 refine h ad k (Nat.le_trans e2 e3) (e4.imp id (fun ⟨b,o,e,_⟩=>⟨b,o,e⟩)) a w ⟨_,hc.upd hi ⟨rfl,rfl,rfl,Nat.le_refl _,fun _ _ _=>rfl⟩ rfl (fun _=>.inr ⟨cells,T,h1,h2,h3,h4,h5,fun p hp=>?_⟩)⟩
 have:p=(n * 3+2,.slice ad l[n].links.length k):=by simpa using hp
 subst this
 exact q3 2 _ (by rw [e1];rfl)
theorem FP (i:Nat) {P:Program} {W0:cf} {N:Nat} {σ:Env} {Q:Exit→Act→World→Prop} {x:Code} {z e:Nat} {ds:List D} {ps:List (Nat × Value)} (h:az P W0 N x ((i,.tk (.deep z e ds [])) :: σ) Q) (hi:au σ i=some (.tk (.deep z e ds ps)):=by rfl):az P W0 N x σ Q:=fun a w hh=>by
 obtain ⟨c,hc⟩:=hh
 refine h a w ⟨_,hc.upd hi ⟨rfl,rfl,rfl,Nat.le_refl _,fun _ _ _=>rfl⟩ rfl (fun _=>?_)⟩
 obtain ⟨_,hT,_⟩:=hc.tok i _ hi
 rcases hT with ⟨hd,_,h1⟩|⟨cells,T,h1,h2,h3,h4,h5,h6⟩
 ·exact .inl ⟨hd,rfl,h1⟩
 ·exact .inr ⟨cells,T,h1,h2,h3,h4,h5,fun p hp=>(by cases hp)⟩
theorem GS (i:Nat) {P:Program} {W0:cf} {N:Nat} {σ:Env} {Q:Exit→Act→World→Prop} {x:Code} {z e:Nat} {ds:List D} {ps:List (Nat × Value)} (h:az P W0 N x ((i,.tk (.row z e ds)) :: σ) Q) (hi:au σ i=some (.tk (.deep z e ds ps)):=by rfl):az P W0 N x σ Q:=fun a w hh=>by
 obtain ⟨c,hc⟩:=hh
 obtain ⟨hA,hT,hlt⟩:=hc.tok i _ hi
 have main:∀(S:BS) (hS:∀b,S b→c.T i b) (ht:(Tk.row z e ds).ok { c with F:=fun b=>c.F b∨(c.T i b∧¬S b) } w (c.ρ i) S),Holds W0 N ((i,.tk (.row z e ds)) :: σ) a w:=fun S hS ht=>by
  have hle:Cx.Le c { c with F:=fun b=>c.F b∨(c.T i b∧¬S b) }:=⟨fun _ h=>.inl h,fun _ h=>⟨h,rfl⟩⟩
  have hle2:Cx.Le { c with F:=fun b=>c.F b∨(c.T i b∧¬S b) } ⟨fun b=>c.F b∨(c.T i b∧¬S b),c.ρ,fun j=>if j=i then S else c.T j,c.A⟩:=⟨fun _ h=>h,fun _ h=>⟨h,rfl⟩⟩
  have ag:∀S:BS,fR S w w:=fun S b _ hl=>rfl
  refine ⟨⟨fun b=>c.F b∨(c.T i b∧¬S b),c.ρ,fun j=>if j=i then S else c.T j,c.A⟩,hc.ext,fun b hb=>hb.elim (hc.old b) (fun h'=>.inr (hlt b h'.1).2.2),fun b hb=>hb.elim (hc.lt b) (fun h'=>(hlt b h'.1).2.1),hc.size,hc.defers,fun j hj=>?_,fun j u hj=>?_,fun j k u v hj hk hne b=>?_,fun t s ht'=>?_⟩
  ·rw [ah];split
   ·simp
   ·exact hc.all j hj
  ·rw [ah] at hj
   by_cases e1:i=j
   ·subst e1
    rw [if_pos rfl] at hj;cases hj
    dsimp only
    rw [if_pos rfl]
    exact ⟨hA,Tk.keep hle2 (Nat.le_refl _) (ag _) (ag _) _ _ ht,fun b hb=>⟨fun hF=>hF.elim (hlt b (hS b hb)).1 (fun h=>h.2 hb),(hlt b (hS b hb)).2⟩⟩
   ·rw [if_neg e1] at hj
    obtain ⟨k1,k2,k3⟩:=hc.tok j u hj
    dsimp only
    rw [if_neg (Ne.symm e1)]
    exact ⟨k1,Tk.keep hle2 (Nat.le_refl _) (ag _) (ag _) _ _ (Tk.keep hle (Nat.le_refl _) (ag _) (ag _) u _ k2),fun b hb=>⟨fun hF=>hF.elim (k3 b hb).1 (fun h=>hc.off i j _ u hi hj e1 b h.1 hb),(k3 b hb).2⟩⟩
  ·rw [ah] at hj hk
   dsimp only
   by_cases e1:i=j
   ·subst e1
    rw [if_neg hne] at hk
    rw [if_pos rfl,if_neg (Ne.symm hne)]
    exact fun h1 h2=>hc.off i k _ v hi hk hne b (hS b h1) h2
   ·rw [if_neg e1] at hj
    rw [if_neg (Ne.symm e1)]
    by_cases e2:i=k
    ·subst e2
     rw [if_pos rfl]
     exact fun h1 h2=>hc.off j i u _ hj hi hne b h1 (hS b h2)
    ·rw [if_neg e2] at hk
     rw [if_neg (Ne.symm e2)]
     exact hc.off j k u v hj hk hne b
  ·rw [ah] at ht'
   split at ht'
   ·cases ht'
   ·obtain ⟨v,q1,q2⟩:=hc.tmp t s ht'
    exact ⟨v,q1,Sy.keep hle2 (ag _) _ _ (Sy.keep hle (ag _) s v q2)⟩
 refine h a w ?_
 rcases hT with ⟨hd,_,h1⟩|⟨cells,T,h1,h2,h3,h4,h5,h6⟩
 ·exact main (fun _=>False) (fun _ h=>h.elim) (.inl ⟨hd,h1⟩)
 ·refine main (fun b=>(c.ρ i).ownBlock=some b) (fun b hb=>(h2 b hb).1) (.inr ⟨cells,h1,fun g hg=>hg,fun j hj=>?_⟩)
  obtain ⟨cs,q1,q2,q3⟩:=h5 j hj
  exact ⟨cs,q1,Rp.keep (fun b hb=>.inr ⟨(h3 j b hb).1,fun e=>(h2 b e).2 j hb⟩) (fun _ _ _=>rfl) _ _ q2,q3⟩
section
variable {P:Program} {ops:Array Oper} {W0:cf} {N:Nat} {Fin:Us→Env→Prop} {os:List Oper} {us:Us} {pk fk:List Nat} {σ:Env} {g:Option (Nat × Bool)} {gk:List Nat} {d ty ty' f:Nat} {pos:String} {after:Array Edge}
theorem ci {x y:Operand} {i z e e':Nat} {ds:List D} {ps:List (Nat × Value)} {s:Sy} {n:Nat} (h:Der P ops W0 N Fin os (us++[((d :: (gk++(i :: (kx x++kx y))))++pk,([d])++fk)]) [] [] ((d,.sy (.el i z n 0)) :: σ)) (hx:ev σ x=some (.k i):=by rfl) (hi:au σ i=some (.tk (.deep z e ds ps)):=by rfl) (hy:ev σ y=some s:=by rfl) (hn:s.int? = some (n:Int):=by rfl) (he:elem? P ty'=some e':=by rfl) (hz:sizeOf? P e'=some z:=by rfl) (hlt:n<ds.length:=by first|assumption|omega|(simp only [List.length_map,List.length_append,List.length_cons,List.length_nil,List.length_replicate,List.length_take];omega)) (hg:gst ops σ g=some (true,gk):=by rfl) (hN:Nat.blt d N=true:=by rfl) (hs:aM σ d=true:=by rfl):Der P ops W0 N Fin (⟨some d,.indexAddr ty' x y,ty,pos,after,g⟩ :: os) us pk fk σ:=
 b6 (.el i z n 0) (i :: (kx x++kx y)) (fun σ' c a w hk hc=>by
  obtain ⟨hA,h1⟩:=av hc (af hx (fun κ hκ=>hk κ (by simp [hκ])))
  have h2:=ex hn (av hc (af hy (fun κ hκ=>hk κ (by simp [hκ]))))
  obtain ⟨_,hT,_⟩:=hc.tok i _ ((hk i (by simp)).trans hi)
  rcases hT with ⟨hd,_⟩|⟨cells,T,h3,_⟩
  ·subst hd;exact absurd hlt (Nat.not_lt_zero _)
  rcases h3.2 with ⟨_,hn0⟩|⟨gb,cap,cur,hv,_,_,h5,h6,_⟩
  ·rw [hn0] at hlt;exact absurd hlt (Nat.not_lt_zero _)
  ·exact ⟨_,d7 (X:=Instr.indexAt ty' (a.eval x) (a.eval y)) (by rw [h1,hv,h2];exact oC he hz hlt),hA,gb,_,_,hv,by rw [Nat.zero_add];rfl⟩) h hg hN hs
theorem cF {x:Operand} {z i e':Nat} {xs:List D} {ps:List (Nat × Value)} {t e:Nat} (h:Der P ops W0 N Fin os (us++[((d :: (gk++(i :: kx x)))++pk,([d])++fk)]) [] [] ((d,.sy (.d (.i xs.length))) :: σ)) (hx:ev σ x=some (.k i):=by rfl) (hi:au σ i=some (.tk (.deep z e' xs ps)):=by rfl) (ht:elem? P t=some e:=by rfl) (hg:gst ops σ g=some (true,gk):=by rfl) (hN:Nat.blt d N=true:=by rfl) (hs:aM σ d=true:=by rfl):Der P ops W0 N Fin (⟨some d,.call { callee:=.builtin .len,args:=#[x],argTypes:=#[t] },ty,pos,after,g⟩ :: os) us pk fk σ:=
 b6 (.d (.i xs.length)) (i :: kx x) (fun σ' c a w hk hc=>by
  obtain ⟨_,h1⟩:=av hc (af hx (fun κ hκ=>hk κ (by simp [hκ])))
  obtain ⟨_,hT,_⟩:=hc.tok i _ ((hk i (by simp)).trans hi)
  rcases hT with ⟨hd,_,a',hv⟩|⟨cells,T,h2,_,_⟩
  ·exact ⟨.int .i64 xs.length,by rw [hd];exact jr ht (h1.trans hv),by rw [hd];exact ⟨rfl,by unfold I64;decide⟩⟩
  rw [← h1] at h2
  rcases h2.2 with ⟨hv,hn⟩|⟨g',cap,cur,hv,_,_,h5,h6,_⟩
  ·exact ⟨.int .i64 xs.length,by rw [hn];exact jr ht hv,by simp [Sy.ok,DV,Rp,hn];unfold I64;decide⟩
  ·exact ⟨.int .i64 xs.length,jr ht hv,by simp [Sy.ok,DV,Rp];exact I64.nat (by omega)⟩) h hg hN hs
theorem bp {x:Operand} {i n e:Nat} {l:List Nd} {v:Value} (h:Der P ops W0 N Fin os (us++[((d :: (gk++(i :: kx x)))++pk,([d])++fk)]) [] [] ((d,.sy (.ag [.d (.i (l.getD n ⟨0,0,[]⟩).control),.d (.i (l.getD n ⟨0,0,[]⟩).parent),.v v])) :: σ)) (hx:ev σ x=some (.el i 3 n 0):=by rfl) (hi:au σ i=some (.tk (.deep 3 e (l.map Nd.D) [(n * 3+2,v)])):=by rfl) (hA:isAgg? P ty'=some true:=by rfl) (hz:sizeOf? P ty'=some 3:=by rfl) (hlt:n<l.length:=by first|assumption|omega) (hg:gst ops σ g=some (true,gk):=by rfl) (hN:Nat.blt d N=true:=by rfl) (hs:aM σ d=true:=by rfl):Der P ops W0 N Fin (⟨some d,.load ty' x,ty,pos,after,g⟩ :: os) us pk fk σ:=
 b6 (.ag [.d (.i (l.getD n ⟨0,0,[]⟩).control),.d (.i (l.getD n ⟨0,0,[]⟩).parent),.v v]) (i :: kx x) (fun σ' c a w hk hh=>by
  obtain ⟨_,b,m,cp,h1,h2⟩:=av hh (af hx (fun κ hκ=>hk κ (by simp [hκ])))
  obtain ⟨_,hT,_⟩:=hh.tok i _ ((hk i (by simp)).trans hi)
  rcases hT with ⟨_,hd,_⟩|⟨cells,T,own,hS,hB,hD,hel,hp⟩
  ·cases hd
  obtain ⟨cs,q1,q2,q3⟩:=hel n (by rw [List.length_map];exact hlt)
  rw [List.getElem_map] at q2
  have hgd:l.getD n ⟨0,0,[]⟩=l[n]:=by simp [hlt]
  have q2':=q2
  obtain ⟨ad,k,e1,e2,e3,e4⟩:=wj q2
  have hpv:=hp (n * 3+2,v) (by simp)
  have hv:v=.slice ad l[n].links.length k:=by
   have:=q3 2 _ (by rw [e1];rfl)
   rw [this] at hpv;cases hpv;rfl
  obtain ⟨c0,t0,f1,⟨f2,f2'⟩,c1,t1,f3,⟨f4,f4'⟩,_⟩:=q2'
  rw [h1] at own
  refine ⟨.agg [.int .i64 l[n].control,.int .i64 l[n].parent,v].toArray,d7 (X:=Instr.loadAt ty' (a.eval x)) ?_,_,rfl,_,_,rfl,by rw [hgd];exact ⟨rfl,f2'⟩,_,_,rfl,by rw [hgd];exact ⟨rfl,f4'⟩,_,_,rfl,rfl,rfl⟩
  rw [h2]
  refine fc hA hz (fun j u hj=>?_)
  have hj3:j<3:=by
   rcases Nat.lt_or_ge j 3 with h|h
   ·exact h
   ·rw [List.getElem?_eq_none (by simpa using h)] at hj;cases hj
  have hin:n * 3+j<(l.map Nd.D).length * 3:=by rw [List.length_map];omega
  rcases own.2 with ⟨hv0,_⟩|⟨gb,cap,cur,hv0,rest⟩
  ·cases hv0
  ·cases hv0
   rw [Nat.add_zero,World.ownsRow.cellAt (h:=own) (n * 3+j) hin]
   refine q3 j u ?_
   rw [e1,← hv];exact hj) h hg hN hs
theorem cE {x:Operand} {ad:Option Addr} {n k t e:Nat} (h:Der P ops W0 N Fin os (us++[((d :: (gk++kx x))++pk,([d])++fk)]) [] [] ((d,.sy (.d (.i n))) :: σ)) (hx:ev σ x=some (.v (.slice ad n k)):=by rfl) (ht:elem? P t=some e:=by rfl) (hn:n≤maxLen:=by assumption) (hg:gst ops σ g=some (true,gk):=by rfl) (hN:Nat.blt d N=true:=by rfl) (hs:aM σ d=true:=by rfl):Der P ops W0 N Fin (⟨some d,.call { callee:=.builtin .len,args:=#[x],argTypes:=#[t] },ty,pos,after,g⟩ :: os) us pk fk σ:=
 b6 (.d (.i n)) (kx x) (fun σ' c a w hk hc=>by
  have h1:a.eval x=.slice ad n k:=av hc (af hx hk)
  exact ⟨.int .i64 n,jr ht h1,rfl,I64.nat hn⟩) h hg hN hs
theorem cw {x y:Operand} {b o n k m e z:Nat} {s:Sy} (h:Der P ops W0 N Fin os (us++[((d :: (gk++(kx x++kx y)))++pk,([d])++fk)]) [] [] ((d,.sy (.v (.pointer (some ⟨b,o+m * z,none⟩)))) :: σ)) (hx:ev σ x=some (.v (.slice (some ⟨b,o,none⟩) n k)):=by rfl) (hy:ev σ y=some s:=by rfl) (hi:s.int? = some (m:Int):=by rfl) (he:elem? P ty'=some e:=by rfl) (hz:sizeOf? P e=some z:=by rfl) (hm:m<n:=by first|assumption|omega) (hg:gst ops σ g=some (true,gk):=by rfl) (hN:Nat.blt d N=true:=by rfl) (hs:aM σ d=true:=by rfl):Der P ops W0 N Fin (⟨some d,.indexAddr ty' x y,ty,pos,after,g⟩ :: os) us pk fk σ:=
 b6 (.v (.pointer (some ⟨b,o+m * z,none⟩))) (kx x++kx y) (fun σ' c a w hk hc=>by
  have h1:a.eval x=.slice (some ⟨b,o,none⟩) n k:=av hc (af hx (fun κ hκ=>hk κ (by simp [hκ])))
  have h2:=ex hi (av hc (af hy (fun κ hκ=>hk κ (by simp [hκ]))))
  exact ⟨_,d7 (X:=Instr.indexAt ty' (a.eval x) (a.eval y)) (by rw [h1,h2];exact oC he hz hm),rfl⟩) h hg hN hs
theorem FN {x:Operand} (i:Nat) {n e b o m len k:Nat} {l:List Nd} (h:Der P ops W0 N Fin os (us++[((d :: (gk++(i :: kx x)))++pk,([d])++fk)]) [] [] ((d,.sy (.d (.i ((l.getD n ⟨0,0,[]⟩).links.getD m 0)))) :: σ)) (hx:ev σ x=some (.v (.pointer (some ⟨b,o+m * 1,none⟩))):=by rfl) (hi:au σ i=some (.tk (.deep 3 e (l.map Nd.D) [(n * 3+2,.slice (some ⟨b,o,none⟩) len k)])):=by rfl) (hA:isAgg? P ty'=some false:=by rfl) (hlt:n<l.length:=by first|assumption|omega) (hm:m<(l.getD n ⟨0,0,[]⟩).links.length:=by assumption) (hg:gst ops σ g=some (true,gk):=by rfl) (hN:Nat.blt d N=true:=by rfl) (hs:aM σ d=true:=by rfl):Der P ops W0 N Fin (⟨some d,.load ty' x,ty,pos,after,g⟩ :: os) us pk fk σ:=
 b6 (.d (.i ((l.getD n ⟨0,0,[]⟩).links.getD m 0))) (i :: kx x) (fun σ' c a w hk hh=>by
  have h2:a.eval x=.pointer (some ⟨b,o+m * 1,none⟩):=av hh (af hx (fun κ hκ=>hk κ (by simp [hκ])))
  obtain ⟨_,hT,_⟩:=hh.tok i _ ((hk i (by simp)).trans hi)
  rcases hT with ⟨_,hd,_⟩|⟨cells,T,own,hS,hB,hD,hel,hp⟩
  ·cases hd
  obtain ⟨cs,q1,q2,q3⟩:=hel n (by rw [List.length_map];exact hlt)
  rw [List.getElem_map] at q2
  have hgd:l.getD n ⟨0,0,[]⟩=l[n]:=by simp [hlt]
  rw [hgd] at hm ⊢
  obtain ⟨ad,k',e1,e2,e3,e4⟩:=wj q2
  have hpv:=hp (n * 3+2,_) (List.mem_singleton.2 rfl)
  have:=q3 2 _ (by rw [e1];rfl)
  rw [this] at hpv;cases hpv
  rcases e4 with e4|⟨b',o',e5,e6,e7⟩
  ·rw [e4] at hm;exact absurd hm (Nat.not_lt_zero _)
  ·cases e5
   obtain ⟨cs',p1,p2,p3⟩:=(ij _ _).1 e7 m (by rw [List.length_map];exact hm)
   rw [List.getElem_map] at p2
   obtain ⟨rfl,p4⟩:=p2
   have hc0:=p3 0 _ rfl
   rw [Nat.add_zero] at hc0
   have hg2:l[n].links.getD m 0=l[n].links[m]:=by simp [hm]
   exact ⟨.int .i64 l[n].links[m],d7 (X:=Instr.loadAt ty' (a.eval x)) (by rw [h2];exact iU hA hc0),by rw [hg2];exact ⟨rfl,p4⟩⟩) h hg hN hs
def t8 (l:List Nd) (n m:Nat) (x:Int):List Nd:=l.set n ⟨(l.getD n ⟨0,0,[]⟩).control,(l.getD n ⟨0,0,[]⟩).parent,(l.getD n ⟨0,0,[]⟩).links.set m x⟩
theorem Ec {x y:Operand} (i:Nat) {n e b o m len k:Nat} {l:List Nd} {u:Int} {s:Sy} (h:Der P ops W0 N Fin os (us++[((gk++(i :: (kx x++kx y)))++pk,([i])++fk)]) [] [] ((i,.tk (.deep 3 e ((t8 l n m u).map Nd.D) [(n * 3+2,.slice (some ⟨b,o,none⟩) len k)])) :: σ)) (hx:ev σ x=some (.v (.pointer (some ⟨b,o+m * 1,none⟩))):=by rfl) (hi:au σ i=some (.tk (.deep 3 e (l.map Nd.D) [(n * 3+2,.slice (some ⟨b,o,none⟩) len k)])):=by rfl) (hy:ev σ y=some s:=by rfl) (hu:s=.d (.i u):=by rfl) (hz:sizeOf? P ty'=some 1:=by rfl) (hlt:n<l.length:=by first|assumption|omega) (hm:m<(l.getD n ⟨0,0,[]⟩).links.length:=by assumption) (hg:gst ops σ g=some (true,gk):=by rfl):Der P ops W0 N Fin (⟨none,.store ty' x y,ty,pos,after,g⟩ :: os) us pk fk σ:=
 lI (i :: (kx x++kx y)) [(i,.tk (.deep 3 e ((t8 l n m u).map Nd.D) [(n * 3+2,.slice (some ⟨b,o,none⟩) len k)]))] (fun σ' c a w hk hc=>by
  subst hu
  have e2:a.eval x=.pointer (some ⟨b,o+m * 1,none⟩):=av hc (af hx (fun κ hκ=>hk κ (by simp [hκ])))
  obtain ⟨hyv,hu64⟩ : [a.eval y] = [Value.int .i64 u]∧I64 u:=av hc (af hy (fun κ hκ=>hk κ (by simp [hκ])))
  have hyv':a.eval y=.int .i64 u:=by simpa using hyv
  have hi':=(hk i (by simp)).trans hi
  obtain ⟨_,hT,hlt'⟩:=hc.tok i _ hi'
  rcases hT with ⟨_,hd,_⟩|⟨cells,T,own,hS,hB,hD,hel,hp⟩
  ·cases hd
  have hgd:l.getD n ⟨0,0,[]⟩=l[n]:=by simp [hlt]
  rw [hgd] at hm
  obtain ⟨cs,q1,q2,q3⟩:=hel n (by rw [List.length_map];exact hlt)
  rw [List.getElem_map] at q2
  have q2':=q2
  obtain ⟨ad,k',e1,e3,e3',e4⟩:=wj q2
  have hpv:=hp (n * 3+2,_) (List.mem_singleton.2 rfl)
  have:=q3 2 _ (by rw [e1];rfl)
  rw [this] at hpv;cases hpv
  rcases e4 with e4|⟨b',o',e5,e6,e7⟩
  ·rw [e4] at hm;exact absurd hm (Nat.not_lt_zero _)
  cases e5
  obtain ⟨cs',p1,p2,p3⟩:=(ij _ _).1 e7 m (by rw [List.length_map];exact hm)
  rw [List.getElem_map] at p2
  obtain ⟨rfl,_⟩:=p2
  have hc0:=p3 0 _ rfl
  rw [Nat.add_zero] at hc0
  obtain ⟨hb1,hb2,hb3⟩:=hB n b e6
  have hnb:(c.ρ i).ownBlock≠some b:=fun e=>(hS b e).2 n e6
  unfold Oper.wp
  rw [gH hz (by rw [hyv'];rfl) hc0 (hb3 _) e2 rfl,hyv']
  have hch:Chg (c.T i) w (w.setCell ⟨b,o+m * 1,none⟩ (.int .i64 u)):=Chg.grown (bO b _ _) (fun g hg=>by cases hg;exact hb1)
  have hst:∀b',b'≠b→(w.setCell ⟨b,o+m * 1,none⟩ (.int .i64 u)).heap[b']? = w.heap[b']?:=fun b' hb'=>heap_setCell_other w ⟨b,o+m * 1,none⟩ b' _ hb'
  refine ⟨rfl,c,hc.upd hi' hch (by simp) (fun _=>.inr ⟨cells,T,?_,hS,fun j b' hb'=>?_,hD,fun j hj=>?_,?_⟩)⟩
  ·rw [List.length_map] at own ⊢
   unfold t8
   rw [List.length_set]
   exact own.kept (bO b _ _) (.inr hnb)
  ·obtain ⟨r1,r2,r3⟩:=hB j b' hb'
   refine ⟨r1,by simpa using r2,fun o'=>?_⟩
   by_cases hbb:b'=b
   ·subst hbb
    rw [World.frozen?_setCell];exact r3 o'
   ·exact (World.frozen?_of_block (hst b' hbb)).trans (r3 o')
  ·unfold t8 at hj ⊢
   rw [List.length_map,List.length_set] at hj
   by_cases hjn:j=n
   ·subst hjn
    obtain ⟨c0,t0,f1,⟨f2,f2'⟩,c1,t1,f3,⟨f4,f4'⟩,c2,t2,f5,⟨ad2,k2,g1,g2,g3,g4,g5⟩,f6⟩:=q2'
    refine ⟨cs,q1,?_,q3⟩
    rw [List.getElem_map,List.getElem_set_self,hgd]
    refine ⟨c0,t0,f1,⟨f2,f2'⟩,c1,t1,f3,⟨f4,f4'⟩,c2,t2,f5,⟨ad2,k2,by rw [g1];simp,by simpa using g2,g3,g4,.inr ⟨b,o,?_,e6,(ij _ _).2 fun t ht=>?_⟩⟩,f6⟩
    ·rw [f1,f2,f3,f4,f5,g1,f6] at e1
     simp at e1
     exact e1.1
    ·rw [List.length_map,List.length_set] at ht
     obtain ⟨cs2,s1,s2,s3⟩:=(ij _ _).1 e7 t (by rw [List.length_map];exact ht)
     by_cases htm:t=m
     ·subst htm
      refine ⟨[.int .i64 u],rfl,by rw [List.getElem_map,List.getElem_set_self];exact ⟨rfl,hu64⟩,fun j u' hj'=>?_⟩
      cases j with
      | zero=>
       simp at hj';subst hj'
       rw [Nat.add_zero]
       exact World.cell?_setCell_same _ _ _ hc0
      | succ j=>simp at hj'
     ·refine ⟨cs2,s1,by rw [List.getElem_map,List.getElem_set_ne (Ne.symm htm)];rw [List.getElem_map] at s2;exact s2,fun j u' hj'=>?_⟩
      have hj0:j=0:=by
       rcases Nat.lt_or_ge j cs2.length with h|h
       ·omega
       ·rw [List.getElem?_eq_none h] at hj';cases hj'
      subst hj0
      exact mt (s3 0 u' hj') (fun e=>htm (by simp at e <;> omega))
   ·obtain ⟨cs2,s1,s2,s3⟩:=hel j (by rw [List.length_map];exact hj)
    rw [List.getElem_map] at s2
    refine ⟨cs2,s1,?_,s3⟩
    rw [List.getElem_map,List.getElem_set_ne (Ne.symm hjn)]
    exact Rp.keep (fun _ h=>h) (fun b' hb' _=>hst b' (fun e=>by subst e;exact hD j n hjn b' hb' e6)) _ _ s2
  ·intro p hp'
   have:p=(n * 3+2,_):=List.mem_singleton.1 hp'
   subst this
   exact hp _ (List.mem_singleton.2 rfl)) h hg
end
end Go.Proofs.YtclpbhoekmecjaaGreatDoor
namespace Go.Proofs.YtclpbhoekmecjaaGreatDoor
open Go.RowKit
set_option linter.unusedVariables false
set_option linter.unusedSimpArgs false
section
variable {P:Program} {ops:Array Oper} {W0:cf} {N:Nat} {Fin:Us→Env→Prop} {os:List Oper} {us:Us} {pk fk:List Nat} {σ:Env} {g:Option (Nat × Bool)} {d:Option Nat} {ty:Nat} {pos:String} {after:Array Edge} {op:Op} {x y:Operand} {ty' f:Nat} {a:Array Operand} {at':Array TypeId} {k:Nat}
theorem cm (h:Der P ops W0 N Fin (⟨d,.move x,ty,pos,after,g⟩ :: os) us pk fk σ):Der P ops W0 N Fin (⟨d,.move x,ty,pos,after,g⟩ :: os) us pk fk σ:=h
theorem fY (h:Der P ops W0 N Fin (⟨d,.assign x,ty,pos,after,g⟩ :: os) us pk fk σ):Der P ops W0 N Fin (⟨d,.assign x,ty,pos,after,g⟩ :: os) us pk fk σ:=h
theorem gv (h:Der P ops W0 N Fin (⟨d,.fieldAddr ty' x k,ty,pos,after,g⟩ :: os) us pk fk σ):Der P ops W0 N Fin (⟨d,.fieldAddr ty' x k,ty,pos,after,g⟩ :: os) us pk fk σ:=h
theorem ck (h:Der P ops W0 N Fin (⟨d,.load ty' x,ty,pos,after,g⟩ :: os) us pk fk σ):Der P ops W0 N Fin (⟨d,.load ty' x,ty,pos,after,g⟩ :: os) us pk fk σ:=h
theorem gj (h:Der P ops W0 N Fin (⟨d,.indexAddr ty' x y,ty,pos,after,g⟩ :: os) us pk fk σ):Der P ops W0 N Fin (⟨d,.indexAddr ty' x y,ty,pos,after,g⟩ :: os) us pk fk σ:=h
theorem aW (h:Der P ops W0 N Fin (⟨d,.store ty' x y,ty,pos,after,g⟩ :: os) us pk fk σ):Der P ops W0 N Fin (⟨d,.store ty' x y,ty,pos,after,g⟩ :: os) us pk fk σ:=h
theorem fV {o:BinOp} {ty2:Nat} (h:Der P ops W0 N Fin (⟨d,.binOp o ty' x y ty2,ty,pos,after,g⟩ :: os) us pk fk σ):Der P ops W0 N Fin (⟨d,.binOp o ty' x y ty2,ty,pos,after,g⟩ :: os) us pk fk σ:=h
theorem gu (h:Der P ops W0 N Fin (⟨d,.call { callee:=.builtin .len,args:=a,argTypes:=at' },ty,pos,after,g⟩ :: os) us pk fk σ):Der P ops W0 N Fin (⟨d,.call { callee:=.builtin .len,args:=a,argTypes:=at' },ty,pos,after,g⟩ :: os) us pk fk σ:=h
theorem gr (h:Der P ops W0 N Fin (⟨d,.call { callee:=.builtin .append,args:=a,argTypes:=at' },ty,pos,after,g⟩ :: os) us pk fk σ):Der P ops W0 N Fin (⟨d,.call { callee:=.builtin .append,args:=a,argTypes:=at' },ty,pos,after,g⟩ :: os) us pk fk σ:=h
theorem cj (h:Der P ops W0 N Fin (⟨d,.call { callee:=.value (.func f),args:=a,argTypes:=at' },ty,pos,after,g⟩ :: os) us pk fk σ):Der P ops W0 N Fin (⟨d,.call { callee:=.value (.func f),args:=a,argTypes:=at' },ty,pos,after,g⟩ :: os) us pk fk σ:=h
theorem gh {u v w:Option Operand} (h:Der P ops W0 N Fin (⟨d,.slice ty' x u v w,ty,pos,after,g⟩ :: os) us pk fk σ):Der P ops W0 N Fin (⟨d,.slice ty' x u v w,ty,pos,after,g⟩ :: os) us pk fk σ:=h
theorem gOp {o:Oper} (h:Der P ops W0 N Fin (o :: os) us pk fk σ):Der P ops W0 N Fin (o :: os) us pk fk σ:=h
theorem EN {P:Program} {ρ:Operand→Value} {w:World} {d:Option Nat} {ty ty':Nat} {pos:String} {after:Array Edge} {g:Option (Nat × Bool)} {x:Operand} {m:Int} (hb:I64 (-m)) (h1:ρ x=.int .i64 m):(execOp ρ ⟨d,.unOp .neg ty' x,ty,pos,after,g⟩).run P w=.ok (.value (.int .i64 (-m))) w:=by
 have hw:IntKind.i64.wrap (0 - m) = -m:=by rw [Int.zero_sub];exact IntWalk.i64_in (-m) hb
 simp only [execOp,h1]
 exact congrArg (fun q=>Result.ok (Next.value (.int .i64 q)) w) hw
theorem fW {P:Program} {ops:Array Oper} {W0:cf} {N:Nat} {Fin:Us→Env→Prop} {os:List Oper} {us:Us} {pk fk:List Nat} {σ:Env} {g:Option (Nat × Bool)} {gk:List Nat} {d ty ty':Nat} {pos:String} {after:Array Edge} {x:Operand} {s:Sy} {m:Int} (h:Der P ops W0 N Fin os (us++[((d :: (gk++kx x))++pk,([d])++fk)]) [] [] ((d,.sy (.d (.i (-m)))) :: σ)) (hx:ev σ x=some s:=by rfl) (hm:s.int? = some m:=by rfl) (hb:I64 (-m):=by first|assumption|(unfold I64;omega)) (hg:gst ops σ g=some (true,gk):=by rfl) (hN:Nat.blt d N=true:=by rfl) (hs:aM σ d=true:=by rfl):Der P ops W0 N Fin (⟨some d,.unOp .neg ty' x,ty,pos,after,g⟩ :: os) us pk fk σ:=
 b6 (.d (.i (-m))) (kx x) (fun σ' c a w hk hc=>⟨_,EN hb (ex hm (av hc (af hx hk))),by simp only [Sy.ok,DV,Rp];exact ⟨trivial,hb⟩⟩) h hg hN hs
theorem uY {P:Program} {ops:Array Oper} {W0:cf} {N:Nat} {Fin:Us→Env→Prop} {os:List Oper} {us:Us} {pk fk:List Nat} {σ:Env} {g:Option (Nat × Bool)} {gk:List Nat} {d ty ty':Nat} {pos:String} {after:Array Edge} {α:Type} {f:α→D} {l:List α} {x y:Operand} {z e n:Nat} {s:Sy} (hx:ev σ x=some (.d (.l z (l.map f))):=by rfl) (hy:ev σ y=some s:=by rfl) (hi:s.int? = some (n:Int):=by rfl) (hn:n<l.length:=by assumption) (h:Der P ops W0 N Fin os (us++[((d :: (gk++(kx x++kx y)))++pk,([d])++fk)]) [] [] ((d,.sy (.at (f (l[n]'hn)))) :: σ)) (he:elem? P ty'=some e:=by rfl) (hz:sizeOf? P e=some z:=by rfl) (hg:gst ops σ g=some (true,gk):=by rfl) (hN:Nat.blt d N=true:=by rfl) (hs:aM σ d=true:=by rfl):Der P ops W0 N Fin (⟨some d,.indexAddr ty' x y,ty,pos,after,g⟩ :: os) us pk fk σ:=eV (fun _=>h) hx hy hi he hz hn hg hN hs
end
mutual
def kC:D→List D→Option (D × List D)
 | .t ss,ds=>match uo ss ds with|some (es,r)=>some (.t es,r)|none=>none
 | .i _,d :: ds=>some (d,ds)
 | .s _,d :: ds=>some (d,ds)
 | .b _,d :: ds=>some (d,ds)
 | .n _,d :: ds=>some (d,ds)
 | _,_=>none
def uo:List D→List D→Option (List D × List D)
 | [],ds=>some ([],ds)
 | s :: ss,ds=>match kC s ds with
  | some (d,r)=>match uo ss r with
   | some (es,r')=>some (d :: es,r')
   | none=>none
  | none=>none
end
mutual
theorem wL {w:World} {S:BS}:∀(s:D) (ds:List D) (d:D) (r:List D) (vs:List Value),kC s ds=some (d,r)→RpL w S ds vs→∃us xs,vs=us++xs∧Rp w S d us∧RpL w S r xs
 | .t ss,ds,d,r,vs,h,hv=>by
  unfold kC at h
  split at h
  ·rename_i es r' he
   cases h
   exact qM ss ds es _ vs he hv
  ·cases h
 | .i _,e :: ds,d,r,vs,h,⟨c,e',h1,h2,h3⟩=>by unfold kC at h;cases h;exact ⟨c,e',h1,h2,h3⟩
 | .s _,e :: ds,d,r,vs,h,⟨c,e',h1,h2,h3⟩=>by unfold kC at h;cases h;exact ⟨c,e',h1,h2,h3⟩
 | .b _,e :: ds,d,r,vs,h,⟨c,e',h1,h2,h3⟩=>by unfold kC at h;cases h;exact ⟨c,e',h1,h2,h3⟩
 | .n _,e :: ds,d,r,vs,h,⟨c,e',h1,h2,h3⟩=>by unfold kC at h;cases h;exact ⟨c,e',h1,h2,h3⟩
 | .i _,[],d,r,vs,h,hv=>by unfold kC at h;cases h
 | .s _,[],d,r,vs,h,hv=>by unfold kC at h;cases h
 | .b _,[],d,r,vs,h,hv=>by unfold kC at h;cases h
 | .n _,[],d,r,vs,h,hv=>by unfold kC at h;cases h
 | .l _ _,ds,d,r,vs,h,hv=>by unfold kC at h;cases h
 | .p _,ds,d,r,vs,h,hv=>by unfold kC at h;cases h
 | .f _ _,ds,d,r,vs,h,hv=>by unfold kC at h;cases h
 | .any,ds,d,r,vs,h,hv=>by unfold kC at h;cases h
theorem qM {w:World} {S:BS}:∀(ss ds:List D) (es r:List D) (vs:List Value),uo ss ds=some (es,r)→RpL w S ds vs→∃us xs,vs=us++xs∧RpL w S es us∧RpL w S r xs
 | [],ds,es,r,vs,h,hv=>by unfold uo at h;cases h;exact ⟨[],vs,rfl,rfl,hv⟩
 | s :: ss,ds,es,r,vs,h,hv=>by
  unfold uo at h
  split at h
  ·rename_i d r1 h1
   split at h
   ·rename_i es' r2 h2
    cases h
    obtain ⟨us,xs,e1,e2,e3⟩:=wL s ds d r1 vs h1 hv
    obtain ⟨us',xs',e4,e5,e6⟩:=qM ss r1 es' _ xs h2 e3
    exact ⟨us++us',xs',by rw [e1,e4,List.append_assoc],⟨us,us',rfl,e2,e5⟩,e6⟩
   ·cases h
  ·cases h
end
theorem nC {c:Cx} {w:World}:∀(o:Nat) (ss:List Sy) (vs:List Value),Sy.oks c w ss vs→Sy.oks c w (ss.drop o) (vs.drop o):=by
 intro o
 induction o with
 | zero=>exact fun ss vs h=>h
 | succ o ih=>
  intro ss vs h
  cases ss with
  | nil=>rw [show vs = [] from h];exact rfl
  | cons s ss=>obtain ⟨v,t,rfl,_,h2⟩:=h;exact ih ss t h2
theorem nG {c:Cx} {w:World}:∀(o:Nat) (ss:List Sy) (vs:List Value),Sy.oks c w ss vs→Sy.oks c w (ss.take o) (vs.take o):=by
 intro o
 induction o with
 | zero=>exact fun ss vs h=>rfl
 | succ o ih=>
  intro ss vs h
  cases ss with
  | nil=>rw [show vs = [] from h];exact rfl
  | cons s ss=>obtain ⟨v,t,rfl,h1,h2⟩:=h;exact ⟨v,t.take o,rfl,h1,ih ss t h2⟩
def Fw (P:Program) (ty:Nat):Bool:=match zd P 8 ty with|some (.t ss)=>ss.all fun r=>!isT r|_=>false
section
variable {P:Program} {ops:Array Oper} {W0:cf} {N:Nat} {Fin:Us→Env→Prop} {os:List Oper} {us:Us} {pk fk:List Nat} {σ:Env} {g:Option (Nat × Bool)} {gk:List Nat} {d ty ty':Nat} {pos:String} {after:Array Edge}
theorem bo {x:Operand} {i:Nat} {cs:List Sy} {ds:List D} (h:Der P ops W0 N Fin os (us++[((d :: (gk++(i :: kx x)))++pk,([d])++fk)]) [] [] ((d,.sy (.d (.t ds))) :: σ)) (hx:ev σ x=some (.bx i 0):=by rfl) (hi:au σ i=some (.tk (.bx cs)):=by rfl) (hA:isAgg? P ty'=some true:=by rfl) (hfl:Fw P ty'=true:=by rfl) (hz:sizeOf? P ty'=some cs.length:=by rfl) (hc:Ea cs=some ds:=by rfl) (ht:(ds.all fun r=>!isT r)=true:=by rfl) (hg:gst ops σ g=some (true,gk):=by rfl) (hN:Nat.blt d N=true:=by rfl) (hs:aM σ d=true:=by rfl):Der P ops W0 N Fin (⟨some d,.load ty' x,ty,pos,after,g⟩ :: os) us pk fk σ:=FG h hx hi hc ht hA hz hg hN hs
theorem bl {x:Operand} {i o z:Nat} {cs:List Sy} {ds es:List D} {sh:D} (h:Der P ops W0 N Fin os (us++[((d :: (gk++(i :: kx x)))++pk,([d])++fk)]) [] [] ((d,.sy (.d (.t es))) :: σ)) (hx:ev σ x=some (.bx i o):=by rfl) (hi:au σ i=some (.tk (.bx cs)):=by rfl) (hA:isAgg? P ty'=some true:=by rfl) (hz:sizeOf? P ty'=some z:=by rfl) (hl:Nat.ble (o+z) cs.length=true:=by rfl) (hc:Ea ((cs.drop o).take z)=some ds:=by rfl) (ht:(ds.all fun r=>!isT r)=true:=by rfl) (hsh:zd P 8 ty'=some sh:=by rfl) (hn:kC sh ds=some (.t es,[]):=by rfl) (hg:gst ops σ g=some (true,gk):=by rfl) (hN:Nat.blt d N=true:=by rfl) (hs:aM σ d=true:=by rfl):Der P ops W0 N Fin (⟨some d,.load ty' x,ty,pos,after,g⟩ :: os) us pk fk σ:=
 b6 (.d (.t es)) (i :: kx x) (fun σ' c a w hk hh=>by
  obtain ⟨hAi,b,h1,h2⟩:=av hh (af hx (fun κ hκ=>hk κ (by simp [hκ])))
  obtain ⟨_,⟨b',vs,h3,h4,h5,h6⟩,_⟩:=hh.tok i _ ((hk i (by simp)).trans hi)
  rw [h1] at h3;cases h3
  have hlen:=dU _ _ h5
  have hle:=Nat.le_of_ble_eq_true hl
  have h7:=ux _ _ _ hc ht (nG z _ _ (nC o _ _ h5))
  obtain ⟨us',xs,e1,e2,e3⟩:=wL sh ds (.t es) [] _ hn h7
  have e4:xs = []:=e3
  subst e4
  rw [List.append_nil] at e1
  have hzl:((vs.drop o).take z).length=z:=by rw [List.length_take,List.length_drop];omega
  have h8:bE w b o ((vs.drop o).take z):=fun j u hj=>by
   rw [List.getElem?_take] at hj
   split at hj
   ·rw [List.getElem?_drop] at hj;exact (h6 (o+j) u hj).1
   ·cases hj
  exact ⟨.agg ((vs.drop o).take z).toArray,d7 (X:=Instr.loadAt ty' (a.eval x)) (by rw [h2];exact fc hA (by rw [hz,hzl]) h8),(vs.drop o).take z,rfl,by rw [e1];exact e2⟩) h hg hN hs
end
structure Beh (q:Prop):Prop where
 out:q
theorem kgo {p q:Prop} (hq:q) (h:Beh q→p:=by intro h0;(repeat (first|(refine ck ?_;first|refine bd ?_|refine cC ?_|refine bo ?_|refine bl ?_|refine aY ?_|refine br ?_|refine bw ?_|refine aK ?_|refine bp ?_)|(refine gv ?_;first|refine cd ?_|refine gg ?_|refine ct ?_|refine cz ?_)|(refine gj ?_;first|refine uY (h:=?_)|refine cu ?_|refine cq ?_|refine bT ?_|refine ci ?_|refine cw ?_)|(refine gu ?_;first|refine cK ?_|refine fy ?_|refine cH ?_|refine bY ?_|refine cF ?_|refine cE ?_)|(refine fV ?_;first|refine gq ?_|refine fQ ?_|refine ch ?_|refine cb ?_|refine fZ ?_|refine bf ?_|refine bm ?_)|(refine cm ?_;first|refine be ?_|refine cI ?_)|(refine fY ?_;first|refine cG ?_|refine cA ?_|refine gm ?_)|(refine cj ?_;first|refine cr ?_|refine bj ?_|refine bc ?_|refine bk ?_|refine aX ?_|refine bu ?_)|(refine gr ?_;first|refine cB ?_|refine fS ?_|refine bq ?_)|(refine aW ?_;first|refine aC _ ?_|refine bt ?_|refine aG ?_|refine aE ?_|refine aJ ?_)|(refine gh ?_;first|refine co ?_|refine b7 ?_|refine cy ?_)|(refine gOp ?_;first|refine gx ?_|refine gd ?_|refine bh ?_|refine fX ?_|refine fW ?_|refine cJ ?_|refine aZ ?_|refine cg ?_|refine gw ?_|refine b8 ?_|refine cL ?_|refine bg ?_|refine aH ?_|refine cD ?_|refine sNo ?_)|refine gC ?_|refine fa ?_|refine gG ?_|refine bA ?_|refine cM ?_|refine bP ?_|refine gL ?_|refine gF ?_|refine gA ?_|refine fm ?_|refine cQ ?_|refine bD ?_|refine aB ?_|refine bB ?_|refine cO ?_|refine bN ?_|refine aBlkX ?_|refine cP ?_));exact h0.out):p:=h ⟨hq⟩
def xr:List Sy→List Nat
 | []=>[]
 | .k i :: r=>i :: xr r
 | .bx i _ :: r=>i :: xr r
 | .el i _ _ _ :: r=>i :: xr r
 | _ :: r=>xr r
def Ie:In→List Nat
 | .sy (.k i)=>[i]
 | .sy (.bx i _)=>[i]
 | .sy (.el i _ _ _)=>[i]
 | .sy (.atS _ cs)=>xr cs
 | .tk (.bx cs)=>xr cs
 | _=>[]
def Hj:Nat→List Nat→Bool
 | _,[]=>false
 | n,x :: r=>match Nat.beq x n with|true=>true|false=>Hj n r
inductive B9 (σ:Env):List Nat→List Nat→Env→Prop
 | nil {seen}:B9 σ [] seen []
 | skip {k ks seen τ}:Hj k seen=true→B9 σ ks seen τ→B9 σ (k :: ks) seen τ
 | cons {k ks seen τ i}:au σ k=some i→B9 σ (Ie i++ks) (k :: seen) τ→B9 σ (k :: ks) seen ((k,i) :: τ)
section
variable {P:Program} {W0:cf} {N:Nat} {σ:Env} {Q:Exit→Act→World→Prop} {x y:Code}
theorem ar {X:Type} {I:X→Env} {τ:Env} {r:List (Nat × Nat)} (ks:List Nat) (p:X→Prop) (m:X→Nat) (upd:X→Env) (x0:X) (h0:p x0) (hr:∀z,p z→az P W0 N x (I z) (Exit.then (EO W0 N p m I z) Q)) (hτ:B9 σ ks ((upd x0).map Prod.fst) τ:=by repeat (first|exact B9.nil|(apply B9.skip;focus rfl)|(apply B9.cons;focus rfl))) (hI:∀z,upd z++τ=I z:=by intro z;(try simp only [List.cons_append,List.nil_append]);(try rfl))
 (hR:kH σ (I x0) r:=by (repeat (first|exact kH.nil|(apply kH.k;focus rfl)|(apply kH.bx;focus rfl)|(apply kH.box;(focus rfl);focus ((repeat (first|apply kB.k|apply kB.bx|apply kB.skip));exact kB.nil))|(apply kH.ats;(focus rfl);focus ((repeat (first|apply kB.k|apply kB.bx|apply kB.skip));exact kB.nil))|apply kH.skip))) (hs:DC r σ (I x0) (I x0):=by (repeat' (first|exact trivial|refine ⟨⟨?_,rfl⟩,?_⟩)) <;> first|rfl|exact jV rfl (by assumption)|exact jV rfl (Eq.symm (by assumption))|exact qe rfl (by assumption)|exact qe rfl (Eq.symm (by assumption))) (hn:nf ((tks (I x0)).map (rn r))=true:=by rfl):az P W0 N (.loop x) σ Q:=eQ p m I x0 h0 hr hR hs hn
theorem aV {c:Operand} {s:Sy} {q:Prop} [Decidable q] (ht:q→az P W0 N x σ Q) (hf:¬q→az P W0 N y σ Q) (hs:ev σ c=some s:=by rfl) (hb:s.bool? = some (decide q):=by rfl):az P W0 N (.cond c x y) σ Q:=cIf (fun h=>ht (of_decide_eq_true h)) (fun h=>hf (of_decide_eq_false h)) hs hb
theorem lL {c:Operand} {s:Sy} {q:Prop} [Decidable q] (ht:¬q→az P W0 N x σ Q) (hf:q→az P W0 N y σ Q) (hs:ev σ c=some s:=by rfl) (hb:s.bool? = some (!decide q):=by rfl):az P W0 N (.cond c x y) σ Q:=cIf (fun h=>ht (by simpa using h)) (fun h=>hf (by simpa using h)) hs hb
end
end Go.Proofs.YtclpbhoekmecjaaGreatDoor
namespace Go.Proofs.YtclpbhoekmecjaaGreatDoor
open Go.RowKit
set_option linter.unusedVariables false
set_option linter.unusedSimpArgs false
attribute [local irreducible] inR jy ay fH eH ba aw dO qi EH tL sV ou ky jA dZ jd
set_option maxRecDepth 100000 in
set_option maxHeartbeats 3200000 in
theorem pz (l1 h1 l2 h2 l3 h3:Nat) (cs ds:List Value) (r a:Big) (nv sv:Value) (ns rs:List Int) (sig:List Ctl) (l:Nat) (w:World) (hr:bW l1 h1 w cs r) (ha:bW l2 h2 w ds a) (hn:nX l3 h3 w nv ns) (hs:nX l3 h3 w sv rs) (hbr:ay sig r=true) (hba:ay sig a=true) (him:mf r a ns) (hp0:aw r l≠[]) :
 Calls Tryz.prog 196 #[.agg cs.toArray,.agg ds.toArray,.agg #[nv,sv],.int .i64 (l:Int)] w fun e w'=>e=.returned (.tuple #[.int .i64 (jd r a ns l),.bool (dZ r a ns l)])∧Ext w w':=by
 have HBR:=Lib.hid hbr
 have HBA:=Lib.hid hba
 have HIM:=Lib.hid him
 have hle1:ns.length≤r.nodes.length:=Nat.le_of_eq him.len
 have hle2:r.nodes.length≤ns.length:=Nat.le_of_eq him.len.symm
 have dr:=bG hbr
 have da:=bG hba
 have hd1:=da.nodes
 have hd3:=dr.nodes
 have hRB:=hr
 have hpl:0<(aw r l).length:=List.length_pos_iff.2 hp0
 have HPM:=Lib.hid (fun q (hq:q∈aw r l)=>dG.1 hq)
 have HLA:=Lib.hid (show dZ r a ns l=((aw r l).all (fun q=>decide (dE a ns q=jd r a ns l)) && (!(decide ((l:Int)<r.edges)) || (decide (jd r a ns l<a.edges) && decide ((aw a (jd r a ns l)).length=(aw r l).length)))) by unfold dZ;rfl)
 have HIL:=Lib.hid (show jd r a ns l=dE a ns ((aw r l)[0]) from (tH r a ns l).trans (oc a ns _ hpl))
 clear hbr hba him hp0
 have hA:=ha
 have hN:=hn
 have hS:=hs
 obtain ⟨rv1,rv2,rv4,rv5,rfl,ri1,ri2,⟨ra,rk,rfl,rg1,rg2,rg3,rg4⟩,rS,rO,rI⟩:=hr
 unfold maxLen at rg2
 obtain ⟨av1,av2,av4,av5,rfl,ai1,ai2,⟨aa,ak,rfl,ag1,ag2,ag3,ag4⟩,aS,aO,aI⟩:=ha
 unfold maxLen at ag2
 obtain ⟨na,nk,rfl,n1,n2,n3,n4⟩:=hn
 unfold maxLen at n2
 obtain ⟨sa,sk,rfl,s1,s2,s3,s4⟩:=hs
 unfold maxLen at s2
 obtain ⟨W0,hW0,hbx,hx0,hz⟩:=aN w [.int .i64 r.roots,.slice ra r.nodes.length rk,rv2,.int .i64 r.edges,rv4,rv5] 40
 obtain ⟨W1,hW1,hby,hx1,hy⟩:=aN W0 [.int .i64 a.roots,.slice aa a.nodes.length ak,av2,.int .i64 a.edges,av4,av5] 40
 have hwB0:Ext w W1:=hx0.trans hx1
 obtain ⟨WB,hW2,hbm,hx2,hm⟩:=aN W1 [.slice na ns.length nk,.slice sa rs.length sk] 62
 have hwB:Ext w WB:=hwB0.trans hx2
 have hr0:=hx2.keep (hx1.keep (hbx 0 _ rfl).1)
 have hr2:=hx2.keep (hx1.keep (hbx 2 _ rfl).1)
 have hr3:=hx2.keep (hx1.keep (hbx 3 _ rfl).1)
 have hr4:=hx2.keep (hx1.keep (hbx 4 _ rfl).1)
 have hr5:=hx2.keep (hx1.keep (hbx 5 _ rfl).1)
 have hr1:=hx2.keep (hx1.keep (hbx 1 _ rfl).1)
 have ha0:=hx2.keep (hby 0 _ rfl).1
 have ha1:=hx2.keep (hby 1 _ rfl).1
 have ha2:=hx2.keep (hby 2 _ rfl).1
 have ha3:=hx2.keep (hby 3 _ rfl).1
 have ha4:=hx2.keep (hby 4 _ rfl).1
 have ha5:=hx2.keep (hby 5 _ rfl).1
 have m0:=(hbm 0 _ rfl).1
 have m1:=(hbm 1 _ rfl).1
 have hzw:w.heap.size<W0.heap.size:=by omega
 have hzw1:W0.heap.size<W1.heap.size:=by omega
 have hzw2:W1.heap.size<WB.heap.size:=by omega
 clear hz hy hm hbx hby hbm
 replace hA:=bW.keeps _ _ _ _ _ _ (bV.ext hwB) hA
 replace hN:=hN.ext bS.keeps hwB
 replace hS:=hS.ext bS.keeps hwB
 replace hRB:=bW.keeps _ _ _ _ _ _ (bV.ext hwB) hRB
 change Calls Tryz.prog 196 #[.agg #[.int .i64 r.roots,.slice ra r.nodes.length rk,rv2,.int .i64 r.edges,rv4,rv5],.agg #[.int .i64 a.roots,.slice aa a.nodes.length ak,av2,.int .i64 a.edges,av4,av5],.agg #[.slice na ns.length nk,.slice sa rs.length sk],.int .i64 (l:Int)] w _
 go_enter Tryz.func196,Tryz.ntmps196
 go_wp2_with (go_at_call 230;refine (iz l1 h1 _ r (l:Int) _ hRB dr.nodes dr.links).mono ?_;rintro e y ⟨vP,rfl,hVP,hb⟩;obtain ⟨pa,pk,rfl,k1,k2,k3,k4⟩:=hVP)
 unfold maxLen at k2
 have hX:=hwB.trans hb
 replace hr0:=hb.keep hr0;replace hr1:=hb.keep hr1;replace ha0:=hb.keep ha0;replace ha1:=hb.keep ha1;replace ha2:=hb.keep ha2;replace ha3:=hb.keep ha3;replace ha4:=hb.keep ha4;replace ha5:=hb.keep ha5;replace m0:=hb.keep m0;replace m1:=hb.keep m1;replace hr2:=hb.keep hr2;replace hr3:=hb.keep hr3;replace hr4:=hb.keep hr4;replace hr5:=hb.keep hr5
 replace hA:=bW.keeps _ _ _ _ _ _ (bV.ext hb) hA
 replace hRB:=bW.keeps _ _ _ _ _ _ (bV.ext hb) hRB
 have hDL:=da.links
 clear dr da
 generalize aw r (l:Int)=ps at k1 k4 hpl HPM HLA HIL
 obtain ⟨iL,hiL⟩:∃iL,jd r a ns (l:Int)=iL:=⟨_,rfl⟩
 have HIE:=Lib.hid hiL
 rw [hiL] at HLA HIL
 clear hiL
 have hE0:=Ext.refl y
 obtain ⟨i1,j1,hi1,hj1,_,hq1⟩:=HPM.out ps[0] (List.getElem_mem _)
 obtain ⟨m,hm,hlm,em,eim⟩:=HIM.out.img HBR.out HBA.out hi1 hj1
 have hin:i1<ns.length:=by omega
 rw [bJ ns i1 hin] at em
 obtain ⟨pb,po,rfl,pbh1,pbh2,k4⟩:=k4.resolve_left (fun h=>by have h2:=hpl;rw [h] at h2;exact absurd h2 (Nat.not_lt_zero _))
 obtain ⟨nb,no,rfl,nbh1,nbh2,n4⟩:=n4.resolve_left (fun h=>by have h2:=hin;rw [h] at h2;exact absurd h2 (Nat.not_lt_zero _))
 obtain ⟨zb,zo,rfl,zbh1,zbh2,ag4⟩:=ag4.resolve_left (fun h=>by have h2:=hm;rw [h] at h2;exact absurd h2 (Nat.not_lt_zero _))
 obtain ⟨ucs,ul,⟨rfl,ue1,ue2⟩,uc⟩:=k4 0 hpl
 have u0:=hE0.keep (uc 0 _ rfl)
 have u1:=hE0.keep (uc 1 _ rfl)
 rw [Nat.add_zero] at u0
 rw [hq1] at u0 u1
 dsimp only at u0 u1
 obtain ⟨scs,sl,⟨rfl,se⟩,sc⟩:=n4 i1 hin
 have s0:=hX.keep (sc 0 _ rfl)
 rw [Nat.mul_one,Nat.add_zero,em] at s0
 obtain ⟨zcs,zl,⟨zv,rfl,ze1,ze2,⟨ya,yk,rfl,y1,y2,y3,y4⟩⟩,zc⟩:=ag4 m hm
 have z2:=hX.keep (zc 2 _ rfl)
 unfold maxLen at y2
 obtain ⟨yb,yo,rfl,ybh1,ybh2,y4⟩:=y4.resolve_left (fun h=>by have h2:=hlm;rw [h] at h2;exact absurd h2 (Nat.not_lt_zero _))
 obtain ⟨vcs,vl,⟨rfl,ve⟩,vc⟩:=y4 j1 hlm
 have v0:=hX.keep (vc 0 _ rfl)
 rw [Nat.mul_one,Nat.add_zero,← eim] at v0
 rw [← eim] at ve
 have HQ1:=Lib.hid (show dE a ns ((i1:Int),(j1:Int))=dE a ns ps[0] by rw [hq1])
 clear uc ul sc sl zc zl vc vl eim
 have w0:(0:Int)≤(i1:Int):=by omega
 have w1:(i1:Int)<(ns.length:Int):=by omega
 have w2:(0:Int)≤(j1:Int):=by omega
 have w3:(j1:Int)<((a.nodes[m]).links.length:Int):=by omega
 have w4:(0:Int)≤(m:Int):=by omega
 have w5:(m:Int)<(a.nodes.length:Int):=by omega
 obtain ⟨iv,hiv⟩:∃iv,dE a ns ((i1:Int),(j1:Int))=iv:=⟨_,rfl⟩
 rw [hiv] at v0 ve HQ1
 clear hiv
 obtain rfl:iv=iL:=by rw [HQ1.out,HIL.out]
 have HF0:=Lib.hid (show (ps.take 1).all (fun q=>decide (dE a ns q=iv))=true by rw [fh (fun q=>decide (dE a ns q=iv)) ps 0 hpl];simp [HQ1.out])
 go_upto_region 2 with fail
 refine wp_region_held_drew (S:=(fun w'=>Ext y w')) (by kernel_rfl) ?_ (fun hHeld=>?_)
 ·exact (Ext.refl y).drew
 refine tkP 0 ?_ ?_ ?_;rotate_left;focus (intro w;go_simp;try with_reducible rfl)
 try simp only [Act.put,aj]
 refine tkY 1 ?_ ?_ ?_;rotate_left;focus (intro w hSw;(try dsimp only at hSw);have s_hr0:=Ext.keep hSw hr0;have s_hr1:=Ext.keep hSw hr1;have s_ha0:=Ext.keep hSw ha0;have s_ha1:=Ext.keep hSw ha1;have s_ha2:=Ext.keep hSw ha2;have s_ha3:=Ext.keep hSw ha3;have s_ha4:=Ext.keep hSw ha4;have s_ha5:=Ext.keep hSw ha5;have s_m0:=Ext.keep hSw m0;have s_m1:=Ext.keep hSw m1;have s_u0:=Ext.keep hSw u0;have s_u1:=Ext.keep hSw u1;have s_s0:=Ext.keep hSw s0;have s_z2:=Ext.keep hSw z2;have s_v0:=Ext.keep hSw v0;go_simp;try with_reducible rfl)
 try simp only [Act.put,aj]
 refine tkP 2 ?_ ?_ ?_;rotate_left;focus (intro w;go_simp;try with_reducible rfl)
 try simp only [Act.put,aj]
 refine tkY 3 ?_ ?_ ?_;rotate_left;focus (intro w hSw;(try dsimp only at hSw);have s_hr0:=Ext.keep hSw hr0;have s_hr1:=Ext.keep hSw hr1;have s_ha0:=Ext.keep hSw ha0;have s_ha1:=Ext.keep hSw ha1;have s_ha2:=Ext.keep hSw ha2;have s_ha3:=Ext.keep hSw ha3;have s_ha4:=Ext.keep hSw ha4;have s_ha5:=Ext.keep hSw ha5;have s_m0:=Ext.keep hSw m0;have s_m1:=Ext.keep hSw m1;have s_u0:=Ext.keep hSw u0;have s_u1:=Ext.keep hSw u1;have s_s0:=Ext.keep hSw s0;have s_z2:=Ext.keep hSw z2;have s_v0:=Ext.keep hSw v0;go_simp;try with_reducible rfl)
 try simp only [Act.put,aj]
 refine tkP 4 ?_ ?_ ?_;rotate_left;focus (intro w;go_simp;try with_reducible rfl)
 try simp only [Act.put,aj]
 refine tkP 5 ?_ ?_ ?_;rotate_left;focus (intro w;go_simp;try with_reducible rfl)
 try simp only [Act.put,aj]
 refine tkP 6 ?_ ?_ ?_;rotate_left;focus (intro w;go_simp;try with_reducible rfl)
 try simp only [Act.put,aj]
 refine tkY 7 ?_ ?_ ?_;rotate_left;focus (intro w hSw;(try dsimp only at hSw);have s_hr0:=Ext.keep hSw hr0;have s_hr1:=Ext.keep hSw hr1;have s_ha0:=Ext.keep hSw ha0;have s_ha1:=Ext.keep hSw ha1;have s_ha2:=Ext.keep hSw ha2;have s_ha3:=Ext.keep hSw ha3;have s_ha4:=Ext.keep hSw ha4;have s_ha5:=Ext.keep hSw ha5;have s_m0:=Ext.keep hSw m0;have s_m1:=Ext.keep hSw m1;have s_u0:=Ext.keep hSw u0;have s_u1:=Ext.keep hSw u1;have s_s0:=Ext.keep hSw s0;have s_z2:=Ext.keep hSw z2;have s_v0:=Ext.keep hSw v0;go_simp;try with_reducible rfl)
 try simp only [Act.put,aj]
 refine tkP 8 ?_ ?_ ?_;rotate_left;focus (intro w;go_simp;try with_reducible rfl)
 try simp only [Act.put,aj]
 refine tkY 9 ?_ ?_ ?_;rotate_left;focus (intro w hSw;(try dsimp only at hSw);have s_hr0:=Ext.keep hSw hr0;have s_hr1:=Ext.keep hSw hr1;have s_ha0:=Ext.keep hSw ha0;have s_ha1:=Ext.keep hSw ha1;have s_ha2:=Ext.keep hSw ha2;have s_ha3:=Ext.keep hSw ha3;have s_ha4:=Ext.keep hSw ha4;have s_ha5:=Ext.keep hSw ha5;have s_m0:=Ext.keep hSw m0;have s_m1:=Ext.keep hSw m1;have s_u0:=Ext.keep hSw u0;have s_u1:=Ext.keep hSw u1;have s_s0:=Ext.keep hSw s0;have s_z2:=Ext.keep hSw z2;have s_v0:=Ext.keep hSw v0;go_simp;try with_reducible rfl)
 try simp only [Act.put,aj]
 refine tkP 10 ?_ ?_ ?_;rotate_left;focus (intro w;go_simp;try with_reducible rfl)
 try simp only [Act.put,aj]
 refine tkP 11 ?_ ?_ ?_;rotate_left;focus (intro w;go_simp;try with_reducible rfl)
 try simp only [Act.put,aj]
 refine tkY 12 ?_ ?_ ?_;rotate_left;focus (intro w hSw;(try dsimp only at hSw);have s_hr0:=Ext.keep hSw hr0;have s_hr1:=Ext.keep hSw hr1;have s_ha0:=Ext.keep hSw ha0;have s_ha1:=Ext.keep hSw ha1;have s_ha2:=Ext.keep hSw ha2;have s_ha3:=Ext.keep hSw ha3;have s_ha4:=Ext.keep hSw ha4;have s_ha5:=Ext.keep hSw ha5;have s_m0:=Ext.keep hSw m0;have s_m1:=Ext.keep hSw m1;have s_u0:=Ext.keep hSw u0;have s_u1:=Ext.keep hSw u1;have s_s0:=Ext.keep hSw s0;have s_z2:=Ext.keep hSw z2;have s_v0:=Ext.keep hSw v0;go_simp;try with_reducible rfl)
 try simp only [Act.put,aj]
 refine tkP 13 ?_ ?_ ?_;rotate_left;focus (intro w;go_simp;try with_reducible rfl)
 try simp only [Act.put,aj]
 refine tkP 14 ?_ ?_ ?_;rotate_left;focus (intro w;go_simp;try with_reducible rfl)
 try simp only [Act.put,aj]
 refine tkP 15 ?_ ?_ ?_;rotate_left;focus (intro w;go_simp;try with_reducible rfl)
 try simp only [Act.put,aj]
 refine tkY 16 ?_ ?_ ?_;rotate_left;focus (intro w hSw;(try dsimp only at hSw);have s_hr0:=Ext.keep hSw hr0;have s_hr1:=Ext.keep hSw hr1;have s_ha0:=Ext.keep hSw ha0;have s_ha1:=Ext.keep hSw ha1;have s_ha2:=Ext.keep hSw ha2;have s_ha3:=Ext.keep hSw ha3;have s_ha4:=Ext.keep hSw ha4;have s_ha5:=Ext.keep hSw ha5;have s_m0:=Ext.keep hSw m0;have s_m1:=Ext.keep hSw m1;have s_u0:=Ext.keep hSw u0;have s_u1:=Ext.keep hSw u1;have s_s0:=Ext.keep hSw s0;have s_z2:=Ext.keep hSw z2;have s_v0:=Ext.keep hSw v0;go_simp;try with_reducible rfl)
 try simp only [Act.put,aj]
 refine tkP 17 ?_ ?_ ?_;rotate_left;focus (intro w;go_simp;try with_reducible rfl)
 try simp only [Act.put,aj]
 refine tkY 18 ?_ ?_ ?_;rotate_left;focus (intro w hSw;(try dsimp only at hSw);have s_hr0:=Ext.keep hSw hr0;have s_hr1:=Ext.keep hSw hr1;have s_ha0:=Ext.keep hSw ha0;have s_ha1:=Ext.keep hSw ha1;have s_ha2:=Ext.keep hSw ha2;have s_ha3:=Ext.keep hSw ha3;have s_ha4:=Ext.keep hSw ha4;have s_ha5:=Ext.keep hSw ha5;have s_m0:=Ext.keep hSw m0;have s_m1:=Ext.keep hSw m1;have s_u0:=Ext.keep hSw u0;have s_u1:=Ext.keep hSw u1;have s_s0:=Ext.keep hSw s0;have s_z2:=Ext.keep hSw z2;have s_v0:=Ext.keep hSw v0;go_simp;try with_reducible rfl)
 try simp only [Act.put,aj]
 refine tkP 19 ?_ ?_ ?_;rotate_left;focus (intro w;go_simp;try with_reducible rfl)
 try simp only [Act.put,aj]
 refine wpAnyH_done (by kernel_rfl) ?_ _
 have hX2:=hX.trans hHeld
 clear u0 u1 s0 z2 v0 HQ1 w0 w1 w2 w3 w4 w5 hE0 HIL
 go_wp2
 go_loopw [12] (fun c wr=>∃i:Nat,c=.int .i64 i∧1≤i∧i≤ps.length∧(ps.take i).all (fun q=>decide (dE a ns q=iv))=true∧Ext y wr) (fun c _=>ps.length - (intOf c).toNat)
 case atStart=>exact ⟨1,rfl,Nat.le_refl _,hpl,HF0.out,xw⟩
 case round=>
  obtain ⟨i,rfl,hi1',hi0,hok,hx⟩:=hrel
  have HOK:=Lib.hid hok
  clear hok hHeld hX2
  have hXr:Ext w wr:=hX.trans hx
  replace hr0:=hx.keep hr0;replace hr1:=hx.keep hr1;replace ha0:=hx.keep ha0;replace ha1:=hx.keep ha1;replace ha2:=hx.keep ha2;replace ha3:=hx.keep ha3;replace ha4:=hx.keep ha4;replace ha5:=hx.keep ha5;replace m0:=hx.keep m0;replace m1:=hx.keep m1;replace hr2:=hx.keep hr2;replace hr3:=hx.keep hr3;replace hr4:=hx.keep hr4;replace hr5:=hx.keep hr5
  replace hA:=bW.keeps _ _ _ _ _ _ (bV.ext hx) hA
  by_cases hlt:i<ps.length
  ·have HT:=Lib.hid (fh (fun q=>decide (dE a ns q=iv)) ps i hlt)
   have HBD:=Lib.hid (qB (fun q=>decide (dE a ns q=iv)) ps i hlt)
   obtain ⟨i1,j1,hi1,hj1,_,hq1⟩:=HPM.out ps[i] (List.getElem_mem _)
   obtain ⟨m,hm,hlm,em,eim⟩:=HIM.out.img HBR.out HBA.out hi1 hj1
   have hin:i1<ns.length:=by omega
   rw [bJ ns i1 hin] at em
   obtain ⟨ucs,ul,⟨rfl,ue1,ue2⟩,uc⟩:=k4 i hlt
   have u0:=hx.keep (uc 0 _ rfl)
   have u1:=hx.keep (uc 1 _ rfl)
   rw [Nat.add_zero] at u0
   rw [hq1] at u0 u1
   dsimp only at u0 u1
   obtain ⟨scs,sl,⟨rfl,se⟩,sc⟩:=n4 i1 hin
   have s0:=hXr.keep (sc 0 _ rfl)
   rw [Nat.mul_one,Nat.add_zero,em] at s0
   obtain ⟨zcs,zl,⟨zv,rfl,ze1,ze2,⟨ya,yk,rfl,y1,y2,y3,y4⟩⟩,zc⟩:=ag4 m hm
   have z2:=hXr.keep (zc 2 _ rfl)
   unfold maxLen at y2
   obtain ⟨yb,yo,rfl,ybh1,ybh2,y4⟩:=y4.resolve_left (fun h=>by have h2:=hlm;rw [h] at h2;exact absurd h2 (Nat.not_lt_zero _))
   obtain ⟨vcs,vl,⟨rfl,ve⟩,vc⟩:=y4 j1 hlm
   have v0:=hXr.keep (vc 0 _ rfl)
   rw [Nat.mul_one,Nat.add_zero,← eim] at v0
   rw [← eim] at ve
   have HQ1:=Lib.hid (show dE a ns ((i1:Int),(j1:Int))=dE a ns ps[i] by rw [hq1])
   clear uc ul sc sl zc zl vc vl eim
   have w0:(0:Int)≤(i1:Int):=by omega
   have w1:(i1:Int)<(ns.length:Int):=by omega
   have w2:(0:Int)≤(j1:Int):=by omega
   have w3:(j1:Int)<((a.nodes[m]).links.length:Int):=by omega
   have w4:(0:Int)≤(m:Int):=by omega
   have w5:(m:Int)<(a.nodes.length:Int):=by omega
   obtain ⟨jv,hiv⟩:∃jv,dE a ns ((i1:Int),(j1:Int))=jv:=⟨_,rfl⟩
   rw [hiv] at v0 ve HQ1
   clear hiv
   have jj0:(0:Int)≤(i:Int):=by omega
   have jj1:(i:Int)<(ps.length:Int):=by omega
   by_cases hc:(jv)=(iv)
   have ec:((jv) != (iv))=false:=bne_eq_false_iff_eq.2 hc
   have Hc:=Lib.hid hc;clear hc
   have isP:=trivial
   rotate_left
   have ec:((jv) != (iv))=true:=bne_iff_ne.2 hc
   have Hc:=Lib.hid hc;clear hc
   have isF:=trivial
   all_goals go_wp2_with fail
   all_goals
    refine wp_region_held_drew (S:=(fun w'=>Ext wr w')) (by kernel_rfl) ?_ (fun hHeld=>?_)
    ·refine xw
    refine tkP 0 ?_ ?_ ?_;rotate_left;focus (intro w;go_simp;try with_reducible rfl)
    try simp only [Act.put,aj]
    refine tkY 1 ?_ ?_ ?_;rotate_left;focus (intro w hSw;(try dsimp only at hSw);have sx:=hSw;have s_hr0:=Ext.keep sx hr0;have s_hr1:=Ext.keep sx hr1;have s_ha0:=Ext.keep sx ha0;have s_ha1:=Ext.keep sx ha1;have s_ha2:=Ext.keep sx ha2;have s_ha3:=Ext.keep sx ha3;have s_ha4:=Ext.keep sx ha4;have s_ha5:=Ext.keep sx ha5;have s_m0:=Ext.keep sx m0;have s_m1:=Ext.keep sx m1;have s_u0:=Ext.keep sx u0;have s_u1:=Ext.keep sx u1;have s_s0:=Ext.keep sx s0;have s_z2:=Ext.keep sx z2;have s_v0:=Ext.keep sx v0;go_simp;try with_reducible rfl)
    try simp only [Act.put,aj]
    refine tkP 2 ?_ ?_ ?_;rotate_left;focus (intro w;go_simp;try with_reducible rfl)
    try simp only [Act.put,aj]
    refine tkY 3 ?_ ?_ ?_;rotate_left;focus (intro w hSw;(try dsimp only at hSw);have sx:=hSw;have s_hr0:=Ext.keep sx hr0;have s_hr1:=Ext.keep sx hr1;have s_ha0:=Ext.keep sx ha0;have s_ha1:=Ext.keep sx ha1;have s_ha2:=Ext.keep sx ha2;have s_ha3:=Ext.keep sx ha3;have s_ha4:=Ext.keep sx ha4;have s_ha5:=Ext.keep sx ha5;have s_m0:=Ext.keep sx m0;have s_m1:=Ext.keep sx m1;have s_u0:=Ext.keep sx u0;have s_u1:=Ext.keep sx u1;have s_s0:=Ext.keep sx s0;have s_z2:=Ext.keep sx z2;have s_v0:=Ext.keep sx v0;go_simp;try with_reducible rfl)
    try simp only [Act.put,aj]
    refine tkP 4 ?_ ?_ ?_;rotate_left;focus (intro w;go_simp;try with_reducible rfl)
    try simp only [Act.put,aj]
    refine tkP 5 ?_ ?_ ?_;rotate_left;focus (intro w;go_simp;try with_reducible rfl)
    try simp only [Act.put,aj]
    refine tkP 6 ?_ ?_ ?_;rotate_left;focus (intro w;go_simp;try with_reducible rfl)
    try simp only [Act.put,aj]
    refine tkP 7 ?_ ?_ ?_;rotate_left;focus (intro w;go_simp;try with_reducible rfl)
    try simp only [Act.put,aj]
    refine tkY 8 ?_ ?_ ?_;rotate_left;focus (intro w hSw;(try dsimp only at hSw);have sx:=hSw;have s_hr0:=Ext.keep sx hr0;have s_hr1:=Ext.keep sx hr1;have s_ha0:=Ext.keep sx ha0;have s_ha1:=Ext.keep sx ha1;have s_ha2:=Ext.keep sx ha2;have s_ha3:=Ext.keep sx ha3;have s_ha4:=Ext.keep sx ha4;have s_ha5:=Ext.keep sx ha5;have s_m0:=Ext.keep sx m0;have s_m1:=Ext.keep sx m1;have s_u0:=Ext.keep sx u0;have s_u1:=Ext.keep sx u1;have s_s0:=Ext.keep sx s0;have s_z2:=Ext.keep sx z2;have s_v0:=Ext.keep sx v0;go_simp;try with_reducible rfl)
    try simp only [Act.put,aj]
    refine tkP 9 ?_ ?_ ?_;rotate_left;focus (intro w;go_simp;try with_reducible rfl)
    try simp only [Act.put,aj]
    refine tkY 10 ?_ ?_ ?_;rotate_left;focus (intro w hSw;(try dsimp only at hSw);have sx:=hSw;have s_hr0:=Ext.keep sx hr0;have s_hr1:=Ext.keep sx hr1;have s_ha0:=Ext.keep sx ha0;have s_ha1:=Ext.keep sx ha1;have s_ha2:=Ext.keep sx ha2;have s_ha3:=Ext.keep sx ha3;have s_ha4:=Ext.keep sx ha4;have s_ha5:=Ext.keep sx ha5;have s_m0:=Ext.keep sx m0;have s_m1:=Ext.keep sx m1;have s_u0:=Ext.keep sx u0;have s_u1:=Ext.keep sx u1;have s_s0:=Ext.keep sx s0;have s_z2:=Ext.keep sx z2;have s_v0:=Ext.keep sx v0;go_simp;try with_reducible rfl)
    try simp only [Act.put,aj]
    refine tkP 11 ?_ ?_ ?_;rotate_left;focus (intro w;go_simp;try with_reducible rfl)
    try simp only [Act.put,aj]
    refine tkP 12 ?_ ?_ ?_;rotate_left;focus (intro w;go_simp;try with_reducible rfl)
    try simp only [Act.put,aj]
    refine tkY 13 ?_ ?_ ?_;rotate_left;focus (intro w hSw;(try dsimp only at hSw);have sx:=hSw;have s_hr0:=Ext.keep sx hr0;have s_hr1:=Ext.keep sx hr1;have s_ha0:=Ext.keep sx ha0;have s_ha1:=Ext.keep sx ha1;have s_ha2:=Ext.keep sx ha2;have s_ha3:=Ext.keep sx ha3;have s_ha4:=Ext.keep sx ha4;have s_ha5:=Ext.keep sx ha5;have s_m0:=Ext.keep sx m0;have s_m1:=Ext.keep sx m1;have s_u0:=Ext.keep sx u0;have s_u1:=Ext.keep sx u1;have s_s0:=Ext.keep sx s0;have s_z2:=Ext.keep sx z2;have s_v0:=Ext.keep sx v0;go_simp;try with_reducible rfl)
    try simp only [Act.put,aj]
    refine tkP 14 ?_ ?_ ?_;rotate_left;focus (intro w;go_simp;try with_reducible rfl)
    try simp only [Act.put,aj]
    refine tkP 15 ?_ ?_ ?_;rotate_left;focus (intro w;go_simp;try with_reducible rfl)
    try simp only [Act.put,aj]
    refine tkP 16 ?_ ?_ ?_;rotate_left;focus (intro w;go_simp;try with_reducible rfl)
    try simp only [Act.put,aj]
    refine tkP 17 ?_ ?_ ?_;rotate_left;focus (intro w;go_simp;try with_reducible rfl)
    try simp only [Act.put,aj]
    refine tkY 18 ?_ ?_ ?_;rotate_left;focus (intro w hSw;(try dsimp only at hSw);have sx:=hSw;have s_hr0:=Ext.keep sx hr0;have s_hr1:=Ext.keep sx hr1;have s_ha0:=Ext.keep sx ha0;have s_ha1:=Ext.keep sx ha1;have s_ha2:=Ext.keep sx ha2;have s_ha3:=Ext.keep sx ha3;have s_ha4:=Ext.keep sx ha4;have s_ha5:=Ext.keep sx ha5;have s_m0:=Ext.keep sx m0;have s_m1:=Ext.keep sx m1;have s_u0:=Ext.keep sx u0;have s_u1:=Ext.keep sx u1;have s_s0:=Ext.keep sx s0;have s_z2:=Ext.keep sx z2;have s_v0:=Ext.keep sx v0;go_simp;try with_reducible rfl)
    try simp only [Act.put,aj]
    refine tkP 19 ?_ ?_ ?_;rotate_left;focus (intro w;go_simp;try with_reducible rfl)
    try simp only [Act.put,aj]
    refine tkY 20 ?_ ?_ ?_;rotate_left;focus (intro w hSw;(try dsimp only at hSw);have sx:=hSw;have s_hr0:=Ext.keep sx hr0;have s_hr1:=Ext.keep sx hr1;have s_ha0:=Ext.keep sx ha0;have s_ha1:=Ext.keep sx ha1;have s_ha2:=Ext.keep sx ha2;have s_ha3:=Ext.keep sx ha3;have s_ha4:=Ext.keep sx ha4;have s_ha5:=Ext.keep sx ha5;have s_m0:=Ext.keep sx m0;have s_m1:=Ext.keep sx m1;have s_u0:=Ext.keep sx u0;have s_u1:=Ext.keep sx u1;have s_s0:=Ext.keep sx s0;have s_z2:=Ext.keep sx z2;have s_v0:=Ext.keep sx v0;go_simp;try with_reducible rfl)
    try simp only [Act.put,aj]
    refine tkP 21 ?_ ?_ ?_;rotate_left;focus (intro w;go_simp;try with_reducible rfl)
    try simp only [Act.put,aj]
    refine tkP 22 ?_ ?_ ?_;rotate_left;focus (intro w;go_simp;try with_reducible rfl)
    try simp only [Act.put,aj]
    refine wpAnyH_done (by kernel_rfl) ?_ _
   all_goals go_wp2
   all_goals first|(have:=isF;all_goals go_ret2;all_goals exact ⟨by rw [HIE.out,HLA.out,HBD.out (by rw [← HQ1.out];exact decide_eq_false Hc.out)];rfl,xw⟩)|(have:=isP;all_goals go_roundw;(case rel=>exact ⟨i+1,rfl,by omega,by omega,by rw [HT.out,HOK.out,← HQ1.out,decide_eq_true Hc.out];rfl,xw⟩);all_goals (simp only [intOf];omega))
  ·have HAL:=Lib.hid (e9 (fun q=>decide (dE a ns q=iv)) ps i (by omega) HOK.out)
   by_cases hle:(l:Int)<r.edges
   ·have HD1:=Lib.hid (decide_eq_true hle)
    by_cases hie:iv<a.edges
    ·have HD2:=Lib.hid (decide_eq_true hie)
     obtain ⟨pn,hpn⟩:∃pn,(aw a iv).length=pn:=⟨_,rfl⟩
     have HPN:=Lib.hid hpn
     rw [hpn] at HLA
     clear hpn
     go_wp2_with (go_at_call 230;refine (iz l2 h2 _ a iv _ hA hd1 hDL).mono ?_;rintro e y2 ⟨vQ,rfl,hVQ,hb2⟩;obtain ⟨qa,qk,rfl,_⟩:=hVQ;rw [HPN.out])
     go_ret2
     exact ⟨by rw [HIE.out,HLA.out,HAL.out,HD1.out,HD2.out];by_cases hz:pn=ps.length <;> simp [hz];try omega,xw⟩
    ·have HD2:=Lib.hid (decide_eq_false hie)
     go_wp2
     go_ret2
     exact ⟨by rw [HIE.out,HLA.out,HAL.out,HD1.out,HD2.out];rfl,xw⟩
   ·have HD1:=Lib.hid (decide_eq_false hle)
    go_wp2
    go_ret2
    exact ⟨by rw [HIE.out,HLA.out,HAL.out,HD1.out];rfl,xw⟩
set_option maxRecDepth 100000 in
set_option maxHeartbeats 3200000 in
theorem pm (l1 h1 l2 h2 l3 h3:Nat) (cs ds:List Value) (r a:Big) (nv sv:Value) (ns rs:List Int) (sig:List Ctl) (w:World) (hr:bW l1 h1 w cs r) (ha:bW l2 h2 w ds a) (hn:nX l3 h3 w nv ns) (hs:nX l3 h3 w sv rs) (hbr:ay sig r=true) (hba:ay sig a=true) (him:mf r a ns) (hp0:∀l:Nat,l<ap r→aw r l≠[]) :
 Calls Tryz.prog 132 #[.agg cs.toArray,.agg ds.toArray,.agg #[nv,sv]] w fun e w'=>∃v,e=.returned (.tuple #[v,.bool (dO r a ns)])∧SlV 1 bS w.heap.size w'.heap.size w' v (ly r a ns)∧Ext w w':=by
 have HBR:=Lib.hid hbr
 have HBA:=Lib.hid hba
 have HIM:=Lib.hid him
 have HP0:=Lib.hid hp0
 have hRB:=hr
 have hl0:ap r≤1000:=by
  obtain ⟨h2,_,_,_⟩:=cN hbr
  obtain ⟨_,_,_,_,h3,h4,_⟩:=de h2
  have h5:=bL h3
  have h6:=eu h4
  unfold ap
  omega
 have hl1:r.edges+(r.outer.length:Int)=(ap r:Int):=by
  have h3:=bL (de (cN hbr).1).2.2.2.2.1
  unfold ap
  omega
 clear hbr hba him hp0
 have hA:=ha
 have hN:=hn
 have hS:=hs
 obtain ⟨rv1,rv2,rv4,rv5,rfl,ri1,ri2,⟨ra,rk,rfl,rg1,rg2,rg3,rg4⟩,rS,rO,rI⟩:=hr
 unfold maxLen at rg2
 obtain ⟨av1,av2,av4,av5,rfl,ai1,ai2,⟨aa,ak,rfl,ag1,ag2,ag3,ag4⟩,aS,aO,aI⟩:=ha
 unfold maxLen at ag2
 obtain ⟨na,nk,rfl,n1,n2,n3,n4⟩:=hn
 unfold maxLen at n2
 obtain ⟨sa,sk,rfl,s1,s2,s3,s4⟩:=hs
 unfold maxLen at s2
 obtain ⟨W0,hW0,hbx,hx0,hz⟩:=aN w [.int .i64 r.roots,.slice ra r.nodes.length rk,rv2,.int .i64 r.edges,rv4,rv5] 40
 obtain ⟨W1,hW1,hby,hx1,hy⟩:=aN W0 [.int .i64 a.roots,.slice aa a.nodes.length ak,av2,.int .i64 a.edges,av4,av5] 40
 have hwB0:Ext w W1:=hx0.trans hx1
 obtain ⟨WB,hW2,hbm,hx2,hm⟩:=aN W1 [.slice na ns.length nk,.slice sa rs.length sk] 62
 have hwB:Ext w WB:=hwB0.trans hx2
 have hr0:=hx2.keep (hx1.keep (hbx 0 _ rfl).1)
 have hr2:=hx2.keep (hx1.keep (hbx 2 _ rfl).1)
 have hr3:=hx2.keep (hx1.keep (hbx 3 _ rfl).1)
 have hr4:=hx2.keep (hx1.keep (hbx 4 _ rfl).1)
 have hr5:=hx2.keep (hx1.keep (hbx 5 _ rfl).1)
 have hr1:=hx2.keep (hx1.keep (hbx 1 _ rfl).1)
 have ha0:=hx2.keep (hby 0 _ rfl).1
 have ha1:=hx2.keep (hby 1 _ rfl).1
 have ha2:=hx2.keep (hby 2 _ rfl).1
 have ha3:=hx2.keep (hby 3 _ rfl).1
 have ha4:=hx2.keep (hby 4 _ rfl).1
 have ha5:=hx2.keep (hby 5 _ rfl).1
 have m0:=(hbm 0 _ rfl).1
 have m1:=(hbm 1 _ rfl).1
 have hzw:w.heap.size<W0.heap.size:=by omega
 have hzw1:W0.heap.size<W1.heap.size:=by omega
 have hzw2:W1.heap.size<WB.heap.size:=by omega
 clear hz hy hm hbx hby hbm
 replace hA:=bW.keeps _ _ _ _ _ _ (bV.ext hwB) hA
 replace hN:=hN.ext bS.keeps hwB
 replace hS:=hS.ext bS.keeps hwB
 replace hRB:=bW.keeps _ _ _ _ _ _ (bV.ext hwB) hRB
 change Calls Tryz.prog 132 #[.agg #[.int .i64 r.roots,.slice ra r.nodes.length rk,rv2,.int .i64 r.edges,rv4,rv5],.agg #[.int .i64 a.roots,.slice aa a.nodes.length ak,av2,.int .i64 a.edges,av4,av5],.agg #[.slice na ns.length nk,.slice sa rs.length sk]] w _
 go_enter Tryz.func132,Tryz.ntmps132
 obtain ⟨oa,ok,rfl,o1,o2,_⟩:=rO
 unfold maxLen at o2
 obtain ⟨i0,hi0,hz0,hz1,hz2⟩:=info_parts oR
 obtain ⟨n,hn⟩:∃n,ap r=n:=⟨_,rfl⟩
 have HN2:=Lib.hid hn
 rw [hn] at hl0 hl1
 clear hn
 have hrow0:fd 1 bS 3 WB.heap.size (WB.alloc (.cells #[] 3)) (.slice (some ⟨WB.heap.size,0,none⟩) 0 0) []:=fd.made (Nat.le_refl _)
 go_wp2
 go_loopw [8,9] (fun v c wr=>∃i:Nat,c=.int .i64 i∧i≤n∧(List.range i).all (dZ r a ns)=true∧fd 1 bS 3 WB.heap.size wr v (dP r a ns i)∧Ext WB wr) (fun _ c _=>n - (intOf c).toNat)
 case atStart=>exact ⟨0,rfl,Nat.zero_le _,rfl,hrow0,xw⟩
 case round=>
  obtain ⟨i,rfl,hi0',hok,hrow,hx⟩:=hrel
  have HOK:=Lib.hid hok
  clear hok hrow0
  have hX:Ext w wr:=hwB.trans hx
  replace hr0:=hx.keep hr0;replace hr1:=hx.keep hr1;replace ha0:=hx.keep ha0;replace ha1:=hx.keep ha1;replace ha2:=hx.keep ha2;replace ha3:=hx.keep ha3;replace ha4:=hx.keep ha4;replace ha5:=hx.keep ha5;replace m0:=hx.keep m0;replace m1:=hx.keep m1
  replace hA:=bW.keeps _ _ _ _ _ _ (bV.ext hx) hA
  replace hN:=hN.ext bS.keeps hx
  replace hS:=hS.ext bS.keeps hx
  replace hr2:=hx.keep hr2;replace hr3:=hx.keep hr3;replace hr4:=hx.keep hr4;replace hr5:=hx.keep hr5
  replace hRB:=bW.keeps _ _ _ _ _ _ (bV.ext hx) hRB
  by_cases hlt:i<n
  ·have HT:=Lib.hid (cW (dZ r a ns) i)
   have HBD:=Lib.hid (fun h=>aT (dZ r a ns) n i hlt h)
   have hpi:=HP0.out i (by rw [HN2.out];exact hlt)
   have h64:=HIM.out.img_i64 HBR.out HBA.out hpi
   have HIT:=Lib.hid (lj r a ns i)
   have hC:=pz l1 h1 l2 h2 l3 h3 _ _ r a _ _ ns rs sig i wr hRB hA hN hS HBR.out HBA.out HIM.out hpi
   obtain ⟨iv,hiv⟩:∃iv,jd r a ns (i:Int)=iv:=⟨_,rfl⟩
   obtain ⟨bv,hbv⟩:∃bv,dZ r a ns i=bv:=⟨_,rfl⟩
   rw [hiv,hbv] at hC
   rw [hiv] at h64 HIT
   rw [hbv] at HT HBD
   have hil:(dP r a ns i).length=i:=by unfold dP;simp
   have j0:(0:Int)≤(i:Int):=by omega
   have j1:(i:Int)<(n:Int):=by omega
   clear hiv hbv hpi
   cases bv
   ·have HF:=Lib.hid (HBD.out rfl)
    clear HBD
    go_wp2_with (refine hC.mono ?_;rintro e y ⟨rfl,hb⟩)
    go_ret2
    have HF2:=Lib.hid (show dO r a ns=false by unfold dO;rw [HN2.out];exact HF.out)
    rw [HF2.out]
    exact ⟨_,rfl,by rw [jM HF2.out];exact Gd (k:=0) (Nat.zero_le _) (fun _=>rfl),xw⟩
   ·clear HBD
    have hsz:=Below.size hx
    have hi64:I64 iv:=by unfold I64;omega
    go_wp2_with (first|(refine hC.mono ?_;rintro e y ⟨rfl,hb⟩;have hrow2:=hrow.ext bS.keeps hb;have hy:=hx.trans hb;have hsy:=Below.size hb;clear hb)|(at_builtin;refine bF bS.keeps rfl (.tmp 34) (.tmp 36) 25 rfl (WB.heap.size) 3 i0 _ 8 Tryz.underlying25 hi0 hz0 hz1 hz2 rfl (by decide) _ _ (by rfl) (hrow2.ext bS.keeps xw) ⟨y.heap.size,0,none⟩ 1 [.int .i64 iv] rfl rfl (fG (by simp)) (by simp [Value.oneCell']) (WB.heap.size) (WB.heap.size) (Nat.le_refl _) (by first|omega|(simp;omega)) (fun g hg=>.inr (hrow2.block g hg).1) ((iv:Int)) ⟨rfl,hi64⟩ (by first|omega|(simp;omega)) (by decide) (by first|omega|(simp;omega)) ?_;intro v3 w3 row3 ext3 gro3 own3))
    have hx3:=ext3 WB xw (Nat.le_refl _)
    go_roundw
    case rel=>exact ⟨i+1,rfl,by omega,by rw [HT.out,HOK.out];rfl,by rw [HIT.out];exact row3,xw⟩
    all_goals (simp only [intOf];omega)
  ·have e:i=n:=by omega
   have HF:=Lib.hid (show dO r a ns=true by unfold dO;rw [HN2.out,← e];exact HOK.out)
   have HG:=Lib.hid (show aF r a ns=dP r a ns i by unfold aF dP;rw [HN2.out,e])
   go_wp2
   go_ret2
   rw [HF.out]
   exact ⟨_,rfl,by rw [iT HF.out,HG.out];exact hrow.toSlV bS.widens (by omega),xw⟩
end Go.Proofs.YtclpbhoekmecjaaGreatDoor
namespace Go.Proofs.YtclpbhoekmecjaaGreatDoor
open Go.RowKit
set_option linter.unusedVariables false
set_option linter.unusedSimpArgs false
def mg (w:World) (g:Nat) (l:List Int):Prop:=w.heap[g]? = some (.cells (l.map (Value.int .i64)).toArray 3 (0,0))
theorem mg.lt {w:World} {g:Nat} {l:List Int} (h:mg w g l):g<w.heap.size:=(Array.getElem?_eq_some_iff.1 h).1
theorem mg.cell {w:World} {g:Nat} {l:List Int} (h:mg w g l) (j:Nat) (hj:j<l.length):w.cell? ⟨g,j,none⟩=some (.int .i64 l[j]):=by
 unfold mg at h
 simp [World.cell?,h,hj]
theorem mg.froz {w:World} {g:Nat} {l:List Int} (h:mg w g l) (j:Nat):w.frozen? ⟨g,j,none⟩=false:=by
 unfold mg at h
 simp [World.frozen?,h]
theorem mg.ext {w w':World} {g:Nat} {l:List Int} (h:mg w g l) (hx:Ext w w'):mg w' g l:=(hx.block g h.lt).trans h
theorem mg.row {w:World} {g:Nat} {l:List Int} (h:mg w g l) (l':List Int):mg (w.setRow g (l'.map (Value.int .i64)).toArray) g l':=by
 unfold mg at h ⊢
 exact setRow_heap w g _ _ _ _ h
theorem mg.set {w:World} {g:Nat} {l:List Int} (h:mg w g l) (j:Nat) (v:Int):mg (w.setCell ⟨g,j,none⟩ (.int .i64 v)) g (l.set j v):=by
 have h2:=h
 unfold mg at h2
 rw [setCell_eq_setRow w g j _ _ _ _ h2]
 have e:(l.map (Value.int .i64)).toArray.setIfInBounds j (.int .i64 v)=((l.set j v).map (Value.int .i64)).toArray:=by simp [List.map_set]
 rw [e]
 exact h.row _
theorem pj {P:Program} {w:World} {ops:Array Oper} {o:Oper} {a:Act} {Q:Exit→Act→World→Prop} {K:Act→World→Prop} (hw:Region.wanted o (yielded ops a.tmps)=true) (d s:Operand) (dT sT:TypeId)
 (ho:o.op=.call { callee:=.builtin .copy,args:=#[d,s],argTypes:=#[dT,sT] }) (elem:TypeId) (hu:P.underlying dT=some (.slice elem)) (hsz:(P.info? elem).map (·.size)=some 1)
 (g off dLen dCap:Nat) (ad:Addr) (fy sCap:Nat) (hd:a.eval d=.slice (some ⟨g,off,none⟩) dLen dCap) (hs:a.eval s=.slice (some ad) fy sCap)
 (cur:Array Value) (t:TypeId) (hg:w.heap[g]? = some (.cells cur t (0,0))) (cs:List Value) (hn:cs.length=Nat.min fy dLen)
 (hsrc:∀j v,cs[j]? = some v→w.cell? (ad.add j)=some v) (hfit:off+cs.length≤cur.size) (h1:∀v∈cs,v.oneCell'=true)
 (h:K (a.put o.dst (goInt cs.length)) (w.setRow g (cur.toList.take off++cs++cur.toList.drop (off+cs.length)).toArray)):if Region.wanted o (yielded ops a.tmps)=true then Oper.wp P o a w K Q else K (a.put o.dst undef) w:=by
 have hrun:=run_copy_row (P:=P) w dT sT o.type elem g off dLen dCap ad fy sCap cur t cs hu hsz hg hn hsrc hfit h1
 rw [if_pos hw]
 unfold Oper.wp
 simp [execOp,ho,resolve,invoke,builtin,hd,hs,hrun,Result.andThen,Oper.upon]
 simpa using h
theorem xF (n:Nat):(madeCells #[.int .i64 0] (n * 1)).toList=(List.replicate n (0:Int)).map (fun x=>Value.int .i64 x):=by
 unfold madeCells
 apply List.ext_getElem
 ·simp
 ·intro i h1 h2
  simp [Nat.mod_one]
def m6 (x:Int) (k n:Nat):List Int:=List.replicate k x++List.replicate (n - k) 0
theorem CQ (x:Int) (k n:Nat) (h:k≤n):(m6 x k n).length=n:=by unfold m6;simp;omega
theorem sd (x:Int) (k c n:Nat) (h:k+c≤n):(((m6 x k n).map (Value.int .i64)).take k++List.replicate c (.int .i64 x)++((m6 x k n).map (Value.int .i64)).drop (k+c))=(m6 x (k+c) n).map (Value.int .i64):=by
 unfold m6
 rw [← List.map_take,← List.map_drop,List.take_append_of_le_length (by simp),List.take_of_length_le (by simp),List.drop_append,List.drop_of_length_le (by simp),List.drop_replicate]
 simp only [List.map_append,List.map_replicate,List.length_replicate,List.nil_append]
 rw [show n - k - (k+c - k)=n - (k+c) by omega,List.replicate_append_replicate]
theorem BF (x:Int) (n:Nat):m6 x n n=List.replicate n x:=by unfold m6;simp
theorem mg.drew {w:World} {g:Nat} {l:List Int} (h:mg w g l):mg w.drew g l:=h
theorem D5 {w:World} {g k c:Nat} {x:Int} {l:List Int} (h:mg w g l) (hc:c≤l.length) (hl:∀j (hj:j<l.length),j<c→l[j]=x):∀(j:Nat) (v:Value),(List.replicate c (Value.int .i64 x))[j]? = some v→w.cell? ((⟨g,0,none⟩:Addr).add j)=some v:=by
 intro j v hj
 obtain ⟨h1,h2⟩:=List.getElem?_eq_some_iff.1 hj
 rw [List.length_replicate] at h1
 rw [List.getElem_replicate] at h2
 have e:((⟨g,0,none⟩:Addr).add j)=⟨g,j,none⟩:=by cases j <;> simp [Addr.add]
 rw [e,h.cell j (by omega),hl j (by omega) h1,h2]
theorem Ee (x:Int) (k n j:Nat) (hj:j<(m6 x k n).length) (h:j<k):(m6 x k n)[j]=x:=by
 have h2:(m6 x k n)[j]? = some x:=by
  unfold m6
  rw [List.getElem?_append_left (by simpa using h)]
  simp [h]
 exact (List.getElem?_eq_some_iff.1 h2).2
theorem DN:(Tryz.prog.info? 3).map (·.size)=some 1:=by kernel_rfl
set_option maxRecDepth 100000 in
set_option maxHeartbeats 3200000 in
theorem jk (lo hi:Nat) (v:Value) (x:Int) (n:Nat) (w:World) (h:nX lo hi w v [x]) (hn:n≤1000) :
 Calls Tryz.prog 157 #[v,.int .i64 n] w fun e w'=>∃g,e=.returned (.slice (some ⟨g,0,none⟩) n n)∧w.heap.size≤g∧mg w' g (List.replicate n x)∧Ext w w':=by
 obtain ⟨va,vk,rfl,n1,n2,n3,n4⟩:=h
 obtain ⟨b,o,rfl,hb1,hb2,n4⟩:=n4.resolve_left (by simp)
 obtain ⟨cs,cl,⟨rfl,ce⟩,cc⟩:=n4 0 (by simp)
 have c0:=cc 0 _ rfl
 simp only [Nat.zero_mul,Nat.add_zero,List.getElem_cons_zero] at c0 ce
 clear cc cl n4
 unfold maxLen at n2
 obtain ⟨i0,hi0,hz0,hz1,hz2⟩:=info_parts oR
 obtain ⟨W2,hmk,own0,gro0⟩:=run_make_full w w.heap.size 25 3 i0 _ 1 Tryz.underlying25 hi0 hz0 hz1 .i64 .i64 n (by rw [hz2];omega) (by unfold maxLen;omega) (Nat.le_refl _)
 have hx2:Ext w W2:=BO gro0
 have hR0:mg W2 w.heap.size (m6 x 0 n):=by
  obtain ⟨_,h|⟨g,cap,cur,h1,h2,h3,h4,h5,h6,h7⟩⟩:=own0
  ·cases h.1
  ·cases h1
   unfold mg
   rw [h3]
   have e:cur=((m6 x 0 n).map (Value.int .i64)).toArray:=by
    apply Array.ext'
    rw [List.take_of_length_le (by simp;omega)] at h7
    rw [h7]
    have:=xF n
    change (madeCells (Value.int .i64 0).cells (n * 1)).toList=_ at this
    rw [this]
    unfold m6
    simp
   rw [e]
 have hd:=hx2.keep c0
 clear own0 gro0
 have jn:=IntWalk.i64_in (n:Int) (by omega)
 have hml:((1 * n / 18446744073709551616:Nat):Int)=0:=by omega
 have hmh:((1 * n % 18446744073709551616:Nat):Int)=(n:Int):=by omega
 have HM1:=Lib.hid hml
 have HM2:=Lib.hid hmh
 clear hml hmh
 obtain ⟨cn,hcn⟩:∃cn,Nat.min 1 n=cn:=⟨_,rfl⟩
 have hcn1:cn≤1:=by rw [← hcn];exact Nat.min_le_left _ _
 have hcn2:cn≤n:=by rw [← hcn];exact Nat.min_le_right _ _
 have hcn3:n=0∨cn=1:=by rw [← hcn];exact (Nat.eq_zero_or_pos n).imp id (fun h=>Nat.min_eq_left h)
 have HCN:=Lib.hid hcn
 clear hcn
 go_enter Tryz.func157,Tryz.ntmps157
 go_upto_region 7 with (go_at_call 214;refine (Tryz.bits_Mul 1 n (by omega) (by omega) _).mono ?_;rintro e y ⟨rfl,rfl⟩;rw [HM1.out,HM2.out])
 refine wp_region_lit ?_
 refine wpList_plain rfl fun K hK=>?_
 unfold Oper.wp
 go_simp
 refine hK _ _ ?_
 clear hK
 refine wpList_plain rfl fun K hK=>?_
 unfold Oper.wp
 go_simp
 refine hK _ _ ?_
 clear hK
 refine wpList_copy_own rfl (.tmp 31) (.tmp 32) 25 25 rfl 3 Tryz.underlying25 DN y.heap.size 0 n n ⟨b,o,none⟩ 1 vk rfl rfl _ _ hR0 (List.replicate cn (.int .i64 x)) (by rw [List.length_replicate];exact HCN.out.symm) ?_ (by rw [List.length_replicate];simp [m6];omega) (fun v hv=>by rw [List.eq_of_mem_replicate hv];rfl) ?_
 ·intro j v hj
  obtain ⟨h1,h2⟩:=List.getElem?_eq_some_iff.1 hj
  rw [List.length_replicate] at h1
  rw [List.getElem_replicate] at h2
  obtain rfl:j=0:=by omega
  rw [← h2]
  simpa [Addr.add] using hd
 have hR3:mg (W2.setRow y.heap.size ((((m6 x 0 n).map (Value.int .i64)).toArray.toList.take 0++(List.replicate cn (Value.int .i64 x)++((m6 x 0 n).map (Value.int .i64)).toArray.toList.drop (0+(List.replicate cn (Value.int .i64 x)).length))).toArray)) y.heap.size (m6 x cn n):=by
  have e:=sd x 0 cn n (by omega)
  rw [Nat.zero_add] at e
  rw [List.length_replicate,← List.append_assoc,Nat.zero_add,List.toList_toArray,e]
  exact hR0.row _
 have hx3:=below_setRow hx2 (Nat.le_refl y.heap.size) ((((m6 x 0 n).map (Value.int .i64)).toArray.toList.take 0++(List.replicate cn (Value.int .i64 x)++((m6 x 0 n).map (Value.int .i64)).toArray.toList.drop (0+(List.replicate cn (Value.int .i64 x)).length))).toArray)
 generalize W2.setRow y.heap.size _=W3 at hR3 hx3 ⊢
 replace hx3:Ext y W3:=hx3
 rw [List.length_replicate]
 clear hR0 hx2 hd hmk
 go_wp2
 go_loopw [8] (fun c wr=>∃k:Nat,c=.int .i64 k∧k≤n∧(n=0∨1≤k)∧mg wr y.heap.size (m6 x k n)∧Ext y wr) (fun c _=>n - (intOf c).toNat)
 case atStart=>exact ⟨cn,rfl,hcn2,by omega,hR3,hx3⟩
 case round=>
  obtain ⟨k,rfl,hk0,hk1,hrow,hx⟩:=hrel
  clear hR3 hx3
  by_cases hlt:k<n
  ·obtain ⟨c,hc⟩:∃c,Nat.min k (n - k)=c:=⟨_,rfl⟩
   have hc1:c≤k:=by rw [← hc];exact Nat.min_le_left _ _
   have hc2:c≤n - k:=by rw [← hc];exact Nat.min_le_right _ _
   have hc3:1≤c:=by rw [← hc];exact Nat.le_min.2 ⟨by omega,by omega⟩
   have HC:=Lib.hid hc
   clear hc
   have hlen:=CQ x k n hk0
   have hnk:¬n=k:=by omega
   have j0:(0:Int)≤(k:Int):=by omega
   have j1:(k:Int)≤(n:Int):=by omega
   have j2:(k:Int)<(n:Int):=by omega
   have j3:=IntWalk.i64_in ((k:Int)+(c:Int)) (by omega)
   go_upto_region 9 with fail
   refine wp_region_held_drew (S:=(fun w'=>Ext y w')) (by kernel_rfl) ?_ (fun hHeld=>?_)
   ·exact hx.drew
   refine tkP 0 ?_ ?_ ?_;rotate_left;focus (intro w;go_simp;try with_reducible rfl)
   try simp only [Act.put,aj]
   refine tkP 1 ?_ ?_ ?_;rotate_left;focus (intro w;go_simp;try with_reducible rfl)
   try simp only [Act.put,aj]
   refine tkP 2 ?_ ?_ ?_;rotate_left;focus (intro w;go_simp;try with_reducible rfl)
   try simp only [Act.put,aj]
   refine tkP 3 ?_ ?_ ?_;rotate_left;focus (intro w;go_simp;try with_reducible rfl)
   try simp only [Act.put,aj]
   refine tkP 4 ?_ ?_ ?_;rotate_left;focus (intro w;go_simp;try with_reducible rfl)
   try simp only [Act.put,aj]
   refine tkP 5 ?_ ?_ ?_;rotate_left;focus (intro w;go_simp;try with_reducible rfl)
   try simp only [Act.put,aj]
   refine tkP 6 ?_ ?_ ?_;rotate_left;focus (intro w;go_simp;try with_reducible rfl)
   try simp only [Act.put,aj]
   refine wpAnyH_ready (rs:=[7]) (by kernel_rfl) (by simp) ?_
   refine AllReadyH.cons rfl (fun K hK=>?_) AllReadyH.nil
   (refine pj rfl (.tmp 41) (.tmp 44) 25 25 rfl 3 Tryz.underlying25 DN y.heap.size k (n - k) (n - k) ⟨y.heap.size,0,none⟩ k n (by first|rfl|exact congrArg (fun q=>Value.slice q (n - k) (n - k)) (if_neg hnk)) rfl _ _ hrow.drew (List.replicate c (.int .i64 x)) (by rw [List.length_replicate];exact HC.out.symm) (D5 (k:=k) hrow.drew (by omega) (fun j hj h=>Ee x k n j hj (by omega))) (by rw [List.length_replicate];simp [m6];omega) (fun v hv=>by rw [List.eq_of_mem_replicate hv];rfl) ?_;rw [List.length_replicate,List.toList_toArray,sd x k c n (by omega)];have hR4:=hrow.drew.row (m6 x (k+c) n);have hx4:Ext y _:=below_setRow hx.drew (Nat.le_refl y.heap.size) (((m6 x (k+c) n).map (Value.int .i64)).toArray))
   show K _ _
   refine hK.out _ _ (by exact hx4) (fun hHeld=>?_)
   clear hK K
   try simp only [Act.put,aj]
   refine tkP 8 ?_ ?_ ?_;rotate_left;focus (intro w;go_simp;try with_reducible rfl)
   try simp only [Act.put,aj]
   refine tkP 9 ?_ ?_ ?_;rotate_left;focus (intro w;go_simp;try with_reducible rfl)
   try simp only [Act.put,aj]
   refine wpAnyH_done (by kernel_rfl) ?_ _
   go_wp2
   go_roundw
   case rel=>exact ⟨k+c,rfl,by omega,by omega,hR4,hx4⟩
   all_goals (simp only [intOf];omega)
  ·have e:k=n:=by omega
   have HE:=Lib.hid (show m6 x k n=List.replicate n x by rw [e,BF])
   clear e
   go_wp2
   go_ret
   exact ⟨_,rfl,Nat.le_refl _,by rw [← HE.out];exact hrow,hx⟩
end Go.Proofs.YtclpbhoekmecjaaGreatDoor
namespace Go.Proofs.YtclpbhoekmecjaaGreatDoor
open Go.RowKit
set_option linter.unusedVariables false
set_option linter.unusedSimpArgs false
theorem wK:∀x:List UInt8,Op.bytesLess x x=false:=by
 intro x
 induction x with
 | nil=>rfl
 | cons a x ih=>simp [Op.bytesLess,ih]
theorem mO:∀x y z:List UInt8,Op.bytesLess x y=true→Op.bytesLess y z=true→Op.bytesLess x z=true:=by
 intro x
 induction x with
 | nil=>
  intro y z h1 h2
  cases y <;> cases z <;> simp_all [Op.bytesLess]
 | cons a x ih=>
  intro y z h1 h2
  cases y with
  | nil=>simp [Op.bytesLess] at h1
  | cons b y=>
   cases z with
   | nil=>simp [Op.bytesLess] at h2
   | cons c z=>
    simp only [Op.bytesLess,Bool.or_eq_true,Bool.and_eq_true,decide_eq_true_eq,beq_iff_eq] at h1 h2 ⊢
    rcases h1 with h1|⟨h1,h3⟩
    ·rcases h2 with h2|⟨h2,h4⟩
     ·exact .inl (UInt8.lt_trans h1 h2)
     ·subst h2;exact .inl h1
    ·subst h1
     rcases h2 with h2|⟨h2,h4⟩
     ·exact .inl h2
     ·exact .inr ⟨h2,ih _ _ h3 h4⟩
def NLt (a b:ByteArray):Prop:=dh a b=true
theorem NLt.irr (a:ByteArray):¬NLt a a:=fun h=>by
 unfold NLt dh at h
 rw [wK] at h
 cases h
theorem NLt.trans (a b c:ByteArray) (h1:NLt a b) (h2:NLt b c):NLt a c:=mO _ _ _ h1 h2
theorem uQ {α:Type} {lt:α→α→Prop} (tr:∀x y z,lt x y→lt y z→lt x z) (l:List α) (h:∀i (hi:i+1<l.length),lt (l[i]'(by omega)) l[i+1]):l.Pairwise lt:=by
 rw [List.pairwise_iff_getElem]
 intro i j hi hj hij
 obtain ⟨d,rfl⟩:∃d,j=i+1+d:=⟨j - (i+1),by omega⟩
 clear hij
 induction d with
 | zero=>exact h i hj
 | succ d ih=>exact tr _ _ _ (ih (by omega)) (h (i+1+d) (by omega))
theorem rW {l:List ByteArray} (h:dp l=true):l.Pairwise NLt:=by
 refine uQ NLt.trans l (fun i hi=>?_)
 unfold dp at h
 have h2:=(aD _ _).1 (Bool.and_eq_true_iff.1 h).1 (i+1) hi
 rw [rq l (i+1) hi] at h2
 simp only [Bool.and_eq_true,Bool.or_eq_true,decide_eq_true_eq] at h2
 have h3:=h2.2.resolve_left (by omega)
 rw [Nat.add_sub_cancel,List.getD_eq_getElem?_getD,List.getElem?_eq_getElem (by omega),Option.getD_some] at h3
 exact h3
theorem ft {a b:ByteArray} (h:a.toList=b.toList):a=b:=by
 rw [ByteArray.toList_eq,ByteArray.toList_eq] at h
 cases a;cases b;simp_all [Array.ext_iff]
theorem NLt.total {a b:ByteArray} (h:a≠b):NLt a b∨NLt b a:=by
 have:=jO a.toList b.toList
 unfold NLt dh
 by_cases h1:Op.bytesLess b.toList a.toList=true
 ·exact .inr h1
 ·rw [Bool.not_eq_true] at h1
  rw [h1] at this
  simp only [Bool.not_false,Bool.or_eq_true,beq_iff_eq] at this
  exact .inl (this.resolve_right (fun e=>h (ft e)))
def fN {α:Type} (lt:α→α→Bool):List α→α→List α
 | [],x=>[x]
 | y :: t,x=>if lt y x then y :: fN lt t x else x :: y :: t
theorem wN {α:Type} (lt:α→α→Bool) (x:α):∀(l:List α) (k:Nat),k≤l.length→(∀i (h:i<l.length),i<k→lt l[i] x=true)→(∀h:k<l.length,lt l[k] x=false)→fN lt l x=l.take k++x :: l.drop k:=by
 intro l
 induction l with
 | nil=>intro k hk _ _;simp at hk;subst hk;rfl
 | cons y t ih=>
  intro k hk h1 h2
  cases k with
  | zero=>
   have:=h2 (by simp)
   simp only [List.getElem_cons_zero] at this
   simp [fN,this]
  | succ k=>
   have h3:=h1 0 (by simp) (by omega)
   simp only [List.getElem_cons_zero] at h3
   simp only [fN,h3,if_true,List.take_succ_cons,List.drop_succ_cons,List.cons_append]
   rw [ih k (by simp at hk;omega) (fun i h hi=>by have:=h1 (i+1) (by simp;omega) (by omega);simpa using this) (fun h=>by have:=h2 (by simp;omega);simpa using this)]
theorem o8 {α:Type} (lt:α→α→Bool) (x z:α):∀l:List α,z∈fN lt l x↔z=x∨z∈l:=by
 intro l
 induction l with
 | nil=>simp [fN]
 | cons y t ih=>
  unfold fN
  split
  ·rw [List.mem_cons,ih,List.mem_cons]
   constructor
   ·rintro (h|h|h) <;> simp [h]
   ·rintro (h|h|h) <;> simp [h]
  ·simp
theorem pc {α:Type} (lt:α→α→Bool) (x:α):∀l:List α,(fN lt l x).length=l.length+1:=by
 intro l
 induction l with
 | nil=>rfl
 | cons y t ih=>unfold fN;split <;> simp [ih]
theorem tj {α:Type} {lt:α→α→Bool} (tr:∀x y z,lt x y=true→lt y z=true→lt x z=true) (x:α):∀l:List α,l.Pairwise (fun a b=>lt a b=true)→(∀y∈l,lt y x=true∨lt x y=true)→(fN lt l x).Pairwise (fun a b=>lt a b=true):=by
 intro l
 induction l with
 | nil=>intro _ _;simp [fN]
 | cons y t ih=>
  intro h ht
  rw [List.pairwise_cons] at h
  unfold fN
  by_cases hy:lt y x=true
  ·rw [if_pos hy,List.pairwise_cons]
   refine ⟨fun z hz=>?_,ih h.2 (fun z hz=>ht z (by simp [hz]))⟩
   rcases (o8 lt x z t).1 hz with e|hz
   ·rw [e];exact hy
   ·exact h.1 z hz
  ·rw [if_neg hy,List.pairwise_cons,List.pairwise_cons]
   have hx:=(ht y (by simp)).resolve_left hy
   refine ⟨fun z hz=>?_,h⟩
   rcases List.mem_cons.1 hz with e|hz
   ·rw [e];exact hx
   ·exact tr _ _ _ hx (h.1 z hz)
def rL (l:List ByteArray) (s:ByteArray):List ByteArray:=if l.any (fun x=>x.toList == s.toList) then l else fN dh l s
def ca (l:List ByteArray):List ByteArray:=l.foldl rL []
theorem EJ (l:List ByteArray) (s:ByteArray) (h:l.Pairwise NLt):(rL l s).Pairwise NLt∧∀z,z∈rL l s↔z=s∨z∈l:=by
 unfold rL
 by_cases hs:l.any (fun x=>x.toList == s.toList)=true
 ·rw [if_pos hs]
  refine ⟨h,fun z=>⟨fun hz=>.inr hz,?_⟩⟩
  rintro (e|hz)
  ·obtain ⟨x,hx,e2⟩:=List.any_eq_true.1 hs
   rw [beq_iff_eq] at e2
   rw [e,← ft e2];exact hx
  ·exact hz
 ·rw [if_neg hs]
  refine ⟨tj NLt.trans s l h (fun y hy=>NLt.total (fun e=>hs ?_)),fun z=>o8 dh s z l⟩
  exact List.any_eq_true.2 ⟨y,hy,by rw [e];simp⟩
theorem wJ (l:List ByteArray):∀a:List ByteArray,a.Pairwise NLt→(l.foldl rL a).Pairwise NLt∧∀z,z∈l.foldl rL a↔z∈l∨z∈a:=by
 induction l with
 | nil=>intro a h;exact ⟨h,fun z=>by simp⟩
 | cons s l ih=>
  intro a h
  obtain ⟨h1,h2⟩:=EJ a s h
  obtain ⟨h3,h4⟩:=ih _ h1
  refine ⟨h3,fun z=>?_⟩
  rw [List.foldl_cons,h4,h2,List.mem_cons]
  constructor
  ·rintro (h|h|h) <;> simp [h]
  ·rintro ((h|h)|h) <;> simp [h]
theorem tE (l:List ByteArray):(ca l).Pairwise NLt:=(wJ l [] List.Pairwise.nil).1
theorem Bf (l:List ByteArray) (z:ByteArray):z∈ca l↔z∈l:=by
 have:=(wJ l [] List.Pairwise.nil).2 z
 unfold ca;rw [this];simp
theorem wB {l s:List ByteArray} (h:s.Pairwise NLt) (hm:∀z,z∈s↔z∈l):ca l=s:=Au NLt.irr NLt.trans _ _ (tE l) h (fun z=>by rw [Bf,hm])
theorem lX {l:List ByteArray} (h:l.Pairwise NLt):ca l=l:=wB h (fun _=>Iff.rfl)
end Go.Proofs.YtclpbhoekmecjaaGreatDoor
namespace Go.Proofs.YtclpbhoekmecjaaGreatDoor
open Go.RowKit
set_option linter.unusedVariables false
set_option linter.unusedSimpArgs false
def jC (l:List ByteArray) (s:ByteArray):Int:=if l.any (fun x=>x.toList == s.toList) then (l.findIdx (fun x=>x.toList == s.toList):Int) else -1
def wLt (x y:Wr):Bool:=dh x.name y.name
def bK (a b:List Wr):List Wr:=b.foldl (fN wLt) a
def iq (a b:List ByteArray):Bool:=a.all fun s=>!b.any fun x=>x.toList == s.toList
def idB (names:List ByteArray):Big:=⟨0,[],[],0,names,names.mapIdx fun i s=>⟨s,i⟩⟩
def eE:Big:=⟨0,[],[],0,[],[]⟩
def mH (i:Nat):ByteArray:=⟨#[122,UInt8.ofNat (97+i)]⟩
def kQ (outer:List ByteArray) (i:Nat):Bool:=!outer.any (fun x=>x.toList == (mH i).toList)
def bI (outer:List ByteArray) (n:Nat):List ByteArray:=(((List.range 26).filter (kQ outer)).map mH).take n
def kP (r:Big) (ns:List Int) (p:Int):Int:=atI (ba r (di ns p)) 0
end Go.Proofs.YtclpbhoekmecjaaGreatDoor
namespace Go.Proofs.YtclpbhoekmecjaaGreatDoor
open Go.RowKit
set_option linter.unusedVariables false
set_option linter.unusedSimpArgs false
def eP (a:Int) (n:Nat):List Int:=(List.range n).map fun (i:Nat)=>a+i
def dg (a:Int) (n:Nat):List Int:=(List.range n).map fun (i:Nat)=>-1 - a - i
theorem yj (a:Int) (n:Nat):eP a (n+1)=eP a n++[a+n]:=by unfold eP;rw [List.range_succ,List.map_append];rfl
theorem xC (a:Int) (n:Nat):dg a (n+1)=dg a n++[-1 - a - n]:=by unfold dg;rw [List.range_succ,List.map_append];rfl
theorem eK (a:Int) (n:Nat):(eP a n).length=n:=by unfold eP;simp
theorem lv (a:Int) (n:Nat):(dg a n).length=n:=by unfold dg;simp
theorem vr (n:Int):∀(l:List Int) (i:Nat) (h:i<l.length),l[i]=n→(l.take i).any (fun x=>n == x)=false→di l n=(i:Int):=by
 intro l i h e hno
 unfold di
 rw [if_pos (cS.2 (by rw [← e];exact List.getElem_mem h))]
 congr 1
 have hsp:l=l.take i++n :: l.drop (i+1):=by rw [← e,List.getElem_cons_drop,List.take_append_drop]
 have hnm:n ∉ l.take i:=fun hm=>by
  have:=List.any_eq_false.1 hno n hm
  simp at this
 rw [hsp,List.idxOf_append,if_neg hnm,List.idxOf_cons_self,List.length_take]
 omega
attribute [local irreducible] inR jy ay fH g9 eP dg di jC
end Go.Proofs.YtclpbhoekmecjaaGreatDoor
namespace Go.Proofs.YtclpbhoekmecjaaGreatDoor
open Go.RowKit
set_option linter.unusedVariables false
set_option linter.unusedSimpArgs false
theorem mM (l:List ByteArray) (s:ByteArray) : -1≤jC l s∧jC l s<(l.length:Int)+1:=by
 unfold jC
 split
 ·have:=List.findIdx_le_length (p:=fun x:ByteArray=>x.toList == s.toList) (xs:=l)
  omega
 ·omega
theorem qU (l:List ByteArray) (s:ByteArray):decide (0≤jC l s)=l.any (fun x=>x.toList == s.toList):=by
 unfold jC
 by_cases h:l.any (fun x=>x.toList == s.toList)=true
 ·rw [if_pos h,h];simp
 ·rw [if_neg h];rw [Bool.not_eq_true] at h;rw [h];rfl
def dz (names:List ByteArray) (edges:Int) (outer:List ByteArray):List Int:=names.map fun s=>edges+jC outer s
theorem uT {names:List ByteArray} (edges:Int) (outer:List ByteArray) (i:Nat) (h:i<names.length):dz (names.take (i+1)) edges outer=dz (names.take i) edges outer++[edges+jC outer names[i]]:=by
 unfold dz;rw [List.take_succ_eq_append_getElem h,List.map_append];rfl
def upF (by':Int) (ps:List Int) (p:Int):Int:=if p<0 then atI ps (-1 - p) else p+by'
def dx (by':Int) (ps sites:List Int):List Int:=sites.map (upF by' ps)
def Dv (by':Int) (ps:List Int) (p:Int):Prop:=(p<0∧-1 - p<(ps.length:Int))∨(0≤p∧p≤1000)
attribute [local irreducible] jC dz dx
end Go.Proofs.YtclpbhoekmecjaaGreatDoor
namespace Go.Proofs.YtclpbhoekmecjaaGreatDoor
open Go.RowKit
set_option linter.unusedVariables false
set_option linter.unusedSimpArgs false
def dA (ps:List Int) (l:List Wr):List Wr:=l.map fun w=>⟨w.name,atI ps w.link⟩
theorem vt (ps:List Int) {l:List Wr} (i:Nat) (h:i<l.length):dA ps (l.take (i+1))=dA ps (l.take i)++[⟨(l[i]).name,atI ps (l[i]).link⟩]:=by
 unfold dA;rw [List.take_succ_eq_append_getElem h,List.map_append];rfl
attribute [local irreducible] dA
def ez (ks l:List Int):List Int:=l.map (atI ks)
theorem oQ (ks:List Int) {l:List Int} (j:Nat) (h:j<l.length):ez ks (l.take (j+1))=ez ks (l.take j)++[atI ks l[j]]:=by
 unfold ez;rw [List.take_succ_eq_append_getElem h,List.map_append];rfl
def dc (by':Int) (ps ks:List Int) (l:List Nd):List Nd:=l.map fun n=>⟨n.control,upF by' ps n.parent,ez ks n.links⟩
theorem uB (by':Int) (ps ks:List Int) {l:List Nd} (i:Nat) (h:i<l.length):dc by' ps ks (l.take (i+1))=dc by' ps ks (l.take i)++[⟨(l[i]).control,upF by' ps (l[i]).parent,ez ks (l[i]).links⟩]:=by
 unfold dc;rw [List.take_succ_eq_append_getElem h,List.map_append];rfl
attribute [local irreducible] dc ez
end Go.Proofs.YtclpbhoekmecjaaGreatDoor
namespace Go.Proofs.YtclpbhoekmecjaaGreatDoor
open Go.RowKit
set_option linter.unusedVariables false
set_option maxRecDepth 100000
set_option maxHeartbeats 1000000
attribute [local irreducible] az Der At
theorem mB (l:List Int) (n:Int):FnD Tryz.prog 191 [DI l,.i n] (.d (.b (fH l n))):=by
 refine ai Tryz.func191 (fun hw W0=>?_)
 have hl:=(wfM hw.1).1
 refine kgo ?_
 refine ar [0,1] (fun i:Nat=>i≤l.length∧(l.take i).any (fun x=>x == n)=false) (fun i=>l.length - i) (fun i=>[(5,.sy (.d (.i i)))]) 0 ⟨Nat.zero_le _,rfl⟩ (fun i hi=>?_)
 refine kgo ?_
 refine cIf (fun h=>?_) (fun h=>?_)
 ·have h:=of_decide_eq_true h
  have hlt:i<l.length:=by omega
  refine kgo ?_
  refine cIf (fun h2=>?_) (fun h2=>?_)
  ·have h2:=of_decide_eq_true h2
   refine kgo ?_
   rw [show fH l n=true from qb _ _ i hlt (by simp [h2])]
   exact ax
  ·have h2:=of_decide_eq_false h2
   refine kgo ?_
   exact ab (i+1) ⟨hlt,by rw [d9 _ l i hlt,hi.2];simpa using h2⟩ (by omega)
 ·have h:=of_decide_eq_false h
  refine kgo ?_
  rw [show fH l n=false from by unfold fH;rw [← hi.2,List.take_of_length_le (by omega)]]
  exact ax
theorem AM (m:Int) (n:Nat) (hn:n≤1000) (hm : -1000≤m∧m≤1000):FnD Tryz.prog 300 [.i m,.i n] (.row 1 3 ((dg m n).map .i)):=by
 refine ai Tryz.func300 (fun hw W0=>?_)
 refine kgo ?_
 refine ar [0,1] (fun i:Nat=>i≤n) (fun i=>n - i) (fun i=>[(5,.sy (.k 10007)),(10007,.tk (.row 1 3 ((dg m i).map .i))),(6,.sy (.d (.i i)))]) 0 (Nat.zero_le _) (fun i hi=>?_)
 refine kgo ?_
 refine cIf (fun h=>?_) (fun h=>?_)
 ·have h:=of_decide_eq_true h
  have hs:(dg m (i+1)).map D.i=(dg m i).map D.i++[.i (-1 - m - i)]:=by rw [xC,List.map_append];rfl
  have hl:=lv m i
  refine kgo ?_
  exact ab (i+1) (by omega) (by omega)
 ·have h:=of_decide_eq_false h
  refine kgo ?_
  rw [show i=n by omega]
  exact td
theorem yZ (m:Int) (n:Nat) (hn:n≤1000) (hm : -1000≤m∧m≤1000):FnD Tryz.prog 201 [.i m,.i n] (.row 1 3 ((eP m n).map .i)):=by
 refine ai Tryz.func201 (fun hw W0=>?_)
 refine kgo ?_
 refine eQ (fun i:Nat=>i≤n) (fun i=>n - i) (fun i=>[(0,.sy (.d (.i m))),(1,.sy (.d (.i n))),(5,.sy (.k 10007)),(10007,.tk (.row 1 3 ((eP m i).map .i))),(6,.sy (.d (.i i)))]) 0 (Nat.zero_le _) (fun i hi=>?_)
 refine kgo ?_
 refine cIf (fun h=>?_) (fun h=>?_)
 ·have h:=of_decide_eq_true h
  have hs:(eP m (i+1)).map D.i=(eP m i).map D.i++[.i (m+i)]:=by rw [yj,List.map_append];rfl
  have hl:=eK m i
  refine kgo ?_
  exact ab (i+1) (by omega) (by omega)
 ·have h:=of_decide_eq_false h
  refine kgo ?_
  rw [show i=n by omega]
  exact td
end Go.Proofs.YtclpbhoekmecjaaGreatDoor
namespace Go.Proofs.YtclpbhoekmecjaaGreatDoor
open Go.RowKit
set_option linter.unusedVariables false
set_option linter.unusedSimpArgs false
def yM (b:Big):Nat→Int→Int
 | 0,p=>p
 | f+1,p=>if p<0 then p else yM b f (eA b p).parent
def A9 (b:Big) (p:Int):Int:=yM b (p.toNat+1) p
theorem Do {sig:List Ctl} {b:Big} (h:ay sig b=true) (i:Nat) (hi:i<b.nodes.length) : -b.roots≤(b.nodes[i]).parent∧(b.nodes[i]).parent<i:=iP h i hi
theorem Bx {sig:List Ctl} {b:Big} (h:ay sig b=true):∀(f g:Nat) (p:Int),p<b.nodes.length→p.toNat<f→p.toNat<g→yM b f p=yM b g p:=by
 intro f
 induction f with
 | zero=>intro g p _ hf;omega
 | succ f ih=>
  intro g p hp hf hg
  cases g with
  | zero=>omega
  | succ g=>
   unfold yM
   by_cases hn:p<0
   ·rw [if_pos hn,if_pos hn]
   ·rw [if_neg hn,if_neg hn]
    obtain ⟨n,rfl⟩:=Int.eq_ofNat_of_zero_le (show 0≤p by omega)
    have hl:n<b.nodes.length:=by omega
    have:=Do h n hl
    rw [aA b n hl]
    by_cases hq:(b.nodes[n]).parent<0
    ·cases f with
     | zero=>
      cases g with
      | zero=>rfl
      | succ g=>simp only [yM];rw [if_pos hq]
     | succ f=>
      cases g with
      | zero=>simp only [yM];rw [if_pos hq]
      | succ g=>simp only [yM];rw [if_pos hq,if_pos hq]
    ·exact ih g _ (by omega) (by omega) (by omega)
theorem nN (b:Big) {p:Int} (h:p<0):A9 b p=p:=by
 unfold A9 yM;rw [if_pos h]
theorem nP {sig:List Ctl} {b:Big} (h:ay sig b=true) (n:Nat) (hn:n<b.nodes.length):A9 b (n:Int)=A9 b (b.nodes[n]).parent:=by
 have hp:=Do h n hn
 have e:A9 b (n:Int)=yM b n (b.nodes[n]).parent:=by
  unfold A9
  rw [show ((n:Int).toNat+1)=n+1 by omega,yM,if_neg (by omega),aA b n hn]
 rw [e]
 by_cases hq:(b.nodes[n]).parent<0
 ·rw [nN b hq]
  cases n with
  | zero=>rfl
  | succ n=>rw [yM,if_pos hq]
 ·exact Bx h _ _ _ (by omega) (by omega) (by omega)
def iC (b:Big) (r:Int) (i:Nat):Bool:=match b.nodes[i]? with|none=>false|some n=>decide (A9 b n.parent=r)
theorem oY (b:Big) (r:Int) (i:Nat) (h:i<b.nodes.length):iC b r i=decide (A9 b (b.nodes[i]).parent=r):=by unfold iC;rw [List.getElem?_eq_getElem h]
def pg (b:Big) (r:Int):List Int:=idxOf (iC b r) b.nodes.length
end Go.Proofs.YtclpbhoekmecjaaGreatDoor
namespace Go.Proofs.YtclpbhoekmecjaaGreatDoor
open Go.RowKit
set_option linter.unusedVariables false
set_option maxRecDepth 100000
set_option maxHeartbeats 1000000
attribute [local irreducible] az Der At
theorem uj {l:List ByteArray} {s:ByteArray} {i:Nat} (h:i<l.length) (he:(l[i].toList == s.toList)=true) (hn:∀j (h:j<i),((l[j]'(by omega)).toList == s.toList)=false):jC l s=i:=by
 unfold jC
 rw [if_pos (List.any_eq_true.2 ⟨_,List.getElem_mem h,he⟩)]
 have:l.findIdx (fun x=>x.toList == s.toList)=i:=(List.findIdx_eq h).2 ⟨he,fun j hj=>by simpa using hn j hj⟩
 rw [this]
theorem Az {l:List ByteArray} {s:ByteArray} (hn:∀j (h:j<l.length),(l[j].toList == s.toList)=false):jC l s = -1:=by
 unfold jC
 rw [if_neg]
 rw [List.any_eq_true]
 rintro ⟨x,hx,he⟩
 obtain ⟨j,hj,rfl⟩:=List.mem_iff_getElem.1 hx
 rw [hn j hj] at he;cases he
theorem aU {sig:List Ctl} {b:Big} (h:ay sig b=true):(0≤b.roots∧b.roots≤4)∧b.nodes.length≤8∧b.sites.length≤4∧(0≤b.edges∧b.edges≤8)∧b.outer.length≤16∧b.inner.length≤16:=by
 obtain ⟨_,h1,h2,h3,h4,h5,h6⟩:=de (cN h).1
 have:=eu h6
 rw [List.length_map] at this
 exact ⟨bL h1,h2,h3,bL h4,eu h5,this⟩
theorem dQ (f:Nat→Bool) (n:Nat):(idxOf f n).length≤n:=by
 unfold idxOf
 rw [List.length_map]
 exact Nat.le_trans (List.length_filter_le _ _) (by simp)
theorem mx {sig:List Ctl} {a:Big} (hB:ay sig a=true) (m:Mat) (p0:Int) (hp:p0<a.nodes.length):FnD Tryz.prog 193 [a.D,m.D,.i p0] (.d (.b (g9 a m.nodes p0))):=by
 refine ai Tryz.func193 (fun hw W0=>?_)
 refine kgo ?_
 refine eQ (fun p:Int=>p<a.nodes.length∧g9 a m.nodes p0=g9 a m.nodes p) (fun p=>(p+1).toNat) (fun p=>[(2,.sy (.d (.i p))),(3,.sy (.bx 10003 0)),(10003,.tk (.bx (flat a.D))),(4,.sy (.bx 10004 0)),(10004,.tk (.bx (flat m.D)))]) p0 ⟨hp,rfl⟩ (fun p hi=>?_)
 refine kgo ?_
 refine cIf (fun h=>?_) (fun h=>?_)
 ·have h:=of_decide_eq_true h
  obtain ⟨k,rfl⟩:=Int.eq_ofNat_of_zero_le h
  have hk:k<a.nodes.length:=by omega
  have hs:g9 a m.nodes k=(fH m.nodes k || g9 a m.nodes (a.nodes[k]).parent):=eN hB _ k hk
  have hu:=iP hB k hk
  have f1:=mB m.nodes k
  refine kgo ?_
  refine cIf (fun h2=>?_) (fun h2=>?_)
  ·refine kgo ?_
   rw [hi.2,hs,h2]
   exact ax
  ·refine kgo ?_
   exact ab (a.nodes[k]).parent ⟨by omega,by rw [hi.2,hs,h2];rfl⟩ (by omega)
 ·have h:=of_decide_eq_false h
  refine kgo ?_
  rw [hi.2,show g9 a m.nodes p=false from ew _ _ (by omega)]
  exact ax
theorem EX {sig:List Ctl} {b:Big} (hB:ay sig b=true) (p0:Int) (hp:p0<b.nodes.length):FnD Tryz.prog 236 [b.D,.i p0] (.d (.i (A9 b p0))):=by
 refine ai Tryz.func236 (fun hw W0=>?_)
 refine kgo ?_
 refine eQ (fun p:Int=>p<b.nodes.length∧A9 b p0=A9 b p) (fun p=>(p+1).toNat) (fun p=>[(1,.sy (.d (.i p))),(2,.sy (.bx 10002 0)),(10002,.tk (.bx (flat b.D)))]) p0 ⟨hp,rfl⟩ (fun p hi=>?_)
 refine kgo ?_
 refine cIf (fun h=>?_) (fun h=>?_)
 ·have h:=of_decide_eq_true h
  obtain ⟨k,rfl⟩:=Int.eq_ofNat_of_zero_le h
  have hk:k<b.nodes.length:=by omega
  have hu:=iP hB k hk
  refine kgo ?_
  exact ab (b.nodes[k]).parent ⟨by omega,by rw [hi.2,nP hB k hk]⟩ (by omega)
 ·have h:=of_decide_eq_false h
  refine kgo ?_
  rw [hi.2,nN b (by omega)]
  exact ax
theorem zM {sig:List Ctl} {b:Big} (hB:ay sig b=true) (r:Int):FnD Tryz.prog 207 [b.D,.i r] (.row 1 3 ((pg b r).map .i)):=by
 have hn:=(aU hB).2.1
 refine ai Tryz.func207 (fun hw W0=>?_)
 refine kgo ?_
 refine eQ (fun i:Nat=>i≤b.nodes.length) (fun i=>b.nodes.length - i) (fun i=>[(1,.sy (.d (.i r))),(2,.sy (.bx 10002 0)),(10002,.tk (.bx (flat b.D))),(5,.sy (.k 10007)),(10007,.tk (.row 1 3 ((idxOf (iC b r) i).map .i))),(6,.sy (.d (.i i)))]) 0 (Nat.zero_le _) (fun i hi=>?_)
 refine kgo ?_
 refine cIf (fun h=>?_) (fun h=>?_)
 ·have h:=of_decide_eq_true h
  have hlt:i<b.nodes.length:=by omega
  have hu:=iP hB i hlt
  have f1:=EX hB (b.nodes[i]).parent (by omega)
  have hf:=oY b r i hlt
  have hl:=dQ (iC b r) i
  refine kgo ?_
  refine cIf (fun h2=>?_) (fun h2=>?_)
  ·have hs:(idxOf (iC b r) (i+1)).map D.i=(idxOf (iC b r) i).map D.i++[.i i]:=by rw [cY (hf.trans h2),List.map_append];rfl
   refine kgo ?_
   exact ab (i+1) (by omega) (by omega)
  ·have hs:(idxOf (iC b r) (i+1)).map D.i=(idxOf (iC b r) i).map D.i:=by rw [dL (hf.trans h2)]
   refine kgo ?_
   exact ab (i+1) (by omega) (by omega)
 ·have h:=of_decide_eq_false h
  refine kgo ?_
  rw [show i=b.nodes.length by omega]
  exact td
theorem wC (l:List ByteArray) (s:ByteArray):FnD Tryz.prog 200 [DS l,.s s] (.d (.i (jC l s))):=by
 refine ai Tryz.func200 (fun hw W0=>?_)
 have hl:=(wfM hw.1).1
 refine kgo ?_
 refine eQ (fun i:Nat=>i≤l.length∧∀j (h:j<l.length),j<i→(l[j].toList == s.toList)=false) (fun i=>l.length - i) (fun i=>[(0,.sy (.d (DS l))),(1,.sy (.d (.s s))),(5,.sy (.d (.i i)))]) 0 ⟨Nat.zero_le _,fun j _ h=>absurd h (Nat.not_lt_zero _)⟩ (fun i hi=>?_)
 refine kgo ?_
 refine cIf (fun h=>?_) (fun h=>?_)
 ·have h:=of_decide_eq_true h
  have hlt:i<l.length:=by omega
  refine kgo ?_
  refine cIf (fun h2=>?_) (fun h2=>?_)
  ·refine kgo ?_
   rw [uj hlt h2 (fun j hj=>hi.2 j (by omega) hj)]
   exact ax
  ·refine kgo ?_
   exact ab (i+1) ⟨hlt,fun j h1 h3=>by
    rcases Nat.lt_or_ge j i with h4|h4
    ·exact hi.2 j h1 h4
    ·rw [show l[j]=l[i] from by congr 1;omega];exact h2⟩ (by omega)
 ·have h:=of_decide_eq_false h
  refine kgo ?_
  rw [Az (fun j h1=>hi.2 j h1 (by omega))]
  exact ax
end Go.Proofs.YtclpbhoekmecjaaGreatDoor
