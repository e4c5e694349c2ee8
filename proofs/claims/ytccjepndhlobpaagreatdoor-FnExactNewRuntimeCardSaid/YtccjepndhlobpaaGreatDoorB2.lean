/-
  Plain facts and facts on memory that the walks lean on.
-/
import Derived.Test.YtccjepndhlobpaaGreatDoorB0
import Derived.Laws.IdiomStrings
import Derived.Deep.RegionHeld3
import Derived.Deep.MidRow
/-
  Bytes that lie in a row, made a string.
-/
namespace Go.Proofs.YtccjepndhlobpaaGreatDoor
open Go.RowKit
set_option linter.unusedVariables false
set_option linter.unusedSimpArgs false
/-- From block g on lie the bytes of s. -/
def Lies (w:World) (g:Nat) (s:ByteArray):Prop:=∀j (h:j<s.data.size),w.cell? ⟨g,j,none⟩=some (.int .u8 (s.data[j].toNat:Int))
theorem lies_back {P:Program} {w:World} {g:Nat} {s:ByteArray} (h:Lies w g s) (src dst e:TypeId) (cap:Nat) (hs:P.underlying src=some (.slice e)) (he:P.underlying e=some (.int .u8)) (hd:P.underlying dst=some .string) :
 (convert src dst (.slice (some ⟨g,0,none⟩) s.size cap)).run P w=.ok (.string s) w:=by
 have hl:s.size=s.data.toList.length:=by simp
 rw [hl,run_convert_bytes_back w src dst e ⟨g,0,none⟩ cap s.data.toList hs he hd]
 intro j hj
 have e1:((⟨g,0,none⟩:Addr).add j)=⟨g,j,none⟩:=by cases j <;> simp [Addr.add]
 rw [e1,h j (by simpa using hj)]
 simp
theorem wpList_back {P:Program} {w:World} {ops:Array Oper} {rest:List Oper} {o:Oper} {a:Act} {Q:Exit→Act→World→Prop} (hgd:o.guard=none) (src dst e:TypeId) (x:Operand)
 (ho:o.op=.convert src dst x) {g:Nat} {s:ByteArray} (hl:Lies w g s) (n cap:Nat) (hn:s.size=n) (hx:a.eval x=.slice (some ⟨g,0,none⟩) n cap) (hs:P.underlying src=some (.slice e)) (he:P.underlying e=some (.int .u8)) (hd:P.underlying dst=some .string)
 (h:wpList P ops Q rest (a.put o.dst (.string s)) w):wpList P ops Q (o :: rest) a w:=by
 subst hn
 refine wpList_plain hgd fun K hK=>?_
 unfold Oper.wp execOp
 simp only [ho,hx,Sem.run_bind,lies_back hl src dst e cap hs he hd,Result.andThen_ok,Sem.run_pure]
 exact hK _ _ h
end Go.Proofs.YtccjepndhlobpaaGreatDoor

/-
  What lies in memory of its own: rows that grow by append.
-/
namespace Go.Proofs.YtccjepndhlobpaaGreatDoor
open Go.RowKit
set_option linter.unusedVariables false
set_option linter.unusedSimpArgs false

theorem Keeps.ofFlat {α:Type} {P:Lie α} (h:Flat P):Keeps P:=fun _ _ _ _ _ _ _ hp=>h _ _ _ _ _ _ _ _ hp
/-- An own row of data that lie in their cells alone is memory of its own. -/
theorem RowL.toSlO {α:Type} {size:Nat} {P:Lie α} (hF:Flat P) {e:TypeId} {base lo:Nat} {w:World} {v:Value} {xs:List α} (h:RowL size P e base w v xs) (hlo:lo≤base) (hlw:lo≤w.heap.size):SlO size P lo w.heap.size w v xs:=by
 obtain ⟨cells,own,hel⟩:=h
 obtain ⟨a,k,rfl,h1,h2,h3,h4⟩:=own_size own
 refine ⟨a,k,rfl,h1,h2,h3,?_⟩
 rcases h4 with h4|⟨g,rfl,g1,g2,g3⟩
 ·left
  cases xs with
  | nil=>rfl
  | cons x xs=>simp at h4
 ·refine .inr ⟨g,0,fun _=>(lo,lo),rfl,by omega,g2,g2,fun j=>own.frozenAt j,fun i j h1 h2=>.inl (Nat.le_refl _),fun i hi=>?_⟩
  obtain ⟨ds,l,u,d1,d2,d3,d4,d5,d6⟩:=hel i hi
  refine ⟨Nat.le_refl _,hlw,.inl (by show lo≤g;omega),ds,d1,hF _ _ _ _ _ _ _ _ d5,fun t y ht=>by rw [Nat.zero_add];exact g3 _ _ (d6 t y ht)⟩
/-- An own row that reads as a list; the memory of its elements lies one behind the other, apart from the row itself, below m. -/
def RowX {α:Type} (size:Nat) (P:Lie α) (e:TypeId) (base m:Nat) (w:World) (v:Value) (xs:List α):Prop:=
 ∃cells,∃f:Nat→Nat × Nat,w.ownsRow base e size v xs.length cells∧m≤w.heap.size∧(∀i j,i<j→j<xs.length→(f i).2≤(f j).1) ∧
  ∀i (h:i<xs.length),∃ds,ds.length=size∧base≤(f i).1∧(f i).2≤m∧(∀g,v.ownBlock=some g→g<(f i).1∨(f i).2≤g)∧P (f i).1 (f i).2 w ds xs[i]∧∀t y,ds[t]? = some y→cells[i * size+t]? = some y
theorem RowX.nil {α:Type} {size:Nat} {P:Lie α} {e:TypeId} {base m:Nat} {w:World} (hm:m≤w.heap.size):RowX size P e base m w (.slice none 0 0) []:=
 ⟨[],fun _=>(0,0),⟨by simp,.inl ⟨rfl,rfl⟩⟩,hm,fun _ _ _ h=>absurd h (Nat.not_lt_zero _),fun i h=>absurd h (Nat.not_lt_zero _)⟩
theorem RowX.made {α:Type} {size:Nat} {P:Lie α} {e:TypeId} {base m:Nat} {w:World} (hb:base≤w.heap.size) (hm:m≤w.heap.size):RowX size P e base m (w.alloc (.cells #[] e)) (.slice (some ⟨w.heap.size,0,none⟩) 0 0) []:=
 ⟨[],fun _=>(0,0),World.ownsRow_made w #[] 0 hb (by decide) (by simp),by simp;omega,fun _ _ _ h=>absurd h (Nat.not_lt_zero _),fun i h=>absurd h (Nat.not_lt_zero _)⟩
theorem RowX.up {α:Type} {size:Nat} {P:Lie α} {e:TypeId} {base m m':Nat} {w:World} {v:Value} {xs:List α} (h:RowX size P e base m w v xs) (h1:m≤m') (h2:m'≤w.heap.size):RowX size P e base m' w v xs:=by
 obtain ⟨cells,f,own,hm,hf,hel⟩:=h
 refine ⟨cells,f,own,h2,hf,fun i hi=>?_⟩
 obtain ⟨ds,d1,d2,d3,d4,d5,d6⟩:=hel i hi
 exact ⟨ds,d1,d2,by omega,d4,d5,d6⟩
theorem RowX.ext {α:Type} {size:Nat} {P:Lie α} (hP:KeepsO P) {e:TypeId} {base m:Nat} {w w':World} {v:Value} {xs:List α} (h:RowX size P e base m w v xs) (hx:Ext w w'):RowX size P e base m w' v xs:=by
 obtain ⟨cells,f,own,hm,hf,hel⟩:=h
 refine ⟨cells,f,ownsRow_ext own hx,Nat.le_trans hm (Below.size hx),hf,fun i hi=>?_⟩
 obtain ⟨ds,d1,d2,d3,d4,d5,d6⟩:=hel i hi
 exact ⟨ds,d1,d2,d3,d4,hP.ext d5 hx,d6⟩
theorem RowX.block {α:Type} {size:Nat} {P:Lie α} {e:TypeId} {base m:Nat} {w:World} {v:Value} {xs:List α} (h:RowX size P e base m w v xs):∀g,v.ownBlock=some g→base≤g∧g<w.heap.size:=by
 obtain ⟨cells,f,own,hel⟩:=h
 exact own.lt
theorem RowX.form {α:Type} {size:Nat} {P:Lie α} {e:TypeId} {base m:Nat} {w:World} {v:Value} {xs:List α} (h:RowX size P e base m w v xs):∃a k,v=.slice a xs.length k∧xs.length≤k∧k≤maxLen:=by
 obtain ⟨cells,f,own,hel⟩:=h
 obtain ⟨a,k,rfl,h1,h2,_⟩:=own_size own
 exact ⟨a,k,rfl,h1,h2⟩
theorem RowX.form3 {α:Type} {size:Nat} {P:Lie α} {e:TypeId} {base m:Nat} {w:World} {v:Value} {xs:List α} (h:RowX size P e base m w v xs):∃a n k,v=.slice a n k:=by
 obtain ⟨a,k,rfl,_⟩:=h.form
 exact ⟨_,_,_,rfl⟩
theorem RowX.toSlO {α:Type} {size:Nat} {P:Lie α} {e:TypeId} {base lo m:Nat} {w:World} {v:Value} {xs:List α} (h:RowX size P e base m w v xs) (hlo:lo≤base):SlO size P lo w.heap.size w v xs:=by
 obtain ⟨cells,f,own,hm,hf,hel⟩:=h
 have hlt:=own.lt
 obtain ⟨a,k,rfl,h1,h2,h3,h4⟩:=own_size own
 refine ⟨a,k,rfl,h1,h2,h3,?_⟩
 rcases h4 with h4|⟨g,rfl,g1,g2,g3⟩
 ·left
  cases xs with
  | nil=>rfl
  | cons x xs=>simp at h4
 ·refine .inr ⟨g,0,f,rfl,by omega,g2,g2,fun j=>own.frozenAt j,fun i j h1 h2=>.inl (hf i j h1 h2),fun i hi=>?_⟩
  obtain ⟨ds,d1,d2,d3,d4,d5,d6⟩:=hel i hi
  refine ⟨by omega,by omega,?_,ds,d1,d5,fun t y ht=>by rw [Nat.zero_add];exact g3 _ _ (d6 t y ht)⟩
  rcases d4 g rfl with d4|d4
  ·exact .inr (by show g+1≤_;omega)
  ·exact .inl d4
/-- One element more, behind an append. -/
theorem RowX.snoc {α:Type} {size:Nat} {P:Lie α} (hP:KeepsO P) {e:TypeId} {base m:Nat} {w w':World} {v v':Value} {xs:List α} {x:α} {ds:List Value} {l u:Nat} (h:RowX size P e base m w v xs) (hd:ds.length=size) (hml:m≤l) (hl:base≤l) (hlu:l≤u) (hu:u≤w.heap.size) (hs:∀g,v.ownBlock=some g→g<l∨u≤g) (hx:P l u w ds x)
 (hr:∀cells,w.ownsRow base e size v xs.length cells→w'.ownsRow base e size v' (xs.length+1) (cells++ds)) (hg:w.grownBy w' v.ownBlock) (hb:v'.ownBlock=v.ownBlock∨v'.ownBlock=some w.heap.size):RowX size P e base u w' v' (xs++[x]):=by
 obtain ⟨cells,f,own,hm,hf,hel⟩:=h
 have hk:∀l u,(∀g,v.ownBlock=some g→g<l∨u≤g)→Same l u w w':=fun l u hh b h1 h2 h3=>hg.block b h3 (fun e=>by have:=hh b e.symm;omega)
 have hv':∀l u,u≤w.heap.size→(∀g,v.ownBlock=some g→g<l∨u≤g)→∀g,v'.ownBlock=some g→g<l∨u≤g:=by
  intro l u hh hs g hg'
  rcases hb with hb|hb
  ·exact hs g (by rw [← hb];exact hg')
  ·rw [hb] at hg';cases hg';exact .inr hh
 refine ⟨cells++ds,fun i=>if i<xs.length then f i else (l,u),by rw [List.length_append];exact hr cells own,Nat.le_trans hu hg.size,fun i j h1 h2=>?_,fun i hi=>?_⟩
 ·have h2':j<xs.length+1:=by simpa using h2
  by_cases hj:j<xs.length
  ·simp only [if_pos hj,if_pos (show i<xs.length by omega)];exact hf i j h1 hj
  ·simp only [if_neg hj,if_pos (show i<xs.length by omega)]
   obtain ⟨_,_,_,d3,_⟩:=hel i (by omega)
   show (f i).2≤l
   omega
 ·by_cases hlt:i<xs.length
  ·simp only [if_pos hlt]
   obtain ⟨es,d1,d2,d3,d4,d5,d6⟩:=hel i hlt
   refine ⟨es,d1,d2,by omega,hv' _ _ (by omega) d4,?_,fun t y ht=>?_⟩
   ·rw [List.getElem_append_left hlt];exact hP _ _ _ _ _ _ hg.size (hk _ _ d4) d5
   ·have:=d6 t y ht
    rw [List.getElem?_append_left (by
     rcases Nat.lt_or_ge (i * size+t) cells.length with hh|hh
     ·exact hh
     ·rw [List.getElem?_eq_none hh] at this;cases this)]
    exact this
  ·have ei:i=xs.length:=by simp at hi;omega
   subst ei
   simp only [if_neg (Nat.lt_irrefl _)]
   refine ⟨ds,hd,hl,Nat.le_refl _,hv' l u hu hs,?_,fun t y ht=>?_⟩
   ·rw [List.getElem_append_right (Nat.le_refl _)];simp only [Nat.sub_self,List.getElem_cons_zero];exact hP _ _ _ _ _ _ hg.size (hk l u hs) hx
   ·rw [List.getElem?_append_right (by rw [own.1];omega),own.1,show xs.length * size+t - xs.length * size=t by omega];exact ht
theorem RowX.set {α:Type} {size:Nat} {P:Lie α} (hP:KeepsO P) {e:TypeId} {base m B o:Nat} {u:Value} {w:World} {v:Value} {xs:List α} (h:RowX size P e base m w v xs) (hB:B<base):RowX size P e base m (w.setCell ⟨B,o,none⟩ u) v xs:=by
 obtain ⟨cells,f,own,hm,hf,hel⟩:=h
 have hg:=grownBy_set (w:=w) B o u
 refine ⟨cells,f,⟨own.1,?_⟩,by simpa using hm,hf,fun i hi=>?_⟩
 ·rcases own.2 with hn|⟨g,cap,cur,rfl,h1,h2,h3⟩
  ·exact .inl hn
  ·refine .inr ⟨g,cap,cur,rfl,h1,?_,h3⟩
   have hl:g<w.heap.size:=by
    by_cases hh:g<w.heap.size
    ·exact hh
    ·rw [Array.getElem?_eq_none (by omega)] at h2;cases h2
   rw [hg.block g hl (by simp;omega)];exact h2
 ·obtain ⟨ds,d1,d2,d3,d4,d5,d6⟩:=hel i hi
  exact ⟨ds,d1,d2,d3,d4,hP.set d5 (.inl (by omega)),d6⟩
theorem box_cells {w:World} {B:Nat} {cs:List Value} (h:BoxAt w B cs):∀j u,cs[j]? = some u→w.cell? ((⟨B,0,none⟩:Addr).add j)=some u:=by
 intro j u hj
 have e:((⟨B,0,none⟩:Addr).add j)=⟨B,j,none⟩:=by cases j <;> simp [Addr.add]
 rw [e];exact (h j u hj).1
theorem SlO.bnd {α:Type} {P:Lie α} {size lo hi:Nat} {w:World} {v:Value} {xs:List α} (h:SlO size P lo hi w v xs) (hs:lo≤hi):∃l u,lo≤l∧l≤u∧u≤hi∧SlO size P l u w v xs:=⟨lo,hi,Nat.le_refl _,hs,Nat.le_refl _,h⟩
theorem lie_bnd {α:Type} {P:Lie α} {lo hi:Nat} {w:World} {cs:List Value} {x:α} (h:P lo hi w cs x) (hs:lo≤hi):∃l u,lo≤l∧l≤u∧u≤hi∧P l u w cs x:=⟨lo,hi,Nat.le_refl _,hs,Nat.le_refl _,h⟩
theorem SlO.grown {α:Type} {P:Lie α} (hP:KeepsO P) {size lo hi:Nat} {w w':World} {v:Value} {xs:List α} {r:Option Nat} (h:SlO size P lo hi w v xs) (hg:w.grownBy w' r) (hr:∀g,r=some g→g<lo∨hi≤g):SlO size P lo hi w' v xs:=
 h.keepsO hP hg.size (fun b h1 h2 h3=>hg.block b h3 (fun e=>by have:=hr b e.symm;omega))
theorem KeepsO.grown {α:Type} {P:Lie α} (hP:KeepsO P) {lo hi:Nat} {w w':World} {cs:List Value} {x:α} {r:Option Nat} (h:P lo hi w cs x) (hg:w.grownBy w' r) (hr:∀g,r=some g→g<lo∨hi≤g):P lo hi w' cs x:=
 hP _ _ _ _ _ _ hg.size (fun b h1 h2 h3=>hg.block b h3 (fun e=>by have:=hr b e.symm;omega)) h
theorem BoxAt.grown {w w':World} {B:Nat} {cs:List Value} {r:Option Nat} (h:BoxAt w B cs) (hg:w.grownBy w' r) (hr:∀g,r=some g→g≠B):BoxAt w' B cs:=by
 intro j u hj
 obtain ⟨h1,h2⟩:=h j u hj
 have hb:=hg.block B (World.block_lt_of_cell? w ⟨B,j,none⟩ h1) (fun e=>hr B e.symm rfl)
 exact ⟨(World.cell?_of_block hb).trans h1,(World.frozen?_of_block hb).trans h2⟩
variable {P:Program} {w:World}
/-- Append of one element to an own row, as a step of a walk. -/
theorem wpList_append_rowX {α:Type} {size:Nat} {Pd:Lie α} (hPd:KeepsO Pd) {ops:Array Oper} {rest:List Oper} {o:Oper} {a:Act} {Q:Exit→Act→World→Prop} (hgd:o.guard=none) (s x:Operand) (t:TypeId)
 (ho:o.op=.call { callee:=.builtin .append,args:=#[s,x],argTypes:=#[t,t] })
 (base m:Nat) (e:TypeId) (i:TypeInfo) (z:Value) (bytes:Nat) (ht:P.underlying t=some (.slice e)) (hi:P.info? e=some i) (hz:i.zero=some z)
 (hsize:i.size=size) (hby:i.bytes=bytes) (hzs:z.cells.size=size) (hsz:0<size)
 (v:Value) (xs:List α) (hs:a.eval s=v) (hrow:RowX size Pd e base m w v xs)
 (ad:Addr) (c:Nat) (ds:List Value) (hx:a.eval x=.slice (some ad) 1 c) (hl:ds.length=size) (hnews:∀j u,ds[j]? = some u→w.cell? (ad.add j)=some u) (h1:∀u∈ds,u.oneCell'=true)
 (l u:Nat) (hml:m≤l) (hbl:base≤l) (hlu:l≤u) (hu:u≤w.heap.size) (hsep:∀g,v.ownBlock=some g→g<l∨u≤g) (y:α) (hP:Pd l u w ds y)
 (h63:xs.length<100000000) (hbytes:bytes≤1000) (hbase:base≤w.heap.size)
 (h:∀v' w',RowX size Pd e base w'.heap.size w' v' (xs++[y])→(∀W,Ext W w→W.heap.size≤base→Ext W w')→w.grownBy w' v.ownBlock→(v'.ownBlock=v.ownBlock∨v'.ownBlock=some w.heap.size)→wpList P ops Q rest (a.put o.dst v') w') :
 wpList P ops Q (o :: rest) a w:=by
 have hrow0:=hrow
 obtain ⟨cells,f,own,hm,hf,hel⟩:=hrow0
 refine wpList_append_own_at w hgd s x t ho base e i z size bytes ht hi hz hsize hby hzs hsz v xs.length cells hs own ad 1 c ds hx (by omega) hnews h1 (by unfold maxLen;omega) ?_ hbase (fun v' w' own' hg hn hb=>h v' w' (RowX.up ?_ (Nat.le_trans hu hg.size) (Nat.le_refl _)) ?_ hg hb)
 ·have:(xs.length+1) * bytes≤100000000 * 1000:=Nat.mul_le_mul (by omega) hbytes
  omega
 ·exact hrow.snoc hPd hl hml hbl hlu hu hsep hP (fun cells' own2=>by rw [own_same own own2];exact own') hg hb
 ·intro W hW hb2
  exact hW.own hg (fun g hg'=>Nat.le_trans hb2 (hrow.block g hg').1)
end Go.Proofs.YtccjepndhlobpaaGreatDoor

/-
  A region that draws its order, whose last operations come one behind the other: what is held need not hold behind these.
-/
namespace Go.Proofs.YtccjepndhlobpaaGreatDoor
open Go.RowKit
set_option linter.unusedVariables false
set_option linter.unusedSimpArgs false
section
variable {P:Program} {ops:Array Oper} {Q:Exit→Act→World→Prop} {md:Region.Mode} {S:World→Prop}
/-- What is listed has all that it waits for listed. -/
def Closed (md:Region.Mode) (ops:Array Oper) (listed:Array Bool):Prop:=
 ∀k ok,ops[k]? = some ok→listed.getD k false=true→∀e∈ok.after,Region.binds md e=true→listed.getD e.on false=true
theorem getD_flip {listed:Array Bool} {i:Nat} (h:listed.getD i true=false):listed.getD i false=false:=by
 rcases Nat.lt_or_ge i listed.size with h'|h'
 ·simp [h'] at h ⊢;exact h
 ·simp [Array.getElem?_eq_none h'] at h
theorem getD_set_or {listed:Array Bool} {i j:Nat} (h:(listed.setIfInBounds i true).getD j false=true):j=i∨listed.getD j false=true:=by
 by_cases hij:i=j
 ·exact .inl hij.symm
 ·rw [getD_set_ne false hij] at h;exact .inr h
theorem getD_set_up {listed:Array Bool} {i j:Nat} (h:listed.getD j false=true):(listed.setIfInBounds i true).getD j false=true:=by
 by_cases hij:i=j
 ·subst hij
  rcases Nat.lt_or_ge i listed.size with h'|h'
  ·simp [h']
  ·simp [Array.getElem?_eq_none h'] at h
 ·rw [getD_set_ne false hij];exact h
theorem Closed.set {listed:Array Bool} {j:Nat} (h:Closed md ops listed) (hj:j∈Region.ready md ops listed):Closed md ops (listed.setIfInBounds j true):=by
 intro k ok hk hl e he hb
 refine getD_set_up ?_
 rcases getD_set_or hl with rfl|hl
 ·obtain ⟨_,o,ho,hall⟩:=mem_ready.1 hj
  rw [hk] at ho;cases ho
  exact hall e he hb
 ·exact h k ok hk hl e he hb
/-- The one waits for the other, at once or through others. -/
def reachB (md:Region.Mode) (ops:Array Oper):Nat→Nat→Nat→Bool
 | 0,_,_=>false
 | f+1,j,i=>match ops[j]? with|none=>false|some o=>o.after.any (fun e=>Region.binds md e && (e.on == i || reachB md ops f e.on i))
theorem reach_listed {listed:Array Bool} {i:Nat} (hC:Closed md ops listed):∀(f j:Nat) (oj:Oper),ops[j]? = some oj→(∀e∈oj.after,Region.binds md e=true→listed.getD e.on false=true)→reachB md ops f j i=true→listed.getD i false=true:=by
 intro f
 induction f with
 | zero=>intro j oj _ _ h;cases h
 | succ f ih=>
  intro j oj hj hall h
  unfold reachB at h
  rw [hj] at h
  dsimp only at h
  obtain ⟨k,hk,hb⟩:=Array.any_eq_true.1 h
  simp only [Bool.and_eq_true,Bool.or_eq_true,beq_iff_eq] at hb
  have hm:=Array.getElem_mem hk
  obtain ⟨hb1,hb2⟩:=hb
  have hl:=hall _ hm hb1
  rcases hb2 with hb2|hb2
  ·rw [← hb2];exact hl
  ·cases ho:ops[(oj.after[k]).on]? with
   | none=>
    cases f with
    | zero=>cases hb2
    | succ f=>unfold reachB at hb2;rw [ho] at hb2;cases hb2
   | some o2=>exact ih _ o2 ho (hC _ o2 ho hl) hb2
/-- Whatever order is picked: what is held holds behind each operation below L; behind one from L on all goes on freely. -/
def anyTill (P:Program) (md:Region.Mode) (ops:Array Oper) (Q:Exit→Act→World→Prop) (S:World→Prop) (L:Nat):Nat→Array Bool→Act→World→Prop
 | 0,listed,a,w=>Region.ready md ops listed = []∧Q .normal a w
 | n+1,listed,a,w=>Closed md ops listed→(Region.ready md ops listed = []→Q .normal a w) ∧
  ∀i∈Region.ready md ops listed,wpOp P ops Q i (fun a' w'=>(L≤i∧wpAny P md ops Q n (listed.setIfInBounds i true) a' w')∨(i<L∧S w'∧anyTill P md ops Q S L n (listed.setIfInBounds i true) a' w')) a w
theorem anyTill_any {L:Nat}:∀(n:Nat) (listed:Array Bool) (a:Act) (w:World),Closed md ops listed→anyTill P md ops Q S L n listed a w→wpAny P md ops Q n listed a w:=by
 intro n
 induction n with
 | zero=>intro listed a w _ h;exact h
 | succ n ih=>
  intro listed a w hC h
  refine ⟨(h hC).1,fun i hi=>wpOp_mono (fun a' w' hh=>?_) ((h hC).2 i hi)⟩
  rcases hh with ⟨_,hh⟩|⟨_,_,hh⟩
  ·exact hh
  ·exact ih _ _ _ (hC.set hi) hh
theorem anyTill_first {L i:Nat} {oi:Oper} {v:Value} (hiL:i<L) (hreach:∀j,L≤j→j<ops.size→reachB md ops ops.size j i=true) (hi:ops[i]? = some oi) (hsel:∀(j:Nat) (o:Oper) cs b,ops[j]? = some o→o.op≠.select cs b)
 (hQ:∀c a w,Q (.panic c) (a.put oi.dst v) w→Q (.panic c) a w) :
 ∀(n:Nat) (listed:Array Bool) (a:Act) (w:World),
  (∀j oj,ops[j]? = some oj→j≠i→listed.getD j true=false→(∀e∈oj.after,Region.binds md e=true→e.on≠i)→oi.apart ops oj=true) →
  i∈Region.ready md ops listed→YieldsIf P ops S oi v a→S w →
  anyTill P md ops Q S L n (listed.setIfInBounds i true) (a.put oi.dst v) w→anyTill P md ops Q S L (n+1) listed a w:=by
 intro n
 induction n with
 | zero=>
  intro listed a w _ hr hy hS H hC
  refine ⟨fun h=>(by rw [h] at hr;cases hr),fun j hj=>?_⟩
  by_cases hji:j=i
  ·subst hji;exact hy.wpOp hi hS (.inr ⟨hiL,hS,H⟩)
  ·have:=ready_mono hj hji
   rw [H.1] at this
   cases this
 | succ n ih=>
  intro listed a w hfree hr hy hS H hC
  refine ⟨fun h=>(by rw [h] at hr;cases hr),fun j hj=>?_⟩
  by_cases hji:j=i
  ·subst hji;exact hy.wpOp hi hS (.inr ⟨hiL,hS,H⟩)
  ·have h1:=(H (hC.set hr)).2 j (ready_mono hj hji)
   obtain ⟨hjun,oj,hoj,hall⟩:=mem_ready.1 hj
   have hiun:listed.getD i false=false:=getD_flip (mem_ready.1 hr).1
   have hnot:∀e∈oj.after,Region.binds md e=true→e.on≠i:=fun e he hb heq=>by
    have h1:=hall e he hb
    rw [heq,hiun] at h1
    cases h1
   have hjL:j<L:=by
    rcases Nat.lt_or_ge j L with h|h
    ·exact h
    ·have:=reach_listed hC _ j oj hoj hall (hreach j h (Array.getElem?_eq_some_iff.1 hoj).1)
     rw [hiun] at this;cases this
   have h1':wpOp P ops Q j (fun a' w'=>S w'∧anyTill P md ops Q S L n ((listed.setIfInBounds i true).setIfInBounds j true) a' w') (a.put oi.dst v) w:=
    wpOp_mono (fun a' w' hh=>by
     rcases hh with ⟨hh,_⟩|⟨_,hh⟩
     ·omega
     ·exact hh) h1
   have h2:=wpOp_putIf hoj (hfree j oj hoj hji hjun hnot) (fun cs b=>hsel i oi cs b hi) (fun cs b=>hsel j oj cs b hoj) hQ hy h1'
   have hfree':∀k ok,ops[k]? = some ok→k≠i→(listed.setIfInBounds j true).getD k true=false →
    (∀e∈ok.after,Region.binds md e=true→e.on≠i)→oi.apart ops ok=true:=fun k ok hk hki hun hno=>by
    refine hfree k ok hk hki ?_ hno
    by_cases hjk:j=k
    ·subst hjk;exact hjun
    ·rw [getD_set_ne true hjk] at hun;exact hun
   refine wpOp_mono (fun a' w' h3=>.inr ⟨hjL,h3.2.1,ih (listed.setIfInBounds j true) a' w' hfree' (ready_mono hr (Ne.symm hji)) h3.1 h3.2.1 ?_⟩) h2
   rw [Array.setIfInBounds_comm _ _ hji]
   exact h3.2.2
/-- All from L on wait for an operation. -/
def tillB (md:Region.Mode) (ops:Array Oper) (L i:Nat):Bool:=(List.range ops.size).all (fun j=>decide (j<L) || reachB md ops ops.size j i)
theorem anyTill_take {L i:Nat} {oi:Oper} {v:Value} {n:Nat} {listed:Array Bool} {a:Act} {w:World} (hw:tillB md ops L i=true) (hiL:i<L) (hi:ops[i]? = some oi)
 (hs:Region.noSelect ops=true) (hf:Region.free md ops listed i=true) (hr:(Region.ready md ops listed).contains i=true)
 (hQ:∀c a w,Q (.panic c) (a.put oi.dst v) w→Q (.panic c) a w) (hy:YieldsIf P ops S oi v a) (hS:S w)
 (h:anyTill P md ops Q S L n (listed.setIfInBounds i true) (a.put oi.dst v) w):anyTill P md ops Q S L (n+1) listed a w:=
 anyTill_first hiL (fun j h1 h2=>by
  have:=List.all_eq_true.1 hw j (List.mem_range.2 h2)
  simp only [Bool.or_eq_true,decide_eq_true_eq] at this
  rcases this with h|h
  ·omega
  ·exact h) hi (Region.noSelect_spec hs) hQ n listed a w (Region.free_spec hi hf) (by simpa using hr) hy hS h
/-- An operation that looks at no world is taken. -/
theorem ttP (L i:Nat) (v:Value) {oi:Oper} {fuel:Nat} {listed:Array Bool} {a:Act} {w:World} (hy:∀w,(execOp a.eval oi).run P w=.ok (.value v) w)
 (h:anyTill P md ops Q S L fuel (listed.setIfInBounds i true) (a.put oi.dst v) w) (hw:tillB md ops L i=true:=by kernel_rfl) (hiL:i<L:=by decide) (hi:ops[i]? = some oi:=by rfl) (hs:Region.noSelect ops=true:=by kernel_rfl)
 (hf:Region.free md ops listed i=true:=by kernel_rfl) (hr:(Region.ready md ops listed).contains i=true:=by kernel_rfl) (hQ:∀c a w,Q (.panic c) (a.put oi.dst v) w→Q (.panic c) a w:=by exact fun _ _ _ h=>h)
 (hwt:Region.wanted oi (yielded ops a.tmps)=true:=by rfl) (hS:S w:=by assumption):anyTill P md ops Q S L (fuel+1) listed a w:=
 anyTill_take hw hiL hi hs hf hr hQ (.inl ⟨hwt,fun w _=>hy w⟩) hS h
/-- An operation that looks at the world is taken. -/
theorem ttY (L i:Nat) (v:Value) {oi:Oper} {fuel:Nat} {listed:Array Bool} {a:Act} {w:World} (hy:∀w,S w→(execOp a.eval oi).run P w=.ok (.value v) w)
 (h:anyTill P md ops Q S L fuel (listed.setIfInBounds i true) (a.put oi.dst v) w) (hw:tillB md ops L i=true:=by kernel_rfl) (hiL:i<L:=by decide) (hi:ops[i]? = some oi:=by rfl) (hs:Region.noSelect ops=true:=by kernel_rfl)
 (hf:Region.free md ops listed i=true:=by kernel_rfl) (hr:(Region.ready md ops listed).contains i=true:=by kernel_rfl) (hQ:∀c a w,Q (.panic c) (a.put oi.dst v) w→Q (.panic c) a w:=by exact fun _ _ _ h=>h)
 (hwt:Region.wanted oi (yielded ops a.tmps)=true:=by rfl) (hS:S w:=by assumption):anyTill P md ops Q S L (fuel+1) listed a w:=
 anyTill_take hw hiL hi hs hf hr hQ (.inl ⟨hwt,hy⟩) hS h
/-- An operation that is struck is taken. -/
theorem ttN (L i:Nat) {oi:Oper} {fuel:Nat} {listed:Array Bool} {a:Act} {w:World}
 (h:anyTill P md ops Q S L fuel (listed.setIfInBounds i true) (a.put oi.dst undef) w) (hw:tillB md ops L i=true:=by kernel_rfl) (hiL:i<L:=by decide) (hi:ops[i]? = some oi:=by rfl) (hs:Region.noSelect ops=true:=by kernel_rfl)
 (hf:Region.free md ops listed i=true:=by kernel_rfl) (hr:(Region.ready md ops listed).contains i=true:=by kernel_rfl) (hQ:∀c a w,Q (.panic c) (a.put oi.dst undef) w→Q (.panic c) a w:=by exact fun _ _ _ h=>h)
 (hwt:Region.wanted oi (yielded ops a.tmps)=false:=by rfl) (hS:S w:=by assumption):anyTill P md ops Q S L (fuel+1) listed a w:=
 anyTill_take hw hiL hi hs hf hr hQ (.inr ⟨hwt,rfl⟩) hS h
def AllReadyT (P:Program) (md:Region.Mode) (ops:Array Oper) (Q:Exit→Act→World→Prop) (S:World→Prop) (L fuel:Nat) (listed:Array Bool) (a:Act) (w:World) (rs:List Nat):Prop:=
 ∀i∈rs,i<L∧wpOp P ops Q i (fun a' w'=>S w'∧anyTill P md ops Q S L fuel (listed.setIfInBounds i true) a' w') a w
theorem AllReadyT.nil {L fuel:Nat} {listed:Array Bool} {a:Act} {w:World}:AllReadyT P md ops Q S L fuel listed a w []:=fun _ h=>by cases h
theorem AllReadyT.cons {L fuel:Nat} {listed:Array Bool} {a:Act} {w:World} {i:Nat} {o:Oper} {rs:List Nat} (ho:ops[i]? = some o) (hiL:i<L)
 (h:∀K':Act→World→Prop,Shut (∀a w,S w→(S w→anyTill P md ops Q S L fuel (listed.setIfInBounds i true) a w)→K' a w)→if Region.wanted o (yielded ops a.tmps)=true then Oper.wp P o a w K' Q else K' (a.put o.dst undef) w)
 (hs:AllReadyT P md ops Q S L fuel listed a w rs):AllReadyT P md ops Q S L fuel listed a w (i :: rs):=fun j hj=>by
 rcases List.mem_cons.1 hj with rfl|hj
 ·exact ⟨hiL,wpOp_step ho (fun K' hK=>h K' (fun a w hS hW=>hK a w ⟨hS,hW hS⟩))⟩
 ·exact hs j hj
theorem anyTill_ready {rs:List Nat} {L fuel:Nat} {listed:Array Bool} {a:Act} {w:World} (hr:Region.ready md ops listed=rs) (hne:rs≠[])
 (h:AllReadyT P md ops Q S L fuel listed a w rs):anyTill P md ops Q S L (fuel+1) listed a w:=fun hC=>
 ⟨fun h0=>absurd (hr.symm.trans h0) hne,fun i hi=>wpOp_mono (fun a' w' hh=>.inr ⟨(h i (hr ▸ hi)).1,hh⟩) (h i (hr ▸ hi)).2⟩
/-- What is left comes one behind the other. -/
def chainB (md:Region.Mode) (ops:Array Oper):Array Bool→List Nat→Bool
 | listed,[]=>(Region.ready md ops listed).isEmpty
 | listed,i :: l=>(Region.ready md ops listed == [i]) && chainB md ops (listed.setIfInBounds i true) l
def picked (ops:Array Oper) (l:List Nat):List Oper:=l.filterMap (fun i=>ops[i]?)
theorem wpAny_list:∀(l:List Nat) (n:Nat) (listed:Array Bool) (a:Act) (w:World),l.length≤n→chainB md ops listed l=true→wpList P ops Q (picked ops l) a w→wpAny P md ops Q n listed a w:=by
 intro l
 induction l with
 | nil=>
  intro n listed a w _ hc h
  have hr:Region.ready md ops listed = []:=by simpa [chainB] using hc
  cases n with
  | zero=>exact ⟨hr,h⟩
  | succ n=>exact ⟨fun _=>h,fun i hi=>by rw [hr] at hi;cases hi⟩
 | cons i l ih=>
  intro n listed a w hn hc h
  simp only [chainB,Bool.and_eq_true,beq_iff_eq] at hc
  obtain ⟨hr,hc⟩:=hc
  cases n with
  | zero=>simp at hn
  | succ n=>
   refine ⟨fun h0=>(by rw [hr] at h0;cases h0),fun j hj=>?_⟩
   have hj':=hj
   rw [hr] at hj
   obtain rfl:=List.mem_singleton.1 hj
   obtain ⟨_,o,ho,_⟩:=mem_ready.1 hj'
   have e:picked ops (j :: l)=o :: picked ops l:=by simp [picked,ho]
   rw [e] at h
   unfold wpOp
   rw [ho]
   unfold wpList at h
   dsimp only
   split
   ·rename_i hw
    rw [if_pos hw] at h
    exact h.imp (Oper.wp_mono fun a w hh=>ih n _ a w (by simp at hn;omega) hc hh) (fun h=>h)
   ·rename_i hw
    rw [if_neg hw] at h
    exact ih n _ _ _ (by simp at hn;omega) hc h
theorem anyTill_tail {L:Nat} (i:Nat) (l:List Nat) {n:Nat} {listed:Array Bool} {a:Act} {w:World} (hc:chainB md ops listed (i :: l)=true) (hn:l.length≤n) (hL:L≤i)
 (h:wpList P ops Q (picked ops (i :: l)) a w):anyTill P md ops Q S L (n+1) listed a w:=by
 intro hC
 have hA:=wpAny_list (i :: l) (n+1) listed a w (by simp;omega) hc h
 refine ⟨hA.1,fun j hj=>wpOp_mono (fun a' w' hh=>.inl ⟨?_,hh⟩) (hA.2 j hj)⟩
 simp only [chainB,Bool.and_eq_true,beq_iff_eq] at hc
 rw [hc.1] at hj
 obtain rfl:=List.mem_singleton.1 hj
 exact hL
theorem region_till (L:Nat) {id:Nat} {a:Act} {w:World} (hm:P.follows .mixedOrders=true)
 (hS:S w.drew) (h:S w.drew→anyTill P .any ops Q S L ops.size (Array.replicate ops.size false) a w.drew):(Code.region id ops true).wp P Q a w:=
 wp_region_any hm (anyTill_any _ _ _ _ (fun k ok hk hl=>by
  have:k<ops.size:=(Array.getElem?_eq_some_iff.1 hk).1
  simp [this] at hl) (h hS))
/-- What is known behind a region: the frame's slots and the world. -/
def Cut (R:List Value→World→Prop) (a:Act):Exit→Act→World→Prop
 | .normal,a',w'=>∃l,a' = { a with tmps:=l.toArray }∧R l w'
 | _,_,_=>False
theorem region_cut {id:Nat} {b:Bool} {a:Act} {w:World} (R:List Value→World→Prop) (h1:(Code.region id ops b).wp P (Cut R a) a w) (h2:∀l w',R l w'→Q .normal { a with tmps:=l.toArray } w'):(Code.region id ops b).wp P Q a w:=
 Code.wp_mono (fun e a' w' h=>by
  cases e <;> first
   | exact h.elim
   | (obtain ⟨l,rfl,hR⟩:=h;exact h2 l w' hR)) h1
/-- A new block, at a step of a region that draws its order. -/
theorem alloc_box {K:Act→World→Prop} {a:Act} {w:World} {T:TypeId} {cs:List Value} (h:∀w',Ext w w'→w'.heap.size=w.heap.size+1→BoxAt w' w.heap.size cs→K a w'):K a (w.alloc (.cells cs.toArray T)):=
 h _ ((Ext.refl w).alloc _) (by simp) (BoxAt.new w T cs _ rfl)
theorem BoxAt.drew {w:World} {B:Nat} {cs:List Value} (h:BoxAt w B cs):BoxAt w.drew B cs:=h
theorem alloc_box_drew {K:Act→World→Prop} {a:Act} {w:World} {T:TypeId} {cs:List Value} (h:∀w',Ext w w'→w'.heap.size=w.heap.size+1→BoxAt w' w.heap.size cs→K a w'):K a (w.alloc (.cells cs.toArray T)).drew:=
 h _ ((Ext.refl w).alloc _).drew (by simp) (BoxAt.new w T cs _ rfl).drew
end
end Go.Proofs.YtccjepndhlobpaaGreatDoor

/-
  What lies in memory: a whole struct is read out of a box, and stored into one, at once.
-/
namespace Go.Proofs.YtccjepndhlobpaaGreatDoor
open Go.RowKit
set_option linter.unusedVariables false
set_option linter.unusedSimpArgs false
theorem setCells_putW (b:Nat):∀(vs:List Value) (w:World) (o:Nat),w.setCells b o vs=putW w b o vs:=by
 intro vs
 induction vs with
 | nil=>intro w o;rfl
 | cons v vs ih=>intro w o;exact ih _ _
theorem putW_grown (ds:List Value):∀(w:World) (b k:Nat),w.grownBy (putW w b k ds) (some b):=by
 induction ds with
 | nil=>intro w b k;exact grownBy_refl _ _
 | cons d ds ih=>intro w b k;exact grownBy_trans (grownBy_set b k d) (ih _ b (k+1))
theorem BoxAt.put {k B:Nat} {ds:List Value} {w:World} {cs:List Value} (h:BoxAt w B cs):BoxAt (putW w B k ds) B (putAt cs k ds):=by
 induction ds generalizing w k cs with
 | nil=>exact h
 | cons d ds ih=>exact ih (h.set k d)
variable {P:Program}
/-- A struct is stored into a box. -/
theorem store_fact {w:World} {B:Nat} {old:List Value} (hb:BoxAt w B old) (o:Nat) (cs:List Value) (hl:o+cs.length≤old.length) (ty:TypeId) (hi:(P.info? ty).map (·.size)=some cs.length) (h1:cs.all (·.oneCell')=true) :
 ∃w',(Instr.storeAt ty (.pointer (some ⟨B,o,none⟩)) (.agg cs.toArray)).run P w=.ok () w'∧BoxAt w' B (putAt old o cs)∧w.grownBy w' (some B)∧w'.heap.size=w.heap.size:=by
 refine ⟨putW w B o cs,?_,hb.put,putW_grown cs w B o,putW_size _ _ _ _⟩
 rw [run_storeAt_mid w B o ty cs.toArray (fun j hj=>?_) (by simpa using hi) (all_oneCell_toArray (by simpa using h1)),setCells_putW]
 have hj':o+j<old.length:=by simp at hj;omega
 obtain ⟨h2,h3⟩:=hb (o+j) _ (List.getElem?_eq_getElem hj')
 exact ⟨by rw [h2];rfl,h3⟩
/-- The same, as a step of a walk. -/
theorem wpList_store_box {ops:Array Oper} {rest:List Oper} {op:Oper} {a:Act} {w:World} {Q:Exit→Act→World→Prop} (hgd:op.guard=none) (ty:TypeId) (x y:Operand) (ho:op.op=.store ty x y)
 (B o:Nat) (cs old:List Value) (hx:a.eval x=.pointer (some ⟨B,o,none⟩)) (hy:a.eval y=.agg cs.toArray) (hb:BoxAt w B old) (hl:o+cs.length≤old.length) (hi:(P.info? ty).map (·.size)=some cs.length) (h1:cs.all (·.oneCell')=true)
 (h:∀w',BoxAt w' B (putAt old o cs)→w.grownBy w' (some B)→w'.heap.size=w.heap.size→wpList P ops Q rest (a.put op.dst undef) w'):wpList P ops Q (op :: rest) a w:=by
 obtain ⟨w',h2,h3,h4,h5⟩:=store_fact (P:=P) hb o cs hl ty hi h1
 refine wpList_plain hgd fun K hK=>?_
 unfold Oper.wp execOp
 simp only [ho,hx,hy,h2,Sem.run_bind,Sem.run_pure,Result.andThen_ok]
 exact hK _ _ (h w' h3 h4 h5)
/-- A struct is read out of a box, as a step of a walk. -/
theorem wpList_load_box {ops:Array Oper} {rest:List Oper} {op:Oper} {a:Act} {w:World} {Q:Exit→Act→World→Prop} (hgd:op.guard=none) (ty:TypeId) (x:Operand) (ho:op.op=.load ty x)
 (B o:Nat) (cs old:List Value) (hx:a.eval x=.pointer (some ⟨B,o,none⟩)) (hb:BoxAt w B old) (hc:∀j v,cs[j]? = some v→old[o+j]? = some v) (d:TypeDesc) (hu:P.underlying ty=some d) (hd:d.isRow=true) (hi:(P.info? ty).map (·.size)=some cs.length)
 (h:wpList P ops Q rest (a.put op.dst (.agg cs.toArray)) w):wpList P ops Q (op :: rest) a w:=
 wpList_load_mid hgd ty x ho B o hx cs d (fun j v hj=>(hb (o+j) v (hc j v hj)).1) hu hd hi h
/-- A struct is read out of a box. -/
theorem load_fact {w:World} {B:Nat} {old:List Value} (hb:BoxAt w B old) (o:Nat) (cs:List Value) (hc:∀j v,cs[j]? = some v→old[o+j]? = some v) (ty:TypeId) (d:TypeDesc) (hu:P.underlying ty=some d) (hd:d.isRow=true) (hi:(P.info? ty).map (·.size)=some cs.length) :
 (Instr.loadAt ty (.pointer (some ⟨B,o,none⟩))).run P w=.ok (.agg cs.toArray) w:=
 run_loadAt_mid w B o ty cs d (fun j v hv=>(hb (o+j) v (hc j v hv)).1) hu hd hi
end Go.Proofs.YtccjepndhlobpaaGreatDoor
