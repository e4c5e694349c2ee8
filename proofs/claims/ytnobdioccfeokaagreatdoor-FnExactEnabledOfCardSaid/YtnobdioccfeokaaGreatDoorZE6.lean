/-
  Proved facts that the law leans on.
-/
import Derived.Test.YtnobdioccfeokaaGreatDoorZE3
import Derived.Test.YtnobdioccfeokaaGreatDoorZE5
namespace Go.Proofs.YtnobdioccfeokaaGreatDoor
open Go.RowKit
set_option linter.unusedVariables false
set_option linter.unusedSimpArgs false
inductive D where
 | i (n:Int)
 | s (b:ByteArray)
 | b (x:Bool)
 | l (z:Nat) (xs:List D)
 | t (xs:List D)
 | n (z:Nat)
 | p (d:D)
 | f (g:Nat) (ds:List D)
 | any
 | c (v:Value)
abbrev BS:=Nat→Prop
mutual
def Rp (w:World) (S:BS):D→List Value→Prop
 | .i n,cs=>cs = [.int .i64 n]∧I64 n
 | .s b,cs=>cs = [.string b]∧b.size≤maxLen
 | .b x,cs=>cs = [.bool x]
 | .l z xs,cs=>∃a k,cs = [.slice a xs.length k]∧xs.length≤k∧k≤maxLen∧(a=none→k=0)∧(xs = []∨∃b o,a=some ⟨b,o,none⟩∧S b∧RpR w S z b o xs)
 | .t ds,cs=>RpL w S ds cs
 | .n _,cs=>∃a,cs = [.slice a 0 0]
 | .p d,cs=>∃b o us,cs = [.pointer (some ⟨b,o,none⟩)]∧S b∧Rp w S d us∧bA w b o us
 | .f g ds,cs=>∃vs:List Value,cs = [.func (.func g) #[] vs.toArray]∧RpL w S ds vs
 | .any,cs=>∃v,cs = [v]∧v.oneCell'=true
 | .c x,cs=>cs = [x]∧x.oneCell'=true
def RpR (w:World) (S:BS) (z b:Nat) (o:Nat):List D→Prop
 | []=>True
 | d :: ds=>(∃cs,cs.length=z∧Rp w S d cs∧bA w b o cs)∧RpR w S z b (o+z) ds
def RpL (w:World) (S:BS):List D→List Value→Prop
 | [],cs=>cs = []
 | d :: ds,cs=>∃c e,cs=c++e∧Rp w S d c∧RpL w S ds e
end
def fR (S:BS) (w w':World):Prop:=∀b,S b→b<w.heap.size→w'.heap[b]? = w.heap[b]?
theorem fR.cells {S:BS} {w w':World} (h:fR S w w') {b o:Nat} (hb:S b) {cs:List Value} (hc:bA w b o cs):bA w' b o cs:=fun j u hj=>by
 have h1:=hc j u hj
 exact (World.cell?_of_block (h b hb (World.block_lt_of_cell? w ⟨b,o+j,none⟩ h1))).trans h1
mutual
theorem Rp.keep {S S':BS} {w w':World} (hS:∀b,S b→S' b) (h:fR S w w'):∀(d:D) (cs:List Value),Rp w S d cs→Rp w' S' d cs
 | .i n,cs,r=>r
 | .s b,cs,r=>r
 | .b x,cs,r=>r
 | .l z xs,cs,r=>by
  obtain ⟨a,k,h1,h2,h3,h4,h5⟩:=r
  refine ⟨a,k,h1,h2,h3,h4,h5.imp id ?_⟩
  rintro ⟨b,o,h6,h7,h8⟩
  exact ⟨b,o,h6,hS _ h7,RpR.keep hS h z b h7 xs o h8⟩
 | .t ds,cs,r=>RpL.keep hS h ds cs r
 | .n _,cs,r=>r
 | .p d,cs,⟨b,o,us,h1,h2,h3,h4⟩=>⟨b,o,us,h1,hS _ h2,Rp.keep hS h d us h3,h.cells h2 h4⟩
 | .f g ds,cs,⟨vs,h1,h2⟩=>⟨vs,h1,RpL.keep hS h ds vs h2⟩
 | .any,cs,r=>r
 | .c _,cs,r=>r
theorem RpR.keep {S S':BS} {w w':World} (hS:∀b,S b→S' b) (h:fR S w w') (z b:Nat) (hb:S b):∀(ds:List D) (o:Nat),RpR w S z b o ds→RpR w' S' z b o ds
 | [],o,_=>trivial
 | d :: ds,o,⟨⟨cs,h1,h2,h3⟩,h4⟩=>⟨⟨cs,h1,Rp.keep hS h d cs h2,h.cells hb h3⟩,RpR.keep hS h z b hb ds (o+z) h4⟩
theorem RpL.keep {S S':BS} {w w':World} (hS:∀b,S b→S' b) (h:fR S w w'):∀(ds:List D) (cs:List Value),RpL w S ds cs→RpL w' S' ds cs
 | [],cs,r=>r
 | d :: ds,cs,⟨c,e,h1,h2,h3⟩=>⟨c,e,h1,Rp.keep hS h d c h2,RpL.keep hS h ds e h3⟩
end
theorem gB {w:World} {S:BS} {z b:Nat}:∀(ds:List D) (o:Nat),RpR w S z b o ds↔∀i (h:i<ds.length),∃cs,cs.length=z∧Rp w S ds[i] cs∧bA w b (o+i * z) cs:=by
 intro ds
 induction ds with
 | nil=>intro o;exact ⟨fun _ i h=>absurd h (Nat.not_lt_zero _),fun _=>trivial⟩
 | cons d ds ih=>
  intro o
  unfold RpR
  rw [ih]
  constructor
  ·rintro ⟨h1,h2⟩ i hi
   cases i with
   | zero=>rw [Nat.zero_mul,Nat.add_zero];exact h1
   | succ i=>
    have:=h2 i (by simpa using hi)
    rw [show o+(i+1) * z=o+z+i * z by rw [Nat.add_mul];omega]
    exact this
  ·intro h
   refine ⟨?_,fun i hi=>?_⟩
   ·have:=h 0 (by simp)
    rw [Nat.zero_mul,Nat.add_zero] at this;exact this
   ·have:=h (i+1) (by simpa using hi)
    rw [show o+(i+1) * z=o+z+i * z by rw [Nat.add_mul];omega] at this
    exact this
def DV (w:World) (S:BS) (d:D) (v:Value):Prop:=match d with
 | .t ds=>∃cs,v=.agg cs.toArray∧RpL w S ds cs
 | d=>Rp w S d [v]
theorem DV.keep {S S':BS} {w w':World} (hS:∀b,S b→S' b) (h:fR S w w') {d:D} {v:Value} (r:DV w S d v):DV w' S' d v:=by
 cases d with
 | t ds=>obtain ⟨cs,h1,h2⟩:=r;exact ⟨cs,h1,RpL.keep hS h ds cs h2⟩
 | _=>exact Rp.keep hS h _ _ r
mutual
def Ow (w:World):D→BS→List Value→Prop
 | .i n,T,cs=>cs = [.int .i64 n]∧I64 n
 | .s b,T,cs=>cs = [.string b]∧b.size≤maxLen
 | .b x,T,cs=>cs = [.bool x]
 | .n _,T,cs=>∃a,cs = [.slice a 0 0]
 | .l z xs,T,cs=>∃a k,cs = [.slice a xs.length k]∧xs.length≤k∧k≤maxLen∧(a=none→k=0)∧(xs = []∨∃(b o:Nat) (U:BS),a=some ⟨b,o,none⟩∧T b∧b<w.heap.size∧(∀q,w.frozen? ⟨b,q,none⟩=false)∧(∀c,U c→T c∧c≠b)∧OwR w xs U z b o)
 | .t ds,T,cs=>OwL w ds T cs
 | .p _,T,cs=>False
 | .f _ _,T,cs=>False
 | .any,T,cs=>False
 | .c _,T,cs=>False
def OwR (w:World):List D→BS→Nat→Nat→Nat→Prop
 | [],U,z,b,o=>True
 | d :: ds,U,z,b,o=>∃U1 U2:BS,(∀c,U1 c→U c)∧(∀c,U2 c→U c)∧(∀c,U1 c→¬U2 c)∧(∃cs,cs.length=z∧Ow w d U1 cs∧bA w b o cs)∧OwR w ds U2 z b (o+z)
def OwL (w:World):List D→BS→List Value→Prop
 | [],T,cs=>cs = []
 | d :: ds,T,cs=>∃(T1 T2:BS) (c e:List Value),(∀x,T1 x→T x)∧(∀x,T2 x→T x)∧(∀x,T1 x→¬T2 x)∧cs=c++e∧Ow w d T1 c∧OwL w ds T2 e
end
mutual
theorem Ow.keep {w w':World} (hsz:w.heap.size≤w'.heap.size):∀(d:D) (T T':BS) (cs:List Value),(∀b,T b→T' b)→fR T w w'→Ow w d T cs→Ow w' d T' cs
 | .i n,T,T',cs,hS,h,r=>r
 | .s b,T,T',cs,hS,h,r=>r
 | .b x,T,T',cs,hS,h,r=>r
 | .n _,T,T',cs,hS,h,r=>r
 | .l z xs,T,T',cs,hS,h,r=>by
  obtain ⟨a,k,h1,h2,h3,h4,h5⟩:=r
  refine ⟨a,k,h1,h2,h3,h4,h5.imp id ?_⟩
  rintro ⟨b,o,U,e1,e2,e3,e4,e5,e6⟩
  exact ⟨b,o,U,e1,hS _ e2,Nat.lt_of_lt_of_le e3 hsz,fun q=>(World.frozen?_of_block (h b e2 e3)).trans (e4 q),fun c hc=>⟨hS _ (e5 c hc).1,(e5 c hc).2⟩,OwR.keep hsz xs U z b o (fun c hc=>h c (e5 c hc).1) (h b e2) e6⟩
 | .t ds,T,T',cs,hS,h,r=>OwL.keep hsz ds T T' cs hS h r
 | .p _,_,_,_,_,_,r=>r
 | .f _ _,_,_,_,_,_,r=>r
 | .any,_,_,_,_,_,r=>r
 | .c _,_,_,_,_,_,r=>r
theorem OwR.keep {w w':World} (hsz:w.heap.size≤w'.heap.size):∀(ds:List D) (U:BS) (z b o:Nat),fR U w w'→(b<w.heap.size→w'.heap[b]? = w.heap[b]?)→OwR w ds U z b o→OwR w' ds U z b o
 | [],U,z,b,o,h,hb,r=>trivial
 | d :: ds,U,z,b,o,h,hb,⟨U1,U2,h1,h2,h3,⟨cs,h4,h5,h6⟩,h7⟩=>⟨U1,U2,h1,h2,h3,⟨cs,h4,Ow.keep hsz d U1 U1 cs (fun _ h=>h) (fun c hc=>h c (h1 c hc)) h5,fun j u hj=>by
  have h8:=h6 j u hj
  exact (World.cell?_of_block (hb (World.block_lt_of_cell? w ⟨b,o+j,none⟩ h8))).trans h8⟩,OwR.keep hsz ds U2 z b (o+z) (fun c hc=>h c (h2 c hc)) hb h7⟩
theorem OwL.keep {w w':World} (hsz:w.heap.size≤w'.heap.size):∀(ds:List D) (T T':BS) (cs:List Value),(∀b,T b→T' b)→fR T w w'→OwL w ds T cs→OwL w' ds T' cs
 | [],T,T',cs,hS,h,r=>r
 | d :: ds,T,T',cs,hS,h,⟨T1,T2,c,e,h1,h2,h3,h4,h5,h6⟩=>⟨T1,T2,c,e,fun x hx=>hS x (h1 x hx),fun x hx=>hS x (h2 x hx),h3,h4,Ow.keep hsz d T1 T1 c (fun _ h=>h) (fun x hx=>h x (h1 x hx)) h5,OwL.keep hsz ds T2 T2 e (fun _ h=>h) (fun x hx=>h x (h2 x hx)) h6⟩
end
mutual
theorem Ow.rp {w:World}:∀(d:D) (T:BS) (cs:List Value),Ow w d T cs→Rp w T d cs
 | .i n,T,cs,r=>r
 | .s b,T,cs,r=>r
 | .b x,T,cs,r=>r
 | .n _,T,cs,r=>r
 | .l z xs,T,cs,⟨a,k,h1,h2,h3,h4,h5⟩=>⟨a,k,h1,h2,h3,h4,h5.imp id (fun ⟨b,o,U,e1,e2,e3,e4,e5,e6⟩=>⟨b,o,e1,e2,OwR.rp xs U T z b o (fun c hc=>(e5 c hc).1) e6⟩)⟩
 | .t ds,T,cs,r=>OwL.rp ds T cs r
 | .p _,_,_,r=>r.elim
 | .f _ _,_,_,r=>r.elim
 | .any,_,_,r=>r.elim
 | .c _,_,_,r=>r.elim
theorem OwR.rp {w:World}:∀(ds:List D) (U T:BS) (z b o:Nat),(∀c,U c→T c)→OwR w ds U z b o→RpR w T z b o ds
 | [],U,T,z,b,o,hU,r=>trivial
 | d :: ds,U,T,z,b,o,hU,⟨U1,U2,h1,h2,h3,⟨cs,h4,h5,h6⟩,h7⟩=>⟨⟨cs,h4,Rp.keep (fun c hc=>hU c (h1 c hc)) (fun _ _ _=>rfl) _ _ (Ow.rp d U1 cs h5),h6⟩,OwR.rp ds U2 T z b (o+z) (fun c hc=>hU c (h2 c hc)) h7⟩
theorem OwL.rp {w:World}:∀(ds:List D) (T:BS) (cs:List Value),OwL w ds T cs→RpL w T ds cs
 | [],T,cs,r=>r
 | d :: ds,T,cs,⟨T1,T2,c,e,h1,h2,h3,h4,h5,h6⟩=>⟨c,e,h4,Rp.keep h1 (fun _ _ _=>rfl) _ _ (Ow.rp d T1 c h5),RpL.keep h2 (fun _ _ _=>rfl) _ _ (OwL.rp ds T2 e h6)⟩
end
def G1 (w:World) (b:Nat) (m:List (Int × Int)):Prop:=∃(es:Array MapEntry) (clock:Nat),w.heap[b]? = some (.map es clock)∧es.toList.map (fun e=>(e.key,e.val))=m.map fun p=>(Value.int .i64 p.1,Value.int .i64 p.2)
theorem G1.keep {w w':World} {b:Nat} {m:List (Int × Int)} (h:G1 w b m) (hb:b<w.heap.size→w'.heap[b]? = w.heap[b]?):G1 w' b m:=by
 obtain ⟨es,clock,h1,h2⟩:=h
 exact ⟨es,clock,by rw [hb (Array.getElem?_eq_some_iff.1 h1).1];exact h1,h2⟩
inductive Sy where
 | v (x:Value)
 | d (d:D)
 | at (d:D)
 | k (i:Nat)
 | bx (i o:Nat)
 | el (i z n o:Nat)
 | tp (xs:List Sy)
 | ag (xs:List Sy)
 | atS (o:Nat) (xs:List Sy)
 | q (p:Prop)
 | eo (i q:Nat)
 | cl (z:Nat) (xs:List D)
 | sl (i n z:Nat)
inductive Tk where
 | bx (cs:List Sy)
 | row (z:Nat) (e:TypeId) (ds:List D)
 | deep (z:Nat) (e:TypeId) (ds:List D) (ps:List (Nat × Value))
 | mp (m:List (Int × Int))
 | own (d:D) (pin:Option (Nat × Value)) (tag:Option (Value × BS))
 | abs (p:World→BS→Value→BS→Prop) (tag:Option Value)
 | grw (z:Nat) (e:TypeId) (ds:List D)
 | bxs (cs:List Sy)
 | bxt (cs:List Sy) (u:Value)
inductive In where
 | sy (s:Sy)
 | tk (t:Tk)
 | no
abbrev Env:=List (Nat × In)
def al:Env→Nat→Option In
 | [],_=>none
 | (k,i) :: σ,n=>match Nat.beq k n with|true=>some i|false=>al σ n
theorem ab (k:Nat) (i:In) (σ:Env) (n:Nat):al ((k,i) :: σ) n=if k=n then some i else al σ n:=by
 show (match Nat.beq k n with|true=>some i|false=>al σ n)=_
 by_cases h:k=n
 ·subst h;simp
 ·rw [if_neg h]
  have:Nat.beq k n=false:=by
   cases hb:Nat.beq k n with
   | false=>rfl
   | true=>exact absurd (Nat.eq_of_beq_eq_true hb) h
  simp only [this]
theorem eW (τ σ:Env) (n:Nat):al (τ++σ) n=(al τ n).orElse (fun _=>al σ n):=by
 induction τ with
 | nil=>rfl
 | cons p τ ih=>
  obtain ⟨k,i⟩:=p
  rw [List.cons_append,ab,ab]
  split
  ·rfl
  ·exact ih
structure Cx where
 F:BS
 ρ:Nat→Value
 T:Nat→BS
 A:BS
mutual
def Sy.ok (c:Cx) (w:World):Sy→Value→Prop
 | .v x,y=>y=x
 | .d u,y=>DV w c.F u y
 | .at u,y=>∃b o cs,y=.pointer (some ⟨b,o,none⟩)∧c.F b∧Rp w c.F u cs∧bA w b o cs
 | .k i,y=>c.A i∧y=c.ρ i
 | .bx i o,y=>c.A i∧∃b,c.ρ i=.pointer (some ⟨b,0,none⟩)∧y=.pointer (some ⟨b,o,none⟩)
 | .el i z n o,y=>c.A i∧∃b m k,c.ρ i=.slice (some ⟨b,0,none⟩) m k∧y=.pointer (some ⟨b,n * z+o,none⟩)
 | .tp xs,y=>∃vs:List Value,y=.tuple vs.toArray∧Sy.oks c w xs vs
 | .ag xs,y=>∃vs:List Value,y=.agg vs.toArray∧Sy.oks c w xs vs
 | .atS o xs,y=>∃(b:Nat) (vs:List Value),y=.pointer (some ⟨b,o,none⟩)∧c.F b∧Sy.oks c w xs vs∧bA w b 0 vs∧∀u∈vs,u.oneCell'=true
 | .q p,y=>∃b,y=.bool b∧(b=true→p)
 | .eo i n0,y=>c.A i∧∃b o m cp,c.ρ i=.slice (some ⟨b,o,none⟩) m cp∧y=.pointer (some ⟨b,o+n0,none⟩)
 | .cl z xs,y=>DV w c.F (.l z xs) y∧∃a,y=.slice a xs.length xs.length
 | .sl i n z,y=>c.A i∧∃b m k,c.ρ i=.slice (some ⟨b,0,none⟩) m k∧y=.slice (some ⟨b,n * z,none⟩) (m - n) (k - n)
def Sy.oks (c:Cx) (w:World):List Sy→List Value→Prop
 | [],vs=>vs = []
 | s :: ss,vs=>∃y t,vs=y :: t∧Sy.ok c w s y∧Sy.oks c w ss t
end
def Tk.ok (c:Cx) (w:World):Tk→Value→BS→Prop
 | .bx cs,v,S=>∃b us,v=.pointer (some ⟨b,0,none⟩)∧S b∧Sy.oks c w cs us∧ey w b us
 | .row z e ds,v,S=>(ds = []∧∃a,v=.slice a 0 0)∨∃cells,w.ownsRow 0 e z v ds.length cells∧(∀g,v.ownBlock=some g→S g) ∧
  ∀j (h:j<ds.length),∃cs,cs.length=z∧Rp w c.F ds[j] cs∧∀t u,cs[t]? = some u→cells[j * z+t]? = some u
 | .deep z e ds ps,v,S=>(ds = []∧ps = []∧∃a,v=.slice a 0 0)∨∃(cells:List Value) (T:Nat→BS),w.ownsRow 0 e z v ds.length cells∧(∀g,v.ownBlock=some g→S g∧∀j,¬T j g)∧(∀j b,T j b→S b∧b<w.heap.size∧∀o,w.frozen? ⟨b,o,none⟩=false)∧(∀i j,i≠j→∀b,T i b→¬T j b) ∧
  (∀j (h:j<ds.length),∃cs,cs.length=z∧Rp w (T j) ds[j] cs∧∀t u,cs[t]? = some u→cells[j * z+t]? = some u)∧∀p∈ps,cells[p.1]? = some p.2
 | .mp m,v,S=>∃b,v=.map (some b)∧S b∧G1 w b m
 | .own d pin tag,v,S=>Ow w d S [v]∧(∀p,pin=some p→∃b o m k,v=.slice (some ⟨b,o,none⟩) m k∧S b∧w.cell? ⟨b,o+p.1,none⟩=some p.2)∧(∀p,tag=some p→v=p.1∧S=p.2)
 | .abs p tag,v,S=>(∀(w':World) (F':BS),(∀b,c.F b→F' b)→w.heap.size≤w'.heap.size→fR c.F w w'→fR S w w'→p w' F' v S)∧∀u,tag=some u→v=u
 | .grw z e ds,v,S=>(ds = []∧∃a,v=.slice a 0 0)∨∃(cells:List Value) (T:Nat→BS),w.ownsRow 0 e z v ds.length cells∧(∀g,v.ownBlock=some g→S g∧∀j,¬T j g)∧(∀j b,T j b→S b∧b<w.heap.size)∧(∀i j,i≠j→∀b,T i b→¬T j b) ∧
  ∀j (h:j<ds.length),∃cs,cs.length=z∧Ow w ds[j] (T j) cs∧∀t u,cs[t]? = some u→cells[j * z+t]? = some u
 | .bxs cs,v,S=>∃b us m k,0<m∧v=.slice (some ⟨b,0,none⟩) m k∧S b∧Sy.oks c w cs us∧ey w b us
 | .bxt cs u,v,S=>v=u∧∃b us,v=.pointer (some ⟨b,0,none⟩)∧S b∧Sy.oks c w cs us∧ey w b us
structure Cx.Le (c c':Cx):Prop where
 F:∀b,c.F b→c'.F b
 ρ:∀i,c.A i→c'.A i∧c'.ρ i=c.ρ i
theorem Cx.Le.refl (c:Cx):c.Le c:=⟨fun _ h=>h,fun _ h=>⟨h,rfl⟩⟩
mutual
theorem Sy.keep {c c':Cx} (hc:c.Le c') {w w':World} (h:fR c.F w w'):∀(s:Sy) (y:Value),s.ok c w y→s.ok c' w' y
 | .v x,y,r=>r
 | .d u,y,r=>DV.keep hc.F h r
 | .at u,y,⟨b,o,cs,h1,h2,h3,h4⟩=>⟨b,o,cs,h1,hc.F _ h2,Rp.keep hc.F h _ _ h3,h.cells h2 h4⟩
 | .k i,y,⟨h1,h2⟩=>⟨(hc.ρ i h1).1,h2.trans (hc.ρ i h1).2.symm⟩
 | .bx i o,y,⟨h1,b,h2,h3⟩=>⟨(hc.ρ i h1).1,b,(hc.ρ i h1).2.trans h2,h3⟩
 | .el i z n o,y,⟨h1,b,m,cp,h2,h3⟩=>⟨(hc.ρ i h1).1,b,m,cp,(hc.ρ i h1).2.trans h2,h3⟩
 | .tp xs,y,⟨vs,h1,h2⟩=>⟨vs,h1,Sy.keeps hc h xs vs h2⟩
 | .ag xs,y,⟨vs,h1,h2⟩=>⟨vs,h1,Sy.keeps hc h xs vs h2⟩
 | .atS o xs,y,⟨b,vs,h1,h2,h3,h4,h5⟩=>⟨b,vs,h1,hc.F _ h2,Sy.keeps hc h xs vs h3,h.cells h2 h4,h5⟩
 | .q p,y,r=>r
 | .eo i n0,y,⟨h1,b,o,m,cp,h2,h3⟩=>⟨(hc.ρ i h1).1,b,o,m,cp,(hc.ρ i h1).2.trans h2,h3⟩
 | .cl z xs,y,⟨h1,h2⟩=>⟨DV.keep hc.F h h1,h2⟩
 | .sl i n z,y,⟨h1,b,m,cp,h2,h3⟩=>⟨(hc.ρ i h1).1,b,m,cp,(hc.ρ i h1).2.trans h2,h3⟩
theorem Sy.keeps {c c':Cx} (hc:c.Le c') {w w':World} (h:fR c.F w w'):∀(s:List Sy) (ys:List Value),Sy.oks c w s ys→Sy.oks c' w' s ys
 | [],vs,r=>r
 | s :: ss,vs,⟨y,t,h1,h2,h3⟩=>⟨y,t,h1,Sy.keep hc h s y h2,Sy.keeps hc h ss t h3⟩
end
theorem Tk.keep {c c':Cx} (hc:c.Le c') {w w':World} (hsz:w.heap.size≤w'.heap.size) (h:fR c.F w w') {S:BS} (hS:fR S w w') (t:Tk) (v:Value) (r:t.ok c w v S):t.ok c' w' v S:=by
 cases t with
 | bx cs=>
  obtain ⟨b,us,h1,h2,h3,h4⟩:=r
  refine ⟨b,us,h1,h2,Sy.keeps hc h _ _ h3,fun j u hj=>?_⟩
  obtain ⟨h5,h6⟩:=h4 j u hj
  have hb:=hS b h2 (World.block_lt_of_cell? w ⟨b,j,none⟩ h5)
  exact ⟨(World.cell?_of_block hb).trans h5,(World.frozen?_of_block hb).trans h6⟩
 | mp m=>
  obtain ⟨b,h1,h2,h3⟩:=r
  exact ⟨b,h1,h2,h3.keep (fun hl=>hS b h2 hl)⟩
 | abs p tag=>
  obtain ⟨h1,h2⟩:=r
  exact ⟨fun w2 F2 hF2 hsz2 hA2 hS2=>h1 w2 F2 (fun b hb=>hF2 b (hc.F b hb)) (Nat.le_trans hsz hsz2) (fun b hb hl=>(hA2 b (hc.F b hb) (Nat.lt_of_lt_of_le hl hsz)).trans (h b hb hl)) (fun b hb hl=>(hS2 b hb (Nat.lt_of_lt_of_le hl hsz)).trans (hS b hb hl)),h2⟩
 | bxt cs u0=>
  obtain ⟨h0,b,us,h1,h2,h3,h4⟩:=r
  refine ⟨h0,b,us,h1,h2,Sy.keeps hc h _ _ h3,fun j u hj=>?_⟩
  obtain ⟨h5,h6⟩:=h4 j u hj
  have hb:=hS b h2 (World.block_lt_of_cell? w ⟨b,j,none⟩ h5)
  exact ⟨(World.cell?_of_block hb).trans h5,(World.frozen?_of_block hb).trans h6⟩
 | bxs cs=>
  obtain ⟨b,us,m,k,h0,h1,h2,h3,h4⟩:=r
  refine ⟨b,us,m,k,h0,h1,h2,Sy.keeps hc h _ _ h3,fun j u hj=>?_⟩
  obtain ⟨h5,h6⟩:=h4 j u hj
  have hb:=hS b h2 (World.block_lt_of_cell? w ⟨b,j,none⟩ h5)
  exact ⟨(World.cell?_of_block hb).trans h5,(World.frozen?_of_block hb).trans h6⟩
 | grw z e ds=>
  rcases r with r|⟨cells,T,h1,h2,h3,h4,h5⟩
  ·exact .inl r
  refine .inr ⟨cells,T,⟨h1.1,?_⟩,h2,fun j b hb=>⟨(h3 j b hb).1,Nat.lt_of_lt_of_le (h3 j b hb).2 hsz⟩,h4,fun j hj=>?_⟩
  ·rcases h1.2 with hn|⟨g,cap,cur,hv,hb,hg,rest⟩
   ·exact .inl hn
   ·refine .inr ⟨g,cap,cur,hv,hb,?_,rest⟩
    rw [hS g (h2 g (by rw [hv];rfl)).1 (Array.getElem?_eq_some_iff.1 hg).1];exact hg
  ·obtain ⟨cs,q1,q2,q3⟩:=h5 j hj
   exact ⟨cs,q1,Ow.keep hsz _ _ _ _ (fun _ h=>h) (fun b hb hl=>hS b (h3 j b hb).1 hl) q2,q3⟩
 | own d pin tag=>
  obtain ⟨h1,h2,h3⟩:=r
  exact ⟨Ow.keep hsz d S S _ (fun _ h=>h) hS h1,fun p hp=>by
   obtain ⟨b,o,m,k,e1,e2,e3⟩:=h2 p hp
   exact ⟨b,o,m,k,e1,e2,(World.cell?_of_block (hS b e2 (World.block_lt_of_cell? w ⟨b,o+p.1,none⟩ e3))).trans e3⟩,h3⟩
 | deep z e ds ps=>
  rcases r with r|⟨cells,T,h1,h2,h3,h4,h5,h6⟩
  ·exact .inl r
  refine .inr ⟨cells,T,⟨h1.1,?_⟩,h2,fun j b hb=>?_,h4,fun j hj=>?_,h6⟩
  ·rcases h1.2 with hn|⟨g,cap,cur,hv,hb,hg,rest⟩
   ·exact .inl hn
   ·refine .inr ⟨g,cap,cur,hv,hb,?_,rest⟩
    rw [hS g (h2 g (by rw [hv];rfl)).1 (Array.getElem?_eq_some_iff.1 hg).1];exact hg
  ·obtain ⟨q1,q2,q3⟩:=h3 j b hb
   exact ⟨q1,Nat.lt_of_lt_of_le q2 hsz,fun o=>(World.frozen?_of_block (hS b q1 q2)).trans (q3 o)⟩
  ·obtain ⟨cs,q1,q2,q3⟩:=h5 j hj
   exact ⟨cs,q1,Rp.keep (fun _ h=>h) (fun b hb hl=>hS b (h3 j b hb).1 hl) _ _ q2,q3⟩
 | row z e ds=>
  rcases r with r|⟨cells,h1,h2,h3⟩
  ·exact .inl r
  refine .inr ⟨cells,⟨h1.1,?_⟩,h2,fun j hj=>?_⟩
  ·rcases h1.2 with hn|⟨g,cap,cur,hv,hb,hg,rest⟩
   ·exact .inl hn
   ·refine .inr ⟨g,cap,cur,hv,hb,?_,rest⟩
    rw [hS g (h2 g (by rw [hv];rfl)) (Array.getElem?_eq_some_iff.1 hg).1];exact hg
  ·obtain ⟨cs,h4,h5,h6⟩:=h3 j hj
   exact ⟨cs,h4,Rp.keep hc.F h _ _ h5,h6⟩
structure Chg (S:BS) (w w':World):Prop where
 os:w'.os=w.os
 tape:w'.tape=w.tape
 output:w'.output=w.output
 size:w.heap.size≤w'.heap.size
 block:∀b,b<w.heap.size→¬S b→w'.heap[b]? = w.heap[b]?
structure cz where
 w:World
 F:BS
 M:BS
structure pd where
 w:World
 F:BS
def pd.toB (W:pd):cz:=⟨W.w,W.F,fun _=>False⟩
structure aE (W0:cz) (N:Nat) (σ:Env) (a:Act) (w:World) (c:Cx):Prop where
 ext:Chg W0.M W0.w w
 old:∀b,c.F b→W0.F b∨W0.M b∨W0.w.heap.size≤b
 lt:∀b,c.F b→b<w.heap.size
 size:a.tmps.size=N
 defers:a.defers = []
 all:∀i,c.A i→al σ i≠none
 tok:∀i t,al σ i=some (.tk t)→c.A i∧t.ok c w (c.ρ i) (c.T i)∧∀b,c.T i b→¬c.F b∧b<w.heap.size∧(W0.M b∨W0.w.heap.size≤b)
 off:∀i j t u,al σ i=some (.tk t)→al σ j=some (.tk u)→i≠j→∀b,c.T i b→¬c.T j b
 tmp:∀t s,al σ t=some (.sy s)→∃v,a.tmps[t]? = some v∧s.ok c w v
def Holds (W0:cz) (N:Nat) (σ:Env) (a:Act) (w:World):Prop:=∃c,aE W0 N σ a w c
theorem aE.put {W0:cz} {N:Nat} {σ:Env} {a:Act} {w:World} {c:Cx} (h:aE W0 N σ a w c) {d:Nat} {s:Sy} {v:Value} (hd:d<N) (hv:s.ok c w v) (hA:al σ d=none∨∃s,al σ d=some (.sy s)):aE W0 N ((d,.sy s) :: σ) (a.put (some d) v) w c:=by
 have hne:∀i t,al ((d,.sy s) :: σ) i=some (.tk t)→al σ i=some (.tk t):=fun i t hi=>by
  rw [ab] at hi
  split at hi
  ·cases hi
  ·exact hi
 refine ⟨h.ext,h.old,h.lt,by simp [Act.put,h.size],h.defers,fun i hi=>?_,fun i t hi=>h.tok i t (hne i t hi),fun i j t u hi hj=>h.off i j t u (hne i t hi) (hne j u hj),fun t s' ht=>?_⟩
 ·rw [ab]
  split
  ·simp
  ·exact h.all i hi
 ·rw [ab] at ht
  simp only [Act.put]
  by_cases e:d=t
  ·rw [if_pos e] at ht
   cases ht
   subst e
   exact ⟨v,by rw [Array.getElem?_setIfInBounds_self_of_lt (by rw [h.size];exact hd)],hv⟩
  ·rw [if_neg e] at ht
   rw [Array.getElem?_setIfInBounds_ne e]
   exact h.tmp t s' ht
end Go.Proofs.YtnobdioccfeokaaGreatDoor
namespace Go.Proofs.YtnobdioccfeokaaGreatDoor
open Go.RowKit
set_option linter.unusedVariables false
set_option linter.unusedSimpArgs false
theorem Holds.congr {W0:cz} {N:Nat} {σ σ':Env} {a:Act} {w:World} (h:Holds W0 N σ a w) (e:∀κ,al σ' κ=al σ κ):Holds W0 N σ' a w:=by
 obtain ⟨c,h⟩:=h
 exact ⟨c,h.ext,h.old,h.lt,h.size,h.defers,fun i hi=>by rw [e];exact h.all i hi,fun i t ht=>h.tok i t (by rw [← e];exact ht),
  fun i j t u hi hj=>h.off i j t u (by rw [← e];exact hi) (by rw [← e];exact hj),fun t s ht=>h.tmp t s (by rw [← e];exact ht)⟩
theorem Chg.drew {S:BS} {w w':World} (h:Chg S w w'):Chg S w w'.drew:=⟨h.os,h.tape,h.output,h.size,h.block⟩
theorem Holds.drew {W0:cz} {N:Nat} {σ:Env} {a:Act} {w:World} (h:Holds W0 N σ a w):Holds W0 N σ a w.drew:=by
 obtain ⟨c,h⟩:=h
 have hg:∀S:BS,fR S w w.drew:=fun S b _ _=>rfl
 exact ⟨c,h.ext.drew,h.old,h.lt,h.size,h.defers,h.all,fun i t ht=>⟨(h.tok i t ht).1,Tk.keep (w:=w) (w':=w.drew) (Cx.Le.refl c) (Nat.le_refl _) (hg _) (hg _) t _ (h.tok i t ht).2.1,(h.tok i t ht).2.2⟩,h.off,
  fun t s ht=>(h.tmp t s ht).imp fun v hv=>⟨hv.1,Sy.keep (w:=w) (w':=w.drew) (Cx.Le.refl c) (hg _) s v hv.2⟩⟩
abbrev Us:=List (List Nat × List Nat)
def CX (a b:List Nat):Bool:=a.any fun x=>b.any fun y=>Nat.beq x y
def nI (x y:List Nat × List Nat):Bool:=CX x.2 y.1 || CX x.2 y.2 || CX x.1 y.2
theorem Ca {a b:List Nat} {x:Nat} (ha:x∈a) (hb:x∈b):CX a b=true:=by
 unfold CX
 rw [List.any_eq_true]
 refine ⟨x,ha,?_⟩
 rw [List.any_eq_true]
 exact ⟨x,hb,by simp⟩
def zA (md:Region.Mode) (ops:Array Oper) (us:Us):Bool:=
 (List.range ops.size).all fun k=>((ops[k]?).map fun o=>o.after.all fun e=>!Region.binds md e || decide (e.on<k)).getD true &&
  (List.range k).all fun j=>!(nI (us.getD j ([],[])) (us.getD k ([],[]))) || gy md ops ops.size k j
section
variable {P:Program} {ops:Array Oper} {W0:cz} {N:Nat} {Q:Exit→Act→World→Prop}
def EU (P:Program) (ops:Array Oper) (W0:cz) (N:Nat) (o:Oper) (σ:Env) (keys:List Nat) (upd:Env):Prop:=
 ∀(σ':Env) (a:Act) (w:World),(∀κ∈keys,al σ' κ=al σ κ)→Holds W0 N σ' a w →
  (Region.wanted o (yielded ops a.tmps)=true∧Oper.wp P o a w (Holds W0 N (upd++σ')) (fun _ _ _=>False)) ∨
  (Region.wanted o (yielded ops a.tmps)=false∧Holds W0 N (upd++σ') (a.put o.dst undef) w)
def Der (P:Program) (ops:Array Oper) (W0:cz) (N:Nat) (Fin:Us→Env→Prop):List Oper→Us→List Nat→List Nat→Env→Prop
 | [],us,_,_,σ=>Fin us σ
 | o :: os,us,pk,fk,σ=>∃keys upd,EU P ops W0 N o σ keys upd∧Der P ops W0 N Fin os (us++[(keys++pk,upd.map Prod.fst++fk)]) [] [] (upd++σ)
theorem EU.fz {P:Program} {ops:Array Oper} {W0:cz} {N:Nat} {o:Oper} {σ:Env} {keys:List Nat} {upd:Env} {t i n e:Nat} {ds:List D} (ht:al σ t=some (.sy (.k i))) (hi:al σ i=some (.tk (.row n e ds))) (hne:Nat.beq i t=false) (hf:∀(σ':Env) (a:Act) (w:World),al σ' t=some (.sy (.k i))→al σ' i=some (.tk (.row n e ds))→Holds W0 N σ' a w→Holds W0 N ((t,.sy (.d (.l n ds))) :: (i,.no) :: σ') a w)
 (h:EU P ops W0 N o ((t,.sy (.d (.l n ds))) :: (i,.no) :: σ) keys upd):EU P ops W0 N o σ (keys++[t,i]) (upd++[(t,.sy (.d (.l n ds))),(i,.no)]):=by
 intro σ' a w hk hh
 have h1:=hf σ' a w ((hk t (by simp)).trans ht) ((hk i (by simp)).trans hi) hh
 have h2:=h _ a w (fun κ hκ=>?_) h1
 ·rw [List.append_assoc];exact h2
 ·rw [ab,ab,ab,ab,hk κ (by simp [hκ])]
theorem Oper.wp_weak {o:Oper} {a:Act} {w:World} {K:Act→World→Prop} {R:Exit→Act→World→Prop} (h:Oper.wp P o a w K (fun _ _ _=>False)):Oper.wp P o a w K R:=by
 unfold Oper.wp at *
 generalize (execOp a.eval o).run P w=r at *
 cases r with
 | ok n w'=>
  cases n <;> simp only [Oper.upon] at h ⊢ <;>
   first
    | exact h
    | exact Calls.mono h (fun e w'' he=>by
     cases e with
     | returned v=>exact he
     | panicked c=>exact he.elim
     | outgrown=>exact (let ⟨_,_,h⟩:=he;h.elim))
 | halt x w'=>cases x <;> simp only [Oper.upon] at h ⊢
theorem EU.op {o:Oper} {σ:Env} {keys:List Nat} {upd:Env} (h:EU P ops W0 N o σ keys upd) {i:Nat} (hi:ops[i]? = some o) {σ':Env} {a:Act} {w:World} (hk:∀κ∈keys,al σ' κ=al σ κ) (hh:Holds W0 N σ' a w) {K:Act→World→Prop} (hK:∀a' w',Holds W0 N (upd++σ') a' w'→K a' w'):wpOp P ops Q i K a w:=by
 unfold wpOp
 rw [hi]
 dsimp only
 rcases h σ' a w hk hh with ⟨h1,h2⟩|⟨h1,h2⟩
 ·rw [h1,if_pos rfl]
  exact .inl (Oper.wp_mono hK (Oper.wp_weak h2))
 ·rw [h1]
  exact hK _ _ h2
theorem FN:∀(os:List Oper) (k:Nat) (us:Us) (σ:Env) (a:Act) (w:World),(∀i,os[i]? = ops[k+i]?)→k+os.length=ops.size →
 Der P ops W0 N (fun _ σ=>∀a w,Holds W0 N σ a w→Q .normal a w) os us [] [] σ→Holds W0 N σ a w→wpOps P ops Q ((List.range os.length).map (k + ·)) a w:=by
 intro os
 induction os with
 | nil=>intro k us σ a w _ _ h hh;exact h a w hh
 | cons o os ih=>
  intro k us σ a w hos hsz h hh
  obtain ⟨keys,upd,h1,h2⟩:=h
  rw [List.length_cons,List.range_succ_eq_map,List.map_cons,List.map_map,wpOps_cons]
  refine h1.op (i:=k+0) (by have:=hos 0;simpa using this.symm) (fun _ _=>rfl) hh (fun a' w' hh'=>?_)
  have:=ih (k+1) _ _ a' w' (fun i=>by have:=hos (i+1);rw [show k+1+i=k+(i+1) by omega];simpa using this) (by simp at hsz;omega) h2 hh'
  have e:(fun x=>k+x) ∘ Nat.succ=(fun x=>k+1+x):=by funext x;simp;omega
  rw [e];exact this
theorem yf {id:Nat} {σ:Env} {a:Act} {w:World} (hh:Holds W0 N σ a w) (h:Der P ops W0 N (fun _ σ=>∀a w,Holds W0 N σ a w→Q .normal a w) ops.toList [] [] [] σ):(Code.region id ops false).wp P Q a w:=by
 refine wp_region ?_
 have:=FN ops.toList 0 [] σ a w (fun i=>by simp) (by simp) h hh
 simpa using this
theorem GS {Fin:Us→Env→Prop}:∀(os:List Oper) (us:Us) (σ:Env),Der P ops W0 N Fin os us [] [] σ →
 ∃(rd:Nat→List Nat) (up:Nat→Env) (τ:Nat→Env),τ us.length=σ∧(∀k,us.length≤k→k<us.length+os.length→τ (k+1)=up k++τ k∧∀o,os[k - us.length]? = some o→EU P ops W0 N o (τ k) (rd k) (up k)) ∧
  ∃us',us'.length=us.length+os.length∧(∀k,k<us.length→us'[k]? = us[k]?)∧(∀k,us.length≤k→k<us.length+os.length→us'[k]? = some (rd k,(up k).map Prod.fst))∧Fin us' (τ (us.length+os.length)):=by
 intro os
 induction os with
 | nil=>exact fun us σ h=>⟨fun _=>[],fun _=>[],fun _=>σ,rfl,fun k h1 h2=>by simp at h2;omega,us,rfl,fun _ _=>rfl,fun k h1 h2=>by simp at h2;omega,h⟩
 | cons o os ih=>
  intro us σ h
  obtain ⟨keys,upd,h1,h2⟩:=h
  obtain ⟨rd,up,τ,e1,e2,us',e3,e4,e5,e6⟩:=ih _ _ h2
  simp only [List.length_append,List.length_cons,List.length_nil] at e1 e2 e3 e4 e5 e6
  refine ⟨fun k=>if k=us.length then keys else rd k,fun k=>if k=us.length then upd else up k,fun k=>if k=us.length then σ else τ k,if_pos rfl,fun k k1 k2=>?_,us',by simp only [List.length_cons];omega,fun k hk=>?_,fun k k1 k2=>?_,?_⟩
  ·by_cases e:k=us.length
   ·subst e
    dsimp only
    rw [if_neg (by omega),if_pos rfl,if_pos rfl,if_pos rfl,Nat.sub_self]
    refine ⟨e1,fun o' ho=>?_⟩
    simp at ho
    subst ho
    exact h1
   ·obtain ⟨g1,g2⟩:=e2 k (by omega) (by simp at k2;omega)
    dsimp only
    rw [if_neg (by omega),if_neg e,if_neg e,if_neg e]
    refine ⟨g1,fun o' ho=>g2 o' ?_⟩
    rw [show k - us.length=(k - (us.length+1))+1 by omega] at ho
    simpa using ho
  ·rw [e4 k (by omega),List.getElem?_append_left hk]
  ·by_cases e:k=us.length
   ·subst e
    dsimp only
    rw [if_pos rfl,if_pos rfl,e4 _ (by omega),List.getElem?_append_right (Nat.le_refl _)]
    simp
   ·dsimp only
    rw [if_neg e,if_neg e]
    exact e5 k (by omega) (by simp at k2;omega)
  ·dsimp only
   rw [if_neg (by simp)]
   rw [List.length_cons,show us.length+(os.length+1)=us.length+(0+1)+os.length by omega]
   exact e6
def H8 (up:Nat→Env) (p:Nat→Prop) (κ k:Nat):Prop:=p k∧κ∈(up k).map Prod.fst∧∀j,p j→κ∈(up j).map Prod.fst→j≤k
structure Inv (up:Nat→Env) (σ0:Env) (p:Nat→Prop) (σ:Env):Prop where
 last:∀κ k,H8 up p κ k→al σ κ=al (up k) κ
 none:∀κ,(∀k,p k→κ ∉ (up k).map Prod.fst)→al σ κ=al σ0 κ
theorem sH {τ:Env} {κ:Nat}:al τ κ=none↔κ ∉ τ.map Prod.fst:=by
 induction τ with
 | nil=>simp [al]
 | cons p τ ih=>
  obtain ⟨k,i⟩:=p
  rw [ab]
  by_cases e:k=κ
  ·simp [e]
  ·rw [if_neg e,ih];simp [Ne.symm (Ne.intro e)]
theorem vu {τ σ:Env} {κ:Nat} (h:κ∈τ.map Prod.fst):al (τ++σ) κ=al τ κ:=by
 rw [eW]
 cases e:al τ κ with
 | none=>exact absurd h (sH.1 e)
 | some i=>rfl
theorem i5 {τ σ:Env} {κ:Nat} (h:κ ∉ τ.map Prod.fst):al (τ++σ) κ=al σ κ:=by
 rw [eW,sH.2 h];rfl
theorem FB {up:Nat→Env} {p:Nat→Prop} (κ:Nat):∀n,(∀k,p k→k<n)→(∃k,H8 up p κ k)∨∀k,p k→κ ∉ (up k).map Prod.fst:=by
 intro n
 induction n generalizing p with
 | zero=>exact fun h=>.inr fun k hk=>absurd (h k hk) (Nat.not_lt_zero _)
 | succ n ih=>
  intro h
  by_cases hn:p n∧κ∈(up n).map Prod.fst
  ·exact .inl ⟨n,hn.1,hn.2,fun j hj _=>by have:=h j hj;omega⟩
  ·rcases ih (p:=fun k=>p k∧k<n) (fun k hk=>hk.2) with ⟨k,h1,h2,h3⟩|h1
   ·refine .inl ⟨k,h1.1,h2,fun j hj hjw=>?_⟩
    by_cases e:j=n
    ·subst e;exact absurd ⟨hj,hjw⟩ hn
    ·exact h3 j ⟨hj,by have:=h j hj;omega⟩ hjw
   ·refine .inr fun k hk hkw=>?_
    by_cases e:k=n
    ·subst e;exact hn ⟨hk,hkw⟩
    ·exact h1 k ⟨hk,by have:=h k hk;omega⟩ hkw
theorem Inv.same {up:Nat→Env} {σ0 σ σ':Env} {p q:Nat→Prop} {n:Nat} (h:Inv up σ0 p σ) (h':Inv up σ0 q σ') (hp:∀k,p k→k<n) (κ:Nat) (hw:∀k,κ∈(up k).map Prod.fst→(p k↔q k)):al σ κ=al σ' κ:=by
 rcases FB (up:=up) (p:=p) κ n hp with ⟨k,h1,h2,h3⟩|h1
 ·rw [h.last κ k ⟨h1,h2,h3⟩,h'.last κ k ⟨(hw k h2).1 h1,h2,fun j hj hjw=>h3 j ((hw j hjw).2 hj) hjw⟩]
 ·rw [h.none κ h1,h'.none κ (fun k hk hkw=>h1 k ((hw k hkw).2 hk) hkw)]
theorem Inv.zero {up:Nat→Env} {σ0:Env}:Inv up σ0 (fun _=>False) σ0:=⟨fun _ _ h=>h.1.elim,fun _ _=>rfl⟩
theorem Inv.step {up:Nat→Env} {σ0 σ:Env} {p q:Nat→Prop} {i:Nat} (h:Inv up σ0 p σ) (hq:∀k,q k↔p k∨k=i) (hi:∀k κ,p k→κ∈(up k).map Prod.fst→κ∈(up i).map Prod.fst→k≤i):Inv up σ0 q (up i++σ):=by
 refine ⟨fun κ k hk=>?_,fun κ hn=>?_⟩
 ·obtain ⟨h1,h2,h3⟩:=hk
  by_cases e:k=i
  ·subst e;exact vu h2
  ·have hp:p k:=((hq k).1 h1).resolve_right e
   have hni:κ ∉ (up i).map Prod.fst:=fun hκ=>by
    have:=h3 i ((hq i).2 (.inr rfl)) hκ
    have:=hi k κ hp h2 hκ
    omega
   rw [i5 hni]
   exact h.last κ k ⟨hp,h2,fun j hj hjw=>h3 j ((hq j).2 (.inl hj)) hjw⟩
 ·rw [i5 (hn i ((hq i).2 (.inr rfl)))]
  exact h.none κ (fun k hk=>hn k ((hq k).2 (.inl hk)))
theorem DH {md:Region.Mode} {n:Nat} (hn:ops.size=n) {σ0:Env} {rd:Nat→List Nat} {up τ:Nat→Env} (hτ0:τ 0=σ0)
 (hst:∀k,k<n→τ (k+1)=up k++τ k∧∀o,ops[k]? = some o→EU P ops W0 N o (τ k) (rd k) (up k))
 (hdown:∀k o,ops[k]? = some o→∀e∈o.after,Region.binds md e=true→e.on<k)
 (hrace:∀j k,j<k→k<n→nI (rd j,(up j).map Prod.fst) (rd k,(up k).map Prod.fst)=true→gy md ops ops.size k j=true)
 (hfin:∀a w,Holds W0 N (τ n) a w→Q .normal a w):∀(fuel:Nat) (ls:Array Bool) (σ:Env) (a:Act) (w:World),ls.size=n→ql md ops ls→(∃S:List Nat,S.length≤fuel∧∀k,k<n→ls.getD k false=false→k∈S) →
  Inv up σ0 (fun k=>ls.getD k false=true) σ→Holds W0 N σ a w→wpAny P md ops Q fuel ls a w:=by
 have base:∀k,k≤n→Inv up σ0 (fun j=>j<k) (τ k):=by
  intro k
  induction k with
  | zero=>exact fun _=>by rw [hτ0];exact ⟨fun κ k h=>absurd h.1 (Nat.not_lt_zero _),fun _ _=>rfl⟩
  | succ k ih=>
   intro hk
   rw [(hst k (by omega)).1]
   exact (ih (by omega)).step (fun j=>by omega) (fun j κ hj _ _=>by omega)
 have listed_lt:∀(ls:Array Bool) k,ls.size=n→ls.getD k false=true→k<n:=fun ls k hs hk=>by
  rcases Nat.lt_or_ge k n with h|h
  ·exact h
  ·rw [Array.getD_eq_getD_getElem?,Array.getElem?_eq_none (by omega)] at hk;cases hk
 have fin:∀(ls:Array Bool) (σ:Env) (a:Act) (w:World),ls.size=n→Inv up σ0 (fun k=>ls.getD k false=true) σ→Holds W0 N σ a w→(∀k,k<n→ls.getD k false=true)→Q .normal a w:=by
  intro ls σ a w hs hI hh hall
  refine hfin a w (hh.congr fun κ=>?_)
  exact (base n (Nat.le_refl _)).same hI (fun k hk=>hk) κ (fun k _=>⟨fun h=>hall k h,fun h=>listed_lt ls k hs h⟩)
 have prog:∀(ls:Array Bool),ls.size=n→Region.ready md ops ls = []→∀k,k<n→ls.getD k false=true:=by
  intro ls hs hr k
  induction k using Nat.strongRecOn with
  | ind k ih=>
   intro hk
   cases hl:ls.getD k false with
   | true=>rfl
   | false=>
    have hm:k∈Region.ready md ops ls:=by
     refine mem_ready.2 ⟨?_,ops[k]'(by omega),Array.getElem?_eq_getElem (by omega),fun e he hb=>ih e.on (hdown k _ (Array.getElem?_eq_getElem (by omega)) e he hb) (by have:=hdown k _ (Array.getElem?_eq_getElem (by omega)) e he hb;omega)⟩
     have:k<ls.size:=by omega
     simp [this] at hl ⊢
     exact hl
    rw [hr] at hm;cases hm
 intro fuel
 induction fuel with
 | zero=>
  intro ls σ a w hs hC ⟨S,hS,hSm⟩ hI hh
  have hall:∀k,k<n→ls.getD k false=true:=fun k hk=>by
   cases hl:ls.getD k false with
   | true=>rfl
   | false=>have:=List.length_pos_of_mem (hSm k hk hl);omega
  refine ⟨?_,fin ls σ a w hs hI hh hall⟩
  cases hr:Region.ready md ops ls with
  | nil=>rfl
  | cons i t=>
   have hi:i∈Region.ready md ops ls:=by rw [hr];simp
   obtain ⟨h1,o,ho,_⟩:=mem_ready.1 hi
   have:=hall i (by rw [← hn];exact (Array.getElem?_eq_some_iff.1 ho).1)
   rw [un h1] at this;cases this
 | succ fuel ih=>
  intro ls σ a w hs hC ⟨S,hS,hSm⟩ hI hh
  refine ⟨fun hr=>fin ls σ a w hs hI hh (prog ls hs hr),fun i hi=>?_⟩
  obtain ⟨h1,o,ho,hall⟩:=mem_ready.1 hi
  have hin:i<n:=by rw [← hn];exact (Array.getElem?_eq_some_iff.1 ho).1
  have hnot:=un h1
  have before:∀k,k<n→k≠i→nI (rd k,(up k).map Prod.fst) (rd i,(up i).map Prod.fst)=true∨nI (rd i,(up i).map Prod.fst) (rd k,(up k).map Prod.fst)=true→(ls.getD k false=true↔k<i):=by
   intro k hk hne hc
   have sym:∀x y,nI x y=true→nI y x=true:=fun x y h=>by
    unfold nI CX at *
    simp only [Bool.or_eq_true,List.any_eq_true] at h ⊢
    rcases h with (⟨u,h1,v,h2,h3⟩|⟨u,h1,v,h2,h3⟩)|⟨u,h1,v,h2,h3⟩
    ·exact .inr ⟨v,h2,u,h1,by rw [Nat.eq_of_beq_eq_true h3];simp⟩
    ·exact .inl (.inr ⟨v,h2,u,h1,by rw [Nat.eq_of_beq_eq_true h3];simp⟩)
    ·exact .inl (.inl ⟨v,h2,u,h1,by rw [Nat.eq_of_beq_eq_true h3];simp⟩)
   have hc1:nI (rd k,(up k).map Prod.fst) (rd i,(up i).map Prod.fst)=true:=hc.elim id (sym _ _)
   constructor
   ·intro hl
    rcases Nat.lt_or_ge k i with h|h
    ·exact h
    ·exfalso
     have hr:=hrace i k (by omega) hk (sym _ _ hc1)
     have hok:ops[k]? = some (ops[k]'(by omega)):=Array.getElem?_eq_getElem (by omega)
     have:=ni hC ops.size k _ hok (hC k _ hok hl) hr
     rw [hnot] at this;cases this
   ·intro h
    exact ni hC ops.size i o ho hall (hrace k i h hin hc1)
  refine ((hst i hin).2 o ho).op ho (fun κ hκ=>?_) hh (fun a' w' hh'=>?_)
  ·refine hI.same (base i (by omega)) (fun k hk=>listed_lt ls k hs hk) κ (fun k hkw=>?_)
   by_cases e:k=i
   ·subst e;exact ⟨fun h=>absurd (hnot.symm.trans h) (by decide),fun h=>absurd h (Nat.lt_irrefl _)⟩
   ·by_cases hk:k<n
    ·exact before k hk e (.inl (by unfold nI;rw [Ca (a:=(up k).map Prod.fst) (b:=rd i) hkw hκ];rfl))
    ·exact ⟨fun h=>absurd (listed_lt ls k hs h) hk,fun h=>absurd h (by omega)⟩
  ·refine ih _ _ a' w' (by simp [hs]) (hC.set hi) ⟨S.erase i,?_,fun k hk hl=>?_⟩ (hI.step (fun k=>?_) (fun k κ hk h2 h3=>?_)) hh'
   ·have hm:=hSm i hin hnot
    rw [List.length_erase_of_mem hm];omega
   ·by_cases e:i=k
    ·subst e
     rw [Array.getD_eq_getD_getElem?,Array.getElem?_setIfInBounds_self_of_lt (by omega)] at hl;cases hl
    ·rw [getD_set_ne false e] at hl
     exact (List.mem_erase_of_ne (Ne.symm e)).2 (hSm k hk hl)
   ·exact sF (by omega)
   ·by_cases e:k=i
    ·omega
    ·have:=(before k (listed_lt ls k hs hk) e (.inl (by unfold nI;rw [Ca (a:=(up k).map Prod.fst) (b:=(up i).map Prod.fst) h2 h3];simp))).1 hk
     omega
theorem yY {id:Nat} {σ:Env} {a:Act} {w:World} (hh:Holds W0 N σ a w) (hm:P.follows .mixedOrders=true)
 (h:Der P ops W0 N (fun us σ=>zA .any ops us=true∧∀a w,Holds W0 N σ a w→Q .normal a w) ops.toList [] [] [] σ):(Code.region id ops true).wp P Q a w:=by
 obtain ⟨rd,up,τ,h1,h2,us,h3,_,h5,h6,h7⟩:=GS _ _ _ h
 simp only [List.length_nil,Nat.zero_add,Array.length_toList] at h1 h2 h3 h5 h6 h7
 unfold zA at h6
 have h8:=List.all_eq_true.1 h6
 refine wp_region_any hm (DH (md:=.any) rfl h1 (fun k hk=>⟨(h2 k (Nat.zero_le _) hk).1,fun o ho=>(h2 k (Nat.zero_le _) hk).2 o (by simpa using ho)⟩) (fun k o ho e he hb=>?_) (fun j k hjk hk hc=>?_) h7 ops.size _ _ a _ (by simp) (fun k ok hk hl=>?_) ⟨List.range ops.size,by simp,fun k hk _=>List.mem_range.2 hk⟩ (?_:Inv up σ _ σ) hh.drew)
 ·have h9:=h8 k (List.mem_range.2 (Array.getElem?_eq_some_iff.1 ho).1)
  rw [ho,Bool.and_eq_true] at h9
  simp only [Option.map_some,Option.getD_some] at h9
  have:=Array.all_eq_true_iff_forall_mem.1 h9.1 e he
  simpa [hb] using this
 ·have h9:=h8 k (List.mem_range.2 hk)
  rw [Bool.and_eq_true] at h9
  have h10:=List.all_eq_true.1 h9.2 j (List.mem_range.2 hjk)
  rw [List.getD_eq_getElem?_getD,List.getD_eq_getElem?_getD,h5 j (Nat.zero_le _) (by omega),h5 k (Nat.zero_le _) hk] at h10
  simp only [Option.getD_some,hc,Bool.not_true,Bool.false_or] at h10
  exact h10
 ·rw [Array.getD_eq_getD_getElem?] at hl
  by_cases hk':k<ops.size <;> simp [hk'] at hl
 ·have e:(fun k=>(Array.replicate ops.size false).getD k false=true)=fun _=>False:=by
   funext k
   by_cases hk':k<ops.size <;> simp [hk']
  rw [e];exact Inv.zero
end
end Go.Proofs.YtnobdioccfeokaaGreatDoor
namespace Go.Proofs.YtnobdioccfeokaaGreatDoor
open Go.RowKit
set_option linter.unusedVariables false
set_option linter.unusedSimpArgs false
theorem Chg.ext {S:BS} {w w':World} (h:Ext w w'):Chg S w w':=⟨h.os,h.tape,h.output,Below.size h,fun b hb _=>h.block b hb⟩
theorem Chg.grown {S:BS} {w w':World} {r:Option Nat} (h:w.grownBy w' r) (hr:∀g,r=some g→S g):Chg S w w':=
 ⟨h.os,h.tape,h.output,h.size,fun b hb hn=>h.block b hb (fun e=>hn (hr b e.symm))⟩
section
variable {W0:cz} {N:Nat} {σ:Env} {a:Act} {w w':World} {c:Cx}
theorem Chg.toExt {w w':World} (h:Chg (fun _=>False) w w'):Ext w w':=⟨h.os,h.tape,h.output,h.size,fun b hb=>h.block b hb id⟩
theorem Chg.more {S:BS} {w w' w'':World} (h:Chg S w w') (hg:Ext w' w''):Chg S w w'':=⟨hg.os.trans h.os,hg.tape.trans h.tape,hg.output.trans h.output,Nat.le_trans h.size (Below.size hg),fun b hb hn=>(hg.block b (Nat.lt_of_lt_of_le hb h.size)).trans (h.block b hb hn)⟩
theorem aE.ext' (h:aE W0 N σ a w c) {S:BS} (hg:Chg S w w') (hS:∀b,S b→W0.M b∨W0.w.heap.size≤b):Chg W0.M W0.w w':=by
 have hx:=h.ext
 refine ⟨hg.os.trans hx.os,hg.tape.trans hx.tape,hg.output.trans hx.output,Nat.le_trans hx.size hg.size,fun k hk hn=>?_⟩
 exact (hg.block k (Nat.lt_of_lt_of_le hk hx.size) (fun hs=>(hS k hs).elim hn (Nat.not_le.2 hk))).trans (hx.block k hk hn)
theorem aE.agF (h:aE W0 N σ a w c) {S:BS} (hg:Chg S w w') (hS:∀b,S b→¬c.F b):fR c.F w w':=
 fun b hb hl=>hg.block b hl (fun hs=>hS b hs hb)
theorem aE.eff (h:aE W0 N σ a w c) {τ:Env} {i:Nat} {t:Tk} (hi:al σ i=some (.tk t)) (hg:Chg (c.T i) w w') (F':BS) (hF:∀b,c.F b→F' b) (hF':∀b,F' b→c.F b∨c.T i b∨w.heap.size≤b) (hFl:∀b,F' b→b<w'.heap.size) :
 aE W0 N ((i,.no) :: σ) a w' { c with F:=F' }:=by
 obtain ⟨_,_,hti⟩:=h.tok i t hi
 have hS:∀b,c.T i b→¬c.F b:=fun b hb=>(hti b hb).1
 have hle:Cx.Le c { c with F:=F' }:=⟨hF,fun _ h=>⟨h,rfl⟩⟩
 have hag:=h.agF hg hS
 have old:∀j u,al ((i,.no) :: σ) j=some (.tk u)→i≠j∧al σ j=some (.tk u):=fun j u hj=>by
  rw [ab] at hj
  split at hj
  ·cases hj
  ·exact ⟨by assumption,hj⟩
 have hge:∀b,c.T i b→W0.M b∨W0.w.heap.size≤b:=fun b hb=>(hti b hb).2.2
 refine ⟨h.ext' hg hge,fun b hb=>(hF' b hb).elim (h.old b) (fun h'=>.inr (h'.elim (hge b) (fun h'=>.inr (Nat.le_trans h.ext.size h')))),hFl,h.size,h.defers,fun j hj=>?_,fun j u hj=>?_,fun j k u v hj hk hne b=>?_,fun t s ht=>?_⟩
 ·rw [ab];split
  ·simp
  ·exact h.all j hj
 ·obtain ⟨hne,hj⟩:=old j u hj
  obtain ⟨k1,k2,k3⟩:=h.tok j u hj
  refine ⟨k1,Tk.keep hle hg.size hag (fun b hb hl=>hg.block b hl (fun hs=>h.off i j t u hi hj hne b hs hb)) u _ k2,fun b hb=>⟨fun hf=>?_,Nat.lt_of_lt_of_le (k3 b hb).2.1 hg.size,(k3 b hb).2.2⟩⟩
  rcases hF' b hf with h1|h1|h1
  ·exact (k3 b hb).1 h1
  ·exact h.off i j t u hi hj hne b h1 hb
  ·have:=(k3 b hb).2.1;omega
 ·exact h.off j k u v (old j u hj).2 (old k v hk).2 hne b
 ·rw [ab] at ht
  split at ht
  ·cases ht
  ·obtain ⟨v,h1,h2⟩:=h.tmp t s ht
   exact ⟨v,h1,Sy.keep hle hag s v h2⟩
theorem aE.grow (h:aE W0 N σ a w c) (hg:Ext w w') (F':BS) (hF:∀b,c.F b→F' b) (hF':∀b,F' b→c.F b∨w.heap.size≤b) (hFl:∀b,F' b→b<w'.heap.size) :
 aE W0 N σ a w' { c with F:=F' }:=by
 have hle:Cx.Le c { c with F:=F' }:=⟨hF,fun _ h=>⟨h,rfl⟩⟩
 have ag:∀S:BS,fR S w w':=fun S b _ hl=>hg.block b hl
 refine ⟨h.ext.more hg,fun b hb=>(hF' b hb).elim (h.old b) (fun h'=>.inr (.inr (Nat.le_trans h.ext.size h'))),hFl,h.size,h.defers,h.all,fun j u hj=>?_,h.off,fun t s ht=>?_⟩
 ·obtain ⟨k1,k2,k3⟩:=h.tok j u hj
  refine ⟨k1,Tk.keep hle (Below.size hg) (ag _) (ag _) u _ k2,fun b hb=>⟨fun hf=>?_,Nat.lt_of_lt_of_le (k3 b hb).2.1 (Below.size hg),(k3 b hb).2.2⟩⟩
  rcases hF' b hf with h1|h1
  ·exact (k3 b hb).1 h1
  ·have:=(k3 b hb).2.1;omega
 ·obtain ⟨v,h1,h2⟩:=h.tmp t s ht
  exact ⟨v,h1,Sy.keep hle (ag _) s v h2⟩
theorem aE.freeze (h:aE W0 N σ a w c) {i:Nat} {t:Tk} (hi:al σ i=some (.tk t)):aE W0 N ((i,.no) :: σ) a w { c with F:=fun b=>c.F b∨c.T i b }:=
 h.eff (τ:=[]) hi ⟨rfl,rfl,rfl,Nat.le_refl _,fun _ _ _=>rfl⟩ _ (fun _ h=>.inl h) (fun b hb=>hb.elim .inl (fun h=>.inr (.inl h))) (fun b hb=>hb.elim (h.lt b) (fun hT=>((h.tok i t hi).2.2 b hT).2.1))
def Cx.add (c:Cx) (i:Nat) (v:Value) (S:BS):Cx:=⟨c.F,fun j=>if j=i then v else c.ρ j,fun j=>if j=i then S else c.T j,fun j=>c.A j∨j=i⟩
theorem Cx.add_le {i:Nat} {v:Value} {S:BS} (hA:¬c.A i):c.Le (c.add i v S):=⟨fun _ h=>h,fun j hj=>⟨.inl hj,by unfold Cx.add;dsimp only;rw [if_neg (fun e=>hA (by rw [← e];exact hj))]⟩⟩
theorem aE.new (h:aE W0 N σ a w c) {i:Nat} (hi:al σ i=none) {t:Tk} {v:Value} {S:BS} (ht:t.ok c w v S) (hS:∀b,S b→¬c.F b∧b<w.heap.size∧(W0.M b∨W0.w.heap.size≤b)) (hoff:∀j u,al σ j=some (.tk u)→∀b,S b→¬c.T j b) :
 aE W0 N ((i,.tk t) :: σ) a w (c.add i v S):=by
 have hA:¬c.A i:=fun hA=>h.all i hA hi
 have hle:=Cx.add_le (v:=v) (S:=S) hA
 have ag:∀S:BS,fR S w w:=fun S b _ hl=>rfl
 have e1:(c.add i v S).ρ i=v:=if_pos rfl
 have e2:(c.add i v S).T i=S:=if_pos rfl
 have e3:∀j,j≠i→(c.add i v S).ρ j=c.ρ j∧(c.add i v S).T j=c.T j:=fun j hj=>⟨if_neg hj,if_neg hj⟩
 refine ⟨h.ext,h.old,h.lt,h.size,h.defers,fun j hj=>?_,fun j u hj=>?_,fun j k u x hj hk hne b=>?_,fun t' s ht'=>?_⟩
 ·rw [ab];split
  ·simp
  ·exact h.all j (hj.resolve_right (fun e=>by rename_i h';exact h' e.symm))
 ·rw [ab] at hj
  by_cases e:i=j
  ·subst e
   rw [if_pos rfl] at hj;cases hj
   rw [e1,e2]
   exact ⟨.inr rfl,Tk.keep hle (Nat.le_refl _) (ag _) (ag _) _ _ ht,hS⟩
  ·rw [if_neg e] at hj
   obtain ⟨k1,k2,k3⟩:=h.tok j u hj
   obtain ⟨e4,e5⟩:=e3 j (Ne.symm e)
   rw [e4,e5]
   exact ⟨.inl k1,Tk.keep hle (Nat.le_refl _) (ag _) (ag _) _ _ k2,k3⟩
 ·rw [ab] at hj hk
  by_cases e:i=j
  ·subst e
   rw [if_neg hne] at hk
   rw [e2,(e3 k (Ne.symm hne)).2]
   exact hoff k x hk b
  ·rw [if_neg e] at hj
   rw [(e3 j (Ne.symm e)).2]
   by_cases e':i=k
   ·subst e'
    rw [e2]
    exact fun h1 h2=>hoff j u hj b h2 h1
   ·rw [if_neg e'] at hk
    rw [(e3 k (Ne.symm e')).2]
    exact h.off j k u x hj hk hne b
 ·rw [ab] at ht'
  split at ht'
  ·cases ht'
  ·obtain ⟨x,h1,h2⟩:=h.tmp t' s ht'
   exact ⟨x,h1,Sy.keep hle (ag _) s x h2⟩
theorem aE.upd (h:aE W0 N σ a w c) {i:Nat} {t u:Tk} (hi:al σ i=some (.tk t)) (hg:Chg (c.T i) w w') (hsz:w'.heap.size=w.heap.size) (hu:fR c.F w w'→u.ok c w' (c.ρ i) (c.T i)) :
 aE W0 N ((i,.tk u) :: σ) a w' c:=by
 obtain ⟨hAi,_,hti⟩:=h.tok i t hi
 have hS:∀b,c.T i b→¬c.F b:=fun b hb=>(hti b hb).1
 have hag:=h.agF hg hS
 refine ⟨h.ext' hg (fun b hb=>(hti b hb).2.2),h.old,fun b hb=>by rw [hsz];exact h.lt b hb,h.size,h.defers,fun j hj=>?_,fun j x hj=>?_,fun j k x y hj hk hne b=>?_,fun t' s ht'=>?_⟩
 ·rw [ab];split
  ·simp
  ·exact h.all j hj
 ·rw [ab] at hj
  by_cases e:i=j
  ·subst e
   rw [if_pos rfl] at hj;cases hj
   exact ⟨hAi,hu hag,fun b hb=>⟨(hti b hb).1,by rw [hsz];exact (hti b hb).2.1,(hti b hb).2.2⟩⟩
  ·rw [if_neg e] at hj
   obtain ⟨k1,k2,k3⟩:=h.tok j x hj
   exact ⟨k1,Tk.keep (Cx.Le.refl c) hg.size hag (fun b hb hl=>hg.block b hl (fun hs=>h.off i j t x hi hj e b hs hb)) x _ k2,fun b hb=>⟨(k3 b hb).1,by rw [hsz];exact (k3 b hb).2.1,(k3 b hb).2.2⟩⟩
 ·have conv:∀j x,al ((i,.tk u) :: σ) j=some (.tk x)→∃x',al σ j=some (.tk x'):=fun j x hj=>by
   rw [ab] at hj
   by_cases e:i=j
   ·subst e;exact ⟨t,hi⟩
   ·rw [if_neg e] at hj;exact ⟨x,hj⟩
  obtain ⟨x',hx'⟩:=conv j x hj
  obtain ⟨y',hy'⟩:=conv k y hk
  exact h.off j k x' y' hx' hy' hne b
 ·rw [ab] at ht'
  split at ht'
  ·cases ht'
  ·obtain ⟨x,h1,h2⟩:=h.tmp t' s ht'
   exact ⟨x,h1,Sy.keep (Cx.Le.refl c) hag s x h2⟩
end
def ev (σ:Env):Operand→Option Sy
 | .tmp t=>match al σ t with
  | some (.sy s)=>some s
  | _=>none
 | .const v=>some (.v v)
 | .func f=>some (.d (.f f []))
 | _=>none
def kx:Operand→List Nat
 | .tmp t=>[t]
 | _=>[]
theorem ah {σ σ':Env} {x:Operand} {s:Sy} (he:ev σ x=some s) (hk:∀κ∈kx x,al σ' κ=al σ κ):ev σ' x=some s:=by
 cases x with
 | tmp t=>
  have:=hk t (by simp [kx])
  unfold ev at he ⊢
  dsimp only at he ⊢
  rw [this];exact he
 | const v=>exact he
 | func f=>exact he
 | _=>cases he
theorem ap {W0:cz} {N:Nat} {σ:Env} {a:Act} {w:World} {c:Cx} {x:Operand} {s:Sy} (h:aE W0 N σ a w c) (he:ev σ x=some s):s.ok c w (a.eval x):=by
 cases x with
 | tmp t=>
  unfold ev at he
  dsimp only at he
  split at he
  ·rename_i s' hs
   cases he
   obtain ⟨v,h1,h2⟩:=h.tmp t _ hs
   have:a.eval (.tmp t)=v:=by simp [Act.eval,Array.getD_eq_getD_getElem?,h1]
   rw [this];exact h2
  ·cases he
 | const v=>cases he;exact rfl
 | func f=>cases he;exact ⟨[],rfl,rfl⟩
 | _=>cases he
def aF (σ:Env) (d:Nat):Bool:=match al σ d with
 | none=>true
 | some (.sy _)=>true
 | _=>false
theorem i2 {σ:Env} {d:Nat} (h:aF σ d=true):al σ d=none∨∃s,al σ d=some (.sy s):=by
 unfold aF at h
 split at h
 ·exact .inl (by assumption)
 ·exact .inr ⟨_,by assumption⟩
 ·cases h
def gst (ops:Array Oper) (σ:Env):Option (Nat × Bool)→Option (Bool × List Nat)
 | none=>some (true,[])
 | some (j,want)=>match (ops[j]?).bind (·.dst) with
  | some d=>match al σ d with
   | some (.sy (.d (.b x)))=>some (x == want,[d])
   | some (.sy (.v (.bool x)))=>some (x == want,[d])
   | _=>none
  | none=>none
theorem wG {ops:Array Oper} {W0:cz} {N:Nat} {σ σ':Env} {a:Act} {w:World} {o:Oper} {b:Bool} {gk:List Nat} (hg:gst ops σ o.guard=some (b,gk)) (hk:∀κ∈gk,al σ' κ=al σ κ) (h:Holds W0 N σ' a w):Region.wanted o (yielded ops a.tmps)=b:=by
 unfold Region.wanted
 cases hgd:o.guard with
 | none=>rw [hgd] at hg;cases hg;rfl
 | some p=>
  obtain ⟨j,want⟩:=p
  rw [hgd] at hg
  unfold gst at hg
  dsimp only at hg ⊢
  unfold yielded
  cases hd:(ops[j]?).bind (·.dst) with
  | none=>rw [hd] at hg;cases hg
  | some d=>
   rw [hd] at hg
   dsimp only at hg
   obtain ⟨c,h⟩:=h
   split at hg
   ·rename_i x hx
    cases hg
    obtain ⟨v,h1,h2⟩:=h.tmp d _ (by rw [hk d (by simp)];exact hx)
    have:v=.bool x:=by simpa [Sy.ok,DV,Rp] using h2
    subst this
    simp only [Option.bind_some,h1]
    cases x <;> cases want <;> rfl
   ·rename_i x hx
    cases hg
    obtain ⟨v,h1,h2⟩:=h.tmp d _ (by rw [hk d (by simp)];exact hx)
    have:v=.bool x:=h2
    subst this
    simp only [Option.bind_some,h1]
    cases x <;> cases want <;> rfl
   ·cases hg
section
variable {P:Program} {ops:Array Oper} {W0:cz} {N:Nat} {Fin:Us→Env→Prop} {os:List Oper} {us:Us} {pk fk:List Nat} {σ:Env} {g:Option (Nat × Bool)} {gk:List Nat} {d ty:Nat} {pos:String} {after:Array Edge} {op:Op}
theorem cr (s:Sy) (keys:List Nat) (hex:∀(σ':Env) (c:Cx) (a:Act) (w:World),(∀κ∈keys,al σ' κ=al σ κ)→aE W0 N σ' a w c→∃v,(execOp a.eval ⟨some d,op,ty,pos,after,g⟩).run P w=.ok (.value v) w∧s.ok c w v)
 (h:Der P ops W0 N Fin os (us++[((d :: (gk++keys))++pk,([d])++fk)]) [] [] ((d,.sy s) :: σ)) (hg:gst ops σ g=some (true,gk):=by rfl) (hN:Nat.blt d N=true:=by rfl) (hs:aF σ d=true:=by rfl):Der P ops W0 N Fin (⟨some d,op,ty,pos,after,g⟩ :: os) us pk fk σ:=by
 refine ⟨d :: (gk++keys),[(d,.sy s)],fun σ' a w hk hh=>.inl ⟨wG (o:=⟨some d,op,ty,pos,after,g⟩) hg (fun κ hκ=>hk κ (by simp [hκ])) hh,?_⟩,h⟩
 obtain ⟨c,hc⟩:=hh
 obtain ⟨v,h1,h2⟩:=hex σ' c a w (fun κ hκ=>hk κ (by simp [hκ])) hc
 unfold Oper.wp
 rw [h1]
 exact ⟨c,hc.put (Nat.blt_eq.mp hN) h2 (by rw [hk d (by simp)];exact i2 hs)⟩
theorem sNo (h:Der P ops W0 N Fin os (us++[((d :: gk)++pk,([d])++fk)]) [] [] ((d,.sy (.v undef)) :: σ)) (hg:gst ops σ g=some (false,gk):=by rfl) (hN:Nat.blt d N=true:=by rfl) (hs:aF σ d=true:=by rfl):Der P ops W0 N Fin (⟨some d,op,ty,pos,after,g⟩ :: os) us pk fk σ:=by
 refine ⟨d :: gk,[(d,.sy (.v undef))],fun σ' a w hk hh=>.inr ⟨wG (o:=⟨some d,op,ty,pos,after,g⟩) hg (fun κ hκ=>hk κ (by simp [hκ])) hh,?_⟩,h⟩
 obtain ⟨c,hc⟩:=hh
 exact ⟨c,hc.put (Nat.blt_eq.mp hN) rfl (by rw [hk d (by simp)];exact i2 hs)⟩
theorem jy (s:Sy) (keys:List Nat) (upd:Env) (hex:∀(σ':Env) (c:Cx) (a:Act) (w:World),(∀κ∈keys,al σ' κ=al σ κ)→aE W0 N σ' a w c →
 Oper.wp P ⟨some d,op,ty,pos,after,g⟩ a w (fun a' w'=>∃v c',a'=a.put (some d) v∧aE W0 N (upd++σ') a w' c'∧s.ok c' w' v) (fun _ _ _=>False))
 (h:Der P ops W0 N Fin os (us++[((d :: (gk++keys))++pk,(d :: upd.map Prod.fst)++fk)]) [] [] ((d,.sy s) :: (upd++σ))) (hg:gst ops σ g=some (true,gk):=by rfl) (hN:Nat.blt d N=true:=by rfl) (hs:aF (upd++σ) d=true:=by rfl) (hu:upd.all (fun p=>!(Nat.beq p.1 d))=true:=by rfl):Der P ops W0 N Fin (⟨some d,op,ty,pos,after,g⟩ :: os) us pk fk σ:=by
 refine ⟨d :: (gk++keys),(d,.sy s) :: upd,fun σ' a w hk hh=>.inl ⟨wG (o:=⟨some d,op,ty,pos,after,g⟩) hg (fun κ hκ=>hk κ (by simp [hκ])) hh,?_⟩,h⟩
 obtain ⟨c,hc⟩:=hh
 refine Oper.wp_mono ?_ (hex σ' c a w (fun κ hκ=>hk κ (by simp [hκ])) hc)
 rintro a' w' ⟨v,c',rfl,h1,h2⟩
 refine ⟨c',h1.put (Nat.blt_eq.mp hN) h2 ?_⟩
 have hnd:d ∉ upd.map Prod.fst:=fun hm=>by
  obtain ⟨p,hp,he⟩:=List.mem_map.1 hm
  have:=List.all_eq_true.1 hu p hp
  rw [he] at this;simp at this
 rw [i5 hnd,hk d (by simp)]
 have:=i2 hs
 rw [i5 hnd] at this
 exact this
theorem lq (keys:List Nat) (upd:Env) (hex:∀(σ':Env) (c:Cx) (a:Act) (w:World),(∀κ∈keys,al σ' κ=al σ κ)→aE W0 N σ' a w c →
 Oper.wp P ⟨none,op,ty,pos,after,g⟩ a w (fun a' w'=>a'=a∧∃c',aE W0 N (upd++σ') a w' c') (fun _ _ _=>False))
 (h:Der P ops W0 N Fin os (us++[((gk++keys)++pk,(upd.map Prod.fst)++fk)]) [] [] (upd++σ)) (hg:gst ops σ g=some (true,gk):=by rfl):Der P ops W0 N Fin (⟨none,op,ty,pos,after,g⟩ :: os) us pk fk σ:=by
 refine ⟨gk++keys,upd,fun σ' a w hk hh=>.inl ⟨wG (o:=⟨none,op,ty,pos,after,g⟩) hg (fun κ hκ=>hk κ (by simp [hκ])) hh,?_⟩,h⟩
 obtain ⟨c,hc⟩:=hh
 refine Oper.wp_mono ?_ (hex σ' c a w (fun κ hκ=>hk κ (by simp [hκ])) hc)
 rintro a' w' ⟨rfl,c',h1⟩
 exact ⟨c',h1⟩
end
end Go.Proofs.YtnobdioccfeokaaGreatDoor
namespace Go.Proofs.YtnobdioccfeokaaGreatDoor
open Go.RowKit
set_option linter.unusedVariables false
set_option linter.unusedSimpArgs false
def Sy.int?:Sy→Option Int
 | .d (.i n)=>some n
 | .v (.int .i64 n)=>some n
 | _=>none
def Sy.bool?:Sy→Option Bool
 | .d (.b x)=>some x
 | .v (.bool x)=>some x
 | _=>none
def Sy.str?:Sy→Option ByteArray
 | .d (.s x)=>some x
 | .v (.string x)=>some x
 | _=>none
theorem df {s:Sy} {n:Int} (h:s.int? = some n) {c:Cx} {w:World} {y:Value} (ho:s.ok c w y):y=.int .i64 n:=by
 unfold Sy.int? at h
 split at h
 ·cases h;simpa [Sy.ok,DV,Rp] using (show _∧_ from ho).1
 ·cases h;exact ho
 ·cases h
theorem oE {s:Sy} {n:Bool} (h:s.bool? = some n) {c:Cx} {w:World} {y:Value} (ho:s.ok c w y):y=.bool n:=by
 unfold Sy.bool? at h
 split at h
 ·cases h;simpa [Sy.ok,DV,Rp] using ho
 ·cases h;exact ho
 ·cases h
theorem oC {s:Sy} {n:ByteArray} (h:s.str? = some n) {c:Cx} {w:World} {y:Value} (ho:s.ok c w y):y=.string n:=by
 unfold Sy.str? at h
 split at h
 ·cases h;simpa [Sy.ok,DV,Rp] using (show _∧_ from ho).1
 ·cases h;exact ho
 ·cases h
mutual
def D.sz:D→Nat
 | .t xs=>szs xs
 | _=>1
def szs:List D→Nat
 | []=>0
 | d :: ds=>d.sz+szs ds
end
mutual
theorem Rp.len {w:World} {S:BS}:∀(d:D) (cs:List Value),Rp w S d cs→cs.length=d.sz
 | .i n,cs,r=>by rw [r.1];rfl
 | .s b,cs,r=>by rw [r.1];rfl
 | .b x,cs,r=>by rw [show cs = [.bool x] from r];rfl
 | .l z xs,cs,r=>by obtain ⟨a,k,h,_⟩:=r;rw [h];rfl
 | .t ds,cs,r=>RpL.len ds cs r
 | .n _,cs,r=>by obtain ⟨a,h⟩:=r;rw [h];rfl
 | .p d,cs,r=>by obtain ⟨b,o,us,h,_⟩:=r;rw [h];rfl
 | .f g ds,cs,r=>by obtain ⟨vs,h,_⟩:=r;rw [h];rfl
 | .any,cs,r=>by obtain ⟨v,h,_⟩:=r;rw [h];rfl
 | .c _,cs,r=>by rw [r.1];rfl
theorem RpL.len {w:World} {S:BS}:∀(ds:List D) (cs:List Value),RpL w S ds cs→cs.length=szs ds
 | [],cs,r=>by rw [show cs = [] from r];rfl
 | d :: ds,cs,⟨c,e,h1,h2,h3⟩=>by rw [h1,List.length_append,Rp.len d c h2,RpL.len ds e h3];rfl
end
def part?:List D→Nat→Option D
 | [],_=>none
 | d :: ds,o=>match Nat.beq o 0 with|true=>some d|false=>match Nat.ble d.sz o with|true=>part? ds (o - d.sz)|false=>none
theorem wx {w:World} {S:BS}:∀(ds:List D) (o:Nat) (cs:List Value) (d:D),RpL w S ds cs→part? ds o=some d→∃c,Rp w S d c∧∀j u,c[j]? = some u→cs[o+j]? = some u:=by
 intro ds
 induction ds with
 | nil=>intro o cs d _ h;cases h
 | cons x ds ih=>
  intro o cs d ⟨c,e,h1,h2,h3⟩ h
  unfold part? at h
  split at h
  ·rename_i h0
   cases h
   refine ⟨c,h2,fun j u hj=>?_⟩
   have:=Nat.eq_of_beq_eq_true h0
   subst this
   rw [h1,Nat.zero_add,List.getElem?_append_left]
   ·exact hj
   ·rcases Nat.lt_or_ge j c.length with h|h
    ·exact h
    ·rw [List.getElem?_eq_none h] at hj;cases hj
  ·split at h
   ·rename_i hle
    have hle':=Nat.le_of_ble_eq_true hle
    obtain ⟨c',h4,h5⟩:=ih _ e d h3 h
    refine ⟨c',h4,fun j u hj=>?_⟩
    have:=h5 j u hj
    rw [h1,List.getElem?_append_right (by rw [Rp.len _ _ h2];omega),Rp.len _ _ h2,show o+j - x.sz=o - x.sz+j by omega]
    exact this
   ·cases h
def nat?:Nat→Option Nat
 | 0=>some 0
 | n+1=>some (n+1)
theorem xd (n:Nat):nat? n=some n:=by cases n <;> rfl
def fld (P:Program) (ty k:Nat):Option Nat:=match P.underlying ty with
 | some (.struct fs)=>match fs[k]? with
  | some f=>match P.info? f.type with
   | some i=>match Nat.beq i.size 0 with|true=>none|false=>nat? f.offset
   | none=>none
  | none=>none
 | _=>none
def isAgg? (P:Program) (ty:Nat):Option Bool:=(P.underlying ty).map fun d=>match d with | .struct _ | .array _ _=>true|_=>false
def sizeOf? (P:Program) (ty:Nat):Option Nat:=match P.info? ty with|some i=>nat? i.size|none=>none
theorem cY {P:Program} {ty n:Nat} (h:sizeOf? P ty=some n):(P.info? ty).map (·.size)=some n:=by
 unfold sizeOf? at h
 split at h
 ·rename_i i hi;rw [hi,Option.map_some];rw [xd] at h;exact h
 ·cases h
def elem? (P:Program) (ty:Nat):Option Nat:=match P.underlying ty with|some (.slice e)=>some e|_=>none
theorem dE {P:Program} {ty e:Nat} (h:elem? P ty=some e):P.underlying ty=some (.slice e):=by
 unfold elem? at h;split at h
 ·cases h;assumption
 ·cases h
theorem oO {P:Program} {ty k o b off:Nat} {w:World} (h:fld P ty k=some o):(Instr.fieldAt ty (.pointer (some ⟨b,off,none⟩)) k).run P w=.ok (.pointer (some ⟨b,off+o,none⟩)) w:=by
 unfold fld at h
 split at h
 ·rename_i fs hu
  split at h
  ·rename_i f hf
   split at h
   ·rename_i i hi
    split at h
    ·cases h
    ·rename_i hz
     rw [xd] at h
     cases h
     have hne:¬i.size=0:=fun e=>by rw [e] at hz;simp at hz
     unfold Instr.fieldAt
     simp [run_underlying hu,hf,Instr.sureAddr,fieldPlace,sizeOf,typeInfo,hi,hne,Addr.add,go_sem]
   ·cases h
  ·cases h
 ·cases h
theorem gY {P:Program} {ty:Nat} {b off:Nat} {w:World} {v:Value} (h:isAgg? P ty=some false) (hc:w.cell? ⟨b,off,none⟩=some v):(Instr.loadAt ty (.pointer (some ⟨b,off,none⟩))).run P w=.ok v w:=by
 unfold isAgg? at h
 rw [Option.map_eq_some_iff] at h
 obtain ⟨d,hu,hd⟩:=h
 unfold Instr.loadAt
 cases d <;> simp [run_underlying hu,Instr.sureAddr,loadVar,isAgg,hc,go_sem] at hd ⊢
theorem eL {P:Program} {ty:Nat} {b off:Nat} {w:World} {cs:List Value} (h:isAgg? P ty=some true) (hs:sizeOf? P ty=some cs.length) (hc:bA w b off cs):(Instr.loadAt ty (.pointer (some ⟨b,off,none⟩))).run P w=.ok (.agg cs.toArray) w:=by
 unfold isAgg? at h
 rw [Option.map_eq_some_iff] at h
 obtain ⟨d,hu,hd⟩:=h
 exact run_loadAt_mid w b off ty cs d (fun j v hv=>hc j v hv) hu (by cases d <;> simp_all [TypeDesc.isRow]) (cY hs)
theorem oM {P:Program} {ty e b o n k m z:Nat} {w:World} (he:elem? P ty=some e) (hz:sizeOf? P e=some z) (hm:m<n):(Instr.indexAt ty (.slice (some ⟨b,o,none⟩) n k) (.int .i64 m)).run P w=.ok (.pointer (some ⟨b,o+m * z,none⟩)) w:=by
 replace hz:=cY hz
 rw [Option.map_eq_some_iff] at hz
 obtain ⟨i,hi,hz⟩:=hz
 unfold Instr.indexAt
 have h0:(0:Int)≤(m:Int):=by omega
 have h1:(m:Int)<(n:Int):=by omega
 simp [run_underlying (dE he),asIntOf,sizeOf,typeInfo,hi,hz,Addr.add,hm,go_sem]
theorem dl {P:Program} {w w':World} {X:Sem Value} {v:Value} (h:X.run P w=.ok v w'):(do pure (Next.value (← X)):Sem Next).run P w=.ok (.value v) w':=by
 rw [Sem.run_bind,h];rfl
theorem I64.nat {n:Nat} (h:n≤maxLen):I64 (n:Int):=by unfold I64;unfold maxLen at h;omega
section
variable {P:Program} {ρ:Operand→Value} {w:World} {d g:_} {ty ty' ty2:Nat} {pos:String} {after:Array Edge} {at':Array TypeId} {x y z:Operand}
theorem gw {ad:Option Addr} {n k t e:Nat} (ht:elem? P t=some e) (h:ρ x=.slice ad n k):(execOp ρ ⟨d,.call { callee:=.builtin .len,args:=#[x],argTypes:=#[t] },ty,pos,after,g⟩).run P w=.ok (.value (.int .i64 n)) w:=by
 simp [execOp,resolve,invoke,builtin,Builtin.len_,run_underlying (dE ht),h,goInt,go_sem]
theorem D3 {b:ByteArray} {t:Nat} (ht:P.underlying t=some .string) (h:ρ x=.string b):(execOp ρ ⟨d,.call { callee:=.builtin .len,args:=#[x],argTypes:=#[t] },ty,pos,after,g⟩).run P w=.ok (.value (.int .i64 b.size)) w:=by
 simp [execOp,resolve,invoke,builtin,Builtin.len_,run_underlying ht,h,goInt,go_sem]
def iop:BinOp→Int→Int→Option Int
 | .add,x,y=>some (x+y)
 | .sub,x,y=>some (x - y)
 | .mul,x,y=>some (x * y)
 | _,_,_=>none
def IZ:BinOp→Int→Int→Option Bool
 | .lss,x,y=>some (decide (x<y))
 | .leq,x,y=>some (decide (x≤y))
 | .gtr,x,y=>some (decide (y<x))
 | .geq,x,y=>some (decide (y≤x))
 | .eql,x,y=>some (decide (x=y))
 | .neq,x,y=>some (!decide (x=y))
 | _,_,_=>none
theorem GI {op:BinOp} {m n r:Int} (hr:iop op m n=some r) (hb:I64 r) (h1:ρ x=.int .i64 m) (h2:ρ y=.int .i64 n):(execOp ρ ⟨d,.binOp op ty' x y ty2,ty,pos,after,g⟩).run P w=.ok (.value (.int .i64 r)) w:=by
 have hw:=IntWalk.i64_in r hb
 unfold iop at hr
 split at hr
 case h_4=>cases hr
 all_goals
  cases hr
  simp only [execOp,h1,h2]
  first
   | exact congrArg (fun q=>Result.ok (Next.value (.int .i64 q)) w) hw
theorem EN {op:BinOp} {m n:Int} {r:Bool} (hr:IZ op m n=some r) (h1:ρ x=.int .i64 m) (h2:ρ y=.int .i64 n):(execOp ρ ⟨d,.binOp op ty' x y ty2,ty,pos,after,g⟩).run P w=.ok (.value (.bool r)) w:=by
 unfold IZ at hr
 split at hr
 case h_7=>cases hr
 all_goals
  cases hr
  simp only [execOp,h1,h2]
  rfl
def Jz:BinOp→ByteArray→ByteArray→Option Bool
 | .lss,x,y=>some (Op.bytesLess x.toList y.toList)
 | .eql,x,y=>some (x.toList == y.toList)
 | .neq,x,y=>some (!(x.toList == y.toList))
 | _,_,_=>none
theorem Dl {op:BinOp} {m n:ByteArray} {r:Bool} (hr:Jz op m n=some r) (h1:ρ x=.string m) (h2:ρ y=.string n):(execOp ρ ⟨d,.binOp op ty' x y ty2,ty,pos,after,g⟩).run P w=.ok (.value (.bool r)) w:=by
 unfold Jz at hr
 split at hr
 case h_4=>cases hr
 all_goals
  cases hr
  simp only [execOp,h1,h2]
  rfl
theorem GP {b:Bool} (h:ρ x=.bool b):(execOp ρ ⟨d,.unOp .not ty' x,ty,pos,after,g⟩).run P w=.ok (.value (.bool (!b))) w:=by
 simp only [execOp,h];rfl
theorem EX {b:Bool} (h:ρ x=.bool b):(execOp ρ ⟨d,.pick x y z,ty,pos,after,g⟩).run P w=.ok (.value (bif b then ρ y else ρ z)) w:=by
 simp only [execOp,h];cases b <;> rfl
theorem Fz {k:Nat} {vs:List Value} {v:Value} (h:ρ x=.tuple vs.toArray) (hv:vs[k]? = some v):(execOp ρ ⟨d,.extract x k,ty,pos,after,g⟩).run P w=.ok (.value v) w:=by
 simp [execOp,h,Instr.extract,hv,go_sem]
end
section
variable {P:Program} {ops:Array Oper} {W0:cz} {N:Nat} {Fin:Us→Env→Prop} {os:List Oper} {us:Us} {pk fk:List Nat} {σ:Env} {g:Option (Nat × Bool)} {gk:List Nat} {d ty ty':Nat} {pos:String} {after:Array Edge}
theorem bT {x:Operand} {s:Sy} (h:Der P ops W0 N Fin os (us++[((d :: (gk++kx x))++pk,([d])++fk)]) [] [] ((d,.sy s) :: σ)) (hx:ev σ x=some s:=by rfl) (hg:gst ops σ g=some (true,gk):=by rfl) (hN:Nat.blt d N=true:=by rfl) (hs:aF σ d=true:=by rfl):Der P ops W0 N Fin (⟨some d,.move x,ty,pos,after,g⟩ :: os) us pk fk σ:=
 cr s (kx x) (fun σ' c a w hk hc=>⟨a.eval x,rfl,ap hc (ah hx hk)⟩) h hg hN hs
theorem eJ {x:Operand} {s:Sy} (h:Der P ops W0 N Fin os (us++[((d :: (gk++kx x))++pk,([d])++fk)]) [] [] ((d,.sy s) :: σ)) (hx:ev σ x=some s:=by rfl) (hg:gst ops σ g=some (true,gk):=by rfl) (hN:Nat.blt d N=true:=by rfl) (hs:aF σ d=true:=by rfl):Der P ops W0 N Fin (⟨some d,.assign x,ty,pos,after,g⟩ :: os) us pk fk σ:=
 cr s (kx x) (fun σ' c a w hk hc=>⟨a.eval x,rfl,ap hc (ah hx hk)⟩) h hg hN hs
mutual
def CW:D→D
 | .n z=>.l z []
 | .t ds=>.t (GY ds)
 | d=>d
def GY:List D→List D
 | []=>[]
 | d :: ds=>CW d :: GY ds
end
mutual
theorem BN {w:World} {S:BS}:∀(d:D) (cs:List Value),Rp w S d cs→Rp w S (CW d) cs
 | .i n,cs,r=>r
 | .s b,cs,r=>r
 | .b x,cs,r=>r
 | .l z xs,cs,r=>r
 | .t ds,cs,r=>rV ds cs r
 | .n z,cs,⟨a,r⟩=>⟨a,0,r,Nat.le_refl _,by decide,fun _=>rfl,.inl rfl⟩
 | .p d,cs,r=>r
 | .f g ds,cs,r=>r
 | .any,cs,r=>r
 | .c _,cs,r=>r
theorem rV {w:World} {S:BS}:∀(ds:List D) (cs:List Value),RpL w S ds cs→RpL w S (GY ds) cs
 | [],cs,r=>r
 | d :: ds,cs,⟨c,e,h1,h2,h3⟩=>⟨c,e,h1,BN d c h2,rV ds e h3⟩
end
theorem GM {w:World} {S:BS} {d:D} {v:Value} (h:DV w S d v):DV w S (CW d) v:=by
 cases d with
 | t ds=>obtain ⟨cs,h1,h2⟩:=h;exact ⟨cs,h1,rV ds cs h2⟩
 | n z=>exact BN (.n z) _ h
 | _=>exact h
def Sy.dat:Sy→Option D
 | .d r=>some (CW r)
 | .v (.int .i64 n)=>match decide (-9223372036854775808≤n) && decide (n≤9223372036854775807) with|true=>some (.i n)|false=>none
 | .v (.string b)=>match Nat.ble b.size maxLen with|true=>some (.s b)|false=>none
 | .v (.bool x)=>some (.b x)
 | _=>none
theorem jA {s:Sy} {r:D} (h:s.dat=some r) {c:Cx} {w:World} {v:Value} (hv:s.ok c w v):DV w c.F r v:=by
 unfold Sy.dat at h
 split at h
 ·cases h;exact GM hv
 ·split at h
  ·rename_i hb
   cases h
   rw [show v=_ from hv]
   rw [Bool.and_eq_true,decide_eq_true_eq,decide_eq_true_eq] at hb
   exact ⟨rfl,hb⟩
  ·cases h
 ·split at h
  ·rename_i hb
   cases h
   rw [show v=_ from hv]
   exact ⟨rfl,Nat.le_of_ble_eq_true hb⟩
  ·cases h
 ·cases h
  rw [show v=_ from hv];exact rfl
 ·cases h
def isT:D→Bool
 | .t _=>true
 | _=>false
def vB:Sy→D
 | .d r=>match isT r with|true=>.any|false=>r
 | _=>.any
theorem yw {s:Sy} {c:Cx} {w:World} {v:Value} (h:s.ok c w v) (h1:v.oneCell'=true):Rp w c.F (vB s) [v]:=by
 cases s with
 | d r=>cases r <;> first|exact ⟨v,rfl,h1⟩|exact h
 | _=>exact ⟨v,rfl,h1⟩
theorem vJ {c:Cx} {w:World}:∀(ss:List Sy) (vs:List Value),Sy.oks c w ss vs→(∀u∈vs,u.oneCell'=true)→RpL w c.F (ss.map vB) vs:=by
 intro ss
 induction ss with
 | nil=>intro vs h _;exact h
 | cons s ss ih=>
  intro vs ⟨v,t,e1,e2,e3⟩ h
  subst e1
  exact ⟨[v],t,rfl,yw e2 (h v (by simp)),ih t e3 (fun u hu=>h u (by simp [hu]))⟩
def Sy.arg:Sy→Option D
 | .at r=>some (.p r)
 | .atS o cs=>match o with|0=>some (.p (.t (cs.map vB)))|_=>none
 | s=>s.dat
theorem Ax {s:Sy} {r:D} (h:s.arg=some r) {c:Cx} {w:World} {v:Value} (hv:s.ok c w v):DV w c.F r v:=by
 cases s with
 | «at» u=>
  cases h
  obtain ⟨b,o,cs,h1,h2,h3,h4⟩:=hv
  exact ⟨b,o,cs,by rw [h1],h2,h3,h4⟩
 | atS o cs=>
  cases o with
  | zero=>
   cases h
   obtain ⟨b,vs,h1,h2,h3,h4,h5⟩:=hv
   exact ⟨b,0,vs,by rw [h1],h2,vJ _ _ h3 h5,h4⟩
  | succ o=>cases h
 | _=>exact jA (by unfold Sy.arg at h;exact h) hv
def dsy:D→Sy
 | .p d=>.at d
 | r=>.d r
theorem Cu {r:D} {c:Cx} {w:World} {v:Value} (h:DV w c.F r v):(dsy r).ok c w v:=by
 cases r with
 | p d=>
  obtain ⟨b,o,us,h1,h2,h3,h4⟩:=h
  cases h1
  exact ⟨b,o,us,rfl,h2,h3,h4⟩
 | _=>exact h
theorem ba {x:Operand} {r:D} (h:Der P ops W0 N Fin os (us++[((d :: (gk++kx x))++pk,([d])++fk)]) [] [] ((d,.sy (.d r)) :: σ)) (hx:(ev σ x).bind Sy.dat=some r:=by rfl) (hg:gst ops σ g=some (true,gk):=by rfl) (hN:Nat.blt d N=true:=by rfl) (hs:aF σ d=true:=by rfl):Der P ops W0 N Fin (⟨some d,.move x,ty,pos,after,g⟩ :: os) us pk fk σ:=by
 rw [Option.bind_eq_some_iff] at hx
 obtain ⟨s,h1,h2⟩:=hx
 exact cr (.d r) (kx x) (fun σ' c a w hk hc=>⟨a.eval x,rfl,jA h2 (ap hc (ah h1 hk))⟩) h hg hN hs
theorem bI {x:Operand} {r:D} (h:Der P ops W0 N Fin os (us++[((d :: (gk++kx x))++pk,([d])++fk)]) [] [] ((d,.sy (.d r)) :: σ)) (hx:(ev σ x).bind Sy.dat=some r:=by rfl) (hg:gst ops σ g=some (true,gk):=by rfl) (hN:Nat.blt d N=true:=by rfl) (hs:aF σ d=true:=by rfl):Der P ops W0 N Fin (⟨some d,.assign x,ty,pos,after,g⟩ :: os) us pk fk σ:=by
 rw [Option.bind_eq_some_iff] at hx
 obtain ⟨s,h1,h2⟩:=hx
 exact cr (.d r) (kx x) (fun σ' c a w hk hc=>⟨a.eval x,rfl,jA h2 (ap hc (ah h1 hk))⟩) h hg hN hs
theorem eC {x:Operand} {k o:Nat} {ds:List D} {r:D} (h:Der P ops W0 N Fin os (us++[((d :: (gk++kx x))++pk,([d])++fk)]) [] [] ((d,.sy (.at r)) :: σ)) (hx:ev σ x=some (.at (.t ds)):=by rfl) (ho:fld P ty' k=some o:=by rfl) (hr:part? ds o=some r:=by rfl) (hg:gst ops σ g=some (true,gk):=by rfl) (hN:Nat.blt d N=true:=by rfl) (hs:aF σ d=true:=by rfl):Der P ops W0 N Fin (⟨some d,.fieldAddr ty' x k,ty,pos,after,g⟩ :: os) us pk fk σ:=
 cr (.at r) (kx x) (fun σ' c a w hk hc=>by
  obtain ⟨b,off,cs,h1,h2,h3,h4⟩:=ap hc (ah hx hk)
  obtain ⟨c',h5,h6⟩:=wx ds o cs r h3 hr
  refine ⟨_,dl (X:=Instr.fieldAt ty' (a.eval x) k) (by rw [h1];exact oO ho),b,off+o,c',rfl,h2,h5,fun j u hj=>?_⟩
  rw [Nat.add_assoc];exact h4 _ u (h6 j u hj)) h hg hN hs
theorem bH {x:Operand} {k o i off:Nat} (h:Der P ops W0 N Fin os (us++[((d :: (gk++kx x))++pk,([d])++fk)]) [] [] ((d,.sy (.bx i (off+o))) :: σ)) (hx:ev σ x=some (.bx i off):=by rfl) (ho:fld P ty' k=some o:=by rfl) (hg:gst ops σ g=some (true,gk):=by rfl) (hN:Nat.blt d N=true:=by rfl) (hs:aF σ d=true:=by rfl):Der P ops W0 N Fin (⟨some d,.fieldAddr ty' x k,ty,pos,after,g⟩ :: os) us pk fk σ:=
 cr (.bx i (off+o)) (kx x) (fun σ' c a w hk hc=>by
  obtain ⟨hA,b,h1,h2⟩:=ap hc (ah hx hk)
  exact ⟨_,dl (X:=Instr.fieldAt ty' (a.eval x) k) (by rw [h2];exact oO ho),hA,b,h1,rfl⟩) h hg hN hs
theorem b6 {x:Operand} {r:D} (h:Der P ops W0 N Fin os (us++[((d :: (gk++kx x))++pk,([d])++fk)]) [] [] ((d,.sy (.d r)) :: σ)) (hx:ev σ x=some (.at r):=by rfl) (hA:isAgg? P ty'=some (isT r):=by rfl) (hz:sizeOf? P ty'=some r.sz:=by rfl) (hg:gst ops σ g=some (true,gk):=by rfl) (hN:Nat.blt d N=true:=by rfl) (hs:aF σ d=true:=by rfl):Der P ops W0 N Fin (⟨some d,.load ty' x,ty,pos,after,g⟩ :: os) us pk fk σ:=
 cr (.d r) (kx x) (fun σ' c a w hk hc=>by
  obtain ⟨b,off,cs,h1,h2,h3,h4⟩:=ap hc (ah hx hk)
  have hl:=Rp.len r cs h3
  cases r with
  | t ds=>exact ⟨.agg cs.toArray,dl (X:=Instr.loadAt ty' (a.eval x)) (by rw [h1];exact eL hA (by rw [hz,hl]) h4),cs,rfl,h3⟩
  | _=>
   obtain ⟨v,rfl⟩:=List.length_eq_one_iff.1 hl
   have hc:=h4 0 v rfl
   rw [Nat.add_zero] at hc
   exact ⟨v,dl (X:=Instr.loadAt ty' (a.eval x)) (by rw [h1];exact gY hA hc),h3⟩) h hg hN hs
theorem aM {x:Operand} {i o:Nat} {cs:List Sy} {s:Sy} (h:Der P ops W0 N Fin os (us++[((d :: (gk++(i :: kx x)))++pk,([d])++fk)]) [] [] ((d,.sy s) :: σ)) (hx:ev σ x=some (.bx i o):=by rfl) (hi:al σ i=some (.tk (.bx cs)):=by rfl) (hc:cs[o]? = some s:=by rfl) (hA:isAgg? P ty'=some false:=by rfl) (hg:gst ops σ g=some (true,gk):=by rfl) (hN:Nat.blt d N=true:=by rfl) (hs:aF σ d=true:=by rfl):Der P ops W0 N Fin (⟨some d,.load ty' x,ty,pos,after,g⟩ :: os) us pk fk σ:=
 cr s (i :: kx x) (fun σ' c a w hk hh=>by
  obtain ⟨hAi,b,h1,h2⟩:=ap hh (ah hx (fun κ hκ=>hk κ (by simp [hκ])))
  obtain ⟨_,⟨b',vs,h3,h4,h5,h6⟩,_⟩:=hh.tok i _ ((hk i (by simp)).trans hi)
  rw [h1] at h3;cases h3
  have key:∀(ss:List Sy) (vs:List Value) (o:Nat) (s:Sy),Sy.oks c w ss vs→ss[o]? = some s→∃v,vs[o]? = some v∧s.ok c w v:=by
   intro ss
   induction ss with
   | nil=>intro vs o s _ h;simp at h
   | cons y ss ih=>
    intro vs o s ⟨v,t,e1,e2,e3⟩ h
    subst e1
    cases o with
    | zero=>simp at h;subst h;exact ⟨v,rfl,e2⟩
    | succ o=>simp at h ⊢;exact ih t o s e3 h
  obtain ⟨v,h7,h8⟩:=key cs vs o s h5 hc
  exact ⟨v,dl (X:=Instr.loadAt ty' (a.eval x)) (by rw [h2];exact gY hA (h6 o v h7).1),h8⟩) h hg hN hs
theorem cS {α:Type} {f:α→D} {l:List α} {x y:Operand} {z e n:Nat} {s:Sy} (h:∀hn:n<l.length,Der P ops W0 N Fin os (us++[((d :: (gk++(kx x++kx y)))++pk,([d])++fk)]) [] [] ((d,.sy (.at (f l[n]))) :: σ)) (hx:ev σ x=some (.d (.l z (l.map f))):=by rfl) (hy:ev σ y=some s:=by rfl) (hi:s.int? = some (n:Int):=by rfl) (he:elem? P ty'=some e:=by rfl) (hz:sizeOf? P e=some z:=by rfl) (hn:n<l.length:=by first|assumption|omega) (hg:gst ops σ g=some (true,gk):=by rfl) (hN:Nat.blt d N=true:=by rfl) (hs:aF σ d=true:=by rfl):Der P ops W0 N Fin (⟨some d,.indexAddr ty' x y,ty,pos,after,g⟩ :: os) us pk fk σ:=
 cr (.at (f l[n])) (kx x++kx y) (fun σ' c a w hk hc=>by
  obtain ⟨ad,k,h1,h2,h3,h4,h5⟩:=ap hc (ah hx (fun κ hκ=>hk κ (by simp [hκ])))
  have h6:=df hi (ap hc (ah hy (fun κ hκ=>hk κ (by simp [hκ]))))
  rcases h5 with h5|⟨b,o,rfl,h7,h8⟩
  ·rw [List.map_eq_nil_iff] at h5;rw [h5] at hn;exact absurd hn (Nat.not_lt_zero _)
  ·obtain ⟨cs,h9,h10,h11⟩:=(gB _ _).1 h8 n (by rw [List.length_map];exact hn)
   rw [List.getElem_map] at h10
   have h1':a.eval x=.slice (some ⟨b,o,none⟩) (l.map f).length k:=by simpa using h1
   exact ⟨_,dl (X:=Instr.indexAt ty' (a.eval x) (a.eval y)) (by rw [h1',h6];exact oM he hz (by rw [List.length_map];exact hn)),b,o+n * z,cs,rfl,h7,h10,h11⟩) (h hn) hg hN hs
theorem cd {l:List Int} {x y:Operand} {e:Nat} {m:Int} {s:Sy} (h:Der P ops W0 N Fin os (us++[((d :: (gk++(kx x++kx y)))++pk,([d])++fk)]) [] [] ((d,.sy (.at (.i (atI l m)))) :: σ)) (hx:ev σ x=some (.d (.l 1 (l.map .i))):=by rfl) (hy:ev σ y=some s:=by rfl) (hi:s.int? = some m:=by rfl) (he:elem? P ty'=some e:=by rfl) (hz:sizeOf? P e=some 1:=by rfl) (hm:0≤m∧m<(l.length:Int):=by first|assumption|(constructor <;> omega)) (hg:gst ops σ g=some (true,gk):=by rfl) (hN:Nat.blt d N=true:=by rfl) (hs:aF σ d=true:=by rfl):Der P ops W0 N Fin (⟨some d,.indexAddr ty' x y,ty,pos,after,g⟩ :: os) us pk fk σ:=by
 obtain ⟨n,rfl⟩:=Int.eq_ofNat_of_zero_le hm.1
 have hn:n<l.length:=by omega
 refine cS (f:=D.i) (l:=l) (n:=n) (z:=1) (fun hn=>?_) hx hy hi he hz hn hg hN hs
 rw [bF l n hn] at h
 exact h
theorem d7 {x:Operand} {z:Nat} {xs:List D} {t e:Nat} (h:Der P ops W0 N Fin os (us++[((d :: (gk++kx x))++pk,([d])++fk)]) [] [] ((d,.sy (.d (.i xs.length))) :: σ)) (hx:ev σ x=some (.d (.l z xs)):=by rfl) (ht:elem? P t=some e:=by rfl) (hg:gst ops σ g=some (true,gk):=by rfl) (hN:Nat.blt d N=true:=by rfl) (hs:aF σ d=true:=by rfl):Der P ops W0 N Fin (⟨some d,.call { callee:=.builtin .len,args:=#[x],argTypes:=#[t] },ty,pos,after,g⟩ :: os) us pk fk σ:=
 cr (.d (.i xs.length)) (kx x) (fun σ' c a w hk hc=>by
  obtain ⟨ad,k,h1,h2,h3,h4,h5⟩:=ap hc (ah hx hk)
  have h1':a.eval x=.slice ad xs.length k:=by simpa using h1
  exact ⟨.int .i64 xs.length,gw ht h1',by simp [Sy.ok,DV,Rp];exact I64.nat (by omega)⟩) h hg hN hs
theorem ch {α:Type} {f:α→D} {l:List α} {x:Operand} {z:Nat} {t e:Nat} (h:Der P ops W0 N Fin os (us++[((d :: (gk++kx x))++pk,([d])++fk)]) [] [] ((d,.sy (.d (.i l.length))) :: σ)) (hx:ev σ x=some (.d (.l z (l.map f))):=by rfl) (ht:elem? P t=some e:=by rfl) (hg:gst ops σ g=some (true,gk):=by rfl) (hN:Nat.blt d N=true:=by rfl) (hs:aF σ d=true:=by rfl):Der P ops W0 N Fin (⟨some d,.call { callee:=.builtin .len,args:=#[x],argTypes:=#[t] },ty,pos,after,g⟩ :: os) us pk fk σ:=
 d7 (by rw [List.length_map];exact h) hx ht hg hN hs
theorem b7 {x:Operand} {z i e':Nat} {xs:List D} {t e:Nat} (h:Der P ops W0 N Fin os (us++[((d :: (gk++(i :: kx x)))++pk,([d])++fk)]) [] [] ((d,.sy (.d (.i xs.length))) :: σ)) (hx:ev σ x=some (.k i):=by rfl) (hi:al σ i=some (.tk (.row z e' xs)):=by rfl) (ht:elem? P t=some e:=by rfl) (hg:gst ops σ g=some (true,gk):=by rfl) (hN:Nat.blt d N=true:=by rfl) (hs:aF σ d=true:=by rfl):Der P ops W0 N Fin (⟨some d,.call { callee:=.builtin .len,args:=#[x],argTypes:=#[t] },ty,pos,after,g⟩ :: os) us pk fk σ:=
 cr (.d (.i xs.length)) (i :: kx x) (fun σ' c a w hk hc=>by
  obtain ⟨_,h1⟩:=ap hc (ah hx (fun κ hκ=>hk κ (by simp [hκ])))
  obtain ⟨_,hT,_⟩:=hc.tok i _ ((hk i (by simp)).trans hi)
  rcases hT with ⟨hd,a',hv⟩|⟨cells,h2,_,_⟩
  ·exact ⟨.int .i64 xs.length,by rw [hd];exact gw ht (h1.trans hv),by rw [hd];exact ⟨rfl,by unfold I64;decide⟩⟩
  rw [← h1] at h2
  rcases h2.2 with ⟨hv,hn⟩|⟨g',cap,cur,hv,_,_,h5,h6,_⟩
  ·exact ⟨.int .i64 xs.length,by rw [hn];exact gw ht hv,by simp [Sy.ok,DV,Rp,hn];unfold I64;decide⟩
  ·exact ⟨.int .i64 xs.length,gw ht hv,by simp [Sy.ok,DV,Rp];exact I64.nat (by omega)⟩) h hg hN hs
theorem bD {x:Operand} {b:ByteArray} {t e:Nat} (h:Der P ops W0 N Fin os (us++[((d :: (gk++kx x))++pk,([d])++fk)]) [] [] ((d,.sy (.d (.i b.size))) :: σ)) (hx:ev σ x=some (.d (.s b)):=by rfl) (ht:P.underlying t=some .string:=by rfl) (hg:gst ops σ g=some (true,gk):=by rfl) (hN:Nat.blt d N=true:=by rfl) (hs:aF σ d=true:=by rfl):Der P ops W0 N Fin (⟨some d,.call { callee:=.builtin .len,args:=#[x],argTypes:=#[t] },ty,pos,after,g⟩ :: os) us pk fk σ:=
 cr (.d (.i b.size)) (kx x) (fun σ' c a w hk hc=>by
  obtain ⟨h1,h2⟩:=ap hc (ah hx hk)
  have h1':a.eval x=.string b:=by simpa using h1
  exact ⟨.int .i64 b.size,D3 ht h1',by simp [Sy.ok,DV,Rp];exact I64.nat (by omega)⟩) h hg hN hs
theorem eF {op:BinOp} {x y:Operand} {ty2:Nat} {s t:Sy} {m n r:Int} (h:Der P ops W0 N Fin os (us++[((d :: (gk++(kx x++kx y)))++pk,([d])++fk)]) [] [] ((d,.sy (.d (.i r))) :: σ)) (hx:ev σ x=some s:=by rfl) (hy:ev σ y=some t:=by rfl) (hm:s.int? = some m:=by rfl) (hn:t.int? = some n:=by rfl) (hr:iop op m n=some r:=by rfl) (hb:I64 r:=by first|assumption|(unfold I64;omega)) (hg:gst ops σ g=some (true,gk):=by rfl) (hN:Nat.blt d N=true:=by rfl) (hs:aF σ d=true:=by rfl):Der P ops W0 N Fin (⟨some d,.binOp op ty' x y ty2,ty,pos,after,g⟩ :: os) us pk fk σ:=
 cr (.d (.i r)) (kx x++kx y) (fun σ' c a w hk hc=>by
  have h1:=df hm (ap hc (ah hx (fun κ hκ=>hk κ (by simp [hκ]))))
  have h2:=df hn (ap hc (ah hy (fun κ hκ=>hk κ (by simp [hκ]))))
  exact ⟨_,GI hr hb h1 h2,by simp [Sy.ok,DV,Rp];exact hb⟩) h hg hN hs
theorem eA {op:BinOp} {x y:Operand} {ty2:Nat} {s t:Sy} {m n:Int} {r:Bool} (h:Der P ops W0 N Fin os (us++[((d :: (gk++(kx x++kx y)))++pk,([d])++fk)]) [] [] ((d,.sy (.d (.b r))) :: σ)) (hx:ev σ x=some s:=by rfl) (hy:ev σ y=some t:=by rfl) (hm:s.int? = some m:=by rfl) (hn:t.int? = some n:=by rfl) (hr:IZ op m n=some r:=by rfl) (hg:gst ops σ g=some (true,gk):=by rfl) (hN:Nat.blt d N=true:=by rfl) (hs:aF σ d=true:=by rfl):Der P ops W0 N Fin (⟨some d,.binOp op ty' x y ty2,ty,pos,after,g⟩ :: os) us pk fk σ:=
 cr (.d (.b r)) (kx x++kx y) (fun σ' c a w hk hc=>by
  have h1:=df hm (ap hc (ah hx (fun κ hκ=>hk κ (by simp [hκ]))))
  have h2:=df hn (ap hc (ah hy (fun κ hκ=>hk κ (by simp [hκ]))))
  exact ⟨_,EN hr h1 h2,by simp [Sy.ok,DV,Rp]⟩) h hg hN hs
theorem bU {op:BinOp} {x y:Operand} {ty2:Nat} {s t:Sy} {m n:ByteArray} {r:Bool} (h:Der P ops W0 N Fin os (us++[((d :: (gk++(kx x++kx y)))++pk,([d])++fk)]) [] [] ((d,.sy (.d (.b r))) :: σ)) (hx:ev σ x=some s:=by rfl) (hy:ev σ y=some t:=by rfl) (hm:s.str? = some m:=by rfl) (hn:t.str? = some n:=by rfl) (hr:Jz op m n=some r:=by rfl) (hg:gst ops σ g=some (true,gk):=by rfl) (hN:Nat.blt d N=true:=by rfl) (hs:aF σ d=true:=by rfl):Der P ops W0 N Fin (⟨some d,.binOp op ty' x y ty2,ty,pos,after,g⟩ :: os) us pk fk σ:=
 cr (.d (.b r)) (kx x++kx y) (fun σ' c a w hk hc=>by
  have h1:=oC hm (ap hc (ah hx (fun κ hκ=>hk κ (by simp [hκ]))))
  have h2:=oC hn (ap hc (ah hy (fun κ hκ=>hk κ (by simp [hκ]))))
  exact ⟨_,Dl hr h1 h2,by simp [Sy.ok,DV,Rp]⟩) h hg hN hs
theorem eU {x:Operand} {s:Sy} {b:Bool} (h:Der P ops W0 N Fin os (us++[((d :: (gk++kx x))++pk,([d])++fk)]) [] [] ((d,.sy (.d (.b (!b)))) :: σ)) (hx:ev σ x=some s:=by rfl) (hb:s.bool? = some b:=by rfl) (hg:gst ops σ g=some (true,gk):=by rfl) (hN:Nat.blt d N=true:=by rfl) (hs:aF σ d=true:=by rfl):Der P ops W0 N Fin (⟨some d,.unOp .not ty' x,ty,pos,after,g⟩ :: os) us pk fk σ:=
 cr (.d (.b (!b))) (kx x) (fun σ' c a w hk hc=>by
  have h1:=oE hb (ap hc (ah hx hk))
  exact ⟨.bool (!b),GP h1,by simp [Sy.ok,DV,Rp]⟩) h hg hN hs
theorem bK {x y z:Operand} {s t u:Sy} {b:Bool} (h:Der P ops W0 N Fin os (us++[((d :: (gk++(kx x++(kx y++kx z))))++pk,([d])++fk)]) [] [] ((d,.sy (bif b then t else u)) :: σ)) (hx:ev σ x=some s:=by rfl) (hb:s.bool? = some b:=by rfl) (hy:ev σ y=some t:=by rfl) (hz:ev σ z=some u:=by rfl) (hg:gst ops σ g=some (true,gk):=by rfl) (hN:Nat.blt d N=true:=by rfl) (hs:aF σ d=true:=by rfl):Der P ops W0 N Fin (⟨some d,.pick x y z,ty,pos,after,g⟩ :: os) us pk fk σ:=
 cr (bif b then t else u) (kx x++(kx y++kx z)) (fun σ' c a w hk hc=>by
  have h1:=oE hb (ap hc (ah hx (fun κ hκ=>hk κ (by simp [hκ]))))
  have h2:=ap hc (ah hy (fun κ hκ=>hk κ (by simp [hκ])))
  have h3:=ap hc (ah hz (fun κ hκ=>hk κ (by simp [hκ])))
  exact ⟨_,EX h1,by cases b <;> assumption⟩) h hg hN hs
theorem eM {x:Operand} {k:Nat} {ss:List Sy} {s:Sy} (h:Der P ops W0 N Fin os (us++[((d :: (gk++kx x))++pk,([d])++fk)]) [] [] ((d,.sy s) :: σ)) (hx:ev σ x=some (.tp ss):=by rfl) (hk':ss[k]? = some s:=by rfl) (hg:gst ops σ g=some (true,gk):=by rfl) (hN:Nat.blt d N=true:=by rfl) (hs:aF σ d=true:=by rfl):Der P ops W0 N Fin (⟨some d,.extract x k,ty,pos,after,g⟩ :: os) us pk fk σ:=
 cr s (kx x) (fun σ' c a w hk hh=>by
  obtain ⟨vs,h1,h2⟩:=ap hh (ah hx hk)
  have key:∀(ss:List Sy) (vs:List Value) (o:Nat) (s:Sy),Sy.oks c w ss vs→ss[o]? = some s→∃v,vs[o]? = some v∧s.ok c w v:=by
   intro ss
   induction ss with
   | nil=>intro vs o s _ h;simp at h
   | cons y ss ih=>
    intro vs o s ⟨v,t,e1,e2,e3⟩ h
    subst e1
    cases o with
    | zero=>simp at h;subst h;exact ⟨v,rfl,e2⟩
    | succ o=>simp at h ⊢;exact ih t o s e3 h
  obtain ⟨v,h3,h4⟩:=key ss vs k s h2 hk'
  exact ⟨v,Fz h1 h3,h4⟩) h hg hN hs
end
end Go.Proofs.YtnobdioccfeokaaGreatDoor
namespace Go.Proofs.YtnobdioccfeokaaGreatDoor
open Go.RowKit
set_option linter.unusedVariables false
set_option linter.unusedSimpArgs false
mutual
theorem Rp.one {w:World} {S:BS}:∀(d:D) (cs:List Value),Rp w S d cs→∀u∈cs,u.oneCell'=true
 | .i n,cs,r=>by rw [r.1];simp [Value.oneCell']
 | .s b,cs,r=>by rw [r.1];simp [Value.oneCell']
 | .b x,cs,r=>by rw [show cs = [.bool x] from r];simp [Value.oneCell']
 | .l z xs,cs,r=>by obtain ⟨a,k,h,_⟩:=r;rw [h];simp [Value.oneCell']
 | .t ds,cs,r=>RpL.one ds cs r
 | .n _,cs,r=>by obtain ⟨a,h⟩:=r;rw [h];simp [Value.oneCell']
 | .p d,cs,r=>by obtain ⟨b,o,us,h,_⟩:=r;rw [h];simp [Value.oneCell']
 | .f g ds,cs,r=>by obtain ⟨vs,h,_⟩:=r;rw [h];simp [Value.oneCell']
 | .any,cs,r=>by obtain ⟨v,h,h'⟩:=r;rw [h];simp [h']
 | .c x,cs,r=>by rw [r.1];simp [r.2]
theorem RpL.one {w:World} {S:BS}:∀(ds:List D) (cs:List Value),RpL w S ds cs→∀u∈cs,u.oneCell'=true
 | [],cs,r=>by rw [show cs = [] from r];simp
 | d :: ds,cs,⟨c,e,h1,h2,h3⟩=>by
  intro u hu
  rw [h1] at hu
  rcases List.mem_append.1 hu with hu|hu
  ·exact Rp.one d c h2 u hu
  ·exact RpL.one ds e h3 u hu
end
theorem lL {v:Value} (h:v.oneCell'=true):v.cells = [v].toArray:=by cases v <;> first|rfl|simp [Value.oneCell'] at h
theorem DV.cells {w:World} {S:BS} {r:D} {v:Value} (h:DV w S r v):∃cs:List Value,v.cells=cs.toArray∧Rp w S r cs∧(isT r=true→v=.agg cs.toArray)∧(isT r=false→cs = [v]):=by
 cases r with
 | t ds=>obtain ⟨cs,rfl,h⟩:=h;exact ⟨cs,rfl,h,fun _=>rfl,fun h=>(by cases h)⟩
 | i n=>exact ⟨[v],by obtain ⟨h,_⟩:=h;cases h;rfl,h,fun h=>(by cases h),fun _=>rfl⟩
 | s n=>exact ⟨[v],by obtain ⟨h,_⟩:=h;cases h;rfl,h,fun h=>(by cases h),fun _=>rfl⟩
 | b n=>exact ⟨[v],by have h' : [v] = [Value.bool n]:=h;cases h';rfl,h,fun h=>(by cases h),fun _=>rfl⟩
 | l z xs=>exact ⟨[v],by obtain ⟨a,k,h,_⟩:=h;cases h;rfl,h,fun h=>(by cases h),fun _=>rfl⟩
 | n z=>exact ⟨[v],by obtain ⟨a,h⟩:=h;cases h;rfl,h,fun h=>(by cases h),fun _=>rfl⟩
 | any=>exact ⟨[v],by obtain ⟨u,h,h'⟩:=h;cases h;exact lL h',h,fun h=>(by cases h),fun _=>rfl⟩
 | c x=>exact ⟨[v],by obtain ⟨h,h'⟩:=h;cases h;exact lL h',h,fun h=>(by cases h),fun _=>rfl⟩
 | p d=>exact ⟨[v],by obtain ⟨b,o,us,h,_⟩:=h;cases h;rfl,h,fun h=>(by cases h),fun _=>rfl⟩
 | f g ds=>exact ⟨[v],by obtain ⟨vs,h,_⟩:=h;cases h;rfl,h,fun h=>(by cases h),fun _=>rfl⟩
mutual
def ij:D→List Sy
 | .t ds=>kI ds
 | d=>[.d d]
def kI:List D→List Sy
 | []=>[]
 | d :: ds=>ij d++kI ds
end
theorem ln {c:Cx} {w:World}:∀(ss ts:List Sy) (us vs:List Value),Sy.oks c w ss us→Sy.oks c w ts vs→Sy.oks c w (ss++ts) (us++vs):=by
 intro ss
 induction ss with
 | nil=>intro ts us vs h1 h2;rw [show us = [] from h1];exact h2
 | cons s ss ih=>
  intro ts us vs ⟨y,t,e1,e2,e3⟩ h2
  subst e1
  exact ⟨y,t++vs,rfl,e2,ih ts t vs e3 h2⟩
mutual
theorem vf {c:Cx} {w:World}:∀(d:D) (cs:List Value),Rp w c.F d cs→Sy.oks c w (ij d) cs
 | .i n,cs,r=>⟨_,[],r.1,⟨rfl,r.2⟩,rfl⟩
 | .s b,cs,r=>⟨_,[],r.1,⟨rfl,r.2⟩,rfl⟩
 | .b x,cs,r=>⟨.bool x,[],r,rfl,rfl⟩
 | .l z xs,cs,r=>by
  obtain ⟨a,k,h,h'⟩:=id r
  subst h
  exact ⟨_,[],rfl,r,rfl⟩
 | .t ds,cs,r=>kA ds cs r
 | .n z,cs,⟨a,r⟩=>⟨.slice a 0 0,[],r,⟨a,rfl⟩,rfl⟩
 | .p d,cs,r=>by
  obtain ⟨b,o,us,h,h'⟩:=id r
  subst h
  exact ⟨_,[],rfl,r,rfl⟩
 | .f g ds,cs,r=>by
  obtain ⟨vs,h,h'⟩:=id r
  subst h
  exact ⟨_,[],rfl,r,rfl⟩
 | .any,cs,r=>by
  obtain ⟨v,h,h'⟩:=id r
  subst h
  exact ⟨_,[],rfl,r,rfl⟩
 | .c x,cs,r=>⟨_,[],r.1,⟨rfl,r.2⟩,rfl⟩
theorem kA {c:Cx} {w:World}:∀(ds:List D) (cs:List Value),RpL w c.F ds cs→Sy.oks c w (kI ds) cs
 | [],cs,r=>r
 | d :: ds,cs,⟨u,e,h1,h2,h3⟩=>by subst h1;exact ln _ _ _ _ (vf d u h2) (kA ds e h3)
end
theorem cM {c:Cx} {w:World}:∀(ss:List Sy) (us:List Value),Sy.oks c w ss us→us.length=ss.length:=by
 intro ss
 induction ss with
 | nil=>intro us h;rw [show us = [] from h];rfl
 | cons s ss ih=>intro us ⟨y,t,e1,e2,e3⟩;rw [e1,List.length_cons,List.length_cons,ih t e3]
theorem jY {c:Cx} {w:World}:∀(ss:List Sy) (us:List Value) (o:Nat) (s:Sy) (v:Value),Sy.oks c w ss us→s.ok c w v→Sy.oks c w (ss.set o s) (us.set o v):=by
 intro ss
 induction ss with
 | nil=>intro us o s v h _;rw [show us = [] from h];exact rfl
 | cons x ss ih=>
  intro us o s v ⟨y,t,e1,e2,e3⟩ hv
  subst e1
  cases o with
  | zero=>exact ⟨v,t,rfl,hv,e3⟩
  | succ o=>exact ⟨y,t.set o v,rfl,e2,ih t o s v e3 hv⟩
def zd (P:Program):Nat→Nat→Option D
 | 0,_=>none
 | n+1,ty=>match P.underlying ty with
  | some (.int .i64)=>some (.i 0)
  | some .string=>some (.s ⟨#[]⟩)
  | some .bool=>some (.b false)
  | some (.slice e)=>(sizeOf? P e).map fun z=>.n z
  | some (.struct fs)=>(fs.toList.mapM fun f=>zd P n f.type).map .t
  | some (.array m e)=>(zd P n e).map fun z=>.t (List.replicate m z)
  | _=>none
mutual
def zok:D→List Value→Bool
 | .i n,cs=>match cs with | [.int .i64 m]=>decide (n=m) && (decide (-9223372036854775808≤n) && decide (n≤9223372036854775807))|_=>false
 | .s b,cs=>match cs with | [.string c]=>decide (b=c) && Nat.ble b.size maxLen|_=>false
 | .b x,cs=>match cs with | [.bool y]=>x == y|_=>false
 | .l z xs,cs=>match xs,cs with | [],[.slice none 0 0]=>true|_,_=>false
 | .t ds,cs=>Ie ds cs
 | .n _,cs=>match cs with | [.slice none 0 0]=>true|_=>false
 | .p _,_=>false
 | .f _ _,_=>false
 | .any,_=>false
 | .c _,_=>false
def Ie:List D→List Value→Bool
 | [],cs=>cs.isEmpty
 | d :: ds,cs=>zok d (cs.take d.sz) && Ie ds (cs.drop d.sz)
end
mutual
theorem n7 {w:World} {S:BS}:∀(d:D) (cs:List Value),zok d cs=true→Rp w S d cs
 | .i n,cs,h=>by
  unfold zok at h
  split at h
  ·simp only [Bool.and_eq_true,decide_eq_true_eq] at h
   exact ⟨by rw [h.1],h.2⟩
  ·cases h
 | .s b,cs,h=>by
  unfold zok at h
  split at h
  ·simp only [Bool.and_eq_true,decide_eq_true_eq] at h
   exact ⟨by rw [h.1],Nat.le_of_ble_eq_true h.2⟩
  ·cases h
 | .b x,cs,h=>by
  unfold zok at h
  split at h
  ·rw [beq_iff_eq] at h;rw [h];exact rfl
  ·cases h
 | .l z xs,cs,h=>by
  unfold zok at h
  split at h
  ·exact ⟨none,0,rfl,Nat.le_refl _,by decide,fun _=>rfl,.inl rfl⟩
  ·cases h
 | .t ds,cs,h=>Cv ds cs (by unfold zok at h;exact h)
 | .n z,cs,h=>by
  unfold zok at h
  split at h
  ·exact ⟨none,rfl⟩
  ·cases h
 | .p d,cs,h=>by cases h
 | .f g ds,cs,h=>by cases h
 | .any,cs,h=>by cases h
 | .c _,cs,h=>by cases h
theorem Cv {w:World} {S:BS}:∀(ds:List D) (cs:List Value),Ie ds cs=true→RpL w S ds cs
 | [],cs,h=>by unfold Ie at h;exact List.isEmpty_iff.1 h
 | d :: ds,cs,h=>by
  unfold Ie at h
  rw [Bool.and_eq_true] at h
  exact ⟨_,_,(List.take_append_drop d.sz cs).symm,n7 d _ h.1,Cv ds _ h.2⟩
end
def rh (P:Program) (ty:Nat):Option Value:=(P.info? ty).bind (·.zero)
theorem RpR.news {w:World} {S:BS} {z b:Nat}:∀(ds:List D) (o:Nat),RpR w S z b o ds→∃news:List Value,news.length=ds.length * z∧bA w b o news∧(∀u∈news,u.oneCell'=true) ∧
 ∀i (h:i<ds.length),∃cs,cs.length=z∧Rp w S ds[i] cs∧∀t u,cs[t]? = some u→news[i * z+t]? = some u:=by
 intro ds
 induction ds with
 | nil=>intro o _;exact ⟨[],by simp,fun j u h=>by simp at h,by simp,fun i h=>absurd h (Nat.not_lt_zero _)⟩
 | cons d ds ih=>
  intro o ⟨⟨cs,h1,h2,h3⟩,h4⟩
  obtain ⟨news,n1,n2,n3,n4⟩:=ih _ h4
  refine ⟨cs++news,by rw [List.length_append,h1,n1,List.length_cons,Nat.add_mul];omega,fun j u hj=>?_,fun u hu=>?_,fun i hi=>?_⟩
  ·rcases Nat.lt_or_ge j cs.length with h|h
   ·rw [List.getElem?_append_left h] at hj;exact h3 j u hj
   ·rw [List.getElem?_append_right h] at hj
    have:=n2 _ u hj
    rw [show o+z+(j - cs.length)=o+j by omega] at this;exact this
  ·rcases List.mem_append.1 hu with hu|hu
   ·exact Rp.one _ _ h2 u hu
   ·exact n3 u hu
  ·cases i with
   | zero=>
    refine ⟨cs,h1,h2,fun t u ht=>?_⟩
    rw [Nat.zero_mul,Nat.zero_add,List.getElem?_append_left]
    ·exact ht
    ·rcases Nat.lt_or_ge t cs.length with h|h
     ·exact h
     ·rw [List.getElem?_eq_none h] at ht;cases ht
   | succ i=>
    obtain ⟨cs',m1,m2,m3⟩:=n4 i (by simpa using hi)
    refine ⟨cs',m1,m2,fun t u ht=>?_⟩
    rw [List.getElem?_append_right (by rw [h1,Nat.add_mul];omega)]
    have:=m3 t u ht
    rw [show (i+1) * z+t - cs.length=i * z+t by rw [h1,Nat.add_mul];omega];exact this
section
variable {P:Program} {ρ:Operand→Value} {w:World} {d g:_} {ty ty':Nat} {pos:String} {after:Array Edge} {x y z:Operand}
theorem A9 {cs:List Value} (h:(ρ x).cells=cs.toArray):(execOp ρ ⟨d,.box ty' x,ty,pos,after,g⟩).run P w=.ok (.value (.pointer (some ⟨w.heap.size,0,none⟩))) (w.alloc (.cells cs.toArray ty')):=by
 refine dl (X:=Instr.box ty' (ρ x)) ?_
 unfold Instr.box newVar newRow
 rw [h];rfl
theorem yk {v:Value} {cs:List Value} (hz:rh P ty'=some v) (h:v.cells=cs.toArray):(execOp ρ ⟨d,.alloc ty',ty,pos,after,g⟩).run P w=.ok (.value (.pointer (some ⟨w.heap.size,0,none⟩))) (w.alloc (.cells cs.toArray ty')):=by
 unfold rh at hz
 rw [Option.bind_eq_some_iff] at hz
 obtain ⟨i,hi,hz⟩:=hz
 have hzv:(zeroValue ty').run P w=.ok v w:=by simp [zeroValue,typeInfo,hi,hz,go_sem]
 refine dl (X:=Instr.alloc ty' true (.tuple #[])) ?_
 unfold Instr.alloc
 rw [Sem.run_bind,hzv]
 unfold newVar newRow
 simp only [Result.andThen_ok]
 rw [h];rfl
theorem Eg {e n:Nat} (he:elem? P ty'=some e) (hz:sizeOf? P e=some n):(execOp ρ ⟨d,.buildSlice ty' 0 #[],ty,pos,after,g⟩).run P w=.ok (.value (.slice (some ⟨w.heap.size,0,none⟩) 0 0)) (w.alloc (.cells #[] e)):=by
 replace hz:=cY hz
 rw [Option.map_eq_some_iff] at hz
 obtain ⟨i,hi,hz⟩:=hz
 simp [execOp,Instr.buildSlice,run_underlying (dE he),sizeOf,typeInfo,hi,Instr.fill,newRow,go_sem]
theorem B0 {cs:List Value}:∀(n o:Nat) (pre:List Value) (old:List Value),pre.length=n→old.length=cs.length→o=n→((cs.zipIdx 0).foldl (fun (c:Array Value) (p:Value × Nat)=>c.setIfInBounds (o+p.2) p.1) (pre++old).toArray)=(pre++cs).toArray:=by
 have key:∀(cs:List Value) (k n:Nat) (pre old:List Value),pre.length=n+k→old.length=cs.length→((cs.zipIdx k).foldl (fun (c:Array Value) (p:Value × Nat)=>c.setIfInBounds (n+p.2) p.1) (pre++old).toArray)=(pre++cs).toArray:=by
  intro cs
  induction cs with
  | nil=>intro k n pre old h1 h2;rw [List.eq_nil_of_length_eq_zero h2];rfl
  | cons c cs ih=>
   intro k n pre old h1 h2
   cases old with
   | nil=>simp at h2
   | cons x old=>
    rw [List.zipIdx_cons,List.foldl_cons]
    have e:(pre++x :: old).toArray.setIfInBounds (n+k) c=((pre++[c])++old).toArray:=by
     simp only [List.setIfInBounds_toArray]
     rw [List.set_append_right _ _ (by omega),show n+k - pre.length=0 by omega,List.set_cons_zero]
     simp
    dsimp only
    rw [e,ih (k+1) n (pre++[c]) old (by simp;omega) (by simpa using h2)]
    simp
 intro n o pre old h1 h2 h3
 exact key cs 0 o pre old (by omega) h2
theorem rH {e n:Nat} {v:Value} {cs zs:List Value} (he:elem? P ty'=some e) (hz:sizeOf? P e=some n) (hzv:rh P e=some v) (hzs:v.cells.size=n) (hn:0<n∧n≤1000) (hx:(ρ x).cells=cs.toArray) (hl:cs.length=n):(execOp ρ ⟨d,.buildSlice ty' 1 #[(0,x)],ty,pos,after,g⟩).run P w=.ok (.value (.slice (some ⟨w.heap.size,0,none⟩) 1 1)) (w.alloc (.cells cs.toArray e)):=by
 replace hz:=cY hz
 rw [Option.map_eq_some_iff] at hz
 obtain ⟨i,hi,hz⟩:=hz
 unfold rh at hzv
 rw [hi] at hzv
 simp only [Option.bind_some] at hzv
 have h1:¬(n > 2 ^ 24):=Nat.not_lt.2 (Nat.le_trans hn.2 (Nat.le_of_ble_eq_true rfl))
 have h2:¬n=0:=by omega
 have hf:(cs.zipIdx.foldl (fun (c:Array Value) (p:Value × Nat)=>c.setIfInBounds (0+p.2) p.1) ((Array.range n).map (v.cells[· % v.cells.size]!)))=cs.toArray:=by
  rw [show ((Array.range n).map (v.cells[· % v.cells.size]!))=(([]:List Value)++((Array.range n).map (v.cells[· % v.cells.size]!)).toList).toArray by rw [List.nil_append,Array.toArray_toList]]
  exact B0 0 0 [] _ rfl (by simp [hl]) rfl
 have hf':Instr.fill (fun i=>some (i * n,n)) ((Array.range n).map (v.cells[· % v.cells.size]!)) [(0,ρ x)]=some cs.toArray:=by
  unfold Instr.fill
  simp only [Nat.zero_mul,hx]
  rw [if_neg (by simp [hl])]
  unfold Instr.fill
  have hz2:cs.toArray.zipIdx=(cs.zipIdx).toArray:=by simp
  rw [hz2,List.foldl_toArray]
  exact congrArg some hf
 have hs:(sizeOf e).run P w=.ok n w:=by simp [sizeOf,typeInfo,hi,hz,go_sem]
 have hzr:(zeroValue e).run P w=.ok v w:=by simp [zeroValue,typeInfo,hi,hzv,go_sem]
 unfold execOp
 simp only [List.map_toArray,List.map_cons,List.map_nil]
 refine dl (X:=Instr.buildSlice ty' 1 #[(0,ρ x)]) ?_
 unfold Instr.buildSlice
 rw [Sem.run_bind,run_underlying (dE he)]
 simp only [Result.andThen_ok,Sem.run_bind,hs,Nat.one_mul]
 rw [if_neg h1]
 simp only [Result.andThen_ok,Sem.run_bind,Sem.run_pure,if_neg h2,hzr,hf',newRow,run_newObj_alloc]
theorem tR {X:Sem Unit} {w':World} (h:X.run P w=.ok () w'):(do X;pure Next.skip:Sem Next).run P w=.ok .skip w':=by
 rw [Sem.run_bind,h];rfl
theorem fu {b o:Nat} {v u:Value} (hA:sizeOf? P ty'=some 1) (h1:v.oneCell'=true) (hc:w.cell? ⟨b,o,none⟩=some u) (hf:w.frozen? ⟨b,o,none⟩=false) (hx:ρ x=.pointer (some ⟨b,o,none⟩)) (hy:ρ y=v):(execOp ρ ⟨d,.store ty' x y,ty,pos,after,g⟩).run P w=.ok .skip (w.setCell ⟨b,o,none⟩ v):=by
 replace hA:=cY hA
 rw [Option.map_eq_some_iff] at hA
 obtain ⟨i,hi,hz⟩:=hA
 have hcs:v.cells = #[v]:=by cases v <;> first|rfl|simp [Value.oneCell'] at h1
 have hs:(sizeOf ty').run P w=.ok 1 w:=by simp [sizeOf,typeInfo,hi,hz,go_sem]
 have hst:(store ⟨b,o,none⟩ v).run P w=.ok () (w.setCell ⟨b,o,none⟩ v):=by
  rw [run_store P w _ v _ h1,hc]
  dsimp only
  rw [hf];rfl
 refine tR (X:=Instr.storeAt ty' (ρ x) (ρ y)) ?_
 rw [hx,hy]
 simp only [Instr.storeAt,Instr.sureAddr,storeVar,Sem.run_bind,Sem.run_pure,Result.andThen_ok,hcs,hs]
 rw [if_neg (by simp)]
 simp only [storeCells,Addr.add,Sem.run_bind,Sem.run_pure,Result.andThen_ok,if_true,hst]
end
end Go.Proofs.YtnobdioccfeokaaGreatDoor
namespace Go.Proofs.YtnobdioccfeokaaGreatDoor
open Go.RowKit
set_option linter.unusedVariables false
set_option linter.unusedSimpArgs false
inductive Pt where
 | d (r:D)
 | tk (t:Tk)
def Tk.rowB:Tk→Bool
 | .row _ _ _=>true
 | .deep _ _ _ ps=>ps.isEmpty
 | .own (.l _ _) none none=>true
 | .grw _ _ _=>true
 | _=>false
def Cx.of (G:BS):Cx:=⟨G,fun _=>undef,fun _ _=>False,fun _=>False⟩
def Pt.ok (w:World) (G S:BS):Pt→Value→Prop
 | .d r,v=>isT r=false∧DV w G r v
 | .tk t,v=>t.rowB=true∧t.ok (Cx.of G) w v S
inductive Ro where
 | d (r:D)
 | row (z e:Nat) (ds:List D)
 | tp (rs:List D)
 | st (ps:List Pt)
def fresh (w w':World) (F:BS):BS:=fun b=>F b∨(w.heap.size≤b∧b<w'.heap.size)
def DVs (w:World) (S:BS):List D→List Value→Prop
 | [],vs=>vs = []
 | r :: rs,vs=>∃v t,vs=v :: t∧DV w S r v∧DVs w S rs t
def Ro.ok (w w':World) (F:BS):Ro→Value→Prop
 | .d r,v=>DV w' (fresh w w' F) r v
 | .row z e ds,v=>(ds = []∧∃a,v=.slice a 0 0)∨∃cells,w'.ownsRow w.heap.size e z v ds.length cells∧∀j (h:j<ds.length),∃cs,cs.length=z∧Rp w' (fun b=>fresh w w' F b∧v.ownBlock≠some b) ds[j] cs∧∀t u,cs[t]? = some u→cells[j * z+t]? = some u
 | .tp rs,v=>∃vs:List Value,v=.tuple vs.toArray∧DVs w' (fresh w w' F) rs vs
 | .st ps,v=>∃(vs:List Value) (T:Nat→BS),v=.agg vs.toArray∧vs.length=ps.length∧(∀i b,T i b→w.heap.size≤b∧b<w'.heap.size)∧(∀i j,i≠j→∀b,T i b→¬T j b)∧∀(i:Nat) (p:Pt),ps[i]? = some p→∃u,vs[i]? = some u∧p.ok w' (fun b=>fresh w w' F b∧∀j,¬T j b) (T i) u
structure FnD (P:Program) (f:FuncId) (ds:List D) (r:Ro):Prop where
 enter:∀args w,(callFunc f args).run P w=.ok (.enter f args) w
 calls:∀(F:BS) (w:World) (vs:List Value),DVs w F ds vs→(∀b,F b→b<w.heap.size)→Calls P f vs.toArray w fun e w'=>∃v,e=.returned v∧Ext w w'∧r.ok w w' F v
def evs (σ:Env):List Operand→Option (List D)
 | []=>some []
 | x :: xs=>match (ev σ x).bind Sy.arg,evs σ xs with
  | some r,some rs=>some (r :: rs)
  | _,_=>none
def kxs:List Operand→List Nat
 | []=>[]
 | x :: xs=>kx x++kxs xs
theorem kR {W0:cz} {N:Nat} {a:Act} {w:World} {c:Cx} {σ σ':Env} (h:aE W0 N σ' a w c):∀(xs:List Operand) (ds:List D),evs σ xs=some ds→(∀κ∈kxs xs,al σ' κ=al σ κ)→DVs w c.F ds (xs.map a.eval):=by
 intro xs
 induction xs with
 | nil=>intro ds he _;cases he;exact rfl
 | cons x xs ih=>
  intro ds he hk
  unfold evs at he
  split at he
  ·rename_i r rs h1 h2
   cases he
   rw [Option.bind_eq_some_iff] at h1
   obtain ⟨s,h3,h4⟩:=h1
   exact ⟨_,_,rfl,Ax h4 (ap h (ah h3 (fun κ hκ=>hk κ (by simp [kxs,hκ])))),ih rs h2 (fun κ hκ=>hk κ (by simp [kxs,hκ]))⟩
  ·cases he
section
variable {P:Program} {ρ:Operand→Value} {w:World} {d g:_} {ty ty' f:Nat} {pos:String} {after:Array Edge} {xs:List Operand} {at':Array TypeId}
end
section
variable {P:Program} {ops:Array Oper} {W0:cz} {N:Nat} {Fin:Us→Env→Prop} {os:List Oper} {us:Us} {pk fk:List Nat} {σ:Env} {g:Option (Nat × Bool)} {gk:List Nat} {d ty ty':Nat} {pos:String} {after:Array Edge}
theorem eD {x:Operand} {r:D} (h:Der P ops W0 N Fin os (us++[((d :: (gk++((10000+d) :: kx x)))++pk,([d,10000+d])++fk)]) [] [] ((d,.sy (.bx (10000+d) 0)) :: (10000+d,.tk (.bx (ij r))) :: σ)) (hx:(ev σ x).bind Sy.dat=some r:=by rfl) (hi:al σ (10000+d)=none:=by rfl) (hg:gst ops σ g=some (true,gk):=by rfl) (hN:Nat.blt d N=true:=by rfl) (hs:aF ((10000+d,.tk (.bx (ij r))) :: σ) d=true:=by rfl) (hu:Nat.beq (10000+d) d=false:=by rfl):Der P ops W0 N Fin (⟨some d,.box ty' x,ty,pos,after,g⟩ :: os) us pk fk σ:=
 jy (.bx (10000+d) 0) ((10000+d) :: kx x) [(10000+d,.tk (.bx (ij r)))] (fun σ' c a w hk hc=>by
  rw [Option.bind_eq_some_iff] at hx
  obtain ⟨s,hx1,hx2⟩:=hx
  have hv:=jA hx2 (ap hc (ah hx1 (fun κ hκ=>hk κ (by simp [hκ]))))
  obtain ⟨cs,h1,h2,_⟩:=hv.cells
  unfold Oper.wp
  rw [A9 h1]
  have hX:Ext w (w.alloc (.cells cs.toArray ty')):=(Ext.refl w).alloc _
  have hc1:=hc.grow hX c.F (fun _ h=>h) (fun _ h=>.inl h) (fun b hb=>Nat.lt_of_lt_of_le (hc.lt b hb) (Below.size hX))
  have hr2:Rp (w.alloc (.cells cs.toArray ty')) c.F r cs:=Rp.keep (fun _ h=>h) (fun b _ hl=>hX.block b hl) _ _ h2
  refine ⟨_,_,rfl,hc1.new (i:=10000+d) (t:=.bx (ij r)) (v:=.pointer (some ⟨w.heap.size,0,none⟩)) (S:=fun b=>b=w.heap.size) ((hk _ (by simp)).trans hi) ⟨w.heap.size,cs,rfl,rfl,vf r cs hr2,ey.new w ty' cs _ rfl⟩ (fun b hb=>⟨fun hF=>?_,?_⟩) (fun j u hj b hb hT=>?_),?_⟩
  ·subst hb;exact absurd (hc.lt _ hF) (Nat.lt_irrefl _)
  ·subst hb;exact ⟨by simp,.inr hc.ext.size⟩
  ·subst hb;exact absurd ((hc.tok j u hj).2.2 _ hT).2.1 (Nat.lt_irrefl _)
  ·exact ⟨.inr rfl,w.heap.size,if_pos rfl,rfl⟩) h hg hN hs (by simp [hu])
theorem aO {r:D} {v:Value} (h:Der P ops W0 N Fin os (us++[((d :: (gk++[10000+d]))++pk,([d,10000+d])++fk)]) [] [] ((d,.sy (.bx (10000+d) 0)) :: (10000+d,.tk (.bx (ij r))) :: σ)) (hr:zd P 4 ty'=some r:=by rfl) (hv:rh P ty'=some v:=by rfl) (hz:zok r v.cells.toList=true:=by rfl) (hi:al σ (10000+d)=none:=by rfl) (hg:gst ops σ g=some (true,gk):=by rfl) (hN:Nat.blt d N=true:=by rfl) (hs:aF ((10000+d,.tk (.bx (ij r))) :: σ) d=true:=by rfl) (hu:Nat.beq (10000+d) d=false:=by rfl):Der P ops W0 N Fin (⟨some d,.alloc ty',ty,pos,after,g⟩ :: os) us pk fk σ:=
 jy (.bx (10000+d) 0) [10000+d] [(10000+d,.tk (.bx (ij r)))] (fun σ' c a w hk hc=>by
  obtain ⟨cs,hcs⟩:∃cs:List Value,v.cells.toList=cs:=⟨_,rfl⟩
  rw [hcs] at hz
  have h1:v.cells=cs.toArray:=by rw [← hcs]
  unfold Oper.wp
  rw [yk hv h1]
  have hX:Ext w (w.alloc (.cells cs.toArray ty')):=(Ext.refl w).alloc _
  have hc1:=hc.grow hX c.F (fun _ h=>h) (fun _ h=>.inl h) (fun b hb=>Nat.lt_of_lt_of_le (hc.lt b hb) (Below.size hX))
  refine ⟨_,_,rfl,hc1.new (i:=10000+d) (t:=.bx (ij r)) (v:=.pointer (some ⟨w.heap.size,0,none⟩)) (S:=fun b=>b=w.heap.size) ((hk _ (by simp)).trans hi) ⟨w.heap.size,cs,rfl,rfl,vf r cs (n7 r cs hz),ey.new w ty' cs _ rfl⟩ (fun b hb=>⟨fun hF=>?_,?_⟩) (fun j u hj b hb hT=>?_),?_⟩
  ·subst hb;exact absurd (hc.lt _ hF) (Nat.lt_irrefl _)
  ·subst hb;exact ⟨by simp,.inr hc.ext.size⟩
  ·subst hb;exact absurd ((hc.tok j u hj).2.2 _ hT).2.1 (Nat.lt_irrefl _)
  ·exact ⟨.inr rfl,w.heap.size,if_pos rfl,rfl⟩) h hg hN hs (by simp [hu])
theorem cf {e n:Nat} (h:Der P ops W0 N Fin os (us++[((d :: (gk++[10000+d]))++pk,([d,10000+d])++fk)]) [] [] ((d,.sy (.k (10000+d))) :: (10000+d,.tk (.row n e [])) :: σ)) (he:elem? P ty'=some e:=by rfl) (hz:sizeOf? P e=some n:=by rfl) (hi:al σ (10000+d)=none:=by rfl) (hg:gst ops σ g=some (true,gk):=by rfl) (hN:Nat.blt d N=true:=by rfl) (hs:aF ((10000+d,.tk (.row n e [])) :: σ) d=true:=by rfl) (hu:Nat.beq (10000+d) d=false:=by rfl):Der P ops W0 N Fin (⟨some d,.buildSlice ty' 0 #[],ty,pos,after,g⟩ :: os) us pk fk σ:=
 jy (.k (10000+d)) [10000+d] [(10000+d,.tk (.row n e []))] (fun σ' c a w hk hc=>by
  unfold Oper.wp
  rw [Eg he hz]
  have hX:Ext w (w.alloc (.cells #[] e)):=(Ext.refl w).alloc _
  have hc1:=hc.grow hX c.F (fun _ h=>h) (fun _ h=>.inl h) (fun b hb=>Nat.lt_of_lt_of_le (hc.lt b hb) (Below.size hX))
  refine ⟨_,_,rfl,hc1.new (i:=10000+d) (t:=.row n e []) (v:=.slice (some ⟨w.heap.size,0,none⟩) 0 0) (S:=fun b=>b=w.heap.size) ((hk _ (by simp)).trans hi) (.inr ⟨[],World.ownsRow_made w #[] 0 (Nat.zero_le _) (by decide) (by simp),fun g hg=>by simpa [Value.ownBlock] using hg.symm,fun j hj=>absurd hj (Nat.not_lt_zero _)⟩) (fun b hb=>⟨fun hF=>?_,?_⟩) (fun j u hj b hb hT=>?_),?_⟩
  ·subst hb;exact absurd (hc.lt _ hF) (Nat.lt_irrefl _)
  ·subst hb;exact ⟨by simp,.inr hc.ext.size⟩
  ·subst hb;exact absurd ((hc.tok j u hj).2.2 _ hT).2.1 (Nat.lt_irrefl _)
  ·exact ⟨.inr rfl,(if_pos rfl).symm⟩) h hg hN hs (by simp [hu])
theorem eO {x:Operand} {e:Nat} {r:D} {v:Value} (h:Der P ops W0 N Fin os (us++[((d :: (gk++kx x))++pk,([d])++fk)]) [] [] ((d,.sy (.d (.l r.sz [r]))) :: σ)) (hx:(ev σ x).bind Sy.dat=some r:=by rfl) (he:elem? P ty'=some e:=by rfl) (hz:sizeOf? P e=some r.sz:=by rfl) (hv:rh P e=some v:=by rfl) (hvs:v.cells.size=r.sz:=by rfl) (hn:(Nat.blt 0 r.sz && Nat.ble r.sz 1000)=true:=by rfl) (hg:gst ops σ g=some (true,gk):=by rfl) (hN:Nat.blt d N=true:=by rfl) (hs:aF σ d=true:=by rfl):Der P ops W0 N Fin (⟨some d,.buildSlice ty' 1 #[(0,x)],ty,pos,after,g⟩ :: os) us pk fk σ:=
 jy (.d (.l r.sz [r])) (kx x) [] (fun σ' c a w hk hc=>by
  rw [Option.bind_eq_some_iff] at hx
  obtain ⟨s,hx1,hx2⟩:=hx
  have hv':=jA hx2 (ap hc (ah hx1 (fun κ hκ=>hk κ (by simp [hκ]))))
  obtain ⟨cs,h1,h2,_⟩:=hv'.cells
  rw [Bool.and_eq_true] at hn
  unfold Oper.wp
  rw [rH (zs:=[]) he hz hv hvs ⟨Nat.blt_eq.mp hn.1,Nat.le_of_ble_eq_true hn.2⟩ h1 (Rp.len _ _ h2)]
  have hX:Ext w (w.alloc (.cells cs.toArray e)):=(Ext.refl w).alloc _
  have hc1:=hc.grow hX (fun b=>c.F b∨b=w.heap.size) (fun _ h=>.inl h) (fun _ h=>h.imp id (fun h=>by omega)) (fun b hb=>by
   rcases hb with hb|hb
   ·exact Nat.lt_of_lt_of_le (hc.lt b hb) (Below.size hX)
   ·subst hb;simp)
  refine ⟨_,_,rfl,hc1,some ⟨w.heap.size,0,none⟩,1,rfl,Nat.le_refl _,by decide,fun h=>(by cases h),.inr ⟨w.heap.size,0,rfl,.inr rfl,⟨cs,Rp.len _ _ h2,Rp.keep (fun _ h=>.inl h) (fun b _ hl=>hX.block b hl) _ _ h2,fun j u hj=>?_⟩,trivial⟩⟩
  rw [Nat.zero_add]
  exact (ey.new w e cs _ rfl j u hj).1) h hg hN hs rfl
theorem kc {P:Program} {w:World} {ty' ty e n:Nat} {ti:TypeInfo} {z:Value} (he:elem? P ty'=some e) (hti:P.info? e=some ti) (htz:ti.zero=some z) (hsz:ti.size=n) (hzs:z.cells.size=n) (hn0:0<n) (ao:Option Addr) (adr:Addr) (m k:Nat) (news:List Value) (hl:news.length=m * n) (hnews:∀j u,news[j]? = some u→w.cell? (adr.add j)=some u) (h1:∀u∈news,u.oneCell'=true) (h63:m≤maxLen) (hb:m * ti.bytes≤140737488355328) (hm:0<m) :
 ∃v' w',(Builtin.append_ #[ty',ty'] ty #[.slice ao 0 0,.slice (some adr) m k]).run P w=.ok v' w'∧w'.ownsRow 0 e n v' m news∧w.grownBy w' none∧∀b,v'.ownBlock=some b→b=w.heap.size:=by
 have key:(Builtin.append_ #[ty',ty'] ty #[.slice ao 0 0,.slice (some adr) m k]).run P w=(Builtin.append_ #[ty',ty'] ty #[.slice none 0 0,.slice (some adr) m k]).run P w:=by
  cases ao with
  | none=>rfl
  | some a=>
   have h2:¬(Builtin.nextslicecap m 0 * ti.bytes > 2 ^ 48):=by
    have:Builtin.nextslicecap m 0=m:=by unfold Builtin.nextslicecap;rw [if_pos (by omega)]
    rw [this]
    have:(140737488355328:Nat)≤2 ^ 48:=Nat.le_of_ble_eq_true rfl
    omega
   have hm':¬m=0:=by omega
   simp [Builtin.append_,run_underlying (dE he),sizeOf,typeInfo,hti,Builtin.lenOf,Builtin.firstCells,hm',h2,loadCells,loadCellsFrom]
 rw [key]
 obtain ⟨v',w',r1,r2,r3,_,r5⟩:=run_append_own_at (P:=P) w 0 ty' ty e ti z n ti.bytes (dE he) hti htz hsz rfl hzs hn0 (.slice none 0 0) 0 [] (World.ownsRow_nil w 0 e n) adr m k news hl hnews h1 (by omega) (by rw [Nat.zero_add];exact hb) (Nat.zero_le _)
 refine ⟨v',w',r1,by rw [Nat.zero_add,List.nil_append] at r2;exact r2,r3,fun b hb=>?_⟩
 rcases r5 with r5|r5
 ·rw [r5] at hb;cases hb
 ·rw [r5] at hb;cases hb;rfl
theorem aE.app0 {P:Program} {W0:cz} {N:Nat} {σ:Env} {a:Act} {w:World} {c:Cx} (hc:aE W0 N σ a w c) {ty' ty e n id:Nat} {ti:TypeInfo} {z:Value} (he:elem? P ty'=some e) (hti:P.info? e=some ti) (htz:ti.zero=some z) (hsz:ti.size=n) (hzs:z.cells.size=n) (hn:(Nat.blt 0 n && Nat.ble ti.bytes 1000)=true) (ao:Option Addr) {v:Value} {ys:List D} (hy:DV w c.F (.l n ys) v) (hb:ys.length≤1000000) (hf:al σ id=none) :
 ∃v' w' c',(Builtin.append_ #[ty',ty'] ty #[.slice ao 0 0,v]).run P w=.ok v' w'∧aE W0 N ((id,.tk (.row n e ys)) :: σ) a w' c'∧(Sy.k id).ok c' w' v':=by
 rw [Bool.and_eq_true] at hn
 have hn0:0<n:=Nat.blt_eq.mp hn.1
 obtain ⟨ad,k,hyv,hk1,hk2,hk3,hk4⟩:=hy
 have hyv':v=.slice ad ys.length k:=by simpa using hyv
 subst hyv'
 by_cases hy0:ys = []
 ·subst hy0
  have h1:=hc.new (i:=id) hf (t:=.row n e []) (v:=.slice ao 0 0) (S:=fun _=>False) (.inl ⟨rfl,ao,rfl⟩) (fun b hb=>hb.elim) (fun j u _ b hb=>hb.elim)
  refine ⟨.slice ao 0 0,w,_,?_,h1,.inr rfl,(if_pos rfl).symm⟩
  have hz:ti.size=n:=hsz
  cases ao <;> cases ad <;> simp [Builtin.append_,run_underlying (dE he),sizeOf,typeInfo,hti,Builtin.lenOf,Builtin.firstCells,loadCells,loadCellsFrom,storeCells]
 ·have hm:0<ys.length:=List.length_pos_iff.2 hy0
  rcases hk4 with hk4|⟨b0,o,rfl,_,hk4⟩
  ·exact absurd hk4 hy0
  obtain ⟨news,n1,n2,n3,n4⟩:=RpR.news ys o hk4
  have hmb:ys.length * ti.bytes≤140737488355328:=by
   have:ys.length * ti.bytes≤1000000 * 1000:=Nat.mul_le_mul hb (Nat.le_of_ble_eq_true hn.2)
   omega
  obtain ⟨v',w',hrun,own',hgr,hblk⟩:=kc (P:=P) (ty:=ty) he hti htz hsz hzs hn0 ao ⟨b0,o,none⟩ ys.length k news n1 (fun j u hj=>by
   have:=n2 j u hj
   have e2:((⟨b0,o,none⟩:Addr).add j)=⟨b0,o+j,none⟩:=by cases j <;> simp [Addr.add]
   rw [e2];exact this) n3 (by unfold maxLen;omega) hmb hm
  have hX:Ext w w':=⟨hgr.os,hgr.tape,hgr.output,hgr.size,fun j hj=>hgr.block j hj (by simp)⟩
  have hc1:=hc.grow hX c.F (fun _ h=>h) (fun _ h=>.inl h) (fun b hb=>Nat.lt_of_lt_of_le (hc.lt b hb) (Below.size hX))
  refine ⟨v',w',_,hrun,hc1.new (i:=id) (t:=.row n e ys) (v:=v') (S:=fun b=>v'.ownBlock=some b) hf (.inr ⟨news,own',fun g hg=>hg,fun j hj=>?_⟩) (fun b hb=>⟨fun hF=>?_,(own'.lt b hb).2,?_⟩) (fun j u hj b hb hT=>?_),.inr rfl,(if_pos rfl).symm⟩
  ·obtain ⟨cs,q1,q2,q3⟩:=n4 j hj
   exact ⟨cs,q1,Rp.keep (fun _ h=>h) (fun b _ hl=>hX.block b hl) _ _ q2,q3⟩
  ·rw [hblk b hb] at hF;exact absurd (hc.lt _ hF) (Nat.lt_irrefl _)
  ·rw [hblk b hb];exact .inr hc.ext.size
  ·rw [hblk b hb] at hT;exact absurd ((hc.tok j u hj).2.2 _ hT).2.1 (Nat.lt_irrefl _)
theorem eB {x y:Operand} {i e n:Nat} {ds ys:List D} {ti:TypeInfo} {z:Value} (h:Der P ops W0 N Fin os (us++[((d :: (gk++(i :: (10000+d) :: (kx x++kx y))))++pk,([d,10000+d,i])++fk)]) [] [] ((d,.sy (.k (10000+d))) :: (10000+d,.tk (.row n e (ds++ys))) :: (i,.no) :: σ)) (hx:ev σ x=some (.k i):=by rfl) (hi:al σ i=some (.tk (.row n e ds)):=by rfl) (hy:ev σ y=some (.d (.l n ys)):=by rfl) (hf:al σ (10000+d)=none:=by rfl) (he:elem? P ty'=some e:=by rfl) (hti:P.info? e=some ti:=by rfl) (htz:ti.zero=some z:=by rfl) (hsz:ti.size=n:=by rfl) (hzs:z.cells.size=n:=by rfl) (hn:(Nat.blt 0 n && Nat.ble ti.bytes 1000)=true:=by rfl) (hb:ds.length+ys.length≤1000000:=by first|omega|(simp only [List.length_map,List.length_cons,List.length_nil,List.length_append,List.length_take,List.length_drop];omega)) (hg:gst ops σ g=some (true,gk):=by rfl) (hN:Nat.blt d N=true:=by rfl) (hs:aF ((10000+d,.tk (.row n e (ds++ys))) :: (i,.no) :: σ) d=true:=by rfl) (hu:(Nat.beq (10000+d) d || Nat.beq i d || Nat.beq i (10000+d))=false:=by rfl):Der P ops W0 N Fin (⟨some d,.call { callee:=.builtin .append,args:=#[x,y],argTypes:=#[ty',ty'] },ty,pos,after,g⟩ :: os) us pk fk σ:=by
 simp only [Bool.or_eq_false_iff] at hu
 refine jy (.k (10000+d)) (i :: (10000+d) :: (kx x++kx y)) [(10000+d,.tk (.row n e (ds++ys))),(i,.no)] (fun σ' c a w hk hc=>?_) h hg hN hs (by simp [hu.1.1,hu.1.2])
 rw [Bool.and_eq_true] at hn
 have hn0:0<n:=Nat.blt_eq.mp hn.1
 have hi':=(hk i (by simp)).trans hi
 obtain ⟨hAi,hxv⟩:=ap hc (ah hx (fun κ hκ=>hk κ (by simp [hκ])))
 obtain ⟨ad,k,hyv,hk1,hk2,hk3,hk4⟩:=ap hc (ah hy (fun κ hκ=>hk κ (by simp [hκ])))
 have hyv':a.eval y=.slice ad ys.length k:=by simpa using hyv
 obtain ⟨_,hT,hlt⟩:=hc.tok i _ hi'
 rcases hT with ⟨hd,a0,hv0⟩|⟨cells,own,hS,hel⟩
 ·subst hd
  have hc0:=hc.eff (τ:=[]) hi' ⟨rfl,rfl,rfl,Nat.le_refl _,fun _ _ _=>rfl⟩ c.F (fun _ h=>h) (fun _ h=>.inl h) hc.lt
  have hne:¬i=10000+d:=fun e=>by rw [e] at hu;simp at hu
  obtain ⟨v',w',c',r1,r2,r3⟩:=hc0.app0 (P:=P) (ty:=ty) he hti htz hsz hzs (by rw [Bool.and_eq_true];exact hn) a0 (ap hc (ah hy (fun κ hκ=>hk κ (by simp [hκ])))) (by simp at hb;exact hb) (id:=10000+d) (by rw [ab,if_neg hne,hk _ (by simp),hf])
  have hxz:a.eval x=.slice a0 0 0:=hxv.trans hv0
  have hex:(execOp a.eval ⟨some d,.call { callee:=.builtin .append,args:=#[x,y],argTypes:=#[ty',ty'] },ty,pos,after,g⟩).run P w=.ok (.value v') w':=by
   generalize a.eval=ρ at *
   simp [execOp,resolve,invoke,builtin,hxz,r1,Result.andThen]
  unfold Oper.wp
  rw [hex]
  exact ⟨v',c',rfl,r2,r3⟩
 rw [← hxv] at own hS
 obtain ⟨v',w',news,hrun,own',hgr,hblk,hnews⟩:∃v' w' news,(Builtin.append_ #[ty',ty'] ty #[a.eval x,.slice ad ys.length k]).run P w=.ok v' w'∧w'.ownsRow 0 e n v' (ds.length+ys.length) (cells++news)∧w.grownBy w' (a.eval x).ownBlock∧(v'.ownBlock=(a.eval x).ownBlock∨v'.ownBlock=some w.heap.size) ∧
  ∀j (h:j<ys.length),∃cs,cs.length=n∧Rp w c.F ys[j] cs∧∀t u,cs[t]? = some u→news[j * n+t]? = some u:=by
  have hmb:(ds.length+ys.length) * ti.bytes≤140737488355328:=by
   have:(ds.length+ys.length) * ti.bytes≤1000000 * 1000:=Nat.mul_le_mul hb (Nat.le_of_ble_eq_true hn.2)
   omega
  cases ad with
  | none=>
   have hk0:=hk3 rfl
   have hy0:ys = []:=List.eq_nil_of_length_eq_zero (by omega)
   subst hy0;subst hk0
   exact ⟨a.eval x,w,[],run_append_owned_none (P:=P) w 0 ty' ty e ti n (dE he) hti _ _ cells own,by simpa using own,nt _ _,.inl rfl,fun j h=>absurd h (Nat.not_lt_zero _)⟩
  | some adr=>
   obtain ⟨news,n1,n2,n3,n4⟩:∃news:List Value,news.length=ys.length * n∧(∀j u,news[j]? = some u→w.cell? (adr.add j)=some u)∧(∀u∈news,u.oneCell'=true)∧∀j (h:j<ys.length),∃cs,cs.length=n∧Rp w c.F ys[j] cs∧∀t u,cs[t]? = some u→news[j * n+t]? = some u:=by
    rcases hk4 with hk4|⟨b,o,e1,_,hk4⟩
    ·subst hk4;exact ⟨[],by simp,by simp,by simp,fun j h=>absurd h (Nat.not_lt_zero _)⟩
    ·cases e1
     obtain ⟨news,m1,m2,m3,m4⟩:=RpR.news ys o hk4
     refine ⟨news,m1,fun j u hj=>?_,m3,m4⟩
     have:=m2 j u hj
     have e2:((⟨b,o,none⟩:Addr).add j)=⟨b,o+j,none⟩:=by cases j <;> simp [Addr.add]
     rw [e2];exact this
   obtain ⟨v',w',r1,r2,r3,_,r5⟩:=run_append_own_at (P:=P) w 0 ty' ty e ti z n ti.bytes (dE he) hti htz hsz rfl hzs hn0 (a.eval x) ds.length cells own adr ys.length k news n1 n2 n3 (by unfold maxLen;omega) hmb (Nat.zero_le _)
   exact ⟨v',w',news,r1,r2,r3,r5,n4⟩
 have hchg:Chg (c.T i) w w':=Chg.grown hgr hS
 have hag:=hc.agF hchg (fun b hb=>(hlt b hb).1)
 have hc1:=hc.eff (τ:=[]) hi' hchg c.F (fun _ h=>h) (fun _ h=>.inl h) (fun b hb=>Nat.lt_of_lt_of_le (hc.lt b hb) hchg.size)
 have hne:¬i=10000+d:=fun e=>by rw [e] at hu;simp at hu
 have hf':al ((i,.no) :: σ') (10000+d)=none:=by rw [ab,if_neg hne,hk _ (by simp),hf]
 have hex:(execOp a.eval ⟨some d,.call { callee:=.builtin .append,args:=#[x,y],argTypes:=#[ty',ty'] },ty,pos,after,g⟩).run P w=.ok (.value v') w':=by
  generalize a.eval=ρ at *
  simp [execOp,resolve,invoke,builtin,hyv',hrun,Result.andThen]
 unfold Oper.wp
 rw [hex]
 refine ⟨v',_,rfl,hc1.new (i:=10000+d) (t:=.row n e (ds++ys)) (v:=v') (S:=fun b=>v'.ownBlock=some b) hf' (.inr ⟨cells++news,by rw [List.length_append];exact own',fun g hg=>hg,fun j hj=>?_⟩) (fun b hbk=>?_) (fun j u hj b hbk hT=>?_),?_⟩
 ·by_cases hlt':j<ds.length
  ·obtain ⟨cs,q1,q2,q3⟩:=hel j hlt'
   refine ⟨cs,q1,by rw [List.getElem_append_left hlt'];exact Rp.keep (fun _ h=>h) hag _ _ q2,fun t u ht=>?_⟩
   have:=q3 t u ht
   rw [List.getElem?_append_left]
   ·exact this
   ·rcases Nat.lt_or_ge (j * n+t) cells.length with h|h
    ·exact h
    ·rw [List.getElem?_eq_none h] at this;cases this
  ·rw [List.length_append] at hj
   obtain ⟨cs,q1,q2,q3⟩:=hnews (j - ds.length) (by omega)
   refine ⟨cs,q1,by rw [List.getElem_append_right (by omega)];exact Rp.keep (fun _ h=>h) hag _ _ q2,fun t u ht=>?_⟩
   have:=q3 t u ht
   have hm:ds.length * n≤j * n:=Nat.mul_le_mul_right _ (by omega)
   rw [List.getElem?_append_right (by rw [own.1];omega),own.1]
   rw [Nat.sub_mul] at this
   rw [show j * n+t - ds.length * n=j * n - ds.length * n+t by omega]
   exact this
 ·rcases hblk with e1|e1
  ·have:=hlt b (hS b (by rw [← e1];exact hbk))
   exact ⟨this.1,Nat.lt_of_lt_of_le this.2.1 hchg.size,this.2.2⟩
  ·rw [e1] at hbk;cases hbk
   exact ⟨fun hF=>absurd (hc.lt _ hF) (Nat.lt_irrefl _),(own'.lt _ e1).2,.inr hc.ext.size⟩
 ·rw [ab] at hj
  split at hj
  ·cases hj
  ·rename_i hij
   rcases hblk with e1|e1
   ·exact hc.off i j _ u hi' hj hij b (hS b (by rw [← e1];exact hbk)) hT
   ·rw [e1] at hbk;cases hbk
    exact absurd ((hc.tok j u hj).2.2 _ hT).2.1 (Nat.lt_irrefl _)
 ·exact ⟨.inr rfl,(if_pos rfl).symm⟩
end
end Go.Proofs.YtnobdioccfeokaaGreatDoor
namespace Go.Proofs.YtnobdioccfeokaaGreatDoor
open Go.RowKit
set_option linter.unusedVariables false
set_option linter.unusedSimpArgs false
theorem E4 {s:Sy} {c:Cx} {w:World} {v:Value} (h:s.ok c w v) (hs:(match s with | .d r=>!isT r | .k _=>true | .v x=>x.oneCell'|_=>false)=true) (hk:∀i,s=.k i→v.oneCell'=true):v.oneCell'=true:=by
 cases s with
 | d r=>
  cases r with
  | t ds=>cases hs
  | i n=>exact Rp.one _ _ h _ (by simp)
  | s n=>exact Rp.one _ _ h _ (by simp)
  | b n=>exact Rp.one (w:=w) (S:=c.F) (.b n) _ h _ (by simp)
  | l z xs=>exact Rp.one _ _ h _ (by simp)
  | n z=>exact Rp.one (w:=w) (S:=c.F) (.n z) _ h _ (by simp)
  | p d=>exact Rp.one (w:=w) (S:=c.F) (.p d) _ h _ (by simp)
  | f g ds=>exact Rp.one (w:=w) (S:=c.F) (.f g ds) _ h _ (by simp)
  | any=>exact Rp.one (w:=w) (S:=c.F) .any _ h _ (by simp)
  | c y=>exact Rp.one (w:=w) (S:=c.F) (.c y) _ h _ (by simp)
 | v x=>rw [show v=x from h];exact hs
 | k i=>exact hk i rfl
 | _=>cases hs
def one?:Sy→Bool
 | .d r=>!isT r
 | .v x=>x.oneCell'
 | _=>false
def Hy (σ:Env):Sy→Bool
 | .k i=>match al σ i with|some (.tk (.row _ _ _))=>true|_=>false
 | s=>one? s
def kSy:Sy→List Nat
 | .k i=>[i]
 | _=>[]
section
variable {P:Program} {ops:Array Oper} {W0:cz} {N:Nat} {Fin:Us→Env→Prop} {os:List Oper} {us:Us} {pk fk:List Nat} {σ:Env} {g:Option (Nat × Bool)} {gk:List Nat} {d ty ty':Nat} {pos:String} {after:Array Edge}
theorem bf {x y:Operand} {i o:Nat} {cs:List Sy} {s:Sy} (h:Der P ops W0 N Fin os (us++[((gk++(i :: (kSy s++(kx x++kx y))))++pk,([i])++fk)]) [] [] ((i,.tk (.bx (cs.set o s))) :: σ)) (hx:ev σ x=some (.bx i o):=by rfl) (hi:al σ i=some (.tk (.bx cs)):=by rfl) (hy:ev σ y=some s:=by rfl) (ho:Nat.blt o cs.length=true:=by rfl) (hz:sizeOf? P ty'=some 1:=by rfl) (h1:Hy σ s=true:=by rfl) (hg:gst ops σ g=some (true,gk):=by rfl):Der P ops W0 N Fin (⟨none,.store ty' x y,ty,pos,after,g⟩ :: os) us pk fk σ:=
 lq (i :: (kSy s++(kx x++kx y))) [(i,.tk (.bx (cs.set o s)))] (fun σ' c a w hk hc=>by
  obtain ⟨hAi,b,e1,e2⟩:=ap hc (ah hx (fun κ hκ=>hk κ (by simp [hκ])))
  have hi':=(hk i (by simp)).trans hi
  obtain ⟨_,⟨b',vs,e3,e4,e5,e6⟩,hlt⟩:=hc.tok i _ hi'
  rw [e1] at e3;cases e3
  have hv:=ap hc (ah hy (fun κ hκ=>hk κ (by simp [hκ])))
  have hone:(a.eval y).oneCell'=true:=by
   cases s with
   | k j=>
    unfold Hy at h1
    dsimp only at h1
    split at h1
    ·rename_i n e ds hj
     obtain ⟨_,hT,_⟩:=hc.tok j _ ((hk j (by simp [kSy])).trans hj)
     obtain ⟨_,q2⟩:=hv
     rw [q2]
     rcases hT with ⟨_,_,q3⟩|⟨cells,q1,_⟩
     ·rw [q3];rfl
     ·rcases q1.2 with ⟨q3,_⟩|⟨_,_,_,q3,_⟩ <;> rw [q3] <;> rfl
    ·cases h1
   | _=>exact E4 hv h1 (fun i h=>by cases h)
  have hol:o<vs.length:=by rw [cM _ _ e5];exact Nat.blt_eq.mp ho
  obtain ⟨q4,q5⟩:=e6 o _ (List.getElem?_eq_getElem hol)
  unfold Oper.wp
  rw [fu hz hone q4 q5 e2 rfl]
  have hch:Chg (c.T i) w (w.setCell ⟨b,o,none⟩ (a.eval y)):=Chg.grown (co b o _) (fun g hg=>by cases hg;exact e4)
  refine ⟨rfl,c,hc.upd hi' hch (by simp) (fun hag=>⟨b,vs.set o (a.eval y),e1,e4,?_,e6.set o _⟩)⟩
  exact Sy.keeps (Cx.Le.refl c) hag _ _ (jY _ _ _ _ _ e5 hv)) h hg
theorem aw {x y:Operand} {i:Nat} {cs:List Sy} {ds:List D} (h:Der P ops W0 N Fin os (us++[((gk++(i :: (kx x++kx y)))++pk,([i])++fk)]) [] [] ((i,.tk (.bx (kI ds))) :: σ)) (hx:ev σ x=some (.bx i 0):=by rfl) (hi:al σ i=some (.tk (.bx cs)):=by rfl) (hy:ev σ y=some (.d (.t ds)):=by rfl) (hz:sizeOf? P ty'=some (szs ds):=by rfl) (hl:Nat.beq cs.length (szs ds)=true:=by rfl) (hg:gst ops σ g=some (true,gk):=by rfl):Der P ops W0 N Fin (⟨none,.store ty' x y,ty,pos,after,g⟩ :: os) us pk fk σ:=
 lq (i :: (kx x++kx y)) [(i,.tk (.bx (kI ds)))] (fun σ' c a w hk hc=>by
  obtain ⟨hAi,b,e1,e2⟩:=ap hc (ah hx (fun κ hκ=>hk κ (by simp [hκ])))
  have hi':=(hk i (by simp)).trans hi
  obtain ⟨_,⟨b',vs,e3,e4,e5,e6⟩,hlt⟩:=hc.tok i _ hi'
  rw [e1] at e3;cases e3
  obtain ⟨us',e7,e8⟩:=ap hc (ah hy (fun κ hκ=>hk κ (by simp [hκ])))
  have hlen:us'.length=vs.length:=by rw [RpL.len _ _ e8,cM _ _ e5,Nat.eq_of_beq_eq_true hl]
  obtain ⟨w',r1,r2,r3,r4⟩:=mV (P:=P) e6 0 us' (by omega) ty' (by rw [RpL.len _ _ e8];exact cY hz) (List.all_eq_true.2 (fun u hu=>RpL.one _ _ e8 u hu))
  have hrun:(execOp a.eval ⟨none,.store ty' x y,ty,pos,after,g⟩).run P w=.ok .skip w':=tR (X:=Instr.storeAt ty' (a.eval x) (a.eval y)) (by rw [e2,e7];exact r1)
  unfold Oper.wp
  rw [hrun]
  have hpa:ly vs 0 us'=us':=by
   apply List.ext_getElem?
   intro j
   by_cases hj:j<us'.length
   ·have:=lS us' vs 0 j _ (by omega) (List.getElem?_eq_getElem hj)
    rw [Nat.zero_add] at this
    rw [this,List.getElem?_eq_getElem hj]
   ·rw [List.getElem?_eq_none (by rw [nk];omega),List.getElem?_eq_none (by omega)]
  rw [hpa] at r2
  refine ⟨rfl,c,hc.upd hi' (Chg.grown r3 (fun g hg=>by cases hg;exact e4)) r4 (fun hag=>⟨b,us',e1,e4,?_,r2⟩)⟩
  exact kA (w:=w') ds us' (RpL.keep (fun _ h=>h) hag _ _ e8)) h hg
def Gj:List Sy→Option (List D)
 | []=>some []
 | s :: ss=>match s.dat,Gj ss with
  | some r,some rs=>some (r :: rs)
  | _,_=>none
theorem vo {c:Cx} {w:World}:∀(ss:List Sy) (rs:List D) (vs:List Value),Gj ss=some rs→(rs.all fun r=>!isT r)=true→Sy.oks c w ss vs→RpL w c.F rs vs:=by
 intro ss
 induction ss with
 | nil=>intro rs vs h _ ho;cases h;exact ho
 | cons s ss ih=>
  intro rs vs h ht ⟨y,t,e1,e2,e3⟩
  unfold Gj at h
  split at h
  ·rename_i r rs' h1 h2
   cases h
   rw [List.all_cons,Bool.and_eq_true] at ht
   have hv:=jA h1 e2
   refine ⟨[y],t,e1,?_,ih rs' t h2 ht.2 e3⟩
   cases r with
   | t ds=>simp [isT] at ht
   | _=>exact hv
  ·cases h
theorem IG {x:Operand} {i:Nat} {cs:List Sy} {ds:List D} (h:Der P ops W0 N Fin os (us++[((d :: (gk++(i :: kx x)))++pk,([d])++fk)]) [] [] ((d,.sy (.d (.t ds))) :: σ)) (hx:ev σ x=some (.bx i 0):=by rfl) (hi:al σ i=some (.tk (.bx cs)):=by rfl) (hc:Gj cs=some ds:=by rfl) (ht:(ds.all fun r=>!isT r)=true:=by rfl) (hA:isAgg? P ty'=some true:=by rfl) (hz:sizeOf? P ty'=some cs.length:=by rfl) (hg:gst ops σ g=some (true,gk):=by rfl) (hN:Nat.blt d N=true:=by rfl) (hs:aF σ d=true:=by rfl):Der P ops W0 N Fin (⟨some d,.load ty' x,ty,pos,after,g⟩ :: os) us pk fk σ:=
 cr (.d (.t ds)) (i :: kx x) (fun σ' c a w hk hh=>by
  obtain ⟨hAi,b,h1,h2⟩:=ap hh (ah hx (fun κ hκ=>hk κ (by simp [hκ])))
  obtain ⟨_,⟨b',vs,h3,h4,h5,h6⟩,_⟩:=hh.tok i _ ((hk i (by simp)).trans hi)
  rw [h1] at h3;cases h3
  refine ⟨.agg vs.toArray,dl (X:=Instr.loadAt ty' (a.eval x)) (by rw [h2];exact eL hA (by rw [hz,cM _ _ h5]) (fun j u hj=>by rw [Nat.zero_add];exact (h6 j u hj).1)),vs,rfl,vo _ _ _ hc ht h5⟩) h hg hN hs
theorem cK {c:Cx} {w:World} {n e:Nat} {ds:List D} {v:Value} {S:BS} (h:(Tk.row n e ds).ok c w v S):DV w (fun b=>c.F b∨S b) (.l n ds) v:=by
 rcases h with ⟨hd,a0,hv⟩|⟨cells,own,hS,hel⟩
 ·subst hd
  exact ⟨a0,0,by rw [hv];rfl,Nat.le_refl _,by decide,fun _=>rfl,.inl rfl⟩
 rcases own.2 with ⟨hv,hn⟩|⟨g,cap,cur,hv,_,hg,h5,h6,h7,h8⟩
 ·have:ds = []:=List.eq_nil_of_length_eq_zero hn
  subst this
  exact ⟨none,0,by rw [hv];rfl,Nat.le_refl _,by decide,fun _=>rfl,.inl rfl⟩
 ·refine ⟨_,cap,by rw [hv],h5,h6,fun h=>(by cases h),.inr ⟨g,0,rfl,.inr (hS g (by rw [hv];rfl)),(gB _ _).2 fun j hj=>?_⟩⟩
  obtain ⟨cs,q1,q2,q3⟩:=hel j hj
  refine ⟨cs,q1,Rp.keep (fun _ h=>.inl h) (fun _ _ _=>rfl) _ _ q2,fun t u ht=>?_⟩
  have:=q3 t u ht
  rw [hv] at own
  rw [Nat.zero_add,World.ownsRow.cellAt own (j * n+t)]
  ·exact this
  ·rcases Nat.lt_or_ge (j * n+t) cells.length with h|h
   ·rw [← own.1];exact h
   ·rw [List.getElem?_eq_none h] at this;cases this
theorem Holds.fz {W0:cz} {N t i n e:Nat} {σ:Env} {ds:List D} {a:Act} {w:World} (ht:al σ t=some (.sy (.k i))) (hi:al σ i=some (.tk (.row n e ds))) (hu:Nat.beq i t=false) (hh:Holds W0 N σ a w):Holds W0 N ((t,.sy (.d (.l n ds))) :: (i,.no) :: σ) a w:=by
 obtain ⟨c,hc⟩:=hh
 have hf:=hc.freeze hi
 obtain ⟨v,h3,_,h4⟩:=hc.tmp t _ ht
 have hr:=cK (hc.tok i _ hi).2.1
 have hput:=hf.put (d:=t) (s:=.d (.l n ds)) (v:=v) (by rw [← hc.size];exact (Array.getElem?_eq_some_iff.1 h3).1) (by rw [h4];exact hr) (.inr ⟨.k i,by rw [ab,if_neg (fun e=>by rw [e] at hu;simp at hu)];exact ht⟩)
 have e:a.put (some t) v=a:=qX (iZ _ _ _) (fun j=>by
  simp only [Act.put]
  by_cases hj:t=j
  ·subst hj
   rw [Array.getElem?_setIfInBounds_self_of_lt (Array.getElem?_eq_some_iff.1 h3).1,h3]
  ·rw [Array.getElem?_setIfInBounds_ne hj])
 rw [e] at hput
 exact ⟨_,hput⟩
theorem sFz (t:Nat) {o:Oper} {i n e:Nat} {ds:List D} (h:Der P ops W0 N Fin (o :: os) us ([t,i]++pk) ([t,i]++fk) ((t,.sy (.d (.l n ds))) :: (i,.no) :: σ)) (hx:al σ t=some (.sy (.k i)):=by rfl) (hi:al σ i=some (.tk (.row n e ds)):=by rfl) (hu:Nat.beq i t=false:=by rfl):Der P ops W0 N Fin (o :: os) us pk fk σ:=by
 obtain ⟨keys,upd,h1,h2⟩:=h
 refine ⟨keys++[t,i],upd++[(t,.sy (.d (.l n ds))),(i,.no)],EU.fz hx hi hu (fun σ' a w ht hi hh=>hh.fz ht hi hu) h1,?_⟩
 simp only [List.append_assoc,List.map_append] at h2 ⊢
 exact h2
theorem cD {x:Operand} {i n e:Nat} {ds:List D} (h:Der P ops W0 N Fin os (us++[((d :: (gk++(i :: kx x)))++pk,([d,i])++fk)]) [] [] ((d,.sy (.d (.l n ds))) :: (i,.no) :: σ)) (hx:ev σ x=some (.k i):=by rfl) (hi:al σ i=some (.tk (.row n e ds)):=by rfl) (hg:gst ops σ g=some (true,gk):=by rfl) (hN:Nat.blt d N=true:=by rfl) (hs:aF ((i,.no) :: σ) d=true:=by rfl) (hu:Nat.beq i d=false:=by rfl):Der P ops W0 N Fin (⟨some d,.move x,ty,pos,after,g⟩ :: os) us pk fk σ:=
 jy (.d (.l n ds)) (i :: kx x) [(i,.no)] (fun σ' c a w hk hc=>by
  obtain ⟨_,hv⟩:=ap hc (ah hx (fun κ hκ=>hk κ (by simp [hκ])))
  have hi':=(hk i (by simp)).trans hi
  have hr:(execOp a.eval ⟨some d,.move x,ty,pos,after,g⟩).run P w=.ok (.value (a.eval x)) w:=rfl
  unfold Oper.wp
  rw [hr]
  exact ⟨_,_,rfl,hc.freeze hi',by rw [hv];exact cK (hc.tok i _ hi').2.1⟩) h hg hN hs (by simp [hu])
theorem dL {x:Operand} {i n e:Nat} {ds:List D} (h:Der P ops W0 N Fin os (us++[((d :: (gk++(i :: kx x)))++pk,([d,i])++fk)]) [] [] ((d,.sy (.d (.l n ds))) :: (i,.no) :: σ)) (hx:ev σ x=some (.k i):=by rfl) (hi:al σ i=some (.tk (.row n e ds)):=by rfl) (hg:gst ops σ g=some (true,gk):=by rfl) (hN:Nat.blt d N=true:=by rfl) (hs:aF ((i,.no) :: σ) d=true:=by rfl) (hu:Nat.beq i d=false:=by rfl):Der P ops W0 N Fin (⟨some d,.assign x,ty,pos,after,g⟩ :: os) us pk fk σ:=
 jy (.d (.l n ds)) (i :: kx x) [(i,.no)] (fun σ' c a w hk hc=>by
  obtain ⟨_,hv⟩:=ap hc (ah hx (fun κ hκ=>hk κ (by simp [hκ])))
  have hi':=(hk i (by simp)).trans hi
  have hr:(execOp a.eval ⟨some d,.assign x,ty,pos,after,g⟩).run P w=.ok (.value (a.eval x)) w:=rfl
  unfold Oper.wp
  rw [hr]
  exact ⟨_,_,rfl,hc.freeze hi',by rw [hv];exact cK (hc.tok i _ hi').2.1⟩) h hg hN hs (by simp [hu])
theorem bQ {e n:Nat} (h:Der P ops W0 N Fin os (us++[((d :: (gk++[]))++pk,([d])++fk)]) [] [] ((d,.sy (.d (.n n))) :: σ)) (he:elem? P ty=some e:=by rfl) (hz:sizeOf? P e=some n:=by rfl) (hg:gst ops σ g=some (true,gk):=by rfl) (hN:Nat.blt d N=true:=by rfl) (hs:aF σ d=true:=by rfl):Der P ops W0 N Fin (⟨some d,.assign (.const (.slice none 0 0)),ty,pos,after,g⟩ :: os) us pk fk σ:=
 cr (.d (.n n)) [] (fun σ' c a w hk hc=>⟨.slice none 0 0,rfl,none,rfl⟩) h hg hN hs
theorem vV {n e b o m z:Nat} {w:World} (hu:P.underlying ty'=some (.array n e)) (hz:sizeOf? P e=some z) (hm:m<n):(Instr.indexAt ty' (.pointer (some ⟨b,o,none⟩)) (.int .i64 m)).run P w=.ok (.pointer (some ⟨b,o+m * z,none⟩)) w:=by
 replace hz:=cY hz
 rw [Option.map_eq_some_iff] at hz
 obtain ⟨i,hi,hz⟩:=hz
 have h0:(0:Int)≤(m:Int):=by omega
 have h1:(m:Int)<(n:Int):=by omega
 unfold Instr.indexAt
 simp [run_underlying hu,asIntOf,Instr.sureAddr,sizeOf,typeInfo,hi,hz,Addr.add,hm,go_sem]
def arr? (P:Program) (ty:Nat):Option (Nat × Nat):=match P.underlying ty with|some (.array n e)=>some (n,e)|_=>none
theorem bR {x y:Operand} {s:Sy} {n e z m:Nat} {ds:List D} {r:D} (h:Der P ops W0 N Fin os (us++[((d :: (gk++(kx x++kx y)))++pk,([d])++fk)]) [] [] ((d,.sy (.at r)) :: σ)) (hx:ev σ x=some (.at (.t ds)):=by rfl) (hy:ev σ y=some s:=by rfl) (hi:s.int? = some (Int.ofNat m):=by rfl) (ha:arr? P ty'=some (n,e):=by rfl) (hz:sizeOf? P e=some z:=by rfl) (hm:Nat.blt m n=true:=by rfl) (hr:part? ds (m * z)=some r:=by rfl) (hg:gst ops σ g=some (true,gk):=by rfl) (hN:Nat.blt d N=true:=by rfl) (hs:aF σ d=true:=by rfl):Der P ops W0 N Fin (⟨some d,.indexAddr ty' x y,ty,pos,after,g⟩ :: os) us pk fk σ:=
 cr (.at r) (kx x++kx y) (fun σ' c a w hk hc=>by
  obtain ⟨b,off,cs,h1,h2,h3,h4⟩:=ap hc (ah hx (fun κ hκ=>hk κ (by simp [hκ])))
  have h5:=df hi (ap hc (ah hy (fun κ hκ=>hk κ (by simp [hκ]))))
  obtain ⟨c',h6,h7⟩:=wx ds _ cs r h3 hr
  have hu:P.underlying ty'=some (.array n e):=by
   unfold arr? at ha
   split at ha
   ·cases ha;assumption
   ·cases ha
  refine ⟨_,dl (X:=Instr.indexAt ty' (a.eval x) (a.eval y)) (by rw [h1,h5];exact vV hu hz (Nat.blt_eq.mp hm)),b,off+m * z,c',rfl,h2,h6,fun j u hj=>?_⟩
  rw [Nat.add_assoc];exact h4 _ u (h7 j u hj)) h hg hN hs
theorem b9 {x y:Operand} {s:Sy} {i off n e z m:Nat} (h:Der P ops W0 N Fin os (us++[((d :: (gk++(kx x++kx y)))++pk,([d])++fk)]) [] [] ((d,.sy (.bx i (off+m * z))) :: σ)) (hx:ev σ x=some (.bx i off):=by rfl) (hy:ev σ y=some s:=by rfl) (hi:s.int? = some (Int.ofNat m):=by rfl) (ha:arr? P ty'=some (n,e):=by rfl) (hz:sizeOf? P e=some z:=by rfl) (hm:Nat.blt m n=true:=by rfl) (hg:gst ops σ g=some (true,gk):=by rfl) (hN:Nat.blt d N=true:=by rfl) (hs:aF σ d=true:=by rfl):Der P ops W0 N Fin (⟨some d,.indexAddr ty' x y,ty,pos,after,g⟩ :: os) us pk fk σ:=
 cr (.bx i (off+m * z)) (kx x++kx y) (fun σ' c a w hk hc=>by
  obtain ⟨hA,b,h1,h2⟩:=ap hc (ah hx (fun κ hκ=>hk κ (by simp [hκ])))
  have h5:=df hi (ap hc (ah hy (fun κ hκ=>hk κ (by simp [hκ]))))
  have hu:P.underlying ty'=some (.array n e):=by
   unfold arr? at ha
   split at ha
   ·cases ha;assumption
   ·cases ha
  exact ⟨_,dl (X:=Instr.indexAt ty' (a.eval x) (a.eval y)) (by rw [h2,h5];exact vV hu hz (Nat.blt_eq.mp hm)),hA,b,h1,rfl⟩) h hg hN hs
theorem bu {x y:Operand} {i z e e':Nat} {ds:List D} {s:Sy} {n:Nat} (h:Der P ops W0 N Fin os (us++[((d :: (gk++(i :: (kx x++kx y))))++pk,([d])++fk)]) [] [] ((d,.sy (.el i z n 0)) :: σ)) (hx:ev σ x=some (.k i):=by rfl) (hi:al σ i=some (.tk (.row z e ds)):=by rfl) (hy:ev σ y=some s:=by rfl) (hn:s.int? = some (n:Int):=by rfl) (he:elem? P ty'=some e':=by rfl) (hz:sizeOf? P e'=some z:=by rfl) (hlt:n<ds.length:=by first|assumption|omega|(simp only [List.length_map,List.length_append,List.length_cons,List.length_nil,List.length_replicate,List.length_take];omega)) (hg:gst ops σ g=some (true,gk):=by rfl) (hN:Nat.blt d N=true:=by rfl) (hs:aF σ d=true:=by rfl):Der P ops W0 N Fin (⟨some d,.indexAddr ty' x y,ty,pos,after,g⟩ :: os) us pk fk σ:=
 cr (.el i z n 0) (i :: (kx x++kx y)) (fun σ' c a w hk hc=>by
  obtain ⟨hA,h1⟩:=ap hc (ah hx (fun κ hκ=>hk κ (by simp [hκ])))
  have h2:=df hn (ap hc (ah hy (fun κ hκ=>hk κ (by simp [hκ]))))
  obtain ⟨_,hT,_⟩:=hc.tok i _ ((hk i (by simp)).trans hi)
  rcases hT with ⟨hd,_⟩|⟨cells,h3,_⟩
  ·subst hd;exact absurd hlt (Nat.not_lt_zero _)
  rcases h3.2 with ⟨_,hn0⟩|⟨gb,cap,cur,hv,_,_,h5,h6,_⟩
  ·rw [hn0] at hlt;exact absurd hlt (Nat.not_lt_zero _)
  ·exact ⟨_,dl (X:=Instr.indexAt ty' (a.eval x) (a.eval y)) (by rw [h1,hv,h2];exact oM he hz hlt),hA,gb,_,_,hv,by rw [Nat.zero_add];rfl⟩) h hg hN hs
theorem bP {x:Operand} {k o i z n off:Nat} (h:Der P ops W0 N Fin os (us++[((d :: (gk++kx x))++pk,([d])++fk)]) [] [] ((d,.sy (.el i z n (off+o))) :: σ)) (hx:ev σ x=some (.el i z n off):=by rfl) (ho:fld P ty' k=some o:=by rfl) (hg:gst ops σ g=some (true,gk):=by rfl) (hN:Nat.blt d N=true:=by rfl) (hs:aF σ d=true:=by rfl):Der P ops W0 N Fin (⟨some d,.fieldAddr ty' x k,ty,pos,after,g⟩ :: os) us pk fk σ:=
 cr (.el i z n (off+o)) (kx x) (fun σ' c a w hk hc=>by
  obtain ⟨hA,b,m,cp,h1,h2⟩:=ap hc (ah hx hk)
  exact ⟨_,dl (X:=Instr.fieldAt ty' (a.eval x) k) (by rw [h2];exact oO ho),hA,b,m,cp,h1,by rw [Nat.add_assoc]⟩) h hg hN hs
def G4:D→Nat→Option D
 | .t ds,o=>part? ds o
 | .i n,0=>some (.i n)
 | .s n,0=>some (.s n)
 | .b n,0=>some (.b n)
 | .l z n,0=>some (.l z n)
 | .n z,0=>some (.n z)
 | .p d,0=>some (.p d)
 | .f g ds,0=>some (.f g ds)
 | .any,0=>some .any
 | .c v,0=>some (.c v)
 | _,_=>none
theorem ET {w:World} {S:BS} {r q:D} {o:Nat} {cs:List Value} (h:Rp w S r cs) (hq:G4 r o=some q):∃c,Rp w S q c∧∀j u,c[j]? = some u→cs[o+j]? = some u:=by
 have key:G4 r o=some r→o=0→∃c,Rp w S r c∧∀(j:Nat) (u:Value),c[j]? = some u→cs[o+j]? = some u:=fun _ e=>⟨cs,h,fun j u hj=>by rw [e,Nat.zero_add];exact hj⟩
 cases r with
 | t ds=>exact wx ds o cs q h hq
 | _=>
  cases o with
  | zero=>cases hq;exact key rfl rfl
  | succ o=>cases hq
theorem aL {α:Type} {f:α→D} {l:List α} {x:Operand} {i z n o e:Nat} {q:D} (h:Der P ops W0 N Fin os (us++[((d :: (gk++(i :: kx x)))++pk,([d])++fk)]) [] [] ((d,.sy (.d q)) :: σ)) (hx:ev σ x=some (.el i z n o):=by rfl) (hi:al σ i=some (.tk (.row z e (l.map f))):=by rfl) (hlt:n<l.length:=by first|assumption|omega) (hq:G4 (f l[n]) o=some q:=by rfl) (hA:isAgg? P ty'=some false:=by rfl) (ht:isT q=false:=by rfl) (hg:gst ops σ g=some (true,gk):=by rfl) (hN:Nat.blt d N=true:=by rfl) (hs:aF σ d=true:=by rfl):Der P ops W0 N Fin (⟨some d,.load ty' x,ty,pos,after,g⟩ :: os) us pk fk σ:=
 cr (.d q) (i :: kx x) (fun σ' c a w hk hc=>by
  obtain ⟨hA',b,m,cp,h1,h2⟩:=ap hc (ah hx (fun κ hκ=>hk κ (by simp [hκ])))
  obtain ⟨_,hT,_⟩:=hc.tok i _ ((hk i (by simp)).trans hi)
  rcases hT with ⟨hd,_⟩|⟨cells,own,hS,hel⟩
  ·rw [List.map_eq_nil_iff] at hd;subst hd;exact absurd hlt (Nat.not_lt_zero _)
  obtain ⟨cs,q1,q2,q3⟩:=hel n (by rw [List.length_map];exact hlt)
  rw [List.getElem_map] at q2
  obtain ⟨c',q4,q5⟩:=ET q2 hq
  have hl:=Rp.len _ _ q4
  have hz1:q.sz=1:=by cases q <;> first|rfl|(simp [isT] at ht)
  obtain ⟨v,rfl⟩:=List.length_eq_one_iff.1 (hl.trans hz1)
  have hv:DV w c.F q v:=by cases q <;> first|exact q4|(simp [isT] at ht)
  have h6:=q3 _ _ (q5 0 v rfl)
  rw [h1] at own
  have hin:n * z+o<cells.length:=by
   rcases Nat.lt_or_ge (n * z+o) cells.length with h|h
   ·exact h
   ·rw [Nat.add_zero,List.getElem?_eq_none h] at h6;cases h6
  have hcell:w.cell? ⟨b,n * z+o,none⟩=some v:=by
   rcases own.2 with ⟨hv0,_⟩|⟨gb,cap,cur,hv0,rest⟩
   ·cases hv0
   ·cases hv0
    rw [World.ownsRow.cellAt (h:=own) (n * z+o) (by rw [← own.1];exact hin)]
    rw [Nat.add_zero] at h6;exact h6
  exact ⟨v,dl (X:=Instr.loadAt ty' (a.eval x)) (by rw [h2];exact gY hA hcell),hv⟩) h hg hN hs
theorem bZ {α:Type} {f:α→D} {xs ys:List α} {x y:Operand} {i e n:Nat} {ti:TypeInfo} {z:Value} (h:Der P ops W0 N Fin os (us++[((d :: (gk++(i :: (10000+d) :: (kx x++kx y))))++pk,([d,10000+d,i])++fk)]) [] [] ((d,.sy (.k (10000+d))) :: (10000+d,.tk (.row n e ((xs++ys).map f))) :: (i,.no) :: σ)) (hx:ev σ x=some (.k i):=by rfl) (hi:al σ i=some (.tk (.row n e (xs.map f))):=by rfl) (hy:ev σ y=some (.d (.l n (ys.map f))):=by rfl) (hf:al σ (10000+d)=none:=by rfl) (he:elem? P ty'=some e:=by rfl) (hti:P.info? e=some ti:=by rfl) (htz:ti.zero=some z:=by rfl) (hsz:ti.size=n:=by rfl) (hzs:z.cells.size=n:=by rfl) (hn:(Nat.blt 0 n && Nat.ble ti.bytes 1000)=true:=by rfl) (hb:xs.length+ys.length≤1000000:=by first|omega|(simp only [List.length_map,List.length_append,List.length_take,List.length_drop];omega)) (hg:gst ops σ g=some (true,gk):=by rfl) (hN:Nat.blt d N=true:=by rfl) (hs:aF ((10000+d,.tk (.row n e ((xs++ys).map f))) :: (i,.no) :: σ) d=true:=by rfl) (hu:(Nat.beq (10000+d) d || Nat.beq i d || Nat.beq i (10000+d))=false:=by rfl):Der P ops W0 N Fin (⟨some d,.call { callee:=.builtin .append,args:=#[x,y],argTypes:=#[ty',ty'] },ty,pos,after,g⟩ :: os) us pk fk σ:=by
 rw [List.map_append] at h hs
 exact eB h hx hi hy hf he hti htz hsz hzs hn (by rw [List.length_map,List.length_map];exact hb) hg hN hs hu
theorem qB {c:Cx} {w:World}:∀(ss:List Sy) (vs:List Value) (o:Nat) (s:Sy),Sy.oks c w ss vs→ss[o]? = some s→∃v,vs[o]? = some v∧s.ok c w v:=by
 intro ss
 induction ss with
 | nil=>intro vs o s _ h;simp at h
 | cons y ss ih=>
  intro vs o s ⟨v,t,e1,e2,e3⟩ h
  subst e1
  cases o with
  | zero=>simp at h;subst h;exact ⟨v,rfl,e2⟩
  | succ o=>simp at h ⊢;exact ih t o s e3 h
theorem rg {us:List Value} {o:Nat} {v:Value} (hv:us[o]? = some v):us.set o v=us:=by
 apply List.ext_getElem?
 intro j
 rw [List.getElem?_set]
 by_cases hj:o=j
 ·subst hj
  rw [if_pos rfl,hv]
  split
  ·rfl
  ·rename_i hh;rw [List.getElem?_eq_none (by omega)] at hv;cases hv
 ·rw [if_neg hj]
theorem Holds.nilB {W0:cz} {N i o z e id:Nat} {σ:Env} {cs:List Sy} {a:Act} {w:World} (hi:al σ i=some (.tk (.bx cs))) (hc:cs[o]? = some (.d (.n z))) (hf:al σ id=none) (hne:Nat.beq id i=false) (hh:Holds W0 N σ a w):Holds W0 N ((i,.tk (.bx (cs.set o (.k id)))) :: (id,.tk (.row z e [])) :: σ) a w:=by
 obtain ⟨c,h⟩:=hh
 obtain ⟨_,⟨b,us,p1,p2,p3,p4⟩,_⟩:=h.tok i _ hi
 obtain ⟨v0,p5,a0,p6⟩:=qB cs us o _ p3 hc
 have hne':¬id=i:=fun e=>by rw [e] at hne;simp at hne
 have hle:c.Le (c.add id v0 (fun _=>False)):=Cx.add_le (fun hA=>h.all id hA hf)
 have h1:=h.new (i:=id) hf (t:=.row z e []) (v:=v0) (S:=fun _=>False) (.inl ⟨rfl,a0,by simpa using p6⟩) (fun b hb=>hb.elim) (fun j u _ b hb=>hb.elim)
 have hi':al ((id,.tk (.row z e [])) :: σ) i=some (.tk (.bx cs)):=by rw [ab,if_neg hne'];exact hi
 refine ⟨_,h1.upd hi' ⟨rfl,rfl,rfl,Nat.le_refl _,fun _ _ _=>rfl⟩ rfl (fun _=>⟨b,us,(if_neg (Ne.symm hne')).trans p1,?_,?_,p4⟩)⟩
 ·show (if i=id then _ else c.T i) b
  rw [if_neg (Ne.symm hne')];exact p2
 ·have:=jY cs us o (.k id) v0 (Sy.keeps hle (fun _ _ _=>rfl) _ _ p3) ⟨.inr rfl,(if_pos rfl).symm⟩
  rw [rg p5] at this
  exact this
theorem Holds.nilS {W0:cz} {N t z e id:Nat} {σ:Env} {a:Act} {w:World} (ht:al σ t=some (.sy (.d (.n z)))) (hf:al σ id=none) (hne:Nat.beq id t=false) (hh:Holds W0 N σ a w):Holds W0 N ((t,.sy (.k id)) :: (id,.tk (.row z e [])) :: σ) a w:=by
 obtain ⟨c,h⟩:=hh
 have hne':¬id=t:=fun e=>by rw [e] at hne;simp at hne
 obtain ⟨v,h3,a0,h4⟩:=h.tmp t _ ht
 have h1:=h.new (i:=id) hf (t:=.row z e []) (v:=v) (S:=fun _=>False) (.inl ⟨rfl,a0,by simpa using h4⟩) (fun b hb=>hb.elim) (fun j u _ b hb=>hb.elim)
 have hput:=h1.put (d:=t) (s:=.k id) (v:=v) (by rw [← h.size];exact (Array.getElem?_eq_some_iff.1 h3).1) ⟨.inr rfl,(if_pos rfl).symm⟩ (.inr ⟨.d (.n z),by rw [ab,if_neg hne'];exact ht⟩)
 have e:a.put (some t) v=a:=qX (iZ _ _ _) (fun j=>by
  simp only [Act.put]
  by_cases hj:t=j
  ·subst hj
   rw [Array.getElem?_setIfInBounds_self_of_lt (Array.getElem?_eq_some_iff.1 h3).1,h3]
  ·rw [Array.getElem?_setIfInBounds_ne hj])
 rw [e] at hput
 exact ⟨_,hput⟩
theorem Holds.fzB {W0:cz} {N i o n e j:Nat} {σ:Env} {cs:List Sy} {ds:List D} {a:Act} {w:World} (hi:al σ i=some (.tk (.bx cs))) (hc:cs[o]? = some (.k j)) (hj:al σ j=some (.tk (.row n e ds))) (hne:Nat.beq j i=false) (hh:Holds W0 N σ a w):Holds W0 N ((i,.tk (.bx (cs.set o (.d (.l n ds))))) :: (j,.no) :: σ) a w:=by
 obtain ⟨c,h⟩:=hh
 have hr:=cK (h.tok j _ hj).2.1
 have h1:=h.freeze hj
 have hne':¬j=i:=fun e=>by rw [e] at hne;simp at hne
 have hi':al ((j,.no) :: σ) i=some (.tk (.bx cs)):=by rw [ab,if_neg hne'];exact hi
 refine ⟨_,h1.upd hi' ⟨rfl,rfl,rfl,Nat.le_refl _,fun _ _ _=>rfl⟩ rfl (fun _=>?_)⟩
 obtain ⟨_,⟨b,us,q1,q2,q3,q4⟩,_⟩:=h1.tok i _ hi'
 obtain ⟨v,g1,_,g2⟩:=qB cs us o _ q3 hc
 refine ⟨b,us,q1,q2,?_,q4⟩
 have:=jY cs us o (.d (.l n ds)) v q3 (by rw [g2];exact hr)
 rw [rg g1] at this
 exact this
theorem yg {ρ:Operand→Value} {w:World} {dd:Option Tmp} {x y:Operand} {e z len cap n:Nat} {ad:Option Addr} (he:elem? P ty'=some e) (hz:sizeOf? P e=some z) (h1:ρ x=.slice ad len cap) (h2:ρ y=.int .i64 n) (hn:n≤cap):(execOp ρ ⟨dd,.slice ty' x none (some y) none,ty,pos,after,g⟩).run P w=.ok (.value (.slice (if cap=0 then ad else ad.map (·.add 0)) n cap)) w:=by
 replace hz:=cY hz
 rw [Option.map_eq_some_iff] at hz
 obtain ⟨i,hi,hz⟩:=hz
 have hn':(n:Int)≤(cap:Int):=by omega
 simp [execOp,Instr.sliceAt,Instr.slice,run_underlying (dE he),Instr.sliceBounds,Instr.sliceBound,asIntOf,hn,h1,h2,sizeOf,typeInfo,hi,hz,go_sem]
theorem yv {ρ:Operand→Value} {w:World} {dd:Option Tmp} {x y:Operand} {e z len cap n:Nat} {ad:Option Addr} (he:elem? P ty'=some e) (hz:sizeOf? P e=some z) (h1:ρ x=.slice ad len cap) (h2:ρ y=.int .i64 n) (hn:n≤len):(execOp ρ ⟨dd,.slice ty' x (some y) none none,ty,pos,after,g⟩).run P w=.ok (.value (.slice (if cap=n then ad else ad.map (·.add (n * z))) (len - n) (cap - n))) w:=by
 replace hz:=cY hz
 rw [Option.map_eq_some_iff] at hz
 obtain ⟨i,hi,hz⟩:=hz
 have hn':(n:Int)≤(len:Int):=by omega
 simp [execOp,Instr.sliceAt,Instr.slice,run_underlying (dE he),Instr.sliceBounds,Instr.sliceBound,asIntOf,hn,h1,h2,sizeOf,typeInfo,hi,hz,go_sem]
theorem bE {α:Type} {f:α→D} {l:List α} {x y:Operand} {z e n:Nat} {s:Sy} (h:Der P ops W0 N Fin os (us++[((d :: (gk++(kx x++kx y)))++pk,([d])++fk)]) [] [] ((d,.sy (.d (.l z ((l.take n).map f)))) :: σ)) (hx:ev σ x=some (.d (.l z (l.map f))):=by rfl) (hy:ev σ y=some s:=by rfl) (hi:s.int? = some (n:Int):=by rfl) (he:elem? P ty'=some e:=by rfl) (hz:sizeOf? P e=some z:=by rfl) (hn:n≤l.length:=by first|assumption|omega) (hg:gst ops σ g=some (true,gk):=by rfl) (hN:Nat.blt d N=true:=by rfl) (hs:aF σ d=true:=by rfl):Der P ops W0 N Fin (⟨some d,.slice ty' x none (some y) none,ty,pos,after,g⟩ :: os) us pk fk σ:=
 cr (.d (.l z ((l.take n).map f))) (kx x++kx y) (fun σ' c a w hk hc=>by
  obtain ⟨ad,k,h1,h2,h3,h4,h5⟩:=ap hc (ah hx (fun κ hκ=>hk κ (by simp [hκ])))
  have h6:=df hi (ap hc (ah hy (fun κ hκ=>hk κ (by simp [hκ]))))
  rw [List.length_map] at h1 h2
  have h1':a.eval x=.slice ad l.length k:=by simpa using h1
  have hl:((l.take n).map f).length=n:=by rw [List.length_map,List.length_take];omega
  refine ⟨_,yg he hz h1' h6 (by omega),(if k=0 then ad else ad.map (·.add 0)),k,by rw [hl],by rw [hl];omega,h3,fun h=>?_,?_⟩
  ·split at h
   ·exact h4 h
   ·cases ad with
    | none=>exact h4 rfl
    | some b=>cases h
  ·by_cases hn0:n=0
   ·left;subst hn0;rfl
   ·rcases h5 with h5|⟨b,o,rfl,g1,g2⟩
    ·rw [List.map_eq_nil_iff] at h5;rw [h5] at hn;simp at hn;omega
    ·right
     refine ⟨b,o,?_,g1,(gB _ _).2 fun j hj=>?_⟩
     ·split
      ·rfl
      ·simp [Addr.add]
     ·rw [hl] at hj
      obtain ⟨cs,q1,q2,q3⟩:=(gB _ _).1 g2 j (by rw [List.length_map];omega)
      rw [List.getElem_map] at q2
      refine ⟨cs,q1,?_,q3⟩
      rw [List.getElem_map,List.getElem_take];exact q2) h hg hN hs
theorem bM {α:Type} {f:α→D} {l:List α} {x y:Operand} {z e n:Nat} {s:Sy} (h:Der P ops W0 N Fin os (us++[((d :: (gk++(kx x++kx y)))++pk,([d])++fk)]) [] [] ((d,.sy (.d (.l z ((l.drop n).map f)))) :: σ)) (hx:ev σ x=some (.d (.l z (l.map f))):=by rfl) (hy:ev σ y=some s:=by rfl) (hi:s.int? = some (n:Int):=by rfl) (he:elem? P ty'=some e:=by rfl) (hz:sizeOf? P e=some z:=by rfl) (hn:n≤l.length:=by first|assumption|omega) (hg:gst ops σ g=some (true,gk):=by rfl) (hN:Nat.blt d N=true:=by rfl) (hs:aF σ d=true:=by rfl):Der P ops W0 N Fin (⟨some d,.slice ty' x (some y) none none,ty,pos,after,g⟩ :: os) us pk fk σ:=
 cr (.d (.l z ((l.drop n).map f))) (kx x++kx y) (fun σ' c a w hk hc=>by
  obtain ⟨ad,k,h1,h2,h3,h4,h5⟩:=ap hc (ah hx (fun κ hκ=>hk κ (by simp [hκ])))
  have h6:=df hi (ap hc (ah hy (fun κ hκ=>hk κ (by simp [hκ]))))
  rw [List.length_map] at h1 h2
  have h1':a.eval x=.slice ad l.length k:=by simpa using h1
  have hl:((l.drop n).map f).length=l.length - n:=by rw [List.length_map,List.length_drop]
  refine ⟨_,yv he hz h1' h6 hn,(if k=n then ad else ad.map (·.add (n * z))),k - n,by rw [hl],by rw [hl];omega,by omega,fun h=>?_,?_⟩
  ·split at h
   ·omega
   ·cases ad with
    | none=>have:=h4 rfl;omega
    | some b=>cases h
  ·by_cases hn0:n=l.length
   ·left;subst hn0;simp
   ·rcases h5 with h5|⟨b,o,rfl,g1,g2⟩
    ·rw [List.map_eq_nil_iff] at h5;rw [h5] at hn hn0;simp at hn hn0;omega
    ·right
     refine ⟨b,o+n * z,?_,g1,(gB _ _).2 fun j hj=>?_⟩
     ·rw [if_neg (by omega)]
      simp only [Option.map_some,Addr.add]
      split
      ·rename_i h0;rw [h0];rfl
      ·rfl
     ·rw [hl] at hj
      obtain ⟨cs,q1,q2,q3⟩:=(gB _ _).1 g2 (n+j) (by rw [List.length_map];omega)
      rw [List.getElem_map] at q2
      refine ⟨cs,q1,?_,?_⟩
      ·rw [List.getElem_map,List.getElem_drop];exact q2
      ·rw [show o+n * z+j * z=o+(n+j) * z by rw [Nat.add_mul];omega];exact q3) h hg hN hs
end
end Go.Proofs.YtnobdioccfeokaaGreatDoor
