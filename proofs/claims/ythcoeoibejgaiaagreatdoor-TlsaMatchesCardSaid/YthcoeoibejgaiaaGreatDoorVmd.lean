/- The virtual machine of this work, continued: contracts of the standard library in its tables. -/
import Derived.Test.YthcoeoibejgaiaaGreatDoorVmc
import Derived.Shelf.Strings.OnBuilder
namespace Go.Vm
variable [G:Glob] [Φ:Frz]
set_option linter.unusedSectionVars false
set_option linter.unusedVariables false
open Go.RowKit
def jY:List V→Option (List (List UInt8))
 |[]=>some []
 |.str l::r=>match jY r with
  |some s=>some (l::s)
  |none=>none
 |_=>none
theorem nS:∀{cs:List V} {ls:List (List UInt8)},jY cs=some ls→cs.length=ls.length∧∀(j:Nat) (l:List UInt8),ls[j]?=some l→cs[j]?=some (.str l)
 |[],ls,h=>by simp only[jY,Option.some.injEq]at h;subst h;exact⟨rfl,fun j l hl=>by simp at hl⟩
 |v::r,ls,h=>by
  cases v<;>simp only[jY]at h<;>try cases h
  rename_i l0;cases h1:jY r with
  |none=>simp[h1]at h
  |some s=>
   simp only[h1,Option.some.injEq]at h;subst h;obtain⟨k1,k2⟩:=nS h1;refine⟨by simp[k1],fun j l hl=>?_⟩;cases j with
   |zero=>simp only[List.getElem?_cons_zero,Option.some.injEq]at hl ⊢;rw[hl]
   |succ j=>simpa using k2 j l (by simpa using hl)
def JoinOk(P:Program)(g:FuncId):Prop:=∀(bk o c:Nat) (xs:List ByteArray) (sep:ByteArray) (w:World),(∀(j:Nat) x,xs[j]?=some x→w.cell? ⟨bk,o+j,none⟩=some (.string x))→bk<w.heap.size→xs.length≤140737488355328→xs.length≤c→
 (Lib.join (xs.map (·.data.toList)) sep.data.toList).length≤140737488355328→Calls P g #[.slice (some ⟨bk,o,none⟩) xs.length c,.string sep] w fun e w'=>e=.returned (.string ⟨(Lib.join (xs.map (·.data.toList)) sep.data.toList).toArray⟩)∧Below w.heap.size w w'
def joinB(off n:Nat)(cs:List V)(sep r:List UInt8):Bool:=match jY ((cs.drop off).take n)with
 |some ls=>Nat.beq ls.length n&&(Nat.blt 0 n&&(Nat.ble n 140737488355328&&(Nat.ble r.length 140737488355328&&eqS (Lib.join ls sep) r)))
 |none=>false
theorem join_ent{P:Program}{g:FuncId}(hj:JoinOk P g){off n c z:Nat}{ex:Bool}{sep r:List UInt8}{cs:List V}(h:joinB off n cs sep r=true):cd P ⟨g,[.slice 0 off n ex c z,.str sep],[.ro false cs],.str r,[]⟩:=by
 unfold joinB at h;cases hs:jY ((cs.drop off).take n)with
 |none=>simp[hs]at h
 |some ls=>
  simp only[hs,Bool.and_eq_true]at h;obtain⟨h1,h2,h3,h4,h5⟩:=h;have h1:=Nat.eq_of_beq_eq_true h1;have h2:0<n:=Nat.le_of_ble_eq_true h2;have h3:=Nat.le_of_ble_eq_true h3;have h4:=Nat.le_of_ble_eq_true h4;have h5:=ph h5;obtain⟨_,hget⟩:=nS hs;intro B W0 m w rargs hargs hr;obtain⟨a1,r1,g1,g2,rfl⟩:=aj hargs;obtain⟨a2,r2,g3,g4,rfl⟩:=aj g2;simp only[ai,Option.some.injEq]at g4;subst g4;cases dM g3;obtain⟨e,cap,he,hcap,hle,rfl⟩:=bt g1;have hcp:cap≠0:=by omega
  rw[if_neg hcp];obtain⟨e',he',hok⟩:=hr.at (i:=0) (b:=.ro false cs) rfl;rw[bD he]at he';cases he';obtain⟨_,arr,t,fz,hheap,hcell⟩:=hok;have hcells:∀(j:Nat) (x:ByteArray),(ls.map fun l=>(⟨l.toArray⟩:ByteArray))[j]?=some x→w.cell? ⟨e.blk,e.off+off+j,none⟩=some (.string x):=by
   intro j x hx;rw[List.getElem?_map]at hx;cases hl:ls[j]? with
   |none=>simp[hl]at hx
   |some l=>
    simp only[hl,Option.map_some,Option.some.injEq]at hx;subst hx;have hc:=hget j l hl;have hjn:j<n:=by rw[←h1];exact(List.getElem?_eq_some_iff.1 hl).1
    rw[List.getElem?_take,if_pos hjn,List.getElem?_drop]at hc;obtain⟨y,hy,ha⟩:=hcell (off+j) _ hc;simp only[real,Option.some.injEq]at hy;subst hy;rw[cell_of_row w e.blk _ arr t fz hheap,Nat.add_assoc];exact ha
  have hlen:(ls.map fun l=>(⟨l.toArray⟩:ByteArray)).length=n:=by rw[List.length_map];exact h1
  have hmap:(ls.map fun l=>(⟨l.toArray⟩:ByteArray)).map (·.data.toList)=ls:=by
   rw[List.map_map];have:((fun x:ByteArray=>x.data.toList)∘fun l:List UInt8=>(⟨l.toArray⟩:ByteArray))=id:=by funext l;simp
   rw[this,List.map_id]
  have hcall:=hj e.blk (e.off+off) cap (ls.map fun l=>(⟨l.toArray⟩:ByteArray)) ⟨sep.toArray⟩ w hcells (Array.getElem?_eq_some_iff.1 hheap).1 (by omega) (by omega) (by rw[hmap];rw[h5];exact h4);rw[hlen,hmap]at hcall;rw[h5]at hcall;refine hcall.mono ?_;rintro e2 w' ⟨rfl,hb⟩;refine⟨.str r,.string ⟨r.toArray⟩,m,[.dead],rfl,Ext.refl m,rfl,(hr.later hb).kill 0,rfl⟩
end Go.Vm
