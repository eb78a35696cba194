/- A chain's certificates: what they come to. -/
import Derived.Test.YtebkeppoicllmaaDoorDec
import Derived.Test.YtebkeppoicllmaaDoorLinkA
namespace Go.Proofs.YtebkeppoicllmaaDoor
open Go.IntKind (u8 u16 u32 u64 i8 i16 i32 i64)
open Go Go.Vm Go.RowKit
set_option linter.unusedVariables false
set_option maxRecDepth 100000
set_option linter.unusedSectionVars false
variable [Φ:Frz]
theorem weak_sat{P:Program}{g:FuncId}{args:List V}{v v':V}{s s':St}(h:FnSat P g args [] (Is (v,s)))(H:∀(B:Nat) (W0 w:World) (m:List MB) (x:Value),Rel B W0 m s w→real m v=some x→∃m',Rel B W0 m' s' w∧real m' v'=some x):FnSat P g args [] (Is (v',s')):=by
 intro B W0 m w rargs ha hr;refine(h B W0 m w rargs ha hr).mono ?_;rintro e w' ⟨u,x,m1,s1,rfl,_,h2,h3,hq⟩;cases hq;obtain⟨m2,h4,h5⟩:=H B W0 w' m1 x h3 h2;have hm:m=[]:=List.eq_nil_of_length_eq_zero hr.len;subst hm;exact⟨v',x,m2,s',rfl,fun i e hi=>by simp at hi,h5,h4,rfl⟩
theorem ro_rel{B:Nat}{W0 w:World}{m:List MB}{cs:List V}{t:TypeId}{sz:Nat}(h:Rel B W0 m [.row cs t sz] w):Rel B W0 m [.ro true cs] w:=by
 refine⟨h.len,h.base,h.below,fun i b e hb he=>?_,fun i j b c d e _ h1 h2 _ _ _ _=>?_,h.glob⟩
 ·match i,hb with
  |0,hb=>
   simp only[List.getElem?_cons_zero,Option.some.injEq]at hb;subst hb;have h1:=h.blk 0 _ e rfl he;obtain⟨_,arr,ty,fz,g1,g2⟩:=h1.toRo B;exact⟨fun _=>h1.1,arr,ty,fz,g1,g2⟩
  |i+1,hb=>simp at hb
 ·match i,h1 with
  |0,h1=>
   simp only[List.getElem?_cons_zero,Option.some.injEq]at h1;subst h1;cases h2
  |i+1,h1=>simp at h1
def outN(s:List UInt8):V×St:=(.tuple [.agg [.str (dK s),.str (dG s),.nos 0 (dN s),.int .i64 (dF s),.int .i64 (dU s),.bool (dCa s)],.int .i64 0],[.ro true (strs (dL s))])
def decN:List V→Option (List (Bool×(V×St)))
 |[.str s]=>some [(Nat.blt 512 s.length,(.tuple [mK,.int .i64 40],[])),(decE s !=0,(.tuple [mK,.int .i64 4],[])),(true,outN s)]
 |_=>none
theorem tup_swap{m m':List MB}{k g:List UInt8}{p p':V}{f u e:Int}{ca:Bool}{x:Value}(H:∀y,real m p=some y→real m' p'=some y)(hx:real m (.tuple [.agg [.str k,.str g,p,.int .i64 f,.int .i64 u,.bool ca],.int .i64 e])=some x):
  real m' (.tuple [.agg [.str k,.str g,p',.int .i64 f,.int .i64 u,.bool ca],.int .i64 e])=some x:=by
 cases hp:real m p with
 |none=>simp[real,af,hp]at hx
 |some y=>
  have:=H y hp;simp only[real,af,hp]at hx;simp only[real,af,this];exact hx
theorem decN_ok(args:List V)(l:List (Bool×(V×St)))(o:V×St)(h:decN args=some l)(ho:aP l=some o):FnSat Tryd.prog 29 args [] (Is o):=by
 unfold decN at h;split at h
 ·rename_i s;cases h;have big:Nat.blt 512 s.length=decide ((s.length:Int)>512):=by
   cases hq:decide ((s.length:Int)>512)with
   |true=>have:=of_decide_eq_true hq;exact Nat.ble_eq_true_of_le (by omega)
   |false=>
    have:=of_decide_eq_false hq;cases hb:Nat.blt 512 s.length with
    |false=>rfl
    |true=>have:=Nat.le_of_ble_eq_true hb;omega
  cases hb:Nat.blt 512 s.length with
  |true=>
   rw[hb]at ho;cases ho;have he:decE s=40:=by unfold decE;rw[←big,hb];rfl
   exact oV [.str s] _ _ rfl (by rw[he];rfl)
  |false=>
  rw[hb]at ho;cases he:(decE s !=0)with
  |true=>
   rw[he]at ho;cases ho;have h4:decE s=4:=by
    unfold decE at he ⊢;rw[←big,hb,cond_false]at he ⊢;cases hc:decC s with
    |none=>rfl
    |some _=>rw[hc]at he;cases he
   exact oV [.str s] _ _ rfl (by rw[h4];rfl)
  |false=>
   rw[he]at ho;cases ho;cases hn:Nat.beq (dN s) 0 with
   |true=>
    have h0:dL s=[]:=List.eq_nil_of_length_eq_zero (Nat.eq_of_beq_eq_true hn);have hd:dN s=0:=Nat.eq_of_beq_eq_true hn;have hE:decE s=0:=by simpa using he
    obtain⟨c,hc⟩:=(jy s).1 hE;have hdc:dCd s=c:=by unfold dCd;rw[hc];rfl
    have hcl:c.l=[]:=by have:=h0;unfold dL at this;rw[hdc]at this;exact this
    have eo:outD s=(.tuple [.agg [.str (dK s),.str (dG s),.nilSlice,.int .i64 (dF s),.int .i64 (dU s),.bool (dCa s)],.int .i64 0],[]):=by
     unfold outD dK dG dF dU dCa;rw[hdc,hc];simp only[hcl]
    intro B W0 m w rargs ha hr;refine((gX aH F1_ok (de_all s)) B W0 m w rargs ha hr).mono ?_;rintro e w' ⟨u,x,m1,s1,rfl,_,h2,h3,hq⟩;obtain⟨b,hb⟩:=hq.2 hE (by rw[eo]);obtain⟨e1,hole,hrel⟩:=visF_rel h3 hb;have hm:m=[]:=List.eq_nil_of_length_eq_zero hr.len;subst hm;obtain⟨σ,us,k1,k2,_⟩:=hq.1;rw[eo]at k2;simp only[renL,renV,Option.some.injEq]at k2;subst k2;simp only[List.map_cons,List.map_nil,List.cons.injEq,Option.some.injEq,and_true]at k1;subst k1;refine⟨(outN s).1,x,[e1],(outN s).2,rfl,fun i e hi=>by simp at hi,?_,by unfold outN;rw[h0];exact hrel,rfl⟩;unfold outN;rw[hd];refine tup_swap (fun y hy=>?_) h2;simp only[real,Option.some.injEq]at hy;subst hy;simp[real,at?,hole]
   |false=>
    have h1:=oV [.str s] _ (.tuple [.agg [.str (dK s),.str (dG s),.slice 0 0 (dN s) false 0 0,.int .i64 (dF s),.int .i64 (dU s),.bool (dCa s)],.int .i64 0],[.row (strs (dL s)) 9 1]) rfl (by rw[he,hn];rfl);refine weak_sat h1 fun B W0 w m x hr hx=>?_;refine⟨m,ro_rel hr,tup_swap (fun y hy=>?_) hx⟩;obtain⟨e,cap,g1,g2,g3,rfl⟩:=a9 hy;have hd:dN s≠0:=fun h0=>by rw[h0]at hn;cases hn
    simp only[Bool.false_eq_true,if_false,Nat.sub_zero]at g2;subst g2;have hc:(if e.cap=0 then 0 else 0)=0:=by split<;>rfl
    simp only[real,g1,if_neg hd,if_pos g3,hc,Nat.add_zero]
 ·cases h
noncomputable def RD0:Tab:=⟨addT noT 29 decN,noL,bf 5⟩
theorem RD0_ok:TabOk3 Tryd.prog RD0:=⟨b8 aL decN_ok,aM,au 5⟩
def tk4(n:Nat)(cs:List V):List V:=List.take (((if 4<(↑n:Int)then 4 else(↑n:Int)).toNat-0)*1) cs
def el4(n:Nat)(cs:List V)(j:Nat):List UInt8:=aa ((tk4 n cs).getD j (V.bool false))
def ln4(n:Nat):Int:=if 4<(↑n:Int)then 4 else(↑n:Int)
theorem chain_tree(x:Value)(n:Nat)(cs:List V)(R:V→St→Prop):runM Tryd.prog RD0 5 10 17 [.lst x n cs] (fun v st=>R v (visD v st))=
  (
 bif decide (0≤if 4<(↑n:Int)then 4 else(↑n:Int))then bif true&&(ln4 n).toNat.ble n then bif decide (0<(↑((ln4 n).toNat-0):Int))then bif true&&decide
 (0<(↑((ln4 n).toNat-0):Int))then bif Nat.blt 0 (tk4 n cs).length then bif aw ((tk4 n cs).getD 0 (.bool false))then bif Nat.blt 512 (el4 n cs 0).length then R
 .nilSlice [.dead]else bif decE (el4 n cs 0)!=0 then R .nilSlice [.dead]else bif decide (1<(↑((ln4 n).toNat-0):Int))then bif true&&decide (1<(↑((ln4
 n).toNat-0):Int))then bif Nat.blt 1 (tk4 n cs).length then bif aw ((tk4 n cs).getD 1 (.bool false))then bif Nat.blt 512 (el4 n cs 1).length then R (.slice 3 0
 1 false 0 0) [.ro true (strs (dL (el4 n cs 0))),.dead,.dead,.row [.str ((dK (el4 n cs 0))),.str ((dG (el4 n cs 0))),.nos 0 (dN (el4 n cs 0)),.int
 i64 (dF (el4 n cs 0)),.int i64 (dU (el4 n cs 0)),.bool (dCa (el4 n cs 0))] 27 6,.dead]else bif decE (el4 n cs 1)!=0 then R (.slice 3 0 1 false
 0 0) [.ro true (strs (dL (el4 n cs 0))),.dead,.dead,.row [.str ((dK (el4 n cs 0))),.str ((dG (el4 n cs 0))),.nos 0 (dN (el4 n cs 0)),.int
 i64 (dF (el4 n cs 0)),.int i64 (dU (el4 n cs 0)),.bool (dCa (el4 n cs 0))] 27 6,.dead]else bif decide (2<(↑((ln4 n).toNat-0):Int))then bif
 true&&decide (2<(↑((ln4 n).toNat-0):Int))then bif Nat.blt 2 (tk4 n cs).length then bif aw ((tk4 n cs).getD 2 (.bool false))then bif Nat.blt 512 (el4 n cs
 2).length then R (.slice 7 0 2 false 0 0) [.ro true (strs (dL (el4 n cs 0))),.dead,.dead,.dead,.ro true (ac 4 (strs (dL (el4 n cs 1)))),.dead,
 .dead,.row [.str ((dK (el4 n cs 0))),.str ((dG (el4 n cs 0))),.nos 0 (dN (el4 n cs 0)),.int i64 (dF (el4 n cs 0)),.int i64 (dU (el4 n cs
 0)),.bool (dCa (el4 n cs 0)),.str ((dK (el4 n cs 1))),.str ((dG (el4 n cs 1))),.nos 4 (dN (el4 n cs 1)),.int i64 (dF (el4 n cs 1)),.int i64
 (dU (el4 n cs 1)),.bool (dCa (el4 n cs 1))] 27 6,.dead]else bif decE (el4 n cs 2)!=0 then R (.slice 7 0 2 false 0 0) [.ro true (strs (dL (el4 n cs 0))),
 .dead,.dead,.dead,.ro true (ac 4 (strs (dL (el4 n cs 1)))),.dead,.dead,.row [.str ((dK (el4 n cs 0))),.str ((dG (el4 n cs 0))),.nos 0
 (dN (el4 n cs 0)),.int i64 (dF (el4 n cs 0)),.int i64 (dU (el4 n cs 0)),.bool (dCa (el4 n cs 0)),.str ((dK (el4 n cs 1))),.str ((dG (el4 n cs
 1))),.nos 4 (dN (el4 n cs 1)),.int i64 (dF (el4 n cs 1)),.int i64 (dU (el4 n cs 1)),.bool (dCa (el4 n cs 1))] 27 6,.dead]else bif decide (3<
 (↑((ln4 n).toNat-0):Int))then bif true&&decide (3<(↑((ln4 n).toNat-0):Int))then bif Nat.blt 3 (tk4 n cs).length then bif aw ((tk4 n cs).getD 3 (.bool
 false))then bif Nat.blt 512 (el4 n cs 3).length then R (.slice 11 0 3 false 0 0) [.ro true (strs (dL (el4 n cs 0))),.dead,.dead,.dead,.ro true
 (ac 4 (strs (dL (el4 n cs 1)))),.dead,.dead,.dead,.ro true (ac 8 (strs (dL (el4 n cs 2)))),.dead,.dead,.row [.str ((dK (el4 n cs
 0))),.str ((dG (el4 n cs 0))),.nos 0 (dN (el4 n cs 0)),.int i64 (dF (el4 n cs 0)),.int i64 (dU (el4 n cs 0)),.bool (dCa (el4 n cs 0)),.str
 ((dK (el4 n cs 1))),.str ((dG (el4 n cs 1))),.nos 4 (dN (el4 n cs 1)),.int i64 (dF (el4 n cs 1)),.int i64 (dU (el4 n cs 1)),.bool (dCa (el4 n cs
 1)),.str ((dK (el4 n cs 2))),.str ((dG (el4 n cs 2))),.nos 8 (dN (el4 n cs 2)),.int i64 (dF (el4 n cs 2)),.int i64 (dU (el4 n cs 2)),.bool
 (dCa (el4 n cs 2))] 27 6,.dead]else bif decE (el4 n cs 3)!=0 then R (.slice 11 0 3 false 0 0) [.ro true (strs (dL (el4 n cs 0))),.dead,.dead,.dead,
 .ro true (ac 4 (strs (dL (el4 n cs 1)))),.dead,.dead,.dead,.ro true (ac 8 (strs (dL (el4 n cs 2)))),.dead,.dead,.row [.str ((dK
 (el4 n cs 0))),.str ((dG (el4 n cs 0))),.nos 0 (dN (el4 n cs 0)),.int i64 (dF (el4 n cs 0)),.int i64 (dU (el4 n cs 0)),.bool (dCa (el4 n cs 0)),
 .str ((dK (el4 n cs 1))),.str ((dG (el4 n cs 1))),.nos 4 (dN (el4 n cs 1)),.int i64 (dF (el4 n cs 1)),.int i64 (dU (el4 n cs 1)),.bool (dCa
 (el4 n cs 1)),.str ((dK (el4 n cs 2))),.str ((dG (el4 n cs 2))),.nos 8 (dN (el4 n cs 2)),.int i64 (dF (el4 n cs 2)),.int i64 (dU (el4 n cs 2)),
 .bool (dCa (el4 n cs 2))] 27 6,.dead]else bif decide (4<(↑((ln4 n).toNat-0):Int))then bif true&&decide (4<(↑((ln4 n).toNat-0):Int))then bif Nat.blt
 4 (tk4 n cs).length then bif aw ((tk4 n cs).getD 4 (.bool false))then bif Nat.blt 512 (el4 n cs 4).length then R (.slice 15 0 4 false 0 0) [.ro true (strs (dL
 (el4 n cs 0))),.dead,.dead,.dead,.ro true (ac 4 (strs (dL (el4 n cs 1)))),.dead,.dead,.dead,.ro true (ac 8 (strs (dL (el4 n cs
 2)))),.dead,.dead,.dead,.ro true (ac 12 (strs (dL (el4 n cs 3)))),.dead,.dead,.row [.str ((dK (el4 n cs 0))),.str ((dG (el4 n cs 0))),
 .nos 0 (dN (el4 n cs 0)),.int i64 (dF (el4 n cs 0)),.int i64 (dU (el4 n cs 0)),.bool (dCa (el4 n cs 0)),.str ((dK (el4 n cs 1))),.str ((dG (el4
 n cs 1))),.nos 4 (dN (el4 n cs 1)),.int i64 (dF (el4 n cs 1)),.int i64 (dU (el4 n cs 1)),.bool (dCa (el4 n cs 1)),.str ((dK (el4 n cs 2))),
 .str ((dG (el4 n cs 2))),.nos 8 (dN (el4 n cs 2)),.int i64 (dF (el4 n cs 2)),.int i64 (dU (el4 n cs 2)),.bool (dCa (el4 n cs 2)),.str ((dK (el4
 n cs 3))),.str ((dG (el4 n cs 3))),.nos 12 (dN (el4 n cs 3)),.int i64 (dF (el4 n cs 3)),.int i64 (dU (el4 n cs 3)),.bool (dCa (el4 n cs 3))] 27
 6,.dead]else bif decE (el4 n cs 4)!=0 then R (.slice 15 0 4 false 0 0) [.ro true (strs (dL (el4 n cs 0))),.dead,.dead,.dead,.ro true (ac 4
 (strs (dL (el4 n cs 1)))),.dead,.dead,.dead,.ro true (ac 8 (strs (dL (el4 n cs 2)))),.dead,.dead,.dead,.ro true (ac 12 (strs (dL
 (el4 n cs 3)))),.dead,.dead,.row [.str ((dK (el4 n cs 0))),.str ((dG (el4 n cs 0))),.nos 0 (dN (el4 n cs 0)),.int i64 (dF (el4 n cs 0)),.int
 i64 (dU (el4 n cs 0)),.bool (dCa (el4 n cs 0)),.str ((dK (el4 n cs 1))),.str ((dG (el4 n cs 1))),.nos 4 (dN (el4 n cs 1)),.int i64 (dF (el4 n cs
 1)),.int i64 (dU (el4 n cs 1)),.bool (dCa (el4 n cs 1)),.str ((dK (el4 n cs 2))),.str ((dG (el4 n cs 2))),.nos 8 (dN (el4 n cs 2)),.int i64
 (dF (el4 n cs 2)),.int i64 (dU (el4 n cs 2)),.bool (dCa (el4 n cs 2)),.str ((dK (el4 n cs 3))),.str ((dG (el4 n cs 3))),.nos 12 (dN (el4 n cs 3)),.int
 i64 (dF (el4 n cs 3)),.int i64 (dU (el4 n cs 3)),.bool (dCa (el4 n cs 3))] 27 6,.dead]else False else False else False else False else R (.slice
 15 0 4 false 0 0) [.ro true (strs (dL (el4 n cs 0))),.dead,.dead,.dead,.ro true (ac 4 (strs (dL (el4 n cs 1)))),.dead,.dead,.dead,
 .ro true (ac 8 (strs (dL (el4 n cs 2)))),.dead,.dead,.dead,.ro true (ac 12 (strs (dL (el4 n cs 3)))),.dead,.dead,.row [.str ((dK
 (el4 n cs 0))),.str ((dG (el4 n cs 0))),.nos 0 (dN (el4 n cs 0)),.int i64 (dF (el4 n cs 0)),.int i64 (dU (el4 n cs 0)),.bool (dCa (el4 n cs 0)),
 .str ((dK (el4 n cs 1))),.str ((dG (el4 n cs 1))),.nos 4 (dN (el4 n cs 1)),.int i64 (dF (el4 n cs 1)),.int i64 (dU (el4 n cs 1)),.bool (dCa
 (el4 n cs 1)),.str ((dK (el4 n cs 2))),.str ((dG (el4 n cs 2))),.nos 8 (dN (el4 n cs 2)),.int i64 (dF (el4 n cs 2)),.int i64 (dU (el4 n cs 2)),
 .bool (dCa (el4 n cs 2)),.str ((dK (el4 n cs 3))),.str ((dG (el4 n cs 3))),.nos 12 (dN (el4 n cs 3)),.int i64 (dF (el4 n cs 3)),.int i64 (dU
 (el4 n cs 3)),.bool (dCa (el4 n cs 3))] 27 6]else False else False else False else R (.slice 11 0 3 false 0 0) [.ro true (strs (dL (el4 n cs 0))),.dead,
 .dead,.dead,.ro true (ac 4 (strs (dL (el4 n cs 1)))),.dead,.dead,.dead,.ro true (ac 8 (strs (dL (el4 n cs 2)))),.dead,.dead,
 .row [.str ((dK (el4 n cs 0))),.str ((dG (el4 n cs 0))),.nos 0 (dN (el4 n cs 0)),.int i64 (dF (el4 n cs 0)),.int i64 (dU (el4 n cs 0)),.bool
 (dCa (el4 n cs 0)),.str ((dK (el4 n cs 1))),.str ((dG (el4 n cs 1))),.nos 4 (dN (el4 n cs 1)),.int i64 (dF (el4 n cs 1)),.int i64 (dU (el4 n cs
 1)),.bool (dCa (el4 n cs 1)),.str ((dK (el4 n cs 2))),.str ((dG (el4 n cs 2))),.nos 8 (dN (el4 n cs 2)),.int i64 (dF (el4 n cs 2)),.int i64
 (dU (el4 n cs 2)),.bool (dCa (el4 n cs 2))] 27 6]else False else False else False else R (.slice 7 0 2 false 0 0) [.ro true (strs (dL (el4 n cs 0))),.dead,
 .dead,.dead,.ro true (ac 4 (strs (dL (el4 n cs 1)))),.dead,.dead,.row [.str ((dK (el4 n cs 0))),.str ((dG (el4 n cs 0))),.nos 0 (dN (el4 n
 cs 0)),.int i64 (dF (el4 n cs 0)),.int i64 (dU (el4 n cs 0)),.bool (dCa (el4 n cs 0)),.str ((dK (el4 n cs 1))),.str ((dG (el4 n cs 1))),.nos 4
 (dN (el4 n cs 1)),.int i64 (dF (el4 n cs 1)),.int i64 (dU (el4 n cs 1)),.bool (dCa (el4 n cs 1))] 27 6]else False else False else False else R
 (.slice 3 0 1 false 0 0) [.ro true (strs (dL (el4 n cs 0))),.dead,.dead,.row [.str ((dK (el4 n cs 0))),.str ((dG (el4 n cs 0))),.nos 0 (dN (el4 n cs
 0)),.int i64 (dF (el4 n cs 0)),.int i64 (dU (el4 n cs 0)),.bool (dCa (el4 n cs 0))] 27 6]else False else False else False else R .nilSlice []else
 False else False):=by kernel_rfl
def fM:List (List UInt8)→List (List UInt8)
 |[]=>[]
 |s::r=>bif decE s==0 then s::fM r else[]
def ko(l:List (List UInt8)):List (List UInt8):=fM (l.take 4)
def rdG(l:List (List UInt8))(j:Nat):List UInt8:=l.getD j []
def rdA(s:List UInt8)(k:Nat)(r:List V):List V:=.str (dK s)::.str (dG s)::.nos k (dN s)::.int .i64 (dF s)::.int .i64 (dU s)::.bool (dCa s)::r
def rdO(l:List (List UInt8)):Nat→V×St
 |0=>(.nilSlice,[])
 |1=>(.slice 0 0 1 false 0 0,[.row (rdA (rdG l 0) 1 []) 27 6,.ro true (strs (dL (rdG l 0)))])
 |2=>(.slice 0 0 2 false 0 0,[.row (rdA (rdG l 0) 1 (rdA (rdG l 1) 2 [])) 27 6,.ro true (strs (dL (rdG l 0))),.ro true (strs (dL (rdG l 1)))])
 |3=>(.slice 0 0 3 false 0 0,[.row (rdA (rdG l 0) 1 (rdA (rdG l 1) 2 (rdA (rdG l 2) 3 []))) 27 6,.ro true (strs (dL (rdG l 0))),.ro true (strs (dL (rdG l 1))),.ro true (strs (dL (rdG l 2)))])
 |_=>(.slice 0 0 4 false 0 0,[.row (rdA (rdG l 0) 1 (rdA (rdG l 1) 2 (rdA (rdG l 2) 3 (rdA (rdG l 3) 4 [])))) 27 6,.ro true (strs (dL (rdG l 0))),.ro true (strs (dL (rdG l 1))),.ro true (strs (dL (rdG l 2))),.ro true (strs (dL (rdG l 3)))])
def rdN(l:List (List UInt8)):Nat:=(ko l).length
def readT:List V→Option (List (Bool×(V×St)))
 |[.lst _ n cs]=>some [(okS n cs&&Nat.beq (rdN (cs.map aa)) 0,rdO (cs.map aa) 0),(okS n cs&&Nat.beq (rdN (cs.map aa)) 1,rdO (cs.map aa) 1),(okS n cs&&Nat.beq (rdN (cs.map aa)) 2,rdO (cs.map aa) 2),(okS n cs&&Nat.beq (rdN (cs.map aa)) 3,rdO (cs.map aa) 3),(okS n cs,rdO (cs.map aa) 4)]
 |_=>none
theorem goodP_le:∀l:List (List UInt8),(fM l).length≤l.length
 |[]=>Nat.le_refl _
 |s::r=>by
  have:=goodP_le r;rw[fM];cases decE s==0 with
  |true=>simpa using this
  |false=>simp
theorem rdN_le(l:List (List UInt8)):rdN l≤4∧rdN l≤l.length:=by
 have:=goodP_le (l.take 4);rw[List.length_take]at this;unfold rdN ko;omega
theorem lY:∀(l:List (List UInt8)) (j:Nat),(∀i,i<j→∃s,l[i]?=some s∧decE s=0)→(l[j]?=none∨∃s,l[j]?=some s∧decE s≠0)→(fM l).length=j
 |[],j,h1,h2=>by
  cases j with
  |zero=>rfl
  |succ j=>obtain⟨s,hs,_⟩:=h1 0 (by omega);simp at hs
 |a::r,0,h1,h2=>by
  rcases h2 with h2|⟨s,hs,he⟩
  ·simp at h2
  ·simp only[List.getElem?_cons_zero,Option.some.injEq]at hs;subst hs;have:(decE a==0)=false:=by simpa using he
   rw[fM,this];rfl
 |a::r,j+1,h1,h2=>by
  obtain⟨s,hs,he⟩:=h1 0 (by omega);simp only[List.getElem?_cons_zero,Option.some.injEq]at hs;subst hs;have:(decE a==0)=true:=by simpa using he
  rw[fM,this,cond_true,List.length_cons,lY r j (fun i hi=>by have:=h1 (i+1) (by omega);simpa using this) (by simpa using h2)]
theorem lA(st:St):Fits 0 [V.nilSlice] [] [some V.nilSlice] st:=bD [.nilSlice] rfl _ rfl st
theorem lz(l:List (List UInt8))(st:St)(h0:st[0]?=some (.ro true (strs (dL (rdG l 0)))))(hr:st[3]?=some (.row (rdA (rdG l 0) 0 []) 27 6)):Fits 0 [(rdO l 1).1] (rdO l 1).2 [some (.slice 3 0 1 false 0 0)] st:=
 ⟨[3,0],[.slice 3 0 1 false 0 0],rfl,rfl,FitsM.of ⟨.inr ⟨.row (rdA (rdG l 0) 0 []) 27 6,.inl rfl,hr⟩,.inr ⟨.ro true (strs (dL (rdG l 0))),.inl (by simp only[renB,av _ (bB _)]),h0⟩,trivial⟩,by simp,fun i hi=>by omega⟩
theorem ly(l:List (List UInt8))(st:St)(h0:st[0]?=some (.ro true (strs (dL (rdG l 0)))))(h1:st[4]?=some (.ro true (strs (dL (rdG l 1)))))(hr:st[7]?=some (.row (rdA (rdG l 0) 0 (rdA (rdG l 1) 4 [])) 27 6)):Fits 0 [(rdO l 2).1] (rdO l 2).2 [some (.slice 7 0 2 false 0 0)] st:=
 ⟨[7,0,4],[.slice 7 0 2 false 0 0],rfl,rfl,FitsM.of ⟨.inr ⟨.row (rdA (rdG l 0) 0 (rdA (rdG l 1) 4 [])) 27 6,.inl rfl,hr⟩,.inr ⟨.ro true (strs (dL (rdG l 0))),.inl (by simp only[renB,av _ (bB _)]),h0⟩,.inr ⟨.ro true (strs (dL (rdG l 1))),.inl (by simp only[renB,av _ (bB _)]),h1⟩,trivial⟩,by simp,fun i hi=>by omega⟩
theorem lw(l:List (List UInt8))(st:St)(h0:st[0]?=some (.ro true (strs (dL (rdG l 0)))))(h1:st[4]?=some (.ro true (strs (dL (rdG l 1)))))(h2:st[8]?=some (.ro true (strs (dL (rdG l 2)))))(hr:st[11]?=some (.row (rdA (rdG l 0) 0 (rdA (rdG l 1) 4 (rdA (rdG l 2) 8 []))) 27 6)):Fits 0 [(rdO l 3).1] (rdO l 3).2 [some (.slice 11 0 3 false 0 0)] st:=
 ⟨[11,0,4,8],[.slice 11 0 3 false 0 0],rfl,rfl,FitsM.of ⟨.inr ⟨.row (rdA (rdG l 0) 0 (rdA (rdG l 1) 4 (rdA (rdG l 2) 8 []))) 27 6,.inl rfl,hr⟩,.inr ⟨.ro true (strs (dL (rdG l 0))),.inl (by simp only[renB,av _ (bB _)]),h0⟩,.inr ⟨.ro true (strs (dL (rdG l 1))),.inl (by simp only[renB,av _ (bB _)]),h1⟩,.inr ⟨.ro true (strs (dL (rdG l 2))),.inl (by simp only[renB,av _ (bB _)]),h2⟩,trivial⟩,by simp,fun i hi=>by omega⟩
theorem rd_fits4(l:List (List UInt8))(st:St)(h0:st[0]?=some (.ro true (strs (dL (rdG l 0)))))(h1:st[4]?=some (.ro true (strs (dL (rdG l 1)))))(h2:st[8]?=some (.ro true (strs (dL (rdG l 2)))))(h3:st[12]?=some (.ro true (strs (dL (rdG l 3)))))(hr:st[15]?=some (.row (rdA (rdG l 0) 0 (rdA (rdG l 1) 4 (rdA (rdG l 2) 8 (rdA (rdG l 3) 12 [])))) 27 6)):Fits 0 [(rdO l 4).1] (rdO l 4).2 [some (.slice 15 0 4 false 0 0)] st:=
 ⟨[15,0,4,8,12],[.slice 15 0 4 false 0 0],rfl,rfl,FitsM.of ⟨.inr ⟨.row (rdA (rdG l 0) 0 (rdA (rdG l 1) 4 (rdA (rdG l 2) 8 (rdA (rdG l 3) 12 [])))) 27 6,.inl rfl,hr⟩,.inr ⟨.ro true (strs (dL (rdG l 0))),.inl (by simp only[renB,av _ (bB _)]),h0⟩,.inr ⟨.ro true (strs (dL (rdG l 1))),.inl (by simp only[renB,av _ (bB _)]),h1⟩,.inr ⟨.ro true (strs (dL (rdG l 2))),.inl (by simp only[renB,av _ (bB _)]),h2⟩,.inr ⟨.ro true (strs (dL (rdG l 3))),.inl (by simp only[renB,av _ (bB _)]),h3⟩,trivial⟩,by simp,fun i hi=>by omega⟩
theorem shiftS(k:Nat):∀l:List (List UInt8),ac k (strs l)=strs l
 |[]=>rfl
 |a::r=>by
  have:=shiftS k r;unfold strs at this ⊢;simp only[List.map_cons,ac,V.shift,this]
theorem rd_at{l:List (List UInt8)}{j:Nat}(h:j<min 4 l.length):(l.take 4)[j]?=some (rdG l j):=by
 rw[List.getElem?_take,if_pos (by omega),List.getElem?_eq_getElem (by omega)];unfold rdG;rw[List.getD_eq_getElem?_getD,List.getElem?_eq_getElem (by omega)];rfl
theorem dE{l:List (List UInt8)}{j:Nat}(hj:j≤min 4 l.length)(h:∀i,i<j→decE (rdG l i)=0)(h2:j=min 4 l.length∨decE (rdG l j)≠0):rdN l=j:=by
 unfold rdN ko;refine lY _ j (fun i hi=>⟨rdG l i,rd_at (by omega),h i hi⟩) ?_;by_cases hq:j=min 4 l.length
 ·exact .inl (by rw[List.getElem?_eq_none];rw[List.length_take];omega)
 ·rcases h2 with h2|h2
  ·exact absurd h2 hq
  ·exact .inr ⟨rdG l j,rd_at (by omega),h2⟩
theorem kY{s:List UInt8}(h:Nat.blt 512 s.length=true):decE s≠0:=by
 have:=Nat.le_of_ble_eq_true h;have:decide ((s.length:Int)>512)=true:=decide_eq_true (by omega);unfold decE;rw[this,cond_true];decide
theorem readT_ok(args:List V)(L:List (Bool×(V×St)))(o:V×St)(h:readT args=some L)(ho:aP L=some o):FnSat Tryd.prog 17 args [] (Is o):=by
 unfold readT at h;split at h
 ·rename_i x n cs;cases h;cases hk:okS n cs with
  |false=>rw[hk]at ho;simp[aP]at ho
  |true=>
  rw[hk]at ho;simp only[Bool.true_and]at ho;obtain⟨l,rfl,rfl,p2,p3⟩:=fa hk;rw[aA]at ho;have fin:∀j,rdN l=j→o=rdO l j:=by
   intro j hj;have h4:=(rdN_le l).1;rw[hj]at ho h4
   match j,h4,ho with
   |0,_,ho=>exact(Option.some.inj ho).symm
   |1,_,ho=>exact(Option.some.inj ho).symm
   |2,_,ho=>exact(Option.some.inj ho).symm
   |3,_,ho=>exact(Option.some.inj ho).symm
   |4,_,ho=>exact(Option.some.inj ho).symm
  refine visN_ok (lim:=5) (n:=10) aH RD0_ok ?_;refine cast (chain_tree x l.length (strs l) (fun u st=>Fits 0 [o.1] o.2 [some u] st)).symm ?_;have hm:(ln4 l.length).toNat-0=min 4 l.length:=by unfold ln4;split<;>omega
  have c0:decide ((0:Int)≤if 4<(l.length:Int)then 4 else(l.length:Int))=true:=decide_eq_true (by split<;>omega);have c1:(true&&(ln4 l.length).toNat.ble l.length)=true:=by rw[Bool.true_and];exact Nat.ble_eq_true_of_le (by unfold ln4;split<;>omega)
  have T:tk4 l.length (strs l)=strs (l.take 4):=by
   unfold tk4;have:(if 4<(l.length:Int)then 4 else(l.length:Int)).toNat-0=min 4 l.length:=hm;rw[this,Nat.mul_one];unfold strs;rw[←List.map_take];congr 1;rcases Nat.le_total 4 l.length with h|h
   ·rw[Nat.min_eq_left h]
   ·rw[Nat.min_eq_right h,List.take_length,List.take_of_length_le h]
  have gt:∀j,j<min 4 l.length→(strs (l.take 4)).getD j (.bool false)=.str (rdG l j):=fun j hj=>by
   rw[List.getD_eq_getElem?_getD];unfold strs;rw[List.getElem?_map,rd_at hj];rfl
  have L1:∀j,j<min 4 l.length→Nat.blt j (strs (l.take 4)).length=true:=fun j hj=>Nat.ble_eq_true_of_le (by rw[aT,List.length_take];omega);have S:∀j,j<min 4 l.length→aw ((strs (l.take 4)).getD j (.bool false))=true:=fun j hj=>by rw[gt j hj];rfl
  have E:∀j,j<min 4 l.length→el4 l.length (strs l) j=rdG l j:=fun j hj=>by unfold el4;rw[T,gt j hj];rfl
  have D:∀j:Nat,j<min 4 l.length→(true&&decide ((j:Int)<((min 4 l.length:Nat):Int)))=true:=fun j hj=>by rw[Bool.true_and];exact decide_eq_true (by omega)
  have lt:∀j:Nat,decide ((j:Int)<((min 4 l.length:Nat):Int))=true→j<min 4 l.length:=fun j hj=>by have:=of_decide_eq_true hj;omega
  have ge:∀j:Nat,decide ((j:Int)<((min 4 l.length:Nat):Int))=false→min 4 l.length≤j:=fun j hj=>by have:=of_decide_eq_false hj;omega
  simp only[hm,c0,c1,T,shiftS,cond_true];refine ab (fun d0=>?_) (fun d0=>?_)
  rotate_left
  ·have q:=ge 0 d0;have cnt:rdN l=0:=dE (by omega) (fun i hi=>by omega) (.inl (by omega));have ho:=fin 0 cnt;subst ho;exact lA _
  have a0:=lt 0 d0;have E0:=E 0 a0;refine ae (D 0 a0) (ae (L1 0 a0) (ae (S 0 a0) ?_));simp only[E0];have stop0:decE (rdG l 0)≠0→o=rdO l 0:=fun hb=>fin 0 (dE (by omega) (fun i hi=>by omega) (.inr hb));refine ab (fun b0=>by have ho:=stop0 (kY b0);subst ho;exact lA _) (fun _=>?_);refine ab (fun b0=>by have ho:=stop0 (by simpa using b0);subst ho;exact lA _) (fun b0=>?_);have g0:decE (rdG l 0)=0:=by simpa using b0
  refine ab (fun d1=>?_) (fun d1=>?_)
  rotate_left
  ·have q:=ge 1 d1;have cnt:rdN l=1:=dE (by omega) (fun i hi=>by
    match i,hi with
    |0,_=>exact g0) (.inl (by omega))
   have ho:=fin 1 cnt;subst ho;exact lz l _ rfl rfl
  have a1:=lt 1 d1;have E1:=E 1 a1;refine ae (D 1 a1) (ae (L1 1 a1) (ae (S 1 a1) ?_));simp only[E1];have stop1:decE (rdG l 1)≠0→o=rdO l 1:=fun hb=>fin 1 (dE (by omega) (fun i hi=>by
   match i,hi with
   |0,_=>exact g0) (.inr hb))
  refine ab (fun b1=>by have ho:=stop1 (kY b1);subst ho;exact lz l _ rfl rfl) (fun _=>?_);refine ab (fun b1=>by have ho:=stop1 (by simpa using b1);subst ho;exact lz l _ rfl rfl) (fun b1=>?_);have g1:decE (rdG l 1)=0:=by simpa using b1
  refine ab (fun d2=>?_) (fun d2=>?_)
  rotate_left
  ·have q:=ge 2 d2;have cnt:rdN l=2:=dE (by omega) (fun i hi=>by
    match i,hi with
    |0,_=>exact g0
    |1,_=>exact g1) (.inl (by omega))
   have ho:=fin 2 cnt;subst ho;exact ly l _ rfl rfl rfl
  have a2:=lt 2 d2;have E2:=E 2 a2;refine ae (D 2 a2) (ae (L1 2 a2) (ae (S 2 a2) ?_));simp only[E2];have stop2:decE (rdG l 2)≠0→o=rdO l 2:=fun hb=>fin 2 (dE (by omega) (fun i hi=>by
   match i,hi with
   |0,_=>exact g0
   |1,_=>exact g1) (.inr hb))
  refine ab (fun b2=>by have ho:=stop2 (kY b2);subst ho;exact ly l _ rfl rfl rfl) (fun _=>?_);refine ab (fun b2=>by have ho:=stop2 (by simpa using b2);subst ho;exact ly l _ rfl rfl rfl) (fun b2=>?_);have g2:decE (rdG l 2)=0:=by simpa using b2
  refine ab (fun d3=>?_) (fun d3=>?_)
  rotate_left
  ·have q:=ge 3 d3;have cnt:rdN l=3:=dE (by omega) (fun i hi=>by
    match i,hi with
    |0,_=>exact g0
    |1,_=>exact g1
    |2,_=>exact g2) (.inl (by omega))
   have ho:=fin 3 cnt;subst ho;exact lw l _ rfl rfl rfl rfl
  have a3:=lt 3 d3;have E3:=E 3 a3;refine ae (D 3 a3) (ae (L1 3 a3) (ae (S 3 a3) ?_));simp only[E3];have stop3:decE (rdG l 3)≠0→o=rdO l 3:=fun hb=>fin 3 (dE (by omega) (fun i hi=>by
   match i,hi with
   |0,_=>exact g0
   |1,_=>exact g1
   |2,_=>exact g2) (.inr hb))
  refine ab (fun b3=>by have ho:=stop3 (kY b3);subst ho;exact lw l _ rfl rfl rfl rfl) (fun _=>?_);refine ab (fun b3=>by have ho:=stop3 (by simpa using b3);subst ho;exact lw l _ rfl rfl rfl rfl) (fun b3=>?_);have g3:decE (rdG l 3)=0:=by simpa using b3
  refine ab (fun d4=>absurd (lt 4 d4) (by omega)) (fun _=>?_);have ho:=fin 4 (dE (by omega) (fun i hi=>by
   match i,hi with
   |0,_=>exact g0
   |1,_=>exact g1
   |2,_=>exact g2
   |3,_=>exact g3) (.inl (by omega)))
  subst ho;exact rd_fits4 l _ rfl rfl rfl rfl rfl
 ·cases h
end Go.Proofs.YtebkeppoicllmaaDoor
