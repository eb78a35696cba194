/- Names: the labels of one: what they come to. -/
import Derived.Test.YtebkeppoicllmaaDoorMatch
namespace Go.Proofs.YtebkeppoicllmaaDoor
open Go Go.Vm Go.RowKit
set_option linter.unusedVariables false
set_option maxRecDepth 100000
set_option linter.unusedSectionVars false
variable [Φ:Frz]
noncomputable def lsRg:Array Tmp×Code×Code:=(dk (fi Tryd.prog 52)).getD (#[],.skip,.skip)
noncomputable def lsAs:Code:=lsRg.2.1
noncomputable def lsBd:Code:=lsRg.2.2
def lsT:List (Nat×V):=[(2,.ptr 1 0)]
noncomputable def lsL(s:LoopState)(p:Option Code):Blk:=gY Tryd.prog 52 s p lsT 2
noncomputable def LS0:Tab:=⟨addP (addT noT 51 cutP) 36 mayP,noL,bf 9⟩
theorem LS0_ok:TabOk3 Tryd.prog LS0:=⟨aQ (b8 aL mh) lJ,aM,au 9⟩
theorem ls_round0(s:List UInt8)(R:Exit→List (Option V)→St→Prop):ao Tryd.prog LS0 9 10 (ah 9) 53 2 [0,1] [.yield 3,.ptr 0 0] [.row [.str s] 9 1,.row [.nilSlice] 24 1,.defd,lsL .ready none] R=
  (
 bif fJ s then bif !cutM s then R .ret [some (V.yield 3),some (.ptr 0 0)] [.row [.str s] 9 1,.row [.slice 5 0 1 false 0 0] 24 1,Blk.defd,lsL
 LoopState.ready none,.row [.str (cutB s)] 9 1,.row [.str (cutB s)] 9 1]else R .normal [some (V.yield 3),some (.ptr 0 0)] [.row [.str (cutR s)] 9 1,
 .row [.slice 5 0 1 false 0 0] 24 1,Blk.defd,lsL LoopState.ready none,.row [.str (cutB s)] 9 1,.row [.str (cutB s)] 9 1]else False):=by kernel_rfl
theorem ls_round1(s:List UInt8)(n:Nat)(o:List V)(R:Exit→List (Option V)→St→Prop):ao Tryd.prog LS0 9 10 (ah 9) 53 2 [0,1] [.yield 3,.ptr 0 0] [.row [.str s] 9 1,.row [.slice 4 0 n false 0 0] 24 1,.defd,lsL .ready none,.row o 9 1] R=
  (
 bif fJ s then bif o.length.beq (n*1)then bif (n+1).ble 9223372036854775807&&((n+1)*16).ble 140737488355328 then bif !cutM s then R .ret [some (V.yield
 3),some (.ptr 0 0)] [.row [.str s] 9 1,.row [.slice 6 0 (n+1) false 0 0] 24 1,Blk.defd,lsL LoopState.ready none,.dead,.row [.str (cutB s)] 9 1,
 .row (o++[V.str (cutB s)]) 9 1]else R .normal [some (V.yield 3),some (.ptr 0 0)] [.row [.str (cutR s)] 9 1,.row [.slice 6 0 (n+1) false 0 0] 24 1,
 Blk.defd,lsL LoopState.ready none,.dead,.row [.str (cutB s)] 9 1,.row (o++[V.str (cutB s)]) 9 1]else False else False else False):=by kernel_rfl
def labF:Nat→List UInt8→List (List UInt8)
 |0,_=>[]
 |k+1,s=>bif cutM s then cutB s::labF k (cutR s)else[cutB s]
def jl(s:List UInt8):List (List UInt8):=labF (s.length+1) s
theorem nt:∀(k j:Nat) (s:List UInt8),s.length<k→s.length<j→labF k s=labF j s
 |0,_,s,h,_=>by omega
 |_+1,0,s,_,h=>by omega
 |k+1,j+1,s,h1,h2=>by
  rw[labF,labF];cases hm:cutM s with
  |false=>rfl
  |true=>
   have hlt:=ij hm;rw[cond_true,cond_true,nt k j _ (by omega) (by omega)]
theorem labs_end{s:List UInt8}(h:cutM s=false):jl s=[cutB s]:=by unfold jl;rw[labF,h];rfl
theorem labs_next{s:List UInt8}(h:cutM s=true):jl s=cutB s::jl (cutR s):=by
 have hlt:=ij h;unfold jl;rw[labF,h,cond_true,nt s.length ((cutR s).length+1) _ (by omega) (by omega)]
structure LS where
 s:List UInt8
 o:List (List UInt8)
def lsV(_:LS):List V:=[.yield 3,.ptr 0 0]
noncomputable def lsM(s:List UInt8):List (List UInt8)→St
 |[]=>[.row [.str s] 9 1,.row [.nilSlice] 24 1,.defd,lsL .ready none]
 |a::r=>[.row [.str s] 9 1,.row [.slice 4 0 (a::r).length false 0 0] 24 1,.defd,lsL .ready none,.row (strs (a::r)) 9 1]
noncomputable def lsJ(x:LS):St:=lsM x.s x.o
def np(x:LS):Bool:=Nat.ble (x.o.length+x.s.length) 1000000
def lsMu(x:LS):Nat:=x.s.length
noncomputable def lsDec:List (Option V)→St→Option LS
 |[some (.yield 3),some (.ptr 0 0)],(.row [.str s] _ _)::(.row [.nilSlice] _ _)::_=>some ⟨s,[]⟩
 |_,_=>none
noncomputable def oE(n:Nat)(cs:List V)(K:Exit→List V→St→Prop):Prop:=
 ∀s:List UInt8,K .ret [.yield 3,.ptr 0 0] [.row [.str s] 9 1,.row [.slice 4 0 n false 0 0] 24 1,.defd,lsL .ready none,.row cs 9 1]
def lsN(s:List UInt8)(o:List (List UInt8)):Nat:=(o++jl s).length
def lsC(s:List UInt8)(o:List (List UInt8)):List V:=strs (o++jl s)
noncomputable def lsOut:Asks LS:=fun x K=>oE (lsN x.s x.o) (lsC x.s x.o) K
theorem lsL_fit(σ:List Nat)(h1:σ[1]?=some 1)(h2:σ[2]?=some 2)(s:LoopState)(p:Option Code):FitB σ (lsL s p) (lsL s p):=by
 unfold lsL gY;split
 ·refine .inr ⟨_,_,_,_,_,_,_,_,_,_,rfl,rfl,h2,FitT.of (fun t v hm=>?_)⟩;simp only[lsT,List.mem_cons,Prod.mk.injEq,List.not_mem_nil,or_false]at hm;obtain⟨rfl,rfl⟩:=hm;exact⟨.ptr 1 0,by simp[renV,h1],rfl⟩
 ·exact .inl rfl
theorem ls_fits1(s:List UInt8)(n:Nat)(cs:List V)(hf:ax cs=true)(c:Nat)(hc:4≤c)(st:St)(h0:st[0]?=some (.row [.str s] 9 1))(h1:st[1]?=some (.row [.slice c 0 n false 0 0] 24 1))(h2:st[2]?=some .defd)(h3:st[3]?=some (lsL .ready none))(h4:st[c]?=some (.row cs 9 1)):
  Fits 4 [.yield 3,.ptr 0 0] [.row [.str s] 9 1,.row [.slice 4 0 n false 0 0] 24 1,.defd,lsL .ready none,.row cs 9 1] [some (.yield 3),some (.ptr 0 0)] st:=
 ⟨[0,1,2,3,c],[.yield 3,.ptr 0 0],rfl,rfl,FitsM.of ⟨.inr ⟨_,.inl rfl,h0⟩,.inr ⟨_,.inl rfl,h1⟩,.inr ⟨_,.inl rfl,h2⟩,.inr ⟨_,lsL_fit _ rfl rfl .ready none,h3⟩,.inr ⟨.row cs 9 1,.inl (by simp only[renB,av _ hf]),h4⟩,trivial⟩,by simp;omega,fun i hi=>by
   match i,hi with
   |0,_|1,_|2,_|3,_=>rfl⟩
theorem ls_roundOk(x:LS)(hx:np x=true):ao Tryd.prog LS0 9 10 (ah 9) 53 2 [0,1] (lsV x) (lsJ x) (aR 4 np lsV lsJ lsMu lsOut x):=by
 obtain⟨s,o⟩:=x;have p1:o.length+s.length≤1000000:=Nat.le_of_ble_eq_true hx;have hk:fJ s=true:=decide_eq_true (by omega);have step:∀(c:Nat) (st:St),4≤c→st[0]?=some (.row [.str (cutR s)] 9 1)→st[1]?=some (.row [.slice c 0 (o++[cutB s]).length false 0 0] 24 1)→st[2]?=some .defd→st[3]?=some (lsL .ready none)→st[c]?=some (.row (strs (o++[cutB s])) 9 1)→cutM s=true→
   aR 4 np lsV lsJ lsMu lsOut ⟨s,o⟩ .normal [some (.yield 3),some (.ptr 0 0)] st:=by
  intro c st hc h0 h1 h2 h3 h4 hm;have hlt:=ij hm;refine⟨⟨cutR s,o++[cutB s]⟩,?_,?_,hlt,fun K hK=>?_⟩
  ·exact Nat.ble_eq_true_of_le (by simp only[List.length_append,List.length_cons,List.length_nil];omega)
  ·have:lsJ ⟨cutR s,o++[cutB s]⟩=[.row [.str (cutR s)] 9 1,.row [.slice 4 0 (o++[cutB s]).length false 0 0] 24 1,.defd,lsL .ready none,.row (strs (o++[cutB s])) 9 1]:=by
    cases o<;>rfl
   rw[this];exact ls_fits1 _ _ _ (bB _) c hc st h0 h1 h2 h3 h4
  ·have hK:oE (lsN s o) (lsC s o) K:=hK;show oE (lsN (cutR s) (o++[cutB s])) (lsC (cutR s) (o++[cutB s])) K;have e:o++jl s=(o++[cutB s])++jl (cutR s):=by rw[labs_next hm,List.append_assoc];rfl
   unfold lsN lsC at hK ⊢;rw[←e];exact hK
 have fin:∀(c:Nat) (st:St),4≤c→st[0]?=some (.row [.str s] 9 1)→st[1]?=some (.row [.slice c 0 (o++[cutB s]).length false 0 0] 24 1)→st[2]?=some .defd→st[3]?=some (lsL .ready none)→st[c]?=some (.row (strs (o++[cutB s])) 9 1)→cutM s=false→
   aR 4 np lsV lsJ lsMu lsOut ⟨s,o⟩ .ret [some (.yield 3),some (.ptr 0 0)] st:=by
  intro c st hc h0 h1 h2 h3 h4 hm;refine⟨_,_,fun K hK=>?_,ls_fits1 _ _ _ (bB _) c hc st h0 h1 h2 h3 h4⟩;have hK:oE (lsN s o) (lsC s o) K:=hK;unfold lsN lsC at hK;rw[labs_end hm]at hK;exact hK s
 cases o with
 |nil=>
  show ao Tryd.prog LS0 9 10 (ah 9) 53 2 [0,1] [.yield 3,.ptr 0 0] [.row [.str s] 9 1,.row [.nilSlice] 24 1,.defd,lsL .ready none] _;rw[ls_round0,hk,cond_true];refine ab (fun h=>?_) (fun h=>?_)
  ·rw[Bool.not_eq_true']at h;exact fin 5 _ (by omega) rfl rfl rfl rfl rfl h
  ·rw[Bool.not_eq_false']at h;exact step 5 _ (by omega) rfl rfl rfl rfl rfl h
 |cons a r=>
  show ao Tryd.prog LS0 9 10 (ah 9) 53 2 [0,1] [.yield 3,.ptr 0 0] [.row [.str s] 9 1,.row [.slice 4 0 (a::r).length false 0 0] 24 1,.defd,lsL .ready none,.row (strs (a::r)) 9 1] _;rw[ls_round1,hk,cond_true];have hs:strs (a::r)++[V.str (cutB s)]=strs (a::r++[cutB s]):=by unfold strs;rw[List.map_append];rfl
  have hn:(a::r).length+1=(a::r++[cutB s]).length:=by simp
  refine ae (by rw[aT,Nat.mul_one];exact Nat.beq_refl _) (ae ?_ ?_)
  ·rw[Bool.and_eq_true];exact⟨Nat.ble_eq_true_of_le (by omega),Nat.ble_eq_true_of_le (by omega)⟩
  refine ab (fun h=>?_) (fun h=>?_)
  ·rw[Bool.not_eq_true']at h;exact fin 6 _ (by omega) rfl (by rw[←hn];rfl) rfl rfl (by rw[←hs];rfl) h
  ·rw[Bool.not_eq_false']at h;exact step 6 _ (by omega) rfl (by rw[←hn];rfl) rfl rfl (by rw[←hs];rfl) h
noncomputable def lkLS:Nat→Trans→Trans:=bA 2 (cx 4 (szOf Tryd.prog 53) [0,1] lsDec np lsV lsJ lsOut) (ah 9)
theorem lkLS_ok:aC Tryd.prog 4 lkLS 53:=by
 unfold lkLS;exact cm (bj 9 4 53) (by kernel_rfl) fun f st Q h=>bN (P:=Tryd.prog) (T:=LS0) (k:=4) (lim:=9) (n:=10) (g:=53) (p0:=2) (lk:=ah 9) aH LS0_ok (bn 9 _ _) lsMu ls_roundOk h
noncomputable def LS1:Tab:=⟨addP (addT noT 51 cutP) 36 mayP,noL,dS (bf 9) 53 4 lkLS⟩
theorem LS1_ok:TabOk3 Tryd.prog LS1:=⟨aQ (b8 aL mh) lJ,aM,bT (au 9) lkLS_ok⟩
theorem labs_tree(s:List UInt8)(R:V→St→Prop):runM Tryd.prog LS1 9 10 23 [.str s] R=
  (
 bif !mayN s then R .nilSlice []else Fits 4 [V.yield 3,.ptr 0 0] [.row [.str s] 9 1,.row [.nilSlice] 24 1,Blk.defd,lsL LoopState.ready none] [some (V.yield
 3),some (.ptr 0 0)] [.row [.str s] 9 1,.row [.nilSlice] 24 1,Blk.defd,Blk.loop LoopState.ready none 13 ((Tr.lf.nd (some (V.func (Fn.func 53) [] [.ptr 0 0]))
 Tr.lf).nd (some .nilSlice) ((Tr.lf.nd (some .nilSlice) Tr.lf).nd (some (.ptr 1 0)) (Tr.lf.nd (some (V.func (Fn.func 53) [] [.ptr 0 0])) Tr.lf))) {toList:=[7]}
 lsAs lsBd 2]∧bif np {s:=s,o:=[]}then ∀(s_1:List UInt8),R (.slice 4 0 (lsN s []) false 0 0) [.row [.str s_1] 9 1,.row [.slice 4 0 (lsN s [])
 false 0 0] 24 1,.dead,.dead,.row (lsC s []) 9 1]else False):=by kernel_rfl
def labsT:List V→Option (List (Bool×(V×St)))
 |[.str s]=>some [(mayN s,(.slice 0 0 (lsN s []) false 0 0,[.row (lsC s []) 9 1])),(!mayN s,(.nilSlice,[]))]
 |_=>none
theorem ls_enter(s:List UInt8)(T2:Tr)(h2:T2.get 2=some (.ptr 1 0)):
  Fits 4 [.yield 3,.ptr 0 0] [.row [.str s] 9 1,.row [.nilSlice] 24 1,.defd,lsL .ready none] [some (.yield 3),some (.ptr 0 0)] [.row [.str s] 9 1,.row [.nilSlice] 24 1,.defd,.loop .ready none 13 T2 {toList:=[7]} lsAs lsBd 2]:=by
 have hL:lsL .ready none=.loop .ready none 13 (io .lf lsT) {toList:=[7]} lsAs lsBd 2:=by kernel_rfl
 refine⟨[0,1,2,3],[.yield 3,.ptr 0 0],rfl,rfl,FitsM.of ?_,by decide,fun i hi=>by
  match i,hi with
  |0,_|1,_|2,_|3,_=>rfl⟩
 refine⟨.inr ⟨_,.inl rfl,rfl⟩,.inr ⟨_,.inl rfl,rfl⟩,.inr ⟨_,.inl rfl,rfl⟩,.inr ⟨_,?_,rfl⟩,trivial⟩;rw[hL];refine .inr ⟨_,_,_,_,_,_,_,_,_,_,rfl,rfl,rfl,FitT.of fun t v hm=>?_⟩;simp only[lsT,List.mem_cons,Prod.mk.injEq,List.not_mem_nil,or_false]at hm;obtain⟨rfl,rfl⟩:=hm;exact⟨_,rfl,h2⟩
theorem labs_ok(args:List V)(l:List (Bool×(V×St)))(o:V×St)(h:labsT args=some l)(ho:aP l=some o):FnSat Tryd.prog 23 args [] (Is o):=by
 unfold labsT at h;split at h
 ·rename_i s;cases h;refine FnSat.fits (gX aH LS1_ok (lim:=9) (n:=10) ?_);rw[labs_tree];cases hm:mayN s with
  |false=>
   rw[hm]at ho;cases ho;exact bD [.nilSlice] rfl _ rfl _
  |true=>
   rw[hm]at ho;cases ho;have hl:=may_len hm;refine⟨ls_enter s _ rfl,ae (Nat.ble_eq_true_of_le (show 0+s.length≤1000000 by omega)) (fun s'=>?_)⟩;exact⟨[4],[.slice 4 0 (lsN s []) false 0 0],rfl,rfl,FitsM.of ⟨.inr ⟨.row (lsC s []) 9 1,.inl (by simp only[renB,av _ (bB _),lsC]),rfl⟩,trivial⟩,by simp,fun i hi=>by omega⟩
 ·cases h
end Go.Proofs.YtebkeppoicllmaaDoor
