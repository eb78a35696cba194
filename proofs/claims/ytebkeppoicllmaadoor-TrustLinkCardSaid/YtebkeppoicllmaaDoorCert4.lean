/- Certificates: what is read of bytes, whole. -/
import Derived.Test.YtebkeppoicllmaaDoorCert3
namespace Go.Proofs.YtebkeppoicllmaaDoor
open Go.IntKind (u8 u16 u32 u64 i8 i16 i32 i64)
open Go Go.Vm Go.RowKit
set_option linter.unusedVariables false
set_option maxRecDepth 100000
set_option linter.unusedSectionVars false
variable [Φ:Frz]
theorem de_tree(s:List UInt8)(R:V→St→Prop):runM Tryd.prog F1 9 10 29 [.str s] (fun v st=>R v (visF v st))=
  (
 bif decide ((↑s.length:Int)>512)then R (.tuple [.agg [.str [],.str [],.nilSlice,.int i64 0,.int i64 0,.bool false],.int i64
 40]) [.ro true []]else bif (allN (ad s)).beq 0 then bif !ez s 48 then R (.tuple [.agg [.str [],.str [],.nilSlice,.int i64 0,.int i64
 0,.bool false],.int i64 4]) [.ro true []]else bif allE (ad s)!=0 then R (.tuple [.agg [.str [],.str [],.nilSlice,.int i64 0,.int
 i64 0,.bool false],.int i64 4]) [.ro true []]else R (.tuple [.agg [.str [],.str [],.nilSlice,.int i64 0,.int i64 0,
 .bool false],.int i64 4]) [.ro true []]else bif !ez s 48 then R (.tuple [.agg [.str [],.str [],.nilSlice,.int i64 0,.int i64
 0,.bool false],.int i64 4]) [.ro true []]else bif allE (ad s)!=0 then R (.tuple [.agg [.str [],.str [],.nilSlice,.int i64 0,.int
 i64 0,.bool false],.int i64 4]) [.ro true []]else bif (↑(allN (ad s)):Int)!=6 then R (.tuple [.agg [.str [],.str [],.nilSlice,.int
 i64 0,.int i64 0,.bool false],.int i64 4]) [.ro true []]else bif (allN (ad s)).beq 6&&(ok6 (ac 1 (allC (ad s)))&&(↑(allN
 (ad s)):Int)==6)then bif true&&decide (0<(↑(allN (ad s)):Int))then bif true&&decide (2<(↑(allN (ad s)):Int))then bif (allN ((aa ((ac 1
 (allC (ad s))).getD 5 (.bool false))))).beq 0 then bif true&&decide (3<(↑(allN (ad s)):Int))then bif true&&decide (4<(↑(allN (ad s)):Int))then bif
 true&&decide (5<(↑(allN (ad s)):Int))then bif ((al ((ac 1 (allC (ad s))).getD 0 (.bool false))))==48 then bif ((al ((ac 1 (allC (ad
 s))).getD 2 (.bool false))))==4 then bif ((al ((ac 1 (allC (ad s))).getD 4 (.bool false))))==48 then bif ((al ((ac 1 (allC (ad s))).getD 6
 (.bool false))))==2 then bif ((al ((ac 1 (allC (ad s))).getD 8 (.bool false))))==2 then bif ((al ((ac 1 (allC (ad s))).getD 10 (.bool
 false))))==1 then bif !ez ((aa ((ac 1 (allC (ad s))).getD 1 (.bool false)))) 4 then R (.tuple [.agg [.str [],.str [],.nilSlice,.int i64
 0,.int i64 0,.bool false],.int i64 4]) [.ro true []]else bif (if rbE ((aa ((ac 1 (allC (ad s))).getD 11 (.bool false))))>if bc
 ((aa ((ac 1 (allC (ad s))).getD 9 (.bool false))))>if bc ((aa ((ac 1 (allC (ad s))).getD 7 (.bool false))))>allE ((aa ((ac 1 (allC
 (ad s))).getD 5 (.bool false))))then bc ((aa ((ac 1 (allC (ad s))).getD 7 (.bool false))))else allE ((aa ((ac 1 (allC (ad s))).getD 5
 (.bool false))))then bc ((aa ((ac 1 (allC (ad s))).getD 9 (.bool false))))else if bc ((aa ((ac 1 (allC (ad s))).getD 7 (.bool false))))>
 allE ((aa ((ac 1 (allC (ad s))).getD 5 (.bool false))))then bc ((aa ((ac 1 (allC (ad s))).getD 7 (.bool false))))else allE ((aa ((ac
 1 (allC (ad s))).getD 5 (.bool false))))then rbE ((aa ((ac 1 (allC (ad s))).getD 11 (.bool false))))else if bc ((aa ((ac 1 (allC (ad
 s))).getD 9 (.bool false))))>if bc ((aa ((ac 1 (allC (ad s))).getD 7 (.bool false))))>allE ((aa ((ac 1 (allC (ad s))).getD 5 (.bool
 false))))then bc ((aa ((ac 1 (allC (ad s))).getD 7 (.bool false))))else allE ((aa ((ac 1 (allC (ad s))).getD 5 (.bool false))))then bc
 ((aa ((ac 1 (allC (ad s))).getD 9 (.bool false))))else if bc ((aa ((ac 1 (allC (ad s))).getD 7 (.bool false))))>allE ((aa ((ac 1
 (allC (ad s))).getD 5 (.bool false))))then bc ((aa ((ac 1 (allC (ad s))).getD 7 (.bool false))))else allE ((aa ((ac 1 (allC (ad s))).getD
 5 (.bool false)))))!=0 then R (.tuple [.agg [.str [],.str [],.nilSlice,.int i64 0,.int i64 0,.bool false],.int i64 4]) [.ro
 true []]else bif true&&decide (1<(↑(allN (ad s)):Int))then bif !(mayC ((ad ((aa ((ac 1 (allC (ad s))).getD 1 (.bool false)))))) (((aa
 ((ac 1 (allC (ad s))).getD 3 (.bool false))))) ((ba ((aa ((ac 1 (allC (ad s))).getD 7 (.bool false)))))) ((ba ((aa ((ac 1 (allC (ad
 s))).getD 9 (.bool false))))))&&true)then R (.tuple [.agg [.str [],.str [],.nilSlice,.int i64 0,.int i64 0,.bool false],.int
 i64 4]) [.ro true []]else R (.tuple [.agg [.str ((ad ((aa ((ac 1 (allC (ad s))).getD 1 (.bool false)))))),.str (((aa ((ac 1 (allC
 (ad s))).getD 3 (.bool false))))),.nilSlice,.int i64 ((ba ((aa ((ac 1 (allC (ad s))).getD 7 (.bool false)))))),.int i64 ((ba
 ((aa ((ac 1 (allC (ad s))).getD 9 (.bool false)))))),.bool ((aa ((ac 1 (allC (ad s))).getD 11 (.bool false)))==[255])],.int i64 0])
 [.ro true []]else False else R (.tuple [.agg [.str [],.str [],.nilSlice,.int i64 0,.int i64 0,.bool false],.int i64 4]) [.ro
 true []]else R (.tuple [.agg [.str [],.str [],.nilSlice,.int i64 0,.int i64 0,.bool false],.int i64 4]) [.ro true []]else R
 (.tuple [.agg [.str [],.str [],.nilSlice,.int i64 0,.int i64 0,.bool false],.int i64 4]) [.ro true []]else R (.tuple [.agg
 [.str [],.str [],.nilSlice,.int i64 0,.int i64 0,.bool false],.int i64 4]) [.ro true []]else R (.tuple [.agg [.str [],.str
 [],.nilSlice,.int i64 0,.int i64 0,.bool false],.int i64 4]) [.ro true []]else R (.tuple [.agg [.str [],.str [],.nilSlice,
 .int i64 0,.int i64 0,.bool false],.int i64 4]) [.ro true []]else False else False else False else bif true&&decide (3<(↑(allN
 (ad s)):Int))then bif true&&decide (4<(↑(allN (ad s)):Int))then bif true&&decide (5<(↑(allN (ad s)):Int))then bif ((al ((ac 1 (allC
 (ad s))).getD 0 (.bool false))))==48 then bif ((al ((ac 1 (allC (ad s))).getD 2 (.bool false))))==4 then bif ((al ((ac 1 (allC (ad
 s))).getD 4 (.bool false))))==48 then bif ((al ((ac 1 (allC (ad s))).getD 6 (.bool false))))==2 then bif ((al ((ac 1 (allC (ad s))).getD 8
 (.bool false))))==2 then bif ((al ((ac 1 (allC (ad s))).getD 10 (.bool false))))==1 then bif !ez ((aa ((ac 1 (allC (ad s))).getD 1 (.bool
 false)))) 4 then R (.tuple [.agg [.str [],.str [],.nilSlice,.int i64 0,.int i64 0,.bool false],.int i64 4]) [.ro true []]else
 bif (if rbE ((aa ((ac 1 (allC (ad s))).getD 11 (.bool false))))>if bc ((aa ((ac 1 (allC (ad s))).getD 9 (.bool false))))>if bc ((aa
 ((ac 1 (allC (ad s))).getD 7 (.bool false))))>allE ((aa ((ac 1 (allC (ad s))).getD 5 (.bool false))))then bc ((aa ((ac 1 (allC (ad
 s))).getD 7 (.bool false))))else allE ((aa ((ac 1 (allC (ad s))).getD 5 (.bool false))))then bc ((aa ((ac 1 (allC (ad s))).getD 9 (.bool
 false))))else if bc ((aa ((ac 1 (allC (ad s))).getD 7 (.bool false))))>allE ((aa ((ac 1 (allC (ad s))).getD 5 (.bool false))))then bc
 ((aa ((ac 1 (allC (ad s))).getD 7 (.bool false))))else allE ((aa ((ac 1 (allC (ad s))).getD 5 (.bool false))))then rbE ((aa ((ac 1 (allC
 (ad s))).getD 11 (.bool false))))else if bc ((aa ((ac 1 (allC (ad s))).getD 9 (.bool false))))>if bc ((aa ((ac 1 (allC (ad s))).getD 7
 (.bool false))))>allE ((aa ((ac 1 (allC (ad s))).getD 5 (.bool false))))then bc ((aa ((ac 1 (allC (ad s))).getD 7 (.bool false))))else
 allE ((aa ((ac 1 (allC (ad s))).getD 5 (.bool false))))then bc ((aa ((ac 1 (allC (ad s))).getD 9 (.bool false))))else if bc ((aa
 ((ac 1 (allC (ad s))).getD 7 (.bool false))))>allE ((aa ((ac 1 (allC (ad s))).getD 5 (.bool false))))then bc ((aa ((ac 1 (allC (ad
 s))).getD 7 (.bool false))))else allE ((aa ((ac 1 (allC (ad s))).getD 5 (.bool false)))))!=0 then R (.tuple [.agg [.str [],.str [],.nilSlice,.int
 i64 0,.int i64 0,.bool false],.int i64 4]) [.ro true []]else bif true&&decide (1<(↑(allN (ad s)):Int))then Fits 0 [.ptr 0 0,
 .int i64 0,.ptr 2 0,.slice 1 0 (allN ((aa ((ac 1 (allC (ad s))).getD 5 (.bool false))))) false 0 0,.int i64 (↑(allN ((aa ((ac 1
 (allC (ad s))).getD 5 (.bool false))))):Int),.int i64 0] [.row [.str [],.str [],.nilSlice,.int i64 0,.int i64 0,.bool false]
 27 6,.row (ac 9 (allC ((aa ((ac 1 (allC (ad s))).getD 5 (.bool false)))))) 74 2,.row [.str (ad ((aa ((ac 1 (allC (ad s))).getD 1
 (.bool false))))),.str ((aa ((ac 1 (allC (ad s))).getD 3 (.bool false)))),.nilSlice,.int i64 (ba ((aa ((ac 1 (allC (ad s))).getD
 7 (.bool false))))),.int i64 (ba ((aa ((ac 1 (allC (ad s))).getD 9 (.bool false))))),.bool ((aa ((ac 1 (allC (ad s))).getD 11
 (.bool false)))==[255])] 27 6] [some (.ptr 0 0),some (.int i64 0),some (.ptr 10 0),some (.slice 9 0 (allN ((aa ((ac 1 (allC (ad s))).getD 5
 (.bool false))))) false 0 0),some (.int i64 (↑(allN ((aa ((ac 1 (allC (ad s))).getD 5 (.bool false))))):Int)),some (.int i64 0)]
 [.row [.str [],.str [],.nilSlice,.int i64 0,.int i64 0,.bool false] 27 6,.row [.int u8 (al ((ac 1 (allC (ad
 s))).getD 0 (.bool false))),.str (aa ((ac 1 (allC (ad s))).getD 1 (.bool false))),.int u8 (al ((ac 1 (allC (ad s))).getD 2 (.bool
 false))),.str (aa ((ac 1 (allC (ad s))).getD 3 (.bool false))),.int u8 (al ((ac 1 (allC (ad s))).getD 4 (.bool false))),.str (aa
 ((ac 1 (allC (ad s))).getD 5 (.bool false))),.int u8 (al ((ac 1 (allC (ad s))).getD 6 (.bool false))),.str (aa ((ac 1 (allC (ad
 s))).getD 7 (.bool false))),.int u8 (al ((ac 1 (allC (ad s))).getD 8 (.bool false))),.str (aa ((ac 1 (allC (ad s))).getD 9 (.bool
 false))),.int u8 (al ((ac 1 (allC (ad s))).getD 10 (.bool false))),.str (aa ((ac 1 (allC (ad s))).getD 11 (.bool false)))] 74 2,
 .row [.int u8 (((al ((ac 1 (allC (ad s))).getD 0 (.bool false))))),.int u8 (((al ((ac 1 (allC (ad s))).getD 2 (.bool
 false))))),.int u8 (((al ((ac 1 (allC (ad s))).getD 4 (.bool false))))),.int u8 (((al ((ac 1 (allC (ad s))).getD 6 (.bool
 false))))),.int u8 (((al ((ac 1 (allC (ad s))).getD 8 (.bool false))))),.int u8 (((al ((ac 1 (allC (ad s))).getD 10 (.bool
 false)))))] 80 6,.row [.int u8 ((al ((ac 1 (allC (ad s))).getD 0 (.bool false)))),.str ((aa ((ac 1 (allC (ad s))).getD 1 (.bool
 false))))] 74 2,.row [.int u8 ((al ((ac 1 (allC (ad s))).getD 2 (.bool false)))),.str ((aa ((ac 1 (allC (ad s))).getD 3 (.bool
 false))))] 74 2,.row [.int u8 ((al ((ac 1 (allC (ad s))).getD 4 (.bool false)))),.str ((aa ((ac 1 (allC (ad s))).getD 5 (.bool
 false))))] 74 2,.row [.int u8 ((al ((ac 1 (allC (ad s))).getD 6 (.bool false)))),.str ((aa ((ac 1 (allC (ad s))).getD 7 (.bool
 false))))] 74 2,.row [.int u8 ((al ((ac 1 (allC (ad s))).getD 8 (.bool false)))),.str ((aa ((ac 1 (allC (ad s))).getD 9 (.bool
 false))))] 74 2,.row [.int u8 ((al ((ac 1 (allC (ad s))).getD 10 (.bool false)))),.str ((aa ((ac 1 (allC (ad s))).getD 11 (.bool
 false))))] 74 2,.row (ac 9 (allC ((aa ((ac 1 (allC (ad s))).getD 5 (.bool false)))))) 74 2,.row [.str (ad ((aa ((ac 1 (allC (ad
 s))).getD 1 (.bool false))))),.str ((aa ((ac 1 (allC (ad s))).getD 3 (.bool false)))),.nilSlice,.int i64 (ba ((aa ((ac 1 (allC
 (ad s))).getD 7 (.bool false))))),.int i64 (ba ((aa ((ac 1 (allC (ad s))).getD 9 (.bool false))))),.bool ((aa ((ac 1 (allC (ad
 s))).getD 11 (.bool false)))==[255])] 27 6]∧bif kG {k:=ad ((aa ((ac 1 (allC (ad s))).getD 1 (.bool false)))),g:=(aa ((ac 1 (allC (ad s))).getD 3 (.bool false))),f:=ba ((aa ((ac 1 (allC (ad s))).getD 7 (.bool false)))),u:=ba ((aa ((ac 1 (allC (ad s))).getD 9 (.bool false)))),ca:=(aa ((ac 1 (allC (ad s))).getD 11 (.bool false)))==[255],ds:=ac 9 (allC ((aa ((ac 1 (allC (ad s))).getD 5 (.bool false))))),n:=allN ((aa ((ac 1 (allC (ad s))).getD 5 (.bool false)))),i:=0}
 then bif gm (ac 9 (allC ((aa ((ac 1 (allC (ad s))).getD 5 (.bool false))))))then(allN ((aa ((ac 1 (allC (ad s))).getD 5 (.bool false))))
 =0→bif !(mayC ((ad ((aa ((ac 1 (allC (ad s))).getD 1 (.bool false)))))) (((aa ((ac 1 (allC (ad s))).getD 3 (.bool false))))) ((ba
 ((aa ((ac 1 (allC (ad s))).getD 7 (.bool false)))))) ((ba ((aa ((ac 1 (allC (ad s))).getD 9 (.bool false))))))&&true)then R (.tuple [.agg
 [.str [],.str [],.nilSlice,.int i64 0,.int i64 0,.bool false],.int i64 4]) [.ro true []]else R (.tuple [.agg [.str ((ad
 ((aa ((ac 1 (allC (ad s))).getD 1 (.bool false)))))),.str (((aa ((ac 1 (allC (ad s))).getD 3 (.bool false))))),.nilSlice,.int i64
 ((ba ((aa ((ac 1 (allC (ad s))).getD 7 (.bool false)))))),.int i64 ((ba ((aa ((ac 1 (allC (ad s))).getD 9 (.bool false)))))),
 .bool ((aa ((ac 1 (allC (ad s))).getD 11 (.bool false)))==[255])],.int i64 0]) [.ro true []])∧∀(j:Nat),allN ((aa ((ac 1 (allC
 (ad s))).getD 5 (.bool false))))=j+1→bif (0+(j+1)*1).ble (strs (List.map (fun x=>x.snd) (dg (ac 9 (allC ((aa ((ac 1 (allC (ad
 s))).getD 5 (.bool false))))))))).length&&((List.take ((j+1)*1) (List.drop 0 (strs (List.map (fun x=>x.snd) (dg (ac 9 (allC ((aa ((ac 1 (allC
 (ad s))).getD 5 (.bool false))))))))))).all aw&&(List.take ((j+1)*1) (List.drop 0 (strs (List.map (fun x=>x.snd) (dg (ac 9 (allC ((aa ((ac
 1 (allC (ad s))).getD 5 (.bool false))))))))))).length.beq (j+1))&&(List.map aa (List.take ((j+1)*1) (List.drop 0 (strs (List.map (fun x=>x.snd) (dg
 (ac 9 (allC ((aa ((ac 1 (allC (ad s))).getD 5 (.bool false)))))))))))).length.ble 9223372036854775807 then bif !(mayC ((ad ((aa ((ac 1 (allC
 (ad s))).getD 1 (.bool false)))))) (((aa ((ac 1 (allC (ad s))).getD 3 (.bool false))))) ((ba ((aa ((ac 1 (allC (ad s))).getD 7 (.bool
 false)))))) ((ba ((aa ((ac 1 (allC (ad s))).getD 9 (.bool false))))))&&(List.map aa (List.take ((j+1)*1) (List.drop 0 (strs (List.map (fun x=>
 x.snd) (dg (ac 9 (allC ((aa ((ac 1 (allC (ad s))).getD 5 (.bool false)))))))))))).all patN)then R (.tuple [.agg [.str [],.str [],.nilSlice,
 .int i64 0,.int i64 0,.bool false],.int i64 4]) [.ro true []]else R (.tuple [.agg [.str ((ad ((aa ((ac 1 (allC (ad
 s))).getD 1 (.bool false)))))),.str (((aa ((ac 1 (allC (ad s))).getD 3 (.bool false))))),.slice 3 0 (j+1) false 0 0,.int i64 ((ba ((aa
 ((ac 1 (allC (ad s))).getD 7 (.bool false)))))),.int i64 ((ba ((aa ((ac 1 (allC (ad s))).getD 9 (.bool false)))))),.bool ((aa
 ((ac 1 (allC (ad s))).getD 11 (.bool false)))==[255])],.int i64 0]) [.dead,.dead,.dead,.row (strs (List.map (fun x=>x.snd) (dg
 (ac 9 (allC ((aa ((ac 1 (allC (ad s))).getD 5 (.bool false))))))))) 9 1]else False else ∀(i:Nat),R (.tuple [.agg [.str [],.str [],.nilSlice,
 .int i64 0,.int i64 0,.bool false],.int i64 4]) [.ro true []]else False else False else R (.tuple [.agg [.str [],.str [],
 .nilSlice,.int i64 0,.int i64 0,.bool false],.int i64 4]) [.ro true []]else R (.tuple [.agg [.str [],.str [],.nilSlice,.int
 i64 0,.int i64 0,.bool false],.int i64 4]) [.ro true []]else R (.tuple [.agg [.str [],.str [],.nilSlice,.int i64 0,
 .int i64 0,.bool false],.int i64 4]) [.ro true []]else R (.tuple [.agg [.str [],.str [],.nilSlice,.int i64 0,.int i64
 0,.bool false],.int i64 4]) [.ro true []]else R (.tuple [.agg [.str [],.str [],.nilSlice,.int i64 0,.int i64 0,.bool false],
 .int i64 4]) [.ro true []]else R (.tuple [.agg [.str [],.str [],.nilSlice,.int i64 0,.int i64 0,.bool false],.int i64
 4]) [.ro true []]else False else False else False else False else False else False):=by kernel_rfl
structure CD where
 k:List UInt8
 g:List UInt8
 l:List (List UInt8)
 f:Int
 u:Int
 ca:Bool
def m2(x y:Int):Int:=if y>x then y else x
def decT(L:List IT):Option CD:=match L with
 |[x0,x1,x2,x3,x4,x5]=>
  bif (x0.1==48)&&((x1.1==4)&&((x2.1==48)&&((x3.1==2)&&((x4.1==2)&&(x5.1==1)))))then
   (bif ez x0.2 4 then
     (bif m2 (m2 (m2 (allE x2.2) (bc x3.2)) (bc x4.2)) (rbE x5.2)!=0 then none else
       (bif (allI x2.2).all (fun y=>y.1==130)then
         (bif mayC (ad x0.2) x1.2 (ba x3.2) (ba x4.2)&&((allI x2.2).map (·.2)).all patN then some ⟨ad x0.2,x1.2,(allI x2.2).map (·.2),ba x3.2,ba x4.2,x5.2==[255]⟩else none)
       else none))
   else none)
  else none
 |_=>none
def decC(s:List UInt8):Option CD:=bif ez s 48 then(bif allE (ad s)!=0 then none else decT (allI (ad s)))else none
def decR(s:List UInt8):Option CD:=bif decide ((s.length:Int)>512)then none else decC s
def decE(s:List UInt8):Int:=bif decide ((s.length:Int)>512)then 40 else(match decC s with
 |some _=>0
 |none=>4)
def mK:V:=.agg [.str [],.str [],.nilSlice,.int .i64 0,.int .i64 0,.bool false]
def outD(s:List UInt8):V×St:=match decR s with
 |none=>(.tuple [mK,.int .i64 (decE s)],[])
 |some c=>match c.l with
  |[]=>(.tuple [.agg [.str c.k,.str c.g,.nilSlice,.int .i64 c.f,.int .i64 c.u,.bool c.ca],.int .i64 0],[])
  |h::t=>(.tuple [.agg [.str c.k,.str c.g,.slice 0 0 (h::t).length false 0 0,.int .i64 c.f,.int .i64 c.u,.bool c.ca],.int .i64 0],[.row (strs (h::t)) 9 1])
theorem nR:∀(k:Nat) (s:List UInt8) (acc:List IT),acc.length≤64→(alF k s acc).1.length≤64
 |0,s,acc,h=>by rw[alF];exact h
 |k+1,s,acc,h=>by
  rw[alF];split
  ·exact h
  ·split
   ·split
    ·simp
    ·exact nR k _ _ (by rw[List.length_append];simp;omega)
   ·simp
theorem ka(s:List UInt8):(allI s).length≤64:=nR _ s [] (by simp)
theorem gr(k:Nat):∀L:List IT,ac k (aq L)=aq L
 |[]=>rfl
 |x::r=>by simp only[aq,ac,V.shift,gr k r]
def deQ(s:List UInt8)(u:V)(st:St):Prop:=Fits 0 [(outD s).1] (outD s).2 [some u] st∧(decE s=0→(outD s).2=[]→∃b:Nat,st[b]?=some (Blk.ro true []))
theorem de_all(s:List UInt8):runM Tryd.prog F1 9 10 29 [.str s] (fun u st=>deQ s u (visF u st)):=by
 refine cast (de_tree s (deQ s)).symm ?_;have zero:∀(e:Int) (st:St),e≠0→decR s=none→decE s=e→deQ s (.tuple [.agg [.str [],.str [],.nilSlice,.int .i64 0,.int .i64 0,.bool false],.int .i64 e]) st:=by
  intro e st he h1 h2;have e1:outD s=(.tuple [mK,.int .i64 e],[]):=by unfold outD;rw[h1,h2]
  refine⟨?_,fun h3=>absurd (h2.symm.trans h3) he⟩;rw[e1];exact bD [.tuple [mK,.int .i64 e]] rfl _ rfl st
 refine ab (fun h=>?_) (fun hlen=>?_)
 ·exact zero 40 _ (by decide) (by unfold decR;rw[h];rfl) (by unfold decE;rw[h];rfl)
 have bad:decC s=none→∀st,deQ s (.tuple [.agg [.str [],.str [],.nilSlice,.int .i64 0,.int .i64 0,.bool false],.int .i64 4]) st:=fun h st=>
  zero 4 st (by decide) (by unfold decR;rw[hlen];exact h) (by unfold decE;rw[hlen,h];rfl)
 have good:∀c,decC s=some c→decR s=some c:=fun c h=>by unfold decR;rw[hlen];exact h
 have b1:ez s 48=false→decC s=none:=fun h=>by unfold decC;rw[h];rfl
 have b2:(allE (ad s)!=0)=true→decC s=none:=fun h=>by
  unfold decC;rw[h];cases ez s 48<;>rfl
 have b3:allN (ad s)≠6→decC s=none:=fun h=>by
  unfold decC decT;unfold allN at h;cases ez s 48 with
  |false=>rfl
  |true=>
   cases(allE (ad s)!=0)with
   |true=>rfl
   |false=>
    rw[cond_true,cond_false];split
    ·rename_i x0 x1 x2 x3 x4 x5 hI;rw[hI]at h;exact absurd rfl h
    ·rfl
 refine ab (fun h0=>?_) (fun h0=>?_)
 ·have h0:=Nat.eq_of_beq_eq_true h0;have hn:=b3 (by omega);refine ab (fun _=>bad hn _) (fun _=>ab (fun _=>bad hn _) (fun _=>bad hn _))
 refine ab (fun h=>?_) (fun h=>?_)
 ·exact bad (b1 (by rw[Bool.not_eq_true']at h;exact h)) _
 have ho:ez s 48=true:=by rw[Bool.not_eq_false']at h;exact h
 refine ab (fun h=>bad (b2 h) _) (fun hE=>?_);refine ab (fun h=>?_) (fun h=>?_)
 ·have h:(allN (ad s):Int)≠6:=by simpa using h
  exact bad (b3 (by omega)) _
 have h6:(allN (ad s):Int)=6:=by simpa using h
 have h6:allN (ad s)=6:=by omega
 have hI:∃x0 x1 x2 x3 x4 x5,allI (ad s)=[x0,x1,x2,x3,x4,x5]:=by
  unfold allN at h6
  match hI:allI (ad s),h6 with
  |[a,b,c,d,e,f],_=>exact⟨a,b,c,d,e,f,rfl⟩
 obtain⟨x0,x1,x2,x3,x4,x5,hI⟩:=hI;have hC:decC s=decT [x0,x1,x2,x3,x4,x5]:=by unfold decC;rw[ho,hE,hI];rfl
 have hcs:ac 1 (allC (ad s))=aq [x0,x1,x2,x3,x4,x5]:=by unfold allC;rw[hI,gr]
 have hok:ok6 (aq [x0,x1,x2,x3,x4,x5])=true:=ok6_cells rfl;have hk:(Nat.beq 6 6&&(true&&((6:Int)==6)))=true:=rfl;have hd:∀k:Int,k<6→decide (k<((6:Nat):Int))=true:=fun k h=>decide_eq_true (by omega);rw[hcs,h6,hok];simp only[aq,List.getD_cons_succ,List.getD_cons_zero,aa,al,hd 0 (by omega),hd 1 (by omega),hd 2 (by omega),hd 3 (by omega),hd 4 (by omega),hd 5 (by omega),Bool.and_true,cond_true];rw[show(Nat.beq 6 6&&(true&&(((6:Nat):Int)==6)))=true from rfl,cond_true];have tagd:(x0.1==48)=true→(x1.1==4)=true→(x2.1==48)=true→(x3.1==2)=true→(x4.1==2)=true→(x5.1==1)=true→decC s=
   (bif ez x0.2 4 then
     (bif m2 (m2 (m2 (allE x2.2) (bc x3.2)) (bc x4.2)) (rbE x5.2)!=0 then none else
       (bif (allI x2.2).all (fun y=>y.1==130)then
         (bif mayC (ad x0.2) x1.2 (ba x3.2) (ba x4.2)&&((allI x2.2).map (·.2)).all patN then some ⟨ad x0.2,x1.2,(allI x2.2).map (·.2),ba x3.2,ba x4.2,x5.2==[255]⟩else none)
       else none))
   else none):=by
  intro t0 t1 t2 t3 t4 t5;rw[hC];simp only[decT,t0,t1,t2,t3,t4,t5,Bool.and_self,cond_true]
 have nilL:allI x2.2=[]→(mayC (ad x0.2) x1.2 (ba x3.2) (ba x4.2))=true→decC s=(bif (allI x2.2).all (fun y=>y.1==130)then
    (bif mayC (ad x0.2) x1.2 (ba x3.2) (ba x4.2)&&((allI x2.2).map (·.2)).all patN then some ⟨ad x0.2,x1.2,(allI x2.2).map (·.2),ba x3.2,ba x4.2,x5.2==[255]⟩else none)
   else none)→∀st:St,(∃b:Nat,st[b]?=some (Blk.ro true []))→deQ s (.tuple [.agg [.str (ad x0.2),.str x1.2,.nilSlice,.int .i64 (ba x3.2),.int .i64 (ba x4.2),.bool (x5.2==[255])],.int .i64 0]) st:=by
  intro h hm hT st hst;rw[h,hm]at hT;have hR:=good _ hT;have e1:outD s=(.tuple [.agg [.str (ad x0.2),.str x1.2,.nilSlice,.int .i64 (ba x3.2),.int .i64 (ba x4.2),.bool (x5.2==[255])],.int .i64 0],[]):=by unfold outD;rw[hR];rfl
  refine⟨?_,fun _ _=>hst⟩;rw[e1];exact bD [.tuple [.agg [.str (ad x0.2),.str x1.2,.nilSlice,.int .i64 (ba x3.2),.int .i64 (ba x4.2),.bool (x5.2==[255])],.int .i64 0]] rfl _ rfl st
 refine ab (fun h0=>?_) (fun h0=>?_)
 ·have h0:=Nat.eq_of_beq_eq_true h0;have hL:allI x2.2=[]:=List.eq_nil_of_length_eq_zero h0;refine ab (fun t0=>?_) (fun t0=>bad (by rw[hC];simp only[decT,t0,Bool.false_and,cond_false]) _);refine ab (fun t1=>?_) (fun t1=>bad (by rw[hC];simp only[decT,t1,Bool.false_and,Bool.and_false,cond_false]) _);refine ab (fun t2=>?_) (fun t2=>bad (by rw[hC];simp only[decT,t2,Bool.false_and,Bool.and_false,cond_false]) _);refine ab (fun t3=>?_) (fun t3=>bad (by rw[hC];simp only[decT,t3,Bool.false_and,Bool.and_false,cond_false]) _);refine ab (fun t4=>?_) (fun t4=>bad (by rw[hC];simp only[decT,t4,Bool.false_and,Bool.and_false,cond_false]) _);refine ab (fun t5=>?_) (fun t5=>bad (by rw[hC];simp only[decT,t5,Bool.and_false,cond_false]) _);have hT:=tagd t0 t1 t2 t3 t4 t5;refine ab (fun h=>bad (by rw[Bool.not_eq_true']at h;rw[hT,h];rfl) _) (fun h=>?_);rw[Bool.not_eq_false']at h;rw[h,cond_true]at hT;refine ab (fun h=>bad (by have h:(m2 (m2 (m2 (allE x2.2) (bc x3.2)) (bc x4.2)) (rbE x5.2)!=0)=true:=h;rw[hT,h];rfl) _) (fun h=>?_);have h:(m2 (m2 (m2 (allE x2.2) (bc x3.2)) (bc x4.2)) (rbE x5.2)!=0)=false:=h;rw[h,cond_false]at hT;refine ab (fun h=>bad (by rw[Bool.not_eq_true']at h;rw[hT,hL,h];rfl) _) (fun h=>?_);rw[Bool.not_eq_false']at h;exact nilL hL h hT _ ⟨0,rfl⟩
 ·have hcs9:ac 9 (allC x2.2)=aq (allI x2.2):=by unfold allC;rw[gr]
  have hN:allN x2.2=(allI x2.2).length:=rfl;have hda:gm (aq (allI x2.2))=(allI x2.2).all (fun y=>y.1==130):=by unfold gm;rw[cy]
  rw[hcs9];refine ab (fun t0=>?_) (fun t0=>bad (by rw[hC];simp only[decT,t0,Bool.false_and,cond_false]) _);refine ab (fun t1=>?_) (fun t1=>bad (by rw[hC];simp only[decT,t1,Bool.false_and,Bool.and_false,cond_false]) _);refine ab (fun t2=>?_) (fun t2=>bad (by rw[hC];simp only[decT,t2,Bool.false_and,Bool.and_false,cond_false]) _);refine ab (fun t3=>?_) (fun t3=>bad (by rw[hC];simp only[decT,t3,Bool.false_and,Bool.and_false,cond_false]) _);refine ab (fun t4=>?_) (fun t4=>bad (by rw[hC];simp only[decT,t4,Bool.false_and,Bool.and_false,cond_false]) _);refine ab (fun t5=>?_) (fun t5=>bad (by rw[hC];simp only[decT,t5,Bool.and_false,cond_false]) _);have hT:=tagd t0 t1 t2 t3 t4 t5;refine ab (fun h=>bad (by rw[Bool.not_eq_true']at h;rw[hT,h];rfl) _) (fun h=>?_);rw[Bool.not_eq_false']at h;rw[h,cond_true]at hT;refine ab (fun h=>bad (by have h:(m2 (m2 (m2 (allE x2.2) (bc x3.2)) (bc x4.2)) (rbE x5.2)!=0)=true:=h;rw[hT,h];rfl) _) (fun h=>?_);have h:(m2 (m2 (m2 (allE x2.2) (bc x3.2)) (bc x4.2)) (rbE x5.2)!=0)=false:=h;rw[h,cond_false]at hT;refine⟨?_,ae ?_ ?_⟩
  ·exact⟨[0,9,10],_,rfl,rfl,FitsM.of ⟨.inr ⟨_,.inl rfl,rfl⟩,.inr ⟨.row (aq (allI x2.2)) 74 2,.inl (by simp only[renB,av _ (gO _)]),rfl⟩,.inr ⟨_,.inl rfl,rfl⟩,trivial⟩,by decide,fun i hi=>by omega⟩
  ·unfold kG;simp only[Bool.and_eq_true];exact⟨okLs_mk (ka x2.2),Nat.ble_eq_true_of_le (Nat.zero_le _),rfl⟩
  ·rw[hda];refine ab (fun ha=>?_) (fun ha=>?_)
   ·rw[ha,cond_true]at hT;refine⟨fun hz=>?_,fun j hj=>?_⟩
    ·rw[hz]at h0;cases h0
    ·have t1:List.take ((j+1)*1) (List.drop 0 (strs ((dg (aq (allI x2.2))).map (fun x=>x.2))))=strs ((allI x2.2).map (·.2)):=by
      rw[List.drop_zero,cy];exact List.take_of_length_le (by rw[aT,List.length_map,←hN,hj];omega)
     have t2:(0+(j+1)*1).ble (strs ((dg (aq (allI x2.2))).map (fun x=>x.2))).length=true:=Nat.ble_eq_true_of_le (by rw[aT,List.length_map,cy,←hN,hj];omega);have t3:(strs ((allI x2.2).map (·.2))).length.beq (j+1)=true:=by rw[aT,List.length_map,←hN,hj];exact Nat.beq_refl _
     have t4:((allI x2.2).map (·.2)).length.ble 9223372036854775807=true:=Nat.ble_eq_true_of_le (by rw[List.length_map];have:=ka x2.2;omega);have t5:dg (aq (allI x2.2))=allI x2.2:=cy _;rw[t1,t2,t3,t5];simp only[cS,aA,t4,Bool.and_self,cond_true];refine ab (fun h=>bad (by rw[Bool.not_eq_true']at h;rw[hT,h];rfl) _) (fun h=>?_);rw[Bool.not_eq_false']at h;rw[h,cond_true]at hT;have hR:=good _ hT;obtain⟨a,r,har⟩:∃a r,(allI x2.2).map (·.2)=a::r:=by
      cases hm:(allI x2.2).map (·.2)with
      |nil=>have:=congrArg List.length hm;rw[List.length_map,←hN,hj]at this;simp at this
      |cons a r=>exact⟨a,r,rfl⟩
     have hl2:(a::r).length=j+1:=by rw[←har,List.length_map,←hN,hj]
     have e1:outD s=(.tuple [.agg [.str (ad x0.2),.str x1.2,.slice 0 0 (j+1) false 0 0,.int .i64 (ba x3.2),.int .i64 (ba x4.2),.bool (x5.2==[255])],.int .i64 0],[.row (strs (a::r)) 9 1]):=by unfold outD;rw[hR,har,←hl2]
     refine⟨?_,fun _ h2=>by rw[e1]at h2;cases h2⟩;rw[e1,har];exact⟨[3],[.tuple [.agg [.str (ad x0.2),.str x1.2,.slice 3 0 (j+1) false 0 0,.int .i64 (ba x3.2),.int .i64 (ba x4.2),.bool (x5.2==[255])],.int .i64 0]],rfl,rfl,FitsM.of ⟨.inr ⟨.row (strs (a::r)) 9 1,.inl (by simp only[renB,av _ (bB _)]),rfl⟩,trivial⟩,by decide,fun i hi=>by omega⟩
   ·intro i;exact bad (by rw[hT,ha];rfl) _
theorem outD_rows(s:List UInt8):∀b∈(outD s).2,∃cs t sz,b=Blk.row cs t sz:=by
 unfold outD;split
 ·simp
 ·split
  ·simp
  ·intro b hb;simp only[List.mem_singleton]at hb;exact⟨_,_,_,hb⟩
theorem de_sat(s:List UInt8):FnSat Tryd.prog 29 [.str s] [] (Is (outD s)):=
 FnSat.fits ((gX aH F1_ok (de_all s)).mono fun u st hq=>fits_visF (outD_rows s) hq.1)
end Go.Proofs.YtebkeppoicllmaaDoor
