/- The laws of this seat: the arguments as they lie there; the walks. -/
import Derived.Test.YtebkeppoicllmaaGreatDoorPHosts
import Derived.Test.YtebkeppoicllmaaGreatDoorVmc
import Derived.Test.YtebkeppoicllmaaGreatDoorRows
import Derived.WalkKit
import Derived.ProofKit
import Derived.OpenShut
import Derived.ShutString
import Derived.SizedLaws
namespace Go.Proofs.YtebkeppoicllmaaGreatDoor
open Go Go.Vm Go.RowKit
open Go.ChangeShapes Go.WideShapes Go.ChangeAt
set_option linter.unusedVariables false
set_option linter.unusedSectionVars false
set_option maxRecDepth 100000
def polSh:Sh:=.agg [.int .u8,.lst .str,.int .i64]
theorem polSh_ok:shOk Tryz.prog 9 polSh 56=true:=by kernel_rfl
def IsPol(w:World)(v:Value):Prop:=∃mo xms ms ag,@real gl (Frz.of w) [] (.agg [.int .u8 mo,lstS xms ms,.int .i64 ag])=some v∧ms.length≤maxLen
theorem open_Pol{H:Type}{enc:TypeId×Value→H}{W:World}{b0:Nat}{r:Reach}{v:Value}{d:DataW H}{ps:List MemPlace}
  (hval:Value.okWide Tryz.prog W r b0 56 v)(hd:DataW.Trod enc Tryz.prog W 0 (fun _=>true) true 56 v d ps):IsPol W v:=by
 obtain⟨cs,rfl,_⟩:=okWide_struct Tryz.underlying56 hval;obtain⟨fuel,hf⟩:=hd;obtain⟨dd,h1,h2⟩:=@iv gl _ _ _ _ _ _ _ 9 polSh 56 fuel _ _ polSh_ok hf;obtain⟨l0_0,e0,g0_0⟩:=ofAgg h1;obtain⟨d0_0,l0_1,e0_0,a0_0,g0_1⟩:=hY g0_0;obtain⟨d0_1,l0_2,e0_1,a0_1,g0_2⟩:=hY g0_1;obtain⟨d0_2,l0_3,e0_2,a0_2,g0_3⟩:=hY g0_2;have z0:=all2_nil g0_3;subst e0 e0_0 e0_1 e0_2 z0;obtain⟨mo,q_mo,w_mo⟩:=ofInt a0_0;subst q_mo;obtain⟨xms,ds_ms,q_ms,w_ms,y_ms⟩:=ofLst a0_1;subst q_ms;obtain⟨ms,c_ms,m_ms⟩:=strsD _ ds_ms y_ms;have n_ms:ds_ms.length=ms.length:=by rw[c_ms,List.length_map]
 obtain⟨ag,q_ag,w_ag⟩:=ofInt a0_2;subst q_ag;simp only[eq,bB,m_ms,n_ms,List.append_nil,List.cons_append,List.nil_append]at h2;have h3:=@dU gl (Frz.of W) [] _ _ h2;refine⟨mo,xms,ms,ag,?_,by rw[←n_ms];exact w_ms⟩;have h4:=@Go.Vm.real_agg_mk gl (Frz.of W) [] _ _ h3;rw[show(Value.agg cs).cells=cs from rfl,Array.toArray_toList]at h4;exact h4
def strsSh:Sh:=.lst .str
theorem strsSh_ok:shOk Tryz.prog 9 strsSh 22=true:=by kernel_rfl
def IsStrs(w:World)(v:Value):Prop:=∃xan an,@real gl (Frz.of w) [] (lstS xan an)=some v∧an.length≤maxLen
theorem open_Strs{H:Type}{enc:TypeId×Value→H}{W:World}{b0:Nat}{r:Reach}{v:Value}{d:DataW H}{ps:List MemPlace}
  (hval:Value.okWide Tryz.prog W r b0 22 v)(hd:DataW.Trod enc Tryz.prog W 0 (fun _=>true) true 22 v d ps):IsStrs W v:=by
 obtain⟨sa,sl,sc,rfl⟩:=okWide_slice Tryz.underlying22 hval;obtain⟨fuel,hf⟩:=hd;obtain⟨dd,h1,h2⟩:=@iv gl _ _ _ _ _ _ _ 9 strsSh 22 fuel _ _ strsSh_ok hf;obtain⟨xan,ds_an,q_an,w_an,y_an⟩:=ofLst h1;subst q_an;obtain⟨an,c_an,m_an⟩:=strsD _ ds_an y_an;have n_an:ds_an.length=an.length:=by rw[c_an,List.length_map]
 simp only[eq,bB,m_an,n_an,List.append_nil,List.cons_append,List.nil_append]at h2;have h3:=@dU gl (Frz.of W) [] _ _ h2;refine⟨xan,an,?_,by rw[←n_an];exact w_an⟩;simp only[aa]at h3;split at h3
 ·rename_i q1 q2 q3 q4;obtain⟨e1,_⟩:=List.cons.inj (Option.some.inj h3);subst e1;exact q3
 ·cases h3
theorem j0:maxLen=9223372036854775807:=by decide
theorem bytes_str{w:World}(s:ByteArray):@real gl (Frz.of w) [] (.str s.data.toList)=some (.string s):=by simp[real]
theorem gN(v0:Value)(v1:Value)(a2:ByteArray)(w:World)(x0:IsPol w v0)(x1:IsStrs w v1)(w2:a2.size≤maxLen)(hg:@GOk gl (Frz.of w) w.heap.size w):
  Calls Tryz.prog 7 #[v0,v1,.string a2] w (fun e w'=>e=.returned (.bool true)∧Below w.heap.size w w'):=by
 obtain⟨mo_0,xms_0,ms_0,ag_0,re0,hy_ms_0⟩:=x0;obtain⟨xan_1,an_1,re1,hy_an_1⟩:=x1;refine @frz_law gl Tryz.prog 7 [.agg [.int .u8 mo_0,lstS xms_0 ms_0,.int .i64 ag_0],lstS xan_1 an_1,.str a2.data.toList] [v0,v1,.string a2] w (@ph_close (Frz.of w) mo_0 xms_0 ms_0 ag_0 xan_1 an_1 a2.data.toList (by rw[j0]at hy_ms_0;exact hy_ms_0) (by rw[j0]at hy_an_1;exact hy_an_1)) ?_ hg;simp only[aa,bytes_str,re0,re1]
end Go.Proofs.YtebkeppoicllmaaGreatDoor
