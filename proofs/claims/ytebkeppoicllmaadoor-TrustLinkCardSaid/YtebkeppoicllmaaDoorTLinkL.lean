/- TrustLink: the law. -/
import Derived.Test.YtebkeppoicllmaaDoorTLinkP
namespace Go.Proofs.YtebkeppoicllmaaDoor
open Go.IntKind (u8 u16 u32 u64 i8 i16 i32 i64)
open Go Go.Vm Go.RowKit
set_option linter.unusedVariables false
set_option maxRecDepth 100000
set_option linter.unusedSectionVars false
variable [Φ:Frz]
theorem bV{c:Bool}{a b:Prop}(h:c=false)(hb:b):bif c then a else b:=by subst h;exact hb
theorem bm{L:List CR}{an:List (List UInt8)}{h:List UInt8}(hb:aX 15 an none L=false):bif !anB 15 an L then V.bool (jgV (L.map eB) h 15 an !=0)=V.bool true else V.bool false=V.bool true:=by
 unfold anB;rw[hb];show V.bool (!(jgV (L.map eB) h 15 an==0))=_;rw[sent_bad hb];rfl
theorem dne_b:(digB [98]==digB [114,111,111,116])=false:=by kernel_rfl
theorem dne_c:(digB [99]==digB [114,111,111,116])=false:=by kernel_rfl
theorem dne_d:(digB [100]==digB [114,111,111,116])=false:=by kernel_rfl
theorem u64_pos(m:Int):0≤u64.wrap m:=by
 have hb:u64.bits=64:=rfl;have hs:u64.signed=false:=rfl;unfold IntKind.wrap;simp only[hb,hs];simp;omega
theorem m4_in(m:Int):i64.wrap (1+i64.wrap ((u64.wrap m).tmod 4))=1∨i64.wrap (1+i64.wrap ((u64.wrap m).tmod 4))=2∨i64.wrap (1+i64.wrap ((u64.wrap m).tmod 4))=3∨i64.wrap (1+i64.wrap ((u64.wrap m).tmod 4))=4:=by
 have h1:0≤u64.wrap m:=u64_pos m;generalize u64.wrap m=u at*
 have h2:u.tmod 4=u%4:=Int.tmod_eq_emod_of_nonneg h1;rw[h2,IntWalk.i64_in (u%4) ⟨by omega,by omega⟩,IntWalk.i64_in (1+u%4) ⟨by omega,by omega⟩];omega
theorem mk_in(m k:Int)(hk:1≤k)(hk4:k≤4):0≤i64.wrap ((u64.wrap m).tmod k)∧i64.wrap ((u64.wrap m).tmod k)<k:=by
 have h1:0≤u64.wrap m:=u64_pos m;generalize u64.wrap m=u at*
 have h2:u.tmod k=u%k:=Int.tmod_eq_emod_of_nonneg h1;have h3:=Int.emod_nonneg u (show k≠0 by omega);have h4:=Int.emod_lt_of_pos u (show 0<k by omega);rw[h2,IntWalk.i64_in (u%k) ⟨by omega,by omega⟩];exact⟨h3,h4⟩
set_option maxHeartbeats 8000000 in
theorem tl_close(many which how:Int)(bY:List UInt8):FnSat Tryd.prog 3 [.int .i64 many,.int .i64 which,.int .u8 how,.str bY] [] (fun v _=>v=.bool true):=by
 refine runW_ok (Z:=lzX) (lim:=9) (n:=10) aH TLN_ok ?_;refine cast (tl_law digB eB eE bw anB jgV many which how bY (fun v=>v=.bool true)).symm ?_;refine ab (fun _=>rfl) (fun _=>?_);have n1:=dne_b;have n2:=dne_c;have n3:=dne_d;have hn:=m4_in many;have w1:=mk_in which 1 (by omega) (by omega);have w2:=mk_in which 2 (by omega) (by omega);have w3:=mk_in which 3 (by omega) (by omega);have w4:=mk_in which 4 (by omega) (by omega);generalize i64.wrap (1+i64.wrap ((u64.wrap many).tmod 4))=N at*
 generalize i64.wrap ((u64.wrap which).tmod 1)=k1 at*
 generalize i64.wrap ((u64.wrap which).tmod 2)=k2 at*
 generalize i64.wrap ((u64.wrap which).tmod 3)=k3 at*
 generalize i64.wrap ((u64.wrap which).tmod 4)=k4 at*
 rcases hn with rfl|rfl|rfl|rfl
 ·-- 1
  simp only[Int.reduceBEq,cond_true,cond_false];refine bV (by kernel_rfl) (bV (by kernel_rfl) (bV (by kernel_rfl) ?_));obtain rfl:k1=0:=by omega
  simp only[Int.reduceLE,Int.reduceLT,Int.reduceBEq,decide_true,Bool.and_self,cond_true,cond_false];refine ab (fun _=>?_) (fun _=>ab (fun _=>?_) (fun _=>?_))
  ·refine ab (fun _=>trivial) (fun h1=>ab (fun _=>trivial) (fun h2=>?_));exact bm (by simp[*,aX,cl,bw,hasS,aS])
  ·kernel_rfl
  ·exact bm (by simp[*,aX,cl,bw,hasS,aS])
 ·-- 2
  simp only[Int.reduceBEq,cond_true,cond_false];refine bV (by kernel_rfl) (bV (by kernel_rfl) (bV (by kernel_rfl) ?_));obtain rfl|rfl:k2=0∨k2=1:=by omega
  ·simp only[Int.reduceLE,Int.reduceLT,Int.reduceBEq,decide_true,Bool.and_self,cond_true,cond_false];refine ab (fun _=>?_) (fun _=>ab (fun _=>?_) (fun _=>?_))
   ·refine ab (fun _=>trivial) (fun h1=>ab (fun _=>trivial) (fun h2=>?_));exact bm (by simp[*,aX,cl,bw,hasS,aS])
   ·kernel_rfl
   ·exact bm (by simp[*,aX,cl,bw,hasS,aS])
  ·simp only[Int.reduceLE,Int.reduceLT,Int.reduceBEq,decide_true,Bool.and_self,cond_true,cond_false];refine ab (fun _=>?_) (fun _=>ab (fun _=>?_) (fun _=>?_))
   ·refine ab (fun _=>trivial) (fun h1=>ab (fun _=>trivial) (fun h2=>?_));exact bm (by simp[*,aX,cl,bw,hasS,aS])
   ·exact bm (by simp[*,aX,cl,bw,hasS,aS])
   ·exact bm (by simp[*,aX,cl,bw,hasS,aS])
 ·-- 3
  simp only[Int.reduceBEq,cond_true,cond_false];refine bV (by kernel_rfl) (bV (by kernel_rfl) (bV (by kernel_rfl) ?_));obtain rfl|rfl|rfl:k3=0∨k3=1∨k3=2:=by omega
  ·simp only[Int.reduceLE,Int.reduceLT,Int.reduceBEq,decide_true,Bool.and_self,cond_true,cond_false];refine ab (fun _=>?_) (fun _=>ab (fun _=>?_) (fun _=>?_))
   ·refine ab (fun _=>trivial) (fun h1=>ab (fun _=>trivial) (fun h2=>?_));exact bm (by simp[*,aX,cl,bw,hasS,aS])
   ·kernel_rfl
   ·exact bm (by simp[*,aX,cl,bw,hasS,aS])
  ·simp only[Int.reduceLE,Int.reduceLT,Int.reduceBEq,decide_true,Bool.and_self,cond_true,cond_false];refine ab (fun _=>?_) (fun _=>ab (fun _=>?_) (fun _=>?_))
   ·refine ab (fun _=>trivial) (fun h1=>ab (fun _=>trivial) (fun h2=>?_));exact bm (by simp[*,aX,cl,bw,hasS,aS])
   ·exact bm (by simp[*,aX,cl,bw,hasS,aS])
   ·exact bm (by simp[*,aX,cl,bw,hasS,aS])
  ·simp only[Int.reduceLE,Int.reduceLT,Int.reduceBEq,decide_true,Bool.and_self,cond_true,cond_false];refine ab (fun _=>?_) (fun _=>ab (fun _=>?_) (fun _=>?_))
   ·refine ab (fun _=>trivial) (fun h1=>ab (fun _=>trivial) (fun h2=>?_));exact bm (by simp[*,aX,cl,bw,hasS,aS])
   ·exact bm (by simp[*,aX,cl,bw,hasS,aS])
   ·exact bm (by simp[*,aX,cl,bw,hasS,aS])
 ·-- 4
  simp only[Int.reduceBEq,cond_true,cond_false];refine bV (by kernel_rfl) (bV (by kernel_rfl) (bV (by kernel_rfl) ?_));obtain rfl|rfl|rfl|rfl:k4=0∨k4=1∨k4=2∨k4=3:=by omega
  ·simp only[Int.reduceLE,Int.reduceLT,Int.reduceBEq,decide_true,Bool.and_self,cond_true,cond_false];refine ab (fun _=>?_) (fun _=>ab (fun _=>?_) (fun _=>?_))
   ·refine ab (fun _=>trivial) (fun h1=>ab (fun _=>trivial) (fun h2=>?_));exact bm (by simp[*,aX,cl,bw,hasS,aS])
   ·kernel_rfl
   ·exact bm (by simp[*,aX,cl,bw,hasS,aS])
  ·simp only[Int.reduceLE,Int.reduceLT,Int.reduceBEq,decide_true,Bool.and_self,cond_true,cond_false];refine ab (fun _=>?_) (fun _=>ab (fun _=>?_) (fun _=>?_))
   ·refine ab (fun _=>trivial) (fun h1=>ab (fun _=>trivial) (fun h2=>?_));exact bm (by simp[*,aX,cl,bw,hasS,aS])
   ·exact bm (by simp[*,aX,cl,bw,hasS,aS])
   ·exact bm (by simp[*,aX,cl,bw,hasS,aS])
  ·simp only[Int.reduceLE,Int.reduceLT,Int.reduceBEq,decide_true,Bool.and_self,cond_true,cond_false];refine ab (fun _=>?_) (fun _=>ab (fun _=>?_) (fun _=>?_))
   ·refine ab (fun _=>trivial) (fun h1=>ab (fun _=>trivial) (fun h2=>?_));exact bm (by simp[*,aX,cl,bw,hasS,aS])
   ·exact bm (by simp[*,aX,cl,bw,hasS,aS])
   ·exact bm (by simp[*,aX,cl,bw,hasS,aS])
  ·simp only[Int.reduceLE,Int.reduceLT,Int.reduceBEq,decide_true,Bool.and_self,cond_true,cond_false];refine ab (fun _=>?_) (fun _=>ab (fun _=>?_) (fun _=>?_))
   ·refine ab (fun _=>trivial) (fun h1=>ab (fun _=>trivial) (fun h2=>?_));exact bm (by simp[*,aX,cl,bw,hasS,aS])
   ·exact bm (by simp[*,aX,cl,bw,hasS,aS])
   ·exact bm (by simp[*,aX,cl,bw,hasS,aS])
end Go.Proofs.YtebkeppoicllmaaDoor
