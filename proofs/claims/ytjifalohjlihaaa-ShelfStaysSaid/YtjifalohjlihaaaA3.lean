import Derived.Test.YtjifalohjlihaaaA2
import Derived.BigFrame
import Derived.Deep.MidRow
import Derived.Deep.WholeRow
import Derived.DeepKeys
import Derived.IntWalk
import Derived.LoopIn
import Derived.LoopNIn
import Derived.OwnWalkIn
import Derived.RangeFuncBound
import Derived.RangeFuncCalls
import Derived.RangeFuncLeaves
import Derived.RangeFuncNested
import Derived.Shelf.Abstract
import Derived.Shelf.RegionOpen
import Derived.StillTailTactics
import Derived.TacticsInMore
import Derived.WalkKit
import Derived.WalkSpells
section
namespace Go.Proofs.Ytjifalohjlihaaa.Q
set_option linter.unusedVariables false
open Go.RowKit Go.Proofs.YtjifalohjlihaaaW.PrintWords Go.Proofs.YtjifalohjlihaaaW.PrintLast Go.Proofs.YtjifalohjlihaaaW.PrintMore
def slices_Clone_int.f (l0:List Int):Option (List Int):=if l0.length < 17592186044416 then some l0 else none
def slices_Clone_Range.f (l0:List S56):Option (List S56):=if l0.length < 8796093022208 then some l0 else none
theorem lim_int {n:Nat} (h:n < 17592186044416):(0+n)*8≤140737488355328:=by omega
theorem lim_16 {n:Nat} (h:n < 8796093022208):(0+n)*16≤140737488355328:=by omega
set_option maxRecDepth 100000 in
set_option maxHeartbeats 800000 in
theorem slices_Clone_int.calls (A0:Option Addr) (c0:Nat) (l0:List Int) (r:List Int) (w:World) (hr0:Kd.C (Kd.int .i64) w A0 l0.length l0) (hc0:l0.length≤c0) (h:slices_Clone_int.f l0=some r):
  Calls Try.prog 88 #[.slice A0 l0.length c0] w fun e w'=>∃v0_:Value,e= .returned v0_∧Kd.R (Kd.int .i64) 3 w' w.heap.size (fun _=>True) v0_ r∧Below w.heap.size w w':=by
 unfold slices_Clone_int.f at h
 split at h
 case isFalse=>cases h
 case isTrue hlim0=>
 have hlim:=Aside0.mk hlim0
 clear hlim0
 obtain rfl:=Option.some.inj h
 have HR0:=Aside0.mk hr0
 have HB:=Aside0.mk (Below.refl w.heap.size w)
 clear hr0 hc0 h
 have hnil:=fun (W:World) (a:Option Addr) (l c:Nat)=>Lib.run_eql_slice_nil (P:=Try.prog) W 25 3 a l c 0 0 Try.underlying25
 cases A0 with
 |none=>
  have e0:l0= []:=by
   cases l0 with
   |nil=>rfl
   |cons x xs=>exact absurd (Kd.at_int HR0.out 0 (by omega) (by simp)) (by rintro⟨ad,h,_⟩;cases h)
  subst e0
  go_enter Try.func88,Try.ntmps88
  go_wp2
  go_ret
  exact⟨_,rfl,Kd.R_nil _ _ _ _ _,HB.out⟩
 |some ad=>
  go_enter Try.func88,Try.ntmps88
  go_wp2_with (first|((with_reducible refine gate_dst (N:=5) rfl ?_);refine Kd.R_lit (Kd.int .i64) w.heap.size 3 ?hg (N:=5) ?hd (xs:=([]:List Int)) (inner:= []) (ok:=fun _=>True) (okp:=fun _=>True) ?hr ?hp (fun _ hk=>hk) trivial HB.out (Nat.le_refl _) (by simp) ?_;(case hd=>rfl);(case hg=>rfl);(case hr=>first|(go_simp;done)|(go_simp;rfl));(case hp=>exact Reps.none _ _);intro v171 w1 ho2 hb hg_ hnew_;have HO:=Aside0.mk ho2;have HB1:=Aside0.mk hb;clear hg_ hnew_ ho2 hb HB)|((with_reducible refine gate_builtin (b:= .append) (xs:=#[.tmp 5,.tmp 6]) rfl ?_);at_builtin;refine Kd.R_append_rows (Kd.int .i64) (w0:=w) w.heap.size rfl (.tmp 5) (.tmp 6) 25 3 (.int .i64 0) 8 rfl Try.underlying25 info3 rfl (by decide) (by omega) _ [] l0 _ _ _ (fun _=>True) (fun _=>False) rfl rfl ?aO ?aR (fun _ _ h=>h) (fun _ h=>h.elim) ?aF ?aB ?aS ?aL ?_;(case aR=>exact Kd.C_below HR0.out HB1.out);(case aB=>exact HB1.out);(case aF=>exact(fun _ _=>trivial));(case aO=>exact HO.out);(case aS=>exact below_size HB1.out);(case aL=>exact lim_int hlim.out);intro v17 w12 ho hb hg hat;have HO2:=Aside0.mk ho;have HB2:=Aside0.mk hb;clear ho hb hg hat HO))
  go_ret
  exact⟨_,rfl,HO2.out,HB2.out⟩
set_option maxRecDepth 100000 in
set_option maxHeartbeats 800000 in
theorem slices_Clone_Range.calls (A0:Option Addr) (c0:Nat) (l0:List S56) (r:List S56) (w:World) (hr0:Kd.C k56 w A0 l0.length l0) (hc0:l0.length≤c0) (h:slices_Clone_Range.f l0=some r):
  Calls Try.prog 130 #[.slice A0 l0.length c0] w fun e w'=>∃v0_:Value,e= .returned v0_∧Kd.R k56 56 w' w.heap.size (fun _=>True) v0_ r∧Below w.heap.size w w':=by
 unfold slices_Clone_Range.f at h
 split at h
 case isFalse=>cases h
 case isTrue hlim0=>
 have hlim:=Aside0.mk hlim0
 clear hlim0
 obtain rfl:=Option.some.inj h
 have HR0:=Aside0.mk hr0
 have HB:=Aside0.mk (Below.refl w.heap.size w)
 clear hr0 hc0 h
 have hnil:=fun (W:World) (a:Option Addr) (l c:Nat)=>Lib.run_eql_slice_nil (P:=Try.prog) W 31 56 a l c 0 0 Try.underlying31
 cases A0 with
 |none=>
  have e0:l0= []:=by
   cases l0 with
   |nil=>rfl
   |cons x xs=>exact absurd (at_T56 HR0.out 0 (by omega) (by simp)) (by rintro⟨ad,h,_⟩;cases h)
  subst e0
  go_enter Try.func130,Try.ntmps130
  go_wp2
  go_ret
  exact⟨_,rfl,Kd.R_nil _ _ _ _ _,HB.out⟩
 |some ad=>
  go_enter Try.func130,Try.ntmps130
  go_wp2_with (first|((with_reducible refine gate_dst (N:=5) rfl ?_);refine Kd.R_lit k56 w.heap.size 56 ?hg (N:=5) ?hd (xs:=([]:List S56)) (inner:= []) (ok:=fun _=>True) (okp:=fun _=>True) ?hr ?hp (fun _ hk=>hk) trivial HB.out (Nat.le_refl _) (by simp) ?_;(case hd=>rfl);(case hg=>rfl);(case hr=>first|(go_simp;done)|(go_simp;rfl));(case hp=>exact Reps.none _ _);intro v171 w1 ho2 hb hg_ hnew_;have HO:=Aside0.mk ho2;have HB1:=Aside0.mk hb;clear hg_ hnew_ ho2 hb HB)|((with_reducible refine gate_builtin (b:= .append) (xs:=#[.tmp 5,.tmp 6]) rfl ?_);at_builtin;refine Kd.R_append_rows k56 (Rr:=k56.K w1) (w0:=w) w.heap.size rfl (.tmp 5) (.tmp 6) 31 56 (.agg #[(.int .i64 0),(.int .i64 0)]) 16 rfl Try.underlying31 info56 rfl (show 0 < 2 by omega) (by omega) _ [] l0 _ _ _ (fun _=>True) (fun _=>False) rfl rfl ?aO ?aR ?aM (fun _ h=>h.elim) ?aF ?aB ?aS ?aL ?_;(case aR=>exact Kd.C_below HR0.out HB1.out);(case aM=>intro _ _ h_;obtain rfl:=k56_open h_;exact k56_mkM _ _ _ _);(case aB=>exact HB1.out);(case aF=>exact(fun _ _=>trivial));(case aO=>exact HO.out);(case aS=>exact below_size HB1.out);(case aL=>exact lim_16 hlim.out);intro v17 w12 ho hb hg hat;have HO2:=Aside0.mk ho;have HB2:=Aside0.mk hb;clear ho hb hg hat HO))
  go_ret
  exact⟨_,rfl,HO2.out,HB2.out⟩
def slices_Grow_int_int.f (l0:List Int) (a1:Int):Option (List Int):=if l0= []∧0≤a1∧a1 < 17592186044416 then some []else none
theorem lim_grow {n:Int} (h:n < 17592186044416):(([]:List Int).length+n.toNat)*8≤140737488355328:=by simp;omega
set_option maxRecDepth 100000 in
set_option maxHeartbeats 800000 in
theorem slices_Grow_int_int.calls (A0:Option Addr) (c0:Nat) (l0:List Int) (a1:Int) (r:List Int) (w:World) (hr0:Kd.C (Kd.int .i64) w A0 l0.length l0) (hc0:l0.length≤c0) (h:slices_Grow_int_int.f l0 a1=some r):
  Calls Try.prog 135 #[.slice none 0 0,.int .i64 a1] w fun e w'=>∃v0_:Value,e= .returned v0_∧Kd.R (Kd.int .i64) 3 w' w.heap.size (fun _=>True) v0_ r∧Below w.heap.size w w':=by
 unfold slices_Grow_int_int.f at h
 split at h
 case isFalse=>cases h
 case isTrue hl=>
 obtain⟨rfl,h0,h1⟩:=hl
 obtain rfl:=Option.some.inj h
 have hlim:=Aside0.mk h1
 have HB:=Aside0.mk (Below.refl w.heap.size w)
 clear hr0 hc0 h
 obtain⟨i0,hi,hzz⟩:=Option.map_eq_some_iff.1 info3
 clear hzz
 rcases Int.lt_or_eq_of_le h0 with hp|hz
 ·have hp':decide (a1 > 0)=true:=decide_eq_true hp
  have hn':decide (a1 < 0)=false:=decide_eq_false (by omega)
  go_enter Try.func135,Try.ntmps135
  go_wp2_with (first|((with_reducible refine gate_builtin (b:= .append) (xs:=#[.tmp 20,.tmp 21]) rfl ?_);at_builtin;go_must (refine Kd.R_append_zeros (Kd.int .i64) (w0:=w) w.heap.size rfl (.tmp 20) (.tmp 21) 25 3 3 (.int .i64 0) 8 rfl Try.underlying25 Try.underlying3 info3 rfl (by decide) (by omega) _ [] 0 a1 (fun _=>True) rfl rfl rfl (fun _ _=>trivial) (Kd.R_nil _ _ _ _ _) h0 HB.out (by exact Nat.le_refl _) (lim_grow hlim.out) ?_);intro v17 w12 ho hb hg hat;obtain⟨A,c,rfl,hle,hC⟩:=Kd.R_reads ho;have HO2:=Aside0.mk (Kd.R_take ho (Nat.zero_le _));have HB2:=Aside0.mk hb;have hle':=Aside0.mk hle;have hcut:=cut_to 25 3 .i64 Try.underlying25 hi A ([]++List.replicate a1.toNat (0:Int)).length c 0 (by omega) (by omega) hle;clear ho hb hg hat hC hle))
  go_ret
  exact⟨_,rfl,HO2.out,HB2.out⟩
 ·subst hz
  go_enter Try.func135,Try.ntmps135
  go_wp2
  go_ret
  exact⟨_,rfl,Kd.R_nil _ _ _ _ _,HB.out⟩
end Go.Proofs.Ytjifalohjlihaaa.Q
end
section
namespace Go.Proofs.Ytjifalohjlihaaa.Q
set_option linter.unusedVariables false
open Go.RowKit Go.Proofs.YtjifalohjlihaaaW.PrintWords Go.Proofs.YtjifalohjlihaaaW.PrintLast Go.Proofs.YtjifalohjlihaaaW.PrintMore
structure SL where
 a0:Int
 l1:List S56
 l2:List S135
 l3:List S126
 l4:List Int
 l5:List S137
structure SA where
 A1:Option Addr
 c1:Nat
 A2:Option Addr
 c2:Nat
 A3:Option Addr
 c3:Nat
 A4:Option Addr
 c4:Nat
 A5:Option Addr
 c5:Nat
abbrev SA.cells (x:SA) (l:SL):Array Value:=#[.int .i64 l.a0,.slice x.A1 l.l1.length x.c1,.slice x.A2 l.l2.length x.c2,.slice x.A3 l.l3.length x.c3,.slice x.A4 l.l4.length x.c4,.slice x.A5 l.l5.length x.c5]
structure Rd (w:World) (x:SA) (l:SL):Prop where
 r1:Kd.C k56 w x.A1 l.l1.length l.l1
 r2:Kd.C k135 w x.A2 l.l2.length l.l2
 r3:Kd.C k126 w x.A3 l.l3.length l.l3
 r4:Kd.C (Kd.int .i64) w x.A4 l.l4.length l.l4
 r5:Kd.C k137 w x.A5 l.l5.length l.l5
 h1:l.l1.length≤x.c1
 h2:l.l2.length≤x.c2
 h3:l.l3.length≤x.c3
 h4:l.l4.length≤x.c4
 h5:l.l5.length≤x.c5
theorem Rd.below {w w':World} {x:SA} {l:SL} (h:Rd w x l) (hb:Below w.heap.size w w'):Rd w' x l:=
 ⟨Kd.C_below h.r1 hb,Kd.C_below h.r2 hb,Kd.C_below h.r3 hb,Kd.C_below h.r4 hb,Kd.C_below h.r5 hb,h.h1,h.h2,h.h3,h.h4,h.h5⟩
theorem nums_at (ns:List Int) (i:Int) (h0:0≤i) (h1:i < ns.length):(nums .i64 ns).toArray[i.toNat]? =some (.int .i64 (rd ns i)):=by
 have hl:i.toNat < ns.length:=by omega
 simp [nums,rd,List.getElem?_eq_getElem hl]
theorem nums_size (ns:List Int):(nums .i64 ns).toArray.size=ns.length:=by simp [nums]
theorem nums_set (ns:List Int) (i:Nat) (v:Int):(nums .i64 ns).toArray.setIfInBounds i (.int .i64 v)=(nums .i64 (ns.set i v)).toArray:=by
 simp [nums,List.map_set]
abbrev lit11 (ns:List Int):Array Value:=#[.int .i64 (rd ns 0),.int .i64 (rd ns 1),.int .i64 (rd ns 2),.int .i64 (rd ns 3),.int .i64 (rd ns 4),.int .i64 (rd ns 5),.int .i64 (rd ns 6),.int .i64 (rd ns 7),.int .i64 (rd ns 8),.int .i64 (rd ns 9),.int .i64 (rd ns 10)]
theorem nums_lit {ns:List Int} (h:ns.length=11):(nums .i64 ns).toArray=lit11 ns:=by
 match ns,h with
 | [a0,a1,a2,a3,a4,a5,a6,a7,a8,a9,a10],_=>rfl
structure Valid (l:SL):Prop where
 last0:0≤l.a0
 last5:l.a0≤5
 air:(l.l1.length:Int)=l.a0+1
 airs:∀i:Int,0≤i→i < l.l1.length→0≤(rd_T56 l.l1 i).f0∧(rd_T56 l.l1 i).f0≤(rd_T56 l.l1 i).f1∧(rd_T56 l.l1 i).f1≤9
 shelf3:l.l2.length≤3
 shelves:∀i:Int,0≤i→i < l.l2.length→0≤(rd_T135 l.l2 i).f0∧(rd_T135 l.l2 i).f0≤5∧0≤(rd_T135 l.l2 i).f1∧(rd_T135 l.l2 i).f1≤4
 cake5:l.l3.length≤5
 cakes:∀i:Int,0≤i→i < l.l3.length→0≤(rd_T126 l.l3 i).f0∧(rd_T126 l.l3 i).f0≤l.a0∧0≤(rd_T126 l.l3 i).f1.f0∧(rd_T126 l.l3 i).f1.f0≤(rd_T126 l.l3 i).f1.f1∧(rd_T126 l.l3 i).f1.f1≤40∧1≤(rd_T126 l.l3 i).f2∧(rd_T126 l.l3 i).f2≤6
 put:l.l4.length=l.l3.length
 puts:∀i:Int,0≤i→i < l.l4.length→0≤rd l.l4 i∧rd l.l4 i < l.l2.length
 weight5:l.l5.length≤5
 weights:∀i:Int,0≤i→i < l.l5.length→0≤(rd_T137 l.l5 i).f0∧(rd_T137 l.l5 i).f0 < l.l3.length∧(rd_T126 l.l3 (rd_T137 l.l5 i).f0).f0≤(rd_T137 l.l5 i).f1∧(rd_T137 l.l5 i).f1≤l.a0
structure Num (ns:List Int):Prop where
 len:ns.length=11
 small:∀i,0≤rd ns i∧rd ns i≤40
end Go.Proofs.Ytjifalohjlihaaa.Q
end
section
namespace Go.Proofs.Ytjifalohjlihaaa.Q
set_option linter.unusedVariables false
open Go.BigFrame Go.RowKit Go.Shelf Go.Proofs.YtjifalohjlihaaaW.PrintWords Go.Proofs.YtjifalohjlihaaaW.PrintLast Go.Proofs.YtjifalohjlihaaaW.PrintMore
def needsT (T:List (List Nat×List Nat)) (i:Nat):List Nat:=(T.getD i ([],[])).1
def openOk (T:List (List Nat×List Nat)) (n:Nat):Bool:=
 (List.range (n+1)).all (fun i=>(needsT T i).all fun j=>decide (j < i))&&(List.range n).all fun j=>(List.range (n+1)).any fun k=>decide (j < k)&&(needsT T k).contains j
def upd (v:Nat→Value) (i:Nat) (x:Value):Nat→Value:=fun k=>if k=i then x else v k
theorem upd_same (v:Nat→Value) (i:Nat) (x:Value):upd v i x i=x:=if_pos rfl
theorem upd_other {v:Nat→Value} {i j:Nat} {x:Value} (h:j≠i):upd v i x j=v j:=if_neg h
theorem ready_needs {T:List (List Nat×List Nat)} {L:List Bool} {i:Nat} (h:readyAt T L i=true):L.getD i true=false∧∀j∈needsT T i,L.getD j false=true:=by
 unfold readyAt at h
 rw [Bool.and_eq_true]at h
 refine⟨by simpa using h.1,fun j hj=> ?_⟩
 unfold needsT at hj
 rw [List.getD_eq_getElem?_getD]at hj
 cases hT:T[i]? with
 |none=>rw [hT]at h;exact absurd h.2 (by simp)
 |some r=>
  rw [hT]at h hj
  exact(List.all_eq_true.1 h.2) j hj
theorem ready_of {T:List (List Nat×List Nat)} {L:List Bool} {i:Nat} (hi:i < T.length) (h1:L.getD i true=false) (h2:∀j∈needsT T i,L.getD j false=true):readyAt T L i=true:=by
 unfold readyAt
 rw [Bool.and_eq_true]
 refine⟨by simp only [h1];rfl,?_⟩
 unfold needsT at h2
 rw [List.getD_eq_getElem?_getD,List.getElem?_eq_getElem hi]at h2
 rw [List.getElem?_eq_getElem hi]
 exact List.all_eq_true.2 h2
theorem ready_nil {T:List (List Nat×List Nat)} {L:List Bool} {n:Nat} (hn:T.length=n) (h:∀j,j < n→L.getD j true=true):readyT T L= []:=by
 unfold readyT
 rw [List.filter_eq_nil_iff]
 intro i hi
 rw [List.mem_range,hn]at hi
 unfold readyAt
 rw [h i hi]
 simp
theorem ready_some {T:List (List Nat×List Nat)} {L:List Bool} {n:Nat} (hT:T.length=n+1) (hL:L.length=n+1) (hc:openOk T n=true) (h:L.getD n true=false):readyT T L≠ []:=by
 have ex:∃i,i≤n∧L.getD i true=false∧∀j,j < i→L.getD j true=true:=by
  have:∀m,m≤n→L.getD m true=false→∃i,i≤n∧L.getD i true=false∧∀j,j < i→L.getD j true=true:=by
   intro m
   induction m using Nat.strongRecOn with
   |_ m ih=>
    intro hm h1
    by_cases hh:∃j,j < m∧L.getD j true=false
    ·obtain⟨j,hj,h2⟩:=hh
     exact ih j hj (by omega) h2
    ·exact⟨m,hm,h1,fun j hj=>by
      cases hb:L.getD j true with
      |true=>rfl
      |false=>exact absurd ⟨j,hj,hb⟩ hh⟩
  exact this n (Nat.le_refl _) h
 obtain⟨i,hi,h1,h2⟩:=ex
 unfold openOk at hc
 rw [Bool.and_eq_true]at hc
 have h3:=(List.all_eq_true.1 hc.1) i (by rw [List.mem_range];omega)
 intro he
 have h4:readyAt T L i=true:=ready_of (by omega) h1 (fun j hj=>by
  have hji:=of_decide_eq_true ((List.all_eq_true.1 h3) j hj)
  have:=h2 j hji
  rw [List.getD_eq_getElem?_getD,List.getElem?_eq_getElem (by omega)]at this ⊢
  exact this)
 have h5:i∈readyT T L:=by
  unfold readyT
  rw [List.mem_filter,List.mem_range]
  exact⟨by omega,h4⟩
 rw [he]at h5
 exact absurd h5 (by simp)
theorem all_listed {T:List (List Nat×List Nat)} {L:List Bool} {n:Nat} (hc:openOk T n=true) (hcl:∀k,k≤n→L.getD k false=true→∀j∈needsT T k,L.getD j false=true) (hl:∀j∈needsT T n,L.getD j false=true):
  ∀d j,j < n→n-j≤d→L.getD j false=true:=by
 unfold openOk at hc
 rw [Bool.and_eq_true]at hc
 intro d
 induction d with
 |zero=>intro j hj hd;omega
 |succ d ih=>
  intro j hj hd
  have h1:=(List.all_eq_true.1 hc.2) j (by rw [List.mem_range];exact hj)
  obtain⟨k,hk,h2⟩:=List.any_eq_true.1 h1
  rw [Bool.and_eq_true,decide_eq_true_eq,List.contains_iff_mem]at h2
  rw [List.mem_range]at hk
  by_cases e:k=n
  ·subst e;exact hl j h2.2
  ·exact hcl k (by omega) (ih k (by omega) (by omega)) j h2.2
section
variable {P:Program} {ops:Array Oper} {Q:Exit→Act→World→Prop}
theorem wpAny_nil {l:Array Bool} {a:Act} {w:World} (hr:Region.ready .any ops l= []) (h:Q .normal a w):∀fuel,wpAny P .any ops Q fuel l a w
 |0=>⟨hr,h⟩
 |fuel+1=>⟨fun _=>h,fun i hi=>by rw [hr]at hi;exact absurd hi (by simp)⟩
theorem wp_open {id:Nat} {a0:Act} {w:World} (n:Nat) (T:Bool×List (List Nat×List Nat)) (A:(Nat→Value)→Act) (v0:Nat→Value) (fact:Nat→Value→World→Prop) (B:World→Prop)
  (hm:P.follows .mixedOrders=true) (hn:ops.size=n+1) (hT:rtab .any ops=T) (hc:openOk T.2 n=true) (ha:a0=A v0) (hB0:B w.drew)
  (hfact:∀j,j < n→∀x w w',Below w.heap.size w w'→fact j x w→fact j x w')
  (hstep:∀i,i < n→∀v w,B w→(∀j∈needsT T.2 i,fact j (v j) w)→∀K,(∀x w',fact i x w'→B w'→Below w.heap.size w w'→K (A (upd v i x)) w')→wpOp P ops Q i K (A v) w)
  (hlast:∀v w,B w→(∀j∈needsT T.2 n,fact j (v j) w)→∀K,(∀a' w',Q .normal a' w'→K a' w')→wpOp P ops Q n K (A v) w):(Code.region id ops true).wp P Q a0 w:=by
 refine wp_region_any hm ?_
 subst ha
 have hTl:T.2.length=n+1:=by rw [←hT,rtab_length];exact hn
 have main:∀(fuel:Nat) (l:Array Bool) (v:Nat→Value) (w:World),B w→l.toList.length=n+1→(∀k,k≤n→l.toList.getD k false=true→∀j∈needsT T.2 k,l.toList.getD j false=true)→l.toList.getD n true=false→
   (∀j,l.toList.getD j false=true→fact j (v j) w)→l.toList.count false≤fuel→wpAny P .any ops Q fuel l (A v) w:=by
  intro fuel
  induction fuel with
  |zero=>
   intro l v w hB hl hcl hln hf hk
   exfalso
   have:false∈l.toList:=by
    rw [List.getD_eq_getElem?_getD,List.getElem?_eq_getElem (by omega)]at hln
    have h2:l.toList[n]'(by omega)=false:=hln
    rw [←h2];exact List.getElem_mem _
   have:=List.count_pos_iff.2 this
   omega
  |succ fuel ih=>
   intro l v w hB hl hcl hln hf hk
   have hready:∀i,i∈Region.ready .any ops l→i≤n∧readyAt T.2 l.toList i=true:=by
    intro i hi
    rw [ready_eq,hT]at hi
    unfold readyT at hi
    rw [List.mem_filter,List.mem_range,hTl]at hi
    exact⟨by omega,hi.2⟩
   refine⟨fun he=>absurd he ?_,fun i hi=> ?_⟩
   ·rw [ready_eq,hT];exact ready_some hTl hl hc hln
   ·obtain⟨hin,hr⟩:=hready i hi
    obtain⟨h1,h2⟩:=ready_needs hr
    have hil:i < l.toList.length:=by omega
    have hi0:l.toList[i]=false:=by rw [List.getD_eq_getElem?_getD,List.getElem?_eq_getElem hil]at h1;exact h1
    by_cases e:i=n
    ·subst e
     refine hlast v w hB (fun j hj=>hf j (h2 j hj)) _ (fun a' w' hQ=>wpAny_nil ?_ hQ fuel)
     rw [ready_eq,hT]
     refine ready_nil hTl (fun j hj=> ?_)
     rw [Array.toList_setIfInBounds,List.getD_eq_getElem?_getD]
     by_cases ej:j=i
     ·subst ej;rw [List.getElem?_set_self (by omega)];rfl
     ·rw [List.getElem?_set_ne (Ne.symm ej)]
      have:=all_listed hc hcl (fun j hj=>h2 j hj) (i-j) j (by omega) (Nat.le_refl _)
      rw [List.getD_eq_getElem?_getD,List.getElem?_eq_getElem (by omega)]at this
      rw [List.getElem?_eq_getElem (by omega)]
      exact this
    ·refine hstep i (by omega) v w hB (fun j hj=>hf j (h2 j hj)) _ (fun x w' hx hB' hb=> ?_)
     refine ih (l.setIfInBounds i true) (upd v i x) w' hB' (by rw [Array.toList_setIfInBounds,List.length_set];exact hl) (fun k hkn hk1 j hj=> ?_) ?_ (fun j hj=> ?_) ?_
     ·rw [Array.toList_setIfInBounds]at hk1 ⊢
      rw [List.getD_eq_getElem?_getD]at hk1 ⊢
      by_cases ej:i=j
      ·subst ej;rw [List.getElem?_set_self hil];rfl
      ·rw [List.getElem?_set_ne ej]
       by_cases ek:i=k
       ·subst ek
        have:=h2 j hj
        rwa [List.getD_eq_getElem?_getD]at this
       ·rw [List.getElem?_set_ne ek]at hk1
        have:=hcl k hkn (by rw [List.getD_eq_getElem?_getD];exact hk1) j hj
        rwa [List.getD_eq_getElem?_getD]at this
     ·rw [Array.toList_setIfInBounds,List.getD_eq_getElem?_getD,List.getElem?_set_ne e]
      rwa [List.getD_eq_getElem?_getD]at hln
     ·by_cases ej:j=i
      ·subst ej;rw [upd_same];exact hx
      ·rw [upd_other ej]
       rw [Array.toList_setIfInBounds,List.getD_eq_getElem?_getD,List.getElem?_set_ne (Ne.symm ej)]at hj
       have hjn:j < n:=by
        have h5:j < l.toList.length:=by
         cases hq:l.toList[j]? with
         |none=>rw [hq]at hj;cases hj
         |some b=>exact(List.getElem?_eq_some_iff.1 hq).1
        have h6:j≠n:=by
         rintro rfl
         rw [List.getD_eq_getElem?_getD,List.getElem?_eq_getElem h5]at hln
         rw [List.getElem?_eq_getElem h5]at hj
         exact absurd (hj.symm.trans hln) (by decide)
        omega
       exact hfact j hjn _ w w' hb (hf j (by rw [List.getD_eq_getElem?_getD];exact hj))
     ·rw [Array.toList_setIfInBounds,List.count_set hil,hi0]
      have:0 < l.toList.count false:=List.count_pos_iff.2 (by rw [←hi0];exact List.getElem_mem _)
      rw [if_pos (by rfl),if_neg (by decide)]
      omega
 rw [hn]
 refine main (n+1) _ v0 _ hB0 (by simp) (fun k hk h=> ?_) ?_ (fun j hj=> ?_) ?_
 ·exfalso
  simp [List.getD_eq_getElem?_getD,List.getElem?_replicate]at h
  split at h<;>simp at h
 ·simp [List.getD_eq_getElem?_getD]
 ·exfalso
  simp [List.getD_eq_getElem?_getD,List.getElem?_replicate]at hj
  split at hj<;>simp at hj
 ·simp
end
theorem needs_mem {T:List (List Nat×List Nat)} {i j:Nat} (h:(needsT T i).contains j=true):j∈needsT T i:=by
 rwa [List.contains_iff_mem]at h
theorem wanted_g {o:Oper} {y:Nat→Option Bool} {j:Nat} {b:Bool} (hg:o.guard=some (j,b)) (hy:y j=some b):Region.wanted o y=true:=by
 unfold Region.wanted;rw [hg];show(y j==some b)=true;rw [hy];simp
theorem yv {x:Value} {b:Bool} (h:x= .bool b):(match some x with|some (.bool b)=>some b|_=>none)=some b:=by rw [h]
theorem unwanted_g {o:Oper} {y:Nat→Option Bool} {j:Nat} {b c:Bool} (hg:o.guard=some (j,b)) (hy:y j=some c) (h:c≠b):Region.wanted o y=false:=by
 unfold Region.wanted;rw [hg];show(y j==some b)=false;rw [hy];simpa using h
end Go.Proofs.Ytjifalohjlihaaa.Q
end
section
namespace Go.Proofs.Ytjifalohjlihaaa.Q
set_option linter.unusedVariables false
open Go.RowKit Go.Proofs.YtjifalohjlihaaaW.PrintWords Go.Proofs.YtjifalohjlihaaaW.PrintLast Go.Proofs.YtjifalohjlihaaaW.PrintMore
def noDefer (ops:List Oper):Bool:=ops.all fun o=>match o.op with| .defer _=>false|_=>true
theorem noDefer_at {ops:List Oper} (h:noDefer ops=true) {o:Oper} (ho:o∈ops):∀c,o.op≠ .defer c:=by
 intro c e
 have:=List.all_eq_true.1 h o ho
 rw [e]at this
 cases this
section
variable {n L:Nat} {P:Program} {Q:Exit→Act→World→Prop}
theorem rowsIn_round {row:String} {args:Array Value} {w:World} {R:Value→World→Prop} (h:Rows P row args w R):RowsIn (Fence.wide.inRound L) n P row args w R:=
 fun c cs _=>let ⟨v,w',r,s⟩:=h c cs;⟨v,w',r,stepsIn_wide.2 s⟩
theorem callsIn_round {f:FuncId} {args:Array Value} {w:World} {R:Ending→World→Prop} (h:Calls P f args w R):CallsIn (Fence.wide.inRound L) n P f args w R:=
 CallsIn.inRound L (callsIn_wide.2 h)
theorem opIn_round {o:Oper} {a:Act} {w:World} {K:Act→World→Prop} (hd:∀c,o.op≠ .defer c) (h:o.wp P a w K Q):o.wpIn (Fence.wide.inRound L) n P a w K Q:=by
 refine⟨fun _ _=>trivial,?_⟩
 rw [Oper.semAt_eq _ _ _ hd]
 unfold Oper.wp at h
 generalize (execOp a.eval o).run P w=r at h ⊢
 cases r with
 |ok x w'=>
  cases x<;>first|exact h|exact⟨fun hh=>by simp [Fence.wide]at hh,callsIn_round h⟩|exact⟨fun hh=>by simp [Fence.wide]at hh,rowsIn_round h⟩|exact h.elim
 |halt x w'=>
  cases x<;>first|exact h|exact h.elim
theorem wpOpIn_round {ops:Array Oper} (hd:noDefer ops.toList=true) (hL:¬LetsOut Q) {i:Nat} {a:Act} {w:World} {K K':Act→World→Prop} (hK:∀a w,K a w→K' a w) (h:wpOp P ops Q i K a w):wpOpIn (Fence.wide.inRound L) n P ops Q i K' a w:=by
 unfold wpOp at h
 unfold wpOpIn
 split
 ·rename_i ho;simp only [ho]at h;exact hK _ _ h
 ·rename_i o ho
  simp only [ho]at h
  have hm:o∈ops.toList:=by rw [←Array.getElem?_toList]at ho;exact List.mem_of_getElem? ho
  split
  ·rename_i hw
   simp only [hw,if_true]at h
   rcases h with h|h
   ·exact Oper.wpIn_mono hK (opIn_round (noDefer_at hd hm) h)
   ·exact absurd h.2 hL
  ·rename_i hw
   simp only [hw]at h
   exact⟨fun _ _=>trivial,hK _ _ h⟩
theorem wpAnyIn_round {ops:Array Oper} {md:Region.Mode} (hd:noDefer ops.toList=true) (hL:¬LetsOut Q):∀(fuel:Nat) (listed:Array Bool) (a:Act) (w:World),wpAny P md ops Q fuel listed a w→wpAnyIn (Fence.wide.inRound L) n P md ops Q fuel listed a w
 |0,_,_,_,h=>h
 |fuel+1,_,_,_,h=>⟨h.1,fun i hi=>wpOpIn_round hd hL (fun a w=>wpAnyIn_round hd hL fuel _ a w) (h.2 i hi)⟩
theorem region_round {ops:Array Oper} {id:Nat} {a:Act} {w:World} (hm:P.follows .mixedOrders=true) (hd:noDefer ops.toList=true) (hL:¬LetsOut Q)
  (h:wpAny P .any ops Q ops.size (Array.replicate ops.size false) a {w with drawn:=w.drawn+1}):(Code.region id ops true).wpIn (Fence.wide.inRound L) n P Q a w:=
 wpIn_region_any hm (wpAnyIn_round hd hL _ _ _ _ h)
theorem quiet_round {ops:Array Oper} {C:World→Prop} {id:Nat} {a:Act} {w:World} (hm:P.follows .mixedOrders=true) (hB:Region.lexB .any ops=true) (hd:noDefer ops.toList=true) (hL:¬LetsOut Q) (hC:C {w with drawn:=w.drawn+1})
  (h:wpQuiet P ops C (fun a'=>∀w',C w'→Q .normal a' w') ops.toList a):(Code.region id ops true).wpIn (Fence.wide.inRound L) n P Q a w:=by
 simp only [Region.lexB,Bool.and_eq_true]at hB
 refine region_round hm hd hL (wpAny_of_quiet (Q:=fun a'=>∀w',C w'→Q .normal a' w') (fun _ w' hw' h=>h w' hw') _ _ _ _ hC ?_)
 have:=wpAnyQ_lex (C:=C) (md:= .any) hB.1 ops.toList 0 (Array.replicate ops.size false) a (by simp) (by simpa using hB.2) h
 simpa using this
theorem last_round {ops:Array Oper} {S:World→Prop} {ds:List Nat} {id k:Nat} {a:Act} {w:World} (l:Array Bool) (hm:P.follows .mixedOrders=true) (hd:noDefer ops.toList=true) (hL:¬LetsOut Q) (hn:ops.size=k) (hl:Array.replicate k false=l) (hS:S w.drew)
  (h:S w.drew→wpAnyLast P .any ops Q S ds k l a w.drew):(Code.region id ops true).wpIn (Fence.wide.inRound L) n P Q a w:=by
 subst hn
 subst hl
 exact region_round hm hd hL (wpAny_of_last _ _ _ _ (h hS))
end
structure Turn (Own:Nat→Prop) (X Y:World):Prop where
 size:X.heap.size≤Y.heap.size
 block:∀k,k < X.heap.size→¬Own k→Y.heap[k]? =X.heap[k]?
 os:Y.os=X.os
 tape:Y.tape=X.tape
 output:Y.output=X.output
theorem Turn.refl (Own:Nat→Prop) (X:World):Turn Own X X:=⟨Nat.le_refl _,fun _ _ _=>rfl,rfl,rfl,rfl⟩
theorem Turn.trans {Own:Nat→Prop} {X Y Z:World} (h:Turn Own X Y) (k:Turn Own Y Z):Turn Own X Z:=
 ⟨Nat.le_trans h.size k.size,fun j hj ho=>(k.block j (Nat.lt_of_lt_of_le hj h.size) ho).trans (h.block j hj ho),k.os.trans h.os,k.tape.trans h.tape,k.output.trans h.output⟩
theorem Turn.mono {Own Own':Nat→Prop} {X Y:World} (h:Turn Own X Y) (hs:∀k,Own k→Own' k):Turn Own' X Y:=⟨h.size,fun k hk ho=>h.block k hk (fun hh=>ho (hs k hh)),h.os,h.tape,h.output⟩
theorem Turn.of_below {Own:Nat→Prop} {X Y:World} (h:Below X.heap.size X Y):Turn Own X Y:=⟨h.size,fun k hk _=>h.block k hk,h.os,h.tape,h.output⟩
theorem Turn.below {Own:Nat→Prop} {B:Nat} {w X Y:World} (h:Below B w X) (ht:Turn Own X Y) (ho:∀k,Own k→B≤k) (hB:B≤X.heap.size):Below B w Y:=by
 refine⟨ht.os.trans h.os,ht.tape.trans h.tape,ht.output.trans h.output,Nat.le_trans h.size ht.size,fun k hk=> ?_⟩
 exact(ht.block k (Nat.lt_of_lt_of_le hk hB) (fun hh=>by have:=ho k hh;omega)).trans (h.block k hk)
theorem Turn.set {Own:Nat→Prop} {X:World} {a:Addr} (h:Own a.block) (v:Value):Turn Own X (X.setCell a v):=
 ⟨by rw [World.size_setCell];exact Nat.le_refl _,fun k hk ho=>Below.heap_setCell X a v k (fun e=>ho (e▸h)),rfl,rfl,rfl⟩
theorem Turn.put {Own:Nat→Prop} {X:World} {l:Nat} (h:Own l) (o:Obj):Turn Own X (X.putObj l o):=
 ⟨by simp [World.putObj],fun k hk ho=>World.putObj_heap_other (fun e=>ho (by rw [e];exact h)),rfl,rfl,rfl⟩
def KeepOwn (Own:Nat→Prop) (X Y:World):Prop:=∀k,Own k→k < X.heap.size→Y.heap[k]? =X.heap[k]?
def SeqZ (P:Program) (gf:Nat) (lb:Array Value) (T:List (List Int)) (w:World):Prop:=
 ∀(l:Nat) (J Jx:(Nat→Prop)→List (List Int)→World→Prop) (W:World),Below w.heap.size w W→
  (∀Own X,(∀k,Own k→W.heap.size≤k)→(∀k,Own k→k < X.heap.size)→Turn Own W X→J Own [] X)→
  (∀Own s X Y,(∀k,Own k→W.heap.size≤k)→J Own s X→Turn Own X Y→J Own s Y)→
  (∀Own s X Y,(∀k,Own k→W.heap.size≤k)→Jx Own s X→Turn Own X Y→Jx Own s Y)→
  (∀Own pre x X,(∀k,Own k→W.heap.size≤k)→J Own pre X→(pre++ [x]) <+:T→W.heap.size≤X.heap.size→YieldAt Fence.wide 1 P l #[.agg (lit11 x)] X fun e Y=>
   (e= .returned (.bool true)∧J Own (pre++ [x]) Y∧KeepOwn Own X Y)∨(e= .returned (.bool false)∧Jx Own (pre++ [x]) Y))→
  CallsIn Fence.wide 1 P gf (#[.func (.yield l) #[] #[]]++lb) W fun e W'=>(∃v,e= .returned v)∧
   ((∃Own,(∀k,Own k→W.heap.size≤k)∧J Own T W')∨(∃Own pre,(∀k,Own k→W.heap.size≤k)∧pre <+:T∧Jx Own pre W'))
def postZ (Own:Nat→Prop) (I Ix:List (List Int)→World→Prop) (xs:List (List Int)) (W:World):Exit→Act→World→Prop
 | .normal,_,W'=>KeepOwn Own W W'∧I xs W'
 | .ret,_,W'=>KeepOwn Own W W'∧Ix xs W'
 |_,_,_=>False
theorem rangeZ {P:Program} {g:Operand} {p:Tmp} {assign body:Code} {Q:Exit→Act→World→Prop} {a:Act} {w:World} {gf:Nat} {lb:Array Value}
  (hg:a.eval g= .func (.func gf) #[] lb) (eg:∀args w,(callFunc gf args).run P w= .ok (.enter gf args) w)
  {T:List (List Int)} {w0:World} (hseq:SeqZ P gf lb T w0) (hb0:Below w0.heap.size w0 w)
  (I Ix:(Nat→Prop)→List (List Int)→World→Prop) (Ax:(Nat→Prop)→List (List Int)→List Int→Act→World→Prop)
  (h0:∀Own X,(∀k,Own k→w.heap.size≤k)→(∀k,Own k→k < X.heap.size)→Turn Own w X→I Own [] X)
  (hI:∀Own s X Y,(∀k,Own k→w.heap.size≤k)→I Own s X→Turn Own X Y→I Own s Y)
  (hIx:∀Own s X Y,(∀k,Own k→w.heap.size≤k)→Ix Own s X→Turn Own X Y→Ix Own s Y)
  (hAx:∀Own s x a' X Y,(∀k,Own k→w.heap.size≤k)→Ax Own s x a' X→Turn Own X Y→Ax Own s x a' Y)
  (hassign:∀(Own:Nat→Prop) (l:Nat) (pre:List (List Int)) (x:List Int) (X:World) (K:Act→World→Prop),(∀k,Own k→w.heap.size≤k)→I Own pre X→(pre++ [x]) <+:T→w.heap.size≤X.heap.size→(∀a' X',KeepOwn Own X X'→Ax Own pre x a' X'→K a' X')→
   assign.wpIn (Fence.wide.inRound l) 1 P (Exit.then K (fun _ _ _=>False)) {tmps:=a.tmps.setIfInBounds p (.agg (lit11 x)),defers:= []} X)
  (hbody:∀(Own:Nat→Prop) (l:Nat) (pre:List (List Int)) (x:List Int) (a':Act) (X:World),(∀k,Own k→w.heap.size≤k)→Ax Own pre x a' X→(pre++ [x]) <+:T→body.wpIn (Fence.wide.inRound l) 1 P (postZ Own (I Own) (Ix Own) (pre++ [x]) X) a' X)
  (hdone:∀(Own:Nat→Prop) (D:Nat) (X:World),(∀k,Own k→w.heap.size≤k)→w.heap.size≤D→Own D→I Own T X→X.heap[D]? =some (.deferred (some []))→Q .normal {a with defers:= {target:= .collected D,args:=#[]}::a.defers} X)
  (hstop:∀(Own:Nat→Prop) (D:Nat) (pre:List (List Int)) (X:World),(∀k,Own k→w.heap.size≤k)→w.heap.size≤D→Own D→pre <+:T→Ix Own pre X→X.heap[D]? =some (.deferred (some []))→Code.ret.wpIn Fence.wide 2 P Q {a with defers:= {target:= .collected D,args:=#[]}::a.defers} X):
  (Code.rangeFunc g #[p] assign body).wp P Q a w:=by
 refine wpIn_wide.1 (wpIn_rangeFunc (n:=2) ?_)
 intro fn hfn
 obtain⟨rec,hrec⟩:∃rec:LoopState→Option Code→Loop,rec=fun st pe=> {state:=st,pending:=pe,fn,tmps:=a.tmps,params:=#[p],assign,body,defers:=w.heap.size}:=⟨_,rfl⟩
 obtain⟨W1,hW1⟩:∃W1,(w.alloc (.deferred (some []))).alloc (.loop (rec .ready none))=W1:=⟨_,rfl⟩
 have hL1:W1.heap[w.heap.size+1]? =some (.loop (rec .ready none)):=by
  rw [←hW1];have:=World.alloc_heap_new (w.alloc (.deferred (some []))) (.loop (rec .ready none));rwa [World.size_alloc]at this
 have hK1:W1.heap[w.heap.size]? =some (.deferred (some [])):=by
  rw [←hW1];exact(Below.heap_alloc _ _ _ (by simp)).trans (World.alloc_heap_new w _)
 have hbw:Below w.heap.size w W1:=by rw [←hW1];exact((Below.refl _ w).alloc (Nat.le_refl _) _).alloc (by simp) _
 have hsz:W1.heap.size=w.heap.size+2:=by rw [←hW1];simp
 obtain⟨up,hup⟩:∃up:(Nat→Prop)→Nat→Prop,up=fun Own k=>Own k∨k=w.heap.size∨k=w.heap.size+1:=⟨_,rfl⟩
 have upge:∀Own:Nat→Prop,(∀k,Own k→W1.heap.size≤k)→∀k,up Own k→w.heap.size≤k:=by
  intro Own ho k hk
  rw [hup]at hk
  rcases hk with hk|hk|hk
  ·have:=ho k hk;omega
  ·omega
  ·omega
 refine⟨w.heap.size+1,[{target:= .collected w.heap.size,args:=#[]}],W1,{target:= .fn (.func gf) lb,args:=#[.func (.yield (w.heap.size+1)) #[] #[]]},W1,gf,
  #[.func (.yield (w.heap.size+1)) #[] #[]]++lb,W1,?_,?_,?_,?_,fun hh=>by simp [Fence.wide]at hh,?_⟩
 ·rw [←hW1,hrec];exact run_enterLoop_outer _ _ _ _ _
 ·simp only [resolve,hg]
  simp [go_sem]
 ·intro f' hf';trivial
 ·simp [invoke,go_sem,eg]
 ·refine(hseq (w.heap.size+1)
   (fun Own pre W=>w.heap.size≤W.heap.size∧I (up Own) pre W∧W.heap[w.heap.size+1]? =some (.loop (rec .ready none))∧W.heap[w.heap.size]? =some (.deferred (some [])))
   (fun Own pre W=>Ix (up Own) pre W∧W.heap[w.heap.size+1]? =some (.loop (rec .done (some .ret)))∧W.heap[w.heap.size]? =some (.deferred (some [])))
   W1 (hb0.trans (hbw.mono hb0.size)) ?_ ?_ ?_ ?_).mono ?_
  ·intro Own X ho hlt ht
   have n1:¬Own (w.heap.size+1):=fun hh=>by have:=ho _ hh;omega
   have n2:¬Own w.heap.size:=fun hh=>by have:=ho _ hh;omega
   refine⟨by have:=ht.size;omega,h0 _ _ (upge Own ho) (fun k hk=>by rw [hup]at hk;have:=ht.size;rcases hk with hk|hk|hk<;>first|exact hlt k hk|omega) ((Turn.of_below hbw).trans (ht.mono (fun k hk=>by rw [hup];exact .inl hk))),(ht.block _ (by omega) n1).trans hL1,(ht.block _ (by omega) n2).trans hK1⟩
  ·intro Own s X Y ho ⟨hx,hi,hl,hk⟩ ht
   have n1:¬Own (w.heap.size+1):=fun hh=>by have:=ho _ hh;omega
   have n2:¬Own w.heap.size:=fun hh=>by have:=ho _ hh;omega
   refine⟨by have:=ht.size;omega,hI _ _ _ _ (upge Own ho) hi (ht.mono (fun k hk=>by rw [hup];exact .inl hk)),(ht.block _ (Array.getElem?_eq_some_iff.1 hl).1 n1).trans hl,(ht.block _ (Array.getElem?_eq_some_iff.1 hk).1 n2).trans hk⟩
  ·intro Own s X Y ho ⟨hi,hl,hk⟩ ht
   have n1:¬Own (w.heap.size+1):=fun hh=>by have:=ho _ hh;omega
   have n2:¬Own w.heap.size:=fun hh=>by have:=ho _ hh;omega
   refine⟨hIx _ _ _ _ (upge Own ho) hi (ht.mono (fun k hk=>by rw [hup];exact .inl hk)),(ht.block _ (Array.getElem?_eq_some_iff.1 hl).1 n1).trans hl,(ht.block _ (Array.getElem?_eq_some_iff.1 hk).1 n2).trans hk⟩
  ·intro Own pre x X ho ⟨hx,hi,hl,hk⟩ hpre hXs
   have hy:=run_yield (P:=P) (args:=#[.agg (lit11 x)]) hl (by rw [hrec];rfl)
   rw [hrec]at hy
   refine⟨fn,_,assign,body,hy,roundIn_of_wpIn hfn ?_⟩
   have o1:up Own (w.heap.size+1):=by rw [hup];exact .inr (.inr rfl)
   have o2:up Own w.heap.size:=by rw [hup];exact .inr (.inl rfl)
   have hps:(((#[p]:Array Tmp).zip #[.agg (lit11 x)]).foldl (fun (tmps:Array Value) (t,a)=>tmps.setIfInBounds t a) a.tmps)=a.tmps.setIfInBounds p (.agg (lit11 x)):=by simp
   rw [hps]
   refine hassign (up Own) _ pre x X _ (upge Own ho) hi hpre (by omega) ?_
   intro a' Wa hka hax
   have hlt:w.heap.size+1 < X.heap.size:=(Array.getElem?_eq_some_iff.1 hl).1
   have hla:=(hka _ o1 hlt).trans hl
   have hka2:=(hka _ o2 (by omega)).trans hk
   refine⟨_,run_beginRound hla (by rw [hrec]),?_⟩
   have hlta:w.heap.size+1 < Wa.heap.size:=(Array.getElem?_eq_some_iff.1 hla).1
   have hl2:(Wa.putObj (w.heap.size+1) (.loop {rec .ready none with state:= .busy})).heap[w.heap.size+1]? =some (.loop {rec .ready none with state:= .busy}):=World.putObj_heap_same hlta
   have hk2:(Wa.putObj (w.heap.size+1) (.loop {rec .ready none with state:= .busy})).heap[w.heap.size]? =some (.deferred (some [])):=(World.putObj_heap_other (by omega)).trans hka2
   refine wpIn_mono (hbody (up Own) _ pre x a' _ (upge Own ho) (hAx _ _ _ _ _ _ (upge Own ho) hax (Turn.put o1 _)) hpre) ?_
   have fin:∀(jump:Option Code) (W3:World),KeepOwn (up Own) (Wa.putObj (w.heap.size+1) (.loop {rec .ready none with state:= .busy})) W3→
     (Instr.endRound (w.heap.size+1) jump).run P W3= .ok (.bool jump.isNone) (W3.putObj (w.heap.size+1) (.loop (rec (if jump.isNone then .ready else .done) jump)))∧
     (W3.putObj (w.heap.size+1) (.loop (rec (if jump.isNone then .ready else .done) jump))).heap[w.heap.size+1]? =some (.loop (rec (if jump.isNone then .ready else .done) jump))∧
     (W3.putObj (w.heap.size+1) (.loop (rec (if jump.isNone then .ready else .done) jump))).heap[w.heap.size]? =some (.deferred (some []))∧w.heap.size≤W3.heap.size:=fun jump W3 hk3=>by
    have hl3:=(hk3 _ o1 (Array.getElem?_eq_some_iff.1 hl2).1).trans hl2
    have hk4:=(hk3 _ o2 (Array.getElem?_eq_some_iff.1 hk2).1).trans hk2
    have hr:=run_endRound (P:=P) jump hl3
    have h3:=(Array.getElem?_eq_some_iff.1 hl3).1
    rw [hrec]at hr ⊢
    exact⟨hr,World.putObj_heap_same h3,(World.putObj_heap_other (by omega)).trans hk4,by omega⟩
   have keep:∀(o':Obj) (W3:World),KeepOwn (up Own) (Wa.putObj (w.heap.size+1) (.loop {rec .ready none with state:= .busy})) W3→KeepOwn Own X (W3.putObj (w.heap.size+1) o'):=by
    intro o' W3 hk3 k hok hklt
    have hko:up Own k:=by rw [hup];exact .inl hok
    have hne:k≠w.heap.size+1:=fun e=>by have:=ho k hok;omega
    have a1:=hka k hko hklt
    have hkwa:k < Wa.heap.size:=by
     have hx1:X.heap[k]? =some X.heap[k]:=Array.getElem?_eq_getElem hklt
     rw [hx1]at a1
     exact(Array.getElem?_eq_some_iff.1 a1).1
    have a2:=hk3 k hko (by simp [World.putObj];exact hkwa)
    rw [World.putObj_heap_other hne]at a2
    rw [World.putObj_heap_other hne,a2,a1]
   rintro e a3 W3 hp
   cases e with
   |normal=>
    obtain⟨hk3,hi3⟩:=hp
    obtain⟨hr,hl4,hk4,hs4⟩:=fin none W3 hk3
    exact⟨_,_,hr,.inl ⟨rfl,⟨by simp [World.putObj];exact hs4,hI _ _ _ _ (upge Own ho) hi3 (Turn.put o1 _),hl4,hk4⟩,keep _ _ hk3⟩⟩
   |ret=>
    obtain⟨hk3,hi3⟩:=hp
    obtain⟨hr,hl4,hk4,hs4⟩:=fin (some .ret) W3 hk3
    exact⟨_,_,hr,.inr ⟨rfl,hIx _ _ _ _ (upge Own ho) hi3 (Turn.put o1 _),hl4,hk4⟩⟩
   |exit id=>exact hp.elim
   |goto t=>exact hp.elim
   |panic ch=>exact hp.elim
   |outgrown=>exact hp.elim
  ·rintro e W2 ⟨⟨v,rfl⟩,(⟨Own,ho,hx,hi,hl,hk⟩|⟨Own,pre,ho,hSp,hi,hl,hk⟩)⟩
   ·have o1:up Own (w.heap.size+1):=by rw [hup];exact .inr (.inr rfl)
    have o2:up Own w.heap.size:=by rw [hup];exact .inr (.inl rfl)
    exact⟨none,_,by have:=run_endLoop (P:=P) hl (by rw [hrec];simp);rw [hrec]at this;exact this,hdone (up Own) _ _ (upge Own ho) (Nat.le_refl _) o2 (hI _ _ _ _ (upge Own ho) hi (Turn.put o1 _)) ((World.putObj_heap_other (by omega)).trans hk)⟩
   ·have o1:up Own (w.heap.size+1):=by rw [hup];exact .inr (.inr rfl)
    have o2:up Own w.heap.size:=by rw [hup];exact .inr (.inl rfl)
    exact⟨some .ret,_,by have:=run_endLoop (P:=P) hl (by rw [hrec];simp);rw [hrec]at this;exact this,hstop (up Own) _ pre _ (upge Own ho) (Nat.le_refl _) o2 hSp (hIx _ _ _ _ (upge Own ho) hi (Turn.put o1 _)) ((World.putObj_heap_other (by omega)).trans hk)⟩
end Go.Proofs.Ytjifalohjlihaaa.Q
end
section
namespace Go.Proofs.Ytjifalohjlihaaa.Q
set_option linter.unusedVariables false
open Go.RowKit Go.Proofs.YtjifalohjlihaaaW.PrintWords Go.Proofs.YtjifalohjlihaaaW.PrintLast Go.Proofs.YtjifalohjlihaaaW.PrintMore
attribute [local go_sem] max2_int min2_int max_two min_two max_three min_three max_four min_four
def leftSeq (ns:List Int) (draft:Int):Int→Int→Nat→List Int
 |_,_,0=> []
 |d,w,k+1=>mx 0 (w-rd ns d-draft)::leftSeq ns draft (d+1) (mx 0 (w-rd ns d-draft)) k
def SL.left (l:SL) (ns:List Int) (cake shelf:Int):List Int:=
 leftSeq ns (rd_T135 l.l2 shelf).f1 (rd_T126 l.l3 cake).f0 (rd ns (l.a0+1+cake)) (l.a0+1-(rd_T126 l.l3 cake).f0).toNat
structure LeftOk (l:SL) (ns:List Int) (cake shelf:Int):Prop where
 len:ns.length=11
 c0:0≤cake
 c1:cake < l.l3.length
 c5:cake < 5
 s0:0≤shelf
 s1:shelf < l.l2.length
 last0:0≤l.a0
 last5:l.a0≤5
 come0:0≤(rd_T126 l.l3 cake).f0
 come1:(rd_T126 l.l3 cake).f0≤l.a0
 small:∀i,0≤rd ns i∧rd ns i≤40
 draft0:0≤(rd_T135 l.l2 shelf).f1
 draft4:(rd_T135 l.l2 shelf).f1≤4
theorem left_step {acc:List Int} {ns:List Int} {draft d w last:Int} {r:List Int} (h:acc++leftSeq ns draft d w (last+1-d).toNat=r) (hd:d≤last):
  acc++ [mx 0 (w-rd ns d-draft)]++leftSeq ns draft (d+1) (mx 0 (w-rd ns d-draft)) (last+1-(d+1)).toNat=r:=by
 rw [←h,show(last+1-d).toNat=(last+1-(d+1)).toNat+1 by omega,leftSeq,List.append_assoc]
 rfl
theorem left_end {acc:List Int} {ns:List Int} {draft d w last:Int} {r:List Int} (h:acc++leftSeq ns draft d w (last+1-d).toNat=r) (hd:last < d):acc=r:=by
 rw [←h,show(last+1-d).toNat=0 by omega,leftSeq,List.append_nil]
theorem mx_small {a b c:Int} (h0:0≤a) (h1:a≤40) (h2:0≤b) (h3:0≤c):0≤mx 0 (a-b-c)∧mx 0 (a-b-c)≤40:=by
 unfold mx;omega
set_option maxRecDepth 100000 in
set_option maxHeartbeats 1600000 in
theorem L_left.calls (x:SA) (l:SL) (ns:List Int) (cake shelf:Int) (w:World) (hr:Rd w x l) (hk:LeftOk l ns cake shelf):
  Calls Try.prog 94 #[.agg (x.cells l),.agg (nums .i64 ns).toArray,.agg #[.int .i64 cake,.int .i64 shelf]] w fun e w'=>∃v0_:Value,e= .returned v0_∧Kd.R (Kd.int .i64) 3 w' w.heap.size (fun _=>True) v0_ (l.left ns cake shelf)∧Below w.heap.size w w':=by
 obtain⟨A1,c1,A2,c2,A3,c3,A4,c4,A5,c5⟩:=x
 obtain⟨adB,eB,hB0,hB1⟩:=at_T135 hr.r2 shelf hk.s0 hk.s1
 obtain⟨adC,eC,hC0,hC1,hC2,hC3⟩:=at_T126 hr.r3 cake hk.c0 hk.c1
 have HB:=Aside0.mk (Below.refl w.heap.size w)
 obtain⟨len,k0,k1,k5,s0,s1,la0,la5,co0,co1,sm,dr0,dr4⟩:=hk
 simp only at eB eC
 subst eB eC
 clear hr hB0 hC1 hC2 hC3
 have LEN:=Aside0.mk len
 have SM:=Aside0.mk sm
 clear len sm
 go_enter Try.func94,Try.ntmps94
 have hsz:(nums .i64 ns).toArray.size=11:=by rw [nums_size];exact LEN.out
 go_wp2_with (first|((with_reducible refine gate_dst (N:=3) rfl ?_);refine box_event ?hg (N:=3) ?hd (cs:=#[.int .i64 l.a0,.slice A1 l.l1.length c1,.slice (some adB) l.l2.length c2,.slice (some adC) l.l3.length c3,.slice A4 l.l4.length c4,.slice A5 l.l5.length c5]) (t:=39) ?hr ?_;(case hd=>rfl);(case hg=>rfl);(case hr=>first|(go_simp;done)|(go_simp;rfl));intro g3 hg_ w3 hbx_ hb_;have BK3:=Aside0.mk hbx_;have g3ge:w.heap.size≤g3:=(by have:=below_size HB.out;omega);have g3GE:=Aside0.mk g3ge;clear g3ge;have HBn:=Aside0.mk (below_step HB.out hb_);clear HB hg_ hb_ hbx_;have HB:=HBn;clear HBn)|((with_reducible refine gate_dst (N:=4) rfl ?_);refine box_event ?hg (N:=4) ?hd (cs:=(nums .i64 ns).toArray) (t:=147) ?hr ?_;(case hd=>rfl);(case hg=>rfl);(case hr=>first|(go_simp;done)|(go_simp;rfl));intro g4 hg_ w4 hbx_ hb_;have BK4:=Aside0.mk hbx_;have g4ge:w.heap.size≤g4:=(by have:=below_size HB.out;omega);have g4GE:=Aside0.mk g4ge;clear g4ge;have HBn:=Aside0.mk (below_step HB.out hb_);have z_:=Aside0.mk (blk_below BK3.out hb_);clear BK3;have BK3:=z_;clear z_;clear HB hg_ hb_ hbx_;have HB:=HBn;clear HBn)|((with_reducible refine gate_dst (N:=5) rfl ?_);refine box_event ?hg (N:=5) ?hd (cs:=#[.int .i64 cake,.int .i64 shelf]) (t:=134) ?hr ?_;(case hd=>rfl);(case hg=>rfl);(case hr=>first|(go_simp;done)|(go_simp;rfl));intro g5 hg_ w5 hbx_ hb_;have BK5:=Aside0.mk hbx_;have g5ge:w.heap.size≤g5:=(by have:=below_size HB.out;omega);have g5GE:=Aside0.mk g5ge;clear g5ge;have HBn:=Aside0.mk (below_step HB.out hb_);have z_:=Aside0.mk (blk_below BK3.out hb_);clear BK3;have BK3:=z_;clear z_;have z_:=Aside0.mk (blk_below BK4.out hb_);clear BK4;have BK4:=z_;clear z_;clear HB hg_ hb_ hbx_;have HB:=HBn;clear HBn;clear hsz;have f30:w5.cell? ⟨g3,0,none⟩=some (.int .i64 l.a0):=(blk_cell BK3.out 0).trans rfl;have f33:w5.cell? ⟨g3,3,none⟩=some (.slice (some adC) l.l3.length c3):=(blk_cell BK3.out 3).trans rfl;have f50:w5.cell? ⟨g5,0,none⟩=some (.int .i64 cake):=(blk_cell BK5.out 0).trans rfl;have fn:w5.cell? ⟨g4,(l.a0+1+cake).toNat,none⟩=some (.int .i64 (rd ns (l.a0+1+cake))):=(blk_cell BK4.out _).trans (nums_at ns _ (by omega) (by rw [LEN.out];omega));have fC:=(HB.out.cell (World.block_lt_of_cell? w _ hC0)).trans hC0))
 clear f30 f33 f50 fn fC
 have sm0:=SM.out (l.a0+1+cake)
 obtain⟨sm1,sm2⟩:=sm0
 go_loopw [6,7,8] (fun v6 v7 v8 wr=>∃(acc:List Int) (wt d:Int),v7= .int .i64 wt∧v8= .int .i64 d∧0≤d∧d≤l.a0+1∧0≤wt∧wt≤40∧Aside0 ((acc.length:Int)≤d)∧Aside0 (acc++leftSeq ns (rd_T135 l.l2 shelf).f1 d wt (l.a0+1-d).toNat=l.left ns cake shelf)∧Aside0 (Kd.R (Kd.int .i64) 3 wr w.heap.size (fun _=>True) v6 acc)∧Aside0 (wr.heap[g3]? =some (.cells #[.int .i64 l.a0,.slice A1 l.l1.length c1,.slice (some adB) l.l2.length c2,.slice (some adC) l.l3.length c3,.slice A4 l.l4.length c4,.slice A5 l.l5.length c5] 39 (0,0)))∧Aside0 (wr.heap[g4]? =some (.cells (nums .i64 ns).toArray 147 (0,0)))∧Aside0 (wr.heap[g5]? =some (.cells #[.int .i64 cake,.int .i64 shelf] 134 (0,0)))∧Aside0 (Below w.heap.size w wr)) (fun _ _ v8 _=>(l.a0+1-intOf v8).toNat)
 case atStart=>exact⟨[],_,_,rfl,rfl,by omega,by omega,by omega,by omega,⟨by simpa using co0⟩,⟨rfl⟩,⟨Kd.R_nil _ _ _ _ _⟩,BK3,BK4,BK5,HB⟩
 case round=>
  clear BK3 BK4 BK5 HB
  obtain⟨acc,wt,d,rfl,rfl,hd0,hd1,hw0,hw1,HL,HA,HO,BK3,BK4,BK5,HB⟩:=hrel
  have f30:wr.cell? ⟨g3,0,none⟩=some (.int .i64 l.a0):=(blk_cell BK3.out 0).trans rfl
  by_cases hle:d≤l.a0
  ·have f32:wr.cell? ⟨g3,2,none⟩=some (.slice (some adB) l.l2.length c2):=(blk_cell BK3.out 2).trans rfl
   have f51:wr.cell? ⟨g5,1,none⟩=some (.int .i64 shelf):=(blk_cell BK5.out 1).trans rfl
   have fd:wr.cell? ⟨g4,d.toNat,none⟩=some (.int .i64 (rd ns d)):=(blk_cell BK4.out _).trans (nums_at ns _ hd0 (by rw [LEN.out];omega))
   have fB:=(HB.out.cell (World.block_lt_of_cell? w _ hB1)).trans hB1
   obtain⟨smd1,smd2⟩:=SM.out d
   obtain⟨mx1,mx2⟩:=mx_small (b:=rd ns d) (c:=(rd_T135 l.l2 shelf).f1) hw0 hw1 smd1 dr0
   go_wp2_with fail
   go_quiet (fail)
   have hm:(if (rd_T135 l.l2 shelf).f1 < wt-rd ns d then wt-rd ns d-(rd_T135 l.l2 shelf).f1 else 0)=mx 0 (wt-rd ns d-(rd_T135 l.l2 shelf).f1):=by unfold mx;split<;>(split<;>omega)
   rw [hm]
   have HA2:=Aside0.mk (left_step HA.out hle)
   obtain⟨m,hmm⟩:∃m,m=mx 0 (wt-rd ns d-(rd_T135 l.l2 shelf).f1):=⟨_,rfl⟩
   rw [←hmm]at mx1 mx2 HA2 ⊢
   clear hm hmm HA f30 f32 f51 fd fB
   have HL2:=Aside0.mk (show(acc.length+1)*8≤140737488355328 by have:=HL.out;omega)
   go_wp2_with (first|((with_reducible refine gate_builtin (b:= .append) (xs:=#[.tmp 44,.tmp 46]) rfl ?_);at_builtin;refine Kd.R_append (Kd.int .i64) (w0:=w) w.heap.size rfl (.tmp 44) (.tmp 46) 25 3 (.int .i64 0) 8 rfl Try.underlying25 info3 rfl (by decide) (by omega) u6 acc m [.int .i64 m] (fun _=>True) (fun _=>False) rfl (by first|(go_simp;done)|(go_simp;rfl)) rfl (fun _ hk=>hk.elim) (fun _ _=>trivial) (Kd.R_drewN HO.out nq) (pw_below_drewN HB.out nq) (below_size (pw_below_drewN HB.out nq)) HL2.out ?_;intro v17 w12 ho hb hg hat;have z_:=Aside0.mk (blk_grown (w:=wr.drewN nq) BK3.out hg (Kd.R_ne HO.out BK3.out (by decide)));clear BK3;have BK3:=z_;clear z_;have z_:=Aside0.mk (blk_grown (w:=wr.drewN nq) BK4.out hg (Kd.R_ne HO.out BK4.out (by decide)));clear BK4;have BK4:=z_;clear z_;have z_:=Aside0.mk (blk_grown (w:=wr.drewN nq) BK5.out hg (Kd.R_ne HO.out BK5.out (by decide)));clear BK5;have BK5:=z_;clear z_;have HO2:=Aside0.mk ho;have HB2:=Aside0.mk hb;clear ho hb hg hat HO HB))
   go_roundw
   case measure=>simp [intOf];omega
   case rel=>exact⟨acc++ [m],m,d+1,rfl,rfl,by omega,by omega,mx1,mx2,⟨by have:=HL.out;simp;omega⟩,HA2,HO2,BK3,BK4,BK5,HB2⟩
  ·go_wp2
   go_ret
   obtain rfl:=left_end HA.out (by omega)
   exact⟨_,rfl,HO.out,HB.out⟩
theorem leftOk {l:SL} {ns:List Int} {cake shelf:Int} (hv:Valid l) (hn:Num ns) (c0:0≤cake) (c1:cake < l.l3.length) (s0:0≤shelf) (s1:shelf < l.l2.length):LeftOk l ns cake shelf:=
 have h3:=hv.cake5
 have hc:=hv.cakes cake c0 c1
 have hs:=hv.shelves shelf s0 s1
 ⟨hn.len,c0,c1,by omega,s0,s1,hv.last0,hv.last5,hc.1,hc.2.1,hn.small,hs.2.2.1,hs.2.2.2⟩
theorem L_left.lit (x:SA) (l:SL) (ns:List Int) (cake shelf:Int) (w:World) (hr:Rd w x l) (hk:LeftOk l ns cake shelf):
  Calls Try.prog 94 #[.agg (x.cells l),.agg (lit11 ns),.agg #[.int .i64 cake,.int .i64 shelf]] w fun e w'=>∃v0_:Value,e= .returned v0_∧Kd.R (Kd.int .i64) 3 w' w.heap.size (fun _=>True) v0_ (l.left ns cake shelf)∧Below w.heap.size w w':=by
 have h:=L_left.calls x l ns cake shelf w hr hk
 rw [nums_lit hk.len]at h
 exact h
theorem leftSeq_length (ns:List Int) (draft:Int) (k:Nat):∀d w,(leftSeq ns draft d w k).length=k:=by
 induction k with
 |zero=>intro d w;rfl
 |succ k ih=>intro d w;simp [leftSeq,ih]
theorem left_length (l:SL) (ns:List Int) (cake shelf:Int):(l.left ns cake shelf).length=(l.a0+1-(rd_T126 l.l3 cake).f0).toNat:=leftSeq_length _ _ _ _ _
end Go.Proofs.Ytjifalohjlihaaa.Q
end
section
namespace Go.Proofs.Ytjifalohjlihaaa.Q
set_option linter.unusedVariables false
open Go.RowKit Go.Proofs.YtjifalohjlihaaaW.PrintWords Go.Proofs.YtjifalohjlihaaaW.PrintLast Go.Proofs.YtjifalohjlihaaaW.PrintMore
attribute [local go_sem] max2_int min2_int max_two min_two max_three min_three max_four min_four
theorem wrap64_small {i:Int} (h0:0≤i) (h1:i≤4611686018427387904):wrap64 i=i:=by unfold wrap64;omega
theorem index_from (l:List Int) (a:Int) (hl:l.length≤1000000) (d:Nat):∀(k:Nat) (i:Int),0≤i→i≤l.length→(l.length:Int)-i=d→d < k→
  ∃r,slices_Index_int_int.l0 k l a l.length i=some r∧(r≥0↔a∈l.drop i.toNat):=by
 induction d with
 |zero=>
  intro k i h0 h1 hd hk
  obtain⟨k,rfl⟩:∃m,k=m+1:=⟨k-1,by omega⟩
  refine⟨-1,by simp only [slices_Index_int_int.l0];rw [if_neg (by omega)],?_⟩
  rw [List.drop_of_length_le (by omega)];simp
 |succ d ih=>
  intro k i h0 h1 hd hk
  obtain⟨k,rfl⟩:∃m,k=m+1:=⟨k-1,by omega⟩
  have hlt:i <(l.length:Int):=by omega
  have hn:i.toNat < l.length:=by omega
  have hg:rd l i=l[i.toNat]:=by simp [rd,List.getElem?_eq_getElem hn]
  have hdr:l.drop i.toNat=l[i.toNat]::l.drop (i.toNat+1):=List.drop_eq_getElem_cons hn
  by_cases e:a=rd l i
  ·refine⟨i,by simp only [slices_Index_int_int.l0];rw [if_pos hlt,if_pos h0,if_pos hlt,if_pos e],?_⟩
   rw [hdr,←hg,←e];simp;exact h0
  ·obtain⟨r,hr,h⟩:=ih k (i+1) (by omega) (by omega) (by omega) (by omega)
   refine⟨r,?_,?_⟩
   ·simp only [slices_Index_int_int.l0];rw [if_pos hlt,if_pos h0,if_pos hlt,if_neg e,wrap64_small (by omega) (by omega)];exact hr
   ·rw [h,hdr,show(i+1).toNat=i.toNat+1 by omega,List.mem_cons,←hg]
    constructor
    ·exact fun h=> .inr h
    ·rintro(h|h)
     ·exact absurd h e
     ·exact h
theorem contains_some (l:List Int) (a:Int) (hl:l.length≤1000000):slices_Contains_int_int.f (l.length+1) l a=some (decide (a∈l)):=by
 obtain⟨r,hr,h⟩:=index_from l a hl l.length (l.length+1) 0 (by omega) (by omega) (by omega) (by omega)
 unfold slices_Contains_int_int.f slices_Index_int_int.f
 rw [hr]
 simp only [Option.bind_some,h]
 simp
theorem has_some (lo hi n:Int):shelf_Range_has.f lo hi n=some (decide (lo≤n∧n≤hi)):=by
 unfold shelf_Range_has.f shelf_within.f
 by_cases h:lo≤n
 ·rw [if_pos h];simp [h]
 ·rw [if_neg h];simp [h]
def SL.rightAt (l:SL) (ns:List Int) (j:Int):Prop:=
 (rd_T137 l.l5 j).f2.f0≤rd (l.left ns (rd_T137 l.l5 j).f0 (rd l.l4 (rd_T137 l.l5 j).f0)) ((rd_T137 l.l5 j).f1-(rd_T126 l.l3 (rd_T137 l.l5 j).f0).f0)∧
 rd (l.left ns (rd_T137 l.l5 j).f0 (rd l.l4 (rd_T137 l.l5 j).f0)) ((rd_T137 l.l5 j).f1-(rd_T126 l.l3 (rd_T137 l.l5 j).f0).f0)≤(rd_T137 l.l5 j).f2.f1
instance (l:SL) (ns:List Int) (j:Int):Decidable (l.rightAt ns j):=by unfold SL.rightAt;infer_instance
def SL.right (l:SL) (ns out:List Int):Bool:=decide (∀j:Nat,j < l.l5.length→(j:Int)∈out∨l.rightAt ns j)
theorem right_step {l:SL} {ns out:List Int} {i:Int} (h:∀j:Nat,(j:Int) < i→(j:Int)∈out∨l.rightAt ns j) (hi:i∈out∨l.rightAt ns i):∀j:Nat,(j:Int) < i+1→(j:Int)∈out∨l.rightAt ns j:=by
 intro j hj
 by_cases e:(j:Int)=i
 ·rw [e];exact hi
 ·exact h j (by omega)
theorem right_all {l:SL} {ns out:List Int} {i:Int} (h:∀j:Nat,(j:Int) < i→(j:Int)∈out∨l.rightAt ns j) (hi:(l.l5.length:Int)≤i):l.right ns out=true:=by
 unfold SL.right
 exact decide_eq_true (fun j hj=>h j (by omega))
theorem right_not {l:SL} {ns out:List Int} {i:Int} (h0:0≤i) (h1:i < l.l5.length) (hi:i ∉ out) (hr:¬l.rightAt ns i):l.right ns out=false:=by
 unfold SL.right
 refine decide_eq_false (fun h=> ?_)
 have:=h i.toNat (by omega)
 rw [Int.toNat_of_nonneg h0]at this
 rcases this with a|a
 ·exact hi a
 ·exact hr a
set_option maxRecDepth 100000 in
set_option maxHeartbeats 3200000 in
theorem L_right.calls (x:SA) (l:SL) (ns:List Int) (B:Option Addr) (cB:Nat) (out:List Int) (w:World) (hr:Rd w x l) (hv:Valid l) (hn:Num ns) (hB:Kd.C (Kd.int .i64) w B out.length out) (hcB:out.length≤cB) (hol:out.length≤1000000):
  Calls Try.prog 96 #[.agg (x.cells l),.agg (lit11 ns),.slice B out.length cB] w fun e w'=>e= .returned (.bool (l.right ns out))∧Below w.heap.size w w':=by
 obtain⟨A1,c1,A2,c2,A3,c3,A4,c4,A5,c5⟩:=x
 have HR:=Aside0.mk hr
 have HV:=Aside0.mk hv
 have HN:=Aside0.mk hn
 have HO:=Aside0.mk hB
 have HCB:=Aside0.mk hcB
 have HOL:=Aside0.mk hol
 have HB:=Aside0.mk (Below.refl w.heap.size w)
 have h55:=hv.weight5
 clear hr hv hn hB hcB hol
 go_enter Try.func96,Try.ntmps96
 go_wp2_with (first|((with_reducible refine gate_dst (N:=3) rfl ?_);refine box_event ?hg (N:=3) ?hd (cs:=#[.int .i64 l.a0,.slice A1 l.l1.length c1,.slice A2 l.l2.length c2,.slice A3 l.l3.length c3,.slice A4 l.l4.length c4,.slice A5 l.l5.length c5]) (t:=39) ?hr ?_;(case hd=>rfl);(case hg=>rfl);(case hr=>first|(go_simp;done)|(go_simp;rfl));intro g3 hg_ w3 hbx_ hb_;have BK3:=Aside0.mk hbx_;have g3ge:w.heap.size≤g3:=(by have:=below_size HB.out;omega);have g3GE:=Aside0.mk g3ge;clear g3ge;have HBn:=Aside0.mk (below_step HB.out hb_);clear HB hg_ hb_ hbx_;have HB:=HBn;clear HBn)|((with_reducible refine gate_dst (N:=4) rfl ?_);refine box_event ?hg (N:=4) ?hd (cs:=lit11 ns) (t:=147) ?hr ?_;(case hd=>rfl);(case hg=>rfl);(case hr=>first|(go_simp;done)|(go_simp;rfl));intro g4 hg_ w4 hbx_ hb_;have BK4:=Aside0.mk hbx_;have g4ge:w.heap.size≤g4:=(by have:=below_size HB.out;omega);have g4GE:=Aside0.mk g4ge;clear g4ge;have HBn:=Aside0.mk (below_step HB.out hb_);have z_:=Aside0.mk (blk_below BK3.out hb_);clear BK3;have BK3:=z_;clear z_;clear HB hg_ hb_ hbx_;have HB:=HBn;clear HBn;have f35:w4.cell? ⟨g3,5,none⟩=some (.slice A5 l.l5.length c5):=(blk_cell BK3.out 5).trans rfl))
 clear f35
 go_loopw [13] (fun v13 wr=>∃i:Int,v13= .int .i64 i∧0≤i∧i≤l.l5.length∧Aside0 (∀j:Nat,(j:Int) < i→(j:Int)∈out∨l.rightAt ns j)∧Aside0 (wr.heap[g3]? =some (.cells #[.int .i64 l.a0,.slice A1 l.l1.length c1,.slice A2 l.l2.length c2,.slice A3 l.l3.length c3,.slice A4 l.l4.length c4,.slice A5 l.l5.length c5] 39 (0,0)))∧Aside0 (wr.heap[g4]? =some (.cells (lit11 ns) 147 (0,0)))∧Aside0 (Below w.heap.size w wr)) (fun v13 _=>(l.l5.length-intOf v13).toNat)
 case atStart=>exact⟨0,rfl,by omega,by omega,⟨fun j hj=>by omega⟩,BK3,BK4,HB⟩
 case round=>
  clear BK3 BK4 HB
  obtain⟨i,rfl,hi0,hi1,HA,BK3,BK4,HB⟩:=hrel
  by_cases hlt:i < l.l5.length
  ·obtain⟨ad5,e5,fW0,fW1,fW2,fW3⟩:=at_T137 (HR.out.below HB.out).r5 i hi0 hlt
   have hw:=HV.out.weights i hi0 hlt
   obtain⟨ad4,e4,fP0⟩:=Kd.at_int HR.out.r4 (rd_T137 l.l5 i).f0 hw.1 (by rw [HV.out.put];exact hw.2.1)
   obtain⟨ad3,e3,fC0,_,_,_⟩:=at_T126 HR.out.r3 (rd_T137 l.l5 i).f0 hw.1 hw.2.1
   simp only at e3 e4 e5
   subst e3 e4 e5
   have HW:=Aside0.mk hw
   clear hw
   go_upto_region 4 with(fail)
   obtain⟨g8,hg_⟩:∃g_,g_=wr.heap.size:=⟨_,rfl⟩
   obtain⟨w8,hw_⟩:∃w_,w_=World.alloc wr (Obj.cells #[.int .i64 (rd_T137 l.l5 i).f0,.int .i64 (rd_T137 l.l5 i).f1,.int .i64 (rd_T137 l.l5 i).f2.f0,.int .i64 (rd_T137 l.l5 i).f2.f1] 137):=⟨_,rfl⟩
   have hb_:Below wr.heap.size wr w8:=by rw [hw_];exact below_alloc (Below.refl _ _) _
   have BK8:Aside0 (w8.heap[g8]? =some (Obj.cells #[.int .i64 (rd_T137 l.l5 i).f0,.int .i64 (rd_T137 l.l5 i).f1,.int .i64 (rd_T137 l.l5 i).f2.f0,.int .i64 (rd_T137 l.l5 i).f2.f1] 137)):=⟨by rw [hw_,hg_];exact blk_new _ _⟩
   have g8GE:Aside0 (w.heap.size≤g8):=⟨by have:=below_size HB.out;rw [hg_];exact this⟩
   replace BK3:=Aside0.mk (blk_below BK3.out hb_)
   replace BK4:=Aside0.mk (blk_below BK4.out hb_)
   replace HB:=Aside0.mk (below_step HB.out hb_)
   rw [←hw_,←hg_]
   clear hw_ hg_ hb_
   have fP8:=(HB.out.cell (World.block_lt_of_cell? w _ fP0)).trans fP0
   have fC8:=(HB.out.cell (World.block_lt_of_cell? w _ fC0)).trans fC0
   by_cases hin:i∈out
   ·have HIN:=Aside0.mk hin
    clear hin
    go_wp2_with (first|(go_at_call 120;refine(slices_Contains_int_int.calls (out.length+1) B cB out i true _ (Kd.C_below HO.out HB.out) HCB.out (by rw [contains_some _ _ HOL.out];simp [HIN.out])).mono ?_;rintro e w' ⟨rfl,⟨nd,rfl⟩⟩))
    go_roundw
    case measure=>simp [intOf];omega
    case rel=>exact⟨i+1,rfl,by omega,by omega,⟨right_step HA.out (.inl HIN.out)⟩,⟨by(with_reducible repeat(first|refine blk_drewN ?_ _|refine blk_drew ?_|refine blk_alloc ?_ _));exact BK3.out⟩,⟨by(with_reducible repeat(first|refine blk_drewN ?_ _|refine blk_drew ?_|refine blk_alloc ?_ _));exact BK4.out⟩,⟨by repeat(first|(with_reducible first|exact HB.out|apply below_alloc|apply pw_below_drewN|apply below_drew1)|exact HB.out)⟩⟩
   ·have HIN:=Aside0.mk hin
    clear hin
    go_wp2_with (first|(go_at_call 120;refine(slices_Contains_int_int.calls (out.length+1) B cB out i false _ (Kd.C_below HO.out HB.out) HCB.out (by rw [contains_some _ _ HOL.out];simp [HIN.out])).mono ?_;rintro e w' ⟨rfl,⟨nd,rfl⟩⟩))
    replace BK3:=Aside0.mk (show(w8.drewN nd).heap[g3]? =_ from BK3.out)
    replace BK4:=Aside0.mk (show(w8.drewN nd).heap[g4]? =_ from BK4.out)
    replace BK8:=Aside0.mk (show(w8.drewN nd).heap[g8]? =_ from BK8.out)
    replace fP8:(w8.drewN nd).cell? _=_:=fP8
    replace fC8:(w8.drewN nd).cell? _=_:=fC8
    replace HB:=Aside0.mk (pw_below_drewN HB.out nd)
    obtain⟨w9,hw_⟩:∃w_,w_=w8.drewN nd:=⟨_,rfl⟩
    rw [←hw_]at BK3 BK4 BK8 fP8 fC8 HB ⊢
    clear hw_
    have f30:w9.cell? ⟨g3,0,none⟩=some (.int .i64 l.a0):=(blk_cell BK3.out 0).trans rfl
    have f31:w9.cell? ⟨g3,1,none⟩=some (.slice A1 l.l1.length c1):=(blk_cell BK3.out 1).trans rfl
    have f32:w9.cell? ⟨g3,2,none⟩=some (.slice A2 l.l2.length c2):=(blk_cell BK3.out 2).trans rfl
    have f33:w9.cell? ⟨g3,3,none⟩=some (.slice (some ad3) l.l3.length c3):=(blk_cell BK3.out 3).trans rfl
    have f34:w9.cell? ⟨g3,4,none⟩=some (.slice (some ad4) l.l4.length c4):=(blk_cell BK3.out 4).trans rfl
    have f35:w9.cell? ⟨g3,5,none⟩=some (.slice (some ad5) l.l5.length c5):=(blk_cell BK3.out 5).trans rfl
    have f4_0:w9.cell? ⟨g4,0,none⟩=some (.int .i64 (rd ns 0)):=(blk_cell BK4.out 0).trans rfl
    have f4_1:w9.cell? ⟨g4,1,none⟩=some (.int .i64 (rd ns 1)):=(blk_cell BK4.out 1).trans rfl
    have f4_2:w9.cell? ⟨g4,2,none⟩=some (.int .i64 (rd ns 2)):=(blk_cell BK4.out 2).trans rfl
    have f4_3:w9.cell? ⟨g4,3,none⟩=some (.int .i64 (rd ns 3)):=(blk_cell BK4.out 3).trans rfl
    have f4_4:w9.cell? ⟨g4,4,none⟩=some (.int .i64 (rd ns 4)):=(blk_cell BK4.out 4).trans rfl
    have f4_5:w9.cell? ⟨g4,5,none⟩=some (.int .i64 (rd ns 5)):=(blk_cell BK4.out 5).trans rfl
    have f4_6:w9.cell? ⟨g4,6,none⟩=some (.int .i64 (rd ns 6)):=(blk_cell BK4.out 6).trans rfl
    have f4_7:w9.cell? ⟨g4,7,none⟩=some (.int .i64 (rd ns 7)):=(blk_cell BK4.out 7).trans rfl
    have f4_8:w9.cell? ⟨g4,8,none⟩=some (.int .i64 (rd ns 8)):=(blk_cell BK4.out 8).trans rfl
    have f4_9:w9.cell? ⟨g4,9,none⟩=some (.int .i64 (rd ns 9)):=(blk_cell BK4.out 9).trans rfl
    have f4_10:w9.cell? ⟨g4,10,none⟩=some (.int .i64 (rd ns 10)):=(blk_cell BK4.out 10).trans rfl
    have f80:w9.cell? ⟨g8,0,none⟩=some (.int .i64 (rd_T137 l.l5 i).f0):=(blk_cell BK8.out 0).trans rfl
    have hpl:(rd_T137 l.l5 i).f0 <(l.l4.length:Int):=by rw [HV.out.put];exact HW.out.2.1
    have hp0:=HW.out.1
    go_still_tail 11,(by kernel_rfl)
    change wpList _ _ _ _ _ w9.drew
    clear f30 f31 f32 f33 f34 f35 f4_0 f4_1 f4_2 f4_3 f4_4 f4_5 f4_6 f4_7 f4_8 f4_9 f4_10 f80 fP8 fW0 fW1 fW2 fW3
    replace BK3:=Aside0.mk (show(w9.drew).heap[g3]? =_ from BK3.out)
    replace BK4:=Aside0.mk (show(w9.drew).heap[g4]? =_ from BK4.out)
    replace BK8:=Aside0.mk (show(w9.drew).heap[g8]? =_ from BK8.out)
    replace fC8:(w9.drew).cell? _=_:=fC8
    replace HB:=Aside0.mk (below_drew1 HB.out)
    obtain⟨wa,hw_⟩:∃w_,w_=w9.drew:=⟨_,rfl⟩
    rw [←hw_]at BK3 BK4 BK8 fC8 HB ⊢
    clear hw_
    have hps:=HV.out.puts (rd_T137 l.l5 i).f0 hp0 hpl
    have HLO:=Aside0.mk (leftOk (shelf:=rd l.l4 (rd_T137 l.l5 i).f0) HV.out HN.out hp0 HW.out.2.1 hps.1 hps.2)
    clear hps
    go_wp2_with (first|(go_at_call 94;refine(L_left.lit ⟨A1,c1,A2,c2,some ad3,c3,some ad4,c4,some ad5,c5⟩ l ns _ _ _ (HR.out.below HB.out) HLO.out).mono ?_;rintro e wb ⟨v0,rfl,ho,hb⟩;obtain⟨AL,cL,rfl,hle,hC⟩:=Kd.R_reads ho;have HC:=Aside0.mk hC;have HLE:=Aside0.mk hle;have HBL:=Aside0.mk hb;clear ho hb hC hle))
    replace BK3:=Aside0.mk (blk_below BK3.out HBL.out)
    replace BK4:=Aside0.mk (blk_below BK4.out HBL.out)
    replace BK8:=Aside0.mk (blk_below BK8.out HBL.out)
    replace fC8:=(HBL.out.cell (World.block_lt_of_cell? wa _ fC8)).trans fC8
    replace HB:=Aside0.mk (below_step HB.out HBL.out)
    have hlen:=left_length l ns (rd_T137 l.l5 i).f0 (rd l.l4 (rd_T137 l.l5 i).f0)
    obtain⟨LL,hLL⟩:∃LL,LL=l.left ns (rd_T137 l.l5 i).f0 (rd l.l4 (rd_T137 l.l5 i).f0):=⟨_,rfl⟩
    rw [←hLL]at hlen HC HLE ⊢
    have HLL:=Aside0.mk hLL
    clear hLL HBL HLO
    obtain⟨hc1,hc2,hc3,hc4⟩:=HW.out
    have hcc:=HV.out.cakes (rd_T137 l.l5 i).f0 hc1 hc2
    obtain⟨hcc1,hcc2,_⟩:=hcc
    have hla:=HV.out.last5
    have hq0:0≤((rd_T137 l.l5 i).f1-(rd_T126 l.l3 (rd_T137 l.l5 i).f0).f0):=by omega
    have hq1:((rd_T137 l.l5 i).f1-(rd_T126 l.l3 (rd_T137 l.l5 i).f0).f0) < LL.length:=by rw [hlen];omega
    clear hlen
    obtain⟨adL,eL,fL⟩:=Kd.at_int HC.out ((rd_T137 l.l5 i).f1-(rd_T126 l.l3 (rd_T137 l.l5 i).f0).f0) hq0 hq1
    subst eL
    have f33:wb.cell? ⟨g3,3,none⟩=some (.slice (some ad3) l.l3.length c3):=(blk_cell BK3.out 3).trans rfl
    have f80:wb.cell? ⟨g8,0,none⟩=some (.int .i64 (rd_T137 l.l5 i).f0):=(blk_cell BK8.out 0).trans rfl
    have f81:wb.cell? ⟨g8,1,none⟩=some (.int .i64 (rd_T137 l.l5 i).f1):=(blk_cell BK8.out 1).trans rfl
    have f82:wb.cell? ⟨g8,2,none⟩=some (.int .i64 (rd_T137 l.l5 i).f2.f0):=(blk_cell BK8.out 2).trans rfl
    have f83:wb.cell? ⟨g8,3,none⟩=some (.int .i64 (rd_T137 l.l5 i).f2.f1):=(blk_cell BK8.out 3).trans rfl
    have hwr:IntKind.i64.wrap ((rd_T137 l.l5 i).f1-(rd_T126 l.l3 (rd_T137 l.l5 i).f0).f0)=((rd_T137 l.l5 i).f1-(rd_T126 l.l3 (rd_T137 l.l5 i).f0).f0):=IntWalk.i64_in _ (by omega)
    go_still_tail 15,(by kernel_rfl)
    change wpList _ _ _ _ _ wb.drew
    clear f33 f80 f81 f82 f83 fC8 fL hwr
    replace BK3:=Aside0.mk (show(wb.drew).heap[g3]? =_ from BK3.out)
    replace BK4:=Aside0.mk (show(wb.drew).heap[g4]? =_ from BK4.out)
    replace HB:=Aside0.mk (below_drew1 HB.out)
    obtain⟨wc,hw_⟩:∃w_,w_=wb.drew:=⟨_,rfl⟩
    rw [←hw_]at BK3 BK4 HB ⊢
    clear hw_
    by_cases hrt:l.rightAt ns i
    ·have HRT:=Aside0.mk hrt
     clear hrt
     go_wp2_with (first|(go_at_call 119;refine(shelf_Range_has.calls _ _ _ true _ (by rw [has_some];have:=HRT.out;unfold SL.rightAt at this;rw [←HLL.out]at this;exact congrArg some (decide_eq_true this))).mono ?_;rintro e wd ⟨rfl,hb⟩;have HBD:=Aside0.mk hb;clear hb))
     replace BK3:=Aside0.mk (blk_below BK3.out HBD.out)
     replace BK4:=Aside0.mk (blk_below BK4.out HBD.out)
     replace HB:=Aside0.mk (below_step HB.out HBD.out)
     go_roundw
     case measure=>simp [intOf];omega
     case rel=>exact⟨i+1,rfl,by omega,by omega,⟨right_step HA.out (.inr HRT.out)⟩,BK3,BK4,HB⟩
    ·have HRT:=Aside0.mk hrt
     clear hrt
     go_wp2_with (first|(go_at_call 119;refine(shelf_Range_has.calls _ _ _ false _ (by rw [has_some];have:=HRT.out;unfold SL.rightAt at this;rw [←HLL.out]at this;exact congrArg some (decide_eq_false this))).mono ?_;rintro e wd ⟨rfl,hb⟩;have HBD:=Aside0.mk hb;clear hb))
     go_ret
     exact⟨by rw [right_not hi0 hlt HIN.out HRT.out];rfl,below_step HB.out HBD.out⟩
  ·go_wp2
   go_ret
   exact⟨by rw [right_all HA.out (by omega)];rfl,HB.out⟩
end Go.Proofs.Ytjifalohjlihaaa.Q
end
section
namespace Go.Proofs.Ytjifalohjlihaaa.Q
set_option linter.unusedVariables false
open Go.RowKit Go.Proofs.YtjifalohjlihaaaW.PrintWords Go.Proofs.YtjifalohjlihaaaW.PrintLast Go.Proofs.YtjifalohjlihaaaW.PrintMore
def firstNot {α:Type} (ok:α→Bool):List α→Int→Int
 | [],_=> -1
 |x::t,i=>if ok x=true then firstNot ok t (i+1)else i
def allB {α:Type} (ok:α→Bool) (xs:List α):Bool:=xs.all ok
theorem firstNot_step {α:Type} {ok:α→Bool} {xs:List α} {i:Int} {z:α} {r:Int} (h0:0≤i) (h1:i < xs.length) (h:firstNot ok (xs.drop i.toNat) i=r):
  (ok (xs.getD i.toNat z)=true→firstNot ok (xs.drop (i+1).toNat) (i+1)=r)∧(ok (xs.getD i.toNat z)=false→r=i):=by
 have hn:i.toNat < xs.length:=by omega
 rw [List.drop_eq_getElem_cons hn]at h
 rw [List.getD_eq_getElem?_getD,List.getElem?_eq_getElem hn,Option.getD_some,show(i+1).toNat=i.toNat+1 by omega]
 simp only [firstNot]at h
 constructor
 ·intro e;rw [if_pos e]at h;exact h
 ·intro e;rw [if_neg (by simp [e])]at h;exact h.symm
theorem firstNot_neg' {α:Type} (ok:α→Bool) (xs:List α):∀i:Int,0≤i→(firstNot ok xs i < 0↔xs.all ok=true):=by
 induction xs with
 |nil=>intro i hi;simp [firstNot]
 |cons x t ih=>
  intro i hi
  simp only [firstNot,List.all_cons,Bool.and_eq_true]
  by_cases h:ok x=true
  ·rw [if_pos h,ih (i+1) (by omega)];simp [h]
  ·rw [if_neg h]
   constructor
   ·intro hh;omega
   ·intro hh;exact absurd hh.1 h
theorem firstNot_neg {α:Type} (ok:α→Bool) (xs:List α):firstNot ok xs 0 < 0↔allB ok xs=true:=firstNot_neg' ok xs 0 (by omega)
set_option maxRecDepth 100000 in
set_option maxHeartbeats 1600000 in
theorem all1_Range (g:Nat) (x:S56) (b:Bool) (w:World) (hg:w.cell? ⟨g,0,none⟩=some (.func (.func 100) #[] #[])) (hp:∀W,Below w.heap.size w W→Calls Try.prog 100 #[.agg #[.int .i64 x.f0,.int .i64 x.f1]] W fun e w'=>e= .returned (.bool b)∧Below W.heap.size W w'):
  Calls Try.prog 123 #[.agg #[.int .i64 x.f0,.int .i64 x.f1],.pointer (some ⟨g,0,none⟩)] w fun e w'=>e= .returned (.bool (!b))∧Below w.heap.size w w':=by
 have HP:=Aside0.mk hp
 have HB:=Aside0.mk (Below.refl w.heap.size w)
 clear hp
 go_enter Try.func123,Try.ntmps123
 go_wp2_with (first|((with_reducible refine gate_dst (N:=2) rfl ?_);refine box_event ?hg (N:=2) ?hd (cs:=#[.int .i64 x.f0,.int .i64 x.f1]) (t:=56) ?hr ?_;(case hd=>rfl);(case hg=>rfl);(case hr=>first|(go_simp;done)|(go_simp;rfl));intro g2 hg_ w2 hbx_ hb_;have BK2:=Aside0.mk hbx_;have g2ge:w.heap.size≤g2:=(by have:=below_size HB.out;omega);have g2GE:=Aside0.mk g2ge;clear g2ge;have HBn:=Aside0.mk (below_step HB.out hb_);clear HB hg_ hb_ hbx_;have HB:=HBn;clear HBn;have fg2:=(HB.out.cell (World.block_lt_of_cell? w _ hg)).trans hg;have f20:w2.cell? ⟨g2,0,none⟩=some (.int .i64 x.f0):=(blk_cell BK2.out 0).trans rfl;have f21:w2.cell? ⟨g2,1,none⟩=some (.int .i64 x.f1):=(blk_cell BK2.out 1).trans rfl)|(go_at_call 100;refine(HP.out _ HB.out).mono ?_;rintro e w' ⟨rfl,hb⟩;have HBn:=Aside0.mk (below_step HB.out hb);clear hb))
 go_ret
 exact⟨rfl,HBn.out⟩
set_option maxRecDepth 100000 in
set_option maxHeartbeats 1600000 in
theorem indexFunc_Range (g:Nat) (ok:S56→Bool) (A:Option Addr) (c:Nat) (xs:List S56) (w:World) (hr:Kd.C k56 w A xs.length xs) (hl:xs.length≤1000000)
  (hp:∀(j:Int) W,0≤j→j < xs.length→Below w.heap.size w W→Calls Try.prog 123 #[.agg #[.int .i64 (rd_T56 xs j).f0,.int .i64 (rd_T56 xs j).f1],.pointer (some ⟨g,0,none⟩)] W fun e w'=>e= .returned (.bool (!(ok (rd_T56 xs j))))∧Below W.heap.size W w'):
  Calls Try.prog 137 #[.slice A xs.length c,.func (.func 123) #[] #[.pointer (some ⟨g,0,none⟩)]] w fun e w'=>e= .returned (.int .i64 (firstNot ok xs 0))∧Below w.heap.size w w':=by
 have HR:=Aside0.mk hr
 have HP:=Aside0.mk hp
 have HB:=Aside0.mk (Below.refl w.heap.size w)
 clear hp hr
 go_enter Try.func137,Try.ntmps137
 go_wp2_with fail
 go_loopw [8] (fun v8 wr=>∃i:Int,v8= .int .i64 i∧0≤i∧i≤xs.length∧Aside0 (firstNot ok (xs.drop i.toNat) i=firstNot ok xs 0)∧Aside0 (Below w.heap.size w wr)) (fun v8 _=>(xs.length-intOf v8).toNat)
 case atStart=>exact⟨0,rfl,by omega,by omega,⟨rfl⟩,HB⟩
 case round=>
  clear HB
  obtain⟨i,rfl,hi0,hi1,HA,HB⟩:=hrel
  by_cases hlt:i < xs.length
  ·obtain⟨ad,e,fW0,fW1⟩:=at_T56 (Kd.C_below HR.out HB.out) i hi0 hlt
   subst e
   have hst:=firstNot_step (ok:=ok) (z:=z56) hi0 hlt HA.out
   have HST:=Aside0.mk hst
   clear hst
   cases hok:ok (rd_T56 xs i)with
   |true=>
    have HOK:=Aside0.mk hok
    clear hok
    go_wp2_with (first|(go_at_call 123;refine((HP.out i _ hi0 hlt HB.out).mono (R':=fun e w'=>e= .returned (.bool false)∧Below wr.heap.size wr w') (fun e w' h=>by rw [HOK.out]at h;exact h)).mono ?_;rintro e w' ⟨rfl,hb⟩;have HBn:=Aside0.mk (below_step HB.out hb);clear hb))
    go_roundw
    case measure=>simp [intOf];omega
    case rel=>exact⟨i+1,rfl,by omega,by omega,⟨HST.out.1 HOK.out⟩,HBn⟩
   |false=>
    have HOK:=Aside0.mk hok
    clear hok
    go_wp2_with (first|(go_at_call 123;refine((HP.out i _ hi0 hlt HB.out).mono (R':=fun e w'=>e= .returned (.bool true)∧Below wr.heap.size wr w') (fun e w' h=>by rw [HOK.out]at h;exact h)).mono ?_;rintro e w' ⟨rfl,hb⟩;have HBn:=Aside0.mk (below_step HB.out hb);clear hb))
    go_ret
    exact⟨by rw [HST.out.2 HOK.out];rfl,HBn.out⟩
  ·go_wp2
   go_ret
   exact⟨by rw [←HA.out,List.drop_of_length_le (by omega)];rfl,HB.out⟩
set_option maxRecDepth 100000 in
set_option maxHeartbeats 800000 in
theorem containsFunc_Range (g:Nat) (ok:S56→Bool) (A:Option Addr) (c:Nat) (xs:List S56) (w:World) (hr:Kd.C k56 w A xs.length xs) (hl:xs.length≤1000000)
  (hp:∀(j:Int) W,0≤j→j < xs.length→Below w.heap.size w W→Calls Try.prog 123 #[.agg #[.int .i64 (rd_T56 xs j).f0,.int .i64 (rd_T56 xs j).f1],.pointer (some ⟨g,0,none⟩)] W fun e w'=>e= .returned (.bool (!(ok (rd_T56 xs j))))∧Below W.heap.size W w'):
  Calls Try.prog 122 #[.slice A xs.length c,.func (.func 123) #[] #[.pointer (some ⟨g,0,none⟩)]] w fun e w'=>e= .returned (.bool (!(allB ok xs)))∧Below w.heap.size w w':=by
 have HI:=Aside0.mk (indexFunc_Range g ok A c xs w hr hl hp)
 clear hp hr
 go_enter Try.func122,Try.ntmps122
 cases hb:allB ok xs with
 |true=>
  have hn:firstNot ok xs 0 < 0:=(firstNot_neg ok xs).2 hb
  clear hb
  obtain⟨q,hq⟩:∃q,q=firstNot ok xs 0:=⟨_,rfl⟩
  rw [←hq]at HI hn
  clear hq
  have hd:decide (q≥0)=false:=decide_eq_false (by omega)
  go_wp2_with (first|(go_at_call 137;refine HI.out.mono ?_;rintro e w' ⟨rfl,hb⟩;have HBn:=Aside0.mk hb;clear hb))
  go_ret
  exact⟨rfl,HBn.out⟩
 |false=>
  have hn:0≤firstNot ok xs 0:=by
   rcases Int.lt_or_le (firstNot ok xs 0) 0 with h|h
   ·exact absurd ((firstNot_neg ok xs).1 h) (by rw [hb];decide)
   ·exact h
  clear hb
  obtain⟨q,hq⟩:∃q,q=firstNot ok xs 0:=⟨_,rfl⟩
  rw [←hq]at HI hn
  clear hq
  have hd:decide (q≥0)=true:=decide_eq_true (by omega)
  go_wp2_with (first|(go_at_call 137;refine HI.out.mono ?_;rintro e w' ⟨rfl,hb⟩;have HBn:=Aside0.mk hb;clear hb))
  go_ret
  exact⟨rfl,HBn.out⟩
set_option maxRecDepth 100000 in
set_option maxHeartbeats 1600000 in
theorem all_Range (ok:S56→Bool) (A:Option Addr) (c:Nat) (xs:List S56) (w:World) (hr:Kd.C k56 w A xs.length xs) (hl:xs.length≤1000000)
  (hp:∀(j:Int) W,0≤j→j < xs.length→Below w.heap.size w W→Calls Try.prog 100 #[.agg #[.int .i64 (rd_T56 xs j).f0,.int .i64 (rd_T56 xs j).f1]] W fun e w'=>e= .returned (.bool (ok (rd_T56 xs j)))∧Below W.heap.size W w'):
  Calls Try.prog 99 #[.slice A xs.length c,.func (.func 100) #[] #[]] w fun e w'=>e= .returned (.bool (allB ok xs))∧Below w.heap.size w w':=by
 have HR:=Aside0.mk hr
 have HP:=Aside0.mk hp
 have HB:=Aside0.mk (Below.refl w.heap.size w)
 clear hp hr
 go_enter Try.func99,Try.ntmps99
 go_wp2_with (first|((with_reducible refine gate_dst (N:=3) rfl ?_);refine box_event ?hg (N:=3) ?hd (cs:=#[.func (.func 100) #[] #[]]) (t:=156) ?hr ?_;(case hd=>rfl);(case hg=>rfl);(case hr=>first|(go_simp;done)|(go_simp;rfl));intro g3 hg_ w3 hbx_ hb_;have BK3:=Aside0.mk hbx_;have g3ge:w.heap.size≤g3:=(by have:=below_size HB.out;omega);have g3GE:=Aside0.mk g3ge;clear g3ge;have HBn:=Aside0.mk (below_step HB.out hb_);clear HB hg_ hb_ hbx_;have HB:=HBn;clear HBn)|(go_at_call 122;refine(containsFunc_Range g3 ok A c xs _ (Kd.C_below HR.out HB.out) hl (fun j W h0 h1 hb=>all1_Range g3 _ _ _ ((blk_cell (blk_below BK3.out hb) 0).trans rfl) (fun W2 hb2=>HP.out j W2 h0 h1 (below_step (below_step HB.out hb) hb2)))).mono ?_;rintro e w' ⟨rfl,hb⟩;have HBn:=Aside0.mk (below_step HB.out hb);clear hb))
 go_ret
 exact⟨rfl,HBn.out⟩
set_option maxRecDepth 100000 in
set_option maxHeartbeats 1600000 in
theorem all1_Board (g:Nat) (x:S135) (b:Bool) (w:World) (hg:w.cell? ⟨g,0,none⟩=some (.func (.func 102) #[] #[])) (hp:∀W,Below w.heap.size w W→Calls Try.prog 102 #[.agg #[.int .i64 x.f0,.int .i64 x.f1]] W fun e w'=>e= .returned (.bool b)∧Below W.heap.size W w'):
  Calls Try.prog 125 #[.agg #[.int .i64 x.f0,.int .i64 x.f1],.pointer (some ⟨g,0,none⟩)] w fun e w'=>e= .returned (.bool (!b))∧Below w.heap.size w w':=by
 have HP:=Aside0.mk hp
 have HB:=Aside0.mk (Below.refl w.heap.size w)
 clear hp
 go_enter Try.func125,Try.ntmps125
 go_wp2_with (first|((with_reducible refine gate_dst (N:=2) rfl ?_);refine box_event ?hg (N:=2) ?hd (cs:=#[.int .i64 x.f0,.int .i64 x.f1]) (t:=135) ?hr ?_;(case hd=>rfl);(case hg=>rfl);(case hr=>first|(go_simp;done)|(go_simp;rfl));intro g2 hg_ w2 hbx_ hb_;have BK2:=Aside0.mk hbx_;have g2ge:w.heap.size≤g2:=(by have:=below_size HB.out;omega);have g2GE:=Aside0.mk g2ge;clear g2ge;have HBn:=Aside0.mk (below_step HB.out hb_);clear HB hg_ hb_ hbx_;have HB:=HBn;clear HBn;have fg2:=(HB.out.cell (World.block_lt_of_cell? w _ hg)).trans hg;have f20:w2.cell? ⟨g2,0,none⟩=some (.int .i64 x.f0):=(blk_cell BK2.out 0).trans rfl;have f21:w2.cell? ⟨g2,1,none⟩=some (.int .i64 x.f1):=(blk_cell BK2.out 1).trans rfl)|(go_at_call 102;refine(HP.out _ HB.out).mono ?_;rintro e w' ⟨rfl,hb⟩;have HBn:=Aside0.mk (below_step HB.out hb);clear hb))
 go_ret
 exact⟨rfl,HBn.out⟩
set_option maxRecDepth 100000 in
set_option maxHeartbeats 1600000 in
theorem indexFunc_Board (g:Nat) (ok:S135→Bool) (A:Option Addr) (c:Nat) (xs:List S135) (w:World) (hr:Kd.C k135 w A xs.length xs) (hl:xs.length≤1000000)
  (hp:∀(j:Int) W,0≤j→j < xs.length→Below w.heap.size w W→Calls Try.prog 125 #[.agg #[.int .i64 (rd_T135 xs j).f0,.int .i64 (rd_T135 xs j).f1],.pointer (some ⟨g,0,none⟩)] W fun e w'=>e= .returned (.bool (!(ok (rd_T135 xs j))))∧Below W.heap.size W w'):
  Calls Try.prog 138 #[.slice A xs.length c,.func (.func 125) #[] #[.pointer (some ⟨g,0,none⟩)]] w fun e w'=>e= .returned (.int .i64 (firstNot ok xs 0))∧Below w.heap.size w w':=by
 have HR:=Aside0.mk hr
 have HP:=Aside0.mk hp
 have HB:=Aside0.mk (Below.refl w.heap.size w)
 clear hp hr
 go_enter Try.func138,Try.ntmps138
 go_wp2_with fail
 go_loopw [8] (fun v8 wr=>∃i:Int,v8= .int .i64 i∧0≤i∧i≤xs.length∧Aside0 (firstNot ok (xs.drop i.toNat) i=firstNot ok xs 0)∧Aside0 (Below w.heap.size w wr)) (fun v8 _=>(xs.length-intOf v8).toNat)
 case atStart=>exact⟨0,rfl,by omega,by omega,⟨rfl⟩,HB⟩
 case round=>
  clear HB
  obtain⟨i,rfl,hi0,hi1,HA,HB⟩:=hrel
  by_cases hlt:i < xs.length
  ·obtain⟨ad,e,fW0,fW1⟩:=at_T135 (Kd.C_below HR.out HB.out) i hi0 hlt
   subst e
   have hst:=firstNot_step (ok:=ok) (z:=z135) hi0 hlt HA.out
   have HST:=Aside0.mk hst
   clear hst
   cases hok:ok (rd_T135 xs i)with
   |true=>
    have HOK:=Aside0.mk hok
    clear hok
    go_wp2_with (first|(go_at_call 125;refine((HP.out i _ hi0 hlt HB.out).mono (R':=fun e w'=>e= .returned (.bool false)∧Below wr.heap.size wr w') (fun e w' h=>by rw [HOK.out]at h;exact h)).mono ?_;rintro e w' ⟨rfl,hb⟩;have HBn:=Aside0.mk (below_step HB.out hb);clear hb))
    go_roundw
    case measure=>simp [intOf];omega
    case rel=>exact⟨i+1,rfl,by omega,by omega,⟨HST.out.1 HOK.out⟩,HBn⟩
   |false=>
    have HOK:=Aside0.mk hok
    clear hok
    go_wp2_with (first|(go_at_call 125;refine((HP.out i _ hi0 hlt HB.out).mono (R':=fun e w'=>e= .returned (.bool true)∧Below wr.heap.size wr w') (fun e w' h=>by rw [HOK.out]at h;exact h)).mono ?_;rintro e w' ⟨rfl,hb⟩;have HBn:=Aside0.mk (below_step HB.out hb);clear hb))
    go_ret
    exact⟨by rw [HST.out.2 HOK.out];rfl,HBn.out⟩
  ·go_wp2
   go_ret
   exact⟨by rw [←HA.out,List.drop_of_length_le (by omega)];rfl,HB.out⟩
set_option maxRecDepth 100000 in
set_option maxHeartbeats 800000 in
theorem containsFunc_Board (g:Nat) (ok:S135→Bool) (A:Option Addr) (c:Nat) (xs:List S135) (w:World) (hr:Kd.C k135 w A xs.length xs) (hl:xs.length≤1000000)
  (hp:∀(j:Int) W,0≤j→j < xs.length→Below w.heap.size w W→Calls Try.prog 125 #[.agg #[.int .i64 (rd_T135 xs j).f0,.int .i64 (rd_T135 xs j).f1],.pointer (some ⟨g,0,none⟩)] W fun e w'=>e= .returned (.bool (!(ok (rd_T135 xs j))))∧Below W.heap.size W w'):
  Calls Try.prog 124 #[.slice A xs.length c,.func (.func 125) #[] #[.pointer (some ⟨g,0,none⟩)]] w fun e w'=>e= .returned (.bool (!(allB ok xs)))∧Below w.heap.size w w':=by
 have HI:=Aside0.mk (indexFunc_Board g ok A c xs w hr hl hp)
 clear hp hr
 go_enter Try.func124,Try.ntmps124
 cases hb:allB ok xs with
 |true=>
  have hn:firstNot ok xs 0 < 0:=(firstNot_neg ok xs).2 hb
  clear hb
  obtain⟨q,hq⟩:∃q,q=firstNot ok xs 0:=⟨_,rfl⟩
  rw [←hq]at HI hn
  clear hq
  have hd:decide (q≥0)=false:=decide_eq_false (by omega)
  go_wp2_with (first|(go_at_call 138;refine HI.out.mono ?_;rintro e w' ⟨rfl,hb⟩;have HBn:=Aside0.mk hb;clear hb))
  go_ret
  exact⟨rfl,HBn.out⟩
 |false=>
  have hn:0≤firstNot ok xs 0:=by
   rcases Int.lt_or_le (firstNot ok xs 0) 0 with h|h
   ·exact absurd ((firstNot_neg ok xs).1 h) (by rw [hb];decide)
   ·exact h
  clear hb
  obtain⟨q,hq⟩:∃q,q=firstNot ok xs 0:=⟨_,rfl⟩
  rw [←hq]at HI hn
  clear hq
  have hd:decide (q≥0)=true:=decide_eq_true (by omega)
  go_wp2_with (first|(go_at_call 138;refine HI.out.mono ?_;rintro e w' ⟨rfl,hb⟩;have HBn:=Aside0.mk hb;clear hb))
  go_ret
  exact⟨rfl,HBn.out⟩
set_option maxRecDepth 100000 in
set_option maxHeartbeats 1600000 in
theorem all_Board (ok:S135→Bool) (A:Option Addr) (c:Nat) (xs:List S135) (w:World) (hr:Kd.C k135 w A xs.length xs) (hl:xs.length≤1000000)
  (hp:∀(j:Int) W,0≤j→j < xs.length→Below w.heap.size w W→Calls Try.prog 102 #[.agg #[.int .i64 (rd_T135 xs j).f0,.int .i64 (rd_T135 xs j).f1]] W fun e w'=>e= .returned (.bool (ok (rd_T135 xs j)))∧Below W.heap.size W w'):
  Calls Try.prog 101 #[.slice A xs.length c,.func (.func 102) #[] #[]] w fun e w'=>e= .returned (.bool (allB ok xs))∧Below w.heap.size w w':=by
 have HR:=Aside0.mk hr
 have HP:=Aside0.mk hp
 have HB:=Aside0.mk (Below.refl w.heap.size w)
 clear hp hr
 go_enter Try.func101,Try.ntmps101
 go_wp2_with (first|((with_reducible refine gate_dst (N:=3) rfl ?_);refine box_event ?hg (N:=3) ?hd (cs:=#[.func (.func 102) #[] #[]]) (t:=158) ?hr ?_;(case hd=>rfl);(case hg=>rfl);(case hr=>first|(go_simp;done)|(go_simp;rfl));intro g3 hg_ w3 hbx_ hb_;have BK3:=Aside0.mk hbx_;have g3ge:w.heap.size≤g3:=(by have:=below_size HB.out;omega);have g3GE:=Aside0.mk g3ge;clear g3ge;have HBn:=Aside0.mk (below_step HB.out hb_);clear HB hg_ hb_ hbx_;have HB:=HBn;clear HBn)|(go_at_call 124;refine(containsFunc_Board g3 ok A c xs _ (Kd.C_below HR.out HB.out) hl (fun j W h0 h1 hb=>all1_Board g3 _ _ _ ((blk_cell (blk_below BK3.out hb) 0).trans rfl) (fun W2 hb2=>HP.out j W2 h0 h1 (below_step (below_step HB.out hb) hb2)))).mono ?_;rintro e w' ⟨rfl,hb⟩;have HBn:=Aside0.mk (below_step HB.out hb);clear hb))
 go_ret
 exact⟨rfl,HBn.out⟩
set_option maxRecDepth 100000 in
set_option maxHeartbeats 1600000 in
theorem all1_Cake (xa:SA) (l:SL) (g:Nat) (x:S126) (b:Bool) (w:World) (hg:w.cell? ⟨g,0,none⟩=some (.func (.func 97) #[.agg (xa.cells l)] #[])) (hp:∀W,Below w.heap.size w W→Calls Try.prog 97 #[.agg (xa.cells l),.agg #[.int .i64 x.f0,.int .i64 x.f1.f0,.int .i64 x.f1.f1,.int .i64 x.f2]] W fun e w'=>e= .returned (.bool b)∧Below W.heap.size W w'):
  Calls Try.prog 127 #[.agg #[.int .i64 x.f0,.int .i64 x.f1.f0,.int .i64 x.f1.f1,.int .i64 x.f2],.pointer (some ⟨g,0,none⟩)] w fun e w'=>e= .returned (.bool (!b))∧Below w.heap.size w w':=by
 have HP:=Aside0.mk hp
 have HB:=Aside0.mk (Below.refl w.heap.size w)
 clear hp
 go_enter Try.func127,Try.ntmps127
 go_wp2_with (first|((with_reducible refine gate_dst (N:=2) rfl ?_);refine box_event ?hg (N:=2) ?hd (cs:=#[.int .i64 x.f0,.int .i64 x.f1.f0,.int .i64 x.f1.f1,.int .i64 x.f2]) (t:=126) ?hr ?_;(case hd=>rfl);(case hg=>rfl);(case hr=>first|(go_simp;done)|(go_simp;rfl));intro g2 hg_ w2 hbx_ hb_;have BK2:=Aside0.mk hbx_;have g2ge:w.heap.size≤g2:=(by have:=below_size HB.out;omega);have g2GE:=Aside0.mk g2ge;clear g2ge;have HBn:=Aside0.mk (below_step HB.out hb_);clear HB hg_ hb_ hbx_;have HB:=HBn;clear HBn;have fg2:=(HB.out.cell (World.block_lt_of_cell? w _ hg)).trans hg;have f20:w2.cell? ⟨g2,0,none⟩=some (.int .i64 x.f0):=(blk_cell BK2.out 0).trans rfl;have f21:w2.cell? ⟨g2,1,none⟩=some (.int .i64 x.f1.f0):=(blk_cell BK2.out 1).trans rfl;have f22:w2.cell? ⟨g2,2,none⟩=some (.int .i64 x.f1.f1):=(blk_cell BK2.out 2).trans rfl;have f23:w2.cell? ⟨g2,3,none⟩=some (.int .i64 x.f2):=(blk_cell BK2.out 3).trans rfl)|(go_at_call 97;refine(HP.out _ HB.out).mono ?_;rintro e w' ⟨rfl,hb⟩;have HBn:=Aside0.mk (below_step HB.out hb);clear hb))
 go_ret
 exact⟨rfl,HBn.out⟩
set_option maxRecDepth 100000 in
set_option maxHeartbeats 1600000 in
theorem indexFunc_Cake (g:Nat) (ok:S126→Bool) (A:Option Addr) (c:Nat) (xs:List S126) (w:World) (hr:Kd.C k126 w A xs.length xs) (hl:xs.length≤1000000)
  (hp:∀(j:Int) W,0≤j→j < xs.length→Below w.heap.size w W→Calls Try.prog 127 #[.agg #[.int .i64 (rd_T126 xs j).f0,.int .i64 (rd_T126 xs j).f1.f0,.int .i64 (rd_T126 xs j).f1.f1,.int .i64 (rd_T126 xs j).f2],.pointer (some ⟨g,0,none⟩)] W fun e w'=>e= .returned (.bool (!(ok (rd_T126 xs j))))∧Below W.heap.size W w'):
  Calls Try.prog 139 #[.slice A xs.length c,.func (.func 127) #[] #[.pointer (some ⟨g,0,none⟩)]] w fun e w'=>e= .returned (.int .i64 (firstNot ok xs 0))∧Below w.heap.size w w':=by
 have HR:=Aside0.mk hr
 have HP:=Aside0.mk hp
 have HB:=Aside0.mk (Below.refl w.heap.size w)
 clear hp hr
 go_enter Try.func139,Try.ntmps139
 go_wp2_with fail
 go_loopw [8] (fun v8 wr=>∃i:Int,v8= .int .i64 i∧0≤i∧i≤xs.length∧Aside0 (firstNot ok (xs.drop i.toNat) i=firstNot ok xs 0)∧Aside0 (Below w.heap.size w wr)) (fun v8 _=>(xs.length-intOf v8).toNat)
 case atStart=>exact⟨0,rfl,by omega,by omega,⟨rfl⟩,HB⟩
 case round=>
  clear HB
  obtain⟨i,rfl,hi0,hi1,HA,HB⟩:=hrel
  by_cases hlt:i < xs.length
  ·obtain⟨ad,e,fW0,fW1,fW2,fW3⟩:=at_T126 (Kd.C_below HR.out HB.out) i hi0 hlt
   subst e
   have hst:=firstNot_step (ok:=ok) (z:=z126) hi0 hlt HA.out
   have HST:=Aside0.mk hst
   clear hst
   cases hok:ok (rd_T126 xs i)with
   |true=>
    have HOK:=Aside0.mk hok
    clear hok
    go_wp2_with (first|(go_at_call 127;refine((HP.out i _ hi0 hlt HB.out).mono (R':=fun e w'=>e= .returned (.bool false)∧Below wr.heap.size wr w') (fun e w' h=>by rw [HOK.out]at h;exact h)).mono ?_;rintro e w' ⟨rfl,hb⟩;have HBn:=Aside0.mk (below_step HB.out hb);clear hb))
    go_roundw
    case measure=>simp [intOf];omega
    case rel=>exact⟨i+1,rfl,by omega,by omega,⟨HST.out.1 HOK.out⟩,HBn⟩
   |false=>
    have HOK:=Aside0.mk hok
    clear hok
    go_wp2_with (first|(go_at_call 127;refine((HP.out i _ hi0 hlt HB.out).mono (R':=fun e w'=>e= .returned (.bool true)∧Below wr.heap.size wr w') (fun e w' h=>by rw [HOK.out]at h;exact h)).mono ?_;rintro e w' ⟨rfl,hb⟩;have HBn:=Aside0.mk (below_step HB.out hb);clear hb))
    go_ret
    exact⟨by rw [HST.out.2 HOK.out];rfl,HBn.out⟩
  ·go_wp2
   go_ret
   exact⟨by rw [←HA.out,List.drop_of_length_le (by omega)];rfl,HB.out⟩
set_option maxRecDepth 100000 in
set_option maxHeartbeats 800000 in
theorem containsFunc_Cake (g:Nat) (ok:S126→Bool) (A:Option Addr) (c:Nat) (xs:List S126) (w:World) (hr:Kd.C k126 w A xs.length xs) (hl:xs.length≤1000000)
  (hp:∀(j:Int) W,0≤j→j < xs.length→Below w.heap.size w W→Calls Try.prog 127 #[.agg #[.int .i64 (rd_T126 xs j).f0,.int .i64 (rd_T126 xs j).f1.f0,.int .i64 (rd_T126 xs j).f1.f1,.int .i64 (rd_T126 xs j).f2],.pointer (some ⟨g,0,none⟩)] W fun e w'=>e= .returned (.bool (!(ok (rd_T126 xs j))))∧Below W.heap.size W w'):
  Calls Try.prog 126 #[.slice A xs.length c,.func (.func 127) #[] #[.pointer (some ⟨g,0,none⟩)]] w fun e w'=>e= .returned (.bool (!(allB ok xs)))∧Below w.heap.size w w':=by
 have HI:=Aside0.mk (indexFunc_Cake g ok A c xs w hr hl hp)
 clear hp hr
 go_enter Try.func126,Try.ntmps126
 cases hb:allB ok xs with
 |true=>
  have hn:firstNot ok xs 0 < 0:=(firstNot_neg ok xs).2 hb
  clear hb
  obtain⟨q,hq⟩:∃q,q=firstNot ok xs 0:=⟨_,rfl⟩
  rw [←hq]at HI hn
  clear hq
  have hd:decide (q≥0)=false:=decide_eq_false (by omega)
  go_wp2_with (first|(go_at_call 139;refine HI.out.mono ?_;rintro e w' ⟨rfl,hb⟩;have HBn:=Aside0.mk hb;clear hb))
  go_ret
  exact⟨rfl,HBn.out⟩
 |false=>
  have hn:0≤firstNot ok xs 0:=by
   rcases Int.lt_or_le (firstNot ok xs 0) 0 with h|h
   ·exact absurd ((firstNot_neg ok xs).1 h) (by rw [hb];decide)
   ·exact h
  clear hb
  obtain⟨q,hq⟩:∃q,q=firstNot ok xs 0:=⟨_,rfl⟩
  rw [←hq]at HI hn
  clear hq
  have hd:decide (q≥0)=true:=decide_eq_true (by omega)
  go_wp2_with (first|(go_at_call 139;refine HI.out.mono ?_;rintro e w' ⟨rfl,hb⟩;have HBn:=Aside0.mk hb;clear hb))
  go_ret
  exact⟨rfl,HBn.out⟩
set_option maxRecDepth 100000 in
set_option maxHeartbeats 1600000 in
theorem all_Cake (xa:SA) (l:SL) (ok:S126→Bool) (A:Option Addr) (c:Nat) (xs:List S126) (w:World) (hr:Kd.C k126 w A xs.length xs) (hl:xs.length≤1000000)
  (hp:∀(j:Int) W,0≤j→j < xs.length→Below w.heap.size w W→Calls Try.prog 97 #[.agg (xa.cells l),.agg #[.int .i64 (rd_T126 xs j).f0,.int .i64 (rd_T126 xs j).f1.f0,.int .i64 (rd_T126 xs j).f1.f1,.int .i64 (rd_T126 xs j).f2]] W fun e w'=>e= .returned (.bool (ok (rd_T126 xs j)))∧Below W.heap.size W w'):
  Calls Try.prog 103 #[.slice A xs.length c,.func (.func 97) #[.agg (xa.cells l)] #[]] w fun e w'=>e= .returned (.bool (allB ok xs))∧Below w.heap.size w w':=by
 have HR:=Aside0.mk hr
 have HP:=Aside0.mk hp
 have HB:=Aside0.mk (Below.refl w.heap.size w)
 clear hp hr
 go_enter Try.func103,Try.ntmps103
 go_wp2_with (first|((with_reducible refine gate_dst (N:=3) rfl ?_);refine box_event ?hg (N:=3) ?hd (cs:=#[.func (.func 97) #[.agg (xa.cells l)] #[]]) (t:=153) ?hr ?_;(case hd=>rfl);(case hg=>rfl);(case hr=>first|(go_simp;done)|(go_simp;rfl));intro g3 hg_ w3 hbx_ hb_;have BK3:=Aside0.mk hbx_;have g3ge:w.heap.size≤g3:=(by have:=below_size HB.out;omega);have g3GE:=Aside0.mk g3ge;clear g3ge;have HBn:=Aside0.mk (below_step HB.out hb_);clear HB hg_ hb_ hbx_;have HB:=HBn;clear HBn)|(go_at_call 126;refine(containsFunc_Cake g3 ok A c xs _ (Kd.C_below HR.out HB.out) hl (fun j W h0 h1 hb=>all1_Cake xa l g3 _ _ _ ((blk_cell (blk_below BK3.out hb) 0).trans rfl) (fun W2 hb2=>HP.out j W2 h0 h1 (below_step (below_step HB.out hb) hb2)))).mono ?_;rintro e w' ⟨rfl,hb⟩;have HBn:=Aside0.mk (below_step HB.out hb);clear hb))
 go_ret
 exact⟨rfl,HBn.out⟩
set_option maxRecDepth 100000 in
set_option maxHeartbeats 1600000 in
theorem all1_Weight (xa:SA) (l:SL) (g:Nat) (x:S137) (b:Bool) (w:World) (hg:w.cell? ⟨g,0,none⟩=some (.func (.func 98) #[.agg (xa.cells l)] #[])) (hp:∀W,Below w.heap.size w W→Calls Try.prog 98 #[.agg (xa.cells l),.agg #[.int .i64 x.f0,.int .i64 x.f1,.int .i64 x.f2.f0,.int .i64 x.f2.f1]] W fun e w'=>e= .returned (.bool b)∧Below W.heap.size W w'):
  Calls Try.prog 129 #[.agg #[.int .i64 x.f0,.int .i64 x.f1,.int .i64 x.f2.f0,.int .i64 x.f2.f1],.pointer (some ⟨g,0,none⟩)] w fun e w'=>e= .returned (.bool (!b))∧Below w.heap.size w w':=by
 have HP:=Aside0.mk hp
 have HB:=Aside0.mk (Below.refl w.heap.size w)
 clear hp
 go_enter Try.func129,Try.ntmps129
 go_wp2_with (first|((with_reducible refine gate_dst (N:=2) rfl ?_);refine box_event ?hg (N:=2) ?hd (cs:=#[.int .i64 x.f0,.int .i64 x.f1,.int .i64 x.f2.f0,.int .i64 x.f2.f1]) (t:=137) ?hr ?_;(case hd=>rfl);(case hg=>rfl);(case hr=>first|(go_simp;done)|(go_simp;rfl));intro g2 hg_ w2 hbx_ hb_;have BK2:=Aside0.mk hbx_;have g2ge:w.heap.size≤g2:=(by have:=below_size HB.out;omega);have g2GE:=Aside0.mk g2ge;clear g2ge;have HBn:=Aside0.mk (below_step HB.out hb_);clear HB hg_ hb_ hbx_;have HB:=HBn;clear HBn;have fg2:=(HB.out.cell (World.block_lt_of_cell? w _ hg)).trans hg;have f20:w2.cell? ⟨g2,0,none⟩=some (.int .i64 x.f0):=(blk_cell BK2.out 0).trans rfl;have f21:w2.cell? ⟨g2,1,none⟩=some (.int .i64 x.f1):=(blk_cell BK2.out 1).trans rfl;have f22:w2.cell? ⟨g2,2,none⟩=some (.int .i64 x.f2.f0):=(blk_cell BK2.out 2).trans rfl;have f23:w2.cell? ⟨g2,3,none⟩=some (.int .i64 x.f2.f1):=(blk_cell BK2.out 3).trans rfl)|(go_at_call 98;refine(HP.out _ HB.out).mono ?_;rintro e w' ⟨rfl,hb⟩;have HBn:=Aside0.mk (below_step HB.out hb);clear hb))
 go_ret
 exact⟨rfl,HBn.out⟩
set_option maxRecDepth 100000 in
set_option maxHeartbeats 1600000 in
theorem indexFunc_Weight (g:Nat) (ok:S137→Bool) (A:Option Addr) (c:Nat) (xs:List S137) (w:World) (hr:Kd.C k137 w A xs.length xs) (hl:xs.length≤1000000)
  (hp:∀(j:Int) W,0≤j→j < xs.length→Below w.heap.size w W→Calls Try.prog 129 #[.agg #[.int .i64 (rd_T137 xs j).f0,.int .i64 (rd_T137 xs j).f1,.int .i64 (rd_T137 xs j).f2.f0,.int .i64 (rd_T137 xs j).f2.f1],.pointer (some ⟨g,0,none⟩)] W fun e w'=>e= .returned (.bool (!(ok (rd_T137 xs j))))∧Below W.heap.size W w'):
  Calls Try.prog 140 #[.slice A xs.length c,.func (.func 129) #[] #[.pointer (some ⟨g,0,none⟩)]] w fun e w'=>e= .returned (.int .i64 (firstNot ok xs 0))∧Below w.heap.size w w':=by
 have HR:=Aside0.mk hr
 have HP:=Aside0.mk hp
 have HB:=Aside0.mk (Below.refl w.heap.size w)
 clear hp hr
 go_enter Try.func140,Try.ntmps140
 go_wp2_with fail
 go_loopw [8] (fun v8 wr=>∃i:Int,v8= .int .i64 i∧0≤i∧i≤xs.length∧Aside0 (firstNot ok (xs.drop i.toNat) i=firstNot ok xs 0)∧Aside0 (Below w.heap.size w wr)) (fun v8 _=>(xs.length-intOf v8).toNat)
 case atStart=>exact⟨0,rfl,by omega,by omega,⟨rfl⟩,HB⟩
 case round=>
  clear HB
  obtain⟨i,rfl,hi0,hi1,HA,HB⟩:=hrel
  by_cases hlt:i < xs.length
  ·obtain⟨ad,e,fW0,fW1,fW2,fW3⟩:=at_T137 (Kd.C_below HR.out HB.out) i hi0 hlt
   subst e
   have hst:=firstNot_step (ok:=ok) (z:=z137) hi0 hlt HA.out
   have HST:=Aside0.mk hst
   clear hst
   cases hok:ok (rd_T137 xs i)with
   |true=>
    have HOK:=Aside0.mk hok
    clear hok
    go_wp2_with (first|(go_at_call 129;refine((HP.out i _ hi0 hlt HB.out).mono (R':=fun e w'=>e= .returned (.bool false)∧Below wr.heap.size wr w') (fun e w' h=>by rw [HOK.out]at h;exact h)).mono ?_;rintro e w' ⟨rfl,hb⟩;have HBn:=Aside0.mk (below_step HB.out hb);clear hb))
    go_roundw
    case measure=>simp [intOf];omega
    case rel=>exact⟨i+1,rfl,by omega,by omega,⟨HST.out.1 HOK.out⟩,HBn⟩
   |false=>
    have HOK:=Aside0.mk hok
    clear hok
    go_wp2_with (first|(go_at_call 129;refine((HP.out i _ hi0 hlt HB.out).mono (R':=fun e w'=>e= .returned (.bool true)∧Below wr.heap.size wr w') (fun e w' h=>by rw [HOK.out]at h;exact h)).mono ?_;rintro e w' ⟨rfl,hb⟩;have HBn:=Aside0.mk (below_step HB.out hb);clear hb))
    go_ret
    exact⟨by rw [HST.out.2 HOK.out];rfl,HBn.out⟩
  ·go_wp2
   go_ret
   exact⟨by rw [←HA.out,List.drop_of_length_le (by omega)];rfl,HB.out⟩
set_option maxRecDepth 100000 in
set_option maxHeartbeats 800000 in
theorem containsFunc_Weight (g:Nat) (ok:S137→Bool) (A:Option Addr) (c:Nat) (xs:List S137) (w:World) (hr:Kd.C k137 w A xs.length xs) (hl:xs.length≤1000000)
  (hp:∀(j:Int) W,0≤j→j < xs.length→Below w.heap.size w W→Calls Try.prog 129 #[.agg #[.int .i64 (rd_T137 xs j).f0,.int .i64 (rd_T137 xs j).f1,.int .i64 (rd_T137 xs j).f2.f0,.int .i64 (rd_T137 xs j).f2.f1],.pointer (some ⟨g,0,none⟩)] W fun e w'=>e= .returned (.bool (!(ok (rd_T137 xs j))))∧Below W.heap.size W w'):
  Calls Try.prog 128 #[.slice A xs.length c,.func (.func 129) #[] #[.pointer (some ⟨g,0,none⟩)]] w fun e w'=>e= .returned (.bool (!(allB ok xs)))∧Below w.heap.size w w':=by
 have HI:=Aside0.mk (indexFunc_Weight g ok A c xs w hr hl hp)
 clear hp hr
 go_enter Try.func128,Try.ntmps128
 cases hb:allB ok xs with
 |true=>
  have hn:firstNot ok xs 0 < 0:=(firstNot_neg ok xs).2 hb
  clear hb
  obtain⟨q,hq⟩:∃q,q=firstNot ok xs 0:=⟨_,rfl⟩
  rw [←hq]at HI hn
  clear hq
  have hd:decide (q≥0)=false:=decide_eq_false (by omega)
  go_wp2_with (first|(go_at_call 140;refine HI.out.mono ?_;rintro e w' ⟨rfl,hb⟩;have HBn:=Aside0.mk hb;clear hb))
  go_ret
  exact⟨rfl,HBn.out⟩
 |false=>
  have hn:0≤firstNot ok xs 0:=by
   rcases Int.lt_or_le (firstNot ok xs 0) 0 with h|h
   ·exact absurd ((firstNot_neg ok xs).1 h) (by rw [hb];decide)
   ·exact h
  clear hb
  obtain⟨q,hq⟩:∃q,q=firstNot ok xs 0:=⟨_,rfl⟩
  rw [←hq]at HI hn
  clear hq
  have hd:decide (q≥0)=true:=decide_eq_true (by omega)
  go_wp2_with (first|(go_at_call 140;refine HI.out.mono ?_;rintro e w' ⟨rfl,hb⟩;have HBn:=Aside0.mk hb;clear hb))
  go_ret
  exact⟨rfl,HBn.out⟩
set_option maxRecDepth 100000 in
set_option maxHeartbeats 1600000 in
theorem all_Weight (xa:SA) (l:SL) (ok:S137→Bool) (A:Option Addr) (c:Nat) (xs:List S137) (w:World) (hr:Kd.C k137 w A xs.length xs) (hl:xs.length≤1000000)
  (hp:∀(j:Int) W,0≤j→j < xs.length→Below w.heap.size w W→Calls Try.prog 98 #[.agg (xa.cells l),.agg #[.int .i64 (rd_T137 xs j).f0,.int .i64 (rd_T137 xs j).f1,.int .i64 (rd_T137 xs j).f2.f0,.int .i64 (rd_T137 xs j).f2.f1]] W fun e w'=>e= .returned (.bool (ok (rd_T137 xs j)))∧Below W.heap.size W w'):
  Calls Try.prog 104 #[.slice A xs.length c,.func (.func 98) #[.agg (xa.cells l)] #[]] w fun e w'=>e= .returned (.bool (allB ok xs))∧Below w.heap.size w w':=by
 have HR:=Aside0.mk hr
 have HP:=Aside0.mk hp
 have HB:=Aside0.mk (Below.refl w.heap.size w)
 clear hp hr
 go_enter Try.func104,Try.ntmps104
 go_wp2_with (first|((with_reducible refine gate_dst (N:=3) rfl ?_);refine box_event ?hg (N:=3) ?hd (cs:=#[.func (.func 98) #[.agg (xa.cells l)] #[]]) (t:=154) ?hr ?_;(case hd=>rfl);(case hg=>rfl);(case hr=>first|(go_simp;done)|(go_simp;rfl));intro g3 hg_ w3 hbx_ hb_;have BK3:=Aside0.mk hbx_;have g3ge:w.heap.size≤g3:=(by have:=below_size HB.out;omega);have g3GE:=Aside0.mk g3ge;clear g3ge;have HBn:=Aside0.mk (below_step HB.out hb_);clear HB hg_ hb_ hbx_;have HB:=HBn;clear HBn)|(go_at_call 128;refine(containsFunc_Weight g3 ok A c xs _ (Kd.C_below HR.out HB.out) hl (fun j W h0 h1 hb=>all1_Weight xa l g3 _ _ _ ((blk_cell (blk_below BK3.out hb) 0).trans rfl) (fun W2 hb2=>HP.out j W2 h0 h1 (below_step (below_step HB.out hb) hb2)))).mono ?_;rintro e w' ⟨rfl,hb⟩;have HBn:=Aside0.mk (below_step HB.out hb);clear hb))
 go_ret
 exact⟨rfl,HBn.out⟩
end Go.Proofs.Ytjifalohjlihaaa.Q
end
section
namespace Go.Proofs.Ytjifalohjlihaaa.Q
set_option linter.unusedVariables false
open Go.RowKit Go.Proofs.YtjifalohjlihaaaW.PrintWords Go.Proofs.YtjifalohjlihaaaW.PrintLast Go.Proofs.YtjifalohjlihaaaW.PrintMore
theorem within_some (n lo hi:Int):shelf_within.f n lo hi=some (decide (lo≤n∧n≤hi)):=by
 unfold shelf_within.f
 by_cases h:lo≤n
 ·rw [if_pos h];simp [h]
 ·rw [if_neg h];simp [h]
def cnt (place:List Int) (i:Int) (s:Int):Int:=((place.take i.toNat).count s:Nat)
def SL.isPlace (l:SL) (place:List Int):Prop:=
 place.length=l.l3.length∧(∀i:Nat,i < place.length→0≤rd place i∧rd place i < l.l2.length)∧∀s:Nat,s < l.l2.length→cnt place place.length s≤(rd_T135 l.l2 s).f0
instance (l:SL) (place:List Int):Decidable (l.isPlace place):=by unfold SL.isPlace;infer_instance
theorem cnt_zero (place:List Int) (s:Int):cnt place 0 s=0:=by simp [cnt]
theorem cnt_nonneg (place:List Int) (i s:Int):0≤cnt place i s:=by unfold cnt;omega
theorem cnt_le (place:List Int) (i s:Int) (h:0≤i):cnt place i s≤i:=by
 unfold cnt
 have h1:=List.count_le_length (a:=s) (l:=place.take i.toNat)
 have h2:=List.length_take_le i.toNat place
 omega
theorem cnt_step {place:List Int} {i:Int} (h0:0≤i) (h1:i < place.length) (s:Int):cnt place (i+1) s=cnt place i s+if rd place i=s then 1 else 0:=by
 have hn:i.toNat < place.length:=by omega
 have hg:rd place i=place[i.toNat]:=by simp [rd,List.getElem?_eq_getElem hn]
 unfold cnt
 rw [show(i+1).toNat=i.toNat+1 by omega,List.take_succ_eq_append_getElem hn,List.count_append,List.count_singleton,←hg]
 by_cases e:rd place i=s
 ·simp [e]
 ·simp [e]
theorem rd_set {us:List Int} {p v:Int} (h0:0≤p) (h1:p < us.length) (s:Int) (hs:0≤s):rd (us.set p.toNat v) s=if p=s then v else rd us s:=by
 unfold rd
 by_cases e:p=s
 ·subst e
  rw [if_pos rfl,List.getD_eq_getElem?_getD,List.getElem?_set_self (by omega)];rfl
 ·rw [if_neg e,List.getD_eq_getElem?_getD,List.getD_eq_getElem?_getD,List.getElem?_set_ne (by omega)]
theorem us_step {place us:List Int} {i p:Int} (h0:0≤i) (h1:i < place.length) (hp0:0≤p) (hp1:p < us.length) (hp:p=rd place i) (h:∀s:Int,0≤s→s < 3→rd us s=cnt place i s):∀s:Int,0≤s→s < 3→rd (us.set p.toNat (cnt place i p+1)) s=cnt place (i+1) s:=by
 intro s hs0 hs1
 rw [rd_set hp0 hp1 s hs0,cnt_step h0 h1,←hp]
 by_cases e:p=s
 ·rw [if_pos e,if_pos e,e]
 ·rw [if_neg e,if_neg e,h s hs0 hs1];omega
theorem rng_step {place:List Int} {n i:Int} (h:∀j:Nat,(j:Int) < i→0≤rd place j∧rd place j < n) (hi:0≤rd place i∧rd place i < n):∀j:Nat,(j:Int) < i+1→0≤rd place j∧rd place j < n:=by
 intro j hj
 by_cases e:(j:Int)=i
 ·rw [e];exact hi
 ·exact h j (by omega)
theorem not_place {l:SL} {place:List Int} {i:Int} (h0:0≤i) (h1:i < place.length) (h:¬(0≤rd place i∧rd place i < l.l2.length)):¬l.isPlace place:=by
 intro hh
 have:=hh.2.1 i.toNat (by omega)
 rw [Int.toNat_of_nonneg h0]at this
 exact h this
theorem not_room {l:SL} {place:List Int} {s:Int} (h0:0≤s) (h1:s < l.l2.length) (h:(rd_T135 l.l2 s).f0 < cnt place place.length s):¬l.isPlace place:=by
 intro hh
 have:=hh.2.2 s.toNat (by omega)
 rw [Int.toNat_of_nonneg h0]at this
 omega
theorem room_step {l:SL} {place:List Int} {s:Int} (h:∀j:Nat,(j:Int) < s→cnt place place.length j≤(rd_T135 l.l2 j).f0) (hs:cnt place place.length s≤(rd_T135 l.l2 s).f0):∀j:Nat,(j:Int) < s+1→cnt place place.length j≤(rd_T135 l.l2 j).f0:=by
 intro j hj
 by_cases e:(j:Int)=s
 ·rw [e];exact hs
 ·exact h j (by omega)
theorem is_place {l:SL} {place:List Int} {s:Int} (h0:place.length=l.l3.length) (h1:∀j:Nat,j < place.length→0≤rd place j∧rd place j < l.l2.length) (h2:∀j:Nat,(j:Int) < s→cnt place place.length j≤(rd_T135 l.l2 j).f0) (hs:(l.l2.length:Int)≤s):l.isPlace place:=
 ⟨h0,h1,fun j hj=>h2 j (by omega)⟩
theorem three_zero {place:List Int}:∀s:Int,0≤s→s < 3→rd [0,0,0] s=cnt place 0 s:=by
 intro s h0 h1
 rw [cnt_zero]
 have:s=0∨s=1∨s=2:=by omega
 rcases this with rfl|rfl|rfl<;>rfl
set_option maxRecDepth 100000 in
set_option maxHeartbeats 3200000 in
theorem L_isPlace.calls (x:SA) (l:SL) (B:Option Addr) (cB:Nat) (place:List Int) (w:World) (hr:Rd w x l) (hs:l.l2.length≤3) (hc:l.l3.length≤5) (hB:Kd.C (Kd.int .i64) w B place.length place):
  Calls Try.prog 74 #[.agg (x.cells l),.slice B place.length cB] w fun e w'=>e= .returned (.bool (decide (l.isPlace place)))∧Below w.heap.size w w':=by
 obtain⟨A1,c1,A2,c2,A3,c3,A4,c4,A5,c5⟩:=x
 have HR:=Aside0.mk hr
 have HO:=Aside0.mk hB
 have HB:=Aside0.mk (Below.refl w.heap.size w)
 clear hr hB
 by_cases hlen:place.length=l.l3.length
 ·have hpl:place.length≤5:=by omega
  have hb:((place.length:Int) !=(l.l3.length:Int))=false:=by rw [hlen];simp
  have HLEN:=Aside0.mk hlen
  clear hlen
  go_enter Try.func74,Try.ntmps74
  go_wp2_with (first|((with_reducible refine gate_dst (N:=2) rfl ?_);refine box_event ?hg (N:=2) ?hd (cs:=#[.int .i64 l.a0,.slice A1 l.l1.length c1,.slice A2 l.l2.length c2,.slice A3 l.l3.length c3,.slice A4 l.l4.length c4,.slice A5 l.l5.length c5]) (t:=39) ?hr ?_;(case hd=>rfl);(case hg=>rfl);(case hr=>first|(go_simp;done)|(go_simp;rfl));intro g2 hg_ w2 hbx_ hb_;have BK2:=Aside0.mk hbx_;have g2ge:w.heap.size≤g2:=(by have:=below_size HB.out;omega);have g2GE:=Aside0.mk g2ge;clear g2ge;have HBn:=Aside0.mk (below_step HB.out hb_);clear HB hg_ hb_ hbx_;have HB:=HBn;clear HBn;have f23:w2.cell? ⟨g2,3,none⟩=some (.slice A3 l.l3.length c3):=(blk_cell BK2.out 3).trans rfl)|((with_reducible refine gate_dst (N:=5) rfl ?_);refine box_event ?hg (N:=5) ?hd (cs:=#[.int .i64 0,.int .i64 0,.int .i64 0]) (t:=174) ?hr ?_;(case hd=>rfl);(case hg=>rfl);(case hr=>first|(go_simp;done)|(go_simp;rfl));intro g5 hg_ w5 hbx_ hb_;have BK5:=Aside0.mk hbx_;have g5ge:w.heap.size≤g5:=(by have:=below_size HB.out;omega);have g5GE:=Aside0.mk g5ge;clear g5ge;have HBn:=Aside0.mk (below_step HB.out hb_);have z_:=Aside0.mk (blk_below BK2.out hb_);clear BK2;have BK2:=z_;clear z_;clear HB hg_ hb_ hbx_;have HB:=HBn;clear HBn))
  clear f23 hb
  go_loopw [18] (fun v18 wr=>∃(i:Int) (us:List Int),v18= .int .i64 i∧0≤i∧i≤place.length∧Aside0 (us.length=3)∧Aside0 (∀s:Int,0≤s→s < 3→rd us s=cnt place i s)∧Aside0 (∀j:Nat,(j:Int) < i→0≤rd place j∧rd place j < l.l2.length)∧Aside0 (wr.heap[g2]? =some (.cells #[.int .i64 l.a0,.slice A1 l.l1.length c1,.slice A2 l.l2.length c2,.slice A3 l.l3.length c3,.slice A4 l.l4.length c4,.slice A5 l.l5.length c5] 39 (0,0)))∧Aside0 (wr.heap[g5]? =some (.cells (nums .i64 us).toArray 174 (0,0)))∧Aside0 (Below w.heap.size w wr)) (fun v18 _=>(place.length-intOf v18).toNat)
  case atStart=>exact⟨0,[0,0,0],rfl,by omega,by omega,⟨rfl⟩,⟨three_zero⟩,⟨fun j hj=>by omega⟩,BK2,BK5,HB⟩
  case round=>
   clear BK2 BK5 HB
   obtain⟨i,us,rfl,hi0,hi1,HU,HC,HA,BK2,BK5,HB⟩:=hrel
   by_cases hlt:i < place.length
   ·obtain⟨ad,e,fp⟩:=Kd.at_int (Kd.C_below HO.out HB.out) i hi0 hlt
    subst e
    have f22:wr.cell? ⟨g2,2,none⟩=some (.slice A2 l.l2.length c2):=(blk_cell BK2.out 2).trans rfl
    obtain⟨p,hp⟩:∃p,p=rd place i:=⟨_,rfl⟩
    rw [←hp]at fp
    by_cases hin:0≤p∧p < l.l2.length
    ·have HW:=Aside0.mk (show shelf_within.f p 0 (l.l2.length-1)=some true by rw [within_some];exact congrArg some (decide_eq_true (by omega)))
     obtain⟨hp0,hp1⟩:=hin
     have hus:=HC.out p hp0 (by omega)
     have hc0:=cnt_nonneg place i p
     have hc1:=cnt_le place i p hi0
     have fu:wr.cell? ⟨g5,p.toNat,none⟩=some (.int .i64 (cnt place i p)):=by rw [←hus];exact(blk_cell BK5.out _).trans (nums_at us _ hp0 (by rw [HU.out];omega))
     have ff:=blk_frozen BK5.out p.toNat
     have HUS:=Aside0.mk hus
     have HP:=Aside0.mk hp
     clear hus hp
     go_wp2_with (first|(go_at_call 113;refine(shelf_within.calls p 0 _ true _ HW.out).mono ?_;rintro e w' ⟨rfl,⟨nd,rfl⟩⟩))
     exact⟨⟨i+1,us.set p.toNat (cnt place i p+1),rfl,by omega,by omega,⟨by simpa using HU.out⟩,⟨us_step hi0 hlt hp0 (by rw [HU.out];omega) HP.out HC.out⟩,⟨rng_step HA.out (by rw [←HP.out];exact⟨hp0,hp1⟩)⟩,⟨blk_far (w:=wr.drewN nd) BK2.out (blk_ne BK2.out BK5.out (by decide)) _⟩,⟨by have h_:=blk_set (w:=wr.drewN nd) BK5.out p.toNat (.int .i64 (cnt place i p+1));rw [nums_set]at h_;exact h_⟩,⟨below_set (pw_below_drewN HB.out nd) g5GE.out⟩⟩,by simp [intOf];omega⟩
    ·have HW:=Aside0.mk (show shelf_within.f p 0 (l.l2.length-1)=some false by rw [within_some];exact congrArg some (decide_eq_false (by omega)))
     have HP:=Aside0.mk hp
     have HIN:=Aside0.mk hin
     clear hp hin
     go_wp2_with (first|(go_at_call 113;refine(shelf_within.calls p 0 _ false _ HW.out).mono ?_;rintro e w' ⟨rfl,⟨nd,rfl⟩⟩))
     go_ret
     exact⟨by rw [decide_eq_false (not_place hi0 hlt (by rw [←HP.out];exact HIN.out))];rfl,pw_below_drewN HB.out nd⟩
   ·have hip:i=place.length:=by omega
    have HC2:=Aside0.mk (show ∀s:Int,0≤s→s < 3→rd us s=cnt place place.length s by intro s h0 h1;rw [HC.out s h0 h1,hip])
    have HA2:=Aside0.mk (show ∀j:Nat,j < place.length→0≤rd place j∧rd place j < l.l2.length by intro j hj;exact HA.out j (by omega))
    clear hip HA HC
    have f22:wr.cell? ⟨g2,2,none⟩=some (.slice A2 l.l2.length c2):=(blk_cell BK2.out 2).trans rfl
    go_wp2_with fail
    clear f22
    go_loopw [38] (fun v38 wq=>∃s:Int,v38= .int .i64 s∧0≤s∧s≤l.l2.length∧Aside0 (∀j:Nat,(j:Int) < s→cnt place place.length j≤(rd_T135 l.l2 j).f0)∧Aside0 (wq.heap[g5]? =some (.cells (nums .i64 us).toArray 174 (0,0)))∧Aside0 (Below w.heap.size w wq)) (fun v38 _=>(l.l2.length-intOf v38).toNat)
    case atStart=>exact⟨0,rfl,by omega,by omega,⟨fun j hj=>by omega⟩,BK5,HB⟩
    case round=>
     clear BK2 BK5 HB
     obtain⟨s,rfl,hs0,hs1,HS,BK5,HB⟩:=hrel
     by_cases hst:s < l.l2.length
     ·obtain⟨adb,eb,fb0,fb1⟩:=at_T135 (Rd.below HR.out HB.out).r2 s hs0 hst
      simp only at eb
      subst eb
      go_upto_region 14 with(fail)
      obtain⟨g9,hg_⟩:∃g_,g_=wr.heap.size:=⟨_,rfl⟩
      obtain⟨w9,hw_⟩:∃w_,w_=World.alloc wr (Obj.cells #[.int .i64 (rd_T135 l.l2 s).f0,.int .i64 (rd_T135 l.l2 s).f1] 135):=⟨_,rfl⟩
      have hb_:Below wr.heap.size wr w9:=by rw [hw_];exact below_alloc (Below.refl _ _) _
      have BK9:Aside0 (w9.heap[g9]? =some (Obj.cells #[.int .i64 (rd_T135 l.l2 s).f0,.int .i64 (rd_T135 l.l2 s).f1] 135)):=⟨by rw [hw_,hg_];exact blk_new _ _⟩
      have g9GE:Aside0 (w.heap.size≤g9):=⟨by have:=below_size HB.out;rw [hg_];exact this⟩
      replace BK5:=Aside0.mk (blk_below BK5.out hb_)
      replace HB:=Aside0.mk (below_step HB.out hb_)
      rw [←hw_,←hg_]
      clear hw_ hg_ hb_
      have fu:w9.cell? ⟨g5,s.toNat,none⟩=some (.int .i64 (cnt place place.length s)):=by rw [←HC2.out s hs0 (by omega)];exact(blk_cell BK5.out _).trans (nums_at us _ hs0 (by rw [HU.out];omega))
      have f90:w9.cell? ⟨g9,0,none⟩=some (.int .i64 (rd_T135 l.l2 s).f0):=(blk_cell BK9.out 0).trans rfl
      clear fb0 fb1
      by_cases hgt:(rd_T135 l.l2 s).f0 < cnt place place.length s
      ·go_quiet (fail)
       go_wp2
       go_ret
       exact⟨by rw [decide_eq_false (not_room hs0 hst hgt)];rfl,pw_below_drewN HB.out _⟩
      ·go_quiet (fail)
       go_wp2
       refine⟨⟨s+1,rfl,by omega,by omega,⟨room_step HS.out (by omega)⟩,⟨BK5.out⟩,⟨pw_below_drewN HB.out _⟩⟩,by simp [intOf];omega⟩
     ·go_wp2
      go_ret
      exact⟨by rw [decide_eq_true (is_place HLEN.out HA2.out HS.out (by omega))];rfl,HB.out⟩
 ·have hb:((place.length:Int) !=(l.l3.length:Int))=true:=by rw [bne_iff_ne];omega
  have hb2:(place.length !=l.l3.length)=true:=by rw [bne_iff_ne];omega
  have HLEN:=Aside0.mk hlen
  clear hlen
  go_enter Try.func74,Try.ntmps74
  go_wp2_with (first|((with_reducible refine gate_dst (N:=2) rfl ?_);refine box_event ?hg (N:=2) ?hd (cs:=#[.int .i64 l.a0,.slice A1 l.l1.length c1,.slice A2 l.l2.length c2,.slice A3 l.l3.length c3,.slice A4 l.l4.length c4,.slice A5 l.l5.length c5]) (t:=39) ?hr ?_;(case hd=>rfl);(case hg=>rfl);(case hr=>first|(go_simp;done)|(go_simp;rfl));intro g2 hg_ w2 hbx_ hb_;have BK2:=Aside0.mk hbx_;have g2ge:w.heap.size≤g2:=(by have:=below_size HB.out;omega);have g2GE:=Aside0.mk g2ge;clear g2ge;have HBn:=Aside0.mk (below_step HB.out hb_);clear HB hg_ hb_ hbx_;have HB:=HBn;clear HBn;have f23:w2.cell? ⟨g2,3,none⟩=some (.slice A3 l.l3.length c3):=(blk_cell BK2.out 3).trans rfl))
  go_ret
  exact⟨by rw [decide_eq_false (fun h=>HLEN.out h.1)];rfl,HB.out⟩
end Go.Proofs.Ytjifalohjlihaaa.Q
end
section
namespace Go.Proofs.Ytjifalohjlihaaa.Q
open Go.RowKit Go.Proofs.YtjifalohjlihaaaW.PrintWords Go.Proofs.YtjifalohjlihaaaW.PrintLast Go.Proofs.YtjifalohjlihaaaW.PrintMore
attribute [local go_sem] max2_int min2_int max_two min_two max_three min_three max_four min_four
set_option linter.unusedVariables false
set_option linter.unusedSimpArgs false
def shelf_Loft_ranges.l0:Nat→List (S56)→List (S126)→Int→Int→Option ((List (S56)))
 |0,_,_,_,_=>none
 |k+1,x3,x10,x11,x12=>if x12 < x11 then(if 0≤x12 then(if x12 <(x10.length:Int)then(if x3.length < 8796093022208 then(shelf_Loft_ranges.l0 k (x3++ [(⟨(rd_T126 x10 x12).f1.f0,(rd_T126 x10 x12).f1.f1⟩:S56)]) x10 x11 (wrap64 (x12+1)))else(none))else(none))else(none))else(some x3)
def shelf_Loft_ranges.f (k:Nat) (a0_0:Int) (l0_1:List (S56)) (l0_2:List (S135)) (l0_3:List (S126)) (l0_4:List Int) (l0_5:List (S137)):Option ((List (S56))):=(slices_Clone_Range.f l0_1).bind fun t1749=>(shelf_Loft_ranges.l0 k t1749 l0_3 (l0_3.length:Int) 0)
set_option maxHeartbeats 8000000 in
set_option maxRecDepth 100000 in
theorem shelf_Loft_ranges.calls (k:Nat) (a0_0:Int) (A0_1:Option Addr) (c0_1:Nat) (l0_1:List (S56)) (A0_2:Option Addr) (c0_2:Nat) (l0_2:List (S135)) (A0_3:Option Addr) (c0_3:Nat) (l0_3:List (S126)) (A0_4:Option Addr) (c0_4:Nat) (l0_4:List Int) (A0_5:Option Addr) (c0_5:Nat) (l0_5:List (S137)) (r:List (S56)) (w:World) (hr0_1:Kd.C k56 w A0_1 l0_1.length l0_1) (hc0_1:l0_1.length≤c0_1) (hr0_2:Kd.C k135 w A0_2 l0_2.length l0_2) (hc0_2:l0_2.length≤c0_2) (hr0_3:Kd.C k126 w A0_3 l0_3.length l0_3) (hc0_3:l0_3.length≤c0_3) (hr0_4:Kd.C (Kd.int .i64) w A0_4 l0_4.length l0_4) (hc0_4:l0_4.length≤c0_4) (hr0_5:Kd.C k137 w A0_5 l0_5.length l0_5) (hc0_5:l0_5.length≤c0_5) (h:shelf_Loft_ranges.f k a0_0 l0_1 l0_2 l0_3 l0_4 l0_5=some r):
  Calls Try.prog 105 #[.agg #[.int .i64 a0_0,.slice A0_1 l0_1.length c0_1,.slice A0_2 l0_2.length c0_2,.slice A0_3 l0_3.length c0_3,.slice A0_4 l0_4.length c0_4,.slice A0_5 l0_5.length c0_5]] w fun e w'=>∃v0_:Value,e= .returned (v0_)∧Kd.R k56 56 w' w.heap.size (fun _=>True) v0_ r∧Below w.heap.size w w':=by
 have hu39:=Try.underlying39
 have hu126:=Try.underlying126
 have hu56:=Try.underlying56
 have HR0_1:=Aside0.mk hr0_1
 have HC0_1:=Aside0.mk hc0_1
 clear hr0_1 hc0_1
 have HR0_2:=Aside0.mk hr0_2
 have HC0_2:=Aside0.mk hc0_2
 clear hr0_2 hc0_2
 have HR0_3:=Aside0.mk hr0_3
 have HC0_3:=Aside0.mk hc0_3
 clear hr0_3 hc0_3
 have HR0_4:=Aside0.mk hr0_4
 have HC0_4:=Aside0.mk hc0_4
 clear hr0_4 hc0_4
 have HR0_5:=Aside0.mk hr0_5
 have HC0_5:=Aside0.mk hc0_5
 clear hr0_5 hc0_5
 have HB:=Aside0.mk (Below.refl w.heap.size w)
 have H:((slices_Clone_Range.f l0_1).bind fun t1749=>(shelf_Loft_ranges.l0 k t1749 l0_3 (l0_3.length:Int) 0))=some r:=h
 clear h
 replace H:=Option.bind_eq_some_iff.mp H
 obtain⟨t1749,A20,H⟩:=H
 replace H:(shelf_Loft_ranges.l0 k t1749 l0_3 (l0_3.length:Int) 0)=some r:=H
 have A2:=Aside0.mk A20
 clear A20
 have H':=Aside0.mk H
 clear H
 go_enter Try.func105,Try.ntmps105
 go_wp2_with (first|((with_reducible refine gate_dst (N:=1) rfl ?_);refine box_event ?hg (N:=1) ?hd (cs:=#[.int .i64 a0_0,.slice A0_1 l0_1.length c0_1,.slice A0_2 l0_2.length c0_2,.slice A0_3 l0_3.length c0_3,.slice A0_4 l0_4.length c0_4,.slice A0_5 l0_5.length c0_5]) (t:=39) ?hr ?_;(case hd=>rfl);(case hg=>rfl);(case hr=>first|(go_simp;done)|(go_simp;rfl));intro gb1748 hg w3 hbox hb;have n0_:=Aside0.mk (below_step (by repeat(first|(with_reducible first|exact HB.out|apply below_alloc|apply pw_below_drewN|apply below_drew1)|exact HB.out)) hb);have n1_:=Aside0.mk (hbox);have n2_:=Aside0.mk ((by rw [hg];exact(below_size (by repeat(first|(with_reducible first|exact HB.out|apply below_alloc|apply pw_below_drewN|apply below_drew1)|exact HB.out))):w.heap.size≤gb1748));have n3_:=Aside0.mk ((by rw [hg];exact(below_size (by repeat(first|(with_reducible first|exact HB.out|apply below_alloc|apply pw_below_drewN|apply below_drew1)|exact HB.out))):w.heap.size≤gb1748));clear HB;have HB:=n0_;have BK1748:=n1_;have GW1748:=n2_;have GE1748:=n3_;clear n0_ n1_ n2_ n3_;clear hb hbox hg;have hcz4_0:w3.cell? ⟨gb1748,0,none⟩=some (.int .i64 a0_0):=(blk_cell BK1748.out 0).trans rfl;have hcz4_1:w3.cell? ⟨gb1748,1,none⟩=some (.slice A0_1 l0_1.length c0_1):=(blk_cell BK1748.out 1).trans rfl;have hcz4_2:w3.cell? ⟨gb1748,2,none⟩=some (.slice A0_2 l0_2.length c0_2):=(blk_cell BK1748.out 2).trans rfl;have hcz4_3:w3.cell? ⟨gb1748,3,none⟩=some (.slice A0_3 l0_3.length c0_3):=(blk_cell BK1748.out 3).trans rfl;have hcz4_4:w3.cell? ⟨gb1748,4,none⟩=some (.slice A0_4 l0_4.length c0_4):=(blk_cell BK1748.out 4).trans rfl;have hcz4_5:w3.cell? ⟨gb1748,5,none⟩=some (.slice A0_5 l0_5.length c0_5):=(blk_cell BK1748.out 5).trans rfl;have hfz4_0:=blk_frozen BK1748.out 0;have hfz4_1:=blk_frozen BK1748.out 1;have hfz4_2:=blk_frozen BK1748.out 2;have hfz4_3:=blk_frozen BK1748.out 3;have hfz4_4:=blk_frozen BK1748.out 4;have hfz4_5:=blk_frozen BK1748.out 5)|((with_reducible refine gate_callee (f:=130) rfl ?_);refine goesL_ (some 8) rfl rfl Try.func130 (by kernel_rfl) rfl #[.slice A0_1 l0_1.length c0_1] rfl (by(try simp only [List.map_toArray,List.map_cons,List.map_nil]);first|done|rfl|(simp only [List.length_drop,List.length_take];rfl)) ?_;(with_reducible refine(slices_Clone_Range.calls _ _ l0_1 t1749 _ ?side1 ?side2 A2.out).mono ?_);(case side1=>repeat(first|exact(Kd.C_below HR0_1.out HB.out)|(with_reducible refine Kd.C_alloc ?_ _)|(with_reducible refine Kd.C_drewN ?_ _)|(with_reducible refine Kd.C_drew ?_)));(case side2=>exact HC0_1.out);rintro e w5 ⟨v1750,rfl,ho0,hb⟩;refine⟨_,rfl,?_⟩;have n0_:=Aside0.mk (Kd.R_lower ho0 (below_size (by repeat(first|(with_reducible first|exact HB.out|apply below_alloc|apply pw_below_drewN|apply below_drew1|refine below_set ?_ GE1748.out)|exact HB.out))));have n1_:=Aside0.mk (blk_below (g:=gb1748) (o:= .cells #[.int .i64 a0_0,.slice A0_1 l0_1.length c0_1,.slice A0_2 l0_2.length c0_2,.slice A0_3 l0_3.length c0_3,.slice A0_4 l0_4.length c0_4,.slice A0_5 l0_5.length c0_5] 39 (0,0)) (by(with_reducible repeat(first|refine blk_drewN ?_ _|refine blk_drew ?_|refine blk_alloc ?_ _));exact BK1748.out) hb);have n2_:=Aside0.mk (below_step (by repeat(first|(with_reducible first|exact HB.out|apply below_alloc|apply pw_below_drewN|apply below_drew1|refine below_set ?_ GE1748.out)|exact HB.out)) hb);clear BK1748;clear HB;have HO1751:=n0_;have BK1748:=n1_;have HB:=n2_;clear n0_ n1_ n2_;(try clear hb);(try clear hb2);(try clear hk);(try clear hi);(try clear ho0);have hcz6_0:w5.cell? ⟨gb1748,0,none⟩=some (.int .i64 a0_0):=(blk_cell BK1748.out 0).trans rfl;have hcz6_1:w5.cell? ⟨gb1748,1,none⟩=some (.slice A0_1 l0_1.length c0_1):=(blk_cell BK1748.out 1).trans rfl;have hcz6_2:w5.cell? ⟨gb1748,2,none⟩=some (.slice A0_2 l0_2.length c0_2):=(blk_cell BK1748.out 2).trans rfl;have hcz6_3:w5.cell? ⟨gb1748,3,none⟩=some (.slice A0_3 l0_3.length c0_3):=(blk_cell BK1748.out 3).trans rfl;have hcz6_4:w5.cell? ⟨gb1748,4,none⟩=some (.slice A0_4 l0_4.length c0_4):=(blk_cell BK1748.out 4).trans rfl;have hcz6_5:w5.cell? ⟨gb1748,5,none⟩=some (.slice A0_5 l0_5.length c0_5):=(blk_cell BK1748.out 5).trans rfl;have hfz6_0:=blk_frozen BK1748.out 0;have hfz6_1:=blk_frozen BK1748.out 1;have hfz6_2:=blk_frozen BK1748.out 2;have hfz6_3:=blk_frozen BK1748.out 3;have hfz6_4:=blk_frozen BK1748.out 4;have hfz6_5:=blk_frozen BK1748.out 5))
 go_loopg [3,12] k (fun kq v3 v12 w'=>∃(x3_1:List (S56)) (x12_1:Int),v12= .int .i64 x12_1∧Aside0 (shelf_Loft_ranges.l0 kq x3_1 l0_3 (l0_3.length:Int) x12_1=some r)∧Aside0 (kq≤k)∧Aside0 (Kd.R k56 56 w' w.heap.size (fun _=>True) v3 x3_1)∧Aside0 (w'.heap[gb1748]? =some (.cells #[.int .i64 a0_0,(.slice A0_1 l0_1.length c0_1),(.slice A0_2 l0_2.length c0_2),(.slice A0_3 l0_3.length c0_3),(.slice A0_4 l0_4.length c0_4),(.slice A0_5 l0_5.length c0_5)] 39 (0,0)))∧Aside0 (Below w.heap.size w w'))
 case atStart=>exact⟨(t1749),(0),(by first|rfl|(simp;done)|(simp [*];done)),H',⟨Nat.le_refl _⟩,⟨by(with_reducible repeat(first|apply Kd.R_alloc|apply Kd.R_drewN|apply Kd.R_drew));exact HO1751.out⟩,⟨by(with_reducible repeat(first|refine blk_drewN ?_ _|refine blk_drew ?_|refine blk_alloc ?_ _));exact BK1748.out⟩,⟨by repeat(first|(with_reducible first|exact HB.out|apply below_alloc|apply pw_below_drewN|apply below_drew1|refine below_set ?_ GE1748.out)|exact HB.out)⟩⟩
 case round=>
  clear H'
  try clear c1
  try clear p2
  try clear hcz4_0
  try clear hcz4_1
  try clear hcz4_2
  try clear hcz4_3
  try clear hcz4_4
  try clear hcz4_5
  try clear hcz6_0
  try clear hcz6_1
  try clear hcz6_2
  try clear hcz6_3
  try clear hcz6_4
  try clear hcz6_5
  try clear hfz4_0
  try clear hfz4_1
  try clear hfz4_2
  try clear hfz4_3
  try clear hfz4_4
  try clear hfz4_5
  try clear hfz6_0
  try clear hfz6_1
  try clear hfz6_2
  try clear hfz6_3
  try clear hfz6_4
  try clear hfz6_5
  obtain⟨x3_1,x12_1,rfl,HA,HK1,HO_3,BK1748,HB⟩:=hrel
  cases gk with
  |zero=>exact absurd HA.out (by simp [shelf_Loft_ranges.l0])
  |succ k1=>
   have H:=HA.out
   clear HA
   simp only [shelf_Loft_ranges.l0]at H
   by_cases c7:x12_1 <(l0_3.length:Int)
   ·rw [if_pos c7]at H
    have c7b0:decide (x12_1 <(l0_3.length:Int))=true:=decide_eq_true c7
    clear c7
    by_cases c8:0≤x12_1
    ·rw [if_pos c8]at H
     have c8b0:decide (0≤x12_1)=true:=decide_eq_true c8
     clear c8
     by_cases c9:x12_1 <(l0_3.length:Int)
     ·rw [if_pos c9]at H
      have c9b0:decide (x12_1 <(l0_3.length:Int))=true:=decide_eq_true c9
      clear c9
      by_cases c10:x3_1.length < 8796093022208
      ·rw [if_pos c10]at H
       have LMc10:=Aside0.mk c10
       clear c10
       obtain⟨y1754,hy1754⟩:∃y_:List (S56),y_=(x3_1++ [(⟨(rd_T126 l0_3 x12_1).f1.f0,(rd_T126 l0_3 x12_1).f1.f1⟩:S56)]):=⟨_,rfl⟩
       replace H:(shelf_Loft_ranges.l0 k1 y1754 l0_3 (l0_3.length:Int) (wrap64 (x12_1+1)))=some r:=by first|(rw [hy1754];with_reducible exact H)|(have H2_:=(Option.bind_some _ _).symm.trans H;rw [hy1754];with_reducible exact H2_)|(have H2_:=(Option.bind_some _ _).symm.trans H;with_reducible exact H2_)|with_reducible exact H|(rw [hy1754];exact H)|exact H
       have Ny1754:=Aside0.mk hy1754
       clear hy1754
       have H':=Aside0.mk H
       clear H
       have p1752:0≤(x12_1:Int):=of_decide_eq_true (by first|(with_reducible assumption)|assumption)
       have q1752:x12_1 <(l0_3.length:Int):=of_decide_eq_true (by first|(with_reducible assumption)|assumption)
       obtain⟨ad1752,e1752,hx1752_0,hx1752_1,hx1752_2,hx1752_3⟩:=at_T126 HR0_3.out x12_1 p1752 q1752
       cases e1752
       replace hx1752_0:=(HB.out.cell (World.block_lt_of_cell? w _ hx1752_0)).trans hx1752_0
       replace hx1752_1:=(HB.out.cell (World.block_lt_of_cell? w _ hx1752_1)).trans hx1752_1
       replace hx1752_2:=(HB.out.cell (World.block_lt_of_cell? w _ hx1752_2)).trans hx1752_2
       replace hx1752_3:=(HB.out.cell (World.block_lt_of_cell? w _ hx1752_3)).trans hx1752_3
       replace p1752:=eq_true p1752
       replace q1752:=eq_true q1752
       go_wp2_with (first|((with_reducible refine gate_dst (N:=5) rfl ?_);refine box_event ?hg (N:=5) ?hd (cs:=#[.int .i64 0,.int .i64 0,.int .i64 0,.int .i64 0]) (t:=126) ?hr ?_;(case hd=>rfl);(case hg=>rfl);(case hr=>first|(go_simp;done)|(go_simp;rfl));intro gb1753 hg w11 hbox hb;have n0_:=Aside0.mk (Kd.R_below (by(with_reducible repeat(first|apply Kd.R_alloc|apply Kd.R_drewN|apply Kd.R_drew));exact HO_3.out) hb);have n1_:=Aside0.mk (blk_below (g:=gb1748) (o:= .cells #[.int .i64 a0_0,.slice A0_1 l0_1.length c0_1,.slice A0_2 l0_2.length c0_2,.slice (some ad1752) l0_3.length c0_3,.slice A0_4 l0_4.length c0_4,.slice A0_5 l0_5.length c0_5] 39 (0,0)) (by(with_reducible repeat(first|refine blk_drewN ?_ _|refine blk_drew ?_|refine blk_alloc ?_ _));exact BK1748.out) hb);have n2_:=Aside0.mk (below_step (by repeat(first|(with_reducible first|exact HB.out|apply below_alloc|apply pw_below_drewN|apply below_drew1|refine below_set ?_ GE1748.out)|exact HB.out)) hb);have n3_:=Aside0.mk (hbox);have n4_:=Aside0.mk ((by rw [hg];exact(below_size (by repeat(first|(with_reducible first|exact HB.out|apply below_alloc|apply pw_below_drewN|apply below_drew1|refine below_set ?_ GE1748.out)|exact HB.out))):w.heap.size≤gb1753));have n5_:=Aside0.mk ((by rw [hg];exact(below_size (by repeat(first|(with_reducible first|exact HB.out|apply below_alloc|apply pw_below_drewN|apply below_drew1|refine below_set ?_ GE1748.out)|exact HB.out))):w.heap.size≤gb1753));have n6_:=Aside0.mk ((by rw [hg];exact Nat.ne_of_lt (blk_lt (g:=gb1748) (o:= .cells #[.int .i64 a0_0,.slice A0_1 l0_1.length c0_1,.slice A0_2 l0_2.length c0_2,.slice (some ad1752) l0_3.length c0_3,.slice A0_4 l0_4.length c0_4,.slice A0_5 l0_5.length c0_5] 39 (0,0)) (by(with_reducible repeat(first|refine blk_drewN ?_ _|refine blk_drew ?_|refine blk_alloc ?_ _));exact BK1748.out)):gb1748≠gb1753));have n7_:=Aside0.mk ((by rw [hg];exact Nat.ne_of_gt (blk_lt (g:=gb1748) (o:= .cells #[.int .i64 a0_0,.slice A0_1 l0_1.length c0_1,.slice A0_2 l0_2.length c0_2,.slice (some ad1752) l0_3.length c0_3,.slice A0_4 l0_4.length c0_4,.slice A0_5 l0_5.length c0_5] 39 (0,0)) (by(with_reducible repeat(first|refine blk_drewN ?_ _|refine blk_drew ?_|refine blk_alloc ?_ _));exact BK1748.out)):gb1753≠gb1748));clear HO_3;clear BK1748;clear HB;have HO_3:=n0_;have BK1748:=n1_;have HB:=n2_;have BK1753:=n3_;have GW1753:=n4_;have GE1753:=n5_;have NB1748_1753:=n6_;have NB1753_1748:=n7_;clear n0_ n1_ n2_ n3_ n4_ n5_ n6_ n7_;clear hb hbox hg;have hnb12:=NB1753_1748.out;have hnc12:=NB1748_1753.out;have hcz13_0:w11.cell? ⟨gb1753,0,none⟩=some (.int .i64 0):=(blk_cell BK1753.out 0).trans rfl;have hcz13_1:w11.cell? ⟨gb1753,1,none⟩=some (.int .i64 0):=(blk_cell BK1753.out 1).trans rfl;have hcz13_2:w11.cell? ⟨gb1753,2,none⟩=some (.int .i64 0):=(blk_cell BK1753.out 2).trans rfl;have hcz13_3:w11.cell? ⟨gb1753,3,none⟩=some (.int .i64 0):=(blk_cell BK1753.out 3).trans rfl;have hfz13_0:=blk_frozen BK1753.out 0;have hfz13_1:=blk_frozen BK1753.out 1;have hfz13_2:=blk_frozen BK1753.out 2;have hfz13_3:=blk_frozen BK1753.out 3)|((with_reducible refine gate_builtin (b:= .append) (xs:=#[.tmp 16,.tmp 19]) rfl ?_);at_builtin;refine Kd.R_append k56 (w0:=w) w.heap.size rfl (.tmp 16) (.tmp 19) 31 56 (.agg #[(.int .i64 0),(.int .i64 0)]) 16 rfl Try.underlying31 info56 rfl (by decide) (by omega) u3 x3_1 (⟨(rd_T126 l0_3 x12_1).f1.f0,(rd_T126 l0_3 x12_1).f1.f1⟩:S56) [.int .i64 ((rd_T126 l0_3 x12_1).f1.f0),.int .i64 ((rd_T126 l0_3 x12_1).f1.f1)] (fun _=>True) (fun _=>False) rfl (by first|(go_simp;done)|(go_simp;rfl)) ?aP (fun _ hk=>hk.elim) ?aF ?aO ?aB ?aS ?aL ?_;(case aP=>exact k56_mkM _ _ _ (⟨(rd_T126 l0_3 x12_1).f1.f0,(rd_T126 l0_3 x12_1).f1.f1⟩:S56));(case aB=>exact(by repeat(first|(with_reducible first|exact HB.out|apply below_alloc|apply pw_below_drewN|apply below_drew1|refine below_set ?_ GE1748.out|refine below_set ?_ GE1753.out)|exact HB.out)));(case aF=>exact(fun _ _=>trivial));(case aO=>exact(by(with_reducible repeat(first|apply Kd.R_alloc|apply Kd.R_drewN|apply Kd.R_drew));exact Kd.R_mono (Kd.R_far (p:=⟨gb1753,3,none⟩) (Kd.R_far (p:=⟨gb1753,2,none⟩) (Kd.R_far (p:=⟨gb1753,1,none⟩) (Kd.R_far (p:=⟨gb1753,0,none⟩) (Kd.R_types HO_3.out BK1753.out (by decide)) (fun _ hk=>hk.2) (.int .i64 ((rd_T126 l0_3 x12_1).f0))) (fun _ hk=>hk.2) (.int .i64 ((rd_T126 l0_3 x12_1).f1.f0))) (fun _ hk=>hk.2) (.int .i64 ((rd_T126 l0_3 x12_1).f1.f1))) (fun _ hk=>hk.2) (.int .i64 ((rd_T126 l0_3 x12_1).f2))) (fun _ hk=>trivial)));(case aS=>exact(below_size (by repeat(first|(with_reducible first|exact HB.out|apply below_alloc|apply pw_below_drewN|apply below_drew1|refine below_set ?_ GE1748.out|refine below_set ?_ GE1753.out)|exact HB.out))));(case aL=>have:=LMc10.out;omega);intro v1755 w14 ho hb hg hat;rw [←Ny1754.out]at ho;have n0_:=Aside0.mk (blk_grown (g:=gb1748) (o:= .cells #[.int .i64 a0_0,.slice A0_1 l0_1.length c0_1,.slice A0_2 l0_2.length c0_2,.slice (some ad1752) l0_3.length c0_3,.slice A0_4 l0_4.length c0_4,.slice A0_5 l0_5.length c0_5] 39 (0,0)) (by(with_reducible repeat(first|refine blk_drewN ?_ _|refine blk_drew ?_|refine blk_alloc ?_ _));refine blk_far ?_ NB1748_1753.out _;(with_reducible repeat(first|refine blk_drewN ?_ _|refine blk_drew ?_|refine blk_alloc ?_ _));refine blk_far ?_ NB1748_1753.out _;(with_reducible repeat(first|refine blk_drewN ?_ _|refine blk_drew ?_|refine blk_alloc ?_ _));refine blk_far ?_ NB1748_1753.out _;(with_reducible repeat(first|refine blk_drewN ?_ _|refine blk_drew ?_|refine blk_alloc ?_ _));refine blk_far ?_ NB1748_1753.out _;(with_reducible repeat(first|refine blk_drewN ?_ _|refine blk_drew ?_|refine blk_alloc ?_ _));exact BK1748.out) hg (Kd.R_ne HO_3.out BK1748.out (by decide)));have n1_:=Aside0.mk (blk_grown (g:=gb1753) (o:= .cells #[.int .i64 ((rd_T126 l0_3 x12_1).f0),.int .i64 ((rd_T126 l0_3 x12_1).f1.f0),.int .i64 ((rd_T126 l0_3 x12_1).f1.f1),.int .i64 ((rd_T126 l0_3 x12_1).f2)] 126 (0,0)) (by(with_reducible repeat(first|refine blk_drewN ?_ _|refine blk_drew ?_|refine blk_alloc ?_ _));refine blk_put (cs:=#[.int .i64 ((rd_T126 l0_3 x12_1).f0),.int .i64 ((rd_T126 l0_3 x12_1).f1.f0),.int .i64 ((rd_T126 l0_3 x12_1).f1.f1),.int .i64 0]) ?_ 3 _ rfl;(with_reducible repeat(first|refine blk_drewN ?_ _|refine blk_drew ?_|refine blk_alloc ?_ _));refine blk_put (cs:=#[.int .i64 ((rd_T126 l0_3 x12_1).f0),.int .i64 ((rd_T126 l0_3 x12_1).f1.f0),.int .i64 0,.int .i64 0]) ?_ 2 _ rfl;(with_reducible repeat(first|refine blk_drewN ?_ _|refine blk_drew ?_|refine blk_alloc ?_ _));refine blk_put (cs:=#[.int .i64 ((rd_T126 l0_3 x12_1).f0),.int .i64 0,.int .i64 0,.int .i64 0]) ?_ 1 _ rfl;(with_reducible repeat(first|refine blk_drewN ?_ _|refine blk_drew ?_|refine blk_alloc ?_ _));refine blk_put (cs:=#[.int .i64 0,.int .i64 0,.int .i64 0,.int .i64 0]) ?_ 0 _ rfl;(with_reducible repeat(first|refine blk_drewN ?_ _|refine blk_drew ?_|refine blk_alloc ?_ _));exact BK1753.out) hg (Kd.R_ne HO_3.out BK1753.out (by decide)));have n2_:=Aside0.mk (hb);have n3_:=Aside0.mk (ho);clear BK1748;clear BK1753;clear HB;clear HO_3;have BK1748:=n0_;have BK1753:=n1_;have HB:=n2_;have HO1756:=n3_;clear n0_ n1_ n2_ n3_;clear ho hb hg hat))
       go_roundg k1
       case measure=>have:=HK1.out;omega
       case rel=>exact⟨(y1754),(wrap64 (x12_1+1)),(by first|rfl|(simp;done)|(simp [*];done)),H',⟨by have:=HK1.out;omega⟩,⟨by(with_reducible repeat(first|apply Kd.R_alloc|apply Kd.R_drewN|apply Kd.R_drew));exact HO1756.out⟩,⟨by(with_reducible repeat(first|refine blk_drewN ?_ _|refine blk_drew ?_|refine blk_alloc ?_ _));exact BK1748.out⟩,⟨by repeat(first|(with_reducible first|exact HB.out|apply below_alloc|apply pw_below_drewN|apply below_drew1|refine below_set ?_ GE1748.out|refine below_set ?_ GE1753.out)|exact HB.out)⟩⟩
      ·rw [if_neg c10]at H
       exact absurd H (by simp)
     ·rw [if_neg c9]at H
      exact absurd H (by simp)
    ·rw [if_neg c8]at H
     exact absurd H (by simp)
   ·rw [if_neg c7]at H
    have c7b0:decide (x12_1 <(l0_3.length:Int))=false:=decide_eq_false c7
    clear c7
    obtain rfl:=Option.some.inj H
    go_wp2
    go_ret
    exact⟨_,by first|rfl|(simp [errW_none,errW_some]<;>rfl)|(simp [*,errW_none,errW_some]<;>rfl),by(with_reducible repeat(first|apply Kd.R_alloc|apply Kd.R_drewN|apply Kd.R_drew));exact HO_3.out,by repeat(first|(with_reducible first|exact HB.out|apply below_alloc|apply pw_below_drewN|apply below_drew1|refine below_set ?_ GE1748.out)|exact HB.out)⟩
end Go.Proofs.Ytjifalohjlihaaa.Q
end
section
namespace Go.Proofs.Ytjifalohjlihaaa.Q
set_option linter.unusedVariables false
open Go.RowKit Go.Proofs.YtjifalohjlihaaaW.PrintWords Go.Proofs.YtjifalohjlihaaaW.PrintLast Go.Proofs.YtjifalohjlihaaaW.PrintMore
def SL.ranges (l:SL):List S56:=l.l1++l.l3.map fun c=>⟨c.f1.f0,c.f1.f1⟩
theorem ranges_from (xs:List S56) (cs:List S126) (hx:xs.length≤1000) (hc:cs.length≤1000) (d:Nat):∀(k:Nat) (i:Int),0≤i→i≤cs.length→(cs.length:Int)-i=d→d < k→
  shelf_Loft_ranges.l0 k (xs++(cs.take i.toNat).map fun c=>⟨c.f1.f0,c.f1.f1⟩) cs cs.length i=some (xs++cs.map fun c=>⟨c.f1.f0,c.f1.f1⟩):=by
 induction d with
 |zero=>
  intro k i h0 h1 hd hk
  obtain⟨k,rfl⟩:∃m,k=m+1:=⟨k-1,by omega⟩
  simp only [shelf_Loft_ranges.l0]
  rw [if_neg (by omega),List.take_of_length_le (by omega)]
 |succ d ih=>
  intro k i h0 h1 hd hk
  obtain⟨k,rfl⟩:∃m,k=m+1:=⟨k-1,by omega⟩
  have hlt:i <(cs.length:Int):=by omega
  have hn:i.toNat < cs.length:=by omega
  have hl:(xs++(cs.take i.toNat).map fun c=>(⟨c.f1.f0,c.f1.f1⟩:S56)).length < 8796093022208:=by
   have:=List.length_take_le i.toNat cs
   simp only [List.length_append,List.length_map,List.length_take];omega
  simp only [shelf_Loft_ranges.l0]
  rw [if_pos hlt,if_pos h0,if_pos hlt,if_pos hl,wrap64_small (by omega) (by omega)]
  have hg:rd_T126 cs i=cs[i.toNat]:=by unfold rd_T126;rw [List.getD_eq_getElem?_getD,List.getElem?_eq_getElem hn];rfl
  have:=ih k (i+1) (by omega) (by omega) (by omega) (by omega)
  rw [show(i+1).toNat=i.toNat+1 by omega,List.take_succ_eq_append_getElem hn,List.map_append,←List.append_assoc]at this
  rw [hg]
  exact this
theorem ranges_some (l:SL) (h1:l.l1.length≤1000) (h3:l.l3.length≤1000):shelf_Loft_ranges.f (l.l3.length+1) l.a0 l.l1 l.l2 l.l3 l.l4 l.l5=some l.ranges:=by
 unfold shelf_Loft_ranges.f slices_Clone_Range.f
 rw [if_pos (by omega),Option.bind_some]
 have:=ranges_from l.l1 l.l3 h1 h3 l.l3.length (l.l3.length+1) 0 (by omega) (by omega) (by omega) (by omega)
 simp only [Int.toNat_zero,List.take_zero,List.map_nil,List.append_nil]at this
 exact this
theorem L_ranges.call (x:SA) (l:SL) (w:World) (hr:Rd w x l) (h1:l.l1.length≤1000) (h3:l.l3.length≤1000):
  Calls Try.prog 105 #[.agg (x.cells l)] w fun e w'=>∃v0_:Value,e= .returned v0_∧Kd.R k56 56 w' w.heap.size (fun _=>True) v0_ l.ranges∧Below w.heap.size w w':=
 shelf_Loft_ranges.calls _ l.a0 x.A1 x.c1 l.l1 x.A2 x.c2 l.l2 x.A3 x.c3 l.l3 x.A4 x.c4 l.l4 x.A5 x.c5 l.l5 l.ranges w hr.r1 hr.h1 hr.r2 hr.h2 hr.r3 hr.h3 hr.r4 hr.h4 hr.r5 hr.h5 (ranges_some l h1 h3)
theorem min2_some (a b:Int):shelf_minimum.f 3 [a,b]=some (mn a b):=by
 unfold shelf_minimum.f slices_Min_int_int.f
 simp only [List.length_cons,List.length_nil]
 rw [if_neg (by omega),if_pos (by omega)]
 simp only [slices_Min_int_int.l0,List.length_cons,List.length_nil]
 rw [if_pos (by omega),if_pos (by omega),wrap64_small (by omega) (by omega),if_neg (by omega)]
 rfl
theorem size_some (lo hi:Int) (h0:0≤lo) (h1:lo≤hi) (h2:hi≤40):shelf_Range_size.f lo hi=some (hi-lo+1):=by
 unfold shelf_Range_size.f
 rw [wrap64_small (i:=hi-lo) (by omega) (by omega),wrap64_small (by omega) (by omega)]
def okRange (most:Int) (r:S56):Bool:=decide (0≤r.f0∧r.f0≤r.f1∧r.f1≤most)
def okBoard (b:S135):Bool:=decide (0≤b.f0∧b.f0≤5∧0≤b.f1∧b.f1≤4)
def SL.okCake (l:SL) (c:S126):Bool:=decide (0≤c.f0∧c.f0≤l.a0∧(0≤c.f1.f0∧c.f1.f0≤c.f1.f1∧c.f1.f1≤40)∧1≤c.f2∧c.f2≤6)
def SL.okWeight (l:SL) (v:S137):Bool:=decide (0≤v.f0∧v.f0 < l.l3.length∧(rd_T126 l.l3 v.f0).f0≤v.f1∧v.f1≤l.a0∧0≤v.f2.f0∧v.f2.f0≤v.f2.f1∧v.f2.f1≤40)
theorem upTo_some (lo hi most:Int):shelf_Range_upTo.f lo hi most=some (decide (0≤lo∧lo≤hi∧hi≤most)):=by
 unfold shelf_Range_upTo.f
 by_cases h:0≤lo<;>by_cases h2:lo≤hi<;>simp [h,h2]
theorem air_some (r:S56):shelf_air.f r.f0 r.f1=some (okRange 9 r):=by
 unfold shelf_air.f okRange;rw [upTo_some];rfl
theorem board_some (b:S135):shelf_Board_valid.f b.f0 b.f1=some (okBoard b):=by
 unfold shelf_Board_valid.f okBoard
 simp only [within_some,Option.bind_some]
 by_cases h:0≤b.f0∧b.f0≤5
 ·simp [h]
 ·rw [if_neg (by simpa using h)]
  exact congrArg some (decide_eq_false (fun hh=>h ⟨hh.1,hh.2.1⟩)).symm
def manyOf:List S56→Int→Int
 | [],m=>m
 |r::t,m=>manyOf t (mn (m*(r.f1-r.f0+1)) 2001)
def SL.fault (l:SL):Int:=
 if l.a0 > 5∨l.l2.length > 3∨l.l3.length > 5∨l.l5.length > 5 then 3
 else if l.a0 < 0∨(l.l1.length:Int)≠l.a0+1∨allB (okRange 9) l.l1=false∨allB okBoard l.l2=false then 1
 else if allB l.okCake l.l3=false∨¬l.isPlace l.l4∨allB l.okWeight l.l5=false then 1
 else if manyOf l.ranges 1 > 2000 then 3 else 0
end Go.Proofs.Ytjifalohjlihaaa.Q
end
section
namespace Go.Proofs.Ytjifalohjlihaaa.Q
set_option linter.unusedVariables false
open Go.BigFrame Go.RowKit Go.Shelf Go.Proofs.YtjifalohjlihaaaW.PrintWords Go.Proofs.YtjifalohjlihaaaW.PrintLast Go.Proofs.YtjifalohjlihaaaW.PrintMore
def SL.is (l:SL) (cake:Int):Bool:=decide (0≤cake∧cake < l.l3.length)
def SL.day (l:SL) (cake day:Int):Bool:=decide ((0≤cake∧cake < l.l3.length)∧(rd_T126 l.l3 cake).f0≤day∧day≤l.a0)
theorem is_some (l:SL) (cake:Int) (h:l.l3.length≤1000):shelf_Loft_is.f l.a0 l.l1 l.l2 l.l3 l.l4 l.l5 cake=some (l.is cake):=by
 have hw:wrap64 ((l.l3.length:Int)-1)=l.l3.length-1:=by unfold wrap64;omega
 unfold shelf_Loft_is.f SL.is
 rw [within_some,hw]
 exact congrArg some (decide_eq_decide.2 (by omega))
theorem is_call (x:SA) (l:SL) (cake:Int) (w:World) (hr:Rd w x l) (h:l.l3.length≤1000):Calls Try.prog 75 #[.agg (x.cells l),.int .i64 cake] w fun e w'=>e= .returned (.bool (l.is cake))∧Below w.heap.size w w':=
 shelf_Loft_is.calls l.a0 x.A1 x.c1 l.l1 x.A2 x.c2 l.l2 x.A3 x.c3 l.l3 x.A4 x.c4 l.l4 x.A5 x.c5 l.l5 cake _ w hr.r1 hr.h1 hr.r2 hr.h2 hr.r3 hr.h3 hr.r4 hr.h4 hr.r5 hr.h5 (is_some l cake h)
theorem within_call (n lo hi:Int) (w:World):Calls Try.prog 113 #[.int .i64 n,.int .i64 lo,.int .i64 hi] w fun e w'=>e= .returned (.bool (decide (lo≤n∧n≤hi)))∧Below w.heap.size w w':=
 (shelf_within.calls n lo hi _ w (within_some n lo hi)).mono (fun e w' hh=>⟨hh.1,by obtain⟨nd,rfl⟩:=hh.2;exact pw_below_drewN (Below.refl _ _) nd⟩)
set_option maxRecDepth 100000 in
set_option maxHeartbeats 6400000 in
theorem day_call (x : SA) (l : SL) (cake day : Int) (w : World) (hr : Rd w x l) (h3 : l.l3.length ≤ 1000) : Calls Try.prog 79 #[.agg (x.cells l), .int .i64 cake, .int .i64 day] w fun e w' => e = .returned (.bool (l.day cake day)) ∧ Below w.heap.size w w' := by
  obtain ⟨A1, c1, A2, c2, A3, c3, A4, c4, A5, c5⟩ := x
  have HB := Aside0.mk (Below.refl w.heap.size w)
  have HR := Aside0.mk hr
  obtain ⟨d, hd⟩ : ∃ d, d = l.day cake day := ⟨_, rfl⟩
  have HV := Aside0.mk hd
  obtain ⟨b, hb⟩ : ∃ b, b = l.is cake := ⟨_, rfl⟩
  have HBI := Aside0.mk hb
  rw [← hd]
  cases b with
  | false =>
    obtain rfl : d = false := by rw [hd]; exact decide_eq_false (fun h => of_decide_eq_false hb.symm h.1)
    clear hr hd hb
    go_enter Try.func79, Try.ntmps79
    go_upto_region 1 with (first | ((with_reducible refine gate_dst (N := 3) rfl ?_); refine box_event ?hg (N := 3) ?hd (cs := #[.int .i64 l.a0, .slice A1 l.l1.length c1, .slice A2 l.l2.length c2, .slice A3 l.l3.length c3, .slice A4 l.l4.length c4, .slice A5 l.l5.length c5]) (t := 39) ?hr ?_; (case hd => rfl); (case hg => rfl); (case hr => first | (go_simp; done) | (go_simp; rfl)); intro g1 hg_ w1 hbx_ hb_; have BK1 := Aside0.mk hbx_; have g1ge : w.heap.size ≤ g1 := (by have := below_size HB.out; omega); have g1GE := Aside0.mk g1ge; clear g1ge; have HBn := Aside0.mk (below_step HB.out hb_); clear HB hg_ hb_ hbx_; have HB := HBn; clear HBn; have f0 : w1.cell? ⟨g1, 0, none⟩ = some (.int .i64 l.a0) := (blk_cell BK1.out 0).trans rfl; have f1 : w1.cell? ⟨g1, 1, none⟩ = some (.slice A1 l.l1.length c1) := (blk_cell BK1.out 1).trans rfl; have f2 : w1.cell? ⟨g1, 2, none⟩ = some (.slice A2 l.l2.length c2) := (blk_cell BK1.out 2).trans rfl; have f3 : w1.cell? ⟨g1, 3, none⟩ = some (.slice A3 l.l3.length c3) := (blk_cell BK1.out 3).trans rfl; have f4 : w1.cell? ⟨g1, 4, none⟩ = some (.slice A4 l.l4.length c4) := (blk_cell BK1.out 4).trans rfl; have f5 : w1.cell? ⟨g1, 5, none⟩ = some (.slice A5 l.l5.length c5) := (blk_cell BK1.out 5).trans rfl))
    clear f0 f1 f2 f3 f4 f5
    have hbd := below_drew1 (Below.refl w1.heap.size w1)
    refine wp_open 15 _ (fun v => { tmps := #[.agg (SA.cells ⟨A1, c1, A2, c2, A3, c3, A4, c4, A5, c5⟩ l), .int .i64 cake, .int .i64 day, .pointer (some ⟨g1, 0, none⟩), undef, undef, .bool false, v 0, v 1, v 2, v 3, v 4, v 5, v 6, v 7, v 8, v 9, v 10, v 11, v 12, v 13, v 14], defers := [] }) (fun _ => undef) (fun j x X => match j with
        | 0 => x = .agg (SA.cells ⟨A1, c1, A2, c2, A3, c3, A4, c4, A5, c5⟩ l)
        | 1 => x = .int .i64 cake
        | 2 => x = .bool false
        | 3 => x = .bool false
        | 4 => x = undef
        | 5 => x = undef
        | 6 => x = undef
        | 7 => x = undef
        | 8 => x = undef
        | 9 => x = undef
        | 10 => x = undef
        | 11 => x = undef
        | 12 => x = undef
        | 13 => x = undef
        | 14 => x = .bool false
        | _ => True) (fun X => Below w1.drew.heap.size w1.drew X) (by kernel_rfl) rfl rfl (by kernel_rfl) rfl (Below.refl _ _) ?_ ?_ ?_
    · intro j hj x X W' hb h
      obtain hlt | hge := Nat.lt_or_ge j 10
      · obtain rfl | rfl | rfl | rfl | rfl | rfl | rfl | rfl | rfl | rfl : j = 0 ∨ j = 1 ∨ j = 2 ∨ j = 3 ∨ j = 4 ∨ j = 5 ∨ j = 6 ∨ j = 7 ∨ j = 8 ∨ j = 9 := by omega
        all_goals first | exact h
      obtain rfl | rfl | rfl | rfl | rfl : j = 10 ∨ j = 11 ∨ j = 12 ∨ j = 13 ∨ j = 14 := by omega
      all_goals first | exact h
    · intro i hi
      obtain hlt | hge := Nat.lt_or_ge i 10
      · obtain rfl | rfl | rfl | rfl | rfl | rfl | rfl | rfl | rfl | rfl : i = 0 ∨ i = 1 ∨ i = 2 ∨ i = 3 ∨ i = 4 ∨ i = 5 ∨ i = 6 ∨ i = 7 ∨ i = 8 ∨ i = 9 := by omega
        · intro v X hB hj K hK
          have f0 : X.cell? ⟨g1, 0, none⟩ = some (.int .i64 l.a0) := (blk_cell (blk_below BK1.out (below_step hbd hB)) 0).trans rfl
          have f1 : X.cell? ⟨g1, 1, none⟩ = some (.slice A1 l.l1.length c1) := (blk_cell (blk_below BK1.out (below_step hbd hB)) 1).trans rfl
          have f2 : X.cell? ⟨g1, 2, none⟩ = some (.slice A2 l.l2.length c2) := (blk_cell (blk_below BK1.out (below_step hbd hB)) 2).trans rfl
          have f3 : X.cell? ⟨g1, 3, none⟩ = some (.slice A3 l.l3.length c3) := (blk_cell (blk_below BK1.out (below_step hbd hB)) 3).trans rfl
          have f4 : X.cell? ⟨g1, 4, none⟩ = some (.slice A4 l.l4.length c4) := (blk_cell (blk_below BK1.out (below_step hbd hB)) 4).trans rfl
          have f5 : X.cell? ⟨g1, 5, none⟩ = some (.slice A5 l.l5.length c5) := (blk_cell (blk_below BK1.out (below_step hbd hB)) 5).trans rfl
          refine wpOp_step (i := 0) (by rfl) (fun K' hK' => ?_)
          refine value_ (w1 := ?_) (v := ?_) (by rfl) rfl ?_ ?_
          rotate_left 2
          · go_simp
            constructor
            · rfl
            · rfl
          exact hK' _ _ (hK _ _ rfl hB (Below.refl _ _))
        · intro v X hB hj K hK
          refine wpOp_step (i := 1) (by rfl) (fun K' hK' => ?_)
          refine value_ (w1 := ?_) (v := ?_) (by rfl) rfl ?_ ?_
          rotate_left 2
          · go_simp
            constructor
            · rfl
            · rfl
          exact hK' _ _ (hK _ _ rfl hB (Below.refl _ _))
        · intro v X hB hj K hK
          have h0 : v 0 = .agg (SA.cells ⟨A1, c1, A2, c2, A3, c3, A4, c4, A5, c5⟩ l) := hj 0 (needs_mem (by kernel_rfl))
          have h1 : v 1 = .int .i64 cake := hj 1 (needs_mem (by kernel_rfl))
          refine wpOp_step (i := 2) (by rfl) (fun K' hK' => ?_)
          refine goes_ Try.func75 (by kernel_rfl) rfl #[.agg (SA.cells ⟨A1, c1, A2, c2, A3, c3, A4, c4, A5, c5⟩ l), .int .i64 cake] (by rfl) rfl rfl (by simp only [List.map_toArray, List.map_cons, List.map_nil]; show #[v 0, v 1] = _; rw [h0, h1]) ?_
          refine (is_call ⟨A1, c1, A2, c2, A3, c3, A4, c4, A5, c5⟩ l cake X (Rd.below HR.out (below_step HB.out (below_step hbd hB))) h3).mono ?_
          rw [← HBI.out]
          rintro e w' ⟨rfl, hb⟩
          exact ⟨_, rfl, hK' _ _ (hK _ _ rfl (below_step hB hb) hb)⟩
        · intro v X hB hj K hK
          have h2 : v 2 = .bool false := hj 2 (needs_mem (by kernel_rfl))
          refine wpOp_step (i := 3) (by rfl) (fun K' hK' => ?_)
          refine value_ (w1 := ?_) (v := ?_) (by rfl) rfl ?_ ?_
          rotate_left 2
          · go_simp
            constructor
            · rfl
            · rfl
          exact hK' _ _ (hK _ _ rfl hB (Below.refl _ _))
        · intro v X hB hj K hK
          have h3 : v 3 = .bool false := hj 3 (needs_mem (by kernel_rfl))
          refine wpOp_step (i := 4) (by rfl) (fun K' hK' => ?_)
          refine off_ (unwanted_g rfl (yv (x := v 3) h3) (by decide)) ?_
          exact hK' _ _ (hK _ _ rfl hB (Below.refl _ _))
        · intro v X hB hj K hK
          have h3 : v 3 = .bool false := hj 3 (needs_mem (by kernel_rfl))
          refine wpOp_step (i := 5) (by rfl) (fun K' hK' => ?_)
          refine off_ (unwanted_g rfl (yv (x := v 3) h3) (by decide)) ?_
          exact hK' _ _ (hK _ _ rfl hB (Below.refl _ _))
        · intro v X hB hj K hK
          have h3 : v 3 = .bool false := hj 3 (needs_mem (by kernel_rfl))
          refine wpOp_step (i := 6) (by rfl) (fun K' hK' => ?_)
          refine off_ (unwanted_g rfl (yv (x := v 3) h3) (by decide)) ?_
          exact hK' _ _ (hK _ _ rfl hB (Below.refl _ _))
        · intro v X hB hj K hK
          have h3 : v 3 = .bool false := hj 3 (needs_mem (by kernel_rfl))
          refine wpOp_step (i := 7) (by rfl) (fun K' hK' => ?_)
          refine off_ (unwanted_g rfl (yv (x := v 3) h3) (by decide)) ?_
          exact hK' _ _ (hK _ _ rfl hB (Below.refl _ _))
        · intro v X hB hj K hK
          have h3 : v 3 = .bool false := hj 3 (needs_mem (by kernel_rfl))
          refine wpOp_step (i := 8) (by rfl) (fun K' hK' => ?_)
          refine off_ (unwanted_g rfl (yv (x := v 3) h3) (by decide)) ?_
          exact hK' _ _ (hK _ _ rfl hB (Below.refl _ _))
        · intro v X hB hj K hK
          have h3 : v 3 = .bool false := hj 3 (needs_mem (by kernel_rfl))
          refine wpOp_step (i := 9) (by rfl) (fun K' hK' => ?_)
          refine off_ (unwanted_g rfl (yv (x := v 3) h3) (by decide)) ?_
          exact hK' _ _ (hK _ _ rfl hB (Below.refl _ _))
      obtain rfl | rfl | rfl | rfl | rfl : i = 10 ∨ i = 11 ∨ i = 12 ∨ i = 13 ∨ i = 14 := by omega
      · intro v X hB hj K hK
        have h3 : v 3 = .bool false := hj 3 (needs_mem (by kernel_rfl))
        refine wpOp_step (i := 10) (by rfl) (fun K' hK' => ?_)
        refine off_ (unwanted_g rfl (yv (x := v 3) h3) (by decide)) ?_
        exact hK' _ _ (hK _ _ rfl hB (Below.refl _ _))
      · intro v X hB hj K hK
        have h3 : v 3 = .bool false := hj 3 (needs_mem (by kernel_rfl))
        refine wpOp_step (i := 11) (by rfl) (fun K' hK' => ?_)
        refine off_ (unwanted_g rfl (yv (x := v 3) h3) (by decide)) ?_
        exact hK' _ _ (hK _ _ rfl hB (Below.refl _ _))
      · intro v X hB hj K hK
        have h3 : v 3 = .bool false := hj 3 (needs_mem (by kernel_rfl))
        refine wpOp_step (i := 12) (by rfl) (fun K' hK' => ?_)
        refine off_ (unwanted_g rfl (yv (x := v 3) h3) (by decide)) ?_
        exact hK' _ _ (hK _ _ rfl hB (Below.refl _ _))
      · intro v X hB hj K hK
        have h3 : v 3 = .bool false := hj 3 (needs_mem (by kernel_rfl))
        refine wpOp_step (i := 13) (by rfl) (fun K' hK' => ?_)
        refine off_ (unwanted_g rfl (yv (x := v 3) h3) (by decide)) ?_
        exact hK' _ _ (hK _ _ rfl hB (Below.refl _ _))
      · intro v X hB hj K hK
        have h3 : v 3 = .bool false := hj 3 (needs_mem (by kernel_rfl))
        refine wpOp_step (i := 14) (by rfl) (fun K' hK' => ?_)
        refine value_ (w1 := ?_) (v := ?_) (by rfl) rfl ?_ ?_
        rotate_left 2
        · go_simp
          constructor
          · rfl
          · rfl
        exact hK' _ _ (hK _ _ rfl hB (Below.refl _ _))
    · intro v X hB hj K hK
      have h14 : v 14 = .bool false := hj 14 (needs_mem (by kernel_rfl))
      refine wpOp_step (i := 15) (by rfl) (fun K' hK' => ?_)
      refine value_ (w1 := ?_) (v := ?_) (by rfl) rfl ?_ ?_
      rotate_left 2
      · go_simp
        constructor
        · rfl
        · rfl
      refine hK' _ _ (hK _ _ ?_)
      have HBW := Aside0.mk (below_step HB.out (below_step hbd hB))
      show Exit.then _ _ .normal { tmps := #[.agg (SA.cells ⟨A1, c1, A2, c2, A3, c3, A4, c4, A5, c5⟩ l), .int .i64 cake, .int .i64 day, .pointer (some ⟨g1, 0, none⟩), undef, undef, .bool false, v 0, v 1, v 2, v 3, v 4, v 5, v 6, v 7, v 8, v 9, v 10, v 11, v 12, v 13, v 14], defers := [] } (X)
      generalize v 0 = z1_0
      generalize v 1 = z1_1
      generalize v 2 = z1_2
      generalize v 3 = z1_3
      generalize v 4 = z1_4
      generalize v 5 = z1_5
      generalize v 6 = z1_6
      generalize v 7 = z1_7
      generalize v 8 = z1_8
      generalize v 9 = z1_9
      generalize v 10 = z1_10
      generalize v 11 = z1_11
      generalize v 12 = z1_12
      generalize v 13 = z1_13
      generalize v 14 = z1_14
      clear hj hK hK' hB hbd
      go_wp2
      go_ret
      exact ⟨by rw [HV.out]; rfl, HBW.out⟩
  | true =>
    have hc := of_decide_eq_true hb.symm
    obtain ⟨ad, ead, fc, _⟩ := at_T126 hr.r3 cake hc.1 hc.2
    obtain ⟨co, hco⟩ : ∃ co, co = (rd_T126 l.l3 cake).f0 := ⟨_, rfl⟩
    rw [← hco] at fc
    have FC := Aside0.mk fc
    have HDD := Aside0.mk (show d = decide (co ≤ day ∧ day ≤ l.a0) by rw [hd, hco]; exact decide_eq_decide.2 ⟨fun h => h.2, fun h => ⟨hc, h⟩⟩)
    obtain ⟨k0, k1⟩ := hc
    simp only at ead
    subst ead
    clear hr hd hb hco fc
    go_enter Try.func79, Try.ntmps79
    go_upto_region 1 with (first | ((with_reducible refine gate_dst (N := 3) rfl ?_); refine box_event ?hg (N := 3) ?hd (cs := #[.int .i64 l.a0, .slice A1 l.l1.length c1, .slice A2 l.l2.length c2, .slice (some ad) l.l3.length c3, .slice A4 l.l4.length c4, .slice A5 l.l5.length c5]) (t := 39) ?hr ?_; (case hd => rfl); (case hg => rfl); (case hr => first | (go_simp; done) | (go_simp; rfl)); intro g1 hg_ w1 hbx_ hb_; have BK1 := Aside0.mk hbx_; have g1ge : w.heap.size ≤ g1 := (by have := below_size HB.out; omega); have g1GE := Aside0.mk g1ge; clear g1ge; have HBn := Aside0.mk (below_step HB.out hb_); clear HB hg_ hb_ hbx_; have HB := HBn; clear HBn; have f0 : w1.cell? ⟨g1, 0, none⟩ = some (.int .i64 l.a0) := (blk_cell BK1.out 0).trans rfl; have f1 : w1.cell? ⟨g1, 1, none⟩ = some (.slice A1 l.l1.length c1) := (blk_cell BK1.out 1).trans rfl; have f2 : w1.cell? ⟨g1, 2, none⟩ = some (.slice A2 l.l2.length c2) := (blk_cell BK1.out 2).trans rfl; have f3 : w1.cell? ⟨g1, 3, none⟩ = some (.slice (some ad) l.l3.length c3) := (blk_cell BK1.out 3).trans rfl; have f4 : w1.cell? ⟨g1, 4, none⟩ = some (.slice A4 l.l4.length c4) := (blk_cell BK1.out 4).trans rfl; have f5 : w1.cell? ⟨g1, 5, none⟩ = some (.slice A5 l.l5.length c5) := (blk_cell BK1.out 5).trans rfl))
    clear f0 f1 f2 f3 f4 f5
    have hbd := below_drew1 (Below.refl w1.heap.size w1)
    refine wp_open 15 _ (fun v => { tmps := #[.agg (SA.cells ⟨A1, c1, A2, c2, some ad, c3, A4, c4, A5, c5⟩ l), .int .i64 cake, .int .i64 day, .pointer (some ⟨g1, 0, none⟩), undef, undef, .bool false, v 0, v 1, v 2, v 3, v 4, v 5, v 6, v 7, v 8, v 9, v 10, v 11, v 12, v 13, v 14], defers := [] }) (fun _ => undef) (fun j x X => match j with
        | 0 => x = .agg (SA.cells ⟨A1, c1, A2, c2, some ad, c3, A4, c4, A5, c5⟩ l)
        | 1 => x = .int .i64 cake
        | 2 => x = .bool true
        | 3 => x = .bool true
        | 4 => x = .int .i64 day
        | 5 => x = .pointer (some ⟨g1, 3, none⟩)
        | 6 => x = .slice (some ad) l.l3.length c3
        | 7 => x = .int .i64 cake
        | 8 => x = .pointer (some (ad.add (cake.toNat * 4)))
        | 9 => x = .pointer (some (ad.add (cake.toNat * 4)))
        | 10 => x = .int .i64 co
        | 11 => x = .pointer (some ⟨g1, 0, none⟩)
        | 12 => x = .int .i64 l.a0
        | 13 => x = .bool d
        | 14 => x = .bool d
        | _ => True) (fun X => Below w1.drew.heap.size w1.drew X) (by kernel_rfl) rfl rfl (by kernel_rfl) rfl (Below.refl _ _) ?_ ?_ ?_
    · intro j hj x X W' hb h
      obtain hlt | hge := Nat.lt_or_ge j 10
      · obtain rfl | rfl | rfl | rfl | rfl | rfl | rfl | rfl | rfl | rfl : j = 0 ∨ j = 1 ∨ j = 2 ∨ j = 3 ∨ j = 4 ∨ j = 5 ∨ j = 6 ∨ j = 7 ∨ j = 8 ∨ j = 9 := by omega
        all_goals first | exact h
      obtain rfl | rfl | rfl | rfl | rfl : j = 10 ∨ j = 11 ∨ j = 12 ∨ j = 13 ∨ j = 14 := by omega
      all_goals first | exact h
    · intro i hi
      obtain hlt | hge := Nat.lt_or_ge i 10
      · obtain rfl | rfl | rfl | rfl | rfl | rfl | rfl | rfl | rfl | rfl : i = 0 ∨ i = 1 ∨ i = 2 ∨ i = 3 ∨ i = 4 ∨ i = 5 ∨ i = 6 ∨ i = 7 ∨ i = 8 ∨ i = 9 := by omega
        · intro v X hB hj K hK
          have f0 : X.cell? ⟨g1, 0, none⟩ = some (.int .i64 l.a0) := (blk_cell (blk_below BK1.out (below_step hbd hB)) 0).trans rfl
          have f1 : X.cell? ⟨g1, 1, none⟩ = some (.slice A1 l.l1.length c1) := (blk_cell (blk_below BK1.out (below_step hbd hB)) 1).trans rfl
          have f2 : X.cell? ⟨g1, 2, none⟩ = some (.slice A2 l.l2.length c2) := (blk_cell (blk_below BK1.out (below_step hbd hB)) 2).trans rfl
          have f3 : X.cell? ⟨g1, 3, none⟩ = some (.slice (some ad) l.l3.length c3) := (blk_cell (blk_below BK1.out (below_step hbd hB)) 3).trans rfl
          have f4 : X.cell? ⟨g1, 4, none⟩ = some (.slice A4 l.l4.length c4) := (blk_cell (blk_below BK1.out (below_step hbd hB)) 4).trans rfl
          have f5 : X.cell? ⟨g1, 5, none⟩ = some (.slice A5 l.l5.length c5) := (blk_cell (blk_below BK1.out (below_step hbd hB)) 5).trans rfl
          refine wpOp_step (i := 0) (by rfl) (fun K' hK' => ?_)
          refine value_ (w1 := ?_) (v := ?_) (by rfl) rfl ?_ ?_
          rotate_left 2
          · go_simp
            constructor
            · rfl
            · rfl
          exact hK' _ _ (hK _ _ rfl hB (Below.refl _ _))
        · intro v X hB hj K hK
          refine wpOp_step (i := 1) (by rfl) (fun K' hK' => ?_)
          refine value_ (w1 := ?_) (v := ?_) (by rfl) rfl ?_ ?_
          rotate_left 2
          · go_simp
            constructor
            · rfl
            · rfl
          exact hK' _ _ (hK _ _ rfl hB (Below.refl _ _))
        · intro v X hB hj K hK
          have h0 : v 0 = .agg (SA.cells ⟨A1, c1, A2, c2, some ad, c3, A4, c4, A5, c5⟩ l) := hj 0 (needs_mem (by kernel_rfl))
          have h1 : v 1 = .int .i64 cake := hj 1 (needs_mem (by kernel_rfl))
          refine wpOp_step (i := 2) (by rfl) (fun K' hK' => ?_)
          refine goes_ Try.func75 (by kernel_rfl) rfl #[.agg (SA.cells ⟨A1, c1, A2, c2, some ad, c3, A4, c4, A5, c5⟩ l), .int .i64 cake] (by rfl) rfl rfl (by simp only [List.map_toArray, List.map_cons, List.map_nil]; show #[v 0, v 1] = _; rw [h0, h1]) ?_
          refine (is_call ⟨A1, c1, A2, c2, some ad, c3, A4, c4, A5, c5⟩ l cake X (Rd.below HR.out (below_step HB.out (below_step hbd hB))) h3).mono ?_
          rw [← HBI.out]
          rintro e w' ⟨rfl, hb⟩
          exact ⟨_, rfl, hK' _ _ (hK _ _ rfl (below_step hB hb) hb)⟩
        · intro v X hB hj K hK
          have h2 : v 2 = .bool true := hj 2 (needs_mem (by kernel_rfl))
          refine wpOp_step (i := 3) (by rfl) (fun K' hK' => ?_)
          refine value_ (w1 := ?_) (v := ?_) (by rfl) rfl ?_ ?_
          rotate_left 2
          · go_simp
            constructor
            · rfl
            · rfl
          exact hK' _ _ (hK _ _ rfl hB (Below.refl _ _))
        · intro v X hB hj K hK
          have h3 : v 3 = .bool true := hj 3 (needs_mem (by kernel_rfl))
          refine wpOp_step (i := 4) (by rfl) (fun K' hK' => ?_)
          refine value_ (w1 := ?_) (v := ?_) (wanted_g rfl (yv (x := v 3) h3)) rfl ?_ ?_
          rotate_left 2
          · go_simp
            constructor
            · rfl
            · rfl
          exact hK' _ _ (hK _ _ rfl hB (Below.refl _ _))
        · intro v X hB hj K hK
          have h3 : v 3 = .bool true := hj 3 (needs_mem (by kernel_rfl))
          refine wpOp_step (i := 5) (by rfl) (fun K' hK' => ?_)
          refine value_ (w1 := ?_) (v := ?_) (wanted_g rfl (yv (x := v 3) h3)) rfl ?_ ?_
          rotate_left 2
          · go_simp
            constructor
            · rfl
            · rfl
          exact hK' _ _ (hK _ _ rfl hB (Below.refl _ _))
        · intro v X hB hj K hK
          have h3 : v 3 = .bool true := hj 3 (needs_mem (by kernel_rfl))
          have h5 : v 5 = .pointer (some ⟨g1, 3, none⟩) := hj 5 (needs_mem (by kernel_rfl))
          have f3 : X.cell? ⟨g1, 3, none⟩ = some (.slice (some ad) l.l3.length c3) := (blk_cell (blk_below BK1.out (below_step hbd hB)) 3).trans rfl
          refine wpOp_step (i := 6) (by rfl) (fun K' hK' => ?_)
          refine value_ (w1 := ?_) (v := ?_) (wanted_g rfl (yv (x := v 3) h3)) rfl ?_ ?_
          rotate_left 2
          · go_simp
            constructor
            · rfl
            · rfl
          exact hK' _ _ (hK _ _ rfl hB (Below.refl _ _))
        · intro v X hB hj K hK
          have h3 : v 3 = .bool true := hj 3 (needs_mem (by kernel_rfl))
          refine wpOp_step (i := 7) (by rfl) (fun K' hK' => ?_)
          refine value_ (w1 := ?_) (v := ?_) (wanted_g rfl (yv (x := v 3) h3)) rfl ?_ ?_
          rotate_left 2
          · go_simp
            constructor
            · rfl
            · rfl
          exact hK' _ _ (hK _ _ rfl hB (Below.refl _ _))
        · intro v X hB hj K hK
          have h3 : v 3 = .bool true := hj 3 (needs_mem (by kernel_rfl))
          have h6 : v 6 = .slice (some ad) l.l3.length c3 := hj 6 (needs_mem (by kernel_rfl))
          have h7 : v 7 = .int .i64 cake := hj 7 (needs_mem (by kernel_rfl))
          refine wpOp_step (i := 8) (by rfl) (fun K' hK' => ?_)
          refine value_ (w1 := ?_) (v := ?_) (wanted_g rfl (yv (x := v 3) h3)) rfl ?_ ?_
          rotate_left 2
          · go_simp
            constructor
            · rfl
            · rfl
          exact hK' _ _ (hK _ _ rfl hB (Below.refl _ _))
        · intro v X hB hj K hK
          have h3 : v 3 = .bool true := hj 3 (needs_mem (by kernel_rfl))
          have h8 : v 8 = .pointer (some (ad.add (cake.toNat * 4))) := hj 8 (needs_mem (by kernel_rfl))
          refine wpOp_step (i := 9) (by rfl) (fun K' hK' => ?_)
          refine value_ (w1 := ?_) (v := ?_) (wanted_g rfl (yv (x := v 3) h3)) rfl ?_ ?_
          rotate_left 2
          · go_simp
            constructor
            · rfl
            · rfl
          exact hK' _ _ (hK _ _ rfl hB (Below.refl _ _))
      obtain rfl | rfl | rfl | rfl | rfl : i = 10 ∨ i = 11 ∨ i = 12 ∨ i = 13 ∨ i = 14 := by omega
      · intro v X hB hj K hK
        have h3 : v 3 = .bool true := hj 3 (needs_mem (by kernel_rfl))
        have h9 : v 9 = .pointer (some (ad.add (cake.toNat * 4))) := hj 9 (needs_mem (by kernel_rfl))
        have fc : X.cell? (ad.add (cake.toNat * 4)) = some (.int .i64 co) := ((below_step HB.out (below_step hbd hB)).cell (World.block_lt_of_cell? w _ FC.out)).trans FC.out
        refine wpOp_step (i := 10) (by rfl) (fun K' hK' => ?_)
        refine value_ (w1 := ?_) (v := ?_) (wanted_g rfl (yv (x := v 3) h3)) rfl ?_ ?_
        rotate_left 2
        · go_simp
          constructor
          · rfl
          · rfl
        exact hK' _ _ (hK _ _ rfl hB (Below.refl _ _))
      · intro v X hB hj K hK
        have h3 : v 3 = .bool true := hj 3 (needs_mem (by kernel_rfl))
        refine wpOp_step (i := 11) (by rfl) (fun K' hK' => ?_)
        refine value_ (w1 := ?_) (v := ?_) (wanted_g rfl (yv (x := v 3) h3)) rfl ?_ ?_
        rotate_left 2
        · go_simp
          constructor
          · rfl
          · rfl
        exact hK' _ _ (hK _ _ rfl hB (Below.refl _ _))
      · intro v X hB hj K hK
        have h3 : v 3 = .bool true := hj 3 (needs_mem (by kernel_rfl))
        have h11 : v 11 = .pointer (some ⟨g1, 0, none⟩) := hj 11 (needs_mem (by kernel_rfl))
        have f0 : X.cell? ⟨g1, 0, none⟩ = some (.int .i64 l.a0) := (blk_cell (blk_below BK1.out (below_step hbd hB)) 0).trans rfl
        refine wpOp_step (i := 12) (by rfl) (fun K' hK' => ?_)
        refine value_ (w1 := ?_) (v := ?_) (wanted_g rfl (yv (x := v 3) h3)) rfl ?_ ?_
        rotate_left 2
        · go_simp
          constructor
          · rfl
          · rfl
        exact hK' _ _ (hK _ _ rfl hB (Below.refl _ _))
      · intro v X hB hj K hK
        have h3 : v 3 = .bool true := hj 3 (needs_mem (by kernel_rfl))
        have h4 : v 4 = .int .i64 day := hj 4 (needs_mem (by kernel_rfl))
        have h10 : v 10 = .int .i64 co := hj 10 (needs_mem (by kernel_rfl))
        have h12 : v 12 = .int .i64 l.a0 := hj 12 (needs_mem (by kernel_rfl))
        refine wpOp_step (i := 13) (by rfl) (fun K' hK' => ?_)
        refine goes_ Try.func113 (by kernel_rfl) rfl #[.int .i64 day, .int .i64 co, .int .i64 l.a0] (wanted_g rfl (yv (x := v 3) h3)) rfl rfl (by simp only [List.map_toArray, List.map_cons, List.map_nil]; show #[v 4, v 10, v 12] = _; rw [h4, h10, h12]) ?_
        refine (within_call day co l.a0 X).mono ?_
        rw [← HDD.out]
        rintro e w' ⟨rfl, hb⟩
        exact ⟨_, rfl, hK' _ _ (hK _ _ rfl (below_step hB hb) hb)⟩
      · intro v X hB hj K hK
        have h3 : v 3 = .bool true := hj 3 (needs_mem (by kernel_rfl))
        have h13 : v 13 = .bool d := hj 13 (needs_mem (by kernel_rfl))
        refine wpOp_step (i := 14) (by rfl) (fun K' hK' => ?_)
        refine value_ (w1 := ?_) (v := ?_) (by rfl) rfl ?_ ?_
        rotate_left 2
        · go_simp
          constructor
          · rfl
          · rfl
        exact hK' _ _ (hK _ _ rfl hB (Below.refl _ _))
    · intro v X hB hj K hK
      have h14 : v 14 = .bool d := hj 14 (needs_mem (by kernel_rfl))
      refine wpOp_step (i := 15) (by rfl) (fun K' hK' => ?_)
      refine value_ (w1 := ?_) (v := ?_) (by rfl) rfl ?_ ?_
      rotate_left 2
      · go_simp
        constructor
        · rfl
        · rfl
      refine hK' _ _ (hK _ _ ?_)
      have HBW := Aside0.mk (below_step HB.out (below_step hbd hB))
      show Exit.then _ _ .normal { tmps := #[.agg (SA.cells ⟨A1, c1, A2, c2, some ad, c3, A4, c4, A5, c5⟩ l), .int .i64 cake, .int .i64 day, .pointer (some ⟨g1, 0, none⟩), undef, undef, .bool d, v 0, v 1, v 2, v 3, v 4, v 5, v 6, v 7, v 8, v 9, v 10, v 11, v 12, v 13, v 14], defers := [] } (X)
      generalize v 0 = z1_0
      generalize v 1 = z1_1
      generalize v 2 = z1_2
      generalize v 3 = z1_3
      generalize v 4 = z1_4
      generalize v 5 = z1_5
      generalize v 6 = z1_6
      generalize v 7 = z1_7
      generalize v 8 = z1_8
      generalize v 9 = z1_9
      generalize v 10 = z1_10
      generalize v 11 = z1_11
      generalize v 12 = z1_12
      generalize v 13 = z1_13
      generalize v 14 = z1_14
      clear hj hK hK' hB hbd
      go_wp2
      go_ret
      exact ⟨by rw [HV.out]; rfl, HBW.out⟩
theorem upTo_call (lo hi most:Int) (w:World):Calls Try.prog 121 #[.agg #[.int .i64 lo,.int .i64 hi],.int .i64 most] w fun e w'=>e= .returned (.bool (decide (0≤lo∧lo≤hi∧hi≤most)))∧Below w.heap.size w w':=shelf_Range_upTo.calls lo hi most _ w (upTo_some lo hi most)
set_option maxRecDepth 100000 in
set_option maxHeartbeats 6400000 in
theorem pass_Cake (x:SA) (l:SL) (w:World) (hr:Rd w x l) (c:S126):Calls Try.prog 97 #[.agg (x.cells l),.agg #[.int .i64 c.f0,.int .i64 c.f1.f0,.int .i64 c.f1.f1,.int .i64 c.f2]] w fun e w'=>e= .returned (.bool (l.okCake c))∧Below w.heap.size w w':=by
 obtain⟨A1,c1,A2,c2,A3,c3,A4,c4,A5,c5⟩:=x
 have HB:=Aside0.mk (Below.refl w.heap.size w)
 obtain⟨a,⟨lo,hi2⟩,kp⟩:=c
 obtain⟨d,hd⟩:∃d,d=l.okCake ⟨a,⟨lo,hi2⟩,kp⟩:=⟨_,rfl⟩
 rw [←hd]
 obtain⟨b1,h1⟩:∃b,b=decide (0≤a∧a≤l.a0):=⟨_,rfl⟩
 obtain⟨b2,h2⟩:∃b,b=decide (0≤lo∧lo≤hi2∧hi2≤40):=⟨_,rfl⟩
 obtain⟨b3,h3⟩:∃b,b=decide (1≤kp∧kp≤6):=⟨_,rfl⟩
 have HV:=Aside0.mk (show d=(b1&&(b2&&b3))by
  rw [hd,h1,h2,h3]
  unfold SL.okCake
  rw [←Bool.decide_and,←Bool.decide_and]
  exact decide_eq_decide.2 ⟨fun h=>⟨⟨h.1,h.2.1⟩,h.2.2.1,h.2.2.2⟩,fun h=>⟨h.1.1,h.1.2,h.2.1,h.2.2⟩⟩)
 have H1:=Aside0.mk h1
 have H2:=Aside0.mk h2
 have H3:=Aside0.mk h3
 clear hr hd h1 h2 h3
 go_enter Try.func97,Try.ntmps97
 go_upto_region 1 with(first|((with_reducible refine gate_dst (N:=2) rfl ?_);refine box_event ?hg (N:=2) ?hd (cs:=#[.int .i64 l.a0,.slice A1 l.l1.length c1,.slice A2 l.l2.length c2,.slice A3 l.l3.length c3,.slice A4 l.l4.length c4,.slice A5 l.l5.length c5]) (t:=39) ?hr ?_;(case hd=>rfl);(case hg=>rfl);(case hr=>first|(go_simp;done)|(go_simp;rfl));intro g1 hg_ w1 hbx_ hb_;have BK1:=Aside0.mk hbx_;have g1ge:w.heap.size≤g1:=(by have:=below_size HB.out;omega);have g1GE:=Aside0.mk g1ge;clear g1ge;have HBn:=Aside0.mk (below_step HB.out hb_);clear HB hg_ hb_ hbx_;have HB:=HBn;clear HBn)|((with_reducible refine gate_dst (N:=3) rfl ?_);refine box_event ?hg (N:=3) ?hd (cs:=#[.int .i64 a,.int .i64 lo,.int .i64 hi2,.int .i64 kp]) (t:=126) ?hr ?_;(case hd=>rfl);(case hg=>rfl);(case hr=>first|(go_simp;done)|(go_simp;rfl));intro g2 hg_ w2 hbx_ hb_;have BK2:=Aside0.mk hbx_;have g2ge:w.heap.size≤g2:=(by have:=below_size HB.out;omega);have g2GE:=Aside0.mk g2ge;clear g2ge;have HBn:=Aside0.mk (below_step HB.out hb_);have z_:=Aside0.mk (blk_below BK1.out hb_);clear BK1;have BK1:=z_;clear z_;clear HB hg_ hb_ hbx_;have HB:=HBn;clear HBn;have f0:w2.cell? ⟨g1,0,none⟩=some (.int .i64 l.a0):=(blk_cell BK1.out 0).trans rfl;have f1:w2.cell? ⟨g1,1,none⟩=some (.slice A1 l.l1.length c1):=(blk_cell BK1.out 1).trans rfl;have f2:w2.cell? ⟨g1,2,none⟩=some (.slice A2 l.l2.length c2):=(blk_cell BK1.out 2).trans rfl;have f3:w2.cell? ⟨g1,3,none⟩=some (.slice A3 l.l3.length c3):=(blk_cell BK1.out 3).trans rfl;have f4:w2.cell? ⟨g1,4,none⟩=some (.slice A4 l.l4.length c4):=(blk_cell BK1.out 4).trans rfl;have f5:w2.cell? ⟨g1,5,none⟩=some (.slice A5 l.l5.length c5):=(blk_cell BK1.out 5).trans rfl;have e0:w2.cell? ⟨g2,0,none⟩=some (.int .i64 a):=(blk_cell BK2.out 0).trans rfl;have e1:w2.cell? ⟨g2,1,none⟩=some (.int .i64 lo):=(blk_cell BK2.out 1).trans rfl;have e2:w2.cell? ⟨g2,2,none⟩=some (.int .i64 hi2):=(blk_cell BK2.out 2).trans rfl;have e3:w2.cell? ⟨g2,3,none⟩=some (.int .i64 kp):=(blk_cell BK2.out 3).trans rfl))
 cases b1 with
 |false=>
  go_wp2_with (first|(go_at_call 113;(with_reducible refine(within_call a 0 l.a0 _).mono ?_);rw [←H1.out];clear f0 f1 f2 f3 f4 f5 e0 e1 e2 e3;rintro e wa ⟨rfl,hb⟩;replace BK1:=Aside0.mk (blk_below BK1.out hb);replace BK2:=Aside0.mk (blk_below BK2.out hb);replace HB:=Aside0.mk (below_step HB.out hb);clear hb;have f0:wa.cell? ⟨g1,0,none⟩=some (.int .i64 l.a0):=(blk_cell BK1.out 0).trans rfl;have f1:wa.cell? ⟨g1,1,none⟩=some (.slice A1 l.l1.length c1):=(blk_cell BK1.out 1).trans rfl;have f2:wa.cell? ⟨g1,2,none⟩=some (.slice A2 l.l2.length c2):=(blk_cell BK1.out 2).trans rfl;have f3:wa.cell? ⟨g1,3,none⟩=some (.slice A3 l.l3.length c3):=(blk_cell BK1.out 3).trans rfl;have f4:wa.cell? ⟨g1,4,none⟩=some (.slice A4 l.l4.length c4):=(blk_cell BK1.out 4).trans rfl;have f5:wa.cell? ⟨g1,5,none⟩=some (.slice A5 l.l5.length c5):=(blk_cell BK1.out 5).trans rfl;have e0:wa.cell? ⟨g2,0,none⟩=some (.int .i64 a):=(blk_cell BK2.out 0).trans rfl;have e1:wa.cell? ⟨g2,1,none⟩=some (.int .i64 lo):=(blk_cell BK2.out 1).trans rfl;have e2:wa.cell? ⟨g2,2,none⟩=some (.int .i64 hi2):=(blk_cell BK2.out 2).trans rfl;have e3:wa.cell? ⟨g2,3,none⟩=some (.int .i64 kp):=(blk_cell BK2.out 3).trans rfl))
  go_ret
  exact⟨by rw [HV.out];rfl,HB.out⟩
 |true=>
  cases b2 with
  |false=>
   go_wp2_with (first|(go_at_call 113;(with_reducible refine(within_call a 0 l.a0 _).mono ?_);rw [←H1.out];clear f0 f1 f2 f3 f4 f5 e0 e1 e2 e3;rintro e wa ⟨rfl,hb⟩;replace BK1:=Aside0.mk (blk_below BK1.out hb);replace BK2:=Aside0.mk (blk_below BK2.out hb);replace HB:=Aside0.mk (below_step HB.out hb);clear hb;have f0:wa.cell? ⟨g1,0,none⟩=some (.int .i64 l.a0):=(blk_cell BK1.out 0).trans rfl;have f1:wa.cell? ⟨g1,1,none⟩=some (.slice A1 l.l1.length c1):=(blk_cell BK1.out 1).trans rfl;have f2:wa.cell? ⟨g1,2,none⟩=some (.slice A2 l.l2.length c2):=(blk_cell BK1.out 2).trans rfl;have f3:wa.cell? ⟨g1,3,none⟩=some (.slice A3 l.l3.length c3):=(blk_cell BK1.out 3).trans rfl;have f4:wa.cell? ⟨g1,4,none⟩=some (.slice A4 l.l4.length c4):=(blk_cell BK1.out 4).trans rfl;have f5:wa.cell? ⟨g1,5,none⟩=some (.slice A5 l.l5.length c5):=(blk_cell BK1.out 5).trans rfl;have e0:wa.cell? ⟨g2,0,none⟩=some (.int .i64 a):=(blk_cell BK2.out 0).trans rfl;have e1:wa.cell? ⟨g2,1,none⟩=some (.int .i64 lo):=(blk_cell BK2.out 1).trans rfl;have e2:wa.cell? ⟨g2,2,none⟩=some (.int .i64 hi2):=(blk_cell BK2.out 2).trans rfl;have e3:wa.cell? ⟨g2,3,none⟩=some (.int .i64 kp):=(blk_cell BK2.out 3).trans rfl)|(go_at_call 121;(with_reducible refine(upTo_call lo hi2 40 _).mono ?_);rw [←H2.out];clear f0 f1 f2 f3 f4 f5 e0 e1 e2 e3;rintro e wb ⟨rfl,hb⟩;replace BK1:=Aside0.mk (blk_below BK1.out hb);replace BK2:=Aside0.mk (blk_below BK2.out hb);replace HB:=Aside0.mk (below_step HB.out hb);clear hb;have f0:wb.cell? ⟨g1,0,none⟩=some (.int .i64 l.a0):=(blk_cell BK1.out 0).trans rfl;have f1:wb.cell? ⟨g1,1,none⟩=some (.slice A1 l.l1.length c1):=(blk_cell BK1.out 1).trans rfl;have f2:wb.cell? ⟨g1,2,none⟩=some (.slice A2 l.l2.length c2):=(blk_cell BK1.out 2).trans rfl;have f3:wb.cell? ⟨g1,3,none⟩=some (.slice A3 l.l3.length c3):=(blk_cell BK1.out 3).trans rfl;have f4:wb.cell? ⟨g1,4,none⟩=some (.slice A4 l.l4.length c4):=(blk_cell BK1.out 4).trans rfl;have f5:wb.cell? ⟨g1,5,none⟩=some (.slice A5 l.l5.length c5):=(blk_cell BK1.out 5).trans rfl;have e0:wb.cell? ⟨g2,0,none⟩=some (.int .i64 a):=(blk_cell BK2.out 0).trans rfl;have e1:wb.cell? ⟨g2,1,none⟩=some (.int .i64 lo):=(blk_cell BK2.out 1).trans rfl;have e2:wb.cell? ⟨g2,2,none⟩=some (.int .i64 hi2):=(blk_cell BK2.out 2).trans rfl;have e3:wb.cell? ⟨g2,3,none⟩=some (.int .i64 kp):=(blk_cell BK2.out 3).trans rfl))
   go_ret
   exact⟨by rw [HV.out];rfl,HB.out⟩
  |true=>
   cases b3
   all_goals
    go_wp2_with (first|(go_at_call 113;(with_reducible refine(within_call a 0 l.a0 _).mono ?_);rw [←H1.out];clear f0 f1 f2 f3 f4 f5 e0 e1 e2 e3;rintro e wa ⟨rfl,hb⟩;replace BK1:=Aside0.mk (blk_below BK1.out hb);replace BK2:=Aside0.mk (blk_below BK2.out hb);replace HB:=Aside0.mk (below_step HB.out hb);clear hb;have f0:wa.cell? ⟨g1,0,none⟩=some (.int .i64 l.a0):=(blk_cell BK1.out 0).trans rfl;have f1:wa.cell? ⟨g1,1,none⟩=some (.slice A1 l.l1.length c1):=(blk_cell BK1.out 1).trans rfl;have f2:wa.cell? ⟨g1,2,none⟩=some (.slice A2 l.l2.length c2):=(blk_cell BK1.out 2).trans rfl;have f3:wa.cell? ⟨g1,3,none⟩=some (.slice A3 l.l3.length c3):=(blk_cell BK1.out 3).trans rfl;have f4:wa.cell? ⟨g1,4,none⟩=some (.slice A4 l.l4.length c4):=(blk_cell BK1.out 4).trans rfl;have f5:wa.cell? ⟨g1,5,none⟩=some (.slice A5 l.l5.length c5):=(blk_cell BK1.out 5).trans rfl;have e0:wa.cell? ⟨g2,0,none⟩=some (.int .i64 a):=(blk_cell BK2.out 0).trans rfl;have e1:wa.cell? ⟨g2,1,none⟩=some (.int .i64 lo):=(blk_cell BK2.out 1).trans rfl;have e2:wa.cell? ⟨g2,2,none⟩=some (.int .i64 hi2):=(blk_cell BK2.out 2).trans rfl;have e3:wa.cell? ⟨g2,3,none⟩=some (.int .i64 kp):=(blk_cell BK2.out 3).trans rfl)|(go_at_call 121;(with_reducible refine(upTo_call lo hi2 40 _).mono ?_);rw [←H2.out];clear f0 f1 f2 f3 f4 f5 e0 e1 e2 e3;rintro e wb ⟨rfl,hb⟩;replace BK1:=Aside0.mk (blk_below BK1.out hb);replace BK2:=Aside0.mk (blk_below BK2.out hb);replace HB:=Aside0.mk (below_step HB.out hb);clear hb;have f0:wb.cell? ⟨g1,0,none⟩=some (.int .i64 l.a0):=(blk_cell BK1.out 0).trans rfl;have f1:wb.cell? ⟨g1,1,none⟩=some (.slice A1 l.l1.length c1):=(blk_cell BK1.out 1).trans rfl;have f2:wb.cell? ⟨g1,2,none⟩=some (.slice A2 l.l2.length c2):=(blk_cell BK1.out 2).trans rfl;have f3:wb.cell? ⟨g1,3,none⟩=some (.slice A3 l.l3.length c3):=(blk_cell BK1.out 3).trans rfl;have f4:wb.cell? ⟨g1,4,none⟩=some (.slice A4 l.l4.length c4):=(blk_cell BK1.out 4).trans rfl;have f5:wb.cell? ⟨g1,5,none⟩=some (.slice A5 l.l5.length c5):=(blk_cell BK1.out 5).trans rfl;have e0:wb.cell? ⟨g2,0,none⟩=some (.int .i64 a):=(blk_cell BK2.out 0).trans rfl;have e1:wb.cell? ⟨g2,1,none⟩=some (.int .i64 lo):=(blk_cell BK2.out 1).trans rfl;have e2:wb.cell? ⟨g2,2,none⟩=some (.int .i64 hi2):=(blk_cell BK2.out 2).trans rfl;have e3:wb.cell? ⟨g2,3,none⟩=some (.int .i64 kp):=(blk_cell BK2.out 3).trans rfl)|(go_at_call 113;(with_reducible refine(within_call kp 1 6 _).mono ?_);rw [←H3.out];clear f0 f1 f2 f3 f4 f5 e0 e1 e2 e3;rintro e wc ⟨rfl,hb⟩;replace BK1:=Aside0.mk (blk_below BK1.out hb);replace BK2:=Aside0.mk (blk_below BK2.out hb);replace HB:=Aside0.mk (below_step HB.out hb);clear hb;have f0:wc.cell? ⟨g1,0,none⟩=some (.int .i64 l.a0):=(blk_cell BK1.out 0).trans rfl;have f1:wc.cell? ⟨g1,1,none⟩=some (.slice A1 l.l1.length c1):=(blk_cell BK1.out 1).trans rfl;have f2:wc.cell? ⟨g1,2,none⟩=some (.slice A2 l.l2.length c2):=(blk_cell BK1.out 2).trans rfl;have f3:wc.cell? ⟨g1,3,none⟩=some (.slice A3 l.l3.length c3):=(blk_cell BK1.out 3).trans rfl;have f4:wc.cell? ⟨g1,4,none⟩=some (.slice A4 l.l4.length c4):=(blk_cell BK1.out 4).trans rfl;have f5:wc.cell? ⟨g1,5,none⟩=some (.slice A5 l.l5.length c5):=(blk_cell BK1.out 5).trans rfl;have e0:wc.cell? ⟨g2,0,none⟩=some (.int .i64 a):=(blk_cell BK2.out 0).trans rfl;have e1:wc.cell? ⟨g2,1,none⟩=some (.int .i64 lo):=(blk_cell BK2.out 1).trans rfl;have e2:wc.cell? ⟨g2,2,none⟩=some (.int .i64 hi2):=(blk_cell BK2.out 2).trans rfl;have e3:wc.cell? ⟨g2,3,none⟩=some (.int .i64 kp):=(blk_cell BK2.out 3).trans rfl))
    go_ret
    exact⟨by rw [HV.out];rfl,HB.out⟩
set_option maxRecDepth 100000 in
set_option maxHeartbeats 6400000 in
theorem pass_Weight (x:SA) (l:SL) (w:World) (hr:Rd w x l) (h3:l.l3.length≤1000) (v:S137):Calls Try.prog 98 #[.agg (x.cells l),.agg #[.int .i64 v.f0,.int .i64 v.f1,.int .i64 v.f2.f0,.int .i64 v.f2.f1]] w fun e w'=>e= .returned (.bool (l.okWeight v))∧Below w.heap.size w w':=by
 obtain⟨A1,c1,A2,c2,A3,c3,A4,c4,A5,c5⟩:=x
 have HB:=Aside0.mk (Below.refl w.heap.size w)
 have HR:=Aside0.mk hr
 obtain⟨ck,dy,⟨lo,hi2⟩⟩:=v
 obtain⟨d,hd⟩:∃d,d=l.okWeight ⟨ck,dy,⟨lo,hi2⟩⟩:=⟨_,rfl⟩
 rw [←hd]
 obtain⟨b1,h1⟩:∃b,b=l.day ck dy:=⟨_,rfl⟩
 obtain⟨b2,h2⟩:∃b,b=decide (0≤lo∧lo≤hi2∧hi2≤40):=⟨_,rfl⟩
 have HV:=Aside0.mk (show d=(b1&&b2)by
  rw [hd,h1,h2]
  unfold SL.okWeight SL.day
  rw [←Bool.decide_and]
  exact decide_eq_decide.2 ⟨fun h=>⟨⟨⟨h.1,h.2.1⟩,h.2.2.1,h.2.2.2.1⟩,h.2.2.2.2⟩,fun h=>⟨h.1.1.1,h.1.1.2,h.1.2.1,h.1.2.2,h.2⟩⟩)
 have H1:=Aside0.mk h1
 have H2:=Aside0.mk h2
 clear hr hd h1 h2
 go_enter Try.func98,Try.ntmps98
 go_upto_region 1 with(first|((with_reducible refine gate_dst (N:=2) rfl ?_);refine box_event ?hg (N:=2) ?hd (cs:=#[.int .i64 l.a0,.slice A1 l.l1.length c1,.slice A2 l.l2.length c2,.slice A3 l.l3.length c3,.slice A4 l.l4.length c4,.slice A5 l.l5.length c5]) (t:=39) ?hr ?_;(case hd=>rfl);(case hg=>rfl);(case hr=>first|(go_simp;done)|(go_simp;rfl));intro g1 hg_ w1 hbx_ hb_;have BK1:=Aside0.mk hbx_;have g1ge:w.heap.size≤g1:=(by have:=below_size HB.out;omega);have g1GE:=Aside0.mk g1ge;clear g1ge;have HBn:=Aside0.mk (below_step HB.out hb_);clear HB hg_ hb_ hbx_;have HB:=HBn;clear HBn)|((with_reducible refine gate_dst (N:=3) rfl ?_);refine box_event ?hg (N:=3) ?hd (cs:=#[.int .i64 ck,.int .i64 dy,.int .i64 lo,.int .i64 hi2]) (t:=137) ?hr ?_;(case hd=>rfl);(case hg=>rfl);(case hr=>first|(go_simp;done)|(go_simp;rfl));intro g2 hg_ w2 hbx_ hb_;have BK2:=Aside0.mk hbx_;have g2ge:w.heap.size≤g2:=(by have:=below_size HB.out;omega);have g2GE:=Aside0.mk g2ge;clear g2ge;have HBn:=Aside0.mk (below_step HB.out hb_);have z_:=Aside0.mk (blk_below BK1.out hb_);clear BK1;have BK1:=z_;clear z_;clear HB hg_ hb_ hbx_;have HB:=HBn;clear HBn;have f0:w2.cell? ⟨g1,0,none⟩=some (.int .i64 l.a0):=(blk_cell BK1.out 0).trans rfl;have f1:w2.cell? ⟨g1,1,none⟩=some (.slice A1 l.l1.length c1):=(blk_cell BK1.out 1).trans rfl;have f2:w2.cell? ⟨g1,2,none⟩=some (.slice A2 l.l2.length c2):=(blk_cell BK1.out 2).trans rfl;have f3:w2.cell? ⟨g1,3,none⟩=some (.slice A3 l.l3.length c3):=(blk_cell BK1.out 3).trans rfl;have f4:w2.cell? ⟨g1,4,none⟩=some (.slice A4 l.l4.length c4):=(blk_cell BK1.out 4).trans rfl;have f5:w2.cell? ⟨g1,5,none⟩=some (.slice A5 l.l5.length c5):=(blk_cell BK1.out 5).trans rfl;have e0:w2.cell? ⟨g2,0,none⟩=some (.int .i64 ck):=(blk_cell BK2.out 0).trans rfl;have e1:w2.cell? ⟨g2,1,none⟩=some (.int .i64 dy):=(blk_cell BK2.out 1).trans rfl;have e2:w2.cell? ⟨g2,2,none⟩=some (.int .i64 lo):=(blk_cell BK2.out 2).trans rfl;have e3:w2.cell? ⟨g2,3,none⟩=some (.int .i64 hi2):=(blk_cell BK2.out 3).trans rfl))
 cases b1 with
 |false=>
  go_wp2_with (first|(go_at_call 79;(with_reducible refine((fun w_ hw_=>day_call ⟨A1,c1,A2,c2,A3,c3,A4,c4,A5,c5⟩ l ck dy w_ hw_ h3) _ (Rd.below HR.out HB.out)).mono ?_);rw [←H1.out];clear f0 f1 f2 f3 f4 f5 e0 e1 e2 e3;rintro e wa ⟨rfl,hb⟩;replace BK1:=Aside0.mk (blk_below BK1.out hb);replace BK2:=Aside0.mk (blk_below BK2.out hb);replace HB:=Aside0.mk (below_step HB.out hb);clear hb;have f0:wa.cell? ⟨g1,0,none⟩=some (.int .i64 l.a0):=(blk_cell BK1.out 0).trans rfl;have f1:wa.cell? ⟨g1,1,none⟩=some (.slice A1 l.l1.length c1):=(blk_cell BK1.out 1).trans rfl;have f2:wa.cell? ⟨g1,2,none⟩=some (.slice A2 l.l2.length c2):=(blk_cell BK1.out 2).trans rfl;have f3:wa.cell? ⟨g1,3,none⟩=some (.slice A3 l.l3.length c3):=(blk_cell BK1.out 3).trans rfl;have f4:wa.cell? ⟨g1,4,none⟩=some (.slice A4 l.l4.length c4):=(blk_cell BK1.out 4).trans rfl;have f5:wa.cell? ⟨g1,5,none⟩=some (.slice A5 l.l5.length c5):=(blk_cell BK1.out 5).trans rfl;have e0:wa.cell? ⟨g2,0,none⟩=some (.int .i64 ck):=(blk_cell BK2.out 0).trans rfl;have e1:wa.cell? ⟨g2,1,none⟩=some (.int .i64 dy):=(blk_cell BK2.out 1).trans rfl;have e2:wa.cell? ⟨g2,2,none⟩=some (.int .i64 lo):=(blk_cell BK2.out 2).trans rfl;have e3:wa.cell? ⟨g2,3,none⟩=some (.int .i64 hi2):=(blk_cell BK2.out 3).trans rfl))
  go_ret
  exact⟨by rw [HV.out];rfl,HB.out⟩
 |true=>
  cases b2
  all_goals
   go_wp2_with (first|(go_at_call 79;(with_reducible refine((fun w_ hw_=>day_call ⟨A1,c1,A2,c2,A3,c3,A4,c4,A5,c5⟩ l ck dy w_ hw_ h3) _ (Rd.below HR.out HB.out)).mono ?_);rw [←H1.out];clear f0 f1 f2 f3 f4 f5 e0 e1 e2 e3;rintro e wa ⟨rfl,hb⟩;replace BK1:=Aside0.mk (blk_below BK1.out hb);replace BK2:=Aside0.mk (blk_below BK2.out hb);replace HB:=Aside0.mk (below_step HB.out hb);clear hb;have f0:wa.cell? ⟨g1,0,none⟩=some (.int .i64 l.a0):=(blk_cell BK1.out 0).trans rfl;have f1:wa.cell? ⟨g1,1,none⟩=some (.slice A1 l.l1.length c1):=(blk_cell BK1.out 1).trans rfl;have f2:wa.cell? ⟨g1,2,none⟩=some (.slice A2 l.l2.length c2):=(blk_cell BK1.out 2).trans rfl;have f3:wa.cell? ⟨g1,3,none⟩=some (.slice A3 l.l3.length c3):=(blk_cell BK1.out 3).trans rfl;have f4:wa.cell? ⟨g1,4,none⟩=some (.slice A4 l.l4.length c4):=(blk_cell BK1.out 4).trans rfl;have f5:wa.cell? ⟨g1,5,none⟩=some (.slice A5 l.l5.length c5):=(blk_cell BK1.out 5).trans rfl;have e0:wa.cell? ⟨g2,0,none⟩=some (.int .i64 ck):=(blk_cell BK2.out 0).trans rfl;have e1:wa.cell? ⟨g2,1,none⟩=some (.int .i64 dy):=(blk_cell BK2.out 1).trans rfl;have e2:wa.cell? ⟨g2,2,none⟩=some (.int .i64 lo):=(blk_cell BK2.out 2).trans rfl;have e3:wa.cell? ⟨g2,3,none⟩=some (.int .i64 hi2):=(blk_cell BK2.out 3).trans rfl)|(go_at_call 121;(with_reducible refine(upTo_call lo hi2 40 _).mono ?_);rw [←H2.out];clear f0 f1 f2 f3 f4 f5 e0 e1 e2 e3;rintro e wb ⟨rfl,hb⟩;replace BK1:=Aside0.mk (blk_below BK1.out hb);replace BK2:=Aside0.mk (blk_below BK2.out hb);replace HB:=Aside0.mk (below_step HB.out hb);clear hb;have f0:wb.cell? ⟨g1,0,none⟩=some (.int .i64 l.a0):=(blk_cell BK1.out 0).trans rfl;have f1:wb.cell? ⟨g1,1,none⟩=some (.slice A1 l.l1.length c1):=(blk_cell BK1.out 1).trans rfl;have f2:wb.cell? ⟨g1,2,none⟩=some (.slice A2 l.l2.length c2):=(blk_cell BK1.out 2).trans rfl;have f3:wb.cell? ⟨g1,3,none⟩=some (.slice A3 l.l3.length c3):=(blk_cell BK1.out 3).trans rfl;have f4:wb.cell? ⟨g1,4,none⟩=some (.slice A4 l.l4.length c4):=(blk_cell BK1.out 4).trans rfl;have f5:wb.cell? ⟨g1,5,none⟩=some (.slice A5 l.l5.length c5):=(blk_cell BK1.out 5).trans rfl;have e0:wb.cell? ⟨g2,0,none⟩=some (.int .i64 ck):=(blk_cell BK2.out 0).trans rfl;have e1:wb.cell? ⟨g2,1,none⟩=some (.int .i64 dy):=(blk_cell BK2.out 1).trans rfl;have e2:wb.cell? ⟨g2,2,none⟩=some (.int .i64 lo):=(blk_cell BK2.out 2).trans rfl;have e3:wb.cell? ⟨g2,3,none⟩=some (.int .i64 hi2):=(blk_cell BK2.out 3).trans rfl))
   go_ret
   exact⟨by rw [HV.out];rfl,HB.out⟩
end Go.Proofs.Ytjifalohjlihaaa.Q
end
section
namespace Go.Proofs.Ytjifalohjlihaaa.Q
set_option linter.unusedVariables false
open Go.RowKit Go.Proofs.YtjifalohjlihaaaW.PrintWords Go.Proofs.YtjifalohjlihaaaW.PrintLast Go.Proofs.YtjifalohjlihaaaW.PrintMore
theorem pass_Range (W:World) (r:S56):Calls Try.prog 100 #[.agg #[.int .i64 r.f0,.int .i64 r.f1]] W fun e w'=>e= .returned (.bool (okRange 9 r))∧Below W.heap.size W w':=
 shelf_air.calls _ _ _ W (air_some r)
theorem pass_Board (W:World) (b:S135):Calls Try.prog 102 #[.agg #[.int .i64 b.f0,.int .i64 b.f1]] W fun e w'=>e= .returned (.bool (okBoard b))∧Below W.heap.size W w':=
 shelf_Board_valid.calls _ _ _ W (board_some b)
set_option maxRecDepth 100000 in
set_option maxHeartbeats 3200000 in
theorem CheckLoft.limit (x:SA) (l:SL) (w:World) (hr:Rd w x l) (hl:l.a0 > 5∨l.l2.length > 3∨l.l3.length > 5∨l.l5.length > 5):
  Calls Try.prog 56 #[.agg (x.cells l)] w fun e w'=>e= .returned (.int .i64 l.fault)∧Below w.heap.size w w':=by
 have hf:l.fault=3:=by unfold SL.fault;rw [if_pos hl]
 rw [hf]
 clear hf
 obtain⟨A1,c1,A2,c2,A3,c3,A4,c4,A5,c5⟩:=x
 have HB:=Aside0.mk (Below.refl w.heap.size w)
 clear hr
 have hl4:(5 < l.a0)∨(l.a0≤5∧3 < l.l2.length)∨(l.a0≤5∧l.l2.length≤3∧5 < l.l3.length)∨(l.a0≤5∧l.l2.length≤3∧l.l3.length≤5∧5 < l.l5.length):=by omega
 clear hl
 go_enter Try.func56,Try.ntmps56
 go_wp2_with (first|((with_reducible refine gate_dst (N:=1) rfl ?_);refine box_event ?hg (N:=1) ?hd (cs:=#[.int .i64 l.a0,.slice A1 l.l1.length c1,.slice A2 l.l2.length c2,.slice A3 l.l3.length c3,.slice A4 l.l4.length c4,.slice A5 l.l5.length c5]) (t:=39) ?hr ?_;(case hd=>rfl);(case hg=>rfl);(case hr=>first|(go_simp;done)|(go_simp;rfl));intro g1 hg_ w1 hbx_ hb_;have BK1:=Aside0.mk hbx_;have g1ge:w.heap.size≤g1:=(by have:=below_size HB.out;omega);have g1GE:=Aside0.mk g1ge;clear g1ge;have HBn:=Aside0.mk (below_step HB.out hb_);clear HB hg_ hb_ hbx_;have HB:=HBn;clear HBn;have f10:w1.cell? ⟨g1,0,none⟩=some (.int .i64 l.a0):=(blk_cell BK1.out 0).trans rfl;have f11:w1.cell? ⟨g1,1,none⟩=some (.slice A1 l.l1.length c1):=(blk_cell BK1.out 1).trans rfl;have f12:w1.cell? ⟨g1,2,none⟩=some (.slice A2 l.l2.length c2):=(blk_cell BK1.out 2).trans rfl;have f13:w1.cell? ⟨g1,3,none⟩=some (.slice A3 l.l3.length c3):=(blk_cell BK1.out 3).trans rfl;have f14:w1.cell? ⟨g1,4,none⟩=some (.slice A4 l.l4.length c4):=(blk_cell BK1.out 4).trans rfl;have f15:w1.cell? ⟨g1,5,none⟩=some (.slice A5 l.l5.length c5):=(blk_cell BK1.out 5).trans rfl))
 go_quiet (fail)
 replace BK1:=Aside0.mk (show(w1.drewN nq).heap[g1]? =_ from BK1.out)
 replace HB:=Aside0.mk (pw_below_drewN HB.out nq)
 obtain⟨wa,hw_⟩:∃w_,w_=w1.drewN nq:=⟨_,rfl⟩
 rw [←hw_]at BK1 HB ⊢
 clear hw_
 clear f10 f11 f12 f13 f14 f15
 have f10:wa.cell? ⟨g1,0,none⟩=some (.int .i64 l.a0):=(blk_cell BK1.out 0).trans rfl
 have f11:wa.cell? ⟨g1,1,none⟩=some (.slice A1 l.l1.length c1):=(blk_cell BK1.out 1).trans rfl
 have f12:wa.cell? ⟨g1,2,none⟩=some (.slice A2 l.l2.length c2):=(blk_cell BK1.out 2).trans rfl
 have f13:wa.cell? ⟨g1,3,none⟩=some (.slice A3 l.l3.length c3):=(blk_cell BK1.out 3).trans rfl
 have f14:wa.cell? ⟨g1,4,none⟩=some (.slice A4 l.l4.length c4):=(blk_cell BK1.out 4).trans rfl
 have f15:wa.cell? ⟨g1,5,none⟩=some (.slice A5 l.l5.length c5):=(blk_cell BK1.out 5).trans rfl
 rcases hl4 with h1|⟨h1,h2⟩|⟨h1,h2,h3⟩|⟨h1,h2,h3,h4⟩
 all_goals
  go_wp2
  go_ret
  exact⟨rfl,HB.out⟩
set_option maxRecDepth 100000 in
set_option maxHeartbeats 6400000 in
theorem CheckLoft.arg1 (x:SA) (l:SL) (w:World) (hr:Rd w x l) (h1:l.a0≤5) (h2:l.l2.length≤3) (h3:l.l3.length≤5) (h4:l.l5.length≤5)
  (hl:l.a0 < 0∨(l.l1.length:Int)≠l.a0+1∨allB (okRange 9) l.l1=false∨allB okBoard l.l2=false):
  Calls Try.prog 56 #[.agg (x.cells l)] w fun e w'=>e= .returned (.int .i64 l.fault)∧Below w.heap.size w w':=by
 have hf:l.fault=1:=by unfold SL.fault;rw [if_neg (by omega),if_pos hl]
 rw [hf]
 clear hf
 obtain⟨A1,c1,A2,c2,A3,c3,A4,c4,A5,c5⟩:=x
 have HB:=Aside0.mk (Below.refl w.heap.size w)
 have HR:=Aside0.mk hr
 clear hr
 go_enter Try.func56,Try.ntmps56
 go_wp2_with (first|((with_reducible refine gate_dst (N:=1) rfl ?_);refine box_event ?hg (N:=1) ?hd (cs:=#[.int .i64 l.a0,.slice A1 l.l1.length c1,.slice A2 l.l2.length c2,.slice A3 l.l3.length c3,.slice A4 l.l4.length c4,.slice A5 l.l5.length c5]) (t:=39) ?hr ?_;(case hd=>rfl);(case hg=>rfl);(case hr=>first|(go_simp;done)|(go_simp;rfl));intro g1 hg_ w1 hbx_ hb_;have BK1:=Aside0.mk hbx_;have g1ge:w.heap.size≤g1:=(by have:=below_size HB.out;omega);have g1GE:=Aside0.mk g1ge;clear g1ge;have HBn:=Aside0.mk (below_step HB.out hb_);clear HB hg_ hb_ hbx_;have HB:=HBn;clear HBn;have f10:w1.cell? ⟨g1,0,none⟩=some (.int .i64 l.a0):=(blk_cell BK1.out 0).trans rfl;have f11:w1.cell? ⟨g1,1,none⟩=some (.slice A1 l.l1.length c1):=(blk_cell BK1.out 1).trans rfl;have f12:w1.cell? ⟨g1,2,none⟩=some (.slice A2 l.l2.length c2):=(blk_cell BK1.out 2).trans rfl;have f13:w1.cell? ⟨g1,3,none⟩=some (.slice A3 l.l3.length c3):=(blk_cell BK1.out 3).trans rfl;have f14:w1.cell? ⟨g1,4,none⟩=some (.slice A4 l.l4.length c4):=(blk_cell BK1.out 4).trans rfl;have f15:w1.cell? ⟨g1,5,none⟩=some (.slice A5 l.l5.length c5):=(blk_cell BK1.out 5).trans rfl))
 go_quiet (fail)
 replace BK1:=Aside0.mk (show(w1.drewN nq).heap[g1]? =_ from BK1.out)
 replace HB:=Aside0.mk (pw_below_drewN HB.out nq)
 obtain⟨wa,hw_⟩:∃w_,w_=w1.drewN nq:=⟨_,rfl⟩
 rw [←hw_]at BK1 HB ⊢
 clear hw_
 clear f10 f11 f12 f13 f14 f15
 have f10:wa.cell? ⟨g1,0,none⟩=some (.int .i64 l.a0):=(blk_cell BK1.out 0).trans rfl
 have f11:wa.cell? ⟨g1,1,none⟩=some (.slice A1 l.l1.length c1):=(blk_cell BK1.out 1).trans rfl
 have f12:wa.cell? ⟨g1,2,none⟩=some (.slice A2 l.l2.length c2):=(blk_cell BK1.out 2).trans rfl
 have f13:wa.cell? ⟨g1,3,none⟩=some (.slice A3 l.l3.length c3):=(blk_cell BK1.out 3).trans rfl
 have f14:wa.cell? ⟨g1,4,none⟩=some (.slice A4 l.l4.length c4):=(blk_cell BK1.out 4).trans rfl
 have f15:wa.cell? ⟨g1,5,none⟩=some (.slice A5 l.l5.length c5):=(blk_cell BK1.out 5).trans rfl
 by_cases g1:l.a0 < 0
 ·clear hl
  go_wp2
  go_ret
  exact⟨rfl,HB.out⟩
 ·by_cases g2:(l.l1.length:Int)=l.a0+1
  ·have g1':0≤l.a0:=by omega
   clear g1
   have g2':((l.l1.length:Int) !=l.a0+1)=false:=by rw [g2];simp
   have g2a:(l.l1.length:Int)≤l.a0+1:=by omega
   have G2:=Aside0.mk g2
   clear g2
   cases g3:allB (okRange 9) l.l1 with
   |false=>
    clear hl
    go_wp2_with (first|(go_at_call 99;refine(all_Range (okRange 9) A1 c1 l.l1 _ (HR.out.below HB.out).r1 (by omega) (fun j W h0 h1 hb=>pass_Range W _)).mono ?_;rintro e wR ⟨rfl,hb⟩;replace BK1:=Aside0.mk (blk_below BK1.out hb);replace HB:=Aside0.mk (below_step HB.out hb);clear hb f10 f11 f12 f13 f14 f15;have f10:wR.cell? ⟨g1,0,none⟩=some (.int .i64 l.a0):=(blk_cell BK1.out 0).trans rfl;have f11:wR.cell? ⟨g1,1,none⟩=some (.slice A1 l.l1.length c1):=(blk_cell BK1.out 1).trans rfl;have f12:wR.cell? ⟨g1,2,none⟩=some (.slice A2 l.l2.length c2):=(blk_cell BK1.out 2).trans rfl;have f13:wR.cell? ⟨g1,3,none⟩=some (.slice A3 l.l3.length c3):=(blk_cell BK1.out 3).trans rfl;have f14:wR.cell? ⟨g1,4,none⟩=some (.slice A4 l.l4.length c4):=(blk_cell BK1.out 4).trans rfl;have f15:wR.cell? ⟨g1,5,none⟩=some (.slice A5 l.l5.length c5):=(blk_cell BK1.out 5).trans rfl))
    go_ret
    exact⟨rfl,HB.out⟩
   |true=>
    have g4:allB okBoard l.l2=false:=by
     rcases hl with h|h|h|h
     ·exact absurd h (by omega)
     ·exact absurd G2.out h
     ·rw [g3]at h;cases h
     ·exact h
    clear hl
    go_wp2_with (first|(go_at_call 99;refine(all_Range (okRange 9) A1 c1 l.l1 _ (HR.out.below HB.out).r1 (by omega) (fun j W h0 h1 hb=>pass_Range W _)).mono ?_;rintro e wR ⟨rfl,hb⟩;replace BK1:=Aside0.mk (blk_below BK1.out hb);replace HB:=Aside0.mk (below_step HB.out hb);clear hb f10 f11 f12 f13 f14 f15;have f10:wR.cell? ⟨g1,0,none⟩=some (.int .i64 l.a0):=(blk_cell BK1.out 0).trans rfl;have f11:wR.cell? ⟨g1,1,none⟩=some (.slice A1 l.l1.length c1):=(blk_cell BK1.out 1).trans rfl;have f12:wR.cell? ⟨g1,2,none⟩=some (.slice A2 l.l2.length c2):=(blk_cell BK1.out 2).trans rfl;have f13:wR.cell? ⟨g1,3,none⟩=some (.slice A3 l.l3.length c3):=(blk_cell BK1.out 3).trans rfl;have f14:wR.cell? ⟨g1,4,none⟩=some (.slice A4 l.l4.length c4):=(blk_cell BK1.out 4).trans rfl;have f15:wR.cell? ⟨g1,5,none⟩=some (.slice A5 l.l5.length c5):=(blk_cell BK1.out 5).trans rfl)|(go_at_call 101;refine(all_Board okBoard A2 c2 l.l2 _ (HR.out.below HB.out).r2 (by omega) (fun j W h0 h1 hb=>pass_Board W _)).mono ?_;rintro e wB ⟨rfl,hb⟩;replace BK1:=Aside0.mk (blk_below BK1.out hb);replace HB:=Aside0.mk (below_step HB.out hb);clear hb f10 f11 f12 f13 f14 f15;have f10:wB.cell? ⟨g1,0,none⟩=some (.int .i64 l.a0):=(blk_cell BK1.out 0).trans rfl;have f11:wB.cell? ⟨g1,1,none⟩=some (.slice A1 l.l1.length c1):=(blk_cell BK1.out 1).trans rfl;have f12:wB.cell? ⟨g1,2,none⟩=some (.slice A2 l.l2.length c2):=(blk_cell BK1.out 2).trans rfl;have f13:wB.cell? ⟨g1,3,none⟩=some (.slice A3 l.l3.length c3):=(blk_cell BK1.out 3).trans rfl;have f14:wB.cell? ⟨g1,4,none⟩=some (.slice A4 l.l4.length c4):=(blk_cell BK1.out 4).trans rfl;have f15:wB.cell? ⟨g1,5,none⟩=some (.slice A5 l.l5.length c5):=(blk_cell BK1.out 5).trans rfl))
    go_ret
    exact⟨rfl,HB.out⟩
  ·have g1':0≤l.a0:=by omega
   clear g1
   have g2':((l.l1.length:Int) !=l.a0+1)=true:=by rw [bne_iff_ne];exact g2
   clear hl g2
   go_wp2
   go_ret
   exact⟨rfl,HB.out⟩
set_option maxRecDepth 100000 in
set_option maxHeartbeats 6400000 in
theorem CheckLoft.arg2 (x:SA) (l:SL) (w:World) (hr:Rd w x l) (h1:l.a0≤5) (h2:l.l2.length≤3) (h3:l.l3.length≤5) (h4:l.l5.length≤5)
  (g1:0≤l.a0) (g2:(l.l1.length:Int)=l.a0+1) (g3:allB (okRange 9) l.l1=true) (g4:allB okBoard l.l2=true)
  (hl:allB l.okCake l.l3=false∨¬l.isPlace l.l4∨allB l.okWeight l.l5=false):
  Calls Try.prog 56 #[.agg (x.cells l)] w fun e w'=>e= .returned (.int .i64 l.fault)∧Below w.heap.size w w':=by
 have hf:l.fault=1:=by unfold SL.fault;rw [if_neg (by omega),if_neg (by rw [g3,g4];simp;omega),if_pos hl]
 rw [hf]
 clear hf
 obtain⟨A1,c1,A2,c2,A3,c3,A4,c4,A5,c5⟩:=x
 have HB:=Aside0.mk (Below.refl w.heap.size w)
 have HR:=Aside0.mk hr
 have g2':((l.l1.length:Int) !=l.a0+1)=false:=by rw [g2];simp
 have g2a:(l.l1.length:Int)≤l.a0+1:=by omega
 clear hr g2
 go_enter Try.func56,Try.ntmps56
 go_wp2_with (first|((with_reducible refine gate_dst (N:=1) rfl ?_);refine box_event ?hg (N:=1) ?hd (cs:=#[.int .i64 l.a0,.slice A1 l.l1.length c1,.slice A2 l.l2.length c2,.slice A3 l.l3.length c3,.slice A4 l.l4.length c4,.slice A5 l.l5.length c5]) (t:=39) ?hr ?_;(case hd=>rfl);(case hg=>rfl);(case hr=>first|(go_simp;done)|(go_simp;rfl));intro g1 hg_ w1 hbx_ hb_;have BK1:=Aside0.mk hbx_;have g1ge:w.heap.size≤g1:=(by have:=below_size HB.out;omega);have g1GE:=Aside0.mk g1ge;clear g1ge;have HBn:=Aside0.mk (below_step HB.out hb_);clear HB hg_ hb_ hbx_;have HB:=HBn;clear HBn;have f10:w1.cell? ⟨g1,0,none⟩=some (.int .i64 l.a0):=(blk_cell BK1.out 0).trans rfl;have f11:w1.cell? ⟨g1,1,none⟩=some (.slice A1 l.l1.length c1):=(blk_cell BK1.out 1).trans rfl;have f12:w1.cell? ⟨g1,2,none⟩=some (.slice A2 l.l2.length c2):=(blk_cell BK1.out 2).trans rfl;have f13:w1.cell? ⟨g1,3,none⟩=some (.slice A3 l.l3.length c3):=(blk_cell BK1.out 3).trans rfl;have f14:w1.cell? ⟨g1,4,none⟩=some (.slice A4 l.l4.length c4):=(blk_cell BK1.out 4).trans rfl;have f15:w1.cell? ⟨g1,5,none⟩=some (.slice A5 l.l5.length c5):=(blk_cell BK1.out 5).trans rfl))
 go_quiet (fail)
 replace BK1:=Aside0.mk (show(w1.drewN nq).heap[g1]? =_ from BK1.out)
 replace HB:=Aside0.mk (pw_below_drewN HB.out nq)
 obtain⟨wa,hw_⟩:∃w_,w_=w1.drewN nq:=⟨_,rfl⟩
 rw [←hw_]at BK1 HB ⊢
 clear hw_
 clear f10 f11 f12 f13 f14 f15
 have f10:wa.cell? ⟨g1,0,none⟩=some (.int .i64 l.a0):=(blk_cell BK1.out 0).trans rfl
 have f11:wa.cell? ⟨g1,1,none⟩=some (.slice A1 l.l1.length c1):=(blk_cell BK1.out 1).trans rfl
 have f12:wa.cell? ⟨g1,2,none⟩=some (.slice A2 l.l2.length c2):=(blk_cell BK1.out 2).trans rfl
 have f13:wa.cell? ⟨g1,3,none⟩=some (.slice A3 l.l3.length c3):=(blk_cell BK1.out 3).trans rfl
 have f14:wa.cell? ⟨g1,4,none⟩=some (.slice A4 l.l4.length c4):=(blk_cell BK1.out 4).trans rfl
 have f15:wa.cell? ⟨g1,5,none⟩=some (.slice A5 l.l5.length c5):=(blk_cell BK1.out 5).trans rfl
 cases g5:allB l.okCake l.l3 with
 |false=>
  clear hl
  go_wp2_with (first|(go_at_call 99;refine(all_Range (okRange 9) A1 c1 l.l1 _ (HR.out.below HB.out).r1 (by omega) (fun j W h0 h1 hb=>pass_Range W _)).mono ?_;rintro e wR ⟨rfl,hb⟩;replace BK1:=Aside0.mk (blk_below BK1.out hb);replace HB:=Aside0.mk (below_step HB.out hb);clear hb f10 f11 f12 f13 f14 f15;have f10:wR.cell? ⟨g1,0,none⟩=some (.int .i64 l.a0):=(blk_cell BK1.out 0).trans rfl;have f11:wR.cell? ⟨g1,1,none⟩=some (.slice A1 l.l1.length c1):=(blk_cell BK1.out 1).trans rfl;have f12:wR.cell? ⟨g1,2,none⟩=some (.slice A2 l.l2.length c2):=(blk_cell BK1.out 2).trans rfl;have f13:wR.cell? ⟨g1,3,none⟩=some (.slice A3 l.l3.length c3):=(blk_cell BK1.out 3).trans rfl;have f14:wR.cell? ⟨g1,4,none⟩=some (.slice A4 l.l4.length c4):=(blk_cell BK1.out 4).trans rfl;have f15:wR.cell? ⟨g1,5,none⟩=some (.slice A5 l.l5.length c5):=(blk_cell BK1.out 5).trans rfl)|(go_at_call 101;refine(all_Board okBoard A2 c2 l.l2 _ (HR.out.below HB.out).r2 (by omega) (fun j W h0 h1 hb=>pass_Board W _)).mono ?_;rintro e wB ⟨rfl,hb⟩;replace BK1:=Aside0.mk (blk_below BK1.out hb);replace HB:=Aside0.mk (below_step HB.out hb);clear hb f10 f11 f12 f13 f14 f15;have f10:wB.cell? ⟨g1,0,none⟩=some (.int .i64 l.a0):=(blk_cell BK1.out 0).trans rfl;have f11:wB.cell? ⟨g1,1,none⟩=some (.slice A1 l.l1.length c1):=(blk_cell BK1.out 1).trans rfl;have f12:wB.cell? ⟨g1,2,none⟩=some (.slice A2 l.l2.length c2):=(blk_cell BK1.out 2).trans rfl;have f13:wB.cell? ⟨g1,3,none⟩=some (.slice A3 l.l3.length c3):=(blk_cell BK1.out 3).trans rfl;have f14:wB.cell? ⟨g1,4,none⟩=some (.slice A4 l.l4.length c4):=(blk_cell BK1.out 4).trans rfl;have f15:wB.cell? ⟨g1,5,none⟩=some (.slice A5 l.l5.length c5):=(blk_cell BK1.out 5).trans rfl)|(go_at_call 103;refine(all_Cake ⟨A1,c1,A2,c2,A3,c3,A4,c4,A5,c5⟩ l l.okCake A3 c3 l.l3 _ (HR.out.below HB.out).r3 (by omega) (fun j W h0 h1 hb=>pass_Cake _ l W ((HR.out.below HB.out).below hb) _)).mono ?_;rintro e wC ⟨rfl,hb⟩;replace BK1:=Aside0.mk (blk_below BK1.out hb);replace HB:=Aside0.mk (below_step HB.out hb);clear hb f10 f11 f12 f13 f14 f15;have f10:wC.cell? ⟨g1,0,none⟩=some (.int .i64 l.a0):=(blk_cell BK1.out 0).trans rfl;have f11:wC.cell? ⟨g1,1,none⟩=some (.slice A1 l.l1.length c1):=(blk_cell BK1.out 1).trans rfl;have f12:wC.cell? ⟨g1,2,none⟩=some (.slice A2 l.l2.length c2):=(blk_cell BK1.out 2).trans rfl;have f13:wC.cell? ⟨g1,3,none⟩=some (.slice A3 l.l3.length c3):=(blk_cell BK1.out 3).trans rfl;have f14:wC.cell? ⟨g1,4,none⟩=some (.slice A4 l.l4.length c4):=(blk_cell BK1.out 4).trans rfl;have f15:wC.cell? ⟨g1,5,none⟩=some (.slice A5 l.l5.length c5):=(blk_cell BK1.out 5).trans rfl))
  go_ret
  exact⟨rfl,HB.out⟩
 |true=>
  by_cases g6:l.isPlace l.l4
  ·have g6':=decide_eq_true g6
   have g7:allB l.okWeight l.l5=false:=by
    rcases hl with h|h|h
    ·rw [g5]at h;cases h
    ·exact absurd g6 h
    ·exact h
   clear hl g6
   go_wp2_with (first|(go_at_call 99;refine(all_Range (okRange 9) A1 c1 l.l1 _ (HR.out.below HB.out).r1 (by omega) (fun j W h0 h1 hb=>pass_Range W _)).mono ?_;rintro e wR ⟨rfl,hb⟩;replace BK1:=Aside0.mk (blk_below BK1.out hb);replace HB:=Aside0.mk (below_step HB.out hb);clear hb f10 f11 f12 f13 f14 f15;have f10:wR.cell? ⟨g1,0,none⟩=some (.int .i64 l.a0):=(blk_cell BK1.out 0).trans rfl;have f11:wR.cell? ⟨g1,1,none⟩=some (.slice A1 l.l1.length c1):=(blk_cell BK1.out 1).trans rfl;have f12:wR.cell? ⟨g1,2,none⟩=some (.slice A2 l.l2.length c2):=(blk_cell BK1.out 2).trans rfl;have f13:wR.cell? ⟨g1,3,none⟩=some (.slice A3 l.l3.length c3):=(blk_cell BK1.out 3).trans rfl;have f14:wR.cell? ⟨g1,4,none⟩=some (.slice A4 l.l4.length c4):=(blk_cell BK1.out 4).trans rfl;have f15:wR.cell? ⟨g1,5,none⟩=some (.slice A5 l.l5.length c5):=(blk_cell BK1.out 5).trans rfl)|(go_at_call 101;refine(all_Board okBoard A2 c2 l.l2 _ (HR.out.below HB.out).r2 (by omega) (fun j W h0 h1 hb=>pass_Board W _)).mono ?_;rintro e wB ⟨rfl,hb⟩;replace BK1:=Aside0.mk (blk_below BK1.out hb);replace HB:=Aside0.mk (below_step HB.out hb);clear hb f10 f11 f12 f13 f14 f15;have f10:wB.cell? ⟨g1,0,none⟩=some (.int .i64 l.a0):=(blk_cell BK1.out 0).trans rfl;have f11:wB.cell? ⟨g1,1,none⟩=some (.slice A1 l.l1.length c1):=(blk_cell BK1.out 1).trans rfl;have f12:wB.cell? ⟨g1,2,none⟩=some (.slice A2 l.l2.length c2):=(blk_cell BK1.out 2).trans rfl;have f13:wB.cell? ⟨g1,3,none⟩=some (.slice A3 l.l3.length c3):=(blk_cell BK1.out 3).trans rfl;have f14:wB.cell? ⟨g1,4,none⟩=some (.slice A4 l.l4.length c4):=(blk_cell BK1.out 4).trans rfl;have f15:wB.cell? ⟨g1,5,none⟩=some (.slice A5 l.l5.length c5):=(blk_cell BK1.out 5).trans rfl)|(go_at_call 103;refine(all_Cake ⟨A1,c1,A2,c2,A3,c3,A4,c4,A5,c5⟩ l l.okCake A3 c3 l.l3 _ (HR.out.below HB.out).r3 (by omega) (fun j W h0 h1 hb=>pass_Cake _ l W ((HR.out.below HB.out).below hb) _)).mono ?_;rintro e wC ⟨rfl,hb⟩;replace BK1:=Aside0.mk (blk_below BK1.out hb);replace HB:=Aside0.mk (below_step HB.out hb);clear hb f10 f11 f12 f13 f14 f15;have f10:wC.cell? ⟨g1,0,none⟩=some (.int .i64 l.a0):=(blk_cell BK1.out 0).trans rfl;have f11:wC.cell? ⟨g1,1,none⟩=some (.slice A1 l.l1.length c1):=(blk_cell BK1.out 1).trans rfl;have f12:wC.cell? ⟨g1,2,none⟩=some (.slice A2 l.l2.length c2):=(blk_cell BK1.out 2).trans rfl;have f13:wC.cell? ⟨g1,3,none⟩=some (.slice A3 l.l3.length c3):=(blk_cell BK1.out 3).trans rfl;have f14:wC.cell? ⟨g1,4,none⟩=some (.slice A4 l.l4.length c4):=(blk_cell BK1.out 4).trans rfl;have f15:wC.cell? ⟨g1,5,none⟩=some (.slice A5 l.l5.length c5):=(blk_cell BK1.out 5).trans rfl)|(go_at_call 74;refine(L_isPlace.calls ⟨A1,c1,A2,c2,A3,c3,A4,c4,A5,c5⟩ l A4 c4 l.l4 _ (HR.out.below HB.out) (by omega) (by omega) (HR.out.below HB.out).r4).mono ?_;rintro e wP ⟨rfl,hb⟩;replace BK1:=Aside0.mk (blk_below BK1.out hb);replace HB:=Aside0.mk (below_step HB.out hb);clear hb f10 f11 f12 f13 f14 f15;have f10:wP.cell? ⟨g1,0,none⟩=some (.int .i64 l.a0):=(blk_cell BK1.out 0).trans rfl;have f11:wP.cell? ⟨g1,1,none⟩=some (.slice A1 l.l1.length c1):=(blk_cell BK1.out 1).trans rfl;have f12:wP.cell? ⟨g1,2,none⟩=some (.slice A2 l.l2.length c2):=(blk_cell BK1.out 2).trans rfl;have f13:wP.cell? ⟨g1,3,none⟩=some (.slice A3 l.l3.length c3):=(blk_cell BK1.out 3).trans rfl;have f14:wP.cell? ⟨g1,4,none⟩=some (.slice A4 l.l4.length c4):=(blk_cell BK1.out 4).trans rfl;have f15:wP.cell? ⟨g1,5,none⟩=some (.slice A5 l.l5.length c5):=(blk_cell BK1.out 5).trans rfl)|(go_at_call 104;refine(all_Weight ⟨A1,c1,A2,c2,A3,c3,A4,c4,A5,c5⟩ l l.okWeight A5 c5 l.l5 _ (HR.out.below HB.out).r5 (by omega) (fun j W h0 h1 hb=>pass_Weight _ l W ((HR.out.below HB.out).below hb) (by omega) _)).mono ?_;rintro e wW ⟨rfl,hb⟩;replace BK1:=Aside0.mk (blk_below BK1.out hb);replace HB:=Aside0.mk (below_step HB.out hb);clear hb f10 f11 f12 f13 f14 f15;have f10:wW.cell? ⟨g1,0,none⟩=some (.int .i64 l.a0):=(blk_cell BK1.out 0).trans rfl;have f11:wW.cell? ⟨g1,1,none⟩=some (.slice A1 l.l1.length c1):=(blk_cell BK1.out 1).trans rfl;have f12:wW.cell? ⟨g1,2,none⟩=some (.slice A2 l.l2.length c2):=(blk_cell BK1.out 2).trans rfl;have f13:wW.cell? ⟨g1,3,none⟩=some (.slice A3 l.l3.length c3):=(blk_cell BK1.out 3).trans rfl;have f14:wW.cell? ⟨g1,4,none⟩=some (.slice A4 l.l4.length c4):=(blk_cell BK1.out 4).trans rfl;have f15:wW.cell? ⟨g1,5,none⟩=some (.slice A5 l.l5.length c5):=(blk_cell BK1.out 5).trans rfl))
   go_ret
   exact⟨rfl,HB.out⟩
  ·have g6':=decide_eq_false g6
   clear hl g6
   go_wp2_with (first|(go_at_call 99;refine(all_Range (okRange 9) A1 c1 l.l1 _ (HR.out.below HB.out).r1 (by omega) (fun j W h0 h1 hb=>pass_Range W _)).mono ?_;rintro e wR ⟨rfl,hb⟩;replace BK1:=Aside0.mk (blk_below BK1.out hb);replace HB:=Aside0.mk (below_step HB.out hb);clear hb f10 f11 f12 f13 f14 f15;have f10:wR.cell? ⟨g1,0,none⟩=some (.int .i64 l.a0):=(blk_cell BK1.out 0).trans rfl;have f11:wR.cell? ⟨g1,1,none⟩=some (.slice A1 l.l1.length c1):=(blk_cell BK1.out 1).trans rfl;have f12:wR.cell? ⟨g1,2,none⟩=some (.slice A2 l.l2.length c2):=(blk_cell BK1.out 2).trans rfl;have f13:wR.cell? ⟨g1,3,none⟩=some (.slice A3 l.l3.length c3):=(blk_cell BK1.out 3).trans rfl;have f14:wR.cell? ⟨g1,4,none⟩=some (.slice A4 l.l4.length c4):=(blk_cell BK1.out 4).trans rfl;have f15:wR.cell? ⟨g1,5,none⟩=some (.slice A5 l.l5.length c5):=(blk_cell BK1.out 5).trans rfl)|(go_at_call 101;refine(all_Board okBoard A2 c2 l.l2 _ (HR.out.below HB.out).r2 (by omega) (fun j W h0 h1 hb=>pass_Board W _)).mono ?_;rintro e wB ⟨rfl,hb⟩;replace BK1:=Aside0.mk (blk_below BK1.out hb);replace HB:=Aside0.mk (below_step HB.out hb);clear hb f10 f11 f12 f13 f14 f15;have f10:wB.cell? ⟨g1,0,none⟩=some (.int .i64 l.a0):=(blk_cell BK1.out 0).trans rfl;have f11:wB.cell? ⟨g1,1,none⟩=some (.slice A1 l.l1.length c1):=(blk_cell BK1.out 1).trans rfl;have f12:wB.cell? ⟨g1,2,none⟩=some (.slice A2 l.l2.length c2):=(blk_cell BK1.out 2).trans rfl;have f13:wB.cell? ⟨g1,3,none⟩=some (.slice A3 l.l3.length c3):=(blk_cell BK1.out 3).trans rfl;have f14:wB.cell? ⟨g1,4,none⟩=some (.slice A4 l.l4.length c4):=(blk_cell BK1.out 4).trans rfl;have f15:wB.cell? ⟨g1,5,none⟩=some (.slice A5 l.l5.length c5):=(blk_cell BK1.out 5).trans rfl)|(go_at_call 103;refine(all_Cake ⟨A1,c1,A2,c2,A3,c3,A4,c4,A5,c5⟩ l l.okCake A3 c3 l.l3 _ (HR.out.below HB.out).r3 (by omega) (fun j W h0 h1 hb=>pass_Cake _ l W ((HR.out.below HB.out).below hb) _)).mono ?_;rintro e wC ⟨rfl,hb⟩;replace BK1:=Aside0.mk (blk_below BK1.out hb);replace HB:=Aside0.mk (below_step HB.out hb);clear hb f10 f11 f12 f13 f14 f15;have f10:wC.cell? ⟨g1,0,none⟩=some (.int .i64 l.a0):=(blk_cell BK1.out 0).trans rfl;have f11:wC.cell? ⟨g1,1,none⟩=some (.slice A1 l.l1.length c1):=(blk_cell BK1.out 1).trans rfl;have f12:wC.cell? ⟨g1,2,none⟩=some (.slice A2 l.l2.length c2):=(blk_cell BK1.out 2).trans rfl;have f13:wC.cell? ⟨g1,3,none⟩=some (.slice A3 l.l3.length c3):=(blk_cell BK1.out 3).trans rfl;have f14:wC.cell? ⟨g1,4,none⟩=some (.slice A4 l.l4.length c4):=(blk_cell BK1.out 4).trans rfl;have f15:wC.cell? ⟨g1,5,none⟩=some (.slice A5 l.l5.length c5):=(blk_cell BK1.out 5).trans rfl)|(go_at_call 74;refine(L_isPlace.calls ⟨A1,c1,A2,c2,A3,c3,A4,c4,A5,c5⟩ l A4 c4 l.l4 _ (HR.out.below HB.out) (by omega) (by omega) (HR.out.below HB.out).r4).mono ?_;rintro e wP ⟨rfl,hb⟩;replace BK1:=Aside0.mk (blk_below BK1.out hb);replace HB:=Aside0.mk (below_step HB.out hb);clear hb f10 f11 f12 f13 f14 f15;have f10:wP.cell? ⟨g1,0,none⟩=some (.int .i64 l.a0):=(blk_cell BK1.out 0).trans rfl;have f11:wP.cell? ⟨g1,1,none⟩=some (.slice A1 l.l1.length c1):=(blk_cell BK1.out 1).trans rfl;have f12:wP.cell? ⟨g1,2,none⟩=some (.slice A2 l.l2.length c2):=(blk_cell BK1.out 2).trans rfl;have f13:wP.cell? ⟨g1,3,none⟩=some (.slice A3 l.l3.length c3):=(blk_cell BK1.out 3).trans rfl;have f14:wP.cell? ⟨g1,4,none⟩=some (.slice A4 l.l4.length c4):=(blk_cell BK1.out 4).trans rfl;have f15:wP.cell? ⟨g1,5,none⟩=some (.slice A5 l.l5.length c5):=(blk_cell BK1.out 5).trans rfl))
   go_ret
   exact⟨rfl,HB.out⟩
end Go.Proofs.Ytjifalohjlihaaa.Q
end
section
namespace Go.Proofs.Ytjifalohjlihaaa.Q
set_option linter.unusedVariables false
open Go.RowKit Go.Proofs.YtjifalohjlihaaaW.PrintWords Go.Proofs.YtjifalohjlihaaaW.PrintLast Go.Proofs.YtjifalohjlihaaaW.PrintMore
theorem many_step (rs:List S56) (i:Int) (m:Int) (h0:0≤i) (h1:i < rs.length):
  manyOf (rs.drop i.toNat) m=manyOf (rs.drop (i+1).toNat) (mn (m*((rd_T56 rs i).f1-(rd_T56 rs i).f0+1)) 2001):=by
 have hn:i.toNat < rs.length:=by omega
 rw [List.drop_eq_getElem_cons hn,show(i+1).toNat=i.toNat+1 by omega]
 unfold rd_T56
 rw [List.getD_eq_getElem?_getD,List.getElem?_eq_getElem hn]
 rfl
theorem lit2_reads (w:World) (a b:Int):ReadsOf (Value.int .i64) (0:Int) (w.alloc (.cells #[.int .i64 a,.int .i64 b] 3)) (some ⟨w.heap.size,0,none⟩) 2 [a,b]:=by
 have h:=own_lit w w.heap.size 3 .i64 [a,b] (Nat.le_refl _) (by simp)
 obtain⟨A,c,e,hr⟩:=own_reads h
 simp only [List.length_cons,List.length_nil]at e hr
 cases e
 exact hr
theorem many_bounds {m s:Int} (h0:1≤m) (h1:m≤2001) (h2:1≤s) (h3:s≤41):1≤mn (m*s) 2001∧mn (m*s) 2001≤2001∧m*s≤100000∧1≤m*s:=by
 have a:1*1≤m*s:=Int.mul_le_mul h0 h2 (by omega) (by omega)
 have b:m*s≤2001*41:=Int.mul_le_mul h1 h3 (by omega) (by omega)
 unfold mn
 refine⟨?_,?_,?_,?_⟩<;>omega
set_option maxRecDepth 100000 in
set_option maxHeartbeats 6400000 in
theorem CheckLoft.many (x:SA) (l:SL) (w:World) (hr:Rd w x l) (h1:l.a0≤5) (h2:l.l2.length≤3) (h3:l.l3.length≤5) (h4:l.l5.length≤5)
  (g1:0≤l.a0) (g2:(l.l1.length:Int)=l.a0+1) (g3:allB (okRange 9) l.l1=true) (g4:allB okBoard l.l2=true)
  (g5:allB l.okCake l.l3=true) (g6:l.isPlace l.l4) (g7:allB l.okWeight l.l5=true) (hrs:∀i:Int,0≤i→i < l.ranges.length→0≤(rd_T56 l.ranges i).f0∧(rd_T56 l.ranges i).f0≤(rd_T56 l.ranges i).f1∧(rd_T56 l.ranges i).f1≤40) (hrl:l.ranges.length≤11):
  Calls Try.prog 56 #[.agg (x.cells l)] w fun e w'=>e= .returned (.int .i64 l.fault)∧Below w.heap.size w w':=by
 have hf:l.fault=if manyOf l.ranges 1 > 2000 then 3 else 0:=by unfold SL.fault;rw [if_neg (by omega),if_neg (by rw [g3,g4];simp;omega),if_neg (by rw [g5,g7];simp;exact g6)]
 obtain⟨A1,c1,A2,c2,A3,c3,A4,c4,A5,c5⟩:=x
 have HB:=Aside0.mk (Below.refl w.heap.size w)
 have HR:=Aside0.mk hr
 have HF:=Aside0.mk hf
 have HRS:=Aside0.mk hrs
 have g2':((l.l1.length:Int) !=l.a0+1)=false:=by rw [g2];simp
 have g2a:(l.l1.length:Int)≤l.a0+1:=by omega
 have g6':=decide_eq_true g6
 clear hr g2 g6 hf hrs
 go_enter Try.func56,Try.ntmps56
 go_wp2_with (first|((with_reducible refine gate_dst (N:=1) rfl ?_);refine box_event ?hg (N:=1) ?hd (cs:=#[.int .i64 l.a0,.slice A1 l.l1.length c1,.slice A2 l.l2.length c2,.slice A3 l.l3.length c3,.slice A4 l.l4.length c4,.slice A5 l.l5.length c5]) (t:=39) ?hr ?_;(case hd=>rfl);(case hg=>rfl);(case hr=>first|(go_simp;done)|(go_simp;rfl));intro g1 hg_ w1 hbx_ hb_;have BK1:=Aside0.mk hbx_;have g1ge:w.heap.size≤g1:=(by have:=below_size HB.out;omega);have g1GE:=Aside0.mk g1ge;clear g1ge;have HBn:=Aside0.mk (below_step HB.out hb_);clear HB hg_ hb_ hbx_;have HB:=HBn;clear HBn;have f10:w1.cell? ⟨g1,0,none⟩=some (.int .i64 l.a0):=(blk_cell BK1.out 0).trans rfl;have f11:w1.cell? ⟨g1,1,none⟩=some (.slice A1 l.l1.length c1):=(blk_cell BK1.out 1).trans rfl;have f12:w1.cell? ⟨g1,2,none⟩=some (.slice A2 l.l2.length c2):=(blk_cell BK1.out 2).trans rfl;have f13:w1.cell? ⟨g1,3,none⟩=some (.slice A3 l.l3.length c3):=(blk_cell BK1.out 3).trans rfl;have f14:w1.cell? ⟨g1,4,none⟩=some (.slice A4 l.l4.length c4):=(blk_cell BK1.out 4).trans rfl;have f15:w1.cell? ⟨g1,5,none⟩=some (.slice A5 l.l5.length c5):=(blk_cell BK1.out 5).trans rfl))
 go_quiet (fail)
 replace BK1:=Aside0.mk (show(w1.drewN nq).heap[g1]? =_ from BK1.out)
 replace HB:=Aside0.mk (pw_below_drewN HB.out nq)
 obtain⟨wa,hw_⟩:∃w_,w_=w1.drewN nq:=⟨_,rfl⟩
 rw [←hw_]at BK1 HB ⊢
 clear hw_
 clear f10 f11 f12 f13 f14 f15
 have f10:wa.cell? ⟨g1,0,none⟩=some (.int .i64 l.a0):=(blk_cell BK1.out 0).trans rfl
 have f11:wa.cell? ⟨g1,1,none⟩=some (.slice A1 l.l1.length c1):=(blk_cell BK1.out 1).trans rfl
 have f12:wa.cell? ⟨g1,2,none⟩=some (.slice A2 l.l2.length c2):=(blk_cell BK1.out 2).trans rfl
 have f13:wa.cell? ⟨g1,3,none⟩=some (.slice A3 l.l3.length c3):=(blk_cell BK1.out 3).trans rfl
 have f14:wa.cell? ⟨g1,4,none⟩=some (.slice A4 l.l4.length c4):=(blk_cell BK1.out 4).trans rfl
 have f15:wa.cell? ⟨g1,5,none⟩=some (.slice A5 l.l5.length c5):=(blk_cell BK1.out 5).trans rfl
 go_wp2_with (first|(go_at_call 99;refine(all_Range (okRange 9) A1 c1 l.l1 _ (HR.out.below HB.out).r1 (by omega) (fun j W h0 h1 hb=>pass_Range W _)).mono ?_;rintro e wR ⟨rfl,hb⟩;replace BK1:=Aside0.mk (blk_below BK1.out hb);replace HB:=Aside0.mk (below_step HB.out hb);clear hb f10 f11 f12 f13 f14 f15;have f10:wR.cell? ⟨g1,0,none⟩=some (.int .i64 l.a0):=(blk_cell BK1.out 0).trans rfl;have f11:wR.cell? ⟨g1,1,none⟩=some (.slice A1 l.l1.length c1):=(blk_cell BK1.out 1).trans rfl;have f12:wR.cell? ⟨g1,2,none⟩=some (.slice A2 l.l2.length c2):=(blk_cell BK1.out 2).trans rfl;have f13:wR.cell? ⟨g1,3,none⟩=some (.slice A3 l.l3.length c3):=(blk_cell BK1.out 3).trans rfl;have f14:wR.cell? ⟨g1,4,none⟩=some (.slice A4 l.l4.length c4):=(blk_cell BK1.out 4).trans rfl;have f15:wR.cell? ⟨g1,5,none⟩=some (.slice A5 l.l5.length c5):=(blk_cell BK1.out 5).trans rfl)|(go_at_call 101;refine(all_Board okBoard A2 c2 l.l2 _ (HR.out.below HB.out).r2 (by omega) (fun j W h0 h1 hb=>pass_Board W _)).mono ?_;rintro e wB ⟨rfl,hb⟩;replace BK1:=Aside0.mk (blk_below BK1.out hb);replace HB:=Aside0.mk (below_step HB.out hb);clear hb f10 f11 f12 f13 f14 f15;have f10:wB.cell? ⟨g1,0,none⟩=some (.int .i64 l.a0):=(blk_cell BK1.out 0).trans rfl;have f11:wB.cell? ⟨g1,1,none⟩=some (.slice A1 l.l1.length c1):=(blk_cell BK1.out 1).trans rfl;have f12:wB.cell? ⟨g1,2,none⟩=some (.slice A2 l.l2.length c2):=(blk_cell BK1.out 2).trans rfl;have f13:wB.cell? ⟨g1,3,none⟩=some (.slice A3 l.l3.length c3):=(blk_cell BK1.out 3).trans rfl;have f14:wB.cell? ⟨g1,4,none⟩=some (.slice A4 l.l4.length c4):=(blk_cell BK1.out 4).trans rfl;have f15:wB.cell? ⟨g1,5,none⟩=some (.slice A5 l.l5.length c5):=(blk_cell BK1.out 5).trans rfl)|(go_at_call 103;refine(all_Cake ⟨A1,c1,A2,c2,A3,c3,A4,c4,A5,c5⟩ l l.okCake A3 c3 l.l3 _ (HR.out.below HB.out).r3 (by omega) (fun j W h0 h1 hb=>pass_Cake _ l W ((HR.out.below HB.out).below hb) _)).mono ?_;rintro e wC ⟨rfl,hb⟩;replace BK1:=Aside0.mk (blk_below BK1.out hb);replace HB:=Aside0.mk (below_step HB.out hb);clear hb f10 f11 f12 f13 f14 f15;have f10:wC.cell? ⟨g1,0,none⟩=some (.int .i64 l.a0):=(blk_cell BK1.out 0).trans rfl;have f11:wC.cell? ⟨g1,1,none⟩=some (.slice A1 l.l1.length c1):=(blk_cell BK1.out 1).trans rfl;have f12:wC.cell? ⟨g1,2,none⟩=some (.slice A2 l.l2.length c2):=(blk_cell BK1.out 2).trans rfl;have f13:wC.cell? ⟨g1,3,none⟩=some (.slice A3 l.l3.length c3):=(blk_cell BK1.out 3).trans rfl;have f14:wC.cell? ⟨g1,4,none⟩=some (.slice A4 l.l4.length c4):=(blk_cell BK1.out 4).trans rfl;have f15:wC.cell? ⟨g1,5,none⟩=some (.slice A5 l.l5.length c5):=(blk_cell BK1.out 5).trans rfl)|(go_at_call 74;refine(L_isPlace.calls ⟨A1,c1,A2,c2,A3,c3,A4,c4,A5,c5⟩ l A4 c4 l.l4 _ (HR.out.below HB.out) (by omega) (by omega) (HR.out.below HB.out).r4).mono ?_;rintro e wP ⟨rfl,hb⟩;replace BK1:=Aside0.mk (blk_below BK1.out hb);replace HB:=Aside0.mk (below_step HB.out hb);clear hb f10 f11 f12 f13 f14 f15;have f10:wP.cell? ⟨g1,0,none⟩=some (.int .i64 l.a0):=(blk_cell BK1.out 0).trans rfl;have f11:wP.cell? ⟨g1,1,none⟩=some (.slice A1 l.l1.length c1):=(blk_cell BK1.out 1).trans rfl;have f12:wP.cell? ⟨g1,2,none⟩=some (.slice A2 l.l2.length c2):=(blk_cell BK1.out 2).trans rfl;have f13:wP.cell? ⟨g1,3,none⟩=some (.slice A3 l.l3.length c3):=(blk_cell BK1.out 3).trans rfl;have f14:wP.cell? ⟨g1,4,none⟩=some (.slice A4 l.l4.length c4):=(blk_cell BK1.out 4).trans rfl;have f15:wP.cell? ⟨g1,5,none⟩=some (.slice A5 l.l5.length c5):=(blk_cell BK1.out 5).trans rfl)|(go_at_call 104;refine(all_Weight ⟨A1,c1,A2,c2,A3,c3,A4,c4,A5,c5⟩ l l.okWeight A5 c5 l.l5 _ (HR.out.below HB.out).r5 (by omega) (fun j W h0 h1 hb=>pass_Weight _ l W ((HR.out.below HB.out).below hb) (by omega) _)).mono ?_;rintro e wW ⟨rfl,hb⟩;replace BK1:=Aside0.mk (blk_below BK1.out hb);replace HB:=Aside0.mk (below_step HB.out hb);clear hb f10 f11 f12 f13 f14 f15;have f10:wW.cell? ⟨g1,0,none⟩=some (.int .i64 l.a0):=(blk_cell BK1.out 0).trans rfl;have f11:wW.cell? ⟨g1,1,none⟩=some (.slice A1 l.l1.length c1):=(blk_cell BK1.out 1).trans rfl;have f12:wW.cell? ⟨g1,2,none⟩=some (.slice A2 l.l2.length c2):=(blk_cell BK1.out 2).trans rfl;have f13:wW.cell? ⟨g1,3,none⟩=some (.slice A3 l.l3.length c3):=(blk_cell BK1.out 3).trans rfl;have f14:wW.cell? ⟨g1,4,none⟩=some (.slice A4 l.l4.length c4):=(blk_cell BK1.out 4).trans rfl;have f15:wW.cell? ⟨g1,5,none⟩=some (.slice A5 l.l5.length c5):=(blk_cell BK1.out 5).trans rfl)|(go_at_call 105;refine(L_ranges.call ⟨A1,c1,A2,c2,A3,c3,A4,c4,A5,c5⟩ l _ (HR.out.below HB.out) (by omega) (by omega)).mono ?_;rintro e wG ⟨v0,rfl,ho,hb⟩;obtain⟨AL,cL,rfl,hle,hC⟩:=Kd.R_reads ho;have HC:=Aside0.mk hC;have HLE:=Aside0.mk hle;replace HB:=Aside0.mk (below_step HB.out hb);clear ho hb hC hle BK1))
 clear f10 f11 f12 f13 f14 f15 g2a g2' g3 g4 g5 g6' g7 h1 h2 h3 h4
 obtain⟨RS,hRS⟩:∃RS,RS=l.ranges:=⟨_,rfl⟩
 rw [←hRS]at HRS HC HLE HF hrl ⊢
 clear hRS
 go_loopw [5,82] (fun v5 v82 wr=>∃m i:Int,v5= .int .i64 m∧v82= .int .i64 i∧1≤m∧m≤2001∧0≤i∧i≤RS.length∧Aside0 (manyOf (RS.drop i.toNat) m=manyOf RS 1)∧Aside0 (Kd.C k56 wr AL RS.length RS)∧Aside0 (Below w.heap.size w wr)) (fun _ v82 _=>(RS.length-intOf v82).toNat)
 case atStart=>exact⟨1,0,rfl,rfl,by omega,by omega,by omega,by omega,⟨rfl⟩,HC,HB⟩
 case round=>
  clear HC HB
  obtain⟨m,i,rfl,rfl,hm0,hm1,hi0,hi1,HA,HC,HB⟩:=hrel
  by_cases hlt:i < RS.length
  ·obtain⟨ad,e,fr0,fr1⟩:=at_T56 HC.out i hi0 hlt
   subst e
   have hq:=HRS.out i hi0 hlt
   have HST:=Aside0.mk ((many_step RS i m hi0 hlt).symm.trans HA.out)
   clear HA
   obtain⟨lo,hlo⟩:∃lo,lo=(rd_T56 RS i).f0:=⟨_,rfl⟩
   obtain⟨hh,hhi⟩:∃hh,hh=(rd_T56 RS i).f1:=⟨_,rfl⟩
   rw [←hlo]at fr0 hq HST
   rw [←hhi]at fr1 hq HST
   clear hlo hhi
   obtain⟨hq0,hq1,hq2⟩:=hq
   obtain⟨sz,hsz⟩:∃sz,sz=hh-lo+1:=⟨_,rfl⟩
   have HSZ:=Aside0.mk (show shelf_Range_size.f lo hh=some sz by rw [hsz];exact size_some lo hh hq0 hq1 hq2)
   have hs0:1≤sz:=by omega
   have hs1:sz≤41:=by omega
   rw [←hsz]at HST
   clear hsz
   go_upto_region 12 with(fail)
   obtain⟨g9,hg_⟩:∃g_,g_=wr.heap.size:=⟨_,rfl⟩
   obtain⟨w9,hw_⟩:∃w_,w_=World.alloc wr (Obj.cells #[.int .i64 lo,.int .i64 hh] 56):=⟨_,rfl⟩
   have hb_:Below wr.heap.size wr w9:=by rw [hw_];exact below_alloc (Below.refl _ _) _
   have BK9:Aside0 (w9.heap[g9]? =some (Obj.cells #[.int .i64 lo,.int .i64 hh] 56)):=⟨by rw [hw_,hg_];exact blk_new _ _⟩
   have g9GE:Aside0 (w.heap.size≤g9):=⟨by have:=below_size HB.out;rw [hg_];exact this⟩
   replace HC:=Aside0.mk (Kd.C_below HC.out hb_)
   replace HB:=Aside0.mk (below_step HB.out hb_)
   rw [←hw_,←hg_]
   clear hw_ hg_ hb_
   have f90:w9.cell? ⟨g9,0,none⟩=some (.int .i64 lo):=(blk_cell BK9.out 0).trans rfl
   have f91:w9.cell? ⟨g9,1,none⟩=some (.int .i64 hh):=(blk_cell BK9.out 1).trans rfl
   obtain⟨hmb0,hmb1,hmb2,hmb3⟩:=many_bounds hm0 hm1 hs0 hs1
   obtain⟨ms,hms⟩:∃ms,ms=m*sz:=⟨_,rfl⟩
   rw [←hms]at hmb0 hmb1 hmb2 hmb3 HST
   have HMS:=Aside0.mk hms
   clear fr0 fr1 BK9
   have hmw:IntKind.i64.wrap (m*sz)=ms:=by rw [←hms];exact IntWalk.i64_in _ (by omega)
   clear hms
   go_wp2_with (first|(go_at_call 107;refine(shelf_Range_size.calls lo hh sz _ HSZ.out).mono ?_;rintro e wS ⟨rfl,hb⟩;replace HC:=Aside0.mk (Kd.C_below HC.out hb);replace HB:=Aside0.mk (below_step HB.out hb);clear hb f90 f91))
   refine(shelf_minimum.calls 3 _ 2 [ms,2001] (mn ms 2001) _ ?rd (Nat.le_refl _) (min2_some _ _)).mono ?_
   case rd=>exact Kd.C_of_reads (d:=(0:Int)) (h1:=fun _=>rfl) (lit2_reads _ ms 2001)
   rintro e wM ⟨rfl,hb⟩
   replace HC:=Aside0.mk (Kd.C_below (Kd.C_below HC.out (below_alloc (Below.refl _ _) _)) hb)
   replace HB:=Aside0.mk (below_step (below_alloc HB.out _) hb)
   clear hb
   obtain⟨m2,hm2⟩:∃m2,m2=mn ms 2001:=⟨_,rfl⟩
   rw [←hm2]at hmb0 hmb1 HST ⊢
   clear hm2
   go_wp2
   go_roundw
   case measure=>simp [intOf];omega
   case rel=>exact⟨m2,i+1,rfl,rfl,hmb0,hmb1,by omega,by omega,HST,HC,HB⟩
  ·have hmm:m=manyOf RS 1:=by rw [←HA.out,List.drop_of_length_le (by omega)];rfl
   have HMM:=Aside0.mk hmm
   clear hmm
   by_cases hgt:2000 < m
   ·go_wp2
    go_ret
    exact⟨by rw [HF.out,←HMM.out,if_pos hgt];rfl,HB.out⟩
   ·go_wp2
    go_ret
    exact⟨by rw [HF.out,←HMM.out,if_neg (by omega)];rfl,HB.out⟩
end Go.Proofs.Ytjifalohjlihaaa.Q
end
section
namespace Go.Proofs.Ytjifalohjlihaaa.Q
set_option linter.unusedVariables false
open Go.RowKit Go.Proofs.YtjifalohjlihaaaW.PrintWords Go.Proofs.YtjifalohjlihaaaW.PrintLast Go.Proofs.YtjifalohjlihaaaW.PrintMore
theorem allB_at {α:Type} {ok:α→Bool} {xs:List α} (h:allB ok xs=true) (z:α) (i:Int) (h0:0≤i) (h1:i < xs.length):ok (xs.getD i.toNat z)=true:=by
 have hn:i.toNat < xs.length:=by omega
 rw [List.getD_eq_getElem?_getD,List.getElem?_eq_getElem hn,Option.getD_some]
 exact List.all_eq_true.1 h _ (List.getElem_mem hn)
theorem ranges_length (l:SL):l.ranges.length=l.l1.length+l.l3.length:=by simp [SL.ranges]
theorem ranges_air {l:SL} {i:Int} (h0:0≤i) (h1:i < l.l1.length):rd_T56 l.ranges i=rd_T56 l.l1 i:=by
 unfold rd_T56 SL.ranges
 rw [List.getD_eq_getElem?_getD,List.getElem?_append_left (by omega),←List.getD_eq_getElem?_getD]
theorem ranges_water {l:SL} {i:Int} (h0:0≤i) (h1:i < l.l3.length):rd_T56 l.ranges (l.l1.length+i)=⟨(rd_T126 l.l3 i).f1.f0,(rd_T126 l.l3 i).f1.f1⟩:=by
 have hn:i.toNat < l.l3.length:=by omega
 unfold rd_T56 rd_T126 SL.ranges
 rw [List.getD_eq_getElem?_getD,List.getD_eq_getElem?_getD,List.getElem?_append_right (by omega),show((l.l1.length:Int)+i).toNat-l.l1.length=i.toNat by omega,List.getElem?_map,List.getElem?_eq_getElem hn]
 rfl
theorem ranges_all {l:SL} (ha:∀i:Int,0≤i→i < l.l1.length→0≤(rd_T56 l.l1 i).f0∧(rd_T56 l.l1 i).f0≤(rd_T56 l.l1 i).f1∧(rd_T56 l.l1 i).f1≤9)
  (hc:∀i:Int,0≤i→i < l.l3.length→0≤(rd_T126 l.l3 i).f1.f0∧(rd_T126 l.l3 i).f1.f0≤(rd_T126 l.l3 i).f1.f1∧(rd_T126 l.l3 i).f1.f1≤40):
  ∀i:Int,0≤i→i < l.ranges.length→0≤(rd_T56 l.ranges i).f0∧(rd_T56 l.ranges i).f0≤(rd_T56 l.ranges i).f1∧(rd_T56 l.ranges i).f1≤40:=by
 intro i h0 h1
 rw [ranges_length]at h1
 by_cases e:i < l.l1.length
 ·rw [ranges_air h0 e]
  obtain⟨a,b,c⟩:=ha i h0 e
  exact⟨a,b,by omega⟩
 ·have hh:=ranges_water (l:=l) (i:=i-l.l1.length) (by omega) (by omega)
  rw [show(l.l1.length:Int)+(i-l.l1.length)=i by omega]at hh
  rw [hh]
  exact hc _ (by omega) (by omega)
theorem fault_zero {l:SL} (h:l.fault=0):l.a0≤5∧l.l2.length≤3∧l.l3.length≤5∧l.l5.length≤5∧0≤l.a0∧(l.l1.length:Int)=l.a0+1∧allB (okRange 9) l.l1=true∧allB okBoard l.l2=true∧allB l.okCake l.l3=true∧l.isPlace l.l4∧allB l.okWeight l.l5=true∧manyOf l.ranges 1≤2000:=by
 unfold SL.fault at h
 by_cases h1:l.a0 > 5∨l.l2.length > 3∨l.l3.length > 5∨l.l5.length > 5
 ·rw [if_pos h1]at h;cases h
 rw [if_neg h1]at h
 by_cases h2:l.a0 < 0∨(l.l1.length:Int)≠l.a0+1∨allB (okRange 9) l.l1=false∨allB okBoard l.l2=false
 ·rw [if_pos h2]at h;cases h
 rw [if_neg h2]at h
 by_cases h3:allB l.okCake l.l3=false∨¬l.isPlace l.l4∨allB l.okWeight l.l5=false
 ·rw [if_pos h3]at h;cases h
 rw [if_neg h3]at h
 by_cases h4:manyOf l.ranges 1 > 2000
 ·rw [if_pos h4]at h;cases h
 refine⟨by omega,by omega,by omega,by omega,by omega,by omega,?_,?_,?_,?_,?_,by omega⟩
 ·exact eq_true_of_ne_false (fun hh=>h2 (.inr (.inr (.inl hh))))
 ·exact eq_true_of_ne_false (fun hh=>h2 (.inr (.inr (.inr hh))))
 ·exact eq_true_of_ne_false (fun hh=>h3 (.inl hh))
 ·exact Decidable.of_not_not (fun hh=>h3 (.inr (.inl hh)))
 ·exact eq_true_of_ne_false (fun hh=>h3 (.inr (.inr hh)))
theorem airs_of {l:SL} (h:allB (okRange 9) l.l1=true):∀i:Int,0≤i→i < l.l1.length→0≤(rd_T56 l.l1 i).f0∧(rd_T56 l.l1 i).f0≤(rd_T56 l.l1 i).f1∧(rd_T56 l.l1 i).f1≤9:=
 fun i h0 h1=>of_decide_eq_true (allB_at h z56 i h0 h1)
theorem cakes_of {l:SL} (h:allB l.okCake l.l3=true):∀i:Int,0≤i→i < l.l3.length→0≤(rd_T126 l.l3 i).f0∧(rd_T126 l.l3 i).f0≤l.a0∧(0≤(rd_T126 l.l3 i).f1.f0∧(rd_T126 l.l3 i).f1.f0≤(rd_T126 l.l3 i).f1.f1∧(rd_T126 l.l3 i).f1.f1≤40)∧1≤(rd_T126 l.l3 i).f2∧(rd_T126 l.l3 i).f2≤6:=
 fun i h0 h1=>of_decide_eq_true (allB_at h z126 i h0 h1)
theorem valid_of {l:SL} (h:l.fault=0):Valid l:=by
 obtain⟨p1,p2,p3,p4,p5,p6,p7,p8,p9,p10,p11,p12⟩:=fault_zero h
 have hc:=cakes_of p9
 refine⟨p5,p1,p6,airs_of p7,p2,fun i h0 h1=>of_decide_eq_true (allB_at p8 z135 i h0 h1),p3,fun i h0 h1=> ?_,p10.1,fun i h0 h1=> ?_,p4,fun i h0 h1=> ?_⟩
 ·obtain⟨a,b,⟨c,d,e⟩,f,g⟩:=hc i h0 h1
  exact⟨a,b,c,d,e,f,g⟩
 ·have:=p10.2.1 i.toNat (by omega)
  rw [Int.toNat_of_nonneg h0]at this
  exact this
 ·obtain⟨a,b,c,d,_⟩:=of_decide_eq_true (allB_at p11 z137 i h0 h1)
  exact⟨a,b,c,d⟩
theorem CheckLoft.call (x:SA) (l:SL) (w:World) (hr:Rd w x l):Calls Try.prog 56 #[.agg (x.cells l)] w fun e w'=>e= .returned (.int .i64 l.fault)∧Below w.heap.size w w':=by
 by_cases h1:l.a0 > 5∨l.l2.length > 3∨l.l3.length > 5∨l.l5.length > 5
 ·exact CheckLoft.limit x l w hr h1
 by_cases h2:l.a0 < 0∨(l.l1.length:Int)≠l.a0+1∨allB (okRange 9) l.l1=false∨allB okBoard l.l2=false
 ·exact CheckLoft.arg1 x l w hr (by omega) (by omega) (by omega) (by omega) h2
 have g3:allB (okRange 9) l.l1=true:=eq_true_of_ne_false (fun hh=>h2 (.inr (.inr (.inl hh))))
 have g4:allB okBoard l.l2=true:=eq_true_of_ne_false (fun hh=>h2 (.inr (.inr (.inr hh))))
 by_cases h3:allB l.okCake l.l3=false∨¬l.isPlace l.l4∨allB l.okWeight l.l5=false
 ·exact CheckLoft.arg2 x l w hr (by omega) (by omega) (by omega) (by omega) (by omega) (by omega) g3 g4 h3
 have g5:allB l.okCake l.l3=true:=eq_true_of_ne_false (fun hh=>h3 (.inl hh))
 refine CheckLoft.many x l w hr (by omega) (by omega) (by omega) (by omega) (by omega) (by omega) g3 g4 g5 (Decidable.of_not_not (fun hh=>h3 (.inr (.inl hh)))) (eq_true_of_ne_false (fun hh=>h3 (.inr (.inr hh)))) (ranges_all (airs_of g3) (fun i h0 h1=>(cakes_of g5 i h0 h1).2.2.1)) ?_
 rw [ranges_length];omega
end Go.Proofs.Ytjifalohjlihaaa.Q
end
section
namespace Go.Proofs.Ytjifalohjlihaaa.Q
set_option linter.unusedVariables false
open Go.RowKit Go.Shelf Go.Proofs.YtjifalohjlihaaaW.PrintWords Go.Proofs.YtjifalohjlihaaaW.PrintLast Go.Proofs.YtjifalohjlihaaaW.PrintMore
def enumP:List S56→List Int→List (List Int)
 | [],p=> [p++List.replicate (11-p.length) 0]
 |r::t,p=>(List.range (r.f1-r.f0+1).toNat).flatMap fun (n:Nat)=>enumP t (p++ [r.f0+(n:Int)])
structure Itr (rs:List S56) (l gR gY gN gC:Nat) (AR:Option Addr) (cR:Nat) (ns:List Int) (X:World):Prop where
 bR:X.heap[gR]? =some (.cells #[.slice AR rs.length cR] 31 (0,0))
 bY:X.heap[gY]? =some (.cells #[.func (.yield l) #[] #[]] 181 (0,0))
 bN:X.heap[gN]? =some (.cells (nums .i64 ns).toArray 147 (0,0))
 bC:X.heap[gC]? =some (.cells #[.func (.func 134) #[] #[.pointer (some ⟨gR,0,none⟩),.pointer (some ⟨gY,0,none⟩),.pointer (some ⟨gN,0,none⟩),.pointer (some ⟨gC,0,none⟩)]] 124 (0,0))
 rd:Kd.C k56 X AR rs.length rs
def OwnI (gR gY gN gC:Nat) (AR:Option Addr) (k:Nat):Prop:=k=gR∨k=gY∨k=gN∨k=gC∨∃a,AR=some a∧k=a.block
theorem add_block (a:Addr) (k:Nat):(a.add k).block=a.block:=by unfold Addr.add;split<;>rfl
theorem cell_block {X Y:World} {a:Addr} (h:Y.heap[a.block]? =X.heap[a.block]?):Y.cell? a=X.cell? a:=by unfold World.cell?;rw [h]
theorem C_block {α:Type} {d:Kd α} (hd:∀w w' x cs,d.K w x cs→d.K w' x cs) {X Y:World} {A:Option Addr} {n:Nat} {xs:List α} (h:d.C X A n xs) (hb:∀a,A=some a→Y.heap[a.block]? =X.heap[a.block]?):d.C Y A n xs:=by
 obtain⟨h1,h2,h3⟩:=h
 refine⟨h1,h2,fun hn=> ?_⟩
 obtain⟨ad,e,hj⟩:=h3 hn
 refine⟨ad,e,fun j p hp=> ?_⟩
 obtain⟨c,hc,hK,hi⟩:=hj j p hp
 refine⟨c,hc,hd _ _ _ _ hK,fun i u hu=> ?_⟩
 rw [cell_block (X:=X) (by rw [add_block];exact hb ad e)]
 exact hi i u hu
theorem k56_any (w w':World) (x:S56) (cs:List Value) (h:k56.K w x cs):k56.K w' x cs:=by
 obtain rfl:=k56_open h
 exact k56_mk _ _
theorem Itr.keep {rs:List S56} {l gR gY gN gC:Nat} {AR:Option Addr} {cR:Nat} {ns:List Int} {Own:Nat→Prop} {X Y:World} (h:Itr rs l gR gY gN gC AR cR ns X) (ho:∀k,OwnI gR gY gN gC AR k→Own k) (hk:KeepOwn Own X Y):Itr rs l gR gY gN gC AR cR ns Y:=by
 have hb:∀k o,OwnI gR gY gN gC AR k→X.heap[k]? =some o→Y.heap[k]? =some o:=fun k o hk' h'=>(hk k (ho k hk') (blk_lt h')).trans h'
 refine⟨hb _ _ (.inl rfl) h.bR,hb _ _ (.inr (.inl rfl)) h.bY,hb _ _ (.inr (.inr (.inl rfl))) h.bN,hb _ _ (.inr (.inr (.inr (.inl rfl)))) h.bC,?_⟩
 refine⟨h.rd.1,h.rd.2.1,fun hn=> ?_⟩
 obtain⟨ad,e,hj⟩:=h.rd.2.2 hn
 refine⟨ad,e,fun j p hp=> ?_⟩
 obtain⟨c,hc,hK,hi⟩:=hj j p hp
 refine⟨c,hc,k56_any _ _ _ _ hK,fun i u hu=> ?_⟩
 have hx:=hi i u hu
 have hlt:=World.block_lt_of_cell? X _ hx
 rw [cell_block (X:=X)]
 ·exact hx
 ·rw [add_block]at hlt ⊢
  exact hk _ (ho _ (.inr (.inr (.inr (.inr ⟨ad,e,rfl⟩))))) hlt
theorem Itr.below {rs:List S56} {l gR gY gN gC:Nat} {AR:Option Addr} {cR:Nat} {ns:List Int} {X Y:World} (h:Itr rs l gR gY gN gC AR cR ns X) (hb:Below X.heap.size X Y):Itr rs l gR gY gN gC AR cR ns Y:=
 h.keep (Own:=fun _=>True) (fun _ _=>trivial) (fun k _ hk=>hb.block k hk)
structure Apart (gR gY gN gC:Nat) (AR:Option Addr):Prop where
 nR:gN≠gR
 nY:gN≠gY
 nC:gN≠gC
 nA:∀a,AR=some a→gN≠a.block
theorem Itr.set {rs:List S56} {l gR gY gN gC:Nat} {AR:Option Addr} {cR:Nat} {ns:List Int} {X:World} (h:Itr rs l gR gY gN gC AR cR ns X) (ha:Apart gR gY gN gC AR) (i:Nat) (v:Int):Itr rs l gR gY gN gC AR cR (ns.set i v) (X.setCell ⟨gN,i,none⟩ (.int .i64 v)):=by
 refine⟨blk_far h.bR (Ne.symm ha.nR) _,blk_far h.bY (Ne.symm ha.nY) _,?_,blk_far h.bC (Ne.symm ha.nC) _,?_⟩
 ·have:=blk_set h.bN i (.int .i64 v)
  rw [nums_set]at this
  exact this
 ·exact C_block k56_any h.rd (fun a e=>Below.heap_setCell X _ _ a.block (fun hh=>ha.nA a e hh.symm))
structure Rounds (T:List (List Int)) (l B:Nat) (Own:Nat→Prop) (J Jx:List (List Int)→World→Prop):Prop where
 stab:∀s X Y,J s X→Turn Own X Y→J s Y
 yield:∀pre x X,J pre X→(pre++ [x]) <+:T→B≤X.heap.size→YieldAt Fence.wide 1 Try.prog l #[.agg (lit11 x)] X fun e Y=>
  (e= .returned (.bool true)∧J (pre++ [x]) Y∧KeepOwn Own X Y)∨(e= .returned (.bool false)∧Jx (pre++ [x]) Y)
theorem roundIn_any {P:Program} {n m l:Nat} {f:FuncId} {tmps:Array Value} {assign body:Code} {w:World} {R:Ending→World→Prop} (h:RoundIn Fence.wide n P l f tmps assign body w R):RoundIn Fence.wide m P l f tmps assign body w R:=
 ⟨h.1,fun c cs _=>h.2 c cs (room_wide _)⟩
theorem callsIn_any {P:Program} {n m:Nat} {f:FuncId} {args:Array Value} {w:World} {R:Ending→World→Prop} (h:CallsIn Fence.wide n P f args w R):CallsIn Fence.wide m P f args w R:=
 ⟨h.1,fun cs _=>h.2 cs (room_wide _)⟩
theorem enum_cons {rs:List S56} {p:List Int} (h:p.length < rs.length):enumP (rs.drop p.length) p=(List.range ((rd_T56 rs p.length).f1-(rd_T56 rs p.length).f0+1).toNat).flatMap fun (n:Nat)=>enumP (rs.drop (p.length+1)) (p++ [(rd_T56 rs p.length).f0+(n:Int)]):=by
 have hrd:rd_T56 rs p.length=rs[p.length]:=by unfold rd_T56;rw [Int.toNat_natCast,List.getD_eq_getElem?_getD,List.getElem?_eq_getElem h];rfl
 rw [List.drop_eq_getElem_cons h,hrd,enumP]
theorem flat_prefix {α:Type} (f:Nat→List α) {k m:Nat} (h:k≤m):(List.range k).flatMap f <+:(List.range m).flatMap f:=by
 obtain⟨j,rfl⟩:=Nat.exists_eq_add_of_le h
 rw [List.range_add,List.flatMap_append]
 exact List.prefix_append _ _
theorem flat_succ {α:Type} (f:Nat→List α) (k:Nat):(List.range (k+1)).flatMap f=(List.range k).flatMap f++f k:=by
 rw [List.range_succ,List.flatMap_append,List.flatMap_singleton]
def Chosen (rs:List S56) (T:List (List Int)) (l gR gY gN gC:Nat) (AR:Option Addr) (cR:Nat) (J Jx:List (List Int)→World→Prop) (p:List Int) (pre:List (List Int)) (rest:List S56) (e:Ending) (Y:World):Prop:=
 (e= .returned (.bool true)∧J (pre++enumP rest p) Y∧∃ns,ns.length=11∧ns.take p.length=p∧ns.drop rs.length=List.replicate (11-rs.length) 0∧Itr rs l gR gY gN gC AR cR ns Y)∨
 (e= .returned (.bool false)∧∃q,q <+:T∧Jx q Y)
set_option maxRecDepth 100000 in
set_option maxHeartbeats 3200000 in
theorem choose_calls {rs:List S56} {T:List (List Int)} {l B gR gY gN gC:Nat} {AR:Option Addr} {cR:Nat} {Own:Nat→Prop} {J Jx:List (List Int)→World→Prop}
  (hrs:∀i:Int,0≤i→i < rs.length→0≤(rd_T56 rs i).f0∧(rd_T56 rs i).f0≤(rd_T56 rs i).f1∧(rd_T56 rs i).f1≤40) (hrl:rs.length≤11)
  (hBo:B≤gR) (ho:∀k,OwnI gR gY gN gC AR k→Own k) (ha:Apart gR gY gN gC AR) (hR:Rounds T l B Own J Jx):
  ∀(d:Nat) (p:List Int) (pre:List (List Int)) (ns:List Int) (X:World),rs.length-p.length=d→p.length≤rs.length→ns.length=11→ns.take p.length=p→ns.drop rs.length=List.replicate (11-rs.length) 0→
   Itr rs l gR gY gN gC AR cR ns X→B≤X.heap.size→J pre X→pre++enumP (rs.drop p.length) p <+:T→
   CallsIn Fence.wide 1 Try.prog 134 #[.int .i64 p.length,.pointer (some ⟨gR,0,none⟩),.pointer (some ⟨gY,0,none⟩),.pointer (some ⟨gN,0,none⟩),.pointer (some ⟨gC,0,none⟩)] X (Chosen rs T l gR gY gN gC AR cR J Jx p pre (rs.drop p.length)):=by
 intro d
 induction d with
 |zero=>
  intro p pre ns X hd hp hns htk hdr hI hB hJ hT
  have hpl:p.length=rs.length:=by omega
  have hz:rs.drop p.length= []:=List.drop_of_length_le (by omega)
  have hn:ns=p++List.replicate (11-p.length) 0:=by
   rw [←List.take_append_drop p.length ns,htk,hpl,hdr]
  have hT2:pre++ [ns] <+:T:=by rw [hz]at hT;rw [hn];exact hT
  obtain⟨fn,tmps,assign,body,hy,hround⟩:=hR.yield pre ns X hJ hT2 hB
  have hb:((p.length:Int)==(rs.length:Int))=true:=by rw [hpl];simp
  have HI:=Aside0.mk hI
  have HPL:=Aside0.mk hpl
  have HZ:=Aside0.mk hz
  have HN:=Aside0.mk hn
  have HRD:=Aside0.mk hround
  have HNS:=Aside0.mk hns
  have BN:=Aside0.mk (show X.heap[gN]? =some (.cells (lit11 ns) 147 (0,0))by rw [←nums_lit hns];exact hI.bN)
  have fR:X.cell? ⟨gR,0,none⟩=some (.slice AR rs.length cR):=(blk_cell hI.bR 0).trans rfl
  have fY:X.cell? ⟨gY,0,none⟩=some (.func (.yield l) #[] #[]):=(blk_cell hI.bY 0).trans rfl
  have fN_0:X.cell? ⟨gN,0,none⟩=some (.int .i64 (rd ns 0)):=(blk_cell BN.out 0).trans rfl
  have fN_1:X.cell? ⟨gN,1,none⟩=some (.int .i64 (rd ns 1)):=(blk_cell BN.out 1).trans rfl
  have fN_2:X.cell? ⟨gN,2,none⟩=some (.int .i64 (rd ns 2)):=(blk_cell BN.out 2).trans rfl
  have fN_3:X.cell? ⟨gN,3,none⟩=some (.int .i64 (rd ns 3)):=(blk_cell BN.out 3).trans rfl
  have fN_4:X.cell? ⟨gN,4,none⟩=some (.int .i64 (rd ns 4)):=(blk_cell BN.out 4).trans rfl
  have fN_5:X.cell? ⟨gN,5,none⟩=some (.int .i64 (rd ns 5)):=(blk_cell BN.out 5).trans rfl
  have fN_6:X.cell? ⟨gN,6,none⟩=some (.int .i64 (rd ns 6)):=(blk_cell BN.out 6).trans rfl
  have fN_7:X.cell? ⟨gN,7,none⟩=some (.int .i64 (rd ns 7)):=(blk_cell BN.out 7).trans rfl
  have fN_8:X.cell? ⟨gN,8,none⟩=some (.int .i64 (rd ns 8)):=(blk_cell BN.out 8).trans rfl
  have fN_9:X.cell? ⟨gN,9,none⟩=some (.int .i64 (rd ns 9)):=(blk_cell BN.out 9).trans rfl
  have fN_10:X.cell? ⟨gN,10,none⟩=some (.int .i64 (rd ns 10)):=(blk_cell BN.out 10).trans rfl
  have HT:=Aside0.mk hT2
  have HTK:=Aside0.mk htk
  have HDR:=Aside0.mk hdr
  clear hpl hz hn hround hT hT2 hdr htk hns hI BN
  refine callsIn_of_wp Try.func134 rfl trivial ?_ rfl
  simp only [Try.ntmps134,List.size_toArray,List.length_cons,List.length_nil,Nat.reduceAdd,Nat.reduceSub,Array.replicate_succ,Array.replicate_zero,List.push_toArray,List.append_toArray,List.nil_append,List.cons_append]
  gi_wp2
  refine(roundIn_any HRD.out).mono ?_
  rintro e Y (⟨rfl,hJ',hk⟩|⟨rfl,hJ'⟩)
  ·have HJ:=Aside0.mk hJ'
   have HK:=Aside0.mk hk
   clear hJ' hk fR fY fN_0 fN_1 fN_2 fN_3 fN_4 fN_5 fN_6 fN_7 fN_8 fN_9 fN_10 hJ
   gi_wp2
   go_ret
   refine .inl ⟨rfl,?_,ns,HNS.out,HTK.out,HDR.out,HI.out.keep ho HK.out⟩
   rw [HZ.out]
   have:=HJ.out
   rw [HN.out]at this
   exact this
  ·have HJ:=Aside0.mk hJ'
   clear hJ' fR fY fN_0 fN_1 fN_2 fN_3 fN_4 fN_5 fN_6 fN_7 fN_8 fN_9 fN_10 hJ
   gi_wp2
   go_ret
   exact .inr ⟨rfl,_,HT.out,HJ.out⟩
 |succ d ih=>
  intro p pre ns X hd hp hns htk hdr hI hB hJ hT
  have hlt:p.length < rs.length:=by omega
  have hb:((p.length:Int)==(rs.length:Int))=false:=by
   rw [beq_eq_false_iff_ne];omega
  have hq:=hrs p.length (by omega) (by omega)
  have hen:=enum_cons (rs:=rs) (p:=p) hlt
  obtain⟨lo,hlo⟩:∃lo,lo=(rd_T56 rs p.length).f0:=⟨_,rfl⟩
  obtain⟨hh,hhi⟩:∃hh,hh=(rd_T56 rs p.length).f1:=⟨_,rfl⟩
  rw [←hlo,←hhi]at hq hen
  obtain⟨hq0,hq1,hq2⟩:=hq
  obtain⟨sz,hsz⟩:∃sz,sz=hh-lo+1:=⟨_,rfl⟩
  have HSZ:=Aside0.mk (show shelf_Range_size.f lo hh=some sz by rw [hsz];exact size_some lo hh hq0 hq1 hq2)
  rw [←hsz]at hen
  have hs0:1≤sz:=by omega
  have hs1:sz≤41:=by omega
  have HLO:=Aside0.mk hlo
  have HHI:=Aside0.mk hhi
  have HEN:=Aside0.mk hen
  have HI:=Aside0.mk hI
  have HNS:=Aside0.mk hns
  have HTK:=Aside0.mk htk
  have HDR:=Aside0.mk hdr
  have HT:=Aside0.mk hT
  have HJ:=Aside0.mk hJ
  have IH:=Aside0.mk ih
  have HRS:=Aside0.mk hrs
  have HD:=Aside0.mk hd
  obtain⟨ad0,e0,fr0,fr1⟩:=at_T56 hI.rd p.length (by omega) (by omega)
  rw [←hlo]at fr0
  rw [←hhi]at fr1
  simp only [Int.toNat_natCast]at fr0 fr1
  subst e0
  have fR:X.cell? ⟨gR,0,none⟩=some (.slice (some ad0) rs.length cR):=(blk_cell HI.out.bR 0).trans rfl
  clear hsz hlo hhi hen hI hns htk hdr hT hJ ih hrs hd
  refine callsIn_of_wp Try.func134 rfl trivial ?_ rfl
  simp only [Try.ntmps134,List.size_toArray,List.length_cons,List.length_nil,Nat.reduceAdd,Nat.reduceSub,Array.replicate_succ,Array.replicate_zero,List.push_toArray,List.append_toArray,List.nil_append,List.cons_append]
  gi_wp2_with (refine⟨trivial,?_⟩;gi_at_call 107;go_must (refine(callsIn_wide.2 (shelf_Range_size.calls lo hh sz _ HSZ.out)).mono ?_;rintro e w1 ⟨rfl,hb1⟩;have HB1:=Aside0.mk hb1;clear hb1 fR fr0 fr1))
  replace HI:=Aside0.mk (HI.out.below HB1.out)
  replace HJ:=Aside0.mk (hR.stab _ _ _ HJ.out (Turn.of_below HB1.out))
  have hB1:B≤w1.heap.size:=Nat.le_trans hB HB1.out.size
  clear HB1 hB
  have HB:=Aside0.mk hB1
  clear hB1
  gi_loopw [20] (fun v20 wr=>∃(k:Nat) (ns':List Int),v20= .int .i64 (k:Int)∧(k:Int)≤sz∧Aside0 (J (pre++(List.range k).flatMap fun (n:Nat)=>enumP (rs.drop (p.length+1)) (p++ [lo+(n:Int)])) wr)∧Aside0 (ns'.length=11)∧Aside0 (ns'.take p.length=p)∧Aside0 (ns'.drop rs.length=List.replicate (11-rs.length) 0)∧Aside0 (Itr rs l gR gY gN gC (some ad0) cR ns' wr)∧Aside0 (B≤wr.heap.size)) (fun v20 _=>match v20 with| .int _ k=>(sz-k).toNat|_=>0)
  ·exact⟨0,ns,rfl,by omega,by simpa using HJ,HNS,HTK,HDR,HI,HB⟩
  ·obtain⟨k,ns1,rfl,hk,HJ1,HNS1,HTK1,HDR1,HI1,HB1⟩:=hrel
   clear HJ HNS HTK HDR HI HB
   by_cases hlt2:(k:Int) < sz
   ·obtain⟨adx,ex,fr0,fr1⟩:=at_T56 HI1.out.rd p.length (by omega) (by omega)
    cases ex
    rw [←HLO.out]at fr0
    clear fr1
    simp only [Int.toNat_natCast]at fr0
    have fR:wr.cell? ⟨gR,0,none⟩=some (.slice (some ad0) rs.length cR):=(blk_cell HI1.out.bR 0).trans rfl
    have fN:wr.cell? ⟨gN,p.length,none⟩=some (.int .i64 (rd ns1 p.length)):=(blk_cell HI1.out.bN _).trans (by have h_:=nums_at ns1 (p.length:Int) (by omega) (by rw [HNS1.out];omega);rwa [Int.toNat_natCast]at h_)
    have ff:=blk_frozen HI1.out.bN p.length
    have hw1:IntKind.i64.wrap (lo+(k:Int))=lo+(k:Int):=IntWalk.i64_in _ (by omega)
    have hw2:IntKind.i64.wrap ((p.length:Int)+1)=(p.length:Int)+1:=IntWalk.i64_in _ (by omega)
    have HI2:=Aside0.mk (HI1.out.set ha p.length (lo+(k:Int)))
    have fC:=(blk_cell HI2.out.bC 0).trans rfl
    have ht2:(ns1.set p.length (lo+(k:Int))).take (p.length+1)=p++ [lo+(k:Int)]:=by
     rw [List.take_add_one,List.take_set_of_le (Nat.le_refl _),HTK1.out,List.getElem?_set_self (by rw [HNS1.out];omega)]
     rfl
    have hd2:(ns1.set p.length (lo+(k:Int))).drop rs.length=List.replicate (11-rs.length) 0:=by
     rw [List.drop_set_of_lt (by omega),HDR1.out]
    have hpp:=flat_prefix (fun (n:Nat)=>enumP (rs.drop (p.length+1)) (p++ [lo+(n:Int)])) (k:=k+1) (m:=sz.toNat) (by omega)
    have hst:=flat_succ (fun (n:Nat)=>enumP (rs.drop (p.length+1)) (p++ [lo+(n:Int)])) k
    have hpr:(pre++(List.range k).flatMap fun (n:Nat)=>enumP (rs.drop (p.length+1)) (p++ [lo+(n:Int)]))++enumP (rs.drop (p.length+1)) (p++ [lo+(k:Int)]) <+:T:=by
     rw [List.append_assoc,←hst]
     refine List.IsPrefix.trans ?_ HT.out
     rw [HEN.out]
     exact(List.prefix_append_right_inj _).2 hpp
    have hlen:(p++ [lo+(k:Int)]).length=p.length+1:=by simp
    have hcall:=IH.out (p++ [lo+(k:Int)]) _ _ _ (by rw [hlen];have:=HD.out;omega) (by rw [hlen];omega) (by rw [List.length_set];exact HNS1.out) (by rw [hlen];exact ht2) hd2 HI2.out (by rw [World.size_setCell];exact HB1.out) (hR.stab _ _ _ HJ1.out (Turn.set (ho _ (.inr (.inr (.inl rfl)))) _)) (by rw [hlen];exact hpr)
    have HC:=Aside0.mk hcall
    rw [hlen]at HC
    have HST:=Aside0.mk hst
    clear hcall hpr hpp ht2 hd2 hst
    have hcast:((p.length+1:Nat):Int)=(p.length:Int)+1:=by omega
    rw [hcast]at HC
    clear hcast
    gi_wp2_with (refine⟨trivial,?_⟩;gi_at_call 134;go_must (refine(callsIn_any HC.out).mono ?_;clear fr0 fR fN fC ff hw1 hw2;rintro e w2 (⟨rfl,hj2,ns2,hn2,ht2,hd2,hi2⟩|⟨rfl,q,hq,hj2⟩)))
    ·refine⟨⟨k+1,ns2,by simp,by omega,⟨by rw [HST.out,←List.append_assoc];exact hj2⟩,⟨hn2⟩,⟨?_⟩,⟨hd2⟩,⟨hi2⟩,⟨?_⟩⟩,by simp;omega⟩
     ·rw [hlen]at ht2
      have:=congrArg (List.take p.length) ht2
      rw [List.take_take]at this
      simpa using this
     ·have:=blk_lt hi2.bR;omega
    ·go_ret
     exact .inr ⟨rfl,q,hq,hj2⟩
   ·gi_wp2
    go_ret
    have hks:k=sz.toNat:=by omega
    subst hks
    refine .inl ⟨rfl,?_,ns1,HNS1.out,HTK1.out,HDR1.out,HI1.out⟩
    rw [HEN.out]
    exact HJ1.out
end Go.Proofs.Ytjifalohjlihaaa.Q
end
section
namespace Go.Proofs.Ytjifalohjlihaaa.Q
set_option linter.unusedVariables false
open Go.RowKit Go.Shelf Go.Proofs.YtjifalohjlihaaaW.PrintWords Go.Proofs.YtjifalohjlihaaaW.PrintLast Go.Proofs.YtjifalohjlihaaaW.PrintMore
theorem run_store_func {P:Program} {w:World} (a:Addr) (m:Mode) (f:Fn) (rs bs:Array Value):(store a (.func f rs bs) m).run P w=stored P w a (.func f rs bs) m:=run_store P w a _ m rfl
attribute [local go_sem] run_store_func
set_option maxRecDepth 100000 in
set_option maxHeartbeats 3200000 in
theorem truths_seq (x:SA) (l:SL) (g:Nat) (w0:World) (hv:Valid l) (hr:Rd w0 x l) (hg:w0.heap[g]? =some (.cells (x.cells l) 39 (0,0))):SeqZ Try.prog 133 #[.pointer (some ⟨g,0,none⟩)] (enumP l.ranges []) w0:=by
 obtain⟨A1,c1,A2,c2,A3,c3,A4,c4,A5,c5⟩:=x
 intro lab J Jx w hbW h0 hst hstx hy
 have HR:=Aside0.mk (hr.below hbW)
 have BK:=Aside0.mk (blk_below hg hbW)
 have HY:=Aside0.mk hy
 have HST:=Aside0.mk hst
 have HSTX:=Aside0.mk hstx
 have H0:=Aside0.mk h0
 have HV:=Aside0.mk hv
 have n1:l.l1.length≤1000:=by have:=hv.air;have:=hv.last5;omega
 have n3:l.l3.length≤1000:=by have:=hv.cake5;omega
 clear hbW hg hr h0 hst hstx hy hv
 have HB:=Aside0.mk (Below.refl w.heap.size w)
 refine callsIn_wide.2 ?_
 show Calls Try.prog 133 #[.func (.yield lab) #[] #[],.pointer (some ⟨g,0,none⟩)] w _
 go_enter Try.func133,Try.ntmps133
 go_upto_region 4 with(first|((with_reducible refine gate_dst (N:=2) rfl ?_);refine box_event ?hg (N:=2) ?hd (cs:=#[.func (.yield lab) #[] #[]]) (t:=181) ?hr ?_;(case hd=>rfl);(case hg=>rfl);(case hr=>first|(go_simp;done)|(go_simp;rfl));intro gY hg_ w2 hbx_ hb_;have BKY:=Aside0.mk hbx_;have gYge:w.heap.size≤gY:=(by have:=below_size HB.out;omega);have gYGE:=Aside0.mk gYge;clear gYge;have HBn:=Aside0.mk (below_step HB.out hb_);have z_:=Aside0.mk (blk_below BK.out hb_);clear BK;have BK:=z_;clear z_;clear HB hg_ hb_ hbx_;have HB:=HBn;clear HBn;have f0:w2.cell? ⟨g,0,none⟩=some (.int .i64 l.a0):=(blk_cell BK.out 0).trans rfl;have f1:w2.cell? ⟨g,1,none⟩=some (.slice A1 l.l1.length c1):=(blk_cell BK.out 1).trans rfl;have f2:w2.cell? ⟨g,2,none⟩=some (.slice A2 l.l2.length c2):=(blk_cell BK.out 2).trans rfl;have f3:w2.cell? ⟨g,3,none⟩=some (.slice A3 l.l3.length c3):=(blk_cell BK.out 3).trans rfl;have f4:w2.cell? ⟨g,4,none⟩=some (.slice A4 l.l4.length c4):=(blk_cell BK.out 4).trans rfl;have f5:w2.cell? ⟨g,5,none⟩=some (.slice A5 l.l5.length c5):=(blk_cell BK.out 5).trans rfl)|(go_at_call 105;go_must (refine(L_ranges.call ⟨A1,c1,A2,c2,A3,c3,A4,c4,A5,c5⟩ l _ (HR.out.below HB.out) n1 n3).mono ?_;rintro e wG ⟨v0,rfl,ho,hb⟩;have hbd:=(Kd.R_bound ho).1;obtain⟨AL,cL,rfl,hle,hC⟩:=Kd.R_reads ho;have HBD:=Aside0.mk hbd;have hw2:=HB.out.size;have HC:=Aside0.mk hC;replace BKY:=Aside0.mk (blk_below BKY.out hb);replace HB:=Aside0.mk (below_step HB.out hb);clear ho hb hC hle hbd f0 f1 f2 f3 f4 f5 BK)))
 obtain⟨gR,hgR⟩:∃k,k=wG.heap.size:=⟨_,rfl⟩
 obtain⟨gN,hgN⟩:∃k,k=wG.heap.size+1:=⟨_,rfl⟩
 obtain⟨gC,hgC⟩:∃k,k=wG.heap.size+1+1:=⟨_,rfl⟩
 obtain⟨w3,hw3⟩:∃w_,w_=World.alloc (World.alloc (World.alloc wG (Obj.cells #[.slice AL l.ranges.length cL] 31 (0,0))) (Obj.cells #[.int .i64 0,.int .i64 0,.int .i64 0,.int .i64 0,.int .i64 0,.int .i64 0,.int .i64 0,.int .i64 0,.int .i64 0,.int .i64 0,.int .i64 0] 147 (0,0))) (Obj.cells #[.nilFunc] 124 (0,0)):=⟨_,rfl⟩
 have BR:w3.heap[gR]? =some (.cells #[.slice AL l.ranges.length cL] 31 (0,0)):=by rw [hw3,hgR];exact blk_alloc (blk_alloc (blk_new _ _) _) _
 have BN:w3.heap[gN]? =some (.cells (nums .i64 (List.replicate 11 0)).toArray 147 (0,0)):=by
  have h_:=blk_new (World.alloc wG (Obj.cells #[.slice AL l.ranges.length cL] 31 (0,0))) (Obj.cells #[.int .i64 0,.int .i64 0,.int .i64 0,.int .i64 0,.int .i64 0,.int .i64 0,.int .i64 0,.int .i64 0,.int .i64 0,.int .i64 0,.int .i64 0] 147 (0,0))
  rw [World.size_alloc]at h_
  rw [hw3,hgN];exact blk_alloc h_ _
 have BC:w3.heap[gC]? =some (.cells #[.nilFunc] 124 (0,0)):=by
  have h_:=blk_new (World.alloc (World.alloc wG (Obj.cells #[.slice AL l.ranges.length cL] 31 (0,0))) (Obj.cells #[.int .i64 0,.int .i64 0,.int .i64 0,.int .i64 0,.int .i64 0,.int .i64 0,.int .i64 0,.int .i64 0,.int .i64 0,.int .i64 0,.int .i64 0] 147 (0,0))) (Obj.cells #[.nilFunc] 124 (0,0))
  rw [World.size_alloc,World.size_alloc]at h_
  rw [hw3,hgC];exact h_
 have hb3:Below wG.heap.size wG w3:=by rw [hw3];exact below_alloc (below_alloc (below_alloc (Below.refl _ _) _) _) _
 have hsz3:w3.heap.size=wG.heap.size+3:=by rw [hw3];simp
 have hgY:gY < wG.heap.size:=blk_lt BKY.out
 have hgYge:=gYGE.out
 have hwG:=HB.out.size
 have RD:=Kd.C_below HC.out hb3
 replace BKY:=Aside0.mk (blk_below BKY.out hb3)
 rw [←hw3,←hgC,←hgN,←hgR]
 have hrl0:0 < l.ranges.length:=by rw [ranges_length];have:=HV.out.air;have:=HV.out.last0;omega
 have hAL:∀a,AL=some a→w.heap.size≤a.block∧a.block < wG.heap.size:=by
  intro a e
  subst e
  have:=HBD.out a.block rfl
  exact⟨Nat.le_trans hw2 this.2.1,this.2.2.1⟩
 have fC:w3.cell? ⟨gC,0,none⟩=some .nilFunc:=(blk_cell BC 0).trans rfl
 have ff:=blk_frozen BC 0
 have hI3:Itr l.ranges lab gR gY gN gC AL cL (List.replicate 11 0) (w3.setCell ⟨gC,0,none⟩ (.func (.func 134) #[] #[.pointer (some ⟨gR,0,none⟩),.pointer (some ⟨gY,0,none⟩),.pointer (some ⟨gN,0,none⟩),.pointer (some ⟨gC,0,none⟩)])):=by
  refine⟨blk_far BR (show gR≠gC by omega) _,blk_far BKY.out (show gY≠gC by omega) _,blk_far BN (show gN≠gC by omega) _,blk_set BC 0 _,?_⟩
  exact C_block k56_any RD (fun a e=>Below.heap_setCell w3 _ _ a.block (fun hh=>by have h1:=hAL a e;have h2:a.block=gC:=hh;omega))
 have hap:Apart gR gY gN gC AL:=⟨by omega,by omega,by omega,fun a e=>by have:=hAL a e;omega⟩
 have ho:∀k,OwnI gR gY gN gC AL k→w.heap.size≤k:=by
  rintro k (rfl|rfl|rfl|rfl|⟨a,e,rfl⟩)
  ·omega
  ·omega
  ·omega
  ·omega
  ·exact(hAL a e).1
 have hlt3:∀k,OwnI gR gY gN gC AL k→k <(w3.setCell ⟨gC,0,none⟩ (.func (.func 134) #[] #[.pointer (some ⟨gR,0,none⟩),.pointer (some ⟨gY,0,none⟩),.pointer (some ⟨gN,0,none⟩),.pointer (some ⟨gC,0,none⟩)])).heap.size:=by
  rw [World.size_setCell]
  rintro k (rfl|rfl|rfl|rfl|⟨a,e,rfl⟩)
  ·omega
  ·omega
  ·omega
  ·omega
  ·have:=(hAL a e).2;omega
 have hturn:Turn (OwnI gR gY gN gC AL) w (w3.setCell ⟨gC,0,none⟩ (.func (.func 134) #[] #[.pointer (some ⟨gR,0,none⟩),.pointer (some ⟨gY,0,none⟩),.pointer (some ⟨gN,0,none⟩),.pointer (some ⟨gC,0,none⟩)])):=
  (Turn.of_below ((HB.out.trans (hb3.mono hwG)).mono (Nat.le_refl _))).trans (Turn.set (.inr (.inr (.inr (.inl rfl)))) _)
 have hlen:l.ranges.length≤11:=by rw [ranges_length];have:=HV.out.air;have:=HV.out.last5;have:=HV.out.cake5;omega
 have hRd:Rounds (enumP l.ranges []) lab w.heap.size (OwnI gR gY gN gC AL) (J (OwnI gR gY gN gC AL)) (Jx (OwnI gR gY gN gC AL)):=
  ⟨fun s X Y h t=>HST.out _ s X Y ho h t,fun pre x X h p b=>HY.out _ pre x X ho h p b⟩
 have hcall:=choose_calls (ranges_all HV.out.airs (fun i h0 h1=>have h_:=(HV.out.cakes i h0 h1).2.2;⟨h_.1,h_.2.1,h_.2.2.1⟩)) hlen (by omega) (fun k h=>h) hap hRd l.ranges.length [] [] _ _ (by simp) (by simp) (by simp) rfl (List.drop_replicate ..) hI3 (by rw [World.size_setCell,hsz3];omega) (H0.out _ _ ho hlt3 hturn) (by simp)
 have HI3:=Aside0.mk hI3
 have HO:=Aside0.mk ho
 have HC2:=Aside0.mk hcall
 clear hcall hlt3 hI3 hap ho hturn hRd hAL HBD BR BN RD HC hw3 hsz3 hgR hgN hgC hgY hgYge hb3
 have fC2:(w3.setCell ⟨gC,0,none⟩ (.func (.func 134) #[] #[.pointer (some ⟨gR,0,none⟩),.pointer (some ⟨gY,0,none⟩),.pointer (some ⟨gN,0,none⟩),.pointer (some ⟨gC,0,none⟩)])).cell? ⟨gC,0,none⟩=some (.func (.func 134) #[] #[.pointer (some ⟨gR,0,none⟩),.pointer (some ⟨gY,0,none⟩),.pointer (some ⟨gN,0,none⟩),.pointer (some ⟨gC,0,none⟩)]):=(blk_cell HI3.out.bC 0).trans rfl
 go_wp2_with (go_at_call 134;go_must (refine(callsIn_wide.1 HC2.out).mono ?_;rintro e w5 (⟨rfl,hj,_⟩|⟨rfl,q,hq,hj⟩)))
 ·go_end0
  exact⟨⟨_,rfl⟩,.inl ⟨_,HO.out,by simpa using hj⟩⟩
 ·go_end0
  exact⟨⟨_,rfl⟩,.inr ⟨_,q,HO.out,hq,hj⟩⟩
set_option maxRecDepth 100000 in
set_option maxHeartbeats 1600000 in
theorem truths_calls (x:SA) (l:SL) (w:World):Calls Try.prog 114 #[.agg (x.cells l)] w fun e w'=>∃g,e= .returned (.func (.func 133) #[] #[.pointer (some ⟨g,0,none⟩)])∧w'.heap[g]? =some (.cells (x.cells l) 39 (0,0))∧Below w.heap.size w w':=by
 obtain⟨A1,c1,A2,c2,A3,c3,A4,c4,A5,c5⟩:=x
 have HB:=Aside0.mk (Below.refl w.heap.size w)
 go_enter Try.func114,Try.ntmps114
 go_wp2_with (first|((with_reducible refine gate_dst (N:=1) rfl ?_);refine box_event ?hg (N:=1) ?hd (cs:=#[.int .i64 l.a0,.slice A1 l.l1.length c1,.slice A2 l.l2.length c2,.slice A3 l.l3.length c3,.slice A4 l.l4.length c4,.slice A5 l.l5.length c5]) (t:=39) ?hr ?_;(case hd=>rfl);(case hg=>rfl);(case hr=>first|(go_simp;done)|(go_simp;rfl));intro g hg_ w2 hbx_ hb_;have BK:=Aside0.mk hbx_;have gge:w.heap.size≤g:=(by have:=below_size HB.out;omega);have gGE:=Aside0.mk gge;clear gge;have HBn:=Aside0.mk (below_step HB.out hb_);clear HB hg_ hb_ hbx_;have HB:=HBn;clear HBn))
 go_ret
 exact⟨g,rfl,BK.out,HB.out⟩
end Go.Proofs.Ytjifalohjlihaaa.Q
end
section
namespace Go.Proofs.Ytjifalohjlihaaa.Q
set_option linter.unusedVariables false
open Go.RowKit Go.Shelf Go.Proofs.YtjifalohjlihaaaW.PrintWords Go.Proofs.YtjifalohjlihaaaW.PrintLast Go.Proofs.YtjifalohjlihaaaW.PrintMore
theorem rd_small {ns:List Int} (h:∀a∈ns,0≤a∧a≤40) (i:Int):0≤rd ns i∧rd ns i≤40:=by
 unfold rd
 rw [List.getD_eq_getElem?_getD]
 cases e:ns[i.toNat]? with
 |none=>simp
 |some a=>exact h a (List.mem_of_getElem? e)
theorem enumP_all:∀(rs:List S56) (p:List Int),p.length+rs.length≤11→(∀r∈rs,0≤r.f0∧r.f1≤40)→(∀a∈p,0≤a∧a≤40)→∀ns∈enumP rs p,ns.length=11∧∀a∈ns,0≤a∧a≤40:=by
 intro rs
 induction rs with
 |nil=>
  intro p hl _ hp ns hns
  simp only [enumP,List.mem_singleton]at hns
  subst hns
  refine⟨by simp at hl ⊢;omega,fun a ha=> ?_⟩
  rcases List.mem_append.1 ha with h|h
  ·exact hp a h
  ·rw [List.eq_of_mem_replicate h];omega
 |cons r t ih=>
  intro p hl hr hp ns hns
  simp only [enumP,List.mem_flatMap,List.mem_range]at hns
  obtain⟨n,hn,hns⟩:=hns
  refine ih _ (by simp at hl ⊢;omega) (fun r' h'=>hr r' (List.mem_cons_of_mem _ h')) (fun a ha=> ?_) ns hns
  rcases List.mem_append.1 ha with h|h
  ·exact hp a h
  ·have hr0:=hr r List.mem_cons_self
   rw [List.mem_singleton.1 h]
   omega
theorem mem_rd_T {rs:List S56} {r:S56} (h:r∈rs):∃i:Int,0≤i∧i < rs.length∧rd_T56 rs i=r:=by
 obtain⟨i,hi,e⟩:=List.getElem_of_mem h
 refine⟨i,by omega,by omega,?_⟩
 unfold rd_T56
 rw [Int.toNat_natCast,List.getD_eq_getElem?_getD,List.getElem?_eq_getElem hi,e];rfl
theorem Valid.ranges {l:SL} (hv:Valid l):∀i:Int,0≤i→i < l.ranges.length→0≤(rd_T56 l.ranges i).f0∧(rd_T56 l.ranges i).f0≤(rd_T56 l.ranges i).f1∧(rd_T56 l.ranges i).f1≤40:=
 ranges_all hv.airs (fun i h0 h1=>have h_:=(hv.cakes i h0 h1).2.2;⟨h_.1,h_.2.1,h_.2.2.1⟩)
theorem Valid.num {l:SL} (hv:Valid l) {ns:List Int} (h:ns∈enumP l.ranges []):Num ns:=by
 have hl:l.ranges.length≤11:=by rw [ranges_length];have:=hv.air;have:=hv.last5;have:=hv.cake5;omega
 obtain⟨h1,h2⟩:=enumP_all l.ranges [] (by simpa using hl) (fun r hr=>by obtain⟨i,h0,h1,rfl⟩:=mem_rd_T hr;have:=hv.ranges i h0 h1;exact⟨this.1,this.2.2⟩) (by simp) ns h
 exact⟨h1,rd_small h2⟩
def SL.possible (l:SL) (out:List Int):Bool:=(enumP l.ranges []).any fun ns=>l.right ns out
theorem Turn.blk {Own:Nat→Prop} {X Y:World} {g:Nat} {o:Obj} (ht:Turn Own X Y) (h:X.heap[g]? =some o) (hn:¬Own g):Y.heap[g]? =some o:=(ht.block g (blk_lt h) hn).trans h
attribute [local go_sem] Oper.semAt_some
structure PosI (w wT:World) (x:SA) (l:SL) (B:Option Addr) (n cB g2 g3 g4:Nat) (b:Bool) (Own:Nat→Prop) (X:World):Prop where
 bel:Below w.heap.size w X
 size:wT.heap.size≤X.heap.size
 lt:∀k,Own k→k < X.heap.size
 b2:X.heap[g2]? =some (.cells (x.cells l) 39 (0,0))
 b3:X.heap[g3]? =some (.cells #[.slice B n cB] 25 (0,0))
 b4:X.heap[g4]? =some (.cells #[.bool b] 4 (0,0))
theorem PosI.turn {w wT:World} {x:SA} {l:SL} {B:Option Addr} {n cB g2 g3 g4:Nat} {b:Bool} {Own:Nat→Prop} {X Y:World} (h:PosI w wT x l B n cB g2 g3 g4 b Own X) (hw:w.heap.size≤wT.heap.size) (h2:g2 < wT.heap.size) (h3:g3 < wT.heap.size) (h4:g4 < wT.heap.size)
  (ho:∀k,Own k→wT.heap.size≤k) (ht:Turn Own X Y):PosI w wT x l B n cB g2 g3 g4 b Own Y:=
 ⟨Turn.below h.bel ht (fun k hk=>Nat.le_trans hw (ho k hk)) h.bel.size,Nat.le_trans h.size ht.size,fun k hk=>Nat.lt_of_lt_of_le (h.lt k hk) ht.size,ht.blk h.b2 (fun hh=>by have:=ho _ hh;omega),ht.blk h.b3 (fun hh=>by have:=ho _ hh;omega),ht.blk h.b4 (fun hh=>by have:=ho _ hh;omega)⟩
theorem results_cell {P:Program} {fn:Func} {t:TypeId} {a:Tmp} (h:fn.results=#[.cell a t]) {tmps:Array Value} {w:World} {g:Nat} {v:Value} (ht:tmps.getD a undef= .pointer (some ⟨g,0,none⟩)) (hl:(loadVar t ⟨g,0,none⟩).run P w= .ok v w):(results fn tmps).run P w= .ok v w:=by
 rw [Array.getD_eq_getD_getElem?]at ht
 simp [results,h,ht,asAddr,hl]
theorem mark_ret {P:Program} {fn:Func} {tmps:Array Value} {R:Ending→World→Prop} {D:Nat} {X:World} {v:Value} (hD:X.heap[D]? =some (.deferred (some []))) (hr:(results fn tmps).run P (X.putObj D (.deferred none))= .ok v (X.putObj D (.deferred none))) (hR:R (.returned v) (X.putObj D (.deferred none))):
  bodyPostM Fence.wide 2 P fn R .ret {tmps:=tmps,defers:= [{target:= .collected D,args:=#[]}]} X:=
 ⟨by simp,.inl ⟨D,_,rfl,run_takeDeferred hD,v,hr,hR⟩⟩
theorem plain_ret {P:Program} {fn:Func} {tmps:Array Value} {R:Ending→World→Prop} {X:World} {v:Value} (hr:(results fn tmps).run P X= .ok v X) (hR:R (.returned v) X):
  bodyPostM Fence.wide 2 P fn R .ret {tmps:=tmps,defers:= []} X:=⟨v,hr,hR⟩
theorem load_bool {w:World} {g:Nat} {b:Bool} {c:TypeId} (h:w.heap[g]? =some (.cells #[.bool b] c (0,0))):(loadVar 4 ⟨g,0,none⟩).run Try.prog w= .ok (.bool b) w:=by
 have h1:w.cell? ⟨g,0,none⟩=some (.bool b):=(blk_cell h 0).trans rfl
 simp [go_sem,h1,loadVar]
theorem below_put {B:Nat} {w X:World} (h:Below B w X) {D:Nat} (hD:B≤D) (o:Obj):Below B w (X.putObj D o):=
 ⟨h.os,h.tape,h.output,Nat.le_trans h.size (by simp [World.putObj]),fun k hk=>(World.putObj_heap_other (by omega)).trans (h.block k hk)⟩
set_option maxRecDepth 100000 in
set_option maxHeartbeats 3200000 in
theorem L_possible.calls (x:SA) (l:SL) (B:Option Addr) (cB:Nat) (out:List Int) (w:World) (hr:Rd w x l) (hv:Valid l) (hB:Kd.C (Kd.int .i64) w B out.length out) (hcB:out.length≤cB) (hol:out.length≤1000000):
  Calls Try.prog 86 #[.agg (x.cells l),.slice B out.length cB] w fun e w'=>e= .returned (.bool (l.possible out))∧Below w.heap.size w w':=by
 obtain⟨A1,c1,A2,c2,A3,c3,A4,c4,A5,c5⟩:=x
 have HB:=Aside0.mk (Below.refl w.heap.size w)
 have HR:=Aside0.mk hr
 have HV:=Aside0.mk hv
 have HBO:=Aside0.mk hB
 clear hr hv hB
 refine callsIn_wide.1 (callsIn_of_wp_marks (n:=2) Try.func86 rfl trivial ?_ rfl)
 refine wpIn_wide.2 ?_
 simp only [Try.ntmps86,List.size_toArray,List.length_cons,List.length_nil,Nat.reduceAdd,Nat.reduceSub,Array.replicate_succ,Array.replicate_zero,List.push_toArray,List.append_toArray,List.nil_append,List.cons_append]
 go_upto_region 1 with(first|((with_reducible refine gate_dst (N:=2) rfl ?_);refine box_event ?hg (N:=2) ?hd (cs:=#[.int .i64 l.a0,.slice A1 l.l1.length c1,.slice A2 l.l2.length c2,.slice A3 l.l3.length c3,.slice A4 l.l4.length c4,.slice A5 l.l5.length c5]) (t:=39) ?hr ?_;(case hd=>rfl);(case hg=>rfl);(case hr=>first|(go_simp;done)|(go_simp;rfl));intro g2 hg_ w2 hbx_ hb_;have BK2:=Aside0.mk hbx_;have g2ge:w.heap.size≤g2:=(by have:=below_size HB.out;omega);have g2GE:=Aside0.mk g2ge;clear g2ge;have HBn:=Aside0.mk (below_step HB.out hb_);clear HB hg_ hb_ hbx_;have HB:=HBn;clear HBn)|((with_reducible refine gate_dst (N:=3) rfl ?_);refine box_event ?hg (N:=3) ?hd (cs:=#[.slice B out.length cB]) (t:=25) ?hr ?_;(case hd=>rfl);(case hg=>rfl);(case hr=>first|(go_simp;done)|(go_simp;rfl));intro g3 hg_ w3 hbx_ hb_;have BK3:=Aside0.mk hbx_;have g3ge:w.heap.size≤g3:=(by have:=below_size HB.out;omega);have g3GE:=Aside0.mk g3ge;clear g3ge;have HBn:=Aside0.mk (below_step HB.out hb_);have z_:=Aside0.mk (blk_below BK2.out hb_);clear BK2;have BK2:=z_;clear z_;clear HB hg_ hb_ hbx_;have HB:=HBn;clear HBn))
 obtain⟨g4,hg_⟩:∃g_,g_=w3.heap.size:=⟨_,rfl⟩
 obtain⟨w4,hw_⟩:∃w_,w_=World.alloc w3 (Obj.cells #[.bool false] 4):=⟨_,rfl⟩
 have hb_:Below w3.heap.size w3 w4:=by rw [hw_];exact below_alloc (Below.refl _ _) _
 have BK4:Aside0 (w4.heap[g4]? =some (Obj.cells #[.bool false] 4)):=⟨by rw [hw_,hg_];exact blk_new _ _⟩
 have g4GE:Aside0 (w.heap.size≤g4):=⟨by have:=below_size HB.out;rw [hg_];exact this⟩
 replace BK2:=Aside0.mk (blk_below BK2.out hb_)
 replace BK3:=Aside0.mk (blk_below BK3.out hb_)
 replace HB:=Aside0.mk (below_step HB.out hb_)
 rw [←hw_,←hg_]
 clear hw_ hg_ hb_
 have f0:w4.cell? ⟨g2,0,none⟩=some (.int .i64 l.a0):=(blk_cell BK2.out 0).trans rfl
 have f1:w4.cell? ⟨g2,1,none⟩=some (.slice A1 l.l1.length c1):=(blk_cell BK2.out 1).trans rfl
 have f2:w4.cell? ⟨g2,2,none⟩=some (.slice A2 l.l2.length c2):=(blk_cell BK2.out 2).trans rfl
 have f3:w4.cell? ⟨g2,3,none⟩=some (.slice A3 l.l3.length c3):=(blk_cell BK2.out 3).trans rfl
 have f4:w4.cell? ⟨g2,4,none⟩=some (.slice A4 l.l4.length c4):=(blk_cell BK2.out 4).trans rfl
 have f5:w4.cell? ⟨g2,5,none⟩=some (.slice A5 l.l5.length c5):=(blk_cell BK2.out 5).trans rfl
 go_wp2_with (go_at_call 114;go_must (refine(truths_calls ⟨A1,c1,A2,c2,A3,c3,A4,c4,A5,c5⟩ l _).mono ?_;clear f0 f1 f2 f3 f4 f5;rintro e wT ⟨gT,rfl,hgT,hb⟩;have HGT:=Aside0.mk hgT;replace BK2:=Aside0.mk (blk_below BK2.out hb);replace BK3:=Aside0.mk (blk_below BK3.out hb);replace BK4:=Aside0.mk (blk_below BK4.out hb);replace HB:=Aside0.mk (below_step HB.out hb);clear hb hgT))
 have hT0:=HB.out.size
 have hg2:g2 < wT.heap.size:=blk_lt BK2.out
 have hg3:g3 < wT.heap.size:=blk_lt BK3.out
 have hg4:g4 < wT.heap.size:=blk_lt BK4.out
 have g2ge:=g2GE.out
 have g3ge:=g3GE.out
 have g4ge:=g4GE.out
 refine rangeZ (T:=enumP l.ranges []) rfl (fun args w=>rfl) (truths_seq ⟨A1,c1,A2,c2,A3,c3,A4,c4,A5,c5⟩ l gT wT HV.out (HR.out.below HB.out) HGT.out) (Below.refl _ _)
  (fun Own pre X=>PosI w wT ⟨A1,c1,A2,c2,A3,c3,A4,c4,A5,c5⟩ l B out.length cB g2 g3 g4 false Own X∧pre.any (fun ns=>l.right ns out)=false)
  (fun Own pre X=>PosI w wT ⟨A1,c1,A2,c2,A3,c3,A4,c4,A5,c5⟩ l B out.length cB g2 g3 g4 true Own X∧pre.any (fun ns=>l.right ns out)=true)
  (fun Own pre x a' X=>PosI w wT ⟨A1,c1,A2,c2,A3,c3,A4,c4,A5,c5⟩ l B out.length cB g2 g3 g4 false Own X∧pre.any (fun ns=>l.right ns out)=false∧∃g5,w.heap.size≤g5∧¬Own g5∧X.heap[g5]? =some (.cells (lit11 x) 147 (0,0))∧a'= {tmps:=#[.agg #[.int .i64 l.a0,.slice A1 l.l1.length c1,.slice A2 l.l2.length c2,.slice A3 l.l3.length c3,.slice A4 l.l4.length c4,.slice A5 l.l5.length c5],.slice B out.length cB,.pointer (some ⟨g2,0,none⟩),.pointer (some ⟨g3,0,none⟩),.pointer (some ⟨g4,0,none⟩),.pointer (some ⟨g5,0,none⟩),.agg #[.int .i64 l.a0,.slice A1 l.l1.length c1,.slice A2 l.l2.length c2,.slice A3 l.l3.length c3,.slice A4 l.l4.length c4,.slice A5 l.l5.length c5],.func (.func 133) #[] #[.pointer (some ⟨gT,0,none⟩)],.agg (lit11 x),undef,undef,undef,undef],defers:= []})
  ?h0 ?hI ?hIx ?hAx ?hassign ?hbody ?hdone ?hstop
 case h0=>
  intro Own X ho hlt ht
  exact⟨⟨Turn.below HB.out ht (fun k hk=>Nat.le_trans hT0 (ho k hk)) hT0,ht.size,hlt,ht.blk BK2.out (fun hh=>by have:=ho _ hh;omega),ht.blk BK3.out (fun hh=>by have:=ho _ hh;omega),ht.blk BK4.out (fun hh=>by have:=ho _ hh;omega)⟩,rfl⟩
 case hI=>exact fun Own s X Y ho h ht=>⟨h.1.turn hT0 hg2 hg3 hg4 ho ht,h.2⟩
 case hIx=>exact fun Own s X Y ho h ht=>⟨h.1.turn hT0 hg2 hg3 hg4 ho ht,h.2⟩
 case hAx=>
  rintro Own s x a' X Y ho ⟨h1,h2,g5,h3,h4,h5,h6⟩ ht
  exact⟨h1.turn hT0 hg2 hg3 hg4 ho ht,h2,g5,h3,h4,ht.blk h5 h4,h6⟩
 case hassign=>
  intro Own lab pre x X K ho hI hpre hX hK
  obtain⟨h1,h2⟩:=hI
  simp only [List.setIfInBounds_toArray,List.set_cons_succ,List.set_cons_zero]
  gi_wp2
  have hba:=below_alloc (Below.refl X.heap.size X) (Obj.cells (lit11 x) 147 (0,0))
  exact hK _ _ (fun k hk hlt=>hba.block k hlt) ⟨h1.turn hT0 hg2 hg3 hg4 ho (Turn.of_below hba),h2,X.heap.size,h1.bel.size,fun hh=>by have:=h1.lt _ hh;omega,blk_new _ _,rfl⟩
 case hbody=>
  rintro Own lab pre x a' X ho ⟨h1,h2,g5,g5ge,h3,h5,rfl⟩ hpre
  have HN:=Aside0.mk (HV.out.num (ns:=x) (hpre.subset (by simp)))
  have H2:=Aside0.mk h2
  have H1:=Aside0.mk h1
  have HO:=Aside0.mk ho
  have BN:=Aside0.mk h5
  have N5:=Aside0.mk h3
  have f0:X.cell? ⟨g2,0,none⟩=some (.int .i64 l.a0):=(blk_cell H1.out.b2 0).trans rfl
  have f1:X.cell? ⟨g2,1,none⟩=some (.slice A1 l.l1.length c1):=(blk_cell H1.out.b2 1).trans rfl
  have f2:X.cell? ⟨g2,2,none⟩=some (.slice A2 l.l2.length c2):=(blk_cell H1.out.b2 2).trans rfl
  have f3:X.cell? ⟨g2,3,none⟩=some (.slice A3 l.l3.length c3):=(blk_cell H1.out.b2 3).trans rfl
  have f4:X.cell? ⟨g2,4,none⟩=some (.slice A4 l.l4.length c4):=(blk_cell H1.out.b2 4).trans rfl
  have f5:X.cell? ⟨g2,5,none⟩=some (.slice A5 l.l5.length c5):=(blk_cell H1.out.b2 5).trans rfl
  have fN_0:X.cell? ⟨g5,0,none⟩=some (.int .i64 (rd x 0)):=(blk_cell BN.out 0).trans rfl
  have fN_1:X.cell? ⟨g5,1,none⟩=some (.int .i64 (rd x 1)):=(blk_cell BN.out 1).trans rfl
  have fN_2:X.cell? ⟨g5,2,none⟩=some (.int .i64 (rd x 2)):=(blk_cell BN.out 2).trans rfl
  have fN_3:X.cell? ⟨g5,3,none⟩=some (.int .i64 (rd x 3)):=(blk_cell BN.out 3).trans rfl
  have fN_4:X.cell? ⟨g5,4,none⟩=some (.int .i64 (rd x 4)):=(blk_cell BN.out 4).trans rfl
  have fN_5:X.cell? ⟨g5,5,none⟩=some (.int .i64 (rd x 5)):=(blk_cell BN.out 5).trans rfl
  have fN_6:X.cell? ⟨g5,6,none⟩=some (.int .i64 (rd x 6)):=(blk_cell BN.out 6).trans rfl
  have fN_7:X.cell? ⟨g5,7,none⟩=some (.int .i64 (rd x 7)):=(blk_cell BN.out 7).trans rfl
  have fN_8:X.cell? ⟨g5,8,none⟩=some (.int .i64 (rd x 8)):=(blk_cell BN.out 8).trans rfl
  have fN_9:X.cell? ⟨g5,9,none⟩=some (.int .i64 (rd x 9)):=(blk_cell BN.out 9).trans rfl
  have fN_10:X.cell? ⟨g5,10,none⟩=some (.int .i64 (rd x 10)):=(blk_cell BN.out 10).trans rfl
  have fB:X.cell? ⟨g3,0,none⟩=some (.slice B out.length cB):=(blk_cell H1.out.b3 0).trans rfl
  clear h1 h2 h3 h5 ho
  gi_wp2_with (refine⟨trivial,?_⟩;gi_at_call 96;go_must (refine(callsIn_round (L_right.calls ⟨A1,c1,A2,c2,A3,c3,A4,c4,A5,c5⟩ l x B cB out _ (HR.out.below H1.out.bel) HV.out HN.out (Kd.C_below HBO.out H1.out.bel) hcB hol)).mono ?_;clear f0 f1 f2 f3 f4 f5 fB fN_0 fN_1 fN_2 fN_3 fN_4 fN_5 fN_6 fN_7 fN_8 fN_9 fN_10;rintro e w6 ⟨rfl,hb6⟩;have H6:=Aside0.mk (H1.out.turn hT0 hg2 hg3 hg4 HO.out (Turn.of_below hb6));have HB6:=Aside0.mk hb6;have fr4:w6.cell? ⟨g4,0,none⟩=some (.bool false):=(blk_cell H6.out.b4 0).trans rfl;have ff4:=blk_frozen H6.out.b4 0;clear hb6;cases hrt:l.right x out))
  all_goals have HRT:=Aside0.mk hrt
  all_goals clear hrt
  ·refine⟨fun k hk hlt=>HB6.out.block k hlt,H6.out,?_⟩
   rw [List.any_append,H2.out]
   simp [HRT.out]
  ·have hne:g4 < wT.heap.size:=hg4
   refine⟨fun k hk hlt=> ?_,⟨below_set H6.out.bel g4ge,?_,?_,blk_far H6.out.b2 ?_ _,blk_far H6.out.b3 ?_ _,blk_set H6.out.b4 0 _⟩,?_⟩
   ·refine(Below.heap_setCell w6 _ _ k (fun hh=> ?_)).trans (HB6.out.block k hlt)
    have h1:=HO.out k hk
    have h2:k=g4:=hh
    omega
   ·rw [World.size_setCell];exact H6.out.size
   ·intro k hk;rw [World.size_setCell];exact H6.out.lt k hk
   ·exact blk_ne H6.out.b2 H6.out.b4 (by decide)
   ·exact blk_ne H6.out.b3 H6.out.b4 (by decide)
   ·rw [List.any_append];simp [HRT.out]
 case hdone=>
  intro Own D X ho hD hoD hI hXD
  have H1:=Aside0.mk hI.1
  have H2:=Aside0.mk hI.2
  have HD:=Aside0.mk hXD
  have fr4:X.cell? ⟨g4,0,none⟩=some (.bool false):=(blk_cell H1.out.b4 0).trans rfl
  have ff4:=blk_frozen H1.out.b4 0
  clear hI hXD
  simp only [Exit.inBlock,Exit.then]
  go_wp2
  have hne:D≠g4:=by omega
  refine mark_ret (D:=D) (v:= .bool false) ((Below.heap_setCell X _ _ D hne).trans HD.out) (results_cell rfl rfl (load_bool (c:=4) ((World.putObj_heap_other (Ne.symm hne)).trans (blk_set H1.out.b4 0 _)))) ?_
  refine⟨?_,below_put (below_set H1.out.bel g4ge) (by omega) _⟩
  unfold SL.possible
  rw [H2.out]
 case hstop=>
  intro Own D pre X ho hD hoD hpre hI hXD
  have H1:=Aside0.mk hI.1
  have H2:=Aside0.mk hI.2
  have HD:=Aside0.mk hXD
  have HP:=Aside0.mk hpre
  clear hI hXD hpre
  gi_wp2
  have hne:D≠g4:=by omega
  refine mark_ret (D:=D) (v:= .bool true) HD.out (results_cell rfl rfl (load_bool (c:=4) ((World.putObj_heap_other (Ne.symm hne)).trans H1.out.b4))) ?_
  refine⟨?_,below_put H1.out.bel (by omega) _⟩
  unfold SL.possible
  obtain⟨t,ht⟩:=HP.out
  rw [←ht,List.any_append,H2.out]
  rfl
end Go.Proofs.Ytjifalohjlihaaa.Q
end
section
namespace Go.Proofs.Ytjifalohjlihaaa.Q
set_option linter.unusedVariables false
open Go.RowKit Go.Proofs.YtjifalohjlihaaaW.PrintWords Go.Proofs.YtjifalohjlihaaaW.PrintLast Go.Proofs.YtjifalohjlihaaaW.PrintMore
theorem key1 (n:Int) (h0:0≤n) (h1:n≤40):Try.prog.keyLits 1 3 [.int .i64 n]=some [.int .i64 n]:=by
 simp only [Program.keyLits,Try.underlying3]
 have h2:IntKind.i64.min= -9223372036854775808:=by rfl
 have h3:IntKind.i64.max=9223372036854775807:=by rfl
 rw [if_pos ⟨trivial,by simp only [Lit.wf,Bool.and_eq_true,decide_eq_true_eq];omega⟩]
theorem mapM_some {α β:Type} {f:α→Option β} {g:α→β}:∀(l:List α),(∀a∈l,f a=some (g a))→l.mapM f=some (l.map g):=by
 intro l
 induction l with
 |nil=>intro _;rfl
 |cons a t ih=>
  intro h
  rw [List.mapM_cons,h a List.mem_cons_self,ih (fun b hb=>h b (List.mem_cons_of_mem _ hb))]
  rfl
theorem cells147:Try.prog.cellsOf 147=11:=by kernel_rfl
theorem cells3:Try.prog.cellsOf 3=1:=by kernel_rfl
theorem under147:Try.prog.underlying 147=some (.array 11 3):=by kernel_rfl
theorem key11 {ns:List Int} (hn:Num ns):Try.prog.keyLits 2 147 (lit11 ns).toList=some ((List.range 11).map fun (j:Nat)=>Lit.int .i64 (rd ns j)):=by
 have h:∀i,i < 11→Try.prog.keyLits 1 3 (((lit11 ns).toList.drop (i*1)).take 1)=some [.int .i64 (rd ns i)]:=by
  intro i hi
  have:((lit11 ns).toList.drop (i*1)).take 1= [.int .i64 (rd ns i)]:=by
   match i,hi with
   |0,_|1,_|2,_|3,_|4,_|5,_|6,_|7,_|8,_|9,_|10,_=>rfl
  rw [this]
  exact key1 _ (hn.small i).1 (hn.small i).2
 unfold Program.keyLits
 simp only [under147,cells147,cells3]
 rw [if_pos (by rfl)]
 have hm:(List.range 11).mapM (fun i=>Try.prog.keyLits 1 3 (((lit11 ns).toList.drop (i*1)).take 1))=some ((List.range 11).map fun (j:Nat)=> [Lit.int .i64 (rd ns j)]):=
  mapM_some _ (fun i hi=>h i (List.mem_range.1 hi))
 rw [hm]
 rfl
theorem num_ext {x y:List Int} (hx:x.length=11) (hy:y.length=11) (h:∀j:Nat,j < 11→rd x j=rd y j):x=y:=by
 apply List.ext_getElem (by omega)
 intro i h1 h2
 have:=h i (by omega)
 simpa [rd,List.getElem?_eq_getElem h1,List.getElem?_eq_getElem h2] using this
theorem neq_run {x y:List Int} (hx:Num x) (hy:Num y) (hne:y≠x) (w:World):(Op.equalIn 10000 147 (.agg (lit11 y)) (.agg (lit11 x))).run Try.prog w= .ok false w:=by
 obtain⟨r,hr,hiff⟩:=run_equalIn_deep (P:=Try.prog) 9998 2 147 (by kernel_rfl) w 2 2 (.agg (lit11 y)) (.agg (lit11 x)) _ _ (by simp [Value.formed,cells147]) (by simp [Value.formed,cells147]) (key11 hy) (key11 hx)
 cases r with
 |false=>exact hr
 |true=>
  refine absurd (num_ext hy.len hx.len fun j hj=> ?_) hne
  have h:=congrArg (fun l=>l[j]?) (hiff.1 rfl)
  simpa [hj] using h
end Go.Proofs.Ytjifalohjlihaaa.Q
end
