/- ShelfStays returns true, whatever its arguments are; the arguments read as they did. There are no conditions. -/
import Derived.Test.YtjifalohjlihaaaA5
import Derived.Below
import Derived.ChangeOld
import Derived.ChangeSlices
import Derived.Deep.Slices
import Derived.Deep.Strs
import Derived.OpenShut
import Derived.ProofKit
import Derived.ShutString
import Derived.SizedLaws
import Derived.WalkKit
import Derived.Test.YtjifalohjlihaaaRows
section
namespace Go.Proofs.Ytjifalohjlihaaa.Q
set_option linter.unusedVariables false
open Go.BigFrame Go.RowKit Go.Shelf Go.Proofs.YtjifalohjlihaaaW.PrintWords Go.Proofs.YtjifalohjlihaaaW.PrintLast Go.Proofs.YtjifalohjlihaaaW.PrintMore
set_option maxRecDepth 100000 in
set_option maxHeartbeats 6400000 in
theorem Loft_calls (x:SA) (r:RL) (w:World) (hr:RRd w x r) (t1:r.l1.length≤1000) (t2:r.l2.length≤1000) (t3:r.l3.length≤1000) (t4:r.l4.length≤1000) (t5:r.l5.length≤1000):
  Calls Try.prog 22 #[.agg (r.cells x)] w fun e w'=>∃x':SA,e= .returned (.agg (x'.cells r.sl))∧Rd w' x' r.sl∧Below w.heap.size w w':=by
 obtain⟨A1,c1,A2,c2,A3,c3,A4,c4,A5,c5⟩:=x
 have HB:=Aside0.mk (Below.refl w.heap.size w)
 have HR:=Aside0.mk hr
 clear hr
 go_enter Try.func22,Try.ntmps22
 go_upto_region 1 with(first|((with_reducible refine gate_dst (N:=1) rfl ?_);refine box_event ?hg (N:=1) ?hd (cs:=#[.int .i64 r.a0,.slice A1 r.l1.length c1,.slice A2 r.l2.length c2,.slice A3 r.l3.length c3,.slice A4 r.l4.length c4,.slice A5 r.l5.length c5]) (t:=28) ?hr ?_;(case hd=>rfl);(case hg=>rfl);(case hr=>first|(go_simp;done)|(go_simp;rfl));intro g1 hg_ w1 hbx_ hb_;have BK1:=Aside0.mk hbx_;have g1ge:w.heap.size≤g1:=(by have:=below_size HB.out;omega);have g1GE:=Aside0.mk g1ge;clear g1ge;have HBn:=Aside0.mk (below_step HB.out hb_);clear HB hg_ hb_ hbx_;have HB:=HBn;clear HBn))
 obtain⟨g2,hg_⟩:∃g_,g_=w1.heap.size:=⟨_,rfl⟩
 obtain⟨w2,hw_⟩:∃w_,w_=World.alloc w1 (Obj.cells #[.int .i64 0,.slice none 0 0,.slice none 0 0,.slice none 0 0,.slice none 0 0,.slice none 0 0] 39):=⟨_,rfl⟩
 have hb_:Below w1.heap.size w1 w2:=by rw [hw_];exact below_alloc (Below.refl _ _) _
 have BK2:Aside0 (w2.heap[g2]? =some (Obj.cells #[.int .i64 0,.slice none 0 0,.slice none 0 0,.slice none 0 0,.slice none 0 0,.slice none 0 0] 39)):=⟨by rw [hw_,hg_];exact blk_new _ _⟩
 have g2GE:Aside0 (w.heap.size≤g2):=⟨by have:=below_size HB.out;rw [hg_];exact this⟩
 replace BK1:=Aside0.mk (blk_below BK1.out hb_)
 replace HB:=Aside0.mk (below_step HB.out hb_)
 rw [←hw_,←hg_]
 clear hw_ hg_ hb_
 refine wp_open 7 _ (fun v=> {tmps:=#[.agg (r.cells ⟨A1,c1,A2,c2,A3,c3,A4,c4,A5,c5⟩),.pointer (some ⟨g1,0,none⟩),.pointer (some ⟨g2,0,none⟩),v 6,undef,undef,undef,undef,undef,undef,v 0,v 1,v 2,v 3,v 4,v 5,undef,undef,undef,undef,undef,undef,undef,undef,undef,undef,undef,undef,undef,undef,undef,undef,undef,undef,undef,undef,undef,undef,undef,undef,undef,undef,undef,undef,undef,undef,undef,undef,undef,undef,undef,undef,undef,undef,undef,undef,undef,undef,undef,undef,undef,undef,undef,undef,undef,undef,undef,undef,undef,undef,undef,undef,undef,undef,undef,undef,undef,undef,undef,undef,undef,undef,undef,undef,undef,undef,undef,undef,undef,undef,undef,undef,undef,undef,undef,undef,undef,undef,undef,undef,undef,undef,undef,undef,undef,undef,undef,undef,undef,undef],defers:= []}) (fun _=>undef) (fun j x X=>match j with
  |0=>x= .pointer (some ⟨g1,0,none⟩)
  |1=>x= .int .i64 r.a0
  |2=>x= .pointer (some ⟨g1,4,none⟩)
  |3=>x= .slice A4 r.l4.length c4
  |4=>∃A c,x= .slice A r.l4.length c∧Kd.R (Kd.int .i64) 3 X w.heap.size (fun _=>True) x r.l4
  |5=>∃A c,x= .agg #[.int .i64 r.a0,.slice none 0 0,.slice none 0 0,.slice none 0 0,.slice A r.l4.length c,.slice none 0 0]∧Kd.R (Kd.int .i64) 3 X w.heap.size (fun _=>True) (.slice A r.l4.length c) r.l4
  |6=>∃g,x= .pointer (some ⟨g,0,none⟩)∧w2.heap.size≤g∧X.heap[g]? =some (.cells #[.int .i64 0,.slice none 0 0,.slice none 0 0,.slice none 0 0,.slice none 0 0,.slice none 0 0] 39 (0,0))
  |_=>True) (fun X=>Below w2.heap.size w2 X) (by kernel_rfl) rfl rfl (by kernel_rfl) rfl (below_drew1 (Below.refl _ _)) ?_ ?_ ?_
 ·intro j hj x X W' hb h
  obtain rfl|rfl|rfl|rfl|rfl|rfl|rfl:j=0∨j=1∨j=2∨j=3∨j=4∨j=5∨j=6:=by omega
  all_goals first
   |exact h
   |(obtain⟨A,c,e,h1⟩:=h;exact⟨A,c,e,Kd.R_below h1 hb⟩)
   |(obtain⟨g,e,h0,h1⟩:=h;exact⟨g,e,h0,blk_below h1 hb⟩)
 ·intro i hi
  obtain rfl|rfl|rfl|rfl|rfl|rfl|rfl:i=0∨i=1∨i=2∨i=3∨i=4∨i=5∨i=6:=by omega
  ·intro v X hB hj K hK
   refine wpOp_step (i:=0) (by rfl) (fun K' hK'=> ?_)
   refine value_ (w1:= ?_) (v:= ?_) (by rfl) rfl ?_ ?_
   rotate_left 2
   ·go_simp
    constructor
    ·rfl
    ·rfl
   exact hK' _ _ (hK _ _ rfl hB (Below.refl _ _))
  ·intro v X hB hj K hK
   have h0:v 0= .pointer (some ⟨g1,0,none⟩):=hj 0 (needs_mem (by kernel_rfl))
   have fc:X.cell? ⟨g1,0,none⟩=some (.int .i64 r.a0):=(blk_cell (blk_below BK1.out hB) 0).trans rfl
   refine wpOp_step (i:=1) (by rfl) (fun K' hK'=> ?_)
   refine value_ (w1:= ?_) (v:= ?_) (by rfl) rfl ?_ ?_
   rotate_left 2
   ·go_simp
    constructor
    ·rfl
    ·rfl
   exact hK' _ _ (hK _ _ rfl hB (Below.refl _ _))
  ·intro v X hB hj K hK
   refine wpOp_step (i:=2) (by rfl) (fun K' hK'=> ?_)
   refine value_ (w1:= ?_) (v:= ?_) (by rfl) rfl ?_ ?_
   rotate_left 2
   ·go_simp
    constructor
    ·rfl
    ·rfl
   exact hK' _ _ (hK _ _ rfl hB (Below.refl _ _))
  ·intro v X hB hj K hK
   have h2:v 2= .pointer (some ⟨g1,4,none⟩):=hj 2 (needs_mem (by kernel_rfl))
   have fc:X.cell? ⟨g1,4,none⟩=some (.slice A4 r.l4.length c4):=(blk_cell (blk_below BK1.out hB) 4).trans rfl
   refine wpOp_step (i:=3) (by rfl) (fun K' hK'=> ?_)
   refine value_ (w1:= ?_) (v:= ?_) (by rfl) rfl ?_ ?_
   rotate_left 2
   ·go_simp
    constructor
    ·rfl
    ·rfl
   exact hK' _ _ (hK _ _ rfl hB (Below.refl _ _))
  ·intro v X hB hj K hK
   have h3:v 3= .slice A4 r.l4.length c4:=hj 3 (needs_mem (by kernel_rfl))
   refine wpOp_step (i:=4) (by rfl) (fun K' hK'=> ?_)
   refine goes_ Try.func23 (by kernel_rfl) rfl #[.slice A4 r.l4.length c4] (by rfl) rfl rfl (by simp only [List.map_toArray,List.map_cons,List.map_nil];show #[v 3]=_;rw [h3]) ?_
   refine(anillaw06_list.calls A4 c4 r.l4 r.l4 X (RRd.below HR.out (below_step HB.out hB)).r4 HR.out.h4 (by unfold anillaw06_list.f;rw [if_pos (by omega)])).mono ?_
   rintro e w' ⟨v0,rfl,ho,hb⟩
   obtain⟨A,c,rfl⟩:=Kd.R_slice ho
   exact⟨_,rfl,hK' _ _ (hK _ _ ⟨A,c,rfl,Kd.R_lower ho (below_step HB.out hB).size⟩ (below_step hB hb) hb)⟩
  ·intro v X hB hj K hK
   have h1:v 1= .int .i64 r.a0:=hj 1 (needs_mem (by kernel_rfl))
   obtain⟨A,c,h4,b4⟩:=hj 4 (needs_mem (by kernel_rfl))
   rw [h4]at b4
   refine wpOp_step (i:=5) (by rfl) (fun K' hK'=> ?_)
   refine value_ (w1:= ?_) (v:= ?_) (by rfl) rfl ?_ ?_
   rotate_left 2
   ·go_simp
    constructor
    ·rfl
    ·rfl
   exact hK' _ _ (hK _ _ ⟨A,c,rfl,b4⟩ hB (Below.refl _ _))
  ·intro v X hB hj K hK
   refine wpOp_step (i:=6) (by rfl) (fun K' hK'=> ?_)
   refine value_ (w1:= ?_) (v:= ?_) (by rfl) rfl ?_ ?_
   rotate_left 2
   ·go_simp
    constructor
    ·rfl
    ·rfl
   exact hK' _ _ (hK _ _ ⟨_,rfl,hB.size,blk_new _ _⟩ (below_alloc hB _) (below_alloc (Below.refl _ _) _))
 ·intro v X hB hj K hK
  obtain⟨A,c,h5,ho⟩:=hj 5 (needs_mem (by kernel_rfl))
  obtain⟨g3,h6,hge,b3⟩:=hj 6 (needs_mem (by kernel_rfl))
  refine wpOp_step (i:=7) (by rfl) (fun K' hK'=> ?_)
  rw [if_pos (by rfl)]
  refine wp_store_row 39 (.tmp 3) (.tmp 15) rfl g3 #[.int .i64 r.a0,.slice none 0 0,.slice none 0 0,.slice none 0 0,.slice A r.l4.length c,.slice none 0 0] h6 h5 39 _ b3 (by kernel_rfl) rfl (by simp [Value.oneCell']) ?_
  refine hK' _ _ (hK _ _ ?_)
  have hne:g3≠g2:=by have:=blk_lt BK2.out;omega
  have hgw:w.heap.size≤g3:=Nat.le_trans HB.out.size hge
  have b1x:=blk_below BK1.out hB
  have HS:=Aside0.mk (show LfS w (X.setRow g3 #[.int .i64 r.a0,.slice none 0 0,.slice none 0 0,.slice none 0 0,.slice A r.l4.length c,.slice none 0 0]) ⟨A1,c1,A2,c2,A3,c3,A4,c4,A5,c5⟩ r g1 g2 g3 (.slice none 0 0) (.slice none 0 0) (.slice none 0 0) (.slice A r.l4.length c) (.slice none 0 0) 0 0 0 0 from
   ⟨below_setRow (below_step HB.out hB) hgw _,by rw [setRow_other _ _ _ _ (blk_ne b1x b3 (by decide))];exact b1x,by rw [setRow_other _ _ _ _ (Ne.symm hne)];exact blk_below BK2.out hB,setRow_heap X g3 _ _ _ _ b3,
    Kd.R_nil _ _ _ _ _,Kd.R_nil _ _ _ _ _,Kd.R_nil _ _ _ _ _,Kd.R_step (Kd.R_mono (Kd.R_types ho b3 (by decide)) (fun k hk=>hk.2)) (fun k hk hlt=>setRow_other _ _ _ _ hk),Kd.R_nil _ _ _ _ _,hgw,g2GE.out,hne⟩)
  generalize X.setRow g3 _=w3 at HS ⊢
  show Exit.then _ _ .normal ((fun v=> {tmps:=#[.agg (r.cells ⟨A1,c1,A2,c2,A3,c3,A4,c4,A5,c5⟩),.pointer (some ⟨g1,0,none⟩),.pointer (some ⟨g2,0,none⟩),v 6,undef,undef,undef,undef,undef,undef,v 0,v 1,v 2,v 3,v 4,v 5,undef,undef,undef,undef,undef,undef,undef,undef,undef,undef,undef,undef,undef,undef,undef,undef,undef,undef,undef,undef,undef,undef,undef,undef,undef,undef,undef,undef,undef,undef,undef,undef,undef,undef,undef,undef,undef,undef,undef,undef,undef,undef,undef,undef,undef,undef,undef,undef,undef,undef,undef,undef,undef,undef,undef,undef,undef,undef,undef,undef,undef,undef,undef,undef,undef,undef,undef,undef,undef,undef,undef,undef,undef,undef,undef,undef,undef,undef,undef,undef,undef,undef,undef,undef,undef,undef,undef,undef,undef,undef,undef,undef,undef,undef],defers:= []}) v) w3
  dsimp only
  rw [h6]
  clear h5 h6 hj
  generalize v 0=u10
  generalize v 1=u11
  generalize v 2=u12
  generalize v 3=u13
  generalize v 4=u14
  generalize v 5=u15
  clear b1x hgw hne hge b3 ho hB hK hK' K K' BK1 BK2 HB v X
  have f1:w3.cell? ⟨g1,1,none⟩=some (.slice A1 r.l1.length c1):=(blk_cell HS.out.b1 1).trans rfl
  go_wp2
  clear f1
  go_loopw [4] (fun v4 wr=>∃(i:Nat) (V:Value),v4= .int .i64 (i:Int)∧i≤r.l1.length∧Aside0 (LfS w wr ⟨A1,c1,A2,c2,A3,c3,A4,c4,A5,c5⟩ r g1 g2 g3 V (.slice none 0 0) (.slice none 0 0) (.slice A r.l4.length c) (.slice none 0 0) i 0 0 0)) (fun v4 _=>(r.l1.length-intOf v4).toNat)
  case atStart=>exact⟨0,_,rfl,Nat.zero_le _,HS⟩
  case round=>
   clear HS
   obtain⟨i,V,rfl,hi,HS⟩:=hrel
   obtain⟨Ao,co,hV⟩:=Kd.R_slice HS.out.o1
   rw [List.length_map,List.length_take,Nat.min_eq_left hi]at hV
   subst hV
   have HNO:=Aside0.mk (show((r.l1.take i).map cR).length≤1000 by rw [List.length_map,List.length_take];omega)
   by_cases hlt:i < r.l1.length
   ·obtain⟨ad,e,fr0,fr1⟩:=at_T52 HR.out.r1 (i:Int) (by omega) (by omega)
    simp only at e
    subst e
    have hli:(i:Int) <(r.l1.length:Int):=by omega
    have hwi:IntKind.i64.wrap ((i:Int)+1)=(i:Int)+1:=IntWalk.i64_in _ (by omega)
    have HSTEP0:=Aside0.mk (take_map cR r.l1 z52 i hlt)
    obtain⟨x0,hx0⟩:∃v_,v_=(rd_T52 r.l1 (i:Int)).f0:=⟨_,rfl⟩
    obtain⟨x1,hx1⟩:∃v_,v_=(rd_T52 r.l1 (i:Int)).f1:=⟨_,rfl⟩
    simp only [Int.toNat_natCast,←hx0,←hx1]at fr0 fr1
    have HSTEP:=Aside0.mk (show(r.l1.take (i+1)).map cR=(r.l1.take i).map cR++ [⟨x0,x1⟩]by rw [HSTEP0.out,hx0,hx1];rfl)
    clear HSTEP0 hx0 hx1
    have FR0:=Aside0.mk fr0
    have FR1:=Aside0.mk fr1
    clear fr0 fr1
    have fc:wr.cell? ⟨g1,1,none⟩=some (.slice (some ad) r.l1.length c1):=(blk_cell HS.out.b1 1).trans rfl
    go_wp2_with fail
    clear fc
    replace HS:=Aside0.mk (HS.out.below (below_drew1 (Below.refl wr.heap.size wr)))
    refine start_ (n:=12) (S:=fun w'=>w'.cell? ⟨g3,1,none⟩=some (.slice Ao i co)∧w'.cell? ⟨g1,1,none⟩=some (.slice (some ad) r.l1.length c1)∧w'.cell? (ad.add (i*2))=some (.int .i64 x0)∧w'.cell? ⟨(ad.add (i*2)).block,(ad.add (i*2)).off+1,none⟩=some (.int .i64 x1)) (ds:= [11]) #[false,false,false,false,false,false,false,false,false,false,false,false] (by kernel_rfl) rfl rfl ⟨(blk_cell HS.out.b3 1).trans rfl,(blk_cell HS.out.b1 1).trans rfl,((HS.out.bel.cell (World.block_lt_of_cell? w _ FR0.out)).trans FR0.out),((HS.out.bel.cell (World.block_lt_of_cell? w _ FR1.out)).trans FR1.out)⟩ (fun hHeld=> ?_)
    generalize wr.drew=wd at HS hHeld ⊢
    refine pure_ (i:=0) (N:=some 23) (v:= ?_) (a':= ?_) #[true,false,false,false,false,false,false,false,false,false,false,false] rfl rfl (by kernel_rfl) (fun _ _ _ h=>h) (Or.inl ⟨by rfl,?_⟩) ?_ ?_
    rotate_left
    ·intro w'
     go_simp
     with_reducible rfl
    rotate_left
    ·simp only [Act.put,List.setIfInBounds_toArray,List.set_cons_zero,List.set_cons_succ];rfl
    refine take_ (i:=1) (N:=some 24) (v:= ?_) (a':= ?_) #[true,true,false,false,false,false,false,false,false,false,false,false] rfl rfl (by kernel_rfl) (fun _ _ _ h=>h) (Or.inl ⟨by rfl,?_⟩) hHeld ?_ ?_
    rotate_left
    ·rintro w' ⟨s0,s1,s2,s3⟩
     go_simp
     with_reducible rfl
    rotate_left
    ·simp only [Act.put,List.setIfInBounds_toArray,List.set_cons_zero,List.set_cons_succ];rfl
    refine pure_ (i:=2) (N:=some 25) (v:= ?_) (a':= ?_) #[true,true,true,false,false,false,false,false,false,false,false,false] rfl rfl (by kernel_rfl) (fun _ _ _ h=>h) (Or.inl ⟨by rfl,?_⟩) ?_ ?_
    rotate_left
    ·intro w'
     go_simp
     with_reducible rfl
    rotate_left
    ·simp only [Act.put,List.setIfInBounds_toArray,List.set_cons_zero,List.set_cons_succ];rfl
    refine take_ (i:=3) (N:=some 26) (v:= ?_) (a':= ?_) #[true,true,true,true,false,false,false,false,false,false,false,false] rfl rfl (by kernel_rfl) (fun _ _ _ h=>h) (Or.inl ⟨by rfl,?_⟩) hHeld ?_ ?_
    rotate_left
    ·rintro w' ⟨s0,s1,s2,s3⟩
     go_simp
     with_reducible rfl
    rotate_left
    ·simp only [Act.put,List.setIfInBounds_toArray,List.set_cons_zero,List.set_cons_succ];rfl
    refine pure_ (i:=4) (N:=some 27) (v:= ?_) (a':= ?_) #[true,true,true,true,true,false,false,false,false,false,false,false] rfl rfl (by kernel_rfl) (fun _ _ _ h=>h) (Or.inl ⟨by rfl,?_⟩) ?_ ?_
    rotate_left
    ·intro w'
     go_simp
     with_reducible rfl
    rotate_left
    ·simp only [Act.put,List.setIfInBounds_toArray,List.set_cons_zero,List.set_cons_succ];rfl
    refine take_ (i:=5) (N:=some 28) (v:= ?_) (a':= ?_) #[true,true,true,true,true,true,false,false,false,false,false,false] rfl rfl (by kernel_rfl) (fun _ _ _ h=>h) (Or.inl ⟨by rfl,?_⟩) hHeld ?_ ?_
    rotate_left
    ·rintro w' ⟨s0,s1,s2,s3⟩
     go_simp
     with_reducible rfl
    rotate_left
    ·simp only [Act.put,List.setIfInBounds_toArray,List.set_cons_zero,List.set_cons_succ];rfl
    refine take_ (i:=6) (N:=some 29) (v:= ?_) (a':= ?_) #[true,true,true,true,true,true,true,false,false,false,false,false] rfl rfl (by kernel_rfl) (fun _ _ _ h=>h) (Or.inl ⟨by rfl,?_⟩) hHeld ?_ ?_
    rotate_left
    ·rintro w' ⟨s0,s1,s2,s3⟩
     go_simp
     with_reducible rfl
    rotate_left
    ·simp only [Act.put,List.setIfInBounds_toArray,List.set_cons_zero,List.set_cons_succ];rfl
    refine one_ (i:=7) (N:=some 30) #[true,true,true,true,true,true,true,true,false,false,false,false] rfl rfl (by kernel_rfl) (by decide) (fun K hK=> ?_)
    refine goes_ Try.func31 (by kernel_rfl) rfl #[.agg #[.int .i64 x0,.int .i64 x1]] (by rfl) rfl rfl (by(try simp only [List.map_toArray,List.map_cons,List.map_nil]);rfl) ?_
    refine(to_at x0 x1 wd).mono ?_
    rintro e wl ⟨rfl,hb⟩
    refine⟨_,rfl,?_⟩
    replace HS:=Aside0.mk (HS.out.below hb)
    clear hb
    refine hK.out _ _ ⟨(blk_cell HS.out.b3 1).trans rfl,(blk_cell HS.out.b1 1).trans rfl,((HS.out.bel.cell (World.block_lt_of_cell? w _ FR0.out)).trans FR0.out),((HS.out.bel.cell (World.block_lt_of_cell? w _ FR1.out)).trans FR1.out)⟩ (fun hHeld=> ?_)
    clear hK K
    refine norm_ (a':= ?_) ?_ ?_
    rotate_left
    ·show Act.put _ (some 30) _=_;simp only [Act.put,List.setIfInBounds_toArray,List.set_cons_zero,List.set_cons_succ];rfl
    refine one_ (i:=8) (N:=some 31) #[true,true,true,true,true,true,true,true,true,false,false,false] rfl rfl (by kernel_rfl) (by decide) (fun K hK=> ?_)
    refine value_ (w1:= ?_) (v:= ?_) (by rfl) rfl ?_ ?_
    rotate_left 2
    ·go_simp
     constructor
     ·rfl
     ·rfl
    have hba:=below_alloc (Below.refl wl.heap.size wl) (Obj.cells #[.int .i64 x0,.int .i64 x1] 56 (0,0))
    have HNEW:=Aside0.mk (blk_new wl (Obj.cells #[.int .i64 x0,.int .i64 x1] 56 (0,0)))
    replace HS:=Aside0.mk (HS.out.below hba)
    obtain⟨gl,hgl⟩:∃g,g=wl.heap.size:=⟨_,rfl⟩
    obtain⟨wj,hwj⟩:∃w_,w_=World.alloc wl (Obj.cells #[.int .i64 x0,.int .i64 x1] 56 (0,0)):=⟨_,rfl⟩
    rw [←hwj,←hgl]at HNEW
    rw [←hwj]at HS
    rw [←hwj,←hgl]
    clear hwj hgl hba
    refine hK.out _ _ ⟨(blk_cell HS.out.b3 1).trans rfl,(blk_cell HS.out.b1 1).trans rfl,((HS.out.bel.cell (World.block_lt_of_cell? w _ FR0.out)).trans FR0.out),((HS.out.bel.cell (World.block_lt_of_cell? w _ FR1.out)).trans FR1.out)⟩ (fun hHeld=> ?_)
    clear hK K
    refine norm_ (a':= ?_) ?_ ?_
    rotate_left
    ·show Act.put _ (some 31) _=_;simp only [Act.put,List.setIfInBounds_toArray,List.set_cons_zero,List.set_cons_succ];rfl
    refine one_ (i:=9) (N:=some 32) #[true,true,true,true,true,true,true,true,true,true,false,false] rfl rfl (by kernel_rfl) (by decide) (fun K hK=> ?_)
    refine Kd.R_append_rows_step k56 (Rr:=k56.K wj) (w0:=w) w.heap.size (by rfl) (.tmp 24) (.tmp 31) 31 56 (.agg #[.int .i64 0,.int .i64 0]) 16 rfl Try.underlying31 info56 rfl (by decide) (by omega) (.slice Ao i co) ((r.l1.take i).map cR) [⟨x0,x1⟩] (some ⟨gl,0,none⟩) 1 1 (fun k=>k≠g3) (fun _=>False) rfl rfl HS.out.o1 (row_C (enc:=encR) k56_mk (xs:= [⟨x0,x1⟩]) HNEW.out rfl (show 1≤1000 by decide)) (fun x cs h=>by obtain rfl:=k56_open h;exact k56_mkM _ _ _ _) (fun _ hk=>hk.elim) (fun k hk=>by have:=blk_lt HS.out.b3;omega) HS.out.bel HS.out.bel.size (by have:=HNO.out;omega) ?_
    intro v9 w9 ho9 hb9 hg9 hat9
    obtain⟨A9,c9,hv9⟩:=Kd.R_slice ho9
    rw [←HSTEP.out,List.length_map,List.length_take,Nat.min_eq_left (Nat.succ_le_of_lt hlt)]at hv9
    subst hv9
    have B39:=Aside0.mk (blk_grown HS.out.b3 hg9 (Kd.R_ne HS.out.o1 HS.out.b3 (by decide)))
    have B19:=Aside0.mk (blk_grown HS.out.b1 hg9 (Kd.R_ne HS.out.o1 HS.out.b1 (by decide)))
    have HB9:=Aside0.mk hb9
    have HOT:=Aside0.mk (HS.out.put1 hg9 hb9 (by rw [HSTEP.out];exact ho9))
    clear ho9 hb9 hg9 hat9
    refine hK.out _ _ ⟨(blk_cell B39.out 1).trans rfl,(blk_cell B19.out 1).trans rfl,((HB9.out.cell (World.block_lt_of_cell? w _ FR0.out)).trans FR0.out),((HB9.out.cell (World.block_lt_of_cell? w _ FR1.out)).trans FR1.out)⟩ (fun hHeld=> ?_)
    clear hK K
    refine norm_ (a':= ?_) ?_ ?_
    rotate_left
    ·show Act.put _ (some 32) _=_;simp only [Act.put,List.setIfInBounds_toArray,List.set_cons_zero,List.set_cons_succ];rfl
    refine pure_ (i:=10) (N:=some 33) (v:= ?_) (a':= ?_) #[true,true,true,true,true,true,true,true,true,true,true,false] rfl rfl (by kernel_rfl) (fun _ _ _ h=>h) (Or.inl ⟨by rfl,?_⟩) ?_ ?_
    rotate_left
    ·intro w'
     go_simp
     with_reducible rfl
    rotate_left
    ·simp only [Act.put,List.setIfInBounds_toArray,List.set_cons_zero,List.set_cons_succ];rfl
    refine last_ (i:=11) (N:=none) #[true,true,true,true,true,true,true,true,true,true,true,true] rfl rfl (by kernel_rfl) (by decide) (fun K hK=> ?_)
    have fs:=blk_cell B39.out 1
    replace fs:w9.cell? ⟨g3,1,none⟩=some (.slice Ao i co):=fs
    have fz:=blk_frozen B39.out 1
    refine skip_ (w1:= ?_) (by rfl) rfl ?_ ?_
    rotate_left
    ·go_simp
     rfl
    refine hK.out _ _ ?_
    clear hK K fs fz
    refine done_ (by kernel_rfl) ?_
    go_wp2
    exact⟨⟨i+1,_,by simp,by omega,HOT⟩,by simp [intOf];omega⟩
   ·have hie:i=r.l1.length:=by omega
    subst hie
    have hli:(r.l1.length:Int)≤(r.l1.length:Int):=Int.le_refl _
    have fc:wr.cell? ⟨g1,1,none⟩=some (.slice A1 r.l1.length c1):=(blk_cell HS.out.b1 1).trans rfl
    obtain⟨W1,hW⟩:∃v_,v_=Value.slice Ao r.l1.length co:=⟨_,rfl⟩
    rw [←hW]at HS
    obtain⟨A1',c1',hA1⟩:∃A_ c_,A_=Ao∧c_=co:=⟨_,_,rfl,rfl⟩
    rw [←hA1.1,←hA1.2]at hW
    clear hA1
    have HW1:=Aside0.mk hW
    clear hW HNO
    have fn:wr.cell? ⟨g1,2,none⟩=some (.slice A2 r.l2.length c2):=(blk_cell HS.out.b1 2).trans rfl
    go_wp2
    clear fc fn
    go_loopw [5] (fun v5 wr=>∃(i:Nat) (V:Value),v5= .int .i64 (i:Int)∧i≤r.l2.length∧Aside0 (LfS w wr ⟨A1,c1,A2,c2,A3,c3,A4,c4,A5,c5⟩ r g1 g2 g3 W1 V (.slice none 0 0) (.slice A r.l4.length c) (.slice none 0 0) r.l1.length i 0 0)) (fun v5 _=>(r.l2.length-intOf v5).toNat)
    case atStart=>exact⟨0,_,rfl,Nat.zero_le _,HS⟩
    case round=>
     clear HS
     obtain⟨i,V,rfl,hi,HS⟩:=hrel
     obtain⟨Ao,co,hV⟩:=Kd.R_slice HS.out.o2
     rw [List.length_map,List.length_take,Nat.min_eq_left hi]at hV
     subst hV
     have HNO:=Aside0.mk (show((r.l2.take i).map cB).length≤1000 by rw [List.length_map,List.length_take];omega)
     by_cases hlt:i < r.l2.length
     ·obtain⟨ad,e,fr0,fr1⟩:=at_T89 HR.out.r2 (i:Int) (by omega) (by omega)
      simp only at e
      subst e
      have hli:(i:Int) <(r.l2.length:Int):=by omega
      have hwi:IntKind.i64.wrap ((i:Int)+1)=(i:Int)+1:=IntWalk.i64_in _ (by omega)
      have HSTEP0:=Aside0.mk (take_map cB r.l2 z89 i hlt)
      obtain⟨x0,hx0⟩:∃v_,v_=(rd_T89 r.l2 (i:Int)).f0:=⟨_,rfl⟩
      obtain⟨x1,hx1⟩:∃v_,v_=(rd_T89 r.l2 (i:Int)).f1:=⟨_,rfl⟩
      simp only [Int.toNat_natCast,←hx0,←hx1]at fr0 fr1
      have HSTEP:=Aside0.mk (show(r.l2.take (i+1)).map cB=(r.l2.take i).map cB++ [⟨x0,x1⟩]by rw [HSTEP0.out,hx0,hx1];rfl)
      clear HSTEP0 hx0 hx1
      have FR0:=Aside0.mk fr0
      have FR1:=Aside0.mk fr1
      clear fr0 fr1
      have fc:wr.cell? ⟨g1,2,none⟩=some (.slice (some ad) r.l2.length c2):=(blk_cell HS.out.b1 2).trans rfl
      go_wp2_with fail
      clear fc
      replace HS:=Aside0.mk (HS.out.below (below_drew1 (Below.refl wr.heap.size wr)))
      refine start_ (n:=19) (S:=fun w'=>w'.cell? ⟨g3,2,none⟩=some (.slice Ao i co)∧w'.cell? ⟨g1,2,none⟩=some (.slice (some ad) r.l2.length c2)∧w'.cell? (ad.add (i*2))=some (.int .i64 x0)∧w'.cell? ⟨(ad.add (i*2)).block,(ad.add (i*2)).off+1,none⟩=some (.int .i64 x1)) (ds:= [18]) #[false,false,false,false,false,false,false,false,false,false,false,false,false,false,false,false,false,false,false] (by kernel_rfl) rfl rfl ⟨(blk_cell HS.out.b3 2).trans rfl,(blk_cell HS.out.b1 2).trans rfl,((HS.out.bel.cell (World.block_lt_of_cell? w _ FR0.out)).trans FR0.out),((HS.out.bel.cell (World.block_lt_of_cell? w _ FR1.out)).trans FR1.out)⟩ (fun hHeld=> ?_)
      generalize wr.drew=wd at HS hHeld ⊢
      refine pure_ (i:=0) (N:=some 41) (v:= ?_) (a':= ?_) #[true,false,false,false,false,false,false,false,false,false,false,false,false,false,false,false,false,false,false] rfl rfl (by kernel_rfl) (fun _ _ _ h=>h) (Or.inl ⟨by rfl,?_⟩) ?_ ?_
      rotate_left
      ·intro w'
       go_simp
       with_reducible rfl
      rotate_left
      ·simp only [Act.put,List.setIfInBounds_toArray,List.set_cons_zero,List.set_cons_succ];rfl
      refine take_ (i:=1) (N:=some 42) (v:= ?_) (a':= ?_) #[true,true,false,false,false,false,false,false,false,false,false,false,false,false,false,false,false,false,false] rfl rfl (by kernel_rfl) (fun _ _ _ h=>h) (Or.inl ⟨by rfl,?_⟩) hHeld ?_ ?_
      rotate_left
      ·rintro w' ⟨s0,s1,s2,s3⟩
       go_simp
       with_reducible rfl
      rotate_left
      ·simp only [Act.put,List.setIfInBounds_toArray,List.set_cons_zero,List.set_cons_succ];rfl
      refine pure_ (i:=2) (N:=some 43) (v:= ?_) (a':= ?_) #[true,true,true,false,false,false,false,false,false,false,false,false,false,false,false,false,false,false,false] rfl rfl (by kernel_rfl) (fun _ _ _ h=>h) (Or.inl ⟨by rfl,?_⟩) ?_ ?_
      rotate_left
      ·intro w'
       go_simp
       with_reducible rfl
      rotate_left
      ·simp only [Act.put,List.setIfInBounds_toArray,List.set_cons_zero,List.set_cons_succ];rfl
      refine take_ (i:=3) (N:=some 44) (v:= ?_) (a':= ?_) #[true,true,true,true,false,false,false,false,false,false,false,false,false,false,false,false,false,false,false] rfl rfl (by kernel_rfl) (fun _ _ _ h=>h) (Or.inl ⟨by rfl,?_⟩) hHeld ?_ ?_
      rotate_left
      ·rintro w' ⟨s0,s1,s2,s3⟩
       go_simp
       with_reducible rfl
      rotate_left
      ·simp only [Act.put,List.setIfInBounds_toArray,List.set_cons_zero,List.set_cons_succ];rfl
      refine pure_ (i:=4) (N:=some 45) (v:= ?_) (a':= ?_) #[true,true,true,true,true,false,false,false,false,false,false,false,false,false,false,false,false,false,false] rfl rfl (by kernel_rfl) (fun _ _ _ h=>h) (Or.inl ⟨by rfl,?_⟩) ?_ ?_
      rotate_left
      ·intro w'
       go_simp
       with_reducible rfl
      rotate_left
      ·simp only [Act.put,List.setIfInBounds_toArray,List.set_cons_zero,List.set_cons_succ];rfl
      refine take_ (i:=5) (N:=some 46) (v:= ?_) (a':= ?_) #[true,true,true,true,true,true,false,false,false,false,false,false,false,false,false,false,false,false,false] rfl rfl (by kernel_rfl) (fun _ _ _ h=>h) (Or.inl ⟨by rfl,?_⟩) hHeld ?_ ?_
      rotate_left
      ·rintro w' ⟨s0,s1,s2,s3⟩
       go_simp
       with_reducible rfl
      rotate_left
      ·simp only [Act.put,List.setIfInBounds_toArray,List.set_cons_zero,List.set_cons_succ];rfl
      refine pure_ (i:=6) (N:=some 47) (v:= ?_) (a':= ?_) #[true,true,true,true,true,true,true,false,false,false,false,false,false,false,false,false,false,false,false] rfl rfl (by kernel_rfl) (fun _ _ _ h=>h) (Or.inl ⟨by rfl,?_⟩) ?_ ?_
      rotate_left
      ·intro w'
       go_simp
       with_reducible rfl
      rotate_left
      ·simp only [Act.put,List.setIfInBounds_toArray,List.set_cons_zero,List.set_cons_succ];rfl
      refine take_ (i:=7) (N:=some 48) (v:= ?_) (a':= ?_) #[true,true,true,true,true,true,true,true,false,false,false,false,false,false,false,false,false,false,false] rfl rfl (by kernel_rfl) (fun _ _ _ h=>h) (Or.inl ⟨by rfl,?_⟩) hHeld ?_ ?_
      rotate_left
      ·rintro w' ⟨s0,s1,s2,s3⟩
       go_simp
       with_reducible rfl
      rotate_left
      ·simp only [Act.put,List.setIfInBounds_toArray,List.set_cons_zero,List.set_cons_succ];rfl
      refine pure_ (i:=8) (N:=some 49) (v:= ?_) (a':= ?_) #[true,true,true,true,true,true,true,true,true,false,false,false,false,false,false,false,false,false,false] rfl rfl (by kernel_rfl) (fun _ _ _ h=>h) (Or.inl ⟨by rfl,?_⟩) ?_ ?_
      rotate_left
      ·intro w'
       go_simp
       with_reducible rfl
      rotate_left
      ·simp only [Act.put,List.setIfInBounds_toArray,List.set_cons_zero,List.set_cons_succ];rfl
      refine take_ (i:=9) (N:=some 50) (v:= ?_) (a':= ?_) #[true,true,true,true,true,true,true,true,true,true,false,false,false,false,false,false,false,false,false] rfl rfl (by kernel_rfl) (fun _ _ _ h=>h) (Or.inl ⟨by rfl,?_⟩) hHeld ?_ ?_
      rotate_left
      ·rintro w' ⟨s0,s1,s2,s3⟩
       go_simp
       with_reducible rfl
      rotate_left
      ·simp only [Act.put,List.setIfInBounds_toArray,List.set_cons_zero,List.set_cons_succ];rfl
      refine pure_ (i:=10) (N:=some 51) (v:= ?_) (a':= ?_) #[true,true,true,true,true,true,true,true,true,true,true,false,false,false,false,false,false,false,false] rfl rfl (by kernel_rfl) (fun _ _ _ h=>h) (Or.inl ⟨by rfl,?_⟩) ?_ ?_
      rotate_left
      ·intro w'
       go_simp
       with_reducible rfl
      rotate_left
      ·simp only [Act.put,List.setIfInBounds_toArray,List.set_cons_zero,List.set_cons_succ];rfl
      refine take_ (i:=11) (N:=some 52) (v:= ?_) (a':= ?_) #[true,true,true,true,true,true,true,true,true,true,true,true,false,false,false,false,false,false,false] rfl rfl (by kernel_rfl) (fun _ _ _ h=>h) (Or.inl ⟨by rfl,?_⟩) hHeld ?_ ?_
      rotate_left
      ·rintro w' ⟨s0,s1,s2,s3⟩
       go_simp
       with_reducible rfl
      rotate_left
      ·simp only [Act.put,List.setIfInBounds_toArray,List.set_cons_zero,List.set_cons_succ];rfl
      refine pure_ (i:=12) (N:=some 53) (v:= ?_) (a':= ?_) #[true,true,true,true,true,true,true,true,true,true,true,true,true,false,false,false,false,false,false] rfl rfl (by kernel_rfl) (fun _ _ _ h=>h) (Or.inl ⟨by rfl,?_⟩) ?_ ?_
      rotate_left
      ·intro w'
       go_simp
       with_reducible rfl
      rotate_left
      ·simp only [Act.put,List.setIfInBounds_toArray,List.set_cons_zero,List.set_cons_succ];rfl
      refine take_ (i:=13) (N:=some 54) (v:= ?_) (a':= ?_) #[true,true,true,true,true,true,true,true,true,true,true,true,true,true,false,false,false,false,false] rfl rfl (by kernel_rfl) (fun _ _ _ h=>h) (Or.inl ⟨by rfl,?_⟩) hHeld ?_ ?_
      rotate_left
      ·rintro w' ⟨s0,s1,s2,s3⟩
       go_simp
       with_reducible rfl
      rotate_left
      ·simp only [Act.put,List.setIfInBounds_toArray,List.set_cons_zero,List.set_cons_succ];rfl
      refine pure_ (i:=14) (N:=some 55) (v:= ?_) (a':= ?_) #[true,true,true,true,true,true,true,true,true,true,true,true,true,true,true,false,false,false,false] rfl rfl (by kernel_rfl) (fun _ _ _ h=>h) (Or.inl ⟨by rfl,?_⟩) ?_ ?_
      rotate_left
      ·intro w'
       go_simp
       with_reducible rfl
      rotate_left
      ·simp only [Act.put,List.setIfInBounds_toArray,List.set_cons_zero,List.set_cons_succ];rfl
      refine one_ (i:=15) (N:=some 56) #[true,true,true,true,true,true,true,true,true,true,true,true,true,true,true,true,false,false,false] rfl rfl (by kernel_rfl) (by decide) (fun K hK=> ?_)
      refine value_ (w1:= ?_) (v:= ?_) (by rfl) rfl ?_ ?_
      rotate_left 2
      ·go_simp
       constructor
       ·rfl
       ·rfl
      have hba:=below_alloc (Below.refl wd.heap.size wd) (Obj.cells #[.int .i64 x0,.int .i64 x1] 135 (0,0))
      have HNEW:=Aside0.mk (blk_new wd (Obj.cells #[.int .i64 x0,.int .i64 x1] 135 (0,0)))
      replace HS:=Aside0.mk (HS.out.below hba)
      obtain⟨gl,hgl⟩:∃g,g=wd.heap.size:=⟨_,rfl⟩
      obtain⟨wj,hwj⟩:∃w_,w_=World.alloc wd (Obj.cells #[.int .i64 x0,.int .i64 x1] 135 (0,0)):=⟨_,rfl⟩
      rw [←hwj,←hgl]at HNEW
      rw [←hwj]at HS
      rw [←hwj,←hgl]
      clear hwj hgl hba
      refine hK.out _ _ ⟨(blk_cell HS.out.b3 2).trans rfl,(blk_cell HS.out.b1 2).trans rfl,((HS.out.bel.cell (World.block_lt_of_cell? w _ FR0.out)).trans FR0.out),((HS.out.bel.cell (World.block_lt_of_cell? w _ FR1.out)).trans FR1.out)⟩ (fun hHeld=> ?_)
      clear hK K
      refine norm_ (a':= ?_) ?_ ?_
      rotate_left
      ·show Act.put _ (some 56) _=_;simp only [Act.put,List.setIfInBounds_toArray,List.set_cons_zero,List.set_cons_succ];rfl
      refine one_ (i:=16) (N:=some 57) #[true,true,true,true,true,true,true,true,true,true,true,true,true,true,true,true,true,false,false] rfl rfl (by kernel_rfl) (by decide) (fun K hK=> ?_)
      refine Kd.R_append_rows_step k135 (Rr:=k135.K wj) (w0:=w) w.heap.size (by rfl) (.tmp 42) (.tmp 56) 35 135 (.agg #[.int .i64 0,.int .i64 0]) 16 rfl Try.underlying35 info135 rfl (by decide) (by omega) (.slice Ao i co) ((r.l2.take i).map cB) [⟨x0,x1⟩] (some ⟨gl,0,none⟩) 1 1 (fun k=>k≠g3) (fun _=>False) rfl rfl HS.out.o2 (row_C (enc:=encB) k135_mk (xs:= [⟨x0,x1⟩]) HNEW.out rfl (show 1≤1000 by decide)) (fun x cs h=>by obtain rfl:=k135_open h;exact k135_mkM _ _ _ _) (fun _ hk=>hk.elim) (fun k hk=>by have:=blk_lt HS.out.b3;omega) HS.out.bel HS.out.bel.size (by have:=HNO.out;omega) ?_
      intro v9 w9 ho9 hb9 hg9 hat9
      obtain⟨A9,c9,hv9⟩:=Kd.R_slice ho9
      rw [←HSTEP.out,List.length_map,List.length_take,Nat.min_eq_left (Nat.succ_le_of_lt hlt)]at hv9
      subst hv9
      have B39:=Aside0.mk (blk_grown HS.out.b3 hg9 (Kd.R_ne HS.out.o2 HS.out.b3 (by decide)))
      have B19:=Aside0.mk (blk_grown HS.out.b1 hg9 (Kd.R_ne HS.out.o2 HS.out.b1 (by decide)))
      have HB9:=Aside0.mk hb9
      have HOT:=Aside0.mk (HS.out.put2 hg9 hb9 (by rw [HSTEP.out];exact ho9))
      clear ho9 hb9 hg9 hat9
      refine hK.out _ _ ⟨(blk_cell B39.out 2).trans rfl,(blk_cell B19.out 2).trans rfl,((HB9.out.cell (World.block_lt_of_cell? w _ FR0.out)).trans FR0.out),((HB9.out.cell (World.block_lt_of_cell? w _ FR1.out)).trans FR1.out)⟩ (fun hHeld=> ?_)
      clear hK K
      refine norm_ (a':= ?_) ?_ ?_
      rotate_left
      ·show Act.put _ (some 57) _=_;simp only [Act.put,List.setIfInBounds_toArray,List.set_cons_zero,List.set_cons_succ];rfl
      refine pure_ (i:=17) (N:=some 58) (v:= ?_) (a':= ?_) #[true,true,true,true,true,true,true,true,true,true,true,true,true,true,true,true,true,true,false] rfl rfl (by kernel_rfl) (fun _ _ _ h=>h) (Or.inl ⟨by rfl,?_⟩) ?_ ?_
      rotate_left
      ·intro w'
       go_simp
       with_reducible rfl
      rotate_left
      ·simp only [Act.put,List.setIfInBounds_toArray,List.set_cons_zero,List.set_cons_succ];rfl
      refine last_ (i:=18) (N:=none) #[true,true,true,true,true,true,true,true,true,true,true,true,true,true,true,true,true,true,true] rfl rfl (by kernel_rfl) (by decide) (fun K hK=> ?_)
      have fs:=blk_cell B39.out 2
      replace fs:w9.cell? ⟨g3,2,none⟩=some (.slice Ao i co):=fs
      have fz:=blk_frozen B39.out 2
      refine skip_ (w1:= ?_) (by rfl) rfl ?_ ?_
      rotate_left
      ·go_simp
       rfl
      refine hK.out _ _ ?_
      clear hK K fs fz
      refine done_ (by kernel_rfl) ?_
      go_wp2
      exact⟨⟨i+1,_,by simp,by omega,HOT⟩,by simp [intOf];omega⟩
     ·have hie:i=r.l2.length:=by omega
      subst hie
      have hli:(r.l2.length:Int)≤(r.l2.length:Int):=Int.le_refl _
      have fc:wr.cell? ⟨g1,2,none⟩=some (.slice A2 r.l2.length c2):=(blk_cell HS.out.b1 2).trans rfl
      obtain⟨W2,hW⟩:∃v_,v_=Value.slice Ao r.l2.length co:=⟨_,rfl⟩
      rw [←hW]at HS
      obtain⟨A2',c2',hA2⟩:∃A_ c_,A_=Ao∧c_=co:=⟨_,_,rfl,rfl⟩
      rw [←hA2.1,←hA2.2]at hW
      clear hA2
      have HW2:=Aside0.mk hW
      clear hW HNO
      have fn:wr.cell? ⟨g1,3,none⟩=some (.slice A3 r.l3.length c3):=(blk_cell HS.out.b1 3).trans rfl
      go_wp2
      clear fc fn
      go_loopw [6] (fun v6 wr=>∃(i:Nat) (V:Value),v6= .int .i64 (i:Int)∧i≤r.l3.length∧Aside0 (LfS w wr ⟨A1,c1,A2,c2,A3,c3,A4,c4,A5,c5⟩ r g1 g2 g3 W1 W2 V (.slice A r.l4.length c) (.slice none 0 0) r.l1.length r.l2.length i 0)) (fun v6 _=>(r.l3.length-intOf v6).toNat)
      case atStart=>exact⟨0,_,rfl,Nat.zero_le _,HS⟩
      case round=>
       clear HS
       obtain⟨i,V,rfl,hi,HS⟩:=hrel
       obtain⟨Ao,co,hV⟩:=Kd.R_slice HS.out.o3
       rw [List.length_map,List.length_take,Nat.min_eq_left hi]at hV
       subst hV
       have HNO:=Aside0.mk (show((r.l3.take i).map cC).length≤1000 by rw [List.length_map,List.length_take];omega)
       by_cases hlt:i < r.l3.length
       ·obtain⟨ad,e,fr0,fr1,fr2,fr3⟩:=at_T54 HR.out.r3 (i:Int) (by omega) (by omega)
        simp only at e
        subst e
        have hli:(i:Int) <(r.l3.length:Int):=by omega
        have hwi:IntKind.i64.wrap ((i:Int)+1)=(i:Int)+1:=IntWalk.i64_in _ (by omega)
        have HSTEP0:=Aside0.mk (take_map cC r.l3 z54 i hlt)
        obtain⟨x0,hx0⟩:∃v_,v_=(rd_T54 r.l3 (i:Int)).f0:=⟨_,rfl⟩
        obtain⟨x1,hx1⟩:∃v_,v_=(rd_T54 r.l3 (i:Int)).f1.f0:=⟨_,rfl⟩
        obtain⟨x2,hx2⟩:∃v_,v_=(rd_T54 r.l3 (i:Int)).f1.f1:=⟨_,rfl⟩
        obtain⟨x3,hx3⟩:∃v_,v_=(rd_T54 r.l3 (i:Int)).f2:=⟨_,rfl⟩
        simp only [Int.toNat_natCast,←hx0,←hx1,←hx2,←hx3]at fr0 fr1 fr2 fr3
        have HSTEP:=Aside0.mk (show(r.l3.take (i+1)).map cC=(r.l3.take i).map cC++ [⟨x0,⟨x1,x2⟩,x3⟩]by rw [HSTEP0.out,hx0,hx1,hx2,hx3];rfl)
        clear HSTEP0 hx0 hx1 hx2 hx3
        have FR0:=Aside0.mk fr0
        have FR1:=Aside0.mk fr1
        have FR2:=Aside0.mk fr2
        have FR3:=Aside0.mk fr3
        clear fr0 fr1 fr2 fr3
        have fc:wr.cell? ⟨g1,3,none⟩=some (.slice (some ad) r.l3.length c3):=(blk_cell HS.out.b1 3).trans rfl
        have fr0_:=(HS.out.bel.cell (World.block_lt_of_cell? w _ FR0.out)).trans FR0.out
        have fr1_:=(HS.out.bel.cell (World.block_lt_of_cell? w _ FR1.out)).trans FR1.out
        have fr2_:=(HS.out.bel.cell (World.block_lt_of_cell? w _ FR2.out)).trans FR2.out
        have fr3_:=(HS.out.bel.cell (World.block_lt_of_cell? w _ FR3.out)).trans FR3.out
        go_upto_region 14 with(fail)
        obtain⟨g7,hg_⟩:∃g_,g_=wr.heap.size:=⟨_,rfl⟩
        obtain⟨w7,hw_⟩:∃w_,w_=World.alloc wr (Obj.cells #[.int .i64 x0,.int .i64 x1,.int .i64 x2,.int .i64 x3] 54):=⟨_,rfl⟩
        have hb_:Below wr.heap.size wr w7:=by rw [hw_];exact below_alloc (Below.refl _ _) _
        have BK7:Aside0 (w7.heap[g7]? =some (Obj.cells #[.int .i64 x0,.int .i64 x1,.int .i64 x2,.int .i64 x3] 54)):=⟨by rw [hw_,hg_];exact blk_new _ _⟩
        replace HS:=Aside0.mk (HS.out.below hb_)
        rw [←hw_,←hg_]
        clear hw_ hg_ hb_
        clear fc fr0_ fr1_ fr2_ fr3_
        go_wp2_with fail
        replace HS:=Aside0.mk (HS.out.below (below_drew1 (Below.refl w7.heap.size w7)))
        replace BK7:=Aside0.mk (blk_drew BK7.out)
        refine start_ (n:=14) (S:=fun w'=>w'.cell? ⟨g3,3,none⟩=some (.slice Ao i co)∧w'.cell? ⟨g7,0,none⟩=some (.int .i64 x0)∧w'.cell? ⟨g7,1,none⟩=some (.int .i64 x1)∧w'.cell? ⟨g7,2,none⟩=some (.int .i64 x2)∧w'.cell? ⟨g7,3,none⟩=some (.int .i64 x3)) (ds:= [13]) #[false,false,false,false,false,false,false,false,false,false,false,false,false,false] (by kernel_rfl) rfl rfl ⟨(blk_cell HS.out.b3 3).trans rfl,(blk_cell BK7.out 0).trans rfl,(blk_cell BK7.out 1).trans rfl,(blk_cell BK7.out 2).trans rfl,(blk_cell BK7.out 3).trans rfl⟩ (fun hHeld=> ?_)
        generalize w7.drew=wd at HS BK7 hHeld ⊢
        refine pure_ (i:=0) (N:=some 71) (v:= ?_) (a':= ?_) #[true,false,false,false,false,false,false,false,false,false,false,false,false,false] rfl rfl (by kernel_rfl) (fun _ _ _ h=>h) (Or.inl ⟨by rfl,?_⟩) ?_ ?_
        rotate_left
        ·intro w'
         go_simp
         with_reducible rfl
        rotate_left
        ·simp only [Act.put,List.setIfInBounds_toArray,List.set_cons_zero,List.set_cons_succ];rfl
        refine take_ (i:=1) (N:=some 72) (v:= ?_) (a':= ?_) #[true,true,false,false,false,false,false,false,false,false,false,false,false,false] rfl rfl (by kernel_rfl) (fun _ _ _ h=>h) (Or.inl ⟨by rfl,?_⟩) hHeld ?_ ?_
        rotate_left
        ·rintro w' ⟨s0,s1,s2,s3,s4⟩
         go_simp
         with_reducible rfl
        rotate_left
        ·simp only [Act.put,List.setIfInBounds_toArray,List.set_cons_zero,List.set_cons_succ];rfl
        refine pure_ (i:=2) (N:=some 73) (v:= ?_) (a':= ?_) #[true,true,true,false,false,false,false,false,false,false,false,false,false,false] rfl rfl (by kernel_rfl) (fun _ _ _ h=>h) (Or.inl ⟨by rfl,?_⟩) ?_ ?_
        rotate_left
        ·intro w'
         go_simp
         with_reducible rfl
        rotate_left
        ·simp only [Act.put,List.setIfInBounds_toArray,List.set_cons_zero,List.set_cons_succ];rfl
        refine take_ (i:=3) (N:=some 74) (v:= ?_) (a':= ?_) #[true,true,true,true,false,false,false,false,false,false,false,false,false,false] rfl rfl (by kernel_rfl) (fun _ _ _ h=>h) (Or.inl ⟨by rfl,?_⟩) hHeld ?_ ?_
        rotate_left
        ·rintro w' ⟨s0,s1,s2,s3,s4⟩
         go_simp
         with_reducible rfl
        rotate_left
        ·simp only [Act.put,List.setIfInBounds_toArray,List.set_cons_zero,List.set_cons_succ];rfl
        refine pure_ (i:=4) (N:=some 75) (v:= ?_) (a':= ?_) #[true,true,true,true,true,false,false,false,false,false,false,false,false,false] rfl rfl (by kernel_rfl) (fun _ _ _ h=>h) (Or.inl ⟨by rfl,?_⟩) ?_ ?_
        rotate_left
        ·intro w'
         go_simp
         with_reducible rfl
        rotate_left
        ·simp only [Act.put,List.setIfInBounds_toArray,List.set_cons_zero,List.set_cons_succ];rfl
        refine take_ (i:=5) (N:=some 76) (v:= ?_) (a':= ?_) #[true,true,true,true,true,true,false,false,false,false,false,false,false,false] rfl rfl (by kernel_rfl) (fun _ _ _ h=>h) (Or.inl ⟨by rfl,?_⟩) hHeld ?_ ?_
        rotate_left
        ·rintro w' ⟨s0,s1,s2,s3,s4⟩
         go_simp
         with_reducible rfl
        rotate_left
        ·simp only [Act.put,List.setIfInBounds_toArray,List.set_cons_zero,List.set_cons_succ];rfl
        refine pure_ (i:=7) (N:=some 78) (v:= ?_) (a':= ?_) #[true,true,true,true,true,true,false,true,false,false,false,false,false,false] rfl rfl (by kernel_rfl) (fun _ _ _ h=>h) (Or.inl ⟨by rfl,?_⟩) ?_ ?_
        rotate_left
        ·intro w'
         go_simp
         with_reducible rfl
        rotate_left
        ·simp only [Act.put,List.setIfInBounds_toArray,List.set_cons_zero,List.set_cons_succ];rfl
        refine take_ (i:=8) (N:=some 79) (v:= ?_) (a':= ?_) #[true,true,true,true,true,true,false,true,true,false,false,false,false,false] rfl rfl (by kernel_rfl) (fun _ _ _ h=>h) (Or.inl ⟨by rfl,?_⟩) hHeld ?_ ?_
        rotate_left
        ·rintro w' ⟨s0,s1,s2,s3,s4⟩
         go_simp
         with_reducible rfl
        rotate_left
        ·simp only [Act.put,List.setIfInBounds_toArray,List.set_cons_zero,List.set_cons_succ];rfl
        refine one_ (i:=6) (N:=some 77) #[true,true,true,true,true,true,true,true,true,false,false,false,false,false] rfl rfl (by kernel_rfl) (by decide) (fun K hK=> ?_)
        refine goes_ Try.func31 (by kernel_rfl) rfl #[.agg #[.int .i64 x1,.int .i64 x2]] (by rfl) rfl rfl (by(try simp only [List.map_toArray,List.map_cons,List.map_nil]);rfl) ?_
        refine(to_at x1 x2 wd).mono ?_
        rintro e wl ⟨rfl,hb⟩
        refine⟨_,rfl,?_⟩
        replace HS:=Aside0.mk (HS.out.below hb)
        replace BK7:=Aside0.mk (blk_below BK7.out hb)
        clear hb
        refine hK.out _ _ ⟨(blk_cell HS.out.b3 3).trans rfl,(blk_cell BK7.out 0).trans rfl,(blk_cell BK7.out 1).trans rfl,(blk_cell BK7.out 2).trans rfl,(blk_cell BK7.out 3).trans rfl⟩ (fun hHeld=> ?_)
        clear hK K
        refine norm_ (a':= ?_) ?_ ?_
        rotate_left
        ·show Act.put _ (some 77) _=_;simp only [Act.put,List.setIfInBounds_toArray,List.set_cons_zero,List.set_cons_succ];rfl
        refine pure_ (i:=9) (N:=some 80) (v:= ?_) (a':= ?_) #[true,true,true,true,true,true,true,true,true,true,false,false,false,false] rfl rfl (by kernel_rfl) (fun _ _ _ h=>h) (Or.inl ⟨by rfl,?_⟩) ?_ ?_
        rotate_left
        ·intro w'
         go_simp
         with_reducible rfl
        rotate_left
        ·simp only [Act.put,List.setIfInBounds_toArray,List.set_cons_zero,List.set_cons_succ];rfl
        refine one_ (i:=10) (N:=some 81) #[true,true,true,true,true,true,true,true,true,true,true,false,false,false] rfl rfl (by kernel_rfl) (by decide) (fun K hK=> ?_)
        refine value_ (w1:= ?_) (v:= ?_) (by rfl) rfl ?_ ?_
        rotate_left 2
        ·go_simp
         constructor
         ·rfl
         ·rfl
        have hba:=below_alloc (Below.refl wl.heap.size wl) (Obj.cells #[.int .i64 x0,.int .i64 x1,.int .i64 x2,.int .i64 x3] 126 (0,0))
        have HNEW:=Aside0.mk (blk_new wl (Obj.cells #[.int .i64 x0,.int .i64 x1,.int .i64 x2,.int .i64 x3] 126 (0,0)))
        replace HS:=Aside0.mk (HS.out.below hba)
        replace BK7:=Aside0.mk (blk_below BK7.out hba)
        obtain⟨gl,hgl⟩:∃g,g=wl.heap.size:=⟨_,rfl⟩
        obtain⟨wj,hwj⟩:∃w_,w_=World.alloc wl (Obj.cells #[.int .i64 x0,.int .i64 x1,.int .i64 x2,.int .i64 x3] 126 (0,0)):=⟨_,rfl⟩
        rw [←hwj,←hgl]at HNEW
        rw [←hwj]at HS BK7
        rw [←hwj,←hgl]
        clear hwj hgl hba
        refine hK.out _ _ ⟨(blk_cell HS.out.b3 3).trans rfl,(blk_cell BK7.out 0).trans rfl,(blk_cell BK7.out 1).trans rfl,(blk_cell BK7.out 2).trans rfl,(blk_cell BK7.out 3).trans rfl⟩ (fun hHeld=> ?_)
        clear hK K
        refine norm_ (a':= ?_) ?_ ?_
        rotate_left
        ·show Act.put _ (some 81) _=_;simp only [Act.put,List.setIfInBounds_toArray,List.set_cons_zero,List.set_cons_succ];rfl
        refine one_ (i:=11) (N:=some 82) #[true,true,true,true,true,true,true,true,true,true,true,true,false,false] rfl rfl (by kernel_rfl) (by decide) (fun K hK=> ?_)
        refine Kd.R_append_rows_step k126 (Rr:=k126.K wj) (w0:=w) w.heap.size (by rfl) (.tmp 72) (.tmp 81) 36 126 (.agg #[.int .i64 0,.int .i64 0,.int .i64 0,.int .i64 0]) 32 rfl Try.underlying36 info126 rfl (by decide) (by omega) (.slice Ao i co) ((r.l3.take i).map cC) [⟨x0,⟨x1,x2⟩,x3⟩] (some ⟨gl,0,none⟩) 1 1 (fun k=>k≠g3) (fun _=>False) rfl rfl HS.out.o3 (row_C (enc:=encC) k126_mk (xs:= [⟨x0,⟨x1,x2⟩,x3⟩]) HNEW.out rfl (show 1≤1000 by decide)) (fun x cs h=>by obtain rfl:=k126_open h;exact k126_mkM _ _ _ _) (fun _ hk=>hk.elim) (fun k hk=>by have:=blk_lt HS.out.b3;omega) HS.out.bel HS.out.bel.size (by have:=HNO.out;omega) ?_
        intro v9 w9 ho9 hb9 hg9 hat9
        obtain⟨A9,c9,hv9⟩:=Kd.R_slice ho9
        rw [←HSTEP.out,List.length_map,List.length_take,Nat.min_eq_left (Nat.succ_le_of_lt hlt)]at hv9
        subst hv9
        have B39:=Aside0.mk (blk_grown HS.out.b3 hg9 (Kd.R_ne HS.out.o3 HS.out.b3 (by decide)))
        have B79:=Aside0.mk (blk_grown BK7.out hg9 (Kd.R_ne HS.out.o3 BK7.out (by decide)))
        have HB9:=Aside0.mk hb9
        have HOT:=Aside0.mk (HS.out.put3 hg9 hb9 (by rw [HSTEP.out];exact ho9))
        clear ho9 hb9 hg9 hat9
        refine hK.out _ _ ⟨(blk_cell B39.out 3).trans rfl,(blk_cell B79.out 0).trans rfl,(blk_cell B79.out 1).trans rfl,(blk_cell B79.out 2).trans rfl,(blk_cell B79.out 3).trans rfl⟩ (fun hHeld=> ?_)
        clear hK K
        refine norm_ (a':= ?_) ?_ ?_
        rotate_left
        ·show Act.put _ (some 82) _=_;simp only [Act.put,List.setIfInBounds_toArray,List.set_cons_zero,List.set_cons_succ];rfl
        refine pure_ (i:=12) (N:=some 83) (v:= ?_) (a':= ?_) #[true,true,true,true,true,true,true,true,true,true,true,true,true,false] rfl rfl (by kernel_rfl) (fun _ _ _ h=>h) (Or.inl ⟨by rfl,?_⟩) ?_ ?_
        rotate_left
        ·intro w'
         go_simp
         with_reducible rfl
        rotate_left
        ·simp only [Act.put,List.setIfInBounds_toArray,List.set_cons_zero,List.set_cons_succ];rfl
        refine last_ (i:=13) (N:=none) #[true,true,true,true,true,true,true,true,true,true,true,true,true,true] rfl rfl (by kernel_rfl) (by decide) (fun K hK=> ?_)
        have fs:=blk_cell B39.out 3
        replace fs:w9.cell? ⟨g3,3,none⟩=some (.slice Ao i co):=fs
        have fz:=blk_frozen B39.out 3
        refine skip_ (w1:= ?_) (by rfl) rfl ?_ ?_
        rotate_left
        ·go_simp
         rfl
        refine hK.out _ _ ?_
        clear hK K fs fz
        refine done_ (by kernel_rfl) ?_
        go_wp2
        exact⟨⟨i+1,_,by simp,by omega,HOT⟩,by simp [intOf];omega⟩
       ·have hie:i=r.l3.length:=by omega
        subst hie
        have hli:(r.l3.length:Int)≤(r.l3.length:Int):=Int.le_refl _
        have fc:wr.cell? ⟨g1,3,none⟩=some (.slice A3 r.l3.length c3):=(blk_cell HS.out.b1 3).trans rfl
        obtain⟨W3,hW⟩:∃v_,v_=Value.slice Ao r.l3.length co:=⟨_,rfl⟩
        rw [←hW]at HS
        obtain⟨A3',c3',hA3⟩:∃A_ c_,A_=Ao∧c_=co:=⟨_,_,rfl,rfl⟩
        rw [←hA3.1,←hA3.2]at hW
        clear hA3
        have HW3:=Aside0.mk hW
        clear hW HNO
        have fn:wr.cell? ⟨g1,5,none⟩=some (.slice A5 r.l5.length c5):=(blk_cell HS.out.b1 5).trans rfl
        go_wp2
        clear fc fn
        go_loopw [8] (fun v8 wr=>∃(i:Nat) (V:Value),v8= .int .i64 (i:Int)∧i≤r.l5.length∧Aside0 (LfS w wr ⟨A1,c1,A2,c2,A3,c3,A4,c4,A5,c5⟩ r g1 g2 g3 W1 W2 W3 (.slice A r.l4.length c) V r.l1.length r.l2.length r.l3.length i)) (fun v8 _=>(r.l5.length-intOf v8).toNat)
        case atStart=>exact⟨0,_,rfl,Nat.zero_le _,HS⟩
        case round=>
         clear HS
         obtain⟨i,V,rfl,hi,HS⟩:=hrel
         obtain⟨Ao,co,hV⟩:=Kd.R_slice HS.out.o5
         rw [List.length_map,List.length_take,Nat.min_eq_left hi]at hV
         subst hV
         have HNO:=Aside0.mk (show((r.l5.take i).map cW).length≤1000 by rw [List.length_map,List.length_take];omega)
         by_cases hlt:i < r.l5.length
         ·obtain⟨ad,e,fr0,fr1,fr2,fr3⟩:=at_T108 HR.out.r5 (i:Int) (by omega) (by omega)
          simp only at e
          subst e
          have hli:(i:Int) <(r.l5.length:Int):=by omega
          have hwi:IntKind.i64.wrap ((i:Int)+1)=(i:Int)+1:=IntWalk.i64_in _ (by omega)
          have HSTEP0:=Aside0.mk (take_map cW r.l5 z108 i hlt)
          obtain⟨x0,hx0⟩:∃v_,v_=(rd_T108 r.l5 (i:Int)).f0:=⟨_,rfl⟩
          obtain⟨x1,hx1⟩:∃v_,v_=(rd_T108 r.l5 (i:Int)).f1:=⟨_,rfl⟩
          obtain⟨x2,hx2⟩:∃v_,v_=(rd_T108 r.l5 (i:Int)).f2.f0:=⟨_,rfl⟩
          obtain⟨x3,hx3⟩:∃v_,v_=(rd_T108 r.l5 (i:Int)).f2.f1:=⟨_,rfl⟩
          simp only [Int.toNat_natCast,←hx0,←hx1,←hx2,←hx3]at fr0 fr1 fr2 fr3
          have HSTEP:=Aside0.mk (show(r.l5.take (i+1)).map cW=(r.l5.take i).map cW++ [⟨x0,x1,⟨x2,x3⟩⟩]by rw [HSTEP0.out,hx0,hx1,hx2,hx3];rfl)
          clear HSTEP0 hx0 hx1 hx2 hx3
          have FR0:=Aside0.mk fr0
          have FR1:=Aside0.mk fr1
          have FR2:=Aside0.mk fr2
          have FR3:=Aside0.mk fr3
          clear fr0 fr1 fr2 fr3
          have fc:wr.cell? ⟨g1,5,none⟩=some (.slice (some ad) r.l5.length c5):=(blk_cell HS.out.b1 5).trans rfl
          have fr0_:=(HS.out.bel.cell (World.block_lt_of_cell? w _ FR0.out)).trans FR0.out
          have fr1_:=(HS.out.bel.cell (World.block_lt_of_cell? w _ FR1.out)).trans FR1.out
          have fr2_:=(HS.out.bel.cell (World.block_lt_of_cell? w _ FR2.out)).trans FR2.out
          have fr3_:=(HS.out.bel.cell (World.block_lt_of_cell? w _ FR3.out)).trans FR3.out
          go_upto_region 19 with(fail)
          obtain⟨g7,hg_⟩:∃g_,g_=wr.heap.size:=⟨_,rfl⟩
          obtain⟨w7,hw_⟩:∃w_,w_=World.alloc wr (Obj.cells #[.int .i64 x0,.int .i64 x1,.int .i64 x2,.int .i64 x3] 108):=⟨_,rfl⟩
          have hb_:Below wr.heap.size wr w7:=by rw [hw_];exact below_alloc (Below.refl _ _) _
          have BK7:Aside0 (w7.heap[g7]? =some (Obj.cells #[.int .i64 x0,.int .i64 x1,.int .i64 x2,.int .i64 x3] 108)):=⟨by rw [hw_,hg_];exact blk_new _ _⟩
          replace HS:=Aside0.mk (HS.out.below hb_)
          rw [←hw_,←hg_]
          clear hw_ hg_ hb_
          clear fc fr0_ fr1_ fr2_ fr3_
          go_wp2_with fail
          replace HS:=Aside0.mk (HS.out.below (below_drew1 (Below.refl w7.heap.size w7)))
          replace BK7:=Aside0.mk (blk_drew BK7.out)
          refine start_ (n:=14) (S:=fun w'=>w'.cell? ⟨g3,5,none⟩=some (.slice Ao i co)∧w'.cell? ⟨g7,0,none⟩=some (.int .i64 x0)∧w'.cell? ⟨g7,1,none⟩=some (.int .i64 x1)∧w'.cell? ⟨g7,2,none⟩=some (.int .i64 x2)∧w'.cell? ⟨g7,3,none⟩=some (.int .i64 x3)) (ds:= [13]) #[false,false,false,false,false,false,false,false,false,false,false,false,false,false] (by kernel_rfl) rfl rfl ⟨(blk_cell HS.out.b3 5).trans rfl,(blk_cell BK7.out 0).trans rfl,(blk_cell BK7.out 1).trans rfl,(blk_cell BK7.out 2).trans rfl,(blk_cell BK7.out 3).trans rfl⟩ (fun hHeld=> ?_)
          generalize w7.drew=wd at HS BK7 hHeld ⊢
          refine pure_ (i:=0) (N:=some 96) (v:= ?_) (a':= ?_) #[true,false,false,false,false,false,false,false,false,false,false,false,false,false] rfl rfl (by kernel_rfl) (fun _ _ _ h=>h) (Or.inl ⟨by rfl,?_⟩) ?_ ?_
          rotate_left
          ·intro w'
           go_simp
           with_reducible rfl
          rotate_left
          ·simp only [Act.put,List.setIfInBounds_toArray,List.set_cons_zero,List.set_cons_succ];rfl
          refine take_ (i:=1) (N:=some 97) (v:= ?_) (a':= ?_) #[true,true,false,false,false,false,false,false,false,false,false,false,false,false] rfl rfl (by kernel_rfl) (fun _ _ _ h=>h) (Or.inl ⟨by rfl,?_⟩) hHeld ?_ ?_
          rotate_left
          ·rintro w' ⟨s0,s1,s2,s3,s4⟩
           go_simp
           with_reducible rfl
          rotate_left
          ·simp only [Act.put,List.setIfInBounds_toArray,List.set_cons_zero,List.set_cons_succ];rfl
          refine pure_ (i:=2) (N:=some 98) (v:= ?_) (a':= ?_) #[true,true,true,false,false,false,false,false,false,false,false,false,false,false] rfl rfl (by kernel_rfl) (fun _ _ _ h=>h) (Or.inl ⟨by rfl,?_⟩) ?_ ?_
          rotate_left
          ·intro w'
           go_simp
           with_reducible rfl
          rotate_left
          ·simp only [Act.put,List.setIfInBounds_toArray,List.set_cons_zero,List.set_cons_succ];rfl
          refine take_ (i:=3) (N:=some 99) (v:= ?_) (a':= ?_) #[true,true,true,true,false,false,false,false,false,false,false,false,false,false] rfl rfl (by kernel_rfl) (fun _ _ _ h=>h) (Or.inl ⟨by rfl,?_⟩) hHeld ?_ ?_
          rotate_left
          ·rintro w' ⟨s0,s1,s2,s3,s4⟩
           go_simp
           with_reducible rfl
          rotate_left
          ·simp only [Act.put,List.setIfInBounds_toArray,List.set_cons_zero,List.set_cons_succ];rfl
          refine pure_ (i:=4) (N:=some 100) (v:= ?_) (a':= ?_) #[true,true,true,true,true,false,false,false,false,false,false,false,false,false] rfl rfl (by kernel_rfl) (fun _ _ _ h=>h) (Or.inl ⟨by rfl,?_⟩) ?_ ?_
          rotate_left
          ·intro w'
           go_simp
           with_reducible rfl
          rotate_left
          ·simp only [Act.put,List.setIfInBounds_toArray,List.set_cons_zero,List.set_cons_succ];rfl
          refine take_ (i:=5) (N:=some 101) (v:= ?_) (a':= ?_) #[true,true,true,true,true,true,false,false,false,false,false,false,false,false] rfl rfl (by kernel_rfl) (fun _ _ _ h=>h) (Or.inl ⟨by rfl,?_⟩) hHeld ?_ ?_
          rotate_left
          ·rintro w' ⟨s0,s1,s2,s3,s4⟩
           go_simp
           with_reducible rfl
          rotate_left
          ·simp only [Act.put,List.setIfInBounds_toArray,List.set_cons_zero,List.set_cons_succ];rfl
          refine pure_ (i:=6) (N:=some 102) (v:= ?_) (a':= ?_) #[true,true,true,true,true,true,true,false,false,false,false,false,false,false] rfl rfl (by kernel_rfl) (fun _ _ _ h=>h) (Or.inl ⟨by rfl,?_⟩) ?_ ?_
          rotate_left
          ·intro w'
           go_simp
           with_reducible rfl
          rotate_left
          ·simp only [Act.put,List.setIfInBounds_toArray,List.set_cons_zero,List.set_cons_succ];rfl
          refine take_ (i:=7) (N:=some 103) (v:= ?_) (a':= ?_) #[true,true,true,true,true,true,true,true,false,false,false,false,false,false] rfl rfl (by kernel_rfl) (fun _ _ _ h=>h) (Or.inl ⟨by rfl,?_⟩) hHeld ?_ ?_
          rotate_left
          ·rintro w' ⟨s0,s1,s2,s3,s4⟩
           go_simp
           with_reducible rfl
          rotate_left
          ·simp only [Act.put,List.setIfInBounds_toArray,List.set_cons_zero,List.set_cons_succ];rfl
          refine one_ (i:=8) (N:=some 104) #[true,true,true,true,true,true,true,true,true,false,false,false,false,false] rfl rfl (by kernel_rfl) (by decide) (fun K hK=> ?_)
          refine goes_ Try.func31 (by kernel_rfl) rfl #[.agg #[.int .i64 x2,.int .i64 x3]] (by rfl) rfl rfl (by(try simp only [List.map_toArray,List.map_cons,List.map_nil]);rfl) ?_
          refine(to_at x2 x3 wd).mono ?_
          rintro e wl ⟨rfl,hb⟩
          refine⟨_,rfl,?_⟩
          replace HS:=Aside0.mk (HS.out.below hb)
          replace BK7:=Aside0.mk (blk_below BK7.out hb)
          clear hb
          refine hK.out _ _ ⟨(blk_cell HS.out.b3 5).trans rfl,(blk_cell BK7.out 0).trans rfl,(blk_cell BK7.out 1).trans rfl,(blk_cell BK7.out 2).trans rfl,(blk_cell BK7.out 3).trans rfl⟩ (fun hHeld=> ?_)
          clear hK K
          refine norm_ (a':= ?_) ?_ ?_
          rotate_left
          ·show Act.put _ (some 104) _=_;simp only [Act.put,List.setIfInBounds_toArray,List.set_cons_zero,List.set_cons_succ];rfl
          refine pure_ (i:=9) (N:=some 105) (v:= ?_) (a':= ?_) #[true,true,true,true,true,true,true,true,true,true,false,false,false,false] rfl rfl (by kernel_rfl) (fun _ _ _ h=>h) (Or.inl ⟨by rfl,?_⟩) ?_ ?_
          rotate_left
          ·intro w'
           go_simp
           with_reducible rfl
          rotate_left
          ·simp only [Act.put,List.setIfInBounds_toArray,List.set_cons_zero,List.set_cons_succ];rfl
          refine one_ (i:=10) (N:=some 106) #[true,true,true,true,true,true,true,true,true,true,true,false,false,false] rfl rfl (by kernel_rfl) (by decide) (fun K hK=> ?_)
          refine value_ (w1:= ?_) (v:= ?_) (by rfl) rfl ?_ ?_
          rotate_left 2
          ·go_simp
           constructor
           ·rfl
           ·rfl
          have hba:=below_alloc (Below.refl wl.heap.size wl) (Obj.cells #[.int .i64 x0,.int .i64 x1,.int .i64 x2,.int .i64 x3] 137 (0,0))
          have HNEW:=Aside0.mk (blk_new wl (Obj.cells #[.int .i64 x0,.int .i64 x1,.int .i64 x2,.int .i64 x3] 137 (0,0)))
          replace HS:=Aside0.mk (HS.out.below hba)
          replace BK7:=Aside0.mk (blk_below BK7.out hba)
          obtain⟨gl,hgl⟩:∃g,g=wl.heap.size:=⟨_,rfl⟩
          obtain⟨wj,hwj⟩:∃w_,w_=World.alloc wl (Obj.cells #[.int .i64 x0,.int .i64 x1,.int .i64 x2,.int .i64 x3] 137 (0,0)):=⟨_,rfl⟩
          rw [←hwj,←hgl]at HNEW
          rw [←hwj]at HS BK7
          rw [←hwj,←hgl]
          clear hwj hgl hba
          refine hK.out _ _ ⟨(blk_cell HS.out.b3 5).trans rfl,(blk_cell BK7.out 0).trans rfl,(blk_cell BK7.out 1).trans rfl,(blk_cell BK7.out 2).trans rfl,(blk_cell BK7.out 3).trans rfl⟩ (fun hHeld=> ?_)
          clear hK K
          refine norm_ (a':= ?_) ?_ ?_
          rotate_left
          ·show Act.put _ (some 106) _=_;simp only [Act.put,List.setIfInBounds_toArray,List.set_cons_zero,List.set_cons_succ];rfl
          refine one_ (i:=11) (N:=some 107) #[true,true,true,true,true,true,true,true,true,true,true,true,false,false] rfl rfl (by kernel_rfl) (by decide) (fun K hK=> ?_)
          refine Kd.R_append_rows_step k137 (Rr:=k137.K wj) (w0:=w) w.heap.size (by rfl) (.tmp 97) (.tmp 106) 37 137 (.agg #[.int .i64 0,.int .i64 0,.int .i64 0,.int .i64 0]) 32 rfl Try.underlying37 info137 rfl (by decide) (by omega) (.slice Ao i co) ((r.l5.take i).map cW) [⟨x0,x1,⟨x2,x3⟩⟩] (some ⟨gl,0,none⟩) 1 1 (fun k=>k≠g3) (fun _=>False) rfl rfl HS.out.o5 (row_C (enc:=encW) k137_mk (xs:= [⟨x0,x1,⟨x2,x3⟩⟩]) HNEW.out rfl (show 1≤1000 by decide)) (fun x cs h=>by obtain rfl:=k137_open h;exact k137_mkM _ _ _ _) (fun _ hk=>hk.elim) (fun k hk=>by have:=blk_lt HS.out.b3;omega) HS.out.bel HS.out.bel.size (by have:=HNO.out;omega) ?_
          intro v9 w9 ho9 hb9 hg9 hat9
          obtain⟨A9,c9,hv9⟩:=Kd.R_slice ho9
          rw [←HSTEP.out,List.length_map,List.length_take,Nat.min_eq_left (Nat.succ_le_of_lt hlt)]at hv9
          subst hv9
          have B39:=Aside0.mk (blk_grown HS.out.b3 hg9 (Kd.R_ne HS.out.o5 HS.out.b3 (by decide)))
          have B79:=Aside0.mk (blk_grown BK7.out hg9 (Kd.R_ne HS.out.o5 BK7.out (by decide)))
          have HB9:=Aside0.mk hb9
          have HOT:=Aside0.mk (HS.out.put5 hg9 hb9 (by rw [HSTEP.out];exact ho9))
          clear ho9 hb9 hg9 hat9
          refine hK.out _ _ ⟨(blk_cell B39.out 5).trans rfl,(blk_cell B79.out 0).trans rfl,(blk_cell B79.out 1).trans rfl,(blk_cell B79.out 2).trans rfl,(blk_cell B79.out 3).trans rfl⟩ (fun hHeld=> ?_)
          clear hK K
          refine norm_ (a':= ?_) ?_ ?_
          rotate_left
          ·show Act.put _ (some 107) _=_;simp only [Act.put,List.setIfInBounds_toArray,List.set_cons_zero,List.set_cons_succ];rfl
          refine pure_ (i:=12) (N:=some 108) (v:= ?_) (a':= ?_) #[true,true,true,true,true,true,true,true,true,true,true,true,true,false] rfl rfl (by kernel_rfl) (fun _ _ _ h=>h) (Or.inl ⟨by rfl,?_⟩) ?_ ?_
          rotate_left
          ·intro w'
           go_simp
           with_reducible rfl
          rotate_left
          ·simp only [Act.put,List.setIfInBounds_toArray,List.set_cons_zero,List.set_cons_succ];rfl
          refine last_ (i:=13) (N:=none) #[true,true,true,true,true,true,true,true,true,true,true,true,true,true] rfl rfl (by kernel_rfl) (by decide) (fun K hK=> ?_)
          have fs:=blk_cell B39.out 5
          replace fs:w9.cell? ⟨g3,5,none⟩=some (.slice Ao i co):=fs
          have fz:=blk_frozen B39.out 5
          refine skip_ (w1:= ?_) (by rfl) rfl ?_ ?_
          rotate_left
          ·go_simp
           rfl
          refine hK.out _ _ ?_
          clear hK K fs fz
          refine done_ (by kernel_rfl) ?_
          go_wp2
          exact⟨⟨i+1,_,by simp,by omega,HOT⟩,by simp [intOf];omega⟩
         ·have hie:i=r.l5.length:=by omega
          subst hie
          have hli:(r.l5.length:Int)≤(r.l5.length:Int):=Int.le_refl _
          have fc:wr.cell? ⟨g1,5,none⟩=some (.slice A5 r.l5.length c5):=(blk_cell HS.out.b1 5).trans rfl
          obtain⟨W5,hW⟩:∃v_,v_=Value.slice Ao r.l5.length co:=⟨_,rfl⟩
          rw [←hW]at HS
          obtain⟨A5',c5',hA5⟩:∃A_ c_,A_=Ao∧c_=co:=⟨_,_,rfl,rfl⟩
          rw [←hA5.1,←hA5.2]at hW
          clear hA5
          have HW5:=Aside0.mk hW
          clear hW HNO
          have e1:=HW1.out
          have e2:=HW2.out
          have e3:=HW3.out
          have e5:=HW5.out
          subst e1 e2 e3 e5
          have o1:=HS.out.o1
          have o2:=HS.out.o2
          have o3:=HS.out.o3
          have o4:=HS.out.o4
          have o5:=HS.out.o5
          rw [List.take_length]at o1 o2 o3 o5
          have O1:=Aside0.mk o1
          have O2:=Aside0.mk o2
          have O3:=Aside0.mk o3
          have O4:=Aside0.mk o4
          have O5:=Aside0.mk o5
          clear o1 o2 o3 o4 o5
          go_upto_region 20 with(fail)
          clear fc
          have d0:wr.cell? ⟨g3,0,none⟩=some (.int .i64 r.a0):=(blk_cell HS.out.b3 0).trans rfl
          have d1:wr.cell? ⟨g3,1,none⟩=some (.slice A1' r.l1.length c1'):=(blk_cell HS.out.b3 1).trans rfl
          have d2:wr.cell? ⟨g3,2,none⟩=some (.slice A2' r.l2.length c2'):=(blk_cell HS.out.b3 2).trans rfl
          have d3:wr.cell? ⟨g3,3,none⟩=some (.slice A3' r.l3.length c3'):=(blk_cell HS.out.b3 3).trans rfl
          have d4:wr.cell? ⟨g3,4,none⟩=some (.slice A r.l4.length c):=(blk_cell HS.out.b3 4).trans rfl
          have d5:wr.cell? ⟨g3,5,none⟩=some (.slice A5' r.l5.length c5'):=(blk_cell HS.out.b3 5).trans rfl
          go_wp2_with (first|((with_reducible refine wpList_store_row (o:=⟨none,_,_,_,_,_⟩) rfl 39 (.tmp 2) (.tmp 109) rfl g2 #[.int .i64 r.a0,.slice A1' r.l1.length c1',.slice A2' r.l2.length c2',.slice A3' r.l3.length c3',.slice A r.l4.length c,.slice A5' r.l5.length c5'] ?_ ?_ 39 #[.int .i64 0,.slice none 0 0,.slice none 0 0,.slice none 0 0,.slice none 0 0,.slice none 0 0] ?_ ?_ ?_ ?_ ?_);exact rfl;exact rfl;exact HS.out.b2;kernel_rfl;exact rfl;exact(by simp [Value.oneCell'])))
          refine bodyPost_ret (results_cell_row rfl _ _ g2 39 #[.int .i64 r.a0,.slice A1' r.l1.length c1',.slice A2' r.l2.length c2',.slice A3' r.l3.length c3',.slice A r.l4.length c,.slice A5' r.l5.length c5'] (0,0) _ rfl (setRow_heap _ _ _ _ _ _ HS.out.b2) Try.underlying39 rfl (by kernel_rfl)) rfl ?_
          exact⟨⟨A1',c1',A2',c2',A3',c3',A,c,A5',c5'⟩,by simp [SA.cells,RL.sl],⟨(Kd.R_reads' (Kd.R_step (Kd.R_mono (Kd.R_types O1.out HS.out.b2 (by decide)) (fun k hk=>hk.2)) (fun k hk _=>setRow_other _ _ _ _ hk))).2.2,(Kd.R_reads' (Kd.R_step (Kd.R_mono (Kd.R_types O2.out HS.out.b2 (by decide)) (fun k hk=>hk.2)) (fun k hk _=>setRow_other _ _ _ _ hk))).2.2,(Kd.R_reads' (Kd.R_step (Kd.R_mono (Kd.R_types O3.out HS.out.b2 (by decide)) (fun k hk=>hk.2)) (fun k hk _=>setRow_other _ _ _ _ hk))).2.2,(Kd.R_reads' (Kd.R_step (Kd.R_mono (Kd.R_types O4.out HS.out.b2 (by decide)) (fun k hk=>hk.2)) (fun k hk _=>setRow_other _ _ _ _ hk))).2.2,(Kd.R_reads' (Kd.R_step (Kd.R_mono (Kd.R_types O5.out HS.out.b2 (by decide)) (fun k hk=>hk.2)) (fun k hk _=>setRow_other _ _ _ _ hk))).2.2,by unfold RL.sl;rw [List.length_map];exact(Kd.R_reads' O1.out).2.1,by unfold RL.sl;rw [List.length_map];exact(Kd.R_reads' O2.out).2.1,by unfold RL.sl;rw [List.length_map];exact(Kd.R_reads' O3.out).2.1,(Kd.R_reads' O4.out).2.1,by unfold RL.sl;rw [List.length_map];exact(Kd.R_reads' O5.out).2.1⟩,below_setRow HS.out.bel HS.out.ge2 _⟩
end Go.Proofs.Ytjifalohjlihaaa.Q
end
section
namespace Go.Proofs.Ytjifalohjlihaaa.Q
set_option linter.unusedVariables false
open Go.BigFrame Go.RowKit Go.Shelf Go.Proofs.YtjifalohjlihaaaW.PrintWords Go.Proofs.YtjifalohjlihaaaW.PrintLast Go.Proofs.YtjifalohjlihaaaW.PrintMore
def RL.thin (r:RL):Prop:=r.l1.length≤30∧r.l2.length≤30∧r.l3.length≤30∧r.l5.length≤30∧r.l4.length≤30
instance (r:RL):Decidable r.thin:=by unfold RL.thin;infer_instance
set_option maxRecDepth 100000 in
set_option maxHeartbeats 6400000 in
theorem Thin_at (x:SA) (r:RL) (w:World) (hr:RRd w x r):Calls Try.prog 19 #[.agg (r.cells x)] w fun e w'=>e= .returned (.bool (decide r.thin))∧Below w.heap.size w w':=by
 obtain⟨A1,c1,A2,c2,A3,c3,A4,c4,A5,c5⟩:=x
 have HB:=Aside0.mk (Below.refl w.heap.size w)
 obtain⟨d,hd⟩:∃d,d=decide r.thin:=⟨_,rfl⟩
 have HD:=Aside0.mk hd
 rw [←hd]
 clear hr hd
 go_enter Try.func19,Try.ntmps19
 go_upto_region 1 with(first|((with_reducible refine gate_dst (N:=1) rfl ?_);refine box_event ?hg (N:=1) ?hd (cs:=#[.int .i64 r.a0,.slice A1 r.l1.length c1,.slice A2 r.l2.length c2,.slice A3 r.l3.length c3,.slice A4 r.l4.length c4,.slice A5 r.l5.length c5]) (t:=28) ?hr ?_;(case hd=>rfl);(case hg=>rfl);(case hr=>first|(go_simp;done)|(go_simp;rfl));intro g1 hg_ w1 hbx_ hb_;have BK1:=Aside0.mk hbx_;have g1ge:w.heap.size≤g1:=(by have:=below_size HB.out;omega);have g1GE:=Aside0.mk g1ge;clear g1ge;have HBn:=Aside0.mk (below_step HB.out hb_);clear HB hg_ hb_ hbx_;have HB:=HBn;clear HBn;have f0:w1.cell? ⟨g1,0,none⟩=some (.int .i64 r.a0):=(blk_cell BK1.out 0).trans rfl;have f1:w1.cell? ⟨g1,1,none⟩=some (.slice A1 r.l1.length c1):=(blk_cell BK1.out 1).trans rfl;have f2:w1.cell? ⟨g1,2,none⟩=some (.slice A2 r.l2.length c2):=(blk_cell BK1.out 2).trans rfl;have f3:w1.cell? ⟨g1,3,none⟩=some (.slice A3 r.l3.length c3):=(blk_cell BK1.out 3).trans rfl;have f4:w1.cell? ⟨g1,4,none⟩=some (.slice A4 r.l4.length c4):=(blk_cell BK1.out 4).trans rfl;have f5:w1.cell? ⟨g1,5,none⟩=some (.slice A5 r.l5.length c5):=(blk_cell BK1.out 5).trans rfl))
 by_cases h1:r.l1.length≤30
 ·have b1:decide ((r.l1.length:Int)≤30)=true:=decide_eq_true (by omega)
  by_cases h2:r.l2.length≤30
  ·have b2:decide ((r.l2.length:Int)≤30)=true:=decide_eq_true (by omega)
   by_cases h3:r.l3.length≤30
   ·have b3:decide ((r.l3.length:Int)≤30)=true:=decide_eq_true (by omega)
    by_cases h5:r.l5.length≤30
    ·have b5:decide ((r.l5.length:Int)≤30)=true:=decide_eq_true (by omega)
     by_cases h4:r.l4.length≤30
     ·have b4:decide ((r.l4.length:Int)≤30)=true:=decide_eq_true (by omega)
      have HV:=Aside0.mk (show d=true by rw [HD.out];exact decide_eq_true ⟨h1,h2,h3,h5,h4⟩)
      clear h1 h2 h3 h5 h4
      go_wp2
      go_ret
      exact⟨by rw [HV.out];rfl,HB.out⟩
     ·have b4:decide ((r.l4.length:Int)≤30)=false:=decide_eq_false (by omega)
      have HV:=Aside0.mk (show d=false by rw [HD.out];exact decide_eq_false (fun h=>h4 h.2.2.2.2))
      clear h4
      go_wp2
      go_ret
      exact⟨by rw [HV.out];rfl,HB.out⟩
    ·have b5:decide ((r.l5.length:Int)≤30)=false:=decide_eq_false (by omega)
     have HV:=Aside0.mk (show d=false by rw [HD.out];exact decide_eq_false (fun h=>h5 h.2.2.2.1))
     clear h5
     go_wp2
     go_ret
     exact⟨by rw [HV.out];rfl,HB.out⟩
   ·have b3:decide ((r.l3.length:Int)≤30)=false:=decide_eq_false (by omega)
    have HV:=Aside0.mk (show d=false by rw [HD.out];exact decide_eq_false (fun h=>h3 h.2.2.1))
    clear h3
    go_wp2
    go_ret
    exact⟨by rw [HV.out];rfl,HB.out⟩
  ·have b2:decide ((r.l2.length:Int)≤30)=false:=decide_eq_false (by omega)
   have HV:=Aside0.mk (show d=false by rw [HD.out];exact decide_eq_false (fun h=>h2 h.2.1))
   clear h2
   go_wp2
   go_ret
   exact⟨by rw [HV.out];rfl,HB.out⟩
 ·have b1:decide ((r.l1.length:Int)≤30)=false:=decide_eq_false (by omega)
  have HV:=Aside0.mk (show d=false by rw [HD.out];exact decide_eq_false (fun h=>h1 h.1))
  clear h1
  go_wp2
  go_ret
  exact⟨by rw [HV.out];rfl,HB.out⟩
end Go.Proofs.Ytjifalohjlihaaa.Q
end
section
namespace Go.Proofs.Ytjifalohjlihaaa.Q
set_option linter.unusedVariables false
open Go.BigFrame Go.RowKit Go.Shelf Go.Proofs.YtjifalohjlihaaaW.PrintWords Go.Proofs.YtjifalohjlihaaaW.PrintLast Go.Proofs.YtjifalohjlihaaaW.PrintMore
set_option maxRecDepth 100000 in
set_option maxHeartbeats 6400000 in
theorem ready_calls (x:SA) (r:RL) (w:World) (hr:RRd w x r):
  Calls Try.prog 43 #[.agg (r.cells x)] w fun e w'=>e= .returned (.bool (decide (r.thin∧r.sl.fault=0)))∧Below w.heap.size w w':=by
 obtain⟨A1,c1,A2,c2,A3,c3,A4,c4,A5,c5⟩:=x
 have HB:=Aside0.mk (Below.refl w.heap.size w)
 have HR:=Aside0.mk hr
 obtain⟨b,hb⟩:∃b,b=decide r.thin:=⟨_,rfl⟩
 obtain⟨er,her⟩:∃er,er=r.sl.fault:=⟨_,rfl⟩
 obtain⟨d,hd⟩:∃d,d=decide (r.thin∧r.sl.fault=0):=⟨_,rfl⟩
 have HT:=Aside0.mk hb
 have HF:=Aside0.mk her
 have HD:=Aside0.mk hd
 rw [←hd]
 clear hr hb her hd
 go_enter Try.func43,Try.ntmps43
 cases b with
 |false=>
  have HV:=Aside0.mk (show d=false by rw [HD.out];exact decide_eq_false (fun h=>of_decide_eq_false HT.out.symm h.1))
  go_wp2_with (first|((with_reducible refine gate_dst (N:=1) rfl ?_);refine box_event ?hg (N:=1) ?hd (cs:=#[.int .i64 r.a0,.slice A1 r.l1.length c1,.slice A2 r.l2.length c2,.slice A3 r.l3.length c3,.slice A4 r.l4.length c4,.slice A5 r.l5.length c5]) (t:=28) ?hr ?_;(case hd=>rfl);(case hg=>rfl);(case hr=>first|(go_simp;done)|(go_simp;rfl));intro g1 hg_ w1 hbx_ hb_;have BK1:=Aside0.mk hbx_;have g1ge:w.heap.size≤g1:=(by have:=below_size HB.out;omega);have g1GE:=Aside0.mk g1ge;clear g1ge;have HBn:=Aside0.mk (below_step HB.out hb_);clear HB hg_ hb_ hbx_;have HB:=HBn;clear HBn;have f0:w1.cell? ⟨g1,0,none⟩=some (.int .i64 r.a0):=(blk_cell BK1.out 0).trans rfl;have f1:w1.cell? ⟨g1,1,none⟩=some (.slice A1 r.l1.length c1):=(blk_cell BK1.out 1).trans rfl;have f2:w1.cell? ⟨g1,2,none⟩=some (.slice A2 r.l2.length c2):=(blk_cell BK1.out 2).trans rfl;have f3:w1.cell? ⟨g1,3,none⟩=some (.slice A3 r.l3.length c3):=(blk_cell BK1.out 3).trans rfl;have f4:w1.cell? ⟨g1,4,none⟩=some (.slice A4 r.l4.length c4):=(blk_cell BK1.out 4).trans rfl;have f5:w1.cell? ⟨g1,5,none⟩=some (.slice A5 r.l5.length c5):=(blk_cell BK1.out 5).trans rfl)|(go_at_call 19;(with_reducible refine(Thin_at ⟨A1,c1,A2,c2,A3,c3,A4,c4,A5,c5⟩ r _ (RRd.below HR.out HB.out)).mono ?_);rw [←HT.out];clear f0 f1 f2 f3 f4 f5;rintro e wt ⟨rfl,hb⟩;replace BK1:=Aside0.mk (blk_below BK1.out hb);replace HB:=Aside0.mk (below_step HB.out hb);clear hb;have f0:wt.cell? ⟨g1,0,none⟩=some (.int .i64 r.a0):=(blk_cell BK1.out 0).trans rfl;have f1:wt.cell? ⟨g1,1,none⟩=some (.slice A1 r.l1.length c1):=(blk_cell BK1.out 1).trans rfl;have f2:wt.cell? ⟨g1,2,none⟩=some (.slice A2 r.l2.length c2):=(blk_cell BK1.out 2).trans rfl;have f3:wt.cell? ⟨g1,3,none⟩=some (.slice A3 r.l3.length c3):=(blk_cell BK1.out 3).trans rfl;have f4:wt.cell? ⟨g1,4,none⟩=some (.slice A4 r.l4.length c4):=(blk_cell BK1.out 4).trans rfl;have f5:wt.cell? ⟨g1,5,none⟩=some (.slice A5 r.l5.length c5):=(blk_cell BK1.out 5).trans rfl))
  go_ret
  exact⟨by rw [HV.out];rfl,HB.out⟩
 |true=>
  have hth:=of_decide_eq_true HT.out.symm
  have t1:r.l1.length≤1000:=by have:=hth.1;omega
  have t2:r.l2.length≤1000:=by have:=hth.2.1;omega
  have t3:r.l3.length≤1000:=by have:=hth.2.2.1;omega
  have t5:r.l5.length≤1000:=by have:=hth.2.2.2.1;omega
  have HTH:=Aside0.mk hth
  clear hth
  by_cases hz:er=0
  ·have hzb:(er==0)=true:=by rw [hz];rfl
   have HV:=Aside0.mk (show d=true by rw [HD.out];exact decide_eq_true ⟨HTH.out,by rw [←HF.out];exact hz⟩)
   clear hz
   go_wp2_with (first|((with_reducible refine gate_dst (N:=1) rfl ?_);refine box_event ?hg (N:=1) ?hd (cs:=#[.int .i64 r.a0,.slice A1 r.l1.length c1,.slice A2 r.l2.length c2,.slice A3 r.l3.length c3,.slice A4 r.l4.length c4,.slice A5 r.l5.length c5]) (t:=28) ?hr ?_;(case hd=>rfl);(case hg=>rfl);(case hr=>first|(go_simp;done)|(go_simp;rfl));intro g1 hg_ w1 hbx_ hb_;have BK1:=Aside0.mk hbx_;have g1ge:w.heap.size≤g1:=(by have:=below_size HB.out;omega);have g1GE:=Aside0.mk g1ge;clear g1ge;have HBn:=Aside0.mk (below_step HB.out hb_);clear HB hg_ hb_ hbx_;have HB:=HBn;clear HBn;have f0:w1.cell? ⟨g1,0,none⟩=some (.int .i64 r.a0):=(blk_cell BK1.out 0).trans rfl;have f1:w1.cell? ⟨g1,1,none⟩=some (.slice A1 r.l1.length c1):=(blk_cell BK1.out 1).trans rfl;have f2:w1.cell? ⟨g1,2,none⟩=some (.slice A2 r.l2.length c2):=(blk_cell BK1.out 2).trans rfl;have f3:w1.cell? ⟨g1,3,none⟩=some (.slice A3 r.l3.length c3):=(blk_cell BK1.out 3).trans rfl;have f4:w1.cell? ⟨g1,4,none⟩=some (.slice A4 r.l4.length c4):=(blk_cell BK1.out 4).trans rfl;have f5:w1.cell? ⟨g1,5,none⟩=some (.slice A5 r.l5.length c5):=(blk_cell BK1.out 5).trans rfl)|(go_at_call 19;(with_reducible refine(Thin_at ⟨A1,c1,A2,c2,A3,c3,A4,c4,A5,c5⟩ r _ (RRd.below HR.out HB.out)).mono ?_);rw [←HT.out];clear f0 f1 f2 f3 f4 f5;rintro e wt ⟨rfl,hb⟩;replace BK1:=Aside0.mk (blk_below BK1.out hb);replace HB:=Aside0.mk (below_step HB.out hb);clear hb;have f0:wt.cell? ⟨g1,0,none⟩=some (.int .i64 r.a0):=(blk_cell BK1.out 0).trans rfl;have f1:wt.cell? ⟨g1,1,none⟩=some (.slice A1 r.l1.length c1):=(blk_cell BK1.out 1).trans rfl;have f2:wt.cell? ⟨g1,2,none⟩=some (.slice A2 r.l2.length c2):=(blk_cell BK1.out 2).trans rfl;have f3:wt.cell? ⟨g1,3,none⟩=some (.slice A3 r.l3.length c3):=(blk_cell BK1.out 3).trans rfl;have f4:wt.cell? ⟨g1,4,none⟩=some (.slice A4 r.l4.length c4):=(blk_cell BK1.out 4).trans rfl;have f5:wt.cell? ⟨g1,5,none⟩=some (.slice A5 r.l5.length c5):=(blk_cell BK1.out 5).trans rfl)|(go_at_call 81;(with_reducible refine(rFault ⟨A1,c1,A2,c2,A3,c3,A4,c4,A5,c5⟩ r _ (RRd.below HR.out HB.out) t1 t2 t3 t5).mono ?_);rw [←HF.out];clear f0 f1 f2 f3 f4 f5;rintro e wt ⟨rfl,hb⟩;replace HB:=Aside0.mk (below_step HB.out hb);clear hb))
   go_ret
   exact⟨by rw [HV.out];rfl,HB.out⟩
  ·have hzb:(er==0)=false:=by rw [beq_eq_false_iff_ne];exact hz
   have HV:=Aside0.mk (show d=false by rw [HD.out];exact decide_eq_false (fun h=>hz (by rw [HF.out];exact h.2)))
   clear hz
   go_wp2_with (first|((with_reducible refine gate_dst (N:=1) rfl ?_);refine box_event ?hg (N:=1) ?hd (cs:=#[.int .i64 r.a0,.slice A1 r.l1.length c1,.slice A2 r.l2.length c2,.slice A3 r.l3.length c3,.slice A4 r.l4.length c4,.slice A5 r.l5.length c5]) (t:=28) ?hr ?_;(case hd=>rfl);(case hg=>rfl);(case hr=>first|(go_simp;done)|(go_simp;rfl));intro g1 hg_ w1 hbx_ hb_;have BK1:=Aside0.mk hbx_;have g1ge:w.heap.size≤g1:=(by have:=below_size HB.out;omega);have g1GE:=Aside0.mk g1ge;clear g1ge;have HBn:=Aside0.mk (below_step HB.out hb_);clear HB hg_ hb_ hbx_;have HB:=HBn;clear HBn;have f0:w1.cell? ⟨g1,0,none⟩=some (.int .i64 r.a0):=(blk_cell BK1.out 0).trans rfl;have f1:w1.cell? ⟨g1,1,none⟩=some (.slice A1 r.l1.length c1):=(blk_cell BK1.out 1).trans rfl;have f2:w1.cell? ⟨g1,2,none⟩=some (.slice A2 r.l2.length c2):=(blk_cell BK1.out 2).trans rfl;have f3:w1.cell? ⟨g1,3,none⟩=some (.slice A3 r.l3.length c3):=(blk_cell BK1.out 3).trans rfl;have f4:w1.cell? ⟨g1,4,none⟩=some (.slice A4 r.l4.length c4):=(blk_cell BK1.out 4).trans rfl;have f5:w1.cell? ⟨g1,5,none⟩=some (.slice A5 r.l5.length c5):=(blk_cell BK1.out 5).trans rfl)|(go_at_call 19;(with_reducible refine(Thin_at ⟨A1,c1,A2,c2,A3,c3,A4,c4,A5,c5⟩ r _ (RRd.below HR.out HB.out)).mono ?_);rw [←HT.out];clear f0 f1 f2 f3 f4 f5;rintro e wt ⟨rfl,hb⟩;replace BK1:=Aside0.mk (blk_below BK1.out hb);replace HB:=Aside0.mk (below_step HB.out hb);clear hb;have f0:wt.cell? ⟨g1,0,none⟩=some (.int .i64 r.a0):=(blk_cell BK1.out 0).trans rfl;have f1:wt.cell? ⟨g1,1,none⟩=some (.slice A1 r.l1.length c1):=(blk_cell BK1.out 1).trans rfl;have f2:wt.cell? ⟨g1,2,none⟩=some (.slice A2 r.l2.length c2):=(blk_cell BK1.out 2).trans rfl;have f3:wt.cell? ⟨g1,3,none⟩=some (.slice A3 r.l3.length c3):=(blk_cell BK1.out 3).trans rfl;have f4:wt.cell? ⟨g1,4,none⟩=some (.slice A4 r.l4.length c4):=(blk_cell BK1.out 4).trans rfl;have f5:wt.cell? ⟨g1,5,none⟩=some (.slice A5 r.l5.length c5):=(blk_cell BK1.out 5).trans rfl)|(go_at_call 81;(with_reducible refine(rFault ⟨A1,c1,A2,c2,A3,c3,A4,c4,A5,c5⟩ r _ (RRd.below HR.out HB.out) t1 t2 t3 t5).mono ?_);rw [←HF.out];clear f0 f1 f2 f3 f4 f5;rintro e wt ⟨rfl,hb⟩;replace HB:=Aside0.mk (below_step HB.out hb);clear hb))
   go_ret
   exact⟨by rw [HV.out];rfl,HB.out⟩
end Go.Proofs.Ytjifalohjlihaaa.Q
end
section
namespace Go.Proofs.Ytjifalohjlihaaa.Q
set_option linter.unusedVariables false
open Go.BigFrame Go.RowKit Go.Shelf Go.Proofs.YtjifalohjlihaaaW.PrintWords Go.Proofs.YtjifalohjlihaaaW.PrintLast Go.Proofs.YtjifalohjlihaaaW.PrintMore Go.ChangeShapes Go.WideShapes Go.Deep
section
variable {H:Type} {enc:TypeId×Value→H} {w:World} {base:Nat} {spare:Nat→Bool} {held:Bool}
set_option maxRecDepth 100000 in
theorem one_int {fuel:Nat} {cs:List Value} {y:DataW H×List MemPlace} (h:DataW.trod enc Try.prog w base spare held fuel 3 cs=some y):∃n,cs= [.int .i64 n]:=by
 cases fuel with
 |zero=>simp [DataW.trod]at h
 |succ fuel=>
  unfold DataW.trod at h
  rw [Try.underlying3]at h
  rcases cs with _|⟨v,_|⟨v2,t⟩⟩
  ·simp at h
  ·cases v<;>simp at h
   exact⟨_,by rw [h.1.1]⟩
  ·cases v<;>simp at h
theorem field {t:TypeId} {fs:Array Field} (ht:Try.prog.underlying t=some (.struct fs)) {fuel:Nat} {cs:List Value} {y:DataW H×List MemPlace} (h:DataW.trod enc Try.prog w base spare held fuel t cs=some y) (i T o c:Nat) (hi:(fs[i]?).map (fun f=>(f.type,f.offset))=some (T,o)) (hc:Try.prog.cellsOf T=c):
  ∃m z,DataW.trod enc Try.prog w base spare held m T ((cs.drop o).take c)=some z:=by
 obtain⟨xs,n,_,rfl,hl,hlen,hf⟩:=DataW.trod_struct ht h
 obtain⟨f,hfi,he⟩:=Option.map_eq_some_iff.1 hi
 simp only [Prod.mk.injEq]at he
 have h1:=hf i f hfi
 have hlt:i < xs.length:=by rw [hlen];exact(Array.getElem?_eq_some_iff.1 hfi).1
 rw [List.getElem?_eq_getElem hlt,he.1,he.2,hc]at h1
 exact⟨n,_,h1⟩
theorem struct_len {t:TypeId} {fs:Array Field} (ht:Try.prog.underlying t=some (.struct fs)) {fuel:Nat} {cs:List Value} {y:DataW H×List MemPlace} (h:DataW.trod enc Try.prog w base spare held fuel t cs=some y) (c:Nat) (hc:Try.prog.cellsOf t=c):cs.length=c:=by
 obtain⟨xs,n,_,rfl,hl,hlen,hf⟩:=DataW.trod_struct ht h
 rw [hl,hc]
theorem cellsA:Try.prog.cellsOf 52=2:=by kernel_rfl
theorem cellsB:Try.prog.cellsOf 89=2:=by kernel_rfl
theorem cellsC:Try.prog.cellsOf 54=4:=by kernel_rfl
theorem cellsW:Try.prog.cellsOf 108=4:=by kernel_rfl
theorem open_A {fuel:Nat} {cs:List Value} {y:DataW H×List MemPlace} (h:DataW.trod enc Try.prog w base spare held fuel 52 cs=some y):∃a b,cs= [.int .i64 a,.int .i64 b]:=by
 have hl:=struct_len Try.underlying52 h 2 cellsA
 obtain⟨_,_,h0⟩:=field Try.underlying52 h 0 3 0 1 rfl cells3
 obtain⟨_,_,h1⟩:=field Try.underlying52 h 1 3 1 1 rfl cells3
 match cs,hl with
 | [v0,v1],_=>
  obtain⟨a,ea⟩:=one_int h0
  obtain⟨b,eb⟩:=one_int h1
  simp at ea eb
  exact⟨a,b,by rw [ea,eb]⟩
theorem open_B {fuel:Nat} {cs:List Value} {y:DataW H×List MemPlace} (h:DataW.trod enc Try.prog w base spare held fuel 89 cs=some y):∃a b,cs= [.int .i64 a,.int .i64 b]:=by
 have hl:=struct_len Try.underlying89 h 2 cellsB
 obtain⟨_,_,h0⟩:=field Try.underlying89 h 0 3 0 1 rfl cells3
 obtain⟨_,_,h1⟩:=field Try.underlying89 h 1 3 1 1 rfl cells3
 match cs,hl with
 | [v0,v1],_=>
  obtain⟨a,ea⟩:=one_int h0
  obtain⟨b,eb⟩:=one_int h1
  simp at ea eb
  exact⟨a,b,by rw [ea,eb]⟩
theorem open_C {fuel:Nat} {cs:List Value} {y:DataW H×List MemPlace} (h:DataW.trod enc Try.prog w base spare held fuel 54 cs=some y):∃a b c d,cs= [.int .i64 a,.int .i64 b,.int .i64 c,.int .i64 d]:=by
 have hl:=struct_len Try.underlying54 h 4 cellsC
 obtain⟨_,_,h0⟩:=field Try.underlying54 h 0 3 0 1 rfl cells3
 obtain⟨_,_,h1⟩:=field Try.underlying54 h 1 52 1 2 rfl cellsA
 obtain⟨_,_,h2⟩:=field Try.underlying54 h 2 3 3 1 rfl cells3
 match cs,hl with
 | [v0,v1,v2,v3],_=>
  obtain⟨a,ea⟩:=one_int h0
  obtain⟨b,c,eb⟩:=open_A h1
  obtain⟨d,ed⟩:=one_int h2
  simp at ea eb ed
  exact⟨a,b,c,d,by rw [ea,eb.1,eb.2,ed]⟩
theorem open_W {fuel:Nat} {cs:List Value} {y:DataW H×List MemPlace} (h:DataW.trod enc Try.prog w base spare held fuel 108 cs=some y):∃a b c d,cs= [.int .i64 a,.int .i64 b,.int .i64 c,.int .i64 d]:=by
 have hl:=struct_len Try.underlying108 h 4 cellsW
 obtain⟨_,_,h0⟩:=field Try.underlying108 h 0 3 0 1 rfl cells3
 obtain⟨_,_,h1⟩:=field Try.underlying108 h 1 3 1 1 rfl cells3
 obtain⟨_,_,h2⟩:=field Try.underlying108 h 2 52 2 2 rfl cellsA
 match cs,hl with
 | [v0,v1,v2,v3],_=>
  obtain⟨a,ea⟩:=one_int h0
  obtain⟨b,eb⟩:=one_int h1
  obtain⟨c,d,ed⟩:=open_A h2
  simp at ea eb ed
  exact⟨a,b,c,d,by rw [ea,eb,ed.1,ed.2]⟩
theorem slice_C {α:Type} [Inhabited α] {d:Kd α} {t e:TypeId} (ht:Try.prog.underlying t=some (.slice e)) (hc:Try.prog.cellsOf e=d.sz) (hel:∀ {fuel:Nat} {cs:List Value} {y:DataW H×List MemPlace},DataW.trod enc Try.prog w base (fun _=>true) held fuel e cs=some y→∃p:α,d.K w p cs)
  {fuel:Nat} {cs:List Value} {y:DataW H×List MemPlace} (h:DataW.trod enc Try.prog w base (fun _=>true) held fuel t cs=some y):∃A c xs,cs= [.slice A xs.length c]∧xs.length≤c∧d.C w A xs.length xs:=by
 rcases open_slice ht h with⟨rfl,_⟩|⟨a,len,cap,m,n,D,Pl,rfl,hb,hl,hm,hmm,rfl,hx⟩
 ·exact⟨none,0,[],rfl,Nat.le_refl _,Kd.C_nil _ _⟩
 ·rw [if_pos rfl]at hmm
  obtain⟨f,hf⟩:=choose_lt (α:=α) (n:=len) (p:=fun i p=>∃cs',w.cells? base (a.add (i*Try.prog.cellsOf e)) (Try.prog.cellsOf e)=some cs'∧d.K w p cs') (fun i hi=>by
   obtain⟨cs',h1,h2⟩:=hx i (by omega)
   obtain⟨p,hp⟩:=hel h2
   exact⟨p,cs',h1,hp⟩)
  have hlen:((List.range len).map f).length=len:=by simp
  have hmax:maxLen≤9223372036854775807:=by decide
  refine⟨some a,cap,(List.range len).map f,by rw [hlen],by rw [hlen];exact hl,rfl,by rw [hlen];omega,fun _=>⟨a,rfl,fun j p hj=> ?_⟩⟩
  have hj1:=(List.getElem?_eq_some_iff.1 hj).1
  rw [hlen]at hj1
  rw [List.getElem?_map,List.getElem?_range hj1,Option.map_some]at hj
  obtain rfl:=Option.some.inj hj
  obtain⟨cs',h1,h2⟩:=hf j hj1
  obtain⟨_,hl2,hcell⟩:=World.cells?_some h1
  rw [hc]at hl2 hcell
  refine⟨cs',hl2,h2,fun i u hu=> ?_⟩
  have hi:=(List.getElem?_eq_some_iff.1 hu).1
  have h3:=hcell i (by omega)
  rw [hu,Deep.add_add]at h3
  exact h3
instance:Inhabited S52:=⟨z52⟩
instance:Inhabited S89:=⟨z89⟩
instance:Inhabited S54:=⟨z54⟩
instance:Inhabited S108:=⟨z108⟩
theorem cells_sl:Try.prog.cellsOf 22=1∧Try.prog.cellsOf 23=1∧Try.prog.cellsOf 24=1∧Try.prog.cellsOf 25=1∧Try.prog.cellsOf 26=1:=⟨by kernel_rfl,by kernel_rfl,by kernel_rfl,by kernel_rfl,by kernel_rfl⟩
theorem cellsL:Try.prog.cellsOf 28=6:=by kernel_rfl
theorem open_L {fuel:Nat} {cs:List Value} {y:DataW H×List MemPlace} (h:DataW.trod enc Try.prog w base (fun _=>true) held fuel 28 cs=some y):∃(x:SA) (r:RL),cs.toArray=r.cells x∧RRd w x r:=by
 have hl:=struct_len Try.underlying28 h 6 cellsL
 obtain⟨_,_,h0⟩:=field Try.underlying28 h 0 3 0 1 rfl cells3
 obtain⟨_,_,h1⟩:=field Try.underlying28 h 1 22 1 1 rfl cells_sl.1
 obtain⟨_,_,h2⟩:=field Try.underlying28 h 2 23 2 1 rfl cells_sl.2.1
 obtain⟨_,_,h3⟩:=field Try.underlying28 h 3 24 3 1 rfl cells_sl.2.2.1
 obtain⟨_,_,h4⟩:=field Try.underlying28 h 4 25 4 1 rfl cells_sl.2.2.2.1
 obtain⟨_,_,h5⟩:=field Try.underlying28 h 5 26 5 1 rfl cells_sl.2.2.2.2
 obtain⟨a0,e0⟩:=one_int h0
 obtain⟨A1,c1,l1,e1,k1,q1⟩:=slice_C (d:=k52) Try.underlying22 cellsA (fun h=>by obtain⟨a,b,rfl⟩:=open_A h;exact⟨⟨a,b⟩,k52_mk _ _⟩) h1
 obtain⟨A2,c2,l2,e2,k2,q2⟩:=slice_C (d:=k89) Try.underlying23 cellsB (fun h=>by obtain⟨a,b,rfl⟩:=open_B h;exact⟨⟨a,b⟩,k89_mk _ _⟩) h2
 obtain⟨A3,c3,l3,e3,k3,q3⟩:=slice_C (d:=k54) Try.underlying24 cellsC (fun h=>by obtain⟨a,b,c,d,rfl⟩:=open_C h;exact⟨⟨a,⟨b,c⟩,d⟩,k54_mk _ _⟩) h3
 obtain⟨A4,c4,l4,e4,k4,q4⟩:=slice_C (d:=Kd.int .i64) Try.underlying25 cells3 (fun h=>by obtain⟨a,rfl⟩:=one_int h;exact⟨a,rfl⟩) h4
 obtain⟨A5,c5,l5,e5,k5,q5⟩:=slice_C (d:=k108) Try.underlying26 cellsW (fun h=>by obtain⟨a,b,c,d,rfl⟩:=open_W h;exact⟨⟨a,b,⟨c,d⟩⟩,k108_mk _ _⟩) h5
 match cs,hl with
 | [v0,v1,v2,v3,v4,v5],_=>
  simp at e0 e1 e2 e3 e4 e5
  exact⟨⟨A1,c1,A2,c2,A3,c3,A4,c4,A5,c5⟩,⟨a0,l1,l2,l3,l4,l5⟩,by rw [e0,e1,e2,e3,e4,e5],⟨q1,q2,q3,q4,q5,k1,k2,k3,k4,k5⟩⟩
end
end Go.Proofs.Ytjifalohjlihaaa.Q
end
section
namespace Go.Proofs.Ytjifalohjlihaaa.Q
set_option linter.unusedVariables false
open Go.BigFrame Go.RowKit Go.Shelf Go.Proofs.YtjifalohjlihaaaW.PrintWords Go.Proofs.YtjifalohjlihaaaW.PrintLast Go.Proofs.YtjifalohjlihaaaW.PrintMore Go.ChangeShapes Go.WideShapes Go.Deep
section
variable {H:Type} {enc:TypeId×Value→H} {w:World} {base:Nat} {held:Bool}
theorem slice_ints {k:IntKind} {t e:TypeId} (ht:Try.prog.underlying t=some (.slice e)) (he:Try.prog.underlying e=some (.int k)) (hc:Try.prog.cellsOf e=1)
  {fuel:Nat} {cs:List Value} {y:DataW H×List MemPlace} (h:DataW.trod enc Try.prog w base (fun _=>true) held fuel t cs=some y):
  ∃A c xs,cs= [.slice A xs.length c]∧xs.length≤c∧Kd.C (Kd.int k) w A xs.length xs∧∀n∈xs,(Lit.int k n).wf=true:=by
 rcases open_ints ht he hc h with⟨rfl,_⟩|⟨a,len,cap,zs,rfl,hb,hl,hm,hz,rfl,hx,hw⟩
 ·exact⟨none,0,[],rfl,Nat.le_refl _,Kd.C_nil _ _,fun n hn=>by cases hn⟩
 ·rw [if_pos rfl]at hz
  have hlen:(zs.take len).length=len:=by rw [List.length_take];omega
  have hmax:maxLen≤9223372036854775807:=by decide
  refine⟨some a,cap,zs.take len,by rw [hlen],by rw [hlen];exact hl,⟨rfl,by rw [hlen];omega,fun _=>⟨a,rfl,fun j p hj=> ?_⟩⟩,fun n hn=>hw n (List.mem_of_mem_take hn)⟩
  have hj1:=(List.getElem?_eq_some_iff.1 hj).1
  rw [hlen]at hj1
  rw [List.getElem?_take_of_lt hj1]at hj
  have h1:=hx j (by omega)
  rw [List.getD_eq_getElem?_getD,hj,Option.getD_some]at h1
  refine⟨[.int k p],rfl,rfl,fun i u hu=> ?_⟩
  have hi:=(List.getElem?_eq_some_iff.1 hu).1
  obtain rfl:i=0:=by simpa using hi
  have:u= .int k p:=by simpa using hu.symm
  rw [this]
  have e:(Kd.int k).sz=1:=rfl
  rw [e,Nat.mul_one]
  first
   |exact h1
   |simpa using h1
end
theorem wf_u16 {n:Int} (h:(Lit.int .u16 n).wf=true):0≤n∧n≤65535:=by
 have h2:IntKind.u16.min≤n∧n≤IntKind.u16.max:=by simpa [Lit.wf] using h
 exact h2
theorem rd_wf {xs:List Int} (h:∀n∈xs,(Lit.int .u16 n).wf=true) (i:Int):0≤rd xs i∧rd xs i≤65535:=by
 unfold rd
 rw [List.getD_eq_getElem?_getD]
 cases e:xs[i.toNat]? with
 |none=>exact⟨Int.le_refl _,by decide⟩
 |some p=>exact wf_u16 (h p (List.mem_of_getElem? e))
end Go.Proofs.Ytjifalohjlihaaa.Q
end
section
namespace Go.Proofs.Ytjifalohjlihaaa.Q
set_option linter.unusedVariables false
open Go.BigFrame Go.RowKit Go.Shelf Go.Proofs.YtjifalohjlihaaaW.PrintWords Go.Proofs.YtjifalohjlihaaaW.PrintLast Go.Proofs.YtjifalohjlihaaaW.PrintMore
def wat (ns:List Int) (draft d w:Int):Nat→Int
 |0=>w
 |n+1=>mx 0 (wat ns draft d w n-rd ns (d+n)-draft)
theorem wat_shift (ns:List Int) (draft d w:Int):∀n,wat ns draft (d+1) (mx 0 (w-rd ns d-draft)) n=wat ns draft d w (n+1):=by
 intro n
 induction n with
 |zero=>unfold wat;simp [wat]
 |succ n ih=>
  rw [wat,ih]
  conv=>rhs;unfold wat
  rw [show d+1+(n:Int)=d+((n+1:Nat):Int)by omega]
theorem leftSeq_at (ns:List Int) (draft:Int):∀(k:Nat) (d w:Int) (j:Nat),j < k→rd (leftSeq ns draft d w k) (j:Int)=wat ns draft d w (j+1):=by
 intro k
 induction k with
 |zero=>intro d w j h;omega
 |succ k ih=>
  intro d w j h
  unfold leftSeq
  cases j with
  |zero=>unfold wat;simp [rd,wat]
  |succ j=>
   have e:rd (mx 0 (w-rd ns d-draft)::leftSeq ns draft (d+1) (mx 0 (w-rd ns d-draft)) k) ((j+1:Nat):Int)=rd (leftSeq ns draft (d+1) (mx 0 (w-rd ns d-draft)) k) (j:Int):=by simp [rd]
   rw [e,ih (d+1) _ j (by omega),wat_shift]
theorem leftSeq_len (ns:List Int) (draft:Int):∀(k:Nat) (d w:Int),(leftSeq ns draft d w k).length=k:=by
 intro k
 induction k with
 |zero=>intro d w;rfl
 |succ k ih=>intro d w;unfold leftSeq;rw [List.length_cons,ih]
theorem wat_small {ns:List Int} {draft d w:Int} (hn:∀i,0≤rd ns i∧rd ns i≤40) (hd:0≤draft) (hw:0≤w∧w≤40):∀n,0≤wat ns draft d w n∧wat ns draft d w n≤40:=by
 intro n
 induction n with
 |zero=>exact hw
 |succ n ih=>have:=hn (d+n);unfold wat mx;split<;>omega
structure RV (r:RL):Prop where
 f:r.sl.fault=0
 v:Valid r.sl
 n1:(r.l1.length:Int)=r.a0+1
 n2:r.l2.length≤3
 n3:r.l3.length≤5
 n5:r.l5.length≤5
 n4:r.l4.length=r.l3.length
 a0:0≤r.a0∧r.a0≤5
theorem RV.mk' {r:RL} (h:r.sl.fault=0):RV r:=by
 have hv:=valid_of h
 have e1:r.sl.l1.length=r.l1.length:=by unfold RL.sl;simp
 have e2:r.sl.l2.length=r.l2.length:=by unfold RL.sl;simp
 have e3:r.sl.l3.length=r.l3.length:=by unfold RL.sl;simp
 have e5:r.sl.l5.length=r.l5.length:=by unfold RL.sl;simp
 have h1:=hv.air
 have h2:=hv.shelf3
 have h3:=hv.cake5
 have h4:=hv.put
 have h5:=hv.weight5
 rw [e1]at h1
 rw [e2]at h2
 rw [e3]at h3 h4
 rw [e5]at h5
 exact⟨h,hv,h1,h2,h3,h5,h4,hv.last0,hv.last5⟩
theorem RV.cake {r:RL} (h:RV r) {i:Int} (h0:0≤i) (h1:i < r.l3.length):(0≤(rd_T54 r.l3 i).f0∧(rd_T54 r.l3 i).f0≤r.a0)∧(0≤(rd_T54 r.l3 i).f1.f0∧(rd_T54 r.l3 i).f1.f0≤(rd_T54 r.l3 i).f1.f1∧(rd_T54 r.l3 i).f1.f1≤40)∧1≤(rd_T54 r.l3 i).f2∧(rd_T54 r.l3 i).f2≤6:=by
 have e3:r.sl.l3.length=r.l3.length:=by unfold RL.sl;simp
 have:=h.v.cakes i h0 (by omega)
 have e:rd_T126 r.sl.l3 i=cC (rd_T54 r.l3 i):=rd_cC _ _
 rw [e]at this
 obtain⟨a,b,c,d,e,f,g⟩:=this
 exact⟨⟨a,b⟩,⟨c,d,e⟩,f,g⟩
theorem RV.airs {r:RL} (h:RV r) {i:Int} (h0:0≤i) (h1:i < r.l1.length):0≤(rd_T52 r.l1 i).f0∧(rd_T52 r.l1 i).f0≤(rd_T52 r.l1 i).f1∧(rd_T52 r.l1 i).f1≤9:=by
 have e1:r.sl.l1.length=r.l1.length:=by unfold RL.sl;simp
 have:=h.v.airs i h0 (by omega)
 have e:rd_T56 r.sl.l1 i=cR (rd_T52 r.l1 i):=rd_cR _ _
 rw [e]at this
 exact this
end Go.Proofs.Ytjifalohjlihaaa.Q
end
section
namespace Go.Proofs.Ytjifalohjlihaaa.Q
set_option linter.unusedVariables false
open Go.BigFrame Go.RowKit Go.Shelf Go.Proofs.YtjifalohjlihaaaW.PrintWords Go.Proofs.YtjifalohjlihaaaW.PrintLast Go.Proofs.YtjifalohjlihaaaW.PrintMore
def dig:List S56→Int→List Int
 | [],_=> []
 |q::t,n=>(q.f0+n.tmod (q.f1-q.f0+1))::dig t (n.tdiv (q.f1-q.f0+1))
def quo:List S56→Int→Int
 | [],n=>n
 |q::t,n=>quo t (n.tdiv (q.f1-q.f0+1))
theorem dig_len:∀(rs:List S56) (n:Int),(dig rs n).length=rs.length:=by
 intro rs
 induction rs with
 |nil=>intro n;rfl
 |cons q t ih=>intro n;unfold dig;rw [List.length_cons,ih,List.length_cons]
theorem dig_append:∀(xs ys:List S56) (n:Int),dig (xs++ys) n=dig xs n++dig ys (quo xs n):=by
 intro xs
 induction xs with
 |nil=>intro ys n;rfl
 |cons q t ih=>intro ys n;show dig (q::(t++ys)) n=_;rw [dig,dig,quo,ih,List.cons_append]
def Fit:List S56→List Int→Prop
 | [],xs=>xs= []
 |q::t,xs=>∃a s,xs=a::s∧q.f0≤a∧a≤q.f1∧Fit t s
theorem dig_fit:∀(rs:List S56) (n:Int),0≤n→(∀q∈rs,q.f0≤q.f1)→Fit rs (dig rs n):=by
 intro rs
 induction rs with
 |nil=>intro n _ _;rfl
 |cons q t ih=>
  intro n hn hq
  have h1:=hq q (List.mem_cons_self ..)
  have h2:0≤n.tmod (q.f1-q.f0+1):=Int.tmod_nonneg _ hn
  have h3:n.tmod (q.f1-q.f0+1) < q.f1-q.f0+1:=Int.tmod_lt_of_pos _ (by omega)
  have h4:0≤n.tdiv (q.f1-q.f0+1):=Int.tdiv_nonneg hn (by omega)
  exact⟨_,_,rfl,by omega,by omega,ih _ h4 (fun z hz=>hq z (List.mem_cons_of_mem _ hz))⟩
section
variable {r:RL}
theorem wrap_nx (i:Nat) (h:i≤1000):wrap64 ((i:Int)+1)=((i+1:Nat):Int):=by unfold wrap64;omega
theorem Size_some (lo hi:Int) (h0:0≤lo) (h1:lo≤hi) (h2:hi≤40):anilref06_Size.f lo hi=some (hi-lo+1):=by
 unfold anilref06_Size.f
 have e1:wrap64 (hi-lo)=hi-lo:=by unfold wrap64;omega
 rw [e1]
 have e2:wrap64 (hi-lo+1)=hi-lo+1:=by unfold wrap64;omega
 rw [e2]
theorem digit {lo hi n:Int} (h0:0≤lo) (h1:lo≤hi) (h2:hi≤40) (n0:0≤n) (n1:n≤3000):wrap64 (lo+n.tmod (hi-lo+1))=lo+n.tmod (hi-lo+1)∧wrap64 (n.tdiv (hi-lo+1))=n.tdiv (hi-lo+1)∧0≤n.tdiv (hi-lo+1)∧n.tdiv (hi-lo+1)≤3000:=by
 have h2:0≤n.tmod (hi-lo+1):=Int.tmod_nonneg _ n0
 have h3:n.tmod (hi-lo+1) < hi-lo+1:=Int.tmod_lt_of_pos _ (by omega)
 have h4:0≤n.tdiv (hi-lo+1):=Int.tdiv_nonneg n0 (by omega)
 have h5:n.tdiv (hi-lo+1)≤n:=by rw [Int.tdiv_eq_ediv_of_nonneg n0];exact Int.ediv_le_self _ n0
 refine⟨?_,?_,h4,by omega⟩
 ·generalize n.tmod (hi-lo+1)=z at*
  unfold wrap64;omega
 ·generalize n.tdiv (hi-lo+1)=z at*
  unfold wrap64;omega
theorem Nth_l1 (hr:RV r) (ta:List Int):∀(d i k:Nat) (n:Int) (out:List Int),i+d=r.l3.length→0≤n→n≤3000→out.length≤i→d+1≤k→
  anilref06_Nth.l1 k n (i:Int) r.a0 r.l1 r.l2 r.l3 r.l4 r.l5 ta out=some (ta,out++dig ((r.sl.l3.map fun c=>(⟨c.f1.f0,c.f1.f1⟩:S56)).drop i) n):=by
 have e3:r.sl.l3.length=r.l3.length:=by unfold RL.sl;simp
 intro d
 induction d with
 |zero=>
  intro i k n out hi n0 n1 ho hk
  obtain⟨k,rfl⟩:∃j,k=j+1:=⟨k-1,by omega⟩
  unfold anilref06_Nth.l1
  rw [if_neg (by omega),List.drop_eq_nil_of_le (by rw [List.length_map,e3];omega),dig,List.append_nil]
 |succ d ih=>
  intro i k n out hi n0 n1 ho hk
  obtain⟨k,rfl⟩:∃j,k=j+1:=⟨k-1,by omega⟩
  have h3:=hr.n3
  have a1:(i:Int) <(r.l3.length:Int):=by omega
  have a2:0≤(i:Int):=by omega
  have a3:i < r.l3.length:=by omega
  have a4:out.length < 17592186044416:=by omega
  obtain⟨_,⟨c0,c1,c2⟩,_⟩:=hr.cake (i:=(i:Int)) a2 a1
  obtain⟨lo,hlo⟩:∃lo,lo=(rd_T54 r.l3 (i:Int)).f1.f0:=⟨_,rfl⟩
  obtain⟨hi2,hhi⟩:∃hi,hi=(rd_T54 r.l3 (i:Int)).f1.f1:=⟨_,rfl⟩
  have ed:(r.sl.l3.map fun c=>(⟨c.f1.f0,c.f1.f1⟩:S56)).drop i=⟨lo,hi2⟩::(r.sl.l3.map fun c=>(⟨c.f1.f0,c.f1.f1⟩:S56)).drop (i+1):=by
   rw [List.drop_eq_getElem_cons (by rw [List.length_map,e3];exact a3),List.getElem_map]
   congr 1
   unfold RL.sl
   rw [hlo,hhi]
   simp only [List.getElem_map]
   unfold rd_T54
   rw [Int.toNat_natCast,List.getD_eq_getElem?_getD,List.getElem?_eq_getElem a3]
   rfl
  rw [←hlo]at c0 c1
  rw [←hhi]at c1 c2
  have hs:=Size_some lo hi2 c0 c1 c2
  have s0:¬hi2-lo+1=0:=by omega
  have l5:(out++ [lo+n.tmod (hi2-lo+1)]).length≤i+1:=by rw [List.length_append,List.length_singleton];omega
  have a6:i+1+d=r.l3.length:=by omega
  have a7:d+1≤k:=by omega
  obtain⟨g1,g2,g3,g4⟩:=digit c0 c1 c2 n0 n1
  have hih:=ih (i+1) k (n.tdiv (hi2-lo+1)) (out++ [lo+n.tmod (hi2-lo+1)]) a6 g3 g4 l5 a7
  have hw:=wrap_nx i (show i≤1000 by omega)
  unfold anilref06_Nth.l1
  rw [if_pos a1,if_pos a2,←hlo,←hhi,hs,Option.bind_some,if_neg s0,if_pos a4,Option.bind_some,if_neg s0,g1,g2,hw,hih,ed,dig,List.append_assoc]
  rfl
theorem Nth_l0 (hr:RV r):∀(d i k:Nat) (n:Int) (out:List Int),i+d=r.l1.length→0≤n→n≤3000→out.length≤i→d+7≤k→
  anilref06_Nth.l0 k n (i:Int) r.a0 r.l1 r.l2 r.l3 r.l4 r.l5 out=some (out++dig (r.sl.l1.drop i) n,dig (r.sl.l3.map fun c=>(⟨c.f1.f0,c.f1.f1⟩:S56)) (quo (r.sl.l1.drop i) n)):=by
 have e1:r.sl.l1.length=r.l1.length:=by unfold RL.sl;simp
 intro d
 induction d with
 |zero=>
  intro i k n out hi n0 n1 ho hk
  obtain⟨k,rfl⟩:∃j,k=j+1:=⟨k-1,by omega⟩
  unfold anilref06_Nth.l0
  have h3:=hr.n3
  have h:=Nth_l1 hr out r.l3.length 0 k n [] (by omega) n0 n1 (Nat.zero_le _) (by omega)
  rw [if_neg (by omega),List.drop_eq_nil_of_le (by rw [e1];omega),dig,quo,List.append_nil]
  exact h
 |succ d ih=>
  intro i k n out hi n0 n1 ho hk
  obtain⟨k,rfl⟩:∃j,k=j+1:=⟨k-1,by omega⟩
  have h1:=hr.n1
  have h0:=hr.a0
  have a1:(i:Int) <(r.l1.length:Int):=by omega
  have a2:0≤(i:Int):=by omega
  have a3:i < r.l1.length:=by omega
  have a4:out.length < 17592186044416:=by omega
  obtain⟨c0,c1,c2⟩:=hr.airs (i:=(i:Int)) a2 a1
  obtain⟨lo,hlo⟩:∃lo,lo=(rd_T52 r.l1 (i:Int)).f0:=⟨_,rfl⟩
  obtain⟨hi2,hhi⟩:∃hi,hi=(rd_T52 r.l1 (i:Int)).f1:=⟨_,rfl⟩
  have ed:r.sl.l1.drop i=⟨lo,hi2⟩::r.sl.l1.drop (i+1):=by
   rw [List.drop_eq_getElem_cons (by rw [e1];exact a3)]
   congr 1
   unfold RL.sl
   rw [hlo,hhi]
   simp only [List.getElem_map]
   unfold rd_T52
   rw [Int.toNat_natCast,List.getD_eq_getElem?_getD,List.getElem?_eq_getElem a3]
   rfl
  rw [←hlo]at c0 c1
  rw [←hhi]at c1 c2
  have hs:=Size_some lo hi2 c0 c1 (by omega)
  have s0:¬hi2-lo+1=0:=by omega
  have l5:(out++ [lo+n.tmod (hi2-lo+1)]).length≤i+1:=by rw [List.length_append,List.length_singleton];omega
  have a6:i+1+d=r.l1.length:=by omega
  have a7:d+7≤k:=by omega
  obtain⟨g1,g2,g3,g4⟩:=digit c0 c1 (by omega) n0 n1
  have hih:=ih (i+1) k (n.tdiv (hi2-lo+1)) (out++ [lo+n.tmod (hi2-lo+1)]) a6 g3 g4 l5 a7
  have hw:=wrap_nx i (show i≤1000 by omega)
  unfold anilref06_Nth.l0
  rw [if_pos a1,if_pos a2,←hlo,←hhi,hs,Option.bind_some,if_neg s0,if_pos a4,Option.bind_some,if_neg s0,g1,g2,hw,hih,ed,dig,quo,List.append_assoc]
  rfl
def RL.nthA (r:RL) (n:Int):List Int:=dig r.sl.l1 n
def RL.nthW (r:RL) (n:Int):List Int:=dig (r.sl.l3.map fun c=>(⟨c.f1.f0,c.f1.f1⟩:S56)) (quo r.sl.l1 n)
theorem Nth_some (hr:RV r) (n:Int) (n0:0≤n) (n1:n≤3000) (k:Nat) (hk:20≤k):anilref06_Nth.f k r.a0 r.l1 r.l2 r.l3 r.l4 r.l5 n=some (r.nthA n,r.nthW n):=by
 have h0:=hr.a0
 have h1:=hr.n1
 exact Nth_l0 hr r.l1.length 0 k n [] (by omega) n0 n1 (Nat.zero_le _) (by omega)
theorem nth_dig (n:Int):r.nthA n++r.nthW n=dig r.sl.ranges n:=(dig_append _ _ _).symm
theorem fit_listed {l:SL} {xs:List Int} (h:Fit l.ranges xs):l.isListed (xs.take l.l1.length) (xs.drop l.l1.length):=by
 have hf:∀(rs:List S56) (xs:List Int),Fit rs xs→xs.length=rs.length∧∀j:Nat,j < rs.length→(rd_T56 rs j).f0≤rd xs j∧rd xs j≤(rd_T56 rs j).f1:=by
  intro rs
  induction rs with
  |nil=>rintro xs rfl;exact⟨rfl,fun j hj=>absurd hj (Nat.not_lt_zero _)⟩
  |cons q t ih=>
   rintro xs ⟨a,s,rfl,h1,h2,h3⟩
   obtain⟨h4,h5⟩:=ih s h3
   refine⟨by rw [List.length_cons,List.length_cons,h4],fun j hj=> ?_⟩
   cases j with
   |zero=>exact⟨h1,h2⟩
   |succ j=>
    have:=h5 j (by simpa using hj)
    have e1:rd (a::s) ((j+1:Nat):Int)=rd s (j:Int):=by simp [rd]
    have e2:rd_T56 (q::t) ((j+1:Nat):Int)=rd_T56 t (j:Int):=by simp [rd_T56]
    rw [e1,e2]
    exact this
 obtain⟨h1,h2⟩:=hf _ _ h
 have hl:l.ranges.length=l.l1.length+l.l3.length:=by unfold SL.ranges;simp
 refine⟨by rw [List.length_take];omega,by rw [List.length_drop];omega,fun j hj=> ?_⟩
 rw [List.take_append_drop]
 exact h2 j hj
theorem ranges_le (hr:RV r):∀q∈r.sl.ranges,q.f0≤q.f1:=by
 intro q hq
 unfold SL.ranges at hq
 rcases List.mem_append.1 hq with h|h
 ·obtain⟨i,hi,rfl⟩:=List.mem_iff_getElem.1 h
  have:=hr.v.airs (i:Int) (by omega) (by omega)
  unfold rd_T56 at this
  rw [Int.toNat_natCast,List.getD_eq_getElem?_getD,List.getElem?_eq_getElem hi]at this
  exact this.2.1
 ·obtain⟨c,hc,rfl⟩:=List.mem_map.1 h
  obtain⟨i,hi,rfl⟩:=List.mem_iff_getElem.1 hc
  have:=hr.v.cakes (i:Int) (by omega) (by omega)
  unfold rd_T126 at this
  rw [Int.toNat_natCast,List.getD_eq_getElem?_getD,List.getElem?_eq_getElem hi]at this
  exact this.2.2.2.1
theorem nth_listed (hr:RV r) {n:Int} (n0:0≤n):r.sl.isListed (r.nthA n) (r.nthW n):=by
 have h:=fit_listed (dig_fit r.sl.ranges n n0 (ranges_le hr))
 rw [←nth_dig]at h
 have hl:(r.nthA n).length=r.sl.l1.length:=dig_len _ _
 rw [←hl,List.take_left,List.drop_left]at h
 exact h
theorem size_le (hr:RV r):sizeP r.sl.ranges≤2000:=by
 have h:=enumP_len hr.f []
 rw [enumP_length]at h
 exact h
end
end Go.Proofs.Ytjifalohjlihaaa.Q
end
section
namespace Go.Proofs.Ytjifalohjlihaaa.Q
set_option linter.unusedVariables false
open Go.BigFrame Go.RowKit Go.Shelf Go.Proofs.YtjifalohjlihaaaW.PrintWords Go.Proofs.YtjifalohjlihaaaW.PrintLast Go.Proofs.YtjifalohjlihaaaW.PrintMore
def allL (n:Nat):Nat→List (List Int)
 |0=> [[]]
 |k+1=>(List.range n).flatMap fun (s:Nat)=>(allL n k).map fun q=>(s:Int)::q
theorem mem_allL (n : Nat) : ∀ (k : Nat) (q : List Int), q ∈ allL n k ↔ q.length = k ∧ ∀ s ∈ q, 0 ≤ s ∧ s < n := by
  intro k
  induction k with
  | zero => intro q; unfold allL; rw [List.mem_singleton]; constructor
            · rintro rfl; simp
            · rintro ⟨h, _⟩; exact List.length_eq_zero_iff.1 h
  | succ k ih =>
    intro q
    unfold allL
    rw [List.mem_flatMap]
    constructor
    · rintro ⟨s, hs, h⟩
      rw [List.mem_map] at h
      obtain ⟨t, ht, rfl⟩ := h
      obtain ⟨h1, h2⟩ := (ih t).1 ht
      rw [List.mem_range] at hs
      refine ⟨by simp [h1], fun x hx => ?_⟩
      rcases List.mem_cons.1 hx with rfl | hx
      · omega
      · exact h2 x hx
    · rintro ⟨h1, h2⟩
      cases q with
      | nil => cases h1
      | cons s t =>
        have h3 := h2 s (List.mem_cons_self ..)
        refine ⟨s.toNat, List.mem_range.2 (by omega), List.mem_map.2 ⟨t, (ih t).2 ⟨by simpa using h1, fun x hx => h2 x (List.mem_cons_of_mem _ hx)⟩, ?_⟩⟩
        rw [Int.toNat_of_nonneg h3.1]
theorem cnt_succ (q:List Int) (i:Nat) (hi:i < q.length) (s:Int):cnt q ((i+1:Nat):Int) s=cnt q (i:Int) s+if rd q i=s then 1 else 0:=by
 unfold cnt rd
 rw [Int.toNat_natCast,Int.toNat_natCast,List.take_succ_eq_append_getElem hi,List.count_append,List.getD_eq_getElem?_getD,List.getElem?_eq_getElem hi,Option.getD_some,List.count_singleton]
 by_cases h:q[i]=s<;>simp [h]
theorem rd_mem {q:List Int} {i:Nat} (hi:i < q.length):rd q i∈q:=by
 unfold rd
 rw [Int.toNat_natCast,List.getD_eq_getElem?_getD,List.getElem?_eq_getElem hi]
 exact List.getElem_mem _
theorem isPlace_all {l:SL} {q:List Int} (h:l.isPlace q):q∈allL l.l2.length l.l3.length:=by
 obtain⟨h1,h2,_⟩:=h
 refine(mem_allL _ _ _).2 ⟨h1,fun s hs=> ?_⟩
 obtain⟨i,hi,e⟩:=List.mem_iff_getElem.1 hs
 have:=h2 i hi
 have e2:rd q (i:Int)=s:=by unfold rd;rw [Int.toNat_natCast,List.getD_eq_getElem?_getD,List.getElem?_eq_getElem hi,Option.getD_some,e]
 rw [e2]at this
 exact this
end Go.Proofs.Ytjifalohjlihaaa.Q
end
section
namespace Go.Proofs.Ytjifalohjlihaaa.Q
set_option linter.unusedVariables false
open Go.BigFrame Go.RowKit Go.Shelf Go.Proofs.YtjifalohjlihaaaW.PrintWords Go.Proofs.YtjifalohjlihaaaW.PrintLast Go.Proofs.YtjifalohjlihaaaW.PrintMore
def sumN (f:Nat→Int):Nat→Int
 |0=>0
 |n+1=>sumN f n+f n
theorem sumN_le {f g:Nat→Int}:∀n,(∀s,s < n→f s≤g s)→sumN f n≤sumN g n:=by
 intro n
 induction n with
 |zero=>intro _;exact Int.le_refl _
 |succ n ih=>intro h;have:=ih (fun s hs=>h s (by omega));have:=h n (by omega);unfold sumN;omega
theorem sumN_add {f g:Nat→Int}:∀n,sumN (fun s=>f s+g s) n=sumN f n+sumN g n:=by
 intro n
 induction n with
 |zero=>rfl
 |succ n ih=>unfold sumN;rw [ih];omega
theorem sumN_one (x:Int):∀n:Nat,sumN (fun s=>if x=(s:Int)then 1 else 0) n=if 0≤x∧x < n then 1 else 0:=by
 intro n
 induction n with
 |zero=>unfold sumN;rw [if_neg (by omega)]
 |succ n ih=>
  unfold sumN
  rw [ih]
  by_cases h1:x=(n:Int)
  ·rw [if_pos h1,if_neg (by omega),if_pos (by omega)];rfl
  ·rw [if_neg h1]
   by_cases h2:0≤x∧x < n
   ·rw [if_pos h2,if_pos (by omega)];rfl
   ·rw [if_neg h2,if_neg (by omega)];rfl
theorem count_sum (n:Nat):∀xs:List Int,(∀x∈xs,0≤x∧x < n)→sumN (fun s=>((xs.count (s:Int):Nat):Int)) n=xs.length:=by
 intro xs
 induction xs with
 |nil=>
  intro _
  have h:∀m:Nat,sumN (fun s=>((([]:List Int).count (s:Int):Nat):Int)) m=0:=by
   intro m
   induction m with
   |zero=>rfl
   |succ m ih=>unfold sumN;rw [ih];simp
  rw [h];rfl
 |cons x t ih=>
  intro h
  have h1:=ih (fun y hy=>h y (List.mem_cons_of_mem _ hy))
  have h2:=h x (List.mem_cons_self ..)
  have e:(fun s:Nat=>((((x::t).count (s:Int):Nat)):Int))=fun (s:Nat)=>((t.count (s:Int):Nat):Int)+if x=(s:Int)then 1 else 0:=by
   funext s
   rw [List.count_cons]
   by_cases hx:x=(s:Int)
   ·rw [if_pos hx,if_pos (by rw [hx];exact beq_self_eq_true _)];rfl
   ·rw [if_neg hx,if_neg (by rw [beq_iff_eq];exact hx)];simp
  rw [e,sumN_add,h1,sumN_one,if_pos h2,List.length_cons]
  omega
theorem cnt_all (q:List Int) (s:Int):cnt q q.length s=((q.count s:Nat):Int):=by unfold cnt;rw [Int.toNat_natCast,List.take_length]
theorem room_left {l:SL} (hp:l.isPlace l.l4) {out:List Int} (ho:∀x∈out,0≤x∧x < l.l2.length) (hl:out.length < l.l3.length):∃u:Nat,u < l.l2.length∧cnt out out.length u <(rd_T135 l.l2 u).f0:=by
 apply Classical.byContradiction
 intro hn
 have hn:∀u:Nat,u < l.l2.length→(rd_T135 l.l2 u).f0≤cnt out out.length u:=fun u hu=>by
  by_cases h:cnt out out.length u <(rd_T135 l.l2 u).f0
  ·exact absurd ⟨u,hu,h⟩ hn
  ·omega
 have h1:=count_sum l.l2.length out ho
 have h2:=count_sum l.l2.length l.l4 (fun x hx=>(((mem_allL _ _ _).1 (isPlace_all hp)).2 x hx))
 have h3:=sumN_le (f:=fun s=>((l.l4.count (s:Int):Nat):Int)) (g:=fun s=>((out.count (s:Int):Nat):Int)) l.l2.length (fun s hs=>by
  have h4:=hp.2.2 s hs
  have h5:=hn s hs
  rw [cnt_all]at h4 h5
  omega)
 rw [h1,h2,hp.1]at h3
 omega
theorem word_ok (xs:List Int) (hr:∀i,0≤rd xs i∧rd xs i≤65535) (i:Int) (hi:0≤i):∃v,anillaw06_word.f xs i=some v∧0≤v∧v≤65535:=by
 unfold anillaw06_word.f
 by_cases h:(xs.length:Int)=0
 ·exact⟨0,by rw [if_pos h],by omega,by omega⟩
 ·have h1:0≤Int.tmod i (xs.length:Int):=Int.tmod_nonneg _ hi
  have h2:Int.tmod i (xs.length:Int) <(xs.length:Int):=Int.tmod_lt_of_pos _ (by omega)
  have h3:=hr (Int.tmod i (xs.length:Int))
  refine⟨rd xs (Int.tmod i (xs.length:Int)),?_,h3.1,h3.2⟩
  rw [if_neg h,if_pos h1,if_pos h2]
  exact congrArg some (by unfold wrap64;omega)
theorem many_from (xs:List Int) (s:Int) (hx:xs.length≤1000):∀(d i k:Nat),i+d=xs.length→d < k→anillaw06_many.l0 k xs s (cnt xs (i:Int) s) (i:Int)=some (cnt xs xs.length s):=by
 intro d
 induction d with
 |zero=>
  intro i k hi hk
  obtain⟨k,rfl⟩:∃j,k=j+1:=⟨k-1,by omega⟩
  unfold anillaw06_many.l0
  rw [if_neg (by omega),show i=xs.length by omega]
 |succ d ih=>
  intro i k hi hk
  obtain⟨k,rfl⟩:∃j,k=j+1:=⟨k-1,by omega⟩
  unfold anillaw06_many.l0
  have h1:=ih (i+1) k (by omega) (by omega)
  have hc:=cnt_succ xs i (by omega) s
  have hb:0≤cnt xs (i:Int) s∧cnt xs (i:Int) s≤i:=by
   unfold cnt
   have:=List.count_le_length (a:=s) (l:=xs.take (i:Int).toNat)
   rw [List.length_take]at this
   omega
  have hw:wrap64 ((i:Int)+1)=((i+1:Nat):Int):=by unfold wrap64;omega
  rw [if_pos (by omega),if_pos (by omega),hw]
  by_cases e:rd xs (i:Int)=s
  ·rw [if_pos e]at hc ⊢
   rw [show wrap64 (cnt xs (i:Int) s+1)=cnt xs ((i+1:Nat):Int) s by rw [hc];unfold wrap64;omega]
   exact h1
  ·rw [if_neg e]at hc ⊢
   rw [show cnt xs (i:Int) s=cnt xs ((i+1:Nat):Int) s by rw [hc];omega]
   exact h1
theorem many_some (xs:List Int) (s:Int) (k:Nat) (hx:xs.length≤1000) (hk:xs.length < k):anillaw06_many.f k xs s=some (cnt xs xs.length s):=by
 have h:=many_from xs s hx xs.length 0 k (by omega) hk
 unfold anillaw06_many.f
 have h0:cnt xs ((0:Nat):Int) s=0:=by unfold cnt;simp
 rw [h0]at h
 exact h
theorem next_shelf {s n:Int} (h0:0≤s) (h1:s < n) (hn:n≤1000):(s+1 < n∧Int.tmod (wrap64 (s+1)) n=s+1)∨(s+1=n∧Int.tmod (wrap64 (s+1)) n=0):=by
 have hw:wrap64 (s+1)=s+1:=by unfold wrap64;omega
 rw [hw]
 by_cases h:s+1 < n
 ·exact .inl ⟨h,Int.tmod_eq_of_lt (by omega) h⟩
 ·have e:s+1=n:=by omega
  right
  exact⟨e,by rw [e];exact Int.tmod_self⟩
section
variable {r:RL} (put:List Int)
theorem Placed_l1 (h2:r.l2.length≤3) {out:List Int} (ho:out.length≤5) (u:Int) (hu0:0≤u) (hu1:u < r.l2.length) (hu:cnt out out.length u <(rd_T89 r.l2 u).f0) (i:Int):
  ∀(D:Nat) (t s:Int) (k:Nat),0≤s→s < r.l2.length→(s+D=u∨s+D=u+r.l2.length)→0≤t→D+t < r.l2.length→D+7≤k→
   ∃(s':Int) (j:Nat),0≤s'∧s' < r.l2.length∧cnt out out.length s' <(rd_T89 r.l2 s').f0∧k≤j+D+1∧
    anillaw06_Placed.l1 k put out i s t r.a0 r.l1 r.l2 r.l3 r.l4 r.l5=anillaw06_Placed.l0 j put (out++ [s']) (wrap64 (i+1)) r.a0 r.l1 r.l2 r.l3 r.l4 r.l5:=by
 intro D
 induction D with
 |zero=>
  intro t s k s0 s1 hs t0 ht hk
  obtain⟨k,rfl⟩:∃j,k=j+1:=⟨k-1,by omega⟩
  obtain rfl:s=u:=by omega
  refine⟨s,k,s0,s1,hu,by omega,?_⟩
  conv=>lhs;unfold anillaw06_Placed.l1
  rw [if_pos (by omega),many_some out s k (by omega) (by omega),Option.bind_some,if_pos s0,if_pos s1,if_neg (by omega),if_pos (by omega)]
 |succ D ih=>
  intro t s k s0 s1 hs t0 ht hk
  obtain⟨k,rfl⟩:∃j,k=j+1:=⟨k-1,by omega⟩
  by_cases hf:cnt out out.length s <(rd_T89 r.l2 s).f0
  ·refine⟨s,k,s0,s1,hf,by omega,?_⟩
   conv=>lhs;unfold anillaw06_Placed.l1
   rw [if_pos (by omega),many_some out s k (by omega) (by omega),Option.bind_some,if_pos s0,if_pos s1,if_neg (by omega),if_pos (by omega)]
  ·have hw:wrap64 (t+1)=t+1:=by unfold wrap64;omega
   have key:∀s2,(s+1 < r.l2.length∧s2=s+1)∨(s+1=r.l2.length∧s2=0)→Int.tmod (wrap64 (s+1)) (r.l2.length:Int)=s2→∃(s':Int) (j:Nat),0≤s'∧s' < r.l2.length∧cnt out out.length s' <(rd_T89 r.l2 s').f0∧k+1≤j+(D+1)+1∧
     anillaw06_Placed.l1 (k+1) put out i s t r.a0 r.l1 r.l2 r.l3 r.l4 r.l5=anillaw06_Placed.l0 j put (out++ [s']) (wrap64 (i+1)) r.a0 r.l1 r.l2 r.l3 r.l4 r.l5:=by
    intro s2 h e
    obtain⟨s',j,h3,h4,h5,h6,h7⟩:=ih (t+1) s2 k (by omega) (by omega) (by omega) (by omega) (by omega) (by omega)
    refine⟨s',j,h3,h4,h5,by omega,?_⟩
    rw [←h7]
    conv=>lhs;unfold anillaw06_Placed.l1
    rw [if_pos (by omega),many_some out s k (by omega) (by omega),Option.bind_some,if_pos s0,if_pos s1,if_pos (by omega),if_neg (by omega),e,hw]
   rcases next_shelf s0 s1 (by omega)with⟨h3,h4⟩|⟨h3,h4⟩
   ·exact key _ (.inl ⟨h3,rfl⟩) h4
   ·exact key _ (.inr ⟨h3,rfl⟩) h4
theorem Placed_l0 (hf:r.sl.fault=0) (hr:∀i,0≤rd put i∧rd put i≤65535):∀(d:Nat) (out:List Int) (k:Nat),out.length+d=r.l3.length→(∀x∈out,0≤x∧x < r.l2.length)→
  (∀s:Nat,s < r.l2.length→cnt out out.length s≤(rd_T89 r.l2 s).f0)→12*d+1≤k→∃q,anillaw06_Placed.l0 k put out (out.length:Int) r.a0 r.l1 r.l2 r.l3 r.l4 r.l5=some q∧r.sl.isPlace q:=by
 have hz:=fault_zero hf
 have h2:r.l2.length≤3:=by have:=hz.2.1;unfold RL.sl at this;simpa using this
 have h3:r.l3.length≤5:=by have:=hz.2.2.1;unfold RL.sl at this;simpa using this
 have l2:r.sl.l2.length=r.l2.length:=by unfold RL.sl;simp
 have l3:r.sl.l3.length=r.l3.length:=by unfold RL.sl;simp
 have hb:∀s:Int,(rd_T135 r.sl.l2 s).f0=(rd_T89 r.l2 s).f0:=fun s=>by
  show(rd_T135 (r.l2.map cB) s).f0=_
  rw [rd_cB];rfl
 intro d
 induction d with
 |zero=>
  intro out k ho hx hc hk
  obtain⟨k,rfl⟩:∃j,k=j+1:=⟨k-1,by omega⟩
  refine⟨out,?_,by rw [l3];omega,fun i hi=>by rw [l2];exact hx _ (rd_mem hi),fun s hs=> ?_⟩
  ·unfold anillaw06_Placed.l0
   rw [if_neg (by omega)]
  ·rw [l2]at hs
   rw [hb]
   exact hc s hs
 |succ d ih=>
  intro out k ho hx hc hk
  obtain⟨k,rfl⟩:∃j,k=j+1:=⟨k-1,by omega⟩
  obtain⟨u,hu,hru⟩:=room_left (l:=r.sl) hz.2.2.2.2.2.2.2.2.2.1 (out:=out) (by rw [l2];exact hx) (by rw [l3];omega)
  rw [l2]at hu
  rw [hb]at hru
  obtain⟨v,hv,v0,v1⟩:=word_ok put hr (out.length:Int) (by omega)
  have hn:0 < r.l2.length:=by omega
  have t0:0≤Int.tmod v (r.l2.length:Int):=Int.tmod_nonneg _ v0
  have t1:Int.tmod v (r.l2.length:Int) <(r.l2.length:Int):=Int.tmod_lt_of_pos _ (by omega)
  obtain⟨s,hs⟩:∃s,s=Int.tmod v (r.l2.length:Int):=⟨_,rfl⟩
  obtain⟨D,hD,hD2⟩:∃D:Nat,(s+D=u∨s+D=u+r.l2.length)∧D < r.l2.length:=by
   by_cases h:s≤u
   ·exact⟨(u-s).toNat,by omega,by omega⟩
   ·exact⟨(u+r.l2.length-s).toNat,by omega,by omega⟩
  obtain⟨s',j,h4,h5,h6,h7,h8⟩:=Placed_l1 (r:=r) put h2 (out:=out) (by omega) (u:Int) (by omega) (by omega) hru (out.length:Int) D 0 s k (by omega) (by omega) hD (by omega) (by omega) (by omega)
  have hw:wrap64 ((out.length:Int)+1)=((out++ [s']).length:Int):=by rw [List.length_append,List.length_singleton];unfold wrap64;omega
  obtain⟨q,hq,hpl⟩:=ih (out++ [s']) j (by rw [List.length_append,List.length_singleton];omega)
   (fun x hx2=>by
    rcases List.mem_append.1 hx2 with h|h
    ·exact hx x h
    ·rw [List.mem_singleton]at h;rw [h];exact⟨h4,h5⟩)
   (fun z hz2=>by
    have h9:=hc z hz2
    rw [cnt_all]at h9 ⊢
    rw [cnt_all]at h6
    rw [List.count_append,List.count_singleton]
    by_cases e:s'=(z:Int)
    ·rw [if_pos (by rw [e];exact beq_self_eq_true _)]
     rw [e]at h6
     omega
    ·rw [if_neg (by rw [beq_iff_eq];exact e)]
     omega) (by omega)
  refine⟨q,?_,hpl⟩
  conv=>lhs;unfold anillaw06_Placed.l0
  rw [if_pos (by omega),hv,Option.bind_some,if_neg (by omega),←hs,h8,hw]
  exact hq
end
theorem Placed_some {r:RL} (hf:r.sl.fault=0) (put:List Int) (hr:∀i,0≤rd put i∧rd put i≤65535):∃q,anillaw06_Placed.f 70 r.a0 r.l1 r.l2 r.l3 r.l4 r.l5 put=some q∧r.sl.isPlace q:=by
 have h3:r.l3.length≤5:=by have:=(fault_zero hf).2.2.1;unfold RL.sl at this;simpa using this
 have hv:=valid_of hf
 obtain⟨q,hq,h⟩:=Placed_l0 put hf hr r.l3.length [] 70 (by simp) (by simp) (fun s hs=>by
  have:=(hv.shelves s (by omega) (by unfold RL.sl;simp;omega)).1
  have e:(rd_T135 r.sl.l2 s).f0=(rd_T89 r.l2 s).f0:=by
   show(rd_T135 (r.l2.map cB) s).f0=_
   rw [rd_cB];rfl
  rw [e]at this
  unfold cnt
  simpa using this) (by omega)
 exact⟨q,hq,h⟩
theorem Placed_at (x:SA) (r:RL) (hf:r.sl.fault=0) (B:Option Addr) (d:Nat) (put:List Int) (w:World) (hr:RRd w x r) (hB:Kd.C (Kd.int .u16) w B put.length put) (hd:put.length≤d) (hu:∀i,0≤rd put i∧rd put i≤65535):
  ∃q,r.sl.isPlace q∧∀W,Below w.heap.size w W→Calls Try.prog 44 #[.agg (r.cells x),.slice B put.length d] W fun e w'=>∃A c,e= .returned (.slice A q.length c)∧q.length≤c∧Kd.C (Kd.int .i64) w' A q.length q∧Below W.heap.size W w':=by
 obtain⟨q,hq,hpl⟩:=Placed_some hf put hu
 refine⟨q,hpl,fun W hW=> ?_⟩
 have hr:=hr.below hW
 exact(anillaw06_Placed.calls 70 r.a0 x.A1 x.c1 r.l1 x.A2 x.c2 r.l2 x.A3 x.c3 r.l3 x.A4 x.c4 r.l4 x.A5 x.c5 r.l5 B d put q W hr.r1 hr.h1 hr.r2 hr.h2 hr.r3 hr.h3 hr.r4 hr.h4 hr.r5 hr.h5 (Kd.C_below hB hW) hd hq).mono (by
  rintro e w' ⟨v,rfl,ho,hb⟩
  obtain⟨A',c',rfl,hl,hC⟩:=Kd.R_reads ho
  exact⟨A',c',rfl,hl,hC,hb⟩)
end Go.Proofs.Ytjifalohjlihaaa.Q
end
section
namespace Go.Proofs.Ytjifalohjlihaaa.Q
open Go.RowKit Go.Proofs.YtjifalohjlihaaaW.PrintWords Go.Proofs.YtjifalohjlihaaaW.PrintLast Go.Proofs.YtjifalohjlihaaaW.PrintMore
attribute [local go_sem] max2_int min2_int max_two min_two max_three min_three max_four min_four
set_option linter.unusedVariables false
set_option linter.unusedSimpArgs false
def anillaw06_Truth.f (l0_0:List Int) (l0_1:List Int):Option (List Int×List Int):=(anillaw06_list.f l0_0).bind fun t537=>((anillaw06_list.f l0_1).bind fun t540=>(some (t537,t540)))
def anillaw06_Truth.T1:Bool×List (List Nat×List Nat):=(true,[([],[]),([0],[0]),([1],[1]),([],[]),([3],[3]),([4,2],[4]),([2,5],[2,5]),([6,5,0,1,2,3,4,5,6],[6])])
def anillaw06_Truth.B1:List Nat:= [0,1,3,0,8,31,63,127]
theorem anillaw06_Truth.tab1:rtab .any (opsOf Try.f47 1)=anillaw06_Truth.T1:=by kernel_rfl
theorem anillaw06_Truth.bits1:waitsOk anillaw06_Truth.T1.2 anillaw06_Truth.B1=true:=by kernel_rfl
set_option maxHeartbeats 8000000 in
set_option maxRecDepth 100000 in
theorem anillaw06_Truth.calls (A0_0:Option Addr) (c0_0:Nat) (l0_0:List Int) (A0_1:Option Addr) (c0_1:Nat) (l0_1:List Int) (r1:List Int) (r2:List Int) (w:World) (hr0_0:Kd.C (Kd.int .i64) w A0_0 l0_0.length l0_0) (hc0_0:l0_0.length≤c0_0) (hr0_1:Kd.C (Kd.int .i64) w A0_1 l0_1.length l0_1) (hc0_1:l0_1.length≤c0_1) (h:anillaw06_Truth.f l0_0 l0_1=some (r1,r2)):
  Calls Try.prog 47 #[.agg #[.slice A0_0 l0_0.length c0_0,.slice A0_1 l0_1.length c0_1]] w fun e w'=>∃v0_ v1_:Value,e= .returned (.agg #[v0_,v1_])∧Kd.R (Kd.int .i64) 3 w' w.heap.size (fun k_=>some k_≠(v1_:Value).ownBlock) v0_ r1∧Kd.R (Kd.int .i64) 3 w' w.heap.size (fun k_=>some k_≠(v0_:Value).ownBlock) v1_ r2∧Below w.heap.size w w':=by
 have hu76:=Try.underlying76
 have hu82:=Try.underlying82
 have HR0_0:=Aside0.mk hr0_0
 have HC0_0:=Aside0.mk hc0_0
 clear hr0_0 hc0_0
 have HR0_1:=Aside0.mk hr0_1
 have HC0_1:=Aside0.mk hc0_1
 clear hr0_1 hc0_1
 have HB:=Aside0.mk (Below.refl w.heap.size w)
 have H:((anillaw06_list.f l0_0).bind fun t537=>((anillaw06_list.f l0_1).bind fun t540=>(some (t537,t540))))=some (r1,r2):=h
 clear h
 replace H:=Option.bind_eq_some_iff.mp H
 obtain⟨t537,A20,H⟩:=H
 replace H:((anillaw06_list.f l0_1).bind fun t540=>(some (t537,t540)))=some (r1,r2):=H
 have A2:=Aside0.mk A20
 clear A20
 replace H:=Option.bind_eq_some_iff.mp H
 obtain⟨t540,A30,H⟩:=H
 replace H:(some (t537,t540))=some (r1,r2):=H
 have A3:=Aside0.mk A30
 clear A30
 simp only [Option.some.injEq,Prod.mk.injEq]at H
 obtain⟨rfl,rfl⟩:=H
 go_enter Try.func47,Try.ntmps47
 try go_wp2_with (first|((with_reducible refine gate_dst (N:=1) rfl ?_);refine box_event ?hg (N:=1) ?hd (cs:=#[.slice A0_0 l0_0.length c0_0,.slice A0_1 l0_1.length c0_1]) (t:=76) ?hr ?_;(case hd=>rfl);(case hg=>rfl);(case hr=>first|(go_simp;done)|(go_simp;rfl));intro gb535 hg w4 hbox hb;have n0_:=Aside0.mk (below_step (by repeat(first|(with_reducible first|exact HB.out|apply below_alloc|apply pw_below_drewN|apply below_drew1)|exact HB.out)) hb);have n1_:=Aside0.mk (hbox);have n2_:=Aside0.mk ((by rw [hg];exact(below_size (by repeat(first|(with_reducible first|exact HB.out|apply below_alloc|apply pw_below_drewN|apply below_drew1)|exact HB.out))):w.heap.size≤gb535));have n3_:=Aside0.mk ((by rw [hg];exact(below_size (by repeat(first|(with_reducible first|exact HB.out|apply below_alloc|apply pw_below_drewN|apply below_drew1)|exact HB.out))):w.heap.size≤gb535));clear HB;have HB:=n0_;have BK535:=n1_;have GW535:=n2_;have GE535:=n3_;clear n0_ n1_ n2_ n3_;clear hb hbox hg)|((with_reducible refine gate_dst (N:=2) rfl ?_);refine box_event ?hg (N:=2) ?hd (cs:=#[.slice none 0 0,.slice none 0 0]) (t:=82) ?hr ?_;(case hd=>rfl);(case hg=>rfl);(case hr=>first|(go_simp;done)|(go_simp;rfl));intro gb536 hg w5 hbox hb;have n0_:=Aside0.mk (blk_below (g:=gb535) (o:= .cells #[.slice A0_0 l0_0.length c0_0,.slice A0_1 l0_1.length c0_1] 76 (0,0)) (by(with_reducible repeat(first|refine blk_drewN ?_ _|refine blk_drew ?_|refine blk_alloc ?_ _));exact BK535.out) hb);have n1_:=Aside0.mk (below_step (by repeat(first|(with_reducible first|exact HB.out|apply below_alloc|apply pw_below_drewN|apply below_drew1|refine below_set ?_ GE535.out)|exact HB.out)) hb);have n2_:=Aside0.mk (hbox);have n3_:=Aside0.mk ((by rw [hg];exact(below_size (by repeat(first|(with_reducible first|exact HB.out|apply below_alloc|apply pw_below_drewN|apply below_drew1|refine below_set ?_ GE535.out)|exact HB.out))):w.heap.size≤gb536));have n4_:=Aside0.mk ((by rw [hg];exact(below_size (by repeat(first|(with_reducible first|exact HB.out|apply below_alloc|apply pw_below_drewN|apply below_drew1|refine below_set ?_ GE535.out)|exact HB.out))):w.heap.size≤gb536));have n5_:=Aside0.mk ((by rw [hg];exact Nat.ne_of_lt (blk_lt (g:=gb535) (o:= .cells #[.slice A0_0 l0_0.length c0_0,.slice A0_1 l0_1.length c0_1] 76 (0,0)) (by(with_reducible repeat(first|refine blk_drewN ?_ _|refine blk_drew ?_|refine blk_alloc ?_ _));exact BK535.out)):gb535≠gb536));have n6_:=Aside0.mk ((by rw [hg];exact Nat.ne_of_gt (blk_lt (g:=gb535) (o:= .cells #[.slice A0_0 l0_0.length c0_0,.slice A0_1 l0_1.length c0_1] 76 (0,0)) (by(with_reducible repeat(first|refine blk_drewN ?_ _|refine blk_drew ?_|refine blk_alloc ?_ _));exact BK535.out)):gb536≠gb535));clear BK535;clear HB;have BK535:=n0_;have HB:=n1_;have BK536:=n2_;have GW536:=n3_;have GE536:=n4_;have NB535_536:=n5_;have NB536_535:=n6_;clear n0_ n1_ n2_ n3_ n4_ n5_ n6_;clear hb hbox hg))
 have n0_:=Aside0.mk (blk_drew BK535.out)
 have n1_:=Aside0.mk (blk_drew BK536.out)
 have n2_:=Aside0.mk (below_drew1 HB.out)
 clear BK535
 clear BK536
 clear HB
 have BK535:=n0_
 have BK536:=n1_
 have HB:=n2_
 clear n0_ n1_ n2_
 refine start_ (n:=8) (S:=fun w'=>w'.cell? ⟨gb535,0,none⟩=some (.slice A0_0 l0_0.length c0_0)∧w'.cell? ⟨gb535,1,none⟩=some (.slice A0_1 l0_1.length c0_1)) (ds:= []) #[false,false,false,false,false,false,false,false] (by kernel_rfl) rfl rfl ⟨(blk_cell BK535.out 0).trans rfl,(blk_cell BK535.out 1).trans rfl⟩ (fun hHeld=> ?_);refine with_tabW anillaw06_Truth.tab1 anillaw06_Truth.bits1 (fun HT_ HW_=> ?_)
 generalize w5.drew=w6 at BK535 BK536 HB hHeld ⊢
 refine pure_ (i:=0) (N:=some 3) (v:= ?_) (a':= ?_) #[true,false,false,false,false,false,false,false] rfl rfl (any_of HT_.out (by kernel_rfl)) (fun _ _ _ h=>h) (Or.inl ⟨by rfl,?_⟩) ?_ ?_
 rotate_left
 ·intro w'
  go_simp
  with_reducible rfl
 rotate_left
 ·simp only [Act.put,List.setIfInBounds_toArray,List.set_cons_zero,List.set_cons_succ,i64_w,i32_w]
  rfl
 refine pure_ (i:=3) (N:=some 6) (v:= ?_) (a':= ?_) #[true,false,false,true,false,false,false,false] rfl rfl (any_of HT_.out (by kernel_rfl)) (fun _ _ _ h=>h) (Or.inl ⟨by rfl,?_⟩) ?_ ?_
 rotate_left
 ·intro w'
  go_simp
  with_reducible rfl
 rotate_left
 ·simp only [Act.put,List.setIfInBounds_toArray,List.set_cons_zero,List.set_cons_succ,i64_w,i32_w]
  rfl
 refine take_ (i:=1) (N:=some 4) (v:= ?_) (a':= ?_) #[true,true,false,true,false,false,false,false] rfl rfl (take_ofW HT_.out HW_.out (by kernel_rfl)) (fun _ _ _ h=>h) (Or.inl ⟨by rfl,?_⟩) hHeld ?_ ?_
 rotate_left
 ·rintro w' ⟨s0,s1⟩
  go_simp
  with_reducible rfl
 rotate_left
 ·simp only [Act.put,List.setIfInBounds_toArray,List.set_cons_zero,List.set_cons_succ,i64_w,i32_w]
  rfl
 refine take_ (i:=4) (N:=some 7) (v:= ?_) (a':= ?_) #[true,true,false,true,true,false,false,false] rfl rfl (take_ofW HT_.out HW_.out (by kernel_rfl)) (fun _ _ _ h=>h) (Or.inl ⟨by rfl,?_⟩) hHeld ?_ ?_
 rotate_left
 ·rintro w' ⟨s0,s1⟩
  go_simp
  with_reducible rfl
 rotate_left
 ·simp only [Act.put,List.setIfInBounds_toArray,List.set_cons_zero,List.set_cons_succ,i64_w,i32_w]
  rfl
 refine one_ (i:=2) (N:=some 5) #[true,true,true,true,true,false,false,false] rfl rfl (one_of HT_.out (by kernel_rfl)) (by decide) (fun K hK=> ?_)
 refine goes_ Try.func23 (by kernel_rfl) rfl #[.slice A0_0 l0_0.length c0_0] (by rfl) rfl rfl (by(try simp only [List.map_toArray,List.map_cons,List.map_nil]);first|done|rfl|(simp only [List.length_drop,List.length_take];rfl)) ?_
 with_reducible refine(anillaw06_list.calls _ _ l0_0 t537 _ ?side1 ?side2 A2.out).mono ?_
 (case side1=>repeat(first|exact(Kd.C_below HR0_0.out HB.out)|(with_reducible refine Kd.C_alloc ?_ _)|(with_reducible refine Kd.C_drewN ?_ _)|(with_reducible refine Kd.C_drew ?_)))
 (case side2=>exact HC0_0.out)
 rintro e w7 ⟨v538,rfl,ho0,hb⟩
 refine⟨_,rfl,?_⟩
 have n0_:=Aside0.mk (Kd.R_lower ho0 (below_size (by repeat(first|(with_reducible first|exact HB.out|apply below_alloc|apply pw_below_drewN|apply below_drew1|refine below_set ?_ GE535.out|refine below_set ?_ GE536.out)|exact HB.out))))
 have n1_:=Aside0.mk (blk_below (g:=gb535) (o:= .cells #[.slice A0_0 l0_0.length c0_0,.slice A0_1 l0_1.length c0_1] 76 (0,0)) (by(with_reducible repeat(first|refine blk_drewN ?_ _|refine blk_drew ?_|refine blk_alloc ?_ _));exact BK535.out) hb)
 have n2_:=Aside0.mk (blk_below (g:=gb536) (o:= .cells #[.slice none 0 0,.slice none 0 0] 82 (0,0)) (by(with_reducible repeat(first|refine blk_drewN ?_ _|refine blk_drew ?_|refine blk_alloc ?_ _));exact BK536.out) hb)
 have n3_:=Aside0.mk (below_step (by repeat(first|(with_reducible first|exact HB.out|apply below_alloc|apply pw_below_drewN|apply below_drew1|refine below_set ?_ GE535.out|refine below_set ?_ GE536.out)|exact HB.out)) hb)
 clear BK535
 clear BK536
 clear HB
 have HO539:=n0_
 have BK535:=n1_
 have BK536:=n2_
 have HB:=n3_
 clear n0_ n1_ n2_ n3_
 (try clear hb)
 (try clear hb2)
 (try clear hk)
 (try clear hi)
 (try clear ho0)
 refine hK.out _ _ ⟨(blk_cell BK535.out 0).trans rfl,(blk_cell BK535.out 1).trans rfl⟩ (fun hHeld=> ?_)
 clear hK K
 refine norm_ (a':= ?_) ?_ ?_
 rotate_left
 ·show Act.put _ (some 5) _=_
  simp only [Act.put,List.setIfInBounds_toArray,List.set_cons_zero,List.set_cons_succ,i64_w,i32_w]
  rfl
 refine one_ (i:=5) (N:=some 8) #[true,true,true,true,true,true,false,false] rfl rfl (one_of HT_.out (by kernel_rfl)) (by decide) (fun K hK=> ?_)
 refine goes_ Try.func23 (by kernel_rfl) rfl #[.slice A0_1 l0_1.length c0_1] (by rfl) rfl rfl (by(try simp only [List.map_toArray,List.map_cons,List.map_nil]);first|done|rfl|(simp only [List.length_drop,List.length_take];rfl)) ?_
 with_reducible refine(anillaw06_list.calls _ _ l0_1 t540 _ ?side1 ?side2 A3.out).mono ?_
 (case side1=>repeat(first|exact(Kd.C_below HR0_1.out HB.out)|(with_reducible refine Kd.C_alloc ?_ _)|(with_reducible refine Kd.C_drewN ?_ _)|(with_reducible refine Kd.C_drew ?_)))
 (case side2=>exact HC0_1.out)
 rintro e w8 ⟨v541,rfl,ho0,hb⟩
 refine⟨_,rfl,?_⟩
 have n0_:=Aside0.mk (Kd.R_elder' (by(with_reducible repeat(first|apply Kd.R_alloc|apply Kd.R_drewN|apply Kd.R_drew));exact HO539.out) (Kd.R_base ho0) hb)
 have n1_:=Aside0.mk (Kd.R_lower (Kd.R_new' ho0 (Kd.R_lt (by(with_reducible repeat(first|apply Kd.R_alloc|apply Kd.R_drewN|apply Kd.R_drew));exact HO539.out))) (below_size (by repeat(first|(with_reducible first|exact HB.out|apply below_alloc|apply pw_below_drewN|apply below_drew1|refine below_set ?_ GE535.out|refine below_set ?_ GE536.out)|exact HB.out))))
 have n2_:=Aside0.mk (blk_below (g:=gb535) (o:= .cells #[.slice A0_0 l0_0.length c0_0,.slice A0_1 l0_1.length c0_1] 76 (0,0)) (by(with_reducible repeat(first|refine blk_drewN ?_ _|refine blk_drew ?_|refine blk_alloc ?_ _));exact BK535.out) hb)
 have n3_:=Aside0.mk (blk_below (g:=gb536) (o:= .cells #[.slice none 0 0,.slice none 0 0] 82 (0,0)) (by(with_reducible repeat(first|refine blk_drewN ?_ _|refine blk_drew ?_|refine blk_alloc ?_ _));exact BK536.out) hb)
 have n4_:=Aside0.mk (below_step (by repeat(first|(with_reducible first|exact HB.out|apply below_alloc|apply pw_below_drewN|apply below_drew1|refine below_set ?_ GE535.out|refine below_set ?_ GE536.out)|exact HB.out)) hb)
 clear HO539
 clear BK535
 clear BK536
 clear HB
 have HO539:=n0_
 have HO542:=n1_
 have BK535:=n2_
 have BK536:=n3_
 have HB:=n4_
 clear n0_ n1_ n2_ n3_ n4_
 (try clear hb)
 (try clear hb2)
 (try clear hk)
 (try clear hi)
 (try clear ho0)
 obtain⟨Ao9,co9,eo9⟩:=Kd.R_slice HO542.out
 (first|subst eo9|(injection eo9 with f1_ f2_ f3_;have f4_:=f1_.symm;have f5_:=f3_.symm;clear f1_ f2_ f3_;subst f4_;subst f5_))
 obtain⟨Ao10,co10,eo10⟩:=Kd.R_slice HO539.out
 (first|subst eo10|(injection eo10 with f1_ f2_ f3_;have f4_:=f1_.symm;have f5_:=f3_.symm;clear f1_ f2_ f3_;subst f4_;subst f5_))
 refine hK.out _ _ ⟨(blk_cell BK535.out 0).trans rfl,(blk_cell BK535.out 1).trans rfl⟩ (fun hHeld=> ?_)
 clear hK K
 refine norm_ (a':= ?_) ?_ ?_
 rotate_left
 ·show Act.put _ (some 8) _=_
  simp only [Act.put,List.setIfInBounds_toArray,List.set_cons_zero,List.set_cons_succ,i64_w,i32_w]
  rfl
 refine pure_ (i:=6) (N:=some 9) (v:= ?_) (a':= ?_) #[true,true,true,true,true,true,true,false] rfl rfl (any_of HT_.out (by kernel_rfl)) (fun _ _ _ h=>h) (Or.inl ⟨by rfl,?_⟩) ?_ ?_
 rotate_left
 ·intro w'
  go_simp
  with_reducible rfl
 rotate_left
 ·simp only [Act.put,List.setIfInBounds_toArray,List.set_cons_zero,List.set_cons_succ,i64_w,i32_w]
  rfl
 refine one_ (i:=7) (N:=none) #[true,true,true,true,true,true,true,true] rfl rfl (one_of HT_.out (by kernel_rfl)) (by decide) (fun K hK=> ?_)
 have hs11:w8.cell? ⟨gb536,0,none⟩=some (.slice none 0 0):=(blk_cell BK536.out 0).trans rfl
 have hfs11:=blk_frozen BK536.out 0
 have hns11_0:=NB535_536.out
 have hms11_0:=NB536_535.out
 have hs12:w8.cell? ⟨gb536,1,none⟩=some (.slice none 0 0):=(blk_cell BK536.out 1).trans rfl
 have hfs12:=blk_frozen BK536.out 1
 have hns12_0:=NB535_536.out
 have hms12_0:=NB536_535.out
 refine skip_ (w1:= ?_) (by rfl) rfl ?_ ?_
 rotate_left
 ·go_simp
  rfl
 refine hK.out _ _ ⟨((cell_far (p:=⟨gb536,_,none⟩) NB535_536.out _).trans (((cell_far (p:=⟨gb536,_,none⟩) NB535_536.out _).trans (hHeld.1)))),((cell_far (p:=⟨gb536,_,none⟩) NB535_536.out _).trans (((cell_far (p:=⟨gb536,_,none⟩) NB535_536.out _).trans (hHeld.2))))⟩ (fun hHeld=> ?_)
 clear hK K
 refine done_ (done_of HT_.out (by kernel_rfl)) ?_
 try go_wp2
 refine bodyPost_ret (results_cell_row rfl _ _ gb536 82 #[.slice Ao10 t537.length co10,.slice Ao9 t540.length co9] (0,0) _ rfl (by(with_reducible repeat(first|refine blk_drewN ?_ _|refine blk_drew ?_|refine blk_alloc ?_ _));refine blk_put (cs:=#[.slice Ao10 t537.length co10,.slice none 0 0]) ?_ 1 _ rfl;(with_reducible repeat(first|refine blk_drewN ?_ _|refine blk_drew ?_|refine blk_alloc ?_ _));refine blk_put (cs:=#[.slice none 0 0,.slice none 0 0]) ?_ 0 _ rfl;(with_reducible repeat(first|refine blk_drewN ?_ _|refine blk_drew ?_|refine blk_alloc ?_ _));exact BK536.out) Try.underlying82 rfl (by kernel_rfl)) rfl ?_
 exact⟨_,_,by first|rfl|(simp [errW_none,errW_some]<;>rfl)|(simp [*,errW_none,errW_some]<;>rfl),by(with_reducible repeat(first|apply Kd.R_alloc|apply Kd.R_drewN|apply Kd.R_drew));exact Kd.R_mono (Kd.R_far (p:=⟨gb536,1,none⟩) (Kd.R_far (p:=⟨gb536,0,none⟩) (Kd.R_types HO539.out BK536.out (by decide)) (fun _ hk=>hk.2) (.slice Ao10 t537.length co10)) (fun _ hk=>hk.2) (.slice Ao9 t540.length co9)) (fun _ hk=>hk.1.2),by(with_reducible repeat(first|apply Kd.R_alloc|apply Kd.R_drewN|apply Kd.R_drew));exact Kd.R_mono (Kd.R_far (p:=⟨gb536,1,none⟩) (Kd.R_far (p:=⟨gb536,0,none⟩) (Kd.R_types HO542.out BK536.out (by decide)) (fun _ hk=>hk.2) (.slice Ao10 t537.length co10)) (fun _ hk=>hk.2) (.slice Ao9 t540.length co9)) (fun _ hk=>hk.1.2),by repeat(first|(with_reducible first|exact HB.out|apply below_alloc|apply pw_below_drewN|apply below_drew1|refine below_set ?_ GE535.out|refine below_set ?_ GE536.out)|exact HB.out)⟩
end Go.Proofs.Ytjifalohjlihaaa.Q
end
section
namespace Go.Proofs.Ytjifalohjlihaaa.Q
set_option linter.unusedVariables false
open Go.BigFrame Go.RowKit Go.Shelf Go.Proofs.YtjifalohjlihaaaW.PrintWords Go.Proofs.YtjifalohjlihaaaW.PrintLast Go.Proofs.YtjifalohjlihaaaW.PrintMore
theorem many_fold:∀(xs:List S56) (m:Nat),(∀x∈xs,x.f0≤x.f1)→m*sizeP xs≤2000→xs.foldl (fun m x=>many1 m x.f0 x.f1) (m:Int)=((m*sizeP xs:Nat):Int):=by
 intro xs
 induction xs with
 |nil=>intro m _ _;rw [List.foldl_nil,sizeP,Nat.mul_one]
 |cons x t ih=>
  intro m hx hm
  have ht:=sizeP_pos t (fun y hy=>hx y (List.mem_cons_of_mem _ hy))
  have hs:=hx x (List.mem_cons_self ..)
  obtain⟨z,hz⟩:∃z:Nat,x.f1-x.f0+1=(z:Int):=⟨(x.f1-x.f0+1).toNat,by omega⟩
  rw [sizeP,hz,Int.toNat_natCast]at hm ⊢
  rw [List.foldl_cons]
  have h1:m*z*sizeP t≤2000:=by rw [Nat.mul_assoc];exact hm
  have h2:m*z*1≤m*z*sizeP t:=Nat.mul_le_mul_left _ ht
  have h3:many1 (m:Int) x.f0 x.f1=((m*z:Nat):Int):=by
   unfold many1
   rw [hz]
   have e:(m:Int)*(z:Int)=((m*z:Nat):Int):=by simp
   rw [e]
   unfold mn
   rw [if_pos (by omega)]
  rw [h3,ih (m*z) (fun y hy=>hx y (List.mem_cons_of_mem _ hy)) h1,Nat.mul_assoc]
theorem many_size {r:RL} (hr:RV r):r.many=(sizeP r.sl.ranges:Int):=by
 have e:r.sl.ranges.foldl (fun m x=>many1 m x.f0 x.f1) ((1:Nat):Int)=r.many:=by
  unfold SL.ranges RL.sl RL.many manyC manyA
  simp only [List.foldl_append,List.foldl_map]
  rfl
 rw [←e,many_fold _ 1 (ranges_le hr) (by rw [Nat.one_mul];exact size_le hr),Nat.one_mul]
theorem sized_of {r:RL} (hr:RV r):Sized r:=by
 refine⟨by have:=hr.n1;have:=hr.a0;omega,by have:=hr.n3;omega,fun i hi=> ?_,fun i hi=> ?_⟩
 ·have:=hr.airs (i:=(i:Int)) (by omega) (by omega);exact⟨this.1,this.2.1,by omega⟩
 ·exact(hr.cake (i:=(i:Int)) (by omega) (by omega)).2.1
theorem Many_at (x:SA) (r:RL) (hv:RV r) (w:World) (hr:RRd w x r):Calls Try.prog 49 #[.agg (r.cells x)] w fun e w'=>e= .returned (.int .i64 (sizeP r.sl.ranges:Int))∧Below w.heap.size w w':=by
 rw [←many_size hv]
 exact rMany x r w hr (sized_of hv)
def TRok (X:World) (v:Value) (ta tw:List Int):Prop:=∃A c A' c',v= .agg #[.slice A ta.length c,.slice A' tw.length c']∧ta.length≤c∧tw.length≤c'∧Kd.C (Kd.int .i64) X A ta.length ta∧Kd.C (Kd.int .i64) X A' tw.length tw
theorem TRok.below {X Y:World} {v:Value} {ta tw:List Int} (h:TRok X v ta tw) (hb:Below X.heap.size X Y):TRok Y v ta tw:=by
 obtain⟨A,c,A',c',e,h1,h2,h3,h4⟩:=h
 exact⟨A,c,A',c',e,h1,h2,Kd.C_below h3 hb,Kd.C_below h4 hb⟩
theorem Nth_at (x:SA) (r:RL) (hv:RV r) (n:Int) (n0:0≤n) (n1:n≤3000) (w:World) (hr:RRd w x r):Calls Try.prog 48 #[.agg (r.cells x),.int .i64 n] w fun e w'=>∃v,e= .returned v∧TRok w' v (r.nthA n) (r.nthW n)∧Below w.heap.size w w':=
 (anilref06_Nth.calls 20 r.a0 x.A1 x.c1 r.l1 x.A2 x.c2 r.l2 x.A3 x.c3 r.l3 x.A4 x.c4 r.l4 x.A5 x.c5 r.l5 n _ _ w hr.r1 hr.h1 hr.r2 hr.h2 hr.r3 hr.h3 hr.r4 hr.h4 hr.r5 hr.h5 (Nth_some hv n n0 n1 20 (Nat.le_refl _))).mono (by
  rintro e w' ⟨v0,v1,rfl,h0,h1,hb⟩
  obtain⟨A,c,rfl,hl,hC⟩:=Kd.R_reads h0
  obtain⟨A',c',rfl,hl',hC'⟩:=Kd.R_reads h1
  exact⟨_,rfl,⟨A,c,A',c',rfl,hl,hl',hC,hC'⟩,hb⟩)
theorem Truth_at (ta tw:List Int) (v:Value) (w:World) (h:TRok w v ta tw) (h1:ta.length≤1000) (h2:tw.length≤1000):Calls Try.prog 47 #[v] w fun e w'=>∃v',e= .returned v'∧TRok w' v' ta tw∧Below w.heap.size w w':=by
 obtain⟨A,c,A',c',rfl,hl,hl',hC,hC'⟩:=h
 exact(anillaw06_Truth.calls A c ta A' c' tw ta tw w hC hl hC' hl' (by unfold anillaw06_Truth.f anillaw06_list.f;rw [if_pos (by omega)];simp only [Option.bind_some];rw [if_pos (by omega)];rfl)).mono (by
  rintro e w' ⟨v0,v1,rfl,h0,h1,hb⟩
  obtain⟨A,c,rfl,hl,hC⟩:=Kd.R_reads h0
  obtain⟨A',c',rfl,hl',hC'⟩:=Kd.R_reads h1
  exact⟨_,rfl,⟨A,c,A',c',rfl,hl,hl',hC,hC'⟩,hb⟩)
theorem playErr_zero {l:SL} (hf:l.fault=0) {z ta tw:List Int} (hl:l.isListed ta tw) (hz:l.isPlace z):l.playErr z ta tw=0:=by
 unfold SL.playErr
 rw [if_neg (fun h=>h hf),if_pos hl,if_pos hz]
theorem playOf_ok {l:SL} (hf:l.fault=0) {z ta tw:List Int} (hl:l.isListed ta tw) (hz:l.isPlace z):l.playOf z ta tw=l.playRows z (pad11 (ta++tw)) z.length:=by
 unfold SL.playOf SL.listed
 rw [if_pos (playErr_zero hf hl hz),if_pos hl]
theorem row_at (l:SL) (z ns:List Int) (k:Nat) (i:Nat) (hi:i < k):rd_L12 (l.playRows z ns k) (i:Int)=l.left ns (i:Int) (rd z (i:Int)):=by
 unfold rd_L12 SL.playRows
 rw [Int.toNat_natCast,List.getD_eq_getElem?_getD,List.getElem?_map,List.getElem?_range hi]
 rfl
theorem left_facts {l:SL} (hv:Valid l) {ns:List Int} (hn:Num ns) {cake shelf:Int} (hs:Spot l cake shelf):
  ((l.left ns cake shelf).length:Int)=l.a0+1-(rd_T126 l.l3 cake).f0∧(∀j:Nat,j <(l.left ns cake shelf).length→0≤rd (l.left ns cake shelf) (j:Int)∧rd (l.left ns cake shelf) (j:Int)≤40)∧
  ∀j:Nat,j+1 <(l.left ns cake shelf).length→rd (l.left ns cake shelf) ((j:Int)+1)≤rd (l.left ns cake shelf) (j:Int):=by
 have hc:=hv.cakes cake hs.k0 hs.k1
 have hb:=hv.shelves shelf hs.s0 hs.s1
 have hl:(l.left ns cake shelf).length=(l.a0+1-(rd_T126 l.l3 cake).f0).toNat:=leftSeq_len _ _ _ _ _
 have hw:=wat_small (ns:=ns) (draft:=(rd_T135 l.l2 shelf).f1) (d:=(rd_T126 l.l3 cake).f0) (w:=rd ns (l.a0+1+cake)) hn.small hb.2.2.1 (hn.small _)
 have ha:∀j:Nat,j <(l.left ns cake shelf).length→rd (l.left ns cake shelf) (j:Int)=wat ns (rd_T135 l.l2 shelf).f1 (rd_T126 l.l3 cake).f0 (rd ns (l.a0+1+cake)) (j+1):=fun j hj=>by
  rw [hl]at hj
  exact leftSeq_at _ _ _ _ _ j hj
 refine⟨by omega,fun j hj=>by rw [ha j hj];exact hw _,fun j hj=> ?_⟩
 have h1:=ha (j+1) hj
 rw [show((j+1:Nat):Int)=(j:Int)+1 by omega]at h1
 rw [h1,ha j (by omega),wat]
 have h2:=hw (j+1)
 have h3:=hn.small ((rd_T126 l.l3 cake).f0+((j+1:Nat):Int))
 unfold mx
 split<;>omega
end Go.Proofs.Ytjifalohjlihaaa.Q
end
section
namespace Go.Proofs.Ytjifalohjlihaaa.Q
set_option linter.unusedVariables false
open Go.BigFrame Go.RowKit Go.Shelf Go.Proofs.YtjifalohjlihaaaW.PrintWords Go.Proofs.YtjifalohjlihaaaW.PrintLast Go.Proofs.YtjifalohjlihaaaW.PrintMore
set_option maxRecDepth 100000 in
set_option maxHeartbeats 6400000 in
theorem ShelfStays_calls (x : SA) (r : RL) (t : Int) (ht : 0 ≤ t ∧ t ≤ 65535) (B : Option Addr) (cB : Nat) (put : List Int) (w : World) (hr : RRd w x r) (hP : Kd.C (Kd.int .u16) w B put.length put) (hcB : put.length ≤ cB) (hu : ∀ i, 0 ≤ rd put i ∧ rd put i ≤ 65535) :
    Calls Try.prog 7 #[.agg (r.cells x), .int .u16 t, .slice B put.length cB] w fun e w' => e = .returned (.bool true) ∧ Below w.heap.size w w' := by
  obtain ⟨A1, c1, A2, c2, A3, c3, A4, c4, A5, c5⟩ := x
  have HB := Aside0.mk (Below.refl w.heap.size w)
  have HR := Aside0.mk hr
  obtain ⟨d, hd⟩ : ∃ d, d = decide (r.thin ∧ r.sl.fault = 0) := ⟨_, rfl⟩
  have HD := Aside0.mk hd
  clear hr hd
  have HPUT := Aside0.mk hP
  clear hP
  go_enter Try.func7, Try.ntmps7
  cases d with
  | false =>
    go_wp2_with (first | ((with_reducible refine gate_dst (N := 3) rfl ?_); refine box_event ?hg (N := 3) ?hd (cs := #[.int .i64 r.a0, .slice A1 r.l1.length c1, .slice A2 r.l2.length c2, .slice A3 r.l3.length c3, .slice A4 r.l4.length c4, .slice A5 r.l5.length c5]) (t := 28) ?hr ?_; (case hd => rfl); (case hg => rfl); (case hr => first | (go_simp; done) | (go_simp; rfl)); intro g1 hg_ w1 hbx_ hb_; have BK1 := Aside0.mk hbx_; have g1ge : w.heap.size ≤ g1 := (by have := below_size HB.out; omega); have g1GE := Aside0.mk g1ge; clear g1ge; have HBn := Aside0.mk (below_step HB.out hb_); clear HB hg_ hb_ hbx_; have HB := HBn; clear HBn; have f0 : w1.cell? ⟨g1, 0, none⟩ = some (.int .i64 r.a0) := (blk_cell BK1.out 0).trans rfl; have f1 : w1.cell? ⟨g1, 1, none⟩ = some (.slice A1 r.l1.length c1) := (blk_cell BK1.out 1).trans rfl; have f2 : w1.cell? ⟨g1, 2, none⟩ = some (.slice A2 r.l2.length c2) := (blk_cell BK1.out 2).trans rfl; have f3 : w1.cell? ⟨g1, 3, none⟩ = some (.slice A3 r.l3.length c3) := (blk_cell BK1.out 3).trans rfl; have f4 : w1.cell? ⟨g1, 4, none⟩ = some (.slice A4 r.l4.length c4) := (blk_cell BK1.out 4).trans rfl; have f5 : w1.cell? ⟨g1, 5, none⟩ = some (.slice A5 r.l5.length c5) := (blk_cell BK1.out 5).trans rfl) | (go_at_call 43; go_must (refine (ready_calls ⟨A1, c1, A2, c2, A3, c3, A4, c4, A5, c5⟩ r _ (RRd.below HR.out HB.out)).mono ?_; rw [← HD.out]; clear f0 f1 f2 f3 f4 f5; rintro e wt ⟨rfl, hb⟩; replace BK1 := Aside0.mk (blk_below BK1.out hb); replace HB := Aside0.mk (below_step HB.out hb); clear hb; have f0 : wt.cell? ⟨g1, 0, none⟩ = some (.int .i64 r.a0) := (blk_cell BK1.out 0).trans rfl; have f1 : wt.cell? ⟨g1, 1, none⟩ = some (.slice A1 r.l1.length c1) := (blk_cell BK1.out 1).trans rfl; have f2 : wt.cell? ⟨g1, 2, none⟩ = some (.slice A2 r.l2.length c2) := (blk_cell BK1.out 2).trans rfl; have f3 : wt.cell? ⟨g1, 3, none⟩ = some (.slice A3 r.l3.length c3) := (blk_cell BK1.out 3).trans rfl; have f4 : wt.cell? ⟨g1, 4, none⟩ = some (.slice A4 r.l4.length c4) := (blk_cell BK1.out 4).trans rfl; have f5 : wt.cell? ⟨g1, 5, none⟩ = some (.slice A5 r.l5.length c5) := (blk_cell BK1.out 5).trans rfl)) | (go_at_call 20; go_must (refine (awake_calls _).mono ?_; rintro e wa ⟨rfl, hb⟩; replace HB := Aside0.mk (below_step HB.out hb); clear hb)))
    go_ret
    exact ⟨rfl, HB.out⟩
  | true =>
    have hth := (of_decide_eq_true HD.out.symm).1
    have t1 : r.l1.length ≤ 1000 := by have := hth.1; omega
    have t2 : r.l2.length ≤ 1000 := by have := hth.2.1; omega
    have t3 : r.l3.length ≤ 1000 := by have := hth.2.2.1; omega
    have t5 : r.l5.length ≤ 1000 := by have := hth.2.2.2.1; omega
    have t4 : r.l4.length ≤ 1000 := by have := hth.2.2.2.2; omega
    have HF := Aside0.mk (of_decide_eq_true HD.out.symm).2
    have HV := Aside0.mk (RV.mk' HF.out)
    clear hth
    obtain ⟨z, hz, hPl⟩ := Placed_at ⟨A1, c1, A2, c2, A3, c3, A4, c4, A5, c5⟩ r HF.out B cB put w HR.out HPUT.out hcB hu
    obtain ⟨M, hM⟩ : ∃ M, M = (sizeP r.sl.ranges : Int) := ⟨_, rfl⟩
    have HM := Aside0.mk hM
    have M0 : 0 < M := by have := sizeP_pos _ (ranges_le HV.out); omega
    have M1 : M ≤ 2000 := by have := size_le HV.out; omega
    obtain ⟨n, hn⟩ : ∃ n, n = t % M := ⟨_, rfl⟩
    have HN := Aside0.mk hn
    have n0 : 0 ≤ n := by rw [hn]; exact Int.emod_nonneg _ (by omega)
    have n1 : n ≤ 3000 := by have := Int.emod_lt_of_pos t M0; omega
    have hls := nth_listed HV.out n0
    obtain ⟨ta, hta⟩ : ∃ ta, ta = r.nthA n := ⟨_, rfl⟩
    obtain ⟨tw, htw⟩ : ∃ tw, tw = r.nthW n := ⟨_, rfl⟩
    rw [← hta, ← htw] at hls
    have HTA := Aside0.mk hta
    have HTW := Aside0.mk htw
    have HPE := Aside0.mk (playErr_zero HF.out hls hz)
    have HPO := Aside0.mk (playOf_ok HF.out hls hz)
    obtain ⟨P, hP⟩ : ∃ P, P = r.sl.playRows z (pad11 (ta ++ tw)) z.length := ⟨_, rfl⟩
    have HP := Aside0.mk hP
    have la : ta.length ≤ 1000 := by rw [hls.1]; show (r.l1.map cR).length ≤ 1000; rw [List.length_map]; exact t1
    have lw : tw.length ≤ 1000 := by rw [hls.2.1]; show (r.l3.map cC).length ≤ 1000; rw [List.length_map]; exact t3
    clear hM hn hta htw hP
    obtain ⟨t0, t9⟩ := ht
    go_upto_region 3 with (first | ((with_reducible refine gate_dst (N := 3) rfl ?_); refine box_event ?hg (N := 3) ?hd (cs := #[.int .i64 r.a0, .slice A1 r.l1.length c1, .slice A2 r.l2.length c2, .slice A3 r.l3.length c3, .slice A4 r.l4.length c4, .slice A5 r.l5.length c5]) (t := 28) ?hr ?_; (case hd => rfl); (case hg => rfl); (case hr => first | (go_simp; done) | (go_simp; rfl)); intro g1 hg_ w1 hbx_ hb_; have BK1 := Aside0.mk hbx_; have g1ge : w.heap.size ≤ g1 := (by have := below_size HB.out; omega); have g1GE := Aside0.mk g1ge; clear g1ge; have HBn := Aside0.mk (below_step HB.out hb_); clear HB hg_ hb_ hbx_; have HB := HBn; clear HBn; have f0 : w1.cell? ⟨g1, 0, none⟩ = some (.int .i64 r.a0) := (blk_cell BK1.out 0).trans rfl; have f1 : w1.cell? ⟨g1, 1, none⟩ = some (.slice A1 r.l1.length c1) := (blk_cell BK1.out 1).trans rfl; have f2 : w1.cell? ⟨g1, 2, none⟩ = some (.slice A2 r.l2.length c2) := (blk_cell BK1.out 2).trans rfl; have f3 : w1.cell? ⟨g1, 3, none⟩ = some (.slice A3 r.l3.length c3) := (blk_cell BK1.out 3).trans rfl; have f4 : w1.cell? ⟨g1, 4, none⟩ = some (.slice A4 r.l4.length c4) := (blk_cell BK1.out 4).trans rfl; have f5 : w1.cell? ⟨g1, 5, none⟩ = some (.slice A5 r.l5.length c5) := (blk_cell BK1.out 5).trans rfl) | (go_at_call 43; go_must (refine (ready_calls ⟨A1, c1, A2, c2, A3, c3, A4, c4, A5, c5⟩ r _ (RRd.below HR.out HB.out)).mono ?_; rw [← HD.out]; clear f0 f1 f2 f3 f4 f5; rintro e wt ⟨rfl, hb⟩; replace BK1 := Aside0.mk (blk_below BK1.out hb); replace HB := Aside0.mk (below_step HB.out hb); clear hb; have f0 : wt.cell? ⟨g1, 0, none⟩ = some (.int .i64 r.a0) := (blk_cell BK1.out 0).trans rfl; have f1 : wt.cell? ⟨g1, 1, none⟩ = some (.slice A1 r.l1.length c1) := (blk_cell BK1.out 1).trans rfl; have f2 : wt.cell? ⟨g1, 2, none⟩ = some (.slice A2 r.l2.length c2) := (blk_cell BK1.out 2).trans rfl; have f3 : wt.cell? ⟨g1, 3, none⟩ = some (.slice A3 r.l3.length c3) := (blk_cell BK1.out 3).trans rfl; have f4 : wt.cell? ⟨g1, 4, none⟩ = some (.slice A4 r.l4.length c4) := (blk_cell BK1.out 4).trans rfl; have f5 : wt.cell? ⟨g1, 5, none⟩ = some (.slice A5 r.l5.length c5) := (blk_cell BK1.out 5).trans rfl)))
    clear f0 f1 f2 f3 f4 f5
    have hbd := below_drew1 (Below.refl wt.heap.size wt)
    refine wp_open 18 _ (fun v => { tmps := #[.agg (r.cells (⟨A1, c1, A2, c2, A3, c3, A4, c4, A5, c5⟩ : SA)), .int .u16 t, .slice B put.length cB, .pointer (some ⟨g1, 0, none⟩), undef, undef, .bool false, v 17, undef, undef, undef, .agg #[.int .i64 r.a0, .slice A1 r.l1.length c1, .slice A2 r.l2.length c2, .slice A3 r.l3.length c3, .slice A4 r.l4.length c4, .slice A5 r.l5.length c5], .bool true, .bool false, undef, v 14, v 0, v 1, v 2, v 3, v 4, v 5, v 6, v 7, v 8, v 9, v 10, v 11, v 12, v 13, v 15, v 16, undef, undef, undef, undef, undef, undef, undef, undef, undef, undef, undef, undef, undef, undef, undef, undef, undef, undef, undef, undef, undef, undef, undef, undef, undef, undef, undef, undef, undef, undef, undef, undef, undef, undef, undef, undef, undef, undef, undef, undef, undef, undef, undef, undef, undef, undef, undef, undef, undef, undef, undef, undef], defers := [] }) (fun _ => undef) (fun j x X => match j with
        | 0 => x = .agg (r.cells ⟨A1, c1, A2, c2, A3, c3, A4, c4, A5, c5⟩)
        | 1 => ∃ y : SA, x = .agg (y.cells (r.sl)) ∧ Rd X y (r.sl)
        | 2 => x = .agg (r.cells ⟨A1, c1, A2, c2, A3, c3, A4, c4, A5, c5⟩)
        | 3 => x = .slice B put.length cB
        | 4 => ∃ A c, x = .slice A (z).length c ∧ (z).length ≤ c ∧ Kd.C (Kd.int .i64) X A (z).length (z)
        | 5 => x = .agg (r.cells ⟨A1, c1, A2, c2, A3, c3, A4, c4, A5, c5⟩)
        | 6 => x = .int .u16 t
        | 7 => x = .int .i64 t
        | 8 => x = .agg (r.cells ⟨A1, c1, A2, c2, A3, c3, A4, c4, A5, c5⟩)
        | 9 => x = .int .i64 M
        | 10 => x = .int .i64 n
        | 11 => TRok X x (ta) (tw)
        | 12 => TRok X x (ta) (tw)
        | 13 => ∃ A c, x = .tuple #[.slice A (P).length c, .int .i64 0] ∧ (P).length ≤ c ∧ Kd.C kL X A (P).length (P)
        | 14 => ∃ A c, x = .tuple #[.slice A (P).length c, .int .i64 0] ∧ (P).length ≤ c ∧ Kd.C kL X A (P).length (P)
        | 15 => ∃ A c, x = .slice A (P).length c ∧ (P).length ≤ c ∧ Kd.C kL X A (P).length (P)
        | 16 => x = .int .i64 0
        | 17 => ∃ A c, x = .slice A (P).length c ∧ (P).length ≤ c ∧ Kd.C kL X A (P).length (P)
        | _ => True) (fun X => Below wt.drew.heap.size wt.drew X) (by kernel_rfl) rfl rfl (by kernel_rfl) rfl (Below.refl _ _) ?_ ?_ ?_
    · intro j hj x X W' hb h
      obtain hlt | hge := Nat.lt_or_ge j 10
      · obtain rfl | rfl | rfl | rfl | rfl | rfl | rfl | rfl | rfl | rfl : j = 0 ∨ j = 1 ∨ j = 2 ∨ j = 3 ∨ j = 4 ∨ j = 5 ∨ j = 6 ∨ j = 7 ∨ j = 8 ∨ j = 9 := by omega
        all_goals first | exact h | exact TRok.below h hb | (obtain ⟨y, e, h1⟩ := h; first | exact ⟨y, e, Rd.below h1 hb⟩ | exact ⟨y, e, RRd.below h1 hb⟩) | (obtain ⟨A, c, e, h1, h2⟩ := h; exact ⟨A, c, e, h1, Kd.C_below h2 hb⟩) | (obtain ⟨g, e, h1, h2⟩ := h; exact ⟨g, e, blk_below h1 hb, h2⟩) | (obtain ⟨A, c, e, h1⟩ := h; exact ⟨A, c, e, Kd.R_below h1 hb⟩)
      obtain rfl | rfl | rfl | rfl | rfl | rfl | rfl | rfl : j = 10 ∨ j = 11 ∨ j = 12 ∨ j = 13 ∨ j = 14 ∨ j = 15 ∨ j = 16 ∨ j = 17 := by omega
      all_goals first | exact h | exact TRok.below h hb | (obtain ⟨y, e, h1⟩ := h; first | exact ⟨y, e, Rd.below h1 hb⟩ | exact ⟨y, e, RRd.below h1 hb⟩) | (obtain ⟨A, c, e, h1, h2⟩ := h; exact ⟨A, c, e, h1, Kd.C_below h2 hb⟩) | (obtain ⟨g, e, h1, h2⟩ := h; exact ⟨g, e, blk_below h1 hb, h2⟩) | (obtain ⟨A, c, e, h1⟩ := h; exact ⟨A, c, e, Kd.R_below h1 hb⟩)
    · intro i hi
      obtain hlt | hge := Nat.lt_or_ge i 10
      · obtain rfl | rfl | rfl | rfl | rfl | rfl | rfl | rfl | rfl | rfl : i = 0 ∨ i = 1 ∨ i = 2 ∨ i = 3 ∨ i = 4 ∨ i = 5 ∨ i = 6 ∨ i = 7 ∨ i = 8 ∨ i = 9 := by omega
        · intro v X hB hj K hK
          have f0 : X.cell? ⟨g1, 0, none⟩ = some (.int .i64 r.a0) := (blk_cell (blk_below BK1.out (below_step hbd hB)) 0).trans rfl
          have f1 : X.cell? ⟨g1, 1, none⟩ = some (.slice A1 r.l1.length c1) := (blk_cell (blk_below BK1.out (below_step hbd hB)) 1).trans rfl
          have f2 : X.cell? ⟨g1, 2, none⟩ = some (.slice A2 r.l2.length c2) := (blk_cell (blk_below BK1.out (below_step hbd hB)) 2).trans rfl
          have f3 : X.cell? ⟨g1, 3, none⟩ = some (.slice A3 r.l3.length c3) := (blk_cell (blk_below BK1.out (below_step hbd hB)) 3).trans rfl
          have f4 : X.cell? ⟨g1, 4, none⟩ = some (.slice A4 r.l4.length c4) := (blk_cell (blk_below BK1.out (below_step hbd hB)) 4).trans rfl
          have f5 : X.cell? ⟨g1, 5, none⟩ = some (.slice A5 r.l5.length c5) := (blk_cell (blk_below BK1.out (below_step hbd hB)) 5).trans rfl
          refine wpOp_step (i := 0) (by rfl) (fun K' hK' => ?_)
          refine value_ (w1 := ?_) (v := ?_) (by rfl) rfl ?_ ?_
          rotate_left 2
          · go_simp
            constructor
            · rfl
            · rfl
          exact hK' _ _ (hK _ _ rfl hB (Below.refl _ _))
        · intro v X hB hj K hK
          have h0 : v 0 = .agg (r.cells ⟨A1, c1, A2, c2, A3, c3, A4, c4, A5, c5⟩) := hj 0 (needs_mem (by kernel_rfl))
          refine wpOp_step (i := 1) (by rfl) (fun K' hK' => ?_)
          refine goes_ Try.func22 (by kernel_rfl) rfl #[.agg (r.cells ⟨A1, c1, A2, c2, A3, c3, A4, c4, A5, c5⟩)] (by rfl) rfl rfl (by simp only [List.map_toArray, List.map_cons, List.map_nil]; show #[v 0] = _; rw [h0]) ?_
          refine (Loft_calls ⟨A1, c1, A2, c2, A3, c3, A4, c4, A5, c5⟩ r X (RRd.below HR.out (below_step HB.out (below_step hbd hB))) t1 t2 t3 t4 t5).mono ?_
          rintro e w' ⟨y, rfl, hr', hb⟩
          exact ⟨_, rfl, hK' _ _ (hK _ _ ⟨y, rfl, hr'⟩ (below_step hB hb) hb)⟩
        · intro v X hB hj K hK
          have f0 : X.cell? ⟨g1, 0, none⟩ = some (.int .i64 r.a0) := (blk_cell (blk_below BK1.out (below_step hbd hB)) 0).trans rfl
          have f1 : X.cell? ⟨g1, 1, none⟩ = some (.slice A1 r.l1.length c1) := (blk_cell (blk_below BK1.out (below_step hbd hB)) 1).trans rfl
          have f2 : X.cell? ⟨g1, 2, none⟩ = some (.slice A2 r.l2.length c2) := (blk_cell (blk_below BK1.out (below_step hbd hB)) 2).trans rfl
          have f3 : X.cell? ⟨g1, 3, none⟩ = some (.slice A3 r.l3.length c3) := (blk_cell (blk_below BK1.out (below_step hbd hB)) 3).trans rfl
          have f4 : X.cell? ⟨g1, 4, none⟩ = some (.slice A4 r.l4.length c4) := (blk_cell (blk_below BK1.out (below_step hbd hB)) 4).trans rfl
          have f5 : X.cell? ⟨g1, 5, none⟩ = some (.slice A5 r.l5.length c5) := (blk_cell (blk_below BK1.out (below_step hbd hB)) 5).trans rfl
          refine wpOp_step (i := 2) (by rfl) (fun K' hK' => ?_)
          refine value_ (w1 := ?_) (v := ?_) (by rfl) rfl ?_ ?_
          rotate_left 2
          · go_simp
            constructor
            · rfl
            · rfl
          exact hK' _ _ (hK _ _ rfl hB (Below.refl _ _))
        · intro v X hB hj K hK
          refine wpOp_step (i := 3) (by rfl) (fun K' hK' => ?_)
          refine value_ (w1 := ?_) (v := ?_) (by rfl) rfl ?_ ?_
          rotate_left 2
          · go_simp
            constructor
            · rfl
            · rfl
          exact hK' _ _ (hK _ _ rfl hB (Below.refl _ _))
        · intro v X hB hj K hK
          have h2 : v 2 = .agg (r.cells ⟨A1, c1, A2, c2, A3, c3, A4, c4, A5, c5⟩) := hj 2 (needs_mem (by kernel_rfl))
          have h3 : v 3 = .slice B put.length cB := hj 3 (needs_mem (by kernel_rfl))
          refine wpOp_step (i := 4) (by rfl) (fun K' hK' => ?_)
          refine goes_ Try.func44 (by kernel_rfl) rfl #[.agg (r.cells ⟨A1, c1, A2, c2, A3, c3, A4, c4, A5, c5⟩), .slice B put.length cB] (by rfl) rfl rfl (by simp only [List.map_toArray, List.map_cons, List.map_nil]; show #[v 2, v 3] = _; rw [h2, h3]) ?_
          refine (hPl X (below_step HB.out (below_step hbd hB))).mono ?_
          rintro e w' ⟨B, d, rfl, hl, hC, hb⟩
          exact ⟨_, rfl, hK' _ _ (hK _ _ ⟨B, d, rfl, hl, hC⟩ (below_step hB hb) hb)⟩
        · intro v X hB hj K hK
          have f0 : X.cell? ⟨g1, 0, none⟩ = some (.int .i64 r.a0) := (blk_cell (blk_below BK1.out (below_step hbd hB)) 0).trans rfl
          have f1 : X.cell? ⟨g1, 1, none⟩ = some (.slice A1 r.l1.length c1) := (blk_cell (blk_below BK1.out (below_step hbd hB)) 1).trans rfl
          have f2 : X.cell? ⟨g1, 2, none⟩ = some (.slice A2 r.l2.length c2) := (blk_cell (blk_below BK1.out (below_step hbd hB)) 2).trans rfl
          have f3 : X.cell? ⟨g1, 3, none⟩ = some (.slice A3 r.l3.length c3) := (blk_cell (blk_below BK1.out (below_step hbd hB)) 3).trans rfl
          have f4 : X.cell? ⟨g1, 4, none⟩ = some (.slice A4 r.l4.length c4) := (blk_cell (blk_below BK1.out (below_step hbd hB)) 4).trans rfl
          have f5 : X.cell? ⟨g1, 5, none⟩ = some (.slice A5 r.l5.length c5) := (blk_cell (blk_below BK1.out (below_step hbd hB)) 5).trans rfl
          refine wpOp_step (i := 5) (by rfl) (fun K' hK' => ?_)
          refine value_ (w1 := ?_) (v := ?_) (by rfl) rfl ?_ ?_
          rotate_left 2
          · go_simp
            constructor
            · rfl
            · rfl
          exact hK' _ _ (hK _ _ rfl hB (Below.refl _ _))
        · intro v X hB hj K hK
          refine wpOp_step (i := 6) (by rfl) (fun K' hK' => ?_)
          refine value_ (w1 := ?_) (v := ?_) (by rfl) rfl ?_ ?_
          rotate_left 2
          · go_simp
            constructor
            · rfl
            · rfl
          exact hK' _ _ (hK _ _ rfl hB (Below.refl _ _))
        · intro v X hB hj K hK
          have h6 : v 6 = .int .u16 t := hj 6 (needs_mem (by kernel_rfl))
          have hw7 : IntKind.i64.wrap t = t := IntWalk.i64_in _ (by omega)
          refine wpOp_step (i := 7) (by rfl) (fun K' hK' => ?_)
          refine value_ (w1 := ?_) (v := ?_) (by rfl) rfl ?_ ?_
          rotate_left 2
          · go_simp
            constructor
            · rfl
            · rfl
          exact hK' _ _ (hK _ _ rfl hB (Below.refl _ _))
        · intro v X hB hj K hK
          have f0 : X.cell? ⟨g1, 0, none⟩ = some (.int .i64 r.a0) := (blk_cell (blk_below BK1.out (below_step hbd hB)) 0).trans rfl
          have f1 : X.cell? ⟨g1, 1, none⟩ = some (.slice A1 r.l1.length c1) := (blk_cell (blk_below BK1.out (below_step hbd hB)) 1).trans rfl
          have f2 : X.cell? ⟨g1, 2, none⟩ = some (.slice A2 r.l2.length c2) := (blk_cell (blk_below BK1.out (below_step hbd hB)) 2).trans rfl
          have f3 : X.cell? ⟨g1, 3, none⟩ = some (.slice A3 r.l3.length c3) := (blk_cell (blk_below BK1.out (below_step hbd hB)) 3).trans rfl
          have f4 : X.cell? ⟨g1, 4, none⟩ = some (.slice A4 r.l4.length c4) := (blk_cell (blk_below BK1.out (below_step hbd hB)) 4).trans rfl
          have f5 : X.cell? ⟨g1, 5, none⟩ = some (.slice A5 r.l5.length c5) := (blk_cell (blk_below BK1.out (below_step hbd hB)) 5).trans rfl
          refine wpOp_step (i := 8) (by rfl) (fun K' hK' => ?_)
          refine value_ (w1 := ?_) (v := ?_) (by rfl) rfl ?_ ?_
          rotate_left 2
          · go_simp
            constructor
            · rfl
            · rfl
          exact hK' _ _ (hK _ _ rfl hB (Below.refl _ _))
        · intro v X hB hj K hK
          have h8 : v 8 = .agg (r.cells ⟨A1, c1, A2, c2, A3, c3, A4, c4, A5, c5⟩) := hj 8 (needs_mem (by kernel_rfl))
          refine wpOp_step (i := 9) (by rfl) (fun K' hK' => ?_)
          refine goes_ Try.func49 (by kernel_rfl) rfl #[.agg (r.cells ⟨A1, c1, A2, c2, A3, c3, A4, c4, A5, c5⟩)] (by rfl) rfl rfl (by simp only [List.map_toArray, List.map_cons, List.map_nil]; show #[v 8] = _; rw [h8]) ?_
          refine (Many_at ⟨A1, c1, A2, c2, A3, c3, A4, c4, A5, c5⟩ r HV.out X (RRd.below HR.out (below_step HB.out (below_step hbd hB)))).mono ?_
          rw [← HM.out]
          rintro e w' ⟨rfl, hb⟩
          exact ⟨_, rfl, hK' _ _ (hK _ _ rfl (below_step hB hb) hb)⟩
      obtain rfl | rfl | rfl | rfl | rfl | rfl | rfl | rfl : i = 10 ∨ i = 11 ∨ i = 12 ∨ i = 13 ∨ i = 14 ∨ i = 15 ∨ i = 16 ∨ i = 17 := by omega
      · intro v X hB hj K hK
        have h7 : v 7 = .int .i64 t := hj 7 (needs_mem (by kernel_rfl))
        have h9 : v 9 = .int .i64 M := hj 9 (needs_mem (by kernel_rfl))
        have e10 : t.tmod M = n := by rw [Int.tmod_eq_emod_of_nonneg t0]; exact HN.out.symm
        have hM0 : ¬ M = 0 := by omega
        refine wpOp_step (i := 10) (by rfl) (fun K' hK' => ?_)
        refine value_ (w1 := ?_) (v := ?_) (by rfl) rfl ?_ ?_
        rotate_left 2
        · go_simp
          constructor
          · rfl
          · rfl
        exact hK' _ _ (hK _ _ rfl hB (Below.refl _ _))
      · intro v X hB hj K hK
        have h5 : v 5 = .agg (r.cells ⟨A1, c1, A2, c2, A3, c3, A4, c4, A5, c5⟩) := hj 5 (needs_mem (by kernel_rfl))
        have h10 : v 10 = .int .i64 n := hj 10 (needs_mem (by kernel_rfl))
        refine wpOp_step (i := 11) (by rfl) (fun K' hK' => ?_)
        refine goes_ Try.func48 (by kernel_rfl) rfl #[.agg (r.cells ⟨A1, c1, A2, c2, A3, c3, A4, c4, A5, c5⟩), .int .i64 n] (by rfl) rfl rfl (by simp only [List.map_toArray, List.map_cons, List.map_nil]; show #[v 5, v 10] = _; rw [h5, h10]) ?_
        refine (Nth_at ⟨A1, c1, A2, c2, A3, c3, A4, c4, A5, c5⟩ r HV.out n n0 n1 X (RRd.below HR.out (below_step HB.out (below_step hbd hB)))).mono ?_
        rw [← HTA.out, ← HTW.out]
        rintro e w' ⟨u, rfl, hu, hb⟩
        exact ⟨_, rfl, hK' _ _ (hK _ _ hu (below_step hB hb) hb)⟩
      · intro v X hB hj K hK
        obtain ⟨B11, d11, E11, s11, h11, hl11, hm11, hk11, hn11⟩ := hj 11 (needs_mem (by kernel_rfl))
        refine wpOp_step (i := 12) (by rfl) (fun K' hK' => ?_)
        refine goes_ Try.func47 (by kernel_rfl) rfl #[.agg #[.slice B11 (ta).length d11, .slice E11 (tw).length s11]] (by rfl) rfl rfl (by simp only [List.map_toArray, List.map_cons, List.map_nil]; show #[v 11] = _; rw [h11]) ?_
        refine (Truth_at ta tw _ X ⟨B11, d11, E11, s11, rfl, hl11, hm11, hk11, hn11⟩ (by omega) (by omega)).mono ?_
        rintro e w' ⟨u, rfl, hu, hb⟩
        exact ⟨_, rfl, hK' _ _ (hK _ _ hu (below_step hB hb) hb)⟩
      · intro v X hB hj K hK
        obtain ⟨y1, h1, hr1⟩ := hj 1 (needs_mem (by kernel_rfl))
        obtain ⟨B4, d4, h4, hl4, hk4⟩ := hj 4 (needs_mem (by kernel_rfl))
        obtain ⟨B12, d12, E12, s12, h12, hl12, hm12, hk12, hn12⟩ := hj 12 (needs_mem (by kernel_rfl))
        refine wpOp_step (i := 13) (by rfl) (fun K' hK' => ?_)
        refine goes_ Try.func46 (by kernel_rfl) rfl #[.agg (y1.cells (r.sl)), .slice B4 (z).length d4, .agg #[.slice B12 (ta).length d12, .slice E12 (tw).length s12]] (by rfl) rfl rfl (by simp only [List.map_toArray, List.map_cons, List.map_nil]; show #[v 1, v 4, v 12] = _; rw [h1, h4, h12]) ?_
        refine (Play.calls y1 r.sl B4 d4 z B12 d12 ta E12 s12 tw X hr1 hk4 hl4 hk12 hn12).mono ?_
        rw [HPE.out, HPO.out, ← HP.out]
        rintro e w' ⟨u, rfl, ho, hb⟩
        obtain ⟨Bp, dp, rfl, hlp, hCp⟩ := Kd.R_reads ho
        exact ⟨_, rfl, hK' _ _ (hK _ _ ⟨Bp, dp, rfl, hlp, hCp⟩ (below_step hB hb) hb)⟩
      · intro v X hB hj K hK
        obtain ⟨B13, d13, h13, hl13, hk13⟩ := hj 13 (needs_mem (by kernel_rfl))
        refine wpOp_step (i := 14) (by rfl) (fun K' hK' => ?_)
        refine value_ (w1 := ?_) (v := ?_) (by rfl) rfl ?_ ?_
        rotate_left 2
        · go_simp
          constructor
          · rfl
          · rfl
        exact hK' _ _ (hK _ _ ⟨B13, d13, rfl, hl13, hk13⟩ hB (Below.refl _ _))
      · intro v X hB hj K hK
        obtain ⟨B14, d14, h14, hl14, hk14⟩ := hj 14 (needs_mem (by kernel_rfl))
        refine wpOp_step (i := 15) (by rfl) (fun K' hK' => ?_)
        refine value_ (w1 := ?_) (v := ?_) (by rfl) rfl ?_ ?_
        rotate_left 2
        · go_simp
          constructor
          · rfl
          · rfl
        exact hK' _ _ (hK _ _ ⟨B14, d14, rfl, hl14, hk14⟩ hB (Below.refl _ _))
      · intro v X hB hj K hK
        obtain ⟨B14, d14, h14, hl14, hk14⟩ := hj 14 (needs_mem (by kernel_rfl))
        refine wpOp_step (i := 16) (by rfl) (fun K' hK' => ?_)
        refine value_ (w1 := ?_) (v := ?_) (by rfl) rfl ?_ ?_
        rotate_left 2
        · go_simp
          constructor
          · rfl
          · rfl
        exact hK' _ _ (hK _ _ rfl hB (Below.refl _ _))
      · intro v X hB hj K hK
        obtain ⟨B15, d15, h15, hl15, hk15⟩ := hj 15 (needs_mem (by kernel_rfl))
        refine wpOp_step (i := 17) (by rfl) (fun K' hK' => ?_)
        refine value_ (w1 := ?_) (v := ?_) (by rfl) rfl ?_ ?_
        rotate_left 2
        · go_simp
          constructor
          · rfl
          · rfl
        exact hK' _ _ (hK _ _ ⟨B15, d15, rfl, hl15, hk15⟩ hB (Below.refl _ _))
    · intro v X hB hj K hK
      have h16 : v 16 = .int .i64 0 := hj 16 (needs_mem (by kernel_rfl))
      refine wpOp_step (i := 18) (by rfl) (fun K' hK' => ?_)
      refine value_ (w1 := ?_) (v := ?_) (by rfl) rfl ?_ ?_
      rotate_left 2
      · go_simp
        constructor
        · rfl
        · rfl
      refine hK' _ _ (hK _ _ ?_)
      obtain ⟨B17, d17, h17, hl17, hk17⟩ := hj 17 (needs_mem (by kernel_rfl))
      replace BK1 := Aside0.mk (blk_below BK1.out (below_step hbd hB))
      have HCP := Aside0.mk hk17
      replace HB := Aside0.mk (below_step HB.out (below_step hbd hB))
      show Exit.then _ _ .normal { tmps := #[.agg (r.cells (⟨A1, c1, A2, c2, A3, c3, A4, c4, A5, c5⟩ : SA)), .int .u16 t, .slice B put.length cB, .pointer (some ⟨g1, 0, none⟩), undef, undef, .bool false, v 17, .int .i64 0, undef, undef, .agg #[.int .i64 r.a0, .slice A1 r.l1.length c1, .slice A2 r.l2.length c2, .slice A3 r.l3.length c3, .slice A4 r.l4.length c4, .slice A5 r.l5.length c5], .bool true, .bool false, undef, v 14, v 0, v 1, v 2, v 3, v 4, v 5, v 6, v 7, v 8, v 9, v 10, v 11, v 12, v 13, v 15, v 16, undef, undef, undef, undef, undef, undef, undef, undef, undef, undef, undef, undef, undef, undef, undef, undef, undef, undef, undef, undef, undef, undef, undef, undef, undef, undef, undef, undef, undef, undef, undef, undef, undef, undef, undef, undef, undef, undef, undef, undef, undef, undef, undef, undef, undef, undef, undef, undef, undef, undef, undef, undef], defers := [] } (X)
      generalize v 0 = z3_0
      generalize v 1 = z3_1
      generalize v 2 = z3_2
      generalize v 3 = z3_3
      generalize v 4 = z3_4
      generalize v 5 = z3_5
      generalize v 6 = z3_6
      generalize v 7 = z3_7
      generalize v 8 = z3_8
      generalize v 9 = z3_9
      generalize v 10 = z3_10
      generalize v 11 = z3_11
      generalize v 12 = z3_12
      generalize v 13 = z3_13
      generalize v 14 = z3_14
      generalize v 15 = z3_15
      generalize v 16 = z3_16
      generalize v 17 = z_ at h17 ⊢
      subst h17
      clear hj hK hK' hB hbd hk17
      have f3 : X.cell? ⟨g1, 3, none⟩ = some (.slice A3 r.l3.length c3) := (blk_cell BK1.out 3).trans rfl
      have hpl : P.length = r.l3.length := by rw [HP.out, playRows_length]; rw [hz.1]; show (r.l3.map cC).length = _; rw [List.length_map]
      have HZ := Aside0.mk hz
      have HLS := Aside0.mk hls
      have HNUM := Aside0.mk (show Num (pad11 (ta ++ tw)) by have h := num_listed HV.out.v hls; unfold SL.listed at h; rwa [if_pos hls] at h)
      have hpn : ((P.length : Int) != (r.l3.length : Int)) = false := by rw [hpl]; exact bne_self_eq_false _
      have HPL := Aside0.mk hpl
      have p5 : P.length ≤ 5 := by rw [hpl]; exact HV.out.n3
      clear hpl hz hls
      go_wp2
      clear f3 hpn BK1
      go_loopw [9] (fun v9 wr => ∃ i : Nat, v9 = .int .i64 (i : Int) ∧ i ≤ P.length ∧ Aside0 (Below w.heap.size w wr) ∧ Aside0 (Kd.C kL wr B17 P.length P)) (fun v9 _ => (P.length - intOf v9).toNat)
      case atStart => exact ⟨0, rfl, Nat.zero_le _, HB, HCP⟩
      case round =>
        clear HB HCP
        obtain ⟨i, rfl, hi, HB, HCP⟩ := hrel
        obtain ⟨wo, rfl⟩ : ∃ wo : World, wo = wr := ⟨_, rfl⟩
        by_cases hlt : i < P.length
        · have hli : (i : Int) < (P.length : Int) := by omega
          have hi0 : (0 : Int) ≤ (i : Int) := by omega
          have hzi : i < z.length := by have h1 := HPL.out; have h2 := HZ.out.1; have e3 : r.sl.l3.length = r.l3.length := by unfold RL.sl; simp
                                        omega
          have HF2 := Aside0.mk (left_facts HV.out.v HNUM.out (place_at HZ.out hi0 (by omega)))
          obtain ⟨row, hrow⟩ : ∃ row, row = rd_L12 P (i : Int) := ⟨_, rfl⟩
          have HROW := Aside0.mk hrow
          rw [← row_at r.sl z (pad11 (ta ++ tw)) z.length i hzi, ← HP.out, ← hrow] at HF2
          have hce := (HV.out.cake (i := (i : Int)) hi0 (by have := HPL.out; omega)).1
          have hrl : 1 ≤ row.length ∧ row.length ≤ 6 := by
            have h1 := HF2.out.1
            have e : rd_T126 r.sl.l3 (i : Int) = cC (rd_T54 r.l3 (i : Int)) := rd_cC _ _
            rw [e] at h1
            have h2 : (row.length : Int) = r.a0 + 1 - (rd_T54 r.l3 (i : Int)).f0 := h1
            have h3 := HV.out.a0
            omega
          obtain ⟨hr1, hr6⟩ := hrl
          clear hrow hce hzi
          have hwi : IntKind.i64.wrap ((i : Int) + 1) = (i : Int) + 1 := IntWalk.i64_in _ (by omega)
          go_wp2
          go_loopw [10] (fun v10 wr => ∃ k : Nat, v10 = .int .i64 (k : Int) ∧ 1 ≤ k ∧ k ≤ row.length ∧ Aside0 (Below w.heap.size w wr) ∧ Aside0 (Kd.C kL wr B17 P.length P)) (fun v10 _ => (row.length - intOf v10).toNat)
          case atStart => exact ⟨1, rfl, Nat.le_refl _, hr1, HB, HCP⟩
          case round =>
            clear HB HCP
            obtain ⟨k, rfl, hk1, hk, HB, HCP⟩ := hrel
            obtain ⟨ado, Ao, co, eo, fo, hco, hCo⟩ := at_L12 HCP.out (i : Int) hi0 hli
            rw [← HROW.out] at fo hco hCo
            rw [Int.toNat_natCast] at fo
            subst eo
            by_cases hkl : k < row.length
            · have hkli : (k : Int) < (row.length : Int) := by omega
              obtain ⟨adk, ek, fk⟩ := rowB hCo (k : Int) (by omega) (by omega)
              obtain ⟨adj, ej, fj⟩ := rowB hCo ((k : Int) - 1) (by omega) (by omega)
              obtain rfl : adk = adj := by rw [ek] at ej; exact Option.some.inj ej
              subst ek
              clear ej
              rw [Int.toNat_natCast] at fk
              rw [show ((k : Int) - 1).toNat = k - 1 by omega] at fj
              obtain ⟨y, hy⟩ : ∃ y, y = rd row (k : Int) := ⟨_, rfl⟩
              obtain ⟨u, hu2⟩ : ∃ u, u = rd row ((k : Int) - 1) := ⟨_, rfl⟩
              have hyu : y ≤ u := by
                have := HF2.out.2.2 (k - 1) (by omega)
                rw [show ((k - 1 : Nat) : Int) = (k : Int) - 1 by omega, show (k : Int) - 1 + 1 = (k : Int) by omega, ← hy, ← hu2] at this
                exact this
              have hy0 : 0 ≤ y := by rw [hy]; exact (HF2.out.2.1 k hkl).1
              rw [← hy] at fk
              rw [← hu2] at fj
              clear hy hu2
              have b1 : decide (u < y) = false := decide_eq_false (by omega)
              have b2 : decide (y < 0) = false := decide_eq_false (by omega)
              have k0 : (0 : Int) ≤ (k : Int) := by omega
              have k1 : (1 : Int) ≤ (k : Int) := by omega
              have k2 : (k : Int) - 1 < (row.length : Int) := by omega
              have hwk : IntKind.i64.wrap ((k : Int) - 1) = (k : Int) - 1 := IntWalk.i64_in _ (by omega)
              have hwn : IntKind.i64.wrap ((k : Int) + 1) = (k : Int) + 1 := IntWalk.i64_in _ (by omega)
              go_wp2
              go_quiet (fail)
              go_wp2
              exact ⟨⟨k + 1, by simp, by omega, by omega, ⟨pw_below_drewN HB.out _⟩, ⟨Kd.C_below HCP.out (pw_below_drewN (Below.refl _ _) _)⟩⟩, by simp [intOf]; omega⟩
            · obtain rfl : k = row.length := by omega
              have hkli : (row.length : Int) ≤ (row.length : Int) := Int.le_refl _
              go_wp2
              exact ⟨⟨i + 1, by simp, by omega, HB, HCP⟩, by simp [intOf]; omega⟩
        · obtain rfl : i = P.length := by omega
          have hli : (P.length : Int) ≤ (P.length : Int) := Int.le_refl _
          go_wp2_with (first | (go_at_call 20; go_must (refine (awake_calls _).mono ?_; rintro e wa ⟨rfl, hb⟩; replace HB := Aside0.mk (below_step HB.out hb); clear hb)))
          go_ret
          exact ⟨rfl, HB.out⟩
end Go.Proofs.Ytjifalohjlihaaa.Q
end
section
namespace Go.Proofs.Ytjifalohjlihaaa.shelfStays
open Go.ChangeShapes Go.WideShapes Go.ChangeAt Go.RowKit Go.Proofs.YtjifalohjlihaaaW.PrintWords
set_option linter.unusedVariables false
theorem own:ownKnob Try.prog.godebug=none:=by kernel_rfl
theorem laidOut:laidOutB Try.prog=true:=by kernel_rfl
set_option maxRecDepth 100000 in
theorem lifted (os:Os) (started:os.Started) (H:Type) (enc:TypeId×Value→H):
  ReturnsInHanded {} Try.checked os 7 .any (Rows.shelfStaysSpec.pre6 enc Try.prog Try.f7 Rows.shelfStaysRow.domain false) (Rows.shelfStaysSpec.post enc Try.prog Try.f7 false true false false):=by
 refine returnsInHanded_of_change_sized (C:=Try.checked) own started (by kernel_rfl) Try.func7
  (ChangeSpec.witness6 (enc:=enc) (C:=Try.checked) false ⟨#[],#[.agg #[.int .i64 0,.slice none 0 0,.slice none 0 0,.slice none 0 0,.slice none 0 0,.slice none 0 0],.int .u16 0,.slice none 0 0],[]⟩ 8 (by kernel_rfl) (by kernel_rfl) (by kernel_rfl) (by kernel_rfl)) ?_
 intro W base args ds gs before hval0 hW hcnd hsz0 _
 have hval:∀(j:Nat) t v,Try.f7.params[j]? =some t→args[j]? =some v→Value.okWide Try.prog W .any base t v:=hval0
 have hW':=hW
 obtain⟨p,q,hA0,hV,rfl,hfz,hnd⟩:=hW
 have hA:DataW.TrodAll enc Try.prog W 0 (fun _=>true) true Try.f7.params.toList args.toList ds p:=hA0
 rw [Try.params7]at hA hval
 obtain⟨v0,vs0,d0,ds0,p0,q0,hargs,rfl,rfl,h0,r0⟩:=trodAll_cons hA
 obtain⟨v1,vs1,d1,ds1,p1,q1,hargs1,rfl,rfl,h1,r1⟩:=trodAll_cons r0
 obtain⟨v2,vs2,d2,ds2,p2,q2,hargs2,rfl,rfl,h2,r2⟩:=trodAll_cons r1
 obtain⟨rfl,rfl,rfl⟩:=trodAll_nil r2
 obtain rfl:args=#[v0,v1,v2]:=by cases args;simp_all
 obtain⟨rfl,rfl⟩:=trodVars_none hV
 have k0:=h0
 have lt0:∀x∈p0,x.block < W.heap.size:=by obtain⟨m,hm⟩:=k0;exact DataW.trod_lt m _ _ _ hm
 have k1:=h1
 have lt1:∀x∈p1,x.block < W.heap.size:=by obtain⟨m,hm⟩:=k1;exact DataW.trod_lt m _ _ _ hm
 have k2:=h2
 have lt2:∀x∈p2,x.block < W.heap.size:=by obtain⟨m,hm⟩:=k2;exact DataW.trod_lt m _ _ _ hm
 obtain⟨cs0,rfl,hcs0⟩:=okWide_struct Try.underlying28 (hval 0 28 v0 rfl rfl)
 obtain⟨x0,r0',e0,hr0⟩:∃x r,cs0=Q.RL.cells r x∧Q.RRd W x r:=by
  obtain⟨fuel,hf⟩:=h0
  obtain⟨x,r,e,hr⟩:=Q.open_L hf
  exact⟨x,r,by rw [←e];simp [Value.cells],hr⟩
 subst e0
 obtain⟨n1,rfl⟩:=okWide_int Try.underlying78 (hval 1 78 v1 rfl rfl)
 have hw1:(Lit.int .u16 n1).wf=true:=by
  obtain⟨fuel,hf⟩:=h1
  obtain⟨n',h,_,hw⟩:=DataW.trod_int Try.underlying78 hf
  obtain rfl:n1=n':=by simpa [Value.cells] using h
  exact hw
 obtain⟨B2,l2,m2,rfl⟩:=okWide_slice Try.underlying72 (hval 2 72 v2 rfl rfl)
 obtain⟨A2,c2,xs2,e2,hl2,hC2,hw2⟩:∃A c xs,Value.slice B2 l2 m2= .slice A xs.length c∧xs.length≤c∧Kd.C (Kd.int .u16) W A xs.length xs∧∀n∈xs,(Lit.int .u16 n).wf=true:=by
  obtain⟨fuel,hf⟩:=h2
  obtain⟨A,c,xs,e,h1,h2,h3⟩:=Q.slice_ints Try.underlying72 Try.underlying78 (by kernel_rfl) hf
  exact⟨A,c,xs,by simpa [Value.cells] using e,h1,h2,h3⟩
 simp only [Value.slice.injEq]at e2
 obtain⟨rfl,rfl,rfl⟩:=e2
 clear hA0 hval0 hsz0
 refine(Q.ShelfStays_calls x0 r0' n1 (Q.wf_u16 hw1) B2 m2 xs2 W hr0 hC2 hl2 (Q.rd_wf hw2)).mono fun e W' ⟨he,bel⟩=> ?_
 subst he
 exact⟨_,rfl,_,_,_,[],_,[],hW',trodAll_mk1 (shut_bool Try.underlying4 _),(trodAll_cons_mk (Below.trod laidOut (by kernel_rfl) (of_decide_eq_true (by kernel_rfl)) k0 bel lt0) (trodAll_cons_mk (Below.trod laidOut (by kernel_rfl) (of_decide_eq_true (by kernel_rfl)) k1 bel lt1) (trodAll_cons_mk (Below.trod laidOut (by kernel_rfl) (of_decide_eq_true (by kernel_rfl)) k2 bel lt2) trodAll_mk0))),rfl,bel.frame _,fun h=>by cases h⟩
theorem over:Rows.shelfStaysRow.holds Try.pinned (OpenSpec.ofChange Rows.shelfStaysSpec):=
 OpenClaim.holds_of_wide 7 Try.f7 rfl rfl rfl rfl rfl rfl rfl ⟨rfl,rfl,rfl,rfl,rfl⟩ rfl rfl rfl rfl rfl (by kernel_rfl) Try.func7 (by kernel_rfl)
  (of_decide_eq_true (by kernel_rfl)) (by unfold Func.isWrapper;first|(rw [if_pos (by decide+kernel)];kernel_rfl)|(rw [if_neg (by decide+kernel)];exact⟨rfl,rfl⟩))
  (fun os started H enc _=>lifted os started H enc)
theorem proved:Rows.ShelfStaysSaid:=over
end Go.Proofs.Ytjifalohjlihaaa.shelfStays
namespace Go.Proofs.Ytjifalohjlihaaa
theorem shelfStays_holds:Rows.ShelfStaysSaid:=shelfStays.proved
end Go.Proofs.Ytjifalohjlihaaa
end
