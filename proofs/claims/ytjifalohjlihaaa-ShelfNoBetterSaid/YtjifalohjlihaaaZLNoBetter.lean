/- ShelfNoBetter returns true, whatever its arguments are; the arguments read as they did. There are no conditions. -/
import Derived.Test.YtjifalohjlihaaaA5
import Derived.Below
import Derived.ChangeOld
import Derived.ChangeSlices
import Derived.Deep.Slices
import Derived.Deep.Strs
import Derived.OpenShut
import Derived.ProofKit
import Derived.ShutString
import Derived.SizedLaws
import Derived.WalkKit
import Derived.Test.YtjifalohjlihaaaRows
section
namespace Go.Proofs.Ytjifalohjlihaaa.Q
set_option linter.unusedVariables false
open Go.BigFrame Go.RowKit Go.Shelf Go.Proofs.YtjifalohjlihaaaW.PrintWords Go.Proofs.YtjifalohjlihaaaW.PrintLast Go.Proofs.YtjifalohjlihaaaW.PrintMore Go.ChangeShapes Go.WideShapes Go.Deep
section
variable {H:Type} {enc:TypeId×Value→H} {w:World} {base:Nat} {spare:Nat→Bool} {held:Bool}
set_option maxRecDepth 100000 in
theorem one_int {fuel:Nat} {cs:List Value} {y:DataW H×List MemPlace} (h:DataW.trod enc Try.prog w base spare held fuel 3 cs=some y):∃n,cs= [.int .i64 n]:=by
 cases fuel with
 |zero=>simp [DataW.trod]at h
 |succ fuel=>
  unfold DataW.trod at h
  rw [Try.underlying3]at h
  rcases cs with _|⟨v,_|⟨v2,t⟩⟩
  ·simp at h
  ·cases v<;>simp at h
   exact⟨_,by rw [h.1.1]⟩
  ·cases v<;>simp at h
theorem field {t:TypeId} {fs:Array Field} (ht:Try.prog.underlying t=some (.struct fs)) {fuel:Nat} {cs:List Value} {y:DataW H×List MemPlace} (h:DataW.trod enc Try.prog w base spare held fuel t cs=some y) (i T o c:Nat) (hi:(fs[i]?).map (fun f=>(f.type,f.offset))=some (T,o)) (hc:Try.prog.cellsOf T=c):
  ∃m z,DataW.trod enc Try.prog w base spare held m T ((cs.drop o).take c)=some z:=by
 obtain⟨xs,n,_,rfl,hl,hlen,hf⟩:=DataW.trod_struct ht h
 obtain⟨f,hfi,he⟩:=Option.map_eq_some_iff.1 hi
 simp only [Prod.mk.injEq]at he
 have h1:=hf i f hfi
 have hlt:i < xs.length:=by rw [hlen];exact(Array.getElem?_eq_some_iff.1 hfi).1
 rw [List.getElem?_eq_getElem hlt,he.1,he.2,hc]at h1
 exact⟨n,_,h1⟩
theorem struct_len {t:TypeId} {fs:Array Field} (ht:Try.prog.underlying t=some (.struct fs)) {fuel:Nat} {cs:List Value} {y:DataW H×List MemPlace} (h:DataW.trod enc Try.prog w base spare held fuel t cs=some y) (c:Nat) (hc:Try.prog.cellsOf t=c):cs.length=c:=by
 obtain⟨xs,n,_,rfl,hl,hlen,hf⟩:=DataW.trod_struct ht h
 rw [hl,hc]
theorem cellsA:Try.prog.cellsOf 52=2:=by kernel_rfl
theorem cellsB:Try.prog.cellsOf 89=2:=by kernel_rfl
theorem cellsC:Try.prog.cellsOf 54=4:=by kernel_rfl
theorem cellsW:Try.prog.cellsOf 108=4:=by kernel_rfl
theorem open_A {fuel:Nat} {cs:List Value} {y:DataW H×List MemPlace} (h:DataW.trod enc Try.prog w base spare held fuel 52 cs=some y):∃a b,cs= [.int .i64 a,.int .i64 b]:=by
 have hl:=struct_len Try.underlying52 h 2 cellsA
 obtain⟨_,_,h0⟩:=field Try.underlying52 h 0 3 0 1 rfl cells3
 obtain⟨_,_,h1⟩:=field Try.underlying52 h 1 3 1 1 rfl cells3
 match cs,hl with
 | [v0,v1],_=>
  obtain⟨a,ea⟩:=one_int h0
  obtain⟨b,eb⟩:=one_int h1
  simp at ea eb
  exact⟨a,b,by rw [ea,eb]⟩
theorem open_B {fuel:Nat} {cs:List Value} {y:DataW H×List MemPlace} (h:DataW.trod enc Try.prog w base spare held fuel 89 cs=some y):∃a b,cs= [.int .i64 a,.int .i64 b]:=by
 have hl:=struct_len Try.underlying89 h 2 cellsB
 obtain⟨_,_,h0⟩:=field Try.underlying89 h 0 3 0 1 rfl cells3
 obtain⟨_,_,h1⟩:=field Try.underlying89 h 1 3 1 1 rfl cells3
 match cs,hl with
 | [v0,v1],_=>
  obtain⟨a,ea⟩:=one_int h0
  obtain⟨b,eb⟩:=one_int h1
  simp at ea eb
  exact⟨a,b,by rw [ea,eb]⟩
theorem open_C {fuel:Nat} {cs:List Value} {y:DataW H×List MemPlace} (h:DataW.trod enc Try.prog w base spare held fuel 54 cs=some y):∃a b c d,cs= [.int .i64 a,.int .i64 b,.int .i64 c,.int .i64 d]:=by
 have hl:=struct_len Try.underlying54 h 4 cellsC
 obtain⟨_,_,h0⟩:=field Try.underlying54 h 0 3 0 1 rfl cells3
 obtain⟨_,_,h1⟩:=field Try.underlying54 h 1 52 1 2 rfl cellsA
 obtain⟨_,_,h2⟩:=field Try.underlying54 h 2 3 3 1 rfl cells3
 match cs,hl with
 | [v0,v1,v2,v3],_=>
  obtain⟨a,ea⟩:=one_int h0
  obtain⟨b,c,eb⟩:=open_A h1
  obtain⟨d,ed⟩:=one_int h2
  simp at ea eb ed
  exact⟨a,b,c,d,by rw [ea,eb.1,eb.2,ed]⟩
theorem open_W {fuel:Nat} {cs:List Value} {y:DataW H×List MemPlace} (h:DataW.trod enc Try.prog w base spare held fuel 108 cs=some y):∃a b c d,cs= [.int .i64 a,.int .i64 b,.int .i64 c,.int .i64 d]:=by
 have hl:=struct_len Try.underlying108 h 4 cellsW
 obtain⟨_,_,h0⟩:=field Try.underlying108 h 0 3 0 1 rfl cells3
 obtain⟨_,_,h1⟩:=field Try.underlying108 h 1 3 1 1 rfl cells3
 obtain⟨_,_,h2⟩:=field Try.underlying108 h 2 52 2 2 rfl cellsA
 match cs,hl with
 | [v0,v1,v2,v3],_=>
  obtain⟨a,ea⟩:=one_int h0
  obtain⟨b,eb⟩:=one_int h1
  obtain⟨c,d,ed⟩:=open_A h2
  simp at ea eb ed
  exact⟨a,b,c,d,by rw [ea,eb,ed.1,ed.2]⟩
theorem slice_C {α:Type} [Inhabited α] {d:Kd α} {t e:TypeId} (ht:Try.prog.underlying t=some (.slice e)) (hc:Try.prog.cellsOf e=d.sz) (hel:∀ {fuel:Nat} {cs:List Value} {y:DataW H×List MemPlace},DataW.trod enc Try.prog w base (fun _=>true) held fuel e cs=some y→∃p:α,d.K w p cs)
  {fuel:Nat} {cs:List Value} {y:DataW H×List MemPlace} (h:DataW.trod enc Try.prog w base (fun _=>true) held fuel t cs=some y):∃A c xs,cs= [.slice A xs.length c]∧xs.length≤c∧d.C w A xs.length xs:=by
 rcases open_slice ht h with⟨rfl,_⟩|⟨a,len,cap,m,n,D,Pl,rfl,hb,hl,hm,hmm,rfl,hx⟩
 ·exact⟨none,0,[],rfl,Nat.le_refl _,Kd.C_nil _ _⟩
 ·rw [if_pos rfl]at hmm
  obtain⟨f,hf⟩:=choose_lt (α:=α) (n:=len) (p:=fun i p=>∃cs',w.cells? base (a.add (i*Try.prog.cellsOf e)) (Try.prog.cellsOf e)=some cs'∧d.K w p cs') (fun i hi=>by
   obtain⟨cs',h1,h2⟩:=hx i (by omega)
   obtain⟨p,hp⟩:=hel h2
   exact⟨p,cs',h1,hp⟩)
  have hlen:((List.range len).map f).length=len:=by simp
  have hmax:maxLen≤9223372036854775807:=by decide
  refine⟨some a,cap,(List.range len).map f,by rw [hlen],by rw [hlen];exact hl,rfl,by rw [hlen];omega,fun _=>⟨a,rfl,fun j p hj=> ?_⟩⟩
  have hj1:=(List.getElem?_eq_some_iff.1 hj).1
  rw [hlen]at hj1
  rw [List.getElem?_map,List.getElem?_range hj1,Option.map_some]at hj
  obtain rfl:=Option.some.inj hj
  obtain⟨cs',h1,h2⟩:=hf j hj1
  obtain⟨_,hl2,hcell⟩:=World.cells?_some h1
  rw [hc]at hl2 hcell
  refine⟨cs',hl2,h2,fun i u hu=> ?_⟩
  have hi:=(List.getElem?_eq_some_iff.1 hu).1
  have h3:=hcell i (by omega)
  rw [hu,Deep.add_add]at h3
  exact h3
instance:Inhabited S52:=⟨z52⟩
instance:Inhabited S89:=⟨z89⟩
instance:Inhabited S54:=⟨z54⟩
instance:Inhabited S108:=⟨z108⟩
theorem cells_sl:Try.prog.cellsOf 22=1∧Try.prog.cellsOf 23=1∧Try.prog.cellsOf 24=1∧Try.prog.cellsOf 25=1∧Try.prog.cellsOf 26=1:=⟨by kernel_rfl,by kernel_rfl,by kernel_rfl,by kernel_rfl,by kernel_rfl⟩
theorem cellsL:Try.prog.cellsOf 28=6:=by kernel_rfl
theorem open_L {fuel:Nat} {cs:List Value} {y:DataW H×List MemPlace} (h:DataW.trod enc Try.prog w base (fun _=>true) held fuel 28 cs=some y):∃(x:SA) (r:RL),cs.toArray=r.cells x∧RRd w x r:=by
 have hl:=struct_len Try.underlying28 h 6 cellsL
 obtain⟨_,_,h0⟩:=field Try.underlying28 h 0 3 0 1 rfl cells3
 obtain⟨_,_,h1⟩:=field Try.underlying28 h 1 22 1 1 rfl cells_sl.1
 obtain⟨_,_,h2⟩:=field Try.underlying28 h 2 23 2 1 rfl cells_sl.2.1
 obtain⟨_,_,h3⟩:=field Try.underlying28 h 3 24 3 1 rfl cells_sl.2.2.1
 obtain⟨_,_,h4⟩:=field Try.underlying28 h 4 25 4 1 rfl cells_sl.2.2.2.1
 obtain⟨_,_,h5⟩:=field Try.underlying28 h 5 26 5 1 rfl cells_sl.2.2.2.2
 obtain⟨a0,e0⟩:=one_int h0
 obtain⟨A1,c1,l1,e1,k1,q1⟩:=slice_C (d:=k52) Try.underlying22 cellsA (fun h=>by obtain⟨a,b,rfl⟩:=open_A h;exact⟨⟨a,b⟩,k52_mk _ _⟩) h1
 obtain⟨A2,c2,l2,e2,k2,q2⟩:=slice_C (d:=k89) Try.underlying23 cellsB (fun h=>by obtain⟨a,b,rfl⟩:=open_B h;exact⟨⟨a,b⟩,k89_mk _ _⟩) h2
 obtain⟨A3,c3,l3,e3,k3,q3⟩:=slice_C (d:=k54) Try.underlying24 cellsC (fun h=>by obtain⟨a,b,c,d,rfl⟩:=open_C h;exact⟨⟨a,⟨b,c⟩,d⟩,k54_mk _ _⟩) h3
 obtain⟨A4,c4,l4,e4,k4,q4⟩:=slice_C (d:=Kd.int .i64) Try.underlying25 cells3 (fun h=>by obtain⟨a,rfl⟩:=one_int h;exact⟨a,rfl⟩) h4
 obtain⟨A5,c5,l5,e5,k5,q5⟩:=slice_C (d:=k108) Try.underlying26 cellsW (fun h=>by obtain⟨a,b,c,d,rfl⟩:=open_W h;exact⟨⟨a,b,⟨c,d⟩⟩,k108_mk _ _⟩) h5
 match cs,hl with
 | [v0,v1,v2,v3,v4,v5],_=>
  simp at e0 e1 e2 e3 e4 e5
  exact⟨⟨A1,c1,A2,c2,A3,c3,A4,c4,A5,c5⟩,⟨a0,l1,l2,l3,l4,l5⟩,by rw [e0,e1,e2,e3,e4,e5],⟨q1,q2,q3,q4,q5,k1,k2,k3,k4,k5⟩⟩
end
end Go.Proofs.Ytjifalohjlihaaa.Q
end
section
namespace Go.Proofs.Ytjifalohjlihaaa.Q
set_option linter.unusedVariables false
open Go.BigFrame Go.RowKit Go.Shelf Go.Proofs.YtjifalohjlihaaaW.PrintWords Go.Proofs.YtjifalohjlihaaaW.PrintLast Go.Proofs.YtjifalohjlihaaaW.PrintMore Go.ChangeShapes Go.WideShapes Go.Deep
section
variable {H:Type} {enc:TypeId×Value→H} {w:World} {base:Nat} {held:Bool}
theorem slice_ints {k:IntKind} {t e:TypeId} (ht:Try.prog.underlying t=some (.slice e)) (he:Try.prog.underlying e=some (.int k)) (hc:Try.prog.cellsOf e=1)
  {fuel:Nat} {cs:List Value} {y:DataW H×List MemPlace} (h:DataW.trod enc Try.prog w base (fun _=>true) held fuel t cs=some y):
  ∃A c xs,cs= [.slice A xs.length c]∧xs.length≤c∧Kd.C (Kd.int k) w A xs.length xs∧∀n∈xs,(Lit.int k n).wf=true:=by
 rcases open_ints ht he hc h with⟨rfl,_⟩|⟨a,len,cap,zs,rfl,hb,hl,hm,hz,rfl,hx,hw⟩
 ·exact⟨none,0,[],rfl,Nat.le_refl _,Kd.C_nil _ _,fun n hn=>by cases hn⟩
 ·rw [if_pos rfl]at hz
  have hlen:(zs.take len).length=len:=by rw [List.length_take];omega
  have hmax:maxLen≤9223372036854775807:=by decide
  refine⟨some a,cap,zs.take len,by rw [hlen],by rw [hlen];exact hl,⟨rfl,by rw [hlen];omega,fun _=>⟨a,rfl,fun j p hj=> ?_⟩⟩,fun n hn=>hw n (List.mem_of_mem_take hn)⟩
  have hj1:=(List.getElem?_eq_some_iff.1 hj).1
  rw [hlen]at hj1
  rw [List.getElem?_take_of_lt hj1]at hj
  have h1:=hx j (by omega)
  rw [List.getD_eq_getElem?_getD,hj,Option.getD_some]at h1
  refine⟨[.int k p],rfl,rfl,fun i u hu=> ?_⟩
  have hi:=(List.getElem?_eq_some_iff.1 hu).1
  obtain rfl:i=0:=by simpa using hi
  have:u= .int k p:=by simpa using hu.symm
  rw [this]
  have e:(Kd.int k).sz=1:=rfl
  rw [e,Nat.mul_one]
  first
   |exact h1
   |simpa using h1
end
theorem wf_u16 {n:Int} (h:(Lit.int .u16 n).wf=true):0≤n∧n≤65535:=by
 have h2:IntKind.u16.min≤n∧n≤IntKind.u16.max:=by simpa [Lit.wf] using h
 exact h2
theorem rd_wf {xs:List Int} (h:∀n∈xs,(Lit.int .u16 n).wf=true) (i:Int):0≤rd xs i∧rd xs i≤65535:=by
 unfold rd
 rw [List.getD_eq_getElem?_getD]
 cases e:xs[i.toNat]? with
 |none=>exact⟨Int.le_refl _,by decide⟩
 |some p=>exact wf_u16 (h p (List.mem_of_getElem? e))
end Go.Proofs.Ytjifalohjlihaaa.Q
end
section
namespace Go.Proofs.Ytjifalohjlihaaa.Q
set_option linter.unusedVariables false
open Go.BigFrame Go.RowKit Go.Shelf Go.Proofs.YtjifalohjlihaaaW.PrintWords Go.Proofs.YtjifalohjlihaaaW.PrintLast Go.Proofs.YtjifalohjlihaaaW.PrintMore
def before:List Int→List Int→Bool
 |a::s,b::t=>if a=b then before s t else decide (a < b)
 | [],b=>decide (0 < b.length)
 |_,[]=>false
end Go.Proofs.Ytjifalohjlihaaa.Q
end
section
namespace Go.Proofs.Ytjifalohjlihaaa.Q
set_option linter.unusedVariables false
open Go.BigFrame Go.RowKit Go.Shelf Go.Proofs.YtjifalohjlihaaaW.PrintWords Go.Proofs.YtjifalohjlihaaaW.PrintLast Go.Proofs.YtjifalohjlihaaaW.PrintMore
structure RV (r:RL):Prop where
 f:r.sl.fault=0
 v:Valid r.sl
 n1:(r.l1.length:Int)=r.a0+1
 n2:r.l2.length≤3
 n3:r.l3.length≤5
 n5:r.l5.length≤5
 n4:r.l4.length=r.l3.length
 a0:0≤r.a0∧r.a0≤5
theorem RV.mk' {r:RL} (h:r.sl.fault=0):RV r:=by
 have hv:=valid_of h
 have e1:r.sl.l1.length=r.l1.length:=by unfold RL.sl;simp
 have e2:r.sl.l2.length=r.l2.length:=by unfold RL.sl;simp
 have e3:r.sl.l3.length=r.l3.length:=by unfold RL.sl;simp
 have e5:r.sl.l5.length=r.l5.length:=by unfold RL.sl;simp
 have h1:=hv.air
 have h2:=hv.shelf3
 have h3:=hv.cake5
 have h4:=hv.put
 have h5:=hv.weight5
 rw [e1]at h1
 rw [e2]at h2
 rw [e3]at h3 h4
 rw [e5]at h5
 exact⟨h,hv,h1,h2,h3,h5,h4,hv.last0,hv.last5⟩
theorem RV.shelf {r:RL} (h:RV r) {i:Int} (h0:0≤i) (h1:i < r.l2.length):0≤(rd_T89 r.l2 i).f0∧(rd_T89 r.l2 i).f0≤5∧0≤(rd_T89 r.l2 i).f1∧(rd_T89 r.l2 i).f1≤4:=by
 have e2:r.sl.l2.length=r.l2.length:=by unfold RL.sl;simp
 have:=h.v.shelves i h0 (by omega)
 have e:rd_T135 r.sl.l2 i=cB (rd_T89 r.l2 i):=rd_cB _ _
 rw [e]at this
 exact this
end Go.Proofs.Ytjifalohjlihaaa.Q
end
section
namespace Go.Proofs.Ytjifalohjlihaaa.Q
set_option linter.unusedVariables false
open Go.BigFrame Go.RowKit Go.Shelf Go.Proofs.YtjifalohjlihaaaW.PrintWords Go.Proofs.YtjifalohjlihaaaW.PrintLast Go.Proofs.YtjifalohjlihaaaW.PrintMore
def allL (n:Nat):Nat→List (List Int)
 |0=> [[]]
 |k+1=>(List.range n).flatMap fun (s:Nat)=>(allL n k).map fun q=>(s:Int)::q
def SL.fitsAll (l:SL) (day:Int):List Int→List Int→Bool
 |_,[]=>true
 |p,s::q=>l.fits day p s&&l.fitsAll day (p++ [s]) q
theorem find_flat {α β:Type} (p:β→Bool) (f:α→List β):∀xs:List α,(xs.flatMap f).find? p=xs.findSome? fun x=>(f x).find? p:=by
 intro xs
 induction xs with
 |nil=>rfl
 |cons a t ih=>
  rw [List.flatMap_cons,List.find?_append,List.findSome?_cons,ih]
  cases(f a).find? p<;>rfl
theorem search_find (l:SL) (day:Int):∀(k:Nat) (p:List Int),l.search day k p=((allL l.l2.length k).find? (l.fitsAll day p)).map (p++ ·):=by
 intro k
 induction k with
 |zero=>intro p;simp [SL.search,allL,SL.fitsAll]
 |succ k ih=>
  intro p
  unfold SL.search allL
  rw [find_flat]
  generalize List.range l.l2.length=xs
  induction xs with
  |nil=>rfl
  |cons s t iht=>
   rw [List.findSome?_cons,List.findSome?_cons,iht]
   rw [List.find?_map]
   by_cases h:l.fits day p (s:Int)=true
   ·rw [if_pos h,ih]
    have e:(l.fitsAll day p ∘ fun q=>(s:Int)::q)=l.fitsAll day (p++ [(s:Int)]):=by
     funext q
     show(l.fits day p s&&l.fitsAll day (p++ [(s:Int)]) q)=_
     rw [h];rfl
    rw [e]
    cases(allL l.l2.length k).find? (l.fitsAll day (p++ [(s:Int)]))with
    |none=>rfl
    |some q=>simp
   ·rw [if_neg h]
    have e:(allL l.l2.length k).find? (l.fitsAll day p ∘ fun q=>(s:Int)::q)=none:=by
     rw [List.find?_eq_none]
     intro q _ h2
     rw [Function.comp,SL.fitsAll,Bool.and_eq_true]at h2
     exact h h2.1
    rw [e]
    rfl
theorem mem_allL (n : Nat) : ∀ (k : Nat) (q : List Int), q ∈ allL n k ↔ q.length = k ∧ ∀ s ∈ q, 0 ≤ s ∧ s < n := by
  intro k
  induction k with
  | zero => intro q; unfold allL; rw [List.mem_singleton]; constructor
            · rintro rfl; simp
            · rintro ⟨h, _⟩; exact List.length_eq_zero_iff.1 h
  | succ k ih =>
    intro q
    unfold allL
    rw [List.mem_flatMap]
    constructor
    · rintro ⟨s, hs, h⟩
      rw [List.mem_map] at h
      obtain ⟨t, ht, rfl⟩ := h
      obtain ⟨h1, h2⟩ := (ih t).1 ht
      rw [List.mem_range] at hs
      refine ⟨by simp [h1], fun x hx => ?_⟩
      rcases List.mem_cons.1 hx with rfl | hx
      · omega
      · exact h2 x hx
    · rintro ⟨h1, h2⟩
      cases q with
      | nil => cases h1
      | cons s t =>
        have h3 := h2 s (List.mem_cons_self ..)
        refine ⟨s.toNat, List.mem_range.2 (by omega), List.mem_map.2 ⟨t, (ih t).2 ⟨by simpa using h1, fun x hx => h2 x (List.mem_cons_of_mem _ hx)⟩, ?_⟩⟩
        rw [Int.toNat_of_nonneg h3.1]
theorem allL_sorted (n:Nat):∀k,(allL n k).Pairwise fun a b=>before a b=true:=by
 intro k
 induction k with
 |zero=>unfold allL;exact List.pairwise_singleton _ _
 |succ k ih=>
  unfold allL
  rw [List.flatMap_def,List.pairwise_flatten]
  refine⟨fun l hl=> ?_,?_⟩
  ·obtain⟨s,_,rfl⟩:=List.mem_map.1 hl
   rw [List.pairwise_map]
   exact ih.imp (fun h=>by rw [before,if_pos rfl];exact h)
  ·rw [List.pairwise_map]
   refine List.pairwise_lt_range.imp (fun {a b} h x hx y hy=> ?_)
   obtain⟨x',_,rfl⟩:=List.mem_map.1 hx
   obtain⟨y',_,rfl⟩:=List.mem_map.1 hy
   rw [before,if_neg (by omega)]
   exact decide_eq_true (by omega)
theorem before_asymm:∀a b:List Int,before a b=true→before b a=false:=by
 intro a
 induction a with
 |nil=>intro b h;cases b with
  |nil=>rfl
  |cons x t=>rfl
 |cons x s ih=>
  intro b h
  cases b with
  |nil=>cases h
  |cons y t=>
   unfold before at h ⊢
   by_cases e:x=y
   ·rw [if_pos e]at h;rw [if_pos e.symm];exact ih t h
   ·rw [if_neg e]at h;rw [if_neg (Ne.symm e)]
    have:=of_decide_eq_true h
    exact decide_eq_false (by omega)
theorem find_first {p:List Int→Bool} {xs:List (List Int)} (hs:xs.Pairwise fun a b=>before a b=true) {q:List Int} (h:xs.find? p=some q):q∈xs∧p q=true∧∀x∈xs,p x=true→before x q=false:=by
 obtain⟨hq,ps,qs,rfl,h2⟩:=List.find?_eq_some_iff_append.1 h
 refine⟨by simp,hq,fun x hx hp=> ?_⟩
 rw [List.mem_append,List.mem_cons]at hx
 rcases hx with hx|rfl|hx
 ·have:=h2 x hx;rw [hp]at this;cases this
 ·have h3:∀a:List Int,before a a=false:=by
   intro a
   induction a with
   |nil=>rfl
   |cons x s ih=>rw [before,if_pos rfl];exact ih
  exact h3 _
 ·rw [List.pairwise_append,List.pairwise_cons]at hs
  exact before_asymm _ _ (hs.2.1.1 x hx)
theorem fitsAll_iff (l:SL) (day:Int):∀(q p:List Int),l.fitsAll day p q=true↔∀i:Nat,i < q.length→l.good ((p.length+i:Nat):Int) (rd q i)≤day∧0 <(rd_T135 l.l2 (rd q i)).f0∧cnt (p++q) ((p.length+i:Nat):Int) (rd q i) <(rd_T135 l.l2 (rd q i)).f0:=by
 intro q
 induction q with
 |nil=>intro p;simp [SL.fitsAll]
 |cons s t ih=>
  intro p
  unfold SL.fitsAll
  rw [Bool.and_eq_true,ih]
  have e:p++ [s]++t=p++s::t:=by simp
  constructor
  ·rintro⟨h1,h2⟩ i hi
   have h1:=of_decide_eq_true h1
   cases i with
   |zero=>
    have e0:rd (s::t) ((0:Nat):Int)=s:=rfl
    rw [e0]
    refine⟨h1.2.2,h1.1,?_⟩
    have:=h1.2.1
    unfold cnt at this ⊢
    rw [Int.toNat_natCast,Nat.add_zero,List.take_left]
    rwa [Int.toNat_natCast,List.take_length]at this
   |succ i=>
    have h3:=h2 i (by simpa using hi)
    have e1:rd (s::t) ((i+1:Nat):Int)=rd t (i:Int):=by simp [rd]
    rw [e1]
    rw [e]at h3
    rw [List.length_append,List.length_singleton]at h3
    rw [show p.length+(i+1)=p.length+1+i by omega]
    exact h3
  ·intro h
   refine⟨?_,fun i hi=> ?_⟩
   ·have h3:=h 0 (by simp)
    have e0:rd (s::t) ((0:Nat):Int)=s:=rfl
    rw [e0,Nat.add_zero]at h3
    refine decide_eq_true ⟨h3.2.1,?_,h3.1⟩
    have:=h3.2.2
    unfold cnt at this ⊢
    rw [Int.toNat_natCast,List.take_left]at this
    rw [Int.toNat_natCast,List.take_length];exact this
   ·have h3:=h (i+1) (by simp;omega)
    have e1:rd (s::t) ((i+1:Nat):Int)=rd t (i:Int):=by simp [rd]
    rw [e1]at h3
    rw [e,List.length_append,List.length_singleton,show p.length+1+i=p.length+(i+1)by omega]
    exact h3
theorem cnt_succ (q:List Int) (i:Nat) (hi:i < q.length) (s:Int):cnt q ((i+1:Nat):Int) s=cnt q (i:Int) s+if rd q i=s then 1 else 0:=by
 unfold cnt rd
 rw [Int.toNat_natCast,Int.toNat_natCast,List.take_succ_eq_append_getElem hi,List.count_append,List.getD_eq_getElem?_getD,List.getElem?_eq_getElem hi,Option.getD_some,List.count_singleton]
 by_cases h:q[i]=s<;>simp [h]
theorem cnt_all_le (q:List Int) (s r:Int) (hr:0≤r) (h:∀i:Nat,i < q.length→rd q i=s→cnt q (i:Int) s < r):∀k:Nat,k≤q.length→cnt q (k:Int) s≤r:=by
 intro k
 induction k with
 |zero=>intro _;unfold cnt;simpa using hr
 |succ k ih=>
  intro hk
  rw [cnt_succ q k (by omega) s]
  have h1:=ih (by omega)
  by_cases e:rd q k=s
  ·have:=h k (by omega) e;rw [if_pos e];omega
  ·rw [if_neg e];omega
theorem cnt_le_all (q:List Int) (s:Int):∀(d k:Nat),k+d=q.length→cnt q (k:Int) s≤cnt q (q.length:Int) s:=by
 intro d
 induction d with
 |zero=>intro k h;rw [show k=q.length by omega];exact Int.le_refl _
 |succ d ih=>
  intro k h
  have h1:=ih (k+1) (by omega)
  rw [cnt_succ q k (by omega) s]at h1
  split at h1<;>omega
theorem cnt_lt_all (q:List Int) (s:Int) (k:Nat) (hk:k < q.length) (e:rd q k=s):cnt q (k:Int) s < cnt q (q.length:Int) s:=by
 have h1:=cnt_le_all q s (q.length-(k+1)) (k+1) (by omega)
 rw [cnt_succ q k hk s,if_pos e]at h1
 omega
theorem placeBy_find (l:SL) (day:Int):l.placeBy day=(allL l.l2.length l.l3.length).find? (l.fitsAll day []):=by
 unfold SL.placeBy
 rw [search_find]
 cases(allL l.l2.length l.l3.length).find? (l.fitsAll day [])<;>simp
def SL.okBy (l:SL) (day:Int) (q:List Int):Prop:=l.isPlace q∧∀i:Nat,i < q.length→l.good i (rd q i)≤day
theorem rd_mem {q:List Int} {i:Nat} (hi:i < q.length):rd q i∈q:=by
 unfold rd
 rw [Int.toNat_natCast,List.getD_eq_getElem?_getD,List.getElem?_eq_getElem hi]
 exact List.getElem_mem _
theorem isPlace_all {l:SL} {q:List Int} (h:l.isPlace q):q∈allL l.l2.length l.l3.length:=by
 obtain⟨h1,h2,_⟩:=h
 refine(mem_allL _ _ _).2 ⟨h1,fun s hs=> ?_⟩
 obtain⟨i,hi,e⟩:=List.mem_iff_getElem.1 hs
 have:=h2 i hi
 have e2:rd q (i:Int)=s:=by unfold rd;rw [Int.toNat_natCast,List.getD_eq_getElem?_getD,List.getElem?_eq_getElem hi,Option.getD_some,e]
 rw [e2]at this
 exact this
theorem fits_ok {l:SL} (hv:Valid l) {day:Int} {q:List Int} (hq:q∈allL l.l2.length l.l3.length):l.fitsAll day [] q=true↔l.okBy day q:=by
 rw [fitsAll_iff]
 obtain⟨hl,hs⟩:=(mem_allL _ _ _).1 hq
 simp only [List.length_nil,Nat.zero_add,List.nil_append]
 constructor
 ·intro h
  refine⟨⟨hl,fun i hi=>hs _ (rd_mem hi),fun s hs2=> ?_⟩,fun i hi=>(h i hi).1⟩
  exact cnt_all_le q s _ (hv.shelves s (by omega) (by omega)).1 (fun i hi e=>by have:=(h i hi).2.2;rwa [e]at this) q.length (Nat.le_refl _)
 ·rintro⟨⟨_,_,h3⟩,h4⟩ i hi
  have h5:=hs _ (rd_mem hi)
  have h6:=h3 (rd q i).toNat (by omega)
  rw [Int.toNat_of_nonneg h5.1]at h6
  have h7:=cnt_lt_all q (rd q i) i hi rfl
  have h8:0≤cnt q (i:Int) (rd q i):=by unfold cnt;omega
  exact⟨h4 i hi,by omega,by omega⟩
theorem by_some {l:SL} (hv:Valid l) {day:Int} {q:List Int} (h:l.placeBy day=some q):l.okBy day q∧∀x,l.okBy day x→before x q=false:=by
 rw [placeBy_find]at h
 obtain⟨h1,h2,h3⟩:=find_first (allL_sorted _ _) h
 exact⟨(fits_ok hv h1).1 h2,fun x hx=>h3 x (isPlace_all hx.1) ((fits_ok hv (isPlace_all hx.1)).2 hx)⟩
theorem by_none {l:SL} (hv:Valid l) {day:Int} (h:l.placeBy day=none) (x:List Int):¬l.okBy day x:=by
 rw [placeBy_find,List.find?_eq_none]at h
 exact fun hx=>h x (isPlace_all hx.1) ((fits_ok hv (isPlace_all hx.1)).2 hx)
theorem best_some (l:SL):∀(k:Nat) (d:Int) (q:List Int) (n:Int),l.bestFrom k d=some (q,n)→d≤n∧n < d+k∧l.placeBy n=some q∧∀m,d≤m→m < n→l.placeBy m=none:=by
 intro k
 induction k with
 |zero=>intro d q n h;cases h
 |succ k ih=>
  intro d q n h
  unfold SL.bestFrom at h
  cases hp:l.placeBy d with
  |some q'=>
   rw [hp]at h
   obtain⟨rfl,rfl⟩:q'=q∧d=n:=by simpa using h
   exact⟨Int.le_refl _,by omega,hp,fun m h1 h2=>by omega⟩
  |none=>
   rw [hp]at h
   obtain⟨h1,h2,h3,h4⟩:=ih (d+1) q n h
   refine⟨by omega,by omega,h3,fun m h5 h6=> ?_⟩
   by_cases e:m=d
   ·rw [e];exact hp
   ·exact h4 m (by omega) h6
theorem best_none (l:SL):∀(k:Nat) (d:Int),l.bestFrom k d=none→∀m,d≤m→m < d+k→l.placeBy m=none:=by
 intro k
 induction k with
 |zero=>intro d _ m h1 h2;omega
 |succ k ih=>
  intro d h m h1 h2
  unfold SL.bestFrom at h
  cases hp:l.placeBy d with
  |some q'=>rw [hp]at h;cases h
  |none=>
   rw [hp]at h
   by_cases e:m=d
   ·rw [e];exact hp
   ·exact ih (d+1) h m (by omega) (by omega)
theorem sureFrom_last {l:SL} {cake shelf:Int}:∀(k:Nat) (i:Int),l.sureFrom cake shelf k i=12∨((rd_T126 l.l3 cake).f0+i≤l.sureFrom cake shelf k i∧l.sureFrom cake shelf k i <(rd_T126 l.l3 cake).f0+i+k):=by
 intro k
 induction k with
 |zero=>intro i;exact .inl rfl
 |succ k ih=>
  intro i
  unfold SL.sureFrom
  split
  ·right;omega
  ·rcases ih (i+1)with h|h
   ·exact .inl h
   ·right;omega
theorem good_last {l:SL} (hv:Valid l) {cake shelf:Int} (hs:Spot l cake shelf):l.good cake shelf=12∨(0≤l.good cake shelf∧l.good cake shelf≤l.a0):=by
 have hc:=hv.cakes cake hs.k0 hs.k1
 unfold SL.good
 split
 ·unfold SL.sure
  rcases sureFrom_last (l:=l) (cake:=cake) (shelf:=shelf) (l.a0-(rd_T126 l.l3 cake).f0+1).toNat 0 with h|h
  ·exact .inl h
  ·right;omega
 ·exact .inl rfl
theorem place_good {l:SL} (hv:Valid l) {q:List Int} (h:l.isPlace q) {i:Nat} (hi:i < q.length):l.good i (rd q i)=12∨(0≤l.good i (rd q i)∧l.good i (rd q i)≤l.a0):=by
 obtain⟨h1,h2,_⟩:=h
 have:=h2 i hi
 exact good_last hv ⟨by omega,by omega,this.1,this.2⟩
theorem provesFrom_iff (l:SL) (q:List Int) (done:Int):∀(k:Nat) (i:Nat),l.provesFrom q done k (i:Int)=true↔∀j:Nat,i≤j→j < i+k→l.good j (rd q j)≠12∧l.good j (rd q j)≤done:=by
 intro k
 induction k with
 |zero=>intro i;exact⟨fun _ j h1 h2=>by omega,fun _=>rfl⟩
 |succ k ih=>
  intro i
  unfold SL.provesFrom
  have e:=ih (i+1)
  rw [show((i+1:Nat):Int)=(i:Int)+1 by omega]at e
  split
  ·rename_i h
   refine⟨fun hh=>(by cases hh),fun hh=> ?_⟩
   have:=hh i (Nat.le_refl _) (by omega)
   omega
  ·rename_i h
   rw [e]
   constructor
   ·intro hh j h1 h2
    by_cases e2:j=i
    ·subst e2;omega
    ·exact hh j (by omega) (by omega)
   ·intro hh j h1 h2
    exact hh j (by omega) (by omega)
theorem proves_iff {l:SL} (hf:l.fault=0) (q:List Int) (done:Int):l.proves q done=true↔l.truths≠ []∧l.isPlace q∧0≤done∧∀i:Nat,i < q.length→l.good i (rd q i)≠12∧l.good i (rd q i)≤done:=by
 unfold SL.proves
 have e:=provesFrom_iff l q done q.length 0
 rw [show((0:Nat):Int)=0 from rfl]at e
 by_cases h1:l.isPlace q
 ·by_cases h2:l.truths= []
  ·have he:l.err (decide (l.isPlace q))≠0:=by unfold SL.err;rw [if_neg (fun h=>h hf),decide_eq_true h1,if_neg (by simp),if_pos h2];decide
   rw [if_pos he]
   exact⟨fun h=>(by cases h),fun h=>absurd h2 h.1⟩
  ·have he:l.err (decide (l.isPlace q))=0:=by unfold SL.err;rw [if_neg (fun h=>h hf),decide_eq_true h1,if_neg (by simp),if_neg h2]
   rw [if_neg (fun h=>h he)]
   by_cases h3:done < 0
   ·rw [if_pos h3]
    exact⟨fun h=>(by cases h),fun h=>by have:=h.2.2.1;omega⟩
   ·rw [if_neg h3,e]
    exact⟨fun h=>⟨h2,h1,by omega,fun i hi=>h i (Nat.zero_le _) (by omega)⟩,fun h i _ hi=>h.2.2.2 i (by omega)⟩
 ·have he:l.err (decide (l.isPlace q))≠0:=by unfold SL.err;rw [if_neg (fun h=>h hf),decide_eq_false h1,if_pos rfl];decide
  rw [if_pos he]
  exact⟨fun h=>(by cases h),fun h=>absurd h.2.1 h1⟩
theorem proves_okBy {l:SL} (hf:l.fault=0) (ht:l.truths≠ []) (q:List Int) {done:Int} (h0:0≤done) (h1:done < 12):l.proves q done=true↔l.okBy done q:=by
 rw [proves_iff hf]
 exact⟨fun h=>⟨h.2.1,fun i hi=>(h.2.2.2 i hi).2⟩,fun h=>⟨ht,h.1,h0,fun i hi=>⟨by have:=h.2 i hi;omega,h.2 i hi⟩⟩⟩
theorem err_true {l:SL} (hf:l.fault=0):l.err true=if l.truths= []then 11 else 0:=by
 unfold SL.err
 rw [if_neg (fun h=>h hf),if_neg (by simp)]
theorem best_law {l:SL} (hf:l.fault=0):(l.truths= []∧l.bestErr=11∧l.bestOf=([],0))∨(l.truths≠ []∧l.bestErr=10∧l.bestOf=([],0)∧∀m,0≤m→m≤l.a0→l.placeBy m=none)∨
  (l.truths≠ []∧l.bestErr=0∧∃q n,l.bestOf=(q,n)∧0≤n∧n≤l.a0∧l.placeBy n=some q∧∀m,0≤m→m < n→l.placeBy m=none):=by
 have hv:=valid_of hf
 have h0:=hv.last0
 by_cases ht:l.truths= []
 ·left
  have he:l.bestErr=11:=by unfold SL.bestErr;rw [err_true hf,if_pos ht,if_pos (by decide)]
  exact⟨ht,he,by unfold SL.bestOf;rw [he];rfl⟩
 ·right
  have e0:l.err true=0:=by rw [err_true hf,if_neg ht]
  cases hb:l.bestFrom (l.a0+1).toNat 0 with
  |none=>
   left
   have he:l.bestErr=10:=by unfold SL.bestErr;rw [e0,if_neg (by decide),if_pos hb]
   exact⟨ht,he,by unfold SL.bestOf;rw [he];rfl,fun m h1 h2=>best_none l _ _ hb m h1 (by omega)⟩
  |some r=>
   right
   obtain⟨q,n⟩:=r
   have he:l.bestErr=0:=by unfold SL.bestErr;rw [e0,if_neg (by decide),if_neg (by rw [hb];simp)]
   obtain⟨h1,h2,h3,h4⟩:=best_some l _ _ _ _ hb
   exact⟨ht,he,q,n,by unfold SL.bestOf;rw [he,hb];rfl,h1,by omega,h3,h4⟩
end Go.Proofs.Ytjifalohjlihaaa.Q
end
section
namespace Go.Proofs.Ytjifalohjlihaaa.Q
set_option linter.unusedVariables false
open Go.BigFrame Go.RowKit Go.Shelf Go.Proofs.YtjifalohjlihaaaW.PrintWords Go.Proofs.YtjifalohjlihaaaW.PrintLast Go.Proofs.YtjifalohjlihaaaW.PrintMore
theorem noBetter_law {l:SL} (hf:l.fault=0) {x:List Int} (hx:l.isPlace x):
  ((l.bestErr=10∨l.bestErr=11)∧l.proves x 99=false)∨
  (l.bestErr=0∧l.isPlace l.bestOf.1∧0≤l.bestOf.2∧l.bestOf.2≤l.a0∧l.proves l.bestOf.1 l.bestOf.2=true∧l.proves l.bestOf.1 (l.bestOf.2-1)=false∧l.proves x (l.bestOf.2-1)=false∧
   (l.proves x l.bestOf.2=true→before x l.bestOf.1=false)):=by
 have hv:=valid_of hf
 have h5:=hv.last5
 have h0:=hv.last0
 rcases best_law hf with⟨h,h2,h3⟩|⟨ht,h2,h3,h4⟩|⟨ht,h2,q,n,h3,h4,h6,h7,h8⟩
 ·refine .inl ⟨.inr h2,?_⟩
  rw [Bool.eq_false_iff]
  exact fun hp=>((proves_iff hf x 99).1 hp).1 h
 ·refine .inl ⟨.inl h2,?_⟩
  rw [Bool.eq_false_iff]
  intro hp
  have hp:=(proves_iff hf x 99).1 hp
  refine by_none hv (h4 l.a0 h0 (Int.le_refl _)) x ⟨hx,fun i hi=> ?_⟩
  rcases place_good hv hx hi with h|h
  ·exact absurd h (hp.2.2.2 i hi).1
  ·exact h.2
 ·have hb:=by_some hv h7
  have no:∀y,l.proves y (n-1)=false:=by
   intro y
   rw [Bool.eq_false_iff]
   intro hp
   have h9:=((proves_iff hf y (n-1)).1 hp).2.2.1
   exact by_none hv (h8 (n-1) h9 (by omega)) y ((proves_okBy hf ht y h9 (by omega)).1 hp)
  refine .inr ⟨h2,?_⟩
  rw [h3]
  exact⟨hb.1.1,h4,h6,(proves_okBy hf ht q h4 (by omega)).2 hb.1,no q,no x,fun hp=>hb.2 x ((proves_okBy hf ht x h4 (by omega)).1 hp)⟩
end Go.Proofs.Ytjifalohjlihaaa.Q
end
section
namespace Go.Proofs.Ytjifalohjlihaaa.Q
set_option linter.unusedVariables false
open Go.BigFrame Go.RowKit Go.Shelf Go.Proofs.YtjifalohjlihaaaW.PrintWords Go.Proofs.YtjifalohjlihaaaW.PrintLast Go.Proofs.YtjifalohjlihaaaW.PrintMore
theorem place_len {r:RL} (hv:RV r) {q:List Int} (h:r.sl.isPlace q):q.length≤1000:=by
 have h2:=h.1
 have e3:r.sl.l3.length=r.l3.length:=by unfold RL.sl;simp
 have h3:=hv.n3
 omega
end Go.Proofs.Ytjifalohjlihaaa.Q
end
section
namespace Go.Proofs.Ytjifalohjlihaaa.Q
set_option linter.unusedVariables false
open Go.BigFrame Go.RowKit Go.Shelf Go.Proofs.YtjifalohjlihaaaW.PrintWords Go.Proofs.YtjifalohjlihaaaW.PrintLast Go.Proofs.YtjifalohjlihaaaW.PrintMore
set_option maxRecDepth 100000 in
set_option maxHeartbeats 6400000 in
theorem prove_calls (x:SA) (r:RL) (A:Option Addr) (c:Nat) (place:List Int) (w:World) (hr:RRd w x r) (hA:Kd.C (Kd.int .i64) w A place.length place) (hc:place.length≤c) (hp:place.length≤1000) (t1:r.l1.length≤1000) (t2:r.l2.length≤1000) (t3:r.l3.length≤1000) (t4:r.l4.length≤1000) (t5:r.l5.length≤1000):
  Calls Try.prog 60 #[.agg (r.cells x),.slice A place.length c] w fun e w'=>e= .returned (.bool (r.sl.proves place 99))∧Below w.heap.size w w':=by
 obtain⟨A1,c1,A2,c2,A3,c3,A4,c4,A5,c5⟩:=x
 have HB:=Aside0.mk (Below.refl w.heap.size w)
 have HR:=Aside0.mk hr
 have HC:=Aside0.mk hA
 obtain⟨b,hb⟩:∃b,b=r.sl.proves place 99:=⟨_,rfl⟩
 have HP:=Aside0.mk hb
 rw [←hb]
 clear hr hA hb
 go_enter Try.func60,Try.ntmps60
 go_wp2_with (first|((with_reducible refine gate_dst (N:=2) rfl ?_);refine box_event ?hg (N:=2) ?hd (cs:=#[.int .i64 r.a0,.slice A1 r.l1.length c1,.slice A2 r.l2.length c2,.slice A3 r.l3.length c3,.slice A4 r.l4.length c4,.slice A5 r.l5.length c5]) (t:=28) ?hr ?_;(case hd=>rfl);(case hg=>rfl);(case hr=>first|(go_simp;done)|(go_simp;rfl));intro g1 hg_ w1 hbx_ hb_;have BK1:=Aside0.mk hbx_;have g1ge:w.heap.size≤g1:=(by have:=below_size HB.out;omega);have g1GE:=Aside0.mk g1ge;clear g1ge;have HBn:=Aside0.mk (below_step HB.out hb_);clear HB hg_ hb_ hbx_;have HB:=HBn;clear HBn;have f0:w1.cell? ⟨g1,0,none⟩=some (.int .i64 r.a0):=(blk_cell BK1.out 0).trans rfl;have f1:w1.cell? ⟨g1,1,none⟩=some (.slice A1 r.l1.length c1):=(blk_cell BK1.out 1).trans rfl;have f2:w1.cell? ⟨g1,2,none⟩=some (.slice A2 r.l2.length c2):=(blk_cell BK1.out 2).trans rfl;have f3:w1.cell? ⟨g1,3,none⟩=some (.slice A3 r.l3.length c3):=(blk_cell BK1.out 3).trans rfl;have f4:w1.cell? ⟨g1,4,none⟩=some (.slice A4 r.l4.length c4):=(blk_cell BK1.out 4).trans rfl;have f5:w1.cell? ⟨g1,5,none⟩=some (.slice A5 r.l5.length c5):=(blk_cell BK1.out 5).trans rfl)|(go_at_call 22;go_must (refine(Loft_calls ⟨A1,c1,A2,c2,A3,c3,A4,c4,A5,c5⟩ r _ (RRd.below HR.out HB.out) t1 t2 t3 t4 t5).mono ?_;clear f0 f1 f2 f3 f4 f5;rintro e wl ⟨x',rfl,hr',hb⟩;replace BK1:=Aside0.mk (blk_below BK1.out hb);replace HB:=Aside0.mk (below_step HB.out hb);clear hb;have HRLx:=Aside0.mk hr';clear hr';have f0:wl.cell? ⟨g1,0,none⟩=some (.int .i64 r.a0):=(blk_cell BK1.out 0).trans rfl;have f1:wl.cell? ⟨g1,1,none⟩=some (.slice A1 r.l1.length c1):=(blk_cell BK1.out 1).trans rfl;have f2:wl.cell? ⟨g1,2,none⟩=some (.slice A2 r.l2.length c2):=(blk_cell BK1.out 2).trans rfl;have f3:wl.cell? ⟨g1,3,none⟩=some (.slice A3 r.l3.length c3):=(blk_cell BK1.out 3).trans rfl;have f4:wl.cell? ⟨g1,4,none⟩=some (.slice A4 r.l4.length c4):=(blk_cell BK1.out 4).trans rfl;have f5:wl.cell? ⟨g1,5,none⟩=some (.slice A5 r.l5.length c5):=(blk_cell BK1.out 5).trans rfl))|(go_at_call 23;go_must (refine(list_at A c place _ (Kd.C_below HC.out HB.out) hc hp).mono ?_;clear f0 f1 f2 f3 f4 f5;rintro e wl2 ⟨Al,cl,rfl,hll,hCl,hb⟩;replace BK1:=Aside0.mk (blk_below BK1.out hb);replace HRLx:=Aside0.mk (Rd.below HRLx.out hb);replace HB:=Aside0.mk (below_step HB.out hb);clear hb;have HCL:=Aside0.mk hCl;clear hCl;have f0:wl2.cell? ⟨g1,0,none⟩=some (.int .i64 r.a0):=(blk_cell BK1.out 0).trans rfl;have f1:wl2.cell? ⟨g1,1,none⟩=some (.slice A1 r.l1.length c1):=(blk_cell BK1.out 1).trans rfl;have f2:wl2.cell? ⟨g1,2,none⟩=some (.slice A2 r.l2.length c2):=(blk_cell BK1.out 2).trans rfl;have f3:wl2.cell? ⟨g1,3,none⟩=some (.slice A3 r.l3.length c3):=(blk_cell BK1.out 3).trans rfl;have f4:wl2.cell? ⟨g1,4,none⟩=some (.slice A4 r.l4.length c4):=(blk_cell BK1.out 4).trans rfl;have f5:wl2.cell? ⟨g1,5,none⟩=some (.slice A5 r.l5.length c5):=(blk_cell BK1.out 5).trans rfl))|(go_at_call 61;go_must (refine(ProvePlace.calls x' r.sl Al cl place 99 _ HRLx.out HCL.out hll).mono ?_;rw [←HP.out];clear f0 f1 f2 f3 f4 f5;rintro e wp ⟨rfl,hb⟩;replace BK1:=Aside0.mk (blk_below BK1.out hb);replace HB:=Aside0.mk (below_step HB.out hb);clear hb;have f0:wp.cell? ⟨g1,0,none⟩=some (.int .i64 r.a0):=(blk_cell BK1.out 0).trans rfl;have f1:wp.cell? ⟨g1,1,none⟩=some (.slice A1 r.l1.length c1):=(blk_cell BK1.out 1).trans rfl;have f2:wp.cell? ⟨g1,2,none⟩=some (.slice A2 r.l2.length c2):=(blk_cell BK1.out 2).trans rfl;have f3:wp.cell? ⟨g1,3,none⟩=some (.slice A3 r.l3.length c3):=(blk_cell BK1.out 3).trans rfl;have f4:wp.cell? ⟨g1,4,none⟩=some (.slice A4 r.l4.length c4):=(blk_cell BK1.out 4).trans rfl;have f5:wp.cell? ⟨g1,5,none⟩=some (.slice A5 r.l5.length c5):=(blk_cell BK1.out 5).trans rfl)))
 go_ret
 exact⟨rfl,HB.out⟩
end Go.Proofs.Ytjifalohjlihaaa.Q
end
section
namespace Go.Proofs.Ytjifalohjlihaaa.Q
set_option linter.unusedVariables false
open Go.BigFrame Go.RowKit Go.Shelf Go.Proofs.YtjifalohjlihaaaW.PrintWords Go.Proofs.YtjifalohjlihaaaW.PrintLast Go.Proofs.YtjifalohjlihaaaW.PrintMore
theorem Before_from (xs ys:List Int) (hx:xs.length≤1000) (hy:ys.length≤1000):∀(d i k:Nat),i+d=xs.length→2*d+2≤k→anilref06_Before.l0 k xs ys (i:Int)=some (before (xs.drop i) (ys.drop i)):=by
 intro d
 induction d with
 |zero=>
  intro i k hi hk
  obtain⟨k,rfl⟩:∃j,k=j+2:=⟨k-2,by omega⟩
  unfold anilref06_Before.l0
  rw [if_neg (by omega)]
  unfold anilref06_Before.j1
  rw [if_neg (by simp),List.drop_eq_nil_of_le (by omega)]
  unfold before
  rw [List.length_drop]
  exact congrArg some (decide_eq_decide.2 (by omega))
 |succ d ih=>
  intro i k hi hk
  obtain⟨k,rfl⟩:∃j,k=j+2:=⟨k-2,by omega⟩
  have hxi:i < xs.length:=by omega
  unfold anilref06_Before.l0
  rw [if_pos (by omega)]
  unfold anilref06_Before.j1
  rw [List.drop_eq_getElem_cons hxi]
  by_cases hyi:i < ys.length
  ·rw [decide_eq_true (show(i:Int) <(ys.length:Int)by omega),if_pos rfl,if_pos (by omega),if_pos (by omega),if_pos (by omega),List.drop_eq_getElem_cons hyi]
   have e1:rd xs (i:Int)=xs[i]:=by unfold rd;rw [Int.toNat_natCast,List.getD_eq_getElem?_getD,List.getElem?_eq_getElem hxi];rfl
   have e2:rd ys (i:Int)=ys[i]:=by unfold rd;rw [Int.toNat_natCast,List.getD_eq_getElem?_getD,List.getElem?_eq_getElem hyi];rfl
   have hw:wrap64 ((i:Int)+1)=((i+1:Nat):Int):=by unfold wrap64;omega
   rw [e1,e2,hw,before]
   by_cases e:xs[i]=ys[i]
   ·rw [if_pos e,if_pos e];exact ih (i+1) k (by omega) (by omega)
   ·rw [if_neg e,if_neg e]
  ·rw [decide_eq_false (show ¬(i:Int) <(ys.length:Int)by omega),if_neg (by simp),List.drop_eq_nil_of_le (show ys.length≤i by omega)]
   unfold before
   exact congrArg some (decide_eq_false (by omega))
theorem Before_some (xs ys:List Int) (hx:xs.length≤5) (hy:ys.length≤1000):anilref06_Before.f 12 xs ys=some (before xs ys):=Before_from xs ys (by omega) hy xs.length 0 12 (by omega) (by omega)
theorem Before_at (A:Option Addr) (c:Nat) (xs:List Int) (B:Option Addr) (d:Nat) (ys:List Int) (w:World) (hA:Kd.C (Kd.int .i64) w A xs.length xs) (hc:xs.length≤c) (hB:Kd.C (Kd.int .i64) w B ys.length ys) (hd:ys.length≤d) (hx:xs.length≤5) (hy:ys.length≤1000):
  Calls Try.prog 62 #[.slice A xs.length c,.slice B ys.length d] w fun e w'=>e= .returned (.bool (before xs ys))∧Below w.heap.size w w':=
 (anilref06_Before.calls 12 A c xs B d ys _ w hA hc hB hd (Before_some xs ys hx hy)).mono (by
  rintro e w' ⟨rfl,nd,rfl⟩
  exact⟨rfl,pw_below_drewN (Below.refl _ _) nd⟩)
end Go.Proofs.Ytjifalohjlihaaa.Q
end
section
namespace Go.Proofs.Ytjifalohjlihaaa.Q
set_option linter.unusedVariables false
open Go.BigFrame Go.RowKit Go.Shelf Go.Proofs.YtjifalohjlihaaaW.PrintWords Go.Proofs.YtjifalohjlihaaaW.PrintLast Go.Proofs.YtjifalohjlihaaaW.PrintMore
def sumN (f:Nat→Int):Nat→Int
 |0=>0
 |n+1=>sumN f n+f n
theorem sumN_le {f g:Nat→Int}:∀n,(∀s,s < n→f s≤g s)→sumN f n≤sumN g n:=by
 intro n
 induction n with
 |zero=>intro _;exact Int.le_refl _
 |succ n ih=>intro h;have:=ih (fun s hs=>h s (by omega));have:=h n (by omega);unfold sumN;omega
theorem sumN_add {f g:Nat→Int}:∀n,sumN (fun s=>f s+g s) n=sumN f n+sumN g n:=by
 intro n
 induction n with
 |zero=>rfl
 |succ n ih=>unfold sumN;rw [ih];omega
theorem sumN_one (x:Int):∀n:Nat,sumN (fun s=>if x=(s:Int)then 1 else 0) n=if 0≤x∧x < n then 1 else 0:=by
 intro n
 induction n with
 |zero=>unfold sumN;rw [if_neg (by omega)]
 |succ n ih=>
  unfold sumN
  rw [ih]
  by_cases h1:x=(n:Int)
  ·rw [if_pos h1,if_neg (by omega),if_pos (by omega)];rfl
  ·rw [if_neg h1]
   by_cases h2:0≤x∧x < n
   ·rw [if_pos h2,if_pos (by omega)];rfl
   ·rw [if_neg h2,if_neg (by omega)];rfl
theorem count_sum (n:Nat):∀xs:List Int,(∀x∈xs,0≤x∧x < n)→sumN (fun s=>((xs.count (s:Int):Nat):Int)) n=xs.length:=by
 intro xs
 induction xs with
 |nil=>
  intro _
  have h:∀m:Nat,sumN (fun s=>((([]:List Int).count (s:Int):Nat):Int)) m=0:=by
   intro m
   induction m with
   |zero=>rfl
   |succ m ih=>unfold sumN;rw [ih];simp
  rw [h];rfl
 |cons x t ih=>
  intro h
  have h1:=ih (fun y hy=>h y (List.mem_cons_of_mem _ hy))
  have h2:=h x (List.mem_cons_self ..)
  have e:(fun s:Nat=>((((x::t).count (s:Int):Nat)):Int))=fun (s:Nat)=>((t.count (s:Int):Nat):Int)+if x=(s:Int)then 1 else 0:=by
   funext s
   rw [List.count_cons]
   by_cases hx:x=(s:Int)
   ·rw [if_pos hx,if_pos (by rw [hx];exact beq_self_eq_true _)];rfl
   ·rw [if_neg hx,if_neg (by rw [beq_iff_eq];exact hx)];simp
  rw [e,sumN_add,h1,sumN_one,if_pos h2,List.length_cons]
  omega
theorem cnt_all (q:List Int) (s:Int):cnt q q.length s=((q.count s:Nat):Int):=by unfold cnt;rw [Int.toNat_natCast,List.take_length]
theorem room_left {l:SL} (hp:l.isPlace l.l4) {out:List Int} (ho:∀x∈out,0≤x∧x < l.l2.length) (hl:out.length < l.l3.length):∃u:Nat,u < l.l2.length∧cnt out out.length u <(rd_T135 l.l2 u).f0:=by
 apply Classical.byContradiction
 intro hn
 have hn:∀u:Nat,u < l.l2.length→(rd_T135 l.l2 u).f0≤cnt out out.length u:=fun u hu=>by
  by_cases h:cnt out out.length u <(rd_T135 l.l2 u).f0
  ·exact absurd ⟨u,hu,h⟩ hn
  ·omega
 have h1:=count_sum l.l2.length out ho
 have h2:=count_sum l.l2.length l.l4 (fun x hx=>(((mem_allL _ _ _).1 (isPlace_all hp)).2 x hx))
 have h3:=sumN_le (f:=fun s=>((l.l4.count (s:Int):Nat):Int)) (g:=fun s=>((out.count (s:Int):Nat):Int)) l.l2.length (fun s hs=>by
  have h4:=hp.2.2 s hs
  have h5:=hn s hs
  rw [cnt_all]at h4 h5
  omega)
 rw [h1,h2,hp.1]at h3
 omega
theorem word_ok (xs:List Int) (hr:∀i,0≤rd xs i∧rd xs i≤65535) (i:Int) (hi:0≤i):∃v,anillaw06_word.f xs i=some v∧0≤v∧v≤65535:=by
 unfold anillaw06_word.f
 by_cases h:(xs.length:Int)=0
 ·exact⟨0,by rw [if_pos h],by omega,by omega⟩
 ·have h1:0≤Int.tmod i (xs.length:Int):=Int.tmod_nonneg _ hi
  have h2:Int.tmod i (xs.length:Int) <(xs.length:Int):=Int.tmod_lt_of_pos _ (by omega)
  have h3:=hr (Int.tmod i (xs.length:Int))
  refine⟨rd xs (Int.tmod i (xs.length:Int)),?_,h3.1,h3.2⟩
  rw [if_neg h,if_pos h1,if_pos h2]
  exact congrArg some (by unfold wrap64;omega)
theorem many_from (xs:List Int) (s:Int) (hx:xs.length≤1000):∀(d i k:Nat),i+d=xs.length→d < k→anillaw06_many.l0 k xs s (cnt xs (i:Int) s) (i:Int)=some (cnt xs xs.length s):=by
 intro d
 induction d with
 |zero=>
  intro i k hi hk
  obtain⟨k,rfl⟩:∃j,k=j+1:=⟨k-1,by omega⟩
  unfold anillaw06_many.l0
  rw [if_neg (by omega),show i=xs.length by omega]
 |succ d ih=>
  intro i k hi hk
  obtain⟨k,rfl⟩:∃j,k=j+1:=⟨k-1,by omega⟩
  unfold anillaw06_many.l0
  have h1:=ih (i+1) k (by omega) (by omega)
  have hc:=cnt_succ xs i (by omega) s
  have hb:0≤cnt xs (i:Int) s∧cnt xs (i:Int) s≤i:=by
   unfold cnt
   have:=List.count_le_length (a:=s) (l:=xs.take (i:Int).toNat)
   rw [List.length_take]at this
   omega
  have hw:wrap64 ((i:Int)+1)=((i+1:Nat):Int):=by unfold wrap64;omega
  rw [if_pos (by omega),if_pos (by omega),hw]
  by_cases e:rd xs (i:Int)=s
  ·rw [if_pos e]at hc ⊢
   rw [show wrap64 (cnt xs (i:Int) s+1)=cnt xs ((i+1:Nat):Int) s by rw [hc];unfold wrap64;omega]
   exact h1
  ·rw [if_neg e]at hc ⊢
   rw [show cnt xs (i:Int) s=cnt xs ((i+1:Nat):Int) s by rw [hc];omega]
   exact h1
theorem many_some (xs:List Int) (s:Int) (k:Nat) (hx:xs.length≤1000) (hk:xs.length < k):anillaw06_many.f k xs s=some (cnt xs xs.length s):=by
 have h:=many_from xs s hx xs.length 0 k (by omega) hk
 unfold anillaw06_many.f
 have h0:cnt xs ((0:Nat):Int) s=0:=by unfold cnt;simp
 rw [h0]at h
 exact h
theorem next_shelf {s n:Int} (h0:0≤s) (h1:s < n) (hn:n≤1000):(s+1 < n∧Int.tmod (wrap64 (s+1)) n=s+1)∨(s+1=n∧Int.tmod (wrap64 (s+1)) n=0):=by
 have hw:wrap64 (s+1)=s+1:=by unfold wrap64;omega
 rw [hw]
 by_cases h:s+1 < n
 ·exact .inl ⟨h,Int.tmod_eq_of_lt (by omega) h⟩
 ·have e:s+1=n:=by omega
  right
  exact⟨e,by rw [e];exact Int.tmod_self⟩
section
variable {r:RL} (put:List Int)
theorem Placed_l1 (h2:r.l2.length≤3) {out:List Int} (ho:out.length≤5) (u:Int) (hu0:0≤u) (hu1:u < r.l2.length) (hu:cnt out out.length u <(rd_T89 r.l2 u).f0) (i:Int):
  ∀(D:Nat) (t s:Int) (k:Nat),0≤s→s < r.l2.length→(s+D=u∨s+D=u+r.l2.length)→0≤t→D+t < r.l2.length→D+7≤k→
   ∃(s':Int) (j:Nat),0≤s'∧s' < r.l2.length∧cnt out out.length s' <(rd_T89 r.l2 s').f0∧k≤j+D+1∧
    anillaw06_Placed.l1 k put out i s t r.a0 r.l1 r.l2 r.l3 r.l4 r.l5=anillaw06_Placed.l0 j put (out++ [s']) (wrap64 (i+1)) r.a0 r.l1 r.l2 r.l3 r.l4 r.l5:=by
 intro D
 induction D with
 |zero=>
  intro t s k s0 s1 hs t0 ht hk
  obtain⟨k,rfl⟩:∃j,k=j+1:=⟨k-1,by omega⟩
  obtain rfl:s=u:=by omega
  refine⟨s,k,s0,s1,hu,by omega,?_⟩
  conv=>lhs;unfold anillaw06_Placed.l1
  rw [if_pos (by omega),many_some out s k (by omega) (by omega),Option.bind_some,if_pos s0,if_pos s1,if_neg (by omega),if_pos (by omega)]
 |succ D ih=>
  intro t s k s0 s1 hs t0 ht hk
  obtain⟨k,rfl⟩:∃j,k=j+1:=⟨k-1,by omega⟩
  by_cases hf:cnt out out.length s <(rd_T89 r.l2 s).f0
  ·refine⟨s,k,s0,s1,hf,by omega,?_⟩
   conv=>lhs;unfold anillaw06_Placed.l1
   rw [if_pos (by omega),many_some out s k (by omega) (by omega),Option.bind_some,if_pos s0,if_pos s1,if_neg (by omega),if_pos (by omega)]
  ·have hw:wrap64 (t+1)=t+1:=by unfold wrap64;omega
   have key:∀s2,(s+1 < r.l2.length∧s2=s+1)∨(s+1=r.l2.length∧s2=0)→Int.tmod (wrap64 (s+1)) (r.l2.length:Int)=s2→∃(s':Int) (j:Nat),0≤s'∧s' < r.l2.length∧cnt out out.length s' <(rd_T89 r.l2 s').f0∧k+1≤j+(D+1)+1∧
     anillaw06_Placed.l1 (k+1) put out i s t r.a0 r.l1 r.l2 r.l3 r.l4 r.l5=anillaw06_Placed.l0 j put (out++ [s']) (wrap64 (i+1)) r.a0 r.l1 r.l2 r.l3 r.l4 r.l5:=by
    intro s2 h e
    obtain⟨s',j,h3,h4,h5,h6,h7⟩:=ih (t+1) s2 k (by omega) (by omega) (by omega) (by omega) (by omega) (by omega)
    refine⟨s',j,h3,h4,h5,by omega,?_⟩
    rw [←h7]
    conv=>lhs;unfold anillaw06_Placed.l1
    rw [if_pos (by omega),many_some out s k (by omega) (by omega),Option.bind_some,if_pos s0,if_pos s1,if_pos (by omega),if_neg (by omega),e,hw]
   rcases next_shelf s0 s1 (by omega)with⟨h3,h4⟩|⟨h3,h4⟩
   ·exact key _ (.inl ⟨h3,rfl⟩) h4
   ·exact key _ (.inr ⟨h3,rfl⟩) h4
theorem Placed_l0 (hf:r.sl.fault=0) (hr:∀i,0≤rd put i∧rd put i≤65535):∀(d:Nat) (out:List Int) (k:Nat),out.length+d=r.l3.length→(∀x∈out,0≤x∧x < r.l2.length)→
  (∀s:Nat,s < r.l2.length→cnt out out.length s≤(rd_T89 r.l2 s).f0)→12*d+1≤k→∃q,anillaw06_Placed.l0 k put out (out.length:Int) r.a0 r.l1 r.l2 r.l3 r.l4 r.l5=some q∧r.sl.isPlace q:=by
 have hz:=fault_zero hf
 have h2:r.l2.length≤3:=by have:=hz.2.1;unfold RL.sl at this;simpa using this
 have h3:r.l3.length≤5:=by have:=hz.2.2.1;unfold RL.sl at this;simpa using this
 have l2:r.sl.l2.length=r.l2.length:=by unfold RL.sl;simp
 have l3:r.sl.l3.length=r.l3.length:=by unfold RL.sl;simp
 have hb:∀s:Int,(rd_T135 r.sl.l2 s).f0=(rd_T89 r.l2 s).f0:=fun s=>by
  show(rd_T135 (r.l2.map cB) s).f0=_
  rw [rd_cB];rfl
 intro d
 induction d with
 |zero=>
  intro out k ho hx hc hk
  obtain⟨k,rfl⟩:∃j,k=j+1:=⟨k-1,by omega⟩
  refine⟨out,?_,by rw [l3];omega,fun i hi=>by rw [l2];exact hx _ (rd_mem hi),fun s hs=> ?_⟩
  ·unfold anillaw06_Placed.l0
   rw [if_neg (by omega)]
  ·rw [l2]at hs
   rw [hb]
   exact hc s hs
 |succ d ih=>
  intro out k ho hx hc hk
  obtain⟨k,rfl⟩:∃j,k=j+1:=⟨k-1,by omega⟩
  obtain⟨u,hu,hru⟩:=room_left (l:=r.sl) hz.2.2.2.2.2.2.2.2.2.1 (out:=out) (by rw [l2];exact hx) (by rw [l3];omega)
  rw [l2]at hu
  rw [hb]at hru
  obtain⟨v,hv,v0,v1⟩:=word_ok put hr (out.length:Int) (by omega)
  have hn:0 < r.l2.length:=by omega
  have t0:0≤Int.tmod v (r.l2.length:Int):=Int.tmod_nonneg _ v0
  have t1:Int.tmod v (r.l2.length:Int) <(r.l2.length:Int):=Int.tmod_lt_of_pos _ (by omega)
  obtain⟨s,hs⟩:∃s,s=Int.tmod v (r.l2.length:Int):=⟨_,rfl⟩
  obtain⟨D,hD,hD2⟩:∃D:Nat,(s+D=u∨s+D=u+r.l2.length)∧D < r.l2.length:=by
   by_cases h:s≤u
   ·exact⟨(u-s).toNat,by omega,by omega⟩
   ·exact⟨(u+r.l2.length-s).toNat,by omega,by omega⟩
  obtain⟨s',j,h4,h5,h6,h7,h8⟩:=Placed_l1 (r:=r) put h2 (out:=out) (by omega) (u:Int) (by omega) (by omega) hru (out.length:Int) D 0 s k (by omega) (by omega) hD (by omega) (by omega) (by omega)
  have hw:wrap64 ((out.length:Int)+1)=((out++ [s']).length:Int):=by rw [List.length_append,List.length_singleton];unfold wrap64;omega
  obtain⟨q,hq,hpl⟩:=ih (out++ [s']) j (by rw [List.length_append,List.length_singleton];omega)
   (fun x hx2=>by
    rcases List.mem_append.1 hx2 with h|h
    ·exact hx x h
    ·rw [List.mem_singleton]at h;rw [h];exact⟨h4,h5⟩)
   (fun z hz2=>by
    have h9:=hc z hz2
    rw [cnt_all]at h9 ⊢
    rw [cnt_all]at h6
    rw [List.count_append,List.count_singleton]
    by_cases e:s'=(z:Int)
    ·rw [if_pos (by rw [e];exact beq_self_eq_true _)]
     rw [e]at h6
     omega
    ·rw [if_neg (by rw [beq_iff_eq];exact e)]
     omega) (by omega)
  refine⟨q,?_,hpl⟩
  conv=>lhs;unfold anillaw06_Placed.l0
  rw [if_pos (by omega),hv,Option.bind_some,if_neg (by omega),←hs,h8,hw]
  exact hq
end
theorem Placed_some {r:RL} (hf:r.sl.fault=0) (put:List Int) (hr:∀i,0≤rd put i∧rd put i≤65535):∃q,anillaw06_Placed.f 70 r.a0 r.l1 r.l2 r.l3 r.l4 r.l5 put=some q∧r.sl.isPlace q:=by
 have h3:r.l3.length≤5:=by have:=(fault_zero hf).2.2.1;unfold RL.sl at this;simpa using this
 have hv:=valid_of hf
 obtain⟨q,hq,h⟩:=Placed_l0 put hf hr r.l3.length [] 70 (by simp) (by simp) (fun s hs=>by
  have:=(hv.shelves s (by omega) (by unfold RL.sl;simp;omega)).1
  have e:(rd_T135 r.sl.l2 s).f0=(rd_T89 r.l2 s).f0:=by
   show(rd_T135 (r.l2.map cB) s).f0=_
   rw [rd_cB];rfl
  rw [e]at this
  unfold cnt
  simpa using this) (by omega)
 exact⟨q,hq,h⟩
theorem Placed_at (x:SA) (r:RL) (hf:r.sl.fault=0) (B:Option Addr) (d:Nat) (put:List Int) (w:World) (hr:RRd w x r) (hB:Kd.C (Kd.int .u16) w B put.length put) (hd:put.length≤d) (hu:∀i,0≤rd put i∧rd put i≤65535):
  ∃q,r.sl.isPlace q∧∀W,Below w.heap.size w W→Calls Try.prog 44 #[.agg (r.cells x),.slice B put.length d] W fun e w'=>∃A c,e= .returned (.slice A q.length c)∧q.length≤c∧Kd.C (Kd.int .i64) w' A q.length q∧Below W.heap.size W w':=by
 obtain⟨q,hq,hpl⟩:=Placed_some hf put hu
 refine⟨q,hpl,fun W hW=> ?_⟩
 have hr:=hr.below hW
 exact(anillaw06_Placed.calls 70 r.a0 x.A1 x.c1 r.l1 x.A2 x.c2 r.l2 x.A3 x.c3 r.l3 x.A4 x.c4 r.l4 x.A5 x.c5 r.l5 B d put q W hr.r1 hr.h1 hr.r2 hr.h2 hr.r3 hr.h3 hr.r4 hr.h4 hr.r5 hr.h5 (Kd.C_below hB hW) hd hq).mono (by
  rintro e w' ⟨v,rfl,ho,hb⟩
  obtain⟨A',c',rfl,hl,hC⟩:=Kd.R_reads ho
  exact⟨A',c',rfl,hl,hC,hb⟩)
end Go.Proofs.Ytjifalohjlihaaa.Q
end
section
namespace Go.Proofs.Ytjifalohjlihaaa.Q
set_option linter.unusedVariables false
open Go.BigFrame Go.RowKit Go.Shelf Go.Proofs.YtjifalohjlihaaaW.PrintWords Go.Proofs.YtjifalohjlihaaaW.PrintLast Go.Proofs.YtjifalohjlihaaaW.PrintMore
set_option maxRecDepth 100000 in
set_option maxHeartbeats 6400000 in
theorem ShelfNoBetter_calls (x:SA) (r:RL) (B:Option Addr) (cB:Nat) (put:List Int) (w:World) (hr:RRd w x r) (hP:Kd.C (Kd.int .u16) w B put.length put) (hcB:put.length≤cB) (hu:∀i,0≤rd put i∧rd put i≤65535):
  Calls Try.prog 12 #[.agg (r.cells x),.slice B put.length cB] w fun e w'=>e= .returned (.bool true)∧Below w.heap.size w w':=by
 obtain⟨A1,c1,A2,c2,A3,c3,A4,c4,A5,c5⟩:=x
 have HB:=Aside0.mk (Below.refl w.heap.size w)
 have HR:=Aside0.mk hr
 obtain⟨d,hd⟩:∃d,d=decide (r.thin∧r.sl.fault=0):=⟨_,rfl⟩
 have HD:=Aside0.mk hd
 clear hr hd
 have HPUT:=Aside0.mk hP
 clear hP
 go_enter Try.func12,Try.ntmps12
 cases d with
 |false=>
  go_wp2_with (first|((with_reducible refine gate_dst (N:=2) rfl ?_);refine box_event ?hg (N:=2) ?hd (cs:=#[.int .i64 r.a0,.slice A1 r.l1.length c1,.slice A2 r.l2.length c2,.slice A3 r.l3.length c3,.slice A4 r.l4.length c4,.slice A5 r.l5.length c5]) (t:=28) ?hr ?_;(case hd=>rfl);(case hg=>rfl);(case hr=>first|(go_simp;done)|(go_simp;rfl));intro g1 hg_ w1 hbx_ hb_;have BK1:=Aside0.mk hbx_;have g1ge:w.heap.size≤g1:=(by have:=below_size HB.out;omega);have g1GE:=Aside0.mk g1ge;clear g1ge;have HBn:=Aside0.mk (below_step HB.out hb_);clear HB hg_ hb_ hbx_;have HB:=HBn;clear HBn;have f0:w1.cell? ⟨g1,0,none⟩=some (.int .i64 r.a0):=(blk_cell BK1.out 0).trans rfl;have f1:w1.cell? ⟨g1,1,none⟩=some (.slice A1 r.l1.length c1):=(blk_cell BK1.out 1).trans rfl;have f2:w1.cell? ⟨g1,2,none⟩=some (.slice A2 r.l2.length c2):=(blk_cell BK1.out 2).trans rfl;have f3:w1.cell? ⟨g1,3,none⟩=some (.slice A3 r.l3.length c3):=(blk_cell BK1.out 3).trans rfl;have f4:w1.cell? ⟨g1,4,none⟩=some (.slice A4 r.l4.length c4):=(blk_cell BK1.out 4).trans rfl;have f5:w1.cell? ⟨g1,5,none⟩=some (.slice A5 r.l5.length c5):=(blk_cell BK1.out 5).trans rfl)|(go_at_call 43;go_must (refine(ready_calls ⟨A1,c1,A2,c2,A3,c3,A4,c4,A5,c5⟩ r _ (RRd.below HR.out HB.out)).mono ?_;rw [←HD.out];clear f0 f1 f2 f3 f4 f5;rintro e wt ⟨rfl,hb⟩;replace BK1:=Aside0.mk (blk_below BK1.out hb);replace HB:=Aside0.mk (below_step HB.out hb);clear hb;have f0:wt.cell? ⟨g1,0,none⟩=some (.int .i64 r.a0):=(blk_cell BK1.out 0).trans rfl;have f1:wt.cell? ⟨g1,1,none⟩=some (.slice A1 r.l1.length c1):=(blk_cell BK1.out 1).trans rfl;have f2:wt.cell? ⟨g1,2,none⟩=some (.slice A2 r.l2.length c2):=(blk_cell BK1.out 2).trans rfl;have f3:wt.cell? ⟨g1,3,none⟩=some (.slice A3 r.l3.length c3):=(blk_cell BK1.out 3).trans rfl;have f4:wt.cell? ⟨g1,4,none⟩=some (.slice A4 r.l4.length c4):=(blk_cell BK1.out 4).trans rfl;have f5:wt.cell? ⟨g1,5,none⟩=some (.slice A5 r.l5.length c5):=(blk_cell BK1.out 5).trans rfl))|(go_at_call 20;go_must (refine(awake_calls _).mono ?_;rintro e wa ⟨rfl,hb⟩;replace HB:=Aside0.mk (below_step HB.out hb);clear hb)))
  go_ret
  exact⟨rfl,HB.out⟩
 |true=>
  have hth:=(of_decide_eq_true HD.out.symm).1
  have t1:r.l1.length≤1000:=by have:=hth.1;omega
  have t2:r.l2.length≤1000:=by have:=hth.2.1;omega
  have t3:r.l3.length≤1000:=by have:=hth.2.2.1;omega
  have t5:r.l5.length≤1000:=by have:=hth.2.2.2.1;omega
  have t4:r.l4.length≤1000:=by have:=hth.2.2.2.2;omega
  have HF:=Aside0.mk (of_decide_eq_true HD.out.symm).2
  have HV:=Aside0.mk (RV.mk' HF.out)
  clear hth
  obtain⟨z,hz,hPl⟩:=Placed_at ⟨A1,c1,A2,c2,A3,c3,A4,c4,A5,c5⟩ r HF.out B cB put w HR.out HPUT.out hcB hu
  have HLAW:=Aside0.mk (noBetter_law HF.out hz)
  have z1000:=place_len HV.out hz
  have z5:z.length≤5:=by rw [hz.1];exact(valid_of HF.out).cake5
  obtain⟨p,hp⟩:∃p,p=r.sl.bestOf.1:=⟨_,rfl⟩
  obtain⟨n,hn⟩:∃n,n=r.sl.bestOf.2:=⟨_,rfl⟩
  obtain⟨is,his⟩:∃b,b=r.sl.proves z 99:=⟨_,rfl⟩
  have HP:=Aside0.mk hp
  have HN:=Aside0.mk hn
  have HIS:=Aside0.mk his
  clear hp hn hz his
  rcases HLAW.out with⟨he,hfa⟩|⟨he,h1,n0,n1,h2,h3,h4,h5⟩
  ·obtain rfl:is=false:=by rw [HIS.out];exact hfa
   rcases he with he|he
   all_goals
    have HBE:=Aside0.mk he
    clear he hfa
    go_wp2_with (first|((with_reducible refine gate_dst (N:=2) rfl ?_);refine box_event ?hg (N:=2) ?hd (cs:=#[.int .i64 r.a0,.slice A1 r.l1.length c1,.slice A2 r.l2.length c2,.slice A3 r.l3.length c3,.slice A4 r.l4.length c4,.slice A5 r.l5.length c5]) (t:=28) ?hr ?_;(case hd=>rfl);(case hg=>rfl);(case hr=>first|(go_simp;done)|(go_simp;rfl));intro g1 hg_ w1 hbx_ hb_;have BK1:=Aside0.mk hbx_;have g1ge:w.heap.size≤g1:=(by have:=below_size HB.out;omega);have g1GE:=Aside0.mk g1ge;clear g1ge;have HBn:=Aside0.mk (below_step HB.out hb_);clear HB hg_ hb_ hbx_;have HB:=HBn;clear HBn;have f0:w1.cell? ⟨g1,0,none⟩=some (.int .i64 r.a0):=(blk_cell BK1.out 0).trans rfl;have f1:w1.cell? ⟨g1,1,none⟩=some (.slice A1 r.l1.length c1):=(blk_cell BK1.out 1).trans rfl;have f2:w1.cell? ⟨g1,2,none⟩=some (.slice A2 r.l2.length c2):=(blk_cell BK1.out 2).trans rfl;have f3:w1.cell? ⟨g1,3,none⟩=some (.slice A3 r.l3.length c3):=(blk_cell BK1.out 3).trans rfl;have f4:w1.cell? ⟨g1,4,none⟩=some (.slice A4 r.l4.length c4):=(blk_cell BK1.out 4).trans rfl;have f5:w1.cell? ⟨g1,5,none⟩=some (.slice A5 r.l5.length c5):=(blk_cell BK1.out 5).trans rfl)|(go_at_call 43;go_must (refine(ready_calls ⟨A1,c1,A2,c2,A3,c3,A4,c4,A5,c5⟩ r _ (RRd.below HR.out HB.out)).mono ?_;rw [←HD.out];clear f0 f1 f2 f3 f4 f5;rintro e wt ⟨rfl,hb⟩;replace BK1:=Aside0.mk (blk_below BK1.out hb);replace HB:=Aside0.mk (below_step HB.out hb);clear hb;have f0:wt.cell? ⟨g1,0,none⟩=some (.int .i64 r.a0):=(blk_cell BK1.out 0).trans rfl;have f1:wt.cell? ⟨g1,1,none⟩=some (.slice A1 r.l1.length c1):=(blk_cell BK1.out 1).trans rfl;have f2:wt.cell? ⟨g1,2,none⟩=some (.slice A2 r.l2.length c2):=(blk_cell BK1.out 2).trans rfl;have f3:wt.cell? ⟨g1,3,none⟩=some (.slice A3 r.l3.length c3):=(blk_cell BK1.out 3).trans rfl;have f4:wt.cell? ⟨g1,4,none⟩=some (.slice A4 r.l4.length c4):=(blk_cell BK1.out 4).trans rfl;have f5:wt.cell? ⟨g1,5,none⟩=some (.slice A5 r.l5.length c5):=(blk_cell BK1.out 5).trans rfl))|(go_at_call 44;go_must (refine(hPl _ HB.out).mono ?_;clear f0 f1 f2 f3 f4 f5;rintro e wpl ⟨Az,cz,rfl,hlz,hCz,hb⟩;replace BK1:=Aside0.mk (blk_below BK1.out hb);replace HB:=Aside0.mk (below_step HB.out hb);clear hb;have HCZ:=Aside0.mk hCz;clear hCz;have f0:wpl.cell? ⟨g1,0,none⟩=some (.int .i64 r.a0):=(blk_cell BK1.out 0).trans rfl;have f1:wpl.cell? ⟨g1,1,none⟩=some (.slice A1 r.l1.length c1):=(blk_cell BK1.out 1).trans rfl;have f2:wpl.cell? ⟨g1,2,none⟩=some (.slice A2 r.l2.length c2):=(blk_cell BK1.out 2).trans rfl;have f3:wpl.cell? ⟨g1,3,none⟩=some (.slice A3 r.l3.length c3):=(blk_cell BK1.out 3).trans rfl;have f4:wpl.cell? ⟨g1,4,none⟩=some (.slice A4 r.l4.length c4):=(blk_cell BK1.out 4).trans rfl;have f5:wpl.cell? ⟨g1,5,none⟩=some (.slice A5 r.l5.length c5):=(blk_cell BK1.out 5).trans rfl))|(go_at_call 22;go_must (refine(Loft_calls ⟨A1,c1,A2,c2,A3,c3,A4,c4,A5,c5⟩ r _ (RRd.below HR.out HB.out) t1 t2 t3 t4 t5).mono ?_;clear f0 f1 f2 f3 f4 f5;rintro e wl ⟨x',rfl,hr',hb⟩;replace BK1:=Aside0.mk (blk_below BK1.out hb);replace HCZ:=Aside0.mk (Kd.C_below HCZ.out hb);replace HB:=Aside0.mk (below_step HB.out hb);clear hb;have HRLx:=Aside0.mk hr';clear hr';have f0:wl.cell? ⟨g1,0,none⟩=some (.int .i64 r.a0):=(blk_cell BK1.out 0).trans rfl;have f1:wl.cell? ⟨g1,1,none⟩=some (.slice A1 r.l1.length c1):=(blk_cell BK1.out 1).trans rfl;have f2:wl.cell? ⟨g1,2,none⟩=some (.slice A2 r.l2.length c2):=(blk_cell BK1.out 2).trans rfl;have f3:wl.cell? ⟨g1,3,none⟩=some (.slice A3 r.l3.length c3):=(blk_cell BK1.out 3).trans rfl;have f4:wl.cell? ⟨g1,4,none⟩=some (.slice A4 r.l4.length c4):=(blk_cell BK1.out 4).trans rfl;have f5:wl.cell? ⟨g1,5,none⟩=some (.slice A5 r.l5.length c5):=(blk_cell BK1.out 5).trans rfl))|(go_at_call 59;go_must (refine(Best.calls x' r.sl _ HRLx.out).mono ?_;rw [←HP.out,←HN.out,HBE.out];clear f0 f1 f2 f3 f4 f5;rintro e wb ⟨v,rfl,ho,hb⟩;replace BK1:=Aside0.mk (blk_below BK1.out hb);replace HCZ:=Aside0.mk (Kd.C_below HCZ.out hb);replace HB:=Aside0.mk (below_step HB.out hb);clear hb;obtain⟨Ap,cp,rfl,hlp,hCp⟩:=Kd.R_reads ho;have HCP:=Aside0.mk hCp;clear ho hCp HRLx;have f0:wb.cell? ⟨g1,0,none⟩=some (.int .i64 r.a0):=(blk_cell BK1.out 0).trans rfl;have f1:wb.cell? ⟨g1,1,none⟩=some (.slice A1 r.l1.length c1):=(blk_cell BK1.out 1).trans rfl;have f2:wb.cell? ⟨g1,2,none⟩=some (.slice A2 r.l2.length c2):=(blk_cell BK1.out 2).trans rfl;have f3:wb.cell? ⟨g1,3,none⟩=some (.slice A3 r.l3.length c3):=(blk_cell BK1.out 3).trans rfl;have f4:wb.cell? ⟨g1,4,none⟩=some (.slice A4 r.l4.length c4):=(blk_cell BK1.out 4).trans rfl;have f5:wb.cell? ⟨g1,5,none⟩=some (.slice A5 r.l5.length c5):=(blk_cell BK1.out 5).trans rfl))|(go_at_call 60;go_must (refine(prove_calls ⟨A1,c1,A2,c2,A3,c3,A4,c4,A5,c5⟩ r Az cz z _ (RRd.below HR.out HB.out) HCZ.out hlz z1000 t1 t2 t3 t4 t5).mono ?_;rw [←HIS.out];clear f0 f1 f2 f3 f4 f5;rintro e wq ⟨rfl,hb⟩;replace BK1:=Aside0.mk (blk_below BK1.out hb);replace HCZ:=Aside0.mk (Kd.C_below HCZ.out hb);replace HCP:=Aside0.mk (Kd.C_below HCP.out hb);replace HB:=Aside0.mk (below_step HB.out hb);clear hb;have f0:wq.cell? ⟨g1,0,none⟩=some (.int .i64 r.a0):=(blk_cell BK1.out 0).trans rfl;have f1:wq.cell? ⟨g1,1,none⟩=some (.slice A1 r.l1.length c1):=(blk_cell BK1.out 1).trans rfl;have f2:wq.cell? ⟨g1,2,none⟩=some (.slice A2 r.l2.length c2):=(blk_cell BK1.out 2).trans rfl;have f3:wq.cell? ⟨g1,3,none⟩=some (.slice A3 r.l3.length c3):=(blk_cell BK1.out 3).trans rfl;have f4:wq.cell? ⟨g1,4,none⟩=some (.slice A4 r.l4.length c4):=(blk_cell BK1.out 4).trans rfl;have f5:wq.cell? ⟨g1,5,none⟩=some (.slice A5 r.l5.length c5):=(blk_cell BK1.out 5).trans rfl))|(go_at_call 20;go_must (refine(awake_calls _).mono ?_;rintro e wa ⟨rfl,hb⟩;replace HB:=Aside0.mk (below_step HB.out hb);clear hb)))
    go_ret
    exact⟨rfl,HB.out⟩
  ·have HBE:=Aside0.mk he
   rw [←HP.out]at h1 h2 h3 h5
   rw [←HN.out]at n0 n1 h2 h3 h4 h5
   have a05:=HV.out.a0.2
   have n5:n≤5:=by have:n≤r.a0:=n1;omega
   have p1000:=place_len HV.out h1
   have hw1:IntKind.i64.wrap (n-1)=n-1:=IntWalk.i64_in _ (by omega)
   have HOK:=Aside0.mk (show r.okPlace p from(okPlace_iff (fun s hs=>(HV.out.shelf (by omega) (by omega)).1)).2 h1)
   have H2:=Aside0.mk h2
   have H3:=Aside0.mk h3
   have HA1:=Aside0.mk h4
   have H5:=Aside0.mk h5
   clear he h1 h2 h3 h4 h5
   obtain⟨bn,hbn⟩:∃bn,bn=decide (0 < n):=⟨_,rfl⟩
   have bn0:decide (0 < n)=bn:=hbn.symm
   clear hbn
   go_upto_region 8 with(first|((with_reducible refine gate_dst (N:=2) rfl ?_);refine box_event ?hg (N:=2) ?hd (cs:=#[.int .i64 r.a0,.slice A1 r.l1.length c1,.slice A2 r.l2.length c2,.slice A3 r.l3.length c3,.slice A4 r.l4.length c4,.slice A5 r.l5.length c5]) (t:=28) ?hr ?_;(case hd=>rfl);(case hg=>rfl);(case hr=>first|(go_simp;done)|(go_simp;rfl));intro g1 hg_ w1 hbx_ hb_;have BK1:=Aside0.mk hbx_;have g1ge:w.heap.size≤g1:=(by have:=below_size HB.out;omega);have g1GE:=Aside0.mk g1ge;clear g1ge;have HBn:=Aside0.mk (below_step HB.out hb_);clear HB hg_ hb_ hbx_;have HB:=HBn;clear HBn;have f0:w1.cell? ⟨g1,0,none⟩=some (.int .i64 r.a0):=(blk_cell BK1.out 0).trans rfl;have f1:w1.cell? ⟨g1,1,none⟩=some (.slice A1 r.l1.length c1):=(blk_cell BK1.out 1).trans rfl;have f2:w1.cell? ⟨g1,2,none⟩=some (.slice A2 r.l2.length c2):=(blk_cell BK1.out 2).trans rfl;have f3:w1.cell? ⟨g1,3,none⟩=some (.slice A3 r.l3.length c3):=(blk_cell BK1.out 3).trans rfl;have f4:w1.cell? ⟨g1,4,none⟩=some (.slice A4 r.l4.length c4):=(blk_cell BK1.out 4).trans rfl;have f5:w1.cell? ⟨g1,5,none⟩=some (.slice A5 r.l5.length c5):=(blk_cell BK1.out 5).trans rfl)|(go_at_call 43;go_must (refine(ready_calls ⟨A1,c1,A2,c2,A3,c3,A4,c4,A5,c5⟩ r _ (RRd.below HR.out HB.out)).mono ?_;rw [←HD.out];clear f0 f1 f2 f3 f4 f5;rintro e wt ⟨rfl,hb⟩;replace BK1:=Aside0.mk (blk_below BK1.out hb);replace HB:=Aside0.mk (below_step HB.out hb);clear hb;have f0:wt.cell? ⟨g1,0,none⟩=some (.int .i64 r.a0):=(blk_cell BK1.out 0).trans rfl;have f1:wt.cell? ⟨g1,1,none⟩=some (.slice A1 r.l1.length c1):=(blk_cell BK1.out 1).trans rfl;have f2:wt.cell? ⟨g1,2,none⟩=some (.slice A2 r.l2.length c2):=(blk_cell BK1.out 2).trans rfl;have f3:wt.cell? ⟨g1,3,none⟩=some (.slice A3 r.l3.length c3):=(blk_cell BK1.out 3).trans rfl;have f4:wt.cell? ⟨g1,4,none⟩=some (.slice A4 r.l4.length c4):=(blk_cell BK1.out 4).trans rfl;have f5:wt.cell? ⟨g1,5,none⟩=some (.slice A5 r.l5.length c5):=(blk_cell BK1.out 5).trans rfl))|(go_at_call 44;go_must (refine(hPl _ HB.out).mono ?_;clear f0 f1 f2 f3 f4 f5;rintro e wpl ⟨Az,cz,rfl,hlz,hCz,hb⟩;replace BK1:=Aside0.mk (blk_below BK1.out hb);replace HB:=Aside0.mk (below_step HB.out hb);clear hb;have HCZ:=Aside0.mk hCz;clear hCz;have f0:wpl.cell? ⟨g1,0,none⟩=some (.int .i64 r.a0):=(blk_cell BK1.out 0).trans rfl;have f1:wpl.cell? ⟨g1,1,none⟩=some (.slice A1 r.l1.length c1):=(blk_cell BK1.out 1).trans rfl;have f2:wpl.cell? ⟨g1,2,none⟩=some (.slice A2 r.l2.length c2):=(blk_cell BK1.out 2).trans rfl;have f3:wpl.cell? ⟨g1,3,none⟩=some (.slice A3 r.l3.length c3):=(blk_cell BK1.out 3).trans rfl;have f4:wpl.cell? ⟨g1,4,none⟩=some (.slice A4 r.l4.length c4):=(blk_cell BK1.out 4).trans rfl;have f5:wpl.cell? ⟨g1,5,none⟩=some (.slice A5 r.l5.length c5):=(blk_cell BK1.out 5).trans rfl))|(go_at_call 22;go_must (refine(Loft_calls ⟨A1,c1,A2,c2,A3,c3,A4,c4,A5,c5⟩ r _ (RRd.below HR.out HB.out) t1 t2 t3 t4 t5).mono ?_;clear f0 f1 f2 f3 f4 f5;rintro e wl ⟨x',rfl,hr',hb⟩;replace BK1:=Aside0.mk (blk_below BK1.out hb);replace HCZ:=Aside0.mk (Kd.C_below HCZ.out hb);replace HB:=Aside0.mk (below_step HB.out hb);clear hb;have HRLx:=Aside0.mk hr';clear hr';have f0:wl.cell? ⟨g1,0,none⟩=some (.int .i64 r.a0):=(blk_cell BK1.out 0).trans rfl;have f1:wl.cell? ⟨g1,1,none⟩=some (.slice A1 r.l1.length c1):=(blk_cell BK1.out 1).trans rfl;have f2:wl.cell? ⟨g1,2,none⟩=some (.slice A2 r.l2.length c2):=(blk_cell BK1.out 2).trans rfl;have f3:wl.cell? ⟨g1,3,none⟩=some (.slice A3 r.l3.length c3):=(blk_cell BK1.out 3).trans rfl;have f4:wl.cell? ⟨g1,4,none⟩=some (.slice A4 r.l4.length c4):=(blk_cell BK1.out 4).trans rfl;have f5:wl.cell? ⟨g1,5,none⟩=some (.slice A5 r.l5.length c5):=(blk_cell BK1.out 5).trans rfl))|(go_at_call 59;go_must (refine(Best.calls x' r.sl _ HRLx.out).mono ?_;rw [←HP.out,←HN.out,HBE.out];clear f0 f1 f2 f3 f4 f5;rintro e wb ⟨v,rfl,ho,hb⟩;replace BK1:=Aside0.mk (blk_below BK1.out hb);replace HCZ:=Aside0.mk (Kd.C_below HCZ.out hb);replace HB:=Aside0.mk (below_step HB.out hb);clear hb;obtain⟨Ap,cp,rfl,hlp,hCp⟩:=Kd.R_reads ho;have HCP:=Aside0.mk hCp;clear ho hCp HRLx;have f0:wb.cell? ⟨g1,0,none⟩=some (.int .i64 r.a0):=(blk_cell BK1.out 0).trans rfl;have f1:wb.cell? ⟨g1,1,none⟩=some (.slice A1 r.l1.length c1):=(blk_cell BK1.out 1).trans rfl;have f2:wb.cell? ⟨g1,2,none⟩=some (.slice A2 r.l2.length c2):=(blk_cell BK1.out 2).trans rfl;have f3:wb.cell? ⟨g1,3,none⟩=some (.slice A3 r.l3.length c3):=(blk_cell BK1.out 3).trans rfl;have f4:wb.cell? ⟨g1,4,none⟩=some (.slice A4 r.l4.length c4):=(blk_cell BK1.out 4).trans rfl;have f5:wb.cell? ⟨g1,5,none⟩=some (.slice A5 r.l5.length c5):=(blk_cell BK1.out 5).trans rfl))|(go_at_call 60;go_must (refine(prove_calls ⟨A1,c1,A2,c2,A3,c3,A4,c4,A5,c5⟩ r Az cz z _ (RRd.below HR.out HB.out) HCZ.out hlz z1000 t1 t2 t3 t4 t5).mono ?_;rw [←HIS.out];clear f0 f1 f2 f3 f4 f5;rintro e wq ⟨rfl,hb⟩;replace BK1:=Aside0.mk (blk_below BK1.out hb);replace HCZ:=Aside0.mk (Kd.C_below HCZ.out hb);replace HCP:=Aside0.mk (Kd.C_below HCP.out hb);replace HB:=Aside0.mk (below_step HB.out hb);clear hb;have f0:wq.cell? ⟨g1,0,none⟩=some (.int .i64 r.a0):=(blk_cell BK1.out 0).trans rfl;have f1:wq.cell? ⟨g1,1,none⟩=some (.slice A1 r.l1.length c1):=(blk_cell BK1.out 1).trans rfl;have f2:wq.cell? ⟨g1,2,none⟩=some (.slice A2 r.l2.length c2):=(blk_cell BK1.out 2).trans rfl;have f3:wq.cell? ⟨g1,3,none⟩=some (.slice A3 r.l3.length c3):=(blk_cell BK1.out 3).trans rfl;have f4:wq.cell? ⟨g1,4,none⟩=some (.slice A4 r.l4.length c4):=(blk_cell BK1.out 4).trans rfl;have f5:wq.cell? ⟨g1,5,none⟩=some (.slice A5 r.l5.length c5):=(blk_cell BK1.out 5).trans rfl)))
   cases bn
   all_goals
    go_upto_region 10 with(first|(go_at_call 26;go_must (refine(rIsPlace ⟨A1,c1,A2,c2,A3,c3,A4,c4,A5,c5⟩ r Ap cp p _ (RRd.below HR.out HB.out) t2 t3 HCP.out).mono ?_;rw [decide_eq_true HOK.out];clear f0 f1 f2 f3 f4 f5;rintro e wi ⟨rfl,hb⟩;replace BK1:=Aside0.mk (blk_below BK1.out hb);replace HCZ:=Aside0.mk (Kd.C_below HCZ.out hb);replace HCP:=Aside0.mk (Kd.C_below HCP.out hb);replace HB:=Aside0.mk (below_step HB.out hb);clear hb;have f0:wi.cell? ⟨g1,0,none⟩=some (.int .i64 r.a0):=(blk_cell BK1.out 0).trans rfl;have f1:wi.cell? ⟨g1,1,none⟩=some (.slice A1 r.l1.length c1):=(blk_cell BK1.out 1).trans rfl;have f2:wi.cell? ⟨g1,2,none⟩=some (.slice A2 r.l2.length c2):=(blk_cell BK1.out 2).trans rfl;have f3:wi.cell? ⟨g1,3,none⟩=some (.slice A3 r.l3.length c3):=(blk_cell BK1.out 3).trans rfl;have f4:wi.cell? ⟨g1,4,none⟩=some (.slice A4 r.l4.length c4):=(blk_cell BK1.out 4).trans rfl;have f5:wi.cell? ⟨g1,5,none⟩=some (.slice A5 r.l5.length c5):=(blk_cell BK1.out 5).trans rfl))|(go_at_call 22;go_must (refine(Loft_calls ⟨A1,c1,A2,c2,A3,c3,A4,c4,A5,c5⟩ r _ (RRd.below HR.out HB.out) t1 t2 t3 t4 t5).mono ?_;clear f0 f1 f2 f3 f4 f5;rintro e wl3 ⟨x',rfl,hr',hb⟩;replace BK1:=Aside0.mk (blk_below BK1.out hb);replace HCZ:=Aside0.mk (Kd.C_below HCZ.out hb);replace HCP:=Aside0.mk (Kd.C_below HCP.out hb);replace HB:=Aside0.mk (below_step HB.out hb);clear hb;have HRLx:=Aside0.mk hr';clear hr';have f0:wl3.cell? ⟨g1,0,none⟩=some (.int .i64 r.a0):=(blk_cell BK1.out 0).trans rfl;have f1:wl3.cell? ⟨g1,1,none⟩=some (.slice A1 r.l1.length c1):=(blk_cell BK1.out 1).trans rfl;have f2:wl3.cell? ⟨g1,2,none⟩=some (.slice A2 r.l2.length c2):=(blk_cell BK1.out 2).trans rfl;have f3:wl3.cell? ⟨g1,3,none⟩=some (.slice A3 r.l3.length c3):=(blk_cell BK1.out 3).trans rfl;have f4:wl3.cell? ⟨g1,4,none⟩=some (.slice A4 r.l4.length c4):=(blk_cell BK1.out 4).trans rfl;have f5:wl3.cell? ⟨g1,5,none⟩=some (.slice A5 r.l5.length c5):=(blk_cell BK1.out 5).trans rfl))|(go_at_call 23;go_must (refine(list_at Ap cp p _ HCP.out hlp p1000).mono ?_;clear f0 f1 f2 f3 f4 f5;rintro e wk3 ⟨Al,cl,rfl,hll,hCl,hb⟩;replace BK1:=Aside0.mk (blk_below BK1.out hb);replace HCZ:=Aside0.mk (Kd.C_below HCZ.out hb);replace HCP:=Aside0.mk (Kd.C_below HCP.out hb);replace HRLx:=Aside0.mk (Rd.below HRLx.out hb);replace HB:=Aside0.mk (below_step HB.out hb);clear hb;have HCL:=Aside0.mk hCl;clear hCl;have f0:wk3.cell? ⟨g1,0,none⟩=some (.int .i64 r.a0):=(blk_cell BK1.out 0).trans rfl;have f1:wk3.cell? ⟨g1,1,none⟩=some (.slice A1 r.l1.length c1):=(blk_cell BK1.out 1).trans rfl;have f2:wk3.cell? ⟨g1,2,none⟩=some (.slice A2 r.l2.length c2):=(blk_cell BK1.out 2).trans rfl;have f3:wk3.cell? ⟨g1,3,none⟩=some (.slice A3 r.l3.length c3):=(blk_cell BK1.out 3).trans rfl;have f4:wk3.cell? ⟨g1,4,none⟩=some (.slice A4 r.l4.length c4):=(blk_cell BK1.out 4).trans rfl;have f5:wk3.cell? ⟨g1,5,none⟩=some (.slice A5 r.l5.length c5):=(blk_cell BK1.out 5).trans rfl))|(go_at_call 61;go_must (refine(ProvePlace.calls x' r.sl Al cl p _ _ HRLx.out HCL.out hll).mono ?_;(first|rw [H3.out]|rw [H2.out]);clear f0 f1 f2 f3 f4 f5;rintro e wv3 ⟨rfl,hb⟩;replace BK1:=Aside0.mk (blk_below BK1.out hb);replace HCZ:=Aside0.mk (Kd.C_below HCZ.out hb);replace HCP:=Aside0.mk (Kd.C_below HCP.out hb);replace HB:=Aside0.mk (below_step HB.out hb);clear hb;clear HRLx HCL;have f0:wv3.cell? ⟨g1,0,none⟩=some (.int .i64 r.a0):=(blk_cell BK1.out 0).trans rfl;have f1:wv3.cell? ⟨g1,1,none⟩=some (.slice A1 r.l1.length c1):=(blk_cell BK1.out 1).trans rfl;have f2:wv3.cell? ⟨g1,2,none⟩=some (.slice A2 r.l2.length c2):=(blk_cell BK1.out 2).trans rfl;have f3:wv3.cell? ⟨g1,3,none⟩=some (.slice A3 r.l3.length c3):=(blk_cell BK1.out 3).trans rfl;have f4:wv3.cell? ⟨g1,4,none⟩=some (.slice A4 r.l4.length c4):=(blk_cell BK1.out 4).trans rfl;have f5:wv3.cell? ⟨g1,5,none⟩=some (.slice A5 r.l5.length c5):=(blk_cell BK1.out 5).trans rfl)))
    cases is with
    |false=>
     go_wp2_with (first|(go_at_call 22;go_must (refine(Loft_calls ⟨A1,c1,A2,c2,A3,c3,A4,c4,A5,c5⟩ r _ (RRd.below HR.out HB.out) t1 t2 t3 t4 t5).mono ?_;clear f0 f1 f2 f3 f4 f5;rintro e wl5 ⟨x',rfl,hr',hb⟩;replace BK1:=Aside0.mk (blk_below BK1.out hb);replace HCZ:=Aside0.mk (Kd.C_below HCZ.out hb);replace HCP:=Aside0.mk (Kd.C_below HCP.out hb);replace HB:=Aside0.mk (below_step HB.out hb);clear hb;have HRLx:=Aside0.mk hr';clear hr';have f0:wl5.cell? ⟨g1,0,none⟩=some (.int .i64 r.a0):=(blk_cell BK1.out 0).trans rfl;have f1:wl5.cell? ⟨g1,1,none⟩=some (.slice A1 r.l1.length c1):=(blk_cell BK1.out 1).trans rfl;have f2:wl5.cell? ⟨g1,2,none⟩=some (.slice A2 r.l2.length c2):=(blk_cell BK1.out 2).trans rfl;have f3:wl5.cell? ⟨g1,3,none⟩=some (.slice A3 r.l3.length c3):=(blk_cell BK1.out 3).trans rfl;have f4:wl5.cell? ⟨g1,4,none⟩=some (.slice A4 r.l4.length c4):=(blk_cell BK1.out 4).trans rfl;have f5:wl5.cell? ⟨g1,5,none⟩=some (.slice A5 r.l5.length c5):=(blk_cell BK1.out 5).trans rfl))|(go_at_call 23;go_must (refine(list_at Az cz z _ HCZ.out hlz z1000).mono ?_;clear f0 f1 f2 f3 f4 f5;rintro e wk5 ⟨Al,cl,rfl,hll,hCl,hb⟩;replace BK1:=Aside0.mk (blk_below BK1.out hb);replace HCZ:=Aside0.mk (Kd.C_below HCZ.out hb);replace HCP:=Aside0.mk (Kd.C_below HCP.out hb);replace HRLx:=Aside0.mk (Rd.below HRLx.out hb);replace HB:=Aside0.mk (below_step HB.out hb);clear hb;have HCL:=Aside0.mk hCl;clear hCl;have f0:wk5.cell? ⟨g1,0,none⟩=some (.int .i64 r.a0):=(blk_cell BK1.out 0).trans rfl;have f1:wk5.cell? ⟨g1,1,none⟩=some (.slice A1 r.l1.length c1):=(blk_cell BK1.out 1).trans rfl;have f2:wk5.cell? ⟨g1,2,none⟩=some (.slice A2 r.l2.length c2):=(blk_cell BK1.out 2).trans rfl;have f3:wk5.cell? ⟨g1,3,none⟩=some (.slice A3 r.l3.length c3):=(blk_cell BK1.out 3).trans rfl;have f4:wk5.cell? ⟨g1,4,none⟩=some (.slice A4 r.l4.length c4):=(blk_cell BK1.out 4).trans rfl;have f5:wk5.cell? ⟨g1,5,none⟩=some (.slice A5 r.l5.length c5):=(blk_cell BK1.out 5).trans rfl))|(go_at_call 61;go_must (refine(ProvePlace.calls x' r.sl Al cl z _ _ HRLx.out HCL.out hll).mono ?_;(first|rw [HA1.out]|rw [←HA2.out]);clear f0 f1 f2 f3 f4 f5;rintro e wv5 ⟨rfl,hb⟩;replace BK1:=Aside0.mk (blk_below BK1.out hb);replace HCZ:=Aside0.mk (Kd.C_below HCZ.out hb);replace HCP:=Aside0.mk (Kd.C_below HCP.out hb);replace HB:=Aside0.mk (below_step HB.out hb);clear hb;clear HRLx HCL;have f0:wv5.cell? ⟨g1,0,none⟩=some (.int .i64 r.a0):=(blk_cell BK1.out 0).trans rfl;have f1:wv5.cell? ⟨g1,1,none⟩=some (.slice A1 r.l1.length c1):=(blk_cell BK1.out 1).trans rfl;have f2:wv5.cell? ⟨g1,2,none⟩=some (.slice A2 r.l2.length c2):=(blk_cell BK1.out 2).trans rfl;have f3:wv5.cell? ⟨g1,3,none⟩=some (.slice A3 r.l3.length c3):=(blk_cell BK1.out 3).trans rfl;have f4:wv5.cell? ⟨g1,4,none⟩=some (.slice A4 r.l4.length c4):=(blk_cell BK1.out 4).trans rfl;have f5:wv5.cell? ⟨g1,5,none⟩=some (.slice A5 r.l5.length c5):=(blk_cell BK1.out 5).trans rfl))|(go_at_call 62;go_must (refine(Before_at Az cz z Ap cp p _ HCZ.out hlz HCP.out hlp z5 p1000).mono ?_;rw [HBF.out];clear f0 f1 f2 f3 f4 f5;rintro e wf ⟨rfl,hb⟩;replace BK1:=Aside0.mk (blk_below BK1.out hb);replace HCZ:=Aside0.mk (Kd.C_below HCZ.out hb);replace HCP:=Aside0.mk (Kd.C_below HCP.out hb);replace HB:=Aside0.mk (below_step HB.out hb);clear hb;have f0:wf.cell? ⟨g1,0,none⟩=some (.int .i64 r.a0):=(blk_cell BK1.out 0).trans rfl;have f1:wf.cell? ⟨g1,1,none⟩=some (.slice A1 r.l1.length c1):=(blk_cell BK1.out 1).trans rfl;have f2:wf.cell? ⟨g1,2,none⟩=some (.slice A2 r.l2.length c2):=(blk_cell BK1.out 2).trans rfl;have f3:wf.cell? ⟨g1,3,none⟩=some (.slice A3 r.l3.length c3):=(blk_cell BK1.out 3).trans rfl;have f4:wf.cell? ⟨g1,4,none⟩=some (.slice A4 r.l4.length c4):=(blk_cell BK1.out 4).trans rfl;have f5:wf.cell? ⟨g1,5,none⟩=some (.slice A5 r.l5.length c5):=(blk_cell BK1.out 5).trans rfl))|(go_at_call 20;go_must (refine(awake_calls _).mono ?_;rintro e wa ⟨rfl,hb⟩;replace HB:=Aside0.mk (below_step HB.out hb);clear hb)))
     go_ret
     exact⟨rfl,HB.out⟩
    |true=>
     obtain⟨b,hb⟩:∃b,b=r.sl.proves z n:=⟨_,rfl⟩
     have HA2:=Aside0.mk hb
     clear hb
     cases b with
     |false=>
      go_wp2_with (first|(go_at_call 22;go_must (refine(Loft_calls ⟨A1,c1,A2,c2,A3,c3,A4,c4,A5,c5⟩ r _ (RRd.below HR.out HB.out) t1 t2 t3 t4 t5).mono ?_;clear f0 f1 f2 f3 f4 f5;rintro e wl5 ⟨x',rfl,hr',hb⟩;replace BK1:=Aside0.mk (blk_below BK1.out hb);replace HCZ:=Aside0.mk (Kd.C_below HCZ.out hb);replace HCP:=Aside0.mk (Kd.C_below HCP.out hb);replace HB:=Aside0.mk (below_step HB.out hb);clear hb;have HRLx:=Aside0.mk hr';clear hr';have f0:wl5.cell? ⟨g1,0,none⟩=some (.int .i64 r.a0):=(blk_cell BK1.out 0).trans rfl;have f1:wl5.cell? ⟨g1,1,none⟩=some (.slice A1 r.l1.length c1):=(blk_cell BK1.out 1).trans rfl;have f2:wl5.cell? ⟨g1,2,none⟩=some (.slice A2 r.l2.length c2):=(blk_cell BK1.out 2).trans rfl;have f3:wl5.cell? ⟨g1,3,none⟩=some (.slice A3 r.l3.length c3):=(blk_cell BK1.out 3).trans rfl;have f4:wl5.cell? ⟨g1,4,none⟩=some (.slice A4 r.l4.length c4):=(blk_cell BK1.out 4).trans rfl;have f5:wl5.cell? ⟨g1,5,none⟩=some (.slice A5 r.l5.length c5):=(blk_cell BK1.out 5).trans rfl))|(go_at_call 23;go_must (refine(list_at Az cz z _ HCZ.out hlz z1000).mono ?_;clear f0 f1 f2 f3 f4 f5;rintro e wk5 ⟨Al,cl,rfl,hll,hCl,hb⟩;replace BK1:=Aside0.mk (blk_below BK1.out hb);replace HCZ:=Aside0.mk (Kd.C_below HCZ.out hb);replace HCP:=Aside0.mk (Kd.C_below HCP.out hb);replace HRLx:=Aside0.mk (Rd.below HRLx.out hb);replace HB:=Aside0.mk (below_step HB.out hb);clear hb;have HCL:=Aside0.mk hCl;clear hCl;have f0:wk5.cell? ⟨g1,0,none⟩=some (.int .i64 r.a0):=(blk_cell BK1.out 0).trans rfl;have f1:wk5.cell? ⟨g1,1,none⟩=some (.slice A1 r.l1.length c1):=(blk_cell BK1.out 1).trans rfl;have f2:wk5.cell? ⟨g1,2,none⟩=some (.slice A2 r.l2.length c2):=(blk_cell BK1.out 2).trans rfl;have f3:wk5.cell? ⟨g1,3,none⟩=some (.slice A3 r.l3.length c3):=(blk_cell BK1.out 3).trans rfl;have f4:wk5.cell? ⟨g1,4,none⟩=some (.slice A4 r.l4.length c4):=(blk_cell BK1.out 4).trans rfl;have f5:wk5.cell? ⟨g1,5,none⟩=some (.slice A5 r.l5.length c5):=(blk_cell BK1.out 5).trans rfl))|(go_at_call 61;go_must (refine(ProvePlace.calls x' r.sl Al cl z _ _ HRLx.out HCL.out hll).mono ?_;(first|rw [HA1.out]|rw [←HA2.out]);clear f0 f1 f2 f3 f4 f5;rintro e wv5 ⟨rfl,hb⟩;replace BK1:=Aside0.mk (blk_below BK1.out hb);replace HCZ:=Aside0.mk (Kd.C_below HCZ.out hb);replace HCP:=Aside0.mk (Kd.C_below HCP.out hb);replace HB:=Aside0.mk (below_step HB.out hb);clear hb;clear HRLx HCL;have f0:wv5.cell? ⟨g1,0,none⟩=some (.int .i64 r.a0):=(blk_cell BK1.out 0).trans rfl;have f1:wv5.cell? ⟨g1,1,none⟩=some (.slice A1 r.l1.length c1):=(blk_cell BK1.out 1).trans rfl;have f2:wv5.cell? ⟨g1,2,none⟩=some (.slice A2 r.l2.length c2):=(blk_cell BK1.out 2).trans rfl;have f3:wv5.cell? ⟨g1,3,none⟩=some (.slice A3 r.l3.length c3):=(blk_cell BK1.out 3).trans rfl;have f4:wv5.cell? ⟨g1,4,none⟩=some (.slice A4 r.l4.length c4):=(blk_cell BK1.out 4).trans rfl;have f5:wv5.cell? ⟨g1,5,none⟩=some (.slice A5 r.l5.length c5):=(blk_cell BK1.out 5).trans rfl))|(go_at_call 62;go_must (refine(Before_at Az cz z Ap cp p _ HCZ.out hlz HCP.out hlp z5 p1000).mono ?_;rw [HBF.out];clear f0 f1 f2 f3 f4 f5;rintro e wf ⟨rfl,hb⟩;replace BK1:=Aside0.mk (blk_below BK1.out hb);replace HCZ:=Aside0.mk (Kd.C_below HCZ.out hb);replace HCP:=Aside0.mk (Kd.C_below HCP.out hb);replace HB:=Aside0.mk (below_step HB.out hb);clear hb;have f0:wf.cell? ⟨g1,0,none⟩=some (.int .i64 r.a0):=(blk_cell BK1.out 0).trans rfl;have f1:wf.cell? ⟨g1,1,none⟩=some (.slice A1 r.l1.length c1):=(blk_cell BK1.out 1).trans rfl;have f2:wf.cell? ⟨g1,2,none⟩=some (.slice A2 r.l2.length c2):=(blk_cell BK1.out 2).trans rfl;have f3:wf.cell? ⟨g1,3,none⟩=some (.slice A3 r.l3.length c3):=(blk_cell BK1.out 3).trans rfl;have f4:wf.cell? ⟨g1,4,none⟩=some (.slice A4 r.l4.length c4):=(blk_cell BK1.out 4).trans rfl;have f5:wf.cell? ⟨g1,5,none⟩=some (.slice A5 r.l5.length c5):=(blk_cell BK1.out 5).trans rfl))|(go_at_call 20;go_must (refine(awake_calls _).mono ?_;rintro e wa ⟨rfl,hb⟩;replace HB:=Aside0.mk (below_step HB.out hb);clear hb)))
      go_ret
      exact⟨rfl,HB.out⟩
     |true=>
      have HBF:=Aside0.mk (H5.out HA2.out.symm)
      go_wp2_with (first|(go_at_call 22;go_must (refine(Loft_calls ⟨A1,c1,A2,c2,A3,c3,A4,c4,A5,c5⟩ r _ (RRd.below HR.out HB.out) t1 t2 t3 t4 t5).mono ?_;clear f0 f1 f2 f3 f4 f5;rintro e wl5 ⟨x',rfl,hr',hb⟩;replace BK1:=Aside0.mk (blk_below BK1.out hb);replace HCZ:=Aside0.mk (Kd.C_below HCZ.out hb);replace HCP:=Aside0.mk (Kd.C_below HCP.out hb);replace HB:=Aside0.mk (below_step HB.out hb);clear hb;have HRLx:=Aside0.mk hr';clear hr';have f0:wl5.cell? ⟨g1,0,none⟩=some (.int .i64 r.a0):=(blk_cell BK1.out 0).trans rfl;have f1:wl5.cell? ⟨g1,1,none⟩=some (.slice A1 r.l1.length c1):=(blk_cell BK1.out 1).trans rfl;have f2:wl5.cell? ⟨g1,2,none⟩=some (.slice A2 r.l2.length c2):=(blk_cell BK1.out 2).trans rfl;have f3:wl5.cell? ⟨g1,3,none⟩=some (.slice A3 r.l3.length c3):=(blk_cell BK1.out 3).trans rfl;have f4:wl5.cell? ⟨g1,4,none⟩=some (.slice A4 r.l4.length c4):=(blk_cell BK1.out 4).trans rfl;have f5:wl5.cell? ⟨g1,5,none⟩=some (.slice A5 r.l5.length c5):=(blk_cell BK1.out 5).trans rfl))|(go_at_call 23;go_must (refine(list_at Az cz z _ HCZ.out hlz z1000).mono ?_;clear f0 f1 f2 f3 f4 f5;rintro e wk5 ⟨Al,cl,rfl,hll,hCl,hb⟩;replace BK1:=Aside0.mk (blk_below BK1.out hb);replace HCZ:=Aside0.mk (Kd.C_below HCZ.out hb);replace HCP:=Aside0.mk (Kd.C_below HCP.out hb);replace HRLx:=Aside0.mk (Rd.below HRLx.out hb);replace HB:=Aside0.mk (below_step HB.out hb);clear hb;have HCL:=Aside0.mk hCl;clear hCl;have f0:wk5.cell? ⟨g1,0,none⟩=some (.int .i64 r.a0):=(blk_cell BK1.out 0).trans rfl;have f1:wk5.cell? ⟨g1,1,none⟩=some (.slice A1 r.l1.length c1):=(blk_cell BK1.out 1).trans rfl;have f2:wk5.cell? ⟨g1,2,none⟩=some (.slice A2 r.l2.length c2):=(blk_cell BK1.out 2).trans rfl;have f3:wk5.cell? ⟨g1,3,none⟩=some (.slice A3 r.l3.length c3):=(blk_cell BK1.out 3).trans rfl;have f4:wk5.cell? ⟨g1,4,none⟩=some (.slice A4 r.l4.length c4):=(blk_cell BK1.out 4).trans rfl;have f5:wk5.cell? ⟨g1,5,none⟩=some (.slice A5 r.l5.length c5):=(blk_cell BK1.out 5).trans rfl))|(go_at_call 61;go_must (refine(ProvePlace.calls x' r.sl Al cl z _ _ HRLx.out HCL.out hll).mono ?_;(first|rw [HA1.out]|rw [←HA2.out]);clear f0 f1 f2 f3 f4 f5;rintro e wv5 ⟨rfl,hb⟩;replace BK1:=Aside0.mk (blk_below BK1.out hb);replace HCZ:=Aside0.mk (Kd.C_below HCZ.out hb);replace HCP:=Aside0.mk (Kd.C_below HCP.out hb);replace HB:=Aside0.mk (below_step HB.out hb);clear hb;clear HRLx HCL;have f0:wv5.cell? ⟨g1,0,none⟩=some (.int .i64 r.a0):=(blk_cell BK1.out 0).trans rfl;have f1:wv5.cell? ⟨g1,1,none⟩=some (.slice A1 r.l1.length c1):=(blk_cell BK1.out 1).trans rfl;have f2:wv5.cell? ⟨g1,2,none⟩=some (.slice A2 r.l2.length c2):=(blk_cell BK1.out 2).trans rfl;have f3:wv5.cell? ⟨g1,3,none⟩=some (.slice A3 r.l3.length c3):=(blk_cell BK1.out 3).trans rfl;have f4:wv5.cell? ⟨g1,4,none⟩=some (.slice A4 r.l4.length c4):=(blk_cell BK1.out 4).trans rfl;have f5:wv5.cell? ⟨g1,5,none⟩=some (.slice A5 r.l5.length c5):=(blk_cell BK1.out 5).trans rfl))|(go_at_call 62;go_must (refine(Before_at Az cz z Ap cp p _ HCZ.out hlz HCP.out hlp z5 p1000).mono ?_;rw [HBF.out];clear f0 f1 f2 f3 f4 f5;rintro e wf ⟨rfl,hb⟩;replace BK1:=Aside0.mk (blk_below BK1.out hb);replace HCZ:=Aside0.mk (Kd.C_below HCZ.out hb);replace HCP:=Aside0.mk (Kd.C_below HCP.out hb);replace HB:=Aside0.mk (below_step HB.out hb);clear hb;have f0:wf.cell? ⟨g1,0,none⟩=some (.int .i64 r.a0):=(blk_cell BK1.out 0).trans rfl;have f1:wf.cell? ⟨g1,1,none⟩=some (.slice A1 r.l1.length c1):=(blk_cell BK1.out 1).trans rfl;have f2:wf.cell? ⟨g1,2,none⟩=some (.slice A2 r.l2.length c2):=(blk_cell BK1.out 2).trans rfl;have f3:wf.cell? ⟨g1,3,none⟩=some (.slice A3 r.l3.length c3):=(blk_cell BK1.out 3).trans rfl;have f4:wf.cell? ⟨g1,4,none⟩=some (.slice A4 r.l4.length c4):=(blk_cell BK1.out 4).trans rfl;have f5:wf.cell? ⟨g1,5,none⟩=some (.slice A5 r.l5.length c5):=(blk_cell BK1.out 5).trans rfl))|(go_at_call 20;go_must (refine(awake_calls _).mono ?_;rintro e wa ⟨rfl,hb⟩;replace HB:=Aside0.mk (below_step HB.out hb);clear hb)))
      go_ret
      exact⟨rfl,HB.out⟩
end Go.Proofs.Ytjifalohjlihaaa.Q
end
section
namespace Go.Proofs.Ytjifalohjlihaaa.shelfNoBetter
open Go.ChangeShapes Go.WideShapes Go.ChangeAt Go.RowKit Go.Proofs.YtjifalohjlihaaaW.PrintWords
set_option linter.unusedVariables false
theorem own:ownKnob Try.prog.godebug=none:=by kernel_rfl
theorem laidOut:laidOutB Try.prog=true:=by kernel_rfl
set_option maxRecDepth 100000 in
theorem lifted (os:Os) (started:os.Started) (H:Type) (enc:TypeId×Value→H):
  ReturnsInHanded {} Try.checked os 12 .any (Rows.shelfNoBetterSpec.pre6 enc Try.prog Try.f12 Rows.shelfNoBetterRow.domain false) (Rows.shelfNoBetterSpec.post enc Try.prog Try.f12 false true false false):=by
 refine returnsInHanded_of_change_sized (C:=Try.checked) own started (by kernel_rfl) Try.func12
  (ChangeSpec.witness6 (enc:=enc) (C:=Try.checked) false ⟨#[],#[.agg #[.int .i64 0,.slice none 0 0,.slice none 0 0,.slice none 0 0,.slice none 0 0,.slice none 0 0],.slice none 0 0],[]⟩ 8 (by kernel_rfl) (by kernel_rfl) (by kernel_rfl) (by kernel_rfl)) ?_
 intro W base args ds gs before hval0 hW hcnd hsz0 _
 have hval:∀(j:Nat) t v,Try.f12.params[j]? =some t→args[j]? =some v→Value.okWide Try.prog W .any base t v:=hval0
 have hW':=hW
 obtain⟨p,q,hA0,hV,rfl,hfz,hnd⟩:=hW
 have hA:DataW.TrodAll enc Try.prog W 0 (fun _=>true) true Try.f12.params.toList args.toList ds p:=hA0
 rw [Try.params12]at hA hval
 obtain⟨v0,vs0,d0,ds0,p0,q0,hargs,rfl,rfl,h0,r0⟩:=trodAll_cons hA
 obtain⟨v1,vs1,d1,ds1,p1,q1,hargs1,rfl,rfl,h1,r1⟩:=trodAll_cons r0
 obtain⟨rfl,rfl,rfl⟩:=trodAll_nil r1
 obtain rfl:args=#[v0,v1]:=by cases args;simp_all
 obtain⟨rfl,rfl⟩:=trodVars_none hV
 have k0:=h0
 have lt0:∀x∈p0,x.block < W.heap.size:=by obtain⟨m,hm⟩:=k0;exact DataW.trod_lt m _ _ _ hm
 have k1:=h1
 have lt1:∀x∈p1,x.block < W.heap.size:=by obtain⟨m,hm⟩:=k1;exact DataW.trod_lt m _ _ _ hm
 obtain⟨cs0,rfl,hcs0⟩:=okWide_struct Try.underlying28 (hval 0 28 v0 rfl rfl)
 obtain⟨x0,r0',e0,hr0⟩:∃x r,cs0=Q.RL.cells r x∧Q.RRd W x r:=by
  obtain⟨fuel,hf⟩:=h0
  obtain⟨x,r,e,hr⟩:=Q.open_L hf
  exact⟨x,r,by rw [←e];simp [Value.cells],hr⟩
 subst e0
 obtain⟨B1,l1,m1,rfl⟩:=okWide_slice Try.underlying72 (hval 1 72 v1 rfl rfl)
 obtain⟨A1,c1,xs1,e1,hl1,hC1,hw1⟩:∃A c xs,Value.slice B1 l1 m1= .slice A xs.length c∧xs.length≤c∧Kd.C (Kd.int .u16) W A xs.length xs∧∀n∈xs,(Lit.int .u16 n).wf=true:=by
  obtain⟨fuel,hf⟩:=h1
  obtain⟨A,c,xs,e,h1,h2,h3⟩:=Q.slice_ints Try.underlying72 Try.underlying78 (by kernel_rfl) hf
  exact⟨A,c,xs,by simpa [Value.cells] using e,h1,h2,h3⟩
 simp only [Value.slice.injEq]at e1
 obtain⟨rfl,rfl,rfl⟩:=e1
 clear hA0 hval0 hsz0
 refine(Q.ShelfNoBetter_calls x0 r0' B1 m1 xs1 W hr0 hC1 hl1 (Q.rd_wf hw1)).mono fun e W' ⟨he,bel⟩=> ?_
 subst he
 exact⟨_,rfl,_,_,_,[],_,[],hW',trodAll_mk1 (shut_bool Try.underlying4 _),(trodAll_cons_mk (Below.trod laidOut (by kernel_rfl) (of_decide_eq_true (by kernel_rfl)) k0 bel lt0) (trodAll_cons_mk (Below.trod laidOut (by kernel_rfl) (of_decide_eq_true (by kernel_rfl)) k1 bel lt1) trodAll_mk0)),rfl,bel.frame _,fun h=>by cases h⟩
theorem over:Rows.shelfNoBetterRow.holds Try.pinned (OpenSpec.ofChange Rows.shelfNoBetterSpec):=
 OpenClaim.holds_of_wide 12 Try.f12 rfl rfl rfl rfl rfl rfl rfl ⟨rfl,rfl,rfl,rfl,rfl⟩ rfl rfl rfl rfl rfl (by kernel_rfl) Try.func12 (by kernel_rfl)
  (of_decide_eq_true (by kernel_rfl)) (by unfold Func.isWrapper;first|(rw [if_pos (by decide+kernel)];kernel_rfl)|(rw [if_neg (by decide+kernel)];exact⟨rfl,rfl⟩))
  (fun os started H enc _=>lifted os started H enc)
theorem proved:Rows.ShelfNoBetterSaid:=over
end Go.Proofs.Ytjifalohjlihaaa.shelfNoBetter
namespace Go.Proofs.Ytjifalohjlihaaa
theorem shelfNoBetter_holds:Rows.ShelfNoBetterSaid:=shelfNoBetter.proved
end Go.Proofs.Ytjifalohjlihaaa
end
