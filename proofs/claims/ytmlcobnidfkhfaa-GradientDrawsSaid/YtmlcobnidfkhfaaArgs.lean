/- Arguments laid open as the printed contracts take them. -/
import Derived.Test.YtmlcobnidfkhfaaProg
import Derived.Lib.SmallJoins
import Derived.OpenShut
import Derived.ChangeArms
import Derived.Test.YtmlcobnidfkhfaaQ0
import Derived.Deep.Slices
import Derived.Deep.Fields
import Derived.ChangeSame
namespace Go.Proofs.Ytmlcobnidfkhfaa.Aggs
open Go.Joins Go.ChangeShapes Go.WideShapes Go.RowKit Go.Deep
section
variable {H:Type} {enc:TypeId × Value→H} {P:Program} {w:World} {base:Nat} {spare:Nat→Bool} {held:Bool}
theorem open_agg6 {r:Reach} {b0:Nat} {t:TypeId} {f0 f1 f2 f3 f4 f5:Field} {v:Value} {d:DataW H} {p:List MemPlace} (hs:P.underlying t=some (.struct #[f0,f1,f2,f3,f4,f5])) (hone:oneCellFields P #[f0,f1,f2,f3,f4,f5]=true) (hC:P.cellsOf t=6)
  (hv:Value.okWide P w r b0 t v) (h:DataW.Trod enc P w base spare held t v d p) :
  ∃ (v0 v1 v2 v3 v4 v5:Value) (y0 y1 y2 y3 y4 y5:DataW H × List MemPlace) (n:Nat),v = .agg #[v0,v1,v2,v3,v4,v5] ∧
   DataW.trod enc P w base spare held n f0.type [v0]=some y0∧DataW.trod enc P w base spare held n f1.type [v1]=some y1∧DataW.trod enc P w base spare held n f2.type [v2]=some y2∧DataW.trod enc P w base spare held n f3.type [v3]=some y3∧DataW.trod enc P w base spare held n f4.type [v4]=some y4∧DataW.trod enc P w base spare held n f5.type [v5]=some y5:=by
 obtain ⟨cs,rfl,hsz⟩:=okWide_struct hs hv
 obtain ⟨l⟩:=cs
 match l,hsz.trans hC with
 | [c0,c1,c2,c3,c4,c5],_ =>
  obtain ⟨fuel,hf⟩:=h
  obtain ⟨xs,n,_,hx,_,hlen,hg⟩:=DataW.trod_struct hs hf
  obtain ⟨o0,k0⟩:=hone_of hone 0 f0 rfl
  obtain ⟨o1,k1⟩:=hone_of hone 1 f1 rfl
  obtain ⟨o2,k2⟩:=hone_of hone 2 f2 rfl
  obtain ⟨o3,k3⟩:=hone_of hone 3 f3 rfl
  obtain ⟨o4,k4⟩:=hone_of hone 4 f4 rfl
  obtain ⟨o5,k5⟩:=hone_of hone 5 f5 rfl
  match xs,hlen with
  | [y0,y1,y2,y3,y4,y5],_ =>
   exact ⟨c0,c1,c2,c3,c4,c5,y0,y1,y2,y3,y4,y5,n,rfl,by simpa [Value.cells,o0,k0] using hg 0 f0 rfl,by simpa [Value.cells,o1,k1] using hg 1 f1 rfl,by simpa [Value.cells,o2,k2] using hg 2 f2 rfl,by simpa [Value.cells,o3,k3] using hg 3 f3 rfl,by simpa [Value.cells,o4,k4] using hg 4 f4 rfl,by simpa [Value.cells,o5,k5] using hg 5 f5 rfl⟩
theorem one_int {fuel:Nat} {t:TypeId} {v:Value} {y:DataW H × List MemPlace} {k:IntKind} (ht:P.underlying t=some (.int k)) (h:DataW.trod enc P w base spare held fuel t [v]=some y):∃ n,v = .int k n∧(Lit.int k n).wf=true:=by
 obtain ⟨n,hc,_,hw⟩:=DataW.trod_int ht h
 exact ⟨n,by simpa using hc,hw⟩
theorem ints6 {r:Reach} {b0:Nat} {t:TypeId} {f0 f1 f2 f3 f4 f5:Field} {v:Value} {d:DataW H} {p:List MemPlace} {e:TypeId} (hs:P.underlying t=some (.struct #[f0,f1,f2,f3,f4,f5])) (hone:oneCellFields P #[f0,f1,f2,f3,f4,f5]=true) (hC:P.cellsOf t=6)
  (he:P.underlying e=some (.int .i64)) (hv:Value.okWide P w r b0 t v) (h:DataW.Trod enc P w base spare held t v d p) (e0:f0.type=e:=by rfl) (e1:f1.type=e:=by rfl) (e2:f2.type=e:=by rfl) (e3:f3.type=e:=by rfl) (e4:f4.type=e:=by rfl) (e5:f5.type=e:=by rfl) :
  ∃ a b c x y z:Int,v = .agg #[.int .i64 a,.int .i64 b,.int .i64 c,.int .i64 x,.int .i64 y,.int .i64 z]∧(Lit.int .i64 a).wf=true∧(Lit.int .i64 b).wf=true∧(Lit.int .i64 c).wf=true∧(Lit.int .i64 x).wf=true∧(Lit.int .i64 y).wf=true∧(Lit.int .i64 z).wf=true:=by
 obtain ⟨v0,v1,v2,v3,v4,v5,y0,y1,y2,y3,y4,y5,n,rfl,t0,t1,t2,t3,t4,t5⟩:=open_agg6 hs hone hC hv h
 rw [e0] at t0;rw [e1] at t1;rw [e2] at t2;rw [e3] at t3;rw [e4] at t4;rw [e5] at t5
 obtain ⟨a,rfl,wa⟩:=one_int he t0
 obtain ⟨b,rfl,wb⟩:=one_int he t1
 obtain ⟨c,rfl,wc⟩:=one_int he t2
 obtain ⟨x,rfl,wx⟩:=one_int he t3
 obtain ⟨y,rfl,wy⟩:=one_int he t4
 obtain ⟨z,rfl,wz⟩:=one_int he t5
 exact ⟨a,b,c,x,y,z,rfl,wa,wb,wc,wx,wy,wz⟩
theorem ints4 {r:Reach} {b0:Nat} {t:TypeId} {f0 f1 f2 f3:Field} {v:Value} {d:DataW H} {p:List MemPlace} {e:TypeId} (hs:P.underlying t=some (.struct #[f0,f1,f2,f3])) (hone:oneCellFields P #[f0,f1,f2,f3]=true) (hC:P.cellsOf t=4)
  (he:P.underlying e=some (.int .i64)) (hv:Value.okWide P w r b0 t v) (h:DataW.Trod enc P w base spare held t v d p) (e0:f0.type=e:=by rfl) (e1:f1.type=e:=by rfl) (e2:f2.type=e:=by rfl) (e3:f3.type=e:=by rfl) :
  ∃ a b c x:Int,v = .agg #[.int .i64 a,.int .i64 b,.int .i64 c,.int .i64 x]∧(Lit.int .i64 a).wf=true∧(Lit.int .i64 b).wf=true∧(Lit.int .i64 c).wf=true∧(Lit.int .i64 x).wf=true:=by
 obtain ⟨v0,v1,v2,v3,y0,y1,y2,y3,n,rfl,_,_,t0,t1,t2,t3⟩:=open_agg4 hs hone hC hv h
 rw [e0] at t0;rw [e1] at t1;rw [e2] at t2;rw [e3] at t3
 obtain ⟨a,rfl,wa⟩:=one_int he t0
 obtain ⟨b,rfl,wb⟩:=one_int he t1
 obtain ⟨c,rfl,wc⟩:=one_int he t2
 obtain ⟨x,rfl,wx⟩:=one_int he t3
 exact ⟨a,b,c,x,rfl,wa,wb,wc,wx⟩
theorem ints2 {r:Reach} {b0:Nat} {t:TypeId} {f0 f1:Field} {v:Value} {d:DataW H} {p:List MemPlace} {e:TypeId} (hs:P.underlying t=some (.struct #[f0,f1])) (hone:oneCellFields P #[f0,f1]=true) (hC:P.cellsOf t=2)
  (he:P.underlying e=some (.int .i64)) (hv:Value.okWide P w r b0 t v) (h:DataW.Trod enc P w base spare held t v d p) (e0:f0.type=e:=by rfl) (e1:f1.type=e:=by rfl) :
  ∃ a b:Int,v = .agg #[.int .i64 a,.int .i64 b]∧(Lit.int .i64 a).wf=true∧(Lit.int .i64 b).wf=true:=by
 obtain ⟨v0,v1,y0,y1,n,rfl,_,_,t0,t1⟩:=open_agg2 hs hone hC hv h
 rw [e0] at t0;rw [e1] at t1
 obtain ⟨a,rfl,wa⟩:=one_int he t0
 obtain ⟨b,rfl,wb⟩:=one_int he t1
 exact ⟨a,b,rfl,wa,wb⟩
end
end Go.Proofs.Ytmlcobnidfkhfaa.Aggs
namespace Go.Proofs.Ytmlcobnidfkhfaa.StopArg
open Go.ChangeShapes Go.WideShapes Go.Deep Go.RowKit Go.Proofs.YtmlcobnidfkhfaaW.PrintWords Go.Proofs.YtmlcobnidfkhfaaW.PrintLast Go.Proofs.Ytmlcobnidfkhfaa.Aggs
section
variable {H:Type} {enc:TypeId × Value→H} {W:World}
theorem lt_of_trod {t:TypeId} {v:Value} {d:DataW H} {p:List MemPlace} (h:DataW.Trod enc Try.prog W 0 (fun _=>true) true t v d p):∀ x ∈ p,x.block<W.heap.size:=by
 obtain ⟨m,hm⟩:=h;exact DataW.trod_lt m _ _ _ hm
theorem int_cell {t:TypeId} {fuel:Nat} {v:Value} {y:DataW H × List MemPlace} (ht:Try.prog.underlying t=some (.int .i64)) (h:DataW.trod enc Try.prog W 0 (fun _=>true) true fuel t [v]=some y):∃ n,v = .int .i64 n:=by
 obtain ⟨n,hc,_,_⟩:=DataW.trod_int ht h
 exact ⟨n,by simpa using hc⟩
/-- a pixel's four cells -/
theorem pixel_cells {fuel:Nat} {c0 c1 c2 c3:Value} {y:DataW H × List MemPlace} (h:DataW.trod enc Try.prog W 0 (fun _=>true) true fuel 38 [c0,c1,c2,c3]=some y):∃ a b c d:Int,c0 = .int .i64 a∧c1 = .int .i64 b∧c2 = .int .i64 c∧c3 = .int .i64 d:=by
 obtain ⟨xs,n,_,_,_,hlen,hg⟩:=DataW.trod_struct Try.underlying38 h
 have hc:Try.prog.cellsOf 3=1:=by kernel_rfl
 have g0:DataW.trod enc Try.prog W 0 (fun _=>true) true n 3 (([c0,c1,c2,c3].drop 0).take (Try.prog.cellsOf 3))=xs[0]?:=hg 0 _ rfl
 have g1:DataW.trod enc Try.prog W 0 (fun _=>true) true n 3 (([c0,c1,c2,c3].drop 1).take (Try.prog.cellsOf 3))=xs[1]?:=hg 1 _ rfl
 have g2:DataW.trod enc Try.prog W 0 (fun _=>true) true n 3 (([c0,c1,c2,c3].drop 2).take (Try.prog.cellsOf 3))=xs[2]?:=hg 2 _ rfl
 have g3:DataW.trod enc Try.prog W 0 (fun _=>true) true n 3 (([c0,c1,c2,c3].drop 3).take (Try.prog.cellsOf 3))=xs[3]?:=hg 3 _ rfl
 rw [hc] at g0 g1 g2 g3
 match xs,hlen with
 | [y0,y1,y2,y3],_ =>
  obtain ⟨a,rfl⟩:=int_cell Try.underlying3 (v:=c0) (y:=y0) g0
  obtain ⟨b,rfl⟩:=int_cell Try.underlying3 (v:=c1) (y:=y1) g1
  obtain ⟨c,rfl⟩:=int_cell Try.underlying3 (v:=c2) (y:=y2) g2
  obtain ⟨d,rfl⟩:=int_cell Try.underlying3 (v:=c3) (y:=y3) g3
  exact ⟨a,b,c,d,rfl,rfl,rfl,rfl⟩
/-- a stop's five cells -/
theorem stop_cells {fuel:Nat} {cs:List Value} {y:DataW H × List MemPlace} (h:DataW.trod enc Try.prog W 0 (fun _=>true) true fuel 47 cs=some y):∃ z:Q.S47,cs.length=5∧Q.k47.K W z cs:=by
 obtain ⟨y0,y1,n,_,hl,h0,h1⟩:=trod_struct2 Try.underlying47 h
 have h5:Try.prog.cellsOf 47=5:=by kernel_rfl
 have hc:Try.prog.cellsOf 3=1:=by kernel_rfl
 have hp:Try.prog.cellsOf 38=4:=by kernel_rfl
 rw [h5] at hl
 replace h0:DataW.trod enc Try.prog W 0 (fun _=>true) true n 3 ((cs.drop 0).take (Try.prog.cellsOf 3))=some y0:=h0
 replace h1:DataW.trod enc Try.prog W 0 (fun _=>true) true n 38 ((cs.drop 1).take (Try.prog.cellsOf 38))=some y1:=h1
 rw [hc] at h0
 rw [hp] at h1
 match cs,hl with
 | [c0,c1,c2,c3,c4],_ =>
  obtain ⟨a,rfl⟩:=int_cell Try.underlying3 (v:=c0) h0
  obtain ⟨b,c,d,e,rfl,rfl,rfl,rfl⟩:=pixel_cells (c0:=c1) (c1:=c2) (c2:=c3) (c3:=c4) h1
  exact ⟨⟨a,⟨b,c,d,e⟩⟩,rfl,Q.k47_mk W ⟨a,⟨b,c,d,e⟩⟩⟩
theorem open_stops {a:Option Addr} {len cap:Nat} {d:DataW H} {p:List MemPlace} (h:DataW.Trod enc Try.prog W 0 (fun _=>true) true 25 (.slice a len cap) d p) :
  ∃ l:List Q.S47,len=l.length∧Kd.C Q.k47 W a l.length l∧l.length≤cap:=by
 obtain ⟨fuel,hf⟩:=h
 rcases open_slice Try.underlying25 hf with ⟨hcs,_⟩|⟨x,n,c,m,k,D,Pl,hcs,_,hl,hm,hmm,_,hi⟩
 ·simp [Value.cells] at hcs
  obtain ⟨rfl,rfl,rfl⟩:=hcs
  exact ⟨[],rfl,⟨rfl,by simp,fun h=>absurd h (by decide)⟩,Nat.le_refl _⟩
 ·simp [Value.cells] at hcs
  obtain ⟨rfl,rfl,rfl⟩:=hcs
  have h5:Try.prog.cellsOf 47=5:=by kernel_rfl
  have el:∀ i:Nat,∃ z:Q.S47,i<len→∃ cs:List Value,cs.length=5∧Q.k47.K W z cs∧∀ j u,cs[j]? = some u→W.cell? (x.add (i*5+j))=some u:=by
   intro i
   by_cases hlt:i<len
   ·have him:i<m:=by rw [hmm,if_pos rfl];omega
    obtain ⟨cs,hc,ht⟩:=hi i him
    rw [h5] at hc
    obtain ⟨z,hz,hk⟩:=stop_cells ht
    obtain ⟨_,_,hat⟩:=World.cells?_some hc
    refine ⟨z,fun _=>⟨cs,hz,hk,fun j u hu=>?_⟩⟩
    have hj:j<5:=hz ▸ (List.getElem?_eq_some_iff.1 hu).1
    rw [← Go.Deep.add_add,hat j hj,hu]
   ·exact ⟨Q.z47,fun g=>absurd g hlt⟩
  obtain ⟨f,hff⟩:=Classical.skolem.mp el
  have hlen:((List.range len).map f).length=len:=by simp
  have hmax:maxLen≤9223372036854775807:=by decide
  refine ⟨(List.range len).map f,hlen.symm,⟨rfl,by omega,fun _=>⟨x,rfl,fun j z hj=>?_⟩⟩,by omega⟩
  have hj':j<len:=by have:=(List.getElem?_eq_some_iff.1 hj).1;omega
  have e:z=f j:=by
   rw [List.getElem?_map,List.getElem?_range hj'] at hj
   simpa using hj.symm
  subst e
  obtain ⟨cs,c1,c2,c3⟩:=hff j hj'
  exact ⟨cs,c1,c2,c3⟩
theorem open_nums {a:Option Addr} {len cap:Nat} {d:DataW H} {p:List MemPlace} (h:DataW.Trod enc Try.prog W 0 (fun _=>true) true 22 (.slice a len cap) d p) :
  ∃ l:List Int,len=l.length∧Kd.C (Kd.int .i64) W a l.length l∧l.length≤cap:=by
 have row:∃ zs:List Int,(a=none∧len=0∧cap=0∧zs=[]) ∨ ∃ x,a=some x∧len≤cap∧cap≤maxLen∧zs.length=cap∧(∀ i,i<zs.length→W.cell? (x.add i)=some (.int .i64 (zs.getD i 0)))∧∀ n ∈ zs,(Lit.int .i64 n).wf=true:=by
  obtain ⟨fuel,hf⟩:=h
  rcases open_ints Try.underlying22 Try.underlying3 (by kernel_rfl) hf with ⟨hcs,_⟩|⟨x,l,c,zs,hcs,_,hl,hm,hz,_,hcell,hwz⟩
  ·simp [Value.cells] at hcs
   obtain ⟨rfl,rfl,rfl⟩:=hcs
   exact ⟨[],.inl ⟨rfl,rfl,rfl,rfl⟩⟩
  ·simp [Value.cells] at hcs
   obtain ⟨rfl,rfl,rfl⟩:=hcs
   exact ⟨zs,.inr ⟨_,rfl,hl,hm,by simpa using hz,hcell,hwz⟩⟩
 obtain ⟨zs,w⟩:=row
 obtain ⟨l,rfl,hr,_,_,hc⟩:=ReadsInt.ofRowC w
 exact ⟨l,rfl,Kd.C_of_reads (d:=(0:Int)) (h1:=fun _=>rfl) hr,hc⟩
end
end Go.Proofs.Ytmlcobnidfkhfaa.StopArg
