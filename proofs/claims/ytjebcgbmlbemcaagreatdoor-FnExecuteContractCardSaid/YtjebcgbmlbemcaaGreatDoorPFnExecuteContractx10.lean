import Derived.Test.YtjebcgbmlbemcaaGreatDoorPFnExecuteContractx9
namespace Go.Proofs.YtjebcgbmlbemcaaGreatDoor.PFnExecuteContract
open Go.RowKit Go.Proofs.YtjebcgbmlbemcaaGreatDoorW.PrintWords Go.Proofs.YtjebcgbmlbemcaaGreatDoorW.PrintLast Go.Proofs.YtjebcgbmlbemcaaGreatDoorW.PrintMore
set_option maxHeartbeats 8000000
set_option maxRecDepth 100000
attribute [local go_sem] max2_int min2_int max_two min_two max_three min_three max_four min_four
set_option linter.unusedVariables false
set_option linter.unusedSimpArgs false
namespace impl_Execute
open Go.Proofs.YtjebcgbmlbemcaaGreatDoor Go.WideMaps Go.Maps
theorem many_contract:XC.many.atKey (.string [99,111,110,116,114,97,99,116]) (.lit (.int .i64 0)) = .lit (.int .i64 2):=by kernel_rfl
set_option maxHeartbeats 2000000 in
theorem cmd_contract (k:Nat) (T U:List Int) (B b bw:Nat) (d:ByteArray) (w:World) (T1 U1:List Int)
  (hm:XE.MapAt w B b T U) (hb:w.heap[bw]? = some (.cells ([⟨#[99,111,110,116,114,97,99,116]⟩,d].map Value.string).toArray 9 (0,0))) (hBb:B≤b) (hBw:B≤w.heap.size) (m0:Int) (n0:ic_.f k ⟨#[99,111,110,116,114,97,99,116]⟩=some m0) (m1:Int) (n1:ic_.f k d=some m1) (hd:i2_.f k T U m1=some (T1,U1,true)) :
  Calls Tryz.prog 34 #[.pointer (some ⟨b,0,none⟩),.slice (some ⟨bw,0,none⟩) 2 2] w fun e w'=>e = .returned (.string ⟨#[111,107]⟩)∧XE.MapAt w' B b T1 U1∧w.grownBy w' (some b):=by
  have b0:w.cell? ⟨bw,0,none⟩=some (.string ⟨#[99,111,110,116,114,97,99,116]⟩):=(Lib.cell_of_heap hb 0).trans rfl
  have b1:w.cell? ⟨bw,1,none⟩=some (.string d):=(Lib.cell_of_heap hb 1).trans rfl
  have hmm := @run_makeMap Tryz.prog
  obtain⟨w1,w2,w3,w4,w5,w6,w7,w8,w9,w10,w11,w12,w13,w14,w15,r1,r2,r3,r4,r5,r6,r7,r8,r9,aa,ab,ac,af,ag,ah,o15,g15⟩:=XC.laid w
  obtain⟨n,hrun,hat,_⟩:=o15.lookup_int XC.key80 XC.und80 XC.und3 (XC.zero3 _) (keyOf_string_mk XC.und9 (s:=⟨#[99,111,110,116,114,97,99,116]⟩) (by decide))
  have hn:n=2:=by
    have h:=many_contract.symm.trans hat
    simp only [DataW.lit.injEq,Lit.int.injEq] at h
    exact h.2.symm
  subst hn
  have c0:=g15.cell b0 (by simp)
  have c1:=g15.cell b1 (by simp)
  clear hat o15
  have mb:=XE.map_keep (w':=w15) hm (fun q c e hq _=>g15.block q (XE.lt_of_heap hq) (by simp))
  have hz15:=g15.size
  have MB:=Lib.hid mb;clear mb
  have HD:=Lib.hid hd;clear hd
  have HM:=Lib.hid hm;clear hm
  have HB:=Lib.hid hb;clear hb
  have N0:=Lib.hid n0;clear n0
  have N1:=Lib.hid n1;clear n1
  go_enter Tryz.func34,Tryz.ntmps34
  go_wp2
  have blt:bw<w15.heap.size:=wL _ _ c0
  go_loopw [31] (fun i wr => ∃ (q:Nat) (a0 a1 a2 a3:Int),q≤2∧i = .int .i64 q∧wr.heap[w15.heap.size]? = some (.cells #[.int .i64 a0,.int .i64 a1,.int .i64 a2,.int .i64 a3] 83 (0,0))∧Below w15.heap.size w15 wr∧w15.heap.size<wr.heap.size∧Hid ((0<q→a0=m0)∧(1<q→a1=m1)))
    (fun i _=>2 - (RowKit.intOf i).toNat)
  case atStart=>exact⟨0,0,0,0,0,by omega,rfl,heap_alloc_new _ _,(Below.refl _ _).alloc (Nat.le_refl _) _,by simp,show(0<0→(0:Int)=m0)∧(1<0→(0:Int)=m1) from⟨fun h=>absurd h (by omega),fun h=>absurd h (by omega)⟩⟩
  case round =>
    obtain⟨q,a0,a1,a2,a3,hq,rfl,hrow,hnx,hlt,HA⟩:=hrel
    have d0:=(hnx.cell (p:=⟨bw,0,none⟩) blt).trans c0
    have d1:=(hnx.cell (p:=⟨bw,1,none⟩) blt).trans c1
    have bw':bw<wr.heap.size:=by omega
    have e0 : ∀ o,(wr.alloc o).cell? ⟨bw,0,none⟩=some (.string ⟨#[99,111,110,116,114,97,99,116]⟩):=fun o=>(World.cell?_alloc_old _ _ _ (Nat.ne_of_lt bw')).trans d0
    have e1 : ∀ o,(wr.alloc o).cell? ⟨bw,1,none⟩=some (.string d):=fun o=>(World.cell?_alloc_old _ _ _ (Nat.ne_of_lt bw')).trans d1
    rcases (by omega:q=0∨q=1∨q=2) with rfl|rfl|rfl
    · go_wp2_with (go_at_call 65;(with_reducible refine(ic_.calls k _ m0 _ N0.out).mono ?_);rintro e w' ⟨rfl,hdr⟩;have hbw:=hdr.below;have hrow':=(hbw.block w15.heap.size hlt).trans hrow;have f':=Lib.frozen_of_heap hrow' 0;have x':w'.cell? ⟨w15.heap.size,0,none⟩=some (.int .i64 a0):=Lib.cell_of_heap hrow' 0)
      have hsz:=hbw.size
      have hrow2:(w'.setCell ⟨w15.heap.size,0,none⟩ (.int .i64 m0)).heap[w15.heap.size]? = some (.cells #[.int .i64 m0,.int .i64 a1,.int .i64 a2,.int .i64 a3] 83 (0,0)):=by simp [World.setCell,Array.getElem?_modify,hrow']
      go_roundw
      case rel=>exact⟨1,m0,a1,a2,a3,by omega,rfl,hrow2,(hnx.trans (hbw.mono (Nat.le_of_lt hlt))).setCell (p:=⟨w15.heap.size,0,none⟩) (Nat.le_refl _) _,by simp [World.setCell];omega,show(0<1→m0=m0)∧(1<1→a1=m1) from⟨fun _=>rfl,fun h=>HA.out.2 (by omega)⟩⟩
      case measure=>simp [RowKit.intOf]
    · go_wp2_with (go_at_call 65;(with_reducible refine(ic_.calls k _ m1 _ N1.out).mono ?_);rintro e w' ⟨rfl,hdr⟩;have hbw:=hdr.below;have hrow':=(hbw.block w15.heap.size hlt).trans hrow;have f':=Lib.frozen_of_heap hrow' 1;have x':w'.cell? ⟨w15.heap.size,1,none⟩=some (.int .i64 a1):=Lib.cell_of_heap hrow' 1)
      have hsz:=hbw.size
      have hrow2:(w'.setCell ⟨w15.heap.size,1,none⟩ (.int .i64 m1)).heap[w15.heap.size]? = some (.cells #[.int .i64 a0,.int .i64 m1,.int .i64 a2,.int .i64 a3] 83 (0,0)):=by simp [World.setCell,Array.getElem?_modify,hrow']
      go_roundw
      case rel=>exact⟨2,a0,m1,a2,a3,by omega,rfl,hrow2,(hnx.trans (hbw.mono (Nat.le_of_lt hlt))).setCell (p:=⟨w15.heap.size,1,none⟩) (Nat.le_refl _) _,by simp [World.setCell];omega,show(0<2→a0=m0)∧(1<2→m1=m1) from⟨fun h=>HA.out.1 (by omega),fun _=>rfl⟩⟩
      case measure=>simp [RowKit.intOf]
    have hA:=HA.out
    obtain rfl:m0=a0:=(hA.1 (by omega)).symm
    obtain rfl:m1=a1:=(hA.2 (by omega)).symm
    clear hA HA
    have BB:Hid (Below w.heap.size w wr):=((Below.refl w.heap.size w).grown g15 (Nat.le_refl _) (by simp)).trans (hnx.mono g15.size)
    have MW:=Lib.hid (XE.map_keep (w':=wr) MB.out (fun q c e hq _=>hnx.block q (XE.lt_of_heap hq)))
    obtain⟨v0,v1,q0,q1,q2⟩:=MW.out;obtain⟨A1,k1,rfl,hk1,hC1⟩:=Kd.R_reads q1;obtain⟨A2,k2,rfl,hk2,hC2⟩:=Kd.R_reads q2;clear q1 q2 MW MB HM;have hbl:=XE.lt_of_heap q0
    have f0 : ∀ o,(wr.alloc o).cell? ⟨b,0,none⟩=some (.slice A1 T.length k1):=fun o=>(World.cell?_alloc_old _ _ _ (Nat.ne_of_lt hbl)).trans ((Lib.cell_of_heap q0 0).trans rfl)
    have f1 : ∀ o,(wr.alloc o).cell? ⟨b,1,none⟩=some (.slice A2 U.length k2):=fun o=>(World.cell?_alloc_old _ _ _ (Nat.ne_of_lt hbl)).trans ((Lib.cell_of_heap q0 1).trans rfl)
    have Q0:=Lib.hid q0;clear q0
    go_wp2_with fail
    obtain⟨W0,hW0⟩ : ∃ W0,wr.alloc (.cells #[.slice none 0 0,.slice none 0 0] 25)=W0:=⟨_,rfl⟩
    rw [hW0]
    have x1:W0.cell? ⟨b,0,none⟩=some (.slice A1 T.length k1):=by rw [← hW0];exact f0 _
    have x2:W0.cell? ⟨b,1,none⟩=some (.slice A2 U.length k2):=by rw [← hW0];exact f1 _
    have x3:W0.cell? ⟨w15.heap.size,1,none⟩=some (.int .i64 m1):=by rw [← hW0];exact(World.cell?_alloc_old _ _ _ (Nat.ne_of_lt hlt)).trans ((Lib.cell_of_heap hrow 1).trans rfl)
    have C1:=Lib.hid (show Kd.C (Kd.int .i64) W0 A1 T.length T by rw [← hW0];exact cA hC1 _)
    have C2:=Lib.hid (show Kd.C (Kd.int .i64) W0 A2 U.length U by rw [← hW0];exact cA hC2 _)
    have hb0:Below wr.heap.size wr W0:=by rw [← hW0];exact(Below.refl _ _).alloc (Nat.le_refl _) _
    have zb:b<W0.heap.size:=by rw [← hW0];simp;omega
    have za:w15.heap.size<W0.heap.size:=by rw [← hW0];simp;omega
    have zn:wr.heap.size<W0.heap.size:=by rw [← hW0];simp
    have HN0:=Lib.hid (show W0.heap[wr.heap.size]? = some (.cells #[.slice none 0 0,.slice none 0 0] 25 (0,0)) by rw [← hW0];exact heap_alloc_new _ _)
    have nb:b≠wr.heap.size:=by omega
    have na:w15.heap.size≠wr.heap.size:=by omega
    clear hW0 hC1 hC2 f0 f1
    go_region_held3 (fun w'=>w'.cell? ⟨b,0,none⟩=some (.slice A1 T.length k1)∧w'.cell? ⟨b,1,none⟩=some (.slice A2 U.length k2)∧w'.cell? ⟨w15.heap.size,1,none⟩=some (.int .i64 m1))
      (first|go_keep|exact⟨u1,u2,u3⟩|exact⟨XE.cell_far2 u1 nb,XE.cell_far2 u2 nb,XE.cell_far2 u3 na⟩|(trace_state;fail))
      ((first
        | (go_at_call 19;(with_reducible refine(i2_.calls k A1 k1 T A2 k2 U m1 T1 U1 true _ ?ca hk1 ?cb hk2 HD.out).mono ?_);(case ca=>exact cD C1.out);(case cb=>exact cD C2.out);rintro e w3 ⟨p0,p1,rfl,y0,y1,hb3⟩;obtain⟨A3,k3,rfl,hk3,_⟩:=Kd.R_reads y0;obtain⟨A4,k4,rfl,hk4,_⟩:=Kd.R_reads y1;have hb3':=XE.undrew hb3;have u1:=(hb3'.cell (p:=⟨b,0,none⟩) zb).trans x1;have u2:=(hb3'.cell (p:=⟨b,1,none⟩) zb).trans x2;have u3:=(hb3'.cell (p:=⟨w15.heap.size,1,none⟩) za).trans x3;have hnb:=(hb3'.block _ zn).trans HN0.out;have g0:w3.cell? ⟨wr.heap.size,0,none⟩=some (.slice none 0 0):=(Lib.cell_of_heap hnb 0).trans rfl;have g1:w3.cell? ⟨wr.heap.size,1,none⟩=some (.slice none 0 0):=(Lib.cell_of_heap hnb 1).trans rfl;have fz0:=Lib.frozen_of_heap hnb 0;have fz1:=Lib.frozen_of_heap hnb 1)))
    all_goals
      have hB3:=hb0.trans ((XE.undrew hb3).mono (Nat.le_of_lt zn))
      have QC:=Lib.hid ((hB3.block b hbl).trans Q0.out)
      go_wp2_with (go_at_call 79;(with_reducible refine(XE.become_ok b A3 A4 T1.length U1.length k3 k4 #[.slice A1 T.length k1,.slice A2 U.length k2] _ rfl ?blk).mono ?_);(case blk=>exact(Below.heap_setCell _ _ _ _ nb).trans ((Below.heap_setCell _ _ _ _ nb).trans QC.out));rintro e w5 ⟨rfl,hb5,hg5⟩)
      go_ret
      exact⟨rfl,XE.finish hBw BB.out hB3 (Nat.le_refl _) hnb ⟨_,Q0.out⟩ (rL y0 (by show wr.heap.size≤W0.heap.size;omega)) (rL y1 (by show wr.heap.size≤W0.heap.size;omega)) hg5 hb5⟩
theorem many_map:XC.many.atKey (.string [109,97,112]) (.lit (.int .i64 0)) = .lit (.int .i64 4):=by kernel_rfl
set_option maxHeartbeats 2000000 in
theorem cmd_map (k:Nat) (T U:List Int) (B b bw:Nat) (d:ByteArray) (s1:ByteArray) (s2:ByteArray) (w:World) (T1 U1:List Int)
  (hm:XE.MapAt w B b T U) (hb:w.heap[bw]? = some (.cells ([⟨#[109,97,112]⟩,d,s1,s2].map Value.string).toArray 9 (0,0))) (hBb:B≤b) (hBw:B≤w.heap.size) (m0:Int) (n0:ic_.f k ⟨#[109,97,112]⟩=some m0) (m1:Int) (n1:ic_.f k d=some m1) (m2:Int) (n2:ic_.f k s1=some m2) (m3:Int) (n3:ic_.f k s2=some m3) (h1:i6_.f k m1 s1=some (T1,true)) (h2:i6_.f k m1 s2=some (U1,true)) (h3:i5_.f k T1 U1=some true) :
  Calls Tryz.prog 34 #[.pointer (some ⟨b,0,none⟩),.slice (some ⟨bw,0,none⟩) 4 4] w fun e w'=>e = .returned (.string ⟨#[111,107]⟩)∧XE.MapAt w' B b T1 U1∧w.grownBy w' (some b):=by
  have b0:w.cell? ⟨bw,0,none⟩=some (.string ⟨#[109,97,112]⟩):=(Lib.cell_of_heap hb 0).trans rfl
  have b1:w.cell? ⟨bw,1,none⟩=some (.string d):=(Lib.cell_of_heap hb 1).trans rfl
  have b2:w.cell? ⟨bw,2,none⟩=some (.string s1):=(Lib.cell_of_heap hb 2).trans rfl
  have b3:w.cell? ⟨bw,3,none⟩=some (.string s2):=(Lib.cell_of_heap hb 3).trans rfl
  have hmm := @run_makeMap Tryz.prog
  obtain⟨w1,w2,w3,w4,w5,w6,w7,w8,w9,w10,w11,w12,w13,w14,w15,r1,r2,r3,r4,r5,r6,r7,r8,r9,ab,ac,af,ag,ah,ai,o15,g15⟩:=XC.laid w
  obtain⟨n,hrun,hat,_⟩:=o15.lookup_int XC.key80 XC.und80 XC.und3 (XC.zero3 _) (keyOf_string_mk XC.und9 (s:=⟨#[109,97,112]⟩) (by decide))
  have hn:n=4:=by
    have h:=many_map.symm.trans hat
    simp only [DataW.lit.injEq,Lit.int.injEq] at h
    exact h.2.symm
  subst hn
  have c0:=g15.cell b0 (by simp)
  have c1:=g15.cell b1 (by simp)
  have c2:=g15.cell b2 (by simp)
  have c3:=g15.cell b3 (by simp)
  clear hat o15
  have mb:=XE.map_keep (w':=w15) hm (fun q c e hq _=>g15.block q (XE.lt_of_heap hq) (by simp))
  have hz15:=g15.size
  have MB:=Lib.hid mb;clear mb
  have H1:=Lib.hid h1;clear h1
  have H2:=Lib.hid h2;clear h2
  have H3:=Lib.hid h3;clear h3
  have HM:=Lib.hid hm;clear hm
  have HB:=Lib.hid hb;clear hb
  have N0:=Lib.hid n0;clear n0
  have N1:=Lib.hid n1;clear n1
  have N2:=Lib.hid n2;clear n2
  have N3:=Lib.hid n3;clear n3
  go_enter Tryz.func34,Tryz.ntmps34
  go_wp2
  have blt:bw<w15.heap.size:=wL _ _ c0
  go_loopw [31] (fun i wr => ∃ (q:Nat) (a0 a1 a2 a3:Int),q≤4∧i = .int .i64 q∧wr.heap[w15.heap.size]? = some (.cells #[.int .i64 a0,.int .i64 a1,.int .i64 a2,.int .i64 a3] 83 (0,0))∧Below w15.heap.size w15 wr∧w15.heap.size<wr.heap.size∧Hid ((0<q→a0=m0)∧(1<q→a1=m1)∧(2<q→a2=m2)∧(3<q→a3=m3)))
    (fun i _=>4 - (RowKit.intOf i).toNat)
  case atStart=>exact⟨0,0,0,0,0,by omega,rfl,heap_alloc_new _ _,(Below.refl _ _).alloc (Nat.le_refl _) _,by simp,show(0<0→(0:Int)=m0)∧(1<0→(0:Int)=m1)∧(2<0→(0:Int)=m2)∧(3<0→(0:Int)=m3) from⟨fun h=>absurd h (by omega),fun h=>absurd h (by omega),fun h=>absurd h (by omega),fun h=>absurd h (by omega)⟩⟩
  case round =>
    obtain⟨q,a0,a1,a2,a3,hq,rfl,hrow,hnx,hlt,HA⟩:=hrel
    have d0:=(hnx.cell (p:=⟨bw,0,none⟩) blt).trans c0
    have d1:=(hnx.cell (p:=⟨bw,1,none⟩) blt).trans c1
    have d2:=(hnx.cell (p:=⟨bw,2,none⟩) blt).trans c2
    have d3:=(hnx.cell (p:=⟨bw,3,none⟩) blt).trans c3
    have bw':bw<wr.heap.size:=by omega
    have e0 : ∀ o,(wr.alloc o).cell? ⟨bw,0,none⟩=some (.string ⟨#[109,97,112]⟩):=fun o=>(World.cell?_alloc_old _ _ _ (Nat.ne_of_lt bw')).trans d0
    have e1 : ∀ o,(wr.alloc o).cell? ⟨bw,1,none⟩=some (.string d):=fun o=>(World.cell?_alloc_old _ _ _ (Nat.ne_of_lt bw')).trans d1
    have e2 : ∀ o,(wr.alloc o).cell? ⟨bw,2,none⟩=some (.string s1):=fun o=>(World.cell?_alloc_old _ _ _ (Nat.ne_of_lt bw')).trans d2
    have e3 : ∀ o,(wr.alloc o).cell? ⟨bw,3,none⟩=some (.string s2):=fun o=>(World.cell?_alloc_old _ _ _ (Nat.ne_of_lt bw')).trans d3
    rcases (by omega:q=0∨q=1∨q=2∨q=3∨q=4) with rfl|rfl|rfl|rfl|rfl
    · go_wp2_with (go_at_call 65;(with_reducible refine(ic_.calls k _ m0 _ N0.out).mono ?_);rintro e w' ⟨rfl,hdr⟩;have hbw:=hdr.below;have hrow':=(hbw.block w15.heap.size hlt).trans hrow;have f':=Lib.frozen_of_heap hrow' 0;have x':w'.cell? ⟨w15.heap.size,0,none⟩=some (.int .i64 a0):=Lib.cell_of_heap hrow' 0)
      have hsz:=hbw.size
      have hrow2:(w'.setCell ⟨w15.heap.size,0,none⟩ (.int .i64 m0)).heap[w15.heap.size]? = some (.cells #[.int .i64 m0,.int .i64 a1,.int .i64 a2,.int .i64 a3] 83 (0,0)):=by simp [World.setCell,Array.getElem?_modify,hrow']
      go_roundw
      case rel=>exact⟨1,m0,a1,a2,a3,by omega,rfl,hrow2,(hnx.trans (hbw.mono (Nat.le_of_lt hlt))).setCell (p:=⟨w15.heap.size,0,none⟩) (Nat.le_refl _) _,by simp [World.setCell];omega,show(0<1→m0=m0)∧(1<1→a1=m1)∧(2<1→a2=m2)∧(3<1→a3=m3) from⟨fun _=>rfl,fun h=>HA.out.2.1 (by omega),fun h=>HA.out.2.2.1 (by omega),fun h=>HA.out.2.2.2 (by omega)⟩⟩
      case measure=>simp [RowKit.intOf]
    · go_wp2_with (go_at_call 65;(with_reducible refine(ic_.calls k _ m1 _ N1.out).mono ?_);rintro e w' ⟨rfl,hdr⟩;have hbw:=hdr.below;have hrow':=(hbw.block w15.heap.size hlt).trans hrow;have f':=Lib.frozen_of_heap hrow' 1;have x':w'.cell? ⟨w15.heap.size,1,none⟩=some (.int .i64 a1):=Lib.cell_of_heap hrow' 1)
      have hsz:=hbw.size
      have hrow2:(w'.setCell ⟨w15.heap.size,1,none⟩ (.int .i64 m1)).heap[w15.heap.size]? = some (.cells #[.int .i64 a0,.int .i64 m1,.int .i64 a2,.int .i64 a3] 83 (0,0)):=by simp [World.setCell,Array.getElem?_modify,hrow']
      go_roundw
      case rel=>exact⟨2,a0,m1,a2,a3,by omega,rfl,hrow2,(hnx.trans (hbw.mono (Nat.le_of_lt hlt))).setCell (p:=⟨w15.heap.size,1,none⟩) (Nat.le_refl _) _,by simp [World.setCell];omega,show(0<2→a0=m0)∧(1<2→m1=m1)∧(2<2→a2=m2)∧(3<2→a3=m3) from⟨fun h=>HA.out.1 (by omega),fun _=>rfl,fun h=>HA.out.2.2.1 (by omega),fun h=>HA.out.2.2.2 (by omega)⟩⟩
      case measure=>simp [RowKit.intOf]
    · go_wp2_with (go_at_call 65;(with_reducible refine(ic_.calls k _ m2 _ N2.out).mono ?_);rintro e w' ⟨rfl,hdr⟩;have hbw:=hdr.below;have hrow':=(hbw.block w15.heap.size hlt).trans hrow;have f':=Lib.frozen_of_heap hrow' 2;have x':w'.cell? ⟨w15.heap.size,2,none⟩=some (.int .i64 a2):=Lib.cell_of_heap hrow' 2)
      have hsz:=hbw.size
      have hrow2:(w'.setCell ⟨w15.heap.size,2,none⟩ (.int .i64 m2)).heap[w15.heap.size]? = some (.cells #[.int .i64 a0,.int .i64 a1,.int .i64 m2,.int .i64 a3] 83 (0,0)):=by simp [World.setCell,Array.getElem?_modify,hrow']
      go_roundw
      case rel=>exact⟨3,a0,a1,m2,a3,by omega,rfl,hrow2,(hnx.trans (hbw.mono (Nat.le_of_lt hlt))).setCell (p:=⟨w15.heap.size,2,none⟩) (Nat.le_refl _) _,by simp [World.setCell];omega,show(0<3→a0=m0)∧(1<3→a1=m1)∧(2<3→m2=m2)∧(3<3→a3=m3) from⟨fun h=>HA.out.1 (by omega),fun h=>HA.out.2.1 (by omega),fun _=>rfl,fun h=>HA.out.2.2.2 (by omega)⟩⟩
      case measure=>simp [RowKit.intOf]
    · go_wp2_with (go_at_call 65;(with_reducible refine(ic_.calls k _ m3 _ N3.out).mono ?_);rintro e w' ⟨rfl,hdr⟩;have hbw:=hdr.below;have hrow':=(hbw.block w15.heap.size hlt).trans hrow;have f':=Lib.frozen_of_heap hrow' 3;have x':w'.cell? ⟨w15.heap.size,3,none⟩=some (.int .i64 a3):=Lib.cell_of_heap hrow' 3)
      have hsz:=hbw.size
      have hrow2:(w'.setCell ⟨w15.heap.size,3,none⟩ (.int .i64 m3)).heap[w15.heap.size]? = some (.cells #[.int .i64 a0,.int .i64 a1,.int .i64 a2,.int .i64 m3] 83 (0,0)):=by simp [World.setCell,Array.getElem?_modify,hrow']
      go_roundw
      case rel=>exact⟨4,a0,a1,a2,m3,by omega,rfl,hrow2,(hnx.trans (hbw.mono (Nat.le_of_lt hlt))).setCell (p:=⟨w15.heap.size,3,none⟩) (Nat.le_refl _) _,by simp [World.setCell];omega,show(0<4→a0=m0)∧(1<4→a1=m1)∧(2<4→a2=m2)∧(3<4→m3=m3) from⟨fun h=>HA.out.1 (by omega),fun h=>HA.out.2.1 (by omega),fun h=>HA.out.2.2.1 (by omega),fun _=>rfl⟩⟩
      case measure=>simp [RowKit.intOf]
    have hA:=HA.out
    obtain rfl:m0=a0:=(hA.1 (by omega)).symm
    obtain rfl:m1=a1:=(hA.2.1 (by omega)).symm
    obtain rfl:m2=a2:=(hA.2.2.1 (by omega)).symm
    obtain rfl:m3=a3:=(hA.2.2.2 (by omega)).symm
    clear hA HA
    have BB:Hid (Below w.heap.size w wr):=((Below.refl w.heap.size w).grown g15 (Nat.le_refl _) (by simp)).trans (hnx.mono g15.size)
    have MW:=Lib.hid (XE.map_keep (w':=wr) MB.out (fun q c e hq _=>hnx.block q (XE.lt_of_heap hq)))
    obtain⟨v0,v1,q0,q1,q2⟩:=MW.out;clear q1 q2 MW MB HM;have hbl:=XE.lt_of_heap q0
    have Q0:=Lib.hid q0;clear q0
    go_wp2_with fail
    obtain⟨W0,hW0⟩ : ∃ W0,wr.alloc (.cells #[.slice none 0 0,.slice none 0 0] 25)=W0:=⟨_,rfl⟩
    rw [hW0]
    have x1:W0.cell? ⟨w15.heap.size,1,none⟩=some (.int .i64 m1):=by rw [← hW0];exact(World.cell?_alloc_old _ _ _ (Nat.ne_of_lt hlt)).trans ((Lib.cell_of_heap hrow 1).trans rfl)
    have x2:W0.cell? ⟨bw,2,none⟩=some (.string s1):=by rw [← hW0];exact e2 _
    have x3:W0.cell? ⟨bw,3,none⟩=some (.string s2):=by rw [← hW0];exact e3 _
    have zb:bw<W0.heap.size:=by rw [← hW0];simp;omega
    have za:w15.heap.size<W0.heap.size:=by rw [← hW0];simp;omega
    have hn0:W0.heap[wr.heap.size]? = some (.cells #[.slice none 0 0,.slice none 0 0] 25 (0,0)):=by rw [← hW0];exact heap_alloc_new _ _
    have hb0:Below wr.heap.size wr W0:=by rw [← hW0];exact(Below.refl _ _).alloc (Nat.le_refl _) _
    have zn:wr.heap.size<W0.heap.size:=by rw [← hW0];simp
    have HN0:=Lib.hid hn0;clear hn0 hW0
    go_region_held3 (fun w'=>w'.cell? ⟨w15.heap.size,1,none⟩=some (.int .i64 m1)∧w'.cell? ⟨bw,2,none⟩=some (.string s1)) (first|go_keep|exact⟨((XE.undrew hb3).cell (p:=⟨w15.heap.size,1,none⟩) za).trans x1,((XE.undrew hb3).cell (p:=⟨bw,2,none⟩) zb).trans x2⟩) ((go_at_call 66;refine(i6_.calls k m1 s1 T1 true _ H1.out).mono ?_;rintro e w3 ⟨y,rfl,y0,hb3⟩;obtain⟨A3,k3,rfl,hk3,_⟩:=Kd.R_reads y0))
    have hb3':=XE.undrew hb3;have aa:=hb3'.size
    have z1:=(hb3'.cell (p:=⟨w15.heap.size,1,none⟩) za).trans x1
    have z3:=(hb3'.cell (p:=⟨bw,3,none⟩) zb).trans x3
    have za3:=Nat.lt_of_lt_of_le za aa;have zb3:=Nat.lt_of_lt_of_le zb aa
    have Y0:=Lib.hid y0;clear y0 x1 x2 x3
    go_wp2_with fail
    go_region_held3 (fun w'=>w'.cell? ⟨w15.heap.size,1,none⟩=some (.int .i64 m1)∧w'.cell? ⟨bw,3,none⟩=some (.string s2)) (first|go_keep|exact⟨((XE.undrew hb4).cell (p:=⟨w15.heap.size,1,none⟩) za3).trans z1,((XE.undrew hb4).cell (p:=⟨bw,3,none⟩) zb3).trans z3⟩) ((go_at_call 66;refine(i6_.calls k m1 s2 U1 true _ H2.out).mono ?_;rintro e w4 ⟨y,rfl,y1,hb4⟩;obtain⟨A4,k4,rfl,hk4,_⟩:=Kd.R_reads y1))
    have hb4':=XE.undrew hb4;have aj:=hb4'.size
    have hB4:=hb0.trans ((hb3'.mono (by omega)).trans (hb4'.mono (by omega)))
    have hnb:w4.heap[wr.heap.size]? = some (.cells #[.slice none 0 0,.slice none 0 0] 25 (0,0)):=(hb4'.block _ (by omega)).trans ((hb3'.block _ zn).trans HN0.out)
    have g0:w4.cell? ⟨wr.heap.size,0,none⟩=some (.slice none 0 0):=(Lib.cell_of_heap hnb 0).trans rfl
    have g1:w4.cell? ⟨wr.heap.size,1,none⟩=some (.slice none 0 0):=(Lib.cell_of_heap hnb 1).trans rfl
    have fz0:=Lib.frozen_of_heap hnb 0;have fz1:=Lib.frozen_of_heap hnb 1
    have Y1:=Lib.hid y1;clear y1
    have Y0':=Lib.hid (rB Y0.out hb4');clear Y0
    have HNB:=Lib.hid hnb;clear hnb z1 z3 hb3 hb4
    have HQ:Hid (((w4.setCell ⟨wr.heap.size,0,none⟩ (.slice A3 T1.length k3)).setCell ⟨wr.heap.size,1,none⟩ (.slice A4 U1.length k4)).heap[wr.heap.size]? = some (.cells #[.slice A3 T1.length k3,.slice A4 U1.length k4] 25 (0,0))):=by
      have:=HNB.out
      show _=_
      simp [World.setCell,Array.getElem?_modify,this]
    have QC:=Lib.hid ((hB4.block b hbl).trans Q0.out)
    go_wp2_with (first
      | (go_at_call 24;(with_reducible refine(i5_.calls k (fun k_=>k_<((w4.setCell ⟨wr.heap.size,0,none⟩ (.slice A3 T1.length k3)).setCell ⟨wr.heap.size,1,none⟩ (.slice A4 U1.length k4)).heap.size) A3 k3 T1 (fun k_=>k_<((w4.setCell ⟨wr.heap.size,0,none⟩ (.slice A3 T1.length k3)).setCell ⟨wr.heap.size,1,none⟩ (.slice A4 U1.length k4)).heap.size) A4 k4 U1 true _ ?ca ?cb H3.out).mono ?_);(case ca=>exact Kd.V_mk hk3 (Kd.C_F (Kd.heap_int .i64) (XE.row_c (XE.row_of Y0'.out (Nat.zero_le _) (fun q c hc=>by rw [Below.heap_setCell _ _ _ _ (fun e=>by rw [e,HNB.out] at hc;simp at hc),Below.heap_setCell _ _ _ _ (fun e=>by rw [e,HNB.out] at hc;simp at hc)])))));(case cb=>exact Kd.V_mk hk4 (Kd.C_F (Kd.heap_int .i64) (XE.row_c (XE.row_of Y1.out (Nat.zero_le _) (fun q c hc=>by rw [Below.heap_setCell _ _ _ _ (fun e=>by rw [e,HNB.out] at hc;simp at hc),Below.heap_setCell _ _ _ _ (fun e=>by rw [e,HNB.out] at hc;simp at hc)])))));rintro e w5 ⟨rfl,hb5⟩;have hn5:=(hb5.block wr.heap.size (by simp [World.setCell];omega)).trans HQ.out;have l0:w5.cell? ⟨wr.heap.size,0,none⟩=some (.slice A3 T1.length k3):=(Lib.cell_of_heap hn5 0).trans rfl;have l1:w5.cell? ⟨wr.heap.size,1,none⟩=some (.slice A4 U1.length k4):=(Lib.cell_of_heap hn5 1).trans rfl;have HB5:=(hb5.block b (by simp [World.setCell];omega)).trans ((Below.heap_setCell _ _ _ _ (by show b≠wr.heap.size;omega)).trans ((Below.heap_setCell _ _ _ _ (by show b≠wr.heap.size;omega)).trans QC.out));have QD:=Lib.hid HB5;clear HB5 hn5)
      | (go_at_call 79;(with_reducible refine(XE.become_ok b A3 A4 T1.length U1.length k3 k4 #[v0,v1] _ rfl QD.out).mono ?_);rintro e w6 ⟨rfl,hb6,hg6⟩))
    go_ret
    exact⟨rfl,XE.finish hBw BB.out hB4 (Nat.le_refl _) HNB.out ⟨_,Q0.out⟩ (rL Y0'.out (by show wr.heap.size≤W0.heap.size;omega)) (rL Y1.out (by show wr.heap.size≤w3.heap.size;omega)) (XE.below_grown hb5 hg6) hb6⟩
theorem many_show:XC.many.atKey (.string [115,104,111,119]) (.lit (.int .i64 0)) = .lit (.int .i64 1):=by kernel_rfl
set_option maxHeartbeats 2000000 in
theorem cmd_show (k:Nat) (T U:List Int) (B b bw:Nat) (w:World) 
  (hm:XE.MapAt w B b T U) (hb:w.heap[bw]? = some (.cells ([⟨#[115,104,111,119]⟩].map Value.string).toArray 9 (0,0))) (hBb:B≤b) (hBw:B≤w.heap.size) (m0:Int) (n0:ic_.f k ⟨#[115,104,111,119]⟩=some m0) (s1 s2:ByteArray) (h1:i7_.f k T=some s1) (h2:i7_.f k U=some s2) (aa:s1.size≤100000) (ab:s2.size≤100000) :
  Calls Tryz.prog 34 #[.pointer (some ⟨b,0,none⟩),.slice (some ⟨bw,0,none⟩) 1 1] w fun e w'=>e = .returned (.string (s1 ++ ⟨#[32]⟩ ++ s2))∧Below w.heap.size w w':=by
  have b0:w.cell? ⟨bw,0,none⟩=some (.string ⟨#[115,104,111,119]⟩):=(Lib.cell_of_heap hb 0).trans rfl
  have hmm := @run_makeMap Tryz.prog
  obtain⟨w1,w2,w3,w4,w5,w6,w7,w8,w9,w10,w11,w12,w13,w14,w15,r1,r2,r3,r4,r5,r6,r7,r8,r9,ac,af,ag,ah,ai,aj,o15,g15⟩:=XC.laid w
  obtain⟨n,hrun,hat,_⟩:=o15.lookup_int XC.key80 XC.und80 XC.und3 (XC.zero3 _) (keyOf_string_mk XC.und9 (s:=⟨#[115,104,111,119]⟩) (by decide))
  have hn:n=1:=by
    have h:=many_show.symm.trans hat
    simp only [DataW.lit.injEq,Lit.int.injEq] at h
    exact h.2.symm
  subst hn
  have c0:=g15.cell b0 (by simp)
  clear hat o15
  have mb:=XE.map_keep (w':=w15) hm (fun q c e hq _=>g15.block q (XE.lt_of_heap hq) (by simp))
  have hz15:=g15.size
  have MB:=Lib.hid mb;clear mb
  have H1:=Lib.hid h1;clear h1
  have H2:=Lib.hid h2;clear h2
  have HM:=Lib.hid hm;clear hm
  have HB:=Lib.hid hb;clear hb
  have N0:=Lib.hid n0;clear n0
  go_enter Tryz.func34,Tryz.ntmps34
  go_wp2
  have blt:bw<w15.heap.size:=wL _ _ c0
  go_loopw [31] (fun i wr => ∃ (q:Nat) (a0 a1 a2 a3:Int),q≤1∧i = .int .i64 q∧wr.heap[w15.heap.size]? = some (.cells #[.int .i64 a0,.int .i64 a1,.int .i64 a2,.int .i64 a3] 83 (0,0))∧Below w15.heap.size w15 wr∧w15.heap.size<wr.heap.size∧Hid ((0<q→a0=m0)))
    (fun i _=>1 - (RowKit.intOf i).toNat)
  case atStart=>exact⟨0,0,0,0,0,by omega,rfl,heap_alloc_new _ _,(Below.refl _ _).alloc (Nat.le_refl _) _,by simp,show(0<0→(0:Int)=m0) from fun h=>absurd h (by omega)⟩
  case round =>
    obtain⟨q,a0,a1,a2,a3,hq,rfl,hrow,hnx,hlt,HA⟩:=hrel
    have d0:=(hnx.cell (p:=⟨bw,0,none⟩) blt).trans c0
    have bw':bw<wr.heap.size:=by omega
    have e0 : ∀ o,(wr.alloc o).cell? ⟨bw,0,none⟩=some (.string ⟨#[115,104,111,119]⟩):=fun o=>(World.cell?_alloc_old _ _ _ (Nat.ne_of_lt bw')).trans d0
    rcases (by omega:q=0∨q=1) with rfl|rfl
    · go_wp2_with (go_at_call 65;(with_reducible refine(ic_.calls k _ m0 _ N0.out).mono ?_);rintro e w' ⟨rfl,hdr⟩;have hbw:=hdr.below;have hrow':=(hbw.block w15.heap.size hlt).trans hrow;have f':=Lib.frozen_of_heap hrow' 0;have x':w'.cell? ⟨w15.heap.size,0,none⟩=some (.int .i64 a0):=Lib.cell_of_heap hrow' 0)
      have hsz:=hbw.size
      have hrow2:(w'.setCell ⟨w15.heap.size,0,none⟩ (.int .i64 m0)).heap[w15.heap.size]? = some (.cells #[.int .i64 m0,.int .i64 a1,.int .i64 a2,.int .i64 a3] 83 (0,0)):=by simp [World.setCell,Array.getElem?_modify,hrow']
      go_roundw
      case rel=>exact⟨1,m0,a1,a2,a3,by omega,rfl,hrow2,(hnx.trans (hbw.mono (Nat.le_of_lt hlt))).setCell (p:=⟨w15.heap.size,0,none⟩) (Nat.le_refl _) _,by simp [World.setCell];omega,show(0<1→m0=m0) from fun _=>rfl⟩
      case measure=>simp [RowKit.intOf]
    have hA:=HA.out
    obtain rfl:m0=a0:=(hA (by omega)).symm
    clear hA HA
    have BB:Hid (Below w.heap.size w wr):=((Below.refl w.heap.size w).grown g15 (Nat.le_refl _) (by simp)).trans (hnx.mono g15.size)
    have MW:=Lib.hid (XE.map_keep (w':=wr) MB.out (fun q c e hq _=>hnx.block q (XE.lt_of_heap hq)))
    obtain⟨v0,v1,q0,q1,q2⟩:=MW.out;obtain⟨A1,k1,rfl,hk1,hC1⟩:=Kd.R_reads q1;obtain⟨A2,k2,rfl,hk2,hC2⟩:=Kd.R_reads q2;clear q1 q2 MW MB HM;have hbl:=XE.lt_of_heap q0
    have f0 : ∀ o,(wr.alloc o).cell? ⟨b,0,none⟩=some (.slice A1 T.length k1):=fun o=>(World.cell?_alloc_old _ _ _ (Nat.ne_of_lt hbl)).trans ((Lib.cell_of_heap q0 0).trans rfl)
    have f1 : ∀ o,(wr.alloc o).cell? ⟨b,1,none⟩=some (.slice A2 U.length k2):=fun o=>(World.cell?_alloc_old _ _ _ (Nat.ne_of_lt hbl)).trans ((Lib.cell_of_heap q0 1).trans rfl)
    have Q0:=Lib.hid q0;clear q0
    go_wp2_with fail
    obtain⟨W0,hW0⟩ : ∃ W0,wr.alloc (.cells #[.slice none 0 0,.slice none 0 0] 25)=W0:=⟨_,rfl⟩
    rw [hW0]
    have x1:W0.cell? ⟨b,0,none⟩=some (.slice A1 T.length k1):=by rw [← hW0];exact f0 _
    have x2:W0.cell? ⟨b,1,none⟩=some (.slice A2 U.length k2):=by rw [← hW0];exact f1 _
    have C1:=Lib.hid (show Kd.C (Kd.int .i64) W0 A1 T.length T by rw [← hW0];exact cA hC1 _)
    have C2:=Lib.hid (show Kd.C (Kd.int .i64) W0 A2 U.length U by rw [← hW0];exact cA hC2 _)
    have hb0:Below wr.heap.size wr W0:=by rw [← hW0];exact(Below.refl _ _).alloc (Nat.le_refl _) _
    have zb:b<W0.heap.size:=by rw [← hW0];simp;omega
    have hsz:(s1 ++ ⟨#[32]⟩:ByteArray).size≤100001:=by rw [ByteArray.size_append,show(⟨#[32]⟩:ByteArray).size=1 from rfl];omega
    have ak : ¬ 9223372036854775807<s1.size+1:=by omega
    have al : ¬ 9223372036854775807<s1.size+1+s2.size:=by omega
    clear hW0 hC1 hC2 f0 f1
    go_region_held3 (fun w'=>w'.cell? ⟨b,0,none⟩=some (.slice A1 T.length k1)∧w'.cell? ⟨b,1,none⟩=some (.slice A2 U.length k2))
      (first|go_keep|exact⟨((XE.undrew hb3).cell (p:=⟨b,0,none⟩) zb).trans x1,((XE.undrew hb3).cell (p:=⟨b,1,none⟩) zb).trans x2⟩|exact⟨(hb4.cell (p:=⟨b,0,none⟩) (Nat.lt_of_lt_of_le zb (XE.undrew hb3).size)).trans (((XE.undrew hb3).cell (p:=⟨b,0,none⟩) zb).trans x1),(hb4.cell (p:=⟨b,1,none⟩) (Nat.lt_of_lt_of_le zb (XE.undrew hb3).size)).trans (((XE.undrew hb3).cell (p:=⟨b,1,none⟩) zb).trans x2)⟩)
      ((first
        | (go_at_call 37;(with_reducible refine(i7_.calls k A1 k1 T s1 _ ?ca hk1 H1.out).mono ?_);(case ca=>exact cD C1.out);rintro e w3 ⟨rfl,hb3⟩)
        | (go_at_call 37;(with_reducible refine(i7_.calls k A2 k2 U s2 _ ?cb hk2 H2.out).mono ?_);(case cb=>exact cB C2.out (XE.undrew hb3));rintro e w4 ⟨rfl,hb4⟩)))
    all_goals
      go_wp2
      go_ret
      exact⟨rfl,BB.out.trans ((hb0.trans (((XE.undrew hb3).mono (by have:=hb0.size;omega)).trans (hb4.mono (by have:=hb0.size;have:=(XE.undrew hb3).size;omega)))).mono BB.out.size)⟩
def cmdF (k:Nat) (T U:List Int):List ByteArray→Option (ByteArray×List Int×List Int)
  | [a]=>if a=⟨#[115,104,111,119]⟩ then ((ic_.f k a).bind fun _=>(i7_.f k T).bind fun x=>(i7_.f k U).bind fun y=>if x.size≤100000∧y.size≤100000 then some (x ++ ⟨#[32]⟩ ++ y,T,U) else none) else (none)
  | [a,d]=>if a=⟨#[99,111,110,116,114,97,99,116]⟩ then ((ic_.f k a).bind fun _=>(ic_.f k d).bind fun n=>(i2_.f k T U n).bind fun r=>if r.2.2=true then some (⟨#[111,107]⟩,r.1,r.2.1) else none) else (none)
  | [a,d,s1,s2]=>if a=⟨#[109,97,112]⟩ then ((ic_.f k a).bind fun _=>(ic_.f k d).bind fun n=>(ic_.f k s1).bind fun _=>(ic_.f k s2).bind fun _=>(i6_.f k n s1).bind fun x=>(i6_.f k n s2).bind fun y=>if x.2=true∧y.2=true then (i5_.f k x.1 y.1).bind fun v=>(if v=true then some (⟨#[111,107]⟩,x.1,y.1) else none) else none) else (none)
  | _=>none
theorem cmd_good (k:Nat):XE.Good (cmdF k):=by
  intro T U ws r B b bw w h hm hb hBb hBw
  unfold cmdF at h
  split at h
  · rename_i a
    by_cases h_:a=⟨#[115,104,111,119]⟩
    · subst h_
      rw [if_pos rfl] at h;obtain⟨m0,n0,h⟩:=Option.bind_eq_some_iff.1 h;obtain⟨x,h1,h⟩:=Option.bind_eq_some_iff.1 h;obtain⟨y,h2,h⟩:=Option.bind_eq_some_iff.1 h
      split at h
      · rename_i hs
        obtain rfl:=sI h
        refine(cmd_show k T U B b bw w hm hb hBb hBw m0 n0 x y h1 h2 hs.1 hs.2).mono ?_
        rintro e w' ⟨he,hB⟩
        exact⟨he,XE.map_keep hm (fun q c e hq _=>hB.block q (XE.lt_of_heap hq)),⟨hB.os,hB.tape,hB.output,hB.size,fun q hq _=>hB.block q hq⟩⟩
      cases h
    rw [if_neg h_] at h;clear h_
    cases h
  · rename_i a d
    by_cases h_:a=⟨#[99,111,110,116,114,97,99,116]⟩
    · subst h_
      rw [if_pos rfl] at h;obtain⟨m0,n0,h⟩:=Option.bind_eq_some_iff.1 h;obtain⟨m1,n1,h⟩:=Option.bind_eq_some_iff.1 h;obtain⟨⟨T1,U1,ok⟩,hd,h⟩:=Option.bind_eq_some_iff.1 h
      split at h
      · rename_i hok
        obtain rfl:ok=true:=hok
        obtain rfl:=sI h
        exact cmd_contract k T U B b bw d w T1 U1 hm hb hBb hBw m0 n0 m1 n1 hd
      cases h
    rw [if_neg h_] at h;clear h_
    cases h
  · rename_i a d s1 s2
    by_cases h_:a=⟨#[109,97,112]⟩
    · subst h_
      rw [if_pos rfl] at h;obtain⟨m0,n0,h⟩:=Option.bind_eq_some_iff.1 h;obtain⟨m1,n1,h⟩:=Option.bind_eq_some_iff.1 h;obtain⟨m2,n2,h⟩:=Option.bind_eq_some_iff.1 h;obtain⟨m3,n3,h⟩:=Option.bind_eq_some_iff.1 h;obtain⟨⟨T1,o1⟩,h1,h⟩:=Option.bind_eq_some_iff.1 h;obtain⟨⟨U1,o2⟩,h2,h⟩:=Option.bind_eq_some_iff.1 h
      split at h
      · rename_i hs
        obtain⟨rfl,rfl⟩:o1=true∧o2=true:=hs
        obtain⟨v,h3,h⟩:=Option.bind_eq_some_iff.1 h
        split at h
        · rename_i hv
          subst hv;obtain rfl:=sI h
          exact cmd_map k T U B b bw d s1 s2 w T1 U1 hm hb hBb hBw m0 n0 m1 n1 m2 n2 m3 n3 h1 h2 h3
        cases h
      cases h
    rw [if_neg h_] at h;clear h_
    cases h
  cases h
end impl_Execute
def impl_Execute.f (k:Nat) (a0:ByteArray):Option ByteArray:=if a0.size≤500 then (XE.go (impl_Execute.cmdF k) (XE.linesOf a0).dropLast [1,0] [1,0] ⟨#[]⟩).bind fun r=>(if r.1.length<100 then some (r.2.2 ++ (⟨#[100,97,114,116,115,32]⟩ ++ ⟨(Lib.decDigits r.1.length).toArray⟩ ++ ⟨#[10]⟩)) else none) else none
theorem impl_Execute.calls (k:Nat) (a0:ByteArray) (r:ByteArray) (w:World) (h:impl_Execute.f k a0=some r):Calls Tryz.prog 10 #[.string a0] w fun e w'=>e = .returned (.string r)∧Below w.heap.size w w':=by
  unfold impl_Execute.f at h
  split at h
  · rename_i ha
    obtain⟨⟨T,U,o⟩,h1,h2⟩:=Option.bind_eq_some_iff.1 h
    split at h2
    · rename_i hT
      obtain rfl:=sI h2
      exact XE.exec _ (impl_Execute.cmd_good k) a0 o T U w ha hT h1
    cases h2
  cases h
def lh_.f:Nat→Int→Option (ByteArray)
  | 0,_=>none
  | k+1,a0=>if a0<10 then (some (strOfNums (([(wrap64 (48+a0)) % 256]:List Int)))) else ((lh_.f k (wrap64 (Int.tdiv a0 10))).bind fun aa=>((some (([(wrap64 (48+(Int.tmod a0 10))) % 256]:List Int):List Int)).bind fun ab=>(if aa.size+(strOfNums ab).size≤9223372036854775807 then (some (aa ++ (strOfNums ab))) else (none))))
def lh_.T3:Bool×List (List Nat×List Nat):=(true,[([],[]),([0],[0]),([1],[1]),([],[]),([3],[3]),([4],[4]),([5],[5]),([6],[6]),([7],[7]),([2,8],[2,8]),([9,2,0,1,2,3,4,5,6,7,8,9],[9])])
def lh_.B3:List Nat := [0,1,3,0,8,24,56,120,248,511,1023]
theorem lh_.tab3:rtab .any (opsOf Tryz.f17 3)=lh_.T3:=by kernel_rfl
theorem lh_.bits3:waitsOk lh_.T3.2 lh_.B3=true:=by kernel_rfl
theorem lh_.calls (k:Nat) : ∀ (a0:Int) (r:ByteArray) (w:World) (h:lh_.f k a0=some r),
    Calls Tryz.prog 17 #[.int .i64 a0] w fun e w'=>e = .returned (.string r)∧Below w.heap.size w w':=by
 induction k using Nat.strongRecOn with
 | _ k ih =>
 intro a0 r w h
 cases k with
 | zero=>exact absurd h (by simp [lh_.f])
 | succ k =>
 simp only [lh_.f] at h
 have HB:=A0_ (Below.refl w.heap.size w)
 have H:(if a0<10 then (some (strOfNums (([(wrap64 (48+a0)) % 256]:List Int)))) else ((lh_.f k (wrap64 (Int.tdiv a0 10))).bind fun ab=>((some (([(wrap64 (48+(Int.tmod a0 10))) % 256]:List Int):List Int)).bind fun ac=>(if ab.size+(strOfNums ac).size≤9223372036854775807 then (some (ab ++ (strOfNums ac))) else (none)))))=some r:=h
 clear h
 by_cases c2:a0<10
 ·rw [if_pos c2] at H
  have ao:=dT c2;clear c2
  obtain⟨ap,aj⟩ : ∃ y_:List Int,y_=(([(wrap64 (48+a0)) % 256]:List Int)):=⟨_,rfl⟩
  replace H:(some (strOfNums ap))=some r:=zH aj H
  have am:=A0_ aj;clear aj;obtain rfl:=sI H
  go_enter Tryz.func17,Tryz.ntmps17
  go_wp2_with (first|((with_reducible refine gD (N:=8) rfl ?_);refine Kd.R_lit (Kd.int .u8) _ 5 ?hg (N:=8) ?hd (xs:=([(wrap64 (48+a0)) % 256]:List Int)) (inner := [.int .u8 ((wrap64 (48+a0)) % 256)]) (ok:=fun _=>True) (okp:=fun _=>True) ?hr ?hp (fun _ hk=>hk) trivial (Below.refl _ _) (Nat.le_refl _) (by simp) ?_;(case hd=>rfl);(case hg=>rfl);(case hr=>first|(go_simp;done)|(go_simp;rfl));(case hp=>exact(Reps.one (show Kd.M (Kd.int .u8) _ _ _ ((wrap64 (48+a0)) % 256) [.int .u8 ((wrap64 (48+a0)) % 256)] from rfl) (Reps.none _ _)));intro aq w3 al hb hg_ hnew_;clear hg_ hnew_;(first|rw [← am.out] at al|(simp only [Int.reduceToNat] at al;rw [← am.out] at al));have an:=A0_ (rL al (bZ (zB_ HB)));replace HB:=zB HB hb;clear hb al;have hcv5:=own_string (P:=Tryz.prog) Tryz.underlying22 Tryz.underlying5 Tryz.underlying9 (Kd.own_of_R an.out)))
  go_ret
  exact⟨by first|rfl|(simp [*] <;> rfl),zB_ HB⟩
 rw [if_neg c2] at H;have ao:=dF c2;clear c2;obtain⟨ab,A6,H⟩:=zbind H
 obtain⟨ac,ak⟩ : ∃ y_:List Int,y_=(([(wrap64 (48+(Int.tmod a0 10))) % 256]:List Int)):=⟨_,rfl⟩
 replace H:(if ab.size+(strOfNums ac).size≤9223372036854775807 then (some (ab ++ (strOfNums ac))) else (none))=some r:=zH ak H
 have ag:=A0_ ak;clear ak
 have c7:=zpc H;replace H:=zph H
 have ar:=eq_true c7;have au:=dT c7
 try have av:(9223372036854775807<ab.size+(strOfNums ac).size)=False:=eq_false (Nat.not_lt.2 c7)
 obtain⟨zs8,hzs8⟩ : ∃ j_:ByteArray,(ab ++ (strOfNums ac))=j_:=⟨_,rfl⟩
 replace H:(some zs8)=some r:=by first|(rw [hzs8] at H;exact H)|(simp only [hzs8] at H ⊢;exact H)|exact H
 (try rw [hzs8] at A6)
 obtain rfl:=sI H
 go_enter Tryz.func17,Tryz.ntmps17
 try go_wp2
 replace HB:=A0_ (bD HB.out)
 refine start_ (n:=11) (S:=fun w'=>True) (ds := []) (bs 11 0) (by kernel_rfl) rfl rfl trivial (fun hHeld => ?_);refine with_tabW lh_.tab3 lh_.bits3 (fun HT_ HW_ => ?_)
 generalize w.drew=w9 at HB hHeld ⊢
 refine zP 0 (some 10) (bs 11 1) ?_
 refine zP 1 (some 11) (bs 11 3) ?_
 refine zP 3 (some 13) (bs 11 11) ?_
 refine zP 4 (some 14) (bs 11 27) ?_
 refine zP 5 (some 15) (bs 11 59) ?_
 refine zP 6 (some 16) (bs 11 123) ?_
 refine join_ (σ:=Value) 2 (bs 11 511) (fun s_ => [(12,.string ab),(17,s_),(18,.string (strOfNums ac))]) (fun s_ w'=>(Kd.R (Kd.int .u8) 5 w' w.heap.size (fun _=>True) s_ ac)∧(Below w.heap.size w w')) ?_ ?_
 rotate_left
 ·intro hCont
  refine two_ (i:=2) (j:=7) (Ni:=some 12) (Nj:=some 17) (bs 11 127) (bs 11 251) rfl rfl rfl rfl (two_of HT_.out (by kernel_rfl)) (by decide) (by decide) (fun K hK => ?_) (fun K hK => ?_)
  ·skip
   refine zg Tryz.func17 #[.int .i64 (wrap64 (Int.tdiv a0 10))] ?_
   with_reducible refine(ih k (by omega) (wrap64 (Int.tdiv a0 10)) ab _ A6.out).mono ?_
   rintro e w10 ⟨rfl,hb⟩
   refine⟨_,rfl,?_⟩
   replace HB:=zB HB hb;(try clear hb)
   refine hK.out _ _ trivial (fun hHeld => ?_)
   clear hK K
   refine zN (some 12) ?_
   refine one_ (i:=7) (N:=some 17) (bs 11 255) rfl rfl (one_of HT_.out (by kernel_rfl)) (by decide) (fun K hK => ?_)
   refine Kd.R_lit_step (Kd.int .u8) _ 5 ?hg (N:=17) ?hd (xs:=([(wrap64 (48+(Int.tmod a0 10))) % 256]:List Int)) (inner := [.int .u8 ((wrap64 (48+(Int.tmod a0 10))) % 256)]) (ok:=fun _=>True) (okp:=fun _=>True) ?hr ?hp (fun _ hk=>hk) trivial (Below.refl _ _) (Nat.le_refl _) (by simp) ?_;(case hd=>rfl);(case hg=>rfl);(case hr=>first|(go_simp;done)|(go_simp;rfl));(case hp=>exact(Reps.one (show Kd.M (Kd.int .u8) _ _ _ ((wrap64 (48+(Int.tmod a0 10))) % 256) [.int .u8 ((wrap64 (48+(Int.tmod a0 10))) % 256)] from rfl) (Reps.none _ _)))
   intro af w11 ah hb hg_ hnew_
   clear hg_ hnew_
   (first|rw [← ag.out] at ah|(simp only [Int.reduceToNat] at ah;rw [← ag.out] at ah))
   have aa:=A0_ (rL ah (bZ (zB_ HB)))
   replace HB:=zB HB hb;clear hb ah
   refine hK.out _ _ trivial (fun hHeld => ?_)
   clear hK K
   refine zN (some 17) ?_
   refine one_ (i:=8) (N:=some 18) (bs 11 511) rfl rfl (one_of HT_.out (by kernel_rfl)) (by decide) (fun K hK => ?_)
   have hcv13:=own_string (P:=Tryz.prog) Tryz.underlying22 Tryz.underlying5 Tryz.underlying9 (Kd.own_of_R aa.out)
   refine value_ (w1 := ?_) (v := ?_) (by rfl) rfl ?_ ?_
   rotate_left 2
   ·go_simp
    constructor
    ·rfl
    rfl
   clear hcv13
   refine hK.out _ _ trivial (fun hHeld => ?_)
   clear hK K
   refine zN (some 18) ?_
   exact norm_ zA (hCont (af) _ ⟨(zR_ aa),(zB_ HB)⟩)
  skip
  refine Kd.R_lit_step (Kd.int .u8) _ 5 ?hg (N:=17) ?hd (xs:=([(wrap64 (48+(Int.tmod a0 10))) % 256]:List Int)) (inner := [.int .u8 ((wrap64 (48+(Int.tmod a0 10))) % 256)]) (ok:=fun _=>True) (okp:=fun _=>True) ?hr ?hp (fun _ hk=>hk) trivial (Below.refl _ _) (Nat.le_refl _) (by simp) ?_;(case hd=>rfl);(case hg=>rfl);(case hr=>first|(go_simp;done)|(go_simp;rfl));(case hp=>exact(Reps.one (show Kd.M (Kd.int .u8) _ _ _ ((wrap64 (48+(Int.tmod a0 10))) % 256) [.int .u8 ((wrap64 (48+(Int.tmod a0 10))) % 256)] from rfl) (Reps.none _ _)))
  intro af w10 ai hb hg_ hnew_
  clear hg_ hnew_
  (first|rw [← ag.out] at ai|(simp only [Int.reduceToNat] at ai;rw [← ag.out] at ai))
  have aa:=A0_ (rL ai (bZ (zB_ HB)))
  replace HB:=zB HB hb;clear hb ai
  refine hK.out _ _ trivial (fun hHeld => ?_)
  clear hK K
  refine zN (some 17) ?_
  refine two_ (i:=2) (j:=8) (Ni:=some 12) (Nj:=some 18) (bs 11 255) (bs 11 507) rfl rfl rfl rfl (two_of HT_.out (by kernel_rfl)) (by decide) (by decide) (fun K hK => ?_) (fun K hK => ?_)
  ·skip
   refine zg Tryz.func17 #[.int .i64 (wrap64 (Int.tdiv a0 10))] ?_
   with_reducible refine(ih k (by omega) (wrap64 (Int.tdiv a0 10)) ab _ A6.out).mono ?_
   rintro e w12 ⟨rfl,hb⟩
   refine⟨_,rfl,?_⟩
   replace aa:=zR aa hb;replace HB:=zB HB hb;(try clear hb);(try clear hk)
   refine hK.out _ _ trivial (fun hHeld => ?_)
   clear hK K
   refine zN (some 12) ?_
   refine one_ (i:=8) (N:=some 18) (bs 11 511) rfl rfl (one_of HT_.out (by kernel_rfl)) (by decide) (fun K hK => ?_)
   have hcv13:=own_string (P:=Tryz.prog) Tryz.underlying22 Tryz.underlying5 Tryz.underlying9 (Kd.own_of_R aa.out)
   refine value_ (w1 := ?_) (v := ?_) (by rfl) rfl ?_ ?_
   rotate_left 2
   ·go_simp
    constructor
    ·rfl
    rfl
   clear hcv13
   refine hK.out _ _ trivial (fun hHeld => ?_)
   clear hK K
   refine zN (some 18) ?_
   exact norm_ zA (hCont (af) _ ⟨(zR_ aa),(zB_ HB)⟩)
  skip
  have hcv12:=own_string (P:=Tryz.prog) Tryz.underlying22 Tryz.underlying5 Tryz.underlying9 (Kd.own_of_R aa.out)
  refine value_ (w1 := ?_) (v := ?_) (by rfl) rfl ?_ ?_
  rotate_left 2
  ·go_simp
   constructor
   ·rfl
   rfl
  clear hcv12
  refine hK.out _ _ trivial (fun hHeld => ?_)
  clear hK K
  refine zN (some 18) ?_
  refine one_ (i:=2) (N:=some 12) (bs 11 511) rfl rfl (one_of HT_.out (by kernel_rfl)) (by decide) (fun K hK => ?_)
  refine zg Tryz.func17 #[.int .i64 (wrap64 (Int.tdiv a0 10))] ?_
  with_reducible refine(ih k (by omega) (wrap64 (Int.tdiv a0 10)) ab _ A6.out).mono ?_
  rintro e w13 ⟨rfl,hb⟩
  refine⟨_,rfl,?_⟩
  replace aa:=zR aa hb;replace HB:=zB HB hb;(try clear hb);(try clear hk)
  refine hK.out _ _ trivial (fun hHeld => ?_)
  clear hK K
  refine zN (some 12) ?_
  exact norm_ zA (hCont (af) _ ⟨(zR_ aa),(zB_ HB)⟩)
 rintro af w14 ⟨h0_,h1_⟩
 have aa:Aside0 (Kd.R (Kd.int .u8) 5 w14 w.heap.size (fun _=>True) af ac):=⟨h0_⟩
 replace HB:Aside0 (Below w.heap.size w w14):=⟨h1_⟩
 clear h0_ h1_;have hHeld:=trivial
 refine norm_ (a' := ?_) ?_ ?_
 rotate_left
 ·simp only [putAll,Act.put,List.setIfInBounds_toArray,List.set_cons_zero,List.set_cons_succ]
  rfl
 refine zP 9 (some 19) (bs 11 1023) ?_
 refine zP 10 (some 2) (bs 11 2047) ?_
 refine done_ (done_of HT_.out (by kernel_rfl)) ?_
 try go_wp2
 go_ret
 exact⟨by first|rfl|(simp [*] <;> rfl),zB_ HB⟩
end Go.Proofs.YtjebcgbmlbemcaaGreatDoor.PFnExecuteContract
