/- One Go function comes to what its Lean function tells. -/
import Derived.Test.YtfblcanijhnhmaaP0
import Derived.Test.YtfblcanijhnhmaaPspecl1Span
namespace Go.Proofs.Ytfblcanijhnhmaa.P
open Go.RowKit YtfblcanijhnhmaaW.PrintWords YtfblcanijhnhmaaW.PrintLast YtfblcanijhnhmaaW.PrintMore
set_option linter.unusedVariables false
set_option linter.unusedSimpArgs false
/-! ### spec_l1Terms: function 52 -/
def spec_l1Terms.l0:Nat→List Int→List Int→List (List Int)→Int→Option (List Int × (List (List Int)))
 | 0,_,_,_,_=>none
 | k+1,x0,x4,x5,x6=>if x6<(x0.length:Int) then((spec_l1Span.f k x0 (wrap64 (x6+1))).bind fun t118=>(if 0≤x6 then(if x4.length<17592186044416 then(if 0≤(wrap64 (x6+1)) then(if(wrap64 (x6+1))≤t118 then(if t118≤(x0.length:Int) then(if x5.length<5864062014805 then(spec_l1Terms.l0 k x0 (x4++[rd x0 x6]) (x5++[((x0.take (t118:Int).toNat).drop ((wrap64 (x6+1)):Int).toNat)]) t118) else(none)) else(none)) else(none)) else(none)) else(none)) else(none))) else(some (x4,x5))
def spec_l1Terms.f (k:Nat)(l0:List Int):Option (List Int × (List (List Int))):=spec_l1Terms.l0 k l0 (([]:List Int)) (([]:List (List Int))) 1
theorem spec_l1Terms.mono_l:∀ k,(∀ y0 y1 y2 y3,LeO (spec_l1Terms.l0 k y0 y1 y2 y3) (spec_l1Terms.l0 (k+1) y0 y1 y2 y3))
 | 0=>fun _ _ _ _ r h=>by simp[spec_l1Terms.l0] at h
 | k+1=>by
  have ih0:=spec_l1Terms.mono_l k
  ·intro y0 y1 y2 y3
   unfold spec_l1Terms.l0
   repeat' first|(with_reducible first|exact ih0 _ _ _ _|exact spec_l1Span.mono _ _ _|exact LeO.refl _|exact LeO.none _|refine LeO.ite ?_ ?_|refine LeO.bind ?_ (fun _=>?_))|exact ih0 _ _ _ _|exact spec_l1Span.mono _ _ _|exact LeO.none _|refine LeO.ite ?_ ?_|refine LeO.bind ?_ (fun _=>?_)
theorem spec_l1Terms.mono:∀ a0 k,LeO (spec_l1Terms.f k a0) (spec_l1Terms.f (k+1) a0):=by
 intro a0 k;have ih0:=spec_l1Terms.mono_l k;unfold spec_l1Terms.f
 repeat' first|(with_reducible first|exact ih0 _ _ _ _|exact LeO.refl _|exact LeO.none _|refine LeO.ite ?_ ?_|refine LeO.bind ?_ (fun _=>?_))|exact ih0 _ _ _ _|exact LeO.none _|refine LeO.ite ?_ ?_|refine LeO.bind ?_ (fun _=>?_)
set_option maxHeartbeats 8000000 in
set_option maxRecDepth 100000 in
theorem spec_l1Terms.calls (k:Nat)(P0_:Nat→Prop)(A0:Option Addr)(c0:Nat)(l0:List Int)(r1:List Int)(r2:List (List Int))(w:World)(hs0:Kd.V (Kd.int .i64) 3 w w.heap.size (fun k_=>P0_ k_) (.slice A0 l0.length c0) l0)(h:spec_l1Terms.f k l0=some (r1,r2)) :
  Calls Try.prog 52 #[.slice A0 l0.length c0] w fun e w'=>∃ v0_ v1_:Value,e=.returned (.tuple #[v0_,v1_])∧Kd.R (Kd.int .i64) 3 w' w.heap.size (fun k_=>(w.heap.size≤k_)) v0_ r1∧Kd.N (Kd.slice 3 (Kd.int .i64)) 22 w' w.heap.size (fun k_=>(P0_ k_∨w.heap.size≤k_)∧some k_≠(v0_:Value).ownBlock) v1_ r2∧Below w.heap.size w w':=by
 have HO0:=Sd.mk (show Kd.V (Kd.int .i64) 3 w w.heap.size (fun k_=>(P0_ k_∨w.heap.size≤k_)) (.slice A0 l0.length c0) l0 from Kd.V_mono hs0 (fun k_ hk=>.inl hk));have HB:=Sd.mk (Below.refl w.heap.size w);have H:(spec_l1Terms.l0 k l0 (([]:List Int)) (([]:List (List Int))) 1)=some (r1,r2):=h;clear h;obtain⟨y112,hy112⟩:∃ y_:List Int,y_=(([]:List Int)):=⟨_,rfl⟩;replace H:(spec_l1Terms.l0 k l0 y112 (([]:List (List Int))) 1)=some (r1,r2):=hz hy112 H;have Ny112:=Sd.mk hy112;clear hy112;obtain⟨y115,hy115⟩:∃ y_:List (List Int),y_=(([]:List (List Int))):=⟨_,rfl⟩;replace H:(spec_l1Terms.l0 k l0 y112 y115 1)=some (r1,r2):=hz hy115 H;have Ny115:=Sd.mk hy115;clear hy115;have H':=Sd.mk H;clear H;go_enter Try.func52,Try.ntmps52;go_wp2_with (first|((with_reducible refine gate_dst (N:=8) rfl ?_);refine Kd.R_lit (Kd.int .i64) _ 3 ?hg (N:=8) ?hd (xs:=([]:List Int)) (inner:=[]) (ok:=fun _=>True) (okp:=fun _=>True) ?hr ?hp (fun _ hk=>hk) trivial (Below.refl _ _) (Nat.le_refl _) (by simp) ?_;(case hd=>rfl);(case hg=>rfl);(case hr=>first|(go_simp;done)|(go_simp;rfl));(case hp=>exact(Reps.none _ _));intro v113 w2 ho3 hb hg_ hnew_;clear hg_ hnew_;(first|rw[← Ny112.out] at ho3|(simp only[Int.reduceToNat] at ho3;rw[← Ny112.out] at ho3));replace HO0:=Sd.mk (Kd.V_elder' (Kd.Vz HO0.out) (Kd.R_base ho3) hb);have HO114:=Sd.mk (Kd.R_lower (Kd.R_newM (M:=fun k_=>(w.heap.size≤k_)) ho3 (below_size bz) (fun k_ h_=>h_)) (below_size bz));replace HB:=Sd.mk (below_step bz hb);clear hb ho3)|((with_reducible refine gate_dst (N:=9) rfl ?_);refine Kd.N_lit (Kd.slice 3 (Kd.int .i64)) _ 22 ?hg (N':=9) ?hd (xs:=([]:List (List Int))) (inner:=[]) (ok:=(fun k_=>(P0_ k_∨w.heap.size≤k_)∧some k_≠(v113:Value).ownBlock)) (okp:=(fun k_=>(P0_ k_∨w.heap.size≤k_)∧some k_≠(v113:Value).ownBlock)) ?hr ?hp (fun _ hk=>hk) ((show ∀ k_,w2.heap.size≤k_→(fun k_=>(P0_ k_∨w.heap.size≤k_)∧some k_≠(v113:Value).ownBlock) k_ from fun k_ hk=>⟨(.inr (Nat.le_trans (below_size bz) hk)),Kd.fresh' (Kd.R_lt (Kd.Rz HO114.out)) k_ hk⟩) _ (Nat.le_refl _)) (Below.refl _ _) (Nat.le_refl _) (by simp) ?_;(case hd=>rfl);(case hg=>rfl);(case hr=>first|(go_simp;done)|(go_simp;rfl));(case hp=>exact(Reps.none _ _));intro v116 w4 ho5 hb hg_ hnew_;clear hg_ hnew_;(first|rw[← Ny115.out] at ho5|(simp only[Int.reduceToNat] at ho5;rw[← Ny115.out] at ho5));replace HO0:=Sd.mk (Kd.V_elder' (Kd.Vz HO0.out) (Kd.N_base ho5) hb);replace HO114:=Sd.mk (Kd.R_below (Kd.Rz HO114.out) hb);have HO117:=Sd.mk (Kd.N_lower ho5 (below_size bz));replace HB:=Sd.mk (below_step bz hb);clear hb ho5))
 go_loopg [4,5,6] k (fun kq v4 v5 v6 w'=>∃ (x4_1:List Int) (x5_1:List (List Int)) (x6_1:Int),v6=.int .i64 x6_1∧Sd (spec_l1Terms.l0 kq l0 x4_1 x5_1 x6_1=some (r1,r2))∧Sd (kq≤k)∧Sd (Kd.V (Kd.int .i64) 3 w' w.heap.size (fun k_=>(P0_ k_∨w.heap.size≤k_)∧some k_≠(v4:Value).ownBlock∧some k_≠(v5:Value).ownBlock) (.slice A0 l0.length c0) l0)∧Sd (Kd.R (Kd.int .i64) 3 w' w.heap.size (fun k_=>(w.heap.size≤k_)) v4 x4_1)∧Sd (Kd.N (Kd.slice 3 (Kd.int .i64)) 22 w' w.heap.size (fun k_=>(P0_ k_∨w.heap.size≤k_)∧some k_≠(v4:Value).ownBlock) v5 x5_1)∧Sd (Below w.heap.size w w'))
 case atStart=>exact⟨(y112),(y115),(1),(by first|rfl|(simp;done)|(simp[*];done)),H',⟨Nat.le_refl _⟩,⟨Kd.Vz <| Kd.V_mono HO0.out (fun _ hk=>⟨hk.1.1,⟨hk.1.2,hk.2⟩⟩)⟩,⟨Kd.Rz <| Kd.R_mono HO114.out (fun _ hk=>hk.1)⟩,⟨by(with_reducible repeat (first|apply Kd.N_alloc|apply Kd.N_drewN|apply Kd.N_drew));exact HO117.out⟩,⟨bz⟩⟩
 case round =>
  clear H'
  try clear p2
  try clear c5
  obtain⟨x4_1,x5_1,x6_1,rfl,HA,HK1,HO_0,HO_4,HO_5,HB⟩:=hrel
  cases gk with
  | zero=>exact absurd HA.out (by simp[spec_l1Terms.l0])
  | succ k1 =>
   have H:=HA.out;clear HA;simp only[spec_l1Terms.l0] at H
   by_cases c6:x6_1<(l0.length:Int)
   ·rw[if_pos c6] at H
    have c6b0:decide (x6_1<(l0.length:Int))=true:=decide_eq_true c6;clear c6;replace H:=Option.bind_eq_some_iff.mp H;obtain⟨t118,A70,H⟩:=H;replace H:(if 0≤x6_1 then(if x4_1.length<17592186044416 then(if 0≤(wrap64 (x6_1+1)) then(if(wrap64 (x6_1+1))≤t118 then(if t118≤(l0.length:Int) then(if x5_1.length<5864062014805 then(spec_l1Terms.l0 k1 l0 (x4_1++[rd l0 x6_1]) (x5_1++[((l0.take (t118:Int).toNat).drop ((wrap64 (x6_1+1)):Int).toNat)]) t118) else(none)) else(none)) else(none)) else(none)) else(none)) else(none))=some (r1,r2):=H;have A7:=Sd.mk A70;clear A70
    by_cases c8:0≤x6_1
    ·rw[if_pos c8] at H
     have c8b0:decide (0≤x6_1)=true:=decide_eq_true c8;clear c8
     by_cases c9:x4_1.length<17592186044416
     ·rw[if_pos c9] at H
      have LMc9:=Sd.mk c9;clear c9;obtain⟨y120,hy120⟩:∃ y_:List Int,y_=(x4_1++[rd l0 x6_1]):=⟨_,rfl⟩;replace H:(if 0≤(wrap64 (x6_1+1)) then(if(wrap64 (x6_1+1))≤t118 then(if t118≤(l0.length:Int) then(if x5_1.length<5864062014805 then(spec_l1Terms.l0 k1 l0 y120 (x5_1++[((l0.take (t118:Int).toNat).drop ((wrap64 (x6_1+1)):Int).toNat)]) t118) else(none)) else(none)) else(none)) else(none))=some (r1,r2):=hz hy120 H;have Ny120:=Sd.mk hy120;clear hy120;obtain⟨ji10,hji10⟩:∃ j_:Int,(wrap64 (x6_1+1))=j_:=⟨_,rfl⟩
      replace H:(if 0≤(ji10) then(if(ji10)≤t118 then(if t118≤(l0.length:Int) then(if x5_1.length<5864062014805 then(spec_l1Terms.l0 k1 l0 y120 (x5_1++[((l0.take (t118:Int).toNat).drop ((ji10):Int).toNat)]) t118) else(none)) else(none)) else(none)) else(none))=some (r1,r2):=by first|(rw[hji10] at H;exact H)|(simp only[hji10] at H ⊢;exact H)
      (try rw[hji10] at A7)
      have hji10w:(IntKind.i64.wrap (x6_1+1))=ji10:=(i64_w _).trans hji10
      by_cases c11:0≤(ji10)
      ·rw[if_pos c11] at H
       have c11b0:=eq_true c11;have c11b1:decide (0≤(ji10))=true:=decide_eq_true c11;clear c11
       by_cases c12:(ji10)≤t118
       ·rw[if_pos c12] at H
        have c12b0:=eq_true c12;have c12b1:decide ((ji10)≤t118)=true:=decide_eq_true c12;clear c12
        by_cases c13:t118≤(l0.length:Int)
        ·rw[if_pos c13] at H
         have c13b0:=eq_true c13;have c13b1:decide (t118≤(l0.length:Int))=true:=decide_eq_true c13;clear c13;obtain⟨y123,hy123⟩:∃ y_:List Int,y_=((l0.take (t118:Int).toNat).drop ((ji10):Int).toNat):=⟨_,rfl⟩;replace H:(if x5_1.length<5864062014805 then(spec_l1Terms.l0 k1 l0 y120 (x5_1++[y123]) t118) else(none))=some (r1,r2):=hz hy123 H;have Ny123:=Sd.mk hy123;clear hy123
         by_cases c14:x5_1.length<5864062014805
         ·rw[if_pos c14] at H
          have LMc14:=Sd.mk c14;clear c14;obtain⟨y128,hy128⟩:∃ y_:List (List Int),y_=(x5_1++[y123]):=⟨_,rfl⟩;replace H:(spec_l1Terms.l0 k1 l0 y120 y128 t118)=some (r1,r2):=hz hy128 H;have Ny128:=Sd.mk hy128;clear hy128;have H':=Sd.mk H;clear H;go_wp2_with (first|((with_reducible refine gate_callee (f:=73) rfl ?_);refine goesL_ (some 17) rfl rfl Try.func73 (by kernel_rfl) rfl #[.slice A0 l0.length c0,.int .i64 ji10] rfl (by(try simp only[List.map_toArray,List.map_cons,List.map_nil]);first|done|(simp only[hji10];rfl)|rfl|(simp only[List.length_drop,List.length_take];rfl)) ?_;(with_reducible refine(spec_l1Span.calls k1 _ _ l0 ji10 t118 _ ?side1 ?side2 A7.out).mono ?_);(case side1=>exact Kd.Cz (Kd.V_reads' HO_0.out).2.2);(case side2=>exact(Kd.V_reads' HO_0.out).2.1);rintro e w' ⟨rfl,⟨nd,rfl⟩⟩;refine⟨_,rfl,?_⟩;have p119:0≤(x6_1:Int):=dz;have q119:x6_1<(l0.length:Int):=dz;obtain⟨ad119,e119,hx119_0⟩:=Kd.at_int (Kd.V_reads' HO_0.out).2.2 x6_1 p119 q119;cases e119;replace p119:=eq_true p119;replace q119:=eq_true q119)|((with_reducible refine gate_builtin (b:=.append) (xs:=#[.tmp 18,.tmp 23]) rfl ?_);at_builtin;refine Kd.R_append (Kd.int .i64) (w0:=w) w.heap.size rfl (.tmp 18) (.tmp 23) 22 3 (.int .i64 0) 8 rfl Try.underlying22 info3 rfl (by decide) (by omega) u4 x4_1 (rd l0 x6_1) [.int .i64 (rd l0 x6_1)] (fun k_=>(w.heap.size≤k_)) (fun _=>False) rfl rfl ?aP (fun _ hk=>hk.elim) ?aF ?aO ?aB ?aS ?aL ?_;(case aP=>exact rfl);(case aB=>exact bz);(case aF=>exact(fun k_ hk=>(Nat.le_trans (below_size bz) hk)));(case aO=>exact(Kd.Rz HO_4.out));(case aS=>exact(below_size bz));(case aL=>have:=LMc9.out;omega);intro v121 w15 ho hb hg hat;rw[← Ny120.out] at ho;replace HO_0:=Sd.mk (Kd.V_afterv (ok:=(fun k_=>(P0_ k_∨w.heap.size≤k_)∧some k_≠(u5:Value).ownBlock)) (Kd.Vz <| Kd.V_mono HO_0.out (fun _ hk=>⟨⟨hk.1,hk.2.2⟩,hk.2.1⟩)) hg hat);replace HO_5:=Sd.mk (Kd.N_afterv (ok:=(fun k_=>(P0_ k_∨w.heap.size≤k_))) (Kd.Nz HO_5.out) hg hat);replace HB:=Sd.mk (hb);have HO122:=Sd.mk (ho);clear HO_4;clear ho hb hg hat;have q16:(t118:Int)≤((l0.length:Int):Int):=dz;obtain⟨i016,hi016,_,hsz16,_⟩:=info_parts info3;have hroom16:l0.length≤c0:=(Kd.V_reads' HO_0.out).2.1;have hC16:Kd.F (Kd.int .i64) _ _ (some ad119) l0.length l0:=(Kd.V_at (base:=w.heap.size) HO_0.out).2.2;have ql16:((ji10):Int)≤(t118:Int):=dz;have q016:(0:Int)≤((ji10):Int):=dz;have hcut16:=cut_mid (P:=Try.prog) 22 3 .i64 .i64 Try.underlying22 hi016 1 hsz16 (some ad119) l0.length c0 (ji10) t118 q016 ql16 q16 hroom16;have hr16:=Kd.F_mid (lo:=((ji10):Int).toNat) (hi:=(t118:Int).toNat) (c:=c0) hC16 (by omega) (by omega) hroom16;obtain⟨A16,hA16⟩:∃ Aq_,Aq_=(if c0=((ji10):Int).toNat then(some ad119) else((some ad119):Option Addr).map (·.add (((ji10):Int).toNat*1))):=⟨_,rfl⟩;obtain⟨c16,hc16⟩:∃ cq_,cq_=c0-((ji10):Int).toNat:=⟨_,rfl⟩;have hy16:y123.length=(t118:Int).toNat-((ji10):Int).toNat:=(by rw[Ny123.out,List.length_drop,List.length_take]<;>omega);rw[show ((l0).take (t118:Int).toNat).drop ((ji10):Int).toNat=y123 from Ny123.out.symm] at hr16;replace hr16:Kd.F (Kd.int .i64) _ _ A16 y123.length y123:=(by rw[hA16];exact hr16);rw[← hy16,← hA16,← hc16] at hcut16;have HO127:=Sd.mk (show Kd.V (Kd.int .i64) 3 _ w.heap.size _ (.slice A16 y123.length c16) y123 from Kd.V_mk (by rw[hy16,hc16];exact Nat.sub_le_sub_right (Nat.le_trans (by omega) hroom16) _) hr16);have HC127:=Sd.mk (show y123.length≤c16 from by rw[hy16,hc16];exact Nat.sub_le_sub_right (Nat.le_trans (by omega) hroom16) _);clear hr16 hC16 hroom16 hi016 hsz16 hc16;have KY16:=Sd.mk hy16;have KA16:=Sd.mk hA16;clear hy16 hA16;replace q16:=eq_true q16)|((with_reducible refine gate_builtin (b:=.append) (xs:=#[.tmp 25,.tmp 31]) rfl ?_);at_builtin;refine Kd.N_append (Kd.slice 3 (Kd.int .i64)) (w0:=w) w.heap.size rfl (.tmp 25) (.tmp 31) 52 22 (.slice none 0 0) 24 rfl Try.underlying52 info22 rfl (by decide) (by omega) u5 x5_1 y123 [.slice A16 y123.length c16] (fun k_=>(P0_ k_∨w.heap.size≤k_)∧some k_≠(v121:Value).ownBlock) (fun k_=>((fun k_=>(P0_ k_∨w.heap.size≤k_)∧some k_≠(v121:Value).ownBlock)) k_∧some k_≠(u5:Value).ownBlock) rfl rfl ?aP (fun _ hk=>hk) ?aF ?aO ?aB ?aS ?aL ?_;(case aP=>exact(Kd.FK_slice_mk (Kd.V_reads' (Kd.V_mono (ok':=(fun k_=>((fun k_=>(P0_ k_∨w.heap.size≤k_)∧some k_≠(v121:Value).ownBlock)) k_∧some k_≠(u5:Value).ownBlock)) (HO127.out) (fun k_ hk=>⟨⟨hk.1.1,hk.2⟩,hk.1.2⟩))).2.1 (Kd.V_F (Kd.V_mono (ok':=(fun k_=>((fun k_=>(P0_ k_∨w.heap.size≤k_)∧some k_≠(v121:Value).ownBlock)) k_∧some k_≠(u5:Value).ownBlock)) (HO127.out) (fun k_ hk=>⟨⟨hk.1.1,hk.2⟩,hk.1.2⟩)))));(case aB=>exact bz);(case aF=>exact(fun k_ hk=>⟨(.inr (Nat.le_trans (below_size bz) hk)),Kd.fresh' (Kd.R_lt (Kd.Rz HO122.out)) k_ hk⟩));(case aO=>exact(Kd.Nz HO_5.out));(case aS=>exact(below_size bz));(case aL=>have:=LMc14.out;omega);intro v129 w17 ho hb hg hat;rw[← Ny128.out] at ho;replace HO_0:=Sd.mk (Kd.V_afterv (ok:=(fun k_=>(P0_ k_∨w.heap.size≤k_)∧some k_≠(v121:Value).ownBlock)) (Kd.Vz <| Kd.V_mono HO_0.out (fun _ hk=>⟨⟨hk.1.1,hk.2⟩,hk.1.2⟩)) hg hat);replace HO122:=Sd.mk (Kd.R_over' (Kd.Rz HO122.out) (Kd.N_typed (Kd.Nz HO_5.out)) (by decide) hg);replace HO127:=Sd.mk (Kd.V_afterv (ok:=(fun k_=>(P0_ k_∨w.heap.size≤k_)∧some k_≠(v121:Value).ownBlock)) (Kd.Vz <| Kd.V_mono HO127.out (fun _ hk=>⟨⟨hk.1.1,hk.2⟩,hk.1.2⟩)) hg hat);replace HB:=Sd.mk (hb);have HO130:=Sd.mk (ho);clear HO_5;clear ho hb hg hat))
          go_roundg k1
          case measure=>have:=HK1.out;omega
          case rel=>exact⟨(y120),(y128),(t118),(by first|rfl|(simp;done)|(simp[*];done)),H',⟨by have:=HK1.out;omega⟩,⟨Kd.Vz <| Kd.V_mono HO_0.out (fun _ hk=>⟨hk.1.1,⟨hk.1.2,hk.2⟩⟩)⟩,⟨by(with_reducible repeat (first|apply Kd.R_alloc|apply Kd.R_drewN|apply Kd.R_drew));exact HO122.out⟩,⟨by(with_reducible repeat (first|apply Kd.N_alloc|apply Kd.N_drewN|apply Kd.N_drew));exact HO130.out⟩,⟨bz⟩⟩
         ·rw[if_neg c14] at H
          exact absurd H (by simp)
        ·rw[if_neg c13] at H
         exact absurd H (by simp)
       ·rw[if_neg c12] at H
        exact absurd H (by simp)
      ·rw[if_neg c11] at H
       exact absurd H (by simp)
     ·rw[if_neg c9] at H
      exact absurd H (by simp)
    ·rw[if_neg c8] at H
     exact absurd H (by simp)
   ·rw[if_neg c6] at H
    have c6b0:decide (x6_1<(l0.length:Int))=false:=decide_eq_false c6;clear c6;simp only[Option.some.injEq,Prod.mk.injEq] at H;obtain⟨rfl,rfl⟩:=H;go_wp2;go_ret2;exact⟨_,_,by first|rfl|(simp[errW_none,errW_some]<;>rfl)|(simp[*,errW_none,errW_some]<;>rfl),by(with_reducible repeat (first|apply Kd.R_alloc|apply Kd.R_drewN|apply Kd.R_drew));exact HO_4.out,by(with_reducible repeat (first|apply Kd.N_alloc|apply Kd.N_drewN|apply Kd.N_drew));exact HO_5.out,bz⟩
end Go.Proofs.Ytfblcanijhnhmaa.P