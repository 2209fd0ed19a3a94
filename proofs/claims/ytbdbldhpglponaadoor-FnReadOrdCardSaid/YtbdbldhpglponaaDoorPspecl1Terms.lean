/- One Go function comes to what its Lean function tells. -/
import Derived.Test.YtbdbldhpglponaaDoorP0
import Derived.Test.YtbdbldhpglponaaDoorPspecl1Span
namespace Go.Proofs.YtbdbldhpglponaaDoor.P
open Go.RowKit YtbdbldhpglponaaDoorW.PrintWords YtbdbldhpglponaaDoorW.PrintLast YtbdbldhpglponaaDoorW.PrintMore
set_option linter.unusedVariables false
set_option linter.unusedSimpArgs false
/-! ### spec_l1Terms: function 42 -/
def spec_l1Terms.l0:Nat→List Int→List Int→List (List Int)→Int→Option (List Int × (List (List Int)))
 | 0,_,_,_,_=>none
 | k+1,x0,x4,x5,x6=>if x6<(x0.length:Int) then((spec_l1Span.f k x0 (wrap64 (x6+1))).bind fun t109=>(if 0≤x6 then(if x4.length<17592186044416 then(if 0≤(wrap64 (x6+1)) then(if(wrap64 (x6+1))≤t109 then(if t109≤(x0.length:Int) then(if x5.length<5864062014805 then(spec_l1Terms.l0 k x0 (x4++[rd x0 x6]) (x5++[((x0.take (t109:Int).toNat).drop ((wrap64 (x6+1)):Int).toNat)]) t109) else(none)) else(none)) else(none)) else(none)) else(none)) else(none))) else(some (x4,x5))
def spec_l1Terms.f (k:Nat)(l0:List Int):Option (List Int × (List (List Int))):=spec_l1Terms.l0 k l0 (([]:List Int)) (([]:List (List Int))) 1
set_option maxHeartbeats 8000000 in
set_option maxRecDepth 100000 in
theorem spec_l1Terms.calls (k:Nat)(D:Nat→Prop)(A0:Option Addr)(c0:Nat)(l0:List Int)(r1:List Int)(r2:List (List Int))(w:World)(b0:Kd.V (Kd.int .i64) 3 w w.heap.size (fun k_=>D k_) (.slice A0 l0.length c0) l0)(h:spec_l1Terms.f k l0=some (r1,r2)) :
  Calls Tryd.prog 42 #[.slice A0 l0.length c0] w fun e w'=>∃ a8 bm:Value,e=.returned (.tuple #[a8,bm])∧Kd.R (Kd.int .i64) 3 w' w.heap.size (fun k_=>(w.heap.size≤k_)) a8 r1∧Kd.N (Kd.slice 3 (Kd.int .i64)) 22 w' w.heap.size (fun k_=>(D k_∨w.heap.size≤k_)∧some k_≠(a8:Value).ownBlock) bm r2∧Below w.heap.size w w':=by
 have ap:=Sd.mk (show Kd.V (Kd.int .i64) 3 w w.heap.size (fun k_=>(D k_∨w.heap.size≤k_)) (.slice A0 l0.length c0) l0 from Kd.V_mono b0 (fun k_ hk=>.inl hk));have HB:=Sd.mk (Below.refl w.heap.size w);have H:(spec_l1Terms.l0 k l0 (([]:List Int)) (([]:List (List Int))) 1)=some (r1,r2):=h;clear h;obtain⟨av,ai⟩:∃ y_:List Int,y_=(([]:List Int)):=⟨_,rfl⟩;replace H:(spec_l1Terms.l0 k l0 av (([]:List (List Int))) 1)=some (r1,r2):=hz ai H;have a1:=Sd.mk ai;clear ai;obtain⟨a9,aj⟩:∃ y_:List (List Int),y_=(([]:List (List Int))):=⟨_,rfl⟩;replace H:(spec_l1Terms.l0 k l0 av a9 1)=some (r1,r2):=hz aj H;have a2:=Sd.mk aj;clear aj;have H':=Sd.mk H;clear H;go_enter Tryd.func42,Tryd.ntmps42;go_wp2_with (first|((with_reducible refine gate_dst (N:=8) rfl ?_);refine Kd.R_lit (Kd.int .i64) _ 3 ?hg (N:=8) ?hd (xs:=([]:List Int)) (inner:=[]) (ok:=fun _=>True) (okp:=fun _=>True) ?hr ?hp (fun _ hk=>hk) trivial (Below.refl _ _) (Nat.le_refl _) (by simp) ?_;(case hd=>rfl);(case hg=>rfl);(case hr=>first|(go_simp;done)|(go_simp;rfl));(case hp=>exact(Reps.none _ _));intro aw w2 ag hb ba hnew_;clear ba hnew_;(first|rw[← a1.out] at ag|(simp only[Int.reduceToNat] at ag;rw[← a1.out] at ag));replace ap:=Sd.mk (Kd.V_elder' (Kd.Vz ap.out) (Kd.R_base ag) hb);have U:=Sd.mk (Kd.R_lower (Kd.R_newM (M:=fun k_=>(w.heap.size≤k_)) ag (below_size bz) (fun k_ h_=>h_)) (below_size bz));replace HB:=Sd.mk (below_step bz hb);clear hb ag)|((with_reducible refine gate_dst (N:=9) rfl ?_);refine Kd.N_lit (Kd.slice 3 (Kd.int .i64)) _ 22 ?hg (N':=9) ?hd (xs:=([]:List (List Int))) (inner:=[]) (ok:=(fun k_=>(D k_∨w.heap.size≤k_)∧some k_≠(aw:Value).ownBlock)) (okp:=(fun k_=>(D k_∨w.heap.size≤k_)∧some k_≠(aw:Value).ownBlock)) ?hr ?hp (fun _ hk=>hk) ((show ∀ k_,w2.heap.size≤k_→(fun k_=>(D k_∨w.heap.size≤k_)∧some k_≠(aw:Value).ownBlock) k_ from fun k_ hk=>⟨(.inr (Nat.le_trans (below_size bz) hk)),Kd.fresh' (Kd.R_lt (Kd.Rz U.out)) k_ hk⟩) _ (Nat.le_refl _)) (Below.refl _ _) (Nat.le_refl _) (by simp) ?_;(case hd=>rfl);(case hg=>rfl);(case hr=>first|(go_simp;done)|(go_simp;rfl));(case hp=>exact(Reps.none _ _));intro cc w4 ah hb ba hnew_;clear ba hnew_;(first|rw[← a2.out] at ah|(simp only[Int.reduceToNat] at ah;rw[← a2.out] at ah));replace ap:=Sd.mk (Kd.V_elder' (Kd.Vz ap.out) (Kd.N_base ah) hb);replace U:=Sd.mk (Kd.R_below (Kd.Rz U.out) hb);have bg:=Sd.mk (Kd.N_lower ah (below_size bz));replace HB:=Sd.mk (below_step bz hb);clear hb ah))
 go_loopg [4,5,6] k (fun kq v4 v5 v6 w'=>∃ (J:List Int) (z:List (List Int)) (o:Int),v6=.int .i64 o∧Sd (spec_l1Terms.l0 kq l0 J z o=some (r1,r2))∧Sd (kq≤k)∧Sd (Kd.V (Kd.int .i64) 3 w' w.heap.size (fun k_=>(D k_∨w.heap.size≤k_)∧some k_≠(v4:Value).ownBlock∧some k_≠(v5:Value).ownBlock) (.slice A0 l0.length c0) l0)∧Sd (Kd.R (Kd.int .i64) 3 w' w.heap.size (fun k_=>(w.heap.size≤k_)) v4 J)∧Sd (Kd.N (Kd.slice 3 (Kd.int .i64)) 22 w' w.heap.size (fun k_=>(D k_∨w.heap.size≤k_)∧some k_≠(v4:Value).ownBlock) v5 z)∧Sd (Below w.heap.size w w'))
 case atStart=>exact⟨(av),(a9),(1),(by first|rfl|(simp;done)|(simp[*];done)),H',⟨Nat.le_refl _⟩,⟨Kd.Vz <| Kd.V_mono ap.out (fun _ hk=>⟨hk.1.1,⟨hk.1.2,hk.2⟩⟩)⟩,⟨Kd.Rz <| Kd.R_mono U.out (fun _ hk=>hk.1)⟩,⟨Kd.Nz bg.out⟩,⟨bz⟩⟩
 case round =>
  clear H';obtain⟨J,z,o,rfl,HA,bn,G,ax,L,HB⟩:=hrel
  cases gk with
  | zero=>exact absurd HA.out (by simp[spec_l1Terms.l0])
  | succ k1 =>
   have H:=HA.out;clear HA;simp only[spec_l1Terms.l0] at H
   by_cases c6:o<(l0.length:Int)
   ·rw[if_pos c6] at H
    have bq:decide (o<(l0.length:Int))=true:=decide_eq_true c6;clear c6;obtain⟨j,A7,H⟩:=bs H
    by_cases c8:0≤o
    ·rw[if_pos c8] at H
     have ce:decide (0≤o)=true:=decide_eq_true c8;clear c8
     by_cases c9:J.length<17592186044416
     ·rw[if_pos c9] at H
      have br:=Sd.mk c9;clear c9;obtain⟨aa,ak⟩:∃ y_:List Int,y_=(J++[rd l0 o]):=⟨_,rfl⟩;replace H:(if 0≤(wrap64 (o+1)) then(if(wrap64 (o+1))≤j then(if j≤(l0.length:Int) then(if z.length<5864062014805 then(spec_l1Terms.l0 k1 l0 aa (z++[((l0.take (j:Int).toNat).drop ((wrap64 (o+1)):Int).toNat)]) j) else(none)) else(none)) else(none)) else(none))=some (r1,r2):=hz ak H;have bh:=Sd.mk ak;clear ak;obtain⟨m,I⟩:∃ j_:Int,(wrap64 (o+1))=j_:=⟨_,rfl⟩
      replace H:(if 0≤(m) then(if(m)≤j then(if j≤(l0.length:Int) then(if z.length<5864062014805 then(spec_l1Terms.l0 k1 l0 aa (z++[((l0.take (j:Int).toNat).drop ((m):Int).toNat)]) j) else(none)) else(none)) else(none)) else(none))=some (r1,r2):=by first|(rw[I] at H;exact H)|(simp only[I] at H ⊢;exact H)
      (try rw[I] at A7)
      have hji10w:(IntKind.i64.wrap (o+1))=m:=(i64_w _).trans I
      by_cases aq:0≤(m)
      ·rw[if_pos aq] at H
       have b4:=eq_true aq;have b5:decide (0≤(m))=true:=decide_eq_true aq;clear aq
       by_cases ar:(m)≤j
       ·rw[if_pos ar] at H
        have b6:=eq_true ar;have b7:decide ((m)≤j)=true:=decide_eq_true ar;clear ar
        by_cases au:j≤(l0.length:Int)
        ·rw[if_pos au] at H
         have b8:=eq_true au;have b9:decide (j≤(l0.length:Int))=true:=decide_eq_true au;clear au;obtain⟨E,al⟩:∃ y_:List Int,y_=((l0.take (j:Int).toNat).drop ((m):Int).toNat):=⟨_,rfl⟩;replace H:(if z.length<5864062014805 then(spec_l1Terms.l0 k1 l0 aa (z++[E]) j) else(none))=some (r1,r2):=hz al H;have a3:=Sd.mk al;clear al
         by_cases a4:z.length<5864062014805
         ·rw[if_pos a4] at H
          have bj:=Sd.mk a4;clear a4;obtain⟨bb,am⟩:∃ y_:List (List Int),y_=(z++[E]):=⟨_,rfl⟩;replace H:(spec_l1Terms.l0 k1 l0 aa bb j)=some (r1,r2):=hz am H;have bk:=Sd.mk am;clear am;have H':=Sd.mk H;clear H;go_wp2_with (first|((with_reducible refine gate_callee (f:=58) rfl ?_);refine goesL_ (some 17) rfl rfl Tryd.func58 (by kernel_rfl) rfl #[.slice A0 l0.length c0,.int .i64 m] rfl (by(try simp only[List.map_toArray,List.map_cons,List.map_nil]);first|done|(simp only[I];rfl)|rfl|(simp only[List.length_drop,List.length_take];rfl)) ?_;(with_reducible refine(spec_l1Span.calls k1 _ _ l0 m j _ ?side1 ?side2 A7.out).mono ?_);(case side1=>exact Kd.Cz (Kd.V_reads' G.out).2.2);(case side2=>exact(Kd.V_reads' G.out).2.1);rintro e w' ⟨rfl,⟨nd,rfl⟩⟩;refine⟨_,rfl,?_⟩;have ay:0≤(o:Int):=dz;have a0:o<(l0.length:Int):=dz;obtain⟨X,bu,bx⟩:=Kd.at_int (Kd.V_reads' G.out).2.2 o ay a0;cases bu;replace ay:=eq_true ay;replace a0:=eq_true a0)|((with_reducible refine gate_builtin (b:=.append) (xs:=#[.tmp 18,.tmp 23]) rfl ?_);at_builtin;refine Kd.R_append (Kd.int .i64) (w0:=w) w.heap.size rfl (.tmp 18) (.tmp 23) 22 3 (.int .i64 0) 8 rfl Tryd.underlying22 info3 rfl (by decide) (by omega) u4 J (rd l0 o) [.int .i64 (rd l0 o)] (fun k_=>(w.heap.size≤k_)) (fun _=>False) rfl rfl ?aP (fun _ hk=>hk.elim) ?aF ?aO ?aB ?aS ?aL ?_;(case aP=>exact rfl);(case aB=>exact bz);(case aF=>exact(fun k_ hk=>(Nat.le_trans (below_size bz) hk)));(case aO=>exact(Kd.Rz ax.out));(case aS=>exact(below_size bz));(case aL=>have:=br.out;omega);intro O ck ho hb hg hat;rw[← bh.out] at ho;replace G:=Sd.mk (Kd.V_afterv (ok:=(fun k_=>(D k_∨w.heap.size≤k_)∧some k_≠(u5:Value).ownBlock)) (Kd.Vz <| Kd.V_mono G.out (fun _ hk=>⟨⟨hk.1,hk.2.2⟩,hk.2.1⟩)) hg hat);replace L:=Sd.mk (Kd.N_afterv (ok:=(fun k_=>(D k_∨w.heap.size≤k_))) (Kd.Nz L.out) hg hat);replace HB:=Sd.mk (hb);have Y:=Sd.mk (ho);clear ax;clear ho hb hg hat;have bc:(j:Int)≤((l0.length:Int):Int):=dz;obtain⟨cf,a5,_,a6,_⟩:=info_parts info3;have hroom16:l0.length≤c0:=(Kd.V_reads' G.out).2.1;have bd:Kd.F (Kd.int .i64) _ _ (some X) l0.length l0:=(Kd.V_at (base:=w.heap.size) G.out).2.2;have bv:((m):Int)≤(j:Int):=dz;have bw:(0:Int)≤((m):Int):=dz;have hcut16:=cut_mid (P:=Tryd.prog) 22 3 .i64 .i64 Tryd.underlying22 a5 1 a6 (some X) l0.length c0 (m) j bw bv bc hroom16;have ab:=Kd.F_mid (lo:=((m):Int).toNat) (hi:=(j:Int).toNat) (c:=c0) bd (by omega) (by omega) hroom16;obtain⟨be,an⟩:∃ Aq_,Aq_=(if c0=((m):Int).toNat then(some X) else((some X):Option Addr).map (·.add (((m):Int).toNat*1))):=⟨_,rfl⟩;obtain⟨bf,ao⟩:∃ b3,b3=c0-((m):Int).toNat:=⟨_,rfl⟩;have ac:E.length=(j:Int).toNat-((m):Int).toNat:=(by rw[a3.out,List.length_drop,List.length_take]<;>omega);rw[show ((l0).take (j:Int).toNat).drop ((m):Int).toNat=E from a3.out.symm] at ab;replace ab:Kd.F (Kd.int .i64) _ _ be E.length E:=(by rw[an];exact ab);rw[← ac,← an,← ao] at hcut16;have Z:=Sd.mk (show Kd.V (Kd.int .i64) 3 _ w.heap.size _ (.slice be E.length bf) E from Kd.V_mk (by rw[ac,ao];exact Nat.sub_le_sub_right (Nat.le_trans (by omega) hroom16) _) ab);have ca:=Sd.mk (show E.length≤bf from by rw[ac,ao];exact Nat.sub_le_sub_right (Nat.le_trans (by omega) hroom16) _);clear ab bd hroom16 a5 a6 ao;have ch:=Sd.mk ac;have ci:=Sd.mk an;clear ac an;replace bc:=eq_true bc)|((with_reducible refine gate_builtin (b:=.append) (xs:=#[.tmp 25,.tmp 31]) rfl ?_);at_builtin;refine Kd.N_append (Kd.slice 3 (Kd.int .i64)) (w0:=w) w.heap.size rfl (.tmp 25) (.tmp 31) 52 22 (.slice none 0 0) 24 rfl Tryd.underlying52 info22 rfl (by decide) (by omega) u5 z E [.slice be E.length bf] (fun k_=>(D k_∨w.heap.size≤k_)∧some k_≠(O:Value).ownBlock) (fun k_=>((fun k_=>(D k_∨w.heap.size≤k_)∧some k_≠(O:Value).ownBlock)) k_∧some k_≠(u5:Value).ownBlock) rfl rfl ?aP (fun _ hk=>hk) ?aF ?aO ?aB ?aS ?aL ?_;(case aP=>exact(Kd.FK_slice_mk (Kd.V_reads' (Kd.V_mono (ok':=(fun k_=>((fun k_=>(D k_∨w.heap.size≤k_)∧some k_≠(O:Value).ownBlock)) k_∧some k_≠(u5:Value).ownBlock)) (Z.out) (fun k_ hk=>⟨⟨hk.1.1,hk.2⟩,hk.1.2⟩))).2.1 (Kd.V_F (Kd.V_mono (ok':=(fun k_=>((fun k_=>(D k_∨w.heap.size≤k_)∧some k_≠(O:Value).ownBlock)) k_∧some k_≠(u5:Value).ownBlock)) (Z.out) (fun k_ hk=>⟨⟨hk.1.1,hk.2⟩,hk.1.2⟩)))));(case aB=>exact bz);(case aF=>exact(fun k_ hk=>⟨(.inr (Nat.le_trans (below_size bz) hk)),Kd.fresh' (Kd.R_lt (Kd.Rz Y.out)) k_ hk⟩));(case aO=>exact(Kd.Nz L.out));(case aS=>exact(below_size bz));(case aL=>have:=bj.out;omega);intro cj cl ho hb hg hat;rw[← bk.out] at ho;replace G:=Sd.mk (Kd.V_afterv (ok:=(fun k_=>(D k_∨w.heap.size≤k_)∧some k_≠(O:Value).ownBlock)) (Kd.Vz <| Kd.V_mono G.out (fun _ hk=>⟨⟨hk.1.1,hk.2⟩,hk.1.2⟩)) hg hat);replace Y:=Sd.mk (Kd.R_over' (Kd.Rz Y.out) (Kd.N_typed (Kd.Nz L.out)) (by decide) hg);replace Z:=Sd.mk (Kd.V_afterv (ok:=(fun k_=>(D k_∨w.heap.size≤k_)∧some k_≠(O:Value).ownBlock)) (Kd.Vz <| Kd.V_mono Z.out (fun _ hk=>⟨⟨hk.1.1,hk.2⟩,hk.1.2⟩)) hg hat);replace HB:=Sd.mk (hb);have bl:=Sd.mk (ho);clear L;clear ho hb hg hat))
          go_roundg k1
          case measure=>have:=bn.out;omega
          case rel=>exact⟨(aa),(bb),(j),(by first|rfl|(simp;done)|(simp[*];done)),H',⟨by have:=bn.out;omega⟩,⟨Kd.Vz <| Kd.V_mono G.out (fun _ hk=>⟨hk.1.1,⟨hk.1.2,hk.2⟩⟩)⟩,⟨Kd.Rz Y.out⟩,⟨Kd.Nz bl.out⟩,⟨bz⟩⟩
         ·rw[if_neg a4] at H
          exact absurd H (by simp)
        ·rw[if_neg au] at H
         exact absurd H (by simp)
       ·rw[if_neg ar] at H
        exact absurd H (by simp)
      ·rw[if_neg aq] at H
       exact absurd H (by simp)
     ·rw[if_neg c9] at H
      exact absurd H (by simp)
    ·rw[if_neg c8] at H
     exact absurd H (by simp)
   ·rw[if_neg c6] at H
    have bq:decide (o<(l0.length:Int))=false:=decide_eq_false c6;clear c6;simp only[Option.some.injEq,Prod.mk.injEq] at H;obtain⟨rfl,rfl⟩:=H;go_wp2;go_ret2;exact⟨_,_,by first|rfl|(simp[errW_none,errW_some]<;>rfl)|(simp[*,errW_none,errW_some]<;>rfl),by(with_reducible repeat (first|apply Kd.R_alloc|apply Kd.R_drewN|apply Kd.R_drew));exact ax.out,by(with_reducible repeat (first|apply Kd.N_alloc|apply Kd.N_drewN|apply Kd.N_drew));exact L.out,bz⟩
end Go.Proofs.YtbdbldhpglponaaDoor.P