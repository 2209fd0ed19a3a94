/- One Go function comes to what its Lean function tells. -/
import Derived.Test.YtfblcanijhnhmaaP0
import Derived.Test.YtfblcanijhnhmaaPspecl20Little
import Derived.Test.YtfblcanijhnhmaaPspecl20Rdpick
namespace Go.Proofs.Ytfblcanijhnhmaa.P
open Go.RowKit YtfblcanijhnhmaaW.PrintWords YtfblcanijhnhmaaW.PrintLast YtfblcanijhnhmaaW.PrintMore
set_option linter.unusedVariables false
set_option linter.unusedSimpArgs false
/-! ### spec_l20Both: function 62 -/
def spec_l20Both.f (k:Nat)(s0_0:List Int)(s0_1:Int):Option (List Int × List Int × Int):=(spec_l20Little.f k s0_0 s0_1 14).bind fun bt1375=>((spec_l20Little.f k s0_0 bt1375.2 14).bind fun bt1379=>(some (bt1375.1,bt1379.1,bt1379.2)))
theorem spec_l20Both.mono:∀ a0 a1 k,LeO (spec_l20Both.f k a0 a1) (spec_l20Both.f (k+1) a0 a1):=by
 intro a0 a1 k
 unfold spec_l20Both.f
 repeat' first|(with_reducible first|exact spec_l20Little.mono _ _ _ _|exact LeO.refl _|exact LeO.none _|refine LeO.ite ?_ ?_|refine LeO.bind ?_ (fun _=>?_))|exact spec_l20Little.mono _ _ _ _|exact LeO.none _|refine LeO.ite ?_ ?_|refine LeO.bind ?_ (fun _=>?_)
set_option maxHeartbeats 8000000 in
set_option maxRecDepth 100000 in
theorem spec_l20Both.calls (k:Nat)(g:Nat)(s0_0:List Int)(s0_1:Int)(r1:List Int)(r2:List Int)(r3:Int)(w0 w:World)(hI:IsS73 w0 w g s0_0 s0_1)(hB:Below w0.heap.size w0 w)(h:spec_l20Both.f k s0_0 s0_1=some (r1,r2,r3)) :
  Calls Try.prog 62 #[.pointer (some ⟨g,0,none⟩)] w fun e w'=>∃ v0_ v1_:Value,e=.returned (.tuple #[v0_,v1_])∧Kd.R (Kd.int .i64) 3 w' w.heap.size (fun k_=>some k_≠(v1_:Value).ownBlock) v0_ r1∧Kd.R (Kd.int .i64) 3 w' w.heap.size (fun k_=>some k_≠(v0_:Value).ownBlock) v1_ r2∧IsS73 w0 w' g s0_0 r3∧Below w0.heap.size w0 w'∧KeepBut w w' g none:=by
 have HI0:=Sd.mk hI
 have HK:=Sd.mk (KeepBut.refl w g none)
 have HL:=Sd.mk hB.size
 clear hI
 have HW0:=Sd.mk hB.size
 have HB:=Sd.mk hB
 clear hB
 have H:((spec_l20Little.f k s0_0 s0_1 14).bind fun bt1375=>((spec_l20Little.f k s0_0 bt1375.2 14).bind fun bt1379=>(some (bt1375.1,bt1379.1,bt1379.2))))=some (r1,r2,r3):=h
 clear h
 replace H:=Option.bind_eq_some_iff.mp H
 obtain⟨⟨t1375,t1378⟩,A20,H⟩:=H
 replace H:((spec_l20Little.f k s0_0 t1378 14).bind fun bt1379=>(some (t1375,bt1379.1,bt1379.2)))=some (r1,r2,r3):=H
 have A2:=Sd.mk A20
 clear A20
 replace H:=Option.bind_eq_some_iff.mp H
 obtain⟨⟨t1379,t1382⟩,A30,H⟩:=H
 replace H:(some (t1375,t1379,t1382))=some (r1,r2,r3):=H
 have A3:=Sd.mk A30
 clear A30
 simp only[Option.some.injEq,Prod.mk.injEq] at H
 obtain⟨rfl,rfl,rfl⟩:=H
 go_enter Try.func62,Try.ntmps62
 go_wp2_with (first|((with_reducible refine gate_callee (f:=68) rfl ?_);refine goesL_ (some 5) rfl rfl Try.func68 (by kernel_rfl) rfl #[.pointer (some ⟨g,0,none⟩),.int .i64 14] rfl az ?_;(with_reducible refine(spec_l20Little.calls k g s0_0 s0_1 14 t1375 t1378 w0 _ ?side1 ?side2 A2.out).mono ?_);(case side1=>exact iz);(case side2=>exact bi);rintro e w4 ⟨v1376,rfl,ho0,hi,hb,hk⟩;refine⟨_,rfl,?_⟩;have HO1377:=Sd.mk (Kd.R_lower ho0 (keep_size (w:=w) (g:=g) (row:=none) kz));replace HK:=Sd.mk (KeepBut.trans kz hk (.inl rfl));replace HB:=Sd.mk (hb);replace HI0:=Sd.mk (hi);(try clear hb);(try clear hb2);(try clear hk);(try clear hi);(try clear ho0))|((with_reducible refine gate_callee (f:=68) rfl ?_);refine goesL_ (some 7) rfl rfl Try.func68 (by kernel_rfl) rfl #[.pointer (some ⟨g,0,none⟩),.int .i64 14] rfl az ?_;(with_reducible refine(spec_l20Little.calls k g s0_0 t1378 14 t1379 t1382 w0 _ ?side1 ?side2 A3.out).mono ?_);(case side1=>exact iz);(case side2=>exact bi);rintro e w5 ⟨v1380,rfl,ho0,hi,hb,hk⟩;refine⟨_,rfl,?_⟩;have HO1381:=Sd.mk (Kd.R_lower (Kd.R_new' ho0 (Kd.R_lt (Kd.Rz HO1377.out))) (keep_size (w:=w) (g:=g) (row:=none) kz));replace HO1377:=Sd.mk (Kd.R_mono (Kd.R_told (Kd.R_oldK (IsS73.apart (show IsS73 w0 _ g s0_0 t1378 from iz) (Kd.Rz HO1377.out) (by decide)) hk) (Kd.R_base ho0)) (fun _ h_=>h_.1));replace HK:=Sd.mk (KeepBut.trans kz hk (.inl rfl));replace HB:=Sd.mk (hb);replace HI0:=Sd.mk (hi);(try clear hb);(try clear hb2);(try clear hk);(try clear hi);(try clear ho0)))
 go_ret2
 exact⟨_,_,by first|rfl|(simp[errW_none,errW_some]<;>rfl)|(simp[*,errW_none,errW_some]<;>rfl),Kd.Rz <| Kd.R_mono HO1377.out (fun _ hk=>hk.2),Kd.Rz <| Kd.R_mono HO1381.out (fun _ hk=>hk.2),iz,bi,by repeat (first|(with_reducible first|exact HK.out|apply KeepBut.set_|apply keep_drewN|apply keep_drew|apply keep_alloc)|exact HK.out)⟩
end Go.Proofs.Ytfblcanijhnhmaa.P