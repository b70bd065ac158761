/- RpcNil's row and card. -/
import Derived.Test.YtldnpolfcickaaaDoorLawBase
import Derived.Test.YtldnpolfcickaaaDoorLaw20
set_option linter.unusedVariables false
set_option linter.unusedSimpArgs false
namespace Go.Proofs.YtldnpolfcickaaaDoor
open Go Go.WH Go.ChangeShapes Go.WideShapes Go.ChangeAt Go.RowKit
set_option maxRecDepth 100000
set_option maxHeartbeats 1000000
theorem open_call {W : World} {cs : List Value} (h : Tr Tryd.prog W 28 cs) : ∃ (c : CallS) (A : Option Addr) (k : Nat), cs = [.int .u8 c.client, .int .u32 c.inc, .int .u64 c.seq, .int .u8 c.kind, .int .u32 c.ino, .int .u32 c.gen, .string c.name, .int .u32 c.toIno, .int .u32 c.toGen, .string c.toName, .int .u32 c.off, .int .u32 c.size, .slice A c.data.length k] ∧ c.Wf ∧ RdB (R0 W) A k c.data ∧ (A = none → k = 0) := by
  have hl : cs.length = 13 := (h.struct Tryd.underlying28).1.trans (by kernel_rfl)
  match cs, hl, h with
  | [c0, c1, c2, c3, c4, c5, c6, c7, c8, c9, c10, c11, c12], _, h =>
    obtain ⟨_, hf_⟩ := h.struct Tryd.underlying28
    have g_0 : Tr Tryd.prog W 5 [c0] := (show _ = [c0] by kernel_rfl) ▸ hf_ 0 _ rfl
    have g_c0 := g_0
    have g_1 : Tr Tryd.prog W 22 [c1] := (show _ = [c1] by kernel_rfl) ▸ hf_ 1 _ rfl
    have g_c1 := g_1
    have g_2 : Tr Tryd.prog W 23 [c2] := (show _ = [c2] by kernel_rfl) ▸ hf_ 2 _ rfl
    have g_c2 := g_2
    have g_3 : Tr Tryd.prog W 5 [c3] := (show _ = [c3] by kernel_rfl) ▸ hf_ 3 _ rfl
    have g_c3 := g_3
    have g_4 : Tr Tryd.prog W 25 [c4, c5] := (show _ = [c4, c5] by kernel_rfl) ▸ hf_ 4 _ rfl
    obtain ⟨_, hf_4_⟩ := g_4.struct Tryd.underlying25
    have g_4_0 : Tr Tryd.prog W 22 [c4] := (show _ = [c4] by kernel_rfl) ▸ hf_4_ 0 _ rfl
    have g_c4 := g_4_0
    have g_4_1 : Tr Tryd.prog W 22 [c5] := (show _ = [c5] by kernel_rfl) ▸ hf_4_ 1 _ rfl
    have g_c5 := g_4_1
    have g_5 : Tr Tryd.prog W 9 [c6] := (show _ = [c6] by kernel_rfl) ▸ hf_ 5 _ rfl
    have g_c6 := g_5
    have g_6 : Tr Tryd.prog W 25 [c7, c8] := (show _ = [c7, c8] by kernel_rfl) ▸ hf_ 6 _ rfl
    obtain ⟨_, hf_6_⟩ := g_6.struct Tryd.underlying25
    have g_6_0 : Tr Tryd.prog W 22 [c7] := (show _ = [c7] by kernel_rfl) ▸ hf_6_ 0 _ rfl
    have g_c7 := g_6_0
    have g_6_1 : Tr Tryd.prog W 22 [c8] := (show _ = [c8] by kernel_rfl) ▸ hf_6_ 1 _ rfl
    have g_c8 := g_6_1
    have g_7 : Tr Tryd.prog W 9 [c9] := (show _ = [c9] by kernel_rfl) ▸ hf_ 7 _ rfl
    have g_c9 := g_7
    have g_8 : Tr Tryd.prog W 22 [c10] := (show _ = [c10] by kernel_rfl) ▸ hf_ 8 _ rfl
    have g_c10 := g_8
    have g_9 : Tr Tryd.prog W 22 [c11] := (show _ = [c11] by kernel_rfl) ▸ hf_ 9 _ rfl
    have g_c11 := g_9
    have g_10 : Tr Tryd.prog W 26 [c12] := (show _ = [c12] by kernel_rfl) ▸ hf_ 10 _ rfl
    have g_c12 := g_10
    obtain ⟨n_c0, e_, b_c0⟩ := g_c0.u8 Tryd.underlying5; cases e_
    obtain ⟨n_c1, e_, b_c1⟩ := g_c1.u32 Tryd.underlying22; cases e_
    obtain ⟨n_c2, e_, b_c2⟩ := g_c2.u64 Tryd.underlying23; cases e_
    obtain ⟨n_c3, e_, b_c3⟩ := g_c3.u8 Tryd.underlying5; cases e_
    obtain ⟨n_c4, e_, b_c4⟩ := g_c4.u32 Tryd.underlying22; cases e_
    obtain ⟨n_c5, e_, b_c5⟩ := g_c5.u32 Tryd.underlying22; cases e_
    obtain ⟨n_c6, e_, b_c6⟩ := g_c6.str Tryd.underlying9; cases e_
    obtain ⟨n_c7, e_, b_c7⟩ := g_c7.u32 Tryd.underlying22; cases e_
    obtain ⟨n_c8, e_, b_c8⟩ := g_c8.u32 Tryd.underlying22; cases e_
    obtain ⟨n_c9, e_, b_c9⟩ := g_c9.str Tryd.underlying9; cases e_
    obtain ⟨n_c10, e_, b_c10⟩ := g_c10.u32 Tryd.underlying22; cases e_
    obtain ⟨n_c11, e_, b_c11⟩ := g_c11.u32 Tryd.underlying22; cases e_
    obtain ⟨A_c12, k_c12, l_c12, e_, r_c12, z_c12⟩ := g_c12.bytes Tryd.underlying26 Tryd.underlying5 (by kernel_rfl); cases e_
    exact ⟨⟨n_c0, n_c1, n_c2, n_c3, n_c4, n_c5, n_c6, n_c7, n_c8, n_c9, n_c10, n_c11, l_c12⟩, A_c12, k_c12, rfl, ⟨b_c0, b_c1, b_c2, b_c3, b_c4, b_c5, b_c7, b_c8, b_c10, b_c11⟩, r_c12, z_c12⟩
theorem wf_int {k : IntKind} {n : Int} (h : (Lit.int k n).wf = true) : k.min ≤ n ∧ n ≤ k.max := by
  simpa only [Lit.wf, Bool.and_eq_true, decide_eq_true_eq] using h
theorem okWide_agg {P : Program} {W : World} {r : Reach} {base : Nat} {t : TypeId} {v : Value} {fs : Array Field} (hu : P.underlying t = some (.struct fs)) (h : Value.okWide P W r base t v) : ∃ cs, v = .agg cs := by
  unfold Value.okWide at h
  simp only [hu] at h
  obtain ⟨cs, h1, _⟩ := h
  exact ⟨cs, h1⟩
theorem rpcNil_lifted (os : Os) (started : os.Started) (H : Type) (enc : TypeId × Value → H) :
    ReturnsInHanded {} Tryd.checked os 6 .any (fun w args => (Rows.rpcNilSpec.pre enc Tryd.prog Tryd.f6 [] false w args ∧ laidMetH Tryd.prog listed w) ∧ sizedMet enc Tryd.prog Tryd.f6 (OpenSpec.ofChange Rows.rpcNilSpec) false w args)
      (Rows.rpcNilSpec.post enc Tryd.prog Tryd.f6 false true false false) := by
  refine returnsInHanded_of_change_and (C := Tryd.checked) (X := fun w _ => laidMetH Tryd.prog listed w) (fun _ _ _ hh h => h.of_heap hh) own started (by kernel_rfl) Tryd.func6
    (ChangeSpec.witness_shaped (enc := enc) (C := Tryd.checked) (os := os) (X := fun w _ => laidMetH Tryd.prog listed w) false (laidW os) #[.agg #[.int .u8 0, .int .u32 0, .int .u64 0, .int .u8 0, .int .u32 0, .int .u32 0, .string ByteArray.empty, .int .u32 0, .int .u32 0, .string ByteArray.empty, .int .u32 0, .int .u32 0, .slice none 0 0], .int .u64 0, .slice none 0 0, .bool false] 8 rfl (World.shaped_of_RefB (by kernel_rfl) (by kernel_rfl)) (by kernel_rfl) (by kernel_rfl) (by kernel_rfl) (laid_met os _)) ?_
  intro W base args ds gs before hval0 hW _ hsz hL _
  have hval : ∀ (j : Nat) t v, Tryd.f6.params[j]? = some t → args[j]? = some v → Value.okWide Tryd.prog W .any base t v := hval0
  have hW' := hW
  obtain ⟨p, q, hA0, hV, rfl, hfz, hnd⟩ := hW
  have hA : DataW.TrodAll enc Tryd.prog W 0 (fun _ => true) true Tryd.f6.params.toList args.toList ds p := hA0
  rw [Tryd.params6] at hA hval
  obtain ⟨v0, vs0, d0, ds0, p0, q0, hargs, rfl, rfl, h0, r0⟩ := trodAll_cons hA
  obtain ⟨v1, vs1, d1, ds1, p1, q1, rfl, rfl, rfl, h1, r1⟩ := trodAll_cons r0
  obtain ⟨v2, vs2, d2, ds2, p2, q2, rfl, rfl, rfl, h2, r2⟩ := trodAll_cons r1
  obtain ⟨v3, vs3, d3, ds3, p3, q3, rfl, rfl, rfl, h3, r3⟩ := trodAll_cons r2
  obtain ⟨rfl, rfl, rfl⟩ := trodAll_nil r3
  obtain rfl : args = #[v0, v1, v2, v3] := by cases args; simp_all
  obtain ⟨rfl, rfl⟩ := trodVars_none hV
  have hT := tabs_met hL
  have k0 := h0
  have lt0 : ∀ x ∈ p0, x.block < W.heap.size := by obtain ⟨m, hm⟩ := k0; exact DataW.trod_lt m _ _ _ hm
  obtain ⟨cs0, rfl⟩ := okWide_agg Tryd.underlying28 (hval 0 28 v0 rfl rfl)
  have t0 := Tr.of h0
  obtain ⟨c, A, k, hcs, wf, hd, _⟩ := open_call t0
  obtain rfl : cs0 = #[.int .u8 c.client, .int .u32 c.inc, .int .u64 c.seq, .int .u8 c.kind, .int .u32 c.ino, .int .u32 c.gen, .string c.name, .int .u32 c.toIno, .int .u32 c.toGen, .string c.toName, .int .u32 c.off, .int .u32 c.size, .slice A c.data.length k] := by cases cs0; simp_all [Value.cells]
  have k1 := h1
  have lt1 : ∀ x ∈ p1, x.block < W.heap.size := by obtain ⟨m, hm⟩ := k1; exact DataW.trod_lt m _ _ _ hm
  obtain ⟨a1, rfl, rfl, rfl, w1⟩ := open_int Tryd.underlying23 (hval 1 23 v1 rfl rfl) h1
  have k2 := h2
  have lt2 : ∀ x ∈ p2, x.block < W.heap.size := by obtain ⟨m, hm⟩ := k2; exact DataW.trod_lt m _ _ _ hm
  have t2 := Tr.of h2
  obtain ⟨A2, len2, cap2, rfl⟩ := okWide_slice Tryd.underlying26 (hval 2 26 v2 rfl rfl)
  obtain ⟨X0, kx, bs, hcs2, hrd2, _⟩ := t2.bytes Tryd.underlying26 Tryd.underlying5 (by kernel_rfl)
  have hcs2' : [Value.slice A2 len2 cap2] = [Value.slice X0 bs.length kx] := hcs2
  injection hcs2' with e1 _
  injection e1 with e1 e2 e3
  subst e1; subst e2; subst e3
  have k3 := h3
  have lt3 : ∀ x ∈ p3, x.block < W.heap.size := by obtain ⟨m, hm⟩ := k3; exact DataW.trod_lt m _ _ _ hm
  obtain ⟨a3, rfl, rfl, rfl⟩ := open_bool Tryd.underlying4 (hval 3 4 v3 rfl rfl) h3
  refine Calls.mono (rpc_nil c A k a1 A2 cap2 bs a3 hrd2 hT (wf_int w1) (sat0 W)) fun e W' he => ?_
  obtain ⟨v, rfl, R', hle, rfl, X⟩ := he
  have bel := below_of hle X
  exact ⟨_, rfl, _, _, _, [], _, [], hW', trodAll_mk1 (shut_bool Tryd.underlying4 _), (trodAll_cons_mk (Below.trod laidOut (by kernel_rfl) (of_decide_eq_true (by kernel_rfl)) k0 bel lt0) (trodAll_cons_mk (Below.trod laidOut (by kernel_rfl) (of_decide_eq_true (by kernel_rfl)) k1 bel lt1) (trodAll_cons_mk (Below.trod laidOut (by kernel_rfl) (of_decide_eq_true (by kernel_rfl)) k2 bel lt2) (trodAll_cons_mk (Below.trod laidOut (by kernel_rfl) (of_decide_eq_true (by kernel_rfl)) k3 bel lt3) trodAll_mk0)))), rfl, bel.frame _, fun h => by cases h⟩
theorem rpcNil_row : Rows.RpcNilSaid :=
  OpenClaim.holds_of_wide 6 Tryd.f6 rfl rfl rfl rfl rfl rfl rfl ⟨rfl, rfl, rfl, rfl, rfl⟩ rfl rfl rfl rfl rfl (by kernel_rfl) Tryd.func6 (by kernel_rfl)
    (of_decide_eq_true (by kernel_rfl)) (by unfold Func.isWrapper; first | (rw [if_pos (by decide +kernel)]; kernel_rfl) | (rw [if_neg (by decide +kernel)]; exact ⟨rfl, rfl⟩))
    (fun os started H enc _ => rpcNil_lifted os started H enc)
theorem rpcNil_holds : Rows.RpcNilCardSaid :=
  Claim7.holds_tied_plain_at .later [] [.data, .pinned] true (true, "6cbc3b8be30cd846fc6c757b14bc11082197b74bd668b88c7d2210c54e6d7f99") true
    rpcNil_row (fun _ h => by cases h) (by kernel_rfl) (fun _ h => by cases h) rpcNil_row_tie rfl ⟨rfl, rfl⟩ (by kernel_rfl) rfl
    (fun f fn hf hfn => by
      obtain rfl : f = 6 := Option.some.inj ((show Tryd.prog.funcNamed "wharfage/wharfagelaw20.RpcNil" = some 6 by kernel_rfl).symm.trans hf) |>.symm
      obtain rfl : fn = Tryd.f6 := (Option.some.inj (Tryd.func6.symm.trans hfn)).symm
      exact ⟨by kernel_rfl, fun j t ht => by
        rw [Tryd.params6] at ht
        have hm : t ∈ [28, 23, 26, 4] := by simpa using Array.mem_of_getElem? ht
        have hall : ([28, 23, 26, 4].all fun u => !Tryd.prog.wantsStandIn u) = true := by kernel_rfl
        exact (show Tryd.prog.wantsStandIn t = false by simpa using List.all_eq_true.1 hall t hm)⟩)
    (by kernel_rfl)
#print axioms rpcNil_holds
end Go.Proofs.YtldnpolfcickaaaDoor
