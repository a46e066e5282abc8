-- A text of this session: written by its own program (wip/x/xprint.py), which runs the kit's printer with contracts of its own.
import Derived.Test.YtchoncnahlcfjaaXFnExactDigestJoinx0
import Derived.Test.YtchoncnahlcfjaaXFnExactDigestJoinx1
import Derived.Test.YtchoncnahlcfjaaXFnExactDigestJoinx4
import Derived.Test.YtchoncnahlcfjaaXFnExactDigestJoinx5
import Derived.Test.YtchoncnahlcfjaaXFnExactDigestJoinx7
import Derived.Test.YtchoncnahlcfjaaXFnExactDigestJoinx8h
import Derived.Test.YtchoncnahlcfjaaXFnExactDigestJoinx8c
namespace Go.Proofs.Ytchoncnahlcfjaa.XFnExactDigestJoin
open Go.RowKit Go.Proofs.YtchoncnahlcfjaaW.PrintWords Go.Proofs.YtchoncnahlcfjaaW.PrintLast Go.Proofs.YtchoncnahlcfjaaW.PrintMore
attribute [local go_sem] max2_int min2_int max_two min_two max_three min_three max_four min_four   -- for this text's walks alone
set_option linter.unusedVariables false
set_option linter.unusedSimpArgs false

set_option maxHeartbeats 8000000 in
set_option maxRecDepth 100000 in
theorem laws_FnExactDigestJoin.reg1 {Q_ : Exit → Act → World → Prop}
  (k : Nat)
  (a0_0 a0_1 a0_2 : Int)
  (A0_3 : Option Addr)
  (c0_3 : Nat)
  (l0_3 : List Int)
  (a1_0 a1_1 a1_2 : Int)
  (A1_3 : Option Addr)
  (c1_3 : Nat)
  (l1_3 : List Int)
  (r : Bool)
  (w : World)
  (hu46 : Try.prog.underlying 46 =
    some
      (TypeDesc.struct
        #[{ name := "Step", type := 3, offset := 0, embedded := false, tag := "", pkgPath := "", byteOffset := 0 },
          { name := "Parts", type := 3, offset := 1, embedded := false, tag := "", pkgPath := "", byteOffset := 8 },
          { name := "Count", type := 3, offset := 2, embedded := false, tag := "", pkgPath := "", byteOffset := 16 },
          { name := "Points", type := 22, offset := 3, embedded := false, tag := "", pkgPath := "", byteOffset := 24 }]))
  (hu37 : Try.prog.underlying 37 =
    some
      (TypeDesc.struct
        #[{ name := "Step", type := 3, offset := 0, embedded := false, tag := "", pkgPath := "", byteOffset := 0 },
          { name := "Parts", type := 3, offset := 1, embedded := false, tag := "", pkgPath := "", byteOffset := 8 },
          { name := "Count", type := 3, offset := 2, embedded := false, tag := "", pkgPath := "", byteOffset := 16 },
          { name := "Points", type := 22, offset := 3, embedded := false, tag := "", pkgPath := "", byteOffset := 24 }]))
  (HR0_3 : Aside0 ((Kd.int IntKind.i64).C w A0_3 l0_3.length l0_3))
  (HC0_3 : Aside0 (l0_3.length ≤ c0_3))
  (HR1_3 : Aside0 ((Kd.int IntKind.i64).C w A1_3 l1_3.length l1_3))
  (HC1_3 : Aside0 (l1_3.length ≤ c1_3))
  (t215 : Int)
  (A3 : Aside0 (laws_szDigest.f a0_0 a0_1 a0_2 l0_3 1048576 = some t215))
  (c4b0 : decide (t215 < 0) = false)
  (t216 : Int)
  (A10 : Aside0 (laws_szDigest.f a1_0 a1_1 a1_2 l1_3 t215 = some t216))
  (c11b0 : decide (t216 < 0) = false)
  (t217 t218 t219 : Int)
  (t220 : List Int)
  (A19 : Aside0 (laws_toDigest.f k a0_0 a0_1 a0_2 l0_3 = some (t217, t218, t219, t220)))
  (t223 t224 t225 : Int)
  (t226 : List Int)
  (A20 : Aside0 (laws_toDigest.f k a1_0 a1_1 a1_2 l1_3 = some (t223, t224, t225, t226)))
  (t229 t230 t231 : Int)
  (t232 : List Int)
  (t235 : Int)
  (A21 : Aside0 (spec_DigestJoin.f k t217 t218 t219 t220 t223 t224 t225 t226 = some (t229, t230, t231, t232, t235)))
  (t237 t238 t239 : Int)
  (t240 : List Int)
  (A22 : Aside0 (laws_toDigest.f k a0_0 a0_1 a0_2 l0_3 = some (t237, t238, t239, t240)))
  (t244 t245 t246 : Int)
  (t247 : List Int)
  (A23 : Aside0 (laws_toDigest.f k a1_0 a1_1 a1_2 l1_3 = some (t244, t245, t246, t247)))
  (t251 t252 t253 : Int)
  (t254 : List Int)
  (t257 : Int)
  (A24 : Aside0 (impl_DigestJoin.f k t237 t238 t239 t240 t244 t245 t246 t247 = some (t251, t252, t253, t254, t257)))
  (gb213 : Nat)
  (w26 : World)
  (GW213 GE213 : Aside0 (w.heap.size ≤ gb213))
  (gb214 : Nat)
  (w27 : World)
  (GW214 GE214 : Aside0 (w.heap.size ≤ gb214))
  (NB213_214 : Aside0 (gb213 ≠ gb214))
  (NB214_213 : Aside0 (gb214 ≠ gb213))
  (hnb28 : gb213 ≠ gb214)
  (hnc28 : gb214 ≠ gb213)
  (hcz29_0 : w27.cell? { block := gb213, off := 0 } = some (Value.int IntKind.i64 a0_0))
  (hcz29_1 : w27.cell? { block := gb213, off := 1 } = some (Value.int IntKind.i64 a0_1))
  (hcz29_2 : w27.cell? { block := gb213, off := 2 } = some (Value.int IntKind.i64 a0_2))
  (hcz29_3 : w27.cell? { block := gb213, off := 3 } = some (Value.slice A0_3 l0_3.length c0_3))
  (hfz29_0 : w27.frozen? { block := gb213, off := 0 } = false)
  (hfz29_1 : w27.frozen? { block := gb213, off := 1 } = false)
  (hfz29_2 : w27.frozen? { block := gb213, off := 2 } = false)
  (hfz29_3 : w27.frozen? { block := gb213, off := 3 } = false)
  (w30 : World)
  (hcz31_0 : w30.cell? { block := gb214, off := 0 } = some (Value.int IntKind.i64 a1_0))
  (hcz31_1 : w30.cell? { block := gb214, off := 1 } = some (Value.int IntKind.i64 a1_1))
  (hcz31_2 : w30.cell? { block := gb214, off := 2 } = some (Value.int IntKind.i64 a1_2))
  (hcz31_3 : w30.cell? { block := gb214, off := 3 } = some (Value.slice A1_3 l1_3.length c1_3))
  (hfz31_0 : w30.frozen? { block := gb214, off := 0 } = false)
  (hfz31_1 : w30.frozen? { block := gb214, off := 1 } = false)
  (hfz31_2 : w30.frozen? { block := gb214, off := 2 } = false)
  (hfz31_3 : w30.frozen? { block := gb214, off := 3 } = false)
  (w32 : World)
  (HT_ : Aside0
    (rtab Region.Mode.any
        #[{ dst := some 28, op := Op.load 46 (Operand.tmp 2), type := 46, pos := "exact.go:6616", after := #[],
            guard := none },
          { dst := some 29,
            op := Op.call { callee := Callee.value (Operand.func 28), args := #[Operand.tmp 28], argTypes := #[46] },
            type := 37, pos := "exact.go:6616", after := #[{ on := 0, ground := Ground.data }], guard := none },
          { dst := some 30, op := Op.load 46 (Operand.tmp 3), type := 46, pos := "exact.go:6616", after := #[],
            guard := none },
          { dst := some 31,
            op := Op.call { callee := Callee.value (Operand.func 28), args := #[Operand.tmp 30], argTypes := #[46] },
            type := 37, pos := "exact.go:6616",
            after := #[{ on := 2, ground := Ground.data }, { on := 1, ground := Ground.chain }], guard := none },
          { dst := some 32,
            op :=
              Op.call
                { callee := Callee.value (Operand.func 27), args := #[Operand.tmp 29, Operand.tmp 31],
                  argTypes := #[37, 37] },
            type := 38, pos := "exact.go:6616",
            after :=
              #[{ on := 1, ground := Ground.data }, { on := 3, ground := Ground.data },
                { on := 3, ground := Ground.chain }],
            guard := none },
          { dst := some 27, op := Op.move (Operand.tmp 32), type := 38, pos := "exact.go:6616",
            after := #[{ on := 4, ground := Ground.data }], guard := none },
          { dst := some 33, op := Op.extract (Operand.tmp 27) 0, type := 37, pos := "exact.go:6616",
            after := #[{ on := 5, ground := Ground.data }], guard := none },
          { dst := some 34, op := Op.extract (Operand.tmp 27) 1, type := 3, pos := "exact.go:6616",
            after := #[{ on := 5, ground := Ground.data }, { on := 9, ground := Ground.gcOnly Departure.lateStores }],
            guard := none },
          { dst := some 6, op := Op.alloc 37, type := 0, pos := "exact.go:6616", after := #[], guard := none },
          { dst := none, op := Op.store 37 (Operand.tmp 6) (Operand.tmp 33), type := 0, pos := "exact.go:6616",
            after :=
              #[{ on := 8, ground := Ground.data }, { on := 6, ground := Ground.data },
                { on := 4, ground := Ground.chain }, { on := 0, ground := Ground.phase },
                { on := 1, ground := Ground.phase }, { on := 2, ground := Ground.phase },
                { on := 3, ground := Ground.phase }, { on := 4, ground := Ground.phase },
                { on := 5, ground := Ground.phase }, { on := 6, ground := Ground.phase },
                { on := 7, ground := Ground.textOnly Departure.lateStores }, { on := 8, ground := Ground.phase }],
            guard := none },
          { dst := some 7, op := Op.assign (Operand.tmp 34), type := 3, pos := "exact.go:6616",
            after :=
              #[{ on := 7, ground := Ground.data }, { on := 9, ground := Ground.chain },
                { on := 0, ground := Ground.phase }, { on := 1, ground := Ground.phase },
                { on := 2, ground := Ground.phase }, { on := 3, ground := Ground.phase },
                { on := 4, ground := Ground.phase }, { on := 5, ground := Ground.phase },
                { on := 6, ground := Ground.phase }, { on := 7, ground := Ground.phase },
                { on := 8, ground := Ground.phase }, { on := 9, ground := Ground.phase }],
            guard := none }] =
      T8))
  (HW_ : Aside0 (waitsOk T8.snd B8 = true))
  (w33 : World)
  (v221 v227 : Value)
  (gb236 : Nat)
  (w40 : World)
  (hS_ : w40.cell? { block := gb213, off := 0 } = some (Value.int IntKind.i64 a0_0) ∧
    w40.cell? { block := gb213, off := 1 } = some (Value.int IntKind.i64 a0_1) ∧
      w40.cell? { block := gb213, off := 2 } = some (Value.int IntKind.i64 a0_2) ∧
        w40.cell? { block := gb213, off := 3 } = some (Value.slice A0_3 l0_3.length c0_3) ∧
          w40.cell? { block := gb214, off := 0 } = some (Value.int IntKind.i64 a1_0) ∧
            w40.cell? { block := gb214, off := 1 } = some (Value.int IntKind.i64 a1_1) ∧
              w40.cell? { block := gb214, off := 2 } = some (Value.int IntKind.i64 a1_2) ∧
                w40.cell? { block := gb214, off := 3 } = some (Value.slice A1_3 l1_3.length c1_3))
  (GW236 GE236 : Aside0 (w.heap.size ≤ gb236))
  (NB213_236 : Aside0 (gb213 ≠ gb236))
  (NB236_213 : Aside0 (gb236 ≠ gb213))
  (NB214_236 : Aside0 (gb214 ≠ gb236))
  (NB236_214 : Aside0 (gb236 ≠ gb214))
  (Ao44 : Option Addr)
  (co44 : Nat)
  (hs41 : w40.cell? { block := gb236, off := 0 } = some (Value.int IntKind.i64 0))
  (hfs41 : w40.frozen? { block := gb236, off := 0 } = false)
  (hns41_0 : gb213 ≠ gb236)
  (hns41_1 : gb214 ≠ gb236)
  (hms41_0 : gb236 ≠ gb213)
  (hms41_1 : gb236 ≠ gb214)
  (hs42 : w40.cell? { block := gb236, off := 1 } = some (Value.int IntKind.i64 0))
  (hfs42 : w40.frozen? { block := gb236, off := 1 } = false)
  (hns42_0 : gb213 ≠ gb236)
  (hns42_1 : gb214 ≠ gb236)
  (hms42_0 : gb236 ≠ gb213)
  (hms42_1 : gb236 ≠ gb214)
  (hs43 : w40.cell? { block := gb236, off := 2 } = some (Value.int IntKind.i64 0))
  (hfs43 : w40.frozen? { block := gb236, off := 2 } = false)
  (hns43_0 : gb213 ≠ gb236)
  (hns43_1 : gb214 ≠ gb236)
  (hms43_0 : gb236 ≠ gb213)
  (hms43_1 : gb236 ≠ gb214)
  (hs45 : w40.cell? { block := gb236, off := 3 } = some (Value.slice none 0 0))
  (hfs45 : w40.frozen? { block := gb236, off := 3 } = false)
  (hns45_0 : gb213 ≠ gb236)
  (hns45_1 : gb214 ≠ gb236)
  (hms45_0 : gb236 ≠ gb213)
  (hms45_1 : gb236 ≠ gb214)
  (hnb46 : gb213 ≠ gb236)
  (hnc46 : gb236 ≠ gb213)
  (w48 : World)
  (gb243 : Nat)
  (w49 : World)
  (GW243 GE243 : Aside0 (w.heap.size ≤ gb243))
  (NB213_243 : Aside0 (gb213 ≠ gb243))
  (NB243_213 : Aside0 (gb243 ≠ gb213))
  (NB214_243 : Aside0 (gb214 ≠ gb243))
  (NB243_214 : Aside0 (gb243 ≠ gb214))
  (NB236_243 : Aside0 (gb236 ≠ gb243))
  (NB243_236 : Aside0 (gb243 ≠ gb236))
  (hnb50 : gb243 ≠ gb213)
  (hnc50 : gb213 ≠ gb243)
  (hnb51 : gb243 ≠ gb214)
  (hnc51 : gb214 ≠ gb243)
  (hnb52 : gb243 ≠ gb236)
  (hnc52 : gb236 ≠ gb243)
  (Ao54 : Option Addr)
  (co54 : Nat)
  (hnb55 : gb214 ≠ gb236)
  (hnc55 : gb236 ≠ gb214)
  (w57 : World)
  (gb250 : Nat)
  (w58 : World)
  (GW250 GE250 : Aside0 (w.heap.size ≤ gb250))
  (NB213_250 : Aside0 (gb213 ≠ gb250))
  (NB250_213 : Aside0 (gb250 ≠ gb213))
  (NB214_250 : Aside0 (gb214 ≠ gb250))
  (NB250_214 : Aside0 (gb250 ≠ gb214))
  (NB236_250 : Aside0 (gb236 ≠ gb250))
  (NB250_236 : Aside0 (gb250 ≠ gb236))
  (NB243_250 : Aside0 (gb243 ≠ gb250))
  (NB250_243 : Aside0 (gb250 ≠ gb243))
  (hnb59 : gb250 ≠ gb213)
  (hnc59 : gb213 ≠ gb250)
  (hnb60 : gb250 ≠ gb214)
  (hnc60 : gb214 ≠ gb250)
  (hnb61 : gb250 ≠ gb236)
  (hnc61 : gb236 ≠ gb250)
  (hnb62 : gb250 ≠ gb243)
  (hnc62 : gb243 ≠ gb250)
  (Ao64 : Option Addr)
  (co64 : Nat)
  (w66 : World)
  (gb258 : Nat)
  (w67 : World)
  (GW258 GE258 : Aside0 (w.heap.size ≤ gb258))
  (NB213_258 : Aside0 (gb213 ≠ gb258))
  (NB258_213 : Aside0 (gb258 ≠ gb213))
  (NB214_258 : Aside0 (gb214 ≠ gb258))
  (NB258_214 : Aside0 (gb258 ≠ gb214))
  (NB236_258 : Aside0 (gb236 ≠ gb258))
  (NB258_236 : Aside0 (gb258 ≠ gb236))
  (NB243_258 : Aside0 (gb243 ≠ gb258))
  (NB258_243 : Aside0 (gb258 ≠ gb243))
  (NB250_258 : Aside0 (gb250 ≠ gb258))
  (NB258_250 : Aside0 (gb258 ≠ gb250))
  (hnb68 : gb258 ≠ gb213)
  (hnc68 : gb213 ≠ gb258)
  (hnb69 : gb258 ≠ gb214)
  (hnc69 : gb214 ≠ gb258)
  (hnb70 : gb258 ≠ gb236)
  (hnc70 : gb236 ≠ gb258)
  (hnb71 : gb258 ≠ gb243)
  (hnc71 : gb243 ≠ gb258)
  (hnb72 : gb258 ≠ gb250)
  (hnc72 : gb250 ≠ gb258)
  (Ao74 : Option Addr)
  (co74 : Nat)
  (HO222 : Aside0
    ((Kd.int IntKind.i64).R 3 w67 w.heap.size
      (fun k =>
        (((some k ≠ v227.ownBlock ∧ some k ≠ (Value.slice Ao44 t232.length co44).ownBlock) ∧
              some k ≠ (Value.slice Ao54 t240.length co54).ownBlock) ∧
            some k ≠ (Value.slice Ao64 t247.length co64).ownBlock) ∧
          some k ≠ (Value.slice Ao74 t254.length co74).ownBlock)
      v221 t220))
  (HO228 : Aside0
    ((Kd.int IntKind.i64).R 3 w67 w.heap.size
      (fun k =>
        (((some k ≠ v221.ownBlock ∧ some k ≠ (Value.slice Ao44 t232.length co44).ownBlock) ∧
              some k ≠ (Value.slice Ao54 t240.length co54).ownBlock) ∧
            some k ≠ (Value.slice Ao64 t247.length co64).ownBlock) ∧
          some k ≠ (Value.slice Ao74 t254.length co74).ownBlock)
      v227 t226))
  (HO234 : Aside0
    ((Kd.int IntKind.i64).R 3 w67 w.heap.size
      (fun k =>
        (((some k ≠ v221.ownBlock ∧ some k ≠ v227.ownBlock) ∧ some k ≠ (Value.slice Ao54 t240.length co54).ownBlock) ∧
            some k ≠ (Value.slice Ao64 t247.length co64).ownBlock) ∧
          some k ≠ (Value.slice Ao74 t254.length co74).ownBlock)
      (Value.slice Ao44 t232.length co44) t232))
  (HO242 : Aside0
    ((Kd.int IntKind.i64).R 3 w67 w.heap.size
      (fun k =>
        ((((True ∧ some k ≠ v221.ownBlock) ∧ some k ≠ v227.ownBlock) ∧
              some k ≠ (Value.slice Ao44 t232.length co44).ownBlock) ∧
            some k ≠ (Value.slice Ao64 t247.length co64).ownBlock) ∧
          some k ≠ (Value.slice Ao74 t254.length co74).ownBlock)
      (Value.slice Ao54 t240.length co54) t240))
  (HO249 : Aside0
    ((Kd.int IntKind.i64).R 3 w67 w.heap.size
      (fun k =>
        ((((True ∧ some k ≠ v221.ownBlock) ∧ some k ≠ v227.ownBlock) ∧
              some k ≠ (Value.slice Ao44 t232.length co44).ownBlock) ∧
            some k ≠ (Value.slice Ao54 t240.length co54).ownBlock) ∧
          some k ≠ (Value.slice Ao74 t254.length co74).ownBlock)
      (Value.slice Ao64 t247.length co64) t247))
  (HO256 : Aside0
    ((Kd.int IntKind.i64).R 3 w67 w.heap.size
      (fun k =>
        ((((True ∧ some k ≠ v221.ownBlock) ∧ some k ≠ v227.ownBlock) ∧
              some k ≠ (Value.slice Ao44 t232.length co44).ownBlock) ∧
            some k ≠ (Value.slice Ao54 t240.length co54).ownBlock) ∧
          some k ≠ (Value.slice Ao64 t247.length co64).ownBlock)
      (Value.slice Ao74 t254.length co74) t254))
  (kj24 : Nat)
  (HJ24 : Aside0 (kj24 + 1 ≤ k))
  (t260 t261 t262 : Int)
  (t263 : List Int)
  (A102 : Aside0 (laws_toDigest.f kj24 a0_0 a0_1 a0_2 l0_3 = some (t260, t261, t262, t263)))
  (A103 : Aside0 (laws_eqDigest.f kj24 t237 t238 t239 t240 t260 t261 t262 t263 = some true))
  (t267 t268 t269 : Int)
  (t270 : List Int)
  (A105 : Aside0 (laws_toDigest.f kj24 a1_0 a1_1 a1_2 l1_3 = some (t267, t268, t269, t270)))
  (A106 : Aside0 (laws_eqDigest.f kj24 t244 t245 t246 t247 t267 t268 t269 t270 = some true))
  (t274 : Int)
  (t275 : List Int)
  (A108 : Aside0 (laws_markDigest.f kj24 t237 t238 t239 t240 1 = some (t274, t275)))
  (t276 : Int)
  (t277 : List Int)
  (A109 : Aside0 (laws_markDigest.f kj24 t244 t245 t246 t247 t274 = some (t276, t277)))
  (w111 : World)
  (w112 : World)
  (Ao113 : Option Addr)
  (co113 : Nat)
  (w114 : World)
  (w115 : World)
  (w116 : World)
  (Ao117 : Option Addr)
  (co117 : Nat)
  (w118 : World)
  (hHeld : w118.cell? { block := gb250, off := 0 } = some (Value.int IntKind.i64 t244) ∧
    w118.cell? { block := gb250, off := 1 } = some (Value.int IntKind.i64 t245) ∧
      w118.cell? { block := gb250, off := 2 } = some (Value.int IntKind.i64 t246) ∧
        w118.cell? { block := gb250, off := 3 } = some (Value.slice Ao64 t247.length co64) ∧
          w118.cell? { block := gb214, off := 0 } = some (Value.int IntKind.i64 a1_0) ∧
            w118.cell? { block := gb214, off := 1 } = some (Value.int IntKind.i64 a1_1) ∧
              w118.cell? { block := gb214, off := 2 } = some (Value.int IntKind.i64 a1_2) ∧
                w118.cell? { block := gb214, off := 3 } = some (Value.slice A1_3 l1_3.length c1_3))
  (hnb119 : gb243 ≠ gb213)
  (hnc119 : gb213 ≠ gb243)
  (hnb120 : gb243 ≠ gb214)
  (hnc120 : gb214 ≠ gb243)
  (hnb121 : gb243 ≠ gb236)
  (hnc121 : gb236 ≠ gb243)
  (hnb122 : gb243 ≠ gb250)
  (hnc122 : gb250 ≠ gb243)
  (hnb123 : gb243 ≠ gb258)
  (hnc123 : gb258 ≠ gb243)
  (w125 : World)
  (hnb126 : gb250 ≠ gb213)
  (hnc126 : gb213 ≠ gb250)
  (hnb127 : gb250 ≠ gb214)
  (hnc127 : gb214 ≠ gb250)
  (hnb128 : gb250 ≠ gb236)
  (hnc128 : gb236 ≠ gb250)
  (hnb129 : gb250 ≠ gb258)
  (hnc129 : gb258 ≠ gb250)
  (w131 : World)
  (HO265 : Aside0
    ((Kd.int IntKind.i64).R 3 w131 w.heap.size
      (fun k_ =>
        some k_ ≠ (Value.slice Ao44 t232.length co44).ownBlock ∧
          some k_ ≠ (Value.slice Ao54 t240.length co54).ownBlock ∧
            some k_ ≠ (Value.slice Ao64 t247.length co64).ownBlock ∧
              some k_ ≠ (Value.slice Ao74 t254.length co74).ownBlock ∧
                some k_ ≠ (Value.slice Ao117 t270.length co117).ownBlock)
      (Value.slice Ao113 t263.length co113) t263))
  (HO272 : Aside0
    ((Kd.int IntKind.i64).R 3 w131 w.heap.size
      (fun k_ =>
        some k_ ≠ (Value.slice Ao44 t232.length co44).ownBlock ∧
          some k_ ≠ (Value.slice Ao54 t240.length co54).ownBlock ∧
            some k_ ≠ (Value.slice Ao64 t247.length co64).ownBlock ∧
              some k_ ≠ (Value.slice Ao74 t254.length co74).ownBlock ∧
                some k_ ≠ (Value.slice Ao113 t263.length co113).ownBlock)
      (Value.slice Ao117 t270.length co117) t270))
  (Kz0_ : Act → World → Prop)
  (az0_ : ∀ (a : Act) (wq_ : World),
    Code.wp Try.prog
        ((Code.region 23
              #[{ dst := some 13, op := Op.assign (Operand.const (Value.int IntKind.i64 1)), type := 3,
                  pos := "exact.go:6635", after := #[], guard := none }]
              false).seq
          ((Code.region 24
                #[{ dst := some 83, op := Op.load 37 (Operand.tmp 10), type := 37, pos := "exact.go:6636", after := #[],
                    guard := none },
                  { dst := some 84, op := Op.move (Operand.tmp 13), type := 3, pos := "exact.go:6636", after := #[],
                    guard := none },
                  { dst := some 85,
                    op :=
                      Op.call
                        { callee := Callee.value (Operand.func 24), args := #[Operand.tmp 83, Operand.tmp 84],
                          argTypes := #[37, 3] },
                    type := 3, pos := "exact.go:6636",
                    after := #[{ on := 0, ground := Ground.data }, { on := 1, ground := Ground.data }], guard := none },
                  { dst := some 13, op := Op.assign (Operand.tmp 85), type := 3, pos := "exact.go:6636",
                    after :=
                      #[{ on := 2, ground := Ground.data }, { on := 2, ground := Ground.chain },
                        { on := 0, ground := Ground.phase }, { on := 1, ground := Ground.phase },
                        { on := 2, ground := Ground.phase }],
                    guard := none }]
                false).seq
            ((Code.region 25
                  #[{ dst := some 14, op := Op.assign (Operand.const (Value.int IntKind.i64 1)), type := 3,
                      pos := "exact.go:6637", after := #[], guard := none }]
                  false).seq
              ((Code.region 26
                    #[{ dst := some 86, op := Op.load 37 (Operand.tmp 10), type := 37, pos := "exact.go:6638",
                        after := #[], guard := none },
                      { dst := some 87, op := Op.move (Operand.tmp 14), type := 3, pos := "exact.go:6638", after := #[],
                        guard := none },
                      { dst := some 88,
                        op :=
                          Op.call
                            { callee := Callee.value (Operand.func 25), args := #[Operand.tmp 86, Operand.tmp 87],
                              argTypes := #[37, 3] },
                        type := 3, pos := "exact.go:6638",
                        after := #[{ on := 0, ground := Ground.data }, { on := 1, ground := Ground.data }],
                        guard := none },
                      { dst := some 14, op := Op.assign (Operand.tmp 88), type := 3, pos := "exact.go:6638",
                        after :=
                          #[{ on := 2, ground := Ground.data }, { on := 2, ground := Ground.chain },
                            { on := 0, ground := Ground.phase }, { on := 1, ground := Ground.phase },
                            { on := 2, ground := Ground.phase }],
                        guard := none }]
                    false).seq
                (((Code.region 27
                          #[{ dst := some 89, op := Op.move (Operand.tmp 14), type := 3, pos := "exact.go:6639",
                              after := #[], guard := none },
                            { dst := some 90,
                              op := Op.binOp BinOp.lss 3 (Operand.tmp 89) (Operand.const (Value.int IntKind.i64 0)) 3,
                              type := 4, pos := "exact.go:6639", after := #[{ on := 0, ground := Ground.data }],
                              guard := none }]
                          false).seq
                      (Code.cond (Operand.tmp 90)
                        ((Code.region 28
                              #[{ dst := some 4, op := Op.assign (Operand.const (Value.bool false)), type := 4,
                                  pos := "exact.go:6640", after := #[], guard := none }]
                              false).seq
                          Code.ret)
                        Code.skip)).seq
                  (((Code.region 29
                            #[{ dst := some 91, op := Op.move (Operand.tmp 14), type := 3, pos := "exact.go:6642",
                                after := #[], guard := none },
                              { dst := some 92, op := Op.move (Operand.tmp 13), type := 3, pos := "exact.go:6642",
                                after := #[], guard := none },
                              { dst := some 93, op := Op.binOp BinOp.neq 3 (Operand.tmp 91) (Operand.tmp 92) 3,
                                type := 4, pos := "exact.go:6642",
                                after := #[{ on := 0, ground := Ground.data }, { on := 1, ground := Ground.data }],
                                guard := none }]
                            false).seq
                        (Code.cond (Operand.tmp 93)
                          ((Code.region 30
                                #[{ dst := some 4, op := Op.assign (Operand.const (Value.bool false)), type := 4,
                                    pos := "exact.go:6643", after := #[], guard := none }]
                                false).seq
                            Code.ret)
                          Code.skip)).seq
                    ((Code.region 31
                          #[{ dst := some 95, op := Op.load 46 (Operand.tmp 2), type := 46, pos := "exact.go:6645",
                              after := #[], guard := none },
                            { dst := some 96,
                              op :=
                                Op.call
                                  { callee := Callee.value (Operand.func 28), args := #[Operand.tmp 95],
                                    argTypes := #[46] },
                              type := 37, pos := "exact.go:6645", after := #[{ on := 0, ground := Ground.data }],
                              guard := none },
                            { dst := some 97, op := Op.load 46 (Operand.tmp 3), type := 46, pos := "exact.go:6645",
                              after := #[], guard := none },
                            { dst := some 98,
                              op :=
                                Op.call
                                  { callee := Callee.value (Operand.func 28), args := #[Operand.tmp 97],
                                    argTypes := #[46] },
                              type := 37, pos := "exact.go:6645",
                              after := #[{ on := 2, ground := Ground.data }, { on := 1, ground := Ground.chain }],
                              guard := none },
                            { dst := some 99,
                              op :=
                                Op.call
                                  { callee := Callee.value (Operand.func 29), args := #[Operand.tmp 96, Operand.tmp 98],
                                    argTypes := #[37, 37] },
                              type := 38, pos := "exact.go:6645",
                              after :=
                                #[{ on := 1, ground := Ground.data }, { on := 3, ground := Ground.data },
                                  { on := 3, ground := Ground.chain }],
                              guard := none },
                            { dst := some 94, op := Op.move (Operand.tmp 99), type := 38, pos := "exact.go:6645",
                              after := #[{ on := 4, ground := Ground.data }], guard := none },
                            { dst := some 100, op := Op.extract (Operand.tmp 94) 0, type := 37, pos := "exact.go:6645",
                              after := #[{ on := 5, ground := Ground.data }], guard := none },
                            { dst := some 101, op := Op.extract (Operand.tmp 94) 1, type := 3, pos := "exact.go:6645",
                              after :=
                                #[{ on := 5, ground := Ground.data },
                                  { on := 9, ground := Ground.gcOnly Departure.lateStores }],
                              guard := none },
                            { dst := some 15, op := Op.alloc 37, type := 0, pos := "exact.go:6645", after := #[],
                              guard := none },
                            { dst := none, op := Op.store 37 (Operand.tmp 15) (Operand.tmp 100), type := 0,
                              pos := "exact.go:6645",
                              after :=
                                #[{ on := 8, ground := Ground.data }, { on := 6, ground := Ground.data },
                                  { on := 4, ground := Ground.chain }, { on := 0, ground := Ground.phase },
                                  { on := 1, ground := Ground.phase }, { on := 2, ground := Ground.phase },
                                  { on := 3, ground := Ground.phase }, { on := 4, ground := Ground.phase },
                                  { on := 5, ground := Ground.phase }, { on := 6, ground := Ground.phase },
                                  { on := 7, ground := Ground.textOnly Departure.lateStores },
                                  { on := 8, ground := Ground.phase }],
                              guard := none },
                            { dst := some 16, op := Op.assign (Operand.tmp 101), type := 3, pos := "exact.go:6645",
                              after :=
                                #[{ on := 7, ground := Ground.data }, { on := 9, ground := Ground.chain },
                                  { on := 0, ground := Ground.phase }, { on := 1, ground := Ground.phase },
                                  { on := 2, ground := Ground.phase }, { on := 3, ground := Ground.phase },
                                  { on := 4, ground := Ground.phase }, { on := 5, ground := Ground.phase },
                                  { on := 6, ground := Ground.phase }, { on := 7, ground := Ground.phase },
                                  { on := 8, ground := Ground.phase }, { on := 9, ground := Ground.phase }],
                              guard := none }]
                          true).seq
                      (((Code.region 32
                                #[{ dst := some 102, op := Op.load 37 (Operand.tmp 15), type := 37,
                                    pos := "exact.go:6646", after := #[], guard := none },
                                  { dst := some 103, op := Op.load 37 (Operand.tmp 6), type := 37,
                                    pos := "exact.go:6646", after := #[], guard := none },
                                  { dst := some 104,
                                    op :=
                                      Op.call
                                        { callee := Callee.value (Operand.func 21),
                                          args := #[Operand.tmp 102, Operand.tmp 103], argTypes := #[37, 37] },
                                    type := 4, pos := "exact.go:6646",
                                    after := #[{ on := 0, ground := Ground.data }, { on := 1, ground := Ground.data }],
                                    guard := none },
                                  { dst := some 105, op := Op.unOp UnOp.not 4 (Operand.tmp 104), type := 4,
                                    pos := "exact.go:6646", after := #[{ on := 2, ground := Ground.data }],
                                    guard := none },
                                  { dst := some 106, op := Op.move (Operand.tmp 105), type := 4, pos := "exact.go:6646",
                                    after := #[{ on := 3, ground := Ground.data }, { on := 2, ground := Ground.chain }],
                                    guard := none },
                                  { dst := some 107, op := Op.move (Operand.tmp 16), type := 3, pos := "exact.go:6646",
                                    after := #[{ on := 4, ground := Ground.guard }], guard := some (4, false) },
                                  { dst := some 108, op := Op.move (Operand.tmp 7), type := 3, pos := "exact.go:6646",
                                    after := #[{ on := 4, ground := Ground.guard }], guard := some (4, false) },
                                  { dst := some 109, op := Op.binOp BinOp.neq 3 (Operand.tmp 107) (Operand.tmp 108) 3,
                                    type := 4, pos := "exact.go:6646",
                                    after :=
                                      #[{ on := 5, ground := Ground.data }, { on := 6, ground := Ground.data },
                                        { on := 4, ground := Ground.guard }],
                                    guard := some (4, false) },
                                  { dst := some 110,
                                    op := Op.pick (Operand.tmp 106) (Operand.const (Value.bool true)) (Operand.tmp 109),
                                    type := 4, pos := "exact.go:6646",
                                    after := #[{ on := 4, ground := Ground.data }, { on := 7, ground := Ground.data }],
                                    guard := none }]
                                false).seq
                            (Code.cond (Operand.tmp 110)
                              ((Code.region 33
                                    #[{ dst := some 4, op := Op.assign (Operand.const (Value.bool false)), type := 4,
                                        pos := "exact.go:6647", after := #[], guard := none }]
                                    false).seq
                                Code.ret)
                              Code.skip)).seq
                        ((Code.region 34
                              #[{ dst := some 14, op := Op.assign (Operand.const (Value.int IntKind.i64 1)), type := 3,
                                  pos := "exact.go:6649", after := #[], guard := none }]
                              false).seq
                          ((Code.region 35
                                #[{ dst := some 111, op := Op.load 37 (Operand.tmp 10), type := 37,
                                    pos := "exact.go:6650", after := #[], guard := none },
                                  { dst := some 112, op := Op.move (Operand.tmp 14), type := 3, pos := "exact.go:6650",
                                    after := #[], guard := none },
                                  { dst := some 113,
                                    op :=
                                      Op.call
                                        { callee := Callee.value (Operand.func 25),
                                          args := #[Operand.tmp 111, Operand.tmp 112], argTypes := #[37, 3] },
                                    type := 3, pos := "exact.go:6650",
                                    after := #[{ on := 0, ground := Ground.data }, { on := 1, ground := Ground.data }],
                                    guard := none },
                                  { dst := some 14, op := Op.assign (Operand.tmp 113), type := 3,
                                    pos := "exact.go:6650",
                                    after :=
                                      #[{ on := 2, ground := Ground.data }, { on := 2, ground := Ground.chain },
                                        { on := 0, ground := Ground.phase }, { on := 1, ground := Ground.phase },
                                        { on := 2, ground := Ground.phase }],
                                    guard := none }]
                                false).seq
                            (((Code.region 36
                                      #[{ dst := some 114, op := Op.move (Operand.tmp 14), type := 3,
                                          pos := "exact.go:6651", after := #[], guard := none },
                                        { dst := some 115,
                                          op :=
                                            Op.binOp BinOp.lss 3 (Operand.tmp 114)
                                              (Operand.const (Value.int IntKind.i64 0)) 3,
                                          type := 4, pos := "exact.go:6651",
                                          after := #[{ on := 0, ground := Ground.data }], guard := none }]
                                      false).seq
                                  (Code.cond (Operand.tmp 115)
                                    ((Code.region 37
                                          #[{ dst := some 4, op := Op.assign (Operand.const (Value.bool false)),
                                              type := 4, pos := "exact.go:6652", after := #[], guard := none }]
                                          false).seq
                                      Code.ret)
                                    Code.skip)).seq
                              (((Code.region 38
                                        #[{ dst := some 116, op := Op.move (Operand.tmp 14), type := 3,
                                            pos := "exact.go:6654", after := #[], guard := none },
                                          { dst := some 117, op := Op.move (Operand.tmp 13), type := 3,
                                            pos := "exact.go:6654", after := #[], guard := none },
                                          { dst := some 118,
                                            op := Op.binOp BinOp.neq 3 (Operand.tmp 116) (Operand.tmp 117) 3, type := 4,
                                            pos := "exact.go:6654",
                                            after :=
                                              #[{ on := 0, ground := Ground.data }, { on := 1, ground := Ground.data }],
                                            guard := none }]
                                        false).seq
                                    (Code.cond (Operand.tmp 118)
                                      ((Code.region 39
                                            #[{ dst := some 4, op := Op.assign (Operand.const (Value.bool false)),
                                                type := 4, pos := "exact.go:6655", after := #[], guard := none }]
                                            false).seq
                                        Code.ret)
                                      Code.skip)).seq
                                ((Code.region 40
                                      #[{ dst := some 4, op := Op.assign (Operand.const (Value.bool true)), type := 4,
                                          pos := "exact.go:6657", after := #[], guard := none }]
                                      false).seq
                                  Code.ret)))))))))))))
        Q_ a wq_ →
      Kz0_ a wq_)
  (Kz1_ : Act → World → Prop)
  (az1_ : ∀ (a : Act) (wq_ : World),
    Code.wp Try.prog
        (Code.cond (Operand.tmp 82)
          ((Code.region 22
                #[{ dst := some 4, op := Op.assign (Operand.const (Value.bool false)), type := 4,
                    pos := "exact.go:6633", after := #[], guard := none }]
                false).seq
            Code.ret)
          Code.skip)
        (Exit.then Kz0_ Q_) a wq_ →
      Kz1_ a wq_)
  (wc : World)
  (u17 u18 u19 u20 u21 u22 u23 u24 u25 u26 u27 u28 u29 u30 u31 u32 u33 u34 u35 u36 u37 u38 u39 u40 u41 u42 u43 u44 u45 u46 u47 u48 u49 u50 u51 u52 u53 u54 u55 u56 u57 u58 u59 u60 u61 u62 u63 u64 u65 u66 u67 u68 u69 u70 u71 u72 u73 u74 u75 u76 u77 u78 u79 u80 u81 u83 u84 u85 u86 u87 u88 u89 u90 u91 u92 u93 u94 u95 u96 u97 u98 u99 u100 u101 u102 u103 u104 u105 u106 u107 u108 u109 u110 u111 u112 u113 u114 u115 u116 u117 u118 : Value)
  (kq : Nat)
  (x82_109 : Bool)
  (HA : Aside0 (j1 kq t235 x82_109 a0_0 a0_1 a0_2 l0_3 a1_0 a1_1 a1_2 l1_3 t229 t230 t231 t232 t251 t252 t253 t254 = some r))
  (HJ109 : Aside0 (kq ≤ kj24))
  (HO_237003 : Aside0
    ((Kd.int IntKind.i64).R 3 wc w.heap.size
      (fun k_ =>
        some k_ ≠ (Value.slice Ao54 t240.length co54).ownBlock ∧
          some k_ ≠ (Value.slice Ao64 t247.length co64).ownBlock ∧
            some k_ ≠ (Value.slice Ao74 t254.length co74).ownBlock)
      (Value.slice Ao44 t232.length co44) t232))
  (HO_244003 : Aside0
    ((Kd.int IntKind.i64).R 3 wc w.heap.size
      (fun k_ =>
        some k_ ≠ (Value.slice Ao44 t232.length co44).ownBlock ∧
          some k_ ≠ (Value.slice Ao64 t247.length co64).ownBlock ∧
            some k_ ≠ (Value.slice Ao74 t254.length co74).ownBlock)
      (Value.slice Ao54 t240.length co54) t275))
  (HO_251003 : Aside0
    ((Kd.int IntKind.i64).R 3 wc w.heap.size
      (fun k_ =>
        some k_ ≠ (Value.slice Ao44 t232.length co44).ownBlock ∧
          some k_ ≠ (Value.slice Ao54 t240.length co54).ownBlock ∧
            some k_ ≠ (Value.slice Ao74 t254.length co74).ownBlock)
      (Value.slice Ao64 t247.length co64) t277))
  (HO_259003 : Aside0
    ((Kd.int IntKind.i64).R 3 wc w.heap.size
      (fun k_ =>
        some k_ ≠ (Value.slice Ao44 t232.length co44).ownBlock ∧
          some k_ ≠ (Value.slice Ao54 t240.length co54).ownBlock ∧
            some k_ ≠ (Value.slice Ao64 t247.length co64).ownBlock)
      (Value.slice Ao74 t254.length co74) t254))
  (BK213 : Aside0
    (wc.heap[gb213]? =
      some
        (Obj.cells
          #[Value.int IntKind.i64 a0_0, Value.int IntKind.i64 a0_1, Value.int IntKind.i64 a0_2,
            Value.slice A0_3 l0_3.length c0_3]
          46)))
  (BK214 : Aside0
    (wc.heap[gb214]? =
      some
        (Obj.cells
          #[Value.int IntKind.i64 a1_0, Value.int IntKind.i64 a1_1, Value.int IntKind.i64 a1_2,
            Value.slice A1_3 l1_3.length c1_3]
          46)))
  (BK236 : Aside0
    (wc.heap[gb236]? =
      some
        (Obj.cells
          #[Value.int IntKind.i64 t229, Value.int IntKind.i64 t230, Value.int IntKind.i64 t231,
            Value.slice Ao44 t232.length co44]
          37)))
  (BK243 : Aside0
    (wc.heap[gb243]? =
      some
        (Obj.cells
          #[Value.int IntKind.i64 t237, Value.int IntKind.i64 t238, Value.int IntKind.i64 t239,
            Value.slice Ao54 t240.length co54]
          37)))
  (BK250 : Aside0
    (wc.heap[gb250]? =
      some
        (Obj.cells
          #[Value.int IntKind.i64 t244, Value.int IntKind.i64 t245, Value.int IntKind.i64 t246,
            Value.slice Ao64 t247.length co64]
          37)))
  (BK258 : Aside0
    (wc.heap[gb258]? =
      some
        (Obj.cells
          #[Value.int IntKind.i64 t251, Value.int IntKind.i64 t252, Value.int IntKind.i64 t253,
            Value.slice Ao74 t254.length co74]
          37)))
  (HB : Aside0 (Below w.heap.size w wc))
  (hQ_ : Q_ = (bodyPost Try.prog Try.f6 fun e w' => e = Ending.returned (Value.bool r) ∧ Below w.heap.size w w')) :
  Kz1_
    {
      tmps :=
        #[Value.agg
            #[Value.int IntKind.i64 a0_0, Value.int IntKind.i64 a0_1, Value.int IntKind.i64 a0_2,
              Value.slice A0_3 l0_3.length c0_3],
          Value.agg
            #[Value.int IntKind.i64 a1_0, Value.int IntKind.i64 a1_1, Value.int IntKind.i64 a1_2,
              Value.slice A1_3 l1_3.length c1_3],
          Value.pointer (some { block := gb213, off := 0 }), Value.pointer (some { block := gb214, off := 0 }),
          Value.bool false, Value.int IntKind.i64 t216, Value.pointer (some { block := gb236, off := 0 }),
          Value.int IntKind.i64 t235, Value.pointer (some { block := gb243, off := 0 }),
          Value.pointer (some { block := gb250, off := 0 }), Value.pointer (some { block := gb258, off := 0 }),
          Value.int IntKind.i64 t257, Value.int IntKind.i64 t276, undef, undef, undef, undef, u17, u18, u19, u20, u21,
          u22, u23, u24, u25, u26, u27, u28, u29, u30, u31, u32, u33, u34, u35, u36, u37, u38, u39, u40, u41, u42, u43,
          u44, u45, u46, u47, u48, u49, u50, u51, u52, u53, u54, u55, u56, u57, u58, u59, u60, u61, u62, u63, u64, u65,
          u66, u67, u68, u69, u70, u71, u72, u73, u74, u75, u76, u77, u78, u79, u80, u81, Value.bool x82_109, u83, u84,
          u85, u86, u87, u88, u89, u90, u91, u92, u93, u94, u95, u96, u97, u98, u99, u100, u101, u102, u103, u104, u105,
          u106, u107, u108, u109, u110, u111, u112, u113, u114, u115, u116, u117, u118],
      defers := [] }
    wc := by
 subst hQ_
 have hl244003_109 := (Kd.R_reads' HO_244003.out).1
 rw [hl244003_109] at HO_244003
 (try simp only [hl244003_109])
 (try simp only [hl244003_109] at BK213)
 (try simp only [hl244003_109] at BK214)
 (try simp only [hl244003_109] at BK236)
 (try simp only [hl244003_109] at BK243)
 (try simp only [hl244003_109] at BK250)
 (try simp only [hl244003_109] at BK258)
 (try simp only [hl244003_109] at HO_237003)
 (try simp only [hl244003_109] at HO_251003)
 (try simp only [hl244003_109] at HO_259003)
 have hl251003_109 := (Kd.R_reads' HO_251003.out).1
 rw [hl251003_109] at HO_251003
 (try simp only [hl251003_109])
 (try simp only [hl251003_109] at BK213)
 (try simp only [hl251003_109] at BK214)
 (try simp only [hl251003_109] at BK236)
 (try simp only [hl251003_109] at BK243)
 (try simp only [hl251003_109] at BK250)
 (try simp only [hl251003_109] at BK258)
 (try simp only [hl251003_109] at HO_237003)
 (try simp only [hl251003_109] at HO_244003)
 (try simp only [hl251003_109] at HO_259003)
 cases kq with
 | zero => exact absurd HA.out (by simp [laws_FnExactDigestJoin.j1])
 | succ kj109 =>
  have H := HA.out
  clear HA
  simp only [laws_FnExactDigestJoin.j1] at H
  by_cases c159 : x82_109 = true
  ·
   subst c159
   have H1 : (some false) = some r := by rw [if_pos rfl] at H; exact H
   clear H
   have H := H1
   clear H1
   obtain rfl := Option.some.inj H
   go_wp2
   go_ret
   exact ⟨zre, zg HB⟩
  ·
   replace c159 := Bool.eq_false_iff.mpr c159
   subst c159
   have H1 : ((laws_markDigest.f kj109 t251 t252 t253 t254 1).bind fun bt279 => ((laws_heldDigest.f kj109 t251 t252 t253 bt279.2 1).bind fun t281 => (if t281 < 0 then (some false) else (if t281 = bt279.1 then ((laws_toDigest.f kj109 a0_0 a0_1 a0_2 l0_3).bind fun bt282 => ((laws_toDigest.f kj109 a1_0 a1_1 a1_2 l1_3).bind fun bt288 => ((impl_DigestJoin.f kj109 bt282.1 bt282.2.1 bt282.2.2.1 bt282.2.2.2 bt288.1 bt288.2.1 bt288.2.2.1 bt288.2.2.2).bind fun bt294 => ((laws_eqDigest.f kj109 bt294.1 bt294.2.1 bt294.2.2.1 bt294.2.2.2.1 t229 t230 t231 t232).bind fun t302 => (if t302 = true then (laws_FnExactDigestJoin.j2 kj109 bt279.1 (bt294.2.2.2.2 != t235) t251 t252 t253 bt279.2) else (laws_FnExactDigestJoin.j2 kj109 bt279.1 true t251 t252 t253 bt279.2)))))) else (some false))))) = some r := by rw [if_neg (show ¬ (false = true) by decide)] at H; exact H
   clear H
   have H := H1
   clear H1
   replace H := Option.bind_eq_some_iff.mp H
   obtain ⟨⟨t279, t280⟩, A1600, H⟩ := H
   replace H : ((laws_heldDigest.f kj109 t251 t252 t253 t280 1).bind fun t281 => (if t281 < 0 then (some false) else (if t281 = t279 then ((laws_toDigest.f kj109 a0_0 a0_1 a0_2 l0_3).bind fun bt282 => ((laws_toDigest.f kj109 a1_0 a1_1 a1_2 l1_3).bind fun bt288 => ((impl_DigestJoin.f kj109 bt282.1 bt282.2.1 bt282.2.2.1 bt282.2.2.2 bt288.1 bt288.2.1 bt288.2.2.1 bt288.2.2.2).bind fun bt294 => ((laws_eqDigest.f kj109 bt294.1 bt294.2.1 bt294.2.2.1 bt294.2.2.2.1 t229 t230 t231 t232).bind fun t302 => (if t302 = true then (laws_FnExactDigestJoin.j2 kj109 t279 (bt294.2.2.2.2 != t235) t251 t252 t253 t280) else (laws_FnExactDigestJoin.j2 kj109 t279 true t251 t252 t253 t280)))))) else (some false)))) = some r := H
   have A160 := Aside0.mk A1600
   clear A1600
   replace H := Option.bind_eq_some_iff.mp H
   obtain ⟨t281, A1610, H⟩ := H
   replace H : (if t281 < 0 then (some false) else (if t281 = t279 then ((laws_toDigest.f kj109 a0_0 a0_1 a0_2 l0_3).bind fun bt282 => ((laws_toDigest.f kj109 a1_0 a1_1 a1_2 l1_3).bind fun bt288 => ((impl_DigestJoin.f kj109 bt282.1 bt282.2.1 bt282.2.2.1 bt282.2.2.2 bt288.1 bt288.2.1 bt288.2.2.1 bt288.2.2.2).bind fun bt294 => ((laws_eqDigest.f kj109 bt294.1 bt294.2.1 bt294.2.2.1 bt294.2.2.2.1 t229 t230 t231 t232).bind fun t302 => (if t302 = true then (laws_FnExactDigestJoin.j2 kj109 t279 (bt294.2.2.2.2 != t235) t251 t252 t253 t280) else (laws_FnExactDigestJoin.j2 kj109 t279 true t251 t252 t253 t280)))))) else (some false))) = some r := H
   have A161 := Aside0.mk A1610
   clear A1610
   by_cases c162 : t281 < 0
   ·
    rw [if_pos c162] at H
    have c162b0 : decide (t281 < 0) = true := decide_eq_true c162
    clear c162
    obtain rfl := Option.some.inj H
    have hnb163 := NB258_213.out
    have hnc163 := NB213_258.out
    have hnb164 := NB258_214.out
    have hnc164 := NB214_258.out
    have hnb165 := NB258_236.out
    have hnc165 := NB236_258.out
    have hnb166 := NB258_243.out
    have hnc166 := NB243_258.out
    have hnb167 := NB258_250.out
    have hnc167 := NB250_258.out
    have hcz168_0 : wc.cell? ⟨gb258, 0, none⟩ = some (.int .i64 t251) := (blk_cell BK258.out 0).trans rfl
    have hcz168_1 : wc.cell? ⟨gb258, 1, none⟩ = some (.int .i64 t252) := (blk_cell BK258.out 1).trans rfl
    have hcz168_2 : wc.cell? ⟨gb258, 2, none⟩ = some (.int .i64 t253) := (blk_cell BK258.out 2).trans rfl
    have hcz168_3 : wc.cell? ⟨gb258, 3, none⟩ = some (.slice Ao74 t254.length co74) := (blk_cell BK258.out 3).trans rfl
    have hfz168_0 := blk_frozen BK258.out 0
    have hfz168_1 := blk_frozen BK258.out 1
    have hfz168_2 := blk_frozen BK258.out 2
    have hfz168_3 := blk_frozen BK258.out 3
    go_wp2_with (first | ((with_reducible refine gate_callee (f := 24) rfl ?_); refine goesL_ (some 85) rfl rfl Try.func24 (by kernel_rfl) rfl #[.agg #[.int .i64 t251, .int .i64 t252, .int .i64 t253, .slice Ao74 t254.length co74], .int .i64 1] rfl zar ?_; (with_reducible refine (laws_markDigest.calls kj109 t251 t252 t253 (fun k_ => some k_ = (.slice Ao74 t254.length co74 : Value).ownBlock) (.slice Ao74 t254.length co74) t254 1 t279 t280 w _ ?side1 ?side2 A160.out).mono ?_); (case side1 => repeat (first | (with_reducible first | exact HB.out | apply below_alloc | apply pw_below_drewN | apply below_drew1 | refine below_set ?_ GE213.out | refine below_set ?_ GE214.out | refine below_set ?_ GE236.out | refine below_set ?_ GE243.out | refine below_set ?_ GE250.out | refine below_set ?_ GE258.out) | exact HB.out)); (case side2 => exact Kd.R_tight rfl HO_259003.out); rintro e w169 ⟨rfl, hy0, hb, hkp⟩; refine ⟨_, rfl, ?_⟩; have n0_ := Aside0.mk (Kd.R_mono (ok' := fun k_ => some k_ ≠ (.slice Ao54 t275.length co54 : Value).ownBlock ∧ some k_ ≠ (.slice Ao64 t277.length co64 : Value).ownBlock ∧ some k_ ≠ (.slice Ao74 t254.length co74 : Value).ownBlock) (Kd.R_keptB (HO_237003.out) hkp (fun k_ hk_ hs_ => (hk_.2.2) hs_)) (fun k_ hk_ => ⟨hk_.1.1, hk_.1.2.1, hk_.1.2.2⟩)); have n1_ := Aside0.mk (Kd.R_mono (ok' := fun k_ => some k_ ≠ (.slice Ao44 t232.length co44 : Value).ownBlock ∧ some k_ ≠ (.slice Ao64 t277.length co64 : Value).ownBlock ∧ some k_ ≠ (.slice Ao74 t254.length co74 : Value).ownBlock) (Kd.R_keptB (HO_244003.out) hkp (fun k_ hk_ hs_ => (hk_.2.2) hs_)) (fun k_ hk_ => ⟨hk_.1.1, hk_.1.2.1, hk_.1.2.2⟩)); have n2_ := Aside0.mk (Kd.R_mono (ok' := fun k_ => some k_ ≠ (.slice Ao44 t232.length co44 : Value).ownBlock ∧ some k_ ≠ (.slice Ao54 t275.length co54 : Value).ownBlock ∧ some k_ ≠ (.slice Ao74 t254.length co74 : Value).ownBlock) (Kd.R_keptB (HO_251003.out) hkp (fun k_ hk_ hs_ => (hk_.2.2) hs_)) (fun k_ hk_ => ⟨hk_.1.1, hk_.1.2.1, hk_.1.2.2⟩)); have n3_ := Aside0.mk (Kd.R_reok rfl hy0 (fun k_ e_ => HO_259003.out.1 k_ e_)); have n4_ := Aside0.mk (blk_kept (zb BK213) hkp (fun hs_ => (fun e_ => (Kd.R_ne HO_259003.out BK213.out (by decide)) e_) hs_)); have n5_ := Aside0.mk (blk_kept (zb BK214) hkp (fun hs_ => (fun e_ => (Kd.R_ne HO_259003.out BK214.out (by decide)) e_) hs_)); have n6_ := Aside0.mk (blk_kept (zb BK236) hkp (fun hs_ => (fun e_ => (Kd.R_ne HO_259003.out BK236.out (by decide)) e_) hs_)); have n7_ := Aside0.mk (blk_kept (zb BK243) hkp (fun hs_ => (fun e_ => (Kd.R_ne HO_259003.out BK243.out (by decide)) e_) hs_)); have n8_ := Aside0.mk (blk_kept (zb BK250) hkp (fun hs_ => (fun e_ => (Kd.R_ne HO_259003.out BK250.out (by decide)) e_) hs_)); have n9_ := Aside0.mk (blk_kept (zb BK258) hkp (fun hs_ => (fun e_ => (Kd.R_ne HO_259003.out BK258.out (by decide)) e_) hs_)); have n10_ := Aside0.mk (hb); clear HO_237003; clear HO_244003; clear HO_251003; clear HO_259003; clear BK213; clear BK214; clear BK236; clear BK243; clear BK250; clear BK258; clear HB; have HO_237003 := n0_; have HO_244003 := n1_; have HO_251003 := n2_; have HO_259003 := n3_; have BK213 := n4_; have BK214 := n5_; have BK236 := n6_; have BK243 := n7_; have BK250 := n8_; have BK258 := n9_; have HB := n10_; clear n0_ n1_ n2_ n3_ n4_ n5_ n6_ n7_ n8_ n9_ n10_; (try clear hb); (try clear hkp); (try clear hy0); have hcz170_0 : w169.cell? ⟨gb258, 0, none⟩ = some (.int .i64 t251) := (blk_cell BK258.out 0).trans rfl; have hcz170_1 : w169.cell? ⟨gb258, 1, none⟩ = some (.int .i64 t252) := (blk_cell BK258.out 1).trans rfl; have hcz170_2 : w169.cell? ⟨gb258, 2, none⟩ = some (.int .i64 t253) := (blk_cell BK258.out 2).trans rfl; have hcz170_3 : w169.cell? ⟨gb258, 3, none⟩ = some (.slice Ao74 t254.length co74) := (blk_cell BK258.out 3).trans rfl; have hfz170_0 := blk_frozen BK258.out 0; have hfz170_1 := blk_frozen BK258.out 1; have hfz170_2 := blk_frozen BK258.out 2; have hfz170_3 := blk_frozen BK258.out 3) | ((with_reducible refine gate_callee (f := 25) rfl ?_); refine goesL_ (some 88) rfl rfl Try.func25 (by kernel_rfl) rfl #[.agg #[.int .i64 t251, .int .i64 t252, .int .i64 t253, .slice Ao74 t280.length co74], .int .i64 1] rfl (by (try simp only [List.map_toArray, List.map_cons, List.map_nil]); first | done | (rw [show t280.length = t254.length from (Kd.R_reads' HO_259003.out).1.symm] <;> rfl) | rfl | (simp only [List.length_drop, List.length_take]; rfl)) ?_; (with_reducible refine (laws_heldDigest.calls kj109 t251 t252 t253 _ _ t280 1 t281 _ ?side1 ?side2 A161.out).mono ?_); (case side1 => repeat (first | exact (Kd.R_reads' HO_259003.out).2.2 | (with_reducible refine Kd.C_alloc ?_ _) | (with_reducible refine Kd.C_drewN ?_ _) | (with_reducible refine Kd.C_drew ?_))); (case side2 => rw [show t280.length = t254.length from (Kd.R_reads' HO_259003.out).1.symm]; exact (Kd.R_reads' HO_259003.out).2.1); rintro e w171 ⟨rfl, hb⟩; refine ⟨_, rfl, ?_⟩; have n0_ := Aside0.mk (Kd.R_below (zr HO_237003) hb); have n1_ := Aside0.mk (Kd.R_below (zr HO_244003) hb); have n2_ := Aside0.mk (Kd.R_below (zr HO_251003) hb); have n3_ := Aside0.mk (Kd.R_below (zr HO_259003) hb); have n4_ := Aside0.mk (blk_below (zb BK213) hb); have n5_ := Aside0.mk (blk_below (zb BK214) hb); have n6_ := Aside0.mk (blk_below (zb BK236) hb); have n7_ := Aside0.mk (blk_below (zb BK243) hb); have n8_ := Aside0.mk (blk_below (zb BK250) hb); have n9_ := Aside0.mk (blk_below (zb BK258) hb); have n10_ := Aside0.mk (below_step (zg HB) hb); clear HO_237003; clear HO_244003; clear HO_251003; clear HO_259003; clear BK213; clear BK214; clear BK236; clear BK243; clear BK250; clear BK258; clear HB; have HO_237003 := n0_; have HO_244003 := n1_; have HO_251003 := n2_; have HO_259003 := n3_; have BK213 := n4_; have BK214 := n5_; have BK236 := n6_; have BK243 := n7_; have BK250 := n8_; have BK258 := n9_; have HB := n10_; clear n0_ n1_ n2_ n3_ n4_ n5_ n6_ n7_ n8_ n9_ n10_; (try clear hb); (try clear hb2); (try clear hk); (try clear hi)))
    go_ret
    exact ⟨zre, zg HB⟩
   ·
    rw [if_neg c162] at H
    have c162b0 : decide (t281 < 0) = false := decide_eq_false c162
    clear c162
    by_cases c172 : t281 = t279
    ·
     rw [if_pos c172] at H
     have c172b0 : (t281 == t279) = true := beq_iff_eq.mpr c172
     have c172b1 : (t281 != t279) = false := bne_eq_false_iff_eq.mpr c172
     clear c172
     replace H := Option.bind_eq_some_iff.mp H
     obtain ⟨⟨t282, t283, t284, t285⟩, A1730, H⟩ := H
     replace H : ((laws_toDigest.f kj109 a1_0 a1_1 a1_2 l1_3).bind fun bt288 => ((impl_DigestJoin.f kj109 t282 t283 t284 t285 bt288.1 bt288.2.1 bt288.2.2.1 bt288.2.2.2).bind fun bt294 => ((laws_eqDigest.f kj109 bt294.1 bt294.2.1 bt294.2.2.1 bt294.2.2.2.1 t229 t230 t231 t232).bind fun t302 => (if t302 = true then (laws_FnExactDigestJoin.j2 kj109 t279 (bt294.2.2.2.2 != t235) t251 t252 t253 t280) else (laws_FnExactDigestJoin.j2 kj109 t279 true t251 t252 t253 t280))))) = some r := H
     have A173 := Aside0.mk A1730
     clear A1730
     replace H := Option.bind_eq_some_iff.mp H
     obtain ⟨⟨t288, t289, t290, t291⟩, A1740, H⟩ := H
     replace H : ((impl_DigestJoin.f kj109 t282 t283 t284 t285 t288 t289 t290 t291).bind fun bt294 => ((laws_eqDigest.f kj109 bt294.1 bt294.2.1 bt294.2.2.1 bt294.2.2.2.1 t229 t230 t231 t232).bind fun t302 => (if t302 = true then (laws_FnExactDigestJoin.j2 kj109 t279 (bt294.2.2.2.2 != t235) t251 t252 t253 t280) else (laws_FnExactDigestJoin.j2 kj109 t279 true t251 t252 t253 t280)))) = some r := H
     have A174 := Aside0.mk A1740
     clear A1740
     replace H := Option.bind_eq_some_iff.mp H
     obtain ⟨⟨t294, t295, t296, t297, t300⟩, A1750, H⟩ := H
     replace H : ((laws_eqDigest.f kj109 t294 t295 t296 t297 t229 t230 t231 t232).bind fun t302 => (if t302 = true then (laws_FnExactDigestJoin.j2 kj109 t279 (t300 != t235) t251 t252 t253 t280) else (laws_FnExactDigestJoin.j2 kj109 t279 true t251 t252 t253 t280))) = some r := H
     have A175 := Aside0.mk A1750
     clear A1750
     have HC176 := Aside0.mk H
     clear H
     have hnb177 := NB258_213.out
     have hnc177 := NB213_258.out
     have hnb178 := NB258_214.out
     have hnc178 := NB214_258.out
     have hnb179 := NB258_236.out
     have hnc179 := NB236_258.out
     have hnb180 := NB258_243.out
     have hnc180 := NB243_258.out
     have hnb181 := NB258_250.out
     have hnc181 := NB250_258.out
     have hcz182_0 : wc.cell? ⟨gb258, 0, none⟩ = some (.int .i64 t251) := (blk_cell BK258.out 0).trans rfl
     have hcz182_1 : wc.cell? ⟨gb258, 1, none⟩ = some (.int .i64 t252) := (blk_cell BK258.out 1).trans rfl
     have hcz182_2 : wc.cell? ⟨gb258, 2, none⟩ = some (.int .i64 t253) := (blk_cell BK258.out 2).trans rfl
     have hcz182_3 : wc.cell? ⟨gb258, 3, none⟩ = some (.slice Ao74 t254.length co74) := (blk_cell BK258.out 3).trans rfl
     have hfz182_0 := blk_frozen BK258.out 0
     have hfz182_1 := blk_frozen BK258.out 1
     have hfz182_2 := blk_frozen BK258.out 2
     have hfz182_3 := blk_frozen BK258.out 3
     try go_wp2_with (first | ((with_reducible refine gate_callee (f := 24) rfl ?_); refine goesL_ (some 85) rfl rfl Try.func24 (by kernel_rfl) rfl #[.agg #[.int .i64 t251, .int .i64 t252, .int .i64 t253, .slice Ao74 t254.length co74], .int .i64 1] rfl zar ?_; (with_reducible refine (laws_markDigest.calls kj109 t251 t252 t253 (fun k_ => some k_ = (.slice Ao74 t254.length co74 : Value).ownBlock) (.slice Ao74 t254.length co74) t254 1 t279 t280 w _ ?side1 ?side2 A160.out).mono ?_); (case side1 => repeat (first | (with_reducible first | exact HB.out | apply below_alloc | apply pw_below_drewN | apply below_drew1 | refine below_set ?_ GE213.out | refine below_set ?_ GE214.out | refine below_set ?_ GE236.out | refine below_set ?_ GE243.out | refine below_set ?_ GE250.out | refine below_set ?_ GE258.out) | exact HB.out)); (case side2 => exact Kd.R_tight rfl HO_259003.out); rintro e w183 ⟨rfl, hy0, hb, hkp⟩; refine ⟨_, rfl, ?_⟩; have n0_ := Aside0.mk (Kd.R_mono (ok' := fun k_ => some k_ ≠ (.slice Ao54 t275.length co54 : Value).ownBlock ∧ some k_ ≠ (.slice Ao64 t277.length co64 : Value).ownBlock ∧ some k_ ≠ (.slice Ao74 t254.length co74 : Value).ownBlock) (Kd.R_keptB (HO_237003.out) hkp (fun k_ hk_ hs_ => (hk_.2.2) hs_)) (fun k_ hk_ => ⟨hk_.1.1, hk_.1.2.1, hk_.1.2.2⟩)); have n1_ := Aside0.mk (Kd.R_mono (ok' := fun k_ => some k_ ≠ (.slice Ao44 t232.length co44 : Value).ownBlock ∧ some k_ ≠ (.slice Ao64 t277.length co64 : Value).ownBlock ∧ some k_ ≠ (.slice Ao74 t254.length co74 : Value).ownBlock) (Kd.R_keptB (HO_244003.out) hkp (fun k_ hk_ hs_ => (hk_.2.2) hs_)) (fun k_ hk_ => ⟨hk_.1.1, hk_.1.2.1, hk_.1.2.2⟩)); have n2_ := Aside0.mk (Kd.R_mono (ok' := fun k_ => some k_ ≠ (.slice Ao44 t232.length co44 : Value).ownBlock ∧ some k_ ≠ (.slice Ao54 t275.length co54 : Value).ownBlock ∧ some k_ ≠ (.slice Ao74 t254.length co74 : Value).ownBlock) (Kd.R_keptB (HO_251003.out) hkp (fun k_ hk_ hs_ => (hk_.2.2) hs_)) (fun k_ hk_ => ⟨hk_.1.1, hk_.1.2.1, hk_.1.2.2⟩)); have n3_ := Aside0.mk (Kd.R_reok rfl hy0 (fun k_ e_ => HO_259003.out.1 k_ e_)); have n4_ := Aside0.mk (blk_kept (zb BK213) hkp (fun hs_ => (fun e_ => (Kd.R_ne HO_259003.out BK213.out (by decide)) e_) hs_)); have n5_ := Aside0.mk (blk_kept (zb BK214) hkp (fun hs_ => (fun e_ => (Kd.R_ne HO_259003.out BK214.out (by decide)) e_) hs_)); have n6_ := Aside0.mk (blk_kept (zb BK236) hkp (fun hs_ => (fun e_ => (Kd.R_ne HO_259003.out BK236.out (by decide)) e_) hs_)); have n7_ := Aside0.mk (blk_kept (zb BK243) hkp (fun hs_ => (fun e_ => (Kd.R_ne HO_259003.out BK243.out (by decide)) e_) hs_)); have n8_ := Aside0.mk (blk_kept (zb BK250) hkp (fun hs_ => (fun e_ => (Kd.R_ne HO_259003.out BK250.out (by decide)) e_) hs_)); have n9_ := Aside0.mk (blk_kept (zb BK258) hkp (fun hs_ => (fun e_ => (Kd.R_ne HO_259003.out BK258.out (by decide)) e_) hs_)); have n10_ := Aside0.mk (hb); clear HO_237003; clear HO_244003; clear HO_251003; clear HO_259003; clear BK213; clear BK214; clear BK236; clear BK243; clear BK250; clear BK258; clear HB; have HO_237003 := n0_; have HO_244003 := n1_; have HO_251003 := n2_; have HO_259003 := n3_; have BK213 := n4_; have BK214 := n5_; have BK236 := n6_; have BK243 := n7_; have BK250 := n8_; have BK258 := n9_; have HB := n10_; clear n0_ n1_ n2_ n3_ n4_ n5_ n6_ n7_ n8_ n9_ n10_; (try clear hb); (try clear hkp); (try clear hy0); have hcz184_0 : w183.cell? ⟨gb258, 0, none⟩ = some (.int .i64 t251) := (blk_cell BK258.out 0).trans rfl; have hcz184_1 : w183.cell? ⟨gb258, 1, none⟩ = some (.int .i64 t252) := (blk_cell BK258.out 1).trans rfl; have hcz184_2 : w183.cell? ⟨gb258, 2, none⟩ = some (.int .i64 t253) := (blk_cell BK258.out 2).trans rfl; have hcz184_3 : w183.cell? ⟨gb258, 3, none⟩ = some (.slice Ao74 t254.length co74) := (blk_cell BK258.out 3).trans rfl; have hfz184_0 := blk_frozen BK258.out 0; have hfz184_1 := blk_frozen BK258.out 1; have hfz184_2 := blk_frozen BK258.out 2; have hfz184_3 := blk_frozen BK258.out 3) | ((with_reducible refine gate_callee (f := 25) rfl ?_); refine goesL_ (some 88) rfl rfl Try.func25 (by kernel_rfl) rfl #[.agg #[.int .i64 t251, .int .i64 t252, .int .i64 t253, .slice Ao74 t280.length co74], .int .i64 1] rfl (by (try simp only [List.map_toArray, List.map_cons, List.map_nil]); first | done | (rw [show t280.length = t254.length from (Kd.R_reads' HO_259003.out).1.symm] <;> rfl) | rfl | (simp only [List.length_drop, List.length_take]; rfl)) ?_; (with_reducible refine (laws_heldDigest.calls kj109 t251 t252 t253 _ _ t280 1 t281 _ ?side1 ?side2 A161.out).mono ?_); (case side1 => repeat (first | exact (Kd.R_reads' HO_259003.out).2.2 | (with_reducible refine Kd.C_alloc ?_ _) | (with_reducible refine Kd.C_drewN ?_ _) | (with_reducible refine Kd.C_drew ?_))); (case side2 => rw [show t280.length = t254.length from (Kd.R_reads' HO_259003.out).1.symm]; exact (Kd.R_reads' HO_259003.out).2.1); rintro e w185 ⟨rfl, hb⟩; refine ⟨_, rfl, ?_⟩; have n0_ := Aside0.mk (Kd.R_below (zr HO_237003) hb); have n1_ := Aside0.mk (Kd.R_below (zr HO_244003) hb); have n2_ := Aside0.mk (Kd.R_below (zr HO_251003) hb); have n3_ := Aside0.mk (Kd.R_below (zr HO_259003) hb); have n4_ := Aside0.mk (blk_below (zb BK213) hb); have n5_ := Aside0.mk (blk_below (zb BK214) hb); have n6_ := Aside0.mk (blk_below (zb BK236) hb); have n7_ := Aside0.mk (blk_below (zb BK243) hb); have n8_ := Aside0.mk (blk_below (zb BK250) hb); have n9_ := Aside0.mk (blk_below (zb BK258) hb); have n10_ := Aside0.mk (below_step (zg HB) hb); clear HO_237003; clear HO_244003; clear HO_251003; clear HO_259003; clear BK213; clear BK214; clear BK236; clear BK243; clear BK250; clear BK258; clear HB; have HO_237003 := n0_; have HO_244003 := n1_; have HO_251003 := n2_; have HO_259003 := n3_; have BK213 := n4_; have BK214 := n5_; have BK236 := n6_; have BK243 := n7_; have BK250 := n8_; have BK258 := n9_; have HB := n10_; clear n0_ n1_ n2_ n3_ n4_ n5_ n6_ n7_ n8_ n9_ n10_; (try clear hb); (try clear hb2); (try clear hk); (try clear hi)))
     have n0_ := Aside0.mk (Kd.R_drew HO_237003.out)
     have n1_ := Aside0.mk (Kd.R_drew HO_244003.out)
     have n2_ := Aside0.mk (Kd.R_drew HO_251003.out)
     have n3_ := Aside0.mk (Kd.R_drew HO_259003.out)
     have n4_ := Aside0.mk (blk_drew BK213.out)
     have n5_ := Aside0.mk (blk_drew BK214.out)
     have n6_ := Aside0.mk (blk_drew BK236.out)
     have n7_ := Aside0.mk (blk_drew BK243.out)
     have n8_ := Aside0.mk (blk_drew BK250.out)
     have n9_ := Aside0.mk (blk_drew BK258.out)
     have n10_ := Aside0.mk (below_drew1 HB.out)
     clear HO_237003
     clear HO_244003
     clear HO_251003
     clear HO_259003
     clear BK213
     clear BK214
     clear BK236
     clear BK243
     clear BK250
     clear BK258
     clear HB
     have HO_237003 := n0_
     have HO_244003 := n1_
     have HO_251003 := n2_
     have HO_259003 := n3_
     have BK213 := n4_
     have BK214 := n5_
     have BK236 := n6_
     have BK243 := n7_
     have BK250 := n8_
     have BK258 := n9_
     have HB := n10_
     clear n0_ n1_ n2_ n3_ n4_ n5_ n6_ n7_ n8_ n9_ n10_
     refine start_ (n := 11) (S := fun w' => w'.cell? ⟨gb213, 0, none⟩ = some (.int .i64 a0_0) ∧ w'.cell? ⟨gb213, 1, none⟩ = some (.int .i64 a0_1) ∧ w'.cell? ⟨gb213, 2, none⟩ = some (.int .i64 a0_2) ∧ w'.cell? ⟨gb213, 3, none⟩ = some (.slice A0_3 l0_3.length c0_3) ∧ w'.cell? ⟨gb214, 0, none⟩ = some (.int .i64 a1_0) ∧ w'.cell? ⟨gb214, 1, none⟩ = some (.int .i64 a1_1) ∧ w'.cell? ⟨gb214, 2, none⟩ = some (.int .i64 a1_2) ∧ w'.cell? ⟨gb214, 3, none⟩ = some (.slice A1_3 l1_3.length c1_3)) (ds := []) #[false, false, false, false, false, false, false, false, false, false, false] (by kernel_rfl) rfl rfl ⟨(blk_cell BK213.out 0).trans rfl, (blk_cell BK213.out 1).trans rfl, (blk_cell BK213.out 2).trans rfl, (blk_cell BK213.out 3).trans rfl, (blk_cell BK214.out 0).trans rfl, (blk_cell BK214.out 1).trans rfl, (blk_cell BK214.out 2).trans rfl, (blk_cell BK214.out 3).trans rfl⟩ (fun hHeld => ?_); refine with_tabW laws_FnExactDigestJoin.tab31 laws_FnExactDigestJoin.bits31 (fun HT_ HW_ => ?_)
     generalize w185.drew = w186 at HO_237003 HO_244003 HO_251003 HO_259003 BK213 BK214 BK236 BK243 BK250 BK258 HB hHeld ⊢
     refine take_ (i := 0) (N := some 95) (v := ?_) (a' := ?_) #[true, false, false, false, false, false, false, false, false, false, false] rfl rfl (take_ofW HT_.out HW_.out (by kernel_rfl)) (fun _ _ _ h => h) (Or.inl ⟨by rfl, ?_⟩) hHeld ?_ ?_
     rotate_left
     ·
      rintro w' ⟨s0, s1, s2, s3, s4, s5, s6, s7⟩
      go_simp
      with_reducible rfl
     rotate_left
     ·
      simp only [Act.put, List.setIfInBounds_toArray, List.set_cons_zero, List.set_cons_succ, i64_w, i32_w]
      rfl
     refine take_ (i := 2) (N := some 97) (v := ?_) (a' := ?_) #[true, false, true, false, false, false, false, false, false, false, false] rfl rfl (take_ofW HT_.out HW_.out (by kernel_rfl)) (fun _ _ _ h => h) (Or.inl ⟨by rfl, ?_⟩) hHeld ?_ ?_
     rotate_left
     ·
      rintro w' ⟨s0, s1, s2, s3, s4, s5, s6, s7⟩
      go_simp
      with_reducible rfl
     rotate_left
     ·
      simp only [Act.put, List.setIfInBounds_toArray, List.set_cons_zero, List.set_cons_succ, i64_w, i32_w]
      rfl
     refine join_ (σ := Value × Value × Value × Nat) 2 #[true, true, true, true, true, true, true, true, true, false, false] (fun s_ => [(96, .agg #[.int .i64 t282, .int .i64 t283, .int .i64 t284, s_.1]), (98, .agg #[.int .i64 t288, .int .i64 t289, .int .i64 t290, s_.2.1]), (99, .tuple #[.agg #[.int .i64 t294, .int .i64 t295, .int .i64 t296, s_.2.2.1], .int .i64 t300]), (15, .pointer (some ⟨s_.2.2.2, 0, none⟩)), (94, .tuple #[.agg #[.int .i64 t294, .int .i64 t295, .int .i64 t296, s_.2.2.1], .int .i64 t300]), (100, .agg #[.int .i64 t294, .int .i64 t295, .int .i64 t296, s_.2.2.1]), (101, .int .i64 t300)]) (fun s_ w' => (w'.cell? ⟨gb213, 0, none⟩ = some (.int .i64 a0_0) ∧ w'.cell? ⟨gb213, 1, none⟩ = some (.int .i64 a0_1) ∧ w'.cell? ⟨gb213, 2, none⟩ = some (.int .i64 a0_2) ∧ w'.cell? ⟨gb213, 3, none⟩ = some (.slice A0_3 l0_3.length c0_3) ∧ w'.cell? ⟨gb214, 0, none⟩ = some (.int .i64 a1_0) ∧ w'.cell? ⟨gb214, 1, none⟩ = some (.int .i64 a1_1) ∧ w'.cell? ⟨gb214, 2, none⟩ = some (.int .i64 a1_2) ∧ w'.cell? ⟨gb214, 3, none⟩ = some (.slice A1_3 l1_3.length c1_3)) ∧ (Kd.R (Kd.int .i64) 3 w' w.heap.size (fun k_ => some k_ ≠ (s_.2.1 : Value).ownBlock ∧ some k_ ≠ (s_.2.2.1 : Value).ownBlock ∧ some k_ ≠ (.slice Ao44 t232.length co44 : Value).ownBlock ∧ some k_ ≠ (.slice Ao54 t275.length co54 : Value).ownBlock ∧ some k_ ≠ (.slice Ao64 t277.length co64 : Value).ownBlock ∧ some k_ ≠ (.slice Ao74 t254.length co74 : Value).ownBlock) s_.1 t285) ∧ (Kd.R (Kd.int .i64) 3 w' w.heap.size (fun k_ => some k_ ≠ (s_.1 : Value).ownBlock ∧ some k_ ≠ (s_.2.2.1 : Value).ownBlock ∧ some k_ ≠ (.slice Ao44 t232.length co44 : Value).ownBlock ∧ some k_ ≠ (.slice Ao54 t275.length co54 : Value).ownBlock ∧ some k_ ≠ (.slice Ao64 t277.length co64 : Value).ownBlock ∧ some k_ ≠ (.slice Ao74 t254.length co74 : Value).ownBlock) s_.2.1 t291) ∧ (Kd.R (Kd.int .i64) 3 w' w.heap.size (fun k_ => some k_ ≠ (s_.1 : Value).ownBlock ∧ some k_ ≠ (s_.2.1 : Value).ownBlock ∧ some k_ ≠ (.slice Ao44 t232.length co44 : Value).ownBlock ∧ some k_ ≠ (.slice Ao54 t275.length co54 : Value).ownBlock ∧ some k_ ≠ (.slice Ao64 t277.length co64 : Value).ownBlock ∧ some k_ ≠ (.slice Ao74 t254.length co74 : Value).ownBlock) s_.2.2.1 t297) ∧ (Kd.R (Kd.int .i64) 3 w' w.heap.size (fun k_ => some k_ ≠ (s_.1 : Value).ownBlock ∧ some k_ ≠ (s_.2.1 : Value).ownBlock ∧ some k_ ≠ (s_.2.2.1 : Value).ownBlock ∧ some k_ ≠ (.slice Ao54 t275.length co54 : Value).ownBlock ∧ some k_ ≠ (.slice Ao64 t277.length co64 : Value).ownBlock ∧ some k_ ≠ (.slice Ao74 t254.length co74 : Value).ownBlock) (.slice Ao44 t232.length co44) t232) ∧ (Kd.R (Kd.int .i64) 3 w' w.heap.size (fun k_ => some k_ ≠ (s_.1 : Value).ownBlock ∧ some k_ ≠ (s_.2.1 : Value).ownBlock ∧ some k_ ≠ (s_.2.2.1 : Value).ownBlock ∧ some k_ ≠ (.slice Ao44 t232.length co44 : Value).ownBlock ∧ some k_ ≠ (.slice Ao64 t277.length co64 : Value).ownBlock ∧ some k_ ≠ (.slice Ao74 t254.length co74 : Value).ownBlock) (.slice Ao54 t275.length co54) t275) ∧ (Kd.R (Kd.int .i64) 3 w' w.heap.size (fun k_ => some k_ ≠ (s_.1 : Value).ownBlock ∧ some k_ ≠ (s_.2.1 : Value).ownBlock ∧ some k_ ≠ (s_.2.2.1 : Value).ownBlock ∧ some k_ ≠ (.slice Ao44 t232.length co44 : Value).ownBlock ∧ some k_ ≠ (.slice Ao54 t275.length co54 : Value).ownBlock ∧ some k_ ≠ (.slice Ao74 t254.length co74 : Value).ownBlock) (.slice Ao64 t277.length co64) t277) ∧ (Kd.R (Kd.int .i64) 3 w' w.heap.size (fun k_ => some k_ ≠ (s_.1 : Value).ownBlock ∧ some k_ ≠ (s_.2.1 : Value).ownBlock ∧ some k_ ≠ (s_.2.2.1 : Value).ownBlock ∧ some k_ ≠ (.slice Ao44 t232.length co44 : Value).ownBlock ∧ some k_ ≠ (.slice Ao54 t275.length co54 : Value).ownBlock ∧ some k_ ≠ (.slice Ao64 t277.length co64 : Value).ownBlock) (.slice Ao74 t254.length co74) t280) ∧ (w'.heap[gb213]? = some (.cells #[.int .i64 a0_0, .int .i64 a0_1, .int .i64 a0_2, .slice A0_3 l0_3.length c0_3] 46 (0, 0))) ∧ (w'.heap[gb214]? = some (.cells #[.int .i64 a1_0, .int .i64 a1_1, .int .i64 a1_2, .slice A1_3 l1_3.length c1_3] 46 (0, 0))) ∧ (w'.heap[gb236]? = some (.cells #[.int .i64 t229, .int .i64 t230, .int .i64 t231, .slice Ao44 t232.length co44] 37 (0, 0))) ∧ (w'.heap[gb243]? = some (.cells #[.int .i64 t237, .int .i64 t238, .int .i64 t239, .slice Ao54 t275.length co54] 37 (0, 0))) ∧ (w'.heap[gb250]? = some (.cells #[.int .i64 t244, .int .i64 t245, .int .i64 t246, .slice Ao64 t277.length co64] 37 (0, 0))) ∧ (w'.heap[gb258]? = some (.cells #[.int .i64 t251, .int .i64 t252, .int .i64 t253, .slice Ao74 t254.length co74] 37 (0, 0))) ∧ (w'.heap[s_.2.2.2]? = some (.cells #[.int .i64 0, .int .i64 0, .int .i64 0, .slice none 0 0] 37 (0, 0))) ∧ (w.heap.size ≤ s_.2.2.2) ∧ (w.heap.size ≤ s_.2.2.2) ∧ (gb213 ≠ s_.2.2.2) ∧ (s_.2.2.2 ≠ gb213) ∧ (gb214 ≠ s_.2.2.2) ∧ (s_.2.2.2 ≠ gb214) ∧ (gb236 ≠ s_.2.2.2) ∧ (s_.2.2.2 ≠ gb236) ∧ (gb243 ≠ s_.2.2.2) ∧ (s_.2.2.2 ≠ gb243) ∧ (gb250 ≠ s_.2.2.2) ∧ (s_.2.2.2 ≠ gb250) ∧ (gb258 ≠ s_.2.2.2) ∧ (s_.2.2.2 ≠ gb258) ∧ (Below w.heap.size w w')) ?_ ?_
     rotate_left
     ·
      intro hCont
      exact laws_FnExactDigestJoin.reg2 k a0_0 a0_1 a0_2 A0_3 c0_3 l0_3 a1_0 a1_1 a1_2 A1_3 c1_3 l1_3 r w hu46 hu37 HR0_3 HC0_3 HR1_3 HC1_3 t215 A3 c4b0 t216 A10 c11b0 t217 t218 t219 t220 A19 t223 t224 t225 t226 A20 t229 t230 t231 t232 t235 A21 t237 t238 t239 t240 A22 t244 t245 t246 t247 A23 t251 t252 t253 t254 t257 A24 gb213 w26 GW213 GE213 gb214 w27 GW214 GE214 NB213_214 NB214_213 hnb28 hnc28 hcz29_0 hcz29_1 hcz29_2 hcz29_3 hfz29_0 hfz29_1 hfz29_2 hfz29_3 w30 hcz31_0 hcz31_1 hcz31_2 hcz31_3 hfz31_0 hfz31_1 hfz31_2 hfz31_3 w32 w33 v221 v227 gb236 w40 hS_ GW236 GE236 NB213_236 NB236_213 NB214_236 NB236_214 Ao44 co44 hs41 hfs41 hns41_0 hns41_1 hms41_0 hms41_1 hs42 hfs42 hns42_0 hns42_1 hms42_0 hms42_1 hs43 hfs43 hns43_0 hns43_1 hms43_0 hms43_1 hs45 hfs45 hns45_0 hns45_1 hms45_0 hms45_1 hnb46 hnc46 w48 gb243 w49 GW243 GE243 NB213_243 NB243_213 NB214_243 NB243_214 NB236_243 NB243_236 hnb50 hnc50 hnb51 hnc51 hnb52 hnc52 Ao54 co54 hnb55 hnc55 w57 gb250 w58 GW250 GE250 NB213_250 NB250_213 NB214_250 NB250_214 NB236_250 NB250_236 NB243_250 NB250_243 hnb59 hnc59 hnb60 hnc60 hnb61 hnc61 hnb62 hnc62 Ao64 co64 w66 gb258 w67 GW258 GE258 NB213_258 NB258_213 NB214_258 NB258_214 NB236_258 NB258_236 NB243_258 NB258_243 NB250_258 NB258_250 hnb68 hnc68 hnb69 hnc69 hnb70 hnc70 hnb71 hnc71 hnb72 hnc72 Ao74 co74 HO222 HO228 HO234 HO242 HO249 HO256 kj24 HJ24 t260 t261 t262 t263 A102 A103 t267 t268 t269 t270 A105 A106 t274 t275 A108 t276 t277 A109 w111 w112 Ao113 co113 w114 w115 w116 Ao117 co117 w118 hnb119 hnc119 hnb120 hnc120 hnb121 hnc121 hnb122 hnc122 hnb123 hnc123 w125 hnb126 hnc126 hnb127 hnc127 hnb128 hnc128 hnb129 hnc129 w131 HO265 HO272 wc u17 u18 u19 u20 u21 u22 u23 u24 u25 u26 u27 u28 u29 u30 u31 u32 u33 u34 u35 u36 u37 u38 u39 u40 u41 u42 u43 u44 u45 u46 u47 u48 u49 u50 u51 u52 u53 u54 u55 u56 u57 u58 u59 u60 u61 u62 u63 u64 u65 u66 u67 u68 u69 u70 u71 u72 u73 u74 u75 u76 u77 u78 u79 u80 u81 u83 u84 u85 u86 u87 u88 u89 u90 u91 u92 u93 u94 u95 u96 u97 u98 u99 u100 u101 u102 u103 u104 u105 u106 u107 u108 u109 u110 u111 u112 u113 u114 u115 u116 u117 u118 hl244003_109 hl251003_109 kj109 HJ109 t279 t280 A160 t281 A161 c162b0 c172b0 c172b1 t282 t283 t284 t285 A173 t288 t289 t290 t291 A174 t294 t295 t296 t297 t300 A175 hnb177 hnc177 hnb178 hnc178 hnb179 hnc179 hnb180 hnc180 hnb181 hnc181 hcz182_0 hcz182_1 hcz182_2 hcz182_3 hfz182_0 hfz182_1 hfz182_2 hfz182_3 w183 hcz184_0 hcz184_1 hcz184_2 hcz184_3 hfz184_0 hfz184_1 hfz184_2 hfz184_3 w185 HT_ HW_ w186 HO_237003 HO_244003 HO_251003 HO_259003 BK213 BK214 BK236 BK243 BK250 BK258 HB hHeld hCont
     rintro ⟨v286, v292, v298, gb301⟩ w193 ⟨hS_, h0_, h1_, h2_, h3_, h4_, h5_, h6_, h7_, h8_, h9_, h10_, h11_, h12_, h13_, h14_, h15_, h16_, h17_, h18_, h19_, h20_, h21_, h22_, h23_, h24_, h25_, h26_, h27_, h28_⟩
     have n0_ : Aside0 (Kd.R (Kd.int .i64) 3 w193 w.heap.size (fun k_ => some k_ ≠ (v292 : Value).ownBlock ∧ some k_ ≠ (v298 : Value).ownBlock ∧ some k_ ≠ (.slice Ao44 t232.length co44 : Value).ownBlock ∧ some k_ ≠ (.slice Ao54 t275.length co54 : Value).ownBlock ∧ some k_ ≠ (.slice Ao64 t277.length co64 : Value).ownBlock ∧ some k_ ≠ (.slice Ao74 t254.length co74 : Value).ownBlock) v286 t285) := ⟨h0_⟩
     have n1_ : Aside0 (Kd.R (Kd.int .i64) 3 w193 w.heap.size (fun k_ => some k_ ≠ (v286 : Value).ownBlock ∧ some k_ ≠ (v298 : Value).ownBlock ∧ some k_ ≠ (.slice Ao44 t232.length co44 : Value).ownBlock ∧ some k_ ≠ (.slice Ao54 t275.length co54 : Value).ownBlock ∧ some k_ ≠ (.slice Ao64 t277.length co64 : Value).ownBlock ∧ some k_ ≠ (.slice Ao74 t254.length co74 : Value).ownBlock) v292 t291) := ⟨h1_⟩
     have n2_ : Aside0 (Kd.R (Kd.int .i64) 3 w193 w.heap.size (fun k_ => some k_ ≠ (v286 : Value).ownBlock ∧ some k_ ≠ (v292 : Value).ownBlock ∧ some k_ ≠ (.slice Ao44 t232.length co44 : Value).ownBlock ∧ some k_ ≠ (.slice Ao54 t275.length co54 : Value).ownBlock ∧ some k_ ≠ (.slice Ao64 t277.length co64 : Value).ownBlock ∧ some k_ ≠ (.slice Ao74 t254.length co74 : Value).ownBlock) v298 t297) := ⟨h2_⟩
     have n3_ : Aside0 (Kd.R (Kd.int .i64) 3 w193 w.heap.size (fun k_ => some k_ ≠ (v286 : Value).ownBlock ∧ some k_ ≠ (v292 : Value).ownBlock ∧ some k_ ≠ (v298 : Value).ownBlock ∧ some k_ ≠ (.slice Ao54 t275.length co54 : Value).ownBlock ∧ some k_ ≠ (.slice Ao64 t277.length co64 : Value).ownBlock ∧ some k_ ≠ (.slice Ao74 t254.length co74 : Value).ownBlock) (.slice Ao44 t232.length co44) t232) := ⟨h3_⟩
     have n4_ : Aside0 (Kd.R (Kd.int .i64) 3 w193 w.heap.size (fun k_ => some k_ ≠ (v286 : Value).ownBlock ∧ some k_ ≠ (v292 : Value).ownBlock ∧ some k_ ≠ (v298 : Value).ownBlock ∧ some k_ ≠ (.slice Ao44 t232.length co44 : Value).ownBlock ∧ some k_ ≠ (.slice Ao64 t277.length co64 : Value).ownBlock ∧ some k_ ≠ (.slice Ao74 t254.length co74 : Value).ownBlock) (.slice Ao54 t275.length co54) t275) := ⟨h4_⟩
     have n5_ : Aside0 (Kd.R (Kd.int .i64) 3 w193 w.heap.size (fun k_ => some k_ ≠ (v286 : Value).ownBlock ∧ some k_ ≠ (v292 : Value).ownBlock ∧ some k_ ≠ (v298 : Value).ownBlock ∧ some k_ ≠ (.slice Ao44 t232.length co44 : Value).ownBlock ∧ some k_ ≠ (.slice Ao54 t275.length co54 : Value).ownBlock ∧ some k_ ≠ (.slice Ao74 t254.length co74 : Value).ownBlock) (.slice Ao64 t277.length co64) t277) := ⟨h5_⟩
     have n6_ : Aside0 (Kd.R (Kd.int .i64) 3 w193 w.heap.size (fun k_ => some k_ ≠ (v286 : Value).ownBlock ∧ some k_ ≠ (v292 : Value).ownBlock ∧ some k_ ≠ (v298 : Value).ownBlock ∧ some k_ ≠ (.slice Ao44 t232.length co44 : Value).ownBlock ∧ some k_ ≠ (.slice Ao54 t275.length co54 : Value).ownBlock ∧ some k_ ≠ (.slice Ao64 t277.length co64 : Value).ownBlock) (.slice Ao74 t254.length co74) t280) := ⟨h6_⟩
     have n7_ : Aside0 (w193.heap[gb213]? = some (.cells #[.int .i64 a0_0, .int .i64 a0_1, .int .i64 a0_2, .slice A0_3 l0_3.length c0_3] 46 (0, 0))) := ⟨h7_⟩
     have n8_ : Aside0 (w193.heap[gb214]? = some (.cells #[.int .i64 a1_0, .int .i64 a1_1, .int .i64 a1_2, .slice A1_3 l1_3.length c1_3] 46 (0, 0))) := ⟨h8_⟩
     have n9_ : Aside0 (w193.heap[gb236]? = some (.cells #[.int .i64 t229, .int .i64 t230, .int .i64 t231, .slice Ao44 t232.length co44] 37 (0, 0))) := ⟨h9_⟩
     have n10_ : Aside0 (w193.heap[gb243]? = some (.cells #[.int .i64 t237, .int .i64 t238, .int .i64 t239, .slice Ao54 t275.length co54] 37 (0, 0))) := ⟨h10_⟩
     have n11_ : Aside0 (w193.heap[gb250]? = some (.cells #[.int .i64 t244, .int .i64 t245, .int .i64 t246, .slice Ao64 t277.length co64] 37 (0, 0))) := ⟨h11_⟩
     have n12_ : Aside0 (w193.heap[gb258]? = some (.cells #[.int .i64 t251, .int .i64 t252, .int .i64 t253, .slice Ao74 t254.length co74] 37 (0, 0))) := ⟨h12_⟩
     have n13_ : Aside0 (w193.heap[gb301]? = some (.cells #[.int .i64 0, .int .i64 0, .int .i64 0, .slice none 0 0] 37 (0, 0))) := ⟨h13_⟩
     have n14_ : Aside0 (w.heap.size ≤ gb301) := ⟨h14_⟩
     have n15_ : Aside0 (w.heap.size ≤ gb301) := ⟨h15_⟩
     have n16_ : Aside0 (gb213 ≠ gb301) := ⟨h16_⟩
     have n17_ : Aside0 (gb301 ≠ gb213) := ⟨h17_⟩
     have n18_ : Aside0 (gb214 ≠ gb301) := ⟨h18_⟩
     have n19_ : Aside0 (gb301 ≠ gb214) := ⟨h19_⟩
     have n20_ : Aside0 (gb236 ≠ gb301) := ⟨h20_⟩
     have n21_ : Aside0 (gb301 ≠ gb236) := ⟨h21_⟩
     have n22_ : Aside0 (gb243 ≠ gb301) := ⟨h22_⟩
     have n23_ : Aside0 (gb301 ≠ gb243) := ⟨h23_⟩
     have n24_ : Aside0 (gb250 ≠ gb301) := ⟨h24_⟩
     have n25_ : Aside0 (gb301 ≠ gb250) := ⟨h25_⟩
     have n26_ : Aside0 (gb258 ≠ gb301) := ⟨h26_⟩
     have n27_ : Aside0 (gb301 ≠ gb258) := ⟨h27_⟩
     have n28_ : Aside0 (Below w.heap.size w w193) := ⟨h28_⟩
     clear HO_237003
     clear HO_244003
     clear HO_251003
     clear HO_259003
     clear BK213
     clear BK214
     clear BK236
     clear BK243
     clear BK250
     clear BK258
     clear HB
     clear h0_ h1_ h2_ h3_ h4_ h5_ h6_ h7_ h8_ h9_ h10_ h11_ h12_ h13_ h14_ h15_ h16_ h17_ h18_ h19_ h20_ h21_ h22_ h23_ h24_ h25_ h26_ h27_ h28_
     have HO287 := n0_
     have HO293 := n1_
     have HO299 := n2_
     have HO_237003 := n3_
     have HO_244003 := n4_
     have HO_251003 := n5_
     have HO_259003 := n6_
     have BK213 := n7_
     have BK214 := n8_
     have BK236 := n9_
     have BK243 := n10_
     have BK250 := n11_
     have BK258 := n12_
     have BK301 := n13_
     have GW301 := n14_
     have GE301 := n15_
     have NB213_301 := n16_
     have NB301_213 := n17_
     have NB214_301 := n18_
     have NB301_214 := n19_
     have NB236_301 := n20_
     have NB301_236 := n21_
     have NB243_301 := n22_
     have NB301_243 := n23_
     have NB250_301 := n24_
     have NB301_250 := n25_
     have NB258_301 := n26_
     have NB301_258 := n27_
     have HB := n28_
     clear n0_ n1_ n2_ n3_ n4_ n5_ n6_ n7_ n8_ n9_ n10_ n11_ n12_ n13_ n14_ n15_ n16_ n17_ n18_ n19_ n20_ n21_ n22_ n23_ n24_ n25_ n26_ n27_ n28_
     have hHeld : w193.cell? ⟨gb213, 0, none⟩ = some (.int .i64 a0_0) ∧ w193.cell? ⟨gb213, 1, none⟩ = some (.int .i64 a0_1) ∧ w193.cell? ⟨gb213, 2, none⟩ = some (.int .i64 a0_2) ∧ w193.cell? ⟨gb213, 3, none⟩ = some (.slice A0_3 l0_3.length c0_3) ∧ w193.cell? ⟨gb214, 0, none⟩ = some (.int .i64 a1_0) ∧ w193.cell? ⟨gb214, 1, none⟩ = some (.int .i64 a1_1) ∧ w193.cell? ⟨gb214, 2, none⟩ = some (.int .i64 a1_2) ∧ w193.cell? ⟨gb214, 3, none⟩ = some (.slice A1_3 l1_3.length c1_3) := hS_
     obtain ⟨Ao197, co197, eo197⟩ := Kd.R_slice HO299.out
     (first | subst eo197 | (injection eo197 with f1_ f2_ f3_; have f4_ := f1_.symm; have f5_ := f3_.symm; clear f1_ f2_ f3_; subst f4_; subst f5_))
     refine norm_ (a' := ?_) ?_ ?_
     rotate_left
     ·
      simp only [putAll, Act.put, List.setIfInBounds_toArray, List.set_cons_zero, List.set_cons_succ]
      rfl
     refine one_ (i := 9) (N := none) #[true, true, true, true, true, true, true, true, true, true, false] rfl rfl (one_of HT_.out (by kernel_rfl)) (by decide) (fun K hK => ?_)
     have hs194 : w193.cell? ⟨gb301, 0, none⟩ = some (.int .i64 0) := (blk_cell BK301.out 0).trans rfl
     have hfs194 := blk_frozen BK301.out 0
     have hns194_0 := NB213_301.out
     have hns194_1 := NB214_301.out
     have hns194_2 := NB236_301.out
     have hns194_3 := NB243_301.out
     have hns194_4 := NB250_301.out
     have hns194_5 := NB258_301.out
     have hms194_0 := NB301_213.out
     have hms194_1 := NB301_214.out
     have hms194_2 := NB301_236.out
     have hms194_3 := NB301_243.out
     have hms194_4 := NB301_250.out
     have hms194_5 := NB301_258.out
     have hs195 : w193.cell? ⟨gb301, 1, none⟩ = some (.int .i64 0) := (blk_cell BK301.out 1).trans rfl
     have hfs195 := blk_frozen BK301.out 1
     have hns195_0 := NB213_301.out
     have hns195_1 := NB214_301.out
     have hns195_2 := NB236_301.out
     have hns195_3 := NB243_301.out
     have hns195_4 := NB250_301.out
     have hns195_5 := NB258_301.out
     have hms195_0 := NB301_213.out
     have hms195_1 := NB301_214.out
     have hms195_2 := NB301_236.out
     have hms195_3 := NB301_243.out
     have hms195_4 := NB301_250.out
     have hms195_5 := NB301_258.out
     have hs196 : w193.cell? ⟨gb301, 2, none⟩ = some (.int .i64 0) := (blk_cell BK301.out 2).trans rfl
     have hfs196 := blk_frozen BK301.out 2
     have hns196_0 := NB213_301.out
     have hns196_1 := NB214_301.out
     have hns196_2 := NB236_301.out
     have hns196_3 := NB243_301.out
     have hns196_4 := NB250_301.out
     have hns196_5 := NB258_301.out
     have hms196_0 := NB301_213.out
     have hms196_1 := NB301_214.out
     have hms196_2 := NB301_236.out
     have hms196_3 := NB301_243.out
     have hms196_4 := NB301_250.out
     have hms196_5 := NB301_258.out
     have hs198 : w193.cell? ⟨gb301, 3, none⟩ = some (.slice none 0 0) := (blk_cell BK301.out 3).trans rfl
     have hfs198 := blk_frozen BK301.out 3
     have hns198_0 := NB213_301.out
     have hns198_1 := NB214_301.out
     have hns198_2 := NB236_301.out
     have hns198_3 := NB243_301.out
     have hns198_4 := NB250_301.out
     have hns198_5 := NB258_301.out
     have hms198_0 := NB301_213.out
     have hms198_1 := NB301_214.out
     have hms198_2 := NB301_236.out
     have hms198_3 := NB301_243.out
     have hms198_4 := NB301_250.out
     have hms198_5 := NB301_258.out
     refine skip_ (w1 := ?_) (by rfl) rfl ?_ ?_
     rotate_left
     ·
      go_simp
      rfl
     refine hK.out _ _ ⟨((cell_far (p := ⟨gb301, _, none⟩) NB213_301.out _).trans (((cell_far (p := ⟨gb301, _, none⟩) NB213_301.out _).trans (((cell_far (p := ⟨gb301, _, none⟩) NB213_301.out _).trans (((cell_far (p := ⟨gb301, _, none⟩) NB213_301.out _).trans (hHeld.1)))))))), ((cell_far (p := ⟨gb301, _, none⟩) NB213_301.out _).trans (((cell_far (p := ⟨gb301, _, none⟩) NB213_301.out _).trans (((cell_far (p := ⟨gb301, _, none⟩) NB213_301.out _).trans (((cell_far (p := ⟨gb301, _, none⟩) NB213_301.out _).trans (hHeld.2.1)))))))), ((cell_far (p := ⟨gb301, _, none⟩) NB213_301.out _).trans (((cell_far (p := ⟨gb301, _, none⟩) NB213_301.out _).trans (((cell_far (p := ⟨gb301, _, none⟩) NB213_301.out _).trans (((cell_far (p := ⟨gb301, _, none⟩) NB213_301.out _).trans (hHeld.2.2.1)))))))), ((cell_far (p := ⟨gb301, _, none⟩) NB213_301.out _).trans (((cell_far (p := ⟨gb301, _, none⟩) NB213_301.out _).trans (((cell_far (p := ⟨gb301, _, none⟩) NB213_301.out _).trans (((cell_far (p := ⟨gb301, _, none⟩) NB213_301.out _).trans (hHeld.2.2.2.1)))))))), ((cell_far (p := ⟨gb301, _, none⟩) NB214_301.out _).trans (((cell_far (p := ⟨gb301, _, none⟩) NB214_301.out _).trans (((cell_far (p := ⟨gb301, _, none⟩) NB214_301.out _).trans (((cell_far (p := ⟨gb301, _, none⟩) NB214_301.out _).trans (hHeld.2.2.2.2.1)))))))), ((cell_far (p := ⟨gb301, _, none⟩) NB214_301.out _).trans (((cell_far (p := ⟨gb301, _, none⟩) NB214_301.out _).trans (((cell_far (p := ⟨gb301, _, none⟩) NB214_301.out _).trans (((cell_far (p := ⟨gb301, _, none⟩) NB214_301.out _).trans (hHeld.2.2.2.2.2.1)))))))), ((cell_far (p := ⟨gb301, _, none⟩) NB214_301.out _).trans (((cell_far (p := ⟨gb301, _, none⟩) NB214_301.out _).trans (((cell_far (p := ⟨gb301, _, none⟩) NB214_301.out _).trans (((cell_far (p := ⟨gb301, _, none⟩) NB214_301.out _).trans (hHeld.2.2.2.2.2.2.1)))))))), ((cell_far (p := ⟨gb301, _, none⟩) NB214_301.out _).trans (((cell_far (p := ⟨gb301, _, none⟩) NB214_301.out _).trans (((cell_far (p := ⟨gb301, _, none⟩) NB214_301.out _).trans (((cell_far (p := ⟨gb301, _, none⟩) NB214_301.out _).trans (hHeld.2.2.2.2.2.2.2))))))))⟩ (fun hHeld => ?_)
     clear hK K
     refine pure_ (i := 10) (N := some 16) (v := ?_) (a' := ?_) #[true, true, true, true, true, true, true, true, true, true, true] rfl rfl (any_of HT_.out (by kernel_rfl)) (fun _ _ _ h => h) (Or.inl ⟨by rfl, ?_⟩) ?_ ?_
     rotate_left
     ·
      intro w'
      go_simp
      with_reducible rfl
     rotate_left
     ·
      simp only [Act.put, List.setIfInBounds_toArray, List.set_cons_zero, List.set_cons_succ, i64_w, i32_w]
      rfl
     refine done_ (done_of HT_.out (by kernel_rfl)) ?_
     go_upto_region 32 with (fail)
     go_cut [110] (fun v110 wc => ∃ (kq : Nat) (x110_175 : Bool), v110 = .bool x110_175 ∧ Aside0 (laws_FnExactDigestJoin.j2 kq t279 x110_175 t251 t252 t253 t280 = some r) ∧ Aside0 (kq ≤ kj109) ∧ Aside0 (Kd.R (Kd.int .i64) 3 wc w.heap.size (fun k_ => some k_ ≠ ((.slice Ao54 t275.length co54) : Value).ownBlock ∧ some k_ ≠ ((.slice Ao64 t277.length co64) : Value).ownBlock ∧ some k_ ≠ ((.slice Ao74 t254.length co74) : Value).ownBlock ∧ some k_ ≠ ((.slice Ao197 t297.length co197) : Value).ownBlock) (.slice Ao44 t232.length co44) t232) ∧ Aside0 (Kd.R (Kd.int .i64) 3 wc w.heap.size (fun k_ => some k_ ≠ ((.slice Ao44 t232.length co44) : Value).ownBlock ∧ some k_ ≠ ((.slice Ao64 t277.length co64) : Value).ownBlock ∧ some k_ ≠ ((.slice Ao74 t254.length co74) : Value).ownBlock ∧ some k_ ≠ ((.slice Ao197 t297.length co197) : Value).ownBlock) (.slice Ao54 t275.length co54) t275) ∧ Aside0 (Kd.R (Kd.int .i64) 3 wc w.heap.size (fun k_ => some k_ ≠ ((.slice Ao44 t232.length co44) : Value).ownBlock ∧ some k_ ≠ ((.slice Ao54 t275.length co54) : Value).ownBlock ∧ some k_ ≠ ((.slice Ao74 t254.length co74) : Value).ownBlock ∧ some k_ ≠ ((.slice Ao197 t297.length co197) : Value).ownBlock) (.slice Ao64 t277.length co64) t277) ∧ Aside0 (Kd.R (Kd.int .i64) 3 wc w.heap.size (fun k_ => some k_ ≠ ((.slice Ao44 t232.length co44) : Value).ownBlock ∧ some k_ ≠ ((.slice Ao54 t275.length co54) : Value).ownBlock ∧ some k_ ≠ ((.slice Ao64 t277.length co64) : Value).ownBlock ∧ some k_ ≠ ((.slice Ao197 t297.length co197) : Value).ownBlock) (.slice Ao74 t254.length co74) t280) ∧ Aside0 (Kd.R (Kd.int .i64) 3 wc w.heap.size (fun k_ => some k_ ≠ ((.slice Ao44 t232.length co44) : Value).ownBlock ∧ some k_ ≠ ((.slice Ao54 t275.length co54) : Value).ownBlock ∧ some k_ ≠ ((.slice Ao64 t277.length co64) : Value).ownBlock ∧ some k_ ≠ ((.slice Ao74 t254.length co74) : Value).ownBlock) (.slice Ao197 t297.length co197) t297) ∧ Aside0 (wc.heap[gb213]? = some (.cells #[.int .i64 a0_0, .int .i64 a0_1, .int .i64 a0_2, (.slice A0_3 l0_3.length c0_3)] 46 (0, 0))) ∧ Aside0 (wc.heap[gb214]? = some (.cells #[.int .i64 a1_0, .int .i64 a1_1, .int .i64 a1_2, (.slice A1_3 l1_3.length c1_3)] 46 (0, 0))) ∧ Aside0 (wc.heap[gb236]? = some (.cells #[.int .i64 t229, .int .i64 t230, .int .i64 t231, (.slice Ao44 t232.length co44)] 37 (0, 0))) ∧ Aside0 (wc.heap[gb243]? = some (.cells #[.int .i64 t237, .int .i64 t238, .int .i64 t239, (.slice Ao54 t275.length co54)] 37 (0, 0))) ∧ Aside0 (wc.heap[gb250]? = some (.cells #[.int .i64 t244, .int .i64 t245, .int .i64 t246, (.slice Ao64 t277.length co64)] 37 (0, 0))) ∧ Aside0 (wc.heap[gb258]? = some (.cells #[.int .i64 t251, .int .i64 t252, .int .i64 t253, (.slice Ao74 t254.length co74)] 37 (0, 0))) ∧ Aside0 (wc.heap[gb301]? = some (.cells #[.int .i64 t294, .int .i64 t295, .int .i64 t296, (.slice Ao197 t297.length co197)] 37 (0, 0))) ∧ Aside0 (Below w.heap.size w wc))
     case first =>
      have H := HC176.out
      clear HC176
      replace H := Option.bind_eq_some_iff.mp H
      obtain ⟨t302, A1990, H⟩ := H
      replace H : (if t302 = true then (laws_FnExactDigestJoin.j2 kj109 t279 (t300 != t235) t251 t252 t253 t280) else (laws_FnExactDigestJoin.j2 kj109 t279 true t251 t252 t253 t280)) = some r := H
      have A199 := Aside0.mk A1990
      clear A1990
      by_cases c200 : t302 = true
      ·
       subst c200
       have H1 : (laws_FnExactDigestJoin.j2 kj109 t279 (t300 != t235) t251 t252 t253 t280) = some r := by rw [if_pos rfl] at H; exact H
       clear H
       have H := H1
       clear H1
       have H' := Aside0.mk H
       clear H
       have hnb201 := NB301_213.out
       have hnc201 := NB213_301.out
       have hnb202 := NB301_214.out
       have hnc202 := NB214_301.out
       have hnb203 := NB301_236.out
       have hnc203 := NB236_301.out
       have hnb204 := NB301_243.out
       have hnc204 := NB243_301.out
       have hnb205 := NB301_250.out
       have hnc205 := NB250_301.out
       have hnb206 := NB301_258.out
       have hnc206 := NB258_301.out
       have hcz207_0 : w193.cell? ⟨gb301, 0, none⟩ = some (.int .i64 0) := (blk_cell BK301.out 0).trans rfl
       have hcz207_1 : w193.cell? ⟨gb301, 1, none⟩ = some (.int .i64 0) := (blk_cell BK301.out 1).trans rfl
       have hcz207_2 : w193.cell? ⟨gb301, 2, none⟩ = some (.int .i64 0) := (blk_cell BK301.out 2).trans rfl
       have hcz207_3 : w193.cell? ⟨gb301, 3, none⟩ = some (.slice none 0 0) := (blk_cell BK301.out 3).trans rfl
       have hfz207_0 := blk_frozen BK301.out 0
       have hfz207_1 := blk_frozen BK301.out 1
       have hfz207_2 := blk_frozen BK301.out 2
       have hfz207_3 := blk_frozen BK301.out 3
       have hnb208 := NB236_213.out
       have hnc208 := NB213_236.out
       have hnb209 := NB236_214.out
       have hnc209 := NB214_236.out
       have hnb210 := NB236_243.out
       have hnc210 := NB243_236.out
       have hnb211 := NB236_250.out
       have hnc211 := NB250_236.out
       have hnb212 := NB236_258.out
       have hnc212 := NB258_236.out
       have hcz213_0 : w193.cell? ⟨gb236, 0, none⟩ = some (.int .i64 t229) := (blk_cell BK236.out 0).trans rfl
       have hcz213_1 : w193.cell? ⟨gb236, 1, none⟩ = some (.int .i64 t230) := (blk_cell BK236.out 1).trans rfl
       have hcz213_2 : w193.cell? ⟨gb236, 2, none⟩ = some (.int .i64 t231) := (blk_cell BK236.out 2).trans rfl
       have hcz213_3 : w193.cell? ⟨gb236, 3, none⟩ = some (.slice Ao44 t232.length co44) := (blk_cell BK236.out 3).trans rfl
       have hfz213_0 := blk_frozen BK236.out 0
       have hfz213_1 := blk_frozen BK236.out 1
       have hfz213_2 := blk_frozen BK236.out 2
       have hfz213_3 := blk_frozen BK236.out 3
       go_wp2_with (first | ((with_reducible refine gate_callee (f := 21) rfl ?_); refine goesL_ (some 104) rfl rfl Try.func21 (by kernel_rfl) rfl #[.agg #[.int .i64 t294, .int .i64 t295, .int .i64 t296, .slice Ao197 t297.length co197], .agg #[.int .i64 t229, .int .i64 t230, .int .i64 t231, .slice Ao44 t232.length co44]] rfl zar ?_; (with_reducible refine (laws_eqDigest.calls kj109 t294 t295 t296 _ _ t297 t229 t230 t231 _ _ t232 true _ ?side1 ?side2 ?side3 ?side4 A199.out).mono ?_); (case side1 => refine (Kd.R_reads' (e := 3) (base := w.heap.size) (ok := fun k_ => (some k_ ≠ (v286 : Value).ownBlock ∧ (some k_ ≠ (v292 : Value).ownBlock ∧ (some k_ ≠ (.slice Ao44 t232.length co44 : Value).ownBlock ∧ (some k_ ≠ (.slice Ao54 t275.length co54 : Value).ownBlock ∧ (some k_ ≠ (.slice Ao64 t277.length co64 : Value).ownBlock ∧ some k_ ≠ (.slice Ao74 t254.length co74 : Value).ownBlock)))))) (n := t297.length) (c := co197) ?_).2.2; exact (by (with_reducible repeat (first | apply Kd.R_alloc | apply Kd.R_drewN | apply Kd.R_drew)); exact (Kd.R_mono (Kd.R_far (p := ⟨gb301, 3, none⟩) (Kd.R_far (p := ⟨gb301, 2, none⟩) (Kd.R_far (p := ⟨gb301, 1, none⟩) (Kd.R_far (p := ⟨gb301, 0, none⟩) (Kd.R_types HO299.out BK301.out (by decide)) (fun _ hk => hk.2) (.int .i64 t294)) (fun _ hk => hk.2) (.int .i64 t295)) (fun _ hk => hk.2) (.int .i64 t296)) (fun _ hk => hk.2) (.slice Ao197 t297.length co197)) (fun _ h_ => h_.1)))); (case side2 => exact (Kd.R_reads' HO299.out).2.1); (case side3 => refine (Kd.R_reads' (e := 3) (base := w.heap.size) (ok := fun k_ => (some k_ ≠ (v286 : Value).ownBlock ∧ (some k_ ≠ (v292 : Value).ownBlock ∧ (some k_ ≠ (.slice Ao197 t297.length co197 : Value).ownBlock ∧ (some k_ ≠ (.slice Ao54 t275.length co54 : Value).ownBlock ∧ (some k_ ≠ (.slice Ao64 t277.length co64 : Value).ownBlock ∧ some k_ ≠ (.slice Ao74 t254.length co74 : Value).ownBlock)))))) (n := t232.length) (c := co44) ?_).2.2; exact (by (with_reducible repeat (first | apply Kd.R_alloc | apply Kd.R_drewN | apply Kd.R_drew)); exact (Kd.R_mono (Kd.R_far (p := ⟨gb301, 3, none⟩) (Kd.R_far (p := ⟨gb301, 2, none⟩) (Kd.R_far (p := ⟨gb301, 1, none⟩) (Kd.R_far (p := ⟨gb301, 0, none⟩) (Kd.R_types HO_237003.out BK301.out (by decide)) (fun _ hk => hk.2) (.int .i64 t294)) (fun _ hk => hk.2) (.int .i64 t295)) (fun _ hk => hk.2) (.int .i64 t296)) (fun _ hk => hk.2) (.slice Ao197 t297.length co197)) (fun _ h_ => h_.1)))); (case side4 => exact (Kd.R_reads' HO_237003.out).2.1); rintro e w214 ⟨rfl, hb⟩; refine ⟨_, rfl, ?_⟩; have n0_ := Aside0.mk (Kd.R_below (by (with_reducible repeat (first | apply Kd.R_alloc | apply Kd.R_drewN | apply Kd.R_drew)); exact (Kd.R_mono (Kd.R_far (p := ⟨gb301, 3, none⟩) (Kd.R_far (p := ⟨gb301, 2, none⟩) (Kd.R_far (p := ⟨gb301, 1, none⟩) (Kd.R_far (p := ⟨gb301, 0, none⟩) (Kd.R_types HO_237003.out BK301.out (by decide)) (fun _ hk => hk.2) (.int .i64 t294)) (fun _ hk => hk.2) (.int .i64 t295)) (fun _ hk => hk.2) (.int .i64 t296)) (fun _ hk => hk.2) (.slice Ao197 t297.length co197)) (fun _ h_ => h_.1))) hb); have n1_ := Aside0.mk (Kd.R_below (by (with_reducible repeat (first | apply Kd.R_alloc | apply Kd.R_drewN | apply Kd.R_drew)); exact (Kd.R_mono (Kd.R_far (p := ⟨gb301, 3, none⟩) (Kd.R_far (p := ⟨gb301, 2, none⟩) (Kd.R_far (p := ⟨gb301, 1, none⟩) (Kd.R_far (p := ⟨gb301, 0, none⟩) (Kd.R_types HO_244003.out BK301.out (by decide)) (fun _ hk => hk.2) (.int .i64 t294)) (fun _ hk => hk.2) (.int .i64 t295)) (fun _ hk => hk.2) (.int .i64 t296)) (fun _ hk => hk.2) (.slice Ao197 t297.length co197)) (fun _ h_ => h_.1))) hb); have n2_ := Aside0.mk (Kd.R_below (by (with_reducible repeat (first | apply Kd.R_alloc | apply Kd.R_drewN | apply Kd.R_drew)); exact (Kd.R_mono (Kd.R_far (p := ⟨gb301, 3, none⟩) (Kd.R_far (p := ⟨gb301, 2, none⟩) (Kd.R_far (p := ⟨gb301, 1, none⟩) (Kd.R_far (p := ⟨gb301, 0, none⟩) (Kd.R_types HO_251003.out BK301.out (by decide)) (fun _ hk => hk.2) (.int .i64 t294)) (fun _ hk => hk.2) (.int .i64 t295)) (fun _ hk => hk.2) (.int .i64 t296)) (fun _ hk => hk.2) (.slice Ao197 t297.length co197)) (fun _ h_ => h_.1))) hb); have n3_ := Aside0.mk (Kd.R_below (by (with_reducible repeat (first | apply Kd.R_alloc | apply Kd.R_drewN | apply Kd.R_drew)); exact (Kd.R_mono (Kd.R_far (p := ⟨gb301, 3, none⟩) (Kd.R_far (p := ⟨gb301, 2, none⟩) (Kd.R_far (p := ⟨gb301, 1, none⟩) (Kd.R_far (p := ⟨gb301, 0, none⟩) (Kd.R_types HO_259003.out BK301.out (by decide)) (fun _ hk => hk.2) (.int .i64 t294)) (fun _ hk => hk.2) (.int .i64 t295)) (fun _ hk => hk.2) (.int .i64 t296)) (fun _ hk => hk.2) (.slice Ao197 t297.length co197)) (fun _ h_ => h_.1))) hb); have n4_ := Aside0.mk (Kd.R_below (by (with_reducible repeat (first | apply Kd.R_alloc | apply Kd.R_drewN | apply Kd.R_drew)); exact (Kd.R_mono (Kd.R_far (p := ⟨gb301, 3, none⟩) (Kd.R_far (p := ⟨gb301, 2, none⟩) (Kd.R_far (p := ⟨gb301, 1, none⟩) (Kd.R_far (p := ⟨gb301, 0, none⟩) (Kd.R_types HO287.out BK301.out (by decide)) (fun _ hk => hk.2) (.int .i64 t294)) (fun _ hk => hk.2) (.int .i64 t295)) (fun _ hk => hk.2) (.int .i64 t296)) (fun _ hk => hk.2) (.slice Ao197 t297.length co197)) (fun _ h_ => h_.1))) hb); have n5_ := Aside0.mk (Kd.R_below (by (with_reducible repeat (first | apply Kd.R_alloc | apply Kd.R_drewN | apply Kd.R_drew)); exact (Kd.R_mono (Kd.R_far (p := ⟨gb301, 3, none⟩) (Kd.R_far (p := ⟨gb301, 2, none⟩) (Kd.R_far (p := ⟨gb301, 1, none⟩) (Kd.R_far (p := ⟨gb301, 0, none⟩) (Kd.R_types HO293.out BK301.out (by decide)) (fun _ hk => hk.2) (.int .i64 t294)) (fun _ hk => hk.2) (.int .i64 t295)) (fun _ hk => hk.2) (.int .i64 t296)) (fun _ hk => hk.2) (.slice Ao197 t297.length co197)) (fun _ h_ => h_.1))) hb); have n6_ := Aside0.mk (Kd.R_below (by (with_reducible repeat (first | apply Kd.R_alloc | apply Kd.R_drewN | apply Kd.R_drew)); exact (Kd.R_mono (Kd.R_far (p := ⟨gb301, 3, none⟩) (Kd.R_far (p := ⟨gb301, 2, none⟩) (Kd.R_far (p := ⟨gb301, 1, none⟩) (Kd.R_far (p := ⟨gb301, 0, none⟩) (Kd.R_types HO299.out BK301.out (by decide)) (fun _ hk => hk.2) (.int .i64 t294)) (fun _ hk => hk.2) (.int .i64 t295)) (fun _ hk => hk.2) (.int .i64 t296)) (fun _ hk => hk.2) (.slice Ao197 t297.length co197)) (fun _ h_ => h_.1))) hb); have n7_ := Aside0.mk (blk_below (g := gb213) (o := .cells #[.int .i64 a0_0, .int .i64 a0_1, .int .i64 a0_2, .slice A0_3 l0_3.length c0_3] 46 (0, 0)) (by (with_reducible repeat (first | refine blk_drewN ?_ _ | refine blk_drew ?_ | refine blk_alloc ?_ _)); refine blk_far ?_ NB213_301.out _; (with_reducible repeat (first | refine blk_drewN ?_ _ | refine blk_drew ?_ | refine blk_alloc ?_ _)); refine blk_far ?_ NB213_301.out _; (with_reducible repeat (first | refine blk_drewN ?_ _ | refine blk_drew ?_ | refine blk_alloc ?_ _)); refine blk_far ?_ NB213_301.out _; (with_reducible repeat (first | refine blk_drewN ?_ _ | refine blk_drew ?_ | refine blk_alloc ?_ _)); refine blk_far ?_ NB213_301.out _; (with_reducible repeat (first | refine blk_drewN ?_ _ | refine blk_drew ?_ | refine blk_alloc ?_ _)); exact BK213.out) hb); have n8_ := Aside0.mk (blk_below (g := gb214) (o := .cells #[.int .i64 a1_0, .int .i64 a1_1, .int .i64 a1_2, .slice A1_3 l1_3.length c1_3] 46 (0, 0)) (by (with_reducible repeat (first | refine blk_drewN ?_ _ | refine blk_drew ?_ | refine blk_alloc ?_ _)); refine blk_far ?_ NB214_301.out _; (with_reducible repeat (first | refine blk_drewN ?_ _ | refine blk_drew ?_ | refine blk_alloc ?_ _)); refine blk_far ?_ NB214_301.out _; (with_reducible repeat (first | refine blk_drewN ?_ _ | refine blk_drew ?_ | refine blk_alloc ?_ _)); refine blk_far ?_ NB214_301.out _; (with_reducible repeat (first | refine blk_drewN ?_ _ | refine blk_drew ?_ | refine blk_alloc ?_ _)); refine blk_far ?_ NB214_301.out _; (with_reducible repeat (first | refine blk_drewN ?_ _ | refine blk_drew ?_ | refine blk_alloc ?_ _)); exact BK214.out) hb); have n9_ := Aside0.mk (blk_below (g := gb236) (o := .cells #[.int .i64 t229, .int .i64 t230, .int .i64 t231, .slice Ao44 t232.length co44] 37 (0, 0)) (by (with_reducible repeat (first | refine blk_drewN ?_ _ | refine blk_drew ?_ | refine blk_alloc ?_ _)); refine blk_far ?_ NB236_301.out _; (with_reducible repeat (first | refine blk_drewN ?_ _ | refine blk_drew ?_ | refine blk_alloc ?_ _)); refine blk_far ?_ NB236_301.out _; (with_reducible repeat (first | refine blk_drewN ?_ _ | refine blk_drew ?_ | refine blk_alloc ?_ _)); refine blk_far ?_ NB236_301.out _; (with_reducible repeat (first | refine blk_drewN ?_ _ | refine blk_drew ?_ | refine blk_alloc ?_ _)); refine blk_far ?_ NB236_301.out _; (with_reducible repeat (first | refine blk_drewN ?_ _ | refine blk_drew ?_ | refine blk_alloc ?_ _)); exact BK236.out) hb); have n10_ := Aside0.mk (blk_below (g := gb243) (o := .cells #[.int .i64 t237, .int .i64 t238, .int .i64 t239, .slice Ao54 t275.length co54] 37 (0, 0)) (by (with_reducible repeat (first | refine blk_drewN ?_ _ | refine blk_drew ?_ | refine blk_alloc ?_ _)); refine blk_far ?_ NB243_301.out _; (with_reducible repeat (first | refine blk_drewN ?_ _ | refine blk_drew ?_ | refine blk_alloc ?_ _)); refine blk_far ?_ NB243_301.out _; (with_reducible repeat (first | refine blk_drewN ?_ _ | refine blk_drew ?_ | refine blk_alloc ?_ _)); refine blk_far ?_ NB243_301.out _; (with_reducible repeat (first | refine blk_drewN ?_ _ | refine blk_drew ?_ | refine blk_alloc ?_ _)); refine blk_far ?_ NB243_301.out _; (with_reducible repeat (first | refine blk_drewN ?_ _ | refine blk_drew ?_ | refine blk_alloc ?_ _)); exact BK243.out) hb); have n11_ := Aside0.mk (blk_below (g := gb250) (o := .cells #[.int .i64 t244, .int .i64 t245, .int .i64 t246, .slice Ao64 t277.length co64] 37 (0, 0)) (by (with_reducible repeat (first | refine blk_drewN ?_ _ | refine blk_drew ?_ | refine blk_alloc ?_ _)); refine blk_far ?_ NB250_301.out _; (with_reducible repeat (first | refine blk_drewN ?_ _ | refine blk_drew ?_ | refine blk_alloc ?_ _)); refine blk_far ?_ NB250_301.out _; (with_reducible repeat (first | refine blk_drewN ?_ _ | refine blk_drew ?_ | refine blk_alloc ?_ _)); refine blk_far ?_ NB250_301.out _; (with_reducible repeat (first | refine blk_drewN ?_ _ | refine blk_drew ?_ | refine blk_alloc ?_ _)); refine blk_far ?_ NB250_301.out _; (with_reducible repeat (first | refine blk_drewN ?_ _ | refine blk_drew ?_ | refine blk_alloc ?_ _)); exact BK250.out) hb); have n12_ := Aside0.mk (blk_below (g := gb258) (o := .cells #[.int .i64 t251, .int .i64 t252, .int .i64 t253, .slice Ao74 t254.length co74] 37 (0, 0)) (by (with_reducible repeat (first | refine blk_drewN ?_ _ | refine blk_drew ?_ | refine blk_alloc ?_ _)); refine blk_far ?_ NB258_301.out _; (with_reducible repeat (first | refine blk_drewN ?_ _ | refine blk_drew ?_ | refine blk_alloc ?_ _)); refine blk_far ?_ NB258_301.out _; (with_reducible repeat (first | refine blk_drewN ?_ _ | refine blk_drew ?_ | refine blk_alloc ?_ _)); refine blk_far ?_ NB258_301.out _; (with_reducible repeat (first | refine blk_drewN ?_ _ | refine blk_drew ?_ | refine blk_alloc ?_ _)); refine blk_far ?_ NB258_301.out _; (with_reducible repeat (first | refine blk_drewN ?_ _ | refine blk_drew ?_ | refine blk_alloc ?_ _)); exact BK258.out) hb); have n13_ := Aside0.mk (blk_below (g := gb301) (o := .cells #[.int .i64 t294, .int .i64 t295, .int .i64 t296, .slice Ao197 t297.length co197] 37 (0, 0)) (by (with_reducible repeat (first | refine blk_drewN ?_ _ | refine blk_drew ?_ | refine blk_alloc ?_ _)); refine blk_put (cs := #[.int .i64 t294, .int .i64 t295, .int .i64 t296, .slice none 0 0]) ?_ 3 _ rfl; (with_reducible repeat (first | refine blk_drewN ?_ _ | refine blk_drew ?_ | refine blk_alloc ?_ _)); refine blk_put (cs := #[.int .i64 t294, .int .i64 t295, .int .i64 0, .slice none 0 0]) ?_ 2 _ rfl; (with_reducible repeat (first | refine blk_drewN ?_ _ | refine blk_drew ?_ | refine blk_alloc ?_ _)); refine blk_put (cs := #[.int .i64 t294, .int .i64 0, .int .i64 0, .slice none 0 0]) ?_ 1 _ rfl; (with_reducible repeat (first | refine blk_drewN ?_ _ | refine blk_drew ?_ | refine blk_alloc ?_ _)); refine blk_put (cs := #[.int .i64 0, .int .i64 0, .int .i64 0, .slice none 0 0]) ?_ 0 _ rfl; (with_reducible repeat (first | refine blk_drewN ?_ _ | refine blk_drew ?_ | refine blk_alloc ?_ _)); exact BK301.out) hb); have n14_ := Aside0.mk (below_step (zg HB) hb); clear HO_237003; clear HO_244003; clear HO_251003; clear HO_259003; clear HO287; clear HO293; clear HO299; clear BK213; clear BK214; clear BK236; clear BK243; clear BK250; clear BK258; clear BK301; clear HB; have HO_237003 := n0_; have HO_244003 := n1_; have HO_251003 := n2_; have HO_259003 := n3_; have HO287 := n4_; have HO293 := n5_; have HO299 := n6_; have BK213 := n7_; have BK214 := n8_; have BK236 := n9_; have BK243 := n10_; have BK250 := n11_; have BK258 := n12_; have BK301 := n13_; have HB := n14_; clear n0_ n1_ n2_ n3_ n4_ n5_ n6_ n7_ n8_ n9_ n10_ n11_ n12_ n13_ n14_; (try clear hb); (try clear hb2); (try clear hk); (try clear hi)))
       go_meet
       case rel => exact ⟨_, ((t300 != t235)), (by first | rfl | (simp; done) | (simp [*]; done)), H', ⟨by have := HJ24.out; have := HJ109.out; first | omega | exact Nat.le_refl _⟩, ⟨by (try simp only [hl244003_109]); (try simp only [hl251003_109]); (with_reducible repeat (first | apply Kd.R_alloc | apply Kd.R_drewN | apply Kd.R_drew)); exact Kd.R_mono HO_237003.out (fun _ hk => ⟨hk.2.2.2.1, ⟨hk.2.2.2.2.1, ⟨hk.2.2.2.2.2, hk.2.2.1⟩⟩⟩)⟩, ⟨by (try simp only [hl244003_109]); (try simp only [hl251003_109]); (with_reducible repeat (first | apply Kd.R_alloc | apply Kd.R_drewN | apply Kd.R_drew)); exact Kd.R_mono HO_244003.out (fun _ hk => ⟨hk.2.2.2.1, ⟨hk.2.2.2.2.1, ⟨hk.2.2.2.2.2, hk.2.2.1⟩⟩⟩)⟩, ⟨by (try simp only [hl244003_109]); (try simp only [hl251003_109]); (with_reducible repeat (first | apply Kd.R_alloc | apply Kd.R_drewN | apply Kd.R_drew)); exact Kd.R_mono HO_251003.out (fun _ hk => ⟨hk.2.2.2.1, ⟨hk.2.2.2.2.1, ⟨hk.2.2.2.2.2, hk.2.2.1⟩⟩⟩)⟩, ⟨by (try simp only [hl244003_109]); (try simp only [hl251003_109]); (with_reducible repeat (first | apply Kd.R_alloc | apply Kd.R_drewN | apply Kd.R_drew)); exact Kd.R_mono HO_259003.out (fun _ hk => ⟨hk.2.2.2.1, ⟨hk.2.2.2.2.1, ⟨hk.2.2.2.2.2, hk.2.2.1⟩⟩⟩)⟩, ⟨by (try simp only [hl244003_109]); (try simp only [hl251003_109]); (with_reducible repeat (first | apply Kd.R_alloc | apply Kd.R_drewN | apply Kd.R_drew)); exact Kd.R_mono HO299.out (fun _ hk => ⟨hk.2.2.1, ⟨hk.2.2.2.1, ⟨hk.2.2.2.2.1, hk.2.2.2.2.2⟩⟩⟩)⟩, ⟨by (try simp only [hl244003_109]); (try simp only [hl251003_109]); (with_reducible repeat (first | refine blk_drewN ?_ _ | refine blk_drew ?_ | refine blk_alloc ?_ _)); exact BK213.out⟩, ⟨by (try simp only [hl244003_109]); (try simp only [hl251003_109]); (with_reducible repeat (first | refine blk_drewN ?_ _ | refine blk_drew ?_ | refine blk_alloc ?_ _)); exact BK214.out⟩, ⟨by (try simp only [hl244003_109]); (try simp only [hl251003_109]); (with_reducible repeat (first | refine blk_drewN ?_ _ | refine blk_drew ?_ | refine blk_alloc ?_ _)); exact BK236.out⟩, ⟨by (try simp only [hl244003_109]); (try simp only [hl251003_109]); (with_reducible repeat (first | refine blk_drewN ?_ _ | refine blk_drew ?_ | refine blk_alloc ?_ _)); exact BK243.out⟩, ⟨by (try simp only [hl244003_109]); (try simp only [hl251003_109]); (with_reducible repeat (first | refine blk_drewN ?_ _ | refine blk_drew ?_ | refine blk_alloc ?_ _)); exact BK250.out⟩, ⟨by (try simp only [hl244003_109]); (try simp only [hl251003_109]); (with_reducible repeat (first | refine blk_drewN ?_ _ | refine blk_drew ?_ | refine blk_alloc ?_ _)); exact BK258.out⟩, ⟨by (try simp only [hl244003_109]); (try simp only [hl251003_109]); (with_reducible repeat (first | refine blk_drewN ?_ _ | refine blk_drew ?_ | refine blk_alloc ?_ _)); exact BK301.out⟩, ⟨zg HB⟩⟩
      ·
       replace c200 := Bool.eq_false_iff.mpr c200
       subst c200
       have H1 : (laws_FnExactDigestJoin.j2 kj109 t279 true t251 t252 t253 t280) = some r := by rw [if_neg (show ¬ (false = true) by decide)] at H; exact H
       clear H
       have H := H1
       clear H1
       have H' := Aside0.mk H
       clear H
       have hnb215 := NB301_213.out
       have hnc215 := NB213_301.out
       have hnb216 := NB301_214.out
       have hnc216 := NB214_301.out
       have hnb217 := NB301_236.out
       have hnc217 := NB236_301.out
       have hnb218 := NB301_243.out
       have hnc218 := NB243_301.out
       have hnb219 := NB301_250.out
       have hnc219 := NB250_301.out
       have hnb220 := NB301_258.out
       have hnc220 := NB258_301.out
       have hcz221_0 : w193.cell? ⟨gb301, 0, none⟩ = some (.int .i64 0) := (blk_cell BK301.out 0).trans rfl
       have hcz221_1 : w193.cell? ⟨gb301, 1, none⟩ = some (.int .i64 0) := (blk_cell BK301.out 1).trans rfl
       have hcz221_2 : w193.cell? ⟨gb301, 2, none⟩ = some (.int .i64 0) := (blk_cell BK301.out 2).trans rfl
       have hcz221_3 : w193.cell? ⟨gb301, 3, none⟩ = some (.slice none 0 0) := (blk_cell BK301.out 3).trans rfl
       have hfz221_0 := blk_frozen BK301.out 0
       have hfz221_1 := blk_frozen BK301.out 1
       have hfz221_2 := blk_frozen BK301.out 2
       have hfz221_3 := blk_frozen BK301.out 3
       have hnb222 := NB236_213.out
       have hnc222 := NB213_236.out
       have hnb223 := NB236_214.out
       have hnc223 := NB214_236.out
       have hnb224 := NB236_243.out
       have hnc224 := NB243_236.out
       have hnb225 := NB236_250.out
       have hnc225 := NB250_236.out
       have hnb226 := NB236_258.out
       have hnc226 := NB258_236.out
       have hcz227_0 : w193.cell? ⟨gb236, 0, none⟩ = some (.int .i64 t229) := (blk_cell BK236.out 0).trans rfl
       have hcz227_1 : w193.cell? ⟨gb236, 1, none⟩ = some (.int .i64 t230) := (blk_cell BK236.out 1).trans rfl
       have hcz227_2 : w193.cell? ⟨gb236, 2, none⟩ = some (.int .i64 t231) := (blk_cell BK236.out 2).trans rfl
       have hcz227_3 : w193.cell? ⟨gb236, 3, none⟩ = some (.slice Ao44 t232.length co44) := (blk_cell BK236.out 3).trans rfl
       have hfz227_0 := blk_frozen BK236.out 0
       have hfz227_1 := blk_frozen BK236.out 1
       have hfz227_2 := blk_frozen BK236.out 2
       have hfz227_3 := blk_frozen BK236.out 3
       go_wp2_with (first | ((with_reducible refine gate_callee (f := 21) rfl ?_); refine goesL_ (some 104) rfl rfl Try.func21 (by kernel_rfl) rfl #[.agg #[.int .i64 t294, .int .i64 t295, .int .i64 t296, .slice Ao197 t297.length co197], .agg #[.int .i64 t229, .int .i64 t230, .int .i64 t231, .slice Ao44 t232.length co44]] rfl zar ?_; (with_reducible refine (laws_eqDigest.calls kj109 t294 t295 t296 _ _ t297 t229 t230 t231 _ _ t232 false _ ?side1 ?side2 ?side3 ?side4 A199.out).mono ?_); (case side1 => refine (Kd.R_reads' (e := 3) (base := w.heap.size) (ok := fun k_ => (some k_ ≠ (v286 : Value).ownBlock ∧ (some k_ ≠ (v292 : Value).ownBlock ∧ (some k_ ≠ (.slice Ao44 t232.length co44 : Value).ownBlock ∧ (some k_ ≠ (.slice Ao54 t275.length co54 : Value).ownBlock ∧ (some k_ ≠ (.slice Ao64 t277.length co64 : Value).ownBlock ∧ some k_ ≠ (.slice Ao74 t254.length co74 : Value).ownBlock)))))) (n := t297.length) (c := co197) ?_).2.2; exact (by (with_reducible repeat (first | apply Kd.R_alloc | apply Kd.R_drewN | apply Kd.R_drew)); exact (Kd.R_mono (Kd.R_far (p := ⟨gb301, 3, none⟩) (Kd.R_far (p := ⟨gb301, 2, none⟩) (Kd.R_far (p := ⟨gb301, 1, none⟩) (Kd.R_far (p := ⟨gb301, 0, none⟩) (Kd.R_types HO299.out BK301.out (by decide)) (fun _ hk => hk.2) (.int .i64 t294)) (fun _ hk => hk.2) (.int .i64 t295)) (fun _ hk => hk.2) (.int .i64 t296)) (fun _ hk => hk.2) (.slice Ao197 t297.length co197)) (fun _ h_ => h_.1)))); (case side2 => exact (Kd.R_reads' HO299.out).2.1); (case side3 => refine (Kd.R_reads' (e := 3) (base := w.heap.size) (ok := fun k_ => (some k_ ≠ (v286 : Value).ownBlock ∧ (some k_ ≠ (v292 : Value).ownBlock ∧ (some k_ ≠ (.slice Ao197 t297.length co197 : Value).ownBlock ∧ (some k_ ≠ (.slice Ao54 t275.length co54 : Value).ownBlock ∧ (some k_ ≠ (.slice Ao64 t277.length co64 : Value).ownBlock ∧ some k_ ≠ (.slice Ao74 t254.length co74 : Value).ownBlock)))))) (n := t232.length) (c := co44) ?_).2.2; exact (by (with_reducible repeat (first | apply Kd.R_alloc | apply Kd.R_drewN | apply Kd.R_drew)); exact (Kd.R_mono (Kd.R_far (p := ⟨gb301, 3, none⟩) (Kd.R_far (p := ⟨gb301, 2, none⟩) (Kd.R_far (p := ⟨gb301, 1, none⟩) (Kd.R_far (p := ⟨gb301, 0, none⟩) (Kd.R_types HO_237003.out BK301.out (by decide)) (fun _ hk => hk.2) (.int .i64 t294)) (fun _ hk => hk.2) (.int .i64 t295)) (fun _ hk => hk.2) (.int .i64 t296)) (fun _ hk => hk.2) (.slice Ao197 t297.length co197)) (fun _ h_ => h_.1)))); (case side4 => exact (Kd.R_reads' HO_237003.out).2.1); rintro e w228 ⟨rfl, hb⟩; refine ⟨_, rfl, ?_⟩; have n0_ := Aside0.mk (Kd.R_below (by (with_reducible repeat (first | apply Kd.R_alloc | apply Kd.R_drewN | apply Kd.R_drew)); exact (Kd.R_mono (Kd.R_far (p := ⟨gb301, 3, none⟩) (Kd.R_far (p := ⟨gb301, 2, none⟩) (Kd.R_far (p := ⟨gb301, 1, none⟩) (Kd.R_far (p := ⟨gb301, 0, none⟩) (Kd.R_types HO_237003.out BK301.out (by decide)) (fun _ hk => hk.2) (.int .i64 t294)) (fun _ hk => hk.2) (.int .i64 t295)) (fun _ hk => hk.2) (.int .i64 t296)) (fun _ hk => hk.2) (.slice Ao197 t297.length co197)) (fun _ h_ => h_.1))) hb); have n1_ := Aside0.mk (Kd.R_below (by (with_reducible repeat (first | apply Kd.R_alloc | apply Kd.R_drewN | apply Kd.R_drew)); exact (Kd.R_mono (Kd.R_far (p := ⟨gb301, 3, none⟩) (Kd.R_far (p := ⟨gb301, 2, none⟩) (Kd.R_far (p := ⟨gb301, 1, none⟩) (Kd.R_far (p := ⟨gb301, 0, none⟩) (Kd.R_types HO_244003.out BK301.out (by decide)) (fun _ hk => hk.2) (.int .i64 t294)) (fun _ hk => hk.2) (.int .i64 t295)) (fun _ hk => hk.2) (.int .i64 t296)) (fun _ hk => hk.2) (.slice Ao197 t297.length co197)) (fun _ h_ => h_.1))) hb); have n2_ := Aside0.mk (Kd.R_below (by (with_reducible repeat (first | apply Kd.R_alloc | apply Kd.R_drewN | apply Kd.R_drew)); exact (Kd.R_mono (Kd.R_far (p := ⟨gb301, 3, none⟩) (Kd.R_far (p := ⟨gb301, 2, none⟩) (Kd.R_far (p := ⟨gb301, 1, none⟩) (Kd.R_far (p := ⟨gb301, 0, none⟩) (Kd.R_types HO_251003.out BK301.out (by decide)) (fun _ hk => hk.2) (.int .i64 t294)) (fun _ hk => hk.2) (.int .i64 t295)) (fun _ hk => hk.2) (.int .i64 t296)) (fun _ hk => hk.2) (.slice Ao197 t297.length co197)) (fun _ h_ => h_.1))) hb); have n3_ := Aside0.mk (Kd.R_below (by (with_reducible repeat (first | apply Kd.R_alloc | apply Kd.R_drewN | apply Kd.R_drew)); exact (Kd.R_mono (Kd.R_far (p := ⟨gb301, 3, none⟩) (Kd.R_far (p := ⟨gb301, 2, none⟩) (Kd.R_far (p := ⟨gb301, 1, none⟩) (Kd.R_far (p := ⟨gb301, 0, none⟩) (Kd.R_types HO_259003.out BK301.out (by decide)) (fun _ hk => hk.2) (.int .i64 t294)) (fun _ hk => hk.2) (.int .i64 t295)) (fun _ hk => hk.2) (.int .i64 t296)) (fun _ hk => hk.2) (.slice Ao197 t297.length co197)) (fun _ h_ => h_.1))) hb); have n4_ := Aside0.mk (Kd.R_below (by (with_reducible repeat (first | apply Kd.R_alloc | apply Kd.R_drewN | apply Kd.R_drew)); exact (Kd.R_mono (Kd.R_far (p := ⟨gb301, 3, none⟩) (Kd.R_far (p := ⟨gb301, 2, none⟩) (Kd.R_far (p := ⟨gb301, 1, none⟩) (Kd.R_far (p := ⟨gb301, 0, none⟩) (Kd.R_types HO287.out BK301.out (by decide)) (fun _ hk => hk.2) (.int .i64 t294)) (fun _ hk => hk.2) (.int .i64 t295)) (fun _ hk => hk.2) (.int .i64 t296)) (fun _ hk => hk.2) (.slice Ao197 t297.length co197)) (fun _ h_ => h_.1))) hb); have n5_ := Aside0.mk (Kd.R_below (by (with_reducible repeat (first | apply Kd.R_alloc | apply Kd.R_drewN | apply Kd.R_drew)); exact (Kd.R_mono (Kd.R_far (p := ⟨gb301, 3, none⟩) (Kd.R_far (p := ⟨gb301, 2, none⟩) (Kd.R_far (p := ⟨gb301, 1, none⟩) (Kd.R_far (p := ⟨gb301, 0, none⟩) (Kd.R_types HO293.out BK301.out (by decide)) (fun _ hk => hk.2) (.int .i64 t294)) (fun _ hk => hk.2) (.int .i64 t295)) (fun _ hk => hk.2) (.int .i64 t296)) (fun _ hk => hk.2) (.slice Ao197 t297.length co197)) (fun _ h_ => h_.1))) hb); have n6_ := Aside0.mk (Kd.R_below (by (with_reducible repeat (first | apply Kd.R_alloc | apply Kd.R_drewN | apply Kd.R_drew)); exact (Kd.R_mono (Kd.R_far (p := ⟨gb301, 3, none⟩) (Kd.R_far (p := ⟨gb301, 2, none⟩) (Kd.R_far (p := ⟨gb301, 1, none⟩) (Kd.R_far (p := ⟨gb301, 0, none⟩) (Kd.R_types HO299.out BK301.out (by decide)) (fun _ hk => hk.2) (.int .i64 t294)) (fun _ hk => hk.2) (.int .i64 t295)) (fun _ hk => hk.2) (.int .i64 t296)) (fun _ hk => hk.2) (.slice Ao197 t297.length co197)) (fun _ h_ => h_.1))) hb); have n7_ := Aside0.mk (blk_below (g := gb213) (o := .cells #[.int .i64 a0_0, .int .i64 a0_1, .int .i64 a0_2, .slice A0_3 l0_3.length c0_3] 46 (0, 0)) (by (with_reducible repeat (first | refine blk_drewN ?_ _ | refine blk_drew ?_ | refine blk_alloc ?_ _)); refine blk_far ?_ NB213_301.out _; (with_reducible repeat (first | refine blk_drewN ?_ _ | refine blk_drew ?_ | refine blk_alloc ?_ _)); refine blk_far ?_ NB213_301.out _; (with_reducible repeat (first | refine blk_drewN ?_ _ | refine blk_drew ?_ | refine blk_alloc ?_ _)); refine blk_far ?_ NB213_301.out _; (with_reducible repeat (first | refine blk_drewN ?_ _ | refine blk_drew ?_ | refine blk_alloc ?_ _)); refine blk_far ?_ NB213_301.out _; (with_reducible repeat (first | refine blk_drewN ?_ _ | refine blk_drew ?_ | refine blk_alloc ?_ _)); exact BK213.out) hb); have n8_ := Aside0.mk (blk_below (g := gb214) (o := .cells #[.int .i64 a1_0, .int .i64 a1_1, .int .i64 a1_2, .slice A1_3 l1_3.length c1_3] 46 (0, 0)) (by (with_reducible repeat (first | refine blk_drewN ?_ _ | refine blk_drew ?_ | refine blk_alloc ?_ _)); refine blk_far ?_ NB214_301.out _; (with_reducible repeat (first | refine blk_drewN ?_ _ | refine blk_drew ?_ | refine blk_alloc ?_ _)); refine blk_far ?_ NB214_301.out _; (with_reducible repeat (first | refine blk_drewN ?_ _ | refine blk_drew ?_ | refine blk_alloc ?_ _)); refine blk_far ?_ NB214_301.out _; (with_reducible repeat (first | refine blk_drewN ?_ _ | refine blk_drew ?_ | refine blk_alloc ?_ _)); refine blk_far ?_ NB214_301.out _; (with_reducible repeat (first | refine blk_drewN ?_ _ | refine blk_drew ?_ | refine blk_alloc ?_ _)); exact BK214.out) hb); have n9_ := Aside0.mk (blk_below (g := gb236) (o := .cells #[.int .i64 t229, .int .i64 t230, .int .i64 t231, .slice Ao44 t232.length co44] 37 (0, 0)) (by (with_reducible repeat (first | refine blk_drewN ?_ _ | refine blk_drew ?_ | refine blk_alloc ?_ _)); refine blk_far ?_ NB236_301.out _; (with_reducible repeat (first | refine blk_drewN ?_ _ | refine blk_drew ?_ | refine blk_alloc ?_ _)); refine blk_far ?_ NB236_301.out _; (with_reducible repeat (first | refine blk_drewN ?_ _ | refine blk_drew ?_ | refine blk_alloc ?_ _)); refine blk_far ?_ NB236_301.out _; (with_reducible repeat (first | refine blk_drewN ?_ _ | refine blk_drew ?_ | refine blk_alloc ?_ _)); refine blk_far ?_ NB236_301.out _; (with_reducible repeat (first | refine blk_drewN ?_ _ | refine blk_drew ?_ | refine blk_alloc ?_ _)); exact BK236.out) hb); have n10_ := Aside0.mk (blk_below (g := gb243) (o := .cells #[.int .i64 t237, .int .i64 t238, .int .i64 t239, .slice Ao54 t275.length co54] 37 (0, 0)) (by (with_reducible repeat (first | refine blk_drewN ?_ _ | refine blk_drew ?_ | refine blk_alloc ?_ _)); refine blk_far ?_ NB243_301.out _; (with_reducible repeat (first | refine blk_drewN ?_ _ | refine blk_drew ?_ | refine blk_alloc ?_ _)); refine blk_far ?_ NB243_301.out _; (with_reducible repeat (first | refine blk_drewN ?_ _ | refine blk_drew ?_ | refine blk_alloc ?_ _)); refine blk_far ?_ NB243_301.out _; (with_reducible repeat (first | refine blk_drewN ?_ _ | refine blk_drew ?_ | refine blk_alloc ?_ _)); refine blk_far ?_ NB243_301.out _; (with_reducible repeat (first | refine blk_drewN ?_ _ | refine blk_drew ?_ | refine blk_alloc ?_ _)); exact BK243.out) hb); have n11_ := Aside0.mk (blk_below (g := gb250) (o := .cells #[.int .i64 t244, .int .i64 t245, .int .i64 t246, .slice Ao64 t277.length co64] 37 (0, 0)) (by (with_reducible repeat (first | refine blk_drewN ?_ _ | refine blk_drew ?_ | refine blk_alloc ?_ _)); refine blk_far ?_ NB250_301.out _; (with_reducible repeat (first | refine blk_drewN ?_ _ | refine blk_drew ?_ | refine blk_alloc ?_ _)); refine blk_far ?_ NB250_301.out _; (with_reducible repeat (first | refine blk_drewN ?_ _ | refine blk_drew ?_ | refine blk_alloc ?_ _)); refine blk_far ?_ NB250_301.out _; (with_reducible repeat (first | refine blk_drewN ?_ _ | refine blk_drew ?_ | refine blk_alloc ?_ _)); refine blk_far ?_ NB250_301.out _; (with_reducible repeat (first | refine blk_drewN ?_ _ | refine blk_drew ?_ | refine blk_alloc ?_ _)); exact BK250.out) hb); have n12_ := Aside0.mk (blk_below (g := gb258) (o := .cells #[.int .i64 t251, .int .i64 t252, .int .i64 t253, .slice Ao74 t254.length co74] 37 (0, 0)) (by (with_reducible repeat (first | refine blk_drewN ?_ _ | refine blk_drew ?_ | refine blk_alloc ?_ _)); refine blk_far ?_ NB258_301.out _; (with_reducible repeat (first | refine blk_drewN ?_ _ | refine blk_drew ?_ | refine blk_alloc ?_ _)); refine blk_far ?_ NB258_301.out _; (with_reducible repeat (first | refine blk_drewN ?_ _ | refine blk_drew ?_ | refine blk_alloc ?_ _)); refine blk_far ?_ NB258_301.out _; (with_reducible repeat (first | refine blk_drewN ?_ _ | refine blk_drew ?_ | refine blk_alloc ?_ _)); refine blk_far ?_ NB258_301.out _; (with_reducible repeat (first | refine blk_drewN ?_ _ | refine blk_drew ?_ | refine blk_alloc ?_ _)); exact BK258.out) hb); have n13_ := Aside0.mk (blk_below (g := gb301) (o := .cells #[.int .i64 t294, .int .i64 t295, .int .i64 t296, .slice Ao197 t297.length co197] 37 (0, 0)) (by (with_reducible repeat (first | refine blk_drewN ?_ _ | refine blk_drew ?_ | refine blk_alloc ?_ _)); refine blk_put (cs := #[.int .i64 t294, .int .i64 t295, .int .i64 t296, .slice none 0 0]) ?_ 3 _ rfl; (with_reducible repeat (first | refine blk_drewN ?_ _ | refine blk_drew ?_ | refine blk_alloc ?_ _)); refine blk_put (cs := #[.int .i64 t294, .int .i64 t295, .int .i64 0, .slice none 0 0]) ?_ 2 _ rfl; (with_reducible repeat (first | refine blk_drewN ?_ _ | refine blk_drew ?_ | refine blk_alloc ?_ _)); refine blk_put (cs := #[.int .i64 t294, .int .i64 0, .int .i64 0, .slice none 0 0]) ?_ 1 _ rfl; (with_reducible repeat (first | refine blk_drewN ?_ _ | refine blk_drew ?_ | refine blk_alloc ?_ _)); refine blk_put (cs := #[.int .i64 0, .int .i64 0, .int .i64 0, .slice none 0 0]) ?_ 0 _ rfl; (with_reducible repeat (first | refine blk_drewN ?_ _ | refine blk_drew ?_ | refine blk_alloc ?_ _)); exact BK301.out) hb); have n14_ := Aside0.mk (below_step (zg HB) hb); clear HO_237003; clear HO_244003; clear HO_251003; clear HO_259003; clear HO287; clear HO293; clear HO299; clear BK213; clear BK214; clear BK236; clear BK243; clear BK250; clear BK258; clear BK301; clear HB; have HO_237003 := n0_; have HO_244003 := n1_; have HO_251003 := n2_; have HO_259003 := n3_; have HO287 := n4_; have HO293 := n5_; have HO299 := n6_; have BK213 := n7_; have BK214 := n8_; have BK236 := n9_; have BK243 := n10_; have BK250 := n11_; have BK258 := n12_; have BK301 := n13_; have HB := n14_; clear n0_ n1_ n2_ n3_ n4_ n5_ n6_ n7_ n8_ n9_ n10_ n11_ n12_ n13_ n14_; (try clear hb); (try clear hb2); (try clear hk); (try clear hi)))
       go_meet
       case rel => exact ⟨_, (true), (by first | rfl | (simp; done) | (simp [*]; done)), H', ⟨by have := HJ24.out; have := HJ109.out; first | omega | exact Nat.le_refl _⟩, ⟨by (try simp only [hl244003_109]); (try simp only [hl251003_109]); (with_reducible repeat (first | apply Kd.R_alloc | apply Kd.R_drewN | apply Kd.R_drew)); exact Kd.R_mono HO_237003.out (fun _ hk => ⟨hk.2.2.2.1, ⟨hk.2.2.2.2.1, ⟨hk.2.2.2.2.2, hk.2.2.1⟩⟩⟩)⟩, ⟨by (try simp only [hl244003_109]); (try simp only [hl251003_109]); (with_reducible repeat (first | apply Kd.R_alloc | apply Kd.R_drewN | apply Kd.R_drew)); exact Kd.R_mono HO_244003.out (fun _ hk => ⟨hk.2.2.2.1, ⟨hk.2.2.2.2.1, ⟨hk.2.2.2.2.2, hk.2.2.1⟩⟩⟩)⟩, ⟨by (try simp only [hl244003_109]); (try simp only [hl251003_109]); (with_reducible repeat (first | apply Kd.R_alloc | apply Kd.R_drewN | apply Kd.R_drew)); exact Kd.R_mono HO_251003.out (fun _ hk => ⟨hk.2.2.2.1, ⟨hk.2.2.2.2.1, ⟨hk.2.2.2.2.2, hk.2.2.1⟩⟩⟩)⟩, ⟨by (try simp only [hl244003_109]); (try simp only [hl251003_109]); (with_reducible repeat (first | apply Kd.R_alloc | apply Kd.R_drewN | apply Kd.R_drew)); exact Kd.R_mono HO_259003.out (fun _ hk => ⟨hk.2.2.2.1, ⟨hk.2.2.2.2.1, ⟨hk.2.2.2.2.2, hk.2.2.1⟩⟩⟩)⟩, ⟨by (try simp only [hl244003_109]); (try simp only [hl251003_109]); (with_reducible repeat (first | apply Kd.R_alloc | apply Kd.R_drewN | apply Kd.R_drew)); exact Kd.R_mono HO299.out (fun _ hk => ⟨hk.2.2.1, ⟨hk.2.2.2.1, ⟨hk.2.2.2.2.1, hk.2.2.2.2.2⟩⟩⟩)⟩, ⟨by (try simp only [hl244003_109]); (try simp only [hl251003_109]); (with_reducible repeat (first | refine blk_drewN ?_ _ | refine blk_drew ?_ | refine blk_alloc ?_ _)); exact BK213.out⟩, ⟨by (try simp only [hl244003_109]); (try simp only [hl251003_109]); (with_reducible repeat (first | refine blk_drewN ?_ _ | refine blk_drew ?_ | refine blk_alloc ?_ _)); exact BK214.out⟩, ⟨by (try simp only [hl244003_109]); (try simp only [hl251003_109]); (with_reducible repeat (first | refine blk_drewN ?_ _ | refine blk_drew ?_ | refine blk_alloc ?_ _)); exact BK236.out⟩, ⟨by (try simp only [hl244003_109]); (try simp only [hl251003_109]); (with_reducible repeat (first | refine blk_drewN ?_ _ | refine blk_drew ?_ | refine blk_alloc ?_ _)); exact BK243.out⟩, ⟨by (try simp only [hl244003_109]); (try simp only [hl251003_109]); (with_reducible repeat (first | refine blk_drewN ?_ _ | refine blk_drew ?_ | refine blk_alloc ?_ _)); exact BK250.out⟩, ⟨by (try simp only [hl244003_109]); (try simp only [hl251003_109]); (with_reducible repeat (first | refine blk_drewN ?_ _ | refine blk_drew ?_ | refine blk_alloc ?_ _)); exact BK258.out⟩, ⟨by (try simp only [hl244003_109]); (try simp only [hl251003_109]); (with_reducible repeat (first | refine blk_drewN ?_ _ | refine blk_drew ?_ | refine blk_alloc ?_ _)); exact BK301.out⟩, ⟨zg HB⟩⟩
     case rest =>
      clear HC176
      try clear c1
      try clear c2
      try clear p2
      try clear c20
      try clear c21
      try clear c22
      try clear c28
      try clear c29
      try clear c200
      try clear c201
      try clear c202
      try clear c203
      try clear c204
      try clear c205
      try clear c206
      try clear c208
      try clear c209
      try clear c210
      try clear c211
      try clear c212
      try clear c215
      try clear c216
      try clear c217
      try clear c218
      try clear c219
      try clear c220
      try clear c222
      try clear c223
      try clear c224
      try clear c225
      try clear c226
      try clear hcz207_0
      try clear hcz207_1
      try clear hcz207_2
      try clear hcz207_3
      try clear hcz213_0
      try clear hcz213_1
      try clear hcz213_2
      try clear hcz213_3
      try clear hcz221_0
      try clear hcz221_1
      try clear hcz221_2
      try clear hcz221_3
      try clear hcz227_0
      try clear hcz227_1
      try clear hcz227_2
      try clear hcz227_3
      try clear hfz207_0
      try clear hfz207_1
      try clear hfz207_2
      try clear hfz207_3
      try clear hfz213_0
      try clear hfz213_1
      try clear hfz213_2
      try clear hfz213_3
      try clear hfz221_0
      try clear hfz221_1
      try clear hfz221_2
      try clear hfz221_3
      try clear hfz227_0
      try clear hfz227_1
      try clear hfz227_2
      try clear hfz227_3
      obtain ⟨kq, x110_175, rfl, HA, HJ175, HO_237003, HO_244003, HO_251003, HO_259003, HO_302003, BK213, BK214, BK236, BK243, BK250, BK258, BK301, HB⟩ := hcut
      have hl259003_175 := (Kd.R_reads' HO_259003.out).1
      rw [hl259003_175] at HO_259003
      (try simp only [hl259003_175])
      (try simp only [hl259003_175] at BK213)
      (try simp only [hl259003_175] at BK214)
      (try simp only [hl259003_175] at BK236)
      (try simp only [hl259003_175] at BK243)
      (try simp only [hl259003_175] at BK250)
      (try simp only [hl259003_175] at BK258)
      (try simp only [hl259003_175] at BK301)
      (try simp only [hl259003_175] at HO_237003)
      (try simp only [hl259003_175] at HO_244003)
      (try simp only [hl259003_175] at HO_251003)
      (try simp only [hl259003_175] at HO_302003)
      cases kq with
      | zero => exact absurd HA.out (by simp [laws_FnExactDigestJoin.j2])
      | succ kj175 =>
       have H := HA.out
       clear HA
       simp only [laws_FnExactDigestJoin.j2] at H
       by_cases c229 : x110_175 = true
       ·
        subst c229
        have H1 : (some false) = some r := by rw [if_pos rfl] at H; exact H
        clear H
        have H := H1
        clear H1
        obtain rfl := Option.some.inj H
        go_wp2
        go_ret
        exact ⟨zre, zg HB⟩
       ·
        replace c229 := Bool.eq_false_iff.mpr c229
        subst c229
        have H1 : ((laws_heldDigest.f kj175 t251 t252 t253 t280 1).bind fun t303 => (if t303 < 0 then (some false) else (if t303 = t279 then (some true) else (some false)))) = some r := by rw [if_neg (show ¬ (false = true) by decide)] at H; exact H
        clear H
        have H := H1
        clear H1
        replace H := Option.bind_eq_some_iff.mp H
        obtain ⟨t303, A2300, H⟩ := H
        replace H : (if t303 < 0 then (some false) else (if t303 = t279 then (some true) else (some false))) = some r := H
        have A230 := Aside0.mk A2300
        clear A2300
        by_cases c231 : t303 < 0
        ·
         rw [if_pos c231] at H
         have c231b0 : decide (t303 < 0) = true := decide_eq_true c231
         clear c231
         obtain rfl := Option.some.inj H
         have hnb232 := NB258_213.out
         have hnc232 := NB213_258.out
         have hnb233 := NB258_214.out
         have hnc233 := NB214_258.out
         have hnb234 := NB258_236.out
         have hnc234 := NB236_258.out
         have hnb235 := NB258_243.out
         have hnc235 := NB243_258.out
         have hnb236 := NB258_250.out
         have hnc236 := NB250_258.out
         have hnb237 := NB258_301.out
         have hnc237 := NB301_258.out
         have hcz238_0 : wc.cell? ⟨gb258, 0, none⟩ = some (.int .i64 t251) := (blk_cell BK258.out 0).trans rfl
         have hcz238_1 : wc.cell? ⟨gb258, 1, none⟩ = some (.int .i64 t252) := (blk_cell BK258.out 1).trans rfl
         have hcz238_2 : wc.cell? ⟨gb258, 2, none⟩ = some (.int .i64 t253) := (blk_cell BK258.out 2).trans rfl
         have hcz238_3 : wc.cell? ⟨gb258, 3, none⟩ = some (.slice Ao74 t280.length co74) := (blk_cell BK258.out 3).trans rfl
         have hfz238_0 := blk_frozen BK258.out 0
         have hfz238_1 := blk_frozen BK258.out 1
         have hfz238_2 := blk_frozen BK258.out 2
         have hfz238_3 := blk_frozen BK258.out 3
         go_wp2_with (first | ((with_reducible refine gate_callee (f := 25) rfl ?_); refine goesL_ (some 113) rfl rfl Try.func25 (by kernel_rfl) rfl #[.agg #[.int .i64 t251, .int .i64 t252, .int .i64 t253, .slice Ao74 t280.length co74], .int .i64 1] rfl zar ?_; (with_reducible refine (laws_heldDigest.calls kj175 t251 t252 t253 _ _ t280 1 t303 _ ?side1 ?side2 A230.out).mono ?_); (case side1 => repeat (first | exact (Kd.R_reads' HO_259003.out).2.2 | (with_reducible refine Kd.C_alloc ?_ _) | (with_reducible refine Kd.C_drewN ?_ _) | (with_reducible refine Kd.C_drew ?_))); (case side2 => exact (Kd.R_reads' HO_259003.out).2.1); rintro e w239 ⟨rfl, hb⟩; refine ⟨_, rfl, ?_⟩; have n0_ := Aside0.mk (Kd.R_below (zr HO_237003) hb); have n1_ := Aside0.mk (Kd.R_below (zr HO_244003) hb); have n2_ := Aside0.mk (Kd.R_below (zr HO_251003) hb); have n3_ := Aside0.mk (Kd.R_below (zr HO_259003) hb); have n4_ := Aside0.mk (Kd.R_below (zr HO_302003) hb); have n5_ := Aside0.mk (blk_below (zb BK213) hb); have n6_ := Aside0.mk (blk_below (zb BK214) hb); have n7_ := Aside0.mk (blk_below (zb BK236) hb); have n8_ := Aside0.mk (blk_below (zb BK243) hb); have n9_ := Aside0.mk (blk_below (zb BK250) hb); have n10_ := Aside0.mk (blk_below (zb BK258) hb); have n11_ := Aside0.mk (blk_below (zb BK301) hb); have n12_ := Aside0.mk (below_step (zg HB) hb); clear HO_237003; clear HO_244003; clear HO_251003; clear HO_259003; clear HO_302003; clear BK213; clear BK214; clear BK236; clear BK243; clear BK250; clear BK258; clear BK301; clear HB; have HO_237003 := n0_; have HO_244003 := n1_; have HO_251003 := n2_; have HO_259003 := n3_; have HO_302003 := n4_; have BK213 := n5_; have BK214 := n6_; have BK236 := n7_; have BK243 := n8_; have BK250 := n9_; have BK258 := n10_; have BK301 := n11_; have HB := n12_; clear n0_ n1_ n2_ n3_ n4_ n5_ n6_ n7_ n8_ n9_ n10_ n11_ n12_; (try clear hb); (try clear hb2); (try clear hk); (try clear hi)))
         go_ret
         exact ⟨zre, zg HB⟩
        ·
         rw [if_neg c231] at H
         have c231b0 : decide (t303 < 0) = false := decide_eq_false c231
         clear c231
         by_cases c240 : t303 = t279
         ·
          rw [if_pos c240] at H
          have c240b0 : (t303 == t279) = true := beq_iff_eq.mpr c240
          have c240b1 : (t303 != t279) = false := bne_eq_false_iff_eq.mpr c240
          clear c240
          obtain rfl := Option.some.inj H
          have hnb241 := NB258_213.out
          have hnc241 := NB213_258.out
          have hnb242 := NB258_214.out
          have hnc242 := NB214_258.out
          have hnb243 := NB258_236.out
          have hnc243 := NB236_258.out
          have hnb244 := NB258_243.out
          have hnc244 := NB243_258.out
          have hnb245 := NB258_250.out
          have hnc245 := NB250_258.out
          have hnb246 := NB258_301.out
          have hnc246 := NB301_258.out
          have hcz247_0 : wc.cell? ⟨gb258, 0, none⟩ = some (.int .i64 t251) := (blk_cell BK258.out 0).trans rfl
          have hcz247_1 : wc.cell? ⟨gb258, 1, none⟩ = some (.int .i64 t252) := (blk_cell BK258.out 1).trans rfl
          have hcz247_2 : wc.cell? ⟨gb258, 2, none⟩ = some (.int .i64 t253) := (blk_cell BK258.out 2).trans rfl
          have hcz247_3 : wc.cell? ⟨gb258, 3, none⟩ = some (.slice Ao74 t280.length co74) := (blk_cell BK258.out 3).trans rfl
          have hfz247_0 := blk_frozen BK258.out 0
          have hfz247_1 := blk_frozen BK258.out 1
          have hfz247_2 := blk_frozen BK258.out 2
          have hfz247_3 := blk_frozen BK258.out 3
          go_wp2_with (first | ((with_reducible refine gate_callee (f := 25) rfl ?_); refine goesL_ (some 113) rfl rfl Try.func25 (by kernel_rfl) rfl #[.agg #[.int .i64 t251, .int .i64 t252, .int .i64 t253, .slice Ao74 t280.length co74], .int .i64 1] rfl zar ?_; (with_reducible refine (laws_heldDigest.calls kj175 t251 t252 t253 _ _ t280 1 t303 _ ?side1 ?side2 A230.out).mono ?_); (case side1 => repeat (first | exact (Kd.R_reads' HO_259003.out).2.2 | (with_reducible refine Kd.C_alloc ?_ _) | (with_reducible refine Kd.C_drewN ?_ _) | (with_reducible refine Kd.C_drew ?_))); (case side2 => exact (Kd.R_reads' HO_259003.out).2.1); rintro e w248 ⟨rfl, hb⟩; refine ⟨_, rfl, ?_⟩; have n0_ := Aside0.mk (Kd.R_below (zr HO_237003) hb); have n1_ := Aside0.mk (Kd.R_below (zr HO_244003) hb); have n2_ := Aside0.mk (Kd.R_below (zr HO_251003) hb); have n3_ := Aside0.mk (Kd.R_below (zr HO_259003) hb); have n4_ := Aside0.mk (Kd.R_below (zr HO_302003) hb); have n5_ := Aside0.mk (blk_below (zb BK213) hb); have n6_ := Aside0.mk (blk_below (zb BK214) hb); have n7_ := Aside0.mk (blk_below (zb BK236) hb); have n8_ := Aside0.mk (blk_below (zb BK243) hb); have n9_ := Aside0.mk (blk_below (zb BK250) hb); have n10_ := Aside0.mk (blk_below (zb BK258) hb); have n11_ := Aside0.mk (blk_below (zb BK301) hb); have n12_ := Aside0.mk (below_step (zg HB) hb); clear HO_237003; clear HO_244003; clear HO_251003; clear HO_259003; clear HO_302003; clear BK213; clear BK214; clear BK236; clear BK243; clear BK250; clear BK258; clear BK301; clear HB; have HO_237003 := n0_; have HO_244003 := n1_; have HO_251003 := n2_; have HO_259003 := n3_; have HO_302003 := n4_; have BK213 := n5_; have BK214 := n6_; have BK236 := n7_; have BK243 := n8_; have BK250 := n9_; have BK258 := n10_; have BK301 := n11_; have HB := n12_; clear n0_ n1_ n2_ n3_ n4_ n5_ n6_ n7_ n8_ n9_ n10_ n11_ n12_; (try clear hb); (try clear hb2); (try clear hk); (try clear hi)))
          go_ret
          exact ⟨zre, zg HB⟩
         ·
          rw [if_neg c240] at H
          have c240b0 : (t303 == t279) = false := beq_eq_false_iff_ne.mpr c240
          have c240b1 : (t303 != t279) = true := bne_iff_ne.mpr c240
          obtain rfl := Option.some.inj H
          have hnb249 := NB258_213.out
          have hnc249 := NB213_258.out
          have hnb250 := NB258_214.out
          have hnc250 := NB214_258.out
          have hnb251 := NB258_236.out
          have hnc251 := NB236_258.out
          have hnb252 := NB258_243.out
          have hnc252 := NB243_258.out
          have hnb253 := NB258_250.out
          have hnc253 := NB250_258.out
          have hnb254 := NB258_301.out
          have hnc254 := NB301_258.out
          have hcz255_0 : wc.cell? ⟨gb258, 0, none⟩ = some (.int .i64 t251) := (blk_cell BK258.out 0).trans rfl
          have hcz255_1 : wc.cell? ⟨gb258, 1, none⟩ = some (.int .i64 t252) := (blk_cell BK258.out 1).trans rfl
          have hcz255_2 : wc.cell? ⟨gb258, 2, none⟩ = some (.int .i64 t253) := (blk_cell BK258.out 2).trans rfl
          have hcz255_3 : wc.cell? ⟨gb258, 3, none⟩ = some (.slice Ao74 t280.length co74) := (blk_cell BK258.out 3).trans rfl
          have hfz255_0 := blk_frozen BK258.out 0
          have hfz255_1 := blk_frozen BK258.out 1
          have hfz255_2 := blk_frozen BK258.out 2
          have hfz255_3 := blk_frozen BK258.out 3
          go_wp2_with (first | ((with_reducible refine gate_callee (f := 25) rfl ?_); refine goesL_ (some 113) rfl rfl Try.func25 (by kernel_rfl) rfl #[.agg #[.int .i64 t251, .int .i64 t252, .int .i64 t253, .slice Ao74 t280.length co74], .int .i64 1] rfl zar ?_; (with_reducible refine (laws_heldDigest.calls kj175 t251 t252 t253 _ _ t280 1 t303 _ ?side1 ?side2 A230.out).mono ?_); (case side1 => repeat (first | exact (Kd.R_reads' HO_259003.out).2.2 | (with_reducible refine Kd.C_alloc ?_ _) | (with_reducible refine Kd.C_drewN ?_ _) | (with_reducible refine Kd.C_drew ?_))); (case side2 => exact (Kd.R_reads' HO_259003.out).2.1); rintro e w256 ⟨rfl, hb⟩; refine ⟨_, rfl, ?_⟩; have n0_ := Aside0.mk (Kd.R_below (zr HO_237003) hb); have n1_ := Aside0.mk (Kd.R_below (zr HO_244003) hb); have n2_ := Aside0.mk (Kd.R_below (zr HO_251003) hb); have n3_ := Aside0.mk (Kd.R_below (zr HO_259003) hb); have n4_ := Aside0.mk (Kd.R_below (zr HO_302003) hb); have n5_ := Aside0.mk (blk_below (zb BK213) hb); have n6_ := Aside0.mk (blk_below (zb BK214) hb); have n7_ := Aside0.mk (blk_below (zb BK236) hb); have n8_ := Aside0.mk (blk_below (zb BK243) hb); have n9_ := Aside0.mk (blk_below (zb BK250) hb); have n10_ := Aside0.mk (blk_below (zb BK258) hb); have n11_ := Aside0.mk (blk_below (zb BK301) hb); have n12_ := Aside0.mk (below_step (zg HB) hb); clear HO_237003; clear HO_244003; clear HO_251003; clear HO_259003; clear HO_302003; clear BK213; clear BK214; clear BK236; clear BK243; clear BK250; clear BK258; clear BK301; clear HB; have HO_237003 := n0_; have HO_244003 := n1_; have HO_251003 := n2_; have HO_259003 := n3_; have HO_302003 := n4_; have BK213 := n5_; have BK214 := n6_; have BK236 := n7_; have BK243 := n8_; have BK250 := n9_; have BK258 := n10_; have BK301 := n11_; have HB := n12_; clear n0_ n1_ n2_ n3_ n4_ n5_ n6_ n7_ n8_ n9_ n10_ n11_ n12_; (try clear hb); (try clear hb2); (try clear hk); (try clear hi)))
          go_ret
          exact ⟨zre, zg HB⟩
    ·
     rw [if_neg c172] at H
     have c172b0 : (t281 == t279) = false := beq_eq_false_iff_ne.mpr c172
     have c172b1 : (t281 != t279) = true := bne_iff_ne.mpr c172
     obtain rfl := Option.some.inj H
     have hnb257 := NB258_213.out
     have hnc257 := NB213_258.out
     have hnb258 := NB258_214.out
     have hnc258 := NB214_258.out
     have hnb259 := NB258_236.out
     have hnc259 := NB236_258.out
     have hnb260 := NB258_243.out
     have hnc260 := NB243_258.out
     have hnb261 := NB258_250.out
     have hnc261 := NB250_258.out
     have hcz262_0 : wc.cell? ⟨gb258, 0, none⟩ = some (.int .i64 t251) := (blk_cell BK258.out 0).trans rfl
     have hcz262_1 : wc.cell? ⟨gb258, 1, none⟩ = some (.int .i64 t252) := (blk_cell BK258.out 1).trans rfl
     have hcz262_2 : wc.cell? ⟨gb258, 2, none⟩ = some (.int .i64 t253) := (blk_cell BK258.out 2).trans rfl
     have hcz262_3 : wc.cell? ⟨gb258, 3, none⟩ = some (.slice Ao74 t254.length co74) := (blk_cell BK258.out 3).trans rfl
     have hfz262_0 := blk_frozen BK258.out 0
     have hfz262_1 := blk_frozen BK258.out 1
     have hfz262_2 := blk_frozen BK258.out 2
     have hfz262_3 := blk_frozen BK258.out 3
     go_wp2_with (first | ((with_reducible refine gate_callee (f := 24) rfl ?_); refine goesL_ (some 85) rfl rfl Try.func24 (by kernel_rfl) rfl #[.agg #[.int .i64 t251, .int .i64 t252, .int .i64 t253, .slice Ao74 t254.length co74], .int .i64 1] rfl zar ?_; (with_reducible refine (laws_markDigest.calls kj109 t251 t252 t253 (fun k_ => some k_ = (.slice Ao74 t254.length co74 : Value).ownBlock) (.slice Ao74 t254.length co74) t254 1 t279 t280 w _ ?side1 ?side2 A160.out).mono ?_); (case side1 => repeat (first | (with_reducible first | exact HB.out | apply below_alloc | apply pw_below_drewN | apply below_drew1 | refine below_set ?_ GE213.out | refine below_set ?_ GE214.out | refine below_set ?_ GE236.out | refine below_set ?_ GE243.out | refine below_set ?_ GE250.out | refine below_set ?_ GE258.out) | exact HB.out)); (case side2 => exact Kd.R_tight rfl HO_259003.out); rintro e w263 ⟨rfl, hy0, hb, hkp⟩; refine ⟨_, rfl, ?_⟩; have n0_ := Aside0.mk (Kd.R_mono (ok' := fun k_ => some k_ ≠ (.slice Ao54 t275.length co54 : Value).ownBlock ∧ some k_ ≠ (.slice Ao64 t277.length co64 : Value).ownBlock ∧ some k_ ≠ (.slice Ao74 t254.length co74 : Value).ownBlock) (Kd.R_keptB (HO_237003.out) hkp (fun k_ hk_ hs_ => (hk_.2.2) hs_)) (fun k_ hk_ => ⟨hk_.1.1, hk_.1.2.1, hk_.1.2.2⟩)); have n1_ := Aside0.mk (Kd.R_mono (ok' := fun k_ => some k_ ≠ (.slice Ao44 t232.length co44 : Value).ownBlock ∧ some k_ ≠ (.slice Ao64 t277.length co64 : Value).ownBlock ∧ some k_ ≠ (.slice Ao74 t254.length co74 : Value).ownBlock) (Kd.R_keptB (HO_244003.out) hkp (fun k_ hk_ hs_ => (hk_.2.2) hs_)) (fun k_ hk_ => ⟨hk_.1.1, hk_.1.2.1, hk_.1.2.2⟩)); have n2_ := Aside0.mk (Kd.R_mono (ok' := fun k_ => some k_ ≠ (.slice Ao44 t232.length co44 : Value).ownBlock ∧ some k_ ≠ (.slice Ao54 t275.length co54 : Value).ownBlock ∧ some k_ ≠ (.slice Ao74 t254.length co74 : Value).ownBlock) (Kd.R_keptB (HO_251003.out) hkp (fun k_ hk_ hs_ => (hk_.2.2) hs_)) (fun k_ hk_ => ⟨hk_.1.1, hk_.1.2.1, hk_.1.2.2⟩)); have n3_ := Aside0.mk (Kd.R_reok rfl hy0 (fun k_ e_ => HO_259003.out.1 k_ e_)); have n4_ := Aside0.mk (blk_kept (zb BK213) hkp (fun hs_ => (fun e_ => (Kd.R_ne HO_259003.out BK213.out (by decide)) e_) hs_)); have n5_ := Aside0.mk (blk_kept (zb BK214) hkp (fun hs_ => (fun e_ => (Kd.R_ne HO_259003.out BK214.out (by decide)) e_) hs_)); have n6_ := Aside0.mk (blk_kept (zb BK236) hkp (fun hs_ => (fun e_ => (Kd.R_ne HO_259003.out BK236.out (by decide)) e_) hs_)); have n7_ := Aside0.mk (blk_kept (zb BK243) hkp (fun hs_ => (fun e_ => (Kd.R_ne HO_259003.out BK243.out (by decide)) e_) hs_)); have n8_ := Aside0.mk (blk_kept (zb BK250) hkp (fun hs_ => (fun e_ => (Kd.R_ne HO_259003.out BK250.out (by decide)) e_) hs_)); have n9_ := Aside0.mk (blk_kept (zb BK258) hkp (fun hs_ => (fun e_ => (Kd.R_ne HO_259003.out BK258.out (by decide)) e_) hs_)); have n10_ := Aside0.mk (hb); clear HO_237003; clear HO_244003; clear HO_251003; clear HO_259003; clear BK213; clear BK214; clear BK236; clear BK243; clear BK250; clear BK258; clear HB; have HO_237003 := n0_; have HO_244003 := n1_; have HO_251003 := n2_; have HO_259003 := n3_; have BK213 := n4_; have BK214 := n5_; have BK236 := n6_; have BK243 := n7_; have BK250 := n8_; have BK258 := n9_; have HB := n10_; clear n0_ n1_ n2_ n3_ n4_ n5_ n6_ n7_ n8_ n9_ n10_; (try clear hb); (try clear hkp); (try clear hy0); have hcz264_0 : w263.cell? ⟨gb258, 0, none⟩ = some (.int .i64 t251) := (blk_cell BK258.out 0).trans rfl; have hcz264_1 : w263.cell? ⟨gb258, 1, none⟩ = some (.int .i64 t252) := (blk_cell BK258.out 1).trans rfl; have hcz264_2 : w263.cell? ⟨gb258, 2, none⟩ = some (.int .i64 t253) := (blk_cell BK258.out 2).trans rfl; have hcz264_3 : w263.cell? ⟨gb258, 3, none⟩ = some (.slice Ao74 t254.length co74) := (blk_cell BK258.out 3).trans rfl; have hfz264_0 := blk_frozen BK258.out 0; have hfz264_1 := blk_frozen BK258.out 1; have hfz264_2 := blk_frozen BK258.out 2; have hfz264_3 := blk_frozen BK258.out 3) | ((with_reducible refine gate_callee (f := 25) rfl ?_); refine goesL_ (some 88) rfl rfl Try.func25 (by kernel_rfl) rfl #[.agg #[.int .i64 t251, .int .i64 t252, .int .i64 t253, .slice Ao74 t280.length co74], .int .i64 1] rfl (by (try simp only [List.map_toArray, List.map_cons, List.map_nil]); first | done | (rw [show t280.length = t254.length from (Kd.R_reads' HO_259003.out).1.symm] <;> rfl) | rfl | (simp only [List.length_drop, List.length_take]; rfl)) ?_; (with_reducible refine (laws_heldDigest.calls kj109 t251 t252 t253 _ _ t280 1 t281 _ ?side1 ?side2 A161.out).mono ?_); (case side1 => repeat (first | exact (Kd.R_reads' HO_259003.out).2.2 | (with_reducible refine Kd.C_alloc ?_ _) | (with_reducible refine Kd.C_drewN ?_ _) | (with_reducible refine Kd.C_drew ?_))); (case side2 => rw [show t280.length = t254.length from (Kd.R_reads' HO_259003.out).1.symm]; exact (Kd.R_reads' HO_259003.out).2.1); rintro e w265 ⟨rfl, hb⟩; refine ⟨_, rfl, ?_⟩; have n0_ := Aside0.mk (Kd.R_below (zr HO_237003) hb); have n1_ := Aside0.mk (Kd.R_below (zr HO_244003) hb); have n2_ := Aside0.mk (Kd.R_below (zr HO_251003) hb); have n3_ := Aside0.mk (Kd.R_below (zr HO_259003) hb); have n4_ := Aside0.mk (blk_below (zb BK213) hb); have n5_ := Aside0.mk (blk_below (zb BK214) hb); have n6_ := Aside0.mk (blk_below (zb BK236) hb); have n7_ := Aside0.mk (blk_below (zb BK243) hb); have n8_ := Aside0.mk (blk_below (zb BK250) hb); have n9_ := Aside0.mk (blk_below (zb BK258) hb); have n10_ := Aside0.mk (below_step (zg HB) hb); clear HO_237003; clear HO_244003; clear HO_251003; clear HO_259003; clear BK213; clear BK214; clear BK236; clear BK243; clear BK250; clear BK258; clear HB; have HO_237003 := n0_; have HO_244003 := n1_; have HO_251003 := n2_; have HO_259003 := n3_; have BK213 := n4_; have BK214 := n5_; have BK236 := n6_; have BK243 := n7_; have BK250 := n8_; have BK258 := n9_; have HB := n10_; clear n0_ n1_ n2_ n3_ n4_ n5_ n6_ n7_ n8_ n9_ n10_; (try clear hb); (try clear hb2); (try clear hk); (try clear hi)))
     go_ret
     exact ⟨zre, zg HB⟩
end Go.Proofs.Ytchoncnahlcfjaa.XFnExactDigestJoin
