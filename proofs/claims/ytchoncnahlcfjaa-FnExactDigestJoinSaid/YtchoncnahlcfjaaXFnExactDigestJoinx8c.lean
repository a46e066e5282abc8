-- A text of this session: written by its own program (wip/x/xprint.py), which runs the kit's printer with contracts of its own.
import Derived.Test.YtchoncnahlcfjaaXFnExactDigestJoinx0
import Derived.Test.YtchoncnahlcfjaaXFnExactDigestJoinx1
import Derived.Test.YtchoncnahlcfjaaXFnExactDigestJoinx4
import Derived.Test.YtchoncnahlcfjaaXFnExactDigestJoinx5
import Derived.Test.YtchoncnahlcfjaaXFnExactDigestJoinx7
import Derived.Test.YtchoncnahlcfjaaXFnExactDigestJoinx8h
namespace Go.Proofs.Ytchoncnahlcfjaa.XFnExactDigestJoin
open Go.RowKit Go.Proofs.YtchoncnahlcfjaaW.PrintWords Go.Proofs.YtchoncnahlcfjaaW.PrintLast Go.Proofs.YtchoncnahlcfjaaW.PrintMore
attribute [local go_sem] max2_int min2_int max_two min_two max_three min_three max_four min_four   -- for this text's walks alone
set_option linter.unusedVariables false
set_option linter.unusedSimpArgs false

set_option maxHeartbeats 8000000 in
set_option maxRecDepth 100000 in
theorem laws_FnExactDigestJoin.reg2 {K_ : Act → World → Prop} {P_ : Ending → World → Prop}
  (k : Nat)
  (a0_0 a0_1 a0_2 : Int)
  (A0_3 : Option Addr)
  (c0_3 : Nat)
  (l0_3 : List Int)
  (a1_0 a1_1 a1_2 : Int)
  (A1_3 : Option Addr)
  (c1_3 : Nat)
  (l1_3 : List Int)
  (r : Bool)
  (w : World)
  (hu46 : Try.prog.underlying 46 =
    some
      (TypeDesc.struct
        #[{ name := "Step", type := 3, offset := 0, embedded := false, tag := "", pkgPath := "", byteOffset := 0 },
          { name := "Parts", type := 3, offset := 1, embedded := false, tag := "", pkgPath := "", byteOffset := 8 },
          { name := "Count", type := 3, offset := 2, embedded := false, tag := "", pkgPath := "", byteOffset := 16 },
          { name := "Points", type := 22, offset := 3, embedded := false, tag := "", pkgPath := "", byteOffset := 24 }]))
  (hu37 : Try.prog.underlying 37 =
    some
      (TypeDesc.struct
        #[{ name := "Step", type := 3, offset := 0, embedded := false, tag := "", pkgPath := "", byteOffset := 0 },
          { name := "Parts", type := 3, offset := 1, embedded := false, tag := "", pkgPath := "", byteOffset := 8 },
          { name := "Count", type := 3, offset := 2, embedded := false, tag := "", pkgPath := "", byteOffset := 16 },
          { name := "Points", type := 22, offset := 3, embedded := false, tag := "", pkgPath := "", byteOffset := 24 }]))
  (HR0_3 : Aside0 ((Kd.int IntKind.i64).C w A0_3 l0_3.length l0_3))
  (HC0_3 : Aside0 (l0_3.length ≤ c0_3))
  (HR1_3 : Aside0 ((Kd.int IntKind.i64).C w A1_3 l1_3.length l1_3))
  (HC1_3 : Aside0 (l1_3.length ≤ c1_3))
  (t215 : Int)
  (A3 : Aside0 (laws_szDigest.f a0_0 a0_1 a0_2 l0_3 1048576 = some t215))
  (c4b0 : decide (t215 < 0) = false)
  (t216 : Int)
  (A10 : Aside0 (laws_szDigest.f a1_0 a1_1 a1_2 l1_3 t215 = some t216))
  (c11b0 : decide (t216 < 0) = false)
  (t217 t218 t219 : Int)
  (t220 : List Int)
  (A19 : Aside0 (laws_toDigest.f k a0_0 a0_1 a0_2 l0_3 = some (t217, t218, t219, t220)))
  (t223 t224 t225 : Int)
  (t226 : List Int)
  (A20 : Aside0 (laws_toDigest.f k a1_0 a1_1 a1_2 l1_3 = some (t223, t224, t225, t226)))
  (t229 t230 t231 : Int)
  (t232 : List Int)
  (t235 : Int)
  (A21 : Aside0 (spec_DigestJoin.f k t217 t218 t219 t220 t223 t224 t225 t226 = some (t229, t230, t231, t232, t235)))
  (t237 t238 t239 : Int)
  (t240 : List Int)
  (A22 : Aside0 (laws_toDigest.f k a0_0 a0_1 a0_2 l0_3 = some (t237, t238, t239, t240)))
  (t244 t245 t246 : Int)
  (t247 : List Int)
  (A23 : Aside0 (laws_toDigest.f k a1_0 a1_1 a1_2 l1_3 = some (t244, t245, t246, t247)))
  (t251 t252 t253 : Int)
  (t254 : List Int)
  (t257 : Int)
  (A24 : Aside0 (impl_DigestJoin.f k t237 t238 t239 t240 t244 t245 t246 t247 = some (t251, t252, t253, t254, t257)))
  (gb213 : Nat)
  (w26 : World)
  (GW213 GE213 : Aside0 (w.heap.size ≤ gb213))
  (gb214 : Nat)
  (w27 : World)
  (GW214 GE214 : Aside0 (w.heap.size ≤ gb214))
  (NB213_214 : Aside0 (gb213 ≠ gb214))
  (NB214_213 : Aside0 (gb214 ≠ gb213))
  (hnb28 : gb213 ≠ gb214)
  (hnc28 : gb214 ≠ gb213)
  (hcz29_0 : w27.cell? { block := gb213, off := 0 } = some (Value.int IntKind.i64 a0_0))
  (hcz29_1 : w27.cell? { block := gb213, off := 1 } = some (Value.int IntKind.i64 a0_1))
  (hcz29_2 : w27.cell? { block := gb213, off := 2 } = some (Value.int IntKind.i64 a0_2))
  (hcz29_3 : w27.cell? { block := gb213, off := 3 } = some (Value.slice A0_3 l0_3.length c0_3))
  (hfz29_0 : w27.frozen? { block := gb213, off := 0 } = false)
  (hfz29_1 : w27.frozen? { block := gb213, off := 1 } = false)
  (hfz29_2 : w27.frozen? { block := gb213, off := 2 } = false)
  (hfz29_3 : w27.frozen? { block := gb213, off := 3 } = false)
  (w30 : World)
  (hcz31_0 : w30.cell? { block := gb214, off := 0 } = some (Value.int IntKind.i64 a1_0))
  (hcz31_1 : w30.cell? { block := gb214, off := 1 } = some (Value.int IntKind.i64 a1_1))
  (hcz31_2 : w30.cell? { block := gb214, off := 2 } = some (Value.int IntKind.i64 a1_2))
  (hcz31_3 : w30.cell? { block := gb214, off := 3 } = some (Value.slice A1_3 l1_3.length c1_3))
  (hfz31_0 : w30.frozen? { block := gb214, off := 0 } = false)
  (hfz31_1 : w30.frozen? { block := gb214, off := 1 } = false)
  (hfz31_2 : w30.frozen? { block := gb214, off := 2 } = false)
  (hfz31_3 : w30.frozen? { block := gb214, off := 3 } = false)
  (w32 : World)
  (w33 : World)
  (v221 v227 : Value)
  (gb236 : Nat)
  (w40 : World)
  (hS_ : w40.cell? { block := gb213, off := 0 } = some (Value.int IntKind.i64 a0_0) ∧
    w40.cell? { block := gb213, off := 1 } = some (Value.int IntKind.i64 a0_1) ∧
      w40.cell? { block := gb213, off := 2 } = some (Value.int IntKind.i64 a0_2) ∧
        w40.cell? { block := gb213, off := 3 } = some (Value.slice A0_3 l0_3.length c0_3) ∧
          w40.cell? { block := gb214, off := 0 } = some (Value.int IntKind.i64 a1_0) ∧
            w40.cell? { block := gb214, off := 1 } = some (Value.int IntKind.i64 a1_1) ∧
              w40.cell? { block := gb214, off := 2 } = some (Value.int IntKind.i64 a1_2) ∧
                w40.cell? { block := gb214, off := 3 } = some (Value.slice A1_3 l1_3.length c1_3))
  (GW236 GE236 : Aside0 (w.heap.size ≤ gb236))
  (NB213_236 : Aside0 (gb213 ≠ gb236))
  (NB236_213 : Aside0 (gb236 ≠ gb213))
  (NB214_236 : Aside0 (gb214 ≠ gb236))
  (NB236_214 : Aside0 (gb236 ≠ gb214))
  (Ao44 : Option Addr)
  (co44 : Nat)
  (hs41 : w40.cell? { block := gb236, off := 0 } = some (Value.int IntKind.i64 0))
  (hfs41 : w40.frozen? { block := gb236, off := 0 } = false)
  (hns41_0 : gb213 ≠ gb236)
  (hns41_1 : gb214 ≠ gb236)
  (hms41_0 : gb236 ≠ gb213)
  (hms41_1 : gb236 ≠ gb214)
  (hs42 : w40.cell? { block := gb236, off := 1 } = some (Value.int IntKind.i64 0))
  (hfs42 : w40.frozen? { block := gb236, off := 1 } = false)
  (hns42_0 : gb213 ≠ gb236)
  (hns42_1 : gb214 ≠ gb236)
  (hms42_0 : gb236 ≠ gb213)
  (hms42_1 : gb236 ≠ gb214)
  (hs43 : w40.cell? { block := gb236, off := 2 } = some (Value.int IntKind.i64 0))
  (hfs43 : w40.frozen? { block := gb236, off := 2 } = false)
  (hns43_0 : gb213 ≠ gb236)
  (hns43_1 : gb214 ≠ gb236)
  (hms43_0 : gb236 ≠ gb213)
  (hms43_1 : gb236 ≠ gb214)
  (hs45 : w40.cell? { block := gb236, off := 3 } = some (Value.slice none 0 0))
  (hfs45 : w40.frozen? { block := gb236, off := 3 } = false)
  (hns45_0 : gb213 ≠ gb236)
  (hns45_1 : gb214 ≠ gb236)
  (hms45_0 : gb236 ≠ gb213)
  (hms45_1 : gb236 ≠ gb214)
  (hnb46 : gb213 ≠ gb236)
  (hnc46 : gb236 ≠ gb213)
  (w48 : World)
  (gb243 : Nat)
  (w49 : World)
  (GW243 GE243 : Aside0 (w.heap.size ≤ gb243))
  (NB213_243 : Aside0 (gb213 ≠ gb243))
  (NB243_213 : Aside0 (gb243 ≠ gb213))
  (NB214_243 : Aside0 (gb214 ≠ gb243))
  (NB243_214 : Aside0 (gb243 ≠ gb214))
  (NB236_243 : Aside0 (gb236 ≠ gb243))
  (NB243_236 : Aside0 (gb243 ≠ gb236))
  (hnb50 : gb243 ≠ gb213)
  (hnc50 : gb213 ≠ gb243)
  (hnb51 : gb243 ≠ gb214)
  (hnc51 : gb214 ≠ gb243)
  (hnb52 : gb243 ≠ gb236)
  (hnc52 : gb236 ≠ gb243)
  (Ao54 : Option Addr)
  (co54 : Nat)
  (hnb55 : gb214 ≠ gb236)
  (hnc55 : gb236 ≠ gb214)
  (w57 : World)
  (gb250 : Nat)
  (w58 : World)
  (GW250 GE250 : Aside0 (w.heap.size ≤ gb250))
  (NB213_250 : Aside0 (gb213 ≠ gb250))
  (NB250_213 : Aside0 (gb250 ≠ gb213))
  (NB214_250 : Aside0 (gb214 ≠ gb250))
  (NB250_214 : Aside0 (gb250 ≠ gb214))
  (NB236_250 : Aside0 (gb236 ≠ gb250))
  (NB250_236 : Aside0 (gb250 ≠ gb236))
  (NB243_250 : Aside0 (gb243 ≠ gb250))
  (NB250_243 : Aside0 (gb250 ≠ gb243))
  (hnb59 : gb250 ≠ gb213)
  (hnc59 : gb213 ≠ gb250)
  (hnb60 : gb250 ≠ gb214)
  (hnc60 : gb214 ≠ gb250)
  (hnb61 : gb250 ≠ gb236)
  (hnc61 : gb236 ≠ gb250)
  (hnb62 : gb250 ≠ gb243)
  (hnc62 : gb243 ≠ gb250)
  (Ao64 : Option Addr)
  (co64 : Nat)
  (w66 : World)
  (gb258 : Nat)
  (w67 : World)
  (GW258 GE258 : Aside0 (w.heap.size ≤ gb258))
  (NB213_258 : Aside0 (gb213 ≠ gb258))
  (NB258_213 : Aside0 (gb258 ≠ gb213))
  (NB214_258 : Aside0 (gb214 ≠ gb258))
  (NB258_214 : Aside0 (gb258 ≠ gb214))
  (NB236_258 : Aside0 (gb236 ≠ gb258))
  (NB258_236 : Aside0 (gb258 ≠ gb236))
  (NB243_258 : Aside0 (gb243 ≠ gb258))
  (NB258_243 : Aside0 (gb258 ≠ gb243))
  (NB250_258 : Aside0 (gb250 ≠ gb258))
  (NB258_250 : Aside0 (gb258 ≠ gb250))
  (hnb68 : gb258 ≠ gb213)
  (hnc68 : gb213 ≠ gb258)
  (hnb69 : gb258 ≠ gb214)
  (hnc69 : gb214 ≠ gb258)
  (hnb70 : gb258 ≠ gb236)
  (hnc70 : gb236 ≠ gb258)
  (hnb71 : gb258 ≠ gb243)
  (hnc71 : gb243 ≠ gb258)
  (hnb72 : gb258 ≠ gb250)
  (hnc72 : gb250 ≠ gb258)
  (Ao74 : Option Addr)
  (co74 : Nat)
  (HO222 : Aside0
    ((Kd.int IntKind.i64).R 3 w67 w.heap.size
      (fun k =>
        (((some k ≠ v227.ownBlock ∧ some k ≠ (Value.slice Ao44 t232.length co44).ownBlock) ∧
              some k ≠ (Value.slice Ao54 t240.length co54).ownBlock) ∧
            some k ≠ (Value.slice Ao64 t247.length co64).ownBlock) ∧
          some k ≠ (Value.slice Ao74 t254.length co74).ownBlock)
      v221 t220))
  (HO228 : Aside0
    ((Kd.int IntKind.i64).R 3 w67 w.heap.size
      (fun k =>
        (((some k ≠ v221.ownBlock ∧ some k ≠ (Value.slice Ao44 t232.length co44).ownBlock) ∧
              some k ≠ (Value.slice Ao54 t240.length co54).ownBlock) ∧
            some k ≠ (Value.slice Ao64 t247.length co64).ownBlock) ∧
          some k ≠ (Value.slice Ao74 t254.length co74).ownBlock)
      v227 t226))
  (HO234 : Aside0
    ((Kd.int IntKind.i64).R 3 w67 w.heap.size
      (fun k =>
        (((some k ≠ v221.ownBlock ∧ some k ≠ v227.ownBlock) ∧ some k ≠ (Value.slice Ao54 t240.length co54).ownBlock) ∧
            some k ≠ (Value.slice Ao64 t247.length co64).ownBlock) ∧
          some k ≠ (Value.slice Ao74 t254.length co74).ownBlock)
      (Value.slice Ao44 t232.length co44) t232))
  (HO242 : Aside0
    ((Kd.int IntKind.i64).R 3 w67 w.heap.size
      (fun k =>
        ((((True ∧ some k ≠ v221.ownBlock) ∧ some k ≠ v227.ownBlock) ∧
              some k ≠ (Value.slice Ao44 t232.length co44).ownBlock) ∧
            some k ≠ (Value.slice Ao64 t247.length co64).ownBlock) ∧
          some k ≠ (Value.slice Ao74 t254.length co74).ownBlock)
      (Value.slice Ao54 t240.length co54) t240))
  (HO249 : Aside0
    ((Kd.int IntKind.i64).R 3 w67 w.heap.size
      (fun k =>
        ((((True ∧ some k ≠ v221.ownBlock) ∧ some k ≠ v227.ownBlock) ∧
              some k ≠ (Value.slice Ao44 t232.length co44).ownBlock) ∧
            some k ≠ (Value.slice Ao54 t240.length co54).ownBlock) ∧
          some k ≠ (Value.slice Ao74 t254.length co74).ownBlock)
      (Value.slice Ao64 t247.length co64) t247))
  (HO256 : Aside0
    ((Kd.int IntKind.i64).R 3 w67 w.heap.size
      (fun k =>
        ((((True ∧ some k ≠ v221.ownBlock) ∧ some k ≠ v227.ownBlock) ∧
              some k ≠ (Value.slice Ao44 t232.length co44).ownBlock) ∧
            some k ≠ (Value.slice Ao54 t240.length co54).ownBlock) ∧
          some k ≠ (Value.slice Ao64 t247.length co64).ownBlock)
      (Value.slice Ao74 t254.length co74) t254))
  (kj24 : Nat)
  (HJ24 : Aside0 (kj24 + 1 ≤ k))
  (t260 t261 t262 : Int)
  (t263 : List Int)
  (A102 : Aside0 (laws_toDigest.f kj24 a0_0 a0_1 a0_2 l0_3 = some (t260, t261, t262, t263)))
  (A103 : Aside0 (laws_eqDigest.f kj24 t237 t238 t239 t240 t260 t261 t262 t263 = some true))
  (t267 t268 t269 : Int)
  (t270 : List Int)
  (A105 : Aside0 (laws_toDigest.f kj24 a1_0 a1_1 a1_2 l1_3 = some (t267, t268, t269, t270)))
  (A106 : Aside0 (laws_eqDigest.f kj24 t244 t245 t246 t247 t267 t268 t269 t270 = some true))
  (t274 : Int)
  (t275 : List Int)
  (A108 : Aside0 (laws_markDigest.f kj24 t237 t238 t239 t240 1 = some (t274, t275)))
  (t276 : Int)
  (t277 : List Int)
  (A109 : Aside0 (laws_markDigest.f kj24 t244 t245 t246 t247 t274 = some (t276, t277)))
  (w111 : World)
  (w112 : World)
  (Ao113 : Option Addr)
  (co113 : Nat)
  (w114 : World)
  (w115 : World)
  (w116 : World)
  (Ao117 : Option Addr)
  (co117 : Nat)
  (w118 : World)
  (hnb119 : gb243 ≠ gb213)
  (hnc119 : gb213 ≠ gb243)
  (hnb120 : gb243 ≠ gb214)
  (hnc120 : gb214 ≠ gb243)
  (hnb121 : gb243 ≠ gb236)
  (hnc121 : gb236 ≠ gb243)
  (hnb122 : gb243 ≠ gb250)
  (hnc122 : gb250 ≠ gb243)
  (hnb123 : gb243 ≠ gb258)
  (hnc123 : gb258 ≠ gb243)
  (w125 : World)
  (hnb126 : gb250 ≠ gb213)
  (hnc126 : gb213 ≠ gb250)
  (hnb127 : gb250 ≠ gb214)
  (hnc127 : gb214 ≠ gb250)
  (hnb128 : gb250 ≠ gb236)
  (hnc128 : gb236 ≠ gb250)
  (hnb129 : gb250 ≠ gb258)
  (hnc129 : gb258 ≠ gb250)
  (w131 : World)
  (HO265 : Aside0
    ((Kd.int IntKind.i64).R 3 w131 w.heap.size
      (fun k_ =>
        some k_ ≠ (Value.slice Ao44 t232.length co44).ownBlock ∧
          some k_ ≠ (Value.slice Ao54 t240.length co54).ownBlock ∧
            some k_ ≠ (Value.slice Ao64 t247.length co64).ownBlock ∧
              some k_ ≠ (Value.slice Ao74 t254.length co74).ownBlock ∧
                some k_ ≠ (Value.slice Ao117 t270.length co117).ownBlock)
      (Value.slice Ao113 t263.length co113) t263))
  (HO272 : Aside0
    ((Kd.int IntKind.i64).R 3 w131 w.heap.size
      (fun k_ =>
        some k_ ≠ (Value.slice Ao44 t232.length co44).ownBlock ∧
          some k_ ≠ (Value.slice Ao54 t240.length co54).ownBlock ∧
            some k_ ≠ (Value.slice Ao64 t247.length co64).ownBlock ∧
              some k_ ≠ (Value.slice Ao74 t254.length co74).ownBlock ∧
                some k_ ≠ (Value.slice Ao113 t263.length co113).ownBlock)
      (Value.slice Ao117 t270.length co117) t270))
  (wc : World)
  (u17 u18 u19 u20 u21 u22 u23 u24 u25 u26 u27 u28 u29 u30 u31 u32 u33 u34 u35 u36 u37 u38 u39 u40 u41 u42 u43 u44 u45 u46 u47 u48 u49 u50 u51 u52 u53 u54 u55 u56 u57 u58 u59 u60 u61 u62 u63 u64 u65 u66 u67 u68 u69 u70 u71 u72 u73 u74 u75 u76 u77 u78 u79 u80 u81 u83 u84 u85 u86 u87 u88 u89 u90 u91 u92 u93 u94 u95 u96 u97 u98 u99 u100 u101 u102 u103 u104 u105 u106 u107 u108 u109 u110 u111 u112 u113 u114 u115 u116 u117 u118 : Value)
  (hl244003_109 : t240.length = t275.length)
  (hl251003_109 : t247.length = t277.length)
  (kj109 : Nat)
  (HJ109 : Aside0 (kj109 + 1 ≤ kj24))
  (t279 : Int)
  (t280 : List Int)
  (A160 : Aside0 (laws_markDigest.f kj109 t251 t252 t253 t254 1 = some (t279, t280)))
  (t281 : Int)
  (A161 : Aside0 (laws_heldDigest.f kj109 t251 t252 t253 t280 1 = some t281))
  (c162b0 : decide (t281 < 0) = false)
  (c172b0 : (t281 == t279) = true)
  (c172b1 : (t281 != t279) = false)
  (t282 t283 t284 : Int)
  (t285 : List Int)
  (A173 : Aside0 (laws_toDigest.f kj109 a0_0 a0_1 a0_2 l0_3 = some (t282, t283, t284, t285)))
  (t288 t289 t290 : Int)
  (t291 : List Int)
  (A174 : Aside0 (laws_toDigest.f kj109 a1_0 a1_1 a1_2 l1_3 = some (t288, t289, t290, t291)))
  (t294 t295 t296 : Int)
  (t297 : List Int)
  (t300 : Int)
  (A175 : Aside0 (impl_DigestJoin.f kj109 t282 t283 t284 t285 t288 t289 t290 t291 = some (t294, t295, t296, t297, t300)))
  (hnb177 : gb258 ≠ gb213)
  (hnc177 : gb213 ≠ gb258)
  (hnb178 : gb258 ≠ gb214)
  (hnc178 : gb214 ≠ gb258)
  (hnb179 : gb258 ≠ gb236)
  (hnc179 : gb236 ≠ gb258)
  (hnb180 : gb258 ≠ gb243)
  (hnc180 : gb243 ≠ gb258)
  (hnb181 : gb258 ≠ gb250)
  (hnc181 : gb250 ≠ gb258)
  (hcz182_0 : wc.cell? { block := gb258, off := 0 } = some (Value.int IntKind.i64 t251))
  (hcz182_1 : wc.cell? { block := gb258, off := 1 } = some (Value.int IntKind.i64 t252))
  (hcz182_2 : wc.cell? { block := gb258, off := 2 } = some (Value.int IntKind.i64 t253))
  (hcz182_3 : wc.cell? { block := gb258, off := 3 } = some (Value.slice Ao74 t254.length co74))
  (hfz182_0 : wc.frozen? { block := gb258, off := 0 } = false)
  (hfz182_1 : wc.frozen? { block := gb258, off := 1 } = false)
  (hfz182_2 : wc.frozen? { block := gb258, off := 2 } = false)
  (hfz182_3 : wc.frozen? { block := gb258, off := 3 } = false)
  (w183 : World)
  (hcz184_0 : w183.cell? { block := gb258, off := 0 } = some (Value.int IntKind.i64 t251))
  (hcz184_1 : w183.cell? { block := gb258, off := 1 } = some (Value.int IntKind.i64 t252))
  (hcz184_2 : w183.cell? { block := gb258, off := 2 } = some (Value.int IntKind.i64 t253))
  (hcz184_3 : w183.cell? { block := gb258, off := 3 } = some (Value.slice Ao74 t254.length co74))
  (hfz184_0 : w183.frozen? { block := gb258, off := 0 } = false)
  (hfz184_1 : w183.frozen? { block := gb258, off := 1 } = false)
  (hfz184_2 : w183.frozen? { block := gb258, off := 2 } = false)
  (hfz184_3 : w183.frozen? { block := gb258, off := 3 } = false)
  (w185 : World)
  (HT_ : Aside0
    (rtab Region.Mode.any
        #[{ dst := some 95, op := Op.load 46 (Operand.tmp 2), type := 46, pos := "exact.go:6645", after := #[],
            guard := none },
          { dst := some 96,
            op := Op.call { callee := Callee.value (Operand.func 28), args := #[Operand.tmp 95], argTypes := #[46] },
            type := 37, pos := "exact.go:6645", after := #[{ on := 0, ground := Ground.data }], guard := none },
          { dst := some 97, op := Op.load 46 (Operand.tmp 3), type := 46, pos := "exact.go:6645", after := #[],
            guard := none },
          { dst := some 98,
            op := Op.call { callee := Callee.value (Operand.func 28), args := #[Operand.tmp 97], argTypes := #[46] },
            type := 37, pos := "exact.go:6645",
            after := #[{ on := 2, ground := Ground.data }, { on := 1, ground := Ground.chain }], guard := none },
          { dst := some 99,
            op :=
              Op.call
                { callee := Callee.value (Operand.func 29), args := #[Operand.tmp 96, Operand.tmp 98],
                  argTypes := #[37, 37] },
            type := 38, pos := "exact.go:6645",
            after :=
              #[{ on := 1, ground := Ground.data }, { on := 3, ground := Ground.data },
                { on := 3, ground := Ground.chain }],
            guard := none },
          { dst := some 94, op := Op.move (Operand.tmp 99), type := 38, pos := "exact.go:6645",
            after := #[{ on := 4, ground := Ground.data }], guard := none },
          { dst := some 100, op := Op.extract (Operand.tmp 94) 0, type := 37, pos := "exact.go:6645",
            after := #[{ on := 5, ground := Ground.data }], guard := none },
          { dst := some 101, op := Op.extract (Operand.tmp 94) 1, type := 3, pos := "exact.go:6645",
            after := #[{ on := 5, ground := Ground.data }, { on := 9, ground := Ground.gcOnly Departure.lateStores }],
            guard := none },
          { dst := some 15, op := Op.alloc 37, type := 0, pos := "exact.go:6645", after := #[], guard := none },
          { dst := none, op := Op.store 37 (Operand.tmp 15) (Operand.tmp 100), type := 0, pos := "exact.go:6645",
            after :=
              #[{ on := 8, ground := Ground.data }, { on := 6, ground := Ground.data },
                { on := 4, ground := Ground.chain }, { on := 0, ground := Ground.phase },
                { on := 1, ground := Ground.phase }, { on := 2, ground := Ground.phase },
                { on := 3, ground := Ground.phase }, { on := 4, ground := Ground.phase },
                { on := 5, ground := Ground.phase }, { on := 6, ground := Ground.phase },
                { on := 7, ground := Ground.textOnly Departure.lateStores }, { on := 8, ground := Ground.phase }],
            guard := none },
          { dst := some 16, op := Op.assign (Operand.tmp 101), type := 3, pos := "exact.go:6645",
            after :=
              #[{ on := 7, ground := Ground.data }, { on := 9, ground := Ground.chain },
                { on := 0, ground := Ground.phase }, { on := 1, ground := Ground.phase },
                { on := 2, ground := Ground.phase }, { on := 3, ground := Ground.phase },
                { on := 4, ground := Ground.phase }, { on := 5, ground := Ground.phase },
                { on := 6, ground := Ground.phase }, { on := 7, ground := Ground.phase },
                { on := 8, ground := Ground.phase }, { on := 9, ground := Ground.phase }],
            guard := none }] =
      T31))
  (HW_ : Aside0 (waitsOk T31.snd B31 = true))
  (w186 : World)
  (HO_237003 : Aside0
    ((Kd.int IntKind.i64).R 3 w186 w.heap.size
      (fun k_ =>
        some k_ ≠ (Value.slice Ao54 t275.length co54).ownBlock ∧
          some k_ ≠ (Value.slice Ao64 t277.length co64).ownBlock ∧
            some k_ ≠ (Value.slice Ao74 t254.length co74).ownBlock)
      (Value.slice Ao44 t232.length co44) t232))
  (HO_244003 : Aside0
    ((Kd.int IntKind.i64).R 3 w186 w.heap.size
      (fun k_ =>
        some k_ ≠ (Value.slice Ao44 t232.length co44).ownBlock ∧
          some k_ ≠ (Value.slice Ao64 t277.length co64).ownBlock ∧
            some k_ ≠ (Value.slice Ao74 t254.length co74).ownBlock)
      (Value.slice Ao54 t275.length co54) t275))
  (HO_251003 : Aside0
    ((Kd.int IntKind.i64).R 3 w186 w.heap.size
      (fun k_ =>
        some k_ ≠ (Value.slice Ao44 t232.length co44).ownBlock ∧
          some k_ ≠ (Value.slice Ao54 t275.length co54).ownBlock ∧
            some k_ ≠ (Value.slice Ao74 t254.length co74).ownBlock)
      (Value.slice Ao64 t277.length co64) t277))
  (HO_259003 : Aside0
    ((Kd.int IntKind.i64).R 3 w186 w.heap.size
      (fun k_ =>
        some k_ ≠ (Value.slice Ao44 t232.length co44).ownBlock ∧
          some k_ ≠ (Value.slice Ao54 t275.length co54).ownBlock ∧
            some k_ ≠ (Value.slice Ao64 t277.length co64).ownBlock)
      (Value.slice Ao74 t254.length co74) t280))
  (BK213 : Aside0
    (w186.heap[gb213]? =
      some
        (Obj.cells
          #[Value.int IntKind.i64 a0_0, Value.int IntKind.i64 a0_1, Value.int IntKind.i64 a0_2,
            Value.slice A0_3 l0_3.length c0_3]
          46)))
  (BK214 : Aside0
    (w186.heap[gb214]? =
      some
        (Obj.cells
          #[Value.int IntKind.i64 a1_0, Value.int IntKind.i64 a1_1, Value.int IntKind.i64 a1_2,
            Value.slice A1_3 l1_3.length c1_3]
          46)))
  (BK236 : Aside0
    (w186.heap[gb236]? =
      some
        (Obj.cells
          #[Value.int IntKind.i64 t229, Value.int IntKind.i64 t230, Value.int IntKind.i64 t231,
            Value.slice Ao44 t232.length co44]
          37)))
  (BK243 : Aside0
    (w186.heap[gb243]? =
      some
        (Obj.cells
          #[Value.int IntKind.i64 t237, Value.int IntKind.i64 t238, Value.int IntKind.i64 t239,
            Value.slice Ao54 t275.length co54]
          37)))
  (BK250 : Aside0
    (w186.heap[gb250]? =
      some
        (Obj.cells
          #[Value.int IntKind.i64 t244, Value.int IntKind.i64 t245, Value.int IntKind.i64 t246,
            Value.slice Ao64 t277.length co64]
          37)))
  (BK258 : Aside0
    (w186.heap[gb258]? =
      some
        (Obj.cells
          #[Value.int IntKind.i64 t251, Value.int IntKind.i64 t252, Value.int IntKind.i64 t253,
            Value.slice Ao74 t254.length co74]
          37)))
  (HB : Aside0 (Below w.heap.size w w186))
  (hHeld : w186.cell? { block := gb213, off := 0 } = some (Value.int IntKind.i64 a0_0) ∧
    w186.cell? { block := gb213, off := 1 } = some (Value.int IntKind.i64 a0_1) ∧
      w186.cell? { block := gb213, off := 2 } = some (Value.int IntKind.i64 a0_2) ∧
        w186.cell? { block := gb213, off := 3 } = some (Value.slice A0_3 l0_3.length c0_3) ∧
          w186.cell? { block := gb214, off := 0 } = some (Value.int IntKind.i64 a1_0) ∧
            w186.cell? { block := gb214, off := 1 } = some (Value.int IntKind.i64 a1_1) ∧
              w186.cell? { block := gb214, off := 2 } = some (Value.int IntKind.i64 a1_2) ∧
                w186.cell? { block := gb214, off := 3 } = some (Value.slice A1_3 l1_3.length c1_3))
  (hCont : ∀ (s : Value × Value × Value × Nat) (w' : World),
    (w'.cell? { block := gb213, off := 0 } = some (Value.int IntKind.i64 a0_0) ∧
          w'.cell? { block := gb213, off := 1 } = some (Value.int IntKind.i64 a0_1) ∧
            w'.cell? { block := gb213, off := 2 } = some (Value.int IntKind.i64 a0_2) ∧
              w'.cell? { block := gb213, off := 3 } = some (Value.slice A0_3 l0_3.length c0_3) ∧
                w'.cell? { block := gb214, off := 0 } = some (Value.int IntKind.i64 a1_0) ∧
                  w'.cell? { block := gb214, off := 1 } = some (Value.int IntKind.i64 a1_1) ∧
                    w'.cell? { block := gb214, off := 2 } = some (Value.int IntKind.i64 a1_2) ∧
                      w'.cell? { block := gb214, off := 3 } = some (Value.slice A1_3 l1_3.length c1_3)) ∧
        (Kd.int IntKind.i64).R 3 w' w.heap.size
            (fun k_ =>
              some k_ ≠ s.snd.fst.ownBlock ∧
                some k_ ≠ s.snd.snd.fst.ownBlock ∧
                  some k_ ≠ (Value.slice Ao44 t232.length co44).ownBlock ∧
                    some k_ ≠ (Value.slice Ao54 t275.length co54).ownBlock ∧
                      some k_ ≠ (Value.slice Ao64 t277.length co64).ownBlock ∧
                        some k_ ≠ (Value.slice Ao74 t254.length co74).ownBlock)
            s.fst t285 ∧
          (Kd.int IntKind.i64).R 3 w' w.heap.size
              (fun k_ =>
                some k_ ≠ s.fst.ownBlock ∧
                  some k_ ≠ s.snd.snd.fst.ownBlock ∧
                    some k_ ≠ (Value.slice Ao44 t232.length co44).ownBlock ∧
                      some k_ ≠ (Value.slice Ao54 t275.length co54).ownBlock ∧
                        some k_ ≠ (Value.slice Ao64 t277.length co64).ownBlock ∧
                          some k_ ≠ (Value.slice Ao74 t254.length co74).ownBlock)
              s.snd.fst t291 ∧
            (Kd.int IntKind.i64).R 3 w' w.heap.size
                (fun k_ =>
                  some k_ ≠ s.fst.ownBlock ∧
                    some k_ ≠ s.snd.fst.ownBlock ∧
                      some k_ ≠ (Value.slice Ao44 t232.length co44).ownBlock ∧
                        some k_ ≠ (Value.slice Ao54 t275.length co54).ownBlock ∧
                          some k_ ≠ (Value.slice Ao64 t277.length co64).ownBlock ∧
                            some k_ ≠ (Value.slice Ao74 t254.length co74).ownBlock)
                s.snd.snd.fst t297 ∧
              (Kd.int IntKind.i64).R 3 w' w.heap.size
                  (fun k_ =>
                    some k_ ≠ s.fst.ownBlock ∧
                      some k_ ≠ s.snd.fst.ownBlock ∧
                        some k_ ≠ s.snd.snd.fst.ownBlock ∧
                          some k_ ≠ (Value.slice Ao54 t275.length co54).ownBlock ∧
                            some k_ ≠ (Value.slice Ao64 t277.length co64).ownBlock ∧
                              some k_ ≠ (Value.slice Ao74 t254.length co74).ownBlock)
                  (Value.slice Ao44 t232.length co44) t232 ∧
                (Kd.int IntKind.i64).R 3 w' w.heap.size
                    (fun k_ =>
                      some k_ ≠ s.fst.ownBlock ∧
                        some k_ ≠ s.snd.fst.ownBlock ∧
                          some k_ ≠ s.snd.snd.fst.ownBlock ∧
                            some k_ ≠ (Value.slice Ao44 t232.length co44).ownBlock ∧
                              some k_ ≠ (Value.slice Ao64 t277.length co64).ownBlock ∧
                                some k_ ≠ (Value.slice Ao74 t254.length co74).ownBlock)
                    (Value.slice Ao54 t275.length co54) t275 ∧
                  (Kd.int IntKind.i64).R 3 w' w.heap.size
                      (fun k_ =>
                        some k_ ≠ s.fst.ownBlock ∧
                          some k_ ≠ s.snd.fst.ownBlock ∧
                            some k_ ≠ s.snd.snd.fst.ownBlock ∧
                              some k_ ≠ (Value.slice Ao44 t232.length co44).ownBlock ∧
                                some k_ ≠ (Value.slice Ao54 t275.length co54).ownBlock ∧
                                  some k_ ≠ (Value.slice Ao74 t254.length co74).ownBlock)
                      (Value.slice Ao64 t277.length co64) t277 ∧
                    (Kd.int IntKind.i64).R 3 w' w.heap.size
                        (fun k_ =>
                          some k_ ≠ s.fst.ownBlock ∧
                            some k_ ≠ s.snd.fst.ownBlock ∧
                              some k_ ≠ s.snd.snd.fst.ownBlock ∧
                                some k_ ≠ (Value.slice Ao44 t232.length co44).ownBlock ∧
                                  some k_ ≠ (Value.slice Ao54 t275.length co54).ownBlock ∧
                                    some k_ ≠ (Value.slice Ao64 t277.length co64).ownBlock)
                        (Value.slice Ao74 t254.length co74) t280 ∧
                      w'.heap[gb213]? =
                          some
                            (Obj.cells
                              #[Value.int IntKind.i64 a0_0, Value.int IntKind.i64 a0_1, Value.int IntKind.i64 a0_2,
                                Value.slice A0_3 l0_3.length c0_3]
                              46) ∧
                        w'.heap[gb214]? =
                            some
                              (Obj.cells
                                #[Value.int IntKind.i64 a1_0, Value.int IntKind.i64 a1_1, Value.int IntKind.i64 a1_2,
                                  Value.slice A1_3 l1_3.length c1_3]
                                46) ∧
                          w'.heap[gb236]? =
                              some
                                (Obj.cells
                                  #[Value.int IntKind.i64 t229, Value.int IntKind.i64 t230, Value.int IntKind.i64 t231,
                                    Value.slice Ao44 t232.length co44]
                                  37) ∧
                            w'.heap[gb243]? =
                                some
                                  (Obj.cells
                                    #[Value.int IntKind.i64 t237, Value.int IntKind.i64 t238,
                                      Value.int IntKind.i64 t239, Value.slice Ao54 t275.length co54]
                                    37) ∧
                              w'.heap[gb250]? =
                                  some
                                    (Obj.cells
                                      #[Value.int IntKind.i64 t244, Value.int IntKind.i64 t245,
                                        Value.int IntKind.i64 t246, Value.slice Ao64 t277.length co64]
                                      37) ∧
                                w'.heap[gb258]? =
                                    some
                                      (Obj.cells
                                        #[Value.int IntKind.i64 t251, Value.int IntKind.i64 t252,
                                          Value.int IntKind.i64 t253, Value.slice Ao74 t254.length co74]
                                        37) ∧
                                  w'.heap[s.snd.snd.snd]? =
                                      some
                                        (Obj.cells
                                          #[Value.int IntKind.i64 0, Value.int IntKind.i64 0, Value.int IntKind.i64 0,
                                            Value.slice none 0 0]
                                          37) ∧
                                    w.heap.size ≤ s.snd.snd.snd ∧
                                      w.heap.size ≤ s.snd.snd.snd ∧
                                        gb213 ≠ s.snd.snd.snd ∧
                                          s.snd.snd.snd ≠ gb213 ∧
                                            gb214 ≠ s.snd.snd.snd ∧
                                              s.snd.snd.snd ≠ gb214 ∧
                                                gb236 ≠ s.snd.snd.snd ∧
                                                  s.snd.snd.snd ≠ gb236 ∧
                                                    gb243 ≠ s.snd.snd.snd ∧
                                                      s.snd.snd.snd ≠ gb243 ∧
                                                        gb250 ≠ s.snd.snd.snd ∧
                                                          s.snd.snd.snd ≠ gb250 ∧
                                                            gb258 ≠ s.snd.snd.snd ∧
                                                              s.snd.snd.snd ≠ gb258 ∧ Below w.heap.size w w' →
      wpAnyLast Try.prog Region.Mode.any
        #[{ dst := some 95, op := Op.load 46 (Operand.tmp 2), type := 46, pos := "exact.go:6645", after := #[],
            guard := none },
          { dst := some 96,
            op := Op.call { callee := Callee.value (Operand.func 28), args := #[Operand.tmp 95], argTypes := #[46] },
            type := 37, pos := "exact.go:6645", after := #[{ on := 0, ground := Ground.data }], guard := none },
          { dst := some 97, op := Op.load 46 (Operand.tmp 3), type := 46, pos := "exact.go:6645", after := #[],
            guard := none },
          { dst := some 98,
            op := Op.call { callee := Callee.value (Operand.func 28), args := #[Operand.tmp 97], argTypes := #[46] },
            type := 37, pos := "exact.go:6645",
            after := #[{ on := 2, ground := Ground.data }, { on := 1, ground := Ground.chain }], guard := none },
          { dst := some 99,
            op :=
              Op.call
                { callee := Callee.value (Operand.func 29), args := #[Operand.tmp 96, Operand.tmp 98],
                  argTypes := #[37, 37] },
            type := 38, pos := "exact.go:6645",
            after :=
              #[{ on := 1, ground := Ground.data }, { on := 3, ground := Ground.data },
                { on := 3, ground := Ground.chain }],
            guard := none },
          { dst := some 94, op := Op.move (Operand.tmp 99), type := 38, pos := "exact.go:6645",
            after := #[{ on := 4, ground := Ground.data }], guard := none },
          { dst := some 100, op := Op.extract (Operand.tmp 94) 0, type := 37, pos := "exact.go:6645",
            after := #[{ on := 5, ground := Ground.data }], guard := none },
          { dst := some 101, op := Op.extract (Operand.tmp 94) 1, type := 3, pos := "exact.go:6645",
            after := #[{ on := 5, ground := Ground.data }, { on := 9, ground := Ground.gcOnly Departure.lateStores }],
            guard := none },
          { dst := some 15, op := Op.alloc 37, type := 0, pos := "exact.go:6645", after := #[], guard := none },
          { dst := none, op := Op.store 37 (Operand.tmp 15) (Operand.tmp 100), type := 0, pos := "exact.go:6645",
            after :=
              #[{ on := 8, ground := Ground.data }, { on := 6, ground := Ground.data },
                { on := 4, ground := Ground.chain }, { on := 0, ground := Ground.phase },
                { on := 1, ground := Ground.phase }, { on := 2, ground := Ground.phase },
                { on := 3, ground := Ground.phase }, { on := 4, ground := Ground.phase },
                { on := 5, ground := Ground.phase }, { on := 6, ground := Ground.phase },
                { on := 7, ground := Ground.textOnly Departure.lateStores }, { on := 8, ground := Ground.phase }],
            guard := none },
          { dst := some 16, op := Op.assign (Operand.tmp 101), type := 3, pos := "exact.go:6645",
            after :=
              #[{ on := 7, ground := Ground.data }, { on := 9, ground := Ground.chain },
                { on := 0, ground := Ground.phase }, { on := 1, ground := Ground.phase },
                { on := 2, ground := Ground.phase }, { on := 3, ground := Ground.phase },
                { on := 4, ground := Ground.phase }, { on := 5, ground := Ground.phase },
                { on := 6, ground := Ground.phase }, { on := 7, ground := Ground.phase },
                { on := 8, ground := Ground.phase }, { on := 9, ground := Ground.phase }],
            guard := none }]
        (Exit.then K_ (bodyPost Try.prog Try.f6 P_))
        (fun w' =>
          w'.cell? { block := gb213, off := 0 } = some (Value.int IntKind.i64 a0_0) ∧
            w'.cell? { block := gb213, off := 1 } = some (Value.int IntKind.i64 a0_1) ∧
              w'.cell? { block := gb213, off := 2 } = some (Value.int IntKind.i64 a0_2) ∧
                w'.cell? { block := gb213, off := 3 } = some (Value.slice A0_3 l0_3.length c0_3) ∧
                  w'.cell? { block := gb214, off := 0 } = some (Value.int IntKind.i64 a1_0) ∧
                    w'.cell? { block := gb214, off := 1 } = some (Value.int IntKind.i64 a1_1) ∧
                      w'.cell? { block := gb214, off := 2 } = some (Value.int IntKind.i64 a1_2) ∧
                        w'.cell? { block := gb214, off := 3 } = some (Value.slice A1_3 l1_3.length c1_3))
        [] 2 #[true, true, true, true, true, true, true, true, true, false, false]
        (putAll
          {
            tmps :=
              #[Value.agg
                  #[Value.int IntKind.i64 a0_0, Value.int IntKind.i64 a0_1, Value.int IntKind.i64 a0_2,
                    Value.slice A0_3 l0_3.length c0_3],
                Value.agg
                  #[Value.int IntKind.i64 a1_0, Value.int IntKind.i64 a1_1, Value.int IntKind.i64 a1_2,
                    Value.slice A1_3 l1_3.length c1_3],
                Value.pointer (some { block := gb213, off := 0 }), Value.pointer (some { block := gb214, off := 0 }),
                Value.bool false, Value.int IntKind.i64 t216, Value.pointer (some { block := gb236, off := 0 }),
                Value.int IntKind.i64 t235, Value.pointer (some { block := gb243, off := 0 }),
                Value.pointer (some { block := gb250, off := 0 }), Value.pointer (some { block := gb258, off := 0 }),
                Value.int IntKind.i64 t257, Value.int IntKind.i64 t276, Value.int IntKind.i64 t279,
                Value.int IntKind.i64 t281, undef, undef, u17, u18, u19, u20, u21, u22, u23, u24, u25, u26, u27, u28,
                u29, u30, u31, u32, u33, u34, u35, u36, u37, u38, u39, u40, u41, u42, u43, u44, u45, u46, u47, u48, u49,
                u50, u51, u52, u53, u54, u55, u56, u57, u58, u59, u60, u61, u62, u63, u64, u65, u66, u67, u68, u69, u70,
                u71, u72, u73, u74, u75, u76, u77, u78, u79, u80, u81, Value.bool false,
                Value.agg
                  #[Value.int IntKind.i64 t251, Value.int IntKind.i64 t252, Value.int IntKind.i64 t253,
                    Value.slice Ao74 t254.length co74],
                Value.int IntKind.i64 1, Value.int IntKind.i64 t279,
                Value.agg
                  #[Value.int IntKind.i64 t251, Value.int IntKind.i64 t252, Value.int IntKind.i64 t253,
                    Value.slice Ao74 t254.length co74],
                Value.int IntKind.i64 1, Value.int IntKind.i64 t281, Value.int IntKind.i64 t281, Value.bool false,
                Value.int IntKind.i64 t281, Value.int IntKind.i64 t279, Value.bool false, u94,
                Value.agg
                  #[Value.int IntKind.i64 a0_0, Value.int IntKind.i64 a0_1, Value.int IntKind.i64 a0_2,
                    Value.slice A0_3 l0_3.length c0_3],
                u96,
                Value.agg
                  #[Value.int IntKind.i64 a1_0, Value.int IntKind.i64 a1_1, Value.int IntKind.i64 a1_2,
                    Value.slice A1_3 l1_3.length c1_3],
                u98, u99, u100, u101, u102, u103, u104, u105, u106, u107, u108, u109, u110, u111, u112, u113, u114,
                u115, u116, u117, u118],
            defers := [] }
          [(96, Value.agg #[Value.int IntKind.i64 t282, Value.int IntKind.i64 t283, Value.int IntKind.i64 t284, s.fst]),
            (98,
              Value.agg
                #[Value.int IntKind.i64 t288, Value.int IntKind.i64 t289, Value.int IntKind.i64 t290, s.snd.fst]),
            (99,
              Value.tuple
                #[Value.agg
                    #[Value.int IntKind.i64 t294, Value.int IntKind.i64 t295, Value.int IntKind.i64 t296,
                      s.snd.snd.fst],
                  Value.int IntKind.i64 t300]),
            (15, Value.pointer (some { block := s.snd.snd.snd, off := 0 })),
            (94,
              Value.tuple
                #[Value.agg
                    #[Value.int IntKind.i64 t294, Value.int IntKind.i64 t295, Value.int IntKind.i64 t296,
                      s.snd.snd.fst],
                  Value.int IntKind.i64 t300]),
            (100,
              Value.agg
                #[Value.int IntKind.i64 t294, Value.int IntKind.i64 t295, Value.int IntKind.i64 t296, s.snd.snd.fst]),
            (101, Value.int IntKind.i64 t300)])
        w') :
  wpAnyLast Try.prog Region.Mode.any
    #[{ dst := some 95, op := Op.load 46 (Operand.tmp 2), type := 46, pos := "exact.go:6645", after := #[],
        guard := none },
      { dst := some 96,
        op := Op.call { callee := Callee.value (Operand.func 28), args := #[Operand.tmp 95], argTypes := #[46] },
        type := 37, pos := "exact.go:6645", after := #[{ on := 0, ground := Ground.data }], guard := none },
      { dst := some 97, op := Op.load 46 (Operand.tmp 3), type := 46, pos := "exact.go:6645", after := #[],
        guard := none },
      { dst := some 98,
        op := Op.call { callee := Callee.value (Operand.func 28), args := #[Operand.tmp 97], argTypes := #[46] },
        type := 37, pos := "exact.go:6645",
        after := #[{ on := 2, ground := Ground.data }, { on := 1, ground := Ground.chain }], guard := none },
      { dst := some 99,
        op :=
          Op.call
            { callee := Callee.value (Operand.func 29), args := #[Operand.tmp 96, Operand.tmp 98],
              argTypes := #[37, 37] },
        type := 38, pos := "exact.go:6645",
        after :=
          #[{ on := 1, ground := Ground.data }, { on := 3, ground := Ground.data },
            { on := 3, ground := Ground.chain }],
        guard := none },
      { dst := some 94, op := Op.move (Operand.tmp 99), type := 38, pos := "exact.go:6645",
        after := #[{ on := 4, ground := Ground.data }], guard := none },
      { dst := some 100, op := Op.extract (Operand.tmp 94) 0, type := 37, pos := "exact.go:6645",
        after := #[{ on := 5, ground := Ground.data }], guard := none },
      { dst := some 101, op := Op.extract (Operand.tmp 94) 1, type := 3, pos := "exact.go:6645",
        after := #[{ on := 5, ground := Ground.data }, { on := 9, ground := Ground.gcOnly Departure.lateStores }],
        guard := none },
      { dst := some 15, op := Op.alloc 37, type := 0, pos := "exact.go:6645", after := #[], guard := none },
      { dst := none, op := Op.store 37 (Operand.tmp 15) (Operand.tmp 100), type := 0, pos := "exact.go:6645",
        after :=
          #[{ on := 8, ground := Ground.data }, { on := 6, ground := Ground.data }, { on := 4, ground := Ground.chain },
            { on := 0, ground := Ground.phase }, { on := 1, ground := Ground.phase },
            { on := 2, ground := Ground.phase }, { on := 3, ground := Ground.phase },
            { on := 4, ground := Ground.phase }, { on := 5, ground := Ground.phase },
            { on := 6, ground := Ground.phase }, { on := 7, ground := Ground.textOnly Departure.lateStores },
            { on := 8, ground := Ground.phase }],
        guard := none },
      { dst := some 16, op := Op.assign (Operand.tmp 101), type := 3, pos := "exact.go:6645",
        after :=
          #[{ on := 7, ground := Ground.data }, { on := 9, ground := Ground.chain },
            { on := 0, ground := Ground.phase }, { on := 1, ground := Ground.phase },
            { on := 2, ground := Ground.phase }, { on := 3, ground := Ground.phase },
            { on := 4, ground := Ground.phase }, { on := 5, ground := Ground.phase },
            { on := 6, ground := Ground.phase }, { on := 7, ground := Ground.phase },
            { on := 8, ground := Ground.phase }, { on := 9, ground := Ground.phase }],
        guard := none }]
    (Exit.then K_ (bodyPost Try.prog Try.f6 P_))
    (fun w' =>
      w'.cell? { block := gb213, off := 0 } = some (Value.int IntKind.i64 a0_0) ∧
        w'.cell? { block := gb213, off := 1 } = some (Value.int IntKind.i64 a0_1) ∧
          w'.cell? { block := gb213, off := 2 } = some (Value.int IntKind.i64 a0_2) ∧
            w'.cell? { block := gb213, off := 3 } = some (Value.slice A0_3 l0_3.length c0_3) ∧
              w'.cell? { block := gb214, off := 0 } = some (Value.int IntKind.i64 a1_0) ∧
                w'.cell? { block := gb214, off := 1 } = some (Value.int IntKind.i64 a1_1) ∧
                  w'.cell? { block := gb214, off := 2 } = some (Value.int IntKind.i64 a1_2) ∧
                    w'.cell? { block := gb214, off := 3 } = some (Value.slice A1_3 l1_3.length c1_3))
    [] 9 #[true, false, true, false, false, false, false, false, false, false, false]
    {
      tmps :=
        #[Value.agg
            #[Value.int IntKind.i64 a0_0, Value.int IntKind.i64 a0_1, Value.int IntKind.i64 a0_2,
              Value.slice A0_3 l0_3.length c0_3],
          Value.agg
            #[Value.int IntKind.i64 a1_0, Value.int IntKind.i64 a1_1, Value.int IntKind.i64 a1_2,
              Value.slice A1_3 l1_3.length c1_3],
          Value.pointer (some { block := gb213, off := 0 }), Value.pointer (some { block := gb214, off := 0 }),
          Value.bool false, Value.int IntKind.i64 t216, Value.pointer (some { block := gb236, off := 0 }),
          Value.int IntKind.i64 t235, Value.pointer (some { block := gb243, off := 0 }),
          Value.pointer (some { block := gb250, off := 0 }), Value.pointer (some { block := gb258, off := 0 }),
          Value.int IntKind.i64 t257, Value.int IntKind.i64 t276, Value.int IntKind.i64 t279,
          Value.int IntKind.i64 t281, undef, undef, u17, u18, u19, u20, u21, u22, u23, u24, u25, u26, u27, u28, u29,
          u30, u31, u32, u33, u34, u35, u36, u37, u38, u39, u40, u41, u42, u43, u44, u45, u46, u47, u48, u49, u50, u51,
          u52, u53, u54, u55, u56, u57, u58, u59, u60, u61, u62, u63, u64, u65, u66, u67, u68, u69, u70, u71, u72, u73,
          u74, u75, u76, u77, u78, u79, u80, u81, Value.bool false,
          Value.agg
            #[Value.int IntKind.i64 t251, Value.int IntKind.i64 t252, Value.int IntKind.i64 t253,
              Value.slice Ao74 t254.length co74],
          Value.int IntKind.i64 1, Value.int IntKind.i64 t279,
          Value.agg
            #[Value.int IntKind.i64 t251, Value.int IntKind.i64 t252, Value.int IntKind.i64 t253,
              Value.slice Ao74 t254.length co74],
          Value.int IntKind.i64 1, Value.int IntKind.i64 t281, Value.int IntKind.i64 t281, Value.bool false,
          Value.int IntKind.i64 t281, Value.int IntKind.i64 t279, Value.bool false, u94,
          Value.agg
            #[Value.int IntKind.i64 a0_0, Value.int IntKind.i64 a0_1, Value.int IntKind.i64 a0_2,
              Value.slice A0_3 l0_3.length c0_3],
          u96,
          Value.agg
            #[Value.int IntKind.i64 a1_0, Value.int IntKind.i64 a1_1, Value.int IntKind.i64 a1_2,
              Value.slice A1_3 l1_3.length c1_3],
          u98, u99, u100, u101, u102, u103, u104, u105, u106, u107, u108, u109, u110, u111, u112, u113, u114, u115,
          u116, u117, u118],
      defers := [] }
    w186 := by
 refine two_ (i := 1) (j := 8) (Ni := some 96) (Nj := some 15) #[true, true, true, false, false, false, false, false, false, false, false] #[true, false, true, false, false, false, false, false, true, false, false] rfl rfl rfl rfl (two_of HT_.out (by kernel_rfl)) (by decide) (by decide) (fun K hK => ?_) (fun K hK => ?_)
 ·
  skip
  refine goes_ Try.func28 (by kernel_rfl) rfl #[.agg #[.int .i64 a0_0, .int .i64 a0_1, .int .i64 a0_2, .slice A0_3 l0_3.length c0_3]] (by rfl) rfl rfl zar ?_
  with_reducible refine (laws_toDigest.calls kj109 a0_0 a0_1 a0_2 _ _ l0_3 t282 t283 t284 t285 _ ?side1 ?side2 A173.out).mono ?_
  (case side1 => repeat (first | exact (Kd.C_below HR0_3.out HB.out) | (with_reducible refine Kd.C_alloc ?_ _) | (with_reducible refine Kd.C_drewN ?_ _) | (with_reducible refine Kd.C_drew ?_)))
  (case side2 => exact HC0_3.out)
  rintro e w187 ⟨v286, rfl, ho0, hb⟩
  refine ⟨_, rfl, ?_⟩
  have n0_ := Aside0.mk (Kd.R_elder' (zr HO_237003) (Kd.R_base ho0) hb)
  have n1_ := Aside0.mk (Kd.R_elder' (zr HO_244003) (Kd.R_base ho0) hb)
  have n2_ := Aside0.mk (Kd.R_elder' (zr HO_251003) (Kd.R_base ho0) hb)
  have n3_ := Aside0.mk (Kd.R_elder' (zr HO_259003) (Kd.R_base ho0) hb)
  have n4_ := Aside0.mk (Kd.R_lower (Kd.R_new' (Kd.R_new' (Kd.R_new' (Kd.R_new' ho0 (Kd.R_lt (zr HO_237003))) (Kd.R_lt (zr HO_244003))) (Kd.R_lt (zr HO_251003))) (Kd.R_lt (zr HO_259003))) (below_size (zg HB)))
  have n5_ := Aside0.mk (blk_below (zb BK213) hb)
  have n6_ := Aside0.mk (blk_below (zb BK214) hb)
  have n7_ := Aside0.mk (blk_below (zb BK236) hb)
  have n8_ := Aside0.mk (blk_below (zb BK243) hb)
  have n9_ := Aside0.mk (blk_below (zb BK250) hb)
  have n10_ := Aside0.mk (blk_below (zb BK258) hb)
  have n11_ := Aside0.mk (below_step (zg HB) hb)
  clear HO_237003
  clear HO_244003
  clear HO_251003
  clear HO_259003
  clear BK213
  clear BK214
  clear BK236
  clear BK243
  clear BK250
  clear BK258
  clear HB
  have HO_237003 := n0_
  have HO_244003 := n1_
  have HO_251003 := n2_
  have HO_259003 := n3_
  have HO287 := n4_
  have BK213 := n5_
  have BK214 := n6_
  have BK236 := n7_
  have BK243 := n8_
  have BK250 := n9_
  have BK258 := n10_
  have HB := n11_
  clear n0_ n1_ n2_ n3_ n4_ n5_ n6_ n7_ n8_ n9_ n10_ n11_
  (try clear hb)
  (try clear hb2)
  (try clear hk)
  (try clear hi)
  (try clear ho0)
  refine hK.out _ _ ⟨(blk_cell BK213.out 0).trans rfl, (blk_cell BK213.out 1).trans rfl, (blk_cell BK213.out 2).trans rfl, (blk_cell BK213.out 3).trans rfl, (blk_cell BK214.out 0).trans rfl, (blk_cell BK214.out 1).trans rfl, (blk_cell BK214.out 2).trans rfl, (blk_cell BK214.out 3).trans rfl⟩ (fun hHeld => ?_)
  clear hK K
  refine norm_ (a' := ?_) ?_ ?_
  rotate_left
  ·
   show Act.put _ (some 96) _ = _
   simp only [Act.put, List.setIfInBounds_toArray, List.set_cons_zero, List.set_cons_succ, i64_w, i32_w]
   rfl
  refine two_ (i := 3) (j := 8) (Ni := some 98) (Nj := some 15) #[true, true, true, true, false, false, false, false, false, false, false] #[true, true, true, false, false, false, false, false, true, false, false] rfl rfl rfl rfl (two_of HT_.out (by kernel_rfl)) (by decide) (by decide) (fun K hK => ?_) (fun K hK => ?_)
  ·
   skip
   refine goes_ Try.func28 (by kernel_rfl) rfl #[.agg #[.int .i64 a1_0, .int .i64 a1_1, .int .i64 a1_2, .slice A1_3 l1_3.length c1_3]] (by rfl) rfl rfl zar ?_
   with_reducible refine (laws_toDigest.calls kj109 a1_0 a1_1 a1_2 _ _ l1_3 t288 t289 t290 t291 _ ?side1 ?side2 A174.out).mono ?_
   (case side1 => repeat (first | exact (Kd.C_below HR1_3.out HB.out) | (with_reducible refine Kd.C_alloc ?_ _) | (with_reducible refine Kd.C_drewN ?_ _) | (with_reducible refine Kd.C_drew ?_)))
   (case side2 => exact HC1_3.out)
   rintro e w188 ⟨v292, rfl, ho0, hb⟩
   refine ⟨_, rfl, ?_⟩
   have n0_ := Aside0.mk (Kd.R_elder' (zr HO_237003) (Kd.R_base ho0) hb)
   have n1_ := Aside0.mk (Kd.R_elder' (zr HO_244003) (Kd.R_base ho0) hb)
   have n2_ := Aside0.mk (Kd.R_elder' (zr HO_251003) (Kd.R_base ho0) hb)
   have n3_ := Aside0.mk (Kd.R_elder' (zr HO_259003) (Kd.R_base ho0) hb)
   have n4_ := Aside0.mk (Kd.R_elder' (zr HO287) (Kd.R_base ho0) hb)
   have n5_ := Aside0.mk (Kd.R_lower (Kd.R_new' (Kd.R_new' (Kd.R_new' (Kd.R_new' (Kd.R_new' ho0 (Kd.R_lt (zr HO_237003))) (Kd.R_lt (zr HO_244003))) (Kd.R_lt (zr HO_251003))) (Kd.R_lt (zr HO_259003))) (Kd.R_lt (zr HO287))) (below_size (zg HB)))
   have n6_ := Aside0.mk (blk_below (zb BK213) hb)
   have n7_ := Aside0.mk (blk_below (zb BK214) hb)
   have n8_ := Aside0.mk (blk_below (zb BK236) hb)
   have n9_ := Aside0.mk (blk_below (zb BK243) hb)
   have n10_ := Aside0.mk (blk_below (zb BK250) hb)
   have n11_ := Aside0.mk (blk_below (zb BK258) hb)
   have n12_ := Aside0.mk (below_step (zg HB) hb)
   clear HO_237003
   clear HO_244003
   clear HO_251003
   clear HO_259003
   clear HO287
   clear BK213
   clear BK214
   clear BK236
   clear BK243
   clear BK250
   clear BK258
   clear HB
   have HO_237003 := n0_
   have HO_244003 := n1_
   have HO_251003 := n2_
   have HO_259003 := n3_
   have HO287 := n4_
   have HO293 := n5_
   have BK213 := n6_
   have BK214 := n7_
   have BK236 := n8_
   have BK243 := n9_
   have BK250 := n10_
   have BK258 := n11_
   have HB := n12_
   clear n0_ n1_ n2_ n3_ n4_ n5_ n6_ n7_ n8_ n9_ n10_ n11_ n12_
   (try clear hb)
   (try clear hb2)
   (try clear hk)
   (try clear hi)
   (try clear ho0)
   obtain ⟨Ao189, co189, eo189⟩ := Kd.R_slice HO287.out
   (first | subst eo189 | (injection eo189 with f1_ f2_ f3_; have f4_ := f1_.symm; have f5_ := f3_.symm; clear f1_ f2_ f3_; subst f4_; subst f5_))
   obtain ⟨Ao190, co190, eo190⟩ := Kd.R_slice HO293.out
   (first | subst eo190 | (injection eo190 with f1_ f2_ f3_; have f4_ := f1_.symm; have f5_ := f3_.symm; clear f1_ f2_ f3_; subst f4_; subst f5_))
   refine hK.out _ _ ⟨(blk_cell BK213.out 0).trans rfl, (blk_cell BK213.out 1).trans rfl, (blk_cell BK213.out 2).trans rfl, (blk_cell BK213.out 3).trans rfl, (blk_cell BK214.out 0).trans rfl, (blk_cell BK214.out 1).trans rfl, (blk_cell BK214.out 2).trans rfl, (blk_cell BK214.out 3).trans rfl⟩ (fun hHeld => ?_)
   clear hK K
   refine norm_ (a' := ?_) ?_ ?_
   rotate_left
   ·
    show Act.put _ (some 98) _ = _
    simp only [Act.put, List.setIfInBounds_toArray, List.set_cons_zero, List.set_cons_succ, i64_w, i32_w]
    rfl
   refine two_ (i := 4) (j := 8) (Ni := some 99) (Nj := some 15) #[true, true, true, true, true, false, false, false, false, false, false] #[true, true, true, true, false, false, false, false, true, false, false] rfl rfl rfl rfl (two_of HT_.out (by kernel_rfl)) (by decide) (by decide) (fun K hK => ?_) (fun K hK => ?_)
   ·
    skip
    refine goes_ Try.func29 (by kernel_rfl) rfl #[.agg #[.int .i64 t282, .int .i64 t283, .int .i64 t284, .slice Ao189 t285.length co189], .agg #[.int .i64 t288, .int .i64 t289, .int .i64 t290, .slice Ao190 t291.length co190]] (by rfl) rfl rfl zar ?_
    with_reducible refine (impl_DigestJoin.calls kj109 t282 t283 t284 _ _ t285 t288 t289 t290 _ _ t291 t294 t295 t296 t297 t300 _ ?side1 ?side2 ?side3 ?side4 A175.out).mono ?_
    (case side1 => repeat (first | exact (Kd.R_reads' HO287.out).2.2 | (with_reducible refine Kd.C_alloc ?_ _) | (with_reducible refine Kd.C_drewN ?_ _) | (with_reducible refine Kd.C_drew ?_)))
    (case side2 => exact (Kd.R_reads' HO287.out).2.1)
    (case side3 => repeat (first | exact (Kd.R_reads' HO293.out).2.2 | (with_reducible refine Kd.C_alloc ?_ _) | (with_reducible refine Kd.C_drewN ?_ _) | (with_reducible refine Kd.C_drew ?_)))
    (case side4 => exact (Kd.R_reads' HO293.out).2.1)
    rintro e w191 ⟨v298, rfl, ho0, hb⟩
    refine ⟨_, rfl, ?_⟩
    have n0_ := Aside0.mk (Kd.R_elder' (zr HO_237003) (Kd.R_base ho0) hb)
    have n1_ := Aside0.mk (Kd.R_elder' (zr HO_244003) (Kd.R_base ho0) hb)
    have n2_ := Aside0.mk (Kd.R_elder' (zr HO_251003) (Kd.R_base ho0) hb)
    have n3_ := Aside0.mk (Kd.R_elder' (zr HO_259003) (Kd.R_base ho0) hb)
    have n4_ := Aside0.mk (Kd.R_elder' (zr HO287) (Kd.R_base ho0) hb)
    have n5_ := Aside0.mk (Kd.R_elder' (zr HO293) (Kd.R_base ho0) hb)
    have n6_ := Aside0.mk (Kd.R_lower (Kd.R_new' (Kd.R_new' (Kd.R_new' (Kd.R_new' (Kd.R_new' (Kd.R_new' ho0 (Kd.R_lt (zr HO_237003))) (Kd.R_lt (zr HO_244003))) (Kd.R_lt (zr HO_251003))) (Kd.R_lt (zr HO_259003))) (Kd.R_lt (zr HO287))) (Kd.R_lt (zr HO293))) (below_size (zg HB)))
    have n7_ := Aside0.mk (blk_below (zb BK213) hb)
    have n8_ := Aside0.mk (blk_below (zb BK214) hb)
    have n9_ := Aside0.mk (blk_below (zb BK236) hb)
    have n10_ := Aside0.mk (blk_below (zb BK243) hb)
    have n11_ := Aside0.mk (blk_below (zb BK250) hb)
    have n12_ := Aside0.mk (blk_below (zb BK258) hb)
    have n13_ := Aside0.mk (below_step (zg HB) hb)
    clear HO_237003
    clear HO_244003
    clear HO_251003
    clear HO_259003
    clear HO287
    clear HO293
    clear BK213
    clear BK214
    clear BK236
    clear BK243
    clear BK250
    clear BK258
    clear HB
    have HO_237003 := n0_
    have HO_244003 := n1_
    have HO_251003 := n2_
    have HO_259003 := n3_
    have HO287 := n4_
    have HO293 := n5_
    have HO299 := n6_
    have BK213 := n7_
    have BK214 := n8_
    have BK236 := n9_
    have BK243 := n10_
    have BK250 := n11_
    have BK258 := n12_
    have HB := n13_
    clear n0_ n1_ n2_ n3_ n4_ n5_ n6_ n7_ n8_ n9_ n10_ n11_ n12_ n13_
    (try clear hb)
    (try clear hb2)
    (try clear hk)
    (try clear hi)
    (try clear ho0)
    refine hK.out _ _ ⟨(blk_cell BK213.out 0).trans rfl, (blk_cell BK213.out 1).trans rfl, (blk_cell BK213.out 2).trans rfl, (blk_cell BK213.out 3).trans rfl, (blk_cell BK214.out 0).trans rfl, (blk_cell BK214.out 1).trans rfl, (blk_cell BK214.out 2).trans rfl, (blk_cell BK214.out 3).trans rfl⟩ (fun hHeld => ?_)
    clear hK K
    refine norm_ (a' := ?_) ?_ ?_
    rotate_left
    ·
     show Act.put _ (some 99) _ = _
     simp only [Act.put, List.setIfInBounds_toArray, List.set_cons_zero, List.set_cons_succ, i64_w, i32_w]
     rfl
    refine pure_ (i := 5) (N := some 94) (v := ?_) (a' := ?_) #[true, true, true, true, true, true, false, false, false, false, false] rfl rfl (any_of HT_.out (by kernel_rfl)) (fun _ _ _ h => h) (Or.inl ⟨by rfl, ?_⟩) ?_ ?_
    rotate_left
    ·
     intro w'
     go_simp
     with_reducible rfl
    rotate_left
    ·
     simp only [Act.put, List.setIfInBounds_toArray, List.set_cons_zero, List.set_cons_succ, i64_w, i32_w]
     rfl
    refine pure_ (i := 6) (N := some 100) (v := ?_) (a' := ?_) #[true, true, true, true, true, true, true, false, false, false, false] rfl rfl (any_of HT_.out (by kernel_rfl)) (fun _ _ _ h => h) (Or.inl ⟨by rfl, ?_⟩) ?_ ?_
    rotate_left
    ·
     intro w'
     go_simp
     with_reducible rfl
    rotate_left
    ·
     simp only [Act.put, List.setIfInBounds_toArray, List.set_cons_zero, List.set_cons_succ, i64_w, i32_w]
     rfl
    refine pure_ (i := 7) (N := some 101) (v := ?_) (a' := ?_) #[true, true, true, true, true, true, true, true, false, false, false] rfl rfl (any_of HT_.out (by kernel_rfl)) (fun _ _ _ h => h) (Or.inl ⟨by rfl, ?_⟩) ?_ ?_
    rotate_left
    ·
     intro w'
     go_simp
     with_reducible rfl
    rotate_left
    ·
     simp only [Act.put, List.setIfInBounds_toArray, List.set_cons_zero, List.set_cons_succ, i64_w, i32_w]
     rfl
    refine one_ (i := 8) (N := some 15) #[true, true, true, true, true, true, true, true, true, false, false] rfl rfl (one_of HT_.out (by kernel_rfl)) (by decide) (fun K hK => ?_)
    refine box_step ?hg (N := 15) ?hd (cs := #[.int .i64 0, .int .i64 0, .int .i64 0, .slice none 0 0]) (t := 37) ?hr ?_; (case hd => rfl); (case hg => rfl); (case hr => first | (go_simp; done) | (go_simp; rfl))
    intro gb301 hg w192 hbox hb
    have n0_ := Aside0.mk (Kd.R_below (zr HO_237003) hb)
    have n1_ := Aside0.mk (Kd.R_below (zr HO_244003) hb)
    have n2_ := Aside0.mk (Kd.R_below (zr HO_251003) hb)
    have n3_ := Aside0.mk (Kd.R_below (zr HO_259003) hb)
    have n4_ := Aside0.mk (Kd.R_below (zr HO287) hb)
    have n5_ := Aside0.mk (Kd.R_below (zr HO293) hb)
    have n6_ := Aside0.mk (Kd.R_below (zr HO299) hb)
    have n7_ := Aside0.mk (blk_below (zb BK213) hb)
    have n8_ := Aside0.mk (blk_below (zb BK214) hb)
    have n9_ := Aside0.mk (blk_below (zb BK236) hb)
    have n10_ := Aside0.mk (blk_below (zb BK243) hb)
    have n11_ := Aside0.mk (blk_below (zb BK250) hb)
    have n12_ := Aside0.mk (blk_below (zb BK258) hb)
    have n13_ := Aside0.mk (below_step (zg HB) hb)
    have n14_ := Aside0.mk (hbox)
    have n15_ := Aside0.mk ((by rw [hg]; exact (below_size (zg HB)) : w.heap.size ≤ gb301))
    have n16_ := Aside0.mk ((by rw [hg]; exact (below_size (zg HB)) : w.heap.size ≤ gb301))
    have n17_ := Aside0.mk ((by rw [hg]; exact Nat.ne_of_lt (blk_lt (zb BK213)) : gb213 ≠ gb301))
    have n18_ := Aside0.mk ((by rw [hg]; exact Nat.ne_of_gt (blk_lt (zb BK213)) : gb301 ≠ gb213))
    have n19_ := Aside0.mk ((by rw [hg]; exact Nat.ne_of_lt (blk_lt (zb BK214)) : gb214 ≠ gb301))
    have n20_ := Aside0.mk ((by rw [hg]; exact Nat.ne_of_gt (blk_lt (zb BK214)) : gb301 ≠ gb214))
    have n21_ := Aside0.mk ((by rw [hg]; exact Nat.ne_of_lt (blk_lt (zb BK236)) : gb236 ≠ gb301))
    have n22_ := Aside0.mk ((by rw [hg]; exact Nat.ne_of_gt (blk_lt (zb BK236)) : gb301 ≠ gb236))
    have n23_ := Aside0.mk ((by rw [hg]; exact Nat.ne_of_lt (blk_lt (zb BK243)) : gb243 ≠ gb301))
    have n24_ := Aside0.mk ((by rw [hg]; exact Nat.ne_of_gt (blk_lt (zb BK243)) : gb301 ≠ gb243))
    have n25_ := Aside0.mk ((by rw [hg]; exact Nat.ne_of_lt (blk_lt (zb BK250)) : gb250 ≠ gb301))
    have n26_ := Aside0.mk ((by rw [hg]; exact Nat.ne_of_gt (blk_lt (zb BK250)) : gb301 ≠ gb250))
    have n27_ := Aside0.mk ((by rw [hg]; exact Nat.ne_of_lt (blk_lt (zb BK258)) : gb258 ≠ gb301))
    have n28_ := Aside0.mk ((by rw [hg]; exact Nat.ne_of_gt (blk_lt (zb BK258)) : gb301 ≠ gb258))
    clear HO_237003
    clear HO_244003
    clear HO_251003
    clear HO_259003
    clear HO287
    clear HO293
    clear HO299
    clear BK213
    clear BK214
    clear BK236
    clear BK243
    clear BK250
    clear BK258
    clear HB
    have HO_237003 := n0_
    have HO_244003 := n1_
    have HO_251003 := n2_
    have HO_259003 := n3_
    have HO287 := n4_
    have HO293 := n5_
    have HO299 := n6_
    have BK213 := n7_
    have BK214 := n8_
    have BK236 := n9_
    have BK243 := n10_
    have BK250 := n11_
    have BK258 := n12_
    have HB := n13_
    have BK301 := n14_
    have GW301 := n15_
    have GE301 := n16_
    have NB213_301 := n17_
    have NB301_213 := n18_
    have NB214_301 := n19_
    have NB301_214 := n20_
    have NB236_301 := n21_
    have NB301_236 := n22_
    have NB243_301 := n23_
    have NB301_243 := n24_
    have NB250_301 := n25_
    have NB301_250 := n26_
    have NB258_301 := n27_
    have NB301_258 := n28_
    clear n0_ n1_ n2_ n3_ n4_ n5_ n6_ n7_ n8_ n9_ n10_ n11_ n12_ n13_ n14_ n15_ n16_ n17_ n18_ n19_ n20_ n21_ n22_ n23_ n24_ n25_ n26_ n27_ n28_
    clear hb hbox hg
    refine hK.out _ _ ⟨(blk_cell BK213.out 0).trans rfl, (blk_cell BK213.out 1).trans rfl, (blk_cell BK213.out 2).trans rfl, (blk_cell BK213.out 3).trans rfl, (blk_cell BK214.out 0).trans rfl, (blk_cell BK214.out 1).trans rfl, (blk_cell BK214.out 2).trans rfl, (blk_cell BK214.out 3).trans rfl⟩ (fun hHeld => ?_)
    clear hK K
    refine norm_ (a' := ?_) ?_ ?_
    rotate_left
    ·
     show Act.put _ (some 15) _ = _
     simp only [Act.put, List.setIfInBounds_toArray, List.set_cons_zero, List.set_cons_succ, i64_w, i32_w]
     rfl
    exact norm_ (by simp only [putAll, Act.put, List.setIfInBounds_toArray, List.set_cons_zero, List.set_cons_succ]) (hCont (.slice Ao189 t285.length co189, .slice Ao190 t291.length co190, v298, gb301) _ ⟨hHeld, (Kd.R_mono (zr HO287) (fun _ hk => ⟨hk.1.2, ⟨hk.2, ⟨hk.1.1.1.1.1.2, ⟨hk.1.1.1.1.2, ⟨hk.1.1.1.2, hk.1.1.2⟩⟩⟩⟩⟩)), (Kd.R_mono (zr HO293) (fun _ hk => ⟨hk.1.2, ⟨hk.2, ⟨hk.1.1.1.1.1.2, ⟨hk.1.1.1.1.2, ⟨hk.1.1.1.2, hk.1.1.2⟩⟩⟩⟩⟩)), (Kd.R_mono (zr HO299) (fun _ hk => ⟨hk.1.2, ⟨hk.2, ⟨hk.1.1.1.1.1.2, ⟨hk.1.1.1.1.2, ⟨hk.1.1.1.2, hk.1.1.2⟩⟩⟩⟩⟩)), (Kd.R_mono (zr HO_237003) (fun _ hk => ⟨hk.1.1.2, ⟨hk.1.2, ⟨hk.2, ⟨hk.1.1.1.1, ⟨hk.1.1.1.2.1, hk.1.1.1.2.2⟩⟩⟩⟩⟩)), (Kd.R_mono (zr HO_244003) (fun _ hk => ⟨hk.1.1.2, ⟨hk.1.2, ⟨hk.2, ⟨hk.1.1.1.1, ⟨hk.1.1.1.2.1, hk.1.1.1.2.2⟩⟩⟩⟩⟩)), (Kd.R_mono (zr HO_251003) (fun _ hk => ⟨hk.1.1.2, ⟨hk.1.2, ⟨hk.2, ⟨hk.1.1.1.1, ⟨hk.1.1.1.2.1, hk.1.1.1.2.2⟩⟩⟩⟩⟩)), (Kd.R_mono (zr HO_259003) (fun _ hk => ⟨hk.1.1.2, ⟨hk.1.2, ⟨hk.2, ⟨hk.1.1.1.1, ⟨hk.1.1.1.2.1, hk.1.1.1.2.2⟩⟩⟩⟩⟩)), (zb BK213), (zb BK214), (zb BK236), (zb BK243), (zb BK250), (zb BK258), (zb BK301), GW301.out, GE301.out, NB213_301.out, NB301_213.out, NB214_301.out, NB301_214.out, NB236_301.out, NB301_236.out, NB243_301.out, NB301_243.out, NB250_301.out, NB301_250.out, NB258_301.out, NB301_258.out, (zg HB)⟩)
   ·
    skip
    refine box_step ?hg (N := 15) ?hd (cs := #[.int .i64 0, .int .i64 0, .int .i64 0, .slice none 0 0]) (t := 37) ?hr ?_; (case hd => rfl); (case hg => rfl); (case hr => first | (go_simp; done) | (go_simp; rfl))
    intro gb301 hg w189 hbox hb
    have n0_ := Aside0.mk (Kd.R_below (zr HO_237003) hb)
    have n1_ := Aside0.mk (Kd.R_below (zr HO_244003) hb)
    have n2_ := Aside0.mk (Kd.R_below (zr HO_251003) hb)
    have n3_ := Aside0.mk (Kd.R_below (zr HO_259003) hb)
    have n4_ := Aside0.mk (Kd.R_below (zr HO287) hb)
    have n5_ := Aside0.mk (Kd.R_below (zr HO293) hb)
    have n6_ := Aside0.mk (blk_below (zb BK213) hb)
    have n7_ := Aside0.mk (blk_below (zb BK214) hb)
    have n8_ := Aside0.mk (blk_below (zb BK236) hb)
    have n9_ := Aside0.mk (blk_below (zb BK243) hb)
    have n10_ := Aside0.mk (blk_below (zb BK250) hb)
    have n11_ := Aside0.mk (blk_below (zb BK258) hb)
    have n12_ := Aside0.mk (below_step (zg HB) hb)
    have n13_ := Aside0.mk (hbox)
    have n14_ := Aside0.mk ((by rw [hg]; exact (below_size (zg HB)) : w.heap.size ≤ gb301))
    have n15_ := Aside0.mk ((by rw [hg]; exact (below_size (zg HB)) : w.heap.size ≤ gb301))
    have n16_ := Aside0.mk ((by rw [hg]; exact Nat.ne_of_lt (blk_lt (zb BK213)) : gb213 ≠ gb301))
    have n17_ := Aside0.mk ((by rw [hg]; exact Nat.ne_of_gt (blk_lt (zb BK213)) : gb301 ≠ gb213))
    have n18_ := Aside0.mk ((by rw [hg]; exact Nat.ne_of_lt (blk_lt (zb BK214)) : gb214 ≠ gb301))
    have n19_ := Aside0.mk ((by rw [hg]; exact Nat.ne_of_gt (blk_lt (zb BK214)) : gb301 ≠ gb214))
    have n20_ := Aside0.mk ((by rw [hg]; exact Nat.ne_of_lt (blk_lt (zb BK236)) : gb236 ≠ gb301))
    have n21_ := Aside0.mk ((by rw [hg]; exact Nat.ne_of_gt (blk_lt (zb BK236)) : gb301 ≠ gb236))
    have n22_ := Aside0.mk ((by rw [hg]; exact Nat.ne_of_lt (blk_lt (zb BK243)) : gb243 ≠ gb301))
    have n23_ := Aside0.mk ((by rw [hg]; exact Nat.ne_of_gt (blk_lt (zb BK243)) : gb301 ≠ gb243))
    have n24_ := Aside0.mk ((by rw [hg]; exact Nat.ne_of_lt (blk_lt (zb BK250)) : gb250 ≠ gb301))
    have n25_ := Aside0.mk ((by rw [hg]; exact Nat.ne_of_gt (blk_lt (zb BK250)) : gb301 ≠ gb250))
    have n26_ := Aside0.mk ((by rw [hg]; exact Nat.ne_of_lt (blk_lt (zb BK258)) : gb258 ≠ gb301))
    have n27_ := Aside0.mk ((by rw [hg]; exact Nat.ne_of_gt (blk_lt (zb BK258)) : gb301 ≠ gb258))
    clear HO_237003
    clear HO_244003
    clear HO_251003
    clear HO_259003
    clear HO287
    clear HO293
    clear BK213
    clear BK214
    clear BK236
    clear BK243
    clear BK250
    clear BK258
    clear HB
    have HO_237003 := n0_
    have HO_244003 := n1_
    have HO_251003 := n2_
    have HO_259003 := n3_
    have HO287 := n4_
    have HO293 := n5_
    have BK213 := n6_
    have BK214 := n7_
    have BK236 := n8_
    have BK243 := n9_
    have BK250 := n10_
    have BK258 := n11_
    have HB := n12_
    have BK301 := n13_
    have GW301 := n14_
    have GE301 := n15_
    have NB213_301 := n16_
    have NB301_213 := n17_
    have NB214_301 := n18_
    have NB301_214 := n19_
    have NB236_301 := n20_
    have NB301_236 := n21_
    have NB243_301 := n22_
    have NB301_243 := n23_
    have NB250_301 := n24_
    have NB301_250 := n25_
    have NB258_301 := n26_
    have NB301_258 := n27_
    clear n0_ n1_ n2_ n3_ n4_ n5_ n6_ n7_ n8_ n9_ n10_ n11_ n12_ n13_ n14_ n15_ n16_ n17_ n18_ n19_ n20_ n21_ n22_ n23_ n24_ n25_ n26_ n27_
    clear hb hbox hg
    obtain ⟨Ao190, co190, eo190⟩ := Kd.R_slice HO287.out
    (first | subst eo190 | (injection eo190 with f1_ f2_ f3_; have f4_ := f1_.symm; have f5_ := f3_.symm; clear f1_ f2_ f3_; subst f4_; subst f5_))
    obtain ⟨Ao191, co191, eo191⟩ := Kd.R_slice HO293.out
    (first | subst eo191 | (injection eo191 with f1_ f2_ f3_; have f4_ := f1_.symm; have f5_ := f3_.symm; clear f1_ f2_ f3_; subst f4_; subst f5_))
    refine hK.out _ _ ⟨(blk_cell BK213.out 0).trans rfl, (blk_cell BK213.out 1).trans rfl, (blk_cell BK213.out 2).trans rfl, (blk_cell BK213.out 3).trans rfl, (blk_cell BK214.out 0).trans rfl, (blk_cell BK214.out 1).trans rfl, (blk_cell BK214.out 2).trans rfl, (blk_cell BK214.out 3).trans rfl⟩ (fun hHeld => ?_)
    clear hK K
    refine norm_ (a' := ?_) ?_ ?_
    rotate_left
    ·
     show Act.put _ (some 15) _ = _
     simp only [Act.put, List.setIfInBounds_toArray, List.set_cons_zero, List.set_cons_succ, i64_w, i32_w]
     rfl
    refine one_ (i := 4) (N := some 99) #[true, true, true, true, true, false, false, false, true, false, false] rfl rfl (one_of HT_.out (by kernel_rfl)) (by decide) (fun K hK => ?_)
    refine goes_ Try.func29 (by kernel_rfl) rfl #[.agg #[.int .i64 t282, .int .i64 t283, .int .i64 t284, .slice Ao190 t285.length co190], .agg #[.int .i64 t288, .int .i64 t289, .int .i64 t290, .slice Ao191 t291.length co191]] (by rfl) rfl rfl zar ?_
    with_reducible refine (impl_DigestJoin.calls kj109 t282 t283 t284 _ _ t285 t288 t289 t290 _ _ t291 t294 t295 t296 t297 t300 _ ?side1 ?side2 ?side3 ?side4 A175.out).mono ?_
    (case side1 => repeat (first | exact (Kd.R_reads' HO287.out).2.2 | (with_reducible refine Kd.C_alloc ?_ _) | (with_reducible refine Kd.C_drewN ?_ _) | (with_reducible refine Kd.C_drew ?_)))
    (case side2 => exact (Kd.R_reads' HO287.out).2.1)
    (case side3 => repeat (first | exact (Kd.R_reads' HO293.out).2.2 | (with_reducible refine Kd.C_alloc ?_ _) | (with_reducible refine Kd.C_drewN ?_ _) | (with_reducible refine Kd.C_drew ?_)))
    (case side4 => exact (Kd.R_reads' HO293.out).2.1)
    rintro e w192 ⟨v298, rfl, ho0, hb⟩
    refine ⟨_, rfl, ?_⟩
    have n0_ := Aside0.mk (Kd.R_elder' (zr HO_237003) (Kd.R_base ho0) hb)
    have n1_ := Aside0.mk (Kd.R_elder' (zr HO_244003) (Kd.R_base ho0) hb)
    have n2_ := Aside0.mk (Kd.R_elder' (zr HO_251003) (Kd.R_base ho0) hb)
    have n3_ := Aside0.mk (Kd.R_elder' (zr HO_259003) (Kd.R_base ho0) hb)
    have n4_ := Aside0.mk (Kd.R_elder' (zr HO287) (Kd.R_base ho0) hb)
    have n5_ := Aside0.mk (Kd.R_elder' (zr HO293) (Kd.R_base ho0) hb)
    have n6_ := Aside0.mk (Kd.R_lower (Kd.R_new' (Kd.R_new' (Kd.R_new' (Kd.R_new' (Kd.R_new' (Kd.R_new' ho0 (Kd.R_lt (zr HO_237003))) (Kd.R_lt (zr HO_244003))) (Kd.R_lt (zr HO_251003))) (Kd.R_lt (zr HO_259003))) (Kd.R_lt (zr HO287))) (Kd.R_lt (zr HO293))) (below_size (zg HB)))
    have n7_ := Aside0.mk (blk_below (zb BK213) hb)
    have n8_ := Aside0.mk (blk_below (zb BK214) hb)
    have n9_ := Aside0.mk (blk_below (zb BK236) hb)
    have n10_ := Aside0.mk (blk_below (zb BK243) hb)
    have n11_ := Aside0.mk (blk_below (zb BK250) hb)
    have n12_ := Aside0.mk (blk_below (zb BK258) hb)
    have n13_ := Aside0.mk (blk_below (zb BK301) hb)
    have n14_ := Aside0.mk (below_step (zg HB) hb)
    clear HO_237003
    clear HO_244003
    clear HO_251003
    clear HO_259003
    clear HO287
    clear HO293
    clear BK213
    clear BK214
    clear BK236
    clear BK243
    clear BK250
    clear BK258
    clear BK301
    clear HB
    have HO_237003 := n0_
    have HO_244003 := n1_
    have HO_251003 := n2_
    have HO_259003 := n3_
    have HO287 := n4_
    have HO293 := n5_
    have HO299 := n6_
    have BK213 := n7_
    have BK214 := n8_
    have BK236 := n9_
    have BK243 := n10_
    have BK250 := n11_
    have BK258 := n12_
    have BK301 := n13_
    have HB := n14_
    clear n0_ n1_ n2_ n3_ n4_ n5_ n6_ n7_ n8_ n9_ n10_ n11_ n12_ n13_ n14_
    (try clear hb)
    (try clear hb2)
    (try clear hk)
    (try clear hi)
    (try clear ho0)
    refine hK.out _ _ ⟨(blk_cell BK213.out 0).trans rfl, (blk_cell BK213.out 1).trans rfl, (blk_cell BK213.out 2).trans rfl, (blk_cell BK213.out 3).trans rfl, (blk_cell BK214.out 0).trans rfl, (blk_cell BK214.out 1).trans rfl, (blk_cell BK214.out 2).trans rfl, (blk_cell BK214.out 3).trans rfl⟩ (fun hHeld => ?_)
    clear hK K
    refine norm_ (a' := ?_) ?_ ?_
    rotate_left
    ·
     show Act.put _ (some 99) _ = _
     simp only [Act.put, List.setIfInBounds_toArray, List.set_cons_zero, List.set_cons_succ, i64_w, i32_w]
     rfl
    refine pure_ (i := 5) (N := some 94) (v := ?_) (a' := ?_) #[true, true, true, true, true, true, false, false, true, false, false] rfl rfl (any_of HT_.out (by kernel_rfl)) (fun _ _ _ h => h) (Or.inl ⟨by rfl, ?_⟩) ?_ ?_
    rotate_left
    ·
     intro w'
     go_simp
     with_reducible rfl
    rotate_left
    ·
     simp only [Act.put, List.setIfInBounds_toArray, List.set_cons_zero, List.set_cons_succ, i64_w, i32_w]
     rfl
    refine pure_ (i := 6) (N := some 100) (v := ?_) (a' := ?_) #[true, true, true, true, true, true, true, false, true, false, false] rfl rfl (any_of HT_.out (by kernel_rfl)) (fun _ _ _ h => h) (Or.inl ⟨by rfl, ?_⟩) ?_ ?_
    rotate_left
    ·
     intro w'
     go_simp
     with_reducible rfl
    rotate_left
    ·
     simp only [Act.put, List.setIfInBounds_toArray, List.set_cons_zero, List.set_cons_succ, i64_w, i32_w]
     rfl
    refine pure_ (i := 7) (N := some 101) (v := ?_) (a' := ?_) #[true, true, true, true, true, true, true, true, true, false, false] rfl rfl (any_of HT_.out (by kernel_rfl)) (fun _ _ _ h => h) (Or.inl ⟨by rfl, ?_⟩) ?_ ?_
    rotate_left
    ·
     intro w'
     go_simp
     with_reducible rfl
    rotate_left
    ·
     simp only [Act.put, List.setIfInBounds_toArray, List.set_cons_zero, List.set_cons_succ, i64_w, i32_w]
     rfl
    exact norm_ (by simp only [putAll, Act.put, List.setIfInBounds_toArray, List.set_cons_zero, List.set_cons_succ]) (hCont (.slice Ao190 t285.length co190, .slice Ao191 t291.length co191, v298, gb301) _ ⟨hHeld, (Kd.R_mono (zr HO287) (fun _ hk => ⟨hk.1.2, ⟨hk.2, ⟨hk.1.1.1.1.1.2, ⟨hk.1.1.1.1.2, ⟨hk.1.1.1.2, hk.1.1.2⟩⟩⟩⟩⟩)), (Kd.R_mono (zr HO293) (fun _ hk => ⟨hk.1.2, ⟨hk.2, ⟨hk.1.1.1.1.1.2, ⟨hk.1.1.1.1.2, ⟨hk.1.1.1.2, hk.1.1.2⟩⟩⟩⟩⟩)), (Kd.R_mono (zr HO299) (fun _ hk => ⟨hk.1.2, ⟨hk.2, ⟨hk.1.1.1.1.1.2, ⟨hk.1.1.1.1.2, ⟨hk.1.1.1.2, hk.1.1.2⟩⟩⟩⟩⟩)), (Kd.R_mono (zr HO_237003) (fun _ hk => ⟨hk.1.1.2, ⟨hk.1.2, ⟨hk.2, ⟨hk.1.1.1.1, ⟨hk.1.1.1.2.1, hk.1.1.1.2.2⟩⟩⟩⟩⟩)), (Kd.R_mono (zr HO_244003) (fun _ hk => ⟨hk.1.1.2, ⟨hk.1.2, ⟨hk.2, ⟨hk.1.1.1.1, ⟨hk.1.1.1.2.1, hk.1.1.1.2.2⟩⟩⟩⟩⟩)), (Kd.R_mono (zr HO_251003) (fun _ hk => ⟨hk.1.1.2, ⟨hk.1.2, ⟨hk.2, ⟨hk.1.1.1.1, ⟨hk.1.1.1.2.1, hk.1.1.1.2.2⟩⟩⟩⟩⟩)), (Kd.R_mono (zr HO_259003) (fun _ hk => ⟨hk.1.1.2, ⟨hk.1.2, ⟨hk.2, ⟨hk.1.1.1.1, ⟨hk.1.1.1.2.1, hk.1.1.1.2.2⟩⟩⟩⟩⟩)), (zb BK213), (zb BK214), (zb BK236), (zb BK243), (zb BK250), (zb BK258), (zb BK301), GW301.out, GE301.out, NB213_301.out, NB301_213.out, NB214_301.out, NB301_214.out, NB236_301.out, NB301_236.out, NB243_301.out, NB301_243.out, NB250_301.out, NB301_250.out, NB258_301.out, NB301_258.out, (zg HB)⟩)
  ·
   skip
   refine box_step ?hg (N := 15) ?hd (cs := #[.int .i64 0, .int .i64 0, .int .i64 0, .slice none 0 0]) (t := 37) ?hr ?_; (case hd => rfl); (case hg => rfl); (case hr => first | (go_simp; done) | (go_simp; rfl))
   intro gb301 hg w188 hbox hb
   have n0_ := Aside0.mk (Kd.R_below (zr HO_237003) hb)
   have n1_ := Aside0.mk (Kd.R_below (zr HO_244003) hb)
   have n2_ := Aside0.mk (Kd.R_below (zr HO_251003) hb)
   have n3_ := Aside0.mk (Kd.R_below (zr HO_259003) hb)
   have n4_ := Aside0.mk (Kd.R_below (zr HO287) hb)
   have n5_ := Aside0.mk (blk_below (zb BK213) hb)
   have n6_ := Aside0.mk (blk_below (zb BK214) hb)
   have n7_ := Aside0.mk (blk_below (zb BK236) hb)
   have n8_ := Aside0.mk (blk_below (zb BK243) hb)
   have n9_ := Aside0.mk (blk_below (zb BK250) hb)
   have n10_ := Aside0.mk (blk_below (zb BK258) hb)
   have n11_ := Aside0.mk (below_step (zg HB) hb)
   have n12_ := Aside0.mk (hbox)
   have n13_ := Aside0.mk ((by rw [hg]; exact (below_size (zg HB)) : w.heap.size ≤ gb301))
   have n14_ := Aside0.mk ((by rw [hg]; exact (below_size (zg HB)) : w.heap.size ≤ gb301))
   have n15_ := Aside0.mk ((by rw [hg]; exact Nat.ne_of_lt (blk_lt (zb BK213)) : gb213 ≠ gb301))
   have n16_ := Aside0.mk ((by rw [hg]; exact Nat.ne_of_gt (blk_lt (zb BK213)) : gb301 ≠ gb213))
   have n17_ := Aside0.mk ((by rw [hg]; exact Nat.ne_of_lt (blk_lt (zb BK214)) : gb214 ≠ gb301))
   have n18_ := Aside0.mk ((by rw [hg]; exact Nat.ne_of_gt (blk_lt (zb BK214)) : gb301 ≠ gb214))
   have n19_ := Aside0.mk ((by rw [hg]; exact Nat.ne_of_lt (blk_lt (zb BK236)) : gb236 ≠ gb301))
   have n20_ := Aside0.mk ((by rw [hg]; exact Nat.ne_of_gt (blk_lt (zb BK236)) : gb301 ≠ gb236))
   have n21_ := Aside0.mk ((by rw [hg]; exact Nat.ne_of_lt (blk_lt (zb BK243)) : gb243 ≠ gb301))
   have n22_ := Aside0.mk ((by rw [hg]; exact Nat.ne_of_gt (blk_lt (zb BK243)) : gb301 ≠ gb243))
   have n23_ := Aside0.mk ((by rw [hg]; exact Nat.ne_of_lt (blk_lt (zb BK250)) : gb250 ≠ gb301))
   have n24_ := Aside0.mk ((by rw [hg]; exact Nat.ne_of_gt (blk_lt (zb BK250)) : gb301 ≠ gb250))
   have n25_ := Aside0.mk ((by rw [hg]; exact Nat.ne_of_lt (blk_lt (zb BK258)) : gb258 ≠ gb301))
   have n26_ := Aside0.mk ((by rw [hg]; exact Nat.ne_of_gt (blk_lt (zb BK258)) : gb301 ≠ gb258))
   clear HO_237003
   clear HO_244003
   clear HO_251003
   clear HO_259003
   clear HO287
   clear BK213
   clear BK214
   clear BK236
   clear BK243
   clear BK250
   clear BK258
   clear HB
   have HO_237003 := n0_
   have HO_244003 := n1_
   have HO_251003 := n2_
   have HO_259003 := n3_
   have HO287 := n4_
   have BK213 := n5_
   have BK214 := n6_
   have BK236 := n7_
   have BK243 := n8_
   have BK250 := n9_
   have BK258 := n10_
   have HB := n11_
   have BK301 := n12_
   have GW301 := n13_
   have GE301 := n14_
   have NB213_301 := n15_
   have NB301_213 := n16_
   have NB214_301 := n17_
   have NB301_214 := n18_
   have NB236_301 := n19_
   have NB301_236 := n20_
   have NB243_301 := n21_
   have NB301_243 := n22_
   have NB250_301 := n23_
   have NB301_250 := n24_
   have NB258_301 := n25_
   have NB301_258 := n26_
   clear n0_ n1_ n2_ n3_ n4_ n5_ n6_ n7_ n8_ n9_ n10_ n11_ n12_ n13_ n14_ n15_ n16_ n17_ n18_ n19_ n20_ n21_ n22_ n23_ n24_ n25_ n26_
   clear hb hbox hg
   refine hK.out _ _ ⟨(blk_cell BK213.out 0).trans rfl, (blk_cell BK213.out 1).trans rfl, (blk_cell BK213.out 2).trans rfl, (blk_cell BK213.out 3).trans rfl, (blk_cell BK214.out 0).trans rfl, (blk_cell BK214.out 1).trans rfl, (blk_cell BK214.out 2).trans rfl, (blk_cell BK214.out 3).trans rfl⟩ (fun hHeld => ?_)
   clear hK K
   refine norm_ (a' := ?_) ?_ ?_
   rotate_left
   ·
    show Act.put _ (some 15) _ = _
    simp only [Act.put, List.setIfInBounds_toArray, List.set_cons_zero, List.set_cons_succ, i64_w, i32_w]
    rfl
   refine one_ (i := 3) (N := some 98) #[true, true, true, true, false, false, false, false, true, false, false] rfl rfl (one_of HT_.out (by kernel_rfl)) (by decide) (fun K hK => ?_)
   refine goes_ Try.func28 (by kernel_rfl) rfl #[.agg #[.int .i64 a1_0, .int .i64 a1_1, .int .i64 a1_2, .slice A1_3 l1_3.length c1_3]] (by rfl) rfl rfl zar ?_
   with_reducible refine (laws_toDigest.calls kj109 a1_0 a1_1 a1_2 _ _ l1_3 t288 t289 t290 t291 _ ?side1 ?side2 A174.out).mono ?_
   (case side1 => repeat (first | exact (Kd.C_below HR1_3.out HB.out) | (with_reducible refine Kd.C_alloc ?_ _) | (with_reducible refine Kd.C_drewN ?_ _) | (with_reducible refine Kd.C_drew ?_)))
   (case side2 => exact HC1_3.out)
   rintro e w189 ⟨v292, rfl, ho0, hb⟩
   refine ⟨_, rfl, ?_⟩
   have n0_ := Aside0.mk (Kd.R_elder' (zr HO_237003) (Kd.R_base ho0) hb)
   have n1_ := Aside0.mk (Kd.R_elder' (zr HO_244003) (Kd.R_base ho0) hb)
   have n2_ := Aside0.mk (Kd.R_elder' (zr HO_251003) (Kd.R_base ho0) hb)
   have n3_ := Aside0.mk (Kd.R_elder' (zr HO_259003) (Kd.R_base ho0) hb)
   have n4_ := Aside0.mk (Kd.R_elder' (zr HO287) (Kd.R_base ho0) hb)
   have n5_ := Aside0.mk (Kd.R_lower (Kd.R_new' (Kd.R_new' (Kd.R_new' (Kd.R_new' (Kd.R_new' ho0 (Kd.R_lt (zr HO_237003))) (Kd.R_lt (zr HO_244003))) (Kd.R_lt (zr HO_251003))) (Kd.R_lt (zr HO_259003))) (Kd.R_lt (zr HO287))) (below_size (zg HB)))
   have n6_ := Aside0.mk (blk_below (zb BK213) hb)
   have n7_ := Aside0.mk (blk_below (zb BK214) hb)
   have n8_ := Aside0.mk (blk_below (zb BK236) hb)
   have n9_ := Aside0.mk (blk_below (zb BK243) hb)
   have n10_ := Aside0.mk (blk_below (zb BK250) hb)
   have n11_ := Aside0.mk (blk_below (zb BK258) hb)
   have n12_ := Aside0.mk (blk_below (zb BK301) hb)
   have n13_ := Aside0.mk (below_step (zg HB) hb)
   clear HO_237003
   clear HO_244003
   clear HO_251003
   clear HO_259003
   clear HO287
   clear BK213
   clear BK214
   clear BK236
   clear BK243
   clear BK250
   clear BK258
   clear BK301
   clear HB
   have HO_237003 := n0_
   have HO_244003 := n1_
   have HO_251003 := n2_
   have HO_259003 := n3_
   have HO287 := n4_
   have HO293 := n5_
   have BK213 := n6_
   have BK214 := n7_
   have BK236 := n8_
   have BK243 := n9_
   have BK250 := n10_
   have BK258 := n11_
   have BK301 := n12_
   have HB := n13_
   clear n0_ n1_ n2_ n3_ n4_ n5_ n6_ n7_ n8_ n9_ n10_ n11_ n12_ n13_
   (try clear hb)
   (try clear hb2)
   (try clear hk)
   (try clear hi)
   (try clear ho0)
   obtain ⟨Ao190, co190, eo190⟩ := Kd.R_slice HO287.out
   (first | subst eo190 | (injection eo190 with f1_ f2_ f3_; have f4_ := f1_.symm; have f5_ := f3_.symm; clear f1_ f2_ f3_; subst f4_; subst f5_))
   obtain ⟨Ao191, co191, eo191⟩ := Kd.R_slice HO293.out
   (first | subst eo191 | (injection eo191 with f1_ f2_ f3_; have f4_ := f1_.symm; have f5_ := f3_.symm; clear f1_ f2_ f3_; subst f4_; subst f5_))
   refine hK.out _ _ ⟨(blk_cell BK213.out 0).trans rfl, (blk_cell BK213.out 1).trans rfl, (blk_cell BK213.out 2).trans rfl, (blk_cell BK213.out 3).trans rfl, (blk_cell BK214.out 0).trans rfl, (blk_cell BK214.out 1).trans rfl, (blk_cell BK214.out 2).trans rfl, (blk_cell BK214.out 3).trans rfl⟩ (fun hHeld => ?_)
   clear hK K
   refine norm_ (a' := ?_) ?_ ?_
   rotate_left
   ·
    show Act.put _ (some 98) _ = _
    simp only [Act.put, List.setIfInBounds_toArray, List.set_cons_zero, List.set_cons_succ, i64_w, i32_w]
    rfl
   refine one_ (i := 4) (N := some 99) #[true, true, true, true, true, false, false, false, true, false, false] rfl rfl (one_of HT_.out (by kernel_rfl)) (by decide) (fun K hK => ?_)
   refine goes_ Try.func29 (by kernel_rfl) rfl #[.agg #[.int .i64 t282, .int .i64 t283, .int .i64 t284, .slice Ao190 t285.length co190], .agg #[.int .i64 t288, .int .i64 t289, .int .i64 t290, .slice Ao191 t291.length co191]] (by rfl) rfl rfl zar ?_
   with_reducible refine (impl_DigestJoin.calls kj109 t282 t283 t284 _ _ t285 t288 t289 t290 _ _ t291 t294 t295 t296 t297 t300 _ ?side1 ?side2 ?side3 ?side4 A175.out).mono ?_
   (case side1 => repeat (first | exact (Kd.R_reads' HO287.out).2.2 | (with_reducible refine Kd.C_alloc ?_ _) | (with_reducible refine Kd.C_drewN ?_ _) | (with_reducible refine Kd.C_drew ?_)))
   (case side2 => exact (Kd.R_reads' HO287.out).2.1)
   (case side3 => repeat (first | exact (Kd.R_reads' HO293.out).2.2 | (with_reducible refine Kd.C_alloc ?_ _) | (with_reducible refine Kd.C_drewN ?_ _) | (with_reducible refine Kd.C_drew ?_)))
   (case side4 => exact (Kd.R_reads' HO293.out).2.1)
   rintro e w192 ⟨v298, rfl, ho0, hb⟩
   refine ⟨_, rfl, ?_⟩
   have n0_ := Aside0.mk (Kd.R_elder' (zr HO_237003) (Kd.R_base ho0) hb)
   have n1_ := Aside0.mk (Kd.R_elder' (zr HO_244003) (Kd.R_base ho0) hb)
   have n2_ := Aside0.mk (Kd.R_elder' (zr HO_251003) (Kd.R_base ho0) hb)
   have n3_ := Aside0.mk (Kd.R_elder' (zr HO_259003) (Kd.R_base ho0) hb)
   have n4_ := Aside0.mk (Kd.R_elder' (zr HO287) (Kd.R_base ho0) hb)
   have n5_ := Aside0.mk (Kd.R_elder' (zr HO293) (Kd.R_base ho0) hb)
   have n6_ := Aside0.mk (Kd.R_lower (Kd.R_new' (Kd.R_new' (Kd.R_new' (Kd.R_new' (Kd.R_new' (Kd.R_new' ho0 (Kd.R_lt (zr HO_237003))) (Kd.R_lt (zr HO_244003))) (Kd.R_lt (zr HO_251003))) (Kd.R_lt (zr HO_259003))) (Kd.R_lt (zr HO287))) (Kd.R_lt (zr HO293))) (below_size (zg HB)))
   have n7_ := Aside0.mk (blk_below (zb BK213) hb)
   have n8_ := Aside0.mk (blk_below (zb BK214) hb)
   have n9_ := Aside0.mk (blk_below (zb BK236) hb)
   have n10_ := Aside0.mk (blk_below (zb BK243) hb)
   have n11_ := Aside0.mk (blk_below (zb BK250) hb)
   have n12_ := Aside0.mk (blk_below (zb BK258) hb)
   have n13_ := Aside0.mk (blk_below (zb BK301) hb)
   have n14_ := Aside0.mk (below_step (zg HB) hb)
   clear HO_237003
   clear HO_244003
   clear HO_251003
   clear HO_259003
   clear HO287
   clear HO293
   clear BK213
   clear BK214
   clear BK236
   clear BK243
   clear BK250
   clear BK258
   clear BK301
   clear HB
   have HO_237003 := n0_
   have HO_244003 := n1_
   have HO_251003 := n2_
   have HO_259003 := n3_
   have HO287 := n4_
   have HO293 := n5_
   have HO299 := n6_
   have BK213 := n7_
   have BK214 := n8_
   have BK236 := n9_
   have BK243 := n10_
   have BK250 := n11_
   have BK258 := n12_
   have BK301 := n13_
   have HB := n14_
   clear n0_ n1_ n2_ n3_ n4_ n5_ n6_ n7_ n8_ n9_ n10_ n11_ n12_ n13_ n14_
   (try clear hb)
   (try clear hb2)
   (try clear hk)
   (try clear hi)
   (try clear ho0)
   refine hK.out _ _ ⟨(blk_cell BK213.out 0).trans rfl, (blk_cell BK213.out 1).trans rfl, (blk_cell BK213.out 2).trans rfl, (blk_cell BK213.out 3).trans rfl, (blk_cell BK214.out 0).trans rfl, (blk_cell BK214.out 1).trans rfl, (blk_cell BK214.out 2).trans rfl, (blk_cell BK214.out 3).trans rfl⟩ (fun hHeld => ?_)
   clear hK K
   refine norm_ (a' := ?_) ?_ ?_
   rotate_left
   ·
    show Act.put _ (some 99) _ = _
    simp only [Act.put, List.setIfInBounds_toArray, List.set_cons_zero, List.set_cons_succ, i64_w, i32_w]
    rfl
   refine pure_ (i := 5) (N := some 94) (v := ?_) (a' := ?_) #[true, true, true, true, true, true, false, false, true, false, false] rfl rfl (any_of HT_.out (by kernel_rfl)) (fun _ _ _ h => h) (Or.inl ⟨by rfl, ?_⟩) ?_ ?_
   rotate_left
   ·
    intro w'
    go_simp
    with_reducible rfl
   rotate_left
   ·
    simp only [Act.put, List.setIfInBounds_toArray, List.set_cons_zero, List.set_cons_succ, i64_w, i32_w]
    rfl
   refine pure_ (i := 6) (N := some 100) (v := ?_) (a' := ?_) #[true, true, true, true, true, true, true, false, true, false, false] rfl rfl (any_of HT_.out (by kernel_rfl)) (fun _ _ _ h => h) (Or.inl ⟨by rfl, ?_⟩) ?_ ?_
   rotate_left
   ·
    intro w'
    go_simp
    with_reducible rfl
   rotate_left
   ·
    simp only [Act.put, List.setIfInBounds_toArray, List.set_cons_zero, List.set_cons_succ, i64_w, i32_w]
    rfl
   refine pure_ (i := 7) (N := some 101) (v := ?_) (a' := ?_) #[true, true, true, true, true, true, true, true, true, false, false] rfl rfl (any_of HT_.out (by kernel_rfl)) (fun _ _ _ h => h) (Or.inl ⟨by rfl, ?_⟩) ?_ ?_
   rotate_left
   ·
    intro w'
    go_simp
    with_reducible rfl
   rotate_left
   ·
    simp only [Act.put, List.setIfInBounds_toArray, List.set_cons_zero, List.set_cons_succ, i64_w, i32_w]
    rfl
   exact norm_ (by simp only [putAll, Act.put, List.setIfInBounds_toArray, List.set_cons_zero, List.set_cons_succ]) (hCont (.slice Ao190 t285.length co190, .slice Ao191 t291.length co191, v298, gb301) _ ⟨hHeld, (Kd.R_mono (zr HO287) (fun _ hk => ⟨hk.1.2, ⟨hk.2, ⟨hk.1.1.1.1.1.2, ⟨hk.1.1.1.1.2, ⟨hk.1.1.1.2, hk.1.1.2⟩⟩⟩⟩⟩)), (Kd.R_mono (zr HO293) (fun _ hk => ⟨hk.1.2, ⟨hk.2, ⟨hk.1.1.1.1.1.2, ⟨hk.1.1.1.1.2, ⟨hk.1.1.1.2, hk.1.1.2⟩⟩⟩⟩⟩)), (Kd.R_mono (zr HO299) (fun _ hk => ⟨hk.1.2, ⟨hk.2, ⟨hk.1.1.1.1.1.2, ⟨hk.1.1.1.1.2, ⟨hk.1.1.1.2, hk.1.1.2⟩⟩⟩⟩⟩)), (Kd.R_mono (zr HO_237003) (fun _ hk => ⟨hk.1.1.2, ⟨hk.1.2, ⟨hk.2, ⟨hk.1.1.1.1, ⟨hk.1.1.1.2.1, hk.1.1.1.2.2⟩⟩⟩⟩⟩)), (Kd.R_mono (zr HO_244003) (fun _ hk => ⟨hk.1.1.2, ⟨hk.1.2, ⟨hk.2, ⟨hk.1.1.1.1, ⟨hk.1.1.1.2.1, hk.1.1.1.2.2⟩⟩⟩⟩⟩)), (Kd.R_mono (zr HO_251003) (fun _ hk => ⟨hk.1.1.2, ⟨hk.1.2, ⟨hk.2, ⟨hk.1.1.1.1, ⟨hk.1.1.1.2.1, hk.1.1.1.2.2⟩⟩⟩⟩⟩)), (Kd.R_mono (zr HO_259003) (fun _ hk => ⟨hk.1.1.2, ⟨hk.1.2, ⟨hk.2, ⟨hk.1.1.1.1, ⟨hk.1.1.1.2.1, hk.1.1.1.2.2⟩⟩⟩⟩⟩)), (zb BK213), (zb BK214), (zb BK236), (zb BK243), (zb BK250), (zb BK258), (zb BK301), GW301.out, GE301.out, NB213_301.out, NB301_213.out, NB214_301.out, NB301_214.out, NB236_301.out, NB301_236.out, NB243_301.out, NB301_243.out, NB250_301.out, NB301_250.out, NB258_301.out, NB301_258.out, (zg HB)⟩)
 ·
  skip
  refine box_step ?hg (N := 15) ?hd (cs := #[.int .i64 0, .int .i64 0, .int .i64 0, .slice none 0 0]) (t := 37) ?hr ?_; (case hd => rfl); (case hg => rfl); (case hr => first | (go_simp; done) | (go_simp; rfl))
  intro gb301 hg w187 hbox hb
  have n0_ := Aside0.mk (Kd.R_below (zr HO_237003) hb)
  have n1_ := Aside0.mk (Kd.R_below (zr HO_244003) hb)
  have n2_ := Aside0.mk (Kd.R_below (zr HO_251003) hb)
  have n3_ := Aside0.mk (Kd.R_below (zr HO_259003) hb)
  have n4_ := Aside0.mk (blk_below (zb BK213) hb)
  have n5_ := Aside0.mk (blk_below (zb BK214) hb)
  have n6_ := Aside0.mk (blk_below (zb BK236) hb)
  have n7_ := Aside0.mk (blk_below (zb BK243) hb)
  have n8_ := Aside0.mk (blk_below (zb BK250) hb)
  have n9_ := Aside0.mk (blk_below (zb BK258) hb)
  have n10_ := Aside0.mk (below_step (zg HB) hb)
  have n11_ := Aside0.mk (hbox)
  have n12_ := Aside0.mk ((by rw [hg]; exact (below_size (zg HB)) : w.heap.size ≤ gb301))
  have n13_ := Aside0.mk ((by rw [hg]; exact (below_size (zg HB)) : w.heap.size ≤ gb301))
  have n14_ := Aside0.mk ((by rw [hg]; exact Nat.ne_of_lt (blk_lt (zb BK213)) : gb213 ≠ gb301))
  have n15_ := Aside0.mk ((by rw [hg]; exact Nat.ne_of_gt (blk_lt (zb BK213)) : gb301 ≠ gb213))
  have n16_ := Aside0.mk ((by rw [hg]; exact Nat.ne_of_lt (blk_lt (zb BK214)) : gb214 ≠ gb301))
  have n17_ := Aside0.mk ((by rw [hg]; exact Nat.ne_of_gt (blk_lt (zb BK214)) : gb301 ≠ gb214))
  have n18_ := Aside0.mk ((by rw [hg]; exact Nat.ne_of_lt (blk_lt (zb BK236)) : gb236 ≠ gb301))
  have n19_ := Aside0.mk ((by rw [hg]; exact Nat.ne_of_gt (blk_lt (zb BK236)) : gb301 ≠ gb236))
  have n20_ := Aside0.mk ((by rw [hg]; exact Nat.ne_of_lt (blk_lt (zb BK243)) : gb243 ≠ gb301))
  have n21_ := Aside0.mk ((by rw [hg]; exact Nat.ne_of_gt (blk_lt (zb BK243)) : gb301 ≠ gb243))
  have n22_ := Aside0.mk ((by rw [hg]; exact Nat.ne_of_lt (blk_lt (zb BK250)) : gb250 ≠ gb301))
  have n23_ := Aside0.mk ((by rw [hg]; exact Nat.ne_of_gt (blk_lt (zb BK250)) : gb301 ≠ gb250))
  have n24_ := Aside0.mk ((by rw [hg]; exact Nat.ne_of_lt (blk_lt (zb BK258)) : gb258 ≠ gb301))
  have n25_ := Aside0.mk ((by rw [hg]; exact Nat.ne_of_gt (blk_lt (zb BK258)) : gb301 ≠ gb258))
  clear HO_237003
  clear HO_244003
  clear HO_251003
  clear HO_259003
  clear BK213
  clear BK214
  clear BK236
  clear BK243
  clear BK250
  clear BK258
  clear HB
  have HO_237003 := n0_
  have HO_244003 := n1_
  have HO_251003 := n2_
  have HO_259003 := n3_
  have BK213 := n4_
  have BK214 := n5_
  have BK236 := n6_
  have BK243 := n7_
  have BK250 := n8_
  have BK258 := n9_
  have HB := n10_
  have BK301 := n11_
  have GW301 := n12_
  have GE301 := n13_
  have NB213_301 := n14_
  have NB301_213 := n15_
  have NB214_301 := n16_
  have NB301_214 := n17_
  have NB236_301 := n18_
  have NB301_236 := n19_
  have NB243_301 := n20_
  have NB301_243 := n21_
  have NB250_301 := n22_
  have NB301_250 := n23_
  have NB258_301 := n24_
  have NB301_258 := n25_
  clear n0_ n1_ n2_ n3_ n4_ n5_ n6_ n7_ n8_ n9_ n10_ n11_ n12_ n13_ n14_ n15_ n16_ n17_ n18_ n19_ n20_ n21_ n22_ n23_ n24_ n25_
  clear hb hbox hg
  refine hK.out _ _ ⟨(blk_cell BK213.out 0).trans rfl, (blk_cell BK213.out 1).trans rfl, (blk_cell BK213.out 2).trans rfl, (blk_cell BK213.out 3).trans rfl, (blk_cell BK214.out 0).trans rfl, (blk_cell BK214.out 1).trans rfl, (blk_cell BK214.out 2).trans rfl, (blk_cell BK214.out 3).trans rfl⟩ (fun hHeld => ?_)
  clear hK K
  refine norm_ (a' := ?_) ?_ ?_
  rotate_left
  ·
   show Act.put _ (some 15) _ = _
   simp only [Act.put, List.setIfInBounds_toArray, List.set_cons_zero, List.set_cons_succ, i64_w, i32_w]
   rfl
  refine one_ (i := 1) (N := some 96) #[true, true, true, false, false, false, false, false, true, false, false] rfl rfl (one_of HT_.out (by kernel_rfl)) (by decide) (fun K hK => ?_)
  refine goes_ Try.func28 (by kernel_rfl) rfl #[.agg #[.int .i64 a0_0, .int .i64 a0_1, .int .i64 a0_2, .slice A0_3 l0_3.length c0_3]] (by rfl) rfl rfl zar ?_
  with_reducible refine (laws_toDigest.calls kj109 a0_0 a0_1 a0_2 _ _ l0_3 t282 t283 t284 t285 _ ?side1 ?side2 A173.out).mono ?_
  (case side1 => repeat (first | exact (Kd.C_below HR0_3.out HB.out) | (with_reducible refine Kd.C_alloc ?_ _) | (with_reducible refine Kd.C_drewN ?_ _) | (with_reducible refine Kd.C_drew ?_)))
  (case side2 => exact HC0_3.out)
  rintro e w188 ⟨v286, rfl, ho0, hb⟩
  refine ⟨_, rfl, ?_⟩
  have n0_ := Aside0.mk (Kd.R_elder' (zr HO_237003) (Kd.R_base ho0) hb)
  have n1_ := Aside0.mk (Kd.R_elder' (zr HO_244003) (Kd.R_base ho0) hb)
  have n2_ := Aside0.mk (Kd.R_elder' (zr HO_251003) (Kd.R_base ho0) hb)
  have n3_ := Aside0.mk (Kd.R_elder' (zr HO_259003) (Kd.R_base ho0) hb)
  have n4_ := Aside0.mk (Kd.R_lower (Kd.R_new' (Kd.R_new' (Kd.R_new' (Kd.R_new' ho0 (Kd.R_lt (zr HO_237003))) (Kd.R_lt (zr HO_244003))) (Kd.R_lt (zr HO_251003))) (Kd.R_lt (zr HO_259003))) (below_size (zg HB)))
  have n5_ := Aside0.mk (blk_below (zb BK213) hb)
  have n6_ := Aside0.mk (blk_below (zb BK214) hb)
  have n7_ := Aside0.mk (blk_below (zb BK236) hb)
  have n8_ := Aside0.mk (blk_below (zb BK243) hb)
  have n9_ := Aside0.mk (blk_below (zb BK250) hb)
  have n10_ := Aside0.mk (blk_below (zb BK258) hb)
  have n11_ := Aside0.mk (blk_below (zb BK301) hb)
  have n12_ := Aside0.mk (below_step (zg HB) hb)
  clear HO_237003
  clear HO_244003
  clear HO_251003
  clear HO_259003
  clear BK213
  clear BK214
  clear BK236
  clear BK243
  clear BK250
  clear BK258
  clear BK301
  clear HB
  have HO_237003 := n0_
  have HO_244003 := n1_
  have HO_251003 := n2_
  have HO_259003 := n3_
  have HO287 := n4_
  have BK213 := n5_
  have BK214 := n6_
  have BK236 := n7_
  have BK243 := n8_
  have BK250 := n9_
  have BK258 := n10_
  have BK301 := n11_
  have HB := n12_
  clear n0_ n1_ n2_ n3_ n4_ n5_ n6_ n7_ n8_ n9_ n10_ n11_ n12_
  (try clear hb)
  (try clear hb2)
  (try clear hk)
  (try clear hi)
  (try clear ho0)
  refine hK.out _ _ ⟨(blk_cell BK213.out 0).trans rfl, (blk_cell BK213.out 1).trans rfl, (blk_cell BK213.out 2).trans rfl, (blk_cell BK213.out 3).trans rfl, (blk_cell BK214.out 0).trans rfl, (blk_cell BK214.out 1).trans rfl, (blk_cell BK214.out 2).trans rfl, (blk_cell BK214.out 3).trans rfl⟩ (fun hHeld => ?_)
  clear hK K
  refine norm_ (a' := ?_) ?_ ?_
  rotate_left
  ·
   show Act.put _ (some 96) _ = _
   simp only [Act.put, List.setIfInBounds_toArray, List.set_cons_zero, List.set_cons_succ, i64_w, i32_w]
   rfl
  refine one_ (i := 3) (N := some 98) #[true, true, true, true, false, false, false, false, true, false, false] rfl rfl (one_of HT_.out (by kernel_rfl)) (by decide) (fun K hK => ?_)
  refine goes_ Try.func28 (by kernel_rfl) rfl #[.agg #[.int .i64 a1_0, .int .i64 a1_1, .int .i64 a1_2, .slice A1_3 l1_3.length c1_3]] (by rfl) rfl rfl zar ?_
  with_reducible refine (laws_toDigest.calls kj109 a1_0 a1_1 a1_2 _ _ l1_3 t288 t289 t290 t291 _ ?side1 ?side2 A174.out).mono ?_
  (case side1 => repeat (first | exact (Kd.C_below HR1_3.out HB.out) | (with_reducible refine Kd.C_alloc ?_ _) | (with_reducible refine Kd.C_drewN ?_ _) | (with_reducible refine Kd.C_drew ?_)))
  (case side2 => exact HC1_3.out)
  rintro e w189 ⟨v292, rfl, ho0, hb⟩
  refine ⟨_, rfl, ?_⟩
  have n0_ := Aside0.mk (Kd.R_elder' (zr HO_237003) (Kd.R_base ho0) hb)
  have n1_ := Aside0.mk (Kd.R_elder' (zr HO_244003) (Kd.R_base ho0) hb)
  have n2_ := Aside0.mk (Kd.R_elder' (zr HO_251003) (Kd.R_base ho0) hb)
  have n3_ := Aside0.mk (Kd.R_elder' (zr HO_259003) (Kd.R_base ho0) hb)
  have n4_ := Aside0.mk (Kd.R_elder' (zr HO287) (Kd.R_base ho0) hb)
  have n5_ := Aside0.mk (Kd.R_lower (Kd.R_new' (Kd.R_new' (Kd.R_new' (Kd.R_new' (Kd.R_new' ho0 (Kd.R_lt (zr HO_237003))) (Kd.R_lt (zr HO_244003))) (Kd.R_lt (zr HO_251003))) (Kd.R_lt (zr HO_259003))) (Kd.R_lt (zr HO287))) (below_size (zg HB)))
  have n6_ := Aside0.mk (blk_below (zb BK213) hb)
  have n7_ := Aside0.mk (blk_below (zb BK214) hb)
  have n8_ := Aside0.mk (blk_below (zb BK236) hb)
  have n9_ := Aside0.mk (blk_below (zb BK243) hb)
  have n10_ := Aside0.mk (blk_below (zb BK250) hb)
  have n11_ := Aside0.mk (blk_below (zb BK258) hb)
  have n12_ := Aside0.mk (blk_below (zb BK301) hb)
  have n13_ := Aside0.mk (below_step (zg HB) hb)
  clear HO_237003
  clear HO_244003
  clear HO_251003
  clear HO_259003
  clear HO287
  clear BK213
  clear BK214
  clear BK236
  clear BK243
  clear BK250
  clear BK258
  clear BK301
  clear HB
  have HO_237003 := n0_
  have HO_244003 := n1_
  have HO_251003 := n2_
  have HO_259003 := n3_
  have HO287 := n4_
  have HO293 := n5_
  have BK213 := n6_
  have BK214 := n7_
  have BK236 := n8_
  have BK243 := n9_
  have BK250 := n10_
  have BK258 := n11_
  have BK301 := n12_
  have HB := n13_
  clear n0_ n1_ n2_ n3_ n4_ n5_ n6_ n7_ n8_ n9_ n10_ n11_ n12_ n13_
  (try clear hb)
  (try clear hb2)
  (try clear hk)
  (try clear hi)
  (try clear ho0)
  obtain ⟨Ao190, co190, eo190⟩ := Kd.R_slice HO287.out
  (first | subst eo190 | (injection eo190 with f1_ f2_ f3_; have f4_ := f1_.symm; have f5_ := f3_.symm; clear f1_ f2_ f3_; subst f4_; subst f5_))
  obtain ⟨Ao191, co191, eo191⟩ := Kd.R_slice HO293.out
  (first | subst eo191 | (injection eo191 with f1_ f2_ f3_; have f4_ := f1_.symm; have f5_ := f3_.symm; clear f1_ f2_ f3_; subst f4_; subst f5_))
  refine hK.out _ _ ⟨(blk_cell BK213.out 0).trans rfl, (blk_cell BK213.out 1).trans rfl, (blk_cell BK213.out 2).trans rfl, (blk_cell BK213.out 3).trans rfl, (blk_cell BK214.out 0).trans rfl, (blk_cell BK214.out 1).trans rfl, (blk_cell BK214.out 2).trans rfl, (blk_cell BK214.out 3).trans rfl⟩ (fun hHeld => ?_)
  clear hK K
  refine norm_ (a' := ?_) ?_ ?_
  rotate_left
  ·
   show Act.put _ (some 98) _ = _
   simp only [Act.put, List.setIfInBounds_toArray, List.set_cons_zero, List.set_cons_succ, i64_w, i32_w]
   rfl
  refine one_ (i := 4) (N := some 99) #[true, true, true, true, true, false, false, false, true, false, false] rfl rfl (one_of HT_.out (by kernel_rfl)) (by decide) (fun K hK => ?_)
  refine goes_ Try.func29 (by kernel_rfl) rfl #[.agg #[.int .i64 t282, .int .i64 t283, .int .i64 t284, .slice Ao190 t285.length co190], .agg #[.int .i64 t288, .int .i64 t289, .int .i64 t290, .slice Ao191 t291.length co191]] (by rfl) rfl rfl zar ?_
  with_reducible refine (impl_DigestJoin.calls kj109 t282 t283 t284 _ _ t285 t288 t289 t290 _ _ t291 t294 t295 t296 t297 t300 _ ?side1 ?side2 ?side3 ?side4 A175.out).mono ?_
  (case side1 => repeat (first | exact (Kd.R_reads' HO287.out).2.2 | (with_reducible refine Kd.C_alloc ?_ _) | (with_reducible refine Kd.C_drewN ?_ _) | (with_reducible refine Kd.C_drew ?_)))
  (case side2 => exact (Kd.R_reads' HO287.out).2.1)
  (case side3 => repeat (first | exact (Kd.R_reads' HO293.out).2.2 | (with_reducible refine Kd.C_alloc ?_ _) | (with_reducible refine Kd.C_drewN ?_ _) | (with_reducible refine Kd.C_drew ?_)))
  (case side4 => exact (Kd.R_reads' HO293.out).2.1)
  rintro e w192 ⟨v298, rfl, ho0, hb⟩
  refine ⟨_, rfl, ?_⟩
  have n0_ := Aside0.mk (Kd.R_elder' (zr HO_237003) (Kd.R_base ho0) hb)
  have n1_ := Aside0.mk (Kd.R_elder' (zr HO_244003) (Kd.R_base ho0) hb)
  have n2_ := Aside0.mk (Kd.R_elder' (zr HO_251003) (Kd.R_base ho0) hb)
  have n3_ := Aside0.mk (Kd.R_elder' (zr HO_259003) (Kd.R_base ho0) hb)
  have n4_ := Aside0.mk (Kd.R_elder' (zr HO287) (Kd.R_base ho0) hb)
  have n5_ := Aside0.mk (Kd.R_elder' (zr HO293) (Kd.R_base ho0) hb)
  have n6_ := Aside0.mk (Kd.R_lower (Kd.R_new' (Kd.R_new' (Kd.R_new' (Kd.R_new' (Kd.R_new' (Kd.R_new' ho0 (Kd.R_lt (zr HO_237003))) (Kd.R_lt (zr HO_244003))) (Kd.R_lt (zr HO_251003))) (Kd.R_lt (zr HO_259003))) (Kd.R_lt (zr HO287))) (Kd.R_lt (zr HO293))) (below_size (zg HB)))
  have n7_ := Aside0.mk (blk_below (zb BK213) hb)
  have n8_ := Aside0.mk (blk_below (zb BK214) hb)
  have n9_ := Aside0.mk (blk_below (zb BK236) hb)
  have n10_ := Aside0.mk (blk_below (zb BK243) hb)
  have n11_ := Aside0.mk (blk_below (zb BK250) hb)
  have n12_ := Aside0.mk (blk_below (zb BK258) hb)
  have n13_ := Aside0.mk (blk_below (zb BK301) hb)
  have n14_ := Aside0.mk (below_step (zg HB) hb)
  clear HO_237003
  clear HO_244003
  clear HO_251003
  clear HO_259003
  clear HO287
  clear HO293
  clear BK213
  clear BK214
  clear BK236
  clear BK243
  clear BK250
  clear BK258
  clear BK301
  clear HB
  have HO_237003 := n0_
  have HO_244003 := n1_
  have HO_251003 := n2_
  have HO_259003 := n3_
  have HO287 := n4_
  have HO293 := n5_
  have HO299 := n6_
  have BK213 := n7_
  have BK214 := n8_
  have BK236 := n9_
  have BK243 := n10_
  have BK250 := n11_
  have BK258 := n12_
  have BK301 := n13_
  have HB := n14_
  clear n0_ n1_ n2_ n3_ n4_ n5_ n6_ n7_ n8_ n9_ n10_ n11_ n12_ n13_ n14_
  (try clear hb)
  (try clear hb2)
  (try clear hk)
  (try clear hi)
  (try clear ho0)
  refine hK.out _ _ ⟨(blk_cell BK213.out 0).trans rfl, (blk_cell BK213.out 1).trans rfl, (blk_cell BK213.out 2).trans rfl, (blk_cell BK213.out 3).trans rfl, (blk_cell BK214.out 0).trans rfl, (blk_cell BK214.out 1).trans rfl, (blk_cell BK214.out 2).trans rfl, (blk_cell BK214.out 3).trans rfl⟩ (fun hHeld => ?_)
  clear hK K
  refine norm_ (a' := ?_) ?_ ?_
  rotate_left
  ·
   show Act.put _ (some 99) _ = _
   simp only [Act.put, List.setIfInBounds_toArray, List.set_cons_zero, List.set_cons_succ, i64_w, i32_w]
   rfl
  refine pure_ (i := 5) (N := some 94) (v := ?_) (a' := ?_) #[true, true, true, true, true, true, false, false, true, false, false] rfl rfl (any_of HT_.out (by kernel_rfl)) (fun _ _ _ h => h) (Or.inl ⟨by rfl, ?_⟩) ?_ ?_
  rotate_left
  ·
   intro w'
   go_simp
   with_reducible rfl
  rotate_left
  ·
   simp only [Act.put, List.setIfInBounds_toArray, List.set_cons_zero, List.set_cons_succ, i64_w, i32_w]
   rfl
  refine pure_ (i := 6) (N := some 100) (v := ?_) (a' := ?_) #[true, true, true, true, true, true, true, false, true, false, false] rfl rfl (any_of HT_.out (by kernel_rfl)) (fun _ _ _ h => h) (Or.inl ⟨by rfl, ?_⟩) ?_ ?_
  rotate_left
  ·
   intro w'
   go_simp
   with_reducible rfl
  rotate_left
  ·
   simp only [Act.put, List.setIfInBounds_toArray, List.set_cons_zero, List.set_cons_succ, i64_w, i32_w]
   rfl
  refine pure_ (i := 7) (N := some 101) (v := ?_) (a' := ?_) #[true, true, true, true, true, true, true, true, true, false, false] rfl rfl (any_of HT_.out (by kernel_rfl)) (fun _ _ _ h => h) (Or.inl ⟨by rfl, ?_⟩) ?_ ?_
  rotate_left
  ·
   intro w'
   go_simp
   with_reducible rfl
  rotate_left
  ·
   simp only [Act.put, List.setIfInBounds_toArray, List.set_cons_zero, List.set_cons_succ, i64_w, i32_w]
   rfl
  exact norm_ (by simp only [putAll, Act.put, List.setIfInBounds_toArray, List.set_cons_zero, List.set_cons_succ]) (hCont (.slice Ao190 t285.length co190, .slice Ao191 t291.length co191, v298, gb301) _ ⟨hHeld, (Kd.R_mono (zr HO287) (fun _ hk => ⟨hk.1.2, ⟨hk.2, ⟨hk.1.1.1.1.1.2, ⟨hk.1.1.1.1.2, ⟨hk.1.1.1.2, hk.1.1.2⟩⟩⟩⟩⟩)), (Kd.R_mono (zr HO293) (fun _ hk => ⟨hk.1.2, ⟨hk.2, ⟨hk.1.1.1.1.1.2, ⟨hk.1.1.1.1.2, ⟨hk.1.1.1.2, hk.1.1.2⟩⟩⟩⟩⟩)), (Kd.R_mono (zr HO299) (fun _ hk => ⟨hk.1.2, ⟨hk.2, ⟨hk.1.1.1.1.1.2, ⟨hk.1.1.1.1.2, ⟨hk.1.1.1.2, hk.1.1.2⟩⟩⟩⟩⟩)), (Kd.R_mono (zr HO_237003) (fun _ hk => ⟨hk.1.1.2, ⟨hk.1.2, ⟨hk.2, ⟨hk.1.1.1.1, ⟨hk.1.1.1.2.1, hk.1.1.1.2.2⟩⟩⟩⟩⟩)), (Kd.R_mono (zr HO_244003) (fun _ hk => ⟨hk.1.1.2, ⟨hk.1.2, ⟨hk.2, ⟨hk.1.1.1.1, ⟨hk.1.1.1.2.1, hk.1.1.1.2.2⟩⟩⟩⟩⟩)), (Kd.R_mono (zr HO_251003) (fun _ hk => ⟨hk.1.1.2, ⟨hk.1.2, ⟨hk.2, ⟨hk.1.1.1.1, ⟨hk.1.1.1.2.1, hk.1.1.1.2.2⟩⟩⟩⟩⟩)), (Kd.R_mono (zr HO_259003) (fun _ hk => ⟨hk.1.1.2, ⟨hk.1.2, ⟨hk.2, ⟨hk.1.1.1.1, ⟨hk.1.1.1.2.1, hk.1.1.1.2.2⟩⟩⟩⟩⟩)), (zb BK213), (zb BK214), (zb BK236), (zb BK243), (zb BK250), (zb BK258), (zb BK301), GW301.out, GE301.out, NB213_301.out, NB301_213.out, NB214_301.out, NB301_214.out, NB236_301.out, NB301_236.out, NB243_301.out, NB301_243.out, NB250_301.out, NB301_250.out, NB258_301.out, NB301_258.out, (zg HB)⟩)
end Go.Proofs.Ytchoncnahlcfjaa.XFnExactDigestJoin
