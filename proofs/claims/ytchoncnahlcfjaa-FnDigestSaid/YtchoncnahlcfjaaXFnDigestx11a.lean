-- A text of this session: written by its own program (wip/x/xprint.py), which runs the kit's printer with contracts of its own.
import Derived.Test.YtchoncnahlcfjaaXFnDigestx0
import Derived.Test.YtchoncnahlcfjaaXFnDigestx2
import Derived.Test.YtchoncnahlcfjaaXFnDigestx3
import Derived.Test.YtchoncnahlcfjaaXFnDigestx5
import Derived.Test.YtchoncnahlcfjaaXFnDigestx8
import Derived.Test.YtchoncnahlcfjaaXFnDigestx9
import Derived.Test.YtchoncnahlcfjaaXFnDigestx10
import Derived.Test.YtchoncnahlcfjaaXFnDigestx11h
namespace Go.Proofs.Ytchoncnahlcfjaa.XFnDigest
open Go.RowKit Go.Proofs.YtchoncnahlcfjaaW.PrintWords Go.Proofs.YtchoncnahlcfjaaW.PrintLast Go.Proofs.YtchoncnahlcfjaaW.PrintMore
attribute [local go_sem] max2_int min2_int max_two min_two max_three min_three max_four min_four   -- for this text's walks alone
set_option linter.unusedVariables false
set_option linter.unusedSimpArgs false

set_option maxHeartbeats 8000000 in
set_option maxRecDepth 100000 in
theorem laws_FnDigest.reg0 {Q_ : Exit → Act → World → Prop}
  (k : Nat)
  (A0 : Option Addr)
  (c0 : Nat)
  (l0 : List Int)
  (A1 : Option Addr)
  (c1 : Nat)
  (l1 : List Int)
  (r : Bool)
  (w : World)
  (hu37 : Try.prog.underlying 37 =
    some
      (TypeDesc.struct
        #[{ name := "Step", type := 3, offset := 0, embedded := false, tag := "", pkgPath := "", byteOffset := 0 },
          { name := "Parts", type := 3, offset := 1, embedded := false, tag := "", pkgPath := "", byteOffset := 8 },
          { name := "Count", type := 3, offset := 2, embedded := false, tag := "", pkgPath := "", byteOffset := 16 },
          { name := "Points", type := 22, offset := 3, embedded := false, tag := "", pkgPath := "", byteOffset := 24 }]))
  (HR0 : Aside0 ((Kd.int IntKind.u8).C w A0 l0.length l0))
  (HR1 : Aside0 ((Kd.int IntKind.u8).C w A1 l1.length l1))
  (HC1 : Aside0 (l1.length ≤ c1))
  (kj2 : Nat)
  (HJ2 : Aside0 (kj2 + 1 ≤ k))
  (t268 : List Int)
  (t269 : Int)
  (A6 : Aside0 (spec_DrawDigestOf.f kj2 l0 = some (t268, t269)))
  (t272 t273 t274 : Int)
  (t275 : List Int)
  (t278 : Int)
  (A7 : Aside0 (spec_DigestOf.f kj2 t268 t269 = some (t272, t273, t274, t275, t278)))
  (t280 t281 t282 : Int)
  (t283 : List Int)
  (t286 : Int)
  (A8 : Aside0 (impl_DigestOf.f kj2 t268 t269 = some (t280, t281, t282, t283, t286)))
  (t288 : Int)
  (A11 : Aside0 (laws_at.f l1 0 (wrap64 ((↑t268.length : Int) + 1)) = some t288))
  (y289 : List Int)
  (Ny289 : Aside0 (y289 = List.take t288.toNat t268))
  (t293 t294 t295 : Int)
  (t296 : List Int)
  (t299 : Int)
  (A14 : Aside0 (impl_DigestOf.f kj2 y289 t269 = some (t293, t294, t295, t296, t299)))
  (y301 : List Int)
  (Ny301 : Aside0 (y301 = List.drop t288.toNat t268))
  (t305 t306 t307 : Int)
  (t308 : List Int)
  (t311 : Int)
  (A17 : Aside0 (impl_DigestOf.f kj2 y301 t269 = some (t305, t306, t307, t308, t311)))
  (t313 t314 t315 : Int)
  (t316 : List Int)
  (t319 : Int)
  (A18 : Aside0 (impl_DigestJoin.f kj2 t293 t294 t295 t296 t305 t306 t307 t308 = some (t313, t314, t315, t316, t319)))
  (w20 : World)
  (Ao21 : Option Addr)
  (co21 : Nat)
  (w22 : World)
  (gb279 : Nat)
  (w23 : World)
  (GW279 GE279 : Aside0 (w.heap.size ≤ gb279))
  (Ao25 : Option Addr)
  (co25 : Nat)
  (w26 : World)
  (gb287 : Nat)
  (w27 : World)
  (GW287 GE287 : Aside0 (w.heap.size ≤ gb287))
  (NB279_287 : Aside0 (gb279 ≠ gb287))
  (NB287_279 : Aside0 (gb287 ≠ gb279))
  (hnb28 : gb287 ≠ gb279)
  (hnc28 : gb279 ≠ gb287)
  (Ao30 : Option Addr)
  (co30 : Nat)
  (nd : Nat)
  (w31 : World)
  (i032 : TypeInfo)
  (hcut32 : ∀ (W : World),
    Sem.run Try.prog (Instr.slice 22 (Value.slice Ao21 t268.length co21) none (some (Value.int IntKind.i64 t288)) none)
        W =
      Result.ok (Value.slice Ao21 y289.length co21) W)
  (KY32 : Aside0 (y289.length = t288.toNat))
  (KL32 : Aside0 (t288.toNat ≤ t268.length))
  (w33 : World)
  (gb300 : Nat)
  (w34 : World)
  (HR292 : Aside0 ((Kd.int IntKind.i64).C w34 Ao21 y289.length y289))
  (GW300 GE300 : Aside0 (w.heap.size ≤ gb300))
  (NB279_300 : Aside0 (gb279 ≠ gb300))
  (NB300_279 : Aside0 (gb300 ≠ gb279))
  (NB287_300 : Aside0 (gb287 ≠ gb300))
  (NB300_287 : Aside0 (gb300 ≠ gb287))
  (hnb35 : gb300 ≠ gb279)
  (hnc35 : gb279 ≠ gb300)
  (hnb36 : gb300 ≠ gb287)
  (hnc36 : gb287 ≠ gb300)
  (Ao38 : Option Addr)
  (co38 : Nat)
  (w39 : World)
  (i040 : TypeInfo)
  (A40 : Option Addr)
  (c40 : Nat)
  (hcut40 : ∀ (W : World),
    Sem.run Try.prog (Instr.slice 22 (Value.slice Ao21 t268.length co21) (some (Value.int IntKind.i64 t288)) none none)
        W =
      Result.ok (Value.slice A40 y301.length c40) W)
  (KY40 : Aside0 (y301.length = t268.length - t288.toNat))
  (KA40 : Aside0 (A40 = if co21 = t288.toNat then Ao21 else Option.map (fun x => x.add (t288.toNat * 1)) Ao21))
  (KL40 : Aside0 (t288.toNat ≤ t268.length))
  (w41 : World)
  (gb312 : Nat)
  (w42 : World)
  (HR304 : Aside0 ((Kd.int IntKind.i64).C w42 A40 y301.length y301))
  (GW312 GE312 : Aside0 (w.heap.size ≤ gb312))
  (NB279_312 : Aside0 (gb279 ≠ gb312))
  (NB312_279 : Aside0 (gb312 ≠ gb279))
  (NB287_312 : Aside0 (gb287 ≠ gb312))
  (NB312_287 : Aside0 (gb312 ≠ gb287))
  (NB300_312 : Aside0 (gb300 ≠ gb312))
  (NB312_300 : Aside0 (gb312 ≠ gb300))
  (hnb43 : gb312 ≠ gb279)
  (hnc43 : gb279 ≠ gb312)
  (hnb44 : gb312 ≠ gb287)
  (hnc44 : gb287 ≠ gb312)
  (hnb45 : gb312 ≠ gb300)
  (hnc45 : gb300 ≠ gb312)
  (Ao47 : Option Addr)
  (co47 : Nat)
  (w49 : World)
  (gb320 : Nat)
  (w50 : World)
  (GW320 GE320 : Aside0 (w.heap.size ≤ gb320))
  (NB279_320 : Aside0 (gb279 ≠ gb320))
  (NB320_279 : Aside0 (gb320 ≠ gb279))
  (NB287_320 : Aside0 (gb287 ≠ gb320))
  (NB320_287 : Aside0 (gb320 ≠ gb287))
  (NB300_320 : Aside0 (gb300 ≠ gb320))
  (NB320_300 : Aside0 (gb320 ≠ gb300))
  (NB312_320 : Aside0 (gb312 ≠ gb320))
  (NB320_312 : Aside0 (gb320 ≠ gb312))
  (hnb51 : gb320 ≠ gb279)
  (hnc51 : gb279 ≠ gb320)
  (hnb52 : gb320 ≠ gb287)
  (hnc52 : gb287 ≠ gb320)
  (hnb53 : gb320 ≠ gb300)
  (hnc53 : gb300 ≠ gb320)
  (hnb54 : gb320 ≠ gb312)
  (hnc54 : gb312 ≠ gb320)
  (Ao56 : Option Addr)
  (co56 : Nat)
  (HO271 : Aside0
    ((Kd.int IntKind.i64).R 3 w50 w.heap.size
      (fun k =>
        ((some k ≠ (Value.slice Ao25 t275.length co25).ownBlock ∧
              some k ≠ (Value.slice Ao30 t283.length co30).ownBlock ∧
                some k ≠ (Value.slice Ao38 t296.length co38).ownBlock) ∧
            some k ≠ (Value.slice Ao47 t308.length co47).ownBlock) ∧
          some k ≠ (Value.slice Ao56 t316.length co56).ownBlock)
      (Value.slice Ao21 t268.length co21) t268))
  (HO277 : Aside0
    ((Kd.int IntKind.i64).R 3 w50 w.heap.size
      (fun k =>
        ((some k ≠ (Value.slice Ao21 t268.length co21).ownBlock ∧
              some k ≠ (Value.slice Ao30 t283.length co30).ownBlock ∧
                some k ≠ (Value.slice Ao38 t296.length co38).ownBlock) ∧
            some k ≠ (Value.slice Ao47 t308.length co47).ownBlock) ∧
          some k ≠ (Value.slice Ao56 t316.length co56).ownBlock)
      (Value.slice Ao25 t275.length co25) t275))
  (HO285 : Aside0
    ((Kd.int IntKind.i64).R 3 w50 w.heap.size
      (fun k =>
        ((some k ≠ (Value.slice Ao21 t268.length co21).ownBlock ∧
              some k ≠ (Value.slice Ao25 t275.length co25).ownBlock ∧
                some k ≠ (Value.slice Ao38 t296.length co38).ownBlock) ∧
            some k ≠ (Value.slice Ao47 t308.length co47).ownBlock) ∧
          some k ≠ (Value.slice Ao56 t316.length co56).ownBlock)
      (Value.slice Ao30 t283.length co30) t283))
  (HO298 : Aside0
    ((Kd.int IntKind.i64).R 3 w50 w.heap.size
      (fun k =>
        ((some k ≠ (Value.slice Ao21 t268.length co21).ownBlock ∧
              some k ≠ (Value.slice Ao25 t275.length co25).ownBlock ∧
                some k ≠ (Value.slice Ao30 t283.length co30).ownBlock) ∧
            some k ≠ (Value.slice Ao47 t308.length co47).ownBlock) ∧
          some k ≠ (Value.slice Ao56 t316.length co56).ownBlock)
      (Value.slice Ao38 t296.length co38) t296))
  (HO310 : Aside0
    ((Kd.int IntKind.i64).R 3 w50 w.heap.size
      (fun k =>
        ((((True ∧ some k ≠ (Value.slice Ao21 t268.length co21).ownBlock) ∧
                some k ≠ (Value.slice Ao25 t275.length co25).ownBlock) ∧
              some k ≠ (Value.slice Ao30 t283.length co30).ownBlock) ∧
            some k ≠ (Value.slice Ao38 t296.length co38).ownBlock) ∧
          some k ≠ (Value.slice Ao56 t316.length co56).ownBlock)
      (Value.slice Ao47 t308.length co47) t308))
  (HO318 : Aside0
    ((Kd.int IntKind.i64).R 3 w50 w.heap.size
      (fun k =>
        ((((True ∧ some k ≠ (Value.slice Ao21 t268.length co21).ownBlock) ∧
                some k ≠ (Value.slice Ao25 t275.length co25).ownBlock) ∧
              some k ≠ (Value.slice Ao30 t283.length co30).ownBlock) ∧
            some k ≠ (Value.slice Ao38 t296.length co38).ownBlock) ∧
          some k ≠ (Value.slice Ao47 t308.length co47).ownBlock)
      (Value.slice Ao56 t316.length co56) t316))
  (Kz0_ : Act → World → Prop)
  (az0_ : ∀ (a : Act) (wq_ : World),
    Code.wp Try.prog
        (((Code.region 16
                  #[{ dst := some 18, op := Op.assign (Operand.const (Value.int IntKind.i64 (-25))), type := 3,
                      pos := "laws.go:1884", after := #[], guard := none }]
                  false).seq
              (Code.block 0
                (((Code.region 17
                            #[{ dst := some 117, op := Op.move (Operand.tmp 18), type := 3, pos := "laws.go:1884",
                                after := #[], guard := none },
                              { dst := some 118,
                                op :=
                                  Op.binOp BinOp.leq 3 (Operand.tmp 117) (Operand.const (Value.int IntKind.i64 45)) 3,
                                type := 4, pos := "laws.go:1884", after := #[{ on := 0, ground := Ground.data }],
                                guard := none }]
                            false).seq
                        (Code.cond (Operand.tmp 118) Code.skip (Code.exit 0))).seq
                    ((Code.block 1
                          ((Code.region 19
                                #[{ dst := some 19, op := Op.assign (Operand.const (Value.int IntKind.i64 0)),
                                    type := 3, pos := "laws.go:1885", after := #[], guard := none }]
                                false).seq
                            (((Code.region 20
                                      #[{ dst := some 20, op := Op.assign (Operand.const (Value.int IntKind.i64 0)),
                                          type := 3, pos := "laws.go:1886", after := #[], guard := none }]
                                      false).seq
                                  (Code.block 2
                                    (((Code.region 21
                                                #[{ dst := some 121, op := Op.move (Operand.tmp 20), type := 3,
                                                    pos := "laws.go:1886", after := #[], guard := none },
                                                  { dst := some 122, op := Op.move (Operand.tmp 5), type := 22,
                                                    pos := "laws.go:1886", after := #[], guard := none },
                                                  { dst := some 123,
                                                    op :=
                                                      Op.call
                                                        { callee := Callee.builtin Builtin.len,
                                                          args := #[Operand.tmp 122], argTypes := #[22] },
                                                    type := 3, pos := "laws.go:1886",
                                                    after := #[{ on := 1, ground := Ground.data }], guard := none },
                                                  { dst := some 124,
                                                    op := Op.binOp BinOp.lss 3 (Operand.tmp 121) (Operand.tmp 123) 3,
                                                    type := 4, pos := "laws.go:1886",
                                                    after :=
                                                      #[{ on := 0, ground := Ground.data },
                                                        { on := 2, ground := Ground.data }],
                                                    guard := none }]
                                                false).seq
                                            (Code.cond (Operand.tmp 124) Code.skip (Code.exit 2))).seq
                                        ((Code.block 3
                                              ((Code.region 23
                                                    #[{ dst := some 127, op := Op.move (Operand.tmp 5), type := 22,
                                                        pos := "laws.go:1887", after := #[], guard := none },
                                                      { dst := some 128, op := Op.move (Operand.tmp 20), type := 3,
                                                        pos := "laws.go:1887", after := #[], guard := none },
                                                      { dst := some 129,
                                                        op := Op.indexAddr 22 (Operand.tmp 127) (Operand.tmp 128),
                                                        type := 0, pos := "laws.go:1887",
                                                        after :=
                                                          #[{ on := 0, ground := Ground.data },
                                                            { on := 1, ground := Ground.data }],
                                                        guard := none },
                                                      { dst := some 130, op := Op.load 3 (Operand.tmp 129), type := 3,
                                                        pos := "laws.go:1887",
                                                        after := #[{ on := 2, ground := Ground.data }], guard := none },
                                                      { dst := some 131, op := Op.move (Operand.tmp 18), type := 3,
                                                        pos := "laws.go:1887", after := #[], guard := none },
                                                      { dst := some 132,
                                                        op :=
                                                          Op.binOp BinOp.leq 3 (Operand.tmp 130) (Operand.tmp 131) 3,
                                                        type := 4, pos := "laws.go:1887",
                                                        after :=
                                                          #[{ on := 3, ground := Ground.data },
                                                            { on := 4, ground := Ground.data }],
                                                        guard := none }]
                                                    false).seq
                                                (Code.cond (Operand.tmp 132)
                                                  (Code.region 24
                                                    #[{ dst := some 133, op := Op.move (Operand.tmp 19), type := 3,
                                                        pos := "laws.go:1888", after := #[], guard := none },
                                                      { dst := some 134,
                                                        op :=
                                                          Op.binOp BinOp.add 3 (Operand.tmp 133)
                                                            (Operand.const (Value.int IntKind.i64 1)) 3,
                                                        type := 3, pos := "laws.go:1888",
                                                        after := #[{ on := 0, ground := Ground.data }], guard := none },
                                                      { dst := some 19, op := Op.assign (Operand.tmp 134), type := 3,
                                                        pos := "laws.go:1888",
                                                        after :=
                                                          #[{ on := 1, ground := Ground.data },
                                                            { on := 0, ground := Ground.phase },
                                                            { on := 1, ground := Ground.phase }],
                                                        guard := none }]
                                                    false)
                                                  Code.skip))).seq
                                          (Code.region 22
                                            #[{ dst := some 125, op := Op.move (Operand.tmp 20), type := 3,
                                                pos := "laws.go:1886", after := #[], guard := none },
                                              { dst := some 126,
                                                op :=
                                                  Op.binOp BinOp.add 3 (Operand.tmp 125)
                                                    (Operand.const (Value.int IntKind.i64 1)) 3,
                                                type := 3, pos := "laws.go:1886",
                                                after := #[{ on := 0, ground := Ground.data }], guard := none },
                                              { dst := some 20, op := Op.assign (Operand.tmp 126), type := 3,
                                                pos := "laws.go:1886",
                                                after :=
                                                  #[{ on := 1, ground := Ground.data },
                                                    { on := 0, ground := Ground.phase },
                                                    { on := 1, ground := Ground.phase }],
                                                guard := none }]
                                            false))).loop)).seq
                              ((Code.region 25
                                    #[{ dst := some 136, op := Op.load 37 (Operand.tmp 9), type := 37,
                                        pos := "laws.go:1891", after := #[], guard := none },
                                      { dst := some 137, op := Op.move (Operand.tmp 18), type := 3,
                                        pos := "laws.go:1891", after := #[], guard := none },
                                      { dst := some 138,
                                        op :=
                                          Op.call
                                            { callee := Callee.value (Operand.func 33),
                                              args := #[Operand.tmp 136, Operand.tmp 137], argTypes := #[37, 3] },
                                        type := 56, pos := "laws.go:1891",
                                        after :=
                                          #[{ on := 0, ground := Ground.data }, { on := 1, ground := Ground.data }],
                                        guard := none },
                                      { dst := some 135, op := Op.move (Operand.tmp 138), type := 56,
                                        pos := "laws.go:1891", after := #[{ on := 2, ground := Ground.data }],
                                        guard := none },
                                      { dst := some 139, op := Op.extract (Operand.tmp 135) 0, type := 3,
                                        pos := "laws.go:1891", after := #[{ on := 3, ground := Ground.data }],
                                        guard := none },
                                      { dst := some 140, op := Op.extract (Operand.tmp 135) 1, type := 3,
                                        pos := "laws.go:1891",
                                        after :=
                                          #[{ on := 3, ground := Ground.data },
                                            { on := 7, ground := Ground.gcOnly Departure.lateStores }],
                                        guard := none },
                                      { dst := some 141, op := Op.extract (Operand.tmp 135) 2, type := 3,
                                        pos := "laws.go:1891",
                                        after :=
                                          #[{ on := 3, ground := Ground.data },
                                            { on := 8, ground := Ground.gcOnly Departure.lateStores }],
                                        guard := none },
                                      { dst := some 21, op := Op.assign (Operand.tmp 139), type := 3,
                                        pos := "laws.go:1891",
                                        after :=
                                          #[{ on := 4, ground := Ground.data }, { on := 2, ground := Ground.chain },
                                            { on := 0, ground := Ground.phase }, { on := 1, ground := Ground.phase },
                                            { on := 2, ground := Ground.phase }, { on := 3, ground := Ground.phase },
                                            { on := 4, ground := Ground.phase },
                                            { on := 5, ground := Ground.textOnly Departure.lateStores },
                                            { on := 6, ground := Ground.textOnly Departure.lateStores }],
                                        guard := none },
                                      { dst := some 22, op := Op.assign (Operand.tmp 140), type := 3,
                                        pos := "laws.go:1891",
                                        after :=
                                          #[{ on := 5, ground := Ground.data }, { on := 7, ground := Ground.chain },
                                            { on := 0, ground := Ground.phase }, { on := 1, ground := Ground.phase },
                                            { on := 2, ground := Ground.phase }, { on := 3, ground := Ground.phase },
                                            { on := 4, ground := Ground.phase }, { on := 5, ground := Ground.phase },
                                            { on := 6, ground := Ground.textOnly Departure.lateStores },
                                            { on := 7, ground := Ground.phase }],
                                        guard := none },
                                      { dst := some 23, op := Op.assign (Operand.tmp 141), type := 3,
                                        pos := "laws.go:1891",
                                        after :=
                                          #[{ on := 6, ground := Ground.data }, { on := 8, ground := Ground.chain },
                                            { on := 0, ground := Ground.phase }, { on := 1, ground := Ground.phase },
                                            { on := 2, ground := Ground.phase }, { on := 3, ground := Ground.phase },
                                            { on := 4, ground := Ground.phase }, { on := 5, ground := Ground.phase },
                                            { on := 6, ground := Ground.phase }, { on := 7, ground := Ground.phase },
                                            { on := 8, ground := Ground.phase }],
                                        guard := none }]
                                    false).seq
                                (((Code.region 26
                                          #[{ dst := some 142, op := Op.move (Operand.tmp 23), type := 3,
                                              pos := "laws.go:1892", after := #[], guard := none },
                                            { dst := some 143,
                                              op :=
                                                Op.binOp BinOp.neq 3 (Operand.tmp 142)
                                                  (Operand.const (Value.int IntKind.i64 0)) 3,
                                              type := 4, pos := "laws.go:1892",
                                              after := #[{ on := 0, ground := Ground.data }], guard := none },
                                            { dst := some 144, op := Op.move (Operand.tmp 143), type := 4,
                                              pos := "laws.go:1892", after := #[{ on := 1, ground := Ground.data }],
                                              guard := none },
                                            { dst := some 145, op := Op.move (Operand.tmp 19), type := 3,
                                              pos := "laws.go:1892", after := #[{ on := 2, ground := Ground.guard }],
                                              guard := some (2, false) },
                                            { dst := some 146, op := Op.move (Operand.tmp 21), type := 3,
                                              pos := "laws.go:1892", after := #[{ on := 2, ground := Ground.guard }],
                                              guard := some (2, false) },
                                            { dst := some 147,
                                              op := Op.binOp BinOp.lss 3 (Operand.tmp 145) (Operand.tmp 146) 3,
                                              type := 4, pos := "laws.go:1892",
                                              after :=
                                                #[{ on := 3, ground := Ground.data },
                                                  { on := 4, ground := Ground.data },
                                                  { on := 2, ground := Ground.guard }],
                                              guard := some (2, false) },
                                            { dst := some 148,
                                              op :=
                                                Op.pick (Operand.tmp 144) (Operand.const (Value.bool true))
                                                  (Operand.tmp 147),
                                              type := 4, pos := "laws.go:1892",
                                              after :=
                                                #[{ on := 2, ground := Ground.data },
                                                  { on := 5, ground := Ground.data }],
                                              guard := none },
                                            { dst := some 149, op := Op.move (Operand.tmp 148), type := 4,
                                              pos := "laws.go:1892",
                                              after :=
                                                #[{ on := 6, ground := Ground.data },
                                                  { on := 2, ground := Ground.chain }],
                                              guard := none },
                                            { dst := some 150, op := Op.move (Operand.tmp 19), type := 3,
                                              pos := "laws.go:1892", after := #[{ on := 7, ground := Ground.guard }],
                                              guard := some (7, false) },
                                            { dst := some 151, op := Op.move (Operand.tmp 22), type := 3,
                                              pos := "laws.go:1892", after := #[{ on := 7, ground := Ground.guard }],
                                              guard := some (7, false) },
                                            { dst := some 152,
                                              op := Op.binOp BinOp.gtr 3 (Operand.tmp 150) (Operand.tmp 151) 3,
                                              type := 4, pos := "laws.go:1892",
                                              after :=
                                                #[{ on := 8, ground := Ground.data },
                                                  { on := 9, ground := Ground.data },
                                                  { on := 7, ground := Ground.guard }],
                                              guard := some (7, false) },
                                            { dst := some 153,
                                              op :=
                                                Op.pick (Operand.tmp 149) (Operand.const (Value.bool true))
                                                  (Operand.tmp 152),
                                              type := 4, pos := "laws.go:1892",
                                              after :=
                                                #[{ on := 7, ground := Ground.data },
                                                  { on := 10, ground := Ground.data }],
                                              guard := none },
                                            { dst := some 154, op := Op.move (Operand.tmp 153), type := 4,
                                              pos := "laws.go:1892",
                                              after :=
                                                #[{ on := 11, ground := Ground.data },
                                                  { on := 7, ground := Ground.chain }],
                                              guard := none },
                                            { dst := some 155, op := Op.move (Operand.tmp 22), type := 3,
                                              pos := "laws.go:1892", after := #[{ on := 12, ground := Ground.guard }],
                                              guard := some (12, false) },
                                            { dst := some 156, op := Op.move (Operand.tmp 21), type := 3,
                                              pos := "laws.go:1892", after := #[{ on := 12, ground := Ground.guard }],
                                              guard := some (12, false) },
                                            { dst := some 157,
                                              op := Op.binOp BinOp.sub 3 (Operand.tmp 155) (Operand.tmp 156) 3,
                                              type := 3, pos := "laws.go:1892",
                                              after :=
                                                #[{ on := 13, ground := Ground.data },
                                                  { on := 14, ground := Ground.data },
                                                  { on := 12, ground := Ground.guard }],
                                              guard := some (12, false) },
                                            { dst := some 158, op := Op.move (Operand.tmp 6), type := 3,
                                              pos := "laws.go:1892", after := #[{ on := 12, ground := Ground.guard }],
                                              guard := some (12, false) },
                                            { dst := some 159,
                                              op := Op.binOp BinOp.geq 3 (Operand.tmp 157) (Operand.tmp 158) 3,
                                              type := 4, pos := "laws.go:1892",
                                              after :=
                                                #[{ on := 15, ground := Ground.data },
                                                  { on := 16, ground := Ground.data },
                                                  { on := 12, ground := Ground.guard }],
                                              guard := some (12, false) },
                                            { dst := some 160, op := Op.move (Operand.tmp 159), type := 4,
                                              pos := "laws.go:1892",
                                              after :=
                                                #[{ on := 17, ground := Ground.data },
                                                  { on := 12, ground := Ground.chain },
                                                  { on := 12, ground := Ground.guard }],
                                              guard := some (12, false) },
                                            { dst := some 161, op := Op.move (Operand.tmp 22), type := 3,
                                              pos := "laws.go:1892", after := #[{ on := 18, ground := Ground.guard }],
                                              guard := some (18, true) },
                                            { dst := some 162,
                                              op :=
                                                Op.binOp BinOp.gtr 3 (Operand.tmp 161)
                                                  (Operand.const (Value.int IntKind.i64 0)) 3,
                                              type := 4, pos := "laws.go:1892",
                                              after :=
                                                #[{ on := 19, ground := Ground.data },
                                                  { on := 18, ground := Ground.guard }],
                                              guard := some (18, true) },
                                            { dst := some 163,
                                              op :=
                                                Op.pick (Operand.tmp 160) (Operand.tmp 162)
                                                  (Operand.const (Value.bool false)),
                                              type := 4, pos := "laws.go:1892",
                                              after :=
                                                #[{ on := 18, ground := Ground.data },
                                                  { on := 20, ground := Ground.data },
                                                  { on := 12, ground := Ground.guard }],
                                              guard := some (12, false) },
                                            { dst := some 164,
                                              op :=
                                                Op.pick (Operand.tmp 154) (Operand.const (Value.bool true))
                                                  (Operand.tmp 163),
                                              type := 4, pos := "laws.go:1892",
                                              after :=
                                                #[{ on := 12, ground := Ground.data },
                                                  { on := 21, ground := Ground.data }],
                                              guard := none }]
                                          false).seq
                                      (Code.cond (Operand.tmp 164)
                                        ((Code.region 27
                                              #[{ dst := some 4, op := Op.assign (Operand.const (Value.bool false)),
                                                  type := 4, pos := "laws.go:1893", after := #[], guard := none }]
                                              false).seq
                                          Code.ret)
                                        Code.skip)).seq
                                  ((Code.region 28
                                        #[{ dst := some 166, op := Op.load 37 (Operand.tmp 16), type := 37,
                                            pos := "laws.go:1895", after := #[], guard := none },
                                          { dst := some 167, op := Op.move (Operand.tmp 18), type := 3,
                                            pos := "laws.go:1895", after := #[], guard := none },
                                          { dst := some 168,
                                            op :=
                                              Op.call
                                                { callee := Callee.value (Operand.func 33),
                                                  args := #[Operand.tmp 166, Operand.tmp 167], argTypes := #[37, 3] },
                                            type := 56, pos := "laws.go:1895",
                                            after :=
                                              #[{ on := 0, ground := Ground.data }, { on := 1, ground := Ground.data }],
                                            guard := none },
                                          { dst := some 165, op := Op.move (Operand.tmp 168), type := 56,
                                            pos := "laws.go:1895", after := #[{ on := 2, ground := Ground.data }],
                                            guard := none },
                                          { dst := some 169, op := Op.extract (Operand.tmp 165) 0, type := 3,
                                            pos := "laws.go:1895", after := #[{ on := 3, ground := Ground.data }],
                                            guard := none },
                                          { dst := some 170, op := Op.extract (Operand.tmp 165) 1, type := 3,
                                            pos := "laws.go:1895",
                                            after :=
                                              #[{ on := 3, ground := Ground.data },
                                                { on := 7, ground := Ground.gcOnly Departure.lateStores }],
                                            guard := none },
                                          { dst := some 171, op := Op.extract (Operand.tmp 165) 2, type := 3,
                                            pos := "laws.go:1895",
                                            after :=
                                              #[{ on := 3, ground := Ground.data },
                                                { on := 8, ground := Ground.gcOnly Departure.lateStores }],
                                            guard := none },
                                          { dst := some 21, op := Op.assign (Operand.tmp 169), type := 3,
                                            pos := "laws.go:1895",
                                            after :=
                                              #[{ on := 4, ground := Ground.data }, { on := 2, ground := Ground.chain },
                                                { on := 0, ground := Ground.phase },
                                                { on := 1, ground := Ground.phase },
                                                { on := 2, ground := Ground.phase },
                                                { on := 3, ground := Ground.phase },
                                                { on := 4, ground := Ground.phase },
                                                { on := 5, ground := Ground.textOnly Departure.lateStores },
                                                { on := 6, ground := Ground.textOnly Departure.lateStores }],
                                            guard := none },
                                          { dst := some 22, op := Op.assign (Operand.tmp 170), type := 3,
                                            pos := "laws.go:1895",
                                            after :=
                                              #[{ on := 5, ground := Ground.data }, { on := 7, ground := Ground.chain },
                                                { on := 0, ground := Ground.phase },
                                                { on := 1, ground := Ground.phase },
                                                { on := 2, ground := Ground.phase },
                                                { on := 3, ground := Ground.phase },
                                                { on := 4, ground := Ground.phase },
                                                { on := 5, ground := Ground.phase },
                                                { on := 6, ground := Ground.textOnly Departure.lateStores },
                                                { on := 7, ground := Ground.phase }],
                                            guard := none },
                                          { dst := some 23, op := Op.assign (Operand.tmp 171), type := 3,
                                            pos := "laws.go:1895",
                                            after :=
                                              #[{ on := 6, ground := Ground.data }, { on := 8, ground := Ground.chain },
                                                { on := 0, ground := Ground.phase },
                                                { on := 1, ground := Ground.phase },
                                                { on := 2, ground := Ground.phase },
                                                { on := 3, ground := Ground.phase },
                                                { on := 4, ground := Ground.phase },
                                                { on := 5, ground := Ground.phase },
                                                { on := 6, ground := Ground.phase },
                                                { on := 7, ground := Ground.phase },
                                                { on := 8, ground := Ground.phase }],
                                            guard := none }]
                                        false).seq
                                    ((Code.region 29
                                          #[{ dst := some 172, op := Op.move (Operand.tmp 17), type := 3,
                                              pos := "laws.go:1896", after := #[], guard := none },
                                            { dst := some 173,
                                              op :=
                                                Op.binOp BinOp.eql 3 (Operand.tmp 172)
                                                  (Operand.const (Value.int IntKind.i64 0)) 3,
                                              type := 4, pos := "laws.go:1896",
                                              after := #[{ on := 0, ground := Ground.data }], guard := none },
                                            { dst := some 174, op := Op.move (Operand.tmp 173), type := 4,
                                              pos := "laws.go:1896", after := #[{ on := 1, ground := Ground.data }],
                                              guard := none },
                                            { dst := some 175, op := Op.move (Operand.tmp 23), type := 3,
                                              pos := "laws.go:1896", after := #[{ on := 2, ground := Ground.guard }],
                                              guard := some (2, true) },
                                            { dst := some 176,
                                              op :=
                                                Op.binOp BinOp.neq 3 (Operand.tmp 175)
                                                  (Operand.const (Value.int IntKind.i64 0)) 3,
                                              type := 4, pos := "laws.go:1896",
                                              after :=
                                                #[{ on := 3, ground := Ground.data },
                                                  { on := 2, ground := Ground.guard }],
                                              guard := some (2, true) },
                                            { dst := some 177, op := Op.move (Operand.tmp 176), type := 4,
                                              pos := "laws.go:1896",
                                              after :=
                                                #[{ on := 4, ground := Ground.data },
                                                  { on := 2, ground := Ground.chain },
                                                  { on := 2, ground := Ground.guard }],
                                              guard := some (2, true) },
                                            { dst := some 178, op := Op.move (Operand.tmp 19), type := 3,
                                              pos := "laws.go:1896", after := #[{ on := 5, ground := Ground.guard }],
                                              guard := some (5, false) },
                                            { dst := some 179, op := Op.move (Operand.tmp 21), type := 3,
                                              pos := "laws.go:1896", after := #[{ on := 5, ground := Ground.guard }],
                                              guard := some (5, false) },
                                            { dst := some 180,
                                              op := Op.binOp BinOp.lss 3 (Operand.tmp 178) (Operand.tmp 179) 3,
                                              type := 4, pos := "laws.go:1896",
                                              after :=
                                                #[{ on := 6, ground := Ground.data },
                                                  { on := 7, ground := Ground.data },
                                                  { on := 5, ground := Ground.guard }],
                                              guard := some (5, false) },
                                            { dst := some 181,
                                              op :=
                                                Op.pick (Operand.tmp 177) (Operand.const (Value.bool true))
                                                  (Operand.tmp 180),
                                              type := 4, pos := "laws.go:1896",
                                              after :=
                                                #[{ on := 5, ground := Ground.data },
                                                  { on := 8, ground := Ground.data },
                                                  { on := 2, ground := Ground.guard }],
                                              guard := some (2, true) },
                                            { dst := some 182, op := Op.move (Operand.tmp 181), type := 4,
                                              pos := "laws.go:1896",
                                              after :=
                                                #[{ on := 9, ground := Ground.data },
                                                  { on := 5, ground := Ground.chain },
                                                  { on := 2, ground := Ground.guard }],
                                              guard := some (2, true) },
                                            { dst := some 183, op := Op.move (Operand.tmp 19), type := 3,
                                              pos := "laws.go:1896", after := #[{ on := 10, ground := Ground.guard }],
                                              guard := some (10, false) },
                                            { dst := some 184, op := Op.move (Operand.tmp 22), type := 3,
                                              pos := "laws.go:1896", after := #[{ on := 10, ground := Ground.guard }],
                                              guard := some (10, false) },
                                            { dst := some 185,
                                              op := Op.binOp BinOp.gtr 3 (Operand.tmp 183) (Operand.tmp 184) 3,
                                              type := 4, pos := "laws.go:1896",
                                              after :=
                                                #[{ on := 11, ground := Ground.data },
                                                  { on := 12, ground := Ground.data },
                                                  { on := 10, ground := Ground.guard }],
                                              guard := some (10, false) },
                                            { dst := some 186,
                                              op :=
                                                Op.pick (Operand.tmp 182) (Operand.const (Value.bool true))
                                                  (Operand.tmp 185),
                                              type := 4, pos := "laws.go:1896",
                                              after :=
                                                #[{ on := 10, ground := Ground.data },
                                                  { on := 13, ground := Ground.data },
                                                  { on := 2, ground := Ground.guard }],
                                              guard := some (2, true) },
                                            { dst := some 187,
                                              op :=
                                                Op.pick (Operand.tmp 174) (Operand.tmp 186)
                                                  (Operand.const (Value.bool false)),
                                              type := 4, pos := "laws.go:1896",
                                              after :=
                                                #[{ on := 2, ground := Ground.data },
                                                  { on := 14, ground := Ground.data }],
                                              guard := none }]
                                          false).seq
                                      (Code.cond (Operand.tmp 187)
                                        ((Code.region 30
                                              #[{ dst := some 4, op := Op.assign (Operand.const (Value.bool false)),
                                                  type := 4, pos := "laws.go:1897", after := #[], guard := none }]
                                              false).seq
                                          Code.ret)
                                        Code.skip)))))))).seq
                      (Code.region 18
                        #[{ dst := some 119, op := Op.move (Operand.tmp 18), type := 3, pos := "laws.go:1884",
                            after := #[], guard := none },
                          { dst := some 120,
                            op := Op.binOp BinOp.add 3 (Operand.tmp 119) (Operand.const (Value.int IntKind.i64 1)) 3,
                            type := 3, pos := "laws.go:1884", after := #[{ on := 0, ground := Ground.data }],
                            guard := none },
                          { dst := some 18, op := Op.assign (Operand.tmp 120), type := 3, pos := "laws.go:1884",
                            after :=
                              #[{ on := 1, ground := Ground.data }, { on := 0, ground := Ground.phase },
                                { on := 1, ground := Ground.phase }],
                            guard := none }]
                        false))).loop)).seq
          ((Code.region 31
                #[{ dst := some 189, op := Op.load 37 (Operand.tmp 9), type := 37, pos := "laws.go:1900", after := #[],
                    guard := none },
                  { dst := some 190, op := Op.move (Operand.tmp 1), type := 51, pos := "laws.go:1900", after := #[],
                    guard := none },
                  { dst := some 191,
                    op :=
                      Op.call
                        { callee := Callee.value (Operand.func 31),
                          args :=
                            #[Operand.tmp 190, Operand.const (Value.int IntKind.i64 1),
                              Operand.const (Value.int IntKind.i64 101)],
                          argTypes := #[51, 3, 3] },
                    type := 3, pos := "laws.go:1900", after := #[{ on := 1, ground := Ground.data }], guard := none },
                  { dst := some 192,
                    op :=
                      Op.call
                        { callee := Callee.value (Operand.func 34), args := #[Operand.tmp 189, Operand.tmp 191],
                          argTypes := #[37, 3] },
                    type := 33, pos := "laws.go:1900",
                    after :=
                      #[{ on := 0, ground := Ground.data }, { on := 2, ground := Ground.data },
                        { on := 2, ground := Ground.chain }],
                    guard := none },
                  { dst := some 188, op := Op.move (Operand.tmp 192), type := 33, pos := "laws.go:1900",
                    after := #[{ on := 3, ground := Ground.data }], guard := none },
                  { dst := some 193, op := Op.extract (Operand.tmp 188) 0, type := 3, pos := "laws.go:1900",
                    after := #[{ on := 4, ground := Ground.data }], guard := none },
                  { dst := some 194, op := Op.extract (Operand.tmp 188) 1, type := 3, pos := "laws.go:1900",
                    after :=
                      #[{ on := 4, ground := Ground.data }, { on := 7, ground := Ground.gcOnly Departure.lateStores }],
                    guard := none },
                  { dst := some 24, op := Op.assign (Operand.tmp 193), type := 3, pos := "laws.go:1900",
                    after :=
                      #[{ on := 5, ground := Ground.data }, { on := 3, ground := Ground.chain },
                        { on := 0, ground := Ground.phase }, { on := 1, ground := Ground.phase },
                        { on := 2, ground := Ground.phase }, { on := 3, ground := Ground.phase },
                        { on := 4, ground := Ground.phase }, { on := 5, ground := Ground.phase },
                        { on := 6, ground := Ground.textOnly Departure.lateStores }],
                    guard := none },
                  { dst := some 25, op := Op.assign (Operand.tmp 194), type := 3, pos := "laws.go:1900",
                    after :=
                      #[{ on := 6, ground := Ground.data }, { on := 7, ground := Ground.chain },
                        { on := 0, ground := Ground.phase }, { on := 1, ground := Ground.phase },
                        { on := 2, ground := Ground.phase }, { on := 3, ground := Ground.phase },
                        { on := 4, ground := Ground.phase }, { on := 5, ground := Ground.phase },
                        { on := 6, ground := Ground.phase }, { on := 7, ground := Ground.phase }],
                    guard := none }]
                true).seq
            (((Code.region 32
                      #[{ dst := some 195, op := Op.move (Operand.tmp 5), type := 22, pos := "laws.go:1901",
                          after := #[], guard := none },
                        { dst := some 196,
                          op :=
                            Op.call
                              { callee := Callee.builtin Builtin.len, args := #[Operand.tmp 195], argTypes := #[22] },
                          type := 3, pos := "laws.go:1901", after := #[{ on := 0, ground := Ground.data }],
                          guard := none },
                        { dst := some 197,
                          op := Op.binOp BinOp.eql 3 (Operand.tmp 196) (Operand.const (Value.int IntKind.i64 0)) 3,
                          type := 4, pos := "laws.go:1901", after := #[{ on := 1, ground := Ground.data }],
                          guard := none }]
                      false).seq
                  (Code.cond (Operand.tmp 197)
                    ((Code.region 33
                          #[{ dst := some 198, op := Op.move (Operand.tmp 25), type := 3, pos := "laws.go:1902",
                              after := #[], guard := none },
                            { dst := some 199,
                              op := Op.binOp BinOp.eql 3 (Operand.tmp 198) (Operand.const (Value.int IntKind.i64 8)) 3,
                              type := 4, pos := "laws.go:1902", after := #[{ on := 0, ground := Ground.data }],
                              guard := none },
                            { dst := some 4, op := Op.assign (Operand.tmp 199), type := 4, pos := "laws.go:1902",
                              after :=
                                #[{ on := 1, ground := Ground.data }, { on := 0, ground := Ground.phase },
                                  { on := 1, ground := Ground.phase }],
                              guard := none }]
                          false).seq
                      Code.ret)
                    Code.skip)).seq
              ((Code.region 34
                    #[{ dst := some 26, op := Op.assign (Operand.const (Value.bool false)), type := 4,
                        pos := "laws.go:1904", after := #[], guard := none }]
                    false).seq
                (((Code.region 35
                          #[{ dst := some 27, op := Op.assign (Operand.const (Value.int IntKind.i64 0)), type := 3,
                              pos := "laws.go:1905", after := #[], guard := none }]
                          false).seq
                      (Code.block 4
                        (((Code.region 36
                                    #[{ dst := some 200, op := Op.move (Operand.tmp 27), type := 3,
                                        pos := "laws.go:1905", after := #[], guard := none },
                                      { dst := some 201, op := Op.move (Operand.tmp 5), type := 22,
                                        pos := "laws.go:1905", after := #[], guard := none },
                                      { dst := some 202,
                                        op :=
                                          Op.call
                                            { callee := Callee.builtin Builtin.len, args := #[Operand.tmp 201],
                                              argTypes := #[22] },
                                        type := 3, pos := "laws.go:1905",
                                        after := #[{ on := 1, ground := Ground.data }], guard := none },
                                      { dst := some 203,
                                        op := Op.binOp BinOp.lss 3 (Operand.tmp 200) (Operand.tmp 202) 3, type := 4,
                                        pos := "laws.go:1905",
                                        after :=
                                          #[{ on := 0, ground := Ground.data }, { on := 2, ground := Ground.data }],
                                        guard := none }]
                                    false).seq
                                (Code.cond (Operand.tmp 203) Code.skip (Code.exit 4))).seq
                            ((Code.block 5
                                  (Code.region 38
                                    #[{ dst := some 206, op := Op.move (Operand.tmp 26), type := 4,
                                        pos := "laws.go:1906", after := #[], guard := none },
                                      { dst := some 207, op := Op.move (Operand.tmp 206), type := 4,
                                        pos := "laws.go:1906", after := #[{ on := 0, ground := Ground.data }],
                                        guard := none },
                                      { dst := some 208, op := Op.move (Operand.tmp 5), type := 22,
                                        pos := "laws.go:1906", after := #[{ on := 1, ground := Ground.guard }],
                                        guard := some (1, false) },
                                      { dst := some 209, op := Op.move (Operand.tmp 27), type := 3,
                                        pos := "laws.go:1906", after := #[{ on := 1, ground := Ground.guard }],
                                        guard := some (1, false) },
                                      { dst := some 210, op := Op.indexAddr 22 (Operand.tmp 208) (Operand.tmp 209),
                                        type := 0, pos := "laws.go:1906",
                                        after :=
                                          #[{ on := 2, ground := Ground.data }, { on := 3, ground := Ground.data },
                                            { on := 1, ground := Ground.guard }],
                                        guard := some (1, false) },
                                      { dst := some 211, op := Op.load 3 (Operand.tmp 210), type := 3,
                                        pos := "laws.go:1906",
                                        after :=
                                          #[{ on := 4, ground := Ground.data }, { on := 1, ground := Ground.guard }],
                                        guard := some (1, false) },
                                      { dst := some 212, op := Op.move (Operand.tmp 24), type := 3,
                                        pos := "laws.go:1906", after := #[{ on := 1, ground := Ground.guard }],
                                        guard := some (1, false) },
                                      { dst := some 213,
                                        op := Op.binOp BinOp.eql 3 (Operand.tmp 211) (Operand.tmp 212) 3, type := 4,
                                        pos := "laws.go:1906",
                                        after :=
                                          #[{ on := 5, ground := Ground.data }, { on := 6, ground := Ground.data },
                                            { on := 1, ground := Ground.guard }],
                                        guard := some (1, false) },
                                      { dst := some 214,
                                        op :=
                                          Op.pick (Operand.tmp 207) (Operand.const (Value.bool true)) (Operand.tmp 213),
                                        type := 4, pos := "laws.go:1906",
                                        after :=
                                          #[{ on := 1, ground := Ground.data }, { on := 7, ground := Ground.data }],
                                        guard := none },
                                      { dst := some 26, op := Op.assign (Operand.tmp 214), type := 4,
                                        pos := "laws.go:1906",
                                        after :=
                                          #[{ on := 8, ground := Ground.data }, { on := 1, ground := Ground.chain },
                                            { on := 0, ground := Ground.phase }, { on := 1, ground := Ground.phase },
                                            { on := 2, ground := Ground.phase }, { on := 3, ground := Ground.phase },
                                            { on := 4, ground := Ground.phase }, { on := 5, ground := Ground.phase },
                                            { on := 6, ground := Ground.phase }, { on := 7, ground := Ground.phase },
                                            { on := 8, ground := Ground.phase }],
                                        guard := none }]
                                    false)).seq
                              (Code.region 37
                                #[{ dst := some 204, op := Op.move (Operand.tmp 27), type := 3, pos := "laws.go:1905",
                                    after := #[], guard := none },
                                  { dst := some 205,
                                    op :=
                                      Op.binOp BinOp.add 3 (Operand.tmp 204) (Operand.const (Value.int IntKind.i64 1))
                                        3,
                                    type := 3, pos := "laws.go:1905", after := #[{ on := 0, ground := Ground.data }],
                                    guard := none },
                                  { dst := some 27, op := Op.assign (Operand.tmp 205), type := 3, pos := "laws.go:1905",
                                    after :=
                                      #[{ on := 1, ground := Ground.data }, { on := 0, ground := Ground.phase },
                                        { on := 1, ground := Ground.phase }],
                                    guard := none }]
                                false))).loop)).seq
                  ((Code.region 39
                        #[{ dst := some 215, op := Op.move (Operand.tmp 25), type := 3, pos := "laws.go:1908",
                            after := #[], guard := none },
                          { dst := some 216,
                            op := Op.binOp BinOp.eql 3 (Operand.tmp 215) (Operand.const (Value.int IntKind.i64 0)) 3,
                            type := 4, pos := "laws.go:1908", after := #[{ on := 0, ground := Ground.data }],
                            guard := none },
                          { dst := some 217, op := Op.move (Operand.tmp 216), type := 4, pos := "laws.go:1908",
                            after := #[{ on := 1, ground := Ground.data }], guard := none },
                          { dst := some 218, op := Op.move (Operand.tmp 26), type := 4, pos := "laws.go:1908",
                            after := #[{ on := 2, ground := Ground.guard }], guard := some (2, true) },
                          { dst := some 219,
                            op := Op.pick (Operand.tmp 217) (Operand.tmp 218) (Operand.const (Value.bool false)),
                            type := 4, pos := "laws.go:1908",
                            after := #[{ on := 2, ground := Ground.data }, { on := 3, ground := Ground.data }],
                            guard := none },
                          { dst := some 4, op := Op.assign (Operand.tmp 219), type := 4, pos := "laws.go:1908",
                            after :=
                              #[{ on := 4, ground := Ground.data }, { on := 2, ground := Ground.chain },
                                { on := 0, ground := Ground.phase }, { on := 1, ground := Ground.phase },
                                { on := 2, ground := Ground.phase }, { on := 3, ground := Ground.phase },
                                { on := 4, ground := Ground.phase }],
                            guard := none }]
                        false).seq
                    Code.ret))))))
        Q_ a wq_ →
      Kz0_ a wq_)
  (Kz1_ : Act → World → Prop)
  (az1_ : ∀ (a : Act) (wq_ : World),
    Code.wp Try.prog
        (Code.cond (Operand.tmp 116)
          ((Code.region 15
                #[{ dst := some 4, op := Op.assign (Operand.const (Value.bool false)), type := 4, pos := "laws.go:1882",
                    after := #[], guard := none }]
                false).seq
            Code.ret)
          Code.skip)
        (Exit.then Kz0_ Q_) a wq_ →
      Kz1_ a wq_)
  (wc : World)
  (u7 u28 u29 u30 u31 u32 u33 u34 u35 u36 u37 u38 u39 u40 u41 u42 u43 u44 u45 u46 u47 u48 u49 u50 u51 u52 u53 u54 u55 u56 u57 u58 u59 u60 u61 u62 u63 u64 u65 u66 u67 u68 u69 u70 u71 u72 u73 u74 u75 u76 u77 u78 u79 u80 u81 u82 u83 u84 u85 u86 u87 u88 u89 u90 u91 u92 u93 u94 u95 u96 u97 u98 u99 u100 u101 u102 u103 u104 u105 u106 u107 u108 u109 u110 u111 u112 u113 u114 u115 u117 u118 u119 u120 u121 u122 u123 u124 u125 u126 u127 u128 u129 u130 u131 u132 u133 u134 u135 u136 u137 u138 u139 u140 u141 u142 u143 u144 u145 u146 u147 u148 u149 u150 u151 u152 u153 u154 u155 u156 u157 u158 u159 u160 u161 u162 u163 u164 u165 u166 u167 u168 u169 u170 u171 u172 u173 u174 u175 u176 u177 u178 u179 u180 u181 u182 u183 u184 u185 u186 u187 u188 u189 u190 u191 u192 u193 u194 u195 u196 u197 u198 u199 u200 u201 u202 u203 u204 u205 u206 u207 u208 u209 u210 u211 u212 u213 u214 u215 u216 u217 u218 u219 : Value)
  (kq : Nat)
  (x116_18 : Bool)
  (HA : Aside0 (j1 kq l1 t268 t269 t319 x116_18 t280 t281 t282 t283 t313 t314 t315 t316 = some r))
  (HJ18 : Aside0 (kq ≤ kj2))
  (HO_5 : Aside0
    ((Kd.int IntKind.i64).R 3 wc w.heap.size
      (fun k_ =>
        some k_ ≠ (Value.slice Ao25 t275.length co25).ownBlock ∧
          some k_ ≠ (Value.slice Ao30 t283.length co30).ownBlock ∧
            some k_ ≠ (Value.slice Ao38 t296.length co38).ownBlock ∧
              some k_ ≠ (Value.slice Ao47 t308.length co47).ownBlock ∧
                some k_ ≠ (Value.slice Ao56 t316.length co56).ownBlock)
      (Value.slice Ao21 t268.length co21) t268))
  (HO_280003 : Aside0
    ((Kd.int IntKind.i64).R 3 wc w.heap.size
      (fun k_ =>
        some k_ ≠ (Value.slice Ao21 t268.length co21).ownBlock ∧
          some k_ ≠ (Value.slice Ao30 t283.length co30).ownBlock ∧
            some k_ ≠ (Value.slice Ao38 t296.length co38).ownBlock ∧
              some k_ ≠ (Value.slice Ao47 t308.length co47).ownBlock ∧
                some k_ ≠ (Value.slice Ao56 t316.length co56).ownBlock)
      (Value.slice Ao25 t275.length co25) t275))
  (HO_288003 : Aside0
    ((Kd.int IntKind.i64).R 3 wc w.heap.size
      (fun k_ =>
        some k_ ≠ (Value.slice Ao21 t268.length co21).ownBlock ∧
          some k_ ≠ (Value.slice Ao25 t275.length co25).ownBlock ∧
            some k_ ≠ (Value.slice Ao38 t296.length co38).ownBlock ∧
              some k_ ≠ (Value.slice Ao47 t308.length co47).ownBlock ∧
                some k_ ≠ (Value.slice Ao56 t316.length co56).ownBlock)
      (Value.slice Ao30 t283.length co30) t283))
  (HO_301003 : Aside0
    ((Kd.int IntKind.i64).R 3 wc w.heap.size
      (fun k_ =>
        some k_ ≠ (Value.slice Ao21 t268.length co21).ownBlock ∧
          some k_ ≠ (Value.slice Ao25 t275.length co25).ownBlock ∧
            some k_ ≠ (Value.slice Ao30 t283.length co30).ownBlock ∧
              some k_ ≠ (Value.slice Ao47 t308.length co47).ownBlock ∧
                some k_ ≠ (Value.slice Ao56 t316.length co56).ownBlock)
      (Value.slice Ao38 t296.length co38) t296))
  (HO_313003 : Aside0
    ((Kd.int IntKind.i64).R 3 wc w.heap.size
      (fun k_ =>
        some k_ ≠ (Value.slice Ao21 t268.length co21).ownBlock ∧
          some k_ ≠ (Value.slice Ao25 t275.length co25).ownBlock ∧
            some k_ ≠ (Value.slice Ao30 t283.length co30).ownBlock ∧
              some k_ ≠ (Value.slice Ao38 t296.length co38).ownBlock ∧
                some k_ ≠ (Value.slice Ao56 t316.length co56).ownBlock)
      (Value.slice Ao47 t308.length co47) t308))
  (HO_321003 : Aside0
    ((Kd.int IntKind.i64).R 3 wc w.heap.size
      (fun k_ =>
        some k_ ≠ (Value.slice Ao21 t268.length co21).ownBlock ∧
          some k_ ≠ (Value.slice Ao25 t275.length co25).ownBlock ∧
            some k_ ≠ (Value.slice Ao30 t283.length co30).ownBlock ∧
              some k_ ≠ (Value.slice Ao38 t296.length co38).ownBlock ∧
                some k_ ≠ (Value.slice Ao47 t308.length co47).ownBlock)
      (Value.slice Ao56 t316.length co56) t316))
  (BK279 : Aside0
    (wc.heap[gb279]? =
      some
        (Obj.cells
          #[Value.int IntKind.i64 t272, Value.int IntKind.i64 t273, Value.int IntKind.i64 t274,
            Value.slice Ao25 t275.length co25]
          37)))
  (BK287 : Aside0
    (wc.heap[gb287]? =
      some
        (Obj.cells
          #[Value.int IntKind.i64 t280, Value.int IntKind.i64 t281, Value.int IntKind.i64 t282,
            Value.slice Ao30 t283.length co30]
          37)))
  (BK300 : Aside0
    (wc.heap[gb300]? =
      some
        (Obj.cells
          #[Value.int IntKind.i64 t293, Value.int IntKind.i64 t294, Value.int IntKind.i64 t295,
            Value.slice Ao38 t296.length co38]
          37)))
  (BK312 : Aside0
    (wc.heap[gb312]? =
      some
        (Obj.cells
          #[Value.int IntKind.i64 t305, Value.int IntKind.i64 t306, Value.int IntKind.i64 t307,
            Value.slice Ao47 t308.length co47]
          37)))
  (BK320 : Aside0
    (wc.heap[gb320]? =
      some
        (Obj.cells
          #[Value.int IntKind.i64 t313, Value.int IntKind.i64 t314, Value.int IntKind.i64 t315,
            Value.slice Ao56 t316.length co56]
          37)))
  (HB : Aside0 (Below w.heap.size w wc))
  (hQ_ : Q_ = (bodyPost Try.prog Try.f7 fun e w' => e = Ending.returned (Value.bool r) ∧ Below w.heap.size w w')) :
  Kz1_
    {
      tmps :=
        #[Value.slice A0 l0.length c0, Value.slice A1 l1.length c1, undef, undef, Value.bool false,
          Value.slice Ao21 t268.length co21, Value.int IntKind.i64 t269, u7, Value.int IntKind.i64 t278,
          Value.pointer (some { block := gb287, off := 0 }), Value.int IntKind.i64 t286, Value.int IntKind.i64 t288,
          Value.pointer (some { block := gb300, off := 0 }), Value.int IntKind.i64 t299,
          Value.pointer (some { block := gb312, off := 0 }), Value.int IntKind.i64 t311,
          Value.pointer (some { block := gb320, off := 0 }), Value.int IntKind.i64 t319, undef, undef, undef, undef,
          undef, undef, undef, undef, undef, undef, u28, u29, u30, u31, u32, u33, u34, u35, u36, u37, u38, u39, u40,
          u41, u42, u43, u44, u45, u46, u47, u48, u49, u50, u51, u52, u53, u54, u55, u56, u57, u58, u59, u60, u61, u62,
          u63, u64, u65, u66, u67, u68, u69, u70, u71, u72, u73, u74, u75, u76, u77, u78, u79, u80, u81, u82, u83, u84,
          u85, u86, u87, u88, u89, u90, u91, u92, u93, u94, u95, u96, u97, u98, u99, u100, u101, u102, u103, u104, u105,
          u106, u107, u108, u109, u110, u111, u112, u113, u114, u115, Value.bool x116_18, u117, u118, u119, u120, u121,
          u122, u123, u124, u125, u126, u127, u128, u129, u130, u131, u132, u133, u134, u135, u136, u137, u138, u139,
          u140, u141, u142, u143, u144, u145, u146, u147, u148, u149, u150, u151, u152, u153, u154, u155, u156, u157,
          u158, u159, u160, u161, u162, u163, u164, u165, u166, u167, u168, u169, u170, u171, u172, u173, u174, u175,
          u176, u177, u178, u179, u180, u181, u182, u183, u184, u185, u186, u187, u188, u189, u190, u191, u192, u193,
          u194, u195, u196, u197, u198, u199, u200, u201, u202, u203, u204, u205, u206, u207, u208, u209, u210, u211,
          u212, u213, u214, u215, u216, u217, u218, u219],
      defers := [] }
    wc := by
 subst hQ_
 cases kq with
 | zero => exact absurd HA.out (by simp [laws_FnDigest.j1])
 | succ kj18 =>
  have H := HA.out
  clear HA
  simp only [laws_FnDigest.j1] at H
  by_cases c110 : x116_18 = true
  ·
   subst c110
   have H1 : (some false) = some r := by rw [if_pos rfl] at H; exact H
   clear H
   have H := H1
   clear H1
   obtain rfl := Option.some.inj H
   go_wp2
   go_ret
   exact ⟨zre, zg HB⟩
  ·
   replace c110 := Bool.eq_false_iff.mpr c110
   subst c110
   have H1 : (laws_FnDigest.l0 kj18 l1 t268 t269 t319 (-25) t280 t281 t282 t283 t313 t314 t315 t316) = some r := by rw [if_neg (show ¬ (false = true) by decide)] at H; exact H
   clear H
   have H := H1
   clear H1
   have H' := Aside0.mk H
   clear H
   go_wp2
   go_loopg [18] kj18 (fun kq v18 w' => ∃ (x18_3 : Int), v18 = .int .i64 x18_3 ∧ Aside0 (laws_FnDigest.l0 kq l1 t268 t269 t319 x18_3 t280 t281 t282 t283 t313 t314 t315 t316 = some r) ∧ Aside0 (kq ≤ kj18) ∧ Aside0 (Kd.R (Kd.int .i64) 3 w' w.heap.size (fun k_ => some k_ ≠ ((.slice Ao25 t275.length co25) : Value).ownBlock ∧ some k_ ≠ ((.slice Ao30 t283.length co30) : Value).ownBlock ∧ some k_ ≠ ((.slice Ao38 t296.length co38) : Value).ownBlock ∧ some k_ ≠ ((.slice Ao47 t308.length co47) : Value).ownBlock ∧ some k_ ≠ ((.slice Ao56 t316.length co56) : Value).ownBlock) (.slice Ao21 t268.length co21) t268) ∧ Aside0 (Kd.R (Kd.int .i64) 3 w' w.heap.size (fun k_ => some k_ ≠ ((.slice Ao21 t268.length co21) : Value).ownBlock ∧ some k_ ≠ ((.slice Ao30 t283.length co30) : Value).ownBlock ∧ some k_ ≠ ((.slice Ao38 t296.length co38) : Value).ownBlock ∧ some k_ ≠ ((.slice Ao47 t308.length co47) : Value).ownBlock ∧ some k_ ≠ ((.slice Ao56 t316.length co56) : Value).ownBlock) (.slice Ao25 t275.length co25) t275) ∧ Aside0 (Kd.R (Kd.int .i64) 3 w' w.heap.size (fun k_ => some k_ ≠ ((.slice Ao21 t268.length co21) : Value).ownBlock ∧ some k_ ≠ ((.slice Ao25 t275.length co25) : Value).ownBlock ∧ some k_ ≠ ((.slice Ao38 t296.length co38) : Value).ownBlock ∧ some k_ ≠ ((.slice Ao47 t308.length co47) : Value).ownBlock ∧ some k_ ≠ ((.slice Ao56 t316.length co56) : Value).ownBlock) (.slice Ao30 t283.length co30) t283) ∧ Aside0 (Kd.R (Kd.int .i64) 3 w' w.heap.size (fun k_ => some k_ ≠ ((.slice Ao21 t268.length co21) : Value).ownBlock ∧ some k_ ≠ ((.slice Ao25 t275.length co25) : Value).ownBlock ∧ some k_ ≠ ((.slice Ao30 t283.length co30) : Value).ownBlock ∧ some k_ ≠ ((.slice Ao47 t308.length co47) : Value).ownBlock ∧ some k_ ≠ ((.slice Ao56 t316.length co56) : Value).ownBlock) (.slice Ao38 t296.length co38) t296) ∧ Aside0 (Kd.R (Kd.int .i64) 3 w' w.heap.size (fun k_ => some k_ ≠ ((.slice Ao21 t268.length co21) : Value).ownBlock ∧ some k_ ≠ ((.slice Ao25 t275.length co25) : Value).ownBlock ∧ some k_ ≠ ((.slice Ao30 t283.length co30) : Value).ownBlock ∧ some k_ ≠ ((.slice Ao38 t296.length co38) : Value).ownBlock ∧ some k_ ≠ ((.slice Ao56 t316.length co56) : Value).ownBlock) (.slice Ao47 t308.length co47) t308) ∧ Aside0 (Kd.R (Kd.int .i64) 3 w' w.heap.size (fun k_ => some k_ ≠ ((.slice Ao21 t268.length co21) : Value).ownBlock ∧ some k_ ≠ ((.slice Ao25 t275.length co25) : Value).ownBlock ∧ some k_ ≠ ((.slice Ao30 t283.length co30) : Value).ownBlock ∧ some k_ ≠ ((.slice Ao38 t296.length co38) : Value).ownBlock ∧ some k_ ≠ ((.slice Ao47 t308.length co47) : Value).ownBlock) (.slice Ao56 t316.length co56) t316) ∧ Aside0 (w'.heap[gb279]? = some (.cells #[.int .i64 t272, .int .i64 t273, .int .i64 t274, (.slice Ao25 t275.length co25)] 37 (0, 0))) ∧ Aside0 (w'.heap[gb287]? = some (.cells #[.int .i64 t280, .int .i64 t281, .int .i64 t282, (.slice Ao30 t283.length co30)] 37 (0, 0))) ∧ Aside0 (w'.heap[gb300]? = some (.cells #[.int .i64 t293, .int .i64 t294, .int .i64 t295, (.slice Ao38 t296.length co38)] 37 (0, 0))) ∧ Aside0 (w'.heap[gb312]? = some (.cells #[.int .i64 t305, .int .i64 t306, .int .i64 t307, (.slice Ao47 t308.length co47)] 37 (0, 0))) ∧ Aside0 (w'.heap[gb320]? = some (.cells #[.int .i64 t313, .int .i64 t314, .int .i64 t315, (.slice Ao56 t316.length co56)] 37 (0, 0))) ∧ Aside0 (Below w.heap.size w w'))
   case atStart => exact ⟨((-25)), (by first | rfl | (simp; done) | (simp [*]; done)), H', ⟨Nat.le_refl _⟩, ⟨zr HO_5⟩, ⟨zr HO_280003⟩, ⟨zr HO_288003⟩, ⟨zr HO_301003⟩, ⟨zr HO_313003⟩, ⟨zr HO_321003⟩, ⟨zb BK279⟩, ⟨zb BK287⟩, ⟨zb BK300⟩, ⟨zb BK312⟩, ⟨zb BK320⟩, ⟨zg HB⟩⟩
   case round =>
    clear H'
    try clear c1
    try clear c2
    try clear p2
    try clear c3
    try clear q3
    try clear c4
    try clear c4b0
    try clear c4b1
    try clear q4
    try clear c5
    try clear c6
    try clear p6
    try clear c7
    try clear c8
    try clear c9
    try clear c9b0
    try clear c9b1
    try clear c10
    try clear c10b0
    try clear c10b1
    try clear c11
    try clear c12
    try clear c12b0
    try clear c12b1
    try clear c13
    try clear c13b0
    try clear c13b1
    try clear c15
    try clear c15b0
    try clear c16
    try clear c16b0
    try clear c18
    try clear c20
    try clear c28
    try clear c29
    try clear c30
    try clear c31
    try clear q32
    try clear c35
    try clear c36
    try clear c40
    try clear q40
    try clear c43
    try clear c44
    try clear c45
    try clear c51
    try clear c52
    try clear c53
    try clear c54
    try clear c57
    try clear c57b0
    try clear c57b1
    try clear c58
    try clear c58b0
    try clear c58b1
    try clear c59
    try clear c59b0
    try clear c59b1
    try clear c60
    try clear c60b0
    try clear c60b1
    try clear c62
    try clear c63
    try clear c64
    try clear p64
    try clear c65
    try clear c68
    try clear c69
    try clear c70
    try clear c71
    try clear c73
    try clear c73b0
    try clear c74
    try clear c75
    try clear c76
    try clear c77
    try clear c79
    try clear c80
    try clear c81
    try clear c83
    try clear c83b0
    try clear c83b1
    try clear c85
    try clear c86
    try clear c87
    try clear c88
    try clear c90
    try clear c91
    try clear c92
    try clear c94
    try clear c95
    try clear c98
    try clear c99
    try clear c100
    try clear c101
    try clear c103
    try clear c104
    try clear c105
    try clear c107
    try clear c108
    try clear c110
    try clear hcz102_0
    try clear hcz102_1
    try clear hcz102_2
    try clear hcz102_3
    try clear hcz106_0
    try clear hcz106_1
    try clear hcz106_2
    try clear hcz106_3
    try clear hcz109_0
    try clear hcz109_1
    try clear hcz109_2
    try clear hcz109_3
    try clear hcz24_0
    try clear hcz24_1
    try clear hcz24_2
    try clear hcz24_3
    try clear hcz29_0
    try clear hcz29_1
    try clear hcz29_2
    try clear hcz29_3
    try clear hcz37_0
    try clear hcz37_1
    try clear hcz37_2
    try clear hcz37_3
    try clear hcz46_0
    try clear hcz46_1
    try clear hcz46_2
    try clear hcz46_3
    try clear hcz48_0
    try clear hcz48_1
    try clear hcz48_2
    try clear hcz48_3
    try clear hcz55_0
    try clear hcz55_1
    try clear hcz55_2
    try clear hcz55_3
    try clear hcz66_0
    try clear hcz66_1
    try clear hcz66_2
    try clear hcz66_3
    try clear hcz72_0
    try clear hcz72_1
    try clear hcz72_2
    try clear hcz72_3
    try clear hcz78_0
    try clear hcz78_1
    try clear hcz78_2
    try clear hcz78_3
    try clear hcz82_0
    try clear hcz82_1
    try clear hcz82_2
    try clear hcz82_3
    try clear hcz89_0
    try clear hcz89_1
    try clear hcz89_2
    try clear hcz89_3
    try clear hcz93_0
    try clear hcz93_1
    try clear hcz93_2
    try clear hcz93_3
    try clear hcz96_0
    try clear hcz96_1
    try clear hcz96_2
    try clear hcz96_3
    try clear hfz102_0
    try clear hfz102_1
    try clear hfz102_2
    try clear hfz102_3
    try clear hfz106_0
    try clear hfz106_1
    try clear hfz106_2
    try clear hfz106_3
    try clear hfz109_0
    try clear hfz109_1
    try clear hfz109_2
    try clear hfz109_3
    try clear hfz24_0
    try clear hfz24_1
    try clear hfz24_2
    try clear hfz24_3
    try clear hfz29_0
    try clear hfz29_1
    try clear hfz29_2
    try clear hfz29_3
    try clear hfz37_0
    try clear hfz37_1
    try clear hfz37_2
    try clear hfz37_3
    try clear hfz46_0
    try clear hfz46_1
    try clear hfz46_2
    try clear hfz46_3
    try clear hfz48_0
    try clear hfz48_1
    try clear hfz48_2
    try clear hfz48_3
    try clear hfz55_0
    try clear hfz55_1
    try clear hfz55_2
    try clear hfz55_3
    try clear hfz66_0
    try clear hfz66_1
    try clear hfz66_2
    try clear hfz66_3
    try clear hfz72_0
    try clear hfz72_1
    try clear hfz72_2
    try clear hfz72_3
    try clear hfz78_0
    try clear hfz78_1
    try clear hfz78_2
    try clear hfz78_3
    try clear hfz82_0
    try clear hfz82_1
    try clear hfz82_2
    try clear hfz82_3
    try clear hfz89_0
    try clear hfz89_1
    try clear hfz89_2
    try clear hfz89_3
    try clear hfz93_0
    try clear hfz93_1
    try clear hfz93_2
    try clear hfz93_3
    try clear hfz96_0
    try clear hfz96_1
    try clear hfz96_2
    try clear hfz96_3
    try clear p2
    try clear p6
    try clear p64
    try clear q040
    try clear q3
    try clear q32
    try clear q4
    try clear q40
    obtain ⟨x18_3, rfl, HA, HK3, HO_5, HO_280003, HO_288003, HO_301003, HO_313003, HO_321003, BK279, BK287, BK300, BK312, BK320, HB⟩ := hrel
    cases gk with
    | zero => exact absurd HA.out (by simp [laws_FnDigest.l0])
    | succ k3 =>
     have H := HA.out
     clear HA
     simp only [laws_FnDigest.l0] at H
     by_cases c111 : x18_3 ≤ 45
     ·
      rw [if_pos c111] at H
      have c111b0 : decide (x18_3 ≤ 45) = true := decide_eq_true c111
      clear c111
      have H' := Aside0.mk H
      clear H
      go_wp2
      go_loopg [19, 20] k3 (fun kq v19 v20 w' => ∃ (x19_4 : Int) (x20_4 : Int), v19 = .int .i64 x19_4 ∧ v20 = .int .i64 x20_4 ∧ Aside0 (laws_FnDigest.l1 kq l1 t268 t269 t319 x18_3 x19_4 x20_4 t280 t281 t282 t283 t313 t314 t315 t316 = some r) ∧ Aside0 (kq ≤ k3) ∧ Aside0 (Kd.R (Kd.int .i64) 3 w' w.heap.size (fun k_ => some k_ ≠ ((.slice Ao25 t275.length co25) : Value).ownBlock ∧ some k_ ≠ ((.slice Ao30 t283.length co30) : Value).ownBlock ∧ some k_ ≠ ((.slice Ao38 t296.length co38) : Value).ownBlock ∧ some k_ ≠ ((.slice Ao47 t308.length co47) : Value).ownBlock ∧ some k_ ≠ ((.slice Ao56 t316.length co56) : Value).ownBlock) (.slice Ao21 t268.length co21) t268) ∧ Aside0 (Kd.R (Kd.int .i64) 3 w' w.heap.size (fun k_ => some k_ ≠ ((.slice Ao21 t268.length co21) : Value).ownBlock ∧ some k_ ≠ ((.slice Ao30 t283.length co30) : Value).ownBlock ∧ some k_ ≠ ((.slice Ao38 t296.length co38) : Value).ownBlock ∧ some k_ ≠ ((.slice Ao47 t308.length co47) : Value).ownBlock ∧ some k_ ≠ ((.slice Ao56 t316.length co56) : Value).ownBlock) (.slice Ao25 t275.length co25) t275) ∧ Aside0 (Kd.R (Kd.int .i64) 3 w' w.heap.size (fun k_ => some k_ ≠ ((.slice Ao21 t268.length co21) : Value).ownBlock ∧ some k_ ≠ ((.slice Ao25 t275.length co25) : Value).ownBlock ∧ some k_ ≠ ((.slice Ao38 t296.length co38) : Value).ownBlock ∧ some k_ ≠ ((.slice Ao47 t308.length co47) : Value).ownBlock ∧ some k_ ≠ ((.slice Ao56 t316.length co56) : Value).ownBlock) (.slice Ao30 t283.length co30) t283) ∧ Aside0 (Kd.R (Kd.int .i64) 3 w' w.heap.size (fun k_ => some k_ ≠ ((.slice Ao21 t268.length co21) : Value).ownBlock ∧ some k_ ≠ ((.slice Ao25 t275.length co25) : Value).ownBlock ∧ some k_ ≠ ((.slice Ao30 t283.length co30) : Value).ownBlock ∧ some k_ ≠ ((.slice Ao47 t308.length co47) : Value).ownBlock ∧ some k_ ≠ ((.slice Ao56 t316.length co56) : Value).ownBlock) (.slice Ao38 t296.length co38) t296) ∧ Aside0 (Kd.R (Kd.int .i64) 3 w' w.heap.size (fun k_ => some k_ ≠ ((.slice Ao21 t268.length co21) : Value).ownBlock ∧ some k_ ≠ ((.slice Ao25 t275.length co25) : Value).ownBlock ∧ some k_ ≠ ((.slice Ao30 t283.length co30) : Value).ownBlock ∧ some k_ ≠ ((.slice Ao38 t296.length co38) : Value).ownBlock ∧ some k_ ≠ ((.slice Ao56 t316.length co56) : Value).ownBlock) (.slice Ao47 t308.length co47) t308) ∧ Aside0 (Kd.R (Kd.int .i64) 3 w' w.heap.size (fun k_ => some k_ ≠ ((.slice Ao21 t268.length co21) : Value).ownBlock ∧ some k_ ≠ ((.slice Ao25 t275.length co25) : Value).ownBlock ∧ some k_ ≠ ((.slice Ao30 t283.length co30) : Value).ownBlock ∧ some k_ ≠ ((.slice Ao38 t296.length co38) : Value).ownBlock ∧ some k_ ≠ ((.slice Ao47 t308.length co47) : Value).ownBlock) (.slice Ao56 t316.length co56) t316) ∧ Aside0 (w'.heap[gb279]? = some (.cells #[.int .i64 t272, .int .i64 t273, .int .i64 t274, (.slice Ao25 t275.length co25)] 37 (0, 0))) ∧ Aside0 (w'.heap[gb287]? = some (.cells #[.int .i64 t280, .int .i64 t281, .int .i64 t282, (.slice Ao30 t283.length co30)] 37 (0, 0))) ∧ Aside0 (w'.heap[gb300]? = some (.cells #[.int .i64 t293, .int .i64 t294, .int .i64 t295, (.slice Ao38 t296.length co38)] 37 (0, 0))) ∧ Aside0 (w'.heap[gb312]? = some (.cells #[.int .i64 t305, .int .i64 t306, .int .i64 t307, (.slice Ao47 t308.length co47)] 37 (0, 0))) ∧ Aside0 (w'.heap[gb320]? = some (.cells #[.int .i64 t313, .int .i64 t314, .int .i64 t315, (.slice Ao56 t316.length co56)] 37 (0, 0))) ∧ Aside0 (Below w.heap.size w w'))
      case atStart => exact ⟨(0), (0), (by first | rfl | (simp; done) | (simp [*]; done)), (by first | rfl | (simp; done) | (simp [*]; done)), H', ⟨Nat.le_refl _⟩, ⟨zr HO_5⟩, ⟨zr HO_280003⟩, ⟨zr HO_288003⟩, ⟨zr HO_301003⟩, ⟨zr HO_313003⟩, ⟨zr HO_321003⟩, ⟨zb BK279⟩, ⟨zb BK287⟩, ⟨zb BK300⟩, ⟨zb BK312⟩, ⟨zb BK320⟩, ⟨zg HB⟩⟩
      case round =>
       clear H'
       try clear c1
       try clear c2
       try clear p2
       try clear c3
       try clear q3
       try clear c4
       try clear c4b0
       try clear c4b1
       try clear q4
       try clear c5
       try clear c6
       try clear p6
       try clear c7
       try clear c8
       try clear c9
       try clear c9b0
       try clear c9b1
       try clear c10
       try clear c10b0
       try clear c10b1
       try clear c11
       try clear c12
       try clear c12b0
       try clear c12b1
       try clear c13
       try clear c13b0
       try clear c13b1
       try clear c15
       try clear c15b0
       try clear c16
       try clear c16b0
       try clear c18
       try clear c20
       try clear c28
       try clear c29
       try clear c30
       try clear c31
       try clear q32
       try clear c35
       try clear c36
       try clear c40
       try clear q40
       try clear c43
       try clear c44
       try clear c45
       try clear c51
       try clear c52
       try clear c53
       try clear c54
       try clear c57
       try clear c57b0
       try clear c57b1
       try clear c58
       try clear c58b0
       try clear c58b1
       try clear c59
       try clear c59b0
       try clear c59b1
       try clear c60
       try clear c60b0
       try clear c60b1
       try clear c62
       try clear c63
       try clear c64
       try clear p64
       try clear c65
       try clear c68
       try clear c69
       try clear c70
       try clear c71
       try clear c73
       try clear c73b0
       try clear c74
       try clear c75
       try clear c76
       try clear c77
       try clear c79
       try clear c80
       try clear c81
       try clear c83
       try clear c83b0
       try clear c83b1
       try clear c85
       try clear c86
       try clear c87
       try clear c88
       try clear c90
       try clear c91
       try clear c92
       try clear c94
       try clear c95
       try clear c98
       try clear c99
       try clear c100
       try clear c101
       try clear c103
       try clear c104
       try clear c105
       try clear c107
       try clear c108
       try clear c110
       try clear c111
       try clear c111b0
       try clear hcz102_0
       try clear hcz102_1
       try clear hcz102_2
       try clear hcz102_3
       try clear hcz106_0
       try clear hcz106_1
       try clear hcz106_2
       try clear hcz106_3
       try clear hcz109_0
       try clear hcz109_1
       try clear hcz109_2
       try clear hcz109_3
       try clear hcz24_0
       try clear hcz24_1
       try clear hcz24_2
       try clear hcz24_3
       try clear hcz29_0
       try clear hcz29_1
       try clear hcz29_2
       try clear hcz29_3
       try clear hcz37_0
       try clear hcz37_1
       try clear hcz37_2
       try clear hcz37_3
       try clear hcz46_0
       try clear hcz46_1
       try clear hcz46_2
       try clear hcz46_3
       try clear hcz48_0
       try clear hcz48_1
       try clear hcz48_2
       try clear hcz48_3
       try clear hcz55_0
       try clear hcz55_1
       try clear hcz55_2
       try clear hcz55_3
       try clear hcz66_0
       try clear hcz66_1
       try clear hcz66_2
       try clear hcz66_3
       try clear hcz72_0
       try clear hcz72_1
       try clear hcz72_2
       try clear hcz72_3
       try clear hcz78_0
       try clear hcz78_1
       try clear hcz78_2
       try clear hcz78_3
       try clear hcz82_0
       try clear hcz82_1
       try clear hcz82_2
       try clear hcz82_3
       try clear hcz89_0
       try clear hcz89_1
       try clear hcz89_2
       try clear hcz89_3
       try clear hcz93_0
       try clear hcz93_1
       try clear hcz93_2
       try clear hcz93_3
       try clear hcz96_0
       try clear hcz96_1
       try clear hcz96_2
       try clear hcz96_3
       try clear hfz102_0
       try clear hfz102_1
       try clear hfz102_2
       try clear hfz102_3
       try clear hfz106_0
       try clear hfz106_1
       try clear hfz106_2
       try clear hfz106_3
       try clear hfz109_0
       try clear hfz109_1
       try clear hfz109_2
       try clear hfz109_3
       try clear hfz24_0
       try clear hfz24_1
       try clear hfz24_2
       try clear hfz24_3
       try clear hfz29_0
       try clear hfz29_1
       try clear hfz29_2
       try clear hfz29_3
       try clear hfz37_0
       try clear hfz37_1
       try clear hfz37_2
       try clear hfz37_3
       try clear hfz46_0
       try clear hfz46_1
       try clear hfz46_2
       try clear hfz46_3
       try clear hfz48_0
       try clear hfz48_1
       try clear hfz48_2
       try clear hfz48_3
       try clear hfz55_0
       try clear hfz55_1
       try clear hfz55_2
       try clear hfz55_3
       try clear hfz66_0
       try clear hfz66_1
       try clear hfz66_2
       try clear hfz66_3
       try clear hfz72_0
       try clear hfz72_1
       try clear hfz72_2
       try clear hfz72_3
       try clear hfz78_0
       try clear hfz78_1
       try clear hfz78_2
       try clear hfz78_3
       try clear hfz82_0
       try clear hfz82_1
       try clear hfz82_2
       try clear hfz82_3
       try clear hfz89_0
       try clear hfz89_1
       try clear hfz89_2
       try clear hfz89_3
       try clear hfz93_0
       try clear hfz93_1
       try clear hfz93_2
       try clear hfz93_3
       try clear hfz96_0
       try clear hfz96_1
       try clear hfz96_2
       try clear hfz96_3
       try clear p2
       try clear p6
       try clear p64
       try clear q040
       try clear q3
       try clear q32
       try clear q4
       try clear q40
       obtain ⟨x19_4, x20_4, rfl, rfl, HA, HK4, HO_5, HO_280003, HO_288003, HO_301003, HO_313003, HO_321003, BK279, BK287, BK300, BK312, BK320, HB⟩ := hrel
       cases gk with
       | zero => exact absurd HA.out (by simp [laws_FnDigest.l1])
       | succ k4 =>
        have H := HA.out
        clear HA
        simp only [laws_FnDigest.l1] at H
        by_cases c112 : x20_4 < (t268.length : Int)
        ·
         rw [if_pos c112] at H
         have c112b0 : decide (x20_4 < (t268.length : Int)) = true := decide_eq_true c112
         clear c112
         by_cases c113 : 0 ≤ x20_4
         ·
          rw [if_pos c113] at H
          have c113b0 : decide (0 ≤ x20_4) = true := decide_eq_true c113
          clear c113
          by_cases c114 : (rd t268 x20_4) ≤ x18_3
          ·
           rw [if_pos c114] at H
           have c114b0 : decide ((rd t268 x20_4) ≤ x18_3) = true := decide_eq_true c114
           clear c114
           have H' := Aside0.mk H
           clear H
           have p323 : 0 ≤ (x20_4 : Int) := of_decide_eq_true zas
           have q323 : x20_4 < (t268.length : Int) := of_decide_eq_true zas
           obtain ⟨ad323, e323, hx323_0⟩ := Kd.at_int (Kd.R_reads' HO_5.out).2.2 x20_4 p323 q323
           cases e323
           replace p323 := eq_true p323
           replace q323 := eq_true q323
           go_wp2
           go_roundg k4
           case measure => have := HJ2.out; have := HJ18.out; have := HK3.out; have := HK4.out; omega
           case rel => exact ⟨(wrap64 (x19_4 + 1)), (wrap64 (x20_4 + 1)), (by first | rfl | (simp; done) | (simp [*]; done)), (by first | rfl | (simp; done) | (simp [*]; done)), H', ⟨by have := HJ2.out; have := HJ18.out; have := HK3.out; have := HK4.out; omega⟩, ⟨zr HO_5⟩, ⟨zr HO_280003⟩, ⟨zr HO_288003⟩, ⟨zr HO_301003⟩, ⟨zr HO_313003⟩, ⟨zr HO_321003⟩, ⟨zb BK279⟩, ⟨zb BK287⟩, ⟨zb BK300⟩, ⟨zb BK312⟩, ⟨zb BK320⟩, ⟨zg HB⟩⟩
          ·
           rw [if_neg c114] at H
           have c114b0 : decide ((rd t268 x20_4) ≤ x18_3) = false := decide_eq_false c114
           clear c114
           have H' := Aside0.mk H
           clear H
           have p323 : 0 ≤ (x20_4 : Int) := of_decide_eq_true zas
           have q323 : x20_4 < (t268.length : Int) := of_decide_eq_true zas
           obtain ⟨ad323, e323, hx323_0⟩ := Kd.at_int (Kd.R_reads' HO_5.out).2.2 x20_4 p323 q323
           cases e323
           replace p323 := eq_true p323
           replace q323 := eq_true q323
           go_wp2
           go_roundg k4
           case measure => have := HJ2.out; have := HJ18.out; have := HK3.out; have := HK4.out; omega
           case rel => exact ⟨(x19_4), (wrap64 (x20_4 + 1)), (by first | rfl | (simp; done) | (simp [*]; done)), (by first | rfl | (simp; done) | (simp [*]; done)), H', ⟨by have := HJ2.out; have := HJ18.out; have := HK3.out; have := HK4.out; omega⟩, ⟨zr HO_5⟩, ⟨zr HO_280003⟩, ⟨zr HO_288003⟩, ⟨zr HO_301003⟩, ⟨zr HO_313003⟩, ⟨zr HO_321003⟩, ⟨zb BK279⟩, ⟨zb BK287⟩, ⟨zb BK300⟩, ⟨zb BK312⟩, ⟨zb BK320⟩, ⟨zg HB⟩⟩
         ·
          rw [if_neg c113] at H
          exact absurd H (by simp)
        ·
         rw [if_neg c112] at H
         have c112b0 : decide (x20_4 < (t268.length : Int)) = false := decide_eq_false c112
         clear c112
         replace H := Option.bind_eq_some_iff.mp H
         obtain ⟨⟨t324, t325, t326⟩, A1150, H⟩ := H
         replace H : (if t326 = 0 then (if x19_4 < t324 then (laws_FnDigest.j4 k4 l1 t268 t269 t319 x18_3 x19_4 true t280 t281 t282 t283 t313 t314 t315 t316) else (if x19_4 > t325 then (laws_FnDigest.j4 k4 l1 t268 t269 t319 x18_3 x19_4 true t280 t281 t282 t283 t313 t314 t315 t316) else (if (wrap64 (t325 - t324)) ≥ t269 then (laws_FnDigest.j4 k4 l1 t268 t269 t319 x18_3 x19_4 (decide (t325 > 0)) t280 t281 t282 t283 t313 t314 t315 t316) else (laws_FnDigest.j4 k4 l1 t268 t269 t319 x18_3 x19_4 false t280 t281 t282 t283 t313 t314 t315 t316)))) else (laws_FnDigest.j4 k4 l1 t268 t269 t319 x18_3 x19_4 true t280 t281 t282 t283 t313 t314 t315 t316)) = some r := H
         have A115 := Aside0.mk A1150
         clear A1150
         have HC116 := Aside0.mk H
         clear H
         have hnb117 := NB287_279.out
         have hnc117 := NB279_287.out
         have hnb118 := NB287_300.out
         have hnc118 := NB300_287.out
         have hnb119 := NB287_312.out
         have hnc119 := NB312_287.out
         have hnb120 := NB287_320.out
         have hnc120 := NB320_287.out
         have hcz121_0 : wr.cell? ⟨gb287, 0, none⟩ = some (.int .i64 t280) := (blk_cell BK287.out 0).trans rfl
         have hcz121_1 : wr.cell? ⟨gb287, 1, none⟩ = some (.int .i64 t281) := (blk_cell BK287.out 1).trans rfl
         have hcz121_2 : wr.cell? ⟨gb287, 2, none⟩ = some (.int .i64 t282) := (blk_cell BK287.out 2).trans rfl
         have hcz121_3 : wr.cell? ⟨gb287, 3, none⟩ = some (.slice Ao30 t283.length co30) := (blk_cell BK287.out 3).trans rfl
         have hfz121_0 := blk_frozen BK287.out 0
         have hfz121_1 := blk_frozen BK287.out 1
         have hfz121_2 := blk_frozen BK287.out 2
         have hfz121_3 := blk_frozen BK287.out 3
         go_upto_region 26 with (first | ((with_reducible refine gate_callee (f := 33) rfl ?_); refine goesL_ (some 138) rfl rfl Try.func33 (by kernel_rfl) rfl #[.agg #[.int .i64 t280, .int .i64 t281, .int .i64 t282, .slice Ao30 t283.length co30], .int .i64 x18_3] rfl zar ?_; (with_reducible refine (impl_DigestRank.calls k4 t280 t281 t282 _ _ t283 x18_3 t324 t325 t326 _ ?side1 ?side2 A115.out).mono ?_); (case side1 => repeat (first | exact (Kd.R_reads' HO_288003.out).2.2 | (with_reducible refine Kd.C_alloc ?_ _) | (with_reducible refine Kd.C_drewN ?_ _) | (with_reducible refine Kd.C_drew ?_))); (case side2 => exact (Kd.R_reads' HO_288003.out).2.1); rintro e w122 ⟨rfl, hb⟩; refine ⟨_, rfl, ?_⟩; have n0_ := Aside0.mk (Kd.R_below (zr HO_5) hb); have n1_ := Aside0.mk (Kd.R_below (zr HO_280003) hb); have n2_ := Aside0.mk (Kd.R_below (zr HO_288003) hb); have n3_ := Aside0.mk (Kd.R_below (zr HO_301003) hb); have n4_ := Aside0.mk (Kd.R_below (zr HO_313003) hb); have n5_ := Aside0.mk (Kd.R_below (zr HO_321003) hb); have n6_ := Aside0.mk (blk_below (zb BK279) hb); have n7_ := Aside0.mk (blk_below (zb BK287) hb); have n8_ := Aside0.mk (blk_below (zb BK300) hb); have n9_ := Aside0.mk (blk_below (zb BK312) hb); have n10_ := Aside0.mk (blk_below (zb BK320) hb); have n11_ := Aside0.mk (below_step (zg HB) hb); clear HO_5; clear HO_280003; clear HO_288003; clear HO_301003; clear HO_313003; clear HO_321003; clear BK279; clear BK287; clear BK300; clear BK312; clear BK320; clear HB; have HO_5 := n0_; have HO_280003 := n1_; have HO_288003 := n2_; have HO_301003 := n3_; have HO_313003 := n4_; have HO_321003 := n5_; have BK279 := n6_; have BK287 := n7_; have BK300 := n8_; have BK312 := n9_; have BK320 := n10_; have HB := n11_; clear n0_ n1_ n2_ n3_ n4_ n5_ n6_ n7_ n8_ n9_ n10_ n11_; (try clear hb); (try clear hb2); (try clear hk); (try clear hi)))
         (try simp only [Act.put, List.setIfInBounds_toArray, List.set_cons_zero, List.set_cons_succ])
         go_cut [164] (fun v164 wc => ∃ (kq : Nat) (x164_115 : Bool), v164 = .bool x164_115 ∧ Aside0 (laws_FnDigest.j4 kq l1 t268 t269 t319 x18_3 x19_4 x164_115 t280 t281 t282 t283 t313 t314 t315 t316 = some r) ∧ Aside0 (kq ≤ k4) ∧ Aside0 (Kd.R (Kd.int .i64) 3 wc w.heap.size (fun k_ => some k_ ≠ ((.slice Ao25 t275.length co25) : Value).ownBlock ∧ some k_ ≠ ((.slice Ao30 t283.length co30) : Value).ownBlock ∧ some k_ ≠ ((.slice Ao38 t296.length co38) : Value).ownBlock ∧ some k_ ≠ ((.slice Ao47 t308.length co47) : Value).ownBlock ∧ some k_ ≠ ((.slice Ao56 t316.length co56) : Value).ownBlock) (.slice Ao21 t268.length co21) t268) ∧ Aside0 (Kd.R (Kd.int .i64) 3 wc w.heap.size (fun k_ => some k_ ≠ ((.slice Ao21 t268.length co21) : Value).ownBlock ∧ some k_ ≠ ((.slice Ao30 t283.length co30) : Value).ownBlock ∧ some k_ ≠ ((.slice Ao38 t296.length co38) : Value).ownBlock ∧ some k_ ≠ ((.slice Ao47 t308.length co47) : Value).ownBlock ∧ some k_ ≠ ((.slice Ao56 t316.length co56) : Value).ownBlock) (.slice Ao25 t275.length co25) t275) ∧ Aside0 (Kd.R (Kd.int .i64) 3 wc w.heap.size (fun k_ => some k_ ≠ ((.slice Ao21 t268.length co21) : Value).ownBlock ∧ some k_ ≠ ((.slice Ao25 t275.length co25) : Value).ownBlock ∧ some k_ ≠ ((.slice Ao38 t296.length co38) : Value).ownBlock ∧ some k_ ≠ ((.slice Ao47 t308.length co47) : Value).ownBlock ∧ some k_ ≠ ((.slice Ao56 t316.length co56) : Value).ownBlock) (.slice Ao30 t283.length co30) t283) ∧ Aside0 (Kd.R (Kd.int .i64) 3 wc w.heap.size (fun k_ => some k_ ≠ ((.slice Ao21 t268.length co21) : Value).ownBlock ∧ some k_ ≠ ((.slice Ao25 t275.length co25) : Value).ownBlock ∧ some k_ ≠ ((.slice Ao30 t283.length co30) : Value).ownBlock ∧ some k_ ≠ ((.slice Ao47 t308.length co47) : Value).ownBlock ∧ some k_ ≠ ((.slice Ao56 t316.length co56) : Value).ownBlock) (.slice Ao38 t296.length co38) t296) ∧ Aside0 (Kd.R (Kd.int .i64) 3 wc w.heap.size (fun k_ => some k_ ≠ ((.slice Ao21 t268.length co21) : Value).ownBlock ∧ some k_ ≠ ((.slice Ao25 t275.length co25) : Value).ownBlock ∧ some k_ ≠ ((.slice Ao30 t283.length co30) : Value).ownBlock ∧ some k_ ≠ ((.slice Ao38 t296.length co38) : Value).ownBlock ∧ some k_ ≠ ((.slice Ao56 t316.length co56) : Value).ownBlock) (.slice Ao47 t308.length co47) t308) ∧ Aside0 (Kd.R (Kd.int .i64) 3 wc w.heap.size (fun k_ => some k_ ≠ ((.slice Ao21 t268.length co21) : Value).ownBlock ∧ some k_ ≠ ((.slice Ao25 t275.length co25) : Value).ownBlock ∧ some k_ ≠ ((.slice Ao30 t283.length co30) : Value).ownBlock ∧ some k_ ≠ ((.slice Ao38 t296.length co38) : Value).ownBlock ∧ some k_ ≠ ((.slice Ao47 t308.length co47) : Value).ownBlock) (.slice Ao56 t316.length co56) t316) ∧ Aside0 (wc.heap[gb279]? = some (.cells #[.int .i64 t272, .int .i64 t273, .int .i64 t274, (.slice Ao25 t275.length co25)] 37 (0, 0))) ∧ Aside0 (wc.heap[gb287]? = some (.cells #[.int .i64 t280, .int .i64 t281, .int .i64 t282, (.slice Ao30 t283.length co30)] 37 (0, 0))) ∧ Aside0 (wc.heap[gb300]? = some (.cells #[.int .i64 t293, .int .i64 t294, .int .i64 t295, (.slice Ao38 t296.length co38)] 37 (0, 0))) ∧ Aside0 (wc.heap[gb312]? = some (.cells #[.int .i64 t305, .int .i64 t306, .int .i64 t307, (.slice Ao47 t308.length co47)] 37 (0, 0))) ∧ Aside0 (wc.heap[gb320]? = some (.cells #[.int .i64 t313, .int .i64 t314, .int .i64 t315, (.slice Ao56 t316.length co56)] 37 (0, 0))) ∧ Aside0 (Below w.heap.size w wc))
         case first =>
          have H := HC116.out
          clear HC116
          by_cases c123 : t326 = 0
          ·
           rw [if_pos c123] at H
           have c123b0 : (t326 == 0) = true := beq_iff_eq.mpr c123
           have c123b1 : (t326 != 0) = false := bne_eq_false_iff_eq.mpr c123
           clear c123
           (first | rw [c123b0] | (simp only [i64_w, i32_w]; rw [c123b0]) | skip)
           by_cases c124 : x19_4 < t324
           ·
            rw [if_pos c124] at H
            have c124b0 : decide (x19_4 < t324) = true := decide_eq_true c124
            clear c124
            have H' := Aside0.mk H
            clear H
            go_wp2
            go_meet
            case rel => exact ⟨_, (true), (by first | rfl | (simp; done) | (simp [*]; done)), H', ⟨by have := HJ2.out; have := HJ18.out; have := HK3.out; have := HK4.out; first | omega | exact Nat.le_refl _⟩, ⟨zr HO_5⟩, ⟨zr HO_280003⟩, ⟨zr HO_288003⟩, ⟨zr HO_301003⟩, ⟨zr HO_313003⟩, ⟨zr HO_321003⟩, ⟨zb BK279⟩, ⟨zb BK287⟩, ⟨zb BK300⟩, ⟨zb BK312⟩, ⟨zb BK320⟩, ⟨zg HB⟩⟩
           ·
            rw [if_neg c124] at H
            have c124b0 : decide (x19_4 < t324) = false := decide_eq_false c124
            clear c124
            by_cases c125 : x19_4 > t325
            ·
             rw [if_pos c125] at H
             have c125b0 : decide (t325 < x19_4) = true := decide_eq_true c125
             clear c125
             have H' := Aside0.mk H
             clear H
             go_wp2
             go_meet
             case rel => exact ⟨_, (true), (by first | rfl | (simp; done) | (simp [*]; done)), H', ⟨by have := HJ2.out; have := HJ18.out; have := HK3.out; have := HK4.out; first | omega | exact Nat.le_refl _⟩, ⟨zr HO_5⟩, ⟨zr HO_280003⟩, ⟨zr HO_288003⟩, ⟨zr HO_301003⟩, ⟨zr HO_313003⟩, ⟨zr HO_321003⟩, ⟨zb BK279⟩, ⟨zb BK287⟩, ⟨zb BK300⟩, ⟨zb BK312⟩, ⟨zb BK320⟩, ⟨zg HB⟩⟩
            ·
             rw [if_neg c125] at H
             have c125b0 : decide (t325 < x19_4) = false := decide_eq_false c125
             clear c125
             by_cases c126 : (wrap64 (t325 - t324)) ≥ t269
             ·
              rw [if_pos c126] at H
              have c126b0 : decide (t269 ≤ (wrap64 (t325 - t324))) = true := decide_eq_true c126
              clear c126
              have H' := Aside0.mk H
              clear H
              go_wp2
              go_meet
              case rel => exact ⟨_, (decide (t325 > 0)), (by first | rfl | (simp; done) | (simp [*]; done)), H', ⟨by have := HJ2.out; have := HJ18.out; have := HK3.out; have := HK4.out; first | omega | exact Nat.le_refl _⟩, ⟨zr HO_5⟩, ⟨zr HO_280003⟩, ⟨zr HO_288003⟩, ⟨zr HO_301003⟩, ⟨zr HO_313003⟩, ⟨zr HO_321003⟩, ⟨zb BK279⟩, ⟨zb BK287⟩, ⟨zb BK300⟩, ⟨zb BK312⟩, ⟨zb BK320⟩, ⟨zg HB⟩⟩
             ·
              rw [if_neg c126] at H
              have c126b0 : decide (t269 ≤ (wrap64 (t325 - t324))) = false := decide_eq_false c126
              clear c126
              have H' := Aside0.mk H
              clear H
              go_wp2
              go_meet
              case rel => exact ⟨_, (false), (by first | rfl | (simp; done) | (simp [*]; done)), H', ⟨by have := HJ2.out; have := HJ18.out; have := HK3.out; have := HK4.out; first | omega | exact Nat.le_refl _⟩, ⟨zr HO_5⟩, ⟨zr HO_280003⟩, ⟨zr HO_288003⟩, ⟨zr HO_301003⟩, ⟨zr HO_313003⟩, ⟨zr HO_321003⟩, ⟨zb BK279⟩, ⟨zb BK287⟩, ⟨zb BK300⟩, ⟨zb BK312⟩, ⟨zb BK320⟩, ⟨zg HB⟩⟩
          ·
           rw [if_neg c123] at H
           have c123b0 : (t326 == 0) = false := beq_eq_false_iff_ne.mpr c123
           have c123b1 : (t326 != 0) = true := bne_iff_ne.mpr c123
           (first | rw [c123b0] | (simp only [i64_w, i32_w]; rw [c123b0]) | skip)
           have H' := Aside0.mk H
           clear H
           go_wp2
           go_meet
           case rel => exact ⟨_, (true), (by first | rfl | (simp; done) | (simp [*]; done)), H', ⟨by have := HJ2.out; have := HJ18.out; have := HK3.out; have := HK4.out; first | omega | exact Nat.le_refl _⟩, ⟨zr HO_5⟩, ⟨zr HO_280003⟩, ⟨zr HO_288003⟩, ⟨zr HO_301003⟩, ⟨zr HO_313003⟩, ⟨zr HO_321003⟩, ⟨zb BK279⟩, ⟨zb BK287⟩, ⟨zb BK300⟩, ⟨zb BK312⟩, ⟨zb BK320⟩, ⟨zg HB⟩⟩
         case rest =>
          clear HC116
          try clear c1
          try clear c2
          try clear p2
          try clear c3
          try clear p3
          try clear q3
          try clear hx3
          try clear c4
          try clear c4b0
          try clear c4b1
          try clear q4
          try clear c5
          try clear c6
          try clear p6
          try clear c7
          try clear c8
          try clear c9
          try clear c9b0
          try clear c9b1
          try clear c10
          try clear c10b0
          try clear c10b1
          try clear c11
          try clear c12
          try clear c12b0
          try clear c12b1
          try clear c13
          try clear c13b0
          try clear c13b1
          try clear c15
          try clear c15b0
          try clear c16
          try clear c16b0
          try clear c18
          try clear c20
          try clear c28
          try clear c29
          try clear c30
          try clear c31
          try clear p32
          try clear q32
          try clear hx32
          try clear c33
          try clear c35
          try clear c36
          try clear c40
          try clear q40
          try clear c43
          try clear c44
          try clear c45
          try clear c51
          try clear c52
          try clear c53
          try clear c54
          try clear c57
          try clear c57b0
          try clear c57b1
          try clear c58
          try clear c58b0
          try clear c58b1
          try clear c59
          try clear c59b0
          try clear c59b1
          try clear c60
          try clear c60b0
          try clear c60b1
          try clear c62
          try clear c63
          try clear c64
          try clear p64
          try clear c65
          try clear c68
          try clear c69
          try clear c70
          try clear c71
          try clear c73
          try clear c73b0
          try clear c74
          try clear c75
          try clear c76
          try clear c77
          try clear c79
          try clear c80
          try clear c81
          try clear c83
          try clear c83b0
          try clear c83b1
          try clear c85
          try clear c86
          try clear c87
          try clear c88
          try clear c90
          try clear c91
          try clear c92
          try clear c94
          try clear c95
          try clear c98
          try clear c99
          try clear c100
          try clear c101
          try clear c103
          try clear c104
          try clear c105
          try clear c107
          try clear c108
          try clear c110
          try clear c111
          try clear c111b0
          try clear c112
          try clear c112b0
          try clear c113
          try clear c113b0
          try clear c114
          try clear c114b0
          try clear c117
          try clear c118
          try clear c119
          try clear c120
          try clear c123
          try clear c123b0
          try clear c123b1
          try clear c124
          try clear c124b0
          try clear c125
          try clear c125b0
          try clear c126
          try clear c126b0
          try clear hcz102_0
          try clear hcz102_1
          try clear hcz102_2
          try clear hcz102_3
          try clear hcz106_0
          try clear hcz106_1
          try clear hcz106_2
          try clear hcz106_3
          try clear hcz109_0
          try clear hcz109_1
          try clear hcz109_2
          try clear hcz109_3
          try clear hcz121_0
          try clear hcz121_1
          try clear hcz121_2
          try clear hcz121_3
          try clear hcz24_0
          try clear hcz24_1
          try clear hcz24_2
          try clear hcz24_3
          try clear hcz29_0
          try clear hcz29_1
          try clear hcz29_2
          try clear hcz29_3
          try clear hcz37_0
          try clear hcz37_1
          try clear hcz37_2
          try clear hcz37_3
          try clear hcz46_0
          try clear hcz46_1
          try clear hcz46_2
          try clear hcz46_3
          try clear hcz48_0
          try clear hcz48_1
          try clear hcz48_2
          try clear hcz48_3
          try clear hcz55_0
          try clear hcz55_1
          try clear hcz55_2
          try clear hcz55_3
          try clear hcz66_0
          try clear hcz66_1
          try clear hcz66_2
          try clear hcz66_3
          try clear hcz72_0
          try clear hcz72_1
          try clear hcz72_2
          try clear hcz72_3
          try clear hcz78_0
          try clear hcz78_1
          try clear hcz78_2
          try clear hcz78_3
          try clear hcz82_0
          try clear hcz82_1
          try clear hcz82_2
          try clear hcz82_3
          try clear hcz89_0
          try clear hcz89_1
          try clear hcz89_2
          try clear hcz89_3
          try clear hcz93_0
          try clear hcz93_1
          try clear hcz93_2
          try clear hcz93_3
          try clear hcz96_0
          try clear hcz96_1
          try clear hcz96_2
          try clear hcz96_3
          try clear hfz102_0
          try clear hfz102_1
          try clear hfz102_2
          try clear hfz102_3
          try clear hfz106_0
          try clear hfz106_1
          try clear hfz106_2
          try clear hfz106_3
          try clear hfz109_0
          try clear hfz109_1
          try clear hfz109_2
          try clear hfz109_3
          try clear hfz121_0
          try clear hfz121_1
          try clear hfz121_2
          try clear hfz121_3
          try clear hfz24_0
          try clear hfz24_1
          try clear hfz24_2
          try clear hfz24_3
          try clear hfz29_0
          try clear hfz29_1
          try clear hfz29_2
          try clear hfz29_3
          try clear hfz37_0
          try clear hfz37_1
          try clear hfz37_2
          try clear hfz37_3
          try clear hfz46_0
          try clear hfz46_1
          try clear hfz46_2
          try clear hfz46_3
          try clear hfz48_0
          try clear hfz48_1
          try clear hfz48_2
          try clear hfz48_3
          try clear hfz55_0
          try clear hfz55_1
          try clear hfz55_2
          try clear hfz55_3
          try clear hfz66_0
          try clear hfz66_1
          try clear hfz66_2
          try clear hfz66_3
          try clear hfz72_0
          try clear hfz72_1
          try clear hfz72_2
          try clear hfz72_3
          try clear hfz78_0
          try clear hfz78_1
          try clear hfz78_2
          try clear hfz78_3
          try clear hfz82_0
          try clear hfz82_1
          try clear hfz82_2
          try clear hfz82_3
          try clear hfz89_0
          try clear hfz89_1
          try clear hfz89_2
          try clear hfz89_3
          try clear hfz93_0
          try clear hfz93_1
          try clear hfz93_2
          try clear hfz93_3
          try clear hfz96_0
          try clear hfz96_1
          try clear hfz96_2
          try clear hfz96_3
          try clear hx323_0
          try clear p2
          try clear p323
          try clear p6
          try clear p64
          try clear q040
          try clear q3
          try clear q32
          try clear q323
          try clear q4
          try clear q40
          obtain ⟨kq, x164_115, rfl, HA, HJ115, HO_5, HO_280003, HO_288003, HO_301003, HO_313003, HO_321003, BK279, BK287, BK300, BK312, BK320, HB⟩ := hcut
          cases kq with
          | zero => exact absurd HA.out (by simp [laws_FnDigest.j4])
          | succ kj115 =>
           have H := HA.out
           clear HA
           simp only [laws_FnDigest.j4] at H
           by_cases c127 : x164_115 = true
           ·
            subst c127
            have H1 : (some false) = some r := by rw [if_pos rfl] at H; exact H
            clear H
            have H := H1
            clear H1
            obtain rfl := Option.some.inj H
            go_wp2
            go_ret
            exact ⟨zre, zg HB⟩
           ·
            replace c127 := Bool.eq_false_iff.mpr c127
            subst c127
            have H1 : ((impl_DigestRank.f kj115 t313 t314 t315 t316 x18_3).bind fun bt327 => (if t319 = 0 then (if bt327.2.2 = 0 then (if x19_4 < bt327.1 then (some false) else (if x19_4 > bt327.2.1 then (some false) else (laws_FnDigest.l0 kj115 l1 t268 t269 t319 (wrap64 (x18_3 + 1)) t280 t281 t282 t283 t313 t314 t315 t316))) else (some false)) else (laws_FnDigest.l0 kj115 l1 t268 t269 t319 (wrap64 (x18_3 + 1)) t280 t281 t282 t283 t313 t314 t315 t316))) = some r := by rw [if_neg (show ¬ (false = true) by decide)] at H; exact H
            clear H
            have H := H1
            clear H1
            replace H := Option.bind_eq_some_iff.mp H
            obtain ⟨⟨t327, t328, t329⟩, A1280, H⟩ := H
            replace H : (if t319 = 0 then (if t329 = 0 then (if x19_4 < t327 then (some false) else (if x19_4 > t328 then (some false) else (laws_FnDigest.l0 kj115 l1 t268 t269 t319 (wrap64 (x18_3 + 1)) t280 t281 t282 t283 t313 t314 t315 t316))) else (some false)) else (laws_FnDigest.l0 kj115 l1 t268 t269 t319 (wrap64 (x18_3 + 1)) t280 t281 t282 t283 t313 t314 t315 t316)) = some r := H
            have A128 := Aside0.mk A1280
            clear A1280
            by_cases c129 : t319 = 0
            ·
             rw [if_pos c129] at H
             have c129b0 : (t319 == 0) = true := beq_iff_eq.mpr c129
             have c129b1 : (t319 != 0) = false := bne_eq_false_iff_eq.mpr c129
             clear c129
             by_cases c130 : t329 = 0
             ·
              rw [if_pos c130] at H
              have c130b0 : (t329 == 0) = true := beq_iff_eq.mpr c130
              have c130b1 : (t329 != 0) = false := bne_eq_false_iff_eq.mpr c130
              clear c130
              by_cases c131 : x19_4 < t327
              ·
               rw [if_pos c131] at H
               have c131b0 : decide (x19_4 < t327) = true := decide_eq_true c131
               clear c131
               obtain rfl := Option.some.inj H
               have hnb132 := NB320_279.out
               have hnc132 := NB279_320.out
               have hnb133 := NB320_287.out
               have hnc133 := NB287_320.out
               have hnb134 := NB320_300.out
               have hnc134 := NB300_320.out
               have hnb135 := NB320_312.out
               have hnc135 := NB312_320.out
               have hcz136_0 : wc.cell? ⟨gb320, 0, none⟩ = some (.int .i64 t313) := (blk_cell BK320.out 0).trans rfl
               have hcz136_1 : wc.cell? ⟨gb320, 1, none⟩ = some (.int .i64 t314) := (blk_cell BK320.out 1).trans rfl
               have hcz136_2 : wc.cell? ⟨gb320, 2, none⟩ = some (.int .i64 t315) := (blk_cell BK320.out 2).trans rfl
               have hcz136_3 : wc.cell? ⟨gb320, 3, none⟩ = some (.slice Ao56 t316.length co56) := (blk_cell BK320.out 3).trans rfl
               have hfz136_0 := blk_frozen BK320.out 0
               have hfz136_1 := blk_frozen BK320.out 1
               have hfz136_2 := blk_frozen BK320.out 2
               have hfz136_3 := blk_frozen BK320.out 3
               go_wp2_with (first | ((with_reducible refine gate_callee (f := 33) rfl ?_); refine goesL_ (some 168) rfl rfl Try.func33 (by kernel_rfl) rfl #[.agg #[.int .i64 t313, .int .i64 t314, .int .i64 t315, .slice Ao56 t316.length co56], .int .i64 x18_3] rfl zar ?_; (with_reducible refine (impl_DigestRank.calls kj115 t313 t314 t315 _ _ t316 x18_3 t327 t328 t329 _ ?side1 ?side2 A128.out).mono ?_); (case side1 => repeat (first | exact (Kd.R_reads' HO_321003.out).2.2 | (with_reducible refine Kd.C_alloc ?_ _) | (with_reducible refine Kd.C_drewN ?_ _) | (with_reducible refine Kd.C_drew ?_))); (case side2 => exact (Kd.R_reads' HO_321003.out).2.1); rintro e w137 ⟨rfl, hb⟩; refine ⟨_, rfl, ?_⟩; have n0_ := Aside0.mk (Kd.R_below (zr HO_5) hb); have n1_ := Aside0.mk (Kd.R_below (zr HO_280003) hb); have n2_ := Aside0.mk (Kd.R_below (zr HO_288003) hb); have n3_ := Aside0.mk (Kd.R_below (zr HO_301003) hb); have n4_ := Aside0.mk (Kd.R_below (zr HO_313003) hb); have n5_ := Aside0.mk (Kd.R_below (zr HO_321003) hb); have n6_ := Aside0.mk (blk_below (zb BK279) hb); have n7_ := Aside0.mk (blk_below (zb BK287) hb); have n8_ := Aside0.mk (blk_below (zb BK300) hb); have n9_ := Aside0.mk (blk_below (zb BK312) hb); have n10_ := Aside0.mk (blk_below (zb BK320) hb); have n11_ := Aside0.mk (below_step (zg HB) hb); clear HO_5; clear HO_280003; clear HO_288003; clear HO_301003; clear HO_313003; clear HO_321003; clear BK279; clear BK287; clear BK300; clear BK312; clear BK320; clear HB; have HO_5 := n0_; have HO_280003 := n1_; have HO_288003 := n2_; have HO_301003 := n3_; have HO_313003 := n4_; have HO_321003 := n5_; have BK279 := n6_; have BK287 := n7_; have BK300 := n8_; have BK312 := n9_; have BK320 := n10_; have HB := n11_; clear n0_ n1_ n2_ n3_ n4_ n5_ n6_ n7_ n8_ n9_ n10_ n11_; (try clear hb); (try clear hb2); (try clear hk); (try clear hi)))
               go_ret
               exact ⟨zre, zg HB⟩
              ·
               rw [if_neg c131] at H
               have c131b0 : decide (x19_4 < t327) = false := decide_eq_false c131
               clear c131
               by_cases c138 : x19_4 > t328
               ·
                rw [if_pos c138] at H
                have c138b0 : decide (t328 < x19_4) = true := decide_eq_true c138
                clear c138
                obtain rfl := Option.some.inj H
                have hnb139 := NB320_279.out
                have hnc139 := NB279_320.out
                have hnb140 := NB320_287.out
                have hnc140 := NB287_320.out
                have hnb141 := NB320_300.out
                have hnc141 := NB300_320.out
                have hnb142 := NB320_312.out
                have hnc142 := NB312_320.out
                have hcz143_0 : wc.cell? ⟨gb320, 0, none⟩ = some (.int .i64 t313) := (blk_cell BK320.out 0).trans rfl
                have hcz143_1 : wc.cell? ⟨gb320, 1, none⟩ = some (.int .i64 t314) := (blk_cell BK320.out 1).trans rfl
                have hcz143_2 : wc.cell? ⟨gb320, 2, none⟩ = some (.int .i64 t315) := (blk_cell BK320.out 2).trans rfl
                have hcz143_3 : wc.cell? ⟨gb320, 3, none⟩ = some (.slice Ao56 t316.length co56) := (blk_cell BK320.out 3).trans rfl
                have hfz143_0 := blk_frozen BK320.out 0
                have hfz143_1 := blk_frozen BK320.out 1
                have hfz143_2 := blk_frozen BK320.out 2
                have hfz143_3 := blk_frozen BK320.out 3
                go_wp2_with (first | ((with_reducible refine gate_callee (f := 33) rfl ?_); refine goesL_ (some 168) rfl rfl Try.func33 (by kernel_rfl) rfl #[.agg #[.int .i64 t313, .int .i64 t314, .int .i64 t315, .slice Ao56 t316.length co56], .int .i64 x18_3] rfl zar ?_; (with_reducible refine (impl_DigestRank.calls kj115 t313 t314 t315 _ _ t316 x18_3 t327 t328 t329 _ ?side1 ?side2 A128.out).mono ?_); (case side1 => repeat (first | exact (Kd.R_reads' HO_321003.out).2.2 | (with_reducible refine Kd.C_alloc ?_ _) | (with_reducible refine Kd.C_drewN ?_ _) | (with_reducible refine Kd.C_drew ?_))); (case side2 => exact (Kd.R_reads' HO_321003.out).2.1); rintro e w144 ⟨rfl, hb⟩; refine ⟨_, rfl, ?_⟩; have n0_ := Aside0.mk (Kd.R_below (zr HO_5) hb); have n1_ := Aside0.mk (Kd.R_below (zr HO_280003) hb); have n2_ := Aside0.mk (Kd.R_below (zr HO_288003) hb); have n3_ := Aside0.mk (Kd.R_below (zr HO_301003) hb); have n4_ := Aside0.mk (Kd.R_below (zr HO_313003) hb); have n5_ := Aside0.mk (Kd.R_below (zr HO_321003) hb); have n6_ := Aside0.mk (blk_below (zb BK279) hb); have n7_ := Aside0.mk (blk_below (zb BK287) hb); have n8_ := Aside0.mk (blk_below (zb BK300) hb); have n9_ := Aside0.mk (blk_below (zb BK312) hb); have n10_ := Aside0.mk (blk_below (zb BK320) hb); have n11_ := Aside0.mk (below_step (zg HB) hb); clear HO_5; clear HO_280003; clear HO_288003; clear HO_301003; clear HO_313003; clear HO_321003; clear BK279; clear BK287; clear BK300; clear BK312; clear BK320; clear HB; have HO_5 := n0_; have HO_280003 := n1_; have HO_288003 := n2_; have HO_301003 := n3_; have HO_313003 := n4_; have HO_321003 := n5_; have BK279 := n6_; have BK287 := n7_; have BK300 := n8_; have BK312 := n9_; have BK320 := n10_; have HB := n11_; clear n0_ n1_ n2_ n3_ n4_ n5_ n6_ n7_ n8_ n9_ n10_ n11_; (try clear hb); (try clear hb2); (try clear hk); (try clear hi)))
                go_ret
                exact ⟨zre, zg HB⟩
               ·
                rw [if_neg c138] at H
                have c138b0 : decide (t328 < x19_4) = false := decide_eq_false c138
                clear c138
                have H' := Aside0.mk H
                clear H
                have hnb145 := NB320_279.out
                have hnc145 := NB279_320.out
                have hnb146 := NB320_287.out
                have hnc146 := NB287_320.out
                have hnb147 := NB320_300.out
                have hnc147 := NB300_320.out
                have hnb148 := NB320_312.out
                have hnc148 := NB312_320.out
                have hcz149_0 : wc.cell? ⟨gb320, 0, none⟩ = some (.int .i64 t313) := (blk_cell BK320.out 0).trans rfl
                have hcz149_1 : wc.cell? ⟨gb320, 1, none⟩ = some (.int .i64 t314) := (blk_cell BK320.out 1).trans rfl
                have hcz149_2 : wc.cell? ⟨gb320, 2, none⟩ = some (.int .i64 t315) := (blk_cell BK320.out 2).trans rfl
                have hcz149_3 : wc.cell? ⟨gb320, 3, none⟩ = some (.slice Ao56 t316.length co56) := (blk_cell BK320.out 3).trans rfl
                have hfz149_0 := blk_frozen BK320.out 0
                have hfz149_1 := blk_frozen BK320.out 1
                have hfz149_2 := blk_frozen BK320.out 2
                have hfz149_3 := blk_frozen BK320.out 3
                go_wp2_with (first | ((with_reducible refine gate_callee (f := 33) rfl ?_); refine goesL_ (some 168) rfl rfl Try.func33 (by kernel_rfl) rfl #[.agg #[.int .i64 t313, .int .i64 t314, .int .i64 t315, .slice Ao56 t316.length co56], .int .i64 x18_3] rfl zar ?_; (with_reducible refine (impl_DigestRank.calls kj115 t313 t314 t315 _ _ t316 x18_3 t327 t328 t329 _ ?side1 ?side2 A128.out).mono ?_); (case side1 => repeat (first | exact (Kd.R_reads' HO_321003.out).2.2 | (with_reducible refine Kd.C_alloc ?_ _) | (with_reducible refine Kd.C_drewN ?_ _) | (with_reducible refine Kd.C_drew ?_))); (case side2 => exact (Kd.R_reads' HO_321003.out).2.1); rintro e w150 ⟨rfl, hb⟩; refine ⟨_, rfl, ?_⟩; have n0_ := Aside0.mk (Kd.R_below (zr HO_5) hb); have n1_ := Aside0.mk (Kd.R_below (zr HO_280003) hb); have n2_ := Aside0.mk (Kd.R_below (zr HO_288003) hb); have n3_ := Aside0.mk (Kd.R_below (zr HO_301003) hb); have n4_ := Aside0.mk (Kd.R_below (zr HO_313003) hb); have n5_ := Aside0.mk (Kd.R_below (zr HO_321003) hb); have n6_ := Aside0.mk (blk_below (zb BK279) hb); have n7_ := Aside0.mk (blk_below (zb BK287) hb); have n8_ := Aside0.mk (blk_below (zb BK300) hb); have n9_ := Aside0.mk (blk_below (zb BK312) hb); have n10_ := Aside0.mk (blk_below (zb BK320) hb); have n11_ := Aside0.mk (below_step (zg HB) hb); clear HO_5; clear HO_280003; clear HO_288003; clear HO_301003; clear HO_313003; clear HO_321003; clear BK279; clear BK287; clear BK300; clear BK312; clear BK320; clear HB; have HO_5 := n0_; have HO_280003 := n1_; have HO_288003 := n2_; have HO_301003 := n3_; have HO_313003 := n4_; have HO_321003 := n5_; have BK279 := n6_; have BK287 := n7_; have BK300 := n8_; have BK312 := n9_; have BK320 := n10_; have HB := n11_; clear n0_ n1_ n2_ n3_ n4_ n5_ n6_ n7_ n8_ n9_ n10_ n11_; (try clear hb); (try clear hb2); (try clear hk); (try clear hi)))
                go_roundg kj115
                case measure => have := HJ2.out; have := HJ18.out; have := HK3.out; have := HK4.out; have := HJ115.out; omega
                case rel => exact ⟨(wrap64 (x18_3 + 1)), (by first | rfl | (simp; done) | (simp [*]; done)), H', ⟨by have := HJ2.out; have := HJ18.out; have := HK3.out; have := HK4.out; have := HJ115.out; omega⟩, ⟨zr HO_5⟩, ⟨zr HO_280003⟩, ⟨zr HO_288003⟩, ⟨zr HO_301003⟩, ⟨zr HO_313003⟩, ⟨zr HO_321003⟩, ⟨zb BK279⟩, ⟨zb BK287⟩, ⟨zb BK300⟩, ⟨zb BK312⟩, ⟨zb BK320⟩, ⟨zg HB⟩⟩
             ·
              rw [if_neg c130] at H
              have c130b0 : (t329 == 0) = false := beq_eq_false_iff_ne.mpr c130
              have c130b1 : (t329 != 0) = true := bne_iff_ne.mpr c130
              obtain rfl := Option.some.inj H
              have hnb151 := NB320_279.out
              have hnc151 := NB279_320.out
              have hnb152 := NB320_287.out
              have hnc152 := NB287_320.out
              have hnb153 := NB320_300.out
              have hnc153 := NB300_320.out
              have hnb154 := NB320_312.out
              have hnc154 := NB312_320.out
              have hcz155_0 : wc.cell? ⟨gb320, 0, none⟩ = some (.int .i64 t313) := (blk_cell BK320.out 0).trans rfl
              have hcz155_1 : wc.cell? ⟨gb320, 1, none⟩ = some (.int .i64 t314) := (blk_cell BK320.out 1).trans rfl
              have hcz155_2 : wc.cell? ⟨gb320, 2, none⟩ = some (.int .i64 t315) := (blk_cell BK320.out 2).trans rfl
              have hcz155_3 : wc.cell? ⟨gb320, 3, none⟩ = some (.slice Ao56 t316.length co56) := (blk_cell BK320.out 3).trans rfl
              have hfz155_0 := blk_frozen BK320.out 0
              have hfz155_1 := blk_frozen BK320.out 1
              have hfz155_2 := blk_frozen BK320.out 2
              have hfz155_3 := blk_frozen BK320.out 3
              go_wp2_with (first | ((with_reducible refine gate_callee (f := 33) rfl ?_); refine goesL_ (some 168) rfl rfl Try.func33 (by kernel_rfl) rfl #[.agg #[.int .i64 t313, .int .i64 t314, .int .i64 t315, .slice Ao56 t316.length co56], .int .i64 x18_3] rfl zar ?_; (with_reducible refine (impl_DigestRank.calls kj115 t313 t314 t315 _ _ t316 x18_3 t327 t328 t329 _ ?side1 ?side2 A128.out).mono ?_); (case side1 => repeat (first | exact (Kd.R_reads' HO_321003.out).2.2 | (with_reducible refine Kd.C_alloc ?_ _) | (with_reducible refine Kd.C_drewN ?_ _) | (with_reducible refine Kd.C_drew ?_))); (case side2 => exact (Kd.R_reads' HO_321003.out).2.1); rintro e w156 ⟨rfl, hb⟩; refine ⟨_, rfl, ?_⟩; have n0_ := Aside0.mk (Kd.R_below (zr HO_5) hb); have n1_ := Aside0.mk (Kd.R_below (zr HO_280003) hb); have n2_ := Aside0.mk (Kd.R_below (zr HO_288003) hb); have n3_ := Aside0.mk (Kd.R_below (zr HO_301003) hb); have n4_ := Aside0.mk (Kd.R_below (zr HO_313003) hb); have n5_ := Aside0.mk (Kd.R_below (zr HO_321003) hb); have n6_ := Aside0.mk (blk_below (zb BK279) hb); have n7_ := Aside0.mk (blk_below (zb BK287) hb); have n8_ := Aside0.mk (blk_below (zb BK300) hb); have n9_ := Aside0.mk (blk_below (zb BK312) hb); have n10_ := Aside0.mk (blk_below (zb BK320) hb); have n11_ := Aside0.mk (below_step (zg HB) hb); clear HO_5; clear HO_280003; clear HO_288003; clear HO_301003; clear HO_313003; clear HO_321003; clear BK279; clear BK287; clear BK300; clear BK312; clear BK320; clear HB; have HO_5 := n0_; have HO_280003 := n1_; have HO_288003 := n2_; have HO_301003 := n3_; have HO_313003 := n4_; have HO_321003 := n5_; have BK279 := n6_; have BK287 := n7_; have BK300 := n8_; have BK312 := n9_; have BK320 := n10_; have HB := n11_; clear n0_ n1_ n2_ n3_ n4_ n5_ n6_ n7_ n8_ n9_ n10_ n11_; (try clear hb); (try clear hb2); (try clear hk); (try clear hi)))
              go_ret
              exact ⟨zre, zg HB⟩
            ·
             rw [if_neg c129] at H
             have c129b0 : (t319 == 0) = false := beq_eq_false_iff_ne.mpr c129
             have c129b1 : (t319 != 0) = true := bne_iff_ne.mpr c129
             have H' := Aside0.mk H
             clear H
             have hnb157 := NB320_279.out
             have hnc157 := NB279_320.out
             have hnb158 := NB320_287.out
             have hnc158 := NB287_320.out
             have hnb159 := NB320_300.out
             have hnc159 := NB300_320.out
             have hnb160 := NB320_312.out
             have hnc160 := NB312_320.out
             have hcz161_0 : wc.cell? ⟨gb320, 0, none⟩ = some (.int .i64 t313) := (blk_cell BK320.out 0).trans rfl
             have hcz161_1 : wc.cell? ⟨gb320, 1, none⟩ = some (.int .i64 t314) := (blk_cell BK320.out 1).trans rfl
             have hcz161_2 : wc.cell? ⟨gb320, 2, none⟩ = some (.int .i64 t315) := (blk_cell BK320.out 2).trans rfl
             have hcz161_3 : wc.cell? ⟨gb320, 3, none⟩ = some (.slice Ao56 t316.length co56) := (blk_cell BK320.out 3).trans rfl
             have hfz161_0 := blk_frozen BK320.out 0
             have hfz161_1 := blk_frozen BK320.out 1
             have hfz161_2 := blk_frozen BK320.out 2
             have hfz161_3 := blk_frozen BK320.out 3
             go_wp2_with (first | ((with_reducible refine gate_callee (f := 33) rfl ?_); refine goesL_ (some 168) rfl rfl Try.func33 (by kernel_rfl) rfl #[.agg #[.int .i64 t313, .int .i64 t314, .int .i64 t315, .slice Ao56 t316.length co56], .int .i64 x18_3] rfl zar ?_; (with_reducible refine (impl_DigestRank.calls kj115 t313 t314 t315 _ _ t316 x18_3 t327 t328 t329 _ ?side1 ?side2 A128.out).mono ?_); (case side1 => repeat (first | exact (Kd.R_reads' HO_321003.out).2.2 | (with_reducible refine Kd.C_alloc ?_ _) | (with_reducible refine Kd.C_drewN ?_ _) | (with_reducible refine Kd.C_drew ?_))); (case side2 => exact (Kd.R_reads' HO_321003.out).2.1); rintro e w162 ⟨rfl, hb⟩; refine ⟨_, rfl, ?_⟩; have n0_ := Aside0.mk (Kd.R_below (zr HO_5) hb); have n1_ := Aside0.mk (Kd.R_below (zr HO_280003) hb); have n2_ := Aside0.mk (Kd.R_below (zr HO_288003) hb); have n3_ := Aside0.mk (Kd.R_below (zr HO_301003) hb); have n4_ := Aside0.mk (Kd.R_below (zr HO_313003) hb); have n5_ := Aside0.mk (Kd.R_below (zr HO_321003) hb); have n6_ := Aside0.mk (blk_below (zb BK279) hb); have n7_ := Aside0.mk (blk_below (zb BK287) hb); have n8_ := Aside0.mk (blk_below (zb BK300) hb); have n9_ := Aside0.mk (blk_below (zb BK312) hb); have n10_ := Aside0.mk (blk_below (zb BK320) hb); have n11_ := Aside0.mk (below_step (zg HB) hb); clear HO_5; clear HO_280003; clear HO_288003; clear HO_301003; clear HO_313003; clear HO_321003; clear BK279; clear BK287; clear BK300; clear BK312; clear BK320; clear HB; have HO_5 := n0_; have HO_280003 := n1_; have HO_288003 := n2_; have HO_301003 := n3_; have HO_313003 := n4_; have HO_321003 := n5_; have BK279 := n6_; have BK287 := n7_; have BK300 := n8_; have BK312 := n9_; have BK320 := n10_; have HB := n11_; clear n0_ n1_ n2_ n3_ n4_ n5_ n6_ n7_ n8_ n9_ n10_ n11_; (try clear hb); (try clear hb2); (try clear hk); (try clear hi)))
             go_roundg kj115
             case measure => have := HJ2.out; have := HJ18.out; have := HK3.out; have := HK4.out; have := HJ115.out; omega
             case rel => exact ⟨(wrap64 (x18_3 + 1)), (by first | rfl | (simp; done) | (simp [*]; done)), H', ⟨by have := HJ2.out; have := HJ18.out; have := HK3.out; have := HK4.out; have := HJ115.out; omega⟩, ⟨zr HO_5⟩, ⟨zr HO_280003⟩, ⟨zr HO_288003⟩, ⟨zr HO_301003⟩, ⟨zr HO_313003⟩, ⟨zr HO_321003⟩, ⟨zb BK279⟩, ⟨zb BK287⟩, ⟨zb BK300⟩, ⟨zb BK312⟩, ⟨zb BK320⟩, ⟨zg HB⟩⟩
     ·
      rw [if_neg c111] at H
      have c111b0 : decide (x18_3 ≤ 45) = false := decide_eq_false c111
      clear c111
      replace H := Option.bind_eq_some_iff.mp H
      obtain ⟨t330, A1630, H⟩ := H
      replace H : ((impl_DigestAt.f k3 t280 t281 t282 t283 t330).bind fun bt331 => (if (t268.length : Int) = 0 then (some (bt331.2 == 8)) else (laws_FnDigest.l2 k3 t268 bt331.1 bt331.2 false 0))) = some r := H
      have A163 := Aside0.mk A1630
      clear A1630
      replace H := Option.bind_eq_some_iff.mp H
      obtain ⟨⟨t331, t332⟩, A1640, H⟩ := H
      replace H : (if (t268.length : Int) = 0 then (some (t332 == 8)) else (laws_FnDigest.l2 k3 t268 t331 t332 false 0)) = some r := H
      have A164 := Aside0.mk A1640
      clear A1640
      by_cases c165 : (t268.length : Int) = 0
      ·
       rw [if_pos c165] at H
       have c165b0 : ((t268.length : Int) == 0) = true := beq_iff_eq.mpr c165
       have c165b1 : ((t268.length : Int) != 0) = false := bne_eq_false_iff_eq.mpr c165
       clear c165
       obtain rfl := Option.some.inj H
       try go_wp2
       have n0_ := Aside0.mk (Kd.R_drew HO_5.out)
       have n1_ := Aside0.mk (Kd.R_drew HO_280003.out)
       have n2_ := Aside0.mk (Kd.R_drew HO_288003.out)
       have n3_ := Aside0.mk (Kd.R_drew HO_301003.out)
       have n4_ := Aside0.mk (Kd.R_drew HO_313003.out)
       have n5_ := Aside0.mk (Kd.R_drew HO_321003.out)
       have n6_ := Aside0.mk (blk_drew BK279.out)
       have n7_ := Aside0.mk (blk_drew BK287.out)
       have n8_ := Aside0.mk (blk_drew BK300.out)
       have n9_ := Aside0.mk (blk_drew BK312.out)
       have n10_ := Aside0.mk (blk_drew BK320.out)
       have n11_ := Aside0.mk (below_drew1 HB.out)
       clear HO_5
       clear HO_280003
       clear HO_288003
       clear HO_301003
       clear HO_313003
       clear HO_321003
       clear BK279
       clear BK287
       clear BK300
       clear BK312
       clear BK320
       clear HB
       have HO_5 := n0_
       have HO_280003 := n1_
       have HO_288003 := n2_
       have HO_301003 := n3_
       have HO_313003 := n4_
       have HO_321003 := n5_
       have BK279 := n6_
       have BK287 := n7_
       have BK300 := n8_
       have BK312 := n9_
       have BK320 := n10_
       have HB := n11_
       clear n0_ n1_ n2_ n3_ n4_ n5_ n6_ n7_ n8_ n9_ n10_ n11_
       refine start_ (n := 9) (S := fun w' => w'.cell? ⟨gb287, 0, none⟩ = some (.int .i64 t280) ∧ w'.cell? ⟨gb287, 1, none⟩ = some (.int .i64 t281) ∧ w'.cell? ⟨gb287, 2, none⟩ = some (.int .i64 t282) ∧ w'.cell? ⟨gb287, 3, none⟩ = some (.slice Ao30 t283.length co30)) (ds := []) #[false, false, false, false, false, false, false, false, false] (by kernel_rfl) rfl rfl ⟨(blk_cell BK287.out 0).trans rfl, (blk_cell BK287.out 1).trans rfl, (blk_cell BK287.out 2).trans rfl, (blk_cell BK287.out 3).trans rfl⟩ (fun hHeld => ?_); refine with_tabW laws_FnDigest.tab31 laws_FnDigest.bits31 (fun HT_ HW_ => ?_)
       generalize wr.drew = w166 at HO_5 HO_280003 HO_288003 HO_301003 HO_313003 HO_321003 BK279 BK287 BK300 BK312 BK320 HB hHeld ⊢
       refine pure_ (i := 1) (N := some 190) (v := ?_) (a' := ?_) #[false, true, false, false, false, false, false, false, false] rfl rfl (any_of HT_.out (by kernel_rfl)) (fun _ _ _ h => h) (Or.inl ⟨by rfl, ?_⟩) ?_ ?_
       rotate_left
       ·
        intro w'
        go_simp
        with_reducible rfl
       rotate_left
       ·
        simp only [Act.put, List.setIfInBounds_toArray, List.set_cons_zero, List.set_cons_succ, i64_w, i32_w]
        rfl
       refine take_ (i := 0) (N := some 189) (v := ?_) (a' := ?_) #[true, true, false, false, false, false, false, false, false] rfl rfl (take_ofW HT_.out HW_.out (by kernel_rfl)) (fun _ _ _ h => h) (Or.inl ⟨by rfl, ?_⟩) hHeld ?_ ?_
       rotate_left
       ·
        rintro w' ⟨s0, s1, s2, s3⟩
        go_simp
        with_reducible rfl
       rotate_left
       ·
        simp only [Act.put, List.setIfInBounds_toArray, List.set_cons_zero, List.set_cons_succ, i64_w, i32_w]
        rfl
       refine one_ (i := 2) (N := some 191) #[true, true, true, false, false, false, false, false, false] rfl rfl (one_of HT_.out (by kernel_rfl)) (by decide) (fun K hK => ?_)
       refine goes_ Try.func31 (by kernel_rfl) rfl #[.slice A1 l1.length c1, .int .i64 1, .int .i64 101] (by rfl) rfl rfl zar ?_
       with_reducible refine (laws_at.calls _ _ l1 1 101 t330 _ ?side1 ?side2 A163.out).mono ?_
       (case side1 => repeat (first | exact (Kd.C_below HR1.out HB.out) | (with_reducible refine Kd.C_alloc ?_ _) | (with_reducible refine Kd.C_drewN ?_ _) | (with_reducible refine Kd.C_drew ?_)))
       (case side2 => exact HC1.out)
       rintro e w' ⟨rfl, ⟨nd, rfl⟩⟩
       refine ⟨_, rfl, ?_⟩
       refine hK.out _ _ ⟨(blk_cell BK287.out 0).trans rfl, (blk_cell BK287.out 1).trans rfl, (blk_cell BK287.out 2).trans rfl, (blk_cell BK287.out 3).trans rfl⟩ (fun hHeld => ?_)
       clear hK K
       refine norm_ (a' := ?_) ?_ ?_
       rotate_left
       ·
        show Act.put _ (some 191) _ = _
        simp only [Act.put, List.setIfInBounds_toArray, List.set_cons_zero, List.set_cons_succ, i64_w, i32_w]
        rfl
       refine one_ (i := 3) (N := some 192) #[true, true, true, true, false, false, false, false, false] rfl rfl (one_of HT_.out (by kernel_rfl)) (by decide) (fun K hK => ?_)
       refine goes_ Try.func34 (by kernel_rfl) rfl #[.agg #[.int .i64 t280, .int .i64 t281, .int .i64 t282, .slice Ao30 t283.length co30], .int .i64 t330] (by rfl) rfl rfl zar ?_
       with_reducible refine (impl_DigestAt.calls k3 t280 t281 t282 _ _ t283 t330 t331 t332 _ ?side1 ?side2 A164.out).mono ?_
       (case side1 => repeat (first | exact (Kd.R_reads' HO_288003.out).2.2 | (with_reducible refine Kd.C_alloc ?_ _) | (with_reducible refine Kd.C_drewN ?_ _) | (with_reducible refine Kd.C_drew ?_)))
       (case side2 => exact (Kd.R_reads' HO_288003.out).2.1)
       rintro e w167 ⟨rfl, hb⟩
       refine ⟨_, rfl, ?_⟩
       have n0_ := Aside0.mk (Kd.R_below (zr HO_5) hb)
       have n1_ := Aside0.mk (Kd.R_below (zr HO_280003) hb)
       have n2_ := Aside0.mk (Kd.R_below (zr HO_288003) hb)
       have n3_ := Aside0.mk (Kd.R_below (zr HO_301003) hb)
       have n4_ := Aside0.mk (Kd.R_below (zr HO_313003) hb)
       have n5_ := Aside0.mk (Kd.R_below (zr HO_321003) hb)
       have n6_ := Aside0.mk (blk_below (zb BK279) hb)
       have n7_ := Aside0.mk (blk_below (zb BK287) hb)
       have n8_ := Aside0.mk (blk_below (zb BK300) hb)
       have n9_ := Aside0.mk (blk_below (zb BK312) hb)
       have n10_ := Aside0.mk (blk_below (zb BK320) hb)
       have n11_ := Aside0.mk (below_step (zg HB) hb)
       clear HO_5
       clear HO_280003
       clear HO_288003
       clear HO_301003
       clear HO_313003
       clear HO_321003
       clear BK279
       clear BK287
       clear BK300
       clear BK312
       clear BK320
       clear HB
       have HO_5 := n0_
       have HO_280003 := n1_
       have HO_288003 := n2_
       have HO_301003 := n3_
       have HO_313003 := n4_
       have HO_321003 := n5_
       have BK279 := n6_
       have BK287 := n7_
       have BK300 := n8_
       have BK312 := n9_
       have BK320 := n10_
       have HB := n11_
       clear n0_ n1_ n2_ n3_ n4_ n5_ n6_ n7_ n8_ n9_ n10_ n11_
       (try clear hb)
       (try clear hb2)
       (try clear hk)
       (try clear hi)
       refine hK.out _ _ ⟨(blk_cell BK287.out 0).trans rfl, (blk_cell BK287.out 1).trans rfl, (blk_cell BK287.out 2).trans rfl, (blk_cell BK287.out 3).trans rfl⟩ (fun hHeld => ?_)
       clear hK K
       refine norm_ (a' := ?_) ?_ ?_
       rotate_left
       ·
        show Act.put _ (some 192) _ = _
        simp only [Act.put, List.setIfInBounds_toArray, List.set_cons_zero, List.set_cons_succ, i64_w, i32_w]
        rfl
       refine pure_ (i := 4) (N := some 188) (v := ?_) (a' := ?_) #[true, true, true, true, true, false, false, false, false] rfl rfl (any_of HT_.out (by kernel_rfl)) (fun _ _ _ h => h) (Or.inl ⟨by rfl, ?_⟩) ?_ ?_
       rotate_left
       ·
        intro w'
        go_simp
        with_reducible rfl
       rotate_left
       ·
        simp only [Act.put, List.setIfInBounds_toArray, List.set_cons_zero, List.set_cons_succ, i64_w, i32_w]
        rfl
       refine pure_ (i := 5) (N := some 193) (v := ?_) (a' := ?_) #[true, true, true, true, true, true, false, false, false] rfl rfl (any_of HT_.out (by kernel_rfl)) (fun _ _ _ h => h) (Or.inl ⟨by rfl, ?_⟩) ?_ ?_
       rotate_left
       ·
        intro w'
        go_simp
        with_reducible rfl
       rotate_left
       ·
        simp only [Act.put, List.setIfInBounds_toArray, List.set_cons_zero, List.set_cons_succ, i64_w, i32_w]
        rfl
       refine pure_ (i := 6) (N := some 194) (v := ?_) (a' := ?_) #[true, true, true, true, true, true, true, false, false] rfl rfl (any_of HT_.out (by kernel_rfl)) (fun _ _ _ h => h) (Or.inl ⟨by rfl, ?_⟩) ?_ ?_
       rotate_left
       ·
        intro w'
        go_simp
        with_reducible rfl
       rotate_left
       ·
        simp only [Act.put, List.setIfInBounds_toArray, List.set_cons_zero, List.set_cons_succ, i64_w, i32_w]
        rfl
       refine pure_ (i := 7) (N := some 24) (v := ?_) (a' := ?_) #[true, true, true, true, true, true, true, true, false] rfl rfl (any_of HT_.out (by kernel_rfl)) (fun _ _ _ h => h) (Or.inl ⟨by rfl, ?_⟩) ?_ ?_
       rotate_left
       ·
        intro w'
        go_simp
        with_reducible rfl
       rotate_left
       ·
        simp only [Act.put, List.setIfInBounds_toArray, List.set_cons_zero, List.set_cons_succ, i64_w, i32_w]
        rfl
       refine pure_ (i := 8) (N := some 25) (v := ?_) (a' := ?_) #[true, true, true, true, true, true, true, true, true] rfl rfl (any_of HT_.out (by kernel_rfl)) (fun _ _ _ h => h) (Or.inl ⟨by rfl, ?_⟩) ?_ ?_
       rotate_left
       ·
        intro w'
        go_simp
        with_reducible rfl
       rotate_left
       ·
        simp only [Act.put, List.setIfInBounds_toArray, List.set_cons_zero, List.set_cons_succ, i64_w, i32_w]
        rfl
       refine done_ (done_of HT_.out (by kernel_rfl)) ?_
       try go_wp2
       go_ret
       exact ⟨zre, zg HB⟩
      ·
       rw [if_neg c165] at H
       have c165b0 : ((t268.length : Int) == 0) = false := beq_eq_false_iff_ne.mpr c165
       have c165b1 : ((t268.length : Int) != 0) = true := bne_iff_ne.mpr c165
       have c165b2 : ¬ (t268 = []) := fun h_ => c165 (by rw [h_]; rfl)
       have H' := Aside0.mk H
       clear H
       try go_wp2
       have n0_ := Aside0.mk (Kd.R_drew HO_5.out)
       have n1_ := Aside0.mk (Kd.R_drew HO_280003.out)
       have n2_ := Aside0.mk (Kd.R_drew HO_288003.out)
       have n3_ := Aside0.mk (Kd.R_drew HO_301003.out)
       have n4_ := Aside0.mk (Kd.R_drew HO_313003.out)
       have n5_ := Aside0.mk (Kd.R_drew HO_321003.out)
       have n6_ := Aside0.mk (blk_drew BK279.out)
       have n7_ := Aside0.mk (blk_drew BK287.out)
       have n8_ := Aside0.mk (blk_drew BK300.out)
       have n9_ := Aside0.mk (blk_drew BK312.out)
       have n10_ := Aside0.mk (blk_drew BK320.out)
       have n11_ := Aside0.mk (below_drew1 HB.out)
       clear HO_5
       clear HO_280003
       clear HO_288003
       clear HO_301003
       clear HO_313003
       clear HO_321003
       clear BK279
       clear BK287
       clear BK300
       clear BK312
       clear BK320
       clear HB
       have HO_5 := n0_
       have HO_280003 := n1_
       have HO_288003 := n2_
       have HO_301003 := n3_
       have HO_313003 := n4_
       have HO_321003 := n5_
       have BK279 := n6_
       have BK287 := n7_
       have BK300 := n8_
       have BK312 := n9_
       have BK320 := n10_
       have HB := n11_
       clear n0_ n1_ n2_ n3_ n4_ n5_ n6_ n7_ n8_ n9_ n10_ n11_
       refine start_ (n := 9) (S := fun w' => w'.cell? ⟨gb287, 0, none⟩ = some (.int .i64 t280) ∧ w'.cell? ⟨gb287, 1, none⟩ = some (.int .i64 t281) ∧ w'.cell? ⟨gb287, 2, none⟩ = some (.int .i64 t282) ∧ w'.cell? ⟨gb287, 3, none⟩ = some (.slice Ao30 t283.length co30)) (ds := []) #[false, false, false, false, false, false, false, false, false] (by kernel_rfl) rfl rfl ⟨(blk_cell BK287.out 0).trans rfl, (blk_cell BK287.out 1).trans rfl, (blk_cell BK287.out 2).trans rfl, (blk_cell BK287.out 3).trans rfl⟩ (fun hHeld => ?_); refine with_tabW laws_FnDigest.tab31 laws_FnDigest.bits31 (fun HT_ HW_ => ?_)
       generalize wr.drew = w168 at HO_5 HO_280003 HO_288003 HO_301003 HO_313003 HO_321003 BK279 BK287 BK300 BK312 BK320 HB hHeld ⊢
       refine pure_ (i := 1) (N := some 190) (v := ?_) (a' := ?_) #[false, true, false, false, false, false, false, false, false] rfl rfl (any_of HT_.out (by kernel_rfl)) (fun _ _ _ h => h) (Or.inl ⟨by rfl, ?_⟩) ?_ ?_
       rotate_left
       ·
        intro w'
        go_simp
        with_reducible rfl
       rotate_left
       ·
        simp only [Act.put, List.setIfInBounds_toArray, List.set_cons_zero, List.set_cons_succ, i64_w, i32_w]
        rfl
       refine take_ (i := 0) (N := some 189) (v := ?_) (a' := ?_) #[true, true, false, false, false, false, false, false, false] rfl rfl (take_ofW HT_.out HW_.out (by kernel_rfl)) (fun _ _ _ h => h) (Or.inl ⟨by rfl, ?_⟩) hHeld ?_ ?_
       rotate_left
       ·
        rintro w' ⟨s0, s1, s2, s3⟩
        go_simp
        with_reducible rfl
       rotate_left
       ·
        simp only [Act.put, List.setIfInBounds_toArray, List.set_cons_zero, List.set_cons_succ, i64_w, i32_w]
        rfl
       refine one_ (i := 2) (N := some 191) #[true, true, true, false, false, false, false, false, false] rfl rfl (one_of HT_.out (by kernel_rfl)) (by decide) (fun K hK => ?_)
       refine goes_ Try.func31 (by kernel_rfl) rfl #[.slice A1 l1.length c1, .int .i64 1, .int .i64 101] (by rfl) rfl rfl zar ?_
       with_reducible refine (laws_at.calls _ _ l1 1 101 t330 _ ?side1 ?side2 A163.out).mono ?_
       (case side1 => repeat (first | exact (Kd.C_below HR1.out HB.out) | (with_reducible refine Kd.C_alloc ?_ _) | (with_reducible refine Kd.C_drewN ?_ _) | (with_reducible refine Kd.C_drew ?_)))
       (case side2 => exact HC1.out)
       rintro e w' ⟨rfl, ⟨nd, rfl⟩⟩
       refine ⟨_, rfl, ?_⟩
       refine hK.out _ _ ⟨(blk_cell BK287.out 0).trans rfl, (blk_cell BK287.out 1).trans rfl, (blk_cell BK287.out 2).trans rfl, (blk_cell BK287.out 3).trans rfl⟩ (fun hHeld => ?_)
       clear hK K
       refine norm_ (a' := ?_) ?_ ?_
       rotate_left
       ·
        show Act.put _ (some 191) _ = _
        simp only [Act.put, List.setIfInBounds_toArray, List.set_cons_zero, List.set_cons_succ, i64_w, i32_w]
        rfl
       refine one_ (i := 3) (N := some 192) #[true, true, true, true, false, false, false, false, false] rfl rfl (one_of HT_.out (by kernel_rfl)) (by decide) (fun K hK => ?_)
       refine goes_ Try.func34 (by kernel_rfl) rfl #[.agg #[.int .i64 t280, .int .i64 t281, .int .i64 t282, .slice Ao30 t283.length co30], .int .i64 t330] (by rfl) rfl rfl zar ?_
       with_reducible refine (impl_DigestAt.calls k3 t280 t281 t282 _ _ t283 t330 t331 t332 _ ?side1 ?side2 A164.out).mono ?_
       (case side1 => repeat (first | exact (Kd.R_reads' HO_288003.out).2.2 | (with_reducible refine Kd.C_alloc ?_ _) | (with_reducible refine Kd.C_drewN ?_ _) | (with_reducible refine Kd.C_drew ?_)))
       (case side2 => exact (Kd.R_reads' HO_288003.out).2.1)
       rintro e w169 ⟨rfl, hb⟩
       refine ⟨_, rfl, ?_⟩
       have n0_ := Aside0.mk (Kd.R_below (zr HO_5) hb)
       have n1_ := Aside0.mk (Kd.R_below (zr HO_280003) hb)
       have n2_ := Aside0.mk (Kd.R_below (zr HO_288003) hb)
       have n3_ := Aside0.mk (Kd.R_below (zr HO_301003) hb)
       have n4_ := Aside0.mk (Kd.R_below (zr HO_313003) hb)
       have n5_ := Aside0.mk (Kd.R_below (zr HO_321003) hb)
       have n6_ := Aside0.mk (blk_below (zb BK279) hb)
       have n7_ := Aside0.mk (blk_below (zb BK287) hb)
       have n8_ := Aside0.mk (blk_below (zb BK300) hb)
       have n9_ := Aside0.mk (blk_below (zb BK312) hb)
       have n10_ := Aside0.mk (blk_below (zb BK320) hb)
       have n11_ := Aside0.mk (below_step (zg HB) hb)
       clear HO_5
       clear HO_280003
       clear HO_288003
       clear HO_301003
       clear HO_313003
       clear HO_321003
       clear BK279
       clear BK287
       clear BK300
       clear BK312
       clear BK320
       clear HB
       have HO_5 := n0_
       have HO_280003 := n1_
       have HO_288003 := n2_
       have HO_301003 := n3_
       have HO_313003 := n4_
       have HO_321003 := n5_
       have BK279 := n6_
       have BK287 := n7_
       have BK300 := n8_
       have BK312 := n9_
       have BK320 := n10_
       have HB := n11_
       clear n0_ n1_ n2_ n3_ n4_ n5_ n6_ n7_ n8_ n9_ n10_ n11_
       (try clear hb)
       (try clear hb2)
       (try clear hk)
       (try clear hi)
       refine hK.out _ _ ⟨(blk_cell BK287.out 0).trans rfl, (blk_cell BK287.out 1).trans rfl, (blk_cell BK287.out 2).trans rfl, (blk_cell BK287.out 3).trans rfl⟩ (fun hHeld => ?_)
       clear hK K
       refine norm_ (a' := ?_) ?_ ?_
       rotate_left
       ·
        show Act.put _ (some 192) _ = _
        simp only [Act.put, List.setIfInBounds_toArray, List.set_cons_zero, List.set_cons_succ, i64_w, i32_w]
        rfl
       refine pure_ (i := 4) (N := some 188) (v := ?_) (a' := ?_) #[true, true, true, true, true, false, false, false, false] rfl rfl (any_of HT_.out (by kernel_rfl)) (fun _ _ _ h => h) (Or.inl ⟨by rfl, ?_⟩) ?_ ?_
       rotate_left
       ·
        intro w'
        go_simp
        with_reducible rfl
       rotate_left
       ·
        simp only [Act.put, List.setIfInBounds_toArray, List.set_cons_zero, List.set_cons_succ, i64_w, i32_w]
        rfl
       refine pure_ (i := 5) (N := some 193) (v := ?_) (a' := ?_) #[true, true, true, true, true, true, false, false, false] rfl rfl (any_of HT_.out (by kernel_rfl)) (fun _ _ _ h => h) (Or.inl ⟨by rfl, ?_⟩) ?_ ?_
       rotate_left
       ·
        intro w'
        go_simp
        with_reducible rfl
       rotate_left
       ·
        simp only [Act.put, List.setIfInBounds_toArray, List.set_cons_zero, List.set_cons_succ, i64_w, i32_w]
        rfl
       refine pure_ (i := 6) (N := some 194) (v := ?_) (a' := ?_) #[true, true, true, true, true, true, true, false, false] rfl rfl (any_of HT_.out (by kernel_rfl)) (fun _ _ _ h => h) (Or.inl ⟨by rfl, ?_⟩) ?_ ?_
       rotate_left
       ·
        intro w'
        go_simp
        with_reducible rfl
       rotate_left
       ·
        simp only [Act.put, List.setIfInBounds_toArray, List.set_cons_zero, List.set_cons_succ, i64_w, i32_w]
        rfl
       refine pure_ (i := 7) (N := some 24) (v := ?_) (a' := ?_) #[true, true, true, true, true, true, true, true, false] rfl rfl (any_of HT_.out (by kernel_rfl)) (fun _ _ _ h => h) (Or.inl ⟨by rfl, ?_⟩) ?_ ?_
       rotate_left
       ·
        intro w'
        go_simp
        with_reducible rfl
       rotate_left
       ·
        simp only [Act.put, List.setIfInBounds_toArray, List.set_cons_zero, List.set_cons_succ, i64_w, i32_w]
        rfl
       refine pure_ (i := 8) (N := some 25) (v := ?_) (a' := ?_) #[true, true, true, true, true, true, true, true, true] rfl rfl (any_of HT_.out (by kernel_rfl)) (fun _ _ _ h => h) (Or.inl ⟨by rfl, ?_⟩) ?_ ?_
       rotate_left
       ·
        intro w'
        go_simp
        with_reducible rfl
       rotate_left
       ·
        simp only [Act.put, List.setIfInBounds_toArray, List.set_cons_zero, List.set_cons_succ, i64_w, i32_w]
        rfl
       refine done_ (done_of HT_.out (by kernel_rfl)) ?_
       try go_wp2
       go_loopg [26, 27] k3 (fun kq v26 v27 w' => ∃ (x26_4 : Bool) (x27_4 : Int), v26 = .bool x26_4 ∧ v27 = .int .i64 x27_4 ∧ Aside0 (laws_FnDigest.l2 kq t268 t331 t332 x26_4 x27_4 = some r) ∧ Aside0 (kq ≤ k3) ∧ Aside0 (Kd.R (Kd.int .i64) 3 w' w.heap.size (fun k_ => some k_ ≠ ((.slice Ao25 t275.length co25) : Value).ownBlock ∧ some k_ ≠ ((.slice Ao30 t283.length co30) : Value).ownBlock ∧ some k_ ≠ ((.slice Ao38 t296.length co38) : Value).ownBlock ∧ some k_ ≠ ((.slice Ao47 t308.length co47) : Value).ownBlock ∧ some k_ ≠ ((.slice Ao56 t316.length co56) : Value).ownBlock) (.slice Ao21 t268.length co21) t268) ∧ Aside0 (Kd.R (Kd.int .i64) 3 w' w.heap.size (fun k_ => some k_ ≠ ((.slice Ao21 t268.length co21) : Value).ownBlock ∧ some k_ ≠ ((.slice Ao30 t283.length co30) : Value).ownBlock ∧ some k_ ≠ ((.slice Ao38 t296.length co38) : Value).ownBlock ∧ some k_ ≠ ((.slice Ao47 t308.length co47) : Value).ownBlock ∧ some k_ ≠ ((.slice Ao56 t316.length co56) : Value).ownBlock) (.slice Ao25 t275.length co25) t275) ∧ Aside0 (Kd.R (Kd.int .i64) 3 w' w.heap.size (fun k_ => some k_ ≠ ((.slice Ao21 t268.length co21) : Value).ownBlock ∧ some k_ ≠ ((.slice Ao25 t275.length co25) : Value).ownBlock ∧ some k_ ≠ ((.slice Ao38 t296.length co38) : Value).ownBlock ∧ some k_ ≠ ((.slice Ao47 t308.length co47) : Value).ownBlock ∧ some k_ ≠ ((.slice Ao56 t316.length co56) : Value).ownBlock) (.slice Ao30 t283.length co30) t283) ∧ Aside0 (Kd.R (Kd.int .i64) 3 w' w.heap.size (fun k_ => some k_ ≠ ((.slice Ao21 t268.length co21) : Value).ownBlock ∧ some k_ ≠ ((.slice Ao25 t275.length co25) : Value).ownBlock ∧ some k_ ≠ ((.slice Ao30 t283.length co30) : Value).ownBlock ∧ some k_ ≠ ((.slice Ao47 t308.length co47) : Value).ownBlock ∧ some k_ ≠ ((.slice Ao56 t316.length co56) : Value).ownBlock) (.slice Ao38 t296.length co38) t296) ∧ Aside0 (Kd.R (Kd.int .i64) 3 w' w.heap.size (fun k_ => some k_ ≠ ((.slice Ao21 t268.length co21) : Value).ownBlock ∧ some k_ ≠ ((.slice Ao25 t275.length co25) : Value).ownBlock ∧ some k_ ≠ ((.slice Ao30 t283.length co30) : Value).ownBlock ∧ some k_ ≠ ((.slice Ao38 t296.length co38) : Value).ownBlock ∧ some k_ ≠ ((.slice Ao56 t316.length co56) : Value).ownBlock) (.slice Ao47 t308.length co47) t308) ∧ Aside0 (Kd.R (Kd.int .i64) 3 w' w.heap.size (fun k_ => some k_ ≠ ((.slice Ao21 t268.length co21) : Value).ownBlock ∧ some k_ ≠ ((.slice Ao25 t275.length co25) : Value).ownBlock ∧ some k_ ≠ ((.slice Ao30 t283.length co30) : Value).ownBlock ∧ some k_ ≠ ((.slice Ao38 t296.length co38) : Value).ownBlock ∧ some k_ ≠ ((.slice Ao47 t308.length co47) : Value).ownBlock) (.slice Ao56 t316.length co56) t316) ∧ Aside0 (w'.heap[gb279]? = some (.cells #[.int .i64 t272, .int .i64 t273, .int .i64 t274, (.slice Ao25 t275.length co25)] 37 (0, 0))) ∧ Aside0 (w'.heap[gb287]? = some (.cells #[.int .i64 t280, .int .i64 t281, .int .i64 t282, (.slice Ao30 t283.length co30)] 37 (0, 0))) ∧ Aside0 (w'.heap[gb300]? = some (.cells #[.int .i64 t293, .int .i64 t294, .int .i64 t295, (.slice Ao38 t296.length co38)] 37 (0, 0))) ∧ Aside0 (w'.heap[gb312]? = some (.cells #[.int .i64 t305, .int .i64 t306, .int .i64 t307, (.slice Ao47 t308.length co47)] 37 (0, 0))) ∧ Aside0 (w'.heap[gb320]? = some (.cells #[.int .i64 t313, .int .i64 t314, .int .i64 t315, (.slice Ao56 t316.length co56)] 37 (0, 0))) ∧ Aside0 (Below w.heap.size w w'))
       case atStart => exact ⟨(false), (0), (by first | rfl | (simp; done) | (simp [*]; done)), (by first | rfl | (simp; done) | (simp [*]; done)), H', ⟨Nat.le_refl _⟩, ⟨zr HO_5⟩, ⟨zr HO_280003⟩, ⟨zr HO_288003⟩, ⟨zr HO_301003⟩, ⟨zr HO_313003⟩, ⟨zr HO_321003⟩, ⟨zb BK279⟩, ⟨zb BK287⟩, ⟨zb BK300⟩, ⟨zb BK312⟩, ⟨zb BK320⟩, ⟨zg HB⟩⟩
       case round =>
        clear H'
        try clear c1
        try clear p2
        try clear c3
        try clear p3
        try clear q3
        try clear hx3
        try clear q4
        try clear p6
        try clear c11
        try clear c12
        try clear c13
        try clear c14
        try clear c15
        try clear c16
        try clear c31
        try clear p32
        try clear q32
        try clear hx32
        try clear c33
        try clear c34
        try clear q40
        try clear p64
        try clear c111
        try clear c111b0
        try clear c127
        try clear c129
        try clear c129b0
        try clear c129b1
        try clear c130
        try clear c130b0
        try clear c130b1
        try clear c131
        try clear c131b0
        try clear c132
        try clear c133
        try clear c134
        try clear c135
        try clear c138
        try clear c138b0
        try clear c139
        try clear c140
        try clear c141
        try clear c142
        try clear c145
        try clear c146
        try clear c147
        try clear c148
        try clear c151
        try clear c152
        try clear c153
        try clear c154
        try clear c157
        try clear c158
        try clear c159
        try clear c160
        try clear c165
        try clear c165b0
        try clear c165b1
        try clear c165b2
        try clear hcz136_0
        try clear hcz136_1
        try clear hcz136_2
        try clear hcz136_3
        try clear hcz143_0
        try clear hcz143_1
        try clear hcz143_2
        try clear hcz143_3
        try clear hcz149_0
        try clear hcz149_1
        try clear hcz149_2
        try clear hcz149_3
        try clear hcz155_0
        try clear hcz155_1
        try clear hcz155_2
        try clear hcz155_3
        try clear hcz161_0
        try clear hcz161_1
        try clear hcz161_2
        try clear hcz161_3
        try clear hfz106_2
        try clear hfz106_3
        try clear hfz109_0
        try clear hfz109_1
        try clear hfz109_2
        try clear hfz109_3
        try clear hfz121_0
        try clear hfz121_1
        try clear hfz121_2
        try clear hfz121_3
        try clear hfz136_0
        try clear hfz136_1
        try clear hfz136_2
        try clear hfz136_3
        try clear hfz143_0
        try clear hfz143_1
        try clear hfz143_2
        try clear hfz143_3
        try clear hfz149_0
        try clear hfz149_1
        try clear hfz149_2
        try clear hfz149_3
        try clear hfz155_0
        try clear hfz155_1
        try clear hfz155_2
        try clear hfz155_3
        try clear hfz161_0
        try clear hfz161_1
        try clear hfz161_2
        try clear hfz161_3
        try clear hfz24_0
        try clear hfz24_1
        try clear hfz24_2
        try clear hfz24_3
        try clear hfz29_0
        try clear hfz29_1
        try clear hfz29_2
        try clear hfz29_3
        try clear hfz37_0
        try clear hfz37_1
        try clear hfz37_2
        try clear hfz37_3
        try clear hfz46_0
        try clear hfz46_1
        try clear hfz46_2
        try clear hfz46_3
        try clear hfz48_0
        try clear hfz48_1
        try clear hfz48_2
        try clear hfz48_3
        try clear hfz55_0
        try clear hfz55_1
        try clear hfz55_2
        try clear hfz55_3
        try clear hfz66_0
        try clear hfz66_1
        try clear hfz66_2
        try clear hfz66_3
        try clear hfz72_0
        try clear hfz72_1
        try clear hfz72_2
        try clear hfz72_3
        try clear hfz78_0
        try clear hfz78_1
        try clear hfz78_2
        try clear hfz78_3
        try clear hfz82_0
        try clear hfz82_1
        try clear hfz82_2
        try clear hfz82_3
        try clear hfz89_0
        try clear hfz89_1
        try clear hfz89_2
        try clear hfz89_3
        try clear hfz93_0
        try clear hfz93_1
        try clear hfz93_2
        try clear hfz93_3
        try clear hfz96_0
        try clear hfz96_1
        try clear hfz96_2
        try clear hfz96_3
        try clear hx323_0
        try clear p2
        try clear p323
        try clear p6
        try clear p64
        try clear q040
        try clear q3
        try clear q32
        try clear q323
        try clear q4
        try clear q40
        obtain ⟨x26_4, x27_4, rfl, rfl, HA, HK4, HO_5, HO_280003, HO_288003, HO_301003, HO_313003, HO_321003, BK279, BK287, BK300, BK312, BK320, HB⟩ := hrel
        cases gk with
        | zero => exact absurd HA.out (by simp [laws_FnDigest.l2])
        | succ k4 =>
         have H := HA.out
         clear HA
         simp only [laws_FnDigest.l2] at H
         by_cases c170 : x27_4 < (t268.length : Int)
         ·
          rw [if_pos c170] at H
          have c170b0 : decide (x27_4 < (t268.length : Int)) = true := decide_eq_true c170
          clear c170
          by_cases c171 : x26_4 = true
          ·
           subst c171
           have H1 : (laws_FnDigest.l2 k4 t268 t331 t332 true (wrap64 (x27_4 + 1))) = some r := by rw [if_pos rfl] at H; exact H
           clear H
           have H := H1
           clear H1
           have H' := Aside0.mk H
           clear H
           go_wp2
           go_roundg k4
           case measure => have := HJ2.out; have := HJ18.out; have := HK3.out; have := HK4.out; omega
           case rel => exact ⟨(true), (wrap64 (x27_4 + 1)), (by first | rfl | (simp; done) | (simp [*]; done)), (by first | rfl | (simp; done) | (simp [*]; done)), H', ⟨by have := HJ2.out; have := HJ18.out; have := HK3.out; have := HK4.out; omega⟩, ⟨zr HO_5⟩, ⟨zr HO_280003⟩, ⟨zr HO_288003⟩, ⟨zr HO_301003⟩, ⟨zr HO_313003⟩, ⟨zr HO_321003⟩, ⟨zb BK279⟩, ⟨zb BK287⟩, ⟨zb BK300⟩, ⟨zb BK312⟩, ⟨zb BK320⟩, ⟨zg HB⟩⟩
          ·
           replace c171 := Bool.eq_false_iff.mpr c171
           subst c171
           have H1 : (if 0 ≤ x27_4 then (laws_FnDigest.l2 k4 t268 t331 t332 ((rd t268 x27_4) == t331) (wrap64 (x27_4 + 1))) else (none)) = some r := by rw [if_neg (show ¬ (false = true) by decide)] at H; exact H
           clear H
           have H := H1
           clear H1
           by_cases c172 : 0 ≤ x27_4
           ·
            rw [if_pos c172] at H
            have c172b0 : decide (0 ≤ x27_4) = true := decide_eq_true c172
            clear c172
            have H' := Aside0.mk H
            clear H
            have p333 : 0 ≤ (x27_4 : Int) := of_decide_eq_true zas
            have q333 : x27_4 < (t268.length : Int) := of_decide_eq_true zas
            obtain ⟨ad333, e333, hx333_0⟩ := Kd.at_int (Kd.R_reads' HO_5.out).2.2 x27_4 p333 q333
            cases e333
            replace p333 := eq_true p333
            replace q333 := eq_true q333
            go_wp2
            go_roundg k4
            case measure => have := HJ2.out; have := HJ18.out; have := HK3.out; have := HK4.out; omega
            case rel => exact ⟨(((rd t268 x27_4) == t331)), (wrap64 (x27_4 + 1)), (by first | rfl | (simp; done) | (simp [*]; done)), (by first | rfl | (simp; done) | (simp [*]; done)), H', ⟨by have := HJ2.out; have := HJ18.out; have := HK3.out; have := HK4.out; omega⟩, ⟨zr HO_5⟩, ⟨zr HO_280003⟩, ⟨zr HO_288003⟩, ⟨zr HO_301003⟩, ⟨zr HO_313003⟩, ⟨zr HO_321003⟩, ⟨zb BK279⟩, ⟨zb BK287⟩, ⟨zb BK300⟩, ⟨zb BK312⟩, ⟨zb BK320⟩, ⟨zg HB⟩⟩
           ·
            rw [if_neg c172] at H
            exact absurd H (by simp)
         ·
          rw [if_neg c170] at H
          have c170b0 : decide (x27_4 < (t268.length : Int)) = false := decide_eq_false c170
          clear c170
          by_cases c173 : t332 = 0
          ·
           rw [if_pos c173] at H
           have c173b0 : (t332 == 0) = true := beq_iff_eq.mpr c173
           have c173b1 : (t332 != 0) = false := bne_eq_false_iff_eq.mpr c173
           clear c173
           obtain rfl := Option.some.inj H
           go_wp2
           go_ret
           exact ⟨zre, zg HB⟩
          ·
           rw [if_neg c173] at H
           have c173b0 : (t332 == 0) = false := beq_eq_false_iff_ne.mpr c173
           have c173b1 : (t332 != 0) = true := bne_iff_ne.mpr c173
           obtain rfl := Option.some.inj H
           go_wp2
           go_ret
           exact ⟨zre, zg HB⟩
end Go.Proofs.Ytchoncnahlcfjaa.XFnDigest
