-- A text of this session: written by its own program (wip/x/xprint.py), which runs the kit's printer with contracts of its own.
import Derived.Test.YtchoncnahlcfjaaDoorXFnSketchx0
import Derived.Test.YtchoncnahlcfjaaDoorXFnSketchx1
import Derived.Test.YtchoncnahlcfjaaDoorXFnSketchx2
import Derived.Test.YtchoncnahlcfjaaDoorXFnSketchx4
import Derived.Test.YtchoncnahlcfjaaDoorXFnSketchx5
import Derived.Test.YtchoncnahlcfjaaDoorXFnSketchx6
import Derived.Test.YtchoncnahlcfjaaDoorXFnSketchx7
import Derived.Test.YtchoncnahlcfjaaDoorXFnSketchx8h
namespace Go.Proofs.YtchoncnahlcfjaaDoor.XFnSketch
open Go.RowKit Go.Proofs.YtchoncnahlcfjaaDoorW.PrintWords Go.Proofs.YtchoncnahlcfjaaDoorW.PrintLast Go.Proofs.YtchoncnahlcfjaaDoorW.PrintMore
attribute [local go_sem] max2_int min2_int max_two min_two max_three min_three max_four min_four   -- for this text's walks alone
set_option linter.unusedVariables false
set_option linter.unusedSimpArgs false

set_option maxHeartbeats 8000000 in
set_option maxRecDepth 100000 in
theorem laws_FnSketch.reg0 {Q_ : Exit → Act → World → Prop}
  (k : Nat)
  (A0 : Option Addr)
  (c0 : Nat)
  (l0 : List Int)
  (r : Bool)
  (w : World)
  (hu26 : Tryd.prog.underlying 26 =
    some
      (TypeDesc.struct
        #[{ name := "Slots", type := 24, offset := 0, embedded := false, tag := "", pkgPath := "", byteOffset := 0 }]))
  (HR0 : Aside0 ((Kd.int IntKind.u8).C w A0 l0.length l0))
  (HT : Aside0 (TabW w))
  (t240 : List ByteArray)
  (A3 : Aside0 (spec_DrawSketchOf.f k l0 = some t240))
  (t243 : List Int)
  (t246 : Int)
  (A4 : Aside0 (spec_SketchOf.f k t240 = some (t243, t246)))
  (t248 : List Int)
  (t251 : Int)
  (A5 : Aside0 (impl_SketchOf.f k t240 = some (t248, t251)))
  (w7 : World)
  (co8 : Nat)
  (w9 : World)
  (gb247 : Nat)
  (w10 : World)
  (GW247 GE247 : Aside0 (w.heap.size ≤ gb247))
  (Ao11 : Option Addr)
  (co11 : Nat)
  (w13 : World)
  (gb252 : Nat)
  (w14 : World)
  (GW252 GE252 : Aside0 (w.heap.size ≤ gb252))
  (NB247_252 : Aside0 (gb247 ≠ gb252))
  (NB252_247 : Aside0 (gb252 ≠ gb247))
  (Ao15 : Option Addr)
  (co15 : Nat)
  (HO245 : Aside0
    ((Kd.int IntKind.i64).R 3 w14 w.heap.size (fun k => True ∧ some k ≠ (Value.slice Ao15 t248.length co15).ownBlock)
      (Value.slice Ao11 t243.length co11) t243))
  (HO250 : Aside0
    ((Kd.int IntKind.i64).R 3 w14 w.heap.size (fun k => True ∧ some k ≠ (Value.slice Ao11 t243.length co11).ownBlock)
      (Value.slice Ao15 t248.length co15) t248))
  (hnb16 : gb252 ≠ gb247)
  (hnc16 : gb247 ≠ gb252)
  (kj5 : Nat)
  (HJ5 : Aside0 (kj5 + 1 ≤ k))
  (kj23 : Nat)
  (HJ23 : Aside0 (kj23 + 1 ≤ kj5))
  (y255 : List ByteArray)
  (Ny255 : Aside0 (y255 = [rdOf ByteArray.empty t240 0]))
  (ad254 : Addr)
  (HO242 : Aside0 (Kd.string.R 9 w14 w.heap.size (fun x => True) (Value.slice (some ad254) t240.length co8) t240))
  (qi254 : (0 < t240.length) = True)
  (v256 : Value)
  (w29 : World)
  (HO257 : Aside0
    (Kd.string.R 9 w29 w.heap.size (fun k => True ∧ some k ≠ (Value.slice (some ad254) t240.length co8).ownBlock) v256
      y255))
  (wr : World)
  (x8_3 : List ByteArray)
  (x9_3 : Int)
  (k3 : Nat)
  (HK3 : Aside0 (k3 + 1 ≤ kj23))
  (t262 : List Int)
  (t265 : Int)
  (A36 : Aside0 (impl_SketchOf.f k3 x8_3 = some (t262, t265)))
  (ji37 : Int)
  (hji37 : wrap64 ((↑t240.length : Int) / 2) = ji37)
  (hji37w : IntKind.i64.wrap ((↑t240.length : Int) / 2) = ji37)
  (y267 : List ByteArray)
  (Ny267 : Aside0 (y267 = List.take ji37.toNat t240))
  (t271 : List Int)
  (t274 : Int)
  (A40 : Aside0 (impl_SketchOf.f k3 y267 = some (t271, t274)))
  (y276 : List ByteArray)
  (Ny276 : Aside0 (y276 = List.drop ji37.toNat t240))
  (t280 : List Int)
  (t283 : Int)
  (A43 : Aside0 (impl_SketchOf.f k3 y276 = some (t280, t283)))
  (t285 : List Int)
  (t288 : Int)
  (A44 : Aside0 (impl_SketchJoin.f k3 t271 t280 = some (t285, t288)))
  (Ao46 : Option Addr)
  (co46 : Nat)
  (w47 : World)
  (gb266 : Nat)
  (w48 : World)
  (GW266 GE266 : Aside0 (w.heap.size ≤ gb266))
  (NB247_266 : Aside0 (gb247 ≠ gb266))
  (NB266_247 : Aside0 (gb266 ≠ gb247))
  (NB252_266 : Aside0 (gb252 ≠ gb266))
  (NB266_252 : Aside0 (gb266 ≠ gb252))
  (Ao49 : Option Addr)
  (co49 : Nat)
  (hnb50 : gb266 ≠ gb247)
  (hnc50 : gb247 ≠ gb266)
  (hnb51 : gb266 ≠ gb252)
  (hnc51 : gb252 ≠ gb266)
  (w53 : World)
  (i054 : TypeInfo)
  (hcut54 : ∀ (W : World),
    Sem.run Tryd.prog
        (Instr.slice 22 (Value.slice (some ad254) t240.length co8) none (some (Value.int IntKind.i64 ji37)) none) W =
      Result.ok (Value.slice (some ad254) y267.length co8) W)
  (KY54 : Aside0 (y267.length = ji37.toNat))
  (KL54 : Aside0 (ji37.toNat ≤ t240.length))
  (w55 : World)
  (gb275 : Nat)
  (w56 : World)
  (HR270 : Aside0 (Kd.string.C w56 (some ad254) y267.length y267))
  (GW275 GE275 : Aside0 (w.heap.size ≤ gb275))
  (NB247_275 : Aside0 (gb247 ≠ gb275))
  (NB275_247 : Aside0 (gb275 ≠ gb247))
  (NB252_275 : Aside0 (gb252 ≠ gb275))
  (NB275_252 : Aside0 (gb275 ≠ gb252))
  (NB266_275 : Aside0 (gb266 ≠ gb275))
  (NB275_266 : Aside0 (gb275 ≠ gb266))
  (Ao57 : Option Addr)
  (co57 : Nat)
  (hnb58 : gb275 ≠ gb247)
  (hnc58 : gb247 ≠ gb275)
  (hnb59 : gb275 ≠ gb252)
  (hnc59 : gb252 ≠ gb275)
  (hnb60 : gb275 ≠ gb266)
  (hnc60 : gb266 ≠ gb275)
  (w62 : World)
  (i063 : TypeInfo)
  (A63 : Option Addr)
  (c63 : Nat)
  (hcut63 : ∀ (W : World),
    Sem.run Tryd.prog
        (Instr.slice 22 (Value.slice (some ad254) t240.length co8) (some (Value.int IntKind.i64 ji37)) none none) W =
      Result.ok (Value.slice A63 y276.length c63) W)
  (KY63 : Aside0 (y276.length = t240.length - ji37.toNat))
  (KA63 : Aside0 (A63 = if co8 = ji37.toNat then some ad254 else Option.map (fun x => x.add (ji37.toNat * 1)) (some ad254)))
  (KL63 : Aside0 (ji37.toNat ≤ t240.length))
  (w64 : World)
  (gb284 : Nat)
  (w65 : World)
  (HR279 : Aside0 (Kd.string.C w65 A63 y276.length y276))
  (GW284 GE284 : Aside0 (w.heap.size ≤ gb284))
  (NB247_284 : Aside0 (gb247 ≠ gb284))
  (NB284_247 : Aside0 (gb284 ≠ gb247))
  (NB252_284 : Aside0 (gb252 ≠ gb284))
  (NB284_252 : Aside0 (gb284 ≠ gb252))
  (NB266_284 : Aside0 (gb266 ≠ gb284))
  (NB284_266 : Aside0 (gb284 ≠ gb266))
  (NB275_284 : Aside0 (gb275 ≠ gb284))
  (NB284_275 : Aside0 (gb284 ≠ gb275))
  (Ao66 : Option Addr)
  (co66 : Nat)
  (hnb67 : gb284 ≠ gb247)
  (hnc67 : gb247 ≠ gb284)
  (hnb68 : gb284 ≠ gb252)
  (hnc68 : gb252 ≠ gb284)
  (hnb69 : gb284 ≠ gb266)
  (hnc69 : gb266 ≠ gb284)
  (hnb70 : gb284 ≠ gb275)
  (hnc70 : gb275 ≠ gb284)
  (w73 : World)
  (gb289 : Nat)
  (w74 : World)
  (HO_3 : Aside0
    (Kd.string.R 9 w74 w.heap.size (fun x => some x ≠ (Value.slice Ao46 x8_3.length co46).ownBlock)
      (Value.slice (some ad254) t240.length co8) t240))
  (HO_8 : Aside0
    (Kd.string.R 9 w74 w.heap.size (fun x => some x ≠ (Value.slice (some ad254) t240.length co8).ownBlock)
      (Value.slice Ao46 x8_3.length co46) x8_3))
  (GW289 GE289 : Aside0 (w.heap.size ≤ gb289))
  (NB247_289 : Aside0 (gb247 ≠ gb289))
  (NB289_247 : Aside0 (gb289 ≠ gb247))
  (NB252_289 : Aside0 (gb252 ≠ gb289))
  (NB289_252 : Aside0 (gb289 ≠ gb252))
  (NB266_289 : Aside0 (gb266 ≠ gb289))
  (NB289_266 : Aside0 (gb289 ≠ gb266))
  (NB275_289 : Aside0 (gb275 ≠ gb289))
  (NB289_275 : Aside0 (gb289 ≠ gb275))
  (NB284_289 : Aside0 (gb284 ≠ gb289))
  (NB289_284 : Aside0 (gb289 ≠ gb284))
  (Ao75 : Option Addr)
  (co75 : Nat)
  (HO264 : Aside0
    ((Kd.int IntKind.i64).R 3 w74 w.heap.size
      (fun k =>
        ((some k ≠ (Value.slice Ao11 t243.length co11).ownBlock ∧
              some k ≠ (Value.slice Ao15 t248.length co15).ownBlock ∧
                some k ≠ (Value.slice Ao57 t271.length co57).ownBlock) ∧
            some k ≠ (Value.slice Ao66 t280.length co66).ownBlock) ∧
          some k ≠ (Value.slice Ao75 t285.length co75).ownBlock)
      (Value.slice Ao49 t262.length co49) t262))
  (HO273 : Aside0
    ((Kd.int IntKind.i64).R 3 w74 w.heap.size
      (fun k =>
        ((some k ≠ (Value.slice Ao11 t243.length co11).ownBlock ∧
              some k ≠ (Value.slice Ao15 t248.length co15).ownBlock ∧
                some k ≠ (Value.slice Ao49 t262.length co49).ownBlock) ∧
            some k ≠ (Value.slice Ao66 t280.length co66).ownBlock) ∧
          some k ≠ (Value.slice Ao75 t285.length co75).ownBlock)
      (Value.slice Ao57 t271.length co57) t271))
  (HO282 : Aside0
    ((Kd.int IntKind.i64).R 3 w74 w.heap.size
      (fun k =>
        ((((True ∧ some k ≠ (Value.slice Ao11 t243.length co11).ownBlock) ∧
                some k ≠ (Value.slice Ao15 t248.length co15).ownBlock) ∧
              some k ≠ (Value.slice Ao49 t262.length co49).ownBlock) ∧
            some k ≠ (Value.slice Ao57 t271.length co57).ownBlock) ∧
          some k ≠ (Value.slice Ao75 t285.length co75).ownBlock)
      (Value.slice Ao66 t280.length co66) t280))
  (HO287 : Aside0
    ((Kd.int IntKind.i64).R 3 w74 w.heap.size
      (fun k =>
        ((((True ∧ some k ≠ (Value.slice Ao11 t243.length co11).ownBlock) ∧
                some k ≠ (Value.slice Ao15 t248.length co15).ownBlock) ∧
              some k ≠ (Value.slice Ao49 t262.length co49).ownBlock) ∧
            some k ≠ (Value.slice Ao57 t271.length co57).ownBlock) ∧
          some k ≠ (Value.slice Ao66 t280.length co66).ownBlock)
      (Value.slice Ao75 t285.length co75) t285))
  (hnb76 : gb289 ≠ gb247)
  (hnc76 : gb247 ≠ gb289)
  (hnb77 : gb289 ≠ gb252)
  (hnc77 : gb252 ≠ gb289)
  (hnb78 : gb289 ≠ gb266)
  (hnc78 : gb266 ≠ gb289)
  (hnb79 : gb289 ≠ gb275)
  (hnc79 : gb275 ≠ gb289)
  (hnb80 : gb289 ≠ gb284)
  (hnc80 : gb284 ≠ gb289)
  (Kz0_ : Act → World → Prop)
  (az0_ : ∀ (a : Act) (wq_ : World),
    Code.wp Tryd.prog
        (((Code.region 22
                  #[{ dst := some 19, op := Op.assign (Operand.const (Value.int IntKind.i64 0)), type := 3,
                      pos := "laws.go:1853", after := #[], guard := none }]
                  false).seq
              (Code.block 2
                (((Code.region 23
                            #[{ dst := some 138, op := Op.move (Operand.tmp 19), type := 3, pos := "laws.go:1853",
                                after := #[], guard := none },
                              { dst := some 139, op := Op.fieldAddr 26 (Operand.tmp 6) 0, type := 0,
                                pos := "laws.go:1853", after := #[], guard := none },
                              { dst := some 140, op := Op.load 24 (Operand.tmp 139), type := 24, pos := "laws.go:1853",
                                after := #[{ on := 1, ground := Ground.data }], guard := none },
                              { dst := some 141,
                                op :=
                                  Op.call
                                    { callee := Callee.builtin Builtin.len, args := #[Operand.tmp 140],
                                      argTypes := #[24] },
                                type := 3, pos := "laws.go:1853", after := #[{ on := 2, ground := Ground.data }],
                                guard := none },
                              { dst := some 142, op := Op.binOp BinOp.lss 3 (Operand.tmp 138) (Operand.tmp 141) 3,
                                type := 4, pos := "laws.go:1853",
                                after := #[{ on := 0, ground := Ground.data }, { on := 3, ground := Ground.data }],
                                guard := none }]
                            false).seq
                        (Code.cond (Operand.tmp 142) Code.skip (Code.exit 2))).seq
                    ((Code.block 3
                          ((Code.region 25
                                #[{ dst := some 145, op := Op.fieldAddr 26 (Operand.tmp 13) 0, type := 0,
                                    pos := "laws.go:1854", after := #[], guard := none },
                                  { dst := some 146, op := Op.load 24 (Operand.tmp 145), type := 24,
                                    pos := "laws.go:1854", after := #[{ on := 0, ground := Ground.data }],
                                    guard := none },
                                  { dst := some 147, op := Op.move (Operand.tmp 19), type := 3, pos := "laws.go:1854",
                                    after := #[], guard := none },
                                  { dst := some 148, op := Op.indexAddr 24 (Operand.tmp 146) (Operand.tmp 147),
                                    type := 0, pos := "laws.go:1854",
                                    after := #[{ on := 1, ground := Ground.data }, { on := 2, ground := Ground.data }],
                                    guard := none },
                                  { dst := some 149, op := Op.load 3 (Operand.tmp 148), type := 3,
                                    pos := "laws.go:1854", after := #[{ on := 3, ground := Ground.data }],
                                    guard := none },
                                  { dst := some 150, op := Op.fieldAddr 26 (Operand.tmp 6) 0, type := 0,
                                    pos := "laws.go:1854", after := #[], guard := none },
                                  { dst := some 151, op := Op.load 24 (Operand.tmp 150), type := 24,
                                    pos := "laws.go:1854", after := #[{ on := 5, ground := Ground.data }],
                                    guard := none },
                                  { dst := some 152, op := Op.move (Operand.tmp 19), type := 3, pos := "laws.go:1854",
                                    after := #[], guard := none },
                                  { dst := some 153, op := Op.indexAddr 24 (Operand.tmp 151) (Operand.tmp 152),
                                    type := 0, pos := "laws.go:1854",
                                    after := #[{ on := 6, ground := Ground.data }, { on := 7, ground := Ground.data }],
                                    guard := none },
                                  { dst := some 154, op := Op.load 3 (Operand.tmp 153), type := 3,
                                    pos := "laws.go:1854", after := #[{ on := 8, ground := Ground.data }],
                                    guard := none },
                                  { dst := some 155, op := Op.binOp BinOp.gtr 3 (Operand.tmp 149) (Operand.tmp 154) 3,
                                    type := 4, pos := "laws.go:1854",
                                    after := #[{ on := 4, ground := Ground.data }, { on := 9, ground := Ground.data }],
                                    guard := none }]
                                true).seq
                            (Code.cond (Operand.tmp 155)
                              ((Code.region 26
                                    #[{ dst := some 2, op := Op.assign (Operand.const (Value.bool false)), type := 4,
                                        pos := "laws.go:1855", after := #[], guard := none }]
                                    false).seq
                                Code.ret)
                              Code.skip))).seq
                      (Code.region 24
                        #[{ dst := some 143, op := Op.move (Operand.tmp 19), type := 3, pos := "laws.go:1853",
                            after := #[], guard := none },
                          { dst := some 144,
                            op := Op.binOp BinOp.add 3 (Operand.tmp 143) (Operand.const (Value.int IntKind.i64 1)) 3,
                            type := 3, pos := "laws.go:1853", after := #[{ on := 0, ground := Ground.data }],
                            guard := none },
                          { dst := some 19, op := Op.assign (Operand.tmp 144), type := 3, pos := "laws.go:1853",
                            after :=
                              #[{ on := 1, ground := Ground.data }, { on := 0, ground := Ground.phase },
                                { on := 1, ground := Ground.phase }],
                            guard := none }]
                        false))).loop)).seq
          ((Code.region 27
                #[{ dst := some 157, op := Op.load 26 (Operand.tmp 6), type := 26, pos := "laws.go:1858", after := #[],
                    guard := none },
                  { dst := some 158,
                    op :=
                      Op.call
                        { callee := Callee.value (Operand.func 17), args := #[Operand.tmp 157], argTypes := #[26] },
                    type := 38, pos := "laws.go:1858", after := #[{ on := 0, ground := Ground.data }], guard := none },
                  { dst := some 156, op := Op.move (Operand.tmp 158), type := 38, pos := "laws.go:1858",
                    after := #[{ on := 1, ground := Ground.data }], guard := none },
                  { dst := some 159, op := Op.extract (Operand.tmp 156) 0, type := 3, pos := "laws.go:1858",
                    after := #[{ on := 2, ground := Ground.data }], guard := none },
                  { dst := some 160, op := Op.extract (Operand.tmp 156) 1, type := 3, pos := "laws.go:1858",
                    after :=
                      #[{ on := 2, ground := Ground.data }, { on := 5, ground := Ground.gcOnly Departure.lateStores }],
                    guard := none },
                  { dst := some 20, op := Op.assign (Operand.tmp 159), type := 3, pos := "laws.go:1858",
                    after :=
                      #[{ on := 3, ground := Ground.data }, { on := 1, ground := Ground.chain },
                        { on := 0, ground := Ground.phase }, { on := 1, ground := Ground.phase },
                        { on := 2, ground := Ground.phase }, { on := 3, ground := Ground.phase },
                        { on := 4, ground := Ground.textOnly Departure.lateStores }],
                    guard := none },
                  { dst := some 21, op := Op.assign (Operand.tmp 160), type := 3, pos := "laws.go:1858",
                    after :=
                      #[{ on := 4, ground := Ground.data }, { on := 5, ground := Ground.chain },
                        { on := 0, ground := Ground.phase }, { on := 1, ground := Ground.phase },
                        { on := 2, ground := Ground.phase }, { on := 3, ground := Ground.phase },
                        { on := 4, ground := Ground.phase }, { on := 5, ground := Ground.phase }],
                    guard := none }]
                false).seq
            ((Code.region 28
                  #[{ dst := some 162, op := Op.load 26 (Operand.tmp 6), type := 26, pos := "laws.go:1859",
                      after := #[], guard := none },
                    { dst := some 163,
                      op :=
                        Op.call
                          { callee := Callee.value (Operand.func 18), args := #[Operand.tmp 162], argTypes := #[26] },
                      type := 38, pos := "laws.go:1859", after := #[{ on := 0, ground := Ground.data }],
                      guard := none },
                    { dst := some 161, op := Op.move (Operand.tmp 163), type := 38, pos := "laws.go:1859",
                      after := #[{ on := 1, ground := Ground.data }], guard := none },
                    { dst := some 164, op := Op.extract (Operand.tmp 161) 0, type := 3, pos := "laws.go:1859",
                      after := #[{ on := 2, ground := Ground.data }], guard := none },
                    { dst := some 165, op := Op.extract (Operand.tmp 161) 1, type := 3, pos := "laws.go:1859",
                      after :=
                        #[{ on := 2, ground := Ground.data },
                          { on := 5, ground := Ground.gcOnly Departure.lateStores }],
                      guard := none },
                    { dst := some 22, op := Op.assign (Operand.tmp 164), type := 3, pos := "laws.go:1859",
                      after :=
                        #[{ on := 3, ground := Ground.data }, { on := 1, ground := Ground.chain },
                          { on := 0, ground := Ground.phase }, { on := 1, ground := Ground.phase },
                          { on := 2, ground := Ground.phase }, { on := 3, ground := Ground.phase },
                          { on := 4, ground := Ground.textOnly Departure.lateStores }],
                      guard := none },
                    { dst := some 23, op := Op.assign (Operand.tmp 165), type := 3, pos := "laws.go:1859",
                      after :=
                        #[{ on := 4, ground := Ground.data }, { on := 5, ground := Ground.chain },
                          { on := 0, ground := Ground.phase }, { on := 1, ground := Ground.phase },
                          { on := 2, ground := Ground.phase }, { on := 3, ground := Ground.phase },
                          { on := 4, ground := Ground.phase }, { on := 5, ground := Ground.phase }],
                      guard := none }]
                  false).seq
              ((Code.region 29
                    #[{ dst := some 166, op := Op.move (Operand.tmp 21), type := 3, pos := "laws.go:1860", after := #[],
                        guard := none },
                      { dst := some 167, op := Op.move (Operand.tmp 23), type := 3, pos := "laws.go:1860", after := #[],
                        guard := none },
                      { dst := some 168, op := Op.binOp BinOp.eql 3 (Operand.tmp 166) (Operand.tmp 167) 3, type := 4,
                        pos := "laws.go:1860",
                        after := #[{ on := 0, ground := Ground.data }, { on := 1, ground := Ground.data }],
                        guard := none },
                      { dst := some 169, op := Op.move (Operand.tmp 168), type := 4, pos := "laws.go:1860",
                        after := #[{ on := 2, ground := Ground.data }], guard := none },
                      { dst := some 170, op := Op.move (Operand.tmp 20), type := 3, pos := "laws.go:1860",
                        after := #[{ on := 3, ground := Ground.guard }], guard := some (3, true) },
                      { dst := some 171, op := Op.move (Operand.tmp 22), type := 3, pos := "laws.go:1860",
                        after := #[{ on := 3, ground := Ground.guard }], guard := some (3, true) },
                      { dst := some 172, op := Op.binOp BinOp.eql 3 (Operand.tmp 170) (Operand.tmp 171) 3, type := 4,
                        pos := "laws.go:1860",
                        after :=
                          #[{ on := 4, ground := Ground.data }, { on := 5, ground := Ground.data },
                            { on := 3, ground := Ground.guard }],
                        guard := some (3, true) },
                      { dst := some 173,
                        op := Op.pick (Operand.tmp 169) (Operand.tmp 172) (Operand.const (Value.bool false)), type := 4,
                        pos := "laws.go:1860",
                        after := #[{ on := 3, ground := Ground.data }, { on := 6, ground := Ground.data }],
                        guard := none },
                      { dst := some 174, op := Op.move (Operand.tmp 173), type := 4, pos := "laws.go:1860",
                        after := #[{ on := 7, ground := Ground.data }, { on := 3, ground := Ground.chain }],
                        guard := none },
                      { dst := some 175, op := Op.move (Operand.tmp 20), type := 3, pos := "laws.go:1860",
                        after := #[{ on := 8, ground := Ground.guard }], guard := some (8, true) },
                      { dst := some 176,
                        op := Op.binOp BinOp.geq 3 (Operand.tmp 175) (Operand.const (Value.int IntKind.i64 0)) 3,
                        type := 4, pos := "laws.go:1860",
                        after := #[{ on := 9, ground := Ground.data }, { on := 8, ground := Ground.guard }],
                        guard := some (8, true) },
                      { dst := some 177,
                        op := Op.pick (Operand.tmp 174) (Operand.tmp 176) (Operand.const (Value.bool false)), type := 4,
                        pos := "laws.go:1860",
                        after := #[{ on := 8, ground := Ground.data }, { on := 10, ground := Ground.data }],
                        guard := none },
                      { dst := some 2, op := Op.assign (Operand.tmp 177), type := 4, pos := "laws.go:1860",
                        after :=
                          #[{ on := 11, ground := Ground.data }, { on := 8, ground := Ground.chain },
                            { on := 0, ground := Ground.phase }, { on := 1, ground := Ground.phase },
                            { on := 2, ground := Ground.phase }, { on := 3, ground := Ground.phase },
                            { on := 4, ground := Ground.phase }, { on := 5, ground := Ground.phase },
                            { on := 6, ground := Ground.phase }, { on := 7, ground := Ground.phase },
                            { on := 8, ground := Ground.phase }, { on := 9, ground := Ground.phase },
                            { on := 10, ground := Ground.phase }, { on := 11, ground := Ground.phase }],
                        guard := none }]
                    false).seq
                Code.ret))))
        Q_ a wq_ →
      Kz0_ a wq_)
  (Kz1_ : Act → World → Prop)
  (az1_ : ∀ (a : Act) (wq_ : World),
    Code.wp Tryd.prog
        (Code.cond (Operand.tmp 137)
          ((Code.region 21
                #[{ dst := some 2, op := Op.assign (Operand.const (Value.bool false)), type := 4, pos := "laws.go:1851",
                    after := #[], guard := none }]
                false).seq
            Code.ret)
          Code.skip)
        (Exit.then Kz0_ Q_) a wq_ →
      Kz1_ a wq_)
  (wc : World)
  (u24 u25 u26 u27 u28 u29 u30 u31 u32 u33 u34 u35 u36 u37 u38 u39 u40 u41 u42 u43 u44 u45 u46 u47 u48 u49 u50 u51 u52 u53 u54 u55 u56 u57 u58 u59 u60 u61 u62 u63 u64 u65 u66 u67 u68 u69 u70 u71 u72 u73 u74 u75 u76 u77 u78 u79 u80 u81 u82 u83 u84 u85 u86 u87 u88 u89 u90 u91 u92 u93 u94 u95 u96 u97 u98 u99 u100 u101 u102 u103 u104 u105 u106 u107 u108 u109 u110 u111 u112 u113 u114 u115 u116 u117 u118 u119 u120 u121 u122 u123 u124 u125 u126 u127 u128 u129 u130 u131 u132 u133 u134 u135 u136 u138 u139 u140 u141 u142 u143 u144 u145 u146 u147 u148 u149 u150 u151 u152 u153 u154 u155 u156 u157 u158 u159 u160 u161 u162 u163 u164 u165 u166 u167 u168 u169 u170 u171 u172 u173 u174 u175 u176 u177 : Value)
  (kq : Nat)
  (x137_44 : Bool)
  (HA : Aside0 (j3 kq x137_44 t248 t271 = some r))
  (HJ44 : Aside0 (kq ≤ k3))
  (HO_248000 : Aside0
    ((Kd.int IntKind.i64).R 3 wc w.heap.size
      (fun k_ =>
        some k_ ≠ (Value.slice Ao15 t248.length co15).ownBlock ∧
          some k_ ≠ (Value.slice Ao49 t262.length co49).ownBlock ∧
            some k_ ≠ (Value.slice Ao57 t271.length co57).ownBlock ∧
              some k_ ≠ (Value.slice Ao66 t280.length co66).ownBlock ∧
                some k_ ≠ (Value.slice Ao75 t285.length co75).ownBlock)
      (Value.slice Ao11 t243.length co11) t243))
  (HO_253000 : Aside0
    ((Kd.int IntKind.i64).R 3 wc w.heap.size
      (fun k_ =>
        some k_ ≠ (Value.slice Ao11 t243.length co11).ownBlock ∧
          some k_ ≠ (Value.slice Ao49 t262.length co49).ownBlock ∧
            some k_ ≠ (Value.slice Ao57 t271.length co57).ownBlock ∧
              some k_ ≠ (Value.slice Ao66 t280.length co66).ownBlock ∧
                some k_ ≠ (Value.slice Ao75 t285.length co75).ownBlock)
      (Value.slice Ao15 t248.length co15) t248))
  (HO_267000 : Aside0
    ((Kd.int IntKind.i64).R 3 wc w.heap.size
      (fun k_ =>
        some k_ ≠ (Value.slice Ao11 t243.length co11).ownBlock ∧
          some k_ ≠ (Value.slice Ao15 t248.length co15).ownBlock ∧
            some k_ ≠ (Value.slice Ao57 t271.length co57).ownBlock ∧
              some k_ ≠ (Value.slice Ao66 t280.length co66).ownBlock ∧
                some k_ ≠ (Value.slice Ao75 t285.length co75).ownBlock)
      (Value.slice Ao49 t262.length co49) t262))
  (HO_276000 : Aside0
    ((Kd.int IntKind.i64).R 3 wc w.heap.size
      (fun k_ =>
        some k_ ≠ (Value.slice Ao11 t243.length co11).ownBlock ∧
          some k_ ≠ (Value.slice Ao15 t248.length co15).ownBlock ∧
            some k_ ≠ (Value.slice Ao49 t262.length co49).ownBlock ∧
              some k_ ≠ (Value.slice Ao66 t280.length co66).ownBlock ∧
                some k_ ≠ (Value.slice Ao75 t285.length co75).ownBlock)
      (Value.slice Ao57 t271.length co57) t271))
  (HO_285000 : Aside0
    ((Kd.int IntKind.i64).R 3 wc w.heap.size
      (fun k_ =>
        some k_ ≠ (Value.slice Ao11 t243.length co11).ownBlock ∧
          some k_ ≠ (Value.slice Ao15 t248.length co15).ownBlock ∧
            some k_ ≠ (Value.slice Ao49 t262.length co49).ownBlock ∧
              some k_ ≠ (Value.slice Ao57 t271.length co57).ownBlock ∧
                some k_ ≠ (Value.slice Ao75 t285.length co75).ownBlock)
      (Value.slice Ao66 t280.length co66) t280))
  (HO_290000 : Aside0
    ((Kd.int IntKind.i64).R 3 wc w.heap.size
      (fun k_ =>
        some k_ ≠ (Value.slice Ao11 t243.length co11).ownBlock ∧
          some k_ ≠ (Value.slice Ao15 t248.length co15).ownBlock ∧
            some k_ ≠ (Value.slice Ao49 t262.length co49).ownBlock ∧
              some k_ ≠ (Value.slice Ao57 t271.length co57).ownBlock ∧
                some k_ ≠ (Value.slice Ao66 t280.length co66).ownBlock)
      (Value.slice Ao75 t285.length co75) t285))
  (BK247 : Aside0 (wc.heap[gb247]? = some (Obj.cells #[Value.slice Ao11 t243.length co11] 26)))
  (BK252 : Aside0 (wc.heap[gb252]? = some (Obj.cells #[Value.slice Ao15 t248.length co15] 26)))
  (BK266 : Aside0 (wc.heap[gb266]? = some (Obj.cells #[Value.slice Ao49 t262.length co49] 26)))
  (BK275 : Aside0 (wc.heap[gb275]? = some (Obj.cells #[Value.slice Ao57 t271.length co57] 26)))
  (BK284 : Aside0 (wc.heap[gb284]? = some (Obj.cells #[Value.slice Ao66 t280.length co66] 26)))
  (BK289 : Aside0 (wc.heap[gb289]? = some (Obj.cells #[Value.slice Ao75 t285.length co75] 26)))
  (HB : Aside0 (Below w.heap.size w wc))
  (hQ_ : Q_ = (bodyPost Tryd.prog Tryd.f4 fun e w' => e = Ending.returned (Value.bool r) ∧ Below w.heap.size w w')) :
  Kz1_
    {
      tmps :=
        #[Value.slice A0 l0.length c0, undef, Value.bool false, Value.slice (some ad254) t240.length co8,
          Value.pointer (some { block := gb247, off := 0 }), Value.int IntKind.i64 t246,
          Value.pointer (some { block := gb252, off := 0 }), Value.int IntKind.i64 t251,
          Value.slice Ao46 x8_3.length co46, Value.int IntKind.i64 x9_3,
          Value.pointer (some { block := gb266, off := 0 }), Value.int IntKind.i64 t265, Value.int IntKind.i64 ji37,
          Value.pointer (some { block := gb275, off := 0 }), Value.int IntKind.i64 t274,
          Value.pointer (some { block := gb284, off := 0 }), Value.int IntKind.i64 t283,
          Value.pointer (some { block := gb289, off := 0 }), Value.int IntKind.i64 t288, undef, undef, undef, undef,
          undef, u24, u25, u26, u27, u28, u29, u30, u31, u32, u33, u34, u35, u36, u37, u38, u39, u40, u41, u42, u43,
          u44, u45, u46, u47, u48, u49, u50, u51, u52, u53, u54, u55, u56, u57, u58, u59, u60, u61, u62, u63, u64, u65,
          u66, u67, u68, u69, u70, u71, u72, u73, u74, u75, u76, u77, u78, u79, u80, u81, u82, u83, u84, u85, u86, u87,
          u88, u89, u90, u91, u92, u93, u94, u95, u96, u97, u98, u99, u100, u101, u102, u103, u104, u105, u106, u107,
          u108, u109, u110, u111, u112, u113, u114, u115, u116, u117, u118, u119, u120, u121, u122, u123, u124, u125,
          u126, u127, u128, u129, u130, u131, u132, u133, u134, u135, u136, Value.bool x137_44, u138, u139, u140, u141,
          u142, u143, u144, u145, u146, u147, u148, u149, u150, u151, u152, u153, u154, u155, u156, u157, u158, u159,
          u160, u161, u162, u163, u164, u165, u166, u167, u168, u169, u170, u171, u172, u173, u174, u175, u176, u177],
      defers := [] }
    wc := by
 subst hQ_
 cases kq with
 | zero => exact absurd HA.out (by simp [laws_FnSketch.j3])
 | succ kj44 =>
  have H := HA.out
  clear HA
  simp only [laws_FnSketch.j3] at H
  by_cases c115 : x137_44 = true
  ·
   subst c115
   have H1 : (some false) = some r := by rw [if_pos rfl] at H; exact H
   clear H
   have H := H1
   clear H1
   obtain rfl := Option.some.inj H
   go_wp2
   repeat (go_quiet (fail); try go_wp2)
   go_ret
   exact ⟨by first | rfl | (simp [errW_none, errW_some] <;> rfl) | (simp only [← hji37]; first | rfl | (simp [errW_none, errW_some] <;> rfl)) | (simp [*, errW_none, errW_some] <;> rfl), zg HB⟩
  ·
   replace c115 := Bool.eq_false_iff.mpr c115
   subst c115
   have H1 : (laws_FnSketch.l1 kj44 0 t248 t271) = some r := by rw [if_neg (show ¬ (false = true) by decide)] at H; exact H
   clear H
   have H := H1
   clear H1
   have H' := Aside0.mk H
   clear H
   go_wp2
   repeat (go_quiet (fail); try go_wp2)
   go_loopg [19] kj44 (fun kq v19 w' => ∃ (x19_5 : Int), v19 = .int .i64 x19_5 ∧ Aside0 (laws_FnSketch.l1 kq x19_5 t248 t271 = some r) ∧ Aside0 (kq ≤ kj44) ∧ Aside0 (Kd.R (Kd.int .i64) 3 w' w.heap.size (fun k_ => some k_ ≠ ((.slice Ao15 t248.length co15) : Value).ownBlock ∧ some k_ ≠ ((.slice Ao49 t262.length co49) : Value).ownBlock ∧ some k_ ≠ ((.slice Ao57 t271.length co57) : Value).ownBlock ∧ some k_ ≠ ((.slice Ao66 t280.length co66) : Value).ownBlock ∧ some k_ ≠ ((.slice Ao75 t285.length co75) : Value).ownBlock) (.slice Ao11 t243.length co11) t243) ∧ Aside0 (Kd.R (Kd.int .i64) 3 w' w.heap.size (fun k_ => some k_ ≠ ((.slice Ao11 t243.length co11) : Value).ownBlock ∧ some k_ ≠ ((.slice Ao49 t262.length co49) : Value).ownBlock ∧ some k_ ≠ ((.slice Ao57 t271.length co57) : Value).ownBlock ∧ some k_ ≠ ((.slice Ao66 t280.length co66) : Value).ownBlock ∧ some k_ ≠ ((.slice Ao75 t285.length co75) : Value).ownBlock) (.slice Ao15 t248.length co15) t248) ∧ Aside0 (Kd.R (Kd.int .i64) 3 w' w.heap.size (fun k_ => some k_ ≠ ((.slice Ao11 t243.length co11) : Value).ownBlock ∧ some k_ ≠ ((.slice Ao15 t248.length co15) : Value).ownBlock ∧ some k_ ≠ ((.slice Ao57 t271.length co57) : Value).ownBlock ∧ some k_ ≠ ((.slice Ao66 t280.length co66) : Value).ownBlock ∧ some k_ ≠ ((.slice Ao75 t285.length co75) : Value).ownBlock) (.slice Ao49 t262.length co49) t262) ∧ Aside0 (Kd.R (Kd.int .i64) 3 w' w.heap.size (fun k_ => some k_ ≠ ((.slice Ao11 t243.length co11) : Value).ownBlock ∧ some k_ ≠ ((.slice Ao15 t248.length co15) : Value).ownBlock ∧ some k_ ≠ ((.slice Ao49 t262.length co49) : Value).ownBlock ∧ some k_ ≠ ((.slice Ao66 t280.length co66) : Value).ownBlock ∧ some k_ ≠ ((.slice Ao75 t285.length co75) : Value).ownBlock) (.slice Ao57 t271.length co57) t271) ∧ Aside0 (Kd.R (Kd.int .i64) 3 w' w.heap.size (fun k_ => some k_ ≠ ((.slice Ao11 t243.length co11) : Value).ownBlock ∧ some k_ ≠ ((.slice Ao15 t248.length co15) : Value).ownBlock ∧ some k_ ≠ ((.slice Ao49 t262.length co49) : Value).ownBlock ∧ some k_ ≠ ((.slice Ao57 t271.length co57) : Value).ownBlock ∧ some k_ ≠ ((.slice Ao75 t285.length co75) : Value).ownBlock) (.slice Ao66 t280.length co66) t280) ∧ Aside0 (Kd.R (Kd.int .i64) 3 w' w.heap.size (fun k_ => some k_ ≠ ((.slice Ao11 t243.length co11) : Value).ownBlock ∧ some k_ ≠ ((.slice Ao15 t248.length co15) : Value).ownBlock ∧ some k_ ≠ ((.slice Ao49 t262.length co49) : Value).ownBlock ∧ some k_ ≠ ((.slice Ao57 t271.length co57) : Value).ownBlock ∧ some k_ ≠ ((.slice Ao66 t280.length co66) : Value).ownBlock) (.slice Ao75 t285.length co75) t285) ∧ Aside0 (w'.heap[gb247]? = some (.cells #[(.slice Ao11 t243.length co11)] 26 (0, 0))) ∧ Aside0 (w'.heap[gb252]? = some (.cells #[(.slice Ao15 t248.length co15)] 26 (0, 0))) ∧ Aside0 (w'.heap[gb266]? = some (.cells #[(.slice Ao49 t262.length co49)] 26 (0, 0))) ∧ Aside0 (w'.heap[gb275]? = some (.cells #[(.slice Ao57 t271.length co57)] 26 (0, 0))) ∧ Aside0 (w'.heap[gb284]? = some (.cells #[(.slice Ao66 t280.length co66)] 26 (0, 0))) ∧ Aside0 (w'.heap[gb289]? = some (.cells #[(.slice Ao75 t285.length co75)] 26 (0, 0))) ∧ Aside0 (Below w.heap.size w w'))
   case atStart => exact ⟨(0), (by first | rfl | (simp; done) | (simp [*]; done)), H', ⟨Nat.le_refl _⟩, ⟨zr HO_248000⟩, ⟨zr HO_253000⟩, ⟨zr HO_267000⟩, ⟨zr HO_276000⟩, ⟨zr HO_285000⟩, ⟨zr HO_290000⟩, ⟨zb BK247⟩, ⟨zb BK252⟩, ⟨zb BK266⟩, ⟨zb BK275⟩, ⟨zb BK284⟩, ⟨zb BK289⟩, ⟨zg HB⟩⟩
   case round =>
    clear H'
    try clear c1
    try clear c2
    try clear c2b0
    try clear c2b1
    try clear p2
    try clear q2
    try clear hx2
    try clear qi2
    try clear c3
    try clear c4
    try clear c5
    try clear q5
    try clear c6
    try clear p6
    try clear q6
    try clear c7
    try clear c8
    try clear c9
    try clear c10
    try clear c11
    try clear c16
    try clear c18
    try clear c18b0
    try clear c18b1
    try clear c20
    try clear c23
    try clear c25
    try clear c25b0
    try clear c25b1
    try clear p25
    try clear q25
    try clear hx25
    try clear qi25
    try clear c26
    try clear c26b0
    try clear c26b1
    try clear c26b2
    try clear c27
    try clear c28
    try clear c28b0
    try clear c28b1
    try clear c31
    try clear c31b0
    try clear c32
    try clear c32b0
    try clear c33
    try clear c33b0
    try clear c34
    try clear c38
    try clear c38b0
    try clear c38b1
    try clear c39
    try clear c39b0
    try clear c39b1
    try clear c41
    try clear c41b0
    try clear c42
    try clear c42b0
    try clear c50
    try clear c51
    try clear q54
    try clear c58
    try clear c59
    try clear c60
    try clear c63
    try clear q63
    try clear p64
    try clear c67
    try clear c68
    try clear c69
    try clear c70
    try clear c76
    try clear c77
    try clear c78
    try clear c79
    try clear c80
    try clear c82
    try clear c82b0
    try clear c82b1
    try clear c83
    try clear c83b0
    try clear c83b1
    try clear c84
    try clear c84b0
    try clear c84b1
    try clear c85
    try clear c85b0
    try clear c85b1
    try clear c87
    try clear c89
    try clear c90
    try clear c91
    try clear c92
    try clear c93
    try clear c95
    try clear c96
    try clear c97
    try clear c98
    try clear c100
    try clear c101
    try clear c102
    try clear c104
    try clear c105
    try clear c106
    try clear c107
    try clear c108
    try clear c110
    try clear c111
    try clear c112
    try clear c113
    try clear c115
    try clear hcz103_0
    try clear hcz109_0
    try clear hcz114_0
    try clear hcz12_0
    try clear hcz17_0
    try clear hcz21_0
    try clear hcz22_0
    try clear hcz52_0
    try clear hcz61_0
    try clear hcz71_0
    try clear hcz72_0
    try clear hcz81_0
    try clear hcz94_0
    try clear hcz99_0
    try clear hfz103_0
    try clear hfz109_0
    try clear hfz114_0
    try clear hfz12_0
    try clear hfz17_0
    try clear hfz21_0
    try clear hfz22_0
    try clear hfz52_0
    try clear hfz61_0
    try clear hfz71_0
    try clear hfz72_0
    try clear hfz81_0
    try clear hfz94_0
    try clear hfz99_0
    try clear hx254_0
    try clear hx258_0
    try clear p2
    try clear p25
    try clear p254
    try clear p258
    try clear p6
    try clear p64
    try clear q063
    try clear q2
    try clear q25
    try clear q254
    try clear q258
    try clear q5
    try clear q54
    try clear q6
    try clear q63
    obtain ⟨x19_5, rfl, HA, HK5, HO_248000, HO_253000, HO_267000, HO_276000, HO_285000, HO_290000, BK247, BK252, BK266, BK275, BK284, BK289, HB⟩ := hrel
    cases gk with
    | zero => exact absurd HA.out (by simp [laws_FnSketch.l1])
    | succ k5 =>
     have H := HA.out
     clear HA
     simp only [laws_FnSketch.l1] at H
     by_cases c116 : x19_5 < (t248.length : Int)
     ·
      rw [if_pos c116] at H
      have c116b0 : decide (x19_5 < (t248.length : Int)) = true := decide_eq_true c116
      clear c116
      by_cases c117 : 0 ≤ x19_5
      ·
       rw [if_pos c117] at H
       have c117b0 : decide (0 ≤ x19_5) = true := decide_eq_true c117
       clear c117
       by_cases c118 : x19_5 < (t271.length : Int)
       ·
        rw [if_pos c118] at H
        have c118b0 : decide (x19_5 < (t271.length : Int)) = true := decide_eq_true c118
        clear c118
        by_cases c119 : (rd t271 x19_5) > (rd t248 x19_5)
        ·
         rw [if_pos c119] at H
         have c119b0 : decide ((rd t248 x19_5) < (rd t271 x19_5)) = true := decide_eq_true c119
         clear c119
         obtain rfl := Option.some.inj H
         have hnb120 := NB252_247.out
         have hnc120 := NB247_252.out
         have hnb121 := NB252_266.out
         have hnc121 := NB266_252.out
         have hnb122 := NB252_275.out
         have hnc122 := NB275_252.out
         have hnb123 := NB252_284.out
         have hnc123 := NB284_252.out
         have hnb124 := NB252_289.out
         have hnc124 := NB289_252.out
         have hcz125_0 : wr.cell? ⟨gb252, 0, none⟩ = some (.slice Ao15 t248.length co15) := (blk_cell BK252.out 0).trans rfl
         have hfz125_0 := blk_frozen BK252.out 0
         have hnb126 := NB275_247.out
         have hnc126 := NB247_275.out
         have hnb127 := NB275_266.out
         have hnc127 := NB266_275.out
         have hnb128 := NB275_284.out
         have hnc128 := NB284_275.out
         have hnb129 := NB275_289.out
         have hnc129 := NB289_275.out
         have hcz130_0 : wr.cell? ⟨gb275, 0, none⟩ = some (.slice Ao57 t271.length co57) := (blk_cell BK275.out 0).trans rfl
         have hfz130_0 := blk_frozen BK275.out 0
         have p292 : 0 ≤ (x19_5 : Int) := of_decide_eq_true zas
         have q292 : x19_5 < (t271.length : Int) := of_decide_eq_true zas
         obtain ⟨ad292, e292, hx292_0⟩ := Kd.at_int (Kd.R_reads' HO_276000.out).2.2 x19_5 p292 q292
         cases e292
         replace p292 := eq_true p292
         replace q292 := eq_true q292
         have p293 : 0 ≤ (x19_5 : Int) := of_decide_eq_true zas
         have q293 : x19_5 < (t248.length : Int) := of_decide_eq_true zas
         obtain ⟨ad293, e293, hx293_0⟩ := Kd.at_int (Kd.R_reads' HO_253000.out).2.2 x19_5 p293 q293
         cases e293
         replace p293 := eq_true p293
         replace q293 := eq_true q293
         go_wp2
         repeat (go_quiet (fail); try go_wp2)
         go_ret
         exact ⟨by first | rfl | (simp [errW_none, errW_some] <;> rfl) | (simp only [← hji37]; first | rfl | (simp [errW_none, errW_some] <;> rfl)) | (simp [*, errW_none, errW_some] <;> rfl), zg HB⟩
        ·
         rw [if_neg c119] at H
         have c119b0 : decide ((rd t248 x19_5) < (rd t271 x19_5)) = false := decide_eq_false c119
         clear c119
         have H' := Aside0.mk H
         clear H
         have hnb131 := NB252_247.out
         have hnc131 := NB247_252.out
         have hnb132 := NB252_266.out
         have hnc132 := NB266_252.out
         have hnb133 := NB252_275.out
         have hnc133 := NB275_252.out
         have hnb134 := NB252_284.out
         have hnc134 := NB284_252.out
         have hnb135 := NB252_289.out
         have hnc135 := NB289_252.out
         have hcz136_0 : wr.cell? ⟨gb252, 0, none⟩ = some (.slice Ao15 t248.length co15) := (blk_cell BK252.out 0).trans rfl
         have hfz136_0 := blk_frozen BK252.out 0
         have hnb137 := NB275_247.out
         have hnc137 := NB247_275.out
         have hnb138 := NB275_266.out
         have hnc138 := NB266_275.out
         have hnb139 := NB275_284.out
         have hnc139 := NB284_275.out
         have hnb140 := NB275_289.out
         have hnc140 := NB289_275.out
         have hcz141_0 : wr.cell? ⟨gb275, 0, none⟩ = some (.slice Ao57 t271.length co57) := (blk_cell BK275.out 0).trans rfl
         have hfz141_0 := blk_frozen BK275.out 0
         have p292 : 0 ≤ (x19_5 : Int) := of_decide_eq_true zas
         have q292 : x19_5 < (t271.length : Int) := of_decide_eq_true zas
         obtain ⟨ad292, e292, hx292_0⟩ := Kd.at_int (Kd.R_reads' HO_276000.out).2.2 x19_5 p292 q292
         cases e292
         replace p292 := eq_true p292
         replace q292 := eq_true q292
         have p293 : 0 ≤ (x19_5 : Int) := of_decide_eq_true zas
         have q293 : x19_5 < (t248.length : Int) := of_decide_eq_true zas
         obtain ⟨ad293, e293, hx293_0⟩ := Kd.at_int (Kd.R_reads' HO_253000.out).2.2 x19_5 p293 q293
         cases e293
         replace p293 := eq_true p293
         replace q293 := eq_true q293
         go_wp2
         repeat (go_quiet (fail); try go_wp2)
         go_roundg k5
         case measure => have := HJ5.out; have := HJ23.out; have := HK3.out; have := HJ44.out; have := HK5.out; omega
         case rel => exact ⟨(wrap64 (x19_5 + 1)), (by first | rfl | (simp; done) | (simp [*]; done)), H', ⟨by have := HJ5.out; have := HJ23.out; have := HK3.out; have := HJ44.out; have := HK5.out; omega⟩, ⟨zr HO_248000⟩, ⟨zr HO_253000⟩, ⟨zr HO_267000⟩, ⟨zr HO_276000⟩, ⟨zr HO_285000⟩, ⟨zr HO_290000⟩, ⟨zb BK247⟩, ⟨zb BK252⟩, ⟨zb BK266⟩, ⟨zb BK275⟩, ⟨zb BK284⟩, ⟨zb BK289⟩, ⟨zg HB⟩⟩
       ·
        rw [if_neg c118] at H
        exact absurd H (by simp)
      ·
       rw [if_neg c117] at H
       exact absurd H (by simp)
     ·
      rw [if_neg c116] at H
      have c116b0 : decide (x19_5 < (t248.length : Int)) = false := decide_eq_false c116
      clear c116
      replace H := Option.bind_eq_some_iff.mp H
      obtain ⟨⟨t294, t295⟩, A1420, H⟩ := H
      replace H : ((spec_SketchCount.f k5 t248).bind fun bt296 => (if t295 = bt296.2 then (if t294 = bt296.1 then (some (decide (t294 ≥ 0))) else (some false)) else (some false))) = some r := H
      have A142 := Aside0.mk A1420
      clear A1420
      replace H := Option.bind_eq_some_iff.mp H
      obtain ⟨⟨t296, t297⟩, A1430, H⟩ := H
      replace H : (if t295 = t297 then (if t294 = t296 then (some (decide (t294 ≥ 0))) else (some false)) else (some false)) = some r := H
      have A143 := Aside0.mk A1430
      clear A1430
      by_cases c144 : t295 = t297
      ·
       rw [if_pos c144] at H
       have c144b0 : (t295 == t297) = true := beq_iff_eq.mpr c144
       have c144b1 : (t295 != t297) = false := bne_eq_false_iff_eq.mpr c144
       clear c144
       by_cases c145 : t294 = t296
       ·
        rw [if_pos c145] at H
        have c145b0 : (t294 == t296) = true := beq_iff_eq.mpr c145
        have c145b1 : (t294 != t296) = false := bne_eq_false_iff_eq.mpr c145
        clear c145
        obtain rfl := Option.some.inj H
        have hnb146 := NB252_247.out
        have hnc146 := NB247_252.out
        have hnb147 := NB252_266.out
        have hnc147 := NB266_252.out
        have hnb148 := NB252_275.out
        have hnc148 := NB275_252.out
        have hnb149 := NB252_284.out
        have hnc149 := NB284_252.out
        have hnb150 := NB252_289.out
        have hnc150 := NB289_252.out
        have hcz151_0 : wr.cell? ⟨gb252, 0, none⟩ = some (.slice Ao15 t248.length co15) := (blk_cell BK252.out 0).trans rfl
        have hfz151_0 := blk_frozen BK252.out 0
        go_wp2_with (first | (go_at_call 17; (with_reducible refine (impl_SketchCount.calls k5 _ _ t248 t294 t295 _ ?side1 ?side2 A142.out).mono ?_); (case side1 => repeat (first | exact (Kd.R_reads' HO_253000.out).2.2 | (with_reducible refine Kd.C_alloc ?_ _) | (with_reducible refine Kd.C_drewN ?_ _) | (with_reducible refine Kd.C_drew ?_))); (case side2 => exact (Kd.R_reads' HO_253000.out).2.1); rintro e w152 ⟨rfl, hb⟩; have n0_ := Aside0.mk (Kd.R_below (zr HO_248000) hb); have n1_ := Aside0.mk (Kd.R_below (zr HO_253000) hb); have n2_ := Aside0.mk (Kd.R_below (zr HO_267000) hb); have n3_ := Aside0.mk (Kd.R_below (zr HO_276000) hb); have n4_ := Aside0.mk (Kd.R_below (zr HO_285000) hb); have n5_ := Aside0.mk (Kd.R_below (zr HO_290000) hb); have n6_ := Aside0.mk (blk_below (zb BK247) hb); have n7_ := Aside0.mk (blk_below (zb BK252) hb); have n8_ := Aside0.mk (blk_below (zb BK266) hb); have n9_ := Aside0.mk (blk_below (zb BK275) hb); have n10_ := Aside0.mk (blk_below (zb BK284) hb); have n11_ := Aside0.mk (blk_below (zb BK289) hb); have n12_ := Aside0.mk (below_step (zg HB) hb); clear HO_248000; clear HO_253000; clear HO_267000; clear HO_276000; clear HO_285000; clear HO_290000; clear BK247; clear BK252; clear BK266; clear BK275; clear BK284; clear BK289; clear HB; have HO_248000 := n0_; have HO_253000 := n1_; have HO_267000 := n2_; have HO_276000 := n3_; have HO_285000 := n4_; have HO_290000 := n5_; have BK247 := n6_; have BK252 := n7_; have BK266 := n8_; have BK275 := n9_; have BK284 := n10_; have BK289 := n11_; have HB := n12_; clear n0_ n1_ n2_ n3_ n4_ n5_ n6_ n7_ n8_ n9_ n10_ n11_ n12_; (try clear hb); (try clear hb2); (try clear hk); (try clear hi); have hcz153_0 : w152.cell? ⟨gb252, 0, none⟩ = some (.slice Ao15 t248.length co15) := (blk_cell BK252.out 0).trans rfl; have hfz153_0 := blk_frozen BK252.out 0) | (go_at_call 18; (with_reducible refine (spec_SketchCount.calls k5 _ _ t248 t296 t297 _ ?side1 ?side2 A143.out).mono ?_); (case side1 => repeat (first | exact (Kd.R_reads' HO_253000.out).2.2 | (with_reducible refine Kd.C_alloc ?_ _) | (with_reducible refine Kd.C_drewN ?_ _) | (with_reducible refine Kd.C_drew ?_))); (case side2 => exact (Kd.R_reads' HO_253000.out).2.1); rintro e w154 ⟨rfl, hb⟩; have n0_ := Aside0.mk (Kd.R_below (zr HO_248000) hb); have n1_ := Aside0.mk (Kd.R_below (zr HO_253000) hb); have n2_ := Aside0.mk (Kd.R_below (zr HO_267000) hb); have n3_ := Aside0.mk (Kd.R_below (zr HO_276000) hb); have n4_ := Aside0.mk (Kd.R_below (zr HO_285000) hb); have n5_ := Aside0.mk (Kd.R_below (zr HO_290000) hb); have n6_ := Aside0.mk (blk_below (zb BK247) hb); have n7_ := Aside0.mk (blk_below (zb BK252) hb); have n8_ := Aside0.mk (blk_below (zb BK266) hb); have n9_ := Aside0.mk (blk_below (zb BK275) hb); have n10_ := Aside0.mk (blk_below (zb BK284) hb); have n11_ := Aside0.mk (blk_below (zb BK289) hb); have n12_ := Aside0.mk (below_step (zg HB) hb); clear HO_248000; clear HO_253000; clear HO_267000; clear HO_276000; clear HO_285000; clear HO_290000; clear BK247; clear BK252; clear BK266; clear BK275; clear BK284; clear BK289; clear HB; have HO_248000 := n0_; have HO_253000 := n1_; have HO_267000 := n2_; have HO_276000 := n3_; have HO_285000 := n4_; have HO_290000 := n5_; have BK247 := n6_; have BK252 := n7_; have BK266 := n8_; have BK275 := n9_; have BK284 := n10_; have BK289 := n11_; have HB := n12_; clear n0_ n1_ n2_ n3_ n4_ n5_ n6_ n7_ n8_ n9_ n10_ n11_ n12_; (try clear hb); (try clear hb2); (try clear hk); (try clear hi)))
        repeat (go_quiet (first | (go_at_call 17; (with_reducible refine (impl_SketchCount.calls k5 _ _ t248 t294 t295 _ ?side1 ?side2 A142.out).mono ?_); (case side1 => repeat (first | exact (Kd.R_reads' HO_253000.out).2.2 | (with_reducible refine Kd.C_alloc ?_ _) | (with_reducible refine Kd.C_drewN ?_ _) | (with_reducible refine Kd.C_drew ?_))); (case side2 => exact (Kd.R_reads' HO_253000.out).2.1); rintro e w152 ⟨rfl, hb⟩; have n0_ := Aside0.mk (Kd.R_below (zr HO_248000) hb); have n1_ := Aside0.mk (Kd.R_below (zr HO_253000) hb); have n2_ := Aside0.mk (Kd.R_below (zr HO_267000) hb); have n3_ := Aside0.mk (Kd.R_below (zr HO_276000) hb); have n4_ := Aside0.mk (Kd.R_below (zr HO_285000) hb); have n5_ := Aside0.mk (Kd.R_below (zr HO_290000) hb); have n6_ := Aside0.mk (blk_below (zb BK247) hb); have n7_ := Aside0.mk (blk_below (zb BK252) hb); have n8_ := Aside0.mk (blk_below (zb BK266) hb); have n9_ := Aside0.mk (blk_below (zb BK275) hb); have n10_ := Aside0.mk (blk_below (zb BK284) hb); have n11_ := Aside0.mk (blk_below (zb BK289) hb); have n12_ := Aside0.mk (below_step (zg HB) hb); clear HO_248000; clear HO_253000; clear HO_267000; clear HO_276000; clear HO_285000; clear HO_290000; clear BK247; clear BK252; clear BK266; clear BK275; clear BK284; clear BK289; clear HB; have HO_248000 := n0_; have HO_253000 := n1_; have HO_267000 := n2_; have HO_276000 := n3_; have HO_285000 := n4_; have HO_290000 := n5_; have BK247 := n6_; have BK252 := n7_; have BK266 := n8_; have BK275 := n9_; have BK284 := n10_; have BK289 := n11_; have HB := n12_; clear n0_ n1_ n2_ n3_ n4_ n5_ n6_ n7_ n8_ n9_ n10_ n11_ n12_; (try clear hb); (try clear hb2); (try clear hk); (try clear hi); have hcz153_0 : w152.cell? ⟨gb252, 0, none⟩ = some (.slice Ao15 t248.length co15) := (blk_cell BK252.out 0).trans rfl; have hfz153_0 := blk_frozen BK252.out 0) | (go_at_call 18; (with_reducible refine (spec_SketchCount.calls k5 _ _ t248 t296 t297 _ ?side1 ?side2 A143.out).mono ?_); (case side1 => repeat (first | exact (Kd.R_reads' HO_253000.out).2.2 | (with_reducible refine Kd.C_alloc ?_ _) | (with_reducible refine Kd.C_drewN ?_ _) | (with_reducible refine Kd.C_drew ?_))); (case side2 => exact (Kd.R_reads' HO_253000.out).2.1); rintro e w154 ⟨rfl, hb⟩; have n0_ := Aside0.mk (Kd.R_below (zr HO_248000) hb); have n1_ := Aside0.mk (Kd.R_below (zr HO_253000) hb); have n2_ := Aside0.mk (Kd.R_below (zr HO_267000) hb); have n3_ := Aside0.mk (Kd.R_below (zr HO_276000) hb); have n4_ := Aside0.mk (Kd.R_below (zr HO_285000) hb); have n5_ := Aside0.mk (Kd.R_below (zr HO_290000) hb); have n6_ := Aside0.mk (blk_below (zb BK247) hb); have n7_ := Aside0.mk (blk_below (zb BK252) hb); have n8_ := Aside0.mk (blk_below (zb BK266) hb); have n9_ := Aside0.mk (blk_below (zb BK275) hb); have n10_ := Aside0.mk (blk_below (zb BK284) hb); have n11_ := Aside0.mk (blk_below (zb BK289) hb); have n12_ := Aside0.mk (below_step (zg HB) hb); clear HO_248000; clear HO_253000; clear HO_267000; clear HO_276000; clear HO_285000; clear HO_290000; clear BK247; clear BK252; clear BK266; clear BK275; clear BK284; clear BK289; clear HB; have HO_248000 := n0_; have HO_253000 := n1_; have HO_267000 := n2_; have HO_276000 := n3_; have HO_285000 := n4_; have HO_290000 := n5_; have BK247 := n6_; have BK252 := n7_; have BK266 := n8_; have BK275 := n9_; have BK284 := n10_; have BK289 := n11_; have HB := n12_; clear n0_ n1_ n2_ n3_ n4_ n5_ n6_ n7_ n8_ n9_ n10_ n11_ n12_; (try clear hb); (try clear hb2); (try clear hk); (try clear hi))); try go_wp2_with (first | (go_at_call 17; (with_reducible refine (impl_SketchCount.calls k5 _ _ t248 t294 t295 _ ?side1 ?side2 A142.out).mono ?_); (case side1 => repeat (first | exact (Kd.R_reads' HO_253000.out).2.2 | (with_reducible refine Kd.C_alloc ?_ _) | (with_reducible refine Kd.C_drewN ?_ _) | (with_reducible refine Kd.C_drew ?_))); (case side2 => exact (Kd.R_reads' HO_253000.out).2.1); rintro e w152 ⟨rfl, hb⟩; have n0_ := Aside0.mk (Kd.R_below (zr HO_248000) hb); have n1_ := Aside0.mk (Kd.R_below (zr HO_253000) hb); have n2_ := Aside0.mk (Kd.R_below (zr HO_267000) hb); have n3_ := Aside0.mk (Kd.R_below (zr HO_276000) hb); have n4_ := Aside0.mk (Kd.R_below (zr HO_285000) hb); have n5_ := Aside0.mk (Kd.R_below (zr HO_290000) hb); have n6_ := Aside0.mk (blk_below (zb BK247) hb); have n7_ := Aside0.mk (blk_below (zb BK252) hb); have n8_ := Aside0.mk (blk_below (zb BK266) hb); have n9_ := Aside0.mk (blk_below (zb BK275) hb); have n10_ := Aside0.mk (blk_below (zb BK284) hb); have n11_ := Aside0.mk (blk_below (zb BK289) hb); have n12_ := Aside0.mk (below_step (zg HB) hb); clear HO_248000; clear HO_253000; clear HO_267000; clear HO_276000; clear HO_285000; clear HO_290000; clear BK247; clear BK252; clear BK266; clear BK275; clear BK284; clear BK289; clear HB; have HO_248000 := n0_; have HO_253000 := n1_; have HO_267000 := n2_; have HO_276000 := n3_; have HO_285000 := n4_; have HO_290000 := n5_; have BK247 := n6_; have BK252 := n7_; have BK266 := n8_; have BK275 := n9_; have BK284 := n10_; have BK289 := n11_; have HB := n12_; clear n0_ n1_ n2_ n3_ n4_ n5_ n6_ n7_ n8_ n9_ n10_ n11_ n12_; (try clear hb); (try clear hb2); (try clear hk); (try clear hi); have hcz153_0 : w152.cell? ⟨gb252, 0, none⟩ = some (.slice Ao15 t248.length co15) := (blk_cell BK252.out 0).trans rfl; have hfz153_0 := blk_frozen BK252.out 0) | (go_at_call 18; (with_reducible refine (spec_SketchCount.calls k5 _ _ t248 t296 t297 _ ?side1 ?side2 A143.out).mono ?_); (case side1 => repeat (first | exact (Kd.R_reads' HO_253000.out).2.2 | (with_reducible refine Kd.C_alloc ?_ _) | (with_reducible refine Kd.C_drewN ?_ _) | (with_reducible refine Kd.C_drew ?_))); (case side2 => exact (Kd.R_reads' HO_253000.out).2.1); rintro e w154 ⟨rfl, hb⟩; have n0_ := Aside0.mk (Kd.R_below (zr HO_248000) hb); have n1_ := Aside0.mk (Kd.R_below (zr HO_253000) hb); have n2_ := Aside0.mk (Kd.R_below (zr HO_267000) hb); have n3_ := Aside0.mk (Kd.R_below (zr HO_276000) hb); have n4_ := Aside0.mk (Kd.R_below (zr HO_285000) hb); have n5_ := Aside0.mk (Kd.R_below (zr HO_290000) hb); have n6_ := Aside0.mk (blk_below (zb BK247) hb); have n7_ := Aside0.mk (blk_below (zb BK252) hb); have n8_ := Aside0.mk (blk_below (zb BK266) hb); have n9_ := Aside0.mk (blk_below (zb BK275) hb); have n10_ := Aside0.mk (blk_below (zb BK284) hb); have n11_ := Aside0.mk (blk_below (zb BK289) hb); have n12_ := Aside0.mk (below_step (zg HB) hb); clear HO_248000; clear HO_253000; clear HO_267000; clear HO_276000; clear HO_285000; clear HO_290000; clear BK247; clear BK252; clear BK266; clear BK275; clear BK284; clear BK289; clear HB; have HO_248000 := n0_; have HO_253000 := n1_; have HO_267000 := n2_; have HO_276000 := n3_; have HO_285000 := n4_; have HO_290000 := n5_; have BK247 := n6_; have BK252 := n7_; have BK266 := n8_; have BK275 := n9_; have BK284 := n10_; have BK289 := n11_; have HB := n12_; clear n0_ n1_ n2_ n3_ n4_ n5_ n6_ n7_ n8_ n9_ n10_ n11_ n12_; (try clear hb); (try clear hb2); (try clear hk); (try clear hi))))
        go_ret
        exact ⟨by first | rfl | (simp [errW_none, errW_some] <;> rfl) | (simp only [← hji37]; first | rfl | (simp [errW_none, errW_some] <;> rfl)) | (simp [*, errW_none, errW_some] <;> rfl), zg HB⟩
       ·
        rw [if_neg c145] at H
        have c145b0 : (t294 == t296) = false := beq_eq_false_iff_ne.mpr c145
        have c145b1 : (t294 != t296) = true := bne_iff_ne.mpr c145
        obtain rfl := Option.some.inj H
        have hnb155 := NB252_247.out
        have hnc155 := NB247_252.out
        have hnb156 := NB252_266.out
        have hnc156 := NB266_252.out
        have hnb157 := NB252_275.out
        have hnc157 := NB275_252.out
        have hnb158 := NB252_284.out
        have hnc158 := NB284_252.out
        have hnb159 := NB252_289.out
        have hnc159 := NB289_252.out
        have hcz160_0 : wr.cell? ⟨gb252, 0, none⟩ = some (.slice Ao15 t248.length co15) := (blk_cell BK252.out 0).trans rfl
        have hfz160_0 := blk_frozen BK252.out 0
        go_wp2_with (first | (go_at_call 17; (with_reducible refine (impl_SketchCount.calls k5 _ _ t248 t294 t295 _ ?side1 ?side2 A142.out).mono ?_); (case side1 => repeat (first | exact (Kd.R_reads' HO_253000.out).2.2 | (with_reducible refine Kd.C_alloc ?_ _) | (with_reducible refine Kd.C_drewN ?_ _) | (with_reducible refine Kd.C_drew ?_))); (case side2 => exact (Kd.R_reads' HO_253000.out).2.1); rintro e w161 ⟨rfl, hb⟩; have n0_ := Aside0.mk (Kd.R_below (zr HO_248000) hb); have n1_ := Aside0.mk (Kd.R_below (zr HO_253000) hb); have n2_ := Aside0.mk (Kd.R_below (zr HO_267000) hb); have n3_ := Aside0.mk (Kd.R_below (zr HO_276000) hb); have n4_ := Aside0.mk (Kd.R_below (zr HO_285000) hb); have n5_ := Aside0.mk (Kd.R_below (zr HO_290000) hb); have n6_ := Aside0.mk (blk_below (zb BK247) hb); have n7_ := Aside0.mk (blk_below (zb BK252) hb); have n8_ := Aside0.mk (blk_below (zb BK266) hb); have n9_ := Aside0.mk (blk_below (zb BK275) hb); have n10_ := Aside0.mk (blk_below (zb BK284) hb); have n11_ := Aside0.mk (blk_below (zb BK289) hb); have n12_ := Aside0.mk (below_step (zg HB) hb); clear HO_248000; clear HO_253000; clear HO_267000; clear HO_276000; clear HO_285000; clear HO_290000; clear BK247; clear BK252; clear BK266; clear BK275; clear BK284; clear BK289; clear HB; have HO_248000 := n0_; have HO_253000 := n1_; have HO_267000 := n2_; have HO_276000 := n3_; have HO_285000 := n4_; have HO_290000 := n5_; have BK247 := n6_; have BK252 := n7_; have BK266 := n8_; have BK275 := n9_; have BK284 := n10_; have BK289 := n11_; have HB := n12_; clear n0_ n1_ n2_ n3_ n4_ n5_ n6_ n7_ n8_ n9_ n10_ n11_ n12_; (try clear hb); (try clear hb2); (try clear hk); (try clear hi); have hcz162_0 : w161.cell? ⟨gb252, 0, none⟩ = some (.slice Ao15 t248.length co15) := (blk_cell BK252.out 0).trans rfl; have hfz162_0 := blk_frozen BK252.out 0) | (go_at_call 18; (with_reducible refine (spec_SketchCount.calls k5 _ _ t248 t296 t297 _ ?side1 ?side2 A143.out).mono ?_); (case side1 => repeat (first | exact (Kd.R_reads' HO_253000.out).2.2 | (with_reducible refine Kd.C_alloc ?_ _) | (with_reducible refine Kd.C_drewN ?_ _) | (with_reducible refine Kd.C_drew ?_))); (case side2 => exact (Kd.R_reads' HO_253000.out).2.1); rintro e w163 ⟨rfl, hb⟩; have n0_ := Aside0.mk (Kd.R_below (zr HO_248000) hb); have n1_ := Aside0.mk (Kd.R_below (zr HO_253000) hb); have n2_ := Aside0.mk (Kd.R_below (zr HO_267000) hb); have n3_ := Aside0.mk (Kd.R_below (zr HO_276000) hb); have n4_ := Aside0.mk (Kd.R_below (zr HO_285000) hb); have n5_ := Aside0.mk (Kd.R_below (zr HO_290000) hb); have n6_ := Aside0.mk (blk_below (zb BK247) hb); have n7_ := Aside0.mk (blk_below (zb BK252) hb); have n8_ := Aside0.mk (blk_below (zb BK266) hb); have n9_ := Aside0.mk (blk_below (zb BK275) hb); have n10_ := Aside0.mk (blk_below (zb BK284) hb); have n11_ := Aside0.mk (blk_below (zb BK289) hb); have n12_ := Aside0.mk (below_step (zg HB) hb); clear HO_248000; clear HO_253000; clear HO_267000; clear HO_276000; clear HO_285000; clear HO_290000; clear BK247; clear BK252; clear BK266; clear BK275; clear BK284; clear BK289; clear HB; have HO_248000 := n0_; have HO_253000 := n1_; have HO_267000 := n2_; have HO_276000 := n3_; have HO_285000 := n4_; have HO_290000 := n5_; have BK247 := n6_; have BK252 := n7_; have BK266 := n8_; have BK275 := n9_; have BK284 := n10_; have BK289 := n11_; have HB := n12_; clear n0_ n1_ n2_ n3_ n4_ n5_ n6_ n7_ n8_ n9_ n10_ n11_ n12_; (try clear hb); (try clear hb2); (try clear hk); (try clear hi)))
        repeat (go_quiet (first | (go_at_call 17; (with_reducible refine (impl_SketchCount.calls k5 _ _ t248 t294 t295 _ ?side1 ?side2 A142.out).mono ?_); (case side1 => repeat (first | exact (Kd.R_reads' HO_253000.out).2.2 | (with_reducible refine Kd.C_alloc ?_ _) | (with_reducible refine Kd.C_drewN ?_ _) | (with_reducible refine Kd.C_drew ?_))); (case side2 => exact (Kd.R_reads' HO_253000.out).2.1); rintro e w161 ⟨rfl, hb⟩; have n0_ := Aside0.mk (Kd.R_below (zr HO_248000) hb); have n1_ := Aside0.mk (Kd.R_below (zr HO_253000) hb); have n2_ := Aside0.mk (Kd.R_below (zr HO_267000) hb); have n3_ := Aside0.mk (Kd.R_below (zr HO_276000) hb); have n4_ := Aside0.mk (Kd.R_below (zr HO_285000) hb); have n5_ := Aside0.mk (Kd.R_below (zr HO_290000) hb); have n6_ := Aside0.mk (blk_below (zb BK247) hb); have n7_ := Aside0.mk (blk_below (zb BK252) hb); have n8_ := Aside0.mk (blk_below (zb BK266) hb); have n9_ := Aside0.mk (blk_below (zb BK275) hb); have n10_ := Aside0.mk (blk_below (zb BK284) hb); have n11_ := Aside0.mk (blk_below (zb BK289) hb); have n12_ := Aside0.mk (below_step (zg HB) hb); clear HO_248000; clear HO_253000; clear HO_267000; clear HO_276000; clear HO_285000; clear HO_290000; clear BK247; clear BK252; clear BK266; clear BK275; clear BK284; clear BK289; clear HB; have HO_248000 := n0_; have HO_253000 := n1_; have HO_267000 := n2_; have HO_276000 := n3_; have HO_285000 := n4_; have HO_290000 := n5_; have BK247 := n6_; have BK252 := n7_; have BK266 := n8_; have BK275 := n9_; have BK284 := n10_; have BK289 := n11_; have HB := n12_; clear n0_ n1_ n2_ n3_ n4_ n5_ n6_ n7_ n8_ n9_ n10_ n11_ n12_; (try clear hb); (try clear hb2); (try clear hk); (try clear hi); have hcz162_0 : w161.cell? ⟨gb252, 0, none⟩ = some (.slice Ao15 t248.length co15) := (blk_cell BK252.out 0).trans rfl; have hfz162_0 := blk_frozen BK252.out 0) | (go_at_call 18; (with_reducible refine (spec_SketchCount.calls k5 _ _ t248 t296 t297 _ ?side1 ?side2 A143.out).mono ?_); (case side1 => repeat (first | exact (Kd.R_reads' HO_253000.out).2.2 | (with_reducible refine Kd.C_alloc ?_ _) | (with_reducible refine Kd.C_drewN ?_ _) | (with_reducible refine Kd.C_drew ?_))); (case side2 => exact (Kd.R_reads' HO_253000.out).2.1); rintro e w163 ⟨rfl, hb⟩; have n0_ := Aside0.mk (Kd.R_below (zr HO_248000) hb); have n1_ := Aside0.mk (Kd.R_below (zr HO_253000) hb); have n2_ := Aside0.mk (Kd.R_below (zr HO_267000) hb); have n3_ := Aside0.mk (Kd.R_below (zr HO_276000) hb); have n4_ := Aside0.mk (Kd.R_below (zr HO_285000) hb); have n5_ := Aside0.mk (Kd.R_below (zr HO_290000) hb); have n6_ := Aside0.mk (blk_below (zb BK247) hb); have n7_ := Aside0.mk (blk_below (zb BK252) hb); have n8_ := Aside0.mk (blk_below (zb BK266) hb); have n9_ := Aside0.mk (blk_below (zb BK275) hb); have n10_ := Aside0.mk (blk_below (zb BK284) hb); have n11_ := Aside0.mk (blk_below (zb BK289) hb); have n12_ := Aside0.mk (below_step (zg HB) hb); clear HO_248000; clear HO_253000; clear HO_267000; clear HO_276000; clear HO_285000; clear HO_290000; clear BK247; clear BK252; clear BK266; clear BK275; clear BK284; clear BK289; clear HB; have HO_248000 := n0_; have HO_253000 := n1_; have HO_267000 := n2_; have HO_276000 := n3_; have HO_285000 := n4_; have HO_290000 := n5_; have BK247 := n6_; have BK252 := n7_; have BK266 := n8_; have BK275 := n9_; have BK284 := n10_; have BK289 := n11_; have HB := n12_; clear n0_ n1_ n2_ n3_ n4_ n5_ n6_ n7_ n8_ n9_ n10_ n11_ n12_; (try clear hb); (try clear hb2); (try clear hk); (try clear hi))); try go_wp2_with (first | (go_at_call 17; (with_reducible refine (impl_SketchCount.calls k5 _ _ t248 t294 t295 _ ?side1 ?side2 A142.out).mono ?_); (case side1 => repeat (first | exact (Kd.R_reads' HO_253000.out).2.2 | (with_reducible refine Kd.C_alloc ?_ _) | (with_reducible refine Kd.C_drewN ?_ _) | (with_reducible refine Kd.C_drew ?_))); (case side2 => exact (Kd.R_reads' HO_253000.out).2.1); rintro e w161 ⟨rfl, hb⟩; have n0_ := Aside0.mk (Kd.R_below (zr HO_248000) hb); have n1_ := Aside0.mk (Kd.R_below (zr HO_253000) hb); have n2_ := Aside0.mk (Kd.R_below (zr HO_267000) hb); have n3_ := Aside0.mk (Kd.R_below (zr HO_276000) hb); have n4_ := Aside0.mk (Kd.R_below (zr HO_285000) hb); have n5_ := Aside0.mk (Kd.R_below (zr HO_290000) hb); have n6_ := Aside0.mk (blk_below (zb BK247) hb); have n7_ := Aside0.mk (blk_below (zb BK252) hb); have n8_ := Aside0.mk (blk_below (zb BK266) hb); have n9_ := Aside0.mk (blk_below (zb BK275) hb); have n10_ := Aside0.mk (blk_below (zb BK284) hb); have n11_ := Aside0.mk (blk_below (zb BK289) hb); have n12_ := Aside0.mk (below_step (zg HB) hb); clear HO_248000; clear HO_253000; clear HO_267000; clear HO_276000; clear HO_285000; clear HO_290000; clear BK247; clear BK252; clear BK266; clear BK275; clear BK284; clear BK289; clear HB; have HO_248000 := n0_; have HO_253000 := n1_; have HO_267000 := n2_; have HO_276000 := n3_; have HO_285000 := n4_; have HO_290000 := n5_; have BK247 := n6_; have BK252 := n7_; have BK266 := n8_; have BK275 := n9_; have BK284 := n10_; have BK289 := n11_; have HB := n12_; clear n0_ n1_ n2_ n3_ n4_ n5_ n6_ n7_ n8_ n9_ n10_ n11_ n12_; (try clear hb); (try clear hb2); (try clear hk); (try clear hi); have hcz162_0 : w161.cell? ⟨gb252, 0, none⟩ = some (.slice Ao15 t248.length co15) := (blk_cell BK252.out 0).trans rfl; have hfz162_0 := blk_frozen BK252.out 0) | (go_at_call 18; (with_reducible refine (spec_SketchCount.calls k5 _ _ t248 t296 t297 _ ?side1 ?side2 A143.out).mono ?_); (case side1 => repeat (first | exact (Kd.R_reads' HO_253000.out).2.2 | (with_reducible refine Kd.C_alloc ?_ _) | (with_reducible refine Kd.C_drewN ?_ _) | (with_reducible refine Kd.C_drew ?_))); (case side2 => exact (Kd.R_reads' HO_253000.out).2.1); rintro e w163 ⟨rfl, hb⟩; have n0_ := Aside0.mk (Kd.R_below (zr HO_248000) hb); have n1_ := Aside0.mk (Kd.R_below (zr HO_253000) hb); have n2_ := Aside0.mk (Kd.R_below (zr HO_267000) hb); have n3_ := Aside0.mk (Kd.R_below (zr HO_276000) hb); have n4_ := Aside0.mk (Kd.R_below (zr HO_285000) hb); have n5_ := Aside0.mk (Kd.R_below (zr HO_290000) hb); have n6_ := Aside0.mk (blk_below (zb BK247) hb); have n7_ := Aside0.mk (blk_below (zb BK252) hb); have n8_ := Aside0.mk (blk_below (zb BK266) hb); have n9_ := Aside0.mk (blk_below (zb BK275) hb); have n10_ := Aside0.mk (blk_below (zb BK284) hb); have n11_ := Aside0.mk (blk_below (zb BK289) hb); have n12_ := Aside0.mk (below_step (zg HB) hb); clear HO_248000; clear HO_253000; clear HO_267000; clear HO_276000; clear HO_285000; clear HO_290000; clear BK247; clear BK252; clear BK266; clear BK275; clear BK284; clear BK289; clear HB; have HO_248000 := n0_; have HO_253000 := n1_; have HO_267000 := n2_; have HO_276000 := n3_; have HO_285000 := n4_; have HO_290000 := n5_; have BK247 := n6_; have BK252 := n7_; have BK266 := n8_; have BK275 := n9_; have BK284 := n10_; have BK289 := n11_; have HB := n12_; clear n0_ n1_ n2_ n3_ n4_ n5_ n6_ n7_ n8_ n9_ n10_ n11_ n12_; (try clear hb); (try clear hb2); (try clear hk); (try clear hi))))
        go_ret
        exact ⟨by first | rfl | (simp [errW_none, errW_some] <;> rfl) | (simp only [← hji37]; first | rfl | (simp [errW_none, errW_some] <;> rfl)) | (simp [*, errW_none, errW_some] <;> rfl), zg HB⟩
      ·
       rw [if_neg c144] at H
       have c144b0 : (t295 == t297) = false := beq_eq_false_iff_ne.mpr c144
       have c144b1 : (t295 != t297) = true := bne_iff_ne.mpr c144
       obtain rfl := Option.some.inj H
       have hnb164 := NB252_247.out
       have hnc164 := NB247_252.out
       have hnb165 := NB252_266.out
       have hnc165 := NB266_252.out
       have hnb166 := NB252_275.out
       have hnc166 := NB275_252.out
       have hnb167 := NB252_284.out
       have hnc167 := NB284_252.out
       have hnb168 := NB252_289.out
       have hnc168 := NB289_252.out
       have hcz169_0 : wr.cell? ⟨gb252, 0, none⟩ = some (.slice Ao15 t248.length co15) := (blk_cell BK252.out 0).trans rfl
       have hfz169_0 := blk_frozen BK252.out 0
       go_wp2_with (first | (go_at_call 17; (with_reducible refine (impl_SketchCount.calls k5 _ _ t248 t294 t295 _ ?side1 ?side2 A142.out).mono ?_); (case side1 => repeat (first | exact (Kd.R_reads' HO_253000.out).2.2 | (with_reducible refine Kd.C_alloc ?_ _) | (with_reducible refine Kd.C_drewN ?_ _) | (with_reducible refine Kd.C_drew ?_))); (case side2 => exact (Kd.R_reads' HO_253000.out).2.1); rintro e w170 ⟨rfl, hb⟩; have n0_ := Aside0.mk (Kd.R_below (zr HO_248000) hb); have n1_ := Aside0.mk (Kd.R_below (zr HO_253000) hb); have n2_ := Aside0.mk (Kd.R_below (zr HO_267000) hb); have n3_ := Aside0.mk (Kd.R_below (zr HO_276000) hb); have n4_ := Aside0.mk (Kd.R_below (zr HO_285000) hb); have n5_ := Aside0.mk (Kd.R_below (zr HO_290000) hb); have n6_ := Aside0.mk (blk_below (zb BK247) hb); have n7_ := Aside0.mk (blk_below (zb BK252) hb); have n8_ := Aside0.mk (blk_below (zb BK266) hb); have n9_ := Aside0.mk (blk_below (zb BK275) hb); have n10_ := Aside0.mk (blk_below (zb BK284) hb); have n11_ := Aside0.mk (blk_below (zb BK289) hb); have n12_ := Aside0.mk (below_step (zg HB) hb); clear HO_248000; clear HO_253000; clear HO_267000; clear HO_276000; clear HO_285000; clear HO_290000; clear BK247; clear BK252; clear BK266; clear BK275; clear BK284; clear BK289; clear HB; have HO_248000 := n0_; have HO_253000 := n1_; have HO_267000 := n2_; have HO_276000 := n3_; have HO_285000 := n4_; have HO_290000 := n5_; have BK247 := n6_; have BK252 := n7_; have BK266 := n8_; have BK275 := n9_; have BK284 := n10_; have BK289 := n11_; have HB := n12_; clear n0_ n1_ n2_ n3_ n4_ n5_ n6_ n7_ n8_ n9_ n10_ n11_ n12_; (try clear hb); (try clear hb2); (try clear hk); (try clear hi); have hcz171_0 : w170.cell? ⟨gb252, 0, none⟩ = some (.slice Ao15 t248.length co15) := (blk_cell BK252.out 0).trans rfl; have hfz171_0 := blk_frozen BK252.out 0) | (go_at_call 18; (with_reducible refine (spec_SketchCount.calls k5 _ _ t248 t296 t297 _ ?side1 ?side2 A143.out).mono ?_); (case side1 => repeat (first | exact (Kd.R_reads' HO_253000.out).2.2 | (with_reducible refine Kd.C_alloc ?_ _) | (with_reducible refine Kd.C_drewN ?_ _) | (with_reducible refine Kd.C_drew ?_))); (case side2 => exact (Kd.R_reads' HO_253000.out).2.1); rintro e w172 ⟨rfl, hb⟩; have n0_ := Aside0.mk (Kd.R_below (zr HO_248000) hb); have n1_ := Aside0.mk (Kd.R_below (zr HO_253000) hb); have n2_ := Aside0.mk (Kd.R_below (zr HO_267000) hb); have n3_ := Aside0.mk (Kd.R_below (zr HO_276000) hb); have n4_ := Aside0.mk (Kd.R_below (zr HO_285000) hb); have n5_ := Aside0.mk (Kd.R_below (zr HO_290000) hb); have n6_ := Aside0.mk (blk_below (zb BK247) hb); have n7_ := Aside0.mk (blk_below (zb BK252) hb); have n8_ := Aside0.mk (blk_below (zb BK266) hb); have n9_ := Aside0.mk (blk_below (zb BK275) hb); have n10_ := Aside0.mk (blk_below (zb BK284) hb); have n11_ := Aside0.mk (blk_below (zb BK289) hb); have n12_ := Aside0.mk (below_step (zg HB) hb); clear HO_248000; clear HO_253000; clear HO_267000; clear HO_276000; clear HO_285000; clear HO_290000; clear BK247; clear BK252; clear BK266; clear BK275; clear BK284; clear BK289; clear HB; have HO_248000 := n0_; have HO_253000 := n1_; have HO_267000 := n2_; have HO_276000 := n3_; have HO_285000 := n4_; have HO_290000 := n5_; have BK247 := n6_; have BK252 := n7_; have BK266 := n8_; have BK275 := n9_; have BK284 := n10_; have BK289 := n11_; have HB := n12_; clear n0_ n1_ n2_ n3_ n4_ n5_ n6_ n7_ n8_ n9_ n10_ n11_ n12_; (try clear hb); (try clear hb2); (try clear hk); (try clear hi)))
       repeat (go_quiet (first | (go_at_call 17; (with_reducible refine (impl_SketchCount.calls k5 _ _ t248 t294 t295 _ ?side1 ?side2 A142.out).mono ?_); (case side1 => repeat (first | exact (Kd.R_reads' HO_253000.out).2.2 | (with_reducible refine Kd.C_alloc ?_ _) | (with_reducible refine Kd.C_drewN ?_ _) | (with_reducible refine Kd.C_drew ?_))); (case side2 => exact (Kd.R_reads' HO_253000.out).2.1); rintro e w170 ⟨rfl, hb⟩; have n0_ := Aside0.mk (Kd.R_below (zr HO_248000) hb); have n1_ := Aside0.mk (Kd.R_below (zr HO_253000) hb); have n2_ := Aside0.mk (Kd.R_below (zr HO_267000) hb); have n3_ := Aside0.mk (Kd.R_below (zr HO_276000) hb); have n4_ := Aside0.mk (Kd.R_below (zr HO_285000) hb); have n5_ := Aside0.mk (Kd.R_below (zr HO_290000) hb); have n6_ := Aside0.mk (blk_below (zb BK247) hb); have n7_ := Aside0.mk (blk_below (zb BK252) hb); have n8_ := Aside0.mk (blk_below (zb BK266) hb); have n9_ := Aside0.mk (blk_below (zb BK275) hb); have n10_ := Aside0.mk (blk_below (zb BK284) hb); have n11_ := Aside0.mk (blk_below (zb BK289) hb); have n12_ := Aside0.mk (below_step (zg HB) hb); clear HO_248000; clear HO_253000; clear HO_267000; clear HO_276000; clear HO_285000; clear HO_290000; clear BK247; clear BK252; clear BK266; clear BK275; clear BK284; clear BK289; clear HB; have HO_248000 := n0_; have HO_253000 := n1_; have HO_267000 := n2_; have HO_276000 := n3_; have HO_285000 := n4_; have HO_290000 := n5_; have BK247 := n6_; have BK252 := n7_; have BK266 := n8_; have BK275 := n9_; have BK284 := n10_; have BK289 := n11_; have HB := n12_; clear n0_ n1_ n2_ n3_ n4_ n5_ n6_ n7_ n8_ n9_ n10_ n11_ n12_; (try clear hb); (try clear hb2); (try clear hk); (try clear hi); have hcz171_0 : w170.cell? ⟨gb252, 0, none⟩ = some (.slice Ao15 t248.length co15) := (blk_cell BK252.out 0).trans rfl; have hfz171_0 := blk_frozen BK252.out 0) | (go_at_call 18; (with_reducible refine (spec_SketchCount.calls k5 _ _ t248 t296 t297 _ ?side1 ?side2 A143.out).mono ?_); (case side1 => repeat (first | exact (Kd.R_reads' HO_253000.out).2.2 | (with_reducible refine Kd.C_alloc ?_ _) | (with_reducible refine Kd.C_drewN ?_ _) | (with_reducible refine Kd.C_drew ?_))); (case side2 => exact (Kd.R_reads' HO_253000.out).2.1); rintro e w172 ⟨rfl, hb⟩; have n0_ := Aside0.mk (Kd.R_below (zr HO_248000) hb); have n1_ := Aside0.mk (Kd.R_below (zr HO_253000) hb); have n2_ := Aside0.mk (Kd.R_below (zr HO_267000) hb); have n3_ := Aside0.mk (Kd.R_below (zr HO_276000) hb); have n4_ := Aside0.mk (Kd.R_below (zr HO_285000) hb); have n5_ := Aside0.mk (Kd.R_below (zr HO_290000) hb); have n6_ := Aside0.mk (blk_below (zb BK247) hb); have n7_ := Aside0.mk (blk_below (zb BK252) hb); have n8_ := Aside0.mk (blk_below (zb BK266) hb); have n9_ := Aside0.mk (blk_below (zb BK275) hb); have n10_ := Aside0.mk (blk_below (zb BK284) hb); have n11_ := Aside0.mk (blk_below (zb BK289) hb); have n12_ := Aside0.mk (below_step (zg HB) hb); clear HO_248000; clear HO_253000; clear HO_267000; clear HO_276000; clear HO_285000; clear HO_290000; clear BK247; clear BK252; clear BK266; clear BK275; clear BK284; clear BK289; clear HB; have HO_248000 := n0_; have HO_253000 := n1_; have HO_267000 := n2_; have HO_276000 := n3_; have HO_285000 := n4_; have HO_290000 := n5_; have BK247 := n6_; have BK252 := n7_; have BK266 := n8_; have BK275 := n9_; have BK284 := n10_; have BK289 := n11_; have HB := n12_; clear n0_ n1_ n2_ n3_ n4_ n5_ n6_ n7_ n8_ n9_ n10_ n11_ n12_; (try clear hb); (try clear hb2); (try clear hk); (try clear hi))); try go_wp2_with (first | (go_at_call 17; (with_reducible refine (impl_SketchCount.calls k5 _ _ t248 t294 t295 _ ?side1 ?side2 A142.out).mono ?_); (case side1 => repeat (first | exact (Kd.R_reads' HO_253000.out).2.2 | (with_reducible refine Kd.C_alloc ?_ _) | (with_reducible refine Kd.C_drewN ?_ _) | (with_reducible refine Kd.C_drew ?_))); (case side2 => exact (Kd.R_reads' HO_253000.out).2.1); rintro e w170 ⟨rfl, hb⟩; have n0_ := Aside0.mk (Kd.R_below (zr HO_248000) hb); have n1_ := Aside0.mk (Kd.R_below (zr HO_253000) hb); have n2_ := Aside0.mk (Kd.R_below (zr HO_267000) hb); have n3_ := Aside0.mk (Kd.R_below (zr HO_276000) hb); have n4_ := Aside0.mk (Kd.R_below (zr HO_285000) hb); have n5_ := Aside0.mk (Kd.R_below (zr HO_290000) hb); have n6_ := Aside0.mk (blk_below (zb BK247) hb); have n7_ := Aside0.mk (blk_below (zb BK252) hb); have n8_ := Aside0.mk (blk_below (zb BK266) hb); have n9_ := Aside0.mk (blk_below (zb BK275) hb); have n10_ := Aside0.mk (blk_below (zb BK284) hb); have n11_ := Aside0.mk (blk_below (zb BK289) hb); have n12_ := Aside0.mk (below_step (zg HB) hb); clear HO_248000; clear HO_253000; clear HO_267000; clear HO_276000; clear HO_285000; clear HO_290000; clear BK247; clear BK252; clear BK266; clear BK275; clear BK284; clear BK289; clear HB; have HO_248000 := n0_; have HO_253000 := n1_; have HO_267000 := n2_; have HO_276000 := n3_; have HO_285000 := n4_; have HO_290000 := n5_; have BK247 := n6_; have BK252 := n7_; have BK266 := n8_; have BK275 := n9_; have BK284 := n10_; have BK289 := n11_; have HB := n12_; clear n0_ n1_ n2_ n3_ n4_ n5_ n6_ n7_ n8_ n9_ n10_ n11_ n12_; (try clear hb); (try clear hb2); (try clear hk); (try clear hi); have hcz171_0 : w170.cell? ⟨gb252, 0, none⟩ = some (.slice Ao15 t248.length co15) := (blk_cell BK252.out 0).trans rfl; have hfz171_0 := blk_frozen BK252.out 0) | (go_at_call 18; (with_reducible refine (spec_SketchCount.calls k5 _ _ t248 t296 t297 _ ?side1 ?side2 A143.out).mono ?_); (case side1 => repeat (first | exact (Kd.R_reads' HO_253000.out).2.2 | (with_reducible refine Kd.C_alloc ?_ _) | (with_reducible refine Kd.C_drewN ?_ _) | (with_reducible refine Kd.C_drew ?_))); (case side2 => exact (Kd.R_reads' HO_253000.out).2.1); rintro e w172 ⟨rfl, hb⟩; have n0_ := Aside0.mk (Kd.R_below (zr HO_248000) hb); have n1_ := Aside0.mk (Kd.R_below (zr HO_253000) hb); have n2_ := Aside0.mk (Kd.R_below (zr HO_267000) hb); have n3_ := Aside0.mk (Kd.R_below (zr HO_276000) hb); have n4_ := Aside0.mk (Kd.R_below (zr HO_285000) hb); have n5_ := Aside0.mk (Kd.R_below (zr HO_290000) hb); have n6_ := Aside0.mk (blk_below (zb BK247) hb); have n7_ := Aside0.mk (blk_below (zb BK252) hb); have n8_ := Aside0.mk (blk_below (zb BK266) hb); have n9_ := Aside0.mk (blk_below (zb BK275) hb); have n10_ := Aside0.mk (blk_below (zb BK284) hb); have n11_ := Aside0.mk (blk_below (zb BK289) hb); have n12_ := Aside0.mk (below_step (zg HB) hb); clear HO_248000; clear HO_253000; clear HO_267000; clear HO_276000; clear HO_285000; clear HO_290000; clear BK247; clear BK252; clear BK266; clear BK275; clear BK284; clear BK289; clear HB; have HO_248000 := n0_; have HO_253000 := n1_; have HO_267000 := n2_; have HO_276000 := n3_; have HO_285000 := n4_; have HO_290000 := n5_; have BK247 := n6_; have BK252 := n7_; have BK266 := n8_; have BK275 := n9_; have BK284 := n10_; have BK289 := n11_; have HB := n12_; clear n0_ n1_ n2_ n3_ n4_ n5_ n6_ n7_ n8_ n9_ n10_ n11_ n12_; (try clear hb); (try clear hb2); (try clear hk); (try clear hi))))
       go_ret
       exact ⟨by first | rfl | (simp [errW_none, errW_some] <;> rfl) | (simp only [← hji37]; first | rfl | (simp [errW_none, errW_some] <;> rfl)) | (simp [*, errW_none, errW_some] <;> rfl), zg HB⟩
end Go.Proofs.YtchoncnahlcfjaaDoor.XFnSketch
