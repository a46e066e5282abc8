-- A text of this session: written by its own program (wip/x/xprint.py), which runs the kit's printer with contracts of its own.
import Derived.Test.YtchoncnahlcfjaaXFnExactDigestJoinx0
import Derived.Test.YtchoncnahlcfjaaXFnExactDigestJoinx1
import Derived.Test.YtchoncnahlcfjaaXFnExactDigestJoinx4
import Derived.Test.YtchoncnahlcfjaaXFnExactDigestJoinx5
import Derived.Test.YtchoncnahlcfjaaXFnExactDigestJoinx7
import Derived.Test.YtchoncnahlcfjaaXFnExactDigestJoinx8h
namespace Go.Proofs.Ytchoncnahlcfjaa.XFnExactDigestJoin
open Go.RowKit Go.Proofs.YtchoncnahlcfjaaW.PrintWords Go.Proofs.YtchoncnahlcfjaaW.PrintLast Go.Proofs.YtchoncnahlcfjaaW.PrintMore
attribute [local go_sem] max2_int min2_int max_two min_two max_three min_three max_four min_four   -- for this text's walks alone
set_option linter.unusedVariables false
set_option linter.unusedSimpArgs false

set_option maxHeartbeats 8000000 in
set_option maxRecDepth 100000 in
theorem laws_FnExactDigestJoin.reg0 {K_ : Act → World → Prop} {P_ : Ending → World → Prop}
  (k : Nat)
  (a0_0 a0_1 a0_2 : Int)
  (A0_3 : Option Addr)
  (c0_3 : Nat)
  (l0_3 : List Int)
  (a1_0 a1_1 a1_2 : Int)
  (A1_3 : Option Addr)
  (c1_3 : Nat)
  (l1_3 : List Int)
  (r : Bool)
  (w : World)
  (hu46 : Try.prog.underlying 46 =
    some
      (TypeDesc.struct
        #[{ name := "Step", type := 3, offset := 0, embedded := false, tag := "", pkgPath := "", byteOffset := 0 },
          { name := "Parts", type := 3, offset := 1, embedded := false, tag := "", pkgPath := "", byteOffset := 8 },
          { name := "Count", type := 3, offset := 2, embedded := false, tag := "", pkgPath := "", byteOffset := 16 },
          { name := "Points", type := 22, offset := 3, embedded := false, tag := "", pkgPath := "", byteOffset := 24 }]))
  (hu37 : Try.prog.underlying 37 =
    some
      (TypeDesc.struct
        #[{ name := "Step", type := 3, offset := 0, embedded := false, tag := "", pkgPath := "", byteOffset := 0 },
          { name := "Parts", type := 3, offset := 1, embedded := false, tag := "", pkgPath := "", byteOffset := 8 },
          { name := "Count", type := 3, offset := 2, embedded := false, tag := "", pkgPath := "", byteOffset := 16 },
          { name := "Points", type := 22, offset := 3, embedded := false, tag := "", pkgPath := "", byteOffset := 24 }]))
  (HR0_3 : Aside0 ((Kd.int IntKind.i64).C w A0_3 l0_3.length l0_3))
  (HC0_3 : Aside0 (l0_3.length ≤ c0_3))
  (HR1_3 : Aside0 ((Kd.int IntKind.i64).C w A1_3 l1_3.length l1_3))
  (HC1_3 : Aside0 (l1_3.length ≤ c1_3))
  (t215 : Int)
  (A3 : Aside0 (laws_szDigest.f a0_0 a0_1 a0_2 l0_3 1048576 = some t215))
  (c4b0 : decide (t215 < 0) = false)
  (t216 : Int)
  (A10 : Aside0 (laws_szDigest.f a1_0 a1_1 a1_2 l1_3 t215 = some t216))
  (c11b0 : decide (t216 < 0) = false)
  (t217 t218 t219 : Int)
  (t220 : List Int)
  (A19 : Aside0 (laws_toDigest.f k a0_0 a0_1 a0_2 l0_3 = some (t217, t218, t219, t220)))
  (t223 t224 t225 : Int)
  (t226 : List Int)
  (A20 : Aside0 (laws_toDigest.f k a1_0 a1_1 a1_2 l1_3 = some (t223, t224, t225, t226)))
  (t229 t230 t231 : Int)
  (t232 : List Int)
  (t235 : Int)
  (A21 : Aside0 (spec_DigestJoin.f k t217 t218 t219 t220 t223 t224 t225 t226 = some (t229, t230, t231, t232, t235)))
  (t237 t238 t239 : Int)
  (t240 : List Int)
  (A22 : Aside0 (laws_toDigest.f k a0_0 a0_1 a0_2 l0_3 = some (t237, t238, t239, t240)))
  (t244 t245 t246 : Int)
  (t247 : List Int)
  (A23 : Aside0 (laws_toDigest.f k a1_0 a1_1 a1_2 l1_3 = some (t244, t245, t246, t247)))
  (t251 t252 t253 : Int)
  (t254 : List Int)
  (t257 : Int)
  (A24 : Aside0 (impl_DigestJoin.f k t237 t238 t239 t240 t244 t245 t246 t247 = some (t251, t252, t253, t254, t257)))
  (gb213 : Nat)
  (w26 : World)
  (GW213 GE213 : Aside0 (w.heap.size ≤ gb213))
  (gb214 : Nat)
  (w27 : World)
  (GW214 GE214 : Aside0 (w.heap.size ≤ gb214))
  (NB213_214 : Aside0 (gb213 ≠ gb214))
  (NB214_213 : Aside0 (gb214 ≠ gb213))
  (hnb28 : gb213 ≠ gb214)
  (hnc28 : gb214 ≠ gb213)
  (hcz29_0 : w27.cell? { block := gb213, off := 0 } = some (Value.int IntKind.i64 a0_0))
  (hcz29_1 : w27.cell? { block := gb213, off := 1 } = some (Value.int IntKind.i64 a0_1))
  (hcz29_2 : w27.cell? { block := gb213, off := 2 } = some (Value.int IntKind.i64 a0_2))
  (hcz29_3 : w27.cell? { block := gb213, off := 3 } = some (Value.slice A0_3 l0_3.length c0_3))
  (hfz29_0 : w27.frozen? { block := gb213, off := 0 } = false)
  (hfz29_1 : w27.frozen? { block := gb213, off := 1 } = false)
  (hfz29_2 : w27.frozen? { block := gb213, off := 2 } = false)
  (hfz29_3 : w27.frozen? { block := gb213, off := 3 } = false)
  (w30 : World)
  (hcz31_0 : w30.cell? { block := gb214, off := 0 } = some (Value.int IntKind.i64 a1_0))
  (hcz31_1 : w30.cell? { block := gb214, off := 1 } = some (Value.int IntKind.i64 a1_1))
  (hcz31_2 : w30.cell? { block := gb214, off := 2 } = some (Value.int IntKind.i64 a1_2))
  (hcz31_3 : w30.cell? { block := gb214, off := 3 } = some (Value.slice A1_3 l1_3.length c1_3))
  (hfz31_0 : w30.frozen? { block := gb214, off := 0 } = false)
  (hfz31_1 : w30.frozen? { block := gb214, off := 1 } = false)
  (hfz31_2 : w30.frozen? { block := gb214, off := 2 } = false)
  (hfz31_3 : w30.frozen? { block := gb214, off := 3 } = false)
  (w32 : World)
  (HT_ : Aside0
    (rtab Region.Mode.any
        #[{ dst := some 28, op := Op.load 46 (Operand.tmp 2), type := 46, pos := "exact.go:6616", after := #[],
            guard := none },
          { dst := some 29,
            op := Op.call { callee := Callee.value (Operand.func 28), args := #[Operand.tmp 28], argTypes := #[46] },
            type := 37, pos := "exact.go:6616", after := #[{ on := 0, ground := Ground.data }], guard := none },
          { dst := some 30, op := Op.load 46 (Operand.tmp 3), type := 46, pos := "exact.go:6616", after := #[],
            guard := none },
          { dst := some 31,
            op := Op.call { callee := Callee.value (Operand.func 28), args := #[Operand.tmp 30], argTypes := #[46] },
            type := 37, pos := "exact.go:6616",
            after := #[{ on := 2, ground := Ground.data }, { on := 1, ground := Ground.chain }], guard := none },
          { dst := some 32,
            op :=
              Op.call
                { callee := Callee.value (Operand.func 27), args := #[Operand.tmp 29, Operand.tmp 31],
                  argTypes := #[37, 37] },
            type := 38, pos := "exact.go:6616",
            after :=
              #[{ on := 1, ground := Ground.data }, { on := 3, ground := Ground.data },
                { on := 3, ground := Ground.chain }],
            guard := none },
          { dst := some 27, op := Op.move (Operand.tmp 32), type := 38, pos := "exact.go:6616",
            after := #[{ on := 4, ground := Ground.data }], guard := none },
          { dst := some 33, op := Op.extract (Operand.tmp 27) 0, type := 37, pos := "exact.go:6616",
            after := #[{ on := 5, ground := Ground.data }], guard := none },
          { dst := some 34, op := Op.extract (Operand.tmp 27) 1, type := 3, pos := "exact.go:6616",
            after := #[{ on := 5, ground := Ground.data }, { on := 9, ground := Ground.gcOnly Departure.lateStores }],
            guard := none },
          { dst := some 6, op := Op.alloc 37, type := 0, pos := "exact.go:6616", after := #[], guard := none },
          { dst := none, op := Op.store 37 (Operand.tmp 6) (Operand.tmp 33), type := 0, pos := "exact.go:6616",
            after :=
              #[{ on := 8, ground := Ground.data }, { on := 6, ground := Ground.data },
                { on := 4, ground := Ground.chain }, { on := 0, ground := Ground.phase },
                { on := 1, ground := Ground.phase }, { on := 2, ground := Ground.phase },
                { on := 3, ground := Ground.phase }, { on := 4, ground := Ground.phase },
                { on := 5, ground := Ground.phase }, { on := 6, ground := Ground.phase },
                { on := 7, ground := Ground.textOnly Departure.lateStores }, { on := 8, ground := Ground.phase }],
            guard := none },
          { dst := some 7, op := Op.assign (Operand.tmp 34), type := 3, pos := "exact.go:6616",
            after :=
              #[{ on := 7, ground := Ground.data }, { on := 9, ground := Ground.chain },
                { on := 0, ground := Ground.phase }, { on := 1, ground := Ground.phase },
                { on := 2, ground := Ground.phase }, { on := 3, ground := Ground.phase },
                { on := 4, ground := Ground.phase }, { on := 5, ground := Ground.phase },
                { on := 6, ground := Ground.phase }, { on := 7, ground := Ground.phase },
                { on := 8, ground := Ground.phase }, { on := 9, ground := Ground.phase }],
            guard := none }] =
      T8))
  (HW_ : Aside0 (waitsOk T8.snd B8 = true))
  (w33 : World)
  (BK213 : Aside0
    (w33.heap[gb213]? =
      some
        (Obj.cells
          #[Value.int IntKind.i64 a0_0, Value.int IntKind.i64 a0_1, Value.int IntKind.i64 a0_2,
            Value.slice A0_3 l0_3.length c0_3]
          46)))
  (BK214 : Aside0
    (w33.heap[gb214]? =
      some
        (Obj.cells
          #[Value.int IntKind.i64 a1_0, Value.int IntKind.i64 a1_1, Value.int IntKind.i64 a1_2,
            Value.slice A1_3 l1_3.length c1_3]
          46)))
  (HB : Aside0 (Below w.heap.size w w33))
  (hHeld : w33.cell? { block := gb213, off := 0 } = some (Value.int IntKind.i64 a0_0) ∧
    w33.cell? { block := gb213, off := 1 } = some (Value.int IntKind.i64 a0_1) ∧
      w33.cell? { block := gb213, off := 2 } = some (Value.int IntKind.i64 a0_2) ∧
        w33.cell? { block := gb213, off := 3 } = some (Value.slice A0_3 l0_3.length c0_3) ∧
          w33.cell? { block := gb214, off := 0 } = some (Value.int IntKind.i64 a1_0) ∧
            w33.cell? { block := gb214, off := 1 } = some (Value.int IntKind.i64 a1_1) ∧
              w33.cell? { block := gb214, off := 2 } = some (Value.int IntKind.i64 a1_2) ∧
                w33.cell? { block := gb214, off := 3 } = some (Value.slice A1_3 l1_3.length c1_3))
  (hCont : ∀ (s : Value × Value × Value × Nat) (w' : World),
    (w'.cell? { block := gb213, off := 0 } = some (Value.int IntKind.i64 a0_0) ∧
          w'.cell? { block := gb213, off := 1 } = some (Value.int IntKind.i64 a0_1) ∧
            w'.cell? { block := gb213, off := 2 } = some (Value.int IntKind.i64 a0_2) ∧
              w'.cell? { block := gb213, off := 3 } = some (Value.slice A0_3 l0_3.length c0_3) ∧
                w'.cell? { block := gb214, off := 0 } = some (Value.int IntKind.i64 a1_0) ∧
                  w'.cell? { block := gb214, off := 1 } = some (Value.int IntKind.i64 a1_1) ∧
                    w'.cell? { block := gb214, off := 2 } = some (Value.int IntKind.i64 a1_2) ∧
                      w'.cell? { block := gb214, off := 3 } = some (Value.slice A1_3 l1_3.length c1_3)) ∧
        (Kd.int IntKind.i64).R 3 w' w.heap.size
            (fun k_ => some k_ ≠ s.snd.fst.ownBlock ∧ some k_ ≠ s.snd.snd.fst.ownBlock) s.fst t220 ∧
          (Kd.int IntKind.i64).R 3 w' w.heap.size
              (fun k_ => some k_ ≠ s.fst.ownBlock ∧ some k_ ≠ s.snd.snd.fst.ownBlock) s.snd.fst t226 ∧
            (Kd.int IntKind.i64).R 3 w' w.heap.size (fun k_ => some k_ ≠ s.fst.ownBlock ∧ some k_ ≠ s.snd.fst.ownBlock)
                s.snd.snd.fst t232 ∧
              w'.heap[gb213]? =
                  some
                    (Obj.cells
                      #[Value.int IntKind.i64 a0_0, Value.int IntKind.i64 a0_1, Value.int IntKind.i64 a0_2,
                        Value.slice A0_3 l0_3.length c0_3]
                      46) ∧
                w'.heap[gb214]? =
                    some
                      (Obj.cells
                        #[Value.int IntKind.i64 a1_0, Value.int IntKind.i64 a1_1, Value.int IntKind.i64 a1_2,
                          Value.slice A1_3 l1_3.length c1_3]
                        46) ∧
                  w'.heap[s.snd.snd.snd]? =
                      some
                        (Obj.cells
                          #[Value.int IntKind.i64 0, Value.int IntKind.i64 0, Value.int IntKind.i64 0,
                            Value.slice none 0 0]
                          37) ∧
                    w.heap.size ≤ s.snd.snd.snd ∧
                      w.heap.size ≤ s.snd.snd.snd ∧
                        gb213 ≠ s.snd.snd.snd ∧
                          s.snd.snd.snd ≠ gb213 ∧
                            gb214 ≠ s.snd.snd.snd ∧ s.snd.snd.snd ≠ gb214 ∧ Below w.heap.size w w' →
      wpAnyLast Try.prog Region.Mode.any
        #[{ dst := some 28, op := Op.load 46 (Operand.tmp 2), type := 46, pos := "exact.go:6616", after := #[],
            guard := none },
          { dst := some 29,
            op := Op.call { callee := Callee.value (Operand.func 28), args := #[Operand.tmp 28], argTypes := #[46] },
            type := 37, pos := "exact.go:6616", after := #[{ on := 0, ground := Ground.data }], guard := none },
          { dst := some 30, op := Op.load 46 (Operand.tmp 3), type := 46, pos := "exact.go:6616", after := #[],
            guard := none },
          { dst := some 31,
            op := Op.call { callee := Callee.value (Operand.func 28), args := #[Operand.tmp 30], argTypes := #[46] },
            type := 37, pos := "exact.go:6616",
            after := #[{ on := 2, ground := Ground.data }, { on := 1, ground := Ground.chain }], guard := none },
          { dst := some 32,
            op :=
              Op.call
                { callee := Callee.value (Operand.func 27), args := #[Operand.tmp 29, Operand.tmp 31],
                  argTypes := #[37, 37] },
            type := 38, pos := "exact.go:6616",
            after :=
              #[{ on := 1, ground := Ground.data }, { on := 3, ground := Ground.data },
                { on := 3, ground := Ground.chain }],
            guard := none },
          { dst := some 27, op := Op.move (Operand.tmp 32), type := 38, pos := "exact.go:6616",
            after := #[{ on := 4, ground := Ground.data }], guard := none },
          { dst := some 33, op := Op.extract (Operand.tmp 27) 0, type := 37, pos := "exact.go:6616",
            after := #[{ on := 5, ground := Ground.data }], guard := none },
          { dst := some 34, op := Op.extract (Operand.tmp 27) 1, type := 3, pos := "exact.go:6616",
            after := #[{ on := 5, ground := Ground.data }, { on := 9, ground := Ground.gcOnly Departure.lateStores }],
            guard := none },
          { dst := some 6, op := Op.alloc 37, type := 0, pos := "exact.go:6616", after := #[], guard := none },
          { dst := none, op := Op.store 37 (Operand.tmp 6) (Operand.tmp 33), type := 0, pos := "exact.go:6616",
            after :=
              #[{ on := 8, ground := Ground.data }, { on := 6, ground := Ground.data },
                { on := 4, ground := Ground.chain }, { on := 0, ground := Ground.phase },
                { on := 1, ground := Ground.phase }, { on := 2, ground := Ground.phase },
                { on := 3, ground := Ground.phase }, { on := 4, ground := Ground.phase },
                { on := 5, ground := Ground.phase }, { on := 6, ground := Ground.phase },
                { on := 7, ground := Ground.textOnly Departure.lateStores }, { on := 8, ground := Ground.phase }],
            guard := none },
          { dst := some 7, op := Op.assign (Operand.tmp 34), type := 3, pos := "exact.go:6616",
            after :=
              #[{ on := 7, ground := Ground.data }, { on := 9, ground := Ground.chain },
                { on := 0, ground := Ground.phase }, { on := 1, ground := Ground.phase },
                { on := 2, ground := Ground.phase }, { on := 3, ground := Ground.phase },
                { on := 4, ground := Ground.phase }, { on := 5, ground := Ground.phase },
                { on := 6, ground := Ground.phase }, { on := 7, ground := Ground.phase },
                { on := 8, ground := Ground.phase }, { on := 9, ground := Ground.phase }],
            guard := none }]
        (Exit.then K_ (bodyPost Try.prog Try.f6 P_))
        (fun w' =>
          w'.cell? { block := gb213, off := 0 } = some (Value.int IntKind.i64 a0_0) ∧
            w'.cell? { block := gb213, off := 1 } = some (Value.int IntKind.i64 a0_1) ∧
              w'.cell? { block := gb213, off := 2 } = some (Value.int IntKind.i64 a0_2) ∧
                w'.cell? { block := gb213, off := 3 } = some (Value.slice A0_3 l0_3.length c0_3) ∧
                  w'.cell? { block := gb214, off := 0 } = some (Value.int IntKind.i64 a1_0) ∧
                    w'.cell? { block := gb214, off := 1 } = some (Value.int IntKind.i64 a1_1) ∧
                      w'.cell? { block := gb214, off := 2 } = some (Value.int IntKind.i64 a1_2) ∧
                        w'.cell? { block := gb214, off := 3 } = some (Value.slice A1_3 l1_3.length c1_3))
        [] 2 #[true, true, true, true, true, true, true, true, true, false, false]
        (putAll
          {
            tmps :=
              #[Value.agg
                  #[Value.int IntKind.i64 a0_0, Value.int IntKind.i64 a0_1, Value.int IntKind.i64 a0_2,
                    Value.slice A0_3 l0_3.length c0_3],
                Value.agg
                  #[Value.int IntKind.i64 a1_0, Value.int IntKind.i64 a1_1, Value.int IntKind.i64 a1_2,
                    Value.slice A1_3 l1_3.length c1_3],
                Value.pointer (some { block := gb213, off := 0 }), Value.pointer (some { block := gb214, off := 0 }),
                Value.bool false, Value.int IntKind.i64 t216, undef, undef, undef, undef, undef, undef, undef, undef,
                undef, undef, undef,
                Value.agg
                  #[Value.int IntKind.i64 a0_0, Value.int IntKind.i64 a0_1, Value.int IntKind.i64 a0_2,
                    Value.slice A0_3 l0_3.length c0_3],
                Value.int IntKind.i64 1048576, Value.int IntKind.i64 t215, Value.int IntKind.i64 t215, Value.bool false,
                Value.agg
                  #[Value.int IntKind.i64 a1_0, Value.int IntKind.i64 a1_1, Value.int IntKind.i64 a1_2,
                    Value.slice A1_3 l1_3.length c1_3],
                Value.int IntKind.i64 t215, Value.int IntKind.i64 t216, Value.int IntKind.i64 t216, Value.bool false,
                undef,
                Value.agg
                  #[Value.int IntKind.i64 a0_0, Value.int IntKind.i64 a0_1, Value.int IntKind.i64 a0_2,
                    Value.slice A0_3 l0_3.length c0_3],
                undef,
                Value.agg
                  #[Value.int IntKind.i64 a1_0, Value.int IntKind.i64 a1_1, Value.int IntKind.i64 a1_2,
                    Value.slice A1_3 l1_3.length c1_3],
                undef, undef, undef, undef, undef, undef, undef, undef, undef, undef, undef, undef, undef, undef, undef,
                undef, undef, undef, undef, undef, undef, undef, undef, undef, undef, undef, undef, undef, undef, undef,
                undef, undef, undef, undef, undef, undef, undef, undef, undef, undef, undef, undef, undef, undef, undef,
                undef, undef, undef, undef, undef, undef, undef, undef, undef, undef, undef, undef, undef, undef, undef,
                undef, undef, undef, undef, undef, undef, undef, undef, undef, undef, undef, undef, undef, undef, undef,
                undef, undef, undef, undef, undef, undef, undef, undef, undef, undef, undef, undef, undef],
            defers := [] }
          [(29, Value.agg #[Value.int IntKind.i64 t217, Value.int IntKind.i64 t218, Value.int IntKind.i64 t219, s.fst]),
            (31,
              Value.agg
                #[Value.int IntKind.i64 t223, Value.int IntKind.i64 t224, Value.int IntKind.i64 t225, s.snd.fst]),
            (32,
              Value.tuple
                #[Value.agg
                    #[Value.int IntKind.i64 t229, Value.int IntKind.i64 t230, Value.int IntKind.i64 t231,
                      s.snd.snd.fst],
                  Value.int IntKind.i64 t235]),
            (6, Value.pointer (some { block := s.snd.snd.snd, off := 0 })),
            (27,
              Value.tuple
                #[Value.agg
                    #[Value.int IntKind.i64 t229, Value.int IntKind.i64 t230, Value.int IntKind.i64 t231,
                      s.snd.snd.fst],
                  Value.int IntKind.i64 t235]),
            (33,
              Value.agg
                #[Value.int IntKind.i64 t229, Value.int IntKind.i64 t230, Value.int IntKind.i64 t231, s.snd.snd.fst]),
            (34, Value.int IntKind.i64 t235)])
        w') :
  wpAnyLast Try.prog Region.Mode.any
    #[{ dst := some 28, op := Op.load 46 (Operand.tmp 2), type := 46, pos := "exact.go:6616", after := #[],
        guard := none },
      { dst := some 29,
        op := Op.call { callee := Callee.value (Operand.func 28), args := #[Operand.tmp 28], argTypes := #[46] },
        type := 37, pos := "exact.go:6616", after := #[{ on := 0, ground := Ground.data }], guard := none },
      { dst := some 30, op := Op.load 46 (Operand.tmp 3), type := 46, pos := "exact.go:6616", after := #[],
        guard := none },
      { dst := some 31,
        op := Op.call { callee := Callee.value (Operand.func 28), args := #[Operand.tmp 30], argTypes := #[46] },
        type := 37, pos := "exact.go:6616",
        after := #[{ on := 2, ground := Ground.data }, { on := 1, ground := Ground.chain }], guard := none },
      { dst := some 32,
        op :=
          Op.call
            { callee := Callee.value (Operand.func 27), args := #[Operand.tmp 29, Operand.tmp 31],
              argTypes := #[37, 37] },
        type := 38, pos := "exact.go:6616",
        after :=
          #[{ on := 1, ground := Ground.data }, { on := 3, ground := Ground.data },
            { on := 3, ground := Ground.chain }],
        guard := none },
      { dst := some 27, op := Op.move (Operand.tmp 32), type := 38, pos := "exact.go:6616",
        after := #[{ on := 4, ground := Ground.data }], guard := none },
      { dst := some 33, op := Op.extract (Operand.tmp 27) 0, type := 37, pos := "exact.go:6616",
        after := #[{ on := 5, ground := Ground.data }], guard := none },
      { dst := some 34, op := Op.extract (Operand.tmp 27) 1, type := 3, pos := "exact.go:6616",
        after := #[{ on := 5, ground := Ground.data }, { on := 9, ground := Ground.gcOnly Departure.lateStores }],
        guard := none },
      { dst := some 6, op := Op.alloc 37, type := 0, pos := "exact.go:6616", after := #[], guard := none },
      { dst := none, op := Op.store 37 (Operand.tmp 6) (Operand.tmp 33), type := 0, pos := "exact.go:6616",
        after :=
          #[{ on := 8, ground := Ground.data }, { on := 6, ground := Ground.data }, { on := 4, ground := Ground.chain },
            { on := 0, ground := Ground.phase }, { on := 1, ground := Ground.phase },
            { on := 2, ground := Ground.phase }, { on := 3, ground := Ground.phase },
            { on := 4, ground := Ground.phase }, { on := 5, ground := Ground.phase },
            { on := 6, ground := Ground.phase }, { on := 7, ground := Ground.textOnly Departure.lateStores },
            { on := 8, ground := Ground.phase }],
        guard := none },
      { dst := some 7, op := Op.assign (Operand.tmp 34), type := 3, pos := "exact.go:6616",
        after :=
          #[{ on := 7, ground := Ground.data }, { on := 9, ground := Ground.chain },
            { on := 0, ground := Ground.phase }, { on := 1, ground := Ground.phase },
            { on := 2, ground := Ground.phase }, { on := 3, ground := Ground.phase },
            { on := 4, ground := Ground.phase }, { on := 5, ground := Ground.phase },
            { on := 6, ground := Ground.phase }, { on := 7, ground := Ground.phase },
            { on := 8, ground := Ground.phase }, { on := 9, ground := Ground.phase }],
        guard := none }]
    (Exit.then K_ (bodyPost Try.prog Try.f6 P_))
    (fun w' =>
      w'.cell? { block := gb213, off := 0 } = some (Value.int IntKind.i64 a0_0) ∧
        w'.cell? { block := gb213, off := 1 } = some (Value.int IntKind.i64 a0_1) ∧
          w'.cell? { block := gb213, off := 2 } = some (Value.int IntKind.i64 a0_2) ∧
            w'.cell? { block := gb213, off := 3 } = some (Value.slice A0_3 l0_3.length c0_3) ∧
              w'.cell? { block := gb214, off := 0 } = some (Value.int IntKind.i64 a1_0) ∧
                w'.cell? { block := gb214, off := 1 } = some (Value.int IntKind.i64 a1_1) ∧
                  w'.cell? { block := gb214, off := 2 } = some (Value.int IntKind.i64 a1_2) ∧
                    w'.cell? { block := gb214, off := 3 } = some (Value.slice A1_3 l1_3.length c1_3))
    [] 9 #[true, false, true, false, false, false, false, false, false, false, false]
    {
      tmps :=
        #[Value.agg
            #[Value.int IntKind.i64 a0_0, Value.int IntKind.i64 a0_1, Value.int IntKind.i64 a0_2,
              Value.slice A0_3 l0_3.length c0_3],
          Value.agg
            #[Value.int IntKind.i64 a1_0, Value.int IntKind.i64 a1_1, Value.int IntKind.i64 a1_2,
              Value.slice A1_3 l1_3.length c1_3],
          Value.pointer (some { block := gb213, off := 0 }), Value.pointer (some { block := gb214, off := 0 }),
          Value.bool false, Value.int IntKind.i64 t216, undef, undef, undef, undef, undef, undef, undef, undef, undef,
          undef, undef,
          Value.agg
            #[Value.int IntKind.i64 a0_0, Value.int IntKind.i64 a0_1, Value.int IntKind.i64 a0_2,
              Value.slice A0_3 l0_3.length c0_3],
          Value.int IntKind.i64 1048576, Value.int IntKind.i64 t215, Value.int IntKind.i64 t215, Value.bool false,
          Value.agg
            #[Value.int IntKind.i64 a1_0, Value.int IntKind.i64 a1_1, Value.int IntKind.i64 a1_2,
              Value.slice A1_3 l1_3.length c1_3],
          Value.int IntKind.i64 t215, Value.int IntKind.i64 t216, Value.int IntKind.i64 t216, Value.bool false, undef,
          Value.agg
            #[Value.int IntKind.i64 a0_0, Value.int IntKind.i64 a0_1, Value.int IntKind.i64 a0_2,
              Value.slice A0_3 l0_3.length c0_3],
          undef,
          Value.agg
            #[Value.int IntKind.i64 a1_0, Value.int IntKind.i64 a1_1, Value.int IntKind.i64 a1_2,
              Value.slice A1_3 l1_3.length c1_3],
          undef, undef, undef, undef, undef, undef, undef, undef, undef, undef, undef, undef, undef, undef, undef,
          undef, undef, undef, undef, undef, undef, undef, undef, undef, undef, undef, undef, undef, undef, undef,
          undef, undef, undef, undef, undef, undef, undef, undef, undef, undef, undef, undef, undef, undef, undef,
          undef, undef, undef, undef, undef, undef, undef, undef, undef, undef, undef, undef, undef, undef, undef,
          undef, undef, undef, undef, undef, undef, undef, undef, undef, undef, undef, undef, undef, undef, undef,
          undef, undef, undef, undef, undef, undef, undef, undef, undef, undef, undef, undef, undef],
      defers := [] }
    w33 := by
 refine two_ (i := 1) (j := 8) (Ni := some 29) (Nj := some 6) #[true, true, true, false, false, false, false, false, false, false, false] #[true, false, true, false, false, false, false, false, true, false, false] rfl rfl rfl rfl (two_of HT_.out (by kernel_rfl)) (by decide) (by decide) (fun K hK => ?_) (fun K hK => ?_)
 ·
  skip
  refine goes_ Try.func28 (by kernel_rfl) rfl #[.agg #[.int .i64 a0_0, .int .i64 a0_1, .int .i64 a0_2, .slice A0_3 l0_3.length c0_3]] (by rfl) rfl rfl zar ?_
  with_reducible refine (laws_toDigest.calls k a0_0 a0_1 a0_2 _ _ l0_3 t217 t218 t219 t220 _ ?side1 ?side2 A19.out).mono ?_
  (case side1 => repeat (first | exact (Kd.C_below HR0_3.out HB.out) | (with_reducible refine Kd.C_alloc ?_ _) | (with_reducible refine Kd.C_drewN ?_ _) | (with_reducible refine Kd.C_drew ?_)))
  (case side2 => exact HC0_3.out)
  rintro e w34 ⟨v221, rfl, ho0, hb⟩
  refine ⟨_, rfl, ?_⟩
  have n0_ := Aside0.mk (Kd.R_lower ho0 (below_size (zg HB)))
  have n1_ := Aside0.mk (blk_below (zb BK213) hb)
  have n2_ := Aside0.mk (blk_below (zb BK214) hb)
  have n3_ := Aside0.mk (below_step (zg HB) hb)
  clear BK213
  clear BK214
  clear HB
  have HO222 := n0_
  have BK213 := n1_
  have BK214 := n2_
  have HB := n3_
  clear n0_ n1_ n2_ n3_
  (try clear hb)
  (try clear hb2)
  (try clear hk)
  (try clear hi)
  (try clear ho0)
  refine hK.out _ _ ⟨(blk_cell BK213.out 0).trans rfl, (blk_cell BK213.out 1).trans rfl, (blk_cell BK213.out 2).trans rfl, (blk_cell BK213.out 3).trans rfl, (blk_cell BK214.out 0).trans rfl, (blk_cell BK214.out 1).trans rfl, (blk_cell BK214.out 2).trans rfl, (blk_cell BK214.out 3).trans rfl⟩ (fun hHeld => ?_)
  clear hK K
  refine norm_ (a' := ?_) ?_ ?_
  rotate_left
  ·
   show Act.put _ (some 29) _ = _
   simp only [Act.put, List.setIfInBounds_toArray, List.set_cons_zero, List.set_cons_succ, i64_w, i32_w]
   rfl
  refine two_ (i := 3) (j := 8) (Ni := some 31) (Nj := some 6) #[true, true, true, true, false, false, false, false, false, false, false] #[true, true, true, false, false, false, false, false, true, false, false] rfl rfl rfl rfl (two_of HT_.out (by kernel_rfl)) (by decide) (by decide) (fun K hK => ?_) (fun K hK => ?_)
  ·
   skip
   refine goes_ Try.func28 (by kernel_rfl) rfl #[.agg #[.int .i64 a1_0, .int .i64 a1_1, .int .i64 a1_2, .slice A1_3 l1_3.length c1_3]] (by rfl) rfl rfl zar ?_
   with_reducible refine (laws_toDigest.calls k a1_0 a1_1 a1_2 _ _ l1_3 t223 t224 t225 t226 _ ?side1 ?side2 A20.out).mono ?_
   (case side1 => repeat (first | exact (Kd.C_below HR1_3.out HB.out) | (with_reducible refine Kd.C_alloc ?_ _) | (with_reducible refine Kd.C_drewN ?_ _) | (with_reducible refine Kd.C_drew ?_)))
   (case side2 => exact HC1_3.out)
   rintro e w35 ⟨v227, rfl, ho0, hb⟩
   refine ⟨_, rfl, ?_⟩
   have n0_ := Aside0.mk (Kd.R_elder' (zr HO222) (Kd.R_base ho0) hb)
   have n1_ := Aside0.mk (Kd.R_lower (Kd.R_new' ho0 (Kd.R_lt (zr HO222))) (below_size (zg HB)))
   have n2_ := Aside0.mk (blk_below (zb BK213) hb)
   have n3_ := Aside0.mk (blk_below (zb BK214) hb)
   have n4_ := Aside0.mk (below_step (zg HB) hb)
   clear HO222
   clear BK213
   clear BK214
   clear HB
   have HO222 := n0_
   have HO228 := n1_
   have BK213 := n2_
   have BK214 := n3_
   have HB := n4_
   clear n0_ n1_ n2_ n3_ n4_
   (try clear hb)
   (try clear hb2)
   (try clear hk)
   (try clear hi)
   (try clear ho0)
   obtain ⟨Ao36, co36, eo36⟩ := Kd.R_slice HO222.out
   (first | subst eo36 | (injection eo36 with f1_ f2_ f3_; have f4_ := f1_.symm; have f5_ := f3_.symm; clear f1_ f2_ f3_; subst f4_; subst f5_))
   obtain ⟨Ao37, co37, eo37⟩ := Kd.R_slice HO228.out
   (first | subst eo37 | (injection eo37 with f1_ f2_ f3_; have f4_ := f1_.symm; have f5_ := f3_.symm; clear f1_ f2_ f3_; subst f4_; subst f5_))
   refine hK.out _ _ ⟨(blk_cell BK213.out 0).trans rfl, (blk_cell BK213.out 1).trans rfl, (blk_cell BK213.out 2).trans rfl, (blk_cell BK213.out 3).trans rfl, (blk_cell BK214.out 0).trans rfl, (blk_cell BK214.out 1).trans rfl, (blk_cell BK214.out 2).trans rfl, (blk_cell BK214.out 3).trans rfl⟩ (fun hHeld => ?_)
   clear hK K
   refine norm_ (a' := ?_) ?_ ?_
   rotate_left
   ·
    show Act.put _ (some 31) _ = _
    simp only [Act.put, List.setIfInBounds_toArray, List.set_cons_zero, List.set_cons_succ, i64_w, i32_w]
    rfl
   refine two_ (i := 4) (j := 8) (Ni := some 32) (Nj := some 6) #[true, true, true, true, true, false, false, false, false, false, false] #[true, true, true, true, false, false, false, false, true, false, false] rfl rfl rfl rfl (two_of HT_.out (by kernel_rfl)) (by decide) (by decide) (fun K hK => ?_) (fun K hK => ?_)
   ·
    skip
    refine goes_ Try.func27 (by kernel_rfl) rfl #[.agg #[.int .i64 t217, .int .i64 t218, .int .i64 t219, .slice Ao36 t220.length co36], .agg #[.int .i64 t223, .int .i64 t224, .int .i64 t225, .slice Ao37 t226.length co37]] (by rfl) rfl rfl zar ?_
    with_reducible refine (spec_DigestJoin.calls k t217 t218 t219 _ _ t220 t223 t224 t225 _ _ t226 t229 t230 t231 t232 t235 _ ?side1 ?side2 ?side3 ?side4 A21.out).mono ?_
    (case side1 => repeat (first | exact (Kd.R_reads' HO222.out).2.2 | (with_reducible refine Kd.C_alloc ?_ _) | (with_reducible refine Kd.C_drewN ?_ _) | (with_reducible refine Kd.C_drew ?_)))
    (case side2 => exact (Kd.R_reads' HO222.out).2.1)
    (case side3 => repeat (first | exact (Kd.R_reads' HO228.out).2.2 | (with_reducible refine Kd.C_alloc ?_ _) | (with_reducible refine Kd.C_drewN ?_ _) | (with_reducible refine Kd.C_drew ?_)))
    (case side4 => exact (Kd.R_reads' HO228.out).2.1)
    rintro e w38 ⟨v233, rfl, ho0, hb⟩
    refine ⟨_, rfl, ?_⟩
    have n0_ := Aside0.mk (Kd.R_elder' (zr HO222) (Kd.R_base ho0) hb)
    have n1_ := Aside0.mk (Kd.R_elder' (zr HO228) (Kd.R_base ho0) hb)
    have n2_ := Aside0.mk (Kd.R_lower (Kd.R_new' (Kd.R_new' ho0 (Kd.R_lt (zr HO222))) (Kd.R_lt (zr HO228))) (below_size (zg HB)))
    have n3_ := Aside0.mk (blk_below (zb BK213) hb)
    have n4_ := Aside0.mk (blk_below (zb BK214) hb)
    have n5_ := Aside0.mk (below_step (zg HB) hb)
    clear HO222
    clear HO228
    clear BK213
    clear BK214
    clear HB
    have HO222 := n0_
    have HO228 := n1_
    have HO234 := n2_
    have BK213 := n3_
    have BK214 := n4_
    have HB := n5_
    clear n0_ n1_ n2_ n3_ n4_ n5_
    (try clear hb)
    (try clear hb2)
    (try clear hk)
    (try clear hi)
    (try clear ho0)
    refine hK.out _ _ ⟨(blk_cell BK213.out 0).trans rfl, (blk_cell BK213.out 1).trans rfl, (blk_cell BK213.out 2).trans rfl, (blk_cell BK213.out 3).trans rfl, (blk_cell BK214.out 0).trans rfl, (blk_cell BK214.out 1).trans rfl, (blk_cell BK214.out 2).trans rfl, (blk_cell BK214.out 3).trans rfl⟩ (fun hHeld => ?_)
    clear hK K
    refine norm_ (a' := ?_) ?_ ?_
    rotate_left
    ·
     show Act.put _ (some 32) _ = _
     simp only [Act.put, List.setIfInBounds_toArray, List.set_cons_zero, List.set_cons_succ, i64_w, i32_w]
     rfl
    refine pure_ (i := 5) (N := some 27) (v := ?_) (a' := ?_) #[true, true, true, true, true, true, false, false, false, false, false] rfl rfl (any_of HT_.out (by kernel_rfl)) (fun _ _ _ h => h) (Or.inl ⟨by rfl, ?_⟩) ?_ ?_
    rotate_left
    ·
     intro w'
     go_simp
     with_reducible rfl
    rotate_left
    ·
     simp only [Act.put, List.setIfInBounds_toArray, List.set_cons_zero, List.set_cons_succ, i64_w, i32_w]
     rfl
    refine pure_ (i := 6) (N := some 33) (v := ?_) (a' := ?_) #[true, true, true, true, true, true, true, false, false, false, false] rfl rfl (any_of HT_.out (by kernel_rfl)) (fun _ _ _ h => h) (Or.inl ⟨by rfl, ?_⟩) ?_ ?_
    rotate_left
    ·
     intro w'
     go_simp
     with_reducible rfl
    rotate_left
    ·
     simp only [Act.put, List.setIfInBounds_toArray, List.set_cons_zero, List.set_cons_succ, i64_w, i32_w]
     rfl
    refine pure_ (i := 7) (N := some 34) (v := ?_) (a' := ?_) #[true, true, true, true, true, true, true, true, false, false, false] rfl rfl (any_of HT_.out (by kernel_rfl)) (fun _ _ _ h => h) (Or.inl ⟨by rfl, ?_⟩) ?_ ?_
    rotate_left
    ·
     intro w'
     go_simp
     with_reducible rfl
    rotate_left
    ·
     simp only [Act.put, List.setIfInBounds_toArray, List.set_cons_zero, List.set_cons_succ, i64_w, i32_w]
     rfl
    refine one_ (i := 8) (N := some 6) #[true, true, true, true, true, true, true, true, true, false, false] rfl rfl (one_of HT_.out (by kernel_rfl)) (by decide) (fun K hK => ?_)
    refine box_step ?hg (N := 6) ?hd (cs := #[.int .i64 0, .int .i64 0, .int .i64 0, .slice none 0 0]) (t := 37) ?hr ?_; (case hd => rfl); (case hg => rfl); (case hr => first | (go_simp; done) | (go_simp; rfl))
    intro gb236 hg w39 hbox hb
    have n0_ := Aside0.mk (Kd.R_below (zr HO222) hb)
    have n1_ := Aside0.mk (Kd.R_below (zr HO228) hb)
    have n2_ := Aside0.mk (Kd.R_below (zr HO234) hb)
    have n3_ := Aside0.mk (blk_below (zb BK213) hb)
    have n4_ := Aside0.mk (blk_below (zb BK214) hb)
    have n5_ := Aside0.mk (below_step (zg HB) hb)
    have n6_ := Aside0.mk (hbox)
    have n7_ := Aside0.mk ((by rw [hg]; exact (below_size (zg HB)) : w.heap.size ≤ gb236))
    have n8_ := Aside0.mk ((by rw [hg]; exact (below_size (zg HB)) : w.heap.size ≤ gb236))
    have n9_ := Aside0.mk ((by rw [hg]; exact Nat.ne_of_lt (blk_lt (zb BK213)) : gb213 ≠ gb236))
    have n10_ := Aside0.mk ((by rw [hg]; exact Nat.ne_of_gt (blk_lt (zb BK213)) : gb236 ≠ gb213))
    have n11_ := Aside0.mk ((by rw [hg]; exact Nat.ne_of_lt (blk_lt (zb BK214)) : gb214 ≠ gb236))
    have n12_ := Aside0.mk ((by rw [hg]; exact Nat.ne_of_gt (blk_lt (zb BK214)) : gb236 ≠ gb214))
    clear HO222
    clear HO228
    clear HO234
    clear BK213
    clear BK214
    clear HB
    have HO222 := n0_
    have HO228 := n1_
    have HO234 := n2_
    have BK213 := n3_
    have BK214 := n4_
    have HB := n5_
    have BK236 := n6_
    have GW236 := n7_
    have GE236 := n8_
    have NB213_236 := n9_
    have NB236_213 := n10_
    have NB214_236 := n11_
    have NB236_214 := n12_
    clear n0_ n1_ n2_ n3_ n4_ n5_ n6_ n7_ n8_ n9_ n10_ n11_ n12_
    clear hb hbox hg
    refine hK.out _ _ ⟨(blk_cell BK213.out 0).trans rfl, (blk_cell BK213.out 1).trans rfl, (blk_cell BK213.out 2).trans rfl, (blk_cell BK213.out 3).trans rfl, (blk_cell BK214.out 0).trans rfl, (blk_cell BK214.out 1).trans rfl, (blk_cell BK214.out 2).trans rfl, (blk_cell BK214.out 3).trans rfl⟩ (fun hHeld => ?_)
    clear hK K
    refine norm_ (a' := ?_) ?_ ?_
    rotate_left
    ·
     show Act.put _ (some 6) _ = _
     simp only [Act.put, List.setIfInBounds_toArray, List.set_cons_zero, List.set_cons_succ, i64_w, i32_w]
     rfl
    exact norm_ (by simp only [putAll, Act.put, List.setIfInBounds_toArray, List.set_cons_zero, List.set_cons_succ]) (hCont (.slice Ao36 t220.length co36, .slice Ao37 t226.length co37, v233, gb236) _ ⟨hHeld, (Kd.R_mono (zr HO222) (fun _ hk => ⟨hk.1.2, hk.2⟩)), (Kd.R_mono (zr HO228) (fun _ hk => ⟨hk.1.2, hk.2⟩)), (Kd.R_mono (zr HO234) (fun _ hk => ⟨hk.1.2, hk.2⟩)), (zb BK213), (zb BK214), (zb BK236), GW236.out, GE236.out, NB213_236.out, NB236_213.out, NB214_236.out, NB236_214.out, (zg HB)⟩)
   ·
    skip
    refine box_step ?hg (N := 6) ?hd (cs := #[.int .i64 0, .int .i64 0, .int .i64 0, .slice none 0 0]) (t := 37) ?hr ?_; (case hd => rfl); (case hg => rfl); (case hr => first | (go_simp; done) | (go_simp; rfl))
    intro gb236 hg w36 hbox hb
    have n0_ := Aside0.mk (Kd.R_below (zr HO222) hb)
    have n1_ := Aside0.mk (Kd.R_below (zr HO228) hb)
    have n2_ := Aside0.mk (blk_below (zb BK213) hb)
    have n3_ := Aside0.mk (blk_below (zb BK214) hb)
    have n4_ := Aside0.mk (below_step (zg HB) hb)
    have n5_ := Aside0.mk (hbox)
    have n6_ := Aside0.mk ((by rw [hg]; exact (below_size (zg HB)) : w.heap.size ≤ gb236))
    have n7_ := Aside0.mk ((by rw [hg]; exact (below_size (zg HB)) : w.heap.size ≤ gb236))
    have n8_ := Aside0.mk ((by rw [hg]; exact Nat.ne_of_lt (blk_lt (zb BK213)) : gb213 ≠ gb236))
    have n9_ := Aside0.mk ((by rw [hg]; exact Nat.ne_of_gt (blk_lt (zb BK213)) : gb236 ≠ gb213))
    have n10_ := Aside0.mk ((by rw [hg]; exact Nat.ne_of_lt (blk_lt (zb BK214)) : gb214 ≠ gb236))
    have n11_ := Aside0.mk ((by rw [hg]; exact Nat.ne_of_gt (blk_lt (zb BK214)) : gb236 ≠ gb214))
    clear HO222
    clear HO228
    clear BK213
    clear BK214
    clear HB
    have HO222 := n0_
    have HO228 := n1_
    have BK213 := n2_
    have BK214 := n3_
    have HB := n4_
    have BK236 := n5_
    have GW236 := n6_
    have GE236 := n7_
    have NB213_236 := n8_
    have NB236_213 := n9_
    have NB214_236 := n10_
    have NB236_214 := n11_
    clear n0_ n1_ n2_ n3_ n4_ n5_ n6_ n7_ n8_ n9_ n10_ n11_
    clear hb hbox hg
    obtain ⟨Ao37, co37, eo37⟩ := Kd.R_slice HO222.out
    (first | subst eo37 | (injection eo37 with f1_ f2_ f3_; have f4_ := f1_.symm; have f5_ := f3_.symm; clear f1_ f2_ f3_; subst f4_; subst f5_))
    obtain ⟨Ao38, co38, eo38⟩ := Kd.R_slice HO228.out
    (first | subst eo38 | (injection eo38 with f1_ f2_ f3_; have f4_ := f1_.symm; have f5_ := f3_.symm; clear f1_ f2_ f3_; subst f4_; subst f5_))
    refine hK.out _ _ ⟨(blk_cell BK213.out 0).trans rfl, (blk_cell BK213.out 1).trans rfl, (blk_cell BK213.out 2).trans rfl, (blk_cell BK213.out 3).trans rfl, (blk_cell BK214.out 0).trans rfl, (blk_cell BK214.out 1).trans rfl, (blk_cell BK214.out 2).trans rfl, (blk_cell BK214.out 3).trans rfl⟩ (fun hHeld => ?_)
    clear hK K
    refine norm_ (a' := ?_) ?_ ?_
    rotate_left
    ·
     show Act.put _ (some 6) _ = _
     simp only [Act.put, List.setIfInBounds_toArray, List.set_cons_zero, List.set_cons_succ, i64_w, i32_w]
     rfl
    refine one_ (i := 4) (N := some 32) #[true, true, true, true, true, false, false, false, true, false, false] rfl rfl (one_of HT_.out (by kernel_rfl)) (by decide) (fun K hK => ?_)
    refine goes_ Try.func27 (by kernel_rfl) rfl #[.agg #[.int .i64 t217, .int .i64 t218, .int .i64 t219, .slice Ao37 t220.length co37], .agg #[.int .i64 t223, .int .i64 t224, .int .i64 t225, .slice Ao38 t226.length co38]] (by rfl) rfl rfl zar ?_
    with_reducible refine (spec_DigestJoin.calls k t217 t218 t219 _ _ t220 t223 t224 t225 _ _ t226 t229 t230 t231 t232 t235 _ ?side1 ?side2 ?side3 ?side4 A21.out).mono ?_
    (case side1 => repeat (first | exact (Kd.R_reads' HO222.out).2.2 | (with_reducible refine Kd.C_alloc ?_ _) | (with_reducible refine Kd.C_drewN ?_ _) | (with_reducible refine Kd.C_drew ?_)))
    (case side2 => exact (Kd.R_reads' HO222.out).2.1)
    (case side3 => repeat (first | exact (Kd.R_reads' HO228.out).2.2 | (with_reducible refine Kd.C_alloc ?_ _) | (with_reducible refine Kd.C_drewN ?_ _) | (with_reducible refine Kd.C_drew ?_)))
    (case side4 => exact (Kd.R_reads' HO228.out).2.1)
    rintro e w39 ⟨v233, rfl, ho0, hb⟩
    refine ⟨_, rfl, ?_⟩
    have n0_ := Aside0.mk (Kd.R_elder' (zr HO222) (Kd.R_base ho0) hb)
    have n1_ := Aside0.mk (Kd.R_elder' (zr HO228) (Kd.R_base ho0) hb)
    have n2_ := Aside0.mk (Kd.R_lower (Kd.R_new' (Kd.R_new' ho0 (Kd.R_lt (zr HO222))) (Kd.R_lt (zr HO228))) (below_size (zg HB)))
    have n3_ := Aside0.mk (blk_below (zb BK213) hb)
    have n4_ := Aside0.mk (blk_below (zb BK214) hb)
    have n5_ := Aside0.mk (blk_below (zb BK236) hb)
    have n6_ := Aside0.mk (below_step (zg HB) hb)
    clear HO222
    clear HO228
    clear BK213
    clear BK214
    clear BK236
    clear HB
    have HO222 := n0_
    have HO228 := n1_
    have HO234 := n2_
    have BK213 := n3_
    have BK214 := n4_
    have BK236 := n5_
    have HB := n6_
    clear n0_ n1_ n2_ n3_ n4_ n5_ n6_
    (try clear hb)
    (try clear hb2)
    (try clear hk)
    (try clear hi)
    (try clear ho0)
    refine hK.out _ _ ⟨(blk_cell BK213.out 0).trans rfl, (blk_cell BK213.out 1).trans rfl, (blk_cell BK213.out 2).trans rfl, (blk_cell BK213.out 3).trans rfl, (blk_cell BK214.out 0).trans rfl, (blk_cell BK214.out 1).trans rfl, (blk_cell BK214.out 2).trans rfl, (blk_cell BK214.out 3).trans rfl⟩ (fun hHeld => ?_)
    clear hK K
    refine norm_ (a' := ?_) ?_ ?_
    rotate_left
    ·
     show Act.put _ (some 32) _ = _
     simp only [Act.put, List.setIfInBounds_toArray, List.set_cons_zero, List.set_cons_succ, i64_w, i32_w]
     rfl
    refine pure_ (i := 5) (N := some 27) (v := ?_) (a' := ?_) #[true, true, true, true, true, true, false, false, true, false, false] rfl rfl (any_of HT_.out (by kernel_rfl)) (fun _ _ _ h => h) (Or.inl ⟨by rfl, ?_⟩) ?_ ?_
    rotate_left
    ·
     intro w'
     go_simp
     with_reducible rfl
    rotate_left
    ·
     simp only [Act.put, List.setIfInBounds_toArray, List.set_cons_zero, List.set_cons_succ, i64_w, i32_w]
     rfl
    refine pure_ (i := 6) (N := some 33) (v := ?_) (a' := ?_) #[true, true, true, true, true, true, true, false, true, false, false] rfl rfl (any_of HT_.out (by kernel_rfl)) (fun _ _ _ h => h) (Or.inl ⟨by rfl, ?_⟩) ?_ ?_
    rotate_left
    ·
     intro w'
     go_simp
     with_reducible rfl
    rotate_left
    ·
     simp only [Act.put, List.setIfInBounds_toArray, List.set_cons_zero, List.set_cons_succ, i64_w, i32_w]
     rfl
    refine pure_ (i := 7) (N := some 34) (v := ?_) (a' := ?_) #[true, true, true, true, true, true, true, true, true, false, false] rfl rfl (any_of HT_.out (by kernel_rfl)) (fun _ _ _ h => h) (Or.inl ⟨by rfl, ?_⟩) ?_ ?_
    rotate_left
    ·
     intro w'
     go_simp
     with_reducible rfl
    rotate_left
    ·
     simp only [Act.put, List.setIfInBounds_toArray, List.set_cons_zero, List.set_cons_succ, i64_w, i32_w]
     rfl
    exact norm_ (by simp only [putAll, Act.put, List.setIfInBounds_toArray, List.set_cons_zero, List.set_cons_succ]) (hCont (.slice Ao37 t220.length co37, .slice Ao38 t226.length co38, v233, gb236) _ ⟨hHeld, (Kd.R_mono (zr HO222) (fun _ hk => ⟨hk.1.2, hk.2⟩)), (Kd.R_mono (zr HO228) (fun _ hk => ⟨hk.1.2, hk.2⟩)), (Kd.R_mono (zr HO234) (fun _ hk => ⟨hk.1.2, hk.2⟩)), (zb BK213), (zb BK214), (zb BK236), GW236.out, GE236.out, NB213_236.out, NB236_213.out, NB214_236.out, NB236_214.out, (zg HB)⟩)
  ·
   skip
   refine box_step ?hg (N := 6) ?hd (cs := #[.int .i64 0, .int .i64 0, .int .i64 0, .slice none 0 0]) (t := 37) ?hr ?_; (case hd => rfl); (case hg => rfl); (case hr => first | (go_simp; done) | (go_simp; rfl))
   intro gb236 hg w35 hbox hb
   have n0_ := Aside0.mk (Kd.R_below (zr HO222) hb)
   have n1_ := Aside0.mk (blk_below (zb BK213) hb)
   have n2_ := Aside0.mk (blk_below (zb BK214) hb)
   have n3_ := Aside0.mk (below_step (zg HB) hb)
   have n4_ := Aside0.mk (hbox)
   have n5_ := Aside0.mk ((by rw [hg]; exact (below_size (zg HB)) : w.heap.size ≤ gb236))
   have n6_ := Aside0.mk ((by rw [hg]; exact (below_size (zg HB)) : w.heap.size ≤ gb236))
   have n7_ := Aside0.mk ((by rw [hg]; exact Nat.ne_of_lt (blk_lt (zb BK213)) : gb213 ≠ gb236))
   have n8_ := Aside0.mk ((by rw [hg]; exact Nat.ne_of_gt (blk_lt (zb BK213)) : gb236 ≠ gb213))
   have n9_ := Aside0.mk ((by rw [hg]; exact Nat.ne_of_lt (blk_lt (zb BK214)) : gb214 ≠ gb236))
   have n10_ := Aside0.mk ((by rw [hg]; exact Nat.ne_of_gt (blk_lt (zb BK214)) : gb236 ≠ gb214))
   clear HO222
   clear BK213
   clear BK214
   clear HB
   have HO222 := n0_
   have BK213 := n1_
   have BK214 := n2_
   have HB := n3_
   have BK236 := n4_
   have GW236 := n5_
   have GE236 := n6_
   have NB213_236 := n7_
   have NB236_213 := n8_
   have NB214_236 := n9_
   have NB236_214 := n10_
   clear n0_ n1_ n2_ n3_ n4_ n5_ n6_ n7_ n8_ n9_ n10_
   clear hb hbox hg
   refine hK.out _ _ ⟨(blk_cell BK213.out 0).trans rfl, (blk_cell BK213.out 1).trans rfl, (blk_cell BK213.out 2).trans rfl, (blk_cell BK213.out 3).trans rfl, (blk_cell BK214.out 0).trans rfl, (blk_cell BK214.out 1).trans rfl, (blk_cell BK214.out 2).trans rfl, (blk_cell BK214.out 3).trans rfl⟩ (fun hHeld => ?_)
   clear hK K
   refine norm_ (a' := ?_) ?_ ?_
   rotate_left
   ·
    show Act.put _ (some 6) _ = _
    simp only [Act.put, List.setIfInBounds_toArray, List.set_cons_zero, List.set_cons_succ, i64_w, i32_w]
    rfl
   refine one_ (i := 3) (N := some 31) #[true, true, true, true, false, false, false, false, true, false, false] rfl rfl (one_of HT_.out (by kernel_rfl)) (by decide) (fun K hK => ?_)
   refine goes_ Try.func28 (by kernel_rfl) rfl #[.agg #[.int .i64 a1_0, .int .i64 a1_1, .int .i64 a1_2, .slice A1_3 l1_3.length c1_3]] (by rfl) rfl rfl zar ?_
   with_reducible refine (laws_toDigest.calls k a1_0 a1_1 a1_2 _ _ l1_3 t223 t224 t225 t226 _ ?side1 ?side2 A20.out).mono ?_
   (case side1 => repeat (first | exact (Kd.C_below HR1_3.out HB.out) | (with_reducible refine Kd.C_alloc ?_ _) | (with_reducible refine Kd.C_drewN ?_ _) | (with_reducible refine Kd.C_drew ?_)))
   (case side2 => exact HC1_3.out)
   rintro e w36 ⟨v227, rfl, ho0, hb⟩
   refine ⟨_, rfl, ?_⟩
   have n0_ := Aside0.mk (Kd.R_elder' (zr HO222) (Kd.R_base ho0) hb)
   have n1_ := Aside0.mk (Kd.R_lower (Kd.R_new' ho0 (Kd.R_lt (zr HO222))) (below_size (zg HB)))
   have n2_ := Aside0.mk (blk_below (zb BK213) hb)
   have n3_ := Aside0.mk (blk_below (zb BK214) hb)
   have n4_ := Aside0.mk (blk_below (zb BK236) hb)
   have n5_ := Aside0.mk (below_step (zg HB) hb)
   clear HO222
   clear BK213
   clear BK214
   clear BK236
   clear HB
   have HO222 := n0_
   have HO228 := n1_
   have BK213 := n2_
   have BK214 := n3_
   have BK236 := n4_
   have HB := n5_
   clear n0_ n1_ n2_ n3_ n4_ n5_
   (try clear hb)
   (try clear hb2)
   (try clear hk)
   (try clear hi)
   (try clear ho0)
   obtain ⟨Ao37, co37, eo37⟩ := Kd.R_slice HO222.out
   (first | subst eo37 | (injection eo37 with f1_ f2_ f3_; have f4_ := f1_.symm; have f5_ := f3_.symm; clear f1_ f2_ f3_; subst f4_; subst f5_))
   obtain ⟨Ao38, co38, eo38⟩ := Kd.R_slice HO228.out
   (first | subst eo38 | (injection eo38 with f1_ f2_ f3_; have f4_ := f1_.symm; have f5_ := f3_.symm; clear f1_ f2_ f3_; subst f4_; subst f5_))
   refine hK.out _ _ ⟨(blk_cell BK213.out 0).trans rfl, (blk_cell BK213.out 1).trans rfl, (blk_cell BK213.out 2).trans rfl, (blk_cell BK213.out 3).trans rfl, (blk_cell BK214.out 0).trans rfl, (blk_cell BK214.out 1).trans rfl, (blk_cell BK214.out 2).trans rfl, (blk_cell BK214.out 3).trans rfl⟩ (fun hHeld => ?_)
   clear hK K
   refine norm_ (a' := ?_) ?_ ?_
   rotate_left
   ·
    show Act.put _ (some 31) _ = _
    simp only [Act.put, List.setIfInBounds_toArray, List.set_cons_zero, List.set_cons_succ, i64_w, i32_w]
    rfl
   refine one_ (i := 4) (N := some 32) #[true, true, true, true, true, false, false, false, true, false, false] rfl rfl (one_of HT_.out (by kernel_rfl)) (by decide) (fun K hK => ?_)
   refine goes_ Try.func27 (by kernel_rfl) rfl #[.agg #[.int .i64 t217, .int .i64 t218, .int .i64 t219, .slice Ao37 t220.length co37], .agg #[.int .i64 t223, .int .i64 t224, .int .i64 t225, .slice Ao38 t226.length co38]] (by rfl) rfl rfl zar ?_
   with_reducible refine (spec_DigestJoin.calls k t217 t218 t219 _ _ t220 t223 t224 t225 _ _ t226 t229 t230 t231 t232 t235 _ ?side1 ?side2 ?side3 ?side4 A21.out).mono ?_
   (case side1 => repeat (first | exact (Kd.R_reads' HO222.out).2.2 | (with_reducible refine Kd.C_alloc ?_ _) | (with_reducible refine Kd.C_drewN ?_ _) | (with_reducible refine Kd.C_drew ?_)))
   (case side2 => exact (Kd.R_reads' HO222.out).2.1)
   (case side3 => repeat (first | exact (Kd.R_reads' HO228.out).2.2 | (with_reducible refine Kd.C_alloc ?_ _) | (with_reducible refine Kd.C_drewN ?_ _) | (with_reducible refine Kd.C_drew ?_)))
   (case side4 => exact (Kd.R_reads' HO228.out).2.1)
   rintro e w39 ⟨v233, rfl, ho0, hb⟩
   refine ⟨_, rfl, ?_⟩
   have n0_ := Aside0.mk (Kd.R_elder' (zr HO222) (Kd.R_base ho0) hb)
   have n1_ := Aside0.mk (Kd.R_elder' (zr HO228) (Kd.R_base ho0) hb)
   have n2_ := Aside0.mk (Kd.R_lower (Kd.R_new' (Kd.R_new' ho0 (Kd.R_lt (zr HO222))) (Kd.R_lt (zr HO228))) (below_size (zg HB)))
   have n3_ := Aside0.mk (blk_below (zb BK213) hb)
   have n4_ := Aside0.mk (blk_below (zb BK214) hb)
   have n5_ := Aside0.mk (blk_below (zb BK236) hb)
   have n6_ := Aside0.mk (below_step (zg HB) hb)
   clear HO222
   clear HO228
   clear BK213
   clear BK214
   clear BK236
   clear HB
   have HO222 := n0_
   have HO228 := n1_
   have HO234 := n2_
   have BK213 := n3_
   have BK214 := n4_
   have BK236 := n5_
   have HB := n6_
   clear n0_ n1_ n2_ n3_ n4_ n5_ n6_
   (try clear hb)
   (try clear hb2)
   (try clear hk)
   (try clear hi)
   (try clear ho0)
   refine hK.out _ _ ⟨(blk_cell BK213.out 0).trans rfl, (blk_cell BK213.out 1).trans rfl, (blk_cell BK213.out 2).trans rfl, (blk_cell BK213.out 3).trans rfl, (blk_cell BK214.out 0).trans rfl, (blk_cell BK214.out 1).trans rfl, (blk_cell BK214.out 2).trans rfl, (blk_cell BK214.out 3).trans rfl⟩ (fun hHeld => ?_)
   clear hK K
   refine norm_ (a' := ?_) ?_ ?_
   rotate_left
   ·
    show Act.put _ (some 32) _ = _
    simp only [Act.put, List.setIfInBounds_toArray, List.set_cons_zero, List.set_cons_succ, i64_w, i32_w]
    rfl
   refine pure_ (i := 5) (N := some 27) (v := ?_) (a' := ?_) #[true, true, true, true, true, true, false, false, true, false, false] rfl rfl (any_of HT_.out (by kernel_rfl)) (fun _ _ _ h => h) (Or.inl ⟨by rfl, ?_⟩) ?_ ?_
   rotate_left
   ·
    intro w'
    go_simp
    with_reducible rfl
   rotate_left
   ·
    simp only [Act.put, List.setIfInBounds_toArray, List.set_cons_zero, List.set_cons_succ, i64_w, i32_w]
    rfl
   refine pure_ (i := 6) (N := some 33) (v := ?_) (a' := ?_) #[true, true, true, true, true, true, true, false, true, false, false] rfl rfl (any_of HT_.out (by kernel_rfl)) (fun _ _ _ h => h) (Or.inl ⟨by rfl, ?_⟩) ?_ ?_
   rotate_left
   ·
    intro w'
    go_simp
    with_reducible rfl
   rotate_left
   ·
    simp only [Act.put, List.setIfInBounds_toArray, List.set_cons_zero, List.set_cons_succ, i64_w, i32_w]
    rfl
   refine pure_ (i := 7) (N := some 34) (v := ?_) (a' := ?_) #[true, true, true, true, true, true, true, true, true, false, false] rfl rfl (any_of HT_.out (by kernel_rfl)) (fun _ _ _ h => h) (Or.inl ⟨by rfl, ?_⟩) ?_ ?_
   rotate_left
   ·
    intro w'
    go_simp
    with_reducible rfl
   rotate_left
   ·
    simp only [Act.put, List.setIfInBounds_toArray, List.set_cons_zero, List.set_cons_succ, i64_w, i32_w]
    rfl
   exact norm_ (by simp only [putAll, Act.put, List.setIfInBounds_toArray, List.set_cons_zero, List.set_cons_succ]) (hCont (.slice Ao37 t220.length co37, .slice Ao38 t226.length co38, v233, gb236) _ ⟨hHeld, (Kd.R_mono (zr HO222) (fun _ hk => ⟨hk.1.2, hk.2⟩)), (Kd.R_mono (zr HO228) (fun _ hk => ⟨hk.1.2, hk.2⟩)), (Kd.R_mono (zr HO234) (fun _ hk => ⟨hk.1.2, hk.2⟩)), (zb BK213), (zb BK214), (zb BK236), GW236.out, GE236.out, NB213_236.out, NB236_213.out, NB214_236.out, NB236_214.out, (zg HB)⟩)
 ·
  skip
  refine box_step ?hg (N := 6) ?hd (cs := #[.int .i64 0, .int .i64 0, .int .i64 0, .slice none 0 0]) (t := 37) ?hr ?_; (case hd => rfl); (case hg => rfl); (case hr => first | (go_simp; done) | (go_simp; rfl))
  intro gb236 hg w34 hbox hb
  have n0_ := Aside0.mk (blk_below (zb BK213) hb)
  have n1_ := Aside0.mk (blk_below (zb BK214) hb)
  have n2_ := Aside0.mk (below_step (zg HB) hb)
  have n3_ := Aside0.mk (hbox)
  have n4_ := Aside0.mk ((by rw [hg]; exact (below_size (zg HB)) : w.heap.size ≤ gb236))
  have n5_ := Aside0.mk ((by rw [hg]; exact (below_size (zg HB)) : w.heap.size ≤ gb236))
  have n6_ := Aside0.mk ((by rw [hg]; exact Nat.ne_of_lt (blk_lt (zb BK213)) : gb213 ≠ gb236))
  have n7_ := Aside0.mk ((by rw [hg]; exact Nat.ne_of_gt (blk_lt (zb BK213)) : gb236 ≠ gb213))
  have n8_ := Aside0.mk ((by rw [hg]; exact Nat.ne_of_lt (blk_lt (zb BK214)) : gb214 ≠ gb236))
  have n9_ := Aside0.mk ((by rw [hg]; exact Nat.ne_of_gt (blk_lt (zb BK214)) : gb236 ≠ gb214))
  clear BK213
  clear BK214
  clear HB
  have BK213 := n0_
  have BK214 := n1_
  have HB := n2_
  have BK236 := n3_
  have GW236 := n4_
  have GE236 := n5_
  have NB213_236 := n6_
  have NB236_213 := n7_
  have NB214_236 := n8_
  have NB236_214 := n9_
  clear n0_ n1_ n2_ n3_ n4_ n5_ n6_ n7_ n8_ n9_
  clear hb hbox hg
  refine hK.out _ _ ⟨(blk_cell BK213.out 0).trans rfl, (blk_cell BK213.out 1).trans rfl, (blk_cell BK213.out 2).trans rfl, (blk_cell BK213.out 3).trans rfl, (blk_cell BK214.out 0).trans rfl, (blk_cell BK214.out 1).trans rfl, (blk_cell BK214.out 2).trans rfl, (blk_cell BK214.out 3).trans rfl⟩ (fun hHeld => ?_)
  clear hK K
  refine norm_ (a' := ?_) ?_ ?_
  rotate_left
  ·
   show Act.put _ (some 6) _ = _
   simp only [Act.put, List.setIfInBounds_toArray, List.set_cons_zero, List.set_cons_succ, i64_w, i32_w]
   rfl
  refine one_ (i := 1) (N := some 29) #[true, true, true, false, false, false, false, false, true, false, false] rfl rfl (one_of HT_.out (by kernel_rfl)) (by decide) (fun K hK => ?_)
  refine goes_ Try.func28 (by kernel_rfl) rfl #[.agg #[.int .i64 a0_0, .int .i64 a0_1, .int .i64 a0_2, .slice A0_3 l0_3.length c0_3]] (by rfl) rfl rfl zar ?_
  with_reducible refine (laws_toDigest.calls k a0_0 a0_1 a0_2 _ _ l0_3 t217 t218 t219 t220 _ ?side1 ?side2 A19.out).mono ?_
  (case side1 => repeat (first | exact (Kd.C_below HR0_3.out HB.out) | (with_reducible refine Kd.C_alloc ?_ _) | (with_reducible refine Kd.C_drewN ?_ _) | (with_reducible refine Kd.C_drew ?_)))
  (case side2 => exact HC0_3.out)
  rintro e w35 ⟨v221, rfl, ho0, hb⟩
  refine ⟨_, rfl, ?_⟩
  have n0_ := Aside0.mk (Kd.R_lower ho0 (below_size (zg HB)))
  have n1_ := Aside0.mk (blk_below (zb BK213) hb)
  have n2_ := Aside0.mk (blk_below (zb BK214) hb)
  have n3_ := Aside0.mk (blk_below (zb BK236) hb)
  have n4_ := Aside0.mk (below_step (zg HB) hb)
  clear BK213
  clear BK214
  clear BK236
  clear HB
  have HO222 := n0_
  have BK213 := n1_
  have BK214 := n2_
  have BK236 := n3_
  have HB := n4_
  clear n0_ n1_ n2_ n3_ n4_
  (try clear hb)
  (try clear hb2)
  (try clear hk)
  (try clear hi)
  (try clear ho0)
  refine hK.out _ _ ⟨(blk_cell BK213.out 0).trans rfl, (blk_cell BK213.out 1).trans rfl, (blk_cell BK213.out 2).trans rfl, (blk_cell BK213.out 3).trans rfl, (blk_cell BK214.out 0).trans rfl, (blk_cell BK214.out 1).trans rfl, (blk_cell BK214.out 2).trans rfl, (blk_cell BK214.out 3).trans rfl⟩ (fun hHeld => ?_)
  clear hK K
  refine norm_ (a' := ?_) ?_ ?_
  rotate_left
  ·
   show Act.put _ (some 29) _ = _
   simp only [Act.put, List.setIfInBounds_toArray, List.set_cons_zero, List.set_cons_succ, i64_w, i32_w]
   rfl
  refine one_ (i := 3) (N := some 31) #[true, true, true, true, false, false, false, false, true, false, false] rfl rfl (one_of HT_.out (by kernel_rfl)) (by decide) (fun K hK => ?_)
  refine goes_ Try.func28 (by kernel_rfl) rfl #[.agg #[.int .i64 a1_0, .int .i64 a1_1, .int .i64 a1_2, .slice A1_3 l1_3.length c1_3]] (by rfl) rfl rfl zar ?_
  with_reducible refine (laws_toDigest.calls k a1_0 a1_1 a1_2 _ _ l1_3 t223 t224 t225 t226 _ ?side1 ?side2 A20.out).mono ?_
  (case side1 => repeat (first | exact (Kd.C_below HR1_3.out HB.out) | (with_reducible refine Kd.C_alloc ?_ _) | (with_reducible refine Kd.C_drewN ?_ _) | (with_reducible refine Kd.C_drew ?_)))
  (case side2 => exact HC1_3.out)
  rintro e w36 ⟨v227, rfl, ho0, hb⟩
  refine ⟨_, rfl, ?_⟩
  have n0_ := Aside0.mk (Kd.R_elder' (zr HO222) (Kd.R_base ho0) hb)
  have n1_ := Aside0.mk (Kd.R_lower (Kd.R_new' ho0 (Kd.R_lt (zr HO222))) (below_size (zg HB)))
  have n2_ := Aside0.mk (blk_below (zb BK213) hb)
  have n3_ := Aside0.mk (blk_below (zb BK214) hb)
  have n4_ := Aside0.mk (blk_below (zb BK236) hb)
  have n5_ := Aside0.mk (below_step (zg HB) hb)
  clear HO222
  clear BK213
  clear BK214
  clear BK236
  clear HB
  have HO222 := n0_
  have HO228 := n1_
  have BK213 := n2_
  have BK214 := n3_
  have BK236 := n4_
  have HB := n5_
  clear n0_ n1_ n2_ n3_ n4_ n5_
  (try clear hb)
  (try clear hb2)
  (try clear hk)
  (try clear hi)
  (try clear ho0)
  obtain ⟨Ao37, co37, eo37⟩ := Kd.R_slice HO222.out
  (first | subst eo37 | (injection eo37 with f1_ f2_ f3_; have f4_ := f1_.symm; have f5_ := f3_.symm; clear f1_ f2_ f3_; subst f4_; subst f5_))
  obtain ⟨Ao38, co38, eo38⟩ := Kd.R_slice HO228.out
  (first | subst eo38 | (injection eo38 with f1_ f2_ f3_; have f4_ := f1_.symm; have f5_ := f3_.symm; clear f1_ f2_ f3_; subst f4_; subst f5_))
  refine hK.out _ _ ⟨(blk_cell BK213.out 0).trans rfl, (blk_cell BK213.out 1).trans rfl, (blk_cell BK213.out 2).trans rfl, (blk_cell BK213.out 3).trans rfl, (blk_cell BK214.out 0).trans rfl, (blk_cell BK214.out 1).trans rfl, (blk_cell BK214.out 2).trans rfl, (blk_cell BK214.out 3).trans rfl⟩ (fun hHeld => ?_)
  clear hK K
  refine norm_ (a' := ?_) ?_ ?_
  rotate_left
  ·
   show Act.put _ (some 31) _ = _
   simp only [Act.put, List.setIfInBounds_toArray, List.set_cons_zero, List.set_cons_succ, i64_w, i32_w]
   rfl
  refine one_ (i := 4) (N := some 32) #[true, true, true, true, true, false, false, false, true, false, false] rfl rfl (one_of HT_.out (by kernel_rfl)) (by decide) (fun K hK => ?_)
  refine goes_ Try.func27 (by kernel_rfl) rfl #[.agg #[.int .i64 t217, .int .i64 t218, .int .i64 t219, .slice Ao37 t220.length co37], .agg #[.int .i64 t223, .int .i64 t224, .int .i64 t225, .slice Ao38 t226.length co38]] (by rfl) rfl rfl zar ?_
  with_reducible refine (spec_DigestJoin.calls k t217 t218 t219 _ _ t220 t223 t224 t225 _ _ t226 t229 t230 t231 t232 t235 _ ?side1 ?side2 ?side3 ?side4 A21.out).mono ?_
  (case side1 => repeat (first | exact (Kd.R_reads' HO222.out).2.2 | (with_reducible refine Kd.C_alloc ?_ _) | (with_reducible refine Kd.C_drewN ?_ _) | (with_reducible refine Kd.C_drew ?_)))
  (case side2 => exact (Kd.R_reads' HO222.out).2.1)
  (case side3 => repeat (first | exact (Kd.R_reads' HO228.out).2.2 | (with_reducible refine Kd.C_alloc ?_ _) | (with_reducible refine Kd.C_drewN ?_ _) | (with_reducible refine Kd.C_drew ?_)))
  (case side4 => exact (Kd.R_reads' HO228.out).2.1)
  rintro e w39 ⟨v233, rfl, ho0, hb⟩
  refine ⟨_, rfl, ?_⟩
  have n0_ := Aside0.mk (Kd.R_elder' (zr HO222) (Kd.R_base ho0) hb)
  have n1_ := Aside0.mk (Kd.R_elder' (zr HO228) (Kd.R_base ho0) hb)
  have n2_ := Aside0.mk (Kd.R_lower (Kd.R_new' (Kd.R_new' ho0 (Kd.R_lt (zr HO222))) (Kd.R_lt (zr HO228))) (below_size (zg HB)))
  have n3_ := Aside0.mk (blk_below (zb BK213) hb)
  have n4_ := Aside0.mk (blk_below (zb BK214) hb)
  have n5_ := Aside0.mk (blk_below (zb BK236) hb)
  have n6_ := Aside0.mk (below_step (zg HB) hb)
  clear HO222
  clear HO228
  clear BK213
  clear BK214
  clear BK236
  clear HB
  have HO222 := n0_
  have HO228 := n1_
  have HO234 := n2_
  have BK213 := n3_
  have BK214 := n4_
  have BK236 := n5_
  have HB := n6_
  clear n0_ n1_ n2_ n3_ n4_ n5_ n6_
  (try clear hb)
  (try clear hb2)
  (try clear hk)
  (try clear hi)
  (try clear ho0)
  refine hK.out _ _ ⟨(blk_cell BK213.out 0).trans rfl, (blk_cell BK213.out 1).trans rfl, (blk_cell BK213.out 2).trans rfl, (blk_cell BK213.out 3).trans rfl, (blk_cell BK214.out 0).trans rfl, (blk_cell BK214.out 1).trans rfl, (blk_cell BK214.out 2).trans rfl, (blk_cell BK214.out 3).trans rfl⟩ (fun hHeld => ?_)
  clear hK K
  refine norm_ (a' := ?_) ?_ ?_
  rotate_left
  ·
   show Act.put _ (some 32) _ = _
   simp only [Act.put, List.setIfInBounds_toArray, List.set_cons_zero, List.set_cons_succ, i64_w, i32_w]
   rfl
  refine pure_ (i := 5) (N := some 27) (v := ?_) (a' := ?_) #[true, true, true, true, true, true, false, false, true, false, false] rfl rfl (any_of HT_.out (by kernel_rfl)) (fun _ _ _ h => h) (Or.inl ⟨by rfl, ?_⟩) ?_ ?_
  rotate_left
  ·
   intro w'
   go_simp
   with_reducible rfl
  rotate_left
  ·
   simp only [Act.put, List.setIfInBounds_toArray, List.set_cons_zero, List.set_cons_succ, i64_w, i32_w]
   rfl
  refine pure_ (i := 6) (N := some 33) (v := ?_) (a' := ?_) #[true, true, true, true, true, true, true, false, true, false, false] rfl rfl (any_of HT_.out (by kernel_rfl)) (fun _ _ _ h => h) (Or.inl ⟨by rfl, ?_⟩) ?_ ?_
  rotate_left
  ·
   intro w'
   go_simp
   with_reducible rfl
  rotate_left
  ·
   simp only [Act.put, List.setIfInBounds_toArray, List.set_cons_zero, List.set_cons_succ, i64_w, i32_w]
   rfl
  refine pure_ (i := 7) (N := some 34) (v := ?_) (a' := ?_) #[true, true, true, true, true, true, true, true, true, false, false] rfl rfl (any_of HT_.out (by kernel_rfl)) (fun _ _ _ h => h) (Or.inl ⟨by rfl, ?_⟩) ?_ ?_
  rotate_left
  ·
   intro w'
   go_simp
   with_reducible rfl
  rotate_left
  ·
   simp only [Act.put, List.setIfInBounds_toArray, List.set_cons_zero, List.set_cons_succ, i64_w, i32_w]
   rfl
  exact norm_ (by simp only [putAll, Act.put, List.setIfInBounds_toArray, List.set_cons_zero, List.set_cons_succ]) (hCont (.slice Ao37 t220.length co37, .slice Ao38 t226.length co38, v233, gb236) _ ⟨hHeld, (Kd.R_mono (zr HO222) (fun _ hk => ⟨hk.1.2, hk.2⟩)), (Kd.R_mono (zr HO228) (fun _ hk => ⟨hk.1.2, hk.2⟩)), (Kd.R_mono (zr HO234) (fun _ hk => ⟨hk.1.2, hk.2⟩)), (zb BK213), (zb BK214), (zb BK236), GW236.out, GE236.out, NB213_236.out, NB236_213.out, NB214_236.out, NB236_214.out, (zg HB)⟩)
end Go.Proofs.Ytchoncnahlcfjaa.XFnExactDigestJoin
