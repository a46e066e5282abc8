-- A text of this session: written by its own program (wip/x/xprint.py), which runs the kit's printer with contracts of its own.
import Derived.Test.YtchoncnahlcfjaaXFnExactSketchJoinx0
import Derived.Test.YtchoncnahlcfjaaXFnExactSketchJoinx1
import Derived.Test.YtchoncnahlcfjaaXFnExactSketchJoinx2
import Derived.Test.YtchoncnahlcfjaaXFnExactSketchJoinx3
import Derived.Test.YtchoncnahlcfjaaXFnExactSketchJoinx4h
namespace Go.Proofs.Ytchoncnahlcfjaa.XFnExactSketchJoin
open Go.RowKit Go.Proofs.YtchoncnahlcfjaaW.PrintWords Go.Proofs.YtchoncnahlcfjaaW.PrintLast Go.Proofs.YtchoncnahlcfjaaW.PrintMore
attribute [local go_sem] max2_int min2_int max_two min_two max_three min_three max_four min_four   -- for this text's walks alone
set_option linter.unusedVariables false
set_option linter.unusedSimpArgs false

set_option maxHeartbeats 8000000 in
set_option maxRecDepth 100000 in
theorem laws_FnExactSketchJoin.reg1 {K_ : Act → World → Prop} {P_ : Ending → World → Prop}
  (k : Nat)
  (A0_0 : Option Addr)
  (c0_0 : Nat)
  (l0_0 : List Int)
  (A1_0 : Option Addr)
  (c1_0 : Nat)
  (l1_0 : List Int)
  (r : Bool)
  (w : World)
  (hu24 : Try.prog.underlying 24 =
    some
      (TypeDesc.struct
        #[{ name := "Slots", type := 22, offset := 0, embedded := false, tag := "", pkgPath := "", byteOffset := 0 }]))
  (hu26 : Try.prog.underlying 26 =
    some
      (TypeDesc.struct
        #[{ name := "Slots", type := 22, offset := 0, embedded := false, tag := "", pkgPath := "", byteOffset := 0 }]))
  (HR0_0 : Aside0 ((Kd.int IntKind.i64).C w A0_0 l0_0.length l0_0))
  (HC0_0 : Aside0 (l0_0.length ≤ c0_0))
  (HR1_0 : Aside0 ((Kd.int IntKind.i64).C w A1_0 l1_0.length l1_0))
  (HC1_0 : Aside0 (l1_0.length ≤ c1_0))
  (t154 : Int)
  (A3 : Aside0 (laws_szSketch.f l0_0 1048576 = some t154))
  (c4b0 : decide (t154 < 0) = false)
  (t155 : Int)
  (A10 : Aside0 (laws_szSketch.f l1_0 t154 = some t155))
  (c11b0 : decide (t155 < 0) = false)
  (t156 : List Int)
  (A19 : Aside0 (laws_toSketch.f k l0_0 = some t156))
  (t159 : List Int)
  (A20 : Aside0 (laws_toSketch.f k l1_0 = some t159))
  (t162 : List Int)
  (t165 : Int)
  (A21 : Aside0 (spec_SketchJoin.f k t156 t159 = some (t162, t165)))
  (t167 : List Int)
  (A22 : Aside0 (laws_toSketch.f k l0_0 = some t167))
  (t171 : List Int)
  (A23 : Aside0 (laws_toSketch.f k l1_0 = some t171))
  (t175 : List Int)
  (t178 : Int)
  (A24 : Aside0 (impl_SketchJoin.f k t167 t171 = some (t175, t178)))
  (gb152 : Nat)
  (w26 : World)
  (GW152 GE152 : Aside0 (w.heap.size ≤ gb152))
  (gb153 : Nat)
  (w27 : World)
  (GW153 GE153 : Aside0 (w.heap.size ≤ gb153))
  (NB152_153 : Aside0 (gb152 ≠ gb153))
  (NB153_152 : Aside0 (gb153 ≠ gb152))
  (hnb28 : gb152 ≠ gb153)
  (hnc28 : gb153 ≠ gb152)
  (hcz29_0 : w27.cell? { block := gb152, off := 0 } = some (Value.slice A0_0 l0_0.length c0_0))
  (hfz29_0 : w27.frozen? { block := gb152, off := 0 } = false)
  (w30 : World)
  (hcz31_0 : w30.cell? { block := gb153, off := 0 } = some (Value.slice A1_0 l1_0.length c1_0))
  (hfz31_0 : w30.frozen? { block := gb153, off := 0 } = false)
  (w32 : World)
  (w33 : World)
  (v157 v160 : Value)
  (gb166 : Nat)
  (w40 : World)
  (hS_ : w40.cell? { block := gb152, off := 0 } = some (Value.slice A0_0 l0_0.length c0_0) ∧
    w40.cell? { block := gb153, off := 0 } = some (Value.slice A1_0 l1_0.length c1_0))
  (GW166 GE166 : Aside0 (w.heap.size ≤ gb166))
  (NB152_166 : Aside0 (gb152 ≠ gb166))
  (NB166_152 : Aside0 (gb166 ≠ gb152))
  (NB153_166 : Aside0 (gb153 ≠ gb166))
  (NB166_153 : Aside0 (gb166 ≠ gb153))
  (Ao41 : Option Addr)
  (co41 : Nat)
  (hs42 : w40.cell? { block := gb166, off := 0 } = some (Value.slice none 0 0))
  (hfs42 : w40.frozen? { block := gb166, off := 0 } = false)
  (hns42_0 : gb152 ≠ gb166)
  (hns42_1 : gb153 ≠ gb166)
  (hms42_0 : gb166 ≠ gb152)
  (hms42_1 : gb166 ≠ gb153)
  (hnb43 : gb152 ≠ gb166)
  (hnc43 : gb166 ≠ gb152)
  (w45 : World)
  (gb170 : Nat)
  (w46 : World)
  (GW170 GE170 : Aside0 (w.heap.size ≤ gb170))
  (NB152_170 : Aside0 (gb152 ≠ gb170))
  (NB170_152 : Aside0 (gb170 ≠ gb152))
  (NB153_170 : Aside0 (gb153 ≠ gb170))
  (NB170_153 : Aside0 (gb170 ≠ gb153))
  (NB166_170 : Aside0 (gb166 ≠ gb170))
  (NB170_166 : Aside0 (gb170 ≠ gb166))
  (Ao47 : Option Addr)
  (co47 : Nat)
  (hnb48 : gb170 ≠ gb152)
  (hnc48 : gb152 ≠ gb170)
  (hnb49 : gb170 ≠ gb153)
  (hnc49 : gb153 ≠ gb170)
  (hnb50 : gb170 ≠ gb166)
  (hnc50 : gb166 ≠ gb170)
  (hnb52 : gb153 ≠ gb166)
  (hnc52 : gb166 ≠ gb153)
  (w54 : World)
  (gb174 : Nat)
  (w55 : World)
  (GW174 GE174 : Aside0 (w.heap.size ≤ gb174))
  (NB152_174 : Aside0 (gb152 ≠ gb174))
  (NB174_152 : Aside0 (gb174 ≠ gb152))
  (NB153_174 : Aside0 (gb153 ≠ gb174))
  (NB174_153 : Aside0 (gb174 ≠ gb153))
  (NB166_174 : Aside0 (gb166 ≠ gb174))
  (NB174_166 : Aside0 (gb174 ≠ gb166))
  (NB170_174 : Aside0 (gb170 ≠ gb174))
  (NB174_170 : Aside0 (gb174 ≠ gb170))
  (Ao56 : Option Addr)
  (co56 : Nat)
  (hnb57 : gb174 ≠ gb152)
  (hnc57 : gb152 ≠ gb174)
  (hnb58 : gb174 ≠ gb153)
  (hnc58 : gb153 ≠ gb174)
  (hnb59 : gb174 ≠ gb166)
  (hnc59 : gb166 ≠ gb174)
  (hnb60 : gb174 ≠ gb170)
  (hnc60 : gb170 ≠ gb174)
  (w63 : World)
  (gb179 : Nat)
  (w64 : World)
  (GW179 GE179 : Aside0 (w.heap.size ≤ gb179))
  (NB152_179 : Aside0 (gb152 ≠ gb179))
  (NB179_152 : Aside0 (gb179 ≠ gb152))
  (NB153_179 : Aside0 (gb153 ≠ gb179))
  (NB179_153 : Aside0 (gb179 ≠ gb153))
  (NB166_179 : Aside0 (gb166 ≠ gb179))
  (NB179_166 : Aside0 (gb179 ≠ gb166))
  (NB170_179 : Aside0 (gb170 ≠ gb179))
  (NB179_170 : Aside0 (gb179 ≠ gb170))
  (NB174_179 : Aside0 (gb174 ≠ gb179))
  (NB179_174 : Aside0 (gb179 ≠ gb174))
  (Ao65 : Option Addr)
  (co65 : Nat)
  (HO158 : Aside0
    ((Kd.int IntKind.i64).R 3 w64 w.heap.size
      (fun k =>
        (((some k ≠ v160.ownBlock ∧ some k ≠ (Value.slice Ao41 t162.length co41).ownBlock) ∧
              some k ≠ (Value.slice Ao47 t167.length co47).ownBlock) ∧
            some k ≠ (Value.slice Ao56 t171.length co56).ownBlock) ∧
          some k ≠ (Value.slice Ao65 t175.length co65).ownBlock)
      v157 t156))
  (HO161 : Aside0
    ((Kd.int IntKind.i64).R 3 w64 w.heap.size
      (fun k =>
        (((some k ≠ v157.ownBlock ∧ some k ≠ (Value.slice Ao41 t162.length co41).ownBlock) ∧
              some k ≠ (Value.slice Ao47 t167.length co47).ownBlock) ∧
            some k ≠ (Value.slice Ao56 t171.length co56).ownBlock) ∧
          some k ≠ (Value.slice Ao65 t175.length co65).ownBlock)
      v160 t159))
  (HO164 : Aside0
    ((Kd.int IntKind.i64).R 3 w64 w.heap.size
      (fun k =>
        (((some k ≠ v157.ownBlock ∧ some k ≠ v160.ownBlock) ∧ some k ≠ (Value.slice Ao47 t167.length co47).ownBlock) ∧
            some k ≠ (Value.slice Ao56 t171.length co56).ownBlock) ∧
          some k ≠ (Value.slice Ao65 t175.length co65).ownBlock)
      (Value.slice Ao41 t162.length co41) t162))
  (HO169 : Aside0
    ((Kd.int IntKind.i64).R 3 w64 w.heap.size
      (fun k =>
        ((((True ∧ some k ≠ v157.ownBlock) ∧ some k ≠ v160.ownBlock) ∧
              some k ≠ (Value.slice Ao41 t162.length co41).ownBlock) ∧
            some k ≠ (Value.slice Ao56 t171.length co56).ownBlock) ∧
          some k ≠ (Value.slice Ao65 t175.length co65).ownBlock)
      (Value.slice Ao47 t167.length co47) t167))
  (HO173 : Aside0
    ((Kd.int IntKind.i64).R 3 w64 w.heap.size
      (fun k =>
        ((((True ∧ some k ≠ v157.ownBlock) ∧ some k ≠ v160.ownBlock) ∧
              some k ≠ (Value.slice Ao41 t162.length co41).ownBlock) ∧
            some k ≠ (Value.slice Ao47 t167.length co47).ownBlock) ∧
          some k ≠ (Value.slice Ao65 t175.length co65).ownBlock)
      (Value.slice Ao56 t171.length co56) t171))
  (HO177 : Aside0
    ((Kd.int IntKind.i64).R 3 w64 w.heap.size
      (fun k =>
        ((((True ∧ some k ≠ v157.ownBlock) ∧ some k ≠ v160.ownBlock) ∧
              some k ≠ (Value.slice Ao41 t162.length co41).ownBlock) ∧
            some k ≠ (Value.slice Ao47 t167.length co47).ownBlock) ∧
          some k ≠ (Value.slice Ao56 t171.length co56).ownBlock)
      (Value.slice Ao65 t175.length co65) t175))
  (hnb66 : gb179 ≠ gb152)
  (hnc66 : gb152 ≠ gb179)
  (hnb67 : gb179 ≠ gb153)
  (hnc67 : gb153 ≠ gb179)
  (hnb68 : gb179 ≠ gb166)
  (hnc68 : gb166 ≠ gb179)
  (hnb69 : gb179 ≠ gb170)
  (hnc69 : gb170 ≠ gb179)
  (hnb70 : gb179 ≠ gb174)
  (hnc70 : gb174 ≠ gb179)
  (kj24 : Nat)
  (HJ24 : Aside0 (kj24 + 1 ≤ k))
  (t181 : List Int)
  (A99 : Aside0 (laws_toSketch.f kj24 l0_0 = some t181))
  (A100 : Aside0 (laws_eqSketch.f kj24 t167 t181 = some true))
  (t185 : List Int)
  (A102 : Aside0 (laws_toSketch.f kj24 l1_0 = some t185))
  (A103 : Aside0 (laws_eqSketch.f kj24 t171 t185 = some true))
  (t189 : Int)
  (t190 : List Int)
  (A105 : Aside0 (laws_markSketch.f kj24 t167 1 = some (t189, t190)))
  (t191 : Int)
  (t192 : List Int)
  (A106 : Aside0 (laws_markSketch.f kj24 t171 t189 = some (t191, t192)))
  (w108 : World)
  (w109 : World)
  (Ao110 : Option Addr)
  (co110 : Nat)
  (w111 : World)
  (w112 : World)
  (w113 : World)
  (Ao114 : Option Addr)
  (co114 : Nat)
  (w115 : World)
  (hnb116 : gb170 ≠ gb152)
  (hnc116 : gb152 ≠ gb170)
  (hnb117 : gb170 ≠ gb153)
  (hnc117 : gb153 ≠ gb170)
  (hnb118 : gb170 ≠ gb166)
  (hnc118 : gb166 ≠ gb170)
  (hnb119 : gb170 ≠ gb174)
  (hnc119 : gb174 ≠ gb170)
  (hnb120 : gb170 ≠ gb179)
  (hnc120 : gb179 ≠ gb170)
  (w122 : World)
  (hnb123 : gb174 ≠ gb152)
  (hnc123 : gb152 ≠ gb174)
  (hnb124 : gb174 ≠ gb153)
  (hnc124 : gb153 ≠ gb174)
  (hnb125 : gb174 ≠ gb166)
  (hnc125 : gb166 ≠ gb174)
  (hnb126 : gb174 ≠ gb179)
  (hnc126 : gb179 ≠ gb174)
  (w128 : World)
  (HO183 : Aside0
    ((Kd.int IntKind.i64).R 3 w128 w.heap.size
      (fun k_ =>
        some k_ ≠ (Value.slice Ao41 t162.length co41).ownBlock ∧
          some k_ ≠ (Value.slice Ao47 t167.length co47).ownBlock ∧
            some k_ ≠ (Value.slice Ao56 t171.length co56).ownBlock ∧
              some k_ ≠ (Value.slice Ao65 t175.length co65).ownBlock ∧
                some k_ ≠ (Value.slice Ao114 t185.length co114).ownBlock)
      (Value.slice Ao110 t181.length co110) t181))
  (HO187 : Aside0
    ((Kd.int IntKind.i64).R 3 w128 w.heap.size
      (fun k_ =>
        some k_ ≠ (Value.slice Ao41 t162.length co41).ownBlock ∧
          some k_ ≠ (Value.slice Ao47 t167.length co47).ownBlock ∧
            some k_ ≠ (Value.slice Ao56 t171.length co56).ownBlock ∧
              some k_ ≠ (Value.slice Ao65 t175.length co65).ownBlock ∧
                some k_ ≠ (Value.slice Ao110 t181.length co110).ownBlock)
      (Value.slice Ao114 t185.length co114) t185))
  (wc : World)
  (u17 u18 u19 u20 u21 u22 u23 u24 u25 u26 u27 u28 u29 u30 u31 u32 u33 u34 u35 u36 u37 u38 u39 u40 u41 u42 u43 u44 u45 u46 u47 u48 u49 u50 u51 u52 u53 u54 u55 u56 u57 u58 u59 u60 u61 u62 u63 u64 u65 u66 u67 u68 u69 u70 u71 u72 u73 u74 u75 u76 u77 u78 u79 u80 u81 u83 u84 u85 u86 u87 u88 u89 u90 u91 u92 u93 u94 u95 u96 u97 u98 u99 u100 u101 u102 u103 u104 u105 u106 u107 u108 u109 u110 u111 u112 u113 u114 u115 u116 u117 u118 : Value)
  (hl171000_106 : t167.length = t190.length)
  (hl175000_106 : t171.length = t192.length)
  (kj106 : Nat)
  (HJ106 : Aside0 (kj106 + 1 ≤ kj24))
  (t194 : Int)
  (t195 : List Int)
  (A157 : Aside0 (laws_markSketch.f kj106 t175 1 = some (t194, t195)))
  (t196 : Int)
  (A158 : Aside0 (laws_heldSketch.f kj106 t195 1 = some t196))
  (c159b0 : decide (t196 < 0) = false)
  (c169b0 : (t196 == t194) = true)
  (c169b1 : (t196 != t194) = false)
  (t197 : List Int)
  (A170 : Aside0 (laws_toSketch.f kj106 l0_0 = some t197))
  (t200 : List Int)
  (A171 : Aside0 (laws_toSketch.f kj106 l1_0 = some t200))
  (t203 : List Int)
  (t206 : Int)
  (A172 : Aside0 (impl_SketchJoin.f kj106 t197 t200 = some (t203, t206)))
  (hnb174 : gb179 ≠ gb152)
  (hnc174 : gb152 ≠ gb179)
  (hnb175 : gb179 ≠ gb153)
  (hnc175 : gb153 ≠ gb179)
  (hnb176 : gb179 ≠ gb166)
  (hnc176 : gb166 ≠ gb179)
  (hnb177 : gb179 ≠ gb170)
  (hnc177 : gb170 ≠ gb179)
  (hnb178 : gb179 ≠ gb174)
  (hnc178 : gb174 ≠ gb179)
  (hcz179_0 : wc.cell? { block := gb179, off := 0 } = some (Value.slice Ao65 t175.length co65))
  (hfz179_0 : wc.frozen? { block := gb179, off := 0 } = false)
  (w180 : World)
  (hcz181_0 : w180.cell? { block := gb179, off := 0 } = some (Value.slice Ao65 t175.length co65))
  (hfz181_0 : w180.frozen? { block := gb179, off := 0 } = false)
  (w182 : World)
  (HT_ : Aside0
    (rtab Region.Mode.any
        #[{ dst := some 95, op := Op.load 24 (Operand.tmp 2), type := 24, pos := "exact.go:6470", after := #[],
            guard := none },
          { dst := some 96,
            op := Op.call { callee := Callee.value (Operand.func 11), args := #[Operand.tmp 95], argTypes := #[24] },
            type := 26, pos := "exact.go:6470", after := #[{ on := 0, ground := Ground.data }], guard := none },
          { dst := some 97, op := Op.load 24 (Operand.tmp 3), type := 24, pos := "exact.go:6470", after := #[],
            guard := none },
          { dst := some 98,
            op := Op.call { callee := Callee.value (Operand.func 11), args := #[Operand.tmp 97], argTypes := #[24] },
            type := 26, pos := "exact.go:6470",
            after := #[{ on := 2, ground := Ground.data }, { on := 1, ground := Ground.chain }], guard := none },
          { dst := some 99,
            op :=
              Op.call
                { callee := Callee.value (Operand.func 12), args := #[Operand.tmp 96, Operand.tmp 98],
                  argTypes := #[26, 26] },
            type := 27, pos := "exact.go:6470",
            after :=
              #[{ on := 1, ground := Ground.data }, { on := 3, ground := Ground.data },
                { on := 3, ground := Ground.chain }],
            guard := none },
          { dst := some 94, op := Op.move (Operand.tmp 99), type := 27, pos := "exact.go:6470",
            after := #[{ on := 4, ground := Ground.data }], guard := none },
          { dst := some 100, op := Op.extract (Operand.tmp 94) 0, type := 26, pos := "exact.go:6470",
            after := #[{ on := 5, ground := Ground.data }], guard := none },
          { dst := some 101, op := Op.extract (Operand.tmp 94) 1, type := 3, pos := "exact.go:6470",
            after := #[{ on := 5, ground := Ground.data }, { on := 9, ground := Ground.gcOnly Departure.lateStores }],
            guard := none },
          { dst := some 15, op := Op.alloc 26, type := 0, pos := "exact.go:6470", after := #[], guard := none },
          { dst := none, op := Op.store 26 (Operand.tmp 15) (Operand.tmp 100), type := 0, pos := "exact.go:6470",
            after :=
              #[{ on := 8, ground := Ground.data }, { on := 6, ground := Ground.data },
                { on := 4, ground := Ground.chain }, { on := 0, ground := Ground.phase },
                { on := 1, ground := Ground.phase }, { on := 2, ground := Ground.phase },
                { on := 3, ground := Ground.phase }, { on := 4, ground := Ground.phase },
                { on := 5, ground := Ground.phase }, { on := 6, ground := Ground.phase },
                { on := 7, ground := Ground.textOnly Departure.lateStores }, { on := 8, ground := Ground.phase }],
            guard := none },
          { dst := some 16, op := Op.assign (Operand.tmp 101), type := 3, pos := "exact.go:6470",
            after :=
              #[{ on := 7, ground := Ground.data }, { on := 9, ground := Ground.chain },
                { on := 0, ground := Ground.phase }, { on := 1, ground := Ground.phase },
                { on := 2, ground := Ground.phase }, { on := 3, ground := Ground.phase },
                { on := 4, ground := Ground.phase }, { on := 5, ground := Ground.phase },
                { on := 6, ground := Ground.phase }, { on := 7, ground := Ground.phase },
                { on := 8, ground := Ground.phase }, { on := 9, ground := Ground.phase }],
            guard := none }] =
      T31))
  (HW_ : Aside0 (waitsOk T31.snd B31 = true))
  (w183 : World)
  (HO_167000 : Aside0
    ((Kd.int IntKind.i64).R 3 w183 w.heap.size
      (fun k_ =>
        some k_ ≠ (Value.slice Ao47 t190.length co47).ownBlock ∧
          some k_ ≠ (Value.slice Ao56 t192.length co56).ownBlock ∧
            some k_ ≠ (Value.slice Ao65 t175.length co65).ownBlock)
      (Value.slice Ao41 t162.length co41) t162))
  (HO_171000 : Aside0
    ((Kd.int IntKind.i64).R 3 w183 w.heap.size
      (fun k_ =>
        some k_ ≠ (Value.slice Ao41 t162.length co41).ownBlock ∧
          some k_ ≠ (Value.slice Ao56 t192.length co56).ownBlock ∧
            some k_ ≠ (Value.slice Ao65 t175.length co65).ownBlock)
      (Value.slice Ao47 t190.length co47) t190))
  (HO_175000 : Aside0
    ((Kd.int IntKind.i64).R 3 w183 w.heap.size
      (fun k_ =>
        some k_ ≠ (Value.slice Ao41 t162.length co41).ownBlock ∧
          some k_ ≠ (Value.slice Ao47 t190.length co47).ownBlock ∧
            some k_ ≠ (Value.slice Ao65 t175.length co65).ownBlock)
      (Value.slice Ao56 t192.length co56) t192))
  (HO_180000 : Aside0
    ((Kd.int IntKind.i64).R 3 w183 w.heap.size
      (fun k_ =>
        some k_ ≠ (Value.slice Ao41 t162.length co41).ownBlock ∧
          some k_ ≠ (Value.slice Ao47 t190.length co47).ownBlock ∧
            some k_ ≠ (Value.slice Ao56 t192.length co56).ownBlock)
      (Value.slice Ao65 t175.length co65) t195))
  (BK152 : Aside0 (w183.heap[gb152]? = some (Obj.cells #[Value.slice A0_0 l0_0.length c0_0] 24)))
  (BK153 : Aside0 (w183.heap[gb153]? = some (Obj.cells #[Value.slice A1_0 l1_0.length c1_0] 24)))
  (BK166 : Aside0 (w183.heap[gb166]? = some (Obj.cells #[Value.slice Ao41 t162.length co41] 26)))
  (BK170 : Aside0 (w183.heap[gb170]? = some (Obj.cells #[Value.slice Ao47 t190.length co47] 26)))
  (BK174 : Aside0 (w183.heap[gb174]? = some (Obj.cells #[Value.slice Ao56 t192.length co56] 26)))
  (BK179 : Aside0 (w183.heap[gb179]? = some (Obj.cells #[Value.slice Ao65 t175.length co65] 26)))
  (HB : Aside0 (Below w.heap.size w w183))
  (hHeld : w183.cell? { block := gb152, off := 0 } = some (Value.slice A0_0 l0_0.length c0_0) ∧
    w183.cell? { block := gb153, off := 0 } = some (Value.slice A1_0 l1_0.length c1_0))
  (hCont : ∀ (s : Value × Value × Value × Nat) (w' : World),
    (w'.cell? { block := gb152, off := 0 } = some (Value.slice A0_0 l0_0.length c0_0) ∧
          w'.cell? { block := gb153, off := 0 } = some (Value.slice A1_0 l1_0.length c1_0)) ∧
        (Kd.int IntKind.i64).R 3 w' w.heap.size
            (fun k_ =>
              some k_ ≠ s.snd.fst.ownBlock ∧
                some k_ ≠ s.snd.snd.fst.ownBlock ∧
                  some k_ ≠ (Value.slice Ao41 t162.length co41).ownBlock ∧
                    some k_ ≠ (Value.slice Ao47 t190.length co47).ownBlock ∧
                      some k_ ≠ (Value.slice Ao56 t192.length co56).ownBlock ∧
                        some k_ ≠ (Value.slice Ao65 t175.length co65).ownBlock)
            s.fst t197 ∧
          (Kd.int IntKind.i64).R 3 w' w.heap.size
              (fun k_ =>
                some k_ ≠ s.fst.ownBlock ∧
                  some k_ ≠ s.snd.snd.fst.ownBlock ∧
                    some k_ ≠ (Value.slice Ao41 t162.length co41).ownBlock ∧
                      some k_ ≠ (Value.slice Ao47 t190.length co47).ownBlock ∧
                        some k_ ≠ (Value.slice Ao56 t192.length co56).ownBlock ∧
                          some k_ ≠ (Value.slice Ao65 t175.length co65).ownBlock)
              s.snd.fst t200 ∧
            (Kd.int IntKind.i64).R 3 w' w.heap.size
                (fun k_ =>
                  some k_ ≠ s.fst.ownBlock ∧
                    some k_ ≠ s.snd.fst.ownBlock ∧
                      some k_ ≠ (Value.slice Ao41 t162.length co41).ownBlock ∧
                        some k_ ≠ (Value.slice Ao47 t190.length co47).ownBlock ∧
                          some k_ ≠ (Value.slice Ao56 t192.length co56).ownBlock ∧
                            some k_ ≠ (Value.slice Ao65 t175.length co65).ownBlock)
                s.snd.snd.fst t203 ∧
              (Kd.int IntKind.i64).R 3 w' w.heap.size
                  (fun k_ =>
                    some k_ ≠ s.fst.ownBlock ∧
                      some k_ ≠ s.snd.fst.ownBlock ∧
                        some k_ ≠ s.snd.snd.fst.ownBlock ∧
                          some k_ ≠ (Value.slice Ao47 t190.length co47).ownBlock ∧
                            some k_ ≠ (Value.slice Ao56 t192.length co56).ownBlock ∧
                              some k_ ≠ (Value.slice Ao65 t175.length co65).ownBlock)
                  (Value.slice Ao41 t162.length co41) t162 ∧
                (Kd.int IntKind.i64).R 3 w' w.heap.size
                    (fun k_ =>
                      some k_ ≠ s.fst.ownBlock ∧
                        some k_ ≠ s.snd.fst.ownBlock ∧
                          some k_ ≠ s.snd.snd.fst.ownBlock ∧
                            some k_ ≠ (Value.slice Ao41 t162.length co41).ownBlock ∧
                              some k_ ≠ (Value.slice Ao56 t192.length co56).ownBlock ∧
                                some k_ ≠ (Value.slice Ao65 t175.length co65).ownBlock)
                    (Value.slice Ao47 t190.length co47) t190 ∧
                  (Kd.int IntKind.i64).R 3 w' w.heap.size
                      (fun k_ =>
                        some k_ ≠ s.fst.ownBlock ∧
                          some k_ ≠ s.snd.fst.ownBlock ∧
                            some k_ ≠ s.snd.snd.fst.ownBlock ∧
                              some k_ ≠ (Value.slice Ao41 t162.length co41).ownBlock ∧
                                some k_ ≠ (Value.slice Ao47 t190.length co47).ownBlock ∧
                                  some k_ ≠ (Value.slice Ao65 t175.length co65).ownBlock)
                      (Value.slice Ao56 t192.length co56) t192 ∧
                    (Kd.int IntKind.i64).R 3 w' w.heap.size
                        (fun k_ =>
                          some k_ ≠ s.fst.ownBlock ∧
                            some k_ ≠ s.snd.fst.ownBlock ∧
                              some k_ ≠ s.snd.snd.fst.ownBlock ∧
                                some k_ ≠ (Value.slice Ao41 t162.length co41).ownBlock ∧
                                  some k_ ≠ (Value.slice Ao47 t190.length co47).ownBlock ∧
                                    some k_ ≠ (Value.slice Ao56 t192.length co56).ownBlock)
                        (Value.slice Ao65 t175.length co65) t195 ∧
                      w'.heap[gb152]? = some (Obj.cells #[Value.slice A0_0 l0_0.length c0_0] 24) ∧
                        w'.heap[gb153]? = some (Obj.cells #[Value.slice A1_0 l1_0.length c1_0] 24) ∧
                          w'.heap[gb166]? = some (Obj.cells #[Value.slice Ao41 t162.length co41] 26) ∧
                            w'.heap[gb170]? = some (Obj.cells #[Value.slice Ao47 t190.length co47] 26) ∧
                              w'.heap[gb174]? = some (Obj.cells #[Value.slice Ao56 t192.length co56] 26) ∧
                                w'.heap[gb179]? = some (Obj.cells #[Value.slice Ao65 t175.length co65] 26) ∧
                                  w'.heap[s.snd.snd.snd]? = some (Obj.cells #[Value.slice none 0 0] 26) ∧
                                    w.heap.size ≤ s.snd.snd.snd ∧
                                      w.heap.size ≤ s.snd.snd.snd ∧
                                        gb152 ≠ s.snd.snd.snd ∧
                                          s.snd.snd.snd ≠ gb152 ∧
                                            gb153 ≠ s.snd.snd.snd ∧
                                              s.snd.snd.snd ≠ gb153 ∧
                                                gb166 ≠ s.snd.snd.snd ∧
                                                  s.snd.snd.snd ≠ gb166 ∧
                                                    gb170 ≠ s.snd.snd.snd ∧
                                                      s.snd.snd.snd ≠ gb170 ∧
                                                        gb174 ≠ s.snd.snd.snd ∧
                                                          s.snd.snd.snd ≠ gb174 ∧
                                                            gb179 ≠ s.snd.snd.snd ∧
                                                              s.snd.snd.snd ≠ gb179 ∧ Below w.heap.size w w' →
      wpAnyLast Try.prog Region.Mode.any
        #[{ dst := some 95, op := Op.load 24 (Operand.tmp 2), type := 24, pos := "exact.go:6470", after := #[],
            guard := none },
          { dst := some 96,
            op := Op.call { callee := Callee.value (Operand.func 11), args := #[Operand.tmp 95], argTypes := #[24] },
            type := 26, pos := "exact.go:6470", after := #[{ on := 0, ground := Ground.data }], guard := none },
          { dst := some 97, op := Op.load 24 (Operand.tmp 3), type := 24, pos := "exact.go:6470", after := #[],
            guard := none },
          { dst := some 98,
            op := Op.call { callee := Callee.value (Operand.func 11), args := #[Operand.tmp 97], argTypes := #[24] },
            type := 26, pos := "exact.go:6470",
            after := #[{ on := 2, ground := Ground.data }, { on := 1, ground := Ground.chain }], guard := none },
          { dst := some 99,
            op :=
              Op.call
                { callee := Callee.value (Operand.func 12), args := #[Operand.tmp 96, Operand.tmp 98],
                  argTypes := #[26, 26] },
            type := 27, pos := "exact.go:6470",
            after :=
              #[{ on := 1, ground := Ground.data }, { on := 3, ground := Ground.data },
                { on := 3, ground := Ground.chain }],
            guard := none },
          { dst := some 94, op := Op.move (Operand.tmp 99), type := 27, pos := "exact.go:6470",
            after := #[{ on := 4, ground := Ground.data }], guard := none },
          { dst := some 100, op := Op.extract (Operand.tmp 94) 0, type := 26, pos := "exact.go:6470",
            after := #[{ on := 5, ground := Ground.data }], guard := none },
          { dst := some 101, op := Op.extract (Operand.tmp 94) 1, type := 3, pos := "exact.go:6470",
            after := #[{ on := 5, ground := Ground.data }, { on := 9, ground := Ground.gcOnly Departure.lateStores }],
            guard := none },
          { dst := some 15, op := Op.alloc 26, type := 0, pos := "exact.go:6470", after := #[], guard := none },
          { dst := none, op := Op.store 26 (Operand.tmp 15) (Operand.tmp 100), type := 0, pos := "exact.go:6470",
            after :=
              #[{ on := 8, ground := Ground.data }, { on := 6, ground := Ground.data },
                { on := 4, ground := Ground.chain }, { on := 0, ground := Ground.phase },
                { on := 1, ground := Ground.phase }, { on := 2, ground := Ground.phase },
                { on := 3, ground := Ground.phase }, { on := 4, ground := Ground.phase },
                { on := 5, ground := Ground.phase }, { on := 6, ground := Ground.phase },
                { on := 7, ground := Ground.textOnly Departure.lateStores }, { on := 8, ground := Ground.phase }],
            guard := none },
          { dst := some 16, op := Op.assign (Operand.tmp 101), type := 3, pos := "exact.go:6470",
            after :=
              #[{ on := 7, ground := Ground.data }, { on := 9, ground := Ground.chain },
                { on := 0, ground := Ground.phase }, { on := 1, ground := Ground.phase },
                { on := 2, ground := Ground.phase }, { on := 3, ground := Ground.phase },
                { on := 4, ground := Ground.phase }, { on := 5, ground := Ground.phase },
                { on := 6, ground := Ground.phase }, { on := 7, ground := Ground.phase },
                { on := 8, ground := Ground.phase }, { on := 9, ground := Ground.phase }],
            guard := none }]
        (Exit.then K_ (bodyPost Try.prog Try.f3 P_))
        (fun w' =>
          w'.cell? { block := gb152, off := 0 } = some (Value.slice A0_0 l0_0.length c0_0) ∧
            w'.cell? { block := gb153, off := 0 } = some (Value.slice A1_0 l1_0.length c1_0))
        [] 2 #[true, true, true, true, true, true, true, true, true, false, false]
        (putAll
          {
            tmps :=
              #[Value.agg #[Value.slice A0_0 l0_0.length c0_0], Value.agg #[Value.slice A1_0 l1_0.length c1_0],
                Value.pointer (some { block := gb152, off := 0 }), Value.pointer (some { block := gb153, off := 0 }),
                Value.bool false, Value.int IntKind.i64 t155, Value.pointer (some { block := gb166, off := 0 }),
                Value.int IntKind.i64 t165, Value.pointer (some { block := gb170, off := 0 }),
                Value.pointer (some { block := gb174, off := 0 }), Value.pointer (some { block := gb179, off := 0 }),
                Value.int IntKind.i64 t178, Value.int IntKind.i64 t191, Value.int IntKind.i64 t194,
                Value.int IntKind.i64 t196, undef, undef, u17, u18, u19, u20, u21, u22, u23, u24, u25, u26, u27, u28,
                u29, u30, u31, u32, u33, u34, u35, u36, u37, u38, u39, u40, u41, u42, u43, u44, u45, u46, u47, u48, u49,
                u50, u51, u52, u53, u54, u55, u56, u57, u58, u59, u60, u61, u62, u63, u64, u65, u66, u67, u68, u69, u70,
                u71, u72, u73, u74, u75, u76, u77, u78, u79, u80, u81, Value.bool false,
                Value.agg #[Value.slice Ao65 t175.length co65], Value.int IntKind.i64 1, Value.int IntKind.i64 t194,
                Value.agg #[Value.slice Ao65 t175.length co65], Value.int IntKind.i64 1, Value.int IntKind.i64 t196,
                Value.int IntKind.i64 t196, Value.bool false, Value.int IntKind.i64 t196, Value.int IntKind.i64 t194,
                Value.bool false, u94, Value.agg #[Value.slice A0_0 l0_0.length c0_0], u96,
                Value.agg #[Value.slice A1_0 l1_0.length c1_0], u98, u99, u100, u101, u102, u103, u104, u105, u106,
                u107, u108, u109, u110, u111, u112, u113, u114, u115, u116, u117, u118],
            defers := [] }
          [(96, Value.agg #[s.fst]), (98, Value.agg #[s.snd.fst]),
            (99, Value.tuple #[Value.agg #[s.snd.snd.fst], Value.int IntKind.i64 t206]),
            (15, Value.pointer (some { block := s.snd.snd.snd, off := 0 })),
            (94, Value.tuple #[Value.agg #[s.snd.snd.fst], Value.int IntKind.i64 t206]),
            (100, Value.agg #[s.snd.snd.fst]), (101, Value.int IntKind.i64 t206)])
        w') :
  wpAnyLast Try.prog Region.Mode.any
    #[{ dst := some 95, op := Op.load 24 (Operand.tmp 2), type := 24, pos := "exact.go:6470", after := #[],
        guard := none },
      { dst := some 96,
        op := Op.call { callee := Callee.value (Operand.func 11), args := #[Operand.tmp 95], argTypes := #[24] },
        type := 26, pos := "exact.go:6470", after := #[{ on := 0, ground := Ground.data }], guard := none },
      { dst := some 97, op := Op.load 24 (Operand.tmp 3), type := 24, pos := "exact.go:6470", after := #[],
        guard := none },
      { dst := some 98,
        op := Op.call { callee := Callee.value (Operand.func 11), args := #[Operand.tmp 97], argTypes := #[24] },
        type := 26, pos := "exact.go:6470",
        after := #[{ on := 2, ground := Ground.data }, { on := 1, ground := Ground.chain }], guard := none },
      { dst := some 99,
        op :=
          Op.call
            { callee := Callee.value (Operand.func 12), args := #[Operand.tmp 96, Operand.tmp 98],
              argTypes := #[26, 26] },
        type := 27, pos := "exact.go:6470",
        after :=
          #[{ on := 1, ground := Ground.data }, { on := 3, ground := Ground.data },
            { on := 3, ground := Ground.chain }],
        guard := none },
      { dst := some 94, op := Op.move (Operand.tmp 99), type := 27, pos := "exact.go:6470",
        after := #[{ on := 4, ground := Ground.data }], guard := none },
      { dst := some 100, op := Op.extract (Operand.tmp 94) 0, type := 26, pos := "exact.go:6470",
        after := #[{ on := 5, ground := Ground.data }], guard := none },
      { dst := some 101, op := Op.extract (Operand.tmp 94) 1, type := 3, pos := "exact.go:6470",
        after := #[{ on := 5, ground := Ground.data }, { on := 9, ground := Ground.gcOnly Departure.lateStores }],
        guard := none },
      { dst := some 15, op := Op.alloc 26, type := 0, pos := "exact.go:6470", after := #[], guard := none },
      { dst := none, op := Op.store 26 (Operand.tmp 15) (Operand.tmp 100), type := 0, pos := "exact.go:6470",
        after :=
          #[{ on := 8, ground := Ground.data }, { on := 6, ground := Ground.data }, { on := 4, ground := Ground.chain },
            { on := 0, ground := Ground.phase }, { on := 1, ground := Ground.phase },
            { on := 2, ground := Ground.phase }, { on := 3, ground := Ground.phase },
            { on := 4, ground := Ground.phase }, { on := 5, ground := Ground.phase },
            { on := 6, ground := Ground.phase }, { on := 7, ground := Ground.textOnly Departure.lateStores },
            { on := 8, ground := Ground.phase }],
        guard := none },
      { dst := some 16, op := Op.assign (Operand.tmp 101), type := 3, pos := "exact.go:6470",
        after :=
          #[{ on := 7, ground := Ground.data }, { on := 9, ground := Ground.chain },
            { on := 0, ground := Ground.phase }, { on := 1, ground := Ground.phase },
            { on := 2, ground := Ground.phase }, { on := 3, ground := Ground.phase },
            { on := 4, ground := Ground.phase }, { on := 5, ground := Ground.phase },
            { on := 6, ground := Ground.phase }, { on := 7, ground := Ground.phase },
            { on := 8, ground := Ground.phase }, { on := 9, ground := Ground.phase }],
        guard := none }]
    (Exit.then K_ (bodyPost Try.prog Try.f3 P_))
    (fun w' =>
      w'.cell? { block := gb152, off := 0 } = some (Value.slice A0_0 l0_0.length c0_0) ∧
        w'.cell? { block := gb153, off := 0 } = some (Value.slice A1_0 l1_0.length c1_0))
    [] 9 #[true, false, true, false, false, false, false, false, false, false, false]
    {
      tmps :=
        #[Value.agg #[Value.slice A0_0 l0_0.length c0_0], Value.agg #[Value.slice A1_0 l1_0.length c1_0],
          Value.pointer (some { block := gb152, off := 0 }), Value.pointer (some { block := gb153, off := 0 }),
          Value.bool false, Value.int IntKind.i64 t155, Value.pointer (some { block := gb166, off := 0 }),
          Value.int IntKind.i64 t165, Value.pointer (some { block := gb170, off := 0 }),
          Value.pointer (some { block := gb174, off := 0 }), Value.pointer (some { block := gb179, off := 0 }),
          Value.int IntKind.i64 t178, Value.int IntKind.i64 t191, Value.int IntKind.i64 t194,
          Value.int IntKind.i64 t196, undef, undef, u17, u18, u19, u20, u21, u22, u23, u24, u25, u26, u27, u28, u29,
          u30, u31, u32, u33, u34, u35, u36, u37, u38, u39, u40, u41, u42, u43, u44, u45, u46, u47, u48, u49, u50, u51,
          u52, u53, u54, u55, u56, u57, u58, u59, u60, u61, u62, u63, u64, u65, u66, u67, u68, u69, u70, u71, u72, u73,
          u74, u75, u76, u77, u78, u79, u80, u81, Value.bool false, Value.agg #[Value.slice Ao65 t175.length co65],
          Value.int IntKind.i64 1, Value.int IntKind.i64 t194, Value.agg #[Value.slice Ao65 t175.length co65],
          Value.int IntKind.i64 1, Value.int IntKind.i64 t196, Value.int IntKind.i64 t196, Value.bool false,
          Value.int IntKind.i64 t196, Value.int IntKind.i64 t194, Value.bool false, u94,
          Value.agg #[Value.slice A0_0 l0_0.length c0_0], u96, Value.agg #[Value.slice A1_0 l1_0.length c1_0], u98, u99,
          u100, u101, u102, u103, u104, u105, u106, u107, u108, u109, u110, u111, u112, u113, u114, u115, u116, u117,
          u118],
      defers := [] }
    w183 := by
 refine two_ (i := 1) (j := 8) (Ni := some 96) (Nj := some 15) #[true, true, true, false, false, false, false, false, false, false, false] #[true, false, true, false, false, false, false, false, true, false, false] rfl rfl rfl rfl (two_of HT_.out (by kernel_rfl)) (by decide) (by decide) (fun K hK => ?_) (fun K hK => ?_)
 ·
  skip
  refine goes_ Try.func11 (by kernel_rfl) rfl #[.agg #[.slice A0_0 l0_0.length c0_0]] (by rfl) rfl rfl (by (try simp only [List.map_toArray, List.map_cons, List.map_nil]); first | done | rfl | (simp only [List.length_drop, List.length_take]; rfl)) ?_
  with_reducible refine (laws_toSketch.calls kj106 _ _ l0_0 t197 _ ?side1 ?side2 A170.out).mono ?_
  (case side1 => repeat (first | exact (Kd.C_below HR0_0.out HB.out) | (with_reducible refine Kd.C_alloc ?_ _) | (with_reducible refine Kd.C_drewN ?_ _) | (with_reducible refine Kd.C_drew ?_)))
  (case side2 => exact HC0_0.out)
  rintro e w184 ⟨v198, rfl, ho0, hb⟩
  refine ⟨_, rfl, ?_⟩
  have n0_ := Aside0.mk (Kd.R_elder' (by (with_reducible repeat (first | apply Kd.R_alloc | apply Kd.R_drewN | apply Kd.R_drew)); exact HO_167000.out) (Kd.R_base ho0) hb)
  have n1_ := Aside0.mk (Kd.R_elder' (by (with_reducible repeat (first | apply Kd.R_alloc | apply Kd.R_drewN | apply Kd.R_drew)); exact HO_171000.out) (Kd.R_base ho0) hb)
  have n2_ := Aside0.mk (Kd.R_elder' (by (with_reducible repeat (first | apply Kd.R_alloc | apply Kd.R_drewN | apply Kd.R_drew)); exact HO_175000.out) (Kd.R_base ho0) hb)
  have n3_ := Aside0.mk (Kd.R_elder' (by (with_reducible repeat (first | apply Kd.R_alloc | apply Kd.R_drewN | apply Kd.R_drew)); exact HO_180000.out) (Kd.R_base ho0) hb)
  have n4_ := Aside0.mk (Kd.R_lower (Kd.R_new' (Kd.R_new' (Kd.R_new' (Kd.R_new' ho0 (Kd.R_lt (by (with_reducible repeat (first | apply Kd.R_alloc | apply Kd.R_drewN | apply Kd.R_drew)); exact HO_167000.out))) (Kd.R_lt (by (with_reducible repeat (first | apply Kd.R_alloc | apply Kd.R_drewN | apply Kd.R_drew)); exact HO_171000.out))) (Kd.R_lt (by (with_reducible repeat (first | apply Kd.R_alloc | apply Kd.R_drewN | apply Kd.R_drew)); exact HO_175000.out))) (Kd.R_lt (by (with_reducible repeat (first | apply Kd.R_alloc | apply Kd.R_drewN | apply Kd.R_drew)); exact HO_180000.out))) (below_size (by repeat (first | (with_reducible first | exact HB.out | apply below_alloc | apply pw_below_drewN | apply below_drew1 | refine below_set ?_ GE152.out | refine below_set ?_ GE153.out | refine below_set ?_ GE166.out | refine below_set ?_ GE170.out | refine below_set ?_ GE174.out | refine below_set ?_ GE179.out) | exact HB.out))))
  have n5_ := Aside0.mk (blk_below (g := gb152) (o := .cells #[.slice A0_0 l0_0.length c0_0] 24 (0, 0)) (by (with_reducible repeat (first | refine blk_drewN ?_ _ | refine blk_drew ?_ | refine blk_alloc ?_ _)); exact BK152.out) hb)
  have n6_ := Aside0.mk (blk_below (g := gb153) (o := .cells #[.slice A1_0 l1_0.length c1_0] 24 (0, 0)) (by (with_reducible repeat (first | refine blk_drewN ?_ _ | refine blk_drew ?_ | refine blk_alloc ?_ _)); exact BK153.out) hb)
  have n7_ := Aside0.mk (blk_below (g := gb166) (o := .cells #[.slice Ao41 t162.length co41] 26 (0, 0)) (by (with_reducible repeat (first | refine blk_drewN ?_ _ | refine blk_drew ?_ | refine blk_alloc ?_ _)); exact BK166.out) hb)
  have n8_ := Aside0.mk (blk_below (g := gb170) (o := .cells #[.slice Ao47 t190.length co47] 26 (0, 0)) (by (with_reducible repeat (first | refine blk_drewN ?_ _ | refine blk_drew ?_ | refine blk_alloc ?_ _)); exact BK170.out) hb)
  have n9_ := Aside0.mk (blk_below (g := gb174) (o := .cells #[.slice Ao56 t192.length co56] 26 (0, 0)) (by (with_reducible repeat (first | refine blk_drewN ?_ _ | refine blk_drew ?_ | refine blk_alloc ?_ _)); exact BK174.out) hb)
  have n10_ := Aside0.mk (blk_below (g := gb179) (o := .cells #[.slice Ao65 t175.length co65] 26 (0, 0)) (by (with_reducible repeat (first | refine blk_drewN ?_ _ | refine blk_drew ?_ | refine blk_alloc ?_ _)); exact BK179.out) hb)
  have n11_ := Aside0.mk (below_step (by repeat (first | (with_reducible first | exact HB.out | apply below_alloc | apply pw_below_drewN | apply below_drew1 | refine below_set ?_ GE152.out | refine below_set ?_ GE153.out | refine below_set ?_ GE166.out | refine below_set ?_ GE170.out | refine below_set ?_ GE174.out | refine below_set ?_ GE179.out) | exact HB.out)) hb)
  clear HO_167000
  clear HO_171000
  clear HO_175000
  clear HO_180000
  clear BK152
  clear BK153
  clear BK166
  clear BK170
  clear BK174
  clear BK179
  clear HB
  have HO_167000 := n0_
  have HO_171000 := n1_
  have HO_175000 := n2_
  have HO_180000 := n3_
  have HO199 := n4_
  have BK152 := n5_
  have BK153 := n6_
  have BK166 := n7_
  have BK170 := n8_
  have BK174 := n9_
  have BK179 := n10_
  have HB := n11_
  clear n0_ n1_ n2_ n3_ n4_ n5_ n6_ n7_ n8_ n9_ n10_ n11_
  (try clear hb)
  (try clear hb2)
  (try clear hk)
  (try clear hi)
  (try clear ho0)
  refine hK.out _ _ ⟨(blk_cell BK152.out 0).trans rfl, (blk_cell BK153.out 0).trans rfl⟩ (fun hHeld => ?_)
  clear hK K
  refine norm_ (a' := ?_) ?_ ?_
  rotate_left
  ·
   show Act.put _ (some 96) _ = _
   simp only [Act.put, List.setIfInBounds_toArray, List.set_cons_zero, List.set_cons_succ, i64_w, i32_w]
   rfl
  refine two_ (i := 3) (j := 8) (Ni := some 98) (Nj := some 15) #[true, true, true, true, false, false, false, false, false, false, false] #[true, true, true, false, false, false, false, false, true, false, false] rfl rfl rfl rfl (two_of HT_.out (by kernel_rfl)) (by decide) (by decide) (fun K hK => ?_) (fun K hK => ?_)
  ·
   skip
   refine goes_ Try.func11 (by kernel_rfl) rfl #[.agg #[.slice A1_0 l1_0.length c1_0]] (by rfl) rfl rfl (by (try simp only [List.map_toArray, List.map_cons, List.map_nil]); first | done | rfl | (simp only [List.length_drop, List.length_take]; rfl)) ?_
   with_reducible refine (laws_toSketch.calls kj106 _ _ l1_0 t200 _ ?side1 ?side2 A171.out).mono ?_
   (case side1 => repeat (first | exact (Kd.C_below HR1_0.out HB.out) | (with_reducible refine Kd.C_alloc ?_ _) | (with_reducible refine Kd.C_drewN ?_ _) | (with_reducible refine Kd.C_drew ?_)))
   (case side2 => exact HC1_0.out)
   rintro e w185 ⟨v201, rfl, ho0, hb⟩
   refine ⟨_, rfl, ?_⟩
   have n0_ := Aside0.mk (Kd.R_elder' (by (with_reducible repeat (first | apply Kd.R_alloc | apply Kd.R_drewN | apply Kd.R_drew)); exact HO_167000.out) (Kd.R_base ho0) hb)
   have n1_ := Aside0.mk (Kd.R_elder' (by (with_reducible repeat (first | apply Kd.R_alloc | apply Kd.R_drewN | apply Kd.R_drew)); exact HO_171000.out) (Kd.R_base ho0) hb)
   have n2_ := Aside0.mk (Kd.R_elder' (by (with_reducible repeat (first | apply Kd.R_alloc | apply Kd.R_drewN | apply Kd.R_drew)); exact HO_175000.out) (Kd.R_base ho0) hb)
   have n3_ := Aside0.mk (Kd.R_elder' (by (with_reducible repeat (first | apply Kd.R_alloc | apply Kd.R_drewN | apply Kd.R_drew)); exact HO_180000.out) (Kd.R_base ho0) hb)
   have n4_ := Aside0.mk (Kd.R_elder' (by (with_reducible repeat (first | apply Kd.R_alloc | apply Kd.R_drewN | apply Kd.R_drew)); exact HO199.out) (Kd.R_base ho0) hb)
   have n5_ := Aside0.mk (Kd.R_lower (Kd.R_new' (Kd.R_new' (Kd.R_new' (Kd.R_new' (Kd.R_new' ho0 (Kd.R_lt (by (with_reducible repeat (first | apply Kd.R_alloc | apply Kd.R_drewN | apply Kd.R_drew)); exact HO_167000.out))) (Kd.R_lt (by (with_reducible repeat (first | apply Kd.R_alloc | apply Kd.R_drewN | apply Kd.R_drew)); exact HO_171000.out))) (Kd.R_lt (by (with_reducible repeat (first | apply Kd.R_alloc | apply Kd.R_drewN | apply Kd.R_drew)); exact HO_175000.out))) (Kd.R_lt (by (with_reducible repeat (first | apply Kd.R_alloc | apply Kd.R_drewN | apply Kd.R_drew)); exact HO_180000.out))) (Kd.R_lt (by (with_reducible repeat (first | apply Kd.R_alloc | apply Kd.R_drewN | apply Kd.R_drew)); exact HO199.out))) (below_size (by repeat (first | (with_reducible first | exact HB.out | apply below_alloc | apply pw_below_drewN | apply below_drew1 | refine below_set ?_ GE152.out | refine below_set ?_ GE153.out | refine below_set ?_ GE166.out | refine below_set ?_ GE170.out | refine below_set ?_ GE174.out | refine below_set ?_ GE179.out) | exact HB.out))))
   have n6_ := Aside0.mk (blk_below (g := gb152) (o := .cells #[.slice A0_0 l0_0.length c0_0] 24 (0, 0)) (by (with_reducible repeat (first | refine blk_drewN ?_ _ | refine blk_drew ?_ | refine blk_alloc ?_ _)); exact BK152.out) hb)
   have n7_ := Aside0.mk (blk_below (g := gb153) (o := .cells #[.slice A1_0 l1_0.length c1_0] 24 (0, 0)) (by (with_reducible repeat (first | refine blk_drewN ?_ _ | refine blk_drew ?_ | refine blk_alloc ?_ _)); exact BK153.out) hb)
   have n8_ := Aside0.mk (blk_below (g := gb166) (o := .cells #[.slice Ao41 t162.length co41] 26 (0, 0)) (by (with_reducible repeat (first | refine blk_drewN ?_ _ | refine blk_drew ?_ | refine blk_alloc ?_ _)); exact BK166.out) hb)
   have n9_ := Aside0.mk (blk_below (g := gb170) (o := .cells #[.slice Ao47 t190.length co47] 26 (0, 0)) (by (with_reducible repeat (first | refine blk_drewN ?_ _ | refine blk_drew ?_ | refine blk_alloc ?_ _)); exact BK170.out) hb)
   have n10_ := Aside0.mk (blk_below (g := gb174) (o := .cells #[.slice Ao56 t192.length co56] 26 (0, 0)) (by (with_reducible repeat (first | refine blk_drewN ?_ _ | refine blk_drew ?_ | refine blk_alloc ?_ _)); exact BK174.out) hb)
   have n11_ := Aside0.mk (blk_below (g := gb179) (o := .cells #[.slice Ao65 t175.length co65] 26 (0, 0)) (by (with_reducible repeat (first | refine blk_drewN ?_ _ | refine blk_drew ?_ | refine blk_alloc ?_ _)); exact BK179.out) hb)
   have n12_ := Aside0.mk (below_step (by repeat (first | (with_reducible first | exact HB.out | apply below_alloc | apply pw_below_drewN | apply below_drew1 | refine below_set ?_ GE152.out | refine below_set ?_ GE153.out | refine below_set ?_ GE166.out | refine below_set ?_ GE170.out | refine below_set ?_ GE174.out | refine below_set ?_ GE179.out) | exact HB.out)) hb)
   clear HO_167000
   clear HO_171000
   clear HO_175000
   clear HO_180000
   clear HO199
   clear BK152
   clear BK153
   clear BK166
   clear BK170
   clear BK174
   clear BK179
   clear HB
   have HO_167000 := n0_
   have HO_171000 := n1_
   have HO_175000 := n2_
   have HO_180000 := n3_
   have HO199 := n4_
   have HO202 := n5_
   have BK152 := n6_
   have BK153 := n7_
   have BK166 := n8_
   have BK170 := n9_
   have BK174 := n10_
   have BK179 := n11_
   have HB := n12_
   clear n0_ n1_ n2_ n3_ n4_ n5_ n6_ n7_ n8_ n9_ n10_ n11_ n12_
   (try clear hb)
   (try clear hb2)
   (try clear hk)
   (try clear hi)
   (try clear ho0)
   obtain ⟨Ao186, co186, eo186⟩ := Kd.R_slice HO199.out
   (first | subst eo186 | (injection eo186 with f1_ f2_ f3_; have f4_ := f1_.symm; have f5_ := f3_.symm; clear f1_ f2_ f3_; subst f4_; subst f5_))
   obtain ⟨Ao187, co187, eo187⟩ := Kd.R_slice HO202.out
   (first | subst eo187 | (injection eo187 with f1_ f2_ f3_; have f4_ := f1_.symm; have f5_ := f3_.symm; clear f1_ f2_ f3_; subst f4_; subst f5_))
   refine hK.out _ _ ⟨(blk_cell BK152.out 0).trans rfl, (blk_cell BK153.out 0).trans rfl⟩ (fun hHeld => ?_)
   clear hK K
   refine norm_ (a' := ?_) ?_ ?_
   rotate_left
   ·
    show Act.put _ (some 98) _ = _
    simp only [Act.put, List.setIfInBounds_toArray, List.set_cons_zero, List.set_cons_succ, i64_w, i32_w]
    rfl
   refine two_ (i := 4) (j := 8) (Ni := some 99) (Nj := some 15) #[true, true, true, true, true, false, false, false, false, false, false] #[true, true, true, true, false, false, false, false, true, false, false] rfl rfl rfl rfl (two_of HT_.out (by kernel_rfl)) (by decide) (by decide) (fun K hK => ?_) (fun K hK => ?_)
   ·
    skip
    refine goes_ Try.func12 (by kernel_rfl) rfl #[.agg #[.slice Ao186 t197.length co186], .agg #[.slice Ao187 t200.length co187]] (by rfl) rfl rfl (by (try simp only [List.map_toArray, List.map_cons, List.map_nil]); first | done | rfl | (simp only [List.length_drop, List.length_take]; rfl)) ?_
    with_reducible refine (impl_SketchJoin.calls kj106 _ _ t197 _ _ t200 t203 t206 _ ?side1 ?side2 ?side3 ?side4 A172.out).mono ?_
    (case side1 => repeat (first | exact (Kd.R_reads' HO199.out).2.2 | (with_reducible refine Kd.C_alloc ?_ _) | (with_reducible refine Kd.C_drewN ?_ _) | (with_reducible refine Kd.C_drew ?_)))
    (case side2 => exact (Kd.R_reads' HO199.out).2.1)
    (case side3 => repeat (first | exact (Kd.R_reads' HO202.out).2.2 | (with_reducible refine Kd.C_alloc ?_ _) | (with_reducible refine Kd.C_drewN ?_ _) | (with_reducible refine Kd.C_drew ?_)))
    (case side4 => exact (Kd.R_reads' HO202.out).2.1)
    rintro e w188 ⟨v204, rfl, ho0, hb⟩
    refine ⟨_, rfl, ?_⟩
    have n0_ := Aside0.mk (Kd.R_elder' (by (with_reducible repeat (first | apply Kd.R_alloc | apply Kd.R_drewN | apply Kd.R_drew)); exact HO_167000.out) (Kd.R_base ho0) hb)
    have n1_ := Aside0.mk (Kd.R_elder' (by (with_reducible repeat (first | apply Kd.R_alloc | apply Kd.R_drewN | apply Kd.R_drew)); exact HO_171000.out) (Kd.R_base ho0) hb)
    have n2_ := Aside0.mk (Kd.R_elder' (by (with_reducible repeat (first | apply Kd.R_alloc | apply Kd.R_drewN | apply Kd.R_drew)); exact HO_175000.out) (Kd.R_base ho0) hb)
    have n3_ := Aside0.mk (Kd.R_elder' (by (with_reducible repeat (first | apply Kd.R_alloc | apply Kd.R_drewN | apply Kd.R_drew)); exact HO_180000.out) (Kd.R_base ho0) hb)
    have n4_ := Aside0.mk (Kd.R_elder' (by (with_reducible repeat (first | apply Kd.R_alloc | apply Kd.R_drewN | apply Kd.R_drew)); exact HO199.out) (Kd.R_base ho0) hb)
    have n5_ := Aside0.mk (Kd.R_elder' (by (with_reducible repeat (first | apply Kd.R_alloc | apply Kd.R_drewN | apply Kd.R_drew)); exact HO202.out) (Kd.R_base ho0) hb)
    have n6_ := Aside0.mk (Kd.R_lower (Kd.R_new' (Kd.R_new' (Kd.R_new' (Kd.R_new' (Kd.R_new' (Kd.R_new' ho0 (Kd.R_lt (by (with_reducible repeat (first | apply Kd.R_alloc | apply Kd.R_drewN | apply Kd.R_drew)); exact HO_167000.out))) (Kd.R_lt (by (with_reducible repeat (first | apply Kd.R_alloc | apply Kd.R_drewN | apply Kd.R_drew)); exact HO_171000.out))) (Kd.R_lt (by (with_reducible repeat (first | apply Kd.R_alloc | apply Kd.R_drewN | apply Kd.R_drew)); exact HO_175000.out))) (Kd.R_lt (by (with_reducible repeat (first | apply Kd.R_alloc | apply Kd.R_drewN | apply Kd.R_drew)); exact HO_180000.out))) (Kd.R_lt (by (with_reducible repeat (first | apply Kd.R_alloc | apply Kd.R_drewN | apply Kd.R_drew)); exact HO199.out))) (Kd.R_lt (by (with_reducible repeat (first | apply Kd.R_alloc | apply Kd.R_drewN | apply Kd.R_drew)); exact HO202.out))) (below_size (by repeat (first | (with_reducible first | exact HB.out | apply below_alloc | apply pw_below_drewN | apply below_drew1 | refine below_set ?_ GE152.out | refine below_set ?_ GE153.out | refine below_set ?_ GE166.out | refine below_set ?_ GE170.out | refine below_set ?_ GE174.out | refine below_set ?_ GE179.out) | exact HB.out))))
    have n7_ := Aside0.mk (blk_below (g := gb152) (o := .cells #[.slice A0_0 l0_0.length c0_0] 24 (0, 0)) (by (with_reducible repeat (first | refine blk_drewN ?_ _ | refine blk_drew ?_ | refine blk_alloc ?_ _)); exact BK152.out) hb)
    have n8_ := Aside0.mk (blk_below (g := gb153) (o := .cells #[.slice A1_0 l1_0.length c1_0] 24 (0, 0)) (by (with_reducible repeat (first | refine blk_drewN ?_ _ | refine blk_drew ?_ | refine blk_alloc ?_ _)); exact BK153.out) hb)
    have n9_ := Aside0.mk (blk_below (g := gb166) (o := .cells #[.slice Ao41 t162.length co41] 26 (0, 0)) (by (with_reducible repeat (first | refine blk_drewN ?_ _ | refine blk_drew ?_ | refine blk_alloc ?_ _)); exact BK166.out) hb)
    have n10_ := Aside0.mk (blk_below (g := gb170) (o := .cells #[.slice Ao47 t190.length co47] 26 (0, 0)) (by (with_reducible repeat (first | refine blk_drewN ?_ _ | refine blk_drew ?_ | refine blk_alloc ?_ _)); exact BK170.out) hb)
    have n11_ := Aside0.mk (blk_below (g := gb174) (o := .cells #[.slice Ao56 t192.length co56] 26 (0, 0)) (by (with_reducible repeat (first | refine blk_drewN ?_ _ | refine blk_drew ?_ | refine blk_alloc ?_ _)); exact BK174.out) hb)
    have n12_ := Aside0.mk (blk_below (g := gb179) (o := .cells #[.slice Ao65 t175.length co65] 26 (0, 0)) (by (with_reducible repeat (first | refine blk_drewN ?_ _ | refine blk_drew ?_ | refine blk_alloc ?_ _)); exact BK179.out) hb)
    have n13_ := Aside0.mk (below_step (by repeat (first | (with_reducible first | exact HB.out | apply below_alloc | apply pw_below_drewN | apply below_drew1 | refine below_set ?_ GE152.out | refine below_set ?_ GE153.out | refine below_set ?_ GE166.out | refine below_set ?_ GE170.out | refine below_set ?_ GE174.out | refine below_set ?_ GE179.out) | exact HB.out)) hb)
    clear HO_167000
    clear HO_171000
    clear HO_175000
    clear HO_180000
    clear HO199
    clear HO202
    clear BK152
    clear BK153
    clear BK166
    clear BK170
    clear BK174
    clear BK179
    clear HB
    have HO_167000 := n0_
    have HO_171000 := n1_
    have HO_175000 := n2_
    have HO_180000 := n3_
    have HO199 := n4_
    have HO202 := n5_
    have HO205 := n6_
    have BK152 := n7_
    have BK153 := n8_
    have BK166 := n9_
    have BK170 := n10_
    have BK174 := n11_
    have BK179 := n12_
    have HB := n13_
    clear n0_ n1_ n2_ n3_ n4_ n5_ n6_ n7_ n8_ n9_ n10_ n11_ n12_ n13_
    (try clear hb)
    (try clear hb2)
    (try clear hk)
    (try clear hi)
    (try clear ho0)
    refine hK.out _ _ ⟨(blk_cell BK152.out 0).trans rfl, (blk_cell BK153.out 0).trans rfl⟩ (fun hHeld => ?_)
    clear hK K
    refine norm_ (a' := ?_) ?_ ?_
    rotate_left
    ·
     show Act.put _ (some 99) _ = _
     simp only [Act.put, List.setIfInBounds_toArray, List.set_cons_zero, List.set_cons_succ, i64_w, i32_w]
     rfl
    refine pure_ (i := 5) (N := some 94) (v := ?_) (a' := ?_) #[true, true, true, true, true, true, false, false, false, false, false] rfl rfl (any_of HT_.out (by kernel_rfl)) (fun _ _ _ h => h) (Or.inl ⟨by rfl, ?_⟩) ?_ ?_
    rotate_left
    ·
     intro w'
     go_simp
     with_reducible rfl
    rotate_left
    ·
     simp only [Act.put, List.setIfInBounds_toArray, List.set_cons_zero, List.set_cons_succ, i64_w, i32_w]
     rfl
    refine pure_ (i := 6) (N := some 100) (v := ?_) (a' := ?_) #[true, true, true, true, true, true, true, false, false, false, false] rfl rfl (any_of HT_.out (by kernel_rfl)) (fun _ _ _ h => h) (Or.inl ⟨by rfl, ?_⟩) ?_ ?_
    rotate_left
    ·
     intro w'
     go_simp
     with_reducible rfl
    rotate_left
    ·
     simp only [Act.put, List.setIfInBounds_toArray, List.set_cons_zero, List.set_cons_succ, i64_w, i32_w]
     rfl
    refine pure_ (i := 7) (N := some 101) (v := ?_) (a' := ?_) #[true, true, true, true, true, true, true, true, false, false, false] rfl rfl (any_of HT_.out (by kernel_rfl)) (fun _ _ _ h => h) (Or.inl ⟨by rfl, ?_⟩) ?_ ?_
    rotate_left
    ·
     intro w'
     go_simp
     with_reducible rfl
    rotate_left
    ·
     simp only [Act.put, List.setIfInBounds_toArray, List.set_cons_zero, List.set_cons_succ, i64_w, i32_w]
     rfl
    refine one_ (i := 8) (N := some 15) #[true, true, true, true, true, true, true, true, true, false, false] rfl rfl (one_of HT_.out (by kernel_rfl)) (by decide) (fun K hK => ?_)
    refine box_step ?hg (N := 15) ?hd (cs := #[.slice none 0 0]) (t := 26) ?hr ?_; (case hd => rfl); (case hg => rfl); (case hr => first | (go_simp; done) | (go_simp; rfl))
    intro gb207 hg w189 hbox hb
    have n0_ := Aside0.mk (Kd.R_below (by (with_reducible repeat (first | apply Kd.R_alloc | apply Kd.R_drewN | apply Kd.R_drew)); exact HO_167000.out) hb)
    have n1_ := Aside0.mk (Kd.R_below (by (with_reducible repeat (first | apply Kd.R_alloc | apply Kd.R_drewN | apply Kd.R_drew)); exact HO_171000.out) hb)
    have n2_ := Aside0.mk (Kd.R_below (by (with_reducible repeat (first | apply Kd.R_alloc | apply Kd.R_drewN | apply Kd.R_drew)); exact HO_175000.out) hb)
    have n3_ := Aside0.mk (Kd.R_below (by (with_reducible repeat (first | apply Kd.R_alloc | apply Kd.R_drewN | apply Kd.R_drew)); exact HO_180000.out) hb)
    have n4_ := Aside0.mk (Kd.R_below (by (with_reducible repeat (first | apply Kd.R_alloc | apply Kd.R_drewN | apply Kd.R_drew)); exact HO199.out) hb)
    have n5_ := Aside0.mk (Kd.R_below (by (with_reducible repeat (first | apply Kd.R_alloc | apply Kd.R_drewN | apply Kd.R_drew)); exact HO202.out) hb)
    have n6_ := Aside0.mk (Kd.R_below (by (with_reducible repeat (first | apply Kd.R_alloc | apply Kd.R_drewN | apply Kd.R_drew)); exact HO205.out) hb)
    have n7_ := Aside0.mk (blk_below (g := gb152) (o := .cells #[.slice A0_0 l0_0.length c0_0] 24 (0, 0)) (by (with_reducible repeat (first | refine blk_drewN ?_ _ | refine blk_drew ?_ | refine blk_alloc ?_ _)); exact BK152.out) hb)
    have n8_ := Aside0.mk (blk_below (g := gb153) (o := .cells #[.slice A1_0 l1_0.length c1_0] 24 (0, 0)) (by (with_reducible repeat (first | refine blk_drewN ?_ _ | refine blk_drew ?_ | refine blk_alloc ?_ _)); exact BK153.out) hb)
    have n9_ := Aside0.mk (blk_below (g := gb166) (o := .cells #[.slice Ao41 t162.length co41] 26 (0, 0)) (by (with_reducible repeat (first | refine blk_drewN ?_ _ | refine blk_drew ?_ | refine blk_alloc ?_ _)); exact BK166.out) hb)
    have n10_ := Aside0.mk (blk_below (g := gb170) (o := .cells #[.slice Ao47 t190.length co47] 26 (0, 0)) (by (with_reducible repeat (first | refine blk_drewN ?_ _ | refine blk_drew ?_ | refine blk_alloc ?_ _)); exact BK170.out) hb)
    have n11_ := Aside0.mk (blk_below (g := gb174) (o := .cells #[.slice Ao56 t192.length co56] 26 (0, 0)) (by (with_reducible repeat (first | refine blk_drewN ?_ _ | refine blk_drew ?_ | refine blk_alloc ?_ _)); exact BK174.out) hb)
    have n12_ := Aside0.mk (blk_below (g := gb179) (o := .cells #[.slice Ao65 t175.length co65] 26 (0, 0)) (by (with_reducible repeat (first | refine blk_drewN ?_ _ | refine blk_drew ?_ | refine blk_alloc ?_ _)); exact BK179.out) hb)
    have n13_ := Aside0.mk (below_step (by repeat (first | (with_reducible first | exact HB.out | apply below_alloc | apply pw_below_drewN | apply below_drew1 | refine below_set ?_ GE152.out | refine below_set ?_ GE153.out | refine below_set ?_ GE166.out | refine below_set ?_ GE170.out | refine below_set ?_ GE174.out | refine below_set ?_ GE179.out) | exact HB.out)) hb)
    have n14_ := Aside0.mk (hbox)
    have n15_ := Aside0.mk ((by rw [hg]; exact (below_size (by repeat (first | (with_reducible first | exact HB.out | apply below_alloc | apply pw_below_drewN | apply below_drew1 | refine below_set ?_ GE152.out | refine below_set ?_ GE153.out | refine below_set ?_ GE166.out | refine below_set ?_ GE170.out | refine below_set ?_ GE174.out | refine below_set ?_ GE179.out) | exact HB.out))) : w.heap.size ≤ gb207))
    have n16_ := Aside0.mk ((by rw [hg]; exact (below_size (by repeat (first | (with_reducible first | exact HB.out | apply below_alloc | apply pw_below_drewN | apply below_drew1 | refine below_set ?_ GE152.out | refine below_set ?_ GE153.out | refine below_set ?_ GE166.out | refine below_set ?_ GE170.out | refine below_set ?_ GE174.out | refine below_set ?_ GE179.out) | exact HB.out))) : w.heap.size ≤ gb207))
    have n17_ := Aside0.mk ((by rw [hg]; exact Nat.ne_of_lt (blk_lt (g := gb152) (o := .cells #[.slice A0_0 l0_0.length c0_0] 24 (0, 0)) (by (with_reducible repeat (first | refine blk_drewN ?_ _ | refine blk_drew ?_ | refine blk_alloc ?_ _)); exact BK152.out)) : gb152 ≠ gb207))
    have n18_ := Aside0.mk ((by rw [hg]; exact Nat.ne_of_gt (blk_lt (g := gb152) (o := .cells #[.slice A0_0 l0_0.length c0_0] 24 (0, 0)) (by (with_reducible repeat (first | refine blk_drewN ?_ _ | refine blk_drew ?_ | refine blk_alloc ?_ _)); exact BK152.out)) : gb207 ≠ gb152))
    have n19_ := Aside0.mk ((by rw [hg]; exact Nat.ne_of_lt (blk_lt (g := gb153) (o := .cells #[.slice A1_0 l1_0.length c1_0] 24 (0, 0)) (by (with_reducible repeat (first | refine blk_drewN ?_ _ | refine blk_drew ?_ | refine blk_alloc ?_ _)); exact BK153.out)) : gb153 ≠ gb207))
    have n20_ := Aside0.mk ((by rw [hg]; exact Nat.ne_of_gt (blk_lt (g := gb153) (o := .cells #[.slice A1_0 l1_0.length c1_0] 24 (0, 0)) (by (with_reducible repeat (first | refine blk_drewN ?_ _ | refine blk_drew ?_ | refine blk_alloc ?_ _)); exact BK153.out)) : gb207 ≠ gb153))
    have n21_ := Aside0.mk ((by rw [hg]; exact Nat.ne_of_lt (blk_lt (g := gb166) (o := .cells #[.slice Ao41 t162.length co41] 26 (0, 0)) (by (with_reducible repeat (first | refine blk_drewN ?_ _ | refine blk_drew ?_ | refine blk_alloc ?_ _)); exact BK166.out)) : gb166 ≠ gb207))
    have n22_ := Aside0.mk ((by rw [hg]; exact Nat.ne_of_gt (blk_lt (g := gb166) (o := .cells #[.slice Ao41 t162.length co41] 26 (0, 0)) (by (with_reducible repeat (first | refine blk_drewN ?_ _ | refine blk_drew ?_ | refine blk_alloc ?_ _)); exact BK166.out)) : gb207 ≠ gb166))
    have n23_ := Aside0.mk ((by rw [hg]; exact Nat.ne_of_lt (blk_lt (g := gb170) (o := .cells #[.slice Ao47 t190.length co47] 26 (0, 0)) (by (with_reducible repeat (first | refine blk_drewN ?_ _ | refine blk_drew ?_ | refine blk_alloc ?_ _)); exact BK170.out)) : gb170 ≠ gb207))
    have n24_ := Aside0.mk ((by rw [hg]; exact Nat.ne_of_gt (blk_lt (g := gb170) (o := .cells #[.slice Ao47 t190.length co47] 26 (0, 0)) (by (with_reducible repeat (first | refine blk_drewN ?_ _ | refine blk_drew ?_ | refine blk_alloc ?_ _)); exact BK170.out)) : gb207 ≠ gb170))
    have n25_ := Aside0.mk ((by rw [hg]; exact Nat.ne_of_lt (blk_lt (g := gb174) (o := .cells #[.slice Ao56 t192.length co56] 26 (0, 0)) (by (with_reducible repeat (first | refine blk_drewN ?_ _ | refine blk_drew ?_ | refine blk_alloc ?_ _)); exact BK174.out)) : gb174 ≠ gb207))
    have n26_ := Aside0.mk ((by rw [hg]; exact Nat.ne_of_gt (blk_lt (g := gb174) (o := .cells #[.slice Ao56 t192.length co56] 26 (0, 0)) (by (with_reducible repeat (first | refine blk_drewN ?_ _ | refine blk_drew ?_ | refine blk_alloc ?_ _)); exact BK174.out)) : gb207 ≠ gb174))
    have n27_ := Aside0.mk ((by rw [hg]; exact Nat.ne_of_lt (blk_lt (g := gb179) (o := .cells #[.slice Ao65 t175.length co65] 26 (0, 0)) (by (with_reducible repeat (first | refine blk_drewN ?_ _ | refine blk_drew ?_ | refine blk_alloc ?_ _)); exact BK179.out)) : gb179 ≠ gb207))
    have n28_ := Aside0.mk ((by rw [hg]; exact Nat.ne_of_gt (blk_lt (g := gb179) (o := .cells #[.slice Ao65 t175.length co65] 26 (0, 0)) (by (with_reducible repeat (first | refine blk_drewN ?_ _ | refine blk_drew ?_ | refine blk_alloc ?_ _)); exact BK179.out)) : gb207 ≠ gb179))
    clear HO_167000
    clear HO_171000
    clear HO_175000
    clear HO_180000
    clear HO199
    clear HO202
    clear HO205
    clear BK152
    clear BK153
    clear BK166
    clear BK170
    clear BK174
    clear BK179
    clear HB
    have HO_167000 := n0_
    have HO_171000 := n1_
    have HO_175000 := n2_
    have HO_180000 := n3_
    have HO199 := n4_
    have HO202 := n5_
    have HO205 := n6_
    have BK152 := n7_
    have BK153 := n8_
    have BK166 := n9_
    have BK170 := n10_
    have BK174 := n11_
    have BK179 := n12_
    have HB := n13_
    have BK207 := n14_
    have GW207 := n15_
    have GE207 := n16_
    have NB152_207 := n17_
    have NB207_152 := n18_
    have NB153_207 := n19_
    have NB207_153 := n20_
    have NB166_207 := n21_
    have NB207_166 := n22_
    have NB170_207 := n23_
    have NB207_170 := n24_
    have NB174_207 := n25_
    have NB207_174 := n26_
    have NB179_207 := n27_
    have NB207_179 := n28_
    clear n0_ n1_ n2_ n3_ n4_ n5_ n6_ n7_ n8_ n9_ n10_ n11_ n12_ n13_ n14_ n15_ n16_ n17_ n18_ n19_ n20_ n21_ n22_ n23_ n24_ n25_ n26_ n27_ n28_
    clear hb hbox hg
    refine hK.out _ _ ⟨(blk_cell BK152.out 0).trans rfl, (blk_cell BK153.out 0).trans rfl⟩ (fun hHeld => ?_)
    clear hK K
    refine norm_ (a' := ?_) ?_ ?_
    rotate_left
    ·
     show Act.put _ (some 15) _ = _
     simp only [Act.put, List.setIfInBounds_toArray, List.set_cons_zero, List.set_cons_succ, i64_w, i32_w]
     rfl
    exact norm_ (by simp only [putAll, Act.put, List.setIfInBounds_toArray, List.set_cons_zero, List.set_cons_succ]) (hCont (.slice Ao186 t197.length co186, .slice Ao187 t200.length co187, v204, gb207) _ ⟨hHeld, (by (with_reducible repeat (first | apply Kd.R_alloc | apply Kd.R_drewN | apply Kd.R_drew)); exact Kd.R_mono HO199.out (fun _ hk => ⟨hk.1.2, ⟨hk.2, ⟨hk.1.1.1.1.1.2, ⟨hk.1.1.1.1.2, ⟨hk.1.1.1.2, hk.1.1.2⟩⟩⟩⟩⟩)), (by (with_reducible repeat (first | apply Kd.R_alloc | apply Kd.R_drewN | apply Kd.R_drew)); exact Kd.R_mono HO202.out (fun _ hk => ⟨hk.1.2, ⟨hk.2, ⟨hk.1.1.1.1.1.2, ⟨hk.1.1.1.1.2, ⟨hk.1.1.1.2, hk.1.1.2⟩⟩⟩⟩⟩)), (by (with_reducible repeat (first | apply Kd.R_alloc | apply Kd.R_drewN | apply Kd.R_drew)); exact Kd.R_mono HO205.out (fun _ hk => ⟨hk.1.2, ⟨hk.2, ⟨hk.1.1.1.1.1.2, ⟨hk.1.1.1.1.2, ⟨hk.1.1.1.2, hk.1.1.2⟩⟩⟩⟩⟩)), (by (with_reducible repeat (first | apply Kd.R_alloc | apply Kd.R_drewN | apply Kd.R_drew)); exact Kd.R_mono HO_167000.out (fun _ hk => ⟨hk.1.1.2, ⟨hk.1.2, ⟨hk.2, ⟨hk.1.1.1.1, ⟨hk.1.1.1.2.1, hk.1.1.1.2.2⟩⟩⟩⟩⟩)), (by (with_reducible repeat (first | apply Kd.R_alloc | apply Kd.R_drewN | apply Kd.R_drew)); exact Kd.R_mono HO_171000.out (fun _ hk => ⟨hk.1.1.2, ⟨hk.1.2, ⟨hk.2, ⟨hk.1.1.1.1, ⟨hk.1.1.1.2.1, hk.1.1.1.2.2⟩⟩⟩⟩⟩)), (by (with_reducible repeat (first | apply Kd.R_alloc | apply Kd.R_drewN | apply Kd.R_drew)); exact Kd.R_mono HO_175000.out (fun _ hk => ⟨hk.1.1.2, ⟨hk.1.2, ⟨hk.2, ⟨hk.1.1.1.1, ⟨hk.1.1.1.2.1, hk.1.1.1.2.2⟩⟩⟩⟩⟩)), (by (with_reducible repeat (first | apply Kd.R_alloc | apply Kd.R_drewN | apply Kd.R_drew)); exact Kd.R_mono HO_180000.out (fun _ hk => ⟨hk.1.1.2, ⟨hk.1.2, ⟨hk.2, ⟨hk.1.1.1.1, ⟨hk.1.1.1.2.1, hk.1.1.1.2.2⟩⟩⟩⟩⟩)), (by (with_reducible repeat (first | refine blk_drewN ?_ _ | refine blk_drew ?_ | refine blk_alloc ?_ _)); exact BK152.out), (by (with_reducible repeat (first | refine blk_drewN ?_ _ | refine blk_drew ?_ | refine blk_alloc ?_ _)); exact BK153.out), (by (with_reducible repeat (first | refine blk_drewN ?_ _ | refine blk_drew ?_ | refine blk_alloc ?_ _)); exact BK166.out), (by (with_reducible repeat (first | refine blk_drewN ?_ _ | refine blk_drew ?_ | refine blk_alloc ?_ _)); exact BK170.out), (by (with_reducible repeat (first | refine blk_drewN ?_ _ | refine blk_drew ?_ | refine blk_alloc ?_ _)); exact BK174.out), (by (with_reducible repeat (first | refine blk_drewN ?_ _ | refine blk_drew ?_ | refine blk_alloc ?_ _)); exact BK179.out), (by (with_reducible repeat (first | refine blk_drewN ?_ _ | refine blk_drew ?_ | refine blk_alloc ?_ _)); exact BK207.out), GW207.out, GE207.out, NB152_207.out, NB207_152.out, NB153_207.out, NB207_153.out, NB166_207.out, NB207_166.out, NB170_207.out, NB207_170.out, NB174_207.out, NB207_174.out, NB179_207.out, NB207_179.out, (by repeat (first | (with_reducible first | exact HB.out | apply below_alloc | apply pw_below_drewN | apply below_drew1 | refine below_set ?_ GE152.out | refine below_set ?_ GE153.out | refine below_set ?_ GE166.out | refine below_set ?_ GE170.out | refine below_set ?_ GE174.out | refine below_set ?_ GE179.out | refine below_set ?_ GE207.out) | exact HB.out))⟩)
   ·
    skip
    refine box_step ?hg (N := 15) ?hd (cs := #[.slice none 0 0]) (t := 26) ?hr ?_; (case hd => rfl); (case hg => rfl); (case hr => first | (go_simp; done) | (go_simp; rfl))
    intro gb207 hg w186 hbox hb
    have n0_ := Aside0.mk (Kd.R_below (by (with_reducible repeat (first | apply Kd.R_alloc | apply Kd.R_drewN | apply Kd.R_drew)); exact HO_167000.out) hb)
    have n1_ := Aside0.mk (Kd.R_below (by (with_reducible repeat (first | apply Kd.R_alloc | apply Kd.R_drewN | apply Kd.R_drew)); exact HO_171000.out) hb)
    have n2_ := Aside0.mk (Kd.R_below (by (with_reducible repeat (first | apply Kd.R_alloc | apply Kd.R_drewN | apply Kd.R_drew)); exact HO_175000.out) hb)
    have n3_ := Aside0.mk (Kd.R_below (by (with_reducible repeat (first | apply Kd.R_alloc | apply Kd.R_drewN | apply Kd.R_drew)); exact HO_180000.out) hb)
    have n4_ := Aside0.mk (Kd.R_below (by (with_reducible repeat (first | apply Kd.R_alloc | apply Kd.R_drewN | apply Kd.R_drew)); exact HO199.out) hb)
    have n5_ := Aside0.mk (Kd.R_below (by (with_reducible repeat (first | apply Kd.R_alloc | apply Kd.R_drewN | apply Kd.R_drew)); exact HO202.out) hb)
    have n6_ := Aside0.mk (blk_below (g := gb152) (o := .cells #[.slice A0_0 l0_0.length c0_0] 24 (0, 0)) (by (with_reducible repeat (first | refine blk_drewN ?_ _ | refine blk_drew ?_ | refine blk_alloc ?_ _)); exact BK152.out) hb)
    have n7_ := Aside0.mk (blk_below (g := gb153) (o := .cells #[.slice A1_0 l1_0.length c1_0] 24 (0, 0)) (by (with_reducible repeat (first | refine blk_drewN ?_ _ | refine blk_drew ?_ | refine blk_alloc ?_ _)); exact BK153.out) hb)
    have n8_ := Aside0.mk (blk_below (g := gb166) (o := .cells #[.slice Ao41 t162.length co41] 26 (0, 0)) (by (with_reducible repeat (first | refine blk_drewN ?_ _ | refine blk_drew ?_ | refine blk_alloc ?_ _)); exact BK166.out) hb)
    have n9_ := Aside0.mk (blk_below (g := gb170) (o := .cells #[.slice Ao47 t190.length co47] 26 (0, 0)) (by (with_reducible repeat (first | refine blk_drewN ?_ _ | refine blk_drew ?_ | refine blk_alloc ?_ _)); exact BK170.out) hb)
    have n10_ := Aside0.mk (blk_below (g := gb174) (o := .cells #[.slice Ao56 t192.length co56] 26 (0, 0)) (by (with_reducible repeat (first | refine blk_drewN ?_ _ | refine blk_drew ?_ | refine blk_alloc ?_ _)); exact BK174.out) hb)
    have n11_ := Aside0.mk (blk_below (g := gb179) (o := .cells #[.slice Ao65 t175.length co65] 26 (0, 0)) (by (with_reducible repeat (first | refine blk_drewN ?_ _ | refine blk_drew ?_ | refine blk_alloc ?_ _)); exact BK179.out) hb)
    have n12_ := Aside0.mk (below_step (by repeat (first | (with_reducible first | exact HB.out | apply below_alloc | apply pw_below_drewN | apply below_drew1 | refine below_set ?_ GE152.out | refine below_set ?_ GE153.out | refine below_set ?_ GE166.out | refine below_set ?_ GE170.out | refine below_set ?_ GE174.out | refine below_set ?_ GE179.out) | exact HB.out)) hb)
    have n13_ := Aside0.mk (hbox)
    have n14_ := Aside0.mk ((by rw [hg]; exact (below_size (by repeat (first | (with_reducible first | exact HB.out | apply below_alloc | apply pw_below_drewN | apply below_drew1 | refine below_set ?_ GE152.out | refine below_set ?_ GE153.out | refine below_set ?_ GE166.out | refine below_set ?_ GE170.out | refine below_set ?_ GE174.out | refine below_set ?_ GE179.out) | exact HB.out))) : w.heap.size ≤ gb207))
    have n15_ := Aside0.mk ((by rw [hg]; exact (below_size (by repeat (first | (with_reducible first | exact HB.out | apply below_alloc | apply pw_below_drewN | apply below_drew1 | refine below_set ?_ GE152.out | refine below_set ?_ GE153.out | refine below_set ?_ GE166.out | refine below_set ?_ GE170.out | refine below_set ?_ GE174.out | refine below_set ?_ GE179.out) | exact HB.out))) : w.heap.size ≤ gb207))
    have n16_ := Aside0.mk ((by rw [hg]; exact Nat.ne_of_lt (blk_lt (g := gb152) (o := .cells #[.slice A0_0 l0_0.length c0_0] 24 (0, 0)) (by (with_reducible repeat (first | refine blk_drewN ?_ _ | refine blk_drew ?_ | refine blk_alloc ?_ _)); exact BK152.out)) : gb152 ≠ gb207))
    have n17_ := Aside0.mk ((by rw [hg]; exact Nat.ne_of_gt (blk_lt (g := gb152) (o := .cells #[.slice A0_0 l0_0.length c0_0] 24 (0, 0)) (by (with_reducible repeat (first | refine blk_drewN ?_ _ | refine blk_drew ?_ | refine blk_alloc ?_ _)); exact BK152.out)) : gb207 ≠ gb152))
    have n18_ := Aside0.mk ((by rw [hg]; exact Nat.ne_of_lt (blk_lt (g := gb153) (o := .cells #[.slice A1_0 l1_0.length c1_0] 24 (0, 0)) (by (with_reducible repeat (first | refine blk_drewN ?_ _ | refine blk_drew ?_ | refine blk_alloc ?_ _)); exact BK153.out)) : gb153 ≠ gb207))
    have n19_ := Aside0.mk ((by rw [hg]; exact Nat.ne_of_gt (blk_lt (g := gb153) (o := .cells #[.slice A1_0 l1_0.length c1_0] 24 (0, 0)) (by (with_reducible repeat (first | refine blk_drewN ?_ _ | refine blk_drew ?_ | refine blk_alloc ?_ _)); exact BK153.out)) : gb207 ≠ gb153))
    have n20_ := Aside0.mk ((by rw [hg]; exact Nat.ne_of_lt (blk_lt (g := gb166) (o := .cells #[.slice Ao41 t162.length co41] 26 (0, 0)) (by (with_reducible repeat (first | refine blk_drewN ?_ _ | refine blk_drew ?_ | refine blk_alloc ?_ _)); exact BK166.out)) : gb166 ≠ gb207))
    have n21_ := Aside0.mk ((by rw [hg]; exact Nat.ne_of_gt (blk_lt (g := gb166) (o := .cells #[.slice Ao41 t162.length co41] 26 (0, 0)) (by (with_reducible repeat (first | refine blk_drewN ?_ _ | refine blk_drew ?_ | refine blk_alloc ?_ _)); exact BK166.out)) : gb207 ≠ gb166))
    have n22_ := Aside0.mk ((by rw [hg]; exact Nat.ne_of_lt (blk_lt (g := gb170) (o := .cells #[.slice Ao47 t190.length co47] 26 (0, 0)) (by (with_reducible repeat (first | refine blk_drewN ?_ _ | refine blk_drew ?_ | refine blk_alloc ?_ _)); exact BK170.out)) : gb170 ≠ gb207))
    have n23_ := Aside0.mk ((by rw [hg]; exact Nat.ne_of_gt (blk_lt (g := gb170) (o := .cells #[.slice Ao47 t190.length co47] 26 (0, 0)) (by (with_reducible repeat (first | refine blk_drewN ?_ _ | refine blk_drew ?_ | refine blk_alloc ?_ _)); exact BK170.out)) : gb207 ≠ gb170))
    have n24_ := Aside0.mk ((by rw [hg]; exact Nat.ne_of_lt (blk_lt (g := gb174) (o := .cells #[.slice Ao56 t192.length co56] 26 (0, 0)) (by (with_reducible repeat (first | refine blk_drewN ?_ _ | refine blk_drew ?_ | refine blk_alloc ?_ _)); exact BK174.out)) : gb174 ≠ gb207))
    have n25_ := Aside0.mk ((by rw [hg]; exact Nat.ne_of_gt (blk_lt (g := gb174) (o := .cells #[.slice Ao56 t192.length co56] 26 (0, 0)) (by (with_reducible repeat (first | refine blk_drewN ?_ _ | refine blk_drew ?_ | refine blk_alloc ?_ _)); exact BK174.out)) : gb207 ≠ gb174))
    have n26_ := Aside0.mk ((by rw [hg]; exact Nat.ne_of_lt (blk_lt (g := gb179) (o := .cells #[.slice Ao65 t175.length co65] 26 (0, 0)) (by (with_reducible repeat (first | refine blk_drewN ?_ _ | refine blk_drew ?_ | refine blk_alloc ?_ _)); exact BK179.out)) : gb179 ≠ gb207))
    have n27_ := Aside0.mk ((by rw [hg]; exact Nat.ne_of_gt (blk_lt (g := gb179) (o := .cells #[.slice Ao65 t175.length co65] 26 (0, 0)) (by (with_reducible repeat (first | refine blk_drewN ?_ _ | refine blk_drew ?_ | refine blk_alloc ?_ _)); exact BK179.out)) : gb207 ≠ gb179))
    clear HO_167000
    clear HO_171000
    clear HO_175000
    clear HO_180000
    clear HO199
    clear HO202
    clear BK152
    clear BK153
    clear BK166
    clear BK170
    clear BK174
    clear BK179
    clear HB
    have HO_167000 := n0_
    have HO_171000 := n1_
    have HO_175000 := n2_
    have HO_180000 := n3_
    have HO199 := n4_
    have HO202 := n5_
    have BK152 := n6_
    have BK153 := n7_
    have BK166 := n8_
    have BK170 := n9_
    have BK174 := n10_
    have BK179 := n11_
    have HB := n12_
    have BK207 := n13_
    have GW207 := n14_
    have GE207 := n15_
    have NB152_207 := n16_
    have NB207_152 := n17_
    have NB153_207 := n18_
    have NB207_153 := n19_
    have NB166_207 := n20_
    have NB207_166 := n21_
    have NB170_207 := n22_
    have NB207_170 := n23_
    have NB174_207 := n24_
    have NB207_174 := n25_
    have NB179_207 := n26_
    have NB207_179 := n27_
    clear n0_ n1_ n2_ n3_ n4_ n5_ n6_ n7_ n8_ n9_ n10_ n11_ n12_ n13_ n14_ n15_ n16_ n17_ n18_ n19_ n20_ n21_ n22_ n23_ n24_ n25_ n26_ n27_
    clear hb hbox hg
    obtain ⟨Ao187, co187, eo187⟩ := Kd.R_slice HO199.out
    (first | subst eo187 | (injection eo187 with f1_ f2_ f3_; have f4_ := f1_.symm; have f5_ := f3_.symm; clear f1_ f2_ f3_; subst f4_; subst f5_))
    obtain ⟨Ao188, co188, eo188⟩ := Kd.R_slice HO202.out
    (first | subst eo188 | (injection eo188 with f1_ f2_ f3_; have f4_ := f1_.symm; have f5_ := f3_.symm; clear f1_ f2_ f3_; subst f4_; subst f5_))
    refine hK.out _ _ ⟨(blk_cell BK152.out 0).trans rfl, (blk_cell BK153.out 0).trans rfl⟩ (fun hHeld => ?_)
    clear hK K
    refine norm_ (a' := ?_) ?_ ?_
    rotate_left
    ·
     show Act.put _ (some 15) _ = _
     simp only [Act.put, List.setIfInBounds_toArray, List.set_cons_zero, List.set_cons_succ, i64_w, i32_w]
     rfl
    refine one_ (i := 4) (N := some 99) #[true, true, true, true, true, false, false, false, true, false, false] rfl rfl (one_of HT_.out (by kernel_rfl)) (by decide) (fun K hK => ?_)
    refine goes_ Try.func12 (by kernel_rfl) rfl #[.agg #[.slice Ao187 t197.length co187], .agg #[.slice Ao188 t200.length co188]] (by rfl) rfl rfl (by (try simp only [List.map_toArray, List.map_cons, List.map_nil]); first | done | rfl | (simp only [List.length_drop, List.length_take]; rfl)) ?_
    with_reducible refine (impl_SketchJoin.calls kj106 _ _ t197 _ _ t200 t203 t206 _ ?side1 ?side2 ?side3 ?side4 A172.out).mono ?_
    (case side1 => repeat (first | exact (Kd.R_reads' HO199.out).2.2 | (with_reducible refine Kd.C_alloc ?_ _) | (with_reducible refine Kd.C_drewN ?_ _) | (with_reducible refine Kd.C_drew ?_)))
    (case side2 => exact (Kd.R_reads' HO199.out).2.1)
    (case side3 => repeat (first | exact (Kd.R_reads' HO202.out).2.2 | (with_reducible refine Kd.C_alloc ?_ _) | (with_reducible refine Kd.C_drewN ?_ _) | (with_reducible refine Kd.C_drew ?_)))
    (case side4 => exact (Kd.R_reads' HO202.out).2.1)
    rintro e w189 ⟨v204, rfl, ho0, hb⟩
    refine ⟨_, rfl, ?_⟩
    have n0_ := Aside0.mk (Kd.R_elder' (by (with_reducible repeat (first | apply Kd.R_alloc | apply Kd.R_drewN | apply Kd.R_drew)); exact HO_167000.out) (Kd.R_base ho0) hb)
    have n1_ := Aside0.mk (Kd.R_elder' (by (with_reducible repeat (first | apply Kd.R_alloc | apply Kd.R_drewN | apply Kd.R_drew)); exact HO_171000.out) (Kd.R_base ho0) hb)
    have n2_ := Aside0.mk (Kd.R_elder' (by (with_reducible repeat (first | apply Kd.R_alloc | apply Kd.R_drewN | apply Kd.R_drew)); exact HO_175000.out) (Kd.R_base ho0) hb)
    have n3_ := Aside0.mk (Kd.R_elder' (by (with_reducible repeat (first | apply Kd.R_alloc | apply Kd.R_drewN | apply Kd.R_drew)); exact HO_180000.out) (Kd.R_base ho0) hb)
    have n4_ := Aside0.mk (Kd.R_elder' (by (with_reducible repeat (first | apply Kd.R_alloc | apply Kd.R_drewN | apply Kd.R_drew)); exact HO199.out) (Kd.R_base ho0) hb)
    have n5_ := Aside0.mk (Kd.R_elder' (by (with_reducible repeat (first | apply Kd.R_alloc | apply Kd.R_drewN | apply Kd.R_drew)); exact HO202.out) (Kd.R_base ho0) hb)
    have n6_ := Aside0.mk (Kd.R_lower (Kd.R_new' (Kd.R_new' (Kd.R_new' (Kd.R_new' (Kd.R_new' (Kd.R_new' ho0 (Kd.R_lt (by (with_reducible repeat (first | apply Kd.R_alloc | apply Kd.R_drewN | apply Kd.R_drew)); exact HO_167000.out))) (Kd.R_lt (by (with_reducible repeat (first | apply Kd.R_alloc | apply Kd.R_drewN | apply Kd.R_drew)); exact HO_171000.out))) (Kd.R_lt (by (with_reducible repeat (first | apply Kd.R_alloc | apply Kd.R_drewN | apply Kd.R_drew)); exact HO_175000.out))) (Kd.R_lt (by (with_reducible repeat (first | apply Kd.R_alloc | apply Kd.R_drewN | apply Kd.R_drew)); exact HO_180000.out))) (Kd.R_lt (by (with_reducible repeat (first | apply Kd.R_alloc | apply Kd.R_drewN | apply Kd.R_drew)); exact HO199.out))) (Kd.R_lt (by (with_reducible repeat (first | apply Kd.R_alloc | apply Kd.R_drewN | apply Kd.R_drew)); exact HO202.out))) (below_size (by repeat (first | (with_reducible first | exact HB.out | apply below_alloc | apply pw_below_drewN | apply below_drew1 | refine below_set ?_ GE152.out | refine below_set ?_ GE153.out | refine below_set ?_ GE166.out | refine below_set ?_ GE170.out | refine below_set ?_ GE174.out | refine below_set ?_ GE179.out | refine below_set ?_ GE207.out) | exact HB.out))))
    have n7_ := Aside0.mk (blk_below (g := gb152) (o := .cells #[.slice A0_0 l0_0.length c0_0] 24 (0, 0)) (by (with_reducible repeat (first | refine blk_drewN ?_ _ | refine blk_drew ?_ | refine blk_alloc ?_ _)); exact BK152.out) hb)
    have n8_ := Aside0.mk (blk_below (g := gb153) (o := .cells #[.slice A1_0 l1_0.length c1_0] 24 (0, 0)) (by (with_reducible repeat (first | refine blk_drewN ?_ _ | refine blk_drew ?_ | refine blk_alloc ?_ _)); exact BK153.out) hb)
    have n9_ := Aside0.mk (blk_below (g := gb166) (o := .cells #[.slice Ao41 t162.length co41] 26 (0, 0)) (by (with_reducible repeat (first | refine blk_drewN ?_ _ | refine blk_drew ?_ | refine blk_alloc ?_ _)); exact BK166.out) hb)
    have n10_ := Aside0.mk (blk_below (g := gb170) (o := .cells #[.slice Ao47 t190.length co47] 26 (0, 0)) (by (with_reducible repeat (first | refine blk_drewN ?_ _ | refine blk_drew ?_ | refine blk_alloc ?_ _)); exact BK170.out) hb)
    have n11_ := Aside0.mk (blk_below (g := gb174) (o := .cells #[.slice Ao56 t192.length co56] 26 (0, 0)) (by (with_reducible repeat (first | refine blk_drewN ?_ _ | refine blk_drew ?_ | refine blk_alloc ?_ _)); exact BK174.out) hb)
    have n12_ := Aside0.mk (blk_below (g := gb179) (o := .cells #[.slice Ao65 t175.length co65] 26 (0, 0)) (by (with_reducible repeat (first | refine blk_drewN ?_ _ | refine blk_drew ?_ | refine blk_alloc ?_ _)); exact BK179.out) hb)
    have n13_ := Aside0.mk (blk_below (g := gb207) (o := .cells #[.slice none 0 0] 26 (0, 0)) (by (with_reducible repeat (first | refine blk_drewN ?_ _ | refine blk_drew ?_ | refine blk_alloc ?_ _)); exact BK207.out) hb)
    have n14_ := Aside0.mk (below_step (by repeat (first | (with_reducible first | exact HB.out | apply below_alloc | apply pw_below_drewN | apply below_drew1 | refine below_set ?_ GE152.out | refine below_set ?_ GE153.out | refine below_set ?_ GE166.out | refine below_set ?_ GE170.out | refine below_set ?_ GE174.out | refine below_set ?_ GE179.out | refine below_set ?_ GE207.out) | exact HB.out)) hb)
    clear HO_167000
    clear HO_171000
    clear HO_175000
    clear HO_180000
    clear HO199
    clear HO202
    clear BK152
    clear BK153
    clear BK166
    clear BK170
    clear BK174
    clear BK179
    clear BK207
    clear HB
    have HO_167000 := n0_
    have HO_171000 := n1_
    have HO_175000 := n2_
    have HO_180000 := n3_
    have HO199 := n4_
    have HO202 := n5_
    have HO205 := n6_
    have BK152 := n7_
    have BK153 := n8_
    have BK166 := n9_
    have BK170 := n10_
    have BK174 := n11_
    have BK179 := n12_
    have BK207 := n13_
    have HB := n14_
    clear n0_ n1_ n2_ n3_ n4_ n5_ n6_ n7_ n8_ n9_ n10_ n11_ n12_ n13_ n14_
    (try clear hb)
    (try clear hb2)
    (try clear hk)
    (try clear hi)
    (try clear ho0)
    refine hK.out _ _ ⟨(blk_cell BK152.out 0).trans rfl, (blk_cell BK153.out 0).trans rfl⟩ (fun hHeld => ?_)
    clear hK K
    refine norm_ (a' := ?_) ?_ ?_
    rotate_left
    ·
     show Act.put _ (some 99) _ = _
     simp only [Act.put, List.setIfInBounds_toArray, List.set_cons_zero, List.set_cons_succ, i64_w, i32_w]
     rfl
    refine pure_ (i := 5) (N := some 94) (v := ?_) (a' := ?_) #[true, true, true, true, true, true, false, false, true, false, false] rfl rfl (any_of HT_.out (by kernel_rfl)) (fun _ _ _ h => h) (Or.inl ⟨by rfl, ?_⟩) ?_ ?_
    rotate_left
    ·
     intro w'
     go_simp
     with_reducible rfl
    rotate_left
    ·
     simp only [Act.put, List.setIfInBounds_toArray, List.set_cons_zero, List.set_cons_succ, i64_w, i32_w]
     rfl
    refine pure_ (i := 6) (N := some 100) (v := ?_) (a' := ?_) #[true, true, true, true, true, true, true, false, true, false, false] rfl rfl (any_of HT_.out (by kernel_rfl)) (fun _ _ _ h => h) (Or.inl ⟨by rfl, ?_⟩) ?_ ?_
    rotate_left
    ·
     intro w'
     go_simp
     with_reducible rfl
    rotate_left
    ·
     simp only [Act.put, List.setIfInBounds_toArray, List.set_cons_zero, List.set_cons_succ, i64_w, i32_w]
     rfl
    refine pure_ (i := 7) (N := some 101) (v := ?_) (a' := ?_) #[true, true, true, true, true, true, true, true, true, false, false] rfl rfl (any_of HT_.out (by kernel_rfl)) (fun _ _ _ h => h) (Or.inl ⟨by rfl, ?_⟩) ?_ ?_
    rotate_left
    ·
     intro w'
     go_simp
     with_reducible rfl
    rotate_left
    ·
     simp only [Act.put, List.setIfInBounds_toArray, List.set_cons_zero, List.set_cons_succ, i64_w, i32_w]
     rfl
    exact norm_ (by simp only [putAll, Act.put, List.setIfInBounds_toArray, List.set_cons_zero, List.set_cons_succ]) (hCont (.slice Ao187 t197.length co187, .slice Ao188 t200.length co188, v204, gb207) _ ⟨hHeld, (by (with_reducible repeat (first | apply Kd.R_alloc | apply Kd.R_drewN | apply Kd.R_drew)); exact Kd.R_mono HO199.out (fun _ hk => ⟨hk.1.2, ⟨hk.2, ⟨hk.1.1.1.1.1.2, ⟨hk.1.1.1.1.2, ⟨hk.1.1.1.2, hk.1.1.2⟩⟩⟩⟩⟩)), (by (with_reducible repeat (first | apply Kd.R_alloc | apply Kd.R_drewN | apply Kd.R_drew)); exact Kd.R_mono HO202.out (fun _ hk => ⟨hk.1.2, ⟨hk.2, ⟨hk.1.1.1.1.1.2, ⟨hk.1.1.1.1.2, ⟨hk.1.1.1.2, hk.1.1.2⟩⟩⟩⟩⟩)), (by (with_reducible repeat (first | apply Kd.R_alloc | apply Kd.R_drewN | apply Kd.R_drew)); exact Kd.R_mono HO205.out (fun _ hk => ⟨hk.1.2, ⟨hk.2, ⟨hk.1.1.1.1.1.2, ⟨hk.1.1.1.1.2, ⟨hk.1.1.1.2, hk.1.1.2⟩⟩⟩⟩⟩)), (by (with_reducible repeat (first | apply Kd.R_alloc | apply Kd.R_drewN | apply Kd.R_drew)); exact Kd.R_mono HO_167000.out (fun _ hk => ⟨hk.1.1.2, ⟨hk.1.2, ⟨hk.2, ⟨hk.1.1.1.1, ⟨hk.1.1.1.2.1, hk.1.1.1.2.2⟩⟩⟩⟩⟩)), (by (with_reducible repeat (first | apply Kd.R_alloc | apply Kd.R_drewN | apply Kd.R_drew)); exact Kd.R_mono HO_171000.out (fun _ hk => ⟨hk.1.1.2, ⟨hk.1.2, ⟨hk.2, ⟨hk.1.1.1.1, ⟨hk.1.1.1.2.1, hk.1.1.1.2.2⟩⟩⟩⟩⟩)), (by (with_reducible repeat (first | apply Kd.R_alloc | apply Kd.R_drewN | apply Kd.R_drew)); exact Kd.R_mono HO_175000.out (fun _ hk => ⟨hk.1.1.2, ⟨hk.1.2, ⟨hk.2, ⟨hk.1.1.1.1, ⟨hk.1.1.1.2.1, hk.1.1.1.2.2⟩⟩⟩⟩⟩)), (by (with_reducible repeat (first | apply Kd.R_alloc | apply Kd.R_drewN | apply Kd.R_drew)); exact Kd.R_mono HO_180000.out (fun _ hk => ⟨hk.1.1.2, ⟨hk.1.2, ⟨hk.2, ⟨hk.1.1.1.1, ⟨hk.1.1.1.2.1, hk.1.1.1.2.2⟩⟩⟩⟩⟩)), (by (with_reducible repeat (first | refine blk_drewN ?_ _ | refine blk_drew ?_ | refine blk_alloc ?_ _)); exact BK152.out), (by (with_reducible repeat (first | refine blk_drewN ?_ _ | refine blk_drew ?_ | refine blk_alloc ?_ _)); exact BK153.out), (by (with_reducible repeat (first | refine blk_drewN ?_ _ | refine blk_drew ?_ | refine blk_alloc ?_ _)); exact BK166.out), (by (with_reducible repeat (first | refine blk_drewN ?_ _ | refine blk_drew ?_ | refine blk_alloc ?_ _)); exact BK170.out), (by (with_reducible repeat (first | refine blk_drewN ?_ _ | refine blk_drew ?_ | refine blk_alloc ?_ _)); exact BK174.out), (by (with_reducible repeat (first | refine blk_drewN ?_ _ | refine blk_drew ?_ | refine blk_alloc ?_ _)); exact BK179.out), (by (with_reducible repeat (first | refine blk_drewN ?_ _ | refine blk_drew ?_ | refine blk_alloc ?_ _)); exact BK207.out), GW207.out, GE207.out, NB152_207.out, NB207_152.out, NB153_207.out, NB207_153.out, NB166_207.out, NB207_166.out, NB170_207.out, NB207_170.out, NB174_207.out, NB207_174.out, NB179_207.out, NB207_179.out, (by repeat (first | (with_reducible first | exact HB.out | apply below_alloc | apply pw_below_drewN | apply below_drew1 | refine below_set ?_ GE152.out | refine below_set ?_ GE153.out | refine below_set ?_ GE166.out | refine below_set ?_ GE170.out | refine below_set ?_ GE174.out | refine below_set ?_ GE179.out | refine below_set ?_ GE207.out) | exact HB.out))⟩)
  ·
   skip
   refine box_step ?hg (N := 15) ?hd (cs := #[.slice none 0 0]) (t := 26) ?hr ?_; (case hd => rfl); (case hg => rfl); (case hr => first | (go_simp; done) | (go_simp; rfl))
   intro gb207 hg w185 hbox hb
   have n0_ := Aside0.mk (Kd.R_below (by (with_reducible repeat (first | apply Kd.R_alloc | apply Kd.R_drewN | apply Kd.R_drew)); exact HO_167000.out) hb)
   have n1_ := Aside0.mk (Kd.R_below (by (with_reducible repeat (first | apply Kd.R_alloc | apply Kd.R_drewN | apply Kd.R_drew)); exact HO_171000.out) hb)
   have n2_ := Aside0.mk (Kd.R_below (by (with_reducible repeat (first | apply Kd.R_alloc | apply Kd.R_drewN | apply Kd.R_drew)); exact HO_175000.out) hb)
   have n3_ := Aside0.mk (Kd.R_below (by (with_reducible repeat (first | apply Kd.R_alloc | apply Kd.R_drewN | apply Kd.R_drew)); exact HO_180000.out) hb)
   have n4_ := Aside0.mk (Kd.R_below (by (with_reducible repeat (first | apply Kd.R_alloc | apply Kd.R_drewN | apply Kd.R_drew)); exact HO199.out) hb)
   have n5_ := Aside0.mk (blk_below (g := gb152) (o := .cells #[.slice A0_0 l0_0.length c0_0] 24 (0, 0)) (by (with_reducible repeat (first | refine blk_drewN ?_ _ | refine blk_drew ?_ | refine blk_alloc ?_ _)); exact BK152.out) hb)
   have n6_ := Aside0.mk (blk_below (g := gb153) (o := .cells #[.slice A1_0 l1_0.length c1_0] 24 (0, 0)) (by (with_reducible repeat (first | refine blk_drewN ?_ _ | refine blk_drew ?_ | refine blk_alloc ?_ _)); exact BK153.out) hb)
   have n7_ := Aside0.mk (blk_below (g := gb166) (o := .cells #[.slice Ao41 t162.length co41] 26 (0, 0)) (by (with_reducible repeat (first | refine blk_drewN ?_ _ | refine blk_drew ?_ | refine blk_alloc ?_ _)); exact BK166.out) hb)
   have n8_ := Aside0.mk (blk_below (g := gb170) (o := .cells #[.slice Ao47 t190.length co47] 26 (0, 0)) (by (with_reducible repeat (first | refine blk_drewN ?_ _ | refine blk_drew ?_ | refine blk_alloc ?_ _)); exact BK170.out) hb)
   have n9_ := Aside0.mk (blk_below (g := gb174) (o := .cells #[.slice Ao56 t192.length co56] 26 (0, 0)) (by (with_reducible repeat (first | refine blk_drewN ?_ _ | refine blk_drew ?_ | refine blk_alloc ?_ _)); exact BK174.out) hb)
   have n10_ := Aside0.mk (blk_below (g := gb179) (o := .cells #[.slice Ao65 t175.length co65] 26 (0, 0)) (by (with_reducible repeat (first | refine blk_drewN ?_ _ | refine blk_drew ?_ | refine blk_alloc ?_ _)); exact BK179.out) hb)
   have n11_ := Aside0.mk (below_step (by repeat (first | (with_reducible first | exact HB.out | apply below_alloc | apply pw_below_drewN | apply below_drew1 | refine below_set ?_ GE152.out | refine below_set ?_ GE153.out | refine below_set ?_ GE166.out | refine below_set ?_ GE170.out | refine below_set ?_ GE174.out | refine below_set ?_ GE179.out) | exact HB.out)) hb)
   have n12_ := Aside0.mk (hbox)
   have n13_ := Aside0.mk ((by rw [hg]; exact (below_size (by repeat (first | (with_reducible first | exact HB.out | apply below_alloc | apply pw_below_drewN | apply below_drew1 | refine below_set ?_ GE152.out | refine below_set ?_ GE153.out | refine below_set ?_ GE166.out | refine below_set ?_ GE170.out | refine below_set ?_ GE174.out | refine below_set ?_ GE179.out) | exact HB.out))) : w.heap.size ≤ gb207))
   have n14_ := Aside0.mk ((by rw [hg]; exact (below_size (by repeat (first | (with_reducible first | exact HB.out | apply below_alloc | apply pw_below_drewN | apply below_drew1 | refine below_set ?_ GE152.out | refine below_set ?_ GE153.out | refine below_set ?_ GE166.out | refine below_set ?_ GE170.out | refine below_set ?_ GE174.out | refine below_set ?_ GE179.out) | exact HB.out))) : w.heap.size ≤ gb207))
   have n15_ := Aside0.mk ((by rw [hg]; exact Nat.ne_of_lt (blk_lt (g := gb152) (o := .cells #[.slice A0_0 l0_0.length c0_0] 24 (0, 0)) (by (with_reducible repeat (first | refine blk_drewN ?_ _ | refine blk_drew ?_ | refine blk_alloc ?_ _)); exact BK152.out)) : gb152 ≠ gb207))
   have n16_ := Aside0.mk ((by rw [hg]; exact Nat.ne_of_gt (blk_lt (g := gb152) (o := .cells #[.slice A0_0 l0_0.length c0_0] 24 (0, 0)) (by (with_reducible repeat (first | refine blk_drewN ?_ _ | refine blk_drew ?_ | refine blk_alloc ?_ _)); exact BK152.out)) : gb207 ≠ gb152))
   have n17_ := Aside0.mk ((by rw [hg]; exact Nat.ne_of_lt (blk_lt (g := gb153) (o := .cells #[.slice A1_0 l1_0.length c1_0] 24 (0, 0)) (by (with_reducible repeat (first | refine blk_drewN ?_ _ | refine blk_drew ?_ | refine blk_alloc ?_ _)); exact BK153.out)) : gb153 ≠ gb207))
   have n18_ := Aside0.mk ((by rw [hg]; exact Nat.ne_of_gt (blk_lt (g := gb153) (o := .cells #[.slice A1_0 l1_0.length c1_0] 24 (0, 0)) (by (with_reducible repeat (first | refine blk_drewN ?_ _ | refine blk_drew ?_ | refine blk_alloc ?_ _)); exact BK153.out)) : gb207 ≠ gb153))
   have n19_ := Aside0.mk ((by rw [hg]; exact Nat.ne_of_lt (blk_lt (g := gb166) (o := .cells #[.slice Ao41 t162.length co41] 26 (0, 0)) (by (with_reducible repeat (first | refine blk_drewN ?_ _ | refine blk_drew ?_ | refine blk_alloc ?_ _)); exact BK166.out)) : gb166 ≠ gb207))
   have n20_ := Aside0.mk ((by rw [hg]; exact Nat.ne_of_gt (blk_lt (g := gb166) (o := .cells #[.slice Ao41 t162.length co41] 26 (0, 0)) (by (with_reducible repeat (first | refine blk_drewN ?_ _ | refine blk_drew ?_ | refine blk_alloc ?_ _)); exact BK166.out)) : gb207 ≠ gb166))
   have n21_ := Aside0.mk ((by rw [hg]; exact Nat.ne_of_lt (blk_lt (g := gb170) (o := .cells #[.slice Ao47 t190.length co47] 26 (0, 0)) (by (with_reducible repeat (first | refine blk_drewN ?_ _ | refine blk_drew ?_ | refine blk_alloc ?_ _)); exact BK170.out)) : gb170 ≠ gb207))
   have n22_ := Aside0.mk ((by rw [hg]; exact Nat.ne_of_gt (blk_lt (g := gb170) (o := .cells #[.slice Ao47 t190.length co47] 26 (0, 0)) (by (with_reducible repeat (first | refine blk_drewN ?_ _ | refine blk_drew ?_ | refine blk_alloc ?_ _)); exact BK170.out)) : gb207 ≠ gb170))
   have n23_ := Aside0.mk ((by rw [hg]; exact Nat.ne_of_lt (blk_lt (g := gb174) (o := .cells #[.slice Ao56 t192.length co56] 26 (0, 0)) (by (with_reducible repeat (first | refine blk_drewN ?_ _ | refine blk_drew ?_ | refine blk_alloc ?_ _)); exact BK174.out)) : gb174 ≠ gb207))
   have n24_ := Aside0.mk ((by rw [hg]; exact Nat.ne_of_gt (blk_lt (g := gb174) (o := .cells #[.slice Ao56 t192.length co56] 26 (0, 0)) (by (with_reducible repeat (first | refine blk_drewN ?_ _ | refine blk_drew ?_ | refine blk_alloc ?_ _)); exact BK174.out)) : gb207 ≠ gb174))
   have n25_ := Aside0.mk ((by rw [hg]; exact Nat.ne_of_lt (blk_lt (g := gb179) (o := .cells #[.slice Ao65 t175.length co65] 26 (0, 0)) (by (with_reducible repeat (first | refine blk_drewN ?_ _ | refine blk_drew ?_ | refine blk_alloc ?_ _)); exact BK179.out)) : gb179 ≠ gb207))
   have n26_ := Aside0.mk ((by rw [hg]; exact Nat.ne_of_gt (blk_lt (g := gb179) (o := .cells #[.slice Ao65 t175.length co65] 26 (0, 0)) (by (with_reducible repeat (first | refine blk_drewN ?_ _ | refine blk_drew ?_ | refine blk_alloc ?_ _)); exact BK179.out)) : gb207 ≠ gb179))
   clear HO_167000
   clear HO_171000
   clear HO_175000
   clear HO_180000
   clear HO199
   clear BK152
   clear BK153
   clear BK166
   clear BK170
   clear BK174
   clear BK179
   clear HB
   have HO_167000 := n0_
   have HO_171000 := n1_
   have HO_175000 := n2_
   have HO_180000 := n3_
   have HO199 := n4_
   have BK152 := n5_
   have BK153 := n6_
   have BK166 := n7_
   have BK170 := n8_
   have BK174 := n9_
   have BK179 := n10_
   have HB := n11_
   have BK207 := n12_
   have GW207 := n13_
   have GE207 := n14_
   have NB152_207 := n15_
   have NB207_152 := n16_
   have NB153_207 := n17_
   have NB207_153 := n18_
   have NB166_207 := n19_
   have NB207_166 := n20_
   have NB170_207 := n21_
   have NB207_170 := n22_
   have NB174_207 := n23_
   have NB207_174 := n24_
   have NB179_207 := n25_
   have NB207_179 := n26_
   clear n0_ n1_ n2_ n3_ n4_ n5_ n6_ n7_ n8_ n9_ n10_ n11_ n12_ n13_ n14_ n15_ n16_ n17_ n18_ n19_ n20_ n21_ n22_ n23_ n24_ n25_ n26_
   clear hb hbox hg
   refine hK.out _ _ ⟨(blk_cell BK152.out 0).trans rfl, (blk_cell BK153.out 0).trans rfl⟩ (fun hHeld => ?_)
   clear hK K
   refine norm_ (a' := ?_) ?_ ?_
   rotate_left
   ·
    show Act.put _ (some 15) _ = _
    simp only [Act.put, List.setIfInBounds_toArray, List.set_cons_zero, List.set_cons_succ, i64_w, i32_w]
    rfl
   refine one_ (i := 3) (N := some 98) #[true, true, true, true, false, false, false, false, true, false, false] rfl rfl (one_of HT_.out (by kernel_rfl)) (by decide) (fun K hK => ?_)
   refine goes_ Try.func11 (by kernel_rfl) rfl #[.agg #[.slice A1_0 l1_0.length c1_0]] (by rfl) rfl rfl (by (try simp only [List.map_toArray, List.map_cons, List.map_nil]); first | done | rfl | (simp only [List.length_drop, List.length_take]; rfl)) ?_
   with_reducible refine (laws_toSketch.calls kj106 _ _ l1_0 t200 _ ?side1 ?side2 A171.out).mono ?_
   (case side1 => repeat (first | exact (Kd.C_below HR1_0.out HB.out) | (with_reducible refine Kd.C_alloc ?_ _) | (with_reducible refine Kd.C_drewN ?_ _) | (with_reducible refine Kd.C_drew ?_)))
   (case side2 => exact HC1_0.out)
   rintro e w186 ⟨v201, rfl, ho0, hb⟩
   refine ⟨_, rfl, ?_⟩
   have n0_ := Aside0.mk (Kd.R_elder' (by (with_reducible repeat (first | apply Kd.R_alloc | apply Kd.R_drewN | apply Kd.R_drew)); exact HO_167000.out) (Kd.R_base ho0) hb)
   have n1_ := Aside0.mk (Kd.R_elder' (by (with_reducible repeat (first | apply Kd.R_alloc | apply Kd.R_drewN | apply Kd.R_drew)); exact HO_171000.out) (Kd.R_base ho0) hb)
   have n2_ := Aside0.mk (Kd.R_elder' (by (with_reducible repeat (first | apply Kd.R_alloc | apply Kd.R_drewN | apply Kd.R_drew)); exact HO_175000.out) (Kd.R_base ho0) hb)
   have n3_ := Aside0.mk (Kd.R_elder' (by (with_reducible repeat (first | apply Kd.R_alloc | apply Kd.R_drewN | apply Kd.R_drew)); exact HO_180000.out) (Kd.R_base ho0) hb)
   have n4_ := Aside0.mk (Kd.R_elder' (by (with_reducible repeat (first | apply Kd.R_alloc | apply Kd.R_drewN | apply Kd.R_drew)); exact HO199.out) (Kd.R_base ho0) hb)
   have n5_ := Aside0.mk (Kd.R_lower (Kd.R_new' (Kd.R_new' (Kd.R_new' (Kd.R_new' (Kd.R_new' ho0 (Kd.R_lt (by (with_reducible repeat (first | apply Kd.R_alloc | apply Kd.R_drewN | apply Kd.R_drew)); exact HO_167000.out))) (Kd.R_lt (by (with_reducible repeat (first | apply Kd.R_alloc | apply Kd.R_drewN | apply Kd.R_drew)); exact HO_171000.out))) (Kd.R_lt (by (with_reducible repeat (first | apply Kd.R_alloc | apply Kd.R_drewN | apply Kd.R_drew)); exact HO_175000.out))) (Kd.R_lt (by (with_reducible repeat (first | apply Kd.R_alloc | apply Kd.R_drewN | apply Kd.R_drew)); exact HO_180000.out))) (Kd.R_lt (by (with_reducible repeat (first | apply Kd.R_alloc | apply Kd.R_drewN | apply Kd.R_drew)); exact HO199.out))) (below_size (by repeat (first | (with_reducible first | exact HB.out | apply below_alloc | apply pw_below_drewN | apply below_drew1 | refine below_set ?_ GE152.out | refine below_set ?_ GE153.out | refine below_set ?_ GE166.out | refine below_set ?_ GE170.out | refine below_set ?_ GE174.out | refine below_set ?_ GE179.out | refine below_set ?_ GE207.out) | exact HB.out))))
   have n6_ := Aside0.mk (blk_below (g := gb152) (o := .cells #[.slice A0_0 l0_0.length c0_0] 24 (0, 0)) (by (with_reducible repeat (first | refine blk_drewN ?_ _ | refine blk_drew ?_ | refine blk_alloc ?_ _)); exact BK152.out) hb)
   have n7_ := Aside0.mk (blk_below (g := gb153) (o := .cells #[.slice A1_0 l1_0.length c1_0] 24 (0, 0)) (by (with_reducible repeat (first | refine blk_drewN ?_ _ | refine blk_drew ?_ | refine blk_alloc ?_ _)); exact BK153.out) hb)
   have n8_ := Aside0.mk (blk_below (g := gb166) (o := .cells #[.slice Ao41 t162.length co41] 26 (0, 0)) (by (with_reducible repeat (first | refine blk_drewN ?_ _ | refine blk_drew ?_ | refine blk_alloc ?_ _)); exact BK166.out) hb)
   have n9_ := Aside0.mk (blk_below (g := gb170) (o := .cells #[.slice Ao47 t190.length co47] 26 (0, 0)) (by (with_reducible repeat (first | refine blk_drewN ?_ _ | refine blk_drew ?_ | refine blk_alloc ?_ _)); exact BK170.out) hb)
   have n10_ := Aside0.mk (blk_below (g := gb174) (o := .cells #[.slice Ao56 t192.length co56] 26 (0, 0)) (by (with_reducible repeat (first | refine blk_drewN ?_ _ | refine blk_drew ?_ | refine blk_alloc ?_ _)); exact BK174.out) hb)
   have n11_ := Aside0.mk (blk_below (g := gb179) (o := .cells #[.slice Ao65 t175.length co65] 26 (0, 0)) (by (with_reducible repeat (first | refine blk_drewN ?_ _ | refine blk_drew ?_ | refine blk_alloc ?_ _)); exact BK179.out) hb)
   have n12_ := Aside0.mk (blk_below (g := gb207) (o := .cells #[.slice none 0 0] 26 (0, 0)) (by (with_reducible repeat (first | refine blk_drewN ?_ _ | refine blk_drew ?_ | refine blk_alloc ?_ _)); exact BK207.out) hb)
   have n13_ := Aside0.mk (below_step (by repeat (first | (with_reducible first | exact HB.out | apply below_alloc | apply pw_below_drewN | apply below_drew1 | refine below_set ?_ GE152.out | refine below_set ?_ GE153.out | refine below_set ?_ GE166.out | refine below_set ?_ GE170.out | refine below_set ?_ GE174.out | refine below_set ?_ GE179.out | refine below_set ?_ GE207.out) | exact HB.out)) hb)
   clear HO_167000
   clear HO_171000
   clear HO_175000
   clear HO_180000
   clear HO199
   clear BK152
   clear BK153
   clear BK166
   clear BK170
   clear BK174
   clear BK179
   clear BK207
   clear HB
   have HO_167000 := n0_
   have HO_171000 := n1_
   have HO_175000 := n2_
   have HO_180000 := n3_
   have HO199 := n4_
   have HO202 := n5_
   have BK152 := n6_
   have BK153 := n7_
   have BK166 := n8_
   have BK170 := n9_
   have BK174 := n10_
   have BK179 := n11_
   have BK207 := n12_
   have HB := n13_
   clear n0_ n1_ n2_ n3_ n4_ n5_ n6_ n7_ n8_ n9_ n10_ n11_ n12_ n13_
   (try clear hb)
   (try clear hb2)
   (try clear hk)
   (try clear hi)
   (try clear ho0)
   obtain ⟨Ao187, co187, eo187⟩ := Kd.R_slice HO199.out
   (first | subst eo187 | (injection eo187 with f1_ f2_ f3_; have f4_ := f1_.symm; have f5_ := f3_.symm; clear f1_ f2_ f3_; subst f4_; subst f5_))
   obtain ⟨Ao188, co188, eo188⟩ := Kd.R_slice HO202.out
   (first | subst eo188 | (injection eo188 with f1_ f2_ f3_; have f4_ := f1_.symm; have f5_ := f3_.symm; clear f1_ f2_ f3_; subst f4_; subst f5_))
   refine hK.out _ _ ⟨(blk_cell BK152.out 0).trans rfl, (blk_cell BK153.out 0).trans rfl⟩ (fun hHeld => ?_)
   clear hK K
   refine norm_ (a' := ?_) ?_ ?_
   rotate_left
   ·
    show Act.put _ (some 98) _ = _
    simp only [Act.put, List.setIfInBounds_toArray, List.set_cons_zero, List.set_cons_succ, i64_w, i32_w]
    rfl
   refine one_ (i := 4) (N := some 99) #[true, true, true, true, true, false, false, false, true, false, false] rfl rfl (one_of HT_.out (by kernel_rfl)) (by decide) (fun K hK => ?_)
   refine goes_ Try.func12 (by kernel_rfl) rfl #[.agg #[.slice Ao187 t197.length co187], .agg #[.slice Ao188 t200.length co188]] (by rfl) rfl rfl (by (try simp only [List.map_toArray, List.map_cons, List.map_nil]); first | done | rfl | (simp only [List.length_drop, List.length_take]; rfl)) ?_
   with_reducible refine (impl_SketchJoin.calls kj106 _ _ t197 _ _ t200 t203 t206 _ ?side1 ?side2 ?side3 ?side4 A172.out).mono ?_
   (case side1 => repeat (first | exact (Kd.R_reads' HO199.out).2.2 | (with_reducible refine Kd.C_alloc ?_ _) | (with_reducible refine Kd.C_drewN ?_ _) | (with_reducible refine Kd.C_drew ?_)))
   (case side2 => exact (Kd.R_reads' HO199.out).2.1)
   (case side3 => repeat (first | exact (Kd.R_reads' HO202.out).2.2 | (with_reducible refine Kd.C_alloc ?_ _) | (with_reducible refine Kd.C_drewN ?_ _) | (with_reducible refine Kd.C_drew ?_)))
   (case side4 => exact (Kd.R_reads' HO202.out).2.1)
   rintro e w189 ⟨v204, rfl, ho0, hb⟩
   refine ⟨_, rfl, ?_⟩
   have n0_ := Aside0.mk (Kd.R_elder' (by (with_reducible repeat (first | apply Kd.R_alloc | apply Kd.R_drewN | apply Kd.R_drew)); exact HO_167000.out) (Kd.R_base ho0) hb)
   have n1_ := Aside0.mk (Kd.R_elder' (by (with_reducible repeat (first | apply Kd.R_alloc | apply Kd.R_drewN | apply Kd.R_drew)); exact HO_171000.out) (Kd.R_base ho0) hb)
   have n2_ := Aside0.mk (Kd.R_elder' (by (with_reducible repeat (first | apply Kd.R_alloc | apply Kd.R_drewN | apply Kd.R_drew)); exact HO_175000.out) (Kd.R_base ho0) hb)
   have n3_ := Aside0.mk (Kd.R_elder' (by (with_reducible repeat (first | apply Kd.R_alloc | apply Kd.R_drewN | apply Kd.R_drew)); exact HO_180000.out) (Kd.R_base ho0) hb)
   have n4_ := Aside0.mk (Kd.R_elder' (by (with_reducible repeat (first | apply Kd.R_alloc | apply Kd.R_drewN | apply Kd.R_drew)); exact HO199.out) (Kd.R_base ho0) hb)
   have n5_ := Aside0.mk (Kd.R_elder' (by (with_reducible repeat (first | apply Kd.R_alloc | apply Kd.R_drewN | apply Kd.R_drew)); exact HO202.out) (Kd.R_base ho0) hb)
   have n6_ := Aside0.mk (Kd.R_lower (Kd.R_new' (Kd.R_new' (Kd.R_new' (Kd.R_new' (Kd.R_new' (Kd.R_new' ho0 (Kd.R_lt (by (with_reducible repeat (first | apply Kd.R_alloc | apply Kd.R_drewN | apply Kd.R_drew)); exact HO_167000.out))) (Kd.R_lt (by (with_reducible repeat (first | apply Kd.R_alloc | apply Kd.R_drewN | apply Kd.R_drew)); exact HO_171000.out))) (Kd.R_lt (by (with_reducible repeat (first | apply Kd.R_alloc | apply Kd.R_drewN | apply Kd.R_drew)); exact HO_175000.out))) (Kd.R_lt (by (with_reducible repeat (first | apply Kd.R_alloc | apply Kd.R_drewN | apply Kd.R_drew)); exact HO_180000.out))) (Kd.R_lt (by (with_reducible repeat (first | apply Kd.R_alloc | apply Kd.R_drewN | apply Kd.R_drew)); exact HO199.out))) (Kd.R_lt (by (with_reducible repeat (first | apply Kd.R_alloc | apply Kd.R_drewN | apply Kd.R_drew)); exact HO202.out))) (below_size (by repeat (first | (with_reducible first | exact HB.out | apply below_alloc | apply pw_below_drewN | apply below_drew1 | refine below_set ?_ GE152.out | refine below_set ?_ GE153.out | refine below_set ?_ GE166.out | refine below_set ?_ GE170.out | refine below_set ?_ GE174.out | refine below_set ?_ GE179.out | refine below_set ?_ GE207.out) | exact HB.out))))
   have n7_ := Aside0.mk (blk_below (g := gb152) (o := .cells #[.slice A0_0 l0_0.length c0_0] 24 (0, 0)) (by (with_reducible repeat (first | refine blk_drewN ?_ _ | refine blk_drew ?_ | refine blk_alloc ?_ _)); exact BK152.out) hb)
   have n8_ := Aside0.mk (blk_below (g := gb153) (o := .cells #[.slice A1_0 l1_0.length c1_0] 24 (0, 0)) (by (with_reducible repeat (first | refine blk_drewN ?_ _ | refine blk_drew ?_ | refine blk_alloc ?_ _)); exact BK153.out) hb)
   have n9_ := Aside0.mk (blk_below (g := gb166) (o := .cells #[.slice Ao41 t162.length co41] 26 (0, 0)) (by (with_reducible repeat (first | refine blk_drewN ?_ _ | refine blk_drew ?_ | refine blk_alloc ?_ _)); exact BK166.out) hb)
   have n10_ := Aside0.mk (blk_below (g := gb170) (o := .cells #[.slice Ao47 t190.length co47] 26 (0, 0)) (by (with_reducible repeat (first | refine blk_drewN ?_ _ | refine blk_drew ?_ | refine blk_alloc ?_ _)); exact BK170.out) hb)
   have n11_ := Aside0.mk (blk_below (g := gb174) (o := .cells #[.slice Ao56 t192.length co56] 26 (0, 0)) (by (with_reducible repeat (first | refine blk_drewN ?_ _ | refine blk_drew ?_ | refine blk_alloc ?_ _)); exact BK174.out) hb)
   have n12_ := Aside0.mk (blk_below (g := gb179) (o := .cells #[.slice Ao65 t175.length co65] 26 (0, 0)) (by (with_reducible repeat (first | refine blk_drewN ?_ _ | refine blk_drew ?_ | refine blk_alloc ?_ _)); exact BK179.out) hb)
   have n13_ := Aside0.mk (blk_below (g := gb207) (o := .cells #[.slice none 0 0] 26 (0, 0)) (by (with_reducible repeat (first | refine blk_drewN ?_ _ | refine blk_drew ?_ | refine blk_alloc ?_ _)); exact BK207.out) hb)
   have n14_ := Aside0.mk (below_step (by repeat (first | (with_reducible first | exact HB.out | apply below_alloc | apply pw_below_drewN | apply below_drew1 | refine below_set ?_ GE152.out | refine below_set ?_ GE153.out | refine below_set ?_ GE166.out | refine below_set ?_ GE170.out | refine below_set ?_ GE174.out | refine below_set ?_ GE179.out | refine below_set ?_ GE207.out) | exact HB.out)) hb)
   clear HO_167000
   clear HO_171000
   clear HO_175000
   clear HO_180000
   clear HO199
   clear HO202
   clear BK152
   clear BK153
   clear BK166
   clear BK170
   clear BK174
   clear BK179
   clear BK207
   clear HB
   have HO_167000 := n0_
   have HO_171000 := n1_
   have HO_175000 := n2_
   have HO_180000 := n3_
   have HO199 := n4_
   have HO202 := n5_
   have HO205 := n6_
   have BK152 := n7_
   have BK153 := n8_
   have BK166 := n9_
   have BK170 := n10_
   have BK174 := n11_
   have BK179 := n12_
   have BK207 := n13_
   have HB := n14_
   clear n0_ n1_ n2_ n3_ n4_ n5_ n6_ n7_ n8_ n9_ n10_ n11_ n12_ n13_ n14_
   (try clear hb)
   (try clear hb2)
   (try clear hk)
   (try clear hi)
   (try clear ho0)
   refine hK.out _ _ ⟨(blk_cell BK152.out 0).trans rfl, (blk_cell BK153.out 0).trans rfl⟩ (fun hHeld => ?_)
   clear hK K
   refine norm_ (a' := ?_) ?_ ?_
   rotate_left
   ·
    show Act.put _ (some 99) _ = _
    simp only [Act.put, List.setIfInBounds_toArray, List.set_cons_zero, List.set_cons_succ, i64_w, i32_w]
    rfl
   refine pure_ (i := 5) (N := some 94) (v := ?_) (a' := ?_) #[true, true, true, true, true, true, false, false, true, false, false] rfl rfl (any_of HT_.out (by kernel_rfl)) (fun _ _ _ h => h) (Or.inl ⟨by rfl, ?_⟩) ?_ ?_
   rotate_left
   ·
    intro w'
    go_simp
    with_reducible rfl
   rotate_left
   ·
    simp only [Act.put, List.setIfInBounds_toArray, List.set_cons_zero, List.set_cons_succ, i64_w, i32_w]
    rfl
   refine pure_ (i := 6) (N := some 100) (v := ?_) (a' := ?_) #[true, true, true, true, true, true, true, false, true, false, false] rfl rfl (any_of HT_.out (by kernel_rfl)) (fun _ _ _ h => h) (Or.inl ⟨by rfl, ?_⟩) ?_ ?_
   rotate_left
   ·
    intro w'
    go_simp
    with_reducible rfl
   rotate_left
   ·
    simp only [Act.put, List.setIfInBounds_toArray, List.set_cons_zero, List.set_cons_succ, i64_w, i32_w]
    rfl
   refine pure_ (i := 7) (N := some 101) (v := ?_) (a' := ?_) #[true, true, true, true, true, true, true, true, true, false, false] rfl rfl (any_of HT_.out (by kernel_rfl)) (fun _ _ _ h => h) (Or.inl ⟨by rfl, ?_⟩) ?_ ?_
   rotate_left
   ·
    intro w'
    go_simp
    with_reducible rfl
   rotate_left
   ·
    simp only [Act.put, List.setIfInBounds_toArray, List.set_cons_zero, List.set_cons_succ, i64_w, i32_w]
    rfl
   exact norm_ (by simp only [putAll, Act.put, List.setIfInBounds_toArray, List.set_cons_zero, List.set_cons_succ]) (hCont (.slice Ao187 t197.length co187, .slice Ao188 t200.length co188, v204, gb207) _ ⟨hHeld, (by (with_reducible repeat (first | apply Kd.R_alloc | apply Kd.R_drewN | apply Kd.R_drew)); exact Kd.R_mono HO199.out (fun _ hk => ⟨hk.1.2, ⟨hk.2, ⟨hk.1.1.1.1.1.2, ⟨hk.1.1.1.1.2, ⟨hk.1.1.1.2, hk.1.1.2⟩⟩⟩⟩⟩)), (by (with_reducible repeat (first | apply Kd.R_alloc | apply Kd.R_drewN | apply Kd.R_drew)); exact Kd.R_mono HO202.out (fun _ hk => ⟨hk.1.2, ⟨hk.2, ⟨hk.1.1.1.1.1.2, ⟨hk.1.1.1.1.2, ⟨hk.1.1.1.2, hk.1.1.2⟩⟩⟩⟩⟩)), (by (with_reducible repeat (first | apply Kd.R_alloc | apply Kd.R_drewN | apply Kd.R_drew)); exact Kd.R_mono HO205.out (fun _ hk => ⟨hk.1.2, ⟨hk.2, ⟨hk.1.1.1.1.1.2, ⟨hk.1.1.1.1.2, ⟨hk.1.1.1.2, hk.1.1.2⟩⟩⟩⟩⟩)), (by (with_reducible repeat (first | apply Kd.R_alloc | apply Kd.R_drewN | apply Kd.R_drew)); exact Kd.R_mono HO_167000.out (fun _ hk => ⟨hk.1.1.2, ⟨hk.1.2, ⟨hk.2, ⟨hk.1.1.1.1, ⟨hk.1.1.1.2.1, hk.1.1.1.2.2⟩⟩⟩⟩⟩)), (by (with_reducible repeat (first | apply Kd.R_alloc | apply Kd.R_drewN | apply Kd.R_drew)); exact Kd.R_mono HO_171000.out (fun _ hk => ⟨hk.1.1.2, ⟨hk.1.2, ⟨hk.2, ⟨hk.1.1.1.1, ⟨hk.1.1.1.2.1, hk.1.1.1.2.2⟩⟩⟩⟩⟩)), (by (with_reducible repeat (first | apply Kd.R_alloc | apply Kd.R_drewN | apply Kd.R_drew)); exact Kd.R_mono HO_175000.out (fun _ hk => ⟨hk.1.1.2, ⟨hk.1.2, ⟨hk.2, ⟨hk.1.1.1.1, ⟨hk.1.1.1.2.1, hk.1.1.1.2.2⟩⟩⟩⟩⟩)), (by (with_reducible repeat (first | apply Kd.R_alloc | apply Kd.R_drewN | apply Kd.R_drew)); exact Kd.R_mono HO_180000.out (fun _ hk => ⟨hk.1.1.2, ⟨hk.1.2, ⟨hk.2, ⟨hk.1.1.1.1, ⟨hk.1.1.1.2.1, hk.1.1.1.2.2⟩⟩⟩⟩⟩)), (by (with_reducible repeat (first | refine blk_drewN ?_ _ | refine blk_drew ?_ | refine blk_alloc ?_ _)); exact BK152.out), (by (with_reducible repeat (first | refine blk_drewN ?_ _ | refine blk_drew ?_ | refine blk_alloc ?_ _)); exact BK153.out), (by (with_reducible repeat (first | refine blk_drewN ?_ _ | refine blk_drew ?_ | refine blk_alloc ?_ _)); exact BK166.out), (by (with_reducible repeat (first | refine blk_drewN ?_ _ | refine blk_drew ?_ | refine blk_alloc ?_ _)); exact BK170.out), (by (with_reducible repeat (first | refine blk_drewN ?_ _ | refine blk_drew ?_ | refine blk_alloc ?_ _)); exact BK174.out), (by (with_reducible repeat (first | refine blk_drewN ?_ _ | refine blk_drew ?_ | refine blk_alloc ?_ _)); exact BK179.out), (by (with_reducible repeat (first | refine blk_drewN ?_ _ | refine blk_drew ?_ | refine blk_alloc ?_ _)); exact BK207.out), GW207.out, GE207.out, NB152_207.out, NB207_152.out, NB153_207.out, NB207_153.out, NB166_207.out, NB207_166.out, NB170_207.out, NB207_170.out, NB174_207.out, NB207_174.out, NB179_207.out, NB207_179.out, (by repeat (first | (with_reducible first | exact HB.out | apply below_alloc | apply pw_below_drewN | apply below_drew1 | refine below_set ?_ GE152.out | refine below_set ?_ GE153.out | refine below_set ?_ GE166.out | refine below_set ?_ GE170.out | refine below_set ?_ GE174.out | refine below_set ?_ GE179.out | refine below_set ?_ GE207.out) | exact HB.out))⟩)
 ·
  skip
  refine box_step ?hg (N := 15) ?hd (cs := #[.slice none 0 0]) (t := 26) ?hr ?_; (case hd => rfl); (case hg => rfl); (case hr => first | (go_simp; done) | (go_simp; rfl))
  intro gb207 hg w184 hbox hb
  have n0_ := Aside0.mk (Kd.R_below (by (with_reducible repeat (first | apply Kd.R_alloc | apply Kd.R_drewN | apply Kd.R_drew)); exact HO_167000.out) hb)
  have n1_ := Aside0.mk (Kd.R_below (by (with_reducible repeat (first | apply Kd.R_alloc | apply Kd.R_drewN | apply Kd.R_drew)); exact HO_171000.out) hb)
  have n2_ := Aside0.mk (Kd.R_below (by (with_reducible repeat (first | apply Kd.R_alloc | apply Kd.R_drewN | apply Kd.R_drew)); exact HO_175000.out) hb)
  have n3_ := Aside0.mk (Kd.R_below (by (with_reducible repeat (first | apply Kd.R_alloc | apply Kd.R_drewN | apply Kd.R_drew)); exact HO_180000.out) hb)
  have n4_ := Aside0.mk (blk_below (g := gb152) (o := .cells #[.slice A0_0 l0_0.length c0_0] 24 (0, 0)) (by (with_reducible repeat (first | refine blk_drewN ?_ _ | refine blk_drew ?_ | refine blk_alloc ?_ _)); exact BK152.out) hb)
  have n5_ := Aside0.mk (blk_below (g := gb153) (o := .cells #[.slice A1_0 l1_0.length c1_0] 24 (0, 0)) (by (with_reducible repeat (first | refine blk_drewN ?_ _ | refine blk_drew ?_ | refine blk_alloc ?_ _)); exact BK153.out) hb)
  have n6_ := Aside0.mk (blk_below (g := gb166) (o := .cells #[.slice Ao41 t162.length co41] 26 (0, 0)) (by (with_reducible repeat (first | refine blk_drewN ?_ _ | refine blk_drew ?_ | refine blk_alloc ?_ _)); exact BK166.out) hb)
  have n7_ := Aside0.mk (blk_below (g := gb170) (o := .cells #[.slice Ao47 t190.length co47] 26 (0, 0)) (by (with_reducible repeat (first | refine blk_drewN ?_ _ | refine blk_drew ?_ | refine blk_alloc ?_ _)); exact BK170.out) hb)
  have n8_ := Aside0.mk (blk_below (g := gb174) (o := .cells #[.slice Ao56 t192.length co56] 26 (0, 0)) (by (with_reducible repeat (first | refine blk_drewN ?_ _ | refine blk_drew ?_ | refine blk_alloc ?_ _)); exact BK174.out) hb)
  have n9_ := Aside0.mk (blk_below (g := gb179) (o := .cells #[.slice Ao65 t175.length co65] 26 (0, 0)) (by (with_reducible repeat (first | refine blk_drewN ?_ _ | refine blk_drew ?_ | refine blk_alloc ?_ _)); exact BK179.out) hb)
  have n10_ := Aside0.mk (below_step (by repeat (first | (with_reducible first | exact HB.out | apply below_alloc | apply pw_below_drewN | apply below_drew1 | refine below_set ?_ GE152.out | refine below_set ?_ GE153.out | refine below_set ?_ GE166.out | refine below_set ?_ GE170.out | refine below_set ?_ GE174.out | refine below_set ?_ GE179.out) | exact HB.out)) hb)
  have n11_ := Aside0.mk (hbox)
  have n12_ := Aside0.mk ((by rw [hg]; exact (below_size (by repeat (first | (with_reducible first | exact HB.out | apply below_alloc | apply pw_below_drewN | apply below_drew1 | refine below_set ?_ GE152.out | refine below_set ?_ GE153.out | refine below_set ?_ GE166.out | refine below_set ?_ GE170.out | refine below_set ?_ GE174.out | refine below_set ?_ GE179.out) | exact HB.out))) : w.heap.size ≤ gb207))
  have n13_ := Aside0.mk ((by rw [hg]; exact (below_size (by repeat (first | (with_reducible first | exact HB.out | apply below_alloc | apply pw_below_drewN | apply below_drew1 | refine below_set ?_ GE152.out | refine below_set ?_ GE153.out | refine below_set ?_ GE166.out | refine below_set ?_ GE170.out | refine below_set ?_ GE174.out | refine below_set ?_ GE179.out) | exact HB.out))) : w.heap.size ≤ gb207))
  have n14_ := Aside0.mk ((by rw [hg]; exact Nat.ne_of_lt (blk_lt (g := gb152) (o := .cells #[.slice A0_0 l0_0.length c0_0] 24 (0, 0)) (by (with_reducible repeat (first | refine blk_drewN ?_ _ | refine blk_drew ?_ | refine blk_alloc ?_ _)); exact BK152.out)) : gb152 ≠ gb207))
  have n15_ := Aside0.mk ((by rw [hg]; exact Nat.ne_of_gt (blk_lt (g := gb152) (o := .cells #[.slice A0_0 l0_0.length c0_0] 24 (0, 0)) (by (with_reducible repeat (first | refine blk_drewN ?_ _ | refine blk_drew ?_ | refine blk_alloc ?_ _)); exact BK152.out)) : gb207 ≠ gb152))
  have n16_ := Aside0.mk ((by rw [hg]; exact Nat.ne_of_lt (blk_lt (g := gb153) (o := .cells #[.slice A1_0 l1_0.length c1_0] 24 (0, 0)) (by (with_reducible repeat (first | refine blk_drewN ?_ _ | refine blk_drew ?_ | refine blk_alloc ?_ _)); exact BK153.out)) : gb153 ≠ gb207))
  have n17_ := Aside0.mk ((by rw [hg]; exact Nat.ne_of_gt (blk_lt (g := gb153) (o := .cells #[.slice A1_0 l1_0.length c1_0] 24 (0, 0)) (by (with_reducible repeat (first | refine blk_drewN ?_ _ | refine blk_drew ?_ | refine blk_alloc ?_ _)); exact BK153.out)) : gb207 ≠ gb153))
  have n18_ := Aside0.mk ((by rw [hg]; exact Nat.ne_of_lt (blk_lt (g := gb166) (o := .cells #[.slice Ao41 t162.length co41] 26 (0, 0)) (by (with_reducible repeat (first | refine blk_drewN ?_ _ | refine blk_drew ?_ | refine blk_alloc ?_ _)); exact BK166.out)) : gb166 ≠ gb207))
  have n19_ := Aside0.mk ((by rw [hg]; exact Nat.ne_of_gt (blk_lt (g := gb166) (o := .cells #[.slice Ao41 t162.length co41] 26 (0, 0)) (by (with_reducible repeat (first | refine blk_drewN ?_ _ | refine blk_drew ?_ | refine blk_alloc ?_ _)); exact BK166.out)) : gb207 ≠ gb166))
  have n20_ := Aside0.mk ((by rw [hg]; exact Nat.ne_of_lt (blk_lt (g := gb170) (o := .cells #[.slice Ao47 t190.length co47] 26 (0, 0)) (by (with_reducible repeat (first | refine blk_drewN ?_ _ | refine blk_drew ?_ | refine blk_alloc ?_ _)); exact BK170.out)) : gb170 ≠ gb207))
  have n21_ := Aside0.mk ((by rw [hg]; exact Nat.ne_of_gt (blk_lt (g := gb170) (o := .cells #[.slice Ao47 t190.length co47] 26 (0, 0)) (by (with_reducible repeat (first | refine blk_drewN ?_ _ | refine blk_drew ?_ | refine blk_alloc ?_ _)); exact BK170.out)) : gb207 ≠ gb170))
  have n22_ := Aside0.mk ((by rw [hg]; exact Nat.ne_of_lt (blk_lt (g := gb174) (o := .cells #[.slice Ao56 t192.length co56] 26 (0, 0)) (by (with_reducible repeat (first | refine blk_drewN ?_ _ | refine blk_drew ?_ | refine blk_alloc ?_ _)); exact BK174.out)) : gb174 ≠ gb207))
  have n23_ := Aside0.mk ((by rw [hg]; exact Nat.ne_of_gt (blk_lt (g := gb174) (o := .cells #[.slice Ao56 t192.length co56] 26 (0, 0)) (by (with_reducible repeat (first | refine blk_drewN ?_ _ | refine blk_drew ?_ | refine blk_alloc ?_ _)); exact BK174.out)) : gb207 ≠ gb174))
  have n24_ := Aside0.mk ((by rw [hg]; exact Nat.ne_of_lt (blk_lt (g := gb179) (o := .cells #[.slice Ao65 t175.length co65] 26 (0, 0)) (by (with_reducible repeat (first | refine blk_drewN ?_ _ | refine blk_drew ?_ | refine blk_alloc ?_ _)); exact BK179.out)) : gb179 ≠ gb207))
  have n25_ := Aside0.mk ((by rw [hg]; exact Nat.ne_of_gt (blk_lt (g := gb179) (o := .cells #[.slice Ao65 t175.length co65] 26 (0, 0)) (by (with_reducible repeat (first | refine blk_drewN ?_ _ | refine blk_drew ?_ | refine blk_alloc ?_ _)); exact BK179.out)) : gb207 ≠ gb179))
  clear HO_167000
  clear HO_171000
  clear HO_175000
  clear HO_180000
  clear BK152
  clear BK153
  clear BK166
  clear BK170
  clear BK174
  clear BK179
  clear HB
  have HO_167000 := n0_
  have HO_171000 := n1_
  have HO_175000 := n2_
  have HO_180000 := n3_
  have BK152 := n4_
  have BK153 := n5_
  have BK166 := n6_
  have BK170 := n7_
  have BK174 := n8_
  have BK179 := n9_
  have HB := n10_
  have BK207 := n11_
  have GW207 := n12_
  have GE207 := n13_
  have NB152_207 := n14_
  have NB207_152 := n15_
  have NB153_207 := n16_
  have NB207_153 := n17_
  have NB166_207 := n18_
  have NB207_166 := n19_
  have NB170_207 := n20_
  have NB207_170 := n21_
  have NB174_207 := n22_
  have NB207_174 := n23_
  have NB179_207 := n24_
  have NB207_179 := n25_
  clear n0_ n1_ n2_ n3_ n4_ n5_ n6_ n7_ n8_ n9_ n10_ n11_ n12_ n13_ n14_ n15_ n16_ n17_ n18_ n19_ n20_ n21_ n22_ n23_ n24_ n25_
  clear hb hbox hg
  refine hK.out _ _ ⟨(blk_cell BK152.out 0).trans rfl, (blk_cell BK153.out 0).trans rfl⟩ (fun hHeld => ?_)
  clear hK K
  refine norm_ (a' := ?_) ?_ ?_
  rotate_left
  ·
   show Act.put _ (some 15) _ = _
   simp only [Act.put, List.setIfInBounds_toArray, List.set_cons_zero, List.set_cons_succ, i64_w, i32_w]
   rfl
  refine one_ (i := 1) (N := some 96) #[true, true, true, false, false, false, false, false, true, false, false] rfl rfl (one_of HT_.out (by kernel_rfl)) (by decide) (fun K hK => ?_)
  refine goes_ Try.func11 (by kernel_rfl) rfl #[.agg #[.slice A0_0 l0_0.length c0_0]] (by rfl) rfl rfl (by (try simp only [List.map_toArray, List.map_cons, List.map_nil]); first | done | rfl | (simp only [List.length_drop, List.length_take]; rfl)) ?_
  with_reducible refine (laws_toSketch.calls kj106 _ _ l0_0 t197 _ ?side1 ?side2 A170.out).mono ?_
  (case side1 => repeat (first | exact (Kd.C_below HR0_0.out HB.out) | (with_reducible refine Kd.C_alloc ?_ _) | (with_reducible refine Kd.C_drewN ?_ _) | (with_reducible refine Kd.C_drew ?_)))
  (case side2 => exact HC0_0.out)
  rintro e w185 ⟨v198, rfl, ho0, hb⟩
  refine ⟨_, rfl, ?_⟩
  have n0_ := Aside0.mk (Kd.R_elder' (by (with_reducible repeat (first | apply Kd.R_alloc | apply Kd.R_drewN | apply Kd.R_drew)); exact HO_167000.out) (Kd.R_base ho0) hb)
  have n1_ := Aside0.mk (Kd.R_elder' (by (with_reducible repeat (first | apply Kd.R_alloc | apply Kd.R_drewN | apply Kd.R_drew)); exact HO_171000.out) (Kd.R_base ho0) hb)
  have n2_ := Aside0.mk (Kd.R_elder' (by (with_reducible repeat (first | apply Kd.R_alloc | apply Kd.R_drewN | apply Kd.R_drew)); exact HO_175000.out) (Kd.R_base ho0) hb)
  have n3_ := Aside0.mk (Kd.R_elder' (by (with_reducible repeat (first | apply Kd.R_alloc | apply Kd.R_drewN | apply Kd.R_drew)); exact HO_180000.out) (Kd.R_base ho0) hb)
  have n4_ := Aside0.mk (Kd.R_lower (Kd.R_new' (Kd.R_new' (Kd.R_new' (Kd.R_new' ho0 (Kd.R_lt (by (with_reducible repeat (first | apply Kd.R_alloc | apply Kd.R_drewN | apply Kd.R_drew)); exact HO_167000.out))) (Kd.R_lt (by (with_reducible repeat (first | apply Kd.R_alloc | apply Kd.R_drewN | apply Kd.R_drew)); exact HO_171000.out))) (Kd.R_lt (by (with_reducible repeat (first | apply Kd.R_alloc | apply Kd.R_drewN | apply Kd.R_drew)); exact HO_175000.out))) (Kd.R_lt (by (with_reducible repeat (first | apply Kd.R_alloc | apply Kd.R_drewN | apply Kd.R_drew)); exact HO_180000.out))) (below_size (by repeat (first | (with_reducible first | exact HB.out | apply below_alloc | apply pw_below_drewN | apply below_drew1 | refine below_set ?_ GE152.out | refine below_set ?_ GE153.out | refine below_set ?_ GE166.out | refine below_set ?_ GE170.out | refine below_set ?_ GE174.out | refine below_set ?_ GE179.out | refine below_set ?_ GE207.out) | exact HB.out))))
  have n5_ := Aside0.mk (blk_below (g := gb152) (o := .cells #[.slice A0_0 l0_0.length c0_0] 24 (0, 0)) (by (with_reducible repeat (first | refine blk_drewN ?_ _ | refine blk_drew ?_ | refine blk_alloc ?_ _)); exact BK152.out) hb)
  have n6_ := Aside0.mk (blk_below (g := gb153) (o := .cells #[.slice A1_0 l1_0.length c1_0] 24 (0, 0)) (by (with_reducible repeat (first | refine blk_drewN ?_ _ | refine blk_drew ?_ | refine blk_alloc ?_ _)); exact BK153.out) hb)
  have n7_ := Aside0.mk (blk_below (g := gb166) (o := .cells #[.slice Ao41 t162.length co41] 26 (0, 0)) (by (with_reducible repeat (first | refine blk_drewN ?_ _ | refine blk_drew ?_ | refine blk_alloc ?_ _)); exact BK166.out) hb)
  have n8_ := Aside0.mk (blk_below (g := gb170) (o := .cells #[.slice Ao47 t190.length co47] 26 (0, 0)) (by (with_reducible repeat (first | refine blk_drewN ?_ _ | refine blk_drew ?_ | refine blk_alloc ?_ _)); exact BK170.out) hb)
  have n9_ := Aside0.mk (blk_below (g := gb174) (o := .cells #[.slice Ao56 t192.length co56] 26 (0, 0)) (by (with_reducible repeat (first | refine blk_drewN ?_ _ | refine blk_drew ?_ | refine blk_alloc ?_ _)); exact BK174.out) hb)
  have n10_ := Aside0.mk (blk_below (g := gb179) (o := .cells #[.slice Ao65 t175.length co65] 26 (0, 0)) (by (with_reducible repeat (first | refine blk_drewN ?_ _ | refine blk_drew ?_ | refine blk_alloc ?_ _)); exact BK179.out) hb)
  have n11_ := Aside0.mk (blk_below (g := gb207) (o := .cells #[.slice none 0 0] 26 (0, 0)) (by (with_reducible repeat (first | refine blk_drewN ?_ _ | refine blk_drew ?_ | refine blk_alloc ?_ _)); exact BK207.out) hb)
  have n12_ := Aside0.mk (below_step (by repeat (first | (with_reducible first | exact HB.out | apply below_alloc | apply pw_below_drewN | apply below_drew1 | refine below_set ?_ GE152.out | refine below_set ?_ GE153.out | refine below_set ?_ GE166.out | refine below_set ?_ GE170.out | refine below_set ?_ GE174.out | refine below_set ?_ GE179.out | refine below_set ?_ GE207.out) | exact HB.out)) hb)
  clear HO_167000
  clear HO_171000
  clear HO_175000
  clear HO_180000
  clear BK152
  clear BK153
  clear BK166
  clear BK170
  clear BK174
  clear BK179
  clear BK207
  clear HB
  have HO_167000 := n0_
  have HO_171000 := n1_
  have HO_175000 := n2_
  have HO_180000 := n3_
  have HO199 := n4_
  have BK152 := n5_
  have BK153 := n6_
  have BK166 := n7_
  have BK170 := n8_
  have BK174 := n9_
  have BK179 := n10_
  have BK207 := n11_
  have HB := n12_
  clear n0_ n1_ n2_ n3_ n4_ n5_ n6_ n7_ n8_ n9_ n10_ n11_ n12_
  (try clear hb)
  (try clear hb2)
  (try clear hk)
  (try clear hi)
  (try clear ho0)
  refine hK.out _ _ ⟨(blk_cell BK152.out 0).trans rfl, (blk_cell BK153.out 0).trans rfl⟩ (fun hHeld => ?_)
  clear hK K
  refine norm_ (a' := ?_) ?_ ?_
  rotate_left
  ·
   show Act.put _ (some 96) _ = _
   simp only [Act.put, List.setIfInBounds_toArray, List.set_cons_zero, List.set_cons_succ, i64_w, i32_w]
   rfl
  refine one_ (i := 3) (N := some 98) #[true, true, true, true, false, false, false, false, true, false, false] rfl rfl (one_of HT_.out (by kernel_rfl)) (by decide) (fun K hK => ?_)
  refine goes_ Try.func11 (by kernel_rfl) rfl #[.agg #[.slice A1_0 l1_0.length c1_0]] (by rfl) rfl rfl (by (try simp only [List.map_toArray, List.map_cons, List.map_nil]); first | done | rfl | (simp only [List.length_drop, List.length_take]; rfl)) ?_
  with_reducible refine (laws_toSketch.calls kj106 _ _ l1_0 t200 _ ?side1 ?side2 A171.out).mono ?_
  (case side1 => repeat (first | exact (Kd.C_below HR1_0.out HB.out) | (with_reducible refine Kd.C_alloc ?_ _) | (with_reducible refine Kd.C_drewN ?_ _) | (with_reducible refine Kd.C_drew ?_)))
  (case side2 => exact HC1_0.out)
  rintro e w186 ⟨v201, rfl, ho0, hb⟩
  refine ⟨_, rfl, ?_⟩
  have n0_ := Aside0.mk (Kd.R_elder' (by (with_reducible repeat (first | apply Kd.R_alloc | apply Kd.R_drewN | apply Kd.R_drew)); exact HO_167000.out) (Kd.R_base ho0) hb)
  have n1_ := Aside0.mk (Kd.R_elder' (by (with_reducible repeat (first | apply Kd.R_alloc | apply Kd.R_drewN | apply Kd.R_drew)); exact HO_171000.out) (Kd.R_base ho0) hb)
  have n2_ := Aside0.mk (Kd.R_elder' (by (with_reducible repeat (first | apply Kd.R_alloc | apply Kd.R_drewN | apply Kd.R_drew)); exact HO_175000.out) (Kd.R_base ho0) hb)
  have n3_ := Aside0.mk (Kd.R_elder' (by (with_reducible repeat (first | apply Kd.R_alloc | apply Kd.R_drewN | apply Kd.R_drew)); exact HO_180000.out) (Kd.R_base ho0) hb)
  have n4_ := Aside0.mk (Kd.R_elder' (by (with_reducible repeat (first | apply Kd.R_alloc | apply Kd.R_drewN | apply Kd.R_drew)); exact HO199.out) (Kd.R_base ho0) hb)
  have n5_ := Aside0.mk (Kd.R_lower (Kd.R_new' (Kd.R_new' (Kd.R_new' (Kd.R_new' (Kd.R_new' ho0 (Kd.R_lt (by (with_reducible repeat (first | apply Kd.R_alloc | apply Kd.R_drewN | apply Kd.R_drew)); exact HO_167000.out))) (Kd.R_lt (by (with_reducible repeat (first | apply Kd.R_alloc | apply Kd.R_drewN | apply Kd.R_drew)); exact HO_171000.out))) (Kd.R_lt (by (with_reducible repeat (first | apply Kd.R_alloc | apply Kd.R_drewN | apply Kd.R_drew)); exact HO_175000.out))) (Kd.R_lt (by (with_reducible repeat (first | apply Kd.R_alloc | apply Kd.R_drewN | apply Kd.R_drew)); exact HO_180000.out))) (Kd.R_lt (by (with_reducible repeat (first | apply Kd.R_alloc | apply Kd.R_drewN | apply Kd.R_drew)); exact HO199.out))) (below_size (by repeat (first | (with_reducible first | exact HB.out | apply below_alloc | apply pw_below_drewN | apply below_drew1 | refine below_set ?_ GE152.out | refine below_set ?_ GE153.out | refine below_set ?_ GE166.out | refine below_set ?_ GE170.out | refine below_set ?_ GE174.out | refine below_set ?_ GE179.out | refine below_set ?_ GE207.out) | exact HB.out))))
  have n6_ := Aside0.mk (blk_below (g := gb152) (o := .cells #[.slice A0_0 l0_0.length c0_0] 24 (0, 0)) (by (with_reducible repeat (first | refine blk_drewN ?_ _ | refine blk_drew ?_ | refine blk_alloc ?_ _)); exact BK152.out) hb)
  have n7_ := Aside0.mk (blk_below (g := gb153) (o := .cells #[.slice A1_0 l1_0.length c1_0] 24 (0, 0)) (by (with_reducible repeat (first | refine blk_drewN ?_ _ | refine blk_drew ?_ | refine blk_alloc ?_ _)); exact BK153.out) hb)
  have n8_ := Aside0.mk (blk_below (g := gb166) (o := .cells #[.slice Ao41 t162.length co41] 26 (0, 0)) (by (with_reducible repeat (first | refine blk_drewN ?_ _ | refine blk_drew ?_ | refine blk_alloc ?_ _)); exact BK166.out) hb)
  have n9_ := Aside0.mk (blk_below (g := gb170) (o := .cells #[.slice Ao47 t190.length co47] 26 (0, 0)) (by (with_reducible repeat (first | refine blk_drewN ?_ _ | refine blk_drew ?_ | refine blk_alloc ?_ _)); exact BK170.out) hb)
  have n10_ := Aside0.mk (blk_below (g := gb174) (o := .cells #[.slice Ao56 t192.length co56] 26 (0, 0)) (by (with_reducible repeat (first | refine blk_drewN ?_ _ | refine blk_drew ?_ | refine blk_alloc ?_ _)); exact BK174.out) hb)
  have n11_ := Aside0.mk (blk_below (g := gb179) (o := .cells #[.slice Ao65 t175.length co65] 26 (0, 0)) (by (with_reducible repeat (first | refine blk_drewN ?_ _ | refine blk_drew ?_ | refine blk_alloc ?_ _)); exact BK179.out) hb)
  have n12_ := Aside0.mk (blk_below (g := gb207) (o := .cells #[.slice none 0 0] 26 (0, 0)) (by (with_reducible repeat (first | refine blk_drewN ?_ _ | refine blk_drew ?_ | refine blk_alloc ?_ _)); exact BK207.out) hb)
  have n13_ := Aside0.mk (below_step (by repeat (first | (with_reducible first | exact HB.out | apply below_alloc | apply pw_below_drewN | apply below_drew1 | refine below_set ?_ GE152.out | refine below_set ?_ GE153.out | refine below_set ?_ GE166.out | refine below_set ?_ GE170.out | refine below_set ?_ GE174.out | refine below_set ?_ GE179.out | refine below_set ?_ GE207.out) | exact HB.out)) hb)
  clear HO_167000
  clear HO_171000
  clear HO_175000
  clear HO_180000
  clear HO199
  clear BK152
  clear BK153
  clear BK166
  clear BK170
  clear BK174
  clear BK179
  clear BK207
  clear HB
  have HO_167000 := n0_
  have HO_171000 := n1_
  have HO_175000 := n2_
  have HO_180000 := n3_
  have HO199 := n4_
  have HO202 := n5_
  have BK152 := n6_
  have BK153 := n7_
  have BK166 := n8_
  have BK170 := n9_
  have BK174 := n10_
  have BK179 := n11_
  have BK207 := n12_
  have HB := n13_
  clear n0_ n1_ n2_ n3_ n4_ n5_ n6_ n7_ n8_ n9_ n10_ n11_ n12_ n13_
  (try clear hb)
  (try clear hb2)
  (try clear hk)
  (try clear hi)
  (try clear ho0)
  obtain ⟨Ao187, co187, eo187⟩ := Kd.R_slice HO199.out
  (first | subst eo187 | (injection eo187 with f1_ f2_ f3_; have f4_ := f1_.symm; have f5_ := f3_.symm; clear f1_ f2_ f3_; subst f4_; subst f5_))
  obtain ⟨Ao188, co188, eo188⟩ := Kd.R_slice HO202.out
  (first | subst eo188 | (injection eo188 with f1_ f2_ f3_; have f4_ := f1_.symm; have f5_ := f3_.symm; clear f1_ f2_ f3_; subst f4_; subst f5_))
  refine hK.out _ _ ⟨(blk_cell BK152.out 0).trans rfl, (blk_cell BK153.out 0).trans rfl⟩ (fun hHeld => ?_)
  clear hK K
  refine norm_ (a' := ?_) ?_ ?_
  rotate_left
  ·
   show Act.put _ (some 98) _ = _
   simp only [Act.put, List.setIfInBounds_toArray, List.set_cons_zero, List.set_cons_succ, i64_w, i32_w]
   rfl
  refine one_ (i := 4) (N := some 99) #[true, true, true, true, true, false, false, false, true, false, false] rfl rfl (one_of HT_.out (by kernel_rfl)) (by decide) (fun K hK => ?_)
  refine goes_ Try.func12 (by kernel_rfl) rfl #[.agg #[.slice Ao187 t197.length co187], .agg #[.slice Ao188 t200.length co188]] (by rfl) rfl rfl (by (try simp only [List.map_toArray, List.map_cons, List.map_nil]); first | done | rfl | (simp only [List.length_drop, List.length_take]; rfl)) ?_
  with_reducible refine (impl_SketchJoin.calls kj106 _ _ t197 _ _ t200 t203 t206 _ ?side1 ?side2 ?side3 ?side4 A172.out).mono ?_
  (case side1 => repeat (first | exact (Kd.R_reads' HO199.out).2.2 | (with_reducible refine Kd.C_alloc ?_ _) | (with_reducible refine Kd.C_drewN ?_ _) | (with_reducible refine Kd.C_drew ?_)))
  (case side2 => exact (Kd.R_reads' HO199.out).2.1)
  (case side3 => repeat (first | exact (Kd.R_reads' HO202.out).2.2 | (with_reducible refine Kd.C_alloc ?_ _) | (with_reducible refine Kd.C_drewN ?_ _) | (with_reducible refine Kd.C_drew ?_)))
  (case side4 => exact (Kd.R_reads' HO202.out).2.1)
  rintro e w189 ⟨v204, rfl, ho0, hb⟩
  refine ⟨_, rfl, ?_⟩
  have n0_ := Aside0.mk (Kd.R_elder' (by (with_reducible repeat (first | apply Kd.R_alloc | apply Kd.R_drewN | apply Kd.R_drew)); exact HO_167000.out) (Kd.R_base ho0) hb)
  have n1_ := Aside0.mk (Kd.R_elder' (by (with_reducible repeat (first | apply Kd.R_alloc | apply Kd.R_drewN | apply Kd.R_drew)); exact HO_171000.out) (Kd.R_base ho0) hb)
  have n2_ := Aside0.mk (Kd.R_elder' (by (with_reducible repeat (first | apply Kd.R_alloc | apply Kd.R_drewN | apply Kd.R_drew)); exact HO_175000.out) (Kd.R_base ho0) hb)
  have n3_ := Aside0.mk (Kd.R_elder' (by (with_reducible repeat (first | apply Kd.R_alloc | apply Kd.R_drewN | apply Kd.R_drew)); exact HO_180000.out) (Kd.R_base ho0) hb)
  have n4_ := Aside0.mk (Kd.R_elder' (by (with_reducible repeat (first | apply Kd.R_alloc | apply Kd.R_drewN | apply Kd.R_drew)); exact HO199.out) (Kd.R_base ho0) hb)
  have n5_ := Aside0.mk (Kd.R_elder' (by (with_reducible repeat (first | apply Kd.R_alloc | apply Kd.R_drewN | apply Kd.R_drew)); exact HO202.out) (Kd.R_base ho0) hb)
  have n6_ := Aside0.mk (Kd.R_lower (Kd.R_new' (Kd.R_new' (Kd.R_new' (Kd.R_new' (Kd.R_new' (Kd.R_new' ho0 (Kd.R_lt (by (with_reducible repeat (first | apply Kd.R_alloc | apply Kd.R_drewN | apply Kd.R_drew)); exact HO_167000.out))) (Kd.R_lt (by (with_reducible repeat (first | apply Kd.R_alloc | apply Kd.R_drewN | apply Kd.R_drew)); exact HO_171000.out))) (Kd.R_lt (by (with_reducible repeat (first | apply Kd.R_alloc | apply Kd.R_drewN | apply Kd.R_drew)); exact HO_175000.out))) (Kd.R_lt (by (with_reducible repeat (first | apply Kd.R_alloc | apply Kd.R_drewN | apply Kd.R_drew)); exact HO_180000.out))) (Kd.R_lt (by (with_reducible repeat (first | apply Kd.R_alloc | apply Kd.R_drewN | apply Kd.R_drew)); exact HO199.out))) (Kd.R_lt (by (with_reducible repeat (first | apply Kd.R_alloc | apply Kd.R_drewN | apply Kd.R_drew)); exact HO202.out))) (below_size (by repeat (first | (with_reducible first | exact HB.out | apply below_alloc | apply pw_below_drewN | apply below_drew1 | refine below_set ?_ GE152.out | refine below_set ?_ GE153.out | refine below_set ?_ GE166.out | refine below_set ?_ GE170.out | refine below_set ?_ GE174.out | refine below_set ?_ GE179.out | refine below_set ?_ GE207.out) | exact HB.out))))
  have n7_ := Aside0.mk (blk_below (g := gb152) (o := .cells #[.slice A0_0 l0_0.length c0_0] 24 (0, 0)) (by (with_reducible repeat (first | refine blk_drewN ?_ _ | refine blk_drew ?_ | refine blk_alloc ?_ _)); exact BK152.out) hb)
  have n8_ := Aside0.mk (blk_below (g := gb153) (o := .cells #[.slice A1_0 l1_0.length c1_0] 24 (0, 0)) (by (with_reducible repeat (first | refine blk_drewN ?_ _ | refine blk_drew ?_ | refine blk_alloc ?_ _)); exact BK153.out) hb)
  have n9_ := Aside0.mk (blk_below (g := gb166) (o := .cells #[.slice Ao41 t162.length co41] 26 (0, 0)) (by (with_reducible repeat (first | refine blk_drewN ?_ _ | refine blk_drew ?_ | refine blk_alloc ?_ _)); exact BK166.out) hb)
  have n10_ := Aside0.mk (blk_below (g := gb170) (o := .cells #[.slice Ao47 t190.length co47] 26 (0, 0)) (by (with_reducible repeat (first | refine blk_drewN ?_ _ | refine blk_drew ?_ | refine blk_alloc ?_ _)); exact BK170.out) hb)
  have n11_ := Aside0.mk (blk_below (g := gb174) (o := .cells #[.slice Ao56 t192.length co56] 26 (0, 0)) (by (with_reducible repeat (first | refine blk_drewN ?_ _ | refine blk_drew ?_ | refine blk_alloc ?_ _)); exact BK174.out) hb)
  have n12_ := Aside0.mk (blk_below (g := gb179) (o := .cells #[.slice Ao65 t175.length co65] 26 (0, 0)) (by (with_reducible repeat (first | refine blk_drewN ?_ _ | refine blk_drew ?_ | refine blk_alloc ?_ _)); exact BK179.out) hb)
  have n13_ := Aside0.mk (blk_below (g := gb207) (o := .cells #[.slice none 0 0] 26 (0, 0)) (by (with_reducible repeat (first | refine blk_drewN ?_ _ | refine blk_drew ?_ | refine blk_alloc ?_ _)); exact BK207.out) hb)
  have n14_ := Aside0.mk (below_step (by repeat (first | (with_reducible first | exact HB.out | apply below_alloc | apply pw_below_drewN | apply below_drew1 | refine below_set ?_ GE152.out | refine below_set ?_ GE153.out | refine below_set ?_ GE166.out | refine below_set ?_ GE170.out | refine below_set ?_ GE174.out | refine below_set ?_ GE179.out | refine below_set ?_ GE207.out) | exact HB.out)) hb)
  clear HO_167000
  clear HO_171000
  clear HO_175000
  clear HO_180000
  clear HO199
  clear HO202
  clear BK152
  clear BK153
  clear BK166
  clear BK170
  clear BK174
  clear BK179
  clear BK207
  clear HB
  have HO_167000 := n0_
  have HO_171000 := n1_
  have HO_175000 := n2_
  have HO_180000 := n3_
  have HO199 := n4_
  have HO202 := n5_
  have HO205 := n6_
  have BK152 := n7_
  have BK153 := n8_
  have BK166 := n9_
  have BK170 := n10_
  have BK174 := n11_
  have BK179 := n12_
  have BK207 := n13_
  have HB := n14_
  clear n0_ n1_ n2_ n3_ n4_ n5_ n6_ n7_ n8_ n9_ n10_ n11_ n12_ n13_ n14_
  (try clear hb)
  (try clear hb2)
  (try clear hk)
  (try clear hi)
  (try clear ho0)
  refine hK.out _ _ ⟨(blk_cell BK152.out 0).trans rfl, (blk_cell BK153.out 0).trans rfl⟩ (fun hHeld => ?_)
  clear hK K
  refine norm_ (a' := ?_) ?_ ?_
  rotate_left
  ·
   show Act.put _ (some 99) _ = _
   simp only [Act.put, List.setIfInBounds_toArray, List.set_cons_zero, List.set_cons_succ, i64_w, i32_w]
   rfl
  refine pure_ (i := 5) (N := some 94) (v := ?_) (a' := ?_) #[true, true, true, true, true, true, false, false, true, false, false] rfl rfl (any_of HT_.out (by kernel_rfl)) (fun _ _ _ h => h) (Or.inl ⟨by rfl, ?_⟩) ?_ ?_
  rotate_left
  ·
   intro w'
   go_simp
   with_reducible rfl
  rotate_left
  ·
   simp only [Act.put, List.setIfInBounds_toArray, List.set_cons_zero, List.set_cons_succ, i64_w, i32_w]
   rfl
  refine pure_ (i := 6) (N := some 100) (v := ?_) (a' := ?_) #[true, true, true, true, true, true, true, false, true, false, false] rfl rfl (any_of HT_.out (by kernel_rfl)) (fun _ _ _ h => h) (Or.inl ⟨by rfl, ?_⟩) ?_ ?_
  rotate_left
  ·
   intro w'
   go_simp
   with_reducible rfl
  rotate_left
  ·
   simp only [Act.put, List.setIfInBounds_toArray, List.set_cons_zero, List.set_cons_succ, i64_w, i32_w]
   rfl
  refine pure_ (i := 7) (N := some 101) (v := ?_) (a' := ?_) #[true, true, true, true, true, true, true, true, true, false, false] rfl rfl (any_of HT_.out (by kernel_rfl)) (fun _ _ _ h => h) (Or.inl ⟨by rfl, ?_⟩) ?_ ?_
  rotate_left
  ·
   intro w'
   go_simp
   with_reducible rfl
  rotate_left
  ·
   simp only [Act.put, List.setIfInBounds_toArray, List.set_cons_zero, List.set_cons_succ, i64_w, i32_w]
   rfl
  exact norm_ (by simp only [putAll, Act.put, List.setIfInBounds_toArray, List.set_cons_zero, List.set_cons_succ]) (hCont (.slice Ao187 t197.length co187, .slice Ao188 t200.length co188, v204, gb207) _ ⟨hHeld, (by (with_reducible repeat (first | apply Kd.R_alloc | apply Kd.R_drewN | apply Kd.R_drew)); exact Kd.R_mono HO199.out (fun _ hk => ⟨hk.1.2, ⟨hk.2, ⟨hk.1.1.1.1.1.2, ⟨hk.1.1.1.1.2, ⟨hk.1.1.1.2, hk.1.1.2⟩⟩⟩⟩⟩)), (by (with_reducible repeat (first | apply Kd.R_alloc | apply Kd.R_drewN | apply Kd.R_drew)); exact Kd.R_mono HO202.out (fun _ hk => ⟨hk.1.2, ⟨hk.2, ⟨hk.1.1.1.1.1.2, ⟨hk.1.1.1.1.2, ⟨hk.1.1.1.2, hk.1.1.2⟩⟩⟩⟩⟩)), (by (with_reducible repeat (first | apply Kd.R_alloc | apply Kd.R_drewN | apply Kd.R_drew)); exact Kd.R_mono HO205.out (fun _ hk => ⟨hk.1.2, ⟨hk.2, ⟨hk.1.1.1.1.1.2, ⟨hk.1.1.1.1.2, ⟨hk.1.1.1.2, hk.1.1.2⟩⟩⟩⟩⟩)), (by (with_reducible repeat (first | apply Kd.R_alloc | apply Kd.R_drewN | apply Kd.R_drew)); exact Kd.R_mono HO_167000.out (fun _ hk => ⟨hk.1.1.2, ⟨hk.1.2, ⟨hk.2, ⟨hk.1.1.1.1, ⟨hk.1.1.1.2.1, hk.1.1.1.2.2⟩⟩⟩⟩⟩)), (by (with_reducible repeat (first | apply Kd.R_alloc | apply Kd.R_drewN | apply Kd.R_drew)); exact Kd.R_mono HO_171000.out (fun _ hk => ⟨hk.1.1.2, ⟨hk.1.2, ⟨hk.2, ⟨hk.1.1.1.1, ⟨hk.1.1.1.2.1, hk.1.1.1.2.2⟩⟩⟩⟩⟩)), (by (with_reducible repeat (first | apply Kd.R_alloc | apply Kd.R_drewN | apply Kd.R_drew)); exact Kd.R_mono HO_175000.out (fun _ hk => ⟨hk.1.1.2, ⟨hk.1.2, ⟨hk.2, ⟨hk.1.1.1.1, ⟨hk.1.1.1.2.1, hk.1.1.1.2.2⟩⟩⟩⟩⟩)), (by (with_reducible repeat (first | apply Kd.R_alloc | apply Kd.R_drewN | apply Kd.R_drew)); exact Kd.R_mono HO_180000.out (fun _ hk => ⟨hk.1.1.2, ⟨hk.1.2, ⟨hk.2, ⟨hk.1.1.1.1, ⟨hk.1.1.1.2.1, hk.1.1.1.2.2⟩⟩⟩⟩⟩)), (by (with_reducible repeat (first | refine blk_drewN ?_ _ | refine blk_drew ?_ | refine blk_alloc ?_ _)); exact BK152.out), (by (with_reducible repeat (first | refine blk_drewN ?_ _ | refine blk_drew ?_ | refine blk_alloc ?_ _)); exact BK153.out), (by (with_reducible repeat (first | refine blk_drewN ?_ _ | refine blk_drew ?_ | refine blk_alloc ?_ _)); exact BK166.out), (by (with_reducible repeat (first | refine blk_drewN ?_ _ | refine blk_drew ?_ | refine blk_alloc ?_ _)); exact BK170.out), (by (with_reducible repeat (first | refine blk_drewN ?_ _ | refine blk_drew ?_ | refine blk_alloc ?_ _)); exact BK174.out), (by (with_reducible repeat (first | refine blk_drewN ?_ _ | refine blk_drew ?_ | refine blk_alloc ?_ _)); exact BK179.out), (by (with_reducible repeat (first | refine blk_drewN ?_ _ | refine blk_drew ?_ | refine blk_alloc ?_ _)); exact BK207.out), GW207.out, GE207.out, NB152_207.out, NB207_152.out, NB153_207.out, NB207_153.out, NB166_207.out, NB207_166.out, NB170_207.out, NB207_170.out, NB174_207.out, NB207_174.out, NB179_207.out, NB207_179.out, (by repeat (first | (with_reducible first | exact HB.out | apply below_alloc | apply pw_below_drewN | apply below_drew1 | refine below_set ?_ GE152.out | refine below_set ?_ GE153.out | refine below_set ?_ GE166.out | refine below_set ?_ GE170.out | refine below_set ?_ GE174.out | refine below_set ?_ GE179.out | refine below_set ?_ GE207.out) | exact HB.out))⟩)
end Go.Proofs.Ytchoncnahlcfjaa.XFnExactSketchJoin
