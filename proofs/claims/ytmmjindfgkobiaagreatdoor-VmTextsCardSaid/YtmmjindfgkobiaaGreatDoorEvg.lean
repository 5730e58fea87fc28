/- The abstract evaluator of the machine (part Evg): definitions and the proof that it is sound. No condition. -/
import Derived.Test.YtmmjindfgkobiaaGreatDoorEvf
/- Twins of the evaluator's functions, in a form that the kernel reduces quickly (printed by wip/fast). -/
noncomputable section
namespace Go.AE
set_option linter.unusedVariables false
abbrev SubQ := FFrame → Heap → (AVal → Heap → Res) → Res
abbrev DrawQ := Seen → FEnv → Heap → Res
abbrev Nx := FConf → Res
abbrev Ot := AVal → Heap → Res
abbrev StepQ := Ctx → SubQ → FConf → Nx → Ot → List AItem → Res
def ofValueQ : (@Value → @AVal) :=
  (fun x0 => (@Value.rec.{1} (fun _ => @AVal) (fun _ => @PUnit.{1}) (fun _ => @PUnit.{1}) (fun x4 => (@AVal.bool x4)) (fun x5 => (fun x6 => (@AVal.int x5 x6))) (fun _ => (fun _ => (@ofValue x0))) (fun _ => (fun _ => (fun _ => (@ofValue x0)))) (fun x12 => (@AVal.str (@Array.toList.{0} @UInt8 (@ByteArray.data x12)))) (fun _ => (@ofValue x0)) (fun _ => (fun _ => (fun _ => (@ofValue x0)))) (fun _ => (@ofValue x0)) (fun _ => (@ofValue x0)) (fun _ => (fun _ => (fun _ => (fun _ => (fun _ => (@ofValue x0)))))) (@ofValue x0) (fun _ => (fun x25 => (fun _ => (@ofValue x0)))) (@ofValue x0) (fun _ => (fun _ => (@ofValue x0))) (fun _ => (fun _ => (@ofValue x0))) (fun _ => (fun _ => @PUnit.unit.{1})) @PUnit.unit.{1} (fun x35 => (fun _ => (fun _ => (fun _ => @PUnit.unit.{1})))) x0))
def evalOpQ : (@Operand → (@Ctx → (@FEnv → @AVal))) :=
  (fun x0 => (@Operand.rec.{1} (fun _ => (@Ctx → (@FEnv → @AVal))) (fun x4 => (fun _ => (fun x6 => (@FEnv.get x6 x4)))) (fun x7 => (fun _ => (fun _ => (@ofValueQ x7)))) (fun x10 => (fun x11 => (fun _ => (@Ctx.G x11 x10)))) (fun x13 => (fun _ => (fun _ => (@AVal.func (@AFn.func x13) (@List.nil.{0} @AVal))))) x0))
def evalOpsQ : ((@List.{0} @Operand) → (@Ctx → (@FEnv → (@List.{0} @AVal)))) :=
  (fun x0 => (@List.rec.{1, 0} @Operand (fun _ => (@Ctx → (@FEnv → (@List.{0} @AVal)))) (fun _ => (fun _ => (@List.nil.{0} @AVal))) (fun x6 => (fun _ => (fun x8 => (fun x11 => (fun x12 => (@List.cons.{0} @AVal (@evalOpQ x6 x11 x12) (x8 x11 x12))))))) x0))
def optVQ : ((@Option.{0} @Operand) → (@Ctx → (@FEnv → (@Option.{0} @AVal)))) :=
  (fun x0 => (@Option.rec.{1, 0} @Operand (fun _ => (@Ctx → (@FEnv → (@Option.{0} @AVal)))) (fun _ => (fun _ => (@Option.none.{0} @AVal))) (fun x6 => (fun x7 => (fun x8 => (@Option.some.{0} @AVal (@evalOpQ x6 x7 x8))))) x0))
def evalPartsQ : ((@List.{0} (@Prod.{0, 0} @Nat @Operand)) → (@Ctx → (@FEnv → (@List.{0} (@Prod.{0, 0} @Nat @AVal))))) :=
  (fun x0 => (@List.rec.{1, 0} (@Prod.{0, 0} @Nat @Operand) (fun _ => (@Ctx → (@FEnv → (@List.{0} (@Prod.{0, 0} @Nat @AVal))))) (fun _ => (fun _ => (@List.nil.{0} (@Prod.{0, 0} @Nat @AVal)))) (fun x6 => (fun _ => (fun x8 => (fun x11 => (fun x12 => (@List.cons.{0} (@Prod.{0, 0} @Nat @AVal) (@Prod.mk.{0, 0} @Nat @AVal (@Prod.fst.{0, 0} @Nat @Operand x6) (@evalOpQ (@Prod.snd.{0, 0} @Nat @Operand x6) x11 x12)) (x8 x11 x12))))))) x0))
def opCallQ : (@Callee → (@Ctx → (@Heap → (@FEnv → ((@List.{0} @Nat) → ((@List.{0} @Operand) → ((@ANext → @Res) → @Res))))))) :=
  (fun x0 => (@Callee.rec.{1} (fun _ => (@Ctx → (@Heap → (@FEnv → ((@List.{0} @Nat) → ((@List.{0} @Operand) → ((@ANext → @Res) → @Res))))))) (fun x9 => (fun x10 => (fun _ => (fun x12 => (fun _ => (fun x14 => (fun x15 => (@opCallV_F (@evalOpQ x9 x10 x12) x10 (@evalOpsQ x14 x10 x12) x15)))))))) (fun _ => (fun _ => (fun _ => (fun _ => (fun _ => (fun _ => (fun _ => (fun _ => @False)))))))) (fun x26 => (fun x27 => (fun x28 => (fun x29 => (fun x30 => (fun x31 => (fun x32 => (@opBuiltin_F x26 x27 x28 x30 (@evalOpsQ x31 x27 x29) x32)))))))) x0))
def aOperQ : (@Op → (@Ctx → (@Heap → (@FEnv → ((@ANext → @Res) → @Res))))) :=
  (fun x0 => (@Op.rec.{1} (fun _ => (@Ctx → (@Heap → (@FEnv → ((@ANext → @Res) → @Res))))) (fun x7 => (fun x8 => (fun x9 => (fun x10 => (fun x11 => (x11 (@ANext.value (@evalOpQ x7 x8 x10) x9))))))) (fun x13 => (fun x14 => (fun x15 => (fun x16 => (fun x17 => (x17 (@ANext.value (@evalOpQ x13 x14 x16) x15))))))) (fun x19 => (fun x20 => (fun x21 => (fun x22 => (fun x23 => (fun x24 => (fun x25 => (@opPick_F (@evalOpQ x19 x22 x24) (@evalOpQ x20 x22 x24) (@evalOpQ x21 x22 x24) x23 x25)))))))) (fun x27 => (fun x28 => (fun x29 => (fun _ => (fun x31 => (@Bool.rec.{1} (fun _ => @Res) @False (x31 (@ANext.value (@AVal.ptr (@Heap.next x29) (nat_lit 0)) (@Heap.new_F x29 (@AObj.cells (@sizeT x28 x27) (@cellsOf_F (@zeroT x28 x27)) x27)))) (@hasZero x28 x27))))))) (fun x34 => (fun x35 => (fun x36 => (fun x37 => (fun x38 => (fun x39 => (@Bool.rec.{1} (fun _ => @Res) @False (x39 (@ANext.value (@AVal.ptr (@Heap.next x37) (nat_lit 0)) (@Heap.new_F x37 (@AObj.cells (@len @AVal (@cellsOf_F (@evalOpQ x35 x36 x38))) (@cellsOf_F (@evalOpQ x35 x36 x38)) x34)))) (@allB_F @AVal @oneCell_F (@cellsOf_F (@evalOpQ x35 x36 x38)))))))))) (fun x42 => (fun x43 => (fun x44 => (fun x45 => (fun x46 => (fun x47 => (@aBuild_F (@Program.underlying (@Ctx.P x44) x42) x44 x42 (@evalPartsQ (@Array.toList.{0} (@Prod.{0, 0} @Nat @Operand) x43) x44 x46) (fun x49 => (x47 (@ANext.value x49 x45)))))))))) (fun x50 => (fun x51 => (fun x52 => (fun x53 => (fun x54 => (fun x55 => (fun x56 => (@aBuildSlice_F (@elemT x53 x50) x53 x54 x51 (@evalPartsQ (@Array.toList.{0} (@Prod.{0, 0} @Nat @Operand) x52) x53 x55) (fun x58 => (fun x59 => (x56 (@ANext.value x58 x59)))))))))))) (fun _ => (fun _ => (fun _ => (fun _ => (fun _ => (fun _ => (fun _ => (fun _ => @False)))))))) (fun x69 => (fun x70 => (fun x71 => (fun x72 => (fun x73 => (fun x74 => (@aLoad_F (@evalOpQ x70 x71 x73) x71 x72 x69 (fun x76 => (x74 (@ANext.value x76 x72)))))))))) (fun x77 => (fun x78 => (fun x79 => (fun x80 => (fun x81 => (fun x82 => (fun x83 => (@aStore_F (@evalOpQ x78 x80 x82) x80 x81 x77 (@evalOpQ x79 x80 x82) (fun x85 => (x83 (@ANext.skip x85))))))))))) (fun _ => (fun _ => (fun _ => (fun _ => (fun _ => @False))))) (fun _ => (fun _ => (fun _ => (fun _ => (fun _ => @False))))) (fun x98 => (fun x99 => (fun x100 => (fun x101 => (fun x102 => (@opNilCheck_F (@evalOpQ x98 x99 x101) x100 x102)))))) (fun x104 => (fun x105 => (fun x106 => (fun x107 => (fun _ => (fun x109 => (fun x110 => (fun x111 => (fun x112 => (@aBinOp_F (@evalOpQ x106 x109 x111) x109 x104 x105 (@evalOpQ x107 x109 x111) (fun x114 => (x112 (@ANext.value x114 x110))))))))))))) (fun x115 => (fun _ => (fun x117 => (fun x118 => (fun x119 => (fun x120 => (fun x121 => (@aUnOp_F x115 (@evalOpQ x117 x118 x120) (fun x123 => (x121 (@ANext.value x123 x119))))))))))) (fun x124 => (fun x125 => (fun x126 => (fun x127 => (fun x128 => (fun x129 => (fun x130 => (@aConvert_F (@Program.underlying (@Ctx.P x127) x124) x127 x128 x125 (@evalOpQ x126 x127 x129) (fun x132 => (fun x133 => (x130 (@ANext.value x132 x133)))))))))))) (fun _ => (fun _ => (fun _ => (fun _ => (fun _ => (fun _ => @False)))))) (fun x141 => (fun x142 => (fun x143 => (fun x144 => (fun x145 => (fun x146 => (@Bool.rec.{1} (fun _ => @Res) @False (x146 (@ANext.value (@AVal.iface x141 (@evalOpQ x142 x143 x145)) x144)) (@isConcreteT x143 x141)))))))) (fun x149 => (fun x150 => (fun x151 => (fun x152 => (fun x153 => (fun x154 => (fun x155 => (@opMakeFunc_F x149 x153 (@Array.toList.{0} @Operand x150) (@evalOpsQ (@Array.toList.{0} @Operand x151) x152 x154) x155)))))))) (fun x157 => (fun x158 => (fun x159 => (fun x160 => (fun _ => (fun x162 => (@opMakeMap_F x158 x159 x160 x157 x162))))))) (fun _ => (fun _ => (fun _ => (fun _ => (fun _ => (fun _ => @False)))))) (fun x171 => (fun x172 => (fun x173 => (fun x174 => (fun x175 => (fun x176 => (fun x177 => (@aMakeSlice_F (@elemT x174 x171) x174 x175 (@evalOpQ x172 x174 x176) (@evalOpQ x173 x174 x176) (fun x179 => (fun x180 => (x177 (@ANext.value x179 x180)))))))))))) (fun x181 => (fun x182 => (fun x183 => (fun x184 => (fun x185 => (fun x186 => (fun x187 => (fun x188 => (fun x189 => (@aSlice_F (@Program.underlying (@Ctx.P x186) x181) x186 (@evalOpQ x182 x186 x188) (@optVQ x183 x186 x188) (@optVQ x184 x186 x188) (@optVQ x185 x186 x188) (fun x191 => (x189 (@ANext.value x191 x187))))))))))))) (fun x192 => (fun x193 => (fun x194 => (fun x195 => (fun x196 => (fun x197 => (fun x198 => (@aFieldAddr_F (@fieldOf x195 x192 x194) x195 (@evalOpQ x193 x195 x197) (fun x200 => (x198 (@ANext.value x200 x196))))))))))) (fun x201 => (fun x202 => (fun x203 => (fun x204 => (fun x205 => (fun x206 => (fun x207 => (@opField_F (@fieldOf x204 x201 x203) x204 (@evalOpQ x202 x204 x206) (fun x209 => (x207 (@ANext.value x209 x205))))))))))) (fun x210 => (fun x211 => (fun x212 => (fun x213 => (fun x214 => (fun x215 => (fun x216 => (@withInt_F (@evalOpQ x212 x213 x215) (fun x218 => (@aIndexAddr_F (@Program.underlying (@Ctx.P x213) x210) x213 (@evalOpQ x211 x213 x215) x218 (fun x219 => (x216 (@ANext.value x219 x214))))))))))))) (fun x220 => (fun x221 => (fun x222 => (fun x223 => (fun x224 => (fun x225 => (fun x226 => (@withInt_F (@evalOpQ x222 x223 x225) (fun x228 => (@aIndex_F (@Program.underlying (@Ctx.P x223) x220) x223 (@evalOpQ x221 x223 x225) x228 (fun x229 => (x226 (@ANext.value x229 x224))))))))))))) (fun x230 => (fun x231 => (fun x232 => (fun x233 => (fun x234 => (fun x235 => (fun x236 => (fun x237 => (@aLookup_F (@Program.underlying (@Ctx.P x234) x230) x234 x235 (@evalOpQ x231 x234 x236) (@evalOpQ x232 x234 x236) x233 (fun x239 => (x237 (@ANext.value x239 x235)))))))))))) (fun x240 => (fun x241 => (fun x242 => (fun x243 => (fun x244 => (fun x245 => (fun x246 => (fun x247 => (@aMapUpdate_F (@Program.underlying (@Ctx.P x244) x240) x244 x245 (@evalOpQ x241 x244 x246) (@evalOpQ x242 x244 x246) (@evalOpQ x243 x244 x246) (fun x249 => (x247 (@ANext.skip x249)))))))))))) (fun _ => (fun _ => (fun _ => (fun _ => (fun _ => (fun _ => (fun _ => @False))))))) (fun _ => (fun _ => (fun _ => (fun _ => (fun _ => (fun _ => (fun _ => (fun _ => @False)))))))) (fun x267 => (fun x268 => (fun x269 => (fun x270 => (fun x271 => (fun x272 => (@opRange_F (@Program.underlying (@Ctx.P x269) x267) x270 (@evalOpQ x268 x269 x271) x272))))))) (fun x274 => (fun x275 => (fun x276 => (fun x277 => (fun x278 => (fun x279 => (@Bool.rec.{1} (fun _ => @Res) @False (@opNext_F (@evalOpQ x274 x276 x278) x277 x279) x275))))))) (fun _ => (fun _ => (fun _ => (fun _ => (fun _ => @False))))) (fun x288 => (fun _ => (fun x290 => (fun x291 => (fun x292 => (fun x293 => (fun x294 => (fun x295 => (@Bool.rec.{1} (fun _ => @Res) @False (@aTypeAssert_F (@evalOpQ x288 x292 x294) x292 x290 x291 (fun x298 => (x295 (@ANext.value x298 x293)))) (@isConcreteT x292 x290)))))))))) (fun x299 => (fun x300 => (fun x301 => (fun x302 => (fun x303 => (fun x304 => (@aExtract_F (@evalOpQ x299 x301 x303) x300 (fun x306 => (x304 (@ANext.value x306 x302)))))))))) (fun x307 => (fun x308 => (fun x309 => (fun x310 => (fun x311 => (@opCallQ (@Call.callee x307) x308 x309 x310 (@Array.toList.{0} @TypeId (@Call.argTypes x307)) (@Array.toList.{0} @Operand (@Call.args x307)) x311)))))) (fun _ => (fun _ => (fun _ => (fun _ => (fun _ => @False))))) (fun _ => (fun _ => (fun _ => (fun _ => (fun _ => @False))))) (fun _ => (fun _ => (fun _ => (fun _ => (fun _ => @False))))) (fun _ => (fun _ => (fun _ => (fun _ => (fun _ => (fun _ => @False)))))) (fun _ => (fun _ => (fun _ => (fun _ => (fun _ => (fun _ => (fun _ => @False))))))) (fun _ => (fun _ => (fun _ => (fun _ => (fun _ => (fun _ => @False)))))) x0))
def guardQ : (@AVal → (@FEnv → (@Nat → (@Bool → ((@Bool → (@FEnv → @Res)) → @Res))))) :=
  (fun x0 => (@AVal.rec.{1} (fun _ => (@FEnv → (@Nat → (@Bool → ((@Bool → (@FEnv → @Res)) → @Res))))) (fun _ => @PUnit.{1}) (fun _ => (fun _ => (fun _ => (fun _ => @False)))) (fun x15 => (fun x16 => (fun x17 => (fun x18 => (fun x19 => (@Bool.rec.{1} (fun _ => @Res) (x19 (@Bool.rec.{1} (fun _ => @Bool) @Bool.true @Bool.false x18) (@FEnv.set x16 x17 (@AVal.bool @Bool.false))) (x19 x18 (@FEnv.set x16 x17 (@AVal.bool @Bool.true))) x15)))))) (fun _ => (fun _ => (fun _ => (fun _ => (fun _ => (fun _ => @False)))))) (fun _ => (fun _ => (fun _ => (fun _ => (fun _ => @False))))) (fun _ => (fun _ => (fun _ => (fun _ => @False)))) (fun _ => (fun _ => (fun _ => (fun _ => (fun _ => (fun _ => @False)))))) (fun _ => (fun _ => (fun _ => (fun _ => (fun _ => (fun _ => (fun _ => (fun _ => (fun _ => (fun _ => @False)))))))))) (fun _ => (fun _ => (fun _ => (fun _ => @False)))) (fun _ => (fun _ => (fun _ => (fun _ => (fun _ => (fun _ => (fun _ => (fun _ => (fun _ => (fun _ => @False)))))))))) (fun _ => (fun _ => (fun _ => (fun _ => (fun _ => (fun _ => (fun _ => (fun _ => (fun _ => (fun _ => @False)))))))))) (fun _ => (fun _ => (fun _ => (fun _ => @False)))) (fun _ => (fun _ => (fun _ => (fun _ => (fun _ => @False))))) (fun _ => (fun _ => (fun _ => (fun _ => (fun _ => (fun _ => (fun _ => @False))))))) (fun _ => (fun _ => (fun _ => (fun _ => @False)))) (fun _ => (fun _ => (fun _ => (fun _ => @False)))) (fun _ => (fun x134 => (fun _ => (fun _ => (fun _ => (fun _ => (fun _ => @False))))))) (fun _ => (fun _ => (fun _ => (fun _ => (fun _ => (fun _ => @False)))))) (fun _ => (fun _ => (fun x160 => (fun _ => (fun _ => (fun x163 => (x163 @Bool.false x160))))))) @PUnit.unit.{1} (fun x166 => (fun _ => (fun _ => (fun _ => @PUnit.unit.{1})))) x0))
def guardAtQ : ((@Option.{0} @Nat) → (@FEnv → (@Bool → ((@Bool → (@FEnv → @Res)) → @Res)))) :=
  (fun x0 => (@Option.rec.{1, 0} @Nat (fun _ => (@FEnv → (@Bool → ((@Bool → (@FEnv → @Res)) → @Res)))) (fun _ => (fun _ => (fun _ => @False))) (fun x12 => (fun x13 => (fun x14 => (fun x15 => (@guardQ (@FEnv.get x13 x12) x13 x12 x14 x15))))) x0))
def wantedQ : ((@Option.{0} (@Prod.{0, 0} @Nat @Bool)) → ((@List.{0} @Oper) → (@FEnv → ((@Bool → (@FEnv → @Res)) → @Res)))) :=
  (fun x0 => (@Option.rec.{1, 0} (@Prod.{0, 0} @Nat @Bool) (fun _ => ((@List.{0} @Oper) → (@FEnv → ((@Bool → (@FEnv → @Res)) → @Res)))) (fun _ => (fun x8 => (fun x9 => (x9 @Bool.true x8)))) (fun x12 => (@Prod.rec.{1, 0, 0} @Nat @Bool (fun _ => ((@List.{0} @Oper) → (@FEnv → ((@Bool → (@FEnv → @Res)) → @Res)))) (fun x19 => (fun x20 => (fun x21 => (fun x22 => (fun x23 => (@guardAtQ (@dstAt x21 x19) x22 x20 x23)))))) x12)) x0))
def putDstQ : ((@Option.{0} @Tmp) → (@Nat → (@FEnv → (@AVal → ((@FEnv → @Res) → @Res))))) :=
  (fun x0 => (@Option.rec.{1, 0} @Tmp (fun _ => (@Nat → (@FEnv → (@AVal → ((@FEnv → @Res) → @Res))))) (fun _ => (fun x8 => (fun _ => (fun x10 => (x10 x8))))) (fun x12 => (fun x13 => (fun x14 => (fun x15 => (fun x16 => (@Bool.rec.{1} (fun _ => @Res) @False (x16 (@FEnv.set x14 x12 x15)) (@Nat.blt x12 x13))))))) x0))
def readBlockQ : (@Op → (@Ctx → (@FEnv → (@Option.{0} @Nat)))) :=
  (fun x0 => (@Op.rec.{1} (fun _ => (@Ctx → (@FEnv → (@Option.{0} @Nat)))) (fun _ => (fun _ => (fun _ => (@Option.none.{0} @Nat)))) (fun _ => (fun _ => (fun _ => (@Option.none.{0} @Nat)))) (fun _ => (fun _ => (fun _ => (fun _ => (fun _ => (@Option.none.{0} @Nat)))))) (fun _ => (fun _ => (fun _ => (@Option.none.{0} @Nat)))) (fun _ => (fun _ => (fun _ => (fun _ => (@Option.none.{0} @Nat))))) (fun _ => (fun _ => (fun _ => (fun _ => (@Option.none.{0} @Nat))))) (fun _ => (fun _ => (fun _ => (fun _ => (fun _ => (@Option.none.{0} @Nat)))))) (fun _ => (fun _ => (fun _ => (fun _ => (fun _ => (fun _ => (@Option.none.{0} @Nat))))))) (fun _ => (fun x38 => (fun x39 => (fun x40 => (@blockOf (@evalOpQ x38 x39 x40)))))) (fun _ => (fun _ => (fun _ => (fun _ => (fun _ => (@Option.none.{0} @Nat)))))) (fun _ => (fun _ => (fun _ => (@Option.none.{0} @Nat)))) (fun _ => (fun _ => (fun _ => (@Option.none.{0} @Nat)))) (fun _ => (fun _ => (fun _ => (@Option.none.{0} @Nat)))) (fun _ => (fun _ => (fun _ => (fun _ => (fun _ => (fun _ => (fun _ => (@Option.none.{0} @Nat)))))))) (fun _ => (fun _ => (fun _ => (fun _ => (fun _ => (@Option.none.{0} @Nat)))))) (fun _ => (fun _ => (fun x69 => (fun x70 => (fun x71 => (@blockOf (@evalOpQ x69 x70 x71))))))) (fun _ => (fun _ => (fun _ => (fun _ => (@Option.none.{0} @Nat))))) (fun _ => (fun _ => (fun _ => (fun _ => (@Option.none.{0} @Nat))))) (fun _ => (fun _ => (fun _ => (fun _ => (fun _ => (@Option.none.{0} @Nat)))))) (fun _ => (fun _ => (fun _ => (fun _ => (@Option.none.{0} @Nat))))) (fun _ => (fun _ => (fun _ => (fun _ => (@Option.none.{0} @Nat))))) (fun _ => (fun _ => (fun _ => (fun _ => (fun _ => (@Option.none.{0} @Nat)))))) (fun _ => (fun _ => (fun _ => (fun _ => (fun _ => (fun _ => (fun _ => (@Option.none.{0} @Nat)))))))) (fun _ => (fun _ => (fun _ => (fun _ => (fun _ => (@Option.none.{0} @Nat)))))) (fun _ => (fun _ => (fun _ => (fun _ => (fun _ => (@Option.none.{0} @Nat)))))) (fun _ => (fun _ => (fun _ => (fun _ => (fun _ => (@Option.none.{0} @Nat)))))) (fun _ => (fun _ => (fun _ => (fun _ => (fun _ => (@Option.none.{0} @Nat)))))) (fun _ => (fun x126 => (fun _ => (fun _ => (fun x129 => (fun x130 => (@blockOf (@evalOpQ x126 x129 x130)))))))) (fun _ => (fun _ => (fun _ => (fun _ => (fun _ => (fun _ => (@Option.none.{0} @Nat))))))) (fun _ => (fun _ => (fun _ => (fun _ => (fun _ => (@Option.none.{0} @Nat)))))) (fun _ => (fun _ => (fun _ => (fun _ => (fun _ => (fun _ => (@Option.none.{0} @Nat))))))) (fun _ => (fun _ => (fun _ => (fun _ => (@Option.none.{0} @Nat))))) (fun _ => (fun _ => (fun _ => (fun _ => (@Option.none.{0} @Nat))))) (fun _ => (fun _ => (fun _ => (@Option.none.{0} @Nat)))) (fun _ => (fun _ => (fun _ => (fun _ => (fun _ => (fun _ => (@Option.none.{0} @Nat))))))) (fun _ => (fun _ => (fun _ => (fun _ => (@Option.none.{0} @Nat))))) (fun x169 => (fun x170 => (fun x171 => (@blockOf (@nthD (@evalOpsQ (@Array.toList.{0} @Operand (@Call.args x169)) x170 x171) (nat_lit 0)))))) (fun _ => (fun _ => (fun _ => (@Option.none.{0} @Nat)))) (fun _ => (fun _ => (fun _ => (@Option.none.{0} @Nat)))) (fun _ => (fun _ => (fun _ => (@Option.none.{0} @Nat)))) (fun _ => (fun _ => (fun _ => (fun _ => (@Option.none.{0} @Nat))))) (fun _ => (fun _ => (fun _ => (fun _ => (fun _ => (@Option.none.{0} @Nat)))))) (fun _ => (fun _ => (fun _ => (fun _ => (@Option.none.{0} @Nat))))) x0))
def enterQ : ((@Option.{0} (@Prod.{0, 0} @Code @Nat)) → (@Nat → ((@List.{0} @AVal) → ((@FFrame → @Res) → @Res)))) :=
  (fun x0 => (@Option.rec.{1, 0} (@Prod.{0, 0} @Code @Nat) (fun _ => (@Nat → ((@List.{0} @AVal) → ((@FFrame → @Res) → @Res)))) (fun _ => (fun _ => (fun _ => @False))) (fun x10 => (@Prod.rec.{1, 0, 0} @Code @Nat (fun _ => (@Nat → ((@List.{0} @AVal) → ((@FFrame → @Res) → @Res)))) (fun x16 => (fun x17 => (fun x18 => (fun x19 => (fun x20 => (@Bool.rec.{1} (fun _ => @Res) @False (x20 (@FFrame.mk x18 (@ofEnv (@nthD x19)) x17 (@List.cons.{0} @AItem (@AItem.code x16) (@List.nil.{0} @AItem)) (@List.nil.{0} @Nat) @Bool.false (@Option.none.{0} @Nat))) (@Nat.ble (@len @AVal x19) x17))))))) x10)) x0))
def roundQ : ((@Option.{0} @AObj) → (@Nat → ((@List.{0} @AVal) → ((@FFrame → @Res) → @Res)))) :=
  (fun x0 => (@Option.rec.{1, 0} @AObj (fun _ => (@Nat → ((@List.{0} @AVal) → ((@FFrame → @Res) → @Res)))) (fun _ => (fun _ => (fun _ => @False))) (fun x10 => (@AObj.rec.{1} (fun _ => (@Nat → ((@List.{0} @AVal) → ((@FFrame → @Res) → @Res)))) (fun _ => (fun _ => (fun _ => (fun _ => (fun _ => (fun _ => @False)))))) (fun _ => (fun _ => (fun _ => (fun _ => (fun _ => @False))))) (fun x29 => (fun x30 => (fun x31 => (fun x32 => (@Bool.rec.{1} (fun _ => @Res) @False (x32 (@FFrame.mk (@ALoop.fn x29) (@ofEnv (@setParams (@Array.toList.{0} @Tmp (@ALoop.params x29)) x31 (@ALoop.tmps x29))) (@ALoop.size x29) (@List.cons.{0} @AItem (@AItem.code (@ALoop.assign x29)) (@List.cons.{0} @AItem @AItem.beginRound (@List.cons.{0} @AItem (@AItem.code (@ALoop.body x29)) (@List.nil.{0} @AItem)))) (@List.nil.{0} @Nat) @Bool.false (@Option.some.{0} @Nat x30))) (@Bool.rec.{1} (fun _ => @Bool) @Bool.false (@allB_F @Nat (fun x36 => (@Nat.blt x36 (@ALoop.size x29))) (@Array.toList.{0} @Tmp (@ALoop.params x29))) (@Nat.beq (@len @AVal x31) (@Array.size.{0} @Tmp (@ALoop.params x29))))))))) (fun _ => (fun _ => (fun _ => (fun _ => @False)))) (fun _ => (fun _ => (fun _ => (fun _ => (fun _ => @False))))) x10)) x0))
def callQ : ((@Option.{0} @Oracle) → (@Ctx → (@Heap → (@Nat → ((@List.{0} @AVal) → ((@AVal → @Res) → ((@FFrame → @Res) → @Res))))))) :=
  (fun x0 => (@Option.rec.{1, 0} @Oracle (fun _ => (@Ctx → (@Heap → (@Nat → ((@List.{0} @AVal) → ((@AVal → @Res) → ((@FFrame → @Res) → @Res))))))) (fun x10 => (fun _ => (fun x12 => (fun x13 => (fun _ => (fun x16 => (@enterQ (@bodyOf x10 x12) x12 x13 x16))))))) (fun x18 => (fun _ => (fun x20 => (fun _ => (fun x22 => (fun x23 => (fun _ => (@Bool.rec.{1} (fun _ => @Res) @False (x23 (@Oracle.val x18 (@mapL @AVal @AVal (@purify (nat_lit 4) x20) x22))) (@Oracle.pre x18 (@mapL @AVal @AVal (@purify (nat_lit 4) x20) x22)))))))))) x0))
def subCallQ : (@ANext → (@Ctx → (@SubQ → (@Heap → ((@AVal → (@Heap → @Res)) → @Res))))) :=
  (fun x0 => (@ANext.rec.{1} (fun _ => (@Ctx → (@SubQ → (@Heap → ((@AVal → (@Heap → @Res)) → @Res))))) (fun x8 => (fun x9 => (fun _ => (fun _ => (fun _ => (fun x13 => (x13 x8 x9))))))) (fun x16 => (fun _ => (fun _ => (fun _ => (fun x20 => (x20 (@AVal.tuple (@List.nil.{0} @AVal)) x16)))))) (fun x23 => (fun x24 => (fun x25 => (fun x26 => (fun x27 => (fun x28 => (@callQ (@Ctx.O x25 x23) x25 x27 x23 x24 (fun x31 => (x28 x31 x27)) (fun x32 => (x26 x32 x27 x28))))))))) (fun x33 => (fun x34 => (fun _ => (fun x36 => (fun x37 => (fun x38 => (@roundQ (@Heap.get_F x37 x33) x33 x34 (fun x41 => (x36 x41 x37 x38))))))))) x0))
def drawOpQ : (@Kind → (@Ctx → (@SubQ → (@Nat → (@Nat → (@PlanRow → (@Seen → (@FEnv → (@Heap → (@DrawQ → @Res)))))))))) :=
  (fun x0 => (@Kind.rec.{1} (fun _ => (@Ctx → (@SubQ → (@Nat → (@Nat → (@PlanRow → (@Seen → (@FEnv → (@Heap → (@DrawQ → @Res)))))))))) (fun x11 => (fun _ => (fun _ => (fun x14 => (fun x15 => (fun x16 => (fun x17 => (fun x18 => (fun x19 => (@aOperQ (@Oper.op (@PlanRow.o x15)) x11 (@Heap.mk (nat_lit 0) (@PT.nil @AObj)) x17 (fun x20 => (@onlyValue x20 (fun x21 => (@putDstQ (@Oper.dst (@PlanRow.o x15)) x14 x17 x21 (fun x22 => (x19 x16 x22 x18)))))))))))))))) (fun x23 => (fun _ => (fun _ => (fun x26 => (fun x27 => (fun x28 => (fun x29 => (fun x30 => (fun x31 => (@Bool.rec.{1} (fun _ => @Res) @False (@aOperQ (@Oper.op (@PlanRow.o x27)) x23 x30 x29 (fun x33 => (@onlyValue x33 (fun x34 => (@putDstQ (@Oper.dst (@PlanRow.o x27)) x26 x29 x34 (fun x35 => (x31 (@seeBlock (@readBlockQ (@Oper.op (@PlanRow.o x27)) x23 x29) (@PlanRow.i x27) x28) x35 x30))))))) (@lowBlock (@readBlockQ (@Oper.op (@PlanRow.o x27)) x23 x29) (@Heap.next x30)))))))))))) (fun x36 => (fun _ => (fun _ => (fun x39 => (fun x40 => (fun x41 => (fun x42 => (fun x43 => (fun x44 => (@aOperQ (@Oper.op (@PlanRow.o x40)) x36 (@Heap.mk (@Heap.next x43) (@PT.nil @AObj)) x42 (fun x45 => (@onlyFresh x45 (@Heap.next x43) (fun x46 => (fun x47 => (@putDstQ (@Oper.dst (@PlanRow.o x40)) x39 x42 x46 (fun x48 => (x44 (@List.cons.{0} (@Prod.{0, 0} @Nat @Nat) (@Prod.mk.{0, 0} @Nat @Nat (@PlanRow.i x40) (@Heap.next x43)) x41) x48 (@Heap.new_F x43 x47)))))))))))))))))) (fun x49 => (fun x50 => (fun x51 => (fun x52 => (fun x53 => (fun x54 => (fun x55 => (fun x56 => (fun x57 => (@aOperQ (@Oper.op (@PlanRow.o x53)) x49 (@hideAll x51 x56 x54 (@PlanRow.anc x53)) x55 (fun x58 => (@subCallQ x58 x49 x50 (@hideAll x51 x56 x54 (@PlanRow.anc x53)) (fun x59 => (fun x60 => (@putDstQ (@Oper.dst (@PlanRow.o x53)) x52 x55 x59 (fun x61 => (x57 x54 x61 (@unhide x56 x60 x54 (@PlanRow.anc x53))))))))))))))))))) x0))
def drawRunQ : (@Ctx → (@SubQ → (@Nat → (@Nat → ((@List.{0} @Oper) → ((@FEnv → (@Heap → @Res)) → ((@List.{0} @PlanRow) → @DrawQ))))))) :=
  (fun x0 => (fun x1 => (fun x2 => (fun x3 => (fun x4 => (fun x5 => (fun x8 => (@List.rec.{1, 0} @PlanRow (fun _ => @DrawQ) (fun _ => (fun x11 => (fun x12 => (x5 x11 x12)))) (fun x13 => (fun _ => (fun x15 => (fun x16 => (fun x17 => (fun x18 => (@wantedQ (@Oper.guard (@PlanRow.o x13)) x4 x17 (fun x19 => (fun x20 => (@Bool.rec.{1} (fun _ => @Res) (@putDstQ (@Oper.dst (@PlanRow.o x13)) x3 x20 (@AVal.tuple (@List.nil.{0} @AVal)) (fun x22 => (x15 x16 x22 x18))) (@drawOpQ (@PlanRow.kind x13) x0 x1 x2 x3 x13 x16 x20 x18 x15) x19)))))))))) x8))))))))
def regBackQ : ((@List.{0} @Oper) → (@FFrame → ((@Array.{0} @Oper) → ((@List.{0} @AItem) → ((@List.{0} @FFrame) → (@AVal → (@Heap → (@Nx → @Res)))))))) :=
  (fun x0 => (@List.rec.{1, 0} @Oper (fun _ => (@FFrame → ((@Array.{0} @Oper) → ((@List.{0} @AItem) → ((@List.{0} @FFrame) → (@AVal → (@Heap → (@Nx → @Res)))))))) (fun _ => (fun _ => (fun _ => (fun _ => (fun _ => (fun _ => (fun _ => @False))))))) (fun x16 => (fun x17 => (fun _ => (fun x28 => (fun x29 => (fun x30 => (fun x31 => (fun x32 => (fun x33 => (fun x34 => (@FFrame.rec.{1} (fun _ => @Res) (fun x36 => (fun x37 => (fun x38 => (fun _ => (fun x40 => (fun x41 => (fun x42 => (@putDstQ (@Oper.dst x16) x38 x37 x32 (fun x43 => (x34 (@FConf.mk (@FFrame.mk x36 x43 x38 (@List.cons.{0} @AItem (@AItem.inRegion x29 x17) x30) x40 x41 x42) x31 x33))))))))))) x28))))))))))) x0))
def itemBackQ : (@AItem → (@FFrame → ((@List.{0} @AItem) → ((@List.{0} @FFrame) → (@AVal → (@Heap → (@Nx → @Res))))))) :=
  (fun x0 => (@AItem.rec.{1} (fun _ => (@FFrame → ((@List.{0} @AItem) → ((@List.{0} @FFrame) → (@AVal → (@Heap → (@Nx → @Res))))))) (fun _ => (fun _ => (fun _ => (fun _ => (fun _ => (fun _ => (fun _ => @False))))))) (fun _ => (fun _ => (fun _ => (fun _ => (fun _ => (fun _ => (fun _ => @False))))))) (fun _ => (fun _ => (fun _ => (fun _ => (fun _ => (fun _ => (fun _ => @False))))))) (fun _ => (fun _ => (fun _ => (fun _ => (fun _ => (fun _ => (fun _ => @False))))))) (fun x36 => (fun x37 => (fun x38 => (fun x39 => (fun x40 => (fun x41 => (fun x42 => (fun x43 => (@regBackQ x37 x38 x36 x39 x40 x41 x42 x43))))))))) (fun x44 => (fun x45 => (fun x46 => (fun x47 => (fun _ => (fun x49 => (fun x50 => (@FFrame.rec.{1} (fun _ => @Res) (fun x52 => (fun x53 => (fun x54 => (fun _ => (fun x56 => (fun x57 => (fun x58 => (x50 (@FConf.mk (@FFrame.mk x52 x53 x54 (@List.cons.{0} @AItem (@AItem.endRangeFunc x44) x46) x56 x57 x58) x47 x49))))))))) x45)))))))) (fun _ => (fun _ => (fun _ => (fun _ => (fun _ => (fun _ => (fun _ => @False))))))) (fun _ => (fun _ => (fun _ => (fun _ => (fun _ => (fun _ => @False)))))) x0))
def todoBackQ : ((@List.{0} @AItem) → (@FFrame → ((@List.{0} @FFrame) → (@AVal → (@Heap → (@Nx → @Res)))))) :=
  (fun x0 => (@List.rec.{1, 0} @AItem (fun _ => (@FFrame → ((@List.{0} @FFrame) → (@AVal → (@Heap → (@Nx → @Res)))))) (fun _ => (fun _ => (fun _ => (fun _ => (fun _ => @False))))) (fun x12 => (fun x13 => (fun _ => (fun x22 => (fun x23 => (fun x24 => (fun x25 => (fun x26 => (@itemBackQ x12 x22 x13 x23 x24 x25 x26))))))))) x0))
def giveBackQ : ((@List.{0} @FFrame) → (@AVal → (@Heap → (@Nx → (@Ot → @Res))))) :=
  (fun x0 => (@List.rec.{1, 0} @FFrame (fun _ => (@AVal → (@Heap → (@Nx → (@Ot → @Res))))) (fun x6 => (fun x7 => (fun _ => (fun x9 => (x9 x6 x7))))) (fun x10 => (fun x11 => (fun _ => (fun x19 => (fun x20 => (fun x21 => (fun _ => (@todoBackQ (@FFrame.todo x10) x10 x11 x19 x20 x21)))))))) x0))
def resultQ : (@ResultVar → (@Ctx → (@Heap → (@FEnv → ((@AVal → @Res) → @Res))))) :=
  (fun x0 => (@ResultVar.rec.{1} (fun _ => (@Ctx → (@Heap → (@FEnv → ((@AVal → @Res) → @Res))))) (fun x7 => (fun _ => (fun _ => (fun x10 => (fun x11 => (x11 (@FEnv.get x10 x7))))))) (fun x13 => (fun x14 => (fun x15 => (fun x16 => (fun x17 => (fun x18 => (@aLoad_F (@FEnv.get x17 x13) x15 x16 x14 x18))))))) x0))
def resultsQ : ((@List.{0} @ResultVar) → (@Ctx → (@Heap → (@FEnv → (((@List.{0} @AVal) → @Res) → @Res))))) :=
  (fun x0 => (@List.rec.{1, 0} @ResultVar (fun _ => (@Ctx → (@Heap → (@FEnv → (((@List.{0} @AVal) → @Res) → @Res))))) (fun _ => (fun _ => (fun _ => (fun x10 => (x10 (@List.nil.{0} @AVal)))))) (fun x12 => (fun _ => (fun x14 => (fun x20 => (fun x21 => (fun x22 => (fun x23 => (@resultQ x12 x20 x21 x22 (fun x25 => (x14 x20 x21 x22 (fun x26 => (x23 (@List.cons.{0} @AVal x25 x26))))))))))))) x0))
def leaveQ : ((@Option.{0} @Nat) → (@FConf → ((@Option.{0} @Code) → (@Bool → (@Nx → (@Ot → @Res)))))) :=
  (fun x0 => (@Option.rec.{1, 0} @Nat (fun _ => (@FConf → ((@Option.{0} @Code) → (@Bool → (@Nx → (@Ot → @Res)))))) (fun x7 => (fun _ => (fun x9 => (fun x10 => (fun _ => (@FConf.rec.{1} (fun _ => @Res) (fun x13 => (fun x14 => (fun x15 => (@FFrame.rec.{1} (fun _ => @Res) (fun x17 => (fun x18 => (fun x19 => (fun x20 => (fun x21 => (fun _ => (fun _ => (@Bool.rec.{1} (fun _ => @Res) @False (x10 (@FConf.mk (@FFrame.mk x17 x18 x19 x20 x21 @Bool.true (@Option.none.{0} @Nat)) x14 x15)) x9)))))))) x13)))) x7)))))) (fun x25 => (fun x26 => (fun x27 => (fun _ => (fun x29 => (fun x30 => (@FConf.rec.{1} (fun _ => @Res) (fun _ => (fun x33 => (fun x34 => (@withLoop_F (@Heap.get_F x34 x25) (fun x35 => (@giveBackQ x33 (@AVal.bool (@Option.rec.{1, 0} @Code (fun _ => @Bool) @Bool.true (fun _ => @Bool.false) x27)) (@endRound x35 x34 x25 x27) x29 x30)))))) x26))))))) x0))
def retStepQ : ((@List.{0} @Nat) → (@Ctx → (@FConf → (@Nx → (@Ot → @Res))))) :=
  (fun x0 => (@List.rec.{1, 0} @Nat (fun _ => (@Ctx → (@FConf → (@Nx → (@Ot → @Res))))) (fun x6 => (fun x7 => (fun x8 => (fun x9 => (@FConf.rec.{1} (fun _ => @Res) (fun x11 => (fun x12 => (fun x13 => (@FFrame.rec.{1} (fun _ => @Res) (fun x15 => (fun x16 => (fun _ => (fun _ => (fun _ => (fun _ => (fun _ => (@fnK (@GetElem?.getElem?.{0, 0, 0} (@Array.{0} @Func) @Nat @Func (fun x22 => (fun x23 => (@LT.lt.{0} @Nat @instLTNat x23 (@Array.size.{0} @Func x22)))) (@Array.instGetElem?NatLtSize.{0} @Func) (@Program.funcs (@Ctx.P x6)) x15) (fun x24 => (@resultsQ (@Array.toList.{0} @ResultVar (@Func.results x24)) x6 x13 x16 (fun x25 => (@giveBackQ x12 (@oneOrAll x25) x13 x8 x9)))))))))))) x11)))) x7))))) (fun x26 => (fun x27 => (fun _ => (fun _ => (fun x36 => (fun x37 => (fun _ => (@FConf.rec.{1} (fun _ => @Res) (fun x40 => (fun x41 => (fun x42 => (@FFrame.rec.{1} (fun _ => @Res) (fun x44 => (fun x45 => (fun x46 => (fun x47 => (fun _ => (fun _ => (fun x50 => (@takeDef (@Heap.get_F x42 x26) (x37 (@FConf.mk (@FFrame.mk x44 x45 x46 x47 x27 @Bool.true x50) x41 (@Heap.put_F x42 x26 (@Option.some.{0} @AObj (@AObj.deferred @Bool.false))))))))))))) x40)))) x36)))))))) x0))
def withTodoQ : (@FConf → ((@List.{0} @AItem) → @FConf)) :=
  (fun x0 => (fun x1 => (@FConf.rec.{1} (fun _ => @FConf) (fun x3 => (fun x4 => (fun x5 => (@FFrame.rec.{1} (fun _ => @FConf) (fun x7 => (fun x8 => (fun x9 => (fun _ => (fun x11 => (fun _ => (fun x13 => (@FConf.mk (@FFrame.mk x7 x8 x9 x1 x11 @Bool.false x13) x4 x5)))))))) x3)))) x0)))
def withAllQ : (@FConf → (@FEnv → ((@List.{0} @AItem) → (@Heap → @FConf)))) :=
  (fun x0 => (fun x1 => (fun x2 => (fun x3 => (@FConf.rec.{1} (fun _ => @FConf) (fun x5 => (fun x6 => (fun _ => (@FFrame.rec.{1} (fun _ => @FConf) (fun x9 => (fun _ => (fun x11 => (fun _ => (fun x13 => (fun _ => (fun x15 => (@FConf.mk (@FFrame.mk x9 x1 x11 x2 x13 @Bool.false x15) x6 x3)))))))) x5)))) x0)))))
def condStepQ : (@AVal → (@FConf → (@Code → (@Code → ((@List.{0} @AItem) → (@Nx → @Res)))))) :=
  (fun x0 => (@AVal.rec.{1} (fun _ => (@FConf → (@Code → (@Code → ((@List.{0} @AItem) → (@Nx → @Res)))))) (fun _ => @PUnit.{1}) (fun _ => (fun _ => (fun _ => (fun _ => (fun _ => @False))))) (fun x13 => (fun x14 => (fun x15 => (fun x16 => (fun x17 => (fun x18 => (@Bool.rec.{1} (fun _ => @Res) (x18 (@withTodoQ x14 (@List.cons.{0} @AItem (@AItem.code x16) x17))) (x18 (@withTodoQ x14 (@List.cons.{0} @AItem (@AItem.code x15) x17))) x13))))))) (fun _ => (fun _ => (fun _ => (fun _ => (fun _ => (fun _ => (fun _ => @False))))))) (fun _ => (fun _ => (fun _ => (fun _ => (fun _ => (fun _ => @False)))))) (fun _ => (fun _ => (fun _ => (fun _ => (fun _ => @False))))) (fun _ => (fun _ => (fun _ => (fun _ => (fun _ => (fun _ => (fun _ => @False))))))) (fun _ => (fun _ => (fun _ => (fun _ => (fun _ => (fun _ => (fun _ => (fun _ => (fun _ => (fun _ => (fun _ => @False))))))))))) (fun _ => (fun _ => (fun _ => (fun _ => (fun _ => @False))))) (fun _ => (fun _ => (fun _ => (fun _ => (fun _ => (fun _ => (fun _ => (fun _ => (fun _ => (fun _ => (fun _ => @False))))))))))) (fun _ => (fun _ => (fun _ => (fun _ => (fun _ => (fun _ => (fun _ => (fun _ => (fun _ => (fun _ => (fun _ => @False))))))))))) (fun _ => (fun _ => (fun _ => (fun _ => (fun _ => @False))))) (fun _ => (fun _ => (fun _ => (fun _ => (fun _ => (fun _ => @False)))))) (fun _ => (fun _ => (fun _ => (fun _ => (fun _ => (fun _ => (fun _ => (fun _ => @False)))))))) (fun _ => (fun _ => (fun _ => (fun _ => (fun _ => @False))))) (fun _ => (fun _ => (fun _ => (fun _ => (fun _ => @False))))) (fun _ => (fun x117 => (fun _ => (fun _ => (fun _ => (fun _ => (fun _ => (fun _ => @False)))))))) (fun _ => (fun _ => (fun _ => (fun _ => (fun _ => (fun _ => (fun _ => @False))))))) (fun _ => (fun _ => (fun _ => (fun _ => (fun _ => (fun _ => (fun _ => @False))))))) @PUnit.unit.{1} (fun x145 => (fun _ => (fun _ => (fun _ => @PUnit.unit.{1})))) x0))
def enterLoopQ : ((@Option.{0} @Nat) → (@Ctx → (@FConf → ((@Array.{0} @Tmp) → (@Code → (@Code → ((@List.{0} @AItem) → (@Nat → ((@List.{0} @AVal) → (@Nx → @Res)))))))))) :=
  (fun x0 => (@Option.rec.{1, 0} @Nat (fun _ => (@Ctx → (@FConf → ((@Array.{0} @Tmp) → (@Code → (@Code → ((@List.{0} @AItem) → (@Nat → ((@List.{0} @AVal) → (@Nx → @Res)))))))))) (fun x11 => (fun x12 => (fun x13 => (fun x14 => (fun x15 => (fun x16 => (fun x17 => (fun x18 => (fun x19 => (@FConf.rec.{1} (fun _ => @Res) (fun x21 => (fun x22 => (fun x23 => (@FFrame.rec.{1} (fun _ => @Res) (fun x25 => (fun x26 => (fun x27 => (fun _ => (fun x29 => (fun _ => (fun _ => (@enterQ (@bodyOf x11 x17) x17 (@List.cons.{0} @AVal (@AVal.func (@AFn.yield (@Nat.succ (@Heap.next x23))) (@List.nil.{0} @AVal)) x18) (fun x32 => (x19 (@FConf.mk x32 (@List.cons.{0} @FFrame (@FFrame.mk x25 x26 x27 (@List.cons.{0} @AItem (@AItem.inRangeFunc (@Nat.succ (@Heap.next x23))) x16) (@List.cons.{0} @Nat (@Heap.next x23) x29) @Bool.false (@Option.none.{0} @Nat)) x22) (@Heap.new_F (@Heap.new_F x23 (@AObj.deferred @Bool.true)) (@AObj.loop (@ALoop.mk @LoopState.ready (@Option.none.{0} @Code) x25 (@FEnv.get x26) x27 x13 x14 x15 (@Heap.next x23))))))))))))))) x21)))) x12)))))))))) (fun x33 => (fun x34 => (fun x35 => (fun x36 => (fun x37 => (fun x38 => (fun x39 => (fun x40 => (fun x41 => (fun x42 => (@FConf.rec.{1} (fun _ => @Res) (fun x44 => (fun x45 => (fun x46 => (@FFrame.rec.{1} (fun _ => @Res) (fun x48 => (fun x49 => (fun x50 => (fun _ => (fun x52 => (fun _ => (fun _ => (@withLoop_F (@Heap.get_F x46 x33) (fun x55 => (@enterQ (@bodyOf x34 x40) x40 (@List.cons.{0} @AVal (@AVal.func (@AFn.yield (@Heap.next x46)) (@List.nil.{0} @AVal)) x41) (fun x56 => (x42 (@FConf.mk x56 (@List.cons.{0} @FFrame (@FFrame.mk x48 x49 x50 (@List.cons.{0} @AItem (@AItem.inRangeFunc (@Heap.next x46)) x39) x52 @Bool.false (@Option.some.{0} @Nat x33)) x45) (@Heap.new_F x46 (@AObj.loop (@ALoop.mk @LoopState.ready (@Option.none.{0} @Code) x48 (@FEnv.get x49) x50 x36 x37 x38 (@ALoop.defers x55))))))))))))))))) x44)))) x35))))))))))) x0))
def rangeFnQ : (@AFn → (@Ctx → (@FConf → ((@Array.{0} @Tmp) → (@Code → (@Code → ((@List.{0} @AItem) → ((@List.{0} @AVal) → (@Nx → @Res))))))))) :=
  (fun x0 => (@AFn.rec.{1} (fun _ => (@Ctx → (@FConf → ((@Array.{0} @Tmp) → (@Code → (@Code → ((@List.{0} @AItem) → ((@List.{0} @AVal) → (@Nx → @Res))))))))) (fun x10 => (fun x11 => (fun x12 => (fun x13 => (fun x14 => (fun x15 => (fun x16 => (fun x17 => (fun x18 => (@Bool.rec.{1} (fun _ => @Res) @False (@enterLoopQ (@FFrame.rnd (@FConf.fr x12)) x11 x12 x13 x14 x15 x16 x10 x17 x18) (@fnOk x11 x10))))))))))) (fun _ => (fun _ => (fun _ => (fun _ => (fun _ => (fun _ => (fun _ => (fun _ => (fun _ => @False))))))))) x0))
def rangeStepQ : (@AVal → (@Ctx → (@FConf → ((@Array.{0} @Tmp) → (@Code → (@Code → ((@List.{0} @AItem) → (@Nx → @Res)))))))) :=
  (fun x0 => (@AVal.rec.{1} (fun _ => (@Ctx → (@FConf → ((@Array.{0} @Tmp) → (@Code → (@Code → ((@List.{0} @AItem) → (@Nx → @Res)))))))) (fun _ => @PUnit.{1}) (fun _ => (fun _ => (fun _ => (fun _ => (fun _ => (fun _ => (fun _ => @False))))))) (fun _ => (fun _ => (fun _ => (fun _ => (fun _ => (fun _ => (fun _ => (fun _ => @False)))))))) (fun _ => (fun _ => (fun _ => (fun _ => (fun _ => (fun _ => (fun _ => (fun _ => (fun _ => @False))))))))) (fun _ => (fun _ => (fun _ => (fun _ => (fun _ => (fun _ => (fun _ => (fun _ => @False)))))))) (fun _ => (fun _ => (fun _ => (fun _ => (fun _ => (fun _ => (fun _ => @False))))))) (fun _ => (fun _ => (fun _ => (fun _ => (fun _ => (fun _ => (fun _ => (fun _ => (fun _ => @False))))))))) (fun _ => (fun _ => (fun _ => (fun _ => (fun _ => (fun _ => (fun _ => (fun _ => (fun _ => (fun _ => (fun _ => (fun _ => (fun _ => @False))))))))))))) (fun _ => (fun _ => (fun _ => (fun _ => (fun _ => (fun _ => (fun _ => @False))))))) (fun _ => (fun _ => (fun _ => (fun _ => (fun _ => (fun _ => (fun _ => (fun _ => (fun _ => (fun _ => (fun _ => (fun _ => (fun _ => @False))))))))))))) (fun _ => (fun _ => (fun _ => (fun _ => (fun _ => (fun _ => (fun _ => (fun _ => (fun _ => (fun _ => (fun _ => (fun _ => (fun _ => @False))))))))))))) (fun _ => (fun _ => (fun _ => (fun _ => (fun _ => (fun _ => (fun _ => @False))))))) (fun _ => (fun _ => (fun _ => (fun _ => (fun _ => (fun _ => (fun _ => (fun _ => @False)))))))) (fun x123 => (fun x124 => (fun _ => (fun x126 => (fun x127 => (fun x128 => (fun x129 => (fun x130 => (fun x131 => (fun x132 => (@rangeFnQ x123 x126 x127 x128 x129 x130 x131 x124 x132))))))))))) (fun _ => (fun _ => (fun _ => (fun _ => (fun _ => (fun _ => (fun _ => @False))))))) (fun _ => (fun _ => (fun _ => (fun _ => (fun _ => (fun _ => (fun _ => @False))))))) (fun _ => (fun x148 => (fun _ => (fun _ => (fun _ => (fun _ => (fun _ => (fun _ => (fun _ => (fun _ => @False)))))))))) (fun _ => (fun _ => (fun _ => (fun _ => (fun _ => (fun _ => (fun _ => (fun _ => (fun _ => @False))))))))) (fun _ => (fun _ => (fun _ => (fun _ => (fun _ => (fun _ => (fun _ => (fun _ => (fun _ => @False))))))))) @PUnit.unit.{1} (fun x184 => (fun _ => (fun _ => (fun _ => @PUnit.unit.{1})))) x0))
def callInQ : (@FConf → ((@Array.{0} @Oper) → (@Oper → ((@List.{0} @Oper) → ((@List.{0} @AItem) → (@FEnv → (@Heap → (@Nx → (@FFrame → @Res))))))))) :=
  (fun x0 => (fun x1 => (fun x2 => (fun x3 => (fun x4 => (fun x5 => (fun x6 => (fun x7 => (fun x8 => (@FConf.rec.{1} (fun _ => @Res) (fun x10 => (fun x11 => (fun _ => (@FFrame.rec.{1} (fun _ => @Res) (fun x14 => (fun _ => (fun x16 => (fun _ => (fun x18 => (fun _ => (fun x20 => (x7 (@FConf.mk x8 (@List.cons.{0} @FFrame (@FFrame.mk x14 x5 x16 (@List.cons.{0} @AItem (@AItem.inRegion x1 (@List.cons.{0} @Oper x2 x3)) x4) x18 @Bool.false x20) x11) x6))))))))) x10)))) x0))))))))))
def opNextQ : (@ANext → (@Ctx → (@Heap → (@Nat → (@FEnv → ((@Option.{0} @Tmp) → ((@FEnv → (@Heap → @Res)) → ((@FFrame → @Res) → @Res)))))))) :=
  (fun x0 => (@ANext.rec.{1} (fun _ => (@Ctx → (@Heap → (@Nat → (@FEnv → ((@Option.{0} @Tmp) → ((@FEnv → (@Heap → @Res)) → ((@FFrame → @Res) → @Res)))))))) (fun x12 => (fun x13 => (fun _ => (fun _ => (fun x16 => (fun x17 => (fun x18 => (fun x19 => (fun _ => (@putDstQ x18 x16 x17 x12 (fun x24 => (x19 x24 x13)))))))))))) (fun x25 => (fun _ => (fun _ => (fun x28 => (fun x29 => (fun x30 => (fun x31 => (fun _ => (@putDstQ x30 x28 x29 (@AVal.tuple (@List.nil.{0} @AVal)) (fun x36 => (x31 x36 x25))))))))))) (fun x37 => (fun x38 => (fun x39 => (fun x40 => (fun x41 => (fun x42 => (fun x43 => (fun x44 => (fun x47 => (@callQ (@Ctx.O x39 x37) x39 x40 x37 x38 (fun x49 => (@putDstQ x43 x41 x42 x49 (fun x50 => (x44 x50 x40)))) x47)))))))))) (fun x51 => (fun x52 => (fun _ => (fun x54 => (fun _ => (fun _ => (fun _ => (fun _ => (fun x61 => (@roundQ (@Heap.get_F x54 x51) x51 x52 x61)))))))))) x0))
def runOpsQ : (@Ctx → (@FConf → ((@Array.{0} @Oper) → ((@List.{0} @AItem) → (@Nx → ((@List.{0} @Oper) → (@FEnv → (@Heap → @Res)))))))) :=
  (fun x0 => (fun x1 => (fun x2 => (fun x3 => (fun x4 => (fun x5 => (@List.rec.{1, 0} @Oper (fun _ => (@FEnv → (@Heap → @Res))) (fun x9 => (fun x10 => (x4 (@withAllQ x1 x9 x3 x10)))) (fun x11 => (fun x12 => (fun x13 => (fun x16 => (fun x17 => (@wantedQ (@Oper.guard x11) (@Array.toList.{0} @Oper x2) x16 (fun x18 => (fun x19 => (@Bool.rec.{1} (fun _ => @Res) (@putDstQ (@Oper.dst x11) (@FFrame.size (@FConf.fr x1)) x19 (@AVal.tuple (@List.nil.{0} @AVal)) (fun x21 => (x13 x21 x17))) (@aOperQ (@Oper.op x11) x0 x17 x19 (fun x22 => (@opNextQ x22 x0 x17 (@FFrame.size (@FConf.fr x1)) x19 (@Oper.dst x11) x13 (@callInQ x1 x2 x11 x12 x3 x19 x17 x4)))) x18))))))))) x5)))))))
def drawStepQ : ((@Option.{0} (@List.{0} @PlanRow)) → (@Ctx → (@SubQ → (@FConf → ((@Array.{0} @Oper) → ((@List.{0} @AItem) → (@Nx → @Res))))))) :=
  (fun x0 => (@Option.rec.{1, 0} (@List.{0} @PlanRow) (fun _ => (@Ctx → (@SubQ → (@FConf → ((@Array.{0} @Oper) → ((@List.{0} @AItem) → (@Nx → @Res))))))) (fun _ => (fun _ => (fun _ => (fun _ => (fun _ => (fun _ => @False)))))) (fun x14 => (fun x15 => (fun x16 => (fun x17 => (fun x18 => (fun x19 => (fun x20 => (@drawRunQ x15 x16 (@Heap.next (@FConf.σ x17)) (@FFrame.size (@FConf.fr x17)) (@Array.toList.{0} @Oper x18) (fun x21 => (fun x22 => (x20 (@withAllQ x17 x21 x19 x22)))) x14 (@List.nil.{0} (@Prod.{0, 0} @Nat @Nat)) (@FFrame.tmps (@FConf.fr x17)) (@FConf.σ x17))))))))) x0))
def jumpToQ : ((@Option.{0} (@List.{0} @AItem)) → (@FConf → (@Code → (@Nx → (@Ot → @Res))))) :=
  (fun x0 => (@Option.rec.{1, 0} (@List.{0} @AItem) (fun _ => (@FConf → (@Code → (@Nx → (@Ot → @Res))))) (fun x6 => (fun x7 => (fun x8 => (fun x9 => (@leaveQ (@FFrame.rnd (@FConf.fr x6)) x6 (@Option.some.{0} @Code x7) @Bool.false x8 x9))))) (fun x10 => (fun x11 => (fun _ => (fun x13 => (fun _ => (x13 (@withTodoQ x11 x10))))))) x0))
def codeStepQ : (@Code → @StepQ) :=
  (fun x0 => (@Code.rec.{1} (fun _ => @StepQ) (fun _ => (fun _ => (fun x4 => (fun x5 => (fun _ => (fun x7 => (x5 (@withTodoQ x4 x7)))))))) (fun _ => (fun x9 => (fun x10 => (fun x11 => (fun x12 => (fun x13 => (fun x14 => (fun _ => (fun x16 => (@Bool.rec.{1} (fun _ => @Res) (@runOpsQ x11 x13 x9 x16 x14 (@Array.toList.{0} @Oper x9) (@FFrame.tmps (@FConf.fr x13)) (@FConf.σ x13)) (@drawStepQ (@planQ (@Ctx.P x11) (@Array.toList.{0} @Oper x9)) x11 x12 x13 x9 x16 x14) x10)))))))))) (fun _ => (fun x19 => (fun x20 => (fun _ => (fun x22 => (fun x23 => (fun x24 => (fun x25 => (fun x26 => (fun x27 => (x20 x22 x23 x24 x25 x26 (@List.cons.{0} @AItem (@AItem.code x19) x27)))))))))))) (fun x28 => (fun x29 => (fun x30 => (fun _ => (fun _ => (fun x33 => (fun _ => (fun x35 => (fun x36 => (fun _ => (fun x38 => (@condStepQ (@evalOpQ x28 x33 (@FFrame.tmps (@FConf.fr x35))) x35 x29 x30 x38 x36)))))))))))) (fun x39 => (fun _ => (fun x41 => (fun x42 => (fun x43 => (fun x44 => (fun x45 => (fun x46 => (fun x47 => (x41 x42 x43 x44 x45 x46 (@List.cons.{0} @AItem (@AItem.inBlock x39) x47))))))))))) (fun x48 => (fun x49 => (fun x50 => (fun x51 => (fun x52 => (fun x53 => (fun x54 => (fun x55 => (x49 x50 x51 x52 x53 x54 (@List.cons.{0} @AItem (@AItem.inLoop x48) x55)))))))))) (fun x56 => (fun x57 => (fun x58 => (fun x59 => (fun _ => (fun _ => (fun x62 => (fun _ => (fun x64 => (fun x65 => (fun _ => (fun x67 => (@rangeStepQ (@evalOpQ x56 x62 (@FFrame.tmps (@FConf.fr x64))) x62 x64 x57 x58 x59 x67 x65))))))))))))) (fun x68 => (fun _ => (fun _ => (fun x71 => (fun x72 => (fun x73 => (fun x74 => (@jumpToQ (@exitToA x68 x74) x71 (@Code.exit x68) x72 x73)))))))) (fun x75 => (fun x76 => (fun x77 => (fun x78 => (fun x79 => (fun x80 => (fun x81 => (fun x82 => (x76 x77 x78 x79 x80 x81 (@List.cons.{0} @AItem (@AItem.inScope x75) x82)))))))))) (fun _ => (fun _ => (fun _ => (fun x86 => (fun x87 => (fun _ => (fun x89 => (x87 (@withTodoQ x86 x89))))))))) (fun x90 => (fun _ => (fun _ => (fun x93 => (fun x94 => (fun x95 => (fun x96 => (@jumpToQ (@gotoInA x90 x96) x93 (@Code.goto x90) x94 x95)))))))) (fun _ => (fun _ => (fun x99 => (fun x100 => (fun x101 => (fun _ => (@leaveQ (@FFrame.rnd (@FConf.fr x99)) x99 (@Option.some.{0} @Code @Code.ret) @Bool.true x100 x101))))))) (fun _ => (fun _ => (fun _ => (fun _ => (fun _ => (fun _ => (fun _ => @False))))))) x0))
def beginStepQ : ((@Option.{0} @Nat) → (@FConf → ((@List.{0} @AItem) → (@Nx → @Res)))) :=
  (fun x0 => (@Option.rec.{1, 0} @Nat (fun _ => (@FConf → ((@List.{0} @AItem) → (@Nx → @Res)))) (fun _ => (fun _ => (fun _ => @False))) (fun x8 => (fun x9 => (fun x10 => (fun x11 => (@FConf.rec.{1} (fun _ => @Res) (fun x13 => (fun x14 => (fun x15 => (@FFrame.rec.{1} (fun _ => @Res) (fun x17 => (fun x18 => (fun x19 => (fun _ => (fun x21 => (fun _ => (fun x23 => (@withLoop_F (@Heap.get_F x15 x8) (fun x24 => (@readyK (@ALoop.state x24) (x11 (@FConf.mk (@FFrame.mk x17 x18 x19 x10 x21 @Bool.false x23) x14 (@Heap.put_F x15 x8 (@Option.some.{0} @AObj (@AObj.loop (@ALoop.mk @LoopState.busy (@ALoop.pending x24) (@ALoop.fn x24) (@ALoop.tmps x24) (@ALoop.size x24) (@ALoop.params x24) (@ALoop.assign x24) (@ALoop.body x24) (@ALoop.defers x24))))))))))))))))) x13)))) x9))))) x0))
def endStepQ : (@FConf → (@Nat → ((@List.{0} @AItem) → (@Nx → @Res)))) :=
  (fun x0 => (fun x1 => (fun x2 => (fun x3 => (@FConf.rec.{1} (fun _ => @Res) (fun x5 => (fun x6 => (fun x7 => (@FFrame.rec.{1} (fun _ => @Res) (fun x9 => (fun x10 => (fun x11 => (fun _ => (fun x13 => (fun _ => (fun x15 => (@withLoop_F (@Heap.get_F x7 x1) (fun x16 => (@notBusyK (@ALoop.state x16) (x3 (@FConf.mk (@FFrame.mk x9 x10 x11 (@pend (@ALoop.pending x16) x2) x13 @Bool.false x15) x6 (@Heap.put_F x7 x1 (@Option.some.{0} @AObj (@AObj.loop (@ALoop.mk @LoopState.exhausted (@ALoop.pending x16) (@ALoop.fn x16) (@ALoop.tmps x16) (@ALoop.size x16) (@ALoop.params x16) (@ALoop.assign x16) (@ALoop.body x16) (@ALoop.defers x16))))))))))))))))) x5)))) x0)))))
def itemStepQ : (@AItem → @StepQ) :=
  (fun x0 => (@AItem.rec.{1} (fun _ => @StepQ) (fun x2 => (@codeStepQ x2)) (fun _ => (fun _ => (fun _ => (fun x6 => (fun x7 => (fun _ => (fun x9 => (x7 (@withTodoQ x6 x9))))))))) (fun x10 => (fun x11 => (fun x12 => (fun x13 => (fun x14 => (fun x15 => (fun x16 => (@codeStepQ x10 x11 x12 x13 x14 x15 (@List.cons.{0} @AItem (@AItem.inLoop x10) x16))))))))) (fun _ => (fun _ => (fun _ => (fun x20 => (fun x21 => (fun _ => (fun x23 => (x21 (@withTodoQ x20 x23))))))))) (fun x24 => (fun x25 => (fun x26 => (fun _ => (fun x28 => (fun x29 => (fun _ => (fun x31 => (@runOpsQ x26 x28 x24 x31 x29 x25 (@FFrame.tmps (@FConf.fr x28)) (@FConf.σ x28)))))))))) (fun _ => (fun _ => (fun _ => (fun _ => (fun _ => (fun _ => (fun _ => @False))))))) (fun x39 => (fun _ => (fun _ => (fun x42 => (fun x43 => (fun _ => (fun x45 => (@endStepQ x42 x39 x45 x43)))))))) (fun _ => (fun _ => (fun x48 => (fun x49 => (fun _ => (fun x51 => (@beginStepQ (@FFrame.rnd (@FConf.fr x48)) x48 x51 x49))))))) x0))
def todoStepQ : ((@List.{0} @AItem) → (@Ctx → (@SubQ → (@FConf → (@Nx → (@Ot → @Res)))))) :=
  (fun x0 => (@List.rec.{1, 0} @AItem (fun _ => (@Ctx → (@SubQ → (@FConf → (@Nx → (@Ot → @Res)))))) (fun _ => (fun _ => (fun x9 => (fun x10 => (fun x11 => (@leaveQ (@FFrame.rnd (@FConf.fr x9)) x9 (@Option.none.{0} @Code) @Bool.true x10 x11)))))) (fun x12 => (fun x13 => (fun _ => (fun x22 => (fun x23 => (fun x24 => (fun x25 => (fun x26 => (@itemStepQ x12 x22 x23 x24 x25 x26 x13))))))))) x0))
def retOrQ : (@Bool → (@Ctx → (@SubQ → (@FConf → (@Nx → (@Ot → @Res)))))) :=
  (fun x0 => (@Bool.rec.{1} (fun _ => (@Ctx → (@SubQ → (@FConf → (@Nx → (@Ot → @Res)))))) (fun x7 => (fun x8 => (fun x9 => (fun x10 => (fun x11 => (@todoStepQ (@FFrame.todo (@FConf.fr x9)) x7 x8 x9 x10 x11)))))) (fun x12 => (fun _ => (fun x14 => (fun x15 => (fun x16 => (@retStepQ (@FFrame.defers (@FConf.fr x14)) x12 x14 x15 x16)))))) x0))
def astepQ : (@Ctx → (@SubQ → (@FConf → (@Nx → (@Ot → @Res))))) :=
  (fun x0 => (fun x1 => (fun x2 => (fun x3 => (fun x4 => (@FConf.rec.{1} (fun _ => @Res) (fun x6 => (fun x7 => (fun x8 => (@FFrame.rec.{1} (fun _ => @Res) (fun x10 => (fun x11 => (fun x12 => (fun x13 => (fun x14 => (fun x15 => (fun x16 => (@retOrQ x15 x0 x1 (@FConf.mk (@FFrame.mk x10 x11 x12 x13 x14 x15 x16) x7 x8) x3 x4)))))))) x6)))) x2))))))
def arunQ : (@Nat → (@Ctx → ((@AConf → @Bool) → (@FConf → ((@AConf → @Res) → (@Ot → @Res)))))) :=
  (fun x0 => (@Nat.rec.{1} (fun _ => (@Ctx → ((@AConf → @Bool) → (@FConf → ((@AConf → @Res) → (@Ot → @Res)))))) (fun _ => (fun _ => (fun x12 => (fun x13 => (fun _ => (x13 (@FConf.ab x12))))))) (fun _ => (fun x17 => (fun x25 => (fun x26 => (fun x28 => (fun x29 => (fun x31 => (@astepQ x25 (fun x32 => (fun x33 => (fun x34 => (x17 x25 (fun _ => @Bool.false) (@FConf.mk x32 (@List.nil.{0} @FFrame) x33) (fun _ => @False) x34)))) x28 (fun x39 => (@Bool.rec.{1} (fun _ => @Res) (x17 x25 x26 x39 x29 x31) (x29 (@FConf.ab x39)) (x26 (@FConf.ab x39)))) x31)))))))) x0))
def callQQ : (@Nat → (@Ctx → (@Nat → ((@List.{0} @AVal) → (@Heap → ((@AVal → (@Heap → @Res)) → @Res)))))) :=
  (fun x0 => (fun x1 => (fun x2 => (fun x3 => (fun x4 => (fun x5 => (@enterQ (@bodyOf x1 x2) x2 x3 (fun x8 => (@arunQ x0 x1 (fun _ => @Bool.false) (@FConf.mk x8 (@List.nil.{0} @FFrame) x4) (fun _ => @False) x5)))))))))
end Go.AE

/- The quick evaluator is the evaluator. -/
namespace Go.AE
set_option linter.unusedSimpArgs false
set_option linter.unusedVariables false

theorem ofValueQ_eq (v : Value) : ofValueQ v = ofValue v := by cases v <;> first | rfl | (simp only [ofValueQ])
theorem evalOpQ_eq (x : Operand) (C : Ctx) (T : FEnv) : evalOpQ x C T = evalOp x C T.get := by
  cases x <;> first | rfl | exact ofValueQ_eq _
theorem evalOpsQ_eq (xs : List Operand) (C : Ctx) (T : FEnv) : evalOpsQ xs C T = evalOps xs C T.get := by
  induction xs with
  | nil => rfl
  | cons x xs ih =>
    show evalOpQ x C T :: evalOpsQ xs C T = evalOp x C T.get :: evalOps xs C T.get
    rw [evalOpQ_eq, ih]
theorem optVQ_eq (x : Option Operand) (C : Ctx) (T : FEnv) : optVQ x C T = optV x C T.get := by
  cases x with
  | none => rfl
  | some x => show some (evalOpQ x C T) = some (evalOp x C T.get); rw [evalOpQ_eq]
theorem evalPartsQ_eq (xs : List (Nat × Operand)) (C : Ctx) (T : FEnv) : evalPartsQ xs C T = evalParts xs C T.get := by
  induction xs with
  | nil => rfl
  | cons x xs ih =>
    show (x.1, evalOpQ x.2 C T) :: evalPartsQ xs C T = (x.1, evalOp x.2 C T.get) :: evalParts xs C T.get
    rw [evalOpQ_eq, ih]
theorem opCallQ_eq (c : Callee) (C : Ctx) (σ : Heap) (T : FEnv) (ts : List Nat) (args : List Operand) (k : ANext → Res) : opCallQ c C σ T ts args k = opCall c C σ T.get ts args k := by
  cases c <;> simp only [opCallQ, opCall, evalOpQ_eq, evalOpsQ_eq, opCallV_F_eq, opBuiltin_F_eq]
theorem chk_rec (b : Bool) (s : String) (k : Res) : Bool.rec (motive := fun _ => Res) False k b = chk b s k := by cases b <;> rfl
theorem rec_cond {α : Sort _} (b : Bool) (x y : α) : Bool.rec (motive := fun _ => α) y x b = cond b x y := by cases b <;> rfl
theorem rec_and (b c : Bool) : Bool.rec (motive := fun _ => Bool) false c b = (b && c) := by cases b <;> rfl
theorem aOperQ_eq (o : Op) (C : Ctx) (σ : Heap) (T : FEnv) (k : ANext → Res) : aOperQ o C σ T k = aOper o C σ T.get k := by
  cases o <;> simp only [aOperQ, aOper, evalOpQ_eq, evalOpsQ_eq, evalPartsQ_eq, optVQ_eq, opCallQ_eq, opPick_F_eq, aBuild_F_eq, aBuildSlice_F_eq, aLoad_F_eq, aStore_F_eq, opNilCheck_F_eq, aBinOp_F_eq, aUnOp_F_eq, aConvert_F_eq, opMakeFunc_F_eq, opMakeMap_F_eq, aMakeSlice_F_eq, aSlice_F_eq, aFieldAddr_F_eq, opField_F_eq, withInt_F_eq, aIndexAddr_F_eq, aIndex_F_eq, aLookup_F_eq, aMapUpdate_F_eq, opRange_F_eq, opNext_F_eq, aTypeAssert_F_eq, aExtract_F_eq, cellsOf_F_eq, oneCell_F_eq, allB_F_eq, Heap.new_F_eq, chk, Fail]
  all_goals exact rec_cond _ _ _

theorem putDstQ_eq {dst : Option Tmp} {size : Nat} {T : FEnv} {v : AVal} {kF : FEnv → Res} {k : Env → Res} (h : ∀ T', kF T' = k T'.get) : putDstQ dst size T v kF = putDst dst size T.get v k := by
  cases dst with
  | none => exact h T
  | some d =>
    show Bool.rec (motive := fun _ => Res) False (kF (T.set d v)) (Nat.blt d size) = chk (Nat.blt d size) "slot" (k (putE T.get d v))
    rw [chk_rec (Nat.blt d size) "slot", h, FEnv.get_set]
theorem guardQ_eq {v : AVal} {T : FEnv} {d : Nat} {want : Bool} {kF : Bool → FEnv → Res} {k : Bool → Res} (hv : T.get d = v) (h : ∀ w T', T'.get = T.get → kF w T' = k w) : guardQ v T d want kF = guardA v want k := by
  cases v with
  | bool b =>
    show Bool.rec (motive := fun _ => Res) (kF (Bool.rec (motive := fun _ => Bool) true false want) (T.set d (.bool false))) (kF want (T.set d (.bool true))) b = k (b == want)
    cases b with
    | true =>
      show kF want (T.set d (.bool true)) = k (true == want)
      rw [h _ _ (by rw [FEnv.get_set, putE_same hv])]
      cases want <;> rfl
    | false =>
      show kF (Bool.rec (motive := fun _ => Bool) true false want) (T.set d (.bool false)) = k (false == want)
      rw [h _ _ (by rw [FEnv.get_set, putE_same hv])]
      cases want <;> rfl
  | tuple vs => exact h _ _ rfl
  | _ => rfl
theorem wantedQ_eq {g : Option (Nat × Bool)} {ops : List Oper} {T : FEnv} {kF : Bool → FEnv → Res} {k : Bool → Res} (h : ∀ w T', T'.get = T.get → kF w T' = k w) : wantedQ g ops T kF = wantedA g ops T.get k := by
  cases g with
  | none => exact h _ _ rfl
  | some p =>
    obtain ⟨j, want⟩ := p
    show guardAtQ (dstAt ops j) T want kF = guardAt (dstAt ops j) T.get want k
    cases dstAt ops j with
    | none => rfl
    | some d => exact guardQ_eq rfl h
theorem readBlockQ_eq (o : Op) (C : Ctx) (T : FEnv) : readBlockQ o C T = readBlock o C T.get := by
  cases o <;> simp only [readBlockQ, readBlock, evalOpQ_eq, evalOpsQ_eq]
theorem enterQ_eq {b : Option (Code × Nat)} {f : Nat} {args : List AVal} {kF : FFrame → Res} {k : AFrame → Res} (h : ∀ fr, kF fr = k fr.ab) : enterQ b f args kF = enterA b f args k := by
  cases b with
  | none => rfl
  | some p =>
    obtain ⟨c, n⟩ := p
    show Bool.rec (motive := fun _ => Res) False (kF ⟨f, ofEnv (nthD args), n, [.code c], [], false, none⟩) (Nat.ble (len args) n) = chk (Nat.ble (len args) n) "enter: size" (k ⟨f, nthD args, n, [.code c], [], false, none⟩)
    rw [chk_rec _ "enter: size", h]
    unfold FFrame.ab
    simp only [get_ofEnv]
theorem roundQ_eq {o : Option AObj} {b : Nat} {args : List AVal} {kF : FFrame → Res} {k : AFrame → Res} (h : ∀ fr, kF fr = k fr.ab) : roundQ o b args kF = roundA o b args k := by
  cases o with
  | none => rfl
  | some o =>
    cases o with
    | loop l =>
      show Bool.rec (motive := fun _ => Res) False (kF ⟨l.fn, ofEnv (setParams l.params.toList args l.tmps), l.size, [.code l.assign, .beginRound, .code l.body], [], false, some b⟩) _ = chk _ "round" (k _)
      rw [chk_rec _ "round", h]
      unfold FFrame.ab
      simp only [get_ofEnv, allB_F_eq]
      congr 1
      exact rec_and _ _
    | _ => rfl
theorem callQ_eq {or : Option Oracle} {C : Ctx} {σ : Heap} {f : Nat} {args : List AVal} {kv : AVal → Res} {kF : FFrame → Res} {k : AFrame → Res} (h : ∀ fr, kF fr = k fr.ab) : callQ or C σ f args kv kF = callK or C σ f args kv k := by
  cases or with
  | none => exact enterQ_eq h
  | some or => exact chk_rec _ "oracle" _

def SubEq (subQ : SubQ) (sub : Sub) : Prop := ∀ fr σ k, subQ fr σ k = sub fr.ab σ k
theorem subCallQ_eq {nx : ANext} {C : Ctx} {subQ : SubQ} {sub : Sub} (hs : SubEq subQ sub) {σ : Heap} {k : AVal → Heap → Res} : subCallQ nx C subQ σ k = subCall nx C sub σ k := by
  cases nx with
  | value v σ' => rfl
  | skip σ' => rfl
  | enter f args => exact callQ_eq fun fr => hs fr σ k
  | round b args =>
    show roundQ (Heap.get_F σ b) b args _ = roundA (σ.get b) b args _
    rw [Heap.get_F_eq]
    exact roundQ_eq fun fr => hs fr σ k

theorem onlyValue_congr {nx : ANext} {k k' : AVal → Res} (h : ∀ v, k v = k' v) : onlyValue nx k = onlyValue nx k' := by rw [show k = k' from funext h]
theorem drawOpQ_eq {kd : Kind} {C : Ctx} {subQ : SubQ} {sub : Sub} (hs : SubEq subQ sub) {base size : Nat} {r : PlanRow} {seen : Seen} {T : FEnv} {σ : Heap} {goQ : DrawQ} {go : DrawK} (h : ∀ seen T σ, goQ seen T σ = go seen T.get σ) :
    drawOpQ kd C subQ base size r seen T σ goQ = drawOp kd C sub base size r seen T.get σ go := by
  cases kd with
  | pure =>
    show aOperQ r.o.op C ⟨0, .nil⟩ T (fun nx => onlyValue nx fun v => putDstQ r.o.dst size T v fun T' => goQ seen T' σ) = _
    rw [aOperQ_eq]
    refine congrArg (aOper r.o.op C ⟨0, .nil⟩ T.get) (funext fun nx => onlyValue_congr fun v => putDstQ_eq fun T' => h _ _ _)
  | read =>
    show Bool.rec (motive := fun _ => Res) False (aOperQ r.o.op C σ T (fun nx => onlyValue nx fun v => putDstQ r.o.dst size T v fun T' => goQ (seeBlock (readBlockQ r.o.op C T) r.i seen) T' σ)) (lowBlock (readBlockQ r.o.op C T) σ.next) = chk _ "draw: block" _
    rw [chk_rec _ "draw: block", aOperQ_eq, readBlockQ_eq]
    congr 1
    refine congrArg (aOper r.o.op C σ T.get) (funext fun nx => onlyValue_congr fun v => putDstQ_eq fun T' => h _ _ _)
  | fresh =>
    show aOperQ r.o.op C ⟨σ.next, .nil⟩ T (fun nx => onlyFresh nx σ.next fun v ob => putDstQ r.o.dst size T v fun T' => goQ ((r.i, σ.next) :: seen) T' (Heap.new_F σ ob)) = _
    rw [aOperQ_eq, Heap.new_F_eq]
    refine congrArg (aOper r.o.op C ⟨σ.next, .nil⟩ T.get) (funext fun nx => ?_)
    exact congrArg (onlyFresh nx σ.next) (funext fun v => funext fun ob => putDstQ_eq fun T' => h _ _ _)
  | big =>
    show aOperQ r.o.op C (hideAll base σ seen r.anc) T (fun nx => subCallQ nx C subQ (hideAll base σ seen r.anc) fun v σ' => putDstQ r.o.dst size T v fun T' => goQ seen T' (unhide σ σ' seen r.anc)) = _
    rw [aOperQ_eq]
    refine congrArg (aOper r.o.op C (hideAll base σ seen r.anc) T.get) (funext fun nx => ?_)
    rw [subCallQ_eq hs]
    exact congrArg (subCall nx C sub (hideAll base σ seen r.anc)) (funext fun v => funext fun σ' => putDstQ_eq fun T' => h _ _ _)
theorem drawRunQ_eq {C : Ctx} {subQ : SubQ} {sub : Sub} (hs : SubEq subQ sub) {base size : Nat} {ops : List Oper} {kF : FEnv → Heap → Res} {k : Env → Heap → Res} (h : ∀ T σ, kF T σ = k T.get σ) (rows : List PlanRow) :
    ∀ seen T σ, drawRunQ C subQ base size ops kF rows seen T σ = drawRun C sub base size ops k rows seen T.get σ := by
  induction rows with
  | nil => intro seen T σ; exact h T σ
  | cons r rows ih =>
    intro seen T σ
    refine wantedQ_eq fun w T' hT => ?_
    show Bool.rec (motive := fun _ => Res) (putDstQ r.o.dst size T' (.tuple []) fun T' => drawRunQ C subQ base size ops kF rows seen T' σ) (drawOpQ r.kind C subQ base size r seen T' σ (drawRunQ C subQ base size ops kF rows)) w = _
    rw [rec_cond, drawOpQ_eq hs (go := drawRun C sub base size ops k rows) (fun seen T σ => ih seen T σ), hT]
    congr 1
    rw [← hT]
    exact putDstQ_eq fun T' => ih _ _ _

/-! ### Configurations -/
def NxEq (nQ : Nx) (n : AConf → Res) : Prop := ∀ c, nQ c = n c.ab
theorem ab_mk (fn : Nat) (T : FEnv) (size : Nat) (todo : List AItem) (defers : List Nat) (ret : Bool) (rnd : Option Nat) (cs : List FFrame) (σ : Heap) :
    FConf.ab ⟨⟨fn, T, size, todo, defers, ret, rnd⟩, cs, σ⟩ = ⟨⟨fn, T.get, size, todo, defers, ret, rnd⟩, mapL FFrame.ab cs, σ⟩ := rfl

theorem regBackQ_eq {rest : List Oper} {c : FFrame} {ops : Array Oper} {k : List AItem} {cs : List FFrame} {v : AVal} {σ : Heap} {nQ : Nx} {n : AConf → Res} (hn : NxEq nQ n) : regBackQ rest c ops k cs v σ nQ = regBack rest c.ab ops k (mapL FFrame.ab cs) v σ n := by
  cases rest with
  | nil => rfl
  | cons o rest =>
    obtain ⟨fn, T, size, todo, defers, ret, rnd⟩ := c
    exact putDstQ_eq fun T' => hn _
theorem itemBackQ_eq {x : AItem} {c : FFrame} {k : List AItem} {cs : List FFrame} {v : AVal} {σ : Heap} {nQ : Nx} {n : AConf → Res} (hn : NxEq nQ n) : itemBackQ x c k cs v σ nQ = itemBack x c.ab k (mapL FFrame.ab cs) v σ n := by
  cases x with
  | inRegion ops rest => exact regBackQ_eq hn
  | inRangeFunc b =>
    obtain ⟨fn, T, size, todo, defers, ret, rnd⟩ := c
    exact hn _
  | _ => rfl
theorem giveBackQ_eq {cs : List FFrame} {v : AVal} {σ : Heap} {nQ : Nx} {n : AConf → Res} (hn : NxEq nQ n) {out : Ot} : giveBackQ cs v σ nQ out = giveBack (mapL FFrame.ab cs) v σ n out := by
  cases cs with
  | nil => rfl
  | cons c cs =>
    obtain ⟨fn, T, size, todo, defers, ret, rnd⟩ := c
    cases todo with
    | nil => rfl
    | cons x k => exact itemBackQ_eq (c := ⟨fn, T, size, x :: k, defers, ret, rnd⟩) hn
theorem resultQ_eq (r : ResultVar) (C : Ctx) (σ : Heap) (T : FEnv) (k : AVal → Res) : resultQ r C σ T k = resultA r C σ T.get k := by
  cases r with
  | tmp t => rfl
  | cell a t => show aLoad_F (T.get a) C σ t k = aLoad (T.get a) C σ t k; rw [aLoad_F_eq]
theorem resultsQ_eq (rs : List ResultVar) (C : Ctx) (σ : Heap) (T : FEnv) : ∀ k : List AVal → Res, resultsQ rs C σ T k = resultsA rs C σ T.get k := by
  induction rs with
  | nil => intro k; rfl
  | cons r rs ih =>
    intro k
    show resultQ r C σ T (fun v => resultsQ rs C σ T fun vs => k (v :: vs)) = resultA r C σ T.get (fun v => resultsA rs C σ T.get fun vs => k (v :: vs))
    rw [resultQ_eq]
    exact congrArg _ (funext fun v => ih _)
theorem leaveQ_eq {rnd : Option Nat} {c : FConf} {jump : Option Code} {plain : Bool} {nQ : Nx} {n : AConf → Res} (hn : NxEq nQ n) {out : Ot} : leaveQ rnd c jump plain nQ out = leave rnd c.ab jump plain n out := by
  obtain ⟨⟨fn, T, size, todo, defers, ret, rnd'⟩, cs, σ⟩ := c
  cases rnd with
  | none =>
    show Bool.rec (motive := fun _ => Res) False (nQ ⟨⟨fn, T, size, todo, defers, true, none⟩, cs, σ⟩) plain = chk plain "leave" _
    rw [chk_rec plain "leave", hn]; rfl
  | some b =>
    show withLoop_F (Heap.get_F σ b) _ = withLoop (σ.get b) _
    rw [withLoop_F_eq, Heap.get_F_eq]
    refine congrArg (withLoop (σ.get b)) (funext fun l => ?_)
    have := giveBackQ_eq (cs := cs) (v := .bool (match jump with | none => true | some _ => false)) (σ := endRound l σ b jump) hn (out := out)
    cases jump <;> exact this
theorem retStepQ_eq {ds : List Nat} {C : Ctx} {c : FConf} {nQ : Nx} {n : AConf → Res} (hn : NxEq nQ n) {out : Ot} : retStepQ ds C c nQ out = retStep ds C c.ab n out := by
  obtain ⟨⟨fn, T, size, todo, defers, ret, rnd'⟩, cs, σ⟩ := c
  cases ds with
  | nil =>
    show fnK _ (fun fn => resultsQ fn.results.toList C σ T fun vs => giveBackQ cs (oneOrAll vs) σ nQ out) = fnK _ (fun fn => resultsA fn.results.toList C σ T.get fun vs => giveBack (mapL FFrame.ab cs) (oneOrAll vs) σ n out)
    refine congrArg _ (funext fun f => ?_)
    rw [resultsQ_eq]
    exact congrArg _ (funext fun vs => giveBackQ_eq hn)
  | cons d ds =>
    show takeDef (Heap.get_F σ d) (nQ ⟨⟨fn, T, size, todo, ds, true, rnd'⟩, cs, Heap.put_F σ d (some (.deferred false))⟩) = takeDef (σ.get d) _
    rw [Heap.get_F_eq, Heap.put_F_eq, hn]; rfl
theorem withTodoQ_ab (c : FConf) (todo : List AItem) : (withTodoQ c todo).ab = withTodo c.ab todo := rfl
theorem withAllQ_ab (c : FConf) (T : FEnv) (todo : List AItem) (σ : Heap) : (withAllQ c T todo σ).ab = withAll c.ab T.get todo σ := rfl
theorem condStepQ_eq {v : AVal} {c : FConf} {thn els : Code} {k : List AItem} {nQ : Nx} {n : AConf → Res} (hn : NxEq nQ n) : condStepQ v c thn els k nQ = condStep v c.ab thn els k n := by
  cases v with
  | bool b =>
    show Bool.rec (motive := fun _ => Res) (nQ (withTodoQ c (.code els :: k))) (nQ (withTodoQ c (.code thn :: k))) b = _
    rw [rec_cond, hn, hn]; rfl
  | _ => rfl
theorem enterLoopQ_eq {rnd : Option Nat} {C : Ctx} {c : FConf} {params : Array Tmp} {assign body : Code} {k : List AItem} {g : Nat} {cap : List AVal} {nQ : Nx} {n : AConf → Res} (hn : NxEq nQ n) :
    enterLoopQ rnd C c params assign body k g cap nQ = enterLoop rnd C c.ab params assign body k g cap n := by
  obtain ⟨⟨fn, T, size, todo, defers, ret, rnd'⟩, cs, σ⟩ := c
  cases rnd with
  | none =>
    show enterQ (bodyOf C g) g _ _ = enterA (bodyOf C g) g _ _
    refine enterQ_eq fun fr => ?_
    rw [Heap.new_F_eq, hn]; rfl
  | some l =>
    show withLoop_F (Heap.get_F σ l) _ = withLoop (σ.get l) _
    rw [withLoop_F_eq, Heap.get_F_eq]
    refine congrArg (withLoop (σ.get l)) (funext fun lp => enterQ_eq fun fr => ?_)
    rw [Heap.new_F_eq, hn]; rfl
theorem rangeFnQ_eq {f : AFn} {C : Ctx} {c : FConf} {params : Array Tmp} {assign body : Code} {k : List AItem} {cap : List AVal} {nQ : Nx} {n : AConf → Res} (hn : NxEq nQ n) :
    rangeFnQ f C c params assign body k cap nQ = rangeFn f C c.ab params assign body k cap n := by
  cases f with
  | func g =>
    show Bool.rec (motive := fun _ => Res) False (enterLoopQ c.fr.rnd C c params assign body k g cap nQ) (fnOk C g) = chk _ "rangefunc: no body" _
    rw [chk_rec _ "rangefunc: no body", enterLoopQ_eq hn]; rfl
  | yield b => rfl
theorem rangeStepQ_eq {v : AVal} {C : Ctx} {c : FConf} {params : Array Tmp} {assign body : Code} {k : List AItem} {nQ : Nx} {n : AConf → Res} (hn : NxEq nQ n) :
    rangeStepQ v C c params assign body k nQ = rangeStep v C c.ab params assign body k n := by
  cases v with
  | func f cap => exact rangeFnQ_eq hn
  | _ => rfl
theorem callInQ_eq {c : FConf} {ops : Array Oper} {o : Oper} {rest : List Oper} {k : List AItem} {T : FEnv} {σ : Heap} {nQ : Nx} {n : AConf → Res} (hn : NxEq nQ n) (fr : FFrame) : callInQ c ops o rest k T σ nQ fr = callIn c.ab ops o rest k T.get σ n fr.ab := by
  obtain ⟨⟨fn, T', size, todo, defers, ret, rnd'⟩, cs, σ'⟩ := c
  exact hn _
theorem opNextQ_eq {nx : ANext} {C : Ctx} {σ : Heap} {size : Nat} {T : FEnv} {dst : Option Tmp} {goQ : FEnv → Heap → Res} {go : Env → Heap → Res} (hg : ∀ T σ, goQ T σ = go T.get σ) {callF : FFrame → Res} {call : AFrame → Res} (hc : ∀ fr, callF fr = call fr.ab) :
    opNextQ nx C σ size T dst goQ callF = opNextStep nx C σ size T.get dst go call := by
  cases nx with
  | value v σ' => exact putDstQ_eq fun T' => hg _ _
  | skip σ' => exact putDstQ_eq fun T' => hg _ _
  | enter f args =>
    show callQ (C.O f) C σ f args (fun v => putDstQ dst size T v fun T' => goQ T' σ) callF = callK (C.O f) C σ f args (fun v => putDst dst size T.get v fun ρ' => go ρ' σ) call
    rw [callQ_eq hc]
    congr 1
    exact funext fun v => putDstQ_eq fun T' => hg _ _
  | round b args =>
    show roundQ (Heap.get_F σ b) b args callF = roundA (σ.get b) b args call
    rw [Heap.get_F_eq]
    exact roundQ_eq hc
theorem runOpsQ_eq {C : Ctx} {c : FConf} {ops : Array Oper} {k : List AItem} {nQ : Nx} {n : AConf → Res} (hn : NxEq nQ n) (rest : List Oper) : ∀ T σ, runOpsQ C c ops k nQ rest T σ = runOps C c.ab ops k n rest T.get σ := by
  induction rest with
  | nil => intro T σ; exact hn _
  | cons o rest ih =>
    intro T σ
    refine wantedQ_eq fun w T' hT => ?_
    show Bool.rec (motive := fun _ => Res) (putDstQ o.dst c.fr.size T' (.tuple []) fun T' => runOpsQ C c ops k nQ rest T' σ)
      (aOperQ o.op C σ T' fun nx => opNextQ nx C σ c.fr.size T' o.dst (runOpsQ C c ops k nQ rest) (callInQ c ops o rest k T' σ nQ)) w = _
    rw [rec_cond, aOperQ_eq, hT]
    congr 1
    · refine congrArg (aOper o.op C σ T.get) (funext fun nx => ?_)
      rw [← hT]
      exact opNextQ_eq ih fun fr => callInQ_eq hn fr
    · rw [← hT]; exact putDstQ_eq fun T' => ih _ _
theorem drawStepQ_eq {plan : Option (List PlanRow)} {C : Ctx} {subQ : SubQ} {sub : Sub} (hs : SubEq subQ sub) {c : FConf} {ops : Array Oper} {k : List AItem} {nQ : Nx} {n : AConf → Res} (hn : NxEq nQ n) : drawStepQ plan C subQ c ops k nQ = drawStep plan C sub c.ab ops k n := by
  cases plan with
  | none => rfl
  | some plan => exact drawRunQ_eq hs (fun T σ => hn _) plan [] c.fr.tmps c.σ
theorem jumpToQ_eq {to : Option (List AItem)} {c : FConf} {jump : Code} {nQ : Nx} {n : AConf → Res} (hn : NxEq nQ n) {out : Ot} : jumpToQ to c jump nQ out = jumpTo to c.ab jump n out := by
  cases to with
  | none => exact leaveQ_eq hn
  | some k' => exact hn _
theorem codeStepQ_eq {C : Ctx} {subQ : SubQ} {sub : Sub} (hs : SubEq subQ sub) {c : FConf} {nQ : Nx} {n : AConf → Res} (hn : NxEq nQ n) {out : Ot} (x : Code) : ∀ k, codeStepQ x C subQ c nQ out k = codeStep x C sub c.ab n out k := by
  induction x with
  | skip => intro k; exact hn _
  | region id ops draw =>
    intro k
    show Bool.rec (motive := fun _ => Res) (runOpsQ C c ops k nQ ops.toList c.fr.tmps c.σ) (drawStepQ (planQ C.P ops.toList) C subQ c ops k nQ) draw = cond draw (drawStep (mkPlan C.P ops.toList) C sub c.ab ops k n) (runOps C c.ab ops k n ops.toList c.fr.tmps.get c.σ)
    rw [rec_cond, planQ_eq, drawStepQ_eq hs hn, runOpsQ_eq hn]
  | seq a b iha ihb => intro k; exact iha _
  | cond x thn els _ _ =>
    intro k
    show condStepQ (evalOpQ x C c.fr.tmps) c thn els k nQ = condStep (evalOp x C c.fr.tmps.get) c.ab thn els k n
    rw [evalOpQ_eq, condStepQ_eq hn]
  | block id b ih => intro k; exact ih _
  | loop b ih => intro k; exact ih _
  | rangeFunc f params assign body _ _ =>
    intro k
    show rangeStepQ (evalOpQ f C c.fr.tmps) C c params assign body k nQ = rangeStep (evalOp f C c.fr.tmps.get) C c.ab params assign body k n
    rw [evalOpQ_eq, rangeStepQ_eq hn]
  | exit id => intro k; exact jumpToQ_eq hn
  | scope b ih => intro k; exact ih _
  | label l => intro k; exact hn _
  | goto l => intro k; exact jumpToQ_eq hn
  | ret => intro k; exact leaveQ_eq hn
  | refuse s => intro k; rfl
theorem beginStepQ_eq {rnd : Option Nat} {c : FConf} {k : List AItem} {nQ : Nx} {n : AConf → Res} (hn : NxEq nQ n) : beginStepQ rnd c k nQ = beginStep rnd c.ab k n := by
  obtain ⟨⟨fn, T, size, todo, defers, ret, rnd'⟩, cs, σ⟩ := c
  cases rnd with
  | none => rfl
  | some b =>
    show withLoop_F (Heap.get_F σ b) _ = withLoop (σ.get b) _
    rw [withLoop_F_eq, Heap.get_F_eq]
    refine congrArg (withLoop (σ.get b)) (funext fun l => ?_)
    rw [Heap.put_F_eq, hn]; rfl
theorem endStepQ_eq {c : FConf} {b : Nat} {k : List AItem} {nQ : Nx} {n : AConf → Res} (hn : NxEq nQ n) : endStepQ c b k nQ = endStep c.ab b k n := by
  obtain ⟨⟨fn, T, size, todo, defers, ret, rnd'⟩, cs, σ⟩ := c
  show withLoop_F (Heap.get_F σ b) _ = withLoop (σ.get b) _
  rw [withLoop_F_eq, Heap.get_F_eq]
  refine congrArg (withLoop (σ.get b)) (funext fun l => ?_)
  rw [Heap.put_F_eq, hn]; rfl
theorem itemStepQ_eq {C : Ctx} {subQ : SubQ} {sub : Sub} (hs : SubEq subQ sub) {c : FConf} {nQ : Nx} {n : AConf → Res} (hn : NxEq nQ n) {out : Ot} (x : AItem) (k : List AItem) : itemStepQ x C subQ c nQ out k = itemStep x C sub c.ab n out k := by
  cases x with
  | code x => exact codeStepQ_eq hs hn x k
  | inBlock id => exact hn _
  | inScope b => exact hn _
  | inLoop body => exact codeStepQ_eq hs hn body _
  | inRangeFunc b => rfl
  | beginRound => exact beginStepQ_eq hn
  | endRangeFunc b => exact endStepQ_eq hn
  | inRegion ops rest => exact runOpsQ_eq hn rest _ _
theorem astepQ_eq {C : Ctx} {subQ : SubQ} {sub : Sub} (hs : SubEq subQ sub) {c : FConf} {nQ : Nx} {n : AConf → Res} (hn : NxEq nQ n) {out : Ot} : astepQ C subQ c nQ out = astep C sub c.ab n out := by
  obtain ⟨⟨fn, T, size, todo, defers, ret, rnd⟩, cs, σ⟩ := c
  cases ret with
  | true => exact retStepQ_eq (c := ⟨⟨fn, T, size, todo, defers, true, rnd⟩, cs, σ⟩) hn
  | false =>
    cases todo with
    | nil => exact leaveQ_eq (c := ⟨⟨fn, T, size, [], defers, false, rnd⟩, cs, σ⟩) hn
    | cons x k => exact itemStepQ_eq hs (c := ⟨⟨fn, T, size, x :: k, defers, false, rnd⟩, cs, σ⟩) hn x k
theorem arunQ_eq (n : Nat) : ∀ (C : Ctx) (stop : AConf → Bool) (c : FConf) (at_ : AConf → Res) (out : Ot), arunQ n C stop c at_ out = arun n C stop c.ab at_ out := by
  induction n with
  | zero => intro C stop c at_ out; rfl
  | succ n ih =>
    intro C stop c at_ out
    refine astepQ_eq (fun fr σ k => ih C _ _ _ k) fun c' => ?_
    show Bool.rec (motive := fun _ => Res) (arunQ n C stop c' at_ out) (at_ c'.ab) (stop c'.ab) = _
    rw [rec_cond, ih]; rfl
theorem callQQ_eq (n : Nat) (C : Ctx) (f : Nat) (args : List AVal) (σ : Heap) (k : AVal → Heap → Res) :
    callQQ n C f args σ k = enterA (bodyOf C f) f args fun fr => arun n C (fun _ => false) ⟨fr, [], σ⟩ (fun _ => False) k :=
  enterQ_eq fun fr => arunQ_eq n C _ _ _ k
end Go.AE

/- From the quick evaluator's runs to the laws: oracles, cuts. -/
namespace Go.AE
set_option linter.unusedSimpArgs false
set_option linter.unusedVariables false

theorem callQQ_callA (n : Nat) (C : Ctx) (f : Nat) (args : List AVal) (σ : Heap) (k : AVal → Heap → Res) : callQQ n C f args σ k = callA n C f args σ k := callQQ_eq n C f args σ k

/-! ### Values without places -/
mutual
def flatB : AVal → Bool
  | .bool _ => true
  | .int _ _ => true
  | .str _ => true
  | .nils => true
  | .nilp => true
  | .nilm => true
  | .nilFunc => true
  | .nilIface => true
  | .agg cs => flatsB cs
  | .tuple cs => flatsB cs
  | _ => false
def flatsB : List AVal → Bool
  | [] => true
  | v :: r => flatB v && flatsB r
end
mutual
theorem flatB_rel {L L' : Link} : ∀ (v : AVal) {v' : Value}, flatB v = true → VRel L v v' → VRel L' v v'
  | .bool b, _, _, hr => by cases hr; exact .bool _
  | .int k n, _, _, hr => by cases hr; exact .int _ _
  | .str s, _, _, hr => by cases hr with | str h => exact .str h
  | .nils, _, _, hr => by cases hr; exact .nils
  | .nilp, _, _, hr => by cases hr; exact .nilp
  | .nilm, _, _, hr => by cases hr; exact .nilm
  | .nilFunc, _, _, hr => by cases hr; exact .nilFunc
  | .nilIface, _, _, hr => by cases hr; exact .nilIface
  | .agg cs, _, h, hr => by
    simp only [flatB] at h
    cases hr with
    | agg hl hr => exact VRel.agg_iff.2 (flatsB_rel cs h (VRel.agg_iff.1 (.agg hl hr)))
  | .tuple cs, _, h, hr => by
    simp only [flatB] at h
    cases hr with
    | tuple hl hr => exact VRel.tuple_iff.2 (flatsB_rel cs h (VRel.tuple_iff.1 (.tuple hl hr)))
  | .unk, _, h, _ => by simp [flatB] at h
  | .ptr _ _, _, h, _ => by simp [flatB] at h
  | .eptr .., _, h, _ => by simp [flatB] at h
  | .slice .., _, h, _ => by simp [flatB] at h
  | .pslice .., _, h, _ => by simp [flatB] at h
  | .map _, _, h, _ => by simp [flatB] at h
  | .func .., _, h, _ => by simp [flatB] at h
  | .iface .., _, h, _ => by simp [flatB] at h
theorem flatsB_rel {L L' : Link} : ∀ (vs : List AVal) {vs' : List Value}, flatsB vs = true → LRel L vs vs' → LRel L' vs vs'
  | [], _, _, hr => by cases hr; exact .nil
  | v :: r, _, h, hr => by
    simp only [flatsB, Bool.and_eq_true] at h
    cases hr with
    | cons h1 h2 => exact .cons (flatB_rel v h.1 h1) (flatsB_rel r h.2 h2)
end
theorem flatsB_mapL_purify {σ : Heap} {n : Nat} (ih : ∀ v : AVal, flatB (purify n σ v) = true → purify n σ v = v) : ∀ cs : List AVal, flatsB (mapL (purify n σ) cs) = true → mapL (purify n σ) cs = cs
  | [], _ => rfl
  | v :: r, h => by
    have h1 : mapL (purify n σ) (v :: r) = purify n σ v :: mapL (purify n σ) r := rfl
    rw [h1] at h ⊢
    simp only [flatsB, Bool.and_eq_true] at h
    rw [ih v h.1, flatsB_mapL_purify ih r h.2]
theorem purify_flat {σ : Heap} : ∀ (n : Nat) (v : AVal), flatB (purify n σ v) = true → purify n σ v = v
  | 0, v, _ => rfl
  | n + 1, v, h => by
    cases v with
    | slice b off s l cap ex =>
      simp only [purify] at h ⊢
      cases hg : σ.get b with
      | none => rfl
      | some o =>
        rw [hg] at h
        cases o with
        | cells m row e => simp [flatB] at h
        | _ => rfl
    | agg cs =>
      simp only [purify] at h ⊢
      simp only [flatB] at h
      rw [flatsB_mapL_purify (purify_flat n) cs h]
    | _ => rfl

/-- An oracle of values without places: shown by runs. -/
theorem flat_answers {C : Ctx} {μ : Nat → Option (Array Value)} (hC : COk C (L0 μ)) (hm : C.P.follows .mixedOrders = true) {f : Nat} {or : Oracle}
    (h : ∀ args, or.pre args = true → flatsB args = true ∧ flatB (or.val args) = true ∧ ∃ n, Ran (callQQ n C f args σ00 (fun v _ => v = or.val args))) : Answers C.P μ f or := by
  intro L hL σ w args args' hw ha hp cs
  obtain ⟨h1, h2, n, h3⟩ := h _ hp
  have h0 : mapL (purify 4 σ) args = args := flatsB_mapL_purify (purify_flat 4) args h1
  rw [h0] at h1 h2 h3 ⊢
  have h4 := h3.run
  rw [callQQ_callA] at h4
  obtain ⟨u, σ', L', v', w', fr, e1, e2, e3, e4, e5, e6, e7⟩ := callA_ok hC hm (wrel0 (hL ▸ hw.roOk)) (flatsB_rel args h1 ha) h4 cs
  subst e1
  exact ⟨v', w', fr, flatB_rel _ h2 e2, kept_of_ext e4, e5, e6, e7⟩

/-- An oracle of values without places: out of a contract. -/
theorem calls_answers {P : Program} {μ : Nat → Option (Array Value)} {f : Nat} {or : Oracle}
    (h : ∀ args, or.pre args = true → flatsB args = true ∧ ∃ (args' : Array Value) (v' : Value), (∀ (L : Link) (bs : List Value), LRel L args bs → bs = args'.toList) ∧ (∀ L, VRel L (or.val args) v') ∧ ∀ w, RoOk μ w → Calls P f args' w fun e w' => e = .returned v' ∧ Kept w w') : Answers P μ f or := by
  intro L hL σ w args args' hw ha hp cs
  obtain ⟨h1, bs, v', h2, h3, h4⟩ := h _ hp
  have h0 : mapL (purify 4 σ) args = args := flatsB_mapL_purify (purify_flat 4) args h1
  rw [h0] at h1 h2 h3 ⊢
  obtain rfl : args' = bs := Array.ext' (h2 L _ ha)
  obtain ⟨e, w', fr, ⟨rfl, e2⟩, e3, e4, e5⟩ := h4 w (hL ▸ hw.roOk) cs
  exact ⟨v', w', fr, h3 L, e2, e5, e4, e3⟩

/-! ### Cuts -/
noncomputable def toFr (f : AFrame) : FFrame := ⟨f.fn, ofEnv f.tmps, f.size, f.todo, f.defers, f.ret, f.rnd⟩
noncomputable def toF (c : AConf) : FConf := ⟨toFr c.fr, mapL toFr c.cs, c.σ⟩
theorem toFr_ab (f : AFrame) : (toFr f).ab = f := by
  obtain ⟨fn, ρ, size, todo, defers, ret, rnd⟩ := f
  show (⟨fn, (ofEnv ρ).get, size, todo, defers, ret, rnd⟩ : AFrame) = _
  rw [get_ofEnv]
theorem toF_ab (c : AConf) : (toF c).ab = c := by
  obtain ⟨fr, cs, σ⟩ := c
  show (⟨(toFr fr).ab, mapL FFrame.ab (mapL toFr cs), σ⟩ : AConf) = _
  rw [toFr_ab]
  have : mapL FFrame.ab (mapL toFr cs) = cs := by
    induction cs with
    | nil => rfl
    | cons c cs ih => show (toFr c).ab :: mapL FFrame.ab (mapL toFr cs) = _; rw [toFr_ab, ih]
  rw [this]
/-- the start of a law's run, up to a cut -/
noncomputable def startQ (n : Nat) (C : Ctx) (f : Nat) (args : List AVal) (at_ : AConf → Res) (out : AVal → Heap → Res) : Res := enterQ (bodyOf C f) f args fun fr => arunQ n C (fun _ => false) ⟨fr, [], σ00⟩ at_ out
theorem startQ_eq (n : Nat) (C : Ctx) (f : Nat) (args : List AVal) (at_ : AConf → Res) (out : AVal → Heap → Res) : startQ n C f args at_ out = startA n C f args at_ out :=
  enterQ_eq fun fr => arunQ_eq n C _ _ _ _
/-- a run that goes on from a cut -/
noncomputable def goOnQ (n : Nat) (C : Ctx) (c : AConf) (out : AVal → Heap → Res) : Res := arunQ n C (fun _ => false) (toF c) (fun _ => False) out
theorem goOnQ_eq (n : Nat) (C : Ctx) (c : AConf) (out : AVal → Heap → Res) : goOnQ n C c out = arun n C (fun _ => false) c (fun _ => False) out := by
  unfold goOnQ; rw [arunQ_eq, toF_ab]
noncomputable def isTrue : AVal → Heap → Res := fun v _ => v = .bool true
theorem law_Q {C : Ctx} {μ : Nat → Option (Array Value)} (hC : COk C (L0 μ)) (hm : C.P.follows .mixedOrders = true) {n f : Nat} {args : List AVal} {args' : Array Value} {w : World} (hro : RoOk μ w) (ha : LRel (L0 μ) args args'.toList) (h : Ran (callQQ n C f args σ00 isTrue)) :
    Calls C.P f args' w fun e w' => e = .returned (.bool true) ∧ Kept w w' :=
  law_of hC hm hro ha (n := n) ⟨by have := h.run; rw [callQQ_callA] at this; exact this⟩
theorem law_cutQ {C : Ctx} {μ : Nat → Option (Array Value)} (hC : COk C (L0 μ)) (hm : C.P.follows .mixedOrders = true) {n f : Nat} {args : List AVal} {args' : Array Value} {w : World} (hro : RoOk μ w) (ha : LRel (L0 μ) args args'.toList) {at_ : AConf → Res}
    (h : Ran (startQ n C f args at_ isTrue)) (h2 : ∀ c', at_ c' → ∃ n2, Ran (goOnQ n2 C c' isTrue)) :
    Calls C.P f args' w fun e w' => e = .returned (.bool true) ∧ Kept w w' :=
  law_cut hC hm hro ha (n := n) ⟨by have := h.run; rw [startQ_eq] at this; exact this⟩ fun c' hc => by
    obtain ⟨n2, h3⟩ := h2 c' hc
    exact ⟨n2, fun _ => false, ⟨by have := h3.run; rw [goOnQ_eq] at this; exact this⟩⟩
end Go.AE

/- Trees of runs that branch on what is not known. -/
namespace Go.AE
/-- a run that goes one of two ways -/
def br (b : Bool) (t f : Prop) : Prop := Bool.rec (motive := fun _ => Prop) f t b
theorem br_intro {b : Bool} {t f : Prop} (ht : b = true → t) (hf : b = false → f) : br b t f := by
  cases b with
  | true => exact ht rfl
  | false => exact hf rfl
theorem eqI_self (x : Int) : eqI x x = true := by rw [eqI_eq]; simp
theorem eqB_self (x : List UInt8) : eqB x x = true := by rw [eqB_eq]; simp
end Go.AE

