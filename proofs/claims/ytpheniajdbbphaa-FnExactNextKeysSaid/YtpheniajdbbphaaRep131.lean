/- strings.Repeat in this program: the shelf's contract, laid here. -/
import Derived.Test.YtpheniajdbbphaaDIPure
import Derived.Test.YtpheniajdbbphaaProg
import Derived.Shelf.Strings.Repeat
namespace Go.Proofs
open Go.Shelf Go.RowKit
def Try.laysRepeat_ren : Go.Shelf.Ren := ⟨fun | 105 => 131 | 212 => 140 | 99 => 141 | 165 => 142 | 166 => 143 | 170 => 144 | 169 => 145 | 263 => 149 | 264 => 150 | 206 => 151 | 240 => 152 | 241 => 153 | 276 => 154 | 277 => 155 | n => n, fun | 9 => 9 | 3 => 3 | 4 => 4 | 20 => 20 | 0 => 0 | 46 => 136 | 109 => 153 | 5 => 5 | 72 => 157 | 76 => 160 | 51 => 111 | 146 => 167 | 53 => 169 | 148 => 170 | 70 => 155 | 37 => 61 | 75 => 159 | 127 => 172 | 164 => 173 | 80 => 135 | n => n, fun | n => n⟩
theorem Try.laysRepeat : Go.Proofs.Lays.n105 Try.prog Try.laysRepeat_ren := {
  mixed := by kernel_rfl
  f99 := Try.func141.trans (congrArg some (by kernel_rfl))
  f105 := Try.func131.trans (congrArg some (by kernel_rfl))
  f165 := Try.func142.trans (congrArg some (by kernel_rfl))
  f166 := Try.func143.trans (congrArg some (by kernel_rfl))
  f169 := Try.func145.trans (congrArg some (by kernel_rfl))
  f170 := Try.func144.trans (congrArg some (by kernel_rfl))
  f206 := Try.func151.trans (congrArg some (by kernel_rfl))
  f212 := Try.func140.trans (congrArg some (by kernel_rfl))
  f240 := Try.func152.trans (congrArg some (by kernel_rfl))
  f241 := Try.func153.trans (congrArg some (by kernel_rfl))
  f263 := Try.func149.trans (congrArg some (by kernel_rfl))
  f264 := Try.func150.trans (congrArg some (by kernel_rfl))
  f276 := Try.func154.trans (congrArg some (by kernel_rfl))
  f277 := Try.func155.trans (congrArg some (by kernel_rfl))
  t0 := Try.underlying0
  a0 := Try.isAgg0
  z0 := Try.sizeOf0
  v0 := Try.zeroValue0
  t3 := Try.underlying3
  a3 := Try.isAgg3
  z3 := Try.sizeOf3
  v3 := Try.zeroValue3
  t4 := Try.underlying4
  a4 := Try.isAgg4
  z4 := Try.sizeOf4
  v4 := Try.zeroValue4
  t5 := Try.underlying5
  a5 := Try.isAgg5
  z5 := Try.sizeOf5
  v5 := Try.zeroValue5
  t9 := Try.underlying9
  a9 := Try.isAgg9
  z9 := Try.sizeOf9
  v9 := Try.zeroValue9
  t20 := Try.underlying20
  a20 := Try.isAgg20
  z20 := Try.sizeOf20
  v20 := Try.zeroValue20
  t37 := Try.underlying61
  a37 := Try.isAgg61
  z37 := Try.sizeOf61
  v37 := Try.zeroValue61
  t46 := Try.underlying136
  a46 := Try.isAgg136
  z46 := Try.sizeOf136
  v46 := Try.zeroValue136
  t51 := Try.underlying111
  a51 := Try.isAgg111
  z51 := Try.sizeOf111
  v51 := Try.zeroValue111
  t53 := Try.underlying169
  a53 := Try.isAgg169
  z53 := Try.sizeOf169
  v53 := Try.zeroValue169
  t70 := Try.underlying155
  a70 := Try.isAgg155
  z70 := Try.sizeOf155
  v70 := Try.zeroValue155
  t72 := Try.underlying157
  a72 := Try.isAgg157
  z72 := Try.sizeOf157
  v72 := Try.zeroValue157
  t75 := Try.underlying159
  a75 := Try.isAgg159
  z75 := Try.sizeOf159
  v75 := Try.zeroValue159
  t76 := Try.underlying160
  a76 := Try.isAgg160
  z76 := Try.sizeOf160
  v76 := Try.zeroValue160
  t109 := Try.underlying153
  a109 := Try.isAgg153
  z109 := Try.sizeOf153
  v109 := Try.zeroValue153
  t127 := Try.underlying172
  a127 := Try.isAgg172
  z127 := Try.sizeOf172
  v127 := Try.zeroValue172
  t146 := Try.underlying167
  a146 := Try.isAgg167
  z146 := Try.sizeOf167
  v146 := Try.zeroValue167
  t148 := Try.underlying170
  a148 := Try.isAgg170
  z148 := Try.sizeOf170
  v148 := Try.zeroValue170
  t164 := Try.underlying173
  a164 := Try.isAgg173
  z164 := Try.sizeOf173
  v164 := Try.zeroValue173 }
theorem Try.repExtra : Builder.Extra Try.prog Try.laysRepeat_ren := {
  sizeBuilder := by kernel_rfl
  liesBuilder := by kernel_rfl
  t5 := Try.laysRepeat.t5
  a5 := Try.laysRepeat.a5
  z5 := Try.laysRepeat.z5
  v5 := Try.laysRepeat.v5
  infoByte := by kernel_rfl
  cellsByte := by kernel_rfl
  sizeByte := by kernel_rfl
  neB5 := by decide }
namespace Ytpheniajdbbphaa.DI
theorem rep131 : CtrOk Try.prog 131 repCtr := CtrOk.rep ⟨_, (by kernel_rfl : Try.prog.funcs[131]? = some Try.f131), by kernel_rfl, by kernel_rfl⟩ fun s c w hc hl => Any.strings_Repeat Try.laysRepeat Try.repExtra s c w hc hl
end Ytpheniajdbbphaa.DI
end Go.Proofs
