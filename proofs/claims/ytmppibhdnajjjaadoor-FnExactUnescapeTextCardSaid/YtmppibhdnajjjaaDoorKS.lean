/- Contracts of Go's library, laid at this program by the kit's shelf. No condition beyond what each states. -/
import Derived.Shelf.Small.Strs
import Derived.Shelf.Small.Wraps
import Derived.Shelf.Strconv.Itoa0
import Derived.Shelf.Strconv.Itoa1
import Derived.Shelf.LaysM
import Derived.Shelf.Strconv.Itoa2
import Derived.Shelf.Strconv.Itoa3
import Derived.Ground.MpProg
import Derived.Shelf.Pu.ParseUintPublic10
import Derived.Shelf.Pu.ErrVarParseUint
import Derived.Shelf.Strings.Search1
import Derived.Shelf.Strings.Search2
import Derived.Shelf.Strings.Cut
import Derived.Shelf.Strings.Shaped
import Derived.Shelf.Strings.Prefix
import Derived.Test.YtmppibhdnajjjaaDoorProg
namespace Go.Proofs.YtmppibhdnajjjaaDoor
open Go.Shelf
def Tryd.lays103_ren : Go.Shelf.Ren := ⟨fun | 103 => 96 | 210 => 114 | 206 => 127 | n => n, fun | 9 => 9 | 4 => 4 | 24 => 61 | 3 => 3 | n => n, fun | n => n⟩
theorem Tryd.lays103 : Go.Proofs.Lays.n103 Tryd.prog Tryd.lays103_ren := {
  mixed := by kernel_rfl
  f103 := Tryd.func96.trans (congrArg some (by kernel_rfl))
  f206 := Tryd.func127.trans (congrArg some (by kernel_rfl))
  f210 := Tryd.func114.trans (congrArg some (by kernel_rfl))
  t3 := Tryd.underlying3
  a3 := Tryd.isAgg3
  z3 := Tryd.sizeOf3
  v3 := Tryd.zeroValue3
  t4 := Tryd.underlying4
  a4 := Tryd.isAgg4
  z4 := Tryd.sizeOf4
  v4 := Tryd.zeroValue4
  t9 := Tryd.underlying9
  a9 := Tryd.isAgg9
  z9 := Tryd.sizeOf9
  v9 := Tryd.zeroValue9
  t24 := Tryd.underlying61
  a24 := Tryd.isAgg61
  z24 := Tryd.sizeOf61
  v24 := Tryd.zeroValue61 }
open Go.RowKit in
/-- strings.CutPrefix: "CutPrefix returns s without the provided leading prefix string and reports whether it found the prefix. If s doesn't start with prefix, CutPrefix returns s, false. If prefix is the empty string, CutPrefix returns s, true.": IT RETURNS '(Lib.trimPrefix s p, Lib.hasPrefix s p)'; the world is as it was. (LAID: no walk: one application.) -/
theorem Tryd.strings_CutPrefix (s p : ByteArray) (w : World) :
    Calls Tryd.prog 96 #[.string s, .string p] w fun e w' => e = .returned (.tuple #[.string ⟨(Lib.trimPrefix s.data.toList p.data.toList).toArray⟩, .bool (Lib.hasPrefix s.data.toList p.data.toList)]) ∧ w' = w := Any.strings_CutPrefix Tryd.lays103 s p w
def Tryd.laysM145_ren : Go.Shelf.Ren := ⟨fun | 145 => 68 | 220 => 95 | 219 => 113 | 217 => 107 | 225 => 124 | 224 => 125 | 267 => 126 | 266 => 118 | 314 => 140 | n => n, fun | 9 => 9 | 4 => 4 | 59 => 115 | 3 => 3 | 5 => 5 | 46 => 180 | 146 => 193 | 51 => 189 | n => n, fun | 1 => 1 | n => n⟩
theorem Tryd.laysM145 : Go.Proofs.LaysM.n145 Tryd.prog Tryd.laysM145_ren := {
  mixed := by kernel_rfl
  f145 := Tryd.func68.trans (congrArg some (by kernel_rfl))
  f217 := Tryd.func107.trans (congrArg some (by kernel_rfl))
  f219 := Tryd.func113.trans (congrArg some (by kernel_rfl))
  f220 := Tryd.func95.trans (congrArg some (by kernel_rfl))
  f224 := Tryd.func125.trans (congrArg some (by kernel_rfl))
  f225 := Tryd.func124.trans (congrArg some (by kernel_rfl))
  f266 := Tryd.func118.trans (congrArg some (by kernel_rfl))
  f267 := Tryd.func126.trans (congrArg some (by kernel_rfl))
  f314 := Tryd.func140.trans (congrArg some (by kernel_rfl))
  t3 := Tryd.underlying3
  a3 := Tryd.isAgg3
  z3 := Tryd.sizeOf3
  v3 := Tryd.zeroValue3
  t4 := Tryd.underlying4
  a4 := Tryd.isAgg4
  z4 := Tryd.sizeOf4
  v4 := Tryd.zeroValue4
  t5 := Tryd.underlying5
  a5 := Tryd.isAgg5
  z5 := Tryd.sizeOf5
  v5 := Tryd.zeroValue5
  t9 := Tryd.underlying9
  a9 := Tryd.isAgg9
  z9 := Tryd.sizeOf9
  v9 := Tryd.zeroValue9
  t46 := Tryd.underlying180
  a46 := Tryd.isAgg180
  z46 := Tryd.sizeOf180
  v46 := Tryd.zeroValue180
  t51 := Tryd.underlying189
  a51 := Tryd.isAgg189
  z51 := Tryd.sizeOf189
  v51 := Tryd.zeroValue189
  t59 := Tryd.underlying115
  a59 := Tryd.isAgg115
  z59 := Tryd.sizeOf115
  v59 := Tryd.zeroValue115
  t146 := Tryd.underlying193
  a146 := Tryd.isAgg193
  z146 := Tryd.sizeOf193
  v146 := Tryd.zeroValue193
  g1 := by kernel_rfl
  i3 := by kernel_rfl
  i4 := by kernel_rfl
  i5 := by kernel_rfl
  i9 := by kernel_rfl
  i46 := by kernel_rfl
  i51 := by kernel_rfl
  i59 := by kernel_rfl
  i146 := by kernel_rfl
  m1 := by kernel_rfl
  s1_3 := fun w h => Go.Proofs.cell_of_shapedOpen_int (zero := #[.int .i64 0]) (t := 3) h (of_decide_eq_true (by kernel_rfl)) (by kernel_rfl) rfl (by kernel_rfl) (by kernel_rfl) Tryd.underlying3 }
def Tryd.laysPu14_ren : Go.Shelf.Ren := ⟨fun | 14 => 97 | 16 => 115 | 17 => 116 | 19 => 128 | 20 => 129 | 21 => 130 | 22 => 131 | 23 => 132 | 24 => 133 | 25 => 141 | 27 => 143 | 26 => 142 | 28 => 146 | 29 => 112 | 30 => 120 | 31 => 121 | 32 => 122 | 33 => 123 | 35 => 136 | 34 => 135 | 36 => 137 | 37 => 138 | 38 => 139 | 39 => 144 | 40 => 145 | n => n, fun | 9 => 9 | 3 => 3 | 22 => 154 | 24 => 105 | 25 => 155 | 4 => 4 | 34 => 182 | 5 => 5 | 36 => 180 | 37 => 39 | 0 => 0 | 39 => 184 | 21 => 21 | 44 => 197 | 47 => 150 | 50 => 202 | 48 => 200 | 2 => 2 | 52 => 174 | 55 => 177 | 59 => 188 | 60 => 189 | 20 => 20 | 61 => 190 | 65 => 203 | 66 => 204 | 67 => 110 | n => n, fun | 0 => 3 | 1 => 4 | 2 => 2 | 3 => 5 | 4 => 6 | n => n⟩
theorem Tryd.laysPu14 : Go.Proofs.LaysPu.n14 Tryd.prog Tryd.laysPu14_ren := {
  mixed := by kernel_rfl
  f14 := Tryd.func97.trans (congrArg some (by kernel_rfl))
  f16 := Tryd.func115.trans (congrArg some (by kernel_rfl))
  f17 := Tryd.func116.trans (congrArg some (by kernel_rfl))
  f19 := Tryd.func128.trans (congrArg some (by kernel_rfl))
  f20 := Tryd.func129.trans (congrArg some (by kernel_rfl))
  f21 := Tryd.func130.trans (congrArg some (by kernel_rfl))
  f22 := Tryd.func131.trans (congrArg some (by kernel_rfl))
  f23 := Tryd.func132.trans (congrArg some (by kernel_rfl))
  f24 := Tryd.func133.trans (congrArg some (by kernel_rfl))
  f25 := Tryd.func141.trans (congrArg some (by kernel_rfl))
  f26 := Tryd.func142.trans (congrArg some (by kernel_rfl))
  f27 := Tryd.func143.trans (congrArg some (by kernel_rfl))
  f28 := Tryd.func146.trans (congrArg some (by kernel_rfl))
  f29 := Tryd.func112.trans (congrArg some (by kernel_rfl))
  f30 := Tryd.func120.trans (congrArg some (by kernel_rfl))
  f31 := Tryd.func121.trans (congrArg some (by kernel_rfl))
  f32 := Tryd.func122.trans (congrArg some (by kernel_rfl))
  f33 := Tryd.func123.trans (congrArg some (by kernel_rfl))
  f34 := Tryd.func135.trans (congrArg some (by kernel_rfl))
  f35 := Tryd.func136.trans (congrArg some (by kernel_rfl))
  f36 := Tryd.func137.trans (congrArg some (by kernel_rfl))
  f37 := Tryd.func138.trans (congrArg some (by kernel_rfl))
  f38 := Tryd.func139.trans (congrArg some (by kernel_rfl))
  f39 := Tryd.func144.trans (congrArg some (by kernel_rfl))
  f40 := Tryd.func145.trans (congrArg some (by kernel_rfl))
  t0 := Tryd.underlying0
  a0 := Tryd.isAgg0
  z0 := Tryd.sizeOf0
  v0 := Tryd.zeroValue0
  i0 := by kernel_rfl
  t2 := Tryd.underlying2
  a2 := Tryd.isAgg2
  z2 := Tryd.sizeOf2
  v2 := Tryd.zeroValue2
  i2 := by kernel_rfl
  t3 := Tryd.underlying3
  a3 := Tryd.isAgg3
  z3 := Tryd.sizeOf3
  v3 := Tryd.zeroValue3
  i3 := by kernel_rfl
  t4 := Tryd.underlying4
  a4 := Tryd.isAgg4
  z4 := Tryd.sizeOf4
  v4 := Tryd.zeroValue4
  i4 := by kernel_rfl
  t5 := Tryd.underlying5
  a5 := Tryd.isAgg5
  z5 := Tryd.sizeOf5
  v5 := Tryd.zeroValue5
  i5 := by kernel_rfl
  t9 := Tryd.underlying9
  a9 := Tryd.isAgg9
  z9 := Tryd.sizeOf9
  v9 := Tryd.zeroValue9
  i9 := by kernel_rfl
  t20 := Tryd.underlying20
  a20 := Tryd.isAgg20
  z20 := Tryd.sizeOf20
  v20 := Tryd.zeroValue20
  i20 := by kernel_rfl
  t21 := Tryd.underlying21
  a21 := Tryd.isAgg21
  z21 := Tryd.sizeOf21
  v21 := Tryd.zeroValue21
  i21 := by kernel_rfl
  t22 := Tryd.underlying154
  a22 := Tryd.isAgg154
  z22 := Tryd.sizeOf154
  v22 := Tryd.zeroValue154
  i22 := by kernel_rfl
  t24 := Tryd.underlying105
  a24 := Tryd.isAgg105
  z24 := Tryd.sizeOf105
  v24 := Tryd.zeroValue105
  i24 := by kernel_rfl
  t25 := Tryd.underlying155
  a25 := Tryd.isAgg155
  z25 := Tryd.sizeOf155
  v25 := Tryd.zeroValue155
  i25 := by kernel_rfl
  t34 := Tryd.underlying182
  a34 := Tryd.isAgg182
  z34 := Tryd.sizeOf182
  v34 := Tryd.zeroValue182
  i34 := by kernel_rfl
  c34 := by kernel_rfl
  t36 := Tryd.underlying180
  a36 := Tryd.isAgg180
  z36 := Tryd.sizeOf180
  v36 := Tryd.zeroValue180
  i36 := by kernel_rfl
  t37 := Tryd.underlying39
  a37 := Tryd.isAgg39
  z37 := Tryd.sizeOf39
  v37 := Tryd.zeroValue39
  i37 := by kernel_rfl
  t39 := Tryd.underlying184
  a39 := Tryd.isAgg184
  z39 := Tryd.sizeOf184
  v39 := Tryd.zeroValue184
  i39 := by kernel_rfl
  t44 := Tryd.underlying197
  a44 := Tryd.isAgg197
  z44 := Tryd.sizeOf197
  v44 := Tryd.zeroValue197
  i44 := by kernel_rfl
  t47 := Tryd.underlying150
  a47 := Tryd.isAgg150
  z47 := Tryd.sizeOf150
  v47 := Tryd.zeroValue150
  i47 := by kernel_rfl
  t48 := Tryd.underlying200
  a48 := Tryd.isAgg200
  z48 := Tryd.sizeOf200
  v48 := Tryd.zeroValue200
  i48 := by kernel_rfl
  t50 := Tryd.underlying202
  a50 := Tryd.isAgg202
  z50 := Tryd.sizeOf202
  v50 := Tryd.zeroValue202
  i50 := by kernel_rfl
  t52 := Tryd.underlying174
  a52 := Tryd.isAgg174
  z52 := Tryd.sizeOf174
  v52 := Tryd.zeroValue174
  i52 := by kernel_rfl
  t55 := Tryd.underlying177
  a55 := Tryd.isAgg177
  z55 := Tryd.sizeOf177
  v55 := Tryd.zeroValue177
  i55 := by kernel_rfl
  t59 := Tryd.underlying188
  a59 := Tryd.isAgg188
  z59 := Tryd.sizeOf188
  v59 := Tryd.zeroValue188
  i59 := by kernel_rfl
  t60 := Tryd.underlying189
  a60 := Tryd.isAgg189
  z60 := Tryd.sizeOf189
  v60 := Tryd.zeroValue189
  i60 := by kernel_rfl
  t61 := Tryd.underlying190
  a61 := Tryd.isAgg190
  z61 := Tryd.sizeOf190
  t65 := Tryd.underlying203
  a65 := Tryd.isAgg203
  z65 := Tryd.sizeOf203
  v65 := Tryd.zeroValue203
  i65 := by kernel_rfl
  t66 := Tryd.underlying204
  a66 := Tryd.isAgg204
  z66 := Tryd.sizeOf204
  v66 := Tryd.zeroValue204
  i66 := by kernel_rfl
  t67 := Tryd.underlying110
  a67 := Tryd.isAgg110
  z67 := Tryd.sizeOf110
  v67 := Tryd.zeroValue110
  i67 := by kernel_rfl
  g0 := by kernel_rfl
  m0 := by kernel_rfl
  g1 := by kernel_rfl
  m1 := by kernel_rfl
  g2 := by kernel_rfl
  m2 := by kernel_rfl
  g3 := by kernel_rfl
  m3 := by kernel_rfl
  g4 := by kernel_rfl
  m4 := by kernel_rfl }
end Go.Proofs.YtmppibhdnajjjaaDoor
