/- The table of the functions, of the program itself. No condition. -/
import Derived.Test.YtfcfelnabfaelaaDoorKl5
import Derived.Test.YtfcfelnabfaelaaDoorProg
import Derived.Tactics
set_option linter.all false
namespace Go.Abs
set_option maxRecDepth 100000
theorem tmix : Go.Proofs.Tryd.prog.follows .mixedOrders = true := by kernel_rfl
abbrev Cp (n : Nat) (A : AFunc) : Prop := compileFn Go.Proofs.Tryd.prog n = some A
theorem Kr {n : Nat} {A : AFunc} (e : compileFn Go.Proofs.Tryd.prog n = some A := by kernel_rfl) : Cp n A := e
theorem k2 : Cp 2 fn2 := Kr
theorem k3 : Cp 3 fn3 := Kr
theorem k4 : Cp 4 fn4 := Kr
theorem k5 : Cp 5 fn5 := Kr
theorem k6 : Cp 6 fn6 := Kr
theorem k7 : Cp 7 fn7 := Kr
theorem k8 : Cp 8 fn8 := Kr
theorem k9 : Cp 9 fn9 := Kr
theorem k10 : Cp 10 fn10 := Kr
theorem k11 : Cp 11 fn11 := Kr
theorem k12 : Cp 12 fn12 := Kr
theorem k13 : Cp 13 fn13 := Kr
theorem k14 : Cp 14 fn14 := Kr
theorem k15 : Cp 15 fn15 := Kr
theorem k16 : Cp 16 fn16 := Kr
theorem k17 : Cp 17 fn17 := Kr
theorem k18 : Cp 18 fn18 := Kr
theorem k19 : Cp 19 fn19 := Kr
theorem k20 : Cp 20 fn20 := Kr
theorem k21 : Cp 21 fn21 := Kr
theorem k22 : Cp 22 fn22 := Kr
theorem k23 : Cp 23 fn23 := Kr
theorem k24 : Cp 24 fn24 := Kr
theorem k25 : Cp 25 fn25 := Kr
theorem k26 : Cp 26 fn26 := Kr
theorem k27 : Cp 27 fn27 := Kr
theorem k28 : Cp 28 fn28 := Kr
theorem k29 : Cp 29 fn29 := Kr
theorem k30 : Cp 30 fn30 := Kr
theorem k31 : Cp 31 fn31 := Kr
theorem k32 : Cp 32 fn32 := Kr
theorem k33 : Cp 33 fn33 := Kr
theorem k34 : Cp 34 fn34 := Kr
theorem k35 : Cp 35 fn35 := Kr
theorem k36 : Cp 36 fn36 := Kr
theorem k37 : Cp 37 fn37 := Kr
theorem k38 : Cp 38 fn38 := Kr
theorem k39 : Cp 39 fn39 := Kr
theorem k40 : Cp 40 fn40 := Kr
theorem k41 : Cp 41 fn41 := Kr
theorem k42 : Cp 42 fn42 := Kr
theorem k43 : Cp 43 fn43 := Kr
theorem k44 : Cp 44 fn44 := Kr
theorem k45 : Cp 45 fn45 := Kr
theorem k46 : Cp 46 fn46 := Kr
theorem k47 : Cp 47 fn47 := Kr
theorem k48 : Cp 48 fn48 := Kr
theorem k49 : Cp 49 fn49 := Kr
theorem k50 : Cp 50 fn50 := Kr
theorem k51 : Cp 51 fn51 := Kr
theorem k52 : Cp 52 fn52 := Kr
theorem k53 : Cp 53 fn53 := Kr
theorem k54 : Cp 54 fn54 := Kr
theorem k55 : Cp 55 fn55 := Kr
theorem k56 : Cp 56 fn56 := Kr
theorem k57 : Cp 57 fn57 := Kr
theorem k58 : Cp 58 fn58 := Kr
theorem k59 : Cp 59 fn59 := Kr
theorem k60 : Cp 60 fn60 := Kr
theorem k61 : Cp 61 fn61 := Kr
theorem k62 : Cp 62 fn62 := Kr
theorem k63 : Cp 63 fn63 := Kr
theorem k64 : Cp 64 fn64 := Kr
theorem k65 : Cp 65 fn65 := Kr
theorem k66 : Cp 66 fn66 := Kr
theorem k67 : Cp 67 fn67 := Kr
theorem k68 : Cp 68 fn68 := Kr
theorem k69 : Cp 69 fn69 := Kr
theorem k70 : Cp 70 fn70 := Kr
theorem k71 : Cp 71 fn71 := Kr
theorem k72 : Cp 72 fn72 := Kr
theorem k73 : Cp 73 fn73 := Kr
theorem k74 : Cp 74 fn74 := Kr
theorem k75 : Cp 75 fn75 := Kr
theorem k76 : Cp 76 fn76 := Kr
theorem k77 : Cp 77 fn77 := Kr
theorem k78 : Cp 78 fn78 := Kr
theorem k79 : Cp 79 fn79 := Kr
theorem k80 : Cp 80 fn80 := Kr
theorem k81 : Cp 81 fn81 := Kr
theorem tbl : Tbl Go.Proofs.Tryd.prog := ⟨tmix, k2, k3, k4, k5, k6, k7, k8, k9, k10, k11, k12, k13, k14, k15, k16, k17, k18, k19, k20, k21, k22, k23, k24, k25, k26, k27, k28, k29, k30, k31, k32, k33, k34, k35, k36, k37, k38, k39, k40, k41, k42, k43, k44, k45, k46, k47, k48, k49, k50, k51, k52, k53, k54, k55, k56, k57, k58, k59, k60, k61, k62, k63, k64, k65, k66, k67, k68, k69, k70, k71, k72, k73, k74, k75, k76, k77, k78, k79, k80, k81⟩
end Go.Abs
