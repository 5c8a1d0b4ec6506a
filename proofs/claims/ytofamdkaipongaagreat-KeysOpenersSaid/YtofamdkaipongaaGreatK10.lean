import Derived.Test.YtofamdkaipongaaGreatK9
import Derived.KernelRfl
/- Texts Sane2 to Sane2. -/
set_option linter.all false
namespace Go.Eng
open Go Go.Proofs
def kg24 : D := (.agg [(.v (.int .i64 0)), (.v (.int .i64 6))])
def kg25 : D := (.tup [(.v (.int .i64 6)), (.v (.bool true))])
def ke9 : Ent := ⟨138, [], [(.v kv11), kg24, (.v (.clo (.func 139) [] []))], ⟨[], [], kg25⟩⟩
theorem keR9 : Ran Tryz.prog ke9 := key_ran (F := kFS) keO9 (by kernel_rfl)
def keT10 : List Ent := ke9 :: keT9
theorem keO10 : ∀ e ∈ keT10, Ran Tryz.prog e := ran_cons keR9 keO9
def ko26 : O := (.box [(.v (.int .i64 14))])
def ke10 : Ent := ⟨75, [ko13, ko19, ko26], [(.msl [0, 1] 8), (.clo (.func 143) [] [(.ref [1, 1] 0), (.ref [2, 1] 0)])], ⟨[(0, ko20)], [], (.v kv21)⟩⟩
theorem keR10 : Ran Tryz.prog ke10 := key_ran (F := kFS) keO10 (by kernel_rfl)
def keT11 : List Ent := ke10 :: keT10
theorem keO11 : ∀ e ∈ keT11, Ran Tryz.prog e := ran_cons keR10 keO10
def kg27 : D := (.agg [(.v (.int .i64 30)), (.v (.int .i64 40))])
def kg28 : D := (.tup [kg27, (.v (.int .i64 0))])
def ke11 : Ent := ⟨30, [], [(.v kv8), kg24, (.v (.int .i64 9))], ⟨[], [], kg28⟩⟩
theorem keR11 : Ran Tryz.prog ke11 := key_ran (F := kFS) keO11 (by kernel_rfl)
def keT12 : List Ent := ke11 :: keT11
theorem keO12 : ∀ e ∈ keT12, Ran Tryz.prog e := ran_cons keR11 keO11
def kv29 : V := (.sl [(.int .i64 11), (.int .i64 12), (.int .i64 13)])
def kg30 : D := (.agg [(.v kv11), (.v (.int .i64 36))])
def kg31 : D := (.tup [kg30, (.v (.int .i64 0))])
def ke12 : Ent := ⟨82, [], [(.v kv8), (.v kv29), (.v (.int .i64 36)), (.v (.int .i64 9))], ⟨[], [], kg31⟩⟩
theorem keR12 : Ran Tryz.prog ke12 := key_ran (F := kFS) keO12 (by kernel_rfl)
def keT13 : List Ent := ke12 :: keT12
theorem keO13 : ∀ e ∈ keT13, Ran Tryz.prog e := ran_cons keR12 keO12
def ko32 : O := (.box [(.v (.int .i64 2))])
def ko33 : O := (.farr 9 [kd4, (v9 0 0 0 0 0 0 0 0 0), (v9 0 0 0 0 0 0 0 0 0), (v9 0 0 0 0 0 0 0 0 0), (v9 0 0 0 0 0 0 0 0 0), (v9 0 0 0 0 0 0 0 0 0), (v9 0 0 0 0 0 0 0 0 0), (v9 0 0 0 0 0 0 0 0 0)])
def ke13 : Ent := ⟨75, [ko13, ko32, ko15], [(.msl [0, 1] 8), (.clo (.func 143) [] [(.ref [1, 1] 0), (.ref [2, 1] 0)])], ⟨[(0, ko33)], [], (.v (.sl [kd4]))⟩⟩
theorem keR13 : Ran Tryz.prog ke13 := key_ran (F := kFS) keO13 (by kernel_rfl)
def keT14 : List Ent := ke13 :: keT13
theorem keO14 : ∀ e ∈ keT14, Ran Tryz.prog e := ran_cons keR13 keO13
def ko34 : O := (.box [(.v (.int .i64 11))])
def ko35 : O := (.farr 9 [kd0, (v9 0 0 0 0 0 0 0 0 0), (v9 0 0 0 0 0 0 0 0 0), (v9 0 0 0 0 0 0 0 0 0), (v9 0 0 0 0 0 0 0 0 0), (v9 0 0 0 0 0 0 0 0 0), (v9 0 0 0 0 0 0 0 0 0), (v9 0 0 0 0 0 0 0 0 0)])
def ke14 : Ent := ⟨75, [ko13, ko15, ko34], [(.msl [0, 1] 8), (.clo (.func 143) [] [(.ref [1, 1] 0), (.ref [2, 1] 0)])], ⟨[(0, ko35)], [], (.v (.sl [kd0]))⟩⟩
theorem keR14 : Ran Tryz.prog ke14 := key_ran (F := kFS) keO14 (by kernel_rfl)
def keT15 : List Ent := ke14 :: keT14
theorem keO15 : ∀ e ∈ keT15, Ran Tryz.prog e := ran_cons keR14 keO14
def kg36 : D := (.tup [(.v (.int .i64 1)), (.v (.bool true))])
def ke15 : Ent := ⟨159, [], [kg30, (.v (.int .i64 11)), (.v (.bool true))], ⟨[], [], kg36⟩⟩
theorem keR15 : Ran Tryz.prog ke15 := key_ran (F := kFS) keO15 (by kernel_rfl)
def keT16 : List Ent := ke15 :: keT15
theorem keO16 : ∀ e ∈ keT16, Ran Tryz.prog e := ran_cons keR15 keO15
def ko37 : O := (.box [(.v (.int .i64 12))])
def ko38 : O := (.farr 9 [kd1, (v9 0 0 0 0 0 0 0 0 0), (v9 0 0 0 0 0 0 0 0 0), (v9 0 0 0 0 0 0 0 0 0), (v9 0 0 0 0 0 0 0 0 0), (v9 0 0 0 0 0 0 0 0 0), (v9 0 0 0 0 0 0 0 0 0), (v9 0 0 0 0 0 0 0 0 0)])
def ke16 : Ent := ⟨75, [ko13, ko15, ko37], [(.msl [0, 1] 8), (.clo (.func 143) [] [(.ref [1, 1] 0), (.ref [2, 1] 0)])], ⟨[(0, ko38)], [], (.v (.sl [kd1]))⟩⟩
theorem keR16 : Ran Tryz.prog ke16 := key_ran (F := kFS) keO16 (by kernel_rfl)
def keT17 : List Ent := ke16 :: keT16
theorem keO17 : ∀ e ∈ keT17, Ran Tryz.prog e := ran_cons keR16 keO16
def ke17 : Ent := ⟨159, [], [kg30, (.v (.int .i64 12)), (.v (.bool true))], ⟨[], [], kg36⟩⟩
theorem keR17 : Ran Tryz.prog ke17 := key_ran (F := kFS) keO17 (by kernel_rfl)
def keT18 : List Ent := ke17 :: keT17
theorem keO18 : ∀ e ∈ keT18, Ran Tryz.prog e := ran_cons keR17 keO17
def ko39 : O := (.box [(.v (.int .i64 13))])
def ko40 : O := (.farr 9 [kd2, (v9 0 0 0 0 0 0 0 0 0), (v9 0 0 0 0 0 0 0 0 0), (v9 0 0 0 0 0 0 0 0 0), (v9 0 0 0 0 0 0 0 0 0), (v9 0 0 0 0 0 0 0 0 0), (v9 0 0 0 0 0 0 0 0 0), (v9 0 0 0 0 0 0 0 0 0)])
def ke18 : Ent := ⟨75, [ko13, ko15, ko39], [(.msl [0, 1] 8), (.clo (.func 143) [] [(.ref [1, 1] 0), (.ref [2, 1] 0)])], ⟨[(0, ko40)], [], (.v (.sl [kd2]))⟩⟩
theorem keR18 : Ran Tryz.prog ke18 := key_ran (F := kFS) keO18 (by kernel_rfl)
def keT19 : List Ent := ke18 :: keT18
theorem keO19 : ∀ e ∈ keT19, Ran Tryz.prog e := ran_cons keR18 keO18
def ke19 : Ent := ⟨159, [], [kg30, (.v (.int .i64 13)), (.v (.bool true))], ⟨[], [], kg36⟩⟩
theorem keR19 : Ran Tryz.prog ke19 := key_ran (F := kFS) keO19 (by kernel_rfl)
def keT20 : List Ent := ke19 :: keT19
theorem keO20 : ∀ e ∈ keT20, Ran Tryz.prog e := ran_cons keR19 keO19
def kg41 : D := (.agg [(.v (.int .i64 1)), (.v (.int .i64 1)), (.v (.int .i64 1)), (.v (.int .i64 1)), (.v (.int .i64 1)), (.v (.int .i64 1)), (.v (.int .i64 11)), (.v (.int .i64 11)), (.v (.bool false)), (.v (.int .i64 12)), (.v (.int .i64 12)), (.v (.bool false)), (.v (.int .i64 13)), (.v (.int .i64 13)), (.v (.bool false))])
def kg42 : D := (.tup [kg41, (.v (.bool true))])
def ke20 : Ent := ⟨127, [], [kg30, (.v kv29)], ⟨[], [], kg42⟩⟩
theorem keR20 : Ran Tryz.prog ke20 := key_ran (F := kFS) keO20 (by kernel_rfl)
def keT21 : List Ent := ke20 :: keT20
theorem keO21 : ∀ e ∈ keT21, Ran Tryz.prog e := ran_cons keR20 keO20
def kg43 : D := (.tup [(.v (.int .i64 0)), (.v (.bool false))])
def ke21 : Ent := ⟨159, [], [kg30, (.v (.int .i64 11)), (.v (.bool false))], ⟨[], [], kg43⟩⟩
theorem keR21 : Ran Tryz.prog ke21 := key_ran (F := kFS) keO21 (by kernel_rfl)
def keT22 : List Ent := ke21 :: keT21
theorem keO22 : ∀ e ∈ keT22, Ran Tryz.prog e := ran_cons keR21 keO21
def ke22 : Ent := ⟨159, [], [kg30, (.v (.int .i64 12)), (.v (.bool false))], ⟨[], [], kg43⟩⟩
theorem keR22 : Ran Tryz.prog ke22 := key_ran (F := kFS) keO22 (by kernel_rfl)
def keT23 : List Ent := ke22 :: keT22
theorem keO23 : ∀ e ∈ keT23, Ran Tryz.prog e := ran_cons keR22 keO22
def ke23 : Ent := ⟨159, [], [kg30, (.v (.int .i64 13)), (.v (.bool false))], ⟨[], [], kg43⟩⟩
theorem keR23 : Ran Tryz.prog ke23 := key_ran (F := kFS) keO23 (by kernel_rfl)
def keT24 : List Ent := ke23 :: keT23
theorem keO24 : ∀ e ∈ keT24, Ran Tryz.prog e := ran_cons keR23 keO23
def kg44 : D := (.agg [(.v (.int .i64 2)), (.v (.int .i64 1)), (.v (.int .i64 1)), (.v (.int .i64 0)), (.v (.int .i64 0)), (.v (.int .i64 0)), (.v (.int .i64 11)), (.v (.int .i64 14)), (.v (.bool false)), (.v (.int .i64 12)), (.v (.int .i64 12)), (.v (.bool false)), (.v (.int .i64 13)), (.v (.int .i64 13)), (.v (.bool false))])
def kg45 : D := (.tup [kg44, (.v (.int .i64 0)), (.v (.bool true))])
def ke24 : Ent := ⟨128, [], [kg30, (.v kv29)], ⟨[], [], kg45⟩⟩
theorem keR24 : Ran Tryz.prog ke24 := key_ran (F := kFS) keO24 (by kernel_rfl)
def keT25 : List Ent := ke24 :: keT24
theorem keO25 : ∀ e ∈ keT25, Ran Tryz.prog e := ran_cons keR24 keO24
end Go.Eng
