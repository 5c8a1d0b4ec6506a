import Derived.Test.YtofamdkaipongaaGreatK8
import Derived.KernelRfl
/- Texts Sane1 to Sane1. -/
set_option linter.all false
namespace Go.Eng
open Go Go.Proofs
def kFS : List Nat := [39, 140, 80, 75, 90, 91, 138, 30, 82, 159, 127, 128, 28, 122, 110, 65, 105, 48, 135, 71, 22, 130, 67, 40, 17]
def kd0 : V := (v9 0 0 1 0 11 10 10 0 0)
def kd1 : V := (v9 0 1 1 0 12 10 10 0 0)
def kd2 : V := (v9 0 2 1 0 13 10 10 0 0)
def kd3 : V := (v9 0 3 3 1 11 12 12 0 0)
def kd4 : V := (v9 0 4 3 2 12 12 12 0 0)
def kd5 : V := (v9 0 5 3 3 13 12 20 0 0)
def kd6 : V := (v9 0 6 4 1 14 30 40 0 0)
def kd7 : V := (v9 0 8 2 0 12 60 70 75 0)
def kv8 : V := (.sl [kd0, kd1, kd2, kd3, kd4, kd5, kd6, (v9 0 7 5 1 0 35 50 0 0), kd7])
def ke0 : Ent := ⟨39, [], [(.v kv8)], ⟨[], [], (.v (.int .i64 0))⟩⟩
theorem keR0 : Ran Tryz.prog ke0 := key_ran (F := kFS) keO0 (by kernel_rfl)
def keT1 : List Ent := ke0 :: keT0
theorem keO1 : ∀ e ∈ keT1, Ran Tryz.prog e := ran_cons keR0 keO0
def ko9 : O := (.arr 9 [kd0, kd1, kd2, kd3, kd4, kd5, kd6, (v9 0 7 5 1 0 35 50 0 0), kd7])
def ko10 : O := (.box [(.v (.int .i64 9))])
def ke1 : Ent := ⟨140, [ko9, ko10], [(.msl [0, 1] 9), (.clo (.func 141) [] [(.ref [1, 1] 0)])], ⟨[], [], (.v (.int .i64 8))⟩⟩
theorem keR1 : Ran Tryz.prog ke1 := key_ran (F := kFS) keO1 (by kernel_rfl)
def keT2 : List Ent := ke1 :: keT1
theorem keO2 : ∀ e ∈ keT2, Ran Tryz.prog e := ran_cons keR1 keO1
def kv11 : V := (.sl [kd0, kd1, kd2, kd3, kd4, kd5, kd6, (v9 0 7 5 1 0 35 50 0 0)])
def kg12 : D := (.tup [.nilsl, (.v (.bool false))])
def ke2 : Ent := ⟨80, [], [(.v kv11)], ⟨[], [], kg12⟩⟩
theorem keR2 : Ran Tryz.prog ke2 := key_ran (F := kFS) keO2 (by kernel_rfl)
def keT3 : List Ent := ke2 :: keT2
theorem keO3 : ∀ e ∈ keT3, Ran Tryz.prog e := ran_cons keR2 keO2
def ko13 : O := (.arr 9 [kd0, kd1, kd2, kd3, kd4, kd5, kd6, (v9 0 7 5 1 0 35 50 0 0)])
def ko14 : O := (.box [(.v (.int .i64 3))])
def ko15 : O := (.box [(.v (.int .i64 0))])
def ko16 : O := (.farr 9 [kd5, (v9 0 0 0 0 0 0 0 0 0), (v9 0 0 0 0 0 0 0 0 0), (v9 0 0 0 0 0 0 0 0 0), (v9 0 0 0 0 0 0 0 0 0), (v9 0 0 0 0 0 0 0 0 0), (v9 0 0 0 0 0 0 0 0 0), (v9 0 0 0 0 0 0 0 0 0)])
def ke3 : Ent := ⟨75, [ko13, ko14, ko15], [(.msl [0, 1] 8), (.clo (.func 143) [] [(.ref [1, 1] 0), (.ref [2, 1] 0)])], ⟨[(0, ko16)], [], (.v (.sl [kd5]))⟩⟩
theorem keR3 : Ran Tryz.prog ke3 := key_ran (F := kFS) keO3 (by kernel_rfl)
def keT4 : List Ent := ke3 :: keT3
theorem keO4 : ∀ e ∈ keT4, Ran Tryz.prog e := ran_cons keR3 keO3
def kg17 : D := (.tup [(.v (.sl [kd5])), (.v (.int .i64 0))])
def ke4 : Ent := ⟨90, [], [(.v kv8), (.v (.int .i64 3)), (.v (.int .i64 15)), (.v (.int .i64 9)), .nilsl], ⟨[], [], kg17⟩⟩
theorem keR4 : Ran Tryz.prog ke4 := key_ran (F := kFS) keO4 (by kernel_rfl)
def keT5 : List Ent := ke4 :: keT4
theorem keO5 : ∀ e ∈ keT5, Ran Tryz.prog e := ran_cons keR4 keO4
def ko18 : O := (.arr 1 [(.int .i64 0), (.int .i64 13)])
def ke5 : Ent := ⟨91, [], [(.v (.sl [kd5])), (.v (.int .i64 15)), (.v (.clo (.func 92) [] []))], ⟨[], [([91, 0, 40, 0, 96, 0, 64, 0], ko18)], (.msl [91, 0, 40, 0, 96, 0, 64, 0] 2)⟩⟩
theorem keR5 : Ran Tryz.prog ke5 := key_ran (F := kFS) keO5 (by kernel_rfl)
def keT6 : List Ent := ke5 :: keT5
theorem keO6 : ∀ e ∈ keT6, Ran Tryz.prog e := ran_cons keR5 keO5
def ko19 : O := (.box [(.v (.int .i64 1))])
def ko20 : O := (.farr 9 [kd3, kd6, (v9 0 7 5 1 0 35 50 0 0), (v9 0 0 0 0 0 0 0 0 0), (v9 0 0 0 0 0 0 0 0 0), (v9 0 0 0 0 0 0 0 0 0), (v9 0 0 0 0 0 0 0 0 0), (v9 0 0 0 0 0 0 0 0 0)])
def kv21 : V := (.sl [kd3, kd6, (v9 0 7 5 1 0 35 50 0 0)])
def ke6 : Ent := ⟨75, [ko13, ko19, ko15], [(.msl [0, 1] 8), (.clo (.func 143) [] [(.ref [1, 1] 0), (.ref [2, 1] 0)])], ⟨[(0, ko20)], [], (.v kv21)⟩⟩
theorem keR6 : Ran Tryz.prog ke6 := key_ran (F := kFS) keO6 (by kernel_rfl)
def keT7 : List Ent := ke6 :: keT6
theorem keO7 : ∀ e ∈ keT7, Ran Tryz.prog e := ran_cons keR6 keO6
def kg22 : D := (.tup [(.v kv21), (.v (.int .i64 0))])
def ke7 : Ent := ⟨90, [], [(.v kv8), (.v (.int .i64 1)), (.v (.int .i64 38)), (.v (.int .i64 9)), .nilsl], ⟨[], [], kg22⟩⟩
theorem keR7 : Ran Tryz.prog ke7 := key_ran (F := kFS) keO7 (by kernel_rfl)
def keT8 : List Ent := ke7 :: keT7
theorem keO8 : ∀ e ∈ keT8, Ran Tryz.prog e := ran_cons keR7 keO7
def ko23 : O := (.arr 1 [(.int .i64 11), (.int .i64 14)])
def ke8 : Ent := ⟨91, [], [(.v kv21), (.v (.int .i64 38)), (.v (.clo (.func 93) [] []))], ⟨[], [([91, 0, 40, 0, 196, 0, 64, 0], ko23)], (.msl [91, 0, 40, 0, 196, 0, 64, 0] 2)⟩⟩
theorem keR8 : Ran Tryz.prog ke8 := key_ran (F := kFS) keO8 (by kernel_rfl)
def keT9 : List Ent := ke8 :: keT8
theorem keO9 : ∀ e ∈ keT9, Ran Tryz.prog e := ran_cons keR8 keO8
end Go.Eng
