/- Facts on the types and functions of the translation that the walks use. -/
import Derived.Test.YtobbhelaajcpcaaFw8
import Derived.Test.YtobbhelaajcpcaaProg
import Derived.KernelRfl
namespace Go.Proofs.Ytobbhelaajcpcaa
open Go Fw
set_option maxRecDepth 100000
theorem ty_mk {P : Program} {t : TypeId} {d : TypeDesc} {sz bytes : Nat} {z : Value} (h : P.underlying t = some d) (hi : (P.info? t).map (fun i => (i.size, i.bytes, i.zero)) = some (sz, bytes, some z)) : Ty P t d sz bytes z := by
  refine ⟨h, ?_⟩
  cases e : P.info? t with
  | none => rw [e] at hi; cases hi
  | some i => rw [e] at hi; simp only [Option.map_some, Option.some.injEq, Prod.mk.injEq] at hi; exact ⟨i, rfl, hi.1, hi.2.1, hi.2.2⟩
theorem hmix : Try.prog.follows .mixedOrders = true := by kernel_rfl
theorem ty1 : Ty Try.prog 1 (.func #[] #[] false) 1 8 (Value.nilFunc) := ty_mk Try.underlying1 (by kernel_rfl)
theorem ty2 : Ty Try.prog 2 (.int .i64) 1 8 (Value.int .i64 0) := ty_mk Try.underlying2 (by kernel_rfl)
theorem ty3 : Ty Try.prog 3 (.int .i64) 1 8 (Value.int .i64 0) := ty_mk Try.underlying3 (by kernel_rfl)
theorem ty4 : Ty Try.prog 4 (.bool) 1 1 (Value.bool false) := ty_mk Try.underlying4 (by kernel_rfl)
theorem ty5 : Ty Try.prog 5 (.int .u8) 1 1 (Value.int .u8 0) := ty_mk Try.underlying5 (by kernel_rfl)
theorem ty6 : Ty Try.prog 6 (.int .u8) 1 1 (Value.int .u8 0) := ty_mk Try.underlying6 (by kernel_rfl)
theorem ty7 : Ty Try.prog 7 (.struct #[⟨"x", 2, 0, false, "", "runtime", 0⟩, ⟨"y", 3, 1, false, "", "runtime", 8⟩, ⟨"signed", 4, 2, false, "", "runtime", 16⟩, ⟨"code", 6, 3, false, "", "runtime", 17⟩]) 4 24 (.agg ([Value.int .i64 0, Value.int .i64 0, Value.bool false, Value.int .u8 0] : List Value).toArray) := ty_mk Try.underlying7 (by kernel_rfl)
theorem ty8 : Ty Try.prog 8 (.struct #[⟨"x", 2, 0, false, "", "runtime", 0⟩, ⟨"y", 3, 1, false, "", "runtime", 8⟩, ⟨"signed", 4, 2, false, "", "runtime", 16⟩, ⟨"code", 6, 3, false, "", "runtime", 17⟩]) 4 24 (.agg ([Value.int .i64 0, Value.int .i64 0, Value.bool false, Value.int .u8 0] : List Value).toArray) := ty_mk Try.underlying8 (by kernel_rfl)
theorem ty9 : Ty Try.prog 9 (.string) 1 16 (Value.string ⟨#[]⟩) := ty_mk Try.underlying9 (by kernel_rfl)
theorem ty10 : Ty Try.prog 10 (.string) 1 16 (Value.string ⟨#[]⟩) := ty_mk Try.underlying10 (by kernel_rfl)
theorem ty11 : Ty Try.prog 11 (.string) 1 16 (Value.string ⟨#[]⟩) := ty_mk Try.underlying11 (by kernel_rfl)
theorem ty12 : Ty Try.prog 12 (.int .u64) 1 8 (Value.int .u64 0) := ty_mk Try.underlying12 (by kernel_rfl)
theorem ty13 : Ty Try.prog 13 (.struct #[⟨"msg", 9, 0, false, "", "runtime", 0⟩, ⟨"addr", 12, 1, false, "", "runtime", 16⟩]) 2 24 (.agg ([Value.string ⟨#[]⟩, Value.int .u64 0] : List Value).toArray) := ty_mk Try.underlying13 (by kernel_rfl)
theorem ty14 : Ty Try.prog 14 (.struct #[⟨"msg", 9, 0, false, "", "runtime", 0⟩, ⟨"addr", 12, 1, false, "", "runtime", 16⟩]) 2 24 (.agg ([Value.string ⟨#[]⟩, Value.int .u64 0] : List Value).toArray) := ty_mk Try.underlying14 (by kernel_rfl)
theorem ty15 : Ty Try.prog 15 (.pointer 79) 1 8 (Value.pointer none) := ty_mk Try.underlying15 (by kernel_rfl)
theorem ty16 : Ty Try.prog 16 (.pointer 82) 1 8 (Value.pointer none) := ty_mk Try.underlying16 (by kernel_rfl)
theorem ty17 : Ty Try.prog 17 (.pointer 91) 1 8 (Value.pointer none) := ty_mk Try.underlying17 (by kernel_rfl)
theorem ty18 : Ty Try.prog 18 (.struct #[⟨"typ", 17, 0, false, "", "internal/runtime/maps", 0⟩]) 1 8 (.agg ([Value.pointer none] : List Value).toArray) := ty_mk Try.underlying18 (by kernel_rfl)
theorem ty19 : Ty Try.prog 19 (.struct #[⟨"typ", 17, 0, false, "", "internal/runtime/maps", 0⟩]) 1 8 (.agg ([Value.pointer none] : List Value).toArray) := ty_mk Try.underlying19 (by kernel_rfl)
theorem ty21 : Ty Try.prog 21 (.int .i32) 1 4 (Value.int .i32 0) := ty_mk Try.underlying21 (by kernel_rfl)
theorem ty22 : Ty Try.prog 22 (.slice 24) 1 24 (Value.slice none 0 0) := ty_mk Try.underlying22 (by kernel_rfl)
theorem ty23 : Ty Try.prog 23 (.array 32 5) 32 32 (.agg (ints .u8 (List.replicate 32 0) : List Value).toArray) := ty_mk Try.underlying23 (by kernel_rfl)
theorem ty24 : Ty Try.prog 24 (.array 32 5) 32 32 (.agg (ints .u8 (List.replicate 32 0) : List Value).toArray) := ty_mk Try.underlying24 (by kernel_rfl)
theorem ty25 : Ty Try.prog 25 (.func #[22] #[24] false) 1 8 (Value.nilFunc) := ty_mk Try.underlying25 (by kernel_rfl)
theorem ty26 : Ty Try.prog 26 (.func #[] #[4] false) 1 8 (Value.nilFunc) := ty_mk Try.underlying26 (by kernel_rfl)
theorem ty27 : Ty Try.prog 27 (.func #[22, 3, 5] #[4] false) 1 8 (Value.nilFunc) := ty_mk Try.underlying27 (by kernel_rfl)
theorem ty28 : Ty Try.prog 28 (.slice 5) 1 24 (Value.slice none 0 0) := ty_mk Try.underlying28 (by kernel_rfl)
theorem ty29 : Ty Try.prog 29 (.array 36 3) 36 288 (.agg (ints .i64 (List.replicate 36 0) : List Value).toArray) := ty_mk Try.underlying29 (by kernel_rfl)
theorem ty30 : Ty Try.prog 30 (.func #[28] #[29] false) 1 8 (Value.nilFunc) := ty_mk Try.underlying30 (by kernel_rfl)
theorem ty31 : Ty Try.prog 31 (.func #[24, 3, 3, 3] #[24] false) 1 8 (Value.nilFunc) := ty_mk Try.underlying31 (by kernel_rfl)
theorem ty32 : Ty Try.prog 32 (.func #[24, 3, 3] #[24] false) 1 8 (Value.nilFunc) := ty_mk Try.underlying32 (by kernel_rfl)
theorem ty33 : Ty Try.prog 33 (.func #[24, 3] #[24] false) 1 8 (Value.nilFunc) := ty_mk Try.underlying33 (by kernel_rfl)
theorem ty34 : Ty Try.prog 34 (.func #[28, 24, 3, 3, 3, 3] #[4] false) 1 8 (Value.nilFunc) := ty_mk Try.underlying34 (by kernel_rfl)
theorem ty36 : Ty Try.prog 36 (.func #[28, 22] #[24, 4] false) 1 8 (Value.nilFunc) := ty_mk Try.underlying36 (by kernel_rfl)
theorem ty37 : Ty Try.prog 37 (.func #[22, 22] #[4] false) 1 8 (Value.nilFunc) := ty_mk Try.underlying37 (by kernel_rfl)
theorem ty38 : Ty Try.prog 38 (.func #[24, 3, 28] #[22] false) 1 8 (Value.nilFunc) := ty_mk Try.underlying38 (by kernel_rfl)
theorem ty39 : Ty Try.prog 39 (.func #[24, 3, 28, 22] #[4] false) 1 8 (Value.nilFunc) := ty_mk Try.underlying39 (by kernel_rfl)
theorem ty40 : Ty Try.prog 40 (.func #[24, 3, 28] #[4] false) 1 8 (Value.nilFunc) := ty_mk Try.underlying40 (by kernel_rfl)
theorem ty41 : Ty Try.prog 41 (.func #[28, 28] #[4] false) 1 8 (Value.nilFunc) := ty_mk Try.underlying41 (by kernel_rfl)
theorem ty42 : Ty Try.prog 42 (.func #[24, 3, 3, 3] #[4] false) 1 8 (Value.nilFunc) := ty_mk Try.underlying42 (by kernel_rfl)
theorem ty43 : Ty Try.prog 43 (.func #[28] #[24] false) 1 8 (Value.nilFunc) := ty_mk Try.underlying43 (by kernel_rfl)
theorem ty44 : Ty Try.prog 44 (.int .u64) 1 8 (Value.int .u64 0) := ty_mk Try.underlying44 (by kernel_rfl)
theorem ty45 : Ty Try.prog 45 (.func #[28] #[4] false) 1 8 (Value.nilFunc) := ty_mk Try.underlying45 (by kernel_rfl)
theorem ty46 : Ty Try.prog 46 (.func #[24, 28, 3] #[4] false) 1 8 (Value.nilFunc) := ty_mk Try.underlying46 (by kernel_rfl)
theorem ty47 : Ty Try.prog 47 (.func #[22, 3] #[22] false) 1 8 (Value.nilFunc) := ty_mk Try.underlying47 (by kernel_rfl)
theorem ty48 : Ty Try.prog 48 (.func #[22, 3] #[4] false) 1 8 (Value.nilFunc) := ty_mk Try.underlying48 (by kernel_rfl)
theorem ty49 : Ty Try.prog 49 (.func #[24, 24] #[24] false) 1 8 (Value.nilFunc) := ty_mk Try.underlying49 (by kernel_rfl)
theorem ty50 : Ty Try.prog 50 (.func #[24, 3, 22] #[24] false) 1 8 (Value.nilFunc) := ty_mk Try.underlying50 (by kernel_rfl)
theorem ty51 : Ty Try.prog 51 (.func #[22, 3, 24, 22] #[4] false) 1 8 (Value.nilFunc) := ty_mk Try.underlying51 (by kernel_rfl)
theorem ty52 : Ty Try.prog 52 (.func #[22, 3, 3] #[4] false) 1 8 (Value.nilFunc) := ty_mk Try.underlying52 (by kernel_rfl)
theorem ty53 : Ty Try.prog 53 (.func #[3] #[3] false) 1 8 (Value.nilFunc) := ty_mk Try.underlying53 (by kernel_rfl)
theorem ty54 : Ty Try.prog 54 (.func #[55] #[24] false) 1 8 (Value.nilFunc) := ty_mk Try.underlying54 (by kernel_rfl)
theorem ty55 : Ty Try.prog 55 (.func #[3] #[24] false) 1 8 (Value.nilFunc) := ty_mk Try.underlying55 (by kernel_rfl)
theorem ty56 : Ty Try.prog 56 (.struct #[⟨"seed", 24, 0, false, "", "ostler/ots", 0⟩, ⟨"n", 3, 32, false, "", "ostler/ots", 32⟩]) 33 40 (.agg ((ints .u8 (List.replicate 32 0)) ++ [Value.int .i64 0] : List Value).toArray) := ty_mk Try.underlying56 (by kernel_rfl)
theorem ty57 : Ty Try.prog 57 (.struct #[⟨"seed", 24, 0, false, "", "ostler/ots", 0⟩, ⟨"n", 3, 32, false, "", "ostler/ots", 32⟩]) 33 40 (.agg ((ints .u8 (List.replicate 32 0)) ++ [Value.int .i64 0] : List Value).toArray) := ty_mk Try.underlying57 (by kernel_rfl)
theorem ty58 : Ty Try.prog 58 (.struct #[⟨"digits", 29, 0, false, "", "ostler/ots", 0⟩, ⟨"chains", 22, 36, false, "", "ostler/ots", 288⟩]) 37 312 (.agg ((ints .i64 (List.replicate 36 0)) ++ [Value.slice none 0 0] : List Value).toArray) := ty_mk Try.underlying58 (by kernel_rfl)
theorem ty59 : Ty Try.prog 59 (.struct #[⟨"digits", 29, 0, false, "", "ostler/ots", 0⟩, ⟨"chains", 22, 36, false, "", "ostler/ots", 288⟩]) 37 312 (.agg ((ints .i64 (List.replicate 36 0)) ++ [Value.slice none 0 0] : List Value).toArray) := ty_mk Try.underlying59 (by kernel_rfl)
theorem ty60 : Ty Try.prog 60 (.int .u64) 1 8 (Value.int .u64 0) := ty_mk Try.underlying60 (by kernel_rfl)
theorem ty61 : Ty Try.prog 61 (.int .u32) 1 4 (Value.int .u32 0) := ty_mk Try.underlying61 (by kernel_rfl)
theorem ty62 : Ty Try.prog 62 (.array 8 61) 8 32 (.agg (ints .u32 (List.replicate 8 0) : List Value).toArray) := ty_mk Try.underlying62 (by kernel_rfl)
theorem ty63 : Ty Try.prog 63 (.array 64 61) 64 256 (.agg (ints .u32 (List.replicate 64 0) : List Value).toArray) := ty_mk Try.underlying63 (by kernel_rfl)
theorem ty64 : Ty Try.prog 64 (.func #[] #[63] false) 1 8 (Value.nilFunc) := ty_mk Try.underlying64 (by kernel_rfl)
theorem ty65 : Ty Try.prog 65 (.func #[62, 28, 66] #[62] false) 1 8 (Value.nilFunc) := ty_mk Try.underlying65 (by kernel_rfl)
theorem ty66 : Ty Try.prog 66 (.pointer 63) 1 8 (Value.pointer none) := ty_mk Try.underlying66 (by kernel_rfl)
theorem ty67 : Ty Try.prog 67 (.func #[44] #[3] false) 1 8 (Value.nilFunc) := ty_mk Try.underlying67 (by kernel_rfl)
theorem ty68 : Ty Try.prog 68 (.array 8 61) 8 32 (.agg (ints .u32 (List.replicate 8 0) : List Value).toArray) := ty_mk Try.underlying68 (by kernel_rfl)
theorem ty69 : Ty Try.prog 69 (.func #[28, 66] #[] false) 1 8 (Value.nilFunc) := ty_mk Try.underlying69 (by kernel_rfl)
theorem ty70 : Ty Try.prog 70 (.array 128 5) 128 128 (.agg (ints .u8 (List.replicate 128 0) : List Value).toArray) := ty_mk Try.underlying70 (by kernel_rfl)
theorem ty71 : Ty Try.prog 71 (.func #[61, 44] #[61] false) 1 8 (Value.nilFunc) := ty_mk Try.underlying71 (by kernel_rfl)
theorem ty72 : Ty Try.prog 72 (.func #[61] #[3] false) 1 8 (Value.nilFunc) := ty_mk Try.underlying72 (by kernel_rfl)
theorem ty73 : Ty Try.prog 73 (.func #[60] #[3] false) 1 8 (Value.nilFunc) := ty_mk Try.underlying73 (by kernel_rfl)
theorem ty74 : Ty Try.prog 74 (.pointer 68) 1 8 (Value.pointer none) := ty_mk Try.underlying74 (by kernel_rfl)
theorem ty75 : Ty Try.prog 75 (.func #[61] #[61] false) 1 8 (Value.nilFunc) := ty_mk Try.underlying75 (by kernel_rfl)
theorem ty76 : Ty Try.prog 76 (.func #[61, 61, 61] #[61] false) 1 8 (Value.nilFunc) := ty_mk Try.underlying76 (by kernel_rfl)
theorem ty77 : Ty Try.prog 77 (.func #[] #[9] false) 1 8 (Value.nilFunc) := ty_mk Try.underlying77 (by kernel_rfl)
theorem ty78 : Ty Try.prog 78 (.struct #[⟨"_interface", 17, 0, false, "", "runtime", 0⟩, ⟨"concrete", 17, 1, false, "", "runtime", 8⟩, ⟨"asserted", 17, 2, false, "", "runtime", 16⟩, ⟨"missingMethod", 9, 3, false, "", "runtime", 24⟩]) 4 40 (.agg ([Value.pointer none, Value.pointer none, Value.pointer none, Value.string ⟨#[]⟩] : List Value).toArray) := ty_mk Try.underlying78 (by kernel_rfl)
theorem ty79 : Ty Try.prog 79 (.struct #[⟨"_interface", 17, 0, false, "", "runtime", 0⟩, ⟨"concrete", 17, 1, false, "", "runtime", 8⟩, ⟨"asserted", 17, 2, false, "", "runtime", 16⟩, ⟨"missingMethod", 9, 3, false, "", "runtime", 24⟩]) 4 40 (.agg ([Value.pointer none, Value.pointer none, Value.pointer none, Value.string ⟨#[]⟩] : List Value).toArray) := ty_mk Try.underlying79 (by kernel_rfl)
theorem ty80 : Ty Try.prog 80 (.array 0 16) 0 0 (.agg ([] : List Value).toArray) := ty_mk Try.underlying80 (by kernel_rfl)
theorem ty81 : Ty Try.prog 81 (.struct #[⟨"_", 80, 0, false, "", "runtime", 0⟩]) 0 0 (.agg ([] : List Value).toArray) := ty_mk Try.underlying81 (by kernel_rfl)
theorem ty82 : Ty Try.prog 82 (.struct #[⟨"_", 80, 0, false, "", "runtime", 0⟩]) 0 0 (.agg ([] : List Value).toArray) := ty_mk Try.underlying82 (by kernel_rfl)
theorem ty83 : Ty Try.prog 83 (.func #[] #[3] false) 1 8 (Value.nilFunc) := ty_mk Try.underlying83 (by kernel_rfl)
theorem ty84 : Ty Try.prog 84 (.int .u8) 1 1 (Value.int .u8 0) := ty_mk Try.underlying84 (by kernel_rfl)
theorem ty85 : Ty Try.prog 85 (.int .u8) 1 1 (Value.int .u8 0) := ty_mk Try.underlying85 (by kernel_rfl)
theorem ty86 : Ty Try.prog 86 (.func #[92, 92] #[4] false) 1 8 (Value.nilFunc) := ty_mk Try.underlying86 (by kernel_rfl)
theorem ty87 : Ty Try.prog 87 (.pointer 5) 1 8 (Value.pointer none) := ty_mk Try.underlying87 (by kernel_rfl)
theorem ty88 : Ty Try.prog 88 (.int .i32) 1 4 (Value.int .i32 0) := ty_mk Try.underlying88 (by kernel_rfl)
theorem ty89 : Ty Try.prog 89 (.int .i32) 1 4 (Value.int .i32 0) := ty_mk Try.underlying89 (by kernel_rfl)
theorem ty90 : Ty Try.prog 90 (.struct #[⟨"Size_", 12, 0, false, "", "", 0⟩, ⟨"PtrBytes", 12, 1, false, "", "", 8⟩, ⟨"Hash", 61, 2, false, "", "", 16⟩, ⟨"TFlag", 84, 3, false, "", "", 20⟩, ⟨"Align_", 5, 4, false, "", "", 21⟩, ⟨"FieldAlign_", 5, 5, false, "", "", 22⟩, ⟨"Kind_", 85, 6, false, "", "", 23⟩, ⟨"Equal", 86, 7, false, "", "", 24⟩, ⟨"GCData", 87, 8, false, "", "", 32⟩, ⟨"Str", 88, 9, false, "", "", 40⟩, ⟨"PtrToThis", 89, 10, false, "", "", 44⟩]) 11 48 (.agg ([Value.int .u64 0, Value.int .u64 0, Value.int .u32 0, Value.int .u8 0, Value.int .u8 0, Value.int .u8 0, Value.int .u8 0, Value.nilFunc, Value.pointer none, Value.int .i32 0, Value.int .i32 0] : List Value).toArray) := ty_mk Try.underlying90 (by kernel_rfl)
theorem ty91 : Ty Try.prog 91 (.struct #[⟨"Size_", 12, 0, false, "", "", 0⟩, ⟨"PtrBytes", 12, 1, false, "", "", 8⟩, ⟨"Hash", 61, 2, false, "", "", 16⟩, ⟨"TFlag", 84, 3, false, "", "", 20⟩, ⟨"Align_", 5, 4, false, "", "", 21⟩, ⟨"FieldAlign_", 5, 5, false, "", "", 22⟩, ⟨"Kind_", 85, 6, false, "", "", 23⟩, ⟨"Equal", 86, 7, false, "", "", 24⟩, ⟨"GCData", 87, 8, false, "", "", 32⟩, ⟨"Str", 88, 9, false, "", "", 40⟩, ⟨"PtrToThis", 89, 10, false, "", "", 44⟩]) 11 48 (.agg ([Value.int .u64 0, Value.int .u64 0, Value.int .u32 0, Value.int .u8 0, Value.int .u8 0, Value.int .u8 0, Value.int .u8 0, Value.nilFunc, Value.pointer none, Value.int .i32 0, Value.int .i32 0] : List Value).toArray) := ty_mk Try.underlying91 (by kernel_rfl)
theorem eqg23 : Try.prog.eqGuardType Try.prog.depth 23 = false := by kernel_rfl
theorem eqg24 : Try.prog.eqGuardType Try.prog.depth 24 = false := by kernel_rfl
theorem eqg29 : Try.prog.eqGuardType Try.prog.depth 29 = false := by kernel_rfl
theorem eqg62 : Try.prog.eqGuardType Try.prog.depth 62 = false := by kernel_rfl
theorem eqg63 : Try.prog.eqGuardType Try.prog.depth 63 = false := by kernel_rfl
theorem eqg68 : Try.prog.eqGuardType Try.prog.depth 68 = false := by kernel_rfl
theorem eqg70 : Try.prog.eqGuardType Try.prog.depth 70 = false := by kernel_rfl
theorem has2 : Has Try.prog 2 := ⟨_, Try.func2, by kernel_rfl, rfl⟩
theorem has3 : Has Try.prog 3 := ⟨_, Try.func3, by kernel_rfl, rfl⟩
theorem has4 : Has Try.prog 4 := ⟨_, Try.func4, by kernel_rfl, rfl⟩
theorem has5 : Has Try.prog 5 := ⟨_, Try.func5, by kernel_rfl, rfl⟩
theorem has6 : Has Try.prog 6 := ⟨_, Try.func6, by kernel_rfl, rfl⟩
theorem has7 : Has Try.prog 7 := ⟨_, Try.func7, by kernel_rfl, rfl⟩
theorem has8 : Has Try.prog 8 := ⟨_, Try.func8, by kernel_rfl, rfl⟩
theorem has9 : Has Try.prog 9 := ⟨_, Try.func9, by kernel_rfl, rfl⟩
theorem has10 : Has Try.prog 10 := ⟨_, Try.func10, by kernel_rfl, rfl⟩
theorem has11 : Has Try.prog 11 := ⟨_, Try.func11, by kernel_rfl, rfl⟩
theorem has12 : Has Try.prog 12 := ⟨_, Try.func12, by kernel_rfl, rfl⟩
theorem has13 : Has Try.prog 13 := ⟨_, Try.func13, by kernel_rfl, rfl⟩
theorem has14 : Has Try.prog 14 := ⟨_, Try.func14, by kernel_rfl, rfl⟩
theorem has15 : Has Try.prog 15 := ⟨_, Try.func15, by kernel_rfl, rfl⟩
theorem has16 : Has Try.prog 16 := ⟨_, Try.func16, by kernel_rfl, rfl⟩
theorem has17 : Has Try.prog 17 := ⟨_, Try.func17, by kernel_rfl, rfl⟩
theorem has18 : Has Try.prog 18 := ⟨_, Try.func18, by kernel_rfl, rfl⟩
theorem has19 : Has Try.prog 19 := ⟨_, Try.func19, by kernel_rfl, rfl⟩
theorem has20 : Has Try.prog 20 := ⟨_, Try.func20, by kernel_rfl, rfl⟩
theorem has21 : Has Try.prog 21 := ⟨_, Try.func21, by kernel_rfl, rfl⟩
theorem has22 : Has Try.prog 22 := ⟨_, Try.func22, by kernel_rfl, rfl⟩
theorem has23 : Has Try.prog 23 := ⟨_, Try.func23, by kernel_rfl, rfl⟩
theorem has24 : Has Try.prog 24 := ⟨_, Try.func24, by kernel_rfl, rfl⟩
theorem has25 : Has Try.prog 25 := ⟨_, Try.func25, by kernel_rfl, rfl⟩
theorem has26 : Has Try.prog 26 := ⟨_, Try.func26, by kernel_rfl, rfl⟩
theorem has27 : Has Try.prog 27 := ⟨_, Try.func27, by kernel_rfl, rfl⟩
theorem has28 : Has Try.prog 28 := ⟨_, Try.func28, by kernel_rfl, rfl⟩
theorem has29 : Has Try.prog 29 := ⟨_, Try.func29, by kernel_rfl, rfl⟩
theorem has30 : Has Try.prog 30 := ⟨_, Try.func30, by kernel_rfl, rfl⟩
theorem has31 : Has Try.prog 31 := ⟨_, Try.func31, by kernel_rfl, rfl⟩
theorem has32 : Has Try.prog 32 := ⟨_, Try.func32, by kernel_rfl, rfl⟩
theorem has33 : Has Try.prog 33 := ⟨_, Try.func33, by kernel_rfl, rfl⟩
theorem has34 : Has Try.prog 34 := ⟨_, Try.func34, by kernel_rfl, rfl⟩
theorem has35 : Has Try.prog 35 := ⟨_, Try.func35, by kernel_rfl, rfl⟩
theorem has36 : Has Try.prog 36 := ⟨_, Try.func36, by kernel_rfl, rfl⟩
theorem has37 : Has Try.prog 37 := ⟨_, Try.func37, by kernel_rfl, rfl⟩
theorem has38 : Has Try.prog 38 := ⟨_, Try.func38, by kernel_rfl, rfl⟩
theorem has39 : Has Try.prog 39 := ⟨_, Try.func39, by kernel_rfl, rfl⟩
theorem has40 : Has Try.prog 40 := ⟨_, Try.func40, by kernel_rfl, rfl⟩
theorem has41 : Has Try.prog 41 := ⟨_, Try.func41, by kernel_rfl, rfl⟩
theorem has42 : Has Try.prog 42 := ⟨_, Try.func42, by kernel_rfl, rfl⟩
theorem has43 : Has Try.prog 43 := ⟨_, Try.func43, by kernel_rfl, rfl⟩
theorem has44 : Has Try.prog 44 := ⟨_, Try.func44, by kernel_rfl, rfl⟩
theorem has45 : Has Try.prog 45 := ⟨_, Try.func45, by kernel_rfl, rfl⟩
theorem has46 : Has Try.prog 46 := ⟨_, Try.func46, by kernel_rfl, rfl⟩
theorem has47 : Has Try.prog 47 := ⟨_, Try.func47, by kernel_rfl, rfl⟩
theorem has48 : Has Try.prog 48 := ⟨_, Try.func48, by kernel_rfl, rfl⟩
theorem has49 : Has Try.prog 49 := ⟨_, Try.func49, by kernel_rfl, rfl⟩
theorem has50 : Has Try.prog 50 := ⟨_, Try.func50, by kernel_rfl, rfl⟩
theorem has51 : Has Try.prog 51 := ⟨_, Try.func51, by kernel_rfl, rfl⟩
theorem has52 : Has Try.prog 52 := ⟨_, Try.func52, by kernel_rfl, rfl⟩
theorem has53 : Has Try.prog 53 := ⟨_, Try.func53, by kernel_rfl, rfl⟩
theorem has54 : Has Try.prog 54 := ⟨_, Try.func54, by kernel_rfl, rfl⟩
theorem has55 : Has Try.prog 55 := ⟨_, Try.func55, by kernel_rfl, rfl⟩
theorem has56 : Has Try.prog 56 := ⟨_, Try.func56, by kernel_rfl, rfl⟩
theorem has57 : Has Try.prog 57 := ⟨_, Try.func57, by kernel_rfl, rfl⟩
theorem has58 : Has Try.prog 58 := ⟨_, Try.func58, by kernel_rfl, rfl⟩
theorem has59 : Has Try.prog 59 := ⟨_, Try.func59, by kernel_rfl, rfl⟩
theorem pl7 : ∀ w, ((#[⟨"x", 2, 0, false, "", "runtime", 0⟩, ⟨"y", 3, 1, false, "", "runtime", 8⟩, ⟨"signed", 4, 2, false, "", "runtime", 16⟩, ⟨"code", 6, 3, false, "", "runtime", 17⟩] : Array Field).mapM fun f => (do pure (f.offset, ← sizeOf f.type) : Sem (Nat × Nat))).run Try.prog w = .ok #[(0, 1), (1, 1), (2, 1), (3, 1)] w := fun w => by
  simp [ty2.run_size, ty3.run_size, ty4.run_size, ty6.run_size]
theorem pl8 : ∀ w, ((#[⟨"x", 2, 0, false, "", "runtime", 0⟩, ⟨"y", 3, 1, false, "", "runtime", 8⟩, ⟨"signed", 4, 2, false, "", "runtime", 16⟩, ⟨"code", 6, 3, false, "", "runtime", 17⟩] : Array Field).mapM fun f => (do pure (f.offset, ← sizeOf f.type) : Sem (Nat × Nat))).run Try.prog w = .ok #[(0, 1), (1, 1), (2, 1), (3, 1)] w := fun w => by
  simp [ty2.run_size, ty3.run_size, ty4.run_size, ty6.run_size]
theorem pl13 : ∀ w, ((#[⟨"msg", 9, 0, false, "", "runtime", 0⟩, ⟨"addr", 12, 1, false, "", "runtime", 16⟩] : Array Field).mapM fun f => (do pure (f.offset, ← sizeOf f.type) : Sem (Nat × Nat))).run Try.prog w = .ok #[(0, 1), (1, 1)] w := fun w => by
  simp [ty12.run_size, ty9.run_size]
theorem pl14 : ∀ w, ((#[⟨"msg", 9, 0, false, "", "runtime", 0⟩, ⟨"addr", 12, 1, false, "", "runtime", 16⟩] : Array Field).mapM fun f => (do pure (f.offset, ← sizeOf f.type) : Sem (Nat × Nat))).run Try.prog w = .ok #[(0, 1), (1, 1)] w := fun w => by
  simp [ty12.run_size, ty9.run_size]
theorem pl18 : ∀ w, ((#[⟨"typ", 17, 0, false, "", "internal/runtime/maps", 0⟩] : Array Field).mapM fun f => (do pure (f.offset, ← sizeOf f.type) : Sem (Nat × Nat))).run Try.prog w = .ok #[(0, 1)] w := fun w => by
  simp [ty17.run_size]
theorem pl19 : ∀ w, ((#[⟨"typ", 17, 0, false, "", "internal/runtime/maps", 0⟩] : Array Field).mapM fun f => (do pure (f.offset, ← sizeOf f.type) : Sem (Nat × Nat))).run Try.prog w = .ok #[(0, 1)] w := fun w => by
  simp [ty17.run_size]
theorem pl56 : ∀ w, ((#[⟨"seed", 24, 0, false, "", "ostler/ots", 0⟩, ⟨"n", 3, 32, false, "", "ostler/ots", 32⟩] : Array Field).mapM fun f => (do pure (f.offset, ← sizeOf f.type) : Sem (Nat × Nat))).run Try.prog w = .ok #[(0, 32), (32, 1)] w := fun w => by
  simp [ty24.run_size, ty3.run_size]
theorem pl57 : ∀ w, ((#[⟨"seed", 24, 0, false, "", "ostler/ots", 0⟩, ⟨"n", 3, 32, false, "", "ostler/ots", 32⟩] : Array Field).mapM fun f => (do pure (f.offset, ← sizeOf f.type) : Sem (Nat × Nat))).run Try.prog w = .ok #[(0, 32), (32, 1)] w := fun w => by
  simp [ty24.run_size, ty3.run_size]
theorem pl58 : ∀ w, ((#[⟨"digits", 29, 0, false, "", "ostler/ots", 0⟩, ⟨"chains", 22, 36, false, "", "ostler/ots", 288⟩] : Array Field).mapM fun f => (do pure (f.offset, ← sizeOf f.type) : Sem (Nat × Nat))).run Try.prog w = .ok #[(0, 36), (36, 1)] w := fun w => by
  simp [ty22.run_size, ty29.run_size]
theorem pl59 : ∀ w, ((#[⟨"digits", 29, 0, false, "", "ostler/ots", 0⟩, ⟨"chains", 22, 36, false, "", "ostler/ots", 288⟩] : Array Field).mapM fun f => (do pure (f.offset, ← sizeOf f.type) : Sem (Nat × Nat))).run Try.prog w = .ok #[(0, 36), (36, 1)] w := fun w => by
  simp [ty22.run_size, ty29.run_size]
theorem pl78 : ∀ w, ((#[⟨"_interface", 17, 0, false, "", "runtime", 0⟩, ⟨"concrete", 17, 1, false, "", "runtime", 8⟩, ⟨"asserted", 17, 2, false, "", "runtime", 16⟩, ⟨"missingMethod", 9, 3, false, "", "runtime", 24⟩] : Array Field).mapM fun f => (do pure (f.offset, ← sizeOf f.type) : Sem (Nat × Nat))).run Try.prog w = .ok #[(0, 1), (1, 1), (2, 1), (3, 1)] w := fun w => by
  simp [ty17.run_size, ty9.run_size]
theorem pl79 : ∀ w, ((#[⟨"_interface", 17, 0, false, "", "runtime", 0⟩, ⟨"concrete", 17, 1, false, "", "runtime", 8⟩, ⟨"asserted", 17, 2, false, "", "runtime", 16⟩, ⟨"missingMethod", 9, 3, false, "", "runtime", 24⟩] : Array Field).mapM fun f => (do pure (f.offset, ← sizeOf f.type) : Sem (Nat × Nat))).run Try.prog w = .ok #[(0, 1), (1, 1), (2, 1), (3, 1)] w := fun w => by
  simp [ty17.run_size, ty9.run_size]
theorem pl81 : ∀ w, ((#[⟨"_", 80, 0, false, "", "runtime", 0⟩] : Array Field).mapM fun f => (do pure (f.offset, ← sizeOf f.type) : Sem (Nat × Nat))).run Try.prog w = .ok #[(0, 0)] w := fun w => by
  simp [ty80.run_size]
theorem pl82 : ∀ w, ((#[⟨"_", 80, 0, false, "", "runtime", 0⟩] : Array Field).mapM fun f => (do pure (f.offset, ← sizeOf f.type) : Sem (Nat × Nat))).run Try.prog w = .ok #[(0, 0)] w := fun w => by
  simp [ty80.run_size]
theorem pl90 : ∀ w, ((#[⟨"Size_", 12, 0, false, "", "", 0⟩, ⟨"PtrBytes", 12, 1, false, "", "", 8⟩, ⟨"Hash", 61, 2, false, "", "", 16⟩, ⟨"TFlag", 84, 3, false, "", "", 20⟩, ⟨"Align_", 5, 4, false, "", "", 21⟩, ⟨"FieldAlign_", 5, 5, false, "", "", 22⟩, ⟨"Kind_", 85, 6, false, "", "", 23⟩, ⟨"Equal", 86, 7, false, "", "", 24⟩, ⟨"GCData", 87, 8, false, "", "", 32⟩, ⟨"Str", 88, 9, false, "", "", 40⟩, ⟨"PtrToThis", 89, 10, false, "", "", 44⟩] : Array Field).mapM fun f => (do pure (f.offset, ← sizeOf f.type) : Sem (Nat × Nat))).run Try.prog w = .ok #[(0, 1), (1, 1), (2, 1), (3, 1), (4, 1), (5, 1), (6, 1), (7, 1), (8, 1), (9, 1), (10, 1)] w := fun w => by
  simp [ty12.run_size, ty5.run_size, ty61.run_size, ty84.run_size, ty85.run_size, ty86.run_size, ty87.run_size, ty88.run_size, ty89.run_size]
theorem pl91 : ∀ w, ((#[⟨"Size_", 12, 0, false, "", "", 0⟩, ⟨"PtrBytes", 12, 1, false, "", "", 8⟩, ⟨"Hash", 61, 2, false, "", "", 16⟩, ⟨"TFlag", 84, 3, false, "", "", 20⟩, ⟨"Align_", 5, 4, false, "", "", 21⟩, ⟨"FieldAlign_", 5, 5, false, "", "", 22⟩, ⟨"Kind_", 85, 6, false, "", "", 23⟩, ⟨"Equal", 86, 7, false, "", "", 24⟩, ⟨"GCData", 87, 8, false, "", "", 32⟩, ⟨"Str", 88, 9, false, "", "", 40⟩, ⟨"PtrToThis", 89, 10, false, "", "", 44⟩] : Array Field).mapM fun f => (do pure (f.offset, ← sizeOf f.type) : Sem (Nat × Nat))).run Try.prog w = .ok #[(0, 1), (1, 1), (2, 1), (3, 1), (4, 1), (5, 1), (6, 1), (7, 1), (8, 1), (9, 1), (10, 1)] w := fun w => by
  simp [ty12.run_size, ty5.run_size, ty61.run_size, ty84.run_size, ty85.run_size, ty86.run_size, ty87.run_size, ty88.run_size, ty89.run_size]
end Go.Proofs.Ytobbhelaajcpcaa
