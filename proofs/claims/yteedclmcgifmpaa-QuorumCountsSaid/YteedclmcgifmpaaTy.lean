/- Facts on the types and functions of the translation that the walks use. -/
import Derived.Test.YteedclmcgifmpaaFwA
import Derived.Test.YteedclmcgifmpaaProg
import Derived.KernelRfl
namespace Go.Proofs.Yteedclmcgifmpaa
open Go Fw
set_option maxRecDepth 100000
theorem ty_mk {P : Program} {t : TypeId} {d : TypeDesc} {sz bytes : Nat} {z : Value} (h : P.underlying t = some d) (hi : (P.info? t).map (fun i => (i.size, i.bytes, i.zero)) = some (sz, bytes, some z)) : Ty P t d sz bytes z := by
  refine ⟨h, ?_⟩
  cases e : P.info? t with
  | none => rw [e] at hi; cases hi
  | some i => rw [e] at hi; simp only [Option.map_some, Option.some.injEq, Prod.mk.injEq] at hi; exact ⟨i, rfl, hi.1, hi.2.1, hi.2.2⟩
theorem hmix : Try.prog.follows .mixedOrders = true := by kernel_rfl
theorem ty1 : Ty Try.prog 1 (.func #[] #[] false) 1 8 (Value.nilFunc) := ty_mk Try.underlying1 (by kernel_rfl)
theorem ty2 : Ty Try.prog 2 (.int .i64) 1 8 (Value.int .i64 0) := ty_mk Try.underlying2 (by kernel_rfl)
theorem ty3 : Ty Try.prog 3 (.int .i64) 1 8 (Value.int .i64 0) := ty_mk Try.underlying3 (by kernel_rfl)
theorem ty4 : Ty Try.prog 4 (.bool) 1 1 (Value.bool false) := ty_mk Try.underlying4 (by kernel_rfl)
theorem ty5 : Ty Try.prog 5 (.int .u8) 1 1 (Value.int .u8 0) := ty_mk Try.underlying5 (by kernel_rfl)
theorem ty6 : Ty Try.prog 6 (.int .u8) 1 1 (Value.int .u8 0) := ty_mk Try.underlying6 (by kernel_rfl)
theorem ty7 : Ty Try.prog 7 (.struct #[⟨"x", 2, 0, false, "", "runtime", 0⟩, ⟨"y", 3, 1, false, "", "runtime", 8⟩, ⟨"signed", 4, 2, false, "", "runtime", 16⟩, ⟨"code", 6, 3, false, "", "runtime", 17⟩]) 4 24 (.agg ([Value.int .i64 0, Value.int .i64 0, Value.bool false, Value.int .u8 0] : List Value).toArray) := ty_mk Try.underlying7 (by kernel_rfl)
theorem ty8 : Ty Try.prog 8 (.struct #[⟨"x", 2, 0, false, "", "runtime", 0⟩, ⟨"y", 3, 1, false, "", "runtime", 8⟩, ⟨"signed", 4, 2, false, "", "runtime", 16⟩, ⟨"code", 6, 3, false, "", "runtime", 17⟩]) 4 24 (.agg ([Value.int .i64 0, Value.int .i64 0, Value.bool false, Value.int .u8 0] : List Value).toArray) := ty_mk Try.underlying8 (by kernel_rfl)
theorem ty9 : Ty Try.prog 9 (.string) 1 16 (Value.string ⟨#[]⟩) := ty_mk Try.underlying9 (by kernel_rfl)
theorem ty10 : Ty Try.prog 10 (.string) 1 16 (Value.string ⟨#[]⟩) := ty_mk Try.underlying10 (by kernel_rfl)
theorem ty11 : Ty Try.prog 11 (.string) 1 16 (Value.string ⟨#[]⟩) := ty_mk Try.underlying11 (by kernel_rfl)
theorem ty12 : Ty Try.prog 12 (.int .u64) 1 8 (Value.int .u64 0) := ty_mk Try.underlying12 (by kernel_rfl)
theorem ty13 : Ty Try.prog 13 (.struct #[⟨"msg", 9, 0, false, "", "runtime", 0⟩, ⟨"addr", 12, 1, false, "", "runtime", 16⟩]) 2 24 (.agg ([Value.string ⟨#[]⟩, Value.int .u64 0] : List Value).toArray) := ty_mk Try.underlying13 (by kernel_rfl)
theorem ty14 : Ty Try.prog 14 (.struct #[⟨"msg", 9, 0, false, "", "runtime", 0⟩, ⟨"addr", 12, 1, false, "", "runtime", 16⟩]) 2 24 (.agg ([Value.string ⟨#[]⟩, Value.int .u64 0] : List Value).toArray) := ty_mk Try.underlying14 (by kernel_rfl)
theorem ty15 : Ty Try.prog 15 (.pointer 144) 1 8 (Value.pointer none) := ty_mk Try.underlying15 (by kernel_rfl)
theorem ty16 : Ty Try.prog 16 (.pointer 147) 1 8 (Value.pointer none) := ty_mk Try.underlying16 (by kernel_rfl)
theorem ty17 : Ty Try.prog 17 (.pointer 155) 1 8 (Value.pointer none) := ty_mk Try.underlying17 (by kernel_rfl)
theorem ty18 : Ty Try.prog 18 (.struct #[⟨"typ", 17, 0, false, "", "internal/runtime/maps", 0⟩]) 1 8 (.agg ([Value.pointer none] : List Value).toArray) := ty_mk Try.underlying18 (by kernel_rfl)
theorem ty19 : Ty Try.prog 19 (.struct #[⟨"typ", 17, 0, false, "", "internal/runtime/maps", 0⟩]) 1 8 (.agg ([Value.pointer none] : List Value).toArray) := ty_mk Try.underlying19 (by kernel_rfl)
theorem ty21 : Ty Try.prog 21 (.int .i32) 1 4 (Value.int .i32 0) := ty_mk Try.underlying21 (by kernel_rfl)
theorem ty22 : Ty Try.prog 22 (.slice 5) 1 24 (Value.slice none 0 0) := ty_mk Try.underlying22 (by kernel_rfl)
theorem ty23 : Ty Try.prog 23 (.slice 44) 1 24 (Value.slice none 0 0) := ty_mk Try.underlying23 (by kernel_rfl)
theorem ty24 : Ty Try.prog 24 (.struct #[⟨"Body", 22, 0, false, "", "", 0⟩, ⟨"Marks", 23, 1, false, "", "", 24⟩]) 2 48 (.agg ([Value.slice none 0 0, Value.slice none 0 0] : List Value).toArray) := ty_mk Try.underlying24 (by kernel_rfl)
theorem ty25 : Ty Try.prog 25 (.struct #[⟨"Body", 22, 0, false, "", "", 0⟩, ⟨"Marks", 23, 1, false, "", "", 24⟩]) 2 48 (.agg ([Value.slice none 0 0, Value.slice none 0 0] : List Value).toArray) := ty_mk Try.underlying25 (by kernel_rfl)
theorem ty26 : Ty Try.prog 26 (.slice 39) 1 24 (Value.slice none 0 0) := ty_mk Try.underlying26 (by kernel_rfl)
theorem ty27 : Ty Try.prog 27 (.struct #[⟨"Keys", 26, 0, false, "", "", 0⟩, ⟨"Need", 3, 1, false, "", "", 24⟩]) 2 32 (.agg ([Value.slice none 0 0, Value.int .i64 0] : List Value).toArray) := ty_mk Try.underlying27 (by kernel_rfl)
theorem ty28 : Ty Try.prog 28 (.struct #[⟨"Keys", 26, 0, false, "", "", 0⟩, ⟨"Need", 3, 1, false, "", "", 24⟩]) 2 32 (.agg ([Value.slice none 0 0, Value.int .i64 0] : List Value).toArray) := ty_mk Try.underlying28 (by kernel_rfl)
theorem ty29 : Ty Try.prog 29 (.func #[25] #[4] false) 1 8 (Value.nilFunc) := ty_mk Try.underlying29 (by kernel_rfl)
theorem ty30 : Ty Try.prog 30 (.func #[26, 26] #[4] false) 1 8 (Value.nilFunc) := ty_mk Try.underlying30 (by kernel_rfl)
theorem ty31 : Ty Try.prog 31 (.func #[25, 28] #[26] false) 1 8 (Value.nilFunc) := ty_mk Try.underlying31 (by kernel_rfl)
theorem ty32 : Ty Try.prog 32 (.func #[25, 28] #[4] false) 1 8 (Value.nilFunc) := ty_mk Try.underlying32 (by kernel_rfl)
theorem ty33 : Ty Try.prog 33 (.func #[28] #[4] false) 1 8 (Value.nilFunc) := ty_mk Try.underlying33 (by kernel_rfl)
theorem ty34 : Ty Try.prog 34 (.func #[] #[4] false) 1 8 (Value.nilFunc) := ty_mk Try.underlying34 (by kernel_rfl)
theorem ty36 : Ty Try.prog 36 (.func #[22, 3, 4] #[25, 28] false) 1 8 (Value.nilFunc) := ty_mk Try.underlying36 (by kernel_rfl)
theorem ty37 : Ty Try.prog 37 (.int .u64) 1 8 (Value.int .u64 0) := ty_mk Try.underlying37 (by kernel_rfl)
theorem ty38 : Ty Try.prog 38 (.array 32 5) 32 32 (.agg (ints .u8 (List.replicate 32 0) : List Value).toArray) := ty_mk Try.underlying38 (by kernel_rfl)
theorem ty39 : Ty Try.prog 39 (.array 32 5) 32 32 (.agg (ints .u8 (List.replicate 32 0) : List Value).toArray) := ty_mk Try.underlying39 (by kernel_rfl)
theorem ty40 : Ty Try.prog 40 (.func #[22, 3, 3, 4] #[4] false) 1 8 (Value.nilFunc) := ty_mk Try.underlying40 (by kernel_rfl)
theorem ty41 : Ty Try.prog 41 (.struct #[⟨"Leaf", 3, 0, false, "", "", 0⟩, ⟨"Chains", 26, 1, false, "", "", 8⟩, ⟨"Path", 26, 2, false, "", "", 32⟩]) 3 56 (.agg ([Value.int .i64 0, Value.slice none 0 0, Value.slice none 0 0] : List Value).toArray) := ty_mk Try.underlying41 (by kernel_rfl)
theorem ty42 : Ty Try.prog 42 (.struct #[⟨"Leaf", 3, 0, false, "", "", 0⟩, ⟨"Chains", 26, 1, false, "", "", 8⟩, ⟨"Path", 26, 2, false, "", "", 32⟩]) 3 56 (.agg ([Value.int .i64 0, Value.slice none 0 0, Value.slice none 0 0] : List Value).toArray) := ty_mk Try.underlying42 (by kernel_rfl)
theorem ty43 : Ty Try.prog 43 (.struct #[⟨"Key", 39, 0, false, "", "", 0⟩, ⟨"Sig", 42, 32, false, "", "", 32⟩]) 35 88 (.agg ((ints .u8 (List.replicate 32 0)) ++ ([Value.int .i64 0, Value.slice none 0 0, Value.slice none 0 0]) : List Value).toArray) := ty_mk Try.underlying43 (by kernel_rfl)
theorem ty44 : Ty Try.prog 44 (.struct #[⟨"Key", 39, 0, false, "", "", 0⟩, ⟨"Sig", 42, 32, false, "", "", 32⟩]) 35 88 (.agg ((ints .u8 (List.replicate 32 0)) ++ ([Value.int .i64 0, Value.slice none 0 0, Value.slice none 0 0]) : List Value).toArray) := ty_mk Try.underlying44 (by kernel_rfl)
theorem ty45 : Ty Try.prog 45 (.func #[22, 3, 5] #[4] false) 1 8 (Value.nilFunc) := ty_mk Try.underlying45 (by kernel_rfl)
theorem ty46 : Ty Try.prog 46 (.func #[22, 3] #[4] false) 1 8 (Value.nilFunc) := ty_mk Try.underlying46 (by kernel_rfl)
theorem ty47 : Ty Try.prog 47 (.slice 22) 1 24 (Value.slice none 0 0) := ty_mk Try.underlying47 (by kernel_rfl)
theorem ty48 : Ty Try.prog 48 (.func #[47] #[4] false) 1 8 (Value.nilFunc) := ty_mk Try.underlying48 (by kernel_rfl)
theorem ty49 : Ty Try.prog 49 (.pointer 81) 1 8 (Value.pointer none) := ty_mk Try.underlying49 (by kernel_rfl)
theorem ty50 : Ty Try.prog 50 (.func #[39, 3] #[49] false) 1 8 (Value.nilFunc) := ty_mk Try.underlying50 (by kernel_rfl)
theorem ty51 : Ty Try.prog 51 (.pointer 55) 1 8 (Value.pointer none) := ty_mk Try.underlying51 (by kernel_rfl)
theorem ty52 : Ty Try.prog 52 (.func #[39, 3] #[51] false) 1 8 (Value.nilFunc) := ty_mk Try.underlying52 (by kernel_rfl)
theorem ty53 : Ty Try.prog 53 (.func #[] #[39] false) 1 8 (Value.nilFunc) := ty_mk Try.underlying53 (by kernel_rfl)
theorem ty54 : Ty Try.prog 54 (.struct #[⟨"Seed", 39, 0, false, "", "", 0⟩, ⟨"L", 26, 32, false, "", "", 32⟩, ⟨"Pub", 39, 33, false, "", "", 56⟩, ⟨"N", 3, 65, false, "", "", 88⟩]) 66 96 (.agg ((ints .u8 (List.replicate 32 0)) ++ [Value.slice none 0 0] ++ (ints .u8 (List.replicate 32 0)) ++ [Value.int .i64 0] : List Value).toArray) := ty_mk Try.underlying54 (by kernel_rfl)
theorem ty55 : Ty Try.prog 55 (.struct #[⟨"Seed", 39, 0, false, "", "", 0⟩, ⟨"L", 26, 32, false, "", "", 32⟩, ⟨"Pub", 39, 33, false, "", "", 56⟩, ⟨"N", 3, 65, false, "", "", 88⟩]) 66 96 (.agg ((ints .u8 (List.replicate 32 0)) ++ [Value.slice none 0 0] ++ (ints .u8 (List.replicate 32 0)) ++ [Value.int .i64 0] : List Value).toArray) := ty_mk Try.underlying55 (by kernel_rfl)
theorem ty56 : Ty Try.prog 56 (.int .i64) 1 8 (Value.int .i64 0) := ty_mk Try.underlying56 (by kernel_rfl)
theorem ty58 : Ty Try.prog 58 (.func #[22] #[42, 56] false) 1 8 (Value.nilFunc) := ty_mk Try.underlying58 (by kernel_rfl)
theorem ty60 : Ty Try.prog 60 (.func #[22] #[42, 3] false) 1 8 (Value.nilFunc) := ty_mk Try.underlying60 (by kernel_rfl)
theorem ty61 : Ty Try.prog 61 (.func #[42, 42] #[4] false) 1 8 (Value.nilFunc) := ty_mk Try.underlying61 (by kernel_rfl)
theorem ty62 : Ty Try.prog 62 (.func #[] #[3] false) 1 8 (Value.nilFunc) := ty_mk Try.underlying62 (by kernel_rfl)
theorem ty63 : Ty Try.prog 63 (.func #[39, 3, 47] #[4] false) 1 8 (Value.nilFunc) := ty_mk Try.underlying63 (by kernel_rfl)
theorem ty64 : Ty Try.prog 64 (.func #[22] #[4] false) 1 8 (Value.nilFunc) := ty_mk Try.underlying64 (by kernel_rfl)
theorem ty65 : Ty Try.prog 65 (.func #[39, 3, 22] #[4] false) 1 8 (Value.nilFunc) := ty_mk Try.underlying65 (by kernel_rfl)
theorem ty66 : Ty Try.prog 66 (.func #[42] #[4] false) 1 8 (Value.nilFunc) := ty_mk Try.underlying66 (by kernel_rfl)
theorem ty67 : Ty Try.prog 67 (.func #[39, 22, 42] #[4] false) 1 8 (Value.nilFunc) := ty_mk Try.underlying67 (by kernel_rfl)
theorem ty68 : Ty Try.prog 68 (.func #[39, 22, 3, 3, 5] #[4] false) 1 8 (Value.nilFunc) := ty_mk Try.underlying68 (by kernel_rfl)
theorem ty69 : Ty Try.prog 69 (.func #[39, 22, 42, 42] #[4] false) 1 8 (Value.nilFunc) := ty_mk Try.underlying69 (by kernel_rfl)
theorem ty71 : Ty Try.prog 71 (.func #[42] #[22, 56] false) 1 8 (Value.nilFunc) := ty_mk Try.underlying71 (by kernel_rfl)
theorem ty73 : Ty Try.prog 73 (.func #[42] #[22, 3] false) 1 8 (Value.nilFunc) := ty_mk Try.underlying73 (by kernel_rfl)
theorem ty74 : Ty Try.prog 74 (.func #[42, 22] #[4] false) 1 8 (Value.nilFunc) := ty_mk Try.underlying74 (by kernel_rfl)
theorem ty75 : Ty Try.prog 75 (.func #[39, 22, 3, 22] #[4] false) 1 8 (Value.nilFunc) := ty_mk Try.underlying75 (by kernel_rfl)
theorem ty76 : Ty Try.prog 76 (.func #[39, 3, 22, 22] #[4] false) 1 8 (Value.nilFunc) := ty_mk Try.underlying76 (by kernel_rfl)
theorem ty77 : Ty Try.prog 77 (.func #[44] #[4] false) 1 8 (Value.nilFunc) := ty_mk Try.underlying77 (by kernel_rfl)
theorem ty78 : Ty Try.prog 78 (.func #[26, 39] #[4] false) 1 8 (Value.nilFunc) := ty_mk Try.underlying78 (by kernel_rfl)
theorem ty79 : Ty Try.prog 79 (.func #[23, 77] #[4] false) 1 8 (Value.nilFunc) := ty_mk Try.underlying79 (by kernel_rfl)
theorem ty80 : Ty Try.prog 80 (.struct #[⟨"seed", 39, 0, false, "", "ostler/key", 0⟩, ⟨"leaves", 26, 32, false, "", "ostler/key", 32⟩, ⟨"used", 3, 33, false, "", "ostler/key", 56⟩]) 34 64 (.agg ((ints .u8 (List.replicate 32 0)) ++ [Value.slice none 0 0, Value.int .i64 0] : List Value).toArray) := ty_mk Try.underlying80 (by kernel_rfl)
theorem ty81 : Ty Try.prog 81 (.struct #[⟨"seed", 39, 0, false, "", "ostler/key", 0⟩, ⟨"leaves", 26, 32, false, "", "ostler/key", 32⟩, ⟨"used", 3, 33, false, "", "ostler/key", 56⟩]) 34 64 (.agg ((ints .u8 (List.replicate 32 0)) ++ [Value.slice none 0 0, Value.int .i64 0] : List Value).toArray) := ty_mk Try.underlying81 (by kernel_rfl)
theorem ty82 : Ty Try.prog 82 (.func #[39, 3] #[39] false) 1 8 (Value.nilFunc) := ty_mk Try.underlying82 (by kernel_rfl)
theorem ty83 : Ty Try.prog 83 (.func #[39] #[39] false) 1 8 (Value.nilFunc) := ty_mk Try.underlying83 (by kernel_rfl)
theorem ty84 : Ty Try.prog 84 (.func #[26] #[39] false) 1 8 (Value.nilFunc) := ty_mk Try.underlying84 (by kernel_rfl)
theorem ty85 : Ty Try.prog 85 (.func #[39, 3, 22] #[26] false) 1 8 (Value.nilFunc) := ty_mk Try.underlying85 (by kernel_rfl)
theorem ty86 : Ty Try.prog 86 (.func #[26, 3] #[26] false) 1 8 (Value.nilFunc) := ty_mk Try.underlying86 (by kernel_rfl)
theorem ty88 : Ty Try.prog 88 (.func #[22, 26] #[39, 4] false) 1 8 (Value.nilFunc) := ty_mk Try.underlying88 (by kernel_rfl)
theorem ty89 : Ty Try.prog 89 (.func #[39, 3, 26] #[39] false) 1 8 (Value.nilFunc) := ty_mk Try.underlying89 (by kernel_rfl)
theorem ty90 : Ty Try.prog 90 (.struct #[⟨"b", 22, 0, false, "", "ostler/octet", 0⟩]) 1 24 (.agg ([Value.slice none 0 0] : List Value).toArray) := ty_mk Try.underlying90 (by kernel_rfl)
theorem ty91 : Ty Try.prog 91 (.struct #[⟨"b", 22, 0, false, "", "ostler/octet", 0⟩]) 1 24 (.agg ([Value.slice none 0 0] : List Value).toArray) := ty_mk Try.underlying91 (by kernel_rfl)
theorem ty92 : Ty Try.prog 92 (.func #[120] #[] true) 1 8 (Value.nilFunc) := ty_mk Try.underlying92 (by kernel_rfl)
theorem ty93 : Ty Try.prog 93 (.func #[122] #[26] true) 1 8 (Value.nilFunc) := ty_mk Try.underlying93 (by kernel_rfl)
theorem ty94 : Ty Try.prog 94 (.func #[22] #[] true) 1 8 (Value.nilFunc) := ty_mk Try.underlying94 (by kernel_rfl)
theorem ty95 : Ty Try.prog 95 (.func #[] #[22] false) 1 8 (Value.nilFunc) := ty_mk Try.underlying95 (by kernel_rfl)
theorem ty96 : Ty Try.prog 96 (.func #[3] #[22] false) 1 8 (Value.nilFunc) := ty_mk Try.underlying96 (by kernel_rfl)
theorem ty97 : Ty Try.prog 97 (.pointer 125) 1 8 (Value.pointer none) := ty_mk Try.underlying97 (by kernel_rfl)
theorem ty98 : Ty Try.prog 98 (.func #[22] #[97] false) 1 8 (Value.nilFunc) := ty_mk Try.underlying98 (by kernel_rfl)
theorem ty99 : Ty Try.prog 99 (.func #[97, 3] #[26] false) 1 8 (Value.nilFunc) := ty_mk Try.underlying99 (by kernel_rfl)
theorem ty100 : Ty Try.prog 100 (.pointer 102) 1 8 (Value.pointer none) := ty_mk Try.underlying100 (by kernel_rfl)
theorem ty101 : Ty Try.prog 101 (.struct #[⟨"B", 22, 0, false, "", "", 0⟩, ⟨"E", 4, 1, false, "", "", 24⟩]) 2 32 (.agg ([Value.slice none 0 0, Value.bool false] : List Value).toArray) := ty_mk Try.underlying101 (by kernel_rfl)
theorem ty102 : Ty Try.prog 102 (.struct #[⟨"B", 22, 0, false, "", "", 0⟩, ⟨"E", 4, 1, false, "", "", 24⟩]) 2 32 (.agg ([Value.slice none 0 0, Value.bool false] : List Value).toArray) := ty_mk Try.underlying102 (by kernel_rfl)
theorem ty103 : Ty Try.prog 103 (.func #[100] #[39] false) 1 8 (Value.nilFunc) := ty_mk Try.underlying103 (by kernel_rfl)
theorem ty104 : Ty Try.prog 104 (.func #[26, 39] #[3] false) 1 8 (Value.nilFunc) := ty_mk Try.underlying104 (by kernel_rfl)
theorem ty105 : Ty Try.prog 105 (.func #[23, 77] #[3] false) 1 8 (Value.nilFunc) := ty_mk Try.underlying105 (by kernel_rfl)
theorem ty106 : Ty Try.prog 106 (.func #[107] #[39] false) 1 8 (Value.nilFunc) := ty_mk Try.underlying106 (by kernel_rfl)
theorem ty107 : Ty Try.prog 107 (.func #[3] #[39] false) 1 8 (Value.nilFunc) := ty_mk Try.underlying107 (by kernel_rfl)
theorem ty108 : Ty Try.prog 108 (.struct #[⟨"seed", 39, 0, false, "", "ostler/ots", 0⟩, ⟨"n", 3, 32, false, "", "ostler/ots", 32⟩]) 33 40 (.agg ((ints .u8 (List.replicate 32 0)) ++ [Value.int .i64 0] : List Value).toArray) := ty_mk Try.underlying108 (by kernel_rfl)
theorem ty109 : Ty Try.prog 109 (.struct #[⟨"seed", 39, 0, false, "", "ostler/ots", 0⟩, ⟨"n", 3, 32, false, "", "ostler/ots", 32⟩]) 33 40 (.agg ((ints .u8 (List.replicate 32 0)) ++ [Value.int .i64 0] : List Value).toArray) := ty_mk Try.underlying109 (by kernel_rfl)
theorem ty110 : Ty Try.prog 110 (.func #[39, 3, 3, 3] #[39] false) 1 8 (Value.nilFunc) := ty_mk Try.underlying110 (by kernel_rfl)
theorem ty111 : Ty Try.prog 111 (.func #[39, 3, 3] #[39] false) 1 8 (Value.nilFunc) := ty_mk Try.underlying111 (by kernel_rfl)
theorem ty112 : Ty Try.prog 112 (.func #[22] #[39] false) 1 8 (Value.nilFunc) := ty_mk Try.underlying112 (by kernel_rfl)
theorem ty113 : Ty Try.prog 113 (.func #[3] #[3] false) 1 8 (Value.nilFunc) := ty_mk Try.underlying113 (by kernel_rfl)
theorem ty114 : Ty Try.prog 114 (.func #[39, 39] #[39] false) 1 8 (Value.nilFunc) := ty_mk Try.underlying114 (by kernel_rfl)
theorem ty115 : Ty Try.prog 115 (.array 36 3) 36 288 (.agg (ints .i64 (List.replicate 36 0) : List Value).toArray) := ty_mk Try.underlying115 (by kernel_rfl)
theorem ty116 : Ty Try.prog 116 (.func #[22] #[115] false) 1 8 (Value.nilFunc) := ty_mk Try.underlying116 (by kernel_rfl)
theorem ty117 : Ty Try.prog 117 (.struct #[⟨"digits", 115, 0, false, "", "ostler/ots", 0⟩, ⟨"chains", 26, 36, false, "", "ostler/ots", 288⟩]) 37 312 (.agg ((ints .i64 (List.replicate 36 0)) ++ [Value.slice none 0 0] : List Value).toArray) := ty_mk Try.underlying117 (by kernel_rfl)
theorem ty118 : Ty Try.prog 118 (.struct #[⟨"digits", 115, 0, false, "", "ostler/ots", 0⟩, ⟨"chains", 26, 36, false, "", "ostler/ots", 288⟩]) 37 312 (.agg ((ints .i64 (List.replicate 36 0)) ++ [Value.slice none 0 0] : List Value).toArray) := ty_mk Try.underlying118 (by kernel_rfl)
theorem ty119 : Ty Try.prog 119 (.pointer 91) 1 8 (Value.pointer none) := ty_mk Try.underlying119 (by kernel_rfl)
theorem ty120 : Ty Try.prog 120 (.slice 3) 1 24 (Value.slice none 0 0) := ty_mk Try.underlying120 (by kernel_rfl)
theorem ty121 : Ty Try.prog 121 (.int .u64) 1 8 (Value.int .u64 0) := ty_mk Try.underlying121 (by kernel_rfl)
theorem ty122 : Ty Try.prog 122 (.slice 26) 1 24 (Value.slice none 0 0) := ty_mk Try.underlying122 (by kernel_rfl)
theorem ty123 : Ty Try.prog 123 (.func #[22] #[22] false) 1 8 (Value.nilFunc) := ty_mk Try.underlying123 (by kernel_rfl)
theorem ty124 : Ty Try.prog 124 (.struct #[⟨"rest", 22, 0, false, "", "ostler/octet", 0⟩, ⟨"bad", 4, 1, false, "", "ostler/octet", 24⟩]) 2 32 (.agg ([Value.slice none 0 0, Value.bool false] : List Value).toArray) := ty_mk Try.underlying124 (by kernel_rfl)
theorem ty125 : Ty Try.prog 125 (.struct #[⟨"rest", 22, 0, false, "", "ostler/octet", 0⟩, ⟨"bad", 4, 1, false, "", "ostler/octet", 24⟩]) 2 32 (.agg ([Value.slice none 0 0, Value.bool false] : List Value).toArray) := ty_mk Try.underlying125 (by kernel_rfl)
theorem ty126 : Ty Try.prog 126 (.int .u32) 1 4 (Value.int .u32 0) := ty_mk Try.underlying126 (by kernel_rfl)
theorem ty127 : Ty Try.prog 127 (.array 8 126) 8 32 (.agg (ints .u32 (List.replicate 8 0) : List Value).toArray) := ty_mk Try.underlying127 (by kernel_rfl)
theorem ty128 : Ty Try.prog 128 (.array 64 126) 64 256 (.agg (ints .u32 (List.replicate 64 0) : List Value).toArray) := ty_mk Try.underlying128 (by kernel_rfl)
theorem ty129 : Ty Try.prog 129 (.func #[] #[128] false) 1 8 (Value.nilFunc) := ty_mk Try.underlying129 (by kernel_rfl)
theorem ty130 : Ty Try.prog 130 (.func #[127, 22, 131] #[127] false) 1 8 (Value.nilFunc) := ty_mk Try.underlying130 (by kernel_rfl)
theorem ty131 : Ty Try.prog 131 (.pointer 128) 1 8 (Value.pointer none) := ty_mk Try.underlying131 (by kernel_rfl)
theorem ty132 : Ty Try.prog 132 (.array 8 126) 8 32 (.agg (ints .u32 (List.replicate 8 0) : List Value).toArray) := ty_mk Try.underlying132 (by kernel_rfl)
theorem ty133 : Ty Try.prog 133 (.func #[22, 131] #[] false) 1 8 (Value.nilFunc) := ty_mk Try.underlying133 (by kernel_rfl)
theorem ty134 : Ty Try.prog 134 (.array 128 5) 128 128 (.agg (ints .u8 (List.replicate 128 0) : List Value).toArray) := ty_mk Try.underlying134 (by kernel_rfl)
theorem ty135 : Ty Try.prog 135 (.func #[37] #[3] false) 1 8 (Value.nilFunc) := ty_mk Try.underlying135 (by kernel_rfl)
theorem ty136 : Ty Try.prog 136 (.func #[126, 37] #[126] false) 1 8 (Value.nilFunc) := ty_mk Try.underlying136 (by kernel_rfl)
theorem ty137 : Ty Try.prog 137 (.pointer 132) 1 8 (Value.pointer none) := ty_mk Try.underlying137 (by kernel_rfl)
theorem ty138 : Ty Try.prog 138 (.func #[126] #[126] false) 1 8 (Value.nilFunc) := ty_mk Try.underlying138 (by kernel_rfl)
theorem ty139 : Ty Try.prog 139 (.func #[126, 126, 126] #[126] false) 1 8 (Value.nilFunc) := ty_mk Try.underlying139 (by kernel_rfl)
theorem ty140 : Ty Try.prog 140 (.func #[126] #[3] false) 1 8 (Value.nilFunc) := ty_mk Try.underlying140 (by kernel_rfl)
theorem ty141 : Ty Try.prog 141 (.func #[121] #[3] false) 1 8 (Value.nilFunc) := ty_mk Try.underlying141 (by kernel_rfl)
theorem ty142 : Ty Try.prog 142 (.func #[] #[9] false) 1 8 (Value.nilFunc) := ty_mk Try.underlying142 (by kernel_rfl)
theorem ty143 : Ty Try.prog 143 (.struct #[⟨"_interface", 17, 0, false, "", "runtime", 0⟩, ⟨"concrete", 17, 1, false, "", "runtime", 8⟩, ⟨"asserted", 17, 2, false, "", "runtime", 16⟩, ⟨"missingMethod", 9, 3, false, "", "runtime", 24⟩]) 4 40 (.agg ([Value.pointer none, Value.pointer none, Value.pointer none, Value.string ⟨#[]⟩] : List Value).toArray) := ty_mk Try.underlying143 (by kernel_rfl)
theorem ty144 : Ty Try.prog 144 (.struct #[⟨"_interface", 17, 0, false, "", "runtime", 0⟩, ⟨"concrete", 17, 1, false, "", "runtime", 8⟩, ⟨"asserted", 17, 2, false, "", "runtime", 16⟩, ⟨"missingMethod", 9, 3, false, "", "runtime", 24⟩]) 4 40 (.agg ([Value.pointer none, Value.pointer none, Value.pointer none, Value.string ⟨#[]⟩] : List Value).toArray) := ty_mk Try.underlying144 (by kernel_rfl)
theorem ty145 : Ty Try.prog 145 (.array 0 16) 0 0 (.agg ([] : List Value).toArray) := ty_mk Try.underlying145 (by kernel_rfl)
theorem ty146 : Ty Try.prog 146 (.struct #[⟨"_", 145, 0, false, "", "runtime", 0⟩]) 0 0 (.agg ([] : List Value).toArray) := ty_mk Try.underlying146 (by kernel_rfl)
theorem ty147 : Ty Try.prog 147 (.struct #[⟨"_", 145, 0, false, "", "runtime", 0⟩]) 0 0 (.agg ([] : List Value).toArray) := ty_mk Try.underlying147 (by kernel_rfl)
theorem ty148 : Ty Try.prog 148 (.int .u8) 1 1 (Value.int .u8 0) := ty_mk Try.underlying148 (by kernel_rfl)
theorem ty149 : Ty Try.prog 149 (.int .u8) 1 1 (Value.int .u8 0) := ty_mk Try.underlying149 (by kernel_rfl)
theorem ty150 : Ty Try.prog 150 (.func #[157, 157] #[4] false) 1 8 (Value.nilFunc) := ty_mk Try.underlying150 (by kernel_rfl)
theorem ty151 : Ty Try.prog 151 (.pointer 5) 1 8 (Value.pointer none) := ty_mk Try.underlying151 (by kernel_rfl)
theorem ty152 : Ty Try.prog 152 (.int .i32) 1 4 (Value.int .i32 0) := ty_mk Try.underlying152 (by kernel_rfl)
theorem ty153 : Ty Try.prog 153 (.int .i32) 1 4 (Value.int .i32 0) := ty_mk Try.underlying153 (by kernel_rfl)
theorem ty154 : Ty Try.prog 154 (.struct #[⟨"Size_", 12, 0, false, "", "", 0⟩, ⟨"PtrBytes", 12, 1, false, "", "", 8⟩, ⟨"Hash", 126, 2, false, "", "", 16⟩, ⟨"TFlag", 148, 3, false, "", "", 20⟩, ⟨"Align_", 5, 4, false, "", "", 21⟩, ⟨"FieldAlign_", 5, 5, false, "", "", 22⟩, ⟨"Kind_", 149, 6, false, "", "", 23⟩, ⟨"Equal", 150, 7, false, "", "", 24⟩, ⟨"GCData", 151, 8, false, "", "", 32⟩, ⟨"Str", 152, 9, false, "", "", 40⟩, ⟨"PtrToThis", 153, 10, false, "", "", 44⟩]) 11 48 (.agg ([Value.int .u64 0, Value.int .u64 0, Value.int .u32 0, Value.int .u8 0, Value.int .u8 0, Value.int .u8 0, Value.int .u8 0, Value.nilFunc, Value.pointer none, Value.int .i32 0, Value.int .i32 0] : List Value).toArray) := ty_mk Try.underlying154 (by kernel_rfl)
theorem ty155 : Ty Try.prog 155 (.struct #[⟨"Size_", 12, 0, false, "", "", 0⟩, ⟨"PtrBytes", 12, 1, false, "", "", 8⟩, ⟨"Hash", 126, 2, false, "", "", 16⟩, ⟨"TFlag", 148, 3, false, "", "", 20⟩, ⟨"Align_", 5, 4, false, "", "", 21⟩, ⟨"FieldAlign_", 5, 5, false, "", "", 22⟩, ⟨"Kind_", 149, 6, false, "", "", 23⟩, ⟨"Equal", 150, 7, false, "", "", 24⟩, ⟨"GCData", 151, 8, false, "", "", 32⟩, ⟨"Str", 152, 9, false, "", "", 40⟩, ⟨"PtrToThis", 153, 10, false, "", "", 44⟩]) 11 48 (.agg ([Value.int .u64 0, Value.int .u64 0, Value.int .u32 0, Value.int .u8 0, Value.int .u8 0, Value.int .u8 0, Value.int .u8 0, Value.nilFunc, Value.pointer none, Value.int .i32 0, Value.int .i32 0] : List Value).toArray) := ty_mk Try.underlying155 (by kernel_rfl)
theorem ty156 : Ty Try.prog 156 (.func #[47] #[] true) 1 8 (Value.nilFunc) := ty_mk Try.underlying156 (by kernel_rfl)
theorem eqg38 : Try.prog.eqGuardType Try.prog.depth 38 = false := by kernel_rfl
theorem eqg39 : Try.prog.eqGuardType Try.prog.depth 39 = false := by kernel_rfl
theorem eqg115 : Try.prog.eqGuardType Try.prog.depth 115 = false := by kernel_rfl
theorem eqg127 : Try.prog.eqGuardType Try.prog.depth 127 = false := by kernel_rfl
theorem eqg128 : Try.prog.eqGuardType Try.prog.depth 128 = false := by kernel_rfl
theorem eqg132 : Try.prog.eqGuardType Try.prog.depth 132 = false := by kernel_rfl
theorem eqg134 : Try.prog.eqGuardType Try.prog.depth 134 = false := by kernel_rfl
theorem has2 : Has Try.prog 2 := ⟨_, Try.func2, by kernel_rfl, rfl⟩
theorem has3 : Has Try.prog 3 := ⟨_, Try.func3, by kernel_rfl, rfl⟩
theorem has4 : Has Try.prog 4 := ⟨_, Try.func4, by kernel_rfl, rfl⟩
theorem has5 : Has Try.prog 5 := ⟨_, Try.func5, by kernel_rfl, rfl⟩
theorem has6 : Has Try.prog 6 := ⟨_, Try.func6, by kernel_rfl, rfl⟩
theorem has7 : Has Try.prog 7 := ⟨_, Try.func7, by kernel_rfl, rfl⟩
theorem has8 : Has Try.prog 8 := ⟨_, Try.func8, by kernel_rfl, rfl⟩
theorem has9 : Has Try.prog 9 := ⟨_, Try.func9, by kernel_rfl, rfl⟩
theorem has10 : Has Try.prog 10 := ⟨_, Try.func10, by kernel_rfl, rfl⟩
theorem has11 : Has Try.prog 11 := ⟨_, Try.func11, by kernel_rfl, rfl⟩
theorem has12 : Has Try.prog 12 := ⟨_, Try.func12, by kernel_rfl, rfl⟩
theorem has13 : Has Try.prog 13 := ⟨_, Try.func13, by kernel_rfl, rfl⟩
theorem has14 : Has Try.prog 14 := ⟨_, Try.func14, by kernel_rfl, rfl⟩
theorem has15 : Has Try.prog 15 := ⟨_, Try.func15, by kernel_rfl, rfl⟩
theorem has16 : Has Try.prog 16 := ⟨_, Try.func16, by kernel_rfl, rfl⟩
theorem has17 : Has Try.prog 17 := ⟨_, Try.func17, by kernel_rfl, rfl⟩
theorem has18 : Has Try.prog 18 := ⟨_, Try.func18, by kernel_rfl, rfl⟩
theorem has19 : Has Try.prog 19 := ⟨_, Try.func19, by kernel_rfl, rfl⟩
theorem has20 : Has Try.prog 20 := ⟨_, Try.func20, by kernel_rfl, rfl⟩
theorem has21 : Has Try.prog 21 := ⟨_, Try.func21, by kernel_rfl, rfl⟩
theorem has22 : Has Try.prog 22 := ⟨_, Try.func22, by kernel_rfl, rfl⟩
theorem has23 : Has Try.prog 23 := ⟨_, Try.func23, by kernel_rfl, rfl⟩
theorem has24 : Has Try.prog 24 := ⟨_, Try.func24, by kernel_rfl, rfl⟩
theorem has25 : Has Try.prog 25 := ⟨_, Try.func25, by kernel_rfl, rfl⟩
theorem has26 : Has Try.prog 26 := ⟨_, Try.func26, by kernel_rfl, rfl⟩
theorem has27 : Has Try.prog 27 := ⟨_, Try.func27, by kernel_rfl, rfl⟩
theorem has28 : Has Try.prog 28 := ⟨_, Try.func28, by kernel_rfl, rfl⟩
theorem has29 : Has Try.prog 29 := ⟨_, Try.func29, by kernel_rfl, rfl⟩
theorem has30 : Has Try.prog 30 := ⟨_, Try.func30, by kernel_rfl, rfl⟩
theorem has31 : Has Try.prog 31 := ⟨_, Try.func31, by kernel_rfl, rfl⟩
theorem has32 : Has Try.prog 32 := ⟨_, Try.func32, by kernel_rfl, rfl⟩
theorem has33 : Has Try.prog 33 := ⟨_, Try.func33, by kernel_rfl, rfl⟩
theorem has34 : Has Try.prog 34 := ⟨_, Try.func34, by kernel_rfl, rfl⟩
theorem has35 : Has Try.prog 35 := ⟨_, Try.func35, by kernel_rfl, rfl⟩
theorem has36 : Has Try.prog 36 := ⟨_, Try.func36, by kernel_rfl, rfl⟩
theorem has37 : Has Try.prog 37 := ⟨_, Try.func37, by kernel_rfl, rfl⟩
theorem has38 : Has Try.prog 38 := ⟨_, Try.func38, by kernel_rfl, rfl⟩
theorem has39 : Has Try.prog 39 := ⟨_, Try.func39, by kernel_rfl, rfl⟩
theorem has40 : Has Try.prog 40 := ⟨_, Try.func40, by kernel_rfl, rfl⟩
theorem has41 : Has Try.prog 41 := ⟨_, Try.func41, by kernel_rfl, rfl⟩
theorem has42 : Has Try.prog 42 := ⟨_, Try.func42, by kernel_rfl, rfl⟩
theorem has43 : Has Try.prog 43 := ⟨_, Try.func43, by kernel_rfl, rfl⟩
theorem has44 : Has Try.prog 44 := ⟨_, Try.func44, by kernel_rfl, rfl⟩
theorem has45 : Has Try.prog 45 := ⟨_, Try.func45, by kernel_rfl, rfl⟩
theorem has46 : Has Try.prog 46 := ⟨_, Try.func46, by kernel_rfl, rfl⟩
theorem has47 : Has Try.prog 47 := ⟨_, Try.func47, by kernel_rfl, rfl⟩
theorem has48 : Has Try.prog 48 := ⟨_, Try.func48, by kernel_rfl, rfl⟩
theorem has49 : Has Try.prog 49 := ⟨_, Try.func49, by kernel_rfl, rfl⟩
theorem has50 : Has Try.prog 50 := ⟨_, Try.func50, by kernel_rfl, rfl⟩
theorem has51 : Has Try.prog 51 := ⟨_, Try.func51, by kernel_rfl, rfl⟩
theorem has52 : Has Try.prog 52 := ⟨_, Try.func52, by kernel_rfl, rfl⟩
theorem has53 : Has Try.prog 53 := ⟨_, Try.func53, by kernel_rfl, rfl⟩
theorem has54 : Has Try.prog 54 := ⟨_, Try.func54, by kernel_rfl, rfl⟩
theorem has55 : Has Try.prog 55 := ⟨_, Try.func55, by kernel_rfl, rfl⟩
theorem has56 : Has Try.prog 56 := ⟨_, Try.func56, by kernel_rfl, rfl⟩
theorem has57 : Has Try.prog 57 := ⟨_, Try.func57, by kernel_rfl, rfl⟩
theorem has58 : Has Try.prog 58 := ⟨_, Try.func58, by kernel_rfl, rfl⟩
theorem has59 : Has Try.prog 59 := ⟨_, Try.func59, by kernel_rfl, rfl⟩
theorem has60 : Has Try.prog 60 := ⟨_, Try.func60, by kernel_rfl, rfl⟩
theorem has61 : Has Try.prog 61 := ⟨_, Try.func61, by kernel_rfl, rfl⟩
theorem has62 : Has Try.prog 62 := ⟨_, Try.func62, by kernel_rfl, rfl⟩
theorem has63 : Has Try.prog 63 := ⟨_, Try.func63, by kernel_rfl, rfl⟩
theorem has64 : Has Try.prog 64 := ⟨_, Try.func64, by kernel_rfl, rfl⟩
theorem has65 : Has Try.prog 65 := ⟨_, Try.func65, by kernel_rfl, rfl⟩
theorem has66 : Has Try.prog 66 := ⟨_, Try.func66, by kernel_rfl, rfl⟩
theorem has67 : Has Try.prog 67 := ⟨_, Try.func67, by kernel_rfl, rfl⟩
theorem has68 : Has Try.prog 68 := ⟨_, Try.func68, by kernel_rfl, rfl⟩
theorem has69 : Has Try.prog 69 := ⟨_, Try.func69, by kernel_rfl, rfl⟩
theorem has70 : Has Try.prog 70 := ⟨_, Try.func70, by kernel_rfl, rfl⟩
theorem has71 : Has Try.prog 71 := ⟨_, Try.func71, by kernel_rfl, rfl⟩
theorem has72 : Has Try.prog 72 := ⟨_, Try.func72, by kernel_rfl, rfl⟩
theorem has73 : Has Try.prog 73 := ⟨_, Try.func73, by kernel_rfl, rfl⟩
theorem has74 : Has Try.prog 74 := ⟨_, Try.func74, by kernel_rfl, rfl⟩
theorem has75 : Has Try.prog 75 := ⟨_, Try.func75, by kernel_rfl, rfl⟩
theorem has76 : Has Try.prog 76 := ⟨_, Try.func76, by kernel_rfl, rfl⟩
theorem has77 : Has Try.prog 77 := ⟨_, Try.func77, by kernel_rfl, rfl⟩
theorem has78 : Has Try.prog 78 := ⟨_, Try.func78, by kernel_rfl, rfl⟩
theorem has79 : Has Try.prog 79 := ⟨_, Try.func79, by kernel_rfl, rfl⟩
theorem has80 : Has Try.prog 80 := ⟨_, Try.func80, by kernel_rfl, rfl⟩
theorem has81 : Has Try.prog 81 := ⟨_, Try.func81, by kernel_rfl, rfl⟩
theorem has82 : Has Try.prog 82 := ⟨_, Try.func82, by kernel_rfl, rfl⟩
theorem has83 : Has Try.prog 83 := ⟨_, Try.func83, by kernel_rfl, rfl⟩
theorem has84 : Has Try.prog 84 := ⟨_, Try.func84, by kernel_rfl, rfl⟩
theorem has85 : Has Try.prog 85 := ⟨_, Try.func85, by kernel_rfl, rfl⟩
theorem has86 : Has Try.prog 86 := ⟨_, Try.func86, by kernel_rfl, rfl⟩
theorem has87 : Has Try.prog 87 := ⟨_, Try.func87, by kernel_rfl, rfl⟩
theorem has88 : Has Try.prog 88 := ⟨_, Try.func88, by kernel_rfl, rfl⟩
theorem has89 : Has Try.prog 89 := ⟨_, Try.func89, by kernel_rfl, rfl⟩
theorem has90 : Has Try.prog 90 := ⟨_, Try.func90, by kernel_rfl, rfl⟩
theorem has91 : Has Try.prog 91 := ⟨_, Try.func91, by kernel_rfl, rfl⟩
theorem has92 : Has Try.prog 92 := ⟨_, Try.func92, by kernel_rfl, rfl⟩
theorem has93 : Has Try.prog 93 := ⟨_, Try.func93, by kernel_rfl, rfl⟩
theorem has94 : Has Try.prog 94 := ⟨_, Try.func94, by kernel_rfl, rfl⟩
theorem has95 : Has Try.prog 95 := ⟨_, Try.func95, by kernel_rfl, rfl⟩
theorem has96 : Has Try.prog 96 := ⟨_, Try.func96, by kernel_rfl, rfl⟩
theorem has97 : Has Try.prog 97 := ⟨_, Try.func97, by kernel_rfl, rfl⟩
theorem has98 : Has Try.prog 98 := ⟨_, Try.func98, by kernel_rfl, rfl⟩
theorem has99 : Has Try.prog 99 := ⟨_, Try.func99, by kernel_rfl, rfl⟩
theorem has100 : Has Try.prog 100 := ⟨_, Try.func100, by kernel_rfl, rfl⟩
theorem has101 : Has Try.prog 101 := ⟨_, Try.func101, by kernel_rfl, rfl⟩
theorem has102 : Has Try.prog 102 := ⟨_, Try.func102, by kernel_rfl, rfl⟩
theorem has103 : Has Try.prog 103 := ⟨_, Try.func103, by kernel_rfl, rfl⟩
theorem has104 : Has Try.prog 104 := ⟨_, Try.func104, by kernel_rfl, rfl⟩
theorem has105 : Has Try.prog 105 := ⟨_, Try.func105, by kernel_rfl, rfl⟩
theorem has106 : Has Try.prog 106 := ⟨_, Try.func106, by kernel_rfl, rfl⟩
theorem has107 : Has Try.prog 107 := ⟨_, Try.func107, by kernel_rfl, rfl⟩
theorem has108 : Has Try.prog 108 := ⟨_, Try.func108, by kernel_rfl, rfl⟩
theorem has109 : Has Try.prog 109 := ⟨_, Try.func109, by kernel_rfl, rfl⟩
theorem has110 : Has Try.prog 110 := ⟨_, Try.func110, by kernel_rfl, rfl⟩
theorem has111 : Has Try.prog 111 := ⟨_, Try.func111, by kernel_rfl, rfl⟩
theorem has112 : Has Try.prog 112 := ⟨_, Try.func112, by kernel_rfl, rfl⟩
theorem pl7 : ∀ w, ((#[⟨"x", 2, 0, false, "", "runtime", 0⟩, ⟨"y", 3, 1, false, "", "runtime", 8⟩, ⟨"signed", 4, 2, false, "", "runtime", 16⟩, ⟨"code", 6, 3, false, "", "runtime", 17⟩] : Array Field).mapM fun f => (do pure (f.offset, ← sizeOf f.type) : Sem (Nat × Nat))).run Try.prog w = .ok #[(0, 1), (1, 1), (2, 1), (3, 1)] w := fun w => by
  simp [ty2.run_size, ty3.run_size, ty4.run_size, ty6.run_size]
theorem pl8 : ∀ w, ((#[⟨"x", 2, 0, false, "", "runtime", 0⟩, ⟨"y", 3, 1, false, "", "runtime", 8⟩, ⟨"signed", 4, 2, false, "", "runtime", 16⟩, ⟨"code", 6, 3, false, "", "runtime", 17⟩] : Array Field).mapM fun f => (do pure (f.offset, ← sizeOf f.type) : Sem (Nat × Nat))).run Try.prog w = .ok #[(0, 1), (1, 1), (2, 1), (3, 1)] w := fun w => by
  simp [ty2.run_size, ty3.run_size, ty4.run_size, ty6.run_size]
theorem pl13 : ∀ w, ((#[⟨"msg", 9, 0, false, "", "runtime", 0⟩, ⟨"addr", 12, 1, false, "", "runtime", 16⟩] : Array Field).mapM fun f => (do pure (f.offset, ← sizeOf f.type) : Sem (Nat × Nat))).run Try.prog w = .ok #[(0, 1), (1, 1)] w := fun w => by
  simp [ty12.run_size, ty9.run_size]
theorem pl14 : ∀ w, ((#[⟨"msg", 9, 0, false, "", "runtime", 0⟩, ⟨"addr", 12, 1, false, "", "runtime", 16⟩] : Array Field).mapM fun f => (do pure (f.offset, ← sizeOf f.type) : Sem (Nat × Nat))).run Try.prog w = .ok #[(0, 1), (1, 1)] w := fun w => by
  simp [ty12.run_size, ty9.run_size]
theorem pl18 : ∀ w, ((#[⟨"typ", 17, 0, false, "", "internal/runtime/maps", 0⟩] : Array Field).mapM fun f => (do pure (f.offset, ← sizeOf f.type) : Sem (Nat × Nat))).run Try.prog w = .ok #[(0, 1)] w := fun w => by
  simp [ty17.run_size]
theorem pl19 : ∀ w, ((#[⟨"typ", 17, 0, false, "", "internal/runtime/maps", 0⟩] : Array Field).mapM fun f => (do pure (f.offset, ← sizeOf f.type) : Sem (Nat × Nat))).run Try.prog w = .ok #[(0, 1)] w := fun w => by
  simp [ty17.run_size]
theorem pl24 : ∀ w, ((#[⟨"Body", 22, 0, false, "", "", 0⟩, ⟨"Marks", 23, 1, false, "", "", 24⟩] : Array Field).mapM fun f => (do pure (f.offset, ← sizeOf f.type) : Sem (Nat × Nat))).run Try.prog w = .ok #[(0, 1), (1, 1)] w := fun w => by
  simp [ty22.run_size, ty23.run_size]
theorem pl25 : ∀ w, ((#[⟨"Body", 22, 0, false, "", "", 0⟩, ⟨"Marks", 23, 1, false, "", "", 24⟩] : Array Field).mapM fun f => (do pure (f.offset, ← sizeOf f.type) : Sem (Nat × Nat))).run Try.prog w = .ok #[(0, 1), (1, 1)] w := fun w => by
  simp [ty22.run_size, ty23.run_size]
theorem pl27 : ∀ w, ((#[⟨"Keys", 26, 0, false, "", "", 0⟩, ⟨"Need", 3, 1, false, "", "", 24⟩] : Array Field).mapM fun f => (do pure (f.offset, ← sizeOf f.type) : Sem (Nat × Nat))).run Try.prog w = .ok #[(0, 1), (1, 1)] w := fun w => by
  simp [ty26.run_size, ty3.run_size]
theorem pl28 : ∀ w, ((#[⟨"Keys", 26, 0, false, "", "", 0⟩, ⟨"Need", 3, 1, false, "", "", 24⟩] : Array Field).mapM fun f => (do pure (f.offset, ← sizeOf f.type) : Sem (Nat × Nat))).run Try.prog w = .ok #[(0, 1), (1, 1)] w := fun w => by
  simp [ty26.run_size, ty3.run_size]
theorem pl41 : ∀ w, ((#[⟨"Leaf", 3, 0, false, "", "", 0⟩, ⟨"Chains", 26, 1, false, "", "", 8⟩, ⟨"Path", 26, 2, false, "", "", 32⟩] : Array Field).mapM fun f => (do pure (f.offset, ← sizeOf f.type) : Sem (Nat × Nat))).run Try.prog w = .ok #[(0, 1), (1, 1), (2, 1)] w := fun w => by
  simp [ty26.run_size, ty3.run_size]
theorem pl42 : ∀ w, ((#[⟨"Leaf", 3, 0, false, "", "", 0⟩, ⟨"Chains", 26, 1, false, "", "", 8⟩, ⟨"Path", 26, 2, false, "", "", 32⟩] : Array Field).mapM fun f => (do pure (f.offset, ← sizeOf f.type) : Sem (Nat × Nat))).run Try.prog w = .ok #[(0, 1), (1, 1), (2, 1)] w := fun w => by
  simp [ty26.run_size, ty3.run_size]
theorem pl43 : ∀ w, ((#[⟨"Key", 39, 0, false, "", "", 0⟩, ⟨"Sig", 42, 32, false, "", "", 32⟩] : Array Field).mapM fun f => (do pure (f.offset, ← sizeOf f.type) : Sem (Nat × Nat))).run Try.prog w = .ok #[(0, 32), (32, 3)] w := fun w => by
  simp [ty39.run_size, ty42.run_size]
theorem pl44 : ∀ w, ((#[⟨"Key", 39, 0, false, "", "", 0⟩, ⟨"Sig", 42, 32, false, "", "", 32⟩] : Array Field).mapM fun f => (do pure (f.offset, ← sizeOf f.type) : Sem (Nat × Nat))).run Try.prog w = .ok #[(0, 32), (32, 3)] w := fun w => by
  simp [ty39.run_size, ty42.run_size]
theorem pl54 : ∀ w, ((#[⟨"Seed", 39, 0, false, "", "", 0⟩, ⟨"L", 26, 32, false, "", "", 32⟩, ⟨"Pub", 39, 33, false, "", "", 56⟩, ⟨"N", 3, 65, false, "", "", 88⟩] : Array Field).mapM fun f => (do pure (f.offset, ← sizeOf f.type) : Sem (Nat × Nat))).run Try.prog w = .ok #[(0, 32), (32, 1), (33, 32), (65, 1)] w := fun w => by
  simp [ty26.run_size, ty3.run_size, ty39.run_size]
theorem pl55 : ∀ w, ((#[⟨"Seed", 39, 0, false, "", "", 0⟩, ⟨"L", 26, 32, false, "", "", 32⟩, ⟨"Pub", 39, 33, false, "", "", 56⟩, ⟨"N", 3, 65, false, "", "", 88⟩] : Array Field).mapM fun f => (do pure (f.offset, ← sizeOf f.type) : Sem (Nat × Nat))).run Try.prog w = .ok #[(0, 32), (32, 1), (33, 32), (65, 1)] w := fun w => by
  simp [ty26.run_size, ty3.run_size, ty39.run_size]
theorem pl80 : ∀ w, ((#[⟨"seed", 39, 0, false, "", "ostler/key", 0⟩, ⟨"leaves", 26, 32, false, "", "ostler/key", 32⟩, ⟨"used", 3, 33, false, "", "ostler/key", 56⟩] : Array Field).mapM fun f => (do pure (f.offset, ← sizeOf f.type) : Sem (Nat × Nat))).run Try.prog w = .ok #[(0, 32), (32, 1), (33, 1)] w := fun w => by
  simp [ty26.run_size, ty3.run_size, ty39.run_size]
theorem pl81 : ∀ w, ((#[⟨"seed", 39, 0, false, "", "ostler/key", 0⟩, ⟨"leaves", 26, 32, false, "", "ostler/key", 32⟩, ⟨"used", 3, 33, false, "", "ostler/key", 56⟩] : Array Field).mapM fun f => (do pure (f.offset, ← sizeOf f.type) : Sem (Nat × Nat))).run Try.prog w = .ok #[(0, 32), (32, 1), (33, 1)] w := fun w => by
  simp [ty26.run_size, ty3.run_size, ty39.run_size]
theorem pl90 : ∀ w, ((#[⟨"b", 22, 0, false, "", "ostler/octet", 0⟩] : Array Field).mapM fun f => (do pure (f.offset, ← sizeOf f.type) : Sem (Nat × Nat))).run Try.prog w = .ok #[(0, 1)] w := fun w => by
  simp [ty22.run_size]
theorem pl91 : ∀ w, ((#[⟨"b", 22, 0, false, "", "ostler/octet", 0⟩] : Array Field).mapM fun f => (do pure (f.offset, ← sizeOf f.type) : Sem (Nat × Nat))).run Try.prog w = .ok #[(0, 1)] w := fun w => by
  simp [ty22.run_size]
theorem pl101 : ∀ w, ((#[⟨"B", 22, 0, false, "", "", 0⟩, ⟨"E", 4, 1, false, "", "", 24⟩] : Array Field).mapM fun f => (do pure (f.offset, ← sizeOf f.type) : Sem (Nat × Nat))).run Try.prog w = .ok #[(0, 1), (1, 1)] w := fun w => by
  simp [ty22.run_size, ty4.run_size]
theorem pl102 : ∀ w, ((#[⟨"B", 22, 0, false, "", "", 0⟩, ⟨"E", 4, 1, false, "", "", 24⟩] : Array Field).mapM fun f => (do pure (f.offset, ← sizeOf f.type) : Sem (Nat × Nat))).run Try.prog w = .ok #[(0, 1), (1, 1)] w := fun w => by
  simp [ty22.run_size, ty4.run_size]
theorem pl108 : ∀ w, ((#[⟨"seed", 39, 0, false, "", "ostler/ots", 0⟩, ⟨"n", 3, 32, false, "", "ostler/ots", 32⟩] : Array Field).mapM fun f => (do pure (f.offset, ← sizeOf f.type) : Sem (Nat × Nat))).run Try.prog w = .ok #[(0, 32), (32, 1)] w := fun w => by
  simp [ty3.run_size, ty39.run_size]
theorem pl109 : ∀ w, ((#[⟨"seed", 39, 0, false, "", "ostler/ots", 0⟩, ⟨"n", 3, 32, false, "", "ostler/ots", 32⟩] : Array Field).mapM fun f => (do pure (f.offset, ← sizeOf f.type) : Sem (Nat × Nat))).run Try.prog w = .ok #[(0, 32), (32, 1)] w := fun w => by
  simp [ty3.run_size, ty39.run_size]
theorem pl117 : ∀ w, ((#[⟨"digits", 115, 0, false, "", "ostler/ots", 0⟩, ⟨"chains", 26, 36, false, "", "ostler/ots", 288⟩] : Array Field).mapM fun f => (do pure (f.offset, ← sizeOf f.type) : Sem (Nat × Nat))).run Try.prog w = .ok #[(0, 36), (36, 1)] w := fun w => by
  simp [ty115.run_size, ty26.run_size]
theorem pl118 : ∀ w, ((#[⟨"digits", 115, 0, false, "", "ostler/ots", 0⟩, ⟨"chains", 26, 36, false, "", "ostler/ots", 288⟩] : Array Field).mapM fun f => (do pure (f.offset, ← sizeOf f.type) : Sem (Nat × Nat))).run Try.prog w = .ok #[(0, 36), (36, 1)] w := fun w => by
  simp [ty115.run_size, ty26.run_size]
theorem pl124 : ∀ w, ((#[⟨"rest", 22, 0, false, "", "ostler/octet", 0⟩, ⟨"bad", 4, 1, false, "", "ostler/octet", 24⟩] : Array Field).mapM fun f => (do pure (f.offset, ← sizeOf f.type) : Sem (Nat × Nat))).run Try.prog w = .ok #[(0, 1), (1, 1)] w := fun w => by
  simp [ty22.run_size, ty4.run_size]
theorem pl125 : ∀ w, ((#[⟨"rest", 22, 0, false, "", "ostler/octet", 0⟩, ⟨"bad", 4, 1, false, "", "ostler/octet", 24⟩] : Array Field).mapM fun f => (do pure (f.offset, ← sizeOf f.type) : Sem (Nat × Nat))).run Try.prog w = .ok #[(0, 1), (1, 1)] w := fun w => by
  simp [ty22.run_size, ty4.run_size]
theorem pl143 : ∀ w, ((#[⟨"_interface", 17, 0, false, "", "runtime", 0⟩, ⟨"concrete", 17, 1, false, "", "runtime", 8⟩, ⟨"asserted", 17, 2, false, "", "runtime", 16⟩, ⟨"missingMethod", 9, 3, false, "", "runtime", 24⟩] : Array Field).mapM fun f => (do pure (f.offset, ← sizeOf f.type) : Sem (Nat × Nat))).run Try.prog w = .ok #[(0, 1), (1, 1), (2, 1), (3, 1)] w := fun w => by
  simp [ty17.run_size, ty9.run_size]
theorem pl144 : ∀ w, ((#[⟨"_interface", 17, 0, false, "", "runtime", 0⟩, ⟨"concrete", 17, 1, false, "", "runtime", 8⟩, ⟨"asserted", 17, 2, false, "", "runtime", 16⟩, ⟨"missingMethod", 9, 3, false, "", "runtime", 24⟩] : Array Field).mapM fun f => (do pure (f.offset, ← sizeOf f.type) : Sem (Nat × Nat))).run Try.prog w = .ok #[(0, 1), (1, 1), (2, 1), (3, 1)] w := fun w => by
  simp [ty17.run_size, ty9.run_size]
theorem pl146 : ∀ w, ((#[⟨"_", 145, 0, false, "", "runtime", 0⟩] : Array Field).mapM fun f => (do pure (f.offset, ← sizeOf f.type) : Sem (Nat × Nat))).run Try.prog w = .ok #[(0, 0)] w := fun w => by
  simp [ty145.run_size]
theorem pl147 : ∀ w, ((#[⟨"_", 145, 0, false, "", "runtime", 0⟩] : Array Field).mapM fun f => (do pure (f.offset, ← sizeOf f.type) : Sem (Nat × Nat))).run Try.prog w = .ok #[(0, 0)] w := fun w => by
  simp [ty145.run_size]
theorem pl154 : ∀ w, ((#[⟨"Size_", 12, 0, false, "", "", 0⟩, ⟨"PtrBytes", 12, 1, false, "", "", 8⟩, ⟨"Hash", 126, 2, false, "", "", 16⟩, ⟨"TFlag", 148, 3, false, "", "", 20⟩, ⟨"Align_", 5, 4, false, "", "", 21⟩, ⟨"FieldAlign_", 5, 5, false, "", "", 22⟩, ⟨"Kind_", 149, 6, false, "", "", 23⟩, ⟨"Equal", 150, 7, false, "", "", 24⟩, ⟨"GCData", 151, 8, false, "", "", 32⟩, ⟨"Str", 152, 9, false, "", "", 40⟩, ⟨"PtrToThis", 153, 10, false, "", "", 44⟩] : Array Field).mapM fun f => (do pure (f.offset, ← sizeOf f.type) : Sem (Nat × Nat))).run Try.prog w = .ok #[(0, 1), (1, 1), (2, 1), (3, 1), (4, 1), (5, 1), (6, 1), (7, 1), (8, 1), (9, 1), (10, 1)] w := fun w => by
  simp [ty12.run_size, ty126.run_size, ty148.run_size, ty149.run_size, ty150.run_size, ty151.run_size, ty152.run_size, ty153.run_size, ty5.run_size]
theorem pl155 : ∀ w, ((#[⟨"Size_", 12, 0, false, "", "", 0⟩, ⟨"PtrBytes", 12, 1, false, "", "", 8⟩, ⟨"Hash", 126, 2, false, "", "", 16⟩, ⟨"TFlag", 148, 3, false, "", "", 20⟩, ⟨"Align_", 5, 4, false, "", "", 21⟩, ⟨"FieldAlign_", 5, 5, false, "", "", 22⟩, ⟨"Kind_", 149, 6, false, "", "", 23⟩, ⟨"Equal", 150, 7, false, "", "", 24⟩, ⟨"GCData", 151, 8, false, "", "", 32⟩, ⟨"Str", 152, 9, false, "", "", 40⟩, ⟨"PtrToThis", 153, 10, false, "", "", 44⟩] : Array Field).mapM fun f => (do pure (f.offset, ← sizeOf f.type) : Sem (Nat × Nat))).run Try.prog w = .ok #[(0, 1), (1, 1), (2, 1), (3, 1), (4, 1), (5, 1), (6, 1), (7, 1), (8, 1), (9, 1), (10, 1)] w := fun w => by
  simp [ty12.run_size, ty126.run_size, ty148.run_size, ty149.run_size, ty150.run_size, ty151.run_size, ty152.run_size, ty153.run_size, ty5.run_size]
end Go.Proofs.Yteedclmcgifmpaa
