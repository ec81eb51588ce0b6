/- Pure Go: closed calls, run by the kernel (written by a program of this seat's prover). -/
import Derived.Test.YtajaenkdllfidaaGreatDoorM1
import Derived.Test.YtajaenkdllfidaaGreatDoorPg3
import Derived.KernelRfl
set_option maxRecDepth 1000000
namespace Go.K18
open Go Go.PG
/-- orchestrator/orchestratorlaw18.KindsValid (3628) -/
def e1962 : List V × V := ([(.d (.int .i64 2))], (.d (.bool true)))
theorem k1962 : callL (prgOf fns hks) 7 e1962.1 [] = some (e1962.2, [], []) := Fast.run_known (t := (.node 41 [e1935, e1953] (.node 19 [e1945] (.node 10 [e1238] (.node 8 [e1373] .nil .nil) .nil) (.node 40 [e1928] .nil .nil)) (.node 122 [e1298, e1478, e1516, e1897] (.node 120 [e1437, e1533, e1823, e1828, e1840] (.node 43 [e1958] .nil .nil) .nil) (.node 177 [e1264] .nil .nil)))) ⟨⟨k1935, k1953, trivial⟩, ⟨⟨k1945, trivial⟩, ⟨⟨k1238, trivial⟩, ⟨⟨k1373, trivial⟩, trivial, trivial⟩, trivial⟩, ⟨⟨k1928, trivial⟩, trivial, trivial⟩⟩, ⟨⟨k1298, k1478, k1516, k1897, trivial⟩, ⟨⟨k1437, k1533, k1823, k1828, k1840, trivial⟩, ⟨⟨k1958, trivial⟩, trivial, trivial⟩, trivial⟩, ⟨⟨k1264, trivial⟩, trivial, trivial⟩⟩⟩ (n := 3000) (by kernel_rfl)
def zd135 : List (List D) := [[(.str [100, 101, 97, 100, 108, 105, 110, 101]), (.int .i64 0), (.int .i64 0), (.str []), (.sl []), (.sl [])]]
/-- orchestrator/value.Valid (556) -/
def e1967 : List V × V := ([(.agg [(.d (.int .i64 5)), (.d (.int .i64 0)), (.d (.str [])), (.d (.sl [])), (.d (.sl zd135))])], (.d (.bool true)))
theorem k1967 : callL (prgOf fns hks) 120 e1967.1 [] = some (e1967.2, [], []) := Fast.run_known (t := (.node 177 [e1264] .nil .nil)) ⟨⟨k1264, trivial⟩, trivial, trivial⟩ (n := 3000) (by kernel_rfl)
/-- orchestrator/value.name (330) -/
def e2000 : List V × V := ([(.d (.str [112, 101, 114, 99, 101, 110, 116]))], (.d (.bool true)))
theorem k2000 : callL (prgOf fns hks) 212 e2000.1 [] = some (e2000.2, [], []) := Fast.run_known (t := .nil) trivial (n := 3000) (by kernel_rfl)
/-- orchestrator/schema.valid (1035) -/
def e2006 : List V × V := ([(.agg [(.d (.int .i64 5)), (.d (.int .i64 0)), (.d (.int .i64 0)), (.d (.sl [])), (.d (.str [])), (.d (.sl [])), (.d (.sl zd30))]), (.d (.int .i64 11))], (.d (.bool true)))
theorem k2006 : callL (prgOf fns hks) 122 e2006.1 [] = some (e2006.2, [], []) := Fast.run_known (t := (.node 177 [e1264] (.node 122 [e1274] .nil .nil) (.node 212 [e2000] .nil .nil))) ⟨⟨k1264, trivial⟩, ⟨⟨k1274, trivial⟩, trivial, trivial⟩, ⟨⟨k2000, trivial⟩, trivial, trivial⟩⟩ (n := 3000) (by kernel_rfl)
/-- orchestrator/value.Valid (464) -/
def e2016 : List V × V := ([(.agg [(.d (.int .i64 5)), (.d (.int .i64 0)), (.d (.str [])), (.d (.sl [])), (.d (.sl zd32))])], (.d (.bool true)))
theorem k2016 : callL (prgOf fns hks) 120 e2016.1 [] = some (e2016.2, [], []) := Fast.run_known (t := (.node 212 [e2000] .nil .nil)) ⟨⟨k2000, trivial⟩, trivial, trivial⟩ (n := 3000) (by kernel_rfl)
/-- orchestrator/schema.errors (586) -/
def e2030 : List V × V := ([(.agg [(.d (.int .i64 5)), (.d (.int .i64 0)), (.d (.int .i64 0)), (.d (.sl [])), (.d (.str [])), (.d (.sl [])), (.d (.sl zd30))]), (.agg [(.d (.int .i64 5)), (.d (.int .i64 0)), (.d (.str [])), (.d (.sl [])), (.d (.sl zd32))])], (.d (.sl [])))
theorem k2030 : callL (prgOf fns hks) 121 e2030.1 [] = some (e2030.2, [], []) := Fast.run_known (t := .nil) trivial (n := 3000) (by kernel_rfl)
def zd136 : List (List D) := [[(.str [117, 110, 97, 118, 97, 105, 108, 97, 98, 108, 101]), (.int .i64 0), (.int .i64 0), (.str []), (.sl []), (.sl [])]]
/-- orchestrator/value.Valid (691) -/
def e2035 : List V × V := ([(.agg [(.d (.int .i64 5)), (.d (.int .i64 0)), (.d (.str [])), (.d (.sl [])), (.d (.sl zd136))])], (.d (.bool true)))
theorem k2035 : callL (prgOf fns hks) 120 e2035.1 [] = some (e2035.2, [], []) := Fast.run_known (t := (.node 177 [e1264] .nil .nil)) ⟨⟨k1264, trivial⟩, trivial, trivial⟩ (n := 3000) (by kernel_rfl)
/-- orchestrator/schema.fields (5073) -/
def e2041 : List V × V := ([(.agg [(.d (.int .i64 5)), (.d (.int .i64 0)), (.d (.int .i64 0)), (.d (.sl [])), (.d (.str [])), (.d (.sl [])), (.d (.sl zd34))]), (.d (.int .i64 11))], (.d (.bool true)))
theorem k2041 : callL (prgOf fns hks) 185 e2041.1 [] = some (e2041.2, [], []) := Fast.run_known (t := (.node 122 [e1292, e1298, e1478, e1516, e1897, e2006] (.node 121 [e2030] (.node 120 [e1427, e1437, e1533, e1823, e1828, e1840, e1967, e2016, e2035] .nil .nil) .nil) (.node 177 [e1264] .nil .nil))) ⟨⟨k1292, k1298, k1478, k1516, k1897, k2006, trivial⟩, ⟨⟨k2030, trivial⟩, ⟨⟨k1427, k1437, k1533, k1823, k1828, k1840, k1967, k2016, k2035, trivial⟩, trivial, trivial⟩, trivial⟩, ⟨⟨k1264, trivial⟩, trivial, trivial⟩⟩ (n := 3000) (by kernel_rfl)
def zd137 : List (List D) := [[(.int .i64 1), (.str [109, 97, 120, 83, 117, 114, 103, 101]), (.int .i64 0), (.str [])]]
/-- orchestrator/convert.fields (904) -/
def e2059 : List V × V := ([(.d (.str [109, 97, 120, 83, 117, 114, 103, 101]))], (.tup [(.d (.sl zd137)), (.d (.bool true))]))
theorem k2059 : callL (prgOf fns hks) 132 e2059.1 [] = some (e2059.2, [], []) := Fast.run_known (t := .nil) trivial (n := 3000) (by kernel_rfl)
def zd138 : List (List D) := [[(.int .i64 1), (.str [115, 117, 114, 103, 101]), (.int .i64 0), (.str [])]]
/-- orchestrator/convert.fields (634) -/
def e2069 : List V × V := ([(.d (.str [115, 117, 114, 103, 101]))], (.tup [(.d (.sl zd138)), (.d (.bool true))]))
theorem k2069 : callL (prgOf fns hks) 132 e2069.1 [] = some (e2069.2, [], []) := Fast.run_known (t := .nil) trivial (n := 3000) (by kernel_rfl)
def zd139 : List (List D) := [[(.int .i64 1), (.str [109, 97, 120, 85, 110, 97, 118, 97, 105, 108, 97, 98, 108, 101]), (.int .i64 0), (.str [])]]
/-- orchestrator/convert.fields (1444) -/
def e2085 : List V × V := ([(.d (.str [109, 97, 120, 85, 110, 97, 118, 97, 105, 108, 97, 98, 108, 101]))], (.tup [(.d (.sl zd139)), (.d (.bool true))]))
theorem k2085 : callL (prgOf fns hks) 132 e2085.1 [] = some (e2085.2, [], []) := Fast.run_known (t := .nil) trivial (n := 3000) (by kernel_rfl)
def zd140 : List (List D) := [[(.int .i64 1), (.str [117, 110, 97, 118, 97, 105, 108, 97, 98, 108, 101]), (.int .i64 0), (.str [])]]
/-- orchestrator/convert.fields (1174) -/
def e2094 : List V × V := ([(.d (.str [117, 110, 97, 118, 97, 105, 108, 97, 98, 108, 101]))], (.tup [(.d (.sl zd140)), (.d (.bool true))]))
theorem k2094 : callL (prgOf fns hks) 132 e2094.1 [] = some (e2094.2, [], []) := Fast.run_known (t := .nil) trivial (n := 3000) (by kernel_rfl)
def zd141 : List (List D) := [[(.int .i64 1), (.str [114, 101, 118, 105, 115, 105, 111, 110, 72, 105, 115, 116, 111, 114, 121]), (.int .i64 0), (.str [])]]
/-- orchestrator/convert.fields (1534) -/
def e2107 : List V × V := ([(.d (.str [114, 101, 118, 105, 115, 105, 111, 110, 72, 105, 115, 116, 111, 114, 121]))], (.tup [(.d (.sl zd141)), (.d (.bool true))]))
theorem k2107 : callL (prgOf fns hks) 132 e2107.1 [] = some (e2107.2, [], []) := Fast.run_known (t := .nil) trivial (n := 3000) (by kernel_rfl)
def zd142 : List (List D) := [[(.int .i64 1), (.str [104, 105, 115, 116, 111, 114, 121]), (.int .i64 0), (.str [])]]
/-- orchestrator/convert.fields (814) -/
def e2117 : List V × V := ([(.d (.str [104, 105, 115, 116, 111, 114, 121]))], (.tup [(.d (.sl zd142)), (.d (.bool true))]))
theorem k2117 : callL (prgOf fns hks) 132 e2117.1 [] = some (e2117.2, [], []) := Fast.run_known (t := .nil) trivial (n := 3000) (by kernel_rfl)
def zd143 : List (List D) := [[(.int .i64 1), (.str [112, 114, 111, 103, 114, 101, 115, 115, 68, 101, 97, 100, 108, 105, 110, 101]), (.int .i64 0), (.str [])]]
/-- orchestrator/convert.fields (1624) -/
def e2130 : List V × V := ([(.d (.str [112, 114, 111, 103, 114, 101, 115, 115, 68, 101, 97, 100, 108, 105, 110, 101]))], (.tup [(.d (.sl zd143)), (.d (.bool true))]))
theorem k2130 : callL (prgOf fns hks) 132 e2130.1 [] = some (e2130.2, [], []) := Fast.run_known (t := .nil) trivial (n := 3000) (by kernel_rfl)
def zd144 : List (List D) := [[(.int .i64 1), (.str [100, 101, 97, 100, 108, 105, 110, 101]), (.int .i64 0), (.str [])]]
/-- orchestrator/convert.fields (904) -/
def e2139 : List V × V := ([(.d (.str [100, 101, 97, 100, 108, 105, 110, 101]))], (.tup [(.d (.sl zd144)), (.d (.bool true))]))
theorem k2139 : callL (prgOf fns hks) 132 e2139.1 [] = some (e2139.2, [], []) := Fast.run_known (t := .nil) trivial (n := 3000) (by kernel_rfl)
def zd145 : List (List D) := [[(.int .i64 1), (.str [114, 111, 108, 108, 98, 97, 99, 107, 84, 111]), (.int .i64 0), (.str [])]]
/-- orchestrator/convert.fields (1084) -/
def e2152 : List V × V := ([(.d (.str [114, 111, 108, 108, 98, 97, 99, 107, 84, 111]))], (.tup [(.d (.sl zd145)), (.d (.bool true))]))
theorem k2152 : callL (prgOf fns hks) 132 e2152.1 [] = some (e2152.2, [], []) := Fast.run_known (t := .nil) trivial (n := 3000) (by kernel_rfl)
def zd146 : List (List D) := [[(.int .i64 1), (.str [117, 110, 100, 111]), (.int .i64 0), (.str [])]]
/-- orchestrator/convert.fields (544) -/
def e2161 : List V × V := ([(.d (.str [117, 110, 100, 111]))], (.tup [(.d (.sl zd146)), (.d (.bool true))]))
theorem k2161 : callL (prgOf fns hks) 132 e2161.1 [] = some (e2161.2, [], []) := Fast.run_known (t := .nil) trivial (n := 3000) (by kernel_rfl)
/-- orchestrator/convert.Valid (2574) -/
def e2246 : List V × V := ([(.d (.sl zd35))], (.d (.bool true)))
theorem k2246 : callL (prgOf fns hks) 42 e2246.1 [] = some (e2246.2, [], []) := Fast.run_known (t := (.node 132 [e2059, e2069, e2085, e2094, e2107, e2117, e2130, e2139, e2152, e2161] .nil .nil)) ⟨⟨k2059, k2069, k2085, k2094, k2107, k2117, k2130, k2139, k2152, k2161, trivial⟩, trivial, trivial⟩ (n := 3000) (by kernel_rfl)
/-- orchestrator/value.clone (116) -/
def e2269 : List V × V := ([(.agg [(.d (.int .i64 5)), (.d (.int .i64 0)), (.d (.str [])), (.d (.sl [])), (.d (.sl zd32))])], (.agg [(.d (.int .i64 5)), (.d (.int .i64 0)), (.d (.str [])), (.d (.sl [])), (.d (.sl zd32))]))
theorem k2269 : callL (prgOf fns hks) 186 e2269.1 [] = some (e2269.2, [], []) := Fast.run_known (t := .nil) trivial (n := 3000) (by kernel_rfl)
/-- orchestrator/defaults.Fill (817) -/
def e2295 : List V × V := ([(.agg [(.d (.int .i64 5)), (.d (.int .i64 0)), (.d (.int .i64 0)), (.d (.sl [])), (.d (.str [])), (.d (.sl [])), (.d (.sl zd30))]), (.agg [(.d (.int .i64 5)), (.d (.int .i64 0)), (.d (.str [])), (.d (.sl [])), (.d (.sl zd32))])], (.agg [(.d (.int .i64 5)), (.d (.int .i64 0)), (.d (.str [])), (.d (.sl [])), (.d (.sl zd32))]))
theorem k2295 : callL (prgOf fns hks) 41 e2295.1 [] = some (e2295.2, [], []) := Fast.run_known (t := .nil) trivial (n := 3000) (by kernel_rfl)
def zd147 : List (List D) := [[(.str [100, 101, 97, 100, 108, 105, 110, 101]), (.int .i64 2), (.int .i64 600), (.str []), (.sl []), (.sl [])], [(.str [104, 105, 115, 116, 111, 114, 121]), (.int .i64 2), (.int .i64 10), (.str []), (.sl []), (.sl [])], [(.str [114, 101, 112, 108, 105, 99, 97, 115]), (.int .i64 2), (.int .i64 1), (.str []), (.sl []), (.sl [])], [(.str [115, 117, 114, 103, 101]), (.int .i64 5), (.int .i64 0), (.str []), (.sl []), (.sl zd32)], [(.str [117, 110, 97, 118, 97, 105, 108, 97, 98, 108, 101]), (.int .i64 5), (.int .i64 0), (.str []), (.sl []), (.sl zd32)]]
/-- orchestrator/defaults.Fill (4568) -/
def e2297 : List V × V := ([(.agg [(.d (.int .i64 5)), (.d (.int .i64 0)), (.d (.int .i64 0)), (.d (.sl [])), (.d (.str [])), (.d (.sl [])), (.d (.sl zd34))]), (.agg [(.d (.int .i64 5)), (.d (.int .i64 0)), (.d (.str [])), (.d (.sl [])), (.d (.sl []))])], (.agg [(.d (.int .i64 5)), (.d (.int .i64 0)), (.d (.str [])), (.d (.sl [])), (.d (.sl zd147))]))
theorem k2297 : callL (prgOf fns hks) 41 e2297.1 [] = some (e2297.2, [], []) := Fast.run_known (t := (.node 186 [e2269] (.node 41 [e1953, e2295] .nil .nil) .nil)) ⟨⟨k2269, trivial⟩, ⟨⟨k1953, k2295, trivial⟩, trivial, trivial⟩, trivial⟩ (n := 3000) (by kernel_rfl)
/-- orchestrator/defaults.Prune (651) -/
def e2302 : List V × V := ([(.agg [(.d (.int .i64 5)), (.d (.int .i64 0)), (.d (.int .i64 0)), (.d (.sl [])), (.d (.str [])), (.d (.sl [])), (.d (.sl zd30))]), (.agg [(.d (.int .i64 5)), (.d (.int .i64 0)), (.d (.str [])), (.d (.sl [])), (.d (.sl zd32))])], (.agg [(.d (.int .i64 5)), (.d (.int .i64 0)), (.d (.str [])), (.d (.sl [])), (.d (.sl zd32))]))
theorem k2302 : callL (prgOf fns hks) 44 e2302.1 [] = some (e2302.2, [], []) := Fast.run_known (t := .nil) trivial (n := 3000) (by kernel_rfl)
/-- orchestrator/orchestratorref18.SameValue (892) -/
def e2309 : List V × V := ([(.agg [(.d (.int .i64 5)), (.d (.int .i64 0)), (.d (.str [])), (.d (.sl [])), (.d (.sl zd147))]), (.agg [(.d (.int .i64 5)), (.d (.int .i64 0)), (.d (.str [])), (.d (.sl [])), (.d (.sl zd147))])], (.d (.bool true)))
theorem k2309 : callL (prgOf fns hks) 43 e2309.1 [] = some (e2309.2, [], []) := Fast.run_known (t := .nil) trivial (n := 3000) (by kernel_rfl)
/-- orchestrator/defaults.Fill (2484) -/
def e2320 : List V × V := ([(.agg [(.d (.int .i64 5)), (.d (.int .i64 0)), (.d (.int .i64 0)), (.d (.sl [])), (.d (.str [])), (.d (.sl [])), (.d (.sl zd34))]), (.agg [(.d (.int .i64 5)), (.d (.int .i64 0)), (.d (.str [])), (.d (.sl [])), (.d (.sl zd147))])], (.agg [(.d (.int .i64 5)), (.d (.int .i64 0)), (.d (.str [])), (.d (.sl [])), (.d (.sl zd147))]))
theorem k2320 : callL (prgOf fns hks) 41 e2320.1 [] = some (e2320.2, [], []) := Fast.run_known (t := (.node 186 [e2269] (.node 41 [e1953, e2295] .nil .nil) .nil)) ⟨⟨k2269, trivial⟩, ⟨⟨k1953, k2295, trivial⟩, trivial, trivial⟩, trivial⟩ (n := 3000) (by kernel_rfl)
/-- orchestrator/orchestratorlaw18.KindsValid (1813) -/
def e2321 : List V × V := ([(.d (.int .i64 3))], (.d (.bool true)))
theorem k2321 : callL (prgOf fns hks) 7 e2321.1 [] = some (e2321.2, [], []) := Fast.run_known (t := (.node 42 [e2246] (.node 19 [e1945] (.node 10 [e1238] (.node 8 [e1373] .nil .nil) .nil) (.node 41 [e1935, e2297, e2320] (.node 40 [e1928] .nil .nil) .nil)) (.node 185 [e2041] (.node 44 [e2302] (.node 43 [e2309] .nil .nil) .nil) (.node 186 [e2269] .nil .nil)))) ⟨⟨k2246, trivial⟩, ⟨⟨k1945, trivial⟩, ⟨⟨k1238, trivial⟩, ⟨⟨k1373, trivial⟩, trivial, trivial⟩, trivial⟩, ⟨⟨k1935, k2297, k2320, trivial⟩, ⟨⟨k1928, trivial⟩, trivial, trivial⟩, trivial⟩⟩, ⟨⟨k2041, trivial⟩, ⟨⟨k2302, trivial⟩, ⟨⟨k2309, trivial⟩, trivial, trivial⟩, trivial⟩, ⟨⟨k2269, trivial⟩, trivial, trivial⟩⟩⟩ (n := 3000) (by kernel_rfl)
def zd148 : List (List D) := [[(.str [99, 111, 109, 112, 108, 101, 116, 105, 111, 110, 115]), (.int .i64 0), (.int .i64 0), (.str []), (.sl []), (.sl [])]]
/-- orchestrator/value.Valid (691) -/
def e2326 : List V × V := ([(.agg [(.d (.int .i64 5)), (.d (.int .i64 0)), (.d (.str [])), (.d (.sl [])), (.d (.sl zd148))])], (.d (.bool true)))
theorem k2326 : callL (prgOf fns hks) 120 e2326.1 [] = some (e2326.2, [], []) := Fast.run_known (t := (.node 177 [e1264] .nil .nil)) ⟨⟨k1264, trivial⟩, trivial, trivial⟩ (n := 3000) (by kernel_rfl)
def zd149 : List (List D) := [[(.str [105, 110, 100, 101, 120, 101, 100]), (.int .i64 0), (.int .i64 0), (.str []), (.sl []), (.sl [])]]
/-- orchestrator/value.Valid (511) -/
def e2331 : List V × V := ([(.agg [(.d (.int .i64 5)), (.d (.int .i64 0)), (.d (.str [])), (.d (.sl [])), (.d (.sl zd149))])], (.d (.bool true)))
theorem k2331 : callL (prgOf fns hks) 120 e2331.1 [] = some (e2331.2, [], []) := Fast.run_known (t := (.node 177 [e1264] .nil .nil)) ⟨⟨k1264, trivial⟩, trivial, trivial⟩ (n := 3000) (by kernel_rfl)
def zd150 : List (List D) := [[(.str [112, 97, 114, 97, 108, 108, 101, 108, 105, 115, 109]), (.int .i64 0), (.int .i64 0), (.str []), (.sl []), (.sl [])]]
/-- orchestrator/value.Valid (691) -/
def e2336 : List V × V := ([(.agg [(.d (.int .i64 5)), (.d (.int .i64 0)), (.d (.str [])), (.d (.sl [])), (.d (.sl zd150))])], (.d (.bool true)))
theorem k2336 : callL (prgOf fns hks) 120 e2336.1 [] = some (e2336.2, [], []) := Fast.run_known (t := (.node 177 [e1264] .nil .nil)) ⟨⟨k1264, trivial⟩, trivial, trivial⟩ (n := 3000) (by kernel_rfl)
def zd151 : List (List D) := [[(.str [114, 101, 116, 114, 105, 101, 115]), (.int .i64 0), (.int .i64 0), (.str []), (.sl []), (.sl [])]]
/-- orchestrator/value.Valid (511) -/
def e2341 : List V × V := ([(.agg [(.d (.int .i64 5)), (.d (.int .i64 0)), (.d (.str [])), (.d (.sl [])), (.d (.sl zd151))])], (.d (.bool true)))
theorem k2341 : callL (prgOf fns hks) 120 e2341.1 [] = some (e2341.2, [], []) := Fast.run_known (t := (.node 177 [e1264] .nil .nil)) ⟨⟨k1264, trivial⟩, trivial, trivial⟩ (n := 3000) (by kernel_rfl)
def zd152 : List (List D) := [[(.str [115, 117, 115, 112, 101, 110, 100, 101, 100]), (.int .i64 0), (.int .i64 0), (.str []), (.sl []), (.sl [])]]
/-- orchestrator/value.Valid (601) -/
def e2351 : List V × V := ([(.agg [(.d (.int .i64 5)), (.d (.int .i64 0)), (.d (.str [])), (.d (.sl [])), (.d (.sl zd152))])], (.d (.bool true)))
theorem k2351 : callL (prgOf fns hks) 120 e2351.1 [] = some (e2351.2, [], []) := Fast.run_known (t := (.node 177 [e1264] .nil .nil)) ⟨⟨k1264, trivial⟩, trivial, trivial⟩ (n := 3000) (by kernel_rfl)
/-- orchestrator/schema.fields (3619) -/
def e2379 : List V × V := ([(.agg [(.d (.int .i64 5)), (.d (.int .i64 0)), (.d (.int .i64 0)), (.d (.sl [])), (.d (.str [])), (.d (.sl [])), (.d (.sl zd58))]), (.d (.int .i64 11))], (.d (.bool true)))
theorem k2379 : callL (prgOf fns hks) 185 e2379.1 [] = some (e2379.2, [], []) := Fast.run_known (t := (.node 122 [e1274, e1298, e1478] (.node 120 [e1653, e1670, e1910] .nil .nil) (.node 177 [e1264] .nil .nil))) ⟨⟨k1274, k1298, k1478, trivial⟩, ⟨⟨k1653, k1670, k1910, trivial⟩, trivial, trivial⟩, ⟨⟨k1264, trivial⟩, trivial, trivial⟩⟩ (n := 3000) (by kernel_rfl)
/-- orchestrator/defaults.Fill (105) -/
def e2411 : List V × V := ([(.agg [(.d (.int .i64 2)), (.d (.int .i64 0)), (.d (.int .i64 1000000000000000)), (.d (.sl [])), (.d (.str [])), (.d (.sl [])), (.d (.sl []))]), (.agg [(.d (.int .i64 2)), (.d (.int .i64 1)), (.d (.str [])), (.d (.sl [])), (.d (.sl []))])], (.agg [(.d (.int .i64 2)), (.d (.int .i64 1)), (.d (.str [])), (.d (.sl [])), (.d (.sl []))]))
theorem k2411 : callL (prgOf fns hks) 41 e2411.1 [] = some (e2411.2, [], []) := Fast.run_known (t := .nil) trivial (n := 3000) (by kernel_rfl)
def zd153 : List (List D) := [[(.str [99, 111, 109, 112, 108, 101, 116, 105, 111, 110, 115]), (.int .i64 2), (.int .i64 1), (.str []), (.sl []), (.sl [])], [(.str [112, 97, 114, 97, 108, 108, 101, 108, 105, 115, 109]), (.int .i64 2), (.int .i64 1), (.str []), (.sl []), (.sl [])], [(.str [114, 101, 116, 114, 105, 101, 115]), (.int .i64 2), (.int .i64 6), (.str []), (.sl []), (.sl [])]]
/-- orchestrator/defaults.Fill (2258) -/
def e2416 : List V × V := ([(.agg [(.d (.int .i64 5)), (.d (.int .i64 0)), (.d (.int .i64 0)), (.d (.sl [])), (.d (.str [])), (.d (.sl [])), (.d (.sl zd56))]), (.agg [(.d (.int .i64 5)), (.d (.int .i64 0)), (.d (.str [])), (.d (.sl [])), (.d (.sl []))])], (.agg [(.d (.int .i64 5)), (.d (.int .i64 0)), (.d (.str [])), (.d (.sl [])), (.d (.sl zd153))]))
theorem k2416 : callL (prgOf fns hks) 41 e2416.1 [] = some (e2416.2, [], []) := Fast.run_known (t := (.node 41 [e2411] .nil .nil)) ⟨⟨k2411, trivial⟩, trivial, trivial⟩ (n := 3000) (by kernel_rfl)
/-- orchestrator/orchestratorlaw18.KindsValid (6208) -/
def e2428 : List V × V := ([(.d (.int .i64 4))], (.d (.bool true)))
theorem k2428 : callL (prgOf fns hks) 7 e2428.1 [] = some (e2428.2, [], []) := Fast.run_known (t := (.node 120 [e1346, e1437, e1840, e1967, e2326, e2331, e2336, e2341, e2351] (.node 41 [e2411, e2416] (.node 10 [e1238] (.node 8 [e1373] .nil .nil) .nil) (.node 105 [e1711] .nil .nil)) (.node 128 [e1706] (.node 122 [e1292, e1298, e1478, e1897] .nil .nil) (.node 185 [e2379] .nil .nil)))) ⟨⟨k1346, k1437, k1840, k1967, k2326, k2331, k2336, k2341, k2351, trivial⟩, ⟨⟨k2411, k2416, trivial⟩, ⟨⟨k1238, trivial⟩, ⟨⟨k1373, trivial⟩, trivial, trivial⟩, trivial⟩, ⟨⟨k1711, trivial⟩, trivial, trivial⟩⟩, ⟨⟨k1706, trivial⟩, ⟨⟨k1292, k1298, k1478, k1897, trivial⟩, trivial, trivial⟩, ⟨⟨k2379, trivial⟩, trivial, trivial⟩⟩⟩ (n := 3000) (by kernel_rfl)
/-- orchestrator/schema.fields (2563) -/
def e2439 : List V × V := ([(.agg [(.d (.int .i64 5)), (.d (.int .i64 0)), (.d (.int .i64 0)), (.d (.sl [])), (.d (.str [])), (.d (.sl [])), (.d (.sl zd59))]), (.d (.int .i64 11))], (.d (.bool true)))
theorem k2439 : callL (prgOf fns hks) 185 e2439.1 [] = some (e2439.2, [], []) := Fast.run_known (t := (.node 122 [e1292, e1298, e1478, e1516, e1897] (.node 120 [e1437, e1533, e1823, e1828, e1840] .nil .nil) (.node 177 [e1264] .nil .nil))) ⟨⟨k1292, k1298, k1478, k1516, k1897, trivial⟩, ⟨⟨k1437, k1533, k1823, k1828, k1840, trivial⟩, trivial, trivial⟩, ⟨⟨k1264, trivial⟩, trivial, trivial⟩⟩ (n := 3000) (by kernel_rfl)
/-- orchestrator/orchestratorlaw18.KindsValid (2034) -/
def e2450 : List V × V := ([(.d (.int .i64 5))], (.d (.bool true)))
theorem k2450 : callL (prgOf fns hks) 7 e2450.1 [] = some (e2450.2, [], []) := Fast.run_known (t := (.node 40 [e1928] (.node 10 [e1238] (.node 8 [e1373] .nil .nil) (.node 19 [e1945] .nil .nil)) (.node 43 [e1958] (.node 41 [e1935, e1953] .nil .nil) (.node 185 [e2439] .nil .nil)))) ⟨⟨k1928, trivial⟩, ⟨⟨k1238, trivial⟩, ⟨⟨k1373, trivial⟩, trivial, trivial⟩, ⟨⟨k1945, trivial⟩, trivial, trivial⟩⟩, ⟨⟨k1958, trivial⟩, ⟨⟨k1935, k1953, trivial⟩, trivial, trivial⟩, ⟨⟨k2439, trivial⟩, trivial, trivial⟩⟩⟩ (n := 3000) (by kernel_rfl)
/-- orchestrator/schema.valid (2053) -/
def e2465 : List V × V := ([(.agg [(.d (.int .i64 5)), (.d (.int .i64 0)), (.d (.int .i64 0)), (.d (.sl [])), (.d (.str [])), (.d (.sl [])), (.d (.sl zd62))]), (.d (.int .i64 12))], (.d (.bool true)))
theorem k2465 : callL (prgOf fns hks) 122 e2465.1 [] = some (e2465.2, [], []) := Fast.run_known (t := (.node 122 [e1478, e1516, e1897, e2006] (.node 120 [e1533, e1823, e1840, e2035] .nil .nil) (.node 212 [e2000] .nil .nil))) ⟨⟨k1478, k1516, k1897, k2006, trivial⟩, ⟨⟨k1533, k1823, k1840, k2035, trivial⟩, trivial, trivial⟩, ⟨⟨k2000, trivial⟩, trivial, trivial⟩⟩ (n := 3000) (by kernel_rfl)
/-- orchestrator/value.clone (116) -/
def e2470 : List V × V := ([(.agg [(.d (.int .i64 5)), (.d (.int .i64 0)), (.d (.str [])), (.d (.sl [])), (.d (.sl zd60))])], (.agg [(.d (.int .i64 5)), (.d (.int .i64 0)), (.d (.str [])), (.d (.sl [])), (.d (.sl zd60))]))
theorem k2470 : callL (prgOf fns hks) 186 e2470.1 [] = some (e2470.2, [], []) := Fast.run_known (t := .nil) trivial (n := 3000) (by kernel_rfl)
/-- orchestrator/defaults.Fill (716) -/
def e2476 : List V × V := ([(.agg [(.d (.int .i64 5)), (.d (.int .i64 0)), (.d (.int .i64 0)), (.d (.sl [])), (.d (.str [])), (.d (.sl [])), (.d (.sl zd30))]), (.agg [(.d (.int .i64 5)), (.d (.int .i64 0)), (.d (.str [])), (.d (.sl [])), (.d (.sl zd60))])], (.agg [(.d (.int .i64 5)), (.d (.int .i64 0)), (.d (.str [])), (.d (.sl [])), (.d (.sl zd60))]))
theorem k2476 : callL (prgOf fns hks) 41 e2476.1 [] = some (e2476.2, [], []) := Fast.run_known (t := (.node 41 [e2411] .nil .nil)) ⟨⟨k2411, trivial⟩, trivial, trivial⟩ (n := 3000) (by kernel_rfl)
end Go.K18
