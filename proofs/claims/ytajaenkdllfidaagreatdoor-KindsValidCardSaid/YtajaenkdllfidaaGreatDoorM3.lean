/- Pure Go: closed calls, run by the kernel (written by a program of this seat's prover). -/
import Derived.Test.YtajaenkdllfidaaGreatDoorM2
import Derived.Test.YtajaenkdllfidaaGreatDoorPg3
import Derived.KernelRfl
set_option maxRecDepth 1000000
namespace Go.K18
open Go Go.PG
/-- orchestrator/orchestratorlaw18.KindsValid (2792) -/
def e2489 : List V × V := ([(.d (.int .i64 6))], (.d (.bool true)))
theorem k2489 : callL (prgOf fns hks) 7 e2489.1 [] = some (e2489.2, [], []) := Fast.run_known (t := (.node 40 [e1928] (.node 10 [e1238] (.node 8 [e1373] .nil .nil) (.node 19 [e1945] .nil .nil)) (.node 122 [e2465] (.node 41 [e1935, e2476] .nil .nil) (.node 186 [e2470] .nil .nil)))) ⟨⟨k1928, trivial⟩, ⟨⟨k1238, trivial⟩, ⟨⟨k1373, trivial⟩, trivial, trivial⟩, ⟨⟨k1945, trivial⟩, trivial, trivial⟩⟩, ⟨⟨k2465, trivial⟩, ⟨⟨k1935, k2476, trivial⟩, trivial, trivial⟩, ⟨⟨k2470, trivial⟩, trivial, trivial⟩⟩⟩ (n := 3000) (by kernel_rfl)
/-- orchestrator/schema.valid (1173) -/
def e2500 : List V × V := ([(.agg [(.d (.int .i64 4)), (.d (.int .i64 0)), (.d (.int .i64 1)), (.d (.sl [])), (.d (.str [])), (.d (.sl zd63)), (.d (.sl []))]), (.d (.int .i64 11))], (.d (.bool true)))
theorem k2500 : callL (prgOf fns hks) 122 e2500.1 [] = some (e2500.2, [], []) := Fast.run_known (t := (.node 177 [e1264] (.node 122 [e1528, e1546] .nil .nil) (.node 212 [e2000] .nil .nil))) ⟨⟨k1264, trivial⟩, ⟨⟨k1528, k1546, trivial⟩, trivial, trivial⟩, ⟨⟨k2000, trivial⟩, trivial, trivial⟩⟩ (n := 3000) (by kernel_rfl)
/-- orchestrator/schema.fields (2199) -/
def e2506 : List V × V := ([(.agg [(.d (.int .i64 5)), (.d (.int .i64 0)), (.d (.int .i64 0)), (.d (.sl [])), (.d (.str [])), (.d (.sl [])), (.d (.sl zd64))]), (.d (.int .i64 11))], (.d (.bool true)))
theorem k2506 : callL (prgOf fns hks) 185 e2506.1 [] = some (e2506.2, [], []) := Fast.run_known (t := (.node 122 [e1516, e2500] (.node 120 [e1533] .nil .nil) (.node 177 [e1264] .nil .nil))) ⟨⟨k1516, k2500, trivial⟩, ⟨⟨k1533, trivial⟩, trivial, trivial⟩, ⟨⟨k1264, trivial⟩, trivial, trivial⟩⟩ (n := 3000) (by kernel_rfl)
/-- orchestrator/schema.fields (5164) -/
def e2546 : List V × V := ([(.agg [(.d (.int .i64 5)), (.d (.int .i64 0)), (.d (.int .i64 0)), (.d (.sl [])), (.d (.str [])), (.d (.sl [])), (.d (.sl zd67))]), (.d (.int .i64 11))], (.d (.bool true)))
theorem k2546 : callL (prgOf fns hks) 185 e2546.1 [] = some (e2546.2, [], []) := Fast.run_known (t := (.node 122 [e1298] (.node 120 [e1320, e1915] .nil .nil) (.node 177 [e1264] .nil .nil))) ⟨⟨k1298, trivial⟩, ⟨⟨k1320, k1915, trivial⟩, trivial, trivial⟩, ⟨⟨k1264, trivial⟩, trivial, trivial⟩⟩ (n := 3000) (by kernel_rfl)
/-- orchestrator/orchestratorlaw18.KindsValid (1753) -/
def e2569 : List V × V := ([(.d (.int .i64 7))], (.d (.bool true)))
theorem k2569 : callL (prgOf fns hks) 7 e2569.1 [] = some (e2569.2, [], []) := Fast.run_known (t := (.node 120 [e1346] (.node 10 [e1238] (.node 8 [e1373] .nil .nil) (.node 105 [e1711] .nil .nil)) (.node 185 [e2506, e2546] (.node 128 [e1706] .nil .nil) .nil))) ⟨⟨k1346, trivial⟩, ⟨⟨k1238, trivial⟩, ⟨⟨k1373, trivial⟩, trivial, trivial⟩, ⟨⟨k1711, trivial⟩, trivial, trivial⟩⟩, ⟨⟨k2506, k2546, trivial⟩, ⟨⟨k1706, trivial⟩, trivial, trivial⟩, trivial⟩⟩ (n := 3000) (by kernel_rfl)
/-- orchestrator/value.Valid (464) -/
def e2581 : List V × V := ([(.agg [(.d (.int .i64 5)), (.d (.int .i64 0)), (.d (.str [])), (.d (.sl [])), (.d (.sl zd36))])], (.d (.bool true)))
theorem k2581 : callL (prgOf fns hks) 120 e2581.1 [] = some (e2581.2, [], []) := Fast.run_known (t := (.node 212 [e2000] .nil .nil)) ⟨⟨k2000, trivial⟩, trivial, trivial⟩ (n := 3000) (by kernel_rfl)
/-- orchestrator/schema.errors (586) -/
def e2586 : List V × V := ([(.agg [(.d (.int .i64 5)), (.d (.int .i64 0)), (.d (.int .i64 0)), (.d (.sl [])), (.d (.str [])), (.d (.sl [])), (.d (.sl zd30))]), (.agg [(.d (.int .i64 5)), (.d (.int .i64 0)), (.d (.str [])), (.d (.sl [])), (.d (.sl zd36))])], (.d (.sl [])))
theorem k2586 : callL (prgOf fns hks) 121 e2586.1 [] = some (e2586.2, [], []) := Fast.run_known (t := .nil) trivial (n := 3000) (by kernel_rfl)
def zd154 : List (List D) := [[(.str [116, 97, 114, 103, 101, 116]), (.int .i64 0), (.int .i64 0), (.str []), (.sl []), (.sl [])]]
/-- orchestrator/value.Valid (466) -/
def e2612 : List V × V := ([(.agg [(.d (.int .i64 5)), (.d (.int .i64 0)), (.d (.str [])), (.d (.sl [])), (.d (.sl zd154))])], (.d (.bool true)))
theorem k2612 : callL (prgOf fns hks) 120 e2612.1 [] = some (e2612.2, [], []) := Fast.run_known (t := (.node 177 [e1264] .nil .nil)) ⟨⟨k1264, trivial⟩, trivial, trivial⟩ (n := 3000) (by kernel_rfl)
/-- orchestrator/schema.fields (8542) -/
def e2649 : List V × V := ([(.agg [(.d (.int .i64 5)), (.d (.int .i64 0)), (.d (.int .i64 0)), (.d (.sl [])), (.d (.str [])), (.d (.sl [])), (.d (.sl zd42))]), (.d (.int .i64 11))], (.d (.bool true)))
theorem k2649 : callL (prgOf fns hks) 185 e2649.1 [] = some (e2649.2, [], []) := Fast.run_known (t := (.node 122 [e1298, e1451, e1478, e1546, e2006] (.node 121 [e2586] (.node 120 [e1423, e1427, e1437, e1448, e2581, e2612] .nil .nil) .nil) (.node 177 [e1264] .nil .nil))) ⟨⟨k1298, k1451, k1478, k1546, k2006, trivial⟩, ⟨⟨k2586, trivial⟩, ⟨⟨k1423, k1427, k1437, k1448, k2581, k2612, trivial⟩, trivial, trivial⟩, trivial⟩, ⟨⟨k1264, trivial⟩, trivial, trivial⟩⟩ (n := 3000) (by kernel_rfl)
/-- orchestrator/schema.fields (2532) -/
def e2669 : List V × V := ([(.agg [(.d (.int .i64 5)), (.d (.int .i64 0)), (.d (.int .i64 0)), (.d (.sl [])), (.d (.str [])), (.d (.sl [])), (.d (.sl zd45))]), (.d (.int .i64 11))], (.d (.bool true)))
theorem k2669 : callL (prgOf fns hks) 185 e2669.1 [] = some (e2669.2, [], []) := Fast.run_known (t := (.node 122 [e1478] (.node 120 [e1828] .nil .nil) (.node 177 [e1264] .nil .nil))) ⟨⟨k1478, trivial⟩, ⟨⟨k1828, trivial⟩, trivial, trivial⟩, ⟨⟨k1264, trivial⟩, trivial, trivial⟩⟩ (n := 3000) (by kernel_rfl)
def zd155 : List (List D) := [[(.int .i64 1), (.str [109, 105, 110, 82, 101, 112, 108, 105, 99, 97, 115]), (.int .i64 0), (.str [])]]
/-- orchestrator/convert.fields (1174) -/
def e2690 : List V × V := ([(.d (.str [109, 105, 110, 82, 101, 112, 108, 105, 99, 97, 115]))], (.tup [(.d (.sl zd155)), (.d (.bool true))]))
theorem k2690 : callL (prgOf fns hks) 132 e2690.1 [] = some (e2690.2, [], []) := Fast.run_known (t := .nil) trivial (n := 3000) (by kernel_rfl)
def zd156 : List (List D) := [[(.int .i64 1), (.str [109, 105, 110]), (.int .i64 0), (.str [])]]
/-- orchestrator/convert.fields (454) -/
def e2699 : List V × V := ([(.d (.str [109, 105, 110]))], (.tup [(.d (.sl zd156)), (.d (.bool true))]))
theorem k2699 : callL (prgOf fns hks) 132 e2699.1 [] = some (e2699.2, [], []) := Fast.run_known (t := .nil) trivial (n := 3000) (by kernel_rfl)
def zd157 : List (List D) := [[(.int .i64 1), (.str [109, 97, 120, 82, 101, 112, 108, 105, 99, 97, 115]), (.int .i64 0), (.str [])]]
/-- orchestrator/convert.fields (1174) -/
def e2710 : List V × V := ([(.d (.str [109, 97, 120, 82, 101, 112, 108, 105, 99, 97, 115]))], (.tup [(.d (.sl zd157)), (.d (.bool true))]))
theorem k2710 : callL (prgOf fns hks) 132 e2710.1 [] = some (e2710.2, [], []) := Fast.run_known (t := .nil) trivial (n := 3000) (by kernel_rfl)
def zd158 : List (List D) := [[(.int .i64 1), (.str [109, 97, 120]), (.int .i64 0), (.str [])]]
/-- orchestrator/convert.fields (454) -/
def e2719 : List V × V := ([(.d (.str [109, 97, 120]))], (.tup [(.d (.sl zd158)), (.d (.bool true))]))
theorem k2719 : callL (prgOf fns hks) 132 e2719.1 [] = some (e2719.2, [], []) := Fast.run_known (t := .nil) trivial (n := 3000) (by kernel_rfl)
def zd159 : List (List D) := [[(.int .i64 1), (.str [117, 112, 87, 105, 110, 100, 111, 119]), (.int .i64 0), (.str [])]]
/-- orchestrator/convert.fields (904) -/
def e2732 : List V × V := ([(.d (.str [117, 112, 87, 105, 110, 100, 111, 119]))], (.tup [(.d (.sl zd159)), (.d (.bool true))]))
theorem k2732 : callL (prgOf fns hks) 132 e2732.1 [] = some (e2732.2, [], []) := Fast.run_known (t := .nil) trivial (n := 3000) (by kernel_rfl)
def zd160 : List (List D) := [[(.int .i64 1), (.str [100, 111, 119, 110, 87, 105, 110, 100, 111, 119]), (.int .i64 0), (.str [])]]
/-- orchestrator/convert.fields (1084) -/
def e2748 : List V × V := ([(.d (.str [100, 111, 119, 110, 87, 105, 110, 100, 111, 119]))], (.tup [(.d (.sl zd160)), (.d (.bool true))]))
theorem k2748 : callL (prgOf fns hks) 132 e2748.1 [] = some (e2748.2, [], []) := Fast.run_known (t := .nil) trivial (n := 3000) (by kernel_rfl)
/-- orchestrator/value.clone (116) -/
def e2799 : List V × V := ([(.agg [(.d (.int .i64 5)), (.d (.int .i64 0)), (.d (.str [])), (.d (.sl [])), (.d (.sl zd36))])], (.agg [(.d (.int .i64 5)), (.d (.int .i64 0)), (.d (.str [])), (.d (.sl [])), (.d (.sl zd36))]))
theorem k2799 : callL (prgOf fns hks) 186 e2799.1 [] = some (e2799.2, [], []) := Fast.run_known (t := .nil) trivial (n := 3000) (by kernel_rfl)
/-- orchestrator/defaults.Fill (817) -/
def e2833 : List V × V := ([(.agg [(.d (.int .i64 5)), (.d (.int .i64 0)), (.d (.int .i64 0)), (.d (.sl [])), (.d (.str [])), (.d (.sl [])), (.d (.sl zd30))]), (.agg [(.d (.int .i64 5)), (.d (.int .i64 0)), (.d (.str [])), (.d (.sl [])), (.d (.sl zd36))])], (.agg [(.d (.int .i64 5)), (.d (.int .i64 0)), (.d (.str [])), (.d (.sl [])), (.d (.sl zd36))]))
theorem k2833 : callL (prgOf fns hks) 41 e2833.1 [] = some (e2833.2, [], []) := Fast.run_known (t := .nil) trivial (n := 3000) (by kernel_rfl)
def zd161 : List (List D) := [[(.str [100, 111, 119, 110, 83, 116, 101, 112]), (.int .i64 5), (.int .i64 0), (.str []), (.sl []), (.sl zd36)], [(.str [100, 111, 119, 110, 87, 105, 110, 100, 111, 119]), (.int .i64 2), (.int .i64 300), (.str []), (.sl []), (.sl [])], [(.str [109, 105, 110]), (.int .i64 2), (.int .i64 1), (.str []), (.sl []), (.sl [])], [(.str [112, 101, 114, 105, 111, 100]), (.int .i64 2), (.int .i64 60), (.str []), (.sl []), (.sl [])], [(.str [116, 111, 108, 101, 114, 97, 110, 99, 101]), (.int .i64 2), (.int .i64 10), (.str []), (.sl []), (.sl [])], [(.str [117, 112, 83, 116, 101, 112]), (.int .i64 5), (.int .i64 0), (.str []), (.sl []), (.sl zd36)]]
/-- orchestrator/defaults.Fill (5799) -/
def e2843 : List V × V := ([(.agg [(.d (.int .i64 5)), (.d (.int .i64 0)), (.d (.int .i64 0)), (.d (.sl [])), (.d (.str [])), (.d (.sl [])), (.d (.sl zd42))]), (.agg [(.d (.int .i64 5)), (.d (.int .i64 0)), (.d (.str [])), (.d (.sl [])), (.d (.sl []))])], (.agg [(.d (.int .i64 5)), (.d (.int .i64 0)), (.d (.str [])), (.d (.sl [])), (.d (.sl zd161))]))
theorem k2843 : callL (prgOf fns hks) 41 e2843.1 [] = some (e2843.2, [], []) := Fast.run_known (t := (.node 186 [e2799] (.node 41 [e1953, e2833] .nil .nil) .nil)) ⟨⟨k2799, trivial⟩, ⟨⟨k1953, k2833, trivial⟩, trivial, trivial⟩, trivial⟩ (n := 3000) (by kernel_rfl)
/-- orchestrator/defaults.Prune (651) -/
def e2845 : List V × V := ([(.agg [(.d (.int .i64 5)), (.d (.int .i64 0)), (.d (.int .i64 0)), (.d (.sl [])), (.d (.str [])), (.d (.sl [])), (.d (.sl zd30))]), (.agg [(.d (.int .i64 5)), (.d (.int .i64 0)), (.d (.str [])), (.d (.sl [])), (.d (.sl zd36))])], (.agg [(.d (.int .i64 5)), (.d (.int .i64 0)), (.d (.str [])), (.d (.sl [])), (.d (.sl zd36))]))
theorem k2845 : callL (prgOf fns hks) 44 e2845.1 [] = some (e2845.2, [], []) := Fast.run_known (t := .nil) trivial (n := 3000) (by kernel_rfl)
/-- orchestrator/orchestratorref18.SameValue (985) -/
def e2853 : List V × V := ([(.agg [(.d (.int .i64 5)), (.d (.int .i64 0)), (.d (.str [])), (.d (.sl [])), (.d (.sl zd161))]), (.agg [(.d (.int .i64 5)), (.d (.int .i64 0)), (.d (.str [])), (.d (.sl [])), (.d (.sl zd161))])], (.d (.bool true)))
theorem k2853 : callL (prgOf fns hks) 43 e2853.1 [] = some (e2853.2, [], []) := Fast.run_known (t := .nil) trivial (n := 3000) (by kernel_rfl)
/-- orchestrator/defaults.Fill (2924) -/
def e2864 : List V × V := ([(.agg [(.d (.int .i64 5)), (.d (.int .i64 0)), (.d (.int .i64 0)), (.d (.sl [])), (.d (.str [])), (.d (.sl [])), (.d (.sl zd42))]), (.agg [(.d (.int .i64 5)), (.d (.int .i64 0)), (.d (.str [])), (.d (.sl [])), (.d (.sl zd161))])], (.agg [(.d (.int .i64 5)), (.d (.int .i64 0)), (.d (.str [])), (.d (.sl [])), (.d (.sl zd161))]))
theorem k2864 : callL (prgOf fns hks) 41 e2864.1 [] = some (e2864.2, [], []) := Fast.run_known (t := (.node 186 [e2799] (.node 41 [e1953, e2833] .nil .nil) .nil)) ⟨⟨k2799, trivial⟩, ⟨⟨k1953, k2833, trivial⟩, trivial, trivial⟩, trivial⟩ (n := 3000) (by kernel_rfl)
/-- orchestrator/orchestratorlaw18.KindsValid (4603) -/
def e2865 : List V × V := ([(.d (.int .i64 8))], (.d (.bool true)))
theorem k2865 : callL (prgOf fns hks) 7 e2865.1 [] = some (e2865.2, [], []) := Fast.run_known (t := (.node 105 [e1711] (.node 41 [e2843, e2864] (.node 10 [e1238] (.node 8 [e1373] .nil .nil) .nil) (.node 44 [e2845] (.node 43 [e2853] .nil .nil) .nil)) (.node 132 [e2690, e2699, e2710, e2719, e2732, e2748] (.node 128 [e1706] (.node 120 [e1346] .nil .nil) .nil) (.node 186 [e2799] (.node 185 [e2649, e2669] .nil .nil) .nil)))) ⟨⟨k1711, trivial⟩, ⟨⟨k2843, k2864, trivial⟩, ⟨⟨k1238, trivial⟩, ⟨⟨k1373, trivial⟩, trivial, trivial⟩, trivial⟩, ⟨⟨k2845, trivial⟩, ⟨⟨k2853, trivial⟩, trivial, trivial⟩, trivial⟩⟩, ⟨⟨k2690, k2699, k2710, k2719, k2732, k2748, trivial⟩, ⟨⟨k1706, trivial⟩, ⟨⟨k1346, trivial⟩, trivial, trivial⟩, trivial⟩, ⟨⟨k2799, trivial⟩, ⟨⟨k2649, k2669, trivial⟩, trivial, trivial⟩, trivial⟩⟩⟩ (n := 3000) (by kernel_rfl)
/-- orchestrator/schema.valid (980) -/
def e2877 : List V × V := ([(.agg [(.d (.int .i64 5)), (.d (.int .i64 0)), (.d (.int .i64 0)), (.d (.sl [])), (.d (.str [])), (.d (.sl [])), (.d (.sl zd0))]), (.d (.int .i64 6))], (.d (.bool true)))
theorem k2877 : callL (prgOf fns hks) 122 e2877.1 [] = some (e2877.2, [], []) := Fast.run_known (t := (.node 120 [e1273, e1279, e1284] .nil .nil)) ⟨⟨k1273, k1279, k1284, trivial⟩, trivial, trivial⟩ (n := 3000) (by kernel_rfl)
/-- orchestrator/schema.valid (1788) -/
def e2882 : List V × V := ([(.agg [(.d (.int .i64 4)), (.d (.int .i64 0)), (.d (.int .i64 1)), (.d (.sl [])), (.d (.str [])), (.d (.sl zd5)), (.d (.sl []))]), (.d (.int .i64 6))], (.d (.bool true)))
theorem k2882 : callL (prgOf fns hks) 122 e2882.1 [] = some (e2882.2, [], []) := Fast.run_known (t := (.node 120 [e1406, e1412, e1423, e1427, e1433, e1437] .nil .nil)) ⟨⟨k1406, k1412, k1423, k1427, k1433, k1437, trivial⟩, trivial, trivial⟩ (n := 3000) (by kernel_rfl)
/-- orchestrator/schema.valid (2058) -/
def e2886 : List V × V := ([(.agg [(.d (.int .i64 4)), (.d (.int .i64 0)), (.d (.int .i64 64)), (.d (.sl [])), (.d (.str [110, 97, 109, 101])), (.d (.sl zd15)), (.d (.sl []))]), (.d (.int .i64 8))], (.d (.bool true)))
theorem k2886 : callL (prgOf fns hks) 122 e2886.1 [] = some (e2886.2, [], []) := Fast.run_known (t := (.node 122 [e2877, e2882] (.node 120 [e1384, e1392, e1400, e1448, e1456, e1461, e1466] .nil .nil) .nil)) ⟨⟨k2877, k2882, trivial⟩, ⟨⟨k1384, k1392, k1400, k1448, k1456, k1461, k1466, trivial⟩, trivial, trivial⟩, trivial⟩ (n := 3000) (by kernel_rfl)
/-- orchestrator/schema.valid (1300) -/
def e2901 : List V × V := ([(.agg [(.d (.int .i64 4)), (.d (.int .i64 0)), (.d (.int .i64 64)), (.d (.sl [])), (.d (.str [])), (.d (.sl zd9)), (.d (.sl []))]), (.d (.int .i64 6))], (.d (.bool true)))
theorem k2901 : callL (prgOf fns hks) 122 e2901.1 [] = some (e2901.2, [], []) := Fast.run_known (t := (.node 182 [e1515] (.node 120 [e1320, e1500, e1506] .nil .nil) .nil)) ⟨⟨k1515, trivial⟩, ⟨⟨k1320, k1500, k1506, trivial⟩, trivial, trivial⟩, trivial⟩ (n := 3000) (by kernel_rfl)
end Go.K18
