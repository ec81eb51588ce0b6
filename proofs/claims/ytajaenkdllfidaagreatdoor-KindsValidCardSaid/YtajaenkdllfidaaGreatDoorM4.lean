/- Pure Go: closed calls, run by the kernel (written by a program of this seat's prover). -/
import Derived.Test.YtajaenkdllfidaaGreatDoorM3
import Derived.Test.YtajaenkdllfidaaGreatDoorPg3
import Derived.KernelRfl
set_option maxRecDepth 1000000
namespace Go.K18
open Go Go.PG
/-- orchestrator/schema.fields (9808) -/
def e2918 : List V × V := ([(.agg [(.d (.int .i64 5)), (.d (.int .i64 0)), (.d (.int .i64 0)), (.d (.sl [])), (.d (.str [])), (.d (.sl [])), (.d (.sl zd25))]), (.d (.int .i64 8))], (.d (.bool true)))
theorem k2918 : callL (prgOf fns hks) 185 e2918.1 [] = some (e2918.2, [], []) := Fast.run_known (t := (.node 122 [e1536, e2886, e2901] (.node 120 [e1314, e1320, e1334, e1378, e1477, e1488, e1494, e1500, e1506, e1521, e1527, e1533, e1545, e1556, e1562, e1567, e1577, e1583, e1589, e1595, e1605, e1612, e1617] .nil .nil) (.node 182 [e1515] .nil .nil))) ⟨⟨k1536, k2886, k2901, trivial⟩, ⟨⟨k1314, k1320, k1334, k1378, k1477, k1488, k1494, k1500, k1506, k1521, k1527, k1533, k1545, k1556, k1562, k1567, k1577, k1583, k1589, k1595, k1605, k1612, k1617, trivial⟩, trivial, trivial⟩, ⟨⟨k1515, trivial⟩, trivial, trivial⟩⟩ (n := 3000) (by kernel_rfl)
/-- orchestrator/schema.fields (3861) -/
def e2922 : List V × V := ([(.agg [(.d (.int .i64 5)), (.d (.int .i64 0)), (.d (.int .i64 0)), (.d (.sl [])), (.d (.str [])), (.d (.sl [])), (.d (.sl zd68))]), (.d (.int .i64 10))], (.d (.bool true)))
theorem k2922 : callL (prgOf fns hks) 185 e2922.1 [] = some (e2922.2, [], []) := Fast.run_known (t := (.node 177 [e1264] (.node 122 [e1274, e1882] (.node 120 [e1320, e1334, e1437, e1840, e1845, e1967, e2326, e2331, e2336, e2341, e2351] .nil .nil) .nil) (.node 185 [e2918] .nil .nil))) ⟨⟨k1264, trivial⟩, ⟨⟨k1274, k1882, trivial⟩, ⟨⟨k1320, k1334, k1437, k1840, k1845, k1967, k2326, k2331, k2336, k2341, k2351, trivial⟩, trivial, trivial⟩, trivial⟩, ⟨⟨k2918, trivial⟩, trivial, trivial⟩⟩ (n := 3000) (by kernel_rfl)
/-- orchestrator/schema.fields (4313) -/
def e2944 : List V × V := ([(.agg [(.d (.int .i64 5)), (.d (.int .i64 0)), (.d (.int .i64 0)), (.d (.sl [])), (.d (.str [])), (.d (.sl [])), (.d (.sl zd69))]), (.d (.int .i64 11))], (.d (.bool true)))
theorem k2944 : callL (prgOf fns hks) 185 e2944.1 [] = some (e2944.2, [], []) := Fast.run_known (t := (.node 177 [e1264] (.node 122 [e1292, e1298, e1478] (.node 120 [e2351] .nil .nil) .nil) (.node 185 [e2922] .nil .nil))) ⟨⟨k1264, trivial⟩, ⟨⟨k1292, k1298, k1478, trivial⟩, ⟨⟨k2351, trivial⟩, trivial, trivial⟩, trivial⟩, ⟨⟨k2922, trivial⟩, trivial, trivial⟩⟩ (n := 3000) (by kernel_rfl)
/-- orchestrator/schema.Valid (954) -/
def e2955 : List V × V := ([(.agg [(.d (.int .i64 5)), (.d (.int .i64 0)), (.d (.int .i64 0)), (.d (.sl [])), (.d (.str [])), (.d (.sl [])), (.d (.sl zd70))])], (.d (.bool true)))
theorem k2955 : callL (prgOf fns hks) 40 e2955.1 [] = some (e2955.2, [], []) := Fast.run_known (t := (.node 177 [e1264] .nil .nil)) ⟨⟨k1264, trivial⟩, trivial, trivial⟩ (n := 3000) (by kernel_rfl)
/-- orchestrator/orchestratorlaw18.KindsValid (4346) -/
def e3005 : List V × V := ([(.d (.int .i64 9))], (.d (.bool true)))
theorem k3005 : callL (prgOf fns hks) 7 e3005.1 [] = some (e3005.2, [], []) := Fast.run_known (t := (.node 40 [e2955] (.node 10 [e1238] (.node 8 [e1373] .nil .nil) .nil) (.node 185 [e2944] .nil .nil))) ⟨⟨k2955, trivial⟩, ⟨⟨k1238, trivial⟩, ⟨⟨k1373, trivial⟩, trivial, trivial⟩, trivial⟩, ⟨⟨k2944, trivial⟩, trivial, trivial⟩⟩ (n := 3000) (by kernel_rfl)
def zd162 : List (List D) := [[(.str [112, 111, 114, 116, 115]), (.int .i64 0), (.int .i64 0), (.str []), (.sl []), (.sl [])]]
/-- orchestrator/value.Valid (421) -/
def e3010 : List V × V := ([(.agg [(.d (.int .i64 5)), (.d (.int .i64 0)), (.d (.str [])), (.d (.sl [])), (.d (.sl zd162))])], (.d (.bool true)))
theorem k3010 : callL (prgOf fns hks) 120 e3010.1 [] = some (e3010.2, [], []) := Fast.run_known (t := (.node 177 [e1264] .nil .nil)) ⟨⟨k1264, trivial⟩, trivial, trivial⟩ (n := 3000) (by kernel_rfl)
/-- orchestrator/schema.valid (1475) -/
def e3023 : List V × V := ([(.agg [(.d (.int .i64 4)), (.d (.int .i64 0)), (.d (.int .i64 64)), (.d (.sl [])), (.d (.str [110, 97, 109, 101])), (.d (.sl zd72)), (.d (.sl []))]), (.d (.int .i64 11))], (.d (.bool true)))
theorem k3023 : callL (prgOf fns hks) 122 e3023.1 [] = some (e3023.2, [], []) := Fast.run_known (t := (.node 122 [e1451] (.node 120 [e1448, e2612] .nil .nil) (.node 177 [e1264] .nil .nil))) ⟨⟨k1451, trivial⟩, ⟨⟨k1448, k2612, trivial⟩, trivial, trivial⟩, ⟨⟨k1264, trivial⟩, trivial, trivial⟩⟩ (n := 3000) (by kernel_rfl)
/-- orchestrator/orchestratorlaw18.KindsValid (2780) -/
def e3044 : List V × V := ([(.d (.int .i64 10))], (.d (.bool true)))
theorem k3044 : callL (prgOf fns hks) 7 e3044.1 [] = some (e3044.2, [], []) := Fast.run_known (t := (.node 120 [e1346, e1533, e1636, e3010] (.node 10 [e1238] (.node 8 [e1373] .nil .nil) (.node 105 [e1711] .nil .nil)) (.node 128 [e1706] (.node 122 [e1292, e1298, e1516, e3023] .nil .nil) (.node 177 [e1264] .nil .nil)))) ⟨⟨k1346, k1533, k1636, k3010, trivial⟩, ⟨⟨k1238, trivial⟩, ⟨⟨k1373, trivial⟩, trivial, trivial⟩, ⟨⟨k1711, trivial⟩, trivial, trivial⟩⟩, ⟨⟨k1706, trivial⟩, ⟨⟨k1292, k1298, k1516, k3023, trivial⟩, trivial, trivial⟩, ⟨⟨k1264, trivial⟩, trivial, trivial⟩⟩⟩ (n := 3000) (by kernel_rfl)
/-- orchestrator/schema.fields (2179) -/
def e3061 : List V × V := ([(.agg [(.d (.int .i64 5)), (.d (.int .i64 0)), (.d (.int .i64 0)), (.d (.sl [])), (.d (.str [])), (.d (.sl [])), (.d (.sl zd75))]), (.d (.int .i64 9))], (.d (.bool true)))
theorem k3061 : callL (prgOf fns hks) 185 e3061.1 [] = some (e3061.2, [], []) := Fast.run_known (t := (.node 122 [e1323, e1528, e1546] (.node 120 [e1456, e1488, e1636] .nil .nil) (.node 177 [e1264] .nil .nil))) ⟨⟨k1323, k1528, k1546, trivial⟩, ⟨⟨k1456, k1488, k1636, trivial⟩, trivial, trivial⟩, ⟨⟨k1264, trivial⟩, trivial, trivial⟩⟩ (n := 3000) (by kernel_rfl)
/-- orchestrator/orchestratorlaw18.KindsValid (2267) -/
def e3081 : List V × V := ([(.d (.int .i64 11))], (.d (.bool true)))
theorem k3081 : callL (prgOf fns hks) 7 e3081.1 [] = some (e3081.2, [], []) := Fast.run_known (t := (.node 122 [e3023] (.node 105 [e1711] (.node 10 [e1238] (.node 8 [e1373] .nil .nil) .nil) (.node 120 [e1346, e3010] .nil .nil)) (.node 177 [e1264] (.node 128 [e1706] .nil .nil) (.node 185 [e3061] .nil .nil)))) ⟨⟨k3023, trivial⟩, ⟨⟨k1711, trivial⟩, ⟨⟨k1238, trivial⟩, ⟨⟨k1373, trivial⟩, trivial, trivial⟩, trivial⟩, ⟨⟨k1346, k3010, trivial⟩, trivial, trivial⟩⟩, ⟨⟨k1264, trivial⟩, ⟨⟨k1706, trivial⟩, trivial, trivial⟩, ⟨⟨k3061, trivial⟩, trivial, trivial⟩⟩⟩ (n := 3000) (by kernel_rfl)
def zd163 : List (List D) := [[(.str [101, 103, 114, 101, 115, 115]), (.int .i64 0), (.int .i64 0), (.str []), (.sl []), (.sl [])]]
/-- orchestrator/value.Valid (466) -/
def e3086 : List V × V := ([(.agg [(.d (.int .i64 5)), (.d (.int .i64 0)), (.d (.str [])), (.d (.sl [])), (.d (.sl zd163))])], (.d (.bool true)))
theorem k3086 : callL (prgOf fns hks) 120 e3086.1 [] = some (e3086.2, [], []) := Fast.run_known (t := (.node 177 [e1264] .nil .nil)) ⟨⟨k1264, trivial⟩, trivial, trivial⟩ (n := 3000) (by kernel_rfl)
/-- orchestrator/schema.fields (2643) -/
def e3119 : List V × V := ([(.agg [(.d (.int .i64 5)), (.d (.int .i64 0)), (.d (.int .i64 0)), (.d (.sl [])), (.d (.str [])), (.d (.sl [])), (.d (.sl zd81))]), (.d (.int .i64 9))], (.d (.bool true)))
theorem k3119 : callL (prgOf fns hks) 185 e3119.1 [] = some (e3119.2, [], []) := Fast.run_known (t := (.node 122 [e1528, e1878, e1882] (.node 120 [e1533, e3010, e3086] .nil .nil) (.node 177 [e1264] .nil .nil))) ⟨⟨k1528, k1878, k1882, trivial⟩, ⟨⟨k1533, k3010, k3086, trivial⟩, trivial, trivial⟩, ⟨⟨k1264, trivial⟩, trivial, trivial⟩⟩ (n := 3000) (by kernel_rfl)
/-- orchestrator/schema.fields (2122) -/
def e3124 : List V × V := ([(.agg [(.d (.int .i64 5)), (.d (.int .i64 0)), (.d (.int .i64 0)), (.d (.sl [])), (.d (.str [])), (.d (.sl [])), (.d (.sl zd83))]), (.d (.int .i64 11))], (.d (.bool true)))
theorem k3124 : callL (prgOf fns hks) 185 e3124.1 [] = some (e3124.2, [], []) := Fast.run_known (t := (.node 177 [e1264] (.node 122 [e1292, e1516] (.node 120 [e1533, e3086] .nil .nil) .nil) (.node 185 [e3119] .nil .nil))) ⟨⟨k1264, trivial⟩, ⟨⟨k1292, k1516, trivial⟩, ⟨⟨k1533, k3086, trivial⟩, trivial, trivial⟩, trivial⟩, ⟨⟨k3119, trivial⟩, trivial, trivial⟩⟩ (n := 3000) (by kernel_rfl)
/-- orchestrator/orchestratorlaw18.KindsValid (1235) -/
def e3132 : List V × V := ([(.d (.int .i64 12))], (.d (.bool true)))
theorem k3132 : callL (prgOf fns hks) 7 e3132.1 [] = some (e3132.2, [], []) := Fast.run_known (t := (.node 120 [e1346] (.node 10 [e1238] (.node 8 [e1373] .nil .nil) (.node 105 [e1711] .nil .nil)) (.node 185 [e3124] (.node 128 [e1706] .nil .nil) .nil))) ⟨⟨k1346, trivial⟩, ⟨⟨k1238, trivial⟩, ⟨⟨k1373, trivial⟩, trivial, trivial⟩, ⟨⟨k1711, trivial⟩, trivial, trivial⟩⟩, ⟨⟨k3124, trivial⟩, ⟨⟨k1706, trivial⟩, trivial, trivial⟩, trivial⟩⟩ (n := 3000) (by kernel_rfl)
/-- orchestrator/schema.Valid (1259) -/
def e3153 : List V × V := ([(.agg [(.d (.int .i64 5)), (.d (.int .i64 0)), (.d (.int .i64 0)), (.d (.sl [])), (.d (.str [])), (.d (.sl [])), (.d (.sl zd85))])], (.d (.bool true)))
theorem k3153 : callL (prgOf fns hks) 40 e3153.1 [] = some (e3153.2, [], []) := Fast.run_known (t := (.node 177 [e1264] (.node 122 [e1286, e1298] .nil .nil) .nil)) ⟨⟨k1264, trivial⟩, ⟨⟨k1286, k1298, trivial⟩, trivial, trivial⟩, trivial⟩ (n := 3000) (by kernel_rfl)
/-- orchestrator/orchestratorlaw18.KindsValid (2180) -/
def e3167 : List V × V := ([(.d (.int .i64 13))], (.d (.bool true)))
theorem k3167 : callL (prgOf fns hks) 7 e3167.1 [] = some (e3167.2, [], []) := Fast.run_known (t := (.node 120 [e1346] (.node 40 [e3153] (.node 10 [e1238] (.node 8 [e1373] .nil .nil) .nil) (.node 105 [e1711] .nil .nil)) (.node 128 [e1706] (.node 122 [e1286, e1298] .nil .nil) (.node 177 [e1264] .nil .nil)))) ⟨⟨k1346, trivial⟩, ⟨⟨k3153, trivial⟩, ⟨⟨k1238, trivial⟩, ⟨⟨k1373, trivial⟩, trivial, trivial⟩, trivial⟩, ⟨⟨k1711, trivial⟩, trivial, trivial⟩⟩, ⟨⟨k1706, trivial⟩, ⟨⟨k1286, k1298, trivial⟩, trivial, trivial⟩, ⟨⟨k1264, trivial⟩, trivial, trivial⟩⟩⟩ (n := 3000) (by kernel_rfl)
end Go.K18
