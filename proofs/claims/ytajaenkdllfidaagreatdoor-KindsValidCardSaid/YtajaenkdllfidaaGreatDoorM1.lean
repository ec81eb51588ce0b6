/- Pure Go: closed calls, run by the kernel (written by a program of this seat's prover). -/
import Derived.Test.YtajaenkdllfidaaGreatDoorM0
import Derived.Test.YtajaenkdllfidaaGreatDoorPg3
import Derived.KernelRfl
set_option maxRecDepth 1000000
namespace Go.K18
open Go Go.PG
def zd121 : List (List D) := [[(.str [109, 97, 120, 83, 107, 101, 119]), (.int .i64 0), (.int .i64 0), (.str []), (.sl []), (.sl [])]]
/-- orchestrator/value.Valid (511) -/
def e1595 : List V × V := ([(.agg [(.d (.int .i64 5)), (.d (.int .i64 0)), (.d (.str [])), (.d (.sl [])), (.d (.sl zd121))])], (.d (.bool true)))
theorem k1595 : callL (prgOf fns hks) 120 e1595.1 [] = some (e1595.2, [], []) := Fast.run_known (t := (.node 177 [e1264] .nil .nil)) ⟨⟨k1264, trivial⟩, trivial, trivial⟩ (n := 3000) (by kernel_rfl)
def zd122 : List (List D) := [[(.str [116, 111, 108, 101, 114, 97, 116, 105, 111, 110, 115]), (.int .i64 0), (.int .i64 0), (.str []), (.sl []), (.sl [])]]
/-- orchestrator/value.Valid (691) -/
def e1605 : List V × V := ([(.agg [(.d (.int .i64 5)), (.d (.int .i64 0)), (.d (.str [])), (.d (.sl [])), (.d (.sl zd122))])], (.d (.bool true)))
theorem k1605 : callL (prgOf fns hks) 120 e1605.1 [] = some (e1605.2, [], []) := Fast.run_known (t := (.node 177 [e1264] .nil .nil)) ⟨⟨k1264, trivial⟩, trivial, trivial⟩ (n := 3000) (by kernel_rfl)
def zd123 : List (List D) := [[(.str [101, 120, 105, 115, 116, 115]), (.int .i64 0), (.int .i64 0), (.str []), (.sl []), (.sl [])]]
/-- orchestrator/value.Valid (466) -/
def e1612 : List V × V := ([(.agg [(.d (.int .i64 5)), (.d (.int .i64 0)), (.d (.str [])), (.d (.sl [])), (.d (.sl zd123))])], (.d (.bool true)))
theorem k1612 : callL (prgOf fns hks) 120 e1612.1 [] = some (e1612.2, [], []) := Fast.run_known (t := (.node 177 [e1264] .nil .nil)) ⟨⟨k1264, trivial⟩, trivial, trivial⟩ (n := 3000) (by kernel_rfl)
def zd124 : List (List D) := [[(.str [115, 101, 99, 111, 110, 100, 115]), (.int .i64 0), (.int .i64 0), (.str []), (.sl []), (.sl [])]]
/-- orchestrator/value.Valid (511) -/
def e1617 : List V × V := ([(.agg [(.d (.int .i64 5)), (.d (.int .i64 0)), (.d (.str [])), (.d (.sl [])), (.d (.sl zd124))])], (.d (.bool true)))
theorem k1617 : callL (prgOf fns hks) 120 e1617.1 [] = some (e1617.2, [], []) := Fast.run_known (t := (.node 177 [e1264] .nil .nil)) ⟨⟨k1264, trivial⟩, trivial, trivial⟩ (n := 3000) (by kernel_rfl)
/-- orchestrator/schema.fields (9876) -/
def e1629 : List V × V := ([(.agg [(.d (.int .i64 5)), (.d (.int .i64 0)), (.d (.int .i64 0)), (.d (.sl [])), (.d (.str [])), (.d (.sl [])), (.d (.sl zd21))]), (.d (.int .i64 11))], (.d (.bool true)))
theorem k1629 : callL (prgOf fns hks) 185 e1629.1 [] = some (e1629.2, [], []) := Fast.run_known (t := (.node 122 [e1323, e1395, e1443, e1451, e1478, e1516, e1528, e1540, e1546] (.node 120 [e1314, e1320, e1334, e1378, e1384, e1392, e1400, e1448, e1456, e1461, e1466, e1477, e1488, e1494, e1521, e1527, e1533, e1545, e1556, e1562, e1567, e1577, e1583, e1589, e1595, e1605, e1612, e1617] .nil .nil) .nil)) ⟨⟨k1323, k1395, k1443, k1451, k1478, k1516, k1528, k1540, k1546, trivial⟩, ⟨⟨k1314, k1320, k1334, k1378, k1384, k1392, k1400, k1448, k1456, k1461, k1466, k1477, k1488, k1494, k1521, k1527, k1533, k1545, k1556, k1562, k1567, k1577, k1583, k1589, k1595, k1605, k1612, k1617, trivial⟩, trivial, trivial⟩, trivial⟩ (n := 3000) (by kernel_rfl)
def zd125 : List (List D) := [[(.str [97, 100, 100, 114, 101, 115, 115]), (.int .i64 0), (.int .i64 0), (.str []), (.sl []), (.sl [])]]
/-- orchestrator/value.Valid (511) -/
def e1636 : List V × V := ([(.agg [(.d (.int .i64 5)), (.d (.int .i64 0)), (.d (.str [])), (.d (.sl [])), (.d (.sl zd125))])], (.d (.bool true)))
theorem k1636 : callL (prgOf fns hks) 120 e1636.1 [] = some (e1636.2, [], []) := Fast.run_known (t := (.node 177 [e1264] .nil .nil)) ⟨⟨k1264, trivial⟩, trivial, trivial⟩ (n := 3000) (by kernel_rfl)
def zd126 : List (List D) := [[(.str [115, 116, 97, 114, 116, 101, 100]), (.int .i64 0), (.int .i64 0), (.str []), (.sl []), (.sl [])]]
/-- orchestrator/value.Valid (511) -/
def e1653 : List V × V := ([(.agg [(.d (.int .i64 5)), (.d (.int .i64 0)), (.d (.str [])), (.d (.sl [])), (.d (.sl zd126))])], (.d (.bool true)))
theorem k1653 : callL (prgOf fns hks) 120 e1653.1 [] = some (e1653.2, [], []) := Fast.run_known (t := (.node 177 [e1264] .nil .nil)) ⟨⟨k1264, trivial⟩, trivial, trivial⟩ (n := 3000) (by kernel_rfl)
/-- orchestrator/schema.fields (3227) -/
def e1660 : List V × V := ([(.agg [(.d (.int .i64 5)), (.d (.int .i64 0)), (.d (.int .i64 0)), (.d (.sl [])), (.d (.str [])), (.d (.sl [])), (.d (.sl zd22))]), (.d (.int .i64 9))], (.d (.bool true)))
theorem k1660 : callL (prgOf fns hks) 185 e1660.1 [] = some (e1660.2, [], []) := Fast.run_known (t := (.node 122 [e1451, e1528, e1546] (.node 120 [e1328, e1448, e1456, e1653] .nil .nil) (.node 177 [e1264] .nil .nil))) ⟨⟨k1451, k1528, k1546, trivial⟩, ⟨⟨k1328, k1448, k1456, k1653, trivial⟩, trivial, trivial⟩, ⟨⟨k1264, trivial⟩, trivial, trivial⟩⟩ (n := 3000) (by kernel_rfl)
def zd127 : List (List D) := [[(.str [102, 105, 110, 105, 115, 104, 101, 100]), (.int .i64 0), (.int .i64 0), (.str []), (.sl []), (.sl [])]]
/-- orchestrator/value.Valid (556) -/
def e1670 : List V × V := ([(.agg [(.d (.int .i64 5)), (.d (.int .i64 0)), (.d (.str [])), (.d (.sl [])), (.d (.sl zd127))])], (.d (.bool true)))
theorem k1670 : callL (prgOf fns hks) 120 e1670.1 [] = some (e1670.2, [], []) := Fast.run_known (t := (.node 177 [e1264] .nil .nil)) ⟨⟨k1264, trivial⟩, trivial, trivial⟩ (n := 3000) (by kernel_rfl)
/-- orchestrator/schema.fields (4633) -/
def e1693 : List V × V := ([(.agg [(.d (.int .i64 5)), (.d (.int .i64 0)), (.d (.int .i64 0)), (.d (.sl [])), (.d (.str [])), (.d (.sl [])), (.d (.sl zd24))]), (.d (.int .i64 11))], (.d (.bool true)))
theorem k1693 : callL (prgOf fns hks) 185 e1693.1 [] = some (e1693.2, [], []) := Fast.run_known (t := (.node 177 [e1264] (.node 122 [e1292, e1298, e1478] (.node 120 [e1378, e1456, e1636, e1653, e1670] .nil .nil) .nil) (.node 185 [e1660] .nil .nil))) ⟨⟨k1264, trivial⟩, ⟨⟨k1292, k1298, k1478, trivial⟩, ⟨⟨k1378, k1456, k1636, k1653, k1670, trivial⟩, trivial, trivial⟩, trivial⟩, ⟨⟨k1660, trivial⟩, trivial, trivial⟩⟩ (n := 3000) (by kernel_rfl)
/-- orchestrator/value.Map (72) -/
def e1706 : List V × V := ([.nil], (.agg [(.d (.int .i64 5)), (.d (.int .i64 0)), (.d (.str [])), (.d (.sl [])), (.d (.sl []))]))
theorem k1706 : callL (prgOf fns hks) 128 e1706.1 [] = some (e1706.2, [], []) := Fast.run_known (t := .nil) trivial (n := 3000) (by kernel_rfl)
/-- orchestrator/orchestratorref04.Valid (110) -/
def e1711 : List V × V := ([(.agg [(.d (.int .i64 5)), (.d (.int .i64 0)), (.d (.str [])), (.d (.sl [])), (.d (.sl []))])], (.d (.bool true)))
theorem k1711 : callL (prgOf fns hks) 105 e1711.1 [] = some (e1711.2, [], []) := Fast.run_known (t := .nil) trivial (n := 3000) (by kernel_rfl)
/-- orchestrator/orchestratorlaw18.KindsValid (4233) -/
def e1747 : List V × V := ([(.d (.int .i64 0))], (.d (.bool true)))
theorem k1747 : callL (prgOf fns hks) 7 e1747.1 [] = some (e1747.2, [], []) := Fast.run_known (t := (.node 120 [e1346] (.node 10 [e1238] (.node 8 [e1373] .nil .nil) (.node 105 [e1711] .nil .nil)) (.node 185 [e1629, e1693] (.node 128 [e1706] .nil .nil) .nil))) ⟨⟨k1346, trivial⟩, ⟨⟨k1238, trivial⟩, ⟨⟨k1373, trivial⟩, trivial, trivial⟩, ⟨⟨k1711, trivial⟩, trivial, trivial⟩⟩, ⟨⟨k1629, k1693, trivial⟩, ⟨⟨k1706, trivial⟩, trivial, trivial⟩, trivial⟩⟩ (n := 3000) (by kernel_rfl)
/-- orchestrator/schema.fields (4740) -/
def e1788 : List V × V := ([(.agg [(.d (.int .i64 5)), (.d (.int .i64 0)), (.d (.int .i64 0)), (.d (.sl [])), (.d (.str [])), (.d (.sl [])), (.d (.sl zd53))]), (.d (.int .i64 11))], (.d (.bool true)))
theorem k1788 : callL (prgOf fns hks) 185 e1788.1 [] = some (e1788.2, [], []) := Fast.run_known (t := (.node 122 [e1292, e1478, e1546] (.node 120 [e1448, e1456] .nil .nil) (.node 177 [e1264] .nil .nil))) ⟨⟨k1292, k1478, k1546, trivial⟩, ⟨⟨k1448, k1456, trivial⟩, trivial, trivial⟩, ⟨⟨k1264, trivial⟩, trivial, trivial⟩⟩ (n := 3000) (by kernel_rfl)
/-- orchestrator/orchestratorlaw18.KindsValid (3201) -/
def e1818 : List V × V := ([(.d (.int .i64 1))], (.d (.bool true)))
theorem k1818 : callL (prgOf fns hks) 7 e1818.1 [] = some (e1818.2, [], []) := Fast.run_known (t := (.node 120 [e1346] (.node 10 [e1238] (.node 8 [e1373] .nil .nil) (.node 105 [e1711] .nil .nil)) (.node 185 [e1340, e1788] (.node 128 [e1706] .nil .nil) .nil))) ⟨⟨k1346, trivial⟩, ⟨⟨k1238, trivial⟩, ⟨⟨k1373, trivial⟩, trivial, trivial⟩, ⟨⟨k1711, trivial⟩, trivial, trivial⟩⟩, ⟨⟨k1340, k1788, trivial⟩, ⟨⟨k1706, trivial⟩, trivial, trivial⟩, trivial⟩⟩ (n := 3000) (by kernel_rfl)
def zd128 : List (List D) := [[(.str [109, 105, 110, 82, 101, 97, 100, 121]), (.int .i64 0), (.int .i64 0), (.str []), (.sl []), (.sl [])]]
/-- orchestrator/value.Valid (556) -/
def e1823 : List V × V := ([(.agg [(.d (.int .i64 5)), (.d (.int .i64 0)), (.d (.str [])), (.d (.sl [])), (.d (.sl zd128))])], (.d (.bool true)))
theorem k1823 : callL (prgOf fns hks) 120 e1823.1 [] = some (e1823.2, [], []) := Fast.run_known (t := (.node 177 [e1264] .nil .nil)) ⟨⟨k1264, trivial⟩, trivial, trivial⟩ (n := 3000) (by kernel_rfl)
def zd129 : List (List D) := [[(.str [114, 101, 112, 108, 105, 99, 97, 115]), (.int .i64 0), (.int .i64 0), (.str []), (.sl []), (.sl [])]]
/-- orchestrator/value.Valid (556) -/
def e1828 : List V × V := ([(.agg [(.d (.int .i64 5)), (.d (.int .i64 0)), (.d (.str [])), (.d (.sl [])), (.d (.sl zd129))])], (.d (.bool true)))
theorem k1828 : callL (prgOf fns hks) 120 e1828.1 [] = some (e1828.2, [], []) := Fast.run_known (t := (.node 177 [e1264] .nil .nil)) ⟨⟨k1264, trivial⟩, trivial, trivial⟩ (n := 3000) (by kernel_rfl)
def zd130 : List (List D) := [[(.str [116, 101, 109, 112, 108, 97, 116, 101]), (.int .i64 0), (.int .i64 0), (.str []), (.sl []), (.sl [])]]
/-- orchestrator/value.Valid (556) -/
def e1840 : List V × V := ([(.agg [(.d (.int .i64 5)), (.d (.int .i64 0)), (.d (.str [])), (.d (.sl [])), (.d (.sl zd130))])], (.d (.bool true)))
theorem k1840 : callL (prgOf fns hks) 120 e1840.1 [] = some (e1840.2, [], []) := Fast.run_known (t := (.node 177 [e1264] .nil .nil)) ⟨⟨k1264, trivial⟩, trivial, trivial⟩ (n := 3000) (by kernel_rfl)
def zd131 : List (List D) := [[(.str [108, 97, 98, 101, 108, 115]), (.int .i64 0), (.int .i64 0), (.str []), (.sl []), (.sl [])]]
/-- orchestrator/value.Valid (466) -/
def e1845 : List V × V := ([(.agg [(.d (.int .i64 5)), (.d (.int .i64 0)), (.d (.str [])), (.d (.sl [])), (.d (.sl zd131))])], (.d (.bool true)))
theorem k1845 : callL (prgOf fns hks) 120 e1845.1 [] = some (e1845.2, [], []) := Fast.run_known (t := (.node 177 [e1264] .nil .nil)) ⟨⟨k1264, trivial⟩, trivial, trivial⟩ (n := 3000) (by kernel_rfl)
/-- orchestrator/schema.valid (980) -/
def e1862 : List V × V := ([(.agg [(.d (.int .i64 5)), (.d (.int .i64 0)), (.d (.int .i64 0)), (.d (.sl [])), (.d (.str [])), (.d (.sl [])), (.d (.sl zd0))]), (.d (.int .i64 7))], (.d (.bool true)))
theorem k1862 : callL (prgOf fns hks) 122 e1862.1 [] = some (e1862.2, [], []) := Fast.run_known (t := (.node 120 [e1273, e1279, e1284] .nil .nil)) ⟨⟨k1273, k1279, k1284, trivial⟩, trivial, trivial⟩ (n := 3000) (by kernel_rfl)
/-- orchestrator/schema.valid (1788) -/
def e1867 : List V × V := ([(.agg [(.d (.int .i64 4)), (.d (.int .i64 0)), (.d (.int .i64 1)), (.d (.sl [])), (.d (.str [])), (.d (.sl zd5)), (.d (.sl []))]), (.d (.int .i64 7))], (.d (.bool true)))
theorem k1867 : callL (prgOf fns hks) 122 e1867.1 [] = some (e1867.2, [], []) := Fast.run_known (t := (.node 120 [e1406, e1412, e1423, e1427, e1433, e1437] .nil .nil)) ⟨⟨k1406, k1412, k1423, k1427, k1433, k1437, trivial⟩, trivial, trivial⟩ (n := 3000) (by kernel_rfl)
/-- orchestrator/schema.valid (2058) -/
def e1870 : List V × V := ([(.agg [(.d (.int .i64 4)), (.d (.int .i64 0)), (.d (.int .i64 64)), (.d (.sl [])), (.d (.str [110, 97, 109, 101])), (.d (.sl zd15)), (.d (.sl []))]), (.d (.int .i64 9))], (.d (.bool true)))
theorem k1870 : callL (prgOf fns hks) 122 e1870.1 [] = some (e1870.2, [], []) := Fast.run_known (t := (.node 122 [e1862, e1867] (.node 120 [e1384, e1392, e1400, e1448, e1456, e1461, e1466] .nil .nil) .nil)) ⟨⟨k1862, k1867, trivial⟩, ⟨⟨k1384, k1392, k1400, k1448, k1456, k1461, k1466, trivial⟩, trivial, trivial⟩, trivial⟩ (n := 3000) (by kernel_rfl)
/-- orchestrator/schema.valid (1300) -/
def e1878 : List V × V := ([(.agg [(.d (.int .i64 4)), (.d (.int .i64 0)), (.d (.int .i64 64)), (.d (.sl [])), (.d (.str [])), (.d (.sl zd9)), (.d (.sl []))]), (.d (.int .i64 7))], (.d (.bool true)))
theorem k1878 : callL (prgOf fns hks) 122 e1878.1 [] = some (e1878.2, [], []) := Fast.run_known (t := (.node 182 [e1515] (.node 120 [e1320, e1500, e1506] .nil .nil) .nil)) ⟨⟨k1515, trivial⟩, ⟨⟨k1320, k1500, k1506, trivial⟩, trivial, trivial⟩, trivial⟩ (n := 3000) (by kernel_rfl)
/-- orchestrator/schema.valid (100) -/
def e1882 : List V × V := ([(.agg [(.d (.int .i64 3)), (.d (.int .i64 0)), (.d (.int .i64 40)), (.d (.sl [])), (.d (.str [])), (.d (.sl [])), (.d (.sl []))]), (.d (.int .i64 7))], (.d (.bool true)))
theorem k1882 : callL (prgOf fns hks) 122 e1882.1 [] = some (e1882.2, [], []) := Fast.run_known (t := .nil) trivial (n := 3000) (by kernel_rfl)
/-- orchestrator/schema.fields (8416) -/
def e1894 : List V × V := ([(.agg [(.d (.int .i64 5)), (.d (.int .i64 0)), (.d (.int .i64 0)), (.d (.sl [])), (.d (.str [])), (.d (.sl [])), (.d (.sl zd25))]), (.d (.int .i64 9))], (.d (.bool true)))
theorem k1894 : callL (prgOf fns hks) 185 e1894.1 [] = some (e1894.2, [], []) := Fast.run_known (t := (.node 122 [e1323, e1540, e1870, e1878, e1882] (.node 120 [e1314, e1320, e1334, e1378, e1477, e1488, e1494, e1521, e1527, e1533, e1545, e1556, e1562, e1567, e1577, e1583, e1589, e1595, e1605, e1612, e1617] .nil .nil) .nil)) ⟨⟨k1323, k1540, k1870, k1878, k1882, trivial⟩, ⟨⟨k1314, k1320, k1334, k1378, k1477, k1488, k1494, k1521, k1527, k1533, k1545, k1556, k1562, k1567, k1577, k1583, k1589, k1595, k1605, k1612, k1617, trivial⟩, trivial, trivial⟩, trivial⟩ (n := 3000) (by kernel_rfl)
/-- orchestrator/schema.valid (1986) -/
def e1897 : List V × V := ([(.agg [(.d (.int .i64 5)), (.d (.int .i64 0)), (.d (.int .i64 0)), (.d (.sl [])), (.d (.str [])), (.d (.sl [])), (.d (.sl zd28))]), (.d (.int .i64 11))], (.d (.bool true)))
theorem k1897 : callL (prgOf fns hks) 122 e1897.1 [] = some (e1897.2, [], []) := Fast.run_known (t := (.node 177 [e1264] (.node 120 [e1320, e1334, e1845] .nil .nil) (.node 185 [e1894] .nil .nil))) ⟨⟨k1264, trivial⟩, ⟨⟨k1320, k1334, k1845, trivial⟩, trivial, trivial⟩, ⟨⟨k1894, trivial⟩, trivial, trivial⟩⟩ (n := 3000) (by kernel_rfl)
def zd132 : List (List D) := [[(.str [102, 97, 105, 108, 101, 100]), (.int .i64 0), (.int .i64 0), (.str []), (.sl []), (.sl [])]]
/-- orchestrator/value.Valid (466) -/
def e1910 : List V × V := ([(.agg [(.d (.int .i64 5)), (.d (.int .i64 0)), (.d (.str [])), (.d (.sl [])), (.d (.sl zd132))])], (.d (.bool true)))
theorem k1910 : callL (prgOf fns hks) 120 e1910.1 [] = some (e1910.2, [], []) := Fast.run_known (t := (.node 177 [e1264] .nil .nil)) ⟨⟨k1264, trivial⟩, trivial, trivial⟩ (n := 3000) (by kernel_rfl)
def zd133 : List (List D) := [[(.str [111, 98, 115, 101, 114, 118, 101, 100]), (.int .i64 0), (.int .i64 0), (.str []), (.sl []), (.sl [])]]
/-- orchestrator/value.Valid (556) -/
def e1915 : List V × V := ([(.agg [(.d (.int .i64 5)), (.d (.int .i64 0)), (.d (.str [])), (.d (.sl [])), (.d (.sl zd133))])], (.d (.bool true)))
theorem k1915 : callL (prgOf fns hks) 120 e1915.1 [] = some (e1915.2, [], []) := Fast.run_known (t := (.node 177 [e1264] .nil .nil)) ⟨⟨k1264, trivial⟩, trivial, trivial⟩ (n := 3000) (by kernel_rfl)
/-- orchestrator/schema.fields (3149) -/
def e1926 : List V × V := ([(.agg [(.d (.int .i64 5)), (.d (.int .i64 0)), (.d (.int .i64 0)), (.d (.sl [])), (.d (.str [])), (.d (.sl [])), (.d (.sl zd29))]), (.d (.int .i64 11))], (.d (.bool true)))
theorem k1926 : callL (prgOf fns hks) 185 e1926.1 [] = some (e1926.2, [], []) := Fast.run_known (t := (.node 122 [e1292, e1298, e1478] (.node 120 [e1456, e1828, e1910, e1915] .nil .nil) (.node 177 [e1264] .nil .nil))) ⟨⟨k1292, k1298, k1478, trivial⟩, ⟨⟨k1456, k1828, k1910, k1915, trivial⟩, trivial, trivial⟩, ⟨⟨k1264, trivial⟩, trivial, trivial⟩⟩ (n := 3000) (by kernel_rfl)
/-- orchestrator/schema.Valid (131) -/
def e1928 : List V × V := ([(.agg [(.d (.int .i64 5)), (.d (.int .i64 0)), (.d (.int .i64 0)), (.d (.sl [])), (.d (.str [])), (.d (.sl [])), (.d (.sl zd29))])], (.d (.bool true)))
theorem k1928 : callL (prgOf fns hks) 40 e1928.1 [] = some (e1928.2, [], []) := Fast.run_known (t := (.node 185 [e1926] .nil .nil)) ⟨⟨k1926, trivial⟩, trivial, trivial⟩ (n := 3000) (by kernel_rfl)
/-- orchestrator/defaults.Fill (341) -/
def e1935 : List V × V := ([(.agg [(.d (.int .i64 5)), (.d (.int .i64 0)), (.d (.int .i64 0)), (.d (.sl [])), (.d (.str [])), (.d (.sl [])), (.d (.sl zd29))]), (.agg [(.d (.int .i64 5)), (.d (.int .i64 0)), (.d (.str [])), (.d (.sl [])), (.d (.sl []))])], (.agg [(.d (.int .i64 5)), (.d (.int .i64 0)), (.d (.str [])), (.d (.sl [])), (.d (.sl []))]))
theorem k1935 : callL (prgOf fns hks) 41 e1935.1 [] = some (e1935.2, [], []) := Fast.run_known (t := (.node 128 [e1706] .nil .nil)) ⟨⟨k1706, trivial⟩, trivial, trivial⟩ (n := 3000) (by kernel_rfl)
/-- orchestrator/orchestratorlaw18.fits (534) -/
def e1945 : List V × V := ([(.agg [(.d (.int .i64 5)), (.d (.int .i64 0)), (.d (.int .i64 0)), (.d (.sl [])), (.d (.str [])), (.d (.sl [])), (.d (.sl zd29))]), (.agg [(.d (.int .i64 5)), (.d (.int .i64 0)), (.d (.str [])), (.d (.sl [])), (.d (.sl []))])], (.d (.bool true)))
theorem k1945 : callL (prgOf fns hks) 19 e1945.1 [] = some (e1945.2, [], []) := Fast.run_known (t := (.node 105 [e1711] (.node 40 [e1928] .nil .nil) (.node 120 [e1346] .nil .nil))) ⟨⟨k1711, trivial⟩, ⟨⟨k1928, trivial⟩, trivial, trivial⟩, ⟨⟨k1346, trivial⟩, trivial, trivial⟩⟩ (n := 3000) (by kernel_rfl)
/-- orchestrator/defaults.Fill (105) -/
def e1953 : List V × V := ([(.agg [(.d (.int .i64 2)), (.d (.int .i64 0)), (.d (.int .i64 40)), (.d (.sl [])), (.d (.str [])), (.d (.sl [])), (.d (.sl []))]), (.agg [(.d (.int .i64 2)), (.d (.int .i64 1)), (.d (.str [])), (.d (.sl [])), (.d (.sl []))])], (.agg [(.d (.int .i64 2)), (.d (.int .i64 1)), (.d (.str [])), (.d (.sl [])), (.d (.sl []))]))
theorem k1953 : callL (prgOf fns hks) 41 e1953.1 [] = some (e1953.2, [], []) := Fast.run_known (t := .nil) trivial (n := 3000) (by kernel_rfl)
def zd134 : List (List D) := [[(.str [114, 101, 112, 108, 105, 99, 97, 115]), (.int .i64 2), (.int .i64 1), (.str []), (.sl []), (.sl [])]]
/-- orchestrator/orchestratorref18.SameValue (148) -/
def e1958 : List V × V := ([(.agg [(.d (.int .i64 5)), (.d (.int .i64 0)), (.d (.str [])), (.d (.sl [])), (.d (.sl zd134))]), (.agg [(.d (.int .i64 5)), (.d (.int .i64 0)), (.d (.str [])), (.d (.sl [])), (.d (.sl zd134))])], (.d (.bool true)))
theorem k1958 : callL (prgOf fns hks) 43 e1958.1 [] = some (e1958.2, [], []) := Fast.run_known (t := .nil) trivial (n := 3000) (by kernel_rfl)
end Go.K18
