/- An evaluator of plain Go operations, with the proof that what it computes is what the model's machine computes, part 3 of 3; nothing is assumed beyond each theorem's own hypotheses. -/
import Derived.Test.YtajaenkdllfidaaGreatDoorPg2
section
/- Pure Go: the evaluator once more, for quick runs by the kernel; it is the same. Part 3: operations. -/
set_option linter.unusedSimpArgs false
set_option linter.unusedVariables false
namespace Go.PG.Fast
open Go Go.PG

noncomputable def rX (e : List (Nat × V)) (x : Go.PG.X) : V := match x with
  | .t n => rget .any e n
  | .c v => v
theorem rX_eq (e : List (Nat × V)) (x : Go.PG.X) : rX e x = x.val e := by cases x with
  | t n => exact rget_eq _ _ _
  | c v => rfl
def ePick (c a b : V) : Option Dl := match c with
  | .d (.bool t) => some ⟨bif t then a else b, [], []⟩
  | _ => none
noncomputable def eBin (op : BinOp) (a b : V) : Option Dl := match a with
  | .d a => (match b with
    | .d b => (match rbin op a b with
      | some r => some ⟨.d r, [], []⟩
      | none => none)
    | _ => none)
  | _ => none
noncomputable def eFld (agg : Bool) (off n : Nat) (a : V) : Option Dl := match a with
  | .agg cs => br (Nat.ble (Nat.add off n) (rlen cs)) (br agg (some ⟨.agg (rtake (rdrop cs off) n), [], []⟩) (match rnth cs off with
    | some v => some ⟨v, [], []⟩
    | none => none)) none
  | _ => none
noncomputable def eLoad1 (hp : Nat → Ob) (a : V) : Option Dl := match a with
  | .ptr id off => (match hp id with
    | .box _ cs => (match rnth cs off with
      | some v => some ⟨v, [], [id]⟩
      | none => none)
    | _ => none)
  | .eptr id i off => (match hp id with
    | .vec _ _ es => (match rnth es i with
      | some c => (match rnth c off with
        | some v => some ⟨.d v, [], [id]⟩
        | none => none)
      | none => none)
    | _ => none)
  | .imm cs => (match cs with
    | c :: _ => some ⟨.d c, [], []⟩
    | [] => none)
  | _ => none
noncomputable def eLoadn (hp : Nat → Ob) (n : Nat) (a : V) : Option Dl := match a with
  | .ptr id off => (match hp id with
    | .box _ cs => br (Nat.ble (Nat.add off n) (rlen cs)) (some ⟨.agg (rtake (rdrop cs off) n), [], [id]⟩) none
    | _ => none)
  | .eptr id i off => (match hp id with
    | .vec _ _ es => (match rnth es i with
      | some c => br (Nat.ble (Nat.add off n) (rlen c)) (some ⟨.agg (rmap .d (rtake (rdrop c off) n)), [], [id]⟩) none
      | none => none)
    | _ => none)
  | .imm cs => br (Nat.ble n (rlen cs)) (some ⟨.agg (rmap .d (rtake cs n)), [], []⟩) none
  | _ => none
def natV : V → Option Nat
  | .d (.int _ n) => (match n with
    | .ofNat m => some m
    | .negSucc _ => none)
  | _ => none
theorem natV_eq (v : V) : natV v = asNat v := by
  cases v with
  | d x =>
    cases x with
    | int k n => cases n with
      | ofNat m => simp [natV, asNat]
      | negSucc m => simp [natV, asNat]
    | _ => rfl
  | _ => rfl
noncomputable def eIaddr (sz : Nat) (a i : V) : Option Dl := match natV i with
  | none => none
  | some i => (match a with
    | .d (.sl es) => (match rnth es i with
      | some c => br (Nat.beq (rlen c) sz) (some ⟨.imm c, [], []⟩) none
      | none => none)
    | .vec id sz' off len => br (Nat.beq sz' sz) (br (Nat.blt i len) (some ⟨.eptr id (Nat.add off i) 0, [], []⟩) none) none
    | _ => none)
noncomputable def eIdx (a i : V) : Option Dl := match natV i with
  | none => none
  | some i => (match a with
    | .d (.str s) => (match rnth s i with
      | some b => some ⟨.d (.int .u8 (Int.ofNat b.toNat)), [], []⟩
      | none => none)
    | _ => none)
noncomputable def eExt (a : V) (i : Nat) : Option Dl := match a with
  | .tup vs => (match rnth vs i with
    | some v => some ⟨v, [], []⟩
    | none => none)
  | _ => none
noncomputable def eLenS (a : V) : Option Dl := match a with
  | .d (.str s) => some ⟨.d (.int .i64 (Int.ofNat (rlen s))), [], []⟩
  | _ => none
noncomputable def eLenL (a : V) : Option Dl := match a with
  | .d (.sl es) => some ⟨.d (.int .i64 (Int.ofNat (rlen es))), [], []⟩
  | .nil => some ⟨.d (.int .i64 0), [], []⟩
  | .vec _ _ _ n => some ⟨.d (.int .i64 (Int.ofNat n)), [], []⟩
  | _ => none
/-! cells, data -/
def scal (v : V) : Bool := match v with
  | .agg _ | .tup _ | .any => false
  | _ => true
theorem scal_eq (v : V) : scal v = v.scal := by cases v <;> rfl
noncomputable def rcells (v : V) : Option (List V) := match v with
  | .agg cs => br (rall scal cs) (some cs) none
  | .tup _ => none
  | .any => none
  | v => some [v]
theorem rcells_eq (v : V) : rcells v = v.cells := by
  cases v <;> try rfl
  rename_i cs
  show br (rall scal cs) (some cs) none = if cs.all V.scal then some cs else none
  rw [rall_eq, br_eq, show scal = V.scal from funext scal_eq]
noncomputable def rtoD (hp : Nat → Ob) (v : V) : Option (D × List Nat) := match v with
  | .d x => some (x, [])
  | .nil => some (.sl [], [])
  | .vec id sz off len => (match hp id with
    | .vec _ sz' es => br (Nat.beq sz' sz) (br (Nat.ble (Nat.add off len) (rlen es)) (some (.sl (rtake (rdrop es off) len), [id])) none) none
    | _ => none)
  | _ => none
theorem rtoD_eq (hp : Nat → Ob) (v : V) : rtoD hp v = toD hp v := by
  cases v <;> try rfl
  rename_i id sz off len
  simp only [rtoD, toD]
  cases hp id <;> try rfl
  rename_i ty' sz' es
  simp only [br_eq, rlen_eq, rtake_eq, rdrop_eq, Nat.beq_eq, Nat.ble_eq]
  show (if sz' = sz then if off + len ≤ es.length then _ else _ else _) = _
  by_cases h1 : sz' = sz <;> by_cases h2 : off + len ≤ es.length <;> simp [h1, h2]
noncomputable def rtoDs (hp : Nat → Ob) (l : List V) : Option (List D × List Nat) := List.rec (motive := fun _ => Option (List D × List Nat)) (some ([], [])) (fun v _ ih => match rtoD hp v with
    | some (x, k) => (match ih with
      | some (xs, ks) => some (x :: xs, rapp k ks)
      | none => none)
    | none => none) l
theorem rtoDs_eq (hp : Nat → Ob) (l : List V) : rtoDs hp l = toDs hp l := by
  induction l with
  | nil => rfl
  | cons v l ih =>
    show (match rtoD hp v with
    | some (x, k) => (match rtoDs hp l with
      | some (xs, ks) => some (x :: xs, rapp k ks)
      | none => none)
    | none => none) = _
    rw [ih, rtoD_eq]
    simp only [toDs, rapp_eq]
    cases toD hp v with
    | none => rfl
    | some p => simp only [Option.bind_some]; cases toDs hp l <;> rfl
noncomputable def rsplice {α : Type} (l : List α) (off : Nat) (c : List α) : List α := rapp (rtake l off) (rapp c (rdrop l (Nat.add off (rlen c))))
theorem rsplice_eq {α : Type} (l : List α) (off : Nat) (c : List α) : rsplice l off c = splice l off c := by
  unfold rsplice splice
  simp only [rapp_eq, rtake_eq, rdrop_eq, rlen_eq]; rfl
noncomputable def rset {α : Type} (l : List α) (y : α) : Nat → List α := List.rec (motive := fun _ => Nat → List α) (fun _ => []) (fun x r ih i => Bool.rec (x :: ih (Nat.sub i 1)) (y :: r) (Nat.beq i 0)) l
theorem rset_eq {α : Type} (l : List α) (y : α) : ∀ i, rset l y i = l.set i y := by
  induction l with
  | nil => intro i; rfl
  | cons x l ih =>
    intro i
    cases i with
    | zero => rfl
    | succ i => show x :: rset l y i = _; rw [ih]; rfl
noncomputable def rmem (l : List Nat) (i : Nat) : Bool := List.rec (motive := fun _ => Bool) false (fun x _ ih => Bool.rec ih true (Nat.beq x i)) l
theorem rmem_eq (l : List Nat) (i : Nat) : rmem l i = decide (i ∈ l) := by
  induction l with
  | nil => rfl
  | cons x l ih =>
    show br (Nat.beq x i) true (rmem l i) = _
    rw [br_eq, ih, Bool.eq_iff_iff]
    simp only [Nat.beq_eq, decide_eq_true_eq, List.mem_cons]
    by_cases h : x = i
    · simp [h]
    · simp [h, show ¬ i = x from fun e => h e.symm]
noncomputable def rdeads (ks : List Nat) : List (Nat × Ob) := rmap (fun k => (k, Ob.dead)) ks
theorem rdeads_eq (ks : List Nat) : rdeads ks = deads ks := rmap_eq _ _
noncomputable def eStore (hp : Nat → Ob) (n : Nat) (a x : V) : Option Dl := match rcells x with
  | none => none
  | some c => br (Nat.beq (rlen c) n) (match a with
    | .ptr id off => (match hp id with
      | .box ty cs => br (Nat.ble (Nat.add off n) (rlen cs)) (some ⟨.tup [], [(id, .box ty (rsplice cs off c))], [id]⟩) none
      | _ => none)
    | .eptr id i off => (match hp id with
      | .vec ty sz es => (match rtoDs hp c with
        | some (ds, ks) => (match rnth es i with
          | some el => br (Nat.ble (Nat.add off n) (rlen el)) (br (rmem ks id) none (some ⟨.tup [], (id, .vec ty sz (rset es (rsplice el off ds) i)) :: rdeads ks, id :: ks⟩)) none
          | none => none)
        | none => none)
      | _ => none)
    | _ => none) none
noncomputable def rfillV (e : List (Nat × V)) (ps : List (Nat × Nat × Go.PG.X)) : List V → Option (List V) := List.rec (motive := fun _ => List V → Option (List V)) (fun cs => some cs)
  (fun p _ ih cs => match rcells (rX e p.2.2) with
    | some c => br (Nat.beq (rlen c) p.2.1) (br (Nat.ble (Nat.add p.1 p.2.1) (rlen cs)) (ih (rsplice cs p.1 c)) none) none
    | none => none) ps
theorem rfillV_eq (e : List (Nat × V)) (ps : List (Nat × Nat × Go.PG.X)) : ∀ cs, rfillV e ps cs = fillV e cs ps := by
  induction ps with
  | nil => intro cs; simp only [fillV]; rfl
  | cons p ps ih =>
    obtain ⟨off, n, x⟩ := p
    intro cs
    show (match rcells (rX e x) with
    | some c => br (Nat.beq (rlen c) n) (br (Nat.ble (Nat.add off n) (rlen cs)) (rfillV e ps (rsplice cs off c)) none) none
    | none => none) = _
    simp only [fillV, rX_eq, rcells_eq]
    cases (x.val e).cells with
    | none => rfl
    | some c =>
      simp only [Option.bind_some, br_eq, rlen_eq, Nat.beq_eq, Nat.ble_eq, ih, rsplice_eq]
      show (if c.length = n then if off + n ≤ cs.length then _ else _ else _) = _
      by_cases h1 : c.length = n <;> by_cases h2 : off + n ≤ cs.length <;> simp [h1, h2]
noncomputable def eBuild (e : List (Nat × V)) (z : List V) (ps : List (Nat × Nat × Go.PG.X)) : Option Dl := match rfillV e ps z with
  | some cs => some ⟨.agg cs, [], []⟩
  | none => none
noncomputable def eBox (nid ty : Nat) (x : V) : Option Dl := match rcells x with
  | some cs => some ⟨.ptr nid 0, [(nid, .box ty cs)], []⟩
  | none => none
noncomputable def elenOk (sz : Nat) (es : List (List D)) : Bool := rall (fun e => Nat.beq (rlen e) sz) es
theorem elenOk_eq (sz : Nat) (es : List (List D)) : elenOk sz es = es.all fun e => e.length == sz := by
  unfold elenOk
  rw [rall_eq]
  congr 1
  funext e
  rw [rlen_eq, Bool.eq_iff_iff]
  simp
noncomputable def relems (hp : Nat → Ob) (sz : Nat) (v : V) : Option (List (List D) × List Nat) := match v with
  | .d (.sl es) => br (elenOk sz es) (some (es, [])) none
  | .nil => some ([], [])
  | .vec id sz' off len => (match hp id with
    | .vec _ sz'' es => br (Nat.beq sz' sz) (br (Nat.beq sz'' sz) (br (Nat.ble (Nat.add off len) (rlen es)) (some (rtake (rdrop es off) len, [id])) none) none) none
    | _ => none)
  | v => elems hp sz v
theorem relems_eq (hp : Nat → Ob) (sz : Nat) (v : V) : relems hp sz v = elems hp sz v := by
  cases v <;> try rfl
  · rename_i d; cases d <;> try rfl
    rename_i es
    simp only [relems, elems, br_eq, elenOk_eq]
  · rename_i id sz' off len
    simp only [relems, elems]
    cases hp id <;> try rfl
    rename_i sz'' es
    simp only [br_eq, rlen_eq, rtake_eq, rdrop_eq, Nat.beq_eq, Nat.ble_eq]
    show (if sz' = sz then if sz'' = sz then if off + len ≤ es.length then _ else _ else _ else _) = _
    by_cases h0 : sz' = sz <;> by_cases h1 : sz'' = sz <;> by_cases h2 : off + len ≤ es.length <;> simp [h0, h1, h2]
noncomputable def eApp (hp : Nat → Ob) (nid ty sz bytes : Nat) (s x : V) : Option Dl := match relems hp sz x with
  | none => none
  | some (ys, f) => (match s with
    | .nil => br (Nat.ble (Nat.mul (rlen ys) bytes) room) (some ⟨.vec nid sz 0 (rlen ys), [(nid, .vec ty sz ys)], f⟩) none
    | .d (.sl es) => (match ys with
      | [] => some ⟨.d (.sl es), [], f⟩
      | _ => none)
    | .vec id sz' off len => (match hp id with
      | .vec ty'' sz'' es => br (Nat.beq sz' sz) (br (Nat.beq sz'' sz) (br (Nat.beq ty'' ty)
          (br (Nat.beq (Nat.add off len) (rlen es))
            (br (Nat.ble (Nat.mul (Nat.add len (rlen ys)) bytes) room) (some ⟨.vec nid sz 0 (Nat.add len (rlen ys)), [(nid, .vec ty sz (rapp (rdrop es off) ys)), (id, .dead)], id :: f⟩) none)
            (br (Nat.ble (Nat.add (Nat.add off len) (rlen ys)) (rlen es)) (some ⟨.vec id sz off (Nat.add len (rlen ys)), [(id, .vec ty sz (rsplice es (Nat.add off len) ys))], id :: f⟩) none)) none) none) none
      | _ => none)
    | _ => none)
end Go.PG.Fast
end
section
/- Pure Go: the evaluator once more, for quick runs by the kernel; it is the same. Part 4: calls, regions, code. -/
set_option linter.unusedSimpArgs false
set_option linter.unusedVariables false
namespace Go.PG.Fast
open Go Go.PG

/-! reach, renaming -/
noncomputable def rrefsL (l : List V) : List Nat := br (rall nor3 l) [] (V.refsL l)
theorem rrefsL_eq (l : List V) : rrefsL l = V.refsL l := by
  unfold rrefsL
  rw [br_eq]
  split
  · rename_i h; exact (rall3_spec h).symm
  · rfl
noncomputable def rorefs (o : Ob) : List Nat := match o with
  | .box _ cs => rrefsL cs
  | _ => []
theorem rorefs_eq (o : Ob) : rorefs o = o.refs := by cases o <;> first | rfl | exact rrefsL_eq _
noncomputable def rreach (hp : Nat → Ob) (n : Nat) : List Nat → List Nat → Option (List Nat) := Nat.rec (motive := fun _ => List Nat → List Nat → Option (List Nat))
  (fun todo acc => List.casesOn (motive := fun _ => Option (List Nat)) todo (some acc) (fun _ _ => none))
  (fun _ ih todo acc => List.casesOn (motive := fun _ => Option (List Nat)) todo (some acc) (fun i t => Bool.rec (ih (rapp t (rorefs (hp i))) (rapp acc [i])) (ih t acc) (rmem acc i))) n
theorem rreach_eq (hp : Nat → Ob) (n : Nat) : ∀ todo acc, rreach hp n todo acc = reach hp n todo acc := by
  induction n with
  | zero => intro todo acc; cases todo <;> (unfold reach; rfl)
  | succ n ih =>
    intro todo acc
    cases todo with
    | nil => unfold reach; rfl
    | cons i t =>
      show br (rmem acc i) (rreach hp n t acc) (rreach hp n (rapp t (rorefs (hp i))) (rapp acc [i])) = _
      rw [ih, ih, rapp_eq, rapp_eq, rorefs_eq, br_eq, rmem_eq]
      conv => rhs; unfold reach
      simp only [List.contains_iff_mem, decide_eq_true_eq]
noncomputable def ridx (l : List Nat) (i : Nat) : Nat := List.rec (motive := fun _ => Nat) 0 (fun x _ ih => Bool.rec (Nat.succ ih) 0 (Nat.beq x i)) l
theorem ridx_eq (l : List Nat) (i : Nat) : ridx l i = idxOf l i := by
  unfold idxOf
  induction l with
  | nil => rfl
  | cons x l ih =>
    show br (Nat.beq x i) 0 (Nat.succ (ridx l i)) = _
    rw [ih, br_eq, List.idxOf_cons]
    simp only [Nat.beq_eq]
    by_cases h : x = i
    · subst h; simp
    · rw [if_neg h, show (x == i) = false from by simpa using h]; rfl
noncomputable def rren (f : Nat → Nat) (v : V) : V := match v with
  | .vec id sz off len => .vec (f id) sz off len
  | .ptr id off => .ptr (f id) off
  | .eptr id i off => .eptr (f id) i off
  | .map id => .map (f id)
  | v => br (nor3 v) v (v.ren f)
theorem rren_eq (f : Nat → Nat) (v : V) : rren f v = v.ren f := by
  cases v <;> try rfl
  all_goals
    simp only [rren, br_eq]
    split
    · rename_i h; exact (ren_noref f _ (nor3_spec _ h)).symm
    · rfl
noncomputable def rrenL (f : Nat → Nat) (l : List V) : List V := rmap (rren f) l
theorem renL_map (f : Nat → Nat) (l : List V) : V.renL f l = l.map (V.ren f) := by
  induction l with
  | nil => rfl
  | cons v l ih => simp only [V.renL, ih, List.map_cons]
theorem rrenL_eq (f : Nat → Nat) (l : List V) : rrenL f l = V.renL f l := by
  unfold rrenL
  rw [rmap_eq, renL_map, show rren f = V.ren f from funext (rren_eq f)]
noncomputable def roren (f : Nat → Nat) (o : Ob) : Ob := match o with
  | .box ty cs => .box ty (rrenL f cs)
  | o => o
theorem roren_eq (f : Nat → Nat) (o : Ob) : roren f o = o.ren f := by
  cases o <;> try rfl
  simp only [roren, Ob.ren, rrenL_eq]
noncomputable def rrange (k : Nat) (n : Nat) : List Nat := Nat.rec (motive := fun _ => Nat → List Nat) (fun _ => []) (fun _ ih k => k :: ih (Nat.succ k)) n k
theorem rrange_eq' (n : Nat) : ∀ k, rrange k n = List.range' k n := by
  induction n with
  | zero => intro k; rfl
  | succ n ih => intro k; show k :: rrange (k + 1) n = _; rw [ih, List.range'_succ]
theorem rrange_eq (n : Nat) : rrange 0 n = List.range n := by rw [rrange_eq', List.range_eq_range']
noncomputable def rhd (obs : List Ob) (j : Nat) : Ob := match rnth obs j with
  | some o => o
  | none => .dead
noncomputable def rback (ids : List Nat) (nid j : Nat) : Nat := match rnth ids j with
  | some i => i
  | none => Nat.add nid (Nat.sub j (rlen ids))
noncomputable def eCall (call : CallT) (hp : Nat → Ob) (nid f : Nat) (args : List V) : Option Dl :=
  match rrefsL args with
  | [] => (match call f args [] with
    | some (res, obs, dirty) => (match obs with
      | [] => (match dirty with
        | [] => br (nor3 res) (some ⟨res, [], []⟩) (evalCall call hp nid f args)
        | _ => evalCall call hp nid f args)
      | _ => evalCall call hp nid f args)
    | none => none)
  | roots => (match rreach hp fuel roots [] with
    | some ids => (match call f (rrenL (ridx ids) args) (rmap (fun i => roren (ridx ids) (hp i)) ids) with
      | some (res, obs, dirty) => br (Nat.ble (rlen obs) (Nat.add (rlen ids) 8))
          (some { val := rren (rback ids nid) res,
                  upd := rapp (rmap (fun j => (rback ids nid j, roren (rback ids nid) (rhd obs j))) dirty)
                              (rmap (fun j => (Nat.add nid j, roren (rback ids nid) (rhd obs (Nat.add (rlen ids) j)))) (rrange 0 (Nat.sub (rlen obs) (rlen ids)))),
                  foot := ids }) none
      | none => none)
    | none => none)
theorem rhd_eq (obs : List Ob) (j : Nat) : rhd obs j = (obs[j]?).getD .dead := by
  unfold rhd; rw [rnth_eq]; cases obs[j]? <;> rfl
theorem rback_eq (ids : List Nat) (nid : Nat) : rback ids nid = fun j => (ids[j]?).getD (nid + (j - ids.length)) := by
  funext j
  unfold rback; rw [rnth_eq, rlen_eq]; cases ids[j]? <;> rfl
theorem eCall_eq (call : CallT) (hp : Nat → Ob) (nid f : Nat) (args : List V) : eCall call hp nid f args = evalCall call hp nid f args := by
  unfold eCall
  split
  · rename_i hr
    rw [rrefsL_eq] at hr
    have he : evalCall call hp nid f args = (call f args []).bind fun (res, obs, dirty) =>
        if obs.length ≤ 8 then
          let back := fun j => ([][j]?).getD (nid + (j - 0))
          some { val := res.ren back,
                 upd := (dirty.map fun j => (back j, ((obs[j]?).getD .dead).ren back)) ++
                        ((List.range (obs.length - 0)).map fun j => (nid + j, ((obs[0 + j]?).getD .dead).ren back)),
                 foot := [] }
        else none := by
      unfold evalCall
      rw [hr, show reach hp fuel [] [] = some [] from by unfold fuel reach; rfl]
      simp only [Option.bind_some, List.map_nil, List.length_nil, Nat.zero_add]
      rw [renL_noref _ _ hr]
    split
    · rename_i res obs dirty hc
      split
      · split
        · rw [br_eq]
          split
          · rename_i hres
            rw [he, hc]
            simp [ren_noref _ _ (nor3_spec _ hres)]
          · rfl
        · rfl
      · rfl
    · rename_i hc; rw [he, hc]; rfl
  · rename_i hr
    rw [rreach_eq, rrefsL_eq]
    unfold evalCall
    cases reach hp fuel (V.refsL args) [] with
    | none => rfl
    | some ids =>
      simp only [Option.bind_some, rrenL_eq, rmap_eq, show ridx ids = idxOf ids from funext (ridx_eq ids), roren_eq]
      cases call f (V.renL (idxOf ids) args) (ids.map fun i => (hp i).ren (idxOf ids)) with
      | none => rfl
      | some r =>
        obtain ⟨res, obs, dirty⟩ := r
        simp only [Option.bind_some, br_eq, rlen_eq, Nat.ble_eq, rren_eq, rapp_eq, rhd_eq, rback_eq, rrange_eq]
        rfl
noncomputable def evalOpR (call : CallT) (e : List (Nat × V)) (hp : Nat → Ob) (nid : Nat) (o : PO) : Option Dl := match o with
  | .mv x => some ⟨rX e x, [], []⟩
  | .pick c a b => ePick (rX e c) (rX e a) (rX e b)
  | .alloc ty z => some ⟨.ptr nid 0, [(nid, .box ty z)], []⟩
  | .box ty x => eBox nid ty (rX e x)
  | .build z ps => eBuild e z ps
  | .load1 x => eLoad1 hp (rX e x)
  | .loadn n x => eLoadn hp n (rX e x)
  | .store n a x => eStore hp n (rX e a) (rX e x)
  | .bin op x y => eBin op (rX e x) (rX e y)
  | .fld agg off n x => eFld agg off n (rX e x)
  | .iaddr sz x i => eIaddr sz (rX e x) (rX e i)
  | .idx x i => eIdx (rX e x) (rX e i)
  | .ext x i => eExt (rX e x) i
  | .lenS x => eLenS (rX e x)
  | .lenL x => eLenL (rX e x)
  | .app ty sz bytes s x => eApp hp nid ty sz bytes (rX e s) (rX e x)
  | .call f args => eCall call hp nid f (rmap (rX e) args)
  | .callv f args => (match rX e f with
    | .fn g cap => eCall call hp nid g (rapp (rmap (rX e) args) cap)
    | _ => none)
  | o => evalOp call e hp nid o
theorem evalOpR_eq (call : CallT) (e : List (Nat × V)) (hp : Nat → Ob) (nid : Nat) (o : PO) : evalOpR call e hp nid o = evalOp call e hp nid o := by
  cases o <;> (try simp only [evalOpR, rX_eq]) <;> try rfl
  case pick c a b =>
    simp only [evalOp, ePick]
    split
    · rename_i t h; rw [h]; cases t <;> rfl
    · rename_i h; split
      · rename_i t h'; exact absurd h' (h t)
      · rfl
  case box ty x => simp only [evalOp, eBox, rcells_eq]; cases (x.val e).cells <;> rfl
  case build z ps => simp only [evalOp, eBuild, rfillV_eq]; cases fillV e z ps <;> rfl
  case load1 x =>
    simp only [evalOp, eLoad1, rnth_eq]
    cases x.val e <;> try rfl
    · rename_i id off; simp only; cases hp id <;> try rfl
      rename_i cs; simp only; cases cs[off]? <;> rfl
    · rename_i id i off; simp only; cases hp id <;> try rfl
      rename_i z es; simp only; cases es[i]? <;> try rfl
      rename_i c; simp only [Option.bind_some]; cases c[off]? <;> rfl
  case loadn n x =>
    simp only [evalOp, eLoadn, rnth_eq, br_eq, rlen_eq, rtake_eq, rdrop_eq, rmap_eq, Nat.ble_eq]
    cases x.val e <;> try rfl
    · rename_i id i off; simp only; cases hp id <;> try rfl
      rename_i z es; simp only; cases es[i]? <;> rfl
  case store n a x =>
    simp only [evalOp, eStore, rnth_eq, br_eq, rlen_eq, rcells_eq, rsplice_eq, rtoDs_eq, rset_eq, rdeads_eq, rmem_eq, Nat.ble_eq, Nat.beq_eq]
    cases (x.val e).cells with
    | none => rfl
    | some c =>
      simp only [Option.bind_some, ne_eq, ite_not]
      split
      · cases a.val e <;> try rfl
        rename_i id i off
        simp only
        cases hp id <;> try rfl
        rename_i ty sz es
        simp only
        cases toDs hp c with
        | none => rfl
        | some p =>
          obtain ⟨ds, ks⟩ := p
          simp only [Option.bind_some]
          cases es[i]? with
          | none => rfl
          | some el =>
            simp only [Option.bind_some, decide_eq_true_eq]
            show (if off + n ≤ el.length then if id ∈ ks then _ else _ else _) = _
            by_cases h1 : off + n ≤ el.length <;> by_cases h2 : id ∈ ks <;> simp [h1, h2]
      · rfl
  case bin op x y =>
    simp only [evalOp, eBin, rbin_eq]
    cases x.val e <;> try rfl
    cases y.val e <;> try rfl
    simp only; cases binD op _ _ <;> rfl
  case fld agg off n x =>
    simp only [evalOp, eFld, rnth_eq, br_eq, rlen_eq, rtake_eq, rdrop_eq]
    cases x.val e <;> try rfl
    rename_i cs
    simp only [Nat.ble_eq]
    show (if off + n ≤ cs.length then _ else _) = _
    split
    · cases agg
      · simp; cases cs[off]? <;> rfl
      · rfl
    · rfl
  case iaddr sz x i =>
    simp only [evalOp, eIaddr, rnth_eq, natV_eq, br_eq, rlen_eq]
    cases asNat (i.val e) <;> try rfl
    rename_i k
    simp only [Option.bind_some]
    cases x.val e <;> try rfl
    · rename_i d; cases d <;> try rfl
      rename_i es; simp only; cases es[k]? <;> try rfl
      rename_i c; simp only [Option.bind_some, Nat.beq_eq]; rfl
    · simp only [Nat.beq_eq, Nat.blt_eq]
      split <;> split <;> simp_all [pureD]
  case idx x i =>
    simp only [evalOp, eIdx, rnth_eq, natV_eq]
    cases asNat (i.val e) <;> try rfl
    rename_i k
    simp only [Option.bind_some]
    cases x.val e <;> try rfl
    rename_i d; cases d <;> try rfl
    rename_i s; simp only; cases s[k]? <;> rfl
  case ext x i =>
    simp only [evalOp, eExt, rnth_eq]
    cases x.val e <;> try rfl
    rename_i vs; simp only; cases vs[i]? <;> rfl
  case lenS x =>
    simp only [evalOp, eLenS, rlen_eq]
    cases x.val e <;> rfl
  case lenL x =>
    simp only [evalOp, eLenL, rlen_eq]
    cases x.val e <;> rfl
  case app ty sz bytes s x =>
    simp only [evalOp, eApp, relems_eq, br_eq, rlen_eq, rapp_eq, rdrop_eq, rsplice_eq]
    cases elems hp sz (x.val e) with
    | none => rfl
    | some p =>
      obtain ⟨ys, f⟩ := p
      simp only [Option.bind_some]
      cases s.val e <;> try rfl
      · rename_i d; cases d <;> try rfl
        rename_i es; cases ys <;> rfl
      · simp only [Nat.ble_eq]; rfl
      · rename_i id sz' off len
        simp only
        cases hp id <;> try rfl
        rename_i ty'' sz'' es
        simp only [Nat.beq_eq, Nat.ble_eq]
        show (if sz' = sz then if sz'' = sz then if ty'' = ty then if off + len = es.length then if (len + ys.length) * bytes ≤ room then _ else _ else if off + len + ys.length ≤ es.length then _ else _ else _ else _ else _) = _
        by_cases h0 : sz' = sz <;> by_cases h1 : sz'' = sz <;> by_cases h2 : ty'' = ty <;> simp only [h0, h1, h2, if_true, if_false, and_self, and_true, true_and, and_false, false_and] <;> rfl
  case call f args =>
    rw [eCall_eq, rmap_eq]
    simp only [evalOp]
    congr 1
    exact List.map_congr_left fun x _ => rX_eq e x
  case callv f args =>
    simp only [evalOp]
    cases f.val e <;> try rfl
    simp only [eCall_eq, rapp_eq, rmap_eq]
    congr 2
    exact List.map_congr_left fun x _ => rX_eq e x
end Go.PG.Fast
end
section
/- Pure Go: the evaluator once more, for quick runs by the kernel; it is the same. Part 5: code, functions. -/
set_option linter.unusedSimpArgs false
set_option linter.unusedVariables false
namespace Go.PG.Fast
open Go Go.PG

noncomputable def rputs (env : List (Nat × V)) (dst : Option Nat) (v : V) : List (Nat × V) := match dst with
  | some t => (t, v) :: env
  | none => env
theorem rputs_eq (env : List (Nat × V)) (dst : Option Nat) (v : V) : rputs env dst v = eputO env dst v := by cases dst <;> rfl
noncomputable def rput {α : Type} (u h : List (Nat × α)) : List (Nat × α) := List.rec (motive := fun _ => List (Nat × α) → List (Nat × α)) (fun h => h) (fun p _ ih h => ih (p :: h)) u h
theorem rput_eq (u : List (Nat × Ob)) : ∀ h, rput u h = putAll h u := by
  induction u with
  | nil => intro h; rfl
  | cons p u ih => obtain ⟨i, o⟩ := p; intro h; show rput u ((i, o) :: h) = _; rw [ih]; rfl
noncomputable def rdirty (na : Nat) (u : List (Nat × Ob)) (l : List Nat) : List Nat := List.rec (motive := fun _ => List Nat → List Nat) (fun l => l)
  (fun p _ ih l => ih (Bool.rec l (Bool.rec (rapp l [p.1]) l (rmem l p.1)) (Nat.blt p.1 na))) u l
theorem rdirty_eq (na : Nat) (u : List (Nat × Ob)) : ∀ l, rdirty na u l = addDirty na u l := by
  induction u with
  | nil => intro l; rfl
  | cons p u ih =>
    obtain ⟨i, o⟩ := p
    intro l
    show rdirty na u (br (Nat.blt i na) (br (rmem l i) l (rapp l [i])) l) = _
    rw [ih, br_eq, br_eq, rmem_eq, rapp_eq]
    simp only [addDirty, Nat.blt_eq, decide_eq_true_eq, List.contains_iff_mem]
    congr 1
    by_cases h1 : i < na <;> by_cases h2 : i ∈ l <;> simp [h1, h2]
noncomputable def rstep (s : St) (dst : Option Nat) (δ : Dl) : St := match s with
  | ⟨env, heap, nx, na, dirty⟩ => (match δ with
    | ⟨v, u, _⟩ => ⟨rputs env dst v, rput u heap, nx, na, rdirty na u dirty⟩)
theorem rstep_eq (s : St) (dst : Option Nat) (δ : Dl) : rstep s dst δ = s.step dst δ := by
  obtain ⟨env, heap, nx, na, dirty⟩ := s
  obtain ⟨v, u, f⟩ := δ
  simp only [rstep, rputs_eq, rput_eq, rdirty_eq, St.step]
noncomputable def rAt (call : CallT) (nid : Nat) (o : POp) (s : St) : Option Dl := match o with
  | ⟨_, op, g⟩ => (match g with
    | none => (match s with
      | ⟨env, heap, _, _, _⟩ => evalOpR call env (rget .dead heap) nid op)
    | some _ => opAt call nid o s)
theorem rAt_eq (call : CallT) (nid : Nat) (o : POp) (s : St) : rAt call nid o s = opAt call nid o s := by
  obtain ⟨d, op, g⟩ := o
  cases g with
  | none => obtain ⟨env, heap, nx, na, dirty⟩ := s; simp only [rAt, opAt, evalOpR_eq]; congr 1; funext i; exact rget_eq _ _ _
  | some g => rfl
noncomputable def rOps (call : CallT) (ops : List POp) : Nat → St → Option St := List.rec (motive := fun _ => Nat → St → Option St) (fun _ s => some s)
  (fun o _ ih nid s => match rAt call nid o s with
    | some δ => ih (Nat.add nid 8) (rstep s o.dst δ)
    | none => none) ops
theorem rOps_eq (call : CallT) (ops : List POp) : ∀ nid s, rOps call ops nid s = evalOps call nid ops s := by
  induction ops with
  | nil => intro nid s; rfl
  | cons o ops ih =>
    intro nid s
    show (match rAt call nid o s with
    | some δ => rOps call ops (nid + 8) (rstep s o.dst δ)
    | none => none) = _
    simp only [evalOps, rAt_eq, rstep_eq, ih]
    cases opAt call nid o s <;> rfl
theorem adel_nil {α : Type} (l : List (Nat × α)) : adel [] l = l := by
  induction l with
  | nil => rfl
  | cons p l ih => obtain ⟨k, v⟩ := p; simp [adel, ih]
noncomputable def rReg' (call : CallT) (ops : List POp) (s : St) : Option St := match s with
  | ⟨env, heap, nx, na, dirty⟩ => (match rOps call ops nx ⟨env, heap, nx, na, dirty⟩ with
    | some ⟨e', h', _, _, d'⟩ => some ⟨e', h', Nat.add nx (Nat.mul 8 (rlen ops)), na, d'⟩
    | none => none)
noncomputable def rReg (call : CallT) (draw : Option (List (Nat × Nat))) (ops : List POp) (kills : List Nat) (s : St) : Option St :=
  match draw with
  | none => (match kills with
    | [] => rReg' call ops s
    | _ => evalReg call draw ops kills s)
  | some l => (match l with
    | [] => (match kills with
      | [] => rReg' call ops s
      | _ => evalReg call draw ops kills s)
    | _ => evalReg call draw ops kills s)
theorem ops_na (call : CallT) : ∀ (ops : List POp) (nid : Nat) (s s' : St), evalOps call nid ops s = some s' → s'.na = s.na := by
  intro ops
  induction ops with
  | nil => intro nid s s' h; simp only [evalOps, Option.some.injEq] at h; subst h; rfl
  | cons o ops ih =>
    intro nid s s' h
    simp only [evalOps, Option.bind_eq_some_iff] at h
    obtain ⟨δ, h1, h2⟩ := h
    rw [ih _ _ _ h2]; rfl
theorem rReg'_eq (call : CallT) (ops : List POp) (s : St) : rReg' call ops s = (evalOps call s.nx ops s).bind fun s' => some { s' with env := adel [] s'.env, nx := s.nx + stepNid * ops.length } := by
  obtain ⟨env, heap, nx, na, dirty⟩ := s
  simp only [rReg', rOps_eq, rlen_eq]
  cases h : evalOps call nx ops ⟨env, heap, nx, na, dirty⟩ with
  | none => rfl
  | some s' =>
    have := ops_na call _ _ _ _ h
    obtain ⟨e', h', nx', na', d'⟩ := s'
    simp only at this
    subst this
    simp only [Option.bind_some, adel_nil]
    rfl
theorem rReg_eq (call : CallT) (draw : Option (List (Nat × Nat))) (ops : List POp) (kills : List Nat) (s : St) : rReg call draw ops kills s = evalReg call draw ops kills s := by
  cases draw with
  | none => cases kills with
    | nil => simp only [rReg, rReg'_eq]; rfl
    | cons k ks => rfl
  | some l => cases l with
    | nil => cases kills with
      | nil => simp only [rReg, rReg'_eq]; rfl
      | cons k ks => rfl
    | cons p l => rfl

noncomputable def rkeep (ks : List Nat) (e : List (Nat × V)) : List (Nat × V) := rmap (fun k => (k, rget .any e k)) ks
theorem rkeep_eq (ks : List Nat) (e : List (Nat × V)) : rkeep ks e = akeep ks e := by
  unfold rkeep akeep
  rw [rmap_eq]
  exact List.map_congr_left fun k _ => by rw [rget_eq]
noncomputable def envNo (e : List (Nat × V)) : Bool := rall (fun p => nor3 p.2) e
theorem envNo_spec : ∀ e, envNo e = true → envRefs e = [] ∧ ∀ f, envRen f e = e
  | [], _ => ⟨rfl, fun _ => rfl⟩
  | (t, v) :: r, h => by
    unfold envNo at h
    rw [rall_eq, List.all_cons, Bool.and_eq_true, ← rall_eq] at h
    obtain ⟨h1, h2⟩ := envNo_spec r h.2
    have hv := nor3_spec _ h.1
    exact ⟨by simp [envRefs, hv, h1], fun f => by simp [envRen, h2, ren_noref f v hv]⟩
noncomputable def renvRefs (e : List (Nat × V)) : List Nat := List.rec (motive := fun _ => List Nat) [] (fun p _ ih => Bool.rec (rapp p.2.refs ih) ih (nor3 p.2)) e
theorem renvRefs_eq (e : List (Nat × V)) : renvRefs e = envRefs e := by
  induction e with
  | nil => rfl
  | cons p e ih =>
    obtain ⟨t, v⟩ := p
    show br (nor3 v) (renvRefs e) (rapp v.refs (renvRefs e)) = _
    rw [ih, br_eq, rapp_eq]
    simp only [envRefs]
    split
    · rename_i h; rw [nor3_spec v h]; rfl
    · rfl
noncomputable def renvRen (f : Nat → Nat) (e : List (Nat × V)) : List (Nat × V) := rmap (fun p => (p.1, rren f p.2)) e
theorem renvRen_eq (f : Nat → Nat) (e : List (Nat × V)) : renvRen f e = envRen f e := by
  unfold renvRen
  rw [rmap_eq]
  induction e with
  | nil => rfl
  | cons p e ih => obtain ⟨t, v⟩ := p; rw [List.map_cons, ih]; simp only [envRen, rren_eq]
noncomputable def rnumber {α : Type} (l : List α) : Nat → List (Nat × α) := List.rec (motive := fun _ => Nat → List (Nat × α)) (fun _ => []) (fun x _ ih k => (k, x) :: ih (Nat.succ k)) l
theorem rnumber_eq {α : Type} (l : List α) : ∀ k, rnumber l k = number k l := by
  induction l with
  | nil => intro k; rfl
  | cons x l ih => intro k; show (k, x) :: rnumber l (k + 1) = _; rw [ih]; rfl
noncomputable def rtidy (e : List (Nat × V)) (heap : List (Nat × Ob)) (na : Nat) (dirty : List Nat) : Option St :=
  match rreach (rget .dead heap) fuel (rapp (rrange 0 na) (renvRefs e)) [] with
  | some ids => some ⟨renvRen (ridx ids) e, rnumber (rmap (fun i => roren (ridx ids) (rget .dead heap i)) ids) 0, rlen ids, na, dirty⟩
  | none => none
theorem rtidy_eq (e : List (Nat × V)) (heap : List (Nat × Ob)) (nx na : Nat) (dirty : List Nat) : rtidy e heap na dirty = (St.mk e heap nx na dirty).tidy := by
  unfold rtidy St.tidy
  simp only [rreach_eq, rapp_eq, rrange_eq, renvRefs_eq, show rget Ob.dead heap = hget heap from funext fun i => rget_eq _ _ _]
  cases reach (hget heap) fuel (List.range na ++ envRefs e) [] with
  | none => rfl
  | some ids => simp only [Option.bind_some, renvRen_eq, show ridx ids = idxOf ids from funext (ridx_eq ids), rnumber_eq, rmap_eq, roren_eq, rlen_eq]
noncomputable def rhead (s : St) (ks : List Nat) (vs : List (Nat × Option Nat × Nat)) : Option St :=
  match vs with
  | [] => (match s with
    | ⟨env, heap, _, na, dirty⟩ => (fun e => br (br (Nat.beq na 0) (envNo e) false) (some ⟨e, [], 0, na, dirty⟩) (rtidy e heap na dirty)) (rkeep ks env))
  | _ => s.head ks vs
theorem rhead_eq (s : St) (ks : List Nat) (vs : List (Nat × Option Nat × Nat)) : rhead s ks vs = s.head ks vs := by
  cases vs with
  | cons v vs => rfl
  | nil =>
    obtain ⟨env, heap, nx, na, dirty⟩ := s
    simp only [rhead, rkeep_eq, br_eq, rtidy_eq _ _ nx]
    unfold St.head St.virt
    by_cases h0 : na.beq 0 = true
    · by_cases h1 : envNo (akeep ks env) = true
      · have h0 := Nat.eq_of_beq_eq_true h0
        subst h0
        obtain ⟨h1', h2⟩ := envNo_spec _ h1
        simp only [h1, if_true, show Nat.beq 0 0 = true from rfl]
        unfold St.tidy
        simp only [h1', List.range_zero, List.append_nil, show reach (hget heap) fuel [] [] = some [] from by unfold fuel reach; rfl, Option.bind_some, h2, List.map_nil, number, List.length_nil]
      · simp only [h0, if_true, if_neg h1]
    · simp [h0]
noncomputable def rleave (s : St) (k : Option (List Nat)) : Option (Ex × St) := match k with
  | none => some (.normal, s)
  | some ks => (match rhead s ks [] with
    | some s => some (.normal, s)
    | none => none)
theorem rleave_eq (s : St) (k : Option (List Nat)) : rleave s k = s.leave k := by
  cases k with
  | none => rfl
  | some ks => simp only [rleave, St.leave, rhead_eq]; cases s.head ks [] <;> rfl
noncomputable def rthen (r : Option (Ex × St)) (k : St → Option (Ex × St)) : Option (Ex × St) := match r with
  | none => none
  | some p => (match p with
    | (e, s) => (match e with
      | .normal => k s
      | .exit j => some (.exit j, s)
      | .ret => some (.ret, s)))
noncomputable def rC (call : CallT) (n : Nat) : PC → St → Option (Ex × St) := Nat.rec (motive := fun _ => PC → St → Option (Ex × St)) (fun _ _ => none)
  (fun _ ih c s => match c with
    | .skip => some (.normal, s)
    | .reg d ops ks => (match rReg call d ops ks s with
      | some s => some (.normal, s)
      | none => none)
    | .seq a b => rthen (ih a s) (ih b)
    | .cond x a b => (match rX s.env x with
      | .d (.bool t) => br t (ih a s) (ih b s)
      | _ => none)
    | .blk id k a => (match ih a s with
      | none => none
      | some p => (match p with
        | (e, s') => (match e with
          | .normal => rleave s' k
          | .exit j => br (Nat.beq j id) (rleave s' k) (some (.exit j, s'))
          | .ret => some (.ret, s'))))
    | .loop ks vs a => (match rhead s ks vs with
      | some s => rthen (ih a s) (ih (.loop ks vs a))
      | none => none)
    | .exit id => some (.exit id, s)
    | .ret => some (.ret, s)
    | .bad => none) n
theorem rC_eq (call : CallT) : ∀ (n : Nat) (c : PC) (s : St), rC call n c s = evalC call n c s := by
  intro n
  induction n with
  | zero => intro c s; rfl
  | succ n ih =>
    intro c s
    have ih' : rC call n = evalC call n := by funext c s; exact ih c s
    cases c with
    | reg d ops ks => show (match rReg call d ops ks s with | some s => some (Ex.normal, s) | none => none) = _; simp only [evalC, rReg_eq]; cases evalReg call d ops ks s <;> rfl
    | seq a b =>
      show rthen (rC call n a s) (rC call n b) = _
      rw [ih']
      simp only [evalC]
      cases evalC call n a s with
      | none => rfl
      | some r => obtain ⟨e, s'⟩ := r; cases e <;> rfl
    | cond x a b =>
      show (match rX s.env x with | .d (.bool t) => br t (rC call n a s) (rC call n b s) | _ => none) = _
      simp only [evalC, rX_eq, ih', br_eq]
      rfl
    | blk id k a =>
      show (match rC call n a s with
      | none => none
      | some p => (match p with
        | (e, s') => (match e with
          | .normal => rleave s' k
          | .exit j => br (Nat.beq j id) (rleave s' k) (some (.exit j, s'))
          | .ret => some (.ret, s')))) = _
      simp only [evalC, ih', rleave_eq, br_eq, Nat.beq_eq]
      cases evalC call n a s with
      | none => rfl
      | some r => obtain ⟨e, s'⟩ := r; cases e <;> rfl
    | loop ks vs a =>
      show (match rhead s ks vs with | some s => rthen (rC call n a s) (rC call n (.loop ks vs a)) | none => none) = _
      simp only [evalC, ih', rhead_eq]
      cases s.head ks vs with
      | none => rfl
      | some s0 =>
        simp only [Option.bind_some]
        cases evalC call n a s0 with
        | none => rfl
        | some r => obtain ⟨e, s'⟩ := r; cases e <;> rfl
    | _ => rfl

/-! functions -/
noncomputable def rargs (l : List V) : Nat → List (Nat × V) := rnumber l
theorem rargs_eq (l : List V) : ∀ k, rargs l k = argsEnv k l := by
  induction l with
  | nil => intro k; rfl
  | cons x l ih => intro k; show (k, x) :: rargs l (k + 1) = _; rw [ih]; rfl
noncomputable def rstart (args : List V) (obs : List Ob) : St := ⟨rargs args 0, rnumber obs 0, rlen obs, rlen obs, []⟩
theorem rstart_eq (args : List V) (obs : List Ob) : rstart args obs = start args obs := by
  unfold rstart start
  rw [rargs_eq, rnumber_eq, rlen_eq]
noncomputable def rrv (env : List (Nat × V)) (hp : Nat → Ob) (r : RV) : Option V := match r with
  | .t n => some (rget .any env n)
  | .c1 n => (match rget .any env n with
    | .ptr id o => (match hp id with
      | .box _ cs => rnth cs o
      | _ => none)
    | _ => none)
  | .cn n k => (match rget .any env n with
    | .ptr id o => (match hp id with
      | .box _ cs => br (Nat.ble (Nat.add o k) (rlen cs)) (some (.agg (rtake (rdrop cs o) k))) none
      | _ => none)
    | _ => none)
theorem rrv_eq (s : St) (r : RV) : rrv s.env (hget s.heap) r = rvVal s r := by
  cases r with
  | t n => simp only [rrv, rvVal, rget_eq]
  | c1 n => simp only [rrv, rvVal, rget_eq, rnth_eq]; rfl
  | cn n k =>
    simp only [rrv, rvVal, rget_eq, rlen_eq, rtake_eq, rdrop_eq, br_eq, Nat.ble_eq]
    rfl
noncomputable def rrvs (env : List (Nat × V)) (hp : Nat → Ob) (l : List RV) : Option (List V) := List.rec (motive := fun _ => Option (List V)) (some []) (fun r _ ih => match rrv env hp r with
  | some v => (match ih with
    | some vs => some (v :: vs)
    | none => none)
  | none => none) l
theorem rrvs_eq (s : St) (l : List RV) : rrvs s.env (hget s.heap) l = rvVals s l := by
  induction l with
  | nil => rfl
  | cons r l ih =>
    show (match rrv s.env (hget s.heap) r with
    | some v => (match rrvs s.env (hget s.heap) l with
      | some vs => some (v :: vs)
      | none => none)
    | none => none) = _
    rw [ih, rrv_eq]
    simp only [rvVals]
    cases rvVal s r with
    | none => rfl
    | some v => simp only [Option.bind_some]; cases rvVals s l <;> rfl
/-- a cell -/
noncomputable def rfrz1 (hp : Nat → Ob) (v : V) : Option (V × List Nat) := match v with
  | .d x => some (.d x, [])
  | .nil => some (.d (.sl []), [])
  | .vec id sz off len => (match rtoD hp (.vec id sz off len) with
    | some (x, k) => some (.d x, k)
    | none => none)
  | v => frz hp v
theorem rfrz1_eq (hp : Nat → Ob) (v : V) : rfrz1 hp v = frz hp v := by
  cases v <;> try rfl
  simp only [rfrz1, frz, rtoD_eq]
  cases toD hp _ <;> rfl
noncomputable def rfrzL (hp : Nat → Ob) (one : V → Option (V × List Nat)) (l : List V) : Option (List V × List Nat) := List.rec (motive := fun _ => Option (List V × List Nat)) (some ([], [])) (fun v _ ih => match one v with
  | some (x, k) => (match ih with
    | some (xs, ks) => some (x :: xs, rapp k ks)
    | none => none)
  | none => none) l
theorem rfrzL_eq (hp : Nat → Ob) (one : V → Option (V × List Nat)) (h1 : ∀ v, one v = frz hp v) (l : List V) : rfrzL hp one l = frzL hp l := by
  induction l with
  | nil => rfl
  | cons v l ih =>
    show (match one v with
    | some (x, k) => (match rfrzL hp one l with
      | some (xs, ks) => some (x :: xs, rapp k ks)
      | none => none)
    | none => none) = _
    rw [ih, h1]
    simp only [frzL, rapp_eq]
    cases frz hp v with
    | none => rfl
    | some p => simp only [Option.bind_some]; cases frzL hp l <;> rfl
noncomputable def rfrz (hp : Nat → Ob) (v : V) : Option (V × List Nat) := match v with
  | .agg cs => (match rfrzL hp (rfrz1 hp) cs with
    | some (c, k) => some (.agg c, k)
    | none => none)
  | v => rfrz1 hp v
theorem rfrz_eq (hp : Nat → Ob) (v : V) : rfrz hp v = frz hp v := by
  cases v with
  | agg cs =>
    simp only [rfrz, frz, rfrzL_eq hp _ (rfrz1_eq hp)]
    cases frzL hp cs <;> rfl
  | vec id sz off len => exact rfrz1_eq hp (.vec id sz off len)
  | _ => rfl
noncomputable def rretV (vs : List V) : V := match vs with
  | [] => .tup []
  | v :: r => (match r with
    | [] => v
    | _ => .tup (v :: r))
theorem rretV_eq (vs : List V) : rretV vs = retV vs := by
  match vs with
  | [] => rfl
  | [v] => rfl
  | v :: w :: r => rfl
noncomputable def rout (vs : List V) (h : List (Nat × Ob)) (na : Nat) (dirty : List Nat) : Option (V × List Ob × List Nat) :=
  match rreach (rget .dead h) fuel (rapp (rrange 0 na) (rrefsL vs)) [] with
  | some ids => (match ids with
    | [] => some (rretV vs, [], dirty)
    | _ => some (rretV (rrenL (ridx ids) vs), rmap (fun i => roren (ridx ids) (rget .dead h i)) ids, dirty))
  | none => none
noncomputable def rfin (F : PFn) (s : St) : Option (V × List Ob × List Nat) := match s with
  | ⟨env, heap, nx, na, dirty⟩ => (match F with
    | ⟨_, _, res, keep, _⟩ => (match rrvs env (rget .dead heap) res with
      | some vs => (match br keep (some (vs, [])) (rfrzL (rget .dead heap) (rfrz (rget .dead heap)) vs) with
        | some (vs, ks) => rout vs (rput (rdeads ks) heap) na (rdirty na (rdeads ks) dirty)
        | none => none)
      | none => none))
theorem reach_nil_refs {hp : Nat → Ob} {n : Nat} {roots : List Nat} (h : reach hp n roots [] = some []) : roots = [] := by
  cases roots with
  | nil => rfl
  | cons i t =>
    exfalso
    have := reach_closed h
    have := this.2.1 i (by simp)
    cases this
theorem rfin_eq (F : PFn) (s : St) : rfin F s = finish F s := by
  obtain ⟨env, heap, nx, na, dirty⟩ := s
  obtain ⟨np, nt, res, keep, body⟩ := F
  have hh : ∀ h : List (Nat × Ob), rget Ob.dead h = hget h := fun h => funext fun i => rget_eq _ _ _
  simp only [rfin, finish, hh, show rrvs env (hget heap) res = rvVals ⟨env, heap, nx, na, dirty⟩ res from rrvs_eq ⟨env, heap, nx, na, dirty⟩ res, rfrzL_eq _ _ (rfrz_eq _), br_eq]
  cases rvVals ⟨env, heap, nx, na, dirty⟩ res with
  | none => rfl
  | some vs =>
    simp only [Option.bind_some]
    cases (if keep = true then some (vs, []) else frzL (hget heap) vs) with
    | none => rfl
    | some p =>
      obtain ⟨vs', ks⟩ := p
      simp only [Option.bind_some, rdeads_eq, rput_eq, rdirty_eq, rout, hh, rreach_eq, rapp_eq, rrange_eq, rrefsL_eq, rretV_eq]
      cases hr : reach (hget (putAll heap (deads ks))) fuel (List.range na ++ V.refsL vs') [] with
      | none => rfl
      | some ids =>
        simp only [Option.bind_some]
        cases ids with
        | nil =>
          have h0 := reach_nil_refs hr
          simp only [List.append_eq_nil_iff] at h0
          simp only [List.map_nil, renL_noref _ _ h0.2]
        | cons i ids => simp only [rrenL_eq, show ridx (i :: ids) = idxOf (i :: ids) from funext (ridx_eq _), rmap_eq, roren_eq]
noncomputable def rFn (call : CallT) (n : Nat) (F : PFn) (args : List V) (obs : List Ob) : Option (V × List Ob × List Nat) :=
  br (Nat.beq (rlen args) F.np) (match rC call n F.body (rstart args obs) with
    | none => none
    | some p => (match p with
      | (e, s) => (match e with
        | .normal => rfin F s
        | .ret => rfin F s
        | .exit _ => none))) none
theorem rFn_eq (call : CallT) (n : Nat) (F : PFn) (args : List V) (obs : List Ob) : rFn call n F args obs = evalFn call n F args obs := by
  unfold rFn evalFn
  simp only [rC_eq, br_eq, Nat.beq_eq, rlen_eq, rstart_eq, rfin_eq]
  by_cases h : args.length = F.np
  · simp only [h, if_true, ne_eq, not_true, if_false]
    cases evalC call n F.body (start args obs) with
    | none => rfl
    | some r => obtain ⟨e, s⟩ := r; cases e <;> rfl
  · simp only [h, if_false, ne_eq, not_false_iff, if_true]
noncomputable def rLook {α : Type} (t : Tree α) (f : Nat) : Option α := Tree.rec (motive := fun _ => Option α) none (fun k x _ _ l r => Bool.rec (Bool.rec r l (Nat.blt f k)) (some x) (Nat.beq f k)) t
theorem rLook_eq {α : Type} (t : Tree α) (f : Nat) : rLook t f = t.look f := by
  induction t with
  | nil => rfl
  | node k x l r h1 h2 =>
    show br (Nat.beq f k) (some x) (br (Nat.blt f k) (rLook l f) (rLook r f)) = bif Nat.beq f k then some x else bif Nat.blt f k then l.look f else r.look f
    rw [h1, h2, br_eq, br_eq]
    cases Nat.beq f k <;> cases Nat.blt f k <;> rfl
noncomputable def callR (fns : Tree PFn) (hook : CallT) (n : Nat) : CallT := Nat.rec (motive := fun _ => CallT) (fun _ _ _ => none)
  (fun n ih f args obs => match hook f args obs with
    | some r => some r
    | none => (match rLook fns f with
      | some F => rFn ih n F args obs
      | none => none)) n
theorem callR_eq (fns : Tree PFn) (hook : CallT) : ∀ n, callR fns hook n = callK ⟨fns.look, hook⟩ n := by
  intro n
  induction n with
  | zero => rfl
  | succ n ih =>
    funext f args obs
    show (match hook f args obs with
    | some r => some r
    | none => (match rLook fns f with
      | some F => rFn (callR fns hook n) n F args obs
      | none => none)) = _
    simp only [callK, ih, rFn_eq, rLook_eq]
    cases hook f args obs <;> rfl
theorem callL_of {fns : Tree PFn} {hook : CallT} {n f : Nat} {args : List V} {obs : List Ob} {r : V × List Ob × List Nat} (h : callR fns hook n f args obs = some r) : callL ⟨fns.look, hook⟩ f args obs = some r :=
  callL_iff.2 ⟨n, by rw [← callR_eq]; exact h⟩
end Go.PG.Fast
end
section
/- Pure Go: the evaluator once more, for quick runs by the kernel; it is the same. Part 6: the hooks; results that are known already. -/
set_option linter.unusedSimpArgs false
set_option linter.unusedVariables false
namespace Go.PG.Fast
open Go Go.PG

noncomputable def rev (k : HK) (args : List V) (obs : List Ob) : Option (V × List Ob × List Nat) := match k with
  | .clone ty sz by' => (match args with
    | [v] => (match v with
      | .d (.str _) => none
      | v => (match relems (rhd obs) sz v with
        | some (ys, _) => br (Nat.ble (Nat.mul (rlen ys) by') room) (some (.vec (rlen obs) sz 0 (rlen ys), rapp obs [.vec ty sz ys], [])) none
        | none => none))
    | _ => none)
  | .cmp => (match args with
    | [.d (.str a), .d (.str b)] => some (.d (.int .i64 (br (rbltB a b) (-1) (br (rbeqB a b) 0 1))), obs, [])
    | _ => none)
  | .same => HK.ev .same args obs
theorem rev_eq (k : HK) (args : List V) (obs : List Ob) : rev k args obs = k.ev args obs := by
  cases k with
  | clone ty sz by' =>
    simp only [rev, HK.ev]
    split
    · rename_i v
      split
      · rfl
      · rename_i v' hne
        simp only [relems_eq, show rhd obs = obAt obs from funext (rhd_eq obs)]
        cases elems (obAt obs) sz v with
        | none => rfl
        | some p =>
          obtain ⟨ys, fo⟩ := p
          simp only [Option.bind_some, br_eq, rlen_eq, rapp_eq, Nat.ble_eq]
          split <;> first | rfl | simp_all
    · rename_i hne
      split <;> first | rfl | simp_all
  | cmp =>
    simp only [rev, HK.ev]
    split
    · rename_i a b
      simp only [br_eq, rbltB_eq, rbeqB_eq, bltB_eq, beqB_eq]
    · rename_i hne
      split
      · rename_i a b; exact absurd rfl (hne a b)
      · rfl
  | same => rfl
end Go.PG.Fast
end
section
/- Pure Go: a seat's tables are those of its program; runs by the kernel; results that are known are used. -/
set_option linter.unusedSimpArgs false
set_option linter.unusedVariables false
namespace Go.PG
open Go
variable {P : Program} {G : Nat → Option Obj} {fns : Tree PFn} {hks : Tree HK}

def FitOk (P : Program) (f : Nat) (F : PFn) : Prop := ((P.funcs[f]?).bind fun fn => if fn.name == "runtime.NumGoroutine" then none else compFn P F.keep fn) = some F.erase
def prgOf (fns : Tree PFn) (hks : Tree HK) : Prg := ⟨fns.look, hookOf hks⟩
theorem fits_of (h : fns.All (FitOk P)) : Fits P (prgOf fns hks) := by
  intro f F hF
  have := Tree.all_look fns h f F hF
  unfold FitOk at this
  simp only [Option.bind_eq_some_iff] at this
  obtain ⟨fn, h1, h2⟩ := this
  split at h2
  · contradiction
  · rename_i hn; exact ⟨fn, h1, by simpa using hn, h2⟩
def cloneChk (P : Program) (f ty sz by' : Nat) : Prop :=
  ((P.funcs[f]?).bind fun fn => fn.body.bind fun b => (cloneParts b).bind fun p =>
    if fn.name == "runtime.NumGoroutine" then none else
    some (compC P fn.ntmps p.1, compPOp P fn.ntmps #[p.2.1, p.2.2.1] p.2.1, nilTest P p.2.2.1, compC P fn.ntmps p.2.2.2.1, compC P fn.ntmps p.2.2.2.2, mapO (compRV P) fn.results.toList, Nat.blt 4 fn.ntmps, Nat.blt 0 sz)) =
  some (.reg none [⟨some 2, .mv (.c .nil), none⟩] [], some ⟨some 3, .mv (.t 0), none⟩, true, .seq (.reg none [⟨some 2, .mv (.c .nil), none⟩] []) .ret,
    .seq (.reg none [⟨some 5, .lits ty sz by' ((zeroD P ty).getD []) 0 [], none⟩, ⟨some 6, .mv (.t 0), none⟩, ⟨some 7, .app ty sz by' (.t 5) (.t 6), none⟩, ⟨some 2, .mv (.t 7), none⟩] []) .ret, some [.t 2], true, true)
theorem clone_of {f ty sz by' : Nat} (h : cloneChk P f ty sz by') : HK.Ok P f (.clone ty sz by') := by
  unfold cloneChk at h
  simp only [Option.bind_eq_some_iff] at h
  obtain ⟨fn, h1, b, h2, ⟨r0, o1, o2, x, c⟩, h3, h4⟩ := h
  split at h4
  · contradiction
  rename_i hn
  simp only [Option.some.injEq, Prod.mk.injEq] at h4
  obtain ⟨g1, g2, g3, g4, g5, g6, g7, g8⟩ := h4
  exact ⟨fn, b, r0, x, c, o1, o2, _, ⟨h1, by simpa using hn, h2, h3, g1, g2, g3, g4, g5, g6, by rw [Nat.blt_eq] at g7; exact g7, by rw [Nat.blt_eq] at g8; exact g8⟩⟩
theorem ext_of {f : Nat} {e : Array Value → Sem Value} {fn : Func} (h1 : P.funcs[f]? = some fn) (h2 : (fn.name == "runtime.NumGoroutine") = false) (h3 : fn.body.isNone = true) (h4 : Extern.findNext fn = none) (h5 : Extern.find fn = some e) : ExtOk P f e := ⟨fn, h1, h2, h3, h4, h5⟩

/-- Results that are known. -/
def withMemo (m : CallT) (Q : Prg) : Prg := ⟨Q.fn, fun f a o => match m f a o with
  | some r => some r
  | none => Q.hook f a o⟩
theorem memo_sound {m : CallT} {Q : Prg} (h : Le m (callL Q)) : Le (callL (withMemo m Q)) (callL Q) := by
  have key : ∀ n, Le (callK (withMemo m Q) n) (callL Q) := by
    intro n
    induction n with
    | zero => intro f a o r hr; simp [callK] at hr
    | succ n ih =>
      intro f a o r hr
      simp only [callK, withMemo] at hr
      cases hm : m f a o with
      | some r' => rw [hm] at hr; simp only [Option.some.injEq] at hr; subst hr; exact h f a o _ hm
      | none =>
        rw [hm] at hr
        rw [callL_eq]
        simp only at hr
        cases hh : Q.hook f a o with
        | some r' => rw [hh] at hr; exact hr
        | none =>
          rw [hh] at hr
          simp only at hr ⊢
          cases hf : Q.fn f with
          | none => rw [hf] at hr; simp at hr
          | some F =>
            rw [hf] at hr
            simp only at hr ⊢
            unfold evalFn at hr
            unfold runFn
            split at hr
            · contradiction
            rename_i hl
            rw [if_neg hl]
            simp only [Option.bind_eq_some_iff] at hr ⊢
            obtain ⟨q, h1, h2⟩ := hr
            exact ⟨q, run_iff.2 ⟨n, evalC_mono ih n n _ _ _ (Nat.le_refl n) h1⟩, h2⟩
  intro f a o r hr
  obtain ⟨n, hn⟩ := callL_iff.1 hr
  exact key n f a o r hn

namespace Fast
noncomputable def hookR (hks : Tree HK) : CallT := fun f args obs => match rLook hks f with
  | some k => rev k args obs
  | none => none
theorem hookR_eq (hks : Tree HK) : hookR hks = hookOf hks := by
  funext f args obs
  unfold hookR hookOf
  rw [rLook_eq]
  cases hks.look f with
  | none => rfl
  | some k => exact rev_eq k args obs
/-- A run by the kernel. -/
theorem run_of {n f : Nat} {args : List V} {obs : List Ob} {r : V × List Ob × List Nat} (h : callR fns (hookR hks) n f args obs = some r) : callL (prgOf fns hks) f args obs = some r := by
  rw [hookR_eq] at h
  exact callL_of h
/-- A run by the kernel, with results that are known. -/
noncomputable def hookM (m : CallT) (hks : Tree HK) : CallT := fun f args obs => match m f args obs with
  | some r => some r
  | none => hookR hks f args obs
theorem run_memo {m : CallT} (hm : Le m (callL (prgOf fns hks))) {n f : Nat} {args : List V} {obs : List Ob} {r : V × List Ob × List Nat} (h : callR fns (hookM m hks) n f args obs = some r) : callL (prgOf fns hks) f args obs = some r := by
  have e : hookM m hks = (withMemo m (prgOf fns hks)).hook := by
    funext f args obs
    unfold hookM withMemo prgOf
    rw [hookR_eq]
  rw [e] at h
  exact memo_sound hm _ _ _ _ (callL_of h)
end Fast
end Go.PG
end
section
/- Pure Go: results that are known, by their arguments. -/
set_option linter.unusedSimpArgs false
set_option linter.unusedVariables false
namespace Go.PG
open Go
namespace Fast
noncomputable def rall2 {α : Type} (f : α → α → Bool) (l : List α) : List α → Bool := List.rec (motive := fun _ => List α → Bool) (fun m => List.casesOn (motive := fun _ => Bool) m true (fun _ _ => false))
  (fun x _ ih m => List.casesOn (motive := fun _ => Bool) m false (fun y s => br (f x y) (ih s) false)) l
theorem rall2_eq {α : Type} {f : α → α → Bool} (l : List α) (hf : ∀ x ∈ l, ∀ y, f x y = true → x = y) : ∀ m, rall2 f l m = true → l = m := by
  induction l with
  | nil => intro m h; cases m with
    | nil => rfl
    | cons y s => cases h
  | cons x l ih =>
    intro m h
    cases m with
    | nil => cases h
    | cons y s =>
      have h' : br (f x y) (rall2 f l s) false = true := h
      rw [br_eq] at h'
      split at h'
      · rename_i hxy
        rw [hf x (by simp) y hxy, ih (fun z hz => hf z (by simp [hz])) s h']
      · cases h'
noncomputable def req (n : Nat) : D → D → Bool := Nat.rec (motive := fun _ => D → D → Bool) (fun _ _ => false) (fun _ ih a b => match a with
  | .bool x => (match b with
    | .bool y => br x y (br y false true)
    | _ => false)
  | .int k x => (match b with
    | .int j y => br (kEq k j) (ieq x y) false
    | _ => false)
  | .str x => (match b with
    | .str y => rbeqB x y
    | _ => false)
  | .sl x => (match b with
    | .sl y => rall2 (rall2 ih) x y
    | _ => false)
  | .nilp => (match b with
    | .nilp => true
    | _ => false)) n
theorem req_eq : ∀ (n : Nat) (a b : D), req n a b = true → a = b := by
  intro n
  induction n with
  | zero => intro a b h; cases h
  | succ n ih =>
    intro a b h
    cases a with
    | bool x =>
      cases b with
      | bool y =>
        have h' : br x y (br y false true) = true := h
        cases x <;> cases y <;> first | rfl | cases h'
      | _ => cases h
    | int k x =>
      cases b with
      | int j y =>
        have h' : br (kEq k j) (ieq x y) false = true := h
        rw [br_eq] at h'
        split at h'
        · rename_i hk
          rw [kEq_eq] at hk
          rw [ieq_eq] at h'
          rw [of_decide_eq_true hk, eq_of_beq h']
        · cases h'
      | _ => cases h
    | str x =>
      cases b with
      | str y =>
        have h' : rbeqB x y = true := h
        rw [rbeqB_eq, beqB_eq] at h'
        rw [eq_of_beq h']
      | _ => cases h
    | sl x =>
      cases b with
      | sl y =>
        have h' : rall2 (rall2 (req n)) x y = true := h
        rw [rall2_eq x (fun u _ v hu => rall2_eq u (fun p _ q hp => ih p q hp) v hu) y h']
      | _ => cases h
    | nilp => cases b <;> first | rfl | cases h
noncomputable def veq1 (a b : V) : Bool := match a with
  | .d x => (match b with
    | .d y => req 40 x y
    | _ => false)
  | .nil => (match b with
    | .nil => true
    | _ => false)
  | .nilm => (match b with
    | .nilm => true
    | _ => false)
  | .fn f c => (match c with
    | [] => (match b with
      | .fn g d => (match d with
        | [] => Nat.beq f g
        | _ => false)
      | _ => false)
    | _ => false)
  | _ => false
theorem veq1_eq (a b : V) (h : veq1 a b = true) : a = b := by
  cases a with
  | d x => cases b with
    | d y => rw [req_eq 40 x y h]
    | _ => cases h
  | nil => cases b <;> first | rfl | cases h
  | nilm => cases b <;> first | rfl | cases h
  | fn f c =>
    cases c with
    | nil => cases b with
      | fn g d => cases d with
        | nil => rw [Nat.eq_of_beq_eq_true (show Nat.beq f g = true from h)]
        | cons _ _ => cases h
      | _ => cases h
    | cons _ _ => cases h
  | _ => cases h
noncomputable def veq (a b : V) : Bool := match a with
  | .agg x => (match b with
    | .agg y => rall2 veq1 x y
    | _ => false)
  | a => veq1 a b
theorem veq_eq (a b : V) (h : veq a b = true) : a = b := by
  cases a with
  | agg x => cases b with
    | agg y => rw [rall2_eq x (fun p _ q hp => veq1_eq p q hp) y h]
    | _ => cases h
  | d x => exact veq1_eq _ _ h
  | nil => exact veq1_eq _ _ h
  | nilm => exact veq1_eq _ _ h
  | fn f c => exact veq1_eq _ _ h
  | _ => cases h
/-- Known results of a function: arguments and result, the latest first. -/
noncomputable def rfindM (l : List (List V × V)) (args : List V) : Option (V × List Ob × List Nat) := List.rec (motive := fun _ => Option (V × List Ob × List Nat)) none (fun p _ ih => br (rall2 veq p.1 args) (some (p.2, [], [])) ih) l
noncomputable def memoOf (t : Tree (List (List V × V))) : CallT := fun f args obs => match obs with
  | [] => (match rLook t f with
    | some l => rfindM l args
    | none => none)
  | _ => none
def Known (Q : Prg) (f : Nat) : List (List V × V) → Prop
  | [] => True
  | p :: l => callL Q f p.1 [] = some (p.2, [], []) ∧ Known Q f l
theorem rfindM_known {Q : Prg} {f : Nat} : ∀ (l : List (List V × V)) {args : List V} {r : V × List Ob × List Nat}, Known Q f l → rfindM l args = some r → callL Q f args [] = some r
  | [], args, r, _, h => by cases h
  | p :: l, args, r, ⟨h1, h2⟩, h => by
    have h' : br (rall2 veq p.1 args) (some (p.2, [], [])) (rfindM l args) = some r := h
    rw [br_eq] at h'
    split at h'
    · rename_i he
      simp only [Option.some.injEq] at h'
      subst h'
      rw [← rall2_eq p.1 (fun x _ y hy => veq_eq x y hy) args he]
      exact h1
    · exact rfindM_known l h2 h'
theorem memoOf_le {Q : Prg} {t : Tree (List (List V × V))} (h : t.All (Known Q)) : Le (memoOf t) (callL Q) := by
  intro f args obs r hr
  unfold memoOf at hr
  split at hr
  · rw [rLook_eq] at hr
    split at hr
    · rename_i l hl
      exact rfindM_known l (Tree.all_look t h f l hl) hr
    · cases hr
  · cases hr
/-- A run by the kernel, over known results. -/
theorem run_known {fns : Tree PFn} {hks : Tree HK} {t : Tree (List (List V × V))} (ht : t.All (Known (prgOf fns hks))) {n f : Nat} {args : List V} {r : V}
    (h : callR fns (hookM (memoOf t) hks) n f args [] = some (r, [], [])) : callL (prgOf fns hks) f args [] = some (r, [], []) := run_memo (memoOf_le ht) h
end Fast
end Go.PG
end
