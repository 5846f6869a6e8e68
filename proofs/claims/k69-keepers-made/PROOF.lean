import PyProof.Rows.All
import Wide.All
import OpenK.AllK
import Wide.FinOn
import HandS.Head0
import HandS.Head1
import HandS.Head2
import HandS.HeadEnd
import HandS.HeadHook1
import HandS.HeadHook2
import HandS.HeadHook3
import HandS.HeadHook4
import HandS.HeadWalk
import HandS.ForMost
import HandS.Exc
import HandS.ExcOwn
import HandS.WordsExc
import HandS.Nested
import HandS.Deep
import HandS.ExcIs
import KE.KDictKeyed
import KE.KDictDisplayH
import KE.KDictCopyH
import KE.KDictLaw
import HandS.Defaults
import HandS.Walk
import KE.KTupSum
import KE.KDictList
import HandS.TupLen
import HandS.TryOnly
import PyProof.ExcBaseAll.ValueError
import HandS.ClsMeth
import HandS.IsInst
import PySem.Challenge.RW_lockhouse_k69_keepers_made
set_option Elab.async false
set_option linter.all false
set_option maxRecDepth 100000
set_option maxHeartbeats 4000000
namespace Lk
open PySem PySem.Spec PyProof.Rows L2
def top (i : Nat) : Stmt := PySem.Challenge.pw_lockhouse_k69_keepers_made.main.body.getD i (.Pass ⟨0, 0, 0, 0⟩)
def clsBody (s : Stmt) : List Stmt := match s with
  | .ClassDef _ _ _ b _ _ _ _ _ _ _ => b
  | _ => []
/-- the j-th statement of the class at i -/
def mth (i j : Nat) : Stmt := (clsBody (top i)).getD j (.Pass ⟨0, 0, 0, 0⟩)
/-- the defs of the module: where, name, defaults -/
def dfTab : List (Nat × Str × List V) :=
  ([(14, "linked", []), (15, "begun", []), (16, "reach_of", []), (17, "lying", []), (18, "all_home", []), (20, "poured_all", []), (22, "passing", []), (23, "filling", []), (24, "letting", []), (25, "held_behind", [])] : List (Nat × Str × List V)) ++ (([(26, "passage", []), (28, "over", []), (29, "spilled", [.non]), (30, "settled", []), (31, "spills", []), (33, "weir_pours", []), (34, "night_pours", []), (35, "wet_enough", []), (37, "numbered", []), (38, "pass_pours", [])] : List (Nat × Str × List V)) ++ (([(39, "let_pours", []), (40, "too_dry", []), (41, "why_no_pass", []), (42, "why_not", []), (43, "pours", []), (44, "after", []), (45, "may", []), (47, "next_layer", []), (48, "first_ended", []), (49, "row_to", [])] : List (Nat × Str × List V)) ++ (([(50, "layered", []), (52, "choices_in", []), (53, "home_in", []), (54, "look", []), (60, "made_of", []), (61, "is_name", []), (64, "boat_at", []), (65, "way_of", []), (69, "place_of", []), (72, "real_parts", [])] : List (Nat × Str × List V)) ++ (([(77, "_law_draw", []), (78, "_law_unit", []), (79, "_law_names", []), (80, "_law_reach", []), (81, "_law_lock", []), (82, "_law_weather", []), (83, "_law_canal", []), (84, "_law_turns", []), (85, "_law_way", []), (86, "_law_come", [])] : List (Nat × Str × List V)) ++ (([(87, "_law_fill", []), (88, "_law_let", []), (89, "_law_row_of", []), (90, "_law_words", []), (91, "_law_reach_by", []), (92, "_law_why_no_pass", []), (93, "_law_why", []), (94, "_law_deeds", []), (95, "_law_settle", []), (96, "_law_pour", [])] : List (Nat × Str × List V)) ++ (([(97, "_law_night_row", []), (98, "_law_after", []), (99, "_law_home", []), (100, "_law_leads_home", []), (101, "_law_closed", []), (102, "_law_weather_of", []), (103, "_law_entry", []), (104, "_law_made", []), (105, "_law_looked", []), (106, "_law_stand", [])] : List (Nat × Str × List V)) ++ (([(107, "_law_twins", []), (108, "_law_apart", [])] : List (Nat × Str × List V)))))))))
/-- the methods: class, its place, the method, its place, qualified name, defaults -/
def mtTab : List (Str × Nat × Str × Nat × Str × List V) :=
  ([("Keeper", 56, "__init__", 0, "Keeper.__init__", [.int 200]), ("Keeper", 56, "plan", 1, "Keeper.plan", []), ("Keeper", 56, "book", 2, "Keeper.book", []), ("Book", 66, "__init__", 0, "Book.__init__", []), ("Book", 66, "canal", 1, "Book.canal", []), ("Book", 66, "names", 2, "Book.names", []), ("Book", 66, "ways", 3, "Book.ways", []), ("Book", 66, "state", 4, "Book.state", []), ("Book", 66, "ledger", 5, "Book.ledger", []), ("Book", 66, "gatework", 6, "Book.gatework", [])] : List (Str × Nat × Str × Nat × Str × List V)) ++ (([("Book", 66, "entries", 7, "Book.entries", []), ("Book", 66, "copied", 8, "Book.copied", []), ("Book", 66, "deed_of", 9, "Book.deed_of", []), ("Book", 66, "why_no_come", 10, "Book.why_no_come", []), ("Book", 66, "why_no_night", 11, "Book.why_no_night", []), ("Book", 66, "fault", 12, "Book.fault", []), ("Book", 66, "pours_of", 13, "Book.pours_of", []), ("Book", 66, "behind", 14, "Book.behind", []), ("Book", 66, "words_of", 15, "Book.words_of", []), ("Book", 66, "do", 16, "Book.do", [])] : List (Str × Nat × Str × Nat × Str × List V)) ++ (([("Reach", 68, "__init__", 0, "Reach.__init__", []), ("Canal", 70, "__init__", 0, "Canal.__init__", [.non]), ("Canal", 70, "reach_at", 1, "Canal.reach_at", []), ("Canal", 70, "lock_at", 2, "Canal.lock_at", []), ("Canal", 70, "chamber", 3, "Canal.chamber", []), ("Canal", 70, "basin", 4, "Canal.basin", []), ("Canal", 70, "sea", 5, "Canal.sea", []), ("Canal", 70, "sky", 6, "Canal.sky", []), ("Canal", 70, "many", 7, "Canal.many", []), ("Canal", 70, "weirs", 8, "Canal.weirs", [])] : List (Str × Nat × Str × Nat × Str × List V)) ++ (([("Canal", 70, "start", 9, "Canal.start", []), ("Canal", 70, "full", 10, "Canal.full", []), ("PlainLock", 73, "__init__", 0, "PlainLock.__init__", []), ("PlainLock", 73, "fill_parts", 1, "PlainLock.fill_parts", []), ("PlainLock", 73, "let_parts", 2, "PlainLock.let_parts", []), ("PlainLock", 73, "kind", 3, "PlainLock.kind", []), ("PlainLock", 73, "extra", 4, "PlainLock.extra", []), ("BasinLock", 74, "__init__", 0, "BasinLock.__init__", []), ("BasinLock", 74, "fill_parts", 1, "BasinLock.fill_parts", []), ("BasinLock", 74, "let_parts", 2, "BasinLock.let_parts", [])] : List (Str × Nat × Str × Nat × Str × List V)) ++ (([("BasinLock", 74, "kind", 3, "BasinLock.kind", []), ("BasinLock", 74, "extra", 4, "BasinLock.extra", []), ("PumpLock", 75, "__init__", 0, "PumpLock.__init__", []), ("PumpLock", 75, "fill_parts", 1, "PumpLock.fill_parts", []), ("PumpLock", 73, "let_parts", 2, "PlainLock.let_parts", []), ("PumpLock", 75, "kind", 2, "PumpLock.kind", []), ("PumpLock", 75, "extra", 3, "PumpLock.extra", [])] : List (Str × Nat × Str × Nat × Str × List V))))))
/-- attributes that the classes' instances have -/
def fdTab : List (Str × Str) :=
  ([("Keeper", "kept"), ("Keeper", "bound"), ("Keeper", "coming"), ("Book", "house"), ("Book", "called"), ("Book", "courses"), ("Book", "standing"), ("Book", "moved"), ("Book", "gatewords"), ("Book", "told")] : List (Str × Str)) ++ (([("Reach", "name"), ("Reach", "least"), ("Reach", "crest"), ("Reach", "berths"), ("Reach", "water"), ("Reach", "target"), ("Canal", "reaches"), ("Canal", "locks"), ("Canal", "nights"), ("PlainLock", "name")] : List (Str × Str)) ++ (([("PlainLock", "high"), ("PlainLock", "low"), ("PlainLock", "room"), ("BasinLock", "name"), ("BasinLock", "high"), ("BasinLock", "low"), ("BasinLock", "room"), ("BasinLock", "side"), ("PumpLock", "name"), ("PumpLock", "high")] : List (Str × Str)) ++ (([("PumpLock", "low"), ("PumpLock", "room"), ("PumpLock", "lift")] : List (Str × Str)))))
/-- isinstance's answers, an except clause's -/
def kitTab : List (Str × Str × Bool) := [("Keeper", "Keeper", true), ("Torn", "Torn", true), ("Torn", "BadRow", false), ("Torn", "NotNow", false), ("TooWide", "Torn", false), ("TooWide", "TooWide", true)]
def exmTab : List (Str × Str) := [("Torn", "CanalError"), ("TooWide", "CanalError"), ("TooWide", "TooWide")]
end Lk
set_option maxHeartbeats 4000000
namespace Lk
open PySem PySem.Spec PyProof.Rows L2
/-! ### what of the heap is looked at -/
def nbF (o : Obj) : List Addr := match o.data with
  | .func fd => He.refV fd.code ++ He.refV fd.defaults
  | _ => []
def nbC (o : Obj) : List Addr := match o.data with
  | .cls cd => cd.ns :: cd.mro.flatMap He.refV
  | _ => []
def nbD (o : Obj) : List Addr := match o.data with
  | .dict es _ => es.toList.flatMap fun e => He.refV e.val
  | _ => []
def nbO (f : Obj → List Addr) (g : Addr → Option Obj) (a : Addr) : List Addr := match g a with
  | some o => f o
  | none => []
def asM (g : Addr → Option Obj) : List Addr := match nbO nbD g mainGlobals with
  | l1 => match l1.flatMap (nbO nbC g) with
    | l2 => match l2.flatMap (nbO nbD g) with
      | l3 => mainGlobals :: cStatics :: (l1 ++ (l2 ++ (l3 ++ (l1 ++ l3).flatMap (nbO nbF g))))
def obsM (fa : List He.Fa) (fn : List He.DefD) (tf : List He.Defn) (ex : PySem.W.Frag → Bool) (g : Addr → Option Obj) : He.AlD × Bool := match He.frT g (asM g) with
  | K => (He.obsD fa fn K, ex K && He.tabsB g tf K)
def SaysM (fa : List He.Fa) (fn : List He.DefD) (tf : List He.Defn) (ex : PySem.W.Frag → Bool) (w : World) (h : Heap) (K : PySem.W.Frag) : Prop :=
  He.SaysX fa fn [] tf ex w h K
def hkM (fa : List He.Fa) (fn : List He.DefD) (tf : List He.Defn) (ex : PySem.W.Frag → Bool) : PySem.W.Hook where
  α := He.AlD × Bool
  obs := fun s => obsM fa fn tf ex s.heap.get?
  val := fun _ => (He.valD fn, true)
  says := fun w h => ∃ K : PySem.W.Frag, K.In h ∧ SaysM fa fn tf ex w h K
  of := fun w s e => by
    have e1 : He.obsD fa fn (He.frT s.heap.get? (asM s.heap.get?)) = He.valD fn := congrArg Prod.fst e
    have e2 : (ex (He.frT s.heap.get? (asM s.heap.get?)) && He.tabsB s.heap.get? tf (He.frT s.heap.get? (asM s.heap.get?))) = true := congrArg Prod.snd e
    generalize hK : He.frT s.heap.get? (asM s.heap.get?) = K at e1 e2
    have nn : ∀ {a : Addr} {o : Obj}, s.heap.get? a = some o → He.emptyTab o = true → K.lookup a = none := fun q z => by rw [← hK]; exact He.frT_none q z
    refine ⟨K, hK ▸ He.frT_in, ?_⟩
    obtain ⟨h1, h2⟩ := He.ba e2
    have key : ∀ p ∈ tf, PySem.W.codeHdIn K (He.cT K p).1 (He.cT K p).2 = true ∧ ∃ o, s.heap.get? (He.cT K p).2 = some o ∧ He.emptyTab o = true := by
      intro p hp
      obtain ⟨h3, h4⟩ := He.ba (List.all_eq_true.mp h2 p hp)
      refine ⟨h3, ?_⟩
      revert h4
      cases s.heap.get? (He.cT K p).2 with
      | none => exact fun z => nomatch z
      | some o => exact fun z => ⟨o, rfl, z⟩
    refine ⟨?_, h1, fun p hp => (key p hp).1, fun p hp => ?_, fun p hp => ?_⟩
    · exact Prod.ext e1 rfl
    · obtain ⟨_, o, q, z⟩ := key p hp
      exact nn q z
    · obtain ⟨_, o, q, z⟩ := key p hp
      exact q.trans (congrArg some (He.emptyTab_eq z))
  keeps := fun w h h' x k => by
    obtain ⟨K, hK, c⟩ := x
    exact ⟨K, PySem.W.Frag.In.keeps hK k, c.t, c.more, c.hd, c.out, fun p hp => k _ _ (c.empty p hp)⟩
/-! ### the facts -/
def toDv : V → He.Dv
  | .int i => .int i
  | _ => .non
def okDv : V → Bool
  | .int _ => true
  | .non => true
  | _ => false
theorem toDv_v {K : PySem.W.Frag} {v : V} (h : okDv v = true) : (toDv v).v K = v := by
  cases v with
  | int i => rfl
  | non => rfl
  | _ => cases h
def clsL : List Str := ["Keeper", "Book", "Reach", "Canal", "PlainLock", "BasinLock", "PumpLock"]
def excL : List Str := ["CanalError", "NotNow", "BadRow", "TooWide", "Torn"]
def freeL : List Str := ["len", "list", "tuple", "max", "min", "sum", "int", "range", "enumerate", "isinstance", "ValueError"]
def faA : List He.Fa := freeL.map He.Fa.free ++ (([.str "LETTERS" "abcdefghijklmnopqrstuvwxyz", .int "LONGEST" 12, .int "MOST_BOATS" 9, .glo "law", .exc "TooWide", .exc "Torn"] : List He.Fa) ++ (dfTab.map (fun t => He.Fa.glo t.2.1) ++ (clsL.map He.Fa.glo ++ excL.map He.Fa.glo)))
def faB : List He.Fa := clsL.map He.Fa.cls ++ (clsL.map He.Fa.mkr ++ fdTab.map (fun t => He.Fa.noat t.1 t.2))
def faC : List He.Fa := mtTab.map (fun t => He.Fa.meth t.1 t.2.2.1)
def faL : List He.Fa := faA ++ (faB ++ faC)
def dfD (t : Nat × Str × List V) : He.DefD := ⟨(t.2.1, none), t.2.1, t.2.1, defArgs (top t.1), defBody (top t.1), defScope (top t.1), t.2.2.map toDv, []⟩
def mtD (t : Str × Nat × Str × Nat × Str × List V) : He.DefD := ⟨(t.1, some t.2.2.1), t.2.2.1, t.2.2.2.2.1, defArgs (mth t.2.1 t.2.2.2.1), defBody (mth t.2.1 t.2.2.2.1), defScope (mth t.2.1 t.2.2.2.1), t.2.2.2.2.2.map toDv, []⟩
def fnA : List He.DefD := dfD (109, "law", []) :: dfTab.map dfD
def fnC : List He.DefD := mtTab.map mtD
def fnL : List He.DefD := fnA ++ fnC
def tfL : List He.Defn := [("choices_in", none), ("home_in", none)]
def excB (K : PySem.W.Frag) (D : Addr) : Bool :=
  decide (PySem.W.findIn K (.ref D) "__getattribute__" = some (some (.builtin "BaseException.__getattribute__"))) && (decide (PySem.W.findIn K (.ref D) "__getattr__" = some none) && (decide (PySem.W.subIn K (.ref D) (.type "BaseException") = some true) && (PySem.W.hasDictIn K D &&
  (decide (PySem.W.findIn K (.ref D) "__class__" = some (some (.builtin "object.__class__"))) && decide (PySem.W.mroIn K D (.type "object") = some true)))))
def plB (K : PySem.W.Frag) (C : Addr) : Bool := PySem.W.readsIn K C (.type "type") && (decide (PySem.W.specialIn K (.ref C) "__getattribute__" = some (some (.builtin "type.__getattribute__"))) && (match PySem.W.findCls K (.ref C) (.type "type") "__init__" with
  | some (.val v) => decide (v = .ref (He.ma K C "__init__"))
  | _ => false))
def exB (K : PySem.W.Frag) : Bool :=
  (exmTab.all fun t => decide (PySem.W.exmOne K (.ref (He.ga K t.1)) (.ref (He.ga K t.2)) = some true)) && ((kitTab.all fun t => decide (PySem.W.kitOne K (.ref (He.ga K t.1)) (.ref (He.ga K t.2.1)) = some t.2.2)) &&
  ((!decide ((He.cT K ("choices_in", none)).2 = (He.cT K ("home_in", none)).2)) && (decide (PySem.W.kitOne K (.ref (He.ga K "Torn")) (.type "ValueError") = some true) && ((decide (PySem.W.findIn K (.ref (He.ga K "Keeper")) "__class__" = some (some (.builtin "object.__class__"))) && (decide (PySem.W.specialIn K (.builtin "object.__class__") "__get__" = some (some (.builtin "getset_descriptor.__get__"))) && (decide (PySem.W.takesIn K (.builtin "object.__class__") = some true) && decide (PySem.W.mroIn K (He.ga K "Keeper") (.type "object") = some true)))) &&
  ((excB K (He.ga K "TooWide") && excB K (He.ga K "Torn")) && plB K (He.ga K "PlainLock"))))))
def names0 : List PySem.Str := ["_wall", "CanalError", "NotNow", "BadRow", "BadNumber", "Twice", "Unknown", "TooMany", "NotLinked", "TooWide", "TooDry", "Torn", "linked", "begun", "reach_of", "lying", "all_home", "poured_all", "passing", "filling", "letting", "held_behind", "passage", "over", "spilled", "settled", "spills", "weir_pours", "night_pours", "wet_enough"]
def names1 : List PySem.Str := ["numbered", "pass_pours", "let_pours", "too_dry", "why_no_pass", "why_not", "pours", "after", "may", "next_layer", "first_ended", "row_to", "layered", "choices_in", "home_in", "look", "Keeper", "LETTERS", "LONGEST", "made_of", "is_name", "MOST_BOATS", "boat_at", "way_of", "Book", "Reach", "place_of", "Canal", "real_parts", "PlainLock"]
def names2 : List PySem.Str := ["BasinLock", "PumpLock", "_law_draw", "_law_unit", "_law_names", "_law_reach", "_law_lock", "_law_weather", "_law_canal", "_law_turns", "_law_way", "_law_come", "_law_fill", "_law_let", "_law_row_of", "_law_words", "_law_reach_by", "_law_why_no_pass", "_law_why", "_law_deeds", "_law_settle", "_law_pour", "_law_night_row", "_law_after", "_law_home", "_law_leads_home", "_law_closed", "_law_weather_of", "_law_entry", "_law_made"]
def names3 : List PySem.Str := ["_law_looked", "_law_stand", "_law_twins", "_law_apart"]
def names : List PySem.Str := names0 ++ names1 ++ names2 ++ names3
abbrev Rw : PySem.W.OpenRow := PySem.W.OpenLaw.row PySem.Challenge.rw_lockhouse_k69_keepers_made
abbrev hkL : PySem.W.Hook := hkM faL fnL tfL exB
def obL (s : PySem.W.SharedT) : He.AlD × Bool := obsM faL fnL tfL exB (HandSHeadRun.getT s)
theorem obL_eq (s : PySem.W.SharedT) : obL s = hkL.obs s.abs := by
  have e : HandSHeadRun.getT s = s.abs.heap.get? := funext (HandSHeadRun.getT_eq s)
  show obsM faL fnL tfL exB (HandSHeadRun.getT s) = obsM faL fnL tfL exB s.abs.heap.get?
  rw [e]
/-! ### the run by parts -/
def obD (fa : List He.Fa) (fn : List He.DefD) (g : Addr → Option Obj) : He.AlD := match He.frT g (asM g) with
  | K => He.obsD fa fn K
def obX (g : Addr → Option Obj) : Bool := match He.frT g (asM g) with
  | K => exB K && He.tabsB g tfL K
theorem obsD_app {fa fa2 : List He.Fa} {fn fn2 : List He.DefD} {K : PySem.W.Frag} (h : He.obsD fa fn K = He.valD fn) (h2 : He.obsD fa2 fn2 K = He.valD fn2) : He.obsD (fa ++ fa2) (fn ++ fn2) K = He.valD (fn ++ fn2) := by
  have a1 : (fa.all (fun f => f.ok K) && fn.all fun d => d.ok K) = true := congrArg Prod.fst h
  have a2 : fn.map (fun d => He.fnW K d.at_) = fn.map He.DefD.val := congrArg Prod.snd h
  have b1 : (fa2.all (fun f => f.ok K) && fn2.all fun d => d.ok K) = true := congrArg Prod.fst h2
  have b2 : fn2.map (fun d => He.fnW K d.at_) = fn2.map He.DefD.val := congrArg Prod.snd h2
  obtain ⟨a3, a4⟩ := He.ba a1
  obtain ⟨b3, b4⟩ := He.ba b1
  refine Prod.ext ?_ ?_
  · show ((fa ++ fa2).all (fun f => f.ok K) && (fn ++ fn2).all fun d => d.ok K) = true
    rw [List.all_append, List.all_append, a3, a4, b3, b4]
    rfl
  · show (fn ++ fn2).map (fun d => He.fnW K d.at_) = (fn ++ fn2).map He.DefD.val
    rw [List.map_append, List.map_append, a2, b2]
theorem obsM_app {g : Addr → Option Obj} (h1 : obD faA fnA g = He.valD fnA) (h2 : obD faB [] g = He.valD []) (h3 : obD faC fnC g = He.valD fnC) (h4 : obX g = true) : obsM faL fnL tfL exB g = (He.valD fnL, true) :=
  Prod.ext (obsD_app (fa := faA) (fn := fnA) h1 (obsD_app (fa := faB) (fn := []) h2 h3)) h4
noncomputable abbrev endL (w : World) (os : OsState) : Option PySem.W.SharedT := HandSHeadRun.endF (HandSHeadRun.stepQ (HandSHeadRun.denQ HandSHeadRun.tabQ) Rw.prog w) 20000 Rw.prog w os
end Lk
set_option maxHeartbeats 0
namespace Lk
open PySem PySem.Spec PyProof.Rows L2
open PySem.W PySem.Calls in
theorem hdS (w : World) (os : OsState) : (endL w os).map (fun s => (HandSHeadRun.looksF Rw.prog (boot_heap w.params) s.abs, HandSHeadRun.seenQ (PySem.W.view Rw.prog [109]) names (PySem.importedModules Rw.prog.main.body) (fun s => PySem.W.xlAt (PySem.W.view Rw.prog [109]) [] s && PySem.W.recOk Rw.toRowW.records s) s.abs)) = some (true, PySem.W.openGood (PySem.W.view Rw.prog [109]) names) := by
  kernel_rfl
end Lk
set_option maxHeartbeats 0
namespace Lk
open PySem PySem.Spec PyProof.Rows L2
theorem hdA (w : World) (os : OsState) : (endL w os).map (fun s => obD faA fnA (HandSHeadRun.getT s)) = some (He.valD fnA) := by
  kernel_rfl
end Lk
set_option maxHeartbeats 0
namespace Lk
open PySem PySem.Spec PyProof.Rows L2
theorem hdB (w : World) (os : OsState) : (endL w os).map (fun s => obD faB [] (HandSHeadRun.getT s)) = some (He.valD []) := by
  kernel_rfl
end Lk
set_option maxHeartbeats 0
namespace Lk
open PySem PySem.Spec PyProof.Rows L2
theorem hdC (w : World) (os : OsState) : (endL w os).map (fun s => obD faC fnC (HandSHeadRun.getT s)) = some (He.valD fnC) := by
  kernel_rfl
end Lk
set_option maxHeartbeats 0
namespace Lk
open PySem PySem.Spec PyProof.Rows L2
theorem hdX (w : World) (os : OsState) : (endL w os).map (fun s => obX (HandSHeadRun.getT s)) = some true := by
  kernel_rfl
end Lk
set_option maxHeartbeats 4000000
/-! Lk, part A: data, what represents it, the state of a body. -/
namespace Lk
open PySem PySem.Spec PyProof.Rows L2
/-- a program and what its top has left -/
structure Pg where
  P : Program
  w : World
  K : PySem.W.Frag
  mg : Str → Option Value
  base : Heap
  T : List NdefX.NTab
/-- plain data: what a value stands for -/
inductive D where
  | non | bl (b : Bool) | int (i : Int) | str (x : Str)
  | tup (xs : List D) | lst (xs : List D)
  | dic (kvs : List (Str × D))
  | obj (C : Addr) (fs : List (Str × D))
  | clo (k : Nat) (ds : List D)
  | scr (ns : List Int)
/-- how the made function of kind k lies at f, over the values that it captured -/
abbrev Clo := Nat → Hp → Addr → List V → Prop
section
variable (K : PySem.W.Frag) (CL : Clo) (Hf : Hp)
mutual
def Rep : D → V → Prop
  | .non, v => v = .non
  | .bl b, v => v = .bl b
  | .int i, v => v = .int i
  | .str x, v => v = .str x
  | .tup ds, v => ∃ a vs, v = .ref a ∧ SqT K Hf a vs ∧ Reps ds vs
  | .lst ds, v => ∃ a vs, v = .ref a ∧ Hf a = some (.lst vs) ∧ Reps ds vs
  | .dic kvs, v => ∃ a ws, v = .ref a ∧ Hf a = some (.dK (ws.map fun p => (Sum.inr p.1, p.2))) ∧ RepF kvs ws
  | .obj C fs, v => ∃ a dx ws, v = .ref a ∧ Hf a = some (.ins C dx ws) ∧ RepF fs ws
  | .clo k ds, v => ∃ a vs, v = .ref a ∧ CL k Hf a vs ∧ Reps ds vs
  | .scr ns, v => ∃ a, v = .ref a ∧ SqL K Hf a (ns.map V.int)
def Reps : List D → List V → Prop
  | [], vs => vs = []
  | d :: ds, vs => ∃ v r, vs = v :: r ∧ Rep d v ∧ Reps ds r
def RepF : List (Str × D) → List (Str × V) → Prop
  | [], ws => ws = []
  | (x, d) :: fs, ws => ∃ v r, ws = (x, v) :: r ∧ Rep d v ∧ RepF fs r
end
end
section
variable {K : PySem.W.Frag} {CL : Clo} {Hf Hf' : Hp}
theorem sqL_mono {a : Addr} {xs : List V} (e : Same Hf Hf') (h : SqL K Hf a xs) : SqL K Hf' a xs := e.seq h
theorem sqT_mono {a : Addr} {xs : List V} (e : Same Hf Hf') (h : SqT K Hf a xs) : SqT K Hf' a xs := by
  rcases h with (h | ⟨o, h⟩) | h
  · exact .inl (.inl (e _ _ h))
  · exact .inl (.inr ⟨o, e _ _ h⟩)
  · exact .inr h
/-- a made function's description goes on over more -/
def CloMono (CL : Clo) : Prop := ∀ (k : Nat) (Hf Hf' : Hp) (a : Addr) (vs : List V), Same Hf Hf' → CL k Hf a vs → CL k Hf' a vs
mutual
theorem Rep.mono (cm : CloMono CL) (e : Same Hf Hf') : ∀ {d : D} {v : V}, Rep K CL Hf d v → Rep K CL Hf' d v
  | .non, _, h => h
  | .bl _, _, h => h
  | .int _, _, h => h
  | .str _, _, h => h
  | .tup ds, _, ⟨a, vs, h1, h2, h3⟩ => ⟨a, vs, h1, sqT_mono e h2, Reps.mono cm e h3⟩
  | .lst ds, _, ⟨a, vs, h1, h2, h3⟩ => ⟨a, vs, h1, e _ _ h2, Reps.mono cm e h3⟩
  | .dic kvs, _, ⟨a, ws, h1, h2, h3⟩ => ⟨a, ws, h1, e _ _ h2, RepF.mono cm e h3⟩
  | .obj C fs, _, ⟨a, dx, ws, h1, h2, h3⟩ => ⟨a, dx, ws, h1, e _ _ h2, RepF.mono cm e h3⟩
  | .clo k ds, _, ⟨a, vs, h1, h2, h3⟩ => ⟨a, vs, h1, cm k _ _ a vs e h2, Reps.mono cm e h3⟩
  | .scr ns, _, ⟨a, h1, h2⟩ => ⟨a, h1, sqL_mono e h2⟩
theorem Reps.mono (cm : CloMono CL) (e : Same Hf Hf') : ∀ {ds : List D} {vs : List V}, Reps K CL Hf ds vs → Reps K CL Hf' ds vs
  | [], _, h => h
  | d :: ds, _, ⟨v, r, h1, h2, h3⟩ => ⟨v, r, h1, Rep.mono cm e h2, Reps.mono cm e h3⟩
theorem RepF.mono (cm : CloMono CL) (e : Same Hf Hf') : ∀ {fs : List (Str × D)} {ws : List (Str × V)}, RepF K CL Hf fs ws → RepF K CL Hf' fs ws
  | [], _, h => h
  | (x, d) :: fs, _, ⟨v, r, h1, h2, h3⟩ => ⟨v, r, h1, Rep.mono cm e h2, RepF.mono cm e h3⟩
end
theorem Reps.length : ∀ {ds : List D} {vs : List V}, Reps K CL Hf ds vs → vs.length = ds.length
  | [], _, h => by
    have h : _ = [] := h
    rw [h]
    rfl
  | d :: ds, _, ⟨v, r, h1, h2, h3⟩ => by rw [h1, List.length_cons, List.length_cons, Reps.length h3]
theorem Reps.get : ∀ {ds : List D} {vs : List V} {i : Nat} {d : D}, Reps K CL Hf ds vs → ds[i]? = some d → ∃ v, vs[i]? = some v ∧ Rep K CL Hf d v
  | d :: ds, _, 0, d', ⟨v, r, h1, h2, h3⟩, e => by
    subst h1
    cases e
    exact ⟨v, rfl, h2⟩
  | d :: ds, _, i + 1, d', ⟨v, r, h1, h2, h3⟩, e => by
    subst h1
    exact Reps.get (i := i) h3 e
theorem Reps.got : ∀ {ds : List D} {vs : List V} {i : Nat} {v : V}, Reps K CL Hf ds vs → vs[i]? = some v → ∃ d, ds[i]? = some d ∧ Rep K CL Hf d v
  | [], _, i, v, h, e => by
    have h : _ = [] := h
    rw [h] at e
    cases e
  | d :: ds, _, 0, v', ⟨v, r, h1, h2, h3⟩, e => by
    subst h1
    cases e
    exact ⟨d, rfl, h2⟩
  | d :: ds, _, i + 1, d', ⟨v, r, h1, h2, h3⟩, e => by
    subst h1
    exact Reps.got (i := i) h3 e
theorem Reps.append : ∀ {ds es : List D} {vs us : List V}, Reps K CL Hf ds vs → Reps K CL Hf es us → Reps K CL Hf (ds ++ es) (vs ++ us)
  | [], _, _, _, h, q => by
    have h : _ = [] := h
    rw [h]
    exact q
  | d :: ds, _, _, _, ⟨v, r, h1, h2, h3⟩, q => ⟨v, r ++ _, by rw [h1]; rfl, h2, Reps.append h3 q⟩
theorem Reps.one {d : D} {v : V} (h : Rep K CL Hf d v) : Reps K CL Hf [d] [v] := ⟨v, [], rfl, h, rfl⟩
theorem Reps.set : ∀ {ds : List D} {vs : List V} {d : D} {v : V} (i : Nat), Rep K CL Hf d v → Reps K CL Hf ds vs → Reps K CL Hf (ds.set i d) (vs.set i v)
  | [], _, _, _, _, _, h => by
    have h : _ = [] := h
    rw [h]
    exact rfl
  | d :: ds, _, _, _, 0, q, ⟨v, r, h1, h2, h3⟩ => by
    subst h1
    exact ⟨_, _, rfl, q, h3⟩
  | d :: ds, _, _, _, i + 1, q, ⟨v, r, h1, h2, h3⟩ => by
    subst h1
    exact ⟨_, _, rfl, h2, Reps.set i q h3⟩
theorem Reps.reverse : ∀ {ds : List D} {vs : List V}, Reps K CL Hf ds vs → Reps K CL Hf ds.reverse vs.reverse
  | [], _, h => by
    have h : _ = [] := h
    rw [h]
    exact rfl
  | d :: ds, _, ⟨v, r, h1, h2, h3⟩ => by
    subst h1
    rw [List.reverse_cons, List.reverse_cons]
    exact Reps.append (Reps.reverse h3) (Reps.one h2)
theorem RepF.look : ∀ {fs : List (Str × D)} {ws : List (Str × V)} {x : Str} {d : D}, RepF K CL Hf fs ws → fs.lookup x = some d → ∃ v, ws.lookup x = some v ∧ Rep K CL Hf d v
  | (y, d) :: fs, _, x, d', ⟨v, r, h1, h2, h3⟩, e => by
    subst h1
    rw [List.lookup_cons] at e ⊢
    cases q : x == y with
    | true =>
      rw [q] at e
      cases e
      exact ⟨v, rfl, h2⟩
    | false =>
      rw [q] at e
      exact RepF.look h3 e
theorem RepF.none : ∀ {fs : List (Str × D)} {ws : List (Str × V)} {x : Str}, RepF K CL Hf fs ws → fs.lookup x = none → ws.lookup x = none
  | [], _, x, h, e => by
    have h : _ = [] := h
    rw [h]
    rfl
  | (y, d) :: fs, _, x, ⟨v, r, h1, h2, h3⟩, e => by
    subst h1
    rw [List.lookup_cons] at e ⊢
    cases q : x == y with
    | true =>
      rw [q] at e
      cases e
    | false =>
      rw [q] at e
      exact RepF.none h3 e
/-- numbers' list -/
theorem reps_ints : ∀ (ns : List Int), Reps K CL Hf (ns.map D.int) (ns.map V.int)
  | [] => rfl
  | n :: r => ⟨_, _, rfl, rfl, reps_ints r⟩
theorem reps_ints_inv : ∀ {ns : List Int} {vs : List V}, Reps K CL Hf (ns.map D.int) vs → vs = ns.map V.int
  | [], _, h => h
  | n :: r, _, ⟨v, q, h1, h2, h3⟩ => by
    have h2 : v = V.int n := h2
    rw [h1, h2, reps_ints_inv h3]
    rfl
end
end Lk
set_option maxHeartbeats 4000000
namespace Lk
open PySem PySem.Spec PyProof.Rows L2
/-- all that was tracked, but the tables, is as it was -/
def NS (H H' : Hp) : Prop := ∀ a o, H a = some o → (∀ ps, o ≠ .tbl ps) → H' a = some o
theorem NS.refl (H : Hp) : NS H H := fun _ _ h _ => h
theorem NS.trans {H H1 H2 : Hp} (a : NS H H1) (b : NS H1 H2) : NS H H2 := fun c o h n => b c o (a c o h n) n
theorem NS.of {H H' : Hp} (e : Same H H') : NS H H' := fun a o h _ => e a o h
theorem NS.new {H : Hp} {p : Addr} {o : HO} (h : H p = none) : NS H (upd H p o) := fun a u e _ => by
  rw [upd_ne (ne_of_none e h)]
  exact e
theorem Same.new {H : Hp} {p : Addr} {o : HO} (h : H p = none) : Same H (upd H p o) := fun a u e => by
  rw [upd_ne (ne_of_none e h)]
  exact e
theorem NS.lst {H H' : Hp} {a : Addr} {xs : List V} (e : NS H H') (h : H a = some (.lst xs)) : H' a = some (.lst xs) := e a _ h fun ps q => nomatch q
theorem NS.ins {H H' : Hp} {a C dx : Addr} {fs : List (Str × V)} (e : NS H H') (h : H a = some (.ins C dx fs)) : H' a = some (.ins C dx fs) := e a _ h fun ps q => nomatch q
/-- a dict whose keys are nested tuples, by its entries -/
def dctO (p : Addr) (es : List DictEntry) : HO := .ext fun h => ∃ o ep, h.get? p = some o ∧ o.ExactDict ∧ o.data = .dict es.toArray ep
/-- a thing that its holder alone may change -/
inductive OT where
  | sh (d : D)
  | lst (xs : List D)
  | dct (kvs : List (D × D))
  | ins (C : Addr) (fs : List (Str × OT))
/-- plain data as a dict's key -/
def nkey : D → NestedKey
  | .int i => .num i
  | .bl b => .num (if b then 1 else 0)
  | .str x => .text x
  | .tup ds => .tup (nkeys ds)
  | _ => .none
where nkeys : List D → List NestedKey
  | [] => []
  | d :: ds => nkey d :: nkeys ds
section
variable (pg : Pg) (CL : Clo) (Hf H : Hp)
def RepE : List (D × D) → List DictEntry → Prop
  | [], es => es = []
  | (k, d) :: kvs, es => ∃ e r a v, es = e :: r ∧ e.key = .ref a ∧ e.hash = (nestedKind pg.P pg.w).hash (nkey k) ∧ Rep pg.K CL Hf k (.ref a) ∧ RelV v e.val ∧ Rep pg.K CL Hf d v ∧ RepE kvs r
mutual
def OwnT : OT → V → List Addr → Prop
  | .sh d, v, fp => fp = [] ∧ Rep pg.K CL Hf d v
  | .lst xs, v, fp => ∃ p vs, v = .ref p ∧ fp = [p] ∧ H p = some (.lst vs) ∧ Reps pg.K CL Hf xs vs
  | .dct kvs, v, fp => ∃ p es, v = .ref p ∧ fp = [p] ∧ H p = some (dctO p es) ∧ (p == sysModules) = false ∧ RepE pg CL Hf kvs es
  | .ins C fs, v, fp => ∃ a dx ws r, v = .ref a ∧ fp = a :: r ∧ H a = some (.ins C dx ws) ∧ OwnF fs ws r ∧ a ∉ r
def OwnF : List (Str × OT) → List (Str × V) → List Addr → Prop
  | [], ws, fp => ws = [] ∧ fp = []
  | (x, o) :: fs, ws, fp => ∃ v r f1 f2, ws = (x, v) :: r ∧ fp = f1 ++ f2 ∧ OwnT o v f1 ∧ OwnF fs r f2 ∧ ∀ a ∈ f1, a ∉ f2
end
end
section
variable {pg : Pg} {CL : Clo} {Hf Hf' H H' : Hp}
theorem RepE.mono (cm : CloMono CL) (e : Same Hf Hf') : ∀ {kvs : List (D × D)} {es : List DictEntry}, RepE pg CL Hf kvs es → RepE pg CL Hf' kvs es
  | [], _, h => h
  | (k, d) :: kvs, _, ⟨x, r, a, v, h1, h2, h3, h4, h5, h6, h7⟩ => ⟨x, r, a, v, h1, h2, h3, h4.mono cm e, h5, h6.mono cm e, RepE.mono cm e h7⟩
mutual
theorem OwnT.mono (cm : CloMono CL) (e : Same Hf Hf') : ∀ {o : OT} {v : V} {fp : List Addr}, (∀ a ∈ fp, ∀ u, H a = some u → (∀ ps, u ≠ .tbl ps) → H' a = some u) → OwnT pg CL Hf H o v fp → OwnT pg CL Hf' H' o v fp
  | .sh d, _, _, _, ⟨h1, h2⟩ => ⟨h1, h2.mono cm e⟩
  | .lst xs, _, _, k, ⟨p, vs, h1, h2, h3, h4⟩ => ⟨p, vs, h1, h2, k p (by rw [h2]; exact List.mem_cons_self) _ h3 (fun ps q => nomatch q), h4.mono cm e⟩
  | .dct kvs, _, _, k, ⟨p, es, h1, h2, h3, h4, h5⟩ => ⟨p, es, h1, h2, k p (by rw [h2]; exact List.mem_cons_self) _ h3 (fun ps q => nomatch q), h4, h5.mono cm e⟩
  | .ins C fs, _, _, k, ⟨a, dx, ws, r, h1, h2, h3, h4, h5⟩ => ⟨a, dx, ws, r, h1, h2, k a (by rw [h2]; exact List.mem_cons_self) _ h3 (fun ps q => nomatch q), OwnF.mono cm e (fun b hb => k b (by rw [h2]; exact List.mem_cons_of_mem _ hb)) h4, h5⟩
theorem OwnF.mono (cm : CloMono CL) (e : Same Hf Hf') : ∀ {fs : List (Str × OT)} {ws : List (Str × V)} {fp : List Addr}, (∀ a ∈ fp, ∀ u, H a = some u → (∀ ps, u ≠ .tbl ps) → H' a = some u) → OwnF pg CL Hf H fs ws fp → OwnF pg CL Hf' H' fs ws fp
  | [], _, _, _, h => h
  | (x, o) :: fs, _, _, k, ⟨v, r, f1, f2, h1, h2, h3, h4, h5⟩ =>
    ⟨v, r, f1, f2, h1, h2, OwnT.mono cm e (fun a ha => k a (by rw [h2]; exact List.mem_append_left _ ha)) h3, OwnF.mono cm e (fun a ha => k a (by rw [h2]; exact List.mem_append_right _ ha)) h4, h5⟩
end
mutual
theorem OwnT.there : ∀ {o : OT} {v : V} {fp : List Addr}, OwnT pg CL Hf H o v fp → ∀ a ∈ fp, ∃ u, H a = some u ∧ (∀ ps, u ≠ .tbl ps) ∧ Mut (some u)
  | .sh d, _, _, ⟨h1, h2⟩, a, ha => by rw [h1] at ha; cases ha
  | .lst xs, _, _, ⟨p, vs, h1, h2, h3, h4⟩, a, ha => by
    rw [h2] at ha
    have e : a = p := by simpa using ha
    subst e
    exact ⟨_, h3, (fun ps q => nomatch q), trivial⟩
  | .dct kvs, _, _, ⟨p, es, h1, h2, h3, h4, h5⟩, a, ha => by
    rw [h2] at ha
    have e : a = p := by simpa using ha
    subst e
    exact ⟨_, h3, (fun ps q => nomatch q), trivial⟩
  | .ins C fs, _, _, ⟨b, dx, ws, r, h1, h2, h3, h4, h5⟩, a, ha => by
    rw [h2] at ha
    rcases List.mem_cons.mp ha with e | e
    · subst e
      exact ⟨_, h3, (fun ps q => nomatch q), trivial⟩
    · exact OwnF.there h4 a e
theorem OwnF.there : ∀ {fs : List (Str × OT)} {ws : List (Str × V)} {fp : List Addr}, OwnF pg CL Hf H fs ws fp → ∀ a ∈ fp, ∃ u, H a = some u ∧ (∀ ps, u ≠ .tbl ps) ∧ Mut (some u)
  | [], _, _, ⟨_, h⟩, a, ha => by rw [h] at ha; cases ha
  | (x, o) :: fs, _, _, ⟨v, r, f1, f2, h1, h2, h3, h4, h5⟩, a, ha => by
    rw [h2] at ha
    rcases List.mem_append.mp ha with e | e
    · exact OwnT.there h3 a e
    · exact OwnF.there h4 a e
end
mutual
/-- a thing's footprint is told by the heap -/
theorem OwnT.uniq {Hf2 : Hp} : ∀ {o o2 : OT} {v : V} {f1 f2 : List Addr}, OwnT pg CL Hf H o v f1 → OwnT pg CL Hf2 H o2 v f2 → o = o2 → f1 = f2
  | .sh d, _, _, _, _, ⟨h1, _⟩, k, e => by
    subst e
    rw [h1, k.1]
  | .lst xs, _, _, _, _, ⟨p, vs, h1, h2, _⟩, k, e => by
    subst e
    obtain ⟨p', vs', k1, k2, _⟩ := k
    rw [h1] at k1
    cases k1
    rw [h2, k2]
  | .dct kvs, _, _, _, _, ⟨p, es, h1, h2, _⟩, k, e => by
    subst e
    obtain ⟨p', vs', k1, k2, _⟩ := k
    rw [h1] at k1
    cases k1
    rw [h2, k2]
  | .ins C fs, _, _, _, _, ⟨a, dx, ws, r, h1, h2, h3, h4, h5⟩, k, e => by
    subst e
    obtain ⟨a', dx', ws', r', k1, k2, k3, k4, k5⟩ := k
    rw [h1] at k1
    cases k1
    rw [h3] at k3
    cases k3
    rw [h2, k2, OwnF.uniq h4 k4 rfl]
theorem OwnF.uniq {Hf2 : Hp} : ∀ {fs fs2 : List (Str × OT)} {ws : List (Str × V)} {f1 f2 : List Addr}, OwnF pg CL Hf H fs ws f1 → OwnF pg CL Hf2 H fs2 ws f2 → fs = fs2 → f1 = f2
  | [], _, _, _, _, ⟨_, h⟩, k, e => by
    subst e
    rw [h, k.2]
  | (x, o) :: fs, _, _, _, _, ⟨v, r, a1, a2, h1, h2, h3, h4, h5⟩, k, e => by
    subst e
    obtain ⟨v', r', b1, b2, k1, k2, k3, k4, k5⟩ := k
    rw [h1] at k1
    cases k1
    rw [h2, k2, OwnT.uniq h3 k3 rfl, OwnF.uniq h4 k4 rfl]
end
def putO (f : Str) (o : OT) : List (Str × OT) → List (Str × OT)
  | [] => [(f, o)]
  | (g, x) :: r => if g = f then (g, o) :: r else (g, x) :: putO f o r
theorem OwnF.none : ∀ {fs : List (Str × OT)} {ws : List (Str × V)} {fp : List Addr} {x : Str}, OwnF pg CL Hf H fs ws fp → fs.lookup x = none → ws.lookup x = none
  | [], _, _, x, ⟨h, _⟩, e => by rw [h]; rfl
  | (y, o) :: fs, _, _, x, ⟨v, r, f1, f2, h1, h2, h3, h4, h5⟩, e => by
    subst h1
    rw [List.lookup_cons] at e ⊢
    cases q : x == y with
    | true => rw [q] at e; cases e
    | false => rw [q] at e; exact OwnF.none h4 e
theorem OwnF.look : ∀ {fs : List (Str × OT)} {ws : List (Str × V)} {fp : List Addr} {x : Str} {o : OT}, OwnF pg CL Hf H fs ws fp → fs.lookup x = some o → ∃ v f1, ws.lookup x = some v ∧ OwnT pg CL Hf H o v f1 ∧ ∀ a ∈ f1, a ∈ fp
  | (y, o) :: fs, _, _, x, o', ⟨v, r, f1, f2, h1, h2, h3, h4, h5⟩, e => by
    subst h1
    rw [List.lookup_cons] at e ⊢
    cases q : x == y with
    | true =>
      rw [q] at e
      cases e
      exact ⟨v, f1, rfl, h3, fun a ha => by rw [h2]; exact List.mem_append_left _ ha⟩
    | false =>
      rw [q] at e
      obtain ⟨v', g, k1, k2, k3⟩ := OwnF.look h4 e
      exact ⟨v', g, k1, k2, fun a ha => by rw [h2]; exact List.mem_append_right _ (k3 a ha)⟩
theorem OwnF.len : ∀ {fs : List (Str × OT)} {ws : List (Str × V)} {fp : List Addr}, OwnF pg CL Hf H fs ws fp → ws.length = fs.length
  | [], _, _, ⟨h, _⟩ => by rw [h]; rfl
  | (y, o) :: fs, _, _, ⟨v, r, f1, f2, h1, h2, h3, h4, h5⟩ => by rw [h1, List.length_cons, List.length_cons, OwnF.len h4]
/-- an attribute is stored -/
theorem OwnF.put {f : Str} {o : OT} {v : V} {g : List Addr} (hv : OwnT pg CL Hf H o v g) : ∀ {fs : List (Str × OT)} {ws : List (Str × V)} {fp : List Addr}, OwnF pg CL Hf H fs ws fp → (∀ a ∈ g, a ∉ fp) → ∃ fp', OwnF pg CL Hf H (putO f o fs) (putF f v ws) fp' ∧ ∀ a ∈ fp', a ∈ fp ∨ a ∈ g
  | [], _, _, ⟨h1, h2⟩, hd => by
    subst h1
    exact ⟨g ++ [], ⟨v, [], g, [], rfl, rfl, hv, ⟨rfl, rfl⟩, fun _ _ z => nomatch z⟩, fun a ha => .inr (by simpa using ha)⟩
  | (y, o') :: fs, _, _, ⟨v', r, f1, f2, h1, h2, h3, h4, h5⟩, hd => by
    subst h1
    unfold putO putF
    by_cases q : y = f
    · rw [if_pos q, if_pos q]
      exact ⟨g ++ f2, ⟨v, r, g, f2, rfl, rfl, hv, h4, fun a ha hb => hd a ha (by rw [h2]; exact List.mem_append_right _ hb)⟩, fun a ha => by
        rcases List.mem_append.mp ha with e | e
        · exact .inr e
        · exact .inl (by rw [h2]; exact List.mem_append_right _ e)⟩
    · rw [if_neg q, if_neg q]
      obtain ⟨fp', k1, k2⟩ := OwnF.put hv h4 (fun a ha hb => hd a ha (by rw [h2]; exact List.mem_append_right _ hb))
      refine ⟨f1 ++ fp', ⟨v', _, f1, fp', rfl, rfl, h3, k1, fun a ha hb => ?_⟩, fun a ha => ?_⟩
      · rcases k2 a hb with e | e
        · exact h5 a ha e
        · exact hd a e (by rw [h2]; exact List.mem_append_left _ ha)
      · rcases List.mem_append.mp ha with e | e
        · exact .inl (by rw [h2]; exact List.mem_append_left _ e)
        · rcases k2 a e with z | z
          · exact .inl (by rw [h2]; exact List.mem_append_right _ z)
          · exact .inr z
/-- a part of the attributes is changed in place: the part at f, from o to o', its address stays -/
theorem OwnF.within {f : Str} {o o' : OT} {H' : Hp} (cm : CloMono CL) : ∀ {fs : List (Str × OT)} {ws : List (Str × V)} {fp : List Addr}, OwnF pg CL Hf H fs ws fp → fs.lookup f = some o →
    ∃ v g, ws.lookup f = some v ∧ OwnT pg CL Hf H o v g ∧ (∀ a ∈ g, a ∈ fp) ∧ (OwnT pg CL Hf H' o' v g → (∀ a, a ∉ g → ∀ u, H a = some u → (∀ ps, u ≠ .tbl ps) → H' a = some u) → OwnF pg CL Hf H' (putO f o' fs) ws fp)
  | (y, o1) :: fs, _, _, ⟨v', r, f1, f2, h1, h2, h3, h4, h5⟩, e => by
    subst h1
    rw [List.lookup_cons] at e ⊢
    unfold putO
    by_cases q : f = y
    · subst q
      rw [beq_self_eq_true] at e ⊢
      cases e
      rw [if_pos rfl]
      exact ⟨v', f1, rfl, h3, fun a ha => by rw [h2]; exact List.mem_append_left _ ha, fun k1 k2 => ⟨v', r, f1, f2, rfl, h2, k1, h4.mono cm (Same.refl _) fun a ha u hu ht => k2 a (fun z => h5 a z ha) u hu ht, h5⟩⟩
    · rw [beq_eq_false_iff_ne.mpr q] at e ⊢
      rw [if_neg (fun z => q z.symm)]
      obtain ⟨v, g, k1, k2, k3, k4⟩ := OwnF.within (o' := o') (H' := H') cm h4 e
      refine ⟨v, g, k1, k2, fun a ha => by rw [h2]; exact List.mem_append_right _ (k3 a ha), fun j1 j2 => ⟨v', r, f1, f2, rfl, h2, h3.mono cm (Same.refl _) fun a ha u hu ht => j2 a (fun z => h5 a ha (k3 a z)) u hu ht, k4 j1 j2, h5⟩⟩
/-- a shared thing stands wherever -/
theorem OwnT.sh_of {d : D} {v : V} (h : Rep pg.K CL Hf d v) : OwnT pg CL Hf H (.sh d) v [] := ⟨rfl, h⟩
end
end Lk
set_option maxHeartbeats 4000000
namespace Lk
open PySem PySem.Spec PyProof.Rows L2
/-! ### the text by places -/
/-! ### the two made functions -/
/-- a cell that holds v -/
def CellO (c : Addr) (v : V) : HO := .ext fun h => ∃ u, RelV v u ∧ h.IsCell c (some u)
structure CloK where
  st : Stmt
  name : Str
  qual : Str
  fr : List Str
def cloK : Nat → CloK
  | 0 => ⟨(defBody (top 52)).getD 0 (.Pass ⟨0, 0, 0, 0⟩), "ahead", "choices_in.<locals>.ahead", ["canal", "ways"]⟩
  | _ => ⟨(defBody (top 53)).getD 0 (.Pass ⟨0, 0, 0, 0⟩), "ended", "home_in.<locals>.ended", ["ways"]⟩
def CellsT (Hf : Hp) : List Addr → List V → Prop
  | [], vs => vs = []
  | c :: cs, vs => ∃ v r, vs = v :: r ∧ Hf c = some (CellO c v) ∧ c ∉ cs ∧ CellsT Hf cs r
def cl0 : Clo := fun k Hf f vs => ∃ (c : Addr) (cs : List Addr) (cl : List (Str × Addr)), Hf f = some (NdefX.FnO f (NdefX.NF.of (cloK k).st (cloK k).name (cloK k).qual cl c)) ∧ Hf c = some (LamX.CodeO c (cloK k).qual) ∧
  CellsT Hf cs vs ∧ (∀ (i : Nat) y, (cloK k).fr[i]? = some y → cl.lookup y = cs[i]?) ∧ cs.length = (cloK k).fr.length ∧ ∀ y a, cl.lookup y = some a → y ∈ (cloK k).fr
theorem CellsT.mono {Hf Hf' : Hp} (e : Same Hf Hf') : ∀ {cs : List Addr} {vs : List V}, CellsT Hf cs vs → CellsT Hf' cs vs
  | [], _, h => h
  | c :: cs, _, ⟨v, r, h1, h2, h3, h4⟩ => ⟨v, r, h1, e _ _ h2, h3, CellsT.mono e h4⟩
theorem cm0 : CloMono cl0 := fun k Hf Hf' f vs e ⟨c, cs, cl, h1, h2, h3, h4, h5, h6⟩ => ⟨c, cs, cl, e _ _ h1, e _ _ h2, h3.mono e, h4, h5, h6⟩
abbrev R (pg : Pg) (Hf : Hp) (d : D) (v : V) : Prop := Rep pg.K cl0 Hf d v
abbrev Rs (pg : Pg) (Hf : Hp) (ds : List D) (vs : List V) : Prop := Reps pg.K cl0 Hf ds vs
abbrev Own (pg : Pg) (Hf H : Hp) (o : OT) (v : V) (fp : List Addr) : Prop := OwnT pg cl0 Hf H o v fp
/-! ### growth -/
/-- the tables of the made functions are in order, none of them stands for ever; code objects do -/
structure Tb (pg : Pg) (Hf H : Hp) : Prop where
  t : NdefX.TabsN pg.T H
  nt : ∀ a ps, Hf a ≠ some (.tbl ps)
  co : ∀ a q, H a = some (LamX.CodeO a q) → Hf a = some (LamX.CodeO a q)
section
variable {pg : Pg} {Hf H : Hp} {p : Addr} {u : HO}
theorem Tb.alloc (t : Tb pg Hf H) (hp : H p = none) (hc : ∀ q, u ≠ LamX.CodeO p q) : Tb pg Hf (upd H p u) := ⟨t.t.ext fun b o e => Same.new hp b o e, t.nt, fun a q e => by
  by_cases h : a = p
  · subst h
    rw [upd_same] at e
    exact absurd (Option.some.inj e) (hc q)
  · rw [upd_ne h] at e
    exact t.co a q e⟩
theorem Tb.fz (t : Tb pg Hf H) (hu : ∀ ps, u ≠ .tbl ps) (h : H p = some u) : Tb pg (upd Hf p u) H := ⟨t.t, fun a ps e => by
  by_cases q : a = p
  · rw [q, upd_same] at e
    exact hu ps (Option.some.inj e)
  · rw [upd_ne q] at e
    exact t.nt a ps e, fun a q e => by
  by_cases z : a = p
  · subst z
    rw [h] at e
    rw [upd_same]
    exact e
  · rw [upd_ne z]
    exact t.co a q e⟩
theorem Tb.fresh (t : Tb pg Hf H) (hp : H p = none) (hu : ∀ ps, u ≠ .tbl ps) : Tb pg (upd Hf p u) (upd H p u) := ⟨t.t.ext fun b o e => Same.new hp b o e, fun a ps e => by
  by_cases q : a = p
  · rw [q, upd_same] at e
    exact hu ps (Option.some.inj e)
  · rw [upd_ne q] at e
    exact t.nt a ps e, fun a q e => by
  by_cases z : a = p
  · subst z
    rw [upd_same] at e ⊢
    exact e
  · rw [upd_ne z] at e ⊢
    exact t.co a q e⟩
end
structure Gw (pg : Pg) (Hf H Hf' H' : Hp) : Prop where
  gr : Same Hf Hf'
  ff : Same Hf' H'
  ns : NS H H'
  dom : ∀ a, H' a = none → H a = none
  agr : ∀ a, H a ≠ none → Hf' a = Hf a
  tabs : Tb pg Hf' H'
section
variable {pg : Pg} {Hf H Hf1 H1 Hf2 H2 : Hp} {d : D} {o : OT} {v : V} {fp : List Addr}
theorem Gw.refl (ff : Same Hf H) (t : Tb pg Hf H) : Gw pg Hf H Hf H := ⟨Same.refl _, ff, NS.refl _, fun _ h => h, fun _ _ => rfl, t⟩
theorem Gw.trans (a : Gw pg Hf H Hf1 H1) (b : Gw pg Hf1 H1 Hf2 H2) : Gw pg Hf H Hf2 H2 :=
  ⟨a.gr.trans b.gr, b.ff, a.ns.trans b.ns, fun x h => a.dom x (b.dom x h), fun x h => (b.agr x fun z => h (a.dom x z)).trans (a.agr x h), b.tabs⟩
theorem Gw.rep (g : Gw pg Hf H Hf1 H1) (h : R pg Hf d v) : R pg Hf1 d v := h.mono cm0 g.gr
theorem Gw.reps {ds : List D} {vs : List V} (g : Gw pg Hf H Hf1 H1) (h : Rs pg Hf ds vs) : Rs pg Hf1 ds vs := h.mono cm0 g.gr
theorem Gw.own (g : Gw pg Hf H Hf1 H1) (h : Own pg Hf H o v fp) : Own pg Hf1 H1 o v fp := h.mono cm0 g.gr fun a _ u hu ht => g.ns a u hu ht
/-- a new object, its holder's alone -/
theorem Gw.alloc {p : Addr} {u : HO} (ff : Same Hf H) (t : Tb pg Hf H) (hp : H p = none) (hc : ∀ q, u ≠ LamX.CodeO p q := by intro _ h; unfold LamX.CodeO at h; cases h) : Gw pg Hf H Hf (upd H p u) :=
  ⟨Same.refl _, ff.trans (Same.new hp), NS.new hp, fun a h => NdefX.upd_none h, fun _ _ => rfl, t.alloc hp hc⟩
/-- a new object, never to be changed -/
theorem Gw.fresh {p : Addr} {u : HO} (ff : Same Hf H) (t : Tb pg Hf H) (hp : H p = none) (hu : ∀ ps, u ≠ .tbl ps := by intro _ h; cases h) : Gw pg Hf H (upd Hf p u) (upd H p u) := by
  have hf : Hf p = none := by
    cases q : Hf p with
    | none => rfl
    | some x => rw [ff p x q] at hp; cases hp
  refine ⟨Same.new hf, fun a o e => ?_, NS.new hp, fun a h => NdefX.upd_none h, fun a h => upd_ne fun z => h (by rw [z]; exact hp), t.fresh hp hu⟩
  by_cases q : a = p
  · subst q
    rw [upd_same] at e ⊢
    exact e
  · rw [upd_ne q] at e ⊢
    exact ff a o e
/-- what was new is changed no more -/
theorem Gw.freeze {p : Addr} {u : HO} (g : Gw pg Hf H Hf1 H1) (h0 : H p = none) (h1 : H1 p = some u) (hu : ∀ ps, u ≠ .tbl ps := by intro _ h; cases h) : Gw pg Hf H (upd Hf1 p u) H1 := by
  refine ⟨fun a o e => ?_, fun a o e => ?_, g.ns, g.dom, fun a h => ?_, g.tabs.fz hu h1⟩
  · by_cases q : a = p
    · subst q
      have := g.ff a o (g.gr a o e)
      rw [h1] at this
      rw [upd_same, ← this]
    · rw [upd_ne q]
      exact g.gr a o e
  · by_cases q : a = p
    · subst q
      rw [upd_same] at e
      rw [h1]
      exact e
    · rw [upd_ne q] at e
      exact g.ff a o e
  · rw [upd_ne fun z => h (by rw [z]; exact h0)]
    exact g.agr a h
end
/-! ### the state of a body -/
inductive Sl where
  | no | sh (d : D) | ro (o : OT) | ow (o : OT)
/-- what a body was entered with: the heap, what stands for ever, what it may change, the arguments -/
structure Cf where
  H : Hp
  Hf : Hp
  Mi : Nat → List Addr
  vs : List V
  n : Nat
structure AS where
  p : Addr → Prop
instance : Membership Addr AS := ⟨fun s a => s.p a⟩
/-- all that may be changed -/
def Cf.M (c : Cf) : AS := ⟨fun a => ∃ i, a ∈ c.Mi i⟩
def SlOk (pg : Pg) (c : Cf) (own : List Nat) (Hf H : Hp) (i : Nat) (o : Option (Option V)) (s : Sl) (F : List Addr) : Prop :=
  match s with
  | .no => F = []
  | .sh d => F = [] ∧ ∃ v, o = some (some v) ∧ R pg Hf d v
  | .ro q => F = [] ∧ ∃ v fp, o = some (some v) ∧ Own pg Hf c.H q v fp ∧ ∀ a ∈ fp, a ∉ c.M
  | .ow q => ∃ v, o = some (some v) ∧ Own pg Hf H q v F ∧ ∀ a ∈ F, Hf a = none ∧ (c.H a = none ∨ (i ∈ own ∧ a ∈ c.Mi i))
structure Env (pg : Pg) (c : Cf) (own : List Nat) (Hf H : Hp) (σ : L2.St) (ρ : List Sl) : Prop where
  gr : Same c.Hf Hf
  ff : Same Hf H
  pres : ∀ a o, c.H a = some o → a ∉ c.M → (∀ ps, o ≠ .tbl ps) → H a = some o
  dom : ∀ a, H a = none → c.H a = none
  agr : ∀ a, c.H a ≠ none → Hf a = c.Hf a
  tabs : Tb pg Hf H
  pin : ∀ i ∈ own, ∃ v, c.vs[i]? = some v ∧ σ[i]? = some (some v)
  len : σ.length = ρ.length
  ln : ρ.length = c.n
  sl : ∃ F : Nat → List Addr, (∀ i s, ρ[i]? = some s → SlOk pg c own Hf H i σ[i]? s (F i)) ∧ (∀ i, ρ[i]? = none → F i = []) ∧ ∀ i j a, a ∈ F i → a ∈ F j → i = j
section
variable {pg : Pg} {c : Cf} {own : List Nat} {Hf H Hf' H' : Hp} {σ : L2.St} {ρ : List Sl} {d : D} {o : OT} {v : V} {i : Nat}
theorem Env.self (E : Env pg c own Hf H σ ρ) : Gw pg Hf H Hf H := Gw.refl E.ff E.tabs
theorem Env.sh (E : Env pg c own Hf H σ ρ) (h : ρ[i]? = some (.sh d)) : ∃ v, σ[i]? = some (some v) ∧ R pg Hf d v := by
  obtain ⟨F, h1, _, _⟩ := E.sl
  exact (h1 i _ h).2
/-- a thing held at a name: looked at -/
theorem Env.look (E : Env pg c own Hf H σ ρ) (h : ρ[i]? = some (.ow o) ∨ ρ[i]? = some (.ro o)) : ∃ v fp, σ[i]? = some (some v) ∧ Own pg Hf H o v fp ∧ ∀ a ∈ fp, H a ≠ none := by
  obtain ⟨F, h1, _, _⟩ := E.sl
  rcases h with h | h
  · obtain ⟨v, e, q, _⟩ := h1 i _ h
    exact ⟨v, F i, e, q, fun a ha z => by
      obtain ⟨u, hu, _⟩ := q.there a ha
      rw [z] at hu; cases hu⟩
  · obtain ⟨_, v, fp, e, q, nm⟩ := h1 i _ h
    refine ⟨v, fp, e, q.mono cm0 (Same.refl _) fun a ha u hu ht => E.pres a u hu (nm a ha) ht, fun a ha z => ?_⟩
    obtain ⟨u, hu, _⟩ := q.there a ha
    rw [E.dom a z] at hu; cases hu
theorem Env.grow (E : Env pg c own Hf H σ ρ) (g : Gw pg Hf H Hf' H') : Env pg c own Hf' H' σ ρ := by
  obtain ⟨F, h1, h2, h3⟩ := E.sl
  refine ⟨E.gr.trans g.gr, g.ff, fun a o e m t => g.ns a o (E.pres a o e m t) t, fun a h => E.dom a (g.dom a h), fun a h => (g.agr a fun z => h (E.dom a z)).trans (E.agr a h), g.tabs, E.pin, E.len, E.ln, F, fun i s e => ?_, h2, h3⟩
  have q := h1 i s e
  cases s with
  | no => exact q
  | sh d =>
    obtain ⟨q0, v, e1, q1⟩ := q
    exact ⟨q0, v, e1, g.rep q1⟩
  | ro o =>
    obtain ⟨q0, v, fp, e1, q1, q2⟩ := q
    exact ⟨q0, v, fp, e1, q1.mono cm0 g.gr fun _ _ _ hu _ => hu, q2⟩
  | ow o =>
    obtain ⟨v, e1, q1, q2⟩ := q
    refine ⟨v, e1, g.own q1, fun a ha => ?_⟩
    obtain ⟨u, hu, _⟩ := q1.there a ha
    obtain ⟨k1, k2⟩ := q2 a ha
    exact ⟨(g.agr a fun z => by rw [z] at hu; cases hu).trans k1, k2⟩
theorem own_lt (E : Env pg c own Hf H σ ρ) (h : i ∈ own) : i < ρ.length := by
  obtain ⟨v, _, e⟩ := E.pin i h
  rw [← E.len]
  exact (List.getElem?_eq_some_iff.mp e).1
/-- a name is given a value -/
theorem Env.set (E : Env pg c own Hf H σ ρ) (hi : i < ρ.length) (ho : i ∉ own) (r : R pg Hf d v) : Env pg c own Hf H (σ.set i (some v)) (ρ.set i (.sh d)) := by
  obtain ⟨F, h1, h2, h3⟩ := E.sl
  refine ⟨E.gr, E.ff, E.pres, E.dom, E.agr, E.tabs, fun j hj => ?_, by rw [List.length_set, List.length_set]; exact E.len, by rw [List.length_set]; exact E.ln, fun j => if j = i then [] else F j, fun j s e => ?_, fun j e => ?_, fun j k a hj hk => ?_⟩
  · obtain ⟨v', e1, e2⟩ := E.pin j hj
    exact ⟨v', e1, by rw [List.getElem?_set_ne (fun z => ho (by rw [z]; exact hj))]; exact e2⟩
  · dsimp only
    by_cases q : i = j
    · subst q
      rw [List.getElem?_set_self hi] at e
      cases e
      rw [if_pos rfl]
      exact ⟨rfl, v, by rw [List.getElem?_set_self (by rw [E.len]; exact hi)], r⟩
    · rw [List.getElem?_set_ne q] at e
      rw [if_neg (fun z : j = i => q z.symm), List.getElem?_set_ne q]
      exact h1 j s e
  · by_cases q : i = j
    · show (if j = i then _ else _) = _
      rw [if_pos q.symm]
    · show (if j = i then _ else _) = _
      rw [if_neg (fun z : j = i => q z.symm)]
      rw [List.getElem?_set_ne q] at e
      exact h2 j e
  · dsimp only at hj hk
    by_cases q : j = i
    · rw [if_pos q] at hj; cases hj
    · by_cases q2 : k = i
      · rw [if_pos q2] at hk; cases hk
      · rw [if_neg q] at hj
        rw [if_neg q2] at hk
        exact h3 j k a hj hk
/-- a name is given a new thing to hold -/
theorem Env.setO {fp : List Addr} (E : Env pg c own Hf H σ ρ) (g : Gw pg Hf H Hf' H') (hi : i < ρ.length) (ho : i ∉ own) (r : Own pg Hf' H' o v fp) (hf : ∀ a ∈ fp, H a = none ∧ Hf' a = none) : Env pg c own Hf' H' (σ.set i (some v)) (ρ.set i (.ow o)) := by
  have E' := E.grow g
  obtain ⟨F0, h1', _, _⟩ := E.sl
  have old : ∀ j, ∀ a ∈ F0 j, H a ≠ none := fun j a ha z => by
    cases q : ρ[j]? with
    | none =>
      rename_i h2' _
      rw [h2' j q] at ha; cases ha
    | some s =>
      have k := h1' j s q
      cases s with
      | no => rw [show F0 j = [] from k] at ha; cases ha
      | sh d => rw [k.1] at ha; cases ha
      | ro o => rw [k.1] at ha; cases ha
      | ow o =>
        obtain ⟨_, _, k1, _⟩ := k
        obtain ⟨u, hu, _⟩ := k1.there a ha
        rw [z] at hu; cases hu
  rename_i h2' h3'
  refine ⟨E'.gr, E'.ff, E'.pres, E'.dom, E'.agr, E'.tabs, fun j hj => ?_, by rw [List.length_set, List.length_set]; exact E.len, by rw [List.length_set]; exact E.ln, fun j => if j = i then fp else F0 j, fun j s e => ?_, fun j e => ?_, fun j k a hj hk => ?_⟩
  · obtain ⟨v', e1, e2⟩ := E.pin j hj
    exact ⟨v', e1, by rw [List.getElem?_set_ne (fun z => ho (by rw [z]; exact hj))]; exact e2⟩
  · dsimp only
    by_cases q : i = j
    · subst q
      rw [List.getElem?_set_self hi] at e
      cases e
      rw [if_pos rfl]
      exact ⟨v, by rw [List.getElem?_set_self (by rw [E.len]; exact hi)], r, fun a ha => ⟨(hf a ha).2, .inl (E.dom a (hf a ha).1)⟩⟩
    · rw [List.getElem?_set_ne q] at e
      rw [if_neg (fun z : j = i => q z.symm), List.getElem?_set_ne q]
      have q1 := h1' j s e
      cases s with
      | no => exact q1
      | sh d =>
        obtain ⟨q0, v, e1, q1⟩ := q1
        exact ⟨q0, v, e1, g.rep q1⟩
      | ro o =>
        obtain ⟨q0, v, fp, e1, q1, q2⟩ := q1
        exact ⟨q0, v, fp, e1, q1.mono cm0 g.gr fun _ _ _ hu _ => hu, q2⟩
      | ow o =>
        obtain ⟨v, e1, q1, q2⟩ := q1
        refine ⟨v, e1, g.own q1, fun a ha => ?_⟩
        obtain ⟨u, hu, _⟩ := q1.there a ha
        obtain ⟨k1, k2⟩ := q2 a ha
        exact ⟨(g.agr a fun z => by rw [z] at hu; cases hu).trans k1, k2⟩
  · dsimp only
    by_cases q : i = j
    · subst q
      rw [List.getElem?_eq_none_iff, List.length_set] at e
      omega
    · show (if j = i then _ else _) = _
      rw [if_neg (fun z : j = i => q z.symm)]
      rw [List.getElem?_set_ne q] at e
      exact h2' j e
  · dsimp only at hj hk
    by_cases q : j = i
    · by_cases q2 : k = i
      · rw [q, q2]
      · rw [if_pos q] at hj
        rw [if_neg q2] at hk
        exact absurd (hf a hj).1 (old k a hk)
    · by_cases q2 : k = i
      · rw [if_neg q] at hj
        rw [if_pos q2] at hk
        exact absurd (hf a hk).1 (old j a hj)
      · rw [if_neg q] at hj
        rw [if_neg q2] at hk
        exact h3' j k a hj hk
/-- a thing held at a name is changed; what it stands on now was its own or is new -/
theorem Env.mut {o' : OT} {Hf' H' : Hp} (E : Env pg c own Hf H σ ρ) (h : ρ[i]? = some (.ow o)) :
    ∃ v fp, σ[i]? = some (some v) ∧ Own pg Hf H o v fp ∧ (∀ a ∈ fp, Hf a = none) ∧ ∀ fp', Own pg Hf' H' o' v fp' → Same Hf Hf' → Same Hf' H' → (∀ a u, H a = some u → a ∉ fp → (∀ ps, u ≠ .tbl ps) → H' a = some u) → (∀ a, H' a = none → H a = none) →
      (∀ a, H a ≠ none → Hf' a = Hf a) → Tb pg Hf' H' → (∀ a ∈ fp', Hf' a = none ∧ (H a = none ∨ a ∈ fp)) → Env pg c own Hf' H' σ (ρ.set i (.ow o')) := by
  obtain ⟨F, h1, h2, h3⟩ := E.sl
  obtain ⟨v, e, q, ok⟩ := h1 i _ h
  have hi : i < ρ.length := (List.getElem?_eq_some_iff.mp h).1
  refine ⟨v, F i, e, q, fun a ha => (ok a ha).1, fun fp' q' sf sh ns dom agr tb hn => ?_⟩
  have old : ∀ j, ∀ a ∈ F j, H a ≠ none := fun j a ha z => by
    cases q : ρ[j]? with
    | none => rw [h2 j q] at ha; cases ha
    | some s =>
      have k := h1 j s q
      cases s with
      | no => rw [show F j = [] from k] at ha; cases ha
      | sh d => rw [k.1] at ha; cases ha
      | ro o => rw [k.1] at ha; cases ha
      | ow o =>
        obtain ⟨_, _, k1, _⟩ := k
        obtain ⟨u, hu, _⟩ := k1.there a ha
        rw [z] at hu; cases hu
  refine ⟨E.gr.trans sf, sh, fun a u e' m t => ?_, fun a z => E.dom a (dom a z), fun a z => (agr a fun y => z (E.dom a y)).trans (E.agr a z), tb, E.pin, by rw [List.length_set]; exact E.len, by rw [List.length_set]; exact E.ln, fun j => if j = i then fp' else F j, fun j s e' => ?_, fun j e' => ?_, fun j k a hj hk => ?_⟩
  · refine ns a u (E.pres a u e' m t) (fun ha => ?_) t
    rcases (ok a ha).2 with z | ⟨_, z⟩
    · rw [z] at e'; cases e'
    · exact m ⟨_, z⟩
  · dsimp only
    by_cases qi : i = j
    · subst qi
      rw [List.getElem?_set_self hi] at e'
      cases e'
      rw [if_pos rfl]
      refine ⟨v, e, q', fun a ha => ⟨(hn a ha).1, ?_⟩⟩
      rcases (hn a ha).2 with z | z
      · exact .inl (E.dom a z)
      · exact (ok a z).2
    · rw [List.getElem?_set_ne qi] at e'
      rw [if_neg (fun z : j = i => qi z.symm)]
      have q1 := h1 j s e'
      cases s with
      | no => exact q1
      | sh d =>
        obtain ⟨q0, v, e1, q1⟩ := q1
        exact ⟨q0, v, e1, q1.mono cm0 sf⟩
      | ro o =>
        obtain ⟨q0, v, fp, e1, q1, q2⟩ := q1
        exact ⟨q0, v, fp, e1, q1.mono cm0 sf fun _ _ _ hu _ => hu, q2⟩
      | ow o =>
        obtain ⟨v, e1, q1, q2⟩ := q1
        refine ⟨v, e1, q1.mono cm0 sf fun a ha u hu ht => ns a u hu (fun z => qi (h3 i j a z ha)) ht, fun a ha => ?_⟩
        obtain ⟨k1, k2⟩ := q2 a ha
        exact ⟨(agr a (old j a ha)).trans k1, k2⟩
  · dsimp only
    by_cases qi : i = j
    · subst qi
      rw [List.getElem?_eq_none_iff, List.length_set] at e'
      omega
    · show (if j = i then _ else _) = _
      rw [if_neg (fun z : j = i => qi z.symm)]
      rw [List.getElem?_set_ne qi] at e'
      exact h2 j e'
  · dsimp only at hj hk
    have cross : ∀ k, k ≠ i → a ∈ fp' → a ∈ F k → False := fun k nk x y => by
      rcases (hn a x).2 with z | z
      · exact old k a y z
      · exact nk (h3 k i a y z)
    by_cases q : j = i
    · by_cases q2 : k = i
      · rw [q, q2]
      · rw [if_pos q] at hj
        rw [if_neg q2] at hk
        exact (cross k q2 hj hk).elim
    · by_cases q2 : k = i
      · rw [if_neg q] at hj
        rw [if_pos q2] at hk
        exact (cross j q hk hj).elim
      · rw [if_neg q] at hj
        rw [if_neg q2] at hk
        exact h3 j k a hj hk
/-- a name forgotten -/
theorem Env.drop (E : Env pg c own Hf H σ ρ) (i : Nat) : Env pg c own Hf H σ (ρ.set i .no) := by
  obtain ⟨F, h1, h2, h3⟩ := E.sl
  refine ⟨E.gr, E.ff, E.pres, E.dom, E.agr, E.tabs, E.pin, by rw [List.length_set]; exact E.len, by rw [List.length_set]; exact E.ln, fun j => if j = i then [] else F j, fun j s e => ?_, fun j e => ?_, fun j k a hj hk => ?_⟩
  · dsimp only
    by_cases q : i = j
    · subst q
      rw [if_pos rfl]
      by_cases hi : i < ρ.length
      · rw [List.getElem?_set_self hi] at e
        cases e
        exact rfl
      · rw [List.getElem?_eq_none (by rw [List.length_set]; omega)] at e
        cases e
    · rw [List.getElem?_set_ne q] at e
      rw [if_neg (fun z : j = i => q z.symm)]
      exact h1 j s e
  · by_cases q : i = j
    · show (if j = i then _ else _) = _
      rw [if_pos q.symm]
    · show (if j = i then _ else _) = _
      rw [if_neg (fun z : j = i => q z.symm)]
      rw [List.getElem?_set_ne q] at e
      exact h2 j e
  · dsimp only at hj hk
    by_cases q : j = i
    · rw [if_pos q] at hj; cases hj
    · by_cases q2 : k = i
      · rw [if_pos q2] at hk; cases hk
      · rw [if_neg q] at hj
        rw [if_neg q2] at hk
        exact h3 j k a hj hk
/-- a list held at a name is changed no more -/
theorem Env.freeze {xs : List D} (E : Env pg c own Hf H σ ρ) (h : ρ[i]? = some (.ow (.lst xs))) (ho : i ∉ own) : ∃ Hf', Same Hf Hf' ∧ Env pg c own Hf' H σ (ρ.set i (.sh (.lst xs))) := by
  obtain ⟨F, h1, h2, h3⟩ := E.sl
  obtain ⟨v, e, ⟨p, vs, rfl, e2, e3, e4⟩, ok⟩ := h1 i _ h
  have hi : i < ρ.length := (List.getElem?_eq_some_iff.mp h).1
  obtain ⟨k1, k2⟩ := ok p (by rw [e2]; exact List.mem_cons_self)
  have k2 : c.H p = none := k2.elim id fun z => absurd z.1 ho
  have sf : Same Hf (upd Hf p (.lst vs)) := Same.new k1
  refine ⟨upd Hf p (.lst vs), sf, E.gr.trans sf, fun a u e' => ?_, E.pres, E.dom, fun a z => ?_, E.tabs.fz (fun _ h => nomatch h) e3, E.pin, by rw [List.length_set]; exact E.len, by rw [List.length_set]; exact E.ln, fun j => if j = i then [] else F j, fun j s e' => ?_, fun j e' => ?_, fun j k a hj hk => ?_⟩
  · by_cases q : a = p
    · subst q
      rw [upd_same] at e'
      rw [e3]
      exact e'
    · rw [upd_ne q] at e'
      exact E.ff a u e'
  · rw [upd_ne fun y => z (by rw [y]; exact k2)]
    exact E.agr a z
  · dsimp only
    by_cases qi : i = j
    · subst qi
      rw [List.getElem?_set_self hi] at e'
      cases e'
      rw [if_pos rfl]
      exact ⟨rfl, _, e, p, vs, rfl, upd_same, e4.mono cm0 sf⟩
    · rw [List.getElem?_set_ne qi] at e'
      rw [if_neg (fun z : j = i => qi z.symm)]
      have q1 := h1 j s e'
      cases s with
      | no => exact q1
      | sh d =>
        obtain ⟨q0, v, e1, q1⟩ := q1
        exact ⟨q0, v, e1, q1.mono cm0 sf⟩
      | ro o =>
        obtain ⟨q0, v, fp, e1, q1, q2⟩ := q1
        exact ⟨q0, v, fp, e1, q1.mono cm0 sf fun _ _ _ hu _ => hu, q2⟩
      | ow o =>
        obtain ⟨v, e1, q1, q2⟩ := q1
        refine ⟨v, e1, q1.mono cm0 sf fun _ _ _ hu _ => hu, fun a ha => ?_⟩
        obtain ⟨j1, j2⟩ := q2 a ha
        refine ⟨?_, j2⟩
        rw [upd_ne fun z => qi (h3 i j a (by rw [z, e2]; exact List.mem_cons_self) ha)]
        exact j1
  · by_cases qi : i = j
    · show (if j = i then _ else _) = _
      rw [if_pos qi.symm]
    · show (if j = i then _ else _) = _
      rw [if_neg (fun z : j = i => qi z.symm)]
      rw [List.getElem?_set_ne qi] at e'
      exact h2 j e'
  · dsimp only at hj hk
    by_cases q : j = i
    · rw [if_pos q] at hj; cases hj
    · by_cases q2 : k = i
      · rw [if_pos q2] at hk; cases hk
      · rw [if_neg q] at hj
        rw [if_neg q2] at hk
        exact h3 j k a hj hk
end
end Lk
set_option maxHeartbeats 4000000
namespace Lk
open PySem PySem.Spec PyProof.Rows L2
/-! ### the judgements -/
def pgOf (X : Cx) (T : List NdefX.NTab) : Pg := ⟨X.prog, X.w, X.K, X.mg, X.base, T⟩
/-- a place in the text: its context, what it was entered with; N: the names by slot (those that may be read), G: names of the module -/
structure Gm (pg : Pg) (sc : Scope) (N : List (Str × Bool)) (G : List Str) (lv : Nat) (own : List Nat) where
  X : Cx
  c : Cf
  hp : pgOf X pg.T = pg
  hsc : X.env.scope = sc
  nd : X.N.Nodup
  nn : X.N = N.map Prod.fst
  nl : X.N.length = N.length
  nc : c.n = N.length
  vis : ∀ (i : Nat) (x : Str), N[i]? = some (x, true) → X.N[i]? = some x ∧ Vis X.env.scope x
  gl : ∀ x ∈ G, Gl X x
  calm : X.calm = true
  room : Room lv X.A
def RunE (X : Cx) (e : Expr) (σ : L2.St) (H : Hp) (Q : VK) : Prop := ∀ pins s, Inv X pins σ H s → wpAny (model X.prog X.w) X.A (eval e X.env) (EP X pins σ Q) X.xe s
theorem runE (X : Cx) (e : Expr) : PE X e (RunE X e) := ⟨fun pins s σ H Q I h => h pins s I⟩
theorem RunE.of {X : Cx} {e : Expr} {t : TE} {σ : L2.St} {H : Hp} {Q : VK} (p : PE X e t) (h : t σ H Q) : RunE X e σ H Q := fun pins s I => p.run pins s σ H Q I h
def RunT (X : Cx) (e : Expr) (σ : L2.St) (H : Hp) (Q : Bool → Hp → Prop) : Prop := ∀ pins s, Inv X pins σ H s → wpAny (model X.prog X.w) X.A (isTrue e X.env (eval e X.env)) (TP X pins σ Q) X.xe s
theorem runT (X : Cx) (e : Expr) : PT X e (RunT X e) := ⟨fun pins s σ H Q I h => h pins s I⟩
theorem RunT.of {X : Cx} {e : Expr} {t : TT} {σ : L2.St} {H : Hp} {Q : Bool → Hp → Prop} (p : PT X e t) (h : t σ H Q) : RunT X e σ H Q := fun pins s I => p.run pins s σ H Q I h
def RunA (X : Cx) (es : List Expr) (σ : L2.St) (H : Hp) (Q : List V → Hp → Prop) : Prop := ∀ pos pins s, Inv X pins σ H s → wpAny (model X.prog X.w) X.A (spliced (backTo pos (starEach es X.env))) (AP X pins σ Q) X.xe s
theorem runA (X : Cx) (es : List Expr) : PA X es (RunA X es) := ⟨fun pos pins s σ H Q I h => h pos pins s I⟩
theorem RunA.of {X : Cx} {es : List Expr} {t : TA} {σ : L2.St} {H : Hp} {Q : List V → Hp → Prop} (p : PA X es t) (h : t σ H Q) : RunA X es σ H Q := fun pos pins s I => p.run pos pins s σ H Q I h
inductive Ar where
  | sh (d : D)
  | pk (o : OT)
def ArOk (pg : Pg) (Hf H : Hp) : Ar → V → Prop
  | .sh d, v => R pg Hf d v
  | .pk o, v => ∃ fp, Own pg Hf H o v fp ∧ ∀ a ∈ fp, H a ≠ none
def ArsOk (pg : Pg) (Hf H : Hp) : List Ar → List V → Prop
  | [], vs => vs = []
  | a :: as, vs => ∃ v r, vs = v :: r ∧ ArOk pg Hf H a v ∧ ArsOk pg Hf H as r
section
variable {pg : Pg} {sc : Scope} {N : List (Str × Bool)} {G : List Str} {lv : Nat} {own : List Nat} (Γ : Gm pg sc N G lv own)
/-- e is worth the data d -/
def XE (e : Expr) (ρ : List Sl) (d : D) : Prop := ∀ σ Hf H Q, Env pg Γ.c own Hf H σ ρ → (∀ v Hf' H', Gw pg Hf H Hf' H' → R pg Hf' d v → Q v H') → RunE Γ.X e σ H Q
/-- e hands out a new thing -/
def XO (e : Expr) (ρ : List Sl) (o : OT) : Prop := ∀ σ Hf H Q, Env pg Γ.c own Hf H σ ρ → (∀ v Hf' H' fp, Gw pg Hf H Hf' H' → Own pg Hf' H' o v fp → (∀ a ∈ fp, H a = none ∧ Hf' a = none) → Q v H') → RunE Γ.X e σ H Q
/-- e is a thing that stands already, looked at -/
def XP (e : Expr) (ρ : List Sl) (o : OT) : Prop := ∀ σ Hf H Q, Env pg Γ.c own Hf H σ ρ → (∀ v Hf' H' fp, Gw pg Hf H Hf' H' → Own pg Hf' H' o v fp → (∀ a ∈ fp, H' a ≠ none) → Q v H') → RunE Γ.X e σ H Q
/-- the test e comes out as b -/
def XT (e : Expr) (ρ : List Sl) (b : Bool) : Prop := ∀ σ Hf H Q, Env pg Γ.c own Hf H σ ρ → (∀ Hf' H', Gw pg Hf H Hf' H' → Q b H') → RunT Γ.X e σ H Q
/-- arguments -/
def XA (es : List Expr) (ρ : List Sl) (as : List Ar) : Prop := ∀ σ Hf H Q, Env pg Γ.c own Hf H σ ρ → (∀ vs Hf' H', Gw pg Hf H Hf' H' → ArsOk pg Hf' H' as vs → Q vs H') → RunA Γ.X es σ H Q
end
section
variable {pg : Pg} {sc : Scope} {N : List (Str × Bool)} {G : List Str} {lv : Nat} {own : List Nat} {Γ : Gm pg sc N G lv own} {ρ : List Sl} {a b e : Expr} {es : List Expr} {da db d : D} {o : OT} {pos : Pos} {i : Nat} {x : Str}
theorem ArOk.grow {Hf H Hf' H' : Hp} (g : Gw pg Hf H Hf' H') : ∀ {a : Ar} {v : V}, ArOk pg Hf H a v → ArOk pg Hf' H' a v
  | .sh d, _, h => g.rep h
  | .pk o, _, ⟨fp, h, k⟩ => ⟨fp, g.own h, fun a ha z => k a ha (g.dom a z)⟩
theorem ArsOk.length {Hf H : Hp} : ∀ {as : List Ar} {vs : List V}, ArsOk pg Hf H as vs → vs.length = as.length
  | [], _, h => by
    have h : _ = [] := h
    rw [h]
    rfl
  | a :: as, _, ⟨v, r, h1, h2, h3⟩ => by rw [h1, List.length_cons, List.length_cons, ArsOk.length h3]
theorem ArsOk.sh {Hf H : Hp} : ∀ {ds : List D} {vs : List V}, ArsOk pg Hf H (ds.map Ar.sh) vs → Rs pg Hf ds vs
  | [], _, h => h
  | d :: ds, _, ⟨v, r, h1, h2, h3⟩ => ⟨v, r, h1, h2, ArsOk.sh h3⟩
theorem ArsOk.of {Hf H : Hp} : ∀ {ds : List D} {vs : List V}, Rs pg Hf ds vs → ArsOk pg Hf H (ds.map Ar.sh) vs
  | [], _, h => h
  | d :: ds, _, ⟨v, r, h1, h2, h3⟩ => ⟨v, r, h1, h2, ArsOk.of h3⟩
/-- another name for the data -/
theorem XE.to (h : XE Γ e ρ d) (q : d = da) : XE Γ e ρ da := q ▸ h
theorem XO.to {o' : OT} (h : XO Γ e ρ o) (q : o = o') : XO Γ e ρ o' := q ▸ h
theorem XT.to {c c' : Bool} (h : XT Γ e ρ c) (q : c = c') : XT Γ e ρ c' := q ▸ h
theorem XA.nil : XA Γ [] ρ [] := fun σ Hf H Q E k => RunA.of pa_nil (k [] Hf H E.self rfl)
theorem XA.sh {as : List Ar} (h : XE Γ e ρ d) (hr : XA Γ es ρ as) (hs : ∀ env, starEach (e :: es) env = (false, eval e env) :: starEach es env := by intro _; rfl) : XA Γ (e :: es) ρ (.sh d :: as) := fun σ Hf H Q E k =>
  RunA.of (pa_cons (runE _ e) (runA _ es) (hs _)) (h σ Hf H _ E fun v Hf1 H1 g1 r1 => hr σ Hf1 H1 _ (E.grow g1) fun vs Hf2 H2 g2 r2 => k (v :: vs) Hf2 H2 (g1.trans g2) ⟨v, vs, rfl, g2.rep r1, r2⟩)
theorem XA.pk {as : List Ar} (h : XP Γ e ρ o) (hr : XA Γ es ρ as) (hs : ∀ env, starEach (e :: es) env = (false, eval e env) :: starEach es env := by intro _; rfl) : XA Γ (e :: es) ρ (.pk o :: as) := fun σ Hf H Q E k =>
  RunA.of (pa_cons (runE _ e) (runA _ es) (hs _)) (h σ Hf H _ E fun v Hf1 H1 fp g1 r1 r1' => hr σ Hf1 H1 _ (E.grow g1) fun vs Hf2 H2 g2 r2 => k (v :: vs) Hf2 H2 (g1.trans g2) ⟨v, vs, rfl, ArOk.grow g2 (a := .pk o) ⟨fp, r1, r1'⟩, r2⟩)
/-! ### names and constants -/
theorem xv (i : Nat) (h : ρ[i]? = some (.sh d)) (hN : N[i]? = some (x, true) := by rfl) (hd : (x == ("__debug__" : Str)) = false := by decide) (hcd : (x == ("__classdict__" : Str)) = false := by decide) : XE Γ (.Name x pos) ρ d := fun σ Hf H Q E k => by
  obtain ⟨v, e, r⟩ := E.sh h
  obtain ⟨n, vi⟩ := Γ.vis i x hN
  exact RunE.of (pe_var n vi hd hcd) ⟨v, e, k v Hf H E.self r⟩
/-- a thing at a name -/
theorem xpv (i : Nat) (h : ρ[i]? = some (.ow o) ∨ ρ[i]? = some (.ro o)) (hN : N[i]? = some (x, true) := by rfl) (hd : (x == ("__debug__" : Str)) = false := by decide) (hcd : (x == ("__classdict__" : Str)) = false := by decide) : XP Γ (.Name x pos) ρ o := fun σ Hf H Q E k => by
  obtain ⟨v, fp, e, r, nn⟩ := E.look h
  obtain ⟨n, vi⟩ := Γ.vis i x hN
  exact RunE.of (pe_var n vi hd hcd) ⟨v, e, k v Hf H fp E.self r nn⟩
theorem xe_int {n : Int} {j : Nat} : XE Γ (.Constant (.int n) j pos) ρ (.int n) := fun σ Hf H Q E k => RunE.of pe_int (k _ Hf H E.self rfl)
theorem xe_bl {c : Bool} {j : Nat} : XE Γ (.Constant (.bool c) j pos) ρ (.bl c) := fun σ Hf H Q E k => RunE.of pe_bl (k _ Hf H E.self rfl)
theorem xe_non {j : Nat} : XE Γ (.Constant .none j pos) ρ .non := fun σ Hf H Q E k => RunE.of pe_non (k _ Hf H E.self rfl)
theorem xe_str {y : Str} {j : Nat} : XE Γ (.Constant (.str y) j pos) ρ (.str y) := fun σ Hf H Q E k => RunE.of pe_str (k _ Hf H E.self rfl)
theorem mgE (Γ : Gm pg sc N G lv own) : Γ.X.mg = pg.mg := congrArg Pg.mg Γ.hp
theorem kE (Γ : Gm pg sc N G lv own) : Γ.X.K = pg.K := congrArg Pg.K Γ.hp
/-- the i-th of the module's names -/
theorem gmem {j : Nat} (h : G[j]? = some x) : x ∈ G := List.mem_of_getElem? h
theorem xg_int {n : Int} {t : Tok} (j : Nat) (hm : pg.mg x = some (.int n t)) (h : G[j]? = some x := by rfl) (hd : (x == ("__debug__" : Str)) = false := by decide) : XE Γ (.Name x pos) ρ (.int n) := fun σ Hf H Q E k =>
  RunE.of (pe_glob (v := .int n) (Γ.gl x (gmem h)) ((congrFun (mgE Γ) x).trans hm) ⟨t, rfl⟩ hd) (k _ Hf H E.self rfl)
theorem xg_str {y : Str} {t : Tok} (j : Nat) (hm : pg.mg x = some (.str y t)) (h : G[j]? = some x := by rfl) (hd : (x == ("__debug__" : Str)) = false := by decide) : XE Γ (.Name x pos) ρ (.str y) := fun σ Hf H Q E k =>
  RunE.of (pe_glob (v := .str y) (Γ.gl x (gmem h)) ((congrFun (mgE Γ) x).trans hm) ⟨t, rfl⟩ hd) (k _ Hf H E.self rfl)
/-! ### two operands -/
theorem bin2 {R2 : V → V → Hp → Prop} {σ : L2.St} {Hf H : Hp} (ha : XE Γ a ρ da) (hb : XE Γ b ρ db) (E : Env pg Γ.c own Hf H σ ρ)
    (k : ∀ v u Hf' H', Gw pg Hf H Hf' H' → Env pg Γ.c own Hf' H' σ ρ → R pg Hf' da v → R pg Hf' db u → R2 v u H') : RunE Γ.X a σ H fun v H1 => RunE Γ.X b σ H1 fun u H2 => R2 v u H2 :=
  ha σ Hf H _ E fun v Hf1 H1 g1 r1 => hb σ Hf1 H1 _ (E.grow g1) fun u Hf2 H2 g2 r2 => k v u Hf2 H2 (g1.trans g2) (E.grow (g1.trans g2)) (g2.rep r1) r2
/-- an operation on data: f of things that stand for da, db stands for d -/
def OpD (X : Cx) (pg : Pg) (f : Value → Value → Sem Value) (da db d : D) : Prop :=
  ∃ r, OpR X f r ∧ ∀ (v u : V) (Hf H : Hp) (Q : VK), R pg Hf da v → R pg Hf db u → Same Hf H → Tb pg Hf H → (∀ z Hf' H', Gw pg Hf H Hf' H' → R pg Hf' d z → Q z H') → r v u H Q
theorem xe_op {op : Operator} (ha : XE Γ a ρ da) (hb : XE Γ b ρ db) (o : OpD Γ.X pg (binaryOp op) da db d) : XE Γ (.BinOp a op b pos) ρ d := fun σ Hf H Q E k =>
  let ⟨_, o1, o2⟩ := o
  RunE.of (pe_op o1 (runE _ a) (runE _ b)) (bin2 ha hb E fun v u Hf' H' g E' r1 r2 => o2 v u Hf' H' Q r1 r2 E'.ff E'.tabs fun z Hf2 H2 g2 r3 => k z Hf2 H2 (g.trans g2) r3)
theorem xe_cmp {op : CmpOp} (ha : XE Γ a ρ da) (hb : XE Γ b ρ db) (o : OpD Γ.X pg (compareOp op) da db d) (hm : behindInMarks op b = false := by first | exact nomark _ | rfl) : XE Γ (.Compare a [op] [b] pos) ρ d := fun σ Hf H Q E k =>
  let ⟨_, o1, o2⟩ := o
  RunE.of (pe_cmpR o1 (runE _ a) (runE _ b) hm) (bin2 ha hb E fun v u Hf' H' g E' r1 r2 => o2 v u Hf' H' Q r1 r2 E'.ff E'.tabs fun z Hf2 H2 g2 r3 => k z Hf2 H2 (g.trans g2) r3)
theorem xt_cmp {op : CmpOp} {c : Bool} (ha : XE Γ a ρ da) (hb : XE Γ b ρ db) (o : OpD Γ.X pg (compareOp op) da db (.bl c)) (hm : behindInMarks op b = false := by first | exact nomark _ | rfl) : XT Γ (.Compare a [op] [b] pos) ρ c := fun σ Hf H Q E k =>
  let ⟨_, o1, o2⟩ := o
  RunT.of (pt_cmpR o1 (runE _ a) (runE _ b) hm) (bin2 ha hb E fun v u Hf' H' g E' r1 r2 => o2 v u Hf' H' _ r1 r2 E'.ff E'.tabs fun z Hf2 H2 g2 r3 => ⟨c, r3, k Hf2 H2 (g.trans g2)⟩)
section
variable {X : Cx} {n m : Int} {y z : Str}
theorem opI0D {f : Value → Value → Sem Value} {g : Int → Int → V} {d : D} (o : OpR X f (rI0 g)) (h : ∀ Hf, R pg Hf d (g n m)) : OpD X pg f (.int n) (.int m) d :=
  ⟨_, o, fun v u Hf H Q r1 r2 ff tb k => ⟨n, m, r1, r2, k _ Hf H (Gw.refl ff tb) (h Hf)⟩⟩
theorem opID {f : Value → Value → Sem Value} {C : Int → Int → Prop} {g : Int → Int → V} {d : D} (o : OpR X f (rI C g)) (hc : C n m) (h : ∀ Hf, R pg Hf d (g n m)) : OpD X pg f (.int n) (.int m) d :=
  ⟨_, o, fun v u Hf H Q r1 r2 ff tb k => ⟨n, m, r1, r2, hc, k _ Hf H (Gw.refl ff tb) (h Hf)⟩⟩
theorem o_add : OpD X pg (binaryOp .Add) (.int n) (.int m) (.int (n + m)) := opI0D op_add fun _ => rfl
theorem o_sub : OpD X pg (binaryOp .Sub) (.int n) (.int m) (.int (n - m)) := opI0D op_sub fun _ => rfl
theorem o_mul (h : CMul n m) : OpD X pg (binaryOp .Mult) (.int n) (.int m) (.int (n * m)) := opID op_mul h fun _ => rfl
theorem o_mod (h : 0 < m) : OpD X pg (binaryOp .Mod) (.int n) (.int m) (.int (n % m)) := opID op_mod h fun _ => rfl
theorem o_fdiv (h : CDiv n m) : OpD X pg (binaryOp .FloorDiv) (.int n) (.int m) (.int (n / m)) := opID op_fdiv h fun _ => rfl
theorem o_pow (h : CPow n m) : OpD X pg (binaryOp .Pow) (.int n) (.int m) (.int (n ^ m.toNat)) := opID op_pow h fun _ => rfl
theorem o_lt : OpD X pg (compareOp .Lt) (.int n) (.int m) (.bl (decide (n < m))) := opI0D op_lt fun _ => rfl
theorem o_le : OpD X pg (compareOp .LtE) (.int n) (.int m) (.bl (decide (n ≤ m))) := opI0D op_le fun _ => rfl
theorem o_gt : OpD X pg (compareOp .Gt) (.int n) (.int m) (.bl (decide (m < n))) := opI0D op_gt fun _ => rfl
theorem o_ge : OpD X pg (compareOp .GtE) (.int n) (.int m) (.bl (decide (m ≤ n))) := opI0D op_ge fun _ => rfl
theorem decVI (n m : Int) : decide (V.int n = V.int m) = decide (n = m) := by
  by_cases h : n = m
  · rw [h, decide_eq_true rfl, decide_eq_true rfl]
  · rw [decide_eq_false h, decide_eq_false fun z => h (V.int.inj z)]
theorem decVS (y z : Str) : decide (V.str y = V.str z) = decide (y = z) := by
  by_cases h : y = z
  · rw [h, decide_eq_true rfl, decide_eq_true rfl]
  · rw [decide_eq_false h, decide_eq_false fun q => h (V.str.inj q)]
theorem o_eqI : OpD X pg (compareOp .Eq) (.int n) (.int m) (.bl (decide (n = m))) :=
  ⟨_, op_eq, fun v u Hf H Q r1 r2 ff tb k => by
    have r1 : v = V.int n := r1
    have r2 : u = V.int m := r2
    subst r1 r2
    exact ⟨rfl, k _ Hf H (Gw.refl ff tb) (by rw [decVI]; rfl)⟩⟩
theorem o_neI : OpD X pg (compareOp .NotEq) (.int n) (.int m) (.bl (!decide (n = m))) :=
  ⟨_, op_ne, fun v u Hf H Q r1 r2 ff tb k => by
    have r1 : v = V.int n := r1
    have r2 : u = V.int m := r2
    subst r1 r2
    exact ⟨rfl, k _ Hf H (Gw.refl ff tb) (by rw [decVI]; rfl)⟩⟩
theorem o_eqS : OpD X pg (compareOp .Eq) (.str y) (.str z) (.bl (decide (y = z))) :=
  ⟨_, op_eq, fun v u Hf H Q r1 r2 ff tb k => by
    have r1 : v = V.str y := r1
    have r2 : u = V.str z := r2
    subst r1 r2
    exact ⟨rfl, k _ Hf H (Gw.refl ff tb) (by rw [decVS]; rfl)⟩⟩
theorem o_neS : OpD X pg (compareOp .NotEq) (.str y) (.str z) (.bl (!decide (y = z))) :=
  ⟨_, op_ne, fun v u Hf H Q r1 r2 ff tb k => by
    have r1 : v = V.str y := r1
    have r2 : u = V.str z := r2
    subst r1 r2
    exact ⟨rfl, k _ Hf H (Gw.refl ff tb) (by rw [decVS]; rfl)⟩⟩
theorem o_addS (h : y.length + z.length ≤ 100000) : OpD X pg (binaryOp .Add) (.str y) (.str z) (.str (y ++ z)) :=
  ⟨_, op_add_str, fun v u Hf H Q r1 r2 ff tb k => ⟨y, z, r1, r2, Nat.le_trans h (by rw [sizeLine_eq]; omega), k _ Hf H (Gw.refl ff tb) rfl⟩⟩
/-- is None, is not None: of a thing that is None or surely is not -/
def D.isNon : D → Bool
  | .non => true
  | _ => false
theorem repNon {Hf : Hp} {d : D} {v : V} (h : R pg Hf d v) : decide (v = .non) = d.isNon := by
  cases d with
  | non =>
    have h : v = .non := h
    rw [h]
    rfl
  | bl b => have h : v = .bl b := h; rw [h]; rfl
  | int n => have h : v = .int n := h; rw [h]; rfl
  | str s => have h : v = .str s := h; rw [h]; rfl
  | tup ds => obtain ⟨a, vs, h, _⟩ := h; rw [h]; rfl
  | lst ds => obtain ⟨a, vs, h, _⟩ := h; rw [h]; rfl
  | dic ds => obtain ⟨a, vs, h, _⟩ := h; rw [h]; rfl
  | obj C ds => obtain ⟨a, dx, vs, h, _⟩ := h; rw [h]; rfl
  | clo k ds => obtain ⟨a, vs, h, _⟩ := h; rw [h]; rfl
  | scr ns => obtain ⟨a, h, _⟩ := h; rw [h]; rfl
theorem o_isN {d : D} : OpD X pg (compareOp .Is) d .non (.bl d.isNon) :=
  ⟨_, op_isN, fun v u Hf H Q r1 r2 ff tb k => ⟨r2, k _ Hf H (Gw.refl ff tb) (by rw [repNon r1]; rfl)⟩⟩
theorem o_notN {d : D} : OpD X pg (compareOp .IsNot) d .non (.bl (!d.isNon)) :=
  ⟨_, op_notN, fun v u Hf H Q r1 r2 ff tb k => ⟨r2, k _ Hf H (Gw.refl ff tb) (by rw [repNon r1]; rfl)⟩⟩
end
/-- -n, written -/
theorem xe_neg {n : Int} (h : XE Γ e ρ (.int n)) : XE Γ (.UnaryOp .USub e pos) ρ (.int (-n)) := fun σ Hf H Q E k =>
  RunE.of (pe_un un_neg (runE _ e)) (h σ Hf H _ E fun v Hf' H' g r => ⟨n, r, k _ Hf' H' g rfl⟩)
/-! ### a place of a sequence -/
theorem xe_ixL {ds : List D} {n : Int} {j : Nat} (ha : XE Γ a ρ (.lst ds)) (hb : XE Γ b ρ (.int n)) (hn : n = j) (h : ds[j]? = some d) (hs : PlainIx b := by intro _ _; rfl) : XE Γ (.Subscript a b pos) ρ d := fun σ Hf H Q E k =>
  RunE.of (pe_ix ix_list (runE _ a) (runE _ b) hs) (bin2 ha hb E fun v u Hf' H' g E' r1 r2 => by
    obtain ⟨p, vs, rfl, h1, h2⟩ := r1
    obtain ⟨w, hw, rw'⟩ := h2.get h
    exact ⟨p, vs, n, w, rfl, r2, SqL.of (E'.ff _ _ h1), at_of hn hw, k w Hf' H' g rw'⟩)
theorem xe_ixT {ds : List D} {n : Int} {j : Nat} (ha : XE Γ a ρ (.tup ds)) (hb : XE Γ b ρ (.int n)) (hn : n = j) (h : ds[j]? = some d) (hs : PlainIx b := by intro _ _; rfl) : XE Γ (.Subscript a b pos) ρ d := fun σ Hf H Q E k =>
  RunE.of (pe_ix ix_tup (runE _ a) (runE _ b) hs) (bin2 ha hb E fun v u Hf' H' g E' r1 r2 => by
    obtain ⟨p, vs, rfl, h1, h2⟩ := r1
    obtain ⟨w, hw, rw'⟩ := h2.get h
    exact ⟨p, vs, n, w, rfl, r2, by rw [kE Γ]; exact sqT_mono E'.ff h1, at_of hn hw, k w Hf' H' g rw'⟩)
/-- .. by a written number -/
theorem xe_ixl {ds : List D} {j n : Nat} {q : Pos} (ha : XE Γ a ρ (.lst ds)) (h : ds[n]? = some d := by rfl) : XE Γ (.Subscript a (.Constant (.int (n : Nat)) j q) pos) ρ d := xe_ixL ha xe_int rfl h
theorem xe_ixt {ds : List D} {j n : Nat} {q : Pos} (ha : XE Γ a ρ (.tup ds)) (h : ds[n]? = some d := by rfl) : XE Γ (.Subscript a (.Constant (.int (n : Nat)) j q) pos) ρ d := xe_ixT ha xe_int rfl h
/-- the last one: xs[-1] -/
theorem xe_ixLast {ds : List D} {j : Nat} {q1 q2 : Pos} (ha : XE Γ a ρ (.lst ds)) (h : ds[ds.length - 1]? = some d) : XE Γ (.Subscript a (.UnaryOp .USub (.Constant (.int 1) j q1) q2) pos) ρ d := fun σ Hf H Q E k =>
  RunE.of (pe_ix ix_list (runE _ a) (runE _ _) (by intro _ _; rfl)) (bin2 ha (xe_neg xe_int) E fun v u Hf' H' g E' r1 r2 => by
    obtain ⟨p, vs, rfl, h1, h2⟩ := r1
    obtain ⟨w, hw, rw'⟩ := h2.get h
    refine ⟨p, vs, -1, w, rfl, r2, SqL.of (E'.ff _ _ h1), ?_, k w Hf' H' g rw'⟩
    rw [← h2.length] at hw
    have hl : 0 < vs.length := Nat.pos_of_ne_zero fun z => by rw [List.getElem?_eq_none (by omega)] at hw; cases hw
    unfold atI ixN
    rw [if_neg (by decide), if_pos (by omega)]
    show vs[((-1 : Int) + vs.length).toNat]? = _
    rw [show ((-1 : Int) + vs.length).toNat = vs.length - 1 by omega]
    exact hw)
theorem xe_ixScr {ns : List Int} {n z : Int} {j : Nat} (ha : XE Γ a ρ (.scr ns)) (hb : XE Γ b ρ (.int n)) (hn : n = j) (h : ns[j]? = some z) (hs : PlainIx b := by intro _ _; rfl) : XE Γ (.Subscript a b pos) ρ (.int z) := fun σ Hf H Q E k =>
  RunE.of (pe_ix ix_list (runE _ a) (runE _ b) hs) (bin2 ha hb E fun v u Hf' H' g E' r1 r2 => by
    obtain ⟨p, rfl, h1⟩ := r1
    exact ⟨p, _, n, .int z, rfl, r2, by rw [kE Γ]; exact sqL_mono E'.ff h1, at_of hn (by rw [List.getElem?_map, h]; rfl), k _ Hf' H' g rfl⟩)
theorem xe_ixS {y : Str} {n : Int} {j c : Nat} (ha : XE Γ a ρ (.str y)) (hb : XE Γ b ρ (.int n)) (hn : n = j) (h : y.cps.toList[j]? = some c) (hz : y.length ≤ 100000) (hs : PlainIx b := by intro _ _; rfl) : XE Γ (.Subscript a b pos) ρ (.str ⟨#[c]⟩) := fun σ Hf H Q E k =>
  RunE.of (pe_ix ix_str (runE _ a) (runE _ b) hs) (bin2 ha hb E fun v u Hf' H' g E' r1 r2 =>
    ⟨y, n, c, r1, r2, Nat.le_trans hz (by rw [sizeLine_eq]; omega), by subst hn; exact atI_nat h, k _ Hf' H' g rfl⟩)
/-- an attribute of a thing that stands for ever -/
structure Fld (K : PySem.W.Frag) (C : Addr) (f : Str) : Prop where
  cl : Cls K C
  no : NoAttr K C f
theorem xe_fld {C : Addr} {fs : List (Str × D)} {f : Str} (he : XE Γ e ρ (.obj C fs)) (F : Fld pg.K C f) (h : fs.lookup f = some d) (hb : ∀ env, attributeBase e f env (eval e env) = eval e env := by intro _; rfl) : XE Γ (.Attribute e f pos) ρ d := fun σ Hf H Q E k =>
  RunE.of (pe_fld (runE _ e) (hb _)) (he σ Hf H _ E fun v Hf' H' g r => by
    obtain ⟨p, dx, ws, rfl, h1, h2⟩ := r
    obtain ⟨w, hw, rw'⟩ := h2.look h
    exact ⟨p, C, dx, ws, w, rfl, g.ff _ _ h1, by rw [kE Γ]; exact F.cl, by rw [kE Γ]; exact F.no, hw, k w Hf' H' g rw'⟩)
/-- .. of a thing looked at: a shared one, one of its own -/
theorem xp_fld {C : Addr} {fs : List (Str × OT)} {f : Str} (he : XP Γ e ρ (.ins C fs)) (F : Fld pg.K C f) (h : fs.lookup f = some (.sh d)) (hb : ∀ env, attributeBase e f env (eval e env) = eval e env := by intro _; rfl) : XE Γ (.Attribute e f pos) ρ d := fun σ Hf H Q E k =>
  RunE.of (pe_fld (runE _ e) (hb _)) (he σ Hf H _ E fun v Hf' H' fp g r nn => by
    obtain ⟨p, dx, ws, r, rfl, h0, h1, h2, _⟩ := r
    obtain ⟨w, f1, hw, rw', _⟩ := h2.look h
    exact ⟨p, C, dx, ws, w, rfl, h1, by rw [kE Γ]; exact F.cl, by rw [kE Γ]; exact F.no, hw, k w Hf' H' g rw'.2⟩)
theorem xp_sub {C : Addr} {fs : List (Str × OT)} {f : Str} (he : XP Γ e ρ (.ins C fs)) (F : Fld pg.K C f) (h : fs.lookup f = some o) (hb : ∀ env, attributeBase e f env (eval e env) = eval e env := by intro _; rfl) : XP Γ (.Attribute e f pos) ρ o := fun σ Hf H Q E k =>
  RunE.of (pe_fld (runE _ e) (hb _)) (he σ Hf H _ E fun v Hf' H' fp g r nn => by
    obtain ⟨p, dx, ws, r, rfl, h0, h1, h2, _⟩ := r
    obtain ⟨w, f1, hw, rw', sb⟩ := h2.look h
    exact ⟨p, C, dx, ws, w, rfl, h1, by rw [kE Γ]; exact F.cl, by rw [kE Γ]; exact F.no, hw, k w Hf' H' f1 g rw' fun a ha => nn a (by rw [h0]; exact List.mem_cons_of_mem _ (sb a ha))⟩)
/-- a new list, a new instance whose attributes are shared, changed no more -/
theorem XO.lst {ds : List D} (h : XO Γ e ρ (.lst ds)) : XE Γ e ρ (.lst ds) := fun σ Hf H Q E k => h σ Hf H Q E fun v Hf' H' fp g r nf => by
  obtain ⟨p, vs, rfl, rfl, h3, h4⟩ := r
  obtain ⟨n1, n2⟩ := nf p List.mem_cons_self
  exact k _ _ H' (g.freeze n1 h3) ⟨p, vs, rfl, upd_same, h4.mono cm0 (Same.new n2)⟩
def shF (fs : List (Str × D)) : List (Str × OT) := fs.map fun p => (p.1, .sh p.2)
theorem ownF_sh {Hf H : Hp} : ∀ {fs : List (Str × D)} {ws : List (Str × V)} {fp : List Addr}, OwnF pg cl0 Hf H (shF fs) ws fp → RepF pg.K cl0 Hf fs ws
  | [], _, _, h => h.1
  | (x, d) :: fs, _, _, ⟨v, r, f1, f2, h1, h2, h3, h4, h5⟩ => ⟨v, r, h1, h3.2, ownF_sh h4⟩
theorem XO.obj {C : Addr} {fs : List (Str × D)} (h : XO Γ e ρ (.ins C (shF fs))) : XE Γ e ρ (.obj C fs) := fun σ Hf H Q E k => h σ Hf H Q E fun v Hf' H' fp g r nf => by
  obtain ⟨p, dx, ws, r, rfl, h0, h1, h2, _⟩ := r
  obtain ⟨n1, n2⟩ := nf p (by rw [h0]; exact List.mem_cons_self)
  exact k _ _ H' (g.freeze n1 h1) ⟨p, dx, ws, rfl, upd_same, (ownF_sh h2).mono cm0 (Same.new n2)⟩
theorem XO.sh (h : XO Γ e ρ (.sh d)) : XE Γ e ρ d := fun σ Hf H Q E k => h σ Hf H Q E fun v Hf' H' fp g r nf => k v Hf' H' g r.2
/-! ### displays -/
theorem sz5 {n : Nat} (h : n ≤ 100000) : n ≤ sizeLine := Nat.le_trans h (by rw [sizeLine_eq]; omega)
theorem xe_tup {ds : List D} {k1 : Nat} (h : XA Γ es ρ (ds.map Ar.sh)) (hz : ds.length ≤ 100000 := by decide) : XE Γ (.Tuple es k1 pos) ρ (.tup ds) := fun σ Hf H Q E k =>
  RunE.of (pe_tup (runA _ es)) (h σ Hf H _ E fun vs Hf' H' g r => ⟨by rw [r.length, List.length_map]; exact sz5 hz, fun p hp =>
    k _ _ _ (g.trans (Gw.fresh g.ff g.tabs hp)) ⟨p, vs, rfl, SqT.of upd_same, r.sh.mono cm0 (Gw.fresh g.ff g.tabs (u := .tup vs) hp).gr⟩⟩)
theorem xo_lst {ds : List D} (h : XA Γ es ρ (ds.map Ar.sh)) (hz : ds.length ≤ 100000 := by decide) : XO Γ (.List es pos) ρ (.lst ds) := fun σ Hf H Q E k =>
  RunE.of (pe_lst (runA _ es)) (h σ Hf H _ E fun vs Hf' H' g r => ⟨by rw [r.length, List.length_map]; exact sz5 hz, fun p hp =>
    k _ Hf' _ [p] (g.trans (Gw.alloc g.ff g.tabs hp)) ⟨p, vs, rfl, rfl, upd_same, r.sh⟩ fun a ha => by
      have e : a = p := by simpa using ha
      subst e
      refine ⟨g.dom a hp, ?_⟩
      cases q : Hf' a with
      | none => rfl
      | some x => rw [g.ff a x q] at hp; cases hp⟩)
theorem xe_lst {ds : List D} (h : XA Γ es ρ (ds.map Ar.sh)) (hz : ds.length ≤ 100000 := by decide) : XE Γ (.List es pos) ρ (.lst ds) := (xo_lst h hz).lst
/-! ### tests -/
theorem xt_val {c : Bool} (h : XE Γ e ρ (.bl c)) (he : ∀ env whole, isTrue e env whole = (do let v ← whole; standAt e.pos; holding [v] (truthy v)) := by intro _ _; rfl) : XT Γ e ρ c := fun σ Hf H Q E k =>
  RunT.of (pt_val (runE _ e) (he _)) (h σ Hf H _ E fun v Hf' H' g r => ⟨c, r, k Hf' H' g⟩)
theorem xt_not {c : Bool} (h : XT Γ e ρ c) : XT Γ (.UnaryOp .Not e pos) ρ (!c) := fun σ Hf H Q E k =>
  RunT.of (pt_not (runT _ e)) (h σ Hf H _ E fun Hf' H' g => k Hf' H' g)
/-- and, or: the second is looked at where it is asked alone -/
theorem xt_and {c1 c2 : Bool} (ha : XT Γ a ρ c1) (hb : c1 = true → XT Γ b ρ c2) : XT Γ (.BoolOp .And [a, b] pos) ρ (c1 && c2) := fun σ Hf H Q E k =>
  RunT.of (PW.pt (pw_and (runT _ a) (pw_and1 (runT _ b)))) (ha σ Hf H _ E fun Hf' H' g => by
    cases c1 with
    | true => exact iteT (hb rfl σ Hf' H' _ (E.grow g) fun Hf2 H2 g2 => k Hf2 H2 (g.trans g2))
    | false => exact iteF (k Hf' H' g))
theorem xt_or {c1 c2 : Bool} (ha : XT Γ a ρ c1) (hb : c1 = false → XT Γ b ρ c2) : XT Γ (.BoolOp .Or [a, b] pos) ρ (c1 || c2) := fun σ Hf H Q E k =>
  RunT.of (PW.pt (pw_or (runT _ a) (pw_or1 (runT _ b)))) (ha σ Hf H _ E fun Hf' H' g => by
    cases c1 with
    | true => exact iteT (k Hf' H' g)
    | false => exact iteF (hb rfl σ Hf' H' _ (E.grow g) fun Hf2 H2 g2 => k Hf2 H2 (g.trans g2)))
theorem xt_and3 {e : Expr} {c1 c2 c3 : Bool} (ha : XT Γ a ρ c1) (hb : c1 = true → XT Γ b ρ c2) (hc : c1 = true → c2 = true → XT Γ e ρ c3) : XT Γ (.BoolOp .And [a, b, e] pos) ρ (c1 && (c2 && c3)) := fun σ Hf H Q E k =>
  RunT.of (PW.pt (pw_and (runT _ a) (pw_and (runT _ b) (pw_and1 (runT _ e))))) (ha σ Hf H _ E fun Hf' H' g => by
    cases c1 with
    | true =>
      refine iteT (hb rfl σ Hf' H' _ (E.grow g) fun Hf2 H2 g2 => ?_)
      cases c2 with
      | true => exact iteT (hc rfl rfl σ Hf2 H2 _ (E.grow (g.trans g2)) fun Hf3 H3 g3 => k Hf3 H3 ((g.trans g2).trans g3))
      | false => exact iteF (k Hf2 H2 (g.trans g2))
    | false => exact iteF (k Hf' H' g))
theorem xt_or3 {e : Expr} {c1 c2 c3 : Bool} (ha : XT Γ a ρ c1) (hb : c1 = false → XT Γ b ρ c2) (hc : c1 = false → c2 = false → XT Γ e ρ c3) : XT Γ (.BoolOp .Or [a, b, e] pos) ρ (c1 || (c2 || c3)) := fun σ Hf H Q E k =>
  RunT.of (PW.pt (pw_or (runT _ a) (pw_or (runT _ b) (pw_or1 (runT _ e))))) (ha σ Hf H _ E fun Hf' H' g => by
    cases c1 with
    | false =>
      refine iteF (hb rfl σ Hf' H' _ (E.grow g) fun Hf2 H2 g2 => ?_)
      cases c2 with
      | false => exact iteF (hc rfl rfl σ Hf2 H2 _ (E.grow (g.trans g2)) fun Hf3 H3 g3 => k Hf3 H3 ((g.trans g2).trans g3))
      | true => exact iteT (k Hf2 H2 (g.trans g2))
    | true => exact iteT (k Hf' H' g))
/-- .. as values -/
theorem xe_and {c1 c2 : Bool} (ha : XE Γ a ρ (.bl c1)) (hb : c1 = true → XE Γ b ρ (.bl c2)) : XE Γ (.BoolOp .And [a, b] pos) ρ (.bl (c1 && c2)) := fun σ Hf H Q E k =>
  RunE.of (pe_and (runE _ a) (pe_one (runE _ b))) (ha σ Hf H _ E fun v Hf' H' g r => ⟨c1, r, by
    cases c1 with
    | true => exact iteT (hb rfl σ Hf' H' _ (E.grow g) fun v2 Hf2 H2 g2 r2 => k v2 Hf2 H2 (g.trans g2) r2)
    | false => exact iteF (k _ Hf' H' g rfl)⟩)
theorem xe_and3 {e : Expr} {c1 c2 c3 : Bool} (ha : XE Γ a ρ (.bl c1)) (hb : c1 = true → XE Γ b ρ (.bl c2)) (hc : c1 = true → c2 = true → XE Γ e ρ (.bl c3)) : XE Γ (.BoolOp .And [a, b, e] pos) ρ (.bl (c1 && (c2 && c3))) := fun σ Hf H Q E k =>
  RunE.of (pe_and (runE _ a) (pe_and (runE _ b) (pe_one (runE _ e)))) (ha σ Hf H _ E fun v Hf' H' g r => ⟨c1, r, by
    cases c1 with
    | true => exact iteT (hb rfl σ Hf' H' _ (E.grow g) fun v2 Hf2 H2 g2 r2 => ⟨c2, r2, by
        cases c2 with
        | true => exact iteT (hc rfl rfl σ Hf2 H2 _ (E.grow (g.trans g2)) fun v3 Hf3 H3 g3 r3 => k v3 Hf3 H3 ((g.trans g2).trans g3) r3)
        | false => exact iteF (k _ Hf2 H2 (g.trans g2) rfl)⟩)
    | false => exact iteF (k _ Hf' H' g rfl)⟩)
theorem xe_not {c : Bool} (h : XE Γ e ρ (.bl c)) : XE Γ (.UnaryOp .Not e pos) ρ (.bl (!c)) := fun σ Hf H Q E k =>
  RunE.of (pe_not (runE _ e)) (h σ Hf H _ E fun v Hf' H' g r => ⟨c, r, k _ Hf' H' g rfl⟩)
end
end Lk
set_option maxHeartbeats 4000000
namespace Lk
open PySem PySem.Spec PyProof.Rows L2
/-! ### statements -/
structure Gf (pg : Pg) (sc : Scope) (N : List (Str × Bool)) (G : List Str) (lv : Nat) (own : List Nat) extends Gm pg sc N G lv own where
  W : WX
  st : ∀ (i : Nat) (x : Str), N[i]? = some (x, true) → Loc X.env.scope x ∧ (X.fn x = true ∨ X.env.scope.names.lookup x = some .local)
  tk : Takes X W
  po : PassesOwn (model X.prog X.w) X.A X.env X.xe
  stk : X.stack = X.env :: X.outer
  frm : X.env.frame = some X.env.locals
/-- what a def hands back: data, a new thing, an error of a class -/
inductive Rz where
  | sh (d : D) | ow (o : OT) | ex (C : Addr)
/-- what is wanted behind a statement -/
structure De where
  nx : List Sl → Prop
  rt : Rz → List Sl → Prop
  bk : List Sl → Prop := fun _ => False
  ct : List Sl → Prop := fun _ => False
  ex : Addr → List Sl → Prop := fun _ _ => False
def RunS (X : Cx) (st : Stmt) (σ : L2.St) (H : Hp) (D : Ends) : Prop := ∀ pins s, Inv X pins σ H s → wpAny (model X.prog X.w) X.A (exec st X.env) (SP X pins D) X.xe s
theorem runS (X : Cx) (st : Stmt) : PS X st fun D σ H => RunS X st σ H D := ⟨fun pins s σ H D I h => h pins s I⟩
theorem RunS.of {X : Cx} {st : Stmt} {t : TS} {σ : L2.St} {H : Hp} {D : Ends} (p : PS X st t) (h : t D σ H) : RunS X st σ H D := fun pins s I => p.run pins s σ H D I h
def RunSs (X : Cx) (sts : List Stmt) (σ : L2.St) (H : Hp) (D : Ends) : Prop := ∀ pins s, Inv X pins σ H s → wpAny (model X.prog X.w) X.A (execs sts X.env) (SP X pins D) X.xe s
theorem runSs (X : Cx) (sts : List Stmt) : PSs X sts fun D σ H => RunSs X sts σ H D := ⟨fun pins s σ H D I h => h pins s I⟩
theorem RunSs.of {X : Cx} {sts : List Stmt} {t : TS} {σ : L2.St} {H : Hp} {D : Ends} (p : PSs X sts t) (h : t D σ H) : RunSs X sts σ H D := fun pins s I => p.run pins s σ H D I h
section
variable {pg : Pg} {sc : Scope} {N : List (Str × Bool)} {G : List Str} {lv : Nat} {own : List Nat} (Γ : Gf pg sc N G lv own)
structure Sim (Hf : Hp) (De : De) (D : Ends) : Prop where
  nx : ∀ σ Hf' H ρ, Env pg Γ.c own Hf' H σ ρ → Same Hf Hf' → De.nx ρ → D.nx σ H
  bk : ∀ σ Hf' H ρ, Env pg Γ.c own Hf' H σ ρ → Same Hf Hf' → De.bk ρ → D.bk σ H
  ct : ∀ σ Hf' H ρ, Env pg Γ.c own Hf' H σ ρ → Same Hf Hf' → De.ct ρ → D.ct σ H
  rs : ∀ σ Hf' H ρ d v, Env pg Γ.c own Hf' H σ ρ → De.rt (.sh d) ρ → R pg Hf' d v → D.rt v H
  ro : ∀ σ Hf' H ρ o v fp, Env pg Γ.c own Hf' H σ ρ → De.rt (.ow o) ρ → Own pg Hf' H o v fp → (∀ a ∈ fp, Γ.c.H a = none ∧ Hf' a = none) → (∀ i ∈ own, ∀ o' v' f', ρ[i]? = some (.ow o') → σ[i]? = some (some v') → Own pg Hf' H o' v' f' → ∀ a ∈ fp, a ∉ f') → D.rt v H
  ex : ∀ σ Hf' H ρ C, Env pg Γ.c own Hf' H σ ρ → De.ex C ρ → Γ.W (.ref C) none σ H
def XS (st : Stmt) (ρ : List Sl) (De : De) : Prop := ∀ σ Hf H D, Env pg Γ.c own Hf H σ ρ → Sim Γ Hf De D → RunS Γ.X st σ H D
def XSs (sts : List Stmt) (ρ : List Sl) (De : De) : Prop := ∀ σ Hf H D, Env pg Γ.c own Hf H σ ρ → Sim Γ Hf De D → RunSs Γ.X sts σ H D
end
section
variable {pg : Pg} {sc : Scope} {N : List (Str × Bool)} {G : List Str} {lv : Nat} {own : List Nat} {Γ : Gf pg sc N G lv own} {ρ : List Sl} {a b e : Expr} {es : List Expr} {d : D} {o : OT} {pos p' : Pos} {i : Nat} {x : Str} {De : De} {st : Stmt} {sts body orelse : List Stmt}
theorem Sim.mono {Hf Hf' : Hp} {D : Ends} (S : Sim Γ Hf De D) (g : Same Hf Hf') : Sim Γ Hf' De D :=
  ⟨fun σ Hf2 H ρ E s q => S.nx σ Hf2 H ρ E (g.trans s) q, fun σ Hf2 H ρ E s q => S.bk σ Hf2 H ρ E (g.trans s) q, fun σ Hf2 H ρ E s q => S.ct σ Hf2 H ρ E (g.trans s) q, S.rs, S.ro, S.ex⟩
theorem Gf.hi (Γ : Gf pg sc N G lv own) {Hf H : Hp} {σ : L2.St} {ρ : List Sl} (E : Env pg Γ.c own Hf H σ ρ) (hN : N[i]? = some (x, true)) : i < ρ.length := by
  rw [E.ln, Γ.nc]
  exact (List.getElem?_eq_some_iff.mp hN).1
/-- one behind another -/
theorem xss_nil (k : De.nx ρ) : XSs Γ [] ρ De := fun σ Hf H D E S => RunSs.of pss_nil (S.nx σ Hf H ρ E (Same.refl _) k)
theorem xss_cons (h : XS Γ st ρ ⟨fun ρ' => XSs Γ sts ρ' De, De.rt, De.bk, De.ct, De.ex⟩) : XSs Γ (st :: sts) ρ De := fun σ Hf H D E S =>
  RunSs.of (pss_cons (runS _ st) (runSs _ sts)) (h σ Hf H { D with nx := fun σ' H' => RunSs Γ.X sts σ' H' D } E
    ⟨fun σ' Hf' H' ρ' E' s q => q σ' Hf' H' D E' (S.mono s), S.bk, S.ct, S.rs, S.ro, S.ex⟩)
theorem xss_one (h : XS Γ st ρ De) : XSs Γ [st] ρ De := fun σ Hf H D E S => RunSs.of (pss_one (runS _ st)) (h σ Hf H D E S)
/-- with a word between -/
theorem xss_mid (M : List Sl → Prop) (h : XS Γ st ρ ⟨M, De.rt, De.bk, De.ct, De.ex⟩) (k : ∀ ρ', M ρ' → XSs Γ sts ρ' De) : XSs Γ (st :: sts) ρ De := fun σ Hf H D E S =>
  RunSs.of (pss_cons (runS _ st) (runSs _ sts)) (h σ Hf H { D with nx := fun σ' H' => RunSs Γ.X sts σ' H' D } E
    ⟨fun σ' Hf' H' ρ' E' s q => k ρ' q σ' Hf' H' D E' (S.mono s), S.bk, S.ct, S.rs, S.ro, S.ex⟩)
theorem XS.imp {De' : Lk.De} (h : XS Γ st ρ De') (k : ∀ ρ', De'.nx ρ' → De.nx ρ') (k1 : De'.rt = De.rt) (k2 : De'.bk = De.bk) (k3 : De'.ct = De.ct) (k4 : De'.ex = De.ex) : XS Γ st ρ De := fun σ Hf H D E S =>
  h σ Hf H D E ⟨fun σ' Hf' H' ρ' E' s q => S.nx σ' Hf' H' ρ' E' s (k ρ' q), by rw [k2]; exact S.bk, by rw [k3]; exact S.ct, by rw [k1]; exact S.rs, by rw [k1]; exact S.ro, by rw [k4]; exact S.ex⟩
/-- a list held at a name is changed no more -/
theorem xss_freeze {xs : List D} (i : Nat) (h : ρ[i]? = some (.ow (.lst xs))) (k : XSs Γ sts (ρ.set i (.sh (.lst xs))) De) (ho : i ∉ own := by decide) : XSs Γ sts ρ De := fun σ Hf H D E S => by
  obtain ⟨Hf', sf, E'⟩ := E.freeze h ho
  exact k σ Hf' H D E' (S.mono sf)
theorem xs_freeze {xs : List D} (i : Nat) (h : ρ[i]? = some (.ow (.lst xs))) (k : XS Γ st (ρ.set i (.sh (.lst xs))) De) (ho : i ∉ own := by decide) : XS Γ st ρ De := fun σ Hf H D E S => by
  obtain ⟨Hf', sf, E'⟩ := E.freeze h ho
  exact k σ Hf' H D E' (S.mono sf)
theorem xs_pass (k : De.nx ρ) : XS Γ (.Pass pos) ρ De := fun σ Hf H D E S => RunS.of ps_pass (S.nx σ Hf H ρ E (Same.refl _) k)
/-- x = e -/
theorem xs_set (i : Nat) (h : XE Γ.toGm e ρ d) (k : De.nx (ρ.set i (.sh d))) (hN : N[i]? = some (x, true) := by rfl) (ho : i ∉ own := by decide) (hs : ∀ env, swapsWith e (some (.Name x p')) pos.line env = pure false := by intro _; rfl) :
    XS Γ (.Assign [.Name x p'] e pos) ρ De := fun σ Hf H D E S => by
  obtain ⟨h1, h2⟩ := Γ.st i x hN
  exact RunS.of (ps_set Γ.nd (Γ.vis i x hN).1 h1 (runE _ e) (hs _) h2) (h σ Hf H _ E fun v Hf' H' g r => S.nx _ Hf' H' _ ((E.grow g).set (Γ.hi E hN) ho r) g.gr k)
theorem xs_setO (i : Nat) (h : XO Γ.toGm e ρ o) (k : De.nx (ρ.set i (.ow o))) (hN : N[i]? = some (x, true) := by rfl) (ho : i ∉ own := by decide) (hs : ∀ env, swapsWith e (some (.Name x p')) pos.line env = pure false := by intro _; rfl) :
    XS Γ (.Assign [.Name x p'] e pos) ρ De := fun σ Hf H D E S => by
  obtain ⟨h1, h2⟩ := Γ.st i x hN
  exact RunS.of (ps_set Γ.nd (Γ.vis i x hN).1 h1 (runE _ e) (hs _) h2) (h σ Hf H _ E fun v Hf' H' fp g r nf => S.nx _ Hf' H' _ (E.setO g (Γ.hi E hN) ho r nf) g.gr k)
/-- x -= n, x += n -/
theorem xs_aug {op : Operator} {n m r : Int} {ti : TIp} (i : Nat) (hx : ρ[i]? = some (.sh (.int n))) (h : XE Γ.toGm e ρ (.int m)) (hp : PIp Γ.X op ti) (ht : ∀ H Q, Q (V.int r) H → ti (.int n) (.int m) H Q) (k : De.nx (ρ.set i (.sh (.int r)))) (hN : N[i]? = some (x, true) := by rfl) (ho : i ∉ own := by decide) :
    XS Γ (.AugAssign (.Name x p') op e pos) ρ De := fun σ Hf H D E S => by
  obtain ⟨h1, h2⟩ := Γ.st i x hN
  obtain ⟨v, ev, hv⟩ := E.sh hx
  have hv : v = .int n := hv
  subst hv
  exact RunS.of (ps_aug Γ.nd (Γ.vis i x hN).1 h1 (runE _ e) hp h2) ⟨_, ev, h σ Hf H _ E fun u Hf' H' g r' => by
    have r' : u = .int m := r'
    subst r'
    exact ht _ _ (S.nx _ Hf' H' _ ((E.grow g).set (d := .int r) (v := .int r) (Γ.hi E hN) ho rfl) g.gr k)⟩
theorem xs_augSub {n m : Int} (i : Nat) (hx : ρ[i]? = some (.sh (.int n))) (h : XE Γ.toGm e ρ (.int m)) (k : De.nx (ρ.set i (.sh (.int (n - m))))) (hN : N[i]? = some (x, true) := by rfl) (ho : i ∉ own := by decide) : XS Γ (.AugAssign (.Name x p') .Sub e pos) ρ De :=
  xs_aug i hx h ip_sub (fun _ _ q => ⟨_, _, rfl, rfl, q⟩) k hN ho
theorem xs_augAdd {n m : Int} (i : Nat) (hx : ρ[i]? = some (.sh (.int n))) (h : XE Γ.toGm e ρ (.int m)) (k : De.nx (ρ.set i (.sh (.int (n + m))))) (hN : N[i]? = some (x, true) := by rfl) (ho : i ∉ own := by decide) : XS Γ (.AugAssign (.Name x p') .Add e pos) ρ De :=
  xs_aug i hx h ip_add (fun _ _ q => ⟨_, _, rfl, rfl, q⟩) k hN ho
/-- return -/
theorem xs_ret (h : XE Γ.toGm e ρ d) (k : De.rt (.sh d) ρ) : XS Γ (.Return (some e) pos) ρ De := fun σ Hf H D E S =>
  RunS.of (ps_ret (runE _ e)) (h σ Hf H _ E fun v Hf' H' g r => S.rs σ Hf' H' ρ d v (E.grow g) k r)
theorem xs_retO (h : XO Γ.toGm e ρ o) (k : De.rt (.ow o) ρ) : XS Γ (.Return (some e) pos) ρ De := fun σ Hf H D E S =>
  RunS.of (ps_ret (runE _ e)) (h σ Hf H _ E fun v Hf' H' fp g r nf => S.ro σ Hf' H' ρ o v fp (E.grow g) k r (fun a ha => ⟨E.dom a (nf a ha).1, (nf a ha).2⟩) fun i _ o' v' f' h1 h2 h3 a ha hb => by
    obtain ⟨v2, f2, e2, r2, n2⟩ := E.look (.inl h1)
    rw [h2] at e2
    cases e2
    rw [OwnT.uniq h3 (g.own r2) rfl] at hb
    exact n2 a hb (nf a ha).1)
theorem xs_retN (k : De.rt (.sh .non) ρ) : XS Γ (.Return none pos) ρ De := fun σ Hf H D E S => RunS.of ps_retN (S.rs σ Hf H ρ .non .non E k rfl)
/-- return of a name's own thing -/
theorem xs_retV (i : Nat) (h : ρ[i]? = some (.ow o)) (k : De.rt (.ow o) ρ) (hN : N[i]? = some (x, true) := by rfl) (ho : i ∉ own := by decide) (hd : (x == ("__debug__" : Str)) = false := by decide) (hcd : (x == ("__classdict__" : Str)) = false := by decide) : XS Γ (.Return (some (.Name x p')) pos) ρ De := fun σ Hf H D E S => by
  obtain ⟨F, h1, _, h3⟩ := E.sl
  obtain ⟨v, e, q, ok⟩ := h1 i _ h
  obtain ⟨n, vi⟩ := Γ.vis i x hN
  exact RunS.of (ps_ret (pe_var n vi hd hcd)) ⟨v, e, S.ro σ Hf H ρ o v (F i) E k q (fun a ha => ⟨(ok a ha).2.elim id fun z => absurd z.1 ho, (ok a ha).1⟩) fun j hj o' v' f' k1 k2 k3 a ha hb => by
    obtain ⟨v2, e2, q2, _⟩ := h1 j _ k1
    rw [k2] at e2
    cases e2
    rw [OwnT.uniq k3 q2 rfl] at hb
    exact ho (by rw [h3 i j a ha hb]; exact hj)⟩
/-- an expression whose value is dropped -/
theorem xs_expr (h : XE Γ.toGm e ρ d) (k : De.nx ρ) (hs : ∀ env, swapsWith e none pos.line env = pure false := by intro _; rfl) : XS Γ (.Expr e pos) ρ De := fun σ Hf H D E S =>
  RunS.of (ps_expr (runE _ e) (hs _)) (h σ Hf H _ E fun v Hf' H' g r => S.nx σ Hf' H' ρ (E.grow g) g.gr k)
/-- if -/
theorem xs_if {c : Bool} (h : XT Γ.toGm e ρ c) (h1 : c = true → XSs Γ body ρ De) (h2 : c = false → XSs Γ orelse ρ De) : XS Γ (.If e body orelse pos) ρ De := fun σ Hf H D E S =>
  RunS.of (ps_if (runT _ e) (runSs _ body) (runSs _ orelse)) (h σ Hf H _ E fun Hf' H' g => by
    cases c with
    | true => exact iteT (h1 rfl σ Hf' H' D (E.grow g) (S.mono g.gr))
    | false => exact iteF (h2 rfl σ Hf' H' D (E.grow g) (S.mono g.gr)))
/-- break, continue -/
theorem xs_break (k : De.bk ρ) : XS Γ (.Break pos) ρ De := fun σ Hf H D E S => RunS.of ps_break (S.bk σ Hf H ρ E (Same.refl _) k)
theorem xs_cont (k : De.ct ρ) : XS Γ (.Continue pos) ρ De := fun σ Hf H D E S => RunS.of ps_continue (S.ct σ Hf H ρ E (Same.refl _) k)
/-- a statement that is never come to -/
theorem xs_no (h : False) : XS Γ st ρ De := h.elim
theorem xss_no (h : False) : XSs Γ sts ρ De := h.elim
/-! ### loops -/
/-- for x in a list that stands for ever -/
theorem xs_forL {iter : Expr} {xs : List D} (i : Nat) (I : Nat → List Sl → Prop) (h : XE Γ.toGm iter ρ (.lst xs)) (h0 : I 0 ρ) (hs : ∀ k x ρ', xs[k]? = some x → I k ρ' → XSs Γ body (ρ'.set i (.sh x)) ⟨I (k + 1), De.rt, De.nx, I (k + 1), De.ex⟩)
    (hd : ∀ ρ', I xs.length ρ' → De.nx ρ') (hN : N[i]? = some (x, true) := by rfl) (ho : i ∉ own := by decide) (hf : ∀ env y, foldedSetIterable iter env y = pure y := by intro _ _; rfl) : XS Γ (.For (.Name x p') iter body [] pos) ρ De := fun σ Hf H D E S => by
  obtain ⟨l1, l2⟩ := Γ.st i x hN
  refine RunS.of (ps_for Γ.po Γ.calm (pi_list (runE _ iter)) (pg_name Γ.nd (Γ.vis i x hN).1 l1 l2) (runSs _ body) (hf _)) ?_
  refine h σ Hf H _ E fun v Hf1 H1 g r => ?_
  obtain ⟨a, vs, rfl, hl, hr⟩ := r
  have ls : ∀ {Hf' H'}, Same Hf1 Hf' → Same Hf' H' → SqL Γ.X.K H' a vs := fun s1 s2 => SqL.of (s2 _ _ (s1 _ _ hl))
  refine ⟨a, rfl, ⟨vs, ls (Same.refl _) g.ff⟩, for_list (K := Γ.X.K) (a := a) (xs := vs) (g := gName i) (tb := fun D σ H => RunSs Γ.X body σ H D) (D := D) (fun k σ' H' => ∃ Hf' ρ', Env pg Γ.c own Hf' H' σ' ρ' ∧ Same Hf1 Hf' ∧ I k ρ') ⟨Hf1, ρ, E.grow g, Same.refl _, h0⟩
    (fun k σ' H' _ ⟨Hf', ρ', E', s, _⟩ => ls s E'.ff) ?_ ?_⟩
  · rintro k y σ' H' hy ⟨Hf', ρ', E', s, iv⟩
    obtain ⟨d, hd1, hd2⟩ := hr.got hy
    exact hs k d ρ' hd1 iv (σ'.set i (some y)) Hf' H' _ (E'.set (Γ.hi E' hN) ho (hd2.mono cm0 s)) ⟨fun σ2 Hf2 H2 ρ2 E2 s2 q => ⟨Hf2, ρ2, E2, s.trans s2, q⟩, fun σ2 Hf2 H2 ρ2 E2 s2 q => S.nx σ2 Hf2 H2 ρ2 E2 ((g.gr.trans s).trans s2) q,
      fun σ2 Hf2 H2 ρ2 E2 s2 q => ⟨Hf2, ρ2, E2, s.trans s2, q⟩, S.rs, S.ro, S.ex⟩
  · rintro σ' H' ⟨Hf', ρ', E', s, iv⟩
    rw [hr.length] at iv
    exact S.nx σ' Hf' H' ρ' E' (g.gr.trans s) (hd ρ' iv)
/-- for k in range(n) -/
theorem xs_forR {n : Int} {e : Expr} {p0 p1 : Pos} (i : Nat) (I : Nat → List Sl → Prop) (h : XE Γ.toGm e ρ (.int n)) (hn : n ≤ 1000000) (h0 : I 0 ρ) (hs : ∀ (k : Nat) ρ', (k : Int) < n → I k ρ' → XSs Γ body (ρ'.set i (.sh (.int k))) ⟨I (k + 1), De.rt, De.nx, I (k + 1), De.ex⟩)
    (hd : ∀ ρ', I n.toNat ρ' → De.nx ρ') (j : Nat) (hm : pg.mg "range" = none) (hG : G[j]? = some ("range" : Str) := by rfl) (hlo : -1000000 ≤ n := by omega) (hN : N[i]? = some (x, true) := by rfl) (ho : i ∉ own := by decide)
    (hst : ∀ env, starEach [e] env = [(false, eval e env)] := by intro _; rfl) : XS Γ (.For (.Name x p') (.Call (.Name "range" p0) [e] [] p1) body [] pos) ρ De := fun σ Hf H D E S => by
  obtain ⟨l1, l2⟩ := Γ.st i x hN
  refine RunS.of (ps_for Γ.po Γ.calm (pi_range1 (Γ.gl _ (gmem hG)) ((congrFun (mgE Γ.toGm) _).trans hm) (pa_cons (runE _ e) pa_nil (by rw [hst] <;> rfl)) (hst _)) (pg_name Γ.nd (Γ.vis i x hN).1 l1 l2) (runSs _ body)) ?_
  refine h σ Hf H _ E fun v Hf1 H1 g r => ?_
  have r : v = .int n := r
  subst r
  refine ⟨n, rfl, by omega, by omega, for_range (lo := 0) (n := n.toNat) (g := gName i) (tb := fun D σ H => RunSs Γ.X body σ H D) (D := D) (fun k σ' H' => ∃ Hf' ρ', Env pg Γ.c own Hf' H' σ' ρ' ∧ Same Hf1 Hf' ∧ I k ρ') ⟨Hf1, ρ, E.grow g, Same.refl _, h0⟩ ?_ ?_⟩
  · rintro k σ' H' hk ⟨Hf', ρ', E', s, iv⟩
    have e0 : (0 : Int) + (k : Int) = k := Int.zero_add _
    rw [e0]
    exact hs k ρ' (by omega) iv (σ'.set i (some (.int k))) Hf' H' _ (E'.set (d := .int k) (v := .int k) (Γ.hi E' hN) ho rfl) ⟨fun σ2 Hf2 H2 ρ2 E2 s2 q => ⟨Hf2, ρ2, E2, s.trans s2, q⟩, fun σ2 Hf2 H2 ρ2 E2 s2 q => S.nx σ2 Hf2 H2 ρ2 E2 ((g.gr.trans s).trans s2) q,
      fun σ2 Hf2 H2 ρ2 E2 s2 q => ⟨Hf2, ρ2, E2, s.trans s2, q⟩, S.rs, S.ro, S.ex⟩
  · rintro σ' H' ⟨Hf', ρ', E', s, iv⟩
    exact S.nx σ' Hf' H' ρ' E' (g.gr.trans s) (hd ρ' iv)
end
end Lk
set_option maxHeartbeats 4000000
namespace Lk
open PySem PySem.Spec PyProof.Rows L2
/-! ### the promise of a def that changes nothing that stands -/
section
variable (pg : Pg)
def PostR (Hf H : Hp) (Q : VK) (E : XK) : Rz → Prop
  | .sh d => ∀ v Hf' H', Gw pg Hf H Hf' H' → R pg Hf' d v → Q v H'
  | .ow o => ∀ v Hf' H' fp, Gw pg Hf H Hf' H' → Own pg Hf' H' o v fp → (∀ a ∈ fp, H a = none ∧ Hf' a = none) → Q v H'
  | .ex C => ∀ Hf' H', Gw pg Hf H Hf' H' → E (.ref C) none H'
/-- C: arguments and what comes of them -/
def spR (C : List Ar → Rz → Prop) : Sp := fun vs H Q E => ∃ ags r Hf, C ags r ∧ ArsOk pg Hf H ags vs ∧ Same Hf H ∧ Tb pg Hf H ∧ PostR pg Hf H Q E r
def CXb (cx : Bool) : CXT := if cx then L2.CX pg.P pg.w else CX0
/-- a def of the module that keeps the promise C; dd: the data of the defaults that a call leaves out -/
def Fn (k : Nat) (cx : Bool) (x : Str) (dd : List D) (C : List Ar → Rz → Prop) : Prop :=
  ∃ (f : Addr) (fd : FuncData) (ps : List Str) (ds : List Value) (dvs : List V), pg.mg x = some (.ref f) ∧ PySem.W.keepIn pg.K (.ref f) = true ∧ FnOk pg.P pg.w pg.K pg.mg pg.base (CXb pg cx) k f fd ps (spR pg C) ∧
    Binds pg.K fd ps ds ∧ Vals dvs ds ∧ ∀ Hf, Rs pg Hf dd dvs
/-- a method of the class at Cl -/
def Mt (k : Nat) (cx : Bool) (Cl : Addr) (m : Str) (dd : List D) (C : List Ar → Rz → Prop) : Prop :=
  ∃ (f : Addr) (fd : FuncData) (ps : List Str) (ds : List Value) (dvs : List V), Cls pg.K Cl ∧ Meth pg.K Cl m f ∧ FnOk pg.P pg.w pg.K pg.mg pg.base (CXb pg cx) k f fd ps (spR pg C) ∧
    Binds pg.K fd ps ds ∧ Vals dvs ds ∧ ∀ Hf, Rs pg Hf dd dvs
end
section
variable {pg : Pg} {sc : Scope} {N : List (Str × Bool)} {G : List Str} {lv : Nat} {own : List Nat} {Γ : Gm pg sc N G lv own} {ρ : List Sl} {a b e e1 : Expr} {es : List Expr} {d : D} {o : OT} {pos p apos : Pos} {i k : Nat} {x m : Str} {cx : Bool} {dd : List D} {C : List Ar → Rz → Prop} {as : List Ar} {r : Rz}
theorem ArsOk.app {Hf H : Hp} : ∀ {as bs : List Ar} {vs us : List V}, ArsOk pg Hf H as vs → ArsOk pg Hf H bs us → ArsOk pg Hf H (as ++ bs) (vs ++ us)
  | [], _, _, _, h, q => by
    have h : _ = [] := h
    rw [h]
    exact q
  | a :: as, _, _, _, ⟨v, r, h1, h2, h3⟩, q => ⟨v, r ++ _, by rw [h1]; rfl, h2, ArsOk.app h3 q⟩
theorem passB {X : Cx} (h : pgOf X pg.T = pg) : Passes (CXb pg cx) X E0 := by
  obtain ⟨P, w, K, mg, base, T⟩ := pg
  cases h
  cases cx with
  | true => exact passL
  | false => exact pass0
/-- a call of a def: what comes of it -/
theorem call_core (F : Fn pg k cx x dd C) (ha : XA Γ (e1 :: es) ρ as) (hr : k ≤ lv) (j : Nat) (hG : G[j]? = some x) (hC : C (as ++ dd.map Ar.sh) r)
    (hdb : (x == ("__debug__" : Str)) = false) (hst : ∀ env, starEach (e1 :: es) env = (false, eval e1 env) :: starEach es env) (hpl : ∀ env, (backTo pos (starEach es env)).any (·.1) = false)
    {σ : L2.St} {Hf H : Hp} {Q : VK} (E : Env pg Γ.c own Hf H σ ρ) (hQ : ∀ Hf' H', Gw pg Hf H Hf' H' → PostR pg Hf' H' Q E0 r) : RunE Γ.X (.Call (.Name x p) (e1 :: es) [] pos) σ H Q := by
  obtain ⟨f, fd, ps, ds, dvs, h1, h2, h3, h4, h5, h6⟩ := F
  obtain ⟨P, w, K, mg, base, T⟩ := pg
  obtain ⟨X, c, hp, hsc, nd, nn, nl, nc, vis, gl, calm, room⟩ := Γ
  cases hp
  refine RunE.of (pe_call (X := X) h3 (room.mono hr) (gl x (gmem hG)) h1 h2 h4 h5 (passB (pg := pgOf X T) rfl) (runA _ _) hdb (hst _) (hpl _)) ?_
  exact ha σ Hf H _ E fun vs Hf' H' g ro => ⟨as ++ dd.map Ar.sh, r, Hf', hC, ro.app (ArsOk.of (h6 Hf')), g.ff, g.tabs, hQ Hf' H' g⟩
theorem xe_call (F : Fn pg k cx x dd C) (ha : XA Γ (e1 :: es) ρ as) (j : Nat) (hC : C (as ++ dd.map Ar.sh) (.sh d)) (hG : G[j]? = some x := by rfl) (hr : k ≤ lv := by decide)
    (hdb : (x == ("__debug__" : Str)) = false := by decide) (hst : ∀ env, starEach (e1 :: es) env = (false, eval e1 env) :: starEach es env := by intro _; rfl) (hpl : ∀ env, (backTo pos (starEach es env)).any (·.1) = false := by intro _; rfl) : XE Γ (.Call (.Name x p) (e1 :: es) [] pos) ρ d := fun σ Hf H Q E kk =>
  call_core F ha hr j hG hC hdb hst hpl E fun Hf' H' g v Hf2 H2 g2 r2 => kk v Hf2 H2 (g.trans g2) r2
theorem xo_call (F : Fn pg k cx x dd C) (ha : XA Γ (e1 :: es) ρ as) (j : Nat) (hC : C (as ++ dd.map Ar.sh) (.ow o)) (hG : G[j]? = some x := by rfl) (hr : k ≤ lv := by decide)
    (hdb : (x == ("__debug__" : Str)) = false := by decide) (hst : ∀ env, starEach (e1 :: es) env = (false, eval e1 env) :: starEach es env := by intro _; rfl) (hpl : ∀ env, (backTo pos (starEach es env)).any (·.1) = false := by intro _; rfl) : XO Γ (.Call (.Name x p) (e1 :: es) [] pos) ρ o := fun σ Hf H Q E kk =>
  call_core F ha hr j hG hC hdb hst hpl E fun Hf' H' g v Hf2 H2 fp g2 r2 nf => kk v Hf2 H2 fp (g.trans g2) r2 fun a ha => ⟨g.dom a (nf a ha).1, (nf a ha).2⟩
/-! ### methods -/
theorem argO {Hf H : Hp} {v : V} {Cl : Addr} : ∀ {s : Ar}, ArOk pg Hf H s v → Same Hf H → (∃ fs, s = .sh (.obj Cl fs) ∧ fs.lookup m = none) ∨ (∃ fs, s = .pk (.ins Cl fs) ∧ fs.lookup m = none) → ∃ a dx ws, v = .ref a ∧ H a = some (.ins Cl dx ws) ∧ ws.lookup m = none
  | _, h, ff, .inl ⟨fs, e, l⟩ => by
    subst e
    obtain ⟨a, dx, ws, h1, h2, h3⟩ := h
    exact ⟨a, dx, ws, h1, ff _ _ h2, h3.none l⟩
  | _, h, ff, .inr ⟨fs, e, l⟩ => by
    subst e
    obtain ⟨fp, ⟨a, dx, ws, r, h1, h2, h3, h4, _⟩, _⟩ := h
    exact ⟨a, dx, ws, h1, h3, h4.none l⟩
/-- the receiver of a method: a thing that stands for ever, or one looked at -/
def XR (Γ : Gm pg sc N G lv own) (e : Expr) (ρ : List Sl) (s : Ar) : Prop := ∀ σ Hf H Q, Env pg Γ.c own Hf H σ ρ → (∀ v Hf' H', Gw pg Hf H Hf' H' → ArOk pg Hf' H' s v → Q v H') → RunE Γ.X e σ H Q
theorem XE.rcv (h : XE Γ e ρ d) : XR Γ e ρ (.sh d) := h
theorem XP.rcv (h : XP Γ e ρ o) : XR Γ e ρ (.pk o) := fun σ Hf H Q E k => h σ Hf H Q E fun v Hf' H' fp g r nn => k v Hf' H' g ⟨fp, r, nn⟩
theorem XO.rcv (h : XO Γ e ρ o) : XR Γ e ρ (.pk o) := fun σ Hf H Q E k => h σ Hf H Q E fun v Hf' H' fp g r nn => k v Hf' H' g ⟨fp, r, fun a ha z => by
  obtain ⟨u, hu, _⟩ := r.there a ha
  rw [z] at hu; cases hu⟩
/-- what stands as a receiver: of the class Cl, m is none of its attributes -/
def IsOf (Cl : Addr) (m : Str) (s : Ar) : Prop := (∃ fs, s = .sh (.obj Cl fs) ∧ fs.lookup m = none) ∨ (∃ fs, s = .pk (.ins Cl fs) ∧ fs.lookup m = none)
theorem meth_core {Cl : Addr} {s : Ar} {pl : Sem Bool} (F : Mt pg k cx Cl m dd C) (hs : XR Γ e ρ s) (hi : IsOf Cl m s) (ha : XA Γ (e1 :: es) ρ as) (hr : k ≤ lv) (hC : C (s :: (as ++ dd.map Ar.sh)) r)
    (hst : ∀ env, starEach (e1 :: es) env = (false, eval e1 env) :: starEach es env) (hpl : ∀ env, (backTo pos (starEach es env)).any (·.1) = false)
    (ht : eval (.Call (.Attribute e m apos) (e1 :: es) [] pos) Γ.X.env = (do
      let ov ← eval e Γ.X.env
      standAt apos.atName
      let (f, first) ← holding [ov] (getMethod ov m pl)
      callWith pos f first (backTo pos (starEach (e1 :: es) Γ.X.env)) (backToKw pos (keywordEach [] Γ.X.env))))
    {σ : L2.St} {Hf H : Hp} {Q : VK} (E : Env pg Γ.c own Hf H σ ρ) (hQ : ∀ Hf' H', Gw pg Hf H Hf' H' → PostR pg Hf' H' Q E0 r) : RunE Γ.X (.Call (.Attribute e m apos) (e1 :: es) [] pos) σ H Q := by
  obtain ⟨f, fd, ps, ds, dvs, h1, h2, h3, h4, h5, h6⟩ := F
  obtain ⟨P, w, K, mg, base, T⟩ := pg
  obtain ⟨X, c, hp, hsc, nd, nn, nl, nc, vis, gl, calm, room⟩ := Γ
  cases hp
  refine RunE.of (pe_meth (X := X) (pl := pl) (runE _ e) h1 h2 h3 (room.mono hr) h4 h5 (passB (pg := pgOf X T) rfl) (runA _ _) (hst _) (hpl _) ht) ?_
  refine hs σ Hf H _ E fun v Hf1 H1 g1 ro1 => ?_
  obtain ⟨a, dx, ws, e1', e2, e3⟩ := argO ro1 g1.ff hi
  refine ⟨a, dx, ws, e1', e2, e3, ha σ Hf1 H1 _ (E.grow g1) fun vs Hf' H' g ro => ?_⟩
  exact ⟨s :: (as ++ dd.map Ar.sh), r, Hf', hC, ⟨v, _, rfl, ro1.grow g, ro.app (ArsOk.of (h6 Hf'))⟩, g.ff, g.tabs, hQ Hf' H' (g1.trans g)⟩
theorem meth_core0 {Cl : Addr} {s : Ar} {pl : Sem Bool} (F : Mt pg k cx Cl m dd C) (hs : XR Γ e ρ s) (hi : IsOf Cl m s) (hr : k ≤ lv) (hC : C (s :: dd.map Ar.sh) r)
    (ht : eval (.Call (.Attribute e m apos) [] [] pos) Γ.X.env = (do
      let ov ← eval e Γ.X.env
      standAt apos.atName
      let (f, first) ← holding [ov] (getMethod ov m pl)
      callWith pos f first (backTo pos (starEach [] Γ.X.env)) (backToKw pos (keywordEach [] Γ.X.env))))
    {σ : L2.St} {Hf H : Hp} {Q : VK} (E : Env pg Γ.c own Hf H σ ρ) (hQ : ∀ Hf' H', Gw pg Hf H Hf' H' → PostR pg Hf' H' Q E0 r) : RunE Γ.X (.Call (.Attribute e m apos) [] [] pos) σ H Q := by
  obtain ⟨f, fd, ps, ds, dvs, h1, h2, h3, h4, h5, h6⟩ := F
  obtain ⟨P, w, K, mg, base, T⟩ := pg
  obtain ⟨X, c, hp, hsc, nd, nn, nl, nc, vis, gl, calm, room⟩ := Γ
  cases hp
  refine RunE.of (pe_meth0 (X := X) (pl := pl) (runE _ e) h1 h2 h3 (room.mono hr) h4 h5 (passB (pg := pgOf X T) rfl) ht) ?_
  refine hs σ Hf H _ E fun v Hf1 H1 g1 ro1 => ?_
  obtain ⟨a, dx, ws, e1', e2, e3⟩ := argO ro1 g1.ff hi
  exact ⟨a, dx, ws, e1', e2, e3, s :: dd.map Ar.sh, r, Hf1, hC, ⟨v, _, rfl, ro1, ArsOk.of (h6 Hf1)⟩, g1.ff, g1.tabs, hQ Hf1 H1 g1⟩
theorem xe_meth {Cl : Addr} {s : Ar} {pl : Sem Bool} (F : Mt pg k cx Cl m dd C) (hs : XR Γ e ρ s) (hi : IsOf Cl m s) (ha : XA Γ (e1 :: es) ρ as) (hC : C (s :: (as ++ dd.map Ar.sh)) (.sh d)) (hr : k ≤ lv := by decide)
    (hst : ∀ env, starEach (e1 :: es) env = (false, eval e1 env) :: starEach es env := by intro _; rfl) (hpl : ∀ env, (backTo pos (starEach es env)).any (·.1) = false := by intro _; rfl)
    (ht : eval (.Call (.Attribute e m apos) (e1 :: es) [] pos) Γ.X.env = (do
      let ov ← eval e Γ.X.env
      standAt apos.atName
      let (f, first) ← holding [ov] (getMethod ov m pl)
      callWith pos f first (backTo pos (starEach (e1 :: es) Γ.X.env)) (backToKw pos (keywordEach [] Γ.X.env))) := by rfl) : XE Γ (.Call (.Attribute e m apos) (e1 :: es) [] pos) ρ d := fun σ Hf H Q E kk =>
  meth_core F hs hi ha hr hC hst hpl ht E fun Hf' H' g v Hf2 H2 g2 r2 => kk v Hf2 H2 (g.trans g2) r2
theorem xo_meth {Cl : Addr} {s : Ar} {pl : Sem Bool} (F : Mt pg k cx Cl m dd C) (hs : XR Γ e ρ s) (hi : IsOf Cl m s) (ha : XA Γ (e1 :: es) ρ as) (hC : C (s :: (as ++ dd.map Ar.sh)) (.ow o)) (hr : k ≤ lv := by decide)
    (hst : ∀ env, starEach (e1 :: es) env = (false, eval e1 env) :: starEach es env := by intro _; rfl) (hpl : ∀ env, (backTo pos (starEach es env)).any (·.1) = false := by intro _; rfl)
    (ht : eval (.Call (.Attribute e m apos) (e1 :: es) [] pos) Γ.X.env = (do
      let ov ← eval e Γ.X.env
      standAt apos.atName
      let (f, first) ← holding [ov] (getMethod ov m pl)
      callWith pos f first (backTo pos (starEach (e1 :: es) Γ.X.env)) (backToKw pos (keywordEach [] Γ.X.env))) := by rfl) : XO Γ (.Call (.Attribute e m apos) (e1 :: es) [] pos) ρ o := fun σ Hf H Q E kk =>
  meth_core F hs hi ha hr hC hst hpl ht E fun Hf' H' g v Hf2 H2 fp g2 r2 nf => kk v Hf2 H2 fp (g.trans g2) r2 fun a ha => ⟨g.dom a (nf a ha).1, (nf a ha).2⟩
theorem xe_meth0 {Cl : Addr} {s : Ar} {pl : Sem Bool} (F : Mt pg k cx Cl m dd C) (hs : XR Γ e ρ s) (hi : IsOf Cl m s) (hC : C (s :: dd.map Ar.sh) (.sh d)) (hr : k ≤ lv := by decide)
    (ht : eval (.Call (.Attribute e m apos) [] [] pos) Γ.X.env = (do
      let ov ← eval e Γ.X.env
      standAt apos.atName
      let (f, first) ← holding [ov] (getMethod ov m pl)
      callWith pos f first (backTo pos (starEach [] Γ.X.env)) (backToKw pos (keywordEach [] Γ.X.env))) := by rfl) : XE Γ (.Call (.Attribute e m apos) [] [] pos) ρ d := fun σ Hf H Q E kk =>
  meth_core0 F hs hi hr hC ht E fun Hf' H' g v Hf2 H2 g2 r2 => kk v Hf2 H2 (g.trans g2) r2
theorem xo_meth0 {Cl : Addr} {s : Ar} {pl : Sem Bool} (F : Mt pg k cx Cl m dd C) (hs : XR Γ e ρ s) (hi : IsOf Cl m s) (hC : C (s :: dd.map Ar.sh) (.ow o)) (hr : k ≤ lv := by decide)
    (ht : eval (.Call (.Attribute e m apos) [] [] pos) Γ.X.env = (do
      let ov ← eval e Γ.X.env
      standAt apos.atName
      let (f, first) ← holding [ov] (getMethod ov m pl)
      callWith pos f first (backTo pos (starEach [] Γ.X.env)) (backToKw pos (keywordEach [] Γ.X.env))) := by rfl) : XO Γ (.Call (.Attribute e m apos) [] [] pos) ρ o := fun σ Hf H Q E kk =>
  meth_core0 F hs hi hr hC ht E fun Hf' H' g v Hf2 H2 fp g2 r2 nf => kk v Hf2 H2 fp (g.trans g2) r2 fun a ha => ⟨g.dom a (nf a ha).1, (nf a ha).2⟩
end
/-! ### a def's body keeps its promise -/
structure Sc (N : List (Str × Bool)) (ps G : List Str) (sc : Scope) : Prop where
  fs : FnScope (N.map Prod.fst) ps sc
  loc : ∀ x, (x, true) ∈ N → Loc sc x
  par : (N.take ps.length).map Prod.fst = ps
  gl : ∀ x ∈ G, sc.names.lookup x = some .globalImplicit
def scB (N : List (Str × Bool)) (ps G : List Str) (sc : Scope) : Bool :=
  decide (sc.kind = .function) && !sc.isCoroutine && !sc.isGenerator && decide (N.map Prod.fst).Nodup && (decide ((N.map Prod.fst).take ps.length = ps) && (N.take ps.length).all (·.2)) && N.all (fun x => !x.2 || (decide (sc.names.lookup x.1 = some .local) || decide (sc.names.lookup x.1 = some .cell))) && sc.names.all (fun y => !decide (y.2 = .free)) &&
    G.all (fun x => decide (sc.names.lookup x = some .globalImplicit))
theorem sc_by {N : List (Str × Bool)} {ps G : List Str} {sc : Scope} (h : scB N ps G sc = true) : Sc N ps G sc := by
  unfold scB at h
  simp only [Bool.and_eq_true, Bool.not_eq_true', decide_eq_true_eq, List.all_eq_true, Bool.or_eq_true, decide_eq_false_iff_not] at h
  obtain ⟨⟨⟨⟨⟨⟨⟨h1, h2⟩, h3⟩, h4⟩, h5, h5'⟩, h6⟩, h7⟩, h8⟩ := h
  have loc : ∀ x, (x, true) ∈ N → Loc sc x := fun x hx => (h6 (x, true) hx).elim (fun z => nomatch z) id
  refine ⟨⟨h1, h2, h3, h4, h5, fun x hx => ?_, fun y hy => h7 y hy⟩, loc, by rw [List.map_take]; exact h5, fun x hx => h8 x hx⟩
  rw [← h5, ← List.map_take] at hx
  obtain ⟨⟨y, b⟩, hy, e⟩ := List.mem_map.mp hx
  have := h5' _ hy
  dsimp only at this e
  subst this e
  exact loc y (List.mem_of_mem_take hy)
def slA : Ar → Sl
  | .sh d => .sh d
  | .pk o => .ro o
def slots (n : Nat) (ags : List Ar) : List Sl := ags.map slA ++ List.replicate (n - ags.length) .no
section
variable {pg : Pg}
theorem ArsOk.get {Hf H : Hp} : ∀ {as : List Ar} {vs : List V} {i : Nat} {s : Ar}, ArsOk pg Hf H as vs → as[i]? = some s → ∃ v, vs[i]? = some v ∧ ArOk pg Hf H s v
  | a :: as, _, 0, s, ⟨v, r, h1, h2, h3⟩, e => by
    subst h1
    cases e
    exact ⟨v, rfl, h2⟩
  | a :: as, _, i + 1, s, ⟨v, r, h1, h2, h3⟩, e => by
    subst h1
    exact ArsOk.get (i := i) h3 e
theorem start_get {N : List Str} {vs : List V} {i : Nat} {v : V} (h : vs[i]? = some v) : (L2.start N vs)[i]? = some (some v) := by
  unfold L2.start
  rw [List.getElem?_append_left (by rw [List.length_map]; exact (List.getElem?_eq_some_iff.mp h).1), List.getElem?_map, h]
  rfl
theorem start_len {N : List Str} {vs : List V} (h : vs.length ≤ N.length) : (L2.start N vs).length = N.length := by
  unfold L2.start
  rw [List.length_append, List.length_map, List.length_replicate]
  omega
/-- the state at the entry -/
theorem env_start {Hf H : Hp} {N : List Str} {vs : List V} {ags : List Ar} (ff : Same Hf H) (tb : Tb pg Hf H) (ro : ArsOk pg Hf H ags vs) (hl : vs.length ≤ N.length) : Env pg ⟨H, Hf, fun _ => [], vs, N.length⟩ [] Hf H (L2.start N vs) (slots N.length ags) := by
  have ln : (slots N.length ags).length = N.length := by
    unfold slots
    rw [List.length_append, List.length_map, List.length_replicate, ← ro.length]
    omega
  refine ⟨Same.refl _, ff, fun _ _ h _ _ => h, fun _ h => h, fun _ _ => rfl, tb, fun i hi => (nomatch hi), by rw [start_len hl, ln], ln, fun _ => [], fun i s e => ?_, fun _ _ => rfl, fun i j a h => (nomatch h)⟩
  unfold slots at e
  by_cases hi : i < ags.length
  · rw [List.getElem?_append_left (by rw [List.length_map]; exact hi), List.getElem?_map] at e
    cases q : ags[i]? with
    | none => rw [q] at e; cases e
    | some t =>
      rw [q] at e
      cases e
      obtain ⟨v, hv, rv⟩ := ro.get q
      cases t with
      | sh d => exact ⟨rfl, v, start_get hv, rv⟩
      | pk o =>
        obtain ⟨fp, h1, h2⟩ := rv
        exact ⟨rfl, v, fp, start_get hv, h1, fun a ha ⟨_, z⟩ => nomatch z⟩
  · rw [List.getElem?_append_right (by rw [List.length_map]; omega), List.getElem?_replicate] at e
    split at e
    · cases e
      exact rfl
    · cases e
/-- from the end of a body to its caller -/
theorem Env.gw {c : Cf} {own : List Nat} {Hf H : Hp} {σ : L2.St} {ρ : List Sl} (E : Env pg c own Hf H σ ρ) (hM : c.Mi = fun _ => []) : Gw pg c.Hf c.H Hf H :=
  ⟨E.gr, E.ff, fun a o h t => E.pres a o h (fun ⟨i, z⟩ => by rw [hM] at z; cases z) t, E.dom, E.agr, E.tabs⟩
def fin (cx : Bool) (r : Rz) : De := ⟨fun _ => r = .sh .non, fun r' _ => r' = r, fun _ => False, fun _ => False, fun C _ => cx = true ∧ r = .ex C⟩
theorem sim_fin {sc : Scope} {N : List (Str × Bool)} {G : List Str} {lv : Nat} {Γ : Gf pg sc N G lv []} {cx : Bool} {r : Rz} {Q : VK} {E : XK} (hM : Γ.c.Mi = fun _ => []) (hW : ∀ cls d σ H, (cx = true ∧ E cls d H) → Γ.W cls d σ H) (p : PostR pg Γ.c.Hf Γ.c.H Q E r) : Sim Γ Γ.c.Hf (fin cx r) { nx := fun _ H' => Q .non H', rt := Q } := by
  refine ⟨fun σ Hf H ρ E' _ q => ?_, fun σ Hf H ρ E' _ q => q.elim, fun σ Hf H ρ E' _ q => q.elim, fun σ Hf H ρ d v E' q r' => ?_, fun σ Hf H ρ o v fp E' q r' nf _ => ?_, fun σ Hf H ρ C E' q => ?_⟩
  · have q : r = .sh .non := q
    subst q
    exact p .non Hf H (E'.gw hM) rfl
  · have q : Rz.sh d = r := q
    subst q
    exact p v Hf H (E'.gw hM) r'
  · have q : Rz.ow o = r := q
    subst q
    exact p v Hf H fp (E'.gw hM) r' nf
  · obtain ⟨q1, q⟩ := q
    subst q
    exact hW _ _ _ _ ⟨q1, p Hf H (E'.gw hM)⟩
/-- THE RULE -/
theorem fn_ok {x qual : Str} {st : Stmt} {f : Addr} {fd : FuncData} {dvs : List V} {N : List (Str × Bool)} {ps G : List Str} {k : Nat} {cx : Bool} {C : List Ar → Rz → Prop} (F : FunD pg.K x qual (defArgs st) (defBody st) (defScope st) dvs [] f fd) (S : Sc N ps G (defScope st))
    (len : ∀ ags r, C ags r → ags.length = ps.length) (hb : ∀ (Γ : Gf pg (defScope st) N G k []) ags r, C ags r → XSs Γ (defBody st) (slots N.length ags) (fin cx r)) : FnOk pg.P pg.w pg.K pg.mg pg.base (CXb pg cx) (k + 1) f fd ps (spR pg C) := by
  have hpl : ps.length ≤ N.length := by
    have q := congrArg List.length S.fs.pre
    rw [List.length_take, List.length_map] at q
    omega
  refine F.ok S.fs (fun vs H Q E ⟨ags, r, Hf, h1, h2, _⟩ => by rw [h2.length, len ags r h1]) fun cdv A outer s H vs Q E hr ⟨ags, r, Hf, h1, h2, h3, h4, h5⟩ => ?_
  have hl : vs.length ≤ N.length := by
    rw [h2.length, len ags r h1]
    exact hpl
  have vis : ∀ (i : Nat) (x : Str), N[i]? = some (x, true) → (N.map Prod.fst)[i]? = some x := fun i x e => by
    rw [List.getElem?_map, e]
    rfl
  have lv : ∀ y, Loc (defScope st) y → Vis (defScope st) y := fun y z => z.elim .inl fun z => .inr (.inl z)
  have st_ : ∀ (i : Nat) (y : Str), N[i]? = some (y, true) → Loc (defScope st) y := fun i y e => S.loc y (List.mem_of_getElem? e)
  have en := env_start (N := N.map Prod.fst) h3 h4 h2 (by rw [List.length_map]; exact hl)
  rw [List.length_map] at en
  cases cx with
  | false =>
    let Γ : Gf pg (defScope st) N G k [] := ⟨⟨(cxOf CX0 pg.P pg.w pg.K pg.mg pg.base (N.map Prod.fst) qual (defScope st) f cdv A outer s H E).nox, ⟨H, Hf, fun _ => [], vs, N.length⟩, rfl, rfl, S.fs.nd, rfl, (List.length_map ..), rfl,
      fun i y e => ⟨vis i y e, lv y (st_ i y e)⟩, fun y hy => S.gl y hy, rfl, hr⟩, fun _ _ _ _ => False, fun i y e => ⟨st_ i y e, .inl rfl⟩, takes0, PassesOwn.never, rfl, rfl⟩
    refine ⟨fun D σ H => RunSs Γ.X (defBody st) σ H D, PSs.nox (runSs Γ.X _), ?_⟩
    exact hb Γ ags r h1 (L2.start (N.map Prod.fst) vs) Hf H _ en (sim_fin (cx := false) (E := E) rfl (fun _ _ _ _ z => nomatch z.1) h5)
  | true =>
    let Γ : Gf pg (defScope st) N G k [] := ⟨⟨cxOf (L2.CX pg.P pg.w) pg.P pg.w pg.K pg.mg pg.base (N.map Prod.fst) qual (defScope st) f cdv A outer s H E, ⟨H, Hf, fun _ => [], vs, N.length⟩, rfl, rfl, S.fs.nd, rfl, (List.length_map ..), rfl,
      fun i y e => ⟨vis i y e, lv y (st_ i y e)⟩, fun y hy => S.gl y hy, rfl, hr⟩, fun cls d _ H => E cls d H, fun i y e => ⟨st_ i y e, .inl rfl⟩, takes_of rfl rfl rfl rfl, passes_of rfl, rfl, rfl⟩
    refine ⟨fun D σ H => RunSs Γ.X (defBody st) σ H D, runSs Γ.X _, ?_⟩
    exact hb Γ ags r h1 (L2.start (N.map Prod.fst) vs) Hf H _ en (sim_fin (cx := true) (E := E) rfl (fun _ _ _ _ z => z.2) h5)
end
end Lk
set_option maxHeartbeats 4000000
namespace Lk
open PySem PySem.Spec PyProof.Rows L2
/-- the built-in names that the module leaves alone -/
class Bl (pg : Pg) : Prop where
  len : pg.mg "len" = none
  list : pg.mg "list" = none
  tuple : pg.mg "tuple" = none
  max : pg.mg "max" = none
  min : pg.mg "min" = none
  sum : pg.mg "sum" = none
  int : pg.mg "int" = none
  range : pg.mg "range" = none
  enumerate : pg.mg "enumerate" = none
  isinstance : pg.mg "isinstance" = none
  valueError : pg.mg "ValueError" = none
section
variable {pg : Pg} {sc : Scope} {N : List (Str × Bool)} {G : List Str} {lv : Nat} {own : List Nat} {Γ : Gm pg sc N G lv own} {ρ : List Sl} {a b e e1 : Expr} {es : List Expr} {d : D} {o : OT} {pos p apos : Pos} {i k : Nat} {x m : Str} {as : List Ar}
/-- a built-in function, a built-in class -/
theorem bltF {id : String} {r : List V → Hp → VK → Prop} (hc : CallR Γ.X (.builtin id) r) (hm : pg.mg x = none) (hv : bootBuiltins x = some (.builtin id)) (ha : XA Γ (e1 :: es) ρ as) (j : Nat) (hG : G[j]? = some x) (hn : x ≠ "__name__") (hdb : (x == ("__debug__" : Str)) = false)
    (hst : ∀ env, starEach (e1 :: es) env = (false, eval e1 env) :: starEach es env) (hpl : ∀ env, (backTo pos (starEach es env)).any (·.1) = false)
    {σ : L2.St} {Hf H : Hp} {Q : VK} (E : Env pg Γ.c own Hf H σ ρ) (k : ∀ vs Hf' H', Gw pg Hf H Hf' H' → ArsOk pg Hf' H' as vs → r vs H' Q) : RunE Γ.X (.Call (.Name x p) (e1 :: es) [] pos) σ H Q :=
  RunE.of (pe_callB hc (Γ.gl x (gmem hG)) ((congrFun (mgE Γ) x).trans hm) hv (runA _ _) hn hdb (hst _) (hpl _)) (ha σ Hf H _ E k)
theorem bltT {T : String} {r : List V → Hp → VK → Prop} (hc : CallR Γ.X (.type T) r) (hm : pg.mg x = none) (hv : bootBuiltins x = some (.type T)) (ha : XA Γ (e1 :: es) ρ as) (j : Nat) (hG : G[j]? = some x) (hn : x ≠ "__name__") (hdb : (x == ("__debug__" : Str)) = false)
    (hst : ∀ env, starEach (e1 :: es) env = (false, eval e1 env) :: starEach es env) (hpl : ∀ env, (backTo pos (starEach es env)).any (·.1) = false)
    {σ : L2.St} {Hf H : Hp} {Q : VK} (E : Env pg Γ.c own Hf H σ ρ) (k : ∀ vs Hf' H', Gw pg Hf H Hf' H' → ArsOk pg Hf' H' as vs → r vs H' Q) : RunE Γ.X (.Call (.Name x p) (e1 :: es) [] pos) σ H Q :=
  RunE.of (pe_callTy hc (Γ.gl x (gmem hG)) ((congrFun (mgE Γ) x).trans hm) hv (runA _ _) hn hdb (hst _) (hpl _)) (ha σ Hf H _ E k)
theorem ars1 {Hf H : Hp} {d : D} {vs : List V} (h : ArsOk pg Hf H [.sh d] vs) : ∃ v, vs = [v] ∧ R pg Hf d v := by
  obtain ⟨v, r, h1, h2, h3⟩ := h
  have h3 : r = [] := h3
  exact ⟨v, by rw [h1, h3], h2⟩
theorem arsP {Hf H : Hp} {o : OT} {vs : List V} (h : ArsOk pg Hf H [.pk o] vs) : ∃ v fp, vs = [v] ∧ Own pg Hf H o v fp := by
  obtain ⟨v, r, h1, ⟨fp, h2, _⟩, h3⟩ := h
  have h3 : r = [] := h3
  exact ⟨v, fp, by rw [h1, h3], h2⟩
theorem ars2 {Hf H : Hp} {d d' : D} {vs : List V} (h : ArsOk pg Hf H [.sh d, .sh d'] vs) : ∃ v u, vs = [v, u] ∧ R pg Hf d v ∧ R pg Hf d' u := by
  obtain ⟨v, r, h1, h2, h3⟩ := h
  obtain ⟨u, e, r2⟩ := ars1 h3
  exact ⟨v, u, by rw [h1, e], h2, r2⟩
variable [Bl pg]
theorem xe_lenL {ds : List D} (h : XE Γ e1 ρ (.lst ds)) (j : Nat) (hG : G[j]? = some ("len" : Str) := by rfl) (hst : ∀ env, starEach [e1] env = [(false, eval e1 env)] := by intro _; rfl) : XE Γ (.Call (.Name "len" p) [e1] [] pos) ρ (.int ds.length) := fun σ Hf H Q E kk =>
  bltF call_len_seq (Bl.len (pg := pg)) PySem.boot_len (XA.sh h .nil hst) j hG (by decide) (by decide) (fun env => by rw [hst env] <;> rfl) (fun env => by rfl) E fun vs Hf' H' g r => by
    obtain ⟨v, rfl, a, ws, rfl, h1, h2⟩ := ars1 r
    exact ⟨a, ws, rfl, .inl (SqL.of (g.ff _ _ h1)), kk _ Hf' H' g (by rw [h2.length]; rfl)⟩
theorem xe_lenT {ds : List D} (h : XE Γ e1 ρ (.tup ds)) (j : Nat) (hG : G[j]? = some ("len" : Str) := by rfl) (hst : ∀ env, starEach [e1] env = [(false, eval e1 env)] := by intro _; rfl) : XE Γ (.Call (.Name "len" p) [e1] [] pos) ρ (.int ds.length) := fun σ Hf H Q E kk =>
  bltF call_len_seq (Bl.len (pg := pg)) PySem.boot_len (XA.sh h .nil hst) j hG (by decide) (by decide) (fun env => by rw [hst env] <;> rfl) (fun env => by rfl) E fun vs Hf' H' g r => by
    obtain ⟨v, rfl, a, ws, rfl, h1, h2⟩ := ars1 r
    exact ⟨a, ws, rfl, .inr (by rw [kE Γ]; exact sqT_mono g.ff h1), kk _ Hf' H' g (by rw [h2.length]; rfl)⟩
theorem xe_lenP {ds : List D} (h : XP Γ e1 ρ (.lst ds)) (j : Nat) (hG : G[j]? = some ("len" : Str) := by rfl) (hst : ∀ env, starEach [e1] env = [(false, eval e1 env)] := by intro _; rfl) : XE Γ (.Call (.Name "len" p) [e1] [] pos) ρ (.int ds.length) := fun σ Hf H Q E kk =>
  bltF call_len_seq (Bl.len (pg := pg)) PySem.boot_len (XA.pk h .nil hst) j hG (by decide) (by decide) (fun env => by rw [hst env] <;> rfl) (fun env => by rfl) E fun vs Hf' H' g r => by
    obtain ⟨v, fp, rfl, a, ws, rfl, h0, h1, h2⟩ := arsP r
    exact ⟨a, ws, rfl, .inl (SqL.of h1), kk _ Hf' H' g (by rw [h2.length]; rfl)⟩
theorem xe_lenS {y : Str} (h : XE Γ e1 ρ (.str y)) (hz : y.length ≤ 100000) (j : Nat) (hG : G[j]? = some ("len" : Str) := by rfl) (hst : ∀ env, starEach [e1] env = [(false, eval e1 env)] := by intro _; rfl) : XE Γ (.Call (.Name "len" p) [e1] [] pos) ρ (.int y.length) := fun σ Hf H Q E kk =>
  bltF call_len_str (Bl.len (pg := pg)) PySem.boot_len (XA.sh h .nil hst) j hG (by decide) (by decide) (fun env => by rw [hst env] <;> rfl) (fun env => by rfl) E fun vs Hf' H' g r => by
    obtain ⟨v, rfl, h1⟩ := ars1 r
    exact ⟨y, by rw [show v = V.str y from h1], sz5 hz, kk _ Hf' H' g rfl⟩
theorem xe_max {n m' : Int} (h : XE Γ e1 ρ (.int n)) (h' : XE Γ e ρ (.int m')) (j : Nat) (hG : G[j]? = some ("max" : Str) := by rfl) (hst : ∀ env, starEach [e1, e] env = (false, eval e1 env) :: starEach [e] env := by intro _; rfl) (hst' : ∀ env, starEach [e] env = [(false, eval e env)] := by intro _; rfl) :
    XE Γ (.Call (.Name "max" p) [e1, e] [] pos) ρ (.int (max n m')) := fun σ Hf H Q E kk =>
  bltF (call_max2 Γ.calm) (Bl.max (pg := pg)) (by decide +kernel) (XA.sh h (XA.sh h' .nil hst') hst) j hG (by decide) (by decide) hst (fun env => by rw [hst' env] <;> rfl) E fun vs Hf' H' g r => by
    obtain ⟨v, u, rfl, h1, h2⟩ := ars2 r
    have h1 : v = V.int n := h1
    have h2 : u = V.int m' := h2
    subst h1 h2
    refine ⟨n, m', rfl, kk _ Hf' H' g ?_⟩
    show V.int _ = V.int _
    congr 1
    split <;> omega
theorem xe_min {n m' : Int} (h : XE Γ e1 ρ (.int n)) (h' : XE Γ e ρ (.int m')) (j : Nat) (hG : G[j]? = some ("min" : Str) := by rfl) (hst : ∀ env, starEach [e1, e] env = (false, eval e1 env) :: starEach [e] env := by intro _; rfl) (hst' : ∀ env, starEach [e] env = [(false, eval e env)] := by intro _; rfl) :
    XE Γ (.Call (.Name "min" p) [e1, e] [] pos) ρ (.int (min n m')) := fun σ Hf H Q E kk =>
  bltF (call_min2 Γ.calm) (Bl.min (pg := pg)) (by decide +kernel) (XA.sh h (XA.sh h' .nil hst') hst) j hG (by decide) (by decide) hst (fun env => by rw [hst' env] <;> rfl) E fun vs Hf' H' g r => by
    obtain ⟨v, u, rfl, h1, h2⟩ := ars2 r
    have h1 : v = V.int n := h1
    have h2 : u = V.int m' := h2
    subst h1 h2
    refine ⟨n, m', rfl, kk _ Hf' H' g ?_⟩
    show V.int _ = V.int _
    congr 1
    split <;> omega
theorem xe_intB {c : Bool} (h : XE Γ e1 ρ (.bl c)) (j : Nat) (hG : G[j]? = some ("int" : Str) := by rfl) (hst : ∀ env, starEach [e1] env = [(false, eval e1 env)] := by intro _; rfl) : XE Γ (.Call (.Name "int" p) [e1] [] pos) ρ (.int (if c then 1 else 0)) := fun σ Hf H Q E kk =>
  bltT call_int1 (Bl.int (pg := pg)) (by decide +kernel) (XA.sh h .nil hst) j hG (by decide) (by decide) (fun env => by rw [hst env] <;> rfl) (fun env => by rfl) E fun vs Hf' H' g r => by
    obtain ⟨v, rfl, h1⟩ := ars1 r
    have h1 : v = V.bl c := h1
    exact .inr ⟨c, by rw [h1], kk _ Hf' H' g rfl⟩
/-- sum of a list, of a tuple of numbers -/
theorem xe_sum {ns : List Int} (h : XE Γ e1 ρ (.lst (ns.map D.int))) (j : Nat) (hG : G[j]? = some ("sum" : Str) := by rfl) (hst : ∀ env, starEach [e1] env = [(false, eval e1 env)] := by intro _; rfl) : XE Γ (.Call (.Name "sum" p) [e1] [] pos) ρ (.int ns.sum) := fun σ Hf H Q E kk =>
  bltF (cr_sum Γ.calm) (Bl.sum (pg := pg)) (by decide +kernel) (XA.sh h .nil hst) j hG (by decide) (by decide) (fun env => by rw [hst env] <;> rfl) (fun env => by rfl) E fun vs Hf' H' g r => by
    obtain ⟨v, rfl, a, ws, rfl, h1, h2⟩ := ars1 r
    rw [reps_ints_inv h2] at h1
    exact ⟨a, ns, rfl, SqL.of (g.ff _ _ h1), kk _ Hf' H' g rfl⟩
/-- list(xs), list(t): a new list -/
theorem xo_list {ds : List D} (h : XE Γ e1 ρ (.lst ds)) (j : Nat) (hG : G[j]? = some ("list" : Str) := by rfl) (hst : ∀ env, starEach [e1] env = [(false, eval e1 env)] := by intro _; rfl) : XO Γ (.Call (.Name "list" p) [e1] [] pos) ρ (.lst ds) := fun σ Hf H Q E kk =>
  bltT call_list_of (Bl.list (pg := pg)) (by decide +kernel) (XA.sh h .nil hst) j hG (by decide) (by decide) (fun env => by rw [hst env] <;> rfl) (fun env => by rfl) E fun vs Hf' H' g r => by
    obtain ⟨v, rfl, a, ws, rfl, h1, h2⟩ := ars1 r
    refine ⟨a, ws, rfl, .inl (SqL.of (g.ff _ _ h1)), fun l hl => kk _ Hf' _ [l] (g.trans (Gw.alloc g.ff g.tabs hl)) ⟨l, ws, rfl, rfl, upd_same, h2⟩ fun q hq => ?_⟩
    have eq : q = l := by simpa using hq
    subst eq
    refine ⟨g.dom q hl, ?_⟩
    cases z : Hf' q with
    | none => rfl
    | some y => rw [g.ff q y z] at hl; cases hl
theorem xo_listT {ds : List D} (h : XE Γ e1 ρ (.tup ds)) (j : Nat) (hG : G[j]? = some ("list" : Str) := by rfl) (hst : ∀ env, starEach [e1] env = [(false, eval e1 env)] := by intro _; rfl) : XO Γ (.Call (.Name "list" p) [e1] [] pos) ρ (.lst ds) := fun σ Hf H Q E kk =>
  bltT call_list_of (Bl.list (pg := pg)) (by decide +kernel) (XA.sh h .nil hst) j hG (by decide) (by decide) (fun env => by rw [hst env] <;> rfl) (fun env => by rfl) E fun vs Hf' H' g r => by
    obtain ⟨v, rfl, a, ws, rfl, h1, h2⟩ := ars1 r
    refine ⟨a, ws, rfl, .inr (by rw [kE Γ]; exact sqT_mono g.ff h1), fun l hl => kk _ Hf' _ [l] (g.trans (Gw.alloc g.ff g.tabs hl)) ⟨l, ws, rfl, rfl, upd_same, h2⟩ fun q hq => ?_⟩
    have eq : q = l := by simpa using hq
    subst eq
    refine ⟨g.dom q hl, ?_⟩
    cases z : Hf' q with
    | none => rfl
    | some y => rw [g.ff q y z] at hl; cases hl
theorem xo_listP {ds : List D} (h : XP Γ e1 ρ (.lst ds)) (j : Nat) (hG : G[j]? = some ("list" : Str) := by rfl) (hst : ∀ env, starEach [e1] env = [(false, eval e1 env)] := by intro _; rfl) : XO Γ (.Call (.Name "list" p) [e1] [] pos) ρ (.lst ds) := fun σ Hf H Q E kk =>
  bltT call_list_of (Bl.list (pg := pg)) (by decide +kernel) (XA.pk h .nil hst) j hG (by decide) (by decide) (fun env => by rw [hst env] <;> rfl) (fun env => by rfl) E fun vs Hf' H' g r => by
    obtain ⟨v, fp, rfl, a, ws, rfl, h0, h1, h2⟩ := arsP r
    refine ⟨a, ws, rfl, .inl (SqL.of h1), fun l hl => kk _ Hf' _ [l] (g.trans (Gw.alloc g.ff g.tabs hl)) ⟨l, ws, rfl, rfl, upd_same, h2⟩ fun q hq => ?_⟩
    have eq : q = l := by simpa using hq
    subst eq
    refine ⟨g.dom q hl, ?_⟩
    cases z : Hf' q with
    | none => rfl
    | some y => rw [g.ff q y z] at hl; cases hl
/-- tuple(xs), tuple(t) -/
theorem xe_tuple {ds : List D} (h : XE Γ e1 ρ (.lst ds)) (j : Nat) (hG : G[j]? = some ("tuple" : Str) := by rfl) (hst : ∀ env, starEach [e1] env = [(false, eval e1 env)] := by intro _; rfl) : XE Γ (.Call (.Name "tuple" p) [e1] [] pos) ρ (.tup ds) := fun σ Hf H Q E kk =>
  bltT call_tuple_of (Bl.tuple (pg := pg)) (by decide +kernel) (XA.sh h .nil hst) j hG (by decide) (by decide) (fun env => by rw [hst env] <;> rfl) (fun env => by rfl) E fun vs Hf' H' g r => by
    obtain ⟨v, rfl, a, ws, rfl, h1, h2⟩ := ars1 r
    exact ⟨a, ws, rfl, .inl ⟨SqL.of (g.ff _ _ h1), fun l hl => kk _ _ _ (g.trans (Gw.fresh g.ff g.tabs hl)) ⟨l, ws, rfl, SqT.of upd_same, h2.mono cm0 (Gw.fresh g.ff g.tabs (u := .tup ws) hl).gr⟩⟩⟩
theorem xe_tupleP {ds : List D} (h : XP Γ e1 ρ (.lst ds)) (j : Nat) (hG : G[j]? = some ("tuple" : Str) := by rfl) (hst : ∀ env, starEach [e1] env = [(false, eval e1 env)] := by intro _; rfl) : XE Γ (.Call (.Name "tuple" p) [e1] [] pos) ρ (.tup ds) := fun σ Hf H Q E kk =>
  bltT call_tuple_of (Bl.tuple (pg := pg)) (by decide +kernel) (XA.pk h .nil hst) j hG (by decide) (by decide) (fun env => by rw [hst env] <;> rfl) (fun env => by rfl) E fun vs Hf' H' g r => by
    obtain ⟨v, fp, rfl, a, ws, rfl, h0, h1, h2⟩ := arsP r
    exact ⟨a, ws, rfl, .inl ⟨SqL.of h1, fun l hl => kk _ _ _ (g.trans (Gw.fresh g.ff g.tabs hl)) ⟨l, ws, rfl, SqT.of upd_same, h2.mono cm0 (Gw.fresh g.ff g.tabs (u := .tup ws) hl).gr⟩⟩⟩
theorem xe_tupleT {ds : List D} (h : XE Γ e1 ρ (.tup ds)) (j : Nat) (hG : G[j]? = some ("tuple" : Str) := by rfl) (hst : ∀ env, starEach [e1] env = [(false, eval e1 env)] := by intro _; rfl) : XE Γ (.Call (.Name "tuple" p) [e1] [] pos) ρ (.tup ds) := fun σ Hf H Q E kk =>
  bltT call_tuple_of (Bl.tuple (pg := pg)) (by decide +kernel) (XA.sh h .nil hst) j hG (by decide) (by decide) (fun env => by rw [hst env] <;> rfl) (fun env => by rfl) E fun vs Hf' H' g r => by
    obtain ⟨v, rfl, a, ws, rfl, h1, h2⟩ := ars1 r
    exact ⟨a, ws, rfl, .inr ⟨by rw [kE Γ]; exact sqT_mono g.ff h1, kk _ Hf' H' g ⟨a, ws, rfl, h1, h2⟩⟩⟩
omit [Bl pg]
theorem xe_lenScr {ns : List Int} (h : XE Γ e1 ρ (.scr ns)) (j : Nat) (hG : G[j]? = some ("len" : Str) := by rfl) (hst : ∀ env, starEach [e1] env = [(false, eval e1 env)] := by intro _; rfl) [Bl pg] : XE Γ (.Call (.Name "len" p) [e1] [] pos) ρ (.int ns.length) := fun σ Hf H Q E kk =>
  bltF call_len_seq (Bl.len (pg := pg)) PySem.boot_len (XA.sh h .nil hst) j hG (by decide) (by decide) (fun env => by rw [hst env] <;> rfl) (fun env => by rfl) E fun vs Hf' H' g r => by
    obtain ⟨v, rfl, a, rfl, h1⟩ := ars1 r
    exact ⟨a, _, rfl, .inl (by rw [kE Γ]; exact sqL_mono g.ff h1), kk _ Hf' H' g (by rw [List.length_map]; rfl)⟩
theorem newNone {Hf H Hf' H' : Hp} {l : Addr} (g : Gw pg Hf H Hf' H') (hl : H' l = none) : ∀ q ∈ [l], H q = none ∧ Hf' q = none := fun q hq => by
  have eq : q = l := by simpa using hq
  subst eq
  refine ⟨g.dom q hl, ?_⟩
  cases z : Hf' q with
  | none => rfl
  | some y => rw [g.ff q y z] at hl; cases hl
/-- an operand that is a list: shared, or looked at -/
def XL (Γ : Gm pg sc N G lv own) (e : Expr) (ρ : List Sl) (ds : List D) : Prop := ∀ σ Hf H Q, Env pg Γ.c own Hf H σ ρ → (∀ a vs Hf' H', Gw pg Hf H Hf' H' → H' a = some (.lst vs) → Rs pg Hf' ds vs → Q (.ref a) H') → RunE Γ.X e σ H Q
theorem XE.l {ds : List D} (h : XE Γ e ρ (.lst ds)) : XL Γ e ρ ds := fun σ Hf H Q E k => h σ Hf H Q E fun v Hf' H' g ⟨a, vs, h1, h2, h3⟩ => by
  subst h1
  exact k a vs Hf' H' g (g.ff _ _ h2) h3
theorem XP.l {ds : List D} (h : XP Γ e ρ (.lst ds)) : XL Γ e ρ ds := fun σ Hf H Q E k => h σ Hf H Q E fun v Hf' H' fp g ⟨a, vs, h1, h2, h3, h4⟩ _ => by
  subst h1
  exact k a vs Hf' H' g h3 h4
theorem XO.l {ds : List D} (h : XO Γ e ρ (.lst ds)) : XL Γ e ρ ds := fun σ Hf H Q E k => h σ Hf H Q E fun v Hf' H' fp g ⟨a, vs, h1, h2, h3, h4⟩ _ => by
  subst h1
  exact k a vs Hf' H' g h3 h4
/-- xs + ys -/
theorem xo_cat {ds es' : List D} (ha : XL Γ a ρ ds) (hb : XL Γ b ρ es') (hz : ds.length + es'.length ≤ 100000) : XO Γ (.BinOp a .Add b pos) ρ (.lst (ds ++ es')) := fun σ Hf H Q E k =>
  RunE.of (pe_op op_cat (runE _ a) (runE _ b)) (ha σ Hf H _ E fun l vs Hf1 H1 g1 h1 r1 => hb σ Hf1 H1 _ (E.grow g1) fun l2 us Hf2 H2 g2 h2 r2 =>
    ⟨l, l2, vs, us, rfl, rfl, g2.ns.lst h1, h2, by rw [r1.length, r2.length]; exact sz5 hz, fun p hp => k _ Hf2 _ [p] ((g1.trans g2).trans (Gw.alloc g2.ff g2.tabs hp)) ⟨p, _, rfl, rfl, upd_same, (g2.reps r1).append r2⟩ (newNone (g1.trans g2) hp)⟩)
/-- script[:n] -/
theorem xe_cut {ns : List Int} {n : Nat} {j : Nat} {q q2 : Pos} (ha : XE Γ a ρ (.scr ns)) : XE Γ (.Subscript a (.Slice none (some (.Constant (.int (n : Nat)) j q)) none q2) pos) ρ (.lst ((ns.take n).map D.int)) := fun σ Hf H Q E k =>
  RunE.of (pe_slice sl_list (runE _ a) po_none (po_some pe_int)) (ha σ Hf H _ E fun v Hf1 H1 g1 ⟨p, hp, h1⟩ => by
    subst hp
    refine ⟨_, rfl, p, _, rfl, by rw [kE Γ]; exact sqL_mono g1.ff h1, fun l hl => ?_⟩
    have ec : cutV (ns.map V.int) none (some (n : Int)) = (ns.take n).map V.int := by
      show ((ns.map V.int).drop 0).take (HT.sIx (ns.map V.int).length (ns.map V.int).length (some (n : Int)) - 0) = _
      rw [HT.sIx_nat, List.drop_zero, Nat.sub_zero, ← List.take_take, List.take_length, List.map_take]
    rw [ec]
    exact k _ _ _ (g1.trans (Gw.fresh g1.ff g1.tabs hl)) ⟨l, _, rfl, upd_same, reps_ints _⟩)
end
end Lk
set_option maxHeartbeats 4000000
namespace Lk
open PySem PySem.Spec PyProof.Rows L2
/-! ### list comprehensions -/
theorem relab_free {sc : Scope} : ∀ {names : List (Str × NameKind)} {x : Str}, names.lookup x = some .free →
    (names.map fun (n, k) => if (k == NameKind.free && sc.kind == .function && sc.names.lookup n == some .cell) then (n, NameKind.cell) else (n, k)).lookup x = some .cell ∨
    (names.map fun (n, k) => if (k == NameKind.free && sc.kind == .function && sc.names.lookup n == some .cell) then (n, NameKind.cell) else (n, k)).lookup x = some .free
  | [], _, h => by simp at h
  | (n, k₀) :: r, x, h => by
    have ih := @relab_free sc r x
    show List.lookup x ((if (k₀ == NameKind.free && sc.kind == .function && sc.names.lookup n == some .cell) = true then (n, NameKind.cell) else (n, k₀)) :: (r.map _)) = _ ∨ List.lookup x ((if (k₀ == NameKind.free && sc.kind == .function && sc.names.lookup n == some .cell) = true then (n, NameKind.cell) else (n, k₀)) :: (r.map _)) = _
    cases hx : x == n with
    | true =>
      simp only [List.lookup_cons, hx] at h
      cases h
      by_cases hc : (NameKind.free == NameKind.free && sc.kind == .function && sc.names.lookup n == some .cell) = true
      · rw [if_pos hc]
        simp only [List.lookup_cons, hx]
        first | exact .inl rfl | exact .inl trivial
      · rw [if_neg hc]
        simp only [List.lookup_cons, hx]
        first | exact .inr rfl | exact .inr trivial
    | false =>
      simp only [List.lookup_cons, hx] at h
      by_cases hc : (k₀ == NameKind.free && sc.kind == .function && sc.names.lookup n == some .cell) = true
      · rw [if_pos hc]
        simp only [List.lookup_cons, hx]
        exact ih h
      · rw [if_neg hc]
        simp only [List.lookup_cons, hx]
        exact ih h
theorem vis_rel {scope : Scope} {env : PySem.Env} {x : Str} (h : scope.names.lookup x = some .local ∨ scope.names.lookup x = some .cell ∨ scope.names.lookup x = some .free) : Vis (relabel scope env) x := by
  rcases h with h | h | h
  · exact .inl (lookup_relS_keep (sc := env.scope) (by decide) h)
  · exact .inr (.inl (lookup_relS_keep (sc := env.scope) (by decide) h))
  · exact .inr (relab_free (sc := env.scope) h)
/-- what is looked at of a comprehension's block: N the def's names, own the block's own with their slots, N' what may be read in it, G' the module's names in it -/
def lcB (N : List (Str × Bool)) (sc scope : Scope) (own : List (Str × Nat)) (N' : List (Str × Bool)) (G' : List Str) : Bool :=
  blkC (N.map Prod.fst) sc scope own && (decide (N'.map Prod.fst = N.map Prod.fst) && ((N'.all fun x => !x.2 || (decide (scope.names.lookup x.1 = some .local) || decide (scope.names.lookup x.1 = some .cell) || decide (scope.names.lookup x.1 = some .free))) &&
    (G'.all (fun x => decide (scope.names.lookup x = some .globalImplicit)) && own.all fun p => decide (scope.names.lookup p.1 = some .local))))
section
variable {pg : Pg} {sc : Scope} {N : List (Str × Bool)} {G : List Str} {lv : Nat} {own : List Nat}
theorem lcB_all {N : List (Str × Bool)} {scope : Scope} {ow : List (Str × Nat)} {N' : List (Str × Bool)} {G' : List Str} (h : lcB N sc scope ow N' G' = true) :
    blkC (N.map Prod.fst) sc scope ow = true ∧ N'.map Prod.fst = N.map Prod.fst ∧ (∀ (i : Nat) (x : Str), N'[i]? = some (x, true) → (N.map Prod.fst)[i]? = some x ∧ (scope.names.lookup x = some .local ∨ scope.names.lookup x = some .cell ∨ scope.names.lookup x = some .free)) ∧
    (∀ x ∈ G', scope.names.lookup x = some .globalImplicit) ∧ ∀ q ∈ ow, scope.names.lookup q.1 = some .local := by
  unfold lcB at h
  simp only [Bool.and_eq_true, decide_eq_true_eq, List.all_eq_true, Bool.or_eq_true, Bool.not_eq_true'] at h
  obtain ⟨h1, h2, h3, h4, h5⟩ := h
  refine ⟨h1, h2, fun i x e => ⟨?_, ?_⟩, h4, h5⟩
  · rw [← h2, List.getElem?_map, e]
    rfl
  · rcases h3 (x, true) (List.mem_of_getElem? e) with z | (z | z) | z
    · cases z
    · exact .inl z
    · exact .inr (.inl z)
    · exact .inr (.inr z)
/-- the place of a comprehension's block -/
def blkG (Γ : Gm pg sc N G lv own) (N' : List (Str × Bool)) (G' : List Str) {scope : Scope} {ow : List (Str × Nat)} (h : lcB N sc scope ow N' G' = true) (s : Shared) (H : Hp) (C : Addr) (cl : List (Str × Addr)) (fp : List Addr) : Gm pg (relabel scope Γ.X.env) N' G' lv own where
  X := Γ.X.blk s H scope (compEnvC scope cl C Γ.X.env) fp
  c := Γ.c
  hp := Γ.hp
  hsc := rfl
  nd := Γ.nd
  nn := Γ.nn.trans (lcB_all h).2.1.symm
  nl := (congrArg List.length (Γ.nn.trans (lcB_all h).2.1.symm)).trans (List.length_map ..)
  nc := Γ.nc.trans ((List.length_map ..).symm.trans ((congrArg List.length (lcB_all h).2.1.symm).trans (List.length_map ..)))
  vis := fun i x e => ⟨(congrArg (fun l : List Str => l[i]?) Γ.nn).trans ((lcB_all h).2.2.1 i x e).1, vis_rel ((lcB_all h).2.2.1 i x e).2⟩
  gl := fun x hx => lookup_relS_keep (sc := Γ.X.env.scope) (by decide) ((lcB_all h).2.2.2.1 x hx)
  calm := Γ.calm
  room := Γ.room
/-- no list is a table or a code object -/
theorem tabs_lst0 {T : List NdefX.NTab} {H : Hp} {l : Addr} {xs : List V} {u : HO} (t : NdefX.TabsN T H) (h : H l = some (.lst xs)) : NdefX.TabsN T (upd H l u) := fun p hp => by
  obtain ⟨ps, h1, h2, h3⟩ := t p hp
  refine ⟨ps, ?_, h2, fun pos cv hc => ?_⟩
  · rw [upd_ne (ne_of h1 h (fun z => nomatch z))]
    exact h1
  · obtain ⟨c, e1, e2⟩ := h3 pos cv hc
    refine ⟨c, e1, ?_⟩
    rw [upd_ne (ne_of e2 h (by unfold LamX.CodeO; exact fun z => nomatch z))]
    exact e2
theorem tabs_lst {pg : Pg} {Hf H : Hp} {l : Addr} {xs : List V} {u : HO} (t : Tb pg Hf H) (h : H l = some (.lst xs)) (hc : ∀ q, u ≠ LamX.CodeO l q := by intro _ h; unfold LamX.CodeO at h; cases h) : Tb pg Hf (upd H l u) := ⟨tabs_lst0 t.t h, t.nt, fun a q e => by
  by_cases z : a = l
  · subst z
    rw [upd_same] at e
    exact absurd (Option.some.inj e) (hc q)
  · rw [upd_ne z] at e
    exact t.co a q e⟩
theorem Env.wipe {c : Cf} {Hf H : Hp} {σ : L2.St} {ρ : List Sl} {v : Option V} {i : Nat} (E : Env pg c own Hf H σ ρ) (ho : i ∉ own) : Env pg c own Hf H (σ.set i v) (ρ.set i .no) := by
  have E' := E.drop i
  obtain ⟨F, h1, h2, h3⟩ := E'.sl
  refine ⟨E'.gr, E'.ff, E'.pres, E'.dom, E'.agr, E'.tabs, fun j hj => ?_, by rw [List.length_set]; exact E'.len, E'.ln, F, fun j s e => ?_, h2, h3⟩
  · obtain ⟨v', e1, e2⟩ := E.pin j hj
    exact ⟨v', e1, by rw [List.getElem?_set_ne (fun z => ho (by rw [z]; exact hj))]; exact e2⟩
  · by_cases q : i = j
    · subst q
      have r := h1 i s e
      by_cases hi : i < ρ.length
      · rw [List.getElem?_set_self hi] at e
        cases e
        exact r
      · rw [List.getElem?_eq_none (by rw [List.length_set]; omega)] at e
        cases e
    · rw [List.getElem?_set_ne q]
      exact h1 j s e
variable {Γ : Gm pg sc N G lv own} {ρ : List Sl} {a b e elt iter : Expr} {ifs : List Expr} {scope : Scope} {d : D} {pos p p' : Pos} {i k : Nat} {x : Str}
/-- a test in a comprehension: none, or one -/
def XTs (Γ : Gm pg sc N G lv own) (ifs : List Expr) (ρ : List Sl) (b : Bool) : Prop := (ifs = [] ∧ b = true) ∨ ∃ c, ifs = [c] ∧ XT Γ c ρ b
theorem XTs.nil : XTs Γ [] ρ true := .inl ⟨rfl, rfl⟩
theorem XTs.one {c : Bool} (h : XT Γ e ρ c) : XTs Γ [e] ρ c := .inr ⟨e, rfl, h⟩
def RunTs (X : Cx) (ifs : List Expr) (σ : L2.St) (H : Hp) (Q : Bool → Hp → Prop) : Prop := ∀ (pins : List (Addr × Obj)) (s : Shared), Inv X pins σ H s →
    wpAny (model X.prog X.w) X.A (forIn ifs true fun c r => if r = true then do let ok ← isTrue c X.env (eval c X.env); pure (ForInStep.yield ok) else pure (ForInStep.yield r)) (TP X pins σ Q) X.xe s
theorem runTs (X : Cx) (ifs : List Expr) : PTs X ifs (RunTs X ifs) := ⟨fun pins s σ H Q I h => h pins s I⟩
theorem XTs.run {c : Bool} (h : XTs Γ ifs ρ c) {σ : L2.St} {Hf H : Hp} {Q : Bool → Hp → Prop} (E : Env pg Γ.c own Hf H σ ρ) (k : ∀ Hf' H', Gw pg Hf H Hf' H' → Q c H') : RunTs Γ.X ifs σ H Q := by
  rcases h with ⟨e1, e2⟩ | ⟨e, e1, h⟩
  · subst e1 e2
    exact fun pins s I => (pts_nil (X := Γ.X)).run pins s σ H Q I (k Hf H E.self)
  · subst e1
    exact fun pins s I => (pts_one (runT Γ.X e)).run pins s σ H Q I (h σ Hf H Q E k)
end
section
variable {pg : Pg} {sc : Scope} {N : List (Str × Bool)} {G : List Str} {lv : Nat} {own : List Nat} {Γ : Gm pg sc N G lv own} {ρ : List Sl} {a b e elt iter : Expr} {ifs : List Expr} {scope : Scope} {d : D} {pos p p' : Pos} {k : Nat} {x : Str}
/-- readings of a block's test and element, wherever the block runs -/
def RunTB (X : Cx) (scope : Scope) (ifs : List Expr) : TT := fun σ H Q => ∀ s H0 C cl fp, RunTs (X.blk s H0 scope (compEnvC scope cl C X.env) fp) ifs σ H Q
def RunEB (X : Cx) (scope : Scope) (elt : Expr) : TE := fun σ H Q => ∀ s H0 C cl fp, RunE (X.blk s H0 scope (compEnvC scope cl C X.env) fp) elt σ H Q
/-- the end of a turn of a comprehension -/
theorem lc_turn {N' : List (Str × Bool)} {G' : List Str} {ow : List (Str × Nat)} (hb : lcB N sc scope ow N' G' = true) {σ : L2.St} {Hf1 H1 Hf' H' : Hp} {Dl : Addr} {acc : List V} {ys : List D} {c : Bool} {dy : D} {P : Hp → Prop} (hD : H1 Dl = none) (g : Gw pg Hf1 H1 Hf' H')
    (ha : H' Dl = some (.lst acc)) (hn : Hf' Dl = none) (hr : Rs pg Hf' ys acc) (hz : ys.length < 100000) (E : Env pg Γ.c own Hf' H' σ ρ) (ht : ∀ (sc' : Scope) (Γ' : Gm pg sc' N' G' lv own), XTs Γ' ifs ρ c) (he : c = true → ∀ (sc' : Scope) (Γ' : Gm pg sc' N' G' lv own), XE Γ' elt ρ dy)
    (kn : c = false → ∀ Hf2 H2, Gw pg Hf1 H1 Hf2 H2 → H2 Dl = some (.lst acc) → Hf2 Dl = none → Rs pg Hf2 ys acc → P H2)
    (ky : c = true → ∀ Hf2 H2 acc', Gw pg Hf1 H1 Hf2 H2 → H2 Dl = some (.lst acc') → Hf2 Dl = none → Rs pg Hf2 (ys ++ [dy]) acc' → P H2) :
    RunTB Γ.X scope ifs σ H' fun b H3 => if b = true then RunEB Γ.X scope elt σ H3 fun y H4 => ∃ acc, H4 Dl = some (.lst acc) ∧ acc.length < sizeLine ∧ P (upd H4 Dl (.lst (acc ++ [y]))) else P H3 := by
  intro s H0 C cl fp
  refine (ht _ (blkG Γ N' G' hb s H0 C cl fp)).run E fun Hf2 H2 g2 => ?_
  have a2 := g2.ns.lst ha
  have n2 : Hf2 Dl = none := (g2.agr Dl (by rw [ha]; exact fun z => nomatch z)).trans hn
  cases c with
  | false => exact iteF (kn rfl Hf2 H2 (g.trans g2) a2 n2 (g2.reps hr))
  | true =>
    refine iteT fun s' H0' C' cl' fp' => he rfl _ (blkG Γ N' G' hb s' H0' C' cl' fp') σ Hf2 H2 _ (E.grow g2) fun y Hf3 H3 g3 r3 => ?_
    have a3 := g3.ns.lst a2
    have n3 : Hf3 Dl = none := (g3.agr Dl (by rw [a2]; exact fun z => nomatch z)).trans n2
    have G := (g.trans g2).trans g3
    refine ⟨acc, a3, Nat.lt_of_lt_of_le (by rw [hr.length]; exact hz) (by rw [sizeLine_eq]; omega), ky rfl Hf3 _ (acc ++ [y]) ⟨G.gr, fun q u hq => ?_, fun q u hq ht => ?_, fun q hq => G.dom q (NdefX.upd_none hq), G.agr, tabs_lst G.tabs a3⟩ upd_same n3 (((g2.trans g3).reps hr).append (Reps.one r3))⟩
    · rw [upd_ne fun z => by rw [z, n3] at hq; cases hq]
      exact G.ff q u hq
    · rw [upd_ne fun z => by rw [z, hD] at hq; cases hq]
      exact G.ns q u hq ht
theorem wipe1 (σ : L2.St) (i : Nat) : wipe σ [i] = σ.set i none := rfl
theorem filt_take {α : Type} {zs : List α} {t : α → Bool} {g : α → D} {k : Nat} {z : α} (h : zs[k]? = some z) : ((zs.take (k + 1)).filter t).map g = ((zs.take k).filter t).map g ++ (if t z then [g z] else []) := by
  rw [List.take_succ, h]
  show ((zs.take k ++ [z]).filter t).map g = _
  rw [List.filter_append, List.map_append]
  congr 1
  by_cases q : t z = true
  · rw [if_pos q, List.filter_cons, if_pos q]
    rfl
  · rw [if_neg q, List.filter_cons, if_neg q]
    rfl
/-- [elt for x in xs (if test)], xs shared or looked at; over the items z of zs: f z the item, t z the test, g z what comes -/
theorem xo_lc {α : Type} {zs : List α} {f g : α → D} {t : α → Bool} (i : Nat) (N' : List (Str × Bool)) (G' : List Str) (hb : lcB N sc scope [(x, i)] N' G' = true) (h : XL Γ iter ρ (zs.map f)) (hz : zs.length < 100000)
    (ht : ∀ (sc' : Scope) (Γ' : Gm pg sc' N' G' lv own) z, z ∈ zs → XTs Γ' ifs (ρ.set i (.sh (f z))) (t z)) (he : ∀ (sc' : Scope) (Γ' : Gm pg sc' N' G' lv own) z, z ∈ zs → t z = true → XE Γ' elt (ρ.set i (.sh (f z))) (g z)) (ho : i ∉ own := by decide)
    (hfs : ∀ env y, foldedSetIterable iter env y = pure y := by intro _ _; rfl) :
    XO Γ (.ListComp elt [⟨.Name x p', iter, ifs, 0⟩] scope pos) ρ (.lst ((zs.filter t).map g)) := fun σ Hf H Q E kk => by
  obtain ⟨b1, b2, b3, b4, b5⟩ := lcB_all hb
  have b5 : scope.names.lookup x = some .local := b5 (x, i) List.mem_cons_self
  have ok : BlkOk Γ.X.N Γ.X.env.scope scope [(x, i)] := by
    rw [Γ.nn, Γ.hsc]
    exact blkOk_by b1
  have hx : Γ.X.N[i]? = some x := ok.ix (x, i) List.mem_cons_self
  have hi : i < ρ.length := by
    rw [E.ln, Γ.nc, ← Γ.nl]
    exact (List.getElem?_eq_some_iff.mp hx).1
  have tgt : ∀ (s : Shared) (H : Hp) (C : Addr) (cl : List (Str × Addr)) (fp : List Addr), PG (Γ.X.blk s H scope (compEnvC scope cl C Γ.X.env) fp) (.Name x p') (gName i) := fun s H C cl fp =>
    have lk : (relabel scope Γ.X.env).names.lookup x = some .local := lookup_relS_keep (sc := Γ.X.env.scope) (by decide) b5
    pg_name (X := Γ.X.blk s H scope (compEnvC scope cl C Γ.X.env) fp) Γ.nd hx (.inl lk) (.inr lk)
  refine RunE.of (pe_lc (own := [(x, i)]) (g := gName i) (tt := RunTB Γ.X scope ifs) (te := RunEB Γ.X scope elt) Γ.calm Γ.nd (pi_list (runE _ iter)) ok tgt (fun s H C cl fp => ⟨fun pins s' σ H' Q I hq => hq s H C cl fp pins s' I⟩) (fun s H C cl fp => ⟨fun pins s' σ H' Q I hq => hq s H C cl fp pins s' I⟩) (hfs _)) ?_
  refine h σ Hf H _ E fun a vs Hf1 H1 g1 hl hr => ?_
  refine ⟨a, rfl, ⟨vs, SqL.of hl⟩, fun Dl hD => ?_⟩
  have hf : Hf1 Dl = none := (newNone g1 hD Dl List.mem_cons_self).2
  refine lc_list (K := Γ.X.K) (a := a) (xs := vs) (g := gName i) (tt := RunTB Γ.X scope ifs) (te := RunEB Γ.X scope elt) (vs := [i]) (fun k H' => ∃ Hf' acc, Gw pg Hf1 H1 Hf' H' ∧ H' Dl = some (.lst acc) ∧ Hf' Dl = none ∧ Rs pg Hf' (((zs.take k).filter t).map g) acc) ?_ ?_ ?_ ?_
  · exact ⟨Hf1, [], Gw.alloc g1.ff g1.tabs hD, upd_same, hf, rfl⟩
  · rintro k H' _ ⟨Hf', acc, G, _⟩
    exact SqL.of (G.ns.lst hl)
  · rintro k y H' hy ⟨Hf', acc, G, ha, hn, hra⟩
    obtain ⟨dz, hz1, hz2⟩ := hr.got hy
    rw [List.getElem?_map] at hz1
    cases ez : zs[k]? with
    | none => rw [ez] at hz1; cases hz1
    | some z =>
      rw [ez] at hz1
      have hz1 : f z = dz := Option.some.inj hz1
      subst hz1
      have hm : z ∈ zs := List.mem_of_getElem? ez
      have E2 : Env pg Γ.c own Hf' H' (σ.set i (some y)) (ρ.set i (.sh (f z))) := (E.grow (g1.trans G)).set hi ho (G.rep hz2)
      have es : (wipe σ [i]).set i (some y) = σ.set i (some y) := by rw [wipe1, List.set_set]
      show wipe ((wipe σ [i]).set i (some y)) [i] = wipe σ [i] ∧ RunTB Γ.X scope ifs ((wipe σ [i]).set i (some y)) H' _
      rw [es]
      refine ⟨by rw [wipe1, wipe1, List.set_set], ?_⟩
      have hlen : (((zs.take k).filter t).map g).length < 100000 := by
        rw [List.length_map]
        have := List.length_filter_le t (zs.take k)
        rw [List.length_take] at this
        omega
      refine lc_turn hb hD G ha hn hra hlen E2 (fun sc' Γ' => ht sc' Γ' z hm) (fun q sc' Γ' => he sc' Γ' z hm q) (fun q Hf2 H2 G2 a2 n2 r2 => ⟨Hf2, acc, G2, a2, n2, ?_⟩) (fun q Hf2 H2 acc' G2 a2 n2 r2 => ⟨Hf2, acc', G2, a2, n2, ?_⟩)
      · rw [filt_take ez, q]
        show Rs pg Hf2 (_ ++ []) acc
        rw [List.append_nil]
        exact r2
      · rw [filt_take ez, q]
        exact r2
  · rintro H' ⟨Hf', acc, G, ha, hn, hra⟩
    refine kk _ Hf' H' [Dl] (g1.trans G) ⟨Dl, acc, rfl, rfl, ha, ?_⟩ fun q hq => ?_
    · rw [hr.length, List.length_map, List.take_length] at hra
      exact hra
    · have eq : q = Dl := by simpa using hq
      subst eq
      exact ⟨g1.dom q hD, hn⟩
end
end Lk
set_option maxHeartbeats 4000000
namespace Lk
open PySem PySem.Spec PyProof.Rows L2
section
variable {pg : Pg} {c : Cf} {own : List Nat} {Hf H : Hp} {σ : L2.St} {ρ : List Sl} {i : Nat}
/-- a list at a name is written -/
theorem Env.lset {xs : List D} (E : Env pg c own Hf H σ ρ) (h : ρ[i]? = some (.ow (.lst xs))) :
    ∃ p vs, σ[i]? = some (some (.ref p)) ∧ H p = some (.lst vs) ∧ Rs pg Hf xs vs ∧ ∀ xs' vs', Rs pg Hf xs' vs' → Env pg c own Hf (upd H p (.lst vs')) σ (ρ.set i (.ow (.lst xs'))) := by
  obtain ⟨F, h1, _, _⟩ := E.sl
  obtain ⟨v, e, ⟨p, vs, rfl, e2, e3, e4⟩, ok⟩ := h1 i _ h
  refine ⟨p, vs, e, e3, e4, fun xs' vs' r => ?_⟩
  obtain ⟨v', fp, e', q', hn, k⟩ := E.mut (o' := .lst xs') (Hf' := Hf) (H' := upd H p (.lst vs')) h
  rw [e] at e'
  cases e'
  obtain ⟨p', vs2, z1, z2, z3, z4⟩ := q'
  cases z1
  refine k [p] ⟨p, vs', rfl, rfl, upd_same, r⟩ (Same.refl _) (fun a u hu => ?_) (fun a u hu hm _ => ?_) (fun a hu => NdefX.upd_none hu) (fun _ _ => rfl) (tabs_lst E.tabs e3) (fun a ha => ?_)
  · have : a ≠ p := fun z => by
      rw [z, hn p (by rw [z2]; exact List.mem_cons_self)] at hu
      cases hu
    rw [upd_ne this]
    exact E.ff a u hu
  · rw [upd_ne fun z => hm (by rw [z2, z]; exact List.mem_cons_self)]
    exact hu
  · have ea : a = p := by simpa using ha
    rw [ea]
    exact ⟨hn p (by rw [z2]; exact List.mem_cons_self), .inr (by rw [z2]; exact List.mem_cons_self)⟩
theorem tabs_ins0 {T : List NdefX.NTab} {H : Hp} {l C dx : Addr} {fs : List (Str × V)} {u : HO} (t : NdefX.TabsN T H) (h : H l = some (.ins C dx fs)) : NdefX.TabsN T (upd H l u) := fun p hp => by
  obtain ⟨ps, h1, h2, h3⟩ := t p hp
  refine ⟨ps, ?_, h2, fun pos cv hc => ?_⟩
  · rw [upd_ne (ne_of h1 h (fun z => nomatch z))]
    exact h1
  · obtain ⟨c, e1, e2⟩ := h3 pos cv hc
    refine ⟨c, e1, ?_⟩
    rw [upd_ne (ne_of e2 h (by unfold LamX.CodeO; exact fun z => nomatch z))]
    exact e2
theorem tabs_ins {pg : Pg} {Hf H : Hp} {l C dx : Addr} {fs : List (Str × V)} {u : HO} (t : Tb pg Hf H) (h : H l = some (.ins C dx fs)) (hc : ∀ q, u ≠ LamX.CodeO l q := by intro _ h; unfold LamX.CodeO at h; cases h) : Tb pg Hf (upd H l u) := ⟨tabs_ins0 t.t h, t.nt, fun a q e => by
  by_cases z : a = l
  · subst z
    rw [upd_same] at e
    exact absurd (Option.some.inj e) (hc q)
  · rw [upd_ne z] at e
    exact t.co a q e⟩
/-- an attribute of an instance at a name is written -/
theorem Env.iset {C : Addr} {fs : List (Str × OT)} {o : OT} {v : V} {gp : List Addr} {Hf' H' : Hp} (f : Str) (E : Env pg c own Hf H σ ρ) (h : ρ[i]? = some (.ow (.ins C fs))) (g : Gw pg Hf H Hf' H') (hv : Own pg Hf' H' o v gp) (hg : ∀ a ∈ gp, H a = none ∧ Hf' a = none) :
    ∃ b dx ws, σ[i]? = some (some (.ref b)) ∧ H' b = some (.ins C dx ws) ∧ ws.length = fs.length ∧ Env pg c own Hf' (upd H' b (.ins C dx (putF f v ws))) σ (ρ.set i (.ow (.ins C (putO f o fs)))) := by
  obtain ⟨F, h1, _, _⟩ := E.sl
  obtain ⟨v0, e, ⟨b, dx, ws, r, rfl, e1, e2, e3, e4⟩, ok⟩ := h1 i _ h
  have hb' := g.ns.ins e2
  refine ⟨b, dx, ws, e, hb', e3.len, ?_⟩
  obtain ⟨v', fp, e', q', hn, k⟩ := E.mut (o' := .ins C (putO f o fs)) (Hf' := Hf') (H' := upd H' b (.ins C dx (putF f v ws))) h
  rw [e] at e'
  cases e'
  obtain ⟨b', dx', ws', r', z1, z2, z3, z4, z5⟩ := q'
  cases z1
  rw [e2] at z3
  cases z3
  have z4' : OwnF pg cl0 Hf' H' fs ws r' := z4.mono cm0 g.gr fun a _ u hu ht => g.ns a u hu ht
  have there : ∀ a ∈ r', H a ≠ none := fun a ha z => by
    obtain ⟨u, hu, _⟩ := z4.there a ha
    rw [z] at hu; cases hu
  obtain ⟨fp', k1, k2⟩ := z4'.put (f := f) hv fun a ha hb => there a hb (hg a ha).1
  have nb : ∀ a ∈ fp', a ≠ b := fun a ha z => by
    rcases k2 a ha with q | q
    · exact z5 (by rw [← z]; exact q)
    · rw [z] at q
      rw [(hg b q).1] at e2
      cases e2
  refine k (b :: fp') ⟨b, dx, _, fp', rfl, rfl, upd_same, k1.mono cm0 (Same.refl _) fun a ha u hu _ => ?_, fun z => nb b z rfl⟩ g.gr (fun a u hu => ?_) (fun a u hu hm ht => ?_) (fun a hu => g.dom a (NdefX.upd_none hu)) g.agr (tabs_ins g.tabs hb') (fun a ha => ?_)
  · rw [upd_ne (nb a ha)]
    exact hu
  · have : a ≠ b := fun z => by
      rw [z, g.agr b (by rw [e2]; exact fun y => nomatch y), hn b (by rw [z2]; exact List.mem_cons_self)] at hu
      cases hu
    rw [upd_ne this]
    exact g.ff a u hu
  · rw [upd_ne fun z => hm (by rw [z2, z]; exact List.mem_cons_self)]
    exact g.ns a u hu ht
  · rcases List.mem_cons.mp ha with z | z
    · rw [z]
      exact ⟨(g.agr b (by rw [e2]; exact fun y => nomatch y)).trans (hn b (by rw [z2]; exact List.mem_cons_self)), .inr (by rw [z2]; exact List.mem_cons_self)⟩
    · rcases k2 a z with q | q
      · exact ⟨(g.agr a (there a q)).trans (hn a (by rw [z2]; exact List.mem_cons_of_mem _ q)), .inr (by rw [z2]; exact List.mem_cons_of_mem _ q)⟩
      · exact ⟨(hg a q).2, .inl (hg a q).1⟩
/-- a list that is an attribute of an instance at a name is written -/
theorem Env.ilset {C : Addr} {fs : List (Str × OT)} {f : Str} {xs : List D} (E : Env pg c own Hf H σ ρ) (h : ρ[i]? = some (.ow (.ins C fs))) (hl : fs.lookup f = some (.lst xs)) :
    ∃ b dx ws p vs, σ[i]? = some (some (.ref b)) ∧ H b = some (.ins C dx ws) ∧ ws.lookup f = some (.ref p) ∧ H p = some (.lst vs) ∧ Rs pg Hf xs vs ∧
      ∀ xs' vs', Rs pg Hf xs' vs' → Env pg c own Hf (upd H p (.lst vs')) σ (ρ.set i (.ow (.ins C (putO f (.lst xs') fs)))) := by
  obtain ⟨F, h1, _, _⟩ := E.sl
  obtain ⟨v0, e, ⟨b, dx, ws, r, rfl, e1, e2, e3, e4⟩, ok⟩ := h1 i _ h
  obtain ⟨v, g1, l1, ⟨p, vs, rfl, l2, l3, l4⟩, l5, _⟩ := OwnF.within (o' := .lst xs) (H' := H) cm0 e3 hl
  refine ⟨b, dx, ws, p, vs, e, e2, l1, l3, l4, fun xs' vs' rr => ?_⟩
  obtain ⟨v', fp, e', q', hn, k⟩ := E.mut (o' := .ins C (putO f (.lst xs') fs)) (Hf' := Hf) (H' := upd H p (.lst vs')) h
  rw [e] at e'
  cases e'
  obtain ⟨b', dx', ws', r', z1, z2, z3, z4, z5⟩ := q'
  cases z1
  rw [e2] at z3
  cases z3
  obtain ⟨v2, g2, m1, ⟨p2, vs2, m2, m3, m4, m5⟩, m6, m7⟩ := OwnF.within (o' := .lst xs') (H' := upd H p (.lst vs')) cm0 z4 hl
  rw [l1] at m1
  cases m1
  cases m2
  have hp : p ∈ r' := m6 p (by rw [m3]; exact List.mem_cons_self)
  have hpb : p ≠ b := fun z => z5 (by rw [← z]; exact hp)
  have fin := m7 ⟨p, vs', rfl, m3, upd_same, rr⟩ fun a ha u hu _ => by
    rw [upd_ne fun z => ha (by rw [z, m3]; exact List.mem_cons_self)]
    exact hu
  refine k (b :: r') ⟨b, dx, ws, r', rfl, rfl, by rw [upd_ne hpb.symm]; exact e2, fin, z5⟩ (Same.refl _) (fun a u hu => ?_) (fun a u hu hm ht => ?_) (fun a hu => NdefX.upd_none hu) (fun _ _ => rfl) (tabs_lst E.tabs l3) (fun a ha => ⟨hn a (by rw [z2]; exact ha), .inr (by rw [z2]; exact ha)⟩)
  · have : a ≠ p := fun z => by
      rw [z, hn p (by rw [z2]; exact List.mem_cons_of_mem _ hp)] at hu
      cases hu
    rw [upd_ne this]
    exact E.ff a u hu
  · rw [upd_ne fun z => hm (by rw [z2, z]; exact List.mem_cons_of_mem _ hp)]
    exact hu
end
section
variable {pg : Pg} {sc : Scope} {N : List (Str × Bool)} {G : List Str} {lv : Nat} {own : List Nat} {Γ : Gf pg sc N G lv own} {ρ : List Sl} {a b e : Expr} {es : List Expr} {d : D} {o : OT} {pos p' p1 p2 p3 apos cpos : Pos} {x y z : Str} {De : De} {st : Stmt} {sts body orelse : List Stmt}
/-- x.append(e) -/
theorem xs_append {xs : List D} (i : Nat) (hx : ρ[i]? = some (.ow (.lst xs))) (h : XE Γ.toGm e ρ d) (k : De.nx (ρ.set i (.ow (.lst (xs ++ [d]))))) (hz : xs.length < 100000) (hN : N[i]? = some (x, true) := by rfl) (hd : (x == ("__debug__" : Str)) = false := by decide) (hcd : (x == ("__classdict__" : Str)) = false := by decide)
    (hs : ∀ env, swapsWith (.Call (.Attribute (.Name x p1) "append" apos) [e] [] cpos) none pos.line env = pure false := by intro _; rfl) (hbase : ∀ env, attributeBase (.Name x p1) "append" env (eval (.Name x p1) env) = eval (.Name x p1) env := by intro _; rfl)
    (hfew : ∀ env, ((backTo cpos (starEach [e] env)).all (fun x => !x.1) && (backToKw cpos (keywordEach [] env)).all (fun x => x.1.isSome) && decide ([e].length + ([] : List Keyword).length + (if ([] : List Keyword).isEmpty then 0 else 1) < 30)) = true := by intro _; rfl)
    (hline : (apos.endLine == cpos.line) = true := by rfl) (hst : ∀ env, starEach [e] env = [(false, eval e env)] := by intro _; rfl) : XS Γ (.Expr (.Call (.Attribute (.Name x p1) "append" apos) [e] [] cpos) pos) ρ De := fun σ Hf H D E S => by
  obtain ⟨n, vi⟩ := Γ.vis i x hN
  refine RunS.of (ps_expr (pe_bm PySem.F.plainAttrs_list PySem.F.slot_list_append PySem.F.type_list_append mt_append (pe_var n vi hd hcd) (pa_cons (runE _ e) pa_nil (by rw [hst] <;> rfl)) (hbase _) (hfew _) hline (by rw [hst] <;> rfl) (by rfl)) (hs _)) ?_
  obtain ⟨q, vs, e1, e2, _, _⟩ := E.lset hx
  refine ⟨_, e1, .inl ⟨rfl, vs, SqL.of e2⟩, ?_⟩
  refine h σ Hf H _ E fun v Hf' H' g r => ?_
  obtain ⟨q', vs', e1', e2', e3', e4'⟩ := (E.grow g).lset hx
  rw [e1] at e1'
  cases e1'
  exact ⟨q, vs', v, rfl, rfl, e2', by rw [e3'.length]; exact Nat.lt_of_lt_of_le hz (by rw [sizeLine_eq]; omega), S.nx _ Hf' _ _ (e4' _ _ (e3'.append (Reps.one r))) g.gr k⟩
/-- x.f.append(e) -/
theorem xs_appendF {C : Addr} {fs : List (Str × OT)} {f : Str} {xs : List D} (i : Nat) (hx : ρ[i]? = some (.ow (.ins C fs))) (hl : fs.lookup f = some (.lst xs)) (F : Fld pg.K C f) (h : XE Γ.toGm e ρ d) (k : De.nx (ρ.set i (.ow (.ins C (putO f (.lst (xs ++ [d])) fs))))) (hz : xs.length < 100000)
    (hN : N[i]? = some (x, true) := by rfl) (hd : (x == ("__debug__" : Str)) = false := by decide) (hcd : (x == ("__classdict__" : Str)) = false := by decide)
    (hs : ∀ env, swapsWith (.Call (.Attribute (.Attribute (.Name x p1) f p2) "append" apos) [e] [] cpos) none pos.line env = pure false := by intro _; rfl) (hbase : ∀ env, attributeBase (.Attribute (.Name x p1) f p2) "append" env (eval (.Attribute (.Name x p1) f p2) env) = eval (.Attribute (.Name x p1) f p2) env := by intro _; rfl)
    (hbase2 : ∀ env, attributeBase (.Name x p1) f env (eval (.Name x p1) env) = eval (.Name x p1) env := by intro _; rfl)
    (hfew : ∀ env, ((backTo cpos (starEach [e] env)).all (fun x => !x.1) && (backToKw cpos (keywordEach [] env)).all (fun x => x.1.isSome) && decide ([e].length + ([] : List Keyword).length + (if ([] : List Keyword).isEmpty then 0 else 1) < 30)) = true := by intro _; rfl)
    (hline : (apos.endLine == cpos.line) = true := by rfl) (hst : ∀ env, starEach [e] env = [(false, eval e env)] := by intro _; rfl) : XS Γ (.Expr (.Call (.Attribute (.Attribute (.Name x p1) f p2) "append" apos) [e] [] cpos) pos) ρ De := fun σ Hf H D E S => by
  obtain ⟨n, vi⟩ := Γ.vis i x hN
  refine RunS.of (ps_expr (pe_bm PySem.F.plainAttrs_list PySem.F.slot_list_append PySem.F.type_list_append mt_append (pe_fld (pe_var n vi hd hcd) (hbase2 _)) (pa_cons (runE _ e) pa_nil (by rw [hst] <;> rfl)) (hbase _) (hfew _) hline (by rw [hst] <;> rfl) (by rfl)) (hs _)) ?_
  obtain ⟨b, dx, ws, q, vs, e1, e2, e3, e4, _, _⟩ := E.ilset hx hl
  refine ⟨_, e1, b, C, dx, ws, _, rfl, e2, by rw [kE Γ.toGm]; exact F.cl, by rw [kE Γ.toGm]; exact F.no, e3, .inl ⟨rfl, vs, SqL.of e4⟩, ?_⟩
  refine h σ Hf H _ E fun v Hf' H' g r => ?_
  obtain ⟨b', dx', ws', q', vs', e1', e2', e3', e4', e5', e6'⟩ := (E.grow g).ilset hx hl
  rw [e1] at e1'
  cases e1'
  rw [g.ns.ins e2] at e2'
  cases e2'
  rw [e3] at e3'
  cases e3'
  exact ⟨q, vs', v, rfl, rfl, e4', by rw [e5'.length]; exact Nat.lt_of_lt_of_le hz (by rw [sizeLine_eq]; omega), S.nx _ Hf' _ _ (e6' _ _ (e5'.append (Reps.one r))) g.gr k⟩
/-- x.reverse() -/
theorem xs_reverse {xs : List D} (i : Nat) (hx : ρ[i]? = some (.ow (.lst xs))) (k : De.nx (ρ.set i (.ow (.lst xs.reverse)))) (hN : N[i]? = some (x, true) := by rfl) (hd : (x == ("__debug__" : Str)) = false := by decide) (hcd : (x == ("__classdict__" : Str)) = false := by decide)
    (hs : ∀ env, swapsWith (.Call (.Attribute (.Name x p1) "reverse" apos) [] [] cpos) none pos.line env = pure false := by intro _; rfl) (hbase : ∀ env, attributeBase (.Name x p1) "reverse" env (eval (.Name x p1) env) = eval (.Name x p1) env := by intro _; rfl)
    (hline : (apos.endLine == cpos.line) = true := by rfl) : XS Γ (.Expr (.Call (.Attribute (.Name x p1) "reverse" apos) [] [] cpos) pos) ρ De := fun σ Hf H D E S => by
  obtain ⟨n, vi⟩ := Γ.vis i x hN
  refine RunS.of (ps_expr (pe_bm0 PySem.F.plainAttrs_list PySem.F.slot_list_reverse PySem.F.type_list_reverse mt_reverse (pe_var n vi hd hcd) (hbase _) hline) (hs _)) ?_
  obtain ⟨q, vs, e1, e2, e3, e4⟩ := E.lset hx
  exact ⟨_, e1, .inl ⟨rfl, vs, SqL.of e2⟩, q, vs, rfl, rfl, e2, S.nx _ Hf _ _ (e4 _ _ e3.reverse) (Same.refl _) k⟩
/-- x[e'] = e -/
theorem xs_setitem {xs : List D} {n : Int} {j : Nat} (i : Nat) (hx : ρ[i]? = some (.ow (.lst xs))) (h : XE Γ.toGm e ρ d) (hi : XE Γ.toGm a ρ (.int n)) (hn : n = j) (hj : j < xs.length) (k : De.nx (ρ.set i (.ow (.lst (xs.set j d))))) (hN : N[i]? = some (x, true) := by rfl)
    (hd : (x == ("__debug__" : Str)) = false := by decide) (hcd : (x == ("__classdict__" : Str)) = false := by decide)
    (hs : ∀ env, swapsWithSole [.Subscript (.Name x p1) a p2] e pos.line env = pure false := by intro _; rfl) (hw : ∀ env, swappedStores [.Subscript (.Name x p1) a p2] e env = pure none := by intro _; rfl)
    (h1 : ∀ env, (assignEach [.Subscript (.Name x p1) a p2] env).map (·.2) = [assign (.Subscript (.Name x p1) a p2) env] := by intro _; rfl)
    (ha : ∀ env v, assign (.Subscript (.Name x p1) a p2) env v = (do
      let ov ← holding [v] (eval (.Name x p1) env)
      let iv ← holding [v, ov] (eval a env)
      standAt p2
      holding [v, ov, iv] (setItem ov iv v)
      release [v, ov, iv] []) := by intro _ _; rfl) : XS Γ (.Assign [.Subscript (.Name x p1) a p2] e pos) ρ De := fun σ Hf H D E S => by
  obtain ⟨nn, vi⟩ := Γ.vis i x hN
  refine RunS.of (ps_asg (runE _ e) (pg_sub (pe_var nn vi hd hcd) (runE _ a) set_list (ha _)) (hs _) (hw _) (h1 _)) ?_
  refine h σ Hf H _ E fun v Hf' H' g r => ?_
  obtain ⟨q, vs, e1, _, _, _⟩ := (E.grow g).lset hx
  refine ⟨_, e1, hi σ Hf' H' _ (E.grow g) fun u Hf2 H2 g2 r2 => ?_⟩
  have r2 : u = V.int n := r2
  subst r2
  obtain ⟨q', vs', e1', e2', e3', e4'⟩ := (E.grow (g.trans g2)).lset hx
  rw [e1] at e1'
  cases e1'
  refine ⟨q, vs', n, j, rfl, rfl, e2', ?_, S.nx _ Hf2 _ _ (e4' _ _ (e3'.set j (g2.rep r))) (g.trans g2).gr k⟩
  subst hn
  unfold ixN
  rw [if_pos (by omega), if_pos (by rw [e3'.length]; omega), Int.toNat_natCast]
/-- x.f = e -/
theorem xs_fld {C : Addr} {fs : List (Str × OT)} {f : Str} (i : Nat) (hx : ρ[i]? = some (.ow (.ins C fs))) (F : Fld pg.K C f) (h : XE Γ.toGm e ρ d) (hz : fs.length < 100) (k : De.nx (ρ.set i (.ow (.ins C (putO f (.sh d) fs))))) (hN : N[i]? = some (x, true) := by rfl)
    (hd : (x == ("__debug__" : Str)) = false := by decide) (hcd : (x == ("__classdict__" : Str)) = false := by decide) (hs : ∀ env, swapsWith e (some (.Attribute (.Name x p1) f p2)) pos.line env = pure false := by intro _; rfl) :
    XS Γ (.Assign [.Attribute (.Name x p1) f p2] e pos) ρ De := fun σ Hf H D E S => by
  obtain ⟨nn, vi⟩ := Γ.vis i x hN
  refine RunS.of (ps_fld (pe_var nn vi hd hcd) (runE _ e) (hs _)) ?_
  refine h σ Hf H _ E fun v Hf' H' g r => ?_
  obtain ⟨b, dx, ws, e1, e2, e3, e4⟩ := E.iset f hx g (o := .sh d) (v := v) (gp := []) ⟨rfl, r⟩ fun a ha => nomatch ha
  exact ⟨_, e1, b, C, dx, ws, rfl, e2, by rw [kE Γ.toGm]; exact F.cl, by rw [kE Γ.toGm]; exact F.no, by rw [e3]; omega, S.nx _ Hf' _ _ e4 g.gr k⟩
theorem xs_fldO {C : Addr} {fs : List (Str × OT)} {f : Str} (i : Nat) (hx : ρ[i]? = some (.ow (.ins C fs))) (F : Fld pg.K C f) (h : XO Γ.toGm e ρ o) (hz : fs.length < 100) (k : De.nx (ρ.set i (.ow (.ins C (putO f o fs))))) (hN : N[i]? = some (x, true) := by rfl)
    (hd : (x == ("__debug__" : Str)) = false := by decide) (hcd : (x == ("__classdict__" : Str)) = false := by decide) (hs : ∀ env, swapsWith e (some (.Attribute (.Name x p1) f p2)) pos.line env = pure false := by intro _; rfl) :
    XS Γ (.Assign [.Attribute (.Name x p1) f p2] e pos) ρ De := fun σ Hf H D E S => by
  obtain ⟨nn, vi⟩ := Γ.vis i x hN
  refine RunS.of (ps_fld (pe_var nn vi hd hcd) (runE _ e) (hs _)) ?_
  refine h σ Hf H _ E fun v Hf' H' fp g r nf => ?_
  obtain ⟨b, dx, ws, e1, e2, e3, e4⟩ := E.iset f hx g r nf
  exact ⟨_, e1, b, C, dx, ws, rfl, e2, by rw [kE Γ.toGm]; exact F.cl, by rw [kE Γ.toGm]; exact F.no, by rw [e3]; omega, S.nx _ Hf' _ _ e4 g.gr k⟩
/-- an item of a list at a name -/
theorem xe_ixO {xs : List D} {n : Int} {j : Nat} (i : Nat) (hx : ρ[i]? = some (.ow (.lst xs))) (hb : XE Γ.toGm b ρ (.int n)) (hn : n = j) (hj : xs[j]? = some d) (hN : N[i]? = some (x, true) := by rfl) (hd : (x == ("__debug__" : Str)) = false := by decide) (hcd : (x == ("__classdict__" : Str)) = false := by decide) (hs : PlainIx b := by intro _ _; rfl) :
    XE Γ.toGm (.Subscript (.Name x p1) b pos) ρ d := fun σ Hf H Q E k => by
  obtain ⟨nn, vi⟩ := Γ.vis i x hN
  refine RunE.of (pe_ix ix_list (pe_var nn vi hd hcd) (runE _ b) hs) ?_
  obtain ⟨q, vs, e1, _, _, _⟩ := E.lset hx
  refine ⟨_, e1, hb σ Hf H _ E fun u Hf' H' g r => ?_⟩
  obtain ⟨q', vs', e1', e2', e3', _⟩ := (E.grow g).lset hx
  rw [e1] at e1'
  cases e1'
  obtain ⟨w, hw, rw'⟩ := e3'.get hj
  exact ⟨q, vs', n, w, rfl, r, SqL.of e2', at_of hn hw, k w Hf' H' g rw'⟩
/-- for a, b, c in a list of tuples that stands for ever -/
theorem xs_forT3 {iter : Expr} {xs : List D} {k3 : Nat} (i j l : Nat) (I : Nat → List Sl → Prop) (f1 f2 f3 : Nat → D) (h : XE Γ.toGm iter ρ (.lst xs)) (hf : ∀ k, k < xs.length → xs[k]? = some (.tup [f1 k, f2 k, f3 k])) (h0 : I 0 ρ)
    (hs : ∀ k ρ', k < xs.length → I k ρ' → XSs Γ body (((ρ'.set i (.sh (f1 k))).set j (.sh (f2 k))).set l (.sh (f3 k))) ⟨I (k + 1), De.rt, De.nx, I (k + 1), De.ex⟩) (hd : ∀ ρ', I xs.length ρ' → De.nx ρ')
    (hN1 : N[i]? = some (x, true) := by rfl) (hN2 : N[j]? = some (y, true) := by rfl) (hN3 : N[l]? = some (z, true) := by rfl) (ho1 : i ∉ own := by decide) (ho2 : j ∉ own := by decide) (ho3 : l ∉ own := by decide)
    (hfs : ∀ env y, foldedSetIterable iter env y = pure y := by intro _ _; rfl) : XS Γ (.For (.Tuple [.Name x p1, .Name y p2, .Name z p3] k3 p') iter body [] pos) ρ De := fun σ Hf H D E S => by
  obtain ⟨l1, l2⟩ := Γ.st i x hN1
  obtain ⟨m1, m2⟩ := Γ.st j y hN2
  obtain ⟨n1, n2⟩ := Γ.st l z hN3
  refine RunS.of (ps_for Γ.po Γ.calm (pi_list (runE _ iter)) (pg_tup Γ.calm (pgs_cons (pg_name Γ.nd (Γ.vis i x hN1).1 l1 l2) (pgs_cons (pg_name Γ.nd (Γ.vis j y hN2).1 m1 m2) (pgs_cons (pg_name Γ.nd (Γ.vis l z hN3).1 n1 n2) pgs_nil)))) (runSs _ body) (hfs _)) ?_
  refine h σ Hf H _ E fun v Hf1 H1 g r => ?_
  obtain ⟨a, vs, rfl, hl, hr⟩ := r
  have ls : ∀ {Hf' H'}, Same Hf1 Hf' → Same Hf' H' → SqL Γ.X.K H' a vs := fun s1 s2 => SqL.of (s2 _ _ (s1 _ _ hl))
  refine ⟨a, rfl, ⟨vs, ls (Same.refl _) g.ff⟩, for_list (K := Γ.X.K) (a := a) (xs := vs) (g := gTup Γ.X.K 3 (gCons (gName i) (gCons (gName j) (gCons (gName l) gNil)))) (tb := fun D σ H => RunSs Γ.X body σ H D) (D := D) (fun k σ' H' => ∃ Hf' ρ', Env pg Γ.c own Hf' H' σ' ρ' ∧ Same Hf1 Hf' ∧ I k ρ') ⟨Hf1, ρ, E.grow g, Same.refl _, h0⟩
    (fun k σ' H' _ ⟨Hf', ρ', E', s, _⟩ => ls s E'.ff) ?_ ?_⟩
  · rintro k y' σ' H' hy ⟨Hf', ρ', E', s, iv⟩
    obtain ⟨d, hd1, hd2⟩ := hr.got hy
    have hk : k < xs.length := (List.getElem?_eq_some_iff.mp hd1).1
    rw [hf k hk] at hd1
    cases hd1
    obtain ⟨q, qs, rfl, q1, v1, r1, rfl, w1, v2, r2, rfl, w2, v3, r3, rfl, w3, w4⟩ := hd2
    have w4 : r3 = [] := w4
    subst w4
    refine ⟨q, _, rfl, by rw [kE Γ.toGm]; exact sqT_mono (s.trans E'.ff) q1, rfl, v1, _, rfl, v2, _, rfl, v3, _, rfl, rfl, ?_⟩
    have E3 := ((E'.set (Γ.hi E' hN1) ho1 (w1.mono cm0 s)).set (by rw [List.length_set]; exact Γ.hi E' hN2) ho2 (w2.mono cm0 s)).set (by rw [List.length_set, List.length_set]; exact Γ.hi E' hN3) ho3 (w3.mono cm0 s)
    exact hs k ρ' hk iv _ Hf' H' _ E3 ⟨fun σ2 Hf2 H2 ρ2 E2 s2 q => ⟨Hf2, ρ2, E2, s.trans s2, q⟩, fun σ2 Hf2 H2 ρ2 E2 s2 q => S.nx σ2 Hf2 H2 ρ2 E2 ((g.gr.trans s).trans s2) q,
      fun σ2 Hf2 H2 ρ2 E2 s2 q => ⟨Hf2, ρ2, E2, s.trans s2, q⟩, S.rs, S.ro, S.ex⟩
  · rintro σ' H' ⟨Hf', ρ', E', s, iv⟩
    rw [hr.length] at iv
    exact S.nx σ' Hf' H' ρ' E' (g.gr.trans s) (hd ρ' iv)
theorem xs_forT2 {iter : Expr} {xs : List D} {k3 : Nat} (i j : Nat) (I : Nat → List Sl → Prop) (f1 f2 : Nat → D) (h : XE Γ.toGm iter ρ (.lst xs)) (hf : ∀ k, k < xs.length → xs[k]? = some (.tup [f1 k, f2 k])) (h0 : I 0 ρ)
    (hs : ∀ k ρ', k < xs.length → I k ρ' → XSs Γ body ((ρ'.set i (.sh (f1 k))).set j (.sh (f2 k))) ⟨I (k + 1), De.rt, De.nx, I (k + 1), De.ex⟩) (hd : ∀ ρ', I xs.length ρ' → De.nx ρ')
    (hN1 : N[i]? = some (x, true) := by rfl) (hN2 : N[j]? = some (y, true) := by rfl) (ho1 : i ∉ own := by decide) (ho2 : j ∉ own := by decide)
    (hfs : ∀ env y, foldedSetIterable iter env y = pure y := by intro _ _; rfl) : XS Γ (.For (.Tuple [.Name x p1, .Name y p2] k3 p') iter body [] pos) ρ De := fun σ Hf H D E S => by
  obtain ⟨l1, l2⟩ := Γ.st i x hN1
  obtain ⟨m1, m2⟩ := Γ.st j y hN2
  refine RunS.of (ps_for Γ.po Γ.calm (pi_list (runE _ iter)) (pg_tup Γ.calm (pgs_cons (pg_name Γ.nd (Γ.vis i x hN1).1 l1 l2) (pgs_cons (pg_name Γ.nd (Γ.vis j y hN2).1 m1 m2) pgs_nil))) (runSs _ body) (hfs _)) ?_
  refine h σ Hf H _ E fun v Hf1 H1 g r => ?_
  obtain ⟨a, vs, rfl, hl, hr⟩ := r
  have ls : ∀ {Hf' H'}, Same Hf1 Hf' → Same Hf' H' → SqL Γ.X.K H' a vs := fun s1 s2 => SqL.of (s2 _ _ (s1 _ _ hl))
  refine ⟨a, rfl, ⟨vs, ls (Same.refl _) g.ff⟩, for_list (K := Γ.X.K) (a := a) (xs := vs) (g := gTup Γ.X.K 2 (gCons (gName i) (gCons (gName j) gNil))) (tb := fun D σ H => RunSs Γ.X body σ H D) (D := D) (fun k σ' H' => ∃ Hf' ρ', Env pg Γ.c own Hf' H' σ' ρ' ∧ Same Hf1 Hf' ∧ I k ρ') ⟨Hf1, ρ, E.grow g, Same.refl _, h0⟩
    (fun k σ' H' _ ⟨Hf', ρ', E', s, _⟩ => ls s E'.ff) ?_ ?_⟩
  · rintro k y' σ' H' hy ⟨Hf', ρ', E', s, iv⟩
    obtain ⟨d, hd1, hd2⟩ := hr.got hy
    have hk : k < xs.length := (List.getElem?_eq_some_iff.mp hd1).1
    rw [hf k hk] at hd1
    cases hd1
    obtain ⟨q, qs, rfl, q1, v1, r1, rfl, w1, v2, r2, rfl, w2, w4⟩ := hd2
    have w4 : r2 = [] := w4
    subst w4
    refine ⟨q, _, rfl, by rw [kE Γ.toGm]; exact sqT_mono (s.trans E'.ff) q1, rfl, v1, _, rfl, v2, _, rfl, rfl, ?_⟩
    have E3 := (E'.set (Γ.hi E' hN1) ho1 (w1.mono cm0 s)).set (by rw [List.length_set]; exact Γ.hi E' hN2) ho2 (w2.mono cm0 s)
    exact hs k ρ' hk iv _ Hf' H' _ E3 ⟨fun σ2 Hf2 H2 ρ2 E2 s2 q => ⟨Hf2, ρ2, E2, s.trans s2, q⟩, fun σ2 Hf2 H2 ρ2 E2 s2 q => S.nx σ2 Hf2 H2 ρ2 E2 ((g.gr.trans s).trans s2) q,
      fun σ2 Hf2 H2 ρ2 E2 s2 q => ⟨Hf2, ρ2, E2, s.trans s2, q⟩, S.rs, S.ro, S.ex⟩
  · rintro σ' H' ⟨Hf', ρ', E', s, iv⟩
    rw [hr.length] at iv
    exact S.nx σ' Hf' H' ρ' E' (g.gr.trans s) (hd ρ' iv)
end
end Lk
set_option maxHeartbeats 4000000
namespace Lk
open PySem PySem.Spec PyProof.Rows L2
/-- the class that the module calls x -/
def ca (pg : Pg) (x : Str) : Addr := match pg.mg x with
  | some (.ref a) => a
  | _ => 0
/-- what the head leaves, of the defs and the classes -/
class Lib (pg : Pg) extends Bl pg where
  df : ∀ (i : Nat) (x : Str) (vs : List V), (i, x, vs) ∈ dfTab → ∃ f fd, pg.mg x = some (.ref f) ∧ PySem.W.keepIn pg.K (.ref f) = true ∧ FunD pg.K x x (defArgs (top i)) (defBody (top i)) (defScope (top i)) vs [] f fd
  mt : ∀ (C : Str) (i : Nat) (m : Str) (j : Nat) (q : Str) (vs : List V), (C, i, m, j, q, vs) ∈ mtTab → ∃ f fd, Meth pg.K (ca pg C) m f ∧ FunD pg.K m q (defArgs (mth i j)) (defBody (mth i j)) (defScope (mth i j)) vs [] f fd
  cl : ∀ (C f : Str), (C, f) ∈ fdTab → Fld pg.K (ca pg C) f
section
variable {pg : Pg} [Lib pg]
theorem fld {C f : Str} (i : Nat) (h : fdTab[i]? = some (C, f) := by rfl) : Fld pg.K (ca pg C) f := Lib.cl C f (List.mem_of_getElem? h)
/-- a def without defaults keeps its promise -/
theorem fn_of {x : Str} {N : List (Str × Bool)} {ps G : List Str} {k : Nat} {cx : Bool} {C : List Ar → Rz → Prop} (i t : Nat) (ht : dfTab[t]? = some (i, x, [])) (S : Sc N ps G (defScope (top i))) (len : ∀ ags r, C ags r → ags.length = ps.length)
    (hbi : ∀ (kV doc pm : Value) (an : Option Addr) (cdv ct : Value) (us : List Value), us.length = ps.length → bindArgs (PySem.W.fnOf x x (defArgs (top i)) (defBody (top i)) (defScope (top i)) .none kV doc pm an cdv ct) ⟨us, []⟩ = pure (ps.zip us))
    (hb : ∀ (Γ : Gf pg (defScope (top i)) N G k []) ags r, C ags r → XSs Γ (defBody (top i)) (slots N.length ags) (fin cx r)) : Fn pg (k + 1) cx x [] C := by
  obtain ⟨f, fd, h1, h2, h3⟩ := Lib.df (pg := pg) i x [] (List.mem_of_getElem? ht)
  exact ⟨f, fd, ps, [], [], h1, h2, fn_ok h3 S len hb, h3.bindsN hbi, .nil, fun _ => rfl⟩
theorem mt_of {Cl m q : Str} {N : List (Str × Bool)} {ps G : List Str} {k : Nat} {cx : Bool} {C : List Ar → Rz → Prop} (i j t : Nat) (ht : mtTab[t]? = some (Cl, i, m, j, q, [])) (u : Nat) (fl : Str) (hu : fdTab[u]? = some (Cl, fl)) (S : Sc N ps G (defScope (mth i j))) (len : ∀ ags r, C ags r → ags.length = ps.length)
    (hbi : ∀ (kV doc pm : Value) (an : Option Addr) (cdv ct : Value) (us : List Value), us.length = ps.length → bindArgs (PySem.W.fnOf m q (defArgs (mth i j)) (defBody (mth i j)) (defScope (mth i j)) .none kV doc pm an cdv ct) ⟨us, []⟩ = pure (ps.zip us))
    (hb : ∀ (Γ : Gf pg (defScope (mth i j)) N G k []) ags r, C ags r → XSs Γ (defBody (mth i j)) (slots N.length ags) (fin cx r)) : Mt pg (k + 1) cx (ca pg Cl) m [] C := by
  obtain ⟨f, fd, h1, h3⟩ := Lib.mt (pg := pg) Cl i m j q [] (List.mem_of_getElem? ht)
  exact ⟨f, fd, ps, [], [], (Lib.cl (pg := pg) Cl fl (List.mem_of_getElem? hu)).cl, h1, fn_ok h3 S len hb, h3.bindsN hbi, .nil, fun _ => rfl⟩
end
end Lk
set_option maxHeartbeats 4000000
namespace Lk
open PySem PySem.Spec PyProof.Rows L2
/-! ### what the program's things stand for -/
structure Rch where
  name : Str
  least : Int
  crest : Int
  berths : Int
  water : Int
  target : Option Nat
inductive Kd where
  | plain | basin (side : Int) | pump (lift : Int)
structure Lck where
  kd : Kd
  name : Str
  high : Nat
  low : Nat
  room : Int
structure Cnl where
  reaches : List Rch
  locks : List Lck
  nights : List (List (Int × Int))
instance : Inhabited Rch := ⟨⟨"", 0, 0, 0, 0, none⟩⟩
instance : Inhabited Lck := ⟨⟨.plain, "", 0, 0, 0⟩⟩
/-- a place by its word -/
inductive Sd where
  | high | low | chamber | basin
deriving DecidableEq
instance : Inhabited Sd := ⟨.high⟩
/-- start and steps: a lock, up or not -/
abbrev Wy := Nat × List (Nat × Bool)
/-- day, waters, places -/
abbrev Sta := Nat × List Int × List Nat
inductive Deed where
  | pass (b : Nat) | let_ (k : Nat) | night
deriving DecidableEq
instance : Inhabited Deed := ⟨.night⟩
inductive Ent where
  | come (name start : Str) (steps : List (Str × Bool))
  | pass (name : Str) | let_ (name : Str)
  | night (ws : List (Int × Int))
  | take (name : Str) (n : Int) | rain (name : Str) (n : Int)
/-- source, target, amount -/
abbrev Pr := Nat × Nat × Int
structure Bk where
  house : Cnl
  called : List Str
  courses : List Wy
  standing : Sta
  moved : List Pr
  gatewords : List (Str × List Str)
  told : List Ent
/-! ### .. as data -/
@[reducible] def eN (n : Nat) : D := .int n
def eInts (xs : List Int) : D := .tup (xs.map D.int)
def eNats (xs : List Nat) : D := .tup (xs.map eN)
def ePr (p : Pr) : D := .tup [.int p.1, .int p.2.1, .int p.2.2]
def ePrs (ps : List Pr) : D := .lst (ps.map ePr)
def eWr (w : Int × Nat) : D := .tup [.int w.1, .int w.2]
def eWrs (ws : List (Int × Nat)) : D := .lst (ws.map eWr)
def dirS (up : Bool) : Str := if up then "up" else "down"
def eStep (s : Nat × Bool) : D := .tup [.int s.1, .str (dirS s.2)]
def eWy (w : Wy) : D := .tup [.int w.1, .tup (w.2.map eStep)]
def eSta (s : Sta) : D := .tup [.int s.1, eInts s.2.1, eNats s.2.2]
def sdS : Sd → Str
  | .high => "high"
  | .low => "low"
  | .chamber => "chamber"
  | .basin => "basin"
def ePart (p : Sd × Int) : D := .tup [.str (sdS p.1), .int p.2]
def eTri (p : Sd × Sd × Int) : D := .tup [.str (sdS p.1), .str (sdS p.2.1), .int p.2.2]
def eDeed : Deed → D
  | .pass b => .tup [.str "pass", .int b]
  | .let_ k => .tup [.str "let", .int k]
  | .night => .tup [.str "night"]
def eWth (w : Int × Int) : D := .tup [.int w.1, .int w.2]
def eNight (ws : List (Int × Int)) : D := .lst (ws.map eWth)
def eNamed (s : Str × Bool) : D := .tup [.str s.1, .str (dirS s.2)]
def eEnt : Ent → D
  | .come n s st => .tup [.str "come", .str n, .str s, .tup (st.map eNamed)]
  | .pass n => .tup [.str "pass", .str n]
  | .let_ n => .tup [.str "let", .str n]
  | .night ws => .tup [.str "night", .tup (ws.map eWth)]
  | .take n i => .tup [.str "take", .str n, .int i]
  | .rain n i => .tup [.str "rain", .str n, .int i]
def eTgt : Option Nat → Int
  | none => -1
  | some t => t
def eWords (ws : List Str) : D := .lst (ws.map D.str)
def eGate (g : Str × List Str) : D := .tup [.str g.1, eWords g.2]
section
variable (pg : Pg)
def eRch (r : Rch) : D := .obj (ca pg "Reach") [("name", .str r.name), ("least", .int r.least), ("crest", .int r.crest), ("berths", .int r.berths), ("water", .int r.water), ("target", .int (eTgt r.target))]
def eLck (l : Lck) : D := match l.kd with
  | .plain => .obj (ca pg "PlainLock") [("name", .str l.name), ("high", .int l.high), ("low", .int l.low), ("room", .int l.room)]
  | .basin s => .obj (ca pg "BasinLock") [("name", .str l.name), ("high", .int l.high), ("low", .int l.low), ("room", .int l.room), ("side", .int s)]
  | .pump s => .obj (ca pg "PumpLock") [("name", .str l.name), ("high", .int l.high), ("low", .int l.low), ("room", .int l.room), ("lift", .int s)]
def eCnl (c : Cnl) : D := .obj (ca pg "Canal") [("reaches", .lst (c.reaches.map (eRch pg))), ("locks", .lst (c.locks.map (eLck pg))), ("nights", .lst (c.nights.map eNight))]
def eBk (b : Bk) : OT := .ins (ca pg "Book") [("house", .sh (eCnl pg b.house)), ("called", .lst (b.called.map D.str)), ("courses", .sh (.lst (b.courses.map eWy))), ("standing", .sh (eSta b.standing)), ("moved", .sh (ePrs b.moved)), ("gatewords", .lst (b.gatewords.map eGate)), ("told", .lst (b.told.map eEnt))]
end
/-- a place of a list that stands for things -/
theorem at_map {α : Type} [Inhabited α] {f : α → D} {xs : List α} {j : Nat} (h : j < xs.length) : (xs.map f)[j]? = some (f xs[j]!) := by
  rw [List.getElem?_map, List.getElem?_eq_getElem h, getElem!_pos xs j h]
  rfl
end Lk
set_option maxHeartbeats 4000000
namespace Lk
open PySem PySem.Spec PyProof.Rows L2
/-! ### promises by a typed word -/
def Ct {α : Type} (pre : α → Prop) (ag : α → List Ar) (res : α → Rz) : List Ar → Rz → Prop := fun as r => ∃ a, pre a ∧ as = ag a ∧ r = res a
section
variable {pg : Pg} [Lib pg]
theorem fn_ct {α : Type} {pre : α → Prop} {ag : α → List Ar} {res : α → Rz} {x : Str} {N : List (Str × Bool)} {ps G : List Str} {k : Nat} {cx : Bool} (i t : Nat) (ht : dfTab[t]? = some (i, x, [])) (S : Sc N ps G (defScope (top i))) (len : ∀ a, (ag a).length = ps.length)
    (hbi : ∀ (kV doc pm : Value) (an : Option Addr) (cdv ct : Value) (us : List Value), us.length = ps.length → bindArgs (PySem.W.fnOf x x (defArgs (top i)) (defBody (top i)) (defScope (top i)) .none kV doc pm an cdv ct) ⟨us, []⟩ = pure (ps.zip us))
    (hb : ∀ (Γ : Gf pg (defScope (top i)) N G k []) a, pre a → XSs Γ (defBody (top i)) (slots N.length (ag a)) (fin cx (res a))) : Fn pg (k + 1) cx x [] (Ct pre ag res) :=
  fn_of i t ht S (fun ags r ⟨a, _, h, _⟩ => by rw [h]; exact len a) hbi fun Γ ags r ⟨a, h1, h2, h3⟩ => by rw [h2, h3]; exact hb Γ a h1
theorem mt_ct {α : Type} {pre : α → Prop} {ag : α → List Ar} {res : α → Rz} {Cl m q : Str} {N : List (Str × Bool)} {ps G : List Str} {k : Nat} {cx : Bool} (i j t : Nat) (ht : mtTab[t]? = some (Cl, i, m, j, q, [])) (u : Nat) (fl : Str) (hu : fdTab[u]? = some (Cl, fl)) (S : Sc N ps G (defScope (mth i j))) (len : ∀ a, (ag a).length = ps.length)
    (hbi : ∀ (kV doc pm : Value) (an : Option Addr) (cdv ct : Value) (us : List Value), us.length = ps.length → bindArgs (PySem.W.fnOf m q (defArgs (mth i j)) (defBody (mth i j)) (defScope (mth i j)) .none kV doc pm an cdv ct) ⟨us, []⟩ = pure (ps.zip us))
    (hb : ∀ (Γ : Gf pg (defScope (mth i j)) N G k []) a, pre a → XSs Γ (defBody (mth i j)) (slots N.length (ag a)) (fin cx (res a))) : Mt pg (k + 1) cx (ca pg Cl) m [] (Ct pre ag res) :=
  mt_of i j t ht u fl hu S (fun ags r ⟨a, _, h, _⟩ => by rw [h]; exact len a) hbi fun Γ ags r ⟨a, h1, h2, h3⟩ => by rw [h2, h3]; exact hb Γ a h1
end
/-! ### more loops -/
section
variable {pg : Pg} {sc : Scope} {N : List (Str × Bool)} {G : List Str} {lv : Nat} {own : List Nat} {Γ : Gf pg sc N G lv own} {ρ : List Sl} {a b e : Expr} {es : List Expr} {d : D} {o : OT} {pos p p' p1 p2 p3 : Pos} {x y : Str} {De : De} {st : Stmt} {sts body orelse : List Stmt}
/-- while: I by a measure -/
theorem xs_while {c : Expr} (I : Nat → List Sl → Prop) (n : Nat) (h0 : I n ρ) (hs : ∀ n ρ', I n ρ' → ∃ t, XT Γ.toGm c ρ' t ∧ (t = true → XSs Γ body ρ' ⟨fun ρ2 => ∃ m, m < n ∧ I m ρ2, De.rt, De.nx, fun ρ2 => ∃ m, m < n ∧ I m ρ2, De.ex⟩) ∧ (t = false → De.nx ρ')) :
    XS Γ (.While c body [] pos) ρ De := fun σ Hf H D E S => by
  refine RunS.of (ps_while Γ.po (runT _ c) (runSs _ body)) ⟨fun m σ' H' => ∃ Hf' ρ', Env pg Γ.c own Hf' H' σ' ρ' ∧ Same Hf Hf' ∧ I m ρ', ⟨n, Hf, ρ, E, Same.refl _, h0⟩, ?_⟩
  rintro m σ' H' ⟨Hf', ρ', E', s, iv⟩
  obtain ⟨t, h1, h2, h3⟩ := hs m ρ' iv
  refine h1 σ' Hf' H' _ E' fun Hf2 H2 g => ?_
  cases t with
  | true =>
    refine iteT ⟨fun σ2 H3 => ∃ m', m' < m ∧ ∃ Hf3 ρ3, Env pg Γ.c own Hf3 H3 σ2 ρ3 ∧ Same Hf Hf3 ∧ I m' ρ3, fun σ2 H3 ⟨m', l, q⟩ => ⟨m', l, q⟩, ?_⟩
    exact h2 rfl σ' Hf2 H2 _ (E'.grow g) ⟨fun σ2 Hf3 H3 ρ3 E3 s3 ⟨m', l, q⟩ => ⟨m', l, Hf3, ρ3, E3, (s.trans g.gr).trans s3, q⟩, fun σ2 Hf3 H3 ρ3 E3 s3 q => S.nx σ2 Hf3 H3 ρ3 E3 ((s.trans g.gr).trans s3) q,
      fun σ2 Hf3 H3 ρ3 E3 s3 ⟨m', l, q⟩ => ⟨m', l, Hf3, ρ3, E3, (s.trans g.gr).trans s3, q⟩, S.rs, S.ro, S.ex⟩
  | false => exact iteF (S.nx σ' Hf2 H2 ρ' (E'.grow g) (s.trans g.gr) (h3 rfl))
/-- for x in range(n - 1, -1, -1) -/
theorem xs_forDown {n : Nat} {c : Expr} (i : Nat) (I : Nat → List Sl → Prop) (h : XE Γ.toGm a ρ (.int ((n : Int) - 1))) (hb : XE Γ.toGm b ρ (.int (-1))) (hc : XE Γ.toGm c ρ (.int (-1))) (hn : n ≤ 1000000) (h0 : I 0 ρ)
    (hs : ∀ (k : Nat) ρ', k < n → I k ρ' → XSs Γ body (ρ'.set i (.sh (.int ((n - 1 - k : Nat) : Nat)))) ⟨I (k + 1), De.rt, De.nx, I (k + 1), De.ex⟩) (hd : ∀ ρ', I n ρ' → De.nx ρ') (j : Nat) (hm : pg.mg "range" = none) (hG : G[j]? = some ("range" : Str) := by rfl)
    (hN : N[i]? = some (x, true) := by rfl) (ho : i ∉ own := by decide)
    (hst : ∀ env, starEach [a, b, c] env = (false, eval a env) :: starEach [b, c] env := by intro _; rfl) (hst2 : ∀ env, starEach [b, c] env = (false, eval b env) :: starEach [c] env := by intro _; rfl) (hst3 : ∀ env, starEach [c] env = [(false, eval c env)] := by intro _; rfl)
    : XS Γ (.For (.Name x p') (.Call (.Name "range" p) [a, b, c] [] p1) body [] pos) ρ De := fun σ Hf H D E S => by
  obtain ⟨l1, l2⟩ := Γ.st i x hN
  refine RunS.of (ps_for Γ.po Γ.calm (pi_range3 (Γ.gl _ (gmem hG)) ((congrFun (mgE Γ.toGm) _).trans hm) (pa_cons (runE _ a) (pa_cons (runE _ b) (pa_cons (runE _ c) pa_nil (by rw [hst3] <;> rfl)) (hst2 _)) (hst _)) (hst _) (by rw [hst2, hst3] <;> rfl)) (pg_name Γ.nd (Γ.vis i x hN).1 l1 l2) (runSs _ body)) ?_
  refine h σ Hf H _ E fun v Hf1 H1 g1 r1 => hb σ Hf1 H1 _ (E.grow g1) fun u Hf2 H2 g2 r2 => hc σ Hf2 H2 _ (E.grow (g1.trans g2)) fun z Hf3 H3 g3 r3 => ?_
  have g := (g1.trans g2).trans g3
  have r1 : v = .int ((n : Int) - 1) := r1
  have r2 : u = .int (-1) := r2
  have r3 : z = .int (-1) := r3
  subst r1 r2 r3
  have hz := RgC.neg (i := (n : Int) - 1) (j := -1) (by omega) (by omega) (by decide) (by decide)
  rw [show ((n : Int) - 1 - -1).toNat = n by omega] at hz
  refine ⟨(n : Int) - 1, -1, -1, n, rfl, hz, for_rangeC (lo := (n : Int) - 1) (c := -1) (n := n) (g := gName i) (tb := fun D σ H => RunSs Γ.X body σ H D) (D := D) (fun k σ' H' => ∃ Hf' ρ', Env pg Γ.c own Hf' H' σ' ρ' ∧ Same Hf3 Hf' ∧ I k ρ') ⟨Hf3, ρ, E.grow g, Same.refl _, h0⟩ ?_ ?_⟩
  · rintro k σ' H' hk ⟨Hf', ρ', E', s, iv⟩
    have e0 : (n : Int) - 1 + (k : Int) * -1 = ((n - 1 - k : Nat) : Int) := by omega
    rw [e0]
    exact hs k ρ' hk iv (σ'.set i (some (.int ((n - 1 - k : Nat) : Int)))) Hf' H' _ (E'.set (d := .int ((n - 1 - k : Nat) : Int)) (v := .int ((n - 1 - k : Nat) : Int)) (Γ.hi E' hN) ho rfl) ⟨fun σ2 Hf2 H2 ρ2 E2 s2 q => ⟨Hf2, ρ2, E2, s.trans s2, q⟩, fun σ2 Hf2 H2 ρ2 E2 s2 q => S.nx σ2 Hf2 H2 ρ2 E2 ((g.gr.trans s).trans s2) q,
      fun σ2 Hf2 H2 ρ2 E2 s2 q => ⟨Hf2, ρ2, E2, s.trans s2, q⟩, S.rs, S.ro, S.ex⟩
  · rintro σ' H' ⟨Hf', ρ', E', s, iv⟩
    exact S.nx σ' Hf' H' ρ' E' (g.gr.trans s) (hd ρ' iv)
/-- for x in a text -/
theorem xs_forS {iter : Expr} {w : Str} (i : Nat) (I : Nat → List Sl → Prop) (h : XE Γ.toGm iter ρ (.str w)) (h0 : I 0 ρ) (hs : ∀ k c ρ', w.cps[k]? = some c → I k ρ' → XSs Γ body (ρ'.set i (.sh (.str ⟨#[c]⟩))) ⟨I (k + 1), De.rt, De.nx, I (k + 1), De.ex⟩)
    (hd : ∀ ρ', I w.cps.size ρ' → De.nx ρ') (hN : N[i]? = some (x, true) := by rfl) (ho : i ∉ own := by decide) (hf : ∀ env y, foldedSetIterable iter env y = pure y := by intro _ _; rfl) : XS Γ (.For (.Name x p') iter body [] pos) ρ De := fun σ Hf H D E S => by
  obtain ⟨l1, l2⟩ := Γ.st i x hN
  refine RunS.of (ps_for Γ.po Γ.calm (pi_str (runE _ iter)) (pg_name Γ.nd (Γ.vis i x hN).1 l1 l2) (runSs _ body) (hf _)) ?_
  refine h σ Hf H _ E fun v Hf1 H1 g r => ⟨w, r, ?_⟩
  refine ⟨fun k m σ' H' => m = w.cps.size - k ∧ k ≤ w.cps.size ∧ ∃ Hf' ρ', Env pg Γ.c own Hf' H' σ' ρ' ∧ Same Hf1 Hf' ∧ I k ρ', ⟨_, rfl, Nat.zero_le _, Hf1, ρ, E.grow g, Same.refl _, h0⟩, ?_⟩
  rintro k m σ' H' ⟨rfl, hk, Hf', ρ', E', s, iv⟩
  by_cases hlt : k < w.cps.size
  · refine .inr ⟨hlt, fun σ2 H2 => k + 1 ≤ w.cps.size ∧ ∃ Hf' ρ', Env pg Γ.c own Hf' H2 σ2 ρ' ∧ Same Hf1 Hf' ∧ I (k + 1) ρ', fun σ2 H2 ⟨l, q⟩ => ⟨w.cps.size - (k + 1), by omega, rfl, l, q⟩, fun y H2 hy => ?_⟩
    obtain ⟨e, c, hc, ey⟩ := hy
    subst e ey
    exact hs k c ρ' hc iv (σ'.set i (some (.str ⟨#[c]⟩))) Hf' _ _ (E'.set (d := .str ⟨#[c]⟩) (v := .str ⟨#[c]⟩) (Γ.hi E' hN) ho rfl) ⟨fun σ2 Hf2 H2 ρ2 E2 s2 q => ⟨hlt, Hf2, ρ2, E2, s.trans s2, q⟩, fun σ2 Hf2 H2 ρ2 E2 s2 q => S.nx σ2 Hf2 H2 ρ2 E2 ((g.gr.trans s).trans s2) q,
      fun σ2 Hf2 H2 ρ2 E2 s2 q => ⟨hlt, Hf2, ρ2, E2, s.trans s2, q⟩, S.rs, S.ro, S.ex⟩
  · have e : k = w.cps.size := by omega
    subst e
    exact .inl ⟨Nat.le_refl _, S.nx σ' Hf' H' ρ' E' (g.gr.trans s) (hd ρ' iv)⟩
/-- for x, y in enumerate(list) -/
theorem xs_forEnum {xs : List D} {k2 : Nat} (i j : Nat) (I : Nat → List Sl → Prop) (h : XE Γ.toGm e ρ (.lst xs)) (h0 : I 0 ρ) (hs : ∀ k d ρ', xs[k]? = some d → I k ρ' → XSs Γ body ((ρ'.set i (.sh (.int k))).set j (.sh d)) ⟨I (k + 1), De.rt, De.nx, I (k + 1), De.ex⟩)
    (hd : ∀ ρ', I xs.length ρ' → De.nx ρ') (g0 : Nat) (hm : pg.mg "enumerate" = none) (hG : G[g0]? = some ("enumerate" : Str) := by rfl) (hN1 : N[i]? = some (x, true) := by rfl) (hN2 : N[j]? = some (y, true) := by rfl) (ho1 : i ∉ own := by decide) (ho2 : j ∉ own := by decide)
    (hst : ∀ env, starEach [e] env = [(false, eval e env)] := by intro _; rfl) : XS Γ (.For (.Tuple [.Name x p1, .Name y p2] k2 p') (.Call (.Name "enumerate" p) [e] [] p3) body [] pos) ρ De := fun σ Hf H D E S => by
  obtain ⟨l1, l2⟩ := Γ.st i x hN1
  obtain ⟨m1, m2⟩ := Γ.st j y hN2
  refine RunS.of (ps_for Γ.po Γ.calm (pi_enum (Γ.gl _ (gmem hG)) ((congrFun (mgE Γ.toGm) _).trans hm) (pa_cons (runE _ e) pa_nil (by rw [hst] <;> rfl)) (hst _)) (pg_tup Γ.calm (pgs_cons (pg_name Γ.nd (Γ.vis i x hN1).1 l1 l2) (pgs_cons (pg_name Γ.nd (Γ.vis j y hN2).1 m1 m2) pgs_nil))) (runSs _ body)) ?_
  refine h σ Hf H _ E fun v Hf1 H1 g r => ?_
  obtain ⟨q, vs, rfl, hl, hr⟩ := r
  have ls : ∀ {Hf' H'}, Same Hf1 Hf' → Same Hf' H' → SqL Γ.X.K H' q vs := fun s1 s2 => SqL.of (s2 _ _ (s1 _ _ hl))
  refine ⟨q, vs, rfl, ls (Same.refl _) g.ff, ?_⟩
  refine ⟨fun k m σ' H' => m = vs.length - k ∧ k ≤ vs.length ∧ ∃ Hf' ρ', Env pg Γ.c own Hf' H' σ' ρ' ∧ Same Hf1 Hf' ∧ I k ρ', ⟨_, rfl, Nat.zero_le _, Hf1, ρ, E.grow g, Same.refl _, h0⟩, ?_⟩
  rintro k m σ' H' ⟨rfl, hk, Hf', ρ', E', s, iv⟩
  by_cases hlt : k < vs.length
  · refine .inr ⟨⟨vs, vs[k], ls s E'.ff, List.getElem?_eq_getElem hlt⟩, fun σ2 H2 => k + 1 ≤ vs.length ∧ ∃ Hf' ρ', Env pg Γ.c own Hf' H2 σ2 ρ' ∧ Same Hf1 Hf' ∧ I (k + 1) ρ', fun σ2 H2 ⟨l, q⟩ => ⟨vs.length - (k + 1), by omega, rfl, l, q⟩, fun z H2 hz => ?_⟩
    obtain ⟨T, w, ez, hT, eH, hw⟩ := hz
    subst ez eH
    have hw := hw vs (ls s E'.ff)
    obtain ⟨dz, hz1, hz2⟩ := hr.got hw
    have gT : Gw pg Hf' H' (upd Hf' T (.tup [.int (k : Nat), w])) (upd H' T (.tup [.int (k : Nat), w])) := Gw.fresh E'.ff E'.tabs hT
    have E2 := ((E'.grow gT).set (d := .int k) (v := .int k) (Γ.hi E' hN1) ho1 rfl).set (by rw [List.length_set]; exact Γ.hi E' hN2) ho2 (gT.rep (hz2.mono cm0 s))
    refine ⟨T, _, rfl, SqT.of upd_same, rfl, .int (k : Nat), _, rfl, w, _, rfl, rfl, ?_⟩
    exact hs k dz ρ' hz1 iv _ _ _ _ E2 ⟨fun σ2 Hf2 H2 ρ2 E2 s2 q => ⟨hlt, Hf2, ρ2, E2, (s.trans gT.gr).trans s2, q⟩, fun σ2 Hf2 H2 ρ2 E2 s2 q => S.nx σ2 Hf2 H2 ρ2 E2 ((g.gr.trans (s.trans gT.gr)).trans s2) q,
      fun σ2 Hf2 H2 ρ2 E2 s2 q => ⟨hlt, Hf2, ρ2, E2, (s.trans gT.gr).trans s2, q⟩, S.rs, S.ro, S.ex⟩
  · have e : k = vs.length := by omega
    subst e
    rw [hr.length] at iv
    exact .inl ⟨⟨vs, ls s E'.ff, Nat.le_refl _⟩, S.nx σ' Hf' H' ρ' E' (g.gr.trans s) (hd ρ' iv)⟩
end
/-! ### more expressions -/
section
variable {pg : Pg} {sc : Scope} {N : List (Str × Bool)} {G : List Str} {lv : Nat} {own : List Nat} {Γ : Gm pg sc N G lv own} {ρ : List Sl} {a b e e1 : Expr} {es : List Expr} {da db dc d : D} {o : OT} {pos p apos : Pos} {i k : Nat} {x m : Str} {as : List Ar}
theorem xe_chain {c : Expr} {op op' : CmpOp} {b1 b2 : Bool} (ha : XE Γ a ρ da) (hb : XE Γ b ρ db) (hc : XE Γ c ρ dc) (o1 : OpD Γ.X pg (compareOp op) da db (.bl b1)) (o2 : OpD Γ.X pg (compareOp op') db dc (.bl b2))
    (hm : lastMarks [op, op'] [b, c] = false := by with_unfolding_all rfl) : XE Γ (.Compare a [op, op'] [b, c] pos) ρ (.bl (b1 && b2)) := fun σ Hf H Q E k => by
  obtain ⟨r1, q1, w1⟩ := o1
  obtain ⟨r2, q2, w2⟩ := o2
  refine RunE.of (pe_chain q1 q2 (runE _ a) (runE _ b) (runE _ c) hm) (ha σ Hf H _ E fun v Hf1 H1 g1 ra => hb σ Hf1 H1 _ (E.grow g1) fun u Hf2 H2 g2 rb => ?_)
  have E2 := E.grow (g1.trans g2)
  refine w1 v u Hf2 H2 _ (g2.rep ra) rb E2.ff E2.tabs fun z Hf3 H3 g3 rz => ⟨b1, rz, ?_⟩
  cases b1 with
  | false => exact iteF (k _ Hf3 H3 ((g1.trans g2).trans g3) rfl)
  | true => exact iteT (hc σ Hf3 H3 _ (E2.grow g3) fun y Hf4 H4 g4 rc => w2 u y Hf4 H4 _ ((g3.trans g4).rep rb) rc (E2.grow (g3.trans g4)).ff (E2.grow (g3.trans g4)).tabs fun t Hf5 H5 g5 rt => k t Hf5 H5 ((((g1.trans g2).trans g3).trans g4).trans g5) rt)
section
variable {X : Cx} {y z : Str} {c : Nat} {n : Int}
theorem o_notInS : OpD X pg (compareOp .NotIn) (.str ⟨#[c]⟩) (.str z) (.bl (!decide (c ∈ z.cps.toList))) :=
  ⟨_, op_notIn_sign, fun v u Hf H Q r1 r2 ff tb k => ⟨c, z, r1, r2, k _ Hf H (Gw.refl ff tb) rfl⟩⟩
def rep1 (c n : Nat) : Str := ⟨(List.replicate n c).toArray⟩
theorem foldl_rep (c : Nat) : ∀ (n : Nat) (acc : Array Nat), (List.replicate n #[c]).foldl (· ++ ·) acc = acc ++ (List.replicate n c).toArray
  | 0, acc => by simp
  | n + 1, acc => by
    rw [List.replicate_succ, List.foldl_cons, foldl_rep c n, List.replicate_succ]
    apply Array.toList_inj.mp
    simp
theorem op_mulS : OpR X (binaryOp .Mult) (fun x y H Q => ∃ (c n : Nat), x = .str ⟨#[c]⟩ ∧ y = .int n ∧ n ≤ 1000 ∧ Q (.str (rep1 c n)) H) := by
  intro pins s σ H x y v u Q I rx ry h
  obtain ⟨c, n, rfl, rfl, hn, q⟩ := h
  obtain ⟨t, rfl⟩ := rx
  obtain ⟨t', rfl⟩ := ry
  refine PySem.P.mul_str ?_ (fun h1 _ => ?_) (fun h1 _ => ?_) ?_
  · rw [decide_eq_false (by omega), decide_eq_false (by omega)]
    rfl
  · show ¬ ((1 : Int) > _)
    have h9 : ((n : Int)) ≤ (2 ^ 63 - 1) := by omega
    have : (1 : Int) ≤ (2 ^ 63 - 1) / n := (Int.le_ediv_iff_mul_le (by omega)).mpr (by omega)
    omega
  · show PySem.Builtin.Str.tooLong (1 * (n : Int).toNat) = false
    rw [Int.toNat_natCast, Nat.one_mul]
    unfold PySem.Builtin.Str.tooLong
    exact decide_eq_false (by have := sizeLine_eq; omega)
  · by_cases h1 : (n : Int) < 1
    · rw [if_pos h1]
      have : n = 0 := by omega
      subst this
      exact ⟨by decide, ⟨.str _, H, I.tok _, ⟨_, rfl⟩, q⟩⟩
    · rw [if_neg h1]
      by_cases h2 : n = 1
      · subst h2
        rw [if_pos (by rfl)]
        exact ⟨.str _, H, I, ⟨_, rfl⟩, q⟩
      · rw [if_neg (by
          have : ((n : Int) == 1) = false := beq_eq_false_iff_ne.mpr (by omega)
          rw [this]
          exact fun z => nomatch z)]
        have er : (⟨(List.replicate (n : Int).toNat #[c]).foldl (· ++ ·) #[]⟩ : Str) = rep1 c n := by
          rw [foldl_rep, Int.toNat_natCast]
          unfold rep1
          congr 1
          simp
        have er' : (⟨(List.replicate (n : Int).toNat (⟨#[c]⟩ : Str).cps).foldl (· ++ ·) #[]⟩ : Str) = rep1 c n := er
        rw [er']
        refine ⟨?_, ⟨.str _, H, I.tok _, ⟨_, rfl⟩, q⟩⟩
        show (rep1 c n).length ≤ sizeLine
        have : (rep1 c n).length = n := by unfold rep1; show (List.replicate n c).toArray.size = n; simp
        rw [this, sizeLine_eq]
        omega
theorem o_mulS {n : Nat} (hn : n ≤ 1000) : OpD X pg (binaryOp .Mult) (.str ⟨#[c]⟩) (.int n) (.str (rep1 c n)) :=
  ⟨_, op_mulS, fun v u Hf H Q r1 r2 ff tb k => ⟨c, n, r1, r2, hn, k _ Hf H (Gw.refl ff tb) rfl⟩⟩
end
/-- an item of a list or a tuple -/
theorem xe_ixQ {ds : List D} {n : Int} {j : Nat} (ha : XE Γ a ρ da) (hd : da = .lst ds ∨ da = .tup ds) (hb : XE Γ b ρ (.int n)) (hn : n = j) (h : ds[j]? = some d) (hs : PlainIx b := by intro _ _; rfl) : XE Γ (.Subscript a b pos) ρ d := by
  rcases hd with e | e
  · subst e
    exact xe_ixL ha hb hn h hs
  · subst e
    exact xe_ixT ha hb hn h hs
/-- item of a list looked at -/
theorem xe_ixP {ds : List D} {n : Int} {j : Nat} (ha : XL Γ a ρ ds) (hb : XE Γ b ρ (.int n)) (hn : n = j) (h : ds[j]? = some d) (hs : PlainIx b := by intro _ _; rfl) : XE Γ (.Subscript a b pos) ρ d := fun σ Hf H Q E k =>
  RunE.of (pe_ix ix_list (runE _ a) (runE _ b) hs) (ha σ Hf H _ E fun p vs Hf1 H1 g1 h1 h2 => hb σ Hf1 H1 _ (E.grow g1) fun u Hf2 H2 g2 r2 => by
    obtain ⟨w, hw, rw'⟩ := h2.get h
    exact ⟨p, vs, n, w, rfl, r2, SqL.of (g2.ns.lst h1), at_of hn hw, k w Hf2 H2 (g1.trans g2) (g2.rep rw')⟩)
end
end Lk
set_option maxHeartbeats 4000000
namespace Lk
open PySem PySem.Spec PyProof.Rows L2
/-! ### comprehensions over what is walked -/
section
variable {pg : Pg} {sc : Scope} {N : List (Str × Bool)} {G : List Str} {lv : Nat} {own : List Nat} {Γ : Gm pg sc N G lv own} {ρ : List Sl} {a b e elt iter tg : Expr} {ifs : List Expr} {scope : Scope} {d : D} {pos p p' q' : Pos} {k : Nat} {x y : Str} {ds : List D}
/-- iter walks over the items ds -/
def XI (Γ : Gm pg sc N G lv own) (tg iter : Expr) (ρ : List Sl) (ds : List D) : Prop := ∃ wi, PI Γ.X tg iter wi ∧ (∀ x, foldedSetIterable iter Γ.X.env x = pure x) ∧ ∀ σ Hf H (Q : It → Hp → Prop), Env pg Γ.c own Hf H σ ρ →
  (∀ J Gd Y Hf1 H1, Gw pg Hf H Hf1 H1 → Walk J ds.length Gd Y → (∀ Hf' H', Gw pg Hf1 H1 Hf' H' → Gd H') → (∀ i H x H', Y i H x H' → H' = H ∧ ∃ d, ds[i]? = some d ∧ R pg Hf1 d x) → Q J H1) → wi σ H Q
theorem XL.it (h : XL Γ iter ρ ds) (hf : ∀ env y, foldedSetIterable iter env y = pure y := by intro _ _; rfl) : XI Γ tg iter ρ ds := ⟨_, pi_list (runE _ iter), hf _, fun σ Hf H Q E k => h σ Hf H _ E fun a vs Hf1 H1 g hl hr => ⟨a, rfl, ⟨vs, SqL.of hl⟩, by
  have w := walk_list (K := Γ.X.K) (a := a) (xs := vs)
  rw [hr.length] at w
  exact k _ _ _ Hf1 H1 g w (fun Hf' H' g' => SqL.of (g'.ns.lst hl)) fun i H x H' y => ⟨y.1, hr.got y.2⟩⟩⟩
theorem XE.itT (h : XE Γ iter ρ (.tup ds)) (hf : ∀ env y, foldedSetIterable iter env y = pure y := by intro _ _; rfl) : XI Γ tg iter ρ ds := ⟨_, pi_tup (runE _ iter), hf _, fun σ Hf H Q E k => h σ Hf H _ E fun v Hf1 H1 g ⟨a, vs, hv, hl, hr⟩ => ⟨a, hv, ⟨vs, by rw [kE Γ]; exact sqT_mono g.ff hl⟩, by
  have w := walk_tup (K := Γ.X.K) (a := a) (xs := vs)
  rw [hr.length] at w
  exact k _ _ _ Hf1 H1 g w (fun Hf' H' g' => by rw [kE Γ]; exact sqT_mono g'.ff (sqT_mono g'.gr hl)) fun i H x H' y => ⟨y.1, hr.got y.2⟩⟩⟩
theorem XE.itR {n : Nat} (h : XE Γ e ρ (.int n)) (hn : n ≤ 1000000) (j : Nat) (hm : pg.mg "range" = none) (hG : G[j]? = some ("range" : Str) := by rfl) (hst : ∀ env, starEach [e] env = [(false, eval e env)] := by intro _; rfl)
    (hf : ∀ env y, foldedSetIterable (.Call (.Name "range" p) [e] [] p') env y = pure y := by intro _ _; rfl) : XI Γ tg (.Call (.Name "range" p) [e] [] p') ρ ((List.range n).map eN) :=
  ⟨_, pi_range1 (Γ.gl _ (gmem hG)) ((congrFun (mgE Γ) _).trans hm) (pa_cons (runE _ e) pa_nil (by rw [hst] <;> rfl)) (hst _), hf _, fun σ Hf H Q E k => h σ Hf H _ E fun v Hf1 H1 g r => by
    have r : v = .int n := r
    subst r
    have w := walk_range (lo := 0) (n := n)
    refine ⟨n, rfl, by omega, by omega, ?_⟩
    rw [Int.toNat_natCast]
    refine k _ (fun _ => True) (fun i H x H' => i < n ∧ H' = H ∧ x = .int i) Hf1 H1 g (by rw [List.length_map, List.length_range]; exact w.mono (G' := fun _ => True) (Y' := fun i H x H' => i < n ∧ H' = H ∧ x = .int i) (fun _ h => h) fun i H x H' hi _ y => ⟨hi, y.1, y.2.trans (congrArg V.int (Int.zero_add _))⟩) (fun _ _ _ => trivial) fun i H x H' y => ⟨y.2.1, eN i, ?_, y.2.2⟩
    rw [List.getElem?_map, List.getElem?_range y.1]
    rfl⟩
/-- a comprehension's reading -/
def Lc (Γ : Gm pg sc N G lv own) (elt tg iter : Expr) (ifs : List Expr) (scope : Scope) (ρ : List Sl) (ds : List D) : Prop := ∃ (ow : List (Str × Nat)) (wi : TI) (g : TG) (tt : TT) (te : TE), PI Γ.X tg iter wi ∧ BlkOk Γ.X.N Γ.X.env.scope scope ow ∧
  (∀ (s : Shared) (H : Hp) (C : Addr) (cl : List (Str × Addr)) (fp : List Addr), PG (Γ.X.blk s H scope (compEnvC scope cl C Γ.X.env) fp) tg g) ∧ (∀ (s : Shared) (H : Hp) (C : Addr) (cl : List (Str × Addr)) (fp : List Addr), PTs (Γ.X.blk s H scope (compEnvC scope cl C Γ.X.env) fp) ifs tt) ∧
  (∀ (s : Shared) (H : Hp) (C : Addr) (cl : List (Str × Addr)) (fp : List Addr), PE (Γ.X.blk s H scope (compEnvC scope cl C Γ.X.env) fp) elt te) ∧ (∀ x, foldedSetIterable iter Γ.X.env x = pure x) ∧
  ∀ σ Hf H Q, Env pg Γ.c own Hf H σ ρ → (∀ v Hf' H' fp, Gw pg Hf H Hf' H' → Own pg Hf' H' (.lst ds) v fp → (∀ a ∈ fp, H a = none ∧ Hf' a = none) → Q v H') → tLc wi g tt te (ow.map (·.2)) σ H Q
theorem Lc.xo (h : Lc Γ elt tg iter ifs scope ρ ds) : XO Γ (.ListComp elt [⟨tg, iter, ifs, 0⟩] scope pos) ρ (.lst ds) := fun σ Hf H Q E kk => by
  obtain ⟨ow, wi, g, tt, te, h1, h2, h3, h4, h5, h6, h7⟩ := h
  exact RunE.of (pe_lc Γ.calm Γ.nd h1 h2 h3 h4 h5 h6) (h7 σ Hf H Q E kk)
theorem lc_d {α : Type} {zs : List α} {f g : α → D} {t : α → Bool} (i : Nat) (N' : List (Str × Bool)) (G' : List Str) (hb : lcB N sc scope [(x, i)] N' G' = true) (h : XI Γ (.Name x p') iter ρ (zs.map f)) (hz : zs.length < 100000)
    (ht : ∀ (sc' : Scope) (Γ' : Gm pg sc' N' G' lv own) z, z ∈ zs → XTs Γ' ifs (ρ.set i (.sh (f z))) (t z)) (he : ∀ (sc' : Scope) (Γ' : Gm pg sc' N' G' lv own) z, z ∈ zs → t z = true → XE Γ' elt (ρ.set i (.sh (f z))) (g z)) (ho : i ∉ own := by decide) :
    Lc Γ elt (.Name x p') iter ifs scope ρ ((zs.filter t).map g) := by
  obtain ⟨b1, b2, b3, b4, b5⟩ := lcB_all hb
  have b5 : scope.names.lookup x = some .local := b5 (x, i) List.mem_cons_self
  have ok : BlkOk Γ.X.N Γ.X.env.scope scope [(x, i)] := by
    rw [Γ.nn, Γ.hsc]
    exact blkOk_by b1
  have hx : Γ.X.N[i]? = some x := ok.ix (x, i) List.mem_cons_self
  have tgt : ∀ (s : Shared) (H : Hp) (C : Addr) (cl : List (Str × Addr)) (fp : List Addr), PG (Γ.X.blk s H scope (compEnvC scope cl C Γ.X.env) fp) (.Name x p') (gName i) := fun s H C cl fp =>
    have lk : (relabel scope Γ.X.env).names.lookup x = some .local := lookup_relS_keep (sc := Γ.X.env.scope) (by decide) b5
    pg_name (X := Γ.X.blk s H scope (compEnvC scope cl C Γ.X.env) fp) Γ.nd hx (.inl lk) (.inr lk)
  obtain ⟨wi, i1, i2, i3⟩ := h
  refine ⟨[(x, i)], wi, gName i, RunTB Γ.X scope ifs, RunEB Γ.X scope elt, i1, ok, tgt, (fun s H C cl fp => ⟨fun pins s' σ H' Q I hq => hq s H C cl fp pins s' I⟩), (fun s H C cl fp => ⟨fun pins s' σ H' Q I hq => hq s H C cl fp pins s' I⟩), i2, fun σ Hf H Q E kk => ?_⟩
  have hi : i < ρ.length := by
    rw [E.ln, Γ.nc, ← Γ.nl]
    exact (List.getElem?_eq_some_iff.mp hx).1
  refine i3 σ Hf H _ E fun J Gd Y Hf1 H1 g1 w gd yd => fun Dl hD => ?_
  have hf : Hf1 Dl = none := (newNone g1 hD Dl List.mem_cons_self).2
  refine lc_it w (g := gName i) (tt := RunTB Γ.X scope ifs) (te := RunEB Γ.X scope elt) (vs := [i]) (fun k H' => ∃ Hf' acc, Gw pg Hf1 H1 Hf' H' ∧ H' Dl = some (.lst acc) ∧ Hf' Dl = none ∧ Rs pg Hf' (((zs.take k).filter t).map g) acc) ?_ ?_ ?_ ?_
  · exact ⟨Hf1, [], Gw.alloc g1.ff g1.tabs hD, upd_same, hf, rfl⟩
  · rintro k H' _ ⟨Hf', acc, G, _⟩
    exact gd _ _ G
  · rintro k y H' H'' hk ⟨Hf', acc, G, ha, hn, hra⟩ hy
    obtain ⟨e0, dz, hz1, hz2⟩ := yd _ _ _ _ hy
    subst e0
    rw [List.getElem?_map] at hz1
    cases ez : zs[k]? with
    | none => rw [ez] at hz1; cases hz1
    | some z =>
      rw [ez] at hz1
      have hz1 : f z = dz := Option.some.inj hz1
      subst hz1
      have hm : z ∈ zs := List.mem_of_getElem? ez
      have E2 : Env pg Γ.c own Hf' H'' (σ.set i (some y)) (ρ.set i (.sh (f z))) := (E.grow (g1.trans G)).set hi ho (G.rep hz2)
      have es : (wipe σ [i]).set i (some y) = σ.set i (some y) := by rw [wipe1, List.set_set]
      show wipe ((wipe σ [i]).set i (some y)) [i] = wipe σ [i] ∧ RunTB Γ.X scope ifs ((wipe σ [i]).set i (some y)) H'' _
      rw [es]
      refine ⟨by rw [wipe1, wipe1, List.set_set], ?_⟩
      have hlen : (((zs.take k).filter t).map g).length < 100000 := by
        rw [List.length_map]
        have := List.length_filter_le t (zs.take k)
        rw [List.length_take] at this
        omega
      refine lc_turn hb hD G ha hn hra hlen E2 (fun sc' Γ' => ht sc' Γ' z hm) (fun q sc' Γ' => he sc' Γ' z hm q) (fun q Hf2 H2 G2 a2 n2 r2 => ⟨Hf2, acc, G2, a2, n2, ?_⟩) (fun q Hf2 H2 acc' G2 a2 n2 r2 => ⟨Hf2, acc', G2, a2, n2, ?_⟩)
      · rw [filt_take ez, q]
        show Rs pg Hf2 (_ ++ []) acc
        rw [List.append_nil]
        exact r2
      · rw [filt_take ez, q]
        exact r2
  · rintro H' ⟨Hf', acc, G, ha, hn, hra⟩
    refine kk _ Hf' H' [Dl] (g1.trans G) ⟨Dl, acc, rfl, rfl, ha, ?_⟩ fun q hq => ?_
    · rw [List.length_map, List.take_length] at hra
      exact hra
    · have eq : q = Dl := by simpa using hq
      subst eq
      exact ⟨g1.dom q hD, hn⟩
/-- without a test -/
theorem lc_m {α : Type} {zs : List α} {f g : α → D} (i : Nat) (N' : List (Str × Bool)) (G' : List Str) (hb : lcB N sc scope [(x, i)] N' G' = true) (h : XI Γ (.Name x p') iter ρ (zs.map f)) (hz : zs.length < 100000)
    (he : ∀ (sc' : Scope) (Γ' : Gm pg sc' N' G' lv own) z, z ∈ zs → XE Γ' elt (ρ.set i (.sh (f z))) (g z)) (ho : i ∉ own := by decide) : Lc Γ elt (.Name x p') iter [] scope ρ (zs.map g) := by
  have := lc_d (ifs := []) (t := fun _ => true) i N' G' hb h hz (fun _ _ _ _ => .nil) (fun sc' Γ' z hz _ => he sc' Γ' z hz) ho
  rw [List.filter_eq_self.mpr (fun _ _ => rfl)] at this
  exact this
end
section
variable {pg : Pg} {sc : Scope} {N : List (Str × Bool)} {G : List Str} {lv : Nat} {own : List Nat} {Γ : Gf pg sc N G lv own} {ρ : List Sl} {elt iter tg : Expr} {ifs : List Expr} {scope : Scope} {pos p p' : Pos} {y : Str} {ds : List D} {De : De}
/-- x = [..] on one line -/
theorem xs_setLc (i : Nat) (h : Lc Γ.toGm elt tg iter ifs scope ρ ds) (k : De.nx (ρ.set i (.ow (.lst ds)))) (hb : (decide (sc.kind = .function) && decide (sc.names.lookup y = some .local) && (p'.line == p.line) && !(scope.names.any fun (n, k) => n == y && (k == .local || k == .cell))) = true) (hN : N[i]? = some (y, true) := by rfl) (ho : i ∉ own := by decide)
    (hl : pos.line = p.line := by rfl) : XS Γ (.Assign [.Name y p'] (.ListComp elt [⟨tg, iter, ifs, 0⟩] scope p) pos) ρ De := fun σ Hf H D E S => by
  obtain ⟨ow, wi, g, tt, te, h1, h2, h3, h4, h5, h6, h7⟩ := h
  simp only [Bool.and_eq_true, decide_eq_true_eq, Bool.not_eq_true'] at hb
  obtain ⟨⟨⟨b1, b2⟩, b3⟩, b4⟩ := hb
  rw [← Γ.hsc] at b1 b2
  refine RunS.of (ps_setLc Γ.calm Γ.nd (Γ.vis i y hN).1 b2 (sw_true b1 b2 b3 b4) h1 h2 h3 h4 h5 h6) (h7 σ Hf H _ E fun v Hf' H' fp g r nf => S.nx _ Hf' H' _ (E.setO g (Γ.hi E hN) ho r nf) g.gr k)
end
end Lk
set_option maxHeartbeats 4000000
namespace Lk
open PySem PySem.Spec PyProof.Rows L2
/-! ### plain data: compared at any depth -/
mutual
def py : D → PyData
  | .int i => .int i
  | .str x => .str x
  | .bl b => .bool b
  | .tup ds => .tuple (pys ds)
  | .lst ds => .list (pys ds)
  | _ => .none
def pys : List D → List PyData
  | [] => []
  | d :: ds => py d :: pys ds
end
def Pl : Nat → D → Prop
  | _, .non => True
  | _, .int _ => True
  | _, .str x => PyData.strOk x = true
  | n + 1, .tup ds => ∀ d ∈ ds, Pl n d
  | n + 1, .lst ds => ∀ d ∈ ds, Pl n d
  | _, _ => False
section
variable {pg : Pg} {Hf H : Hp}
theorem dp_of (ff : Same Hf H) : ∀ (n : Nat) (d : D) (v : V), Pl n d → R pg Hf d v → Dp pg.K H v (py d)
  | n, .non, _, _, h => by
    have h : _ = V.non := h
    subst h
    exact .non
  | n, .int i, _, _, h => by
    have h : _ = V.int i := h
    subst h
    exact .int i
  | n, .str i, _, _, h => by
    have h : _ = V.str i := h
    subst h
    exact .str i
  | n + 1, .tup ds, _, p, ⟨a, vs, h1, h2, h3⟩ => by
    subst h1
    exact .tup (sqT_mono ff h2) (go n ds vs p h3)
  | n + 1, .lst ds, _, p, ⟨a, vs, h1, h2, h3⟩ => by
    subst h1
    exact .lst (SqL.of (ff _ _ h2)) (go n ds vs p h3)
  | 0, .tup _, _, p, _ => p.elim
  | 0, .lst _, _, p, _ => p.elim
  | 0, .bl _, _, p, _ => p.elim
  | 0, .dic _, _, p, _ => p.elim
  | 0, .obj _ _, _, p, _ => p.elim
  | 0, .clo _ _, _, p, _ => p.elim
  | 0, .scr _, _, p, _ => p.elim
  | _ + 1, .bl _, _, p, _ => p.elim
  | _ + 1, .dic _, _, p, _ => p.elim
  | _ + 1, .obj _ _, _, p, _ => p.elim
  | _ + 1, .clo _ _, _, p, _ => p.elim
  | _ + 1, .scr _, _, p, _ => p.elim
where go (n : Nat) : ∀ (ds : List D) (vs : List V), (∀ d ∈ ds, Pl n d) → Rs pg Hf ds vs → DpAll pg.K H vs (pys ds)
  | [], _, _, h => by
    have h : _ = [] := h
    subst h
    exact .nil
  | d :: ds, _, p, ⟨v, r, h1, h2, h3⟩ => by
    subst h1
    exact .cons (dp_of ff n d v (p d List.mem_cons_self) h2) (go n ds r (fun e he => p e (List.mem_cons_of_mem _ he)) h3)
end
theorem lay_pl : ∀ (n : Nat) (d : D), Pl n d → PyData.canLay0 (py d) = true ∧ PyData.depth (py d) ≤ n
  | n, .non, _ => ⟨rfl, Nat.zero_le _⟩
  | n, .int i, _ => ⟨rfl, Nat.zero_le _⟩
  | n, .str i, p => ⟨by cases n <;> exact p, Nat.zero_le _⟩
  | n + 1, .tup ds, p => ⟨(go n ds p).1, Nat.succ_le_succ (go n ds p).2⟩
  | n + 1, .lst ds, p => ⟨(go n ds p).1, Nat.succ_le_succ (go n ds p).2⟩
  | 0, .tup _, p => p.elim
  | 0, .lst _, p => p.elim
  | 0, .bl _, p => p.elim
  | 0, .dic _, p => p.elim
  | 0, .obj _ _, p => p.elim
  | 0, .clo _ _, p => p.elim
  | 0, .scr _, p => p.elim
  | _ + 1, .bl _, p => p.elim
  | _ + 1, .dic _, p => p.elim
  | _ + 1, .obj _ _, p => p.elim
  | _ + 1, .clo _ _, p => p.elim
  | _ + 1, .scr _, p => p.elim
where go (n : Nat) : ∀ (ds : List D), (∀ d ∈ ds, Pl n d) → PyData.canLayAll0 (pys ds) = true ∧ PyData.depthAll (pys ds) ≤ n
  | [], _ => ⟨rfl, Nat.zero_le _⟩
  | d :: ds, p => by
    obtain ⟨a1, a2⟩ := lay_pl n d (p d List.mem_cons_self)
    obtain ⟨b1, b2⟩ := go n ds fun e he => p e (List.mem_cons_of_mem _ he)
    refine ⟨?_, ?_⟩
    · show (PyData.canLay0 (py d) && PyData.canLayAll0 (pys ds)) = true
      rw [a1, b1]
      rfl
    · show max _ _ ≤ n
      omega
theorem shaped_pl {n : Nat} {d : D} (p : Pl n d) (hn : n ≤ 64) : SeqAt.shaped (py d) = true := by
  obtain ⟨a, b⟩ := lay_pl n d p
  unfold SeqAt.shaped
  rw [a, decide_eq_true (by omega)]
  rfl
theorem eqv_pl : ∀ (n : Nat) (d e : D), Pl n d → Pl n e → (PyData.eqv (py d) (py e) = true ↔ d = e) := by
  intro n
  induction n with
  | zero =>
    intro d e p q
    cases d <;> cases e <;> first | exact p.elim | exact q.elim | simp [py, PyData.eqv, D.int.injEq, D.str.injEq]
  | succ n ih =>
    have go : ∀ (ds es : List D), (∀ d ∈ ds, Pl n d) → (∀ d ∈ es, Pl n d) → (PyData.eqvAll (pys ds) (pys es) = true ↔ ds = es) := by
      intro ds
      induction ds with
      | nil =>
        intro es p q
        cases es with
        | nil => exact ⟨fun _ => rfl, fun _ => rfl⟩
        | cons e es => exact ⟨fun z => (nomatch z), fun z => (nomatch z)⟩
      | cons d ds ihd =>
        intro es p q
        cases es with
        | nil => exact ⟨fun z => (nomatch z), fun z => (nomatch z)⟩
        | cons e es =>
          show (PyData.eqv (py d) (py e) && PyData.eqvAll (pys ds) (pys es)) = true ↔ _
          rw [Bool.and_eq_true, ih d e (p d List.mem_cons_self) (q e List.mem_cons_self), ihd es (fun x hx => p x (List.mem_cons_of_mem _ hx)) (fun x hx => q x (List.mem_cons_of_mem _ hx)), List.cons.injEq]
    intro d e p q
    cases d <;> cases e <;> first | exact p.elim | exact q.elim | simp [py, PyData.eqv, D.int.injEq, D.str.injEq]
    · exact go _ _ p q
    · exact go _ _ p q
theorem any_pl {n : Nat} {d : D} (p : Pl n d) : ∀ (ds : List D), (∀ e ∈ ds, Pl n e) → ((pys ds).any (fun z => PyData.eqv z (py d)) = true ↔ d ∈ ds)
  | [], _ => ⟨fun z => (nomatch z), fun z => (nomatch z)⟩
  | e :: ds, q => by
    show (PyData.eqv (py e) (py d) || (pys ds).any _) = true ↔ _
    rw [Bool.or_eq_true, eqv_pl n e d (q e List.mem_cons_self) p, any_pl p ds fun x hx => q x (List.mem_cons_of_mem _ hx), List.mem_cons]
    exact ⟨fun h => h.elim (fun z => .inl z.symm) .inr, fun h => h.elim (fun z => .inl z.symm) .inr⟩
theorem boolIff {a b : Bool} (h : a = true ↔ b = true) : a = b := by
  cases a <;> cases b <;> simp_all
section
variable {pg : Pg} {sc : Scope} {N : List (Str × Bool)} {G : List Str} {lv : Nat} {own : List Nat} {Γ : Gm pg sc N G lv own} {ρ : List Sl} {a b e e1 : Expr} {es : List Expr} {da db dc d : D} {o : OT} {pos p apos : Pos} {i k : Nat} {x m : Str} {as : List Ar} {c : Bool}
theorem o_eqD {X : Cx} {n : Nat} (hp : pgOf X pg.T = pg) (hu : X.A.units + 64 < cLine) (p : Pl n da) (q : Pl n db) (hn : n ≤ 64) (hc : c = true ↔ da = db) : OpD X pg (compareOp .Eq) da db (.bl c) :=
  ⟨_, op_eqD hu, fun v u Hf H Q r1 r2 ff tb k => ⟨py da, py db, (show X.K = pg.K from congrArg Pg.K hp) ▸ dp_of ff n da v p r1, (show X.K = pg.K from congrArg Pg.K hp) ▸ dp_of ff n db u q r2, shaped_pl p hn, shaped_pl q hn, k _ Hf H (Gw.refl ff tb) (by
    show V.bl _ = V.bl _
    congr 1
    exact boolIff ((eqv_pl n da db p q).trans hc.symm))⟩⟩
theorem o_neD {X : Cx} {n : Nat} (hp : pgOf X pg.T = pg) (hu : X.A.units + 64 < cLine) (p : Pl n da) (q : Pl n db) (hn : n ≤ 64) (hc : c = true ↔ da = db) : OpD X pg (compareOp .NotEq) da db (.bl (!c)) :=
  ⟨_, op_neD hu, fun v u Hf H Q r1 r2 ff tb k => ⟨py da, py db, (show X.K = pg.K from congrArg Pg.K hp) ▸ dp_of ff n da v p r1, (show X.K = pg.K from congrArg Pg.K hp) ▸ dp_of ff n db u q r2, shaped_pl p hn, shaped_pl q hn, k _ Hf H (Gw.refl ff tb) (by
    show V.bl _ = V.bl _
    congr 2
    exact boolIff ((eqv_pl n da db p q).trans hc.symm))⟩⟩
theorem xe_eqD (n : Nat) (ha : XE Γ a ρ da) (hb : XE Γ b ρ db) (hp : Pl n da) (hq : Pl n db) (hc : c = true ↔ da = db) (hn : n ≤ 64 := by decide) (hm : behindInMarks .Eq b = false := by first | exact nomark _ | rfl) : XE Γ (.Compare a [.Eq] [b] pos) ρ (.bl c) := xe_cmp ha hb (o_eqD Γ.hp Γ.room.units hp hq hn hc) hm
theorem xe_neD (n : Nat) (ha : XE Γ a ρ da) (hb : XE Γ b ρ db) (hp : Pl n da) (hq : Pl n db) (hc : c = true ↔ da = db) (hn : n ≤ 64 := by decide) (hm : behindInMarks .NotEq b = false := by first | exact nomark _ | rfl) : XE Γ (.Compare a [.NotEq] [b] pos) ρ (.bl (!c)) := xe_cmp ha hb (o_neD Γ.hp Γ.room.units hp hq hn hc) hm
theorem xt_eqD (n : Nat) (ha : XE Γ a ρ da) (hb : XE Γ b ρ db) (hp : Pl n da) (hq : Pl n db) (hc : c = true ↔ da = db) (hn : n ≤ 64 := by decide) (hm : behindInMarks .Eq b = false := by first | exact nomark _ | rfl) : XT Γ (.Compare a [.Eq] [b] pos) ρ c := xt_cmp ha hb (o_eqD Γ.hp Γ.room.units hp hq hn hc) hm
theorem xt_neD (n : Nat) (ha : XE Γ a ρ da) (hb : XE Γ b ρ db) (hp : Pl n da) (hq : Pl n db) (hc : c = true ↔ da = db) (hn : n ≤ 64 := by decide) (hm : behindInMarks .NotEq b = false := by first | exact nomark _ | rfl) : XT Γ (.Compare a [.NotEq] [b] pos) ρ (!c) := xt_cmp ha hb (o_neD Γ.hp Γ.room.units hp hq hn hc) hm
/-- x in xs, x not in xs -/
theorem xt_inD {ds : List D} (n : Nat) (ha : XE Γ a ρ da) (hb : XL Γ b ρ ds) (hp : Pl n da) (hq : ∀ e ∈ ds, Pl n e) (hc : c = true ↔ da ∈ ds) (hn : n ≤ 63 := by decide) (hm : behindInMarks .In b = false := by with_unfolding_all rfl) : XT Γ (.Compare a [.In] [b] pos) ρ c := fun σ Hf H Q E k =>
  RunT.of (pt_cmpR (op_inD (by have := Γ.room.un; omega)) (runE _ a) (runE _ b) hm) (ha σ Hf H _ E fun v Hf1 H1 g1 r1 => hb σ Hf1 H1 _ (E.grow g1) fun q vs Hf2 H2 g2 h1 h2 => by
    refine ⟨py da, pys ds, by rw [kE Γ]; exact dp_of g2.ff n da v hp (g2.rep r1), .lst (SqL.of h1) (by rw [kE Γ]; exact dp_of.go g2.ff n ds vs hq h2), shaped_pl hp (by omega), ?_, c, ?_, k Hf2 H2 (g1.trans g2)⟩
    · exact shaped_pl (n := n + 1) (d := .lst ds) hq (by omega)
    · congr 1
      exact boolIff ((any_pl hp ds hq).trans hc.symm))
theorem xt_notInD {ds : List D} (n : Nat) (ha : XE Γ a ρ da) (hb : XL Γ b ρ ds) (hp : Pl n da) (hq : ∀ e ∈ ds, Pl n e) (hc : c = true ↔ da ∈ ds) (hn : n ≤ 63 := by decide) (hm : behindInMarks .NotIn b = false := by with_unfolding_all rfl) : XT Γ (.Compare a [.NotIn] [b] pos) ρ (!c) := fun σ Hf H Q E k =>
  RunT.of (pt_cmpR (op_notInD (by have := Γ.room.un; omega)) (runE _ a) (runE _ b) hm) (ha σ Hf H _ E fun v Hf1 H1 g1 r1 => hb σ Hf1 H1 _ (E.grow g1) fun q vs Hf2 H2 g2 h1 h2 => by
    refine ⟨py da, pys ds, by rw [kE Γ]; exact dp_of g2.ff n da v hp (g2.rep r1), .lst (SqL.of h1) (by rw [kE Γ]; exact dp_of.go g2.ff n ds vs hq h2), shaped_pl hp (by omega), ?_, !c, ?_, k Hf2 H2 (g1.trans g2)⟩
    · exact shaped_pl (n := n + 1) (d := .lst ds) hq (by omega)
    · congr 2
      exact boolIff ((any_pl hp ds hq).trans hc.symm))
/-! ### sum of a tuple -/
def rSumT (K : PySem.W.Frag) : List V → Hp → VK → Prop := fun vs H Q => ∃ (a : Addr) (ns : List Int), vs = [V.ref a] ∧ SqT K H a (ns.map V.int) ∧ Q (.int ns.sum) H
theorem cr_sumT {X : Cx} (hc : X.calm = true) : CallR X (.builtin "sum") (rSumT X.K) := by
  intro pins s σ H vs us Q I r h
  obtain ⟨a, ns, rfl, hs, q⟩ := h
  obtain ⟨its, rv, hl, _⟩ := I.tuple hs
  rw [Vals.ref1 r]
  have hi := rv.ints
  obtain ⟨xs, e⟩ := hi.allInts.items
  have hn : numsOf (intItems xs).toList = ns := by rw [← e]; exact hi.numsOf
  rw [nums_intItems] at hn
  have hl : s.heap.IsTuple a its.toArray := hl
  rw [e] at hl
  refine PySem.W.ktm_sumG (I.ok.hd hc) hl fun h' tk t' hk => ?_
  rw [preSum_eq, List.take_of_length_le (by simp), hn]
  exact ⟨.int _, H, I.kept hk, ⟨_, rfl⟩, q⟩
theorem xe_sumT [Bl pg] {ns : List Int} (h : XE Γ e1 ρ (.tup (ns.map D.int))) (j : Nat) (hG : G[j]? = some ("sum" : Str) := by rfl) (hst : ∀ env, starEach [e1] env = [(false, eval e1 env)] := by intro _; rfl) : XE Γ (.Call (.Name "sum" p) [e1] [] pos) ρ (.int ns.sum) := fun σ Hf H Q E kk =>
  bltF (cr_sumT Γ.calm) (Bl.sum (pg := pg)) (by decide +kernel) (XA.sh h .nil hst) j hG (by decide) (by decide) (fun env => by rw [hst env] <;> rfl) (fun env => by rfl) E fun vs Hf' H' g r => by
    obtain ⟨v, rfl, a, ws, rfl, h1, h2⟩ := ars1 r
    rw [reps_ints_inv h2] at h1
    exact ⟨a, ns, rfl, by rw [kE Γ]; exact sqT_mono g.ff h1, kk _ Hf' H' g rfl⟩
/-! ### dicts with texts as keys -/
theorem valV_inr {α : Type} : ∀ {ws : List (Str × V)} {y : Str}, valV (ws.map fun p => ((Sum.inr p.1 : Key), p.2)) (Sum.inr y) = ws.lookup y
  | [], _ => rfl
  | (z, v) :: ws, y => by
    rw [List.map_cons, List.lookup_cons]
    by_cases h : z = y
    · subst h
      rw [beq_self_eq_true, valV_pos rfl]
    · rw [valV_neg (fun q => h (Sum.inr.inj q)), beq_eq_false_iff_ne.mpr (Ne.symm h)]
      exact valV_inr (α := α)
theorem xe_dget {kvs : List (Str × D)} {y : Str} (ha : XE Γ a ρ (.dic kvs)) (hb : XE Γ b ρ (.str y)) (h : kvs.lookup y = some d) (hs : NoSl b := by intro _ _; rfl) : XE Γ (.Subscript a b pos) ρ d := fun σ Hf H Q E k =>
  RunE.of (pe_dget (by have := Γ.room.units; omega) (runE _ a) (runE _ b) hs) (ha σ Hf H _ E fun v Hf1 H1 g1 ⟨p, ws, h1, h2, h3⟩ => by
    subst h1
    refine hb σ Hf1 H1 _ (E.grow g1) fun u Hf2 H2 g2 r2 => ?_
    have r2 : u = V.str y := r2
    subst r2
    obtain ⟨w, hw, rw'⟩ := h3.look h
    have hg := DGet.k (H := H2) (k := Sum.inr y) (g2.ff _ _ (g2.gr _ _ h2))
    rw [valV_inr (α := Nat), hw] at hg
    exact ⟨p, w, rfl, hg, k w Hf2 H2 (g1.trans g2) (g2.rep rw')⟩)
def XD (Γ : Gm pg sc N G lv own) (pos : Pos) (keys : List (Option Expr)) (vals : List Expr) (ρ : List Sl) (kds : List (Str × D)) : Prop := ∃ trs, PPs Γ.X pos keys vals trs ∧ ∀ σ Hf H (Q : List (V × V) → Hp → Prop), Env pg Γ.c own Hf H σ ρ →
  (∀ ws Hf' H', Gw pg Hf H Hf' H' → RepF pg.K cl0 Hf' kds ws → Q (ws.map fun p => (V.str p.1, p.2)) H') → tPairs trs σ H Q
theorem RepF.mono' {Hf Hf' : Hp} {kds : List (Str × D)} {ws : List (Str × V)} (e : Same Hf Hf') (h : RepF pg.K cl0 Hf kds ws) : RepF pg.K cl0 Hf' kds ws := h.mono cm0 e
theorem XD.nil : XD Γ pos [] [] ρ [] := ⟨[], pps_nil, fun σ Hf H Q E k => k [] Hf H E.self rfl⟩
theorem XD.cons {y : Str} {j : Nat} {q : Pos} {ks : List (Option Expr)} {vs : List Expr} {kds : List (Str × D)} (h : XE Γ e ρ d) (hr : XD Γ pos ks vs ρ kds) : XD Γ pos (some (.Constant (.str y) j q) :: ks) (e :: vs) ρ ((y, d) :: kds) := by
  obtain ⟨trs, p1, p2⟩ := hr
  refine ⟨_, pps_cons (runE Γ.X (.Constant (.str y) j q)) (runE Γ.X e) p1, fun σ Hf H Q E k => ?_⟩
  refine (xe_str (Γ := Γ)) σ Hf H _ E fun u Hf0 H0 g0 r0 => ?_
  have r0 : u = V.str y := r0
  subst r0
  exact h σ Hf0 H0 _ (E.grow g0) fun v Hf1 H1 g1 r1 => p2 σ Hf1 H1 _ (E.grow (g0.trans g1)) fun ws Hf2 H2 g2 r2 => k ((y, v) :: ws) Hf2 H2 ((g0.trans g1).trans g2) ⟨v, ws, rfl, g2.rep r1, r2⟩
theorem merge_new : ∀ (more acc : List (Key × V)), (acc.map Prod.fst ++ more.map Prod.fst).Nodup → mergeK acc more = acc ++ more
  | [], acc, _ => by rw [List.append_nil]; rfl
  | p :: r, acc, h => by
    have hp : (acc.any fun kv => decide (kv.1 = p.1)) = false := by
      rw [List.any_eq_false]
      intro q hq e
      have e := of_decide_eq_true e
      rw [List.nodup_append] at h
      exact h.2.2 q.1 (List.mem_map_of_mem hq) p.1 (by simp) e
    have : putK acc p.1 p.2 = acc ++ [p] := by
      unfold putK
      rw [hp]
      rfl
    show mergeK (putK acc p.1 p.2) r = _
    rw [this, merge_new r (acc ++ [p]) (by simpa using h), List.append_assoc]
    rfl
theorem tabs_dk0 {T : List NdefX.NTab} {H : Hp} {l : Addr} {kvs : List (Key × V)} {u : HO} (t : NdefX.TabsN T H) (h : H l = some (.dK kvs)) : NdefX.TabsN T (upd H l u) := fun p hp => by
  obtain ⟨ps, h1, h2, h3⟩ := t p hp
  refine ⟨ps, ?_, h2, fun pos cv hc => ?_⟩
  · rw [upd_ne (ne_of h1 h (fun z => nomatch z))]
    exact h1
  · obtain ⟨c, e1, e2⟩ := h3 pos cv hc
    refine ⟨c, e1, ?_⟩
    rw [upd_ne (ne_of e2 h (by unfold LamX.CodeO; exact fun z => nomatch z))]
    exact e2
theorem tabs_dk {pg : Pg} {Hf H : Hp} {l : Addr} {kvs : List (Key × V)} {u : HO} (t : Tb pg Hf H) (h : H l = some (.dK kvs)) (hc : ∀ q, u ≠ LamX.CodeO l q := by intro _ h; unfold LamX.CodeO at h; cases h) : Tb pg Hf (upd H l u) := ⟨tabs_dk0 t.t h, t.nt, fun a q e => by
  by_cases z : a = l
  · subst z
    rw [upd_same] at e
    exact absurd (Option.some.inj e) (hc q)
  · rw [upd_ne z] at e
    exact t.co a q e⟩
theorem repF_names {Hf : Hp} : ∀ {kds : List (Str × D)} {ws : List (Str × V)}, RepF pg.K cl0 Hf kds ws → ws.map Prod.fst = kds.map Prod.fst
  | [], _, h => by
    have h : _ = [] := h
    rw [h]
    rfl
  | (x, d) :: kds, _, ⟨v, r, h1, h2, h3⟩ => by
    rw [h1, List.map_cons, List.map_cons, repF_names h3]
theorem xe_dic {keys : List (Option Expr)} {vals : List Expr} {kds : List (Str × D)} (h : XD Γ pos keys vals ρ kds) (hd : (kds.map Prod.fst).Nodup := by decide) (hall : keys.all (·.isSome) = true := by rfl) (hl : keys.length = vals.length := by rfl) (h0 : keys ≠ [] := by exact fun z => nomatch z)
    (h15 : keys.length ≤ 15 := by decide) (h15' : kds.length ≤ 15 := by decide) : XE Γ (.Dict keys vals pos) ρ (.dic kds) := fun σ Hf H Q E k => by
  obtain ⟨trs, p1, p2⟩ := h
  refine RunE.of (pe_disp p1 hall hl h0 h15) fun p hp => ?_
  have g0 : Gw pg Hf H Hf (upd H p (.dK [])) := Gw.alloc E.ff E.tabs hp
  refine p2 σ Hf _ _ (E.grow g0) fun ws Hf2 H2 g2 r2 => ?_
  have a2 : H2 p = some (.dK []) := g2.ns p _ upd_same fun ps z => nomatch z
  refine ⟨a2, ws.map fun q => (Sum.inr q.1, q.2), by rw [List.map_map]; rfl, by rw [List.length_map, ← List.length_map (f := Prod.fst), repF_names r2, List.length_map]; exact h15', ?_⟩
  have hm : mergeK [] (ws.map fun q => ((Sum.inr q.1 : Key), q.2)) = ws.map fun q => (Sum.inr q.1, q.2) := by
    rw [merge_new]
    · rfl
    · rw [List.map_nil, List.nil_append, List.map_map]
      have : (Prod.fst ∘ fun q : Str × V => ((Sum.inr q.1 : Key), q.2)) = (fun z : Str => (Sum.inr z : Key)) ∘ Prod.fst := rfl
      rw [this, ← List.map_map, repF_names r2]
      exact List.pairwise_map.mpr (List.Pairwise.imp (fun h z => h (Sum.inr.inj z)) hd)
  rw [hm]
  have hf : Hf p = none := by
    cases q : Hf p with
    | none => rfl
    | some z => rw [E.ff p z q] at hp; cases hp
  have hf2 : Hf2 p = none := (g2.agr p (by rw [upd_same]; exact fun z => nomatch z)).trans hf
  have g3 : Gw pg Hf H Hf2 (upd H2 p (.dK (ws.map fun q => (Sum.inr q.1, q.2)))) := by
    have g := g0.trans g2
    refine ⟨g.gr, fun a o e => ?_, fun a o e ht => ?_, fun a z => g.dom a (NdefX.upd_none z), g.agr, tabs_dk g.tabs a2⟩
    · rw [upd_ne fun z => by rw [z, hf2] at e; cases e]
      exact g.ff a o e
    · rw [upd_ne fun z => by rw [z, hp] at e; cases e]
      exact g.ns a o e ht
  exact k _ _ _ (g3.freeze hp upd_same) ⟨p, ws, rfl, upd_same, r2.mono cm0 (Same.new hf2)⟩
end
end Lk
set_option maxHeartbeats 1000000
namespace Lk
open PySem PySem.Spec PyProof.Rows L2
/-! ### tracked and untracked -/
def un (cs : List Addr) (H : Hp) : Hp := fun a => if a ∈ cs then none else H a
def re (cs : List Addr) (H H' : Hp) : Hp := fun a => if a ∈ cs then H a else H' a
theorem un_in {cs : List Addr} {H : Hp} {a : Addr} (h : a ∈ cs) : un cs H a = none := if_pos h
theorem un_out {cs : List Addr} {H : Hp} {a : Addr} (h : a ∉ cs) : un cs H a = H a := if_neg h
theorem re_in {cs : List Addr} {H H' : Hp} {a : Addr} (h : a ∈ cs) : re cs H H' a = H a := if_pos h
theorem re_out {cs : List Addr} {H H' : Hp} {a : Addr} (h : a ∉ cs) : re cs H H' a = H' a := if_neg h
section
variable {P : Program} {w : World} {H H' : Hp} {h : Heap}
theorem objOk_mono (k1 : ∀ a xs, H a = some (.tup xs) → H' a = some (.tup xs)) (k2 : ∀ a x, H a = some (.own x) → H' a = some (.own x)) : ∀ {o : HO} {a : Addr}, ObjOk P w H h a o → ObjOk P w H' h a o
  | .lst xs, a, x => x
  | .tup xs, a, x => x
  | .dK kvs, a, x => x
  | .dT kvs, a, x => by
    obtain ⟨h1, h2, xs, h3, h4⟩ := x
    exact ⟨h1, h2, xs, L2.Paired.mapP h3 fun p q ⟨a1, a2, a3⟩ => ⟨a1, k1 _ _ a2, a3⟩, h4⟩
  | .set S n, a, x => x
  | .ins C dx fs, a, x => ⟨k2 _ _ x.1, x.2⟩
  | .own _, a, x => x
  | .xd fs, a, x => x
  | .rng lo hi, a, x => x
  | .frz o u, a, x => ⟨x.1, objOk_mono k1 k2 x.2⟩
  | .tbl ps, a, x => x
  | .met f y, a, x => x
  | .ext φ, a, x => x
/-- only made things' cells are untracked -/
def Ex (cs : List Addr) (H : Hp) : Prop := ∀ c ∈ cs, ∃ φ, H c = some (.ext φ)
theorem Ex.keep {cs : List Addr} (e : Ex cs H) {a : Addr} {o : HO} (h : H a = some o) (n : ∀ φ, o ≠ .ext φ) : un cs H a = some o := by
  rw [un_out]
  · exact h
  · intro ha
    obtain ⟨φ, q⟩ := e a ha
    rw [h] at q
    exact n φ (Option.some.inj q)
theorem hok_un {cs : List Addr} (e : Ex cs H) (x : HOk P w H h) : HOk P w (un cs H) h := fun a o q => by
  by_cases ha : a ∈ cs
  · rw [un_in ha] at q
    cases q
  · rw [un_out ha] at q
    exact objOk_mono (fun b xs z => e.keep z fun φ z => nomatch z) (fun b xs z => e.keep z fun φ z => nomatch z) (x a o q)
theorem env0_un {K : PySem.W.Frag} {mg : Str → Option Value} {base : Heap} {A : Around} {outer : List PySem.Env} {s : Shared} {cs : List Addr} (e : Ex cs H) (x : Env0 P w K mg base A outer s H) : Env0 P w K mg base A outer s (un cs H) := by
  have z : ∀ b, H b = none → un cs H b = none := fun b q => by
    by_cases hb : b ∈ cs
    · exact un_in hb
    · rw [un_out hb]; exact q
  exact ⟨x.frames, x.mod, fun b o q => ⟨(x.bs b o q).1, z b (x.bs b o q).2⟩, x.bsz, x.funs, fun b hb => z b (x.frf b hb), hok_un e x.hok, x.bare⟩
/-- behind a call that was run with the cells untracked, they are tracked again -/
theorem ce_re {outer : List PySem.Env} {s s' : Shared} {cs : List Addr} {Q Q' : VK} {u : Value} (e : Ex cs H) (hf : ∀ b ∈ frs outer, H b = none) (hok : HOk P w H s.heap) (c : CE outer P w (un cs H) s Q u s')
    (hq : ∀ v H', (∀ c ∈ cs, H' c = none) → Q v H' → Q' v (re cs H H')) : CE outer P w H s Q' u s' := by
  obtain ⟨v, H', c1, c2, U, c3, c4, c5⟩ := c
  have there : ∀ c ∈ cs, ∃ o, s.heap.get? c = some o := fun c hc => by
    obtain ⟨φ, q⟩ := e c hc
    exact (hok c _ q).2.1
  have hn : ∀ c ∈ cs, H' c = none := fun c hc => by
    obtain ⟨o, ho⟩ := there c hc
    exact U.free c o ho (un_in hc) (by simp)
  have nin : ∀ b, H b = none → b ∉ cs := fun b hb hc => by
    obtain ⟨φ, q⟩ := e b hc
    rw [hb] at q
    cases q
  have up : ∀ a o, H' a = some o → re cs H H' a = some o := fun a o q => by
    rw [re_out]
    · exact q
    · intro hc
      rw [hn a hc] at q
      cases q
  refine ⟨v, re cs H H', c1, c2, ⟨fun b o q1 q2 q3 q4 => U.keep b o q1 (by rw [un_out (nin b q2)]; exact q2) q3 q4, fun b o q1 q2 q3 q4 => U.slot b o q1 (by rw [un_out (nin b q2)]; exact q2) q3 q4,
    fun b o q1 q2 q3 => by rw [re_out (nin b q2)]; exact U.free b o q1 (by rw [un_out (nin b q2)]; exact q2) q3, U.there,
    fun b xs q => up _ _ (U.tups b xs (e.keep q fun φ z => nomatch z)), fun b o u q => up _ _ (U.frzs b o u (e.keep q fun φ z => nomatch z)), fun b ps q => ?_⟩, fun a o q => ?_, c4, hq v H' hn c5⟩
  · obtain ⟨more, z⟩ := U.tbls b ps (e.keep q fun φ z => nomatch z)
    exact ⟨more, up _ _ z⟩
  · by_cases ha : a ∈ cs
    · rw [re_in ha] at q
      obtain ⟨φ, q2⟩ := e a ha
      rw [q2] at q
      cases q
      obtain ⟨x1, ⟨o, x2⟩, x3⟩ := hok a _ q2
      have hk : s'.heap.get? a = some o := U.keep a o x2 (un_in ha) (fun z => by rw [hf a z] at q2; cases q2) (by simp)
      exact ⟨x3 _ _ x1 fun o' ho' => by rw [x2] at ho'; cases ho'; exact hk, ⟨o, hk⟩, x3⟩
    · rw [re_out ha] at q
      exact objOk_mono (fun b xs z => up _ _ z) (fun b xs z => up _ _ z) (c3 a o q)
end
/-! ### data without made functions -/
mutual
def nc : D → Bool
  | .tup ds => ncs ds
  | .lst ds => ncs ds
  | .dic kvs => ncf kvs
  | .obj _ fs => ncf fs
  | .clo _ _ => false
  | .scr _ => false
  | _ => true
def ncs : List D → Bool
  | [] => true
  | d :: ds => nc d && ncs ds
def ncf : List (Str × D) → Bool
  | [] => true
  | (_, d) :: ds => nc d && ncf ds
end
theorem ncs_map {α : Type} {f : α → D} (h : ∀ a, nc (f a) = true) : ∀ xs : List α, ncs (xs.map f) = true
  | [] => rfl
  | x :: xs => by
    show (nc (f x) && ncs (xs.map f)) = true
    rw [h x, ncs_map h xs]
    rfl
section
variable {pg : Pg} {Hf : Hp} {cs : List Addr}
theorem sqT_un (e : Ex cs Hf) {a : Addr} {xs : List V} (h : SqT pg.K Hf a xs) : SqT pg.K (un cs Hf) a xs := by
  rcases h with (h | ⟨o, h⟩) | h
  · exact .inl (.inl (e.keep h fun φ z => nomatch z))
  · exact .inl (.inr ⟨o, e.keep h fun φ z => nomatch z⟩)
  · exact .inr h
mutual
theorem rep_un (e : Ex cs Hf) : ∀ {d : D} {v : V}, nc d = true → R pg Hf d v → R pg (un cs Hf) d v
  | .non, _, _, h => h
  | .bl _, _, _, h => h
  | .int _, _, _, h => h
  | .str _, _, _, h => h
  | .tup ds, _, n, ⟨a, vs, h1, h2, h3⟩ => ⟨a, vs, h1, sqT_un e h2, reps_un e n h3⟩
  | .lst ds, _, n, ⟨a, vs, h1, h2, h3⟩ => ⟨a, vs, h1, e.keep h2 (fun φ z => nomatch z), reps_un e n h3⟩
  | .dic kvs, _, n, ⟨a, ws, h1, h2, h3⟩ => ⟨a, ws, h1, e.keep h2 (fun φ z => nomatch z), repf_un e n h3⟩
  | .obj C fs, _, n, ⟨a, dx, ws, h1, h2, h3⟩ => ⟨a, dx, ws, h1, e.keep h2 (fun φ z => nomatch z), repf_un e n h3⟩
theorem reps_un (e : Ex cs Hf) : ∀ {ds : List D} {vs : List V}, ncs ds = true → Rs pg Hf ds vs → Rs pg (un cs Hf) ds vs
  | [], _, _, h => h
  | d :: ds, _, n, ⟨v, r, h1, h2, h3⟩ => by
    have n : (nc d && ncs ds) = true := n
    rw [Bool.and_eq_true] at n
    exact ⟨v, r, h1, rep_un e n.1 h2, reps_un e n.2 h3⟩
theorem repf_un (e : Ex cs Hf) : ∀ {fs : List (Str × D)} {ws : List (Str × V)}, ncf fs = true → RepF pg.K cl0 Hf fs ws → RepF pg.K cl0 (un cs Hf) fs ws
  | [], _, _, h => h
  | (x, d) :: fs, _, n, ⟨v, r, h1, h2, h3⟩ => by
    have n : (nc d && ncf fs) = true := n
    rw [Bool.and_eq_true] at n
    exact ⟨v, r, h1, rep_un e n.1 h2, repf_un e n.2 h3⟩
end
end
/-! ### a made function called -/
theorem cellsT_ex {Hf : Hp} : ∀ {cs : List Addr} {vs : List V}, CellsT Hf cs vs → Ex cs Hf
  | [], _, _ => fun c hc => nomatch hc
  | c :: cs, _, ⟨v, r, h1, h2, h3, h4⟩ => fun a ha => by
    rcases List.mem_cons.mp ha with z | z
    · subst z
      exact ⟨_, h2⟩
    · exact cellsT_ex h4 a z
theorem cellsT_get {Hf : Hp} : ∀ {cs : List Addr} {vs : List V} {i : Nat} {c : Addr}, CellsT Hf cs vs → cs[i]? = some c → ∃ v, vs[i]? = some v ∧ Hf c = some (CellO c v)
  | c :: cs, _, 0, c', ⟨v, r, h1, h2, h3, h4⟩, e => by
    subst h1
    cases e
    exact ⟨v, rfl, h2⟩
  | c :: cs, _, i + 1, c', ⟨v, r, h1, h2, h3, h4⟩, e => by
    subst h1
    exact cellsT_get (i := i) h4 e
theorem cellsT_len {Hf : Hp} : ∀ {cs : List Addr} {vs : List V}, CellsT Hf cs vs → vs.length = cs.length
  | [], _, h => by
    have h : _ = [] := h
    rw [h]
    rfl
  | c :: cs, _, ⟨v, r, h1, h2, h3, h4⟩ => by rw [h1, List.length_cons, List.length_cons, cellsT_len h4]
theorem cellsT_nd {Hf : Hp} : ∀ {cs : List Addr} {vs : List V}, CellsT Hf cs vs → cs.Nodup
  | [], _, _ => List.nodup_nil
  | c :: cs, _, ⟨v, r, h1, h2, h3, h4⟩ => List.nodup_cons.mpr ⟨h3, cellsT_nd h4⟩
end Lk
set_option maxHeartbeats 1000000
namespace Lk
open PySem PySem.Spec PyProof.Rows L2
open NdefX (NF FnO NOk CellsAt)
open LamX (CodeO)
section
variable {P : Program} {w : World} {H : Hp} {h : Heap} {c : Addr} {v : V}
theorem cell_at (x : HOk P w H h) (e : H c = some (CellO c v)) : ∃ u, RelV v u ∧ h.IsCell c (some u) := (x c _ e).1
theorem cell_code (x : HOk P w H h) (e : H c = some (CellO c v)) {q : Str} (e2 : H c = some (CodeO c q)) : False := by
  obtain ⟨u, _, o, ho, hd⟩ := cell_at x e
  obtain ⟨⟨oc, vs, t, h1, h2, _⟩, _⟩ := x c _ e2
  rw [h1] at ho
  cases ho
  rw [h2] at hd
  cases hd
theorem cell_fn (x : HOk P w H h) (e : H c = some (CellO c v)) {F : NF} (e2 : H c = some (FnO c F)) : False := by
  obtain ⟨u, _, o, ho, hd⟩ := cell_at x e
  obtain ⟨⟨od, sl, doc, pm, ctv, h1⟩, _⟩ := x c _ e2
  rw [h1] at ho
  cases ho
  cases hd
end
/-- what a made function promises: of the captured values, the arguments, the outcome -/
def spC (pg : Pg) (Cc : List D → List Ar → Rz → Prop) : List V → Sp := fun ws vs H Q E => ∃ ds ags r Hf, Cc ds ags r ∧ Rs pg Hf ds ws ∧ ArsOk pg Hf H ags vs ∧ Same Hf H ∧ Tb pg Hf H ∧ PostR pg Hf H Q E r
def cloF (kk : Nat) (cl : List (Str × Addr)) (c : Addr) : NF := NF.of (cloK kk).st (cloK kk).name (cloK kk).qual cl c
def CloF (pg : Pg) (k kk : Nat) (Cc : List D → List Ar → Rz → Prop) : Prop := ∀ (f : Addr) (cl : List (Str × Addr)) (c : Addr) (A : Around) (outer : List PySem.Env) (s : Shared) (H : Hp) (us : List Value) (vs ws : List V) (Q : VK) (E : XK), Room k A → Env0 pg.P pg.w pg.K pg.mg pg.base A outer s H →
  H f = some (FnO f (cloF kk cl c)) → H c = some (CodeO c (cloK kk).qual) → CellsAt cl (cloK kk).fr (ws.map some) s.heap H → Vals vs us → spC pg Cc ws vs H Q E → codeAny (model pg.P pg.w) A (.call (.ref f) ⟨us, []⟩) (CR CX0 outer pg.P pg.w H s Q E) s
section
variable {pg : Pg} {sc : Scope} {N : List (Str × Bool)} {G : List Str} {lv : Nat} {own : List Nat} {Γ : Gm pg sc N G lv own} {ρ : List Sl} {e1 : Expr} {d : D} {o : OT} {pos p : Pos} {k kk : Nat} {x : Str} {Cc : List D → List Ar → Rz → Prop} {ds : List D} {r : Rz}
theorem gw_re {Hf H Hf' H' : Hp} {cs : List Addr} (e : Ex cs Hf) (ff : Same Hf H) (t0 : Tb pg Hf H) (g : Gw pg (un cs Hf) (un cs H) Hf' H') (hn : ∀ c ∈ cs, H' c = none) : Gw pg Hf H (re cs Hf Hf') (re cs H H') ∧ Same Hf' (re cs Hf Hf') := by
  have hn2 : ∀ c ∈ cs, Hf' c = none := fun c hc => by
    cases q : Hf' c with
    | none => rfl
    | some o =>
      have := g.ff c o q
      rw [hn c hc] at this
      cases this
  have s1 : Same Hf' (re cs Hf Hf') := fun a o q => by
    rw [re_out]
    · exact q
    · intro ha
      rw [hn2 a ha] at q
      cases q
  have s2 : Same H' (re cs H H') := fun a o q => by
    rw [re_out]
    · exact q
    · intro ha
      rw [hn a ha] at q
      cases q
  refine ⟨⟨fun a o q => ?_, fun a o q => ?_, fun a o q ht => ?_, fun a q => ?_, fun a q => ?_, ⟨g.tabs.t.ext s2, fun a ps q => ?_, fun a q2 q => ?_⟩⟩, s1⟩
  · by_cases ha : a ∈ cs
    · rw [re_in ha]; exact q
    · rw [re_out ha]; exact g.gr a o (by rw [un_out ha]; exact q)
  · by_cases ha : a ∈ cs
    · rw [re_in ha] at q ⊢; exact ff a o q
    · rw [re_out ha] at q ⊢; exact g.ff a o q
  · by_cases ha : a ∈ cs
    · rw [re_in ha]; exact q
    · rw [re_out ha]; exact g.ns a o (by rw [un_out ha]; exact q) ht
  · by_cases ha : a ∈ cs
    · rw [re_in ha] at q; exact q
    · rw [re_out ha] at q
      have := g.dom a q
      rw [un_out ha] at this
      exact this
  · by_cases ha : a ∈ cs
    · rw [re_in ha]
    · rw [re_out ha]
      exact (g.agr a (by rw [un_out ha]; exact q)).trans (un_out ha)
  · by_cases ha : a ∈ cs
    · rw [re_in ha] at q
      obtain ⟨φ, q2⟩ := e a ha
      rw [q2] at q
      cases q
    · rw [re_out ha] at q
      exact g.tabs.nt a ps q
  · by_cases ha : a ∈ cs
    · rw [re_in ha] at q ⊢
      exact t0.co a q2 q
    · rw [re_out ha] at q ⊢
      exact g.tabs.co a q2 q
/-- a call of a made function at a name -/
theorem clo_core (F : CloF pg k kk Cc) (i : Nat) (h : ρ[i]? = some (.sh (.clo kk ds))) (ha : XE Γ e1 ρ d) (n1 : nc d = true) (n2 : ncs ds = true) (hC : Cc ds [.sh d] r) (hr : k ≤ lv) (hN : N[i]? = some (x, true)) (hdb : (x == ("__debug__" : Str)) = false) (hcd : (x == ("__classdict__" : Str)) = false)
    (hst : ∀ env, starEach [e1] env = [(false, eval e1 env)]) {σ : L2.St} {Hf H : Hp} {Q : VK} (E : Env pg Γ.c own Hf H σ ρ)
    (hQ : ∀ Hf1 H1, Gw pg Hf H Hf1 H1 → PostR pg Hf1 H1 Q E0 r) : RunE Γ.X (.Call (.Name x p) [e1] [] pos) σ H Q := by
  obtain ⟨P, w, K, mg, base, T⟩ := pg
  obtain ⟨X, c0, hp, hsc, nd, nn, nl, nc_, vis, gl, calm, room⟩ := Γ
  cases hp
  intro pins s I
  obtain ⟨v, es, a, cv, rfl, ⟨c, cs, cl, h1, h2, h3, h4, h5, h6⟩, hrs⟩ := E.sh h
  obtain ⟨n, vi⟩ := vis i x hN
  refine wpAny_Call_Name_kw (thn ((pe_var (pos := p) n vi hdb hcd).run pins s σ H (fun v H1 => v = .ref a ∧ H1 = H) I ⟨.ref a, es, rfl, rfl⟩) fun u s1 ⟨v, H1, I1, r1, q1⟩ => ?_)
  obtain ⟨ev, eH⟩ := q1
  subst ev eH
  obtain rfl : u = Value.ref a := r1
  refine PySem.W.callWith_F (first := []) (NdefX.fnAt_of I1 (E.ff _ _ h1)) (thn ((pa_cons (runE X e1) pa_nil (by rw [hst] <;> rfl)).run pos pins s1 σ H1 (fun vs H2 => ∃ v Hf2, vs = [v] ∧ Gw (pgOf X T) Hf H1 Hf2 H2 ∧ R (pgOf X T) Hf2 d v) I1 (ha σ Hf H1 _ E fun v' Hf2 H2 g r2 => ⟨v', Hf2, rfl, g, r2⟩)) fun us s2 ⟨vs, H2, I2, rv, v', Hf2, ev, g, r2⟩ => ?_) (by rw [hst] <;> rfl) (by rfl)
  subst ev
  have f2 : H2 a = some (FnO a (cloF kk cl c)) := g.ff _ _ (g.gr _ _ h1)
  have c2 : H2 c = some (CodeO c (cloK kk).qual) := g.ff _ _ (g.gr _ _ h2)
  refine ⟨NdefX.fnAt_of I2 f2, ?_⟩
  have h3' := h3.mono g.gr
  have ex : Ex cs Hf2 := cellsT_ex h3'
  have exH : Ex cs H2 := fun z hz => by
    obtain ⟨φ, q⟩ := ex z hz
    exact ⟨φ, g.ff _ _ q⟩
  have cellH : ∀ (j : Nat) z, cs[j]? = some z → ∃ y, cv[j]? = some y ∧ H2 z = some (CellO z y) := fun j z hz => by
    obtain ⟨y, y1, y2⟩ := cellsT_get h3' hz
    exact ⟨y, y1, g.ff _ _ y2⟩
  have notc : ∀ z ∈ cs, ∀ q, H2 z ≠ some (CodeO z q) := fun z hz q e => by
    obtain ⟨j, hj⟩ := List.mem_iff_getElem?.mp hz
    obtain ⟨y, _, hy⟩ := cellH j z hj
    exact cell_code I2.hok hy e
  have notf : ∀ z ∈ cs, ∀ q, H2 z ≠ some (FnO z q) := fun z hz q e => by
    obtain ⟨j, hj⟩ := List.mem_iff_getElem?.mp hz
    obtain ⟨y, _, hy⟩ := cellH j z hj
    exact cell_fn I2.hok hy e
  have fU : un cs H2 a = some (FnO a (cloF kk cl c)) := by
    rw [un_out fun hz => notf a hz _ f2]
    exact f2
  have cU : un cs H2 c = some (CodeO c (cloK kk).qual) := by
    rw [un_out fun hz => notc c hz _ c2]
    exact c2
  have tU : NdefX.TabsN T (un cs H2) := fun q hq => by
    obtain ⟨ps, t1, t2, t3⟩ := g.tabs.t q hq
    refine ⟨ps, exH.keep t1 (fun φ z => nomatch z), t2, fun ps' cv' hc' => ?_⟩
    obtain ⟨c', e1, e2⟩ := t3 ps' cv' hc'
    exact ⟨c', e1, by rw [un_out fun hz => notc c' hz _ e2]; exact e2⟩
  have hl : cv.length = (cloK kk).fr.length := (cellsT_len h3).trans h5
  have at_ : CellsAt cl (cloK kk).fr (cv.map some) s2.heap (un cs H2) := by
    have where_ : ∀ y z, cl.lookup y = some z → ∃ j : Nat, (cloK kk).fr[j]? = some y ∧ cs[j]? = some z := fun y z hz => by
      obtain ⟨j, hj⟩ := List.mem_iff_getElem?.mp (h6 y z hz)
      exact ⟨j, hj, by rw [← h4 j y hj]; exact hz⟩
    refine ⟨by rw [List.length_map]; exact hl, fun y z hz => ?_, fun y y' z hz hz' => ?_, fun j y hj => ?_⟩
    · obtain ⟨j, j1, j2⟩ := where_ y z hz
      obtain ⟨u, _, hu⟩ := cellH j z j2
      obtain ⟨u', _, hu'⟩ := cell_at I2.hok hu
      exact ⟨un_in (List.mem_of_getElem? j2), _, hu'⟩
    · obtain ⟨j, j1, j2⟩ := where_ y z hz
      obtain ⟨j', j1', j2'⟩ := where_ y' z hz'
      have hj : j < cs.length := (List.getElem?_eq_some_iff.mp j2).1
      have := (List.getElem?_inj (j := j') hj (cellsT_nd h3)).mp (j2.trans j2'.symm)
      subst this
      rw [j1] at j1'
      exact Option.some.inj j1'
    · have hj' : j < cs.length := by rw [h5]; exact (List.getElem?_eq_some_iff.mp hj).1
      have e0 : cs[j]? = some cs[j] := List.getElem?_eq_getElem hj'
      refine ⟨cs[j], by rw [h4 j y hj]; exact e0, fun v0 hv0 => ?_⟩
      obtain ⟨u, hu1, hu2⟩ := cellH j _ e0
      rw [List.getElem?_map, hu1] at hv0
      cases hv0
      exact cell_at I2.hok hu2
  show wpAny _ _ (call (.ref a) us) _ _ _
  have PQ := hQ Hf2 H2 g
  have e0 := I2.env0
  have run := F a cl c X.A X.stack s2 (un cs H2) us [v'] cv (fun v H' => (∀ c ∈ cs, H' c = none) → Q v (re cs H2 H')) E0 (room.mono hr) (env0_un exH e0) fU cU at_ rv
  refine wpAny_call (codeAny_mono (run ⟨ds, [.sh d], r, un cs Hf2, hC, ?_, ?_, fun z o q => ?_, ⟨tU, fun z ps q => ?_, fun z q0 q => ?_⟩, ?_⟩) fun r0 s' hq => ?_)
  · exact reps_un ex n2 (hrs.mono cm0 g.gr)
  · exact ⟨v', [], rfl, rep_un ex n1 r2, rfl⟩
  · by_cases hz : z ∈ cs
    · rw [un_in hz] at q; cases q
    · rw [un_out hz] at q ⊢; exact g.ff z o q
  · by_cases hz : z ∈ cs
    · rw [un_in hz] at q; cases q
    · rw [un_out hz] at q; exact g.tabs.nt z ps q
  · by_cases hz : z ∈ cs
    · rw [un_in hz] at q; cases q
    · rw [un_out hz] at q ⊢; exact g.tabs.co z q0 q
  · cases r with
    | sh d' =>
      exact fun v0 Hf3 H3 g3 r3 hn => by
        obtain ⟨G1, G2⟩ := gw_re ex g.ff g.tabs g3 hn
        exact PQ v0 _ _ G1 (r3.mono cm0 G2)
    | ow o' =>
      exact fun v0 Hf3 H3 fp g3 r3 nf hn => by
        obtain ⟨G1, G2⟩ := gw_re ex g.ff g.tabs g3 hn
        have nin : ∀ b ∈ fp, b ∉ cs := fun b hb hc => by
          obtain ⟨u, hu, _⟩ := r3.there b hb
          rw [hn b hc] at hu
          cases hu
        refine PQ v0 _ _ fp G1 (r3.mono cm0 G2 fun b hb u hu _ => by rw [re_out (nin b hb)]; exact hu) fun b hb => ⟨?_, ?_⟩
        · have := (nf b hb).1
          rw [un_out (nin b hb)] at this
          exact this
        · rw [re_out (nin b hb)]
          exact (nf b hb).2
    | ex C =>
      exact fun Hf3 H3 g3 => by
        have := PQ Hf2 H2 (Gw.refl g.ff g.tabs)
        exact this
  · cases r0 with
    | error e => exact hq.elim
    | ok fl =>
      cases fl with
      | ret u => exact I2.after (ce_re exH (fun b hb => e0.frf b hb) e0.hok hq fun v0 H' hn q => q hn)
      | next => exact False.elim hq
      | brk => exact False.elim hq
      | cont => exact False.elim hq
theorem xe_clo (F : CloF pg k kk Cc) (i : Nat) (h : ρ[i]? = some (.sh (.clo kk ds))) (ha : XE Γ e1 ρ d) (n1 : nc d = true) (n2 : ncs ds = true) {d' : D} (hC : Cc ds [.sh d] (.sh d')) (hr : k ≤ lv := by decide) (hN : N[i]? = some (x, true) := by rfl) (hdb : (x == ("__debug__" : Str)) = false := by decide) (hcd : (x == ("__classdict__" : Str)) = false := by decide)
    (hst : ∀ env, starEach [e1] env = [(false, eval e1 env)] := by intro _; rfl) : XE Γ (.Call (.Name x p) [e1] [] pos) ρ d' := fun σ Hf H Q E kk' =>
  clo_core F i h ha n1 n2 hC hr hN hdb hcd hst E fun Hf1 H1 g v Hf2 H2 g2 r2 => kk' v Hf2 H2 (g.trans g2) r2
theorem xo_clo (F : CloF pg k kk Cc) (i : Nat) (h : ρ[i]? = some (.sh (.clo kk ds))) (ha : XE Γ e1 ρ d) (n1 : nc d = true) (n2 : ncs ds = true) (hC : Cc ds [.sh d] (.ow o)) (hr : k ≤ lv := by decide) (hN : N[i]? = some (x, true) := by rfl) (hdb : (x == ("__debug__" : Str)) = false := by decide) (hcd : (x == ("__classdict__" : Str)) = false := by decide)
    (hst : ∀ env, starEach [e1] env = [(false, eval e1 env)] := by intro _; rfl) : XO Γ (.Call (.Name x p) [e1] [] pos) ρ o := fun σ Hf H Q E kk' =>
  clo_core F i h ha n1 n2 hC hr hN hdb hcd hst E fun Hf1 H1 g v Hf2 H2 fp g2 r2 nf => kk' v Hf2 H2 fp (g.trans g2) r2 fun a ha => ⟨g.dom a (nf a ha).1, (nf a ha).2⟩
end
end Lk
set_option maxHeartbeats 1000000
namespace Lk
open PySem PySem.Spec PyProof.Rows L2
open NdefX (NF FnO NOk CellsAt)
open LamX (CodeO)
/-! ### a made function handed out -/
def trk (cs : List Addr) (vs : List V) (H : Hp) : Hp := fun a => match (cs.zip vs).lookup a with
  | some v => some (CellO a v)
  | none => H a
theorem zlook : ∀ {cs : List Addr} {vs : List V} {i : Nat} {c : Addr} {v : V}, cs.Nodup → cs[i]? = some c → vs[i]? = some v → (cs.zip vs).lookup c = some v
  | [], _, _, _, _, _, h, _ => by simp at h
  | c :: cs, [], _, _, _, _, _, h => by simp at h
  | c :: cs, v :: vs, 0, c', v', nd, h1, h2 => by
    simp at h1 h2
    subst h1 h2
    rw [List.zip_cons_cons, List.lookup_cons, beq_self_eq_true]
  | c :: cs, v :: vs, i + 1, c', v', nd, h1, h2 => by
    have hc : c' ∈ cs := List.mem_of_getElem? (by simpa using h1)
    have hne : c' ≠ c := fun e => (List.nodup_cons.mp nd).1 (e ▸ hc)
    rw [List.zip_cons_cons, List.lookup_cons, beq_eq_false_iff_ne.mpr hne]
    exact zlook (i := i) (List.nodup_cons.mp nd).2 (by simpa using h1) (by simpa using h2)
theorem zlook_none : ∀ {cs : List Addr} {vs : List V} {c : Addr}, c ∉ cs → (cs.zip vs).lookup c = none
  | [], _, _, _ => by simp
  | c :: cs, [], _, _ => by simp
  | c :: cs, v :: vs, c', h => by
    rw [List.zip_cons_cons, List.lookup_cons, beq_eq_false_iff_ne.mpr (fun e : c' = c => h (by rw [e]; exact List.mem_cons_self))]
    exact zlook_none fun z => h (List.mem_cons_of_mem _ z)
theorem trk_in {cs : List Addr} {vs : List V} {H : Hp} {i : Nat} {c : Addr} {v : V} (nd : cs.Nodup) (h1 : cs[i]? = some c) (h2 : vs[i]? = some v) : trk cs vs H c = some (CellO c v) := by
  unfold trk
  rw [zlook nd h1 h2]
theorem trk_out {cs : List Addr} {vs : List V} {H : Hp} {c : Addr} (h : c ∉ cs) : trk cs vs H c = H c := by
  unfold trk
  rw [zlook_none h]
theorem cellsT_of {Hf : Hp} : ∀ {cs : List Addr} {vs : List V}, cs.Nodup → vs.length = cs.length → (∀ (i : Nat) c v, cs[i]? = some c → vs[i]? = some v → Hf c = some (CellO c v)) → CellsT Hf cs vs
  | [], [], _, _, _ => rfl
  | [], _ :: _, _, h, _ => by cases h
  | _ :: _, [], _, h, _ => by cases h
  | c :: cs, v :: vs, nd, hl, h => ⟨v, vs, rfl, h 0 c v rfl rfl, (List.nodup_cons.mp nd).1, cellsT_of (List.nodup_cons.mp nd).2 (by simpa using hl) fun i c' v' h1 h2 => h (i + 1) c' v' (by simpa using h1) (by simpa using h2)⟩
theorem start_slot {N : List Str} {vs : List V} {i : Nat} {v : V} {o : Option V} {j : Nat} (h : vs[i]? = some v) (hj : i ≠ j) : NdefX.slotAt ((L2.start N vs).set j o) i = some v := by
  apply NdefX.slotAt_of
  rw [List.getElem?_set_ne (Ne.symm hj)]
  exact start_get h
/-- what the head says of a def that hands out a def -/
structure MkF (pg : Pg) (i kk : Nat) (x : Str) (f : Addr) (fd : FuncData) (c P : Addr) : Prop where
  mg : pg.mg x = some (.ref f)
  kp : PySem.W.keepIn pg.K (.ref f) = true
  fn : FunD pg.K x x (defArgs (top i)) (defBody (top i)) (defScope (top i)) [] [] f fd
  code : fd.code = .ref c
  tab : LamX.TabB pg.base pg.mg c P
  mem : (P, fun _ _ => (cloK kk).qual) ∈ pg.T
  uni : ∀ p ∈ pg.T, p.1 = P → p.2 = fun _ _ => (cloK kk).qual
/-- the looks at the text -/
structure MkT (i kk : Nat) (x : Str) (ps : List Str) : Prop where
  fs : FnScope (ps ++ [(cloK kk).name]) ps (defScope (top i))
  body : ∃ p1 p2, defBody (top i) = [(cloK kk).st, .Return (some (.Name (cloK kk).name p1)) p2]
  st : ∃ pos, (cloK kk).st = .FunctionDef (cloK kk).name (C8.fnArgs (cloK kk).st) (C8.fnBody (cloK kk).st) [] none [] (C8.fnScope (cloK kk).st) none (cloK kk).name pos
  nb : NdefX.ndefB (defScope (top i)) (C8.fnScope (cloK kk).st) ps = true
  fr : (cloK kk).fr = ps
  d0 : (C8.fnArgs (cloK kk).st).defaults = []
  k0 : (C8.fnArgs (cloK kk).st).kw_defaults = []
  an : ∀ env, annTrees (C8.fnArgs (cloK kk).st) none env = []
  loc : (defScope (top i)).names.lookup (cloK kk).name = some .local
  qn : (cloK kk).qual = x ++ ".<locals>." ++ (cloK kk).name
  onlyfr : ∀ y, (y, NameKind.free) ∈ (C8.fnScope (cloK kk).st).names → y ∈ ps
  db : ((cloK kk).name == ("__debug__" : Str)) = false
  cd : ((cloK kk).name == ("__classdict__" : Str)) = false
theorem mk_fn {pg : Pg} {i kk k : Nat} {x : Str} {ps : List Str} {f : Addr} {fd : FuncData} {c P : Addr} (M : MkF pg i kk x f fd c P) (T : MkT i kk x ps)
    (hbi : ∀ (kV doc pm : Value) (an : Option Addr) (cdv ct : Value) (us : List Value), us.length = ps.length → bindArgs (PySem.W.fnOf x x (defArgs (top i)) (defBody (top i)) (defScope (top i)) .none kV doc pm an cdv ct) ⟨us, []⟩ = pure (ps.zip us)) :
    Fn pg (k + 1) false x [] (Ct (fun ds : List D => ds.length = ps.length) (fun ds => ds.map Ar.sh) fun ds => .sh (.clo kk ds)) := by
  have F := M.fn
  refine ⟨f, fd, ps, [], [], M.mg, M.kp, ?_, F.bindsN hbi, .nil, fun _ => rfl⟩
  obtain ⟨oc, od, dV, kV, doc, pm, an, cdv, ct, osl, rfl, lk, hcd, hD, _⟩ := F.ex
  have ecd : cdv = .ref c := M.code
  have S := T.fs
  refine ⟨fun vs H Q E ⟨ags, r, Hf, ⟨ds, h0, h1, _⟩, h2, _⟩ => by rw [h2.length, h1, List.length_map]; exact h0, fun A outer s H args us vs Q E hr e0 hb r hsp => ?_⟩
  obtain ⟨ags, rz, Hf, ⟨ds, hl0, rfl, rfl⟩, hro, ff, tb, post⟩ := hsp
  have hrs : Rs pg Hf ds vs := hro.sh
  have hlv : vs.length = ps.length := by rw [hrs.length]; exact hl0
  have KX : pg.K.In s.heap := e0.mod.kin.keeps fun b o e => (e0.bs b o e).1
  have lim : s.heap.NoLimit := e0.mod.nolimit.keeps fun b o e => (e0.bs b o e).1
  have hkind : ∀ y ∈ ps.zip us, (defScope (top i)).names.lookup y.1 = some .local ∨ ((defScope (top i)).names.lookup y.1 = some .cell ∧ ((cellsFrom (s.heap.objs.size + 1) (defScope (top i)).names []).lookup y.1).isSome = true) := fun ⟨n, v⟩ hy => by
    rcases S.par n (List.of_mem_zip hy).1 with q | q
    · exact .inl q
    · exact .inr ⟨q, PySem.W.cellsFrom_some _ _ _ (.inl q)⟩
  refine codeAny_call_function hr.depth (KX _ _ lk) rfl S.co S.gen rfl (PySem.W.codeRec_of KX hcd) (hb _ _ _ _ ?_)
  refine wpAny_newFunctionEnv_cells S.kind hkind fun env he s1 xx => ?_
  subst he
  refine ⟨lim.keeps xx.toInCall.keep, codeAny_func ?_⟩
  let X : Cx := cxOf CX0 pg.P pg.w pg.K pg.mg pg.base (ps ++ [(cloK kk).name]) x (defScope (top i)) f cdv A outer s H E
  have I : Inv X [] (L2.start (ps ++ [(cloK kk).name]) vs) H s1 := inv_start S hr.hd e0 hlv r xx
  obtain ⟨p1, p2, hbody⟩ := T.body
  obtain ⟨pos, hst⟩ := T.st
  have hNi : (ps ++ [(cloK kk).name])[ps.length]? = some (cloK kk).name := by simp
  have nd := NdefX.ps_ndefMS (X := X) (i := ps.length) hst M.tab ecd M.mem T.qn M.uni (NdefX.ndef_free T.nb) T.d0 T.k0 (T.an _) S.nd hNi (.inl T.loc) (.inl rfl)
  show wpAny _ _ (execs (defBody (top i)) _) _ _ _
  rw [hbody]
  refine wpAny_execs_cons (thn (nd.run [] s1 (L2.start (ps ++ [(cloK kk).name]) vs) H ⟨fun σ' H' => ∃ f' c', σ' = (L2.start (ps ++ [(cloK kk).name]) vs).set ps.length (some (.ref f')) ∧ LamX.ExtN H H' ∧ (∀ b, H' b = none → H b = none) ∧ NdefX.TabsN pg.T H' ∧ H f' = none ∧
      H' f' = some (FnO f' (cloF kk (cloFrom X.env.cells (C8.fnScope (cloK kk).st).names []) c')) ∧ H' c' = some (CodeO c' (cloK kk).qual), fun _ _ => False, fun _ _ => False, fun _ _ => False⟩ I ⟨tb.t, fun f' c' H1 e1 e2 e3 e4 e5 e6 => ⟨f', c', rfl, e1, e2, e3, e4, ?_, ?_⟩⟩) fun fl s2 q => ?_)
  · have hq : X.env.qual ++ (cloK kk).name = (cloK kk).qual := T.qn.symm
    rw [hq] at e5
    exact e5
  · have hq : (NF.of (cloK kk).st (cloK kk).name (X.env.qual ++ (cloK kk).name) (cloFrom X.env.cells (C8.fnScope (cloK kk).st).names []) c').qual = (cloK kk).qual := T.qn.symm
    rw [hq] at e6
    exact e6
  cases fl with
  | brk => obtain ⟨_, _, _, z⟩ := q; exact z.elim
  | cont => obtain ⟨_, _, _, z⟩ := q; exact z.elim
  | ret u => obtain ⟨_, _, _, _, _, z⟩ := q; exact z.elim
  | next =>
  obtain ⟨σ', H', J, f', c', rfl, ex, dm, tn, nf, hf', hc'⟩ := q
  have hil : ps.length < (L2.start (ps ++ [(cloK kk).name]) vs).length := by rw [start_len (by rw [hlv]; simp)]; simp
  refine wpAny_execs_cons (wpAny_Return_some (thn ((pe_var (X := X) (pos := p1) hNi (.inl T.loc) T.db T.cd).run [] s2 _ H' (fun v H2 => v = .ref f' ∧ H2 = H') J ⟨.ref f', by rw [List.getElem?_set_self hil], rfl, rfl⟩) fun u s3 ⟨v, H2, J2, rv, ev, eH⟩ => ?_))
  subst ev eH
  have caps : NdefX.Caps X (cloFrom X.env.cells (C8.fnScope (cloK kk).st).names []) ps (List.range ps.length) := NdefX.Caps.made J2.ok (NdefX.ndef_free T.nb) (NdefX.ndef_fr T.nb) (by
    apply List.ext_getElem?
    intro j
    rw [List.getElem?_map, List.getElem?_map]
    by_cases hj : j < ps.length
    · rw [List.getElem?_range hj, List.getElem?_eq_getElem hj]
      show some ((ps ++ [(cloK kk).name])[j]?) = _
      rw [List.getElem?_append_left hj, List.getElem?_eq_getElem hj]
      rfl
    · rw [List.getElem?_eq_none (by rw [List.length_range]; omega), List.getElem?_eq_none (by omega)]
      rfl)
  have ca := NdefX.cells_of J2 caps
  generalize hcl : cloFrom X.env.cells (C8.fnScope (cloK kk).st).names [] = cl at ca caps hf'
  obtain ⟨cs, hcs⟩ : ∃ cs, cs = ps.map fun y => (cl.lookup y).getD 0 := ⟨_, rfl⟩
  have hcsl : cs.length = ps.length := by rw [hcs, List.length_map]
  have csAt : ∀ (j : Nat) y, ps[j]? = some y → cl.lookup y = cs[j]? := fun j y hj => by
    obtain ⟨z, hz, _⟩ := ca.has j y hj
    rw [hcs, List.getElem?_map, hj]
    show _ = some ((cl.lookup y).getD 0)
    rw [hz]
    rfl
  have ndp : ps.Nodup := by
    have := S.nd
    exact (List.nodup_append.mp this).1
  have ndc : cs.Nodup := by
    rw [List.nodup_iff_pairwise_ne] at *
    rw [List.pairwise_iff_getElem] at *
    intro a b ha hb hab e
    have ha' : a < ps.length := by omega
    have hb' : b < ps.length := by omega
    have e1 := csAt a ps[a] (List.getElem?_eq_getElem ha')
    have e2 := csAt b ps[b] (List.getElem?_eq_getElem hb')
    rw [List.getElem?_eq_getElem ha] at e1
    rw [List.getElem?_eq_getElem hb, ← e] at e2
    exact ndp a b ha' hb' hab (ca.inj _ _ _ e1 e2)
  have cnone : ∀ z ∈ cs, H2 z = none := fun z hz => by
    obtain ⟨j, hj⟩ := List.mem_iff_getElem?.mp hz
    have hj' : j < ps.length := by rw [← hcsl]; exact (List.getElem?_eq_some_iff.mp hj).1
    have := csAt j ps[j] (List.getElem?_eq_getElem hj')
    rw [hj] at this
    exact (ca.all _ _ this).1
  have cnew : ∀ z ∈ cs, s.heap.objs.size ≤ z := fun z hz => by
    obtain ⟨j, hj⟩ := List.mem_iff_getElem?.mp hz
    have hj' : j < ps.length := by rw [← hcsl]; exact (List.getElem?_eq_some_iff.mp hj).1
    have := csAt j ps[j] (List.getElem?_eq_getElem hj')
    rw [hj] at this
    exact J2.ok.cab ps[j] z rfl (caps.sub _ _ this)
  have cval : ∀ (j : Nat) z, cs[j]? = some z → ∃ v, vs[j]? = some v ∧ ∃ u, RelV v u ∧ s3.heap.IsCell z (some u) := fun j z hj => by
    have hj' : j < ps.length := by rw [← hcsl]; exact (List.getElem?_eq_some_iff.mp hj).1
    have hv : j < vs.length := by omega
    obtain ⟨z', h1, h2⟩ := ca.has j ps[j] (List.getElem?_eq_getElem hj')
    rw [csAt j _ (List.getElem?_eq_getElem hj'), hj] at h1
    cases h1
    refine ⟨vs[j], List.getElem?_eq_getElem hv, h2 vs[j] ?_⟩
    rw [List.getElem?_map, List.getElem?_range hj']
    show some (NdefX.slotAt _ j) = _
    rw [start_slot (List.getElem?_eq_getElem hv) (by omega)]
  -- the heap with the cells tracked
  have up : Same H2 (trk cs vs H2) := fun a o q => by
    rw [trk_out]
    · exact q
    · intro ha
      rw [cnone a ha] at q
      cases q
  have old : ∀ a, H a ≠ none → a ∉ cs := fun a ha hc => by
    cases q : H a with
    | none => exact ha q
    | some o => exact Nat.lt_irrefl _ (Nat.lt_of_lt_of_le (e0.hok a o q).lt (cnew a hc))
  have hokT : HOk pg.P pg.w (trk cs vs H2) s3.heap := fun a o q => by
    by_cases ha : a ∈ cs
    · obtain ⟨j, hj⟩ := List.mem_iff_getElem?.mp ha
      obtain ⟨v, hv, u, hu1, hu2⟩ := cval j a hj
      rw [trk_in ndc hj hv] at q
      cases q
      obtain ⟨ob, hob, hd⟩ := hu2
      exact ⟨⟨u, hu1, ob, hob, hd⟩, ⟨ob, hob⟩, fun h1 h2 ⟨u', r', o', ho', hd'⟩ st => ⟨u', r', o', st _ ho', hd'⟩⟩
    · rw [trk_out ha] at q
      exact objOk_mono (fun b xs z => up _ _ z) (fun b xs z => up _ _ z) (J2.hok a o q)
  have unT : Un (frs outer) [] H (trk cs vs H2) s.heap s3.heap := by
    have B : Un (frs outer) [] H H2 s.heap s3.heap := J2.base
    refine ⟨B.keep, B.slot, fun b o q1 q2 q3 => ?_, B.there, fun b xs q => up _ _ (B.tups b xs q), fun b o u q => up _ _ (B.frzs b o u q), fun b ps' q => ?_⟩
    · have hb : b ∉ cs := fun hc => by
        exact Nat.lt_irrefl _ (Nat.lt_of_lt_of_le (Heap.lt_size q1) (cnew b hc))
      rw [trk_out hb]
      exact B.free b o q1 q2 q3
    · obtain ⟨more, z⟩ := B.tbls b ps' q
      exact ⟨more, up _ _ z⟩
  have nfc : f' ∉ cs := fun hc => by rw [cnone f' hc] at hf'; cases hf'
  have ncc : c' ∉ cs := fun hc => by rw [cnone c' hc] at hc'; cases hc'
  obtain ⟨In, hIn⟩ : ∃ In : Addr → Prop, In = fun a => a ∈ cs ∨ a = f' ∨ (H a = none ∧ ∃ q, H2 a = some (CodeO a q)) := ⟨_, rfl⟩
  obtain ⟨Hf2, hHf2⟩ : ∃ Hf2 : Hp, Hf2 = fun a => @ite _ (In a) (Classical.propDecidable _) (trk cs vs H2 a) (Hf a) := ⟨_, rfl⟩
  have in2 : ∀ a, In a → Hf2 a = trk cs vs H2 a := fun a ha => by rw [hHf2]; exact if_pos ha
  have out2 : ∀ a, ¬ In a → Hf2 a = Hf a := fun a ha => by rw [hHf2]; exact if_neg ha
  have keepH : ∀ a o, H a = some o → (∀ ps, o ≠ .tbl ps) → trk cs vs H2 a = some o := fun a o q ht => up _ _ (ex a o q ht)
  have gw : Gw pg Hf H Hf2 (trk cs vs H2) := by
    refine ⟨fun a o q => ?_, fun a o q => ?_, fun a o q ht => keepH a o q ht, fun a q => ?_, fun a q => ?_, ⟨tn.ext up, fun a ps' q => ?_, fun a q0 q => ?_⟩⟩
    · have qH := ff a o q
      by_cases ha : In a
      · rw [in2 a ha]
        exact keepH a o qH fun ps' z => tb.nt a ps' (by rw [q, z])
      · rw [out2 a ha]; exact q
    · by_cases ha : In a
      · rw [in2 a ha] at q; exact q
      · rw [out2 a ha] at q
        exact keepH a o (ff a o q) fun ps' z => tb.nt a ps' (by rw [q, z])
    · by_cases ha : a ∈ cs
      · obtain ⟨j, hj⟩ := List.mem_iff_getElem?.mp ha
        obtain ⟨v, hv, _⟩ := cval j a hj
        rw [trk_in ndc hj hv] at q
        cases q
      · rw [trk_out ha] at q
        exact dm a q
    · refine out2 a fun z => ?_
      rw [hIn] at z
      rcases z with z | z | z
      · exact old a q z
      · rw [z, nf] at q; exact q rfl
      · exact q z.1
    · by_cases ha : In a
      · rw [in2 a ha] at q
        rw [hIn] at ha
        rcases ha with ha | ha | ⟨_, q2, ha⟩
        · obtain ⟨j, hj⟩ := List.mem_iff_getElem?.mp ha
          obtain ⟨v, hv, _⟩ := cval j a hj
          rw [trk_in ndc hj hv] at q
          cases q
        · rw [ha, trk_out nfc, hf'] at q
          cases q
        · rw [up _ _ ha] at q
          cases q
      · rw [out2 a ha] at q
        exact tb.nt a ps' q
    · by_cases ha : a ∈ cs
      · rw [in2 a (by rw [hIn]; exact .inl ha)]
        exact q
      · have q2 := q
        rw [trk_out ha] at q2
        cases hz : H a with
        | none =>
          rw [in2 a (by rw [hIn]; exact .inr (.inr ⟨hz, q0, q2⟩))]
          exact q
        | some o =>
          by_cases ht : ∃ ps', o = .tbl ps'
          · obtain ⟨ps', ht⟩ := ht
            obtain ⟨more, z⟩ := unT.tbls a ps' (by rw [hz, ht])
            rw [q] at z
            cases z
          · have z := ex a o hz fun ps' e => ht ⟨ps', e⟩
            rw [q2] at z
            have hf0 := tb.co a q0 (by rw [hz, ← z])
            have nin : ¬ In a := fun z2 => by
              rw [hIn] at z2
              rcases z2 with z2 | z2 | z2
              · exact ha z2
              · rw [z2, nf] at hz; cases hz
              · rw [z2.1] at hz; cases hz
            rw [out2 a nin]
            exact hf0
  refine ⟨.ref f', trk cs vs H2, J2.os, J2.bare, unT, hokT, rv, post _ Hf2 _ gw ⟨f', vs, rfl, ⟨c', cs, cl, ?_, ?_, cellsT_of ndc (by omega) fun j z v hj hv => ?_, fun j y hj => ?_, ?_, fun y a hy => ?_⟩, hrs.mono cm0 gw.gr⟩⟩
  · rw [in2 f' (by rw [hIn]; exact .inr (.inl rfl)), trk_out nfc]
    exact hf'
  · exact gw.tabs.co c' _ (up _ _ hc')
  · rw [in2 z (by rw [hIn]; exact .inl (List.mem_of_getElem? hj))]
    exact trk_in ndc hj hv
  · rw [T.fr] at hj
    exact csAt j y hj
  · rw [T.fr]
    exact hcsl
  · rw [T.fr]
    rw [← hcl] at hy
    rcases cloFrom_mem (PySem.mem_of_lookup hy) with hm | ⟨h1, _⟩
    · cases hm
    · exact T.onlyfr y h1
end Lk
set_option maxHeartbeats 1000000
namespace Lk
open PySem PySem.Spec PyProof.Rows L2
open NdefX (NF FnO NOk CellsAt)
open LamX (CodeO)
theorem mkT0 : MkT 52 0 "choices_in" ["canal", "ways"] :=
  ⟨⟨rfl, rfl, rfl, by decide +kernel, by decide +kernel, by decide +kernel, by decide +kernel⟩, ⟨_, _, rfl⟩, ⟨_, rfl⟩, by decide +kernel, rfl, rfl, rfl, fun _ => rfl, by decide +kernel, by decide +kernel, fun y hy => by
    have h : ((C8.fnScope (cloK 0).st).names.all fun z => !decide (z.2 = .free) || decide (z.1 ∈ (["canal", "ways"] : List Str))) = true := by decide +kernel
    have := List.all_eq_true.mp h _ hy
    simpa using this, by decide, by decide⟩
theorem mkT1 : MkT 53 1 "home_in" ["ways"] :=
  ⟨⟨rfl, rfl, rfl, by decide +kernel, by decide +kernel, by decide +kernel, by decide +kernel⟩, ⟨_, _, rfl⟩, ⟨_, rfl⟩, by decide +kernel, rfl, rfl, rfl, fun _ => rfl, by decide +kernel, by decide +kernel, fun y hy => by
    have h : ((C8.fnScope (cloK 1).st).names.all fun z => !decide (z.2 = .free) || decide (z.1 ∈ (["ways"] : List Str))) = true := by decide +kernel
    have := List.all_eq_true.mp h _ hy
    simpa using this, by decide, by decide⟩
/-! ### the made functions' bodies -/
theorem startF_eq {N : List Str} {vs cv : List V} : NdefX.startF N vs (cv.map some) = L2.start N (vs ++ cv) := by
  unfold NdefX.startF L2.start
  rw [List.length_map, List.map_append, List.append_assoc, List.length_append, Nat.sub_sub]
/-- e hands out r -/
def XR2 {pg : Pg} {sc : Scope} {N : List (Str × Bool)} {G : List Str} {lv : Nat} {own : List Nat} (Γ : Gm pg sc N G lv own) (e : Expr) (ρ : List Sl) : Rz → Prop
  | .sh d => XE Γ e ρ d
  | .ow o => XO Γ e ρ o
  | .ex _ => False
theorem XR2.run {pg : Pg} {sc : Scope} {N : List (Str × Bool)} {G : List Str} {lv : Nat} {own : List Nat} {Γ : Gm pg sc N G lv own} {e : Expr} {ρ : List Sl} {r : Rz} (h : XR2 Γ e ρ r) {σ : L2.St} {Hf H : Hp} {Q : VK} {E : XK} (en : Env pg Γ.c own Hf H σ ρ) (p : PostR pg Hf H Q E r) : RunE Γ.X e σ H Q := by
  cases r with
  | sh d => exact h σ Hf H Q en fun v Hf' H' g r' => p v Hf' H' g r'
  | ow o => exact h σ Hf H Q en fun v Hf' H' fp g r' nf => p v Hf' H' fp g r' nf
  | ex C => exact h.elim
/-- the looks at a made function's text: its parameter (in a cell of its own or not), the captured names, the others -/
structure ClT (kk : Nat) (y : Str) (N : List (Str × Bool)) (G : List Str) (e : Expr) : Prop where
  body : ∃ p, C8.fnBody (cloK kk).st = [.Return (some e) p]
  n0 : N[0]? = some (y, true)
  nf : ∀ (i : Nat), i < (cloK kk).fr.length → N[i + 1]? = ((cloK kk).fr[i]?.map fun z => (z, true))
  lo : ∀ (i : Nat) z, N[i]? = some (z, true) → Vis (C8.fnScope (cloK kk).st) z
  gl : ∀ z ∈ G, (C8.fnScope (cloK kk).st).names.lookup z = some .globalImplicit
/-- .. whose parameter is local -/
theorem clo_loc {pg : Pg} {kk k : Nat} {y : Str} {N : List (Str × Bool)} {G : List Str} {e : Expr} {Cc : List D → List Ar → Rz → Prop} (T : ClT kk y N G e) (S : NdefX.NScope (N.map Prod.fst) [y] (cloK kk).fr (C8.fnScope (cloK kk).st))
    (hb : ∀ (cl : List (Str × Addr)) (c : Addr) (doc pm ctv : Value) (us : List Value), us.length = 1 → bindArgs ((cloF kk cl c).fd doc pm ctv) ⟨us, []⟩ = pure ([y].zip us))
    (len : ∀ ds ags r, Cc ds ags r → ags.length = 1 ∧ ds.length = (cloK kk).fr.length) (hbody : ∀ (Γ : Gm pg (C8.fnScope (cloK kk).st) N G k []) ds ags r, Cc ds ags r → XR2 Γ e (slots N.length (ags ++ ds.map Ar.sh)) r) : CloF pg (k + 1) kk Cc := by
  intro f cl c A outer s H us vs ws Q E hr e0 hf hc ca rv hsp
  have ok := NdefX.nok_of (CX := CX0) (P := pg.P) (w := pg.w) (K := pg.K) (mg := pg.mg) (base := pg.base) (k := k) (f := f) (F := cloF kk cl c) (sp := fun wo vs H Q E => ∃ cv, wo = cv.map some ∧ spC pg Cc cv vs H Q E) S (hb cl c)
    (fun wo vs H Q E ⟨cv, _, ds, ags, r, Hf, h1, h2, h3, _⟩ => by rw [h3.length, (len _ _ _ h1).1]; rfl) ?_
  · exact ok.run A outer s H us vs _ Q E hr e0 hf hc ca rv ⟨ws, rfl, hsp⟩
  · rintro A outer s H vs wo Q E hr hf hc hl ⟨cv, rfl, ds, ags, r, Hf, h1, h2, h3, ff, tb, post⟩
    obtain ⟨l1, l2⟩ := len _ _ _ h1
    obtain ⟨p, hbd⟩ := T.body
    let X : Cx := NdefX.ncx CX0 pg.P pg.w pg.K pg.mg pg.base (N.map Prod.fst) (cloF kk cl c) f A outer s H E
    let Γ : Gm pg (C8.fnScope (cloK kk).st) N G k [] := ⟨X, ⟨H, Hf, fun _ => [], vs ++ cv, N.length⟩, rfl, rfl, S.nd, rfl, List.length_map .., rfl, fun i z hz => ⟨by show (N.map Prod.fst)[i]? = _; rw [List.getElem?_map, hz]; rfl, T.lo i z hz⟩, fun z hz => T.gl z hz, rfl, hr⟩
    have hro : ArsOk pg Hf H (ags ++ ds.map Ar.sh) (vs ++ cv) := h3.app (ArsOk.of h2)
    have hle : (vs ++ cv).length ≤ (N.map Prod.fst).length := by
      have q := congrArg List.length S.pre
      rw [List.length_take, List.length_append] at q
      rw [List.length_append, h3.length, l1, h2.length, l2]
      have : ([y] : List Str).length = 1 := rfl
      omega
    have en := env_start ff tb hro hle
    rw [List.length_map] at en
    refine ⟨_, by
      show PSs X (C8.fnBody (cloK kk).st) _
      rw [hbd]
      exact pss_one (ps_ret (runE X e)), ?_⟩
    rw [startF_eq]
    exact XR2.run (Γ := Γ) (hbody Γ ds ags r h1) en post
/-! .. whose parameter lies in a cell of its own (a comprehension within reads it) -/
def envC (F : NF) (y : Str) (f L : Addr) : PySem.Env := newEnv F.scope L mainGlobals ((y, L + 1) :: F.cl) (F.qual ++ ".<locals>.") (some f) (.ref F.c) none builtinsNs
def ncxC (P : Program) (w : World) (K : PySem.W.Frag) (mg : Str → Option Value) (base : Heap) (N : List Str) (env : PySem.Env) (A : Around) (outer : List PySem.Env) (s : Shared) (H : Hp) (E : XK) : Cx where
  prog := P
  w := w
  K := K
  mg := mg
  base := base
  A := A.deeper env
  N := N
  s_0 := s
  H_0 := H
  env := env
  outer := outer
  stack := env :: outer
  ex := []
  calm := true
  fn := fun _ => false
  pn := []
  xe := fun e s' => wpAny (model P w) (A.deeper env) (leaving env e) (fun _ s'' => CX0 outer H s E e s'') (fun e' s'' => CX0 outer H s E e' s'') s'
structure ClC (kk : Nat) (y : Str) (N : List (Str × Bool)) : Prop where
  kind : (C8.fnScope (cloK kk).st).kind = .function
  co : (C8.fnScope (cloK kk).st).isCoroutine = false
  gen : (C8.fnScope (cloK kk).st).isGenerator = false
  nd : (N.map Prod.fst).Nodup
  len : 1 + (cloK kk).fr.length ≤ N.length
  yc : (C8.fnScope (cloK kk).st).names.lookup y = some .cell
  frk : ∀ x ∈ (cloK kk).fr, (C8.fnScope (cloK kk).st).names.lookup x = some .free
  free : ∀ z ∈ (C8.fnScope (cloK kk).st).names, z.2 = .free → z.1 ∈ (cloK kk).fr
  cel : ∀ z ∈ (C8.fnScope (cloK kk).st).names, z.2 = .cell → z.1 = y
  cf : ∀ n acc, cellsFrom n (C8.fnScope (cloK kk).st).names acc = (y, n) :: acc
  pc : ∀ h, pushCells h (C8.fnScope (cloK kk).st).names = h.push { cls := .type "cell", data := .cell none }
theorem clo_cell {pg : Pg} {kk k : Nat} {y : Str} {N : List (Str × Bool)} {G : List Str} {e : Expr} {Cc : List D → List Ar → Rz → Prop} (T : ClT kk y N G e) (S : ClC kk y N)
    (hb : ∀ (cl : List (Str × Addr)) (c : Addr) (doc pm ctv : Value) (us : List Value), us.length = 1 → bindArgs ((cloF kk cl c).fd doc pm ctv) ⟨us, []⟩ = pure ([y].zip us))
    (len : ∀ ds ags r, Cc ds ags r → ags.length = 1 ∧ ds.length = (cloK kk).fr.length) (hbody : ∀ (Γ : Gm pg (C8.fnScope (cloK kk).st) N G k []) ds ags r, Cc ds ags r → XR2 Γ e (slots N.length (ags ++ ds.map Ar.sh)) r) : CloF pg (k + 1) kk Cc := by
  rintro f cl c A outer s H us vs cv Q E hr e0 hf hc C rv ⟨ds, ags, r, Hf, h1, h2, h3, ff, tb, post⟩
  obtain ⟨l1, l2⟩ := len _ _ _ h1
  have hl : vs.length = 1 := by rw [h3.length, l1]
  obtain ⟨v, rfl⟩ : ∃ v, vs = [v] := by
    match vs, hl with
    | [v], _ => exact ⟨v, rfl⟩
  obtain ⟨u, rfl, ru⟩ : ∃ u, us = [u] ∧ RelV v u := by
    cases rv with
    | cons r1 r2 =>
      cases r2
      exact ⟨_, rfl, r1⟩
  have lim : s.heap.NoLimit := e0.mod.nolimit.keeps fun b o e => (e0.bs b o e).1
  obtain ⟨od, sl, doc, pm, ctv, ho⟩ := NdefX.fnO_at e0.hok hf
  refine codeAny_call_function hr.depth ho rfl S.co S.gen rfl (NdefX.codeO_at e0.hok hc) ?_
  rw [hb cl c doc pm ctv [u] rfl]
  refine wpAny_pure ?_
  show wpAny _ _ (newFunctionEnv (C8.fnScope (cloK kk).st) mainGlobals cl [(y, u)] ((cloK kk).qual ++ ".<locals>.") (some f) (.ref c) none builtinsNs) _ _ s
  simp only [newFunctionEnv, Option.isSome_none, Bool.false_eq_true, if_false]
  refine wpAny_bind (wpAny_alloc ?_)
  refine wpAny_bind (wpAny_layCells _ (fun name kind cells => by cases hkc : kind == NameKind.cell <;> simp [hkc]) _ _ _ _ ?_)
  rw [show ({ s with heap := s.heap.push { cls := .type "frame", data := .dict #[] } } : Shared).heap.objs.size = s.heap.objs.size + 1 from Heap.size_push .., S.cf, S.pc]
  obtain ⟨env, henv⟩ : ∃ env, env = envC (cloF kk cl c) y f s.heap.objs.size := ⟨_, rfl⟩
  have k1 : ∀ b o, s.heap.get? b = some o → ((s.heap.push { cls := .type "frame", data := .dict #[] }).push { cls := .type "cell", data := .cell none }).get? b = some o := fun b o q => Heap.get?_push_of_some _ (Heap.get?_push_of_some _ q)
  have sz : (s.heap.push { cls := .type "frame", data := .dict #[] }).objs.size = s.heap.objs.size + 1 := Heap.size_push ..
  have cell0 : ((s.heap.push { cls := .type "frame", data := .dict #[] }).push { cls := .type "cell", data := .cell none }).IsCell (s.heap.objs.size + 1) none := by
    rw [← sz]
    exact ⟨_, Heap.get?_push_size _ rfl, rfl⟩
  have ns0 : ((s.heap.push { cls := .type "frame", data := .dict #[] }).push { cls := .type "cell", data := .cell none }).Ns s.heap.objs.size fun _ => none := (Heap.Ns.new s.heap (.type "frame")).keeps fun b o q => Heap.get?_push_of_some _ q
  rw [List.forIn_cons]
  refine wpAny_bind (wpAny_bind (wpAny_bind (wpAny_storeName_cell (c := s.heap.objs.size + 1) (v₀ := none) S.kind S.yc (by show List.lookup y ((y, s.heap.objs.size + 1) :: cl) = _; rw [List.lookup_cons, beq_self_eq_true]) cell0 fun h' hc' hs' => wpAny_pure ?_)))
  show wpAny _ _ (forIn [] _ _) _ _ _
  rw [List.forIn_nil]
  refine wpAny_pure (wpAny_pure ?_)
  show Heap.NoLimit h' ∧ codeAny _ A (.func (C8.fnBody (cloK kk).st) (envC (cloF kk cl c) y f s.heap.objs.size)) _ _
  rw [← henv]
  have kp : ∀ b o, s.heap.get? b = some o → h'.get? b = some o := fun b o q => hs'.extBut b o (by have := Heap.lt_size q; exact Nat.ne_of_lt (Nat.lt_succ_of_lt this)) (k1 b o q)
  refine ⟨lim.keeps kp, codeAny_func ?_⟩
  obtain ⟨p, hbd⟩ := T.body
  let X : Cx := ncxC pg.P pg.w pg.K pg.mg pg.base (N.map Prod.fst) env A outer s H E
  have hcv : cv.length = (cloK kk).fr.length := by rw [h2.length, l2]
  have ecells : env.cells = (y, s.heap.objs.size + 1) :: cl := by rw [henv]; rfl
  have escope : env.scope = C8.fnScope (cloK kk).st := by rw [henv]; rfl
  have eloc : env.locals = s.heap.objs.size := by rw [henv]; rfl
  have low : ∀ z a, cl.lookup z = some a → a < s.heap.objs.size := fun z a q => by
    obtain ⟨_, v', o, ho', _⟩ := C.all z a q
    exact Heap.lt_size ho'
  have look : ∀ z a, env.cells.lookup z = some a → (z = y ∧ a = s.heap.objs.size + 1) ∨ (z ≠ y ∧ cl.lookup z = some a) := fun z a q => by
    rw [ecells, List.lookup_cons] at q
    by_cases hz : z = y
    · subst hz
      rw [beq_self_eq_true] at q
      exact .inl ⟨rfl, (Option.some.inj q).symm⟩
    · rw [beq_eq_false_iff_ne.mpr hz] at q
      exact .inr ⟨hz, q⟩
  have looky : env.cells.lookup y = some (s.heap.objs.size + 1) := by rw [ecells, List.lookup_cons, beq_self_eq_true]
  have lookz : ∀ z a, z ≠ y → cl.lookup z = some a → env.cells.lookup z = some a := fun z a hz q => by rw [ecells, List.lookup_cons, beq_eq_false_iff_ne.mpr hz]; exact q
  have frny : ∀ z ∈ (cloK kk).fr, z ≠ y := fun z hz e => by
    have := S.frk z hz
    rw [e, S.yc] at this
    cases this
  have cellH : ∀ z a, env.cells.lookup z = some a → ∃ v, h'.IsCell a v := fun z a q => by
    rcases look z a q with ⟨_, e⟩ | ⟨_, q⟩
    · rw [e]; exact ⟨_, hc'⟩
    · obtain ⟨_, v', o, ho', hd'⟩ := C.all z a q
      exact ⟨v', o, kp _ _ ho', hd'⟩
  have I : Inv X [] (L2.start (N.map Prod.fst) ([v] ++ cv)) H { s with heap := h' } := by
    have noA : ∀ b : Addr, b ∉ X.ex := fun b z => absurd (show b ∈ ([] : List Addr) from z) (by simp)
    refine ⟨⟨e0.mod, by show env.scope.kind = _; rw [escope]; exact S.kind, by show env.globals = _; rw [henv]; rfl, by show env.builtins = _; rw [henv]; rfl, by show _ ≤ env.locals; rw [eloc]; exact Nat.le_refl _, fun x z a q1 q2 => ?_, fun z hz => ?_, fun z a q _ => ?_, fun _ => hr.hd, Around.frames_deeper e0.frames, .inr ⟨rfl, by show env.frame = some env.locals; rw [henv]; rfl⟩, fun b z => absurd z (noA b), e0.bs, e0.bsz, fun b _ _ => noA b, fun b z => absurd z (noA b), e0.funs, e0.frf⟩,
      rfl, e0.bare, Un.kept kp, ⟨_, by show h'.Ns env.locals _; rw [eloc]; exact ns0.sameBut hs' (by exact Nat.ne_of_lt (Nat.lt_succ_self _)), fun i z w e1 e2 e3 => ?_⟩, fun z a q => cellH z a q, by show H env.locals = none; rw [eloc]; exact e0.hok.fresh (Nat.le_refl _), fun z a q => ?_, fun q hq => absurd (show q ∈ ([] : List (Addr × Obj)) ++ [] from hq) (by simp), e0.hok.kept kp, ?_⟩
    · rcases look x a q1 with ⟨h1, h2⟩ | ⟨h1, h2⟩ <;> rcases look z a q2 with ⟨h3, h4⟩ | ⟨h3, h4⟩
      · rw [h1, h3]
      · have := low z a h4
        rw [h2] at this
        exact absurd this (Nat.not_lt.mpr (Nat.le_succ _))
      · have := low x a h2
        rw [h4] at this
        exact absurd this (Nat.not_lt.mpr (Nat.le_succ _))
      · exact C.inj x z a h2 h4
    · have hz : (C8.fnScope (cloK kk).st).names.lookup z = some .cell ∨ (C8.fnScope (cloK kk).st).names.lookup z = some .free := by
        have : env.scope.names.lookup z = some .cell ∨ env.scope.names.lookup z = some .free := hz
        rw [escope] at this
        exact this
      rcases hz with hz | hz
      · have := S.cel _ (PySem.mem_of_lookup hz) rfl
        dsimp only at this
        rw [this]
        exact ⟨_, looky⟩
      · have hm := S.free _ (PySem.mem_of_lookup hz) rfl
        obtain ⟨i, hi⟩ := List.mem_iff_getElem?.mp hm
        obtain ⟨a, ha, _⟩ := C.has i z hi
        exact ⟨a, lookz z a (frny z hm) ha⟩
    · have q : false = true := q
      cases q
    · have e1 : (N.map Prod.fst)[i]? = some z := e1
      have hi : i < 1 + cv.length := by
        unfold L2.start at e2
        by_cases hi : i < ([v] ++ cv).length
        · rw [List.length_append] at hi; exact hi
        · rw [List.getElem?_append_right (by rw [List.length_map]; omega), List.getElem?_replicate] at e2
          split at e2 <;> cases e2
      cases i with
      | zero =>
        have e2' : some (some v) = some (some w) := by
          rw [← e2]
          exact (start_get (N := N.map Prod.fst) (vs := [v] ++ cv) (i := 0) rfl).symm
        cases e2'
        rw [List.getElem?_map, T.n0] at e1
        cases e1
        refine ⟨u, ru, .inr ⟨.inl ?_, _, looky, hc'⟩⟩
        show env.scope.names.lookup y = _
        rw [escope]; exact S.yc
      | succ i =>
        have hi' : i < cv.length := by omega
        have hif : i < (cloK kk).fr.length := by omega
        have e3' := start_get (N := N.map Prod.fst) (vs := [v] ++ cv) (i := i + 1) (v := cv[i]) (by show (v :: cv)[i + 1]? = _; rw [List.getElem?_cons_succ, List.getElem?_eq_getElem hi'])
        rw [e2] at e3'
        cases e3'
        rw [List.getElem?_map, T.nf i hif, List.getElem?_eq_getElem hif] at e1
        have e1 : (cloK kk).fr[i] = z := Option.some.inj e1
        obtain ⟨a, ha, hva⟩ := C.has i z (by rw [List.getElem?_eq_getElem hif, e1])
        obtain ⟨u2, r2, o2, ho2, hd2⟩ := hva cv[i] (by rw [List.getElem?_map, List.getElem?_eq_getElem hi']; rfl)
        have hm : z ∈ (cloK kk).fr := by rw [← e1]; exact List.getElem_mem hif
        refine ⟨u2, r2, .inr ⟨.inr ?_, a, lookz z a (frny z hm) ha, o2, kp _ _ ho2, hd2⟩⟩
        show env.scope.names.lookup z = _
        rw [escope]; exact S.frk z hm
    · rcases look z a q with ⟨_, e⟩ | ⟨_, q⟩
      · rw [e]; exact e0.hok.fresh (Nat.le_succ _)
      · exact (C.all z a q).1
    · show (L2.start _ _).length = (N.map Prod.fst).length
      rw [start_len]
      rw [List.length_append, List.length_map, hcv]
      exact S.len
  let Γ : Gm pg (C8.fnScope (cloK kk).st) N G k [] := ⟨X, ⟨H, Hf, fun _ => [], [v] ++ cv, N.length⟩, rfl, escope, S.nd, rfl, List.length_map .., rfl, fun i z hz => ⟨by show (N.map Prod.fst)[i]? = _; rw [List.getElem?_map, hz]; rfl, by show Vis env.scope z; rw [escope]; exact T.lo i z hz⟩, fun z hz => by show env.scope.names.lookup z = _; rw [escope]; exact T.gl z hz, rfl, hr.deeper _⟩
  have hro : ArsOk pg Hf H (ags ++ ds.map Ar.sh) ([v] ++ cv) := h3.app (ArsOk.of h2)
  have en := env_start (N := N.map Prod.fst) ff tb hro (by rw [List.length_append, List.length_map, hcv]; exact S.len)
  rw [List.length_map] at en
  have run := XR2.run (Γ := Γ) (hbody Γ ds ags r h1) en post
  rw [hbd]
  refine wpAny_execs_cons (wpAny_Return_some (thn (run [] _ I) fun u' s' hq => ?_))
  obtain ⟨v', H', J, rv', q⟩ := hq
  exact ⟨v', H', J.os, J.bare, J.base, J.hok, rv', q⟩
end Lk
set_option maxHeartbeats 1000000
namespace Lk
open PySem PySem.Spec PyProof.Rows L2
/-! ### dicts whose keys are nested tuples -/
def KD : Nat → D → Prop
  | _, .int _ => True
  | _, .str _ => True
  | n + 1, .tup ds => ∀ d ∈ ds, KD n d
  | _, _ => False
def dget (kvs : List (D × D)) (k : D) : Option D := (kvs.find? fun p => decide (nkey p.1 = nkey k)).map (·.2)
def dput (kvs : List (D × D)) (k d : D) : List (D × D) := if (dget kvs k).isSome then kvs.map (fun p => if nkey p.1 = nkey k then (p.1, d) else p) else kvs ++ [(k, d)]
/-- keys told apart -/
def KN (kvs : List (D × D)) : Prop := (∀ p ∈ kvs, KD 8 p.1) ∧ (kvs.map fun p => nkey p.1).Nodup
theorem KN.nil : KN [] := ⟨fun _ h => (nomatch h), List.nodup_nil⟩
theorem dget_none {kvs : List (D × D)} {k : D} (h : dget kvs k = none) : nkey k ∉ kvs.map fun p => nkey p.1 := by
  unfold dget at h
  rw [Option.map_eq_none_iff, List.find?_eq_none] at h
  intro hm
  obtain ⟨p, hp, e⟩ := List.mem_map.mp hm
  exact h p hp (decide_eq_true e)
theorem KN.put {kvs : List (D × D)} {k d : D} (K : KN kvs) (hk : KD 8 k) : KN (dput kvs k d) := by
  unfold dput
  cases h : dget kvs k with
  | none =>
    refine ⟨fun p hp => ?_, ?_⟩
    · rcases List.mem_append.mp hp with q | q
      · exact K.1 p q
      · rw [List.mem_singleton.mp q]; exact hk
    · show (List.map _ (kvs ++ [(k, d)])).Nodup
      rw [List.map_append, List.nodup_append]
      refine ⟨K.2, by simp, fun a ha b hb e => ?_⟩
      have hb : b = nkey k := by simpa using hb
      rw [e, hb] at ha
      exact dget_none h ha
  | some z =>
    show KN (kvs.map _)
    refine ⟨fun p hp => ?_, ?_⟩
    · obtain ⟨q, hq, rfl⟩ := List.mem_map.mp hp
      split
      · exact K.1 q hq
      · exact K.1 q hq
    · rw [List.map_map]
      have : ((fun p : D × D => nkey p.1) ∘ fun p => if nkey p.1 = nkey k then (p.1, d) else p) = fun p => nkey p.1 := by
        funext p
        show nkey (if nkey p.1 = nkey k then (p.1, d) else p).1 = _
        split <;> rfl
      rw [this]
      exact K.2
section
variable {pg : Pg} {Hf H : Hp}
theorem depth_kd : ∀ (n : Nat) (d : D), KD n d → (nkey d).depth ≤ n
  | _, .int i, _ => by show 0 ≤ _; omega
  | _, .str x, _ => by show 0 ≤ _; omega
  | n + 1, .tup ds, p => by
    have : ∀ (ds : List D), (∀ d ∈ ds, KD n d) → NestedKey.depthAll (nkey.nkeys ds) ≤ n := by
      intro ds
      induction ds with
      | nil => exact fun _ => Nat.zero_le _
      | cons d ds ih =>
        intro q
        have a := depth_kd n d (q d List.mem_cons_self)
        have b := ih fun e he => q e (List.mem_cons_of_mem _ he)
        show max _ _ ≤ n
        omega
    show NestedKey.depthAll (nkey.nkeys ds) + 1 ≤ n + 1
    exact Nat.succ_le_succ (this ds p)
  | 0, .tup _, p => p.elim
  | 0, .non, p => p.elim
  | 0, .bl _, p => p.elim
  | 0, .lst _, p => p.elim
  | 0, .dic _, p => p.elim
  | 0, .obj _ _, p => p.elim
  | 0, .clo _ _, p => p.elim
  | 0, .scr _, p => p.elim
  | _ + 1, .non, p => p.elim
  | _ + 1, .bl _, p => p.elim
  | _ + 1, .lst _, p => p.elim
  | _ + 1, .dic _, p => p.elim
  | _ + 1, .obj _ _, p => p.elim
  | _ + 1, .clo _ _, p => p.elim
  | _ + 1, .scr _, p => p.elim
theorem nested_of {X : Cx} {pins : List (Addr × Obj)} {σ : L2.St} {s : Shared} (hK : X.K = pg.K) (I : Inv X pins σ H s) (ff : Same Hf H) : ∀ (n : Nat) (d : D) (v : V) (u : Value), KD n d → R pg Hf d v → RelV v u → NestedIs s.heap (nkey d) u := by
  intro n
  induction n with
  | zero =>
    intro d v u p r ru
    cases d with
    | int i =>
      have r : v = V.int i := r
      subst r
      obtain ⟨t, rfl⟩ := ru
      exact .int i t
    | str x =>
      have r : v = V.str x := r
      subst r
      obtain ⟨t, rfl⟩ := ru
      exact .text x t
    | _ => exact p.elim
  | succ n ih =>
    intro d v u p r ru
    cases d with
    | int i =>
      have r : v = V.int i := r
      subst r
      obtain ⟨t, rfl⟩ := ru
      exact .int i t
    | str x =>
      have r : v = V.str x := r
      subst r
      obtain ⟨t, rfl⟩ := ru
      exact .text x t
    | tup ds =>
      obtain ⟨a, vs, rfl, h2, h3⟩ := r
      obtain rfl : u = Value.ref a := ru
      obtain ⟨its, rv, ⟨o, ho, hc, m, hd⟩, _⟩ := I.tuple (by rw [hK]; exact sqT_mono ff h2)
      refine .tup ho hc hd ?_
      have go : ∀ (ds : List D) (vs : List V) (us : List Value), (∀ d ∈ ds, KD n d) → Rs pg Hf ds vs → Vals vs us → NestedAll s.heap (nkey.nkeys ds) us := by
        intro ds
        induction ds with
        | nil =>
          intro vs us _ r rv
          have r : vs = [] := r
          subst r
          cases rv
          exact .nil
        | cons d ds ihd =>
          intro vs us q ⟨v, r, e1, e2, e3⟩ rv
          subst e1
          cases rv with
          | cons r1 r2 => exact .cons (ih d v _ (q d List.mem_cons_self) e2 r1) (ihd r _ (fun e he => q e (List.mem_cons_of_mem _ he)) e3 r2)
      have : its.toArray.toList = its := by simp
      rw [this]
      exact go ds vs its p h3 rv
    | _ => exact p.elim
/-- the entries with their keys told -/
def RepX (pg : Pg) (Hf : Hp) : List (D × D) → List (NestedKey × Addr × Value) → Prop
  | [], xs => xs = []
  | (k, d) :: kvs, xs => ∃ a u v r, xs = (nkey k, a, u) :: r ∧ R pg Hf k (.ref a) ∧ RelV v u ∧ R pg Hf d v ∧ RepX pg Hf kvs r
theorem repE_X : ∀ {kvs : List (D × D)} {es : List DictEntry}, RepE pg cl0 Hf kvs es → ∃ xs, es = xs.map (entryOfKey (nestedKind pg.P pg.w)) ∧ RepX pg Hf kvs xs
  | [], es, h => ⟨[], h, rfl⟩
  | (k, d) :: kvs, es, ⟨e, r, a, v, h1, h2, h3, h4, h5, h6, h7⟩ => by
    obtain ⟨xs, q1, q2⟩ := repE_X h7
    obtain ⟨eh, ek, ev⟩ := e
    dsimp only at h2 h3 h5
    subst h2 h3
    exact ⟨(nkey k, a, ev) :: xs, by rw [h1, List.map_cons, q1]; rfl, a, ev, v, xs, rfl, h4, h5, h6, q2⟩
theorem repX_E : ∀ {kvs : List (D × D)} {xs : List (NestedKey × Addr × Value)}, RepX pg Hf kvs xs → RepE pg cl0 Hf kvs (xs.map (entryOfKey (nestedKind pg.P pg.w)))
  | [], xs, h => by
    have h : xs = [] := h
    subst h
    exact rfl
  | (k, d) :: kvs, xs, ⟨a, u, v, r, h1, h2, h3, h4, h5⟩ => by
    subst h1
    exact ⟨_, _, a, v, rfl, rfl, rfl, h2, h3, h4, repX_E h5⟩
theorem RepX.mono {Hf' : Hp} (e : Same Hf Hf') : ∀ {kvs : List (D × D)} {xs : List (NestedKey × Addr × Value)}, RepX pg Hf kvs xs → RepX pg Hf' kvs xs
  | [], _, h => h
  | (k, d) :: kvs, _, ⟨a, u, v, r, h1, h2, h3, h4, h5⟩ => ⟨a, u, v, r, h1, h2.mono cm0 e, h3, h4.mono cm0 e, h5.mono e⟩
theorem RepX.keys : ∀ {kvs : List (D × D)} {xs : List (NestedKey × Addr × Value)}, RepX pg Hf kvs xs → xs.map (·.1) = kvs.map fun p => nkey p.1
  | [], xs, h => by
    have h : xs = [] := h
    subst h
    rfl
  | (k, d) :: kvs, xs, ⟨a, u, v, r, h1, h2, h3, h4, h5⟩ => by
    subst h1
    rw [List.map_cons, List.map_cons, RepX.keys h5]
theorem RepX.at_none {k : D} : ∀ {kvs : List (D × D)} {xs : List (NestedKey × Addr × Value)}, RepX pg Hf kvs xs → dget kvs k = none → atKey xs (nkey k) = none
  | [], xs, h, _ => by
    have h : xs = [] := h
    subst h
    rfl
  | (k', d) :: kvs, xs, ⟨a, u, v, r, h1, h2, h3, h4, h5⟩, e => by
    subst h1
    unfold dget at e
    unfold atKey
    rw [List.find?_cons] at e ⊢
    by_cases q : nkey k' = nkey k
    · rw [decide_eq_true q] at e
      cases e
    · rw [decide_eq_false q] at e ⊢
      exact RepX.at_none (k := k) h5 e
theorem RepX.at_some {k : D} {z : D} : ∀ {kvs : List (D × D)} {xs : List (NestedKey × Addr × Value)}, RepX pg Hf kvs xs → dget kvs k = some z → ∃ a u v, atKey xs (nkey k) = some (a, u) ∧ RelV v u ∧ R pg Hf z v
  | [], xs, h, e => by cases e
  | (k', d) :: kvs, xs, ⟨a, u, v, r, h1, h2, h3, h4, h5⟩, e => by
    subst h1
    unfold dget at e
    unfold atKey
    rw [List.find?_cons] at e ⊢
    by_cases q : nkey k' = nkey k
    · rw [decide_eq_true q] at e ⊢
      cases e
      exact ⟨a, u, v, rfl, h3, h4⟩
    · rw [decide_eq_false q] at e ⊢
      exact RepX.at_some (k := k) h5 e
theorem RepX.app : ∀ {kvs : List (D × D)} {xs : List (NestedKey × Addr × Value)} {k d : D} {a : Addr} {u : Value} {v : V}, RepX pg Hf kvs xs → R pg Hf k (.ref a) → RelV v u → R pg Hf d v → RepX pg Hf (kvs ++ [(k, d)]) (xs ++ [(nkey k, a, u)])
  | [], xs, k, d, a, u, v, h, h1, h2, h3 => by
    have h : xs = [] := h
    subst h
    exact ⟨a, u, v, [], rfl, h1, h2, h3, rfl⟩
  | (k', d') :: kvs, xs, k, d, a, u, v, ⟨a', u', v', r, q1, q2, q3, q4, q5⟩, h1, h2, h3 => by
    subst q1
    exact ⟨a', u', v', _, rfl, q2, q3, q4, RepX.app q5 h1 h2 h3⟩
theorem RepX.map {k d : D} {u : Value} {v : V} (h2 : RelV v u) (h3 : R pg Hf d v) : ∀ {kvs : List (D × D)} {xs : List (NestedKey × Addr × Value)}, RepX pg Hf kvs xs → RepX pg Hf (kvs.map fun p => if nkey p.1 = nkey k then (p.1, d) else p) (xs.map (putAt (nkey k) u))
  | [], xs, h => by
    have h : xs = [] := h
    subst h
    exact rfl
  | (k', d') :: kvs, xs, ⟨a', u', v', r, q1, q2, q3, q4, q5⟩ => by
    subst q1
    rw [List.map_cons, List.map_cons]
    unfold putAt
    dsimp only
    by_cases q : nkey k' = nkey k
    · rw [if_pos q, if_pos q]
      exact ⟨a', u, v, _, rfl, q2, h2, h3, RepX.map h2 h3 q5⟩
    · rw [if_neg q, if_neg q]
      exact ⟨a', u', v', _, rfl, q2, q3, q4, RepX.map h2 h3 q5⟩
theorem RepX.put {kvs : List (D × D)} {xs : List (NestedKey × Addr × Value)} {k d : D} {a : Addr} {u : Value} {v : V} (h : RepX pg Hf kvs xs) (h1 : R pg Hf k (.ref a)) (h2 : RelV v u) (h3 : R pg Hf d v) : RepX pg Hf (dput kvs k d) (storedH xs (nkey k) a u) := by
  unfold dput
  cases e : dget kvs k with
  | none =>
    rw [storedH_new (h.at_none e)]
    exact h.app h1 h2 h3
  | some z =>
    obtain ⟨a', u', v', q, _, _⟩ := h.at_some e
    rw [storedH_old q]
    exact h.map h2 h3
/-- the dict in the heap -/
theorem dict_at {X : Cx} {pins : List (Addr × Obj)} {σ : L2.St} {s : Shared} {p : Addr} {kvs : List (D × D)} {es : List DictEntry} (hp : X.prog = pg.P) (hw : X.w = pg.w) (hK : X.K = pg.K) (I : Inv X pins σ H s) (ff : Same Hf H) (e : H p = some (dctO p es)) (r : RepE pg cl0 Hf kvs es) (K : KN kvs) :
    ∃ xs, RepX pg Hf kvs xs ∧ s.heap.DictOfH (nestedKind pg.P pg.w) p xs := by
  obtain ⟨xs, e1, rx⟩ := repE_X r
  obtain ⟨⟨o, ep, h1, h2, h3⟩, _, _⟩ := I.hok p _ e
  refine ⟨xs, rx, o, es.toArray, ep, h1, h2, h3, by rw [← e1], ?_, by rw [rx.keys]; exact K.2⟩
  have go : ∀ {kvs : List (D × D)} {xs : List (NestedKey × Addr × Value)}, RepX pg Hf kvs xs → (∀ p ∈ kvs, KD 8 p.1) → ∀ x ∈ xs, (nestedKind pg.P pg.w).is s.heap x.1 x.2.1 := by
    intro kvs
    induction kvs with
    | nil =>
      intro xs h _ x hx
      have h : xs = [] := h
      rw [h] at hx
      cases hx
    | cons q kvs ih =>
      obtain ⟨k, d⟩ := q
      rintro xs ⟨a, u, v, r, rfl, q2, q3, q4, q5⟩ hk x hx
      rcases List.mem_cons.mp hx with z | z
      · subst z
        have kd := hk (k, d) List.mem_cons_self
        exact ⟨nested_of hK I ff 8 k _ _ kd q2 rfl, depth_kd 8 k kd⟩
      · exact ih q5 (fun p hp => hk p (List.mem_cons_of_mem _ hp)) x z
  exact go rx K.1
end
end Lk
set_option maxHeartbeats 1000000
namespace Lk
open PySem PySem.Spec PyProof.Rows L2
theorem dct_ne_code {p : Addr} {es : List DictEntry} (q : Str) : dctO p es ≠ LamX.CodeO p q := by
  intro h
  unfold dctO LamX.CodeO at h
  injection h with h
  obtain ⟨G, hG⟩ : ∃ G : Heap, G.get? p = some { cls := .none, data := .fields #[.none, .str q 0] } := by
    have big : ∀ n : Nat, ∃ h : Heap, h.objs.size = n := fun n => by
      induction n with
      | zero => exact ⟨⟨#[], default⟩, rfl⟩
      | succ n ih =>
        obtain ⟨h, e⟩ := ih
        exact ⟨h.push { cls := .none, data := .fields #[] }, by rw [Heap.size_push, e]⟩
    obtain ⟨h, e⟩ := big p
    refine ⟨h.push { cls := .none, data := .fields #[.none, .str q 0] }, ?_⟩
    rw [← e]
    exact Heap.get?_push_size _ rfl
  have e := congrFun h G
  have r : ∃ (oc : Obj) (vs : Array Value) (t : Tok), G.get? p = some oc ∧ oc.data = .fields vs ∧ vs[1]? = some (.str q t) := ⟨_, _, 0, hG, rfl, rfl⟩
  rw [← e] at r
  obtain ⟨o, ep, h1, _, h3⟩ := r
  rw [hG] at h1
  cases h1
  cases h3
theorem objOk_dct {P : Program} {w : World} {H : Hp} {h : Heap} {p : Addr} {es : List DictEntry} {o : Obj} {ep : Nat} (h1 : h.get? p = some o) (h2 : o.ExactDict) (h3 : o.data = .dict es.toArray ep) : ObjOk P w H h p (dctO p es) :=
  ⟨⟨o, ep, h1, h2, h3⟩, ⟨o, h1⟩, fun a b ⟨o', ep', q1, q2, q3⟩ st => ⟨o', ep', st _ q1, q2, q3⟩⟩
section
variable {pg : Pg} {sc : Scope} {N : List (Str × Bool)} {G : List Str} {lv : Nat} {own : List Nat} {Γ : Gm pg sc N G lv own} {ρ : List Sl} {a b e e1 : Expr} {d kd : D} {pos p : Pos} {kvs : List (D × D)}
theorem tabs_dct {Hf H : Hp} {l : Addr} {es : List DictEntry} {u : HO} (t : Tb pg Hf H) (h : H l = some (dctO l es)) (hc : ∀ q, u ≠ LamX.CodeO l q) : Tb pg Hf (upd H l u) := by
  refine ⟨fun p hp => ?_, t.nt, fun a q e => ?_⟩
  · obtain ⟨ps, h1, h2, h3⟩ := t.t p hp
    refine ⟨ps, ?_, h2, fun pos cv hc => ?_⟩
    · rw [upd_ne (ne_of h1 h (fun z => by unfold dctO at z; cases z))]
      exact h1
    · obtain ⟨c, e1, e2⟩ := h3 pos cv hc
      refine ⟨c, e1, ?_⟩
      rw [upd_ne fun z => by rw [z, h] at e2; exact dct_ne_code _ (Option.some.inj e2)]
      exact e2
  · by_cases z : a = l
    · subst z
      rw [upd_same] at e
      exact absurd (Option.some.inj e) (hc q)
    · rw [upd_ne z] at e
      exact t.co a q e
/-- {} -/
theorem xo_dct0 : XO Γ (.Dict [] [] pos) ρ (.dct []) := by
  obtain ⟨P, w, K, mg, base, T⟩ := pg
  obtain ⟨X, c0, hp, hsc, nd, nn, nl, nc_, vis, gl, calm, room⟩ := Γ
  cases hp
  intro σ Hf H Q E k pins s I
  have hn := I.hok.fresh (Nat.le_refl s.heap.objs.size)
  refine wpAny_Dict_empty ⟨.ref s.heap.objs.size, _, I.laid (a := s.heap.objs.size) (o := dctO s.heap.objs.size []) (t' := s.toks) (fun _ _ q => Heap.get?_push_of_some _ q) (Nat.le_refl _) (objOk_dct (ep := 0) (Heap.get?_push_size _ rfl) ⟨rfl, rfl, rfl⟩ rfl), rfl, ?_⟩
  exact k _ Hf _ [s.heap.objs.size] (Gw.alloc E.ff E.tabs hn dct_ne_code) ⟨_, [], rfl, rfl, upd_same, beq_eq_false_iff_ne.mpr (Ne.symm (Nat.ne_of_lt I.big)), rfl⟩ (newNone E.self hn)
/-- {k: v}, the key a nested tuple -/
theorem xo_dct1 (ha : XE Γ a ρ kd) (hb : XE Γ b ρ d) (hk : KD 8 kd) (htup : ∃ ds, kd = .tup ds) : XO Γ (.Dict [some a] [b] pos) ρ (.dct [(kd, d)]) := by
  obtain ⟨P, w, K, mg, base, T⟩ := pg
  obtain ⟨X, c0, hp, hsc, nd, nn, nl, nc_, vis, gl, calm, room⟩ := Γ
  cases hp
  intro σ Hf H Q E k pins s I
  have hn := I.hok.fresh (Nat.le_refl s.heap.objs.size)
  have hz := zip_pairTrees [some a] [b] X.env pos rfl rfl
  have hl := pairTrees_length [some a] [b] X.env pos rfl rfl
  have I1 := I.laid (a := s.heap.objs.size) (o := dctO s.heap.objs.size []) (h' := s.heap.push { cls := .type "dict", data := .dict #[] }) (t' := s.toks) (fun _ _ q => Heap.get?_push_of_some _ q) (Nat.le_refl _) (objOk_dct (ep := 0) (Heap.get?_push_size _ rfl) ⟨rfl, rfl, rfl⟩ rfl)
  have g0 : Gw (pgOf X T) Hf H Hf (upd H s.heap.objs.size (dctO s.heap.objs.size [])) := Gw.alloc E.ff E.tabs hn dct_ne_code
  rw [arm_eval_Dict, hz, dictDisplay_pairs _ (by intro e; rw [e] at hl; cases hl) (by rw [hl]; show 1 < 17; decide)]
  refine wpAny_bind (wpAny_standAt (wpAny_bind (wpAny_subDictH (knd := nestedKind X.prog X.w) (Q := fun q s' => wpAny (model X.prog X.w) X.A (pure (Value.ref q)) (EP X pins σ Q) X.xe s') (by show X.A.units + 8 < cLine; have := room.units; omega) (by rw [hl]; show 1 ≤ 15; decide) ?_)))
  refine pairTrees_cons_walk (thn (ha σ Hf _ (fun v H' => ∃ Hf', Gw (pgOf X T) Hf (upd H s.heap.objs.size (dctO s.heap.objs.size [])) Hf' H' ∧ R (pgOf X T) Hf' kd v) (E.grow g0) (fun v Hf' H' g r => ⟨Hf', g, r⟩) pins _ I1) fun u s1 ⟨v, H1, I2, rv, Hf1, g1, r1⟩ => ?_)
  refine thn (hb σ Hf1 H1 (fun v H' => ∃ Hf', Gw (pgOf X T) Hf1 H1 Hf' H' ∧ R (pgOf X T) Hf' d v) (E.grow (g0.trans g1)) (fun v Hf' H' g r => ⟨Hf', g, r⟩) pins _ I2) fun u2 s2 ⟨v2, H2, I3, rv2, Hf2, g2, r2⟩ => ?_
  refine pairTrees_nil_walk ?_
  obtain ⟨ds, rfl⟩ := htup
  have r1' := g2.rep r1
  obtain ⟨q, vs, hv, _⟩ := id r1'
  subst hv
  obtain rfl : u = Value.ref q := rv
  have hq : H2 s.heap.objs.size = some (dctO s.heap.objs.size []) := by
    have nt : ∀ ps, dctO s.heap.objs.size [] ≠ .tbl ps := fun ps z => by unfold dctO at z; cases z
    exact g2.ns _ _ (g1.ns _ _ upd_same nt) nt
  obtain ⟨⟨o, ep, o1, o2, o3⟩, _, _⟩ := I3.hok _ _ hq
  refine ⟨[(nkey (.tup ds), q, u2)], ⟨rfl, rfl, ⟨nested_of (pg := pgOf X T) rfl I3 g2.ff 8 _ _ _ hk r1' rfl, depth_kd 8 _ hk⟩, trivial⟩, ⟨o, #[], ep, o1, o2, o3, rfl, (fun x hx => nomatch hx), List.nodup_nil⟩, fun h' tk hd hs => ?_⟩
  obtain ⟨o', es, ep', q1, q2, q3, q4, _, _⟩ := hd
  have q4 : es.toList = [entryOfKey (nestedKind X.prog X.w) (nkey (.tup ds), q, u2)] := q4
  refine wpAny_pure ⟨.ref s.heap.objs.size, _, d_write (t' := tk) (ob := dctO s.heap.objs.size [entryOfKey (nestedKind X.prog X.w) (nkey (.tup ds), q, u2)]) I3 (by rw [hq]; trivial) hs ⟨o', q1⟩ (objOk_dct (ep := ep') q1 q2 (by rw [q3, ← q4])), rfl, ?_⟩
  have g := (g0.trans g1).trans g2
  have nf : Hf2 s.heap.objs.size = none := by
    have z1 : Hf1 s.heap.objs.size = Hf s.heap.objs.size := g1.agr _ (by rw [upd_same]; exact fun z => nomatch z)
    have hq1 : H1 s.heap.objs.size ≠ none := fun z => by
      have := g1.dom _ z
      rw [upd_same] at this
      cases this
    rw [g2.agr _ hq1, z1]
    exact (newNone E.self hn _ List.mem_cons_self).2
  refine k _ Hf2 _ [s.heap.objs.size] ⟨g.gr, fun z o q => ?_, fun z o q ht => ?_, fun z q => g.dom z (NdefX.upd_none q), g.agr, tabs_dct g.tabs hq dct_ne_code⟩ ⟨_, _, rfl, rfl, upd_same, beq_eq_false_iff_ne.mpr (Ne.symm (Nat.ne_of_lt I.big)), repX_E (xs := [(nkey (.tup ds), q, u2)]) ⟨q, u2, v2, [], rfl, r1', rv2, r2, rfl⟩⟩ fun z hz => ?_
  · rw [upd_ne fun y => by rw [y, nf] at q; cases q]
    exact g.ff z o q
  · rw [upd_ne fun y => by rw [y, hn] at q; cases q]
    exact g.ns z o q ht
  · have ez : z = s.heap.objs.size := by simpa using hz
    rw [ez]
    exact ⟨hn, nf⟩
/-- len(d) -/
theorem xe_lenM [Bl pg] (h : XP Γ e1 ρ (.dct kvs)) (K : KN kvs) (hz : kvs.length ≤ 1000000) (j : Nat) (hG : G[j]? = some ("len" : Str) := by rfl) (hst : ∀ env, starEach [e1] env = [(false, eval e1 env)] := by intro _; rfl) : XE Γ (.Call (.Name "len" p) [e1] [] pos) ρ (.int kvs.length) := by
  have hb := Bl.len (pg := pg)
  obtain ⟨P, w, K0, mg, base, T⟩ := pg
  obtain ⟨X, c0, hp, hsc, nd, nn, nl, nc_, vis, gl, calm, room⟩ := Γ
  cases hp
  intro σ Hf H Q E kk
  have cr : CallR X (.builtin "len") (fun xs H Q => ∃ (q : Addr) (es : List DictEntry) (Hf : Hp), xs = [.ref q] ∧ Same Hf H ∧ H q = some (dctO q es) ∧ (q == sysModules) = false ∧ RepE (pgOf X T) cl0 Hf kvs es ∧ Q (.int kvs.length) H) := by
    intro pins s σ H xs us Q I r h
    obtain ⟨q, es, Hf, rfl, ff, e1, e2, e3, hq⟩ := h
    obtain ⟨u, rfl, rx⟩ := vals1 r
    obtain rfl : u = Value.ref q := rx
    obtain ⟨ys, rx, dx⟩ := dict_at (pg := pgOf X T) rfl rfl rfl I ff e1 e3 K
    have hl : ys.length = kvs.length := by
      have := congrArg List.length rx.keys
      rw [List.length_map, List.length_map] at this
      exact this
    refine call_len_dictH e2 dx (by omega) ?_
    rw [hl]
    exact ⟨.int kvs.length, H, I.tok _, ⟨_, rfl⟩, hq⟩
  refine bltF (Γ := ⟨X, c0, rfl, hsc, nd, nn, nl, nc_, vis, gl, calm, room⟩) cr hb PySem.boot_len (XA.pk h .nil hst) j hG (by decide) (by decide) (fun env => by rw [hst env] <;> rfl) (fun env => by rfl) E fun vs Hf' H' g r => ?_
  obtain ⟨v, fp, rfl, q, es, rfl, h0, h1, h2, h3⟩ := arsP r
  exact ⟨q, es, Hf', rfl, g.ff, h1, h2, h3, kk _ Hf' H' g rfl⟩
/-- d[k] -/
theorem xe_getM {ds : List D} (ha : XP Γ a ρ (.dct kvs)) (hb : XE Γ b ρ (.tup ds)) (K : KN kvs) (hk : KD 8 (.tup ds)) (hg : dget kvs (.tup ds) = some d) (hs : NoSl b := by intro _ _; rfl) : XE Γ (.Subscript a b pos) ρ d := by
  obtain ⟨P, w, K0, mg, base, T⟩ := pg
  obtain ⟨X, c0, hp, hsc, nd, nn, nl, nc_, vis, gl, calm, room⟩ := Γ
  cases hp
  intro σ Hf H Q E k pins s I
  refine subD_of PySem.F.slot_dict_getitem.lookup hs (thn (ha σ Hf H (fun v H' => ∃ Hf' q es, v = .ref q ∧ Gw (pgOf X T) Hf H Hf' H' ∧ H' q = some (dctO q es) ∧ RepE (pgOf X T) cl0 Hf' kvs es) E (fun v Hf' H' fp g ⟨q, es, e1, e2, e3, e4, e5⟩ _ => ⟨Hf', q, es, e1, g, e3, e5⟩) pins s I) fun u s1 ⟨v, H1, I1, rv, Hf1, q, es, ev, g1, d1, d2⟩ => ?_)
  subst ev
  obtain rfl : u = Value.ref q := rv
  refine thn (hb σ Hf1 H1 (fun v H' => ∃ Hf', Gw (pgOf X T) Hf1 H1 Hf' H' ∧ R (pgOf X T) Hf' (.tup ds) v) (E.grow g1) (fun v Hf' H' g r => ⟨Hf', g, r⟩) pins s1 I1) fun u2 s2 ⟨v2, H2, I2, rv2, Hf2, g2, r2⟩ => ?_
  obtain ⟨z, vs, hv, _⟩ := id r2
  subst hv
  obtain rfl : u2 = Value.ref z := rv2
  have nt : ∀ ps, dctO q es ≠ .tbl ps := fun ps z => by unfold dctO at z; cases z
  obtain ⟨xs, rx, dx⟩ := dict_at (pg := pgOf X T) rfl rfl rfl I2 g2.ff (g2.ns _ _ d1 nt) (d2.mono cm0 g2.gr) K
  obtain ⟨a', u', v', q1, q2, q3⟩ := rx.at_some hg
  refine ⟨dx.typeIs, wpAny_getItem_heap (knd := nestedKind X.prog X.w) (k := nkey (.tup ds)) (by show X.A.in1.units + 8 < cLine; have := room.un; show X.A.units + 1 + 8 < cLine; omega) ⟨nested_of (pg := pgOf X T) rfl I2 g2.ff 8 _ _ _ hk r2 rfl, depth_kd 8 _ hk⟩ dx q1 ⟨v', H2, I2.tok _, q2, k v' Hf2 H2 (g1.trans g2) q3⟩⟩
/-- k not in d -/
theorem xt_notInM {ds : List D} (ha : XE Γ a ρ (.tup ds)) (hb : XP Γ b ρ (.dct kvs)) (K : KN kvs) (hk : KD 8 (.tup ds)) (hm : behindInMarks .NotIn b = false := by with_unfolding_all rfl) : XT Γ (.Compare a [.NotIn] [b] pos) ρ (!(dget kvs (.tup ds)).isSome) := by
  obtain ⟨P, w, K0, mg, base, T⟩ := pg
  obtain ⟨X, c0, hp, hsc, nd, nn, nl, nc_, vis, gl, calm, room⟩ := Γ
  cases hp
  intro σ Hf H Q E k
  have op : OpR X (compareOp .NotIn) (fun x y H Q => ∃ (z q : Addr) (es : List DictEntry) (Hf : Hp), x = .ref z ∧ y = .ref q ∧ Same Hf H ∧ R (pgOf X T) Hf (.tup ds) (.ref z) ∧ H q = some (dctO q es) ∧ (q == sysModules) = false ∧ RepE (pgOf X T) cl0 Hf kvs es ∧ Q (.bl (!(dget kvs (.tup ds)).isSome)) H) := by
    intro pins s σ H x y v u Q I rx ry h
    obtain ⟨z, q, es, Hf, rfl, rfl, ff, e1, e2, e3, e4, hq⟩ := h
    obtain rfl : v = Value.ref z := rx
    obtain rfl : u = Value.ref q := ry
    obtain ⟨xs, rx, dx⟩ := dict_at (pg := pgOf X T) rfl rfl rfl I ff e2 e4 K
    refine notIn_keyed (knd := nestedKind X.prog X.w) (kvs := pairsH xs) (k := nkey (.tup ds)) (by show X.A.in1.units + 8 < cLine; have := room.un; show X.A.units + 1 + 8 < cLine; omega) ⟨nested_of (pg := pgOf X T) rfl I ff 8 _ _ _ hk e1 rfl, depth_kd 8 _ hk⟩ e3 ⟨xs, dx, rfl⟩ ?_
    have : (valueAt (pairsH xs) (nkey (.tup ds))).isSome = (dget kvs (.tup ds)).isSome := by
      rw [valueAt_pairsH]
      cases e : dget kvs (.tup ds) with
      | none => rw [rx.at_none e]; rfl
      | some y =>
        obtain ⟨a', u', v', q1, _, _⟩ := rx.at_some e
        rw [q1]
        rfl
    rw [this]
    exact ⟨.bl _, H, I.tok _, rfl, hq⟩
  refine RunT.of (pt_cmpR op (runE X a) (runE X b) hm) (ha σ Hf H _ E fun v Hf1 H1 g1 r1 => hb σ Hf1 H1 _ (E.grow g1) fun u Hf2 H2 fp g2 ⟨q, es, e1, e2, e3, e4, e5⟩ _ => ?_)
  have r1' := g2.rep r1
  obtain ⟨z, vs, hv, _⟩ := id r1'
  subst hv e1
  exact ⟨z, q, es, Hf2, rfl, rfl, g2.ff, r1', e3, e4, e5, _, rfl, k Hf2 H2 (g1.trans g2)⟩
/-- list(d): the keys -/
theorem xo_listM [Bl pg] (h : XP Γ e1 ρ (.dct kvs)) (hz : kvs.length ≤ 1000000) (j : Nat) (hG : G[j]? = some ("list" : Str) := by rfl) (hst : ∀ env, starEach [e1] env = [(false, eval e1 env)] := by intro _; rfl) : XO Γ (.Call (.Name "list" p) [e1] [] pos) ρ (.lst (kvs.map Prod.fst)) := by
  have hb := Bl.list (pg := pg)
  obtain ⟨P, w, K0, mg, base, T⟩ := pg
  obtain ⟨X, c0, hp, hsc, nd, nn, nl, nc_, vis, gl, calm, room⟩ := Γ
  cases hp
  intro σ Hf H Q E kk
  have cr : CallR X (.type "list") (fun xs H Q => ∃ (q : Addr) (es : List DictEntry) (vs : List V), xs = [.ref q] ∧ H q = some (dctO q es) ∧ (q == sysModules) = false ∧ Vals vs (es.map (·.key)) ∧ vs.length ≤ sizeLine ∧ ∀ l, H l = none → Q (.ref l) (upd H l (.lst vs))) := by
    intro pins s σ H xs us Q I r h
    obtain ⟨q, es, vs, rfl, e1, e2, e3, e4, hq⟩ := h
    obtain ⟨u, rfl, rx⟩ := vals1 r
    obtain rfl : u = Value.ref q := rx
    obtain ⟨⟨o, ep, o1, o2, o3⟩, _, _⟩ := I.hok q _ e1
    have hl : es.length = vs.length := by
      have := e3.length
      rw [List.length_map] at this
      exact this.symm
    refine PySem.W.kdl_call (KdlSrc.rawDict (es := es.toArray) (ep := ep) e2) (I.ok.hd calm) ⟨o, o1, o2, o3⟩ (by rw [List.size_toArray, hl]; exact e4) fun h' tk acc' c' hk hD hacc => ?_
    have ea : acc' = (es.map (·.key)).toArray := by
      apply Array.ext
      · rw [hacc.1]; simp
      · intro i h1 h2
        obtain ⟨hi, hv⟩ := hacc.2 i acc'[i] (Array.getElem?_eq_getElem h1)
        rw [hv]
        simp
    rw [ea] at hD
    exact ⟨.ref s.heap.objs.size, _, I.laid (t' := tk) hk (Nat.le_refl _) (show ObjOk X.prog X.w _ h' _ (.lst vs) from ⟨e4, _, c', e3, hD⟩), rfl, hq _ (I.hok.fresh (Nat.le_refl _))⟩
  refine bltT (Γ := ⟨X, c0, rfl, hsc, nd, nn, nl, nc_, vis, gl, calm, room⟩) cr hb (by decide +kernel) (XA.pk h .nil hst) j hG (by decide) (by decide) (fun env => by rw [hst env] <;> rfl) (fun env => by rfl) E fun vs Hf' H' g r => ?_
  obtain ⟨v, fp, rfl, q, es, rfl, h0, h1, h2, h3⟩ := arsP r
  have keys : ∀ {kvs : List (D × D)} {es : List DictEntry}, RepE (pgOf X T) cl0 Hf' kvs es → ∃ vs : List V, Vals vs (es.map (·.key)) ∧ Rs (pgOf X T) Hf' (kvs.map Prod.fst) vs := by
    intro kvs
    induction kvs with
    | nil =>
      intro es h
      have h : es = [] := h
      subst h
      exact ⟨[], .nil, rfl⟩
    | cons y kvs ih =>
      obtain ⟨k, d⟩ := y
      rintro es ⟨e, r, a, v, rfl, q2, q3, q4, q5, q6, q7⟩
      obtain ⟨vs, w1, w2⟩ := ih q7
      refine ⟨.ref a :: vs, ?_, .ref a, vs, rfl, q4, w2⟩
      rw [List.map_cons, q2]
      exact .cons rfl w1
  obtain ⟨vs, k1, k2⟩ := keys h3
  refine ⟨q, es, vs, rfl, h1, h2, k1, by rw [k2.length, List.length_map, sizeLine_eq]; omega, fun l hl => kk _ Hf' _ [l] (g.trans (Gw.alloc g.ff g.tabs hl)) ⟨l, vs, rfl, rfl, upd_same, k2⟩ (newNone g hl)⟩
end
end Lk
set_option maxHeartbeats 1000000
namespace Lk
open PySem PySem.Spec PyProof.Rows L2
/-! ### defs that change what they are handed -/
/-- an argument: shared, looked at, or changed from o to o' -/
inductive Am where
  | sh (d : D) | pk (o : OT) | mu (o o' : OT)
def AmOk (pg : Pg) (Hf H : Hp) (M : Addr → Prop) : Am → V → List Addr → Prop
  | .sh d, v, F => F = [] ∧ R pg Hf d v
  | .pk o, v, F => F = [] ∧ ∃ fp, Own pg Hf H o v fp ∧ ∀ a ∈ fp, H a ≠ none ∧ ¬ M a
  | .mu o _, v, F => Own pg Hf H o v F ∧ ∀ a ∈ F, Hf a = none
/-- growth but for what may be changed -/
structure Gm' (pg : Pg) (M : Addr → Prop) (Hf H Hf' H' : Hp) : Prop where
  gr : Same Hf Hf'
  ff : Same Hf' H'
  ns : ∀ a o, H a = some o → ¬ M a → (∀ ps, o ≠ .tbl ps) → H' a = some o
  dom : ∀ a, H' a = none → H a = none
  agr : ∀ a, H a ≠ none → Hf' a = Hf a
  tabs : Tb pg Hf' H'
structure MuIn (pg : Pg) (Hf H : Hp) (ags : List Am) (vs : List V) (F : Nat → List Addr) : Prop where
  len : vs.length = ags.length
  ok : ∀ i a, ags[i]? = some a → ∃ v, vs[i]? = some v ∧ AmOk pg Hf H (fun b => ∃ j, b ∈ F j) a v (F i)
  out : ∀ i, ags[i]? = none → F i = []
  dis : ∀ i j a, a ∈ F i → a ∈ F j → i = j
structure MuOut (pg : Pg) (H Hf' H' : Hp) (ags : List Am) (vs : List V) (F F' : Nat → List Addr) : Prop where
  ok : ∀ i o o', ags[i]? = some (.mu o o') → ∃ v, vs[i]? = some v ∧ Own pg Hf' H' o' v (F' i) ∧ ∀ a ∈ F' i, Hf' a = none ∧ (H a = none ∨ a ∈ F i)
  out : ∀ i, (∀ o o', ags[i]? ≠ some (.mu o o')) → F' i = []
  dis : ∀ i j a, a ∈ F' i → a ∈ F' j → i = j
def PostM (pg : Pg) (ags : List Am) (vs : List V) (F : Nat → List Addr) (Hf H : Hp) (Q : VK) (E : XK) : Rz → Prop
  | .sh d => ∀ v Hf' H' F', Gm' pg (fun b => ∃ j, b ∈ F j) Hf H Hf' H' → MuOut pg H Hf' H' ags vs F F' → R pg Hf' d v → Q v H'
  | .ow o => ∀ v Hf' H' F' fp, Gm' pg (fun b => ∃ j, b ∈ F j) Hf H Hf' H' → MuOut pg H Hf' H' ags vs F F' → Own pg Hf' H' o v fp → (∀ a ∈ fp, H a = none ∧ Hf' a = none ∧ ∀ i, a ∉ F' i) → Q v H'
  | .ex C => ∀ Hf' H', Gm' pg (fun b => ∃ j, b ∈ F j) Hf H Hf' H' → E (.ref C) none H'
def spM (pg : Pg) (C : List Am → Rz → Prop) : Sp := fun vs H Q E => ∃ ags r Hf F, C ags r ∧ MuIn pg Hf H ags vs F ∧ Same Hf H ∧ Tb pg Hf H ∧ PostM pg ags vs F Hf H Q E r
/-- the mutated places -/
def muIx (ags : List Am) : List Nat := (List.range ags.length).filter fun i => match ags[i]? with
  | some (.mu _ _) => true
  | _ => false
theorem mem_muIx {ags : List Am} {i : Nat} : i ∈ muIx ags ↔ ∃ o o', ags[i]? = some (.mu o o') := by
  unfold muIx
  rw [List.mem_filter, List.mem_range]
  constructor
  · rintro ⟨_, h⟩
    split at h
    · rename_i o o' e
      exact ⟨o, o', e⟩
    · cases h
  · rintro ⟨o, o', e⟩
    exact ⟨(List.getElem?_eq_some_iff.mp e).1, by rw [e]⟩
def slM : Am → Sl
  | .sh d => .sh d
  | .pk o => .ro o
  | .mu o _ => .ow o
def slotsM (n : Nat) (ags : List Am) : List Sl := ags.map slM ++ List.replicate (n - ags.length) .no
section
variable {pg : Pg}
theorem envM_start {Hf H : Hp} {N : List Str} {vs : List V} {ags : List Am} {F : Nat → List Addr} (ff : Same Hf H) (tb : Tb pg Hf H) (I : MuIn pg Hf H ags vs F) (hl : vs.length ≤ N.length) : Env pg ⟨H, Hf, F, vs, N.length⟩ (muIx ags) Hf H (L2.start N vs) (slotsM N.length ags) := by
  have ln : (slotsM N.length ags).length = N.length := by
    unfold slotsM
    rw [List.length_append, List.length_map, List.length_replicate, ← I.len]
    omega
  refine ⟨Same.refl _, ff, fun _ _ h _ _ => h, fun _ h => h, fun _ _ => rfl, tb, fun i hi => ?_, by rw [start_len hl, ln], ln, F, fun i s e => ?_, fun i e => ?_, I.dis⟩
  · obtain ⟨o, o', e⟩ := mem_muIx.mp hi
    obtain ⟨v, hv, _⟩ := I.ok i _ e
    exact ⟨v, hv, start_get hv⟩
  · unfold slotsM at e
    by_cases hi : i < ags.length
    · rw [List.getElem?_append_left (by rw [List.length_map]; exact hi), List.getElem?_map] at e
      cases q : ags[i]? with
      | none => rw [q] at e; cases e
      | some t =>
        rw [q] at e
        cases e
        obtain ⟨v, hv, rv⟩ := I.ok i _ q
        cases t with
        | sh d => exact ⟨rv.1, v, start_get hv, rv.2⟩
        | pk o =>
          obtain ⟨h0, fp, h1, h2⟩ := rv
          exact ⟨h0, v, fp, start_get hv, h1, fun a ha z => (h2 a ha).2 z⟩
        | mu o o' =>
          obtain ⟨h1, h2⟩ := rv
          exact ⟨v, start_get hv, h1, fun a ha => ⟨h2 a ha, .inr ⟨mem_muIx.mpr ⟨o, o', q⟩, ha⟩⟩⟩
    · rw [List.getElem?_append_right (by rw [List.length_map]; omega), List.getElem?_replicate] at e
      split at e
      · cases e
        exact I.out i (List.getElem?_eq_none (by omega))
      · cases e
  · exact I.out i (List.getElem?_eq_none (by
      rw [List.getElem?_eq_none_iff, ln] at e
      have := I.len
      omega))
/-- what is wanted at the end of a body that changes what it was handed -/
def finM (cx : Bool) (ags : List Am) (r : Rz) : De :=
  ⟨fun ρ => r = .sh .non ∧ ∀ (i : Nat) o o', ags[i]? = some (Am.mu o o') → ρ[i]? = some (Sl.ow o'), fun r' ρ => r' = r ∧ ∀ (i : Nat) o o', ags[i]? = some (Am.mu o o') → ρ[i]? = some (Sl.ow o'), fun _ => False, fun _ => False, fun C _ => cx = true ∧ r = .ex C⟩
theorem env_gm {c : Cf} {own : List Nat} {Hf H : Hp} {σ : L2.St} {ρ : List Sl} {M : Addr → Prop} (E : Env pg c own Hf H σ ρ) (hM : ∀ a, a ∈ c.M → M a) : Gm' pg M c.Hf c.H Hf H :=
  ⟨E.gr, E.ff, fun a o h n t => E.pres a o h (fun z => n (hM a z)) t, E.dom, E.agr, E.tabs⟩
theorem env_out {c : Cf} {Hf H : Hp} {σ : L2.St} {ρ : List Sl} {ags : List Am} {vs : List V} {F : Nat → List Addr} (E : Env pg c (muIx ags) Hf H σ ρ) (hvs : c.vs = vs) (I : MuIn pg c.Hf c.H ags vs F) (hM : c.Mi = F)
    (hρ : ∀ (i : Nat) o o', ags[i]? = some (Am.mu o o') → ρ[i]? = some (Sl.ow o')) : ∃ F', MuOut pg c.H Hf H ags vs F F' ∧ ∀ i, i ∈ muIx ags → ∃ o' v', ρ[i]? = some (.ow o') ∧ σ[i]? = some (some v') ∧ Own pg Hf H o' v' (F' i) := by
  obtain ⟨G, h1, h2, h3⟩ := E.sl
  refine ⟨fun i => if i ∈ muIx ags then G i else [], ⟨fun i o o' e => ?_, fun i h => ?_, fun i j a hi hj => ?_⟩, fun i hi => ?_⟩
  · have hi : i ∈ muIx ags := mem_muIx.mpr ⟨o, o', e⟩
    obtain ⟨v, e1, q, ok⟩ := h1 i _ (hρ i o o' e)
    obtain ⟨v', p1, p2⟩ := E.pin i hi
    rw [e1] at p2
    cases p2
    show ∃ v, _ ∧ Own pg Hf H o' v (if i ∈ muIx ags then G i else []) ∧ ∀ a ∈ (if i ∈ muIx ags then G i else []), _
    rw [if_pos hi]
    refine ⟨v, by rw [← hvs]; exact p1, q, fun a ha => ⟨(ok a ha).1, ?_⟩⟩
    rcases (ok a ha).2 with z | ⟨_, z⟩
    · exact .inl z
    · rw [hM] at z
      exact .inr z
  · refine if_neg fun hi => ?_
    obtain ⟨o, o', e⟩ := mem_muIx.mp hi
    exact h o o' e
  · have hi : a ∈ (if i ∈ muIx ags then G i else []) := hi
    have hj : a ∈ (if j ∈ muIx ags then G j else []) := hj
    by_cases q : i ∈ muIx ags
    · by_cases q2 : j ∈ muIx ags
      · rw [if_pos q] at hi
        rw [if_pos q2] at hj
        exact h3 i j a hi hj
      · rw [if_neg q2] at hj; cases hj
    · rw [if_neg q] at hi; cases hi
  · obtain ⟨o, o', e⟩ := mem_muIx.mp hi
    obtain ⟨v, e1, q, _⟩ := h1 i _ (hρ i o o' e)
    exact ⟨o', v, hρ i o o' e, e1, by show Own pg Hf H o' v (if i ∈ muIx ags then G i else []); rw [if_pos hi]; exact q⟩
end
end Lk
set_option maxHeartbeats 1000000
namespace Lk
open PySem PySem.Spec PyProof.Rows L2
section
variable {pg : Pg}
theorem sim_finM {sc : Scope} {N : List (Str × Bool)} {G : List Str} {lv : Nat} {ags : List Am} {Γ : Gf pg sc N G lv (muIx ags)} {cx : Bool} {r : Rz} {Q : VK} {E : XK} {F : Nat → List Addr} (I : MuIn pg Γ.c.Hf Γ.c.H ags Γ.c.vs F) (hM : Γ.c.Mi = F) (hW : ∀ cls d σ H, (cx = true ∧ E cls d H) → Γ.W cls d σ H)
    (p : PostM pg ags Γ.c.vs F Γ.c.Hf Γ.c.H Q E r) : Sim Γ Γ.c.Hf (finM cx ags r) { nx := fun _ H' => Q .non H', rt := Q } := by
  have hm : ∀ a, a ∈ Γ.c.M → ∃ j, a ∈ F j := fun a ⟨j, h⟩ => ⟨j, by rw [← hM]; exact h⟩
  refine ⟨fun σ Hf H ρ E' _ q => ?_, fun σ Hf H ρ E' _ q => q.elim, fun σ Hf H ρ E' _ q => q.elim, fun σ Hf H ρ d v E' q r' => ?_, fun σ Hf H ρ o v fp E' q r' nf ap => ?_, fun σ Hf H ρ C E' q => ?_⟩
  · obtain ⟨q, w⟩ := q
    subst q
    obtain ⟨F', m, _⟩ := env_out E' rfl I hM w
    exact p .non Hf H F' (env_gm E' hm) m rfl
  · obtain ⟨q, w⟩ := q
    subst q
    obtain ⟨F', m, _⟩ := env_out E' rfl I hM w
    exact p v Hf H F' (env_gm E' hm) m r'
  · obtain ⟨q, w⟩ := q
    subst q
    obtain ⟨F', m, z⟩ := env_out E' rfl I hM w
    refine p v Hf H F' fp (env_gm E' hm) m r' fun a ha => ⟨(nf a ha).1, (nf a ha).2, fun i hi => ?_⟩
    by_cases hx : i ∈ muIx ags
    · obtain ⟨o', v', z1, z2, z3⟩ := z i hx
      exact ap i hx o' v' (F' i) z1 z2 z3 a ha hi
    · rw [m.out i fun o o' e => hx (mem_muIx.mpr ⟨o, o', e⟩)] at hi
      cases hi
  · obtain ⟨q1, q⟩ := q
    subst q
    exact hW _ _ _ _ ⟨q1, p Hf H (env_gm E' hm)⟩
/-- THE RULE for a def that changes what it is handed -/
theorem fnM_ok {x qual : Str} {st : Stmt} {f : Addr} {fd : FuncData} {dvs : List V} {N : List (Str × Bool)} {ps G : List Str} {k : Nat} {cx : Bool} {own : List Nat} {C : List Am → Rz → Prop} (F : FunD pg.K x qual (defArgs st) (defBody st) (defScope st) dvs [] f fd) (S : Sc N ps G (defScope st))
    (len : ∀ ags r, C ags r → ags.length = ps.length) (ow : ∀ ags r, C ags r → muIx ags = own) (hb : ∀ (Γ : Gf pg (defScope st) N G k own) ags r, C ags r → XSs Γ (defBody st) (slotsM N.length ags) (finM cx ags r)) : FnOk pg.P pg.w pg.K pg.mg pg.base (CXb pg cx) (k + 1) f fd ps (spM pg C) := by
  have hpl : ps.length ≤ N.length := by
    have q := congrArg List.length S.fs.pre
    rw [List.length_take, List.length_map] at q
    omega
  refine F.ok S.fs (fun vs H Q E ⟨ags, r, Hf, F, h1, h2, _⟩ => by rw [h2.len, len ags r h1]) fun cdv A outer s H vs Q E hr ⟨ags, r, Hf, F, h1, h2, h3, h4, h5⟩ => ?_
  have hl : vs.length ≤ N.length := by
    rw [h2.len, len ags r h1]
    exact hpl
  have vis : ∀ (i : Nat) (x : Str), N[i]? = some (x, true) → (N.map Prod.fst)[i]? = some x := fun i x e => by
    rw [List.getElem?_map, e]
    rfl
  have lv : ∀ y, Loc (defScope st) y → Vis (defScope st) y := fun y z => z.elim .inl fun z => .inr (.inl z)
  have st_ : ∀ (i : Nat) (y : Str), N[i]? = some (y, true) → Loc (defScope st) y := fun i y e => S.loc y (List.mem_of_getElem? e)
  have en := envM_start (N := N.map Prod.fst) h3 h4 h2 (by rw [List.length_map]; exact hl)
  rw [List.length_map] at en
  have hown := ow ags r h1
  subst hown
  cases cx with
  | false =>
    let Γ : Gf pg (defScope st) N G k (muIx ags) := ⟨⟨(cxOf CX0 pg.P pg.w pg.K pg.mg pg.base (N.map Prod.fst) qual (defScope st) f cdv A outer s H E).nox, ⟨H, Hf, F, vs, N.length⟩, rfl, rfl, S.fs.nd, rfl, (List.length_map ..), rfl,
      fun i y e => ⟨vis i y e, lv y (st_ i y e)⟩, fun y hy => S.gl y hy, rfl, hr⟩, fun _ _ _ _ => False, fun i y e => ⟨st_ i y e, .inl rfl⟩, takes0, PassesOwn.never, rfl, rfl⟩
    refine ⟨fun D σ H => RunSs Γ.X (defBody st) σ H D, PSs.nox (runSs Γ.X _), ?_⟩
    exact hb Γ ags r h1 (L2.start (N.map Prod.fst) vs) Hf H _ en (sim_finM (cx := false) (E := E) h2 rfl (fun _ _ _ _ z => nomatch z.1) h5)
  | true =>
    let Γ : Gf pg (defScope st) N G k (muIx ags) := ⟨⟨cxOf (L2.CX pg.P pg.w) pg.P pg.w pg.K pg.mg pg.base (N.map Prod.fst) qual (defScope st) f cdv A outer s H E, ⟨H, Hf, F, vs, N.length⟩, rfl, rfl, S.fs.nd, rfl, (List.length_map ..), rfl,
      fun i y e => ⟨vis i y e, lv y (st_ i y e)⟩, fun y hy => S.gl y hy, rfl, hr⟩, fun cls d _ H => E cls d H, fun i y e => ⟨st_ i y e, .inl rfl⟩, takes_of rfl rfl rfl rfl, passes_of rfl, rfl, rfl⟩
    refine ⟨fun D σ H => RunSs Γ.X (defBody st) σ H D, runSs Γ.X _, ?_⟩
    exact hb Γ ags r h1 (L2.start (N.map Prod.fst) vs) Hf H _ en (sim_finM (cx := true) (E := E) h2 rfl (fun _ _ _ _ z => z.2) h5)
end
/-! ### calls of such defs -/
/-- what is handed over: shared data, a slot's thing looked at, a slot's thing to be changed -/
inductive Itm where
  | sh (d : D) | lk (i : Nat) (o : OT) | mu (i : Nat) (o o' : OT)
def Itm.am : Itm → Am
  | .sh d => .sh d
  | .lk _ o => .pk o
  | .mu _ o o' => .mu o o'
def ItOk (pg : Pg) (Hf : Hp) (σ : L2.St) : Itm → V → Prop
  | .sh d, v => R pg Hf d v
  | .lk i _, v => σ[i]? = some (some v)
  | .mu i _ _, v => σ[i]? = some (some v)
def ItsOk (pg : Pg) (Hf : Hp) (σ : L2.St) : List Itm → List V → Prop
  | [], vs => vs = []
  | t :: ts, vs => ∃ v r, vs = v :: r ∧ ItOk pg Hf σ t v ∧ ItsOk pg Hf σ ts r
theorem ItsOk.get {pg : Pg} {Hf : Hp} {σ : L2.St} : ∀ {ts : List Itm} {vs : List V} {i : Nat} {t : Itm}, ItsOk pg Hf σ ts vs → ts[i]? = some t → ∃ v, vs[i]? = some v ∧ ItOk pg Hf σ t v
  | t :: ts, _, 0, t', ⟨v, r, h1, h2, h3⟩, e => by
    subst h1
    cases e
    exact ⟨v, rfl, h2⟩
  | t :: ts, _, i + 1, t', ⟨v, r, h1, h2, h3⟩, e => by
    subst h1
    exact ItsOk.get (i := i) h3 e
theorem ItsOk.length {pg : Pg} {Hf : Hp} {σ : L2.St} : ∀ {ts : List Itm} {vs : List V}, ItsOk pg Hf σ ts vs → vs.length = ts.length
  | [], _, h => by
    have h : _ = [] := h
    rw [h]
    rfl
  | t :: ts, _, ⟨v, r, h1, h2, h3⟩ => by rw [h1, List.length_cons, List.length_cons, ItsOk.length h3]
/-- the slots agree with the items, each slot at most once to be changed, none both looked at and changed -/
structure ItsIn (ρ : List Sl) (ts : List Itm) : Prop where
  mu : ∀ (j i : Nat) o o', ts[j]? = some (Itm.mu i o o') → ρ[i]? = some (Sl.ow o)
  lk : ∀ (j i : Nat) o, ts[j]? = some (Itm.lk i o) → ρ[i]? = some (Sl.ow o) ∨ ρ[i]? = some (Sl.ro o)
  inj : ∀ (j j' i : Nat) o o' p p', ts[j]? = some (Itm.mu i o o') → ts[j']? = some (Itm.mu i p p') → j = j'
  nlk : ∀ (j j' i : Nat) o p p', ts[j]? = some (Itm.lk i o) → ts[j']? ≠ some (Itm.mu i p p')
/-- the slots behind the call -/
def aftr : List Itm → List Sl → List Sl
  | [], ρ => ρ
  | .mu i _ o' :: ts, ρ => aftr ts (ρ.set i (.ow o'))
  | _ :: ts, ρ => aftr ts ρ
theorem aftr_len : ∀ {ts : List Itm} {ρ : List Sl}, (aftr ts ρ).length = ρ.length
  | [], _ => rfl
  | .mu i _ o' :: ts, ρ => by
    show (aftr ts (ρ.set i (.ow o'))).length = _
    rw [aftr_len, List.length_set]
  | .sh d :: ts, ρ => aftr_len (ts := ts)
  | .lk i o :: ts, ρ => aftr_len (ts := ts)
theorem aftr_out : ∀ {ts : List Itm} {ρ : List Sl} {i : Nat}, (∀ (j : Nat) o o', ts[j]? ≠ some (Itm.mu i o o')) → (aftr ts ρ)[i]? = ρ[i]?
  | [], _, _, _ => rfl
  | .mu i' o1 o' :: ts, ρ, i, h => by
    have hne : i' ≠ i := fun e => h 0 o1 o' (by rw [e]; rfl)
    show (aftr ts (ρ.set i' (.ow o')))[i]? = _
    rw [aftr_out (ts := ts) fun j o o' e => h (j + 1) o o' (by simpa using e), List.getElem?_set_ne hne]
  | .sh d :: ts, ρ, i, h => aftr_out (ts := ts) fun j o o' e => h (j + 1) o o' (by simpa using e)
  | .lk i' o :: ts, ρ, i, h => aftr_out (ts := ts) fun j o o' e => h (j + 1) o o' (by simpa using e)
theorem aftr_in : ∀ {ts : List Itm} {ρ : List Sl} {i j : Nat} {o o' : OT}, (∀ (j j' : Nat) o o' p p', ts[j]? = some (Itm.mu i o o') → ts[j']? = some (Itm.mu i p p') → j = j') → ts[j]? = some (Itm.mu i o o') → i < ρ.length → (aftr ts ρ)[i]? = some (.ow o')
  | [], _, _, _, _, _, _, h, _ => by simp at h
  | .mu i' o1 o2 :: ts, ρ, i, 0, o, o', inj, h, hi => by
    simp at h
    obtain ⟨rfl, rfl, rfl⟩ := h
    show (aftr ts (ρ.set i' (.ow o2)))[i']? = _
    rw [aftr_out (ts := ts) fun j p p' e => by
      have := inj 0 (j + 1) o1 o2 p p' rfl (by simpa using e)
      omega]
    rw [List.getElem?_set_self hi]
  | .mu i' o1 o2 :: ts, ρ, i, j + 1, o, o', inj, h, hi => aftr_in (ts := ts) (j := j) (fun a b o o' p p' q1 q2 => by have := inj (a + 1) (b + 1) o o' p p' (by simpa using q1) (by simpa using q2); omega) (by simpa using h) (by rw [List.length_set]; exact hi)
  | .sh d :: ts, ρ, i, 0, o, o', inj, h, hi => by simp at h
  | .lk i' p :: ts, ρ, i, 0, o, o', inj, h, hi => by simp at h
  | .sh d :: ts, ρ, i, j + 1, o, o', inj, h, hi => aftr_in (ts := ts) (j := j) (fun a b o o' p p' q1 q2 => by have := inj (a + 1) (b + 1) o o' p p' (by simpa using q1) (by simpa using q2); omega) (by simpa using h) hi
  | .lk i' p :: ts, ρ, i, j + 1, o, o', inj, h, hi => aftr_in (ts := ts) (j := j) (fun a b o o' p p' q1 q2 => by have := inj (a + 1) (b + 1) o o' p p' (by simpa using q1) (by simpa using q2); omega) (by simpa using h) hi
section
variable {pg : Pg} {c : Cf} {own : List Nat} {Hf H : Hp} {σ : L2.St} {ρ : List Sl} {ts : List Itm} {vs : List V}
/-- the slots' things are handed over and come back changed -/
theorem Env.hand (E : Env pg c own Hf H σ ρ) (hi : ItsIn ρ ts) (ho : ItsOk pg Hf σ ts vs) : ∃ F : Nat → List Addr, MuIn pg Hf H (ts.map Itm.am) vs F ∧
    ∀ Hf' H' F', Gm' pg (fun b => ∃ j, b ∈ F j) Hf H Hf' H' → MuOut pg H Hf' H' (ts.map Itm.am) vs F F' → Env pg c own Hf' H' σ (aftr ts ρ) := by
  obtain ⟨G, h1, h2, h3⟩ := E.sl
  obtain ⟨F, hF⟩ : ∃ F : Nat → List Addr, F = fun j => match ts[j]? with
      | some (Itm.mu i _ _) => G i
      | _ => [] := ⟨_, rfl⟩
  have Fmu : ∀ (j i : Nat) o o', ts[j]? = some (Itm.mu i o o') → F j = G i := fun j i o o' e => by rw [hF]; dsimp only; rw [e]
  have Fno : ∀ j, (∀ (i : Nat) o o', ts[j]? ≠ some (Itm.mu i o o')) → F j = [] := fun j h => by
    rw [hF]
    dsimp only
    split
    · rename_i i o o' e
      exact absurd e (h i o o')
    · rfl
  have Fin : ∀ j a, a ∈ F j → ∃ (i : Nat) (o o' : OT), ts[j]? = some (Itm.mu i o o') ∧ a ∈ G i := fun j a ha => by
    rw [hF] at ha
    dsimp only at ha
    split at ha
    · rename_i i o o' e
      exact ⟨i, o, o', e, ha⟩
    · cases ha
  refine ⟨F, ⟨by rw [ho.length, List.length_map], fun j a e => ?_, fun j e => ?_, fun j j' a q1 q2 => ?_⟩, fun Hf' H' F' g m => ?_⟩
  · rw [List.getElem?_map] at e
    cases et : ts[j]? with
    | none => rw [et] at e; cases e
    | some t =>
      rw [et] at e
      cases e
      obtain ⟨v, hv, ok⟩ := ho.get et
      refine ⟨v, hv, ?_⟩
      cases t with
      | sh d => exact ⟨Fno j fun i o o' z => (by rw [et] at z; cases z), ok⟩
      | lk i o =>
        refine ⟨Fno j fun i o o' z => (by rw [et] at z; cases z), ?_⟩
        obtain ⟨v', fp, e1, q, nn⟩ := E.look (hi.lk j i o et)
        have ok : σ[i]? = some (some v) := ok
        rw [ok] at e1
        cases e1
        refine ⟨fp, q, fun a ha => ⟨nn a ha, fun ⟨j', hj'⟩ => ?_⟩⟩
        obtain ⟨i', p, p', e', ha'⟩ := Fin j' a hj'
        have hne : i' ≠ i := fun z => hi.nlk j j' i o p p' et (by rw [← z]; exact e')
        obtain ⟨v2, e2, q2, ok2⟩ := h1 i' _ (hi.mu j' i' p p' e')
        rcases hi.lk j i o et with w | w
        · obtain ⟨v3, e3, q3, _⟩ := h1 i _ w
          rw [ok] at e3
          cases e3
          rw [OwnT.uniq q q3 rfl] at ha
          exact hne (h3 i' i a ha' ha)
        · obtain ⟨_, v3, fp3, e3, q3, nm⟩ := h1 i _ w
          rw [ok] at e3
          cases e3
          have q3' : Own pg Hf H o v fp3 := q3.mono cm0 (Same.refl _) fun a ha u hu ht => E.pres a u hu (nm a ha) ht
          rw [OwnT.uniq q q3' rfl] at ha
          obtain ⟨u, hu, _⟩ := q3.there a ha
          rcases (ok2 a ha').2 with z | ⟨_, z⟩
          · rw [z] at hu; cases hu
          · exact nm a ha ⟨_, z⟩
      | mu i o o' =>
        obtain ⟨v', e1, q, ok2⟩ := h1 i _ (hi.mu j i o o' et)
        have ok : σ[i]? = some (some v) := ok
        rw [ok] at e1
        cases e1
        rw [show F j = G i from Fmu j i o o' et]
        exact ⟨q, fun a ha => (ok2 a ha).1⟩
  · refine Fno j fun i o o' z => ?_
    rw [List.getElem?_map, z] at e
    cases e
  · obtain ⟨i, o, o', e, ha⟩ := Fin j a q1
    obtain ⟨i', p, p', e', ha'⟩ := Fin j' a q2
    have := h3 i i' a ha ha'
    subst this
    exact hi.inj j j' i o o' p p' e e'
  · -- the state behind
    have old : ∀ i, ∀ a ∈ G i, H a ≠ none := fun i a ha z => by
      cases q : ρ[i]? with
      | none => rw [h2 i q] at ha; cases ha
      | some s =>
        have k := h1 i s q
        cases s with
        | no => rw [show G i = [] from k] at ha; cases ha
        | sh d => rw [k.1] at ha; cases ha
        | ro o => rw [k.1] at ha; cases ha
        | ow o =>
          obtain ⟨_, _, k1, _⟩ := k
          obtain ⟨u, hu, _⟩ := k1.there a ha
          rw [z] at hu; cases hu
    obtain ⟨G', hG'⟩ : ∃ G' : Nat → List Addr, (∀ (j i : Nat) o o', ts[j]? = some (Itm.mu i o o') → G' i = F' j) ∧ ∀ i, (∀ (j : Nat) o o', ts[j]? ≠ some (Itm.mu i o o')) → G' i = G i := by
      refine ⟨fun i => @dite _ (∃ (j : Nat) (o o' : OT), ts[j]? = some (Itm.mu i o o')) (Classical.propDecidable _) (fun h => F' h.choose) fun _ => G i, fun j i o o' e => ?_, fun i h => ?_⟩
      · have hx : ∃ (j : Nat) (o o' : OT), ts[j]? = some (Itm.mu i o o') := ⟨j, o, o', e⟩
        refine (dif_pos hx).trans ?_
        obtain ⟨p, p', e'⟩ := hx.choose_spec
        rw [hi.inj _ _ i p p' o o' e' e]
      · refine dif_neg ?_
        rintro ⟨j, o, o', e⟩
        exact h j o o' e
    obtain ⟨g1, g2⟩ := hG'
    have notM : ∀ i, (∀ (j : Nat) o o', ts[j]? ≠ some (Itm.mu i o o')) → ∀ a ∈ G i, ¬ ∃ j, a ∈ F j := fun i h a ha ⟨j, hj⟩ => by
      obtain ⟨i', p, p', e', ha'⟩ := Fin j a hj
      have := h3 i i' a ha ha'
      subst this
      exact h j p p' e'
    have inM : ∀ a, (∃ j, a ∈ F j) → c.H a = none ∨ a ∈ c.M := fun a ⟨j, hj⟩ => by
      obtain ⟨i', p, p', e', ha'⟩ := Fin j a hj
      obtain ⟨_, _, _, ok⟩ := h1 i' _ (hi.mu j i' p p' e')
      rcases (ok a ha').2 with z | ⟨_, z⟩
      · exact .inl z
      · exact .inr ⟨_, z⟩
    refine ⟨E.gr.trans g.gr, g.ff, fun a u e m' t => ?_, fun a z => E.dom a (g.dom a z), fun a z => (g.agr a fun y => z (E.dom a y)).trans (E.agr a z), g.tabs, E.pin, by rw [aftr_len]; exact E.len, by rw [aftr_len]; exact E.ln, G', fun i s e => ?_, fun i e => ?_, fun i i' a q1 q2 => ?_⟩
    · refine g.ns a u (E.pres a u e m' t) (fun hm => ?_) t
      rcases inM a hm with z | z
      · rw [z] at e; cases e
      · exact m' z
    · by_cases hx : ∃ (j : Nat) (o o' : OT), ts[j]? = some (Itm.mu i o o')
      · obtain ⟨j, o, o', et⟩ := hx
        have hr := hi.mu j i o o' et
        have hil : i < ρ.length := (List.getElem?_eq_some_iff.mp hr).1
        rw [aftr_in (fun a b o o' p p' q1 q2 => hi.inj a b i o o' p p' q1 q2) et hil] at e
        cases e
        rw [g1 j i o o' et]
        obtain ⟨v, hv, q, ok⟩ := m.ok j o o' (by rw [List.getElem?_map, et]; rfl)
        obtain ⟨v', hv', ok'⟩ := ho.get et
        rw [hv] at hv'
        cases hv'
        refine ⟨v, ok', q, fun a ha => ⟨(ok a ha).1, ?_⟩⟩
        rcases (ok a ha).2 with z | z
        · exact .inl (E.dom a z)
        · rw [Fmu j i o o' et] at z
          obtain ⟨_, _, _, k⟩ := h1 i _ hr
          exact (k a z).2
      · have hx : ∀ (j : Nat) o o', ts[j]? ≠ some (Itm.mu i o o') := fun j o o' z => hx ⟨j, o, o', z⟩
        rw [aftr_out hx] at e
        rw [g2 i hx]
        have k := h1 i s e
        cases s with
        | no => exact k
        | sh d =>
          obtain ⟨k0, v, e1, k1⟩ := k
          exact ⟨k0, v, e1, k1.mono cm0 g.gr⟩
        | ro o =>
          obtain ⟨k0, v, fp, e1, k1, k2⟩ := k
          exact ⟨k0, v, fp, e1, k1.mono cm0 g.gr fun _ _ _ hu _ => hu, k2⟩
        | ow o =>
          obtain ⟨v, e1, k1, k2⟩ := k
          refine ⟨v, e1, k1.mono cm0 g.gr fun a ha u hu ht => g.ns a u hu (notM i hx a ha) ht, fun a ha => ?_⟩
          obtain ⟨w1, w2⟩ := k2 a ha
          exact ⟨(g.agr a (old i a ha)).trans w1, w2⟩
    · have hx : ∀ (j : Nat) o o', ts[j]? ≠ some (Itm.mu i o o') := fun j o o' z => by
        have hr := hi.mu j i o o' z
        have hil : i < ρ.length := (List.getElem?_eq_some_iff.mp hr).1
        rw [List.getElem?_eq_none_iff, aftr_len] at e
        omega
      rw [aftr_out hx] at e
      rw [g2 i hx]
      exact h2 i e
    · by_cases hx : ∃ (j : Nat) (o o' : OT), ts[j]? = some (Itm.mu i o o')
      · obtain ⟨j, o, o', et⟩ := hx
        rw [g1 j i o o' et] at q1
        by_cases hy : ∃ (j : Nat) (o o' : OT), ts[j]? = some (Itm.mu i' o o')
        · obtain ⟨j', p, p', et'⟩ := hy
          rw [g1 j' i' p p' et'] at q2
          have := m.dis j j' a q1 q2
          subst this
          rw [et] at et'
          cases et'
          rfl
        · have hy : ∀ (j : Nat) o o', ts[j]? ≠ some (Itm.mu i' o o') := fun j o o' z => hy ⟨j, o, o', z⟩
          rw [g2 i' hy] at q2
          obtain ⟨v, hv, q, ok⟩ := m.ok j o o' (by rw [List.getElem?_map, et]; rfl)
          rcases (ok a q1).2 with z | z
          · exact absurd z (old i' a q2)
          · exact absurd ⟨j, z⟩ (notM i' hy a q2)
      · have hx : ∀ (j : Nat) o o', ts[j]? ≠ some (Itm.mu i o o') := fun j o o' z => hx ⟨j, o, o', z⟩
        rw [g2 i hx] at q1
        by_cases hy : ∃ (j : Nat) (o o' : OT), ts[j]? = some (Itm.mu i' o o')
        · obtain ⟨j', p, p', et'⟩ := hy
          rw [g1 j' i' p p' et'] at q2
          obtain ⟨v, hv, q, ok⟩ := m.ok j' p p' (by rw [List.getElem?_map, et']; rfl)
          rcases (ok a q2).2 with z | z
          · exact absurd z (old i a q1)
          · exact absurd ⟨j', z⟩ (notM i hx a q1)
        · have hy : ∀ (j : Nat) o o', ts[j]? ≠ some (Itm.mu i' o o') := fun j o o' z => hy ⟨j, o, o', z⟩
          rw [g2 i' hy] at q2
          exact h3 i i' a q1 q2
end
end Lk
set_option maxHeartbeats 1000000
namespace Lk
open PySem PySem.Spec PyProof.Rows L2
section
variable {pg : Pg} {c : Cf} {own : List Nat} {Hf H Hf' H' : Hp} {σ : L2.St} {ρ : List Sl} {ts : List Itm} {vs : List V}
/-- behind an exception nothing is said of the slots -/
theorem Env.bare (E : Env pg c own Hf H σ ρ) {M : Addr → Prop} (g : Gm' pg M Hf H Hf' H') (hm : ∀ a, M a → c.H a = none ∨ a ∈ c.M) : Env pg c own Hf' H' σ (List.replicate ρ.length .no) := by
  refine ⟨E.gr.trans g.gr, g.ff, fun a u e m' t => ?_, fun a z => E.dom a (g.dom a z), fun a z => (g.agr a fun y => z (E.dom a y)).trans (E.agr a z), g.tabs, E.pin, by rw [List.length_replicate]; exact E.len, by rw [List.length_replicate]; exact E.ln, fun _ => [], fun i s e => ?_, fun _ _ => rfl, fun i j a h => nomatch h⟩
  · refine g.ns a u (E.pres a u e m' t) (fun h => ?_) t
    rcases hm a h with z | z
    · rw [z] at e; cases e
    · exact m' z
  · rw [List.getElem?_replicate] at e
    split at e
    · cases e
      exact rfl
    · cases e
theorem Gw.gm (g : Gw pg Hf H Hf' H') (M : Addr → Prop) : Gm' pg M Hf H Hf' H' := ⟨g.gr, g.ff, fun a o h _ t => g.ns a o h t, g.dom, g.agr, g.tabs⟩
/-- a name is given a new thing, apart from all that the names hold -/
theorem Env.put {i : Nat} {o : OT} {v : V} {fp : List Addr} (E : Env pg c own Hf H σ ρ) (hi : i < ρ.length) (ho : i ∉ own) (r : Own pg Hf H o v fp) (nf : ∀ a ∈ fp, c.H a = none ∧ Hf a = none)
    (ap : ∀ (j : Nat) o' v' f', ρ[j]? = some (Sl.ow o') → σ[j]? = some (some v') → Own pg Hf H o' v' f' → ∀ a ∈ fp, a ∉ f') : Env pg c own Hf H (σ.set i (some v)) (ρ.set i (.ow o)) := by
  obtain ⟨F, h1, h2, h3⟩ := E.sl
  have cross : ∀ j, ∀ a ∈ F j, a ∉ fp := fun j a ha hb => by
    cases q : ρ[j]? with
    | none => rw [h2 j q] at ha; cases ha
    | some s =>
      have k := h1 j s q
      cases s with
      | no => rw [show F j = [] from k] at ha; cases ha
      | sh d => rw [k.1] at ha; cases ha
      | ro o => rw [k.1] at ha; cases ha
      | ow o' =>
        obtain ⟨v', e1, k1, _⟩ := k
        exact ap j o' v' (F j) q e1 k1 a hb ha
  refine ⟨E.gr, E.ff, E.pres, E.dom, E.agr, E.tabs, fun j hj => ?_, by rw [List.length_set, List.length_set]; exact E.len, by rw [List.length_set]; exact E.ln, fun j => if j = i then fp else F j, fun j s e => ?_, fun j e => ?_, fun j k a hj hk => ?_⟩
  · obtain ⟨v', e1, e2⟩ := E.pin j hj
    exact ⟨v', e1, by rw [List.getElem?_set_ne (fun z => ho (by rw [z]; exact hj))]; exact e2⟩
  · dsimp only
    by_cases q : i = j
    · subst q
      rw [List.getElem?_set_self hi] at e
      cases e
      rw [if_pos rfl]
      exact ⟨v, by rw [List.getElem?_set_self (by rw [E.len]; exact hi)], r, fun a ha => ⟨(nf a ha).2, .inl (nf a ha).1⟩⟩
    · rw [List.getElem?_set_ne q] at e
      rw [if_neg (fun z : j = i => q z.symm), List.getElem?_set_ne q]
      exact h1 j s e
  · dsimp only
    by_cases q : i = j
    · subst q
      rw [List.getElem?_eq_none_iff, List.length_set] at e
      omega
    · show (if j = i then _ else _) = _
      rw [if_neg (fun z : j = i => q z.symm)]
      rw [List.getElem?_set_ne q] at e
      exact h2 j e
  · have hj : a ∈ (if j = i then fp else F j) := hj
    have hk : a ∈ (if k = i then fp else F k) := hk
    by_cases q : j = i
    · by_cases q2 : k = i
      · rw [q, q2]
      · rw [if_pos q] at hj
        rw [if_neg q2] at hk
        exact absurd hj (cross k a hk)
    · by_cases q2 : k = i
      · rw [if_neg q] at hj
        rw [if_pos q2] at hk
        exact absurd hk (cross j a hj)
      · rw [if_neg q] at hj
        rw [if_neg q2] at hk
        exact h3 j k a hj hk
end
/-! ### calls that change slots, or let an exception out -/
theorem run_fnX {X : Cx} {CX : CXT} {k : Nat} {f : Addr} {fd : FuncData} {ps : List Str} {sp : Sp} {dvs : List V} {ds : List Value} {E : XK} {pins : List (Addr × Obj)} {σ : L2.St} {H : Hp} {s : Shared} {Q : VK} {us : List Value} {vs : List V}
    (F : FnOk X.prog X.w X.K X.mg X.base CX k f fd ps sp) (hr : Room k X.A) (hb : Binds X.K fd ps ds) (hd : Vals dvs ds) (hx : PassesAt CX X σ E) (I : Inv X pins σ H s) (r : Vals vs us) (h : sp (vs ++ dvs) H Q E) : wpAny (model X.prog X.w) X.A (call (.ref f) us) (EP X pins σ Q) X.xe s := by
  have r2 : Vals (vs ++ dvs) (us ++ ds) := r.append hd
  have hl : (us ++ ds).length = ps.length := by rw [← r2.length]; exact F.len _ _ _ _ h
  refine wpAny_call (codeAny_mono (F.run X.A X.stack s H ⟨us, []⟩ (us ++ ds) (vs ++ dvs) Q E hr I.env0 (hb s us I.kIn hl) r2 h) fun r s' hq => ?_)
  cases r with
  | error e => exact hx pins H s e s' I hq
  | ok fl =>
    cases fl with
    | ret u => exact I.after hq
    | next => exact False.elim hq
    | brk => exact False.elim hq
    | cont => exact False.elim hq
section
variable {pg : Pg} {sc : Scope} {N : List (Str × Bool)} {G : List Str} {lv : Nat} {own : List Nat} {Γ : Gf pg sc N G lv own} {ρ ρ' : List Sl} {a b e e1 : Expr} {es : List Expr} {d : D} {o : OT} {pos p p' apos : Pos} {i k : Nat} {x m : Str} {cx : Bool} {dd : List D} {as : List Ar} {r : Rz} {C : Addr} {De : De} {ts : List Itm} {body orelse : List Stmt}
def E1 (Γ : Gf pg sc N G lv own) (cx : Bool) (σ : L2.St) : XK := if cx then fun cls d H => Γ.W cls d σ H else E0
theorem passX (Γ : Gf pg sc N G lv own) (cx : Bool) (σ : L2.St) : PassesAt (CXb pg cx) Γ.X σ (E1 Γ cx σ) := by
  obtain ⟨P, w, K, mg, base, T⟩ := pg
  obtain ⟨⟨X, c, hp, hsc, nd, nn, nl, nc_, vis, gl, calm, room⟩, W, st, tk, po, stk, frm⟩ := Γ
  cases hp
  cases cx with
  | false => exact fun _ _ _ _ _ _ h => h.elim
  | true => exact passAt tk σ
/-- e lets an error of the class C out -/
def XX (Γ : Gf pg sc N G lv own) (e : Expr) (ρ : List Sl) (C : Addr) : Prop := ∀ σ Hf H Q, Env pg Γ.c own Hf H σ ρ → (∀ Hf' H' ρx, Env pg Γ.c own Hf' H' σ ρx → Γ.W (.ref C) none σ H') → RunE Γ.X e σ H Q
/-- e turns the slots ρ into ρ' -/
def XC (Γ : Gf pg sc N G lv own) (e : Expr) (ρ ρ' : List Sl) (d : D) : Prop := ∀ σ Hf H Q, Env pg Γ.c own Hf H σ ρ → (∀ v Hf' H', Env pg Γ.c own Hf' H' σ ρ' → Same Hf Hf' → R pg Hf' d v → Q v H') → RunE Γ.X e σ H Q
def XCo (Γ : Gf pg sc N G lv own) (e : Expr) (ρ ρ' : List Sl) (o : OT) : Prop := ∀ σ Hf H Q, Env pg Γ.c own Hf H σ ρ → (∀ v Hf' H' fp, Env pg Γ.c own Hf' H' σ ρ' → Same Hf Hf' → Own pg Hf' H' o v fp → (∀ a ∈ fp, Γ.c.H a = none ∧ Hf' a = none) →
  (∀ (j : Nat) o' v' f', ρ'[j]? = some (Sl.ow o') → σ[j]? = some (some v') → Own pg Hf' H' o' v' f' → ∀ a ∈ fp, a ∉ f') → Q v H') → RunE Γ.X e σ H Q
/-- such a def, such a method -/
def FnM (pg : Pg) (k : Nat) (cx : Bool) (x : Str) (C : List Am → Rz → Prop) : Prop := ∃ (f : Addr) (fd : FuncData) (ps : List Str), pg.mg x = some (.ref f) ∧ PySem.W.keepIn pg.K (.ref f) = true ∧ FnOk pg.P pg.w pg.K pg.mg pg.base (CXb pg cx) k f fd ps (spM pg C) ∧ Binds pg.K fd ps []
def MtM (pg : Pg) (k : Nat) (cx : Bool) (Cl : Addr) (m : Str) (C : List Am → Rz → Prop) : Prop := ∃ (f : Addr) (fd : FuncData) (ps : List Str), Cls pg.K Cl ∧ Meth pg.K Cl m f ∧ FnOk pg.P pg.w pg.K pg.mg pg.base (CXb pg cx) k f fd ps (spM pg C) ∧ Binds pg.K fd ps []
/-- the arguments -/
def XM (Γ : Gm pg sc N G lv own) (es : List Expr) (ρ : List Sl) (ts : List Itm) : Prop := ∀ σ Hf H Q, Env pg Γ.c own Hf H σ ρ → (∀ vs Hf' H', Gw pg Hf H Hf' H' → ItsOk pg Hf' σ ts vs → Q vs H') → RunA Γ.X es σ H Q
theorem ItOk.mono {Hf Hf' : Hp} {σ : L2.St} (g : Same Hf Hf') : ∀ {t : Itm} {v : V}, ItOk pg Hf σ t v → ItOk pg Hf' σ t v
  | .sh d, _, h => Rep.mono cm0 g h
  | .lk i o, _, h => h
  | .mu i o o', _, h => h
theorem ItsOk.mono {Hf Hf' : Hp} {σ : L2.St} (g : Same Hf Hf') : ∀ {ts : List Itm} {vs : List V}, ItsOk pg Hf σ ts vs → ItsOk pg Hf' σ ts vs
  | [], _, h => h
  | t :: ts, _, ⟨v, r, h1, h2, h3⟩ => ⟨v, r, h1, h2.mono g, ItsOk.mono g h3⟩
theorem XM.nil : XM Γ.toGm [] ρ [] := fun σ Hf H Q E k => RunA.of pa_nil (k [] Hf H E.self rfl)
theorem XM.sh (h : XE Γ.toGm e ρ d) (hr : XM Γ.toGm es ρ ts) (hs : ∀ env, starEach (e :: es) env = (false, eval e env) :: starEach es env := by intro _; rfl) : XM Γ.toGm (e :: es) ρ (.sh d :: ts) := fun σ Hf H Q E k =>
  RunA.of (pa_cons (runE _ e) (runA _ es) (hs _)) (h σ Hf H _ E fun v Hf1 H1 g1 r1 => hr σ Hf1 H1 _ (E.grow g1) fun vs Hf2 H2 g2 r2 => k (v :: vs) Hf2 H2 (g1.trans g2) ⟨v, vs, rfl, g2.rep r1, r2⟩)
theorem XM.at_ {t : Itm} (i : Nat) (ht : ∀ Hf σ v, σ[i]? = some (some v) → ItOk pg Hf σ t v) (h : ρ[i]? = some (.ow o) ∨ ρ[i]? = some (.ro o)) (hr : XM Γ.toGm es ρ ts) (hN : N[i]? = some (x, true)) (hd : (x == ("__debug__" : Str)) = false) (hcd : (x == ("__classdict__" : Str)) = false)
    (hs : ∀ env, starEach (.Name x p :: es) env = (false, eval (.Name x p) env) :: starEach es env) : XM Γ.toGm (.Name x p :: es) ρ (t :: ts) := fun σ Hf H Q E k => by
  obtain ⟨n, vi⟩ := Γ.vis i x hN
  obtain ⟨v, fp, e1, _, _⟩ := E.look h
  exact RunA.of (pa_cons (pe_var n vi hd hcd) (runA _ es) (hs _)) ⟨v, e1, hr σ Hf H _ E fun vs Hf2 H2 g2 r2 => k (v :: vs) Hf2 H2 g2 ⟨v, vs, rfl, ht _ _ _ e1, r2⟩⟩
theorem XM.mu {o' : OT} (i : Nat) (h : ρ[i]? = some (.ow o)) (hr : XM Γ.toGm es ρ ts) (hN : N[i]? = some (x, true) := by rfl) (hd : (x == ("__debug__" : Str)) = false := by decide) (hcd : (x == ("__classdict__" : Str)) = false := by decide)
    (hs : ∀ env, starEach (.Name x p :: es) env = (false, eval (.Name x p) env) :: starEach es env := by intro _; rfl) : XM Γ.toGm (.Name x p :: es) ρ (.mu i o o' :: ts) := XM.at_ i (fun _ _ _ e => e) (.inl h) hr hN hd hcd hs
theorem XM.lk (i : Nat) (h : ρ[i]? = some (.ow o) ∨ ρ[i]? = some (.ro o)) (hr : XM Γ.toGm es ρ ts) (hN : N[i]? = some (x, true) := by rfl) (hd : (x == ("__debug__" : Str)) = false := by decide) (hcd : (x == ("__classdict__" : Str)) = false := by decide)
    (hs : ∀ env, starEach (.Name x p :: es) env = (false, eval (.Name x p) env) :: starEach es env := by intro _; rfl) : XM Γ.toGm (.Name x p :: es) ρ (.lk i o :: ts) := XM.at_ i (fun _ _ _ e => e) h hr hN hd hcd hs
theorem inMs {Hf H : Hp} {σ : L2.St} {vs : List V} {F : Nat → List Addr} (E : Env pg Γ.c own Hf H σ ρ) (hi : ItsIn ρ ts) (I : MuIn pg Hf H (ts.map Itm.am) vs F) (ho : ItsOk pg Hf σ ts vs) : ∀ a, (∃ j, a ∈ F j) → Γ.c.H a = none ∨ a ∈ Γ.c.M := by
  rintro a ⟨j, hj⟩
  obtain ⟨G0, h1, _, _⟩ := E.sl
  cases et : ts[j]? with
  | none => rw [I.out j (by rw [List.getElem?_map, et]; rfl)] at hj; cases hj
  | some t =>
    obtain ⟨v, hv, ok⟩ := I.ok j t.am (by rw [List.getElem?_map, et]; rfl)
    obtain ⟨v', hv', ok'⟩ := ho.get et
    rw [hv] at hv'
    cases hv'
    cases t with
    | sh d => rw [ok.1] at hj; cases hj
    | lk i o => rw [ok.1] at hj; cases hj
    | mu i o o' =>
      obtain ⟨v2, e2, q2, k2⟩ := h1 i _ (hi.mu j i o o' et)
      have ok' : σ[i]? = some (some v) := ok'
      rw [ok'] at e2
      cases e2
      rw [OwnT.uniq ok.1 q2 rfl] at hj
      rcases (k2 a hj).2 with z | ⟨_, z⟩
      · exact .inl z
      · exact .inr ⟨_, z⟩
/-- the call of a def that changes what it is handed -/
theorem callM {C : List Am → Rz → Prop} (F : FnM pg k cx x C) (ha : XM Γ.toGm (e1 :: es) ρ ts) (hi : ItsIn ρ ts) (hC : C (ts.map Itm.am) r) (hr : k ≤ lv) (j : Nat) (hG : G[j]? = some x) (hdb : (x == ("__debug__" : Str)) = false)
    (hst : ∀ env, starEach (e1 :: es) env = (false, eval e1 env) :: starEach es env) (hpl : ∀ env, (backTo pos (starEach es env)).any (·.1) = false) {σ : L2.St} {Hf H : Hp} {Q : VK} (E : Env pg Γ.c own Hf H σ ρ)
    (hQ : ∀ vs Hf1 H1 F, Gw pg Hf H Hf1 H1 → ItsOk pg Hf1 σ ts vs → MuIn pg Hf1 H1 (ts.map Itm.am) vs F → (∀ Hf' H' F', Gm' pg (fun b => ∃ j, b ∈ F j) Hf1 H1 Hf' H' → MuOut pg H1 Hf' H' (ts.map Itm.am) vs F F' → Env pg Γ.c own Hf' H' σ (aftr ts ρ)) → PostM pg (ts.map Itm.am) vs F Hf1 H1 Q (E1 Γ cx σ) r) :
    RunE Γ.X (.Call (.Name x p) (e1 :: es) [] pos) σ H Q := by
  have px := passX Γ cx
  obtain ⟨f, fd, ps, h1, h2, h3, h4⟩ := F
  obtain ⟨P, w, K, mg, base, T⟩ := pg
  obtain ⟨⟨X, c, hp, hsc, nd, nn, nl, nc_, vis, gl, calm, room⟩, W, st, tk, po, stk, frm⟩ := Γ
  cases hp
  intro pins s I
  refine wpAny_Call_Name_kw (ld_glob I (gl x (gmem hG)) h1 ?_ hdb)
  refine PySem.W.callWith_K (h₀ := X.base) I.ok.mod.kin h2 (thn ((runA X (e1 :: es)).run pos pins s σ H (fun vs H1 => ∃ Hf1, Gw (pgOf X T) Hf H Hf1 H1 ∧ ItsOk (pgOf X T) Hf1 σ ts vs) I (ha σ Hf H _ E fun vs Hf1 H1 g r => ⟨Hf1, g, r⟩)) fun us s1 ⟨vs, H1, I1, r1, Hf1, g1, o1⟩ => ⟨I1.kIn, ?_⟩) (hst _) (hpl _)
  obtain ⟨F0, m, k0⟩ := (E.grow g1).hand hi o1
  refine run_fnX (dvs := []) (ds := []) h3 (room.mono hr) h4 .nil (px σ) I1 r1 ?_
  rw [List.append_nil]
  exact ⟨_, r, Hf1, F0, hC, m, g1.ff, g1.tabs, hQ vs Hf1 H1 F0 g1 o1 m k0⟩
theorem xc_call {C : List Am → Rz → Prop} (F : FnM pg k cx x C) (ha : XM Γ.toGm (e1 :: es) ρ ts) (hi : ItsIn ρ ts) (j : Nat) (hC : C (ts.map Itm.am) (.sh d)) (hr : k ≤ lv := by decide) (hG : G[j]? = some x := by rfl) (hdb : (x == ("__debug__" : Str)) = false := by decide)
    (hst : ∀ env, starEach (e1 :: es) env = (false, eval e1 env) :: starEach es env := by intro _; rfl) (hpl : ∀ env, (backTo pos (starEach es env)).any (·.1) = false := by intro _; rfl) : XC Γ (.Call (.Name x p) (e1 :: es) [] pos) ρ (aftr ts ρ) d := fun σ Hf H Q E k =>
  callM F ha hi hC hr j hG hdb hst hpl E fun vs Hf1 H1 F g o m k0 v Hf' H' F' g' m' r' => k v Hf' H' (k0 Hf' H' F' g' m') (g.gr.trans g'.gr) r'
theorem xco_call {C : List Am → Rz → Prop} (F : FnM pg k cx x C) (ha : XM Γ.toGm (e1 :: es) ρ ts) (hi : ItsIn ρ ts) (j : Nat) (hC : C (ts.map Itm.am) (.ow o)) (hr : k ≤ lv := by decide) (hG : G[j]? = some x := by rfl) (hdb : (x == ("__debug__" : Str)) = false := by decide)
    (hst : ∀ env, starEach (e1 :: es) env = (false, eval e1 env) :: starEach es env := by intro _; rfl) (hpl : ∀ env, (backTo pos (starEach es env)).any (·.1) = false := by intro _; rfl) : XCo Γ (.Call (.Name x p) (e1 :: es) [] pos) ρ (aftr ts ρ) o := fun σ Hf H Q E k =>
  callM F ha hi hC hr j hG hdb hst hpl E fun vs Hf1 H1 F g its m k0 v Hf' H' F' fp g' m' r' nf => by
    have E' := k0 Hf' H' F' g' m'
    refine k v Hf' H' fp E' (g.gr.trans g'.gr) r' (fun a ha => ⟨(E.grow g).dom a (nf a ha).1, (nf a ha).2.1⟩) fun j o' v' f' h1 h2 h3 a ha hb => ?_
    by_cases hx : ∃ (q : Nat) (z z' : OT), ts[q]? = some (Itm.mu j z z')
    · obtain ⟨q, z, z', et⟩ := hx
      have hr' := hi.mu q j z z' et
      have hl : j < ρ.length := (List.getElem?_eq_some_iff.mp hr').1
      rw [aftr_in (fun a b o o' p p' q1 q2 => hi.inj a b j o o' p p' q1 q2) et hl] at h1
      cases h1
      obtain ⟨w, w1, w2, _⟩ := m'.ok q z _ (by rw [List.getElem?_map, et]; rfl)
      obtain ⟨w', w1', ok'⟩ := its.get et
      rw [w1] at w1'
      cases w1'
      have ok' : σ[j]? = some (some w) := ok'
      rw [h2] at ok'
      cases ok'
      rw [OwnT.uniq h3 w2 rfl] at hb
      exact (nf a ha).2.2 q hb
    · have hx : ∀ (q : Nat) z z', ts[q]? ≠ some (Itm.mu j z z') := fun q z z' e => hx ⟨q, z, z', e⟩
      rw [aftr_out hx] at h1
      obtain ⟨w, f2, e2, q2, nn⟩ := (E.grow g).look (.inl h1)
      rw [h2] at e2
      cases e2
      obtain ⟨G0, y1, y2, y3⟩ := (E.grow g).sl
      obtain ⟨w3, e3, q3, _⟩ := y1 j _ h1
      rw [h2] at e3
      cases e3
      have keep : Own pg Hf' H' o' v' (G0 j) := q3.mono cm0 g'.gr fun b hb' u hu ht => g'.ns b u hu (fun ⟨t, ht'⟩ => by
        have ain := inMs (E.grow g) hi m its b ⟨t, ht'⟩
        cases et : ts[t]? with
        | none => rw [m.out t (by rw [List.getElem?_map, et]; rfl)] at ht'; cases ht'
        | some tt =>
          obtain ⟨w5, hw5, ok5⟩ := m.ok t tt.am (by rw [List.getElem?_map, et]; rfl)
          obtain ⟨w6, hw6, ok6⟩ := its.get et
          rw [hw5] at hw6
          cases hw6
          cases tt with
          | sh d => rw [ok5.1] at ht'; cases ht'
          | lk i o => rw [ok5.1] at ht'; cases ht'
          | mu i z z' =>
            obtain ⟨w7, e7, q7, _⟩ := y1 i _ (hi.mu t i z z' et)
            have ok6 : σ[i]? = some (some w5) := ok6
            rw [ok6] at e7
            cases e7
            rw [OwnT.uniq ok5.1 q7 rfl] at ht'
            have := y3 i j b ht' hb'
            subst this
            exact hx t z z' et) ht
      rw [OwnT.uniq h3 keep rfl] at hb
      obtain ⟨u, hu, _⟩ := q3.there a hb
      rw [(nf a ha).1] at hu
      cases hu
theorem xx_call {C : List Am → Rz → Prop} {Cl : Addr} (F : FnM pg k true x C) (ha : XM Γ.toGm (e1 :: es) ρ ts) (hi : ItsIn ρ ts) (j : Nat) (hC : C (ts.map Itm.am) (.ex Cl)) (hr : k ≤ lv := by decide) (hG : G[j]? = some x := by rfl) (hdb : (x == ("__debug__" : Str)) = false := by decide)
    (hst : ∀ env, starEach (e1 :: es) env = (false, eval e1 env) :: starEach es env := by intro _; rfl) (hpl : ∀ env, (backTo pos (starEach es env)).any (·.1) = false := by intro _; rfl) : XX Γ (.Call (.Name x p) (e1 :: es) [] pos) ρ Cl := fun σ Hf H Q E k =>
  callM F ha hi hC hr j hG hdb hst hpl E fun vs Hf1 H1 F g its m k0 Hf' H' g' => k Hf' H' _ ((E.grow g).bare g' (inMs (E.grow g) hi m its))
end
end Lk
set_option maxHeartbeats 1000000
namespace Lk
open PySem PySem.Spec PyProof.Rows L2
section
variable {pg : Pg} {sc : Scope} {N : List (Str × Bool)} {G : List Str} {lv : Nat} {own : List Nat} {Γ : Gf pg sc N G lv own} {ρ ρ' : List Sl} {a b e e1 : Expr} {es : List Expr} {d : D} {o : OT} {pos p p' p2 apos : Pos} {i k : Nat} {x y m : Str} {cx : Bool} {dd : List D} {as : List Ar} {r : Rz} {C : Addr} {De : De} {ts : List Itm} {body orelse : List Stmt}
/-! ### statements with such calls -/
theorem XE.c (h : XE Γ.toGm e ρ d) : XC Γ e ρ ρ d := fun σ Hf H Q E k => h σ Hf H Q E fun v Hf' H' g r => k v Hf' H' (E.grow g) g.gr r
theorem xs_exprC (h : XC Γ e ρ ρ' d) (k : De.nx ρ') (hs : ∀ env, swapsWith e none pos.line env = pure false := by intro _; rfl) : XS Γ (.Expr e pos) ρ De := fun σ Hf H D E S =>
  RunS.of (ps_expr (runE _ e) (hs _)) (h σ Hf H _ E fun v Hf' H' E' s r => S.nx σ Hf' H' ρ' E' s k)
theorem xs_setC (i : Nat) (h : XC Γ e ρ ρ' d) (k : De.nx (ρ'.set i (.sh d))) (hN : N[i]? = some (x, true) := by rfl) (ho : i ∉ own := by decide) (hs : ∀ env, swapsWith e (some (.Name x p')) pos.line env = pure false := by intro _; rfl) : XS Γ (.Assign [.Name x p'] e pos) ρ De := fun σ Hf H D E S => by
  obtain ⟨h1, h2⟩ := Γ.st i x hN
  exact RunS.of (ps_set Γ.nd (Γ.vis i x hN).1 h1 (runE _ e) (hs _) h2) (h σ Hf H _ E fun v Hf' H' E' s r => S.nx _ Hf' H' _ (E'.set (Γ.hi E' hN) ho r) s k)
theorem xs_setCo (i : Nat) (h : XCo Γ e ρ ρ' o) (k : De.nx (ρ'.set i (.ow o))) (hN : N[i]? = some (x, true) := by rfl) (ho : i ∉ own := by decide) (hs : ∀ env, swapsWith e (some (.Name x p')) pos.line env = pure false := by intro _; rfl) : XS Γ (.Assign [.Name x p'] e pos) ρ De := fun σ Hf H D E S => by
  obtain ⟨h1, h2⟩ := Γ.st i x hN
  exact RunS.of (ps_set Γ.nd (Γ.vis i x hN).1 h1 (runE _ e) (hs _) h2) (h σ Hf H _ E fun v Hf' H' fp E' s r nf ap => S.nx _ Hf' H' _ (E'.put (Γ.hi E' hN) ho r nf ap) s k)
/-- a call that lets an error out -/
theorem xs_setX (h : XX Γ e ρ C) (k : ∀ ρx, De.ex C ρx) (i : Nat) (hN : N[i]? = some (x, true) := by rfl) (hs : ∀ env, swapsWith e (some (.Name x p')) pos.line env = pure false := by intro _; rfl) : XS Γ (.Assign [.Name x p'] e pos) ρ De := fun σ Hf H D E S => by
  obtain ⟨h1, h2⟩ := Γ.st i x hN
  exact RunS.of (ps_set Γ.nd (Γ.vis i x hN).1 h1 (runE _ e) (hs _) h2) (h σ Hf H _ E fun Hf' H' ρx E' => S.ex σ Hf' H' ρx C E' (k ρx))
theorem xs_retX (h : XX Γ e ρ C) (k : ∀ ρx, De.ex C ρx) : XS Γ (.Return (some e) pos) ρ De := fun σ Hf H D E S =>
  RunS.of (ps_ret (runE _ e)) (h σ Hf H _ E fun Hf' H' ρx E' => S.ex σ Hf' H' ρx C E' (k ρx))
/-- a def that changes nothing, letting an error out -/
theorem xx_callR {Cc : List Ar → Rz → Prop} (F : Fn pg k true x dd Cc) (ha : XA Γ.toGm (e1 :: es) ρ as) (j : Nat) (hC : Cc (as ++ dd.map Ar.sh) (.ex C)) (hr : k ≤ lv := by decide) (hG : G[j]? = some x := by rfl) (hdb : (x == ("__debug__" : Str)) = false := by decide)
    (hst : ∀ env, starEach (e1 :: es) env = (false, eval e1 env) :: starEach es env := by intro _; rfl) (hpl : ∀ env, (backTo pos (starEach es env)).any (·.1) = false := by intro _; rfl) : XX Γ (.Call (.Name x p) (e1 :: es) [] pos) ρ C := by
  have px := passX Γ true
  intro σ Hf H Q E kk
  obtain ⟨f, fd, ps, ds, dvs, h1, h2, h3, h4, h5, h6⟩ := F
  obtain ⟨P, w, K, mg, base, T⟩ := pg
  obtain ⟨⟨X, c, hp, hsc, nd, nn, nl, nc_, vis, gl, calm, room⟩, W, st, tk, po, stk, frm⟩ := Γ
  cases hp
  intro pins s I
  refine wpAny_Call_Name_kw (ld_glob I (gl x (gmem hG)) h1 ?_ hdb)
  refine PySem.W.callWith_K (h₀ := X.base) I.ok.mod.kin h2 (thn ((runA X (e1 :: es)).run pos pins s σ H (fun vs H1 => ∃ Hf1, Gw (pgOf X T) Hf H Hf1 H1 ∧ ArsOk (pgOf X T) Hf1 H1 as vs) I (ha σ Hf H _ E fun vs Hf1 H1 g r => ⟨Hf1, g, r⟩)) fun us s1 ⟨vs, H1, I1, r1, Hf1, g1, o1⟩ => ⟨I1.kIn, ?_⟩) (hst _) (hpl _)
  refine run_fnX h3 (room.mono hr) h4 h5 (px σ) I1 r1 ⟨as ++ dd.map Ar.sh, .ex C, Hf1, hC, o1.app (ArsOk.of (h6 Hf1)), g1.ff, g1.tabs, fun Hf' H' g' => ?_⟩
  exact kk Hf' H' ρ (E.grow (g1.trans g'))
/-- raise X('..') of an own class -/
def veB : List Value := [.type "ValueError", .type "Exception", .type "BaseException", .type "object"]
structure RzC (pg : Pg) (x : Str) : Prop where
  mg : pg.mg x = some (.ref (ca pg x))
  ex : PySem.W.excIn pg.K (ca pg x) veB "ValueError.__new__" = true
  kp : PySem.W.keepIn pg.K (.ref (ca pg x)) = true
  sb : PySem.W.subIn pg.K (.ref (ca pg x)) (.type "BaseException") = some true
  ty : PySem.W.typeIn pg.K (.ref (ca pg x)) = some (.type "type")
theorem xs_raise {msg : Str} {jj : Nat} (Z : RzC pg x) (k : De.ex (ca pg x) ρ) (j : Nat) (hG : G[j]? = some x := by rfl) (hdb : (x == ("__debug__" : Str)) = false := by decide) : XS Γ (.Raise (some (.Call (.Name x p) [.Constant (.str msg) jj p2] [] p')) none pos) ρ De := fun σ Hf H D E S => by
  have kk := S.ex σ Hf H ρ (ca pg x) E k
  have hm := mgE Γ.toGm
  have hK := kE Γ.toGm
  refine RunS.of (ps_raise Γ.calm Γ.tk (pmk_own (bmB := veB) PySem.F.excBase_ValueError (by rw [hK]; exact Z.ex) (by rw [hm]; exact Z.mg) (by rw [hK]; exact Z.kp) (raises_own (by rw [hK]; exact Z.sb) (by rw [hK]; exact Z.ty)) (Γ.gl x (gmem hG)) hdb)) kk
/-! ### d[k] = v of a dict at a name -/
theorem Env.dset {c : Cf} {Hf H : Hp} {σ : L2.St} {kvs : List (D × D)} (E : Env pg c own Hf H σ ρ) (h : ρ[i]? = some (.ow (.dct kvs))) :
    ∃ p es, σ[i]? = some (some (.ref p)) ∧ H p = some (dctO p es) ∧ (p == sysModules) = false ∧ RepE pg cl0 Hf kvs es ∧ ∀ kvs' es', RepE pg cl0 Hf kvs' es' → Env pg c own Hf (upd H p (dctO p es')) σ (ρ.set i (.ow (.dct kvs'))) := by
  obtain ⟨F, h1, _, _⟩ := E.sl
  obtain ⟨v, e, ⟨p, es, rfl, e2, e3, e4, e5⟩, ok⟩ := h1 i _ h
  refine ⟨p, es, e, e3, e4, e5, fun kvs' es' r => ?_⟩
  obtain ⟨v', fp, e', q', hn, k⟩ := E.mut (o' := .dct kvs') (Hf' := Hf) (H' := upd H p (dctO p es')) h
  rw [e] at e'
  cases e'
  obtain ⟨p', es2, z1, z2, z3, z4, z5⟩ := q'
  cases z1
  refine k [p] ⟨p, es', rfl, rfl, upd_same, e4, r⟩ (Same.refl _) (fun a u hu => ?_) (fun a u hu hm _ => ?_) (fun a hu => NdefX.upd_none hu) (fun _ _ => rfl) (tabs_dct E.tabs e3 dct_ne_code) (fun a ha => ?_)
  · have : a ≠ p := fun z => by
      rw [z, hn p (by rw [z2]; exact List.mem_cons_self)] at hu
      cases hu
    rw [upd_ne this]
    exact E.ff a u hu
  · rw [upd_ne fun z => hm (by rw [z2, z]; exact List.mem_cons_self)]
    exact hu
  · have ea : a = p := by simpa using ha
    rw [ea]
    exact ⟨hn p (by rw [z2]; exact List.mem_cons_self), .inr (by rw [z2]; exact List.mem_cons_self)⟩
theorem xs_setM {kvs : List (D × D)} {ds : List D} (i : Nat) (hx : ρ[i]? = some (.ow (.dct kvs))) (hv : XE Γ.toGm e ρ d) (hk : XE Γ.toGm a ρ (.tup ds)) (K : KN kvs) (kd : KD 8 (.tup ds)) (hz : kvs.length ≤ 1000000) (k : De.nx (ρ.set i (.ow (.dct (dput kvs (.tup ds) d))))) (hN : N[i]? = some (x, true) := by rfl)
    (hdb : (x == ("__debug__" : Str)) = false := by decide) (hcd : (x == ("__classdict__" : Str)) = false := by decide) (hs : ∀ env, swapsWith e (some (.Subscript (.Name x p) a p')) pos.line env = pure false := by intro _; rfl) : XS Γ (.Assign [.Subscript (.Name x p) a p'] e pos) ρ De := by
  obtain ⟨P, w, K0, mg, base, T⟩ := pg
  obtain ⟨⟨X, c0, hp, hsc, nd, nn, nl, nc_, vis, gl, calm, room⟩, W, st, tk, po, stk, frm⟩ := Γ
  cases hp
  intro σ Hf H D' E S pins s I
  obtain ⟨n, vi⟩ := vis i x hN
  refine wpAny_Assign_Subscript (thn (hv σ Hf H (fun v H' => ∃ Hf', Gw (pgOf X T) Hf H Hf' H' ∧ R (pgOf X T) Hf' d v) E (fun v Hf' H' g r => ⟨Hf', g, r⟩) pins s I) fun u s1 ⟨v, H1, I1, rv, Hf1, g1, r1⟩ => ?_) (hs _)
  obtain ⟨q, es, e1, _⟩ := (E.grow g1).dset hx
  refine thn ((pe_var (X := X) (pos := p) n vi hdb hcd).run pins s1 σ H1 (fun v H2 => v = .ref q ∧ H2 = H1) I1 ⟨.ref q, e1, rfl, rfl⟩) fun u2 s2 ⟨v2, H2, I2, rv2, ev, eH⟩ => ?_
  subst ev eH
  obtain rfl : u2 = Value.ref q := rv2
  refine thn (hk σ Hf1 H2 (fun v H' => ∃ Hf', Gw (pgOf X T) Hf1 H2 Hf' H' ∧ R (pgOf X T) Hf' (.tup ds) v) (E.grow g1) (fun v Hf' H' g r => ⟨Hf', g, r⟩) pins s2 I2) fun u3 s3 ⟨v3, H3, I3, rv3, Hf3, g3, r3⟩ => ?_
  obtain ⟨z, zs, hz3, _⟩ := id r3
  subst hz3
  obtain rfl : u3 = Value.ref z := rv3
  obtain ⟨q', es', e1', e2', e3', e4', e5'⟩ := (E.grow (g1.trans g3)).dset hx
  rw [e1] at e1'
  cases e1'
  obtain ⟨xs, rx, dx⟩ := dict_at (pg := pgOf X T) rfl rfl rfl I3 (E.grow (g1.trans g3)).ff e2' e4' K
  have hl : xs.length = kvs.length := by
    have := congrArg List.length rx.keys
    rw [List.length_map, List.length_map] at this
    exact this
  refine wpAny_setItem_heap (knd := nestedKind X.prog X.w) (k := nkey (.tup ds)) (hsz := by rw [hl, sizeLine_eq]; omega) (by show X.A.in1.units + 8 < cLine; have := room.un; show X.A.units + 1 + 8 < cLine; omega) ⟨nested_of (pg := pgOf X T) rfl I3 g3.ff 8 _ _ _ kd r3 rfl, depth_kd 8 _ kd⟩ dx fun h' hd' hs' => ?_
  obtain ⟨o', es2, ep', q1, q2, q3, q4, _, _⟩ := hd'
  have er := repX_E (rx.put r3 rv (g3.rep r1))
  have eq2 : es2 = ((storedH xs (nkey (.tup ds)) z u).map (entryOfKey (nestedKind X.prog X.w))).toArray := by rw [← q4]
  refine ⟨σ, _, d_write (t' := s3.toks + _) (ob := dctO q ((storedH xs (nkey (.tup ds)) z u).map (entryOfKey (nestedKind X.prog X.w)))) I3 (by rw [e2']; trivial) hs' ⟨o', q1⟩ (objOk_dct (ep := ep') q1 q2 (by rw [q3, eq2])), ?_⟩
  exact S.nx σ Hf3 _ _ (e5' _ _ er) (g1.trans g3).gr k
/-! ### a method that changes its receiver (a thing at a name) -/
theorem xc_meth {Cl : Addr} {fs : List (Str × OT)} {o' : OT} {C : List Am → Rz → Prop} {pl : Sem Bool} (F : MtM pg k cx Cl m C) (i : Nat) (hx : ρ[i]? = some (.ow (.ins Cl fs))) (hl : fs.lookup m = none) (ha : XM Γ.toGm (e1 :: es) ρ ts) (hi : ItsIn ρ (.mu i (.ins Cl fs) o' :: ts)) (hC : C (.mu (.ins Cl fs) o' :: ts.map Itm.am) (.sh d)) (hr : k ≤ lv := by decide)
    (hN : N[i]? = some (x, true) := by rfl) (hdb : (x == ("__debug__" : Str)) = false := by decide) (hcd : (x == ("__classdict__" : Str)) = false := by decide)
    (hst : ∀ env, starEach (e1 :: es) env = (false, eval e1 env) :: starEach es env := by intro _; rfl) (hpl : ∀ env, (backTo pos (starEach es env)).any (·.1) = false := by intro _; rfl)
    (ht : eval (.Call (.Attribute (.Name x p) m apos) (e1 :: es) [] pos) Γ.X.env = (do
      let ov ← eval (.Name x p) Γ.X.env
      standAt apos.atName
      let (f, first) ← holding [ov] (getMethod ov m pl)
      callWith pos f first (backTo pos (starEach (e1 :: es) Γ.X.env)) (backToKw pos (keywordEach [] Γ.X.env))) := by rfl) : XC Γ (.Call (.Attribute (.Name x p) m apos) (e1 :: es) [] pos) ρ (aftr (.mu i (.ins Cl fs) o' :: ts) ρ) d := by
  have px := passX Γ cx
  obtain ⟨f, fd, ps, h1, h2, h3, h4⟩ := F
  obtain ⟨P, w, K0, mg, base, T⟩ := pg
  obtain ⟨⟨X, c0, hp, hsc, nd, nn, nl, nc_, vis, gl, calm, room⟩, W, st, tk, po, stk, frm⟩ := Γ
  cases hp
  intro σ Hf H Q E kk pins s I
  obtain ⟨n, vi⟩ := vis i x hN
  obtain ⟨v0, fp0, ev0, q0, _⟩ := E.look (.inl hx)
  obtain ⟨b, dx, ws, r0, rfl, w1, w2, w3, w4⟩ := q0
  refine PySem.W.methodCall_KW (pl := pl) (thn ((pe_var (X := X) (pos := p) n vi hdb hcd).run pins s σ H (fun v H2 => v = .ref b ∧ H2 = H) I ⟨.ref b, ev0, rfl, rfl⟩) fun u s1 ⟨v, H1, I1, rv, ev, eH⟩ => ?_) ht
  subst ev eH
  obtain rfl : u = Value.ref b := rv
  refine getmeth_ok I1 w2 h1 h2 (w3.none hl) ?_
  refine PySem.W.callWith_K (first := [.ref b]) (h₀ := X.base) I.ok.mod.kin h2.kp (thn ((runA X (e1 :: es)).run pos pins s1 σ H1 (fun vs H2 => ∃ Hf1, Gw (pgOf X T) Hf H1 Hf1 H2 ∧ ItsOk (pgOf X T) Hf1 σ ts vs) I1 (ha σ Hf H1 _ E fun vs Hf1 H2 g r => ⟨Hf1, g, r⟩)) fun us s2 ⟨vs, H2, I2, r2, Hf1, g1, o1⟩ => ⟨I2.kIn, ?_⟩) (hst _) (hpl _)
  have o1' : ItsOk (pgOf X T) Hf1 σ (.mu i (.ins Cl fs) o' :: ts) (.ref b :: vs) := ⟨.ref b, vs, rfl, ev0, o1⟩
  obtain ⟨F0, mm, k0⟩ := (E.grow g1).hand hi o1'
  refine run_fnX (us := .ref b :: us) (vs := .ref b :: vs) (dvs := []) (ds := []) h3 (room.mono hr) h4 .nil (px σ) I2 (.cons rfl r2) ?_
  rw [List.append_nil]
  exact ⟨_, .sh d, Hf1, F0, hC, mm, g1.ff, g1.tabs, fun v Hf' H' F' g' m' r' => kk v Hf' H' (k0 Hf' H' F' g' m') (g1.gr.trans g'.gr) r'⟩
end
end Lk
set_option maxHeartbeats 1000000
namespace Lk
open PySem PySem.Spec PyProof.Rows L2
/-! ### a class made -/
theorem run_makeX {X : Cx} {CX : CXT} {k : Nat} {f C : Addr} {fd : FuncData} {ps : List Str} {sp : Sp} {dvs : List V} {ds : List Value} {E : XK} {pins : List (Addr × Obj)} {σ : L2.St} {H : Hp} {s : Shared} {Q : VK} {us : List Value} {vs : List V} (M : L2.Mk X.K C f) (F : FnOk X.prog X.w X.K X.mg X.base CX k f fd ps sp) (hr : Room (k + 1) X.A) (hb : Binds X.K fd ps ds) (hd : Vals dvs ds)
    (hx : PassesAt CX X σ E) (I : Inv X pins σ H s) (r : Vals vs us)
    (h : ∀ x dx, H x = none → H dx = none → dx ≠ x → sp (.ref x :: (vs ++ dvs)) (upd (upd H dx (.own x)) x (.ins C dx [])) (fun v H2 => v = .non ∧ Q (.ref x) H2) E) :
    wpAny (model X.prog X.w) X.A (call (.ref C) us) (EP X pins σ Q) X.xe s := by
  have hq := h (s.heap.objs.size + 1) s.heap.objs.size (I.hok.fresh (Nat.le_succ _)) (I.hok.fresh (Nat.le_refl _)) (Nat.ne_of_lt (Nat.lt_succ_self _))
  have I2 := Inv.made (C := C) I
  have r2 : Vals (V.ref (s.heap.objs.size + 1) :: (vs ++ dvs)) (Value.ref (s.heap.objs.size + 1) :: (us ++ ds)) := .cons rfl (r.append hd)
  have hl : (Value.ref (s.heap.objs.size + 1) :: us ++ ds).length = ps.length := by
    have e := r2.length
    rw [F.len _ _ _ _ hq] at e
    exact e.symm
  refine wpAny_call (make_map (f := f) I.kIn M.makes M.init (beq_iff_eq.mp M.fn) (codeAny_mono (F.run _ X.stack _ _ ⟨Value.ref (s.heap.objs.size + 1) :: us, []⟩ (Value.ref (s.heap.objs.size + 1) :: (us ++ ds)) _ _ E (hr.make C us [])
    (I2.env0.make C us []) (hb _ (Value.ref (s.heap.objs.size + 1) :: us) I2.kIn hl) r2 hq) fun r s' hq' => ?_))
  cases r with
  | error e => exact hx pins _ _ e s' I2 hq'
  | ok fl =>
    cases fl with
    | ret u =>
      obtain ⟨v, H', I3, rv, ev, q3⟩ := I2.after hq'
      subst ev
      exact ⟨rv, ⟨V.ref (s.heap.objs.size + 1), H', I3, rfl, q3⟩⟩
    | next => exact False.elim hq'
    | brk => exact False.elim hq'
    | cont => exact False.elim hq'
def Ar.am : Ar → Am
  | .sh d => .sh d
  | .pk o => .pk o
def MkM (pg : Pg) (k : Nat) (cx : Bool) (x : Str) (dd : List D) (C : List Am → Rz → Prop) : Prop := ∃ (f : Addr) (fd : FuncData) (ps : List Str) (ds : List Value) (dvs : List V), pg.mg x = some (.ref (ca pg x)) ∧ L2.Mk pg.K (ca pg x) f ∧ FnOk pg.P pg.w pg.K pg.mg pg.base (CXb pg cx) k f fd ps (spM pg C) ∧
  Binds pg.K fd ps ds ∧ Vals dvs ds ∧ ∀ Hf, Rs pg Hf dd dvs
section
variable {pg : Pg} {Hf H : Hp}
theorem made_in {as : List Ar} {vs : List V} {C x dx : Addr} {o' : OT} (ff : Same Hf H) (tb : Tb pg Hf H) (ro : ArsOk pg Hf H as vs) (hx : H x = none) (hdx : H dx = none) (hne : dx ≠ x) :
    MuIn pg Hf (upd (upd H dx (.own x)) x (.ins C dx [])) (.mu (.ins C []) o' :: as.map Ar.am) (.ref x :: vs) (fun i => if i = 0 then [x] else []) ∧ Same Hf (upd (upd H dx (.own x)) x (.ins C dx [])) ∧ Tb pg Hf (upd (upd H dx (.own x)) x (.ins C dx [])) := by
  have hx2 : upd H dx (.own x) x = none := by rw [upd_ne (Ne.symm hne)]; exact hx
  have s2 : Same H (upd (upd H dx (.own x)) x (.ins C dx [])) := (Same.new hdx).trans (Same.new hx2)
  have hfx : Hf x = none := by
    cases q : Hf x with
    | none => rfl
    | some z => rw [ff x z q] at hx; cases hx
  refine ⟨⟨?_, fun i a e => ?_, fun i e => ?_, fun i j a q1 q2 => ?_⟩, ff.trans s2, (tb.alloc hdx (by intro _ h; unfold LamX.CodeO at h; cases h)).alloc hx2 (by intro _ h; unfold LamX.CodeO at h; cases h)⟩
  · rw [List.length_cons, List.length_cons, ro.length, List.length_map]
  · cases i with
    | zero =>
      cases e
      exact ⟨_, rfl, ⟨x, dx, [], [], rfl, rfl, upd_same, ⟨rfl, rfl⟩, by simp⟩, fun a ha => by
        have : a = x := by simpa using ha
        rw [this]; exact hfx⟩
    | succ i =>
      have e : (as.map Ar.am)[i]? = some a := e
      rw [List.getElem?_map] at e
      cases q : as[i]? with
      | none => rw [q] at e; cases e
      | some t =>
        rw [q] at e
        cases e
        obtain ⟨v, hv, rv⟩ := ro.get q
        refine ⟨v, hv, ?_⟩
        cases t with
        | sh d => exact ⟨rfl, rv⟩
        | pk o =>
          obtain ⟨fp, h1, h2⟩ := rv
          refine ⟨rfl, fp, h1.mono cm0 (Same.refl _) fun a _ u hu _ => s2 a u hu, fun a ha => ⟨fun z => ?_, fun ⟨j, hj⟩ => ?_⟩⟩
          · cases q2 : H a with
            | none => exact h2 a ha q2
            | some u => rw [s2 a u q2] at z; cases z
          · have hj : a ∈ (if j = 0 then [x] else []) := hj
            by_cases hz : j = 0
            · rw [if_pos hz] at hj
              have : a = x := by simpa using hj
              rw [this] at ha
              exact h2 x ha hx
            · rw [if_neg hz] at hj; cases hj
  · cases i with
    | zero => cases e
    | succ i => rfl
  · have q1 : a ∈ (if i = 0 then [x] else []) := q1
    have q2 : a ∈ (if j = 0 then [x] else []) := q2
    by_cases hi : i = 0
    · by_cases hj : j = 0
      · rw [hi, hj]
      · rw [if_neg hj] at q2; cases q2
    · rw [if_neg hi] at q1; cases q1
theorem made_gw {Hf' H' : Hp} {C x dx : Addr} (hx : H x = none) (hdx : H dx = none) (hne : dx ≠ x) (g : Gm' pg (fun b => ∃ j : Nat, b ∈ (fun i : Nat => if i = 0 then [x] else ([] : List Addr)) j) Hf (upd (upd H dx (.own x)) x (.ins C dx [])) Hf' H') : Gw pg Hf H Hf' H' := by
  have hx2 : upd H dx (.own x) x = none := by rw [upd_ne (Ne.symm hne)]; exact hx
  have s2 : Same H (upd (upd H dx (.own x)) x (.ins C dx [])) := (Same.new hdx).trans (Same.new hx2)
  refine ⟨g.gr, g.ff, fun a o e t => g.ns a o (s2 a o e) (fun ⟨j, hj⟩ => ?_) t, fun a z => NdefX.upd_none (NdefX.upd_none (g.dom a z)), fun a z => g.agr a fun y => ?_, g.tabs⟩
  · have hj : a ∈ (if j = 0 then [x] else []) := hj
    by_cases hz : j = 0
    · rw [if_pos hz] at hj
      have : a = x := by simpa using hj
      rw [this, hx] at e
      cases e
    · rw [if_neg hz] at hj; cases hj
  · cases q : H a with
    | none => exact z q
    | some u => rw [s2 a u q] at y; cases y
end
section
variable {pg : Pg} {sc : Scope} {N : List (Str × Bool)} {G : List Str} {lv : Nat} {own : List Nat} {Γ : Gf pg sc N G lv own} {ρ : List Sl} {e1 : Expr} {es : List Expr} {d : D} {o o' : OT} {pos p : Pos} {k : Nat} {x : Str} {cx : Bool} {dd : List D} {as : List Ar} {r : Rz} {C : List Am → Rz → Prop}
theorem make_core (M : MkM pg k cx x dd C) (ha : XA Γ.toGm (e1 :: es) ρ as) (hC : C (.mu (.ins (ca pg x) []) o' :: (as ++ dd.map Ar.sh).map Ar.am) r) (hr : k + 1 ≤ lv) (j : Nat) (hG : G[j]? = some x) (hdb : (x == ("__debug__" : Str)) = false)
    (hst : ∀ env, starEach (e1 :: es) env = (false, eval e1 env) :: starEach es env) (hpl : ∀ env, (backTo pos (starEach es env)).any (·.1) = false) {σ : L2.St} {Hf H : Hp} {Q : VK} (E : Env pg Γ.c own Hf H σ ρ)
    (hQ : ∀ vs Hf1 H1 x' dx, Gw pg Hf H Hf1 H1 → H1 x' = none → H1 dx = none → dx ≠ x' → PostM pg (.mu (.ins (ca pg x) []) o' :: (as ++ dd.map Ar.sh).map Ar.am) (.ref x' :: vs) (fun i => if i = 0 then [x'] else []) Hf1 (upd (upd H1 dx (.own x')) x' (.ins (ca pg x) dx [])) (fun v H2 => v = .non ∧ Q (.ref x') H2) (E1 Γ cx σ) r) :
    RunE Γ.X (.Call (.Name x p) (e1 :: es) [] pos) σ H Q := by
  have px := passX Γ cx
  obtain ⟨f, fd, ps, ds, dvs, h1, h2, h3, h4, h5, h6⟩ := M
  obtain ⟨P, w, K, mg, base, T⟩ := pg
  obtain ⟨⟨X, c, hp, hsc, nd, nn, nl, nc_, vis, gl, calm, room⟩, W, st, tk, po, stk, frm⟩ := Γ
  cases hp
  intro pins s I
  refine wpAny_Call_Name_kw (ld_glob I (gl x (gmem hG)) h1 ?_ hdb)
  refine PySem.W.callWith_K (h₀ := X.base) I.ok.mod.kin h2.kp (thn ((runA X (e1 :: es)).run pos pins s σ H (fun vs H1 => ∃ Hf1, Gw (pgOf X T) Hf H Hf1 H1 ∧ ArsOk (pgOf X T) Hf1 H1 as vs) I (ha σ Hf H _ E fun vs Hf1 H1 g r => ⟨Hf1, g, r⟩)) fun us s1 ⟨vs, H1, I1, r1, Hf1, g1, o1⟩ => ⟨I1.kIn, ?_⟩) (hst _) (hpl _)
  refine run_makeX h2 h3 (room.mono hr) h4 h5 (px σ) I1 r1 fun x' dx q1 q2 q3 => ?_
  obtain ⟨m, ff, tb⟩ := made_in (C := ca (pgOf X T) x) (o' := o') g1.ff g1.tabs (o1.app (ArsOk.of (h6 Hf1))) q1 q2 q3
  exact ⟨_, r, Hf1, _, hC, m, ff, tb, hQ (vs ++ dvs) Hf1 H1 x' dx g1 q1 q2 q3⟩
theorem xo_make (M : MkM pg k cx x dd C) (ha : XA Γ.toGm (e1 :: es) ρ as) (j : Nat) (hC : C (.mu (.ins (ca pg x) []) o' :: (as ++ dd.map Ar.sh).map Ar.am) (.sh .non)) (hr : k + 1 ≤ lv := by decide) (hG : G[j]? = some x := by rfl) (hdb : (x == ("__debug__" : Str)) = false := by decide)
    (hst : ∀ env, starEach (e1 :: es) env = (false, eval e1 env) :: starEach es env := by intro _; rfl) (hpl : ∀ env, (backTo pos (starEach es env)).any (·.1) = false := by intro _; rfl) : XO Γ.toGm (.Call (.Name x p) (e1 :: es) [] pos) ρ o' := fun σ Hf H Q E kk =>
  make_core M ha hC hr j hG hdb hst hpl E fun vs Hf1 H1 x' dx g q1 q2 q3 v Hf' H' F' g' m r' => by
    have r' : v = V.non := r'
    obtain ⟨v2, hv2, w, ok⟩ := m.ok 0 _ _ rfl
    cases hv2
    have hx2 : ∀ a, a ∈ F' 0 → H1 a = none := fun a ha => by
      rcases (ok a ha).2 with z | z
      · exact NdefX.upd_none (NdefX.upd_none z)
      · have : a = x' := by simpa using z
        rw [this]; exact q1
    exact ⟨r', kk (.ref x') Hf' H' (F' 0) (g.trans (made_gw q1 q2 q3 g')) w fun a ha => ⟨g.dom a (hx2 a ha), (ok a ha).1⟩⟩
theorem xx_make {Cl : Addr} (M : MkM pg k true x dd C) (ha : XA Γ.toGm (e1 :: es) ρ as) (j : Nat) (o' : OT) (hC : C (.mu (.ins (ca pg x) []) o' :: (as ++ dd.map Ar.sh).map Ar.am) (.ex Cl)) (hr : k + 1 ≤ lv := by decide) (hG : G[j]? = some x := by rfl) (hdb : (x == ("__debug__" : Str)) = false := by decide)
    (hst : ∀ env, starEach (e1 :: es) env = (false, eval e1 env) :: starEach es env := by intro _; rfl) (hpl : ∀ env, (backTo pos (starEach es env)).any (·.1) = false := by intro _; rfl) : XX Γ (.Call (.Name x p) (e1 :: es) [] pos) ρ Cl := fun σ Hf H Q E kk =>
  make_core M ha hC hr j hG hdb hst hpl E fun vs Hf1 H1 x' dx g q1 q2 q3 Hf' H' g' => kk Hf' H' ρ (E.grow (g.trans (made_gw q1 q2 q3 g')))
end
/-! ### promises by a typed word -/
def CtM {α : Type} (pre : α → Prop) (ag : α → List Am) (res : α → Rz) : List Am → Rz → Prop := fun as r => ∃ a, pre a ∧ as = ag a ∧ r = res a
/-- what the head leaves, of the made functions, the classes that are made, the errors -/
class Lib2 (pg : Pg) extends Lib pg where
  mkf : ∀ (i kk : Nat) (x : Str), (i, kk, x) ∈ ([(52, 0, "choices_in"), (53, 1, "home_in")] : List (Nat × Nat × Str)) → ∃ f fd c P, MkF pg i kk x f fd c P
  mak : ∀ x ∈ (["Keeper", "Book", "Reach", "Canal", "PlainLock", "BasinLock", "PumpLock"] : List Str), pg.mg x = some (.ref (ca pg x)) ∧ ∀ f, Meth pg.K (ca pg x) "__init__" f → L2.Mk pg.K (ca pg x) f
  rz : ∀ x ∈ (["TooWide", "Torn"] : List Str), RzC pg x
  lts : ∃ t, pg.mg "LETTERS" = some (.str "abcdefghijklmnopqrstuvwxyz" t)
  lng : ∃ t, pg.mg "LONGEST" = some (.int 12 t)
  mbt : ∃ t, pg.mg "MOST_BOATS" = some (.int 9 t)
section
variable {pg : Pg} [Lib2 pg]
theorem fnM_ct {α : Type} {pre : α → Prop} {ag : α → List Am} {res : α → Rz} {x : Str} {N : List (Str × Bool)} {ps G : List Str} {k : Nat} {cx : Bool} (own : List Nat) (i t : Nat) (ht : dfTab[t]? = some (i, x, [])) (S : Sc N ps G (defScope (top i))) (len : ∀ a, (ag a).length = ps.length) (ow : ∀ a, muIx (ag a) = own)
    (hbi : ∀ (kV doc pm : Value) (an : Option Addr) (cdv ct : Value) (us : List Value), us.length = ps.length → bindArgs (PySem.W.fnOf x x (defArgs (top i)) (defBody (top i)) (defScope (top i)) .none kV doc pm an cdv ct) ⟨us, []⟩ = pure (ps.zip us))
    (hb : ∀ (Γ : Gf pg (defScope (top i)) N G k own) a, pre a → XSs Γ (defBody (top i)) (slotsM N.length (ag a)) (finM cx (ag a) (res a))) : FnM pg (k + 1) cx x (CtM pre ag res) := by
  obtain ⟨f, fd, h1, h2, h3⟩ := Lib.df (pg := pg) i x [] (List.mem_of_getElem? ht)
  exact ⟨f, fd, ps, h1, h2, fnM_ok h3 S (fun ags r ⟨a, _, h, _⟩ => by rw [h]; exact len a) (fun ags r ⟨a, _, h, _⟩ => by rw [h]; exact ow a) (fun Γ ags r ⟨a, h1, h2, h3⟩ => by rw [h2, h3]; exact hb Γ a h1), h3.bindsN hbi⟩
theorem mtM_ct {α : Type} {pre : α → Prop} {ag : α → List Am} {res : α → Rz} {Cl m q : Str} {N : List (Str × Bool)} {ps G : List Str} {k : Nat} {cx : Bool} (own : List Nat) (i j t : Nat) (ht : mtTab[t]? = some (Cl, i, m, j, q, [])) (u : Nat) (fl : Str) (hu : fdTab[u]? = some (Cl, fl)) (S : Sc N ps G (defScope (mth i j))) (len : ∀ a, (ag a).length = ps.length) (ow : ∀ a, muIx (ag a) = own)
    (hbi : ∀ (kV doc pm : Value) (an : Option Addr) (cdv ct : Value) (us : List Value), us.length = ps.length → bindArgs (PySem.W.fnOf m q (defArgs (mth i j)) (defBody (mth i j)) (defScope (mth i j)) .none kV doc pm an cdv ct) ⟨us, []⟩ = pure (ps.zip us))
    (hb : ∀ (Γ : Gf pg (defScope (mth i j)) N G k own) a, pre a → XSs Γ (defBody (mth i j)) (slotsM N.length (ag a)) (finM cx (ag a) (res a))) : MtM pg (k + 1) cx (ca pg Cl) m (CtM pre ag res) := by
  obtain ⟨f, fd, h1, h3⟩ := Lib.mt (pg := pg) Cl i m j q [] (List.mem_of_getElem? ht)
  exact ⟨f, fd, ps, (Lib.cl (pg := pg) Cl fl (List.mem_of_getElem? hu)).cl, h1, fnM_ok h3 S (fun ags r ⟨a, _, h, _⟩ => by rw [h]; exact len a) (fun ags r ⟨a, _, h, _⟩ => by rw [h]; exact ow a) (fun Γ ags r ⟨a, h1, h2, h3⟩ => by rw [h2, h3]; exact hb Γ a h1), h3.bindsN hbi⟩
/-- __init__ without defaults, and with all parameters of its default written -/
theorem mk_ct {α : Type} {pre : α → Prop} {ag : α → List Am} {res : α → Rz} {Cl q : Str} {N : List (Str × Bool)} {ps G : List Str} {k : Nat} {cx : Bool} {dv : List V} (i j t : Nat) (ht : mtTab[t]? = some (Cl, i, ("__init__" : Str), j, q, dv)) (hm : Cl ∈ (["Keeper", "Book", "Reach", "Canal", "PlainLock", "BasinLock", "PumpLock"] : List Str)) (S : Sc N ps G (defScope (mth i j))) (len : ∀ a, (ag a).length = ps.length) (ow : ∀ a, muIx (ag a) = [0])
    (hbi : ∀ f fd, FunD pg.K "__init__" q (defArgs (mth i j)) (defBody (mth i j)) (defScope (mth i j)) dv [] f fd → Binds pg.K fd ps [])
    (hb : ∀ (Γ : Gf pg (defScope (mth i j)) N G k [0]) a, pre a → XSs Γ (defBody (mth i j)) (slotsM N.length (ag a)) (finM cx (ag a) (res a))) : MkM pg (k + 1) cx Cl [] (CtM pre ag res) := by
  obtain ⟨f, fd, h1, h3⟩ := Lib.mt (pg := pg) Cl i "__init__" j q dv (List.mem_of_getElem? ht)
  obtain ⟨g1, g2⟩ := Lib2.mak (pg := pg) Cl hm
  exact ⟨f, fd, ps, [], [], g1, g2 f h1, fnM_ok h3 S (fun ags r ⟨a, _, h, _⟩ => by rw [h]; exact len a) (fun ags r ⟨a, _, h, _⟩ => by rw [h]; exact ow a) (fun Γ ags r ⟨a, h1, h2, h3⟩ => by rw [h2, h3]; exact hb Γ a h1), hbi f fd h3, .nil, fun _ => rfl⟩
end
end Lk
set_option maxHeartbeats 4000000
namespace Lk
open PySem PySem.Spec PyProof.Rows L2
/-! ### the program's reckoning, in plain Lean -/
instance : Inhabited Cnl := ⟨⟨[], [], []⟩⟩
namespace Cnl
abbrev nr (c : Cnl) : Nat := c.reaches.length
abbrev nl (c : Cnl) : Nat := c.locks.length
def chamber (c : Cnl) (k : Nat) : Nat := c.nr + k
def basin (c : Cnl) (k : Nat) : Nat := c.nr + c.nl + k
def sea (c : Cnl) : Nat := c.nr + 2 * c.nl
def sky (c : Cnl) : Nat := c.sea + 1
def many (c : Cnl) : Nat := c.sky + 1
def weir (c : Cnl) (r : Rch) : Int × Nat := (r.crest, r.target.getD c.sea)
def weirs (c : Cnl) : List (Int × Nat) := c.reaches.map c.weir
def full (c : Cnl) (ws : List Int) (k : Nat) : Bool := decide (0 < ws[c.chamber k]!)
end Cnl
/-- a canal as the law makes it -/
structure CW (c : Cnl) : Prop where
  r2 : 2 ≤ c.nr
  rm : c.nr ≤ 10
  l1 : 1 ≤ c.nl
  lm : c.nl ≤ 10
  nm : c.nights.length ≤ 10
  nw : ∀ w ∈ c.nights, w.length = c.nr
  lk : ∀ l ∈ c.locks, l.low < l.high ∧ l.high < c.nr
  tg : ∀ (r : Nat) (h : r < c.nr) t, c.reaches[r].target = some t → t < r
def pour1 (h : List Int) (p : Pr) : List Int := let h1 := h.set p.1 (h[p.1]! - p.2.2); h1.set p.2.1 (h1[p.2.1]! + p.2.2)
def pourAll (h : List Int) (ps : List Pr) : List Int := ps.foldl pour1 h
def PrIn (n : Nat) (p : Pr) : Prop := p.1 < n ∧ p.2.1 < n
theorem pour1_len (h : List Int) (p : Pr) : (pour1 h p).length = h.length := by
  unfold pour1
  rw [List.length_set, List.length_set]
theorem pourAll_len (ps : List Pr) : ∀ (h : List Int), (pourAll h ps).length = h.length := by
  induction ps with
  | nil => exact fun _ => rfl
  | cons p ps ih => exact fun h => (ih (pour1 h p)).trans (pour1_len h p)
theorem pourAll_take {ps : List Pr} {k : Nat} {h : List Int} (e : k < ps.length) : pourAll h (ps.take (k + 1)) = pour1 (pourAll h (ps.take k)) ps[k]! := by
  unfold pourAll
  rw [List.take_succ, List.getElem?_eq_getElem e, getElem!_pos ps k e, List.foldl_append]
  rfl
def reachOf (c : Cnl) (w : Wy) (p : Nat) : Int := if w.2.length ≤ p then -1 else if (w.2[p]!).2 then (c.locks[(w.2[p]!).1]!).low else (c.locks[(w.2[p]!).1]!).high
def lying (c : Cnl) (ws : List Wy) (st : Sta) (r : Int) : Nat := ((List.range ws.length).filter fun k => reachOf c ws[k]! st.2.2[k]! == r).length
def allHome (ws : List Wy) (st : Sta) : Bool := (List.range ws.length).all fun k => decide ((ws[k]!).2.length ≤ st.2.2[k]!)
def wordsUp : List Str := ["open low", "in low", "shut low", "fill", "open high", "out high", "shut high"]
def wordsDown : List Str := ["open high", "in high", "shut high", "let", "open low", "out low", "shut low"]
def passing (full : Bool) (up : Bool) : List Str := if up then (if full then [("let" : Str)] else []) ++ wordsUp else (if full then [] else [("fill" : Str)]) ++ wordsDown
abbrev Part := Sd × Int
abbrev Tri := Sd × Sd × Int
def realParts (ps : List Part) : List Part := ps.filter fun p => decide (0 < p.2)
def fillParts (l : Lck) (b : Int) : List Part := match l.kd with
  | .plain => [(.high, l.room)]
  | .basin _ => realParts [(.basin, b), (.high, l.room - b)]
  | .pump lift => realParts [(.low, lift), (.high, l.room - lift)]
def letParts (l : Lck) (b : Int) : List Part := match l.kd with
  | .plain => [(.low, l.room)]
  | .basin side => realParts [(.basin, min (side - b) l.room), (.low, l.room - min (side - b) l.room)]
  | .pump _ => [(.low, l.room)]
def filling (l : Lck) (b : Int) : List Tri := (fillParts l b).map fun p => (p.1, .chamber, p.2)
def letting (l : Lck) (b : Int) : List Tri := (letParts l b).map fun p => (.chamber, p.1, p.2)
def held1 (b : Int) (t : Tri) : Int := let b1 := if t.1 = .basin then b - t.2.2 else b; if t.2.1 = .basin then b1 + t.2.2 else b1
def heldBehind (b : Int) (ts : List Tri) : Int := ts.foldl held1 b
def passage (l : Lck) (full : Bool) (b : Int) (up : Bool) : List Tri :=
  if up then let ps := if full then letting l b else []; ps ++ filling l (heldBehind b ps)
  else let ps := if full then [] else filling l b; ps ++ letting l (heldBehind b ps)
def over (ws : List (Int × Nat)) (wa : List Int) (i : Nat) : Int := max 0 (wa[i]! - ws[i]!.1)
def spilled (ws : List (Int × Nat)) (wa : List Int) (i : Nat) : List Int := pourAll wa [(i, (ws[i]!).2, over ws wa i)]
/-- from the last weir down to the k-th from the end -/
def settledK (ws : List (Int × Nat)) (wa : List Int) : Nat → List Int
  | 0 => wa
  | k + 1 => spilled ws (settledK ws wa k) (ws.length - 1 - k)
def settled (ws : List (Int × Nat)) (wa : List Int) : List Int := settledK ws wa ws.length
def spillsK (ws : List (Int × Nat)) (wa : List Int) : Nat → List Int
  | 0 => ws.map fun _ => 0
  | k + 1 => (spillsK ws wa k).set (ws.length - 1 - k) (over ws (settledK ws wa k) (ws.length - 1 - k))
def spills (ws : List (Int × Nat)) (wa : List Int) : List Int := spillsK ws wa ws.length
def Cnl.start (c : Cnl) : List Int := settled c.weirs (c.reaches.map Rch.water ++ List.replicate (c.many - c.nr) 0)
def begun (c : Cnl) (ws : List Wy) : Sta := (0, c.start, ws.map fun _ => 0)
def weirPours (c : Cnl) (wa : List Int) : List Pr := let g := spills c.weirs wa; ((List.range c.nr).filter fun k => decide (0 < g[c.nr - 1 - k]!)).map fun k => (c.nr - 1 - k, (c.weirs[c.nr - 1 - k]!).2, g[c.nr - 1 - k]!)
def goneP (c : Cnl) (wa : List Int) (w : List (Int × Int)) : List Pr := ((List.range w.length).filter fun r => decide ((0 : Int) < min (wa[r]!) ((w[r]!).2))).map fun (r : Nat) => (r, c.sky, min (wa[r]!) ((w[r]!).2))
def comeP (c : Cnl) (w : List (Int × Int)) : List Pr := ((List.range w.length).filter fun r => decide (0 < (w[r]!).1)).map fun r => (c.sky, r, (w[r]!).1)
def nightPours (c : Cnl) (st : Sta) (w : List (Int × Int)) : List Pr := let row := goneP c st.2.1 w ++ comeP c w; row ++ weirPours c (pourAll st.2.1 row)
def wetEnough (w o : List (Int × Int)) : Bool := (List.range w.length).all fun r => !(decide ((w[r]!).1 < (o[r]!).1) || decide ((o[r]!).2 < (w[r]!).2))
def placeOf (c : Cnl) (k : Nat) : Sd → Nat
  | .high => (c.locks[k]!).high
  | .low => (c.locks[k]!).low
  | .chamber => c.chamber k
  | .basin => c.basin k
def numbered (c : Cnl) (k : Nat) (ts : List Tri) : List Pr := ts.map fun t => (placeOf c k t.1, placeOf c k t.2.1, t.2.2)
def passPours (c : Cnl) (ws : List Wy) (st : Sta) (b : Nat) : List Pr := let s := (ws[b]!).2[st.2.2[b]!]!; numbered c s.1 (passage c.locks[s.1]! (c.full st.2.1 s.1) (st.2.1[c.basin s.1]!) s.2)
def letPours (c : Cnl) (st : Sta) (k : Nat) : List Pr := numbered c k (letting c.locks[k]! st.2.1[c.basin k]!)
def tooDry (c : Cnl) : List Int → List Pr → Bool
  | _, [] => false
  | wa, p :: ps => let wa' := pour1 wa p; if p.1 < c.nr ∧ wa'[p.1]! < (c.reaches[p.1]!).least then true else tooDry c wa' ps
def whyNoPass (c : Cnl) (ws : List Wy) (st : Sta) (b : Nat) : Str :=
  if (ws[b]!).2.length ≤ st.2.2[b]! then "home"
  else if st.2.2[b]! + 1 < (ws[b]!).2.length ∧ (c.reaches[(reachOf c ws[b]! (st.2.2[b]! + 1)).toNat]!).berths ≤ lying c ws st (reachOf c ws[b]! (st.2.2[b]! + 1)) then "berth"
  else if tooDry c st.2.1 (passPours c ws st b) then "water" else ""
def whyNot (c : Cnl) (ws : List Wy) (st : Sta) : Deed → Str
  | .pass b => whyNoPass c ws st b
  | .let_ k => if c.full st.2.1 k then "" else "empty"
  | .night => if st.1 < c.nights.length then "" else "over"
def poursD (c : Cnl) (ws : List Wy) (st : Sta) : Deed → List Pr
  | .night => nightPours c st c.nights[st.1]!
  | .pass b => let row := passPours c ws st b; row ++ weirPours c (pourAll st.2.1 row)
  | .let_ k => let row := letPours c st k; row ++ weirPours c (pourAll st.2.1 row)
def after (c : Cnl) (ws : List Wy) (st : Sta) (d : Deed) : Sta := let wa := pourAll st.2.1 (poursD c ws st d); match d with
  | .night => (st.1 + 1, wa, st.2.2)
  | .pass b => (st.1, wa, st.2.2.set b (st.2.2[b]! + 1))
  | .let_ _ => (st.1, wa, st.2.2)
def deeds (c : Cnl) (ws : List Wy) : List Deed := (List.range ws.length).map .pass ++ (List.range c.nl).map .let_ ++ [.night]
def may (c : Cnl) (ws : List Wy) (st : Sta) : List Deed := (deeds c ws).filter fun d => decide (whyNot c ws st d = "")
end Lk
set_option maxHeartbeats 400000
namespace Lk
open PySem PySem.Spec PyProof.Rows L2
variable {pg : Pg} [Lib pg]
section
variable {sc : Scope} {N : List (Str × Bool)} {G : List Str} {lv : Nat} {own : List Nat} {Γ : Gm pg sc N G lv own} {ρ : List Sl} {e e1 : Expr} {es : List Expr} {pos apos : Pos} {c : Cnl} {l : Lck} {r : Rch}
theorem f_reaches (h : XE Γ e ρ (eCnl pg c)) (hb : ∀ env, attributeBase e "reaches" env (eval e env) = eval e env := by intro _; rfl) : XE Γ (.Attribute e "reaches" pos) ρ (.lst (c.reaches.map (eRch pg))) := xe_fld h (fld 16) rfl hb
theorem f_locks (h : XE Γ e ρ (eCnl pg c)) (hb : ∀ env, attributeBase e "locks" env (eval e env) = eval e env := by intro _; rfl) : XE Γ (.Attribute e "locks" pos) ρ (.lst (c.locks.map (eLck pg))) := xe_fld h (fld 17) rfl hb
theorem f_nights (h : XE Γ e ρ (eCnl pg c)) (hb : ∀ env, attributeBase e "nights" env (eval e env) = eval e env := by intro _; rfl) : XE Γ (.Attribute e "nights" pos) ρ (.lst (c.nights.map eNight)) := xe_fld h (fld 18) rfl hb
theorem f_least (h : XE Γ e ρ (eRch pg r)) (hb : ∀ env, attributeBase e "least" env (eval e env) = eval e env := by intro _; rfl) : XE Γ (.Attribute e "least" pos) ρ (.int r.least) := xe_fld h (fld 11) rfl hb
theorem f_crest (h : XE Γ e ρ (eRch pg r)) (hb : ∀ env, attributeBase e "crest" env (eval e env) = eval e env := by intro _; rfl) : XE Γ (.Attribute e "crest" pos) ρ (.int r.crest) := xe_fld h (fld 12) rfl hb
theorem f_berths (h : XE Γ e ρ (eRch pg r)) (hb : ∀ env, attributeBase e "berths" env (eval e env) = eval e env := by intro _; rfl) : XE Γ (.Attribute e "berths" pos) ρ (.int r.berths) := xe_fld h (fld 13) rfl hb
theorem f_water (h : XE Γ e ρ (eRch pg r)) (hb : ∀ env, attributeBase e "water" env (eval e env) = eval e env := by intro _; rfl) : XE Γ (.Attribute e "water" pos) ρ (.int r.water) := xe_fld h (fld 14) rfl hb
theorem f_target (h : XE Γ e ρ (eRch pg r)) (hb : ∀ env, attributeBase e "target" env (eval e env) = eval e env := by intro _; rfl) : XE Γ (.Attribute e "target" pos) ρ (.int (eTgt r.target)) := xe_fld h (fld 15) rfl hb
theorem f_rname (h : XE Γ e ρ (eRch pg r)) (hb : ∀ env, attributeBase e "name" env (eval e env) = eval e env := by intro _; rfl) : XE Γ (.Attribute e "name" pos) ρ (.str r.name) := xe_fld h (fld 10) rfl hb
theorem f_lname (h : XE Γ e ρ (eLck pg l)) (hb : ∀ env, attributeBase e "name" env (eval e env) = eval e env := by intro _; rfl) : XE Γ (.Attribute e "name" pos) ρ (.str l.name) := by
  obtain ⟨kd, nm, hi, lo, rm⟩ := l
  cases kd with
  | plain => exact xe_fld h (fld 19) rfl hb
  | basin s => exact xe_fld h (fld 23) rfl hb
  | pump s => exact xe_fld h (fld 28) rfl hb
theorem f_high (h : XE Γ e ρ (eLck pg l)) (hb : ∀ env, attributeBase e "high" env (eval e env) = eval e env := by intro _; rfl) : XE Γ (.Attribute e "high" pos) ρ (.int l.high) := by
  obtain ⟨kd, nm, hi, lo, rm⟩ := l
  cases kd with
  | plain => exact xe_fld h (fld 20) rfl hb
  | basin s => exact xe_fld h (fld 24) rfl hb
  | pump s => exact xe_fld h (fld 29) rfl hb
theorem f_low (h : XE Γ e ρ (eLck pg l)) (hb : ∀ env, attributeBase e "low" env (eval e env) = eval e env := by intro _; rfl) : XE Γ (.Attribute e "low" pos) ρ (.int l.low) := by
  obtain ⟨kd, nm, hi, lo, rm⟩ := l
  cases kd with
  | plain => exact xe_fld h (fld 21) rfl hb
  | basin s => exact xe_fld h (fld 25) rfl hb
  | pump s => exact xe_fld h (fld 30) rfl hb
theorem f_room (h : XE Γ e ρ (eLck pg l)) (hb : ∀ env, attributeBase e "room" env (eval e env) = eval e env := by intro _; rfl) : XE Γ (.Attribute e "room" pos) ρ (.int l.room) := by
  obtain ⟨kd, nm, hi, lo, rm⟩ := l
  cases kd with
  | plain => exact xe_fld h (fld 22) rfl hb
  | basin s => exact xe_fld h (fld 26) rfl hb
  | pump s => exact xe_fld h (fld 31) rfl hb
end
theorem map_at {α : Type} [Inhabited α] {f : α → D} {xs : List α} {k : Nat} {d : D} (h : (xs.map f)[k]? = some d) : k < xs.length ∧ d = f xs[k]! := by
  rw [List.getElem?_map] at h
  have hk : k < xs.length := by
    by_cases q : k < xs.length
    · exact q
    · rw [List.getElem?_eq_none (by omega)] at h
      cases h
  rw [List.getElem?_eq_getElem hk] at h
  cases h
  rw [getElem!_pos xs k hk]
  exact ⟨hk, rfl⟩
theorem take_map {α β : Type} [Inhabited α] {f : α → β} {xs : List α} {k : Nat} (h : k < xs.length) : (xs.take (k + 1)).map f = (xs.take k).map f ++ [f xs[k]!] := by
  rw [List.take_succ, List.getElem?_eq_getElem h, getElem!_pos xs k h, List.map_append]
  rfl
theorem take_all {α : Type} {xs : List α} {n : Nat} (h : n = xs.length) : xs.take n = xs := by rw [h, List.take_length]
section
variable {sc : Scope} {N : List (Str × Bool)} {G : List Str} {lv : Nat} {own : List Nat} {Γ : Gm pg sc N G lv own} {ρ : List Sl} {e e1 : Expr} {es : List Expr} {pos apos : Pos} {d : D} {ds : List D}
def XB (Γ : Gm pg sc N G lv own) (es : List Expr) (ρ : List Sl) (ds : List D) : Prop := XA Γ es ρ (ds.map Ar.sh)
omit [Lib pg] in
theorem XB.nil : XB Γ [] ρ [] := XA.nil
omit [Lib pg] in
theorem XB.sh (h : XE Γ e ρ d) (hr : XB Γ es ρ ds) (hs : ∀ env, starEach (e :: es) env = (false, eval e env) :: starEach es env := by intro _; rfl) : XB Γ (e :: es) ρ (d :: ds) := XA.sh h hr hs
omit [Lib pg] in
theorem tup (h : XB Γ es ρ ds) {k1 : Nat} (hz : ds.length ≤ 100000 := by exact Nat.le_of_ble_eq_true rfl) : XE Γ (.Tuple es k1 pos) ρ (.tup ds) := xe_tup h hz
omit [Lib pg] in
theorem lsO (h : XB Γ es ρ ds) (hz : ds.length ≤ 100000 := by exact Nat.le_of_ble_eq_true rfl) : XO Γ (.List es pos) ρ (.lst ds) := xo_lst h hz
omit [Lib pg] in
theorem ls (h : XB Γ es ρ ds) (hz : ds.length ≤ 100000 := by exact Nat.le_of_ble_eq_true rfl) : XE Γ (.List es pos) ρ (.lst ds) := xe_lst h hz
end
/-- a def with one default that the call leaves out -/
theorem fn_ctD {α : Type} {pre : α → Prop} {ag : α → List Ar} {res : α → Rz} {x : Str} {N : List (Str × Bool)} {ps G : List Str} {k : Nat} {cx : Bool} {v : V} {d : D} (i t : Nat) (ht : dfTab[t]? = some (i, x, [v])) (hv : ∀ Hf, R pg Hf d v) (S : Sc N ps G (defScope (top i))) (len : ∀ a, (ag a).length = ps.length)
    (hbi : ∀ (T : Addr) (kV doc pm : Value) (an : Option Addr) (cdv ct : Value) (us its : List Value), us.length = ps.length - 1 → its.length = 1 →
      ∃ k, bindArgs (PySem.W.fnOf x x (defArgs (top i)) (defBody (top i)) (defScope (top i)) (.ref T) kV doc pm an cdv ct) ⟨us, []⟩ = seqItems? (.ref T) >>= k ∧ k (some its.toArray) = pure (ps.zip (us ++ its)))
    (hp : 0 < ps.length) (hb : ∀ (Γ : Gf pg (defScope (top i)) N G k []) a, pre a → XSs Γ (defBody (top i)) (slots N.length (ag a)) (fin cx (res a))) : Fn pg (k + 1) cx x [d] (Ct pre ag res) := by
  obtain ⟨f, fd, h1, h2, h3⟩ := Lib.df (pg := pg) i x [v] (List.mem_of_getElem? ht)
  obtain ⟨ds, e1, e2⟩ := h3.binds1 (ps := ps) (ps.length - 1) 0 (by exact fun z => nomatch z) (by show ps.length - 1 + 1 = _; omega) hbi
  exact ⟨f, fd, ps, ds, [v], h1, h2, fn_ok h3 S (fun ags r ⟨a, _, h, _⟩ => by rw [h]; exact len a) (fun Γ ags r ⟨a, h1, h2, h3⟩ => by rw [h2, h3]; exact hb Γ a h1), e2, e1, fun Hf => ⟨v, [], rfl, hv Hf, rfl⟩⟩
theorem len_i {α : Type} {f : α → D} {xs : List α} {n : Nat} (h : xs.length = n) : (D.int ((xs.map f).length : Nat)) = D.int n := by rw [List.length_map, h]
/-! ### the canal's numbers -/
abbrev cC (pg : Pg) {α : Type} (f : α → Cnl) (g : α → List Ar) (r : α → Rz) : List Ar → Rz → Prop := Ct (fun _ : α => True) (fun a => .sh (eCnl pg (f a)) :: g a) r
theorem s70_3 : Sc [("self", true), ("k", true)] ["self", "k"] ["len"] (defScope (mth 70 3)) := sc_by (by decide +kernel)
theorem m_chamber : Mt pg 1 false (ca pg "Canal") "chamber" [] (Ct (fun _ : Cnl × Nat => True) (fun a => [.sh (eCnl pg a.1), .sh (eN a.2)]) fun a => .sh (eN (a.1.chamber a.2))) := by
  refine mt_ct 70 3 24 rfl 16 "reaches" rfl s70_3 (fun _ => rfl) (fun _ _ _ _ _ _ us hl => match us, hl with | [_, _], _ => rfl) ?_
  rintro Γ ⟨c, k⟩ -
  exact xss_one (xs_ret ((xe_op (xe_lenL (f_reaches (xv 0 rfl)) 0) (xv 1 rfl) o_add).to (by simp [Cnl.chamber])) rfl)
theorem s70_4 : Sc [("self", true), ("k", true)] ["self", "k"] ["len"] (defScope (mth 70 4)) := sc_by (by decide +kernel)
theorem m_basin : Mt pg 1 false (ca pg "Canal") "basin" [] (Ct (fun _ : Cnl × Nat => True) (fun a => [.sh (eCnl pg a.1), .sh (eN a.2)]) fun a => .sh (eN (a.1.basin a.2))) := by
  refine mt_ct 70 4 25 rfl 16 "reaches" rfl s70_4 (fun _ => rfl) (fun _ _ _ _ _ _ us hl => match us, hl with | [_, _], _ => rfl) ?_
  rintro Γ ⟨c, k⟩ -
  exact xss_one (xs_ret ((xe_op (xe_op (xe_lenL (f_reaches (xv 0 rfl)) 0) (xe_lenL (f_locks (xv 0 rfl)) 0) o_add) (xv 1 rfl) o_add).to (by simp [Cnl.basin])) rfl)
theorem s70_5 : Sc [("self", true)] ["self"] ["len"] (defScope (mth 70 5)) := sc_by (by decide +kernel)
theorem m_sea : Mt pg 1 false (ca pg "Canal") "sea" [] (Ct (fun c : Cnl => True) (fun a => [.sh (eCnl pg a)]) fun a => .sh (eN a.sea)) := by
  refine mt_ct 70 5 26 rfl 16 "reaches" rfl s70_5 (fun _ => rfl) (fun _ _ _ _ _ _ us hl => match us, hl with | [_], _ => rfl) ?_
  rintro Γ c h
  exact xss_one (xs_ret ((xe_op (xe_lenL (f_reaches (xv 0 rfl)) 0) (xe_op xe_int (xe_lenL (f_locks (xv 0 rfl)) 0) (o_mul (.inl (by decide)))) o_add).to (by simp [Cnl.sea])) rfl)
theorem s70_6 : Sc [("self", true)] ["self"] [] (defScope (mth 70 6)) := sc_by (by decide +kernel)
theorem m_sky : Mt pg 2 false (ca pg "Canal") "sky" [] (Ct (fun c : Cnl => True) (fun a => [.sh (eCnl pg a)]) fun a => .sh (eN a.sky)) := by
  refine mt_ct 70 6 27 rfl 16 "reaches" rfl s70_6 (fun _ => rfl) (fun _ _ _ _ _ _ us hl => match us, hl with | [_], _ => rfl) ?_
  rintro Γ c -
  exact xss_one (xs_ret (xe_op (xe_meth0 m_sea (XE.rcv (xv 0 rfl)) (.inl ⟨_, rfl, rfl⟩) ⟨c, trivial, rfl, rfl⟩) xe_int o_add) rfl)
theorem s70_7 : Sc [("self", true)] ["self"] [] (defScope (mth 70 7)) := sc_by (by decide +kernel)
theorem m_many : Mt pg 3 false (ca pg "Canal") "many" [] (Ct (fun c : Cnl => True) (fun a => [.sh (eCnl pg a)]) fun a => .sh (eN a.many)) := by
  refine mt_ct 70 7 28 rfl 16 "reaches" rfl s70_7 (fun _ => rfl) (fun _ _ _ _ _ _ us hl => match us, hl with | [_], _ => rfl) ?_
  rintro Γ c -
  exact xss_one (xs_ret (xe_op (xe_meth0 m_sky (XE.rcv (xv 0 rfl)) (.inl ⟨_, rfl, rfl⟩) ⟨c, trivial, rfl, rfl⟩) xe_int o_add) rfl)
theorem s70_10 : Sc [("self", true), ("waters", true), ("k", true)] ["self", "waters", "k"] [] (defScope (mth 70 10)) := sc_by (by decide +kernel)
theorem m_full : Mt pg 2 false (ca pg "Canal") "full" [] (Ct (fun a : Cnl × List Int × Nat => a.1.chamber a.2.2 < a.2.1.length) (fun a => [.sh (eCnl pg a.1), .sh (eInts a.2.1), .sh (eN a.2.2)]) fun a => .sh (.bl (a.1.full a.2.1 a.2.2))) := by
  refine mt_ct 70 10 31 rfl 16 "reaches" rfl s70_10 (fun _ => rfl) (fun _ _ _ _ _ _ us hl => match us, hl with | [_, _, _], _ => rfl) ?_
  rintro Γ ⟨c, ws, k⟩ h
  exact xss_one (xs_ret (xe_cmp (xe_ixT (xv 1 rfl) (xe_meth m_chamber (XE.rcv (xv 0 rfl)) (.inl ⟨_, rfl, rfl⟩) (XA.sh ((xv 2 rfl)) XA.nil) ⟨(c, k), trivial, rfl, rfl⟩) rfl (at_map h)) xe_int o_gt) rfl)
theorem s70_8 : Sc [("self", true), ("told", true), ("reach", true), ("target", true)] ["self"] [] (defScope (mth 70 8)) := sc_by (by decide +kernel)
theorem m_weirs : Mt pg 2 false (ca pg "Canal") "weirs" [] (Ct (fun c : Cnl => c.nr ≤ 10) (fun a => [.sh (eCnl pg a)]) fun a => .ow (.lst (a.weirs.map eWr))) := by
  refine mt_ct 70 8 29 rfl 16 "reaches" rfl s70_8 (fun _ => rfl) (fun _ _ _ _ _ _ us hl => match us, hl with | [_], _ => rfl) ?_
  rintro Γ c hr
  have hr : c.reaches.length ≤ 10 := hr
  refine xss_cons (xs_setO 1 (lsO XB.nil) ?_)
  refine xss_mid (fun ρ => ∃ s2 s3, ρ = [.sh (eCnl pg c), .ow (.lst (c.weirs.map eWr)), s2, s3])
    (xs_forL 2 (fun k ρ => ∃ s2 s3, ρ = [.sh (eCnl pg c), .ow (.lst ((c.weirs.take k).map eWr)), s2, s3]) (f_reaches (xv 0 rfl)) ⟨_, _, rfl⟩ ?_ ?_) ?_
  · rintro k _ ρ hx ⟨s2, s3, rfl⟩
    obtain ⟨hk, rfl⟩ := map_at hx
    have hk' : k < c.weirs.length := by unfold Cnl.weirs; rw [List.length_map]; exact hk
    have e : c.weirs[k]! = c.weir c.reaches[k]! := by unfold Cnl.weirs; rw [getElem!_pos _ k (by rw [List.length_map]; exact hk), getElem!_pos _ k hk, List.getElem_map]
    refine xss_cons (xs_set 3 (f_target (xv 2 rfl)) ?_)
    refine xss_mid (fun ρ => ρ = [.sh (eCnl pg c), .ow (.lst ((c.weirs.take k).map eWr)), .sh (eRch pg c.reaches[k]!), .sh (.int (c.weirs[k]!).2)])
      (xs_if (xt_cmp (xv 3 rfl) xe_int o_lt) (fun h => xss_one (xs_set 3 (xe_meth0 m_sea (XE.rcv (xv 0 rfl)) (.inl ⟨_, rfl, rfl⟩) ⟨c, trivial, rfl, rfl⟩) ?_)) (fun h => xss_nil ?_)) ?_
    · have h := of_decide_eq_true h
      have : (c.weirs[k]!).2 = c.sea := by
        rw [e]
        unfold Cnl.weir
        cases q : (c.reaches[k]!).target with
        | none => rfl
        | some t => rw [q] at h; exact absurd h (by show ¬ ((t : Int) < 0); omega)
      rw [this]
      rfl
    · have h := of_decide_eq_false h
      have : (((c.weirs[k]!).2 : Nat) : Int) = eTgt (c.reaches[k]!).target := by
        rw [e]
        unfold Cnl.weir
        cases q : (c.reaches[k]!).target with
        | none => rw [q] at h; exact absurd (by decide) h
        | some t => rfl
      rw [this]
      rfl
    · rintro _ rfl
      refine xss_one (xs_append 1 rfl (tup (XB.sh (f_crest (xv 2 rfl)) (XB.sh ((xv 3 rfl)) XB.nil))) ?_ (by simp; omega))
      show ∃ s2 s3, _
      rw [take_map hk']
      exact ⟨_, _, by rw [e]; rfl⟩
  · rintro ρ ⟨s2, s3, rfl⟩
    refine ⟨_, _, by rw [take_all (by unfold Cnl.weirs; simp)]⟩
  · rintro ρ ⟨s2, s3, rfl⟩
    exact xss_one (xs_retV 1 rfl rfl)
end Lk
set_option maxHeartbeats 400000
namespace Lk
open PySem PySem.Spec PyProof.Rows L2
/-! ### lengths -/
theorem spilled_len (ws : List (Int × Nat)) (wa : List Int) (i : Nat) : (spilled ws wa i).length = wa.length := pourAll_len _ _
theorem settledK_len (ws : List (Int × Nat)) (wa : List Int) : ∀ k, (settledK ws wa k).length = wa.length
  | 0 => rfl
  | k + 1 => (spilled_len _ _ _).trans (settledK_len ws wa k)
theorem spillsK_len (ws : List (Int × Nat)) (wa : List Int) : ∀ k, (spillsK ws wa k).length = ws.length
  | 0 => by unfold spillsK; rw [List.length_map]
  | k + 1 => by unfold spillsK; rw [List.length_set]; exact spillsK_len ws wa k
theorem weirs_len (c : Cnl) : c.weirs.length = c.nr := by unfold Cnl.weirs; rw [List.length_map]
theorem weirs_get (c : Cnl) {k : Nat} (h : k < c.nr) : c.weirs[k]! = c.weir c.reaches[k]! := by
  have h : k < c.reaches.length := h
  unfold Cnl.weirs
  rw [getElem!_pos _ k (by rw [List.length_map]; exact h), getElem!_pos _ k h, List.getElem_map]
theorem mem_get {α : Type} [Inhabited α] {xs : List α} {k : Nat} (h : k < xs.length) : xs[k]! ∈ xs := by
  rw [getElem!_pos xs k h]
  exact List.getElem_mem h
theorem CW.weir_lt {c : Cnl} (W : CW c) : ∀ w ∈ c.weirs, w.2 < c.many := by
  intro w hw
  unfold Cnl.weirs at hw
  obtain ⟨r, hr, rfl⟩ := List.mem_map.mp hw
  obtain ⟨k, hk, e⟩ := List.mem_iff_getElem.mp hr
  unfold Cnl.weir
  cases q : r.target with
  | none => show c.sea < _; unfold Cnl.many Cnl.sky; omega
  | some t =>
    have := W.tg k hk t (by rw [e]; exact q)
    show t < _
    have hk : k < c.nr := hk
    unfold Cnl.many Cnl.sky Cnl.sea
    omega
theorem CW.many_le {c : Cnl} (W : CW c) : c.nr < c.many ∧ c.many ≤ 1000 := by
  have := W.rm
  have := W.lm
  unfold Cnl.many Cnl.sky Cnl.sea
  omega
variable {pg : Pg} [Lib pg]
section
variable {sc : Scope} {N : List (Str × Bool)} {G : List Str} {lv : Nat} {own : List Nat} {Γ : Gm pg sc N G lv own} {ρ : List Sl} {e e1 : Expr} {es : List Expr} {pos apos p : Pos} {d : D} {ds : List D}
theorem xe_lenQ (h : XE Γ e1 ρ d) (hd : d = .lst ds ∨ d = .tup ds) (j : Nat) (hG : G[j]? = some ("len" : Str) := by rfl) (hst : ∀ env, starEach [e1] env = [(false, eval e1 env)] := by intro _; rfl) : XE Γ (.Call (.Name "len" p) [e1] [] pos) ρ (.int ds.length) := by
  rcases hd with q | q
  · subst q
    exact xe_lenL h j hG hst
  · subst q
    exact xe_lenT h j hG hst
end
def eWs (t : Bool) (w : List (Int × Int)) : D := if t then .tup (w.map eWth) else .lst (w.map eWth)
theorem eWs_q (t : Bool) (w : List (Int × Int)) : eWs t w = .lst (w.map eWth) ∨ eWs t w = .tup (w.map eWth) := by
  cases t
  · exact .inl rfl
  · exact .inr rfl
/-! ### pouring -/
theorem s20 : Sc [("waters", true), ("pours", true), ("held", true), ("source", true), ("target", true), ("amount", true)] ["waters", "pours"] ["list", "tuple"] (defScope (top 20)) := sc_by (by decide +kernel)
theorem f_poured : Fn pg 1 false "poured_all" [] (Ct (fun a : List Int × List Pr => (∀ p ∈ a.2, PrIn a.1.length p) ∧ a.1.length ≤ 1000) (fun a => [.sh (eInts a.1), .sh (ePrs a.2)]) fun a => .sh (eInts (pourAll a.1 a.2))) := by
  refine fn_ct 20 5 rfl s20 (fun _ => rfl) (fun _ _ _ _ _ _ us hl => match us, hl with | [_, _], _ => rfl) ?_
  rintro Γ ⟨wa, ps⟩ ⟨hp, hw⟩
  dsimp only at hp hw ⊢
  refine xss_cons (xs_setO 2 (xo_listT (xv 0 rfl) 0) ?_)
  refine xss_mid (fun ρ => ∃ s3 s4 s5, ρ = [.sh (eInts wa), .sh (ePrs ps), .ow (.lst ((pourAll wa ps).map D.int)), s3, s4, s5])
    (xs_forT3 3 4 5 (fun k ρ => ∃ s3 s4 s5, ρ = [.sh (eInts wa), .sh (ePrs ps), .ow (.lst ((pourAll wa (ps.take k)).map D.int)), s3, s4, s5]) (fun k => .int (ps[k]!).1) (fun k => .int (ps[k]!).2.1) (fun k => .int (ps[k]!).2.2)
      (xv 1 rfl) (fun k hk => at_map (f := ePr) (by simpa using hk)) ⟨_, _, _, rfl⟩ ?_ ?_) ?_
  · rintro k ρ hk ⟨s3, s4, s5, rfl⟩
    have hk : k < ps.length := by simpa using hk
    obtain ⟨p1, p2⟩ := hp ps[k]! (mem_get hk)
    have l1 : (pourAll wa (ps.take k)).length = wa.length := pourAll_len _ _
    refine xss_cons (xs_setitem 2 rfl (xe_op (xe_ixO 2 rfl (xv 3 rfl) rfl (at_map (by rw [l1]; exact p1))) (xv 5 rfl) o_sub) (xv 3 rfl) rfl (by rw [List.length_map, l1]; exact p1) ?_)
    have e1 : ∀ (h : List Int) (i : Nat) (z : Int), (h.map D.int).set i (.int z) = (h.set i z).map D.int := fun h i z => List.map_set.symm
    refine xss_one (xs_setitem 2 (congrArg some (congrArg (fun z => Sl.ow (.lst z)) (e1 _ _ _))) (xe_op (xe_ixO 2 (congrArg some (congrArg (fun z => Sl.ow (.lst z)) (e1 _ _ _))) (xv 4 rfl) rfl (at_map (by rw [List.length_set, l1]; exact p2))) (xv 5 rfl) o_add) (xv 4 rfl) rfl (by rw [List.length_map, List.length_set, l1]; exact p2) ?_)
    show ∃ s3 s4 s5, _
    rw [pourAll_take hk]
    simp only [e1]
    exact ⟨_, _, _, rfl⟩
  · rintro ρ ⟨s3, s4, s5, rfl⟩
    refine ⟨s3, s4, s5, by rw [take_all (by simp)]⟩
  · rintro ρ ⟨s3, s4, s5, rfl⟩
    exact xss_one (xs_ret (xe_tupleP (xpv 2 (.inl rfl)) 1) rfl)
theorem s28 : Sc [("weirs", true), ("waters", true), ("at", true)] ["weirs", "waters", "at"] ["max"] (defScope (top 28)) := sc_by (by decide +kernel)
theorem f_over : Fn pg 1 false "over" [] (Ct (fun a : List (Int × Nat) × List Int × Nat => a.2.2 < a.1.length ∧ a.2.2 < a.2.1.length) (fun a => [.sh (eWrs a.1), .sh (eInts a.2.1), .sh (eN a.2.2)]) fun a => .sh (.int (over a.1 a.2.1 a.2.2))) := by
  refine fn_ct 28 11 rfl s28 (fun _ => rfl) (fun _ _ _ _ _ _ us hl => match us, hl with | [_, _, _], _ => rfl) ?_
  rintro Γ ⟨ws, wa, i⟩ ⟨h1, h2⟩
  dsimp only at h1 h2 ⊢
  exact xss_one (xs_ret (xe_max xe_int (xe_op (xe_ixT (xv 1 rfl) (xv 2 rfl) rfl (at_map h2)) (xe_ixt (xe_ixL (xv 0 rfl) (xv 2 rfl) rfl (at_map h1)) rfl) o_sub) 0) rfl)
theorem s29 : Sc [("weirs", true), ("waters", true), ("at", true), ("most", true), ("amount", true)] ["weirs", "waters", "at", "most"] ["over", "min", "poured_all"] (defScope (top 29)) := sc_by (by decide +kernel)
theorem f_spilled : Fn pg 2 false "spilled" [.non] (Ct (fun a : List (Int × Nat) × List Int × Nat => a.2.2 < a.1.length ∧ a.2.2 < a.2.1.length ∧ (a.1[a.2.2]!).2 < a.2.1.length ∧ a.2.1.length ≤ 1000) (fun a => [.sh (eWrs a.1), .sh (eInts a.2.1), .sh (eN a.2.2), .sh .non]) fun a => .sh (eInts (spilled a.1 a.2.1 a.2.2))) := by
  refine fn_ctD (v := .non) 29 12 rfl (fun _ => rfl) s29 (fun _ => rfl) (fun _ _ _ _ _ _ _ us its hl hi => match us, its, hl, hi with | [_, _, _], [_], _, _ => ⟨_, rfl, rfl⟩) (by decide) ?_
  rintro Γ ⟨ws, wa, i⟩ ⟨h1, h2, h3, h4⟩
  dsimp only at h1 h2 h3 h4 ⊢
  refine xss_cons (xs_set 4 (xe_call f_over (XA.sh ((xv 0 rfl)) (XA.sh ((xv 1 rfl)) (XA.sh ((xv 2 rfl)) XA.nil))) 0 ⟨(ws, wa, i), ⟨h1, h2⟩, rfl, rfl⟩) ?_)
  refine xss_cons (xs_if (xt_cmp (xv 3 rfl) xe_non o_notN) (fun h => xss_no (by cases h)) (fun _ => xss_nil ?_))
  refine xss_one (xs_ret (xe_call f_poured (XA.sh ((xv 1 rfl)) (XA.sh (ls (XB.sh (tup (XB.sh ((xv 2 rfl)) (XB.sh (xe_ixt (xe_ixL (xv 0 rfl) (xv 2 rfl) rfl (at_map (f := eWr) h1))) (XB.sh ((xv 4 rfl)) XB.nil)))) XB.nil)) XA.nil)) 2 ⟨(wa, [(i, (ws[i]!).2, over ws wa i)]), ⟨?_, h4⟩, rfl, rfl⟩) rfl)
  rintro p hp
  rw [List.mem_singleton.mp hp]
  exact ⟨h2, h3⟩
theorem s30 : Sc [("weirs", true), ("waters", true), ("behind", true), ("at", true)] ["weirs", "waters"] ["tuple", "range", "len", "spilled"] (defScope (top 30)) := sc_by (by decide +kernel)
theorem f_settled : Fn pg 3 false "settled" [] (Ct (fun a : List (Int × Nat) × List Int => a.1.length ≤ a.2.length ∧ (∀ w ∈ a.1, w.2 < a.2.length) ∧ a.2.length ≤ 1000) (fun a => [.sh (eWrs a.1), .sh (eInts a.2)]) fun a => .sh (eInts (settled a.1 a.2))) := by
  refine fn_ct 30 13 rfl s30 (fun _ => rfl) (fun _ _ _ _ _ _ us hl => match us, hl with | [_, _], _ => rfl) ?_
  rintro Γ ⟨ws, wa⟩ ⟨h1, h2, h3⟩
  dsimp only at h1 h2 h3 ⊢
  refine xss_cons (xs_set 2 (xe_tupleT (xv 1 rfl) 0) ?_)
  refine xss_mid (fun ρ => ∃ s3, ρ = [.sh (eWrs ws), .sh (eInts wa), .sh (eInts (settled ws wa)), s3])
    (xs_forDown (n := ws.length) 3 (fun k ρ => ∃ s3, ρ = [.sh (eWrs ws), .sh (eInts wa), .sh (eInts (settledK ws wa k)), s3]) ((xe_op (xe_lenL (xv 0 rfl) 2) xe_int o_sub).to (by rw [List.length_map])) (xe_neg xe_int) (xe_neg xe_int) (by omega) ⟨_, rfl⟩ ?_ ?_ 1 (Bl.range (pg := pg))) ?_
  · rintro k ρ hk ⟨s3, rfl⟩
    exact xss_one (xs_set 2 (xe_call f_spilled (XA.sh ((xv 0 rfl)) (XA.sh ((xv 2 rfl)) (XA.sh ((xv 3 rfl)) XA.nil))) 3 ⟨(ws, settledK ws wa k, ws.length - 1 - k), ⟨by dsimp only; omega, by dsimp only; rw [settledK_len]; omega, by dsimp only; rw [settledK_len]; exact h2 _ (mem_get (by omega)), by dsimp only; rw [settledK_len]; exact h3⟩, rfl, rfl⟩) ⟨_, rfl⟩)
  · rintro ρ ⟨s3, rfl⟩
    exact ⟨_, rfl⟩
  · rintro ρ ⟨s3, rfl⟩
    exact xss_one (xs_ret (xv 2 rfl) rfl)
theorem s31 : Sc [("weirs", true), ("waters", true), ("behind", true), ("given", true), ("at", true), ("weir", false)] ["weirs", "waters"] ["tuple", "range", "len", "over", "spilled"] (defScope (top 31)) := sc_by (by decide +kernel)
theorem f_spills : Fn pg 3 false "spills" [] (Ct (fun a : List (Int × Nat) × List Int => a.1.length ≤ a.2.length ∧ (∀ w ∈ a.1, w.2 < a.2.length) ∧ a.2.length ≤ 1000) (fun a => [.sh (eWrs a.1), .sh (eInts a.2)]) fun a => .ow (.lst ((spills a.1 a.2).map D.int))) := by
  refine fn_ct 31 14 rfl s31 (fun _ => rfl) (fun _ _ _ _ _ _ us hl => match us, hl with | [_, _], _ => rfl) ?_
  rintro Γ ⟨ws, wa⟩ ⟨h1, h2, h3⟩
  dsimp only at h1 h2 h3 ⊢
  refine xss_cons (xs_set 2 (xe_tupleT (xv 1 rfl) 0) ?_)
  refine xss_cons (xs_setLc 3 (lc_m (g := fun _ => .int 0) 5 [("weirs", false), ("waters", false), ("behind", false), ("given", false), ("at", false), ("weir", true)] [] (by decide +kernel) (XL.it (XE.l (xv 0 rfl))) (by omega) (fun _ _ _ _ => xe_int)) ?_ (by decide +kernel))
  refine xss_mid (fun ρ => ∃ s4 s5, ρ = [.sh (eWrs ws), .sh (eInts wa), .sh (eInts (settled ws wa)), .ow (.lst ((spills ws wa).map D.int)), s4, s5])
    (xs_forDown (n := ws.length) 4 (fun k ρ => ∃ s4 s5, ρ = [.sh (eWrs ws), .sh (eInts wa), .sh (eInts (settledK ws wa k)), .ow (.lst ((spillsK ws wa k).map D.int)), s4, s5]) ((xe_op (xe_lenL (xv 0 rfl) 2) xe_int o_sub).to (by rw [List.length_map])) (xe_neg xe_int) (xe_neg xe_int) (by omega) ⟨_, _, by unfold spillsK; rw [List.map_map]; rfl⟩ ?_ ?_ 1 (Bl.range (pg := pg))) ?_
  · rintro k ρ hk ⟨s4, s5, rfl⟩
    have q1 : ws.length - 1 - k < ws.length := by omega
    have q2 : ws.length - 1 - k < (settledK ws wa k).length := by rw [settledK_len]; omega
    refine xss_cons (xs_setitem 3 rfl (xe_call f_over (XA.sh ((xv 0 rfl)) (XA.sh ((xv 2 rfl)) (XA.sh ((xv 4 rfl)) XA.nil))) 3 ⟨(ws, settledK ws wa k, ws.length - 1 - k), ⟨q1, q2⟩, rfl, rfl⟩) (xv 4 rfl) rfl (by rw [List.length_map, spillsK_len]; exact q1) ?_)
    refine xss_one (xs_set 2 (xe_call f_spilled (XA.sh ((xv 0 rfl)) (XA.sh ((xv 2 rfl)) (XA.sh ((xv 4 rfl)) XA.nil))) 4 ⟨(ws, settledK ws wa k, ws.length - 1 - k), ⟨q1, q2, by dsimp only; rw [settledK_len]; exact h2 _ (mem_get (by omega)), by dsimp only; rw [settledK_len]; exact h3⟩, rfl, rfl⟩) ?_)
    show ∃ s4 s5, _
    rw [show (spillsK ws wa (k + 1)).map D.int = ((spillsK ws wa k).map D.int).set (ws.length - 1 - k) (.int (over ws (settledK ws wa k) (ws.length - 1 - k))) from List.map_set]
    exact ⟨_, _, rfl⟩
  · rintro ρ ⟨s4, s5, rfl⟩
    exact ⟨_, _, rfl⟩
  · rintro ρ ⟨s4, s5, rfl⟩
    exact xss_one (xs_retV 3 rfl rfl)
end Lk
set_option maxHeartbeats 400000
namespace Lk
open PySem PySem.Spec PyProof.Rows L2
variable {pg : Pg} [Lib pg]
/-! ### the locks' parts -/
theorem s72 : Sc [("parts", true), ("part", false)] ["parts"] [] (defScope (top 72)) := sc_by (by decide +kernel)
theorem f_real : Fn pg 1 false "real_parts" [] (Ct (fun a : List Part => a.length ≤ 100) (fun a => [.sh (.lst (a.map ePart))]) fun a => .ow (.lst ((realParts a).map ePart))) := by
  refine fn_ct 72 39 rfl s72 (fun _ => rfl) (fun _ _ _ _ _ _ us hl => match us, hl with | [_], _ => rfl) ?_
  rintro Γ ps h
  exact xss_one (xs_retO (lc_d (t := fun p : Part => decide (0 < p.2)) (g := ePart) 1 [("parts", false), ("part", true)] [] (by decide +kernel) (XL.it (XE.l (xv 0 rfl))) (by omega) (fun _ _ z _ => .one (xt_cmp (xe_ixt (xv 1 rfl)) xe_int o_gt)) (fun _ _ z _ _ => (xv 1 rfl))).xo rfl)
theorem parts_len (l : Lck) (b : Int) : (fillParts l b).length ≤ 2 ∧ (letParts l b).length ≤ 2 := by
  unfold fillParts letParts realParts
  cases l.kd <;> dsimp only
  · exact ⟨by show 1 ≤ 2; decide, by show 1 ≤ 2; decide⟩
  · exact ⟨List.length_filter_le _ _, List.length_filter_le _ _⟩
  · exact ⟨List.length_filter_le _ _, by show 1 ≤ 2; decide⟩
def lkC (k : Kd) : Str := match k with
  | .plain => "PlainLock"
  | .basin _ => "BasinLock"
  | .pump _ => "PumpLock"
section
variable {sc : Scope} {N : List (Str × Bool)} {G : List Str} {lv : Nat} {own : List Nat} {Γ : Gm pg sc N G lv own} {ρ : List Sl} {e e1 : Expr} {es : List Expr} {pos apos p : Pos} {d : D} {ds : List D} {l : Lck} {n : Int}
end
theorem s73_1 : Sc [("self", true), ("basin", true)] ["self", "basin"] [] (defScope (mth 73 1)) := sc_by (by decide +kernel)
theorem m_fill0 : Mt pg 2 false (ca pg "PlainLock") "fill_parts" [] (Ct (fun a : Lck × Int => a.1.kd = .plain) (fun a => [.sh (eLck pg a.1), .sh (.int a.2)]) fun a => .ow (.lst ((fillParts a.1 a.2).map ePart))) := by
  refine mt_ct 73 1 33 rfl 19 "name" rfl s73_1 (fun _ => rfl) (fun _ _ _ _ _ _ us hl => match us, hl with | [_, _], _ => rfl) ?_
  rintro Γ ⟨⟨kd, nm, hi, lo, rm⟩, b⟩ h
  dsimp only at h ⊢
  subst h
  exact xss_one (xs_retO (lsO (XB.sh (tup (XB.sh (xe_str) (XB.sh (xe_fld (xv 0 rfl) (fld 22) rfl) XB.nil))) XB.nil)) rfl)
theorem s73_2 : Sc [("self", true), ("basin", true)] ["self", "basin"] [] (defScope (mth 73 2)) := sc_by (by decide +kernel)
theorem m_let0 : Mt pg 2 false (ca pg "PlainLock") "let_parts" [] (Ct (fun a : Lck × Int => a.1.kd = .plain) (fun a => [.sh (eLck pg a.1), .sh (.int a.2)]) fun a => .ow (.lst ((letParts a.1 a.2).map ePart))) := by
  refine mt_ct 73 2 34 rfl 19 "name" rfl s73_2 (fun _ => rfl) (fun _ _ _ _ _ _ us hl => match us, hl with | [_, _], _ => rfl) ?_
  rintro Γ ⟨⟨kd, nm, hi, lo, rm⟩, b⟩ h
  dsimp only at h ⊢
  subst h
  exact xss_one (xs_retO (lsO (XB.sh (tup (XB.sh (xe_str) (XB.sh (xe_fld (xv 0 rfl) (fld 22) rfl) XB.nil))) XB.nil)) rfl)
/-- the pump lock's let_parts is the plain one's -/
theorem m_let2 : Mt pg 2 false (ca pg "PumpLock") "let_parts" [] (Ct (fun a : Lck × Int => ∃ s, a.1.kd = .pump s) (fun a => [.sh (eLck pg a.1), .sh (.int a.2)]) fun a => .ow (.lst ((letParts a.1 a.2).map ePart))) := by
  refine mt_ct 73 2 44 rfl 32 "lift" rfl s73_2 (fun _ => rfl) (fun _ _ _ _ _ _ us hl => match us, hl with | [_, _], _ => rfl) ?_
  rintro Γ ⟨⟨kd, nm, hi, lo, rm⟩, b⟩ ⟨s, h⟩
  dsimp only at h ⊢
  subst h
  exact xss_one (xs_retO (lsO (XB.sh (tup (XB.sh (xe_str) (XB.sh (xe_fld (xv 0 rfl) (fld 31) rfl) XB.nil))) XB.nil)) rfl)
theorem s74_1 : Sc [("self", true), ("basin", true)] ["self", "basin"] ["real_parts"] (defScope (mth 74 1)) := sc_by (by decide +kernel)
theorem m_fill1 : Mt pg 2 false (ca pg "BasinLock") "fill_parts" [] (Ct (fun a : Lck × Int => ∃ s, a.1.kd = .basin s) (fun a => [.sh (eLck pg a.1), .sh (.int a.2)]) fun a => .ow (.lst ((fillParts a.1 a.2).map ePart))) := by
  refine mt_ct 74 1 38 rfl 23 "name" rfl s74_1 (fun _ => rfl) (fun _ _ _ _ _ _ us hl => match us, hl with | [_, _], _ => rfl) ?_
  rintro Γ ⟨⟨kd, nm, hi, lo, rm⟩, b⟩ ⟨s, h⟩
  dsimp only at h ⊢
  subst h
  exact xss_one (xs_retO (xo_call f_real (XA.sh (ls (XB.sh (tup (XB.sh (xe_str) (XB.sh ((xv 1 rfl)) XB.nil))) (XB.sh (tup (XB.sh (xe_str) (XB.sh (xe_op (xe_fld (xv 0 rfl) (fld 26) rfl) (xv 1 rfl) o_sub) XB.nil))) XB.nil))) XA.nil) 0 ⟨[(.basin, b), (.high, rm - b)], by exact Nat.le_of_ble_eq_true rfl, rfl, rfl⟩) rfl)
theorem s74_2 : Sc [("self", true), ("basin", true), ("free", true)] ["self", "basin"] ["min", "real_parts"] (defScope (mth 74 2)) := sc_by (by decide +kernel)
theorem m_let1 : Mt pg 2 false (ca pg "BasinLock") "let_parts" [] (Ct (fun a : Lck × Int => ∃ s, a.1.kd = .basin s) (fun a => [.sh (eLck pg a.1), .sh (.int a.2)]) fun a => .ow (.lst ((letParts a.1 a.2).map ePart))) := by
  refine mt_ct 74 2 39 rfl 23 "name" rfl s74_2 (fun _ => rfl) (fun _ _ _ _ _ _ us hl => match us, hl with | [_, _], _ => rfl) ?_
  rintro Γ ⟨⟨kd, nm, hi, lo, rm⟩, b⟩ ⟨s, h⟩
  dsimp only at h ⊢
  subst h
  refine xss_cons (xs_set 2 (xe_min (xe_op (xe_fld (xv 0 rfl) (fld 27) rfl) (xv 1 rfl) o_sub) (xe_fld (xv 0 rfl) (fld 26) rfl) 0) ?_)
  exact xss_one (xs_retO (xo_call f_real (XA.sh (ls (XB.sh (tup (XB.sh (xe_str) (XB.sh ((xv 2 rfl)) XB.nil))) (XB.sh (tup (XB.sh (xe_str) (XB.sh (xe_op (xe_fld (xv 0 rfl) (fld 26) rfl) (xv 2 rfl) o_sub) XB.nil))) XB.nil))) XA.nil) 1 ⟨[(.basin, min (s - b) rm), (.low, rm - min (s - b) rm)], by exact Nat.le_of_ble_eq_true rfl, rfl, rfl⟩) rfl)
theorem s75_1 : Sc [("self", true), ("basin", true)] ["self", "basin"] ["real_parts"] (defScope (mth 75 1)) := sc_by (by decide +kernel)
theorem m_fill2 : Mt pg 2 false (ca pg "PumpLock") "fill_parts" [] (Ct (fun a : Lck × Int => ∃ s, a.1.kd = .pump s) (fun a => [.sh (eLck pg a.1), .sh (.int a.2)]) fun a => .ow (.lst ((fillParts a.1 a.2).map ePart))) := by
  refine mt_ct 75 1 43 rfl 28 "name" rfl s75_1 (fun _ => rfl) (fun _ _ _ _ _ _ us hl => match us, hl with | [_, _], _ => rfl) ?_
  rintro Γ ⟨⟨kd, nm, hi, lo, rm⟩, b⟩ ⟨s, h⟩
  dsimp only at h ⊢
  subst h
  exact xss_one (xs_retO (xo_call f_real (XA.sh (ls (XB.sh (tup (XB.sh (xe_str) (XB.sh (xe_fld (xv 0 rfl) (fld 32) rfl) XB.nil))) (XB.sh (tup (XB.sh (xe_str) (XB.sh (xe_op (xe_fld (xv 0 rfl) (fld 31) rfl) (xe_fld (xv 0 rfl) (fld 32) rfl) o_sub) XB.nil))) XB.nil))) XA.nil) 0 ⟨[(.low, s), (.high, rm - s)], by exact Nat.le_of_ble_eq_true rfl, rfl, rfl⟩) rfl)
def kindS : Kd → Str
  | .plain => "plain"
  | .basin _ => "basin"
  | .pump _ => "pump"
def extra : Kd → Int
  | .plain => 0
  | .basin s => s
  | .pump s => s
theorem s73_3 : Sc [("self", true)] ["self"] [] (defScope (mth 73 3)) := sc_by (by decide +kernel)
theorem m_kind0 : Mt pg 1 false (ca pg "PlainLock") "kind" [] (Ct (fun a : Lck => a.kd = .plain) (fun a => [.sh (eLck pg a)]) fun a => .sh (.str (kindS a.kd))) := by
  refine mt_ct 73 3 35 rfl 19 "name" rfl s73_3 (fun _ => rfl) (fun _ _ _ _ _ _ us hl => match us, hl with | [_], _ => rfl) ?_
  rintro Γ ⟨kd, nm, hi, lo, rm⟩ h
  dsimp only at h ⊢
  subst h
  exact xss_one (xs_ret xe_str rfl)
theorem s74_3 : Sc [("self", true)] ["self"] [] (defScope (mth 74 3)) := sc_by (by decide +kernel)
theorem m_kind1 : Mt pg 1 false (ca pg "BasinLock") "kind" [] (Ct (fun a : Lck => ∃ s, a.kd = .basin s) (fun a => [.sh (eLck pg a)]) fun a => .sh (.str (kindS a.kd))) := by
  refine mt_ct 74 3 40 rfl 23 "name" rfl s74_3 (fun _ => rfl) (fun _ _ _ _ _ _ us hl => match us, hl with | [_], _ => rfl) ?_
  rintro Γ ⟨kd, nm, hi, lo, rm⟩ ⟨s, h⟩
  dsimp only at h ⊢
  subst h
  exact xss_one (xs_ret xe_str rfl)
theorem s75_2 : Sc [("self", true)] ["self"] [] (defScope (mth 75 2)) := sc_by (by decide +kernel)
theorem m_kind2 : Mt pg 1 false (ca pg "PumpLock") "kind" [] (Ct (fun a : Lck => ∃ s, a.kd = .pump s) (fun a => [.sh (eLck pg a)]) fun a => .sh (.str (kindS a.kd))) := by
  refine mt_ct 75 2 45 rfl 28 "name" rfl s75_2 (fun _ => rfl) (fun _ _ _ _ _ _ us hl => match us, hl with | [_], _ => rfl) ?_
  rintro Γ ⟨kd, nm, hi, lo, rm⟩ ⟨s, h⟩
  dsimp only at h ⊢
  subst h
  exact xss_one (xs_ret xe_str rfl)
theorem s73_4 : Sc [("self", true)] ["self"] [] (defScope (mth 73 4)) := sc_by (by decide +kernel)
theorem m_extra0 : Mt pg 1 false (ca pg "PlainLock") "extra" [] (Ct (fun a : Lck => a.kd = .plain) (fun a => [.sh (eLck pg a)]) fun a => .sh (.int (extra a.kd))) := by
  refine mt_ct 73 4 36 rfl 19 "name" rfl s73_4 (fun _ => rfl) (fun _ _ _ _ _ _ us hl => match us, hl with | [_], _ => rfl) ?_
  rintro Γ ⟨kd, nm, hi, lo, rm⟩ h
  dsimp only at h ⊢
  subst h
  exact xss_one (xs_ret xe_int rfl)
theorem s74_4 : Sc [("self", true)] ["self"] [] (defScope (mth 74 4)) := sc_by (by decide +kernel)
theorem m_extra1 : Mt pg 1 false (ca pg "BasinLock") "extra" [] (Ct (fun a : Lck => ∃ s, a.kd = .basin s) (fun a => [.sh (eLck pg a)]) fun a => .sh (.int (extra a.kd))) := by
  refine mt_ct 74 4 41 rfl 23 "name" rfl s74_4 (fun _ => rfl) (fun _ _ _ _ _ _ us hl => match us, hl with | [_], _ => rfl) ?_
  rintro Γ ⟨kd, nm, hi, lo, rm⟩ ⟨s, h⟩
  dsimp only at h ⊢
  subst h
  exact xss_one (xs_ret (xe_fld (xv 0 rfl) (fld 27) rfl) rfl)
theorem s75_3 : Sc [("self", true)] ["self"] [] (defScope (mth 75 3)) := sc_by (by decide +kernel)
theorem m_extra2 : Mt pg 1 false (ca pg "PumpLock") "extra" [] (Ct (fun a : Lck => ∃ s, a.kd = .pump s) (fun a => [.sh (eLck pg a)]) fun a => .sh (.int (extra a.kd))) := by
  refine mt_ct 75 3 46 rfl 28 "name" rfl s75_3 (fun _ => rfl) (fun _ _ _ _ _ _ us hl => match us, hl with | [_], _ => rfl) ?_
  rintro Γ ⟨kd, nm, hi, lo, rm⟩ ⟨s, h⟩
  dsimp only at h ⊢
  subst h
  exact xss_one (xs_ret (xe_fld (xv 0 rfl) (fld 32) rfl) rfl)
/-! whichever lock it is -/
section
variable {sc : Scope} {N : List (Str × Bool)} {G : List Str} {lv : Nat} {own : List Nat} {Γ : Gm pg sc N G lv own} {ρ : List Sl} {e e1 : Expr} {es : List Expr} {pos apos p : Pos} {d : D} {ds : List D} {l : Lck} {n : Int}
theorem c_fill (h : XE Γ e ρ (eLck pg l)) (ha : XE Γ e1 ρ (.int n)) (hr : 2 ≤ lv := by decide) (hst : ∀ env, starEach [e1] env = [(false, eval e1 env)] := by intro _; rfl) {pl : Sem Bool}
    (ht : eval (.Call (.Attribute e "fill_parts" apos) [e1] [] pos) Γ.X.env = (do
      let ov ← eval e Γ.X.env
      standAt apos.atName
      let (f, first) ← holding [ov] (getMethod ov "fill_parts" pl)
      callWith pos f first (backTo pos (starEach [e1] Γ.X.env)) (backToKw pos (keywordEach [] Γ.X.env))) := by rfl) : XO Γ (.Call (.Attribute e "fill_parts" apos) [e1] [] pos) ρ (.lst ((fillParts l n).map ePart)) := by
  obtain ⟨kd, nm, hi, lo, rm⟩ := l
  cases kd with
  | plain => exact xo_meth m_fill0 h.rcv (.inl ⟨_, rfl, rfl⟩) (.sh ha .nil hst) ⟨(⟨.plain, nm, hi, lo, rm⟩, n), rfl, rfl, rfl⟩ hr hst (fun _ => rfl) ht
  | basin s => exact xo_meth m_fill1 h.rcv (.inl ⟨_, rfl, rfl⟩) (.sh ha .nil hst) ⟨(⟨.basin s, nm, hi, lo, rm⟩, n), ⟨s, rfl⟩, rfl, rfl⟩ hr hst (fun _ => rfl) ht
  | pump s => exact xo_meth m_fill2 h.rcv (.inl ⟨_, rfl, rfl⟩) (.sh ha .nil hst) ⟨(⟨.pump s, nm, hi, lo, rm⟩, n), ⟨s, rfl⟩, rfl, rfl⟩ hr hst (fun _ => rfl) ht
theorem c_let (h : XE Γ e ρ (eLck pg l)) (ha : XE Γ e1 ρ (.int n)) (hr : 2 ≤ lv := by decide) (hst : ∀ env, starEach [e1] env = [(false, eval e1 env)] := by intro _; rfl) {pl : Sem Bool}
    (ht : eval (.Call (.Attribute e "let_parts" apos) [e1] [] pos) Γ.X.env = (do
      let ov ← eval e Γ.X.env
      standAt apos.atName
      let (f, first) ← holding [ov] (getMethod ov "let_parts" pl)
      callWith pos f first (backTo pos (starEach [e1] Γ.X.env)) (backToKw pos (keywordEach [] Γ.X.env))) := by rfl) : XO Γ (.Call (.Attribute e "let_parts" apos) [e1] [] pos) ρ (.lst ((letParts l n).map ePart)) := by
  obtain ⟨kd, nm, hi, lo, rm⟩ := l
  cases kd with
  | plain => exact xo_meth m_let0 h.rcv (.inl ⟨_, rfl, rfl⟩) (.sh ha .nil hst) ⟨(⟨.plain, nm, hi, lo, rm⟩, n), rfl, rfl, rfl⟩ hr hst (fun _ => rfl) ht
  | basin s => exact xo_meth m_let1 h.rcv (.inl ⟨_, rfl, rfl⟩) (.sh ha .nil hst) ⟨(⟨.basin s, nm, hi, lo, rm⟩, n), ⟨s, rfl⟩, rfl, rfl⟩ hr hst (fun _ => rfl) ht
  | pump s => exact xo_meth m_let2 h.rcv (.inl ⟨_, rfl, rfl⟩) (.sh ha .nil hst) ⟨(⟨.pump s, nm, hi, lo, rm⟩, n), ⟨s, rfl⟩, rfl, rfl⟩ hr hst (fun _ => rfl) ht
theorem c_kind (h : XE Γ e ρ (eLck pg l)) (hr : 1 ≤ lv := by decide) {pl : Sem Bool}
    (ht : eval (.Call (.Attribute e "kind" apos) [] [] pos) Γ.X.env = (do
      let ov ← eval e Γ.X.env
      standAt apos.atName
      let (f, first) ← holding [ov] (getMethod ov "kind" pl)
      callWith pos f first (backTo pos (starEach [] Γ.X.env)) (backToKw pos (keywordEach [] Γ.X.env))) := by rfl) : XE Γ (.Call (.Attribute e "kind" apos) [] [] pos) ρ (.str (kindS l.kd)) := by
  obtain ⟨kd, nm, hi, lo, rm⟩ := l
  cases kd with
  | plain => exact xe_meth0 m_kind0 h.rcv (.inl ⟨_, rfl, rfl⟩) ⟨⟨.plain, nm, hi, lo, rm⟩, rfl, rfl, rfl⟩ hr ht
  | basin s => exact xe_meth0 m_kind1 h.rcv (.inl ⟨_, rfl, rfl⟩) ⟨⟨.basin s, nm, hi, lo, rm⟩, ⟨s, rfl⟩, rfl, rfl⟩ hr ht
  | pump s => exact xe_meth0 m_kind2 h.rcv (.inl ⟨_, rfl, rfl⟩) ⟨⟨.pump s, nm, hi, lo, rm⟩, ⟨s, rfl⟩, rfl, rfl⟩ hr ht
theorem c_extra (h : XE Γ e ρ (eLck pg l)) (hr : 1 ≤ lv := by decide) {pl : Sem Bool}
    (ht : eval (.Call (.Attribute e "extra" apos) [] [] pos) Γ.X.env = (do
      let ov ← eval e Γ.X.env
      standAt apos.atName
      let (f, first) ← holding [ov] (getMethod ov "extra" pl)
      callWith pos f first (backTo pos (starEach [] Γ.X.env)) (backToKw pos (keywordEach [] Γ.X.env))) := by rfl) : XE Γ (.Call (.Attribute e "extra" apos) [] [] pos) ρ (.int (extra l.kd)) := by
  obtain ⟨kd, nm, hi, lo, rm⟩ := l
  cases kd with
  | plain => exact xe_meth0 m_extra0 h.rcv (.inl ⟨_, rfl, rfl⟩) ⟨⟨.plain, nm, hi, lo, rm⟩, rfl, rfl, rfl⟩ hr ht
  | basin s => exact xe_meth0 m_extra1 h.rcv (.inl ⟨_, rfl, rfl⟩) ⟨⟨.basin s, nm, hi, lo, rm⟩, ⟨s, rfl⟩, rfl, rfl⟩ hr ht
  | pump s => exact xe_meth0 m_extra2 h.rcv (.inl ⟨_, rfl, rfl⟩) ⟨⟨.pump s, nm, hi, lo, rm⟩, ⟨s, rfl⟩, rfl, rfl⟩ hr ht
end
end Lk
set_option maxHeartbeats 400000
namespace Lk
open PySem PySem.Spec PyProof.Rows L2
variable {pg : Pg} [Lib pg]
/-! ### passing a lock -/
theorem s23 : Sc [("lock", true), ("basin", true), ("part", false)] ["lock", "basin"] [] (defScope (top 23)) := sc_by (by decide +kernel)
theorem f_filling : Fn pg 3 false "filling" [] (Ct (fun a : Lck × Int => True) (fun a => [.sh (eLck pg a.1), .sh (.int a.2)]) fun a => .ow (.lst ((filling a.1 a.2).map eTri))) := by
  refine fn_ct 23 7 rfl s23 (fun _ => rfl) (fun _ _ _ _ _ _ us hl => match us, hl with | [_, _], _ => rfl) ?_
  rintro Γ ⟨l, b⟩ -
  dsimp only
  refine xss_one (xs_retO (lc_m (zs := fillParts l b) (f := ePart) (g := fun p => eTri (p.1, .chamber, p.2)) 2 [("lock", false), ("basin", false), ("part", true)] [] (by decide +kernel) (XL.it (XO.l (c_fill (xv 0 rfl) (xv 1 rfl)))) (by have := (parts_len l b).1; omega) (fun _ _ z _ => tup (XB.sh (xe_ixt (xv 2 rfl)) (XB.sh (xe_str) (XB.sh (xe_ixt (xv 2 rfl)) XB.nil))))).xo ?_)
  show _ = Rz.ow _
  unfold filling
  rw [List.map_map]
  rfl
theorem s24 : Sc [("lock", true), ("basin", true), ("part", false)] ["lock", "basin"] [] (defScope (top 24)) := sc_by (by decide +kernel)
theorem f_letting : Fn pg 3 false "letting" [] (Ct (fun a : Lck × Int => True) (fun a => [.sh (eLck pg a.1), .sh (.int a.2)]) fun a => .ow (.lst ((letting a.1 a.2).map eTri))) := by
  refine fn_ct 24 8 rfl s24 (fun _ => rfl) (fun _ _ _ _ _ _ us hl => match us, hl with | [_, _], _ => rfl) ?_
  rintro Γ ⟨l, b⟩ -
  dsimp only
  refine xss_one (xs_retO (lc_m (zs := letParts l b) (f := ePart) (g := fun p => eTri (.chamber, p.1, p.2)) 2 [("lock", false), ("basin", false), ("part", true)] [] (by decide +kernel) (XL.it (XO.l (c_let (xv 0 rfl) (xv 1 rfl)))) (by have := (parts_len l b).2; omega) (fun _ _ z _ => tup (XB.sh (xe_str) (XB.sh (xe_ixt (xv 2 rfl)) (XB.sh (xe_ixt (xv 2 rfl)) XB.nil))))).xo ?_)
  show _ = Rz.ow _
  unfold letting
  rw [List.map_map]
  rfl
theorem sd_eq (a b : Sd) : decide (sdS a = sdS b) = decide (a = b) := by
  cases a <;> cases b <;> decide
theorem held_take {ts : List Tri} {k : Nat} {b : Int} (e : k < ts.length) : heldBehind b (ts.take (k + 1)) = held1 (heldBehind b (ts.take k)) ts[k]! := by
  unfold heldBehind
  rw [List.take_succ, List.getElem?_eq_getElem e, getElem!_pos ts k e, List.foldl_append]
  rfl
theorem s25 : Sc [("basin", true), ("pours", true), ("pour", true)] ["basin", "pours"] [] (defScope (top 25)) := sc_by (by decide +kernel)
theorem f_held : Fn pg 1 false "held_behind" [] (Ct (fun a : Int × List Tri => True) (fun a => [.sh (.int a.1), .sh (.lst (a.2.map eTri))]) fun a => .sh (.int (heldBehind a.1 a.2))) := by
  refine fn_ct 25 9 rfl s25 (fun _ => rfl) (fun _ _ _ _ _ _ us hl => match us, hl with | [_, _], _ => rfl) ?_
  rintro Γ ⟨b, ts⟩ -
  dsimp only
  refine xss_mid (fun ρ => ∃ s2, ρ = [.sh (.int (heldBehind b ts)), .sh (.lst (ts.map eTri)), s2])
    (xs_forL 2 (fun k ρ => ∃ s2, ρ = [.sh (.int (heldBehind b (ts.take k))), .sh (.lst (ts.map eTri)), s2]) (xv 1 rfl) ⟨_, rfl⟩ ?_ ?_) ?_
  · rintro k _ ρ hx ⟨s2, rfl⟩
    obtain ⟨hk, rfl⟩ := map_at hx
    generalize hb : heldBehind b (ts.take k) = h
    refine xss_mid (fun ρ => ρ = [.sh (.int (if (ts[k]!).1 = .basin then h - (ts[k]!).2.2 else h)), .sh (.lst (ts.map eTri)), .sh (eTri ts[k]!)])
      (xs_if ((xt_cmp (xe_ixt (xv 2 rfl)) xe_str o_eqS).to (sd_eq _ .basin)) (fun q => xss_one (xs_augSub 0 rfl (xe_ixt (xv 2 rfl)) ?_)) (fun q => xss_nil ?_)) ?_
    · rw [if_pos (of_decide_eq_true q)]
      rfl
    · rw [if_neg (of_decide_eq_false q)]
      rfl
    · rintro _ rfl
      refine xss_one (xs_if ((xt_cmp (xe_ixt (xv 2 rfl)) xe_str o_eqS).to (sd_eq _ .basin)) (fun q => xss_one (xs_augAdd 0 rfl (xe_ixt (xv 2 rfl)) ?_)) (fun q => xss_nil ?_))
      · show ∃ s2, _
        rw [held_take hk, hb]
        unfold held1
        dsimp only
        rw [if_pos (of_decide_eq_true q)]
        exact ⟨_, rfl⟩
      · show ∃ s2, _
        rw [held_take hk, hb]
        unfold held1
        dsimp only
        rw [if_neg (of_decide_eq_false q)]
        exact ⟨_, rfl⟩
  · rintro ρ ⟨s2, rfl⟩
    exact ⟨_, by rw [take_all (by simp)]⟩
  · rintro ρ ⟨s2, rfl⟩
    exact xss_one (xs_ret (xv 0 rfl) rfl)
theorem dir_eq (b : Bool) : decide (dirS b = "up") = b := by
  cases b <;> decide
theorem dir_eqD (b : Bool) : decide (dirS b = "down") = !b := by
  cases b <;> decide
theorem filling_len (l : Lck) (b : Int) : (filling l b).length ≤ 2 := by unfold filling; rw [List.length_map]; exact (parts_len l b).1
theorem letting_len (l : Lck) (b : Int) : (letting l b).length ≤ 2 := by unfold letting; rw [List.length_map]; exact (parts_len l b).2
theorem s26 : Sc [("lock", true), ("full", true), ("basin", true), ("way", true), ("pours", true)] ["lock", "full", "basin", "way"] ["letting", "filling", "held_behind"] (defScope (top 26)) := sc_by (by decide +kernel)
theorem f_passage : Fn pg 4 false "passage" [] (Ct (fun a : Lck × Bool × Int × Bool => True) (fun a => [.sh (eLck pg a.1), .sh (.bl a.2.1), .sh (.int a.2.2.1), .sh (.str (dirS a.2.2.2))]) fun a => .ow (.lst ((passage a.1 a.2.1 a.2.2.1 a.2.2.2).map eTri))) := by
  refine fn_ct 26 10 rfl s26 (fun _ => rfl) (fun _ _ _ _ _ _ us hl => match us, hl with | [_, _, _, _], _ => rfl) ?_
  rintro Γ ⟨l, full, b, up⟩ -
  dsimp only
  refine xss_cons (xs_set 4 (ls XB.nil) ?_)
  refine xss_cons (xs_if ((xt_cmp (xv 3 rfl) xe_str o_eqS).to (dir_eq up)) (fun q => ?_) (fun q => xss_nil ?_))
  · subst q
    refine xss_mid (fun ρ => ρ = [.sh (eLck pg l), .sh (.bl full), .sh (.int b), .sh (.str (dirS true)), .sh (.lst ((if full then letting l b else []).map eTri))])
      (xs_if (xt_val (xv 1 rfl)) (fun q => xss_one (xs_set 4 (XO.lst (xo_call f_letting (XA.sh ((xv 0 rfl)) (XA.sh ((xv 2 rfl)) XA.nil)) 0 ⟨(l, b), trivial, rfl, rfl⟩)) ?_)) (fun q => xss_nil ?_)) ?_
    · rw [if_pos q]
      rfl
    · rw [q]
      rfl
    · rintro _ rfl
      refine xss_one (xs_retO (xo_cat (XE.l (xv 4 rfl)) (XO.l (xo_call f_filling (XA.sh ((xv 0 rfl)) (XA.sh (xe_call f_held (XA.sh ((xv 2 rfl)) (XA.sh ((xv 4 rfl)) XA.nil)) 2 ⟨(b, if full then letting l b else []), trivial, rfl, rfl⟩) XA.nil)) 1 ⟨(l, heldBehind b (if full then letting l b else [])), trivial, rfl, rfl⟩)) ?_) ?_)
      · have h1 := filling_len l (heldBehind b (if full then letting l b else []))
        have h2 : (if full then letting l b else []).length ≤ 2 := by
          split
          · exact letting_len l b
          · exact Nat.zero_le _
        rw [List.length_map, List.length_map]
        dsimp only
        omega
      · show Rz.ow _ = Rz.ow _
        unfold passage
        rw [if_pos rfl]
        dsimp only
        rw [List.map_append]
  · subst q
    refine xss_mid (fun ρ => ρ = [.sh (eLck pg l), .sh (.bl full), .sh (.int b), .sh (.str (dirS false)), .sh (.lst ((if full then [] else filling l b).map eTri))])
      (xs_if (xt_not (xt_val (xv 1 rfl))) (fun q => xss_one (xs_set 4 (XO.lst (xo_call f_filling (XA.sh ((xv 0 rfl)) (XA.sh ((xv 2 rfl)) XA.nil)) 1 ⟨(l, b), trivial, rfl, rfl⟩)) ?_)) (fun q => xss_nil ?_)) ?_
    · cases full
      · rfl
      · cases q
    · cases full
      · cases q
      · rfl
    · rintro _ rfl
      refine xss_one (xs_retO (xo_cat (XE.l (xv 4 rfl)) (XO.l (xo_call f_letting (XA.sh ((xv 0 rfl)) (XA.sh (xe_call f_held (XA.sh ((xv 2 rfl)) (XA.sh ((xv 4 rfl)) XA.nil)) 2 ⟨(b, if full then [] else filling l b), trivial, rfl, rfl⟩) XA.nil)) 0 ⟨(l, heldBehind b (if full then [] else filling l b)), trivial, rfl, rfl⟩)) ?_) ?_)
      · have h1 := letting_len l (heldBehind b (if full then [] else filling l b))
        have h2 : (if full then [] else filling l b).length ≤ 2 := by
          split
          · exact Nat.zero_le _
          · exact filling_len l b
        rw [List.length_map, List.length_map]
        dsimp only
        omega
      · show Rz.ow _ = Rz.ow _
        unfold passage
        rw [if_neg Bool.false_ne_true]
        dsimp only
        rw [List.map_append]
theorem s22 : Sc [("full", true), ("way", true), ("words", true)] ["full", "way"] [] (defScope (top 22)) := sc_by (by decide +kernel)
theorem f_passing : Fn pg 1 false "passing" [] (Ct (fun a : Bool × Bool => True) (fun a => [.sh (.bl a.1), .sh (.str (dirS a.2))]) fun a => .ow (.lst ((passing a.1 a.2).map D.str))) := by
  refine fn_ct 22 6 rfl s22 (fun _ => rfl) (fun _ _ _ _ _ _ us hl => match us, hl with | [_, _], _ => rfl) ?_
  rintro Γ ⟨full, up⟩ -
  dsimp only
  refine xss_cons (xs_setO 2 (lsO XB.nil) ?_)
  refine xss_cons (xs_if ((xt_cmp (xv 1 rfl) xe_str o_eqS).to (dir_eq up)) (fun q => ?_) (fun q => xss_nil ?_))
  · subst q
    refine xss_mid (fun ρ => ρ = [.sh (.bl full), .sh (.str (dirS true)), .ow (.lst ((if full then [("let" : Str)] else []).map D.str))])
      (xs_if (xt_val (xv 0 rfl)) (fun q => xss_one (xs_append 2 rfl xe_str ?_ (by decide))) (fun q => xss_nil ?_)) ?_
    · rw [if_pos q]
      rfl
    · rw [q]
      rfl
    · rintro _ rfl
      refine xss_one (xs_retO (xo_cat (XP.l (xpv 2 (.inl rfl))) (XO.l (lsO (XB.sh (xe_str) (XB.sh (xe_str) (XB.sh (xe_str) (XB.sh (xe_str) (XB.sh (xe_str) (XB.sh (xe_str) (XB.sh (xe_str) XB.nil))))))))) ?_) ?_)
      · cases full <;> decide
      · cases full <;> rfl
  · subst q
    refine xss_mid (fun ρ => ρ = [.sh (.bl full), .sh (.str (dirS false)), .ow (.lst ((if full then [] else [("fill" : Str)]).map D.str))])
      (xs_if (xt_not (xt_val (xv 0 rfl))) (fun q => xss_one (xs_append 2 rfl xe_str ?_ (by decide))) (fun q => xss_nil ?_)) ?_
    · cases full
      · rfl
      · cases q
    · cases full
      · cases q
      · rfl
    · rintro _ rfl
      refine xss_one (xs_retO (xo_cat (XP.l (xpv 2 (.inl rfl))) (XO.l (lsO (XB.sh (xe_str) (XB.sh (xe_str) (XB.sh (xe_str) (XB.sh (xe_str) (XB.sh (xe_str) (XB.sh (xe_str) (XB.sh (xe_str) XB.nil))))))))) ?_) ?_)
      · cases full <;> decide
      · cases full <;> rfl
/-! ### where boats lie -/
theorem s16 : Sc [("canal", true), ("way", true), ("place", true), ("step", true)] ["canal", "way", "place"] ["len"] (defScope (top 16)) := sc_by (by decide +kernel)
theorem f_reach_of : Fn pg 1 false "reach_of" [] (Ct (fun a : Cnl × Wy × Nat => ∀ s ∈ a.2.1.2, s.1 < a.1.nl) (fun a => [.sh (eCnl pg a.1), .sh (eWy a.2.1), .sh (eN a.2.2)]) fun a => .sh (.int (reachOf a.1 a.2.1 a.2.2))) := by
  refine fn_ct 16 2 rfl s16 (fun _ => rfl) (fun _ _ _ _ _ _ us hl => match us, hl with | [_, _, _], _ => rfl) ?_
  rintro Γ ⟨c, w, p⟩ h
  dsimp only at h ⊢
  refine xss_cons (xs_if (xt_cmp (xv 2 rfl) (xe_lenT (xe_ixt (xv 1 rfl)) 0) o_ge) (fun q => xss_one (xs_ret (xe_neg xe_int) ?_)) (fun q => xss_nil ?_))
  · have q := of_decide_eq_true q
    rw [List.length_map] at q
    show Rz.sh _ = Rz.sh _
    unfold reachOf
    rw [if_pos (by omega)]
  · have q := of_decide_eq_false q
    rw [List.length_map] at q
    have hp : p < w.2.length := by omega
    have hl : (w.2[p]!).1 < c.locks.length := h _ (mem_get hp)
    refine xss_cons (xs_set 3 (xe_ixT (xe_ixt (xv 1 rfl)) (xv 2 rfl) rfl (at_map (f := eStep) hp)) ?_)
    refine xss_cons (xs_if ((xt_cmp (xe_ixt (xv 3 rfl)) xe_str o_eqS).to (dir_eq _)) (fun q => xss_one (xs_ret (f_low (xe_ixL (f_locks (xv 0 rfl)) (xe_ixt (xv 3 rfl)) rfl (at_map hl))) ?_)) (fun q => xss_nil ?_))
    · show Rz.sh _ = Rz.sh _
      unfold reachOf
      rw [if_neg (by omega), if_pos q]
    · refine xss_one (xs_ret (f_high (xe_ixL (f_locks (xv 0 rfl)) (xe_ixt (xv 3 rfl)) rfl (at_map hl))) ?_)
      show Rz.sh _ = Rz.sh _
      unfold reachOf
      rw [if_neg (by omega), if_neg (by rw [q]; exact Bool.false_ne_true)]
/-- what the program's state keeps -/
structure SW (c : Cnl) (ws : List Wy) (st : Sta) : Prop where
  wl : ws.length ≤ 10
  pl : st.2.2.length = ws.length
  wa : st.2.1.length = c.many
  wy : ∀ w ∈ ws, ∀ s ∈ w.2, s.1 < c.nl
  w2 : ∀ w ∈ ws, w.2.length ≤ 1000
def lyingK (c : Cnl) (ws : List Wy) (st : Sta) (r : Int) (k : Nat) : Nat := ((List.range k).filter fun k => reachOf c ws[k]! st.2.2[k]! == r).length
theorem lyingK_succ (c : Cnl) (ws : List Wy) (st : Sta) (r : Int) (k : Nat) : lyingK c ws st r (k + 1) = lyingK c ws st r k + if reachOf c ws[k]! st.2.2[k]! = r then 1 else 0 := by
  unfold lyingK
  rw [List.range_succ, List.filter_append, List.length_append]
  congr 1
  by_cases q : reachOf c ws[k]! st.2.2[k]! = r
  · rw [if_pos q, List.filter_cons, if_pos (beq_iff_eq.mpr q)]
    rfl
  · rw [if_neg q, List.filter_cons, if_neg (fun z => q (beq_iff_eq.mp z))]
    rfl
theorem s17 : Sc [("canal", true), ("ways", true), ("state", true), ("reach", true), ("here", true), ("k", true)] ["canal", "ways", "state", "reach"] ["range", "len", "reach_of"] (defScope (top 17)) := sc_by (by decide +kernel)
theorem f_lying : Fn pg 2 false "lying" [] (Ct (fun a : Cnl × List Wy × Sta × Int => SW a.1 a.2.1 a.2.2.1) (fun a => [.sh (eCnl pg a.1), .sh (.lst (a.2.1.map eWy)), .sh (eSta a.2.2.1), .sh (.int a.2.2.2)]) fun a => .sh (.int (lying a.1 a.2.1 a.2.2.1 a.2.2.2))) := by
  refine fn_ct 17 3 rfl s17 (fun _ => rfl) (fun _ _ _ _ _ _ us hl => match us, hl with | [_, _, _, _], _ => rfl) ?_
  rintro Γ ⟨c, ws, st, r⟩ W
  dsimp only at W ⊢
  have hwl := W.wl
  refine xss_cons (xs_set 4 xe_int ?_)
  refine xss_mid (fun ρ => ∃ s5, ρ = [.sh (eCnl pg c), .sh (.lst (ws.map eWy)), .sh (eSta st), .sh (.int r), .sh (.int (lying c ws st r)), s5])
    (xs_forR (n := ((ws.map eWy).length : Nat)) 5 (fun k ρ => ∃ s5, ρ = [.sh (eCnl pg c), .sh (.lst (ws.map eWy)), .sh (eSta st), .sh (.int r), .sh (.int (lyingK c ws st r k)), s5]) (xe_lenL (xv 1 rfl) 1) (by rw [List.length_map]; omega) ⟨_, rfl⟩ ?_ ?_ 0 (Bl.range (pg := pg))) ?_
  · rintro k ρ hk ⟨s5, rfl⟩
    rw [List.length_map] at hk
    have hk : k < ws.length := by omega
    have hk2 : k < st.2.2.length := by rw [W.pl]; exact hk
    refine xss_one (xs_if (xt_cmp (xe_call f_reach_of (XA.sh ((xv 0 rfl)) (XA.sh (xe_ixL (xv 1 rfl) (xv 5 rfl) rfl (at_map hk)) (XA.sh (xe_ixT (xe_ixt (xv 2 rfl)) (xv 5 rfl) rfl (at_map hk2)) XA.nil))) 2 ⟨(c, ws[k]!, st.2.2[k]!), W.wy _ (mem_get hk), rfl, rfl⟩) (xv 3 rfl) o_eqI) (fun q => xss_one (xs_set 4 (xe_op (xv 4 rfl) xe_int o_add) ?_)) (fun q => xss_nil ?_))
    · show ∃ s5, _
      rw [lyingK_succ, if_pos (of_decide_eq_true q)]
      exact ⟨_, rfl⟩
    · show ∃ s5, _
      rw [lyingK_succ, if_neg (of_decide_eq_false q)]
      exact ⟨_, rfl⟩
  · rintro ρ ⟨s5, rfl⟩
    exact ⟨_, by rw [Int.toNat_natCast, List.length_map]; rfl⟩
  · rintro ρ ⟨s5, rfl⟩
    exact xss_one (xs_ret (xv 4 rfl) rfl)
theorem s18 : Sc [("ways", true), ("state", true), ("k", true)] ["ways", "state"] ["range", "len"] (defScope (top 18)) := sc_by (by decide +kernel)
theorem f_all_home : Fn pg 1 false "all_home" [] (Ct (fun a : List Wy × Sta => a.1.length ≤ 10 ∧ a.2.2.2.length = a.1.length) (fun a => [.sh (.lst (a.1.map eWy)), .sh (eSta a.2)]) fun a => .sh (.bl (allHome a.1 a.2))) := by
  refine fn_ct 18 4 rfl s18 (fun _ => rfl) (fun _ _ _ _ _ _ us hl => match us, hl with | [_, _], _ => rfl) ?_
  rintro Γ ⟨ws, st⟩ ⟨hw, hp⟩
  dsimp only at hw hp ⊢
  refine xss_mid (fun ρ => allHome ws st = true ∧ ∃ s2, ρ = [.sh (.lst (ws.map eWy)), .sh (eSta st), s2])
    (xs_forR (n := ((ws.map eWy).length : Nat)) 2 (fun k ρ => (∀ j, j < k → (ws[j]!).2.length ≤ st.2.2[j]!) ∧ ∃ s2, ρ = [.sh (.lst (ws.map eWy)), .sh (eSta st), s2]) (xe_lenL (xv 0 rfl) 1) (by rw [List.length_map]; omega) ⟨fun j hj => absurd hj (Nat.not_lt_zero j), _, rfl⟩ ?_ ?_ 0 (Bl.range (pg := pg))) ?_
  · rintro k ρ hk ⟨hd, s2, rfl⟩
    rw [List.length_map] at hk
    have hk : k < ws.length := by omega
    have hk2 : k < st.2.2.length := by rw [hp]; exact hk
    refine xss_one (xs_if (xt_cmp (xe_ixT (xe_ixt (xv 1 rfl)) (xv 2 rfl) rfl (at_map hk2)) (xe_lenT (xe_ixt (xe_ixL (xv 0 rfl) (xv 2 rfl) rfl (at_map (f := eWy) hk))) 1) o_lt) (fun q => xss_one (xs_ret xe_bl ?_)) (fun q => xss_nil ?_))
    · have q := of_decide_eq_true q
      rw [List.length_map] at q
      show Rz.sh _ = Rz.sh _
      congr 2
      symm
      unfold allHome
      rw [List.all_eq_false]
      exact ⟨k, List.mem_range.mpr hk, by rw [decide_eq_false (by omega)]; exact Bool.false_ne_true⟩
    · have q := of_decide_eq_false q
      rw [List.length_map] at q
      refine ⟨fun j hj => ?_, _, rfl⟩
      rcases Nat.lt_succ_iff_lt_or_eq.mp hj with z | z
      · exact hd j z
      · subst z
        omega
  · rintro ρ ⟨hd, s2, rfl⟩
    rw [Int.toNat_natCast, List.length_map] at hd
    refine ⟨?_, _, rfl⟩
    unfold allHome
    rw [List.all_eq_true]
    exact fun j hj => decide_eq_true (hd j (List.mem_range.mp hj))
  · rintro ρ ⟨hd, s2, rfl⟩
    exact xss_one (xs_ret xe_bl (by show Rz.sh _ = Rz.sh _; rw [hd]))
end Lk
set_option maxHeartbeats 400000
namespace Lk
open PySem PySem.Spec PyProof.Rows L2
/-! ### rows of pours stay within the canal -/
section
variable {c : Cnl}
theorem weirPours_in (W : CW c) (wa : List Int) : ∀ p ∈ weirPours c wa, PrIn c.many p := by
  intro p hp
  unfold weirPours at hp
  obtain ⟨k, hk, rfl⟩ := List.mem_map.mp hp
  have hk := List.mem_range.mp (List.mem_filter.mp hk).1
  have h1 := W.many_le.1
  refine ⟨by show c.nr - 1 - k < _; omega, ?_⟩
  show (c.weirs[c.nr - 1 - k]!).2 < _
  exact W.weir_lt _ (mem_get (by rw [weirs_len]; omega))
theorem filt_le {α β : Type} (xs : List α) (t : α → Bool) (f : α → β) : ((xs.filter t).map f).length ≤ xs.length := by
  rw [List.length_map]
  exact List.length_filter_le _ _
theorem weirPours_len (wa : List Int) : (weirPours c wa).length ≤ c.nr := by
  have := filt_le (List.range c.nr) (fun k => decide (0 < (spills c.weirs wa)[c.nr - 1 - k]!)) fun k => (c.nr - 1 - k, (c.weirs[c.nr - 1 - k]!).2, (spills c.weirs wa)[c.nr - 1 - k]!)
  rw [List.length_range] at this
  exact this
theorem goneP_in (W : CW c) {wa : List Int} {w : List (Int × Int)} (h : w.length = c.nr) : ∀ p ∈ goneP c wa w, PrIn c.many p := by
  intro p hp
  unfold goneP at hp
  obtain ⟨k, hk, rfl⟩ := List.mem_map.mp hp
  have hk := List.mem_range.mp (List.mem_filter.mp hk).1
  have h1 := W.many_le.1
  exact ⟨by show k < _; omega, by show c.sky < c.sky + 1; omega⟩
theorem comeP_in (W : CW c) {w : List (Int × Int)} (h : w.length = c.nr) : ∀ p ∈ comeP c w, PrIn c.many p := by
  intro p hp
  unfold comeP at hp
  obtain ⟨k, hk, rfl⟩ := List.mem_map.mp hp
  have hk := List.mem_range.mp (List.mem_filter.mp hk).1
  have h1 := W.many_le.1
  exact ⟨by show c.sky < c.sky + 1; omega, by show k < _; omega⟩
theorem goneP_len (wa : List Int) (w : List (Int × Int)) : (goneP c wa w).length ≤ w.length := by
  have := filt_le (List.range w.length) (fun r => decide ((0 : Int) < min (wa[r]!) ((w[r]!).2))) fun (r : Nat) => (r, c.sky, min (wa[r]!) ((w[r]!).2))
  rw [List.length_range] at this
  exact this
theorem comeP_len (w : List (Int × Int)) : (comeP c w).length ≤ w.length := by
  have := filt_le (List.range w.length) (fun r => decide (0 < (w[r]!).1)) fun r => (c.sky, r, (w[r]!).1)
  rw [List.length_range] at this
  exact this
theorem placeOf_lt (W : CW c) {k : Nat} (hk : k < c.nl) (s : Sd) : placeOf c k s < c.many := by
  have h1 := W.many_le.1
  have hk' : k < c.locks.length := hk
  have h2 := W.lk _ (mem_get hk')
  cases s
  · show (c.locks[k]!).high < _
    omega
  · show (c.locks[k]!).low < _
    omega
  · show c.nr + k < _
    unfold Cnl.many Cnl.sky Cnl.sea
    omega
  · show c.nr + c.nl + k < _
    unfold Cnl.many Cnl.sky Cnl.sea
    omega
theorem numbered_in (W : CW c) {k : Nat} (hk : k < c.nl) (ts : List Tri) : ∀ p ∈ numbered c k ts, PrIn c.many p := by
  intro p hp
  obtain ⟨t, _, rfl⟩ := List.mem_map.mp hp
  exact ⟨placeOf_lt W hk _, placeOf_lt W hk _⟩
theorem app_in {n : Nat} {a b : List Pr} (ha : ∀ p ∈ a, PrIn n p) (hb : ∀ p ∈ b, PrIn n p) : ∀ p ∈ a ++ b, PrIn n p := fun p hp => (List.mem_append.mp hp).elim (ha p) (hb p)
theorem passage_len (l : Lck) (full : Bool) (b : Int) (up : Bool) : (passage l full b up).length ≤ 4 := by
  unfold passage
  have h1 := filling_len l
  have h2 := letting_len l
  cases up <;> cases full <;> simp
  · have := h1 b; have := h2 (heldBehind b (filling l b)); omega
  · have := h2 (heldBehind b []); omega
  · have := h1 (heldBehind b []); omega
  · have := h2 b; have := h1 (heldBehind b (letting l b)); omega
end
variable {pg : Pg} [Lib pg]
theorem s70_9 : Sc [("self", true), ("held", true), ("k", true), ("reach", true)] ["self"] ["range", "enumerate", "settled", "tuple"] (defScope (mth 70 9)) := sc_by (by decide +kernel)
theorem m_start : Mt pg 4 false (ca pg "Canal") "start" [] (Ct (fun c : Cnl => CW c) (fun a => [.sh (eCnl pg a)]) fun a => .sh (eInts a.start)) := by
  refine mt_ct 70 9 30 rfl 16 "reaches" rfl s70_9 (fun _ => rfl) (fun _ _ _ _ _ _ us hl => match us, hl with | [_], _ => rfl) ?_
  rintro Γ c W
  have hm := W.many_le
  have hr := W.rm
  refine xss_cons (xs_setLc 1 (lc_m (zs := List.range c.many) (f := eN) (g := fun _ => .int 0) 2 [("self", false), ("held", false), ("k", true), ("reach", false)] [] (by decide +kernel) (XE.itR (xe_meth0 m_many (XE.rcv (xv 0 rfl)) (.inl ⟨_, rfl, rfl⟩) ⟨c, trivial, rfl, rfl⟩) (by omega) 0 (Bl.range (pg := pg))) (by rw [List.length_range]; omega) (fun _ _ _ _ => xe_int)) ?_ (by decide +kernel))
  have e0 : (List.range c.many).map (fun _ => D.int 0) = (List.replicate c.many (0 : Int)).map D.int := by
    rw [List.map_replicate, List.map_const', List.length_range]
  refine xss_mid (fun ρ => ∃ s2 s3, ρ = [.sh (eCnl pg c), .ow (.lst ((c.reaches.map Rch.water ++ List.replicate (c.many - c.nr) 0).map D.int)), s2, s3])
    (xs_forEnum 2 3 (fun k ρ => ∃ s2 s3, ρ = [.sh (eCnl pg c), .ow (.lst (((c.reaches.take k).map Rch.water ++ List.replicate (c.many - k) 0).map D.int)), s2, s3]) (f_reaches (xv 0 rfl)) ⟨_, _, by rw [e0]; rfl⟩ ?_ ?_ 1 (Bl.enumerate (pg := pg))) ?_
  · rintro k _ ρ hx ⟨s2, s3, rfl⟩
    obtain ⟨hk, rfl⟩ := map_at hx
    have hk' : k < c.nr := hk
    have tl : ((c.reaches.take k).map Rch.water).length = k := by rw [List.length_map, List.length_take]; omega
    refine xss_one (xs_setitem 1 rfl (f_water (xv 3 rfl)) (xv 2 rfl) rfl (by rw [List.length_map, List.length_append, List.length_replicate, tl]; omega) ?_)
    show ∃ s2 s3, _
    have : (((c.reaches.take k).map Rch.water ++ List.replicate (c.many - k) 0).map D.int).set k (.int (c.reaches[k]!).water) = ((c.reaches.take (k + 1)).map Rch.water ++ List.replicate (c.many - (k + 1)) 0).map D.int := by
      rw [← List.map_set, take_map hk, List.set_append_right _ _ (by omega), tl, Nat.sub_self, show c.many - k = c.many - (k + 1) + 1 by omega, List.replicate_succ, List.set_cons_zero, List.append_assoc]
      rfl
    rw [← this]
    exact ⟨_, _, rfl⟩
  · rintro ρ ⟨s2, s3, rfl⟩
    exact ⟨_, _, by rw [List.length_map, List.take_length]⟩
  · rintro ρ ⟨s2, s3, rfl⟩
    refine xss_one (xs_ret (xe_call f_settled (XA.sh (XO.lst (xo_meth0 m_weirs (XE.rcv (xv 0 rfl)) (.inl ⟨_, rfl, rfl⟩) ⟨c, W.rm, rfl, rfl⟩)) (XA.sh (xe_tupleP (xpv 1 (.inl rfl)) 3) XA.nil)) 2 ⟨(c.weirs, c.reaches.map Rch.water ++ List.replicate (c.many - c.nr) 0), ?_, rfl, rfl⟩) rfl)
    have hl : (c.reaches.map Rch.water ++ List.replicate (c.many - c.nr) (0 : Int)).length = c.many := by
      rw [List.length_append, List.length_map, List.length_replicate]
      have : c.reaches.length = c.nr := rfl
      omega
    dsimp only
    rw [hl, weirs_len]
    exact ⟨by omega, W.weir_lt, hm.2⟩
theorem s15 : Sc [("canal", true), ("ways", true), ("way", false)] ["canal", "ways"] ["tuple"] (defScope (top 15)) := sc_by (by decide +kernel)
theorem f_begun : Fn pg 5 false "begun" [] (Ct (fun a : Cnl × List Wy => CW a.1 ∧ a.2.length ≤ 10) (fun a => [.sh (eCnl pg a.1), .sh (.lst (a.2.map eWy))]) fun a => .sh (eSta (begun a.1 a.2))) := by
  refine fn_ct 15 1 rfl s15 (fun _ => rfl) (fun _ _ _ _ _ _ us hl => match us, hl with | [_, _], _ => rfl) ?_
  rintro Γ ⟨c, ws⟩ ⟨W, hw⟩
  dsimp only at W hw ⊢
  refine xss_one (xs_ret (tup (XB.sh (xe_int) (XB.sh (xe_meth0 m_start (XE.rcv (xv 0 rfl)) (.inl ⟨_, rfl, rfl⟩) ⟨c, W, rfl, rfl⟩) (XB.sh (xe_tuple (XO.lst (lc_m (zs := ws) (f := eWy) (g := fun _ => .int 0) 2 [("canal", false), ("ways", false), ("way", true)] [] (by decide +kernel) (XL.it (XE.l (xv 1 rfl))) (by omega) (fun _ _ _ _ => xe_int)).xo) 0) XB.nil)))) ?_)
  show Rz.sh _ = Rz.sh _
  unfold begun eSta eNats
  dsimp only
  rw [List.map_map]
  rfl
theorem s33 : Sc [("canal", true), ("waters", true), ("given", true), ("ends", true), ("row", true), ("r", true)] ["canal", "waters"] ["spills", "range", "len"] (defScope (top 33)) := sc_by (by decide +kernel)
theorem f_weir_pours : Fn pg 4 false "weir_pours" [] (Ct (fun a : Cnl × List Int => CW a.1 ∧ a.2.length = a.1.many) (fun a => [.sh (eCnl pg a.1), .sh (eInts a.2)]) fun a => .ow (.lst ((weirPours a.1 a.2).map ePr))) := by
  refine fn_ct 33 15 rfl s33 (fun _ => rfl) (fun _ _ _ _ _ _ us hl => match us, hl with | [_, _], _ => rfl) ?_
  rintro Γ ⟨c, wa⟩ ⟨W, hw⟩
  dsimp only at W hw ⊢
  have hm := W.many_le
  have hr := W.rm
  have gl : (spills c.weirs wa).length = c.nr := by unfold spills; rw [spillsK_len, weirs_len]
  refine xss_cons (xs_set 2 (XO.lst (xo_call f_spills (XA.sh (XO.lst (xo_meth0 m_weirs (XE.rcv (xv 0 rfl)) (.inl ⟨_, rfl, rfl⟩) ⟨c, W.rm, rfl, rfl⟩)) (XA.sh ((xv 1 rfl)) XA.nil)) 0 ⟨(c.weirs, wa), ?_, rfl, rfl⟩)) ?_)
  · dsimp only
    rw [hw, weirs_len]
    exact ⟨by omega, W.weir_lt, hm.2⟩
  refine xss_cons (xs_set 3 (XO.lst (xo_meth0 m_weirs (XE.rcv (xv 0 rfl)) (.inl ⟨_, rfl, rfl⟩) ⟨c, W.rm, rfl, rfl⟩)) ?_)
  refine xss_cons (xs_setO 4 (lsO XB.nil) ?_)
  refine xss_mid (fun ρ => ∃ s5, ρ = [.sh (eCnl pg c), .sh (eInts wa), .sh (.lst ((spills c.weirs wa).map D.int)), .sh (eWrs c.weirs), .ow (.lst ((weirPours c wa).map ePr)), s5])
    (xs_forDown (n := c.nr) 5 (fun k ρ => ∃ s5, ρ = [.sh (eCnl pg c), .sh (eInts wa), .sh (.lst ((spills c.weirs wa).map D.int)), .sh (eWrs c.weirs), .ow (.lst ((((List.range k).filter fun k => decide (0 < (spills c.weirs wa)[c.nr - 1 - k]!)).map fun k => ((c.nr - 1 - k, (c.weirs[c.nr - 1 - k]!).2, (spills c.weirs wa)[c.nr - 1 - k]!) : Pr)).map ePr)), s5]) ((xe_op (xe_lenL (xv 2 rfl) 2) xe_int o_sub).to (by rw [List.length_map, gl])) (xe_neg xe_int) (xe_neg xe_int) (by omega) ⟨_, rfl⟩ ?_ ?_ 1 (Bl.range (pg := pg))) ?_
  · rintro k ρ hk ⟨s5, rfl⟩
    have q1 : c.nr - 1 - k < (spills c.weirs wa).length := by rw [gl]; omega
    have q2 : c.nr - 1 - k < c.weirs.length := by rw [weirs_len]; omega
    refine xss_one (xs_if (xt_cmp (xe_ixL (xv 2 rfl) (xv 5 rfl) rfl (at_map q1)) xe_int o_gt) (fun q => xss_one (xs_append 4 rfl (tup (XB.sh ((xv 5 rfl)) (XB.sh (xe_ixt (xe_ixL (xv 3 rfl) (xv 5 rfl) rfl (at_map (f := eWr) q2))) (XB.sh (xe_ixL (xv 2 rfl) (xv 5 rfl) rfl (at_map q1)) XB.nil)))) ?_ ?_)) (fun q => xss_nil ?_))
    · show ∃ s5, _
      rw [List.range_succ, List.filter_append, List.filter_cons, if_pos q, List.map_append, List.map_append]
      exact ⟨_, rfl⟩
    · have := filt_le (List.range k) (fun k => decide (0 < (spills c.weirs wa)[c.nr - 1 - k]!)) fun k => ((c.nr - 1 - k, (c.weirs[c.nr - 1 - k]!).2, (spills c.weirs wa)[c.nr - 1 - k]!) : Pr)
      rw [List.length_map]
      rw [List.length_range] at this
      omega
    · show ∃ s5, _
      rw [List.range_succ, List.filter_append, List.filter_cons, if_neg (by rw [q]; exact Bool.false_ne_true), List.filter_nil, List.append_nil]
      exact ⟨_, rfl⟩
  · rintro ρ ⟨s5, rfl⟩
    exact ⟨_, rfl⟩
  · rintro ρ ⟨s5, rfl⟩
    exact xss_one (xs_retV 4 rfl rfl)
end Lk
set_option maxHeartbeats 400000
namespace Lk
open PySem PySem.Spec PyProof.Rows L2
variable {pg : Pg} [Lib pg]
section
variable {sc : Scope} {N : List (Str × Bool)} {G : List Str} {lv : Nat} {own : List Nat} {Γ : Gm pg sc N G lv own} {ρ : List Sl} {e e1 : Expr} {pos p apos : Pos} {c : Cnl}
theorem c_sky (h : XE Γ e ρ (eCnl pg c)) (hr : 2 ≤ lv := by decide) {pl : Sem Bool}
    (ht : eval (.Call (.Attribute e "sky" apos) [] [] pos) Γ.X.env = (do
      let ov ← eval e Γ.X.env
      standAt apos.atName
      let (f, first) ← holding [ov] (getMethod ov "sky" pl)
      callWith pos f first (backTo pos (starEach [] Γ.X.env)) (backToKw pos (keywordEach [] Γ.X.env))) := by rfl) : XE Γ (.Call (.Attribute e "sky" apos) [] [] pos) ρ (.int c.sky) :=
  xe_meth0 m_sky h.rcv (.inl ⟨_, rfl, rfl⟩) ⟨c, trivial, rfl, rfl⟩ hr ht
end
theorem snoc_t {α : Type} {t : Nat → Bool} {f : Nat → α} {g : α → D} {A : List α} {k : Nat} (q : t k = true) : (A ++ ((List.range (k + 1)).filter t).map f).map g = (A ++ ((List.range k).filter t).map f).map g ++ [g (f k)] := by
  rw [List.range_succ, List.filter_append, List.filter_cons, if_pos q, List.map_append (f := f), ← List.append_assoc, List.map_append (f := g)]
  rfl
/-! ### nights -/
theorem s34 : Sc [("canal", true), ("state", true), ("weather", true), ("row", true), ("r", true), ("gone", true)] ["canal", "state", "weather"] ["range", "len", "min", "weir_pours", "poured_all"] (defScope (top 34)) := sc_by (by decide +kernel)
theorem f_night_pours : Fn pg 5 false "night_pours" [] (Ct (fun a : Cnl × Sta × List (Int × Int) × Bool => CW a.1 ∧ a.2.1.2.1.length = a.1.many ∧ a.2.2.1.length = a.1.nr) (fun a => [.sh (eCnl pg a.1), .sh (eSta a.2.1), .sh (eWs a.2.2.2 a.2.2.1)]) fun a => .ow (.lst ((nightPours a.1 a.2.1 a.2.2.1).map ePr))) := by
  refine fn_ct 34 16 rfl s34 (fun _ => rfl) (fun _ _ _ _ _ _ us hl => match us, hl with | [_, _, _], _ => rfl) ?_
  rintro Γ ⟨c, st, w, t⟩ ⟨W, hw, hl⟩
  dsimp only at W hw hl ⊢
  have hm := W.many_le
  have hr := W.rm
  refine xss_cons (xs_setO 3 (lsO XB.nil) ?_)
  refine xss_mid (fun ρ => ∃ s4 s5, ρ = [.sh (eCnl pg c), .sh (eSta st), .sh (eWs t w), .ow (.lst ((goneP c st.2.1 w).map ePr)), s4, s5])
    (xs_forR (n := ((w.map eWth).length : Nat)) 4 (fun k ρ => ∃ s4 s5, ρ = [.sh (eCnl pg c), .sh (eSta st), .sh (eWs t w), .ow (.lst ((((List.range k).filter fun r => decide ((0 : Int) < min (st.2.1[r]!) ((w[r]!).2))).map fun (r : Nat) => ((r, c.sky, min (st.2.1[r]!) ((w[r]!).2)) : Pr)).map ePr)), s4, s5]) (xe_lenQ (xv 2 rfl) (eWs_q t w) 1) (by rw [List.length_map]; omega) ⟨_, _, rfl⟩ ?_ ?_ 0 (Bl.range (pg := pg))) ?_
  · rintro k ρ hk ⟨s4, s5, rfl⟩
    rw [List.length_map] at hk
    have hk : k < w.length := by omega
    have q1 : k < st.2.1.length := by omega
    refine xss_cons (xs_set 5 (xe_min (xe_ixT (xe_ixt (xv 1 rfl)) (xv 4 rfl) rfl (at_map q1)) (xe_ixt (xe_ixQ (xv 2 rfl) (eWs_q t w) (xv 4 rfl) rfl (at_map (f := eWth) hk))) 2) ?_)
    refine xss_one (xs_if (xt_cmp (xv 5 rfl) xe_int o_gt) (fun q => xss_one (xs_append 3 rfl (tup (XB.sh ((xv 4 rfl)) (XB.sh (c_sky (xv 0 rfl)) (XB.sh ((xv 5 rfl)) XB.nil)))) ?_ ?_)) (fun q => xss_nil ?_))
    · show ∃ s4 s5, _
      rw [List.range_succ, List.filter_append, List.filter_cons, if_pos q, List.map_append, List.map_append]
      exact ⟨_, _, rfl⟩
    · have := filt_le (List.range k) (fun r => decide ((0 : Int) < min (st.2.1[r]!) ((w[r]!).2))) fun (r : Nat) => ((r, c.sky, min (st.2.1[r]!) ((w[r]!).2)) : Pr)
      rw [List.length_map]
      rw [List.length_range] at this
      omega
    · show ∃ s4 s5, _
      rw [List.range_succ, List.filter_append, List.filter_cons, if_neg (by rw [q]; exact Bool.false_ne_true), List.filter_nil, List.append_nil]
      exact ⟨_, _, rfl⟩
  · rintro ρ ⟨s4, s5, rfl⟩
    exact ⟨_, _, by rw [Int.toNat_natCast, List.length_map]; rfl⟩
  rintro ρ ⟨s4, s5, rfl⟩
  refine xss_mid (fun ρ => ∃ s4 s5, ρ = [.sh (eCnl pg c), .sh (eSta st), .sh (eWs t w), .ow (.lst ((goneP c st.2.1 w ++ comeP c w).map ePr)), s4, s5])
    (xs_forR (n := ((w.map eWth).length : Nat)) 4 (fun k ρ => ∃ s4 s5, ρ = [.sh (eCnl pg c), .sh (eSta st), .sh (eWs t w), .ow (.lst ((goneP c st.2.1 w ++ ((List.range k).filter fun r => decide (0 < (w[r]!).1)).map fun r => ((c.sky, r, (w[r]!).1) : Pr)).map ePr)), s4, s5]) (xe_lenQ (xv 2 rfl) (eWs_q t w) 1) (by rw [List.length_map]; omega) ⟨_, _, by rw [List.range_zero, List.filter_nil, List.map_nil, List.append_nil]⟩ ?_ ?_ 0 (Bl.range (pg := pg))) ?_
  · rintro k ρ hk ⟨s4, s5, rfl⟩
    rw [List.length_map] at hk
    have hk : k < w.length := by omega
    refine xss_one (xs_if (xt_cmp (xe_ixt (xe_ixQ (xv 2 rfl) (eWs_q t w) (xv 4 rfl) rfl (at_map (f := eWth) hk))) xe_int o_gt) (fun q => xss_one (xs_append 3 rfl (tup (XB.sh (c_sky (xv 0 rfl)) (XB.sh ((xv 4 rfl)) (XB.sh (xe_ixt (xe_ixQ (xv 2 rfl) (eWs_q t w) (xv 4 rfl) rfl (at_map (f := eWth) hk))) XB.nil)))) ?_ ?_)) (fun q => xss_nil ?_))
    · show ∃ s4 s5, _
      rw [snoc_t (t := fun r => decide (0 < (w[r]!).1)) (f := fun r => ((c.sky, r, (w[r]!).1) : Pr)) (g := ePr) (A := goneP c st.2.1 w) (k := k) q]
      exact ⟨_, _, rfl⟩
    · have := filt_le (List.range k) (fun r => decide (0 < (w[r]!).1)) fun r => ((c.sky, r, (w[r]!).1) : Pr)
      have h2 := goneP_len (c := c) st.2.1 w
      rw [List.length_map, List.length_append]
      rw [List.length_range] at this
      omega
    · show ∃ s4 s5, _
      rw [List.range_succ, List.filter_append, List.filter_cons, if_neg (by rw [q]; exact Bool.false_ne_true), List.filter_nil, List.append_nil]
      exact ⟨_, _, rfl⟩
  · rintro ρ ⟨s4, s5, rfl⟩
    exact ⟨_, _, by rw [Int.toNat_natCast, List.length_map]; rfl⟩
  rintro ρ ⟨s4, s5, rfl⟩
  have hin : ∀ p ∈ goneP c st.2.1 w ++ comeP c w, PrIn st.2.1.length p := by rw [hw]; exact app_in (goneP_in W hl) (comeP_in W hl)
  refine xss_freeze 3 rfl ?_
  refine xss_one (xs_retO (xo_cat (XE.l (xv 3 rfl)) (XO.l (xo_call f_weir_pours (XA.sh ((xv 0 rfl)) (XA.sh (xe_call f_poured (XA.sh (xe_ixt (xv 1 rfl)) (XA.sh ((xv 3 rfl)) XA.nil)) 4 ⟨(st.2.1, goneP c st.2.1 w ++ comeP c w), ⟨hin, by dsimp only; omega⟩, rfl, rfl⟩) XA.nil)) 3 ⟨(c, pourAll st.2.1 (goneP c st.2.1 w ++ comeP c w)), ⟨W, by dsimp only; rw [pourAll_len]; exact hw⟩, rfl, rfl⟩)) ?_) ?_)
  · have h1 := goneP_len (c := c) st.2.1 w
    have h2 := comeP_len (c := c) w
    have h3 := weirPours_len (c := c) (pourAll st.2.1 (goneP c st.2.1 w ++ comeP c w))
    rw [List.length_map, List.length_append, List.length_map]
    dsimp only
    omega
  · show Rz.ow _ = Rz.ow _
    unfold nightPours
    dsimp only
    rw [List.map_append (l₂ := weirPours _ _)]
theorem s35 : Sc [("weather", true), ("other", true), ("r", true)] ["weather", "other"] ["range", "len"] (defScope (top 35)) := sc_by (by decide +kernel)
theorem f_wet : Fn pg 1 false "wet_enough" [] (Ct (fun a : List (Int × Int) × List (Int × Int) × Bool => a.1.length ≤ 100 ∧ a.2.1.length = a.1.length) (fun a => [.sh (eWs a.2.2 a.1), .sh (eNight a.2.1)]) fun a => .sh (.bl (wetEnough a.1 a.2.1))) := by
  refine fn_ct 35 17 rfl s35 (fun _ => rfl) (fun _ _ _ _ _ _ us hl => match us, hl with | [_, _], _ => rfl) ?_
  rintro Γ ⟨w, o, t⟩ ⟨h1, h2⟩
  dsimp only at h1 h2 ⊢
  refine xss_mid (fun ρ => wetEnough w o = true ∧ ∃ s2, ρ = [.sh (eWs t w), .sh (eNight o), s2])
    (xs_forR (n := ((w.map eWth).length : Nat)) 2 (fun k ρ => (∀ j, j < k → (!(decide ((w[j]!).1 < (o[j]!).1) || decide ((o[j]!).2 < (w[j]!).2))) = true) ∧ ∃ s2, ρ = [.sh (eWs t w), .sh (eNight o), s2]) (xe_lenQ (xv 0 rfl) (eWs_q t w) 1) (by rw [List.length_map]; omega) ⟨fun j hj => absurd hj (Nat.not_lt_zero j), _, rfl⟩ ?_ ?_ 0 (Bl.range (pg := pg))) ?_
  · rintro k ρ hk ⟨hd, s2, rfl⟩
    rw [List.length_map] at hk
    have hk : k < w.length := by omega
    have hk2 : k < o.length := by omega
    refine xss_one (xs_if (xt_or (xt_cmp (xe_ixt (xe_ixQ (xv 0 rfl) (eWs_q t w) (xv 2 rfl) rfl (at_map (f := eWth) hk))) (xe_ixt (xe_ixL (xv 1 rfl) (xv 2 rfl) rfl (at_map (f := eWth) hk2))) o_lt) (fun _ => xt_cmp (xe_ixt (xe_ixQ (xv 0 rfl) (eWs_q t w) (xv 2 rfl) rfl (at_map (f := eWth) hk))) (xe_ixt (xe_ixL (xv 1 rfl) (xv 2 rfl) rfl (at_map (f := eWth) hk2))) o_gt)) (fun q => xss_one (xs_ret xe_bl ?_)) (fun q => xss_nil ?_))
    · show Rz.sh _ = Rz.sh _
      congr 2
      symm
      unfold wetEnough
      rw [List.all_eq_false]
      exact ⟨k, List.mem_range.mpr hk, by rw [q]; exact Bool.false_ne_true⟩
    · refine ⟨fun j hj => ?_, _, rfl⟩
      rcases Nat.lt_succ_iff_lt_or_eq.mp hj with z | z
      · exact hd j z
      · subst z
        rw [q]
        rfl
  · rintro ρ ⟨hd, s2, rfl⟩
    rw [Int.toNat_natCast, List.length_map] at hd
    refine ⟨?_, _, rfl⟩
    unfold wetEnough
    rw [List.all_eq_true]
    exact fun j hj => hd j (List.mem_range.mp hj)
  · rintro ρ ⟨hd, s2, rfl⟩
    exact xss_one (xs_ret xe_bl (by show Rz.sh _ = Rz.sh _; rw [hd]))
/-! ### a pass's pours -/
def pm (pg : Pg) (c : Cnl) (k : Nat) : List (Str × D) := [("high", .int (c.locks[k]!).high), ("low", .int (c.locks[k]!).low), ("chamber", .int (c.chamber k)), ("basin", .int (c.basin k))]
theorem pm_look (pg : Pg) (c : Cnl) (k : Nat) (s : Sd) : (pm pg c k).lookup (sdS s) = some (.int (placeOf c k s)) := by
  cases s <;> rfl
theorem s37 : Sc [("canal", true), ("k", true), ("triples", true), ("lock", true), ("place", true), ("one", false)] ["canal", "k", "triples"] [] (defScope (top 37)) := sc_by (by decide +kernel)
theorem f_numbered : Fn pg 2 false "numbered" [] (Ct (fun a : Cnl × Nat × List Tri => a.2.1 < a.1.nl ∧ a.2.2.length ≤ 1000) (fun a => [.sh (eCnl pg a.1), .sh (eN a.2.1), .sh (.lst (a.2.2.map eTri))]) fun a => .ow (.lst ((numbered a.1 a.2.1 a.2.2).map ePr))) := by
  refine fn_ct 37 18 rfl s37 (fun _ => rfl) (fun _ _ _ _ _ _ us hl => match us, hl with | [_, _, _], _ => rfl) ?_
  rintro Γ ⟨c, k, ts⟩ ⟨hk, hl⟩
  dsimp only at hk hl ⊢
  refine xss_cons (xs_set 3 (xe_ixL (f_locks (xv 0 rfl)) (xv 1 rfl) rfl (at_map (f := eLck pg) hk)) ?_)
  refine xss_cons (xs_set 4 (xe_dic (kds := pm pg c k) (.cons (f_high (xv 3 rfl)) (.cons (f_low (xv 3 rfl)) (.cons (xe_meth m_chamber (XE.rcv (xv 0 rfl)) (.inl ⟨_, rfl, rfl⟩) (XA.sh ((xv 1 rfl)) XA.nil) ⟨(c, k), trivial, rfl, rfl⟩) (.cons (xe_meth m_basin (XE.rcv (xv 0 rfl)) (.inl ⟨_, rfl, rfl⟩) (XA.sh ((xv 1 rfl)) XA.nil) ⟨(c, k), trivial, rfl, rfl⟩) .nil)))) (show ([("high" : Str), "low", "chamber", "basin"] : List Str).Nodup by decide) rfl rfl (fun z => nomatch z) (by decide) (Nat.le_of_ble_eq_true rfl)) ?_)
  refine xss_one (xs_retO (lc_m (zs := ts) (f := eTri) (g := fun t => ePr (placeOf c k t.1, placeOf c k t.2.1, t.2.2)) 5 [("canal", false), ("k", false), ("triples", false), ("lock", false), ("place", true), ("one", true)] [] (by decide +kernel) (XL.it (XE.l (xv 2 rfl))) (by omega) (fun _ _ z _ => tup (XB.sh (xe_dget (xv 4 rfl) (xe_ixt (xv 5 rfl)) (pm_look pg c k z.1)) (XB.sh (xe_dget (xv 4 rfl) (xe_ixt (xv 5 rfl)) (pm_look pg c k z.2.1)) (XB.sh (xe_ixt (xv 5 rfl)) XB.nil))))).xo ?_)
  show Rz.ow _ = Rz.ow _
  unfold numbered
  rw [List.map_map]
  rfl
end Lk
set_option maxHeartbeats 400000
namespace Lk
open PySem PySem.Spec PyProof.Rows L2
/-- a deed that stands in the canal -/
def DW (c : Cnl) (ws : List Wy) : Deed → Prop
  | .pass b => b < ws.length
  | .let_ k => k < c.nl
  | .night => True
section
variable {c : Cnl} {ws : List Wy} {st : Sta}
theorem basin_lt {k : Nat} (hk : k < c.nl) : c.basin k < c.many := by
  unfold Cnl.basin Cnl.many Cnl.sky Cnl.sea
  omega
theorem chamber_lt {k : Nat} (hk : k < c.nl) : c.chamber k < c.many := by
  unfold Cnl.chamber Cnl.many Cnl.sky Cnl.sea
  omega
theorem SW.step_lt (S : SW c ws st) {b : Nat} (hb : b < ws.length) {p : Nat} (hp : p < (ws[b]!).2.length) : ((ws[b]!).2[p]!).1 < c.nl := S.wy _ (mem_get hb) _ (mem_get hp)
theorem reachOf_nat (W : CW c) {w : Wy} {p : Nat} (hp : p < w.2.length) (hs : (w.2[p]!).1 < c.nl) : ∃ r : Nat, r < c.nr ∧ reachOf c w p = r := by
  have hs : (w.2[p]!).1 < c.locks.length := hs
  have := W.lk _ (mem_get hs)
  unfold reachOf
  rw [if_neg (by omega)]
  split
  · exact ⟨_, by omega, rfl⟩
  · exact ⟨_, this.2, rfl⟩
theorem passPours_in (W : CW c) (S : SW c ws st) {b : Nat} (hb : b < ws.length) (hp : st.2.2[b]! < (ws[b]!).2.length) : ∀ p ∈ passPours c ws st b, PrIn c.many p := numbered_in W (S.step_lt hb hp) _
theorem letPours_in (W : CW c) {k : Nat} (hk : k < c.nl) : ∀ p ∈ letPours c st k, PrIn c.many p := numbered_in W hk _
theorem passPours_len (b : Nat) : (passPours c ws st b).length ≤ 4 := by
  unfold passPours numbered
  rw [List.length_map]
  exact passage_len _ _ _ _
theorem letPours_len (k : Nat) : (letPours c st k).length ≤ 4 := by
  unfold letPours numbered
  rw [List.length_map]
  have := letting_len c.locks[k]! st.2.1[c.basin k]!
  omega
end
variable {pg : Pg} [Lib pg]
theorem s38 : Sc [("canal", true), ("ways", true), ("state", true), ("boat", true), ("step", true), ("k", true), ("held", true)] ["canal", "ways", "state", "boat"] ["numbered", "passage"] (defScope (top 38)) := sc_by (by decide +kernel)
theorem f_pass_pours : Fn pg 5 false "pass_pours" [] (Ct (fun a : Cnl × List Wy × Sta × Nat => CW a.1 ∧ SW a.1 a.2.1 a.2.2.1 ∧ a.2.2.2 < a.2.1.length ∧ a.2.2.1.2.2[a.2.2.2]! < (a.2.1[a.2.2.2]!).2.length) (fun a => [.sh (eCnl pg a.1), .sh (.lst (a.2.1.map eWy)), .sh (eSta a.2.2.1), .sh (eN a.2.2.2)]) fun a => .ow (.lst ((passPours a.1 a.2.1 a.2.2.1 a.2.2.2).map ePr))) := by
  refine fn_ct 38 19 rfl s38 (fun _ => rfl) (fun _ _ _ _ _ _ us hl => match us, hl with | [_, _, _, _], _ => rfl) ?_
  rintro Γ ⟨c, ws, st, b⟩ ⟨W, S, hb, hp⟩
  dsimp only at W S hb hp ⊢
  have hk : ((ws[b]!).2[st.2.2[b]!]!).1 < c.locks.length := S.step_lt hb hp
  have hb2 : b < st.2.2.length := by rw [S.pl]; exact hb
  have hba : c.basin ((ws[b]!).2[st.2.2[b]!]!).1 < st.2.1.length := by rw [S.wa]; exact basin_lt hk
  have hch : c.chamber ((ws[b]!).2[st.2.2[b]!]!).1 < st.2.1.length := by rw [S.wa]; exact chamber_lt hk
  refine xss_cons (xs_set 4 (xe_ixT (xe_ixt (xe_ixL (xv 1 rfl) (xv 3 rfl) rfl (at_map (f := eWy) hb))) (xe_ixT (xe_ixt (xv 2 rfl)) (xv 3 rfl) rfl (at_map (f := eN) hb2)) rfl (at_map (f := eStep) hp)) ?_)
  refine xss_cons (xs_set 5 (xe_ixt (xv 4 rfl)) ?_)
  refine xss_cons (xs_set 6 (xe_ixT (xe_ixt (xv 2 rfl)) (xe_meth m_basin (XE.rcv (xv 0 rfl)) (.inl ⟨_, rfl, rfl⟩) (XA.sh ((xv 5 rfl)) XA.nil) ⟨(c, ((ws[b]!).2[st.2.2[b]!]!).1), trivial, rfl, rfl⟩) rfl (at_map (f := D.int) hba)) ?_)
  refine xss_one (xs_retO (xo_call f_numbered (XA.sh ((xv 0 rfl)) (XA.sh ((xv 5 rfl)) (XA.sh (XO.lst (xo_call f_passage (XA.sh (xe_ixL (f_locks (xv 0 rfl)) (xv 5 rfl) rfl (at_map (f := eLck pg) hk)) (XA.sh (xe_meth m_full (XE.rcv (xv 0 rfl)) (.inl ⟨_, rfl, rfl⟩) (XA.sh (xe_ixt (xv 2 rfl)) (XA.sh ((xv 5 rfl)) XA.nil)) ⟨(c, st.2.1, ((ws[b]!).2[st.2.2[b]!]!).1), hch, rfl, rfl⟩) (XA.sh ((xv 6 rfl)) (XA.sh (xe_ixt (xv 4 rfl)) XA.nil)))) 1
    ⟨(c.locks[((ws[b]!).2[st.2.2[b]!]!).1]!, c.full st.2.1 ((ws[b]!).2[st.2.2[b]!]!).1, st.2.1[c.basin ((ws[b]!).2[st.2.2[b]!]!).1]!, ((ws[b]!).2[st.2.2[b]!]!).2), trivial, rfl, rfl⟩)) XA.nil))) 0 ⟨(c, ((ws[b]!).2[st.2.2[b]!]!).1, passage c.locks[((ws[b]!).2[st.2.2[b]!]!).1]! (c.full st.2.1 ((ws[b]!).2[st.2.2[b]!]!).1) (st.2.1[c.basin ((ws[b]!).2[st.2.2[b]!]!).1]!) ((ws[b]!).2[st.2.2[b]!]!).2), ⟨hk, ?_⟩, rfl, rfl⟩) rfl)
  dsimp only
  exact Nat.le_trans (passage_len _ _ _ _) (by decide)
theorem s39 : Sc [("canal", true), ("state", true), ("k", true)] ["canal", "state", "k"] ["numbered", "letting"] (defScope (top 39)) := sc_by (by decide +kernel)
theorem f_let_pours : Fn pg 4 false "let_pours" [] (Ct (fun a : Cnl × Sta × Nat => a.2.1.2.1.length = a.1.many ∧ a.2.2 < a.1.nl) (fun a => [.sh (eCnl pg a.1), .sh (eSta a.2.1), .sh (eN a.2.2)]) fun a => .ow (.lst ((letPours a.1 a.2.1 a.2.2).map ePr))) := by
  refine fn_ct 39 20 rfl s39 (fun _ => rfl) (fun _ _ _ _ _ _ us hl => match us, hl with | [_, _, _], _ => rfl) ?_
  rintro Γ ⟨c, st, k⟩ ⟨hw, hk⟩
  dsimp only at hw hk ⊢
  have hba : c.basin k < st.2.1.length := by rw [hw]; exact basin_lt hk
  refine xss_one (xs_retO (xo_call f_numbered (XA.sh ((xv 0 rfl)) (XA.sh ((xv 2 rfl)) (XA.sh (XO.lst (xo_call f_letting (XA.sh (xe_ixL (f_locks (xv 0 rfl)) (xv 2 rfl) rfl (at_map (f := eLck pg) hk)) (XA.sh (xe_ixT (xe_ixt (xv 1 rfl)) (xe_meth m_basin (XE.rcv (xv 0 rfl)) (.inl ⟨_, rfl, rfl⟩) (XA.sh ((xv 2 rfl)) XA.nil) ⟨(c, k), trivial, rfl, rfl⟩) rfl (at_map (f := D.int) hba)) XA.nil)) 1
    ⟨(c.locks[k]!, st.2.1[c.basin k]!), trivial, rfl, rfl⟩)) XA.nil))) 0 ⟨(c, k, letting c.locks[k]! st.2.1[c.basin k]!), ⟨hk, ?_⟩, rfl, rfl⟩) rfl)
  dsimp only
  exact Nat.le_trans (letting_len _ _) (by decide)
theorem tooDry_cons (c : Cnl) (wa : List Int) (p : Pr) (ps : List Pr) : tooDry c wa (p :: ps) = if p.1 < c.nr ∧ (pour1 wa p)[p.1]! < (c.reaches[p.1]!).least then true else tooDry c (pour1 wa p) ps := rfl
theorem s40 : Sc [("canal", true), ("waters", true), ("row", true), ("pour", true), ("giver", true)] ["canal", "waters", "row"] ["poured_all", "len"] (defScope (top 40)) := sc_by (by decide +kernel)
theorem f_too_dry : Fn pg 2 false "too_dry" [] (Ct (fun a : Cnl × List Int × List Pr => CW a.1 ∧ a.2.1.length = a.1.many ∧ ∀ p ∈ a.2.2, PrIn a.1.many p) (fun a => [.sh (eCnl pg a.1), .sh (eInts a.2.1), .sh (ePrs a.2.2)]) fun a => .sh (.bl (tooDry a.1 a.2.1 a.2.2))) := by
  refine fn_ct 40 21 rfl s40 (fun _ => rfl) (fun _ _ _ _ _ _ us hl => match us, hl with | [_, _, _], _ => rfl) ?_
  rintro Γ ⟨c, wa, ps⟩ ⟨W, hw, hp⟩
  dsimp only at W hw hp ⊢
  have hm := W.many_le
  refine xss_mid (fun ρ => tooDry c wa ps = false ∧ ∃ s3 s4, ρ = [.sh (eCnl pg c), .sh (eInts (pourAll wa ps)), .sh (ePrs ps), s3, s4])
    (xs_forL 3 (fun k ρ => tooDry c wa ps = tooDry c (pourAll wa (ps.take k)) (ps.drop k) ∧ ∃ s3 s4, ρ = [.sh (eCnl pg c), .sh (eInts (pourAll wa (ps.take k))), .sh (ePrs ps), s3, s4]) (xv 2 rfl) ⟨rfl, _, _, rfl⟩ ?_ ?_) ?_
  · rintro k _ ρ hx ⟨he, s3, s4, rfl⟩
    obtain ⟨hk, rfl⟩ := map_at hx
    have hl : (pourAll wa (ps.take k)).length = c.many := by rw [pourAll_len]; exact hw
    have hpk := hp _ (mem_get hk)
    have h1 : ((ps[k]!).1 : Nat) < (pourAll wa (ps.take (k + 1))).length := by rw [pourAll_len, hw]; exact hpk.1
    have ed : ps.drop k = ps[k]! :: ps.drop (k + 1) := by rw [List.drop_eq_getElem_cons hk, getElem!_pos ps k hk]
    rw [ed, tooDry_cons, ← pourAll_take hk] at he
    refine xss_cons (xs_set 1 ((xe_call f_poured (XA.sh ((xv 1 rfl)) (XA.sh (ls (XB.sh ((xv 3 rfl)) XB.nil)) XA.nil)) 0 ⟨(pourAll wa (ps.take k), [ps[k]!]), ⟨?_, by dsimp only; omega⟩, rfl, rfl⟩).to (da := .tup ((pourAll wa (ps.take (k + 1))).map D.int)) (by rw [pourAll_take hk]; rfl)) ?_)
    · intro p hq
      rw [List.mem_singleton.mp hq]
      dsimp only
      rw [hl]
      exact hpk
    refine xss_cons (xs_set 4 (xe_ixt (xv 3 rfl)) ?_)
    refine xss_one (xs_if (c := decide ((ps[k]!).1 < c.nr) && decide ((pourAll wa (ps.take (k + 1)))[(ps[k]!).1]! < (c.reaches[(ps[k]!).1]!).least)) (xt_and ((xt_cmp (xv 4 rfl) (xe_lenL (f_reaches (xv 0 rfl)) 1) o_lt).to (by rw [List.length_map]; exact decide_eq_decide.mpr Int.ofNat_lt)) (fun q => xt_cmp (xe_ixT (xv 1 rfl) (xv 4 rfl) rfl (at_map (f := D.int) h1)) (f_least (xe_ixL (f_reaches (xv 0 rfl)) (xv 4 rfl) rfl (at_map (f := eRch pg) (of_decide_eq_true q)))) o_lt)) (fun q => xss_one (xs_ret xe_bl ?_)) (fun q => xss_nil ?_))
    · rw [Bool.and_eq_true, decide_eq_true_eq, decide_eq_true_eq] at q
      show Rz.sh _ = Rz.sh _
      rw [he, if_pos q]
    · refine ⟨?_, _, _, rfl⟩
      rw [he, if_neg]
      intro z
      rw [decide_eq_true z.1, decide_eq_true z.2] at q
      cases q
  · rintro ρ ⟨he, s3, s4, rfl⟩
    have hz : (ps.map ePr).length = ps.length := List.length_map ..
    rw [hz, List.drop_length] at he
    exact ⟨he, _, _, by rw [hz, List.take_length]⟩
  · rintro ρ ⟨he, s3, s4, rfl⟩
    exact xss_one (xs_ret xe_bl (by show Rz.sh _ = Rz.sh _; rw [he]))
theorem s41 : Sc [("canal", true), ("ways", true), ("state", true), ("boat", true), ("way", true), ("place", true), ("beyond", true)] ["canal", "ways", "state", "boat"] ["len", "reach_of", "lying", "too_dry", "pass_pours"] (defScope (top 41)) := sc_by (by decide +kernel)
theorem f_why_no_pass : Fn pg 6 false "why_no_pass" [] (Ct (fun a : Cnl × List Wy × Sta × Nat => CW a.1 ∧ SW a.1 a.2.1 a.2.2.1 ∧ a.2.2.2 < a.2.1.length) (fun a => [.sh (eCnl pg a.1), .sh (.lst (a.2.1.map eWy)), .sh (eSta a.2.2.1), .sh (eN a.2.2.2)]) fun a => .sh (.str (whyNoPass a.1 a.2.1 a.2.2.1 a.2.2.2))) := by
  refine fn_ct 41 22 rfl s41 (fun _ => rfl) (fun _ _ _ _ _ _ us hl => match us, hl with | [_, _, _, _], _ => rfl) ?_
  rintro Γ ⟨c, ws, st, b⟩ ⟨W, S, hb⟩
  dsimp only at W S hb ⊢
  have hb2 : b < st.2.2.length := by rw [S.pl]; exact hb
  have hr : ∀ r, Rz.sh (.str r) = Rz.sh (.str (whyNoPass c ws st b)) ↔ r = whyNoPass c ws st b := fun r => ⟨fun h => by injection h with h; injection h, fun h => by rw [h]⟩
  refine xss_cons (xs_set 4 (xe_ixL (xv 1 rfl) (xv 3 rfl) rfl (at_map (f := eWy) hb)) ?_)
  refine xss_cons (xs_set 5 (xe_ixT (xe_ixt (xv 2 rfl)) (xv 3 rfl) rfl (at_map (f := eN) hb2)) ?_)
  refine xss_cons (xs_if (xt_cmp (xv 5 rfl) (xe_lenT (xe_ixt (xv 4 rfl)) 0) o_ge) (fun q => xss_one (xs_ret xe_str ?_)) (fun q => xss_nil ?_))
  · have q := of_decide_eq_true q
    rw [List.length_map] at q
    refine (hr _).mpr ?_
    unfold whyNoPass
    rw [if_pos (by omega)]
  have q1 := of_decide_eq_false q
  rw [List.length_map] at q1
  have hp : st.2.2[b]! < (ws[b]!).2.length := by omega
  refine xss_mid (fun ρ => ¬ (st.2.2[b]! + 1 < (ws[b]!).2.length ∧ (c.reaches[(reachOf c ws[b]! (st.2.2[b]! + 1)).toNat]!).berths ≤ lying c ws st (reachOf c ws[b]! (st.2.2[b]! + 1))) ∧ ∃ s6, ρ = [.sh (eCnl pg c), .sh (.lst (ws.map eWy)), .sh (eSta st), .sh (eN b), .sh (eWy ws[b]!), .sh (eN st.2.2[b]!), s6])
    (xs_if (xt_cmp (xe_op (xv 5 rfl) xe_int o_add) (xe_lenT (xe_ixt (xv 4 rfl)) 0) o_lt) (fun q => ?_) (fun q => xss_nil ⟨?_, _, rfl⟩)) ?_
  · have q := of_decide_eq_true q
    rw [List.length_map] at q
    have hp1 : st.2.2[b]! + 1 < (ws[b]!).2.length := by omega
    obtain ⟨r, hr1, hr2⟩ := reachOf_nat W hp1 (S.step_lt hb hp1)
    refine xss_cons (xs_set 6 (xe_call f_reach_of (XA.sh ((xv 0 rfl)) (XA.sh ((xv 4 rfl)) (XA.sh (xe_op (xv 5 rfl) xe_int o_add) XA.nil))) 1 ⟨(c, ws[b]!, st.2.2[b]! + 1), S.wy _ (mem_get hb), rfl, rfl⟩) ?_)
    refine xss_one (xs_if (xt_cmp (xe_call f_lying (XA.sh ((xv 0 rfl)) (XA.sh ((xv 1 rfl)) (XA.sh ((xv 2 rfl)) (XA.sh ((xv 6 rfl)) XA.nil)))) 2 ⟨(c, ws, st, reachOf c ws[b]! (st.2.2[b]! + 1)), S, rfl, rfl⟩) (f_berths (xe_ixL (f_reaches (xv 0 rfl)) (xv 6 rfl) hr2 (at_map (f := eRch pg) hr1))) o_ge) (fun q => xss_one (xs_ret xe_str ?_)) (fun q => xss_nil ⟨?_, _, rfl⟩))
    · have q := of_decide_eq_true q
      refine (hr _).mpr ?_
      unfold whyNoPass
      rw [if_neg (by omega), if_pos ⟨hp1, by rw [hr2, Int.toNat_natCast]; rw [hr2] at q; exact q⟩]
    · have q := of_decide_eq_false q
      rintro ⟨_, z⟩
      rw [hr2, Int.toNat_natCast] at z
      rw [hr2] at q
      exact q z
  · have q := of_decide_eq_false q
    rw [List.length_map] at q
    rintro ⟨z, _⟩
    omega
  rintro ρ ⟨hn, s6, rfl⟩
  refine xss_cons (xs_if (xt_val (xe_call f_too_dry (XA.sh ((xv 0 rfl)) (XA.sh (xe_ixt (xv 2 rfl)) (XA.sh (XO.lst (xo_call f_pass_pours (XA.sh ((xv 0 rfl)) (XA.sh ((xv 1 rfl)) (XA.sh ((xv 2 rfl)) (XA.sh ((xv 3 rfl)) XA.nil)))) 4 ⟨(c, ws, st, b), ⟨W, S, hb, hp⟩, rfl, rfl⟩)) XA.nil))) 3 ⟨(c, st.2.1, passPours c ws st b), ⟨W, S.wa, passPours_in W S hb hp⟩, rfl, rfl⟩)) (fun q => xss_one (xs_ret xe_str ?_)) (fun q => xss_nil ?_))
  · refine (hr _).mpr ?_
    unfold whyNoPass
    rw [if_neg (by omega), if_neg hn, if_pos q]
  · refine xss_one (xs_ret xe_str ?_)
    refine (hr _).mpr ?_
    unfold whyNoPass
    rw [if_neg (by omega), if_neg hn, if_neg (by rw [q]; exact Bool.false_ne_true)]
end Lk
set_option maxHeartbeats 400000
namespace Lk
open PySem PySem.Spec PyProof.Rows L2
theorem rz_str {a b : Str} (h : a = b) : Rz.sh (.str a) = Rz.sh (.str b) := by rw [h]
/-- a deed that can be done -/
def DoW (c : Cnl) (ws : List Wy) (st : Sta) (d : Deed) : Prop := DW c ws d ∧ whyNot c ws st d = ""
theorem pass_ok {c : Cnl} {ws : List Wy} {st : Sta} {b : Nat} (h : whyNoPass c ws st b = "") : st.2.2[b]! < (ws[b]!).2.length := by
  unfold whyNoPass at h
  by_cases q : (ws[b]!).2.length ≤ st.2.2[b]!
  · rw [if_pos q] at h
    exact absurd h (by decide)
  · omega
theorem night_ok {c : Cnl} {ws : List Wy} {st : Sta} (h : whyNot c ws st .night = "") : st.1 < c.nights.length := by
  unfold whyNot at h
  by_cases q : st.1 < c.nights.length
  · exact q
  · dsimp only at h
    rw [if_neg q] at h
    exact absurd h (by decide)
theorem poursD_in {c : Cnl} {ws : List Wy} {st : Sta} (W : CW c) (S : SW c ws st) : ∀ {d : Deed}, DoW c ws st d → ∀ p ∈ poursD c ws st d, PrIn c.many p
  | .night, h => by
    have hn := night_ok h.2
    have hl := W.nw _ (mem_get hn)
    exact app_in (app_in (goneP_in W hl) (comeP_in W hl)) (weirPours_in W _)
  | .pass b, h => app_in (passPours_in W S h.1 (pass_ok h.2)) (weirPours_in W _)
  | .let_ k, h => app_in (letPours_in W h.1) (weirPours_in W _)
variable {pg : Pg} [Lib pg]
theorem s42 : Sc [("canal", true), ("ways", true), ("state", true), ("deed", true)] ["canal", "ways", "state", "deed"] ["why_no_pass", "len"] (defScope (top 42)) := sc_by (by decide +kernel)
theorem f_why_not : Fn pg 7 false "why_not" [] (Ct (fun a : Cnl × List Wy × Sta × Deed => CW a.1 ∧ SW a.1 a.2.1 a.2.2.1 ∧ DW a.1 a.2.1 a.2.2.2) (fun a => [.sh (eCnl pg a.1), .sh (.lst (a.2.1.map eWy)), .sh (eSta a.2.2.1), .sh (eDeed a.2.2.2)]) fun a => .sh (.str (whyNot a.1 a.2.1 a.2.2.1 a.2.2.2))) := by
  refine fn_ct 42 23 rfl s42 (fun _ => rfl) (fun _ _ _ _ _ _ us hl => match us, hl with | [_, _, _, _], _ => rfl) ?_
  rintro Γ ⟨c, ws, st, d⟩ ⟨W, S, hd⟩
  dsimp only at W S hd ⊢
  cases d with
  | pass b =>
    exact xss_cons (xs_if (xt_cmp (xe_ixt (xv 3 rfl)) xe_str o_eqS) (fun q => xss_one (xs_ret (xe_call f_why_no_pass (XA.sh ((xv 0 rfl)) (XA.sh ((xv 1 rfl)) (XA.sh ((xv 2 rfl)) (XA.sh (xe_ixt (xv 3 rfl)) XA.nil)))) 0 ⟨(c, ws, st, b), ⟨W, S, hd⟩, rfl, rfl⟩) rfl)) (fun q => xss_no (absurd q (by decide))))
  | let_ k =>
    have hch : c.chamber k < st.2.1.length := by rw [S.wa]; exact chamber_lt hd
    refine xss_cons (xs_if (xt_cmp (xe_ixt (xv 3 rfl)) xe_str o_eqS) (fun q => xss_no (absurd q (by decide))) (fun q => xss_nil ?_))
    refine xss_cons (xs_if (xt_cmp (xe_ixt (xv 3 rfl)) xe_str o_eqS) (fun q => ?_) (fun q => xss_no (absurd q (by decide))))
    refine xss_cons (xs_if (xt_val (xe_meth m_full (XE.rcv (xv 0 rfl)) (.inl ⟨_, rfl, rfl⟩) (XA.sh (xe_ixt (xv 2 rfl)) (XA.sh (xe_ixt (xv 3 rfl)) XA.nil)) ⟨(c, st.2.1, k), hch, rfl, rfl⟩)) (fun q => xss_one (xs_ret xe_str (rz_str ?_))) (fun q => xss_nil ?_))
    · show _ = if c.full st.2.1 k then _ else _
      rw [if_pos q]
    · refine xss_one (xs_ret xe_str (rz_str ?_))
      show _ = if c.full st.2.1 k then _ else _
      rw [if_neg (by rw [q]; exact Bool.false_ne_true)]
  | night =>
    refine xss_cons (xs_if (xt_cmp (xe_ixt (xv 3 rfl)) xe_str o_eqS) (fun q => xss_no (absurd q (by decide))) (fun q => xss_nil ?_))
    refine xss_cons (xs_if (xt_cmp (xe_ixt (xv 3 rfl)) xe_str o_eqS) (fun q => xss_no (absurd q (by decide))) (fun q => xss_nil ?_))
    refine xss_cons (xs_if ((xt_cmp (xe_ixt (xv 2 rfl)) (xe_lenL (f_nights (xv 0 rfl)) 1) o_lt).to (c' := decide (st.1 < c.nights.length)) (by rw [List.length_map]; exact decide_eq_decide.mpr Int.ofNat_lt)) (fun q => xss_one (xs_ret xe_str (rz_str ?_))) (fun q => xss_nil ?_))
    · show _ = if st.1 < c.nights.length then _ else _
      rw [if_pos (of_decide_eq_true q)]
    · refine xss_one (xs_ret xe_str (rz_str ?_))
      show _ = if st.1 < c.nights.length then _ else _
      rw [if_neg (of_decide_eq_false q)]
theorem s43 : Sc [("canal", true), ("ways", true), ("state", true), ("deed", true), ("row", true)] ["canal", "ways", "state", "deed"] ["why_not", "NotNow", "night_pours", "pass_pours", "let_pours", "weir_pours", "poured_all"] (defScope (top 43)) := sc_by (by decide +kernel)
theorem f_pours : Fn pg 8 false "pours" [] (Ct (fun a : Cnl × List Wy × Sta × Deed => CW a.1 ∧ SW a.1 a.2.1 a.2.2.1 ∧ DoW a.1 a.2.1 a.2.2.1 a.2.2.2) (fun a => [.sh (eCnl pg a.1), .sh (.lst (a.2.1.map eWy)), .sh (eSta a.2.2.1), .sh (eDeed a.2.2.2)]) fun a => .ow (.lst ((poursD a.1 a.2.1 a.2.2.1 a.2.2.2).map ePr))) := by
  refine fn_ct 43 24 rfl s43 (fun _ => rfl) (fun _ _ _ _ _ _ us hl => match us, hl with | [_, _, _, _], _ => rfl) ?_
  rintro Γ ⟨c, ws, st, d⟩ ⟨W, S, hd⟩
  dsimp only at W S hd ⊢
  have hm := W.many_le
  have hr := W.rm
  refine xss_cons (xs_if (xt_cmp (xe_call f_why_not (XA.sh ((xv 0 rfl)) (XA.sh ((xv 1 rfl)) (XA.sh ((xv 2 rfl)) (XA.sh ((xv 3 rfl)) XA.nil)))) 0 ⟨(c, ws, st, d), ⟨W, S, hd.1⟩, rfl, rfl⟩) xe_str o_neS) (fun q => xss_no ?_) (fun q => xss_nil ?_))
  · dsimp only at q
    rw [hd.2] at q
    exact absurd q (by decide)
  cases d with
  | night =>
    have hn := night_ok hd.2
    exact xss_cons (xs_if (xt_cmp (xe_ixt (xv 3 rfl)) xe_str o_eqS) (fun q => xss_one (xs_retO (xo_call f_night_pours (XA.sh ((xv 0 rfl)) (XA.sh ((xv 2 rfl)) (XA.sh (xe_ixL (f_nights (xv 0 rfl)) (xe_ixt (xv 2 rfl)) rfl (at_map (f := eNight) hn)) XA.nil))) 2 ⟨(c, st, c.nights[st.1]!, false), ⟨W, S.wa, W.nw _ (mem_get hn)⟩, rfl, rfl⟩) rfl)) (fun q => xss_no (absurd q (by decide))))
  | pass b =>
    refine xss_cons (xs_if (xt_cmp (xe_ixt (xv 3 rfl)) xe_str o_eqS) (fun q => xss_no (absurd q (by decide))) (fun q => xss_nil ?_))
    refine xss_cons (xs_if (xt_cmp (xe_ixt (xv 3 rfl)) xe_str o_eqS) (fun q => xss_one (xs_set 4 (XO.lst (xo_call f_pass_pours (XA.sh ((xv 0 rfl)) (XA.sh ((xv 1 rfl)) (XA.sh ((xv 2 rfl)) (XA.sh (xe_ixt (xv 3 rfl)) XA.nil)))) 3 ⟨(c, ws, st, b), ⟨W, S, hd.1, pass_ok hd.2⟩, rfl, rfl⟩)) ?_)) (fun q => xss_no (absurd q (by decide))))
    refine xss_one (xs_retO (xo_cat (XE.l (xv 4 rfl)) (XO.l (xo_call f_weir_pours (XA.sh ((xv 0 rfl)) (XA.sh (xe_call f_poured (XA.sh (xe_ixt (xv 2 rfl)) (XA.sh ((xv 4 rfl)) XA.nil)) 6 ⟨(st.2.1, passPours c ws st b), ⟨?_, by dsimp only; rw [S.wa]; exact hm.2⟩, rfl, rfl⟩) XA.nil)) 5 ⟨(c, pourAll st.2.1 (passPours c ws st b)), ⟨W, by dsimp only; rw [pourAll_len]; exact S.wa⟩, rfl, rfl⟩)) ?_) ?_)
    · dsimp only
      rw [S.wa]
      exact passPours_in W S hd.1 (pass_ok hd.2)
    · have h1 := passPours_len (c := c) (ws := ws) (st := st) b
      have h3 := weirPours_len (c := c) (pourAll st.2.1 (passPours c ws st b))
      dsimp only
      rw [List.length_map, List.length_map]
      omega
    · show Rz.ow _ = Rz.ow _
      unfold poursD
      dsimp only
      rw [List.map_append]
  | let_ k =>
    refine xss_cons (xs_if (xt_cmp (xe_ixt (xv 3 rfl)) xe_str o_eqS) (fun q => xss_no (absurd q (by decide))) (fun q => xss_nil ?_))
    refine xss_cons (xs_if (xt_cmp (xe_ixt (xv 3 rfl)) xe_str o_eqS) (fun q => xss_no (absurd q (by decide))) (fun q => xss_one (xs_set 4 (XO.lst (xo_call f_let_pours (XA.sh ((xv 0 rfl)) (XA.sh ((xv 2 rfl)) (XA.sh (xe_ixt (xv 3 rfl)) XA.nil))) 4 ⟨(c, st, k), ⟨S.wa, hd.1⟩, rfl, rfl⟩)) ?_)))
    refine xss_one (xs_retO (xo_cat (XE.l (xv 4 rfl)) (XO.l (xo_call f_weir_pours (XA.sh ((xv 0 rfl)) (XA.sh (xe_call f_poured (XA.sh (xe_ixt (xv 2 rfl)) (XA.sh ((xv 4 rfl)) XA.nil)) 6 ⟨(st.2.1, letPours c st k), ⟨?_, by dsimp only; rw [S.wa]; exact hm.2⟩, rfl, rfl⟩) XA.nil)) 5 ⟨(c, pourAll st.2.1 (letPours c st k)), ⟨W, by dsimp only; rw [pourAll_len]; exact S.wa⟩, rfl, rfl⟩)) ?_) ?_)
    · dsimp only
      rw [S.wa]
      exact letPours_in W hd.1
    · have h1 := letPours_len (c := c) (st := st) k
      have h3 := weirPours_len (c := c) (pourAll st.2.1 (letPours c st k))
      dsimp only
      rw [List.length_map, List.length_map]
      omega
    · show Rz.ow _ = Rz.ow _
      unfold poursD
      dsimp only
      rw [List.map_append]
theorem s44 : Sc [("canal", true), ("ways", true), ("state", true), ("deed", true), ("waters", true), ("places", true)] ["canal", "ways", "state", "deed"] ["poured_all", "pours", "list", "tuple"] (defScope (top 44)) := sc_by (by decide +kernel)
theorem f_after : Fn pg 9 false "after" [] (Ct (fun a : Cnl × List Wy × Sta × Deed => CW a.1 ∧ SW a.1 a.2.1 a.2.2.1 ∧ DoW a.1 a.2.1 a.2.2.1 a.2.2.2) (fun a => [.sh (eCnl pg a.1), .sh (.lst (a.2.1.map eWy)), .sh (eSta a.2.2.1), .sh (eDeed a.2.2.2)]) fun a => .sh (eSta (after a.1 a.2.1 a.2.2.1 a.2.2.2))) := by
  refine fn_ct 44 25 rfl s44 (fun _ => rfl) (fun _ _ _ _ _ _ us hl => match us, hl with | [_, _, _, _], _ => rfl) ?_
  rintro Γ ⟨c, ws, st, d⟩ ⟨W, S, hd⟩
  dsimp only at W S hd ⊢
  have hm := W.many_le
  refine xss_cons (xs_set 4 (xe_call f_poured (XA.sh (xe_ixt (xv 2 rfl)) (XA.sh (XO.lst (xo_call f_pours (XA.sh ((xv 0 rfl)) (XA.sh ((xv 1 rfl)) (XA.sh ((xv 2 rfl)) (XA.sh ((xv 3 rfl)) XA.nil)))) 1 ⟨(c, ws, st, d), ⟨W, S, hd⟩, rfl, rfl⟩)) XA.nil)) 0 ⟨(st.2.1, poursD c ws st d), ⟨?_, by dsimp only; rw [S.wa]; exact hm.2⟩, rfl, rfl⟩) ?_)
  · dsimp only
    rw [S.wa]
    exact poursD_in W S hd
  cases d with
  | night =>
    exact xss_cons (xs_if (xt_cmp (xe_ixt (xv 3 rfl)) xe_str o_eqS) (fun q => xss_one (xs_ret (tup (XB.sh ((xe_op (xe_ixt (xv 2 rfl)) xe_int o_add).to (da := eN (st.1 + 1)) (congrArg D.int (Int.natCast_add st.1 1).symm)) (XB.sh ((xv 4 rfl)) (XB.sh (xe_ixt (xv 2 rfl)) XB.nil)))) rfl)) (fun q => xss_no (absurd q (by decide))))
  | pass b =>
    have hb : b < st.2.2.length := by rw [S.pl]; exact hd.1
    refine xss_cons (xs_if (xt_cmp (xe_ixt (xv 3 rfl)) xe_str o_eqS) (fun q => xss_no (absurd q (by decide))) (fun q => xss_nil ?_))
    refine xss_cons (xs_setO 5 (xo_listT (xe_ixt (xv 2 rfl)) 2) ?_)
    refine xss_cons (xs_if (xt_cmp (xe_ixt (xv 3 rfl)) xe_str o_eqS) (fun q => xss_one (xs_setitem 5 rfl (xe_op (xe_ixO 5 rfl (xe_ixt (xv 3 rfl)) rfl (at_map (f := eN) hb)) xe_int o_add) (xe_ixt (xv 3 rfl)) rfl (by rw [List.length_map]; exact hb) ?_)) (fun q => xss_no (absurd q (by decide))))
    refine xss_one (xs_ret (tup (XB.sh (xe_ixt (xv 2 rfl)) (XB.sh ((xv 4 rfl)) (XB.sh (xe_tupleP (xpv 5 (.inl rfl)) 3) XB.nil)))) ?_)
    show Rz.sh _ = Rz.sh _
    unfold after eSta eNats
    dsimp only
    rw [List.map_set]
    rfl
  | let_ k =>
    refine xss_cons (xs_if (xt_cmp (xe_ixt (xv 3 rfl)) xe_str o_eqS) (fun q => xss_no (absurd q (by decide))) (fun q => xss_nil ?_))
    refine xss_cons (xs_setO 5 (xo_listT (xe_ixt (xv 2 rfl)) 2) ?_)
    refine xss_cons (xs_if (xt_cmp (xe_ixt (xv 3 rfl)) xe_str o_eqS) (fun q => xss_no (absurd q (by decide))) (fun q => xss_nil ?_))
    exact xss_one (xs_ret (tup (XB.sh (xe_ixt (xv 2 rfl)) (XB.sh ((xv 4 rfl)) (XB.sh (xe_tupleP (xpv 5 (.inl rfl)) 3) XB.nil)))) rfl)
theorem s45 : Sc [("canal", true), ("ways", true), ("state", true), ("every", true), ("boat", false), ("k", false), ("deed", false)] ["canal", "ways", "state"] ["range", "len"] (defScope (top 45)) := sc_by (by decide +kernel)
theorem f_may : Fn pg 8 false "may" [] (Ct (fun a : Cnl × List Wy × Sta => CW a.1 ∧ SW a.1 a.2.1 a.2.2) (fun a => [.sh (eCnl pg a.1), .sh (.lst (a.2.1.map eWy)), .sh (eSta a.2.2)]) fun a => .ow (.lst ((may a.1 a.2.1 a.2.2).map eDeed))) := by
  refine fn_ct 45 26 rfl s45 (fun _ => rfl) (fun _ _ _ _ _ _ us hl => match us, hl with | [_, _, _], _ => rfl) ?_
  rintro Γ ⟨c, ws, st⟩ ⟨W, S⟩
  dsimp only at W S ⊢
  have hwl := W.lm
  have hsl := S.wl
  have hll : c.locks.length ≤ 10 := hwl
  refine xss_cons (xs_setLc 3 (lc_m (zs := List.range ws.length) (f := eN) (g := fun b => eDeed (.pass b)) 4 [("canal", false), ("ways", false), ("state", false), ("every", false), ("boat", true), ("k", false), ("deed", false)] [] (by decide +kernel) (XE.itR ((xe_lenL (xv 1 rfl) 1).to (by rw [List.length_map])) (by omega) 0 (Bl.range (pg := pg))) (by rw [List.length_range]; omega) (fun _ _ _ _ => tup (XB.sh (xe_str) (XB.sh ((xv 4 rfl)) XB.nil)))) ?_ (by decide +kernel))
  refine xss_cons (xs_setO 3 (xo_cat (XP.l (xpv 3 (.inl rfl))) (XO.l (lc_m (zs := List.range c.nl) (f := eN) (g := fun b => eDeed (.let_ b)) 5 [("canal", false), ("ways", false), ("state", false), ("every", false), ("boat", false), ("k", true), ("deed", false)] [] (by decide +kernel) (XE.itR ((xe_lenL (f_locks (xv 0 rfl)) 1).to (by rw [List.length_map])) (by omega) 0 (Bl.range (pg := pg))) (by rw [List.length_range]; omega) (fun _ _ _ _ => tup (XB.sh (xe_str) (XB.sh ((xv 5 rfl)) XB.nil)))).xo) (by simp; omega)) ?_)
  refine xss_cons (xs_append 3 rfl (tup (XB.sh (xe_str) XB.nil)) ?_ (by simp; omega))
  have ed : (List.range ws.length).map (fun b => eDeed (.pass b)) ++ (List.range c.nl).map (fun b => eDeed (.let_ b)) ++ [.tup [.str "night"]] = (deeds c ws).map eDeed := by
    unfold deeds
    rw [List.map_append, List.map_append, List.map_map, List.map_map]
    rfl
  refine xss_one (xs_retO (lc_d (zs := deeds c ws) (f := eDeed) (t := fun d => decide (whyNot c ws st d = "")) (g := eDeed) 6 [("canal", true), ("ways", true), ("state", true), ("every", false), ("boat", false), ("k", false), ("deed", true)] ["why_not"] (by decide +kernel) (XL.it (XP.l (xpv 3 (.inl (congrArg some (congrArg (fun z => Sl.ow (.lst z)) ed)))))) (by unfold deeds; simp; omega) (fun sc' Γ' d hd => .one (xt_cmp (xe_call f_why_not (XA.sh ((xv 0 rfl)) (XA.sh ((xv 1 rfl)) (XA.sh ((xv 2 rfl)) (XA.sh ((xv 6 rfl)) XA.nil)))) 0 ⟨(c, ws, st, d), ⟨W, S, ?_⟩, rfl, rfl⟩) xe_str o_eqS)) (fun _ _ _ _ _ => (xv 6 rfl))).xo rfl)
  dsimp only
  rcases List.mem_append.mp hd with h | h
  · rcases List.mem_append.mp h with h | h
    · obtain ⟨b, hb, rfl⟩ := List.mem_map.mp h
      exact List.mem_range.mp hb
    · obtain ⟨b, hb, rfl⟩ := List.mem_map.mp h
      exact List.mem_range.mp hb
  · rw [List.mem_singleton.mp h]
    exact trivial
end Lk
set_option maxHeartbeats 400000
namespace Lk
open PySem PySem.Spec PyProof.Rows L2
/-! ### the search, in plain Lean -/
theorem SW.after {c : Cnl} {ws : List Wy} {st : Sta} (S : SW c ws st) (d : Deed) : SW c ws (after c ws st d) := by
  cases d with
  | night => exact ⟨S.wl, S.pl, (pourAll_len _ _).trans S.wa, S.wy, S.w2⟩
  | pass b => exact ⟨S.wl, (List.length_set ..).trans S.pl, (pourAll_len _ _).trans S.wa, S.wy, S.w2⟩
  | let_ k => exact ⟨S.wl, S.pl, (pourAll_len _ _).trans S.wa, S.wy, S.w2⟩
theorem mem_deeds {c : Cnl} {ws : List Wy} {d : Deed} (h : d ∈ deeds c ws) : DW c ws d := by
  rcases List.mem_append.mp h with h | h
  · rcases List.mem_append.mp h with h | h
    · obtain ⟨b, hb, rfl⟩ := List.mem_map.mp h
      exact List.mem_range.mp hb
    · obtain ⟨b, hb, rfl⟩ := List.mem_map.mp h
      exact List.mem_range.mp hb
  · rw [List.mem_singleton.mp h]
    exact trivial
theorem mem_may {c : Cnl} {ws : List Wy} {st : Sta} {d : Deed} (h : d ∈ may c ws st) : DoW c ws st d := by
  obtain ⟨h1, h2⟩ := List.mem_filter.mp h
  exact ⟨mem_deeds h1, of_decide_eq_true h2⟩
/-- what a state leads to -/
def choices (c : Cnl) (ws : List Wy) (s : Sta) : List (Deed × Sta) := (may c ws s).map fun d => (d, after c ws s d)
abbrev Met := List (Sta × Option (Sta × Deed))
def inMet (m : Met) (s : Sta) : Bool := m.any fun p => decide (p.1 = s)
def step1 (most : Nat) (src : Sta) (a : Met × List Sta) (x : Deed × Sta) : Option (Met × List Sta) :=
  if inMet a.1 x.2 then some a else if most ≤ a.1.length then none else some (a.1 ++ [(x.2, some (src, x.1))], a.2 ++ [x.2])
def stepS (most : Nat) (c : Cnl) (ws : List Wy) (a : Met × List Sta) (s : Sta) : Option (Met × List Sta) := (choices c ws s).foldlM (step1 most s) a
def nextLayer (c : Cnl) (ws : List Wy) (layer : List Sta) (m : Met) (most : Nat) : Option (Met × List Sta) := layer.foldlM (stepS most c ws) (m, [])
theorem foldlM_none {α β : Type} (f : β → α → Option β) (xs : List α) : ∀ {k : Nat} {b : β}, (xs.take k).foldlM f b = none → xs.foldlM f b = none := by
  induction xs with
  | nil => intro k b h; rw [List.take_nil] at h; exact h
  | cons x xs ih =>
    intro k b h
    cases k with
    | zero => cases h
    | succ k =>
      rw [List.take_succ_cons, List.foldlM_cons] at h
      rw [List.foldlM_cons]
      cases q : f b x with
      | none => rfl
      | some b' =>
        rw [q] at h
        exact ih h
theorem foldlM_take {α β : Type} [Inhabited α] (f : β → α → Option β) (xs : List α) {k : Nat} {b : β} (hk : k < xs.length) : (xs.take (k + 1)).foldlM f b = ((xs.take k).foldlM f b).bind fun z => f z xs[k]! := by
  rw [List.take_succ, List.getElem?_eq_getElem hk, getElem!_pos xs k hk, List.foldlM_append]
  cases (xs.take k).foldlM f b with
  | none => rfl
  | some z =>
    show List.foldlM f z [xs[k]] = f z xs[k]
    rw [List.foldlM_cons]
    cases f z xs[k] <;> rfl
def eChoice (x : Deed × Sta) : D := .tup [eDeed x.1, eSta x.2]
def eVal : Option (Sta × Deed) → D
  | none => .non
  | some (p, d) => .tup [eSta p, eDeed d]
def eMet (m : Met) : List (D × D) := m.map fun p => (eSta p.1, eVal p.2)
/-! keys -/
theorem nkeys_ints : ∀ {xs ys : List Int}, nkey.nkeys (xs.map D.int) = nkey.nkeys (ys.map D.int) → xs = ys
  | [], [], _ => rfl
  | [], _ :: _, h => by cases h
  | _ :: _, [], h => by cases h
  | x :: xs, y :: ys, h => by
    have h : NestedKey.num x :: nkey.nkeys (xs.map D.int) = NestedKey.num y :: nkey.nkeys (ys.map D.int) := h
    injection h with h1 h2
    injection h1 with h1
    rw [h1, nkeys_ints h2]
theorem nkeys_nats : ∀ {xs ys : List Nat}, nkey.nkeys (xs.map eN) = nkey.nkeys (ys.map eN) → xs = ys
  | [], [], _ => rfl
  | [], _ :: _, h => by cases h
  | _ :: _, [], h => by cases h
  | x :: xs, y :: ys, h => by
    have h : NestedKey.num x :: nkey.nkeys (xs.map eN) = NestedKey.num y :: nkey.nkeys (ys.map eN) := h
    injection h with h1 h2
    injection h1 with h1
    rw [Int.ofNat.inj h1, nkeys_nats h2]
theorem nkey_sta {s t : Sta} (h : nkey (eSta s) = nkey (eSta t)) : s = t := by
  obtain ⟨d, w, p⟩ := s
  obtain ⟨d', w', p'⟩ := t
  have h : NestedKey.tup [NestedKey.num d, NestedKey.tup (nkey.nkeys (w.map D.int)), NestedKey.tup (nkey.nkeys (p.map eN))] = NestedKey.tup [NestedKey.num d', NestedKey.tup (nkey.nkeys (w'.map D.int)), NestedKey.tup (nkey.nkeys (p'.map eN))] := h
  injection h with h
  injection h with h1 h
  injection h with h2 h
  injection h with h3 _
  injection h1 with h1
  injection h2 with h2
  injection h3 with h3
  rw [Int.ofNat.inj h1, nkeys_ints h2, nkeys_nats h3]
theorem kd_sta (s : Sta) : KD 8 (eSta s) := by
  intro d hd
  rcases List.mem_cons.mp hd with h | hd
  · rw [h]; exact trivial
  · rcases List.mem_cons.mp hd with h | hd
    · rw [h]
      intro e he
      obtain ⟨i, _, rfl⟩ := List.mem_map.mp he
      exact trivial
    · rcases List.mem_cons.mp hd with h | hd
      · rw [h]
        intro e he
        obtain ⟨i, _, rfl⟩ := List.mem_map.mp he
        exact trivial
      · cases hd
theorem eq_nkey (s t : Sta) : decide (nkey (eSta s) = nkey (eSta t)) = decide (s = t) := by
  by_cases h : s = t
  · rw [h, decide_eq_true rfl, decide_eq_true rfl]
  · rw [decide_eq_false h, decide_eq_false fun z => h (nkey_sta z)]
def mget (m : Met) (s : Sta) : Option (Option (Sta × Deed)) := (m.find? fun p => decide (p.1 = s)).map (·.2)
theorem dget_met (m : Met) (s : Sta) : dget (eMet m) (eSta s) = (mget m s).map eVal := by
  unfold dget mget eMet
  rw [List.find?_map]
  have : ((fun p : D × D => decide (nkey p.1 = nkey (eSta s))) ∘ fun p : Sta × Option (Sta × Deed) => (eSta p.1, eVal p.2)) = fun p => decide (p.1 = s) := by
    funext p
    exact eq_nkey p.1 s
  rw [this, Option.map_map, Option.map_map]
  rfl
theorem inMet_get (m : Met) (s : Sta) : inMet m s = (mget m s).isSome := by
  unfold inMet mget
  rw [Option.isSome_map]
  induction m with
  | nil => rfl
  | cons p m ih =>
    rw [List.any_cons, List.find?_cons]
    by_cases h : p.1 = s
    · rw [decide_eq_true h]; rfl
    · rw [decide_eq_false h]; exact ih
theorem dput_met {m : Met} {s : Sta} {v : Option (Sta × Deed)} (h : inMet m s = false) : dput (eMet m) (eSta s) (eVal v) = eMet (m ++ [(s, v)]) := by
  unfold dput
  rw [dget_met, Option.isSome_map, ← inMet_get, h]
  show eMet m ++ _ = _
  unfold eMet
  rw [List.map_append]
  rfl
/-- the keys of a table of states told apart -/
def MetN (m : Met) : Prop := (m.map (·.1)).Nodup
theorem MetN.kn {m : Met} (h : MetN m) : KN (eMet m) := by
  refine ⟨fun p hp => ?_, ?_⟩
  · obtain ⟨q, _, rfl⟩ := List.mem_map.mp hp
    exact kd_sta _
  · unfold eMet
    rw [List.map_map]
    have h : (m.map (·.1)).Pairwise (· ≠ ·) := h
    rw [List.pairwise_map] at h
    exact List.pairwise_map.mpr (h.imp fun hne z => hne (nkey_sta z))
theorem MetN.put {m : Met} {s : Sta} {v : Option (Sta × Deed)} (K : MetN m) (h : inMet m s = false) : MetN (m ++ [(s, v)]) := by
  unfold MetN
  rw [List.map_append, List.nodup_append]
  refine ⟨K, by simp, fun a ha b hb e => ?_⟩
  have hb : b = s := by simpa using hb
  obtain ⟨p, hp, rfl⟩ := List.mem_map.mp ha
  have : inMet m s = true := by
    unfold inMet
    rw [List.any_eq_true]
    exact ⟨p, hp, decide_eq_true (by rw [e, hb])⟩
  rw [h] at this
  cases this
end Lk
set_option maxHeartbeats 400000
namespace Lk
open PySem PySem.Spec PyProof.Rows L2
variable {pg : Pg} [Lib2 pg]
/-! ### the made functions -/
def eAhead : Expr := match C8.fnBody (cloK 0).st with
  | [.Return (some e) _] => e
  | _ => .Name "" ⟨0, 0, 0, 0⟩
def eEnded : Expr := match C8.fnBody (cloK 1).st with
  | [.Return (some e) _] => e
  | _ => .Name "" ⟨0, 0, 0, 0⟩
def CcA (pg : Pg) : List D → List Ar → Rz → Prop := fun ds ags r => ∃ c ws s, CW c ∧ SW c ws s ∧ ds = [eCnl pg c, .lst (ws.map eWy)] ∧ ags = [.sh (eSta s)] ∧ r = .ow (.lst ((choices c ws s).map eChoice))
def CcE : List D → List Ar → Rz → Prop := fun ds ags r => ∃ (ws : List Wy) (s : Sta), ws.length ≤ 10 ∧ s.2.2.length = ws.length ∧ ds = [.lst (ws.map eWy)] ∧ ags = [.sh (eSta s)] ∧ r = .sh (.bl (allHome ws s))
def nA : List (Str × Bool) := [("state", true), ("canal", true), ("ways", true), ("deed", false)]
def nE : List (Str × Bool) := [("state", true), ("ways", true)]
theorem vis_by {N : List (Str × Bool)} {sc : Scope} (h : (N.all fun x => !x.2 || (decide (sc.names.lookup x.1 = some .local) || decide (sc.names.lookup x.1 = some .cell) || decide (sc.names.lookup x.1 = some .free))) = true) : ∀ (i : Nat) z, N[i]? = some (z, true) → Vis sc z := by
  intro i z e
  have := List.all_eq_true.mp h _ (List.mem_of_getElem? e)
  simp only [Bool.not_true, Bool.false_or, Bool.or_eq_true, decide_eq_true_eq] at this
  rcases this with (q | q) | q
  · exact .inl q
  · exact .inr (.inl q)
  · exact .inr (.inr q)
theorem tA : ClT 0 "state" nA ["may"] eAhead := by
  refine ⟨⟨_, rfl⟩, rfl, fun i hi => ?_, vis_by (by decide +kernel), fun z hz => ?_⟩
  · have hi : i < 2 := hi
    match i, hi with
    | 0, _ => rfl
    | 1, _ => rfl
  · rw [List.mem_singleton.mp hz]
    decide +kernel
theorem tE : ClT 1 "state" nE ["all_home"] eEnded := by
  refine ⟨⟨_, rfl⟩, rfl, fun i hi => ?_, vis_by (by decide +kernel), fun z hz => ?_⟩
  · have hi : i < 1 := hi
    match i, hi with
    | 0, _ => rfl
  · rw [List.mem_singleton.mp hz]
    decide +kernel
theorem cA : ClC 0 "state" nA := by
  refine ⟨rfl, rfl, rfl, by decide +kernel, by decide, by decide +kernel, ?_, ?_, ?_, fun _ _ => rfl, fun _ => rfl⟩
  · have h : ((cloK 0).fr.all fun x => decide ((C8.fnScope (cloK 0).st).names.lookup x = some .free)) = true := by decide +kernel
    exact fun x hx => of_decide_eq_true (List.all_eq_true.mp h x hx)
  · have h : ((C8.fnScope (cloK 0).st).names.all fun z => !decide (z.2 = .free) || decide (z.1 ∈ (cloK 0).fr)) = true := by decide +kernel
    intro z hz e
    have := List.all_eq_true.mp h z hz
    rw [e] at this
    simpa using this
  · have h : ((C8.fnScope (cloK 0).st).names.all fun z => !decide (z.2 = .cell) || decide (z.1 = "state")) = true := by decide +kernel
    intro z hz e
    have := List.all_eq_true.mp h z hz
    rw [e] at this
    simpa using this
theorem f_ahead : CloF pg 10 0 (CcA pg) := by
  refine clo_cell tA cA (fun cl c doc pm ctv us hl => match us, hl with | [_], _ => rfl) (fun ds ags r ⟨c, ws, s, _, _, h1, h2, _⟩ => by rw [h1, h2]; exact ⟨rfl, rfl⟩) ?_
  rintro Γ _ _ _ ⟨c, ws, s, W, S, rfl, rfl, rfl⟩
  have := S.wl
  have hm : (may c ws s).length ≤ 1000 := by
    have h1 := List.length_filter_le (fun d => decide (whyNot c ws s d = "")) (deeds c ws)
    have h2 : (deeds c ws).length = ws.length + c.nl + 1 := by unfold deeds; simp [Nat.add_assoc]
    have := W.lm
    unfold may
    omega
  have e : (choices c ws s).map eChoice = (may c ws s).map fun d => eChoice (d, after c ws s d) := by unfold choices; rw [List.map_map]; rfl
  rw [e]
  exact (lc_m (zs := may c ws s) (f := eDeed) (g := fun d => eChoice (d, after c ws s d)) 3 [("state", true), ("canal", true), ("ways", true), ("deed", true)] ["after"] (by decide +kernel) (XL.it (XO.l (xo_call f_may (XA.sh (xv 1 rfl) (XA.sh (xv 2 rfl) (XA.sh (xv 0 rfl) XA.nil))) 0 ⟨(c, ws, s), ⟨W, S⟩, rfl, rfl⟩))) (by omega)
    (fun sc' Γ' d hd => tup (XB.sh (xv 3 rfl) (XB.sh (xe_call f_after (XA.sh (xv 1 rfl) (XA.sh (xv 2 rfl) (XA.sh (xv 0 rfl) (XA.sh (xv 3 rfl) XA.nil)))) 0 ⟨(c, ws, s, d), ⟨W, S, mem_may hd⟩, rfl, rfl⟩) XB.nil)))).xo
theorem f_ended : CloF pg 2 1 CcE := by
  refine clo_loc tE (NdefX.nscope_by (by decide +kernel)) (fun cl c doc pm ctv us hl => match us, hl with | [_], _ => rfl) (fun ds ags r ⟨ws, s, _, _, h1, h2, _⟩ => by rw [h1, h2]; exact ⟨rfl, rfl⟩) ?_
  rintro Γ _ _ _ ⟨ws, s, h1, h2, rfl, rfl, rfl⟩
  exact xe_call f_all_home (XA.sh (xv 1 rfl) (XA.sh (xv 0 rfl) XA.nil)) 0 ⟨(ws, s), ⟨h1, h2⟩, rfl, rfl⟩
end Lk
set_option maxHeartbeats 400000
namespace Lk
open PySem PySem.Spec PyProof.Rows L2
variable {pg : Pg} [Lib2 pg]
theorem nc_wy (w : Wy) : nc (eWy w) = true := by
  have h : ncs (w.2.map eStep) = true := ncs_map (fun _ => rfl) _
  show (true && ((ncs (w.2.map eStep)) && true)) = true
  rw [h]
  rfl
theorem nc_sta (s : Sta) : nc (eSta s) = true := by
  have h1 : ncs (s.2.1.map D.int) = true := ncs_map (fun _ => rfl) _
  have h2 : ncs (s.2.2.map eN) = true := ncs_map (fun _ => rfl) _
  show (true && (ncs (s.2.1.map D.int) && (ncs (s.2.2.map eN) && true))) = true
  rw [h1, h2]
  rfl
theorem nc_lck (l : Lck) : nc (eLck pg l) = true := by
  obtain ⟨kd, nm, hi, lo, rm⟩ := l
  cases kd <;> rfl
theorem nc_cnl (c : Cnl) : nc (eCnl pg c) = true := by
  have h1 : ncs (c.reaches.map (eRch pg)) = true := ncs_map (fun _ => rfl) _
  have h2 : ncs (c.locks.map (eLck pg)) = true := ncs_map (fun l => nc_lck l) _
  have h3 : ncs (c.nights.map eNight) = true := ncs_map (fun n => by show ncs (n.map eWth) = true; exact ncs_map (fun _ => rfl) _) _
  show (ncs (c.reaches.map (eRch pg)) && (ncs (c.locks.map (eLck pg)) && (ncs (c.nights.map eNight) && true))) = true
  rw [h1, h2, h3]
  rfl
theorem nc_env (c : Cnl) (ws : List Wy) : ncs [eCnl pg c, .lst (ws.map eWy)] = true := by
  have h : ncs (ws.map eWy) = true := ncs_map nc_wy _
  show (nc (eCnl pg c) && (ncs (ws.map eWy) && true)) = true
  rw [nc_cnl, h]
  rfl
theorem nc_ways (ws : List Wy) : ncs [.lst (ws.map eWy)] = true := by
  have h : ncs (ws.map eWy) = true := ncs_map nc_wy _
  show (ncs (ws.map eWy) && true) = true
  rw [h]
  rfl
abbrev eAh (pg : Pg) (c : Cnl) (ws : List Wy) : D := .clo 0 [eCnl pg c, .lst (ws.map eWy)]
abbrev eEn (ws : List Wy) : D := .clo 1 [.lst (ws.map eWy)]
/-! ### a layer -/
def nlRes (pg : Pg) : Option (Met × List Sta) → Rz
  | some (_, f) => .ow (.lst (f.map eSta))
  | none => .ex (ca pg "TooWide")
theorem stepS_len {most : Nat} {s : Sta} : ∀ (xs : List (Deed × Sta)) {a b : Met × List Sta}, xs.foldlM (step1 most s) a = some b → a.1.length ≤ b.1.length ∧ (a.1.length ≤ most → b.1.length ≤ most) ∧ b.2.length - a.2.length = b.1.length - a.1.length ∧ a.2.length ≤ b.2.length
  | [], a, b, h => by
    cases h
    exact ⟨Nat.le_refl _, id, by omega, Nat.le_refl _⟩
  | x :: xs, a, b, h => by
    rw [List.foldlM_cons] at h
    cases q : step1 most s a x with
    | none => rw [q] at h; cases h
    | some z =>
      rw [q] at h
      obtain ⟨h1, h2, h3, h4⟩ := stepS_len xs h
      unfold step1 at q
      split at q
      · cases q
        exact ⟨h1, h2, h3, h4⟩
      · split at q
        · cases q
        · rename_i hm
          cases q
          simp only [List.length_append, List.length_singleton] at h1 h2 h3 h4
          exact ⟨by omega, fun _ => h2 (by omega), by omega, by omega⟩
theorem s47 : Sc [("layer", true), ("ahead", true), ("met", true), ("most", true), ("found", true), ("state", true), ("deed", true), ("behind", true)] ["layer", "ahead", "met", "most"] ["len", "TooWide"] (defScope (top 47)) := sc_by (by decide +kernel)
theorem f_next : FnM pg 11 true "next_layer" (CtM (fun a : Cnl × List Wy × List Sta × Met × Nat => CW a.1 ∧ (∀ s ∈ a.2.2.1, SW a.1 a.2.1 s) ∧ MetN a.2.2.2.1 ∧ a.2.2.2.1.length ≤ a.2.2.2.2 ∧ a.2.2.2.2 ≤ 1000)
    (fun a => [.sh (.lst (a.2.2.1.map eSta)), .sh (eAh pg a.1 a.2.1), .mu (.dct (eMet a.2.2.2.1)) (.dct (eMet ((nextLayer a.1 a.2.1 a.2.2.1 a.2.2.2.1 a.2.2.2.2).getD ([], [])).1)), .sh (eN a.2.2.2.2)])
    fun a => nlRes pg (nextLayer a.1 a.2.1 a.2.2.1 a.2.2.2.1 a.2.2.2.2)) := by
  refine fnM_ct [2] 47 27 rfl s47 (fun _ => rfl) (fun _ => rfl) (fun _ _ _ _ _ _ us hl => match us, hl with | [_, _, _, _], _ => rfl) ?_
  rintro Γ ⟨c, ws, layer, m0, most⟩ ⟨W, hS, hm, hl, hmost⟩
  dsimp only at hS hm hl hmost ⊢
  have bad : ∀ ρx, nextLayer c ws layer m0 most = none → (finM true [Am.sh (.lst (layer.map eSta)), .sh (eAh pg c ws), .mu (.dct (eMet m0)) (.dct (eMet ((nextLayer c ws layer m0 most).getD ([], [])).1)), .sh (eN most)] (nlRes pg (nextLayer c ws layer m0 most))).ex (ca pg "TooWide") ρx := fun ρx h => ⟨rfl, by rw [h]; rfl⟩
  refine xss_cons (xs_setO 4 (lsO XB.nil) ?_)
  refine xss_mid (fun ρ => ∃ m f s5 s6 s7, nextLayer c ws layer m0 most = some (m, f) ∧ ρ = [.sh (.lst (layer.map eSta)), .sh (eAh pg c ws), .ow (.dct (eMet m)), .sh (eN most), .ow (.lst (f.map eSta)), s5, s6, s7])
    (xs_forL 5 (fun k ρ => ∃ m f s5 s6 s7, (layer.take k).foldlM (stepS most c ws) (m0, []) = some (m, f) ∧ MetN m ∧ m.length ≤ most ∧ f.length ≤ m.length ∧ ρ = [.sh (.lst (layer.map eSta)), .sh (eAh pg c ws), .ow (.dct (eMet m)), .sh (eN most), .ow (.lst (f.map eSta)), s5, s6, s7]) (xv 0 rfl) ⟨m0, [], _, _, _, rfl, hm, hl, Nat.zero_le _, rfl⟩ ?_ ?_) ?_
  · rintro k _ ρ hx ⟨m, f, s5, s6, s7, he, hm1, hm2, hm3, rfl⟩
    obtain ⟨hk, rfl⟩ := map_at hx
    have hs := hS _ (mem_get hk)
    have hin : inMet m layer[k]! = true ∨ True := .inr trivial
    refine xss_one (xs_forT2 6 7 (fun j ρ => ∃ m' f' s6 s7, ((choices c ws layer[k]!).take j).foldlM (step1 most layer[k]!) (m, f) = some (m', f') ∧ MetN m' ∧ m'.length ≤ most ∧ f'.length ≤ m'.length ∧ ρ = [.sh (.lst (layer.map eSta)), .sh (eAh pg c ws), .ow (.dct (eMet m')), .sh (eN most), .ow (.lst (f'.map eSta)), .sh (eSta layer[k]!), s6, s7])
      (fun j => eDeed ((choices c ws layer[k]!)[j]!).1) (fun j => eSta ((choices c ws layer[k]!)[j]!).2) (XO.lst (xo_clo (ds := [eCnl pg c, .lst (ws.map eWy)]) f_ahead 1 rfl (xv 5 rfl) (nc_sta _) (nc_env c ws) ⟨c, ws, layer[k]!, W, hs, rfl, rfl, rfl⟩)) (fun j hj => at_map (f := eChoice) (by simpa using hj)) ⟨m, f, _, _, rfl, hm1, hm2, hm3, rfl⟩ ?_ ?_)
    · rintro j ρ hj ⟨m', f', s6, s7, hf, hn1, hn2, hn3, rfl⟩
      rw [List.length_map] at hj
      have e1 := foldlM_take (step1 most layer[k]!) (choices c ws layer[k]!) (b := (m, f)) hj
      rw [hf] at e1
      have e1 : ((choices c ws layer[k]!).take (j + 1)).foldlM (step1 most layer[k]!) (m, f) = step1 most layer[k]! (m', f') (choices c ws layer[k]!)[j]! := e1
      have gi := dget_met m' ((choices c ws layer[k]!)[j]!).2
      refine xss_one (xs_if ((xt_notInM (xv 7 rfl) (xpv 2 (.inl rfl)) hn1.kn (kd_sta _)).to (c' := !inMet m' ((choices c ws layer[k]!)[j]!).2) (by show (!(dget (eMet m') (eSta _)).isSome) = _; rw [gi, Option.isSome_map, ← inMet_get])) (fun q => ?_) (fun q => xss_nil ?_))
      · have q : inMet m' ((choices c ws layer[k]!)[j]!).2 = false := by rw [Bool.not_eq_true'] at q; exact q
        refine xss_cons (xs_if ((xt_cmp (xe_lenM (xpv 2 (.inl rfl)) hn1.kn (by unfold eMet; rw [List.length_map]; omega) 0) (xv 3 rfl) o_ge).to (c' := decide (most ≤ m'.length)) (by unfold eMet; rw [List.length_map]; exact decide_eq_decide.mpr Int.ofNat_le)) (fun q2 => xss_one (xs_raise (Lib2.rz "TooWide" (by decide)) (bad [] ?_) 1)) (fun q2 => xss_nil ?_))
        · refine foldlM_none (stepS most c ws) layer (k := k + 1) ?_
          rw [foldlM_take _ _ hk, he]
          show stepS most c ws (m, f) layer[k]! = none
          refine foldlM_none (step1 most layer[k]!) _ (k := j + 1) ?_
          rw [e1]
          unfold step1
          rw [if_neg (by rw [q]; exact Bool.false_ne_true), if_pos (of_decide_eq_true q2)]
        · have q2 := of_decide_eq_false q2
          have es : step1 most layer[k]! (m', f') (choices c ws layer[k]!)[j]! = some (m' ++ [(((choices c ws layer[k]!)[j]!).2, some (layer[k]!, ((choices c ws layer[k]!)[j]!).1))], f' ++ [((choices c ws layer[k]!)[j]!).2]) := by
            unfold step1
            rw [if_neg (by rw [q]; exact Bool.false_ne_true), if_neg q2]
          refine xss_cons (xs_setM 2 rfl (tup (XB.sh ((xv 5 rfl)) (XB.sh ((xv 6 rfl)) XB.nil))) (xv 7 rfl) hn1.kn (kd_sta _) (by unfold eMet; rw [List.length_map]; omega) ?_)
          have ep : dput (eMet m') (eSta ((choices c ws layer[k]!)[j]!).2) (eVal (some (layer[k]!, ((choices c ws layer[k]!)[j]!).1))) = _ := dput_met q
          refine xss_one (xs_append 4 rfl (xv 7 rfl) ?_ (by rw [List.length_map]; omega))
          refine ⟨_, _, .sh (eDeed ((choices c ws layer[k]!)[j]!).1), .sh (eSta ((choices c ws layer[k]!)[j]!).2), e1.trans es, hn1.put q, by rw [List.length_append, List.length_singleton]; omega, ?_, ?_⟩
          · rw [List.length_append, List.length_append, List.length_singleton, List.length_singleton]; omega
          · rw [← ep, List.map_append]
            rfl
      · have q : inMet m' ((choices c ws layer[k]!)[j]!).2 = true := by rw [Bool.not_eq_false'] at q; exact q
        refine ⟨m', f', _, _, e1.trans ?_, hn1, hn2, hn3, rfl⟩
        unfold step1
        rw [if_pos q]
    · rintro ρ ⟨m', f', s6, s7, hf, hn1, hn2, hn3, rfl⟩
      rw [List.length_map, List.take_length] at hf
      refine ⟨m', f', _, _, _, ?_, hn1, hn2, hn3, rfl⟩
      rw [foldlM_take _ _ hk, he]
      exact hf
  · rintro ρ ⟨m, f, s5, s6, s7, he, hm1, hm2, hm3, rfl⟩
    rw [List.length_map, List.take_length] at he
    exact ⟨m, f, _, _, _, he, rfl⟩
  · rintro ρ ⟨m, f, s5, s6, s7, he, rfl⟩
    refine xss_one (xs_retV 4 rfl ⟨?_, fun i o o' e => ?_⟩)
    · rw [he]
      rfl
    · match i, e with
      | 0, e => cases e
      | 1, e => cases e
      | 2, e =>
        cases e
        rw [he]
        rfl
      | 3, e => cases e
end Lk
set_option maxHeartbeats 400000
namespace Lk
open PySem PySem.Spec PyProof.Rows L2
def firstEnded (ws : List Wy) (layer : List Sta) : List Sta := match layer.find? (allHome ws) with
  | some s => [s]
  | none => []
/-- the deeds back from a state to the first -/
inductive Path (m : Met) : Sta → List Deed → Prop
  | nil {s} : mget m s = some none → Path m s []
  | cons {s p d ds} : mget m s = some (some (p, d)) → Path m p ds → Path m s (d :: ds)
variable {pg : Pg} [Lib2 pg]
theorem f_choices_in : Fn pg 1 false "choices_in" [] (Ct (fun ds : List D => ds.length = 2) (fun ds => ds.map Ar.sh) fun ds => .sh (.clo 0 ds)) := by
  obtain ⟨f, fd, c, P, M⟩ := Lib2.mkf (pg := pg) 52 0 "choices_in" (by decide)
  exact mk_fn M mkT0 fun _ _ _ _ _ _ us hl => match us, hl with | [_, _], _ => rfl
theorem f_home_in : Fn pg 1 false "home_in" [] (Ct (fun ds : List D => ds.length = 1) (fun ds => ds.map Ar.sh) fun ds => .sh (.clo 1 ds)) := by
  obtain ⟨f, fd, c, P, M⟩ := Lib2.mkf (pg := pg) 53 1 "home_in" (by decide)
  exact mk_fn M mkT1 fun _ _ _ _ _ _ us hl => match us, hl with | [_], _ => rfl
theorem s48 : Sc [("layer", true), ("ended", true), ("state", true)] ["layer", "ended"] [] (defScope (top 48)) := sc_by (by decide +kernel)
theorem f_first : Fn pg 3 false "first_ended" [] (Ct (fun a : List Wy × List Sta => a.1.length ≤ 10 ∧ ∀ s ∈ a.2, s.2.2.length = a.1.length) (fun a => [.sh (.lst (a.2.map eSta)), .sh (eEn a.1)]) fun a => .ow (.lst ((firstEnded a.1 a.2).map eSta))) := by
  refine fn_ct 48 28 rfl s48 (fun _ => rfl) (fun _ _ _ _ _ _ us hl => match us, hl with | [_, _], _ => rfl) ?_
  rintro Γ ⟨ws, layer⟩ ⟨h1, h2⟩
  dsimp only at h1 h2 ⊢
  refine xss_mid (fun ρ => layer.find? (allHome ws) = none)
    (xs_forL 2 (fun k ρ => (layer.take k).find? (allHome ws) = none ∧ ∃ s2, ρ = [.sh (.lst (layer.map eSta)), .sh (eEn ws), s2]) (xv 0 rfl) ⟨by rw [List.take_zero]; rfl, _, rfl⟩ ?_ ?_) ?_
  · rintro k _ ρ hx ⟨hf, s2, rfl⟩
    obtain ⟨hk, rfl⟩ := map_at hx
    refine xss_one (xs_if (xt_val (xe_clo (ds := [.lst (ws.map eWy)]) f_ended 1 rfl (xv 2 rfl) (nc_sta _) (nc_ways ws) ⟨ws, layer[k]!, h1, h2 _ (mem_get hk), rfl, rfl, rfl⟩)) (fun q => xss_one (xs_retO (lsO (XB.sh ((xv 2 rfl)) XB.nil)) ?_)) (fun q => xss_nil ⟨?_, _, rfl⟩))
    · show Rz.ow _ = Rz.ow _
      have : layer.find? (allHome ws) = some layer[k]! := by
        have e : layer = layer.take k ++ layer[k]! :: layer.drop (k + 1) := by
          rw [getElem!_pos layer k hk, ← List.drop_eq_getElem_cons hk, List.take_append_drop]
        rw [e, List.find?_append, hf, ← e]
        show (List.find? (allHome ws) (layer[k]! :: _)) = _
        rw [List.find?_cons, q]
      unfold firstEnded
      rw [this]
      rfl
    · rw [List.take_succ, List.getElem?_eq_getElem hk, List.find?_append, hf]
      show List.find? (allHome ws) [layer[k]] = none
      rw [List.find?_cons, ← getElem!_pos layer k hk, q]
      rfl
  · rintro ρ ⟨hf, s2, rfl⟩
    rw [List.length_map, List.take_length] at hf
    exact hf
  · rintro ρ hf
    refine xss_one (xs_retO (lsO XB.nil) ?_)
    show Rz.ow _ = Rz.ow _
    unfold firstEnded
    rw [hf]
    rfl
theorem s49 : Sc [("state", true), ("met", true), ("row", true)] ["state", "met"] [] (defScope (top 49)) := sc_by (by decide +kernel)
theorem f_row_to : Fn pg 1 false "row_to" [] (Ct (fun a : Met × Sta × List Deed => MetN a.1 ∧ Path a.1 a.2.1 a.2.2 ∧ a.2.2.length ≤ 2000) (fun a => [.sh (eSta a.2.1), .pk (.dct (eMet a.1))]) fun a => .ow (.lst (a.2.2.reverse.map eDeed))) := by
  refine fn_ct 49 29 rfl s49 (fun _ => rfl) (fun _ _ _ _ _ _ us hl => match us, hl with | [_, _], _ => rfl) ?_
  rintro Γ ⟨m, s, ds⟩ ⟨hm, hp, hl⟩
  dsimp only at hm hp hl ⊢
  refine xss_cons (xs_setO 2 (lsO XB.nil) ?_)
  refine xss_mid (fun ρ => ∃ s0, ρ = [s0, .ro (.dct (eMet m)), .ow (.lst (ds.map eDeed))])
    (xs_while (fun n ρ => ∃ st acc rest, n = rest.length ∧ Path m st rest ∧ acc ++ rest = ds ∧ ρ = [.sh (eSta st), .ro (.dct (eMet m)), .ow (.lst (acc.map eDeed))]) ds.length ⟨s, [], ds, rfl, hp, rfl, rfl⟩ ?_) ?_
  · rintro n ρ ⟨st, acc, rest, rfl, hpr, hacc, rfl⟩
    have hal : acc.length ≤ 2000 := by
      have := congrArg List.length hacc
      rw [List.length_append] at this
      omega
    cases hpr with
    | nil hg =>
      have g := dget_met m st
      rw [hg] at g
      refine ⟨!D.isNon (eVal none), xt_cmp (xe_getM (xpv 1 (.inr rfl)) (xv 0 rfl) hm.kn (kd_sta _) g) xe_non o_notN, fun q => ?_, fun q => ?_⟩
      · cases q
      · rw [List.append_nil] at hacc
        subst hacc
        exact ⟨_, rfl⟩
    | cons hg hp' =>
      rename_i p d rest'
      have g := dget_met m st
      rw [hg] at g
      refine ⟨!D.isNon (eVal (some (p, d))), xt_cmp (xe_getM (xpv 1 (.inr rfl)) (xv 0 rfl) hm.kn (kd_sta _) g) xe_non o_notN, fun q => ?_, fun q => ?_⟩
      · refine xss_cons (xs_append 2 rfl (xe_ixt (ds := [eSta p, eDeed d]) (xe_getM (xpv 1 (.inr rfl)) (xv 0 rfl) hm.kn (kd_sta _) g)) ?_ (by rw [List.length_map]; omega))
        refine xss_one (xs_set 0 (xe_ixt (ds := [eSta p, eDeed d]) (xe_getM (xpv 1 (.inr rfl)) (xv 0 rfl) hm.kn (kd_sta _) g)) ?_)
        refine ⟨rest'.length, Nat.lt_succ_self _, p, acc ++ [d], rest', rfl, hp', by rw [← hacc, List.append_assoc]; rfl, ?_⟩
        rw [List.map_append]
        rfl
      · cases q
  · rintro ρ ⟨s0, rfl⟩
    refine xss_cons (xs_reverse 2 rfl ?_)
    refine xss_one (xs_retV 2 rfl ?_)
    show Rz.ow _ = Rz.ow _
    rw [List.map_reverse]
end Lk
set_option maxHeartbeats 400000
namespace Lk
open PySem PySem.Spec PyProof.Rows L2
inductive Res where
  | found (g : Sta) (m : Met) (ls : List (List Sta))
  | closed (ls : List (List Sta))
  | wide
def layeredF (c : Cnl) (ws : List Wy) (most : Nat) : Nat → Met → List Sta → List (List Sta) → Res
  | 0, _, _, _ => .wide
  | n + 1, m, layer, ls => if layer.isEmpty then .closed ls else match layer.find? (allHome ws) with
    | some g => .found g m (ls ++ [layer])
    | none => match nextLayer c ws layer m most with
      | none => .wide
      | some (m', f) => layeredF c ws most n m' f (ls ++ [layer])
def search (c : Cnl) (ws : List Wy) (s : Sta) (most : Nat) : Res := layeredF c ws most (most + 2) [(s, none)] [s] []
theorem mget_app {m x : Met} {s : Sta} {v : Option (Sta × Deed)} (h : mget m s = some v) : mget (m ++ x) s = some v := by
  unfold mget at h ⊢
  rw [List.find?_append]
  cases q : m.find? fun p => decide (p.1 = s) with
  | none => rw [q] at h; cases h
  | some p => rw [q] at h; exact h
theorem Path.app {m x : Met} {s : Sta} {ds : List Deed} (h : Path m s ds) : Path (m ++ x) s ds := by
  induction h with
  | nil h => exact .nil (mget_app h)
  | cons h _ ih => exact .cons (mget_app h) ih
theorem mget_new {m : Met} {s : Sta} {v : Option (Sta × Deed)} (h : inMet m s = false) : mget (m ++ [(s, v)]) s = some v := by
  rw [inMet_get] at h
  unfold mget at h ⊢
  rw [List.find?_append]
  cases q : m.find? fun p => decide (p.1 = s) with
  | none =>
    rw [Option.none_or, List.find?_cons, decide_eq_true rfl]
    rfl
  | some p => rw [q] at h; cases h
theorem inMet_app {m x : Met} {s : Sta} : inMet (m ++ x) s = (inMet m s || inMet x s) := by
  unfold inMet
  rw [List.any_append]
/-- every state met has its row back, all of them stand in the canal -/
structure MetW (c : Cnl) (ws : List Wy) (m : Met) : Prop where
  n : MetN m
  p : ∀ s, inMet m s = true → ∃ ds, Path m s ds ∧ ds.length ≤ m.length
  w : ∀ s, inMet m s = true → SW c ws s
theorem step_w {c : Cnl} {ws : List Wy} {most : Nat} {src : Sta} : ∀ (xs : List (Deed × Sta)) {m m' : Met} {f f' : List Sta}, (∀ x ∈ xs, SW c ws x.2) → MetW c ws m → inMet m src = true → (∀ s ∈ f, inMet m s = true) → xs.foldlM (step1 most src) (m, f) = some (m', f') →
    MetW c ws m' ∧ (∀ s, inMet m s = true → inMet m' s = true) ∧ (∀ s ∈ f', inMet m' s = true)
  | [], m, m', f, f', _, hm, _, hf, h => by
    cases h
    exact ⟨hm, fun _ h => h, hf⟩
  | x :: xs, m, m', f, f', hx, hm, hs, hf, h => by
    rw [List.foldlM_cons] at h
    cases q : step1 most src (m, f) x with
    | none => rw [q] at h; cases h
    | some z =>
      rw [q] at h
      unfold step1 at q
      split at q
      · cases q
        exact step_w xs (fun y hy => hx y (List.mem_cons_of_mem _ hy)) hm hs hf h
      · rename_i hin
        have hin : inMet m x.2 = false := by
          cases e : inMet m x.2 with
          | false => rfl
          | true => exact absurd e hin
        split at q
        · cases q
        · cases q
          have up : ∀ s, inMet m s = true → inMet (m ++ [(x.2, some (src, x.1))]) s = true := fun s h => by rw [inMet_app, h]; rfl
          have new : inMet (m ++ [(x.2, some (src, x.1))]) x.2 = true := by
            rw [inMet_app]
            have : inMet [(x.2, some (src, x.1))] x.2 = true := by unfold inMet; simp
            rw [this, Bool.or_true]
          have cs : ∀ s, inMet (m ++ [(x.2, some (src, x.1))]) s = true → inMet m s = true ∨ s = x.2 := fun s h => by
            rw [inMet_app, Bool.or_eq_true] at h
            rcases h with h | h
            · exact .inl h
            · unfold inMet at h
              simp at h
              exact .inr h.symm
          have hm' : MetW c ws (m ++ [(x.2, some (src, x.1))]) := by
            refine ⟨hm.n.put hin, fun s h => ?_, fun s h => ?_⟩
            · rcases cs s h with h | h
              · obtain ⟨ds, p1, p2⟩ := hm.p s h
                exact ⟨ds, p1.app, by rw [List.length_append]; omega⟩
              · subst h
                obtain ⟨ds, p1, p2⟩ := hm.p src hs
                exact ⟨x.1 :: ds, .cons (mget_new hin) p1.app, by rw [List.length_append, List.length_cons, List.length_singleton]; omega⟩
            · rcases cs s h with h | h
              · exact hm.w s h
              · subst h
                exact hx x List.mem_cons_self
          obtain ⟨r1, r2, r3⟩ := step_w xs (fun y hy => hx y (List.mem_cons_of_mem _ hy)) hm' (up _ hs) (fun s hs' => by
            rcases List.mem_append.mp hs' with h | h
            · exact up s (hf s h)
            · rw [List.mem_singleton.mp h]; exact new) h
          exact ⟨r1, fun s h => r2 s (up s h), r3⟩
theorem choices_w {c : Cnl} {ws : List Wy} {s : Sta} (S : SW c ws s) : ∀ x ∈ choices c ws s, SW c ws x.2 := by
  intro x hx
  obtain ⟨d, _, rfl⟩ := List.mem_map.mp hx
  exact S.after d
theorem layer_w {c : Cnl} {ws : List Wy} {most : Nat} : ∀ (layer : List Sta) {m m' : Met} {f f' : List Sta}, MetW c ws m → (∀ s ∈ layer, inMet m s = true) → (∀ s ∈ f, inMet m s = true) → layer.foldlM (stepS most c ws) (m, f) = some (m', f') →
    MetW c ws m' ∧ (∀ s ∈ f', inMet m' s = true) ∧ m.length ≤ m'.length ∧ (m.length ≤ most → m'.length ≤ most) ∧ f'.length - f.length = m'.length - m.length ∧ f.length ≤ f'.length
  | [], m, m', f, f', hm, _, hf, h => by
    cases h
    exact ⟨hm, hf, Nat.le_refl _, id, by omega, Nat.le_refl _⟩
  | s :: layer, m, m', f, f', hm, hl, hf, h => by
    rw [List.foldlM_cons] at h
    cases q : stepS most c ws (m, f) s with
    | none => rw [q] at h; cases h
    | some z =>
      rw [q] at h
      obtain ⟨m1, f1⟩ := z
      have hs := hl s List.mem_cons_self
      obtain ⟨w1, w2, w3⟩ := step_w (choices c ws s) (choices_w (hm.w s hs)) hm hs hf q
      obtain ⟨l1, l2, l3, l4⟩ := stepS_len (choices c ws s) q
      dsimp only at l1 l2 l3 l4
      obtain ⟨r1, r2, r3, r4, r5, r6⟩ := layer_w layer w1 (fun t ht => w2 t (hl t (List.mem_cons_of_mem _ ht))) w3 h
      exact ⟨r1, r2, by omega, fun h => r4 (l2 h), by omega, by omega⟩
open Classical in
noncomputable def pathOf (m : Met) (s : Sta) : List Deed := if h : ∃ ds, Path m s ds ∧ ds.length ≤ m.length then h.choose else []
theorem pathOf_ok {m : Met} {s : Sta} (h : ∃ ds, Path m s ds ∧ ds.length ≤ m.length) : Path m s (pathOf m s) ∧ (pathOf m s).length ≤ m.length := by
  unfold pathOf
  rw [dif_pos h]
  exact h.choose_spec
def eLay (l : List Sta) : D := .lst (l.map eSta)
noncomputable def resR (pg : Pg) : Res → Rz
  | .found g m ls => .sh (.tup [.str "found", .lst ((pathOf m g).reverse.map eDeed), .lst (ls.map eLay)])
  | .closed ls => .sh (.tup [.str "closed", .lst (ls.map eLay)])
  | .wide => .ex (ca pg "TooWide")
variable {pg : Pg} [Lib2 pg]
/-- one thing alone is changed -/
theorem its_one {ρ : List Sl} {as bs : List D} {i : Nat} {o o' : OT} (h : ρ[i]? = some (Sl.ow o)) : ItsIn ρ (as.map Itm.sh ++ Itm.mu i o o' :: bs.map Itm.sh) := by
  have key : ∀ (j : Nat) t, (as.map Itm.sh ++ Itm.mu i o o' :: bs.map Itm.sh)[j]? = some t → (∃ d, t = .sh d) ∨ (j = as.length ∧ t = .mu i o o') := by
    intro j t e
    by_cases h1 : j < as.length
    · rw [List.getElem?_append_left (by rw [List.length_map]; exact h1), List.getElem?_map] at e
      cases q : as[j]? with
      | none => rw [q] at e; cases e
      | some d => rw [q] at e; cases e; exact .inl ⟨d, rfl⟩
    · rw [List.getElem?_append_right (by rw [List.length_map]; omega), List.length_map] at e
      by_cases h2 : j = as.length
      · subst h2
        rw [Nat.sub_self] at e
        cases e
        exact .inr ⟨rfl, rfl⟩
      · obtain ⟨n, hn⟩ : ∃ n, j - as.length = n + 1 := ⟨j - as.length - 1, by omega⟩
        rw [hn, List.getElem?_cons_succ, List.getElem?_map] at e
        cases q : bs[n]? with
        | none => rw [q] at e; cases e
        | some d => rw [q] at e; cases e; exact .inl ⟨d, rfl⟩
  refine ⟨fun j i1 p p' e => ?_, fun j i1 p e => ?_, fun j j' i1 p p' q q' e e' => ?_, fun j j' i1 p q q' e e' => ?_⟩
  · rcases key j _ e with ⟨d, z⟩ | ⟨_, z⟩
    · cases z
    · cases z; exact h
  · rcases key j _ e with ⟨d, z⟩ | ⟨_, z⟩ <;> cases z
  · rcases key j _ e with ⟨d, z⟩ | ⟨z1, _⟩
    · cases z
    · rcases key j' _ e' with ⟨d, z⟩ | ⟨z2, _⟩
      · cases z
      · omega
  · rcases key j _ e with ⟨d, z⟩ | ⟨_, z⟩ <;> cases z
theorem s50 : Sc [("first", true), ("ahead", true), ("ended", true), ("most", true), ("met", true), ("layer", true), ("layers", true), ("goal", true)] ["first", "ahead", "ended", "most"] ["len", "first_ended", "row_to", "next_layer"] (defScope (top 50)) := sc_by (by decide +kernel)
theorem f_layered : Fn pg 12 true "layered" [] (Ct (fun a : Cnl × List Wy × Sta × Nat => CW a.1 ∧ SW a.1 a.2.1 a.2.2.1 ∧ 1 ≤ a.2.2.2 ∧ a.2.2.2 ≤ 1000) (fun a => [.sh (eSta a.2.2.1), .sh (eAh pg a.1 a.2.1), .sh (eEn a.2.1), .sh (eN a.2.2.2)]) fun a => resR pg (search a.1 a.2.1 a.2.2.1 a.2.2.2)) := by
  refine fn_ct 50 30 rfl s50 (fun _ => rfl) (fun _ _ _ _ _ _ us hl => match us, hl with | [_, _, _, _], _ => rfl) ?_
  rintro Γ ⟨c, ws, s, most⟩ ⟨W, S, h1, h2⟩
  dsimp only at W S h1 h2 ⊢
  refine xss_cons (xs_setO 4 (xo_dct1 (xv 0 rfl) xe_non (kd_sta _) ⟨_, rfl⟩) ?_)
  refine xss_cons (xs_set 5 (ls (XB.sh ((xv 0 rfl)) XB.nil)) ?_)
  refine xss_cons (xs_setO 6 (lsO XB.nil) ?_)
  have hm0 : MetW c ws [(s, none)] := by
    have e : ∀ t, inMet [(s, (none : Option (Sta × Deed)))] t = true → t = s := fun t h => by
      unfold inMet at h
      simp at h
      exact h.symm
    refine ⟨by unfold MetN; simp, fun t h => ?_, fun t h => ?_⟩
    · rw [e t h]
      exact ⟨[], .nil (by unfold mget; rw [List.find?_cons, decide_eq_true rfl]; rfl), Nat.zero_le _⟩
    · rw [e t h]; exact S
  refine xss_mid (fun ρ => ∃ lss s4 s5 s7, search c ws s most = .closed lss ∧ ρ = [.sh (eSta s), .sh (eAh pg c ws), .sh (eEn ws), .sh (eN most), s4, s5, .ow (.lst (lss.map eLay)), s7])
    (xs_while (fun n ρ => ∃ m layer lss s7, layeredF c ws most n m layer lss = search c ws s most ∧ MetW c ws m ∧ (∀ t ∈ layer, inMet m t = true) ∧ m.length ≤ most ∧ layer.length ≤ 2000 ∧ lss.length + n ≤ 2000 ∧ (most - m.length) + 1 + (if layer.isEmpty then 0 else 1) ≤ n ∧
      ρ = [.sh (eSta s), .sh (eAh pg c ws), .sh (eEn ws), .sh (eN most), .ow (.dct (eMet m)), .sh (.lst (layer.map eSta)), .ow (.lst (lss.map eLay)), s7]) (most + 2) ⟨[(s, none)], [s], [], .no, rfl, hm0, fun t ht => ?_, h1, by show 1 ≤ 2000; decide, by show 0 + (most + 2) ≤ 2000; omega, by show most - 1 + 1 + 1 ≤ most + 2; omega, rfl⟩ ?_) ?_
  · rw [List.mem_singleton.mp ht]
    unfold inMet
    simp
  · rintro n ρ ⟨m, layer, lss, s7, he, hm, hl, hml, hll, hls, hn, rfl⟩
    cases n with
    | zero => omega
    | succ n =>
    unfold layeredF at he
    refine ⟨!layer.isEmpty, (xt_cmp (xe_lenL (xv 5 rfl) 0) xe_int o_gt).to (by
      rw [List.length_map]
      cases layer with
      | nil => rfl
      | cons a l => exact decide_eq_true (by rw [List.length_cons]; omega)), fun q => ?_, fun q => ?_⟩
    · have q : layer.isEmpty = false := by rw [Bool.not_eq_true'] at q; exact q
      rw [if_neg (by rw [q]; exact Bool.false_ne_true)] at he
      rw [q] at hn
      have hS : ∀ t ∈ layer, SW c ws t := fun t ht => hm.w t (hl t ht)
      have el : lss.map eLay ++ [.lst (layer.map eSta)] = (lss ++ [layer]).map eLay := by rw [List.map_append]; rfl
      refine xss_cons (xs_append 6 rfl (xv 5 rfl) ?_ (by rw [List.length_map]; omega))
      cases hf : layer.find? (allHome ws) with
      | some g =>
        have fe : firstEnded ws layer = [g] := by unfold firstEnded; rw [hf]
        rw [hf] at he
        have hg : g ∈ layer := List.mem_of_find?_eq_some hf
        obtain ⟨p1, p2⟩ := pathOf_ok (hm.p g (hl g hg))
        refine xss_cons (xs_set 7 ((XO.lst (xo_call f_first (XA.sh ((xv 5 rfl)) (XA.sh ((xv 2 rfl)) XA.nil)) 1 ⟨(ws, layer), ⟨S.wl, fun t ht => (hS t ht).pl⟩, rfl, rfl⟩)).to (da := .lst ([g].map eSta)) (by rw [← fe])) ?_)
        refine xss_cons (xs_if (xt_cmp (xe_lenL (xv 7 rfl) 0) xe_int o_gt) (fun _ => ?_) (fun q2 => xss_no (absurd q2 (by show ¬ decide ((0 : Int) < ((1 : Nat) : Int)) = false; decide))))
        refine xss_freeze 6 rfl (xss_one (xs_ret (tup (XB.sh (xe_str) (XB.sh (XO.lst (xo_call f_row_to (XA.sh (xe_ixl (xv 7 rfl)) (XA.pk ((xpv 4 (.inl rfl))) XA.nil)) 2 ⟨(m, g, pathOf m g), ⟨hm.n, p1, by dsimp only; omega⟩, rfl, rfl⟩)) (XB.sh ((xv 6 rfl)) XB.nil)))) ?_))
        show Rz.sh _ = resR pg (search c ws s most)
        rw [← he, el]
        rfl
      | none =>
        have fe : firstEnded ws layer = [] := by unfold firstEnded; rw [hf]
        rw [hf] at he
        refine xss_cons (xs_set 7 ((XO.lst (xo_call f_first (XA.sh ((xv 5 rfl)) (XA.sh ((xv 2 rfl)) XA.nil)) 1 ⟨(ws, layer), ⟨S.wl, fun t ht => (hS t ht).pl⟩, rfl, rfl⟩)).to (da := .lst []) (by rw [fe]; rfl)) ?_)
        refine xss_cons (xs_if (xt_cmp (xe_lenL (xv 7 rfl) 0) xe_int o_gt) (fun q2 => xss_no (absurd q2 (by decide))) (fun _ => xss_nil ?_))
        have hi : ItsIn [.sh (eSta s), .sh (eAh pg c ws), .sh (eEn ws), .sh (eN most), .ow (.dct (eMet m)), .sh (.lst (layer.map eSta)), .ow (.lst (lss.map eLay ++ [.lst (layer.map eSta)])), .sh (.lst [])] [.sh (.lst (layer.map eSta)), .sh (eAh pg c ws), .mu 4 (.dct (eMet m)) (.dct (eMet ((nextLayer c ws layer m most).getD ([], [])).1)), .sh (eN most)] := its_one (as := [.lst (layer.map eSta), eAh pg c ws]) (bs := [eN most]) rfl
        cases hx : nextLayer c ws layer m most with
        | none =>
          rw [hx] at he
          refine xss_one (xs_setX (xx_call f_next (XM.sh (xv 5 rfl) (XM.sh (xv 1 rfl) (XM.mu 4 rfl (XM.sh (xv 3 rfl) XM.nil)))) hi 3 ⟨(c, ws, layer, m, most), ⟨W, hS, hm.n, hml, h2⟩, rfl, by dsimp only; rw [hx]; rfl⟩) (fun ρx => ⟨rfl, ?_⟩) 5)
          rw [← he]
          rfl
        | some z =>
          obtain ⟨m', f⟩ := z
          rw [hx] at he
          obtain ⟨w1, w2, w3, w4, w5, w6⟩ := layer_w layer (most := most) (f := []) hm hl (fun t ht => nomatch ht) hx
          have hml' := w4 hml
          have hfl : f.length = m'.length - m.length := by simpa using w5
          refine xss_cons (xs_setCo 5 (xco_call (o := .lst (f.map eSta)) f_next (XM.sh (xv 5 rfl) (XM.sh (xv 1 rfl) (XM.mu 4 rfl (XM.sh (xv 3 rfl) XM.nil)))) hi 3 ⟨(c, ws, layer, m, most), ⟨W, hS, hm.n, hml, h2⟩, rfl, by dsimp only; rw [hx]; rfl⟩) ?_)
          refine xss_freeze 5 rfl (xss_nil ⟨n, Nat.lt_succ_self n, m', f, lss ++ [layer], .sh (.lst []), he, w1, w2, hml', by omega, by rw [List.length_append, List.length_singleton]; omega, ?_, ?_⟩)
          · simp only [Bool.false_eq_true, if_false] at hn
            cases f with
            | nil => show most - m'.length + 1 + 0 ≤ n; omega
            | cons a f =>
              rw [List.length_cons] at hfl
              show most - m'.length + 1 + 1 ≤ n
              omega
          · rw [hx, ← el]
            rfl
    · have q : layer.isEmpty = true := by rw [Bool.not_eq_false'] at q; exact q
      rw [if_pos q] at he
      exact ⟨lss, _, _, _, he.symm, rfl⟩
  · rintro ρ ⟨lss, s4, s5, s7, he, rfl⟩
    refine xss_freeze 6 rfl (xss_one (xs_ret (tup (XB.sh (xe_str) (XB.sh ((xv 6 rfl)) XB.nil))) ?_))
    show Rz.sh _ = resR pg (search c ws s most)
    rw [he]
    rfl
end Lk
set_option maxHeartbeats 400000
namespace Lk
open PySem PySem.Spec PyProof.Rows L2
noncomputable def lookR (pg : Pg) : Res → Rz
  | .found g m ls => .sh (.tup [.str "home", .lst ((pathOf m g).reverse.map eDeed), .lst (ls.map eLay)])
  | .closed ls => .sh (.tup [.str "doomed", .lst (ls.map eLay)])
  | .wide => .ex (ca pg "TooWide")
variable {pg : Pg} [Lib2 pg]
theorem s54 : Sc [("canal", true), ("ways", true), ("state", true), ("most", true), ("told", true)] ["canal", "ways", "state", "most"] ["layered", "choices_in", "home_in"] (defScope (top 54)) := sc_by (by decide +kernel)
theorem f_look : Fn pg 13 true "look" [] (Ct (fun a : Cnl × List Wy × Sta × Nat => CW a.1 ∧ SW a.1 a.2.1 a.2.2.1 ∧ 1 ≤ a.2.2.2 ∧ a.2.2.2 ≤ 1000) (fun a => [.sh (eCnl pg a.1), .sh (.lst (a.2.1.map eWy)), .sh (eSta a.2.2.1), .sh (eN a.2.2.2)]) fun a => lookR pg (search a.1 a.2.1 a.2.2.1 a.2.2.2)) := by
  refine fn_ct 54 33 rfl s54 (fun _ => rfl) (fun _ _ _ _ _ _ us hl => match us, hl with | [_, _, _, _], _ => rfl) ?_
  rintro Γ ⟨c, ws, s, most⟩ ⟨W, S, h1, h2⟩
  dsimp only at W S h1 h2 ⊢
  cases he : search c ws s most with
  | found g m ls =>
    refine xss_cons (xs_set 4 (xe_call (d := .tup [.str "found", .lst ((pathOf m g).reverse.map eDeed), .lst (ls.map eLay)]) f_layered (XA.sh ((xv 2 rfl)) (XA.sh (xe_call f_choices_in (XA.sh ((xv 0 rfl)) (XA.sh ((xv 1 rfl)) XA.nil)) 1 ⟨[_, _], rfl, rfl, rfl⟩) (XA.sh (xe_call f_home_in (XA.sh ((xv 1 rfl)) XA.nil) 2 ⟨[_], rfl, rfl, rfl⟩) (XA.sh ((xv 3 rfl)) XA.nil)))) 0 ⟨(c, ws, s, most), ⟨W, S, h1, h2⟩, rfl, by dsimp only; rw [he]; rfl⟩) ?_)
    refine xss_cons (xs_if (xt_cmp (xe_ixt (xv 4 rfl)) xe_str o_eqS) (fun _ => ?_) (fun q2 => xss_no (absurd q2 (by decide))))
    exact xss_one (xs_ret (tup (XB.sh (xe_str) (XB.sh (xe_ixt (xv 4 rfl)) (XB.sh (xe_ixt (xv 4 rfl)) XB.nil)))) rfl)
  | closed ls =>
    refine xss_cons (xs_set 4 (xe_call (d := .tup [.str "closed", .lst (ls.map eLay)]) f_layered (XA.sh ((xv 2 rfl)) (XA.sh (xe_call f_choices_in (XA.sh ((xv 0 rfl)) (XA.sh ((xv 1 rfl)) XA.nil)) 1 ⟨[_, _], rfl, rfl, rfl⟩) (XA.sh (xe_call f_home_in (XA.sh ((xv 1 rfl)) XA.nil) 2 ⟨[_], rfl, rfl, rfl⟩) (XA.sh ((xv 3 rfl)) XA.nil)))) 0 ⟨(c, ws, s, most), ⟨W, S, h1, h2⟩, rfl, by dsimp only; rw [he]; rfl⟩) ?_)
    refine xss_cons (xs_if (xt_cmp (xe_ixt (xv 4 rfl)) xe_str o_eqS) (fun q2 => xss_no (absurd q2 (by decide))) (fun _ => xss_nil ?_))
    exact xss_one (xs_ret (tup (XB.sh (xe_str) (XB.sh (xe_ixt (xv 4 rfl)) XB.nil))) rfl)
  | wide =>
    refine xss_cons (xs_setX (C := ca pg "TooWide") (xx_callR f_layered (XA.sh ((xv 2 rfl)) (XA.sh (xe_call f_choices_in (XA.sh ((xv 0 rfl)) (XA.sh ((xv 1 rfl)) XA.nil)) 1 ⟨[_, _], rfl, rfl, rfl⟩) (XA.sh (xe_call f_home_in (XA.sh ((xv 1 rfl)) XA.nil) 2 ⟨[_], rfl, rfl, rfl⟩) (XA.sh ((xv 3 rfl)) XA.nil)))) 0 ⟨(c, ws, s, most), ⟨W, S, h1, h2⟩, rfl, by dsimp only; rw [he]; rfl⟩) (fun ρx => ⟨rfl, rfl⟩) 4)
end Lk
set_option maxHeartbeats 400000
namespace Lk
open PySem PySem.Spec PyProof.Rows L2
/-- the place of a name -/
def plcOf (xs : List Str) (n : Str) : Int := match xs.findIdx? (fun x => decide (x = n)) with
  | some k => k
  | none => -1
theorem place_hit {xs : List Str} {n : Str} {k : Nat} (h : ∀ i, i < k → xs[i]? ≠ some n) (e : xs[k]? = some n) : plcOf xs n = k := by
  have : xs.findIdx? (fun x => decide (x = n)) = some k := by
    rw [List.findIdx?_eq_some_iff_getElem]
    obtain ⟨hk, e⟩ := List.getElem?_eq_some_iff.mp e
    refine ⟨hk, decide_eq_true e, fun j hj q => h j hj ?_⟩
    rw [List.getElem?_eq_getElem (by omega)]
    exact congrArg some (of_decide_eq_true q)
  unfold plcOf
  rw [this]
theorem place_miss {xs : List Str} {n : Str} (h : ∀ i, i < xs.length → xs[i]? ≠ some n) : plcOf xs n = -1 := by
  have : xs.findIdx? (fun x => decide (x = n)) = none := by
    rw [List.findIdx?_eq_none_iff]
    intro x hx
    obtain ⟨i, hi, e⟩ := List.getElem_of_mem hx
    refine decide_eq_false fun q => h i hi ?_
    rw [List.getElem?_eq_getElem hi, e, q]
  unfold plcOf
  rw [this]
variable {pg : Pg} [Lib2 pg]
/-- a thing that has a name -/
def Nmd (pg : Pg) (d : D) (s : Str) : Prop := (∃ r, d = eRch pg r ∧ s = r.name) ∨ ∃ l, d = eLck pg l ∧ s = l.name
theorem f_nmd {sc : Scope} {N : List (Str × Bool)} {G : List Str} {lv : Nat} {own : List Nat} {Γ : Gm pg sc N G lv own} {ρ : List Sl} {e : Expr} {pos : Pos} {d : D} {s : Str} (h : XE Γ e ρ d) (n : Nmd pg d s) (hb : ∀ env, attributeBase e "name" env (eval e env) = eval e env := by intro _; rfl) : XE Γ (.Attribute e "name" pos) ρ (.str s) := by
  rcases n with ⟨r, rfl, rfl⟩ | ⟨l, rfl, rfl⟩
  · exact f_rname h hb
  · exact f_lname h hb
theorem s69 : Sc [("things", true), ("name", true), ("k", true), ("thing", true)] ["things", "name"] ["enumerate"] (defScope (top 69)) := sc_by (by decide +kernel)
theorem f_place_of : Fn pg 1 false "place_of" [] (Ct (fun a : List D × List Str × Str => a.1.length = a.2.1.length ∧ a.1.length ≤ 1000 ∧ ∀ (i : Nat) d s, a.1[i]? = some d → a.2.1[i]? = some s → Nmd pg d s) (fun a => [.sh (.lst a.1), .sh (.str a.2.2)]) fun a => .sh (.int (plcOf a.2.1 a.2.2))) := by
  refine fn_ct 69 38 rfl s69 (fun _ => rfl) (fun _ _ _ _ _ _ us hl => match us, hl with | [_, _], _ => rfl) ?_
  rintro Γ ⟨ds, xs, n⟩ ⟨hl, hm, hn⟩
  dsimp only at hl hm hn ⊢
  refine xss_mid (fun ρ => (∀ i, i < ds.length → xs[i]? ≠ some n) ∧ ∃ s2 s3, ρ = [.sh (.lst ds), .sh (.str n), s2, s3])
    (xs_forEnum 2 3 (fun k ρ => (∀ i, i < k → xs[i]? ≠ some n) ∧ ∃ s2 s3, ρ = [.sh (.lst ds), .sh (.str n), s2, s3]) (xv 0 rfl) ⟨fun i hi => absurd hi (Nat.not_lt_zero i), _, _, rfl⟩ ?_ ?_ 0 (Bl.enumerate (pg := pg))) ?_
  · rintro k d ρ hx ⟨hf, s2, s3, rfl⟩
    obtain ⟨hk, _⟩ := List.getElem?_eq_some_iff.mp hx
    have es : xs[k]? = some xs[k]! := by rw [List.getElem?_eq_getElem (by omega), List.getElem!_eq_getElem?_getD, List.getElem?_eq_getElem (by omega)]; rfl
    refine xss_one (xs_if (c := decide (xs[k]! = n)) ((xt_cmp (f_nmd (xv 3 rfl) (hn k d _ hx es)) (xv 1 rfl) o_eqS).to (by first | rfl | simp)) (fun q => xss_one (xs_ret (xv 2 rfl) ?_)) (fun q => xss_nil ⟨fun i hi => ?_, _, _, rfl⟩))
    · have q := of_decide_eq_true q
      rw [q] at es
      show Rz.sh _ = _
      rw [place_hit hf es]
    · by_cases h : i < k
      · exact hf i h
      · have : i = k := by omega
        subst this
        rw [es]
        exact fun z => of_decide_eq_false q (Option.some.inj z)
  · rintro ρ ⟨hf, s2, s3, rfl⟩
    exact ⟨hf, _, _, rfl⟩
  · rintro ρ ⟨hf, s2, s3, rfl⟩
    refine xss_one (xs_ret (xe_neg xe_int) ?_)
    show Rz.sh _ = _
    rw [place_miss (by rw [← hl]; exact hf)]
end Lk
set_option maxHeartbeats 400000
namespace Lk
open PySem PySem.Spec PyProof.Rows L2
abbrev lettersS : Str := "abcdefghijklmnopqrstuvwxyz"
/-- a name of small letters -/
structure NmOk (w : Str) : Prop where
  ab : ∀ c ∈ w.cps.toList, c ∈ lettersS.cps.toList
  lo : 1 ≤ w.length
  hi : w.length ≤ 12
variable {pg : Pg} [Lib2 pg]
theorem s60 : Sc [("word", true), ("signs", true), ("sign", true)] ["word", "signs"] ["len", "LONGEST"] (defScope (top 60)) := sc_by (by decide +kernel)
theorem f_made_of : Fn pg 1 false "made_of" [] (Ct (fun a : Str => NmOk a) (fun a => [.sh (.str a), .sh (.str lettersS)]) fun a => .sh (.bl true)) := by
  refine fn_ct 60 34 rfl s60 (fun _ => rfl) (fun _ _ _ _ _ _ us hl => match us, hl with | [_, _], _ => rfl) ?_
  rintro Γ w W
  obtain ⟨t2, hl⟩ := Lib2.lng (pg := pg)
  have hi := W.hi
  have lo := W.lo
  refine xss_mid (fun ρ => ∃ s2, ρ = [.sh (.str w), .sh (.str lettersS), s2])
    (xs_forS 2 (fun k ρ => ∃ s2, ρ = [.sh (.str w), .sh (.str lettersS), s2]) (xv 0 rfl) ⟨_, rfl⟩ ?_ ?_) ?_
  · rintro k c ρ hc ⟨s2, rfl⟩
    have hc' : c ∈ w.cps.toList := by
      rw [← Array.getElem?_toList] at hc
      exact List.mem_of_getElem? hc
    exact xss_one (xs_if (xt_cmp (xv 2 rfl) (xv 1 rfl) o_notInS) (fun q => xss_no (absurd q (by rw [decide_eq_true (W.ab c hc')]; decide))) (fun _ => xss_nil ⟨_, rfl⟩))
  · rintro ρ ⟨s2, rfl⟩
    exact ⟨_, rfl⟩
  · rintro ρ ⟨s2, rfl⟩
    refine xss_one (xs_ret ((xe_chain xe_int (xe_lenS (xv 0 rfl) (by omega) 0) (xg_int 1 hl) o_le o_le).to (da := .bl true) ?_) rfl)
    rw [decide_eq_true (by show (1 : Int) ≤ (w.length : Int); omega), decide_eq_true (by show (w.length : Int) ≤ 12; omega)]
    rfl
theorem s61 : Sc [("word", true)] ["word"] ["made_of", "LETTERS"] (defScope (top 61)) := sc_by (by decide +kernel)
theorem f_is_name : Fn pg 2 false "is_name" [] (Ct (fun a : Str => NmOk a) (fun a => [.sh (.str a)]) fun a => .sh (.bl true)) := by
  refine fn_ct 61 35 rfl s61 (fun _ => rfl) (fun _ _ _ _ _ _ us hl => match us, hl with | [_], _ => rfl) ?_
  rintro Γ w W
  obtain ⟨t, hl⟩ := Lib2.lts (pg := pg)
  exact xss_one (xs_ret (xe_call f_made_of (XA.sh ((xv 0 rfl)) (XA.sh (xg_str 1 hl) XA.nil)) 0 ⟨w, W, rfl, rfl⟩) rfl)
end Lk
set_option maxHeartbeats 400000
namespace Lk
open PySem PySem.Spec PyProof.Rows L2
variable {pg : Pg} [Lib2 pg]
theorem s64 : Sc [("names", true), ("name", true), ("k", true)] ["names", "name"] ["range", "len", "Unknown"] (defScope (top 64)) := sc_by (by decide +kernel)
theorem f_boat_at : Fn pg 1 false "boat_at" [] (Ct (fun a : List Str × Nat => a.2 < a.1.length ∧ a.1.length ≤ 1000 ∧ a.1.Nodup) (fun a => [.pk (.lst (a.1.map D.str)), .sh (.str (a.1[a.2]!))]) fun a => .sh (.int a.2)) := by
  refine fn_ct 64 36 rfl s64 (fun _ => rfl) (fun _ _ _ _ _ _ us hl => match us, hl with | [_, _], _ => rfl) ?_
  rintro Γ ⟨xs, b⟩ ⟨hb, hm, nd⟩
  dsimp only at hb hm nd ⊢
  refine xss_mid (fun ρ => xs.length ≤ b)
    (xs_forR (n := (xs.length : Nat)) 2 (fun k ρ => k ≤ b ∧ ∃ s2, ρ = [.ro (.lst (xs.map D.str)), .sh (.str (xs[b]!)), s2]) ((xe_lenP (xpv 0 (.inr rfl)) 1).to (by rw [List.length_map])) (by omega) ⟨Nat.zero_le _, _, rfl⟩ ?_ ?_ 0 (Bl.range (pg := pg))) ?_
  · rintro k ρ hk ⟨hf, s2, rfl⟩
    have hk : k < xs.length := by omega
    refine xss_one (xs_if (c := decide (k = b)) ((xt_cmp (xe_ixP (XP.l (xpv 0 (.inr rfl))) (xv 2 rfl) rfl (at_map hk)) (xv 1 rfl) o_eqS).to ?_) (fun q => xss_one (xs_ret (xv 2 rfl) ?_)) (fun q => xss_nil ⟨?_, _, rfl⟩))
    · refine decide_eq_decide.mpr ⟨fun e => ?_, fun e => by rw [e]⟩
      rw [getElem!_pos xs k hk, getElem!_pos xs b hb] at e
      exact (List.getElem_inj nd).mp e
    · show Rz.sh _ = _
      rw [of_decide_eq_true q]
    · have := of_decide_eq_false q
      omega
  · rintro ρ ⟨hf, s2, rfl⟩
    exact hf
  · rintro ρ hf
    exact xss_no (by omega)
end Lk
set_option maxHeartbeats 1000000
namespace Lk
open PySem PySem.Spec PyProof.Rows L2
section
variable {pg : Pg} {sc : Scope} {N : List (Str × Bool)} {G : List Str} {lv : Nat} {own : List Nat} {Γ : Gf pg sc N G lv own} {ρ : List Sl} {a b e : Expr} {d : D} {o : OT} {pos p p' : Pos} {k : Nat} {x y : Str} {De : De} {body : List Stmt}
/-- for x in a tuple -/
theorem xs_forT {iter : Expr} {xs : List D} (i : Nat) (I : Nat → List Sl → Prop) (h : XE Γ.toGm iter ρ (.tup xs)) (h0 : I 0 ρ) (hs : ∀ k x ρ', xs[k]? = some x → I k ρ' → XSs Γ body (ρ'.set i (.sh x)) ⟨I (k + 1), De.rt, De.nx, I (k + 1), De.ex⟩)
    (hd : ∀ ρ', I xs.length ρ' → De.nx ρ') (hN : N[i]? = some (x, true) := by rfl) (ho : i ∉ own := by decide) (hf : ∀ env y, foldedSetIterable iter env y = pure y := by intro _ _; rfl) : XS Γ (.For (.Name x p') iter body [] pos) ρ De := fun σ Hf H D E S => by
  obtain ⟨l1, l2⟩ := Γ.st i x hN
  refine RunS.of (ps_for Γ.po Γ.calm (pi_tup (runE _ iter)) (pg_name Γ.nd (Γ.vis i x hN).1 l1 l2) (runSs _ body) (hf _)) ?_
  refine h σ Hf H _ E fun v Hf1 H1 g r => ?_
  obtain ⟨a, vs, rfl, hl, hr⟩ := r
  have ls : ∀ {Hf' H'}, Same Hf1 Hf' → Same Hf' H' → SqT Γ.X.K H' a vs := fun s1 s2 => by rw [kE Γ.toGm]; exact sqT_mono s2 (sqT_mono s1 hl)
  refine ⟨a, rfl, ⟨vs, ls (Same.refl _) g.ff⟩, for_it (walk_tup (K := Γ.X.K) (a := a) (xs := vs)) (g := gName i) (tb := fun D σ H => RunSs Γ.X body σ H D) (D := D) (fun k σ' H' => ∃ Hf' ρ', Env pg Γ.c own Hf' H' σ' ρ' ∧ Same Hf1 Hf' ∧ I k ρ') ⟨Hf1, ρ, E.grow g, Same.refl _, h0⟩
    (fun k σ' H' _ ⟨Hf', ρ', E', s, _⟩ => ls s E'.ff) ?_ ?_⟩
  · rintro k y σ' H' H'' _ ⟨Hf', ρ', E', s, iv⟩ ⟨rfl, hy⟩
    obtain ⟨d, hd1, hd2⟩ := hr.got hy
    exact hs k d ρ' hd1 iv (σ'.set i (some y)) Hf' H'' _ (E'.set (Γ.hi E' hN) ho (hd2.mono cm0 s)) ⟨fun σ2 Hf2 H2 ρ2 E2 s2 q => ⟨Hf2, ρ2, E2, s.trans s2, q⟩, fun σ2 Hf2 H2 ρ2 E2 s2 q => S.nx σ2 Hf2 H2 ρ2 E2 ((g.gr.trans s).trans s2) q,
      fun σ2 Hf2 H2 ρ2 E2 s2 q => ⟨Hf2, ρ2, E2, s.trans s2, q⟩, S.rs, S.ro, S.ex⟩
  · rintro σ' H' ⟨Hf', ρ', E', s, iv⟩
    rw [hr.length] at iv
    exact S.nx σ' Hf' H' ρ' E' (g.gr.trans s) (hd ρ' iv)
/-- the last one of a list looked at: xs[-1] -/
theorem xe_ixLastP {ds : List D} {j : Nat} {q1 q2 : Pos} (ha : XL Γ.toGm a ρ ds) (h : ds[ds.length - 1]? = some d) : XE Γ.toGm (.Subscript a (.UnaryOp .USub (.Constant (.int 1) j q1) q2) pos) ρ d := fun σ Hf H Q E k =>
  RunE.of (pe_ix ix_list (runE _ a) (runE _ _) (by intro _ _; rfl)) (ha σ Hf H _ E fun p vs Hf1 H1 g1 h1 h2 => (xe_neg xe_int) σ Hf1 H1 _ (E.grow g1) fun u Hf2 H2 g2 r2 => by
    obtain ⟨w, hw, rw'⟩ := h2.get h
    refine ⟨p, vs, -1, w, rfl, r2, SqL.of (g2.ns.lst h1), ?_, k w Hf2 H2 (g1.trans g2) (g2.rep rw')⟩
    rw [← h2.length] at hw
    have hl : 0 < vs.length := Nat.pos_of_ne_zero fun z => by rw [List.getElem?_eq_none (by omega)] at hw; cases hw
    unfold atI ixN
    rw [if_neg (by decide), if_pos (by omega)]
    show vs[((-1 : Int) + vs.length).toNat]? = _
    rw [show ((-1 : Int) + vs.length).toNat = vs.length - 1 by omega]
    exact hw)
end
end Lk
set_option maxHeartbeats 1000000
namespace Lk
open PySem PySem.Spec PyProof.Rows L2
/-- a def of a class, read off the class that the module calls y -/
def MtC (pg : Pg) (k : Nat) (cx : Bool) (y m : Str) (C : List Am → Rz → Prop) : Prop := ∃ (f : Addr) (fd : FuncData) (ps : List Str) (mc : Value), pg.mg y = some (.ref (ca pg y)) ∧ ClX.CRead pg.K (ca pg y) mc ∧
  PySem.W.findCls pg.K (.ref (ca pg y)) mc m = some (.val (.ref f)) ∧ PySem.W.keepIn pg.K (.ref f) = true ∧ FnOk pg.P pg.w pg.K pg.mg pg.base (CXb pg cx) k f fd ps (spM pg C) ∧ Binds pg.K fd ps []
section
variable {pg : Pg} {sc : Scope} {N : List (Str × Bool)} {G : List Str} {lv : Nat} {own : List Nat} {Γ : Gf pg sc N G lv own} {ρ ρ' : List Sl} {a b e e1 : Expr} {es : List Expr} {d : D} {o : OT} {pos p p' p2 apos cpos : Pos} {i k : Nat} {x y m : Str} {cx : Bool} {De : De} {ts : List Itm}
/-- Base.m(x, ..) -/
theorem xc_cls {C : List Am → Rz → Prop} {pl : Sem Bool} (F : MtC pg k cx y m C) (ha : XM Γ.toGm (e1 :: es) ρ ts) (hi : ItsIn ρ ts) (j : Nat) (hC : C (ts.map Itm.am) (.sh d)) (hr : k ≤ lv := by decide) (hG : G[j]? = some y := by rfl) (hdb : (y == ("__debug__" : Str)) = false := by decide)
    (hst : ∀ env, starEach (e1 :: es) env = (false, eval e1 env) :: starEach es env := by intro _; rfl) (hpl : ∀ env, (backTo pos (starEach es env)).any (·.1) = false := by intro _; rfl)
    (ht : eval (.Call (.Attribute (.Name y p) m apos) (e1 :: es) [] pos) Γ.X.env = (do
      let ov ← eval (.Name y p) Γ.X.env
      standAt apos.atName
      let (f, first) ← holding [ov] (getMethod ov m pl)
      callWith pos f first (backTo pos (starEach (e1 :: es) Γ.X.env)) (backToKw pos (keywordEach [] Γ.X.env))) := by rfl) : XC Γ (.Call (.Attribute (.Name y p) m apos) (e1 :: es) [] pos) ρ (aftr ts ρ) d := by
  have px := passX Γ cx
  obtain ⟨f, fd, ps, mc, h1, h2, h2b, h2c, h3, h4⟩ := F
  obtain ⟨P, w, K0, mg, base, T⟩ := pg
  obtain ⟨⟨X, c0, hp, hsc, nd, nn, nl, nc_, vis, gl, calm, room⟩, W, st, tk, po, stk, frm⟩ := Γ
  cases hp
  intro σ Hf H Q E kk pins s I
  refine PySem.W.methodCall_KW (pl := pl) (thn ((pe_glob (X := X) (pos := p) (v := .ref (ca (pgOf X T) y)) (gl y (gmem hG)) h1 rfl hdb).run pins s σ H (fun v H2 => v = .ref (ca (pgOf X T) y) ∧ H2 = H) I ⟨rfl, rfl⟩) fun u s1 ⟨v, H1, I1, rv, ev, eH⟩ => ?_) ht
  subst ev eH
  obtain rfl : u = Value.ref (ca (pgOf X T) y) := rv
  refine PySem.W.method_cls I1.kIn h2.ga (ClX.getcval_ok (v := .ref f) (u := .ref f) I1 h2 ⟨h2b, rfl⟩ fun s2 I2 => ?_)
  refine PySem.W.callWith_K (first := []) (h₀ := X.base) I.ok.mod.kin h2c (thn ((runA X (e1 :: es)).run pos pins s2 σ H1 (fun vs H2 => ∃ Hf1, Gw (pgOf X T) Hf H1 Hf1 H2 ∧ ItsOk (pgOf X T) Hf1 σ ts vs) I2 (ha σ Hf H1 _ E fun vs Hf1 H2 g r => ⟨Hf1, g, r⟩)) fun us s3 ⟨vs, H2, I3, r2, Hf1, g1, o1⟩ => ⟨I3.kIn, ?_⟩) (hst _) (hpl _)
  obtain ⟨F0, mm, k0⟩ := (E.grow g1).hand hi o1
  refine run_fnX (dvs := []) (ds := []) h3 (room.mono hr) h4 .nil (px σ) I3 r2 ?_
  rw [List.append_nil]
  exact ⟨_, .sh d, Hf1, F0, hC, mm, g1.ff, g1.tabs, fun v Hf' H' F' g' m' r' => kk v Hf' H' (k0 Hf' H' F' g' m') (g1.gr.trans g'.gr) r'⟩
/-- e'.append(e), e' a new list that is dropped -/
theorem xs_appendO {xs : List D} (ha : XO Γ.toGm a ρ (.lst xs)) (h : XE Γ.toGm e ρ d) (k : De.nx ρ) (hz : xs.length < 100000)
    (hs : ∀ env, swapsWith (.Call (.Attribute a "append" apos) [e] [] cpos) none pos.line env = pure false := by intro _; rfl) (hbase : ∀ env, attributeBase a "append" env (eval a env) = eval a env := by intro _; rfl)
    (hfew : ∀ env, ((backTo cpos (starEach [e] env)).all (fun x => !x.1) && (backToKw cpos (keywordEach [] env)).all (fun x => x.1.isSome) && decide ([e].length + ([] : List Keyword).length + (if ([] : List Keyword).isEmpty then 0 else 1) < 30)) = true := by intro _; rfl)
    (hline : (apos.endLine == cpos.line) = true := by rfl) (hst : ∀ env, starEach [e] env = [(false, eval e env)] := by intro _; rfl) : XS Γ (.Expr (.Call (.Attribute a "append" apos) [e] [] cpos) pos) ρ De := fun σ Hf H D E S => by
  refine RunS.of (ps_expr (pe_bm PySem.F.plainAttrs_list PySem.F.slot_list_append PySem.F.type_list_append mt_append (runE _ a) (pa_cons (runE _ e) pa_nil (by rw [hst] <;> rfl)) (hbase _) (hfew _) hline (by rw [hst] <;> rfl) (by rfl)) (hs _)) ?_
  refine ha σ Hf H _ E fun v Hf1 H1 fp g1 ⟨q, vs, ev, ef, e2, r2⟩ nf => ?_
  subst ev ef
  obtain ⟨n1, n2⟩ := nf q List.mem_cons_self
  refine .inl ⟨rfl, vs, SqL.of e2⟩ |> fun z => ⟨z, ?_⟩
  refine h σ Hf1 H1 _ (E.grow g1) fun u Hf2 H2 g2 r3 => ?_
  have e3 := g2.ns.lst e2
  have n3 : Hf2 q = none := (g2.agr q (by rw [e2]; exact fun z => nomatch z)).trans n2
  refine ⟨q, vs, u, rfl, rfl, e3, by rw [r2.length]; exact Nat.lt_of_lt_of_le hz (by rw [sizeLine_eq]; omega), ?_⟩
  have G := g1.trans g2
  refine S.nx σ Hf2 _ ρ (E.grow ⟨G.gr, fun b u hu => ?_, fun b u hu ht => ?_, fun b hb => G.dom b (NdefX.upd_none hb), G.agr, tabs_lst G.tabs e3⟩) G.gr k
  · rw [upd_ne fun z => by rw [z, n3] at hu; cases hu]
    exact G.ff b u hu
  · rw [upd_ne fun z => by rw [z, n1] at hu; cases hu]
    exact G.ns b u hu ht
end
/-- what the head leaves besides -/
class Lib3 (pg : Pg) extends Lib2 pg where
  exg : ∀ x ∈ (["CanalError", "NotNow", "BadRow", "TooWide", "Torn"] : List Str), pg.mg x = some (.ref (ca pg x))
  exc : ∀ x ∈ (["TooWide", "Torn"] : List Str), ExcC pg.K (ca pg x)
  exm : ∀ x y, (x, y) ∈ exmTab → PySem.W.exmOne pg.K (.ref (ca pg x)) (.ref (ca pg y)) = some true
  kit : ∀ x y b, (x, y, b) ∈ kitTab → PySem.W.kitOne pg.K (.ref (ca pg x)) (.ref (ca pg y)) = some b
  kiv : PySem.W.kitOne pg.K (.ref (ca pg "Torn")) (.type "ValueError") = some true
  kpi : PySem.W.findIn pg.K (.ref (ca pg "Keeper")) "__class__" = some (some (.builtin "object.__class__")) ∧ PySem.W.specialIn pg.K (.builtin "object.__class__") "__get__" = some (some (.builtin "getset_descriptor.__get__")) ∧ PySem.W.takesIn pg.K (.builtin "object.__class__") = some true ∧ PySem.W.mroIn pg.K (ca pg "Keeper") (.type "object") = some true
  pli : ∃ mc, ClX.CRead pg.K (ca pg "PlainLock") mc ∧ ∀ f, Meth pg.K (ca pg "PlainLock") "__init__" f → PySem.W.findCls pg.K (.ref (ca pg "PlainLock")) mc "__init__" = some (.val (.ref f))
section
variable {pg : Pg} [Lib3 pg]
theorem mtC_ct {α : Type} {pre : α → Prop} {ag : α → List Am} {res : α → Rz} {q : Str} {N : List (Str × Bool)} {ps G : List Str} {k : Nat} {cx : Bool} (own : List Nat) (i j t : Nat) (ht : mtTab[t]? = some (("PlainLock" : Str), i, ("__init__" : Str), j, q, [])) (S : Sc N ps G (defScope (mth i j))) (len : ∀ a, (ag a).length = ps.length) (ow : ∀ a, muIx (ag a) = own)
    (hbi : ∀ (kV doc pm : Value) (an : Option Addr) (cdv ct : Value) (us : List Value), us.length = ps.length → bindArgs (PySem.W.fnOf "__init__" q (defArgs (mth i j)) (defBody (mth i j)) (defScope (mth i j)) .none kV doc pm an cdv ct) ⟨us, []⟩ = pure (ps.zip us))
    (hb : ∀ (Γ : Gf pg (defScope (mth i j)) N G k own) a, pre a → XSs Γ (defBody (mth i j)) (slotsM N.length (ag a)) (finM cx (ag a) (res a))) : MtC pg (k + 1) cx "PlainLock" "__init__" (CtM pre ag res) := by
  obtain ⟨f, fd, h1, h3⟩ := Lib.mt (pg := pg) "PlainLock" i "__init__" j q [] (List.mem_of_getElem? ht)
  obtain ⟨g1, g2⟩ := Lib2.mak (pg := pg) "PlainLock" (by decide)
  obtain ⟨mc, c1, c2⟩ := Lib3.pli (pg := pg)
  exact ⟨f, fd, ps, mc, g1, c1, c2 f h1, h1.kp, fnM_ok h3 S (fun ags r ⟨a, _, h, _⟩ => by rw [h]; exact len a) (fun ags r ⟨a, _, h, _⟩ => by rw [h]; exact ow a) (fun Γ ags r ⟨a, h1, h2, h3⟩ => by rw [h2, h3]; exact hb Γ a h1), h3.bindsN hbi⟩
end
end Lk
set_option maxHeartbeats 1000000
namespace Lk
open PySem PySem.Spec PyProof.Rows L2
section
variable {pg : Pg} {sc : Scope} {N : List (Str × Bool)} {G : List Str} {lv : Nat} {own : List Nat} {Γ : Gm pg sc N G lv own} {ρ : List Sl} {e1 : Expr} {pos p p2 : Pos}
theorem xe_isL [Bl pg] {ds : List D} (h : XE Γ e1 ρ (.lst ds)) (j j2 : Nat) (hG : G[j]? = some ("isinstance" : Str) := by rfl) (hG2 : G[j2]? = some ("list" : Str) := by rfl) (hst : ∀ env, starEach (e1 :: [.Name "list" p2]) env = (false, eval e1 env) :: starEach [.Name "list" p2] env := by intro _; rfl) :
    XE Γ (.Call (.Name "isinstance" p) [e1, .Name "list" p2] [] pos) ρ (.bl true) := fun σ Hf H Q E kk =>
  RunE.of (pe_callB call_isi (Γ.gl _ (gmem hG)) ((congrFun (mgE Γ) _).trans Bl.isinstance) (by decide +kernel) (pa_cons (runE _ e1) (pa_cons (pe_bltn (v := .ty "list") (u := .type "list") (Γ.gl _ (gmem hG2)) ((congrFun (mgE Γ) _).trans Bl.list) (by decide +kernel) rfl) pa_nil) (hst _)) (by decide) (by decide) (hst _) (by rfl))
    (h σ Hf H _ E fun v Hf1 H1 g ⟨a, vs, ev, h2, h3⟩ => by
      subst ev
      exact ⟨_, _, _, _, true, rfl, .ty "list", .base (.lst (g.ff _ _ h2)), kit_ty (by decide +kernel), kk _ Hf1 H1 g rfl⟩)
theorem xp_isK [Lib3 pg] {fs : List (Str × OT)} (h : XP Γ e1 ρ (.ins (ca pg "Keeper") fs)) (j j2 : Nat) (hG : G[j]? = some ("isinstance" : Str) := by rfl) (hG2 : G[j2]? = some ("Keeper" : Str) := by rfl) (hst : ∀ env, starEach (e1 :: [.Name "Keeper" p2]) env = (false, eval e1 env) :: starEach [.Name "Keeper" p2] env := by intro _; rfl) :
    XE Γ (.Call (.Name "isinstance" p) [e1, .Name "Keeper" p2] [] pos) ρ (.bl true) := fun σ Hf H Q E kk => by
  obtain ⟨k1, k2, k3, k4⟩ := Lib3.kpi (pg := pg)
  have kt := Lib3.kit (pg := pg) "Keeper" "Keeper" true (by decide)
  have cl := (fld (pg := pg) (C := "Keeper") (f := "kept") 0).cl
  have hK := kE Γ
  refine RunE.of (pe_callB call_isi (Γ.gl _ (gmem hG)) ((congrFun (mgE Γ) _).trans Bl.isinstance) (by decide +kernel) (pa_cons (runE _ e1) (pa_cons (pe_glob (v := .ref (ca pg "Keeper")) (u := .ref (ca pg "Keeper")) (Γ.gl _ (gmem hG2)) ((congrFun (mgE Γ) _).trans (Lib2.mak (pg := pg) "Keeper" (by decide)).1) rfl) pa_nil) (hst _)) (by decide) (by decide) (hst _) (by rfl)) ?_
  refine h σ Hf H _ E fun v Hf1 H1 fp g r nn => ?_
  obtain ⟨a, dx, ws, r', ev, _, h2, _⟩ := r
  subst ev
  refine ⟨_, _, _, _, true, rfl, .own _, .base (.ins h2 ?_ ?_ ?_ ?_ ?_), ?_, kk _ Hf1 H1 g rfl⟩
  · rw [hK]; exact cl
  · rw [hK]; exact k1
  · rw [hK]; exact k2
  · rw [hK]; exact k3
  · rw [hK]; exact k4
  · rw [hK]; exact kt
end
section
variable {pg : Pg} {sc : Scope} {N : List (Str × Bool)} {G : List Str} {lv : Nat} {own : List Nat} {Γ : Gf pg sc N G lv own} {ρ : List Sl} {e : Expr} {pos pos' np : Pos} {y n : Str} {De : De} {body suite : List Stmt} {b₀ : Stmt} {cv : Addr} {i : Nat}
/-- try: .. except X: .., the suite returns -/
theorem xs_tryO (Ex : Addr → List Sl → Prop) (hy : pg.mg y = some (.ref cv)) (hb : ∀ Γ' : Gf pg sc N G lv own, Γ'.c = Γ.c → XSs Γ' body ρ ⟨De.nx, De.rt, De.bk, De.ct, Ex⟩)
    (hs : ∀ C ρ', Ex C ρ' → PySem.W.exmOne pg.K (.ref C) (.ref cv) = some true ∧ ∀ (σ : L2.St) (Hf H : Hp) (a : Addr) (D : Ends) (oe : Obj) (pn : List (Addr × Obj)), Env pg Γ.c own Hf H σ ρ' → H a = none →
      (∀ σ Hf' H ρ d v, Env pg Γ.c own Hf' H σ ρ → De.rt (.sh d) ρ → R pg Hf' d v → D.rt v H) → Zc (.ref C) none oe → (∃ vs, oe.data = .fields vs) → RunSs (Γ.X.suite a ((a, oe) :: pn)) (b₀ :: suite) σ H D)
    (j : Nat) (hG : G[j]? = some y := by rfl) (hdb : (y == ("__debug__" : Str)) = false := by decide) : XS Γ (.Try body [.ExceptHandler (some (.Name y np)) none (b₀ :: suite) pos'] [] [] pos) ρ De := fun σ Hf H D E S => by
  let tb : WX → TS := fun W D σ H => ∀ pn xe, Takes (Γ.X.tr pn xe) W → PassesOwn (model Γ.X.prog Γ.X.w) Γ.X.A Γ.X.env xe → RunSs (Γ.X.tr pn xe) body σ H D
  let ts : Addr → Value → Option Addr → TS := fun a cls d D σ H => ∀ oe pn, Zc cls d oe → (∃ vs, oe.data = .fields vs) → RunSs (Γ.X.suite a ((a, oe) :: pn)) (b₀ :: suite) σ H D
  refine RunS.of (ps_try_only (tb := tb) (ts := ts) Γ.stk Γ.frm ⟨Γ.gl y (gmem hG), hdb, .inl ((congrFun (mgE Γ.toGm) _).trans hy)⟩ Γ.tk (fun W pn xe tk po => ⟨fun pins s σ H D I h => h pn xe tk po pins s I⟩) (fun a oe cls d pn hz hf => ⟨fun pins s σ H D I h => h oe pn hz hf pins s I⟩)) ?_
  intro pn xe tk po
  let Γ' : Gf pg sc N G lv own := ⟨⟨Γ.X.tr pn xe, Γ.c, Γ.hp, Γ.hsc, Γ.nd, Γ.nn, Γ.nl, Γ.nc, Γ.vis, Γ.gl, Γ.calm, Γ.room⟩, wOnly Γ.X.K (.ref cv) ts Γ.W D, Γ.st, tk, po, Γ.stk, Γ.frm⟩
  refine hb Γ' rfl σ Hf H D E ⟨S.nx, S.bk, S.ct, S.rs, S.ro, fun σ' Hf' H' ρ' C E' q => ?_⟩
  obtain ⟨h1, h2⟩ := hs C ρ' q
  exact ⟨true, by rw [kE Γ.toGm]; exact h1, fun _ a ha oe pn' hz hf => h2 σ' Hf' H' a D oe pn' E' ha S.rs hz hf, fun z => nomatch z⟩
/-- try: .. except X as n: .., the suite returns -/
theorem xs_tryA (Ex : Addr → List Sl → Prop) (i : Nat) (hy : pg.mg y = some (.ref cv)) (hb : ∀ Γ' : Gf pg sc N G lv own, Γ'.c = Γ.c → XSs Γ' body ρ ⟨De.nx, De.rt, De.bk, De.ct, Ex⟩)
    (hs : ∀ C ρ', Ex C ρ' → PySem.W.exmOne pg.K (.ref C) (.ref cv) = some true ∧ ∀ (σ : L2.St) (Hf H : Hp) (a : Addr) (D : Ends) (oe : Obj) (pn : List (Addr × Obj)), Env pg Γ.c own Hf H σ ρ' → H a = none →
      (∀ σ Hf' H ρ d v, Env pg Γ.c own Hf' H σ ρ → De.rt (.sh d) ρ → R pg Hf' d v → D.rt v H) → Zc (.ref C) none oe → (∃ vs, oe.data = .fields vs) → RunSs (Γ.X.suite a ((a, oe) :: pn)) (b₀ :: suite) (σ.set i (some (.ref a))) H D)
    (j : Nat) (hl : sc.names.lookup n = some .local) (hsk : sc.kind = .function) (hN : N[i]? = some (n, true) := by rfl) (hG : G[j]? = some y := by rfl) (hdb : (y == ("__debug__" : Str)) = false := by decide) : XS Γ (.Try body [.ExceptHandler (some (.Name y np)) (some n) (b₀ :: suite) pos'] [] [] pos) ρ De := fun σ Hf H D E S => by
  let tb : WX → TS := fun W D σ H => ∀ pn xe, Takes (Γ.X.tr pn xe) W → PassesOwn (model Γ.X.prog Γ.X.w) Γ.X.A Γ.X.env xe → RunSs (Γ.X.tr pn xe) body σ H D
  let ts : Addr → Value → Option Addr → TS := fun a cls d D σ H => ∀ oe pn, Zc cls d oe → (∃ vs, oe.data = .fields vs) → RunSs (Γ.X.suite a ((a, oe) :: pn)) (b₀ :: suite) σ H D
  have hln : Γ.X.env.kindOf n = some .local := by
    have := Γ.hsc
    show Γ.X.env.scope.names.lookup n = _
    rw [this]
    exact hl
  refine RunS.of (ps_try_as (tb := tb) (ts := ts) Γ.stk Γ.frm Γ.nd (Γ.vis i n hN).1 hln ⟨Γ.gl y (gmem hG), hdb, .inl ((congrFun (mgE Γ.toGm) _).trans hy)⟩ Γ.tk (fun W pn xe tk po => ⟨fun pins s σ H D I h => h pn xe tk po pins s I⟩) (fun a oe cls d pn hz hf => ⟨fun pins s σ H D I h => h oe pn hz hf pins s I⟩)) ?_
  intro pn xe tk po
  let Γ' : Gf pg sc N G lv own := ⟨⟨Γ.X.tr pn xe, Γ.c, Γ.hp, Γ.hsc, Γ.nd, Γ.nn, Γ.nl, Γ.nc, Γ.vis, Γ.gl, Γ.calm, Γ.room⟩, wAs Γ.X.K (.ref cv) i ts Γ.W D, Γ.st, tk, po, Γ.stk, Γ.frm⟩
  refine hb Γ' rfl σ Hf H D E ⟨S.nx, S.bk, S.ct, S.rs, S.ro, fun σ' Hf' H' ρ' C E' q => ?_⟩
  obtain ⟨h1, h2⟩ := hs C ρ' q
  exact ⟨true, by rw [kE Γ.toGm]; exact h1, fun _ a ha oe pn' hz hf => h2 σ' Hf' H' a _ oe pn' E' ha S.rs hz hf, fun z => nomatch z⟩
end
end Lk
set_option maxHeartbeats 1000000
namespace Lk
open PySem PySem.Spec PyProof.Rows L2
/-- isinstance(e, (C1, C2)), e the exception that the suite holds -/
def rIsET (K : PySem.W.Frag) (D a : Addr) : List V → Hp → VK → Prop := fun xs H Q => ∃ (tp : Addr) (cs : List V) (us : List Value) (b : Bool), xs = [.ref a, .ref tp] ∧ H tp = some (.tup cs) ∧ Paired ClsV cs us ∧ PySem.W.kitAny K (.ref D) us = some b ∧ Q (.bl b) H
theorem call_isET {X : Cx} {a D : Addr} {oe : Obj} {pn : List (Addr × Obj)} (C : ExcC X.K D) (hz : Zc (.ref D) none oe) (hf : ∃ vs, oe.data = .fields vs) : CallR (X.suite a ((a, oe) :: pn)) (.builtin "isinstance") (rIsET X.K D a) := by
  intro pins s σ H xs us Q I r h
  obtain ⟨tp, cs, ws, b, rfl, hT, k, e, q⟩ := h
  obtain ⟨u1, u2, rfl, r1, r2⟩ := vals2 r
  cases (show u1 = Value.ref a from r1)
  cases (show u2 = Value.ref tp from r2)
  obtain ⟨hget, _⟩ := I.pin (a, oe) (List.mem_append.mpr (.inl List.mem_cons_self))
  obtain ⟨vs, hv⟩ := hf
  have J : PySem.W.InstAt s.heap a oe D none := by
    obtain ⟨oc, od, oda, osl⟩ := oe
    obtain ⟨h1, h2⟩ := hz
    dsimp only at h1 h2 hv
    subst h1 h2 hv
    exact ⟨hget, rfl, rfl, trivial⟩
  obtain ⟨_, its, rv, o, h1, h2, n, h3⟩ := (show ObjOk X.prog X.w H s.heap tp (.tup cs) from I.hok tp _ hT)
  have e3 := ClsV.all k rv
  subst e3
  obtain ⟨oc, od, dt, sl⟩ := o
  simp only at h2 h3
  subst h2 h3
  exact PySem.W.kia_tup (PySem.W.handS_kitx_exc C.hg C.hk C.hs C.hd C.ha C.hn C.ht C.hm) I.kIn J h1 e (fun z => nomatch z) fun tk => ⟨.bl b, H, I.tok tk, rfl, q⟩
section
variable {pg : Pg} [Lib3 pg] {sc : Scope} {N : List (Str × Bool)} {G : List Str} {lv : Nat} {own : List Nat} {Γ : Gf pg sc N G lv own} {pos p p1 p2 p3 : Pos} {x y : Str} {a : Addr} {oe : Obj} {pn : List (Addr × Obj)} {σ : L2.St} {H : Hp} {i : Nat} {e : Str}
/-- isinstance(e, C) in the suite -/
theorem su_is {b : Bool} {Q : Bool → Hp → Prop} (i : Nat) (hz : Zc (.ref (ca pg x)) none oe) (hf : ∃ vs, oe.data = .fields vs) (hx : x ∈ (["TooWide", "Torn"] : List Str)) (hy : y ∈ (["CanalError", "NotNow", "BadRow", "TooWide", "Torn"] : List Str)) (hk : (x, y, b) ∈ kitTab) (hl : i < σ.length) (j j2 : Nat) (q : Q b H)
    (hN : N[i]? = some (e, true) := by rfl) (hG : G[j]? = some ("isinstance" : Str) := by rfl) (hG2 : G[j2]? = some y := by rfl) (hd : (e == ("__debug__" : Str)) = false := by decide) (hcd : (e == ("__classdict__" : Str)) = false := by decide) (hdy : (y == ("__debug__" : Str)) = false := by decide) :
    RunT (Γ.X.suite a ((a, oe) :: pn)) (.Call (.Name "isinstance" p) [.Name e p1, .Name y p2] [] pos) (σ.set i (some (.ref a))) H Q := by
  have hK := kE Γ.toGm
  obtain ⟨n, vi⟩ := Γ.vis i e hN
  have ex : ExcC Γ.X.K (ca pg x) := by rw [hK]; exact Lib3.exc x hx
  refine RunT.of (pt_val (pe_callB (call_isE ex hz hf) (Γ.gl _ (gmem hG)) ((congrFun (mgE Γ.toGm) _).trans Bl.isinstance) (by decide +kernel) (pa_cons (pe_var n vi hd hcd) (pa_cons (pe_glob (v := .ref (ca pg y)) (u := .ref (ca pg y)) (Γ.gl _ (gmem hG2)) ((congrFun (mgE Γ.toGm) _).trans (Lib3.exg y hy)) rfl hdy) pa_nil)) (by decide) (by decide)) (by intro _; rfl)) ?_
  exact ⟨.ref a, by rw [List.getElem?_set_self hl], .ref (ca pg y), .ref (ca pg y), b, rfl, fun u r => r, by rw [hK]; exact Lib3.kit x y b hk, b, rfl, q⟩
/-- isinstance(e, ValueError) in the suite -/
theorem su_isV {Q : Bool → Hp → Prop} (i : Nat) (hz : Zc (.ref (ca pg "Torn")) none oe) (hf : ∃ vs, oe.data = .fields vs) (hl : i < σ.length) (j j2 : Nat) (q : Q true H)
    (hN : N[i]? = some (e, true) := by rfl) (hG : G[j]? = some ("isinstance" : Str) := by rfl) (hG2 : G[j2]? = some ("ValueError" : Str) := by rfl) (hd : (e == ("__debug__" : Str)) = false := by decide) (hcd : (e == ("__classdict__" : Str)) = false := by decide) :
    RunT (Γ.X.suite a ((a, oe) :: pn)) (.Call (.Name "isinstance" p) [.Name e p1, .Name "ValueError" p2] [] pos) (σ.set i (some (.ref a))) H Q := by
  have hK := kE Γ.toGm
  obtain ⟨n, vi⟩ := Γ.vis i e hN
  have ex : ExcC Γ.X.K (ca pg "Torn") := by rw [hK]; exact Lib3.exc "Torn" (by decide)
  refine RunT.of (pt_val (pe_callB (call_isE ex hz hf) (Γ.gl _ (gmem hG)) ((congrFun (mgE Γ.toGm) _).trans Bl.isinstance) (by decide +kernel) (pa_cons (pe_var n vi hd hcd) (pa_cons (pe_bltn (v := .ty "ValueError") (u := .type "ValueError") (Γ.gl _ (gmem hG2)) ((congrFun (mgE Γ.toGm) _).trans Bl.valueError) (by decide +kernel) rfl) pa_nil)) (by decide) (by decide)) (by intro _; rfl)) ?_
  exact ⟨.ref a, by rw [List.getElem?_set_self hl], .ty "ValueError", .type "ValueError", true, rfl, fun u r => r, by rw [hK]; exact Lib3.kiv, true, rfl, q⟩
/-- isinstance(e, (BadRow, NotNow)) of a Torn in the suite -/
theorem su_isT {Q : Bool → Hp → Prop} (i : Nat) (hz : Zc (.ref (ca pg "Torn")) none oe) (hf : ∃ vs, oe.data = .fields vs) (hl : i < σ.length) (j j2 j3 : Nat) (q : ∀ tp, H tp = none → Q false (upd H tp (.tup [.ref (ca pg "BadRow"), .ref (ca pg "NotNow")]))) {k1 : Nat} {p4 : Pos}
    (hN : N[i]? = some (e, true) := by rfl) (hG : G[j]? = some ("isinstance" : Str) := by rfl) (hG2 : G[j2]? = some ("BadRow" : Str) := by rfl) (hG3 : G[j3]? = some ("NotNow" : Str) := by rfl) (hd : (e == ("__debug__" : Str)) = false := by decide) (hcd : (e == ("__classdict__" : Str)) = false := by decide) :
    RunT (Γ.X.suite a ((a, oe) :: pn)) (.Call (.Name "isinstance" p) [.Name e p1, .Tuple [.Name "BadRow" p2, .Name "NotNow" p3] k1 p4] [] pos) (σ.set i (some (.ref a))) H Q := by
  have hK := kE Γ.toGm
  obtain ⟨n, vi⟩ := Γ.vis i e hN
  have ex : ExcC Γ.X.K (ca pg "Torn") := by rw [hK]; exact Lib3.exc "Torn" (by decide)
  refine RunT.of (pt_val (pe_callB (call_isET ex hz hf) (Γ.gl _ (gmem hG)) ((congrFun (mgE Γ.toGm) _).trans Bl.isinstance) (by decide +kernel) (pa_cons (pe_var n vi hd hcd) (pa_cons (pe_tup (pa_cons (pe_glob (v := .ref (ca pg "BadRow")) (u := .ref (ca pg "BadRow")) (Γ.gl _ (gmem hG2)) ((congrFun (mgE Γ.toGm) _).trans (Lib3.exg "BadRow" (by decide))) rfl) (pa_cons (pe_glob (v := .ref (ca pg "NotNow")) (u := .ref (ca pg "NotNow")) (Γ.gl _ (gmem hG3)) ((congrFun (mgE Γ.toGm) _).trans (Lib3.exg "NotNow" (by decide))) rfl) pa_nil))) pa_nil)) (by decide) (by decide)) (by intro _; rfl)) ?_
  refine ⟨.ref a, by rw [List.getElem?_set_self hl], sz5 (Nat.le_of_ble_eq_true rfl), fun tp htp => ⟨tp, _, [.ref (ca pg "BadRow"), .ref (ca pg "NotNow")], false, rfl, upd_same, .cons (.own _) (.cons (.own _) .nil), ?_, false, rfl, q tp htp⟩⟩
  rw [hK]
  exact kitAny_cons (Lib3.kit "Torn" "BadRow" false (by decide)) (fun _ => kitAny_cons (Lib3.kit "Torn" "NotNow" false (by decide)) (fun _ => kitAny_nil) fun z => nomatch z) fun z => nomatch z
end
end Lk
set_option maxHeartbeats 400000
namespace Lk
open PySem PySem.Spec PyProof.Rows L2
def fromOf (c : Cnl) (s : Nat × Bool) : Nat := if s.2 then (c.locks[s.1]!).low else (c.locks[s.1]!).high
def toOf (c : Cnl) (s : Nat × Bool) : Nat := if s.2 then (c.locks[s.1]!).high else (c.locks[s.1]!).low
/-- where one is after k steps -/
def atOf (c : Cnl) (w : Wy) : Nat → Nat
  | 0 => w.1
  | k + 1 => toOf c (w.2[k]!)
/-- a way whose steps hang together -/
structure WyOk (c : Cnl) (w : Wy) : Prop where
  st : w.1 < c.nr
  lk : ∀ s ∈ w.2, s.1 < c.nl
  hang : ∀ k, k < w.2.length → fromOf c (w.2[k]!) = atOf c w k
  lo : 1 ≤ w.2.length
  hi : w.2.length ≤ 100
/-- names told apart -/
structure CNm (c : Cnl) : Prop where
  rn : (c.reaches.map Rch.name).Nodup
  ln : (c.locks.map Lck.name).Nodup
  ro : ∀ r ∈ c.reaches, NmOk r.name
  lo : ∀ l ∈ c.locks, NmOk l.name
theorem nodup_get {α : Type} [Inhabited α] {f : α → Str} {xs : List α} (h : (xs.map f).Nodup) {i j : Nat} (hi : i < xs.length) (hj : j < xs.length) (e : f xs[i]! = f xs[j]!) : i = j := by
  rw [getElem!_pos xs i hi, getElem!_pos xs j hj] at e
  have hi' : i < (xs.map f).length := by rw [List.length_map]; exact hi
  have hj' : j < (xs.map f).length := by rw [List.length_map]; exact hj
  exact (List.getElem_inj h (h₀ := hi') (h₁ := hj')).mp (by rw [List.getElem_map, List.getElem_map]; exact e)
theorem plc_at {α : Type} [Inhabited α] {f : α → Str} {xs : List α} (h : (xs.map f).Nodup) {k : Nat} (hk : k < xs.length) : plcOf (xs.map f) (f xs[k]!) = k := by
  have at_ : ∀ i, i < xs.length → (xs.map f)[i]? = some (f xs[i]!) := fun i hi => by rw [List.getElem?_map, List.getElem?_eq_getElem hi, getElem!_pos xs i hi]; rfl
  refine place_hit (fun i hi e => ?_) (at_ k hk)
  rw [at_ i (by omega)] at e
  have := nodup_get h (by omega) hk (Option.some.inj e)
  omega
variable {pg : Pg} [Lib3 pg]
theorem s14 : Sc [("canal", true), ("start", true), ("steps", true), ("along", true), ("step", true), ("lock", true), ("begin", true), ("end", true)] ["canal", "start", "steps"] ["NotLinked"] (defScope (top 14)) := sc_by (by decide +kernel)
theorem f_linked : Fn pg 1 false "linked" [] (Ct (fun a : Cnl × Wy => WyOk a.1 a.2) (fun a => [.sh (eCnl pg a.1), .sh (eN a.2.1), .sh (.tup (a.2.2.map eStep))]) fun a => .ow (.lst ((List.range (a.2.2.length + 1)).map fun k => eN (atOf a.1 a.2 k)))) := by
  refine fn_ct 14 0 rfl s14 (fun _ => rfl) (fun _ _ _ _ _ _ us hl => match us, hl with | [_, _, _], _ => rfl) ?_
  rintro Γ ⟨c, w⟩ H
  dsimp only at H ⊢
  have hi := H.hi
  refine xss_cons (xs_setO 3 (lsO (XB.sh ((xv 1 rfl)) XB.nil)) ?_)
  refine xss_mid (fun ρ => ∃ s4 s5 s6 s7, ρ = [.sh (eCnl pg c), .sh (eN w.1), .sh (.tup (w.2.map eStep)), .ow (.lst ((List.range (w.2.length + 1)).map fun k => eN (atOf c w k))), s4, s5, s6, s7])
    (xs_forT 4 (fun k ρ => ∃ s4 s5 s6 s7, ρ = [.sh (eCnl pg c), .sh (eN w.1), .sh (.tup (w.2.map eStep)), .ow (.lst ((List.range (k + 1)).map fun k => eN (atOf c w k))), s4, s5, s6, s7]) (xv 2 rfl) ⟨_, _, _, _, rfl⟩ ?_ ?_) ?_
  · rintro k x ρ hx ⟨s4, s5, s6, s7, rfl⟩
    obtain ⟨hk, rfl⟩ := map_at hx
    have hl := H.lk _ (mem_get hk)
    have hh := H.hang k hk
    refine xss_cons (xs_set 5 (xe_ixL (f_locks (xv 0 rfl)) (xe_ixt (xv 4 rfl)) rfl (at_map hl)) ?_)
    refine xss_cons (xs_set 6 (f_low (xv 5 rfl)) ?_)
    refine xss_cons (xs_set 7 (f_high (xv 5 rfl)) ?_)
    refine xss_mid (fun ρ => ρ = [.sh (eCnl pg c), .sh (eN w.1), .sh (.tup (w.2.map eStep)), .ow (.lst ((List.range (k + 1)).map fun k => eN (atOf c w k))), .sh (eStep w.2[k]!), .sh (eLck pg c.locks[(w.2[k]!).1]!), .sh (eN (fromOf c w.2[k]!)), .sh (eN (toOf c w.2[k]!))])
      (xs_if (c := !(w.2[k]!).2) ((xt_cmp (xe_ixt (xv 4 rfl)) xe_str o_eqS).to (by unfold dirS; cases (w.2[k]!).2 <;> decide)) (fun q => xss_cons (xs_set 6 (f_high (xv 5 rfl)) (xss_one (xs_set 7 (f_low (xv 5 rfl)) ?_)))) (fun q => xss_nil ?_)) ?_
    · have q : (w.2[k]!).2 = false := by rw [Bool.not_eq_true'] at q; exact q
      unfold fromOf toOf
      rw [q]
      rfl
    · have q : (w.2[k]!).2 = true := by rw [Bool.not_eq_false'] at q; exact q
      unfold fromOf toOf
      rw [q]
      rfl
    · rintro _ rfl
      refine xss_cons (xs_if (xt_cmp (xe_ixLastP (d := eN (atOf c w k)) (XP.l (xpv 3 (.inl rfl))) (by simp)) (xv 6 rfl) o_neI) (fun q => xss_no ?_) (fun q => xss_nil ?_))
      · rw [hh, decide_eq_true rfl] at q
        cases q
      · refine xss_one (xs_append 3 rfl (xv 7 rfl) ?_ (by simp; omega))
        refine ⟨.sh (eStep w.2[k]!), .sh (eLck pg c.locks[(w.2[k]!).1]!), .sh (eN (fromOf c w.2[k]!)), .sh (eN (toOf c w.2[k]!)), ?_⟩
        rw [List.range_succ (n := k + 1), List.map_append]
        rfl
  · rintro ρ ⟨s4, s5, s6, s7, rfl⟩
    rw [List.length_map]
    exact ⟨_, _, _, _, rfl⟩
  · rintro ρ ⟨s4, s5, s6, s7, rfl⟩
    exact xss_one (xs_retV 3 rfl rfl)
theorem s70_1 : Sc [("self", true), ("name", true), ("found", true)] ["self", "name"] ["place_of", "Unknown"] (defScope (mth 70 1)) := sc_by (by decide +kernel)
theorem m_reach_at : Mt pg 2 false (ca pg "Canal") "reach_at" [] (Ct (fun a : Cnl × Nat => CNm a.1 ∧ a.2 < a.1.nr ∧ a.1.nr ≤ 100) (fun a => [.sh (eCnl pg a.1), .sh (.str (a.1.reaches[a.2]!).name)]) fun a => .sh (eN a.2)) := by
  refine mt_ct 70 1 22 rfl 16 "reaches" rfl s70_1 (fun _ => rfl) (fun _ _ _ _ _ _ us hl => match us, hl with | [_, _], _ => rfl) ?_
  rintro Γ ⟨c, k⟩ ⟨W, hk, hm⟩
  dsimp only at W hk hm ⊢
  have hm : c.reaches.length ≤ 100 := hm
  refine xss_cons (xs_set 2 (xe_call f_place_of (XA.sh (f_reaches (xv 0 rfl)) (XA.sh ((xv 1 rfl)) XA.nil)) 0 ⟨(c.reaches.map (eRch pg), c.reaches.map Rch.name, (c.reaches[k]!).name), ⟨by simp, by simp; omega, fun i d s h1 h2 => ?_⟩, rfl, rfl⟩) ?_)
  · obtain ⟨hi, rfl⟩ := map_at h1
    rw [List.getElem?_map, List.getElem?_eq_getElem hi] at h2
    cases h2
    exact .inl ⟨_, rfl, by rw [getElem!_pos _ i hi]⟩
  · have e : plcOf (c.reaches.map Rch.name) (c.reaches[k]!).name = k := plc_at W.rn hk
    dsimp only
    rw [e]
    exact xss_cons (xs_if (xt_cmp (xv 2 rfl) xe_int o_lt) (fun q => xss_no (by have := of_decide_eq_true q; omega)) (fun _ => xss_nil (xss_one (xs_ret (xv 2 rfl) rfl))))
theorem s70_2 : Sc [("self", true), ("name", true), ("found", true)] ["self", "name"] ["place_of", "Unknown"] (defScope (mth 70 2)) := sc_by (by decide +kernel)
theorem m_lock_at : Mt pg 2 false (ca pg "Canal") "lock_at" [] (Ct (fun a : Cnl × Nat => CNm a.1 ∧ a.2 < a.1.nl ∧ a.1.nl ≤ 100) (fun a => [.sh (eCnl pg a.1), .sh (.str (a.1.locks[a.2]!).name)]) fun a => .sh (eN a.2)) := by
  refine mt_ct 70 2 23 rfl 16 "reaches" rfl s70_2 (fun _ => rfl) (fun _ _ _ _ _ _ us hl => match us, hl with | [_, _], _ => rfl) ?_
  rintro Γ ⟨c, k⟩ ⟨W, hk, hm⟩
  dsimp only at W hk hm ⊢
  have hm : c.locks.length ≤ 100 := hm
  refine xss_cons (xs_set 2 (xe_call f_place_of (XA.sh (f_locks (xv 0 rfl)) (XA.sh ((xv 1 rfl)) XA.nil)) 0 ⟨(c.locks.map (eLck pg), c.locks.map Lck.name, (c.locks[k]!).name), ⟨by simp, by simp; omega, fun i d s h1 h2 => ?_⟩, rfl, rfl⟩) ?_)
  · obtain ⟨hi, rfl⟩ := map_at h1
    rw [List.getElem?_map, List.getElem?_eq_getElem hi] at h2
    cases h2
    exact .inr ⟨_, rfl, by rw [getElem!_pos _ i hi]⟩
  · have e : plcOf (c.locks.map Lck.name) (c.locks[k]!).name = k := plc_at W.ln hk
    dsimp only
    rw [e]
    exact xss_cons (xs_if (xt_cmp (xv 2 rfl) xe_int o_lt) (fun q => xss_no (by have := of_decide_eq_true q; omega)) (fun _ => xss_nil (xss_one (xs_ret (xv 2 rfl) rfl))))
/-- a step by its lock's name -/
def stN (c : Cnl) (s : Nat × Bool) : Str × Bool := ((c.locks[s.1]!).name, s.2)
/-- a boat's coming, by names -/
def comeE (c : Cnl) (n : Str) (w : Wy) : Ent := .come n (c.reaches[w.1]!).name (w.2.map (stN c))
theorem s65 : Sc [("canal", true), ("entry", true), ("start", true), ("steps", true), ("step", false)] ["canal", "entry"] ["tuple", "linked"] (defScope (top 65)) := sc_by (by decide +kernel)
theorem f_way_of : Fn pg 3 false "way_of" [] (Ct (fun a : Cnl × Str × Wy => CW a.1 ∧ CNm a.1 ∧ WyOk a.1 a.2.2) (fun a => [.sh (eCnl pg a.1), .sh (eEnt (comeE a.1 a.2.1 a.2.2))]) fun a => .sh (eWy a.2.2)) := by
  refine fn_ct 65 37 rfl s65 (fun _ => rfl) (fun _ _ _ _ _ _ us hl => match us, hl with | [_, _], _ => rfl) ?_
  rintro Γ ⟨c, n, w⟩ ⟨W, M, H⟩
  dsimp only at W M H ⊢
  have hr := W.rm
  have hl := W.lm
  have hi := H.hi
  refine xss_cons (xs_set 2 (xe_meth m_reach_at (XE.rcv (xv 0 rfl)) (.inl ⟨_, rfl, rfl⟩) (XA.sh (xe_ixt (xv 1 rfl)) XA.nil) ⟨(c, w.1), ⟨M, H.st, by dsimp only; omega⟩, rfl, rfl⟩) ?_)
  refine xss_cons (xs_set 3 (xe_tuple (XO.lst (lc_m (zs := w.2) (f := fun s => eNamed (stN c s)) (g := eStep) 4 [("canal", true), ("entry", false), ("start", false), ("steps", false), ("step", true)] [] (by decide +kernel) (XE.itT ((xe_ixt (d := .tup ((w.2.map (stN c)).map eNamed)) (xv 1 rfl)).to (da := .tup (w.2.map fun s => eNamed (stN c s))) (congrArg D.tup List.map_map))) (by omega) (fun sc' Γ' s hs => tup (XB.sh (xe_meth m_lock_at (XE.rcv (xv 0 rfl)) (.inl ⟨_, rfl, rfl⟩) (XA.sh (xe_ixt (xv 4 rfl)) XA.nil) ⟨(c, s.1), ⟨M, H.lk s hs, by dsimp only; omega⟩, rfl, rfl⟩) (XB.sh (xe_ixt (xv 4 rfl)) XB.nil)))).xo) 0) ?_)
  refine xss_cons (xs_expr (XO.lst (xo_call f_linked (XA.sh ((xv 0 rfl)) (XA.sh ((xv 2 rfl)) (XA.sh ((xv 3 rfl)) XA.nil))) 1 ⟨(c, w), H, rfl, rfl⟩)) ?_)
  exact xss_one (xs_ret (tup (XB.sh ((xv 2 rfl)) (XB.sh ((xv 3 rfl)) XB.nil))) rfl)
end Lk
set_option maxHeartbeats 400000
namespace Lk
open PySem PySem.Spec PyProof.Rows L2
def isMu : Am → Bool
  | .mu _ _ => true
  | _ => false
theorem mu0 {o o' : OT} {as : List Am} {ρ : List Sl} (h : ρ[0]? = some (Sl.ow o')) (hn : as.all (fun a => !isMu a) = true := by rfl) : ∀ (i : Nat) p p', (Am.mu o o' :: as)[i]? = some (Am.mu p p') → ρ[i]? = some (Sl.ow p')
  | 0, p, p', e => by cases e; exact h
  | i + 1, p, p', e => by
    have := List.all_eq_true.mp hn _ (List.mem_of_getElem? (show as[i]? = some (Am.mu p p') from e))
    cases this
theorem bindsAllD {K : PySem.W.Frag} {x qual : Str} {params : Arguments} {body : List Stmt} {scope : Scope} {v : V} {f : Addr} {fd : FuncData} {ps : List Str} (F : FunD K x qual params body scope [v] [] f fd)
    (h : ∀ (T : Addr) (kV doc pm : Value) (an : Option Addr) (cdv ct : Value) (us its : List Value), us.length = ps.length → its.length = 1 →
      ∃ k, bindArgs (PySem.W.fnOf x qual params body scope (.ref T) kV doc pm an cdv ct) ⟨us, []⟩ = seqItems? (.ref T) >>= k ∧ k (some its.toArray) = pure (ps.zip us)) : Binds K fd ps [] := by
  obtain ⟨ds, e1, e2⟩ := F.binds1 (ps := ps) ps.length 1 (by exact fun z => nomatch z) rfl fun T kV doc pm an cdv ct us its h1 h2 => by
    obtain ⟨k, a, b⟩ := h T kV doc pm an cdv ct us its h1 h2
    refine ⟨k, a, ?_⟩
    rw [show its.drop 1 = [] from List.drop_eq_nil_of_le (by have : ([v] : List V).length = 1 := rfl; omega), List.append_nil]
    exact b
  have e1 : Vals [] ds := e1
  cases e1
  exact e2
variable {pg : Pg} [Lib3 pg]
/-! ### things made -/
def rchF (r : Rch) : List (Str × D) := [("name", .str r.name), ("least", .int r.least), ("crest", .int r.crest), ("berths", .int r.berths), ("water", .int r.water), ("target", .int (eTgt r.target))]
def lckF (l : Lck) : List (Str × D) := [("name", .str l.name), ("high", .int l.high), ("low", .int l.low), ("room", .int l.room)]
theorem s68_0 : Sc [("self", true), ("name", true), ("least", true), ("crest", true), ("berths", true), ("water", true), ("target", true)] ["self", "name", "least", "crest", "berths", "water", "target"] [] (defScope (mth 68 0)) := sc_by (by decide +kernel)
theorem k_reach : MkM pg 1 false "Reach" [] (CtM (fun _ : Rch => True) (fun r => [.mu (.ins (ca pg "Reach") []) (.ins (ca pg "Reach") (shF (rchF r))), .sh (.str r.name), .sh (.int r.least), .sh (.int r.crest), .sh (.int r.berths), .sh (.int r.water), .sh (.int (eTgt r.target))]) fun _ => .sh .non) := by
  refine mk_ct 68 0 20 rfl (by decide) s68_0 (fun _ => rfl) (fun _ => rfl) (fun f fd F => F.bindsN (fun _ _ _ _ _ _ us hl => match us, hl with | [_, _, _, _, _, _, _], _ => rfl)) ?_
  rintro Γ r -
  refine xss_cons (xs_fld 0 rfl (fld 10) (xv 1 rfl) (Nat.le_of_ble_eq_true rfl) ?_)
  refine xss_cons (xs_fld 0 rfl (fld 11) (xv 2 rfl) (Nat.le_of_ble_eq_true rfl) ?_)
  refine xss_cons (xs_fld 0 rfl (fld 12) (xv 3 rfl) (Nat.le_of_ble_eq_true rfl) ?_)
  refine xss_cons (xs_fld 0 rfl (fld 13) (xv 4 rfl) (Nat.le_of_ble_eq_true rfl) ?_)
  refine xss_cons (xs_fld 0 rfl (fld 14) (xv 5 rfl) (Nat.le_of_ble_eq_true rfl) ?_)
  exact xss_one (xs_fld 0 rfl (fld 15) (xv 6 rfl) (Nat.le_of_ble_eq_true rfl) ⟨rfl, mu0 rfl⟩)
theorem s73_0 : Sc [("self", true), ("name", true), ("high", true), ("low", true), ("room", true)] ["self", "name", "high", "low", "room"] [] (defScope (mth 73 0)) := sc_by (by decide +kernel)
theorem k_plain : MkM pg 1 false "PlainLock" [] (CtM (fun _ : Lck => True) (fun l => [.mu (.ins (ca pg "PlainLock") []) (.ins (ca pg "PlainLock") (shF (lckF l))), .sh (.str l.name), .sh (eN l.high), .sh (eN l.low), .sh (.int l.room)]) fun _ => .sh .non) := by
  refine mk_ct 73 0 32 rfl (by decide) s73_0 (fun _ => rfl) (fun _ => rfl) (fun f fd F => F.bindsN (fun _ _ _ _ _ _ us hl => match us, hl with | [_, _, _, _, _], _ => rfl)) ?_
  rintro Γ l -
  refine xss_cons (xs_fld 0 rfl (fld 19) (xv 1 rfl) (Nat.le_of_ble_eq_true rfl) ?_)
  refine xss_cons (xs_fld 0 rfl (fld 20) (xv 2 rfl) (Nat.le_of_ble_eq_true rfl) ?_)
  refine xss_cons (xs_fld 0 rfl (fld 21) (xv 3 rfl) (Nat.le_of_ble_eq_true rfl) ?_)
  exact xss_one (xs_fld 0 rfl (fld 22) (xv 4 rfl) (Nat.le_of_ble_eq_true rfl) ⟨rfl, mu0 rfl⟩)
theorem k_plain1 : MtC pg 1 false "PlainLock" "__init__" (CtM (fun _ : Lck => True) (fun l => [.mu (.ins (ca pg "BasinLock") []) (.ins (ca pg "BasinLock") (shF (lckF l))), .sh (.str l.name), .sh (eN l.high), .sh (eN l.low), .sh (.int l.room)]) fun _ => .sh .non) := by
  refine mtC_ct [0] 73 0 32 rfl s73_0 (fun _ => rfl) (fun _ => rfl) (fun _ _ _ _ _ _ us hl => match us, hl with | [_, _, _, _, _], _ => rfl) ?_
  rintro Γ l -
  refine xss_cons (xs_fld 0 rfl (fld 23) (xv 1 rfl) (Nat.le_of_ble_eq_true rfl) ?_)
  refine xss_cons (xs_fld 0 rfl (fld 24) (xv 2 rfl) (Nat.le_of_ble_eq_true rfl) ?_)
  refine xss_cons (xs_fld 0 rfl (fld 25) (xv 3 rfl) (Nat.le_of_ble_eq_true rfl) ?_)
  exact xss_one (xs_fld 0 rfl (fld 26) (xv 4 rfl) (Nat.le_of_ble_eq_true rfl) ⟨rfl, mu0 rfl⟩)
theorem k_plain2 : MtC pg 1 false "PlainLock" "__init__" (CtM (fun _ : Lck => True) (fun l => [.mu (.ins (ca pg "PumpLock") []) (.ins (ca pg "PumpLock") (shF (lckF l))), .sh (.str l.name), .sh (eN l.high), .sh (eN l.low), .sh (.int l.room)]) fun _ => .sh .non) := by
  refine mtC_ct [0] 73 0 32 rfl s73_0 (fun _ => rfl) (fun _ => rfl) (fun _ _ _ _ _ _ us hl => match us, hl with | [_, _, _, _, _], _ => rfl) ?_
  rintro Γ l -
  refine xss_cons (xs_fld 0 rfl (fld 28) (xv 1 rfl) (Nat.le_of_ble_eq_true rfl) ?_)
  refine xss_cons (xs_fld 0 rfl (fld 29) (xv 2 rfl) (Nat.le_of_ble_eq_true rfl) ?_)
  refine xss_cons (xs_fld 0 rfl (fld 30) (xv 3 rfl) (Nat.le_of_ble_eq_true rfl) ?_)
  exact xss_one (xs_fld 0 rfl (fld 31) (xv 4 rfl) (Nat.le_of_ble_eq_true rfl) ⟨rfl, mu0 rfl⟩)
theorem s74_0 : Sc [("self", true), ("name", true), ("high", true), ("low", true), ("room", true), ("side", true)] ["self", "name", "high", "low", "room", "side"] ["PlainLock"] (defScope (mth 74 0)) := sc_by (by decide +kernel)
theorem k_basin : MkM pg 2 false "BasinLock" [] (CtM (fun _ : Lck × Int => True) (fun a => [.mu (.ins (ca pg "BasinLock") []) (.ins (ca pg "BasinLock") (shF (lckF a.1 ++ [(("side" : Str), D.int a.2)]))), .sh (.str a.1.name), .sh (eN a.1.high), .sh (eN a.1.low), .sh (.int a.1.room), .sh (.int a.2)]) fun _ => .sh .non) := by
  refine mk_ct 74 0 37 rfl (by decide) s74_0 (fun _ => rfl) (fun _ => rfl) (fun f fd F => F.bindsN (fun _ _ _ _ _ _ us hl => match us, hl with | [_, _, _, _, _, _], _ => rfl)) ?_
  rintro Γ ⟨l, s⟩ -
  refine xss_cons (xs_exprC (xc_cls k_plain1 (XM.mu 0 rfl (XM.sh (xv 1 rfl) (XM.sh (xv 2 rfl) (XM.sh (xv 3 rfl) (XM.sh (xv 4 rfl) XM.nil))))) (its_one (as := []) (bs := [.str l.name, eN l.high, eN l.low, .int l.room]) rfl) 0 ⟨l, trivial, rfl, rfl⟩) ?_)
  exact xss_one (xs_fld 0 rfl (fld 27) (xv 5 rfl) (Nat.le_of_ble_eq_true rfl) ⟨rfl, mu0 rfl⟩)
theorem s75_0 : Sc [("self", true), ("name", true), ("high", true), ("low", true), ("room", true), ("lift", true)] ["self", "name", "high", "low", "room", "lift"] ["PlainLock"] (defScope (mth 75 0)) := sc_by (by decide +kernel)
theorem k_pump : MkM pg 2 false "PumpLock" [] (CtM (fun _ : Lck × Int => True) (fun a => [.mu (.ins (ca pg "PumpLock") []) (.ins (ca pg "PumpLock") (shF (lckF a.1 ++ [(("lift" : Str), D.int a.2)]))), .sh (.str a.1.name), .sh (eN a.1.high), .sh (eN a.1.low), .sh (.int a.1.room), .sh (.int a.2)]) fun _ => .sh .non) := by
  refine mk_ct 75 0 42 rfl (by decide) s75_0 (fun _ => rfl) (fun _ => rfl) (fun f fd F => F.bindsN (fun _ _ _ _ _ _ us hl => match us, hl with | [_, _, _, _, _, _], _ => rfl)) ?_
  rintro Γ ⟨l, s⟩ -
  refine xss_cons (xs_exprC (xc_cls k_plain2 (XM.mu 0 rfl (XM.sh (xv 1 rfl) (XM.sh (xv 2 rfl) (XM.sh (xv 3 rfl) (XM.sh (xv 4 rfl) XM.nil))))) (its_one (as := []) (bs := [.str l.name, eN l.high, eN l.low, .int l.room]) rfl) 0 ⟨l, trivial, rfl, rfl⟩) ?_)
  exact xss_one (xs_fld 0 rfl (fld 32) (xv 5 rfl) (Nat.le_of_ble_eq_true rfl) ⟨rfl, mu0 rfl⟩)
def cnlF (pg : Pg) (c : Cnl) : List (Str × D) := [("reaches", .lst (c.reaches.map (eRch pg))), ("locks", .lst (c.locks.map (eLck pg))), ("nights", .lst (c.nights.map eNight))]
theorem s70_0 : Sc [("self", true), ("reaches", true), ("locks", true), ("nights", true), ("night", false)] ["self", "reaches", "locks", "nights"] ["list"] (defScope (mth 70 0)) := sc_by (by decide +kernel)
theorem k_canal : MkM pg 1 false "Canal" [] (CtM (fun c : Cnl => c.nights.length ≤ 100) (fun c => [.mu (.ins (ca pg "Canal") []) (.ins (ca pg "Canal") (shF (cnlF pg c))), .sh (.lst (c.reaches.map (eRch pg))), .sh (.lst (c.locks.map (eLck pg))), .sh (.lst (c.nights.map eNight))]) fun _ => .sh .non) := by
  refine mk_ct 70 0 21 rfl (by decide) s70_0 (fun _ => rfl) (fun _ => rfl) (fun f fd F => bindsAllD F (fun _ _ _ _ _ _ _ us its hl hi => match us, its, hl, hi with | [_, _, _, _], [_], _, _ => ⟨_, rfl, rfl⟩)) ?_
  rintro Γ c hn
  refine xss_cons (xs_fld 0 rfl (fld 16) (XO.lst (xo_list (xv 1 rfl) 0)) (Nat.le_of_ble_eq_true rfl) ?_)
  refine xss_cons (xs_fld 0 rfl (fld 17) (XO.lst (xo_list (xv 2 rfl) 0)) (Nat.le_of_ble_eq_true rfl) ?_)
  refine xss_cons (xs_fld 0 rfl (fld 18) (ls XB.nil) (Nat.le_of_ble_eq_true rfl) ?_)
  refine xss_one (xs_if (xt_cmp (xv 3 rfl) xe_non o_notN) (fun _ => ?_) (fun h => xss_no (by cases h)))
  exact xss_one (xs_fld 0 rfl (fld 18) (XO.lst (lc_m (zs := c.nights) (f := eNight) (g := eNight) 4 [("self", false), ("reaches", false), ("locks", false), ("nights", false), ("night", true)] ["list"] (by decide +kernel) (XL.it (XE.l (xv 3 rfl))) (by omega) (fun _ _ _ _ => XO.lst (xo_list (xv 4 rfl) 0))).xo) (Nat.le_of_ble_eq_true rfl) ⟨rfl, mu0 rfl⟩)
def bk0 (c : Cnl) : Bk := ⟨c, [], [], begun c [], [], [], []⟩
theorem s66_0 : Sc [("self", true), ("canal", true)] ["self", "canal"] ["begun"] (defScope (mth 66 0)) := sc_by (by decide +kernel)
theorem k_book : MkM pg 6 false "Book" [] (CtM (fun c : Cnl => CW c) (fun c => [.mu (.ins (ca pg "Book") []) (eBk pg (bk0 c)), .sh (eCnl pg c)]) fun _ => .sh .non) := by
  refine mk_ct 66 0 3 rfl (by decide) s66_0 (fun _ => rfl) (fun _ => rfl) (fun f fd F => F.bindsN (fun _ _ _ _ _ _ us hl => match us, hl with | [_, _], _ => rfl)) ?_
  rintro Γ c W
  refine xss_cons (xs_fld 0 rfl (fld 3) (xv 1 rfl) (Nat.le_of_ble_eq_true rfl) ?_)
  refine xss_cons (xs_fldO 0 rfl (fld 4) (lsO XB.nil) (Nat.le_of_ble_eq_true rfl) ?_)
  refine xss_cons (xs_fld 0 rfl (fld 5) (ls XB.nil) (Nat.le_of_ble_eq_true rfl) ?_)
  refine xss_cons (xs_fld 0 rfl (fld 6) (xe_call f_begun (XA.sh ((xv 1 rfl)) (XA.sh (ls XB.nil) XA.nil)) 0 ⟨(c, []), ⟨W, Nat.zero_le _⟩, rfl, rfl⟩) (Nat.le_of_ble_eq_true rfl) ?_)
  refine xss_cons (xs_fld 0 rfl (fld 7) (ls XB.nil) (Nat.le_of_ble_eq_true rfl) ?_)
  refine xss_cons (xs_fldO 0 rfl (fld 8) (lsO XB.nil) (Nat.le_of_ble_eq_true rfl) ?_)
  exact xss_one (xs_fldO 0 rfl (fld 9) (lsO XB.nil) (Nat.le_of_ble_eq_true rfl) ⟨rfl, mu0 rfl⟩)
end Lk
set_option maxHeartbeats 400000
namespace Lk
open PySem PySem.Spec PyProof.Rows L2
/-! ### entries, told by numbers -/
inductive EntR where
  | come (n : Str) (w : Wy) | pass (i : Nat) | let_ (k : Nat) | night (ws : List (Int × Int)) | take (r : Nat) (n : Int) | rain (r : Nat) (n : Int)
def entOf (b : Bk) : EntR → Ent
  | .come n w => comeE b.house n w
  | .pass i => .pass b.called[i]!
  | .let_ k => .let_ (b.house.locks[k]!).name
  | .night ws => .night ws
  | .take r n => .take (b.house.reaches[r]!).name n
  | .rain r n => .rain (b.house.reaches[r]!).name n
/-- a book in order -/
structure BkC (b : Bk) : Prop where
  cw : CW b.house
  cn : CNm b.house
  sw : SW b.house b.courses b.standing
  nd : b.called.Nodup
  nm : ∀ n ∈ b.called, NmOk n
  cl : b.called.length = b.courses.length
structure BkW (b : Bk) : Prop extends BkC b where
  ml : b.moved.length ≤ 100 * b.told.length
  gl : b.gatewords.length ≤ b.told.length
  tl : b.told.length ≤ 400
def ErW (b : Bk) : EntR → Prop
  | .come n w => NmOk n ∧ n ∉ b.called ∧ b.called.length < 9 ∧ WyOk b.house w
  | .pass i => i < b.called.length
  | .let_ k => k < b.house.nl
  | .night ws => ws.length = b.house.nr ∧ (b.standing.1 < b.house.nights.length → wetEnough ws b.house.nights[b.standing.1]! = true)
  | .take r _ => r < b.house.nr
  | .rain r _ => r < b.house.nr
def faultR (b : Bk) : EntR → Str
  | .come _ w => if (b.house.reaches[w.1]!).berths ≤ (lying b.house b.courses b.standing w.1 : Nat) then "berth" else ""
  | .pass i => whyNot b.house b.courses b.standing (.pass i)
  | .let_ k => whyNot b.house b.courses b.standing (.let_ k)
  | .night _ => if b.house.nights.length ≤ b.standing.1 then "over" else ""
  | .take r n => if b.standing.2.1[r]! - n < (b.house.reaches[r]!).least then "water" else ""
  | .rain _ _ => ""
def poursR (b : Bk) : EntR → List Pr
  | .come _ _ => []
  | .pass i => poursD b.house b.courses b.standing (.pass i)
  | .let_ k => poursD b.house b.courses b.standing (.let_ k)
  | .night ws => nightPours b.house b.standing ws
  | .take r n => if n = 0 then [] else [(r, b.house.sky, n)]
  | .rain r n => if n = 0 then [] else [(b.house.sky, r, n)] ++ weirPours b.house (pourAll b.standing.2.1 [(b.house.sky, r, n)])
def behindR (b : Bk) (e : EntR) : List Wy × Sta := let wa := pourAll b.standing.2.1 (poursR b e); match e with
  | .come _ w => (b.courses ++ [w], (b.standing.1, wa, b.standing.2.2 ++ [0]))
  | .pass i => (b.courses, (b.standing.1, wa, b.standing.2.2.set i (b.standing.2.2[i]! + 1)))
  | .night _ => (b.courses, (b.standing.1 + 1, wa, b.standing.2.2))
  | _ => (b.courses, (b.standing.1, wa, b.standing.2.2))
def stepR (b : Bk) (i : Nat) : Nat × Bool := (b.courses[i]!).2[b.standing.2.2[i]!]!
def wordsR (b : Bk) : EntR → Str × List Str
  | .pass i => ((b.house.locks[(stepR b i).1]!).name, passing (b.house.full b.standing.2.1 (stepR b i).1) (stepR b i).2)
  | .let_ k => ((b.house.locks[k]!).name, [("let" : Str)])
  | _ => ("", [])
def isGate : EntR → Bool
  | .pass _ => true
  | .let_ _ => true
  | _ => false
def doR (b : Bk) (e : EntR) : Bk := ⟨b.house, match e with
  | .come n _ => b.called ++ [n]
  | _ => b.called, (behindR b e).1, (behindR b e).2, b.moved ++ poursR b e, if isGate e then b.gatewords ++ [wordsR b e] else b.gatewords, b.told ++ [entOf b e]⟩
variable {pg : Pg} [Lib3 pg]
section
variable {sc : Scope} {N : List (Str × Bool)} {G : List Str} {lv : Nat} {own : List Nat} {Γ : Gm pg sc N G lv own} {ρ : List Sl} {e : Expr} {pos : Pos} {b : Bk}
theorem b_house (h : XP Γ e ρ (eBk pg b)) (hb : ∀ env, attributeBase e "house" env (eval e env) = eval e env := by intro _; rfl) : XE Γ (.Attribute e "house" pos) ρ (eCnl pg b.house) := xp_fld h (fld 3) rfl hb
theorem b_called (h : XP Γ e ρ (eBk pg b)) (hb : ∀ env, attributeBase e "called" env (eval e env) = eval e env := by intro _; rfl) : XP Γ (.Attribute e "called" pos) ρ (.lst (b.called.map D.str)) := xp_sub h (fld 4) rfl hb
theorem b_courses (h : XP Γ e ρ (eBk pg b)) (hb : ∀ env, attributeBase e "courses" env (eval e env) = eval e env := by intro _; rfl) : XE Γ (.Attribute e "courses" pos) ρ (.lst (b.courses.map eWy)) := xp_fld h (fld 5) rfl hb
theorem b_standing (h : XP Γ e ρ (eBk pg b)) (hb : ∀ env, attributeBase e "standing" env (eval e env) = eval e env := by intro _; rfl) : XE Γ (.Attribute e "standing" pos) ρ (eSta b.standing) := xp_fld h (fld 6) rfl hb
theorem b_moved (h : XP Γ e ρ (eBk pg b)) (hb : ∀ env, attributeBase e "moved" env (eval e env) = eval e env := by intro _; rfl) : XE Γ (.Attribute e "moved" pos) ρ (ePrs b.moved) := xp_fld h (fld 7) rfl hb
theorem b_gates (h : XP Γ e ρ (eBk pg b)) (hb : ∀ env, attributeBase e "gatewords" env (eval e env) = eval e env := by intro _; rfl) : XP Γ (.Attribute e "gatewords" pos) ρ (.lst (b.gatewords.map eGate)) := xp_sub h (fld 8) rfl hb
theorem b_told (h : XP Γ e ρ (eBk pg b)) (hb : ∀ env, attributeBase e "told" env (eval e env) = eval e env := by intro _; rfl) : XP Γ (.Attribute e "told" pos) ρ (.lst (b.told.map eEnt)) := xp_sub h (fld 9) rfl hb
end
/-! ### what is told of a book -/
theorem s66_1 : Sc [("self", true)] ["self"] [] (defScope (mth 66 1)) := sc_by (by decide +kernel)
theorem b_canal : Mt pg 1 false (ca pg "Book") "canal" [] (Ct (fun _ : Bk => True) (fun b => [.pk (eBk pg b)]) fun b => .sh (eCnl pg b.house)) := by
  refine mt_ct 66 1 4 rfl 3 "house" rfl s66_1 (fun _ => rfl) (fun _ _ _ _ _ _ us hl => match us, hl with | [_], _ => rfl) ?_
  rintro Γ b -
  exact xss_one (xs_ret (b_house (xpv 0 (.inr rfl))) rfl)
theorem s66_2 : Sc [("self", true)] ["self"] ["list"] (defScope (mth 66 2)) := sc_by (by decide +kernel)
theorem b_names : Mt pg 1 false (ca pg "Book") "names" [] (Ct (fun _ : Bk => True) (fun b => [.pk (eBk pg b)]) fun b => .ow (.lst (b.called.map D.str))) := by
  refine mt_ct 66 2 5 rfl 3 "house" rfl s66_2 (fun _ => rfl) (fun _ _ _ _ _ _ us hl => match us, hl with | [_], _ => rfl) ?_
  rintro Γ b -
  exact xss_one (xs_retO (xo_listP (b_called (xpv 0 (.inr rfl))) 0) rfl)
theorem s66_3 : Sc [("self", true)] ["self"] ["list"] (defScope (mth 66 3)) := sc_by (by decide +kernel)
theorem b_ways : Mt pg 1 false (ca pg "Book") "ways" [] (Ct (fun _ : Bk => True) (fun b => [.pk (eBk pg b)]) fun b => .ow (.lst (b.courses.map eWy))) := by
  refine mt_ct 66 3 6 rfl 3 "house" rfl s66_3 (fun _ => rfl) (fun _ _ _ _ _ _ us hl => match us, hl with | [_], _ => rfl) ?_
  rintro Γ b -
  exact xss_one (xs_retO (xo_list (b_courses (xpv 0 (.inr rfl))) 0) rfl)
theorem s66_4 : Sc [("self", true)] ["self"] [] (defScope (mth 66 4)) := sc_by (by decide +kernel)
theorem b_state : Mt pg 1 false (ca pg "Book") "state" [] (Ct (fun _ : Bk => True) (fun b => [.pk (eBk pg b)]) fun b => .sh (eSta b.standing)) := by
  refine mt_ct 66 4 7 rfl 3 "house" rfl s66_4 (fun _ => rfl) (fun _ _ _ _ _ _ us hl => match us, hl with | [_], _ => rfl) ?_
  rintro Γ b -
  exact xss_one (xs_ret (b_standing (xpv 0 (.inr rfl))) rfl)
theorem s66_5 : Sc [("self", true)] ["self"] ["list"] (defScope (mth 66 5)) := sc_by (by decide +kernel)
theorem b_ledger : Mt pg 1 false (ca pg "Book") "ledger" [] (Ct (fun _ : Bk => True) (fun b => [.pk (eBk pg b)]) fun b => .ow (.lst (b.moved.map ePr))) := by
  refine mt_ct 66 5 8 rfl 3 "house" rfl s66_5 (fun _ => rfl) (fun _ _ _ _ _ _ us hl => match us, hl with | [_], _ => rfl) ?_
  rintro Γ b -
  exact xss_one (xs_retO (xo_list (b_moved (xpv 0 (.inr rfl))) 0) rfl)
theorem s66_6 : Sc [("self", true), ("one", false)] ["self"] [] (defScope (mth 66 6)) := sc_by (by decide +kernel)
theorem b_gatework : Mt pg 1 false (ca pg "Book") "gatework" [] (Ct (fun b : Bk => b.gatewords.length ≤ 1000) (fun b => [.pk (eBk pg b)]) fun b => .ow (.lst (b.gatewords.map eGate))) := by
  refine mt_ct 66 6 9 rfl 3 "house" rfl s66_6 (fun _ => rfl) (fun _ _ _ _ _ _ us hl => match us, hl with | [_], _ => rfl) ?_
  rintro Γ b h
  exact xss_one (xs_retO (lc_m (zs := b.gatewords) (f := eGate) (g := eGate) 1 [("self", false), ("one", true)] ["list"] (by decide +kernel) (XL.it (XP.l (b_gates (xpv 0 (.inr rfl))))) (by omega) (fun _ _ _ _ => tup (XB.sh (xe_ixt (xv 1 rfl)) (XB.sh (XO.lst (xo_list (xe_ixt (d := eWords _) (xv 1 rfl)) 0)) XB.nil)))).xo rfl)
theorem s66_7 : Sc [("self", true)] ["self"] ["list"] (defScope (mth 66 7)) := sc_by (by decide +kernel)
theorem b_entries : Mt pg 1 false (ca pg "Book") "entries" [] (Ct (fun _ : Bk => True) (fun b => [.pk (eBk pg b)]) fun b => .ow (.lst (b.told.map eEnt))) := by
  refine mt_ct 66 7 10 rfl 3 "house" rfl s66_7 (fun _ => rfl) (fun _ _ _ _ _ _ us hl => match us, hl with | [_], _ => rfl) ?_
  rintro Γ b -
  exact xss_one (xs_retO (xo_listP (b_told (xpv 0 (.inr rfl))) 0) rfl)
theorem s66_8 : Sc [("self", true), ("twin", true)] ["self"] ["Book", "list"] (defScope (mth 66 8)) := sc_by (by decide +kernel)
theorem b_copied : Mt pg 8 false (ca pg "Book") "copied" [] (Ct (fun b : Bk => CW b.house) (fun b => [.pk (eBk pg b)]) fun b => .ow (eBk pg b)) := by
  refine mt_ct 66 8 11 rfl 3 "house" rfl s66_8 (fun _ => rfl) (fun _ _ _ _ _ _ us hl => match us, hl with | [_], _ => rfl) ?_
  rintro Γ b W
  refine xss_cons (xs_setO 1 (xo_make k_book (XA.sh (b_house (xpv 0 (.inr rfl))) XA.nil) 0 ⟨b.house, W, rfl, rfl⟩) ?_)
  refine xss_cons (xs_fldO 1 rfl (fld 4) (xo_listP (b_called (xpv 0 (.inr rfl))) 1) (Nat.le_of_ble_eq_true rfl) ?_)
  refine xss_cons (xs_fld 1 rfl (fld 5) (XO.lst (xo_list (b_courses (xpv 0 (.inr rfl))) 1)) (Nat.le_of_ble_eq_true rfl) ?_)
  refine xss_cons (xs_fld 1 rfl (fld 6) (b_standing (xpv 0 (.inr rfl))) (Nat.le_of_ble_eq_true rfl) ?_)
  refine xss_cons (xs_fld 1 rfl (fld 7) (XO.lst (xo_list (b_moved (xpv 0 (.inr rfl))) 1)) (Nat.le_of_ble_eq_true rfl) ?_)
  refine xss_cons (xs_fldO 1 rfl (fld 8) (xo_listP (b_gates (xpv 0 (.inr rfl))) 1) (Nat.le_of_ble_eq_true rfl) ?_)
  refine xss_cons (xs_fldO 1 rfl (fld 9) (xo_listP (b_told (xpv 0 (.inr rfl))) 1) (Nat.le_of_ble_eq_true rfl) ?_)
  exact xss_one (xs_retV 1 rfl rfl)
end Lk
set_option maxHeartbeats 400000
namespace Lk
open PySem PySem.Spec PyProof.Rows L2
theorem NmOk.ok {w : Str} (h : NmOk w) : PyData.strOk w = true := by
  have key : (lettersS.cps.toList.all fun c => decide (c < 0x110000)) = true := by decide +kernel
  show w.cps.all (fun c => decide (c < 0x110000)) = true
  rw [← Array.all_toList, List.all_eq_true]
  exact fun c hc => List.all_eq_true.mp key c (h.ab c hc)
def deedR : EntR → Deed
  | .pass i => .pass i
  | .let_ k => .let_ k
  | _ => .night
theorem DW_of {b : Bk} {e : EntR} (W : BkC b) (h : ErW b e) (g : isGate e = true) : DW b.house b.courses (deedR e) := by
  cases e with
  | pass i => show i < b.courses.length; rw [← W.cl]; exact h
  | let_ k => exact h
  | _ => cases g
theorem whyNot_gate {b : Bk} {e : EntR} (g : isGate e = true) : faultR b e = whyNot b.house b.courses b.standing (deedR e) := by
  cases e with
  | pass i => rfl
  | let_ k => rfl
  | _ => cases g
theorem poursD_gate {b : Bk} {e : EntR} (g : isGate e = true) : poursR b e = poursD b.house b.courses b.standing (deedR e) := by
  cases e with
  | pass i => rfl
  | let_ k => rfl
  | _ => cases g
theorem poursR_in {b : Bk} {e : EntR} (W : BkC b) (h : ErW b e) (f : faultR b e = "") : ∀ p ∈ poursR b e, PrIn b.house.many p := by
  have hm := W.cw.many_le
  have hs : b.house.sky < b.house.many := Nat.lt_succ_self _
  cases e with
  | come n w => exact fun p hp => nomatch hp
  | pass i => exact poursD_in W.cw W.sw (d := .pass i) ⟨DW_of W h rfl, f⟩
  | let_ k => exact poursD_in W.cw W.sw (d := .let_ k) ⟨DW_of W h rfl, f⟩
  | night ws => exact app_in (app_in (goneP_in W.cw h.1) (comeP_in W.cw h.1)) (weirPours_in W.cw _)
  | take r n =>
    have h : r < b.house.nr := h
    intro p hp
    have hp : p ∈ (if n = 0 then [] else [(r, b.house.sky, n)]) := hp
    by_cases hn : n = 0
    · rw [if_pos hn] at hp
      cases hp
    · rw [if_neg hn] at hp
      rw [List.mem_singleton.mp hp]
      exact ⟨by show r < _; omega, hs⟩
  | rain r n =>
    have h : r < b.house.nr := h
    intro p hp
    have hp : p ∈ (if n = 0 then [] else [(b.house.sky, r, n)] ++ weirPours b.house (pourAll b.standing.2.1 [(b.house.sky, r, n)])) := hp
    by_cases hn : n = 0
    · rw [if_pos hn] at hp
      cases hp
    · rw [if_neg hn] at hp
      rcases List.mem_append.mp hp with q | q
      · rw [List.mem_singleton.mp q]
        exact ⟨hs, by show r < _; omega⟩
      · exact weirPours_in W.cw _ p q
theorem poursR_len {b : Bk} {e : EntR} (W : BkC b) (h : ErW b e) : (poursR b e).length ≤ 100 := by
  have hr := W.cw.rm
  cases e with
  | come n w => exact Nat.zero_le _
  | pass i =>
    have h1 := passPours_len (c := b.house) (ws := b.courses) (st := b.standing) i
    have h3 := weirPours_len (c := b.house) (pourAll b.standing.2.1 (passPours b.house b.courses b.standing i))
    show (passPours b.house b.courses b.standing i ++ _).length ≤ _
    rw [List.length_append]
    omega
  | let_ k =>
    have h1 := letPours_len (c := b.house) (st := b.standing) k
    have h3 := weirPours_len (c := b.house) (pourAll b.standing.2.1 (letPours b.house b.standing k))
    show (letPours b.house b.standing k ++ _).length ≤ _
    rw [List.length_append]
    omega
  | night ws =>
    have h0 := h.1
    have h1 := goneP_len (c := b.house) b.standing.2.1 ws
    have h2 := comeP_len (c := b.house) ws
    have h3 := weirPours_len (c := b.house) (pourAll b.standing.2.1 (goneP b.house b.standing.2.1 ws ++ comeP b.house ws))
    show (goneP b.house b.standing.2.1 ws ++ comeP b.house ws ++ _).length ≤ _
    rw [List.length_append, List.length_append]
    omega
  | take r n =>
    show (if n = 0 then [] else [(r, b.house.sky, n)]).length ≤ _
    by_cases hn : n = 0
    · rw [if_pos hn]
      exact Nat.zero_le _
    · rw [if_neg hn]
      exact Nat.le_of_ble_eq_true rfl
  | rain r n =>
    have h3 := weirPours_len (c := b.house) (pourAll b.standing.2.1 [(b.house.sky, r, n)])
    show (if n = 0 then [] else [(b.house.sky, r, n)] ++ weirPours b.house (pourAll b.standing.2.1 [(b.house.sky, r, n)])).length ≤ _
    by_cases hn : n = 0
    · rw [if_pos hn]
      exact Nat.zero_le _
    · rw [if_neg hn, List.length_append]
      have : ([(b.house.sky, r, n)] : List Pr).length = 1 := rfl
      omega
theorem BkC.cl_le {b : Bk} (W : BkC b) : b.called.length ≤ 10 := by
  have := W.sw.wl
  have := W.cl
  omega
theorem BkC.locks_le {b : Bk} (W : BkC b) : b.house.nl ≤ 10 := W.cw.lm
variable {pg : Pg} [Lib3 pg]
theorem s66_9 : Sc [("self", true), ("entry", true)] ["self", "entry"] ["boat_at"] (defScope (mth 66 9)) := sc_by (by decide +kernel)
theorem b_deed_of : Mt pg 3 false (ca pg "Book") "deed_of" [] (Ct (fun a : Bk × EntR => BkC a.1 ∧ ErW a.1 a.2 ∧ isGate a.2 = true) (fun a => [.pk (eBk pg a.1), .sh (eEnt (entOf a.1 a.2))]) fun a => .sh (eDeed (deedR a.2))) := by
  refine mt_ct 66 9 12 rfl 3 "house" rfl s66_9 (fun _ => rfl) (fun _ _ _ _ _ _ us hl => match us, hl with | [_, _], _ => rfl) ?_
  rintro Γ ⟨b, e⟩ ⟨W, h, g⟩
  dsimp only at W h g ⊢
  have hm := W.cl_le
  cases e with
  | pass i => exact xss_cons (xs_if (xt_cmp (xe_ixt (xv 1 rfl)) xe_str o_eqS) (fun q => xss_one (xs_ret (tup (XB.sh (xe_str) (XB.sh (xe_call f_boat_at (XA.pk (b_called (xpv 0 (.inr rfl))) (XA.sh (xe_ixt (xv 1 rfl)) XA.nil)) 0 ⟨(b.called, i), ⟨h, by dsimp only; omega, W.nd⟩, rfl, rfl⟩) XB.nil))) rfl)) (fun q => xss_no (absurd q (by decide))))
  | let_ k =>
    refine xss_cons (xs_if (xt_cmp (xe_ixt (xv 1 rfl)) xe_str o_eqS) (fun q => xss_no (absurd q (by decide))) (fun q => xss_nil ?_))
    have hl := W.locks_le
    exact xss_cons (xs_if (xt_cmp (xe_ixt (xv 1 rfl)) xe_str o_eqS) (fun q => xss_one (xs_ret (tup (XB.sh (xe_str) (XB.sh (xe_meth m_lock_at (XE.rcv (b_house (xpv 0 (.inr rfl)))) (.inl ⟨_, rfl, rfl⟩) (XA.sh (xe_ixt (xv 1 rfl)) XA.nil) ⟨(b.house, k), ⟨W.cn, h, by dsimp only; omega⟩, rfl, rfl⟩) XB.nil))) rfl)) (fun q => xss_no (absurd q (by decide))))
  | _ => cases g
theorem s66_10 : Sc [("self", true), ("entry", true), ("start", true)] ["self", "entry"] ["is_name", "BadRow", "Twice", "len", "MOST_BOATS", "TooMany", "way_of", "lying"] (defScope (mth 66 10)) := sc_by (by decide +kernel)
theorem b_why_no_come : Mt pg 4 false (ca pg "Book") "why_no_come" [] (Ct (fun a : Bk × Str × Wy => BkC a.1 ∧ ErW a.1 (.come a.2.1 a.2.2)) (fun a => [.pk (eBk pg a.1), .sh (eEnt (comeE a.1.house a.2.1 a.2.2))]) fun a => .sh (.str (faultR a.1 (.come a.2.1 a.2.2)))) := by
  refine mt_ct 66 10 13 rfl 3 "house" rfl s66_10 (fun _ => rfl) (fun _ _ _ _ _ _ us hl => match us, hl with | [_, _], _ => rfl) ?_
  rintro Γ ⟨b, n, w⟩ ⟨W, h⟩
  dsimp only at W h ⊢
  obtain ⟨h1, h2, h3, h4⟩ := h
  obtain ⟨t, hmb⟩ := Lib2.mbt (pg := pg)
  have hst := h4.st
  refine xss_cons (xs_if (xt_not (xt_val (xe_call f_is_name (XA.sh (xe_ixt (xv 1 rfl)) XA.nil) 0 ⟨n, h1, rfl, rfl⟩))) (fun q => xss_no (absurd q (by decide))) (fun _ => xss_nil ?_))
  refine xss_cons (xs_if (c := false) (xt_inD (da := .str n) 1 (xe_ixt (xv 1 rfl)) (XP.l (b_called (xpv 0 (.inr rfl)))) h1.ok (fun e he => ?_) ⟨fun z => (nomatch z), fun z => ?_⟩) (fun q => xss_no (nomatch q)) (fun _ => xss_nil ?_))
  · obtain ⟨m, hm, rfl⟩ := List.mem_map.mp he
    exact (W.nm m hm).ok
  · obtain ⟨m, hm, e⟩ := List.mem_map.mp z
    have e : m = n := D.str.inj e
    rw [e] at hm
    exact absurd hm h2
  refine xss_cons (xs_if (xt_cmp (xe_lenP (b_called (xpv 0 (.inr rfl))) 3) (xg_int 4 hmb) o_ge) (fun q => xss_no ?_) (fun _ => xss_nil ?_))
  · have := of_decide_eq_true q
    rw [List.length_map] at this
    omega
  refine xss_cons (xs_set 2 (xe_ixt (d := .int w.1) (xe_call f_way_of (XA.sh (b_house (xpv 0 (.inr rfl))) (XA.sh ((xv 1 rfl)) XA.nil)) 6 ⟨(b.house, n, w), ⟨W.cw, W.cn, h4⟩, rfl, rfl⟩)) ?_)
  refine xss_cons (xs_if (xt_cmp (xe_call f_lying (XA.sh (b_house (xpv 0 (.inr rfl))) (XA.sh (b_courses (xpv 0 (.inr rfl))) (XA.sh (b_standing (xpv 0 (.inr rfl))) (XA.sh ((xv 2 rfl)) XA.nil)))) 7 ⟨(b.house, b.courses, b.standing, w.1), W.sw, rfl, rfl⟩) (f_berths (xe_ixL (f_reaches (b_house (xpv 0 (.inr rfl)))) (xv 2 rfl) rfl (at_map hst))) o_ge) (fun q => xss_one (xs_ret xe_str (rz_str ?_))) (fun q => xss_nil (xss_one (xs_ret xe_str (rz_str ?_)))))
  · exact (if_pos (of_decide_eq_true q)).symm
  · exact (if_neg (of_decide_eq_false q)).symm
theorem s66_11 : Sc [("self", true), ("weather", true)] ["self", "weather"] ["len", "BadNumber", "wet_enough", "TooDry"] (defScope (mth 66 11)) := sc_by (by decide +kernel)
theorem b_why_no_night : Mt pg 2 false (ca pg "Book") "why_no_night" [] (Ct (fun a : Bk × List (Int × Int) => BkC a.1 ∧ ErW a.1 (.night a.2)) (fun a => [.pk (eBk pg a.1), .sh (eWs true a.2)]) fun a => .sh (.str (faultR a.1 (.night a.2)))) := by
  refine mt_ct 66 11 14 rfl 3 "house" rfl s66_11 (fun _ => rfl) (fun _ _ _ _ _ _ us hl => match us, hl with | [_, _], _ => rfl) ?_
  rintro Γ ⟨b, ws⟩ ⟨W, h⟩
  dsimp only at W h ⊢
  obtain ⟨h1, h2⟩ := h
  have hr := W.cw.rm
  refine xss_cons (xs_if (xt_cmp (xe_lenQ (xv 1 rfl) (eWs_q true ws) 0) (xe_lenL (f_reaches (b_house (xpv 0 (.inr rfl)))) 0) o_neI) (fun q => xss_no ?_) (fun _ => xss_nil ?_))
  · rw [List.length_map, List.length_map, h1] at q
    simp at q
  refine xss_cons (xs_if (c := decide (b.house.nights.length ≤ b.standing.1)) ((xt_cmp (xe_ixt (b_standing (xpv 0 (.inr rfl)))) (xe_lenL (f_nights (b_house (xpv 0 (.inr rfl)))) 0) o_ge).to (by rw [List.length_map]; exact decide_eq_decide.mpr Int.ofNat_le)) (fun q => xss_one (xs_ret xe_str (rz_str ?_))) (fun q => xss_nil ?_))
  · exact (if_pos (of_decide_eq_true q)).symm
  have q := of_decide_eq_false q
  have hn : b.standing.1 < b.house.nights.length := by omega
  refine xss_cons (xs_if (xt_not (xt_val (xe_call f_wet (XA.sh ((xv 1 rfl)) (XA.sh (xe_ixL (f_nights (b_house (xpv 0 (.inr rfl)))) (xe_ixt (b_standing (xpv 0 (.inr rfl)))) rfl (at_map (f := eNight) hn)) XA.nil)) 2 ⟨(ws, b.house.nights[b.standing.1]!, true), ⟨by dsimp only; omega, ?_⟩, rfl, rfl⟩))) (fun q2 => xss_no ?_) (fun _ => xss_nil (xss_one (xs_ret xe_str (rz_str ?_)))))
  · dsimp only
    rw [W.cw.nw _ (mem_get hn), h1]
  · dsimp only at q2
    rw [h2 hn] at q2
    cases q2
  · exact (if_neg q).symm
theorem s66_12 : Sc [("self", true), ("entry", true), ("r", true)] ["self", "entry"] ["why_not"] (defScope (mth 66 12)) := sc_by (by decide +kernel)
theorem b_fault : Mt pg 8 false (ca pg "Book") "fault" [] (Ct (fun a : Bk × EntR => BkC a.1 ∧ ErW a.1 a.2) (fun a => [.pk (eBk pg a.1), .sh (eEnt (entOf a.1 a.2))]) fun a => .sh (.str (faultR a.1 a.2))) := by
  refine mt_ct 66 12 15 rfl 3 "house" rfl s66_12 (fun _ => rfl) (fun _ _ _ _ _ _ us hl => match us, hl with | [_, _], _ => rfl) ?_
  rintro Γ ⟨b, e⟩ ⟨W, h⟩
  dsimp only at W h ⊢
  have hr := W.cw.rm
  have gate : ∀ e, ErW b e → isGate e = true → XE Γ.toGm (match defBody (mth 66 12) with
      | [_, _, .If _ [.Return (some x) _] _ _, _, _, _] => x
      | _ => .Name "" ⟨0, 0, 0, 0⟩) [.ro (eBk pg b), .sh (eEnt (entOf b e)), .no] (.str (faultR b e)) := fun e h g => by
    rw [whyNot_gate g]
    exact xe_call f_why_not (XA.sh (b_house (xpv 0 (.inr rfl))) (XA.sh (b_courses (xpv 0 (.inr rfl))) (XA.sh (b_standing (xpv 0 (.inr rfl))) (XA.sh (xe_meth b_deed_of (XP.rcv (xpv 0 (.inr rfl))) (.inr ⟨_, rfl, rfl⟩) (XA.sh ((xv 1 rfl)) XA.nil) ⟨(b, e), ⟨W, h, g⟩, rfl, rfl⟩) XA.nil)))) 0 ⟨(b.house, b.courses, b.standing, deedR e), ⟨W.cw, W.sw, DW_of W h g⟩, rfl, rfl⟩
  cases e with
  | come n w => exact xss_cons (xs_if (xt_cmp (xe_ixt (xv 1 rfl)) xe_str o_eqS) (fun q => xss_one (xs_ret (xe_meth b_why_no_come (XP.rcv (xpv 0 (.inr rfl))) (.inr ⟨_, rfl, rfl⟩) (XA.sh ((xv 1 rfl)) XA.nil) ⟨(b, n, w), ⟨W, h⟩, rfl, rfl⟩) rfl)) (fun q => xss_no (absurd q (by decide))))
  | night ws =>
    refine xss_cons (xs_if (xt_cmp (xe_ixt (xv 1 rfl)) xe_str o_eqS) (fun q => xss_no (absurd q (by decide))) (fun q => xss_nil ?_))
    exact xss_cons (xs_if (xt_cmp (xe_ixt (xv 1 rfl)) xe_str o_eqS) (fun q => xss_one (xs_ret (xe_meth b_why_no_night (XP.rcv (xpv 0 (.inr rfl))) (.inr ⟨_, rfl, rfl⟩) (XA.sh (xe_ixt (xv 1 rfl)) XA.nil) ⟨(b, ws), ⟨W, h⟩, rfl, rfl⟩) rfl)) (fun q => xss_no (absurd q (by decide))))
  | pass i =>
    refine xss_cons (xs_if (xt_cmp (xe_ixt (xv 1 rfl)) xe_str o_eqS) (fun q => xss_no (absurd q (by decide))) (fun q => xss_nil ?_))
    refine xss_cons (xs_if (xt_cmp (xe_ixt (xv 1 rfl)) xe_str o_eqS) (fun q => xss_no (absurd q (by decide))) (fun q => xss_nil ?_))
    exact xss_cons (xs_if (xt_or (xt_cmp (xe_ixt (xv 1 rfl)) xe_str o_eqS) (fun _ => xt_cmp (xe_ixt (xv 1 rfl)) xe_str o_eqS)) (fun q => xss_one (xs_ret (gate (.pass i) h rfl) rfl)) (fun q => xss_no (absurd q (by decide))))
  | let_ k =>
    refine xss_cons (xs_if (xt_cmp (xe_ixt (xv 1 rfl)) xe_str o_eqS) (fun q => xss_no (absurd q (by decide))) (fun q => xss_nil ?_))
    refine xss_cons (xs_if (xt_cmp (xe_ixt (xv 1 rfl)) xe_str o_eqS) (fun q => xss_no (absurd q (by decide))) (fun q => xss_nil ?_))
    exact xss_cons (xs_if (xt_or (xt_cmp (xe_ixt (xv 1 rfl)) xe_str o_eqS) (fun _ => xt_cmp (xe_ixt (xv 1 rfl)) xe_str o_eqS)) (fun q => xss_one (xs_ret (gate (.let_ k) h rfl) rfl)) (fun q => xss_no (absurd q (by decide))))
  | take r n =>
    have h : r < b.house.nr := h
    have hw : r < b.standing.2.1.length := by rw [W.sw.wa]; have := W.cw.many_le; omega
    refine xss_cons (xs_if (xt_cmp (xe_ixt (xv 1 rfl)) xe_str o_eqS) (fun q => xss_no (absurd q (by decide))) (fun q => xss_nil ?_))
    refine xss_cons (xs_if (xt_cmp (xe_ixt (xv 1 rfl)) xe_str o_eqS) (fun q => xss_no (absurd q (by decide))) (fun q => xss_nil ?_))
    refine xss_cons (xs_if (xt_or (xt_cmp (xe_ixt (xv 1 rfl)) xe_str o_eqS) (fun _ => xt_cmp (xe_ixt (xv 1 rfl)) xe_str o_eqS)) (fun q => xss_no (absurd q (by decide))) (fun q => xss_nil ?_))
    refine xss_cons (xs_set 2 (xe_meth m_reach_at (XE.rcv (b_house (xpv 0 (.inr rfl)))) (.inl ⟨_, rfl, rfl⟩) (XA.sh (xe_ixt (xv 1 rfl)) XA.nil) ⟨(b.house, r), ⟨W.cn, h, by dsimp only; omega⟩, rfl, rfl⟩) ?_)
    refine xss_cons (xs_if (xt_and (xt_cmp (xe_ixt (xv 1 rfl)) xe_str o_eqS) (fun _ => xt_cmp (xe_op (xe_ixT (xe_ixt (b_standing (xpv 0 (.inr rfl)))) (xv 2 rfl) rfl (at_map hw)) (xe_ixt (xv 1 rfl)) o_sub) (f_least (xe_ixL (f_reaches (b_house (xpv 0 (.inr rfl)))) (xv 2 rfl) rfl (at_map h))) o_lt)) (fun q => xss_one (xs_ret xe_str (rz_str ?_))) (fun q => xss_nil (xss_one (xs_ret xe_str (rz_str ?_)))))
    · rw [Bool.and_eq_true] at q
      exact (if_pos (of_decide_eq_true q.2)).symm
    · refine (if_neg fun z => ?_).symm
      rw [decide_eq_true z, Bool.and_true] at q
      exact absurd q (by decide)
  | rain r n =>
    have h : r < b.house.nr := h
    refine xss_cons (xs_if (xt_cmp (xe_ixt (xv 1 rfl)) xe_str o_eqS) (fun q => xss_no (absurd q (by decide))) (fun q => xss_nil ?_))
    refine xss_cons (xs_if (xt_cmp (xe_ixt (xv 1 rfl)) xe_str o_eqS) (fun q => xss_no (absurd q (by decide))) (fun q => xss_nil ?_))
    refine xss_cons (xs_if (xt_or (xt_cmp (xe_ixt (xv 1 rfl)) xe_str o_eqS) (fun _ => xt_cmp (xe_ixt (xv 1 rfl)) xe_str o_eqS)) (fun q => xss_no (absurd q (by decide))) (fun q => xss_nil ?_))
    refine xss_cons (xs_set 2 (xe_meth m_reach_at (XE.rcv (b_house (xpv 0 (.inr rfl)))) (.inl ⟨_, rfl, rfl⟩) (XA.sh (xe_ixt (xv 1 rfl)) XA.nil) ⟨(b.house, r), ⟨W.cn, h, by dsimp only; omega⟩, rfl, rfl⟩) ?_)
    refine xss_cons (xs_if (xt_and (c2 := false) (xt_cmp (xe_ixt (xv 1 rfl)) xe_str o_eqS) (fun q => absurd q (by decide))) (fun q => xss_no ?_) (fun q => xss_nil (xss_one (xs_ret xe_str rfl))))
    rw [Bool.and_false] at q
    cases q
end Lk
set_option maxHeartbeats 400000
namespace Lk
open PySem PySem.Spec PyProof.Rows L2
theorem set_map_int {xs : List Nat} {i : Nat} {v : Nat} : (xs.map eN).set i (.int (v : Nat)) = (xs.set i v).map eN := List.map_set.symm
variable {pg : Pg} [Lib3 pg]
def ErD (b : Bk) (e : EntR) : Prop := BkC b ∧ ErW b e ∧ faultR b e = ""
theorem s66_13 : Sc [("self", true), ("entry", true), ("r", true), ("row", true)] ["self", "entry"] ["night_pours", "pours", "weir_pours", "poured_all"] (defScope (mth 66 13)) := sc_by (by decide +kernel)
theorem b_pours_of : Mt pg 9 false (ca pg "Book") "pours_of" [] (Ct (fun a : Bk × EntR => ErD a.1 a.2) (fun a => [.pk (eBk pg a.1), .sh (eEnt (entOf a.1 a.2))]) fun a => .ow (.lst ((poursR a.1 a.2).map ePr))) := by
  refine mt_ct 66 13 16 rfl 3 "house" rfl s66_13 (fun _ => rfl) (fun _ _ _ _ _ _ us hl => match us, hl with | [_, _], _ => rfl) ?_
  rintro Γ ⟨b, e⟩ hE
  dsimp only at hE ⊢
  obtain ⟨W, h, f⟩ := hE
  have hr := W.cw.rm
  have hm := W.cw.many_le
  have gate : ∀ e, ErW b e → faultR b e = "" → isGate e = true → XO Γ.toGm (match defBody (mth 66 13) with
      | [_, _, .If _ [.Return (some x) _] _ _, _, _, _, _, _] => x
      | _ => .Name "" ⟨0, 0, 0, 0⟩) [.ro (eBk pg b), .sh (eEnt (entOf b e)), .no, .no] (.lst ((poursR b e).map ePr)) := fun e h f g => by
    rw [poursD_gate g]
    rw [whyNot_gate g] at f
    exact xo_call f_pours (XA.sh (b_house (xpv 0 (.inr rfl))) (XA.sh (b_courses (xpv 0 (.inr rfl))) (XA.sh (b_standing (xpv 0 (.inr rfl))) (XA.sh (xe_meth b_deed_of (XP.rcv (xpv 0 (.inr rfl))) (.inr ⟨_, rfl, rfl⟩) (XA.sh ((xv 1 rfl)) XA.nil) ⟨(b, e), ⟨W, h, g⟩, rfl, rfl⟩) XA.nil)))) 1 ⟨(b.house, b.courses, b.standing, deedR e), ⟨W.cw, W.sw, DW_of W h g, f⟩, rfl, rfl⟩
  cases e with
  | come n w => exact xss_cons (xs_if (xt_cmp (xe_ixt (xv 1 rfl)) xe_str o_eqS) (fun q => xss_one (xs_retO (lsO XB.nil) rfl)) (fun q => xss_no (absurd q (by decide))))
  | night ws =>
    refine xss_cons (xs_if (xt_cmp (xe_ixt (xv 1 rfl)) xe_str o_eqS) (fun q => xss_no (absurd q (by decide))) (fun q => xss_nil ?_))
    exact xss_cons (xs_if (xt_cmp (xe_ixt (xv 1 rfl)) xe_str o_eqS) (fun q => xss_one (xs_retO (xo_call f_night_pours (XA.sh (b_house (xpv 0 (.inr rfl))) (XA.sh (b_standing (xpv 0 (.inr rfl))) (XA.sh (xe_ixt (xv 1 rfl)) XA.nil))) 0 ⟨(b.house, b.standing, ws, true), ⟨W.cw, W.sw.wa, h.1⟩, rfl, rfl⟩) rfl)) (fun q => xss_no (absurd q (by decide))))
  | pass i =>
    refine xss_cons (xs_if (xt_cmp (xe_ixt (xv 1 rfl)) xe_str o_eqS) (fun q => xss_no (absurd q (by decide))) (fun q => xss_nil ?_))
    refine xss_cons (xs_if (xt_cmp (xe_ixt (xv 1 rfl)) xe_str o_eqS) (fun q => xss_no (absurd q (by decide))) (fun q => xss_nil ?_))
    exact xss_cons (xs_if (xt_or (xt_cmp (xe_ixt (xv 1 rfl)) xe_str o_eqS) (fun _ => xt_cmp (xe_ixt (xv 1 rfl)) xe_str o_eqS)) (fun q => xss_one (xs_retO (gate (.pass i) h f rfl) rfl)) (fun q => xss_no (absurd q (by decide))))
  | let_ k =>
    refine xss_cons (xs_if (xt_cmp (xe_ixt (xv 1 rfl)) xe_str o_eqS) (fun q => xss_no (absurd q (by decide))) (fun q => xss_nil ?_))
    refine xss_cons (xs_if (xt_cmp (xe_ixt (xv 1 rfl)) xe_str o_eqS) (fun q => xss_no (absurd q (by decide))) (fun q => xss_nil ?_))
    exact xss_cons (xs_if (xt_or (xt_cmp (xe_ixt (xv 1 rfl)) xe_str o_eqS) (fun _ => xt_cmp (xe_ixt (xv 1 rfl)) xe_str o_eqS)) (fun q => xss_one (xs_retO (gate (.let_ k) h f rfl) rfl)) (fun q => xss_no (absurd q (by decide))))
  | take r n =>
    have h : r < b.house.nr := h
    refine xss_cons (xs_if (xt_cmp (xe_ixt (xv 1 rfl)) xe_str o_eqS) (fun q => xss_no (absurd q (by decide))) (fun q => xss_nil ?_))
    refine xss_cons (xs_if (xt_cmp (xe_ixt (xv 1 rfl)) xe_str o_eqS) (fun q => xss_no (absurd q (by decide))) (fun q => xss_nil ?_))
    refine xss_cons (xs_if (xt_or (xt_cmp (xe_ixt (xv 1 rfl)) xe_str o_eqS) (fun _ => xt_cmp (xe_ixt (xv 1 rfl)) xe_str o_eqS)) (fun q => xss_no (absurd q (by decide))) (fun q => xss_nil ?_))
    refine xss_cons (xs_if (xt_cmp (xe_ixt (xv 1 rfl)) xe_int o_eqI) (fun q => xss_one (xs_retO (lsO XB.nil) ?_)) (fun q => xss_nil ?_))
    · show Rz.ow (.lst []) = Rz.ow (.lst ((if n = 0 then [] else [(r, b.house.sky, n)]).map ePr))
      rw [if_pos (of_decide_eq_true q)]
      rfl
    refine xss_cons (xs_set 2 (xe_meth m_reach_at (XE.rcv (b_house (xpv 0 (.inr rfl)))) (.inl ⟨_, rfl, rfl⟩) (XA.sh (xe_ixt (xv 1 rfl)) XA.nil) ⟨(b.house, r), ⟨W.cn, h, by dsimp only; omega⟩, rfl, rfl⟩) ?_)
    refine xss_cons (xs_if (xt_cmp (xe_ixt (xv 1 rfl)) xe_str o_eqS) (fun q2 => xss_one (xs_retO (lsO (XB.sh (tup (XB.sh ((xv 2 rfl)) (XB.sh (c_sky (b_house (xpv 0 (.inr rfl)))) (XB.sh (xe_ixt (xv 1 rfl)) XB.nil)))) XB.nil)) ?_)) (fun q => xss_no (absurd q (by decide))))
    show Rz.ow _ = Rz.ow (.lst ((if n = 0 then [] else [(r, b.house.sky, n)]).map ePr))
    rw [if_neg (of_decide_eq_false q)]
    rfl
  | rain r n =>
    have h : r < b.house.nr := h
    refine xss_cons (xs_if (xt_cmp (xe_ixt (xv 1 rfl)) xe_str o_eqS) (fun q => xss_no (absurd q (by decide))) (fun q => xss_nil ?_))
    refine xss_cons (xs_if (xt_cmp (xe_ixt (xv 1 rfl)) xe_str o_eqS) (fun q => xss_no (absurd q (by decide))) (fun q => xss_nil ?_))
    refine xss_cons (xs_if (xt_or (xt_cmp (xe_ixt (xv 1 rfl)) xe_str o_eqS) (fun _ => xt_cmp (xe_ixt (xv 1 rfl)) xe_str o_eqS)) (fun q => xss_no (absurd q (by decide))) (fun q => xss_nil ?_))
    refine xss_cons (xs_if (xt_cmp (xe_ixt (xv 1 rfl)) xe_int o_eqI) (fun q => xss_one (xs_retO (lsO XB.nil) ?_)) (fun q => xss_nil ?_))
    · show Rz.ow (.lst []) = Rz.ow (.lst ((if n = 0 then [] else [(b.house.sky, r, n)] ++ weirPours b.house (pourAll b.standing.2.1 [(b.house.sky, r, n)])).map ePr))
      rw [if_pos (of_decide_eq_true q)]
      rfl
    refine xss_cons (xs_set 2 (xe_meth m_reach_at (XE.rcv (b_house (xpv 0 (.inr rfl)))) (.inl ⟨_, rfl, rfl⟩) (XA.sh (xe_ixt (xv 1 rfl)) XA.nil) ⟨(b.house, r), ⟨W.cn, h, by dsimp only; omega⟩, rfl, rfl⟩) ?_)
    refine xss_cons (xs_if (xt_cmp (xe_ixt (xv 1 rfl)) xe_str o_eqS) (fun q => xss_no (absurd q (by decide))) (fun _ => xss_nil ?_))
    refine xss_cons (xs_set 3 (ls (XB.sh (tup (XB.sh (c_sky (b_house (xpv 0 (.inr rfl)))) (XB.sh ((xv 2 rfl)) (XB.sh (xe_ixt (xv 1 rfl)) XB.nil)))) XB.nil)) ?_)
    refine xss_one (xs_retO (xo_cat (XE.l (xv 3 rfl)) (XO.l (xo_call f_weir_pours (XA.sh (b_house (xpv 0 (.inr rfl))) (XA.sh (xe_call f_poured (XA.sh (xe_ixt (b_standing (xpv 0 (.inr rfl)))) (XA.sh ((xv 3 rfl)) XA.nil)) 3 ⟨(b.standing.2.1, [(b.house.sky, r, n)]), ⟨?_, by dsimp only; rw [W.sw.wa]; exact hm.2⟩, rfl, rfl⟩) XA.nil)) 2 ⟨(b.house, pourAll b.standing.2.1 [(b.house.sky, r, n)]), ⟨W.cw, by dsimp only; rw [pourAll_len]; exact W.sw.wa⟩, rfl, rfl⟩)) ?_) ?_)
    · intro p hp
      rw [List.mem_singleton.mp hp, W.sw.wa]
      exact ⟨Nat.lt_succ_self _, by show r < _; omega⟩
    · have h3 := weirPours_len (c := b.house) (pourAll b.standing.2.1 [(b.house.sky, r, n)])
      dsimp only
      rw [List.length_map]
      show 1 + _ ≤ _
      omega
    · show Rz.ow _ = Rz.ow (.lst ((if n = 0 then [] else [(b.house.sky, r, n)] ++ weirPours b.house (pourAll b.standing.2.1 [(b.house.sky, r, n)])).map ePr))
      rw [if_neg (of_decide_eq_false q), List.map_append]
      rfl
def eBeh (p : List Wy × Sta) : D := .tup [.lst (p.1.map eWy), eSta p.2]
theorem s66_14 : Sc [("self", true), ("entry", true), ("day", true), ("waters", true), ("places", true), ("ways", true), ("boat", true)] ["self", "entry"] ["NotNow", "poured_all", "list", "way_of", "boat_at", "tuple"] (defScope (mth 66 14)) := sc_by (by decide +kernel)
theorem b_behind : Mt pg 10 false (ca pg "Book") "behind" [] (Ct (fun a : Bk × EntR => ErD a.1 a.2) (fun a => [.pk (eBk pg a.1), .sh (eEnt (entOf a.1 a.2))]) fun a => .sh (eBeh (behindR a.1 a.2))) := by
  refine mt_ct 66 14 17 rfl 3 "house" rfl s66_14 (fun _ => rfl) (fun _ _ _ _ _ _ us hl => match us, hl with | [_, _], _ => rfl) ?_
  rintro Γ ⟨b, e⟩ hE
  dsimp only at hE ⊢
  have hE' := hE
  obtain ⟨W, h, f⟩ := hE
  have hr := W.cw.rm
  have hm := W.cw.many_le
  have hcl := W.cl_le
  have hwl := W.sw.wl
  have hpl := W.sw.pl
  refine xss_cons (xs_if (xt_cmp (xe_meth b_fault (XP.rcv (xpv 0 (.inr rfl))) (.inr ⟨_, rfl, rfl⟩) (XA.sh ((xv 1 rfl)) XA.nil) ⟨(b, e), ⟨W, h⟩, rfl, rfl⟩) xe_str o_neS) (fun q => xss_no ?_) (fun _ => xss_nil ?_))
  · dsimp only at q
    rw [f] at q
    exact absurd q (by decide)
  refine xss_cons (xs_set 2 (xe_ixt (b_standing (xpv 0 (.inr rfl)))) ?_)
  refine xss_cons (xs_set 3 (xe_call f_poured (XA.sh (xe_ixt (b_standing (xpv 0 (.inr rfl)))) (XA.sh (XO.lst (xo_meth b_pours_of (XP.rcv (xpv 0 (.inr rfl))) (.inr ⟨_, rfl, rfl⟩) (XA.sh ((xv 1 rfl)) XA.nil) ⟨(b, e), hE', rfl, rfl⟩)) XA.nil)) 1 ⟨(b.standing.2.1, poursR b e), ⟨by dsimp only; rw [W.sw.wa]; exact poursR_in W h f, by dsimp only; rw [W.sw.wa]; exact hm.2⟩, rfl, rfl⟩) ?_)
  refine xss_cons (xs_setO 4 (xo_listT (xe_ixt (b_standing (xpv 0 (.inr rfl)))) 2) ?_)
  refine xss_cons (xs_setO 5 (xo_list (b_courses (xpv 0 (.inr rfl))) 2) ?_)
  cases e with
  | come n w =>
    refine xss_cons (xs_if (xt_cmp (xe_ixt (xv 1 rfl)) xe_str o_eqS) (fun q => ?_) (fun q => xss_no (absurd q (by decide))))
    refine xss_cons (xs_append 5 rfl (xe_call f_way_of (XA.sh (b_house (xpv 0 (.inr rfl))) (XA.sh ((xv 1 rfl)) XA.nil)) 3 ⟨(b.house, n, w), ⟨W.cw, W.cn, h.2.2.2⟩, rfl, rfl⟩) ?_ (by rw [List.length_map]; omega))
    refine xss_one (xs_append 4 rfl xe_int ?_ (by rw [List.length_map]; omega))
    refine xss_freeze 5 rfl (xss_one (xs_ret (tup (XB.sh ((xv 5 rfl)) (XB.sh (tup (XB.sh ((xv 2 rfl)) (XB.sh ((xv 3 rfl)) (XB.sh (xe_tupleP (xpv 4 (.inl rfl)) 5) XB.nil)))) XB.nil))) ?_))
    show Rz.sh _ = Rz.sh (eBeh (b.courses ++ [w], (b.standing.1, pourAll b.standing.2.1 (poursR b (.come n w)), b.standing.2.2 ++ [0])))
    unfold eBeh eSta eNats
    rw [List.map_append, List.map_append]
    rfl
  | pass i =>
    have hi : i < b.called.length := h
    have hp : i < b.standing.2.2.length := by rw [hpl, ← W.cl]; exact hi
    refine xss_cons (xs_if (xt_cmp (xe_ixt (xv 1 rfl)) xe_str o_eqS) (fun q => xss_no (absurd q (by decide))) (fun q => ?_))
    refine xss_one (xs_if (xt_cmp (xe_ixt (xv 1 rfl)) xe_str o_eqS) (fun q => ?_) (fun q => xss_no (absurd q (by decide))))
    refine xss_cons (xs_set 6 (xe_call f_boat_at (XA.pk (b_called (xpv 0 (.inr rfl))) (XA.sh (xe_ixt (xv 1 rfl)) XA.nil)) 4 ⟨(b.called, i), ⟨h, by dsimp only; omega, W.nd⟩, rfl, rfl⟩) ?_)
    refine xss_one (xs_setitem 4 rfl (xe_op (xe_ixO 4 rfl (xv 6 rfl) rfl (at_map (f := eN) hp)) xe_int o_add) (xv 6 rfl) rfl (by rw [List.length_map]; exact hp) ?_)
    refine xss_freeze 5 rfl (xss_one (xs_ret (tup (XB.sh ((xv 5 rfl)) (XB.sh (tup (XB.sh ((xv 2 rfl)) (XB.sh ((xv 3 rfl)) (XB.sh (xe_tupleP (xpv 4 (.inl rfl)) 5) XB.nil)))) XB.nil))) ?_))
    show Rz.sh _ = Rz.sh (eBeh (b.courses, (b.standing.1, pourAll b.standing.2.1 (poursR b (.pass i)), b.standing.2.2.set i (b.standing.2.2[i]! + 1))))
    unfold eBeh eSta eNats
    rw [List.map_set]
    rfl
  | night ws =>
    refine xss_cons (xs_if (xt_cmp (xe_ixt (xv 1 rfl)) xe_str o_eqS) (fun q => xss_no (absurd q (by decide))) (fun q => ?_))
    refine xss_one (xs_if (xt_cmp (xe_ixt (xv 1 rfl)) xe_str o_eqS) (fun q => xss_no (absurd q (by decide))) (fun q => ?_))
    refine xss_one (xs_if (xt_cmp (xe_ixt (xv 1 rfl)) xe_str o_eqS) (fun q => ?_) (fun q => xss_no (absurd q (by decide))))
    refine xss_one (xs_set 2 (xe_op (xv 2 rfl) xe_int o_add) ?_)
    exact xss_freeze 5 rfl (xss_one (xs_ret (tup (XB.sh ((xv 5 rfl)) (XB.sh (tup (XB.sh ((xv 2 rfl)) (XB.sh ((xv 3 rfl)) (XB.sh (xe_tupleP (xpv 4 (.inl rfl)) 5) XB.nil)))) XB.nil))) rfl))
  | let_ k =>
    refine xss_cons (xs_if (xt_cmp (xe_ixt (xv 1 rfl)) xe_str o_eqS) (fun q => xss_no (absurd q (by decide))) (fun q => ?_))
    refine xss_one (xs_if (xt_cmp (xe_ixt (xv 1 rfl)) xe_str o_eqS) (fun q => xss_no (absurd q (by decide))) (fun q => ?_))
    refine xss_one (xs_if (xt_cmp (xe_ixt (xv 1 rfl)) xe_str o_eqS) (fun q => xss_no (absurd q (by decide))) (fun q => xss_nil ?_))
    exact xss_freeze 5 rfl (xss_one (xs_ret (tup (XB.sh ((xv 5 rfl)) (XB.sh (tup (XB.sh ((xv 2 rfl)) (XB.sh ((xv 3 rfl)) (XB.sh (xe_tupleP (xpv 4 (.inl rfl)) 5) XB.nil)))) XB.nil))) rfl))
  | take r n =>
    refine xss_cons (xs_if (xt_cmp (xe_ixt (xv 1 rfl)) xe_str o_eqS) (fun q => xss_no (absurd q (by decide))) (fun q => ?_))
    refine xss_one (xs_if (xt_cmp (xe_ixt (xv 1 rfl)) xe_str o_eqS) (fun q => xss_no (absurd q (by decide))) (fun q => ?_))
    refine xss_one (xs_if (xt_cmp (xe_ixt (xv 1 rfl)) xe_str o_eqS) (fun q => xss_no (absurd q (by decide))) (fun q => xss_nil ?_))
    exact xss_freeze 5 rfl (xss_one (xs_ret (tup (XB.sh ((xv 5 rfl)) (XB.sh (tup (XB.sh ((xv 2 rfl)) (XB.sh ((xv 3 rfl)) (XB.sh (xe_tupleP (xpv 4 (.inl rfl)) 5) XB.nil)))) XB.nil))) rfl))
  | rain r n =>
    refine xss_cons (xs_if (xt_cmp (xe_ixt (xv 1 rfl)) xe_str o_eqS) (fun q => xss_no (absurd q (by decide))) (fun q => ?_))
    refine xss_one (xs_if (xt_cmp (xe_ixt (xv 1 rfl)) xe_str o_eqS) (fun q => xss_no (absurd q (by decide))) (fun q => ?_))
    refine xss_one (xs_if (xt_cmp (xe_ixt (xv 1 rfl)) xe_str o_eqS) (fun q => xss_no (absurd q (by decide))) (fun q => xss_nil ?_))
    exact xss_freeze 5 rfl (xss_one (xs_ret (tup (XB.sh ((xv 5 rfl)) (XB.sh (tup (XB.sh ((xv 2 rfl)) (XB.sh ((xv 3 rfl)) (XB.sh (xe_tupleP (xpv 4 (.inl rfl)) 5) XB.nil)))) XB.nil))) rfl))
theorem s66_15 : Sc [("self", true), ("entry", true), ("boat", true), ("step", true), ("full", true)] ["self", "entry"] ["boat_at", "passing"] (defScope (mth 66 15)) := sc_by (by decide +kernel)
theorem b_words_of : Mt pg 4 false (ca pg "Book") "words_of" [] (Ct (fun a : Bk × EntR => ErD a.1 a.2 ∧ isGate a.2 = true) (fun a => [.pk (eBk pg a.1), .sh (eEnt (entOf a.1 a.2))]) fun a => .sh (eGate (wordsR a.1 a.2))) := by
  refine mt_ct 66 15 18 rfl 3 "house" rfl s66_15 (fun _ => rfl) (fun _ _ _ _ _ _ us hl => match us, hl with | [_, _], _ => rfl) ?_
  rintro Γ ⟨b, e⟩ ⟨hE, g⟩
  dsimp only at hE g ⊢
  obtain ⟨W, h, f⟩ := hE
  have hcl := W.cl_le
  cases e with
  | let_ k => exact xss_cons (xs_if (xt_cmp (xe_ixt (xv 1 rfl)) xe_str o_eqS) (fun q => xss_one (xs_ret (tup (XB.sh (xe_ixt (xv 1 rfl)) (XB.sh (ls (XB.sh (xe_str) XB.nil)) XB.nil))) rfl)) (fun q => xss_no (absurd q (by decide))))
  | pass i =>
    have hi : i < b.courses.length := DW_of W h (e := .pass i) rfl
    have hp : i < b.standing.2.2.length := by rw [W.sw.pl]; exact hi
    have hs := pass_ok f
    have hk := W.sw.step_lt hi hs
    have hch : b.house.chamber (stepR b i).1 < b.standing.2.1.length := by rw [W.sw.wa]; exact chamber_lt hk
    refine xss_cons (xs_if (xt_cmp (xe_ixt (xv 1 rfl)) xe_str o_eqS) (fun q => xss_no (absurd q (by decide))) (fun q => xss_nil ?_))
    refine xss_cons (xs_set 2 (xe_call f_boat_at (XA.pk (b_called (xpv 0 (.inr rfl))) (XA.sh (xe_ixt (xv 1 rfl)) XA.nil)) 0 ⟨(b.called, i), ⟨h, by dsimp only; omega, W.nd⟩, rfl, rfl⟩) ?_)
    refine xss_cons (xs_set 3 (xe_ixT (xe_ixt (xe_ixL (b_courses (xpv 0 (.inr rfl))) (xv 2 rfl) rfl (at_map hi))) (xe_ixT (xe_ixt (b_standing (xpv 0 (.inr rfl)))) (xv 2 rfl) rfl (at_map (f := eN) hp)) rfl (at_map (f := eStep) hs)) ?_)
    refine xss_cons (xs_set 4 (xe_meth m_full (XE.rcv (b_house (xpv 0 (.inr rfl)))) (.inl ⟨_, rfl, rfl⟩) (XA.sh (xe_ixt (b_standing (xpv 0 (.inr rfl)))) (XA.sh (xe_ixt (xv 3 rfl)) XA.nil)) ⟨(b.house, b.standing.2.1, (stepR b i).1), hch, rfl, rfl⟩) ?_)
    exact xss_one (xs_ret (tup (XB.sh (f_lname (xe_ixL (f_locks (b_house (xpv 0 (.inr rfl)))) (xe_ixt (xv 3 rfl)) rfl (at_map hk))) (XB.sh (XO.lst (xo_call f_passing (XA.sh ((xv 4 rfl)) (XA.sh (xe_ixt (xv 3 rfl)) XA.nil)) 1 ⟨(b.house.full b.standing.2.1 (stepR b i).1, (stepR b i).2), trivial, rfl, rfl⟩)) XB.nil))) rfl)
  | _ => cases g
end Lk
set_option maxHeartbeats 400000
namespace Lk
open PySem PySem.Spec PyProof.Rows L2
variable {pg : Pg} [Lib3 pg]
def bMv (b : Bk) (e : EntR) : Bk := { b with moved := b.moved ++ poursR b e }
def bGt (b : Bk) (e : EntR) : Bk := { b with moved := b.moved ++ poursR b e, gatewords := if isGate e then b.gatewords ++ [wordsR b e] else b.gatewords }
def bCl (b : Bk) (e : EntR) : Bk := { b with moved := b.moved ++ poursR b e, gatewords := if isGate e then b.gatewords ++ [wordsR b e] else b.gatewords, called := match e with
  | .come n _ => b.called ++ [n]
  | _ => b.called }
theorem erD_mv {b : Bk} {e : EntR} (h : ErD b e) : ErD (bMv b e) e := by
  obtain ⟨W, h, f⟩ := h
  refine ⟨⟨W.cw, W.cn, W.sw, W.nd, W.nm, W.cl⟩, ?_, ?_⟩
  · cases e <;> exact h
  · cases e <;> exact f
theorem ent_mv {b : Bk} {e : EntR} : entOf (bMv b e) e = entOf b e := by cases e <;> rfl
theorem words_mv {b : Bk} {e : EntR} : wordsR (bMv b e) e = wordsR b e := by cases e <;> rfl
def tagE : Ent → Str
  | .come _ _ _ => "come"
  | .pass _ => "pass"
  | .let_ _ => "let"
  | .night _ => "night"
  | .take _ _ => "take"
  | .rain _ _ => "rain"
theorem e_tag {sc : Scope} {N : List (Str × Bool)} {G : List Str} {lv : Nat} {own : List Nat} {Γ : Gm pg sc N G lv own} {ρ : List Sl} {a : Expr} {pos q : Pos} {j : Nat} {e : Ent} (h : XE Γ a ρ (eEnt e)) : XE Γ (.Subscript a (.Constant (.int (0 : Nat)) j q) pos) ρ (.str (tagE e)) := by
  cases e <;> exact xe_ixt h
def isCome : EntR → Bool
  | .come _ _ => true
  | _ => false
theorem gate_tag {b : Bk} {e : EntR} : (decide (tagE (entOf b e) = "pass") || decide (tagE (entOf b e) = "let")) = isGate e := by cases e <;> rfl
theorem come_tag {b : Bk} {e : EntR} : decide (tagE (entOf b e) = "come") = isCome e := by cases e <;> rfl
theorem s66_16 : Sc [("self", true), ("entry", true), ("beyond", true)] ["self", "entry"] [] (defScope (mth 66 16)) := sc_by (by decide +kernel)
theorem b_do : MtM pg 11 false (ca pg "Book") "do" (CtM (fun a : Bk × EntR => BkW a.1 ∧ ErW a.1 a.2 ∧ faultR a.1 a.2 = "") (fun a => [.mu (eBk pg a.1) (eBk pg (doR a.1 a.2)), .sh (eEnt (entOf a.1 a.2))]) fun a => .sh .non) := by
  refine mtM_ct [0] 66 16 19 rfl 3 "house" rfl s66_16 (fun _ => rfl) (fun _ => rfl) (fun _ _ _ _ _ _ us hl => match us, hl with | [_, _], _ => rfl) ?_
  rintro Γ ⟨b, e⟩ ⟨W, h, f⟩
  dsimp only at W h f ⊢
  have hE : ErD b e := ⟨W.toBkC, h, f⟩
  have h1 := W.ml
  have h2 := W.gl
  have h3 := W.tl
  have h4 := W.cl_le
  have h5 := poursR_len W.toBkC h
  refine xss_cons (xs_set 2 (xe_meth b_behind (XP.rcv (xpv 0 (.inl rfl))) (.inr ⟨_, rfl, rfl⟩) (XA.sh ((xv 1 rfl)) XA.nil) ⟨(b, e), hE, rfl, rfl⟩) ?_)
  refine xss_mid (fun ρ => ρ = [.ow (eBk pg (bMv b e)), .sh (eEnt (entOf b e)), .sh (eBeh (behindR b e))])
    (xs_fld 0 rfl (fld 7) (d := ePrs (b.moved ++ poursR b e)) (XE.to (XO.lst (xo_cat (XE.l (b_moved (xpv 0 (.inl rfl)))) (XO.l (xo_meth b_pours_of (XP.rcv (xpv 0 (.inl rfl))) (.inr ⟨_, rfl, rfl⟩) (XA.sh ((xv 1 rfl)) XA.nil) ⟨(b, e), hE, rfl, rfl⟩)) (by rw [List.length_map, List.length_map]; dsimp only; omega))) (congrArg D.lst List.map_append.symm)) (Nat.le_of_ble_eq_true rfl) rfl) ?_
  rintro _ rfl
  refine xss_mid (fun ρ => ρ = [.ow (eBk pg (bGt b e)), .sh (eEnt (entOf b e)), .sh (eBeh (behindR b e))])
    (xs_if (c := isGate e) ((xt_or (xt_cmp (e_tag (xv 1 rfl)) xe_str o_eqS) (fun _ => xt_cmp (e_tag (xv 1 rfl)) xe_str o_eqS)).to gate_tag) (fun q => xss_one ?_) (fun q => xss_nil ?_)) ?_
  · refine xs_appendF 0 rfl rfl (fld 8) (d := eGate (wordsR b e)) (xe_meth b_words_of (XP.rcv (xpv 0 (.inl rfl))) (.inr ⟨_, rfl, rfl⟩) (XA.sh ((xv 1 rfl)) XA.nil) ⟨(bMv b e, e), ⟨erD_mv hE, q⟩, by dsimp only; rw [ent_mv]; rfl, by dsimp only; rw [words_mv]⟩) ?_ (by rw [List.length_map]; show b.gatewords.length < _; omega)
    show [_, _, _] = [_, _, _]
    unfold bGt
    rw [q, if_pos rfl]
    unfold eBk
    dsimp only
    rw [List.map_append (f := eGate)]
    rfl
  · unfold bGt
    rw [q]
    rfl
  rintro _ rfl
  refine xss_mid (fun ρ => ρ = [.ow (eBk pg (bCl b e)), .sh (eEnt (entOf b e)), .sh (eBeh (behindR b e))])
    (xs_if (c := isCome e) ((xt_cmp (e_tag (xv 1 rfl)) xe_str o_eqS).to come_tag) (fun q => xss_one ?_) (fun q => xss_nil ?_)) ?_
  · cases e with
    | come n w =>
      refine xs_appendF 0 rfl rfl (fld 4) (xe_ixt (xv 1 rfl)) ?_ (by rw [List.length_map]; show b.called.length < _; omega)
      show [_, _, _] = [_, _, _]
      unfold bCl eBk
      dsimp only
      rw [List.map_append (f := D.str)]
      rfl
    | _ => cases q
  · cases e with
    | come n w => cases q
    | _ => rfl
  rintro _ rfl
  refine xss_cons (xs_fld 0 rfl (fld 5) (xe_ixt (xv 2 rfl)) (Nat.le_of_ble_eq_true rfl) ?_)
  refine xss_cons (xs_fld 0 rfl (fld 6) (xe_ixt (xv 2 rfl)) (Nat.le_of_ble_eq_true rfl) ?_)
  refine xss_one (xs_appendF 0 rfl rfl (fld 9) (xv 1 rfl) ⟨rfl, mu0 ?_⟩ (by rw [List.length_map]; show b.told.length < _; omega))
  show some (Sl.ow _) = some (Sl.ow _)
  unfold doR eBk
  dsimp only
  rw [List.map_append (f := eEnt)]
  rfl
end Lk
set_option maxHeartbeats 400000
namespace Lk
open PySem PySem.Spec PyProof.Rows L2
noncomputable def planOf : Res → List Deed
  | .found g m _ => (pathOf m g).reverse
  | _ => []
def eKp (pg : Pg) (b : Bk) (most : Nat) (plan : List Deed) : OT := .ins (ca pg "Keeper") [("kept", eBk pg b), ("bound", .sh (eN most)), ("coming", .lst (plan.map eDeed))]
def keepRes (pg : Pg) : Res → Rz
  | .found _ _ _ => .sh .non
  | .closed _ => .ex (ca pg "Torn")
  | .wide => .ex (ca pg "TooWide")
/-- the look of a book -/
def lookB (b : Bk) (most : Nat) : Res := search b.house b.courses b.standing most
variable {pg : Pg} [Lib3 pg]
theorem mk_ctD {α : Type} {pre : α → Prop} {ag : α → List Am} {res : α → Rz} {Cl q : Str} {N : List (Str × Bool)} {ps G : List Str} {k : Nat} {cx : Bool} {v : V} {d : D} (i j t : Nat) (ht : mtTab[t]? = some (Cl, i, ("__init__" : Str), j, q, [v])) (hv : ∀ Hf, R pg Hf d v) (hm : Cl ∈ (["Keeper", "Book", "Reach", "Canal", "PlainLock", "BasinLock", "PumpLock"] : List Str)) (S : Sc N ps G (defScope (mth i j))) (len : ∀ a, (ag a).length = ps.length) (ow : ∀ a, muIx (ag a) = [0])
    (hbi : ∀ (T : Addr) (kV doc pm : Value) (an : Option Addr) (cdv ct : Value) (us its : List Value), us.length = ps.length - 1 → its.length = 1 →
      ∃ k, bindArgs (PySem.W.fnOf "__init__" q (defArgs (mth i j)) (defBody (mth i j)) (defScope (mth i j)) (.ref T) kV doc pm an cdv ct) ⟨us, []⟩ = seqItems? (.ref T) >>= k ∧ k (some its.toArray) = pure (ps.zip (us ++ its)))
    (hp : 0 < ps.length) (hb : ∀ (Γ : Gf pg (defScope (mth i j)) N G k [0]) a, pre a → XSs Γ (defBody (mth i j)) (slotsM N.length (ag a)) (finM cx (ag a) (res a))) : MkM pg (k + 1) cx Cl [d] (CtM pre ag res) := by
  obtain ⟨f, fd, h1, h3⟩ := Lib.mt (pg := pg) Cl i "__init__" j q [v] (List.mem_of_getElem? ht)
  obtain ⟨g1, g2⟩ := Lib2.mak (pg := pg) Cl hm
  obtain ⟨ds, e1, e2⟩ := h3.binds1 (ps := ps) (ps.length - 1) 0 (by exact fun z => nomatch z) (by show ps.length - 1 + 1 = _; omega) hbi
  exact ⟨f, fd, ps, ds, [v], g1, g2 f h1, fnM_ok h3 S (fun ags r ⟨a, _, h, _⟩ => by rw [h]; exact len a) (fun ags r ⟨a, _, h, _⟩ => by rw [h]; exact ow a) (fun Γ ags r ⟨a, h1, h2, h3⟩ => by rw [h2, h3]; exact hb Γ a h1), e2, e1, fun Hf => ⟨v, [], rfl, hv Hf, rfl⟩⟩
theorem s56_0 : Sc [("self", true), ("book", true), ("most", true), ("found", true)] ["self", "book", "most"] ["look", "Torn", "list"] (defScope (mth 56 0)) := sc_by (by decide +kernel)
theorem keeper_body {Γ : Gf pg (defScope (mth 56 0)) [("self", true), ("book", true), ("most", true), ("found", true)] ["look", "Torn", "list"] 14 [0]} (b : Bk) (most : Nat) (W : BkC b) (h1 : 1 ≤ most) (h2 : most ≤ 1000) :
    XSs Γ (defBody (mth 56 0)) (slotsM 4 [.mu (.ins (ca pg "Keeper") []) (eKp pg b most (planOf (lookB b most))), .pk (eBk pg b), .sh (eN most)]) (finM true [.mu (.ins (ca pg "Keeper") []) (eKp pg b most (planOf (lookB b most))), .pk (eBk pg b), .sh (eN most)] (keepRes pg (lookB b most))) := by
  refine xss_cons (xs_fldO 0 rfl (fld 0) (xo_meth0 b_copied (XP.rcv (xpv 1 (.inr rfl))) (.inr ⟨_, rfl, rfl⟩) ⟨b, W.cw, rfl, rfl⟩) (Nat.le_of_ble_eq_true rfl) ?_)
  refine xss_cons (xs_fld 0 rfl (fld 1) (xv 2 rfl) (Nat.le_of_ble_eq_true rfl) ?_)
  have kp : ∀ {e : Expr} {pos : Pos} {ρ : List Sl}, XP Γ.toGm e ρ (.ins (ca pg "Keeper") [("kept", eBk pg b), ("bound", .sh (eN most))]) → (∀ env, attributeBase e "kept" env (eval e env) = eval e env) → XP Γ.toGm (.Attribute e "kept" pos) ρ (eBk pg b) := fun h hb => xp_sub h (fld 0) rfl hb
  cases he : lookB b most with
  | found g m ls =>
    refine xss_cons (xs_set 3 (xe_call (d := .tup [.str "home", .lst ((pathOf m g).reverse.map eDeed), .lst (ls.map eLay)]) f_look (XA.sh (xe_meth0 b_canal (XP.rcv (kp (xpv 0 (.inl rfl)) (by intro _; rfl))) (.inr ⟨_, rfl, rfl⟩) ⟨b, trivial, rfl, rfl⟩) (XA.sh (XO.lst (xo_meth0 b_ways (XP.rcv (kp (xpv 0 (.inl rfl)) (by intro _; rfl))) (.inr ⟨_, rfl, rfl⟩) ⟨b, trivial, rfl, rfl⟩)) (XA.sh (xe_meth0 b_state (XP.rcv (kp (xpv 0 (.inl rfl)) (by intro _; rfl))) (.inr ⟨_, rfl, rfl⟩) ⟨b, trivial, rfl, rfl⟩) (XA.sh ((xv 2 rfl)) XA.nil)))) 0 ⟨(b.house, b.courses, b.standing, most), ⟨W.cw, W.sw, h1, h2⟩, rfl, by show Rz.sh _ = lookR pg (lookB b most); rw [he]; rfl⟩) ?_)
    refine xss_cons (xs_if (xt_cmp (xe_ixt (xv 3 rfl)) xe_str o_eqS) (fun q2 => xss_no (absurd q2 (by decide))) (fun _ => xss_nil ?_))
    exact xss_one (xs_fldO 0 rfl (fld 2) (xo_list (xe_ixt (xv 3 rfl)) 2) (Nat.le_of_ble_eq_true rfl) ⟨rfl, mu0 rfl⟩)
  | closed ls =>
    refine xss_cons (xs_set 3 (xe_call (d := .tup [.str "doomed", .lst (ls.map eLay)]) f_look (XA.sh (xe_meth0 b_canal (XP.rcv (kp (xpv 0 (.inl rfl)) (by intro _; rfl))) (.inr ⟨_, rfl, rfl⟩) ⟨b, trivial, rfl, rfl⟩) (XA.sh (XO.lst (xo_meth0 b_ways (XP.rcv (kp (xpv 0 (.inl rfl)) (by intro _; rfl))) (.inr ⟨_, rfl, rfl⟩) ⟨b, trivial, rfl, rfl⟩)) (XA.sh (xe_meth0 b_state (XP.rcv (kp (xpv 0 (.inl rfl)) (by intro _; rfl))) (.inr ⟨_, rfl, rfl⟩) ⟨b, trivial, rfl, rfl⟩) (XA.sh ((xv 2 rfl)) XA.nil)))) 0 ⟨(b.house, b.courses, b.standing, most), ⟨W.cw, W.sw, h1, h2⟩, rfl, by show Rz.sh _ = lookR pg (lookB b most); rw [he]; rfl⟩) ?_)
    exact xss_cons (xs_if (xt_cmp (xe_ixt (xv 3 rfl)) xe_str o_eqS) (fun q2 => xss_one (xs_raise (Lib2.rz "Torn" (by decide)) ⟨rfl, rfl⟩ 1)) (fun q2 => xss_no (absurd q2 (by decide))))
  | wide =>
    exact xss_cons (xs_setX (C := ca pg "TooWide") (xx_callR f_look (XA.sh (xe_meth0 b_canal (XP.rcv (kp (xpv 0 (.inl rfl)) (by intro _; rfl))) (.inr ⟨_, rfl, rfl⟩) ⟨b, trivial, rfl, rfl⟩) (XA.sh (XO.lst (xo_meth0 b_ways (XP.rcv (kp (xpv 0 (.inl rfl)) (by intro _; rfl))) (.inr ⟨_, rfl, rfl⟩) ⟨b, trivial, rfl, rfl⟩)) (XA.sh (xe_meth0 b_state (XP.rcv (kp (xpv 0 (.inl rfl)) (by intro _; rfl))) (.inr ⟨_, rfl, rfl⟩) ⟨b, trivial, rfl, rfl⟩) (XA.sh ((xv 2 rfl)) XA.nil)))) 0 ⟨(b.house, b.courses, b.standing, most), ⟨W.cw, W.sw, h1, h2⟩, rfl, by show Rz.ex _ = lookR pg (lookB b most); rw [he]; rfl⟩) (fun ρx => ⟨rfl, rfl⟩) 3)
abbrev kpC (pg : Pg) : List Am → Rz → Prop := CtM (fun a : Bk × Nat => BkC a.1 ∧ 1 ≤ a.2 ∧ a.2 ≤ 1000) (fun a => [.mu (.ins (ca pg "Keeper") []) (eKp pg a.1 a.2 (planOf (lookB a.1 a.2))), .pk (eBk pg a.1), .sh (eN a.2)]) fun a => keepRes pg (lookB a.1 a.2)
theorem k_keeper : MkM pg 15 true "Keeper" [] (kpC pg) := by
  refine mk_ct 56 0 0 rfl (by decide) s56_0 (fun _ => rfl) (fun _ => rfl) (fun f fd F => bindsAllD F (fun _ _ _ _ _ _ _ us its hl hi => match us, its, hl, hi with | [_, _, _], [_], _, _ => ⟨_, rfl, rfl⟩)) ?_
  rintro Γ ⟨b, most⟩ ⟨W, h1, h2⟩
  exact keeper_body b most W h1 h2
theorem k_keeper0 : MkM pg 15 true "Keeper" [eN 200] (kpC pg) := by
  refine mk_ctD (v := .int 200) 56 0 0 rfl (fun _ => rfl) (by decide) s56_0 (fun _ => rfl) (fun _ => rfl) (fun _ _ _ _ _ _ _ us its hl hi => match us, its, hl, hi with | [_, _], [_], _, _ => ⟨_, rfl, rfl⟩) (by decide) ?_
  rintro Γ ⟨b, most⟩ ⟨W, h1, h2⟩
  exact keeper_body b most W h1 h2
theorem s56_1 : Sc [("self", true)] ["self"] ["list"] (defScope (mth 56 1)) := sc_by (by decide +kernel)
theorem kp_plan : Mt pg 1 false (ca pg "Keeper") "plan" [] (Ct (fun _ : Bk × Nat × List Deed => True) (fun a => [.pk (eKp pg a.1 a.2.1 a.2.2)]) fun a => .ow (.lst (a.2.2.map eDeed))) := by
  refine mt_ct 56 1 1 rfl 0 "kept" rfl s56_1 (fun _ => rfl) (fun _ _ _ _ _ _ us hl => match us, hl with | [_], _ => rfl) ?_
  rintro Γ ⟨b, most, plan⟩ -
  exact xss_one (xs_retO (xo_listP (xp_sub (xpv 0 (.inr rfl)) (fld 2) rfl) 0) rfl)
theorem s56_2 : Sc [("self", true)] ["self"] [] (defScope (mth 56 2)) := sc_by (by decide +kernel)
theorem kp_book : Mt pg 9 false (ca pg "Keeper") "book" [] (Ct (fun a : Bk × Nat × List Deed => CW a.1.house) (fun a => [.pk (eKp pg a.1 a.2.1 a.2.2)]) fun a => .ow (eBk pg a.1)) := by
  refine mt_ct 56 2 2 rfl 0 "kept" rfl s56_2 (fun _ => rfl) (fun _ _ _ _ _ _ us hl => match us, hl with | [_], _ => rfl) ?_
  rintro Γ ⟨b, most, plan⟩ W
  exact xss_one (xs_retO (xo_meth0 b_copied (XP.rcv (o := eBk pg b) (xp_sub (xpv 0 (.inr rfl)) (fld 0) rfl)) (.inr ⟨_, rfl, rfl⟩) ⟨b, W, rfl, rfl⟩) rfl)
end Lk
set_option maxHeartbeats 400000
namespace Lk
open PySem PySem.Spec PyProof.Rows L2
/-! ### the law's draws -/
def drawI (ns : List Int) (k many : Nat) : Int := if ns.length = 0 then ((k : Int) * k * 7 + 3 * k) % many else ((ns[k % ns.length]! % 1000003) * ((k : Int) * k + 48271) + k * 7919) % 2147483647 % many
def draw (ns : List Int) (k many : Nat) : Nat := (drawI ns k many).toNat
theorem drawI_nn (ns : List Int) (k : Nat) {many : Nat} (h : 0 < many) : 0 ≤ drawI ns k many ∧ drawI ns k many < many := by
  unfold drawI
  split
  · exact ⟨Int.emod_nonneg _ (by omega), Int.emod_lt_of_pos _ (by omega)⟩
  · exact ⟨Int.emod_nonneg _ (by omega), Int.emod_lt_of_pos _ (by omega)⟩
theorem draw_lt (ns : List Int) (k : Nat) {many : Nat} (h : 0 < many) : draw ns k many < many := by
  have := drawI_nn ns k h
  unfold draw
  omega
theorem draw_eq (ns : List Int) (k : Nat) {many : Nat} (h : 0 < many) : ((draw ns k many : Nat) : Int) = drawI ns k many := Int.toNat_of_nonneg (drawI_nn ns k h).1
def unitF (ns : List Int) : Int := if ns.length = 0 then 1 else 1 + ns[0]! % 10 ^ 10
theorem unitF_pos (ns : List Int) : 1 ≤ unitF ns := by
  unfold unitF
  split
  · exact Int.le_refl _
  · have := Int.emod_nonneg ns[0]! (show (10 : Int) ^ 10 ≠ 0 by decide)
    omega
theorem cmN {n : Nat} {m : Int} (h : n ≤ 1000000) : CMul n m := .inl ⟨by omega, by omega⟩
theorem cmL {n m : Int} (h : -1000000 ≤ n ∧ n ≤ 10000000000) : CMul n m := .inl ⟨by omega, by omega⟩
theorem cmR {n m : Int} (h : -1000000 ≤ m ∧ m ≤ 10000000000) : CMul n m := .inr ⟨by omega, by omega⟩
def nameF (l at_ size s3 sg j : Nat) : Str := if s3 = 0 then rep1 (97 + l) (j + 1) else (rep1 (97 + l) at_ ++ (⟨#[97 + (sg + j) % 26]⟩ : Str)) ++ rep1 (97 + l) (size - 1 - at_)
def namesF (ns : List Int) (k many : Nat) : List Str := (List.range many).map fun j => nameF (draw ns (k + 2) 26) (draw ns (k + 1) (1 + draw ns k 12)) (1 + draw ns k 12) (draw ns (k + 3) 3) (draw ns (k + 4) 26) j
theorem ri {i j : Int} (h : i = j) : Rz.sh (.int i) = Rz.sh (.int j) := by rw [h]
theorem letters_get {i : Nat} (h : i < 26) : lettersS.cps.toList[i]? = some (97 + i) := by
  have key : ((List.range 26).all fun i => decide (lettersS.cps.toList[i]? = some (97 + i))) = true := by decide +kernel
  exact of_decide_eq_true (List.all_eq_true.mp key i (List.mem_range.mpr h))
theorem rep1_len (c n : Nat) : (rep1 c n).length = n := by
  unfold rep1
  show (List.replicate n c).toArray.size = n
  simp
theorem strLen_app (a b : Str) : (a ++ b).length = a.length + b.length := by
  show (a.cps ++ b.cps).size = _
  rw [Array.size_append]
  rfl
def rchM (ns : List Int) (k : Nat) (unit : Int) (named : Str) : Rch :=
  ⟨named, draw ns (10 * k + 1) 4 * unit, draw ns (10 * k + 1) 4 * unit + draw ns (10 * k + 2) 16 * unit + draw ns (10 * k + 3) 2, ([1, 2, 2, 9] : List Int)[draw ns (10 * k + 6) 4]!, draw ns (10 * k + 4) 25 * unit + draw ns (10 * k + 5) 2,
    if draw ns (10 * k + 7) (k + 1) = 0 then none else some (draw ns (10 * k + 7) (k + 1) - 1)⟩
def roomM (ns : List Int) (k : Nat) (unit : Int) : Int := (1 + draw ns (102 + 9 * k) 4) * unit + draw ns (103 + 9 * k) 2
def partM (ns : List Int) (k : Nat) (unit : Int) : Int := ([1, roomM ns k unit, 1 + roomM ns k unit / 2, roomM ns k unit - roomM ns k unit / 3] : List Int)[draw ns (104 + 9 * k) 4]!
def lckM (ns : List Int) (k reaches : Nat) (unit : Int) (named : Str) : Lck :=
  ⟨if draw ns (105 + 9 * k) 3 = 1 then .basin (partM ns k unit) else if draw ns (105 + 9 * k) 3 = 2 then .pump (partM ns k unit) else .plain, named, 1 + draw ns (100 + 9 * k) (reaches - 1), draw ns (101 + 9 * k) (1 + draw ns (100 + 9 * k) (reaches - 1)), roomM ns k unit⟩
def weatherM (ns : List Int) (k reaches : Nat) (unit : Int) : List (Int × Int) := (List.range reaches).map fun r => ((draw ns (200 + 17 * k + 2 * r) 4 : Int) * unit, (draw ns (201 + 17 * k + 2 * r) 4 : Int) * unit / 2)
def manyM (ns : List Int) : Nat := 2 + draw ns 90 3
def locksM (ns : List Int) : Nat := 1 + draw ns 91 2
def namedM (ns : List Int) : List Str := if locksM ns ≤ manyM ns ∧ draw ns 1015 3 = 0 then namesF ns 1000 (manyM ns) else namesF ns 1010 (locksM ns)
def canalM (ns : List Int) : Cnl := ⟨(List.range (manyM ns)).map fun k => rchM ns k (unitF ns) (namesF ns 1000 (manyM ns))[k]!, (List.range (locksM ns)).map fun k => lckM ns k (manyM ns) (unitF ns) (namedM ns)[k]!, (List.range (draw ns 92 2)).map fun k => weatherM ns k (manyM ns) (unitF ns)⟩
theorem namesF_len (ns : List Int) (k many : Nat) : (namesF ns k many).length = many := by unfold namesF; simp
theorem manyM_le (ns : List Int) : 2 ≤ manyM ns ∧ manyM ns ≤ 4 := by
  have := draw_lt ns 90 (many := 3) (by decide)
  unfold manyM
  omega
theorem locksM_le (ns : List Int) : 1 ≤ locksM ns ∧ locksM ns ≤ 2 := by
  have := draw_lt ns 91 (many := 2) (by decide)
  unfold locksM
  omega
theorem namedM_len (ns : List Int) : locksM ns ≤ (namedM ns).length := by
  unfold namedM
  split
  · rename_i h
    rw [namesF_len]
    exact h.1
  · rw [namesF_len]
    exact Nat.le_refl _
variable {pg : Pg} [Lib3 pg]
section
variable {sc : Scope} {N : List (Str × Bool)} {G : List Str} {lv : Nat} {own : List Nat} {Γ : Gm pg sc N G lv own} {ρ : List Sl} {a b e : Expr} {pos : Pos} {i : Int} {n : Nat} {d d0 d1 : D} {c : Bool}
omit [Lib3 pg] in
theorem nx (h : XE Γ e ρ (.int i)) (q : i = (n : Nat)) : XE Γ e ρ (eN n) := h.to (congrArg D.int q)
omit [Lib3 pg] in
theorem pick2 (h : XE Γ a ρ (.lst [d0, d1])) (hb : XE Γ b ρ (.int (if c then 1 else 0))) (hs : PlainIx b := by intro _ _; rfl) : XE Γ (.Subscript a b pos) ρ (if c then d1 else d0) := by
  cases c with
  | true => exact xe_ixL h hb (j := 1) rfl rfl hs
  | false => exact xe_ixL h hb (j := 0) rfl rfl hs
end
theorem s77 : Sc [("script", true), ("k", true), ("many", true), ("cell", true)] ["script", "k", "many"] ["len"] (defScope (top 77)) := sc_by (by decide +kernel)
theorem f_draw : Fn pg 1 false "_law_draw" [] (Ct (fun a : List Int × Nat × Nat => a.2.1 ≤ 10000 ∧ 1 ≤ a.2.2 ∧ a.2.2 ≤ 10000) (fun a => [.sh (.scr a.1), .sh (eN a.2.1), .sh (eN a.2.2)]) fun a => .sh (eN (draw a.1 a.2.1 a.2.2))) := by
  refine fn_ct 77 40 rfl s77 (fun _ => rfl) (fun _ _ _ _ _ _ us hl => match us, hl with | [_, _, _], _ => rfl) ?_
  rintro Γ ⟨ns, k, many⟩ ⟨h1, h2, h3⟩
  dsimp only at h1 h2 h3 ⊢
  have hm : (0 : Int) < (many : Nat) := by omega
  have res : ∀ i, i = drawI ns k many → Rz.sh (.int i) = Rz.sh (eN (draw ns k many)) := fun i e => by rw [e, ← draw_eq ns k h2]
  refine xss_cons (xs_if (xt_cmp (xe_lenScr (xv 0 rfl) 0) xe_int o_eqI) (fun q => xss_one (xs_ret (xe_op (xe_op (xe_op (xe_op (xv 1 rfl) (xv 1 rfl) (o_mul (cmN (by omega)))) xe_int (o_mul (cmR (by omega)))) (xe_op xe_int (xv 1 rfl) (o_mul (cmL (by omega)))) o_add) (xv 2 rfl) (o_mod hm)) (res _ ?_))) (fun q => xss_nil ?_))
  · have q := of_decide_eq_true q
    unfold drawI
    rw [if_pos (by omega)]
  · have q := of_decide_eq_false q
    have hl : 0 < ns.length := by omega
    have hk : k % ns.length < ns.length := Nat.mod_lt _ hl
    refine xss_cons (xs_set 3 (xe_op (xe_ixScr (j := k % ns.length) (xv 0 rfl) (xe_op (xv 1 rfl) (xe_lenScr (xv 0 rfl) 0) (o_mod (by omega))) (Int.natCast_emod k ns.length).symm (List.getElem?_eq_getElem hk)) xe_int (o_mod (by decide))) ?_)
    refine xss_one (xs_ret (xe_op (xe_op (xe_op (xe_op (xv 3 rfl) (xe_op (xe_op (xv 1 rfl) (xv 1 rfl) (o_mul (cmN (by omega)))) xe_int o_add) (o_mul (cmL ?_))) (xe_op (xv 1 rfl) xe_int (o_mul (cmR (by omega)))) o_add) xe_int (o_mod (by decide))) (xv 2 rfl) (o_mod hm)) (res _ ?_))
    · have h5 := Int.emod_nonneg (ns[k % ns.length]) (show (1000003 : Int) ≠ 0 by decide)
      have h6 := Int.emod_lt_of_pos (ns[k % ns.length]) (show (0 : Int) < 1000003 by decide)
      omega
    · unfold drawI
      rw [if_neg (by omega), getElem!_pos ns _ hk]
theorem s78 : Sc [("script", true)] ["script"] ["len"] (defScope (top 78)) := sc_by (by decide +kernel)
theorem f_unit : Fn pg 1 false "_law_unit" [] (Ct (fun a : List Int => True) (fun a => [.sh (.scr a)]) fun a => .sh (.int (unitF a))) := by
  refine fn_ct 78 41 rfl s78 (fun _ => rfl) (fun _ _ _ _ _ _ us hl => match us, hl with | [_], _ => rfl) ?_
  rintro Γ ns -
  refine xss_cons (xs_if (xt_cmp (xe_lenScr (xv 0 rfl) 0) xe_int o_eqI) (fun q => xss_one (xs_ret xe_int (ri ?_))) (fun q => xss_nil ?_))
  · have q := of_decide_eq_true q
    unfold unitF
    rw [if_pos (by omega)]
  · have q := of_decide_eq_false q
    have hl : 0 < ns.length := by omega
    refine xss_one (xs_ret (xe_op xe_int (xe_op (xe_ixScr (j := 0) (xv 0 rfl) xe_int rfl (List.getElem?_eq_getElem hl)) (xe_op xe_int xe_int (o_pow ⟨by decide, by decide, by decide⟩)) (o_mod (by decide))) o_add) (ri ?_))
    unfold unitF
    rw [if_neg (by omega), getElem!_pos ns _ hl]
    rfl
end Lk
set_option maxHeartbeats 400000
namespace Lk
open PySem PySem.Spec PyProof.Rows L2
variable {pg : Pg} [Lib3 pg]
section
variable {sc : Scope} {N : List (Str × Bool)} {G : List Str} {lv : Nat} {own : List Nat} {Γ : Gm pg sc N G lv own} {ρ : List Sl} {a b e1 e2 e3 : Expr} {pos p : Pos} {i1 i2 : Int} {n : Nat} {ns : List Int}
/-- a draw -/
theorem dr (k many : Nat) (j : Nat) (h1 : XE Γ e1 ρ (.scr ns)) (h2 : XE Γ e2 ρ (.int i1)) (h3 : XE Γ e3 ρ (.int i2)) (q1 : i1 = (k : Nat)) (q2 : i2 = (many : Nat)) (hk : k ≤ 10000) (hm : 1 ≤ many) (hm2 : many ≤ 10000) (hr : 1 ≤ lv := by decide) (hG : G[j]? = some ("_law_draw" : Str) := by rfl)
    (hst : ∀ env, starEach [e1, e2, e3] env = (false, eval e1 env) :: starEach [e2, e3] env := by intro _; rfl) (hst2 : ∀ env, starEach [e2, e3] env = (false, eval e2 env) :: starEach [e3] env := by intro _; rfl) (hst3 : ∀ env, starEach [e3] env = [(false, eval e3 env)] := by intro _; rfl) (hpl : ∀ env, (backTo pos (starEach [e2, e3] env)).any (·.1) = false := by intro _; rfl) :
    XE Γ (.Call (.Name "_law_draw" p) [e1, e2, e3] [] pos) ρ (eN (draw ns k many)) :=
  xe_call f_draw (XA.sh h1 (XA.sh (nx h2 q1) (XA.sh (nx h3 q2) XA.nil hst3) hst2) hst) j ⟨(ns, k, many), ⟨hk, hm, hm2⟩, rfl, rfl⟩ hG hr (by decide) hst hpl
end
theorem s79 : Sc [("script", true), ("k", true), ("many", true), ("signs", true), ("size", true), ("at", true), ("letter", true), ("some", true), ("j", true), ("sign", true)] ["script", "k", "many"] ["_law_draw", "range"] (defScope (top 79)) := sc_by (by decide +kernel)
theorem f_names : Fn pg 2 false "_law_names" [] (Ct (fun a : List Int × Nat × Nat => a.2.1 ≤ 9000 ∧ a.2.2 ≤ 10) (fun a => [.sh (.scr a.1), .sh (eN a.2.1), .sh (eN a.2.2)]) fun a => .ow (.lst ((namesF a.1 a.2.1 a.2.2).map D.str))) := by
  refine fn_ct 79 42 rfl s79 (fun _ => rfl) (fun _ _ _ _ _ _ us hl => match us, hl with | [_, _, _], _ => rfl) ?_
  rintro Γ ⟨ns, k, many⟩ ⟨h1, h2⟩
  dsimp only at h1 h2 ⊢
  obtain ⟨d0, e0⟩ : ∃ z, z = draw ns k 12 := ⟨_, rfl⟩
  obtain ⟨d1, e1⟩ : ∃ z, z = draw ns (k + 1) (1 + d0) := ⟨_, rfl⟩
  obtain ⟨d2, e2⟩ : ∃ z, z = draw ns (k + 2) 26 := ⟨_, rfl⟩
  obtain ⟨d3, e3⟩ : ∃ z, z = draw ns (k + 3) 3 := ⟨_, rfl⟩
  obtain ⟨d4, e4⟩ : ∃ z, z = draw ns (k + 4) 26 := ⟨_, rfl⟩
  have l0 : d0 < 12 := by rw [e0]; exact draw_lt ns k (by decide)
  have l1 : d1 < 1 + d0 := by rw [e1]; exact draw_lt ns _ (by omega)
  have l2 : d2 < 26 := by rw [e2]; exact draw_lt ns _ (by decide)
  have l4 : d4 < 26 := by rw [e4]; exact draw_lt ns _ (by decide)
  have hn : namesF ns k many = (List.range many).map fun j => nameF d2 d1 (1 + d0) d3 d4 j := by
    unfold namesF
    rw [e1, e2, e3, e4, e0]
  rw [hn]
  refine xss_cons (xs_set 3 xe_str ?_)
  refine xss_cons (xs_set 4 (nx (n := 1 + d0) (xe_op xe_int (dr (k) (12) 0 (xv 0 rfl) (xv 1 rfl) xe_int (by omega) rfl (by omega) (by omega) (by omega)) o_add) (by rw [e0]; omega)) ?_)
  refine xss_cons (xs_set 5 ((dr (k + 1) (1 + d0) 0 (xv 0 rfl) (xe_op (xv 1 rfl) xe_int o_add) (xv 4 rfl) (by omega) rfl (by omega) (by omega) (by omega)).to (da := eN d1) (by rw [e1])) ?_)
  refine xss_cons (xs_set 6 (xe_ixS (y := lettersS) (xv 3 rfl) ((dr (k + 2) (26) 0 (xv 0 rfl) (xe_op (xv 1 rfl) xe_int o_add) xe_int (by omega) rfl (by omega) (by omega) (by omega)).to (da := eN d2) (by rw [e2])) rfl (letters_get l2) (by decide +kernel)) ?_)
  refine xss_cons (xs_setO 7 (lsO XB.nil) ?_)
  refine xss_mid (fun ρ => ∃ s8 s9, ρ = [.sh (.scr ns), .sh (eN k), .sh (eN many), .sh (.str lettersS), .sh (eN (1 + d0)), .sh (eN d1), .sh (.str ⟨#[97 + d2]⟩), .ow (.lst (((List.range many).map fun j => nameF d2 d1 (1 + d0) d3 d4 j).map D.str)), s8, s9])
    (xs_forR (n := many) 8 (fun j ρ => ∃ s8 s9, ρ = [.sh (.scr ns), .sh (eN k), .sh (eN many), .sh (.str lettersS), .sh (eN (1 + d0)), .sh (eN d1), .sh (.str ⟨#[97 + d2]⟩), .ow (.lst (((List.range j).map fun j => nameF d2 d1 (1 + d0) d3 d4 j).map D.str)), s8, s9]) (xv 2 rfl) (by omega) ⟨_, _, rfl⟩ ?_ ?_ 1 (Bl.range (pg := pg))) ?_
  · rintro j ρ hj ⟨s8, s9, rfl⟩
    have hj : j < many := by omega
    refine xss_one (xs_if (c := decide (d3 = 0)) ((xt_cmp ((dr (k + 3) (3) 0 (xv 0 rfl) (xe_op (xv 1 rfl) xe_int o_add) xe_int (by omega) rfl (by omega) (by omega) (by omega)).to (da := eN d3) (by rw [e3])) xe_int o_eqI).to (decide_eq_decide.mpr (by omega))) (fun q => xss_one ?_) (fun q => ?_))
    · refine xs_append 7 rfl (d := .str (nameF d2 d1 (1 + d0) d3 d4 j)) ((xe_op (xv 6 rfl) (nx (n := j + 1) (xe_op (xv 8 rfl) xe_int o_add) (by omega)) (o_mulS (by omega))).to (congrArg D.str ?_)) ?_ (by simp; omega)
      · unfold nameF
        rw [if_pos (of_decide_eq_true q)]
      · rw [List.range_succ, List.map_append, List.map_append]
        exact ⟨_, _, rfl⟩
    · have q := of_decide_eq_false q
      refine xss_cons (xs_set 9 (xe_ixS (y := lettersS) (j := (d4 + j) % 26) (xv 3 rfl) (xe_op (xe_op ((dr (k + 4) (26) 0 (xv 0 rfl) (xe_op (xv 1 rfl) xe_int o_add) xe_int (by omega) rfl (by omega) (by omega) (by omega)).to (da := eN d4) (by rw [e4])) (xv 8 rfl) o_add) xe_int (o_mod (by decide))) (by omega) (letters_get (Nat.mod_lt _ (by decide))) (by decide +kernel)) ?_)
      refine xss_one (xs_append 7 rfl (d := .str (nameF d2 d1 (1 + d0) d3 d4 j)) ((xe_op (xe_op (xe_op (xv 6 rfl) (xv 5 rfl) (o_mulS (by omega))) (xv 9 rfl) (o_addS ?_)) (xe_op (xv 6 rfl) (nx (n := 1 + d0 - 1 - d1) (xe_op (xe_op (xv 4 rfl) xe_int o_sub) (xv 5 rfl) o_sub) (by omega)) (o_mulS (by omega))) (o_addS ?_)).to (congrArg D.str ?_)) ?_ (by simp; omega))
      · rw [rep1_len]
        show _ + 1 ≤ _
        omega
      · rw [strLen_app, rep1_len, rep1_len]
        show _ + 1 + _ ≤ _
        omega
      · unfold nameF
        rw [if_neg q]
      · rw [List.range_succ, List.map_append, List.map_append]
        exact ⟨_, _, rfl⟩
  · rintro ρ ⟨s8, s9, rfl⟩
    rw [Int.toNat_natCast]
    exact ⟨_, _, rfl⟩
  · rintro ρ ⟨s8, s9, rfl⟩
    exact xss_one (xs_retV 7 rfl rfl)
theorem s80 : Sc [("script", true), ("k", true), ("unit", true), ("named", true), ("least", true), ("crest", true), ("water", true), ("berths", true)] ["script", "k", "unit", "named"] ["_law_draw", "Reach"] (defScope (top 80)) := sc_by (by decide +kernel)
theorem f_reach : Fn pg 3 false "_law_reach" [] (Ct (fun a : List Int × Nat × Int × Str => a.2.1 ≤ 10) (fun a => [.sh (.scr a.1), .sh (eN a.2.1), .sh (.int a.2.2.1), .sh (.str a.2.2.2)]) fun a => .sh (eRch pg (rchM a.1 a.2.1 a.2.2.1 a.2.2.2))) := by
  refine fn_ct 80 43 rfl s80 (fun _ => rfl) (fun _ _ _ _ _ _ us hl => match us, hl with | [_, _, _, _], _ => rfl) ?_
  rintro Γ ⟨ns, k, unit, named⟩ h
  dsimp only at h ⊢
  have l1 := draw_lt ns (10 * k + 1) (many := 4) (by decide)
  have l2 := draw_lt ns (10 * k + 2) (many := 16) (by decide)
  have l4 := draw_lt ns (10 * k + 4) (many := 25) (by decide)
  have l6 := draw_lt ns (10 * k + 6) (many := 4) (by decide)
  have l7 := draw_lt ns (10 * k + 7) (many := k + 1) (by omega)
  refine xss_cons (xs_set 4 (xe_op (dr (10 * k + 1) 4 0 (xv 0 rfl) (xe_op (xe_op xe_int (xv 1 rfl) (o_mul (cmL (by omega)))) xe_int o_add) xe_int (by omega) rfl (by omega) (by omega) (by omega)) (xv 2 rfl) (o_mul (cmN (by omega)))) ?_)
  refine xss_cons (xs_set 5 (xe_op (xe_op (xv 4 rfl) (xe_op (dr (10 * k + 2) 16 0 (xv 0 rfl) (xe_op (xe_op xe_int (xv 1 rfl) (o_mul (cmL (by omega)))) xe_int o_add) xe_int (by omega) rfl (by omega) (by omega) (by omega)) (xv 2 rfl) (o_mul (cmN (by omega)))) o_add) (dr (10 * k + 3) 2 0 (xv 0 rfl) (xe_op (xe_op xe_int (xv 1 rfl) (o_mul (cmL (by omega)))) xe_int o_add) xe_int (by omega) rfl (by omega) (by omega) (by omega)) o_add) ?_)
  refine xss_cons (xs_set 6 (xe_op (xe_op (dr (10 * k + 4) 25 0 (xv 0 rfl) (xe_op (xe_op xe_int (xv 1 rfl) (o_mul (cmL (by omega)))) xe_int o_add) xe_int (by omega) rfl (by omega) (by omega) (by omega)) (xv 2 rfl) (o_mul (cmN (by omega)))) (dr (10 * k + 5) 2 0 (xv 0 rfl) (xe_op (xe_op xe_int (xv 1 rfl) (o_mul (cmL (by omega)))) xe_int o_add) xe_int (by omega) rfl (by omega) (by omega) (by omega)) o_add) ?_)
  refine xss_cons (xs_set 7 (xe_ixL (d := .int ([1, 2, 2, 9] : List Int)[draw ns (10 * k + 6) 4]!) (ls (XB.sh (xe_int) (XB.sh (xe_int) (XB.sh (xe_int) (XB.sh (xe_int) XB.nil))))) (dr (10 * k + 6) 4 0 (xv 0 rfl) (xe_op (xe_op xe_int (xv 1 rfl) (o_mul (cmL (by omega)))) xe_int o_add) xe_int (by omega) rfl (by omega) (by omega) (by omega)) rfl (at_map (f := D.int) (xs := [1, 2, 2, 9]) l6)) ?_)
  refine xss_one (xs_ret (XO.obj (xo_make (Γ := Γ) k_reach (XA.sh ((xv 3 rfl)) (XA.sh ((xv 4 rfl)) (XA.sh ((xv 5 rfl)) (XA.sh ((xv 7 rfl)) (XA.sh ((xv 6 rfl)) (XA.sh ((xe_op (dr (10 * k + 7) (k + 1) 0 (xv 0 rfl) (xe_op (xe_op xe_int (xv 1 rfl) (o_mul (cmL (by omega)))) xe_int o_add) (xe_op (xv 1 rfl) xe_int o_add) (by omega) (by omega) (by omega) (by omega) (by omega)) xe_int o_sub).to (da := .int (eTgt (rchM ns k unit named).target)) (congrArg D.int ?_)) XA.nil)))))) 1 ⟨rchM ns k unit named, trivial, rfl, rfl⟩)) rfl)
  unfold rchM
  dsimp only
  split
  · rename_i q
    rw [q]
    rfl
  · show _ = ((draw ns (10 * k + 7) (k + 1) - 1 : Nat) : Int)
    omega
end Lk
set_option maxHeartbeats 400000
namespace Lk
open PySem PySem.Spec PyProof.Rows L2
variable {pg : Pg} [Lib3 pg]
def eNightO (ws : List (Int × Int)) : OT := .lst (ws.map eWth)
theorem eLck_eq (l : Lck) : eLck pg l = match l.kd with
  | .plain => .obj (ca pg "PlainLock") (lckF l)
  | .basin s => .obj (ca pg "BasinLock") (lckF l ++ [(("side" : Str), D.int s)])
  | .pump s => .obj (ca pg "PumpLock") (lckF l ++ [(("lift" : Str), D.int s)]) := by
  obtain ⟨kd, nm, hi, lo, rm⟩ := l
  cases kd <;> rfl
theorem s81 : Sc [("script", true), ("k", true), ("reaches", true), ("unit", true), ("named", true), ("high", true), ("low", true), ("room", true), ("part", true), ("made", true)] ["script", "k", "reaches", "unit", "named"] ["_law_draw", "BasinLock", "PumpLock", "PlainLock"] (defScope (top 81)) := sc_by (by decide +kernel)
theorem f_lock : Fn pg 4 false "_law_lock" [] (Ct (fun a : List Int × Nat × Nat × Int × Str => a.2.1 ≤ 10 ∧ 2 ≤ a.2.2.1 ∧ a.2.2.1 ≤ 10) (fun a => [.sh (.scr a.1), .sh (eN a.2.1), .sh (eN a.2.2.1), .sh (.int a.2.2.2.1), .sh (.str a.2.2.2.2)]) fun a => .sh (eLck pg (lckM a.1 a.2.1 a.2.2.1 a.2.2.2.1 a.2.2.2.2))) := by
  refine fn_ct 81 44 rfl s81 (fun _ => rfl) (fun _ _ _ _ _ _ us hl => match us, hl with | [_, _, _, _, _], _ => rfl) ?_
  rintro Γ ⟨ns, k, reaches, unit, named⟩ ⟨h, h2, h3⟩
  dsimp only at h h2 h3 ⊢
  obtain ⟨d0, e0⟩ : ∃ z, z = draw ns (100 + 9 * k) (reaches - 1) := ⟨_, rfl⟩
  obtain ⟨d1, e1⟩ : ∃ z, z = draw ns (101 + 9 * k) (1 + d0) := ⟨_, rfl⟩
  have l0 : d0 < reaches - 1 := by rw [e0]; exact draw_lt ns _ (by omega)
  have l4 := draw_lt ns (104 + 9 * k) (many := 4) (by decide)
  have l2 := draw_lt ns (102 + 9 * k) (many := 4) (by decide)
  refine xss_cons (xs_set 5 (nx (n := 1 + d0) (xe_op xe_int (dr (100 + 9 * k) (reaches - 1) 0 (xv 0 rfl) (xe_op xe_int (xe_op xe_int (xv 1 rfl) (o_mul (cmL (by omega)))) o_add) (xe_op (xv 2 rfl) xe_int o_sub) (by omega) (by omega) (by omega) (by omega) (by omega)) o_add) (by rw [e0]; omega)) ?_)
  refine xss_cons (xs_set 6 ((dr (101 + 9 * k) (1 + d0) 0 (xv 0 rfl) (xe_op xe_int (xe_op xe_int (xv 1 rfl) (o_mul (cmL (by omega)))) o_add) (xv 5 rfl) (by omega) rfl (by omega) (by omega) (by omega)).to (da := eN d1) (by rw [e1])) ?_)
  refine xss_cons (xs_set 7 ((xe_op (xe_op (xe_op xe_int (dr (102 + 9 * k) 4 0 (xv 0 rfl) (xe_op xe_int (xe_op xe_int (xv 1 rfl) (o_mul (cmL (by omega)))) o_add) xe_int (by omega) rfl (by omega) (by omega) (by omega)) o_add) (xv 3 rfl) (o_mul (cmL (by omega)))) (dr (103 + 9 * k) 2 0 (xv 0 rfl) (xe_op xe_int (xe_op xe_int (xv 1 rfl) (o_mul (cmL (by omega)))) o_add) xe_int (by omega) rfl (by omega) (by omega) (by omega)) o_add).to (da := .int (roomM ns k unit)) rfl) ?_)
  refine xss_cons (xs_set 8 (xe_ixL (d := .int (partM ns k unit)) (ls (XB.sh (xe_int) (XB.sh ((xv 7 rfl)) (XB.sh (xe_op xe_int (xe_op (xv 7 rfl) xe_int (o_fdiv ⟨by decide, by decide⟩)) o_add) (XB.sh (xe_op (xv 7 rfl) (xe_op (xv 7 rfl) xe_int (o_fdiv ⟨by decide, by decide⟩)) o_sub) XB.nil))))) (dr (104 + 9 * k) 4 0 (xv 0 rfl) (xe_op xe_int (xe_op xe_int (xv 1 rfl) (o_mul (cmL (by omega)))) o_add) xe_int (by omega) rfl (by omega) (by omega) (by omega)) rfl (at_map (f := D.int) (xs := [1, roomM ns k unit, 1 + roomM ns k unit / 2, roomM ns k unit - roomM ns k unit / 3]) l4)) ?_)
  refine xss_cons (xs_set 9 (dr (105 + 9 * k) 3 0 (xv 0 rfl) (xe_op xe_int (xe_op xe_int (xv 1 rfl) (o_mul (cmL (by omega)))) o_add) xe_int (by omega) rfl (by omega) (by omega) (by omega)) ?_)
  have hl : lckM ns k reaches unit named = ⟨if draw ns (105 + 9 * k) 3 = 1 then .basin (partM ns k unit) else if draw ns (105 + 9 * k) 3 = 2 then .pump (partM ns k unit) else .plain, named, 1 + d0, d1, roomM ns k unit⟩ := by rw [e1, e0]; rfl
  refine xss_cons (xs_if (xt_cmp (xv 9 rfl) xe_int o_eqI) (fun q => xss_one ?_) (fun q => xss_nil ?_))
  · have q := of_decide_eq_true q
    rw [hl, if_pos (by omega)]
    exact xs_ret (XO.obj (xo_make (Γ := Γ) k_basin (XA.sh ((xv 4 rfl)) (XA.sh ((xv 5 rfl)) (XA.sh ((xv 6 rfl)) (XA.sh ((xv 7 rfl)) (XA.sh ((xv 8 rfl)) XA.nil))))) 1 ⟨(⟨.plain, named, 1 + d0, d1, roomM ns k unit⟩, partM ns k unit), trivial, rfl, rfl⟩)) rfl
  have q := of_decide_eq_false q
  refine xss_cons (xs_if (xt_cmp (xv 9 rfl) xe_int o_eqI) (fun q2 => xss_one ?_) (fun q2 => xss_nil (xss_one ?_)))
  · have q2 := of_decide_eq_true q2
    rw [hl, if_neg (by omega), if_pos (by omega)]
    exact xs_ret (XO.obj (xo_make (Γ := Γ) k_pump (XA.sh ((xv 4 rfl)) (XA.sh ((xv 5 rfl)) (XA.sh ((xv 6 rfl)) (XA.sh ((xv 7 rfl)) (XA.sh ((xv 8 rfl)) XA.nil))))) 2 ⟨(⟨.plain, named, 1 + d0, d1, roomM ns k unit⟩, partM ns k unit), trivial, rfl, rfl⟩)) rfl
  · have q2 := of_decide_eq_false q2
    rw [hl, if_neg (by omega), if_neg (by omega)]
    exact xs_ret (XO.obj (xo_make (Γ := Γ) k_plain (XA.sh ((xv 4 rfl)) (XA.sh ((xv 5 rfl)) (XA.sh ((xv 6 rfl)) (XA.sh ((xv 7 rfl)) XA.nil)))) 3 ⟨⟨.plain, named, 1 + d0, d1, roomM ns k unit⟩, trivial, rfl, rfl⟩)) rfl
theorem s82 : Sc [("script", true), ("k", true), ("reaches", true), ("unit", true), ("some", true), ("r", true), ("comes", true)] ["script", "k", "reaches", "unit"] ["range", "_law_draw"] (defScope (top 82)) := sc_by (by decide +kernel)
theorem f_weather : Fn pg 2 false "_law_weather" [] (Ct (fun a : List Int × Nat × Nat × Int => a.2.1 ≤ 10 ∧ a.2.2.1 ≤ 10) (fun a => [.sh (.scr a.1), .sh (eN a.2.1), .sh (eN a.2.2.1), .sh (.int a.2.2.2)]) fun a => .ow (eNightO (weatherM a.1 a.2.1 a.2.2.1 a.2.2.2))) := by
  refine fn_ct 82 45 rfl s82 (fun _ => rfl) (fun _ _ _ _ _ _ us hl => match us, hl with | [_, _, _, _], _ => rfl) ?_
  rintro Γ ⟨ns, k, reaches, unit⟩ ⟨h, h2⟩
  dsimp only at h h2 ⊢
  refine xss_cons (xs_setO 4 (lsO XB.nil) ?_)
  refine xss_mid (fun ρ => ∃ s5 s6, ρ = [.sh (.scr ns), .sh (eN k), .sh (eN reaches), .sh (.int unit), .ow (eNightO (weatherM ns k reaches unit)), s5, s6])
    (xs_forR (n := reaches) 5 (fun j ρ => ∃ s5 s6, ρ = [.sh (.scr ns), .sh (eN k), .sh (eN reaches), .sh (.int unit), .ow (eNightO (weatherM ns k j unit)), s5, s6]) (xv 2 rfl) (by omega) ⟨_, _, rfl⟩ ?_ ?_ 0 (Bl.range (pg := pg))) ?_
  · rintro r ρ hr ⟨s5, s6, rfl⟩
    have hr : r < reaches := by omega
    have l1 := draw_lt ns (200 + 17 * k + 2 * r) (many := 4) (by decide)
    have l2 := draw_lt ns (201 + 17 * k + 2 * r) (many := 4) (by decide)
    refine xss_cons (xs_set 6 (xe_op (dr (200 + 17 * k + 2 * r) 4 1 (xv 0 rfl) (xe_op (xe_op xe_int (xe_op xe_int (xv 1 rfl) (o_mul (cmL (by omega)))) o_add) (xe_op xe_int (xv 5 rfl) (o_mul (cmL (by omega)))) o_add) xe_int (by omega) rfl (by omega) (by omega) (by omega)) (xv 3 rfl) (o_mul (cmN (by omega)))) ?_)
    refine xss_one (xs_append 4 rfl (d := eWth (draw ns (200 + 17 * k + 2 * r) 4 * unit, draw ns (201 + 17 * k + 2 * r) 4 * unit / 2)) (tup (XB.sh ((xv 6 rfl)) (XB.sh (xe_op (xe_op (dr (201 + 17 * k + 2 * r) 4 1 (xv 0 rfl) (xe_op (xe_op xe_int (xe_op xe_int (xv 1 rfl) (o_mul (cmL (by omega)))) o_add) (xe_op xe_int (xv 5 rfl) (o_mul (cmL (by omega)))) o_add) xe_int (by omega) rfl (by omega) (by omega) (by omega)) (xv 3 rfl) (o_mul (cmN (by omega)))) xe_int (o_fdiv ⟨by decide, by decide⟩)) XB.nil))) ?_ (by unfold weatherM; simp; omega))
    show ∃ s5 s6, _
    unfold eNightO weatherM
    rw [List.range_succ, List.map_append, List.map_append]
    exact ⟨_, _, rfl⟩
  · rintro ρ ⟨s5, s6, rfl⟩
    rw [Int.toNat_natCast]
    exact ⟨_, _, rfl⟩
  · rintro ρ ⟨s5, s6, rfl⟩
    exact xss_one (xs_retV 4 rfl rfl)
end Lk
set_option maxHeartbeats 400000
namespace Lk
open PySem PySem.Spec PyProof.Rows L2
def turnsK (c : Cnl) (r : Nat) : Nat → List (Nat × Bool)
  | 0 => []
  | k + 1 => turnsK c r k ++ (if (c.locks[k]!).low = r then [(k, true)] else []) ++ (if (c.locks[k]!).high = r then [(k, false)] else [])
def turnsM (c : Cnl) (r : Nat) : List (Nat × Bool) := turnsK c r c.nl
theorem turnsK_len (c : Cnl) (r : Nat) : ∀ k, (turnsK c r k).length ≤ 2 * k
  | 0 => Nat.le_refl _
  | k + 1 => by
    have := turnsK_len c r k
    unfold turnsK
    rw [List.length_append, List.length_append]
    split <;> split <;> simp <;> omega
theorem turnsK_mem {c : Cnl} {r : Nat} {s : Nat × Bool} : ∀ {k}, s ∈ turnsK c r k → s.1 < k ∧ fromOf c s = r
  | 0, h => by cases h
  | k + 1, h => by
    unfold turnsK at h
    rcases List.mem_append.mp h with h | h
    · rcases List.mem_append.mp h with h | h
      · have := turnsK_mem h
        exact ⟨by omega, this.2⟩
      · split at h
        · rename_i q
          rw [List.mem_singleton.mp h]
          exact ⟨Nat.lt_succ_self _, q⟩
        · cases h
    · split at h
      · rename_i q
        rw [List.mem_singleton.mp h]
        exact ⟨Nat.lt_succ_self _, q⟩
      · cases h
theorem turnsK_pos {c : Cnl} {r k : Nat} (hr : (c.locks[k]!).low = r ∨ (c.locks[k]!).high = r) : ∀ {n}, k < n → 0 < (turnsK c r n).length
  | 0, h => by omega
  | n + 1, h => by
    unfold turnsK
    rw [List.length_append, List.length_append]
    by_cases q : k = n
    · subst q
      rcases hr with hr | hr
      · rw [if_pos hr]
        simp
        omega
      · rw [if_pos hr]
        simp
    · have := turnsK_pos hr (n := n) (by omega)
      omega
/-- a reach at which a lock ends -/
def EndOf (c : Cnl) (r : Nat) : Prop := ∃ k, k < c.nl ∧ ((c.locks[k]!).low = r ∨ (c.locks[k]!).high = r)
theorem EndOf.to {c : Cnl} {s : Nat × Bool} (h : s.1 < c.nl) : EndOf c (toOf c s) := by
  refine ⟨s.1, h, ?_⟩
  unfold toOf
  cases s.2
  · exact .inl rfl
  · exact .inr rfl
def wayK (ns : List Int) (k : Nat) (c : Cnl) (at0 : Nat) : Nat → List (Nat × Bool) × Nat
  | 0 => ([], at0)
  | j + 1 => let p := wayK ns k c at0 j; let s := (turnsM c p.2)[draw ns (303 + 11 * k + j) (turnsM c p.2).length]!; (p.1 ++ [s], toOf c s)
def at0M (ns : List Int) (k : Nat) (c : Cnl) : Nat := ([(c.locks[draw ns (300 + 11 * k) c.nl]!).low, (c.locks[draw ns (300 + 11 * k) c.nl]!).high] : List Nat)[draw ns (301 + 11 * k) 2]!
def wayM (ns : List Int) (k : Nat) (c : Cnl) (most : Nat) : Wy := (at0M ns k c, (wayK ns k c (at0M ns k c) (1 + draw ns (302 + 11 * k) most)).1)
theorem at0_end {ns : List Int} {k : Nat} {c : Cnl} (h : 1 ≤ c.nl) : EndOf c (at0M ns k c) := by
  have l0 := draw_lt ns (300 + 11 * k) (many := c.nl) (by omega)
  have l1 := draw_lt ns (301 + 11 * k) (many := 2) (by decide)
  refine ⟨_, l0, ?_⟩
  unfold at0M
  rcases (by omega : draw ns (301 + 11 * k) 2 = 0 ∨ draw ns (301 + 11 * k) 2 = 1) with q | q
  · rw [q]; exact .inl rfl
  · rw [q]; exact .inr rfl
theorem wayK_ok {ns : List Int} {k : Nat} {c : Cnl} {at0 : Nat} (h0 : EndOf c at0) : ∀ j, EndOf c (wayK ns k c at0 j).2 ∧ (wayK ns k c at0 j).1.length = j ∧ (∀ s ∈ (wayK ns k c at0 j).1, s.1 < c.nl) ∧ (wayK ns k c at0 j).2 = atOf c (at0, (wayK ns k c at0 j).1) j ∧
    ∀ i, i < j → fromOf c ((wayK ns k c at0 j).1[i]!) = atOf c (at0, (wayK ns k c at0 j).1) i
  | 0 => ⟨h0, rfl, fun _ h => (nomatch h), rfl, fun i h => by omega⟩
  | j + 1 => by
    obtain ⟨⟨l, hl, hle⟩, h2, h3, h4, h5⟩ := wayK_ok (ns := ns) (k := k) h0 j
    obtain ⟨p, ep⟩ : ∃ p, p = wayK ns k c at0 j := ⟨_, rfl⟩
    rw [← ep] at hle h2 h3 h4 h5
    have hpos : 0 < (turnsM c p.2).length := turnsK_pos hle hl
    obtain ⟨s, es⟩ : ∃ s, s = (turnsM c p.2)[draw ns (303 + 11 * k + j) (turnsM c p.2).length]! := ⟨_, rfl⟩
    have hs : s ∈ turnsM c p.2 := by rw [es]; exact mem_get (draw_lt ns _ hpos)
    obtain ⟨s1, s2⟩ := turnsK_mem hs
    have e : wayK ns k c at0 (j + 1) = (p.1 ++ [s], toOf c s) := by rw [es, ep]; rfl
    rw [e]
    have g : ∀ i, i < j → (p.1 ++ [s])[i]! = p.1[i]! := fun i hi => by
      rw [getElem!_pos _ i (by rw [List.length_append]; omega), getElem!_pos _ i (by omega), List.getElem_append_left (by omega)]
    have gj : (p.1 ++ [s])[j]! = s := by
      rw [getElem!_pos _ j (by rw [List.length_append, h2]; simp), List.getElem_append_right (by omega)]
      simp [h2]
    have ga : ∀ i, i ≤ j → atOf c (at0, p.1 ++ [s]) i = atOf c (at0, p.1) i := fun i hi => by
      cases i with
      | zero => rfl
      | succ i => show toOf c ((p.1 ++ [s])[i]!) = toOf c (p.1[i]!); rw [g i (by omega)]
    refine ⟨EndOf.to s1, by rw [List.length_append, h2]; rfl, fun t ht => ?_, ?_, fun i hi => ?_⟩
    · rcases List.mem_append.mp ht with q | q
      · exact h3 t q
      · rw [List.mem_singleton.mp q]; exact s1
    · show toOf c s = toOf c ((p.1 ++ [s])[j]!)
      rw [gj]
    · dsimp only
      by_cases q : i = j
      · subst q
        rw [gj, s2, ga i (Nat.le_refl _), h4]
      · rw [g i (by omega), ga i (by omega)]
        exact h5 i (by omega)
theorem wayM_ok {ns : List Int} {k : Nat} {c : Cnl} {most : Nat} (W : CW c) (h : 1 ≤ most) (h2 : most ≤ 50) : WyOk c (wayM ns k c most) := by
  have hd := draw_lt ns (302 + 11 * k) (many := most) (by omega)
  have he := at0_end (ns := ns) (k := k) W.l1
  obtain ⟨_, k2, k3, _, k5⟩ := wayK_ok (ns := ns) (k := k) he (1 + draw ns (302 + 11 * k) most)
  refine ⟨?_, k3, fun i hi => ?_, ?_, ?_⟩
  · obtain ⟨l, hl, q⟩ := he
    have hm : c.locks[l]! ∈ c.locks := mem_get hl
    have := W.lk _ hm
    show at0M ns k c < _
    omega
  · have hi : i < (wayK ns k c (at0M ns k c) (1 + draw ns (302 + 11 * k) most)).1.length := hi
    rw [k2] at hi
    exact k5 i hi
  · show 1 ≤ (wayK ns k c (at0M ns k c) (1 + draw ns (302 + 11 * k) most)).1.length
    omega
  · show (wayK ns k c (at0M ns k c) (1 + draw ns (302 + 11 * k) most)).1.length ≤ 100
    omega
variable {pg : Pg} [Lib3 pg]
theorem s83 : Sc [("script", true), ("most_reaches", true), ("most_locks", true), ("most_nights", true), ("unit", true), ("many", true), ("locks", true), ("called", true), ("named", true), ("nights", true), ("reaches", true), ("k", false)] ["script", "most_reaches", "most_locks", "most_nights"] ["_law_unit", "_law_draw", "_law_names", "int", "range", "Canal"] (defScope (top 83)) := sc_by (by decide +kernel)
theorem f_canal : Fn pg 5 false "_law_canal" [] (Ct (fun _ : List Int => True) (fun ns => [.sh (.scr ns), .sh (.int 4), .sh (.int 2), .sh (.int 1)]) fun ns => .sh (eCnl pg (canalM ns))) := by
  refine fn_ct 83 46 rfl s83 (fun _ => rfl) (fun _ _ _ _ _ _ us hl => match us, hl with | [_, _, _, _], _ => rfl) ?_
  rintro Γ ns -
  have hm := manyM_le ns
  have hl := locksM_le ns
  have hnl := namedM_len ns
  have h92 := draw_lt ns 92 (many := 2) (by decide)
  refine xss_cons (xs_set 4 (xe_call f_unit (XA.sh ((xv 0 rfl)) XA.nil) 0 ⟨ns, trivial, rfl, rfl⟩) ?_)
  refine xss_cons (xs_set 5 (nx (n := manyM ns) (xe_op xe_int (dr 90 3 1 (xv 0 rfl) xe_int (xe_op (xv 1 rfl) xe_int o_sub) rfl rfl (by omega) (by omega) (by omega)) o_add) (by unfold manyM; omega)) ?_)
  refine xss_cons (xs_set 6 (nx (n := locksM ns) (xe_op xe_int (dr 91 2 1 (xv 0 rfl) xe_int (xv 2 rfl) rfl rfl (by omega) (by omega) (by omega)) o_add) (by unfold locksM; omega)) ?_)
  refine xss_cons (xs_set 7 (XO.lst (xo_call f_names (XA.sh ((xv 0 rfl)) (XA.sh (nx (n := 1000) xe_int rfl) (XA.sh ((xv 5 rfl)) XA.nil))) 2 ⟨(ns, 1000, manyM ns), ⟨by dsimp only; omega, by dsimp only; omega⟩, rfl, rfl⟩)) ?_)
  refine xss_cons (xs_set 8 ((pick2 (ls (XB.sh (XO.lst (xo_call f_names (XA.sh ((xv 0 rfl)) (XA.sh (nx (n := 1010) xe_int rfl) (XA.sh ((xv 6 rfl)) XA.nil))) 2 ⟨(ns, 1010, locksM ns), ⟨by dsimp only; omega, by dsimp only; omega⟩, rfl, rfl⟩)) (XB.sh ((xv 7 rfl)) XB.nil))) (xe_intB (xe_and (xe_cmp (xv 6 rfl) (xv 5 rfl) o_le) (fun _ => xe_cmp (dr 1015 3 1 (xv 0 rfl) xe_int xe_int rfl rfl (by omega) (by omega) (by omega)) xe_int o_eqI)) 3)).to (da := .lst ((namedM ns).map D.str)) ?_) ?_)
  · unfold namedM
    by_cases q : locksM ns ≤ manyM ns ∧ draw ns 1015 3 = 0
    · rw [if_pos q, decide_eq_true (by omega), decide_eq_true (by omega)]
      rfl
    · rw [if_neg q]
      have : (decide ((locksM ns : Int) ≤ (manyM ns : Nat)) && decide (((draw ns 1015 3 : Nat) : Int) = 0)) = false := by
        rw [Bool.and_eq_false_iff, decide_eq_false_iff_not, decide_eq_false_iff_not]
        omega
      rw [this]
      rfl
  refine xss_cons (xs_setLc 9 (lc_m (zs := List.range (draw ns 92 2)) (f := eN) (g := fun k => eNight (weatherM ns k (manyM ns) (unitF ns))) 11 [("script", true), ("most_reaches", false), ("most_locks", false), ("most_nights", false), ("unit", true), ("many", true), ("locks", false), ("called", false), ("named", false), ("nights", false), ("reaches", false), ("k", true)] ["_law_weather"] (by decide +kernel) (XE.itR (dr 92 2 1 (xv 0 rfl) xe_int (xe_op (xv 3 rfl) xe_int o_add) rfl rfl (by omega) (by omega) (by omega)) (by omega) 4 (Bl.range (pg := pg))) (by rw [List.length_range]; omega) (fun sc' Γ' k hk => XO.lst (xo_call f_weather (XA.sh ((xv 0 rfl)) (XA.sh ((xv 11 rfl)) (XA.sh ((xv 5 rfl)) (XA.sh ((xv 4 rfl)) XA.nil)))) 0 ⟨(ns, k, manyM ns, unitF ns), ⟨by have := List.mem_range.mp hk; dsimp only; omega, by dsimp only; omega⟩, rfl, rfl⟩))) ?_ (by decide +kernel))
  refine xss_freeze 9 rfl ?_
  refine xss_cons (xs_setLc 10 (lc_m (zs := List.range (manyM ns)) (f := eN) (g := fun k => eRch pg (rchM ns k (unitF ns) (namesF ns 1000 (manyM ns))[k]!)) 11 [("script", true), ("most_reaches", false), ("most_locks", false), ("most_nights", false), ("unit", true), ("many", false), ("locks", false), ("called", true), ("named", false), ("nights", false), ("reaches", false), ("k", true)] ["_law_reach"] (by decide +kernel) (XE.itR (xv 5 rfl) (by omega) 4 (Bl.range (pg := pg))) (by rw [List.length_range]; omega) (fun sc' Γ' k hk => xe_call f_reach (XA.sh ((xv 0 rfl)) (XA.sh ((xv 11 rfl)) (XA.sh ((xv 4 rfl)) (XA.sh (xe_ixL (xv 7 rfl) (xv 11 rfl) rfl (at_map (f := D.str) (by rw [namesF_len]; exact List.mem_range.mp hk))) XA.nil)))) 0 ⟨(ns, k, unitF ns, (namesF ns 1000 (manyM ns))[k]!), by have := List.mem_range.mp hk; dsimp only; omega, rfl, rfl⟩)) ?_ (by decide +kernel))
  refine xss_freeze 10 rfl ?_
  refine xss_one (xs_ret (XO.obj (fs := cnlF pg (canalM ns)) (xo_make (Γ := Γ) k_canal (XA.sh (XE.to (da := .lst ((canalM ns).reaches.map (eRch pg))) (xv 10 rfl) (congrArg D.lst (List.map_map (g := eRch pg) (f := fun k => rchM ns k (unitF ns) (namesF ns 1000 (manyM ns))[k]!)).symm)) (XA.sh (XE.to (da := .lst ((canalM ns).locks.map (eLck pg))) (XO.lst (lc_m (zs := List.range (locksM ns)) (f := eN) (g := fun k => eLck pg (lckM ns k (manyM ns) (unitF ns) (namedM ns)[k]!)) 11 [("script", true), ("most_reaches", false), ("most_locks", false), ("most_nights", false), ("unit", true), ("many", true), ("locks", false), ("called", false), ("named", true), ("nights", false), ("reaches", false), ("k", true)] ["_law_lock"] (by decide +kernel) (XE.itR (xv 6 rfl) (by omega) 4 (Bl.range (pg := pg))) (by rw [List.length_range]; omega) (fun sc' Γ' k hk => xe_call f_lock (XA.sh ((xv 0 rfl)) (XA.sh ((xv 11 rfl)) (XA.sh ((xv 5 rfl)) (XA.sh ((xv 4 rfl)) (XA.sh (xe_ixL (xv 8 rfl) (xv 11 rfl) rfl (at_map (f := D.str) (by have := List.mem_range.mp hk; omega))) XA.nil))))) 0 ⟨(ns, k, manyM ns, unitF ns, (namedM ns)[k]!), ⟨by have := List.mem_range.mp hk; dsimp only; omega, by dsimp only; omega, by dsimp only; omega⟩, rfl, rfl⟩)).xo) (congrArg D.lst (List.map_map (g := eLck pg) (f := fun k => lckM ns k (manyM ns) (unitF ns) (namedM ns)[k]!)).symm)) (XA.sh (XE.to (da := .lst ((canalM ns).nights.map eNight)) (xv 9 rfl) (congrArg D.lst (List.map_map (g := eNight) (f := fun k => weatherM ns k (manyM ns) (unitF ns))).symm)) XA.nil))) 5 ⟨canalM ns, by show ((List.range (draw ns 92 2)).map _).length ≤ _; rw [List.length_map, List.length_range]; omega, rfl, rfl⟩)) rfl)
end Lk
set_option maxHeartbeats 400000
namespace Lk
open PySem PySem.Spec PyProof.Rows L2
variable {pg : Pg} [Lib3 pg]
theorem s84 : Sc [("canal", true), ("reach", true), ("some", true), ("k", true)] ["canal", "reach"] ["range", "len"] (defScope (top 84)) := sc_by (by decide +kernel)
theorem f_turns : Fn pg 1 false "_law_turns" [] (Ct (fun a : Cnl × Nat => a.1.nl ≤ 10) (fun a => [.sh (eCnl pg a.1), .sh (eN a.2)]) fun a => .ow (.lst ((turnsM a.1 a.2).map eStep))) := by
  refine fn_ct 84 47 rfl s84 (fun _ => rfl) (fun _ _ _ _ _ _ us hl => match us, hl with | [_, _], _ => rfl) ?_
  rintro Γ ⟨c, r⟩ h
  have h : c.locks.length ≤ 10 := h
  refine xss_cons (xs_setO 2 (lsO XB.nil) ?_)
  refine xss_mid (fun ρ => ∃ s3, ρ = [.sh (eCnl pg c), .sh (eN r), .ow (.lst ((turnsM c r).map eStep)), s3])
    (xs_forR (n := (c.locks.length : Nat)) 3 (fun k ρ => ∃ s3, ρ = [.sh (eCnl pg c), .sh (eN r), .ow (.lst ((turnsK c r k).map eStep)), s3]) ((xe_lenL (f_locks (xv 0 rfl)) 1).to (by rw [List.length_map])) (by omega) ⟨_, rfl⟩ ?_ ?_ 0 (Bl.range (pg := pg))) ?_
  · rintro k ρ hk ⟨s3, rfl⟩
    have hk : k < c.locks.length := by omega
    have hle := turnsK_len c r k
    refine xss_mid (fun ρ => ρ = [.sh (eCnl pg c), .sh (eN r), .ow (.lst ((turnsK c r k ++ (if (c.locks[k]!).low = r then [(k, true)] else [])).map eStep)), .sh (eN k)])
      (xs_if (c := decide ((c.locks[k]!).low = r)) ((xt_cmp (f_low (xe_ixL (f_locks (xv 0 rfl)) (xv 3 rfl) rfl (at_map hk))) (xv 1 rfl) o_eqI).to (decide_eq_decide.mpr (by omega))) (fun q => xss_one (xs_append 2 rfl (d := eStep (k, true)) (tup (XB.sh ((xv 3 rfl)) (XB.sh (xe_str) XB.nil))) ?_ (by rw [List.length_map]; omega))) (fun q => xss_nil ?_)) ?_
    · rw [if_pos (of_decide_eq_true q), List.map_append]
      rfl
    · rw [if_neg (of_decide_eq_false q), List.append_nil]
      rfl
    rintro _ rfl
    refine xss_one (xs_if (c := decide ((c.locks[k]!).high = r)) ((xt_cmp (f_high (xe_ixL (f_locks (xv 0 rfl)) (xv 3 rfl) rfl (at_map hk))) (xv 1 rfl) o_eqI).to (decide_eq_decide.mpr (by omega))) (fun q => xss_one (xs_append 2 rfl (d := eStep (k, false)) (tup (XB.sh ((xv 3 rfl)) (XB.sh (xe_str) XB.nil))) ?_ (by rw [List.length_map, List.length_append]; split <;> simp <;> omega))) (fun q => xss_nil ?_))
    · refine ⟨.sh (eN k), ?_⟩
      show _ = [_, _, Sl.ow (.lst (List.map eStep (_ ++ _ ++ _))), _]
      rw [if_pos (c := (c.locks[k]!).high = r) (of_decide_eq_true q), List.map_append (l₂ := [(k, false)])]
      rfl
    · refine ⟨.sh (eN k), ?_⟩
      show _ = [_, _, Sl.ow (.lst (List.map eStep (_ ++ _ ++ _))), _]
      rw [if_neg (c := (c.locks[k]!).high = r) (of_decide_eq_false q), List.append_nil]
  · rintro ρ ⟨s3, rfl⟩
    rw [Int.toNat_natCast]
    exact ⟨_, rfl⟩
  · rintro ρ ⟨s3, rfl⟩
    exact xss_one (xs_retV 2 rfl rfl)
theorem s85 : Sc [("script", true), ("k", true), ("canal", true), ("most", true), ("lock", true), ("at", true), ("start", true), ("steps", true), ("j", true), ("some", true), ("step", true)] ["script", "k", "canal", "most"] ["_law_draw", "len", "range", "_law_turns", "int", "tuple"] (defScope (top 85)) := sc_by (by decide +kernel)
theorem f_law_way : Fn pg 2 false "_law_way" [] (Ct (fun a : List Int × Nat × Cnl × Nat => a.2.1 ≤ 10 ∧ CW a.2.2.1 ∧ 1 ≤ a.2.2.2 ∧ a.2.2.2 ≤ 50) (fun a => [.sh (.scr a.1), .sh (eN a.2.1), .sh (eCnl pg a.2.2.1), .sh (eN a.2.2.2)]) fun a => .sh (eWy (wayM a.1 a.2.1 a.2.2.1 a.2.2.2))) := by
  refine fn_ct 85 48 rfl s85 (fun _ => rfl) (fun _ _ _ _ _ _ us hl => match us, hl with | [_, _, _, _], _ => rfl) ?_
  rintro Γ ⟨ns, k, c, most⟩ ⟨h, W, m1, m2⟩
  dsimp only at h W m1 m2 ⊢
  have hl1 : 1 ≤ c.locks.length := W.l1
  have hlm : c.locks.length ≤ 10 := W.lm
  have l0 := draw_lt ns (300 + 11 * k) (many := c.nl) W.l1
  have l1 := draw_lt ns (301 + 11 * k) (many := 2) (by decide)
  have l2 := draw_lt ns (302 + 11 * k) (many := most) (by omega)
  have he := at0_end (ns := ns) (k := k) W.l1
  refine xss_cons (xs_set 4 (xe_ixL (f_locks (xv 2 rfl)) (dr (300 + 11 * k) c.nl 0 (xv 0 rfl) (xe_op xe_int (xe_op xe_int (xv 1 rfl) (o_mul (cmL (by omega)))) o_add) (xe_lenL (f_locks (xv 2 rfl)) 1) (by omega) (by rw [List.length_map]) (by omega) W.l1 (by have := W.lm; omega)) rfl (at_map l0)) ?_)
  refine xss_cons (xs_set 5 (xe_ixL (d := eN (at0M ns k c)) (ls (XB.sh (f_low (xv 4 rfl)) (XB.sh (f_high (xv 4 rfl)) XB.nil))) (dr (301 + 11 * k) 2 0 (xv 0 rfl) (xe_op xe_int (xe_op xe_int (xv 1 rfl) (o_mul (cmL (by omega)))) o_add) xe_int (by omega) rfl (by omega) (by omega) (by omega)) rfl (at_map (f := eN) (xs := [(c.locks[draw ns (300 + 11 * k) c.nl]!).low, (c.locks[draw ns (300 + 11 * k) c.nl]!).high]) l1)) ?_)
  refine xss_cons (xs_set 6 (xv 5 rfl) ?_)
  refine xss_cons (xs_setO 7 (lsO XB.nil) ?_)
  obtain ⟨nn, en⟩ : ∃ nn, nn = 1 + draw ns (302 + 11 * k) most := ⟨_, rfl⟩
  refine xss_mid (fun ρ => ∃ s4 s5 s8 s9 s10, ρ = [.sh (.scr ns), .sh (eN k), .sh (eCnl pg c), .sh (eN most), s4, s5, .sh (eN (at0M ns k c)), .ow (.lst ((wayK ns k c (at0M ns k c) nn).1.map eStep)), s8, s9, s10])
    (xs_forR (n := nn) 8 (fun j ρ => ∃ s4 s8 s9 s10, ρ = [.sh (.scr ns), .sh (eN k), .sh (eCnl pg c), .sh (eN most), s4, .sh (eN (wayK ns k c (at0M ns k c) j).2), .sh (eN (at0M ns k c)), .ow (.lst ((wayK ns k c (at0M ns k c) j).1.map eStep)), s8, s9, s10]) (nx (n := nn) (xe_op xe_int (dr (302 + 11 * k) most 0 (xv 0 rfl) (xe_op xe_int (xe_op xe_int (xv 1 rfl) (o_mul (cmL (by omega)))) o_add) (xv 3 rfl) (by omega) rfl (by omega) (by omega) (by omega)) o_add) (by rw [en]; omega)) (by omega) ⟨_, _, _, _, rfl⟩ ?_ ?_ 2 (Bl.range (pg := pg))) ?_
  · rintro j ρ hj ⟨s4, s8, s9, s10, rfl⟩
    have hj : j < nn := by omega
    obtain ⟨⟨l, hl, hle⟩, w2, w3, _, _⟩ := wayK_ok (ns := ns) (k := k) he j
    obtain ⟨p, ep⟩ : ∃ p, p = wayK ns k c (at0M ns k c) j := ⟨_, rfl⟩
    rw [← ep] at hle w2 w3 ⊢
    have hpos : 0 < (turnsM c p.2).length := turnsK_pos hle hl
    have hmax := turnsK_len c p.2 c.locks.length
    have hmax : (turnsM c p.2).length ≤ 2 * c.locks.length := hmax
    obtain ⟨dd, ed⟩ : ∃ dd, dd = draw ns (303 + 11 * k + j) (turnsM c p.2).length := ⟨_, rfl⟩
    have hd : dd < (turnsM c p.2).length := by rw [ed]; exact draw_lt ns _ hpos
    obtain ⟨s, es⟩ : ∃ s, s = (turnsM c p.2)[dd]! := ⟨_, rfl⟩
    have hs : s ∈ turnsM c p.2 := by rw [es]; exact mem_get hd
    have hk : s.1 < c.locks.length := (turnsK_mem hs).1
    have e : wayK ns k c (at0M ns k c) (j + 1) = (p.1 ++ [s], toOf c s) := by rw [es, ed, ep]; rfl
    rw [e]
    refine xss_cons (xs_set 9 (XO.lst (xo_call f_turns (XA.sh ((xv 2 rfl)) (XA.sh ((xv 5 rfl)) XA.nil)) 3 ⟨(c, p.2), W.lm, rfl, rfl⟩)) ?_)
    refine xss_cons (xs_set 10 ((xe_ixL (xv 9 rfl) (dr (303 + 11 * k + j) (turnsM c p.2).length 0 (xv 0 rfl) (xe_op (xe_op xe_int (xe_op xe_int (xv 1 rfl) (o_mul (cmL (by omega)))) o_add) (xv 8 rfl) o_add) (xe_lenL (xv 9 rfl) 1) (by omega) (by rw [List.length_map]) (by omega) (by omega) (by omega)) rfl (at_map (f := eStep) (by rw [← ed]; exact hd))).to (da := eStep s) (by rw [es, ed])) ?_)
    refine xss_cons (xs_append 7 rfl (xv 10 rfl) ?_ (by rw [List.length_map]; omega))
    refine xss_one (xs_set 5 (nx (n := toOf c s) (XE.to (da := .int (toOf c s)) (pick2 (c := s.2) (ls (XB.sh (f_low (xe_ixL (f_locks (xv 2 rfl)) (xe_ixt (xv 10 rfl)) rfl (at_map hk))) (XB.sh (f_high (xe_ixL (f_locks (xv 2 rfl)) (xe_ixt (xv 10 rfl)) rfl (at_map hk))) XB.nil))) (xe_intB ((xe_cmp (xe_ixt (xv 10 rfl)) xe_str o_eqS).to (congrArg D.bl ?_)) 4)) ?_) rfl) ?_)
    · unfold dirS
      cases s.2 <;> decide
    · unfold toOf
      cases s.2 <;> rfl
    · refine ⟨s4, .sh (eN j), .sh (.lst ((turnsM c p.2).map eStep)), .sh (eStep s), ?_⟩
      dsimp only
      rw [List.map_append]
      rfl
  · rintro ρ ⟨s4, s8, s9, s10, rfl⟩
    rw [Int.toNat_natCast]
    exact ⟨_, _, _, _, _, rfl⟩
  · rintro ρ ⟨s4, s5, s8, s9, s10, rfl⟩
    refine xss_one (xs_ret (tup (XB.sh ((xv 6 rfl)) (XB.sh (xe_tupleP (xpv 7 (.inl rfl)) 5) XB.nil))) ?_)
    rw [en]
    rfl
theorem s86 : Sc [("canal", true), ("name", true), ("way", true), ("steps", true), ("step", false)] ["canal", "name", "way"] ["tuple"] (defScope (top 86)) := sc_by (by decide +kernel)
theorem f_come : Fn pg 1 false "_law_come" [] (Ct (fun a : Cnl × Str × Wy => WyOk a.1 a.2.2) (fun a => [.sh (eCnl pg a.1), .sh (.str a.2.1), .sh (eWy a.2.2)]) fun a => .sh (eEnt (comeE a.1 a.2.1 a.2.2))) := by
  refine fn_ct 86 49 rfl s86 (fun _ => rfl) (fun _ _ _ _ _ _ us hl => match us, hl with | [_, _, _], _ => rfl) ?_
  rintro Γ ⟨c, n, w⟩ H
  have H : WyOk c w := H
  have hi := H.hi
  refine xss_cons (xs_setLc 3 (lc_m (zs := w.2) (f := eStep) (g := fun s => eNamed (stN c s)) 4 [("canal", true), ("name", false), ("way", false), ("steps", false), ("step", true)] [] (by decide +kernel) (XE.itT (xe_ixt (xv 2 rfl))) (by omega) (fun sc' Γ' s hs => tup (XB.sh (f_lname (xe_ixL (f_locks (xv 0 rfl)) (xe_ixt (xv 4 rfl)) rfl (at_map (H.lk s hs)))) (XB.sh (xe_ixt (xv 4 rfl)) XB.nil)))) ?_ (by decide +kernel))
  refine xss_one (xs_ret (tup (XB.sh (xe_str) (XB.sh ((xv 1 rfl)) (XB.sh (f_rname (xe_ixL (f_reaches (xv 0 rfl)) (xe_ixt (xv 2 rfl)) rfl (at_map H.st))) (XB.sh (xe_tupleP (xpv 3 (.inl rfl)) 0) XB.nil))))) ?_)
  show Rz.sh _ = Rz.sh (.tup [_, _, _, .tup ((w.2.map (stN c)).map eNamed)])
  rw [List.map_map]
  rfl
end Lk
set_option maxHeartbeats 400000
namespace Lk
open PySem PySem.Spec PyProof.Rows L2
def lFill (l : Lck) (held : Int) : List Part := match l.kd with
  | .basin _ => [(.basin, held), (.high, l.room - held)]
  | .pump s => [(.low, s), (.high, l.room - s)]
  | .plain => [(.high, l.room)]
def lLet (l : Lck) (held : Int) : List Part := match l.kd with
  | .basin s => [(.basin, s - held), (.low, l.room - s + held)]
  | _ => [(.low, l.room)]
def lHeld (c : Cnl) (wa : List Int) (k : Nat) (row : List Pr) : Int := wa[c.basin k]! + ((row.filter fun p => decide (p.2.1 = c.basin k)).map fun p => p.2.2).sum - ((row.filter fun p => decide (p.1 = c.basin k)).map fun p => p.2.2).sum
def lStep (c : Cnl) (wa : List Int) (k : Nat) (row : List Pr) (fill : Bool) : List Pr := row ++ (if fill then (lFill c.locks[k]! (lHeld c wa k row)).map fun p => (placeOf c k p.1, c.chamber k, p.2) else (lLet c.locks[k]! (lHeld c wa k row)).map fun p => (c.chamber k, placeOf c k p.1, p.2))
def lRow (c : Cnl) (wa : List Int) (k : Nat) (ws : List Bool) : List Pr := (ws.foldl (lStep c wa k) []).filter fun p => decide (0 < p.2.2)
def lWords (full up : Bool) : List Bool := if up then (if full then [false, true] else [true]) else (if full then [false] else [true, false])
def wdS (f : Bool) : Str := if f then "fill" else "let"
def eWds (ws : List Bool) : D := .lst (ws.map fun f => .str (wdS f))
def watA (t : Bool) (wa : List Int) : Ar := if t then .sh (eInts wa) else .pk (.lst (wa.map D.int))
theorem lFill_len (l : Lck) (h : Int) : (lFill l h).length ≤ 2 := by unfold lFill; cases l.kd <;> simp
theorem lLet_len (l : Lck) (h : Int) : (lLet l h).length ≤ 2 := by unfold lLet; cases l.kd <;> simp
theorem lStep_len (c : Cnl) (wa : List Int) (k : Nat) (row : List Pr) (f : Bool) : (lStep c wa k row f).length ≤ row.length + 2 := by
  unfold lStep
  rw [List.length_append]
  have h1 := lFill_len c.locks[k]! (lHeld c wa k row)
  have h2 := lLet_len c.locks[k]! (lHeld c wa k row)
  split
  · rw [List.length_map]; omega
  · rw [List.length_map]; omega
theorem lFold_len (c : Cnl) (wa : List Int) (k : Nat) : ∀ (ws : List Bool) (row : List Pr), (ws.foldl (lStep c wa k) row).length ≤ row.length + 2 * ws.length
  | [], row => Nat.le_refl _
  | f :: ws, row => by
    have h1 := lStep_len c wa k row f
    have h2 := lFold_len c wa k ws (lStep c wa k row f)
    rw [List.foldl_cons, List.length_cons]
    omega
theorem lFill_nc (l : Lck) (h : Int) : ∀ p ∈ lFill l h, p.1 ≠ .chamber := by
  unfold lFill
  cases l.kd <;> simp
theorem lLet_nc (l : Lck) (h : Int) : ∀ p ∈ lLet l h, p.1 ≠ .chamber := by
  unfold lLet
  cases l.kd <;> simp
section
variable {pg : Pg} {sc : Scope} {N : List (Str × Bool)} {G : List Str} {lv : Nat} {own : List Nat} {Γ : Gf pg sc N G lv own} {ρ : List Sl} {a b e : Expr} {d : D} {pos p p' p1 : Pos} {x y : Str} {De : De} {body : List Stmt}
/-- for x in a list handed over, looked at -/
theorem xs_forP {xs : List D} (i i0 : Nat) (I : Nat → List Sl → Prop) (h : ρ[i0]? = some (.ro (.lst xs))) (h0 : I 0 ρ) (hs : ∀ k x ρ', xs[k]? = some x → I k ρ' → XSs Γ body (ρ'.set i (.sh x)) ⟨I (k + 1), De.rt, De.nx, I (k + 1), De.ex⟩)
    (hd : ∀ ρ', I xs.length ρ' → De.nx ρ') (hN : N[i]? = some (x, true) := by rfl) (hN0 : N[i0]? = some (y, true) := by rfl) (ho : i ∉ own := by decide) (hdb : (y == ("__debug__" : Str)) = false := by decide) (hcd : (y == ("__classdict__" : Str)) = false := by decide)
    (hf : ∀ env z, foldedSetIterable (.Name y p1) env z = pure z := by intro _ _; rfl) : XS Γ (.For (.Name x p') (.Name y p1) body [] pos) ρ De := fun σ Hf H D E S => by
  obtain ⟨l1, l2⟩ := Γ.st i x hN
  obtain ⟨n0, v0⟩ := Γ.vis i0 y hN0
  obtain ⟨F, g1, _, _⟩ := E.sl
  obtain ⟨_, v, fp, ev, ⟨q, vs, rfl, ef, hl, hr⟩, nm⟩ := g1 i0 _ h
  have nq : q ∉ Γ.c.M := nm q (by rw [ef]; exact List.mem_cons_self)
  refine RunS.of (ps_for Γ.po Γ.calm (pi_list (pe_var n0 v0 hdb hcd)) (pg_name Γ.nd (Γ.vis i x hN).1 l1 l2) (runSs _ body) (hf _)) ?_
  have ls : ∀ {Hf' H' σ' ρ'}, Env pg Γ.c own Hf' H' σ' ρ' → SqL Γ.X.K H' q vs := fun E' => SqL.of (E'.pres q _ hl nq fun _ z => nomatch z)
  refine ⟨_, ev, q, rfl, ⟨vs, ls E⟩, for_list (K := Γ.X.K) (a := q) (xs := vs) (g := gName i) (tb := fun D σ H => RunSs Γ.X body σ H D) (D := D) (fun k σ' H' => ∃ Hf' ρ', Env pg Γ.c own Hf' H' σ' ρ' ∧ Same Hf Hf' ∧ I k ρ') ⟨Hf, ρ, E, Same.refl _, h0⟩
    (fun k σ' H' _ ⟨Hf', ρ', E', s, _⟩ => ls E') ?_ ?_⟩
  · rintro k y σ' H' hy ⟨Hf', ρ', E', s, iv⟩
    obtain ⟨d, hd1, hd2⟩ := hr.got hy
    exact hs k d ρ' hd1 iv (σ'.set i (some y)) Hf' H' _ (E'.set (Γ.hi E' hN) ho (hd2.mono cm0 s)) ⟨fun σ2 Hf2 H2 ρ2 E2 s2 q => ⟨Hf2, ρ2, E2, s.trans s2, q⟩, fun σ2 Hf2 H2 ρ2 E2 s2 q => S.nx σ2 Hf2 H2 ρ2 E2 (s.trans s2) q,
      fun σ2 Hf2 H2 ρ2 E2 s2 q => ⟨Hf2, ρ2, E2, s.trans s2, q⟩, S.rs, S.ro, S.ex⟩
  · rintro σ' H' ⟨Hf', ρ', E', s, iv⟩
    rw [hr.length] at iv
    exact S.nx σ' Hf' H' ρ' E' s (hd ρ' iv)
end
section
variable {pg : Pg} {sc : Scope} {N : List (Str × Bool)} {G : List Str} {lv : Nat} {own : List Nat} {Γ : Gm pg sc N G lv own} {ρ : List Sl} {a b e : Expr} {d : D} {pos p p' p1 apos : Pos} {x y : Str}
/-- an item of waters, told or looked at -/
theorem wat {t : Bool} {wa : List Int} {n : Int} {j : Nat} (i : Nat) (h : ρ[i]? = some (slA (watA t wa))) (hb : XE Γ b ρ (.int n)) (hn : n = j) (hj : j < wa.length) (hN : N[i]? = some (x, true) := by rfl) (hd : (x == ("__debug__" : Str)) = false := by decide) (hcd : (x == ("__classdict__" : Str)) = false := by decide) (hs : PlainIx b := by intro _ _; rfl) :
    XE Γ (.Subscript (.Name x p1) b pos) ρ (.int wa[j]!) := by
  cases t with
  | true => exact xe_ixT (xv i h hN hd hcd) hb hn (at_map (f := D.int) hj) hs
  | false => exact xe_ixP (XP.l (xpv i (.inr h) hN hd hcd)) hb hn (at_map (f := D.int) hj) hs
variable [Lib3 pg]
theorem l_kind {l : Lck} {pl : Sem Bool} (h : XE Γ e ρ (eLck pg l)) (hr : 1 ≤ lv := by decide)
    (ht : eval (.Call (.Attribute e "kind" apos) [] [] pos) Γ.X.env = (do
      let ov ← eval e Γ.X.env
      standAt apos.atName
      let (f, first) ← holding [ov] (getMethod ov "kind" pl)
      callWith pos f first (backTo pos (starEach [] Γ.X.env)) (backToKw pos (keywordEach [] Γ.X.env))) := by rfl) : XE Γ (.Call (.Attribute e "kind" apos) [] [] pos) ρ (.str (kindS l.kd)) := by
  obtain ⟨kd, nm, hi, lo, rm⟩ := l
  cases kd with
  | plain => exact xe_meth0 m_kind0 h.rcv (.inl ⟨_, rfl, rfl⟩) ⟨⟨.plain, nm, hi, lo, rm⟩, rfl, rfl, rfl⟩ hr ht
  | basin s => exact xe_meth0 m_kind1 h.rcv (.inl ⟨_, rfl, rfl⟩) ⟨⟨.basin s, nm, hi, lo, rm⟩, ⟨s, rfl⟩, rfl, rfl⟩ hr ht
  | pump s => exact xe_meth0 m_kind2 h.rcv (.inl ⟨_, rfl, rfl⟩) ⟨⟨.pump s, nm, hi, lo, rm⟩, ⟨s, rfl⟩, rfl, rfl⟩ hr ht
theorem l_extra {l : Lck} {pl : Sem Bool} (h : XE Γ e ρ (eLck pg l)) (hr : 1 ≤ lv := by decide)
    (ht : eval (.Call (.Attribute e "extra" apos) [] [] pos) Γ.X.env = (do
      let ov ← eval e Γ.X.env
      standAt apos.atName
      let (f, first) ← holding [ov] (getMethod ov "extra" pl)
      callWith pos f first (backTo pos (starEach [] Γ.X.env)) (backToKw pos (keywordEach [] Γ.X.env))) := by rfl) : XE Γ (.Call (.Attribute e "extra" apos) [] [] pos) ρ (.int (extra l.kd)) := by
  obtain ⟨kd, nm, hi, lo, rm⟩ := l
  cases kd with
  | plain => exact xe_meth0 m_extra0 h.rcv (.inl ⟨_, rfl, rfl⟩) ⟨⟨.plain, nm, hi, lo, rm⟩, rfl, rfl, rfl⟩ hr ht
  | basin s => exact xe_meth0 m_extra1 h.rcv (.inl ⟨_, rfl, rfl⟩) ⟨⟨.basin s, nm, hi, lo, rm⟩, ⟨s, rfl⟩, rfl, rfl⟩ hr ht
  | pump s => exact xe_meth0 m_extra2 h.rcv (.inl ⟨_, rfl, rfl⟩) ⟨⟨.pump s, nm, hi, lo, rm⟩, ⟨s, rfl⟩, rfl, rfl⟩ hr ht
end
variable {pg : Pg} [Lib3 pg]
theorem s87 : Sc [("lock", true), ("held", true)] ["lock", "held"] [] (defScope (top 87)) := sc_by (by decide +kernel)
theorem f_fill : Fn pg 2 false "_law_fill" [] (Ct (fun _ : Lck × Int => True) (fun a => [.sh (eLck pg a.1), .sh (.int a.2)]) fun a => .ow (.lst ((lFill a.1 a.2).map ePart))) := by
  refine fn_ct 87 50 rfl s87 (fun _ => rfl) (fun _ _ _ _ _ _ us hl => match us, hl with | [_, _], _ => rfl) ?_
  rintro Γ ⟨l, held⟩ -
  dsimp only
  cases hk : l.kd with
  | basin s =>
    have e : lFill l held = [(.basin, held), (.high, l.room - held)] := by unfold lFill; rw [hk]
    rw [e]
    exact xss_cons (xs_if (c := true) ((xt_cmp (l_kind (xv 0 rfl)) xe_str o_eqS).to (by rw [hk]; rfl)) (fun _ => xss_one (xs_retO (lsO (XB.sh (tup (XB.sh (xe_str) (XB.sh ((xv 1 rfl)) XB.nil))) (XB.sh (tup (XB.sh (xe_str) (XB.sh (xe_op (f_room (xv 0 rfl)) (xv 1 rfl) o_sub) XB.nil))) XB.nil))) rfl)) (fun q => nomatch q))
  | pump s =>
    have e : lFill l held = [(.low, s), (.high, l.room - s)] := by unfold lFill; rw [hk]
    rw [e]
    have ex : ∀ {i : Int}, i = extra l.kd → i = s := fun h => by rw [h, hk]; rfl
    refine xss_cons (xs_if (c := false) ((xt_cmp (l_kind (xv 0 rfl)) xe_str o_eqS).to (by rw [hk]; rfl)) (fun q => nomatch q) (fun _ => xss_nil ?_))
    exact xss_cons (xs_if (c := true) ((xt_cmp (l_kind (xv 0 rfl)) xe_str o_eqS).to (by rw [hk]; rfl)) (fun _ => xss_one (xs_retO (lsO (XB.sh (tup (XB.sh (xe_str) (XB.sh ((l_extra (xv 0 rfl)).to (da := .int s) (congrArg D.int (ex rfl))) XB.nil))) (XB.sh (tup (XB.sh (xe_str) (XB.sh (xe_op (f_room (xv 0 rfl)) ((l_extra (xv 0 rfl)).to (da := .int s) (congrArg D.int (ex rfl))) o_sub) XB.nil))) XB.nil))) rfl)) (fun q => nomatch q))
  | plain =>
    have e : lFill l held = [(.high, l.room)] := by unfold lFill; rw [hk]
    rw [e]
    refine xss_cons (xs_if (c := false) ((xt_cmp (l_kind (xv 0 rfl)) xe_str o_eqS).to (by rw [hk]; rfl)) (fun q => nomatch q) (fun _ => xss_nil ?_))
    refine xss_cons (xs_if (c := false) ((xt_cmp (l_kind (xv 0 rfl)) xe_str o_eqS).to (by rw [hk]; rfl)) (fun q => nomatch q) (fun _ => xss_nil ?_))
    exact xss_one (xs_retO (lsO (XB.sh (tup (XB.sh (xe_str) (XB.sh (f_room (xv 0 rfl)) XB.nil))) XB.nil)) rfl)
theorem s88 : Sc [("lock", true), ("held", true)] ["lock", "held"] [] (defScope (top 88)) := sc_by (by decide +kernel)
theorem f_let : Fn pg 2 false "_law_let" [] (Ct (fun _ : Lck × Int => True) (fun a => [.sh (eLck pg a.1), .sh (.int a.2)]) fun a => .ow (.lst ((lLet a.1 a.2).map ePart))) := by
  refine fn_ct 88 51 rfl s88 (fun _ => rfl) (fun _ _ _ _ _ _ us hl => match us, hl with | [_, _], _ => rfl) ?_
  rintro Γ ⟨l, held⟩ -
  dsimp only
  have other : (∀ s, l.kd ≠ .basin s) → XSs Γ (defBody (top 88)) (slots 2 [.sh (eLck pg l), .sh (.int held)]) (fin false (.ow (.lst ((lLet l held).map ePart)))) := fun h => by
    have e : lLet l held = [(.low, l.room)] := by
      unfold lLet
      split
      · rename_i s q; exact absurd q (h s)
      · rfl
    rw [e]
    refine xss_cons (xs_if (c := false) ((xt_cmp (l_kind (xv 0 rfl)) xe_str o_eqS).to (by cases q : l.kd with | basin s => exact absurd q (h s) | _ => rfl)) (fun q => nomatch q) (fun _ => xss_nil ?_))
    exact xss_one (xs_retO (lsO (XB.sh (tup (XB.sh (xe_str) (XB.sh (f_room (xv 0 rfl)) XB.nil))) XB.nil)) rfl)
  cases hk : l.kd with
  | basin s =>
    have e : lLet l held = [(.basin, s - held), (.low, l.room - s + held)] := by unfold lLet; rw [hk]
    rw [e]
    have ex : ∀ {i : Int}, i = extra l.kd → i = s := fun h => by rw [h, hk]; rfl
    exact xss_cons (xs_if (c := true) ((xt_cmp (l_kind (xv 0 rfl)) xe_str o_eqS).to (by rw [hk]; rfl)) (fun _ => xss_one (xs_retO (lsO (XB.sh (tup (XB.sh (xe_str) (XB.sh (xe_op ((l_extra (xv 0 rfl)).to (da := .int s) (congrArg D.int (ex rfl))) (xv 1 rfl) o_sub) XB.nil))) (XB.sh (tup (XB.sh (xe_str) (XB.sh (xe_op (xe_op (f_room (xv 0 rfl)) ((l_extra (xv 0 rfl)).to (da := .int s) (congrArg D.int (ex rfl))) o_sub) (xv 1 rfl) o_add) XB.nil))) XB.nil))) rfl)) (fun q => nomatch q))
  | pump s => exact other fun s z => by rw [hk] at z; cases z
  | plain => exact other fun s z => by rw [hk] at z; cases z
def lpm (c : Cnl) (k : Nat) : List (Str × D) := [("high", .int (c.locks[k]!).high), ("low", .int (c.locks[k]!).low), ("basin", .int (c.basin k))]
theorem lpm_look (c : Cnl) (k : Nat) {s : Sd} (h : s ≠ .chamber) : (lpm c k).lookup (sdS s) = some (.int (placeOf c k s)) := by
  cases s with
  | chamber => exact absurd rfl h
  | _ => rfl
theorem s89 : Sc [("canal", true), ("waters", true), ("k", true), ("words", true), ("lock", true), ("many", true), ("place", true), ("row", true), ("word", true), ("held", true), ("one", false)] ["canal", "waters", "k", "words"] ["len", "sum", "_law_fill", "_law_let"] (defScope (top 89)) := sc_by (by decide +kernel)
theorem f_row_of : Fn pg 3 false "_law_row_of" [] (Ct (fun a : Cnl × (Bool × List Int) × Nat × List Bool => a.2.2.1 < a.1.nl ∧ a.1.basin a.2.2.1 < a.2.1.2.length ∧ a.2.2.2.length ≤ 10) (fun a => [.sh (eCnl pg a.1), watA a.2.1.1 a.2.1.2, .sh (eN a.2.2.1), .sh (eWds a.2.2.2)]) fun a => .ow (.lst ((lRow a.1 a.2.1.2 a.2.2.1 a.2.2.2).map ePr))) := by
  refine fn_ct 89 52 rfl s89 (fun _ => rfl) (fun _ _ _ _ _ _ us hl => match us, hl with | [_, _, _, _], _ => rfl) ?_
  rintro Γ ⟨c, ⟨t, wa⟩, k, ws⟩ ⟨hk, hb, hw⟩
  dsimp only at hk hb hw ⊢
  have hk : k < c.locks.length := hk
  refine xss_cons (xs_set 4 (xe_ixL (f_locks (xv 0 rfl)) (xv 2 rfl) rfl (at_map (f := eLck pg) hk)) ?_)
  refine xss_cons (xs_set 5 (xe_lenL (f_reaches (xv 0 rfl)) 0) ?_)
  refine xss_cons (xs_set 6 (xe_dic (kds := lpm c k) (.cons (f_high (xv 4 rfl)) (.cons (f_low (xv 4 rfl)) (.cons (nx (n := c.basin k) (xe_op (xe_op (xv 5 rfl) (xe_lenL (f_locks (xv 0 rfl)) 0) o_add) (xv 2 rfl) o_add) (by simp [Cnl.basin])) .nil))) (show ([("high" : Str), "low", "basin"] : List Str).Nodup by decide +kernel) (h15' := Nat.le_of_ble_eq_true rfl)) ?_)
  refine xss_cons (xs_setO 7 (lsO XB.nil) ?_)
  refine xss_mid (fun ρ => ∃ s8 s9 s10, ρ = [.sh (eCnl pg c), slA (watA t wa), .sh (eN k), .sh (eWds ws), .sh (eLck pg c.locks[k]!), .sh (.int (c.reaches.map (eRch pg)).length), .sh (.dic (lpm c k)), .ow (.lst ((ws.foldl (lStep c wa k) []).map ePr)), s8, s9, s10])
    (xs_forL 8 (fun j ρ => ∃ s8 s9 s10, ρ = [.sh (eCnl pg c), slA (watA t wa), .sh (eN k), .sh (eWds ws), .sh (eLck pg c.locks[k]!), .sh (.int (c.reaches.map (eRch pg)).length), .sh (.dic (lpm c k)), .ow (.lst (((ws.take j).foldl (lStep c wa k) []).map ePr)), s8, s9, s10]) (xv 3 rfl) ⟨_, _, _, rfl⟩ ?_ ?_) ?_
  · rintro j _ ρ hx ⟨s8, s9, s10, rfl⟩
    obtain ⟨hj, rfl⟩ := map_at hx
    obtain ⟨row, er⟩ : ∃ row, row = (ws.take j).foldl (lStep c wa k) [] := ⟨_, rfl⟩
    have hl := lFold_len c wa k (ws.take j) []
    rw [← er] at hl ⊢
    rw [List.length_take, List.length_nil] at hl
    have hrl : row.length ≤ 100 := by omega
    have e1 : (ws.take (j + 1)).foldl (lStep c wa k) [] = lStep c wa k row ws[j]! := by
      rw [List.take_succ, List.getElem?_eq_getElem hj, getElem!_pos ws j hj, List.foldl_append, ← er]
      rfl
    have bas : ∀ {e : Expr} {pos : Pos} {j : Nat} {q : Pos} {ρ : List Sl} {sc' : Scope} {N' : List (Str × Bool)} {G' : List Str} {Γ' : Gm pg sc' N' G' 2 []}, XE Γ' e ρ (.dic (lpm c k)) → XE Γ' (.Subscript e (.Constant (.str "basin") j q) pos) ρ (eN (c.basin k)) := fun h => xe_dget h xe_str (lpm_look c k (s := .basin) (fun z => nomatch z))
    refine xss_cons (xs_set 9 (xe_op (wat 1 rfl (bas (xv 6 rfl)) rfl hb) (xe_sum (ns := (row.filter fun p : Pr => decide (p.2.1 = c.basin k)).map fun p : Pr => p.2.2) (XE.to (XO.lst (lc_d (zs := row) (f := ePr) (t := fun p => decide (p.2.1 = c.basin k)) (g := fun p => .int p.2.2) 10 [("canal", false), ("waters", false), ("k", false), ("words", false), ("lock", false), ("many", false), ("place", true), ("row", false), ("word", false), ("held", false), ("one", true)] [] (by decide +kernel) (XL.it (XP.l (xpv 7 (.inl rfl)))) (by omega) (fun sc' Γ' p hp => .one ((xt_cmp (xe_ixt (d := .int p.2.1) (xv 10 rfl)) (bas (xv 6 rfl)) o_eqI).to (decide_eq_decide.mpr Int.ofNat_inj))) (fun sc' Γ' p hp _ => xe_ixt (xv 10 rfl))).xo) (congrArg D.lst (List.map_map (g := D.int) (f := fun p : Pr => p.2.2)).symm)) 1) o_add) ?_)
    refine xss_cons (xs_set 9 ((xe_op (xv 9 rfl) (xe_sum (ns := (row.filter fun p : Pr => decide (p.1 = c.basin k)).map fun p : Pr => p.2.2) (XE.to (XO.lst (lc_d (zs := row) (f := ePr) (t := fun p => decide (p.1 = c.basin k)) (g := fun p => .int p.2.2) 10 [("canal", false), ("waters", false), ("k", false), ("words", false), ("lock", false), ("many", false), ("place", true), ("row", false), ("word", false), ("held", false), ("one", true)] [] (by decide +kernel) (XL.it (XP.l (xpv 7 (.inl rfl)))) (by omega) (fun sc' Γ' p hp => .one ((xt_cmp (xe_ixt (d := .int p.1) (xv 10 rfl)) (bas (xv 6 rfl)) o_eqI).to (decide_eq_decide.mpr Int.ofNat_inj))) (fun sc' Γ' p hp _ => xe_ixt (xv 10 rfl))).xo) (congrArg D.lst (List.map_map (g := D.int) (f := fun p : Pr => p.2.2)).symm)) 1) o_sub).to (da := .int (lHeld c wa k row)) rfl) ?_)
    have mk : ∀ {sc' : Scope} {N' : List (Str × Bool)} {G' : List Str} {Γ' : Gm pg sc' N' G' 2 []} {ρ : List Sl} {a b : Expr} {pos : Pos}, XE Γ' a ρ (.int (c.reaches.map (eRch pg)).length) → XE Γ' b ρ (eN k) → XE Γ' (.BinOp a .Add b pos) ρ (eN (c.chamber k)) := fun h1 h2 => nx (xe_op h1 h2 o_add) (by simp [Cnl.chamber])
    have hf := lFill_len c.locks[k]! (lHeld c wa k row)
    have hlt := lLet_len c.locks[k]! (lHeld c wa k row)
    refine xss_one (xs_if (c := ws[j]!) ((xt_cmp (xv 8 rfl) xe_str o_eqS).to (by unfold wdS; cases ws[j]! <;> decide)) (fun q => xss_one ?_) (fun q => xss_one ?_))
    · refine xs_setO 7 (xo_cat (XP.l (xpv 7 (.inl rfl))) (XO.l (lc_m (zs := lFill c.locks[k]! (lHeld c wa k row)) (f := ePart) (g := fun p => ePr (placeOf c k p.1, c.chamber k, p.2)) 10 [("canal", false), ("waters", false), ("k", true), ("words", false), ("lock", false), ("many", true), ("place", true), ("row", false), ("word", false), ("held", false), ("one", true)] [] (by decide +kernel) (XL.it (XO.l (xo_call f_fill (XA.sh ((xv 4 rfl)) (XA.sh ((xv 9 rfl)) XA.nil)) 2 ⟨(c.locks[k]!, lHeld c wa k row), trivial, rfl, rfl⟩))) (by omega) (fun sc' Γ' p hp => tup (XB.sh (xe_dget (xv 6 rfl) (xe_ixt (xv 10 rfl)) (lpm_look c k (lFill_nc _ _ p hp))) (XB.sh (mk (xv 5 rfl) (xv 2 rfl)) (XB.sh (xe_ixt (xv 10 rfl)) XB.nil))))).xo) (by rw [List.length_map, List.length_map]; omega)) ?_
      show ∃ s8 s9 s10, _
      rw [e1, q]
      unfold lStep
      rw [if_pos rfl, List.map_append, List.map_map]
      exact ⟨_, _, s10, rfl⟩
    · refine xs_setO 7 (xo_cat (XP.l (xpv 7 (.inl rfl))) (XO.l (lc_m (zs := lLet c.locks[k]! (lHeld c wa k row)) (f := ePart) (g := fun p => ePr (c.chamber k, placeOf c k p.1, p.2)) 10 [("canal", false), ("waters", false), ("k", true), ("words", false), ("lock", false), ("many", true), ("place", true), ("row", false), ("word", false), ("held", false), ("one", true)] [] (by decide +kernel) (XL.it (XO.l (xo_call f_let (XA.sh ((xv 4 rfl)) (XA.sh ((xv 9 rfl)) XA.nil)) 3 ⟨(c.locks[k]!, lHeld c wa k row), trivial, rfl, rfl⟩))) (by omega) (fun sc' Γ' p hp => tup (XB.sh (mk (xv 5 rfl) (xv 2 rfl)) (XB.sh (xe_dget (xv 6 rfl) (xe_ixt (xv 10 rfl)) (lpm_look c k (lLet_nc _ _ p hp))) (XB.sh (xe_ixt (xv 10 rfl)) XB.nil))))).xo) (by rw [List.length_map, List.length_map]; omega)) ?_
      show ∃ s8 s9 s10, _
      rw [e1, q]
      unfold lStep
      rw [if_neg Bool.false_ne_true, List.map_append, List.map_map]
      exact ⟨_, _, s10, rfl⟩
  · rintro ρ ⟨s8, s9, s10, rfl⟩
    rw [show (ws.map fun f => D.str (wdS f)).length = ws.length from List.length_map _, List.take_length]
    exact ⟨_, _, _, rfl⟩
  · rintro ρ ⟨s8, s9, s10, rfl⟩
    have hl := lFold_len c wa k ws []
    rw [List.length_nil] at hl
    exact xss_one (xs_retO (lc_d (zs := ws.foldl (lStep c wa k) []) (f := ePr) (t := fun p => decide (0 < p.2.2)) (g := ePr) 10 [("canal", false), ("waters", false), ("k", false), ("words", false), ("lock", false), ("many", false), ("place", false), ("row", false), ("word", false), ("held", false), ("one", true)] [] (by decide +kernel) (XL.it (XP.l (xpv 7 (.inl rfl)))) (by omega) (fun sc' Γ' p hp => .one (xt_cmp (xe_ixt (xv 10 rfl)) xe_int o_gt)) (fun sc' Γ' p hp _ => (xv 10 rfl))).xo rfl)
theorem s90 : Sc [("full", true), ("course", true)] ["full", "course"] ["int"] (defScope (top 90)) := sc_by (by decide +kernel)
theorem f_words : Fn pg 1 false "_law_words" [] (Ct (fun _ : Bool × Bool => True) (fun a => [.sh (.bl a.1), .sh (.str (dirS a.2))]) fun a => .sh (eWds (lWords a.1 a.2))) := by
  refine fn_ct 90 53 rfl s90 (fun _ => rfl) (fun _ _ _ _ _ _ us hl => match us, hl with | [_, _], _ => rfl) ?_
  rintro Γ ⟨full, up⟩ -
  dsimp only
  refine xss_cons (xs_if (c := up) ((xt_cmp (xv 1 rfl) xe_str o_eqS).to (by unfold dirS; cases up <;> decide)) (fun q => xss_one (xs_ret (pick2 (ls (XB.sh (ls (XB.sh (xe_str) XB.nil)) (XB.sh (ls (XB.sh (xe_str) (XB.sh (xe_str) XB.nil))) XB.nil))) (xe_intB (xv 0 rfl) 0)) ?_)) (fun q => xss_nil (xss_one (xs_ret (pick2 (ls (XB.sh (ls (XB.sh (xe_str) (XB.sh (xe_str) XB.nil))) (XB.sh (ls (XB.sh (xe_str) XB.nil)) XB.nil))) (xe_intB (xv 0 rfl) 0)) ?_))))
  · subst q
    cases full <;> rfl
  · subst q
    cases full <;> rfl
theorem s91 : Sc [("canal", true), ("way", true), ("place", true), ("at", true), ("k", true), ("lock", true)] ["canal", "way", "place"] ["len", "range"] (defScope (top 91)) := sc_by (by decide +kernel)
theorem f_reach_by : Fn pg 1 false "_law_reach_by" [] (Ct (fun a : Cnl × Wy × Nat => WyOk a.1 a.2.1 ∧ a.2.2 ≤ a.2.1.2.length) (fun a => [.sh (eCnl pg a.1), .sh (eWy a.2.1), .sh (eN a.2.2)]) fun a => .sh (.int (reachOf a.1 a.2.1 a.2.2))) := by
  refine fn_ct 91 54 rfl s91 (fun _ => rfl) (fun _ _ _ _ _ _ us hl => match us, hl with | [_, _, _], _ => rfl) ?_
  rintro Γ ⟨c, w, p⟩ ⟨H, hp⟩
  dsimp only at H hp ⊢
  have hi := H.hi
  refine xss_cons (xs_if (xt_cmp (xv 2 rfl) (xe_lenT (xe_ixt (xv 1 rfl)) 0) o_eqI) (fun q => xss_one (xs_ret (xe_neg xe_int) (ri ?_))) (fun q => xss_nil ?_))
  · have q := of_decide_eq_true q
    rw [List.length_map] at q
    unfold reachOf
    rw [if_pos (by omega)]
  have q := of_decide_eq_false q
  rw [List.length_map] at q
  refine xss_cons (xs_set 3 (xe_ixt (xv 1 rfl)) ?_)
  refine xss_mid (fun ρ => ∃ s4 s5, ρ = [.sh (eCnl pg c), .sh (eWy w), .sh (eN p), .sh (eN (atOf c w p)), s4, s5])
    (xs_forR (n := p) 4 (fun k ρ => ∃ s4 s5, ρ = [.sh (eCnl pg c), .sh (eWy w), .sh (eN p), .sh (eN (atOf c w k)), s4, s5]) (xv 2 rfl) (by omega) ⟨_, _, rfl⟩ ?_ ?_ 1 (Bl.range (pg := pg))) ?_
  · rintro k ρ hk ⟨s4, s5, rfl⟩
    have hk : k < w.2.length := by omega
    have hl := H.lk _ (mem_get hk)
    have hh := H.hang k hk
    refine xss_cons (xs_set 5 (xe_ixL (f_locks (xv 0 rfl)) (xe_ixt (xe_ixT (xe_ixt (xv 1 rfl)) (xv 4 rfl) rfl (at_map (f := eStep) hk))) rfl (at_map hl)) ?_)
    refine xss_one (xs_set 3 (nx (n := atOf c w (k + 1)) (xe_op (xe_op (f_low (xv 5 rfl)) (f_high (xv 5 rfl)) o_add) (xv 3 rfl) o_sub) ?_) ⟨_, _, rfl⟩)
    rw [← hh]
    show _ = ((toOf c (w.2[k]!) : Nat) : Int)
    unfold fromOf toOf
    cases (w.2[k]!).2 <;> simp <;> omega
  · rintro ρ ⟨s4, s5, rfl⟩
    rw [Int.toNat_natCast]
    exact ⟨_, _, rfl⟩
  · rintro ρ ⟨s4, s5, rfl⟩
    refine xss_one (xs_ret (xv 3 rfl) (ri ?_))
    have hp' : p < w.2.length := by omega
    rw [← H.hang p hp']
    unfold reachOf fromOf
    rw [if_neg (c := w.2.length ≤ p) (by omega)]
    generalize w.2[p]! = s
    obtain ⟨k, u⟩ := s
    cases u <;> rfl
end Lk
set_option maxHeartbeats 400000
namespace Lk
open PySem PySem.Spec PyProof.Rows L2
/-! ### the law's reckoning is the program's, in plain Lean -/
def KdW (r : Int) : Kd → Prop
  | .plain => True
  | .basin s => 1 ≤ s ∧ s ≤ r
  | .pump s => 1 ≤ s ∧ s ≤ r
structure LkW (l : Lck) : Prop where
  room : 1 ≤ l.room
  kd : KdW l.room l.kd
/-- what a lock's basin may hold -/
def BaK (b : Int) : Kd → Prop
  | .basin s => 0 ≤ b ∧ b ≤ s
  | _ => True
theorem fill_real {l : Lck} {b : Int} (W : LkW l) (B : BaK b l.kd) : fillParts l b = realParts (lFill l b) := by
  have h1 := W.room
  unfold fillParts lFill realParts
  cases l.kd with
  | plain => dsimp only; rw [List.filter_cons, if_pos (decide_eq_true (by show 0 < l.room; omega))]; rfl
  | basin s => rfl
  | pump s => rfl
theorem let_real {l : Lck} {b : Int} (W : LkW l) (B : BaK b l.kd) : letParts l b = realParts (lLet l b) := by
  have h1 := W.room
  have h2 := W.kd
  unfold letParts lLet
  cases hk : l.kd with
  | plain => dsimp only; unfold realParts; rw [List.filter_cons, if_pos (decide_eq_true (by show 0 < l.room; omega))]; rfl
  | basin s =>
    rw [hk] at h2 B
    have h2 : 1 ≤ s ∧ s ≤ l.room := h2
    have B : 0 ≤ b ∧ b ≤ s := B
    have e : min (s - b) l.room = s - b := by omega
    dsimp only
    rw [e, show l.room - (s - b) = l.room - s + b by omega]
  | pump s => dsimp only; unfold realParts; rw [List.filter_cons, if_pos (decide_eq_true (by show 0 < l.room; omega))]; rfl
abbrev gF (c : Cnl) (k : Nat) (p : Part) : Pr := (placeOf c k p.1, c.chamber k, p.2)
abbrev gL (c : Cnl) (k : Nat) (p : Part) : Pr := (c.chamber k, placeOf c k p.1, p.2)
abbrev posP (p : Pr) : Bool := decide (0 < p.2.2)
theorem num_fill {c : Cnl} {k : Nat} {l : Lck} {b : Int} (W : LkW l) (B : BaK b l.kd) : numbered c k (filling l b) = ((lFill l b).map (gF c k)).filter posP := by
  unfold numbered filling
  rw [fill_real W B, List.map_map, List.filter_map]
  rfl
theorem num_let {c : Cnl} {k : Nat} {l : Lck} {b : Int} (W : LkW l) (B : BaK b l.kd) : numbered c k (letting l b) = ((lLet l b).map (gL c k)).filter posP := by
  unfold numbered letting
  rw [let_real W B, List.map_map, List.filter_map]
  rfl
theorem num_app {c : Cnl} {k : Nat} (a b : List Tri) : numbered c k (a ++ b) = numbered c k a ++ numbered c k b := List.map_append
theorem held_let {l : Lck} {b : Int} (W : LkW l) (B : BaK b l.kd) : heldBehind b (letting l b) = match l.kd with
    | .basin s => s
    | _ => b := by
  unfold letting
  rw [let_real W B]
  unfold lLet realParts heldBehind
  cases hk : l.kd with
  | plain => dsimp only; rw [List.filter_cons, if_pos (decide_eq_true (by show 0 < l.room; have := W.room; omega))]; rfl
  | pump s => dsimp only; rw [List.filter_cons, if_pos (decide_eq_true (by show 0 < l.room; have := W.room; omega))]; rfl
  | basin s =>
    rw [hk] at B
    have B : 0 ≤ b ∧ b ≤ s := B
    dsimp only
    by_cases q : 0 < s - b
    · rw [List.filter_cons, if_pos (decide_eq_true q), List.filter_cons]
      have e : b + (s - b) = s := by omega
      split
      · show b + (s - b) = s
        exact e
      · show b + (s - b) = s
        exact e
    · rw [List.filter_cons, if_neg (by simpa using q), List.filter_cons]
      have e : b = s := by omega
      split
      · exact e
      · exact e
theorem held_fill {l : Lck} {b : Int} (W : LkW l) (B : BaK b l.kd) : heldBehind b (filling l b) = match l.kd with
    | .basin s => 0
    | _ => b := by
  unfold filling
  rw [fill_real W B]
  unfold lFill realParts heldBehind
  cases hk : l.kd with
  | plain => dsimp only; rw [List.filter_cons, if_pos (decide_eq_true (by show 0 < l.room; have := W.room; omega))]; rfl
  | pump s =>
    dsimp only
    rw [List.filter_cons, List.filter_cons]
    split <;> split <;> rfl
  | basin s =>
    rw [hk] at B
    have B : 0 ≤ b ∧ b ≤ s := B
    dsimp only
    by_cases q : 0 < b
    · rw [List.filter_cons, if_pos (decide_eq_true q), List.filter_cons]
      split
      · show b - b = 0
        omega
      · show b - b = 0
        omega
    · rw [List.filter_cons, if_neg (by simpa using q), List.filter_cons]
      split
      · show b = 0
        omega
      · show b = 0
        omega
theorem held_behind_ok {l : Lck} {b : Int} (W : LkW l) (B : BaK b l.kd) : BaK (heldBehind b (letting l b)) l.kd ∧ BaK (heldBehind b (filling l b)) l.kd := by
  rw [held_let W B, held_fill W B]
  have h2 := W.kd
  cases hk : l.kd with
  | plain => exact ⟨trivial, trivial⟩
  | pump s => exact ⟨trivial, trivial⟩
  | basin s =>
    rw [hk] at h2
    have h2 : 1 ≤ s ∧ s ≤ l.room := h2
    exact ⟨show 0 ≤ s ∧ s ≤ s from ⟨by omega, by omega⟩, show (0 : Int) ≤ 0 ∧ 0 ≤ s from ⟨by omega, by omega⟩⟩
theorem fno {t : Pr → Bool} {a : Pr} (h : t a = false) : [a].filter t = [] := by rw [List.filter_cons, h]; rfl
theorem fnn {t : Pr → Bool} {a b : Pr} (h : t a = false) (h2 : t b = false) : [a, b].filter t = [] := by rw [List.filter_cons, h, List.filter_cons, h2]; rfl
theorem fyn {t : Pr → Bool} {a b : Pr} (h : t a = true) (h2 : t b = false) : [a, b].filter t = [a] := by rw [List.filter_cons, h, List.filter_cons, h2]; rfl
section
variable {c : Cnl} {k : Nat}
/-- the vessels of a lock told apart -/
theorem apart (W : CW c) (hk : k < c.nl) : (c.locks[k]!).high ≠ c.basin k ∧ (c.locks[k]!).low ≠ c.basin k ∧ c.chamber k ≠ c.basin k := by
  have h := W.lk _ (mem_get hk)
  unfold Cnl.basin Cnl.chamber
  refine ⟨?_, ?_, ?_⟩ <;> omega
theorem lHeld_nil (wa : List Int) : lHeld c wa k [] = wa[c.basin k]! := by unfold lHeld; simp
theorem lHeld_let (W : CW c) (hk : k < c.nl) (L : LkW c.locks[k]!) {wa : List Int} (B : BaK (wa[c.basin k]!) (c.locks[k]!).kd) :
    lHeld c wa k ((lLet c.locks[k]! (wa[c.basin k]!)).map (gL c k)) = heldBehind (wa[c.basin k]!) (letting c.locks[k]! (wa[c.basin k]!)) := by
  rw [held_let L B]
  obtain ⟨h1, h2, h3⟩ := apart W hk
  have n3 : decide (c.chamber k = c.basin k) = false := decide_eq_false h3
  have n2 : decide ((c.locks[k]!).low = c.basin k) = false := decide_eq_false h2
  have one : ∀ x : Int, lHeld c wa k [(c.chamber k, (c.locks[k]!).low, x)] = wa[c.basin k]! := fun x => by
    unfold lHeld
    rw [fno n2, fno n3]
    show wa[c.basin k]! + 0 - 0 = wa[c.basin k]!
    omega
  cases hk : (c.locks[k]!).kd with
  | plain =>
    have e : lLet c.locks[k]! (wa[c.basin k]!) = [(.low, (c.locks[k]!).room)] := by unfold lLet; rw [hk]
    rw [e]
    exact one _
  | pump s =>
    have e : lLet c.locks[k]! (wa[c.basin k]!) = [(.low, (c.locks[k]!).room)] := by unfold lLet; rw [hk]
    rw [e]
    exact one _
  | basin s =>
    have e : lLet c.locks[k]! (wa[c.basin k]!) = [(.basin, s - wa[c.basin k]!), (.low, (c.locks[k]!).room - s + wa[c.basin k]!)] := by unfold lLet; rw [hk]
    rw [e]
    show wa[c.basin k]! + (List.map _ (List.filter _ [(c.chamber k, c.basin k, s - wa[c.basin k]!), (c.chamber k, (c.locks[k]!).low, (c.locks[k]!).room - s + wa[c.basin k]!)])).sum - (List.map _ (List.filter _ [(c.chamber k, c.basin k, s - wa[c.basin k]!), (c.chamber k, (c.locks[k]!).low, (c.locks[k]!).room - s + wa[c.basin k]!)])).sum = s
    rw [fyn (decide_eq_true rfl) n2, fnn n3 n3]
    show wa[c.basin k]! + (s - wa[c.basin k]! + 0) - 0 = s
    omega
theorem lHeld_fill (W : CW c) (hk : k < c.nl) (L : LkW c.locks[k]!) {wa : List Int} (B : BaK (wa[c.basin k]!) (c.locks[k]!).kd) :
    lHeld c wa k ((lFill c.locks[k]! (wa[c.basin k]!)).map (gF c k)) = heldBehind (wa[c.basin k]!) (filling c.locks[k]! (wa[c.basin k]!)) := by
  rw [held_fill L B]
  obtain ⟨h1, h2, h3⟩ := apart W hk
  have n3 : decide (c.chamber k = c.basin k) = false := decide_eq_false h3
  have n2 : decide ((c.locks[k]!).low = c.basin k) = false := decide_eq_false h2
  have n1 : decide ((c.locks[k]!).high = c.basin k) = false := decide_eq_false h1
  cases hk : (c.locks[k]!).kd with
  | plain =>
    have e : lFill c.locks[k]! (wa[c.basin k]!) = [(.high, (c.locks[k]!).room)] := by unfold lFill; rw [hk]
    rw [e]
    show wa[c.basin k]! + (List.map _ (List.filter _ [((c.locks[k]!).high, c.chamber k, (c.locks[k]!).room)])).sum - (List.map _ (List.filter _ [((c.locks[k]!).high, c.chamber k, (c.locks[k]!).room)])).sum = _
    rw [fno n3, fno n1]
    show wa[c.basin k]! + 0 - 0 = wa[c.basin k]!
    omega
  | pump s =>
    have e : lFill c.locks[k]! (wa[c.basin k]!) = [(.low, s), (.high, (c.locks[k]!).room - s)] := by unfold lFill; rw [hk]
    rw [e]
    show wa[c.basin k]! + (List.map _ (List.filter _ [((c.locks[k]!).low, c.chamber k, s), ((c.locks[k]!).high, c.chamber k, (c.locks[k]!).room - s)])).sum - (List.map _ (List.filter _ [((c.locks[k]!).low, c.chamber k, s), ((c.locks[k]!).high, c.chamber k, (c.locks[k]!).room - s)])).sum = _
    rw [fnn n3 n3, fnn n2 n1]
    show wa[c.basin k]! + 0 - 0 = wa[c.basin k]!
    omega
  | basin s =>
    have e : lFill c.locks[k]! (wa[c.basin k]!) = [(.basin, wa[c.basin k]!), (.high, (c.locks[k]!).room - wa[c.basin k]!)] := by unfold lFill; rw [hk]
    rw [e]
    show wa[c.basin k]! + (List.map _ (List.filter _ [(c.basin k, c.chamber k, wa[c.basin k]!), ((c.locks[k]!).high, c.chamber k, (c.locks[k]!).room - wa[c.basin k]!)])).sum - (List.map _ (List.filter _ [(c.basin k, c.chamber k, wa[c.basin k]!), ((c.locks[k]!).high, c.chamber k, (c.locks[k]!).room - wa[c.basin k]!)])).sum = 0
    rw [fnn n3 n3, fyn (decide_eq_true rfl) n1]
    show wa[c.basin k]! + 0 - (wa[c.basin k]! + 0) = 0
    omega
theorem lRow_let (W : CW c) (hk : k < c.nl) (L : LkW c.locks[k]!) {wa : List Int} (B : BaK (wa[c.basin k]!) (c.locks[k]!).kd) : lRow c wa k [false] = numbered c k (letting c.locks[k]! (wa[c.basin k]!)) := by
  rw [num_let L B]
  show (([] : List Pr) ++ (lLet c.locks[k]! (lHeld c wa k [])).map (gL c k)).filter posP = _
  rw [List.nil_append, lHeld_nil]
theorem lRow_eq (W : CW c) (hk : k < c.nl) (L : LkW c.locks[k]!) {wa : List Int} (B : BaK (wa[c.basin k]!) (c.locks[k]!).kd) (full up : Bool) : lRow c wa k (lWords full up) = numbered c k (passage c.locks[k]! full (wa[c.basin k]!) up) := by
  obtain ⟨b1, b2⟩ := held_behind_ok L B
  cases up with
  | true =>
    cases full with
    | true =>
      show ((([] : List Pr) ++ (lLet c.locks[k]! (lHeld c wa k [])).map (gL c k)) ++ (lFill c.locks[k]! (lHeld c wa k (([] : List Pr) ++ (lLet c.locks[k]! (lHeld c wa k [])).map (gL c k)))).map (gF c k)).filter posP = numbered c k (letting c.locks[k]! (wa[c.basin k]!) ++ filling c.locks[k]! (heldBehind (wa[c.basin k]!) (letting c.locks[k]! (wa[c.basin k]!))))
      rw [List.nil_append, lHeld_nil, lHeld_let W hk L B, List.filter_append, num_app, num_let L B, num_fill L b1]
    | false =>
      show (([] : List Pr) ++ (lFill c.locks[k]! (lHeld c wa k [])).map (gF c k)).filter posP = numbered c k ([] ++ filling c.locks[k]! (wa[c.basin k]!))
      rw [List.nil_append, List.nil_append, lHeld_nil, num_fill L B]
  | false =>
    cases full with
    | true =>
      show (([] : List Pr) ++ (lLet c.locks[k]! (lHeld c wa k [])).map (gL c k)).filter posP = numbered c k ([] ++ letting c.locks[k]! (wa[c.basin k]!))
      rw [List.nil_append, List.nil_append, lHeld_nil, num_let L B]
    | false =>
      show ((([] : List Pr) ++ (lFill c.locks[k]! (lHeld c wa k [])).map (gF c k)) ++ (lLet c.locks[k]! (lHeld c wa k (([] : List Pr) ++ (lFill c.locks[k]! (lHeld c wa k [])).map (gF c k)))).map (gL c k)).filter posP = numbered c k (filling c.locks[k]! (wa[c.basin k]!) ++ letting c.locks[k]! (heldBehind (wa[c.basin k]!) (filling c.locks[k]! (wa[c.basin k]!))))
      rw [List.nil_append, lHeld_nil, lHeld_fill W hk L B, List.filter_append, num_app, num_fill L B, num_let L b2]
end
end Lk
set_option maxHeartbeats 400000
namespace Lk
open PySem PySem.Spec PyProof.Rows L2
/-- a state in order, for the law's reckoning too -/
structure StW (c : Cnl) (ws : List Wy) (st : Sta) : Prop where
  cw : CW c
  lk : ∀ l ∈ c.locks, LkW l
  sw : SW c ws st
  wy : ∀ w ∈ ws, WyOk c w
  pl : ∀ k, k < ws.length → st.2.2[k]! ≤ (ws[k]!).2.length
  ba : ∀ k, k < c.nl → BaK (st.2.1[c.basin k]!) (c.locks[k]!).kd
theorem set_int {h : List Int} {i : Nat} {v : Int} : (h.map D.int).set i (.int v) = (h.set i v).map D.int := List.map_set.symm
theorem StW.row {c : Cnl} {ws : List Wy} {st : Sta} (S : StW c ws st) {b : Nat} (hb : b < ws.length) (hp : st.2.2[b]! < (ws[b]!).2.length) :
    lRow c st.2.1 ((ws[b]!).2[st.2.2[b]!]!).1 (lWords (c.full st.2.1 ((ws[b]!).2[st.2.2[b]!]!).1) ((ws[b]!).2[st.2.2[b]!]!).2) = passPours c ws st b := by
  have hk := S.sw.step_lt hb hp
  exact lRow_eq S.cw hk (S.lk _ (mem_get hk)) (S.ba _ hk) _ _
variable {pg : Pg} [Lib3 pg]
theorem s92 : Sc [("canal", true), ("ways", true), ("state", true), ("boat", true), ("way", true), ("place", true), ("beyond", true), ("there", true), ("step", true), ("waters", true), ("full", true), ("one", true), ("k", false)] ["canal", "ways", "state", "boat"] ["len", "_law_reach_by", "range", "list", "_law_row_of", "_law_words"] (defScope (top 92)) := sc_by (by decide +kernel)
theorem l_why_no_pass : Fn pg 4 false "_law_why_no_pass" [] (Ct (fun a : Cnl × List Wy × Sta × Nat => StW a.1 a.2.1 a.2.2.1 ∧ a.2.2.2 < a.2.1.length) (fun a => [.sh (eCnl pg a.1), .sh (.lst (a.2.1.map eWy)), .sh (eSta a.2.2.1), .sh (eN a.2.2.2)]) fun a => .sh (.str (whyNoPass a.1 a.2.1 a.2.2.1 a.2.2.2))) := by
  refine fn_ct 92 55 rfl s92 (fun _ => rfl) (fun _ _ _ _ _ _ us hl => match us, hl with | [_, _, _, _], _ => rfl) ?_
  rintro Γ ⟨c, ws, st, b⟩ ⟨Z, hb⟩
  dsimp only at Z hb ⊢
  have S := Z.sw
  have W := Z.cw
  have hm := W.many_le
  have hwl := S.wl
  have hb2 : b < st.2.2.length := by rw [S.pl]; exact hb
  have hpl := Z.pl b hb
  have hwy := Z.wy _ (mem_get hb)
  have hr : ∀ r, Rz.sh (.str r) = Rz.sh (.str (whyNoPass c ws st b)) ↔ r = whyNoPass c ws st b := fun r => ⟨fun h => by injection h with h; injection h, fun h => by rw [h]⟩
  refine xss_cons (xs_set 4 (xe_ixL (xv 1 rfl) (xv 3 rfl) rfl (at_map (f := eWy) hb)) ?_)
  refine xss_cons (xs_set 5 (xe_ixT (xe_ixt (xv 2 rfl)) (xv 3 rfl) rfl (at_map (f := eN) hb2)) ?_)
  refine xss_cons (xs_if (xt_cmp (xv 5 rfl) (xe_lenT (xe_ixt (xv 4 rfl)) 0) o_eqI) (fun q => xss_one (xs_ret xe_str ?_)) (fun q => xss_nil ?_))
  · have q := of_decide_eq_true q
    rw [List.length_map] at q
    refine (hr _).mpr ?_
    unfold whyNoPass
    rw [if_pos (by omega)]
  have q1 := of_decide_eq_false q
  rw [List.length_map] at q1
  have hp : st.2.2[b]! < (ws[b]!).2.length := by omega
  refine xss_mid (fun ρ => ¬ (st.2.2[b]! + 1 < (ws[b]!).2.length ∧ (c.reaches[(reachOf c ws[b]! (st.2.2[b]! + 1)).toNat]!).berths ≤ lying c ws st (reachOf c ws[b]! (st.2.2[b]! + 1))) ∧ ∃ s6 s7, ρ = [.sh (eCnl pg c), .sh (.lst (ws.map eWy)), .sh (eSta st), .sh (eN b), .sh (eWy ws[b]!), .sh (eN st.2.2[b]!), s6, s7, .no, .no, .no, .no, .no])
    (xs_if (xt_cmp (xe_op (xv 5 rfl) xe_int o_add) (xe_lenT (xe_ixt (xv 4 rfl)) 0) o_lt) (fun q => ?_) (fun q => xss_nil ⟨?_, _, _, rfl⟩)) ?_
  · have q := of_decide_eq_true q
    rw [List.length_map] at q
    have hp1 : st.2.2[b]! + 1 < (ws[b]!).2.length := by omega
    obtain ⟨r, hr1, hr2⟩ := reachOf_nat W hp1 (S.step_lt hb hp1)
    refine xss_cons (xs_set 6 (xe_call f_reach_by (XA.sh ((xv 0 rfl)) (XA.sh ((xv 4 rfl)) (XA.sh (nx (n := st.2.2[b]! + 1) (xe_op (xv 5 rfl) xe_int o_add) (by omega)) XA.nil))) 1 ⟨(c, ws[b]!, st.2.2[b]! + 1), ⟨hwy, by dsimp only; omega⟩, rfl, rfl⟩) ?_)
    refine xss_cons (xs_setLc 7 (lc_d (zs := List.range ws.length) (f := eN) (t := fun k => reachOf c ws[k]! st.2.2[k]! == reachOf c ws[b]! (st.2.2[b]! + 1)) (g := eN) 12 [("canal", true), ("ways", true), ("state", true), ("boat", false), ("way", false), ("place", false), ("beyond", true), ("there", false), ("step", false), ("waters", false), ("full", false), ("one", false), ("k", true)] ["_law_reach_by"] (by decide +kernel) (XE.itR ((xe_lenL (xv 1 rfl) 0).to (by rw [List.length_map])) (by omega) 2 (Bl.range (pg := pg))) (by rw [List.length_range]; omega) (fun sc' Γ' k hk => .one ((xt_cmp (xe_call f_reach_by (XA.sh ((xv 0 rfl)) (XA.sh (xe_ixL (xv 1 rfl) (xv 12 rfl) rfl (at_map (f := eWy) (List.mem_range.mp hk))) (XA.sh (xe_ixT (xe_ixt (xv 2 rfl)) (xv 12 rfl) rfl (at_map (f := eN) (by rw [S.pl]; exact List.mem_range.mp hk))) XA.nil))) 0 ⟨(c, ws[k]!, st.2.2[k]!), ⟨Z.wy _ (mem_get (List.mem_range.mp hk)), Z.pl k (List.mem_range.mp hk)⟩, rfl, rfl⟩) (xv 6 rfl) o_eqI).to rfl)) (fun sc' Γ' k hk _ => (xv 12 rfl))) ?_ (by decide +kernel))
    refine xss_one (xs_if (xt_cmp ((xe_lenP (xpv 7 (.inl rfl)) 0).to (da := eN (lying c ws st (reachOf c ws[b]! (st.2.2[b]! + 1)))) (by rw [List.length_map]; rfl)) (f_berths (xe_ixL (f_reaches (xv 0 rfl)) (xv 6 rfl) hr2 (at_map (f := eRch pg) hr1))) o_ge) (fun q => xss_one (xs_ret xe_str ?_)) (fun q => xss_nil ⟨?_, _, _, rfl⟩))
    · have q := of_decide_eq_true q
      refine (hr _).mpr ?_
      unfold whyNoPass
      rw [if_neg (by omega), if_pos ⟨hp1, by rw [hr2, Int.toNat_natCast]; rw [hr2] at q; exact q⟩]
    · have q := of_decide_eq_false q
      rintro ⟨_, z⟩
      rw [hr2, Int.toNat_natCast] at z
      rw [hr2] at q
      exact q z
  · have q := of_decide_eq_false q
    rw [List.length_map] at q
    rintro ⟨z, _⟩
    omega
  rintro ρ ⟨hn, s6, s7, rfl⟩
  have hk := S.step_lt hb hp
  have hch : c.chamber ((ws[b]!).2[st.2.2[b]!]!).1 < st.2.1.length := by rw [S.wa]; exact chamber_lt hk
  have hba : c.basin ((ws[b]!).2[st.2.2[b]!]!).1 < st.2.1.length := by rw [S.wa]; exact basin_lt hk
  have hin := passPours_in W S hb hp
  have hwl2 : ∀ f u, (lWords f u).length ≤ 10 := fun f u => by cases f <;> cases u <;> exact Nat.le_of_ble_eq_true rfl
  refine xss_cons (xs_set 8 (xe_ixT (xe_ixt (xv 4 rfl)) (xv 5 rfl) rfl (at_map (f := eStep) hp)) ?_)
  refine xss_cons (xs_setO 9 (xo_listT (xe_ixt (xv 2 rfl)) 3) ?_)
  refine xss_cons (xs_set 10 ((xe_cmp (xe_ixO 9 rfl (nx (n := c.chamber ((ws[b]!).2[st.2.2[b]!]!).1) (xe_op (xe_lenL (f_reaches (xv 0 rfl)) 0) (xe_ixt (xv 8 rfl)) o_add) (by rw [List.length_map]; rfl)) rfl (at_map (f := D.int) hch)) xe_int o_gt).to (da := .bl (c.full st.2.1 ((ws[b]!).2[st.2.2[b]!]!).1)) rfl) ?_)
  obtain ⟨ps, eps⟩ : ∃ ps, ps = passPours c ws st b := ⟨_, rfl⟩
  rw [← eps] at hin
  refine xss_mid (fun ρ => tooDry c st.2.1 ps = false)
    (xs_forL 11 (fun k ρ => tooDry c st.2.1 ps = tooDry c (pourAll st.2.1 (ps.take k)) (ps.drop k) ∧ ∃ s11, ρ = [.sh (eCnl pg c), .sh (.lst (ws.map eWy)), .sh (eSta st), .sh (eN b), .sh (eWy ws[b]!), .sh (eN st.2.2[b]!), s6, s7, .sh (eStep (ws[b]!).2[st.2.2[b]!]!), .ow (.lst ((pourAll st.2.1 (ps.take k)).map D.int)), .sh (.bl (c.full st.2.1 ((ws[b]!).2[st.2.2[b]!]!).1)), s11, .no])
      (XE.to (da := .lst (ps.map ePr)) (XO.lst (xo_call f_row_of (XA.sh ((xv 0 rfl)) (XA.sh (xe_ixt (xv 2 rfl)) (XA.sh (xe_ixt (xv 8 rfl)) (XA.sh (xe_call f_words (XA.sh ((xv 10 rfl)) (XA.sh (xe_ixt (xv 8 rfl)) XA.nil)) 5 ⟨(c.full st.2.1 ((ws[b]!).2[st.2.2[b]!]!).1, ((ws[b]!).2[st.2.2[b]!]!).2), trivial, rfl, rfl⟩) XA.nil)))) 4 ⟨(c, (true, st.2.1), ((ws[b]!).2[st.2.2[b]!]!).1, lWords (c.full st.2.1 ((ws[b]!).2[st.2.2[b]!]!).1) ((ws[b]!).2[st.2.2[b]!]!).2), ⟨hk, hba, hwl2 _ _⟩, rfl, rfl⟩)) (by dsimp only; rw [Z.row hb hp, eps])) ⟨rfl, _, rfl⟩ ?_ ?_) ?_
  · rintro k _ ρ hx ⟨he, s11, rfl⟩
    obtain ⟨hk, rfl⟩ := map_at hx
    have hl : (pourAll st.2.1 (ps.take k)).length = c.many := by rw [pourAll_len]; exact S.wa
    have hpk := hin _ (mem_get hk)
    have h1 : ((ps[k]!).1 : Nat) < (pourAll st.2.1 (ps.take k)).length := by rw [hl]; exact hpk.1
    have h2 : ((ps[k]!).2.1 : Nat) < (pourAll st.2.1 (ps.take k)).length := by rw [hl]; exact hpk.2
    have h3 : ((ps[k]!).1 : Nat) < (pourAll st.2.1 (ps.take (k + 1))).length := by rw [pourAll_len, S.wa]; exact hpk.1
    have ed : ps.drop k = ps[k]! :: ps.drop (k + 1) := by rw [List.drop_eq_getElem_cons hk, getElem!_pos ps k hk]
    rw [ed, tooDry_cons, ← pourAll_take hk] at he
    refine xss_cons (xs_setitem 9 rfl (xe_op (xe_ixO 9 rfl (xe_ixt (xv 11 rfl)) rfl (at_map (f := D.int) h1)) (xe_ixt (xv 11 rfl)) o_sub) (xe_ixt (xv 11 rfl)) rfl (by rw [List.length_map]; exact h1) ?_)
    rw [set_int]
    refine xss_cons (xs_setitem 9 rfl (xe_op (xe_ixO 9 rfl (xe_ixt (xv 11 rfl)) rfl (at_map (f := D.int) (by rw [List.length_set]; exact h2))) (xe_ixt (xv 11 rfl)) o_add) (xe_ixt (xv 11 rfl)) rfl (by rw [List.length_map, List.length_set]; exact h2) ?_)
    rw [set_int]
    have ep : ((pourAll st.2.1 (ps.take k)).set (ps[k]!).1 ((pourAll st.2.1 (ps.take k))[(ps[k]!).1]! - (ps[k]!).2.2)).set (ps[k]!).2.1 (((pourAll st.2.1 (ps.take k)).set (ps[k]!).1 ((pourAll st.2.1 (ps.take k))[(ps[k]!).1]! - (ps[k]!).2.2))[(ps[k]!).2.1]! + (ps[k]!).2.2) = pourAll st.2.1 (ps.take (k + 1)) := by rw [pourAll_take hk]; rfl
    rw [ep]
    refine xss_one (xs_if (c := decide ((ps[k]!).1 < c.nr) && decide ((pourAll st.2.1 (ps.take (k + 1)))[(ps[k]!).1]! < (c.reaches[(ps[k]!).1]!).least)) (xt_and ((xt_cmp (xe_ixt (xv 11 rfl)) (xe_lenL (f_reaches (xv 0 rfl)) 0) o_lt).to (by rw [List.length_map]; exact decide_eq_decide.mpr Int.ofNat_lt)) (fun q => xt_cmp (xe_ixO 9 rfl (xe_ixt (xv 11 rfl)) rfl (at_map (f := D.int) h3)) (f_least (xe_ixL (f_reaches (xv 0 rfl)) (xe_ixt (xv 11 rfl)) rfl (at_map (f := eRch pg) (of_decide_eq_true q)))) o_lt)) (fun q => xss_one (xs_ret xe_str ?_)) (fun q => xss_nil ?_))
    · rw [Bool.and_eq_true, decide_eq_true_eq, decide_eq_true_eq] at q
      refine (hr _).mpr ?_
      unfold whyNoPass
      rw [if_neg (by omega), if_neg hn, ← eps, he, if_pos q, if_pos rfl]
    · refine ⟨?_, _, rfl⟩
      rw [he, if_neg]
      intro z
      rw [decide_eq_true z.1, decide_eq_true z.2] at q
      cases q
  · rintro ρ ⟨he, s11, rfl⟩
    have hz : (ps.map ePr).length = ps.length := List.length_map ..
    rw [hz, List.drop_length] at he
    exact he
  · rintro ρ he
    refine xss_one (xs_ret xe_str ?_)
    refine (hr _).mpr ?_
    unfold whyNoPass
    rw [if_neg (by omega), if_neg hn, ← eps, he, if_neg Bool.false_ne_true]
theorem s93 : Sc [("canal", true), ("ways", true), ("state", true), ("deed", true)] ["canal", "ways", "state", "deed"] ["_law_why_no_pass", "int", "len"] (defScope (top 93)) := sc_by (by decide +kernel)
theorem l_why : Fn pg 5 false "_law_why" [] (Ct (fun a : Cnl × List Wy × Sta × Deed => StW a.1 a.2.1 a.2.2.1 ∧ DW a.1 a.2.1 a.2.2.2) (fun a => [.sh (eCnl pg a.1), .sh (.lst (a.2.1.map eWy)), .sh (eSta a.2.2.1), .sh (eDeed a.2.2.2)]) fun a => .sh (.str (whyNot a.1 a.2.1 a.2.2.1 a.2.2.2))) := by
  refine fn_ct 93 56 rfl s93 (fun _ => rfl) (fun _ _ _ _ _ _ us hl => match us, hl with | [_, _, _, _], _ => rfl) ?_
  rintro Γ ⟨c, ws, st, d⟩ ⟨Z, hd⟩
  dsimp only at Z hd ⊢
  cases d with
  | pass b => exact xss_cons (xs_if (xt_cmp (xe_ixt (xv 3 rfl)) xe_str o_eqS) (fun q => xss_one (xs_ret (xe_call l_why_no_pass (XA.sh ((xv 0 rfl)) (XA.sh ((xv 1 rfl)) (XA.sh ((xv 2 rfl)) (XA.sh (xe_ixt (xv 3 rfl)) XA.nil)))) 0 ⟨(c, ws, st, b), ⟨Z, hd⟩, rfl, rfl⟩) rfl)) (fun q => xss_no (absurd q (by decide))))
  | let_ k =>
    have hch : c.chamber k < st.2.1.length := by rw [Z.sw.wa]; exact chamber_lt hd
    refine xss_cons (xs_if (xt_cmp (xe_ixt (xv 3 rfl)) xe_str o_eqS) (fun q => xss_no (absurd q (by decide))) (fun q => xss_nil ?_))
    refine xss_cons (xs_if (xt_cmp (xe_ixt (xv 3 rfl)) xe_str o_eqS) (fun q => xss_one (xs_ret (pick2 (c := c.full st.2.1 k) (ls (XB.sh (xe_str) (XB.sh (xe_str) XB.nil))) (xe_intB (xe_cmp (xe_ixT (xe_ixt (xv 2 rfl)) (nx (n := c.chamber k) (xe_op (xe_lenL (f_reaches (xv 0 rfl)) 2) (xe_ixt (xv 3 rfl)) o_add) (by rw [List.length_map]; rfl)) rfl (at_map (f := D.int) hch)) xe_int o_gt) 1)) ?_)) (fun q => xss_no (absurd q (by decide))))
    show Rz.sh _ = Rz.sh (.str (if c.full st.2.1 k then "" else "empty"))
    cases c.full st.2.1 k <;> rfl
  | night =>
    refine xss_cons (xs_if (xt_cmp (xe_ixt (xv 3 rfl)) xe_str o_eqS) (fun q => xss_no (absurd q (by decide))) (fun q => xss_nil ?_))
    refine xss_cons (xs_if (xt_cmp (xe_ixt (xv 3 rfl)) xe_str o_eqS) (fun q => xss_no (absurd q (by decide))) (fun q => xss_nil ?_))
    refine xss_one (xs_ret (pick2 (c := decide (st.1 < c.nights.length)) (ls (XB.sh (xe_str) (XB.sh (xe_str) XB.nil))) (xe_intB ((xe_cmp (xe_ixt (xv 2 rfl)) (xe_lenL (f_nights (xv 0 rfl)) 2) o_lt).to (by rw [List.length_map]; exact congrArg D.bl (decide_eq_decide.mpr Int.ofNat_lt))) 1)) ?_)
    show Rz.sh _ = Rz.sh (.str (if st.1 < c.nights.length then "" else "over"))
    by_cases q : st.1 < c.nights.length
    · rw [if_pos q, decide_eq_true q]
      rfl
    · rw [if_neg q, decide_eq_false q]
      rfl
theorem s94 : Sc [("canal", true), ("ways", true), ("every", true), ("boat", false), ("k", false)] ["canal", "ways"] ["range", "len"] (defScope (top 94)) := sc_by (by decide +kernel)
theorem l_deeds : Fn pg 1 false "_law_deeds" [] (Ct (fun a : Cnl × List Wy => a.1.nl ≤ 10 ∧ a.2.length ≤ 10) (fun a => [.sh (eCnl pg a.1), .sh (.lst (a.2.map eWy))]) fun a => .ow (.lst ((deeds a.1 a.2).map eDeed))) := by
  refine fn_ct 94 57 rfl s94 (fun _ => rfl) (fun _ _ _ _ _ _ us hl => match us, hl with | [_, _], _ => rfl) ?_
  rintro Γ ⟨c, ws⟩ ⟨hl, hw⟩
  dsimp only at hl hw ⊢
  have hll : c.locks.length ≤ 10 := hl
  refine xss_cons (xs_setLc 2 (lc_m (zs := List.range ws.length) (f := eN) (g := fun b => eDeed (.pass b)) 3 [("canal", false), ("ways", false), ("every", false), ("boat", true), ("k", false)] [] (by decide +kernel) (XE.itR ((xe_lenL (xv 1 rfl) 1).to (by rw [List.length_map])) (by omega) 0 (Bl.range (pg := pg))) (by rw [List.length_range]; omega) (fun _ _ _ _ => tup (XB.sh (xe_str) (XB.sh ((xv 3 rfl)) XB.nil)))) ?_ (by decide +kernel))
  refine xss_cons (xs_setO 2 (xo_cat (XP.l (xpv 2 (.inl rfl))) (XO.l (lc_m (zs := List.range c.nl) (f := eN) (g := fun b => eDeed (.let_ b)) 4 [("canal", false), ("ways", false), ("every", false), ("boat", false), ("k", true)] [] (by decide +kernel) (XE.itR ((xe_lenL (f_locks (xv 0 rfl)) 1).to (by rw [List.length_map])) (by omega) 0 (Bl.range (pg := pg))) (by rw [List.length_range]; omega) (fun _ _ _ _ => tup (XB.sh (xe_str) (XB.sh ((xv 4 rfl)) XB.nil)))).xo) (by simp; omega)) ?_)
  refine xss_one (xs_retO (xo_cat (XP.l (xpv 2 (.inl rfl))) (XE.l (ls (XB.sh (tup (XB.sh (xe_str) XB.nil)) XB.nil))) (by simp; omega)) ?_)
  show Rz.ow _ = Rz.ow _
  unfold deeds
  rw [List.map_append, List.map_append, List.map_map, List.map_map]
  rfl
end Lk
set_option maxHeartbeats 400000
namespace Lk
open PySem PySem.Spec PyProof.Rows L2
theorem set_get_self {α : Type} [Inhabited α] (h : List α) (i : Nat) (hi : i < h.length) : h.set i h[i]! = h := by
  apply List.ext_getElem?
  intro j
  by_cases e : i = j
  · subst e
    rw [List.getElem?_set_self hi, List.getElem?_eq_getElem hi, getElem!_pos h i hi]
  · rw [List.getElem?_set_ne e]
theorem pour1_zero {h : List Int} {i j : Nat} (hi : i < h.length) (hj : j < h.length) : pour1 h (i, j, 0) = h := by
  unfold pour1
  dsimp only
  rw [Int.sub_zero, set_get_self h i hi, Int.add_zero, set_get_self h j hj]
theorem pourAll_app (h : List Int) (a b : List Pr) : pourAll h (a ++ b) = pourAll (pourAll h a) b := List.foldl_append
theorem spillsK_at {ws : List (Int × Nat)} {wa : List Int} : ∀ {n k : Nat}, k < n → n ≤ ws.length → (spillsK ws wa n)[ws.length - 1 - k]! = over ws (settledK ws wa k) (ws.length - 1 - k)
  | n + 1, k, h, hn => by
    have hl : (spillsK ws wa n).length = ws.length := spillsK_len ws wa n
    unfold spillsK
    by_cases e : k = n
    · subst e
      rw [getElem!_pos _ _ (by rw [List.length_set, hl]; omega), List.getElem_set_self]
    · rw [getElem!_pos _ _ (by rw [List.length_set, hl]; omega), List.getElem_set_ne (by omega), ← getElem!_pos _ _ (by rw [hl]; omega)]
      exact spillsK_at (n := n) (by omega) (by omega)
/-- the pours of the weirs, those from the last reach down to the n-th from the end -/
def wpK (c : Cnl) (wa : List Int) (n : Nat) : List Pr := ((List.range n).filter fun k => decide (0 < over c.weirs (settledK c.weirs wa k) (c.nr - 1 - k))).map fun k => (c.nr - 1 - k, (c.weirs[c.nr - 1 - k]!).2, over c.weirs (settledK c.weirs wa k) (c.nr - 1 - k))
theorem wp_eq (c : Cnl) (wa : List Int) : weirPours c wa = wpK c wa c.nr := by
  have hl := weirs_len c
  unfold weirPours wpK
  dsimp only
  have key : ∀ k, k ∈ List.range c.nr → (spills c.weirs wa)[c.nr - 1 - k]! = over c.weirs (settledK c.weirs wa k) (c.nr - 1 - k) := fun k hk => by
    have := spillsK_at (ws := c.weirs) (wa := wa) (n := c.nr) (List.mem_range.mp hk) (by rw [hl]; exact Nat.le_refl _)
    rw [hl] at this
    unfold spills
    rw [hl]
    exact this
  rw [List.filter_congr fun k hk => by rw [key k hk]]
  refine List.map_congr_left fun k hk => ?_
  rw [key k ((List.mem_filter.mp hk).1)]
theorem over_nn (ws : List (Int × Nat)) (wa : List Int) (i : Nat) : 0 ≤ over ws wa i := by unfold over; omega
theorem pour_wp {c : Cnl} (W : CW c) {wa : List Int} (hw : wa.length = c.many) : ∀ n, n ≤ c.nr → pourAll wa (wpK c wa n) = settledK c.weirs wa n
  | 0, _ => rfl
  | n + 1, h => by
    have hl := weirs_len c
    have hm := W.many_le
    have ih := pour_wp W hw n (by omega)
    have e : settledK c.weirs wa (n + 1) = pour1 (settledK c.weirs wa n) (c.nr - 1 - n, (c.weirs[c.nr - 1 - n]!).2, over c.weirs (settledK c.weirs wa n) (c.nr - 1 - n)) := by
      show spilled c.weirs (settledK c.weirs wa n) (c.weirs.length - 1 - n) = _
      rw [hl]
      rfl
    have l1 : c.nr - 1 - n < (settledK c.weirs wa n).length := by rw [settledK_len, hw]; omega
    have l2 : (c.weirs[c.nr - 1 - n]!).2 < (settledK c.weirs wa n).length := by rw [settledK_len, hw]; exact W.weir_lt _ (mem_get (by rw [hl]; omega))
    unfold wpK at ih ⊢
    rw [List.range_succ, List.filter_append, List.map_append, pourAll_app, ih, e, List.filter_cons]
    by_cases q : 0 < over c.weirs (settledK c.weirs wa n) (c.nr - 1 - n)
    · rw [if_pos (decide_eq_true q)]
      rfl
    · rw [if_neg (by simpa using q)]
      have z : over c.weirs (settledK c.weirs wa n) (c.nr - 1 - n) = 0 := by
        have := over_nn c.weirs (settledK c.weirs wa n) (c.nr - 1 - n)
        omega
      rw [z, pour1_zero l1 l2]
      rfl
theorem pour_weirs {c : Cnl} (W : CW c) {wa : List Int} (hw : wa.length = c.many) : pourAll wa (weirPours c wa) = settled c.weirs wa := by
  rw [wp_eq, pour_wp W hw c.nr (Nat.le_refl _)]
  unfold settled
  rw [weirs_len]
/-- the rows behind the law's settling -/
def stR (c : Cnl) (wa : List Int) (row : List Pr) : Nat → List Pr
  | 0 => row
  | j + 1 => if 0 < (settledK c.weirs wa j)[c.nr - 1 - j]! - (c.reaches[c.nr - 1 - j]!).crest then stR c wa row j ++ [(c.nr - 1 - j, (c.weirs[c.nr - 1 - j]!).2, (settledK c.weirs wa j)[c.nr - 1 - j]! - (c.reaches[c.nr - 1 - j]!).crest)] else stR c wa row j
theorem stR_len (c : Cnl) (wa : List Int) (row : List Pr) : ∀ j, (stR c wa row j).length ≤ row.length + j
  | 0 => Nat.le_refl _
  | j + 1 => by
    have := stR_len c wa row j
    unfold stR
    split
    · rw [List.length_append, List.length_singleton]; omega
    · omega
theorem settle_step {c : Cnl} (W : CW c) {wa : List Int} (hw : wa.length = c.many) {n : Nat} (h : n < c.nr) : settledK c.weirs wa (n + 1) = if 0 < (settledK c.weirs wa n)[c.nr - 1 - n]! - (c.reaches[c.nr - 1 - n]!).crest then pour1 (settledK c.weirs wa n) (c.nr - 1 - n, (c.weirs[c.nr - 1 - n]!).2, (settledK c.weirs wa n)[c.nr - 1 - n]! - (c.reaches[c.nr - 1 - n]!).crest) else settledK c.weirs wa n := by
  have hl := weirs_len c
  have hm := W.many_le
  have e : settledK c.weirs wa (n + 1) = pour1 (settledK c.weirs wa n) (c.nr - 1 - n, (c.weirs[c.nr - 1 - n]!).2, over c.weirs (settledK c.weirs wa n) (c.nr - 1 - n)) := by
    show spilled c.weirs (settledK c.weirs wa n) (c.weirs.length - 1 - n) = _
    rw [hl]
    rfl
  have l1 : c.nr - 1 - n < (settledK c.weirs wa n).length := by rw [settledK_len, hw]; omega
  have l2 : (c.weirs[c.nr - 1 - n]!).2 < (settledK c.weirs wa n).length := by rw [settledK_len, hw]; exact W.weir_lt _ (mem_get (by rw [hl]; omega))
  have ec : (c.weirs[c.nr - 1 - n]!).1 = (c.reaches[c.nr - 1 - n]!).crest := by rw [weirs_get c (by omega)]; rfl
  rw [e]
  unfold over
  rw [ec]
  split
  · rename_i q
    rw [show max 0 ((settledK c.weirs wa n)[c.nr - 1 - n]! - (c.reaches[c.nr - 1 - n]!).crest) = (settledK c.weirs wa n)[c.nr - 1 - n]! - (c.reaches[c.nr - 1 - n]!).crest by omega]
  · rename_i q
    rw [show max 0 ((settledK c.weirs wa n)[c.nr - 1 - n]! - (c.reaches[c.nr - 1 - n]!).crest) = 0 by omega]
    exact pour1_zero l1 l2
theorem night_eq {c : Cnl} {wa : List Int} {w : List (Int × Int)} (h : w.length = c.nr) : (((List.range c.nr).map fun (r : Nat) => ((r, c.sky, min (wa[r]!) ((w[r]!).2)) : Pr)) ++ (List.range c.nr).map fun r => ((c.sky, r, (w[r]!).1) : Pr)).filter posP = goneP c wa w ++ comeP c w := by
  rw [List.filter_append, List.filter_map, List.filter_map]
  unfold goneP comeP
  rw [h]
  rfl
end Lk
set_option maxHeartbeats 400000
namespace Lk
open PySem PySem.Spec PyProof.Rows L2
theorem its_ml {ρ : List Sl} {i j : Nat} {o o' p : OT} (h : ρ[i]? = some (Sl.ow o)) (h2 : ρ[j]? = some (Sl.ow p) ∨ ρ[j]? = some (Sl.ro p)) (hij : i ≠ j) : ItsIn ρ [.mu i o o', .lk j p] := by
  refine ⟨fun a b q q' e => ?_, fun a b q e => ?_, fun a a' b q q' r r' e e' => ?_, fun a a' b q r r' e e' => ?_⟩
  · match a, e with
    | 0, e => cases e; exact h
    | 1, e => cases e
  · match a, e with
    | 0, e => cases e
    | 1, e => cases e; exact h2
  · match a, a', e, e' with
    | 0, 0, _, _ => rfl
    | 0, 1, _, e' => cases e'
    | 1, _, e, _ => cases e
  · match a, a', e, e' with
    | 0, _, e, _ => cases e
    | 1, 0, e, e' => cases e; cases e'; exact hij rfl
    | 1, 1, _, e' => cases e'
theorem its_smm {ρ : List Sl} {i j : Nat} {o o' p p' : OT} {d : D} (h : ρ[i]? = some (Sl.ow o)) (h2 : ρ[j]? = some (Sl.ow p)) (hij : i ≠ j) : ItsIn ρ [.sh d, .mu i o o', .mu j p p'] := by
  refine ⟨fun a b q q' e => ?_, fun a b q e => ?_, fun a a' b q q' r r' e e' => ?_, fun a a' b q r r' e e' => ?_⟩
  · match a, e with
    | 0, e => cases e
    | 1, e => cases e; exact h
    | 2, e => cases e; exact h2
  · match a, e with
    | 0, e => cases e
    | 1, e => cases e
    | 2, e => cases e
  · match a, a', e, e' with
    | 0, _, e, _ => cases e
    | 1, 0, _, e' => cases e'
    | 1, 1, _, _ => rfl
    | 1, 2, e, e' => cases e; cases e'; exact absurd rfl hij
    | 2, 0, _, e' => cases e'
    | 2, 1, e, e' => cases e; cases e'; exact absurd rfl hij
    | 2, 2, _, _ => rfl
  · match a, e with
    | 0, e => cases e
    | 1, e => cases e
    | 2, e => cases e
def intsO (wa : List Int) : OT := .lst (wa.map D.int)
def prsO (ps : List Pr) : OT := .lst (ps.map ePr)
variable {pg : Pg} [Lib3 pg]
theorem s96 : Sc [("waters", true), ("row", true), ("one", true)] ["waters", "row"] [] (defScope (top 96)) := sc_by (by decide +kernel)
theorem l_pour : FnM pg 1 false "_law_pour" (CtM (fun a : List Int × List Pr => ∀ p ∈ a.2, PrIn a.1.length p) (fun a => [.mu (intsO a.1) (intsO (pourAll a.1 a.2)), .pk (prsO a.2)]) fun _ => .sh .non) := by
  refine fnM_ct [0] 96 59 rfl s96 (fun _ => rfl) (fun _ => rfl) (fun _ _ _ _ _ _ us hl => match us, hl with | [_, _], _ => rfl) ?_
  rintro Γ ⟨wa, ps⟩ hin
  dsimp only at hin ⊢
  refine xss_one (xs_forP 2 1 (fun k ρ => ∃ s2, ρ = [.ow (intsO (pourAll wa (ps.take k))), .ro (prsO ps), s2]) rfl ⟨_, rfl⟩ ?_ ?_)
  · rintro k _ ρ hx ⟨s2, rfl⟩
    obtain ⟨hk, rfl⟩ := map_at hx
    have hpk := hin _ (mem_get hk)
    have h1 : ((ps[k]!).1 : Nat) < (pourAll wa (ps.take k)).length := by rw [pourAll_len]; exact hpk.1
    have h2 : ((ps[k]!).2.1 : Nat) < (pourAll wa (ps.take k)).length := by rw [pourAll_len]; exact hpk.2
    refine xss_cons (xs_setitem 0 rfl (xe_op (xe_ixO 0 rfl (xe_ixt (xv 2 rfl)) rfl (at_map (f := D.int) h1)) (xe_ixt (xv 2 rfl)) o_sub) (xe_ixt (xv 2 rfl)) rfl (by rw [List.length_map]; exact h1) ?_)
    rw [set_int]
    refine xss_one (xs_setitem 0 rfl (xe_op (xe_ixO 0 rfl (xe_ixt (xv 2 rfl)) rfl (at_map (f := D.int) (by rw [List.length_set]; exact h2))) (xe_ixt (xv 2 rfl)) o_add) (xe_ixt (xv 2 rfl)) rfl (by rw [List.length_map, List.length_set]; exact h2) ?_)
    rw [set_int]
    show ∃ s2, _
    rw [pourAll_take hk]
    exact ⟨_, rfl⟩
  · rintro ρ ⟨s2, rfl⟩
    rw [show (ps.map ePr).length = ps.length from List.length_map _, List.take_length]
    exact ⟨rfl, mu0 rfl⟩
theorem s95 : Sc [("canal", true), ("waters", true), ("row", true), ("many", true), ("j", true), ("r", true), ("more", true), ("target", true)] ["canal", "waters", "row"] ["len", "range"] (defScope (top 95)) := sc_by (by decide +kernel)
theorem l_settle : FnM pg 1 false "_law_settle" (CtM (fun a : Cnl × List Int × List Pr => CW a.1 ∧ a.2.1.length = a.1.many ∧ a.2.2.length ≤ 1000) (fun a => [.sh (eCnl pg a.1), .mu (intsO a.2.1) (intsO (settled a.1.weirs a.2.1)), .mu (prsO a.2.2) (prsO (stR a.1 a.2.1 a.2.2 a.1.nr))]) fun _ => .sh .non) := by
  refine fnM_ct [1, 2] 95 58 rfl s95 (fun _ => rfl) (fun _ => rfl) (fun _ _ _ _ _ _ us hl => match us, hl with | [_, _, _], _ => rfl) ?_
  rintro Γ ⟨c, wa, row⟩ ⟨W, hw, hl⟩
  dsimp only at W hw hl ⊢
  have hm := W.many_le
  have hrm : c.reaches.length ≤ 10 := W.rm
  have hwl := weirs_len c
  have hnl : c.locks.length = c.nl := rfl
  refine xss_cons (xs_set 3 ((xe_lenL (f_reaches (xv 0 rfl)) 0).to (da := eN c.nr) (by rw [List.length_map])) ?_)
  refine xss_one (xs_forR (n := c.nr) 4 (fun j ρ => ∃ s4 s5 s6 s7, ρ = [.sh (eCnl pg c), .ow (intsO (settledK c.weirs wa j)), .ow (prsO (stR c wa row j)), .sh (eN c.nr), s4, s5, s6, s7]) (xv 3 rfl) (by have := W.rm; omega) ⟨_, _, _, _, rfl⟩ ?_ ?_ 1 (Bl.range (pg := pg)))
  · rintro j ρ hj ⟨s4, s5, s6, s7, rfl⟩
    have hj : j < c.nr := by omega
    have hr : c.nr - 1 - j < c.reaches.length := by show _ < c.nr; omega
    have hsl := stR_len c wa row j
    have h1 : c.nr - 1 - j < (settledK c.weirs wa j).length := by rw [settledK_len, hw]; omega
    have h2 : (c.weirs[c.nr - 1 - j]!).2 < (settledK c.weirs wa j).length := by rw [settledK_len, hw]; exact W.weir_lt _ (mem_get (by rw [hwl]; exact hr))
    have hwg := weirs_get c hr
    have st := settle_step W hw hj
    refine xss_cons (xs_set 5 (nx (n := c.nr - 1 - j) (xe_op (xe_op (xv 3 rfl) xe_int o_sub) (xv 4 rfl) o_sub) (by omega)) ?_)
    refine xss_cons (xs_set 6 (xe_op (xe_ixO 1 rfl (xv 5 rfl) rfl (at_map (f := D.int) h1)) (f_crest (xe_ixL (f_reaches (xv 0 rfl)) (xv 5 rfl) rfl (at_map hr))) o_sub) ?_)
    refine xss_cons (xs_set 7 (f_target (xe_ixL (f_reaches (xv 0 rfl)) (xv 5 rfl) rfl (at_map hr))) ?_)
    obtain ⟨more, em⟩ : ∃ more, more = (settledK c.weirs wa j)[c.nr - 1 - j]! - (c.reaches[c.nr - 1 - j]!).crest := ⟨_, rfl⟩
    rw [← em] at st ⊢
    refine xss_mid (fun ρ => ρ = [.sh (eCnl pg c), .ow (intsO (settledK c.weirs wa j)), .ow (prsO (stR c wa row j)), .sh (eN c.nr), .sh (eN j), .sh (eN (c.nr - 1 - j)), .sh (.int more), .sh (eN (c.weirs[c.nr - 1 - j]!).2)])
      (xs_if (xt_cmp (xv 7 rfl) xe_int o_lt) (fun h => xss_one (xs_set 7 (nx (n := c.sea) (xe_op (xv 3 rfl) (xe_op xe_int (xe_lenL (f_locks (xv 0 rfl)) 0) (o_mul (cmL (by decide)))) o_add) (by rw [List.length_map]; unfold Cnl.sea; omega)) ?_)) (fun h => xss_nil ?_)) ?_
    · have h := of_decide_eq_true h
      have : (c.weirs[c.nr - 1 - j]!).2 = c.sea := by
        rw [hwg]
        unfold Cnl.weir
        cases q : (c.reaches[c.nr - 1 - j]!).target with
        | none => rfl
        | some t => rw [q] at h; exact absurd h (by show ¬ ((t : Int) < 0); omega)
      rw [this]
      rfl
    · have h := of_decide_eq_false h
      have : (((c.weirs[c.nr - 1 - j]!).2 : Nat) : Int) = eTgt (c.reaches[c.nr - 1 - j]!).target := by
        rw [hwg]
        unfold Cnl.weir
        cases q : (c.reaches[c.nr - 1 - j]!).target with
        | none => rw [q] at h; exact absurd (by decide) h
        | some t => rfl
      show _ = [_, _, _, _, _, _, _, Sl.sh (.int ((c.weirs[c.nr - 1 - j]!).2 : Nat))]
      rw [this]
      rfl
    rintro _ rfl
    refine xss_one (xs_if (xt_cmp (xv 6 rfl) xe_int o_gt) (fun q => ?_) (fun q => xss_nil ?_))
    · have q := of_decide_eq_true q
      rw [if_pos q] at st
      refine xss_cons (xs_append 2 rfl (d := ePr (c.nr - 1 - j, (c.weirs[c.nr - 1 - j]!).2, more)) (tup (XB.sh ((xv 5 rfl)) (XB.sh ((xv 7 rfl)) (XB.sh ((xv 6 rfl)) XB.nil)))) ?_ (by show (List.map _ _).length < _; rw [List.length_map]; omega))
      refine xss_cons (xs_setitem 1 rfl (xe_op (xe_ixO 1 rfl (xv 5 rfl) rfl (at_map (f := D.int) h1)) (xv 6 rfl) o_sub) (xv 5 rfl) rfl (by show _ < (List.map _ _).length; rw [List.length_map]; exact h1) ?_)
      rw [set_int]
      refine xss_one (xs_setitem 1 rfl (xe_op (xe_ixO 1 rfl (xv 7 rfl) rfl (at_map (f := D.int) (by rw [List.length_set]; exact h2))) (xv 6 rfl) o_add) (xv 7 rfl) rfl (by rw [List.length_map, List.length_set]; exact h2) ?_)
      rw [set_int]
      show ∃ s4 s5 s6 s7, _
      rw [st]
      have er : stR c wa row (j + 1) = stR c wa row j ++ [(c.nr - 1 - j, (c.weirs[c.nr - 1 - j]!).2, more)] := by
        show (if 0 < _ then _ else _) = _
        rw [← em, if_pos q]
      rw [er]
      unfold prsO
      rw [List.map_append]
      exact ⟨_, _, _, _, rfl⟩
    · have q := of_decide_eq_false q
      rw [if_neg q] at st
      show ∃ s4 s5 s6 s7, _
      rw [st]
      have er : stR c wa row (j + 1) = stR c wa row j := by
        show (if 0 < _ then _ else _) = _
        rw [← em, if_neg q]
      rw [er]
      exact ⟨_, _, _, _, rfl⟩
  · rintro ρ ⟨s4, s5, s6, s7, rfl⟩
    rw [Int.toNat_natCast]
    refine ⟨rfl, fun i o o' e => ?_⟩
    match i, e with
    | 0, e => cases e
    | 1, e =>
      cases e
      unfold settled
      rw [hwl]
      rfl
    | 2, e => cases e; rfl
theorem s97 : Sc [("canal", true), ("waters", true), ("weather", true), ("many", true), ("sky", true), ("row", true), ("r", false), ("one", false)] ["canal", "waters", "weather"] ["len", "range"] (defScope (top 97)) := sc_by (by decide +kernel)
theorem l_night_row : Fn pg 1 false "_law_night_row" [] (Ct (fun a : Cnl × List Int × List (Int × Int) => CW a.1 ∧ a.2.1.length = a.1.many ∧ a.2.2.length = a.1.nr) (fun a => [.sh (eCnl pg a.1), .pk (intsO a.2.1), .sh (eNight a.2.2)]) fun a => .ow (prsO (goneP a.1 a.2.1 a.2.2 ++ comeP a.1 a.2.2))) := by
  refine fn_ct 97 60 rfl s97 (fun _ => rfl) (fun _ _ _ _ _ _ us hl => match us, hl with | [_, _, _], _ => rfl) ?_
  rintro Γ ⟨c, wa, w⟩ ⟨W, hw, hl⟩
  dsimp only at W hw hl ⊢
  have hm := W.many_le
  have hrm : c.nr ≤ 10 := W.rm
  have hnl : c.locks.length = c.nl := rfl
  refine xss_cons (xs_set 3 ((xe_lenL (f_reaches (xv 0 rfl)) 0).to (da := eN c.nr) (by rw [List.length_map])) ?_)
  refine xss_cons (xs_set 4 (nx (n := c.sky) (xe_op (xe_op (xv 3 rfl) (xe_op xe_int (xe_lenL (f_locks (xv 0 rfl)) 0) (o_mul (cmL (by decide)))) o_add) xe_int o_add) (by rw [List.length_map]; unfold Cnl.sky Cnl.sea; omega)) ?_)
  refine xss_cons (xs_setLc 5 (lc_m (zs := List.range c.nr) (f := eN) (g := fun r => ePr (r, c.sky, min (wa[r]!) ((w[r]!).2))) 6 [("canal", false), ("waters", true), ("weather", true), ("many", false), ("sky", true), ("row", false), ("r", true), ("one", false)] ["min"] (by decide +kernel) (XE.itR (xv 3 rfl) (by omega) 1 (Bl.range (pg := pg))) (by rw [List.length_range]; omega) (fun sc' Γ' r hr => tup (XB.sh ((xv 6 rfl)) (XB.sh ((xv 4 rfl)) (XB.sh (xe_min (xe_ixP (XP.l (xpv 1 (.inr rfl))) (xv 6 rfl) rfl (at_map (f := D.int) (by have := List.mem_range.mp hr; omega))) (xe_ixt (xe_ixL (ds := w.map eWth) (xv 2 rfl) (xv 6 rfl) rfl (at_map (f := eWth) (by have := List.mem_range.mp hr; omega)))) 0) XB.nil))))) ?_ (by decide +kernel))
  refine xss_cons (xs_setO 5 (xo_cat (XP.l (xpv 5 (.inl rfl))) (XO.l (lc_m (zs := List.range c.nr) (f := eN) (g := fun r => ePr (c.sky, r, (w[r]!).1)) 6 [("canal", false), ("waters", false), ("weather", true), ("many", false), ("sky", true), ("row", false), ("r", true), ("one", false)] [] (by decide +kernel) (XE.itR (xv 3 rfl) (by omega) 1 (Bl.range (pg := pg))) (by rw [List.length_range]; omega) (fun sc' Γ' r hr => tup (XB.sh ((xv 4 rfl)) (XB.sh ((xv 6 rfl)) (XB.sh (xe_ixt (xe_ixL (ds := w.map eWth) (xv 2 rfl) (xv 6 rfl) rfl (at_map (f := eWth) (by have := List.mem_range.mp hr; omega)))) XB.nil))))).xo) (by simp; omega)) ?_)
  refine xss_one (xs_retO (lc_d (zs := ((List.range c.nr).map fun (r : Nat) => ((r, c.sky, min (wa[r]!) ((w[r]!).2)) : Pr)) ++ (List.range c.nr).map fun r => ((c.sky, r, (w[r]!).1) : Pr)) (f := ePr) (t := posP) (g := ePr) 7 [("canal", false), ("waters", false), ("weather", false), ("many", false), ("sky", false), ("row", false), ("r", false), ("one", true)] [] (by decide +kernel) (XL.it (XP.l (xpv 5 (.inl (congrArg some (congrArg (fun z => Sl.ow (.lst z)) ?_)))))) (by simp; omega) (fun sc' Γ' p hp => .one (xt_cmp (xe_ixt (xv 7 rfl)) xe_int o_gt)) (fun sc' Γ' p hp _ => (xv 7 rfl))).xo ?_)
  · rw [List.map_append, List.map_map, List.map_map]
    rfl
  · rw [night_eq hl]
    rfl
end Lk
set_option maxHeartbeats 400000
namespace Lk
open PySem PySem.Spec PyProof.Rows L2
/-- what the law's step tells -/
def lAft (c : Cnl) (ws : List Wy) (st : Sta) (d : Deed) : D := if whyNot c ws st d = "" then eSta (after c ws st d) else .non
theorem after_of {c : Cnl} {ws : List Wy} {st : Sta} {d : Deed} (Z : StW c ws st) {row : List Pr} (h : poursD c ws st d = row ++ weirPours c (pourAll st.2.1 row)) : pourAll st.2.1 (poursD c ws st d) = settled c.weirs (pourAll st.2.1 row) := by
  rw [h, pourAll_app, pour_weirs Z.cw (by rw [pourAll_len]; exact Z.sw.wa)]
def dNight : Deed → Bool
  | .night => true
  | _ => false
variable {pg : Pg} [Lib3 pg]
section
variable {sc : Scope} {N : List (Str × Bool)} {G : List Str} {lv : Nat} {own : List Nat} {Γ : Gm pg sc N G lv own} {ρ : List Sl} {a : Expr} {pos q : Pos} {j : Nat} {d : Deed}
omit [Lib3 pg] in
theorem d_night (h : XE Γ a ρ (eDeed d)) {p1 p2 : Pos} {j2 : Nat} : XE Γ (.Compare (.Subscript a (.Constant (.int (0 : Nat)) j q) pos) [.Eq] [.Constant (.str "night") j2 p1] p2) ρ (.bl (dNight d)) := by
  cases d with
  | pass b => exact (xe_cmp (xe_ixt h) xe_str o_eqS).to rfl
  | let_ k => exact (xe_cmp (xe_ixt h) xe_str o_eqS).to rfl
  | night => exact (xe_cmp (xe_ixt h) xe_str o_eqS).to rfl
end
theorem s98 : Sc [("canal", true), ("ways", true), ("state", true), ("deed", true), ("waters", true), ("places", true), ("row", true), ("step", true)] ["canal", "ways", "state", "deed"] ["_law_why", "list", "_law_night_row", "_law_row_of", "_law_words", "len", "_law_pour", "_law_settle", "int", "tuple"] (defScope (top 98)) := sc_by (by decide +kernel)
theorem l_after : Fn pg 6 false "_law_after" [] (Ct (fun a : Cnl × List Wy × Sta × Deed => StW a.1 a.2.1 a.2.2.1 ∧ DW a.1 a.2.1 a.2.2.2) (fun a => [.sh (eCnl pg a.1), .sh (.lst (a.2.1.map eWy)), .sh (eSta a.2.2.1), .sh (eDeed a.2.2.2)]) fun a => .sh (lAft a.1 a.2.1 a.2.2.1 a.2.2.2)) := by
  refine fn_ct 98 61 rfl s98 (fun _ => rfl) (fun _ _ _ _ _ _ us hl => match us, hl with | [_, _, _, _], _ => rfl) ?_
  rintro Γ ⟨c, ws, st, d⟩ ⟨Z, hd⟩
  dsimp only at Z hd ⊢
  have S := Z.sw
  have W := Z.cw
  have hm := W.many_le
  refine xss_cons (xs_if (xt_cmp (xe_call l_why (XA.sh ((xv 0 rfl)) (XA.sh ((xv 1 rfl)) (XA.sh ((xv 2 rfl)) (XA.sh ((xv 3 rfl)) XA.nil)))) 0 ⟨(c, ws, st, d), ⟨Z, hd⟩, rfl, rfl⟩) xe_str o_neS) (fun q => xss_one (xs_ret xe_non ?_)) (fun q => xss_nil ?_))
  · rw [Bool.not_eq_true', decide_eq_false_iff_not] at q
    show Rz.sh _ = Rz.sh (lAft c ws st d)
    unfold lAft
    rw [if_neg q]
  have q : whyNot c ws st d = "" := by rw [Bool.not_eq_false', decide_eq_true_eq] at q; exact q
  have res : lAft c ws st d = eSta (after c ws st d) := by unfold lAft; rw [if_pos q]
  rw [res]
  refine xss_cons (xs_setO 4 (xo_listT (xe_ixt (xv 2 rfl)) 1) ?_)
  refine xss_cons (xs_setO 5 (xo_listT (xe_ixt (xv 2 rfl)) 1) ?_)
  refine xss_mid (fun ρ => ∃ row pl s7, (∀ p ∈ row, PrIn c.many p) ∧ row.length ≤ 100 ∧ after c ws st d = (st.1 + (if dNight d then 1 else 0), settled c.weirs (pourAll st.2.1 row), pl) ∧ ρ = [.sh (eCnl pg c), .sh (.lst (ws.map eWy)), .sh (eSta st), .sh (eDeed d), .ow (intsO st.2.1), .ow (.lst (pl.map eN)), .ow (prsO row), s7])
    ?_ ?_
  · cases d with
    | night =>
      have hn := night_ok q
      have hl := W.nw _ (mem_get hn)
      have hr := W.rm
      refine xs_if (xt_cmp (xe_ixt (xv 3 rfl)) xe_str o_eqS) (fun _ => xss_one ?_) (fun q => xss_no (absurd q (by decide)))
      refine xs_setO 6 (xo_call l_night_row (XA.sh ((xv 0 rfl)) (XA.pk ((xpv 4 (.inl rfl))) (XA.sh (xe_ixL (f_nights (xv 0 rfl)) (xe_ixt (xv 2 rfl)) rfl (at_map (f := eNight) hn)) XA.nil))) 2 ⟨(c, st.2.1, c.nights[st.1]!), ⟨W, S.wa, hl⟩, rfl, rfl⟩) ⟨_, st.2.2, .no, app_in (goneP_in W hl) (comeP_in W hl), ?_, ?_, rfl⟩
      · have h1 := goneP_len (c := c) st.2.1 c.nights[st.1]!
        have h2 := comeP_len (c := c) c.nights[st.1]!
        dsimp only
        rw [List.length_append]
        omega
      · rw [← after_of (d := .night) Z rfl]
        rfl
    | let_ k =>
      have hk : k < c.nl := hd
      have hba : c.basin k < st.2.1.length := by rw [S.wa]; exact basin_lt hk
      have e : letPours c st k = lRow c st.2.1 k [false] := (lRow_let W hk (Z.lk _ (mem_get hk)) (Z.ba k hk)).symm
      refine xs_if (xt_cmp (xe_ixt (xv 3 rfl)) xe_str o_eqS) (fun q => xss_no (absurd q (by decide))) (fun _ => xss_one ?_)
      refine xs_if (xt_cmp (xe_ixt (xv 3 rfl)) xe_str o_eqS) (fun _ => xss_one ?_) (fun q => xss_no (absurd q (by decide)))
      refine xs_setO 6 (xo_call f_row_of (XA.sh ((xv 0 rfl)) (XA.pk ((xpv 4 (.inl rfl))) (XA.sh (xe_ixt (xv 3 rfl)) (XA.sh (ls (XB.sh (xe_str) XB.nil)) XA.nil)))) 3 ⟨(c, (false, st.2.1), k, [false]), ⟨hk, hba, Nat.le_of_ble_eq_true rfl⟩, rfl, rfl⟩) ⟨_, st.2.2, .no, ?_, ?_, ?_, rfl⟩
      · dsimp only
        rw [← e]
        exact letPours_in W hk
      · have := letPours_len (c := c) (st := st) k
        dsimp only
        rw [← e]
        omega
      · dsimp only
        rw [← e, ← after_of (d := .let_ k) Z rfl]
        rfl
    | pass b =>
      have hb : b < ws.length := hd
      have hp := pass_ok q
      have hb2 : b < st.2.2.length := by rw [S.pl]; exact hb
      have hk := S.step_lt hb hp
      have hba : c.basin ((ws[b]!).2[st.2.2[b]!]!).1 < st.2.1.length := by rw [S.wa]; exact basin_lt hk
      have hch : c.chamber ((ws[b]!).2[st.2.2[b]!]!).1 < st.2.1.length := by rw [S.wa]; exact chamber_lt hk
      have hwl2 : ∀ f u, (lWords f u).length ≤ 10 := fun f u => by cases f <;> cases u <;> exact Nat.le_of_ble_eq_true rfl
      have e := Z.row hb hp
      refine xs_if (xt_cmp (xe_ixt (xv 3 rfl)) xe_str o_eqS) (fun q => xss_no (absurd q (by decide))) (fun _ => xss_one ?_)
      refine xs_if (xt_cmp (xe_ixt (xv 3 rfl)) xe_str o_eqS) (fun q => xss_no (absurd q (by decide))) (fun _ => ?_)
      refine xss_cons (xs_set 7 (xe_ixT (xe_ixt (xe_ixL (xv 1 rfl) (xe_ixt (xv 3 rfl)) rfl (at_map (f := eWy) hb))) (xe_ixO 5 rfl (xe_ixt (xv 3 rfl)) rfl (at_map (f := eN) hb2)) rfl (at_map (f := eStep) hp)) ?_)
      refine xss_cons (xs_setO 6 (xo_call f_row_of (XA.sh ((xv 0 rfl)) (XA.pk ((xpv 4 (.inl rfl))) (XA.sh (xe_ixt (xv 7 rfl)) (XA.sh (xe_call f_words (XA.sh ((xe_cmp (xe_ixO 4 rfl (nx (n := c.chamber ((ws[b]!).2[st.2.2[b]!]!).1) (xe_op (xe_lenL (f_reaches (xv 0 rfl)) 5) (xe_ixt (xv 7 rfl)) o_add) (by rw [List.length_map]; rfl)) rfl (at_map (f := D.int) hch)) xe_int o_gt).to (da := .bl (c.full st.2.1 ((ws[b]!).2[st.2.2[b]!]!).1)) rfl) (XA.sh (xe_ixt (xv 7 rfl)) XA.nil)) 4 ⟨(c.full st.2.1 ((ws[b]!).2[st.2.2[b]!]!).1, ((ws[b]!).2[st.2.2[b]!]!).2), trivial, rfl, rfl⟩) XA.nil)))) 3 ⟨(c, (false, st.2.1), ((ws[b]!).2[st.2.2[b]!]!).1, lWords (c.full st.2.1 ((ws[b]!).2[st.2.2[b]!]!).1) ((ws[b]!).2[st.2.2[b]!]!).2), ⟨hk, hba, hwl2 _ _⟩, rfl, rfl⟩) ?_)
      refine xss_one (xs_setitem 5 rfl (xe_op (xe_ixO 5 rfl (xe_ixt (xv 3 rfl)) rfl (at_map (f := eN) hb2)) xe_int o_add) (xe_ixt (xv 3 rfl)) rfl (by rw [List.length_map]; exact hb2) ⟨passPours c ws st b, st.2.2.set b (st.2.2[b]! + 1), .sh (eStep (ws[b]!).2[st.2.2[b]!]!), passPours_in W S hb hp, ?_, ?_, ?_⟩)
      · have := passPours_len (c := c) (ws := ws) (st := st) b
        omega
      · rw [← after_of (d := .pass b) Z rfl]
        rfl
      · dsimp only
        rw [e, List.map_set]
        rfl
  · rintro ρ ⟨row, pl, s7, hin, hlen, ha, rfl⟩
    rw [ha]
    refine xss_cons (xs_exprC (xc_call l_pour (XM.mu 4 rfl (XM.lk 6 (.inl rfl) XM.nil)) (its_ml rfl (.inl rfl) (by decide)) 6 ⟨(st.2.1, row), by dsimp only; rw [S.wa]; exact hin, rfl, rfl⟩) ?_)
    refine xss_cons (xs_exprC (xc_call l_settle (XM.sh (xv 0 rfl) (XM.mu 4 rfl (XM.mu 6 rfl XM.nil))) (its_smm rfl rfl (by decide)) 7 ⟨(c, pourAll st.2.1 row, row), ⟨W, by dsimp only; rw [pourAll_len]; exact S.wa, by dsimp only; omega⟩, rfl, rfl⟩) ?_)
    exact xss_one (xs_ret (tup (XB.sh (nx (n := st.1 + (if dNight d then 1 else 0)) (xe_op (xe_ixt (xv 2 rfl)) (xe_intB (d_night (xv 3 rfl)) 8) o_add) (by cases dNight d <;> rfl)) (XB.sh (xe_tupleP (xpv 4 (.inl rfl)) 9) (XB.sh (xe_tupleP (xpv 5 (.inl rfl)) 9) XB.nil)))) rfl)
theorem eNats_inj : ∀ {xs ys : List Nat}, xs.map eN = ys.map eN → xs = ys
  | [], [], _ => rfl
  | [], _ :: _, h => by cases h
  | _ :: _, [], h => by cases h
  | x :: xs, y :: ys, h => by
    rw [List.map_cons, List.map_cons] at h
    injection h with h1 h2
    injection h1 with h1
    rw [Int.ofNat.inj h1, eNats_inj h2]
theorem home_iff {c : Cnl} {ws : List Wy} {st : Sta} (Z : StW c ws st) : allHome ws st = true ↔ eNats st.2.2 = .tup (ws.map fun w => .int (w.2.map eStep).length) := by
  have e : (ws.map fun w => D.int (w.2.map eStep).length) = (ws.map fun w => w.2.length).map eN := by
    rw [List.map_map]
    refine List.map_congr_left fun w _ => ?_
    show D.int _ = D.int _
    rw [List.length_map]
  rw [e]
  have hl := Z.sw.pl
  constructor
  · intro h
    unfold allHome at h
    rw [List.all_eq_true] at h
    have : st.2.2 = ws.map fun w => w.2.length := by
      apply List.ext_getElem
      · rw [hl, List.length_map]
      · intro k h1 h2
        have hk : k < ws.length := by rw [← hl]; exact h1
        have a := of_decide_eq_true (h k (List.mem_range.mpr hk))
        have b := Z.pl k hk
        rw [List.getElem_map]
        rw [getElem!_pos ws k hk, getElem!_pos st.2.2 k h1] at a b
        omega
    unfold eNats
    rw [this]
  · intro h
    unfold eNats at h
    injection h with h
    have h := eNats_inj h
    unfold allHome
    rw [List.all_eq_true]
    intro k hk
    have hk := List.mem_range.mp hk
    refine decide_eq_true ?_
    rw [h, getElem!_pos ws k hk, getElem!_pos _ k (by rw [List.length_map]; exact hk), List.getElem_map]
    exact Nat.le_refl _
theorem s99 : Sc [("ways", true), ("state", true), ("way", false)] ["ways", "state"] ["tuple"] (defScope (top 99)) := sc_by (by decide +kernel)
theorem l_home : Fn pg 1 false "_law_home" [] (Ct (fun a : Cnl × List Wy × Sta => StW a.1 a.2.1 a.2.2) (fun a => [.sh (.lst (a.2.1.map eWy)), .sh (eSta a.2.2)]) fun a => .sh (.bl (allHome a.2.1 a.2.2))) := by
  refine fn_ct 99 62 rfl s99 (fun _ => rfl) (fun _ _ _ _ _ _ us hl => match us, hl with | [_, _], _ => rfl) ?_
  rintro Γ ⟨c, ws, st⟩ Z
  have Z : StW c ws st := Z
  have hwl := Z.sw.wl
  refine xss_one (xs_ret (xe_eqD 1 (xe_ixt (d := eNats st.2.2) (xv 1 rfl)) (xe_tuple (XO.lst (lc_m (zs := ws) (f := eWy) (g := fun w => .int (w.2.map eStep).length) 2 [("ways", false), ("state", false), ("way", true)] ["len"] (by decide +kernel) (XL.it (XE.l (xv 0 rfl))) (by omega) (fun sc' Γ' w hw => xe_lenT (xe_ixt (xv 2 rfl)) 0)).xo) 0) ?_ ?_ (home_iff Z)) rfl)
  · intro d hd
    obtain ⟨n, _, rfl⟩ := List.mem_map.mp hd
    exact trivial
  · intro d hd
    obtain ⟨n, _, rfl⟩ := List.mem_map.mp hd
    exact trivial
end Lk
set_option maxHeartbeats 400000
namespace Lk
open PySem PySem.Spec PyProof.Rows L2
/-! ### what a deed leaves is in order -/
theorem pour1_at {h : List Int} {s t i : Nat} {a : Int} (hi : i < h.length) : (pour1 h (s, t, a))[i]! = (if s = i then h[i]! - a else h[i]!) + (if t = i then a else 0) := by
  unfold pour1
  dsimp only
  have e1 : (h.set s (h[s]! - a))[i]! = if s = i then h[i]! - a else h[i]! := by
    rw [getElem!_pos _ i (by rw [List.length_set]; exact hi)]
    by_cases q : s = i
    · subst q
      rw [if_pos rfl, List.getElem_set_self]
    · rw [if_neg q, List.getElem_set_ne q, getElem!_pos h i hi]
  rw [getElem!_pos _ i (by rw [List.length_set, List.length_set]; exact hi)]
  by_cases q : t = i
  · subst q
    rw [List.getElem_set_self, e1, if_pos (c := t = t) rfl]
  · rw [List.getElem_set_ne q, ← getElem!_pos (h.set s (h[s]! - a)) i (by rw [List.length_set]; exact hi), e1, if_neg (c := t = i) q, Int.add_zero]
theorem pourAll_same {i : Nat} : ∀ {ps : List Pr} {h : List Int}, i < h.length → (∀ p ∈ ps, p.1 ≠ i ∧ p.2.1 ≠ i) → (pourAll h ps)[i]! = h[i]!
  | [], h, _, _ => rfl
  | (s, t, a) :: ps, h, hi, hn => by
    obtain ⟨n1, n2⟩ := hn (s, t, a) List.mem_cons_self
    show (pourAll (pour1 h (s, t, a)) ps)[i]! = _
    rw [pourAll_same (by rw [pour1_len]; exact hi) fun p hp => hn p (List.mem_cons_of_mem _ hp), pour1_at hi, if_neg n1, if_neg n2, Int.add_zero]
section
variable {c : Cnl} {ws : List Wy} {st : Sta}
theorem weirPours_nb (W : CW c) (wa : List Int) {k : Nat} (hk : k < c.nl) : ∀ p ∈ weirPours c wa, p.1 ≠ c.basin k ∧ p.2.1 ≠ c.basin k := by
  intro p hp
  unfold weirPours at hp
  obtain ⟨j, hj, rfl⟩ := List.mem_map.mp hp
  have hj := List.mem_range.mp (List.mem_filter.mp hj).1
  have hr : c.nr - 1 - j < c.reaches.length := by show _ < c.nr; omega
  refine ⟨by show c.nr - 1 - j ≠ _; unfold Cnl.basin; omega, ?_⟩
  show (c.weirs[c.nr - 1 - j]!).2 ≠ _
  rw [weirs_get c hr]
  unfold Cnl.weir
  cases q : (c.reaches[c.nr - 1 - j]!).target with
  | none => show c.sea ≠ _; unfold Cnl.sea Cnl.basin; omega
  | some t =>
    have := W.tg _ hr t (by rw [← getElem!_pos c.reaches _ hr]; exact q)
    show t ≠ _
    unfold Cnl.basin
    omega
theorem night_nb (W : CW c) (wa : List Int) {w : List (Int × Int)} (h : w.length = c.nr) {k : Nat} (hk : k < c.nl) : ∀ p ∈ goneP c wa w ++ comeP c w, p.1 ≠ c.basin k ∧ p.2.1 ≠ c.basin k := by
  intro p hp
  have hs : c.sky ≠ c.basin k := by unfold Cnl.sky Cnl.sea Cnl.basin; omega
  have hb : ∀ j, j < w.length → j ≠ c.basin k := fun j hj => by unfold Cnl.basin; omega
  rcases List.mem_append.mp hp with q | q
  · unfold goneP at q
    obtain ⟨j, hj, rfl⟩ := List.mem_map.mp q
    exact ⟨hb j (List.mem_range.mp (List.mem_filter.mp hj).1), hs⟩
  · unfold comeP at q
    obtain ⟨j, hj, rfl⟩ := List.mem_map.mp q
    exact ⟨hs, hb j (List.mem_range.mp (List.mem_filter.mp hj).1)⟩
theorem placeOf_ba (W : CW c) {k k' : Nat} (hk : k < c.nl) (hk' : k' < c.nl) (s : Sd) : placeOf c k s = c.basin k' ↔ s = .basin ∧ k = k' := by
  have h := W.lk _ (mem_get hk)
  have hl := W.l1
  unfold placeOf
  cases s with
  | high => exact ⟨fun e => by unfold Cnl.basin at e; dsimp only at e; omega, fun e => nomatch e.1⟩
  | low => exact ⟨fun e => by unfold Cnl.basin at e; dsimp only at e; omega, fun e => nomatch e.1⟩
  | chamber => exact ⟨fun e => by unfold Cnl.basin Cnl.chamber at e; dsimp only at e; omega, fun e => nomatch e.1⟩
  | basin => exact ⟨fun e => ⟨rfl, by unfold Cnl.basin at e; dsimp only at e; omega⟩, fun e => by rw [e.2]⟩
theorem num_other (W : CW c) {k k' : Nat} (hk : k < c.nl) (hk' : k' < c.nl) (hne : k ≠ k') (ts : List Tri) : ∀ p ∈ numbered c k ts, p.1 ≠ c.basin k' ∧ p.2.1 ≠ c.basin k' := by
  intro p hp
  unfold numbered at hp
  obtain ⟨t, _, rfl⟩ := List.mem_map.mp hp
  exact ⟨fun e => hne ((placeOf_ba W hk hk' _).mp e).2, fun e => hne ((placeOf_ba W hk hk' _).mp e).2⟩
theorem num_own (W : CW c) {k : Nat} (hk : k < c.nl) : ∀ (ts : List Tri) {h : List Int}, c.basin k < h.length → (pourAll h (numbered c k ts))[c.basin k]! = heldBehind (h[c.basin k]!) ts
  | [], h, _ => rfl
  | t :: ts, h, hi => by
    show (pourAll (pour1 h (placeOf c k t.1, placeOf c k t.2.1, t.2.2)) (numbered c k ts))[c.basin k]! = heldBehind (held1 (h[c.basin k]!) t) ts
    rw [num_own W hk ts (by rw [pour1_len]; exact hi), pour1_at hi]
    congr 1
    have e1 : (placeOf c k t.1 = c.basin k) ↔ t.1 = .basin := ⟨fun e => ((placeOf_ba W hk hk _).mp e).1, fun e => (placeOf_ba W hk hk _).mpr ⟨e, rfl⟩⟩
    have e2 : (placeOf c k t.2.1 = c.basin k) ↔ t.2.1 = .basin := ⟨fun e => ((placeOf_ba W hk hk _).mp e).1, fun e => (placeOf_ba W hk hk _).mpr ⟨e, rfl⟩⟩
    unfold held1
    dsimp only
    by_cases q1 : t.1 = .basin
    · rw [if_pos (e1.mpr q1), if_pos q1]
      by_cases q2 : t.2.1 = .basin
      · rw [if_pos (e2.mpr q2), if_pos q2]
      · rw [if_neg (fun z => q2 (e2.mp z)), if_neg q2, Int.add_zero]
    · rw [if_neg (fun z => q1 (e1.mp z)), if_neg q1]
      by_cases q2 : t.2.1 = .basin
      · rw [if_pos (e2.mpr q2), if_pos q2]
      · rw [if_neg (fun z => q2 (e2.mp z)), if_neg q2, Int.add_zero]
theorem pass_ba {l : Lck} {b : Int} (L : LkW l) (B : BaK b l.kd) (full up : Bool) : BaK (heldBehind b (passage l full b up)) l.kd := by
  obtain ⟨b1, b2⟩ := held_behind_ok L B
  have app : ∀ (x : Int) (a b : List Tri), heldBehind x (a ++ b) = heldBehind (heldBehind x a) b := fun x a b => List.foldl_append
  cases up with
  | true =>
    cases full with
    | true =>
      show BaK (heldBehind b (letting l b ++ filling l (heldBehind b (letting l b)))) _
      rw [app]
      exact (held_behind_ok L b1).2
    | false => exact b2
  | false =>
    cases full with
    | true => exact b1
    | false =>
      show BaK (heldBehind b (filling l b ++ letting l (heldBehind b (filling l b)))) _
      rw [app]
      exact (held_behind_ok L b2).1
/-- the basins behind a deed's own pours -/
theorem StW.ba_row (Z : StW c ws st) {row : List Pr} {k0 : Nat} (hk0 : k0 < c.nl) {ts : List Tri} (e : row = numbered c k0 ts) (hb : BaK (heldBehind (st.2.1[c.basin k0]!) ts) (c.locks[k0]!).kd) : ∀ k, k < c.nl → BaK ((settled c.weirs (pourAll st.2.1 row))[c.basin k]!) (c.locks[k]!).kd := by
  intro k hk
  have hm := basin_lt (c := c) hk
  have hl : c.basin k < st.2.1.length := by rw [Z.sw.wa]; exact hm
  rw [← pour_weirs Z.cw (by rw [pourAll_len]; exact Z.sw.wa), pourAll_same (by rw [pourAll_len]; exact hl) (weirPours_nb Z.cw _ hk), e]
  by_cases q : k0 = k
  · subst q
    rw [num_own Z.cw hk0 ts hl]
    exact hb
  · rw [pourAll_same hl (num_other Z.cw hk0 hk q ts)]
    exact Z.ba k hk
theorem StW.aft {d : Deed} (Z : StW c ws st) (h : DoW c ws st d) : StW c ws (after c ws st d) := by
  refine ⟨Z.cw, Z.lk, Z.sw.after d, Z.wy, ?_, ?_⟩
  · intro k hk
    cases d with
    | night => exact Z.pl k hk
    | let_ j => exact Z.pl k hk
    | pass b =>
      have hp := pass_ok h.2
      have hb : b < st.2.2.length := by rw [Z.sw.pl]; exact h.1
      have hk2 : k < st.2.2.length := by rw [Z.sw.pl]; exact hk
      have z := Z.pl k hk
      show (st.2.2.set b (st.2.2[b]! + 1))[k]! ≤ _
      rw [getElem!_pos _ k (by rw [List.length_set]; exact hk2)]
      by_cases q : b = k
      · subst q
        rw [List.getElem_set_self]
        omega
      · rw [List.getElem_set_ne q, ← getElem!_pos st.2.2 k hk2]
        exact z
  · cases d with
    | night =>
      intro k hk
      have hn := night_ok h.2
      have hl := Z.cw.nw _ (mem_get hn)
      have hw : c.basin k < st.2.1.length := by rw [Z.sw.wa]; exact basin_lt hk
      show BaK ((pourAll st.2.1 (poursD c ws st .night))[c.basin k]!) _
      rw [after_of (d := .night) Z rfl, ← pour_weirs Z.cw (by rw [pourAll_len]; exact Z.sw.wa), pourAll_same (by rw [pourAll_len]; exact hw) (weirPours_nb Z.cw _ hk), pourAll_same hw (night_nb Z.cw _ hl hk)]
      exact Z.ba k hk
    | let_ j =>
      have hj : j < c.nl := h.1
      intro k hk
      show BaK ((pourAll st.2.1 (poursD c ws st (.let_ j)))[c.basin k]!) _
      rw [after_of (d := .let_ j) Z rfl]
      exact Z.ba_row hj rfl (held_behind_ok (Z.lk _ (mem_get hj)) (Z.ba j hj)).1 k hk
    | pass b =>
      have hp := pass_ok h.2
      have hj := Z.sw.step_lt h.1 hp
      intro k hk
      show BaK ((pourAll st.2.1 (poursD c ws st (.pass b)))[c.basin k]!) _
      rw [after_of (d := .pass b) Z rfl]
      exact Z.ba_row hj rfl (pass_ba (Z.lk _ (mem_get hj)) (Z.ba _ hj) _ _) k hk
theorem StW.ch (Z : StW c ws st) : ∀ x ∈ choices c ws st, StW c ws x.2 := by
  intro x hx
  obtain ⟨d, hd, rfl⟩ := List.mem_map.mp hx
  exact Z.aft (mem_may hd)
end
/-! ### the search -/
theorem inMet_mem {m : Met} {t : Sta} : inMet m t = true ↔ t ∈ m.map (·.1) := by
  unfold inMet
  rw [List.any_eq_true, List.mem_map]
  exact ⟨fun ⟨p, h1, h2⟩ => ⟨p, h1, of_decide_eq_true h2⟩, fun ⟨p, h1, h2⟩ => ⟨p, h1, decide_eq_true h2⟩⟩
theorem step_spec {most : Nat} {src : Sta} : ∀ (xs : List (Deed × Sta)) {m m' : Met} {f f' : List Sta}, xs.foldlM (step1 most src) (m, f) = some (m', f') →
    ∃ g : Met, m' = m ++ g ∧ f' = f ++ g.map (·.1) ∧ (∀ q ∈ g, ∃ x ∈ xs, q = (x.2, some (src, x.1))) ∧ ∀ x ∈ xs, inMet m' x.2 = true
  | [], m, m', f, f', h => by
    cases h
    exact ⟨[], (List.append_nil _).symm, (List.append_nil _).symm, fun q h => (nomatch h), fun x h => nomatch h⟩
  | x :: xs, m, m', f, f', h => by
    rw [List.foldlM_cons] at h
    cases q : step1 most src (m, f) x with
    | none => rw [q] at h; cases h
    | some z =>
      rw [q] at h
      unfold step1 at q
      split at q
      · rename_i hin
        cases q
        obtain ⟨g, e1, e2, e3, e4⟩ := step_spec xs h
        refine ⟨g, e1, e2, fun q hq => ?_, fun y hy => ?_⟩
        · obtain ⟨y, hy, e⟩ := e3 q hq
          exact ⟨y, List.mem_cons_of_mem _ hy, e⟩
        · rcases List.mem_cons.mp hy with r | r
          · subst r
            rw [e1, inMet_mem, List.map_append]
            exact List.mem_append_left _ (inMet_mem.mp hin)
          · exact e4 y r
      · split at q
        · cases q
        · cases q
          obtain ⟨g, e1, e2, e3, e4⟩ := step_spec xs h
          refine ⟨(x.2, some (src, x.1)) :: g, by rw [e1, List.append_assoc]; rfl, by rw [e2, List.append_assoc]; rfl, fun q hq => ?_, fun y hy => ?_⟩
          · rcases List.mem_cons.mp hq with r | r
            · exact ⟨x, List.mem_cons_self, r⟩
            · obtain ⟨y, hy, e⟩ := e3 q r
              exact ⟨y, List.mem_cons_of_mem _ hy, e⟩
          · rcases List.mem_cons.mp hy with r | r
            · subst r
              rw [e1, inMet_mem, List.map_append, List.map_append]
              exact List.mem_append_left _ (List.mem_append_right _ (by simp))
            · exact e4 y r
theorem layer_spec {c : Cnl} {ws : List Wy} {most : Nat} : ∀ (layer : List Sta) {m m' : Met} {f f' : List Sta}, layer.foldlM (stepS most c ws) (m, f) = some (m', f') →
    ∃ g : Met, m' = m ++ g ∧ f' = f ++ g.map (·.1) ∧ (∀ q ∈ g, ∃ t ∈ layer, ∃ x ∈ choices c ws t, q = (x.2, some (t, x.1))) ∧ ∀ t ∈ layer, ∀ x ∈ choices c ws t, inMet m' x.2 = true
  | [], m, m', f, f', h => by
    cases h
    exact ⟨[], (List.append_nil _).symm, (List.append_nil _).symm, fun q h => (nomatch h), fun x h => nomatch h⟩
  | s :: layer, m, m', f, f', h => by
    rw [List.foldlM_cons] at h
    cases q : stepS most c ws (m, f) s with
    | none => rw [q] at h; cases h
    | some z =>
      rw [q] at h
      obtain ⟨m1, f1⟩ := z
      obtain ⟨g1, a1, a2, a3, a4⟩ := step_spec (choices c ws s) q
      obtain ⟨g2, b1, b2, b3, b4⟩ := layer_spec layer h
      refine ⟨g1 ++ g2, by rw [b1, a1, List.append_assoc], by rw [b2, a2, List.append_assoc, List.map_append], fun q hq => ?_, fun t ht x hx => ?_⟩
      · rcases List.mem_append.mp hq with r | r
        · obtain ⟨x, hx, e⟩ := a3 q r
          exact ⟨s, List.mem_cons_self, x, hx, e⟩
        · obtain ⟨t, ht, x, hx, e⟩ := b3 q r
          exact ⟨t, List.mem_cons_of_mem _ ht, x, hx, e⟩
      · rcases List.mem_cons.mp ht with r | r
        · subst r
          have := a4 x hx
          rw [b1, inMet_mem, List.map_append]
          exact List.mem_append_left _ (inMet_mem.mp this)
        · exact b4 t r x hx
/-- the row leads from s to t -/
def RunTo (c : Cnl) (ws : List Wy) : Sta → List Deed → Sta → Prop
  | s, [], t => s = t
  | s, d :: ds, t => d ∈ deeds c ws ∧ whyNot c ws s d = "" ∧ RunTo c ws (after c ws s d) ds t
theorem RunTo.snoc {c : Cnl} {ws : List Wy} {d : Deed} {t : Sta} (h1 : d ∈ deeds c ws) (h2 : whyNot c ws t d = "") : ∀ {ds : List Deed} {s : Sta}, RunTo c ws s ds t → RunTo c ws s (ds ++ [d]) (after c ws t d)
  | [], s, h => by
    have h : s = t := h
    subst h
    exact ⟨h1, h2, rfl⟩
  | e :: ds, s, ⟨a, b, h⟩ => ⟨a, b, RunTo.snoc h1 h2 h⟩
def SrcOk (c : Cnl) (ws : List Wy) (s0 : Sta) (q : Sta × Option (Sta × Deed)) : Prop := match q.2 with
  | none => q.1 = s0
  | some (p, d) => (d, q.1) ∈ choices c ws p
structure SI (c : Cnl) (ws : List Wy) (s0 : Sta) (ls : List (List Sta)) (m : Met) (layer : List Sta) : Prop where
  key : m.map (·.1) = ls.flatten ++ layer
  src : ∀ q ∈ m, SrcOk c ws s0 q
  stw : ∀ q ∈ m, StW c ws q.1
  done : ∀ t ∈ ls.flatten, allHome ws t = false ∧ ∀ x ∈ choices c ws t, inMet m x.2 = true
  mw : MetW c ws m
theorem SI.next {c : Cnl} {ws : List Wy} {s0 : Sta} {ls : List (List Sta)} {m m' : Met} {layer f : List Sta} {most : Nat} (I : SI c ws s0 ls m layer) (hh : layer.find? (allHome ws) = none) (h : nextLayer c ws layer m most = some (m', f)) : SI c ws s0 (ls ++ [layer]) m' f := by
  have hl : ∀ t ∈ layer, inMet m t = true := fun t ht => by rw [inMet_mem, I.key]; exact List.mem_append_right _ ht
  obtain ⟨w1, _⟩ := layer_w layer (most := most) (f := []) I.mw hl (fun t ht => nomatch ht) h
  obtain ⟨g, e1, e2, e3, e4⟩ := layer_spec layer h
  have up : ∀ t, inMet m t = true → inMet m' t = true := fun t ht => by rw [e1, inMet_mem, List.map_append]; exact List.mem_append_left _ (inMet_mem.mp ht)
  have stl : ∀ t ∈ layer, StW c ws t := fun t ht => by
    obtain ⟨q, hq, e⟩ := List.mem_map.mp (inMet_mem.mp (hl t ht))
    rw [← e]
    exact I.stw q hq
  refine ⟨?_, fun q hq => ?_, fun q hq => ?_, fun t ht => ?_, w1⟩
  · rw [e1, List.map_append, I.key, e2, List.flatten_append]
    simp
  · rw [e1] at hq
    rcases List.mem_append.mp hq with r | r
    · exact I.src q r
    · obtain ⟨t, ht, x, hx, e⟩ := e3 q r
      subst e
      exact hx
  · rw [e1] at hq
    rcases List.mem_append.mp hq with r | r
    · exact I.stw q r
    · obtain ⟨t, ht, x, hx, e⟩ := e3 q r
      subst e
      exact (stl t ht).ch x hx
  · rw [List.flatten_append] at ht
    rcases List.mem_append.mp ht with r | r
    · obtain ⟨a, b⟩ := I.done t r
      exact ⟨a, fun x hx => up _ (b x hx)⟩
    · have r : t ∈ layer := by simpa using r
      refine ⟨?_, fun x hx => e4 t r x hx⟩
      have := List.find?_eq_none.mp hh t r
      simpa using this
theorem layered_closed {c : Cnl} {ws : List Wy} {s0 : Sta} {most : Nat} : ∀ (n : Nat) {m : Met} {layer : List Sta} {ls ls' : List (List Sta)}, SI c ws s0 ls m layer → m.length ≤ most → layeredF c ws most n m layer ls = .closed ls' →
    (∃ r, ls' = ls ++ r ∧ (layer ≠ [] → r ≠ [] ∧ r.head? = some layer)) ∧ ∃ m', SI c ws s0 ls' m' [] ∧ m'.length ≤ most
  | 0, m, layer, ls, ls', I, hm, h => by cases h
  | n + 1, m, layer, ls, ls', I, hm, h => by
    unfold layeredF at h
    split at h
    · rename_i q
      cases h
      have q : layer = [] := List.isEmpty_iff.mp q
      subst q
      exact ⟨⟨[], (List.append_nil _).symm, fun z => absurd rfl z⟩, m, I, hm⟩
    · split at h
      · cases h
      · rename_i hh
        split at h
        · cases h
        · rename_i m' f hx
          have I' := I.next hh hx
          have hl : ∀ t ∈ layer, inMet m t = true := fun t ht => by rw [inMet_mem, I.key]; exact List.mem_append_right _ ht
          obtain ⟨_, _, _, w4, _⟩ := layer_w layer (most := most) (f := []) I.mw hl (fun t ht => nomatch ht) hx
          obtain ⟨⟨r, e, _⟩, rest⟩ := layered_closed n I' (w4 hm) h
          exact ⟨⟨layer :: r, by rw [e, List.append_assoc]; rfl, fun _ => ⟨(fun z => nomatch z), rfl⟩⟩, rest⟩
theorem layered_found {c : Cnl} {ws : List Wy} {s0 : Sta} {most : Nat} : ∀ (n : Nat) {m : Met} {layer : List Sta} {ls ls' : List (List Sta)} {g : Sta} {mf : Met}, SI c ws s0 ls m layer → m.length ≤ most → layeredF c ws most n m layer ls = .found g mf ls' →
    (∃ ls'' layer'', SI c ws s0 ls'' mf layer'' ∧ g ∈ layer'') ∧ allHome ws g = true ∧ mf.length ≤ most
  | 0, m, layer, ls, ls', g, mf, I, hm, h => by cases h
  | n + 1, m, layer, ls, ls', g, mf, I, hm, h => by
    unfold layeredF at h
    split at h
    · cases h
    · split at h
      · rename_i g' hg
        cases h
        exact ⟨⟨ls, layer, I, List.mem_of_find?_eq_some hg⟩, List.find?_some hg, hm⟩
      · rename_i hh
        split at h
        · cases h
        · rename_i m' f hx
          have hl : ∀ t ∈ layer, inMet m t = true := fun t ht => by rw [inMet_mem, I.key]; exact List.mem_append_right _ ht
          obtain ⟨_, _, _, w4, _⟩ := layer_w layer (most := most) (f := []) I.mw hl (fun t ht => nomatch ht) hx
          exact layered_found n (I.next hh hx) (w4 hm) h
theorem mget_of {m : Met} {t : Sta} {v : Option (Sta × Deed)} (h : mget m t = some v) : (t, v) ∈ m := by
  unfold mget at h
  obtain ⟨p, hp, e⟩ := Option.map_eq_some_iff.mp h
  have h1 := List.find?_some hp
  have h2 := List.mem_of_find?_eq_some hp
  have h1 : p.1 = t := of_decide_eq_true h1
  rw [← h1, ← e]
  exact h2
theorem path_runs {c : Cnl} {ws : List Wy} {s0 : Sta} {m : Met} (hs : ∀ q ∈ m, SrcOk c ws s0 q) {t : Sta} {ds : List Deed} (h : Path m t ds) : RunTo c ws s0 ds.reverse t := by
  induction h with
  | nil h =>
    have := hs _ (mget_of h)
    have this : _ = s0 := this
    exact this.symm
  | @cons s p d ds h _ ih =>
    have := hs _ (mget_of h)
    have hx : (d, s) ∈ choices c ws p := this
    obtain ⟨d', hd, e⟩ := List.mem_map.mp hx
    have e1 : d' = d := congrArg Prod.fst e
    have e2 : after c ws p d' = s := congrArg Prod.snd e
    subst e1
    rw [List.reverse_cons, ← e2]
    obtain ⟨h1, h2⟩ := List.mem_filter.mp hd
    exact ih.snoc h1 (of_decide_eq_true h2)
theorem SI.first {c : Cnl} {ws : List Wy} {s : Sta} (Z : StW c ws s) : SI c ws s [] [(s, none)] [s] := by
  refine ⟨rfl, fun q hq => ?_, fun q hq => ?_, fun t ht => (nomatch ht), ?_⟩
  · rw [List.mem_singleton.mp hq]
    rfl
  · rw [List.mem_singleton.mp hq]
    exact Z
  · refine ⟨by unfold MetN; simp, fun t h => ?_, fun t h => ?_⟩
    · have : s = t := by
        rw [inMet_mem] at h
        have h : t = s := by simpa using h
        exact h.symm
      subst this
      exact ⟨[], .nil (by unfold mget; simp), Nat.zero_le _⟩
    · have : s = t := by
        rw [inMet_mem] at h
        have h : t = s := by simpa using h
        exact h.symm
      subst this
      exact Z.sw
/-- closed: a book of states without a homecoming -/
structure ClB (c : Cnl) (ws : List Wy) (s : Sta) (ls : List (List Sta)) : Prop where
  hd : ∃ r, ls = [s] :: r
  ok : ∀ t ∈ ls.flatten, StW c ws t ∧ allHome ws t = false ∧ ∀ d ∈ deeds c ws, whyNot c ws t d = "" → after c ws t d ∈ ls.flatten
  len : ls.flatten.length ≤ 1000
theorem search_closed {c : Cnl} {ws : List Wy} {s : Sta} {most : Nat} {ls : List (List Sta)} (Z : StW c ws s) (h1 : 1 ≤ most) (h2 : most ≤ 1000) (h : search c ws s most = .closed ls) : ClB c ws s ls := by
  obtain ⟨⟨r, e, hr⟩, m', I, hm⟩ := layered_closed _ (SI.first Z) h1 h
  rw [List.nil_append] at e
  subst e
  obtain ⟨h3, h4⟩ := hr (fun z => nomatch z)
  have key := I.key
  rw [List.append_nil] at key
  refine ⟨?_, fun t ht => ?_, ?_⟩
  · cases ls with
    | nil => exact absurd rfl h3
    | cons a r =>
      cases h4
      exact ⟨r, rfl⟩
  · obtain ⟨a, b⟩ := I.done t ht
    refine ⟨?_, a, fun d hd hw => ?_⟩
    · rw [← key] at ht
      obtain ⟨q, hq, e⟩ := List.mem_map.mp ht
      rw [← e]
      exact I.stw q hq
    · have := b (d, after c ws t d) (List.mem_map.mpr ⟨d, List.mem_filter.mpr ⟨hd, decide_eq_true hw⟩, rfl⟩)
      rw [← key]
      exact inMet_mem.mp this
  · rw [← key, List.length_map]
    omega
theorem search_found {c : Cnl} {ws : List Wy} {s g : Sta} {most : Nat} {m : Met} {ls : List (List Sta)} (Z : StW c ws s) (h1 : 1 ≤ most) (h2 : most ≤ 1000) (h : search c ws s most = .found g m ls) : RunTo c ws s (pathOf m g).reverse g ∧ allHome ws g = true ∧ (pathOf m g).length ≤ 1000 := by
  obtain ⟨⟨l1, l2, I, hg⟩, hh, hm⟩ := layered_found _ (SI.first Z) h1 h
  have hin : inMet m g = true := by rw [inMet_mem, I.key]; exact List.mem_append_right _ hg
  obtain ⟨p1, p2⟩ := pathOf_ok (I.mw.p g hin)
  exact ⟨path_runs I.src p1, hh, by omega⟩
end Lk
set_option maxHeartbeats 400000
namespace Lk
open PySem PySem.Spec PyProof.Rows L2
theorem pl_deed (d : Deed) : Pl 1 (eDeed d) := by
  have s1 : Pl 0 (.str "pass") := (by decide +kernel : PyData.strOk "pass" = true)
  have s2 : Pl 0 (.str "let") := (by decide +kernel : PyData.strOk "let" = true)
  have s3 : Pl 0 (.str "night") := (by decide +kernel : PyData.strOk "night" = true)
  cases d with
  | pass b =>
    intro e he
    rcases List.mem_cons.mp he with h | h
    · rw [h]; exact s1
    · rw [List.mem_singleton.mp h]; exact trivial
  | let_ b =>
    intro e he
    rcases List.mem_cons.mp he with h | h
    · rw [h]; exact s2
    · rw [List.mem_singleton.mp h]; exact trivial
  | night =>
    intro e he
    rw [List.mem_singleton.mp he]
    exact s3
theorem pl_sta (s : Sta) : Pl 2 (eSta s) := by
  intro e he
  rcases List.mem_cons.mp he with h | he
  · rw [h]; exact trivial
  rcases List.mem_cons.mp he with h | he
  · rw [h]
    intro x hx
    obtain ⟨n, _, rfl⟩ := List.mem_map.mp hx
    exact trivial
  · rw [List.mem_singleton.mp he]
    intro x hx
    obtain ⟨n, _, rfl⟩ := List.mem_map.mp hx
    exact trivial
variable {pg : Pg} [Lib3 pg]
theorem s100 : Sc [("canal", true), ("ways", true), ("state", true), ("plan", true), ("every", true), ("deed", true)] ["canal", "ways", "state", "plan"] ["isinstance", "list", "_law_deeds", "_law_after", "_law_home"] (defScope (top 100)) := sc_by (by decide +kernel)
theorem l_leads_home : Fn pg 7 false "_law_leads_home" [] (Ct (fun a : Cnl × List Wy × Sta × List Deed × Sta => StW a.1 a.2.1 a.2.2.1 ∧ RunTo a.1 a.2.1 a.2.2.1 a.2.2.2.1 a.2.2.2.2 ∧ allHome a.2.1 a.2.2.2.2 = true) (fun a => [.sh (eCnl pg a.1), .sh (.lst (a.2.1.map eWy)), .sh (eSta a.2.2.1), .sh (.lst (a.2.2.2.1.map eDeed))]) fun _ => .sh (.bl true)) := by
  refine fn_ct 100 63 rfl s100 (fun _ => rfl) (fun _ _ _ _ _ _ us hl => match us, hl with | [_, _, _, _], _ => rfl) ?_
  rintro Γ ⟨c, ws, st, plan, g⟩ ⟨Z, hr, hh⟩
  dsimp only at Z hr hh ⊢
  refine xss_cons (xs_if (xt_not (xt_val (xe_isL (xv 3 rfl) 0 1))) (fun q => nomatch q) (fun _ => xss_nil ?_))
  refine xss_cons (xs_setO 4 (xo_call l_deeds (XA.sh ((xv 0 rfl)) (XA.sh ((xv 1 rfl)) XA.nil)) 2 ⟨(c, ws), ⟨Z.cw.lm, Z.sw.wl⟩, rfl, rfl⟩) ?_)
  refine xss_mid (fun ρ => ∃ s5, ρ = [.sh (eCnl pg c), .sh (.lst (ws.map eWy)), .sh (eSta g), .sh (.lst (plan.map eDeed)), .ow (.lst ((deeds c ws).map eDeed)), s5] ∧ StW c ws g)
    (xs_forL 5 (fun k ρ => ∃ s s5, ρ = [.sh (eCnl pg c), .sh (.lst (ws.map eWy)), .sh (eSta s), .sh (.lst (plan.map eDeed)), .ow (.lst ((deeds c ws).map eDeed)), s5] ∧ StW c ws s ∧ RunTo c ws s (plan.drop k) g) (xv 3 rfl) ⟨st, _, rfl, Z, hr⟩ ?_ ?_) ?_
  · rintro k _ ρ hx ⟨s, s5, rfl, Z', hr'⟩
    obtain ⟨hk, rfl⟩ := map_at hx
    have ed : plan.drop k = plan[k]! :: plan.drop (k + 1) := by rw [List.drop_eq_getElem_cons hk, getElem!_pos plan k hk]
    rw [ed] at hr'
    obtain ⟨h1, h2, h3⟩ := hr'
    have hd := mem_deeds h1
    refine xss_cons (xs_if (c := !true) (xt_notInD (da := eDeed plan[k]!) 1 (xv 5 rfl) (XP.l (xpv 4 (.inl rfl))) (pl_deed _) (fun e he => ?_) ⟨fun _ => List.mem_map_of_mem h1, fun _ => rfl⟩) (fun q => nomatch q) (fun _ => xss_nil ?_))
    · obtain ⟨d, _, rfl⟩ := List.mem_map.mp he
      exact pl_deed d
    refine xss_cons (xs_set 2 ((xe_call l_after (XA.sh ((xv 0 rfl)) (XA.sh ((xv 1 rfl)) (XA.sh ((xv 2 rfl)) (XA.sh ((xv 5 rfl)) XA.nil)))) 3 ⟨(c, ws, s, plan[k]!), ⟨Z', hd⟩, rfl, rfl⟩).to (da := eSta (after c ws s plan[k]!)) (by show lAft c ws s plan[k]! = _; unfold lAft; rw [if_pos h2])) ?_)
    exact xss_one (xs_if (xt_cmp (xv 2 rfl) xe_non o_isN) (fun q => nomatch q) (fun _ => xss_nil ⟨_, _, rfl, Z'.aft ⟨hd, h2⟩, h3⟩))
  · rintro ρ ⟨s, s5, rfl, Z', hr'⟩
    rw [show (plan.map eDeed).length = plan.length from List.length_map _, List.drop_length] at hr'
    have hr' : s = g := hr'
    subst hr'
    exact ⟨_, rfl, Z'⟩
  · rintro ρ ⟨s5, rfl, Z'⟩
    exact xss_one (xs_ret ((xe_call l_home (XA.sh ((xv 1 rfl)) (XA.sh ((xv 2 rfl)) XA.nil)) 4 ⟨(c, ws, g), Z', rfl, rfl⟩).to (da := .bl true) (congrArg D.bl hh)) rfl)
/-! ### a set of states -/
def insS (seen : List Sta) (t : Sta) : List Sta := if t ∈ seen then seen else seen ++ [t]
def eEv (seen : List Sta) : List (D × D) := seen.map fun t => (eSta t, .bl true)
theorem mem_insS {seen : List Sta} {t u : Sta} : u ∈ insS seen t ↔ u ∈ seen ∨ u = t := by
  unfold insS
  split
  · rename_i h
    exact ⟨.inl, fun z => z.elim id fun e => by rw [e]; exact h⟩
  · rw [List.mem_append, List.mem_singleton]
theorem mem_foldS {u : Sta} : ∀ {xs seen : List Sta}, u ∈ xs.foldl insS seen ↔ u ∈ seen ∨ u ∈ xs
  | [], seen => ⟨.inl, fun z => z.elim id fun e => nomatch e⟩
  | x :: xs, seen => by
    rw [List.foldl_cons, mem_foldS, mem_insS, List.mem_cons]
    exact ⟨fun z => z.elim (fun z => z.elim .inl fun z => .inr (.inl z)) fun z => .inr (.inr z), fun z => z.elim (fun z => .inl (.inl z)) fun z => z.elim (fun z => .inl (.inr z)) .inr⟩
theorem nd_insS {seen : List Sta} {t : Sta} (h : seen.Nodup) : (insS seen t).Nodup := by
  unfold insS
  split
  · exact h
  · rename_i q
    rw [List.nodup_append]
    exact ⟨h, by simp, fun a ha b hb e => q (by rw [← List.mem_singleton.mp hb, ← e]; exact ha)⟩
theorem nd_foldS : ∀ {xs seen : List Sta}, seen.Nodup → (xs.foldl insS seen).Nodup
  | [], seen, h => h
  | x :: xs, seen, h => nd_foldS (xs := xs) (nd_insS h)
theorem len_insS (seen : List Sta) (t : Sta) : (insS seen t).length ≤ seen.length + 1 := by
  unfold insS
  split
  · omega
  · rw [List.length_append, List.length_singleton]; omega
theorem len_foldS : ∀ (xs seen : List Sta), (xs.foldl insS seen).length ≤ seen.length + xs.length
  | [], seen => Nat.le_refl _
  | x :: xs, seen => by
    have h1 := len_insS seen x
    have h2 := len_foldS xs (insS seen x)
    rw [List.foldl_cons, List.length_cons]
    omega
theorem dget_ev (seen : List Sta) (t : Sta) : dget (eEv seen) (eSta t) = if t ∈ seen then some (.bl true) else none := by
  induction seen with
  | nil => rfl
  | cons u seen ih =>
    unfold dget at ih ⊢
    unfold eEv at ih ⊢
    rw [List.map_cons, List.find?_cons]
    by_cases h : u = t
    · subst h
      rw [decide_eq_true rfl, if_pos List.mem_cons_self]
      rfl
    · rw [decide_eq_false fun z => h (nkey_sta z)]
      dsimp only
      rw [ih]
      by_cases q : t ∈ seen
      · rw [if_pos q, if_pos (List.mem_cons_of_mem _ q)]
      · rw [if_neg q, if_neg fun z => (List.mem_cons.mp z).elim (fun z => h z.symm) q]
theorem dput_ev (seen : List Sta) (t : Sta) : dput (eEv seen) (eSta t) (.bl true) = eEv (insS seen t) := by
  unfold dput insS
  rw [dget_ev]
  by_cases h : t ∈ seen
  · rw [if_pos h, if_pos (c := (some (D.bl true)).isSome = true) rfl, if_pos h]
    unfold eEv
    rw [List.map_map]
    refine List.map_congr_left fun u _ => ?_
    show (if nkey (eSta u) = nkey (eSta t) then _ else _) = _
    split <;> rfl
  · rw [if_neg h, if_neg (c := (none : Option D).isSome = true) (fun z => nomatch z), if_neg h]
    unfold eEv
    rw [List.map_append]
    rfl
theorem kn_ev {seen : List Sta} (h : seen.Nodup) : KN (eEv seen) := by
  refine ⟨fun p hp => ?_, ?_⟩
  · obtain ⟨q, _, rfl⟩ := List.mem_map.mp hp
    exact kd_sta _
  · unfold eEv
    rw [List.map_map]
    exact List.pairwise_map.mpr (h.imp fun hne z => hne (nkey_sta z))
theorem s101 : Sc [("canal", true), ("ways", true), ("state", true), ("layers", true), ("every", true), ("layer", true), ("one", true), ("deed", true), ("beyond", true)] ["canal", "ways", "state", "layers"] ["isinstance", "list", "len", "_law_home", "_law_deeds", "_law_after"] (defScope (top 101)) := sc_by (by decide +kernel)
theorem l_closed : Fn pg 7 false "_law_closed" [] (Ct (fun a : Cnl × List Wy × Sta × List (List Sta) => StW a.1 a.2.1 a.2.2.1 ∧ ClB a.1 a.2.1 a.2.2.1 a.2.2.2) (fun a => [.sh (eCnl pg a.1), .sh (.lst (a.2.1.map eWy)), .sh (eSta a.2.2.1), .sh (.lst (a.2.2.2.map eLay))]) fun _ => .sh (.bl true)) := by
  refine fn_ct 101 64 rfl s101 (fun _ => rfl) (fun _ _ _ _ _ _ us hl => match us, hl with | [_, _, _, _], _ => rfl) ?_
  rintro Γ ⟨c, ws, st, lls⟩ ⟨Z, B⟩
  dsimp only at Z B ⊢
  obtain ⟨r, er⟩ := B.hd
  have hlen := B.len
  have hls : 0 < lls.length := by rw [er]; exact Nat.succ_pos _
  have h0 : (lls.map eLay)[0]? = some (.lst [eSta st]) := by rw [er]; rfl
  refine xss_cons (xs_if (xt_or3 (xt_not (xt_val (xe_isL (xv 3 rfl) 0 1))) (fun _ => xt_cmp (xe_lenL (xv 3 rfl) 2) xe_int o_eqI) (fun _ _ => xt_neD (c := true) 3 (xe_ixl (d := .lst [eSta st]) (xv 3 rfl) h0) (ls (XB.sh ((xv 2 rfl)) XB.nil)) ?_ ?_ ⟨fun _ => rfl, fun _ => rfl⟩)) (fun q => xss_no ?_) (fun _ => xss_nil ?_))
  · intro e he
    rw [List.mem_singleton.mp he]
    exact pl_sta st
  · intro e he
    rw [List.mem_singleton.mp he]
    exact pl_sta st
  · rw [List.length_map, decide_eq_false (by omega)] at q
    cases q
  refine xss_cons (xs_setO 4 xo_dct0 ?_)
  obtain ⟨seen, es⟩ : ∃ seen, seen = lls.flatten.foldl insS [] := ⟨_, rfl⟩
  have hmem : ∀ t, t ∈ seen ↔ t ∈ lls.flatten := fun t => by rw [es, mem_foldS]; exact ⟨fun z => z.elim (fun z => nomatch z) id, .inr⟩
  have hnd : seen.Nodup := by rw [es]; exact nd_foldS List.nodup_nil
  have hsl : seen.length ≤ 1000 := by
    have := len_foldS lls.flatten []
    rw [← es, List.length_nil] at this
    omega
  refine xss_mid (fun ρ => ∃ s5 s6, ρ = [.sh (eCnl pg c), .sh (.lst (ws.map eWy)), .sh (eSta st), .sh (.lst (lls.map eLay)), .ow (.dct (eEv seen)), s5, s6, .no, .no])
    (xs_forL 5 (fun k ρ => ∃ s5 s6, ρ = [.sh (eCnl pg c), .sh (.lst (ws.map eWy)), .sh (eSta st), .sh (.lst (lls.map eLay)), .ow (.dct (eEv ((lls.take k).flatten.foldl insS []))), s5, s6, .no, .no]) (xv 3 rfl) ⟨_, _, rfl⟩ ?_ ?_) ?_
  · rintro k _ ρ hx ⟨s5, s6, rfl⟩
    obtain ⟨hk, rfl⟩ := map_at hx
    obtain ⟨s0, e0⟩ : ∃ s0, s0 = (lls.take k).flatten.foldl insS [] := ⟨_, rfl⟩
    have n0 : s0.Nodup := by rw [e0]; exact nd_foldS List.nodup_nil
    have ef : (lls.take (k + 1)).flatten = (lls.take k).flatten ++ lls[k]! := by
      rw [List.take_succ, List.getElem?_eq_getElem hk, getElem!_pos lls k hk, List.flatten_append]
      simp
    have el : (lls.take (k + 1)).flatten.length ≤ lls.flatten.length := by
      have : lls.flatten = (lls.take (k + 1)).flatten ++ (lls.drop (k + 1)).flatten := by rw [← List.flatten_append, List.take_append_drop]
      rw [this, List.length_append]
      omega
    have l0 := len_foldS (lls.take k).flatten []
    rw [← e0, List.length_nil] at l0
    rw [ef, List.length_append] at el
    rw [← e0]
    refine xss_one (xs_forL 6 (fun j ρ => ∃ s6, ρ = [.sh (eCnl pg c), .sh (.lst (ws.map eWy)), .sh (eSta st), .sh (.lst (lls.map eLay)), .ow (.dct (eEv ((lls[k]!.take j).foldl insS s0))), .sh (eLay lls[k]!), s6, .no, .no]) (xv 5 rfl) ⟨_, rfl⟩ ?_ ?_)
    · rintro j _ ρ hx ⟨s6, rfl⟩
      obtain ⟨hj, rfl⟩ := map_at hx
      have nj : ((lls[k]!.take j).foldl insS s0).Nodup := nd_foldS n0
      have lj := len_foldS (lls[k]!.take j) s0
      rw [List.length_take] at lj
      refine xss_one (xs_setM 4 rfl xe_bl (xv 6 rfl) (kn_ev nj) (kd_sta _) (by unfold eEv; rw [List.length_map]; omega) ?_)
      have e1 : (lls[k]!.take (j + 1)).foldl insS s0 = insS ((lls[k]!.take j).foldl insS s0) (lls[k]!)[j]! := by
        rw [List.take_succ, List.getElem?_eq_getElem hj, getElem!_pos (lls[k]!) j hj, List.foldl_append]
        rfl
      have e2 := dput_ev ((lls[k]!.take j).foldl insS s0) (lls[k]!)[j]!
      show ∃ s6, _
      rw [e1, ← e2]
      exact ⟨_, rfl⟩
    · rintro ρ ⟨s6, rfl⟩
      show ∃ s5 s6, _
      rw [show ((lls[k]!).map eSta).length = (lls[k]!).length from List.length_map _, List.take_length, ef, List.foldl_append, ← e0]
      exact ⟨_, _, rfl⟩
  · rintro ρ ⟨s5, s6, rfl⟩
    rw [show (lls.map eLay).length = lls.length from List.length_map _, List.take_length, es]
    exact ⟨_, _, rfl⟩
  rintro ρ ⟨s5, s6, rfl⟩
  have hek : (eEv seen).map Prod.fst = seen.map eSta := by unfold eEv; rw [List.map_map]; rfl
  refine xss_mid (fun _ => True)
    (xs_forL 6 (fun k ρ => ∃ s5 s6 s7 s8, ρ = [.sh (eCnl pg c), .sh (.lst (ws.map eWy)), .sh (eSta st), .sh (.lst (lls.map eLay)), .ow (.dct (eEv seen)), s5, s6, s7, s8]) (XE.to (XO.lst (xo_listM (xpv 4 (.inl rfl)) (by unfold eEv; rw [List.length_map]; omega) 1)) (congrArg D.lst hek)) ⟨_, _, _, _, rfl⟩ ?_ (fun _ _ => trivial)) (fun ρ _ => xss_one (xs_ret xe_bl rfl))
  rintro k _ ρ hx ⟨s5, s6, s7, s8, rfl⟩
  obtain ⟨hk, rfl⟩ := map_at hx
  obtain ⟨t, et⟩ : ∃ t, t = seen[k]! := ⟨_, rfl⟩
  have ht : t ∈ lls.flatten := (hmem t).mp (by rw [et]; exact mem_get hk)
  obtain ⟨o1, o2, o3⟩ := B.ok t ht
  rw [← et]
  refine xss_cons (xs_if (c := false) ((xt_val (xe_call l_home (XA.sh ((xv 1 rfl)) (XA.sh ((xv 6 rfl)) XA.nil)) 3 ⟨(c, ws, t), o1, rfl, rfl⟩)).to o2) (fun q => nomatch q) (fun _ => xss_nil ?_))
  refine xss_one (xs_forL 7 (fun k ρ => ∃ s5 s7 s8, ρ = [.sh (eCnl pg c), .sh (.lst (ws.map eWy)), .sh (eSta st), .sh (.lst (lls.map eLay)), .ow (.dct (eEv seen)), s5, .sh (eSta t), s7, s8]) (XO.lst (xo_call l_deeds (XA.sh ((xv 0 rfl)) (XA.sh ((xv 1 rfl)) XA.nil)) 4 ⟨(c, ws), ⟨Z.cw.lm, Z.sw.wl⟩, rfl, rfl⟩)) ⟨_, _, _, rfl⟩ ?_ (fun ρ ⟨_, _, _, e⟩ => ⟨_, _, _, _, e⟩))
  rintro j _ ρ hx ⟨s5, s7, s8, rfl⟩
  obtain ⟨hj, rfl⟩ := map_at hx
  have hd : (deeds c ws)[j]! ∈ deeds c ws := mem_get hj
  obtain ⟨d, ed⟩ : ∃ d, d = (deeds c ws)[j]! := ⟨_, rfl⟩
  rw [← ed] at hd ⊢
  refine xss_cons (xs_set 8 (xe_call l_after (XA.sh ((xv 0 rfl)) (XA.sh ((xv 1 rfl)) (XA.sh ((xv 6 rfl)) (XA.sh ((xv 7 rfl)) XA.nil)))) 5 ⟨(c, ws, t, d), ⟨o1, mem_deeds hd⟩, rfl, rfl⟩) ?_)
  by_cases q : whyNot c ws t d = ""
  · have e : lAft c ws t d = eSta (after c ws t d) := by unfold lAft; rw [if_pos q]
    dsimp only
    rw [e]
    refine xss_one (xs_if (xt_and (xt_cmp (xv 8 rfl) xe_non o_notN) (fun _ => xt_notInM (xv 8 rfl) (xpv 4 (.inl rfl)) (kn_ev hnd) (kd_sta _))) (fun z => xss_no ?_) (fun _ => xss_nil ⟨_, _, _, rfl⟩))
    have : dget (eEv seen) (eSta (after c ws t d)) = some (.bl true) := by rw [dget_ev, if_pos ((hmem _).mpr (o3 d hd q))]
    have z : (true && !(dget (eEv seen) (eSta (after c ws t d))).isSome) = true := z
    rw [this] at z
    cases z
  · have e : lAft c ws t d = .non := by unfold lAft; rw [if_neg q]
    dsimp only
    rw [e]
    exact xss_one (xs_if (xt_and (c2 := false) (xt_cmp (xv 8 rfl) xe_non o_notN) (fun z => nomatch z)) (fun z => nomatch z) (fun _ => xss_nil ⟨_, _, _, rfl⟩))
end Lk
set_option maxHeartbeats 400000
namespace Lk
open PySem PySem.Spec PyProof.Rows L2
def toldM (c : Cnl) (day r : Nat) : Int × Int := if day < c.nights.length then (c.nights[day]!)[r]! else (0, 0)
def wthM (c : Cnl) (day : Nat) (more : Int) : List (Int × Int) := (List.range c.nr).map fun (r : Nat) => ((toldM c day r).1 + more * ((r : Int) % 2), (toldM c day r).2 - min (toldM c day r).2 more)
def kM (cell : Int) : Nat := (cell / 8 % 97).toNat
def amountM (cell unit : Int) : Int := cell / 776 % 3 * unit + cell / 2328 % 2
def entM (c : Cnl) (names : List Str) (day : Nat) (cell unit : Int) : EntR :=
  if cell % 8 < 4 ∧ 0 < names.length then .pass (kM cell % names.length)
  else if cell % 8 < 5 then .let_ (kM cell % c.nl)
  else if cell % 8 = 5 then .night (wthM c day (amountM cell unit))
  else if cell % 8 = 6 then .take (kM cell % c.nr) (amountM cell unit)
  else .rain (kM cell % c.nr) (cell / 776 % 10 ^ 12)
variable {pg : Pg} [Lib3 pg]
theorem s102 : Sc [("canal", true), ("day", true), ("more", true), ("some", true), ("r", true), ("told", true)] ["canal", "day", "more"] ["range", "len", "min", "tuple"] (defScope (top 102)) := sc_by (by decide +kernel)
theorem l_weather_of : Fn pg 1 false "_law_weather_of" [] (Ct (fun a : Cnl × Nat × Int => CW a.1) (fun a => [.sh (eCnl pg a.1), .sh (eN a.2.1), .sh (.int a.2.2)]) fun a => .sh (eWs true (wthM a.1 a.2.1 a.2.2))) := by
  refine fn_ct 102 65 rfl s102 (fun _ => rfl) (fun _ _ _ _ _ _ us hl => match us, hl with | [_, _, _], _ => rfl) ?_
  rintro Γ ⟨c, day, more⟩ W
  have W : CW c := W
  have hrm : c.nr ≤ 10 := W.rm
  refine xss_cons (xs_setO 3 (lsO XB.nil) ?_)
  refine xss_mid (fun ρ => ∃ s4 s5, ρ = [.sh (eCnl pg c), .sh (eN day), .sh (.int more), .ow (.lst ((wthM c day more).map eWth)), s4, s5])
    (xs_forR (n := c.nr) 4 (fun k ρ => ∃ s4 s5, ρ = [.sh (eCnl pg c), .sh (eN day), .sh (.int more), .ow (.lst (((List.range k).map fun (r : Nat) => ((toldM c day r).1 + more * ((r : Int) % 2), (toldM c day r).2 - min (toldM c day r).2 more)).map eWth)), s4, s5]) ((xe_lenL (f_reaches (xv 0 rfl)) 1).to (da := eN c.nr) (by rw [List.length_map])) (by omega) ⟨_, _, rfl⟩ ?_ ?_ 0 (Bl.range (pg := pg))) ?_
  · rintro k ρ hk ⟨s4, s5, rfl⟩
    have hk : k < c.nr := by omega
    refine xss_cons (xs_set 5 (tup (XB.sh (xe_int) (XB.sh (xe_int) XB.nil))) ?_)
    refine xss_mid (fun ρ => ρ = [.sh (eCnl pg c), .sh (eN day), .sh (.int more), .ow (.lst (((List.range k).map fun (r : Nat) => ((toldM c day r).1 + more * ((r : Int) % 2), (toldM c day r).2 - min (toldM c day r).2 more)).map eWth)), .sh (eN k), .sh (eWth (toldM c day k))])
      (xs_if (c := decide (day < c.nights.length)) ((xt_cmp (xv 1 rfl) (xe_lenL (f_nights (xv 0 rfl)) 1) o_lt).to (by rw [List.length_map]; exact decide_eq_decide.mpr Int.ofNat_lt)) (fun q => ?_) (fun q => xss_nil ?_)) ?_
    · have q := of_decide_eq_true q
      refine xss_one (xs_set 5 (xe_ixL (ds := (c.nights[day]!).map eWth) (xe_ixL (f_nights (xv 0 rfl)) (xv 1 rfl) rfl (at_map (f := eNight) q)) (xv 4 rfl) rfl (at_map (f := eWth) (by rw [W.nw _ (mem_get q)]; exact hk))) ?_)
      unfold toldM
      rw [if_pos q]
      rfl
    · have q := of_decide_eq_false q
      unfold toldM
      rw [if_neg (c := day < c.nights.length) q]
      rfl
    rintro _ rfl
    refine xss_one (xs_append 3 rfl (d := eWth ((toldM c day k).1 + more * ((k : Int) % 2), (toldM c day k).2 - min (toldM c day k).2 more)) (tup (XB.sh (xe_op (xe_ixt (xv 5 rfl)) (xe_op (xv 2 rfl) (xe_op (xv 4 rfl) xe_int (o_mod (by decide))) (o_mul (cmR (by omega)))) o_add) (XB.sh (xe_op (xe_ixt (xv 5 rfl)) (xe_min (xe_ixt (xv 5 rfl)) (xv 2 rfl) 2) o_sub) XB.nil))) ?_ (by simp; omega))
    rw [List.range_succ, List.map_append, List.map_append]
    exact ⟨_, _, rfl⟩
  · rintro ρ ⟨s4, s5, rfl⟩
    rw [Int.toNat_natCast]
    exact ⟨_, _, rfl⟩
  · rintro ρ ⟨s4, s5, rfl⟩
    exact xss_one (xs_ret (xe_tupleP (xpv 3 (.inl rfl)) 3) rfl)
theorem s103 : Sc [("canal", true), ("names", true), ("day", true), ("cell", true), ("unit", true), ("what", true), ("k", true), ("amount", true), ("name", true)] ["canal", "names", "day", "cell", "unit"] ["len", "_law_weather_of"] (defScope (top 103)) := sc_by (by decide +kernel)
theorem l_entry : Fn pg 2 false "_law_entry" [] (Ct (fun a : Cnl × Bk × Int × Int => CW a.1 ∧ a.2.1.house = a.1) (fun a => [.sh (eCnl pg a.1), .sh (.lst (a.2.1.called.map D.str)), .sh (eN a.2.1.standing.1), .sh (.int a.2.2.1), .sh (.int a.2.2.2)]) fun a => .sh (eEnt (entOf a.2.1 (entM a.1 a.2.1.called a.2.1.standing.1 a.2.2.1 a.2.2.2)))) := by
  refine fn_ct 103 66 rfl s103 (fun _ => rfl) (fun _ _ _ _ _ _ us hl => match us, hl with | [_, _, _, _, _], _ => rfl) ?_
  rintro Γ ⟨c, b, cell, unit⟩ ⟨W, hh⟩
  dsimp only at W hh ⊢
  have h97 := Int.emod_nonneg (cell / 8) (show (97 : Int) ≠ 0 by decide)
  have hkM : cell / 8 % 97 = (kM cell : Nat) := (Int.toNat_of_nonneg h97).symm
  have h3 := Int.emod_nonneg (cell / 776) (show (3 : Int) ≠ 0 by decide)
  have h3' := Int.emod_lt_of_pos (cell / 776) (show (0 : Int) < 3 by decide)
  have hnl : 0 < c.locks.length := W.l1
  have hnr : 0 < c.reaches.length := Nat.lt_of_lt_of_le (by decide) W.r2
  refine xss_cons (xs_set 5 (xe_op (xv 3 rfl) xe_int (o_mod (by decide))) ?_)
  refine xss_cons (xs_set 6 (nx (n := kM cell) (xe_op (xe_op (xv 3 rfl) xe_int (o_fdiv ⟨by decide, by decide⟩)) xe_int (o_mod (by decide))) hkM) ?_)
  refine xss_cons (xs_set 7 ((xe_op (xe_op (xe_op (xe_op (xv 3 rfl) xe_int (o_fdiv ⟨by decide, by decide⟩)) xe_int (o_mod (by decide))) (xv 4 rfl) (o_mul (cmL (by omega)))) (xe_op (xe_op (xv 3 rfl) xe_int (o_fdiv ⟨by decide, by decide⟩)) xe_int (o_mod (by decide))) o_add).to (da := .int (amountM cell unit)) rfl) ?_)
  refine xss_cons (xs_if (c := decide (cell % 8 < 4) && decide (0 < b.called.length)) (xt_and (xt_cmp (xv 5 rfl) xe_int o_lt) (fun _ => (xt_cmp (xe_lenL (xv 1 rfl) 0) xe_int o_gt).to (by rw [List.length_map]; exact decide_eq_decide.mpr (by omega)))) (fun q => xss_one ?_) (fun q => xss_nil ?_))
  · rw [Bool.and_eq_true, decide_eq_true_eq, decide_eq_true_eq] at q
    have e : entM c b.called b.standing.1 cell unit = .pass (kM cell % b.called.length) := by unfold entM; rw [if_pos q]
    rw [e]
    exact xs_ret (tup (XB.sh (xe_str) (XB.sh (xe_ixL (j := kM cell % b.called.length) (xv 1 rfl) (xe_op (xv 6 rfl) (xe_lenL (xv 1 rfl) 0) (o_mod (by rw [List.length_map]; omega))) (by rw [List.length_map]; exact (Int.natCast_emod _ _).symm) (at_map (f := D.str) (Nat.mod_lt _ q.2))) XB.nil))) rfl
  have q1 : ¬ (cell % 8 < 4 ∧ 0 < b.called.length) := fun z => by
    rw [decide_eq_true z.1, decide_eq_true z.2] at q
    cases q
  refine xss_cons (xs_if (xt_cmp (xv 5 rfl) xe_int o_lt) (fun q => xss_one ?_) (fun q => xss_nil ?_))
  · have e : entM c b.called b.standing.1 cell unit = .let_ (kM cell % c.nl) := by unfold entM; rw [if_neg q1, if_pos (of_decide_eq_true q)]
    rw [e]
    refine xs_ret (tup (XB.sh (xe_str) (XB.sh (f_lname (xe_ixL (j := kM cell % c.nl) (f_locks (xv 0 rfl)) (xe_op (xv 6 rfl) (xe_lenL (f_locks (xv 0 rfl)) 0) (o_mod (by rw [List.length_map]; omega))) (by rw [List.length_map]; exact (Int.natCast_emod _ _).symm) (at_map (Nat.mod_lt _ hnl)))) XB.nil))) ?_
    rw [← hh]
    rfl
  have q2 := of_decide_eq_false q
  refine xss_cons (xs_if (xt_cmp (xv 5 rfl) xe_int o_eqI) (fun q => xss_one ?_) (fun q => xss_nil ?_))
  · have e : entM c b.called b.standing.1 cell unit = .night (wthM c b.standing.1 (amountM cell unit)) := by unfold entM; rw [if_neg q1, if_neg q2, if_pos (of_decide_eq_true q)]
    rw [e]
    exact xs_ret (tup (XB.sh (xe_str) (XB.sh (xe_call l_weather_of (XA.sh ((xv 0 rfl)) (XA.sh ((xv 2 rfl)) (XA.sh ((xv 7 rfl)) XA.nil))) 1 ⟨(c, b.standing.1, amountM cell unit), W, rfl, rfl⟩) XB.nil))) rfl
  have q3 := of_decide_eq_false q
  refine xss_cons (xs_set 8 (f_rname (xe_ixL (j := kM cell % c.nr) (f_reaches (xv 0 rfl)) (xe_op (xv 6 rfl) (xe_lenL (f_reaches (xv 0 rfl)) 0) (o_mod (by rw [List.length_map]; omega))) (by rw [List.length_map]; exact (Int.natCast_emod _ _).symm) (at_map (Nat.mod_lt _ hnr)))) ?_)
  refine xss_cons (xs_if (xt_cmp (xv 5 rfl) xe_int o_eqI) (fun q => xss_one ?_) (fun q => xss_nil (xss_one ?_)))
  · have e : entM c b.called b.standing.1 cell unit = .take (kM cell % c.nr) (amountM cell unit) := by unfold entM; rw [if_neg q1, if_neg q2, if_neg q3, if_pos (of_decide_eq_true q)]
    rw [e]
    refine xs_ret (tup (XB.sh (xe_str) (XB.sh ((xv 8 rfl)) (XB.sh ((xv 7 rfl)) XB.nil)))) ?_
    rw [← hh]
    rfl
  · have e : entM c b.called b.standing.1 cell unit = .rain (kM cell % c.nr) (cell / 776 % 10 ^ 12) := by unfold entM; rw [if_neg q1, if_neg q2, if_neg q3, if_neg (of_decide_eq_false q)]
    rw [e]
    refine xs_ret (tup (XB.sh (xe_str) (XB.sh ((xv 8 rfl)) (XB.sh ((xe_op (xe_op (xv 3 rfl) xe_int (o_fdiv ⟨by decide, by decide⟩)) (xe_op xe_int xe_int (o_pow ⟨by decide, by decide, by decide⟩)) (o_mod (by decide))).to (da := .int (cell / 776 % 10 ^ 12)) rfl) XB.nil)))) ?_
    rw [← hh]
    rfl
end Lk
set_option maxHeartbeats 400000
namespace Lk
open PySem PySem.Spec PyProof.Rows L2
def eStand (b : Bk) : D := .lst [.lst (b.called.map D.str), .lst (b.courses.map eWy), .lst [eSta b.standing], .lst (b.moved.map ePr), .lst (b.gatewords.map eGate), .lst (b.told.map eEnt)]
noncomputable def lookedD : Res → D
  | .found g m ls => .tup [.str "home", .lst ((pathOf m g).reverse.map eDeed), .lst (ls.map eLay)]
  | .closed ls => .tup [.str "doomed", .lst (ls.map eLay)]
  | .wide => .tup [.str "TooWide"]
def boundM (m : Nat) : Nat := if m = 0 then 200 else m
noncomputable def madeR (pg : Pg) (b : Bk) (m : Nat) : Rz := match lookB b (boundM m) with
  | .found g mt ls => .ow (eKp pg b (boundM m) (planOf (.found g mt ls)))
  | .closed _ => .sh (.str "Torn")
  | .wide => .sh (.str "TooWide")
variable {pg : Pg} [Lib3 pg]
theorem s106 : Sc [("book", true)] ["book"] [] (defScope (top 106)) := sc_by (by decide +kernel)
theorem l_stand : Fn pg 2 false "_law_stand" [] (Ct (fun b : Bk => b.gatewords.length ≤ 1000) (fun b => [.pk (eBk pg b)]) fun b => .sh (eStand b)) := by
  refine fn_ct 106 69 rfl s106 (fun _ => rfl) (fun _ _ _ _ _ _ us hl => match us, hl with | [_], _ => rfl) ?_
  rintro Γ b h
  exact xss_one (xs_ret (ls (XB.sh (XO.lst (xo_meth0 b_names (XP.rcv (xpv 0 (.inr rfl))) (.inr ⟨_, rfl, rfl⟩) ⟨b, trivial, rfl, rfl⟩)) (XB.sh (XO.lst (xo_meth0 b_ways (XP.rcv (xpv 0 (.inr rfl))) (.inr ⟨_, rfl, rfl⟩) ⟨b, trivial, rfl, rfl⟩)) (XB.sh (ls (XB.sh (xe_meth0 b_state (XP.rcv (xpv 0 (.inr rfl))) (.inr ⟨_, rfl, rfl⟩) ⟨b, trivial, rfl, rfl⟩) XB.nil)) (XB.sh (XO.lst (xo_meth0 b_ledger (XP.rcv (xpv 0 (.inr rfl))) (.inr ⟨_, rfl, rfl⟩) ⟨b, trivial, rfl, rfl⟩)) (XB.sh (XO.lst (xo_meth0 b_gatework (XP.rcv (xpv 0 (.inr rfl))) (.inr ⟨_, rfl, rfl⟩) ⟨b, h, rfl, rfl⟩)) (XB.sh (XO.lst (xo_meth0 b_entries (XP.rcv (xpv 0 (.inr rfl))) (.inr ⟨_, rfl, rfl⟩) ⟨b, trivial, rfl, rfl⟩)) XB.nil))))))) rfl)
theorem s105 : Sc [("canal", true), ("book", true), ("most", true)] ["canal", "book", "most"] ["look", "TooWide"] (defScope (top 105)) := sc_by (by decide +kernel)
theorem l_looked : Fn pg 14 false "_law_looked" [] (Ct (fun a : Bk × Nat => BkC a.1 ∧ 1 ≤ a.2 ∧ a.2 ≤ 1000) (fun a => [.sh (eCnl pg a.1.house), .pk (eBk pg a.1), .sh (eN a.2)]) fun a => .sh (lookedD (lookB a.1 a.2))) := by
  refine fn_ct 105 68 rfl s105 (fun _ => rfl) (fun _ _ _ _ _ _ us hl => match us, hl with | [_, _, _], _ => rfl) ?_
  rintro Γ ⟨b, most⟩ ⟨W, h1, h2⟩
  dsimp only at W h1 h2 ⊢
  have arg : ∀ Γ' : Gf pg (defScope (top 105)) [("canal", true), ("book", true), ("most", true)] ["look", "TooWide"] 13 [], XA Γ'.toGm (match defBody (top 105) with
      | [.Try [.Return (some (.Call _ es _ _)) _] _ _ _ _] => es
      | _ => []) [.sh (eCnl pg b.house), .ro (eBk pg b), .sh (eN most)] [.sh (eCnl pg b.house), .sh (.lst (b.courses.map eWy)), .sh (eSta b.standing), .sh (eN most)] := fun Γ' =>
    (XA.sh ((xv 0 rfl)) (XA.sh (XO.lst (xo_meth0 b_ways (XP.rcv (xpv 1 (.inr rfl))) (.inr ⟨_, rfl, rfl⟩) ⟨b, trivial, rfl, rfl⟩)) (XA.sh (xe_meth0 b_state (XP.rcv (xpv 1 (.inr rfl))) (.inr ⟨_, rfl, rfl⟩) ⟨b, trivial, rfl, rfl⟩) (XA.sh ((xv 2 rfl)) XA.nil))))
  refine xss_one (xs_tryO (fun C _ => C = ca pg "TooWide" ∧ lookB b most = .wide) (Lib3.exg "TooWide" (by decide)) (fun Γ' _ => ?_) (fun C ρ' hC => ?_) 1)
  · cases he : lookB b most with
    | found g m ls => exact xss_one (xs_ret (xe_call f_look (arg Γ') 0 ⟨(b.house, b.courses, b.standing, most), ⟨W.cw, W.sw, h1, h2⟩, rfl, by show Rz.sh _ = lookR pg (lookB b most); rw [he]; rfl⟩) rfl)
    | closed ls => exact xss_one (xs_ret (xe_call f_look (arg Γ') 0 ⟨(b.house, b.courses, b.standing, most), ⟨W.cw, W.sw, h1, h2⟩, rfl, by show Rz.sh _ = lookR pg (lookB b most); rw [he]; rfl⟩) rfl)
    | wide => exact xss_one (xs_retX (xx_callR f_look (arg Γ') 0 ⟨(b.house, b.courses, b.standing, most), ⟨W.cw, W.sw, h1, h2⟩, rfl, by show Rz.ex _ = lookR pg (lookB b most); rw [he]; rfl⟩) (fun ρx => ⟨rfl, rfl⟩))
  · obtain ⟨e1, e2⟩ := hC
    subst e1
    refine ⟨Lib3.exm "TooWide" "TooWide" (by decide), fun σ Hf H a D oe pn E ha rs hz hf => ?_⟩
    refine RunSs.of (pss_one (ps_ret (pe_tup (pa_cons pe_str pa_nil)))) ⟨sz5 (Nat.le_of_ble_eq_true rfl), fun p hp => ?_⟩
    refine rs σ _ _ ρ' (.tup [.str "TooWide"]) _ (E.grow (Gw.fresh E.ff E.tabs hp)) ?_ ⟨p, _, rfl, SqT.of upd_same, _, _, rfl, rfl, rfl⟩
    show Rz.sh _ = Rz.sh (lookedD (lookB b most))
    rw [e2]
    rfl
theorem s104 : Sc [("book", true), ("most", true), ("e", true)] ["book", "most"] ["Keeper", "CanalError", "isinstance", "Torn", "ValueError", "BadRow", "NotNow", "TooWide"] (defScope (top 104)) := sc_by (by decide +kernel)
theorem l_made : Fn pg 17 false "_law_made" [] (Ct (fun a : Bk × Nat => BkC a.1 ∧ a.2 ≤ 1000) (fun a => [.pk (eBk pg a.1), .sh (eN a.2)]) fun a => madeR pg a.1 a.2) := by
  refine fn_ct 104 67 rfl s104 (fun _ => rfl) (fun _ _ _ _ _ _ us hl => match us, hl with | [_, _], _ => rfl) ?_
  rintro Γ ⟨b, m⟩ ⟨W, h2⟩
  dsimp only at W h2 ⊢
  have bl : 1 ≤ boundM m ∧ boundM m ≤ 1000 := by unfold boundM; split <;> omega
  have body : ∀ (Γ' : Gf pg (defScope (top 104)) [("book", true), ("most", true), ("e", true)] ["Keeper", "CanalError", "isinstance", "Torn", "ValueError", "BadRow", "NotNow", "TooWide"] 16 []) (De : Lk.De), (∀ o, madeR pg b m = .ow o → De.rt (.ow o) [.ro (eBk pg b), .sh (eN m), .no]) →
      (∀ C ρx, (C = ca pg "Torn" ∧ ∃ ls, lookB b (boundM m) = .closed ls) ∨ (C = ca pg "TooWide" ∧ lookB b (boundM m) = .wide) → De.ex C ρx) → XSs Γ' (match defBody (top 104) with
      | [.Try bd _ _ _ _, _] => bd
      | _ => []) [.ro (eBk pg b), .sh (eN m), .no] De := fun Γ' De h1 h3 => by
    by_cases hm : m = 0
    · have eb : boundM m = 200 := by unfold boundM; rw [if_pos hm]
      rw [eb] at h3 bl
      refine xss_cons (xs_if (c := true) ((xt_cmp (xv 1 rfl) xe_int o_eqI).to (decide_eq_true (by rw [hm]; rfl))) (fun _ => xss_one ?_) (fun q => nomatch q))
      have pre : BkC b ∧ 1 ≤ 200 ∧ 200 ≤ 1000 := ⟨W, by decide, by decide⟩
      cases he : lookB b 200 with
      | found g mt ls => exact xs_retO (xo_make (Γ := Γ') (o' := eKp pg b 200 (planOf (lookB b 200))) k_keeper0 (XA.pk ((xpv 0 (.inr rfl))) XA.nil) 0 ⟨(b, 200), pre, rfl, by show Rz.sh _ = keepRes pg (lookB b 200); rw [he]; rfl⟩) (h1 _ (by unfold madeR; rw [eb, he]))
      | closed ls => exact xs_retX (xx_make (Γ := Γ') (Cl := ca pg "Torn") k_keeper0 (XA.pk ((xpv 0 (.inr rfl))) XA.nil) 0 (eKp pg b 200 (planOf (lookB b 200))) ⟨(b, 200), pre, rfl, by show Rz.ex _ = keepRes pg (lookB b 200); rw [he]; rfl⟩) (fun ρx => h3 _ _ (.inl ⟨rfl, ls, he⟩))
      | wide => exact xs_retX (xx_make (Γ := Γ') (Cl := ca pg "TooWide") k_keeper0 (XA.pk ((xpv 0 (.inr rfl))) XA.nil) 0 (eKp pg b 200 (planOf (lookB b 200))) ⟨(b, 200), pre, rfl, by show Rz.ex _ = keepRes pg (lookB b 200); rw [he]; rfl⟩) (fun ρx => h3 _ _ (.inr ⟨rfl, he⟩))
    · have eb : boundM m = m := by unfold boundM; rw [if_neg hm]
      rw [eb] at h3 bl
      refine xss_cons (xs_if (c := false) ((xt_cmp (xv 1 rfl) xe_int o_eqI).to (decide_eq_false (by omega))) (fun q => nomatch q) (fun _ => xss_nil (xss_one ?_)))
      cases he : lookB b m with
      | found g mt ls => exact xs_retO (xo_make (Γ := Γ') (o' := eKp pg b m (planOf (lookB b m))) k_keeper (XA.pk ((xpv 0 (.inr rfl))) (XA.sh ((xv 1 rfl)) XA.nil)) 0 ⟨(b, m), ⟨W, bl⟩, rfl, by show Rz.sh _ = keepRes pg (lookB b m); rw [he]; rfl⟩) (h1 _ (by unfold madeR; rw [eb, he]))
      | closed ls => exact xs_retX (xx_make (Γ := Γ') (Cl := ca pg "Torn") k_keeper (XA.pk ((xpv 0 (.inr rfl))) (XA.sh ((xv 1 rfl)) XA.nil)) 0 (eKp pg b m (planOf (lookB b m))) ⟨(b, m), ⟨W, bl⟩, rfl, by show Rz.ex _ = keepRes pg (lookB b m); rw [he]; rfl⟩) (fun ρx => h3 _ _ (.inl ⟨rfl, ls, he⟩))
      | wide => exact xs_retX (xx_make (Γ := Γ') (Cl := ca pg "TooWide") k_keeper (XA.pk ((xpv 0 (.inr rfl))) (XA.sh ((xv 1 rfl)) XA.nil)) 0 (eKp pg b m (planOf (lookB b m))) ⟨(b, m), ⟨W, bl⟩, rfl, by show Rz.ex _ = keepRes pg (lookB b m); rw [he]; rfl⟩) (fun ρx => h3 _ _ (.inr ⟨rfl, he⟩))
  refine xss_cons (xs_tryA (fun C _ => (C = ca pg "Torn" ∧ ∃ ls, lookB b (boundM m) = .closed ls) ∨ (C = ca pg "TooWide" ∧ lookB b (boundM m) = .wide)) 2 (Lib3.exg "CanalError" (by decide)) (fun Γ' _ => body Γ' _ (fun o ho => ho.symm) (fun C ρx h => h)) (fun C ρ' hC => ?_) 1 (by decide +kernel) (by decide +kernel))
  rcases hC with ⟨e1, ls, e2⟩ | ⟨e1, e2⟩
  · subst e1
    refine ⟨Lib3.exm "Torn" "CanalError" (by decide), fun σ Hf H a D oe pn E ha rs hz hf => ?_⟩
    have hl : 2 < σ.length := by rw [E.len, E.ln, Γ.nc]; decide
    refine RunSs.of (pss_cons (ps_if (PW.pt (pw_and (runT _ _) (pw_and (runT _ _) (pw_and1 (pt_not (runT _ _)))))) (pss_one (ps_ret pe_str)) pss_nil) (runSs _ _)) ?_
    refine su_is (x := "Torn") (b := true) 2 hz hf (by decide) (by decide) (by decide) hl 2 3 (iteT (su_isV 2 hz hf hl 2 4 (iteT (su_isT 2 hz hf hl 2 5 6 fun tp htp => iteT ?_))))
    refine rs σ _ _ ρ' (.str "Torn") _ (E.grow (Gw.fresh E.ff E.tabs htp)) ?_ rfl
    show Rz.sh _ = madeR pg b m
    unfold madeR
    rw [e2]
  · subst e1
    refine ⟨Lib3.exm "TooWide" "CanalError" (by decide), fun σ Hf H a D oe pn E ha rs hz hf => ?_⟩
    have hl : 2 < σ.length := by rw [E.len, E.ln, Γ.nc]; decide
    refine RunSs.of (pss_cons (ps_if (PW.pt (pw_and (runT _ _) (pw_and (runT _ _) (pw_and1 (pt_not (runT _ _)))))) (pss_one (ps_ret pe_str)) pss_nil) (pss_one (ps_if (PW.pt (pw_and (runT _ _) (pw_and1 (pt_not (runT _ _))))) (pss_one (ps_ret pe_str)) pss_nil))) ?_
    refine su_is (x := "TooWide") (b := false) 2 hz hf (by decide) (by decide) (by decide) hl 2 3 (iteF (iteF ?_))
    refine su_is (x := "TooWide") (b := true) 2 hz hf (by decide) (by decide) (by decide) hl 2 7 (iteT (su_is (x := "TooWide") (b := false) 2 hz hf (by decide) (by decide) (by decide) hl 2 3 (iteT ?_)))
    refine rs σ _ _ ρ' (.str "TooWide") _ E ?_ rfl
    show Rz.sh _ = madeR pg b m
    unfold madeR
    rw [e2]
end Lk
set_option maxHeartbeats 400000
namespace Lk
open PySem PySem.Spec PyProof.Rows L2
/-! ### drawn names -/
theorem rep1_list (c n : Nat) : (rep1 c n).cps.toList = List.replicate n c := by unfold rep1; simp
theorem app_list (a b : Str) : (a ++ b).cps.toList = a.cps.toList ++ b.cps.toList := by
  show (a.cps ++ b.cps).toList = _
  exact Array.toList_append
theorem nameF_list (l at_ size s3 sg j : Nat) : (nameF l at_ size s3 sg j).cps.toList = if s3 = 0 then List.replicate (j + 1) (97 + l) else List.replicate at_ (97 + l) ++ [97 + (sg + j) % 26] ++ List.replicate (size - 1 - at_) (97 + l) := by
  unfold nameF
  split
  · exact rep1_list _ _
  · rw [app_list, app_list, rep1_list, rep1_list]
theorem letter_mem {i : Nat} (h : i < 26) : 97 + i ∈ lettersS.cps.toList := List.mem_of_getElem? (letters_get h)
theorem nameF_ok {l at_ size s3 sg j : Nat} (hl : l < 26) (ha : at_ < size) (hs : size ≤ 12) (hj : j < 12) : NmOk (nameF l at_ size s3 sg j) := by
  have e := nameF_list l at_ size s3 sg j
  have len : (nameF l at_ size s3 sg j).length = (nameF l at_ size s3 sg j).cps.toList.length := by show _ = _; rw [Array.length_toList]; rfl
  refine ⟨fun c hc => ?_, ?_, ?_⟩
  · rw [e] at hc
    split at hc
    · rw [(List.mem_replicate.mp hc).2]
      exact letter_mem hl
    · rcases List.mem_append.mp hc with q | q
      · rcases List.mem_append.mp q with q | q
        · rw [(List.mem_replicate.mp q).2]
          exact letter_mem hl
        · rw [List.mem_singleton.mp q]
          exact letter_mem (Nat.mod_lt _ (by decide))
      · rw [(List.mem_replicate.mp q).2]
        exact letter_mem hl
  · rw [len, e]
    split
    · rw [List.length_replicate]; omega
    · rw [List.length_append, List.length_append, List.length_replicate, List.length_replicate, List.length_singleton]; omega
  · rw [len, e]
    split
    · rw [List.length_replicate]; omega
    · rw [List.length_append, List.length_append, List.length_replicate, List.length_replicate, List.length_singleton]; omega
theorem at_mid (a c s : Nat) (r : List Nat) : (List.replicate a c ++ [s] ++ r)[a]? = some s := by
  rw [List.append_assoc, List.getElem?_append_right (by simp), List.length_replicate, Nat.sub_self]
  rfl
theorem nameF_inj {l at_ size s3 sg i j : Nat} (hi : i < 26) (hj : j < 26) (h : nameF l at_ size s3 sg i = nameF l at_ size s3 sg j) : i = j := by
  have h := congrArg (fun s : Str => s.cps.toList) h
  rw [nameF_list, nameF_list] at h
  split at h
  · have := congrArg List.length h
    rw [List.length_replicate, List.length_replicate] at this
    omega
  · have h := congrArg (fun xs : List Nat => xs[at_]?) h
    have h : (List.replicate at_ (97 + l) ++ [97 + (sg + i) % 26] ++ List.replicate (size - 1 - at_) (97 + l))[at_]? = (List.replicate at_ (97 + l) ++ [97 + (sg + j) % 26] ++ List.replicate (size - 1 - at_) (97 + l))[at_]? := h
    rw [at_mid, at_mid] at h
    have h := Option.some.inj h
    omega
theorem xyz_list : ("xyz" : Str).cps.toList = [120, 121, 122] := by decide +kernel
theorem nameF_xyz (l at_ size s3 sg j : Nat) : nameF l at_ size s3 sg j ≠ "xyz" := by
  intro h
  have h := congrArg (fun s : Str => s.cps.toList) h
  rw [nameF_list, xyz_list] at h
  split at h
  · have h0 := congrArg (fun xs : List Nat => xs[0]?) h
    have h1 := congrArg (fun xs : List Nat => xs[1]?) h
    rw [List.getElem?_replicate] at h0 h1
    split at h0
    · split at h1
      · simp at h0 h1
        omega
      · simp at h1
    · simp at h0
  · obtain ⟨c, ec⟩ : ∃ c, c = 97 + l := ⟨_, rfl⟩
    obtain ⟨s, es⟩ : ∃ s, s = 97 + (sg + j) % 26 := ⟨_, rfl⟩
    rw [← ec, ← es] at h
    match at_, h with
    | 0, h =>
      have h : s :: List.replicate (size - 1 - 0) c = [120, 121, 122] := h
      injection h with _ h
      match size - 1 - 0, h with
      | 0, h => cases h
      | 1, h => cases h
      | n + 2, h =>
        have h : c :: c :: List.replicate n c = [121, 122] := h
        injection h with h1 h
        injection h with h2 h
        omega
    | 1, h =>
      have h : c :: s :: List.replicate (size - 1 - 1) c = [120, 121, 122] := h
      injection h with h0 h
      injection h with _ h
      match size - 1 - 1, h with
      | 0, h => cases h
      | n + 1, h =>
        have h : c :: List.replicate n c = [122] := h
        injection h with h1 h
        omega
    | n + 2, h =>
      have h : c :: c :: (List.replicate n c ++ [s] ++ List.replicate (size - 1 - (n + 2)) c) = [120, 121, 122] := h
      injection h with h0 h
      injection h with h1 h
      omega
section
variable (ns : List Int) (k many : Nat)
theorem namesF_get {i : Nat} (h : i < many) : (namesF ns k many)[i]! = nameF (draw ns (k + 2) 26) (draw ns (k + 1) (1 + draw ns k 12)) (1 + draw ns k 12) (draw ns (k + 3) 3) (draw ns (k + 4) 26) i := by
  unfold namesF
  rw [getElem!_pos _ i (by simpa using h)]
  simp
theorem namesF_ok (h : many ≤ 10) : ∀ n ∈ namesF ns k many, NmOk n := by
  intro n hn
  unfold namesF at hn
  obtain ⟨j, hj, rfl⟩ := List.mem_map.mp hn
  have hj := List.mem_range.mp hj
  have l0 := draw_lt ns k (many := 12) (by decide)
  exact nameF_ok (draw_lt ns _ (by decide)) (draw_lt ns _ (by omega)) (by omega) (by omega)
theorem namesF_nd (h : many ≤ 10) : (namesF ns k many).Nodup := by
  unfold namesF
  refine List.pairwise_map.mpr ?_
  refine List.Pairwise.imp_of_mem (fun {a b} ha hb hne e => hne ?_) (List.nodup_range)
  have ha := List.mem_range.mp ha
  have hb := List.mem_range.mp hb
  exact nameF_inj (by omega) (by omega) e
theorem namesF_xyz : ("xyz" : Str) ∉ namesF ns k many := by
  intro hn
  unfold namesF at hn
  obtain ⟨j, hj, e⟩ := List.mem_map.mp hn
  exact nameF_xyz _ _ _ _ _ _ e
end
theorem xyz_ok : NmOk "xyz" := by
  refine ⟨fun c hc => ?_, by decide +kernel, by decide +kernel⟩
  rw [xyz_list] at hc
  have key : ([120, 121, 122].all fun c => decide (c ∈ lettersS.cps.toList)) = true := by decide +kernel
  exact of_decide_eq_true (List.all_eq_true.mp key c hc)
/-! ### the drawn canal -/
section
variable (ns : List Int)
theorem namedM_ok : (∀ n ∈ namedM ns, NmOk n) ∧ (namedM ns).Nodup := by
  have h1 := manyM_le ns
  have h2 := locksM_le ns
  unfold namedM
  split
  · exact ⟨namesF_ok ns 1000 _ (by omega), namesF_nd ns 1000 _ (by omega)⟩
  · exact ⟨namesF_ok ns 1010 _ (by omega), namesF_nd ns 1010 _ (by omega)⟩
theorem nodup_take_map {xs : List Str} {n : Nat} (h : xs.Nodup) (hn : n ≤ xs.length) : ((List.range n).map fun k => xs[k]!).Nodup := by
  refine List.pairwise_map.mpr ?_
  refine List.Pairwise.imp_of_mem (fun {a b} ha hb hne e => hne ?_) (List.nodup_range)
  have ha := List.mem_range.mp ha
  have hb := List.mem_range.mp hb
  rw [getElem!_pos xs a (by omega), getElem!_pos xs b (by omega)] at e
  exact (List.getElem_inj h).mp e
theorem canalM_lk : ∀ l ∈ (canalM ns).locks, LkW l ∧ l.low < l.high ∧ l.high < manyM ns := by
  intro l hl
  have hm := manyM_le ns
  have hu := unitF_pos ns
  obtain ⟨k, hk, rfl⟩ := List.mem_map.mp hl
  have l0 := draw_lt ns (100 + 9 * k) (many := manyM ns - 1) (by omega)
  have l1 := draw_lt ns (101 + 9 * k) (many := 1 + draw ns (100 + 9 * k) (manyM ns - 1)) (by omega)
  have l4 := draw_lt ns (104 + 9 * k) (many := 4) (by decide)
  obtain ⟨room, er⟩ : ∃ room, room = roomM ns k (unitF ns) := ⟨_, rfl⟩
  have hr : 1 ≤ room := by
    rw [er]
    unfold roomM
    have := Int.mul_le_mul (show (1 : Int) ≤ 1 + (draw ns (102 + 9 * k) 4 : Nat) by omega) hu (by omega) (by omega)
    omega
  have hp : 1 ≤ partM ns k (unitF ns) ∧ partM ns k (unitF ns) ≤ room := by
    unfold partM
    rw [← er]
    obtain ⟨d, ed⟩ : ∃ d, d = draw ns (104 + 9 * k) 4 := ⟨_, rfl⟩
    rw [← ed] at l4 ⊢
    match d, l4 with
    | 0, _ => show 1 ≤ (1 : Int) ∧ 1 ≤ room; omega
    | 1, _ => show 1 ≤ room ∧ room ≤ room; omega
    | 2, _ => show 1 ≤ 1 + room / 2 ∧ 1 + room / 2 ≤ room; omega
    | 3, _ => show 1 ≤ room - room / 3 ∧ room - room / 3 ≤ room; omega
  refine ⟨⟨by show 1 ≤ roomM ns k (unitF ns); rw [← er]; exact hr, ?_⟩, ?_, ?_⟩
  · show KdW (roomM ns k (unitF ns)) (if _ then _ else if _ then _ else _)
    rw [← er]
    split
    · exact hp
    · split
      · exact hp
      · trivial
  · show draw ns (101 + 9 * k) (1 + draw ns (100 + 9 * k) (manyM ns - 1)) < 1 + draw ns (100 + 9 * k) (manyM ns - 1)
    exact l1
  · show 1 + draw ns (100 + 9 * k) (manyM ns - 1) < manyM ns
    omega
theorem canalM_nr : (canalM ns).nr = manyM ns := by show ((List.range _).map _).length = _; rw [List.length_map, List.length_range]
theorem canalM_nl : (canalM ns).nl = locksM ns := by show ((List.range _).map _).length = _; rw [List.length_map, List.length_range]
theorem canalM_cw : CW (canalM ns) := by
  have hm := manyM_le ns
  have hl := locksM_le ns
  have h92 := draw_lt ns 92 (many := 2) (by decide)
  refine ⟨by rw [canalM_nr]; omega, by rw [canalM_nr]; omega, by rw [canalM_nl]; omega, by rw [canalM_nl]; omega, ?_, ?_, ?_, ?_⟩
  · show ((List.range _).map _).length ≤ _
    rw [List.length_map, List.length_range]
    omega
  · intro w hw
    obtain ⟨k, _, rfl⟩ := List.mem_map.mp hw
    rw [canalM_nr]
    unfold weatherM
    rw [List.length_map, List.length_range]
  · intro l h
    obtain ⟨_, a, b⟩ := canalM_lk ns l h
    rw [canalM_nr]
    exact ⟨a, b⟩
  · intro r hr t ht
    have e : (canalM ns).reaches[r] = rchM ns r (unitF ns) (namesF ns 1000 (manyM ns))[r]! := by
      have h2 : r < ((List.range (manyM ns)).map fun k => rchM ns k (unitF ns) (namesF ns 1000 (manyM ns))[k]!).length := hr
      have h3 : ((List.range (manyM ns)).map fun k => rchM ns k (unitF ns) (namesF ns 1000 (manyM ns))[k]!)[r] = rchM ns r (unitF ns) (namesF ns 1000 (manyM ns))[r]! := by rw [List.getElem_map, List.getElem_range]
      exact h3
    rw [e] at ht
    have l7 := draw_lt ns (10 * r + 7) (many := r + 1) (by omega)
    have ht : (if draw ns (10 * r + 7) (r + 1) = 0 then none else some (draw ns (10 * r + 7) (r + 1) - 1)) = some t := ht
    split at ht
    · cases ht
    · have := Option.some.inj ht
      omega
theorem canalM_cn : CNm (canalM ns) := by
  have hm := manyM_le ns
  obtain ⟨n1, n2⟩ := namedM_ok ns
  have hl := namedM_len ns
  have e1 : (canalM ns).reaches.map Rch.name = (List.range (manyM ns)).map fun k => (namesF ns 1000 (manyM ns))[k]! := by
    show ((List.range _).map _).map _ = _
    rw [List.map_map]
    rfl
  have e2 : (canalM ns).locks.map Lck.name = (List.range (locksM ns)).map fun k => (namedM ns)[k]! := by
    show ((List.range _).map _).map _ = _
    rw [List.map_map]
    rfl
  refine ⟨?_, ?_, ?_, ?_⟩
  · rw [e1]
    exact nodup_take_map (namesF_nd ns 1000 _ (by omega)) (by rw [namesF_len]; exact Nat.le_refl _)
  · rw [e2]
    exact nodup_take_map n2 hl
  · intro r hr
    obtain ⟨k, hk, rfl⟩ := List.mem_map.mp hr
    exact namesF_ok ns 1000 _ (by omega) _ (mem_get (by rw [namesF_len]; exact List.mem_range.mp hk))
  · intro l h
    obtain ⟨k, hk, rfl⟩ := List.mem_map.mp h
    exact n1 _ (mem_get (by have := List.mem_range.mp hk; omega))
end
end Lk
set_option maxHeartbeats 400000
namespace Lk
open PySem PySem.Spec PyProof.Rows L2
/-! ### books in order -/
def EntOk : Ent → Prop
  | .come n s st => PyData.strOk n = true ∧ PyData.strOk s = true ∧ ∀ x ∈ st, PyData.strOk x.1 = true
  | .pass n => PyData.strOk n = true
  | .let_ n => PyData.strOk n = true
  | .night _ => True
  | .take n _ => PyData.strOk n = true
  | .rain n _ => PyData.strOk n = true
structure BkL (b : Bk) : Prop extends BkW b where
  z : StW b.house b.courses b.standing
  gw : ∀ g ∈ b.gatewords, PyData.strOk g.1 = true ∧ ∀ w ∈ g.2, PyData.strOk w = true
  tw : ∀ e ∈ b.told, EntOk e
theorem lockName_ok {b : Bk} (C : BkC b) {k : Nat} (hk : k < b.house.nl) : PyData.strOk (b.house.locks[k]!).name = true := (C.cn.lo _ (mem_get hk)).ok
theorem reachName_ok {b : Bk} (C : BkC b) {r : Nat} (hr : r < b.house.nr) : PyData.strOk (b.house.reaches[r]!).name = true := (C.cn.ro _ (mem_get hr)).ok
theorem ent_ok {b : Bk} {e : EntR} (C : BkC b) (h : ErW b e) : EntOk (entOf b e) := by
  cases e with
  | come n w =>
    obtain ⟨h1, h2, h3, h4⟩ := h
    refine ⟨h1.ok, reachName_ok C h4.st, fun x hx => ?_⟩
    obtain ⟨s, hs, rfl⟩ := List.mem_map.mp hx
    exact lockName_ok C (h4.lk s hs)
  | pass i => exact (C.nm _ (mem_get (show i < b.called.length from h))).ok
  | let_ k => exact lockName_ok C h
  | night ws => trivial
  | take r n => exact reachName_ok C h
  | rain r n => exact reachName_ok C h
theorem passing_ok (full up : Bool) : ∀ w ∈ passing full up, PyData.strOk w = true := by
  have key : ((passing full up).all PyData.strOk) = true := by cases full <;> cases up <;> decide +kernel
  exact List.all_eq_true.mp key
theorem words_ok {b : Bk} {e : EntR} (C : BkC b) (h : ErW b e) (f : faultR b e = "") (g : isGate e = true) : PyData.strOk (wordsR b e).1 = true ∧ ∀ w ∈ (wordsR b e).2, PyData.strOk w = true := by
  cases e with
  | pass i =>
    have hi : i < b.courses.length := DW_of C h (e := .pass i) rfl
    have hk := C.sw.step_lt hi (pass_ok f)
    exact ⟨lockName_ok C hk, passing_ok _ _⟩
  | let_ k =>
    refine ⟨lockName_ok C h, fun w hw => ?_⟩
    rw [List.mem_singleton.mp hw]
    decide +kernel
  | _ => cases g
theorem stw_waters {c : Cnl} {ws : List Wy} {st : Sta} (Z : StW c ws st) {wa : List Int} {day : Nat} (hl : wa.length = c.many) (hb : ∀ k, k < c.nl → wa[c.basin k]! = st.2.1[c.basin k]!) : StW c ws (day, wa, st.2.2) :=
  ⟨Z.cw, Z.lk, ⟨Z.sw.wl, Z.sw.pl, hl, Z.sw.wy, Z.sw.w2⟩, Z.wy, Z.pl, fun k hk => by show BaK (wa[c.basin k]!) _; rw [hb k hk]; exact Z.ba k hk⟩
theorem stw_come {c : Cnl} {ws : List Wy} {st : Sta} (Z : StW c ws st) {w : Wy} (hw : WyOk c w) (hl : ws.length ≤ 9) : StW c (ws ++ [w]) (st.1, st.2.1, st.2.2 ++ [0]) := by
  have pl := Z.sw.pl
  have hi := hw.hi
  refine ⟨Z.cw, Z.lk, ⟨by rw [List.length_append, List.length_singleton]; omega, by show (st.2.2 ++ [0]).length = _; rw [List.length_append, List.length_append, pl]; rfl, Z.sw.wa, fun v hv => ?_, fun v hv => ?_⟩, fun v hv => ?_, fun k hk => ?_, Z.ba⟩
  · rcases List.mem_append.mp hv with q | q
    · exact Z.sw.wy v q
    · rw [List.mem_singleton.mp q]; exact hw.lk
  · rcases List.mem_append.mp hv with q | q
    · exact Z.sw.w2 v q
    · rw [List.mem_singleton.mp q]; omega
  · rcases List.mem_append.mp hv with q | q
    · exact Z.wy v q
    · rw [List.mem_singleton.mp q]; exact hw
  · rw [List.length_append, List.length_singleton] at hk
    show (st.2.2 ++ [0])[k]! ≤ ((ws ++ [w])[k]!).2.length
    rw [getElem!_pos _ k (by rw [List.length_append, List.length_singleton]; omega), getElem!_pos _ k (by rw [List.length_append, List.length_singleton]; omega)]
    by_cases q : k < ws.length
    · rw [List.getElem_append_left (by omega), List.getElem_append_left q]
      have := Z.pl k q
      rw [getElem!_pos st.2.2 k (by omega), getElem!_pos ws k q] at this
      exact this
    · rw [List.getElem_append_right (by omega)]
      simp
theorem doR_z {b : Bk} {e : EntR} (C : BkC b) (Z : StW b.house b.courses b.standing) (h : ErW b e) (f : faultR b e = "") : StW b.house (behindR b e).1 (behindR b e).2 := by
  have hcl := C.cl
  have hm := C.cw.many_le
  have hs : ∀ k, k < b.house.nl → b.house.sky ≠ b.house.basin k := fun k hk => by unfold Cnl.sky Cnl.sea Cnl.basin; omega
  have hb : ∀ j k, j < b.house.nr → j ≠ b.house.basin k := fun j k hj => by unfold Cnl.basin; omega
  have hl : ∀ k, k < b.house.nl → b.house.basin k < b.standing.2.1.length := fun k hk => by rw [C.sw.wa]; exact basin_lt hk
  cases e with
  | come n w => exact stw_come Z h.2.2.2 (by have := h.2.2.1; omega)
  | pass i => exact Z.aft (d := .pass i) ⟨DW_of C h rfl, f⟩
  | let_ k => exact Z.aft (d := .let_ k) ⟨DW_of C h rfl, f⟩
  | night ws =>
    refine stw_waters Z (by rw [pourAll_len]; exact C.sw.wa) fun k hk => pourAll_same (hl k hk) fun p hp => ?_
    rcases List.mem_append.mp hp with q | q
    · exact night_nb C.cw _ h.1 hk p q
    · exact weirPours_nb C.cw _ hk p q
  | take r n =>
    have h : r < b.house.nr := h
    refine stw_waters Z (by rw [pourAll_len]; exact C.sw.wa) fun k hk => pourAll_same (hl k hk) fun p hp => ?_
    have hp : p ∈ (if n = 0 then [] else [(r, b.house.sky, n)]) := hp
    split at hp
    · cases hp
    · rw [List.mem_singleton.mp hp]
      exact ⟨hb r k h, hs k hk⟩
  | rain r n =>
    have h : r < b.house.nr := h
    refine stw_waters Z (by rw [pourAll_len]; exact C.sw.wa) fun k hk => pourAll_same (hl k hk) fun p hp => ?_
    have hp : p ∈ (if n = 0 then [] else [(b.house.sky, r, n)] ++ weirPours b.house (pourAll b.standing.2.1 [(b.house.sky, r, n)])) := hp
    split at hp
    · cases hp
    · rcases List.mem_append.mp hp with q | q
      · rw [List.mem_singleton.mp q]
        exact ⟨hs k hk, hb r k h⟩
      · exact weirPours_nb C.cw _ hk p q
theorem doR_ok {b : Bk} {e : EntR} (B : BkL b) (h : ErW b e) (f : faultR b e = "") (ht : b.told.length < 400) : BkL (doR b e) := by
  have C := B.toBkC
  have Z := doR_z C B.z h f
  have hp := poursR_len C h
  have h1 := B.ml
  have h2 := B.gl
  refine ⟨⟨⟨C.cw, C.cn, Z.sw, ?_, ?_, ?_⟩, ?_, ?_, ?_⟩, Z, ?_, ?_⟩
  · cases e with
    | come n w =>
      show (b.called ++ [n]).Nodup
      rw [List.nodup_append]
      exact ⟨C.nd, by simp, fun a ha x hx e => h.2.1 (by rw [← List.mem_singleton.mp hx, ← e]; exact ha)⟩
    | _ => exact C.nd
  · cases e with
    | come n w =>
      intro m hm
      rcases List.mem_append.mp (show m ∈ b.called ++ [n] from hm) with q | q
      · exact C.nm m q
      · rw [List.mem_singleton.mp q]; exact h.1
    | _ => exact C.nm
  · cases e with
    | come n w =>
      show (b.called ++ [n]).length = (b.courses ++ [w]).length
      rw [List.length_append, List.length_append, C.cl]
      rfl
    | _ => exact C.cl
  · show (b.moved ++ poursR b e).length ≤ 100 * (b.told ++ [entOf b e]).length
    rw [List.length_append, List.length_append, List.length_singleton]
    omega
  · show (if isGate e then b.gatewords ++ [wordsR b e] else b.gatewords).length ≤ (b.told ++ [entOf b e]).length
    rw [List.length_append, List.length_singleton]
    split
    · rw [List.length_append, List.length_singleton]; omega
    · omega
  · show (b.told ++ [entOf b e]).length ≤ 400
    rw [List.length_append, List.length_singleton]
    omega
  · intro g hg
    have hg : g ∈ (if isGate e then b.gatewords ++ [wordsR b e] else b.gatewords) := hg
    split at hg
    · rename_i q
      rcases List.mem_append.mp hg with r | r
      · exact B.gw g r
      · rw [List.mem_singleton.mp r]
        exact words_ok C h f q
    · exact B.gw g hg
  · intro x hx
    rcases List.mem_append.mp (show x ∈ b.told ++ [entOf b e] from hx) with r | r
    · exact B.tw x r
    · rw [List.mem_singleton.mp r]
      exact ent_ok C h
/-! ### a book's standing, as plain data -/
theorem pl_str {n : Nat} {x : Str} (h : PyData.strOk x = true) : Pl n (.str x) := by cases n <;> exact h
theorem pl_int {n : Nat} {i : Int} : Pl n (.int i) := by cases n <;> exact trivial
theorem pl_tup {n : Nat} {ds : List D} (h : ∀ d ∈ ds, Pl n d) : Pl (n + 1) (.tup ds) := h
theorem pl_lst {n : Nat} {ds : List D} (h : ∀ d ∈ ds, Pl n d) : Pl (n + 1) (.lst ds) := h
theorem pl_nil {n : Nat} : ∀ d ∈ ([] : List D), Pl n d := fun _ h => nomatch h
theorem pl_cons {n : Nat} {d : D} {ds : List D} (h : Pl n d) (hs : ∀ e ∈ ds, Pl n e) : ∀ e ∈ d :: ds, Pl n e := fun e he => (List.mem_cons.mp he).elim (fun z => by rw [z]; exact h) (hs e)
theorem pl_map {α : Type} {n : Nat} {f : α → D} {xs : List α} (h : ∀ x ∈ xs, Pl n (f x)) : ∀ d ∈ xs.map f, Pl n d := fun d hd => by
  obtain ⟨x, hx, rfl⟩ := List.mem_map.mp hd
  exact h x hx
theorem dir_ok (u : Bool) : PyData.strOk (dirS u) = true := by cases u <;> decide +kernel
theorem pl_stand {b : Bk} (B : BkL b) : Pl 7 (eStand b) := by
  have tag : ∀ {n : Nat}, Pl n (.str "come") ∧ Pl n (.str "pass") ∧ Pl n (.str "let") ∧ Pl n (.str "night") ∧ Pl n (.str "take") ∧ Pl n (.str "rain") := ⟨pl_str (by decide +kernel), pl_str (by decide +kernel), pl_str (by decide +kernel), pl_str (by decide +kernel), pl_str (by decide +kernel), pl_str (by decide +kernel)⟩
  refine pl_lst (pl_cons (pl_lst (pl_map fun n hn => pl_str (B.nm n hn).ok)) (pl_cons (pl_lst (pl_map fun w _ => ?_)) (pl_cons (pl_lst (pl_cons ?_ pl_nil)) (pl_cons (pl_lst (pl_map fun p _ => ?_)) (pl_cons (pl_lst (pl_map fun g hg => ?_)) (pl_cons (pl_lst (pl_map fun e he => ?_)) pl_nil))))))
  · exact pl_tup (pl_cons pl_int (pl_cons (pl_tup (pl_map fun s _ => pl_tup (pl_cons pl_int (pl_cons (pl_str (dir_ok _)) pl_nil)))) pl_nil))
  · exact pl_tup (pl_cons pl_int (pl_cons (pl_tup (pl_map fun _ _ => pl_int)) (pl_cons (pl_tup (pl_map fun _ _ => pl_int)) pl_nil)))
  · exact pl_tup (pl_cons pl_int (pl_cons pl_int (pl_cons pl_int pl_nil)))
  · obtain ⟨h1, h2⟩ := B.gw g hg
    exact pl_tup (pl_cons (pl_str h1) (pl_cons (pl_lst (pl_map fun w hw => pl_str (h2 w hw))) pl_nil))
  · have h := B.tw e he
    cases e with
    | come n s st =>
      obtain ⟨h1, h2, h3⟩ := h
      exact pl_tup (pl_cons tag.1 (pl_cons (pl_str h1) (pl_cons (pl_str h2) (pl_cons (pl_tup (pl_map fun x hx => pl_tup (pl_cons (pl_str (h3 x hx)) (pl_cons (pl_str (dir_ok _)) pl_nil)))) pl_nil))))
    | pass n => exact pl_tup (pl_cons tag.2.1 (pl_cons (pl_str h) pl_nil))
    | let_ n => exact pl_tup (pl_cons tag.2.2.1 (pl_cons (pl_str h) pl_nil))
    | night ws => exact pl_tup (pl_cons tag.2.2.2.1 (pl_cons (pl_tup (pl_map fun w _ => pl_tup (pl_cons pl_int (pl_cons pl_int pl_nil)))) pl_nil))
    | take n i => exact pl_tup (pl_cons tag.2.2.2.2.1 (pl_cons (pl_str h) (pl_cons pl_int pl_nil)))
    | rain n i => exact pl_tup (pl_cons tag.2.2.2.2.2 (pl_cons (pl_str h) (pl_cons pl_int pl_nil)))
theorem stand_told {a b : Bk} (h : eStand a = eStand b) : a.told.length = b.told.length := by
  unfold eStand at h
  injection h with h
  injection h with _ h
  injection h with _ h
  injection h with _ h
  injection h with _ h
  injection h with _ h
  injection h with h _
  injection h with h
  have := congrArg List.length h
  rw [List.length_map, List.length_map] at this
  exact this
/-! ### the drawn entries -/
def NgOk (c : Cnl) : Prop := ∀ w ∈ c.nights, ∀ p ∈ w, 0 ≤ p.2
theorem canalM_ng (ns : List Int) : NgOk (canalM ns) := by
  intro w hw p hp
  have hu := unitF_pos ns
  obtain ⟨k, _, rfl⟩ := List.mem_map.mp hw
  obtain ⟨r, _, rfl⟩ := List.mem_map.mp hp
  dsimp only
  have : (0 : Int) ≤ (draw ns (201 + 17 * k + 2 * r) 4 : Nat) * unitF ns := Int.mul_nonneg (by omega) (by omega)
  omega
theorem wth_ok {c : Cnl} (W : CW c) (N : NgOk c) {day : Nat} {more : Int} (hm : 0 ≤ more) : (wthM c day more).length = c.nr ∧ (day < c.nights.length → wetEnough (wthM c day more) c.nights[day]! = true) := by
  have hl : (wthM c day more).length = c.nr := by unfold wthM; rw [List.length_map, List.length_range]
  refine ⟨hl, fun hd => ?_⟩
  have hnl := W.nw _ (mem_get hd)
  unfold wetEnough
  rw [hl, List.all_eq_true]
  intro r hr
  have hr := List.mem_range.mp hr
  have e : (wthM c day more)[r]! = ((toldM c day r).1 + more * ((r : Int) % 2), (toldM c day r).2 - min (toldM c day r).2 more) := by
    rw [getElem!_pos _ r (by rw [hl]; exact hr)]
    unfold wthM
    rw [List.getElem_map, List.getElem_range]
  have et : toldM c day r = (c.nights[day]!)[r]! := by unfold toldM; rw [if_pos hd]
  have hn : 0 ≤ ((c.nights[day]!)[r]!).2 := N _ (mem_get hd) _ (mem_get (by rw [hnl]; exact hr))
  have hmm : 0 ≤ more * ((r : Int) % 2) := Int.mul_nonneg hm (by omega)
  rw [e, et, Bool.not_eq_true', Bool.or_eq_false_iff, decide_eq_false_iff_not, decide_eq_false_iff_not]
  dsimp only
  constructor <;> omega
theorem amount_nn {cell unit : Int} (h : 1 ≤ unit) : 0 ≤ amountM cell unit := by
  unfold amountM
  have : 0 ≤ cell / 776 % 3 * unit := Int.mul_nonneg (by omega) (by omega)
  omega
theorem entM_ok {b : Bk} (C : BkC b) (N : NgOk b.house) {cell unit : Int} (h : 1 ≤ unit) : ErW b (entM b.house b.called b.standing.1 cell unit) := by
  have h1 : 0 < b.house.nl := C.cw.l1
  have h2 : 0 < b.house.nr := Nat.lt_of_lt_of_le (by decide) C.cw.r2
  unfold entM
  split
  · rename_i q
    exact Nat.mod_lt _ q.2
  · split
    · exact Nat.mod_lt _ h1
    · split
      · exact wth_ok C.cw N (amount_nn h)
      · split
        · exact Nat.mod_lt _ h2
        · exact Nat.mod_lt _ h2
theorem bk0_ok {ns : List Int} : BkL (bk0 (canalM ns)) := by
  have W := canalM_cw ns
  have hl : (canalM ns).start.length = (canalM ns).many := by
    have hm := W.many_le
    have hr : (canalM ns).reaches.length = (canalM ns).nr := rfl
    show (settledK _ _ _).length = _
    rw [settledK_len, List.length_append, List.length_map, List.length_replicate]
    omega
  have S : SW (canalM ns) [] (begun (canalM ns) []) := ⟨Nat.zero_le _, rfl, hl, fun _ h => (nomatch h), fun _ h => nomatch h⟩
  refine ⟨⟨⟨W, canalM_cn ns, S, List.nodup_nil, fun _ h => (nomatch h), rfl⟩, Nat.zero_le _, Nat.zero_le _, Nat.zero_le _⟩, ⟨W, fun l h => (canalM_lk ns l h).1, S, fun _ h => (nomatch h), fun k h => (nomatch h), fun k hk => ?_⟩, fun _ h => (nomatch h), fun _ h => nomatch h⟩
  obtain ⟨wa0, e0⟩ : ∃ wa0, wa0 = (canalM ns).reaches.map Rch.water ++ List.replicate ((canalM ns).many - (canalM ns).nr) 0 := ⟨_, rfl⟩
  have hm := W.many_le
  have hw0 : wa0.length = (canalM ns).many := by
    have hr : (canalM ns).reaches.length = (canalM ns).nr := rfl
    rw [e0, List.length_append, List.length_map, List.length_replicate]
    omega
  have hb := basin_lt (c := canalM ns) hk
  have z : (canalM ns).start[(canalM ns).basin k]! = 0 := by
    show (settled (canalM ns).weirs ((canalM ns).reaches.map Rch.water ++ List.replicate ((canalM ns).many - (canalM ns).nr) 0))[(canalM ns).basin k]! = 0
    rw [← e0, ← pour_weirs W hw0, pourAll_same (by rw [hw0]; exact hb) (weirPours_nb W _ hk), e0]
    have hr : ((canalM ns).reaches.map Rch.water).length = (canalM ns).nr := List.length_map _
    have hge : (canalM ns).nr ≤ (canalM ns).basin k := by unfold Cnl.basin; omega
    rw [getElem!_pos _ _ (by rw [← e0, hw0]; exact hb), List.getElem_append_right (by rw [hr]; exact hge), List.getElem_replicate]
  show BaK ((canalM ns).start[(canalM ns).basin k]!) ((canalM ns).locks[k]!).kd
  rw [z]
  have L := (canalM_lk ns _ (mem_get hk)).1.kd
  cases q : ((canalM ns).locks[k]!).kd with
  | plain => trivial
  | pump s => trivial
  | basin s =>
    rw [q] at L
    have L : 1 ≤ s ∧ _ := L
    exact show (0 : Int) ≤ 0 ∧ 0 ≤ s from ⟨by omega, by omega⟩
end Lk
set_option maxHeartbeats 400000
namespace Lk
open PySem PySem.Spec PyProof.Rows L2
theorem XO.p {pg : Pg} {sc : Scope} {N : List (Str × Bool)} {G : List Str} {lv : Nat} {own : List Nat} {Γ : Gm pg sc N G lv own} {ρ : List Sl} {e : Expr} {o : OT} (h : XO Γ e ρ o) : XP Γ e ρ o := fun σ Hf H Q E k => h σ Hf H Q E fun v Hf' H' fp g r nn => k v Hf' H' fp g r fun a ha z => by
  obtain ⟨u, hu, _⟩ := r.there a ha
  rw [z] at hu; cases hu
theorem mu1 {o o' : OT} {d : D} {as : List Am} {ρ : List Sl} (h : ρ[1]? = some (Sl.ow o')) (hn : as.all (fun a => !isMu a) = true := by rfl) : ∀ (i : Nat) p p', (Am.sh d :: Am.mu o o' :: as)[i]? = some (Am.mu p p') → ρ[i]? = some (Sl.ow p')
  | 0, p, p', e => by cases e
  | 1, p, p', e => by cases e; exact h
  | i + 2, p, p', e => by
    have := List.all_eq_true.mp hn _ (List.mem_of_getElem? (show as[i]? = some (Am.mu p p') from e))
    cases this
theorem rain_told (b : Bk) (e : EntR) : (doR b e).told.length = b.told.length + 1 := by
  show (b.told ++ [_]).length = _
  rw [List.length_append]
  rfl
theorem pl_plan (plan : List Deed) : Pl 2 (.lst (plan.map eDeed)) := pl_lst (pl_map fun d _ => pl_deed d)
variable {pg : Pg} [Lib3 pg]
theorem s107 : Sc [("canal", true), ("book", true), ("stand", true), ("twin", true), ("other", true), ("entry", true), ("kept", true)] ["canal", "book", "stand"] ["_law_come", "_law_stand"] (defScope (top 107)) := sc_by (by decide +kernel)
theorem l_twins : Fn pg 12 false "_law_twins" [] (Ct (fun b : Bk => BkL b ∧ b.told.length ≤ 390 ∧ b.called.length < 9 ∧ ("xyz" : Str) ∉ b.called) (fun b => [.sh (eCnl pg b.house), .pk (eBk pg b), .sh (eStand b)]) fun _ => .sh (.bl true)) := by
  refine fn_ct 107 70 rfl s107 (fun _ => rfl) (fun _ _ _ _ _ _ us hl => match us, hl with | [_, _, _], _ => rfl) ?_
  rintro Γ b ⟨B, ht, hc, hx⟩
  have C := B.toBkC
  have hnr : 0 < b.house.reaches.length := Nat.lt_of_lt_of_le (by decide) C.cw.r2
  have hnl : 0 < b.house.locks.length := C.cw.l1
  have hlk := C.cw.lk _ (mem_get hnl)
  have hgl := B.gl
  have rain : ∀ n, ErW b (.rain 0 n) ∧ faultR b (.rain 0 n) = "" := fun n => ⟨hnr, rfl⟩
  obtain ⟨b1, e1⟩ : ∃ b1, b1 = doR b (.rain 0 3) := ⟨_, rfl⟩
  have B1 : BkL b1 := by rw [e1]; exact doR_ok B (rain 3).1 (rain 3).2 (by omega)
  have t1 : b1.told.length = b.told.length + 1 := by rw [e1]; exact rain_told _ _
  obtain ⟨w, ew⟩ : ∃ w : Wy, w = ((b.house.locks[0]!).low, [((0 : Nat), true)]) := ⟨_, rfl⟩
  have hw : WyOk b.house w := by
    rw [ew]
    refine ⟨by show (b.house.locks[0]!).low < _; omega, fun s hs => by rw [List.mem_singleton.mp hs]; exact hnl, fun k hk => ?_, Nat.le_refl _, Nat.le_of_ble_eq_true rfl⟩
    have hk : k < 1 := hk
    have : k = 0 := by omega
    subst this
    rfl
  have her : ErW b1 (.come "xyz" w) := by rw [e1]; exact ⟨xyz_ok, hx, hc, hw⟩
  refine xss_cons (xs_setO 3 (xo_meth0 b_copied (XP.rcv (xpv 1 (.inr rfl))) (.inr ⟨_, rfl, rfl⟩) ⟨b, C.cw, rfl, rfl⟩) ?_)
  refine xss_cons (xs_setO 4 (xo_meth0 b_copied (XP.rcv (xpv 3 (.inl rfl))) (.inr ⟨_, rfl, rfl⟩) ⟨b, C.cw, rfl, rfl⟩) ?_)
  refine xss_cons (xs_exprC (xc_meth b_do 3 rfl rfl (XM.sh (tup (XB.sh (xe_str) (XB.sh (f_rname (xe_ixL (f_reaches (xe_meth0 b_canal (XP.rcv (xpv 3 (.inl rfl))) (.inr ⟨_, rfl, rfl⟩) ⟨b, trivial, rfl, rfl⟩)) xe_int rfl (at_map hnr))) (XB.sh (xe_int) XB.nil)))) XM.nil) (its_one (as := []) (bs := [eEnt (entOf b (.rain 0 3))]) rfl) ⟨(b, .rain 0 3), ⟨B.toBkW, (rain 3).1, (rain 3).2⟩, rfl, rfl⟩) ?_)
  refine xss_mid (fun ρ => ρ = [.sh (eCnl pg b.house), .ro (eBk pg b), .sh (eStand b), .ow (eBk pg b1), .ow (eBk pg b), .sh (eEnt (comeE b.house "xyz" w)), .no])
    (xs_set 5 ((xe_call f_come (XA.sh ((xv 0 rfl)) (XA.sh (xe_str) (XA.sh (tup (XB.sh (f_low (xe_ixL (f_locks (xv 0 rfl)) xe_int rfl (at_map hnl))) (XB.sh (tup (XB.sh (tup (XB.sh (xe_int) (XB.sh (xe_str) XB.nil))) XB.nil)) XB.nil))) XA.nil))) 0 ⟨(b.house, "xyz", ((b.house.locks[0]!).low, [((0 : Nat), true)])), by rw [← ew]; exact hw, rfl, rfl⟩).to (da := eEnt (comeE b.house "xyz" w)) (by rw [ew])) (by rw [e1]; rfl)) ?_
  rintro _ rfl
  have eh : comeE b1.house = comeE b.house := by rw [e1]; rfl
  refine xss_mid (fun ρ => ∃ b2, BkL b2 ∧ b.told.length < b2.told.length ∧ ρ = [.sh (eCnl pg b.house), .ro (eBk pg b), .sh (eStand b), .ow (eBk pg b2), .ow (eBk pg b), .sh (eEnt (comeE b.house "xyz" w)), .no])
    (xs_if (xt_cmp (xe_meth b_fault (XP.rcv (xpv 3 (.inl rfl))) (.inr ⟨_, rfl, rfl⟩) (XA.sh ((xv 5 rfl)) XA.nil) ⟨(b1, .come "xyz" w), ⟨B1.toBkC, her⟩, by show [_, Ar.sh (eEnt (comeE b.house "xyz" w))] = [_, Ar.sh (eEnt (comeE b1.house "xyz" w))]; rw [eh], rfl⟩) xe_str o_eqS) (fun q => xss_one ?_) (fun q => xss_nil ⟨b1, B1, by omega, rfl⟩)) ?_
  · have q : faultR b1 (.come "xyz" w) = "" := of_decide_eq_true q
    exact xs_exprC (xc_meth b_do 3 rfl rfl (XM.sh (xv 5 rfl) XM.nil) (its_one (as := []) (bs := [eEnt (comeE b.house "xyz" w)]) rfl) ⟨(b1, .come "xyz" w), ⟨B1.toBkW, her, q⟩, congrArg (fun z : Str → Wy → Ent => [Am.mu (eBk pg b1) (eBk pg (doR b1 (.come "xyz" w))), Am.sh (eEnt (z "xyz" w))]) eh.symm, rfl⟩) ⟨doR b1 (.come "xyz" w), doR_ok B1 her q (by omega), by rw [rain_told]; omega, rfl⟩
  rintro ρ ⟨b2, B2, h2, rfl⟩
  have g2 := B2.gl
  have t2 := B2.tl
  refine xss_cons (xs_set 6 (xe_call l_stand (XA.pk ((xpv 3 (.inl rfl))) XA.nil) 1 ⟨b2, by omega, rfl, rfl⟩) ?_)
  refine xss_cons (xs_exprC (xc_meth b_do 4 rfl rfl (XM.sh (tup (XB.sh (xe_str) (XB.sh (f_rname (xe_ixL (f_reaches (xv 0 rfl)) xe_int rfl (at_map hnr))) (XB.sh (xe_int) XB.nil)))) XM.nil) (its_one (as := []) (bs := [eEnt (entOf b (.rain 0 4))]) rfl) ⟨(b, .rain 0 4), ⟨B.toBkW, (rain 4).1, (rain 4).2⟩, rfl, rfl⟩) ?_)
  refine xss_one (xs_ret (xe_and3 (xe_eqD (c := true) 7 (xe_call l_stand (XA.pk ((xpv 3 (.inl rfl))) XA.nil) 1 ⟨b2, by omega, rfl, rfl⟩) (xv 6 rfl) (pl_stand B2) (pl_stand B2) ⟨fun _ => rfl, fun _ => rfl⟩) (fun _ => xe_eqD (c := true) 7 (xe_call l_stand (XA.pk ((xpv 1 (.inr rfl))) XA.nil) 1 ⟨b, by omega, rfl, rfl⟩) (xv 2 rfl) (pl_stand B) (pl_stand B) ⟨fun _ => rfl, fun _ => rfl⟩) (fun _ _ => xe_neD (c := false) 7 (xv 6 rfl) (xv 2 rfl) (pl_stand B2) (pl_stand B) ⟨fun z => (nomatch z), fun e => ?_⟩)) rfl)
  have := stand_told e
  omega
theorem s108 : Sc [("canal", true), ("book", true), ("keeper", true), ("stand", true), ("plan", true), ("told", true)] ["canal", "book", "keeper", "stand", "plan"] ["_law_stand"] (defScope (top 108)) := sc_by (by decide +kernel)
theorem l_apart : FnM pg 12 false "_law_apart" (CtM (fun a : Bk × Nat × List Deed => BkL a.1 ∧ a.1.told.length ≤ 390 ∧ a.2.2.length ≤ 1000) (fun a => [.sh (eCnl pg a.1.house), .mu (eBk pg a.1) (eBk pg (doR a.1 (.rain 0 7))), .pk (eKp pg a.1 a.2.1 a.2.2), .sh (eStand a.1), .sh (.lst (a.2.2.map eDeed))]) fun _ => .sh (.bl true)) := by
  refine fnM_ct [1] 108 71 rfl s108 (fun _ => rfl) (fun _ => rfl) (fun _ _ _ _ _ _ us hl => match us, hl with | [_, _, _, _, _], _ => rfl) ?_
  rintro Γ ⟨b, most, plan⟩ ⟨B, ht, hpl⟩
  dsimp only at B ht hpl ⊢
  have C := B.toBkC
  have hnr : 0 < b.house.reaches.length := Nat.lt_of_lt_of_le (by decide) C.cw.r2
  have hgl := B.gl
  have hml := B.ml
  have hcl := C.cl_le
  have rain : ∀ n, ErW b (.rain 0 n) ∧ faultR b (.rain 0 n) = "" := fun n => ⟨hnr, rfl⟩
  have hpr := poursR_len C (rain 9).1
  have kb : ∀ {e : Expr} {apos pos : Pos} {pl : Sem Bool} {ρ : List Sl}, XP Γ.toGm e ρ (eKp pg b most plan) → (eval (.Call (.Attribute e "book" apos) [] [] pos) Γ.toGm.X.env = (do
      let ov ← eval e Γ.toGm.X.env
      standAt apos.atName
      let (f, first) ← holding [ov] (getMethod ov "book" pl)
      callWith pos f first (backTo pos (starEach [] Γ.toGm.X.env)) (backToKw pos (keywordEach [] Γ.toGm.X.env)))) → XO Γ.toGm (.Call (.Attribute e "book" apos) [] [] pos) ρ (eBk pg b) := fun h ht => xo_meth0 kp_book (XP.rcv h) (.inr ⟨_, rfl, rfl⟩) ⟨(b, most, plan), C.cw, rfl, rfl⟩ (by decide) ht
  refine xss_cons (xs_exprC (xc_meth b_do 1 rfl rfl (XM.sh (tup (XB.sh (xe_str) (XB.sh (f_rname (xe_ixL (f_reaches (xv 0 rfl)) xe_int rfl (at_map hnr))) (XB.sh (xe_int) XB.nil)))) XM.nil) (its_one (as := []) (bs := [eEnt (entOf b (.rain 0 7))]) rfl) ⟨(b, .rain 0 7), ⟨B.toBkW, (rain 7).1, (rain 7).2⟩, rfl, rfl⟩) ?_)
  refine xss_cons (xs_setO 5 (kb (xpv 2 (.inr rfl)) (by rfl)) ?_)
  refine xss_cons (xs_exprC (xc_meth b_do 5 rfl rfl (XM.sh (tup (XB.sh (xe_str) (XB.sh (f_rname (xe_ixL (f_reaches (xv 0 rfl)) xe_int rfl (at_map hnr))) (XB.sh (xe_int) XB.nil)))) XM.nil) (its_one (as := []) (bs := [eEnt (entOf b (.rain 0 9))]) rfl) ⟨(b, .rain 0 9), ⟨B.toBkW, (rain 9).1, (rain 9).2⟩, rfl, rfl⟩) ?_)
  refine xss_cons (xs_appendO (xo_meth0 b_names (XP.rcv (o := eBk pg (doR b (.rain 0 9))) (xpv 5 (.inl rfl))) (.inr ⟨_, rfl, rfl⟩) ⟨doR b (.rain 0 9), trivial, rfl, rfl⟩) xe_str ?_ (by show (b.called.map D.str).length < _; rw [List.length_map]; omega))
  refine xss_cons (xs_appendO (xo_meth0 b_ledger (XP.rcv (o := eBk pg (doR b (.rain 0 9))) (xpv 5 (.inl rfl))) (.inr ⟨_, rfl, rfl⟩) ⟨doR b (.rain 0 9), trivial, rfl, rfl⟩) (tup (XB.sh (xe_int) (XB.sh (xe_int) (XB.sh (xe_int) XB.nil)))) ?_ (by show ((b.moved ++ poursR b (.rain 0 9)).map ePr).length < _; rw [List.length_map, List.length_append]; omega))
  refine xss_cons (xs_appendO (xo_meth0 kp_plan (XP.rcv (xpv 2 (.inr rfl))) (.inr ⟨_, rfl, rfl⟩) ⟨(b, most, plan), trivial, rfl, rfl⟩) (tup (XB.sh (xe_str) XB.nil)) ?_ ?_)
  · refine xss_one (xs_ret (xe_and (xe_eqD (c := true) 7 (xe_call l_stand (XA.pk (XO.p (kb (xpv 2 (.inr rfl)) (by rfl))) XA.nil) 0 ⟨b, by omega, rfl, rfl⟩) (xv 3 rfl) (pl_stand B) (pl_stand B) ⟨fun _ => rfl, fun _ => rfl⟩) (fun _ => xe_eqD (c := true) 2 (XO.lst (xo_meth0 kp_plan (XP.rcv (xpv 2 (.inr rfl))) (.inr ⟨_, rfl, rfl⟩) ⟨(b, most, plan), trivial, rfl, rfl⟩)) (xv 4 rfl) (pl_plan _) (pl_plan _) ⟨fun _ => rfl, fun _ => rfl⟩)) ⟨rfl, mu1 rfl⟩)
  · dsimp only
    rw [List.length_map]
    omega
end Lk
set_option maxHeartbeats 800000
namespace Lk
open PySem PySem.Spec PyProof.Rows L2
theorem its_smlss {ρ : List Sl} {i j : Nat} {o o' p : OT} {d1 d2 d3 : D} (h : ρ[i]? = some (Sl.ow o)) (h2 : ρ[j]? = some (Sl.ow p) ∨ ρ[j]? = some (Sl.ro p)) (hij : i ≠ j) : ItsIn ρ [.sh d1, .mu i o o', .lk j p, .sh d2, .sh d3] := by
  refine ⟨fun a b q q' e => ?_, fun a b q e => ?_, fun a a' b q q' r r' e e' => ?_, fun a a' b q r r' e e' => ?_⟩
  · match a, e with
    | 0, e => cases e
    | 1, e => cases e; exact h
    | 2, e => cases e
    | 3, e => cases e
    | 4, e => cases e
    | _ + 5, e => cases e
  · match a, e with
    | 0, e => cases e
    | 1, e => cases e
    | 2, e => cases e; exact h2
    | 3, e => cases e
    | 4, e => cases e
    | _ + 5, e => cases e
  · have p1 : ∀ {a : Nat} {q r : OT}, [Itm.sh d1, .mu i o o', .lk j p, .sh d2, .sh d3][a]? = some (Itm.mu b q r) → a = 1 := fun {a q r} e => by
      match a, e with
      | 0, e => cases e
      | 1, _ => rfl
      | 2, e => cases e
      | 3, e => cases e
      | 4, e => cases e
      | _ + 5, e => cases e
    rw [p1 e, p1 e']
  · have p1 : ∀ {a : Nat} {b : Nat} {q r : OT}, [Itm.sh d1, .mu i o o', .lk j p, .sh d2, .sh d3][a]? = some (Itm.mu b q r) → b = i := fun {a b q r} e => by
      match a, e with
      | 0, e => cases e
      | 1, e => cases e; rfl
      | 2, e => cases e
      | 3, e => cases e
      | 4, e => cases e
      | _ + 5, e => cases e
    have p2 : ∀ {a : Nat} {b : Nat} {q : OT}, [Itm.sh d1, .mu i o o', .lk j p, .sh d2, .sh d3][a]? = some (Itm.lk b q) → b = j := fun {a b q} e => by
      match a, e with
      | 0, e => cases e
      | 1, e => cases e
      | 2, e => cases e; rfl
      | 3, e => cases e
      | 4, e => cases e
      | _ + 5, e => cases e
    exact hij ((p1 e').symm.trans (p2 e))
section
variable {pg : Pg} {sc : Scope} {N : List (Str × Bool)} {G : List Str} {lv : Nat} {own : List Nat} {Γ : Gf pg sc N G lv own} {ρ ρ' : List Sl} {a b e : Expr} {d : D} {pos : Pos} {De : De} {c2 : Bool}
theorem xc_and (ha : XE Γ.toGm a ρ (.bl true)) (hb : XC Γ b ρ ρ' (.bl c2)) : XC Γ (.BoolOp .And [a, b] pos) ρ ρ' (.bl c2) := fun σ Hf H Q E k =>
  RunE.of (pe_and (runE _ a) (pe_one (runE _ b))) (ha σ Hf H _ E fun v Hf' H' g r => ⟨true, r, iteT (hb σ Hf' H' _ (E.grow g) fun v2 Hf2 H2 E2 s2 r2 => k v2 Hf2 H2 E2 (g.gr.trans s2) r2)⟩)
theorem xs_retC (h : XC Γ e ρ ρ' d) (k : De.rt (.sh d) ρ') : XS Γ (.Return (some e) pos) ρ De := fun σ Hf H D E S =>
  RunS.of (ps_ret (runE _ e)) (h σ Hf H _ E fun v Hf' H' E' s r => S.rs σ Hf' H' ρ' d v E' k r)
end
theorem entM_called (b : Bk) (c : Cnl) (names : List Str) (day : Nat) (cell unit : Int) : (doR b (entM c names day cell unit)).called = b.called := by
  unfold entM
  split
  · rfl
  · split
    · rfl
    · split
      · rfl
      · split <;> rfl
variable {pg : Pg} [Lib3 pg]
theorem s109 : Sc [("script", true), ("canal", true), ("book", true), ("called", true), ("k", true), ("entry", true), ("cell", true), ("most", true), ("left", true), ("stand", true), ("made", true), ("found", true), ("plan", true), ("way", false)] ["script"] ["_law_canal", "Book", "_law_names", "range", "_law_draw", "_law_come", "_law_way", "_law_entry", "_law_unit", "sum", "_law_stand", "_law_made", "_law_looked", "int", "_law_closed", "isinstance", "Keeper", "_law_leads_home", "_law_twins", "_law_apart", "list"] (defScope (top 109)) := sc_by (by decide +kernel)
theorem law_body (Γ : Gf pg (defScope (top 109)) [("script", true), ("canal", true), ("book", true), ("called", true), ("k", true), ("entry", true), ("cell", true), ("most", true), ("left", true), ("stand", true), ("made", true), ("found", true), ("plan", true), ("way", false)] ["_law_canal", "Book", "_law_names", "range", "_law_draw", "_law_come", "_law_way", "_law_entry", "_law_unit", "sum", "_law_stand", "_law_made", "_law_looked", "int", "_law_closed", "isinstance", "Keeper", "_law_leads_home", "_law_twins", "_law_apart", "list"] 17 []) (ns : List Int) :
    XSs Γ (defBody (top 109)) (slots 14 [.sh (.scr ns)]) (fin false (.sh (.bl true))) := by
  obtain ⟨c, ec⟩ : ∃ c, c = canalM ns := ⟨_, rfl⟩
  have cW : CW c := by rw [ec]; exact canalM_cw ns
  have cN : NgOk c := by rw [ec]; exact canalM_ng ns
  obtain ⟨nms, en⟩ : ∃ nms, nms = namesF ns 1020 3 := ⟨_, rfl⟩
  have nl : nms.length = 3 := by rw [en]; exact namesF_len ns 1020 3
  have nok : ∀ n ∈ nms, NmOk n := by rw [en]; exact namesF_ok ns 1020 3 (by decide)
  have nnd : nms.Nodup := by rw [en]; exact namesF_nd ns 1020 3 (by decide)
  have nx3 : ("xyz" : Str) ∉ nms := by rw [en]; exact namesF_xyz ns 1020 3
  have h93 := draw_lt ns 93 (many := 4) (by decide)
  have h95 := draw_lt ns 95 (many := 25) (by decide)
  have hu := unitF_pos ns
  refine xss_cons (xs_set 1 ((xe_call f_canal (XA.sh ((xv 0 rfl)) (XA.sh (xe_int) (XA.sh (xe_int) (XA.sh (xe_int) XA.nil)))) 0 ⟨ns, trivial, rfl, rfl⟩).to (da := eCnl pg c) (by rw [ec])) ?_)
  refine xss_cons (xs_setO 2 (xo_make (Γ := Γ) k_book (XA.sh ((xv 1 rfl)) XA.nil) 1 ⟨c, cW, rfl, rfl⟩) ?_)
  refine xss_cons (xs_set 3 ((XO.lst (xo_call f_names (XA.sh ((xv 0 rfl)) (XA.sh (nx (n := 1020) xe_int rfl) (XA.sh (nx (n := 3) xe_int rfl) XA.nil))) 2 ⟨(ns, 1020, 3), ⟨by dsimp only; omega, by dsimp only; omega⟩, rfl, rfl⟩)).to (da := .lst (nms.map D.str)) (by rw [en])) ?_)
  refine xss_mid (fun ρ => ∃ b s4 s5, BkL b ∧ b.house = c ∧ b.called.length ≤ 3 ∧ (∀ n ∈ b.called, n ∈ nms) ∧ b.told.length ≤ 3 ∧ ρ = [.sh (.scr ns), .sh (eCnl pg c), .ow (eBk pg b), .sh (.lst (nms.map D.str)), s4, s5, .no, .no, .no, .no, .no, .no, .no, .no])
    (xs_forR (n := draw ns 93 4) 4 (fun k ρ => ∃ b s4 s5, BkL b ∧ b.house = c ∧ b.called.length ≤ k ∧ (∀ n ∈ b.called, n ∈ nms.take k) ∧ b.told.length ≤ k ∧ ρ = [.sh (.scr ns), .sh (eCnl pg c), .ow (eBk pg b), .sh (.lst (nms.map D.str)), s4, s5, .no, .no, .no, .no, .no, .no, .no, .no]) (dr 93 4 4 (xv 0 rfl) xe_int xe_int rfl rfl (by decide) (by decide) (by decide)) (by omega) ⟨bk0 c, _, _, by rw [ec]; exact bk0_ok, rfl, Nat.le_refl _, fun _ h => (nomatch h), Nat.le_refl _, rfl⟩ ?_ ?_ 3 (Bl.range (pg := pg))) ?_
  · rintro k ρ hk ⟨b, s4, s5, B, hh, hc, hs, ht, rfl⟩
    have hk : k < 3 := by omega
    subst hh
    have C := B.toBkC
    obtain ⟨n, enm⟩ : ∃ n, n = nms[k]! := ⟨_, rfl⟩
    have hn : n ∈ nms := by rw [enm]; exact mem_get (by omega)
    have hnk : n ∉ nms.take k := fun z => by
      obtain ⟨i, hi, e⟩ := List.getElem_of_mem z
      rw [List.length_take] at hi
      rw [List.getElem_take] at e
      rw [enm, getElem!_pos nms k (by omega)] at e
      have := (List.getElem_inj nnd).mp e
      omega
    have htk : nms.take (k + 1) = nms.take k ++ [n] := by rw [List.take_succ, List.getElem?_eq_getElem (by omega), enm, getElem!_pos nms k (by omega)]; rfl
    have hw := wayM_ok (ns := ns) (k := k) (most := 2) cW (by decide) (by decide)
    have her : ErW b (.come n (wayM ns k b.house 2)) := ⟨nok n hn, fun z => hnk (hs n z), by omega, hw⟩
    refine xss_cons (xs_set 5 (xe_call f_come (XA.sh ((xv 1 rfl)) (XA.sh ((xe_ixL (xv 3 rfl) (xv 4 rfl) rfl (at_map (f := D.str) (by omega))).to (da := .str n) (by rw [enm])) (XA.sh (xe_call f_law_way (XA.sh ((xv 0 rfl)) (XA.sh ((xv 4 rfl)) (XA.sh ((xv 1 rfl)) (XA.sh (nx (n := 2) xe_int rfl) XA.nil)))) 6 ⟨(ns, k, b.house, 2), ⟨by dsimp only; omega, cW, by dsimp only; omega, by dsimp only; omega⟩, rfl, rfl⟩) XA.nil))) 5 ⟨(b.house, n, wayM ns k b.house 2), hw, rfl, rfl⟩) ?_)
    have up : ∀ m ∈ b.called, m ∈ nms.take (k + 1) := fun m hm => by rw [htk]; exact List.mem_append_left _ (hs m hm)
    refine xss_one (xs_if (xt_cmp (xe_meth b_fault (XP.rcv (xpv 2 (.inl rfl))) (.inr ⟨_, rfl, rfl⟩) (XA.sh ((xv 5 rfl)) XA.nil) ⟨(b, .come n (wayM ns k b.house 2)), ⟨C, her⟩, rfl, rfl⟩) xe_str o_eqS) (fun q => xss_one ?_) (fun q => xss_nil ⟨b, _, _, B, rfl, by omega, up, by omega, rfl⟩))
    have q : faultR b (.come n (wayM ns k b.house 2)) = "" := of_decide_eq_true q
    refine xs_exprC (xc_meth b_do 2 rfl rfl (XM.sh (xv 5 rfl) XM.nil) (its_one (as := []) (bs := [eEnt (entOf b (.come n (wayM ns k b.house 2)))]) rfl) ⟨(b, .come n (wayM ns k b.house 2)), ⟨B.toBkW, her, q⟩, rfl, rfl⟩) ⟨doR b (.come n (wayM ns k b.house 2)), _, _, doR_ok B her q (by omega), rfl, ?_, ?_, by rw [rain_told]; omega, rfl⟩
    · show (b.called ++ [n]).length ≤ _
      rw [List.length_append, List.length_singleton]
      omega
    · intro m hm
      rcases List.mem_append.mp (show m ∈ b.called ++ [n] from hm) with z | z
      · exact up m z
      · rw [List.mem_singleton.mp z, htk]
        exact List.mem_append_right _ List.mem_cons_self
  · rintro ρ ⟨b, s4, s5, B, hh, hc, hs, ht, rfl⟩
    rw [Int.toNat_natCast] at hc hs ht
    exact ⟨b, _, _, B, hh, by omega, fun n hn => List.mem_of_mem_take (hs n hn), by omega, rfl⟩
  rintro ρ ⟨b, s4, s5, B, hh, hc, hs, ht, rfl⟩
  refine xss_mid (fun ρ => ∃ b s4 s5 s6, BkL b ∧ b.house = c ∧ b.called.length ≤ 3 ∧ (∀ n ∈ b.called, n ∈ nms) ∧ b.told.length ≤ 100 ∧ ρ = [.sh (.scr ns), .sh (eCnl pg c), .ow (eBk pg b), .sh (.lst (nms.map D.str)), s4, s5, s6, .no, .no, .no, .no, .no, .no, .no])
    (xs_forL 6 (fun k ρ => ∃ b s4 s5 s6, BkL b ∧ b.house = c ∧ b.called.length ≤ 3 ∧ (∀ n ∈ b.called, n ∈ nms) ∧ b.told.length ≤ 3 + k ∧ ρ = [.sh (.scr ns), .sh (eCnl pg c), .ow (eBk pg b), .sh (.lst (nms.map D.str)), s4, s5, s6, .no, .no, .no, .no, .no, .no, .no]) (xe_cut (n := 8) (xv 0 rfl)) ⟨b, _, _, _, B, hh, hc, hs, ht, rfl⟩ ?_ ?_) ?_
  · rintro k _ ρ hx ⟨b, s4, s5, s6, B, hh, hc, hs, ht, rfl⟩
    obtain ⟨hk, rfl⟩ := map_at hx
    rw [List.length_take] at hk
    subst hh
    have C := B.toBkC
    obtain ⟨cell, ecl⟩ : ∃ cell, cell = (ns.take 8)[k]! := ⟨_, rfl⟩
    rw [← ecl]
    have her := entM_ok C cN (cell := cell) hu
    refine xss_cons (xs_set 5 (xe_call l_entry (XA.sh ((xv 1 rfl)) (XA.sh (XO.lst (xo_meth0 b_names (XP.rcv (xpv 2 (.inl rfl))) (.inr ⟨_, rfl, rfl⟩) ⟨b, trivial, rfl, rfl⟩)) (XA.sh (xe_ixt (d := eN b.standing.1) (xe_meth0 b_state (XP.rcv (xpv 2 (.inl rfl))) (.inr ⟨_, rfl, rfl⟩) ⟨b, trivial, rfl, rfl⟩)) (XA.sh ((xv 6 rfl)) (XA.sh (xe_call f_unit (XA.sh ((xv 0 rfl)) XA.nil) 8 ⟨ns, trivial, rfl, rfl⟩) XA.nil))))) 7 ⟨(b.house, b, cell, unitF ns), ⟨cW, rfl⟩, rfl, rfl⟩) ?_)
    refine xss_one (xs_if (xt_cmp (xe_meth b_fault (XP.rcv (xpv 2 (.inl rfl))) (.inr ⟨_, rfl, rfl⟩) (XA.sh ((xv 5 rfl)) XA.nil) ⟨(b, entM b.house b.called b.standing.1 cell (unitF ns)), ⟨C, her⟩, rfl, rfl⟩) xe_str o_eqS) (fun q => xss_one ?_) (fun q => xss_nil ⟨b, _, _, _, B, rfl, hc, hs, by omega, rfl⟩))
    have q : faultR b (entM b.house b.called b.standing.1 cell (unitF ns)) = "" := of_decide_eq_true q
    have ecd := entM_called b b.house b.called b.standing.1 cell (unitF ns)
    exact xs_exprC (xc_meth b_do 2 rfl rfl (XM.sh (xv 5 rfl) XM.nil) (its_one (as := []) (bs := [eEnt (entOf b (entM b.house b.called b.standing.1 cell (unitF ns)))]) rfl) ⟨(b, entM b.house b.called b.standing.1 cell (unitF ns)), ⟨B.toBkW, her, q⟩, rfl, rfl⟩) ⟨doR b (entM b.house b.called b.standing.1 cell (unitF ns)), _, _, _, doR_ok B her q (by omega), rfl, by rw [ecd]; exact hc, by rw [ecd]; exact hs, by rw [rain_told]; omega, rfl⟩
  · rintro ρ ⟨b, s4, s5, s6, B, hh, hc, hs, ht, rfl⟩
    rw [List.length_map, List.length_take] at ht
    exact ⟨b, _, _, _, B, hh, hc, hs, by omega, rfl⟩
  rintro ρ ⟨b, s4, s5, s6, B, hh, hc, hs, ht, rfl⟩
  subst hh
  have C := B.toBkC
  have hgl := B.gl
  have hcl := C.cl_le
  have hwl := C.sw.wl
  refine xss_cons (xs_set 7 (nx (n := 8 + draw ns 95 25) (xe_op xe_int (dr 95 25 4 (xv 0 rfl) xe_int xe_int rfl rfl (by decide) (by decide) (by decide)) o_add) (by omega)) ?_)
  refine xss_cons (xs_set 8 (xe_op (xe_sum (ns := List.map (α := Wy) (β := Int) (fun w => ((w.2.map eStep).length : Int)) b.courses) (XE.to (XO.lst (lc_m (zs := b.courses) (f := eWy) (g := fun w => .int ((w.2.map eStep).length : Int)) 13 [("script", false), ("canal", false), ("book", false), ("called", false), ("k", false), ("entry", false), ("cell", false), ("most", false), ("left", false), ("stand", false), ("made", false), ("found", false), ("plan", false), ("way", true)] ["len"] (by decide +kernel) (XL.it (XO.l (xo_meth0 b_ways (XP.rcv (xpv 2 (.inl rfl))) (.inr ⟨_, rfl, rfl⟩) ⟨b, trivial, rfl, rfl⟩))) (by omega) (fun sc' Γ' w hw => xe_lenT (xe_ixt (xv 13 rfl)) 0)).xo) (by rw [List.map_map]; rfl)) 9) (xe_sumT (ns := List.map (α := Nat) (β := Int) (fun n => (n : Int)) b.standing.2.2) (XE.to (xe_ixt (d := eNats b.standing.2.2) (xe_meth0 b_state (XP.rcv (xpv 2 (.inl rfl))) (.inr ⟨_, rfl, rfl⟩) ⟨b, trivial, rfl, rfl⟩)) (by rw [List.map_map]; rfl)) 9) o_sub) ?_)
  refine xss_mid (fun ρ => ∃ m s8, m ≤ 1000 ∧ ρ = [.sh (.scr ns), .sh (eCnl pg b.house), .ow (eBk pg b), .sh (.lst (nms.map D.str)), s4, s5, s6, .sh (eN m), s8, .no, .no, .no, .no, .no])
    (xs_if (xt_and (xt_cmp (dr 96 4 4 (xv 0 rfl) xe_int xe_int rfl rfl (by decide) (by decide) (by decide)) xe_int o_eqI) (fun _ => xt_cmp (xv 8 rfl) xe_int o_le)) (fun _ => xss_one (xs_set 7 (nx (n := 0) xe_int rfl) ⟨0, _, by decide, rfl⟩)) (fun _ => xss_nil ⟨_, _, by omega, rfl⟩)) ?_
  rintro ρ ⟨m, s8, hm, rfl⟩
  have bl : 1 ≤ boundM m ∧ boundM m ≤ 1000 := by unfold boundM; split <;> omega
  refine xss_cons (xs_set 9 (xe_call l_stand (XA.pk ((xpv 2 (.inl rfl))) XA.nil) 10 ⟨b, by omega, rfl, rfl⟩) ?_)
  have pick : ∀ {x : Expr} {y : Expr} {p q r s t u : Pos} {j j2 : Nat} {ρ : List Sl}, XE Γ.toGm x ρ (eN m) → XE Γ.toGm (.Subscript (.List [x, .Constant (.int 200) j p] q) y r) ρ (if decide (m = 0) then .int 200 else eN m) → XE Γ.toGm (.Subscript (.List [x, .Constant (.int 200) j p] q) y r) ρ (eN (boundM m)) := fun _ h => h.to (by
    unfold boundM
    by_cases z : m = 0
    · rw [if_pos z, decide_eq_true z]; rfl
    · rw [if_neg z, decide_eq_false z]; rfl)
  have bnd : ∀ {ρ : List Sl}, ρ[7]? = some (Sl.sh (eN m)) → XE Γ.toGm (match defBody (top 109) with
      | [_, _, _, _, _, _, _, _, _, _, .Assign _ (.Call _ [_, _, x] _ _) _, _, _, _, _, _, _] => x
      | _ => .Name "" ⟨0, 0, 0, 0⟩) ρ (eN (boundM m)) := fun h => XE.to (pick2 (c := decide (m = 0)) (ls (XB.sh (xv 7 h) (XB.sh (xe_int) XB.nil))) (xe_intB ((xe_cmp (xv 7 h) xe_int o_eqI).to (congrArg D.bl (decide_eq_decide.mpr (by omega)))) 13)) (by
    unfold boundM
    by_cases z : m = 0
    · rw [if_pos z, decide_eq_true z]; rfl
    · rw [if_neg z, decide_eq_false z]; rfl)
  cases he : lookB b (boundM m) with
  | closed ls' =>
    refine xss_cons (xs_set 10 (xe_call (d := .str "Torn") l_made (XA.pk ((xpv 2 (.inl rfl))) (XA.sh ((xv 7 rfl)) XA.nil)) 11 ⟨(b, m), ⟨C, hm⟩, rfl, by show Rz.sh _ = madeR pg b m; unfold madeR; rw [he]⟩) ?_)
    refine xss_cons (xs_set 11 (xe_call (d := .tup [.str "doomed", .lst (ls'.map eLay)]) l_looked (XA.sh ((xv 1 rfl)) (XA.pk ((xpv 2 (.inl rfl))) (XA.sh (bnd rfl) XA.nil))) 12 ⟨(b, boundM m), ⟨C, bl⟩, rfl, by show Rz.sh _ = Rz.sh (lookedD (lookB b (boundM m))); rw [he]; rfl⟩) ?_)
    exact xss_cons (xs_if (xt_cmp (xe_ixt (xv 11 rfl)) xe_str o_eqS) (fun _ => xss_one (xs_ret (xe_and (xe_cmp (xv 10 rfl) xe_str o_eqS) (fun _ => xe_call l_closed (XA.sh ((xv 1 rfl)) (XA.sh (XO.lst (xo_meth0 b_ways (XP.rcv (xpv 2 (.inl rfl))) (.inr ⟨_, rfl, rfl⟩) ⟨b, trivial, rfl, rfl⟩)) (XA.sh (xe_meth0 b_state (XP.rcv (xpv 2 (.inl rfl))) (.inr ⟨_, rfl, rfl⟩) ⟨b, trivial, rfl, rfl⟩) (XA.sh (xe_ixt (xv 11 rfl)) XA.nil)))) 14 ⟨(b.house, b.courses, b.standing, ls'), ⟨B.z, search_closed B.z bl.1 bl.2 he⟩, rfl, rfl⟩)) rfl)) (fun q => xss_no (absurd q (by decide))))
  | wide =>
    refine xss_cons (xs_set 10 (xe_call (d := .str "TooWide") l_made (XA.pk ((xpv 2 (.inl rfl))) (XA.sh ((xv 7 rfl)) XA.nil)) 11 ⟨(b, m), ⟨C, hm⟩, rfl, by show Rz.sh _ = madeR pg b m; unfold madeR; rw [he]⟩) ?_)
    refine xss_cons (xs_set 11 (xe_call (d := .tup [.str "TooWide"]) l_looked (XA.sh ((xv 1 rfl)) (XA.pk ((xpv 2 (.inl rfl))) (XA.sh (bnd rfl) XA.nil))) 12 ⟨(b, boundM m), ⟨C, bl⟩, rfl, by show Rz.sh _ = Rz.sh (lookedD (lookB b (boundM m))); rw [he]; rfl⟩) ?_)
    refine xss_cons (xs_if (xt_cmp (xe_ixt (xv 11 rfl)) xe_str o_eqS) (fun q => xss_no (absurd q (by decide))) (fun _ => xss_nil ?_))
    exact xss_cons (xs_if (xt_cmp (xe_ixt (xv 11 rfl)) xe_str o_eqS) (fun _ => xss_one (xs_ret (xe_cmp (xv 10 rfl) xe_str o_eqS) rfl)) (fun q => xss_no (absurd q (by decide))))
  | found g mt ls' =>
    obtain ⟨r1, r2, r3⟩ := search_found B.z bl.1 bl.2 he
    obtain ⟨plan, ep⟩ : ∃ plan, plan = (pathOf mt g).reverse := ⟨_, rfl⟩
    rw [← ep] at r1
    have hpl : plan.length ≤ 1000 := by rw [ep, List.length_reverse]; exact r3
    refine xss_cons (xs_setO 10 (xo_call (o := eKp pg b (boundM m) plan) l_made (XA.pk ((xpv 2 (.inl rfl))) (XA.sh ((xv 7 rfl)) XA.nil)) 11 ⟨(b, m), ⟨C, hm⟩, rfl, by show Rz.ow _ = madeR pg b m; unfold madeR; rw [he, ep]; rfl⟩) ?_)
    refine xss_cons (xs_set 11 (xe_call (d := .tup [.str "home", .lst (plan.map eDeed), .lst (ls'.map eLay)]) l_looked (XA.sh ((xv 1 rfl)) (XA.pk ((xpv 2 (.inl rfl))) (XA.sh (bnd rfl) XA.nil))) 12 ⟨(b, boundM m), ⟨C, bl⟩, rfl, by show Rz.sh _ = Rz.sh (lookedD (lookB b (boundM m))); rw [he, ep]; rfl⟩) ?_)
    refine xss_cons (xs_if (xt_cmp (xe_ixt (xv 11 rfl)) xe_str o_eqS) (fun q => xss_no (absurd q (by decide))) (fun _ => xss_nil ?_))
    refine xss_cons (xs_if (xt_cmp (xe_ixt (xv 11 rfl)) xe_str o_eqS) (fun q => xss_no (absurd q (by decide))) (fun _ => xss_nil ?_))
    refine xss_cons (xs_if (xt_or3 (xt_not (xt_val (xp_isK (xpv 10 (.inl rfl)) 15 16))) (fun _ => xt_neD (c := true) 7 (xe_call l_stand (XA.pk (XO.p (xo_meth0 kp_book (XP.rcv (xpv 10 (.inl rfl))) (.inr ⟨_, rfl, rfl⟩) ⟨(b, boundM m, plan), C.cw, rfl, rfl⟩)) XA.nil) 10 ⟨b, by omega, rfl, rfl⟩) (xv 9 rfl) (pl_stand B) (pl_stand B) ⟨fun _ => rfl, fun _ => rfl⟩) (fun _ _ => xt_neD (c := true) 7 (xe_call l_stand (XA.pk ((xpv 2 (.inl rfl))) XA.nil) 10 ⟨b, by omega, rfl, rfl⟩) (xv 9 rfl) (pl_stand B) (pl_stand B) ⟨fun _ => rfl, fun _ => rfl⟩)) (fun q => nomatch q) (fun _ => xss_nil ?_))
    refine xss_cons (xs_setO 12 (xo_meth0 kp_plan (XP.rcv (xpv 10 (.inl rfl))) (.inr ⟨_, rfl, rfl⟩) ⟨(b, boundM m, plan), trivial, rfl, rfl⟩) ?_)
    refine xss_freeze 12 rfl ?_
    refine xss_cons (xs_if (xt_not (xt_val (xe_call l_leads_home (XA.sh ((xv 1 rfl)) (XA.sh (XO.lst (xo_meth0 b_ways (XP.rcv (xpv 2 (.inl rfl))) (.inr ⟨_, rfl, rfl⟩) ⟨b, trivial, rfl, rfl⟩)) (XA.sh (xe_meth0 b_state (XP.rcv (xpv 2 (.inl rfl))) (.inr ⟨_, rfl, rfl⟩) ⟨b, trivial, rfl, rfl⟩) (XA.sh ((xv 12 rfl)) XA.nil)))) 17 ⟨(b.house, b.courses, b.standing, plan, g), ⟨B.z, r1, r2⟩, rfl, rfl⟩))) (fun q => nomatch q) (fun _ => xss_nil ?_))
    exact xss_one (xs_retC (xc_and (xe_call l_twins (XA.sh ((xv 1 rfl)) (XA.pk ((xpv 2 (.inl rfl))) (XA.sh ((xv 9 rfl)) XA.nil))) 18 ⟨b, ⟨B, by omega, by omega, fun z => nx3 (hs _ z)⟩, rfl, rfl⟩) (xc_call l_apart (XM.sh (xv 1 rfl) (XM.mu 2 rfl (XM.lk 10 (.inl rfl) (XM.sh (xv 9 rfl) (XM.sh (XO.lst (xo_list (xv 12 rfl) 20)) XM.nil))))) (its_smlss rfl (.inl rfl) (by decide)) 19 ⟨(b, boundM m, plan), ⟨B, by dsimp only; omega, hpl⟩, rfl, rfl⟩)) rfl)
end Lk
set_option maxHeartbeats 4000000
namespace Lk
open PySem PySem.Spec PyProof.Rows L2
theorem run (w : World) : HandSHeadRun.RunEq Rw (PySem.W.view Rw.prog [109]) hkL obL 20000 names w := by
  intro os
  obtain ⟨s, e, h1⟩ := Option.map_eq_some_iff.mp (hdS w os)
  obtain ⟨sa, ea, h2⟩ := Option.map_eq_some_iff.mp (hdA w os)
  obtain ⟨sb, eb, h3⟩ := Option.map_eq_some_iff.mp (hdB w os)
  obtain ⟨sc, ec, h4⟩ := Option.map_eq_some_iff.mp (hdC w os)
  obtain ⟨sx, ex, h5⟩ := Option.map_eq_some_iff.mp (hdX w os)
  cases Option.some.inj (e.symm.trans ea)
  cases Option.some.inj (e.symm.trans eb)
  cases Option.some.inj (e.symm.trans ec)
  cases Option.some.inj (e.symm.trans ex)
  have h6 : obL s = (He.valD fnL, true) := obsM_app h2 h3 h4 h5
  refine Option.map_eq_some_iff.mpr ⟨s, e, ?_⟩
  obtain ⟨h7, h8⟩ := Prod.mk.inj h1
  exact Prod.ext h7 (Prod.ext h8 h6)
/-! ### what the head leaves -/
theorem okDf : ∀ t ∈ dfTab, t.2.2.all okDv = true := by decide +kernel
theorem okMt : ∀ t ∈ mtTab, t.2.2.2.2.2.all okDv = true ∧ t.1 ∈ clsL := by decide +kernel
theorem okFd : ∀ t ∈ fdTab, t.1 ∈ clsL := by decide +kernel
theorem okEx : ∀ t ∈ exmTab, t.1 ∈ excL ∧ t.2 ∈ excL := by decide +kernel
theorem okKt : ∀ t ∈ kitTab, (t.1 ∈ excL ∨ t.1 ∈ clsL) ∧ (t.2.1 ∈ excL ∨ t.2.1 ∈ clsL) := by decide +kernel
theorem dvs_eq {K : PySem.W.Frag} : ∀ {vs : List V}, vs.all okDv = true → (vs.map toDv).map (He.Dv.v K) = vs
  | [], _ => rfl
  | v :: vs, h => by
    obtain ⟨h1, h2⟩ := He.ba (show (okDv v && vs.all okDv) = true from h)
    show (toDv v).v K :: (vs.map toDv).map (He.Dv.v K) = v :: vs
    rw [toDv_v h1, dvs_eq h2]
def tabsT (K : PySem.W.Frag) : List NdefX.NTab := [((He.cT K ("choices_in", none)).2, fun _ _ => (cloK 0).qual), ((He.cT K ("home_in", none)).2, fun _ _ => (cloK 1).qual)]
section
variable {P : Program} {w : World} {K : PySem.W.Frag} {h base : Heap} {mg : Str → Option Value}
theorem fctL (c : SaysM faL fnL tfL exB w h K) {f : He.Fa} (hf : f ∈ faL) : f.ok K = true := c.t.d.facts hf
theorem inA {f : He.Fa} (h : f ∈ faA) : f ∈ faL := List.mem_append_left _ h
theorem inB {f : He.Fa} (h : f ∈ faB) : f ∈ faL := List.mem_append_right _ (List.mem_append_left _ h)
theorem inC {f : He.Fa} (h : f ∈ faC) : f ∈ faL := List.mem_append_right _ (List.mem_append_right _ h)
theorem inFree {x : Str} (h : x ∈ freeL) : He.Fa.free x ∈ faL := inA (List.mem_append_left _ (List.mem_map_of_mem h))
theorem inK {f : He.Fa} (h : f ∈ ([.str "LETTERS" "abcdefghijklmnopqrstuvwxyz", .int "LONGEST" 12, .int "MOST_BOATS" 9, .glo "law", .exc "TooWide", .exc "Torn"] : List He.Fa)) : f ∈ faL := inA (List.mem_append_right _ (List.mem_append_left _ h))
theorem inDf {t : Nat × Str × List V} (h : t ∈ dfTab) : He.Fa.glo t.2.1 ∈ faL := inA (List.mem_append_right _ (List.mem_append_right _ (List.mem_append_left _ (List.mem_map_of_mem (f := fun t : Nat × Str × List V => He.Fa.glo t.2.1) h))))
theorem inCls {x : Str} (h : x ∈ clsL) : He.Fa.glo x ∈ faL := inA (List.mem_append_right _ (List.mem_append_right _ (List.mem_append_right _ (List.mem_append_left _ (List.mem_map_of_mem h)))))
theorem inExc {x : Str} (h : x ∈ excL) : He.Fa.glo x ∈ faL := inA (List.mem_append_right _ (List.mem_append_right _ (List.mem_append_right _ (List.mem_append_right _ (List.mem_map_of_mem h)))))
theorem gaL (X : K.In h) (G : h.Ns mainGlobals mg) (c : SaysM faL fnL tfL exB w h K) {T : List NdefX.NTab} {x : Str} (hx : He.Fa.glo x ∈ faL) : ca ⟨P, w, K, mg, base, T⟩ x = He.ga K x := by
  unfold ca
  dsimp only
  rw [He.glo_ok X G (fctL c hx)]
theorem exL (c : SaysM faL fnL tfL exB w h K) : exB K = true := c.more
theorem lib3L (X : K.In h) (G : h.Ns mainGlobals mg) (c : SaysM faL fnL tfL exB w h K) (TB : ∀ p ∈ tfL.map (He.cT K), LamX.TabB base mg p.1 p.2) : Lib3 ⟨P, w, K, mg, base, tabsT K⟩ := by
  obtain ⟨pg, ep⟩ : ∃ pg : Pg, pg = ⟨P, w, K, mg, base, tabsT K⟩ := ⟨_, rfl⟩
  have D := c.t.d
  have glo : ∀ {x : Str}, He.Fa.glo x ∈ faL → mg x = some (.ref (He.ga K x)) := fun hx => He.glo_ok X G (fctL c hx)
  have cae : ∀ {x : Str}, He.Fa.glo x ∈ faL → ca pg x = He.ga K x := fun hx => by rw [ep]; exact gaL X G c hx
  have fre : ∀ {x : Str}, x ∈ freeL → mg x = none := fun hx => He.free_ok X G (fctL c (inFree hx))
  obtain ⟨x1, y⟩ := He.ba (show (_ && _) = true from exL c)
  obtain ⟨x2, y⟩ := He.ba y
  obtain ⟨x3, y⟩ := He.ba y
  obtain ⟨x4, y⟩ := He.ba y
  obtain ⟨x5, y⟩ := He.ba y
  obtain ⟨x6, x7⟩ := He.ba y
  obtain ⟨k1, z⟩ := He.ba x5
  obtain ⟨k2, z⟩ := He.ba z
  obtain ⟨k3, k4⟩ := He.ba z
  have k1 := of_decide_eq_true k1
  have k2 := of_decide_eq_true k2
  have k3 := of_decide_eq_true k3
  have k4 := of_decide_eq_true k4
  have bl : Bl pg := by
    rw [ep]
    exact ⟨fre (by decide), fre (by decide), fre (by decide), fre (by decide), fre (by decide), fre (by decide), fre (by decide), fre (by decide), fre (by decide), fre (by decide), fre (by decide)⟩
  have df : ∀ (i : Nat) (x : Str) (vs : List V), (i, x, vs) ∈ dfTab → ∃ fd, FunD K x x (defArgs (top i)) (defBody (top i)) (defScope (top i)) vs [] (He.ga K x) fd := fun i x vs ht => by
    obtain ⟨fd, F⟩ := D.defs (d := dfD (i, x, vs)) (List.mem_append_left _ (List.mem_cons_of_mem _ (List.mem_map_of_mem ht)))
    have F2 : FunD K x x (defArgs (top i)) (defBody (top i)) (defScope (top i)) ((vs.map toDv).map (He.Dv.v K)) [] (He.ga K x) fd := F
    rw [dvs_eq (okDf _ ht)] at F2
    exact ⟨fd, F2⟩
  have l1 : Lib pg := by
    refine { bl with df := ?_, mt := ?_, cl := ?_ }
    · intro i x vs ht
      obtain ⟨fd, F⟩ := df i x vs ht
      rw [ep]
      exact ⟨_, fd, glo (inDf ht), F.kp, F⟩
    · intro C i m j q vs ht
      obtain ⟨h1, h2⟩ := okMt _ ht
      obtain ⟨fd, F⟩ := D.defs (d := mtD (C, i, m, j, q, vs)) (List.mem_append_right _ (List.mem_map_of_mem ht))
      have F2 : FunD K m q (defArgs (mth i j)) (defBody (mth i j)) (defScope (mth i j)) ((vs.map toDv).map (He.Dv.v K)) [] (He.ma K (He.ga K C) m) fd := F
      rw [dvs_eq h1] at F2
      have M := He.meth_ok (fctL c (inC (List.mem_map_of_mem (f := fun t : Str × Nat × Str × Nat × Str × List V => He.Fa.meth t.1 t.2.2.1) ht)))
      rw [cae (inCls h2), ep]
      exact ⟨_, fd, M, F2⟩
    · intro C f ht
      have h2 := okFd _ ht
      rw [cae (inCls h2), ep]
      exact ⟨He.cls_ok (fctL c (inB (List.mem_append_left _ (List.mem_map_of_mem h2)))), He.noat_ok (fctL c (inB (List.mem_append_right _ (List.mem_append_right _ (List.mem_map_of_mem (f := fun t : Str × Str => He.Fa.noat t.1 t.2) ht)))))⟩
  have dist : (He.cT K ("choices_in", none)).2 ≠ (He.cT K ("home_in", none)).2 := fun z => by
    rw [decide_eq_true z] at x3
    cases x3
  have mkf : ∀ (i kk : Nat) (x : Str), (i, x, ([] : List V)) ∈ dfTab → (x, none) ∈ tfL → ((He.cT K (x, none)).2, fun _ _ => (cloK kk).qual) ∈ tabsT K → (∀ p ∈ tabsT K, p.1 = (He.cT K (x, none)).2 → p.2 = fun _ _ => (cloK kk).qual) → ∃ f fd c P, MkF pg i kk x f fd c P := fun i kk x ht hx hm hu => by
    obtain ⟨fd, F⟩ := df i x [] ht
    obtain ⟨oc, od, dV, kV, doc, pm, an, cdv, ct, osl, e1, lk, hc, _⟩ := F.ex
    obtain ⟨c0, e2⟩ := He.codeIn_ref hc
    have e3 : fd.code = .ref c0 := by rw [e1, ← e2]
    have e4 : He.codeOf K (x, none) = c0 := He.codeOf_eq (p := (x, none)) lk e3
    have tb := TB _ (List.mem_map_of_mem hx)
    rw [show (He.cT K (x, none)).1 = c0 from e4] at tb
    rw [ep]
    exact ⟨_, fd, c0, _, glo (inDf ht), F.kp, F, e3, tb, hm, hu⟩
  have l2 : Lib2 pg := by
    refine { l1 with mkf := ?_, mak := ?_, rz := ?_, lts := ?_, lng := ?_, mbt := ?_ }
    · intro i kk x ht
      rcases List.mem_cons.mp ht with e | ht
      · cases e
        refine mkf 52 0 "choices_in" (List.mem_of_getElem? (i := 31) rfl) (List.mem_cons_self) List.mem_cons_self fun p hp e => ?_
        rcases List.mem_cons.mp hp with q | hp
        · rw [q]
        · rw [List.mem_singleton.mp hp] at e
          exact absurd e.symm dist
      · cases List.mem_singleton.mp ht
        refine mkf 53 1 "home_in" (List.mem_of_getElem? (i := 32) rfl) (List.mem_cons_of_mem _ List.mem_cons_self) (List.mem_cons_of_mem _ List.mem_cons_self) fun p hp e => ?_
        rcases List.mem_cons.mp hp with q | hp
        · rw [q] at e
          exact absurd e dist
        · rw [List.mem_singleton.mp hp]
    · intro x hx
      have hx : x ∈ clsL := hx
      have M := He.mkr_ok (fctL c (inB (List.mem_append_right _ (List.mem_append_left _ (List.mem_map_of_mem hx)))))
      rw [cae (inCls hx), ep]
      refine ⟨glo (inCls hx), fun f hf => ?_⟩
      have q := M.init.symm.trans hf.at_
      rw [← (show He.ma K (He.ga K x) "__init__" = f by injection q with q; injection q with q; injection q)]
      exact M
    · intro x hx
      have hk : He.Fa.exc x ∈ faL := by
        rcases List.mem_cons.mp hx with e | hx
        · rw [e]; exact inK (List.mem_of_getElem? (i := 4) rfl)
        · rw [List.mem_singleton.mp hx]; exact inK (List.mem_of_getElem? (i := 5) rfl)
      have hg : x ∈ excL := by
        rcases List.mem_cons.mp hx with e | hx
        · rw [e]; decide
        · rw [List.mem_singleton.mp hx]; decide
      obtain ⟨e1, e2, e3, e4⟩ := He.exc_ok (fctL c hk)
      have e0 := cae (inExc hg)
      rw [ep] at e0 ⊢
      refine ⟨?_, ?_, ?_, ?_, ?_⟩
      · rw [e0]; exact glo (inExc hg)
      · rw [e0]; exact e1
      · rw [e0]; exact e2
      · rw [e0]; exact e3
      · rw [e0]; exact e4
    · rw [ep]; exact He.str_ok X G (fctL c (inK (List.mem_of_getElem? (i := 0) rfl)))
    · rw [ep]; exact He.int_ok X G (fctL c (inK (List.mem_of_getElem? (i := 1) rfl)))
    · rw [ep]; exact He.int_ok X G (fctL c (inK (List.mem_of_getElem? (i := 2) rfl)))
  have gel : ∀ {x : Str}, x ∈ excL ∨ x ∈ clsL → He.Fa.glo x ∈ faL := fun hx => hx.elim inExc inCls
  have l3 : Lib3 pg := by
    refine { l2 with exg := ?_, exc := ?_, exm := ?_, kit := ?_, kiv := ?_, kpi := ?_, pli := ?_ }
    · intro x hx
      have hx : x ∈ excL := hx
      rw [cae (inExc hx), ep]
      exact glo (inExc hx)
    · have key : ∀ {x : Str}, x ∈ excL → excB K (He.ga K x) = true → ExcC pg.K (ca pg x) := fun {x} hx e => by
        rw [cae (inExc hx), ep]
        obtain ⟨a1, a⟩ := He.ba e
        obtain ⟨a2, a⟩ := He.ba a
        obtain ⟨a3, a⟩ := He.ba a
        obtain ⟨a4, a⟩ := He.ba a
        obtain ⟨a5, a6⟩ := He.ba a
        exact ⟨of_decide_eq_true a1, of_decide_eq_true a2, of_decide_eq_true a3, a4, of_decide_eq_true a5, k2, k3, of_decide_eq_true a6⟩
      obtain ⟨b1, b2⟩ := He.ba x6
      intro x hx
      rcases List.mem_cons.mp hx with e | hx
      · rw [e]; exact key (by decide) b1
      · rw [List.mem_singleton.mp hx]; exact key (by decide) b2
    · intro x y ht
      obtain ⟨h1, h2⟩ := okEx _ ht
      rw [cae (inExc h1), cae (inExc h2), ep]
      exact of_decide_eq_true (List.all_eq_true.mp x1 _ ht)
    · intro x y b ht
      obtain ⟨h1, h2⟩ := okKt _ ht
      rw [cae (gel h1), cae (gel h2), ep]
      exact of_decide_eq_true (List.all_eq_true.mp x2 _ ht)
    · rw [cae (inExc (by decide)), ep]
      exact of_decide_eq_true x4
    · rw [cae (inCls (by decide)), ep]
      exact ⟨k1, k2, k3, k4⟩
    · rw [cae (inCls (by decide)), ep]
      obtain ⟨a1, a⟩ := He.ba x7
      obtain ⟨a2, a3⟩ := He.ba a
      refine ⟨.type "type", ⟨a1, of_decide_eq_true a2⟩, fun f hf => ?_⟩
      have em : He.ma K (He.ga K "PlainLock") "__init__" = f := by
        unfold He.ma
        rw [hf.at_]
      rw [em] at a3
      revert a3
      cases PySem.W.findCls K (.ref (He.ga K "PlainLock")) (.type "type") "__init__" with
      | none => exact fun z => nomatch z
      | some r =>
        cases r with
        | val v => exact fun z => by rw [of_decide_eq_true z]
        | _ => exact fun z => nomatch z
  rw [← ep]
  exact l3
/-! ### the law -/
def untbl (H : Hp) : Hp := fun a => match H a with
  | some (.tbl _) => none
  | o => o
theorem untbl_at {H : Hp} {a : Addr} {o : HO} (h : H a = some o) (n : ∀ ps, o ≠ .tbl ps) : untbl H a = some o := by
  unfold untbl
  rw [h]
  cases o with
  | tbl ps => exact absurd rfl (n ps)
  | _ => rfl
theorem untbl_of {H : Hp} {a : Addr} {o : HO} (h : untbl H a = some o) : H a = some o ∧ ∀ ps, o ≠ .tbl ps := by
  unfold untbl at h
  revert h
  cases H a with
  | none => exact fun z => nomatch z
  | some u =>
    cases u with
    | tbl ps => exact fun z => nomatch z
    | _ =>
      intro z
      have z := Option.some.inj z
      subst z
      exact ⟨rfl, fun _ q => nomatch q⟩
def spLaw (K : PySem.W.Frag) : Sp := fun vs H Q _ => ∃ (a : Addr) (ns : List Int), vs = [.ref a] ∧ SqL K H a (ns.map V.int) ∧ (∀ p ∈ tfL.map (He.cT K), H p.2 = some (.tbl #[])) ∧ ∀ v H', v = V.bl true → Q v H'
theorem sqL_un {H : Hp} {a : Addr} {xs : List V} (h : SqL K H a xs) : SqL K (untbl H) a xs := by
  rcases h with (h | ⟨o, h⟩) | h
  · exact .inl (.inl (untbl_at h fun _ q => nomatch q))
  · exact .inl (.inr ⟨o, untbl_at h fun _ q => nomatch q⟩)
  · exact .inr h
theorem sp_law {vs : List V} {H : Hp} {Q : VK} {E : XK} (hs : spLaw K vs H Q E) : spR ⟨P, w, K, mg, base, tabsT K⟩ (Ct (α := List Int) (fun _ => True) (fun ns => [.sh (.scr ns)]) (fun _ => .sh (.bl true))) vs H Q E := by
  obtain ⟨a, ns, e, h1, h2, h3⟩ := hs
  refine ⟨_, _, untbl H, ⟨ns, trivial, rfl, rfl⟩, ⟨_, [], e, ⟨a, rfl, sqL_un h1⟩, rfl⟩, fun b o q => (untbl_of q).1, ⟨fun p hp => ?_, fun b ps q => (untbl_of q).2 ps rfl, fun b q e => untbl_at e fun _ z => by unfold LamX.CodeO at z; cases z⟩, fun v Hf' H' _ r => h3 v H' r⟩
  rcases List.mem_cons.mp hp with q | hp
  · rw [q]
    exact NdefX.TabN.nil (h2 (He.cT K ("choices_in", none)) List.mem_cons_self)
  · rw [List.mem_singleton.mp hp]
    exact NdefX.TabN.nil (h2 (He.cT K ("home_in", none)) (List.mem_cons_of_mem _ List.mem_cons_self))
theorem law_at (X : K.In h) (G : h.Ns mainGlobals mg) (c : SaysM faL fnL tfL exB w h K) {fa : Addr} (hfa : mg ("law" : Str) = some (.ref fa)) : LamX.LawAtS PySem.Challenge.rw_lockhouse_k69_keepers_made w K CX0 18 63 "script" mg fa h := by
  obtain ⟨fd, F⟩ := c.t.d.defs (d := dfD (109, "law", [])) (List.mem_append_left _ List.mem_cons_self)
  have F : FunD K "law" "law" (defArgs (top 109)) (defBody (top 109)) (defScope (top 109)) [] [] (He.ga K "law") fd := F
  have e := hfa.symm.trans (He.glo_ok X G (fctL c (inK (List.mem_of_getElem? (i := 3) rfl))))
  have e : fa = He.ga K "law" := by injection e with e; injection e
  subst e
  refine ⟨fd, tfL.map (He.cT K), spLaw K, fun p hp => ?_, fun p hp => ?_, fun p hp => ?_, fun s v => ?_, fun H a ns _ _ hT hS => ⟨a, ns, rfl, hS, hT, fun v H' e => e⟩, fun base X2 G2 TB => ?_⟩
  · obtain ⟨t, ht, rfl⟩ := List.mem_map.mp hp
    exact c.empty t ht
  · obtain ⟨t, ht, rfl⟩ := List.mem_map.mp hp
    exact c.out t ht
  · obtain ⟨t, ht, rfl⟩ := List.mem_map.mp hp
    exact PySem.W.codeHd_of_K X (c.hd t ht)
  · exact (FunD.bindsA (ps := ["script"]) F fun _ _ _ _ _ _ us hl => match us, hl with | [_], _ => rfl) s [v] rfl
  · have L : Lib3 ⟨PySem.Challenge.rw_lockhouse_k69_keepers_made.prog, w, K, mg, base, tabsT K⟩ := lib3L X G c TB
    exact (fn_ok (pg := ⟨PySem.Challenge.rw_lockhouse_k69_keepers_made.prog, w, K, mg, base, tabsT K⟩) (cx := false) (k := 17) (C := Ct (α := List Int) (fun _ => True) (fun ns => [.sh (.scr ns)]) (fun _ => .sh (.bl true))) F s109 (fun ags r ⟨ns, _, e, _⟩ => by rw [e]; rfl) fun Γ ags r ⟨ns, _, e1, e2⟩ => by rw [e1, e2]; exact law_body Γ ns).imp fun vs H Q E hs => sp_law hs
end
end Lk
open PySem PySem.W PySem.Calls PyProof.Rows
set_option maxHeartbeats 0 in
theorem PySem.Challenge.cw_lockhouse_k69_keepers_made_holds : PySem.Challenge.rw_lockhouse_k69_keepers_made.Holds := by
  w_on; o_law
  refine HandSHeadRun.head_any (r := OpenLaw.row PySem.Challenge.rw_lockhouse_k69_keepers_made) (q := view Lk.Rw.prog [109]) (H := Lk.hkL) (ob := Lk.obL) (M := 20000) (loose := Lk.names) (d := HandSHeadRun.topDef Lk.Rw.prog 109) (kwd := []) Lk.obL_eq
    (by kernel_rfl) (fun s => by kernel_rfl) Lk.run (by kernel_rfl) (by kernel_rfl) (by kernel_rfl) (by rfl) (by first | assumption | decide +kernel) (by decide +kernel) ⟨rfl, rfl, rfl, rfl, rfl, by decide +kernel⟩ ?hw ?hc
  case hw => w_witness2
  case hc =>
    refine LamX.walk_ofTsE (l := PySem.Challenge.rw_lockhouse_k69_keepers_made) (n := 63) (k := 18) (x := "script") (CX := fun _ => L2.CX0) rfl (by decide) (by kernel_rfl) ⟨rfl, by decide, by decide⟩ ?F (fun _ _ _ _ _ z => z)
    intro w mg fa h Y G hmg0
    obtain ⟨K, KX, c⟩ := Y
    have hmg : mg ("law" : PySem.Str) = some (.ref fa) := by
      have e : (HandSHeadRun.topDef Lk.Rw.prog 109).name = ("law" : PySem.Str) := by kernel_rfl
      rw [← e]
      exact hmg0
    exact ⟨K, KX, Lk.law_at KX G c hmg⟩
