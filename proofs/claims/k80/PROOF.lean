import PyProof.Rows.All
import Wide.All
import OpenK.AllK
import Wide.FinOn
import HandS.ForMost
import HandS.Wide
import HandS.WideBits
import HandS.TupAny
import HandS.Deep
import HandS.Style
import HandS.SortInts
import HandS.SortRule
import HandS.IsInst
import HandS.ListItems
import HandS.RaiseMore
import HandS.EndBits
import HandS.Property
import KE.KCallOwn
import HandS.FStr
import HandS.Strs
import PyProof.Rows.SetFrom
import HandS.SetFor
import KE.GoesMore
import KE.GoesEnum
import HandS.DictTup
import HandS.HeadHook2
import KE.KStateDown
import HandS.Head0
import HandS.Head1
import HandS.Head2
import HandS.HeadEnd
import HandS.HeadHook1
import PySem.Challenge.RW_evenedshares_k80_whole_not_more_papers_j
set_option Elab.async false
set_option linter.all false
set_option exponentiation.threshold 10000
set_option maxRecDepth 100000
set_option maxHeartbeats 0
namespace DL
open PySem PySem.Spec PyProof.Rows L2
/-- what isinstance asks of an own class -/
structure IsC (K : PySem.W.Frag) (C : Addr) : Prop where
  ca : PySem.W.findIn K (.ref C) "__class__" = some (some (.builtin "object.__class__"))
  cn : PySem.W.specialIn K (.builtin "object.__class__") "__get__" = some (some (.builtin "getset_descriptor.__get__"))
  ct : PySem.W.takesIn K (.builtin "object.__class__") = some true
  cm : PySem.W.mroIn K C (.type "object") = some true
/-- where a property's getter stands -/
def getA (K : PySem.W.Frag) (C : Addr) (nm : Str) : Addr := match PySem.W.recIn K (He.ma K C nm) "property" with
  | some (.ref g :: _) => g
  | _ => 0
structure PrD where
  cls : Str
  nm : Str
  qual : Str
  params : Arguments
  body : List Stmt
  scope : Scope
def PrD.ad (K : PySem.W.Frag) (d : PrD) : Addr := getA K (He.ga K d.cls) d.nm
def PrD.val (d : PrD) : He.FnW := some (d.nm, d.qual, d.params, .stmts d.body, d.scope, mainGlobals, [], builtinsNs)
def PrD.w (K : PySem.W.Frag) (d : PrD) : He.FnW := match K.lookup (d.ad K) with
  | some ob => match ob.data with
    | .func g => some (g.name, g.qualname, g.params, g.body, g.scope, g.globals, g.closure, g.builtins)
    | _ => none
  | none => none
def propB (K : PySem.W.Frag) (C : Addr) (nm : Str) : Bool :=
  He.eqO (PySem.W.findIn K (.ref C) nm) (some (some (.ref (He.ma K C nm)))) && He.eqO (PySem.W.specialIn K (.ref (He.ma K C nm)) "__get__") (some (some (.builtin "property.__get__"))) &&
    decide (PySem.W.takesIn K (.ref (He.ma K C nm)) = some true) && (match PySem.W.recIn K (He.ma K C nm) "property" with
      | some (.ref _ :: _) => true
      | _ => false)
theorem propB_ok {K : PySem.W.Frag} {C : Addr} {nm : Str} (h : propB K C nm = true) : PropOf K C nm (He.ma K C nm) (getA K C nm) := by
  simp only [propB, Bool.and_eq_true, decide_eq_true_eq] at h
  obtain ⟨⟨⟨h1, h2⟩, h3⟩, h4⟩ := h
  refine ⟨He.eqO_ok h1, He.eqO_ok h2, h3, ?_⟩
  unfold getA
  split at h4
  · rename_i g r e
    rw [e]; exact ⟨r, rfl⟩
  · cases h4
def isB (K : PySem.W.Frag) (C : Addr) : Bool :=
  He.eqO (PySem.W.findIn K (.ref C) "__class__") (some (some (.builtin "object.__class__"))) && He.eqO (PySem.W.specialIn K (.builtin "object.__class__") "__get__") (some (some (.builtin "getset_descriptor.__get__"))) &&
    decide (PySem.W.takesIn K (.builtin "object.__class__") = some true) && decide (PySem.W.mroIn K C (.type "object") = some true) && PySem.W.keepIn K (.ref C)
theorem isB_ok {K : PySem.W.Frag} {C : Addr} (h : isB K C = true) : PySem.W.keepIn K (.ref C) = true ∧ IsC K C := by
  simp only [isB, Bool.and_eq_true, decide_eq_true_eq] at h
  exact ⟨h.2, ⟨He.eqO_ok h.1.1.1.1, He.eqO_ok h.1.1.1.2, h.1.1.2, h.1.2⟩⟩
def PrD.ok (K : PySem.W.Frag) (d : PrD) : Bool := (propB K (He.ga K d.cls) d.nm && isB K (He.ga K d.cls)) && PySem.W.keepIn K (.ref (d.ad K)) && (match K.lookup (d.ad K) with
  | some ob => match ob.data with
    | .func g => PySem.W.codeIn K g.code d.qual && He.dflB K g.defaults [] && He.kwdB K g.kwdefaults []
    | _ => false
  | none => false)
theorem PrD.fun_ {K : PySem.W.Frag} {d : PrD} (e : d.w K = d.val) (h : d.ok K = true) : PropOf K (He.ga K d.cls) d.nm (He.ma K (He.ga K d.cls) d.nm) (d.ad K) ∧ ∃ fd, FunD K d.nm d.qual d.params d.body d.scope [] [] (d.ad K) fd := by
  simp only [PrD.ok, Bool.and_eq_true] at h
  obtain ⟨⟨⟨h1, _⟩, h2⟩, h3⟩ := h
  refine ⟨propB_ok h1, ?_⟩
  unfold PrD.w at e
  split at h3
  case h_2 => cases h3
  rename_i ob q
  rw [q] at e
  obtain ⟨oc, od, dt, sl⟩ := ob
  cases dt with
  | func g =>
    obtain ⟨n1, n2, n3, n4, n5, n6, n7, n8, n9, n10, n11, n12, n13, n14, n15⟩ := g
    simp only [PrD.val, Option.some.injEq, Prod.mk.injEq] at e
    obtain ⟨rfl, rfl, rfl, rfl, rfl, rfl, rfl, rfl⟩ := e
    simp only [Bool.and_eq_true] at h3
    obtain ⟨⟨k1, k2⟩, k3⟩ := h3
    exact ⟨_, ⟨oc, od, n8, n9, n10, n11, n12, n13, n14, sl, rfl, q, k1, He.dflB_ok k2, He.kwdB_ok k3⟩, h2⟩
  | _ => cases h3
abbrev AlE : Type := He.AlD × Bool × List He.FnW
def obsE (fa : List He.Fa) (fn : List He.DefD) (pr : List PrD) (K : PySem.W.Frag) : AlE := (He.obsD fa fn K, (pr.all fun d => d.ok K), pr.map fun d => d.w K)
def valE (fn : List He.DefD) (pr : List PrD) : AlE := (He.valD fn, true, pr.map PrD.val)
def SaysE (fa : List He.Fa) (fn : List He.DefD) (pr : List PrD) (K : PySem.W.Frag) : Prop := obsE fa fn pr K = valE fn pr
def obsEG (n : Nat) (fa : List He.Fa) (fn : List He.DefD) (pr : List PrD) (g : Addr → Option Obj) : AlE := obsE fa fn pr (He.frG g (He.asD g n))
def hookE (n : Nat) (fa : List He.Fa) (fn : List He.DefD) (pr : List PrD) : PySem.W.Hook where
  α := AlE
  obs s := obsEG n fa fn pr s.heap.get?
  val _ := valE fn pr
  says _ h := ∃ K : PySem.W.Frag, K.In h ∧ SaysE fa fn pr K
  of _ _ e := ⟨_, He.frG_in, e⟩
  keeps _ _ _ z k := let ⟨K, hK, c⟩ := z; ⟨K, PySem.W.Frag.In.keeps hK k, c⟩
theorem obsEG_eq {n : Nat} {fa : List He.Fa} {fn : List He.DefD} {pr : List PrD} {g : Addr → Option Obj} {s : Shared} (h : ∀ a, g a = s.heap.get? a) : obsEG n fa fn pr g = (hookE n fa fn pr).obs s := by
  have e : g = s.heap.get? := funext h
  subst e; rfl
section
variable {fa : List He.Fa} {fn : List He.DefD} {pr : List PrD} {K : PySem.W.Frag}
theorem SaysE.d (c : SaysE fa fn pr K) : He.SaysD fa fn K := congrArg Prod.fst c
theorem SaysE.prp (c : SaysE fa fn pr K) (i : Nat) {d : PrD} (h : pr[i]? = some d := by rfl) : PropOf K (He.ga K d.cls) d.nm (He.ma K (He.ga K d.cls) d.nm) (d.ad K) ∧ ∃ fd, FunD K d.nm d.qual d.params d.body d.scope [] [] (d.ad K) fd := by
  have c1 : (pr.all fun d => d.ok K) = true := congrArg (fun z : AlE => z.2.1) c
  have c2 : (pr.map fun d => d.w K) = pr.map PrD.val := congrArg (fun z : AlE => z.2.2) c
  have c3 : (pr.map fun d => d.w K)[i]? = (pr.map PrD.val)[i]? := by rw [c2]
  rw [List.getElem?_map, List.getElem?_map, h] at c3
  exact PrD.fun_ (Option.some.inj c3) (List.all_eq_true.mp c1 d (List.mem_of_getElem? h))
theorem SaysE.isc (c : SaysE fa fn pr K) (i : Nat) {d : PrD} (h : pr[i]? = some d := by rfl) : PySem.W.keepIn K (.ref (He.ga K d.cls)) = true ∧ IsC K (He.ga K d.cls) := by
  have c1 : (pr.all fun d => d.ok K) = true := congrArg (fun z : AlE => z.2.1) c
  have := List.all_eq_true.mp c1 d (List.mem_of_getElem? h)
  simp only [PrD.ok, Bool.and_eq_true] at this
  exact isB_ok this.1.1.2
end
def top (i : Nat) : Stmt := PySem.Challenge.pw_evenedshares_k80_whole_not_more_papers_j.main.body.getD i (.Pass ⟨0, 0, 0, 0⟩)
abbrev st_is_integer : Stmt := top 15
abbrev st_is_within : Stmt := top 16
abbrev st_read_number : Stmt := top 17
abbrev st_is_band : Stmt := top 19
abbrev st_wrong_band : Stmt := top 20
abbrev st_last_of : Stmt := top 21
abbrev st_left_in : Stmt := top 22
abbrev st_lowest_band : Stmt := top 23
abbrev st_are_bands : Stmt := top 24
abbrev st_read_band : Stmt := top 25
abbrev st_read_rule : Stmt := top 26
abbrev st_band_at : Stmt := top 27
abbrev st_Rule_init : Stmt := inClass (top 28) 0
abbrev st_Rule_at : Stmt := inClass (top 28) 3
abbrev st_is_kind : Stmt := top 31
abbrev st_wrong_kind : Stmt := top 32
abbrev st_are_kinds : Stmt := top 33
abbrev st_read_kind : Stmt := top 34
abbrev st_read_purse : Stmt := top 35
abbrev st_people_of : Stmt := top 36
abbrev st_total_of : Stmt := top 37
abbrev st_kinds_behind : Stmt := top 38
abbrev st_share_of : Stmt := top 40
abbrev st_bends_of : Stmt := top 41
abbrev st_first_crossing : Stmt := top 42
abbrev st_as_even : Stmt := top 43
abbrev st_rules_shown : Stmt := top 60
abbrev st_accepts : Stmt := top 62
abbrev st_law_well : Stmt := top 64
abbrev st_law_draw : Stmt := top 65
abbrev st_law_some : Stmt := top 66
abbrev st_law_far : Stmt := top 67
abbrev st_law_left : Stmt := top 68
abbrev st_law_starts : Stmt := top 69
abbrev st_law_any : Stmt := top 70
abbrev st_law_even : Stmt := top 71
abbrev st_law_near : Stmt := top 72
abbrev st_law_sizes : Stmt := top 73
abbrev st_law_points : Stmt := top 74
abbrev st_law_spell : Stmt := top 75
abbrev st_law_judged : Stmt := top 76
abbrev st_law_same : Stmt := top 77
abbrev st_law_kinds : Stmt := top 78
abbrev st_law_lines : Stmt := top 79
abbrev st_law_behind : Stmt := top 80
abbrev st_law_lower : Stmt := top 81
abbrev st_law_is_less : Stmt := top 82
abbrev st_law_ends : Stmt := top 83
abbrev st_law_as_even : Stmt := top 84
abbrev st_law_tries : Stmt := top 85
abbrev st_law_asked : Stmt := top 86
abbrev st_law_right : Stmt := top 87
abbrev st_law : Stmt := top 88
def prs : List PrD := []
def dd_is_integer : He.DefD := ⟨("is_integer", none), "is_integer", "is_integer", defArgs st_is_integer, defBody st_is_integer, defScope st_is_integer, [], []⟩
def dd_is_within : He.DefD := ⟨("is_within", none), "is_within", "is_within", defArgs st_is_within, defBody st_is_within, defScope st_is_within, [], []⟩
def dd_read_number : He.DefD := ⟨("read_number", none), "read_number", "read_number", defArgs st_read_number, defBody st_read_number, defScope st_read_number, [], []⟩
def dd_is_band : He.DefD := ⟨("is_band", none), "is_band", "is_band", defArgs st_is_band, defBody st_is_band, defScope st_is_band, [], []⟩
def dd_wrong_band : He.DefD := ⟨("wrong_band", none), "wrong_band", "wrong_band", defArgs st_wrong_band, defBody st_wrong_band, defScope st_wrong_band, [], []⟩
def dd_last_of : He.DefD := ⟨("last_of", none), "last_of", "last_of", defArgs st_last_of, defBody st_last_of, defScope st_last_of, [], []⟩
def dd_left_in : He.DefD := ⟨("left_in", none), "left_in", "left_in", defArgs st_left_in, defBody st_left_in, defScope st_left_in, [], []⟩
def dd_lowest_band : He.DefD := ⟨("lowest_band", none), "lowest_band", "lowest_band", defArgs st_lowest_band, defBody st_lowest_band, defScope st_lowest_band, [], []⟩
def dd_are_bands : He.DefD := ⟨("are_bands", none), "are_bands", "are_bands", defArgs st_are_bands, defBody st_are_bands, defScope st_are_bands, [], []⟩
def dd_read_band : He.DefD := ⟨("read_band", none), "read_band", "read_band", defArgs st_read_band, defBody st_read_band, defScope st_read_band, [], []⟩
def dd_read_rule : He.DefD := ⟨("read_rule", none), "read_rule", "read_rule", defArgs st_read_rule, defBody st_read_rule, defScope st_read_rule, [], []⟩
def dd_band_at : He.DefD := ⟨("band_at", none), "band_at", "band_at", defArgs st_band_at, defBody st_band_at, defScope st_band_at, [], []⟩
def dd_Rule_init : He.DefD := ⟨("Rule", some "__init__"), "__init__", "Rule.__init__", defArgs st_Rule_init, defBody st_Rule_init, defScope st_Rule_init, [], []⟩
def dd_Rule_at : He.DefD := ⟨("Rule", some "at"), "at", "Rule.at", defArgs st_Rule_at, defBody st_Rule_at, defScope st_Rule_at, [], []⟩
def dd_is_kind : He.DefD := ⟨("is_kind", none), "is_kind", "is_kind", defArgs st_is_kind, defBody st_is_kind, defScope st_is_kind, [], []⟩
def dd_wrong_kind : He.DefD := ⟨("wrong_kind", none), "wrong_kind", "wrong_kind", defArgs st_wrong_kind, defBody st_wrong_kind, defScope st_wrong_kind, [.int 1000000000000000000000000000000000000], []⟩
def dd_are_kinds : He.DefD := ⟨("are_kinds", none), "are_kinds", "are_kinds", defArgs st_are_kinds, defBody st_are_kinds, defScope st_are_kinds, [], []⟩
def dd_read_kind : He.DefD := ⟨("read_kind", none), "read_kind", "read_kind", defArgs st_read_kind, defBody st_read_kind, defScope st_read_kind, [], []⟩
def dd_read_purse : He.DefD := ⟨("read_purse", none), "read_purse", "read_purse", defArgs st_read_purse, defBody st_read_purse, defScope st_read_purse, [], []⟩
def dd_people_of : He.DefD := ⟨("people_of", none), "people_of", "people_of", defArgs st_people_of, defBody st_people_of, defScope st_people_of, [], []⟩
def dd_total_of : He.DefD := ⟨("total_of", none), "total_of", "total_of", defArgs st_total_of, defBody st_total_of, defScope st_total_of, [], []⟩
def dd_kinds_behind : He.DefD := ⟨("kinds_behind", none), "kinds_behind", "kinds_behind", defArgs st_kinds_behind, defBody st_kinds_behind, defScope st_kinds_behind, [], []⟩
def dd_share_of : He.DefD := ⟨("share_of", none), "share_of", "share_of", defArgs st_share_of, defBody st_share_of, defScope st_share_of, [], []⟩
def dd_bends_of : He.DefD := ⟨("bends_of", none), "bends_of", "bends_of", defArgs st_bends_of, defBody st_bends_of, defScope st_bends_of, [], []⟩
def dd_first_crossing : He.DefD := ⟨("first_crossing", none), "first_crossing", "first_crossing", defArgs st_first_crossing, defBody st_first_crossing, defScope st_first_crossing, [], []⟩
def dd_as_even : He.DefD := ⟨("as_even", none), "as_even", "as_even", defArgs st_as_even, defBody st_as_even, defScope st_as_even, [], []⟩
def dd_rules_shown : He.DefD := ⟨("rules_shown", none), "rules_shown", "rules_shown", defArgs st_rules_shown, defBody st_rules_shown, defScope st_rules_shown, [], []⟩
def dd_accepts : He.DefD := ⟨("accepts", none), "accepts", "accepts", defArgs st_accepts, defBody st_accepts, defScope st_accepts, [], []⟩
def dd_law_well : He.DefD := ⟨("_law_well", none), "_law_well", "_law_well", defArgs st_law_well, defBody st_law_well, defScope st_law_well, [], []⟩
def dd_law_draw : He.DefD := ⟨("_law_draw", none), "_law_draw", "_law_draw", defArgs st_law_draw, defBody st_law_draw, defScope st_law_draw, [], []⟩
def dd_law_some : He.DefD := ⟨("_law_some", none), "_law_some", "_law_some", defArgs st_law_some, defBody st_law_some, defScope st_law_some, [], []⟩
def dd_law_far : He.DefD := ⟨("_law_far", none), "_law_far", "_law_far", defArgs st_law_far, defBody st_law_far, defScope st_law_far, [], []⟩
def dd_law_left : He.DefD := ⟨("_law_left", none), "_law_left", "_law_left", defArgs st_law_left, defBody st_law_left, defScope st_law_left, [], []⟩
def dd_law_starts : He.DefD := ⟨("_law_starts", none), "_law_starts", "_law_starts", defArgs st_law_starts, defBody st_law_starts, defScope st_law_starts, [], []⟩
def dd_law_any : He.DefD := ⟨("_law_any", none), "_law_any", "_law_any", defArgs st_law_any, defBody st_law_any, defScope st_law_any, [], []⟩
def dd_law_even : He.DefD := ⟨("_law_even", none), "_law_even", "_law_even", defArgs st_law_even, defBody st_law_even, defScope st_law_even, [], []⟩
def dd_law_near : He.DefD := ⟨("_law_near", none), "_law_near", "_law_near", defArgs st_law_near, defBody st_law_near, defScope st_law_near, [], []⟩
def dd_law_sizes : He.DefD := ⟨("_law_sizes", none), "_law_sizes", "_law_sizes", defArgs st_law_sizes, defBody st_law_sizes, defScope st_law_sizes, [], []⟩
def dd_law_points : He.DefD := ⟨("_law_points", none), "_law_points", "_law_points", defArgs st_law_points, defBody st_law_points, defScope st_law_points, [], []⟩
def dd_law_spell : He.DefD := ⟨("_law_spell", none), "_law_spell", "_law_spell", defArgs st_law_spell, defBody st_law_spell, defScope st_law_spell, [], []⟩
def dd_law_judged : He.DefD := ⟨("_law_judged", none), "_law_judged", "_law_judged", defArgs st_law_judged, defBody st_law_judged, defScope st_law_judged, [], []⟩
def dd_law_same : He.DefD := ⟨("_law_same", none), "_law_same", "_law_same", defArgs st_law_same, defBody st_law_same, defScope st_law_same, [], []⟩
def dd_law_kinds : He.DefD := ⟨("_law_kinds", none), "_law_kinds", "_law_kinds", defArgs st_law_kinds, defBody st_law_kinds, defScope st_law_kinds, [], []⟩
def dd_law_lines : He.DefD := ⟨("_law_lines", none), "_law_lines", "_law_lines", defArgs st_law_lines, defBody st_law_lines, defScope st_law_lines, [], []⟩
def dd_law_behind : He.DefD := ⟨("_law_behind", none), "_law_behind", "_law_behind", defArgs st_law_behind, defBody st_law_behind, defScope st_law_behind, [], []⟩
def dd_law_lower : He.DefD := ⟨("_law_lower", none), "_law_lower", "_law_lower", defArgs st_law_lower, defBody st_law_lower, defScope st_law_lower, [], []⟩
def dd_law_is_less : He.DefD := ⟨("_law_is_less", none), "_law_is_less", "_law_is_less", defArgs st_law_is_less, defBody st_law_is_less, defScope st_law_is_less, [], []⟩
def dd_law_ends : He.DefD := ⟨("_law_ends", none), "_law_ends", "_law_ends", defArgs st_law_ends, defBody st_law_ends, defScope st_law_ends, [], []⟩
def dd_law_as_even : He.DefD := ⟨("_law_as_even", none), "_law_as_even", "_law_as_even", defArgs st_law_as_even, defBody st_law_as_even, defScope st_law_as_even, [], []⟩
def dd_law_tries : He.DefD := ⟨("_law_tries", none), "_law_tries", "_law_tries", defArgs st_law_tries, defBody st_law_tries, defScope st_law_tries, [], []⟩
def dd_law_asked : He.DefD := ⟨("_law_asked", none), "_law_asked", "_law_asked", defArgs st_law_asked, defBody st_law_asked, defScope st_law_asked, [], []⟩
def dd_law_right : He.DefD := ⟨("_law_right", none), "_law_right", "_law_right", defArgs st_law_right, defBody st_law_right, defScope st_law_right, [], []⟩
def dd_law : He.DefD := ⟨("law", none), "law", "law", defArgs st_law, defBody st_law, defScope st_law, [], []⟩
def dfs : List He.DefD := [dd_is_integer, dd_is_within, dd_read_number, dd_is_band, dd_wrong_band, dd_last_of, dd_left_in, dd_lowest_band, dd_are_bands, dd_read_band, dd_read_rule, dd_band_at, dd_Rule_init, dd_Rule_at, dd_is_kind, dd_wrong_kind, dd_are_kinds, dd_read_kind, dd_read_purse, dd_people_of, dd_total_of, dd_kinds_behind, dd_share_of, dd_bends_of, dd_first_crossing, dd_as_even, dd_rules_shown, dd_accepts, dd_law_well, dd_law_draw, dd_law_some, dd_law_far, dd_law_left, dd_law_starts, dd_law_any, dd_law_even, dd_law_near, dd_law_sizes, dd_law_points, dd_law_spell, dd_law_judged, dd_law_same, dd_law_kinds, dd_law_lines, dd_law_behind, dd_law_lower, dd_law_is_less, dd_law_ends, dd_law_as_even, dd_law_tries, dd_law_asked, dd_law_right, dd_law]
def fas : List He.Fa := [.glo "is_integer", .glo "is_within", .glo "read_number", .glo "is_band", .glo "wrong_band", .glo "last_of", .glo "left_in", .glo "lowest_band", .glo "are_bands", .glo "read_band", .glo "read_rule", .glo "band_at", .glo "is_kind", .glo "wrong_kind", .glo "are_kinds", .glo "read_kind", .glo "read_purse", .glo "people_of", .glo "total_of", .glo "kinds_behind", .glo "share_of", .glo "bends_of", .glo "first_crossing", .glo "as_even", .glo "rules_shown", .glo "accepts", .glo "_law_well", .glo "_law_draw", .glo "_law_some", .glo "_law_far", .glo "_law_left", .glo "_law_starts", .glo "_law_any", .glo "_law_even", .glo "_law_near", .glo "_law_sizes", .glo "_law_points", .glo "_law_spell", .glo "_law_judged", .glo "_law_same", .glo "_law_kinds", .glo "_law_lines", .glo "_law_behind", .glo "_law_lower", .glo "_law_is_less", .glo "_law_ends", .glo "_law_as_even", .glo "_law_tries", .glo "_law_asked", .glo "_law_right", .glo "law", .glo "Rule", .cls "Rule", .noat "Rule" "pieces", .mkr "Rule", .meth "Rule" "at", .free "len", .free "abs", .free "min", .free "max", .free "int", .free "str", .free "sum", .free "all", .free "tuple", .free "list", .free "sorted", .free "repr", .free "divmod", .free "bool", .free "isinstance", .free "range", .free "enumerate", .free "set", .int "MOST_BANDS" 8, .int "MOST_STEP" 1000, .int "MOST_START" 100000000000000000000000000000, .int "MOST_INCOME" 1000000000000000000000000000000, .int "MOST_VALUE" 100000000000000000000000000000000, .int "MOST_KINDS" 30, .int "MOST_AMOUNT" 1000000000000000000000000000000000000, .int "MOST_COUNT" 1000000000000000000000000000000000000000000000000000000000000000000000000, .str "DIGITS" "0123456789"]
abbrev R0 : PySem.W.OpenRow := PySem.W.OpenLaw.row PySem.Challenge.rw_evenedshares_k80_whole_not_more_papers_j
abbrev hk : PySem.W.Hook := hookE 4 fas dfs prs
def ob (s : PySem.W.SharedT) : AlE := obsEG 4 fas dfs prs (HandSHeadRun.getT s)
theorem ob_eq (s : PySem.W.SharedT) : ob s = hk.obs s.abs := obsEG_eq (HandSHeadRun.getT_eq s)
def loose0 : List Str := ["__name__", "WrongValue", "InvalidText", "InvalidNumber", "InvalidBands", "MOST_BANDS", "MOST_STEP", "MOST_START", "MOST_INCOME", "MOST_VALUE", "MOST_KINDS", "MOST_AMOUNT", "MOST_COUNT", "DIGITS", "is_integer", "is_within", "read_number", "is_band", "wrong_band", "last_of", "left_in", "lowest_band", "are_bands", "read_band", "read_rule", "band_at", "Rule", "fall_of", "is_kind", "wrong_kind"]
def loose1 : List Str := ["are_kinds", "read_kind", "read_purse", "people_of", "total_of", "kinds_behind", "share_of", "bends_of", "first_crossing", "as_even", "moves_of", "least_gifts", "stretches_of", "inner_pair", "left_by", "keeps", "is_fine", "marks_of", "first_break", "is_count", "is_less", "is_empty", "sums_by", "are_gifts", "rules_shown", "purses_shown", "accepts", "_law_well", "_law_draw", "_law_some"]
def loose2 : List Str := ["_law_far", "_law_left", "_law_starts", "_law_any", "_law_even", "_law_near", "_law_sizes", "_law_points", "_law_spell", "_law_judged", "_law_same", "_law_kinds", "_law_lines", "_law_behind", "_law_lower", "_law_is_less", "_law_ends", "_law_as_even", "_law_tries", "_law_asked", "_law_right"]
def loose : List Str := loose0 ++ loose1 ++ loose2
theorem run (w : World) : HandSHeadRun.RunEq R0 (PySem.W.view R0.prog [88]) hk ob 20000 loose w := by
  intro os
  kernel_rfl
end DL
set_option linter.all false
namespace DL
open PySem L2
/-- plain data: what a Python value shows -/
inductive D where
  | non | bl (b : Bool) | int (i : Int) | str (s : List Nat)
  | tup (xs : List D) | lst (xs : List D) | dic (ks : List (Int × D)) | ins (c : Nat) (x : D) | scr (ns : List Int)
/-- a value: data that never changes, or the number of a cell (a list or a dict that may change) -/
inductive U where
  | d (x : D) | cell (n : Nat)
/-- what a cell holds -/
inductive Ob where
  | lst (xs : List D)
  | dic (ks : List (Int × D))
  | dip (ks : List ((Int × Int) × D))
  /-- an instance in the making, or one that may change: its one field -/
  | ins (c : Nat) (x : Option D)
abbrev Mem := List Ob
abbrev Env := List (Option U)
inductive R (α : Type) where
  | ok (a : α) (m : Mem)
  | no
namespace R
def bind {α β : Type} (x : R α) (f : α → Mem → R β) : R β := match x with
  | ok a m => f a m
  | no => no
@[simp] theorem bind_ok {α β : Type} (a : α) (m : Mem) (f : α → Mem → R β) : (ok a m).bind f = f a m := rfl
@[simp] theorem bind_no {α β : Type} (f : α → Mem → R β) : (no : R α).bind f = no := rfl
theorem bind_inv {α β : Type} {x : R α} {f : α → Mem → R β} {b : β} {m : Mem} (h : x.bind f = .ok b m) : ∃ a m1, x = .ok a m1 ∧ f a m1 = .ok b m := by
  cases x with
  | ok a m1 => exact ⟨a, m1, rfl, h⟩
  | no => cases h
end R
/-- an answer that may lack -/
def ofO {α : Type} (o : Option α) (m : Mem) : R α := match o with
  | some a => .ok a m
  | none => .no
@[simp] theorem ofO_some {α : Type} (a : α) (m : Mem) : ofO (some a) m = .ok a m := rfl
@[simp] theorem ofO_none {α : Type} (m : Mem) : ofO (none : Option α) m = .no := rfl
theorem ofO_inv {α : Type} {o : Option α} {m m' : Mem} {a : α} (h : ofO o m = .ok a m') : o = some a ∧ m' = m := by
  cases o with
  | none => cases h
  | some b => cases h; exact ⟨rfl, rfl⟩
inductive Bop where
  | add | sub | mul | fdiv | mod | pow
  deriving DecidableEq
inductive Cop where
  | eq | ne | lt | le | gt | ge | isin | notin | is | isnot
  deriving DecidableEq
inductive Blt where
  | len | abs | min | max | int | str | sum | all | tuple | list | sorted | repr | divmod
  deriving DecidableEq
inductive Ty where
  | int | bool | tuple | str | cls (c : Nat)
  deriving DecidableEq
inductive Mth where
  | join | split | startswith
  deriving DecidableEq
mutual
inductive E where
  | var (i : Nat)
  | cst (d : D)
  | glb (d : D)
  | tup (es : Es) | lst (es : Es) | nlst (es : Es) | ndic | ndip | ddic
  | bin (op : Bop) (a b : E)
  | neg (a : E)
  | cmp (op : Cop) (a b : E)
  | chain (op1 op2 : Cop) (a b c : E)
  | conj (es : Es) | disj (es : Es)
  | inv (a : E)
  | ite (c a b : E)
  | idx (a i : E)
  | slTo (a i : E) | slFr (a i : E) | slMi (a i j : E)
  | slen (a : E) | sidx (a i : E) | sto (a i : E)
  | step (k : Nat) (a : E)
  | call (f : Nat) (es : Es) (dv : List D)
  | callK (f : Nat) (perm : List Nat) (es : Es)
  | blt (b : Blt) (es : Es)
  | nlist (e : E)
  | isi (a : E) (t : Ty)
  | mth (m : Mth) (o : E) (e : E)
  | get (o k d : E)
  | pop (o : E)
  | litems (o : E)
  | sitems (o : E)
  | fld (c : Nat) (o : E)
  | prop (f c : Nat) (o : E)
  | meth (f c : Nat) (o : E) (es : Es)
  | sset (e : E)
  | strO (f c : Nat) (o : E)
  | lc (own : List Nat) (tg : Tg) (it : It) (cs : Es) (e : E)
  | fstr (es : Es)
  | mk (g c : Nat) (e : E)
  | stuck
inductive Es where
  | nil | cons (e : E) (es : Es)
inductive It where
  | seq (e : E) | rng (e : E) | enum (e : E) | items (e : E) | stuck
inductive Tg where
  | nm (i : Nat) | sub (o i : E) | tp (ts : Tgs)
inductive Tgs where
  | nil | cons (t : Tg) (ts : Tgs)
end
mutual
inductive S where
  | asg (t : Tg) (e : E)
  | par (is : List Nat) (es : Es)
  | aug (i : Nat) (op : Bop) (e : E)
  | expr (e : E)
  | app (o e : E)
  | cut1 (o e : E)
  | setf (c : Nat) (o e : E)
  | ite (c : E) (a b : Ss)
  | for_ (t : Tg) (it : It) (b : Ss)
  | forC (i : Nat) (is : List Nat) (b : Ss)
  | whil (n : Nat) (c : E) (b : Ss)
  | ret (e : E) | retN | brk | cont | pass
  | stuck
inductive Ss where
  | nil | cons (s : S) (ss : Ss)
end
/-- a list or a tuple, as it stands -/
def seqO (m : Mem) : U → Option (List D)
  | .d (.tup xs) => some xs
  | .d (.lst xs) => some xs
  | .cell n => match m[n]? with
    | some (.lst xs) => some xs
    | _ => none
  | _ => none
/-- a list alone -/
def lstO (m : Mem) : U → Option (List D)
  | .d (.lst xs) => some xs
  | .cell n => match m[n]? with
    | some (.lst xs) => some xs
    | _ => none
  | _ => none
def dicO (m : Mem) : U → Option (List (Int × D))
  | .d (.dic ks) => some ks
  | .cell n => match m[n]? with
    | some (.dic ks) => some ks
    | _ => none
  | _ => none
/-- where a look-up in a dict ends -/
def lookK {κ : Type} [DecidableEq κ] : List (κ × D) → κ → Option D
  | [], _ => none
  | (k, v) :: r, x => if k = x then some v else lookK r x
def hasK {κ : Type} [DecidableEq κ] (ks : List (κ × D)) (x : κ) : Bool := ks.any fun p => decide (p.1 = x)
def putK {κ : Type} [DecidableEq κ] (ks : List (κ × D)) (x : κ) (v : D) : List (κ × D) :=
  if hasK ks x = true then ks.map (fun p => if p.1 = x then (p.1, v) else p) else ks ++ [(x, v)]
/-- two factors whose product the model reckons -/
def mulOk (i j : Int) : Prop := (i.natAbs < 2 ^ 64 ∨ j.natAbs < 2 ^ 64) ∨ (i.natAbs < 2 ^ 9000 ∧ j.natAbs < 2 ^ 9000)
instance (i j : Int) : Decidable (mulOk i j) := by unfold mulOk; exact inferInstance
def powOk (i j : Int) : Prop := 0 ≤ j ∧ j ≤ 1000000 ∧ i.natAbs < 2 ^ 64
instance (i j : Int) : Decidable (powOk i j) := by unfold powOk; exact inferInstance
def divOk (j : Int) : Prop := 0 < j ∧ j.natAbs < 2 ^ 9000
instance (j : Int) : Decidable (divOk j) := by unfold divOk; exact inferInstance
def addD (m : Mem) : U → U → Option D
  | .d (.int i), .d (.int j) => some (.int (i + j))
  | .d (.str s), .d (.str t) => if s.length + t.length ≤ 16777216 then some (.str (s ++ t)) else none
  | .d (.tup xs), .d (.tup ys) => if xs.length + ys.length ≤ 16777216 then some (.tup (xs ++ ys)) else none
  | x, y => match lstO m x, lstO m y with
    | some xs, some ys => if xs.length + ys.length ≤ 16777216 then some (.lst (xs ++ ys)) else none
    | _, _ => none
def mulD (m : Mem) : U → U → Option D
  | .d (.int i), .d (.int j) => if mulOk i j then some (.int (i * j)) else none
  | x, .d (.int k) => match lstO m x with
    | some xs => if k.natAbs ≤ 16777216 ∧ xs.length * k.toNat ≤ 16777216 then some (.lst (List.replicate k.toNat xs).flatten) else none
    | _ => none
  | _, _ => none
def binD (m : Mem) (op : Bop) (x y : U) : Option D := match op with
  | .add => addD m x y
  | .mul => mulD m x y
  | .sub => match x, y with
    | .d (.int i), .d (.int j) => some (.int (i - j))
    | _, _ => none
  | .fdiv => match x, y with
    | .d (.int i), .d (.int j) => if divOk j then some (.int (i / j)) else none
    | _, _ => none
  | .mod => match x, y with
    | .d (.int i), .d (.int j) => if 0 < j then some (.int (i % j)) else none
    | _, _ => none
  | .pow => match x, y with
    | .d (.int i), .d (.int j) => if powOk i j then some (.int (i ^ j.toNat)) else none
    | _, _ => none
mutual
def eqvD : D → D → Bool
  | .non, .non => true
  | .bl a, .bl b => a == b
  | .bl a, .int j => (if a then 1 else 0) == j
  | .int i, .bl b => i == (if b then 1 else 0)
  | .int i, .int j => i == j
  | .str x, .str y => x == y
  | .lst xs, .lst ys => eqvL xs ys
  | .tup xs, .tup ys => eqvL xs ys
  | _, _ => false
def eqvL : List D → List D → Bool
  | [], [] => true
  | x :: xs, y :: ys => eqvD x y && eqvL xs ys
  | _, _ => false
end
mutual
def depD : D → Nat
  | .tup xs => depL xs + 1
  | .lst xs => depL xs + 1
  | .ins _ _ => 1000
  | .scr _ => 1000
  | .dic _ => 1000
  | .str s => if s.all (· < 128) then 0 else 1000
  | _ => 0
def depL : List D → Nat
  | [] => 0
  | x :: xs => max (depD x) (depL xs)
end
/-- == of two values -/
def eqD (m : Mem) (x y : U) : Option Bool := match x, y with
  | .d (.int i), .d (.int j) => some (i == j)
  | .d (.str s), .d (.str t) => some (s == t)
  | .d .non, .d .non => some true
  | .d .non, .d (.int _) => some false
  | .d (.int _), .d .non => some false
  | .d .non, .d (.str _) => some false
  | .d (.str _), .d .non => some false
  | .d (.int _), .d (.str _) => some false
  | .d (.str _), .d (.int _) => some false
  | .d x, .d y => if depD x ≤ 60 ∧ depD y ≤ 60 then some (eqvD x y) else none
  | x, y => match lstO m x, lstO m y with
    | some xs, some ys => if depL xs < 60 ∧ depL ys < 60 then some (eqvL xs ys) else none
    | _, _ => none
def isD : U → U → Option Bool
  | .d .non, .d .non => some true
  | .d (.bl a), .d (.bl b) => some (a == b)
  | _, .d .non => some false
  | _, _ => none
def anyIn (x : D) : List D → Bool
  | [] => false
  | y :: ys => eqvD y x || anyIn x ys
def inD (m : Mem) (x y : U) : Option Bool := match x with
  | .cell _ => none
  | .d x => match y with
    | .d (.str t) => match x with
      | .str [c] => some (decide (c ∈ t))
      | _ => none
    | y => match seqO m y with
      | some ys => if depD x ≤ 60 ∧ depL ys < 60 then some (anyIn x ys) else none
      | none => none
def cmpD (m : Mem) (op : Cop) (x y : U) : Option Bool := match op with
  | .eq => eqD m x y
  | .ne => (eqD m x y).map (!·)
  | .lt => match x, y with
    | .d (.int i), .d (.int j) => some (decide (i < j))
    | _, _ => none
  | .le => match x, y with
    | .d (.int i), .d (.int j) => some (decide (i ≤ j))
    | _, _ => none
  | .gt => match x, y with
    | .d (.int i), .d (.int j) => some (decide (j < i))
    | _, _ => none
  | .ge => match x, y with
    | .d (.int i), .d (.int j) => some (decide (j ≤ i))
    | _, _ => none
  | .isin => inD m x y
  | .notin => (inD m x y).map (!·)
  | .is => isD x y
  | .isnot => (isD x y).map (!·)
def idxD (m : Mem) (a i : U) : Option D := match i with
  | .d (.int k) => match a with
    | .d (.str s) => if s.length ≤ 16777216 then (atI s k).map fun c => .str [c] else none
    | .d (.tup xs) => atI xs k
    | .d (.lst xs) => atI xs k
    | .d (.dic ks) => lookK ks k
    | .cell n => match m[n]? with
      | some (.lst xs) => atI xs k
      | some (.dic ks) => lookK ks k
      | _ => none
    | _ => none
  | .d (.tup [.int p, .int q]) => match a with
    | .cell n => match m[n]? with
      | some (.dip ks) => lookK ks (p, q)
      | _ => none
    | _ => none
  | _ => none
def cutL {α : Type} (xs : List α) (lo hi : Option Int) : List α := (xs.drop (HT.sIx xs.length 0 lo)).take (HT.sIx xs.length xs.length hi - HT.sIx xs.length 0 lo)
def slcD (m : Mem) (a : U) (lo hi : Option Int) : Option D := match a with
  | .d (.str s) => if s.length ≤ 16777216 then some (.str (cutL s lo hi)) else none
  | .d (.tup xs) => some (.tup (cutL xs lo hi))
  | a => match lstO m a with
    | some xs => some (.lst (cutL xs lo hi))
    | none => none
/-- every other one, from the first on -/
def evens {α : Type} : List α → List α
  | [] => []
  | [x] => [x]
  | x :: _ :: r => x :: evens r
def stepD (m : Mem) (k : Nat) (a : U) : Option D := match lstO m a with
  | some xs => if k = 0 then some (.lst (evens xs)) else if k = 1 then some (.lst (evens (xs.drop 1))) else none
  | none => none
def intsD : List D → Option (List Int)
  | [] => some []
  | .int i :: r => (intsD r).map (i :: ·)
  | _ :: _ => none
def boolsD : List D → Option (List Bool)
  | [] => some []
  | .bl i :: r => (boolsD r).map (i :: ·)
  | _ :: _ => none
def strsD : List D → Option (List (List Nat))
  | [] => some []
  | .str i :: r => (strsD r).map (i :: ·)
  | _ :: _ => none
def prsD : List D → Option (List (Int × Int))
  | [] => some []
  | .tup [.int i, .int j] :: r => (prsD r).map ((i, j) :: ·)
  | _ :: _ => none
def insI (x : Int) : List Int → List Int
  | [] => [x]
  | y :: r => if x ≤ y then x :: y :: r else y :: insI x r
def sortI : List Int → List Int
  | [] => []
  | x :: r => insI x (sortI r)
def leP (x y : Int × Int) : Bool := x.1 < y.1 || (x.1 == y.1 && x.2 ≤ y.2)
def insP (x : Int × Int) : List (Int × Int) → List (Int × Int)
  | [] => [x]
  | y :: r => if leP x y then x :: y :: r else y :: insP x r
def sortP : List (Int × Int) → List (Int × Int)
  | [] => []
  | x :: r => insP x (sortP r)
def prD (p : Int × Int) : D := .tup [.int p.1, .int p.2]
def sortD (xs : List D) : Option D := match intsD xs with
  | some ns => some (.lst ((sortI ns).map .int))
  | none => match prsD xs with
    | some ps => some (.lst ((sortP ps).map prD))
    | none => none
/-- the digits of an int -/
def digs (i : Int) : List Nat := (Str.ofString (toString i)).cps.toList
def strOk (i : Int) : Prop := i.natAbs.log2 < 1920
instance (i : Int) : Decidable (strOk i) := by unfold strOk; exact inferInstance
def str0 (s : List Nat) : Str := ⟨s.toArray⟩
def lenTo (n : Nat) (m : Mem) : U → Option D
  | .d (.str s) => if s.length ≤ 16777216 then some (.int s.length) else none
  | .d (.dic ks) => some (.int ks.length)
  | x => match seqO m x with
    | some xs => some (.int xs.length)
    | none => match dicO m x with
      | some ks => some (.int ks.length)
      | none => none
mutual
def pyD : D → Option PyData
  | .non => some .none
  | .bl b => some (.bool b)
  | .int i => some (.int i)
  | .str s => some (.str (str0 s))
  | .tup xs => (pyL xs).map .tuple
  | .lst xs => (pyL xs).map .list
  | _ => none
def pyL : List D → Option (List PyData)
  | [] => some []
  | x :: xs => match pyD x, pyL xs with
    | some a, some b => some (a :: b)
    | _, _ => none
end
def reprD (x : D) : Option D := match pyD x with
  | some p => if p.showable = true ∧ p.depth ≤ 60 ∧ p.shown.length ≤ 16777216 then some (.str p.shown.cps.toList) else none
  | none => none
def bltD (m : Mem) (b : Blt) (us : List U) : Option D := match b, us with
  | .len, [x] => lenTo 0 m x
  | .abs, [.d (.int i)] => some (.int (if i < 0 then -i else i))
  | .min, [.d (.int i), .d (.int j)] => some (.int (if j < i then j else i))
  | .max, [.d (.int i), .d (.int j)] => some (.int (if j > i then j else i))
  | .int, [.d (.int i)] => some (.int i)
  | .int, [.d (.bl b)] => some (.int (if b then 1 else 0))
  | .int, [.d (.str s)] => if s.length ≤ 640 then (PySem.intText? (str0 s)).map .int else none
  | .str, [.d (.int i)] => if strOk i then some (.str (digs i)) else none
  | .sum, [x] => match lstO m x with
    | some xs => (intsD xs).map fun ns => .int ns.sum
    | none => none
  | .all, [x] => match lstO m x with
    | some xs => (boolsD xs).map fun bs => .bl (bs.all id)
    | none => none
  | .tuple, [x] => match seqO m x with
    | some xs => some (.tup xs)
    | none => none
  | .list, [x] => match seqO m x with
    | some xs => some (.lst xs)
    | none => none
  | .sorted, [x] => match lstO m x with
    | some xs => sortD xs
    | none => none
  | .repr, [.d x] => reprD x
  | .divmod, [.d (.int i), .d (.int j)] => if 0 < j ∧ j.natAbs < 2 ^ 9000 then some (.tup [.int (i / j), .int (i % j)]) else none
  | _, _ => none
def joinL (sep : List Nat) : List (List Nat) → List Nat
  | [] => []
  | [x] => x
  | x :: y :: r => x ++ sep ++ joinL sep (y :: r)
def splitD (s t : List Nat) : List D := (Txt.split (str0 s) (str0 t)).map fun z => .str z.cps.toList
/-- the class of an instance -/
def insC (m : Mem) : U → Option Nat
  | .d (.ins c _) => some c
  | .cell n => match m[n]? with
    | some (.ins c _) => some c
    | _ => none
  | _ => none
/-- rising, each once -/
def ins1 (x : Int) : List Int → List Int
  | [] => [x]
  | y :: r => if x < y then x :: y :: r else if x = y then y :: r else y :: ins1 x r
def sset : List Int → List Int
  | [] => []
  | x :: r => ins1 x (sset r)
def ssetD (m : Mem) (u : U) : Option D := match lstO m u with
  | some xs => match intsD xs with
    | some ns => if ns.length < 64 then some (.lst ((sset ns).map .int)) else none
    | none => none
  | none => none
def mthD (m : Mem) (f : Mth) (o e : U) : Option D := match f, o with
  | .join, .d (.str sep) => match seqO m e with
    | some xs => match strsD xs with
      | some ss => if (ss.map fun s => s.length + sep.length).sum ≤ 16777216 then some (.str (joinL sep ss)) else none
      | none => none
    | none => none
  | .split, .d (.str s) => match e with
    | .d (.str t) => if t ≠ [] ∧ s.length + 2 ≤ 16777216 then some (.lst (splitD s t)) else none
    | _ => none
  | .startswith, .d (.str s) => match e with
    | .d (.str t) => some (.bl (Txt.startswith (str0 s) (str0 t)))
    | _ => none
  | _, _ => none
def isiD (t : Ty) : U → Option Bool
  | .d x => match t, x with
    | .cls c, .ins c' _ => if c' = c then some true else none
    | .cls _, _ => none
    | _, .ins _ _ => none
    | _, .scr _ => none
    | .int, .int _ => some true
    | .int, .bl _ => some true
    | .bool, .bl _ => some true
    | .tuple, .tup _ => some true
    | .str, .str _ => some true
    | _, _ => some false
  | .cell _ => none
end DL
set_option linter.all false
namespace DL
open PySem L2
mutual
def sameD : D → D → Bool
  | .non, .non => true
  | .bl a, .bl b => a == b
  | .int i, .int j => decide (i = j)
  | .str x, .str y => decide (x = y)
  | .lst xs, .lst ys => sameL xs ys
  | .tup xs, .tup ys => sameL xs ys
  | _, _ => false
def sameL : List D → List D → Bool
  | [], [] => true
  | x :: xs, y :: ys => sameD x y && sameL xs ys
  | _, _ => false
end
mutual
theorem sameD_eq : ∀ (x y : D), sameD x y = true → x = y
  | .non, y, h => by cases y <;> first | rfl | cases h
  | .bl a, y, h => by
    cases y <;> first | (simp [sameD] at h; subst h; rfl) | cases h
  | .int a, y, h => by
    cases y <;> first | (simp [sameD] at h; subst h; rfl) | cases h
  | .str a, y, h => by
    cases y <;> first | (simp [sameD] at h; subst h; rfl) | cases h
  | .lst xs, y, h => by
    cases y <;> first | (rw [sameL_eq xs _ h]) | cases h
  | .tup xs, y, h => by
    cases y <;> first | (rw [sameL_eq xs _ h]) | cases h
  | .dic a, y, h => by cases y <;> cases h
  | .ins a b, y, h => by cases y <;> cases h
  | .scr a, y, h => by cases y <;> cases h
theorem sameL_eq : ∀ (x y : List D), sameL x y = true → x = y
  | [], y, h => by cases y <;> first | rfl | cases h
  | x :: xs, [], h => by cases h
  | x :: xs, y :: ys, h => by
    simp only [sameL, Bool.and_eq_true] at h
    rw [sameD_eq x y h.1, sameL_eq xs ys h.2]
end
def sameO : Option Ob → Option Ob → Bool
  | some (.lst xs), some (.lst ys) => sameL xs ys
  | some (.dic xs), some (.dic ys) => sameL (xs.map fun p => .tup [.int p.1, p.2]) (ys.map fun p => .tup [.int p.1, p.2])
  | _, _ => false
/-- the cell that is walked stands as it stood -/
def okG (g : Option Nat) (m0 m : Mem) : Bool := match g with
  | none => true
  | some n => sameO m0[n]? m[n]?
def pures : List U → Option (List D)
  | [] => some []
  | .d x :: r => (pures r).map (x :: ·)
  | .cell _ :: _ => none
def wipeE (ρ : Env) : List Nat → Env
  | [] => ρ
  | v :: vs => (wipeE ρ vs).set v none
/-- o[i] = v -/
def setD (m : Mem) (o i v : U) : Option Mem := match o, v with
  | .cell n, .d x => match m[n]?, i with
    | some (.lst xs), .d (.int k) => match ixN xs.length k with
      | some j => some (m.set n (.lst (xs.set j x)))
      | none => none
    | some (.dic ks), .d (.int k) => if ks.length < 10000000 then some (m.set n (.dic (putK ks k x))) else none
    | some (.dip ks), .d (.tup [.int p, .int q]) => if ks.length < 10000000 then some (m.set n (.dip (putK ks (p, q) x))) else none
    | _, _ => none
  | _, _ => none
def appD (m : Mem) (o v : U) : Option Mem := match o, v with
  | .cell n, .d x => match m[n]? with
    | some (.lst xs) => if xs.length < 16777216 then some (m.set n (.lst (xs ++ [x]))) else none
    | _ => none
  | _, _ => none
def getD (m : Mem) (o k d : U) : Option D := match o, d with
  | .cell n, .d x => match m[n]?, k with
    | some (.dic ks), .d (.int i) => some ((lookK ks i).getD x)
    | some (.dip ks), .d (.tup [.int p, .int q]) => some ((lookK ks (p, q)).getD x)
    | _, _ => none
  | _, _ => none
/-- the receiver of get is a dict (ahead of the arguments) -/
def dictU (m : Mem) : U → Bool
  | .cell n => match m[n]? with
    | some (.dic _) => true
    | some (.dip _) => true
    | _ => false
  | _ => false
/-- a list that may change -/
def lstU (m : Mem) : U → Bool
  | .cell n => match m[n]? with
    | some (.lst _) => true
    | _ => false
  | _ => false
def pairI (p : Int × D) : D := .tup [.int p.1, p.2]
def itemsO (m : Mem) (o : U) : Option (List D) := (dicO m o).map fun ks => ks.map pairI
def cellG : U → Option Nat
  | .cell n => some n
  | .d _ => none
def seqIt (m : Mem) (u : U) : Option (List D × Option Nat) := match u with
  | .d (.str s) => if s.length ≤ 16777216 then some (s.map fun c => .str [c], none) else none
  | u => (seqO m u).map fun xs => (xs, cellG u)
def numbered (xs : List D) : List D := (xs.zipIdx).map fun p => .tup [.int p.2, p.1]
def fmtL : List U → Option (List Nat)
  | [] => some []
  | .d (.str s) :: r => (fmtL r).map (s ++ ·)
  | .d (.int i) :: r => if strOk i then (fmtL r).map (digs i ++ ·) else none
  | _ :: _ => none
def tyRange (n : Int) : Option (List D) := if -(2 ^ 62) ≤ n ∧ n ≤ 16777216 then some ((List.range n.toNat).map fun (i : Nat) => D.int (i : Int)) else none
/-- the turns of a comprehension -/
def lcL (g : Option Nat) (m0 : Mem) (b : D → Mem → R (Option D)) : List D → Mem → R (List D)
  | [], m => .ok [] m
  | x :: xs, m => (b x m).bind fun r m1 => if okG g m0 m1 then (lcL g m0 b xs m1).bind fun ys m2 => .ok (match r with | some y => y :: ys | none => ys) m2 else .no
inductive O where
  | nx (ρ : Env) | brk (ρ : Env) | ct (ρ : Env) | ret (u : U)
/-- the turns of a loop -/
def forL (g : Option Nat) (m0 : Mem) (b : U → Env → Mem → R O) : List U → Env → Mem → R O
  | [], ρ, m => .ok (.nx ρ) m
  | x :: xs, ρ, m => (b x ρ m).bind fun o m1 => match o with
    | .nx ρ1 => if okG g m0 m1 then forL g m0 b xs ρ1 m1 else .no
    | .ct ρ1 => if okG g m0 m1 then forL g m0 b xs ρ1 m1 else .no
    | .brk ρ1 => .ok (.nx ρ1) m1
    | .ret u => .ok (.ret u) m1
def whilL (c : Env → Mem → R Bool) (b : Env → Mem → R O) : Nat → Env → Mem → R O
  | 0, _, _ => .no
  | n + 1, ρ, m => (c ρ m).bind fun k m1 => match k with
    | false => .ok (.nx ρ) m1
    | true => (b ρ m1).bind fun o m2 => match o with
      | .nx ρ1 => whilL c b n ρ1 m2
      | .ct ρ1 => whilL c b n ρ1 m2
      | .brk ρ1 => .ok (.nx ρ1) m2
      | .ret u => .ok (.ret u) m2
def asB (u : U) : Option Bool := match u with
  | .d (.bl b) => some b
  | _ => none
section
variable (F : Nat → List U → Mem → R U)
mutual
def evE : E → Env → Mem → R U
  | .var i, ρ, m => match ρ[i]? with
    | some (some u) => .ok u m
    | _ => .no
  | .cst d, _, m => .ok (.d d) m
  | .glb d, _, m => .ok (.d d) m
  | .tup es, ρ, m => (evEs es ρ m).bind fun us m1 => ofO ((pures us).map fun xs => .d (.tup xs)) m1
  | .lst es, ρ, m => (evEs es ρ m).bind fun us m1 => ofO ((pures us).map fun xs => .d (.lst xs)) m1
  | .nlst es, ρ, m => (evEs es ρ m).bind fun us m1 => match pures us with
    | some xs => .ok (.cell m1.length) (m1 ++ [.lst xs])
    | none => .no
  | .ndic, _, m => .ok (.cell m.length) (m ++ [.dic []])
  | .ndip, _, m => .ok (.cell m.length) (m ++ [.dip []])
  | .ddic, _, m => .ok (.d (.dic [])) m
  | .bin op a b, ρ, m => (evE a ρ m).bind fun x m1 => (evE b ρ m1).bind fun y m2 => ofO ((binD m2 op x y).map .d) m2
  | .neg a, ρ, m => (evE a ρ m).bind fun x m1 => match x with
    | .d (.int i) => .ok (.d (.int (-i))) m1
    | _ => .no
  | .cmp op a b, ρ, m => (evE a ρ m).bind fun x m1 => (evE b ρ m1).bind fun y m2 => ofO ((cmpD m2 op x y).map fun k => .d (.bl k)) m2
  | .chain op1 op2 a b c, ρ, m => (evE a ρ m).bind fun x m1 => (evE b ρ m1).bind fun y m2 => (ofO (cmpD m2 op1 x y) m2).bind fun k m2 => match k with
    | false => .ok (.d (.bl false)) m2
    | true => (evE c ρ m2).bind fun z m3 => ofO ((cmpD m3 op2 y z).map fun k => .d (.bl k)) m3
  | .conj es, ρ, m => (evCj true es ρ m).bind fun k m1 => .ok (.d (.bl k)) m1
  | .disj es, ρ, m => (evCj false es ρ m).bind fun k m1 => .ok (.d (.bl k)) m1
  | .inv a, ρ, m => (evE a ρ m).bind fun x m1 => match x with
    | .d (.bl k) => .ok (.d (.bl (!k))) m1
    | _ => .no
  | .ite c a b, ρ, m => (evE c ρ m).bind fun x m1 => match x with
    | .d (.bl true) => evE a ρ m1
    | .d (.bl false) => evE b ρ m1
    | _ => .no
  | .idx a i, ρ, m => (evE a ρ m).bind fun x m1 => (evE i ρ m1).bind fun y m2 => ofO ((idxD m2 x y).map .d) m2
  | .slTo a i, ρ, m => (evE a ρ m).bind fun x m1 => (evE i ρ m1).bind fun y m2 => match y with
    | .d (.int j) => ofO ((slcD m2 x none (some j)).map .d) m2
    | _ => .no
  | .slFr a i, ρ, m => (evE a ρ m).bind fun x m1 => (evE i ρ m1).bind fun y m2 => match y with
    | .d (.int j) => ofO ((slcD m2 x (some j) none).map .d) m2
    | _ => .no
  | .slMi a i j, ρ, m => (evE a ρ m).bind fun x m1 => (evE i ρ m1).bind fun y m2 => (evE j ρ m2).bind fun z m3 => match y, z with
    | .d (.int p), .d (.int q) => ofO ((slcD m3 x (some p) (some q)).map .d) m3
    | _, _ => .no
  | .slen a, ρ, m => (evE a ρ m).bind fun x m1 => match x with
    | .d (.scr ns) => .ok (.d (.int ns.length)) m1
    | _ => .no
  | .sidx a i, ρ, m => (evE a ρ m).bind fun x m1 => (evE i ρ m1).bind fun y m2 => match x, y with
    | .d (.scr ns), .d (.int k) => ofO ((atI ns k).map fun n => .d (.int n)) m2
    | _, _ => .no
  | .sto a i, ρ, m => (evE a ρ m).bind fun x m1 => (evE i ρ m1).bind fun y m2 => match x, y with
    | .d (.scr ns), .d (.int k) => .ok (.d (.lst (cutL (ns.map .int) none (some k)))) m2
    | _, _ => .no
  | .step k a, ρ, m => (evE a ρ m).bind fun x m1 => ofO ((stepD m1 k x).map .d) m1
  | .call f es dv, ρ, m => (evEs es ρ m).bind fun us m1 => F f (us ++ dv.map .d) m1
  | .callK f perm es, ρ, m => (evEs es ρ m).bind fun us m1 => F f (perm.filterMap fun i => us[i]?) m1
  | .blt b es, ρ, m => (evEs es ρ m).bind fun us m1 => ofO ((bltD m1 b us).map .d) m1
  | .nlist e, ρ, m => (evE e ρ m).bind fun x m1 => match seqO m1 x with
    | some xs => .ok (.cell m1.length) (m1 ++ [.lst xs])
    | none => .no
  | .isi a t, ρ, m => (evE a ρ m).bind fun x m1 => ofO ((isiD t x).map fun k => .d (.bl k)) m1
  | .mth f o e, ρ, m => (evE o ρ m).bind fun x m1 => (evE e ρ m1).bind fun y m2 => ofO ((mthD m2 f x y).map .d) m2
  | .get o k d, ρ, m => (evE o ρ m).bind fun x m1 => if dictU m1 x = true then (evE k ρ m1).bind fun y m2 => (evE d ρ m2).bind fun z m3 => ofO ((getD m3 x y z).map .d) m3 else .no
  | .pop o, ρ, m => (evE o ρ m).bind fun x m1 => match x with
    | .cell n => match m1[n]? with
      | some (.lst xs) => match xs[xs.length - 1]? with
        | some y => .ok (.d y) (m1.set n (.lst xs.dropLast))
        | none => .no
      | _ => .no
    | _ => .no
  | .litems o, ρ, m => (evE o ρ m).bind fun x m1 => ofO ((itemsO m1 x).map fun xs => .d (.lst xs)) m1
  | .sitems o, ρ, m => (evE o ρ m).bind fun x m1 => ofO ((itemsO m1 x).bind fun xs => (sortD xs).map .d) m1
  | .fld c o, ρ, m => (evE o ρ m).bind fun x m1 => match x with
    | .d (.ins c' y) => if c' = c then .ok (.d y) m1 else .no
    | .cell n => match m1[n]? with
      | some (.ins c' (some y)) => if c' = c then .ok (.d y) m1 else .no
      | _ => .no
    | _ => .no
  | .prop f c o, ρ, m => (evE o ρ m).bind fun x m1 => if insC m1 x = some c then F f [x] m1 else .no
  | .meth f c o es, ρ, m => (evE o ρ m).bind fun x m1 => if insC m1 x = some c then (evEs es ρ m1).bind fun us m2 => F f (x :: us) m2 else .no
  | .sset e, ρ, m => (evE e ρ m).bind fun x m1 => ofO ((ssetD m1 x).map .d) m1
  | .strO f c o, ρ, m => (evE o ρ m).bind fun x m1 => if insC m1 x = some c then (F f [x] m1).bind fun y m2 => match y with
    | .d (.str s) => .ok (.d (.str s)) m2
    | _ => .no else .no
  | .lc own tg it cs e, ρ, m => (evIt it ρ m).bind fun p m1 =>
      (lcL p.2 m1 (fun x m2 => (assT tg (.d x) (wipeE ρ own) m2).bind fun ρ1 m3 => (evCj true cs ρ1 m3).bind fun k m4 => match k with
        | false => .ok none m4
        | true => (evE e ρ1 m4).bind fun y m5 => match y with
          | .d z => .ok (some z) m5
          | .cell _ => .no) p.1 m1).bind fun ys m6 => .ok (.d (.lst ys)) m6
  | .fstr es, ρ, m => (evEs es ρ m).bind fun us m1 => match fmtL us with
    | some s => if s.length ≤ 16777216 then .ok (.d (.str s)) m1 else .no
    | none => .no
  | .mk g c e, ρ, m => (evE e ρ m).bind fun u m1 => (F g [.cell m1.length, u] (m1 ++ [.ins c none])).bind fun r m2 => match r, m2[m1.length]? with
    | .d .non, some (.ins c' (some y)) => if c' = c then .ok (.d (.ins c y)) (m2.take m1.length) else .no
    | _, _ => .no
  | .stuck, _, _ => .no
def evEs : Es → Env → Mem → R (List U)
  | .nil, _, m => .ok [] m
  | .cons e es, ρ, m => (evE e ρ m).bind fun x m1 => (evEs es ρ m1).bind fun xs m2 => .ok (x :: xs) m2
/-- and (true), or (false), of truth values -/
def evCj : Bool → Es → Env → Mem → R Bool
  | b, .nil, _, m => .ok b m
  | b, .cons e es, ρ, m => (evE e ρ m).bind fun x m1 => match x with
    | .d (.bl k) => if k = b then evCj b es ρ m1 else .ok k m1
    | _ => .no
def evIt : It → Env → Mem → R (List D × Option Nat)
  | .seq e, ρ, m => (evE e ρ m).bind fun x m1 => ofO (seqIt m1 x) m1
  | .rng e, ρ, m => (evE e ρ m).bind fun x m1 => match x with
    | .d (.int n) => ofO ((tyRange n).map fun xs => (xs, none)) m1
    | _ => .no
  | .enum e, ρ, m => (evE e ρ m).bind fun x m1 => ofO ((seqO m1 x).map fun xs => (numbered xs, cellG x)) m1
  | .items e, ρ, m => (evE e ρ m).bind fun x m1 => ofO ((itemsO m1 x).map fun xs => (xs, cellG x)) m1
  | .stuck, _, _ => .no
def assT : Tg → U → Env → Mem → R Env
  | .nm i, u, ρ, m => .ok (ρ.set i (some u)) m
  | .sub o i, u, ρ, m => (evE o ρ m).bind fun x m1 => (evE i ρ m1).bind fun y m2 => match setD m2 x y u with
    | some m3 => .ok ρ m3
    | none => .no
  | .tp ts, u, ρ, m => match u with
    | .d (.tup xs) => assTs ts xs ρ m
    | _ => .no
def assTs : Tgs → List D → Env → Mem → R Env
  | .nil, [], ρ, m => .ok ρ m
  | .cons t ts, x :: xs, ρ, m => (assT t (.d x) ρ m).bind fun ρ1 m1 => assTs ts xs ρ1 m1
  | _, _, _, _ => .no
end
def evB (e : E) (ρ : Env) (m : Mem) : R Bool := (evE F e ρ m).bind fun x m1 => ofO (asB x) m1
def setAll : List Nat → List U → Env → Option Env
  | [], [], ρ => some ρ
  | i :: is, u :: us, ρ => setAll is us (ρ.set i (some u))
  | _, _, _ => none
mutual
def exS : S → Env → Mem → R O
  | .asg t e, ρ, m => (evE F e ρ m).bind fun x m1 => (assT F t x ρ m1).bind fun ρ1 m2 => .ok (.nx ρ1) m2
  | .par is es, ρ, m => (evEs F es ρ m).bind fun us m1 => match setAll is us ρ with
    | some ρ1 => .ok (.nx ρ1) m1
    | none => .no
  | .aug i op e, ρ, m => match ρ[i]? with
    | some (some x) => (evE F e ρ m).bind fun y m1 => match x, y, op with
      | .d (.int a), .d (.int b), .add => .ok (.nx (ρ.set i (some (.d (.int (a + b)))))) m1
      | .d (.int a), .d (.int b), .sub => .ok (.nx (ρ.set i (some (.d (.int (a - b)))))) m1
      | _, _, _ => .no
    | _ => .no
  | .expr e, ρ, m => (evE F e ρ m).bind fun _ m1 => .ok (.nx ρ) m1
  | .app o e, ρ, m => (evE F o ρ m).bind fun x m1 => if lstU m1 x = true then (evE F e ρ m1).bind fun y m2 => match appD m2 x y with
    | some m3 => .ok (.nx ρ) m3
    | none => .no else .no
  | .cut1 o e, ρ, m => (evE F e ρ m).bind fun y m1 => (evE F o ρ m1).bind fun x m2 => match x, lstO m2 y with
    | .cell n, some ys => match m2[n]? with
      | some (.lst xs) => if 1 ≤ xs.length ∧ xs.length + ys.length ≤ 16777216 then .ok (.nx ρ) (m2.set n (.lst (ys ++ xs.drop 1))) else .no
      | _ => .no
    | _, _ => .no
  | .setf c o e, ρ, m => (evE F e ρ m).bind fun x m1 => (evE F o ρ m1).bind fun y m2 => match x, y with
    | .d d, .cell n => match m2[n]? with
      | some (.ins c' _) => if c' = c then .ok (.nx ρ) (m2.set n (.ins c (some d))) else .no
      | _ => .no
    | _, _ => .no
  | .ite c a b, ρ, m => (evB F c ρ m).bind fun k m1 => match k with
    | true => exSs a ρ m1
    | false => exSs b ρ m1
  | .for_ t it b, ρ, m => (evIt F it ρ m).bind fun p m1 => forL p.2 m1 (fun u ρ1 m2 => (assT F t u ρ1 m2).bind fun ρ2 m3 => exSs b ρ2 m3) (p.1.map .d) ρ m1
  | .forC i is b, ρ, m => match is.mapM fun j => (ρ[j]?).join with
    | some us => forL none m (fun u ρ1 m2 => exSs b (ρ1.set i (some u)) m2) us ρ m
    | none => .no
  | .whil n c b, ρ, m => whilL (fun ρ m => evB F c ρ m) (fun ρ m => exSs b ρ m) n ρ m
  | .ret e, ρ, m => (evE F e ρ m).bind fun x m1 => .ok (.ret x) m1
  | .retN, _, m => .ok (.ret (.d .non)) m
  | .brk, ρ, m => .ok (.brk ρ) m
  | .cont, ρ, m => .ok (.ct ρ) m
  | .pass, ρ, m => .ok (.nx ρ) m
  | .stuck, _, _ => .no
def exSs : Ss → Env → Mem → R O
  | .nil, ρ, m => .ok (.nx ρ) m
  | .cons s ss, ρ, m => (exS s ρ m).bind fun o m1 => match o with
    | .nx ρ1 => exSs ss ρ1 m1
    | o => .ok o m1
end
end
structure Def where
  np : Nat
  ns : Nat
  body : Ss
  /-- a cell handed back stays one -/
  cel : Bool := false
/-- what a call hands back: its own cells go, a cell handed back is data from then on, or one new cell -/
def close (cel : Bool) (n : Nat) (o : O) (m : Mem) : R U := match o with
  | .nx _ => .ok (.d .non) (m.take n)
  | .ret (.d x) => .ok (.d x) (m.take n)
  | .ret (.cell j) => if n ≤ j then match m[j]? with
      | some ob => match cel with
        | true => .ok (.cell n) (m.take n ++ [ob])
        | false => match ob with
          | .lst xs => .ok (.d (.lst xs)) (m.take n)
          | .dic ks => .ok (.d (.dic ks)) (m.take n)
          | .dip _ => .no
          | .ins _ _ => .no
      | none => .no
    else .no
  | _ => .no
def startE (k : Nat) (us : List U) : Env := us.map some ++ List.replicate (k - us.length) none
def callF (T : Nat → Option Def) : Nat → Nat → List U → Mem → R U
  | 0, _, _, _ => .no
  | k + 1, f, us, m => match T f with
    | none => .no
    | some d => if us.length = d.np then (exSs (callF T k) d.body (startE d.ns us) m).bind fun o m1 => close d.cel m.length o m1 else .no
end DL
set_option linter.all false
namespace DL
theorem callF_run (T : Nat → Option Def) (k f : Nat) (us : List U) (m : Mem) (d : Def) (h : T f = some d) (hl : us.length = d.np) :
    callF T (k + 1) f us m = (exSs (callF T k) d.body (startE d.ns us) m).bind (close d.cel m.length) := by
  show (match T f with
    | none => R.no
    | some d => if us.length = d.np then (exSs (callF T k) d.body (startE d.ns us) m).bind fun o m1 => close d.cel m.length o m1 else R.no) = _
  rw [h]
  simp only [hl, if_true]
end DL
set_option linter.all false
set_option maxRecDepth 100000
namespace DL
open PySem L2
/-- the classes: where class c stands, the name of its one field -/
structure Cls' where
  at_ : Nat → Addr
  fn : Nat → Str
  /-- lists in the making: no data rests on them -/
  ban : List Addr := []
  /-- the module's own objects -/
  K : PySem.W.Frag
section
variable (C : Cls') (ι : List Addr) (H : Hp)
mutual
def RepD : D → V → Prop
  | .non, v => v = .non
  | .bl b, v => v = .bl b
  | .int i, v => v = .int i
  | .str s, v => v = .str (str0 s)
  | .tup xs, v => ∃ a vs, v = .ref a ∧ a ∉ C.ban ++ ι ∧ H a = some (.tup vs) ∧ RepL xs vs
  | .lst xs, v => ∃ a vs, v = .ref a ∧ a ∉ C.ban ++ ι ∧ H a = some (.lst vs) ∧ RepL xs vs
  | .dic ks, v => ∃ a kvs, v = .ref a ∧ a ∉ C.ban ++ ι ∧ H a = some (.dK kvs) ∧ RepK ks kvs
  | .ins c x, v => ∃ a dx y, v = .ref a ∧ a ∉ C.ban ++ ι ∧ H a = some (.ins (C.at_ c) dx [(C.fn c, y)]) ∧ RepD x y
  | .scr ns, v => ∃ a, v = .ref a ∧ ((∃ o, a ∉ C.ban ++ ι ∧ H a = some (.frz o (.lst (ns.map V.int)))) ∨ ∃ (o : Obj) (its : Array Value) (n : Nat), C.K.lookup a = some o ∧ o.cls = .type "list" ∧ o.dict = none ∧ o.data = .seq its n ∧ its.size ≤ sizeLine ∧ Vals (ns.map V.int) its.toList)
def RepL : List D → List V → Prop
  | [], vs => vs = []
  | x :: xs, vs => ∃ v ws, vs = v :: ws ∧ RepD x v ∧ RepL xs ws
def RepK : List (Int × D) → List (Key × V) → Prop
  | [], vs => vs = []
  | p :: xs, vs => ∃ v ws, vs = (.inl p.1, v) :: ws ∧ RepD p.2 v ∧ RepK xs ws
end
def RepP : List ((Int × Int) × D) → List (List Key × V) → Prop
  | [], vs => vs = []
  | p :: xs, vs => ∃ v ws, vs = ([.inl p.1.1, .inl p.1.2], v) :: ws ∧ RepD C ι H p.2 v ∧ RepP xs ws
def RepO : Ob → HO → Prop
  | .lst xs, o => ∃ vs, o = .lst vs ∧ RepL C ι H xs vs
  | .dic ks, o => ∃ kvs, o = .dK kvs ∧ RepK C ι H ks kvs
  | .dip ks, o => ∃ kvs, o = .dT kvs ∧ RepP C ι H ks kvs
  | .ins c x, o => ∃ dx fs, o = .ins (C.at_ c) dx fs ∧ match x with
    | none => fs = []
    | some y => ∃ v, fs = [(C.fn c, v)] ∧ RepD C ι H y v
def RepU : U → V → Prop
  | .d x, v => RepD C ι H x v
  | .cell n, v => ∃ a, ι[n]? = some a ∧ v = .ref a
def RepUs : List U → List V → Prop
  | [], vs => vs = []
  | x :: xs, vs => ∃ v ws, vs = v :: ws ∧ RepU C ι H x v ∧ RepUs xs ws
structure StM (m : Mem) : Prop where
  len : ι.length = m.length
  nd : ι.Nodup
  bn : ∀ a ∈ C.ban, ∃ o, H a = some o
  at_ : ∀ (k : Nat) (o : Ob), m[k]? = some o → ∃ a ho, ι[k]? = some a ∧ H a = some ho ∧ RepO C ι H o ho
def EnvR (ρ : Env) (σ : St) : Prop := ρ.length = σ.length ∧ ∀ (i : Nat) (u : U), ρ[i]? = some (some u) → ∃ v, σ[i]? = some (some v) ∧ RepU C ι H u v
end
/-- what stands aside of the cells stays; new cells are new objects -/
structure Ext (ι ι' : List Addr) (H H' : Hp) : Prop where
  keep : ∀ a o, a ∉ ι → H a = some o → H' a = some o
  there : ∀ a o, H a = some o → ∃ o', H' a = some o'
  more : ∃ more, ι' = ι ++ more ∧ ∀ a ∈ more, H a = none
section
variable {C : Cls'} {ι ι' ι2 : List Addr} {H H' H2 : Hp}
theorem Ext.refl : Ext ι ι H H := ⟨fun _ _ _ h => h, fun _ o h => ⟨o, h⟩, [], by simp, fun _ h => by cases h⟩
theorem Ext.new (e : Ext ι ι' H H') {a : Addr} (h : a ∈ ι') : a ∈ ι ∨ H a = none := by
  obtain ⟨m1, rfl, f1⟩ := e.more
  rcases List.mem_append.mp h with z | z
  · exact .inl z
  · exact .inr (f1 a z)
theorem Ext.out (e : Ext ι ι' H H') {a : Addr} {o : HO} (h : a ∉ ι) (ha : H a = some o) : a ∉ ι' := fun hm => by
  rcases e.new hm with z | z
  · exact h z
  · rw [z] at ha; cases ha
theorem Ext.trans (a : Ext ι ι' H H') (b : Ext ι' ι2 H' H2) : Ext ι ι2 H H2 := by
  refine ⟨fun c o hc h => b.keep c o (a.out hc h) (a.keep c o hc h), fun c o h => ?_, ?_⟩
  · obtain ⟨o1, h1⟩ := a.there c o h
    exact b.there c o1 h1
  · obtain ⟨m1, e1, f1⟩ := a.more
    obtain ⟨m2, e2, f2⟩ := b.more
    refine ⟨m1 ++ m2, by rw [e2, e1, List.append_assoc], fun c hc => ?_⟩
    rcases List.mem_append.mp hc with z | z
    · exact f1 c z
    · cases q : H c with
      | none => rfl
      | some o =>
        obtain ⟨o1, h1⟩ := a.there c o q
        rw [f2 c z] at h1; cases h1
theorem Ext.get (e : Ext ι ι' H H') {n : Nat} {a : Addr} (h : ι[n]? = some a) : ι'[n]? = some a := by
  obtain ⟨m1, rfl, _⟩ := e.more
  rw [List.getElem?_append_left (List.getElem?_eq_some_iff.mp h).1]
  exact h
/-- a new object that never changes -/
theorem Ext.alloc {p : Addr} {o : HO} (h : H p = none) : Ext ι ι H (upd H p o) :=
  ⟨fun a u _ ha => by rw [upd_ne (ne_of_none ha h)]; exact ha, fun a u ha => ⟨u, by rw [upd_ne (ne_of_none ha h)]; exact ha⟩, [], by simp, fun _ h => by cases h⟩
/-- a new cell -/
theorem Ext.cell {p : Addr} {o : HO} (h : H p = none) : Ext ι (ι ++ [p]) H (upd H p o) :=
  ⟨fun a u _ ha => by rw [upd_ne (ne_of_none ha h)]; exact ha, fun a u ha => ⟨u, by rw [upd_ne (ne_of_none ha h)]; exact ha⟩, [p], rfl, fun a ha => by rw [List.mem_singleton.mp ha]; exact h⟩
/-- a cell is changed -/
theorem Ext.write {p : Addr} {o : HO} (h : p ∈ ι) : Ext ι ι H (upd H p o) :=
  ⟨fun a u hn ha => by rw [upd_ne (fun e => by rw [e] at hn; exact hn h)]; exact ha, fun a u ha => by
    by_cases e : a = p
    · exact ⟨o, by rw [e]; exact upd_same⟩
    · exact ⟨u, by rw [upd_ne e]; exact ha⟩, [], by simp, fun _ h => by cases h⟩
mutual
theorem RepD.mono (k : ∀ a o, a ∉ C.ban ++ ι → H a = some o → H' a = some o ∧ a ∉ C.ban ++ ι') : ∀ (x : D) (v : V), RepD C ι H x v → RepD C ι' H' x v
  | .non, v, h => h
  | .bl b, v, h => h
  | .int i, v, h => h
  | .str s, v, h => h
  | .tup xs, v, h => by
    obtain ⟨a, vs, e, n, ha, r⟩ := h
    obtain ⟨h1, h2⟩ := k a _ n ha
    exact ⟨a, vs, e, h2, h1, RepL.mono k xs vs r⟩
  | .lst xs, v, h => by
    obtain ⟨a, vs, e, n, ha, r⟩ := h
    obtain ⟨h1, h2⟩ := k a _ n ha
    exact ⟨a, vs, e, h2, h1, RepL.mono k xs vs r⟩
  | .dic ks, v, h => by
    obtain ⟨a, vs, e, n, ha, r⟩ := h
    obtain ⟨h1, h2⟩ := k a _ n ha
    exact ⟨a, vs, e, h2, h1, RepK.mono k ks vs r⟩
  | .ins c x, v, h => by
    obtain ⟨a, dx, y, e, n, ha, r⟩ := h
    obtain ⟨h1, h2⟩ := k a _ n ha
    exact ⟨a, dx, y, e, h2, h1, RepD.mono k x y r⟩
  | .scr ns, v, h => by
    obtain ⟨a, e, h⟩ := h
    refine ⟨a, e, h.elim (fun ⟨o, n, ha⟩ => ?_) .inr⟩
    obtain ⟨h1, h2⟩ := k a _ n ha
    exact .inl ⟨o, h2, h1⟩
theorem RepL.mono (k : ∀ a o, a ∉ C.ban ++ ι → H a = some o → H' a = some o ∧ a ∉ C.ban ++ ι') : ∀ (xs : List D) (vs : List V), RepL C ι H xs vs → RepL C ι' H' xs vs
  | [], vs, h => h
  | x :: xs, vs, h => by
    obtain ⟨v, ws, e, r, rs⟩ := h
    exact ⟨v, ws, e, RepD.mono k x v r, RepL.mono k xs ws rs⟩
theorem RepK.mono (k : ∀ a o, a ∉ C.ban ++ ι → H a = some o → H' a = some o ∧ a ∉ C.ban ++ ι') : ∀ (xs : List (Int × D)) (vs : List (Key × V)), RepK C ι H xs vs → RepK C ι' H' xs vs
  | [], vs, h => h
  | (i, x) :: xs, vs, h => by
    obtain ⟨v, ws, e, r, rs⟩ := h
    exact ⟨v, ws, e, RepD.mono k x v r, RepK.mono k xs ws rs⟩
end
theorem RepP.mono (k : ∀ a o, a ∉ C.ban ++ ι → H a = some o → H' a = some o ∧ a ∉ C.ban ++ ι') : ∀ (xs : List ((Int × Int) × D)) (vs : List (List Key × V)), RepP C ι H xs vs → RepP C ι' H' xs vs
  | [], vs, h => h
  | (i, x) :: xs, vs, h => by
    obtain ⟨v, ws, e, r, rs⟩ := h
    exact ⟨v, ws, e, RepD.mono k x v r, RepP.mono k xs ws rs⟩
theorem RepO.mono (k : ∀ a o, a ∉ C.ban ++ ι → H a = some o → H' a = some o ∧ a ∉ C.ban ++ ι') {o : Ob} {ho : HO} (h : RepO C ι H o ho) : RepO C ι' H' o ho := by
  cases o with
  | lst xs => obtain ⟨vs, e, r⟩ := h; exact ⟨vs, e, RepL.mono k _ _ r⟩
  | dic xs => obtain ⟨vs, e, r⟩ := h; exact ⟨vs, e, RepK.mono k _ _ r⟩
  | dip xs => obtain ⟨vs, e, r⟩ := h; exact ⟨vs, e, RepP.mono k _ _ r⟩
  | ins c x =>
    obtain ⟨dx, fs, e, r⟩ := h
    refine ⟨dx, fs, e, ?_⟩
    cases x with
    | none => exact r
    | some y => obtain ⟨v, e2, r2⟩ := r; exact ⟨v, e2, RepD.mono k _ _ r2⟩
theorem Ext.k (C : Cls') (e : Ext ι ι' H H') : ∀ a o, a ∉ C.ban ++ ι → H a = some o → H' a = some o ∧ a ∉ C.ban ++ ι' := fun a o n h => by
  have n1 : a ∉ C.ban := fun z => n (List.mem_append_left _ z)
  have n2 : a ∉ ι := fun z => n (List.mem_append_right _ z)
  refine ⟨e.keep a o n2 h, fun z => ?_⟩
  rcases List.mem_append.mp z with z | z
  · exact n1 z
  · exact e.out n2 h z
theorem RepD.ext (e : Ext ι ι' H H') {x : D} {v : V} (h : RepD C ι H x v) : RepD C ι' H' x v := RepD.mono (e.k C) x v h
theorem RepL.ext (e : Ext ι ι' H H') {x : List D} {v : List V} (h : RepL C ι H x v) : RepL C ι' H' x v := RepL.mono (e.k C) x v h
theorem RepK.ext (e : Ext ι ι' H H') {x : List (Int × D)} {v : List (Key × V)} (h : RepK C ι H x v) : RepK C ι' H' x v := RepK.mono (e.k C) x v h
theorem RepU.ext (e : Ext ι ι' H H') {x : U} {v : V} (h : RepU C ι H x v) : RepU C ι' H' x v := by
  cases x with
  | d x => exact RepD.ext (x := x) e h
  | cell n => obtain ⟨a, h1, h2⟩ := h; exact ⟨a, e.get h1, h2⟩
theorem RepUs.ext (e : Ext ι ι' H H') : ∀ {xs : List U} {vs : List V}, RepUs C ι H xs vs → RepUs C ι' H' xs vs
  | [], vs, h => h
  | x :: xs, vs, h => by
    obtain ⟨v, ws, e1, r, rs⟩ := h
    exact ⟨v, ws, e1, r.ext e, RepUs.ext e rs⟩
theorem EnvR.ext (e : Ext ι ι' H H') {ρ : Env} {σ : St} (h : EnvR C ι H ρ σ) : EnvR C ι' H' ρ σ :=
  ⟨h.1, fun i u hu => let ⟨v, h1, h2⟩ := h.2 i u hu; ⟨v, h1, h2.ext e⟩⟩
/-- cells stay where the heap stays at them -/
theorem StM.alloc {m : Mem} (s : StM C ι H m) {p : Addr} {o : HO} (h : H p = none) : StM C ι (upd H p o) m := by
  refine ⟨s.len, s.nd, fun a ha => let ⟨u, hu⟩ := s.bn a ha; ⟨u, by rw [upd_ne (ne_of_none hu h)]; exact hu⟩, fun k o hk => ?_⟩
  obtain ⟨a, ho, h1, h2, h3⟩ := s.at_ k o hk
  exact ⟨a, ho, h1, by rw [upd_ne (ne_of_none h2 h)]; exact h2, RepO.mono ((Ext.alloc h).k C) h3⟩
theorem StM.inι {m : Mem} (s : StM C ι H m) {a : Addr} (h : a ∈ ι) : ∃ o, H a = some o := by
  obtain ⟨k, hk⟩ := List.getElem?_of_mem h
  have hl : k < m.length := by rw [← s.len]; exact (List.getElem?_eq_some_iff.mp hk).1
  obtain ⟨b, ho, h1, h2, _⟩ := s.at_ k m[k] (by simp [hl])
  rw [hk] at h1; cases h1
  exact ⟨ho, h2⟩
theorem StM.notin {m : Mem} (s : StM C ι H m) {p : Addr} (h : H p = none) : p ∉ C.ban ++ ι := fun hi => by
  have : ∃ o, H p = some o := by
    rcases List.mem_append.mp hi with z | z
    · exact s.bn p z
    · exact s.inι z
  obtain ⟨o, ho⟩ := this
  rw [h] at ho
  cases ho
theorem StM.new {m : Mem} (s : StM C ι H m) {p : Addr} {o : HO} {ob : Ob} (h : H p = none) (r : RepO C (ι ++ [p]) (upd H p o) ob o) : StM C (ι ++ [p]) (upd H p o) (m ++ [ob]) := by
  refine ⟨by simp [s.len], ?_, fun a ha => let ⟨v, hv⟩ := s.bn a ha; ⟨v, by rw [upd_ne (ne_of_none hv h)]; exact hv⟩, fun k u hk => ?_⟩
  · rw [List.nodup_append]
    refine ⟨s.nd, by simp, fun a ha b hb => ?_⟩
    rw [List.mem_singleton.mp hb]
    rintro rfl
    obtain ⟨o, ho⟩ := s.inι ha
    rw [h] at ho; cases ho
  · by_cases hl : k < m.length
    · rw [List.getElem?_append_left hl] at hk
      obtain ⟨a, ho, h1, h2, h3⟩ := s.at_ k u hk
      exact ⟨a, ho, (Ext.cell (o := o) h).get h1, by rw [upd_ne (ne_of_none h2 h)]; exact h2, RepO.mono ((Ext.cell h).k C) h3⟩
    · rw [List.getElem?_append_right (Nat.le_of_not_lt hl)] at hk
      have e : k = m.length := by
        have := (List.getElem?_eq_some_iff.mp hk).1
        simp at this; omega
      subst e
      simp at hk
      subst hk
      refine ⟨p, o, ?_, upd_same, r⟩
      rw [← s.len]; simp
theorem StM.write {m : Mem} (s : StM C ι H m) {n : Nat} {p : Addr} {o : HO} {ob : Ob} (h : ι[n]? = some p) (r : RepO C ι H ob o) : StM C ι (upd H p o) (m.set n ob) := by
  have hp : p ∈ ι := List.mem_of_getElem? h
  refine ⟨by simp [s.len], s.nd, fun a ha => ?_, fun k u hk => ?_⟩
  · obtain ⟨v, hv⟩ := s.bn a ha
    by_cases e : a = p
    · exact ⟨o, by rw [e]; exact upd_same⟩
    · exact ⟨v, by rw [upd_ne e]; exact hv⟩
  by_cases e : n = k
  · subst e
    have hl : n < m.length := by rw [← s.len]; exact (List.getElem?_eq_some_iff.mp h).1
    rw [List.getElem?_set_self hl] at hk
    cases hk
    exact ⟨p, o, h, upd_same, RepO.mono ((Ext.write hp).k C) r⟩
  · rw [List.getElem?_set_ne e] at hk
    obtain ⟨a, ho, h1, h2, h3⟩ := s.at_ k u hk
    refine ⟨a, ho, h1, ?_, RepO.mono ((Ext.write hp).k C) h3⟩
    rw [upd_ne ?_]; exact h2
    rintro rfl
    have l1 := List.getElem?_eq_some_iff.mp h
    have l2 := List.getElem?_eq_some_iff.mp h1
    exact e ((List.getElem_inj s.nd).mp (l1.2.trans l2.2.symm))
theorem RepL.length : ∀ {xs : List D} {vs : List V}, RepL C ι H xs vs → xs.length = vs.length
  | [], vs, h => by rw [h]; rfl
  | x :: xs, vs, h => by
    obtain ⟨v, ws, e, r, rs⟩ := h
    rw [e, List.length_cons, List.length_cons, RepL.length rs]
theorem RepL.get : ∀ {xs : List D} {vs : List V} {i : Nat} {x : D}, RepL C ι H xs vs → xs[i]? = some x → ∃ v, vs[i]? = some v ∧ RepD C ι H x v
  | [], vs, i, x, h, hx => by simp at hx
  | y :: xs, vs, i, x, h, hx => by
    obtain ⟨v, ws, e, r, rs⟩ := h
    subst e
    cases i with
    | zero => simp at hx; subst hx; exact ⟨v, by simp, r⟩
    | succ i => obtain ⟨v', h1, h2⟩ := RepL.get (i := i) rs (by simpa using hx); exact ⟨v', by simpa using h1, h2⟩
theorem RepL.append : ∀ {xs ys : List D} {vs ws : List V}, RepL C ι H xs vs → RepL C ι H ys ws → RepL C ι H (xs ++ ys) (vs ++ ws)
  | [], ys, vs, ws, h, g => by rw [h]; exact g
  | x :: xs, ys, vs, ws, h, g => by
    obtain ⟨v, us, e, r, rs⟩ := h
    subst e
    exact ⟨v, us ++ ws, rfl, r, RepL.append rs g⟩
theorem RepL.drop : ∀ {xs : List D} {vs : List V} (n : Nat), RepL C ι H xs vs → RepL C ι H (xs.drop n) (vs.drop n)
  | xs, vs, 0, h => h
  | [], vs, n + 1, h => by rw [h]; rfl
  | x :: xs, vs, n + 1, h => by
    obtain ⟨v, us, e, r, rs⟩ := h
    subst e
    exact RepL.drop n rs
theorem RepL.take : ∀ {xs : List D} {vs : List V} (n : Nat), RepL C ι H xs vs → RepL C ι H (xs.take n) (vs.take n)
  | xs, vs, 0, h => rfl
  | [], vs, n + 1, h => by rw [h]; rfl
  | x :: xs, vs, n + 1, h => by
    obtain ⟨v, us, e, r, rs⟩ := h
    subst e
    exact ⟨v, us.take n, rfl, r, RepL.take n rs⟩
theorem RepL.set {x : D} {v : V} (r : RepD C ι H x v) : ∀ {xs : List D} {vs : List V} (n : Nat), RepL C ι H xs vs → RepL C ι H (xs.set n x) (vs.set n v)
  | [], vs, n, h => by rw [h]; rfl
  | y :: xs, vs, 0, h => by
    obtain ⟨w, us, e, r', rs⟩ := h
    subst e
    exact ⟨v, us, rfl, r, rs⟩
  | y :: xs, vs, n + 1, h => by
    obtain ⟨w, us, e, r', rs⟩ := h
    subst e
    exact ⟨w, us.set n v, rfl, r', RepL.set r n rs⟩
theorem RepUs.length : ∀ {xs : List U} {vs : List V}, RepUs C ι H xs vs → xs.length = vs.length
  | [], vs, h => by rw [h]; rfl
  | x :: xs, vs, h => by
    obtain ⟨v, ws, e, r, rs⟩ := h
    rw [e, List.length_cons, List.length_cons, RepUs.length rs]
theorem RepUs.pures : ∀ {us : List U} {xs : List D} {vs : List V}, RepUs C ι H us vs → pures us = some xs → RepL C ι H xs vs
  | [], xs, vs, h, e => by cases e; exact h
  | .cell n :: us, xs, vs, h, e => by cases e
  | .d x :: us, xs, vs, h, e => by
    obtain ⟨v, ws, e1, r, rs⟩ := h
    cases q : DL.pures us with
    | none => simp [DL.pures, q] at e
    | some ys =>
      simp [DL.pures, q] at e
      subst e
      exact ⟨v, ws, e1, r, RepUs.pures rs q⟩
/-- a tuple laid -/
theorem rep_tup {p : Addr} {xs : List D} {vs : List V} {m : Mem} (s : StM C ι H m) (h : H p = none) (r : RepL C ι H xs vs) : RepD C ι (upd H p (.tup vs)) (.tup xs) (.ref p) :=
  ⟨p, vs, rfl, s.notin h, upd_same, r.ext (Ext.alloc h)⟩
theorem rep_lst {p : Addr} {xs : List D} {vs : List V} {m : Mem} (s : StM C ι H m) (h : H p = none) (r : RepL C ι H xs vs) : RepD C ι (upd H p (.lst vs)) (.lst xs) (.ref p) :=
  ⟨p, vs, rfl, s.notin h, upd_same, r.ext (Ext.alloc h)⟩
end
end DL
set_option linter.all false
set_option maxRecDepth 100000
set_option maxHeartbeats 1000000
namespace DL
open PySem PySem.Spec PyProof.Rows L2
theorem line : (sizeLine : Nat) = 16777216 := sizeLine_eq
mutual
def pyT : D → PyData
  | .non => .none
  | .bl b => .bool b
  | .int i => .int i
  | .str s => .str (str0 s)
  | .tup xs => .tuple (pyTs xs)
  | .lst xs => .list (pyTs xs)
  | .dic _ => .none
  | .ins _ _ => .none
  | .scr _ => .none
def pyTs : List D → List PyData
  | [] => []
  | x :: xs => pyT x :: pyTs xs
end
theorem str0_inj {s t : List Nat} : (str0 s == str0 t) = (s == t) := by
  rw [Bool.eq_iff_iff]
  simp [str0]
mutual
theorem eqv_pyT : ∀ x y : D, depD x < 1000 → depD y < 1000 → PyData.eqv (pyT x) (pyT y) = eqvD x y
  | .non, y, hx, hy => by cases y <;> first | (simp [depD] at hy; done) | simp [pyT, PyData.eqv, eqvD]
  | .bl a, y, hx, hy => by cases y <;> first | (simp [depD] at hy; done) | simp [pyT, PyData.eqv, eqvD]
  | .int a, y, hx, hy => by cases y <;> first | (simp [depD] at hy; done) | simp [pyT, PyData.eqv, eqvD]
  | .str a, y, hx, hy => by cases y <;> first | (simp [depD] at hy; done) | simp [pyT, PyData.eqv, eqvD, str0_inj]
  | .tup xs, y, hx, hy => by
    cases y with
    | tup ys => simp only [pyT, PyData.eqv, eqvD]; exact eqv_pyTs xs ys (by simp only [depD] at hx; omega) (by simp only [depD] at hy; omega)
    | _ => first | (simp [depD] at hy; done) | simp [pyT, PyData.eqv, eqvD]
  | .lst xs, y, hx, hy => by
    cases y with
    | lst ys => simp only [pyT, PyData.eqv, eqvD]; exact eqv_pyTs xs ys (by simp only [depD] at hx; omega) (by simp only [depD] at hy; omega)
    | _ => first | (simp [depD] at hy; done) | simp [pyT, PyData.eqv, eqvD]
  | .dic _, y, hx, hy => by simp [depD] at hx
  | .ins _ _, y, hx, hy => by simp [depD] at hx
  | .scr _, y, hx, hy => by simp [depD] at hx
theorem eqv_pyTs : ∀ xs ys : List D, depL xs < 1000 → depL ys < 1000 → PyData.eqvAll (pyTs xs) (pyTs ys) = eqvL xs ys
  | [], ys, hx, hy => by cases ys <;> simp [pyTs, PyData.eqvAll, eqvL]
  | x :: xs, [], hx, hy => by simp [pyTs, PyData.eqvAll, eqvL]
  | x :: xs, y :: ys, hx, hy => by
    simp only [depL] at hx hy
    simp only [pyTs, PyData.eqvAll, eqvL]
    rw [eqv_pyT x y (by omega) (by omega), eqv_pyTs xs ys (by omega) (by omega)]
end
mutual
theorem dep_pyT : ∀ x : D, depD x < 1000 → (pyT x).depth ≤ depD x ∧ (pyT x).canLay0 = true
  | .non, _ => by simp [pyT, PyData.depth, PyData.canLay0]
  | .bl _, _ => by simp [pyT, PyData.depth, PyData.canLay0]
  | .int _, _ => by simp [pyT, PyData.depth, PyData.canLay0]
  | .str s, h => by
    refine ⟨by simp [pyT, PyData.depth], ?_⟩
    have h1 : s.all (· < 128) = true := by
      cases q : s.all (· < 128) with
      | true => rfl
      | false => simp only [depD, q] at h; simp at h
    show PyData.strOk (str0 s) = true
    unfold PyData.strOk str0
    simp only [List.all_eq_true, decide_eq_true_eq] at h1
    simp only [List.all_toArray, List.all_eq_true, decide_eq_true_eq]
    exact fun c hc => Nat.lt_trans (h1 c hc) (by decide)
  | .tup xs, h => by
    simp only [depD] at h
    obtain ⟨h1, h2⟩ := dep_pyTs xs (by omega)
    simp only [pyT, PyData.depth, PyData.canLay0, depD]
    exact ⟨by omega, h2⟩
  | .lst xs, h => by
    simp only [depD] at h
    obtain ⟨h1, h2⟩ := dep_pyTs xs (by omega)
    simp only [pyT, PyData.depth, PyData.canLay0, depD]
    exact ⟨by omega, h2⟩
  | .dic _, h => by simp [depD] at h
  | .ins _ _, h => by simp [depD] at h
  | .scr _, h => by simp [depD] at h
theorem dep_pyTs : ∀ xs : List D, depL xs < 1000 → PyData.depthAll (pyTs xs) ≤ depL xs ∧ PyData.canLayAll0 (pyTs xs) = true
  | [], _ => by simp [pyTs, PyData.depthAll, PyData.canLayAll0]
  | x :: xs, h => by
    simp only [depL] at h
    obtain ⟨h1, h2⟩ := dep_pyT x (by omega)
    obtain ⟨h3, h4⟩ := dep_pyTs xs (by omega)
    simp only [pyTs, PyData.depthAll, PyData.canLayAll0, depL, h2, h4, Bool.and_self, and_true]
    omega
end
theorem shaped_pyT {x : D} (h : depD x ≤ 60) : SeqAt.shaped (pyT x) = true := by
  obtain ⟨h1, h2⟩ := dep_pyT x (by omega)
  show ((pyT x).canLay0 && decide ((pyT x).depth ≤ 64)) = true
  rw [h2, Bool.true_and]
  exact decide_eq_true (by omega)
section
variable {C : Cls'} {ι : List Addr} {H : Hp} {K : PySem.W.Frag}
mutual
theorem dp_of : ∀ (x : D) (v : V), depD x < 1000 → RepD C ι H x v → Dp K H v (pyT x)
  | .non, v, _, h => by cases h; exact .non
  | .bl b, v, _, h => by cases h; exact .bl b
  | .int i, v, _, h => by cases h; exact .int i
  | .str s, v, _, h => by cases h; exact .str _
  | .tup xs, v, hd, h => by
    obtain ⟨a, vs, rfl, n, ha, r⟩ := h
    simp only [depD] at hd
    exact .tup (SqT.of ha) (dp_all xs vs (by omega) r)
  | .lst xs, v, hd, h => by
    obtain ⟨a, vs, rfl, n, ha, r⟩ := h
    simp only [depD] at hd
    exact .lst (SqL.of ha) (dp_all xs vs (by omega) r)
  | .dic _, v, hd, h => by simp [depD] at hd
  | .ins _ _, v, hd, h => by simp [depD] at hd
  | .scr _, v, hd, h => by simp [depD] at hd
theorem dp_all : ∀ (xs : List D) (vs : List V), depL xs < 1000 → RepL C ι H xs vs → DpAll K H vs (pyTs xs)
  | [], vs, _, h => by rw [h]; exact .nil
  | x :: xs, vs, hd, h => by
    obtain ⟨v, ws, rfl, r, rs⟩ := h
    simp only [depL] at hd
    exact .cons (dp_of x v (by omega) r) (dp_all xs ws (by omega) rs)
end
/-- what a list is laid at -/
theorem lst_rep {m : Mem} (S : StM C ι H m) {u : U} {v : V} {xs : List D} (r : RepU C ι H u v) (h : lstO m u = some xs) : ∃ a vs, v = .ref a ∧ H a = some (.lst vs) ∧ RepL C ι H xs vs := by
  unfold lstO at h
  split at h
  · cases h
    obtain ⟨a, vs, e, n, ha, q⟩ := r
    exact ⟨a, vs, e, ha, q⟩
  · rename_i n
    obtain ⟨a, ha, e⟩ := r
    split at h
    · rename_i ys hm
      cases h
      obtain ⟨b, ho, h1, h2, vs, e2, q⟩ := S.at_ n _ hm
      rw [ha] at h1; cases h1
      exact ⟨a, vs, e, by rw [h2, e2], q⟩
    · cases h
  · cases h
theorem seq_rep {m : Mem} (S : StM C ι H m) {u : U} {v : V} {xs : List D} (r : RepU C ι H u v) (h : seqO m u = some xs) : ∃ a vs, v = .ref a ∧ (H a = some (.lst vs) ∨ H a = some (.tup vs)) ∧ RepL C ι H xs vs := by
  unfold seqO at h
  split at h
  · cases h
    obtain ⟨a, vs, e, n, ha, q⟩ := r
    exact ⟨a, vs, e, .inr ha, q⟩
  · cases h
    obtain ⟨a, vs, e, n, ha, q⟩ := r
    exact ⟨a, vs, e, .inl ha, q⟩
  · rename_i n
    obtain ⟨a, ha, e⟩ := r
    split at h
    · rename_i ys hm
      cases h
      obtain ⟨b, ho, h1, h2, vs, e2, q⟩ := S.at_ n _ hm
      rw [ha] at h1; cases h1
      exact ⟨a, vs, e, .inl (by rw [h2, e2]), q⟩
    · cases h
  · cases h
theorem dic_rep {m : Mem} (S : StM C ι H m) {u : U} {v : V} {xs : List (Int × D)} (r : RepU C ι H u v) (h : dicO m u = some xs) : ∃ a vs, v = .ref a ∧ H a = some (.dK vs) ∧ RepK C ι H xs vs := by
  unfold dicO at h
  split at h
  · cases h
    obtain ⟨a, vs, e, n, ha, q⟩ := r
    exact ⟨a, vs, e, ha, q⟩
  · rename_i n
    obtain ⟨a, ha, e⟩ := r
    split at h
    · rename_i ys hm
      cases h
      obtain ⟨b, ho, h1, h2, vs, e2, q⟩ := S.at_ n _ hm
      rw [ha] at h1; cases h1
      exact ⟨a, vs, e, by rw [h2, e2], q⟩
    · cases h
  · cases h
end
section
variable {X : Cx} (C : Cls')
/-- the wish behind an operation that lays new data at most -/
def Aft (ι : List Addr) (m : Mem) (H : Hp) (r : D) (Q : VK) : Prop := ∀ H' v, Ext ι ι H H' → StM C ι H' m → RepD C ι H' r v → Q v H'
variable {C}
theorem Aft.here {ι : List Addr} {m : Mem} {H : Hp} {r : D} {Q : VK} (q : Aft C ι m H r Q) (S : StM C ι H m) {v : V} (h : RepD C ι H r v) : Q v H := q H v Ext.refl S h
theorem Aft.tup {ι : List Addr} {m : Mem} {H : Hp} {xs : List D} {vs : List V} {Q : VK} (q : Aft C ι m H (.tup xs) Q) (S : StM C ι H m) (r : RepL C ι H xs vs) : ∀ p, H p = none → Q (.ref p) (upd H p (.tup vs)) :=
  fun p hp => q _ _ (Ext.alloc hp) (S.alloc hp) (rep_tup S hp r)
theorem Aft.lst {ι : List Addr} {m : Mem} {H : Hp} {xs : List D} {vs : List V} {Q : VK} (q : Aft C ι m H (.lst xs) Q) (S : StM C ι H m) (r : RepL C ι H xs vs) : ∀ p, H p = none → Q (.ref p) (upd H p (.lst vs)) :=
  fun p hp => q _ _ (Ext.alloc hp) (S.alloc hp) (rep_lst S hp r)
variable (C)
def rBin (op : Bop) : R2 := fun x y H Q => ∃ ι m a b r, StM C ι H m ∧ RepU C ι H a x ∧ RepU C ι H b y ∧ binD m op a b = some r ∧ Aft C ι m H r Q
def opB : Bop → Operator
  | .add => .Add
  | .sub => .Sub
  | .mul => .Mult
  | .fdiv => .FloorDiv
  | .mod => .Mod
  | .pow => .Pow
theorem str0_app (s t : List Nat) : str0 (s ++ t) = str0 s ++ str0 t := by
  show (⟨(s ++ t).toArray⟩ : Str) = ⟨s.toArray ++ t.toArray⟩
  simp
theorem str0_len (s : List Nat) : (str0 s).length = s.length := by simp [str0, Str.length]
theorem op_addD : OpR X (binaryOp .Add) (rBin C .add) := by
  intro pins s σ H x y v u Q I rx ry ⟨ι, m, a, b, r, S, ra, rb, e, q⟩
  have e : addD m a b = some r := e
  unfold addD at e
  split at e
  · cases e; cases ra; cases rb
    exact op_add pins s σ H _ _ v u Q I rx ry ⟨_, _, rfl, rfl, q.here S rfl⟩
  · split at e
    · rename_i hl
      cases e; cases ra; cases rb
      exact op_add_str pins s σ H _ _ v u Q I rx ry ⟨_, _, rfl, rfl, by rw [str0_len, str0_len, line]; exact hl, by rw [← str0_app]; exact q.here S rfl⟩
    · cases e
  · split at e
    · rename_i hl
      cases e
      obtain ⟨a, vs, rfl, na, ha, r1⟩ := ra
      obtain ⟨b, ws, rfl, nb, hb, r2⟩ := rb
      have l1 := r1.length
      have l2 := r2.length
      refine op_catA pins s σ H _ _ v u Q I rx ry ⟨a, b, vs, ws, rfl, rfl, SqT.of ha, SqT.of hb, by rw [line]; omega, fun z => ?_, fun z1 z2 => ?_, fun _ _ => q.tup S (r1.append r2)⟩
      · refine q.here S ⟨b, ws, rfl, nb, hb, ?_⟩
        have := r1.append r2
        rw [z, List.nil_append] at this; exact this
      · refine q.here S ⟨a, vs, rfl, na, ha, ?_⟩
        have := r1.append r2
        rw [z2, List.append_nil] at this; exact this
    · cases e
  · split at e
    · rename_i xs ys h1 h2
      split at e
      · rename_i hl
        cases e
        obtain ⟨p, vs, rfl, hp, r1⟩ := lst_rep S ra h1
        obtain ⟨p2, ws, rfl, hp2, r2⟩ := lst_rep S rb h2
        have l1 := r1.length
        have l2 := r2.length
        exact op_cat pins s σ H _ _ v u Q I rx ry ⟨p, p2, vs, ws, rfl, rfl, hp, hp2, by rw [line]; omega, q.lst S (r1.append r2)⟩
      · cases e
    · cases e
theorem RepL.rep {ι : List Addr} {H : Hp} {xs : List D} {vs : List V} (r : RepL C ι H xs vs) : ∀ n, RepL C ι H (List.replicate n xs).flatten (List.replicate n vs).flatten
  | 0 => rfl
  | n + 1 => by
    simp only [List.replicate_succ, List.flatten_cons]
    exact r.append (RepL.rep r n)
theorem op_mulD : OpR X (binaryOp .Mult) (rBin C .mul) := by
  intro pins s σ H x y v u Q I rx ry ⟨ι, m, a, b, r, S, ra, rb, e, q⟩
  have e : mulD m a b = some r := e
  unfold mulD at e
  split at e
  · split at e
    · rename_i i j e0 hm
      cases e; cases ra; cases rb
      rcases hm with hm | ⟨h1, h2⟩
      · refine op_mul pins s σ H _ _ v u Q I rx ry ⟨i, j, rfl, rfl, ?_, q.here S rfl⟩
        have e64 : (2 : Int) ^ 64 = ((2 ^ 64 : Nat) : Int) := by decide
        unfold CMul
        rcases hm with hm | hm
        · left; omega
        · right; omega
      · exact op_mulW pins s σ H _ _ v u Q I rx ry ⟨i, j, rfl, rfl, wide_mul h1 h2 (by decide) (by decide) (by decide), q.here S rfl⟩
    · cases e
  · split at e
    · rename_i k _ e0 xs h1
      split at e
      · rename_i hk
        cases e; cases rb
        obtain ⟨p, vs, rfl, hp, r1⟩ := lst_rep S ra h1
        have l1 := r1.length
        refine op_rep pins s σ H _ _ v u Q I rx ry ⟨p, _, vs, rfl, rfl, hp, ?_, ?_, by rw [line, ← l1]; exact hk.2, ?_⟩
        · have := hk.1; omega
        · have := hk.1; omega
        · exact q.lst S (RepL.rep C r1 _)
      · cases e
    · cases e
  · cases e
theorem op_subD : OpR X (binaryOp .Sub) (rBin C .sub) := by
  intro pins s σ H x y v u Q I rx ry ⟨ι, m, a, b, r, S, ra, rb, e, q⟩
  unfold binD at e
  simp only at e
  split at e
  · cases e; cases ra; cases rb
    exact op_sub pins s σ H _ _ v u Q I rx ry ⟨_, _, rfl, rfl, q.here S rfl⟩
  · cases e
theorem op_fdivD : OpR X (binaryOp .FloorDiv) (rBin C .fdiv) := by
  intro pins s σ H x y v u Q I rx ry ⟨ι, m, a, b, r, S, ra, rb, e, q⟩
  unfold binD at e
  simp only at e
  split at e
  · split at e
    · rename_i i j hd
      cases e; cases ra; cases rb
      exact op_fdivW pins s σ H _ _ v u Q I rx ry ⟨i, j, rfl, rfl, wide_div hd.1 hd.2 (by decide) (by decide), q.here S rfl⟩
    · cases e
  · cases e
theorem op_modD : OpR X (binaryOp .Mod) (rBin C .mod) := by
  intro pins s σ H x y v u Q I rx ry ⟨ι, m, a, b, r, S, ra, rb, e, q⟩
  unfold binD at e
  simp only at e
  split at e
  · split at e
    · rename_i i j hd
      cases e; cases ra; cases rb
      exact op_mod pins s σ H _ _ v u Q I rx ry ⟨i, j, rfl, rfl, hd, q.here S rfl⟩
    · cases e
  · cases e
theorem op_powD : OpR X (binaryOp .Pow) (rBin C .pow) := by
  intro pins s σ H x y v u Q I rx ry ⟨ι, m, a, b, r, S, ra, rb, e, q⟩
  unfold binD at e
  simp only at e
  split at e
  · split at e
    · rename_i i j hd
      cases e; cases ra; cases rb
      exact op_pow pins s σ H _ _ v u Q I rx ry ⟨i, j, rfl, rfl, hd, q.here S rfl⟩
    · cases e
  · cases e
theorem op_bin (op : Bop) : OpR X (binaryOp (opB op)) (rBin C op) := by
  cases op
  · exact op_addD C
  · exact op_subD C
  · exact op_mulD C
  · exact op_fdivD C
  · exact op_modD C
  · exact op_powD C
end
section
variable {X : Cx} (C : Cls')
def rCmp (op : Cop) : R2 := fun x y H Q => ∃ ι m a b r, StM C ι H m ∧ RepU C ι H a x ∧ RepU C ι H b y ∧ cmpD m op a b = some r ∧ Q (.bl r) H
def opC : Cop → CmpOp
  | .eq => .Eq
  | .ne => .NotEq
  | .lt => .Lt
  | .le => .LtE
  | .gt => .Gt
  | .ge => .GtE
  | .isin => .In
  | .notin => .NotIn
  | .is => .Is
  | .isnot => .IsNot
theorem dpU {ι : List Addr} {H : Hp} {m : Mem} {K : PySem.W.Frag} (S : StM C ι H m) {u : U} {v : V} {xs : List D} (r : RepU C ι H u v) (h : lstO m u = some xs) (hd : depL xs < 60) : Dp K H v (pyT (.lst xs)) := by
  obtain ⟨a, vs, rfl, ha, q⟩ := lst_rep S r h
  exact .lst (SqL.of ha) (dp_all xs vs (by omega) q)
theorem dec_i (i j : Int) : decide (V.int i = V.int j) = (i == j) := dec_int
theorem dec_s (s t : List Nat) : decide (V.str (str0 s) = V.str (str0 t)) = (s == t) := by rw [dec_str, str0_inj]
/-- what == of two values rests on: scalars, or data -/
theorem eqD_cases {ι : List Addr} {H : Hp} {m : Mem} {K : PySem.W.Frag} {a b : U} {x y : V} {r : Bool} (S : StM C ι H m) (ra : RepU C ι H a x) (rb : RepU C ι H b y) (e : eqD m a b = some r) :
    (scal x y = true ∧ decide (x = y) = r) ∨ ∃ d f, Dp K H x d ∧ Dp K H y f ∧ SeqAt.shaped d = true ∧ SeqAt.shaped f = true ∧ PyData.eqv d f = r := by
  unfold eqD at e
  split at e
  · cases e; cases ra; cases rb; exact .inl ⟨rfl, dec_i _ _⟩
  · cases e; cases ra; cases rb; exact .inl ⟨rfl, dec_s _ _⟩
  · cases e; cases ra; cases rb; exact .inl ⟨rfl, by simp⟩
  · cases e; cases ra; cases rb; exact .inl ⟨rfl, by simp⟩
  · cases e; cases ra; cases rb; exact .inl ⟨rfl, by simp⟩
  · cases e; cases ra; cases rb; exact .inl ⟨rfl, by simp⟩
  · cases e; cases ra; cases rb; exact .inl ⟨rfl, by simp⟩
  · cases e; cases ra; cases rb; exact .inl ⟨rfl, by simp⟩
  · cases e; cases ra; cases rb; exact .inl ⟨rfl, by simp⟩
  · rename_i p q _ _ _ _ _ _ _ _ _
    split at e
    · rename_i hd
      cases e
      exact .inr ⟨pyT p, pyT q, dp_of p x (by omega) ra, dp_of q y (by omega) rb, shaped_pyT hd.1, shaped_pyT hd.2, eqv_pyT p q (by omega) (by omega)⟩
    · cases e
  · split at e
    · rename_i xs ys h1 h2
      split at e
      · rename_i hd
        cases e
        refine .inr ⟨pyT (.lst xs), pyT (.lst ys), dpU C S ra h1 hd.1, dpU C S rb h2 hd.2, shaped_pyT ?_, shaped_pyT ?_, ?_⟩
        · simp only [depD]; omega
        · simp only [depD]; omega
        · rw [eqv_pyT _ _ (by simp only [depD]; omega) (by simp only [depD]; omega)]; rfl
      · cases e
    · cases e
theorem op_eqU (hu : X.A.units + 64 < cLine) : OpR X (compareOp .Eq) (rCmp C .eq) := by
  intro pins s σ H x y v u Q I rx ry ⟨ι, m, a, b, r, S, ra, rb, e, q⟩
  rcases eqD_cases C (K := X.K) S ra rb e with ⟨h1, h2⟩ | ⟨d, f, h1, h2, h3, h4, h5⟩
  · exact op_eq pins s σ H x y v u Q I rx ry ⟨h1, by rw [h2]; exact q⟩
  · exact op_eqD hu pins s σ H x y v u Q I rx ry ⟨d, f, h1, h2, h3, h4, by rw [h5]; exact q⟩
theorem op_neU (hu : X.A.units + 64 < cLine) : OpR X (compareOp .NotEq) (rCmp C .ne) := by
  intro pins s σ H x y v u Q I rx ry ⟨ι, m, a, b, r, S, ra, rb, e, q⟩
  have e : (eqD m a b).map (!·) = some r := e
  cases e1 : eqD m a b with
  | none => rw [e1] at e; cases e
  | some r' =>
    rw [e1] at e
    have e' : (!r') = r := Option.some.inj e
    rcases eqD_cases C (K := X.K) S ra rb e1 with ⟨h1, h2⟩ | ⟨d, f, h1, h2, h3, h4, h5⟩
    · exact op_ne pins s σ H x y v u Q I rx ry ⟨h1, by rw [h2, e']; exact q⟩
    · exact op_neD hu pins s σ H x y v u Q I rx ry ⟨d, f, h1, h2, h3, h4, by rw [h5, e']; exact q⟩
theorem op_ordU (op : Cop) (h : op = .lt ∨ op = .le ∨ op = .gt ∨ op = .ge) : OpR X (compareOp (opC op)) (rCmp C op) := by
  intro pins s σ H x y v u Q I rx ry ⟨ι, m, a, b, r, S, ra, rb, e, q⟩
  unfold cmpD at e
  rcases h with rfl | rfl | rfl | rfl
  · simp only at e
    split at e
    · cases e; cases ra; cases rb
      exact op_lt pins s σ H _ _ v u Q I rx ry ⟨_, _, rfl, rfl, q⟩
    · cases e
  · simp only at e
    split at e
    · cases e; cases ra; cases rb
      exact op_le pins s σ H _ _ v u Q I rx ry ⟨_, _, rfl, rfl, q⟩
    · cases e
  · simp only at e
    split at e
    · cases e; cases ra; cases rb
      exact op_gt pins s σ H _ _ v u Q I rx ry ⟨_, _, rfl, rfl, q⟩
    · cases e
  · simp only at e
    split at e
    · cases e; cases ra; cases rb
      exact op_ge pins s σ H _ _ v u Q I rx ry ⟨_, _, rfl, rfl, q⟩
    · cases e
theorem repD_non {ι : List Addr} {H : Hp} {a : U} {x : V} (ra : RepU C ι H a x) : decide (x = .non) = (match a with | .d .non => true | _ => false) := by
  cases a with
  | cell n => obtain ⟨p, _, rfl⟩ := ra; simp
  | d a =>
    cases a with
    | non => cases ra; simp
    | bl b => cases ra; simp
    | int b => cases ra; simp
    | str b => cases ra; simp
    | tup b => obtain ⟨p, _, rfl, _⟩ := ra; simp
    | lst b => obtain ⟨p, _, rfl, _⟩ := ra; simp
    | dic b => obtain ⟨p, _, rfl, _⟩ := ra; simp
    | ins c b => obtain ⟨p, _, _, rfl, _⟩ := ra; simp
    | scr ns => obtain ⟨p, rfl, _⟩ := ra; simp
theorem isD_cases {ι : List Addr} {H : Hp} {a b : U} {x y : V} {r : Bool} (ra : RepU C ι H a x) (rb : RepU C ι H b y) (e : isD a b = some r) :
    (y = .non ∧ decide (x = .non) = r) ∨ ∃ p q, x = .bl p ∧ y = .bl q ∧ decide (p = q) = r := by
  unfold isD at e
  split at e
  · cases e; cases ra; cases rb; exact .inl ⟨rfl, by simp⟩
  · cases e; cases ra; cases rb; exact .inr ⟨_, _, rfl, rfl, by rw [Bool.eq_iff_iff]; simp⟩
  · rename_i hn
    cases e
    refine .inl ⟨rb, ?_⟩
    rw [repD_non C ra]
    split
    · exact absurd rfl (hn ·)
    · rfl
  · cases e
theorem op_isU : OpR X (compareOp .Is) (rCmp C .is) := by
  intro pins s σ H x y v u Q I rx ry ⟨ι, m, a, b, r, S, ra, rb, e, q⟩
  rcases isD_cases C ra rb e with ⟨h1, h2⟩ | ⟨p, p', h1, h2, h3⟩
  · exact op_isN pins s σ H x y v u Q I rx ry ⟨h1, by rw [h2]; exact q⟩
  · exact op_isBl pins s σ H x y v u Q I rx ry ⟨p, p', h1, h2, by rw [h3]; exact q⟩
theorem op_isnotU : OpR X (compareOp .IsNot) (rCmp C .isnot) := by
  intro pins s σ H x y v u Q I rx ry ⟨ι, m, a, b, r, S, ra, rb, e, q⟩
  have e : (isD a b).map (!·) = some r := e
  cases e1 : isD a b with
  | none => rw [e1] at e; cases e
  | some r' =>
    rw [e1] at e
    have e' : (!r') = r := Option.some.inj e
    rcases isD_cases C ra rb e1 with ⟨h1, h2⟩ | ⟨p, p', h1, h2, h3⟩
    · exact op_notN pins s σ H x y v u Q I rx ry ⟨h1, by rw [h2, e']; exact q⟩
    · exact op_notBl pins s σ H x y v u Q I rx ry ⟨p, p', h1, h2, by rw [h3, e']; exact q⟩
theorem any_eqv {x : D} (hx : depD x < 1000) : ∀ ys : List D, depL ys < 1000 → (pyTs ys).any (fun z => PyData.eqv z (pyT x)) = anyIn x ys
  | [], _ => rfl
  | y :: ys, h => by
    simp only [depL] at h
    simp only [pyTs, List.any_cons, anyIn]
    rw [eqv_pyT y x (by omega) hx, any_eqv hx ys (by omega)]
theorem mem_str0 (c : Nat) (t : List Nat) : decide (c ∈ (str0 t).cps.toList) = decide (c ∈ t) := by
  exact decide_eq_decide.mpr (by simp [str0])
/-- in, by cases -/
theorem inD_cases {ι : List Addr} {H : Hp} {m : Mem} {K : PySem.W.Frag} {a b : U} {x y : V} {r : Bool} (S : StM C ι H m) (ra : RepU C ι H a x) (rb : RepU C ι H b y) (e : inD m a b = some r) :
    (∃ (c : Nat) (t : List Nat), x = .str ⟨#[c]⟩ ∧ y = .str (str0 t) ∧ decide (c ∈ t) = r) ∨
    ∃ (d : D) (ys : List D) (p : Addr) (vs : List V), depD d ≤ 60 ∧ depL ys < 60 ∧ Dp K H x (pyT d) ∧ y = .ref p ∧ (H p = some (.lst vs) ∨ H p = some (.tup vs)) ∧ DpAll K H vs (pyTs ys) ∧ anyIn d ys = r := by
  cases a with
  | cell n => cases e
  | d d =>
    unfold inD at e
    simp only at e
    split at e
    · split at e
      · cases e; cases ra; cases rb; exact .inl ⟨_, _, rfl, rfl, rfl⟩
      · cases e
    · split at e
      · rename_i ys h1
        split at e
        · rename_i hd
          cases e
          obtain ⟨p, vs, rfl, hp, q⟩ := seq_rep S rb h1
          exact .inr ⟨d, ys, p, vs, hd.1, hd.2, dp_of d x (by omega) ra, rfl, hp, dp_all ys vs (by omega) q, rfl⟩
        · cases e
      · cases e
theorem op_inU (hu : X.A.units + 65 < cLine) : OpR X (compareOp .In) (rCmp C .isin) := by
  intro pins s σ H x y v u Q I rx ry ⟨ι, m, a, b, r, S, ra, rb, e, q⟩
  rcases inD_cases C (K := X.K) S ra rb e with ⟨c, t, h1, h2, h3⟩ | ⟨d, ys, p, vs, hd, hl, h1, rfl, hp, h2, h3⟩
  · exact op_in_sign pins s σ H x y v u Q I rx ry ⟨c, str0 t, h1, h2, by rw [mem_str0]; rw [h3]; exact q⟩
  · have sx := shaped_pyT hd
    have cx := SeqAt.canLay_of_shaped sx
    have cy := (dep_pyTs ys (by omega)).2
    obtain ⟨as, r1⟩ := Dp.reads I _ x v h1 rx
    have fin : EP X pins σ Q (.bool ((pyTs ys).any fun z => PyData.eqv z (pyT d))) s := ⟨.bl _, H, I, rfl, by rw [any_eqv (by omega) ys (by omega), h3]; exact q⟩
    rcases hp with hp | hp
    · obtain ⟨bs, r2⟩ := Dp.reads I (.list (pyTs ys)) _ u (.lst (SqL.of hp) h2) ry
      exact SeqAt.in_list_reads r2 r1 (by simpa [PyData.canLay0] using cy) cx (room_in_shaped sx hu) fin
    · obtain ⟨bs, r2⟩ := Dp.reads I (.tuple (pyTs ys)) _ u (.tup (SqT.of hp) h2) ry
      exact SeqAt.in_tuple_reads r2 r1 (by simpa [PyData.canLay0] using cy) cx (room_in_shaped sx hu) fin
theorem op_notinU (hu : X.A.units + 65 < cLine) : OpR X (compareOp .NotIn) (rCmp C .notin) := by
  intro pins s σ H x y v u Q I rx ry ⟨ι, m, a, b, r, S, ra, rb, e, q⟩
  have e : (inD m a b).map (!·) = some r := e
  cases e1 : inD m a b with
  | none => rw [e1] at e; cases e
  | some r' =>
    rw [e1] at e
    have e' : (!r') = r := Option.some.inj e
    subst e'
    rcases inD_cases C (K := X.K) S ra rb e1 with ⟨c, t, h1, h2, h3⟩ | ⟨d, ys, p, vs, hd, hl, h1, rfl, hp, h2, h3⟩
    · exact op_notIn_sign pins s σ H x y v u Q I rx ry ⟨c, str0 t, h1, h2, by rw [mem_str0]; rw [h3]; exact q⟩
    · have sx := shaped_pyT hd
      have cx := SeqAt.canLay_of_shaped sx
      have cy := (dep_pyTs ys (by omega)).2
      obtain ⟨as, r1⟩ := Dp.reads I _ x v h1 rx
      have fin : EP X pins σ Q (.bool (!(pyTs ys).any fun z => PyData.eqv z (pyT d))) s := ⟨.bl _, H, I, rfl, by rw [any_eqv (by omega) ys (by omega), h3]; exact q⟩
      rcases hp with hp | hp
      · obtain ⟨bs, r2⟩ := Dp.reads I (.list (pyTs ys)) _ u (.lst (SqL.of hp) h2) ry
        exact SeqAt.notIn_list_reads r2 r1 (by simpa [PyData.canLay0] using cy) cx (room_in_shaped sx hu) fin
      · obtain ⟨bs, r2⟩ := Dp.reads I (.tuple (pyTs ys)) _ u (.tup (SqT.of hp) h2) ry
        exact SeqAt.notIn_tuple_reads r2 r1 (by simpa [PyData.canLay0] using cy) cx (room_in_shaped sx hu) fin
theorem op_cmp (hu : X.A.units + 65 < cLine) (op : Cop) : OpR X (compareOp (opC op)) (rCmp C op) := by
  have hu' : X.A.units + 64 < cLine := by omega
  cases op
  · exact op_eqU C hu'
  · exact op_neU C hu'
  · exact op_ordU C _ (.inl rfl)
  · exact op_ordU C _ (.inr (.inl rfl))
  · exact op_ordU C _ (.inr (.inr (.inl rfl)))
  · exact op_ordU C _ (.inr (.inr (.inr rfl)))
  · exact op_inU C hu
  · exact op_notinU C hu
  · exact op_isU C
  · exact op_isnotU C
end
end DL
set_option linter.all false
set_option maxRecDepth 100000
set_option maxHeartbeats 1000000
namespace DL
open PySem PySem.Spec PyProof.Rows L2
section
variable {C : Cls'} {ι : List Addr} {H : Hp}
theorem inl_eq {a b : Int} : ((Sum.inl a : Key) = Sum.inl b) ↔ a = b := ⟨fun e => Sum.inl.inj e, fun e => by rw [e]⟩
theorem repK_look : ∀ {ks : List (Int × D)} {kvs : List (Key × V)} (k : Int), RepK C ι H ks kvs →
    (lookK ks k = none ∧ valV kvs (Sum.inl k : Key) = none) ∨ ∃ x v, lookK ks k = some x ∧ valV kvs (Sum.inl k : Key) = some v ∧ RepD C ι H x v
  | [], kvs, k, h => by rw [h]; exact .inl ⟨rfl, rfl⟩
  | (i, x) :: ks, kvs, k, h => by
    obtain ⟨v, ws, rfl, r, rs⟩ := h
    by_cases e : i = k
    · exact .inr ⟨x, v, by simp [lookK, e], valV_pos (p := (Sum.inl i, v)) (inl_eq.mpr e), r⟩
    · have e' : ¬ ((Sum.inl i : Key), v).1 = Sum.inl k := fun z => e (inl_eq.mp z)
      rw [valV_neg e']
      simp only [lookK, e, if_false]
      exact repK_look k rs
theorem repK_has : ∀ {ks : List (Int × D)} {kvs : List (Key × V)} (k : Int), RepK C ι H ks kvs → (kvs.any fun kv => decide (kv.1 = Sum.inl k)) = hasK ks k
  | [], kvs, k, h => by rw [h]; rfl
  | (i, x) :: ks, kvs, k, h => by
    obtain ⟨v, ws, rfl, r, rs⟩ := h
    have ih := repK_has k rs
    unfold hasK at ih ⊢
    rw [List.any_cons, List.any_cons, ih]
    have e : decide ((Sum.inl i : Key) = Sum.inl k) = decide (i = k) := decide_eq_decide.mpr inl_eq
    simp only [e]
theorem repK_map {x : D} {v : V} (r : RepD C ι H x v) (k : Int) : ∀ {ks : List (Int × D)} {kvs : List (Key × V)}, RepK C ι H ks kvs →
    RepK C ι H (ks.map fun p => if p.1 = k then (p.1, x) else p) (kvs.map fun kv => if kv.1 = Sum.inl k then (kv.1, v) else kv)
  | [], kvs, h => by rw [h]; rfl
  | (i, y) :: ks, kvs, h => by
    obtain ⟨w, ws, rfl, ry, rs⟩ := h
    have ih := repK_map r k rs
    by_cases e : i = k
    · simp only [List.map_cons, e, if_true]
      exact ⟨v, _, rfl, r, ih⟩
    · have e' : ¬ (Sum.inl i : Key) = Sum.inl k := fun z => e (inl_eq.mp z)
      simp only [List.map_cons, e, e', if_false]
      exact ⟨w, _, rfl, ry, ih⟩
theorem repK_snoc {x : D} {v : V} (r : RepD C ι H x v) (k : Int) : ∀ {ks : List (Int × D)} {kvs : List (Key × V)}, RepK C ι H ks kvs → RepK C ι H (ks ++ [(k, x)]) (kvs ++ [(Sum.inl k, v)])
  | [], kvs, h => by rw [h]; exact ⟨v, [], rfl, r, rfl⟩
  | (i, y) :: ks, kvs, h => by
    obtain ⟨w, ws, rfl, ry, rs⟩ := h
    exact ⟨w, _, rfl, ry, repK_snoc r k rs⟩
theorem repK_put {ks : List (Int × D)} {kvs : List (Key × V)} {x : D} {v : V} (k : Int) (h : RepK C ι H ks kvs) (r : RepD C ι H x v) : RepK C ι H (DL.putK ks k x) (L2.putK kvs (Sum.inl k) v) := by
  unfold DL.putK L2.putK
  rw [repK_has k h]
  by_cases e : hasK ks k = true
  · rw [if_pos e, if_pos e]; exact repK_map r k h
  · rw [if_neg e, if_neg e]; exact repK_snoc r k h
theorem repK_length : ∀ {ks : List (Int × D)} {kvs : List (Key × V)}, RepK C ι H ks kvs → ks.length = kvs.length
  | [], kvs, h => by rw [h]; rfl
  | p :: ks, kvs, h => by
    obtain ⟨v, ws, rfl, r, rs⟩ := h
    rw [List.length_cons, List.length_cons, repK_length rs]
def kk (p : Int × Int) : List Key := [.inl p.1, .inl p.2]
theorem kk_eq {a b : Int × Int} : kk a = kk b ↔ a = b := by
  constructor
  · intro e
    have h : a.1 = b.1 ∧ a.2 = b.2 := by
      unfold kk at e
      injection e with e1 e2
      injection e2 with e3 _
      exact ⟨Sum.inl.inj e1, Sum.inl.inj e3⟩
    exact Prod.ext h.1 h.2
  · intro e; rw [e]
theorem repP_look : ∀ {ks : List ((Int × Int) × D)} {kvs : List (List Key × V)} (k : Int × Int), RepP C ι H ks kvs →
    (lookK ks k = none ∧ valV kvs (kk k) = none) ∨ ∃ x v, lookK ks k = some x ∧ valV kvs (kk k) = some v ∧ RepD C ι H x v
  | [], kvs, k, h => by rw [h]; exact .inl ⟨rfl, rfl⟩
  | (i, x) :: ks, kvs, k, h => by
    obtain ⟨v, ws, rfl, r, rs⟩ := h
    by_cases e : i = k
    · exact .inr ⟨x, v, by simp [lookK, e], valV_pos (p := (kk i, v)) (kk_eq.mpr e), r⟩
    · have e' : ¬ (kk i, v).1 = kk k := fun z => e (kk_eq.mp z)
      show (lookK ((i, x) :: ks) k = none ∧ valV ((kk i, v) :: ws) (kk k) = none) ∨ ∃ y z, lookK ((i, x) :: ks) k = some y ∧ valV ((kk i, v) :: ws) (kk k) = some z ∧ RepD C ι H y z
      rw [valV_neg e']
      simp only [lookK, e, if_false]
      exact repP_look k rs
theorem repP_has : ∀ {ks : List ((Int × Int) × D)} {kvs : List (List Key × V)} (k : Int × Int), RepP C ι H ks kvs → (kvs.any fun kv => decide (kv.1 = kk k)) = hasK ks k
  | [], kvs, k, h => by rw [h]; rfl
  | (i, x) :: ks, kvs, k, h => by
    obtain ⟨v, ws, rfl, r, rs⟩ := h
    have ih := repP_has k rs
    unfold hasK at ih ⊢
    rw [List.any_cons, List.any_cons, ih]
    have e : decide (kk i = kk k) = decide (i = k) := decide_eq_decide.mpr kk_eq
    show (decide (kk i = kk k) || _) = _
    simp only [e]
theorem repP_map {x : D} {v : V} (r : RepD C ι H x v) (k : Int × Int) : ∀ {ks : List ((Int × Int) × D)} {kvs : List (List Key × V)}, RepP C ι H ks kvs →
    RepP C ι H (ks.map fun p => if p.1 = k then (p.1, x) else p) (kvs.map fun kv => if kv.1 = kk k then (kv.1, v) else kv)
  | [], kvs, h => by rw [h]; rfl
  | (i, y) :: ks, kvs, h => by
    obtain ⟨w, ws, rfl, ry, rs⟩ := h
    have ih := repP_map r k rs
    by_cases e : i = k
    · subst e
      refine ⟨v, ws.map (fun kv => if kv.1 = kk i then (kv.1, v) else kv), ?_, ?_, ?_⟩
      · show (if kk i = kk i then (kk i, v) else (kk i, w)) :: _ = _
        rw [if_pos rfl]; simp only [if_true]; rfl
      · simp only [if_true]; exact r
      · exact ih
    · have e' : ¬ kk i = kk k := fun z => e (kk_eq.mp z)
      refine ⟨w, ws.map (fun kv => if kv.1 = kk k then (kv.1, v) else kv), ?_, ?_, ?_⟩
      · show (if kk i = kk k then (kk i, v) else (kk i, w)) :: _ = _
        rw [if_neg e']; simp only [e, if_false]; rfl
      · simp only [e, if_false]; exact ry
      · exact ih
theorem repP_snoc {x : D} {v : V} (r : RepD C ι H x v) (k : Int × Int) : ∀ {ks : List ((Int × Int) × D)} {kvs : List (List Key × V)}, RepP C ι H ks kvs → RepP C ι H (ks ++ [(k, x)]) (kvs ++ [(kk k, v)])
  | [], kvs, h => by rw [h]; exact ⟨v, [], rfl, r, rfl⟩
  | (i, y) :: ks, kvs, h => by
    obtain ⟨w, ws, rfl, ry, rs⟩ := h
    exact ⟨w, _, rfl, ry, repP_snoc r k rs⟩
theorem repP_put {ks : List ((Int × Int) × D)} {kvs : List (List Key × V)} {x : D} {v : V} (k : Int × Int) (h : RepP C ι H ks kvs) (r : RepD C ι H x v) : RepP C ι H (DL.putK ks k x) (L2.putK kvs (kk k) v) := by
  unfold DL.putK L2.putK
  rw [repP_has k h]
  by_cases e : hasK ks k = true
  · rw [if_pos e, if_pos e]; exact repP_map r k h
  · rw [if_neg e, if_neg e]; exact repP_snoc r k h
theorem repP_length : ∀ {ks : List ((Int × Int) × D)} {kvs : List (List Key × V)}, RepP C ι H ks kvs → ks.length = kvs.length
  | [], kvs, h => by rw [h]; rfl
  | p :: ks, kvs, h => by
    obtain ⟨v, ws, rfl, r, rs⟩ := h
    rw [List.length_cons, List.length_cons, repP_length rs]
end
theorem perm_same {α : Type} {le : α → α → Prop} (anti : ∀ a b, le a b → le b a → a = b) : ∀ {l1 l2 : List α}, l1.Perm l2 → l1.Pairwise le → l2.Pairwise le → l1 = l2
  | [], l2, p, _, _ => by rw [List.nil_perm.mp p]
  | a :: r, [], p, _, _ => by cases (List.perm_nil.mp p)
  | a :: r, b :: t, p, h1, h2 => by
    have e : a = b := by
      have ha : a ∈ b :: t := p.mem_iff.mp List.mem_cons_self
      have hb : b ∈ a :: r := p.mem_iff.mpr List.mem_cons_self
      rcases List.mem_cons.mp ha with z | z
      · exact z
      · rcases List.mem_cons.mp hb with y | y
        · exact y.symm
        · exact anti a b (List.rel_of_pairwise_cons h1 y) (List.rel_of_pairwise_cons h2 z)
    subst e
    rw [perm_same anti (List.Perm.cons_inv p) (List.Pairwise.of_cons h1) (List.Pairwise.of_cons h2)]
theorem insI_perm (x : Int) : ∀ l, (insI x l).Perm (x :: l)
  | [] => .refl _
  | y :: r => by
    unfold insI
    split
    · exact .refl _
    · exact ((insI_perm x r).cons y).trans (.swap x y r)
theorem sortI_perm : ∀ l, (sortI l).Perm l
  | [] => .refl _
  | x :: r => (insI_perm x (sortI r)).trans ((sortI_perm r).cons x)
theorem insI_sorted (x : Int) : ∀ l : List Int, l.Pairwise (· ≤ ·) → (insI x l).Pairwise (· ≤ ·)
  | [], _ => by simp [insI]
  | y :: r, h => by
    unfold insI
    split
    · rename_i hxy
      refine List.Pairwise.cons (fun z hz => ?_) h
      rcases List.mem_cons.mp hz with e | e
      · rw [e]; exact hxy
      · exact Int.le_trans hxy (List.rel_of_pairwise_cons h e)
    · rename_i hxy
      refine List.Pairwise.cons (fun z hz => ?_) (insI_sorted x r (List.Pairwise.of_cons h))
      rcases List.mem_cons.mp ((insI_perm x r).mem_iff.mp hz) with e | e
      · rw [e]; omega
      · exact List.rel_of_pairwise_cons h e
theorem sortI_sorted : ∀ l : List Int, (sortI l).Pairwise (· ≤ ·)
  | [] => .nil
  | x :: r => insI_sorted x _ (sortI_sorted r)
theorem sortI_uniq {l l' : List Int} (p : l'.Perm l) (s : l'.Pairwise (· ≤ ·)) : l' = sortI l :=
  perm_same (fun a b h1 h2 => Int.le_antisymm h1 h2) (p.trans (sortI_perm l).symm) s (sortI_sorted l)
def LeP (x y : Int × Int) : Prop := x.1 < y.1 ∨ (x.1 = y.1 ∧ x.2 ≤ y.2)
theorem leP_iff {x y : Int × Int} : leP x y = true ↔ LeP x y := by
  unfold leP LeP
  simp only [Bool.or_eq_true, Bool.and_eq_true, decide_eq_true_eq, beq_iff_eq]
theorem leP_anti (a b : Int × Int) (h1 : LeP a b) (h2 : LeP b a) : a = b := by
  unfold LeP at h1 h2
  exact Prod.ext (by omega) (by omega)
theorem leP_trans {a b c : Int × Int} (h1 : LeP a b) (h2 : LeP b c) : LeP a c := by
  unfold LeP at *
  omega
theorem leP_tot {a b : Int × Int} (h : ¬ leP a b = true) : LeP b a := by
  rw [leP_iff] at h
  unfold LeP at *
  omega
theorem insP_perm (x : Int × Int) : ∀ l, (insP x l).Perm (x :: l)
  | [] => .refl _
  | y :: r => by
    unfold insP
    split
    · exact .refl _
    · exact ((insP_perm x r).cons y).trans (.swap x y r)
theorem sortP_perm : ∀ l, (sortP l).Perm l
  | [] => .refl _
  | x :: r => (insP_perm x (sortP r)).trans ((sortP_perm r).cons x)
theorem insP_sorted (x : Int × Int) : ∀ l : List (Int × Int), l.Pairwise LeP → (insP x l).Pairwise LeP
  | [], _ => by simp [insP]
  | y :: r, h => by
    unfold insP
    split
    · rename_i hxy
      refine List.Pairwise.cons (fun z hz => ?_) h
      rcases List.mem_cons.mp hz with e | e
      · rw [e]; exact leP_iff.mp hxy
      · exact leP_trans (leP_iff.mp hxy) (List.rel_of_pairwise_cons h e)
    · rename_i hxy
      refine List.Pairwise.cons (fun z hz => ?_) (insP_sorted x r (List.Pairwise.of_cons h))
      rcases List.mem_cons.mp ((insP_perm x r).mem_iff.mp hz) with e | e
      · rw [e]; exact leP_tot hxy
      · exact List.rel_of_pairwise_cons h e
theorem sortP_sorted : ∀ l : List (Int × Int), (sortP l).Pairwise LeP
  | [] => .nil
  | x :: r => insP_sorted x _ (sortP_sorted r)
theorem sortP_uniq {l l' : List (Int × Int)} (p : l'.Perm l) (s : l'.Pairwise LeP) : l' = sortP l :=
  perm_same leP_anti (p.trans (sortP_perm l).symm) s (sortP_sorted l)
section
variable {X : Cx} (C : Cls')
def seqIx (m : Mem) (a i : U) : Bool := match i with
  | .d (.int _) => match a with
    | .d (.dic _) => false
    | .cell n => match m[n]? with
      | some (.lst _) => true
      | _ => false
    | _ => true
  | _ => false
theorem RepL.atI {ι : List Addr} {H : Hp} {xs : List D} {vs : List V} {k : Int} {x : D} (r : RepL C ι H xs vs) (h : L2.atI xs k = some x) : ∃ v, L2.atI vs k = some v ∧ RepD C ι H x v := by
  unfold L2.atI at h ⊢
  rw [← r.length]
  cases e : ixN xs.length k with
  | none => rw [e] at h; cases h
  | some j =>
    rw [e] at h
    simp only [Option.bind_some] at h ⊢
    exact r.get h
theorem ix_seq_of {ι : List Addr} {m : Mem} {H : Hp} {a i : U} {x y : V} {r : D} {Q : VK} (S : StM C ι H m) (ra : RepU C ι H a x) (ri : RepU C ι H i y) (hs : seqIx m a i = true) (e : idxD m a i = some r)
    (q : ∀ v, RepD C ι H r v → Q v H) : rIx X.K x y H Q := by
  unfold seqIx at hs
  split at hs
  · rename_i k
    cases ri
    unfold idxD at e
    split at hs
    · cases hs
    · rename_i n
      split at hs
      · rename_i xs hm
        simp only [hm] at e
        obtain ⟨p, hp, rfl⟩ := ra
        obtain ⟨b, ho, h1, h2, vs, rfl, rv⟩ := S.at_ n _ hm
        rw [hp] at h1; cases h1
        obtain ⟨v, hv, rr⟩ := RepL.atI C rv e
        exact .inl ⟨p, vs, k, v, rfl, rfl, SqL.of h2, hv, q v rr⟩
      · cases hs
    · simp only at e
      split at e
      · split at e
        · rename_i s _ _ hl
          cases ra
          cases e2 : L2.atI s k with
          | none => rw [e2] at e; cases e
          | some c =>
            rw [e2] at e
            cases e
            exact .inr (.inr ⟨str0 s, k, c, rfl, rfl, by rw [str0_len, line]; exact hl, by simpa [str0] using e2, q _ rfl⟩)
        · cases e
      · obtain ⟨p, vs, rfl, _, hp, rv⟩ := ra
        obtain ⟨v, hv, rr⟩ := RepL.atI C rv e
        exact .inr (.inl ⟨p, vs, k, v, rfl, rfl, SqT.of hp, hv, q v rr⟩)
      · obtain ⟨p, vs, rfl, _, hp, rv⟩ := ra
        obtain ⟨v, hv, rr⟩ := RepL.atI C rv e
        exact .inl ⟨p, vs, k, v, rfl, rfl, SqL.of hp, hv, q v rr⟩
      · rename_i h1 h2
        exact absurd rfl (h1 _)
      · rename_i h1 h2
        exact absurd rfl (h2 _)
      · cases e
  · cases hs
theorem idx_dic_of {ι : List Addr} {m : Mem} {H : Hp} {a i : U} {x y : V} {r : D} (S : StM C ι H m) (ra : RepU C ι H a x) (ri : RepU C ι H i y) (hs : seqIx m a i = false) (e : idxD m a i = some r) :
    ∃ p v, x = .ref p ∧ DGet H p y (some v) ∧ RepD C ι H r v := by
  unfold idxD at e
  split at e
  · rename_i k
    cases ri
    unfold seqIx at hs
    simp only at hs
    split at e
    · simp at hs
    · simp at hs
    · simp at hs
    · rename_i ks
      obtain ⟨p, kvs, rfl, _, hp, rv⟩ := ra
      rcases repK_look k rv with ⟨h1, h2⟩ | ⟨z, v, h1, h2, h3⟩
      · rw [h1] at e; cases e
      · rw [h1] at e; cases e
        exact ⟨p, v, rfl, .inl ⟨kvs, Sum.inl k, .inl hp, rfl, h2.symm⟩, h3⟩
    · rename_i n
      obtain ⟨p, hp, rfl⟩ := ra
      split at e
      · rename_i xs hm
        simp [hm] at hs
      · rename_i ks hm
        obtain ⟨b, ho, h1, h2, kvs, rfl, rv⟩ := S.at_ n _ hm
        rw [hp] at h1; cases h1
        rcases repK_look k rv with ⟨h1, h2'⟩ | ⟨z, v, h1, h2', h3⟩
        · rw [h1] at e; cases e
        · rw [h1] at e; cases e
          exact ⟨p, v, rfl, .inl ⟨kvs, Sum.inl k, .inl h2, rfl, h2'.symm⟩, h3⟩
      · cases e
    · cases e
  · rename_i p1 q1
    obtain ⟨b, ws, rfl, _, hb, v1, w1, rfl, r1, v2, w2, rfl, r2, rfl⟩ := ri
    cases r1; cases r2
    split at e
    · rename_i n
      obtain ⟨p, hp, rfl⟩ := ra
      split at e
      · rename_i ks hm
        obtain ⟨b', ho, h1, h2, kvs, rfl, rv⟩ := S.at_ n _ hm
        rw [hp] at h1; cases h1
        rcases repP_look (p1, q1) rv with ⟨h1, h2'⟩ | ⟨z, v, h1, h2', h3⟩
        · rw [h1] at e; cases e
        · rw [h1] at e; cases e
          exact ⟨p, v, rfl, .inr ⟨kvs, kk (p1, q1), b, .inl h2, rfl, hb, h2'.symm⟩, h3⟩
      · cases e
    · cases e
  · cases e
theorem RepL.cut {ι : List Addr} {H : Hp} {xs : List D} {vs : List V} (r : RepL C ι H xs vs) (lo hi : Option Int) : RepL C ι H (cutL xs lo hi) (cutV vs lo hi) := by
  unfold cutL cutV
  rw [← r.length]
  exact (r.drop _).take _
def rSlc : V → Option Int → Option Int → Hp → VK → Prop := fun x lo hi H Q => ∃ ι m a r, StM C ι H m ∧ RepU C ι H a x ∧ slcD m a lo hi = some r ∧ Aft C ι m H r Q
theorem sl_D : SlR X (rSlc C) := by
  intro pins s σ H x v vl vu lo hi sl Q I rx hs pl pu ⟨ι, m, a, r, S, ra, e, q⟩
  unfold slcD at e
  split at e
  · split at e
    · rename_i z hl
      cases e; cases ra
      refine sl_str pins s σ H _ v vl vu lo hi sl Q I rx hs pl pu ⟨str0 z, rfl, by rw [str0_len, line]; exact hl, q.here S ?_⟩
      show V.str _ = V.str _
      congr 1
    · cases e
  · cases e
    obtain ⟨p, vs, rfl, n, hp, rv⟩ := ra
    refine sl_tupA pins s σ H _ v vl vu lo hi sl Q I rx hs pl pu ⟨p, vs, rfl, SqT.of hp, fun hw => ?_, fun _ => q.tup S (RepL.cut C rv lo hi)⟩
    refine q.here S ⟨p, vs, rfl, n, hp, ?_⟩
    have hc := RepL.cut C rv lo hi
    have e1 : cutV vs lo hi = vs := by
      unfold cutV
      rw [hw.1, hw.2]
      simp
    rw [e1] at hc
    exact hc
  · split at e
    · rename_i xs h1
      cases e
      obtain ⟨p, vs, rfl, hp, rv⟩ := lst_rep S ra h1
      exact sl_list pins s σ H _ v vl vu lo hi sl Q I rx hs pl pu ⟨p, vs, rfl, SqL.of hp, q.lst S (RepL.cut C rv lo hi)⟩
    · cases e
theorem ints_rep {ι : List Addr} {H : Hp} : ∀ {xs : List D} {vs : List V} {ns : List Int}, RepL C ι H xs vs → intsD xs = some ns → vs = ns.map V.int
  | [], vs, ns, r, e => by cases e; rw [r]; rfl
  | x :: xs, vs, ns, r, e => by
    obtain ⟨v, ws, rfl, r1, r2⟩ := r
    cases x with
    | int i =>
      cases q : intsD xs with
      | none => simp [intsD, q] at e
      | some ms =>
        simp [intsD, q] at e
        subst e
        rw [ints_rep r2 q]
        cases r1
        rfl
    | _ => cases e
theorem bools_rep {ι : List Addr} {H : Hp} : ∀ {xs : List D} {vs : List V} {ns : List Bool}, RepL C ι H xs vs → boolsD xs = some ns → vs = ns.map V.bl
  | [], vs, ns, r, e => by cases e; rw [r]; rfl
  | x :: xs, vs, ns, r, e => by
    obtain ⟨v, ws, rfl, r1, r2⟩ := r
    cases x with
    | bl i =>
      cases q : boolsD xs with
      | none => simp [boolsD, q] at e
      | some ms =>
        simp [boolsD, q] at e
        subst e
        rw [bools_rep r2 q]
        cases r1
        rfl
    | _ => cases e
theorem strs_rep {ι : List Addr} {H : Hp} : ∀ {xs : List D} {vs : List V} {ns : List (List Nat)}, RepL C ι H xs vs → strsD xs = some ns → vs = (ns.map str0).map V.str
  | [], vs, ns, r, e => by cases e; rw [r]; rfl
  | x :: xs, vs, ns, r, e => by
    obtain ⟨v, ws, rfl, r1, r2⟩ := r
    cases x with
    | str i =>
      cases q : strsD xs with
      | none => simp [strsD, q] at e
      | some ms =>
        simp [strsD, q] at e
        subst e
        rw [strs_rep r2 q]
        cases r1
        rfl
    | _ => cases e
theorem ints_back {ι : List Addr} {H : Hp} : ∀ ns : List Int, RepL C ι H (ns.map D.int) (ns.map V.int)
  | [] => rfl
  | n :: ns => ⟨_, _, rfl, rfl, ints_back ns⟩
/-- a pair's two ints -/
noncomputable def kOf (H : Hp) : V → Int × Int
  | .ref a => match H a with
    | some (.tup [.int i, .int j]) => (i, j)
    | _ => (0, 0)
  | _ => (0, 0)
theorem prs_rep {ι : List Addr} {H : Hp} : ∀ {xs : List D} {vs : List V} {ps : List (Int × Int)}, RepL C ι H xs vs → prsD xs = some ps →
    ps = vs.map (kOf H) ∧ (∀ v ∈ vs, ∃ t, v = V.ref t ∧ H t = some (.tup [.int (kOf H v).1, .int (kOf H v).2]) ∧ t ∉ C.ban ++ ι)
  | [], vs, ps, r, e => by cases e; rw [r]; exact ⟨rfl, fun v h => by cases h⟩
  | x :: xs, vs, ps, r, e => by
    obtain ⟨v, ws, rfl, r1, r2⟩ := r
    unfold prsD at e
    split at e
    · rename_i h; cases h
    · rename_i i j r' h
      injection h with h1 h2
      subst h1 h2
      cases q : prsD xs with
      | none => rw [q] at e; cases e
      | some ms =>
        rw [q] at e
        cases e
        obtain ⟨e1, e2⟩ := prs_rep r2 q
        obtain ⟨a, us, rfl, n, ha, v1, w1, rfl, s1, v2, w2, rfl, s2, rfl⟩ := r1
        cases s1; cases s2
        have hk : kOf H (V.ref a) = (i, j) := by simp [kOf, ha]
        refine ⟨by rw [List.map_cons, hk, e1], fun v hv => ?_⟩
        rcases List.mem_cons.mp hv with z | z
        · subst z
          exact ⟨a, rfl, by rw [hk]; exact ha, n⟩
        · exact e2 v z
    · cases e
theorem prs_back {ι : List Addr} {H : Hp} : ∀ vs : List V, (∀ v ∈ vs, ∃ t, v = V.ref t ∧ H t = some (.tup [.int (kOf H v).1, .int (kOf H v).2]) ∧ t ∉ C.ban ++ ι) → RepL C ι H ((vs.map (kOf H)).map prD) vs
  | [], _ => rfl
  | v :: vs, h => by
    obtain ⟨t, e, ht, n⟩ := h v List.mem_cons_self
    refine ⟨v, vs, rfl, ?_, prs_back vs fun w hw => h w (List.mem_cons_of_mem _ hw)⟩
    exact ⟨t, _, e, n, ht, _, _, rfl, rfl, _, _, rfl, rfl, rfl⟩
end
end DL
set_option linter.all false
set_option maxRecDepth 100000
set_option maxHeartbeats 1000000
namespace DL
open PySem PySem.Spec PyProof.Rows L2
section
variable {X : Cx} (C : Cls')
def rBlt (b : Blt) : List V → Hp → VK → Prop := fun vs H Q => ∃ ι m us r, StM C ι H m ∧ RepUs C ι H us vs ∧ bltD m b us = some r ∧ Aft C ι m H r Q
def bltN : Blt → Str
  | .len => "len" | .abs => "abs" | .min => "min" | .max => "max" | .int => "int" | .str => "str" | .sum => "sum" | .all => "all"
  | .tuple => "tuple" | .list => "list" | .sorted => "sorted" | .repr => "repr" | .divmod => "divmod"
def bltT : Blt → Bool
  | .int => true | .str => true | .tuple => true | .list => true
  | _ => false
theorem us1 {ι H x vs} (r : RepUs C ι H [x] vs) : ∃ v, vs = [v] ∧ RepU C ι H x v := by
  obtain ⟨v, ws, rfl, h, rfl⟩ := r
  exact ⟨v, rfl, h⟩
theorem us2 {ι H x y vs} (r : RepUs C ι H [x, y] vs) : ∃ v w, vs = [v, w] ∧ RepU C ι H x v ∧ RepU C ι H y w := by
  obtain ⟨v, ws, rfl, h, w, zs, rfl, h2, rfl⟩ := r
  exact ⟨v, w, rfl, h, h2⟩
theorem cr_len : CallR X (.builtin "len") (rBlt C .len) := by
  intro pins s σ H vs us0 Q I r0 ⟨ι, m, us, r, S, ru, e, q⟩
  unfold bltD at e
  split at e <;> first | (cases e; done) | skip
  all_goals first | (rename_i h _; cases h; done) | (rename_i h; cases h; done) | skip
  rename_i x _
  obtain ⟨v, rfl, rx⟩ := us1 C ru
  unfold lenTo at e
  split at e
  · split at e
    · rename_i z hl
      cases e; cases rx
      exact call_len_str pins s σ H _ us0 Q I r0 ⟨str0 z, rfl, by rw [str0_len, line]; exact hl, q.here S (by rw [str0_len]; rfl)⟩
    · cases e
  · cases e
    obtain ⟨p, kvs, rfl, n, hp, rv⟩ := rx
    exact call_lenD pins s σ H _ us0 Q I r0 ⟨p, kvs, rfl, hp, q.here S (by rw [← repK_length rv]; rfl)⟩
  · split at e
    · rename_i xs h1
      cases e
      obtain ⟨p, ws, rfl, hp, rv⟩ := seq_rep S rx h1
      refine call_len_seq pins s σ H _ us0 Q I r0 ⟨p, ws, rfl, ?_, q.here S (by rw [← rv.length]; rfl)⟩
      rcases hp with hp | hp
      · exact .inl (SqL.of hp)
      · exact .inr (SqT.of hp)
    · split at e
      · rename_i ks h1
        cases e
        obtain ⟨p, kvs, rfl, hp, rv⟩ := dic_rep S rx h1
        exact call_lenD pins s σ H _ us0 Q I r0 ⟨p, kvs, rfl, hp, q.here S (by rw [← repK_length rv]; rfl)⟩
      · cases e
theorem cr_abs : CallR X (.builtin "abs") (rBlt C .abs) := by
  intro pins s σ H vs us0 Q I r0 ⟨ι, m, us, r, S, ru, e, q⟩
  unfold bltD at e
  split at e <;> first | (cases e; done) | skip
  all_goals first | (rename_i h _; cases h; done) | (rename_i h; cases h; done) | skip
  obtain ⟨v, rfl, rx⟩ := us1 C ru
  cases e; cases rx
  exact call_abs pins s σ H _ us0 Q I r0 ⟨_, rfl, q.here S rfl⟩
theorem cr_min2 (hc : X.calm = true) : CallR X (.builtin "min") (rBlt C .min) := by
  intro pins s σ H vs us0 Q I r0 ⟨ι, m, us, r, S, ru, e, q⟩
  unfold bltD at e
  split at e <;> first | (cases e; done) | skip
  all_goals first | (rename_i h _; cases h; done) | (rename_i h; cases h; done) | skip
  obtain ⟨v, w, rfl, rx, ry⟩ := us2 C ru
  cases e; cases rx; cases ry
  exact call_min2 hc pins s σ H _ us0 Q I r0 ⟨_, _, rfl, q.here S rfl⟩
theorem cr_max2 (hc : X.calm = true) : CallR X (.builtin "max") (rBlt C .max) := by
  intro pins s σ H vs us0 Q I r0 ⟨ι, m, us, r, S, ru, e, q⟩
  unfold bltD at e
  split at e <;> first | (cases e; done) | skip
  all_goals first | (rename_i h _; cases h; done) | (rename_i h; cases h; done) | skip
  obtain ⟨v, w, rfl, rx, ry⟩ := us2 C ru
  cases e; cases rx; cases ry
  exact call_max2 hc pins s σ H _ us0 Q I r0 ⟨_, _, rfl, q.here S rfl⟩
theorem cr_int : CallR X (.type "int") (rBlt C .int) := by
  intro pins s σ H vs us0 Q I r0 ⟨ι, m, us, r, S, ru, e, q⟩
  unfold bltD at e
  split at e <;> first | (cases e; done) | skip
  all_goals first | (rename_i h _; cases h; done) | (rename_i h; cases h; done) | skip
  · obtain ⟨v, rfl, rx⟩ := us1 C ru
    cases e; cases rx
    exact call_int1 pins s σ H _ us0 Q I r0 (.inl ⟨_, rfl, q.here S rfl⟩)
  · obtain ⟨v, rfl, rx⟩ := us1 C ru
    cases e; cases rx
    exact call_int1 pins s σ H _ us0 Q I r0 (.inr ⟨_, rfl, q.here S rfl⟩)
  · obtain ⟨v, rfl, rx⟩ := us1 C ru
    split at e
    · rename_i hl
      cases rx
      obtain ⟨n, e1, rfl⟩ := Option.map_eq_some_iff.mp e
      exact call_int_str pins s σ H _ us0 Q I r0 ⟨_, n, rfl, e1, by rw [str0_len]; exact hl, q.here S rfl⟩
    · cases e
theorem str_digs (i : Int) : (Str.ofString (toString i)) = str0 (digs i) := by
  simp [str0, digs]
theorem cr_str : CallR X (.type "str") (rBlt C .str) := by
  intro pins s σ H vs us0 Q I r0 ⟨ι, m, us, r, S, ru, e, q⟩
  unfold bltD at e
  split at e <;> first | (cases e; done) | skip
  all_goals first | (rename_i h _; cases h; done) | (rename_i h; cases h; done) | skip
  obtain ⟨v, rfl, rx⟩ := us1 C ru
  split at e
  · rename_i hz
    cases e; cases rx
    refine call_str_int pins s σ H _ us0 Q I r0 ⟨_, rfl, hz, ?_⟩
    rw [str_digs]
    exact q.here S rfl
  · cases e
theorem cr_sumD (hc : X.calm = true) : CallR X (.builtin "sum") (rBlt C .sum) := by
  intro pins s σ H vs us0 Q I r0 ⟨ι, m, us, r, S, ru, e, q⟩
  unfold bltD at e
  split at e <;> first | (cases e; done) | skip
  all_goals first | (rename_i h _; cases h; done) | (rename_i h; cases h; done) | skip
  obtain ⟨v, rfl, rx⟩ := us1 C ru
  split at e
  · rename_i xs h1
    obtain ⟨p, ws, rfl, hp, rv⟩ := lst_rep S rx h1
    cases e1 : intsD xs with
    | none => rw [e1] at e; cases e
    | some ns =>
      rw [e1] at e
      cases e
      have := ints_rep C rv e1
      subst this
      exact cr_sum hc pins s σ H _ us0 Q I r0 ⟨p, ns, rfl, SqL.of hp, q.here S rfl⟩
  · cases e
theorem cr_allD (hc : X.calm = true) : CallR X (.builtin "all") (rBlt C .all) := by
  intro pins s σ H vs us0 Q I r0 ⟨ι, m, us, r, S, ru, e, q⟩
  unfold bltD at e
  split at e <;> first | (cases e; done) | skip
  all_goals first | (rename_i h _; cases h; done) | (rename_i h; cases h; done) | skip
  obtain ⟨v, rfl, rx⟩ := us1 C ru
  split at e
  · rename_i xs h1
    obtain ⟨p, ws, rfl, hp, rv⟩ := lst_rep S rx h1
    cases e1 : boolsD xs with
    | none => rw [e1] at e; cases e
    | some ns =>
      rw [e1] at e
      cases e
      have := bools_rep C rv e1
      subst this
      exact cr_all hc pins s σ H _ us0 Q I r0 ⟨p, ns, rfl, SqL.of hp, q.here S rfl⟩
  · cases e
theorem tup_notin {ι : List Addr} {H : Hp} {m : Mem} {u : U} {p : Addr} {xs : List D} {ws : List V} (S : StM C ι H m) (r : RepU C ι H u (.ref p)) (h : seqO m u = some xs) (hp : H p = some (.tup ws)) : p ∉ C.ban ++ ι := by
  unfold seqO at h
  split at h
  · obtain ⟨a, vs, e, n, ha, q⟩ := r
    cases e; exact n
  · obtain ⟨a, vs, e, n, ha, q⟩ := r
    cases e; exact n
  · rename_i n
    obtain ⟨a, ha, e⟩ := r
    cases e
    split at h
    · rename_i ys hm
      obtain ⟨b, ho, h1, h2, vs, e2, q⟩ := S.at_ n _ hm
      rw [ha] at h1; cases h1
      rw [hp, e2] at h2; cases h2
    · cases h
  · cases h
theorem cr_tuple : CallR X (.type "tuple") (rBlt C .tuple) := by
  intro pins s σ H vs us0 Q I r0 ⟨ι, m, us, r, S, ru, e, q⟩
  unfold bltD at e
  split at e <;> first | (cases e; done) | skip
  all_goals first | (rename_i h _; cases h; done) | (rename_i h; cases h; done) | skip
  obtain ⟨v, rfl, rx⟩ := us1 C ru
  split at e
  · rename_i xs h1
    cases e
    obtain ⟨p, ws, rfl, hp, rv⟩ := seq_rep S rx h1
    rcases hp with hp | hp
    · exact call_tuple_of pins s σ H _ us0 Q I r0 ⟨p, ws, rfl, .inl ⟨SqL.of hp, q.tup S rv⟩⟩
    · refine call_tuple_of pins s σ H _ us0 Q I r0 ⟨p, ws, rfl, .inr ⟨SqT.of hp, q.here S ⟨p, ws, rfl, tup_notin C S rx h1 hp, hp, rv⟩⟩⟩
  · cases e
theorem cr_list : CallR X (.type "list") (rBlt C .list) := by
  intro pins s σ H vs us0 Q I r0 ⟨ι, m, us, r, S, ru, e, q⟩
  unfold bltD at e
  split at e <;> first | (cases e; done) | skip
  all_goals first | (rename_i h _; cases h; done) | (rename_i h; cases h; done) | skip
  obtain ⟨v, rfl, rx⟩ := us1 C ru
  split at e
  · rename_i xs h1
    cases e
    obtain ⟨p, ws, rfl, hp, rv⟩ := seq_rep S rx h1
    refine call_list_of pins s σ H _ us0 Q I r0 ⟨p, ws, rfl, ?_, q.lst S rv⟩
    rcases hp with hp | hp
    · exact .inl (SqL.of hp)
    · exact .inr (SqT.of hp)
  · cases e
theorem cr_sortedD : CallR X (.builtin "sorted") (rBlt C .sorted) := by
  intro pins s σ H vs us0 Q I r0 ⟨ι, m, us, r, S, ru, e, q⟩
  unfold bltD at e
  split at e <;> first | (cases e; done) | skip
  all_goals first | (rename_i h _; cases h; done) | (rename_i h; cases h; done) | skip
  obtain ⟨v, rfl, rx⟩ := us1 C ru
  split at e
  · rename_i xs h1
    obtain ⟨p, ws, rfl, hp, rv⟩ := lst_rep S rx h1
    unfold sortD at e
    split at e
    · rename_i ns e1
      cases e
      have := ints_rep C rv e1
      subst this
      refine cr_sortedI pins s σ H _ us0 Q I r0 ⟨p, ns, rfl, SqL.of hp, fun ns' p' h2 h3 h4 => ?_⟩
      rw [sortI_uniq h2 h3]
      exact q.lst S (ints_back C _) p' h4
    · split at e
      · rename_i ps e1
        cases e
        obtain ⟨e2, e3⟩ := prs_rep C rv e1
        refine cr_sortedPO pins s σ H _ us0 Q I r0 ⟨p, ws, kOf H, rfl, SqL.of hp, fun x hx => ?_, fun ys p' h2 h3 h4 => ?_⟩
        · obtain ⟨t, h5, h6, _⟩ := e3 x hx
          exact ⟨t, h5, h6⟩
        · have e4 : ys.map (kOf H) = sortP ps := by
            refine sortP_uniq (by rw [e2]; exact h3.perm.map _) ?_
            refine List.pairwise_map.mpr (h2.imp fun {x y} h => ?_)
            have h' := SrtO.lexB_no.mp h
            unfold LeP
            omega
          have rb : RepL C ι H ((sortP ps).map prD) ys := by
            rw [← e4]
            exact prs_back C ys fun v hv => e3 v (h3.perm.mem_iff.mp hv)
          exact q.lst S rb p' h4
      · cases e
  · cases e
theorem cr_divmod : CallR X (.builtin "divmod") (rBlt C .divmod) := by
  intro pins s σ H vs us0 Q I r0 ⟨ι, m, us, r, S, ru, e, q⟩
  unfold bltD at e
  split at e <;> first | (cases e; done) | skip
  all_goals first | (rename_i h _; cases h; done) | (rename_i h; cases h; done) | skip
  obtain ⟨v, w, rfl, rx, ry⟩ := us2 C ru
  split at e
  · rename_i hd
    cases e; cases rx; cases ry
    refine call_divmodW pins s σ H _ us0 Q I r0 ⟨_, _, rfl, ⟨hd.1, PyProof.noPylong_of_log2 (PySem.Flt.log2_lt_of (by decide) hd.2)⟩, fun p hp => ?_⟩
    exact q.tup S ⟨_, _, rfl, rfl, _, _, rfl, rfl, rfl⟩ p hp
  · cases e
mutual
theorem pyD_some : ∀ (x : D) (p : PyData), pyD x = some p → pyT x = p ∧ p.hasDict = false
  | .non, p, h => by cases h; exact ⟨rfl, by simp [PyData.hasDict]⟩
  | .bl _, p, h => by cases h; exact ⟨rfl, by simp [PyData.hasDict]⟩
  | .int _, p, h => by cases h; exact ⟨rfl, by simp [PyData.hasDict]⟩
  | .str _, p, h => by cases h; exact ⟨rfl, by simp [PyData.hasDict]⟩
  | .tup xs, p, h => by
    obtain ⟨ps, h1, rfl⟩ := Option.map_eq_some_iff.mp h
    obtain ⟨h2, h3⟩ := pyL_some xs ps h1
    exact ⟨by simp only [pyT, h2], by simpa [PyData.hasDict] using h3⟩
  | .lst xs, p, h => by
    obtain ⟨ps, h1, rfl⟩ := Option.map_eq_some_iff.mp h
    obtain ⟨h2, h3⟩ := pyL_some xs ps h1
    exact ⟨by simp only [pyT, h2], by simpa [PyData.hasDict] using h3⟩
  | .dic _, p, h => by cases h
  | .ins _ _, p, h => by cases h
  | .scr _, p, h => by cases h
theorem pyL_some : ∀ (xs : List D) (ps : List PyData), pyL xs = some ps → pyTs xs = ps ∧ PyData.hasDictAll ps = false
  | [], ps, h => by cases h; exact ⟨rfl, by simp [PyData.hasDictAll]⟩
  | x :: xs, ps, h => by
    unfold pyL at h
    split at h
    · rename_i a b h1 h2
      cases h
      obtain ⟨h3, h4⟩ := pyD_some x a h1
      obtain ⟨h5, h6⟩ := pyL_some xs b h2
      exact ⟨by simp only [pyTs, h3, h5], by simp [PyData.hasDictAll, h4, h6]⟩
    · cases h
end
mutual
theorem dp_py {ι : List Addr} {H : Hp} {K : PySem.W.Frag} : ∀ (x : D) (p : PyData) (v : V), pyD x = some p → RepD C ι H x v → Dp K H v p
  | .non, p, v, e, h => by cases h; cases e; exact .non
  | .bl b, p, v, e, h => by cases h; cases e; exact .bl b
  | .int i, p, v, e, h => by cases h; cases e; exact .int i
  | .str s, p, v, e, h => by cases h; cases e; exact .str _
  | .tup xs, p, v, e, h => by
    obtain ⟨a, vs, rfl, n, ha, r⟩ := h
    obtain ⟨ps, h1, rfl⟩ := Option.map_eq_some_iff.mp e
    exact .tup (SqT.of ha) (dp_pys xs ps vs h1 r)
  | .lst xs, p, v, e, h => by
    obtain ⟨a, vs, rfl, n, ha, r⟩ := h
    obtain ⟨ps, h1, rfl⟩ := Option.map_eq_some_iff.mp e
    exact .lst (SqL.of ha) (dp_pys xs ps vs h1 r)
  | .dic _, p, v, e, h => by cases e
  | .ins _ _, p, v, e, h => by cases e
theorem dp_pys {ι : List Addr} {H : Hp} {K : PySem.W.Frag} : ∀ (xs : List D) (ps : List PyData) (vs : List V), pyL xs = some ps → RepL C ι H xs vs → DpAll K H vs ps
  | [], ps, vs, e, h => by cases e; rw [h]; exact .nil
  | x :: xs, ps, vs, e, h => by
    unfold pyL at e
    obtain ⟨v, ws, rfl, r, rs⟩ := h
    split at e
    · rename_i a b h1 h2
      cases e
      exact .cons (dp_py x a v h1 r) (dp_pys xs b ws h2 rs)
    · cases e
end
theorem str_back (s : Str) : V.str s = V.str (str0 s.cps.toList) := by simp [str0]
theorem cr_repr (hg : X.A.guards = some []) (hu : X.A.units + 65 < cLine) : CallR X (.builtin "repr") (rBlt C .repr) := by
  intro pins s σ H vs us0 Q I r0 ⟨ι, m, us, r, S, ru, e, q⟩
  unfold bltD at e
  split at e <;> first | (cases e; done) | skip
  all_goals first | (rename_i h _; cases h; done) | (rename_i h; cases h; done) | skip
  obtain ⟨v, rfl, rx⟩ := us1 C ru
  unfold reprD at e
  split at e
  · rename_i p e1
    split at e
    · rename_i hc
      obtain ⟨c1, c2, c3⟩ := hc
      cases e
      obtain ⟨u, rfl, ru⟩ := vals1 r0
      have d := dp_py C (K := X.K) _ p v e1 rx
      obtain ⟨as, rd⟩ := Dp.reads I p v u d ru
      have fin : ∀ h' k tk, (∀ b o, s.heap.get? b = some o → h'.get? b = some o) → EP X pins σ Q (.str p.shown k) { s with heap := h', toks := tk } := fun h' k tk kp =>
        ⟨.str p.shown, H, I.kept kp, ⟨k, rfl⟩, by rw [str_back]; exact q.here S rfl⟩
      cases d with
      | non => cases ru; exact PySem.P.repr_of_none (fin _ _ _ fun _ _ z => z)
      | bl b => cases ru; exact PySem.P.repr_of_bool (fin _ _ _ fun _ _ z => z)
      | int i => obtain ⟨t, rfl⟩ := ru; exact PySem.P.repr_of_int (by simpa [PyData.showable] using c1) (fin _ _ _ fun _ _ z => z)
      | str z => obtain ⟨t, rfl⟩ := ru; exact PySem.P.repr_of_str (fin _ _ _ fun _ _ z => z) (by rw [line]; exact c3)
      | lst h1 h2 =>
        cases ru
        exact repr_of_reads' rd c1 (fun z => by rw [(pyD_some _ _ e1).2] at z; cases z) hg (by omega) (fun _ _ z => z) (fun h' k tk kp => fin h' k tk kp) (by rw [line]; exact c3)
      | tup h1 h2 =>
        cases ru
        exact repr_of_reads' rd c1 (fun z => by rw [(pyD_some _ _ e1).2] at z; cases z) hg (by omega) (fun _ _ z => z) (fun h' k tk kp => fin h' k tk kp) (by rw [line]; exact c3)
    · cases e
  · cases e
end
end DL
set_option linter.all false
set_option maxRecDepth 100000
set_option maxHeartbeats 1000000
namespace DL
open PySem PySem.Spec PyProof.Rows L2
section
variable {X : Cx} (C : Cls')
/-- a method of a text with one argument -/
def rMth (f : Mth) : V → List V → Hp → VK → Prop := fun x vs H Q => ∃ ι m o e y r, StM C ι H m ∧ RepU C ι H o x ∧ vs = [y] ∧ RepU C ι H e y ∧ mthD m f o e = some r ∧ Aft C ι m H r Q
theorem join_str0 (sep : List Nat) : ∀ ss : List (List Nat), Str.join (str0 sep) (ss.map str0) = str0 (joinL sep ss)
  | [] => rfl
  | [x] => rfl
  | x :: y :: r => by
    have ih := join_str0 sep (y :: r)
    show str0 x ++ str0 sep ++ Str.join (str0 sep) ((y :: r).map str0) = _
    rw [ih, ← str0_app, ← str0_app]
    rfl
theorem sums_eq (n : Nat) : ∀ ss : List (List Nat), ((ss.map str0).map (·.length)).sum + (ss.map str0).length * n = (ss.map fun s => s.length + n).sum
  | [] => by simp
  | s :: ss => by
    have ih := sums_eq n ss
    simp only [List.map_cons, List.sum_cons, List.length_cons, str0_len] at ih ⊢
    rw [Nat.succ_mul]
    omega
theorem mth_str {m : Mem} {f : Mth} {o e : U} {r : D} (h : mthD m f o e = some r) : ∃ s, o = .d (.str s) := by
  unfold mthD at h
  split at h <;> first | exact ⟨_, rfl⟩ | cases h
theorem mt_joinD : MtR X "str.join" (rMth C .join) := by
  intro pins s σ H x vs v us Q I rx rs ⟨ι, m, o, e, y, r, S, ro, hv, re, h, q⟩
  subst hv
  obtain ⟨sep, rfl⟩ := mth_str h
  simp only [mthD] at h
  split at h
  · rename_i xs h1
    split at h
    · rename_i ss h2
      split at h
      · rename_i hl
        cases h; cases ro
        obtain ⟨p, ws, rfl, hp, rv⟩ := seq_rep S re h1
        have e2 := strs_rep C rv h2
        subst e2
        refine mt_join pins s σ H _ _ v us Q I rx rs ⟨str0 sep, p, ss.map str0, rfl, rfl, ?_, ?_, ?_⟩
        · rcases hp with hp | hp
          · exact .inl (SqL.of hp)
          · exact .inr (SqT.of hp)
        · rw [str0_len, sums_eq]; exact hl
        · have ej : Txt.join (str0 sep) (ss.map str0) = str0 (joinL sep ss) := (StrLaws.glued_eq_join _ _).trans (join_str0 sep ss)
          rw [ej]
          exact q.here S rfl
      · cases h
    · cases h
  · cases h
theorem strs_back {ι : List Addr} {H : Hp} : ∀ zs : List Str, RepL C ι H (zs.map fun z => D.str z.cps.toList) (zs.map V.str)
  | [] => rfl
  | z :: zs => ⟨_, _, rfl, str_back z, strs_back zs⟩
theorem mt_splitD : MtR X "str.split" (rMth C .split) := by
  intro pins s σ H x vs v us Q I rx rs ⟨ι, m, o, e, y, r, S, ro, hv, re, h, q⟩
  subst hv
  obtain ⟨sp, rfl⟩ := mth_str h
  simp only [mthD] at h
  split at h
  · rename_i t
    split at h
    · rename_i hc
      cases h; cases ro; cases re
      refine mt_split pins s σ H _ _ v us Q I rx rs ⟨_, _, rfl, rfl, ?_, by rw [str0_len, line]; exact hc.2, q.lst S (strs_back C _)⟩
      rw [str0_len]
      cases t with
      | nil => exact absurd rfl hc.1
      | cons a b => rfl
    · cases h
  · cases h
theorem mt_startsD : MtR X "str.startswith" (rMth C .startswith) := by
  intro pins s σ H x vs v us Q I rx rs ⟨ι, m, o, e, y, r, S, ro, hv, re, h, q⟩
  subst hv
  obtain ⟨sp, rfl⟩ := mth_str h
  simp only [mthD] at h
  split at h
  · cases h; cases ro; cases re
    exact mt_startswith pins s σ H _ _ v us Q I rx rs ⟨_, _, rfl, rfl, q.here S rfl⟩
  · cases h
def tyT : Ty → String
  | .int => "int"
  | .bool => "bool"
  | .tuple => "tuple"
  | .str => "str"
  | .cls _ => ""
theorem isi_ok {ι : List Addr} {H : Hp} {t : Ty} {u : U} {x : V} {b : Bool} (r : RepU C ι H u x) (h : isiD t u = some b) (hc : ∀ c, t ≠ .cls c) :
    ∃ s, TyX X.K H x (.type s) ∧ PySem.W.kitOne X.K (.type s) (.type (tyT t)) = some b := by
  cases u with
  | cell n => cases h
  | d y =>
    cases y with
    | ins c z => cases t <;> first | exact absurd rfl (hc _) | cases h
    | scr ns => cases t <;> first | exact absurd rfl (hc _) | cases h
    | non => cases r; refine ⟨_, .base .non, ?_⟩; cases t <;> first | exact absurd rfl (hc _) | (cases h; exact kit_ty (by decide +kernel))
    | bl b' => cases r; refine ⟨_, .base (.bl _), ?_⟩; cases t <;> first | exact absurd rfl (hc _) | (cases h; exact kit_ty (by decide +kernel))
    | int b' => cases r; refine ⟨_, .base (.int _), ?_⟩; cases t <;> first | exact absurd rfl (hc _) | (cases h; exact kit_ty (by decide +kernel))
    | str b' => cases r; refine ⟨_, .base (.str _), ?_⟩; cases t <;> first | exact absurd rfl (hc _) | (cases h; exact kit_ty (by decide +kernel))
    | tup xs => obtain ⟨a, vs, rfl, n, ha, _⟩ := r; refine ⟨_, .base (.tup ha), ?_⟩; cases t <;> first | exact absurd rfl (hc _) | (cases h; exact kit_ty (by decide +kernel))
    | lst xs => obtain ⟨a, vs, rfl, n, ha, _⟩ := r; refine ⟨_, .base (.lst ha), ?_⟩; cases t <;> first | exact absurd rfl (hc _) | (cases h; exact kit_ty (by decide +kernel))
    | dic xs => obtain ⟨a, vs, rfl, n, ha, _⟩ := r; refine ⟨_, .base (.dK ha), ?_⟩; cases t <;> first | exact absurd rfl (hc _) | (cases h; exact kit_ty (by decide +kernel))
/-- o[i] = v, by values -/
def rSetD : TSet := fun o i v H Q => ∃ ι m a b c m', StM C ι H m ∧ RepU C ι H a o ∧ RepU C ι H b i ∧ RepU C ι H c v ∧ setD m a b c = some m' ∧ ∀ H', Ext ι ι H H' → StM C ι H' m' → Q H'
theorem set_D (hu : X.A.units + 1 < cLine) : PSet X (rSetD C) := by
  intro pins s σ H o i v ov iv u Q I ro ri rv ⟨ι, m, a, b, c, m', S, ra, rb, rc, e, q⟩
  unfold setD at e
  split at e
  · rename_i n x
    obtain ⟨p, hp, rfl⟩ := ra
    have hpi : p ∈ ι := List.mem_of_getElem? hp
    split at e
    · rename_i xs k hm
      split at e
      · rename_i j hj
        cases e; cases rb
        obtain ⟨p', ho, h1, h2, ws, rfl, rw'⟩ := S.at_ n _ hm
        rw [hp] at h1; cases h1
        refine set_list pins s σ H _ _ v ov iv u Q I ro ri rv ⟨p, ws, k, j, rfl, rfl, h2, by rw [← rw'.length]; exact hj, ?_⟩
        exact q _ (Ext.write hpi) (S.write hp ⟨_, rfl, RepL.set rc j rw'⟩)
      · cases e
    · rename_i ks k hm
      split at e
      · rename_i hl
        cases e; cases rb
        obtain ⟨p', ho, h1, h2, kvs, rfl, rw'⟩ := S.at_ n _ hm
        rw [hp] at h1; cases h1
        cases ro
        refine d_setItem hu I (DPut.k (k := Sum.inl k) h2 (by rw [← repK_length rw', line]; omega)) ri rv fun s' I' => ⟨_, I', ?_⟩
        exact q _ (Ext.write hpi) (S.write hp ⟨_, rfl, repK_put k rw' rc⟩)
      · cases e
    · rename_i ks p1 q1 hm
      split at e
      · rename_i hl
        cases e
        obtain ⟨b', ws, rfl, nb, hb, v1, w1, rfl, r1, v2, w2, rfl, r2, rfl⟩ := rb
        cases r1; cases r2
        obtain ⟨p', ho, h1, h2, kvs, rfl, rw'⟩ := S.at_ n _ hm
        rw [hp] at h1; cases h1
        cases ro
        refine d_setItem hu I (DPut.t (k := kk (p1, q1)) h2 hb (by rw [← repP_length rw', line]; omega)) ri rv fun s' I' => ⟨_, I', ?_⟩
        exact q _ (Ext.write hpi) (S.write hp ⟨_, rfl, repP_put (p1, q1) rw' rc⟩)
      · cases e
    · cases e
  · cases e
/-- o.append(v), by values -/
def rAppD : V → List V → Hp → VK → Prop := fun x vs H Q => ∃ ι m a c y m', StM C ι H m ∧ RepU C ι H a x ∧ vs = [y] ∧ RepU C ι H c y ∧ appD m a c = some m' ∧ ∀ H', Ext ι ι H H' → StM C ι H' m' → Q .non H'
theorem mt_appD : MtR X "list.append" (rAppD C) := by
  intro pins s σ H x vs v us Q I rx rs ⟨ι, m, a, c, y, m', S, ra, hv, rc, e, q⟩
  subst hv
  unfold appD at e
  split at e
  · rename_i n z
    obtain ⟨p, hp, rfl⟩ := ra
    have hpi : p ∈ ι := List.mem_of_getElem? hp
    split at e
    · rename_i xs hm
      split at e
      · rename_i hl
        cases e
        obtain ⟨p', ho, h1, h2, ws, rfl, rw'⟩ := S.at_ n _ hm
        rw [hp] at h1; cases h1
        refine mt_append pins s σ H _ _ v us Q I rx rs ⟨p, ws, y, rfl, rfl, h2, by rw [← rw'.length, line]; exact hl, ?_⟩
        exact q _ (Ext.write hpi) (S.write hp ⟨_, rfl, rw'.append ⟨y, [], rfl, rc, rfl⟩⟩)
      · cases e
    · cases e
  · cases e
/-- o.get(k, d): what the dict gives -/
theorem get_of {ι : List Addr} {m : Mem} {H : Hp} {o k d : U} {x y z : V} {r : D} (S : StM C ι H m) (ro : RepU C ι H o x) (rk : RepU C ι H k y) (rd : RepU C ι H d z) (e : getD m o k d = some r) :
    ∃ a w, x = .ref a ∧ DGet H a y w ∧ RepD C ι H r (w.getD z) := by
  unfold getD at e
  split at e
  · rename_i n dd
    obtain ⟨p, hp, rfl⟩ := ro
    split at e
    · rename_i ks i hm
      cases e; cases rk
      obtain ⟨p', ho, h1, h2, kvs, rfl, rv⟩ := S.at_ n _ hm
      rw [hp] at h1; cases h1
      refine ⟨p, valV kvs (Sum.inl i), rfl, .inl ⟨kvs, Sum.inl i, .inl h2, rfl, rfl⟩, ?_⟩
      rcases repK_look i rv with ⟨h3, h4⟩ | ⟨w, v, h3, h4, h5⟩
      · rw [h3, h4]; exact rd
      · rw [h3, h4]; exact h5
    · rename_i ks p1 q1 hm
      cases e
      obtain ⟨b', ws, rfl, nb, hb, v1, w1, rfl, r1, v2, w2, rfl, r2, rfl⟩ := rk
      cases r1; cases r2
      obtain ⟨p', ho, h1, h2, kvs, rfl, rv⟩ := S.at_ n _ hm
      rw [hp] at h1; cases h1
      refine ⟨p, valV kvs (kk (p1, q1)), rfl, .inr ⟨kvs, kk (p1, q1), b', .inl h2, rfl, hb, rfl⟩, ?_⟩
      rcases repP_look (p1, q1) rv with ⟨h3, h4⟩ | ⟨w, v, h3, h4, h5⟩
      · rw [h3, h4]; exact rd
      · rw [h3, h4]; exact h5
    · cases e
  · cases e
theorem isD_of {ι : List Addr} {m : Mem} {H : Hp} {o : U} {x : V} (S : StM C ι H m) (ro : RepU C ι H o x) (h : dictU m o = true) : ∃ a, x = .ref a ∧ IsD H a := by
  cases o with
  | d y => cases h
  | cell n =>
    obtain ⟨p, hp, rfl⟩ := ro
    simp only [dictU] at h
    split at h
    · rename_i hm
      obtain ⟨p', ho, h1, h2, kvs, rfl, rv⟩ := S.at_ n _ hm
      rw [hp] at h1; cases h1
      exact ⟨p, rfl, .inl ⟨kvs, .inl h2⟩⟩
    · rename_i hm
      obtain ⟨p', ho, h1, h2, kvs, rfl, rv⟩ := S.at_ n _ hm
      rw [hp] at h1; cases h1
      exact ⟨p, rfl, .inr ⟨kvs, .inl h2⟩⟩
    · cases h
end
end DL
set_option linter.all false
set_option maxRecDepth 100000
set_option maxHeartbeats 1000000
namespace DL
open PySem PySem.Spec PyProof.Rows L2
/-- as the layer's FnOk, but only where no repr runs around the call -/
structure FnG (P : Program) (w : World) (K : PySem.W.Frag) (mg : Str → Option Value) (base : Heap) (k : Nat) (f : Addr) (fd : FuncData) (ps : List Str) (sp : Sp) : Prop where
  len : ∀ vs H Q E, sp vs H Q E → vs.length = ps.length
  go : ∀ (A : Around) (outer : List PySem.Env) (st : Shared) (H : Hp) (args : Args) (us : List Value) (vs : List V) (Q : VK) (E : XK), A.guards = some [] → Room k A → Env0 P w K mg base A outer st H → BindsTo st fd args (ps.zip us) → Vals vs us →
    sp vs H Q E → codeAny (model P w) A (.call (.ref f) args) (CR CX0 outer P w H st Q E) st
section
variable {P : Program} {w : World} {K : PySem.W.Frag} {mg : Str → Option Value} {base : Heap}
theorem FnG.mono {j k : Nat} {f : Addr} {fd : FuncData} {ps : List Str} {sp : Sp} (F : FnG P w K mg base j f fd ps sp) (h : j ≤ k) : FnG P w K mg base k f fd ps sp :=
  ⟨F.len, fun A outer st H args us vs Q E hg hr => F.go A outer st H args us vs Q E hg (hr.mono h)⟩
theorem guards_deeper {A : Around} {env : PySem.Env} (h : A.guards = some []) : (A.deeper env).guards = some [] := h
/-- a def by its body -/
theorem fnG_of {k : Nat} {f : Addr} {name qual : Str} {params : Arguments} {body : List Stmt} {scope : Scope} {dV kV doc pm cdv ct oc : Value} {an od : Option Addr} {osl : Array (Option Value)} {N ps : List Str} {sp : Sp}
    (at_ : K.lookup f = some ⟨oc, od, .func (PySem.W.fnOf name qual params body scope dV kV doc pm an cdv ct), osl⟩) (code : PySem.W.codeIn K cdv qual = true) (S : FnScope N ps scope)
    (len : ∀ vs H Q E, sp vs H Q E → vs.length = ps.length)
    (hb : ∀ (A : Around) (outer : List PySem.Env) (st : Shared) (H : Hp) (vs : List V) (Q : VK) (E : XK), (A.deeper (envOfC qual scope st.heap.objs.size f cdv)).guards = some [] → Room k (A.deeper (envOfC qual scope st.heap.objs.size f cdv)) → sp vs H Q E →
      ∃ t, PSs (cxOf CX0 P w K mg base N qual scope f cdv A outer st H E).nox body t ∧ t { nx := fun _ H' => Q .non H', rt := Q } (start N vs) H) :
    FnG P w K mg base (k + 1) f (PySem.W.fnOf name qual params body scope dV kV doc pm an cdv ct) ps sp := by
  constructor
  · exact len
  · intro A outer st H args us vs Q E hg hr env0 hbind hvals hsp
    have hlen : vs.length = ps.length := len vs H Q E hsp
    have inK : K.In st.heap := env0.mod.kin.keeps (fun b o hbo => (env0.bs b o hbo).1)
    have nolim : st.heap.NoLimit := env0.mod.nolimit.keeps (fun b o hbo => (env0.bs b o hbo).1)
    refine codeAny_call_function hr.depth (inK f _ at_) rfl S.co S.gen rfl (PySem.W.codeRec_of inK code) (hbind _ _ _ _ ?_)
    refine wpAny_newFunctionEnv_cells S.kind ?_ ?_
    · rintro ⟨n, v⟩ hm
      have hm' := S.par n (List.of_mem_zip hm).1
      cases hm' with
      | inl loc => exact Or.inl loc
      | inr cel => exact Or.inr ⟨cel, PySem.W.cellsFrom_some _ _ _ (Or.inl cel)⟩
    · intro env henv s1 hin
      subst henv
      refine ⟨nolim.keeps hin.toInCall.keep, codeAny_func ?_⟩
      have hst : Inv (cxOf CX0 P w K mg base N qual scope f cdv A outer st H E) [] (start N vs) H s1 := inv_start S hr.hd env0 hlen hvals hin
      obtain ⟨t, pst, wt⟩ := hb A outer st H vs Q E (guards_deeper hg) (hr.deeper _) hsp
      have run := pst.nox.run [] s1 (start N vs) H _ hst wt
      refine wpAny_mono run ?_ (fun e s' z => z)
      intro fl s' hfl
      cases fl with
      | ret u =>
        obtain ⟨v, σ', H', J, rv, q⟩ := hfl
        exact ⟨v, H', J.os, J.bare, J.base, J.hok, rv, q⟩
      | next =>
        obtain ⟨σ', H', J, q⟩ := hfl
        exact ⟨.non, H', J.os, J.bare, J.base, J.hok, rfl, q⟩
      | brk => obtain ⟨_, _, _, q⟩ := hfl; exact q.elim
      | cont => obtain ⟨_, _, _, q⟩ := hfl; exact q.elim
end
section
variable {X : Cx}
/-- the callee runs -/
theorem run_G {k : Nat} {f : Addr} {fd : FuncData} {ps : List Str} {sp : Sp} {pins : List (Addr × Obj)} {σ : L2.St} {H : Hp} {st : Shared} {Q : VK} {args : Args} {us : List Value} {vs : List V} (F : FnG X.prog X.w X.K X.mg X.base k f fd ps sp)
    (hg : X.A.guards = some []) (hr : Room k X.A) (hb : BindsTo st fd args (ps.zip us)) (I : Inv X pins σ H st) (r : Vals vs us) (h : sp vs H Q E0) :
    codeAny (model X.prog X.w) X.A (.call (.ref f) args) (fun r s' => match r with | .ok (.ret u) => EP X pins σ Q u s' | _ => False) st := by
  refine codeAny_mono (F.go X.A X.stack st H args us vs Q E0 hg hr I.env0 hb r h) ?_
  intro res s' hres
  match res, hres with
  | .ok (.ret u), hu => exact I.after hu
  | .ok .next, hu => exact hu.elim
  | .ok .brk, hu => exact hu.elim
  | .ok .cont, hu => exact hu.elim
  | .error e, hu => exact hu.elim
theorem run_G' {k : Nat} {f : Addr} {fd : FuncData} {ps : List Str} {sp : Sp} {pins : List (Addr × Obj)} {σ : L2.St} {H : Hp} {st : Shared} {Q : VK} {us ws : List Value} {kw : List (Str × Value)} {vs : List V} (F : FnG X.prog X.w X.K X.mg X.base k f fd ps sp)
    (hg : X.A.guards = some []) (hr : Room k X.A) (hb : BindsTo st fd ⟨us, kw⟩ (ps.zip ws)) (I : Inv X pins σ H st) (r : Vals vs ws) (h : sp vs H Q E0) :
    wpAny (model X.prog X.w) X.A (call (.ref f) us kw) (EP X pins σ Q) X.xe st := by
  refine wpAny_call (codeAny_mono (run_G F hg hr hb I r h) ?_)
  intro res s' hres
  match res, hres with
  | .ok (.ret u), hu => exact hu
end
def noStar : Expr → Bool
  | .Starred .. => false
  | _ => true
theorem star1 {e : Expr} (h : noStar e = true) (es : List Expr) (env : PySem.Env) : starEach (e :: es) env = (false, eval e env) :: starEach es env := by
  cases e <;> first | rfl | cases h
theorem star_any : ∀ {es : List Expr}, es.all noStar = true → ∀ (pos : Pos) (env : PySem.Env), (backTo pos (starEach es env)).any (·.1) = false
  | [], _, _, _ => rfl
  | e :: es, h, pos, env => by
    simp only [List.all_cons, Bool.and_eq_true] at h
    rw [star1 h.1]
    show (false || (backTo pos (starEach es env)).any (·.1)) = false
    rw [star_any h.2 pos env]
    rfl
/-- what «super()» is not -/
def noSuper : Expr → Bool
  | .Call (.Name _ _) [] [] _ => false
  | _ => true
theorem base_of {o : Expr} (h : noSuper o = true) (m : Str) (env : PySem.Env) (t : Sem Value) : attributeBase o m env t = t := by
  unfold attributeBase
  split
  · cases h
  · rfl
def noSet : Expr → Bool
  | .Set .. => false
  | _ => true
theorem marks_of {b : Expr} (h : noSet b = true) (op : CmpOp) : behindInMarks op b = false := by
  cases b <;> first | rfl | cases h
theorem folded_of {b : Expr} (h : noSet b = true) (env : PySem.Env) (x : Value) : foldedSetIterable b env x = pure x := by
  cases b <;> first | rfl | cases h
def noSlice : Expr → Bool
  | .Slice .. => false
  | _ => true
theorem plain_of {b : Expr} (h : noSlice b = true) : PlainIx b := by
  intro o i
  cases b <;> first | rfl | cases h
/-- a test by its value -/
def tst : Expr → Bool
  | .IfExp .. => false
  | .BoolOp .. => false
  | .Compare .. => false
  | .UnaryOp .Not _ _ => false
  | _ => true
theorem tst_of {e : Expr} (h : tst e = true) (env : PySem.Env) (whole : Sem Value) : isTrue e env whole = (do let v ← whole; standAt e.pos; holding [v] (truthy v)) := by
  cases e with
  | UnaryOp op x p => cases op <;> first | rfl | cases h
  | _ => first | rfl | cases h
def noComp : Expr → Bool
  | .ListComp .. => false
  | .SetComp .. => false
  | .DictComp .. => false
  | _ => true
theorem swaps_of {e : Expr} (h : noComp e = true) (t : Option Expr) (l : Nat) (env : PySem.Env) : swapsWith e t l env = pure false := by
  cases e <;> first | rfl | cases h
end DL
set_option linter.all false
set_option maxRecDepth 100000
set_option maxHeartbeats 1000000
namespace DL
open PySem PySem.Spec PyProof.Rows L2
theorem notStar {l : List (Bool × Sem Value)} (h : l.any (·.1) = false) : (l.all fun x => !x.1) = true := by
  induction l with
  | nil => rfl
  | cons x l ih =>
    rw [List.any_cons, Bool.or_eq_false_iff] at h
    rw [List.all_cons, ih h.2, h.1]; rfl
/-- a method's call, as the text has it -/
theorem ht_of {o : Expr} {nm : Str} {ap pos : Pos} {args : List Expr} (env : PySem.Env) (hb : noSuper o = true) (hs : args.all noStar = true) (hn : args.length < 30) (hl : ap.endLine = pos.line) :
    eval (.Call (.Attribute o nm ap) args [] pos) env = (do
      let ov ← eval o env
      standAt ap.atName
      let (f, first) ← holding [ov] (getMethod ov nm (do return (← importBound o env).getD true))
      callWith pos f first (backTo pos (starEach args env)) (backToKw pos (keywordEach [] env))) := by
  show (do
    let ov ← attributeBase o nm env (eval o env)
    standAt ap.atName
    methodCall o nm ap pos env ov (args.length + ([] : List Keyword).length) (backTo pos (starEach args env)) (backToKw pos (keywordEach [] env))) = _
  rw [base_of hb]
  have few : methodCallForm (args.length + ([] : List Keyword).length) (backTo pos (starEach args env)) (backToKw pos (keywordEach [] env)) = true := by
    unfold methodCallForm
    rw [notStar (star_any hs pos env)]
    show (true && true && decide (args.length + 0 + 0 < 30)) = true
    simp; exact hn
  have pc : methodCallPos true o env ap pos = pure pos := by
    unfold methodCallPos
    rw [if_pos (by rw [hl]; simp)]
  congr 1
  funext ov
  congr 1
  funext _
  unfold methodCall
  rw [few]
  unfold calleeOf
  rw [pc]
  rfl
section
variable {X : Cx} {k : Nat} {g C : Addr} {fd : FuncData} {ps : List Str} {sp : Sp}
/-- a new instance, its __init__ run -/
theorem makeG {pins : List (Addr × Obj)} {σ : L2.St} {H : Hp} {s : Shared} {Q : VK} {us : List Value} {vs : List V} (M : Mk X.K C g) (F : FnG X.prog X.w X.K X.mg X.base k g fd ps sp) (hg : X.A.guards = some []) (hr : Room (k + 1) X.A)
    (hb : Binds X.K fd ps []) (I : Inv X pins σ H s) (r : Vals vs us)
    (h : ∀ x dx, H x = none → H dx = none → dx ≠ x → sp (.ref x :: vs) (upd (upd H dx (.own x)) x (.ins C dx [])) (fun v H2 => v = .non ∧ Q (.ref x) H2) E0) : wpAny (model X.prog X.w) X.A (call (.ref C) us) (EP X pins σ Q) X.xe s := by
  have sp0 := h (s.heap.objs.size + 1) s.heap.objs.size (I.hok.fresh (Nat.le_succ _)) (I.hok.fresh (Nat.le_refl _)) (Nat.ne_of_lt (Nat.lt_succ_self _))
  have J := Inv.made (C := C) I
  have rv : Vals (V.ref (s.heap.objs.size + 1) :: vs) (Value.ref (s.heap.objs.size + 1) :: us) := .cons rfl r
  have hlen : (Value.ref (s.heap.objs.size + 1) :: us ++ []).length = ps.length := by
    rw [List.append_nil, ← F.len _ _ _ _ sp0]
    exact rv.length.symm
  have bi := hb _ (Value.ref (s.heap.objs.size + 1) :: us) J.kIn hlen
  rw [List.append_nil] at bi
  refine wpAny_call (make_map (f := g) I.kIn M.makes M.init (beq_iff_eq.mp M.fn) (codeAny_mono (F.go _ X.stack _ _ ⟨Value.ref (s.heap.objs.size + 1) :: us, []⟩ (Value.ref (s.heap.objs.size + 1) :: us) _ _ E0 hg (hr.make C us []) (J.env0.make C us []) bi rv sp0) fun res s' hres => ?_))
  match res, hres with
  | .ok (.ret u), hu =>
    obtain ⟨v, H', I3, rv, ev, q3⟩ := J.after hu
    subst ev
    exact ⟨rv, ⟨V.ref (s.heap.objs.size + 1), H', I3, rfl, q3⟩⟩
  | .ok .next, hu => exact hu.elim
  | .ok .brk, hu => exact hu.elim
  | .ok .cont, hu => exact hu.elim
  | .error e, hu => exact hu.elim
/-- a property read -/
theorem propG {p a dx : Addr} {fs : List (Str × V)} {f : Str} {pins : List (Addr × Obj)} {σ : L2.St} {H : Hp} {s : Shared} {Q : VK} {b : Bool} (I : Inv X pins σ H s) (ea : H a = some (.ins C dx fs)) (c : Cls X.K C) (hp : PropOf X.K C f p g)
    (F : FnG X.prog X.w X.K X.mg X.base k g fd ps sp) (hg : X.A.guards = some []) (hr : Room (k + 1) X.A) (hb : Binds X.K fd ps []) (h : sp [.ref a] H Q E0) :
    wpAny (model X.prog X.w) X.A (getAttr (.ref a) f b) (EP X pins σ Q) X.xe s := by
  obtain ⟨m0, O, z1, z2, z3, z4⟩ := ins_get I.hok ea
  obtain ⟨od, J, z5⟩ := O.look
  obtain ⟨rest, hrec⟩ := hp.rec_
  have I1 := I.tok (s.toks + 1)
  have hlen : ([Value.ref a] ++ []).length = ps.length := (F.len _ _ _ _ h : ([V.ref a] : List V).length = ps.length)
  have hc : (PySem.W.clsIn X.K C).isSome = true := by
    obtain ⟨cd, hc, z6⟩ := PySem.W.any_some c.hd
    rw [hc]; rfl
  have bi := hb _ [.ref a] I1.kIn hlen
  refine PySem.W.get_bind I.kIn J (PySem.W.plainGet_of (c.get f)).1 (PySem.W.findObj_data hc hp.at_ hp.get hp.tak) (PySem.W.plainGet_of (c.get f)).2 (wpAny_call (PySem.W.prop_get (s := { s with toks := s.toks + 1 }) I.kIn hrec ?_))
  refine codeAny_mono (F.go X.A.in1 X.stack { s with toks := s.toks + 1 } H ⟨[.ref a], []⟩ [.ref a] [.ref a] Q E0 hg hr.in1 I1.env0.in1 bi (.cons rfl .nil) h) fun res s' hres => ?_
  match res, hres with
  | .ok (.ret u), hu =>
    obtain ⟨v, H', I3, rv, q3⟩ := I1.after hu
    show wpAny _ _ (handedOut u) _ _ _
    rw [PySem.W.handedOut_of (handed_of rv)]
    exact wpAny_pure ⟨v, H', I3, rv, q3⟩
  | .ok .next, hu => exact hu.elim
  | .ok .brk, hu => exact hu.elim
  | .ok .cont, hu => exact hu.elim
  | .error e, hu => exact hu.elim
/-- str(x) by an own __str__ -/
def rStrO (C : Addr) (sp : Sp) : List V → Hp → VK → Prop := fun xs H Q => ∃ a dx fs, xs = [V.ref a] ∧ H a = some (.ins C dx fs) ∧ sp [.ref a] H (fun w H' => ∃ z, w = .str z ∧ Q (.str z) H') E0
theorem call_strO (M : Meth X.K C "__str__" g) (F : FnG X.prog X.w X.K X.mg X.base k g fd ps sp) (hg : X.A.guards = some []) (hr : Room (k + 2) X.A) (hb : Binds X.K fd ps []) : CallR X (.type "str") (rStrO C sp) := by
  intro pins s σ H xs us Q I r h
  obtain ⟨a, dx, fs, rfl, ea, h⟩ := h
  obtain ⟨u, rfl, rx⟩ := vals1 r
  obtain rfl : u = Value.ref a := rx
  obtain ⟨m0, O, z1, z2, z3, z4⟩ := ins_get I.hok ea
  obtain ⟨od, J, z5⟩ := O.look
  have hlen : ([Value.ref a] ++ []).length = ps.length := (F.len _ _ _ _ h : ([V.ref a] : List V).length = ps.length)
  have bi := hb s [.ref a] I.kIn hlen
  refine PySem.W.kso_call (by have := hr.in1.in1.un; omega) I.kIn J M.at_ M.fn ?_
  refine wpAny_call (codeAny_mono (F.go X.A.in1.in1 X.stack s H ⟨[.ref a], []⟩ [.ref a] [.ref a] _ E0 hg hr.in1.in1 I.env0.in1.in1 bi (.cons rfl .nil) h) fun res s' hres => ?_)
  match res, hres with
  | .ok (.ret u), hu =>
    obtain ⟨v, H', I3, rv, z, rfl, q3⟩ := I.after hu
    obtain ⟨t, rfl⟩ := (show ∃ t, u = Value.str z t from rv)
    exact ⟨.str z, H', I3, ⟨t, rfl⟩, q3⟩
  | .ok .next, hu => exact hu.elim
  | .ok .brk, hu => exact hu.elim
  | .ok .cont, hu => exact hu.elim
  | .error e, hu => exact hu.elim
end
end DL
set_option linter.all false
set_option maxRecDepth 100000
set_option maxHeartbeats 2000000
namespace DL
open PySem PySem.Spec PyProof.Rows L2
structure Stat where
  N : List Str
  nm : Nat → Str
  ar : Nat → List Str
  dfl : Nat → List D
  has : Nat → Bool
  cst : List (Str × D)
  kw : List (Nat × List Str × List Nat)
  /-- the defs that are methods, __init__s and getters too -/
  hasM : Nat → Bool := fun _ => false
  mth : List (Nat × Nat × Str) := []
  prp : List (Nat × Nat × Str) := []
  mks : List (Nat × Nat × Str) := []
  fds : List (Nat × Str) := []
  isc : List (Nat × Str) := []
def visB (sc : Scope) (x : Str) : Bool := match sc.names.lookup x with
  | some .local => true
  | some .cell => true
  | some .free => true
  | _ => false
def locB (sc : Scope) (x : Str) : Bool := match sc.names.lookup x with
  | some .local => true
  | some .cell => true
  | _ => false
def glbB (sc : Scope) (x : Str) : Bool := match sc.names.lookup x with
  | some .globalImplicit => true
  | _ => false
def plainN (x : Str) : Bool := decide (x ≠ "__debug__") && decide (x ≠ "__classdict__") && decide (x ≠ "__name__")
def cstB (d : D) (x : Expr) : Bool := match x, d with
  | .Constant (.int i) _ _, .int j => decide (i = j)
  | .Constant (.bool i) _ _, .bl j => decide (i = j)
  | .Constant .none _ _, .non => true
  | .Constant (.str s) _ _, .str t => decide (s = str0 t)
  | _, _ => false
def mthN : Mth → Str
  | .join => "join"
  | .split => "split"
  | .startswith => "startswith"
def ownB (N : List Str) (own : List Nat) : List (Str × Nat) := own.map fun i => (N.getD i Str.empty, i)
def blkB (N : List Str) (sc scope : Scope) (own : List Nat) : Bool := blkC N sc scope (ownB N own)
mutual
def tgIn (own : List Nat) : Tg → Bool
  | .nm i => own.contains i
  | .sub _ _ => false
  | .tp ts => tgsIn own ts
def tgsIn (own : List Nat) : Tgs → Bool
  | .nil => true
  | .cons t ts => tgIn own t && tgsIn own ts
end
def dvB (Γ : Stat) (f : Nat) (dv : List D) : Bool := match dv with
  | [] => true
  | dv => sameL dv (Γ.dfl f)
def tri (L : List (Nat × Nat × Str)) (f c : Nat) (x : Str) : Bool := L.any fun q => decide (q.1 = f) && decide (q.2.1 = c) && decide (q.2.2 = x)
theorem tri_mem {L : List (Nat × Nat × Str)} {f c : Nat} {x : Str} (h : tri L f c x = true) : (f, c, x) ∈ L := by
  obtain ⟨q, hq, h⟩ := List.any_eq_true.mp h
  simp only [Bool.and_eq_true, decide_eq_true_eq] at h
  obtain ⟨⟨h1, h2⟩, h3⟩ := h
  rw [← h1, ← h2, ← h3]; exact hq
def duo (L : List (Nat × Str)) (c : Nat) (x : Str) : Bool := L.any fun q => decide (q.1 = c) && decide (q.2 = x)
theorem duo_mem {L : List (Nat × Str)} {c : Nat} {x : Str} (h : duo L c x = true) : (c, x) ∈ L := by
  obtain ⟨q, hq, h⟩ := List.any_eq_true.mp h
  simp only [Bool.and_eq_true, decide_eq_true_eq] at h
  rw [← h.1, ← h.2]; exact hq
section
variable (Γ : Stat)
mutual
def chkE (sc : Scope) (tt : Bool) : E → Expr → Bool
  | .var i, x => match x with
    | .Name n _ => decide (Γ.N[i]? = some n) && visB sc n && plainN n
    | _ => false
  | .cst d, x => cstB d x
  | .glb d, x => match x with
    | .Name n _ => glbB sc n && plainN n && (match Γ.cst.lookup n with | some d' => sameD d' d | none => false)
    | _ => false
  | .tup es, x => match x with
    | .Tuple xs _ _ => chkEs sc es xs && decide (xs.length ≤ 1000)
    | _ => false
  | .lst es, x => match x with
    | .List xs _ => chkEs sc es xs && decide (xs.length ≤ 1000)
    | _ => false
  | .nlst es, x => match x with
    | .List xs _ => chkEs sc es xs && decide (xs.length ≤ 1000)
    | _ => false
  | .ndic, x => match x with
    | .Dict [] [] _ => true
    | _ => false
  | .ndip, x => match x with
    | .Dict [] [] _ => true
    | _ => false
  | .ddic, x => match x with
    | .Dict [] [] _ => true
    | _ => false
  | .bin op a b, x => match x with
    | .BinOp l o r _ => decide (o = opB op) && chkE sc false a l && chkE sc false b r
    | _ => false
  | .neg a, x => match x with
    | .UnaryOp .USub y _ => chkE sc false a y
    | _ => false
  | .cmp op a b, x => match x with
    | .Compare l [o] [r] _ => decide (o = opC op) && noSet r && chkE sc false a l && chkE sc false b r
    | _ => false
  | .chain p q a b c, x => match x with
    | .Compare l [o, o'] [r, s] _ => decide (o = opC p) && decide (o' = opC q) && noSet r && noSet s && chkE sc false a l && chkE sc false b r && chkE sc false c s
    | _ => false
  | .conj es, x => match x with
    | .BoolOp .And xs _ => chkCj sc es xs
    | _ => false
  | .disj es, x => match x with
    | .BoolOp .Or xs _ => chkCj sc es xs
    | _ => false
  | .inv a, x => match x with
    | .UnaryOp .Not y _ => chkE sc tt a y
    | _ => false
  | .ite c a b, x => match x with
    | .IfExp t p q _ => !tt && chkE sc true c t && chkE sc false a p && chkE sc false b q
    | _ => false
  | .idx a i, x => match x with
    | .Subscript v s _ => noSlice s && chkE sc false a v && chkE sc false i s
    | _ => false
  | .slTo a i, x => match x with
    | .Subscript v (.Slice none (some u) none _) _ => chkE sc false a v && chkE sc false i u
    | _ => false
  | .slFr a i, x => match x with
    | .Subscript v (.Slice (some u) none none _) _ => chkE sc false a v && chkE sc false i u
    | _ => false
  | .slMi a i j, x => match x with
    | .Subscript v (.Slice (some u) (some u') none _) _ => chkE sc false a v && chkE sc false i u && chkE sc false j u'
    | _ => false
  | .slen a, x => match x with
    | .Call (.Name n _) [y] [] _ => glbB sc n && decide (n = "len") && noStar y && chkE sc false a y
    | _ => false
  | .sidx a i, x => match x with
    | .Subscript v s _ => noSlice s && chkE sc false a v && chkE sc false i s
    | _ => false
  | .sto a i, x => match x with
    | .Subscript v (.Slice none (some u) none _) _ => chkE sc false a v && chkE sc false i u
    | _ => false
  | .step n a, x => match x with
    | .Subscript v (.Slice (some (.Constant (.int i) _ _)) none (some (.Constant (.int i2) _ _)) _) _ => decide (i = (n : Int)) && decide (i2 = 2) && decide (n ≤ 1) && chkE sc false a v
    | _ => false
  | .call f es dv, x => match Γ.has f with
    | false => !Γ.hasM f
    | true => match x with
      | .Call (.Name n _) (y :: ys) [] _ => glbB sc n && plainN n && decide (n = Γ.nm f) && (y :: ys).all noStar && dvB Γ f dv && chkEs sc es (y :: ys)
      | .Call (.Name n _) [] [] _ => glbB sc n && plainN n && decide (n = Γ.nm f) && dvB Γ f dv && chkEs sc es []
      | _ => false
  | .callK f perm es, x => match Γ.has f with
    | false => !Γ.hasM f
    | true => match x with
      | .Call (.Name n _) [] kws _ => glbB sc n && plainN n && decide (n = Γ.nm f) && kws.all (fun k => k.arg.isSome) && (Γ.kw.any fun q => decide (q.1 = f) && decide (q.2.1 = kws.filterMap (fun k => k.arg)) && decide (q.2.2 = perm)) && chkKs sc es kws
      | _ => false
  | .blt b es, x => match x with
    | .Call (.Name n _) (y :: ys) [] _ => glbB sc n && decide (n = bltN b) && (y :: ys).all noStar && chkEs sc es (y :: ys)
    | _ => false
  | .nlist e, x => match x with
    | .Call (.Name n _) [y] [] _ => glbB sc n && decide (n = "list") && noStar y && chkE sc false e y
    | _ => false
  | .isi a t, x => match x with
    | .Call (.Name n _) [y, .Name tn _] [] _ => glbB sc n && decide (n = "isinstance") && glbB sc tn && noStar y && chkE sc false a y && (match t with
      | .cls c => duo Γ.isc c tn && plainN tn
      | t => decide (tn = Str.ofString (tyT t)))
    | _ => false
  | .mth f o e, x => match x with
    | .Call (.Attribute v name ap) [y] [] p => decide (name = mthN f) && noSuper v && decide (ap.endLine = p.line) && noStar y && chkE sc false o v && chkE sc false e y
    | _ => false
  | .get o k d, x => match x with
    | .Call (.Attribute v name ap) [y, z] [] p => decide (name = "get") && noSuper v && decide (ap.endLine = p.line) && noStar y && noStar z && chkE sc false o v && chkE sc false k y && chkE sc false d z
    | _ => false
  | .pop o, x => match x with
    | .Call (.Attribute v name ap) [] [] p => decide (name = "pop") && noSuper v && decide (ap.endLine = p.line) && chkE sc false o v
    | _ => false
  | .litems o, x => match x with
    | .Call (.Name n _) [.Call (.Attribute v name ap) [] [] cp] [] _ => glbB sc n && decide (n = "list") && decide (name = "items") && noSuper v && decide (ap.endLine = cp.line) && chkE sc false o v
    | _ => false
  | .sitems o, x => match x with
    | .Call (.Name n _) [.Call (.Attribute v name ap) [] [] cp] [] _ => glbB sc n && decide (n = "sorted") && decide (name = "items") && noSuper v && decide (ap.endLine = cp.line) && chkE sc false o v
    | _ => false
  | .fld c o, x => match x with
    | .Attribute v name _ => noSuper v && duo Γ.fds c name && chkE sc false o v
    | _ => false
  | .prop f c o, x => match Γ.hasM f with
    | false => !Γ.has f
    | true => match x with
      | .Attribute v name _ => noSuper v && tri Γ.prp f c name && chkE sc false o v
      | _ => false
  | .meth f c o es, x => match Γ.hasM f with
    | false => !Γ.has f
    | true => match x with
      | .Call (.Attribute v name ap) (y :: ys) [] p => noSuper v && decide (ap.endLine = p.line) && tri Γ.mth f c name && (y :: ys).all noStar && decide ((y :: ys).length < 30) && chkE sc false o v && chkEs sc es (y :: ys)
      | .Call (.Attribute v name ap) [] [] p => noSuper v && decide (ap.endLine = p.line) && tri Γ.mth f c name && chkE sc false o v && chkEs sc es []
      | _ => false
  | .sset e, x => match x with
    | .Call (.Name n _) [.Call (.Name n' _) [y] [] _] [] _ => glbB sc n && decide (n = "sorted") && glbB sc n' && decide (n' = "set") && noStar y && chkE sc false e y
    | _ => false
  | .strO f c o, x => match Γ.hasM f with
    | false => !Γ.has f
    | true => match x with
      | .Call (.Name n _) [y] [] _ => glbB sc n && decide (n = "str") && tri Γ.mth f c "__str__" && noStar y && chkE sc false o y
      | _ => false
  | .lc own tg it cs e, x => match x with
    | .ListComp elt [⟨t, iter, ifs, 0⟩] scope _ => noSet iter && blkB Γ.N sc scope own && tgIn own tg && chkTg scope tg t && chkIt sc it t iter && chkIf scope cs ifs && chkE scope false e elt
    | _ => false
  | .fstr es, x => match x with
    | .JoinedStr (v :: v' :: vs) _ => chkFs sc es (v :: v' :: vs)
    | _ => false
  | .mk g c e, x => match Γ.hasM g with
    | false => !Γ.has g
    | true => match x with
      | .Call (.Name n _) [y] [] _ => glbB sc n && plainN n && tri Γ.mks g c n && noStar y && chkE sc false e y
      | _ => false
  | .stuck, _ => true
def chkEs (sc : Scope) : Es → List Expr → Bool
  | .nil, xs => xs.isEmpty
  | .cons e es, xs => match xs with
    | y :: ys => noStar y && chkE sc false e y && chkEs sc es ys
    | [] => false
/-- both as values and as tests -/
def chkCj (sc : Scope) : Es → List Expr → Bool
  | .nil, _ => false
  | .cons e es, xs => match xs with
    | [y] => chkE sc false e y && chkE sc true e y && (match es with | .nil => true | _ => false)
    | y :: ys => chkE sc false e y && chkE sc true e y && chkCj sc es ys
    | [] => false
def chkIf (sc : Scope) : Es → List Expr → Bool
  | .nil, xs => xs.isEmpty
  | .cons e es, xs => match xs with
    | [y] => chkE sc true e y && (match es with | .nil => true | _ => false)
    | _ => false
def chkKs (sc : Scope) : Es → List Keyword → Bool
  | .nil, xs => xs.isEmpty
  | .cons e es, xs => match xs with
    | ⟨_, y, _⟩ :: ys => chkE sc false e y && chkKs sc es ys
    | [] => false
def chkFs (sc : Scope) : Es → List Expr → Bool
  | .nil, xs => xs.isEmpty
  | .cons e es, xs => match xs with
    | .FormattedValue y (-1) none _ :: ys => chkE sc false e y && chkFs sc es ys
    | y :: ys => (match e with | .cst (.str _) => chkE sc false e y | _ => false) && chkFs sc es ys
    | [] => false
def chkIt (sc : Scope) : It → Expr → Expr → Bool
  | .seq e, t, x => chkE sc false e x
  | .rng e, t, x => match x with
    | .Call (.Name n _) [y] [] _ => glbB sc n && decide (n = "range") && noStar y && chkE sc false e y
    | _ => false
  | .enum e, t, x => match x, t with
    | .Call (.Name n _) [y] [] _, .Tuple _ _ _ => glbB sc n && decide (n = "enumerate") && noStar y && chkE sc false e y
    | _, _ => false
  | .items e, _, _ => false
  | .stuck, _, _ => true
def chkTg (sc : Scope) : Tg → Expr → Bool
  | .nm i, x => match x with
    | .Name n _ => decide (Γ.N[i]? = some n) && locB sc n
    | _ => false
  | .sub o i, x => match x with
    | .Subscript v s _ => noSlice s && chkE sc false o v && chkE sc false i s
    | _ => false
  | .tp ts, x => match x with
    | .Tuple xs _ _ => chkTgs sc ts xs && xs.all noStar
    | _ => false
def chkTgs (sc : Scope) : Tgs → List Expr → Bool
  | .nil, xs => xs.isEmpty
  | .cons t ts, xs => match xs with
    | y :: ys => chkTg sc t y && chkTgs sc ts ys
    | [] => false
end
end
end DL
set_option linter.all false
set_option maxRecDepth 100000
set_option maxHeartbeats 4000000
namespace DL
open PySem PySem.Spec PyProof.Rows L2
abbrev Fn := Nat → List U → Mem → R U
def Cls'.b (C : Cls') (l : List Addr) : Cls' := ⟨C.at_, C.fn, l, C.K⟩
/-- what a def of the table promises -/
def spF (C0 : Cls') (n : Nat) (F : List U → Mem → R U) : Sp := fun vs H Q _ => ∃ l ι m us u m', let C := C0.b l; us.length = n ∧ StM C ι H m ∧ RepUs C ι H us vs ∧ F us m = .ok u m' ∧ ∀ ι' H' v, Ext ι ι' H H' → StM C ι' H' m' → RepU C ι' H' u v → Q v H'
/-- what the module holds -/
structure GOk (Γ : Stat) (C : Cls') (F : Fn) (k : Nat) (P : Program) (w : World) (K : PySem.W.Frag) (mg : Str → Option Value) (base : Heap) : Prop where
  fn : ∀ f, Γ.has f = true → ∃ a fd, mg (Γ.nm f) = some (.ref a) ∧ PySem.W.keepIn K (.ref a) = true ∧ FnG P w K mg base (3 * k) a fd (Γ.ar f) (spF C (Γ.ar f).length (F f)) ∧
    (∀ dv, dv = [] ∨ dv = Γ.dfl f → ∃ ds dvs, Vals dvs ds ∧ (∀ l ι H, RepL (C.b l) ι H dv dvs) ∧ Binds K fd (Γ.ar f) ds) ∧
    (∀ ks perm, (f, ks, perm) ∈ Γ.kw → ∀ (st : Shared) (us : List Value), K.In st.heap → us.length = ks.length → BindsTo st fd ⟨[], ks.zip us⟩ ((Γ.ar f).zip (perm.filterMap fun i => us[i]?)))
  no : ∀ f us m, Γ.has f = false → Γ.hasM f = false → F f us m = .no
  mth : ∀ f c x, (f, c, x) ∈ Γ.mth → ∃ a fd, Cls K (C.at_ c) ∧ Meth K (C.at_ c) x a ∧ x ≠ C.fn c ∧ FnG P w K mg base (3 * k) a fd (Γ.ar f) (spF C (Γ.ar f).length (F f)) ∧ Binds K fd (Γ.ar f) []
  prp : ∀ f c x, (f, c, x) ∈ Γ.prp → ∃ p a fd, Cls K (C.at_ c) ∧ PropOf K (C.at_ c) x p a ∧ FnG P w K mg base (3 * k) a fd (Γ.ar f) (spF C (Γ.ar f).length (F f)) ∧ Binds K fd (Γ.ar f) []
  mks : ∀ g c x, (g, c, x) ∈ Γ.mks → ∃ a fd, mg x = some (.ref (C.at_ c)) ∧ Mk K (C.at_ c) a ∧ FnG P w K mg base (3 * k) a fd (Γ.ar g) (spF C (Γ.ar g).length (F g)) ∧ Binds K fd (Γ.ar g) []
  isc : ∀ c x, (c, x) ∈ Γ.isc → mg x = some (.ref (C.at_ c)) ∧ PySem.W.keepIn K (.ref (C.at_ c)) = true ∧ Cls K (C.at_ c) ∧ IsC K (C.at_ c)
  fds : ∀ c x, (c, x) ∈ Γ.fds → Cls K (C.at_ c) ∧ NoAttr K (C.at_ c) x ∧ C.fn c = x
  ar : ∀ f us m d m', F f us m = .ok d m' → us.length = (Γ.ar f).length
  cst : ∀ x d, Γ.cst.lookup x = some d → ∃ u v, mg x = some u ∧ RelV v u ∧ ∀ l ι H, RepD (C.b l) ι H d v
  blt : ∀ b : Blt, mg (bltN b) = none
  bty : ∀ t : Ty, (∀ c, t ≠ .cls c) → mg (Str.ofString (tyT t)) = none
  isi : mg "isinstance" = none
  set : mg "set" = none
  rng : mg "range" = none
  enm : mg "enumerate" = none
structure CxOk (Γ : Stat) (C : Cls') (F : Fn) (k : Nat) (sc : Scope) (X : Cx) : Prop where
  hN : X.N = Γ.N
  nd : X.N.Nodup
  calm : X.calm = true
  room : Room (3 * k + 2) X.A
  grd : X.A.guards = some []
  xe : X.xe = fun _ _ => False
  hK : X.K = C.K
  vis : ∀ x, visB sc x = true → Vis X.env.scope x
  loc : ∀ x, locB sc x = true → Loc X.env.scope x ∧ (X.fn x = true ∨ X.env.scope.names.lookup x = some .local)
  glb : ∀ x, glbB sc x = true → Gl X x
  fre : ∀ x, (sc.names.lookup x = some .cell ∨ sc.names.lookup x = some .free) → X.env.scope.names.lookup x = some .cell ∨ X.env.scope.names.lookup x = some .free
  g : GOk Γ C F k X.prog X.w X.K X.mg X.base
section
variable (C0 : Cls') (F : Fn)
def tE (e : E) : TE := fun σ H Q => ∃ l ι ρ m u m', let C := C0.b l; EnvR C ι H ρ σ ∧ StM C ι H m ∧ evE F e ρ m = .ok u m' ∧ ∀ ι' H' v, Ext ι ι' H H' → StM C ι' H' m' → RepU C ι' H' u v → Q v H'
def tT (e : E) : TT := fun σ H Q => ∃ l ι ρ m k m', let C := C0.b l; EnvR C ι H ρ σ ∧ StM C ι H m ∧ evE F e ρ m = .ok (.d (.bl k)) m' ∧ ∀ ι' H', Ext ι ι' H H' → StM C ι' H' m' → Q k H'
def tA (es : Es) : TA := fun σ H Q => ∃ l ι ρ m us m', let C := C0.b l; EnvR C ι H ρ σ ∧ StM C ι H m ∧ evEs F es ρ m = .ok us m' ∧ ∀ ι' H' vs, Ext ι ι' H H' → StM C ι' H' m' → RepUs C ι' H' us vs → Q vs H'
/-- and (b true), or: a list of truths, as a value, as a test -/
def tJ (b : Bool) (es : Es) : TT := fun σ H Q => ∃ l ι ρ m k m', let C := C0.b l; EnvR C ι H ρ σ ∧ StM C ι H m ∧ evCj F b es ρ m = .ok k m' ∧ ∀ ι' H', Ext ι ι' H H' → StM C ι' H' m' → Q k H'
def tJV (b : Bool) (es : Es) : TE := fun σ H Q => ∃ l ι ρ m k m', let C := C0.b l; EnvR C ι H ρ σ ∧ StM C ι H m ∧ evCj F b es ρ m = .ok k m' ∧ ∀ ι' H', Ext ι ι' H H' → StM C ι' H' m' → Q (.bl k) H'
end
theorem pe_imp {X : Cx} {x : Expr} {t t' : TE} (h : PE X x t) (i : ∀ σ H Q, t' σ H Q → t σ H Q) : PE X x t' := ⟨fun pins s σ H Q I q => h.run pins s σ H Q I (i σ H Q q)⟩
theorem pt_imp {X : Cx} {x : Expr} {t t' : TT} (h : PT X x t) (i : ∀ σ H Q, t' σ H Q → t σ H Q) : PT X x t' := ⟨fun pins s σ H Q I q => h.run pins s σ H Q I (i σ H Q q)⟩
theorem pw_imp {X : Cx} {x : Expr} {t t' : TT} (h : PW X x t) (i : ∀ σ H Q, t' σ H Q → t σ H Q) : PW X x t' := ⟨fun wh pins s σ H Q I q => h.run wh pins s σ H Q I (i σ H Q q)⟩
theorem pa_imp {X : Cx} {x : List Expr} {t t' : TA} (h : PA X x t) (i : ∀ σ H Q, t' σ H Q → t σ H Q) : PA X x t' := ⟨fun pos pins s σ H Q I q => h.run pos pins s σ H Q I (i σ H Q q)⟩
theorem pe_no {X : Cx} {x : Expr} {t : TE} (i : ∀ σ H Q, t σ H Q → False) : PE X x t := ⟨fun pins s σ H Q I q => (i σ H Q q).elim⟩
theorem pe_or' {X : Cx} {x : Expr} {t t' : TE} (h : PE X x t) (h' : PE X x t') : PE X x (fun σ H Q => t σ H Q ∨ t' σ H Q) :=
  ⟨fun pins s σ H Q I q => q.elim (fun z => h.run pins s σ H Q I z) fun z => h'.run pins s σ H Q I z⟩
section
variable {C : Cls'} {F : Fn} {X : Cx} {x : Expr} {e : E}
/-- a test by its value -/
theorem pt_of (h : PE X x (tE C F e)) (ht : tst x = true) : PT X x (tT C F e) := by
  refine pt_imp (pt_val h (fun whole => tst_of ht _ _)) ?_
  rintro σ H Q ⟨l, ι, ρ, m, k, m', he, hs, hev, q⟩
  exact ⟨l, ι, ρ, m, _, m', he, hs, hev, fun ι' H' v e1 s1 r1 => ⟨k, r1, q ι' H' e1 s1⟩⟩
theorem fin1 {b c : Bool} (hc : c = b) (h : b = true → PE X x (tE C F e) ∧ tst x = true) : (b = true → PE X x (tE C F e)) ∧ (c = true → PT X x (tT C F e)) :=
  ⟨fun hb => (h hb).1, fun hb => pt_of (h (hc ▸ hb)).1 (h (hc ▸ hb)).2⟩
end
section
variable {Γ : Stat} {C : Cls'} {F : Fn} {k : Nat} {sc : Scope} {X : Cx}
theorem CxOk.u65 (ok : CxOk Γ C F k sc X) : X.A.units + 65 < cLine := by have := ok.room.un; omega
theorem CxOk.u1 (ok : CxOk Γ C F k sc X) : X.A.units + 1 < cLine := by have := ok.room.un; omega
theorem vis_look {sc : Scope} {x : Str} (h : visB sc x = true) : sc.names.lookup x = some .local ∨ sc.names.lookup x = some .cell ∨ sc.names.lookup x = some .free := by
  unfold visB at h
  split at h <;> first | (rename_i q; simp [q]; done) | cases h
theorem loc_look {sc : Scope} {x : Str} (h : locB sc x = true) : sc.names.lookup x = some .local ∨ sc.names.lookup x = some .cell := by
  unfold locB at h
  split at h <;> first | (rename_i q; simp [q]; done) | cases h
theorem glb_look {sc : Scope} {x : Str} (h : glbB sc x = true) : sc.names.lookup x = some .globalImplicit := by
  unfold glbB at h
  split at h <;> first | (rename_i q; exact q) | cases h
theorem plain_db {x : Str} (h : plainN x = true) : (x == ("__debug__" : Str)) = false ∧ (x == ("__classdict__" : Str)) = false ∧ x ≠ "__name__" := by
  unfold plainN at h
  simp only [Bool.and_eq_true, decide_eq_true_eq] at h
  exact ⟨beq_eq_false_iff_ne.mpr h.1.1, beq_eq_false_iff_ne.mpr h.1.2, h.2⟩
theorem lookup_rel (env : PySem.Env) : ∀ {names : List (Str × NameKind)} {x : Str} {kd : NameKind}, names.lookup x = some kd →
    ∃ kd', (names.map fun (n, k) => if (k == NameKind.free && env.scope.kind == .function && env.kindOf n == some .cell) then (n, NameKind.cell) else (n, k)).lookup x = some kd' ∧ (kd' = kd ∨ (kd = .free ∧ kd' = .cell))
  | [], x, kd, h => by cases h
  | (n, k) :: r, x, kd, h => by
    rw [List.lookup_cons] at h
    cases e : x == n with
    | true =>
      rw [e] at h
      cases h
      by_cases c : (k == NameKind.free && env.scope.kind == .function && env.kindOf n == some .cell) = true
      · refine ⟨.cell, ?_, .inr ⟨?_, rfl⟩⟩
        · simp only [List.map_cons, c, if_true, List.lookup_cons, e]
        · simp only [Bool.and_eq_true] at c
          exact eq_of_beq c.1.1
      · refine ⟨k, ?_, .inl rfl⟩
        show List.lookup x ((if (k == NameKind.free && env.scope.kind == .function && env.kindOf n == some .cell) = true then (n, NameKind.cell) else (n, k)) :: _) = _
        rw [if_neg c, List.lookup_cons, e]
    | false =>
      rw [e] at h
      obtain ⟨kd', h1, h2⟩ := lookup_rel env h
      refine ⟨kd', ?_, h2⟩
      by_cases c : (k == NameKind.free && env.scope.kind == .function && env.kindOf n == some .cell) = true
      · show List.lookup x ((if (k == NameKind.free && env.scope.kind == .function && env.kindOf n == some .cell) = true then (n, NameKind.cell) else (n, k)) :: _) = _
        rw [if_pos c, List.lookup_cons, e]; exact h1
      · show List.lookup x ((if (k == NameKind.free && env.scope.kind == .function && env.kindOf n == some .cell) = true then (n, NameKind.cell) else (n, k)) :: _) = _
        rw [if_neg c, List.lookup_cons, e]; exact h1
/-- the block of a comprehension -/
theorem CxOk.blk (ok : CxOk Γ C F k sc X) {scope : Scope} (st : Shared) (H : Hp) (Ca : Addr) (cl : List (Str × Addr)) (fp : List Addr) : CxOk Γ C F k scope (X.blk st H scope (compEnvC scope cl Ca X.env) fp) where
  hN := ok.hN
  nd := ok.nd
  calm := ok.calm
  room := ok.room
  grd := ok.grd
  xe := rfl
  hK := ok.hK
  vis := fun x h => by
    rcases vis_look h with h | h | h
    · obtain ⟨kd, h1, h2⟩ := lookup_rel X.env h
      rcases h2 with rfl | ⟨z, _⟩
      · exact .inl h1
      · cases z
    · obtain ⟨kd, h1, h2⟩ := lookup_rel X.env h
      rcases h2 with rfl | ⟨z, _⟩
      · exact .inr (.inl h1)
      · cases z
    · obtain ⟨kd, h1, h2⟩ := lookup_rel X.env h
      rcases h2 with rfl | ⟨_, rfl⟩
      · exact .inr (.inr h1)
      · exact .inr (.inl h1)
  loc := fun x h => by
    rcases loc_look h with h | h
    · obtain ⟨kd, h1, h2⟩ := lookup_rel X.env h
      rcases h2 with rfl | ⟨z, _⟩
      · exact ⟨.inl h1, .inr h1⟩
      · cases z
    · obtain ⟨kd, h1, h2⟩ := lookup_rel X.env h
      rcases h2 with rfl | ⟨z, _⟩
      · exact ⟨.inr h1, .inl (by show (scope.names.lookup x == some NameKind.cell) = true; rw [h]; rfl)⟩
      · cases z
  glb := fun x h => by
    obtain ⟨kd, h1, h2⟩ := lookup_rel X.env (glb_look h)
    rcases h2 with rfl | ⟨z, _⟩
    · exact h1
    · cases z
  fre := fun x h => by
    rcases h with h | h
    · obtain ⟨kd, h1, h2⟩ := lookup_rel X.env h
      rcases h2 with rfl | ⟨z, _⟩
      · exact .inl h1
      · cases z
    · obtain ⟨kd, h1, h2⟩ := lookup_rel X.env h
      rcases h2 with rfl | ⟨_, rfl⟩
      · exact .inr h1
      · exact .inl h1
  g := ok.g
theorem blkOk_of {scope : Scope} {own : List Nat} (ok : CxOk Γ C F k sc X) (h : blkB Γ.N sc scope own = true) : BlkOk X.N X.env.scope scope (ownB Γ.N own) := by
  have b := blkOk_by h
  refine ⟨b.kind, b.uniq, fun p hp => by rw [ok.hN]; exact b.ix p hp, fun y hy e => ok.fre _ (b.free y hy e), fun y hy e => ?_⟩
  rw [ok.hN]
  exact b.own y hy e
end
end DL
set_option linter.all false
set_option maxRecDepth 100000
set_option maxHeartbeats 4000000
namespace DL
open PySem PySem.Spec PyProof.Rows L2 LiI
section
variable {X : Cx}
theorem opR_ex {C0 : Cls'} {f : Value → Value → Sem Value} {r : Cls' → R2} (h : ∀ C, OpR X f (r C)) : OpR X f (fun x y H Q => ∃ l, r (C0.b l) x y H Q) := by
  intro pins s σ H x y v u Q I rx ry ⟨l, q⟩
  exact h _ pins s σ H x y v u Q I rx ry q
theorem callR_ex {C0 : Cls'} {f : Value} {r : Cls' → List V → Hp → VK → Prop} (h : ∀ C, CallR X f (r C)) : CallR X f (fun xs H Q => ∃ l, r (C0.b l) xs H Q) := by
  intro pins s σ H xs us Q I r0 ⟨l, q⟩
  exact h _ pins s σ H xs us Q I r0 q
theorem mtR_ex {C0 : Cls'} {id : String} {r : Cls' → V → List V → Hp → VK → Prop} (h : ∀ C, MtR X id (r C)) : MtR X id (fun x xs H Q => ∃ l, r (C0.b l) x xs H Q) := by
  intro pins s σ H x xs v us Q I rx rs ⟨l, q⟩
  exact h _ pins s σ H x xs v us Q I rx rs q
theorem slR_ex {C0 : Cls'} {r : Cls' → V → Option Int → Option Int → Hp → VK → Prop} (h : ∀ C, SlR X (r C)) : SlR X (fun x lo hi H Q => ∃ l, r (C0.b l) x lo hi H Q) := by
  intro pins s σ H x v vl vu lo hi sl Q I rx hs pl pu ⟨l, q⟩
  exact h _ pins s σ H x v vl vu lo hi sl Q I rx hs pl pu q
theorem set_ex {C0 : Cls'} {r : Cls' → TSet} (h : ∀ C, PSet X (r C)) : PSet X (fun o i v H Q => ∃ l, r (C0.b l) o i v H Q) := by
  intro pins s σ H o i v ov iv u Q I ro ri rv ⟨l, q⟩
  exact h _ pins s σ H o i v ov iv u Q I ro ri rv q
end
section
variable {C0 : Cls'} {F : Fn} {σ : L2.St} {H : Hp} {Q : VK}
theorem im_var {i : Nat} (h : tE C0 F (.var i) σ H Q) : tVar i σ H Q := by
  obtain ⟨l, ι, ρ, m, u, m', he, hs, hev, q⟩ := h
  simp only [evE] at hev
  split at hev
  · rename_i u' hu
    cases hev
    obtain ⟨v, h1, h2⟩ := he.2 i _ hu
    exact ⟨v, h1, q ι H v Ext.refl hs h2⟩
  · cases hev
theorem im_cst {d : D} {v : V} (hd : ∀ C ι H, RepD C ι H d v) (h : tE C0 F (.cst d) σ H Q) : tC v σ H Q := by
  obtain ⟨l, ι, ρ, m, u, m', he, hs, hev, q⟩ := h
  simp only [evE] at hev
  cases hev
  exact q ι H v Ext.refl hs (hd _ _ _)
theorem im_glb {d : D} {v : V} (hd : ∀ l ι H, RepD (C0.b l) ι H d v) (h : tE C0 F (.glb d) σ H Q) : tC v σ H Q := by
  obtain ⟨l, ι, ρ, m, u, m', he, hs, hev, q⟩ := h
  simp only [evE] at hev
  cases hev
  exact q ι H v Ext.refl hs (hd _ _ _)
/-- what follows an operation that lays data at most -/
theorem aft_of {C : Cls'} {ι0 ι1 ι2 : List Addr} {H0 H1 H2 : Hp} {m2 : Mem} {r : D} {Q : VK} (e1 : Ext ι0 ι1 H0 H1) (e2 : Ext ι1 ι2 H1 H2) (q : ∀ ι' H' v, Ext ι0 ι' H0 H' → StM C ι' H' m2 → RepU C ι' H' (.d r) v → Q v H') : Aft C ι2 m2 H2 r Q :=
  fun H3 v3 e3 s3 r3 => q ι2 H3 v3 ((e1.trans e2).trans e3) s3 r3
theorem aft_of1 {C : Cls'} {ι0 ι1 : List Addr} {H0 H1 : Hp} {m2 : Mem} {r : D} {Q : VK} (e1 : Ext ι0 ι1 H0 H1) (q : ∀ ι' H' v, Ext ι0 ι' H0 H' → StM C ι' H' m2 → RepU C ι' H' (.d r) v → Q v H') : Aft C ι1 m2 H1 r Q :=
  fun H3 v3 e3 s3 r3 => q ι1 H3 v3 (e1.trans e3) s3 r3
theorem im_bin {op : Bop} {a b : E} (h : tE C0 F (.bin op a b) σ H Q) : tOp (fun x y H Q => ∃ l, rBin (C0.b l) op x y H Q) (tE C0 F a) (tE C0 F b) σ H Q := by
  obtain ⟨l, ι, ρ, m, u, m', he, hs, hev, q⟩ := h
  simp only [evE] at hev
  obtain ⟨x, m1, h1, hev⟩ := R.bind_inv hev
  obtain ⟨y, m2, h2, hev⟩ := R.bind_inv hev
  obtain ⟨e3, rfl⟩ := ofO_inv hev
  obtain ⟨r, h3, rfl⟩ := Option.map_eq_some_iff.mp e3
  exact ⟨l, ι, ρ, m, x, m1, he, hs, h1, fun ι1 H1 v1 e1 s1 r1 => ⟨l, ι1, ρ, m1, y, _, he.ext e1, s1, h2, fun ι2 H2 v2 e2 s2 r2 => ⟨l, ι2, _, x, y, r, s2, r1.ext e2, r2, h3, aft_of e1 e2 q⟩⟩⟩
theorem im_cmp {op : Cop} {a b : E} (h : tE C0 F (.cmp op a b) σ H Q) : tOp (fun x y H Q => ∃ l, rCmp (C0.b l) op x y H Q) (tE C0 F a) (tE C0 F b) σ H Q := by
  obtain ⟨l, ι, ρ, m, u, m', he, hs, hev, q⟩ := h
  simp only [evE] at hev
  obtain ⟨x, m1, h1, hev⟩ := R.bind_inv hev
  obtain ⟨y, m2, h2, hev⟩ := R.bind_inv hev
  obtain ⟨e3, rfl⟩ := ofO_inv hev
  obtain ⟨r, h3, rfl⟩ := Option.map_eq_some_iff.mp e3
  exact ⟨l, ι, ρ, m, x, m1, he, hs, h1, fun ι1 H1 v1 e1 s1 r1 => ⟨l, ι1, ρ, m1, y, _, he.ext e1, s1, h2, fun ι2 H2 v2 e2 s2 r2 => ⟨l, ι2, _, x, y, r, s2, r1.ext e2, r2, h3, q ι2 H2 _ (e1.trans e2) s2 rfl⟩⟩⟩
theorem im_cmpT {op : Cop} {a b : E} {Q : Bool → Hp → Prop} (h : tT C0 F (.cmp op a b) σ H Q) : tTest (tOp (fun x y H Q => ∃ l, rCmp (C0.b l) op x y H Q) (tE C0 F a) (tE C0 F b)) σ H Q := by
  obtain ⟨l, ι, ρ, m, k, m', he, hs, hev, q⟩ := h
  exact im_cmp ⟨l, ι, ρ, m, _, m', he, hs, hev, fun ι' H' v e1 s1 r1 => ⟨k, r1, q ι' H' e1 s1⟩⟩
theorem im_chain {p o : Cop} {a b c : E} (h : tE C0 F (.chain p o a b c) σ H Q) : tChain (fun x y H Q => ∃ l, rCmp (C0.b l) p x y H Q) (fun x y H Q => ∃ l, rCmp (C0.b l) o x y H Q) (tE C0 F a) (tE C0 F b) (tE C0 F c) σ H Q := by
  obtain ⟨l, ι, ρ, m, u, m', he, hs, hev, q⟩ := h
  simp only [evE] at hev
  obtain ⟨x, m1, h1, hev⟩ := R.bind_inv hev
  obtain ⟨y, m2, h2, hev⟩ := R.bind_inv hev
  obtain ⟨kk, m3, h3, hev⟩ := R.bind_inv hev
  obtain ⟨h3, rfl⟩ := ofO_inv h3
  refine ⟨l, ι, ρ, m, x, m1, he, hs, h1, fun ι1 H1 v1 e1 s1 r1 => ⟨l, ι1, ρ, m1, y, _, he.ext e1, s1, h2, fun ι2 H2 v2 e2 s2 r2 => ⟨l, ι2, _, x, y, kk, s2, r1.ext e2, r2, h3, kk, rfl, ?_⟩⟩⟩
  cases kk with
  | false =>
    cases hev
    rw [if_neg Bool.false_ne_true]
    exact q ι2 H2 _ (e1.trans e2) s2 rfl
  | true =>
    rw [if_pos rfl]
    simp only at hev
    obtain ⟨z, m4, h4, hev⟩ := R.bind_inv hev
    obtain ⟨e5, rfl⟩ := ofO_inv hev
    obtain ⟨r, h5, rfl⟩ := Option.map_eq_some_iff.mp e5
    exact ⟨l, ι2, ρ, _, z, _, (he.ext e1).ext e2, s2, h4, fun ι3 H3 v3 e3 s3 r3 => ⟨l, ι3, _, y, z, r, s3, r2.ext e3, r3, h5, q ι3 H3 _ ((e1.trans e2).trans e3) s3 rfl⟩⟩
theorem im_chainT {p o : Cop} {a b c : E} {Q : Bool → Hp → Prop} (h : tT C0 F (.chain p o a b c) σ H Q) : tTest (tChain (fun x y H Q => ∃ l, rCmp (C0.b l) p x y H Q) (fun x y H Q => ∃ l, rCmp (C0.b l) o x y H Q) (tE C0 F a) (tE C0 F b) (tE C0 F c)) σ H Q := by
  obtain ⟨l, ι, ρ, m, k, m', he, hs, hev, q⟩ := h
  exact im_chain ⟨l, ι, ρ, m, _, m', he, hs, hev, fun ι' H' v e1 s1 r1 => ⟨k, r1, q ι' H' e1 s1⟩⟩
theorem im_neg {a : E} (h : tE C0 F (.neg a) σ H Q) : tUn (rU fun i => .int (-i)) (tE C0 F a) σ H Q := by
  obtain ⟨l, ι, ρ, m, u, m', he, hs, hev, q⟩ := h
  simp only [evE] at hev
  obtain ⟨x, m1, h1, hev⟩ := R.bind_inv hev
  split at hev
  · cases hev
    exact ⟨l, ι, ρ, m, _, _, he, hs, h1, fun ι1 H1 v1 e1 s1 r1 => ⟨_, r1, q ι1 H1 _ e1 s1 rfl⟩⟩
  · cases hev
theorem im_inv {a : E} (h : tE C0 F (.inv a) σ H Q) : tNotV (tE C0 F a) σ H Q := by
  obtain ⟨l, ι, ρ, m, u, m', he, hs, hev, q⟩ := h
  simp only [evE] at hev
  obtain ⟨x, m1, h1, hev⟩ := R.bind_inv hev
  split at hev
  · cases hev
    exact ⟨l, ι, ρ, m, _, _, he, hs, h1, fun ι1 H1 v1 e1 s1 r1 => ⟨_, r1, q ι1 H1 _ e1 s1 rfl⟩⟩
  · cases hev
theorem im_invT {a : E} {Q : Bool → Hp → Prop} (h : tT C0 F (.inv a) σ H Q) : tNot (tT C0 F a) σ H Q := by
  obtain ⟨l, ι, ρ, m, k, m', he, hs, hev, q⟩ := h
  simp only [evE] at hev
  obtain ⟨x, m1, h1, hev⟩ := R.bind_inv hev
  split at hev
  · cases hev
    exact ⟨l, ι, ρ, m, _, _, he, hs, h1, fun ι1 H1 e1 s1 => q ι1 H1 e1 s1⟩
  · cases hev
theorem im_ite {c a b : E} (h : tE C0 F (.ite c a b) σ H Q) : tIf (tT C0 F c) (tE C0 F a) (tE C0 F b) σ H Q := by
  obtain ⟨l, ι, ρ, m, u, m', he, hs, hev, q⟩ := h
  simp only [evE] at hev
  obtain ⟨x, m1, h1, hev⟩ := R.bind_inv hev
  split at hev
  · refine ⟨l, ι, ρ, m, true, m1, he, hs, h1, fun ι1 H1 e1 s1 => iteT ?_⟩
    exact ⟨l, ι1, ρ, m1, u, m', he.ext e1, s1, hev, fun ι' H' v e2 s2 r2 => q ι' H' v (e1.trans e2) s2 r2⟩
  · refine ⟨l, ι, ρ, m, false, m1, he, hs, h1, fun ι1 H1 e1 s1 => iteF ?_⟩
    exact ⟨l, ι1, ρ, m1, u, m', he.ext e1, s1, hev, fun ι' H' v e2 s2 r2 => q ι' H' v (e1.trans e2) s2 r2⟩
  · cases hev
theorem im_idx {X : Cx} {a i : E} (h : tE C0 F (.idx a i) σ H Q) : tOp (rIx X.K) (tE C0 F a) (tE C0 F i) σ H Q ∨ tDGet (tE C0 F a) (tE C0 F i) σ H Q := by
  obtain ⟨l, ι, ρ, m, u, m', he, hs, hev, q⟩ := h
  simp only [evE] at hev
  obtain ⟨x, m1, h1, hev⟩ := R.bind_inv hev
  obtain ⟨y, m2, h2, hev⟩ := R.bind_inv hev
  obtain ⟨e3, rfl⟩ := ofO_inv hev
  obtain ⟨r, h3, rfl⟩ := Option.map_eq_some_iff.mp e3
  cases hq : seqIx m' x y with
  | true =>
    exact .inl ⟨l, ι, ρ, m, x, m1, he, hs, h1, fun ι1 H1 v1 e1 s1 r1 => ⟨l, ι1, ρ, m1, y, _, he.ext e1, s1, h2, fun ι2 H2 v2 e2 s2 r2 =>
      ix_seq_of (X := X) (C0.b l) s2 (r1.ext e2) r2 hq h3 fun v rv => q ι2 H2 v (e1.trans e2) s2 rv⟩⟩
  | false =>
    refine .inr ⟨l, ι, ρ, m, x, m1, he, hs, h1, fun ι1 H1 v1 e1 s1 r1 => ⟨l, ι1, ρ, m1, y, _, he.ext e1, s1, h2, fun ι2 H2 v2 e2 s2 r2 => ?_⟩⟩
    obtain ⟨p, v, h4, h5, h6⟩ := idx_dic_of (C0.b l) s2 (r1.ext e2) r2 hq h3
    exact ⟨p, v, h4, h5, q ι2 H2 v (e1.trans e2) s2 h6⟩
def rSl' (C0 : Cls') : V → Option Int → Option Int → Hp → VK → Prop := fun x lo hi H Q => ∃ l, rSlc (C0.b l) x lo hi H Q
theorem im_slTo {a i : E} (h : tE C0 F (.slTo a i) σ H Q) : tSl (rSl' C0) (tE C0 F a) tNoPart (tPart (tE C0 F i)) σ H Q := by
  obtain ⟨l, ι, ρ, m, u, m', he, hs, hev, q⟩ := h
  simp only [evE] at hev
  obtain ⟨x, m1, h1, hev⟩ := R.bind_inv hev
  obtain ⟨y, m2, h2, hev⟩ := R.bind_inv hev
  split at hev
  · obtain ⟨e3, rfl⟩ := ofO_inv hev
    obtain ⟨r, h3, rfl⟩ := Option.map_eq_some_iff.mp e3
    exact ⟨l, ι, ρ, m, x, m1, he, hs, h1, fun ι1 H1 v1 e1 s1 r1 => ⟨l, ι1, ρ, m1, _, _, he.ext e1, s1, h2, fun ι2 H2 v2 e2 s2 r2 => ⟨_, r2, l, ι2, _, x, r, s2, r1.ext e2, h3, aft_of e1 e2 q⟩⟩⟩
  · cases hev
theorem im_slFr {a i : E} (h : tE C0 F (.slFr a i) σ H Q) : tSl (rSl' C0) (tE C0 F a) (tPart (tE C0 F i)) tNoPart σ H Q := by
  obtain ⟨l, ι, ρ, m, u, m', he, hs, hev, q⟩ := h
  simp only [evE] at hev
  obtain ⟨x, m1, h1, hev⟩ := R.bind_inv hev
  obtain ⟨y, m2, h2, hev⟩ := R.bind_inv hev
  split at hev
  · obtain ⟨e3, rfl⟩ := ofO_inv hev
    obtain ⟨r, h3, rfl⟩ := Option.map_eq_some_iff.mp e3
    exact ⟨l, ι, ρ, m, x, m1, he, hs, h1, fun ι1 H1 v1 e1 s1 r1 => ⟨l, ι1, ρ, m1, _, _, he.ext e1, s1, h2, fun ι2 H2 v2 e2 s2 r2 => ⟨_, r2, l, ι2, _, x, r, s2, r1.ext e2, h3, aft_of e1 e2 q⟩⟩⟩
  · cases hev
theorem im_slMi {a i j : E} (h : tE C0 F (.slMi a i j) σ H Q) : tSl (rSl' C0) (tE C0 F a) (tPart (tE C0 F i)) (tPart (tE C0 F j)) σ H Q := by
  obtain ⟨l, ι, ρ, m, u, m', he, hs, hev, q⟩ := h
  simp only [evE] at hev
  obtain ⟨x, m1, h1, hev⟩ := R.bind_inv hev
  obtain ⟨y, m2, h2, hev⟩ := R.bind_inv hev
  obtain ⟨z, m3, h3, hev⟩ := R.bind_inv hev
  split at hev
  · obtain ⟨e3, rfl⟩ := ofO_inv hev
    obtain ⟨r, h4, rfl⟩ := Option.map_eq_some_iff.mp e3
    exact ⟨l, ι, ρ, m, x, m1, he, hs, h1, fun ι1 H1 v1 e1 s1 r1 => ⟨l, ι1, ρ, m1, _, _, he.ext e1, s1, h2, fun ι2 H2 v2 e2 s2 r2 => ⟨_, r2, l, ι2, ρ, m2, _, _, (he.ext e1).ext e2, s2, h3, fun ι3 H3 v3 e3 s3 r3 =>
      ⟨_, r3, l, ι3, _, x, r, s3, (r1.ext e2).ext e3, h4, aft_of (e1.trans e2) e3 q⟩⟩⟩⟩
  · cases hev
theorem scr_sq {C : Cls'} {ι : List Addr} {H : Hp} {ns : List Int} {v : V} (r : RepU C ι H (.d (.scr ns)) v) : ∃ a, v = .ref a ∧ SqL C.K H a (ns.map V.int) := by
  obtain ⟨a, rfl, h⟩ := r
  rcases h with ⟨o, _, h⟩ | h
  · exact ⟨a, rfl, .inl (.inr ⟨o, h⟩)⟩
  · exact ⟨a, rfl, .inr h⟩
theorem im_slen {K : PySem.W.Frag} {a : E} (hK : K = C0.K) (h : tE C0 F (.slen a) σ H Q) : tCB (fun xs H Q => ∃ p ys, xs = [.ref p] ∧ (SqL K H p ys ∨ SqT K H p ys) ∧ Q (.int ys.length) H) (tCons (tE C0 F a) tNil) σ H Q := by
  obtain ⟨l, ι, ρ, m, u, m', he, hs, hev, q⟩ := h
  simp only [evE] at hev
  obtain ⟨x, m1, h1, hev⟩ := R.bind_inv hev
  split at hev
  · rename_i ns
    cases hev
    refine ⟨l, ι, ρ, m, _, _, he, hs, h1, fun ι1 H1 v1 e1 s1 r1 => ?_⟩
    obtain ⟨a, rfl, hq⟩ := scr_sq r1
    subst hK
    refine ⟨a, _, rfl, .inl hq, ?_⟩
    rw [List.length_map]
    exact q ι1 H1 _ e1 s1 rfl
  · cases hev
theorem atI_map {α β : Type} (f : α → β) (xs : List α) (k : Int) : L2.atI (xs.map f) k = (L2.atI xs k).map f := by
  unfold L2.atI
  rw [List.length_map]
  cases ixN xs.length k with
  | none => rfl
  | some j => simp
theorem im_sidx {K : PySem.W.Frag} {a i : E} (hK : K = C0.K) (h : tE C0 F (.sidx a i) σ H Q) : tOp (rIx K) (tE C0 F a) (tE C0 F i) σ H Q := by
  obtain ⟨l, ι, ρ, m, u, m', he, hs, hev, q⟩ := h
  simp only [evE] at hev
  obtain ⟨x, m1, h1, hev⟩ := R.bind_inv hev
  obtain ⟨y, m2, h2, hev⟩ := R.bind_inv hev
  split at hev
  · rename_i ns k
    obtain ⟨e3, rfl⟩ := ofO_inv hev
    obtain ⟨n, h3, rfl⟩ := Option.map_eq_some_iff.mp e3
    refine ⟨l, ι, ρ, m, _, m1, he, hs, h1, fun ι1 H1 v1 e1 s1 r1 => ⟨l, ι1, ρ, m1, _, _, he.ext e1, s1, h2, fun ι2 H2 v2 e2 s2 r2 => ?_⟩⟩
    obtain ⟨p, rfl, hq⟩ := scr_sq (r1.ext e2)
    subst hK
    exact .inl ⟨p, _, _, .int n, rfl, r2, hq, by rw [atI_map, h3]; rfl, q ι2 H2 _ (e1.trans e2) s2 rfl⟩
  · cases hev
theorem reps_ints {C : Cls'} {ι : List Addr} {H : Hp} : ∀ ns : List Int, RepL C ι H (ns.map .int) (ns.map V.int)
  | [] => rfl
  | n :: ns => ⟨_, _, rfl, rfl, reps_ints ns⟩
theorem im_sto {K : PySem.W.Frag} {a i : E} (hK : K = C0.K) (h : tE C0 F (.sto a i) σ H Q) : tSl (rSlL K) (tE C0 F a) tNoPart (tPart (tE C0 F i)) σ H Q := by
  obtain ⟨l, ι, ρ, m, u, m', he, hs, hev, q⟩ := h
  simp only [evE] at hev
  obtain ⟨x, m1, h1, hev⟩ := R.bind_inv hev
  obtain ⟨y, m2, h2, hev⟩ := R.bind_inv hev
  split at hev
  · rename_i ns k
    cases hev
    refine ⟨l, ι, ρ, m, _, m1, he, hs, h1, fun ι1 H1 v1 e1 s1 r1 => ⟨l, ι1, ρ, m1, _, _, he.ext e1, s1, h2, fun ι2 H2 v2 e2 s2 r2 => ⟨_, r2, ?_⟩⟩⟩
    obtain ⟨p, rfl, hq⟩ := scr_sq (r1.ext e2)
    subst hK
    exact ⟨p, _, rfl, hq, (aft_of e1 e2 q).lst s2 (RepL.cut (C0.b l) (reps_ints _) none _)⟩
  · cases hev
theorem im_nil {Q : List V → Hp → Prop} (h : tA C0 F .nil σ H Q) : tNil σ H Q := by
  obtain ⟨l, ι, ρ, m, us, m', he, hs, hev, q⟩ := h
  simp only [evEs] at hev
  cases hev
  exact q ι H [] Ext.refl hs rfl
theorem im_cons {e : E} {es : Es} {Q : List V → Hp → Prop} (h : tA C0 F (.cons e es) σ H Q) : tCons (tE C0 F e) (tA C0 F es) σ H Q := by
  obtain ⟨l, ι, ρ, m, us, m', he, hs, hev, q⟩ := h
  simp only [evEs] at hev
  obtain ⟨x, m1, h1, hev⟩ := R.bind_inv hev
  obtain ⟨xs, m2, h2, hev⟩ := R.bind_inv hev
  cases hev
  exact ⟨l, ι, ρ, m, x, m1, he, hs, h1, fun ι1 H1 v1 e1 s1 r1 => ⟨l, ι1, ρ, m1, xs, _, he.ext e1, s1, h2, fun ι2 H2 v2 e2 s2 r2 => q ι2 H2 _ (e1.trans e2) s2 ⟨v1, v2, rfl, r1.ext e2, r2⟩⟩⟩
theorem im_tup {es : Es} (hl : ∀ us m ρ m', evEs F es ρ m = .ok us m' → us.length ≤ 1000) (h : tE C0 F (.tup es) σ H Q) : tTup (tA C0 F es) σ H Q := by
  obtain ⟨l, ι, ρ, m, u, m', he, hs, hev, q⟩ := h
  simp only [evE] at hev
  obtain ⟨us, m1, h1, hev⟩ := R.bind_inv hev
  obtain ⟨e3, rfl⟩ := ofO_inv hev
  obtain ⟨xs, h3, rfl⟩ := Option.map_eq_some_iff.mp e3
  refine ⟨l, ι, ρ, m, us, _, he, hs, h1, fun ι1 H1 vs e1 s1 r1 => ⟨?_, ?_⟩⟩
  · have := hl _ _ _ _ h1
    rw [← r1.length, line]; omega
  · exact (aft_of1 e1 q).tup s1 (r1.pures h3)
theorem im_lst {es : Es} (hl : ∀ us m ρ m', evEs F es ρ m = .ok us m' → us.length ≤ 1000) (h : tE C0 F (.lst es) σ H Q) : tLst (tA C0 F es) σ H Q := by
  obtain ⟨l, ι, ρ, m, u, m', he, hs, hev, q⟩ := h
  simp only [evE] at hev
  obtain ⟨us, m1, h1, hev⟩ := R.bind_inv hev
  obtain ⟨e3, rfl⟩ := ofO_inv hev
  obtain ⟨xs, h3, rfl⟩ := Option.map_eq_some_iff.mp e3
  refine ⟨l, ι, ρ, m, us, _, he, hs, h1, fun ι1 H1 vs e1 s1 r1 => ⟨?_, ?_⟩⟩
  · have := hl _ _ _ _ h1
    rw [← r1.length, line]; omega
  · exact (aft_of1 e1 q).lst s1 (r1.pures h3)
/-- a new cell -/
theorem cell_of {C : Cls'} {ι0 ι1 : List Addr} {H0 H1 : Hp} {m1 : Mem} {ob : Ob} {o : HO} {Q : VK} (e1 : Ext ι0 ι1 H0 H1) (s1 : StM C ι1 H1 m1) (r : ∀ ι' H', Ext ι1 ι' H1 H' → RepO C ι' H' ob o)
    (q : ∀ ι' H' v, Ext ι0 ι' H0 H' → StM C ι' H' (m1 ++ [ob]) → RepU C ι' H' (.cell m1.length) v → Q v H') : ∀ p, H1 p = none → Q (.ref p) (upd H1 p o) := fun p hp =>
  q (ι1 ++ [p]) _ _ (e1.trans (Ext.cell hp)) (s1.new hp (r _ _ (Ext.cell hp))) ⟨p, by rw [← s1.len]; simp, rfl⟩
theorem im_nlst {es : Es} (hl : ∀ us m ρ m', evEs F es ρ m = .ok us m' → us.length ≤ 1000) (h : tE C0 F (.nlst es) σ H Q) : tLst (tA C0 F es) σ H Q := by
  obtain ⟨l, ι, ρ, m, u, m', he, hs, hev, q⟩ := h
  simp only [evE] at hev
  obtain ⟨us, m1, h1, hev⟩ := R.bind_inv hev
  split at hev
  · rename_i xs h3
    cases hev
    refine ⟨l, ι, ρ, m, us, _, he, hs, h1, fun ι1 H1 vs e1 s1 r1 => ⟨?_, ?_⟩⟩
    · have := hl _ _ _ _ h1
      rw [← r1.length, line]; omega
    · exact cell_of (ob := .lst xs) e1 s1 (fun ι' H' e => ⟨vs, rfl, (r1.pures h3).ext e⟩) q
  · cases hev
theorem im_ndic (h : tE C0 F .ndic σ H Q) : tDNewK σ H Q := by
  obtain ⟨l, ι, ρ, m, u, m', he, hs, hev, q⟩ := h
  simp only [evE] at hev
  cases hev
  exact cell_of (ob := .dic []) Ext.refl hs (fun ι' H' e => ⟨[], rfl, rfl⟩) q
theorem im_ddic (h : tE C0 F .ddic σ H Q) : tDNewK σ H Q := by
  obtain ⟨l, ι, ρ, m, u, m', he, hs, hev, q⟩ := h
  simp only [evE] at hev
  cases hev
  exact fun p hp => q ι _ _ (Ext.alloc hp) (hs.alloc hp) ⟨p, [], rfl, hs.notin hp, upd_same, rfl⟩
theorem im_ndip (h : tE C0 F .ndip σ H Q) : tDNewT σ H Q := by
  obtain ⟨l, ι, ρ, m, u, m', he, hs, hev, q⟩ := h
  simp only [evE] at hev
  cases hev
  exact cell_of (ob := .dip []) Ext.refl hs (fun ι' H' e => ⟨[], rfl, rfl⟩) q
theorem im_blt {b : Blt} {es : Es} (h : tE C0 F (.blt b es) σ H Q) : tCB (fun xs H Q => ∃ l, rBlt (C0.b l) b xs H Q) (tA C0 F es) σ H Q := by
  obtain ⟨l, ι, ρ, m, u, m', he, hs, hev, q⟩ := h
  simp only [evE] at hev
  obtain ⟨us, m1, h1, hev⟩ := R.bind_inv hev
  obtain ⟨e3, rfl⟩ := ofO_inv hev
  obtain ⟨r, h3, rfl⟩ := Option.map_eq_some_iff.mp e3
  exact ⟨l, ι, ρ, m, us, _, he, hs, h1, fun ι1 H1 vs e1 s1 r1 => ⟨l, ι1, _, us, r, s1, r1, h3, aft_of1 e1 q⟩⟩
theorem im_nlist {K : PySem.W.Frag} {e : E} (h : tE C0 F (.nlist e) σ H Q) : tCB (fun xs H Q => ∃ p ys, xs = [.ref p] ∧ (SqL K H p ys ∨ SqT K H p ys) ∧ ∀ l, H l = none → Q (.ref l) (upd H l (.lst ys))) (tCons (tE C0 F e) tNil) σ H Q := by
  obtain ⟨l, ι, ρ, m, u, m', he, hs, hev, q⟩ := h
  simp only [evE] at hev
  obtain ⟨x, m1, h1, hev⟩ := R.bind_inv hev
  split at hev
  · rename_i xs h3
    cases hev
    refine ⟨l, ι, ρ, m, x, m1, he, hs, h1, fun ι1 H1 v1 e1 s1 r1 => ?_⟩
    obtain ⟨p, ws, rfl, hp, rv⟩ := seq_rep s1 r1 h3
    refine ⟨p, ws, rfl, ?_, cell_of (ob := .lst xs) e1 s1 (fun ι' H' e => ⟨ws, rfl, rv.ext e⟩) q⟩
    rcases hp with hp | hp
    · exact .inl (SqL.of hp)
    · exact .inr (SqT.of hp)
  · cases hev
theorem im_isi {X : Cx} {a : E} {t : Ty} (hc : ∀ c, t ≠ .cls c) (h : tE C0 F (.isi a t) σ H Q) : tCB (rIsi X.K) (tCons (tE C0 F a) (tCons (tC (.ty (tyT t))) tNil)) σ H Q := by
  obtain ⟨l, ι, ρ, m, u, m', he, hs, hev, q⟩ := h
  simp only [evE] at hev
  obtain ⟨x, m1, h1, hev⟩ := R.bind_inv hev
  obtain ⟨e3, rfl⟩ := ofO_inv hev
  obtain ⟨r, h3, rfl⟩ := Option.map_eq_some_iff.mp e3
  refine ⟨l, ι, ρ, m, x, _, he, hs, h1, fun ι1 H1 v1 e1 s1 r1 => ?_⟩
  obtain ⟨ts, h4, h5⟩ := isi_ok (X := X) (C0.b l) r1 h3 hc
  exact ⟨v1, _, .type ts, .type (tyT t), r, rfl, .ty _, h4, h5, q ι1 H1 _ e1 s1 rfl⟩
theorem im_mth {f : Mth} {o e : E} (h : tE C0 F (.mth f o e) σ H Q) : tM1 (fun x xs H Q => ∃ l, rMth (C0.b l) f x xs H Q) (tE C0 F o) (tE C0 F e) σ H Q := by
  obtain ⟨l, ι, ρ, m, u, m', he, hs, hev, q⟩ := h
  simp only [evE] at hev
  obtain ⟨x, m1, h1, hev⟩ := R.bind_inv hev
  obtain ⟨y, m2, h2, hev⟩ := R.bind_inv hev
  obtain ⟨e3, rfl⟩ := ofO_inv hev
  obtain ⟨r, h3, rfl⟩ := Option.map_eq_some_iff.mp e3
  obtain ⟨s, rfl⟩ := mth_str h3
  exact ⟨l, ι, ρ, m, _, m1, he, hs, h1, fun ι1 H1 v1 e1 s1 r1 => ⟨⟨_, r1⟩, l, ι1, ρ, m1, y, _, he.ext e1, s1, h2, fun ι2 H2 v2 e2 s2 r2 => ⟨l, ι2, _, _, y, v2, r, s2, RepU.ext e2 r1, rfl, r2, h3, aft_of e1 e2 q⟩⟩⟩
theorem im_get {o k d : E} (h : tE C0 F (.get o k d) σ H Q) : tDGet2 (tE C0 F o) (tE C0 F k) (tE C0 F d) σ H Q := by
  obtain ⟨l, ι, ρ, m, u, m', he, hs, hev, q⟩ := h
  simp only [evE] at hev
  obtain ⟨x, m1, h1, hev⟩ := R.bind_inv hev
  split at hev
  case isFalse => cases hev
  rename_i hd
  obtain ⟨y, m2, h2, hev⟩ := R.bind_inv hev
  obtain ⟨z, m3, h3, hev⟩ := R.bind_inv hev
  obtain ⟨e3, rfl⟩ := ofO_inv hev
  obtain ⟨r, h4, rfl⟩ := Option.map_eq_some_iff.mp e3
  refine ⟨l, ι, ρ, m, x, m1, he, hs, h1, fun ι1 H1 v1 e1 s1 r1 => ?_⟩
  obtain ⟨a, rfl, ha⟩ := isD_of (C0.b l) s1 r1 hd
  refine ⟨a, rfl, ha, l, ι1, ρ, m1, y, m2, he.ext e1, s1, h2, fun ι2 H2 v2 e2 s2 r2 => ⟨l, ι2, ρ, m2, z, _, (he.ext e1).ext e2, s2, h3, fun ι3 H3 v3 e3 s3 r3 => ?_⟩⟩
  obtain ⟨a', w', h5, h6, h7⟩ := get_of (C0.b l) s3 ((r1.ext e2).ext e3) (r2.ext e3) r3 h4
  cases h5
  exact ⟨w', h6, q ι3 H3 _ ((e1.trans e2).trans e3) s3 h7⟩
theorem im_pop {K : PySem.W.Frag} {o : E} (h : tE C0 F (.pop o) σ H Q) : tBM0 K "list" rPop (tE C0 F o) σ H Q := by
  obtain ⟨l, ι, ρ, m, u, m', he, hs, hev, q⟩ := h
  simp only [evE] at hev
  obtain ⟨x, m1, h1, hev⟩ := R.bind_inv hev
  split at hev
  · rename_i n
    split at hev
    · rename_i xs hm
      split at hev
      · rename_i y hy
        cases hev
        refine ⟨l, ι, ρ, m, _, _, he, hs, h1, fun ι1 H1 v1 e1 s1 r1 => ?_⟩
        obtain ⟨p, hp, rfl⟩ := r1
        have hpi : p ∈ ι1 := List.mem_of_getElem? hp
        obtain ⟨p', ho, h2, h3, ws, rfl, rv⟩ := s1.at_ n _ hm
        rw [hp] at h2; cases h2
        obtain ⟨v, h4, h5⟩ := rv.get hy
        refine ⟨Or.inl ⟨rfl, _, SqL.of h3⟩, p, ws, v, rfl, rfl, h3, by rw [← rv.length]; exact h4, ?_⟩
        have rd : RepL (C0.b l) ι1 H1 xs.dropLast ws.dropLast := by
          rw [List.dropLast_eq_take, List.dropLast_eq_take, ← rv.length]
          exact rv.take _
        exact q ι1 _ _ (e1.trans (Ext.write hpi)) (s1.write hp ⟨_, rfl, rd⟩) (RepD.ext (Ext.write hpi) h5)
      · cases hev
    · cases hev
  · cases hev
theorem repK_pair {C : Cls'} {ι : List Addr} {H : Hp} : ∀ {ks : List (Int × D)} {kvs : List (Key × V)} {ts : List Addr}, RepK C ι H ks kvs → (∀ t ∈ ts, t ∉ C.ban ++ ι) →
    Paired (fun (t : Addr) (q : Key × V) => H t = some (.tup [kV q.1, q.2])) ts kvs → RepL C ι H (ks.map pairI) (ts.map V.ref)
  | [], kvs, ts, h, n, p => by
    rw [h] at p
    cases p
    rfl
  | (i, x) :: ks, kvs, ts, h, n, p => by
    obtain ⟨v, ws, rfl, r, rs⟩ := h
    cases p with
    | cons e p' =>
      rename_i t ts'
      exact ⟨.ref t, _, rfl, ⟨t, _, rfl, n t List.mem_cons_self, e, _, _, rfl, rfl, v, [], rfl, r, rfl⟩, repK_pair rs (fun t' ht' => n t' (List.mem_cons_of_mem _ ht')) p'⟩
/-- the heap of list(d.items()) -/
theorem items_of {C : Cls'} {ι0 ι1 : List Addr} {H0 H1 : Hp} {m1 : Mem} {ks : List (Int × D)} {v : V} {x : U} {Q : VK} (e1 : Ext ι0 ι1 H0 H1) (s1 : StM C ι1 H1 m1) (r1 : RepU C ι1 H1 x v) (h : dicO m1 x = some ks)
    (q : ∀ ι' H' v, Ext ι0 ι' H0 H' → StM C ι' H' m1 → RepU C ι' H' (.d (.lst (ks.map pairI))) v → Q v H') : rItemsL v H1 Q := by
  obtain ⟨d, kvs, rfl, hd, rv⟩ := dic_rep s1 r1 h
  refine ⟨d, kvs, rfl, hd, fun H' p ts kp hp ht hpt hl pr => ?_⟩
  have ex : Ext ι1 ι1 H1 H' := ⟨fun a o _ ha => kp a o ha, fun a o ha => ⟨o, kp a o ha⟩, [], by simp, fun _ z => by cases z⟩
  have sx : StM C ι1 H' m1 := ⟨s1.len, s1.nd, fun a ha => let ⟨o, ho⟩ := s1.bn a ha; ⟨o, kp a o ho⟩, fun k o hk => by
    obtain ⟨a, ho, h2, h3, h4⟩ := s1.at_ k o hk
    exact ⟨a, ho, h2, kp _ _ h3, RepO.mono (ex.k C) h4⟩⟩
  refine q ι1 H' _ (e1.trans ex) sx ⟨p, _, rfl, s1.notin hp, hl, ?_⟩
  exact repK_pair (rv.ext ex) (fun t z => s1.notin (ht t z)) pr
theorem im_litems {o : E} (h : tE C0 F (.litems o) σ H Q) : tListItems (tE C0 F o) σ H Q := by
  obtain ⟨l, ι, ρ, m, u, m', he, hs, hev, q⟩ := h
  simp only [evE] at hev
  obtain ⟨x, m1, h1, hev⟩ := R.bind_inv hev
  obtain ⟨e3, rfl⟩ := ofO_inv hev
  obtain ⟨r, h3, rfl⟩ := Option.map_eq_some_iff.mp e3
  obtain ⟨ks, h4, rfl⟩ := Option.map_eq_some_iff.mp h3
  exact ⟨l, ι, ρ, m, x, _, he, hs, h1, fun ι1 H1 v1 e1 s1 r1 => items_of e1 s1 r1 h4 q⟩
theorem im_conj {es : Es} (h : tE C0 F (.conj es) σ H Q) : tJV C0 F true es σ H Q := by
  obtain ⟨l, ι, ρ, m, u, m', he, hs, hev, q⟩ := h
  simp only [evE] at hev
  obtain ⟨k, m1, h1, hev⟩ := R.bind_inv hev
  cases hev
  exact ⟨l, ι, ρ, m, k, _, he, hs, h1, fun ι' H' e1 s1 => q ι' H' _ e1 s1 rfl⟩
theorem im_disj {es : Es} (h : tE C0 F (.disj es) σ H Q) : tJV C0 F false es σ H Q := by
  obtain ⟨l, ι, ρ, m, u, m', he, hs, hev, q⟩ := h
  simp only [evE] at hev
  obtain ⟨k, m1, h1, hev⟩ := R.bind_inv hev
  cases hev
  exact ⟨l, ι, ρ, m, k, _, he, hs, h1, fun ι' H' e1 s1 => q ι' H' _ e1 s1 rfl⟩
theorem im_conjT {es : Es} {Q : Bool → Hp → Prop} (h : tT C0 F (.conj es) σ H Q) : tJ C0 F true es σ H Q := by
  obtain ⟨l, ι, ρ, m, u, m', he, hs, hev, q⟩ := h
  simp only [evE] at hev
  obtain ⟨k, m1, h1, hev⟩ := R.bind_inv hev
  cases hev
  exact ⟨l, ι, ρ, m, _, _, he, hs, h1, fun ι' H' e1 s1 => q ι' H' e1 s1⟩
theorem im_disjT {es : Es} {Q : Bool → Hp → Prop} (h : tT C0 F (.disj es) σ H Q) : tJ C0 F false es σ H Q := by
  obtain ⟨l, ι, ρ, m, u, m', he, hs, hev, q⟩ := h
  simp only [evE] at hev
  obtain ⟨k, m1, h1, hev⟩ := R.bind_inv hev
  cases hev
  exact ⟨l, ι, ρ, m, _, _, he, hs, h1, fun ι' H' e1 s1 => q ι' H' e1 s1⟩
theorem cj_one {b : Bool} {e : E} {ρ : Env} {m m' : Mem} {k : Bool} (h : evCj F b (.cons e .nil) ρ m = .ok k m') : evE F e ρ m = .ok (.d (.bl k)) m' := by
  simp only [evCj] at h
  obtain ⟨x, m1, h1, h⟩ := R.bind_inv h
  split at h
  · rename_i k'
    split at h
    · rename_i e'
      cases h
      rw [← e']; exact h1
    · cases h; exact h1
  · cases h
theorem im_j1 {b : Bool} {e : E} {Q : Bool → Hp → Prop} (h : tJ C0 F b (.cons e .nil) σ H Q) : tT C0 F e σ H Q := by
  obtain ⟨l, ι, ρ, m, k, m', he, hs, hev, q⟩ := h
  exact ⟨l, ι, ρ, m, k, m', he, hs, cj_one hev, q⟩
theorem im_jv1 {b : Bool} {e : E} (h : tJV C0 F b (.cons e .nil) σ H Q) : tE C0 F e σ H Q := by
  obtain ⟨l, ι, ρ, m, k, m', he, hs, hev, q⟩ := h
  exact ⟨l, ι, ρ, m, _, m', he, hs, cj_one hev, fun ι' H' v e1 s1 r1 => by cases r1; exact q ι' H' e1 s1⟩
theorem im_jand {e : E} {es : Es} {Q : Bool → Hp → Prop} (h : tJ C0 F true (.cons e es) σ H Q) : tAnd (tT C0 F e) (tJ C0 F true es) σ H Q := by
  obtain ⟨l, ι, ρ, m, k, m', he, hs, hev, q⟩ := h
  simp only [evCj] at hev
  obtain ⟨x, m1, h1, hev⟩ := R.bind_inv hev
  split at hev
  · rename_i k'
    refine ⟨l, ι, ρ, m, k', m1, he, hs, h1, fun ι1 H1 e1 s1 => ?_⟩
    cases k' with
    | true => exact iteT ⟨l, ι1, ρ, m1, k, m', he.ext e1, s1, by simpa using hev, fun ι' H' e2 s2 => q ι' H' (e1.trans e2) s2⟩
    | false => cases hev; exact iteF (q ι1 H1 e1 s1)
  · cases hev
theorem im_jor {e : E} {es : Es} {Q : Bool → Hp → Prop} (h : tJ C0 F false (.cons e es) σ H Q) : tOr (tT C0 F e) (tJ C0 F false es) σ H Q := by
  obtain ⟨l, ι, ρ, m, k, m', he, hs, hev, q⟩ := h
  simp only [evCj] at hev
  obtain ⟨x, m1, h1, hev⟩ := R.bind_inv hev
  split at hev
  · rename_i k'
    refine ⟨l, ι, ρ, m, k', m1, he, hs, h1, fun ι1 H1 e1 s1 => ?_⟩
    cases k' with
    | false => exact iteF ⟨l, ι1, ρ, m1, k, m', he.ext e1, s1, by simpa using hev, fun ι' H' e2 s2 => q ι' H' (e1.trans e2) s2⟩
    | true => cases hev; exact iteT (q ι1 H1 e1 s1)
  · cases hev
theorem im_jvand {e : E} {es : Es} (h : tJV C0 F true (.cons e es) σ H Q) : tAndV (tE C0 F e) (tJV C0 F true es) σ H Q := by
  obtain ⟨l, ι, ρ, m, k, m', he, hs, hev, q⟩ := h
  simp only [evCj] at hev
  obtain ⟨x, m1, h1, hev⟩ := R.bind_inv hev
  split at hev
  · rename_i k'
    refine ⟨l, ι, ρ, m, _, m1, he, hs, h1, fun ι1 H1 v e1 s1 r1 => ⟨k', r1, ?_⟩⟩
    cases k' with
    | true => exact iteT ⟨l, ι1, ρ, m1, k, m', he.ext e1, s1, by simpa using hev, fun ι' H' e2 s2 => q ι' H' (e1.trans e2) s2⟩
    | false => cases hev; exact iteF (q ι1 H1 e1 s1)
  · cases hev
theorem im_jvor {e : E} {es : Es} (h : tJV C0 F false (.cons e es) σ H Q) : tOrV (tE C0 F e) (tJV C0 F false es) σ H Q := by
  obtain ⟨l, ι, ρ, m, k, m', he, hs, hev, q⟩ := h
  simp only [evCj] at hev
  obtain ⟨x, m1, h1, hev⟩ := R.bind_inv hev
  split at hev
  · rename_i k'
    refine ⟨l, ι, ρ, m, _, m1, he, hs, h1, fun ι1 H1 v e1 s1 r1 => ⟨k', r1, ?_⟩⟩
    cases k' with
    | false => exact iteF ⟨l, ι1, ρ, m1, k, m', he.ext e1, s1, by simpa using hev, fun ι' H' e2 s2 => q ι' H' (e1.trans e2) s2⟩
    | true => cases hev; exact iteT (q ι1 H1 e1 s1)
  · cases hev
end
end DL
set_option linter.all false
set_option maxRecDepth 100000
set_option maxHeartbeats 4000000
namespace DL
open PySem PySem.Spec PyProof.Rows L2 LiI
theorem RepUs.append {C : Cls'} {ι : List Addr} {H : Hp} {ds : List D} {dvs : List V} (g : RepL C ι H ds dvs) : ∀ {us : List U} {vs : List V}, RepUs C ι H us vs → RepUs C ι H (us ++ ds.map .d) (vs ++ dvs)
  | [], vs, h => by
    rw [h]
    induction ds generalizing dvs with
    | nil => exact g
    | cons d ds ih =>
      obtain ⟨v, ws, e, r, rs⟩ := g
      subst e
      exact ⟨v, ws, rfl, r, ih rs⟩
  | x :: us, vs, h => by
    obtain ⟨v, ws, e, r, rs⟩ := h
    subst e
    exact ⟨v, ws ++ dvs, rfl, r, RepUs.append g rs⟩
theorem RepUs.get {C : Cls'} {ι : List Addr} {H : Hp} : ∀ {us : List U} {vs : List V} {i : Nat}, RepUs C ι H us vs → (us[i]? = none ∧ vs[i]? = none) ∨ ∃ u v, us[i]? = some u ∧ vs[i]? = some v ∧ RepU C ι H u v
  | [], vs, i, h => by rw [h]; exact .inl ⟨rfl, rfl⟩
  | x :: us, vs, i, h => by
    obtain ⟨v, ws, e, r, rs⟩ := h
    subst e
    cases i with
    | zero => exact .inr ⟨x, v, rfl, rfl, r⟩
    | succ i => exact RepUs.get (i := i) rs
theorem RepUs.perm {C : Cls'} {ι : List Addr} {H : Hp} {us : List U} {vs : List V} (h : RepUs C ι H us vs) : ∀ perm : List Nat, RepUs C ι H (perm.filterMap fun i => us[i]?) (perm.filterMap fun i => vs[i]?)
  | [] => rfl
  | i :: perm => by
    rw [List.filterMap_cons, List.filterMap_cons]
    rcases h.get (i := i) with ⟨e1, e2⟩ | ⟨u, v, e1, e2, r⟩
    · rw [e1, e2]; exact RepUs.perm h perm
    · rw [e1, e2]; exact ⟨v, _, rfl, r, RepUs.perm h perm⟩
theorem vals_get : ∀ {vs : List V} {us : List Value} {i : Nat}, Vals vs us → (vs[i]? = none ∧ us[i]? = none) ∨ ∃ v u, vs[i]? = some v ∧ us[i]? = some u ∧ RelV v u
  | _, _, i, .nil => .inl ⟨rfl, rfl⟩
  | _, _, 0, .cons r _ => .inr ⟨_, _, rfl, rfl, r⟩
  | _, _, i + 1, .cons _ rs => vals_get (i := i) rs
theorem vals_perm {vs : List V} {us : List Value} (h : Vals vs us) : ∀ perm : List Nat, Vals (perm.filterMap fun i => vs[i]?) (perm.filterMap fun i => us[i]?)
  | [] => .nil
  | i :: perm => by
    rw [List.filterMap_cons, List.filterMap_cons]
    rcases vals_get (i := i) h with ⟨e1, e2⟩ | ⟨u, v, e1, e2, r⟩
    · rw [e1, e2]; exact vals_perm h perm
    · rw [e1, e2]; exact .cons r (vals_perm h perm)
section
variable {Γ : Stat} {C0 : Cls'} {F : Fn} {k : Nat} {sc : Scope} {X : Cx}
theorem pe_callD {f : Nat} {n : Str} {y : Expr} {ys : List Expr} {es : Es} {dv : List D} {p pos : Pos} (ok : CxOk Γ C0 F k sc X) (hf : Γ.has f = true) (hg : glbB sc n = true) (hp : plainN n = true) (hn : n = Γ.nm f)
    (hs : (y :: ys).all noStar = true) (hdv : dv = [] ∨ dv = Γ.dfl f) (ha : PA X (y :: ys) (tA C0 F es)) : PE X (.Call (.Name n p) (y :: ys) [] pos) (tE C0 F (.call f es dv)) := by
  obtain ⟨a, fd, hm, hk, G, hb, _⟩ := ok.g.fn f hf
  obtain ⟨ds, dvs, hv, hr, hbi⟩ := hb dv hdv
  have hs' := hs
  rw [List.all_cons, Bool.and_eq_true] at hs'
  refine ⟨fun pins s σ H Q I h => ?_⟩
  obtain ⟨l, ι, ρ, m, u, m', he, hS, hev, q⟩ := h
  simp only [evE] at hev
  obtain ⟨us, m1, h1, h2⟩ := R.bind_inv hev
  refine wpAny_Call_Name_kw (ld_glob I (ok.glb n hg) (by rw [hn]; exact hm) ?_ (plain_db hp).1)
  refine PySem.W.callWith_K (h₀ := X.base) I.ok.mod.kin hk (thn (ha.run pos pins s σ H (fun vs H1 => spF C0 (Γ.ar f).length (F f) (vs ++ dvs) H1 Q E0) I ⟨l, ι, ρ, m, us, m1, he, hS, h1, fun ι1 H1 vs e1 s1 r1 => ⟨l, ι1, m1, us ++ dv.map .d, _, _, ok.g.ar _ _ _ _ _ h2, s1, r1.append (hr _ _ _), h2, fun ι' H' v e s r => q ι' H' v (e1.trans e) s r⟩⟩) fun us' s1 ⟨vs, H1, I1, r, q1⟩ => ⟨I1.kIn, ?_⟩) (star1 hs'.1 _ _) (star_any hs'.2 _ _)
  have r2 : Vals (vs ++ dvs) (us' ++ ds) := r.append hv
  have hl : (us' ++ ds).length = (Γ.ar f).length := by rw [← r2.length]; exact G.len _ _ _ _ q1
  exact run_G' G ok.grd (ok.room.mono (by omega)) (hbi s1 us' I1.kIn hl) I1 r2 q1
theorem pe_callD0 {f : Nat} {n : Str} {es : Es} {dv : List D} {p pos : Pos} (ok : CxOk Γ C0 F k sc X) (hf : Γ.has f = true) (hg : glbB sc n = true) (hp : plainN n = true) (hn : n = Γ.nm f)
    (hdv : dv = [] ∨ dv = Γ.dfl f) (hes : es = .nil) : PE X (.Call (.Name n p) [] [] pos) (tE C0 F (.call f es dv)) := by
  subst hes
  obtain ⟨a, fd, hm, hk, G, hb, _⟩ := ok.g.fn f hf
  obtain ⟨ds, dvs, hv, hr, hbi⟩ := hb dv hdv
  refine ⟨fun pins s σ H Q I h => ?_⟩
  obtain ⟨l, ι, ρ, m, u, m', he, hS, hev, q⟩ := h
  simp only [evE, evEs, R.bind_ok] at hev
  have h2 := hev
  refine wpAny_Call_Name_kw (ld_glob I (ok.glb n hg) (by rw [hn]; exact hm) ?_ (plain_db hp).1)
  have q1 : spF C0 (Γ.ar f).length (F f) ([] ++ dvs) H Q E0 := ⟨l, ι, m, [] ++ dv.map .d, _, _, ok.g.ar _ _ _ _ _ h2, hS, RepUs.append (us := []) (hr _ _ _) rfl, h2, fun ι' H' v e s r => q ι' H' v e s r⟩
  have r2 : Vals ([] ++ dvs) ([] ++ ds) := hv
  have hl : ([] ++ ds).length = (Γ.ar f).length := by rw [← r2.length]; exact G.len _ _ _ _ q1
  exact PySem.W.callWith_K0 I.kIn hk (run_G' (us := [] ++ []) (ws := [] ++ ds) G ok.grd (ok.room.mono (by omega)) (hbi s [] I.kIn hl) I r2 q1)
theorem kw_names (pos : Pos) (env : PySem.Env) : ∀ kws : List Keyword, (backToKw pos (keywordEach kws env)).map (·.1) = kws.map (·.arg)
  | [] => rfl
  | ⟨a, v, p⟩ :: kws => by
    show a :: (backToKw pos (keywordEach kws env)).map (·.1) = _
    rw [kw_names pos env kws]; rfl
theorem fm_map {α β γ : Type} (f : α → Option β) (g : γ → α) : ∀ l : List γ, (l.map g).filterMap f = l.filterMap fun x => f (g x)
  | [] => rfl
  | x :: l => by simp only [List.map_cons, List.filterMap_cons, fm_map f g l]
theorem kw_fm (pos : Pos) (env : PySem.Env) (kws : List Keyword) : (backToKw pos (keywordEach kws env)).filterMap (·.1) = kws.filterMap (·.arg) := by
  have := fm_map id (fun x : Option Str × Sem Value => x.1) (backToKw pos (keywordEach kws env))
  rw [kw_names] at this
  rw [fm_map] at this
  exact this.symm
theorem kw_all (pos : Pos) (env : PySem.Env) : ∀ kws : List Keyword, kws.all (fun k => k.arg.isSome) = true → (backToKw pos (keywordEach kws env)).all (·.1.isSome) = true
  | [], _ => rfl
  | ⟨a, v, p⟩ :: kws, h => by
    rw [List.all_cons, Bool.and_eq_true] at h
    show (a.isSome && (backToKw pos (keywordEach kws env)).all (·.1.isSome)) = true
    rw [kw_all pos env kws h.2, h.1]; rfl
theorem kw_any (pos : Pos) (env : PySem.Env) : ∀ kws : List Keyword, kws.all (fun k => k.arg.isSome) = true → (backToKw pos (keywordEach kws env)).any (·.1.isNone) = false
  | [], _ => rfl
  | ⟨a, v, p⟩ :: kws, h => by
    rw [List.all_cons, Bool.and_eq_true] at h
    show (a.isNone || (backToKw pos (keywordEach kws env)).any (·.1.isNone)) = false
    have h1 : a.isSome = true := h.1
    rw [kw_any pos env kws h.2]
    cases a with
    | none => cases h1
    | some _ => rfl
theorem pe_callKD {f : Nat} {n : Str} {kws : List Keyword} {es : Es} {perm : List Nat} {p pos : Pos} (ok : CxOk Γ C0 F k sc X) (hf : Γ.has f = true) (hg : glbB sc n = true) (hp : plainN n = true) (hn : n = Γ.nm f)
    (hall : kws.all (fun k => k.arg.isSome) = true) (hkw : (f, kws.filterMap (fun k => k.arg), perm) ∈ Γ.kw) (hlen : ∀ us m ρ m', evEs F es ρ m = .ok us m' → us.length = (kws.filterMap (fun k => k.arg)).length) (ha : PK X kws (tA C0 F es)) : PE X (.Call (.Name n p) [] kws pos) (tE C0 F (.callK f perm es)) := by
  obtain ⟨a, fd, hm, hk, G, _, hb⟩ := ok.g.fn f hf
  refine ⟨fun pins s σ H Q I h => ?_⟩
  obtain ⟨l, ι, ρ, m, u, m', he, hS, hev, q⟩ := h
  simp only [evE] at hev
  obtain ⟨us, m1, h1, h2⟩ := R.bind_inv hev
  refine wpAny_Call_Name_kw (ld_glob I (ok.glb n hg) (by rw [hn]; exact hm) ?_ (plain_db hp).1)
  refine PySem.W.callWith_KW0 (h₀ := X.base) I.ok.mod.kin hk (kw_all _ _ _ hall) (thn (ha.run pos pins s σ H (fun vs H1 => vs.length = (kws.filterMap (fun k => k.arg)).length ∧ spF C0 (Γ.ar f).length (F f) (perm.filterMap fun i => vs[i]?) H1 Q E0) I ⟨l, ι, ρ, m, us, m1, he, hS, h1, fun ι1 H1 vs e1 s1 r1 => ⟨by rw [← r1.length]; exact hlen _ _ _ _ h1, l, ι1, m1, _, _, _, ok.g.ar _ _ _ _ _ h2, s1, r1.perm perm, h2, fun ι' H' v e s r => q ι' H' v (e1.trans e) s r⟩⟩) fun us' s1 ⟨vs, H1, I1, r, ql, q1⟩ => ⟨I1.kIn, ?_⟩) ?_
  · rw [kw_fm]
    refine run_G' G ok.grd (ok.room.mono (by omega)) (hb _ _ hkw s1 us' I1.kIn (by rw [← r.length]; exact ql)) I1 (vals_perm r perm) q1
  · show (false || _) = false
    rw [kw_any _ _ _ hall]; rfl
def tFs (C0 : Cls') (F : Fn) (es : Es) (acc : Str) : L2.St → Hp → (Str → Hp → Prop) → Prop := fun σ H Q => ∃ l ι ρ m us m' s, let C := C0.b l; EnvR C ι H ρ σ ∧ StM C ι H m ∧ evEs F es ρ m = .ok us m' ∧ fmtL us = some s ∧ acc.length + s.length ≤ 16777216 ∧
  ∀ ι' H', Ext ι ι' H H' → StM C ι' H' m' → Q (acc ++ str0 s) H'
theorem strs_app (a b c : Str) : a ++ b ++ c = a ++ (b ++ c) := by
  show Str.mk _ = Str.mk _
  congr 1
  exact Array.append_assoc
theorem len_app (a b : Str) : (a ++ b).length = a.length + b.length := by
  show (a.cps ++ b.cps).size = _
  rw [Array.size_append]; rfl
theorem im_fsN {σ : L2.St} {H : Hp} {acc : Str} {Q : Str → Hp → Prop} (h : tFs C0 F .nil acc σ H Q) : Q acc H := by
  obtain ⟨l, ι, ρ, m, us, m', s, he, hS, hev, hf, hz, q⟩ := h
  simp only [evEs] at hev
  cases hev
  cases hf
  have := q ι H Ext.refl hS
  have e : acc ++ str0 [] = acc := by
    show Str.mk _ = acc
    cases acc
    simp [str0]
  rw [e] at this
  exact this
theorem im_fsF {e : E} {es : Es} {σ : L2.St} {H : Hp} {acc : Str} {Q : Str → Hp → Prop} (h : tFs C0 F (.cons e es) acc σ H Q) : tFmt (tE C0 F e) σ H fun x H1 => ∃ y : Str, x = .str y ∧ (acc ++ y).length ≤ sizeLine ∧ tFs C0 F es (acc ++ y) σ H1 Q := by
  obtain ⟨l, ι, ρ, m, us, m', s, he, hS, hev, hf, hz, q⟩ := h
  simp only [evEs] at hev
  obtain ⟨x, m1, h1, hev⟩ := R.bind_inv hev
  obtain ⟨xs, m2, h2, hev⟩ := R.bind_inv hev
  cases hev
  refine ⟨l, ι, ρ, m, x, m1, he, hS, h1, fun ι1 H1 v e1 s1 r1 => ?_⟩
  unfold fmtL at hf
  split at hf
  · rename_i hx
    cases hx
  · rename_i t r hx
    cases hx
    obtain ⟨s2, h3, rfl⟩ := Option.map_eq_some_iff.mp hf
    simp only [List.length_append] at hz
    refine .inl ⟨str0 t, r1, by rw [str0_len, sizeLine_eq]; omega, str0 t, rfl, by rw [len_app, str0_len, sizeLine_eq]; omega, l, ι1, ρ, m1, _, _, s2, he.ext e1, s1, h2, h3, by rw [len_app, str0_len]; omega, fun ι' H' e2 s3 => ?_⟩
    rw [strs_app, ← str0_app]
    exact q ι' H' (e1.trans e2) s3
  · rename_i i r hx
    cases hx
    split at hf
    · rename_i hi
      obtain ⟨s2, h3, rfl⟩ := Option.map_eq_some_iff.mp hf
      simp only [List.length_append] at hz
      refine .inr ⟨i, r1, hi, str0 (digs i), by rw [← str_digs], by rw [len_app, str0_len, sizeLine_eq]; omega, l, ι1, ρ, m1, _, _, s2, he.ext e1, s1, h2, h3, by rw [len_app, str0_len]; omega, fun ι' H' e2 s3 => ?_⟩
      rw [strs_app, ← str0_app]
      exact q ι' H' (e1.trans e2) s3
    · cases hf
  · cases hf
theorem im_fsC {t : List Nat} {es : Es} {σ : L2.St} {H : Hp} {acc : Str} {Q : Str → Hp → Prop} (h : tFs C0 F (.cons (.cst (.str t)) es) acc σ H Q) : tE C0 F (.cst (.str t)) σ H fun x H1 => ∃ y : Str, x = .str y ∧ (acc ++ y).length ≤ sizeLine ∧ tFs C0 F es (acc ++ y) σ H1 Q := by
  obtain ⟨l, ι, ρ, m, us, m', s, he, hS, hev, hf, hz, q⟩ := h
  simp only [evEs] at hev
  obtain ⟨x, m1, h1, hev⟩ := R.bind_inv hev
  obtain ⟨xs, m2, h2, hev⟩ := R.bind_inv hev
  cases hev
  refine ⟨l, ι, ρ, m, x, m1, he, hS, h1, fun ι1 H1 v e1 s1 r1 => ?_⟩
  simp only [evE] at h1
  cases h1
  unfold fmtL at hf
  obtain ⟨s2, h3, rfl⟩ := Option.map_eq_some_iff.mp hf
  simp only [List.length_append] at hz
  refine ⟨str0 t, r1, by rw [len_app, str0_len, sizeLine_eq]; omega, l, ι1, ρ, _, _, _, s2, he.ext e1, s1, h2, h3, by rw [len_app, str0_len]; omega, fun ι' H' e2 s3 => ?_⟩
  rw [strs_app, ← str0_app]
  exact q ι' H' (e1.trans e2) s3
theorem im_fstr {es : Es} {σ : L2.St} {H : Hp} {Q : VK} (h : tE C0 F (.fstr es) σ H Q) : tFs C0 F es Str.empty σ H fun out H1 => Q (.str out) H1 := by
  obtain ⟨l, ι, ρ, m, u, m', he, hS, hev, q⟩ := h
  simp only [evE] at hev
  obtain ⟨us, m1, h1, hev⟩ := R.bind_inv hev
  split at hev
  · rename_i s hs
    split at hev
    · rename_i hl
      cases hev
      refine ⟨l, ι, ρ, m, us, _, s, he, hS, h1, hs, by show 0 + s.length ≤ _; omega, fun ι' H' e1 s1 => q ι' H' _ e1 s1 ?_⟩
      show V.str (Str.empty ++ str0 s) = V.str (str0 s)
      congr 1
      show Str.mk _ = str0 s
      simp [str0, Str.empty]
    · cases hev
  · cases hev
def tG (C0 : Cls') (F : Fn) (tg : Tg) : TG := fun v σ H Q => ∃ l ι ρ m u ρ' m', let C := C0.b l; EnvR C ι H ρ σ ∧ StM C ι H m ∧ RepU C ι H u v ∧ assT F tg u ρ m = .ok ρ' m' ∧
  ∀ ι' H' σ', Ext ι ι' H H' → StM C ι' H' m' → EnvR C ι' H' ρ' σ' → (∀ vs, tgIn vs tg = true → wipe σ' vs = wipe σ vs) → Q σ' H'
def tGs (C0 : Cls') (F : Fn) (ts : Tgs) : TGs := fun vs σ H Q => ∃ l ι ρ m xs ρ' m', let C := C0.b l; EnvR C ι H ρ σ ∧ StM C ι H m ∧ RepL C ι H xs vs ∧ assTs F ts xs ρ m = .ok ρ' m' ∧
  ∀ ι' H' σ', Ext ι ι' H H' → StM C ι' H' m' → EnvR C ι' H' ρ' σ' → (∀ vs, tgsIn vs ts = true → wipe σ' vs = wipe σ vs) → Q σ' H'
theorem pg_imp {x : Expr} {t t' : TG} (h : PG X x t) (i : ∀ v σ H Q, t' v σ H Q → t v σ H Q) : PG X x t' := ⟨fun pins s σ H v u Q I r q => h.run pins s σ H v u Q I r (i v σ H Q q)⟩
theorem pgs_imp {x : List Expr} {t t' : TGs} (h : PGs X x t) (i : ∀ v σ H Q, t' v σ H Q → t v σ H Q) : PGs X x t' := ⟨fun pins s σ H v u Q I r q => h.run pins s σ H v u Q I r (i v σ H Q q)⟩
theorem EnvR.set {C : Cls'} {ι : List Addr} {H : Hp} {ρ : Env} {σ : L2.St} (h : EnvR C ι H ρ σ) {i : Nat} {u : U} {v : V} (r : RepU C ι H u v) : EnvR C ι H (ρ.set i (some u)) (σ.set i (some v)) := by
  refine ⟨by simp [h.1], fun j w hw => ?_⟩
  by_cases e : i = j
  · subst e
    by_cases hl : i < ρ.length
    · rw [List.getElem?_set_self hl] at hw
      cases hw
      exact ⟨v, by rw [List.getElem?_set_self (by rw [← h.1]; exact hl)], r⟩
    · rw [List.getElem?_eq_none (by simp; omega)] at hw
      cases hw
  · rw [List.getElem?_set_ne e] at hw ⊢
    exact h.2 j w hw
theorem wipe_set {σ : L2.St} {i : Nat} {x : Option V} : ∀ {vs : List Nat}, i ∈ vs → wipe (σ.set i x) vs = wipe σ vs
  | [], h => by cases h
  | j :: vs, h => by
    show (wipe (σ.set i x) vs).set j none = (wipe σ vs).set j none
    by_cases hi : i ∈ vs
    · rw [wipe_set hi]
    · have e : i = j := (List.mem_cons.mp h).resolve_right hi
      subst e
      have aux : ∀ (vs : List Nat), i ∉ vs → wipe (σ.set i x) vs = (wipe σ vs).set i x := by
        intro vs
        induction vs with
        | nil => intro _; rfl
        | cons k vs ih =>
          intro hn
          show (wipe (σ.set i x) vs).set k none = ((wipe σ vs).set k none).set i x
          rw [ih (fun z => hn (List.mem_cons_of_mem _ z)), List.set_comm _ _ (fun z => hn (by rw [z]; exact List.mem_cons_self))]
      rw [aux vs hi, List.set_set]
theorem im_nm {i : Nat} {v : V} {σ : L2.St} {H : Hp} {Q : L2.St → Hp → Prop} (h : tG C0 F (.nm i) v σ H Q) : gName i v σ H Q := by
  obtain ⟨l, ι, ρ, m, u, ρ', m', he, hS, hr, hev, q⟩ := h
  simp only [assT] at hev
  cases hev
  exact q ι H _ Ext.refl hS (he.set hr) fun vs hv => wipe_set (by simpa [tgIn] using hv)
theorem im_sub {o i : E} {v : V} {σ : L2.St} {H : Hp} {Q : L2.St → Hp → Prop} (h : tG C0 F (.sub o i) v σ H Q) : gSub (tE C0 F o) (tE C0 F i) (fun o i v H Q => ∃ l, rSetD (C0.b l) o i v H Q) v σ H Q := by
  obtain ⟨l, ι, ρ, m, u, ρ', m', he, hS, hr, hev, q⟩ := h
  simp only [assT] at hev
  obtain ⟨x, m1, h1, hev⟩ := R.bind_inv hev
  obtain ⟨y, m2, h2, hev⟩ := R.bind_inv hev
  split at hev
  · rename_i m3 hm
    cases hev
    exact ⟨l, ι, ρ, m, x, m1, he, hS, h1, fun ι1 H1 v1 e1 s1 r1 => ⟨l, ι1, ρ, m1, y, m2, he.ext e1, s1, h2, fun ι2 H2 v2 e2 s2 r2 => ⟨l, ι2, m2, x, y, u, _, s2, r1.ext e2, r2, (hr.ext e1).ext e2, hm, fun H' e3 s3 =>
      q ι2 H' σ ((e1.trans e2).trans e3) s3 (((he.ext e1).ext e2).ext e3) fun vs hv => rfl⟩⟩⟩
  · cases hev
theorem im_tp {K : PySem.W.Frag} {ts : Tgs} {n : Nat} (hl : ∀ xs ρ m ρ' m', assTs F ts xs ρ m = .ok ρ' m' → xs.length = n) {v : V} {σ : L2.St} {H : Hp} {Q : L2.St → Hp → Prop} (h : tG C0 F (.tp ts) v σ H Q) : gTup K n (tGs C0 F ts) v σ H Q := by
  obtain ⟨l, ι, ρ, m, u, ρ', m', he, hS, hr, hev, q⟩ := h
  simp only [assT] at hev
  split at hev
  · rename_i xs
    obtain ⟨a, vs, rfl, hn, ha, hv⟩ := hr
    exact ⟨a, vs, rfl, SqT.of ha, by rw [← hv.length]; exact hl _ _ _ _ _ hev, l, ι, ρ, m, xs, ρ', m', he, hS, hv, hev, fun ι' H' σ' e s r w => q ι' H' σ' e s r fun vs hv => w vs (by simpa [tgIn] using hv)⟩
  · cases hev
theorem im_gnil {vs : List V} {σ : L2.St} {H : Hp} {Q : L2.St → Hp → Prop} (h : tGs C0 F .nil vs σ H Q) : gNil vs σ H Q := by
  obtain ⟨l, ι, ρ, m, xs, ρ', m', he, hS, hr, hev, q⟩ := h
  cases xs with
  | nil =>
    simp only [assTs] at hev
    cases hev
    exact ⟨hr, q ι H σ Ext.refl hS he fun _ _ => rfl⟩
  | cons x xs => simp only [assTs] at hev; cases hev
theorem im_gcons {t : Tg} {ts : Tgs} {vs : List V} {σ : L2.St} {H : Hp} {Q : L2.St → Hp → Prop} (h : tGs C0 F (.cons t ts) vs σ H Q) : gCons (tG C0 F t) (tGs C0 F ts) vs σ H Q := by
  obtain ⟨l, ι, ρ, m, xs, ρ', m', he, hS, hr, hev, q⟩ := h
  cases xs with
  | nil => simp only [assTs] at hev; cases hev
  | cons x xs =>
    obtain ⟨v, ws, rfl, r, rs⟩ := hr
    simp only [assTs] at hev
    obtain ⟨ρ1, m1, h1, hev⟩ := R.bind_inv hev
    refine ⟨v, ws, rfl, l, ι, ρ, m, .d x, ρ1, m1, he, hS, r, h1, fun ι1 H1 σ1 e1 s1 r1 w1 => ⟨l, ι1, ρ1, m1, xs, ρ', m', r1, s1, rs.ext e1, hev, fun ι2 H2 σ2 e2 s2 r2 w2 => q ι2 H2 σ2 (e1.trans e2) s2 r2 fun vs hv => ?_⟩⟩
    simp only [tgsIn, Bool.and_eq_true] at hv
    rw [w2 vs hv.2, w1 vs hv.1]
theorem asg_each : ∀ {es : List Expr}, es.all noStar = true → ∀ env, (assignEach es env).length = es.length ∧ (assignEach es env).findIdx? (·.1) = none
  | [], _, _ => ⟨rfl, rfl⟩
  | e :: es, h, env => by
    simp only [List.all_cons, Bool.and_eq_true] at h
    obtain ⟨h1, h2⟩ := asg_each h.2 env
    have e0 : assignEach (e :: es) env = (false, assign e env) :: assignEach es env := by
      cases e <;> first | rfl | cases h.1
    rw [e0]
    exact ⟨by simp [h1], by simp [List.findIdx?_cons, h2]⟩
theorem asg_cons {e : Expr} (h : noStar e = true) (es : List Expr) (env : PySem.Env) : (assignEach (e :: es) env).map (·.2) = assign e env :: (assignEach es env).map (·.2) := by
  cases e <;> first | rfl | cases h
theorem assTs_len (F : Fn) : ∀ (ts : Tgs) (es : List Expr) (sc : Scope) (Γ : Stat), chkTgs Γ sc ts es = true → ∀ xs ρ m ρ' m', assTs F ts xs ρ m = .ok ρ' m' → xs.length = es.length
  | .nil, es, sc, Γ, h, xs, ρ, m, ρ', m', hev => by
    simp only [chkTgs, List.isEmpty_iff] at h
    subst h
    cases xs with
    | nil => rfl
    | cons => simp only [assTs] at hev; cases hev
  | .cons t ts, es, sc, Γ, h, xs, ρ, m, ρ', m', hev => by
    cases es with
    | nil => simp only [chkTgs] at h; cases h
    | cons e es =>
      simp only [chkTgs, Bool.and_eq_true] at h
      cases xs with
      | nil => simp only [assTs] at hev; cases hev
      | cons x xs =>
        simp only [assTs] at hev
        obtain ⟨ρ1, m1, h1, hev⟩ := R.bind_inv hev
        simp [assTs_len F ts es sc Γ h.2 xs ρ1 m1 ρ' m' hev]
theorem evEs_len (F : Fn) : ∀ (es : Es) (xs : List Expr) (sc : Scope) (Γ : Stat), chkEs Γ sc es xs = true → ∀ us ρ m m', evEs F es ρ m = .ok us m' → us.length = xs.length
  | .nil, xs, sc, Γ, h, us, ρ, m, m', hev => by
    simp only [chkEs, List.isEmpty_iff] at h
    subst h
    simp only [evEs] at hev
    cases hev
    rfl
  | .cons e es, xs, sc, Γ, h, us, ρ, m, m', hev => by
    cases xs with
    | nil => simp only [chkEs] at h; cases h
    | cons x xs =>
      simp only [chkEs, Bool.and_eq_true] at h
      simp only [evEs] at hev
      obtain ⟨x, m1, h1, hev⟩ := R.bind_inv hev
      obtain ⟨ys, m2, h2, hev⟩ := R.bind_inv hev
      cases hev
      simp [evEs_len F es xs sc Γ h.2 ys ρ m1 _ h2]
theorem evKs_len (F : Fn) : ∀ (es : Es) (xs : List Keyword) (sc : Scope) (Γ : Stat), chkKs Γ sc es xs = true → ∀ us ρ m m', evEs F es ρ m = .ok us m' → us.length = xs.length
  | .nil, xs, sc, Γ, h, us, ρ, m, m', hev => by
    simp only [chkKs, List.isEmpty_iff] at h
    subst h
    simp only [evEs] at hev
    cases hev
    rfl
  | .cons e es, xs, sc, Γ, h, us, ρ, m, m', hev => by
    cases xs with
    | nil => simp only [chkKs] at h; cases h
    | cons x xs =>
      obtain ⟨a, x, p⟩ := x
      simp only [chkKs, Bool.and_eq_true] at h
      simp only [evEs] at hev
      obtain ⟨x, m1, h1, hev⟩ := R.bind_inv hev
      obtain ⟨ys, m2, h2, hev⟩ := R.bind_inv hev
      cases hev
      simp [evKs_len F es xs sc Γ h.2 ys ρ m1 _ h2]
end
end DL
set_option linter.all false
set_option maxRecDepth 100000
set_option maxHeartbeats 4000000
namespace DL
open PySem PySem.Spec PyProof.Rows L2 LiI
section
variable {C : Cls'} {ι ι' : List Addr} {H H' : Hp} {m m1 : Mem}
theorem take_ext (e : DL.Ext ι ι' H H') : DL.Ext ι ι H H' := ⟨e.keep, e.there, [], by simp, fun _ z => by cases z⟩
theorem take_mono (e : DL.Ext ι ι' H H') : ∀ a o, a ∉ C.ban ++ ι' → H' a = some o → H' a = some o ∧ a ∉ C.ban ++ ι := fun a o n h => by
  refine ⟨h, fun z => n ?_⟩
  obtain ⟨more, rfl, _⟩ := e.more
  rcases List.mem_append.mp z with z | z
  · exact List.mem_append_left _ z
  · exact List.mem_append_right _ (List.mem_append_left _ z)
theorem take_stm (S : StM C ι H m) (e : DL.Ext ι ι' H H') (S' : StM C ι' H' m1) : StM C ι H' (m1.take m.length) := by
  obtain ⟨more, hm, _⟩ := id e.more
  have hl : m.length ≤ m1.length := by rw [← S.len, ← S'.len, hm]; simp
  refine ⟨by rw [S.len, List.length_take]; omega, S.nd, S'.bn, fun k o hk => ?_⟩
  have hk' : k < m.length := by
    have := (List.getElem?_eq_some_iff.mp hk).1
    rw [List.length_take] at this; omega
  rw [List.getElem?_take_of_lt hk'] at hk
  obtain ⟨a, ho, h1, h2, h3⟩ := S'.at_ k o hk
  refine ⟨a, ho, ?_, h2, RepO.mono (take_mono e) h3⟩
  rw [hm, List.getElem?_append_left (by rw [S.len]; exact hk')] at h1
  exact h1
theorem ins_rep {u : U} {v : V} {c : Nat} (S : StM C ι H m) (r : RepU C ι H u v) (h : insC m u = some c) : ∃ a dx fs, v = .ref a ∧ H a = some (.ins (C.at_ c) dx fs) ∧ ∀ x, x ≠ C.fn c → fs.lookup x = none := by
  have one : ∀ (y : V) (x : Str), x ≠ C.fn c → ([(C.fn c, y)] : List (Str × V)).lookup x = none := fun y x hx => by
    rw [List.lookup_cons]
    have : (x == C.fn c) = false := beq_eq_false_iff_ne.mpr hx
    rw [this]; rfl
  cases u with
  | d x =>
    cases x with
    | ins c' y =>
      simp only [insC, Option.some.injEq] at h
      subst h
      obtain ⟨a, dx, v', e, _, ha, _⟩ := r
      exact ⟨a, dx, _, e, ha, one v'⟩
    | _ => cases h
  | cell n =>
    obtain ⟨a, h1, h2⟩ := r
    have h : (match m[n]? with | some (.ins c _) => some c | _ => none) = some c := h
    split at h
    · rename_i c' x hm
      simp only [Option.some.injEq] at h
      subst h
      obtain ⟨b, ho, g1, g2, dx, fs, g3, g4⟩ := S.at_ _ _ hm
      rw [h1] at g1; cases g1
      subst g3
      refine ⟨a, dx, fs, h2, g2, ?_⟩
      cases x with
      | none => rw [show fs = [] from g4]; exact fun _ _ => rfl
      | some y => obtain ⟨v', e, _⟩ := g4; rw [e]; exact one v'
    · cases h
end
section
variable {Γ : Stat} {C0 : Cls'} {F : Fn} {k : Nat} {sc : Scope} {X : Cx}
theorem pe_fldD {c : Nat} {o : E} {v : Expr} {x : Str} {pos : Pos} (ok : CxOk Γ C0 F k sc X) (hm : (c, x) ∈ Γ.fds) (hb : noSuper v = true) (ho : PE X v (tE C0 F o)) : PE X (.Attribute v x pos) (tE C0 F (.fld c o)) := by
  obtain ⟨hc, hn, hx⟩ := ok.g.fds c x hm
  refine pe_imp (pe_fld ho (base_of hb _ _ _)) fun σ H Q => ?_
  rintro ⟨l, ι, ρ, m, u, m', he, hS, hev, q⟩
  simp only [evE] at hev
  obtain ⟨y, m1, h1, h2⟩ := R.bind_inv hev
  refine ⟨l, ι, ρ, m, y, m1, he, hS, h1, fun ι1 H1 w e1 s1 r1 => ?_⟩
  have lk : ∀ z : V, ([(C0.fn c, z)] : List (Str × V)).lookup x = some z := fun z => by rw [hx, List.lookup_cons, beq_self_eq_true]
  split at h2
  · rename_i c' d
    split at h2
    · rename_i e; subst e
      cases h2
      obtain ⟨a, dx, z, ez, _, ha, rz⟩ := r1
      exact ⟨a, _, dx, _, z, ez, ha, hc, hn, lk z, q ι1 H1 z e1 s1 rz⟩
    · cases h2
  · rename_i n
    split at h2
    · rename_i c' d hm2
      split at h2
      · rename_i e; subst e
        cases h2
        obtain ⟨a, g1, g2⟩ := r1
        obtain ⟨b, ho', k1, k2, dx, fs, k3, z, k4, k5⟩ := s1.at_ _ _ hm2
        rw [g1] at k1; cases k1
        subst k3 k4
        exact ⟨a, _, dx, _, z, g2, k2, hc, hn, lk z, q ι1 H1 z e1 s1 k5⟩
      · cases h2
    · cases h2
  · cases h2
theorem pe_propD {f c : Nat} {o : E} {v : Expr} {x : Str} {pos : Pos} (ok : CxOk Γ C0 F k sc X) (hm : (f, c, x) ∈ Γ.prp) (hb : noSuper v = true) (ho : PE X v (tE C0 F o)) : PE X (.Attribute v x pos) (tE C0 F (.prop f c o)) := by
  obtain ⟨p, g, fd, hc, hp, G, bi⟩ := ok.g.prp f c x hm
  refine ⟨fun pins s σ H Q I h => ?_⟩
  obtain ⟨l, ι, ρ, m, u, m', he, hS, hev, q⟩ := h
  simp only [evE] at hev
  obtain ⟨y, m1, h1, h2⟩ := R.bind_inv hev
  split at h2
  case isFalse => cases h2
  rename_i hi
  refine attr_of (base_of hb _ _ _) (thn (ho.run pins s σ H (fun w H1 => ∃ a dx fs, w = .ref a ∧ H1 a = some (.ins (C0.at_ c) dx fs) ∧ spF C0 (Γ.ar f).length (F f) [.ref a] H1 Q E0) I ⟨l, ι, ρ, m, y, m1, he, hS, h1, fun ι1 H1 w e1 s1 r1 => ?_⟩) fun u1 s1 ⟨w, H1, I1, rw_, a, dx, fs, ew, ea, sp⟩ => ?_)
  · obtain ⟨a, dx, fs, ew, ea, _⟩ := ins_rep s1 r1 hi
    refine ⟨a, dx, fs, ew, ea, l, ι1, m1, [y], u, m', ok.g.ar _ _ _ _ _ h2, s1, ⟨.ref a, [], rfl, by rw [← ew]; exact r1, rfl⟩, h2, fun ι' H' v e s r => q ι' H' v (e1.trans e) s r⟩
  · subst ew
    obtain rfl : u1 = Value.ref a := rw_
    exact propG I1 ea hc hp G ok.grd (ok.room.mono (by omega)) bi sp
theorem pe_methD {f c : Nat} {o : E} {es : Es} {v y : Expr} {ys : List Expr} {x : Str} {ap pos : Pos} (ok : CxOk Γ C0 F k sc X) (hm : (f, c, x) ∈ Γ.mth) (hb : noSuper v = true) (hl : ap.endLine = pos.line) (hs : (y :: ys).all noStar = true) (hn : (y :: ys).length < 30)
    (ho : PE X v (tE C0 F o)) (ha : PA X (y :: ys) (tA C0 F es)) : PE X (.Call (.Attribute v x ap) (y :: ys) [] pos) (tE C0 F (.meth f c o es)) := by
  obtain ⟨g, fd, hc, hme, hx, G, bi⟩ := ok.g.mth f c x hm
  have hs' := hs
  rw [List.all_cons, Bool.and_eq_true] at hs'
  refine ⟨fun pins s σ H Q I h => ?_⟩
  obtain ⟨l, ι, ρ, m, u, m', he, hS, hev, q⟩ := h
  simp only [evE] at hev
  obtain ⟨z, m1, h1, h2⟩ := R.bind_inv hev
  split at h2
  case isFalse => cases h2
  rename_i hi
  obtain ⟨us, m2, h3, h4⟩ := R.bind_inv h2
  refine PySem.W.methodCall_KW (thn (ho.run pins s σ H (fun w H1 => ∃ a dx fs, w = .ref a ∧ H1 a = some (.ins (C0.at_ c) dx fs) ∧ fs.lookup x = none ∧ tA C0 F es σ H1 fun vs H2 => spF C0 (Γ.ar f).length (F f) (.ref a :: vs) H2 Q E0) I ⟨l, ι, ρ, m, z, m1, he, hS, h1, fun ι1 H1 w e1 s1 r1 => ?_⟩) fun u1 s1 ⟨w, H1, I1, rw_, a, dx, fs, ew, ea, lk, q1⟩ => ?_) (ht_of _ hb hs hn hl)
  · obtain ⟨a, dx, fs, ew, ea, lk⟩ := ins_rep s1 r1 hi
    refine ⟨a, dx, fs, ew, ea, lk x hx, l, ι1, ρ, m1, us, m2, he.ext e1, s1, h3, fun ι2 H2 vs e2 s2 r2 => ?_⟩
    exact ⟨l, ι2, m2, z :: us, u, m', ok.g.ar _ _ _ _ _ h4, s2, ⟨.ref a, vs, rfl, by rw [← ew]; exact r1.ext e2, r2⟩, h4, fun ι' H' v e s r => q ι' H' v ((e1.trans e2).trans e) s r⟩
  · subst ew
    obtain rfl : u1 = Value.ref a := rw_
    refine getmeth_ok I1 ea hc hme lk ?_
    refine PySem.W.callWith_K (first := [.ref a]) (h₀ := X.base) I.ok.mod.kin hme.kp (thn (ha.run pos pins s1 σ H1 _ I1 q1) fun us' s2 ⟨vs, H2, I2, r2, q2⟩ => ⟨I2.kIn, ?_⟩) (star1 hs'.1 _ _) (star_any hs'.2 _ _)
    have rv : Vals (.ref a :: vs) (Value.ref a :: us') := .cons rfl r2
    have hlen : (Value.ref a :: us' ++ []).length = (Γ.ar f).length := by rw [List.append_nil, ← G.len _ _ _ _ q2]; exact rv.length.symm
    have b := bi s2 (Value.ref a :: us') I2.kIn hlen
    rw [List.append_nil] at b
    exact run_G' G ok.grd (ok.room.mono (by omega)) b I2 rv q2
theorem pe_methD0 {f c : Nat} {o : E} {es : Es} {v : Expr} {x : Str} {ap pos : Pos} (ok : CxOk Γ C0 F k sc X) (hm : (f, c, x) ∈ Γ.mth) (hb : noSuper v = true) (hl : ap.endLine = pos.line) (hes : es = .nil)
    (ho : PE X v (tE C0 F o)) : PE X (.Call (.Attribute v x ap) [] [] pos) (tE C0 F (.meth f c o es)) := by
  subst hes
  obtain ⟨g, fd, hc, hme, hx, G, bi⟩ := ok.g.mth f c x hm
  refine ⟨fun pins s σ H Q I h => ?_⟩
  obtain ⟨l, ι, ρ, m, u, m', he, hS, hev, q⟩ := h
  simp only [evE] at hev
  obtain ⟨z, m1, h1, h2⟩ := R.bind_inv hev
  split at h2
  case isFalse => cases h2
  rename_i hi
  simp only [evEs, R.bind_ok] at h2
  have h4 := h2
  refine PySem.W.methodCall_KW (thn (ho.run pins s σ H (fun w H1 => ∃ a dx fs, w = .ref a ∧ H1 a = some (.ins (C0.at_ c) dx fs) ∧ fs.lookup x = none ∧ spF C0 (Γ.ar f).length (F f) [.ref a] H1 Q E0) I ⟨l, ι, ρ, m, z, m1, he, hS, h1, fun ι1 H1 w e1 s1 r1 => ?_⟩) fun u1 s1 ⟨w, H1, I1, rw_, a, dx, fs, ew, ea, lk, q1⟩ => ?_) (ht_of _ hb rfl (by decide) hl)
  · obtain ⟨a, dx, fs, ew, ea, lk⟩ := ins_rep s1 r1 hi
    exact ⟨a, dx, fs, ew, ea, lk x hx, l, ι1, m1, [z], u, m', ok.g.ar _ _ _ _ _ h4, s1, ⟨.ref a, [], rfl, by rw [← ew]; exact r1, rfl⟩, h4, fun ι' H' v e s r => q ι' H' v (e1.trans e) s r⟩
  · subst ew
    obtain rfl : u1 = Value.ref a := rw_
    refine getmeth_ok I1 ea hc hme lk ?_
    have rv : Vals [.ref a] [Value.ref a] := .cons rfl .nil
    have hlen : ([Value.ref a] ++ []).length = (Γ.ar f).length := by rw [← G.len _ _ _ _ q1]; rfl
    exact PySem.W.callWith_K0 (first := [.ref a]) I1.kIn hme.kp (run_G' G ok.grd (ok.room.mono (by omega)) (bi s1 [Value.ref a] I1.kIn hlen) I1 rv q1)
theorem pe_mkD {g c : Nat} {e : E} {y : Expr} {n : Str} {p pos : Pos} (ok : CxOk Γ C0 F k sc X) (hm : (g, c, n) ∈ Γ.mks) (hg : glbB sc n = true) (hp : plainN n = true) (hs : noStar y = true) (he : PE X y (tE C0 F e)) :
    PE X (.Call (.Name n p) [y] [] pos) (tE C0 F (.mk g c e)) := by
  obtain ⟨a, fd, hmg, M, G, bi⟩ := ok.g.mks g c n hm
  refine ⟨fun pins s σ H Q I h => ?_⟩
  obtain ⟨l, ι, ρ, m, u, m', hE, hS, hev, q⟩ := h
  simp only [evE] at hev
  obtain ⟨d, m1, h1, h2⟩ := R.bind_inv hev
  obtain ⟨r, m2, h3, h4⟩ := R.bind_inv h2
  have ha : PA X [y] (tCons (tE C0 F e) tNil) := pa_cons he pa_nil (star1 hs _ _)
  refine wpAny_Call_Name_kw (ld_glob I (ok.glb n hg) hmg ?_ (plain_db hp).1)
  refine PySem.W.callWith_K (h₀ := X.base) I.ok.mod.kin M.kp (thn (ha.run pos pins s σ H (fun vs H1 => ∀ x dx, H1 x = none → H1 dx = none → dx ≠ x → spF C0 (Γ.ar g).length (F g) (.ref x :: vs) (upd (upd H1 dx (.own x)) x (.ins (C0.at_ c) dx [])) (fun w H2 => w = .non ∧ Q (.ref x) H2) E0) I ?_) fun us' s1 ⟨vs, H1, I1, rv, q1⟩ => ⟨I1.kIn, ?_⟩) (star1 hs _ _) rfl
  · refine ⟨l, ι, ρ, m, d, m1, hE, hS, h1, fun ι1 H1 w e1 s1 r1 => ?_⟩
    show ∀ x dx, H1 x = none → H1 dx = none → dx ≠ x → spF C0 (Γ.ar g).length (F g) [.ref x, w] (upd (upd H1 dx (.own x)) x (.ins (C0.at_ c) dx [])) (fun w H2 => w = .non ∧ Q (.ref x) H2) E0
    intro x dx hx hdx ne
    have hx' : (upd H1 dx (.own x)) x = none := by rw [upd_ne (Ne.symm ne)]; exact hx
    have x1 : DL.Ext ι1 ι1 H1 (upd H1 dx (.own x)) := Ext.alloc hdx
    have x2 : DL.Ext ι1 (ι1 ++ [x]) (upd H1 dx (.own x)) (upd (upd H1 dx (.own x)) x (.ins (C0.at_ c) dx [])) := Ext.cell hx'
    have s2 := (s1.alloc (o := .own x) hdx).new (ob := .ins c none) hx' (o := .ins (C0.at_ c) dx []) ⟨dx, [], rfl, rfl⟩
    have hcell : (ι1 ++ [x])[m1.length]? = some x := by rw [← s1.len]; simp
    refine ⟨l, ι1 ++ [x], m1 ++ [.ins c none], [.cell m1.length, d], r, m2, ok.g.ar _ _ _ _ _ h3, s2, ⟨.ref x, [w], rfl, ⟨x, hcell, rfl⟩, w, [], rfl, r1.ext (x1.trans x2), rfl⟩, h3, fun ι' H' w' e3 s3 r3 => ?_⟩
    split at h4
    · rename_i hm2
      split at h4
      · rename_i hcc
        subst hcc
        cases h4
        refine ⟨r3, ?_⟩
        have e13 : DL.Ext ι1 ι' H1 H' := (x1.trans x2).trans e3
        refine q ι1 H' (.ref x) (e1.trans (take_ext e13)) (take_stm s1 e13 s3) ?_
        obtain ⟨b, ho, k1, k2, dx', fs, k3, z, k4, k5⟩ := s3.at_ _ _ hm2
        rw [e3.get hcell] at k1; cases k1
        subst k3 k4
        exact ⟨x, dx', z, rfl, s1.notin hx, k2, RepD.mono (take_mono e13) _ _ k5⟩
      · cases h4
    · cases h4
  · exact makeG M G ok.grd (ok.room.mono (by omega)) bi I1 rv q1
/-- str(x) by an own __str__ -/
theorem pe_strOD {f c : Nat} {o : E} {y : Expr} {p pos : Pos} (ok : CxOk Γ C0 F k sc X) (hm : (f, c, ("__str__" : Str)) ∈ Γ.mth) (hg : glbB sc "str" = true) (hs : noStar y = true) (ho : PE X y (tE C0 F o)) :
    PE X (.Call (.Name "str" p) [y] [] pos) (tE C0 F (.strO f c o)) := by
  obtain ⟨g, fd, hc, hme, hx, G, bi⟩ := ok.g.mth f c _ hm
  refine pe_imp (pe_callTy (call_strO hme G ok.grd (ok.room.mono (by omega)) bi) (ok.glb _ hg) (ok.g.blt .str) (by decide +kernel) (pa_cons ho pa_nil (star1 hs _ _)) (by decide) (by decide) (star1 hs _ _) rfl) (fun σ H Q h => ?_)
  obtain ⟨l, ι, ρ, m, u, m', he, hS, hev, q⟩ := h
  simp only [evE] at hev
  obtain ⟨z, m1, h1, h2⟩ := R.bind_inv hev
  split at h2
  case isFalse => cases h2
  rename_i hi
  obtain ⟨y', m2, h3, h4⟩ := R.bind_inv h2
  refine ⟨l, ι, ρ, m, z, m1, he, hS, h1, fun ι1 H1 w e1 s1 r1 => ?_⟩
  obtain ⟨a, dx, fs, ew, ea, _⟩ := ins_rep s1 r1 hi
  subst ew
  refine ⟨a, dx, fs, rfl, ea, l, ι1, m1, [z], y', m2, ok.g.ar _ _ _ _ _ h3, s1, ⟨.ref a, [], rfl, r1, rfl⟩, h3, fun ι' H' v e s r => ?_⟩
  split at h4
  · rename_i t
    cases h4
    have rv : v = .str (str0 t) := r
    subst rv
    exact ⟨_, rfl, q ι' H' _ (e1.trans e) s rfl⟩
  · cases h4
/-- isinstance of an own class -/
theorem pe_isiC {c : Nat} {a : E} {y : Expr} {tn : Str} {p p' pos : Pos} (ok : CxOk Γ C0 F k sc X) (hm : (c, tn) ∈ Γ.isc) (hg : glbB sc "isinstance" = true) (ht : glbB sc tn = true) (hp : plainN tn = true) (hs : noStar y = true) (he : PE X y (tE C0 F a)) :
    PE X (.Call (.Name "isinstance" p) [y, .Name tn p'] [] pos) (tE C0 F (.isi a (.cls c))) := by
  obtain ⟨hmg, kp, cl, ic⟩ := ok.g.isc c tn hm
  refine pe_imp (pe_callB call_isi (ok.glb _ hg) ok.g.isi (by decide +kernel) (pa_cons he (pa_cons (pe_glob (v := .ref (C0.at_ c)) (ok.glb tn ht) hmg rfl (plain_db hp).1) pa_nil rfl) (star1 hs _ _)) (by decide) (by decide) (star1 hs _ _) rfl) (fun σ H Q h => ?_)
  obtain ⟨l, ι, ρ, m, u, m', hE, hS, hev, q⟩ := h
  simp only [evE] at hev
  obtain ⟨x, m1, h1, hev⟩ := R.bind_inv hev
  obtain ⟨e3, rfl⟩ := ofO_inv hev
  obtain ⟨r, h3, rfl⟩ := Option.map_eq_some_iff.mp e3
  have hx : insC m' x = some c ∧ r = true := by
    cases x with
    | cell n => cases h3
    | d z =>
      cases z with
      | ins c' y =>
        have h4 : (if c' = c then some true else none) = some r := h3
        split at h4
        · rename_i hc; cases h4; exact ⟨congrArg some hc, rfl⟩
        · cases h4
      | _ => cases h3
  obtain ⟨hx, rfl⟩ := hx
  refine ⟨l, ι, ρ, m, x, _, hE, hS, h1, fun ι1 H1 v1 e1 s1 r1 => ?_⟩
  obtain ⟨b, dx, fs, ew, ea, _⟩ := ins_rep s1 r1 hx
  subst ew
  exact ⟨.ref b, _, .ref (C0.at_ c), .ref (C0.at_ c), true, rfl, .own _, .base (.ins ea cl ic.ca ic.cn ic.ct ic.cm), by unfold PySem.W.kitOne; rw [if_pos (beq_self_eq_true _)], q ι1 H1 _ e1 s1 rfl⟩
end
end DL
set_option linter.all false
set_option maxRecDepth 100000
set_option maxHeartbeats 4000000
namespace DL
open PySem PySem.Spec PyProof.Rows L2 LiI
/-- a set without members -/
abbrev so0 (w : World) : Obj := { cls := .type "set", dict := none, data := .set #[] 0 (.fresh 0 0 (!w.params.followText "set-order")) }
section
variable {P : Program} {w : World} {A : Around} {E : Value → Shared → Prop} {s : Shared}
theorem call_setL {l : Addr} {its : Array Value} (ns : List Int) {Q : Value → Shared → Prop} (hd : A.handled = none) (hL : s.heap.IsList l its) (hI : IntsAre its.toList ns) (hn : ns.length + 1 < scanBound)
    (q : ∀ (h' : Heap) (tk c : Nat), SetR w h' s.heap.objs.size (fun j => decide (j ∈ ns)) c → c ≤ ns.length → (∀ b o, s.heap.get? b = some o → h'.get? b = some o) → Q (.ref s.heap.objs.size) { s with heap := h', toks := tk }) :
    wpAny (model P w) A (call (.type "set") [.ref l]) Q E s := by
  have sz : its.size = ns.length := by rw [← Array.length_toList]; exact IntsAre.length hI
  obtain ⟨c0, tl0, hmro⟩ := F.called_set.mro
  have m1 := F.called_set.made
  have m2 := F.called_set.sub
  refine wpAny_call (codeAny_of_tree (?_ : wpAny _ _ (callAny (.type "set") _) _ _ _))
  refine wpAny_pure ⟨Code.quiet_builtin _ (by decide +kernel), codeAny_builtin F.entry_type_call ?_⟩
  rw [Around.under_plain (weight_type_call_type "set" [.ref l] []) rfl]
  have m3 := F.called_set.notType
  have m4 := F.called_set.canCreate
  have m5 := F.typeCall_set_1 (.ref l)
  repeat (any_goals (first | assumption | wp_step))
  refine codeAny_mono (code_set_led1 (.ref l) (E := E) (Q₁ := fun ob s1 => ob = .ref s.heap.objs.size ∧ s1 = { s with heap := s.heap.push (so0 w) }) ⟨rfl, rfl⟩) fun r1 s1 hr => ?_
  match r1, hr with
  | .ok (.ret ob), hr =>
    obtain ⟨rfl, rfl⟩ := hr
    have hS : (s.heap.push (so0 w)).get? s.heap.objs.size = some (so0 w) := Heap.get?_push_size _ rfl
    have hT : Shared.TypeIs { s with heap := s.heap.push (so0 w) } (.ref s.heap.objs.size) "set" := ⟨_, hS, rfl⟩
    have m6 := F.called_set.init.lookup
    have m7 := F.called_set.init.bind (.ref s.heap.objs.size)
    repeat (any_goals (first | assumption | wp_step))
    refine codeAny_mono (codeAny_call_builtin (R := wants (fun r s2 => r = .none ∧ ∃ h' tk c, s2 = { s with heap := h', toks := tk } ∧ SetR w h' s.heap.objs.size (fun j => decide (j ∈ ns)) c ∧ c ≤ ns.length ∧ (∀ b o, s.heap.get? b = some o → h'.get? b = some o)) E) F.called_set.init.plain F.entry_set_init (check_set_init_1 hT ?_)) fun r2 s2 hr2 => ?_
    · obtain ⟨ol, hol, hcl, nl, hdl⟩ := hL
      obtain ⟨ocls, odict, odata, oslots⟩ := ol
      simp only at hcl hdl
      subst hcl hdl
      have hol' : (s.heap.push (so0 w)).get? l = some { cls := .type "list", dict := odict, data := .seq its nl, slots := oslots } := Heap.get?_push_of_some _ hol
      have m8 := F.sub_list_set
      have m9 := F.sub_list_frozenset
      have m10 : (Value.type "list" == Value.type "dict") = false := by decide
      have hl1 : (s.heap.push (so0 w)).IsList l its := ⟨_, hol', rfl, nl, rfl⟩
      unfold Builtin.«set.__init__» noKeywords Builtin.Frozenset.updateFrom
      generalize hPI : pyIter = PI
      wp_walk
      subst hPI
      refine wpAny_pyIter_list hl1 (wpAny_bind (wpAny_runValue ?_))
      have hlS : l < s.heap.objs.size := Heap.lt_size hol
      have h3 : A.in1.in1.in1.handled = none := by simp [hd]
      have ne1 : l ≠ (s.heap.push (so0 w)).objs.size := by rw [Heap.size_push]; exact Nat.ne_of_lt (Nat.lt_succ_of_lt hlS)
      have ne2 : s.heap.objs.size ∉ [(s.heap.push (so0 w)).objs.size, l] := by
        rw [Heap.size_push, List.mem_cons, List.mem_singleton, not_or]
        exact ⟨Nat.ne_of_lt (Nat.lt_succ_self _), Nat.ne_of_gt hlS⟩
      have vals : ∀ (i : Nat) (v : Value), its[i]? = some v → ∃ k t, ns[i]? = some k ∧ v = .int k t := fun i v hv => by
        have hi : i < ns.length := by rw [← sz]; exact (Array.getElem?_eq_some_iff.mp hv).1
        obtain ⟨t, e⟩ := PyProof.Rows.IntsAre.int_at hI i v (by rw [Array.getElem?_toList]; exact hv)
        exact ⟨ns[i], t, List.getElem?_eq_getElem hi, by rw [e, List.getD_eq_getElem?_getD, List.getElem?_eq_getElem hi]; rfl⟩
      refine set_update_ints ((Walks.list h3 _ l ne1 its).toS) s.heap.objs.size ne2 ns sz hn vals (its.size - 0) 0 _ (by omega) (Nat.zero_le _) ⟨⟨_, Heap.get?_push_size _ rfl, rfl, rfl⟩, (hl1.push _)⟩ ⟨0, Nat.le_refl 0, setR_new_at (Heap.get?_push_of_some _ hS)⟩ ?hR
      intro s' c' hm hc' hS'
      obtain ⟨h', g2, d', tk', os'⟩ := s'
      have eg : g2 = s.gens := hm.gens
      have ed : d' = s.drawn := hm.drawn
      have eo : os' = s.os := hm.os
      subst eg ed eo
      refine wpAny_pure (?_ : wpAny _ _ (ret Value.none) _ _ _)
      rw [sz] at hc'
      refine wpAny_pure ⟨rfl, h', tk', c', rfl, hS', hc', fun b o e => ?_⟩
      have lt := Heap.lt_size e
      exact hm.heap b o (by rw [Heap.size_push, List.mem_cons, List.mem_singleton, not_or]; exact ⟨Nat.ne_of_lt lt, Nat.ne_of_lt (Nat.lt_succ_of_lt lt)⟩) (Heap.get?_push_of_some _ (Heap.get?_push_of_some _ e))
    · match r2, hr2 with
      | .ok (.ret r), hr2 =>
        obtain ⟨rfl, h', tk, c', rfl, hS', hc', hk'⟩ := hr2
        repeat (any_goals (first | assumption | wp_step))
        exact q _ _ _ hS' hc' hk'
      | .ok .next, hr2 => exact hr2.elim
      | .ok .brk, hr2 => exact hr2.elim
      | .ok .cont, hr2 => exact hr2.elim
      | .error e, hr2 => exact hr2
  | .ok .next, hr => exact hr.elim
  | .ok .brk, hr => exact hr.elim
  | .ok .cont, hr => exact hr.elim
  | .error e, hr => exact hr
end
theorem ins1_mem (x k : Int) : ∀ l : List Int, k ∈ ins1 x l ↔ k = x ∨ k ∈ l
  | [] => by simp [ins1]
  | y :: r => by
    unfold ins1
    split
    · simp
    · split
      · rename_i h; subst h; simp
      · rw [List.mem_cons, ins1_mem x k r, List.mem_cons]
        exact ⟨fun h => h.elim (fun z => .inr (.inl z)) fun z => z.elim .inl fun z => .inr (.inr z), fun h => h.elim (fun z => .inr (.inl z)) fun z => z.elim .inl fun z => .inr (.inr z)⟩
theorem ins1_lt (x : Int) : ∀ l : List Int, l.Pairwise (· < ·) → (ins1 x l).Pairwise (· < ·)
  | [], _ => by simp [ins1]
  | y :: r, h => by
    unfold ins1
    rw [List.pairwise_cons] at h
    split
    · rename_i hx
      refine List.pairwise_cons.mpr ⟨fun z hz => ?_, List.pairwise_cons.mpr h⟩
      rcases List.mem_cons.mp hz with rfl | hz
      · exact hx
      · exact Int.lt_trans hx (h.1 z hz)
    · split
      · exact List.pairwise_cons.mpr h
      · refine List.pairwise_cons.mpr ⟨fun z hz => ?_, ins1_lt x r h.2⟩
        rcases (ins1_mem x z r).mp hz with rfl | hz
        · omega
        · exact h.1 z hz
theorem sset_mem (k : Int) : ∀ l : List Int, k ∈ sset l ↔ k ∈ l
  | [] => by simp [sset]
  | x :: r => by rw [sset, ins1_mem, sset_mem k r, List.mem_cons]
theorem sset_lt : ∀ l : List Int, (sset l).Pairwise (· < ·)
  | [] => List.Pairwise.nil
  | x :: r => ins1_lt x _ (sset_lt r)
theorem rise_eq : ∀ {a b : List Int}, a.Pairwise (· < ·) → b.Pairwise (· < ·) → (∀ k, k ∈ a ↔ k ∈ b) → a = b
  | [], [], _, _, _ => rfl
  | [], y :: b, _, _, h => by have := (h y).mpr List.mem_cons_self; cases this
  | x :: a, [], _, _, h => by have := (h x).mp List.mem_cons_self; cases this
  | x :: a, y :: b, ha, hb, h => by
    rw [List.pairwise_cons] at ha hb
    have e : x = y := by
      rcases List.mem_cons.mp ((h x).mp List.mem_cons_self) with e | h1
      · exact e
      · rcases List.mem_cons.mp ((h y).mpr List.mem_cons_self) with e | h2
        · exact e.symm
        · have := hb.1 x h1
          have := ha.1 y h2
          omega
    subst e
    congr 1
    refine rise_eq ha.2 hb.2 fun k => ⟨fun hk => ?_, fun hk => ?_⟩
    · rcases List.mem_cons.mp ((h k).mp (List.mem_cons_of_mem _ hk)) with e | h1
      · have := ha.1 k hk; omega
      · exact h1
    · rcases List.mem_cons.mp ((h k).mpr (List.mem_cons_of_mem _ hk)) with e | h1
      · have := hb.1 k hk; omega
      · exact h1
/-- set(xs), xs a list of ints -/
def rSetI (K : PySem.W.Frag) (w : World) : List V → Hp → VK → Prop := fun xs H Q => ∃ (l : Addr) (ns : List Int), xs = [V.ref l] ∧ SqL K H l (ns.map V.int) ∧ ns.length < 64 ∧
  ∀ a c, H a = none → c ≤ ns.length → Q (.ref a) (upd H a (SetO w a (fun j => decide (j ∈ ns)) c))
theorem cr_setI {X : Cx} (hc : X.calm = true) : CallR X (.type "set") (rSetI X.K X.w) := by
  intro pins s σ H xs us Q I r h
  obtain ⟨l, ns, rfl, hl, hn, q⟩ := h
  rw [Vals.ref1 r]
  obtain ⟨its, rv, pl, hz⟩ := I.list hl
  have hi : IntsAre its ns := ints_of_vals rv
  refine call_setL (P := X.prog) (w := X.w) ns (I.ok.hd hc) pl.isList (by simpa using hi) (by unfold scanBound; omega) fun h' tk c R hcc k => ?_
  exact ⟨.ref s.heap.objs.size, upd H s.heap.objs.size (SetO X.w s.heap.objs.size (fun j => decide (j ∈ ns)) c), I.laid (t' := tk) k (Nat.le_refl _) (setO_new R), rfl, q _ c (I.hok.fresh (Nat.le_refl _)) hcc⟩
section
variable {Γ : Stat} {C0 : Cls'} {F : Fn} {k : Nat} {sc : Scope} {X : Cx}
theorem pe_ssetD {e : E} {y : Expr} {n n' : Str} {p p' pos pos' : Pos} (ok : CxOk Γ C0 F k sc X) (hg : glbB sc n = true) (h1 : n = "sorted") (hg' : glbB sc n' = true) (h2 : n' = "set") (hs : noStar y = true) (he : PE X y (tE C0 F e)) :
    PE X (.Call (.Name n p) [.Call (.Name n' p') [y] [] pos'] [] pos) (tE C0 F (.sset e)) := by
  subst h1 h2
  have hset := pe_callTy (pos := pos') (p := p') (cr_setI ok.calm) (ok.glb _ hg') ok.g.set (by decide +kernel) (pa_cons he pa_nil (star1 hs _ _)) (by decide) (by decide) (star1 hs _ _) rfl
  refine pe_imp (pe_callB (cr_sortedSet ok.calm) (ok.glb _ hg) (ok.g.blt .sorted) (by decide +kernel) (pa_cons hset pa_nil rfl) (by decide) (by decide) rfl rfl) fun σ H Q => ?_
  rintro ⟨l, ι, ρ, m, u, m', hE, hS, hev, q⟩
  simp only [evE] at hev
  obtain ⟨x, m1, h1, h2⟩ := R.bind_inv hev
  obtain ⟨h3, rfl⟩ := ofO_inv h2
  refine ⟨l, ι, ρ, m, x, m', hE, hS, h1, fun ι1 H1 w e1 s1 r1 => ?_⟩
  show rSetI X.K X.w [w] H1 fun y H2 => rSortedSet X.w [y] H2 Q
  unfold ssetD at h3
  split at h3
  case h_2 => cases h3
  rename_i xs hx
  split at h3
  case h_2 => cases h3
  rename_i ns hi
  split at h3
  case isFalse => cases h3
  rename_i hn
  cases h3
  obtain ⟨a, vs, rfl, ha, rv⟩ := lst_rep s1 r1 hx
  have ev := ints_rep _ rv hi
  subst ev
  refine ⟨a, ns, rfl, SqL.of ha, hn, fun p c hp hc => ⟨p, _, c, rfl, upd_same, by omega, fun ns' p' pw mem len hp' => ?_⟩⟩
  have es : ns' = sset ns := rise_eq pw (sset_lt ns) fun k => by rw [mem k, decide_eq_true_eq, sset_mem]
  subst es
  have s2 := s1.alloc (o := SetO X.w p (fun j => decide (j ∈ ns)) c) hp
  have s3 := s2.alloc (o := .lst ((sset ns).map V.int)) hp'
  exact q ι1 _ (.ref p') ((e1.trans (Ext.alloc hp)).trans (Ext.alloc hp')) s3 ⟨p', _, rfl, s2.notin hp', upd_same, ints_back _ _⟩
end
end DL
set_option linter.all false
set_option maxRecDepth 100000
set_option maxHeartbeats 4000000
namespace DL
open PySem PySem.Spec PyProof.Rows L2 LiI
theorem evens_get {α : Type} : ∀ l : List α, (List.range ((l.length + 1) / 2)).filterMap (fun j => l[2 * j]?) = evens l
  | [] => by simp [evens]
  | [x] => by simp [evens]
  | x :: y :: r => by
    have e : ((x :: y :: r).length + 1) / 2 = (r.length + 1) / 2 + 1 := by simp only [List.length_cons]; omega
    rw [e, List.range_succ_eq_map, List.filterMap_cons]
    have : ∀ j : Nat, (x :: y :: r)[2 * (j + 1)]? = r[2 * j]? := fun j => by
      rw [show 2 * (j + 1) = 2 * j + 1 + 1 from by omega, List.getElem?_cons_succ, List.getElem?_cons_succ]
    simp only [Nat.mul_zero, List.getElem?_cons_zero, List.filterMap_map, evens]
    rw [← evens_get r]
    congr 1
theorem evens_len {α : Type} : ∀ l : List α, (evens l).length ≤ l.length
  | [] => Nat.le_refl _
  | [x] => Nat.le_refl _
  | x :: y :: r => by have := evens_len r; simp only [evens, List.length_cons]; omega
theorem fm_congr {α β : Type} {f g : α → Option β} : ∀ {l : List α}, (∀ x ∈ l, f x = g x) → l.filterMap f = l.filterMap g
  | [], _ => rfl
  | x :: l, h => by rw [List.filterMap_cons, List.filterMap_cons, h x List.mem_cons_self, fm_congr fun y hy => h y (List.mem_cons_of_mem _ hy)]
theorem pick2 (k : Nat) (hk : k ≤ 1) (items : Array Value) : slicePick items (some (k : Int)) none (some 2) = (evens (items.toList.drop k)).toArray := by
  unfold slicePick
  have b : sliceBounds (some (k : Int)) none (some 2) items.size = (((min k items.size : Nat) : Int), (items.size : Int), (2 : Int)) := by
    unfold sliceBounds
    have e0 : ((some (2 : Int)).getD 1) = 2 := rfl
    simp only [e0, show ¬ ((2 : Int) < 0) from by decide, if_false]
    refine Prod.ext ?_ rfl
    simp only
    split <;> omega
  rw [b]
  show ((sliceRange ((min k items.size : Nat) : Int) (items.size : Int) 2).filterMap (items[·]?)).toArray = _
  congr 1
  rw [← evens_get]
  unfold sliceRange
  have e : (if (2 : Int) > 0 then (if ((min k items.size : Nat) : Int) < (items.size : Int) then ((items.size : Int) - ((min k items.size : Nat) : Int) + 2 - 1) / 2 else 0) else (if ((min k items.size : Nat) : Int) > (items.size : Int) then (((min k items.size : Nat) : Int) - (items.size : Int) - 2 - 1) / (-2) else 0)).toNat = ((items.toList.drop k).length + 1) / 2 := by
    rw [if_pos (by decide), List.length_drop, Array.length_toList]
    split <;> omega
  simp only [e, List.filterMap_map]
  refine fm_congr fun j hj => ?_
  have hj := List.mem_range.mp hj
  rw [List.length_drop, Array.length_toList] at hj
  simp only [Function.comp]
  rw [List.getElem?_drop, Array.getElem?_toList]
  congr 1
  omega
theorem vals_drop : ∀ {vs : List V} {us : List Value} (n : Nat), Vals vs us → Vals (vs.drop n) (us.drop n)
  | _, _, 0, r => r
  | _, _, n + 1, .nil => .nil
  | _, _, n + 1, .cons _ r => vals_drop n r
theorem vals_evens : ∀ {vs : List V} {us : List Value}, Vals vs us → Vals (evens vs) (evens us)
  | _, _, .nil => .nil
  | _, _, .cons r .nil => .cons r .nil
  | _, _, .cons r (.cons _ t) => .cons r (vals_evens t)
theorem rep_drop {C : Cls'} {ι : List Addr} {H : Hp} : ∀ {xs : List D} {vs : List V} (n : Nat), RepL C ι H xs vs → RepL C ι H (xs.drop n) (vs.drop n)
  | _, _, 0, r => r
  | [], _, n + 1, r => by rw [show _ = [] from r]; exact (rfl : ([] : List V) = [])
  | x :: xs, _, n + 1, r => by
    obtain ⟨v, ws, e, _, rs⟩ := r
    rw [e]; exact rep_drop n rs
theorem rep_evens {C : Cls'} {ι : List Addr} {H : Hp} : ∀ {xs : List D} {vs : List V}, RepL C ι H xs vs → RepL C ι H (evens xs) (evens vs)
  | [], _, r => by rw [show _ = [] from r]; exact (rfl : ([] : List V) = [])
  | [x], _, r => by
    obtain ⟨v, ws, e, r1, rs⟩ := r
    rw [e, show ws = [] from rs]; exact ⟨v, [], rfl, r1, rfl⟩
  | x :: y :: xs, _, r => by
    obtain ⟨v, ws, e, r1, w, zs, e2, _, rs⟩ := r
    rw [e, e2]; exact ⟨v, _, rfl, r1, rep_evens rs⟩
/-- xs[n::2] -/
def tStep (K : PySem.W.Frag) (n : Nat) (te : TE) : TE := fun σ H Q => te σ H fun x H1 => ∃ a xs, x = .ref a ∧ SqL K H1 a xs ∧ ∀ p, H1 p = none → Q (.ref p) (upd H1 p (.lst (evens (xs.drop n))))
theorem pe_step2 {X : Cx} {e : Expr} {te : TE} {n : Nat} {j j' : Nat} {p1 p2 p3 pos : Pos} (hn : n ≤ 1) (he : PE X e te) : PE X (.Subscript e (.Slice (some (.Constant (.int (n : Int)) j p1)) none (some (.Constant (.int 2) j' p2)) p3) pos) (tStep X.K n te) := by
  refine ⟨fun pins s σ H Q I h => ?_⟩
  refine Subscript_ (thn (he.run pins s σ H _ I h) fun v s1 ⟨x, H1, I1, r1, q1⟩ => ?_)
  obtain ⟨a, xs, ex, hx, q⟩ := q1
  subst ex
  cases r1
  have lo : PO X (some (.Constant (.int (n : Int)) j p1)) (tPart (tC (.int (n : Int)))) := po_some pe_int
  have st : PO X (some (.Constant (.int 2) j' p2)) (tPart (tC (.int 2))) := po_some pe_int
  refine wpAny_Slice (thn (lo.run pins s1 σ H1 (fun o H2 => o = some (n : Int) ∧ H2 = H1) I1 ⟨_, rfl, rfl, rfl⟩) fun vl s2 ⟨o2, H2, I2, pl, e2, g2⟩ => ?_)
  subst e2 g2
  refine thn (po_none.run pins s2 σ H2 (fun o H3 => o = none ∧ H3 = H2) I2 ⟨rfl, rfl⟩) fun vu s3 ⟨o3, H3, I3, pu, e3, g3⟩ => ?_
  subst e3 g3
  refine thn (st.run pins s3 σ H3 (fun o H4 => o = some 2 ∧ H4 = H3) I3 ⟨_, rfl, rfl, rfl⟩) fun vs s4 ⟨o4, H4, I4, ps, e4, g4⟩ => ?_
  subst e4 g4
  have I5 : Inv X pins σ H4 { s4 with heap := s4.heap.push { cls := .type "slice", data := .fields #[vl, vu, vs] } } := I4.kept (t' := s4.toks) fun b ob q => Heap.get?_push_of_some _ q
  obtain ⟨its, r, ht, hz⟩ := I5.list hx
  have hlen := r.length
  refine tail_any (ops := [.ref a, .ref s4.heap.objs.size]) ht.isList.typeIs (PySem.slot_list_getitem.lookup) ?_ (by with_unfolding_all rfl)
  refine wpAny_getItem_list_slice ht.isList (Heap.IsSliceOf.new _ vl vu vs) pl pu ps (by decide) ?_ (by rw [List.size_toArray]; omega)
  rw [pick2 n hn]
  refine ⟨.ref _, _, I5.laid (t' := s4.toks) (o := .lst (evens (xs.drop n))) (fun b ob q => Heap.get?_push_of_some _ q) (Nat.le_refl _) ?_, rfl, q _ (I5.hok.fresh (Nat.le_refl _))⟩
  refine ⟨?_, _, 0, vals_evens (vals_drop n r), Heap.get?_push_size _ rfl⟩
  have := evens_len (xs.drop n)
  rw [List.length_drop] at this
  omega
section
variable {Γ : Stat} {C0 : Cls'} {F : Fn} {k : Nat} {sc : Scope} {X : Cx}
theorem pe_stepD {n : Nat} {o : E} {v : Expr} {j j' : Nat} {p1 p2 p3 pos : Pos} (ok : CxOk Γ C0 F k sc X) (hn : n ≤ 1) (ho : PE X v (tE C0 F o)) : PE X (.Subscript v (.Slice (some (.Constant (.int (n : Int)) j p1)) none (some (.Constant (.int 2) j' p2)) p3) pos) (tE C0 F (.step n o)) := by
  refine pe_imp (pe_step2 hn ho) fun σ H Q => ?_
  rintro ⟨l, ι, ρ, m, u, m', hE, hS, hev, q⟩
  simp only [evE] at hev
  obtain ⟨x, m1, h1, h2⟩ := R.bind_inv hev
  obtain ⟨h3, rfl⟩ := ofO_inv h2
  refine ⟨l, ι, ρ, m, x, m', hE, hS, h1, fun ι1 H1 w e1 s1 r1 => ?_⟩
  unfold stepD at h3
  split at h3
  case h_2 => cases h3
  rename_i xs hx
  obtain ⟨a, vs, rfl, ha, rv⟩ := lst_rep s1 r1 hx
  have key : u = .d (.lst (evens (xs.drop n))) := by
    split at h3
    · rename_i e; subst e; cases h3; rfl
    · split at h3
      · rename_i e; subst e; cases h3; rfl
      · cases h3
  subst key
  exact ⟨a, vs, rfl, SqL.of ha, fun p hp => q ι1 _ (.ref p) (e1.trans (Ext.alloc hp)) (s1.alloc hp) ⟨p, _, rfl, s1.notin hp, upd_same, RepL.mono ((Ext.alloc hp).k _) _ _ (rep_evens (rep_drop n rv))⟩⟩
end
end DL
set_option linter.all false
set_option maxRecDepth 100000
set_option maxHeartbeats 4000000
namespace DL
open PySem PySem.Spec PyProof.Rows L2 LiI
def Mv (l ι : List Addr) (H : Hp) (l' ι' : List Addr) (H' : Hp) : Prop := (∀ a o, a ∉ l ++ ι → H a = some o → H' a = some o ∧ a ∉ l' ++ ι') ∧ ∀ (n : Nat) (a : Addr), ι[n]? = some a → ι'[n]? = some a
section
variable {C0 : Cls'} {l l' ι ι' : List Addr} {H H' : Hp}
mutual
theorem RepD.mv (k : Mv l ι H l' ι' H') : ∀ (x : D) (v : V), RepD (C0.b l) ι H x v → RepD (C0.b l') ι' H' x v
  | .non, v, h => h
  | .bl b, v, h => h
  | .int i, v, h => h
  | .str s, v, h => h
  | .tup xs, v, h => by
    obtain ⟨a, vs, e, n, ha, r⟩ := h
    obtain ⟨h1, h2⟩ := k.1 a _ n ha
    exact ⟨a, vs, e, h2, h1, RepL.mv k xs vs r⟩
  | .lst xs, v, h => by
    obtain ⟨a, vs, e, n, ha, r⟩ := h
    obtain ⟨h1, h2⟩ := k.1 a _ n ha
    exact ⟨a, vs, e, h2, h1, RepL.mv k xs vs r⟩
  | .dic ks, v, h => by
    obtain ⟨a, vs, e, n, ha, r⟩ := h
    obtain ⟨h1, h2⟩ := k.1 a _ n ha
    exact ⟨a, vs, e, h2, h1, RepK.mv k ks vs r⟩
  | .ins c x, v, h => by
    obtain ⟨a, dx, y, e, n, ha, r⟩ := h
    obtain ⟨h1, h2⟩ := k.1 a _ n ha
    exact ⟨a, dx, y, e, h2, h1, RepD.mv k x y r⟩
  | .scr ns, v, h => by
    obtain ⟨a, e, h⟩ := h
    refine ⟨a, e, h.elim (fun ⟨o, n, ha⟩ => ?_) .inr⟩
    obtain ⟨h1, h2⟩ := k.1 a _ n ha
    exact .inl ⟨o, h2, h1⟩
theorem RepL.mv (k : Mv l ι H l' ι' H') : ∀ (xs : List D) (vs : List V), RepL (C0.b l) ι H xs vs → RepL (C0.b l') ι' H' xs vs
  | [], vs, h => h
  | x :: xs, vs, h => by
    obtain ⟨v, ws, e, r, rs⟩ := h
    exact ⟨v, ws, e, RepD.mv k x v r, RepL.mv k xs ws rs⟩
theorem RepK.mv (k : Mv l ι H l' ι' H') : ∀ (xs : List (Int × D)) (vs : List (Key × V)), RepK (C0.b l) ι H xs vs → RepK (C0.b l') ι' H' xs vs
  | [], vs, h => h
  | (i, x) :: xs, vs, h => by
    obtain ⟨v, ws, e, r, rs⟩ := h
    exact ⟨v, ws, e, RepD.mv k x v r, RepK.mv k xs ws rs⟩
end
theorem RepP.mv (k : Mv l ι H l' ι' H') : ∀ (xs : List ((Int × Int) × D)) (vs : List (List Key × V)), RepP (C0.b l) ι H xs vs → RepP (C0.b l') ι' H' xs vs
  | [], vs, h => h
  | (i, x) :: xs, vs, h => by
    obtain ⟨v, ws, e, r, rs⟩ := h
    exact ⟨v, ws, e, RepD.mv k x v r, RepP.mv k xs ws rs⟩
theorem RepO.mv (k : Mv l ι H l' ι' H') {o : Ob} {ho : HO} (h : RepO (C0.b l) ι H o ho) : RepO (C0.b l') ι' H' o ho := by
  cases o with
  | lst xs => obtain ⟨vs, e, r⟩ := h; exact ⟨vs, e, RepL.mv k _ _ r⟩
  | dic xs => obtain ⟨vs, e, r⟩ := h; exact ⟨vs, e, RepK.mv k _ _ r⟩
  | dip xs => obtain ⟨vs, e, r⟩ := h; exact ⟨vs, e, RepP.mv k _ _ r⟩
  | ins c x =>
    obtain ⟨dx, fs, e, r⟩ := h
    refine ⟨dx, fs, e, ?_⟩
    cases x with
    | none => exact r
    | some y => obtain ⟨v, e2, r2⟩ := r; exact ⟨v, e2, RepD.mv k _ _ r2⟩
theorem RepU.mv (k : Mv l ι H l' ι' H') {x : U} {v : V} (h : RepU (C0.b l) ι H x v) : RepU (C0.b l') ι' H' x v := by
  cases x with
  | d x => exact RepD.mv (x := x) k _ h
  | cell n => obtain ⟨a, h1, h2⟩ := h; exact ⟨a, k.2 n a h1, h2⟩
theorem EnvR.mv (k : Mv l ι H l' ι' H') {ρ : Env} {σ : L2.St} (h : EnvR (C0.b l) ι H ρ σ) : EnvR (C0.b l') ι' H' ρ σ :=
  ⟨h.1, fun i u hu => let ⟨v, h1, h2⟩ := h.2 i u hu; ⟨v, h1, h2.mv k⟩⟩
def K0 : PySem.W.Frag := []
theorem Mv.ext (e : DL.Ext ι ι' H H') : Mv l ι H l ι' H' := ⟨fun a o n h => e.k (⟨fun _ => 0, fun _ => Str.empty, l, K0⟩ : Cls') a o n h, fun n a h => e.get h⟩
end
theorem wipeE_len (ρ : Env) : ∀ vs, (wipeE ρ vs).length = ρ.length
  | [] => rfl
  | v :: vs => by show ((wipeE ρ vs).set v none).length = _; rw [List.length_set, wipeE_len ρ vs]
theorem EnvR.wipe {C : Cls'} {ι : List Addr} {H : Hp} {ρ : Env} {σ : L2.St} (h : EnvR C ι H ρ σ) : ∀ vs, EnvR C ι H (wipeE ρ vs) (L2.wipe σ vs)
  | [] => h
  | v :: vs => by
    have ih := EnvR.wipe h vs
    refine ⟨by rw [wipeE_len, wipe_length]; exact h.1, fun i u hu => ?_⟩
    have hu' : ((wipeE ρ vs).set v none)[i]? = some (some u) := hu
    show ∃ w, ((L2.wipe σ vs).set v none)[i]? = some (some w) ∧ _
    by_cases e : v = i
    · subst e
      by_cases hl : v < (wipeE ρ vs).length
      · rw [List.getElem?_set_self hl] at hu'; cases hu'
      · rw [List.getElem?_eq_none (by simp; omega)] at hu'; cases hu'
    · rw [List.getElem?_set_ne e] at hu' ⊢
      exact ih.2 i u hu'
theorem wipe_wipe (σ : L2.St) : ∀ vs, L2.wipe (L2.wipe σ vs) vs = L2.wipe σ vs := by
  intro vs
  have aux : ∀ (us : List Nat) (τ : L2.St), (∀ i ∈ us, i < τ.length → τ[i]? = some none) → L2.wipe τ us = τ := by
    intro us
    induction us with
    | nil => intro τ _; rfl
    | cons u us ih =>
      intro τ h
      show (L2.wipe τ us).set u none = τ
      rw [ih τ fun i hi => h i (List.mem_cons_of_mem _ hi)]
      by_cases hl : u < τ.length
      · have := h u List.mem_cons_self hl
        apply List.ext_getElem?
        intro j
        by_cases e : u = j
        · subst e; rw [List.getElem?_set_self hl, this]
        · rw [List.getElem?_set_ne e]
      · exact List.set_eq_of_length_le (by omega)
  refine aux vs _ fun i hi hl => ?_
  cases q : (L2.wipe σ vs)[i]? with
  | none => rw [List.getElem?_eq_none_iff] at q; omega
  | some o =>
    cases o with
    | none => rfl
    | some x => exact absurd hi (wipe_some q).2
def Same (g : Option Nat) (m0 m : Mem) : Prop := ∀ n, g = some n → m[n]? = m0[n]?
theorem unpair : ∀ {ks js : List (Int × D)}, (ks.map fun p => D.tup [.int p.1, p.2]) = (js.map fun p => D.tup [.int p.1, p.2]) → ks = js
  | [], [], _ => rfl
  | [], _ :: _, h => by cases h
  | _ :: _, [], h => by cases h
  | (a, b) :: ks, (c, d) :: js, h => by
    simp only [List.map_cons, List.cons.injEq, D.tup.injEq, D.int.injEq] at h
    obtain ⟨⟨rfl, rfl, _⟩, h2⟩ := h
    rw [unpair h2]
theorem same_of {g : Option Nat} {m0 m : Mem} (h : okG g m0 m = true) : Same g m0 m := by
  rintro n rfl
  simp only [okG] at h
  unfold sameO at h
  split at h
  · rename_i e1 e2
    rw [e1, e2, sameL_eq _ _ h]
  · rename_i e1 e2
    rw [e1, e2]
    congr 1
    congr 1
    exact (unpair (sameL_eq _ _ h)).symm
  · cases h
structure Walk (C0 : Cls') (l ι1 : List Addr) (H1 : Hp) (m1 : Mem) (J : L2.It) (xs : List D) (g : Option Nat) : Prop where
  go : ∀ l' ι2 H2 m2, Mv l ι1 H1 l' ι2 H2 → StM (C0.b l') ι2 H2 m2 → Same g m1 m2 → ∀ i, i < xs.length → J.go i H2 ∧ ∀ x H', J.yld i H2 x H' → DL.Ext ι2 ι2 H2 H' ∧ StM (C0.b l') ι2 H' m2 ∧ ∃ d, xs[i]? = some d ∧ RepD (C0.b l') ι2 H' d x
  stop : ∀ l' ι2 H2 m2, Mv l ι1 H1 l' ι2 H2 → StM (C0.b l') ι2 H2 m2 → Same g m1 m2 → ∀ i, xs.length ≤ i → J.stop i H2
def tI (C0 : Cls') (F : Fn) (it : It) : TI := fun σ H R => ∃ l ι ρ m p m', let C := C0.b l; EnvR C ι H ρ σ ∧ StM C ι H m ∧ evIt F it ρ m = .ok p m' ∧
  ∀ ι1 H1 J, DL.Ext ι ι1 H H1 → StM C ι1 H1 m' → p.1.length ≤ 16777216 → Walk C0 l ι1 H1 m' J p.1 p.2 → R J H1
theorem pi_imp {X : Cx} {tg x : Expr} {t t' : TI} (h : PI X tg x t) (i : ∀ σ H Q, t' σ H Q → t σ H Q) : PI X tg x t' := ⟨fun pins s σ H Q I q => h.run pins s σ H Q I (i σ H Q q)⟩
theorem pi_or' {X : Cx} {tg x : Expr} {t t' : TI} (h : PI X tg x t) (h' : PI X tg x t') : PI X tg x (fun σ H Q => t σ H Q ∨ t' σ H Q) :=
  ⟨fun pins s σ H Q I q => q.elim (fun z => h.run pins s σ H Q I z) fun z => h'.run pins s σ H Q I z⟩
theorem pts_imp {X : Cx} {x : List Expr} {t t' : TT} (h : PTs X x t) (i : ∀ σ H Q, t' σ H Q → t σ H Q) : PTs X x t' := ⟨fun pins s σ H Q I q => h.run pins s σ H Q I (i σ H Q q)⟩
/-- a list's or a tuple's size is known -/
def Sz (K : PySem.W.Frag) (x : V) (H : Hp) : Prop := ∀ a xs, x = .ref a → (SqL K H a xs ∨ SqT K H a xs) → xs.length ≤ 16777216
def tSz (K : PySem.W.Frag) (te : TE) : TE := fun σ H Q => te σ H fun x H1 => Sz K x H1 → Q x H1
theorem pe_sz {X : Cx} {x : Expr} {te : TE} (h : PE X x te) : PE X x (tSz X.K te) := by
  refine ⟨fun pins s σ H Q I q => thn (h.run pins s σ H _ I q) fun v s1 ⟨x, H1, I1, r1, q1⟩ => ⟨x, H1, I1, r1, q1 fun a xs e hs => ?_⟩⟩
  rcases hs with hs | hs
  · obtain ⟨_, _, _, z⟩ := I1.list hs; rw [sizeLine_eq] at z; exact z
  · obtain ⟨_, _, _, z⟩ := I1.tuple hs; rw [sizeLine_eq] at z; exact z
theorem pa_sz {X : Cx} {x : Expr} {te : TE} (h : PE X x te) (hs : noStar x = true) : PA X [x] (tCons (tSz X.K te) tNil) := pa_cons (pe_sz h) pa_nil (star1 hs _ _)
section
variable {C0 : Cls'} {F : Fn} {X : Cx} {l ι1 : List Addr} {H1 : Hp} {m1 : Mem}
/-- where the walked list or tuple stands -/
theorem seat {K : PySem.W.Frag} {u : U} {v : V} {xs : List D} (S : StM (C0.b l) ι1 H1 m1) (r : RepU (C0.b l) ι1 H1 u v) (h : seqO m1 u = some xs) :
    ∃ a, v = .ref a ∧ ∃ ws0, ((H1 a = some (.lst ws0)) ∨ (H1 a = some (.tup ws0))) ∧ xs.length = ws0.length ∧ ∀ l' ι2 H2 m2, Mv l ι1 H1 l' ι2 H2 → StM (C0.b l') ι2 H2 m2 → Same (cellG u) m1 m2 → ∃ ws, ((H1 a = some (.lst ws0) ∧ H2 a = some (.lst ws)) ∨ (H1 a = some (.tup ws0) ∧ H2 a = some (.tup ws))) ∧ RepL (C0.b l') ι2 H2 xs ws := by
  cases u with
  | d x =>
    cases x <;> simp only [seqO] at h <;> first | (cases h; done) | skip
    · cases h
      obtain ⟨a, ws, rfl, n, ha, rr⟩ := r
      exact ⟨a, rfl, ws, .inr ha, rr.length, fun l' ι2 H2 m2 mv s2 g => ⟨ws, .inr ⟨ha, (mv.1 a _ n ha).1⟩, RepL.mv mv _ _ rr⟩⟩
    · cases h
      obtain ⟨a, ws, rfl, n, ha, rr⟩ := r
      exact ⟨a, rfl, ws, .inl ha, rr.length, fun l' ι2 H2 m2 mv s2 g => ⟨ws, .inl ⟨ha, (mv.1 a _ n ha).1⟩, RepL.mv mv _ _ rr⟩⟩
  | cell n =>
    simp only [seqO] at h
    split at h
    · rename_i ys hm
      cases h
      obtain ⟨a, hp, rfl⟩ := r
      obtain ⟨p', ho, h2, h3, ws0, rfl, rv0⟩ := S.at_ n _ hm
      rw [hp] at h2; cases h2
      refine ⟨a, rfl, ws0, .inl h3, rv0.length, fun l' ι2 H2 m2 mv s2 g => ?_⟩
      have hm2 : m2[n]? = some (.lst xs) := by rw [g n rfl]; exact hm
      obtain ⟨p', ho, h4, h5, ws, rfl, rv⟩ := s2.at_ n _ hm2
      rw [mv.2 n a hp] at h4; cases h4
      exact ⟨ws, .inl ⟨h3, h5⟩, rv⟩
    · cases h
theorem walk_list {K : PySem.W.Frag} {u : U} {a : Addr} {xs : List D} {ws0 : List V} (h1 : H1 a = some (.lst ws0)) (h : ∀ l' ι2 H2 m2, Mv l ι1 H1 l' ι2 H2 → StM (C0.b l') ι2 H2 m2 → Same (cellG u) m1 m2 → ∃ ws, ((H1 a = some (.lst ws0) ∧ H2 a = some (.lst ws)) ∨ (H1 a = some (.tup ws0) ∧ H2 a = some (.tup ws))) ∧ RepL (C0.b l') ι2 H2 xs ws) :
    Walk C0 l ι1 H1 m1 (Itl K a) xs (cellG u) where
  go := fun l' ι2 H2 m2 mv s2 g i hi => by
    obtain ⟨ws, hw, rv⟩ := h l' ι2 H2 m2 mv s2 g
    have h2 : H2 a = some (.lst ws) := hw.elim (·.2) fun z => by rw [h1] at z; cases z.1
    obtain ⟨v, h3, h4⟩ := rv.get (List.getElem?_eq_getElem hi)
    exact ⟨⟨ws, v, SqL.of h2, h3⟩, fun x H' ⟨e, hy⟩ => by
      subst e
      have := hy ws (SqL.of h2)
      rw [h3] at this; cases this
      exact ⟨Ext.refl, s2, _, List.getElem?_eq_getElem hi, h4⟩⟩
  stop := fun l' ι2 H2 m2 mv s2 g i hi => by
    obtain ⟨ws, hw, rv⟩ := h l' ι2 H2 m2 mv s2 g
    have h2 : H2 a = some (.lst ws) := hw.elim (·.2) fun z => by rw [h1] at z; cases z.1
    exact ⟨ws, SqL.of h2, by rw [← rv.length]; exact hi⟩
theorem walk_tup {K : PySem.W.Frag} {u : U} {a : Addr} {xs : List D} {ws0 : List V} (h1 : H1 a = some (.tup ws0)) (h : ∀ l' ι2 H2 m2, Mv l ι1 H1 l' ι2 H2 → StM (C0.b l') ι2 H2 m2 → Same (cellG u) m1 m2 → ∃ ws, ((H1 a = some (.lst ws0) ∧ H2 a = some (.lst ws)) ∨ (H1 a = some (.tup ws0) ∧ H2 a = some (.tup ws))) ∧ RepL (C0.b l') ι2 H2 xs ws) :
    Walk C0 l ι1 H1 m1 (Itt K a) xs (cellG u) where
  go := fun l' ι2 H2 m2 mv s2 g i hi => by
    obtain ⟨ws, hw, rv⟩ := h l' ι2 H2 m2 mv s2 g
    have h2 : H2 a = some (.tup ws) := hw.elim (fun z => by rw [h1] at z; cases z.1) (·.2)
    obtain ⟨v, h3, h4⟩ := rv.get (List.getElem?_eq_getElem hi)
    exact ⟨⟨ws, v, SqT.of h2, h3⟩, fun x H' ⟨e, hy⟩ => by
      subst e
      have := hy ws (SqT.of h2)
      rw [h3] at this; cases this
      exact ⟨Ext.refl, s2, _, List.getElem?_eq_getElem hi, h4⟩⟩
  stop := fun l' ι2 H2 m2 mv s2 g i hi => by
    obtain ⟨ws, hw, rv⟩ := h l' ι2 H2 m2 mv s2 g
    have h2 : H2 a = some (.tup ws) := hw.elim (fun z => by rw [h1] at z; cases z.1) (·.2)
    exact ⟨ws, SqT.of h2, by rw [← rv.length]; exact hi⟩
theorem walk_str (s : List Nat) : Walk C0 l ι1 H1 m1 (Its (str0 s)) (s.map fun c => .str [c]) none where
  go := fun l' ι2 H2 m2 mv s2 g i hi => by
    rw [List.length_map] at hi
    refine ⟨show i < (str0 s).cps.size by simp [str0]; exact hi, fun x H' ⟨e, c, hc, ex⟩ => ?_⟩
    subst e; subst ex
    have hc' : s[i]? = some c := by simpa [str0] using hc
    exact ⟨Ext.refl, s2, .str [c], by rw [List.getElem?_map, hc']; rfl, rfl⟩
  stop := fun l' ι2 H2 m2 mv s2 g i hi => by
    rw [List.length_map] at hi
    show (str0 s).cps.size ≤ i
    simp [str0]; exact hi
theorem walk_rng {n : Int} : Walk C0 l ι1 H1 m1 (Itr 0 n.toNat) ((List.range n.toNat).map fun (i : Nat) => D.int (i : Int)) none where
  go := fun l' ι2 H2 m2 mv s2 g i hi => by
    rw [List.length_map, List.length_range] at hi
    refine ⟨hi, fun x H' ⟨e, ex⟩ => ?_⟩
    subst e; subst ex
    refine ⟨Ext.refl, s2, .int (i : Int), by rw [List.getElem?_map, List.getElem?_range hi]; rfl, ?_⟩
    show V.int (0 + (i : Int)) = V.int i
    rw [Int.zero_add]
  stop := fun l' ι2 H2 m2 mv s2 g i hi => by
    rw [List.length_map, List.length_range] at hi
    exact hi
theorem numbered_get {xs : List D} {i : Nat} {d : D} (h : xs[i]? = some d) : (numbered xs)[i]? = some (.tup [.int i, d]) := by
  unfold numbered
  rw [List.getElem?_map, List.getElem?_zipIdx, h]
  simp
theorem numbered_len (xs : List D) : (numbered xs).length = xs.length := by simp [numbered]
theorem walk_enum {K : PySem.W.Frag} {u : U} {a : Addr} {xs : List D} {ws0 : List V} (h1 : H1 a = some (.lst ws0)) (h : ∀ l' ι2 H2 m2, Mv l ι1 H1 l' ι2 H2 → StM (C0.b l') ι2 H2 m2 → Same (cellG u) m1 m2 → ∃ ws, ((H1 a = some (.lst ws0) ∧ H2 a = some (.lst ws)) ∨ (H1 a = some (.tup ws0) ∧ H2 a = some (.tup ws))) ∧ RepL (C0.b l') ι2 H2 xs ws) :
    Walk C0 l ι1 H1 m1 (Ite K a) (numbered xs) (cellG u) where
  go := fun l' ι2 H2 m2 mv s2 g i hi => by
    rw [numbered_len] at hi
    obtain ⟨ws, hw, rv⟩ := h l' ι2 H2 m2 mv s2 g
    have h2 : H2 a = some (.lst ws) := hw.elim (·.2) fun z => by rw [h1] at z; cases z.1
    obtain ⟨v, h3, h4⟩ := rv.get (List.getElem?_eq_getElem hi)
    refine ⟨⟨ws, v, SqL.of h2, h3⟩, fun x H' ⟨T, y, e, hT, e2, hy⟩ => ?_⟩
    subst e; subst e2
    have := hy ws (SqL.of h2)
    rw [h3] at this; cases this
    exact ⟨Ext.alloc hT, s2.alloc hT, _, numbered_get (List.getElem?_eq_getElem hi), rep_tup s2 hT ⟨_, _, rfl, rfl, _, [], rfl, h4, rfl⟩⟩
  stop := fun l' ι2 H2 m2 mv s2 g i hi => by
    rw [numbered_len] at hi
    obtain ⟨ws, hw, rv⟩ := h l' ι2 H2 m2 mv s2 g
    have h2 : H2 a = some (.lst ws) := hw.elim (·.2) fun z => by rw [h1] at z; cases z.1
    exact ⟨ws, SqL.of h2, by rw [← rv.length]; exact hi⟩
end
end DL
set_option linter.all false
set_option maxRecDepth 100000
set_option maxHeartbeats 4000000
namespace DL
open PySem PySem.Spec PyProof.Rows L2 LiI
section
variable {C0 : Cls'} {F : Fn} {X : Cx} {tg x : Expr} {e : E}
theorem pi_seqD (he : PE X x (tE C0 F e)) : PI X tg x (tI C0 F (.seq e)) := by
  refine pi_imp (pi_or' (pi_str (pe_sz he)) (pi_or' (pi_list (pe_sz he)) (pi_tup (pe_sz he)))) ?_
  rintro σ H RR ⟨l, ι, ρ, m, p, m', hn, hs, hev, q⟩
  simp only [evIt] at hev
  obtain ⟨u, m1, h1, hev⟩ := R.bind_inv hev
  obtain ⟨e3, rfl⟩ := ofO_inv hev
  have lists : ∀ xs, seqO m' u = some xs → p = (xs, cellG u) → iList X.K (tSz X.K (tE C0 F e)) σ H RR ∨ iTup X.K (tSz X.K (tE C0 F e)) σ H RR := by
    rintro xs h2 rfl
    by_cases hk : ∃ ys, u = .d (.tup ys)
    · obtain ⟨ys, rfl⟩ := hk
      refine .inr ⟨l, ι, ρ, m, _, _, hn, hs, h1, fun ι1 H1 v e1 s1 r1 sz => ?_⟩
      obtain ⟨a, rfl, ws0, hw, hl, hh⟩ := seat (K := X.K) s1 r1 h2
      obtain ⟨a', ws, e4, nn, ha, rr⟩ := id r1
      cases e4
      refine ⟨a, rfl, ⟨ws, SqT.of ha⟩, q ι1 H1 _ e1 s1 ?_ (walk_tup (u := .d (.tup ys)) (ws0 := ws) ha ?_)⟩
      · have := sz a ws rfl (.inr (SqT.of ha))
        have e5 : ws0 = ws := by rcases hw with hw | hw <;> rw [ha] at hw <;> cases hw; rfl
        show xs.length ≤ _; rw [hl, e5]; exact this
      · have e5 : ws0 = ws := by rcases hw with hw | hw <;> rw [ha] at hw <;> cases hw; rfl
        rw [← e5]; exact hh
    · refine .inl ⟨l, ι, ρ, m, _, _, hn, hs, h1, fun ι1 H1 v e1 s1 r1 sz => ?_⟩
      obtain ⟨a, rfl, ws0, hw, hl, hh⟩ := seat (K := X.K) s1 r1 h2
      have hw' : H1 a = some (.lst ws0) := by
        rcases hw with hw | hw
        · exact hw
        · exfalso
          cases u with
          | d y =>
            cases y <;> simp only [seqO] at h2 <;> first | (cases h2; done) | skip
            · exact hk ⟨_, rfl⟩
            · obtain ⟨a', ws, e4, nn, ha, rr⟩ := r1
              cases e4
              rw [ha] at hw; cases hw
          | cell n =>
            simp only [seqO] at h2
            split at h2
            · rename_i ys hm
              obtain ⟨a', hp, e4⟩ := r1
              cases e4
              obtain ⟨p', ho, h4, h5, ws, rfl, rv⟩ := s1.at_ n _ hm
              rw [hp] at h4; cases h4
              rw [h5] at hw; cases hw
            · cases h2
      refine ⟨a, rfl, ⟨ws0, SqL.of hw'⟩, q ι1 H1 _ e1 s1 ?_ (walk_list (u := u) hw' hh)⟩
      show xs.length ≤ _; rw [hl]; exact sz a ws0 rfl (.inl (SqL.of hw'))
  unfold seqIt at e3
  split at e3
  · rename_i s
    split at e3
    · rename_i hz
      cases e3
      exact .inl ⟨l, ι, ρ, m, _, _, hn, hs, h1, fun ι1 H1 v e1 s1 r1 sz => ⟨str0 s, r1, q ι1 H1 _ e1 s1 (by rw [List.length_map]; exact hz) (walk_str s)⟩⟩
    · cases e3
  · obtain ⟨xs, h2, rfl⟩ := Option.map_eq_some_iff.mp e3
    exact .inr (lists xs h2 rfl)
theorem pi_rngD {n : Str} {p pos : Pos} (hg : Gl X "range") (hm : X.mg "range" = none) (hs : noStar x = true) (he : PE X x (tE C0 F e)) : PI X tg (.Call (.Name "range" p) [x] [] pos) (tI C0 F (.rng e)) := by
  refine pi_imp (pi_range1 hg hm (pa_cons he pa_nil (star1 hs _ _)) (star1 hs _ _)) ?_
  rintro σ H RR ⟨l, ι, ρ, m, p, m', hn, hS, hev, q⟩
  simp only [evIt] at hev
  obtain ⟨u, m1, h1, hev⟩ := R.bind_inv hev
  split at hev
  · rename_i i
    obtain ⟨e3, rfl⟩ := ofO_inv hev
    obtain ⟨xs, h2, rfl⟩ := Option.map_eq_some_iff.mp e3
    unfold tyRange at h2
    split at h2
    · rename_i hz
      cases h2
      refine ⟨l, ι, ρ, m, _, _, hn, hS, h1, fun ι1 H1 v e1 s1 r1 => ⟨i, by rw [show v = V.int i from r1], hz.1, by omega, q ι1 H1 _ e1 s1 ?_ walk_rng⟩⟩
      show ((List.range i.toNat).map _).length ≤ _
      rw [List.length_map, List.length_range]; omega
    · cases h2
  · cases hev
end
/-- the turn of a comprehension -/
def lcB (F : Fn) (own : List Nat) (tg : Tg) (cs : Es) (e : E) (ρ : Env) : D → Mem → R (Option D) := fun x m2 => (assT F tg (.d x) (wipeE ρ own) m2).bind fun ρ1 m3 => (evCj F true cs ρ1 m3).bind fun k m4 => match k with
        | false => .ok none m4
        | true => (evE F e ρ1 m4).bind fun y m5 => match y with
          | .d z => .ok (some z) m5
          | .cell _ => .no
structure LW (C0 : Cls') (l ι1 : List Addr) (H1 : Hp) (m1 : Mem) (g : Option Nat) (b : D → Mem → R (Option D)) (xs total : List D) (m' : Mem) (D : Addr) (i : Nat) (H2 : Hp) : Prop where
  le : i ≤ xs.length
  st : ∃ ι2 m2 acc ys rest, DL.Ext ι1 ι2 H1 H2 ∧ H2 D = some (.lst acc) ∧ D ∉ ι2 ∧ StM (C0.b (D :: l)) ι2 H2 m2 ∧ Same g m1 m2 ∧ RepL (C0.b (D :: l)) ι2 H2 ys acc ∧ acc.length ≤ i ∧ lcL g m1 b (xs.drop i) m2 = .ok rest m' ∧ ys ++ rest = total
theorem ban_more {C0 : Cls'} {l ι1 ι2 : List Addr} {H1 H2 : Hp} {m1 : Mem} {D : Addr} {u : HO} (hD : H1 D = none) (hD2 : H2 D = some u) (hn : D ∉ ι2) (S : StM (C0.b l) ι1 H1 m1) (e : DL.Ext ι1 ι2 H1 H2) : Mv l ι1 H1 (D :: l) ι2 H2 := by
  refine ⟨fun a o ha h => ?_, fun n a h => e.get h⟩
  have n1 : a ∉ l := fun z => ha (List.mem_append_left _ z)
  have n2 : a ∉ ι1 := fun z => ha (List.mem_append_right _ z)
  refine ⟨e.keep a o n2 h, fun z => ?_⟩
  rcases List.mem_append.mp z with z | z
  · rcases List.mem_cons.mp z with z | z
    · rw [z, hD] at h; cases h
    · exact n1 z
  · exact e.out n2 h z
theorem stm_mv {C0 : Cls'} {l l' ι : List Addr} {H H' : Hp} {m : Mem} (S : StM (C0.b l) ι H m) (mv : Mv l ι H l' ι H') (bn : ∀ a ∈ l', ∃ o, H' a = some o) (kp : ∀ a o, a ∈ ι → H a = some o → H' a = some o) : StM (C0.b l') ι H' m :=
  ⟨S.len, S.nd, bn, fun k o hk => by
    obtain ⟨a, ho, h1, h2, h3⟩ := S.at_ k o hk
    exact ⟨a, ho, h1, kp a ho (List.mem_of_getElem? h1) h2, h3.mv mv⟩⟩
section
variable {C0 : Cls'} {F : Fn} {σ : L2.St} {H : Hp} {Q : VK}
theorem im_lc {own : List Nat} {tg : Tg} {it : It} {cs : Es} {e : E} (ht : tgIn own tg = true) (h : tE C0 F (.lc own tg it cs e) σ H Q) : tLc (tI C0 F it) (tG C0 F tg) (tJ C0 F true cs) (tE C0 F e) own σ H Q := by
  obtain ⟨l, ι, ρ, m, u, m', he, hs, hev, q⟩ := h
  simp only [evE] at hev
  obtain ⟨p, m1, h1, hev⟩ := R.bind_inv hev
  obtain ⟨total, m6, h2, hev⟩ := R.bind_inv hev
  cases hev
  refine ⟨l, ι, ρ, m, p, m1, he, hs, h1, fun ι1 H1 J e1 s1 hz w D hD => ?_⟩
  have h2' : lcL p.2 m1 (lcB F own tg cs e ρ) p.1 m1 = .ok total m' := h2
  refine ⟨fun i n H2 => n = p.1.length - i ∧ LW C0 l ι1 H1 m1 p.2 (lcB F own tg cs e ρ) p.1 total m' D i H2, ⟨p.1.length, by simp, ⟨Nat.zero_le _, ι1, m1, [], [], total, Ext.alloc hD, upd_same, fun z => ?_, ?_, fun _ _ => rfl, rfl, Nat.le_refl _, by rw [List.drop_zero]; exact h2', rfl⟩⟩, ?_⟩
  · obtain ⟨o, ho⟩ := s1.inι z
    rw [hD] at ho; cases ho
  · have nD : D ∉ ι1 := fun z => by
      obtain ⟨o, ho⟩ := s1.inι z
      rw [hD] at ho; cases ho
    refine stm_mv s1 (ban_more (u := .lst []) hD upd_same nD s1 (Ext.alloc hD)) (fun a ha => ?_) fun a o ha h => by rw [upd_ne (ne_of_none h hD)]; exact h
    rcases List.mem_cons.mp ha with z | z
    · rw [z]; exact ⟨_, upd_same⟩
    · obtain ⟨o, ho⟩ := s1.bn a z
      exact ⟨o, by rw [upd_ne (ne_of_none ho hD)]; exact ho⟩
  rintro i n H2 ⟨rfl, hle, ι2, m2, acc, ys, rest, ex, hacc, nD, s2, sm, ra, hl, hr, ht2⟩
  have mv := ban_more hD hacc nD s1 ex
  by_cases hi : i < p.1.length
  · right
    obtain ⟨go, yl⟩ := w.go _ _ _ _ mv s2 sm i hi
    refine ⟨go, fun H' => LW C0 l ι1 H1 m1 p.2 (lcB F own tg cs e ρ) p.1 total m' D (i + 1) H', fun H' hw => ⟨p.1.length - (i + 1), by omega, rfl, hw⟩, fun x H' hy => ?_⟩
    obtain ⟨e2, s2', d, hd, rd⟩ := yl x H' hy
    have hdrop : p.1.drop i = d :: p.1.drop (i + 1) := by
      rw [List.drop_eq_getElem_cons hi]
      congr 1
      rw [List.getElem?_eq_getElem hi] at hd
      exact Option.some.inj hd
    rw [hdrop] at hr
    simp only [lcL] at hr
    obtain ⟨r, m3, hb, hr⟩ := R.bind_inv hr
    by_cases hg : okG p.2 m1 m3 = true
    case neg => rw [if_neg hg] at hr; cases hr
    rw [if_pos hg] at hr
    obtain ⟨rest', m5, hrec, hr⟩ := R.bind_inv hr
    cases hr
    unfold lcB at hb
    obtain ⟨ρ1, m3a, ha, hb⟩ := R.bind_inv hb
    obtain ⟨k, m3b, hk, hb⟩ := R.bind_inv hb
    have mv' : Mv l ι1 H1 (D :: l) ι2 H' := by
      have hD' : H' D = some (.lst acc) := e2.keep D _ nD hacc
      exact ban_more hD hD' nD s1 (ex.trans e2)
    refine ⟨D :: l, ι2, wipeE ρ own, m2, .d d, ρ1, m3a, ((he.ext e1).mv mv').wipe own, s2', rd, ha, fun ι3 H3 σ' e3 s3 env3 wv => ⟨(wv own ht).trans (wipe_wipe σ own), ?_⟩⟩
    refine ⟨D :: l, ι3, ρ1, m3a, k, m3b, env3, s3, hk, fun ι4 H4 e4 s4 => ?_⟩
    have e24 : DL.Ext ι2 ι4 H2 H4 := (e2.trans e3).trans e4
    have hD4 : H4 D = some (.lst acc) := e24.keep D _ nD hacc
    have nD4 : D ∉ ι4 := e24.out nD hacc
    cases k with
    | false =>
      cases hb
      refine iteF ?_
      exact ⟨hi, ι4, _, acc, ys, rest', ex.trans e24, hD4, nD4, s4, same_of hg, ra.ext e24, by omega, hrec, ht2⟩
    | true =>
      simp only at hb
      obtain ⟨y, m3c, hy2, hb⟩ := R.bind_inv hb
      refine iteT ?_
      split at hb
      · rename_i z
        cases hb
        refine ⟨D :: l, ι4, ρ1, m3b, .d z, _, env3.ext e4, s4, hy2, fun ι5 H5 v e5 s5 r5 => ?_⟩
        have e25 : DL.Ext ι2 ι5 H2 H5 := e24.trans e5
        have hD5 : H5 D = some (.lst acc) := e25.keep D _ nD hacc
        have nD5 : D ∉ ι5 := e25.out nD hacc
        have mvD : Mv (D :: l) ι5 H5 (D :: l) ι5 (upd H5 D (.lst (acc ++ [v]))) := ⟨fun a o ha h => ⟨by
          rw [upd_ne (fun z => ha (by rw [z]; exact List.mem_append_left _ List.mem_cons_self))]; exact h, ha⟩, fun n a h => h⟩
        refine ⟨acc, hD5, by rw [line]; omega, hi, ι5, _, acc ++ [v], ys ++ [z], rest', ?_, upd_same, nD5, ?_, same_of hg, ?_, by simp; omega, hrec, by rw [List.append_assoc]; exact ht2⟩
        · have exx := ex.trans e25
          refine ⟨fun a o ha h => ?_, fun a o h => ?_, exx.more⟩
          · rw [upd_ne (ne_of_none h hD)]; exact exx.keep a o ha h
          · obtain ⟨o', h'⟩ := exx.there a o h
            exact ⟨o', by rw [upd_ne (ne_of_none h hD)]; exact h'⟩
        · refine stm_mv s5 mvD (fun a ha => ?_) fun a o ha h => by rw [upd_ne (fun z => nD5 (by rw [← z]; exact ha))]; exact h
          by_cases e : a = D
          · rw [e]; exact ⟨_, upd_same⟩
          · obtain ⟨o, ho⟩ := s5.bn a ha
            exact ⟨o, by rw [upd_ne e]; exact ho⟩
        · exact (RepL.mv mvD _ _ (ra.ext e25)).append ⟨v, [], rfl, RepD.mv mvD _ _ r5, rfl⟩
      · cases hb
  · left
    have e0 : i = p.1.length := by omega
    rw [e0, List.drop_length] at hr
    simp only [lcL] at hr
    cases hr
    rw [List.append_nil] at ht2
    subst ht2
    refine ⟨w.stop _ _ _ _ mv s2 sm i (by omega), q ι2 H2 _ (e1.trans ex) ?_ ?_⟩
    · refine stm_mv s2 ⟨fun a o ha h => ⟨h, fun z => ha ?_⟩, fun n a h => h⟩ (fun a ha => s2.bn a (List.mem_cons_of_mem _ ha)) fun a o ha h => h
      rcases List.mem_append.mp z with z | z
      · exact List.mem_append_left _ (List.mem_cons_of_mem _ z)
      · exact List.mem_append_right _ z
    · refine ⟨D, acc, rfl, fun z => ?_, hacc, RepL.mv ⟨fun a o ha h => ⟨h, fun z => ha ?_⟩, fun n a h => h⟩ _ _ ra⟩
      · rcases List.mem_append.mp z with z | z
        · obtain ⟨o, ho⟩ := s1.bn D z
          rw [hD] at ho; cases ho
        · exact nD z
      · rcases List.mem_append.mp z with z | z
        · exact List.mem_append_left _ (List.mem_cons_of_mem _ z)
        · exact List.mem_append_right _ z
end
end DL
set_option linter.all false
set_option maxRecDepth 100000
set_option maxHeartbeats 4000000
namespace DL
open PySem PySem.Spec PyProof.Rows L2 LiI
set_option maxHeartbeats 1000000 in
theorem meets_enum1 {v : Value} {o : Obj} {G : Heap → Prop} (B : Begins v o G) :
    Meets (Builtin.«enumerate.__new__» ⟨[.type "enumerate", v], []⟩) (fun _ Z s => G s.heap ∧
      Z (.ok (.ret (.ref (s.heap.push o).objs.size))) { s with heap := (s.heap.push o).push { cls := .type "enumerate", data := .fields #[.none, .bool false, .ref s.heap.objs.size, rawInt 0, .none, .none] } }) :=
  .of_wp fun prog w A Z s h => by
    obtain ⟨hp, g, d, tk, os⟩ := s; obtain ⟨h1, h⟩ := h
    have hsub := sub_enumerate
    have q1 : ∀ {A' : Around} {E : Value → Shared → Prop} {Q : Value → Shared → Prop}, Q (.ref hp.objs.size) ⟨hp.push o, g, d, tk, os⟩ → wpAny (model prog w) A' (pyIter v) Q E ⟨hp, g, d, tk, os⟩ :=
      fun q => B.iter prog w _ _ ⟨hp, g, d, tk, os⟩ _ h1 q
    wp_walk using q1
    refine wpAny_stack_any fun st => wpAny_pure ?_
    split
    · rename_i c _ _ _ _ _
      cases (c == Value.type "enumerate")
      · wp_walk using q1
        exact ⟨_, rfl, h⟩
      · wp_walk using q1
        exact ⟨_, rfl, h⟩
    · wp_walk using q1
      exact ⟨_, rfl, h⟩
section
variable {prog : Program} {w : World} {A : Around} {E : Value → Shared → Prop} {s : Shared}
theorem enum_new {v : Value} {o : Obj} {G : Heap → Prop} {Q : Value → Shared → Prop} (B : Begins v o G) (h1 : G s.heap)
    (h : ∀ h', IsEnum h' (s.heap.objs.size + 1) s.heap.objs.size 0 .none → h'.get? s.heap.objs.size = some o → h'.objs.size = s.heap.objs.size + 2 → (∀ b o, s.heap.get? b = some o → h'.get? b = some o) → Q (.ref (s.heap.objs.size + 1)) { s with heap := h' }) :
    wpAny (model prog w) A (call (.type "enumerate") [v]) Q E s := by
  refine callType_new F.called_enumerate (by decide) (F.typeCall_enumerate_1 _) (F.newCall_enumerate_1 _) (fun obj => F.args_object_init_2 obj _) F.entry_enumerate_new (meets_enum1 B) ⟨h1, ?_⟩
  have hz : (s.heap.push o).objs.size = s.heap.objs.size + 1 := Heap.size_push ..
  show _ ∧ _
  rw [hz]
  have he := Heap.get?_push_size (s.heap.push o) (o := { cls := .type "enumerate", data := .fields #[.none, .bool false, .ref s.heap.objs.size, rawInt 0, .none, .none] }) rfl
  rw [hz] at he
  exact ⟨⟨_, he, rfl⟩, h _ he (Heap.get?_push_of_some _ (Heap.get?_push_size _ B.free)) (by rw [Heap.size_push, hz]) fun b o x => Heap.get?_push_of_some _ (Heap.get?_push_of_some _ x)⟩
end
/-- the tuple at a, each item in a new pair -/
def IteT (K : PySem.W.Frag) (a : Addr) : L2.It :=
  ⟨fun i H => ∃ (xs : List V) (x : V), SqT K H a xs ∧ xs[i]? = some x, fun i H v H' => ∃ p x, v = .ref p ∧ H p = none ∧ H' = upd H p (.tup [.int (i : Nat), x]) ∧ ∀ xs, SqT K H a xs → xs[i]? = some x, fun i H => ∃ xs : List V, SqT K H a xs ∧ xs.length ≤ i⟩
theorem turn_enumT {P : Program} {w : World} {K : PySem.W.Frag} {elts : List Expr} {kk : Nat} {tpos : Pos} (a e it : Addr) :
    Turn P w K (.Tuple elts kk tpos) (IteT K a) [e, it] e (fun i h => (∃ old, IsEnum h e it ((i : Nat) : Int) old) ∧ h.IsTupleIter it a i ∧ e ≠ it ∧ a ≠ e ∧ a ≠ it) where
  mem := by simp
  obj := fun i h st b hb => by
    obtain ⟨⟨old, he⟩, ⟨o, ho, hc, hd⟩, _⟩ := st
    rcases (show b = e ∨ b = it by simpa using hb) with rfl | rfl
    · exact ⟨_, he, fun v q => nomatch q⟩
    · exact ⟨o, ho, fun v q => by rw [hd] at q; cases q⟩
  keep := fun i h h' st k => ⟨let ⟨old, he⟩ := st.1; ⟨old, k e (by simp) _ he⟩, st.2.1.at fun o q => k it (by simp) o q, st.2.2⟩
  item := by
    intro X hP hw hK hc i pins s σ H E I hf st hg
    subst hP hw hK
    obtain ⟨⟨old, he⟩, hit, hne, nae, nai⟩ := st
    obtain ⟨xs, x, hq, hx⟩ := hg
    obtain ⟨its, rv, p, hz⟩ := I.tuple hq
    obtain ⟨u, hu, ru⟩ := rv.get hx
    have hh : X.A.in1.handled = none := I.ok.hd hc
    have hel : e < s.heap.objs.size := Heap.lt_size he
    have hil : it < s.heap.objs.size := by obtain ⟨_, q, _⟩ := hit; exact Heap.lt_size q
    have hi : i < its.toArray.size := by simpa using (List.getElem?_eq_some_iff.mp hu).1
    refine wpAny_pyNext_enum_itemD (Draws.tuple hh it a nai its.toArray) he ⟨hit, p⟩ hi hne (by simp [hne, Ne.symm nae]) fun v h' tk hv ho hst hT hsz hk => ?_
    have ev : v = u := by
      have : its[i]? = some v := by simpa using hv
      rw [hu] at this; exact (Option.some.inj this).symm
    subst ev
    refine ⟨_, rfl, wpAny_letOwnedTupleGo_enum (s := { s with heap := h', toks := tk + 1 }) ho fun h2 he2 sb => ?_⟩
    have hT2 : h2.get? s.heap.objs.size = some { cls := .type "tuple", data := .seq #[.int i tk, v] } := (sb.2 _ (Nat.ne_of_gt hel)).trans hT
    have new : ObjOk X.prog X.w (upd H s.heap.objs.size (.tup [.int (i : Nat), x])) h2 s.heap.objs.size (.tup [.int (i : Nat), x]) :=
      ⟨by show 2 ≤ sizeLine; decide, [.int i tk, v], .cons ⟨_, rfl⟩ (.cons ru .nil), ⟨_, hT2, rfl, _, rfl⟩⟩
    have I1 : Inv X pins σ (upd H s.heap.objs.size (.tup [.int (i : Nat), x])) { s with heap := h2, toks := tk + 1 } :=
      I.turnedNew (ch := [e, it]) (fun b ob hb q => (sb.2 b (fun z => hb (by simp [z]))).trans (hk b ob (fun z => hb (by simp [z])) (fun z => hb (by simp [z])) q)) hf (Nat.le_refl _) new
    refine ⟨.ref s.heap.objs.size, _, I1, rfl, ⟨_, x, rfl, I.hok.fresh (Nat.le_refl _), rfl, fun ys hy => by rw [I.tuple_inj hy hq]; exact hx⟩, ⟨⟨v, ?_⟩, hst.1.at fun o q => (sb.2 it (Ne.symm hne)).trans q, hne, nae, nai⟩, fun b hb => ?_⟩
    · rw [show ((i + 1 : Nat) : Int) = (i : Int) + 1 by omega]; exact he2
    · have hb' : b < s.heap.objs.size := by
        rcases (show b = e ∨ b = it by simpa using hb) with z | z
        · rw [z]; exact hel
        · rw [z]; exact hil
      rw [upd_ne (Nat.ne_of_lt hb')]
      exact (hf b hb).1
  done := by
    intro X hP hw hK hc i pins s σ H E I hf st hg
    subst hP hw hK
    obtain ⟨⟨old, he⟩, hit, hne, nae, nai⟩ := st
    obtain ⟨xs, hq, hx⟩ := hg
    obtain ⟨its, rv, p, hz⟩ := I.tuple hq
    have hh : X.A.in1.handled = none := I.ok.hd hc
    obtain ⟨f0, f1, f2, f3, f4, f5⟩ := hf it (by simp)
    have hl := rv.length
    refine wpAny_pyNext_enum_endD (n := 0) (P := fun _ _ => True) (St := fun _ h => h.IsTupleIter it a i ∧ h.IsTuple a its.toArray) (fp := [it, a]) ⟨fun _ _ st => let ⟨o, ho, _⟩ := st.1; ⟨o, ho⟩, fun j h h' st hk => ⟨st.1.at fun o e => hk it (by simp) o e, st.2.at fun o e => hk a (by simp) o e⟩, fun j s' Q E' hj _ _ => absurd hj (Nat.not_lt_zero _), fun s' Q E' st' hE => ?_⟩ he ⟨hit, p⟩ fun h' eb => ⟨rfl, I.turned (t' := s.toks) (fun b o hb q => eb b o hb q) f0 f1 f3 f4 f5⟩
    exact wpAny_nextOf_tuple_end hh st'.1 st'.2 (by simp; omega) hE
  self := fun A i s Q E st h => let ⟨⟨_, he⟩, _⟩ := st; wpAny_pyIter_enum he h
def iEnumT (K : PySem.W.Frag) (ta : TA) : TI := fun σ H R => ta σ H fun vs H1 => ∃ a xs, vs = [.ref a] ∧ SqT K H1 a xs ∧ R (IteT K a) H1
theorem pi_enumT {X : Cx} {e : Expr} {ta : TA} {p pos tpos : Pos} {elts : List Expr} {kk : Nat} (hg : Gl X "enumerate") (hm : X.mg "enumerate" = none) (ha : PA X [e] ta) (hs : starEach [e] X.env = [(false, eval e X.env)]) :
    PI X (.Tuple elts kk tpos) (.Call (.Name "enumerate" p) [e] [] pos) (iEnumT X.K ta) := by
  refine ⟨fun pins s σ H R I h => Call_ (ld_blt I hg hm boot_enumerate (PyProof.Rows.callWith_type1 (thn (ha.run pos pins s σ H _ I h) fun us s1 ⟨vs, H1, I1, r1, q1⟩ => ?_) hs rfl))⟩
  obtain ⟨a, xs, ex, hq, q⟩ := q1
  subst ex
  obtain rfl := Vals.ref1 r1
  obtain ⟨its, rv, p', hz⟩ := I1.tuple hq
  have hal : a < s1.heap.objs.size := by obtain ⟨o, ho, _⟩ := id p'; exact Heap.lt_size ho
  refine enum_new (begins_tuple a its.toArray) p' fun h' he hit hsz hk => wpAny_pyIter_enum he ?_
  have I2 : Inv X pins σ H1 { s1 with heap := h' } := I1.kept (t' := s1.toks) hk
  refine ⟨s1.heap.objs.size + 1, [s1.heap.objs.size + 1, s1.heap.objs.size], _, _, H1, rfl, I2, turn_enumT a (s1.heap.objs.size + 1) s1.heap.objs.size, ⟨⟨.none, he⟩, ⟨_, hit, rfl, rfl⟩, Nat.succ_ne_self _, Nat.ne_of_lt (Nat.lt_succ_of_lt hal), Nat.ne_of_lt hal⟩, fun b hb => ?_, q⟩
  have hle : s1.heap.objs.size ≤ b := by
    rcases (show b = s1.heap.objs.size + 1 ∨ b = s1.heap.objs.size by simpa using hb) with z | z
    · rw [z]; exact Nat.le_succ _
    · rw [z]; exact Nat.le_refl _
  exact I1.fpOk hle (I1.hok.fresh hle)
section
variable {C0 : Cls'} {F : Fn} {X : Cx} {x : Expr} {e : E} {l ι1 : List Addr} {H1 : Hp} {m1 : Mem}
theorem walk_enumT {K : PySem.W.Frag} {u : U} {a : Addr} {xs : List D} {ws0 : List V} (h1 : H1 a = some (.tup ws0)) (h : ∀ l' ι2 H2 m2, Mv l ι1 H1 l' ι2 H2 → StM (C0.b l') ι2 H2 m2 → Same (cellG u) m1 m2 → ∃ ws, ((H1 a = some (.lst ws0) ∧ H2 a = some (.lst ws)) ∨ (H1 a = some (.tup ws0) ∧ H2 a = some (.tup ws))) ∧ RepL (C0.b l') ι2 H2 xs ws) :
    Walk C0 l ι1 H1 m1 (IteT K a) (numbered xs) (cellG u) where
  go := fun l' ι2 H2 m2 mv s2 g i hi => by
    rw [numbered_len] at hi
    obtain ⟨ws, hw, rv⟩ := h l' ι2 H2 m2 mv s2 g
    have h2 : H2 a = some (.tup ws) := hw.elim (fun z => by rw [h1] at z; cases z.1) (·.2)
    obtain ⟨v, h3, h4⟩ := rv.get (List.getElem?_eq_getElem hi)
    refine ⟨⟨ws, v, SqT.of h2, h3⟩, fun x H' ⟨p, y, e, hT, e2, hy⟩ => ?_⟩
    subst e; subst e2
    have := hy ws (SqT.of h2)
    rw [h3] at this; cases this
    exact ⟨Ext.alloc hT, s2.alloc hT, _, numbered_get (List.getElem?_eq_getElem hi), rep_tup s2 hT ⟨_, _, rfl, rfl, _, [], rfl, h4, rfl⟩⟩
  stop := fun l' ι2 H2 m2 mv s2 g i hi => by
    rw [numbered_len] at hi
    obtain ⟨ws, hw, rv⟩ := h l' ι2 H2 m2 mv s2 g
    have h2 : H2 a = some (.tup ws) := hw.elim (fun z => by rw [h1] at z; cases z.1) (·.2)
    exact ⟨ws, SqT.of h2, by rw [← rv.length]; exact hi⟩
theorem pi_enumD {elts : List Expr} {kk : Nat} {tpos p pos : Pos} (hg : Gl X "enumerate") (hm : X.mg "enumerate" = none) (hs : noStar x = true) (he : PE X x (tE C0 F e)) : PI X (.Tuple elts kk tpos) (.Call (.Name "enumerate" p) [x] [] pos) (tI C0 F (.enum e)) := by
  refine pi_imp (pi_or' (pi_enum hg hm (pa_sz he hs) (star1 hs _ _)) (pi_enumT hg hm (pa_sz he hs) (star1 hs _ _))) ?_
  rintro σ H RR ⟨l, ι, ρ, m, p, m', hn, hS, hev, q⟩
  simp only [evIt] at hev
  obtain ⟨u, m1, h1, hev⟩ := R.bind_inv hev
  obtain ⟨e3, rfl⟩ := ofO_inv hev
  obtain ⟨xs, h2, rfl⟩ := Option.map_eq_some_iff.mp e3
  by_cases hk : ∃ ys, u = .d (.tup ys)
  · obtain ⟨ys, rfl⟩ := hk
    refine .inr ⟨l, ι, ρ, m, _, _, hn, hS, h1, fun ι1 H1 v e1 s1 r1 sz => ?_⟩
    obtain ⟨a, rfl, ws0, hw, hl, hh⟩ := seat (K := X.K) s1 r1 h2
    obtain ⟨a', ws, e4, nn, ha, rr⟩ := id r1
    cases e4
    have e5 : ws0 = ws := by rcases hw with hw | hw <;> rw [ha] at hw <;> cases hw; rfl
    subst e5
    refine ⟨a, ws0, rfl, SqT.of ha, q ι1 H1 _ e1 s1 ?_ (walk_enumT (u := .d (.tup ys)) (ws0 := ws0) ha hh)⟩
    show (numbered xs).length ≤ _; rw [numbered_len, hl]; exact sz a ws0 rfl (.inr (SqT.of ha))
  · refine .inl ⟨l, ι, ρ, m, _, _, hn, hS, h1, fun ι1 H1 v e1 s1 r1 sz => ?_⟩
    obtain ⟨a, rfl, ws0, hw, hl, hh⟩ := seat (K := X.K) s1 r1 h2
    have hw' : H1 a = some (.lst ws0) := by
      rcases hw with hw | hw
      · exact hw
      · exfalso
        cases u with
        | d y =>
          cases y <;> simp only [seqO] at h2 <;> first | (cases h2; done) | skip
          · exact hk ⟨_, rfl⟩
          · obtain ⟨a', ws, e4, nn, ha, rr⟩ := r1
            cases e4
            rw [ha] at hw; cases hw
        | cell n =>
          simp only [seqO] at h2
          split at h2
          · rename_i ys hm
            obtain ⟨a', hp, e4⟩ := r1
            cases e4
            obtain ⟨p', ho, h4, h5, ws, rfl, rv⟩ := s1.at_ n _ hm
            rw [hp] at h4; cases h4
            rw [h5] at hw; cases hw
          · cases h2
    refine ⟨a, ws0, rfl, SqL.of hw', q ι1 H1 _ e1 s1 ?_ (walk_enum (u := u) hw' hh)⟩
    show (numbered xs).length ≤ _; rw [numbered_len, hl]; exact sz a ws0 rfl (.inl (SqL.of hw'))
end
end DL
set_option linter.all false
set_option maxRecDepth 100000
set_option maxHeartbeats 4000000
namespace DL
open PySem PySem.Spec PyProof.Rows L2 LiI SrtO
/-- what a pair at an address shows, by the list of the addresses -/
def kAt (l : List (Addr × (Int × Int))) : Value → Int × Int
  | .ref a => (l.lookup a).getD (0, 0)
  | _ => (0, 0)
theorem look_zip {ps : List (Int × Int)} : ∀ {as : List Addr} {j : Nat} {a : Addr} {p : Int × Int} {ps : List (Int × Int)}, as.Nodup → as[j]? = some a → ps[j]? = some p → (as.zip ps).lookup a = some p
  | [], j, a, p, ps, hn, h, g => by cases h
  | b :: as, j, a, p, [], hn, h, g => by cases g
  | b :: as, 0, a, p, q :: ps, hn, h, g => by
    cases h; cases g
    rw [List.zip_cons_cons, List.lookup_cons, beq_self_eq_true]
  | b :: as, j + 1, a, p, q :: ps, hn, h, g => by
    have hn' := List.nodup_cons.mp hn
    have hne : (a == b) = false := by
      have : a ∈ as := List.mem_of_getElem? (i := j) (by simpa using h)
      rw [beq_eq_false_iff_ne]
      rintro rfl
      exact hn'.1 this
    rw [List.zip_cons_cons, List.lookup_cons, hne]
    exact look_zip (j := j) (ps := ps) hn'.2 (by simpa using h) (by simpa using g)
theorem map_kAt {as : List Addr} {ps : List (Int × Int)} (hn : as.Nodup) (hl : as.length = ps.length) : (as.map Value.ref).map (kAt (as.zip ps)) = ps := by
  apply List.ext_getElem?
  intro j
  rw [List.getElem?_map, List.getElem?_map]
  cases h : as[j]? with
  | none =>
    rw [List.getElem?_eq_none_iff] at h
    rw [List.getElem?_eq_none (by omega)]; rfl
  | some a =>
    have hj := (List.getElem?_eq_some_iff.mp h).1
    have hp : ps[j]? = some (ps[j]'(by omega)) := List.getElem?_eq_getElem (by omega)
    show some (kAt (as.zip ps) (.ref a)) = _
    rw [hp]
    show some (((as.zip ps).lookup a).getD (0, 0)) = _
    rw [look_zip (ps := ps) hn h hp]; rfl
def rItemsS : V → Hp → VK → Prop := fun x H Q => ∃ (d : Addr) (ps : List (Int × Int)), x = .ref d ∧ H d = some (.dK (ps.map fun p => (.inl p.1, .int p.2))) ∧
  ∀ (H' : Hp) (p : Addr) (ts : List Addr), (∀ b o, H b = some o → H' b = some o) → H p = none → (∀ t ∈ ts, H t = none) → H' p = some (.lst (ts.map V.ref)) → Paired (fun (t : Addr) (q : Int × Int) => H' t = some (.tup [.int q.1, .int q.2])) ts (sortP ps) → Q (.ref p) H'
def tSItems (te : TE) : TE := fun σ H Q => te σ H fun x H1 => rItemsS x H1 Q
section
variable {X : Cx} {e : Expr} {te : TE} {p apos cpos pos : Pos}
theorem sort_pairs {pins : List (Addr × Obj)} {σ : L2.St} {H : Hp} {s : Shared} {h' : Heap} {tk : Nat} {ps : List (Int × Int)} {as : List Addr} {Q : Value → Shared → Prop} {A : Around} {E : Value → Shared → Prop} {prog : Program} {w : World} (eP : X.prog = prog) (eW : X.w = w) (I : Inv X pins σ H s) (hz : ps.length ≤ 16777216)
    (hk : ∀ b o, s.heap.get? b = some o → h'.get? b = some o) (hl : as.length = ps.length) (nd : as.Nodup) (ab : ∀ a ∈ as, s.heap.objs.size ≤ a)
    (pr : ∀ (j : Nat) (a : Addr), as[j]? = some a → ∃ i v t u, ps[j]? = some (i, v) ∧ h'.get? a = some { cls := .type "tuple", data := .seq #[.int i t, .int v u] }) (hsz : s.heap.objs.size ≤ h'.objs.size)
    (q : ∀ (H' : Hp) (ts : List Addr) (hh : Heap), Inv X pins σ H' { s with heap := hh, toks := tk } → (∀ b o, H b = some o → H' b = some o) → H h'.objs.size = none → (∀ t ∈ ts, H t = none) → H' h'.objs.size = some (.lst (ts.map V.ref)) → Paired (fun (t : Addr) (q : Int × Int) => H' t = some (.tup [.int q.1, .int q.2])) ts (sortP ps) → Q .none { s with heap := hh, toks := tk }) :
    wpAny (model prog w) A (call (.builtin "list.sort") [.ref h'.objs.size]) Q E { s with heap := h'.push { cls := .type "list", data := .seq (as.map Value.ref).toArray }, toks := tk } := by
  subst eP eW
  generalize hks : kAt (as.zip ps) = k
  have hob : (h'.push { cls := .type "list", data := .seq (as.map Value.ref).toArray }).get? h'.objs.size = some (seqObj "list" (as.map Value.ref).toArray 0) := Heap.get?_push_size _ rfl
  have ne0 : ∀ b o, h'.get? b = some o → b ≠ h'.objs.size := fun b o e => Nat.ne_of_lt (Heap.lt_size e)
  generalize hh2 : h'.push { cls := .type "list", data := .seq (as.map Value.ref).toArray } = h2 at hob ⊢
  have ka : ∀ b o, h'.get? b = some o → h2.get? b = some o := fun b o e => by rw [← hh2]; exact Heap.get?_push_of_some _ e
  have kk : ∀ (j : Nat) (a : Addr), as[j]? = some a → ∀ pp, ps[j]? = some pp → k (.ref a) = pp := fun j a h pp hp => by
    rw [← hks]
    show ((as.zip ps).lookup a).getD (0, 0) = _
    rw [look_zip (ps := ps) nd h hp]; rfl
  have isP : ∀ v ∈ as.map Value.ref, Srt.IsPair h2 v (k v).1 (k v).2 := by
    intro v hv
    obtain ⟨a, ha, rfl⟩ := List.mem_map.mp hv
    obtain ⟨j, hj⟩ := List.mem_iff_getElem?.mp ha
    obtain ⟨i, x, t, u, hp, hg⟩ := pr j a hj
    rw [kk j a hj _ hp]
    exact ⟨a, _, t, u, 0, rfl, ka _ _ hg, rfl, rfl⟩
  refine wpAny_call_entry slot_list_sort ⟨_, hob, rfl⟩ entry_list_sort
    (list_sort_ord (s := { s with heap := h2, toks := tk }) (swo_lex k) hob (by rw [List.length_map, hl, sizeLine_eq]; exact hz) (fun h2l => pairs_sortableO (s := { s with heap := h2, toks := tk }) (by omega) isP fun o e => ?_) fun out hs hb => ⟨.none, rfl, ?_⟩) (args_list_sort _)
  · have e' : some o = some (seqObj "list" (as.map Value.ref).toArray 0) := e.symm.trans hob
    cases e'
    intro c
    exact absurd (Value.type.inj c) (by decide)
  have pm := hb.perm
  -- the addresses in their order
  obtain ⟨ts, ets⟩ : ∃ ts : List Addr, out = ts.map Value.ref := by
    refine ⟨out.map fun v => match v with | .ref a => a | _ => 0, ?_⟩
    rw [List.map_map]
    have : ∀ v ∈ out, (Value.ref ∘ fun v => match v with | .ref a => a | _ => 0) v = v := fun v hv => by
      obtain ⟨a, ha, rfl⟩ := List.mem_map.mp (pm.mem_iff.mp hv)
      rfl
    exact ((List.map_congr_left this).trans (List.map_id _)).symm
  subst ets
  have mem : ∀ t ∈ ts, t ∈ as := fun t ht => by
    obtain ⟨a, ha, e⟩ := List.mem_map.mp (pm.mem_iff.mp (List.mem_map.mpr ⟨t, ht, rfl⟩))
    cases e
    exact ha
  have tsn : ts.Nodup := by
    have := (pm.nodup_iff).mpr (show (as.map Value.ref).Nodup from List.Pairwise.map _ (fun a b h e => h (Value.ref.inj e)) nd)
    exact (List.Pairwise.of_map Value.ref (fun a b h e => h (by rw [e])) this)
  have esort : (ts.map Value.ref).map k = sortP ps := by
    refine sortP_uniq ?_ ?_
    · have := pm.map k
      rw [← hks, map_kAt nd hl] at this
      rw [← hks]; exact this
    · refine List.pairwise_map.mpr (hs.imp fun {x y} h => ?_)
      have h' := SrtO.lexB_no.mp h
      unfold LeP
      omega
  have hn0 : H h'.objs.size = none := I.hok.fresh hsz
  have kF : ∀ b o, b ≠ h'.objs.size → h2.get? b = some o → (sortedHeap h2 h'.objs.size (as.map Value.ref) (ts.map Value.ref).toArray).get? b = some o := fun b o hb e => (PyProof.Rows.sortedHeap_old hb (Heap.lt_size e)).trans e
  have kS : ∀ b o, s.heap.get? b = some o → (sortedHeap h2 h'.objs.size (as.map Value.ref) (ts.map Value.ref).toArray).get? b = some o := fun b o e => kF b o (ne0 _ _ (hk b o e)) (ka b o (hk b o e))
  obtain ⟨eF, heF⟩ := PyProof.Rows.sortedHeap_at (vs := as.map Value.ref) (out := (ts.map Value.ref).toArray) hob
  have I1 : Inv X pins σ H { s with heap := sortedHeap h2 h'.objs.size (as.map Value.ref) (ts.map Value.ref).toArray, toks := tk } := I.kept (t' := tk) kS
  have hlen : (ts.map V.ref).length ≤ sizeLine := by
    have e := pm.length_eq
    rw [List.length_map, List.length_map] at e
    rw [List.length_map, sizeLine_eq]; omega
  have I2 : Inv X pins σ (upd H h'.objs.size (.lst (ts.map V.ref))) { s with heap := sortedHeap h2 h'.objs.size (as.map Value.ref) (ts.map Value.ref).toArray, toks := tk } :=
    I1.take (h' := sortedHeap h2 h'.objs.size (as.map Value.ref) (ts.map Value.ref).toArray) (t' := tk) (fun b ob _ e => e) (I.fpOk hsz hn0) ⟨hlen, ts.map Value.ref, eF, vals_refs ts, heF⟩
  obtain ⟨H2, I3, g, qt⟩ := L2.DX.takeT (P := fun b vs => vs = [.int (k (.ref b)).1, .int (k (.ref b)).2]) I ts _ I2 tsn fun b hb => by
    obtain ⟨j, hj⟩ := List.mem_iff_getElem?.mp (mem b hb)
    obtain ⟨i, x, t, u, hp, hg⟩ := pr j b hj
    have hbl := ab b (mem b hb)
    refine ⟨hbl, ?_, _, rfl, fun H3 => ⟨(by rw [sizeLine_eq]; show 2 ≤ 16777216; omega), [.int i t, .int x u], ?_, ⟨_, kF _ _ (ne0 _ _ hg) (ka _ _ hg), rfl, 0, rfl⟩⟩⟩
    · rw [upd_ne (ne0 _ _ hg)]
      exact I.hok.fresh hbl
    · rw [kk j b hj _ hp]
      exact .cons ⟨_, rfl⟩ (.cons ⟨_, rfl⟩ .nil)
  have gr : ∀ b o, H b = some o → H2 b = some o := fun b o e => g b o (by rw [upd_ne (ne_of_none e hn0)]; exact e)
  refine q H2 ts _ I3 gr hn0 (fun t ht => I.hok.fresh (ab t (mem t ht))) (g _ _ upd_same) ?_
  rw [← esort]
  have : ∀ us : List Addr, (∀ t ∈ us, t ∈ ts) → Paired (fun (t : Addr) (q : Int × Int) => H2 t = some (.tup [.int q.1, .int q.2])) us ((us.map Value.ref).map k) := by
    intro us
    induction us with
    | nil => intro _; exact .nil
    | cons u us ih =>
      intro h
      refine .cons ?_ (ih fun t ht => h t (List.mem_cons_of_mem _ ht))
      obtain ⟨vs, ev, hH⟩ := qt u (h u List.mem_cons_self)
      rw [ev] at hH
      exact hH
  exact this ts fun _ h => h
theorem pe_sortedItems (hc : X.calm = true) (he : PE X e te) (hg : Gl X "sorted") (hm : X.mg "sorted" = none) (hbase : attributeBase e "items" X.env (eval e X.env) = eval e X.env) (hline : (apos.endLine == cpos.line) = true) :
    PE X (.Call (.Name "sorted" p) [.Call (.Attribute e "items" apos) [] [] cpos] [] pos) (tSItems te) := by
  have hs : starEach [.Call (.Attribute e "items" apos) [] [] cpos] X.env = (false, eval (.Call (.Attribute e "items" apos) [] [] cpos) X.env) :: starEach [] X.env := rfl
  refine ⟨fun pins s σ H Q I hq => wpAny_Call_Name_kw (ld_blt I hg hm boot_sorted ?_)⟩
  refine PyProof.Rows.callWith_builtin1 ?_ hs rfl
  rw [hs]
  refine Calls.spliced_cons ?_
  refine wpAny_Call_method (T := "dict") (id := "dict.items") hbase rfl hline F.plainAttrs_dict F.slot_dict_items F.type_dict_items (thn (he.run pins s σ H _ I hq) fun u s1 ⟨x, H1, I1, rx, d, ps, ex, hd, q⟩ => ?_)
  subst ex
  obtain rfl : u = Value.ref d := rx
  obtain ⟨hz, hs0, vs, kv, hdo⟩ := I1.hok d _ hd
  obtain ⟨ep, hat⟩ := hdo.dictAt
  have lk := Paired.length kv
  rw [List.length_map] at lk hz
  have I2 : Inv X pins σ H1 { s1 with heap := s1.heap.push { cls := .type "dict_items", data := .fields #[.ref d] } } := I1.kept (t' := s1.toks) fun b ob q => Heap.get?_push_of_some _ q
  refine ⟨hdo.typeIs, hdo.mapOf.noDict, ?_⟩
  show wpAny _ _ (callWith cpos (.builtin "dict.items") [.ref d] [] []) _ X.xe s1
  refine method_meetsIn F.slot_dict_items F.entry_dict_items rfl (PySem.evalArgs_none ⟨rfl, hdo.typeIs, F.args_dict_items_1 _, _, meets_dict_items (mixKind X.prog X.w) d hs0, ⟨vs, hdo⟩, ?_⟩)
  refine Calls.spliced_nil ?_
  refine Calls.call_function_entry kind_sorted plain_sorted entry_sorted (args_sorted1 _) ?_
  unfold Builtin.«sorted»
  refine wpAny_bind (m := checkCount "sorted" 1 1 _) (wpAny_pure ?_)
  refine wpAny_bind (PySem.W.kdx_collect (A := X.A.in1) (knd := mixKind X.prog X.w) (kvs := vs) (ep := ep) (I1.ok.hd hc) ⟨_, Heap.get?_push_size _ rfl, rfl, rfl⟩ (hat.push _) (by omega) fun h' tk as hk hl hG => ?_)
  have hl2 : as.length = ps.length := by rw [hl, ← lk]
  have hlt : (s1.heap.push { cls := .type "dict_items", data := .fields #[.ref d] }).objs.size ≤ h'.objs.size := by
    rw [Heap.size_push]
    exact Heap.lt_size (hk _ _ (Heap.get?_push_size s1.heap rfl))
  refine wpAny_bind (wpAny_newList ?_ (by rw [List.length_map, hl2]; exact hz))
  refine wpAny_bind (wpAny_holding (wpAny_mono (sort_pairs (s := { s1 with heap := s1.heap.push { cls := .type "dict_items", data := .fields #[.ref d] } }) (tk := tk) (Q := fun _ s' => EP X pins σ Q (.ref h'.objs.size) s') rfl rfl I2 (by rw [sizeLine_eq] at hz; exact hz) hk hl2 (List.Pairwise.imp (fun {a b} (h : a < b) => Nat.ne_of_lt h) hG.rise) (fun a ha => Nat.le_of_lt (hG.above a ha)) (fun j a hj => ?_) hlt fun H' ts hh I3 k1 k2 k3 k4 k5 => ?_) (fun _ s' x => wpAny_pure ⟨_, rfl, x⟩) fun _ _ e => e))
  · obtain ⟨key, k, x, f1, f2, f3⟩ := hG.pairs j a hj
    have hjl : j < ps.length := by
      have := (List.getElem?_eq_some_iff.mp hj).1; omega
    have hp : (ps.map fun p => ((.inl p.1, .int p.2) : L2.Key × V))[j]? = some (.inl ps[j].1, .int ps[j].2) := by
      rw [List.getElem?_map, List.getElem?_eq_getElem hjl]; rfl
    obtain ⟨qv, g1, g2, g3⟩ := LiI.paired_get kv hp
    rw [f1] at g1
    cases g1
    have rk : RelV (V.int ps[j].1) key := by
      have : keyIs k key = true := f2
      rw [show k = Sum.inl ps[j].1 from g2.symm] at this
      exact relV_key this
    obtain ⟨t, rfl⟩ := rk
    obtain ⟨u, hu⟩ := g3
    exact ⟨ps[j].1, ps[j].2, t, u, List.getElem?_eq_getElem hjl, by rw [f3]; rw [show x = Value.int ps[j].2 u from hu]⟩
  · exact ⟨.ref _, H', I3, rfl, q H' _ ts k1 k2 k3 k4 k5⟩
end
/-- in the evaluator's terms -/
theorem kvs_prs {C : Cls'} {ι : List Addr} {H : Hp} : ∀ {ks : List (Int × D)} {kvs : List (L2.Key × V)} {ps : List (Int × Int)}, RepK C ι H ks kvs → prsD (ks.map pairI) = some ps → kvs = ps.map fun p => (.inl p.1, .int p.2)
  | [], kvs, ps, h, e => by
    rw [show kvs = [] from h]
    cases e
    rfl
  | (i, x) :: ks, kvs, ps, h, e => by
    obtain ⟨v, ws, rfl, r, rs⟩ := h
    cases x <;> simp only [List.map_cons, pairI, prsD] at e <;> first | (cases e; done) | skip
    obtain ⟨qs, h2, rfl⟩ := Option.map_eq_some_iff.mp e
    rw [show v = _ from r, kvs_prs rs h2]
    rfl
theorem pairs_reps {C : Cls'} {ι : List Addr} {H : Hp} : ∀ {ts : List Addr} {ps : List (Int × Int)}, (∀ t ∈ ts, t ∉ C.ban ++ ι) → Paired (fun (t : Addr) (q : Int × Int) => H t = some (.tup [.int q.1, .int q.2])) ts ps → RepL C ι H (ps.map prD) (ts.map V.ref)
  | [], _, _, .nil => rfl
  | t :: ts, p :: ps, n, .cons e p' => ⟨.ref t, _, rfl, ⟨t, _, rfl, n t List.mem_cons_self, e, _, _, rfl, rfl, _, [], rfl, rfl, rfl⟩, pairs_reps (fun t' ht' => n t' (List.mem_cons_of_mem _ ht')) p'⟩
theorem im_sitems {C0 : Cls'} {F : Fn} {o : E} {σ : L2.St} {H : Hp} {Q : VK} (h : tE C0 F (.sitems o) σ H Q) : tSItems (tE C0 F o) σ H Q := by
  obtain ⟨l, ι, ρ, m, u, m', he, hs, hev, q⟩ := h
  simp only [evE] at hev
  obtain ⟨x, m1, h1, hev⟩ := R.bind_inv hev
  obtain ⟨e3, rfl⟩ := ofO_inv hev
  obtain ⟨xs, h3, h4⟩ := Option.bind_eq_some_iff.mp e3
  obtain ⟨r, h5, rfl⟩ := Option.map_eq_some_iff.mp h4
  obtain ⟨ks, h6, rfl⟩ := Option.map_eq_some_iff.mp h3
  have hp : ∃ ps, prsD (ks.map pairI) = some ps ∧ r = .lst ((sortP ps).map prD) := by
    unfold sortD at h5
    split at h5
    · rename_i ns e1
      cases ks with
      | nil => cases e1; cases h5; exact ⟨[], rfl, rfl⟩
      | cons k ks => simp only [List.map_cons, pairI, intsD] at e1; cases e1
    · split at h5
      · rename_i ps e1
        cases h5
        exact ⟨ps, e1, rfl⟩
      · cases h5
  obtain ⟨ps, h7, rfl⟩ := hp
  refine ⟨l, ι, ρ, m, x, _, he, hs, h1, fun ι1 H1 v1 e1 s1 r1 => ?_⟩
  obtain ⟨d, kvs, rfl, hd, rv⟩ := dic_rep s1 r1 h6
  refine ⟨d, ps, rfl, by rw [hd, kvs_prs rv h7], fun H' p ts kp hp ht hpt pr => ?_⟩
  have ex : DL.Ext ι1 ι1 H1 H' := ⟨fun a o _ ha => kp a o ha, fun a o ha => ⟨o, kp a o ha⟩, [], by simp, fun _ z => by cases z⟩
  have sx : StM (C0.b l) ι1 H' _ := ⟨s1.len, s1.nd, fun a ha => let ⟨o, ho⟩ := s1.bn a ha; ⟨o, kp a o ho⟩, fun k o hk => by
    obtain ⟨a, ho, h2, h3, h4⟩ := s1.at_ k o hk
    exact ⟨a, ho, h2, kp _ _ h3, RepO.mono (ex.k (C0.b l)) h4⟩⟩
  exact q ι1 H' _ (e1.trans ex) sx ⟨p, _, rfl, s1.notin hp, hpt, pairs_reps (fun t z => s1.notin (ht t z)) pr⟩
end DL
set_option linter.all false
set_option maxRecDepth 100000
set_option maxHeartbeats 4000000
namespace DL
open PySem PySem.Spec PyProof.Rows L2 LiI
section
variable {Γ : Stat} {C0 : Cls'} {F : Fn} {k : Nat} {sc : Scope} {X : Cx}
theorem star2 {y z : Expr} (h1 : noStar y = true) (h2 : noStar z = true) (env : PySem.Env) : starEach [y, z] env = [(false, eval y env), (false, eval z env)] := by
  rw [star1 h1, star1 h2]; rfl
theorem m2_of {o y z : Expr} {m : Str} {ap p : Pos} (h1 : noStar y = true) (h2 : noStar z = true) (hb : noSuper o = true) (hl : ap.endLine = p.line) : M2 X o m ap y z p where
  base := base_of hb _ _ _
  few := by rw [star2 h1 h2]; rfl
  line := by rw [hl]; exact beq_self_eq_true _
  trees := by rw [star2 h1 h2]; rfl
theorem ownB_map (N : List Str) : ∀ own : List Nat, (ownB N own).map (·.2) = own
  | [] => rfl
  | i :: own => by show i :: (ownB N own).map (·.2) = _; rw [ownB_map N own]
theorem pe_bltD {b : Blt} {y : Expr} {ys : List Expr} {t : TA} {p pos : Pos} (ok : CxOk Γ C0 F k sc X) (hg : glbB sc (bltN b) = true) (hs : (y :: ys).all noStar = true) (ha : PA X (y :: ys) t) :
    PE X (.Call (.Name (bltN b) p) (y :: ys) [] pos) (tCB (fun xs H Q => ∃ l, rBlt (C0.b l) b xs H Q) t) := by
  have g := ok.glb _ hg
  have hm := ok.g.blt b
  rw [List.all_cons, Bool.and_eq_true] at hs
  have e1 := star1 hs.1 ys X.env
  have e2 := star_any hs.2 pos X.env
  have bu : ∀ {id : String}, bltT b = false → (∀ C, CallR X (.builtin id) (rBlt C b)) → bootBuiltins (bltN b) = some (.builtin id) → bltN b ≠ "__name__" → (bltN b == ("__debug__" : Str)) = false → PE X (.Call (.Name (bltN b) p) (y :: ys) [] pos) (tCB (fun xs H Q => ∃ l, rBlt (C0.b l) b xs H Q) t) := fun _ hc hv hn hd =>
    pe_callB (callR_ex hc) g hm hv ha hn hd e1 e2
  have ty : ∀ {id : String}, bltT b = true → (∀ C, CallR X (.type id) (rBlt C b)) → bootBuiltins (bltN b) = some (.type id) → bltN b ≠ "__name__" → (bltN b == ("__debug__" : Str)) = false → PE X (.Call (.Name (bltN b) p) (y :: ys) [] pos) (tCB (fun xs H Q => ∃ l, rBlt (C0.b l) b xs H Q) t) := fun _ hc hv hn hd =>
    pe_callTy (callR_ex hc) g hm hv ha hn hd e1 e2
  cases b
  · exact bu (id := "len") rfl (fun C => cr_len C) (by decide +kernel) (by decide) (by decide)
  · exact bu (id := "abs") rfl (fun C => cr_abs C) (by decide +kernel) (by decide) (by decide)
  · exact bu (id := "min") rfl (fun C => cr_min2 C ok.calm) (by decide +kernel) (by decide) (by decide)
  · exact bu (id := "max") rfl (fun C => cr_max2 C ok.calm) (by decide +kernel) (by decide) (by decide)
  · exact ty (id := "int") rfl (fun C => cr_int C) (by decide +kernel) (by decide) (by decide)
  · exact ty (id := "str") rfl (fun C => cr_str C) (by decide +kernel) (by decide) (by decide)
  · exact bu (id := "sum") rfl (fun C => cr_sumD C ok.calm) (by decide +kernel) (by decide) (by decide)
  · exact bu (id := "all") rfl (fun C => cr_allD C ok.calm) (by decide +kernel) (by decide) (by decide)
  · exact ty (id := "tuple") rfl (fun C => cr_tuple C) (by decide +kernel) (by decide) (by decide)
  · exact ty (id := "list") rfl (fun C => cr_list C) (by decide +kernel) (by decide) (by decide)
  · exact bu (id := "sorted") rfl (fun C => cr_sortedD C) (by decide +kernel) (by decide) (by decide)
  · exact bu (id := "repr") rfl (fun C => cr_repr C ok.grd ok.u65) (by decide +kernel) (by decide) (by decide)
  · exact bu (id := "divmod") rfl (fun C => cr_divmod C) (by decide +kernel) (by decide) (by decide)
theorem pe_tyD {t : Ty} {p : Pos} (ok : CxOk Γ C0 F k sc X) (hg : glbB sc (Str.ofString (tyT t)) = true) (hc : ∀ c, t ≠ .cls c) : PE X (.Name (Str.ofString (tyT t)) p) (tC (.ty (tyT t))) := by
  have g := ok.glb _ hg
  have hm := ok.g.bty t hc
  cases t with
  | int => exact pe_bltn g hm (u := .type "int") (by decide +kernel) rfl (by decide) (by decide)
  | bool => exact pe_bltn g hm (u := .type "bool") (by decide +kernel) rfl (by decide) (by decide)
  | tuple => exact pe_bltn g hm (u := .type "tuple") (by decide +kernel) rfl (by decide) (by decide)
  | str => exact pe_bltn g hm (u := .type "str") (by decide +kernel) rfl (by decide) (by decide)
  | cls c => exact absurd rfl (hc c)
theorem pe_mthD {f : Mth} {v y : Expr} {ap p : Pos} {to te : TE} (ok : CxOk Γ C0 F k sc X) (hb : noSuper v = true) (hl : ap.endLine = p.line) (hs : noStar y = true) (ho : PE X v to) (he : PE X y te) :
    PE X (.Call (.Attribute v (mthN f) ap) [y] [] p) (tM1 (fun x xs H Q => ∃ l, rMth (C0.b l) f x xs H Q) to te) := by
  have ln : (ap.endLine == p.line) = true := by rw [hl]; exact beq_self_eq_true _
  cases f
  · exact pe_m1 PySem.F.slot_str_join PySem.F.type_str_join (mtR_ex fun C => mt_joinD C) ho he (star1 hs _ _) (base_of hb _ _ _) ln
  · exact pe_m1 PySem.F.slot_str_split PySem.F.type_str_split (mtR_ex fun C => mt_splitD C) ho he (star1 hs _ _) (base_of hb _ _ _) ln
  · exact pe_m1 PySem.F.slot_str_startswith PySem.F.type_str_startswith (mtR_ex fun C => mt_startsD C) ho he (star1 hs _ _) (base_of hb _ _ _) ln
theorem len_of {Γ : Stat} {sc : Scope} {es : Es} {xs : List Expr} (h : chkEs Γ sc es xs = true) (hz : xs.length ≤ 1000) (F : Fn) : ∀ us m ρ m', evEs F es ρ m = .ok us m' → us.length ≤ 1000 := fun us m ρ m' hev => by
  rw [evEs_len F es xs sc Γ h us ρ m m' hev]; exact hz
theorem fin2 {C : Cls'} {F : Fn} {X : Cx} {x : Expr} {e : E} {b c : Bool} (hc : c = b) (h : b = true → PE X x (tE C F e) ∧ PT X x (tT C F e)) : (b = true → PE X x (tE C F e)) ∧ (c = true → PT X x (tT C F e)) :=
  ⟨fun hb => (h hb).1, fun hb => (h (hc ▸ hb)).2⟩
/-- all that the soundness of an expression says -/
def SE (Γ : Stat) (C0 : Cls') (F : Fn) (k : Nat) (e : E) : Prop := ∀ {sc : Scope} {X : Cx}, CxOk Γ C0 F k sc X → ∀ x : Expr, (chkE Γ sc false e x = true → PE X x (tE C0 F e)) ∧ (chkE Γ sc true e x = true → PT X x (tT C0 F e))
def SEs (Γ : Stat) (C0 : Cls') (F : Fn) (k : Nat) (es : Es) : Prop := ∀ {sc : Scope} {X : Cx}, CxOk Γ C0 F k sc X →
  (∀ xs, chkEs Γ sc es xs = true → PA X xs (tA C0 F es)) ∧
  (∀ xs pos, chkCj Γ sc es xs = true → (PE X (.BoolOp .And xs pos) (tJV C0 F true es) ∧ PE X (.BoolOp .Or xs pos) (tJV C0 F false es)) ∧ PW X (.BoolOp .And xs pos) (tJ C0 F true es) ∧ PW X (.BoolOp .Or xs pos) (tJ C0 F false es)) ∧
  (∀ xs, chkIf Γ sc es xs = true → PTs X xs (tJ C0 F true es)) ∧
  (∀ xs, chkKs Γ sc es xs = true → PK X xs (tA C0 F es)) ∧
  (∀ xs, chkFs Γ sc es xs = true → ∃ ts, PJ X xs ts ∧ ∀ acc σ H Q, tFs C0 F es acc σ H Q → tJs ts acc σ H Q)
def SI (Γ : Stat) (C0 : Cls') (F : Fn) (k : Nat) (it : It) : Prop := ∀ {sc : Scope} {X : Cx}, CxOk Γ C0 F k sc X → ∀ t x, chkIt Γ sc it t x = true → PI X t x (tI C0 F it)
def ST (Γ : Stat) (C0 : Cls') (F : Fn) (k : Nat) (t : Tg) : Prop := ∀ {sc : Scope} {X : Cx}, CxOk Γ C0 F k sc X → ∀ x, chkTg Γ sc t x = true → PG X x (tG C0 F t)
def STs (Γ : Stat) (C0 : Cls') (F : Fn) (k : Nat) (ts : Tgs) : Prop := ∀ {sc : Scope} {X : Cx}, CxOk Γ C0 F k sc X → ∀ xs, chkTgs Γ sc ts xs = true → PGs X xs (tGs C0 F ts)
theorem pk_imp {X : Cx} {x : List Keyword} {t t' : TA} (h : PK X x t) (i : ∀ σ H Q, t' σ H Q → t σ H Q) : PK X x t' := ⟨fun pos pins s σ H Q I q => h.run pos pins s σ H Q I (i σ H Q q)⟩
theorem s_var (i : Nat) : SE Γ C0 F k (.var i) := fun {sc X} ok x => fin1 (by simp only [chkE]) fun h => by
  simp only [chkE] at h
  split at h
  · simp only [Bool.and_eq_true, decide_eq_true_eq] at h
    exact ⟨pe_imp (pe_var (by rw [ok.hN]; exact h.1.1) (ok.vis _ h.1.2) (plain_db h.2).1 (plain_db h.2).2.1) (fun σ H Q => im_var), rfl⟩
  · cases h
theorem s_cst (d : D) : SE Γ C0 F k (.cst d) := fun {sc X} ok x => fin1 (by simp only [chkE]) fun h => by
  simp only [chkE] at h
  unfold cstB at h
  split at h
  · simp only [decide_eq_true_eq] at h
    subst h
    exact ⟨pe_imp pe_int (fun σ H Q => im_cst fun C ι H => rfl), rfl⟩
  · simp only [decide_eq_true_eq] at h
    subst h
    exact ⟨pe_imp pe_bl (fun σ H Q => im_cst fun C ι H => rfl), rfl⟩
  · exact ⟨pe_imp pe_non (fun σ H Q => im_cst fun C ι H => rfl), rfl⟩
  · simp only [decide_eq_true_eq] at h
    subst h
    exact ⟨pe_imp pe_str (fun σ H Q => im_cst fun C ι H => rfl), rfl⟩
  · cases h
theorem s_glb (d : D) : SE Γ C0 F k (.glb d) := fun {sc X} ok x => fin1 (by simp only [chkE]) fun h => by
  simp only [chkE] at h
  split at h
  · rename_i n pos
    simp only [Bool.and_eq_true] at h
    obtain ⟨⟨h1, h2⟩, h3⟩ := h
    split at h3
    · rename_i d' hd
      have e := sameD_eq _ _ h3
      subst e
      obtain ⟨u, v, hm, r, hv⟩ := ok.g.cst n _ hd
      exact ⟨pe_imp (pe_glob (ok.glb n h1) hm r (plain_db h2).1) (fun σ H Q => im_glb fun l ι H => hv l ι H), rfl⟩
    · cases h3
  · cases h
theorem s_tup {es : Es} (hes : SEs Γ C0 F k es) : SE Γ C0 F k (.tup es) := fun {sc X} ok x => fin1 (by simp only [chkE]) fun h => by
  simp only [chkE] at h
  split at h
  · simp only [Bool.and_eq_true, decide_eq_true_eq] at h
    exact ⟨pe_imp (pe_tup ((hes ok).1 _ h.1)) (fun σ H Q => im_tup (len_of h.1 h.2 F)), rfl⟩
  · cases h
theorem s_lst {es : Es} (hes : SEs Γ C0 F k es) : SE Γ C0 F k (.lst es) := fun {sc X} ok x => fin1 (by simp only [chkE]) fun h => by
  simp only [chkE] at h
  split at h
  · simp only [Bool.and_eq_true, decide_eq_true_eq] at h
    exact ⟨pe_imp (pe_lst ((hes ok).1 _ h.1)) (fun σ H Q => im_lst (len_of h.1 h.2 F)), rfl⟩
  · cases h
theorem s_nlst {es : Es} (hes : SEs Γ C0 F k es) : SE Γ C0 F k (.nlst es) := fun {sc X} ok x => fin1 (by simp only [chkE]) fun h => by
  simp only [chkE] at h
  split at h
  · simp only [Bool.and_eq_true, decide_eq_true_eq] at h
    exact ⟨pe_imp (pe_lst ((hes ok).1 _ h.1)) (fun σ H Q => im_nlst (len_of h.1 h.2 F)), rfl⟩
  · cases h
theorem s_ndic : SE Γ C0 F k .ndic := fun {sc X} ok x => fin1 (by simp only [chkE]) fun h => by
  simp only [chkE] at h
  split at h
  · exact ⟨pe_imp pe_dnewK (fun σ H Q => im_ndic), rfl⟩
  · cases h
theorem s_ddic : SE Γ C0 F k .ddic := fun {sc X} ok x => fin1 (by simp only [chkE]) fun h => by
  simp only [chkE] at h
  split at h
  · exact ⟨pe_imp pe_dnewK (fun σ H Q => im_ddic), rfl⟩
  · cases h
theorem s_ndip : SE Γ C0 F k .ndip := fun {sc X} ok x => fin1 (by simp only [chkE]) fun h => by
  simp only [chkE] at h
  split at h
  · exact ⟨pe_imp pe_dnewT (fun σ H Q => im_ndip), rfl⟩
  · cases h
theorem s_bin {op : Bop} {a b : E} (ha : SE Γ C0 F k a) (hb : SE Γ C0 F k b) : SE Γ C0 F k (.bin op a b) := fun {sc X} ok x => fin1 (by simp only [chkE]) fun h => by
  simp only [chkE] at h
  split at h
  · simp only [Bool.and_eq_true, decide_eq_true_eq] at h
    obtain ⟨⟨rfl, h1⟩, h2⟩ := h
    exact ⟨pe_imp (pe_op (opR_ex fun C => op_bin C op) ((ha ok _).1 h1) ((hb ok _).1 h2)) (fun σ H Q => im_bin), rfl⟩
  · cases h
theorem s_neg {a : E} (ha : SE Γ C0 F k a) : SE Γ C0 F k (.neg a) := fun {sc X} ok x => fin1 (by simp only [chkE]) fun h => by
  simp only [chkE] at h
  split at h
  · exact ⟨pe_imp (pe_un un_neg ((ha ok _).1 h)) (fun σ H Q => im_neg), rfl⟩
  · cases h
theorem s_cmp {op : Cop} {a b : E} (ha : SE Γ C0 F k a) (hb : SE Γ C0 F k b) : SE Γ C0 F k (.cmp op a b) := fun {sc X} ok x => fin2 (by simp only [chkE]) fun h => by
  simp only [chkE] at h
  split at h
  · simp only [Bool.and_eq_true, decide_eq_true_eq] at h
    obtain ⟨⟨⟨rfl, h0⟩, h1⟩, h2⟩ := h
    exact ⟨pe_imp (pe_cmpR (opR_ex fun C => op_cmp C ok.u65 op) ((ha ok _).1 h1) ((hb ok _).1 h2) (marks_of h0 _)) (fun σ H Q => im_cmp),
      pt_imp (pt_cmpR (opR_ex fun C => op_cmp C ok.u65 op) ((ha ok _).1 h1) ((hb ok _).1 h2) (marks_of h0 _)) (fun σ H Q => im_cmpT)⟩
  · cases h
theorem marks2 {b c : Expr} (h1 : noSet b = true) (h2 : noSet c = true) (p q : CmpOp) : lastMarks [p, q] [b, c] = false := by
  show (behindInMarks q c) = false
  exact marks_of h2 q
theorem s_chain {p o : Cop} {a b c : E} (ha : SE Γ C0 F k a) (hb : SE Γ C0 F k b) (hcc : SE Γ C0 F k c) : SE Γ C0 F k (.chain p o a b c) := fun {sc X} ok x => fin2 (by simp only [chkE]) fun h => by
  simp only [chkE] at h
  split at h
  · simp only [Bool.and_eq_true, decide_eq_true_eq] at h
    obtain ⟨⟨⟨⟨⟨⟨rfl, rfl⟩, h0⟩, h0'⟩, h1⟩, h2⟩, h3⟩ := h
    exact ⟨pe_imp (pe_chain (opR_ex fun C => op_cmp C ok.u65 p) (opR_ex fun C => op_cmp C ok.u65 o) ((ha ok _).1 h1) ((hb ok _).1 h2) ((hcc ok _).1 h3) (marks2 h0 h0' _ _)) (fun σ H Q => im_chain),
      pt_imp (pt_chain (opR_ex fun C => op_cmp C ok.u65 p) (opR_ex fun C => op_cmp C ok.u65 o) ((ha ok _).1 h1) ((hb ok _).1 h2) ((hcc ok _).1 h3) (marks2 h0 h0' _ _)) (fun σ H Q => im_chainT)⟩
  · cases h
theorem s_conj {es : Es} (hes : SEs Γ C0 F k es) : SE Γ C0 F k (.conj es) := fun {sc X} ok x => fin2 (by simp only [chkE]) fun h => by
  simp only [chkE] at h
  split at h
  · obtain ⟨⟨h1, _⟩, h3, _⟩ := (hes ok).2.1 _ _ h
    exact ⟨pe_imp h1 (fun σ H Q => im_conj), pt_imp (PW.pt h3) (fun σ H Q => im_conjT)⟩
  · cases h
theorem s_disj {es : Es} (hes : SEs Γ C0 F k es) : SE Γ C0 F k (.disj es) := fun {sc X} ok x => fin2 (by simp only [chkE]) fun h => by
  simp only [chkE] at h
  split at h
  · obtain ⟨⟨_, h1⟩, _, h3⟩ := (hes ok).2.1 _ _ h
    exact ⟨pe_imp h1 (fun σ H Q => im_disj), pt_imp (PW.pt h3) (fun σ H Q => im_disjT)⟩
  · cases h
theorem s_inv {a : E} (ha : SE Γ C0 F k a) : SE Γ C0 F k (.inv a) := fun {sc X} ok x => by
  constructor
  · intro h
    simp only [chkE] at h
    split at h
    · exact pe_imp (pe_not ((ha ok _).1 h)) (fun σ H Q => im_inv)
    · cases h
  · intro h
    simp only [chkE] at h
    split at h
    · exact pt_imp (pt_not ((ha ok _).2 h)) (fun σ H Q => im_invT)
    · cases h
theorem s_ite {c a b : E} (hcc : SE Γ C0 F k c) (ha : SE Γ C0 F k a) (hb : SE Γ C0 F k b) : SE Γ C0 F k (.ite c a b) := fun {sc X} ok x => by
  constructor
  · intro h
    simp only [chkE] at h
    split at h
    · simp only [Bool.and_eq_true] at h
      exact pe_imp (pe_ifExp ((hcc ok _).2 h.1.1.2) ((ha ok _).1 h.1.2) ((hb ok _).1 h.2)) (fun σ H Q => im_ite)
    · cases h
  · intro h
    simp only [chkE] at h
    split at h
    · simp only [Bool.not_true, Bool.false_and, Bool.false_eq_true] at h
    · cases h
theorem s_idx {a i : E} (ha : SE Γ C0 F k a) (hi : SE Γ C0 F k i) : SE Γ C0 F k (.idx a i) := fun {sc X} ok x => fin1 (by simp only [chkE]) fun h => by
  simp only [chkE] at h
  split at h
  · simp only [Bool.and_eq_true] at h
    exact ⟨pe_imp (pe_or' (pe_ix ix_seq ((ha ok _).1 h.1.2) ((hi ok _).1 h.2) (plain_of h.1.1)) (pe_dget ok.u1 ((ha ok _).1 h.1.2) ((hi ok _).1 h.2) (plain_of h.1.1))) (fun σ H Q => im_idx), rfl⟩
  · cases h
theorem s_slTo {a i : E} (ha : SE Γ C0 F k a) (hi : SE Γ C0 F k i) : SE Γ C0 F k (.slTo a i) := fun {sc X} ok x => fin1 (by simp only [chkE]) fun h => by
  simp only [chkE] at h
  split at h
  · simp only [Bool.and_eq_true] at h
    exact ⟨pe_imp (pe_slice (slR_ex fun C => sl_D C) ((ha ok _).1 h.1) po_none (po_some ((hi ok _).1 h.2))) (fun σ H Q => im_slTo), rfl⟩
  · cases h
theorem s_slFr {a i : E} (ha : SE Γ C0 F k a) (hi : SE Γ C0 F k i) : SE Γ C0 F k (.slFr a i) := fun {sc X} ok x => fin1 (by simp only [chkE]) fun h => by
  simp only [chkE] at h
  split at h
  · simp only [Bool.and_eq_true] at h
    exact ⟨pe_imp (pe_slice (slR_ex fun C => sl_D C) ((ha ok _).1 h.1) (po_some ((hi ok _).1 h.2)) po_none) (fun σ H Q => im_slFr), rfl⟩
  · cases h
theorem s_slMi {a i j : E} (ha : SE Γ C0 F k a) (hi : SE Γ C0 F k i) (hj : SE Γ C0 F k j) : SE Γ C0 F k (.slMi a i j) := fun {sc X} ok x => fin1 (by simp only [chkE]) fun h => by
  simp only [chkE] at h
  split at h
  · simp only [Bool.and_eq_true] at h
    exact ⟨pe_imp (pe_slice (slR_ex fun C => sl_D C) ((ha ok _).1 h.1.1) (po_some ((hi ok _).1 h.1.2)) (po_some ((hj ok _).1 h.2))) (fun σ H Q => im_slMi), rfl⟩
  · cases h
theorem s_slen {a : E} (ha : SE Γ C0 F k a) : SE Γ C0 F k (.slen a) := fun {sc X} ok x => fin1 (by simp only [chkE]) fun h => by
  simp only [chkE] at h
  split at h
  · simp only [Bool.and_eq_true, decide_eq_true_eq] at h
    obtain ⟨⟨⟨h1, rfl⟩, h3⟩, h4⟩ := h
    exact ⟨pe_imp (pe_callB call_len_seq (ok.glb _ h1) (ok.g.blt .len) (by decide +kernel) (pa_cons ((ha ok _).1 h4) pa_nil (star1 h3 _ _)) (by decide) (by decide) (star1 h3 _ _) rfl) (fun σ H Q => im_slen ok.hK), rfl⟩
  · cases h
theorem s_sidx {a i : E} (ha : SE Γ C0 F k a) (hi : SE Γ C0 F k i) : SE Γ C0 F k (.sidx a i) := fun {sc X} ok x => fin1 (by simp only [chkE]) fun h => by
  simp only [chkE] at h
  split at h
  · simp only [Bool.and_eq_true] at h
    exact ⟨pe_imp (pe_ix ix_seq ((ha ok _).1 h.1.2) ((hi ok _).1 h.2) (plain_of h.1.1)) (fun σ H Q => im_sidx ok.hK), rfl⟩
  · cases h
theorem s_sto {a i : E} (ha : SE Γ C0 F k a) (hi : SE Γ C0 F k i) : SE Γ C0 F k (.sto a i) := fun {sc X} ok x => fin1 (by simp only [chkE]) fun h => by
  simp only [chkE] at h
  split at h
  · simp only [Bool.and_eq_true] at h
    exact ⟨pe_imp (pe_slice sl_list ((ha ok _).1 h.1) po_none (po_some ((hi ok _).1 h.2))) (fun σ H Q => im_sto ok.hK), rfl⟩
  · cases h
theorem dv_of {Γ : Stat} {f : Nat} {dv : List D} (h : dvB Γ f dv = true) : dv = [] ∨ dv = Γ.dfl f := by
  unfold dvB at h
  split at h
  · exact .inl rfl
  · exact .inr (sameL_eq _ _ h)
theorem s_call {f : Nat} {es : Es} {dv : List D} (hes : SEs Γ C0 F k es) : SE Γ C0 F k (.call f es dv) := fun {sc X} ok x => by
  cases hf : Γ.has f with
  | false =>
    refine ⟨fun hM => pe_no ?_, fun hM => ⟨fun pins s σ H Q I q => ?_⟩⟩
    · simp only [chkE, hf, Bool.not_eq_true'] at hM
      rintro σ H Q ⟨l, ι, ρ, m, u, m', he, hs, hev, q⟩
      simp only [evE] at hev
      obtain ⟨us, m1, h1, h2⟩ := R.bind_inv hev
      rw [ok.g.no _ _ _ hf hM] at h2; cases h2
    · simp only [chkE, hf, Bool.not_eq_true'] at hM
      obtain ⟨l, ι, ρ, m, u, m', he, hs, hev, q⟩ := q
      simp only [evE] at hev
      obtain ⟨us, m1, h1, h2⟩ := R.bind_inv hev
      rw [ok.g.no _ _ _ hf hM] at h2; cases h2
  | true =>
    refine fin1 (by simp only [chkE]) fun h => ?_
    simp only [chkE, hf] at h
    split at h
    · simp only [Bool.and_eq_true, decide_eq_true_eq] at h
      obtain ⟨⟨⟨⟨⟨h1, h2⟩, h3⟩, h4⟩, h5⟩, h6⟩ := h
      exact ⟨pe_callD ok hf h1 h2 h3 h4 (dv_of h5) ((hes ok).1 _ h6), rfl⟩
    · simp only [Bool.and_eq_true, decide_eq_true_eq] at h
      obtain ⟨⟨⟨⟨h1, h2⟩, h3⟩, h5⟩, h6⟩ := h
      refine ⟨pe_callD0 ok hf h1 h2 h3 (dv_of h5) ?_, rfl⟩
      cases es with
      | nil => rfl
      | cons e es => simp only [chkEs] at h6; cases h6
    · cases h
theorem fm_len {α : Type} : ∀ (kws : List Keyword), kws.all (fun k => k.arg.isSome) = true → (kws.filterMap (fun k => k.arg)).length = kws.length
  | [], _ => rfl
  | ⟨a, v, p⟩ :: kws, h => by
    rw [List.all_cons, Bool.and_eq_true] at h
    cases a with
    | none => cases h.1
    | some n =>
      rw [List.filterMap_cons]
      simp only [List.length_cons, fm_len (α := α) kws h.2]
theorem s_callK {f : Nat} {es : Es} {perm : List Nat} (hes : SEs Γ C0 F k es) : SE Γ C0 F k (.callK f perm es) := fun {sc X} ok x => by
  cases hf : Γ.has f with
  | false =>
    refine ⟨fun hM => pe_no ?_, fun hM => ⟨fun pins s σ H Q I q => ?_⟩⟩
    · simp only [chkE, hf, Bool.not_eq_true'] at hM
      rintro σ H Q ⟨l, ι, ρ, m, u, m', he, hs, hev, q⟩
      simp only [evE] at hev
      obtain ⟨us, m1, h1, h2⟩ := R.bind_inv hev
      rw [ok.g.no _ _ _ hf hM] at h2; cases h2
    · simp only [chkE, hf, Bool.not_eq_true'] at hM
      obtain ⟨l, ι, ρ, m, u, m', he, hs, hev, q⟩ := q
      simp only [evE] at hev
      obtain ⟨us, m1, h1, h2⟩ := R.bind_inv hev
      rw [ok.g.no _ _ _ hf hM] at h2; cases h2
  | true =>
    refine fin1 (by simp only [chkE]) fun h => ?_
    simp only [chkE, hf] at h
    split at h
    · rename_i n np kws pos
      simp only [Bool.and_eq_true, decide_eq_true_eq] at h
      obtain ⟨⟨⟨⟨⟨h1, h2⟩, h3⟩, h4⟩, h5⟩, h6⟩ := h
      obtain ⟨q, hq, h7⟩ := List.any_eq_true.mp h5
      simp only [Bool.and_eq_true, decide_eq_true_eq] at h7
      obtain ⟨⟨h8, h9⟩, h10⟩ := h7
      refine ⟨pe_callKD ok hf h1 h2 h3 h4 (by rw [← h8, ← h9, ← h10]; exact hq) (fun us m ρ m' hev => ?_) ((hes ok).2.2.2.1 _ h6), rfl⟩
      rw [evKs_len F es _ sc Γ h6 us ρ m m' hev, fm_len (α := Unit) _ h4]
    · cases h
theorem s_blt {b : Blt} {es : Es} (hes : SEs Γ C0 F k es) : SE Γ C0 F k (.blt b es) := fun {sc X} ok x => fin1 (by simp only [chkE]) fun h => by
  simp only [chkE] at h
  split at h
  · simp only [Bool.and_eq_true, decide_eq_true_eq] at h
    obtain ⟨⟨⟨h1, rfl⟩, h3⟩, h4⟩ := h
    exact ⟨pe_imp (pe_bltD ok h1 h3 ((hes ok).1 _ h4)) (fun σ H Q => im_blt), rfl⟩
  · cases h
theorem s_nlist {e : E} (he : SE Γ C0 F k e) : SE Γ C0 F k (.nlist e) := fun {sc X} ok x => fin1 (by simp only [chkE]) fun h => by
  simp only [chkE] at h
  split at h
  · simp only [Bool.and_eq_true, decide_eq_true_eq] at h
    obtain ⟨⟨⟨h1, rfl⟩, h3⟩, h4⟩ := h
    exact ⟨pe_imp (pe_callTy call_list_of (ok.glb _ h1) (ok.g.blt .list) (by decide +kernel) (pa_cons ((he ok _).1 h4) pa_nil (star1 h3 _ _)) (by decide) (by decide) (star1 h3 _ _) rfl) (fun σ H Q => im_nlist), rfl⟩
  · cases h
theorem s_isi {a : E} {t : Ty} (ha : SE Γ C0 F k a) : SE Γ C0 F k (.isi a t) := fun {sc X} ok x => fin1 (by simp only [chkE]) fun h => by
  simp only [chkE] at h
  split at h
  · simp only [Bool.and_eq_true, decide_eq_true_eq] at h
    obtain ⟨⟨⟨⟨⟨h1, rfl⟩, h3⟩, h5⟩, h6⟩, h7⟩ := h
    cases t with
    | cls c =>
      simp only [Bool.and_eq_true] at h7
      exact ⟨pe_isiC ok (duo_mem h7.1) h1 h3 h7.2 h5 ((ha ok _).1 h6), rfl⟩
    | _ =>
      simp only [decide_eq_true_eq] at h7
      subst h7
      exact ⟨pe_imp (pe_callB call_isi (ok.glb _ h1) ok.g.isi (by decide +kernel) (pa_cons ((ha ok _).1 h6) (pa_cons (pe_tyD ok h3 (by rintro c ⟨⟩)) pa_nil rfl) (star1 h5 _ _)) (by decide) (by decide) (star1 h5 _ _) rfl) (fun σ H Q => im_isi (X := X) (by rintro c ⟨⟩)), rfl⟩
  · cases h
theorem s_mth {f : Mth} {o e : E} (ho : SE Γ C0 F k o) (he : SE Γ C0 F k e) : SE Γ C0 F k (.mth f o e) := fun {sc X} ok x => fin1 (by simp only [chkE]) fun h => by
  simp only [chkE] at h
  split at h
  · simp only [Bool.and_eq_true, decide_eq_true_eq] at h
    obtain ⟨⟨⟨⟨⟨rfl, h2⟩, h3⟩, h4⟩, h5⟩, h6⟩ := h
    exact ⟨pe_imp (pe_mthD ok h2 h3 h4 ((ho ok _).1 h5) ((he ok _).1 h6)) (fun σ H Q => im_mth), rfl⟩
  · cases h
theorem s_get {o e d : E} (ho : SE Γ C0 F k o) (he : SE Γ C0 F k e) (hd : SE Γ C0 F k d) : SE Γ C0 F k (.get o e d) := fun {sc X} ok x => fin1 (by simp only [chkE]) fun h => by
  simp only [chkE] at h
  split at h
  · simp only [Bool.and_eq_true, decide_eq_true_eq] at h
    obtain ⟨⟨⟨⟨⟨⟨⟨rfl, h2⟩, h3⟩, h4⟩, h5⟩, h6⟩, h7⟩, h8⟩ := h
    exact ⟨pe_imp (pe_dget2 ok.u1 ((ho ok _).1 h6) ((he ok _).1 h7) ((hd ok _).1 h8) (m2_of h4 h5 h2 h3)) (fun σ H Q => im_get), rfl⟩
  · cases h
theorem s_pop {o : E} (ho : SE Γ C0 F k o) : SE Γ C0 F k (.pop o) := fun {sc X} ok x => fin1 (by simp only [chkE]) fun h => by
  simp only [chkE] at h
  split at h
  · simp only [Bool.and_eq_true, decide_eq_true_eq] at h
    obtain ⟨⟨⟨rfl, h2⟩, h3⟩, h4⟩ := h
    exact ⟨pe_imp (pe_bm0 PySem.F.plainAttrs_list PySem.F.slot_list_pop PySem.F.type_list_pop mt_pop ((ho ok _).1 h4) (base_of h2 _ _ _) (by rw [h3]; exact beq_self_eq_true _)) (fun σ H Q => im_pop), rfl⟩
  · cases h
theorem s_litems {o : E} (ho : SE Γ C0 F k o) : SE Γ C0 F k (.litems o) := fun {sc X} ok x => fin1 (by simp only [chkE]) fun h => by
  simp only [chkE] at h
  split at h
  · simp only [Bool.and_eq_true, decide_eq_true_eq] at h
    obtain ⟨⟨⟨⟨⟨h1, rfl⟩, rfl⟩, h2⟩, h3⟩, h4⟩ := h
    exact ⟨pe_imp (pe_listItems ok.calm ((ho ok _).1 h4) (ok.glb _ h1) (ok.g.blt .list) (by decide +kernel) (base_of h2 _ _ _) (by rw [h3]; exact beq_self_eq_true _) rfl) (fun σ H Q => im_litems), rfl⟩
  · cases h
theorem s_sitems {o : E} (ho : SE Γ C0 F k o) : SE Γ C0 F k (.sitems o) := fun {sc X} ok x => fin1 (by simp only [chkE]) fun h => by
  simp only [chkE] at h
  split at h
  · simp only [Bool.and_eq_true, decide_eq_true_eq] at h
    obtain ⟨⟨⟨⟨⟨h1, rfl⟩, rfl⟩, h2⟩, h3⟩, h4⟩ := h
    exact ⟨pe_imp (pe_sortedItems ok.calm ((ho ok _).1 h4) (ok.glb _ h1) (ok.g.blt .sorted) (base_of h2 _ _ _) (by rw [h3]; exact beq_self_eq_true _)) (fun σ H Q => im_sitems), rfl⟩
  · cases h
theorem s_fstr {es : Es} (hes : SEs Γ C0 F k es) : SE Γ C0 F k (.fstr es) := fun {sc X} ok x => fin1 (by simp only [chkE]) fun h => by
  simp only [chkE] at h
  split at h
  · obtain ⟨ts, h1, h2⟩ := (hes ok).2.2.2.2 _ h
    exact ⟨pe_imp (pe_joined h1) (fun σ H Q q => h2 _ _ _ _ (im_fstr q)), rfl⟩
  · cases h
theorem s_lc {own : List Nat} {tg : Tg} {it : It} {cs : Es} {e : E} (ht : ST Γ C0 F k tg) (hi : SI Γ C0 F k it) (hcs : SEs Γ C0 F k cs) (he : SE Γ C0 F k e) : SE Γ C0 F k (.lc own tg it cs e) := fun {sc X} ok x => fin1 (by simp only [chkE]) fun h => by
  simp only [chkE] at h
  split at h
  · rename_i elt t iter ifs scope pos
    simp only [Bool.and_eq_true] at h
    obtain ⟨⟨⟨⟨⟨⟨h1, h2⟩, h3⟩, h4⟩, h5⟩, h6⟩, h7⟩ := h
    have pl := pe_lc (pos := pos) ok.calm ok.nd (hi ok _ _ h5) (blkOk_of ok h2) (fun s H Ca cl fp => ht (ok.blk s H Ca cl fp) _ h4) (fun s H Ca cl fp => (hcs (ok.blk s H Ca cl fp)).2.2.1 _ h6) (fun s H Ca cl fp => (he (ok.blk s H Ca cl fp) _).1 h7) (fun x => folded_of h1 _ x)
    rw [ownB_map] at pl
    exact ⟨pe_imp pl (fun σ H Q => im_lc h3), rfl⟩
  · cases h
end
end DL
set_option linter.all false
set_option maxRecDepth 100000
set_option maxHeartbeats 4000000
namespace DL
open PySem PySem.Spec PyProof.Rows L2 LiI
section
variable {Γ : Stat} {C0 : Cls'} {F : Fn} {k : Nat}
theorem s_step {n : Nat} {a : E} (ha : SE Γ C0 F k a) : SE Γ C0 F k (.step n a) := fun {sc X} ok x => fin1 (by simp only [chkE]) fun h => by
  simp only [chkE] at h
  split at h
  · simp only [Bool.and_eq_true, decide_eq_true_eq] at h
    obtain ⟨⟨⟨rfl, rfl⟩, h3⟩, h4⟩ := h
    exact ⟨pe_stepD ok h3 ((ha ok _).1 h4), rfl⟩
  · cases h
theorem s_sset {e : E} (he : SE Γ C0 F k e) : SE Γ C0 F k (.sset e) := fun {sc X} ok x => fin1 (by simp only [chkE]) fun h => by
  simp only [chkE] at h
  split at h
  · simp only [Bool.and_eq_true, decide_eq_true_eq] at h
    obtain ⟨⟨⟨⟨⟨h1, h2⟩, h3⟩, h4⟩, h5⟩, h6⟩ := h
    exact ⟨pe_ssetD ok h1 h2 h3 h4 h5 ((he ok _).1 h6), rfl⟩
  · cases h
theorem s_fld {c : Nat} {o : E} (ho : SE Γ C0 F k o) : SE Γ C0 F k (.fld c o) := fun {sc X} ok x => fin1 (by simp only [chkE]) fun h => by
  simp only [chkE] at h
  split at h
  · simp only [Bool.and_eq_true] at h
    exact ⟨pe_fldD ok (duo_mem h.1.2) h.1.1 ((ho ok _).1 h.2), rfl⟩
  · cases h
/-- what is not reached: no answer -/
theorem s_none {e : E} {b : Bool} (hc : ∀ sc tt x, chkE Γ sc tt e x = b) (hF : b = true → ∀ ρ m u m', (∀ f us m, Γ.has f = false → Γ.hasM f = false → F f us m = .no) → evE F e ρ m ≠ .ok u m') (hg : ∀ {sc X}, CxOk Γ C0 F k sc X → (∀ f us m, Γ.has f = false → Γ.hasM f = false → F f us m = .no)) : SE Γ C0 F k e := fun {sc X} ok x => by
  refine ⟨fun h => pe_no ?_, fun h => ⟨fun pins s σ H Q I q => ?_⟩⟩
  · rintro σ H Q ⟨l, ι, ρ, m, u, m', he, hs, hev, q⟩
    exact hF (by rw [← hc sc false x]; exact h) _ _ _ _ (hg ok) hev
  · obtain ⟨l, ι, ρ, m, u, m', he, hs, hev, q⟩ := q
    exact (hF (by rw [← hc sc true x]; exact h) _ _ _ _ (hg ok) hev).elim
theorem s_prop {f c : Nat} {o : E} (ho : SE Γ C0 F k o) : SE Γ C0 F k (.prop f c o) := by
  cases hM : Γ.hasM f with
  | false =>
    refine s_none (b := !Γ.has f) (fun sc tt x => by simp only [chkE, hM]) (fun h ρ m u m' no hev => ?_) fun ok => ok.g.no
    simp only [evE] at hev
    obtain ⟨x, m1, h1, h2⟩ := R.bind_inv hev
    split at h2
    · rw [no _ _ _ (by simpa using h) hM] at h2; cases h2
    · cases h2
  | true =>
    refine fun {sc X} ok x => fin1 (by simp only [chkE]) fun h => ?_
    simp only [chkE, hM] at h
    split at h
    · simp only [Bool.and_eq_true] at h
      exact ⟨pe_propD ok (tri_mem h.1.2) h.1.1 ((ho ok _).1 h.2), rfl⟩
    · cases h
theorem s_meth {f c : Nat} {o : E} {es : Es} (ho : SE Γ C0 F k o) (hes : SEs Γ C0 F k es) : SE Γ C0 F k (.meth f c o es) := by
  cases hM : Γ.hasM f with
  | false =>
    refine s_none (b := !Γ.has f) (fun sc tt x => by simp only [chkE, hM]) (fun h ρ m u m' no hev => ?_) fun ok => ok.g.no
    simp only [evE] at hev
    obtain ⟨x, m1, h1, h2⟩ := R.bind_inv hev
    split at h2
    · obtain ⟨us, m2, h3, h4⟩ := R.bind_inv h2
      rw [no _ _ _ (by simpa using h) hM] at h4; cases h4
    · cases h2
  | true =>
    refine fun {sc X} ok x => fin1 (by simp only [chkE]) fun h => ?_
    simp only [chkE, hM] at h
    split at h
    · simp only [Bool.and_eq_true, decide_eq_true_eq] at h
      obtain ⟨⟨⟨⟨⟨⟨h1, h2⟩, h3⟩, h4⟩, h5⟩, h6⟩, h7⟩ := h
      exact ⟨pe_methD ok (tri_mem h3) h1 h2 h4 h5 ((ho ok _).1 h6) ((hes ok).1 _ h7), rfl⟩
    · simp only [Bool.and_eq_true, decide_eq_true_eq] at h
      obtain ⟨⟨⟨⟨h1, h2⟩, h3⟩, h6⟩, h7⟩ := h
      refine ⟨pe_methD0 ok (tri_mem h3) h1 h2 ?_ ((ho ok _).1 h6), rfl⟩
      cases es with
      | nil => rfl
      | cons e es => simp only [chkEs] at h7; cases h7
    · cases h
theorem s_mk {g c : Nat} {e : E} (he : SE Γ C0 F k e) : SE Γ C0 F k (.mk g c e) := by
  cases hM : Γ.hasM g with
  | false =>
    refine s_none (b := !Γ.has g) (fun sc tt x => by simp only [chkE, hM]) (fun h ρ m u m' no hev => ?_) fun ok => ok.g.no
    simp only [evE] at hev
    obtain ⟨x, m1, h1, h2⟩ := R.bind_inv hev
    obtain ⟨r, m2, h3, h4⟩ := R.bind_inv h2
    rw [no _ _ _ (by simpa using h) hM] at h3; cases h3
  | true =>
    refine fun {sc X} ok x => fin1 (by simp only [chkE]) fun h => ?_
    simp only [chkE, hM] at h
    split at h
    · simp only [Bool.and_eq_true] at h
      obtain ⟨⟨⟨⟨h1, h2⟩, h3⟩, h4⟩, h5⟩ := h
      exact ⟨pe_mkD ok (tri_mem h3) h1 h2 h4 ((he ok _).1 h5), rfl⟩
    · cases h
theorem s_strO {f c : Nat} {o : E} (ho : SE Γ C0 F k o) : SE Γ C0 F k (.strO f c o) := by
  cases hM : Γ.hasM f with
  | false =>
    refine s_none (b := !Γ.has f) (fun sc tt x => by simp only [chkE, hM]) (fun h ρ m u m' no hev => ?_) fun ok => ok.g.no
    simp only [evE] at hev
    obtain ⟨x, m1, h1, h2⟩ := R.bind_inv hev
    split at h2
    · obtain ⟨y, m2, h3, h4⟩ := R.bind_inv h2
      rw [no _ _ _ (by simpa using h) hM] at h3; cases h3
    · cases h2
  | true =>
    refine fun {sc X} ok x => fin1 (by simp only [chkE]) fun h => ?_
    simp only [chkE, hM] at h
    split at h
    · simp only [Bool.and_eq_true, decide_eq_true_eq] at h
      obtain ⟨⟨⟨⟨h1, rfl⟩, h3⟩, h4⟩, h5⟩ := h
      exact ⟨pe_strOD ok (tri_mem h3) h1 h4 ((ho ok _).1 h5), rfl⟩
    · cases h
end
end DL
set_option linter.all false
set_option maxRecDepth 100000
set_option maxHeartbeats 4000000
namespace DL
open PySem PySem.Spec PyProof.Rows L2 LiI
section
variable {Γ : Stat} {C0 : Cls'} {F : Fn} {k : Nat}
theorem tE_mono {e : E} {σ : L2.St} {H : Hp} {Q Q' : VK} (h : tE C0 F e σ H Q) (i : ∀ x H', Q x H' → Q' x H') : tE C0 F e σ H Q' := by
  obtain ⟨l, ι, ρ, m, u, m', he, hs, hev, q⟩ := h
  exact ⟨l, ι, ρ, m, u, m', he, hs, hev, fun ι' H' v a b c => i _ _ (q ι' H' v a b c)⟩
theorem tFmt_mono {e : E} {σ : L2.St} {H : Hp} {Q Q' : VK} (h : tFmt (tE C0 F e) σ H Q) (i : ∀ x H', Q x H' → Q' x H') : tFmt (tE C0 F e) σ H Q' :=
  tE_mono h fun x H1 z => z.elim (fun ⟨y, a, b, c⟩ => .inl ⟨y, a, b, i _ _ c⟩) fun ⟨y, a, b, c⟩ => .inr ⟨y, a, b, i _ _ c⟩
theorem s_stuck : SE Γ C0 F k .stuck := fun {sc X} ok x => by
  refine ⟨fun _ => pe_no ?_, fun _ => ⟨fun pins s σ H Q I q => ?_⟩⟩
  · rintro σ H Q ⟨l, ι, ρ, m, u, m', he, hs, hev, q⟩
    simp only [evE] at hev
    cases hev
  · obtain ⟨l, ι, ρ, m, u, m', he, hs, hev, q⟩ := q
    simp only [evE] at hev
    cases hev
theorem s_nil : SEs Γ C0 F k .nil := fun {sc X} ok => by
  refine ⟨fun xs h => ?_, fun xs pos h => ?_, fun xs h => ?_, fun xs h => ?_, fun xs h => ?_⟩
  · simp only [chkEs, List.isEmpty_iff] at h
    subst h
    exact pa_imp pa_nil (fun σ H Q => im_nil)
  · simp only [chkCj] at h; cases h
  · simp only [chkIf, List.isEmpty_iff] at h
    subst h
    refine pts_imp pts_nil (fun σ H Q => ?_)
    rintro ⟨l, ι, ρ, m, k, m', he, hs, hev, q⟩
    simp only [evCj] at hev
    cases hev
    exact q ι H Ext.refl hs
  · simp only [chkKs, List.isEmpty_iff] at h
    subst h
    exact pk_imp pk_nil (fun σ H Q => im_nil)
  · simp only [chkFs, List.isEmpty_iff] at h
    subst h
    exact ⟨[], .nil, fun acc σ H Q q => im_fsN q⟩
theorem s_cons {e : E} {es : Es} (he : SE Γ C0 F k e) (hes : SEs Γ C0 F k es) : SEs Γ C0 F k (.cons e es) := fun {sc X} ok => by
  refine ⟨fun xs h => ?_, fun xs pos h => ?_, fun xs h => ?_, fun xs h => ?_, fun xs h => ?_⟩
  · cases xs with
    | nil => simp only [chkEs] at h; cases h
    | cons y ys =>
      simp only [chkEs, Bool.and_eq_true] at h
      exact pa_imp (pa_cons ((he ok _).1 h.1.2) ((hes ok).1 _ h.2) (star1 h.1.1 _ _)) (fun σ H Q => im_cons)
  · cases xs with
    | nil => simp only [chkCj] at h; cases h
    | cons y ys =>
      cases ys with
      | nil =>
        simp only [chkCj, Bool.and_eq_true] at h
        obtain ⟨⟨h1, h2⟩, h3⟩ := h
        cases es with
        | cons e' es' => cases h3
        | nil =>
          refine ⟨⟨pe_imp (pe_one ((he ok _).1 h1)) (fun σ H Q => im_jv1), pe_imp (pe_one ((he ok _).1 h1)) (fun σ H Q => im_jv1)⟩,
            pw_imp (pw_and1 ((he ok _).2 h2)) (fun σ H Q => im_j1), pw_imp (pw_or1 ((he ok _).2 h2)) (fun σ H Q => im_j1)⟩
      | cons z zs =>
        simp only [chkCj, Bool.and_eq_true] at h
        obtain ⟨⟨h1, h2⟩, h3⟩ := h
        obtain ⟨⟨a1, a2⟩, a3, a4⟩ := (hes ok).2.1 (z :: zs) pos h3
        exact ⟨⟨pe_imp (pe_and ((he ok _).1 h1) a1) (fun σ H Q => im_jvand), pe_imp (pe_or ((he ok _).1 h1) a2) (fun σ H Q => im_jvor)⟩,
          pw_imp (pw_and ((he ok _).2 h2) a3) (fun σ H Q => im_jand), pw_imp (pw_or ((he ok _).2 h2) a4) (fun σ H Q => im_jor)⟩
  · simp only [chkIf] at h
    split at h
    · simp only [Bool.and_eq_true] at h
      cases es with
      | cons e' es' => cases h.2
      | nil => exact pts_imp (pts_one ((he ok _).2 h.1)) (fun σ H Q => im_j1)
    · cases h
  · cases xs with
    | nil => simp only [chkKs] at h; cases h
    | cons y ys =>
      obtain ⟨a, y, p⟩ := y
      simp only [chkKs, Bool.and_eq_true] at h
      exact pk_imp (pk_cons ((he ok _).1 h.1) ((hes ok).2.2.2.1 _ h.2)) (fun σ H Q => im_cons)
  · simp only [chkFs] at h
    split at h
    · rename_i y pos ys
      simp only [Bool.and_eq_true] at h
      obtain ⟨ts, h1, h2⟩ := (hes ok).2.2.2.2 _ h.2
      exact ⟨_ :: ts, .cons (pe_fmt ((he ok _).1 h.1)) h1, fun acc σ H Q q => by
        have q1 := im_fsF q
        exact tFmt_mono q1 fun x H1 ⟨y, e1, e2, e3⟩ => ⟨y, e1, e2, h2 _ _ _ _ e3⟩⟩
    · rename_i y ys hy
      simp only [Bool.and_eq_true] at h
      obtain ⟨h0, h1⟩ := h
      split at h0
      · rename_i t
        obtain ⟨ts, h2, h3⟩ := (hes ok).2.2.2.2 _ h1
        exact ⟨_ :: ts, .cons ((he ok _).1 h0) h2, fun acc σ H Q q => by
          have q1 := im_fsC q
          exact tE_mono q1 fun x H1 ⟨y, e1, e2, e3⟩ => ⟨y, e1, e2, h3 _ _ _ _ e3⟩⟩
      · cases h0
    · cases h
theorem s_seq {e : E} (he : SE Γ C0 F k e) : SI Γ C0 F k (.seq e) := fun {sc X} ok t x h => by
  simp only [chkIt] at h
  exact pi_seqD ((he ok _).1 h)
theorem s_rng {e : E} (he : SE Γ C0 F k e) : SI Γ C0 F k (.rng e) := fun {sc X} ok t x h => by
  simp only [chkIt] at h
  split at h
  · simp only [Bool.and_eq_true, decide_eq_true_eq] at h
    obtain ⟨⟨⟨h1, rfl⟩, h3⟩, h4⟩ := h
    exact pi_rngD (n := "range") (ok.glb _ h1) ok.g.rng h3 ((he ok _).1 h4)
  · cases h
theorem s_enum {e : E} (he : SE Γ C0 F k e) : SI Γ C0 F k (.enum e) := fun {sc X} ok t x h => by
  simp only [chkIt] at h
  split at h
  · simp only [Bool.and_eq_true, decide_eq_true_eq] at h
    obtain ⟨⟨⟨h1, rfl⟩, h3⟩, h4⟩ := h
    exact pi_enumD (ok.glb _ h1) ok.g.enm h3 ((he ok _).1 h4)
  · cases h
theorem s_items {e : E} : SI Γ C0 F k (.items e) := fun {sc X} ok t x h => by
  simp only [chkIt] at h; cases h
theorem s_itstuck : SI Γ C0 F k .stuck := fun {sc X} ok t x h => ⟨fun pins s σ H Q I q => by
  obtain ⟨l, ι, ρ, m, p, m', he, hs, hev, q⟩ := q
  simp only [evIt] at hev
  cases hev⟩
theorem s_nm {i : Nat} : ST Γ C0 F k (.nm i) := fun {sc X} ok x h => by
  simp only [chkTg] at h
  split at h
  · simp only [Bool.and_eq_true, decide_eq_true_eq] at h
    exact pg_imp (pg_name ok.nd (by rw [ok.hN]; exact h.1) (ok.loc _ h.2).1 (ok.loc _ h.2).2) (fun v σ H Q => im_nm)
  · cases h
theorem plain_asg {s o : Expr} {pos : Pos} (h : noSlice s = true) (env : PySem.Env) : ∀ v, assign (.Subscript o s pos) env v = (do
      let ov ← holding [v] (eval o env)
      let iv ← holding [v, ov] (eval s env)
      standAt pos
      holding [v, ov, iv] (setItem ov iv v)
      release [v, ov, iv] []) := by
  intro v
  cases s <;> first | (cases h; done) | rfl
theorem s_sub {o i : E} (ho : SE Γ C0 F k o) (hi : SE Γ C0 F k i) : ST Γ C0 F k (.sub o i) := fun {sc X} ok x h => by
  simp only [chkTg] at h
  split at h
  · simp only [Bool.and_eq_true] at h
    exact pg_imp (pg_sub ((ho ok _).1 h.1.2) ((hi ok _).1 h.2) (set_ex fun C => set_D C ok.u1) (plain_asg h.1.1 _)) (fun v σ H Q => im_sub)
  · cases h
theorem s_tp {ts : Tgs} (hts : STs Γ C0 F k ts) : ST Γ C0 F k (.tp ts) := fun {sc X} ok x h => by
  simp only [chkTg] at h
  split at h
  · rename_i xs kk pos
    simp only [Bool.and_eq_true] at h
    obtain ⟨h1, h2⟩ := asg_each h.2 X.env
    exact pg_imp (pg_tup ok.calm (hts ok _ h.1) h1 h2) (fun v σ H Q => im_tp (assTs_len F ts xs sc Γ h.1))
  · cases h
theorem s_tnil : STs Γ C0 F k .nil := fun {sc X} ok xs h => by
  simp only [chkTgs, List.isEmpty_iff] at h
  subst h
  exact pgs_imp pgs_nil (fun v σ H Q => im_gnil)
theorem noStar_tg {Γ : Stat} {sc : Scope} {t : Tg} {x : Expr} (h : chkTg Γ sc t x = true) : noStar x = true := by
  cases t <;> simp only [chkTg] at h <;> split at h <;> first | rfl | cases h
theorem s_tcons {t : Tg} {ts : Tgs} (ht : ST Γ C0 F k t) (hts : STs Γ C0 F k ts) : STs Γ C0 F k (.cons t ts) := fun {sc X} ok xs h => by
  simp only [chkTgs] at h
  split at h
  · simp only [Bool.and_eq_true] at h
    exact pgs_imp (pgs_cons (ht ok _ h.1) (hts ok _ h.2) (asg_cons (noStar_tg h.1) _ _)) (fun v σ H Q => im_gcons)
  · cases h
mutual
theorem sE : ∀ e : E, SE Γ C0 F k e
  | .var i => s_var i
  | .cst d => s_cst d
  | .glb d => s_glb d
  | .tup es => s_tup (sEs es)
  | .lst es => s_lst (sEs es)
  | .nlst es => s_nlst (sEs es)
  | .ndic => s_ndic
  | .ndip => s_ndip
  | .ddic => s_ddic
  | .bin op a b => s_bin (sE a) (sE b)
  | .neg a => s_neg (sE a)
  | .cmp op a b => s_cmp (sE a) (sE b)
  | .chain p o a b c => s_chain (sE a) (sE b) (sE c)
  | .conj es => s_conj (sEs es)
  | .disj es => s_disj (sEs es)
  | .inv a => s_inv (sE a)
  | .ite c a b => s_ite (sE c) (sE a) (sE b)
  | .idx a i => s_idx (sE a) (sE i)
  | .slTo a i => s_slTo (sE a) (sE i)
  | .slFr a i => s_slFr (sE a) (sE i)
  | .slMi a i j => s_slMi (sE a) (sE i) (sE j)
  | .slen a => s_slen (sE a)
  | .sidx a i => s_sidx (sE a) (sE i)
  | .sto a i => s_sto (sE a) (sE i)
  | .step n a => s_step (sE a)
  | .call f es dv => s_call (sEs es)
  | .callK f perm es => s_callK (sEs es)
  | .blt b es => s_blt (sEs es)
  | .nlist e => s_nlist (sE e)
  | .isi a t => s_isi (sE a)
  | .mth m o e => s_mth (sE o) (sE e)
  | .get o e d => s_get (sE o) (sE e) (sE d)
  | .pop o => s_pop (sE o)
  | .litems o => s_litems (sE o)
  | .sitems o => s_sitems (sE o)
  | .fld c o => s_fld (sE o)
  | .prop f c o => s_prop (sE o)
  | .meth f c o es => s_meth (sE o) (sEs es)
  | .sset e => s_sset (sE e)
  | .strO f c o => s_strO (sE o)
  | .lc own tg it cs e => s_lc (sT tg) (sI it) (sEs cs) (sE e)
  | .fstr es => s_fstr (sEs es)
  | .mk g c e => s_mk (sE e)
  | .stuck => s_stuck
theorem sEs : ∀ es : Es, SEs Γ C0 F k es
  | .nil => s_nil
  | .cons e es => s_cons (sE e) (sEs es)
theorem sI : ∀ it : It, SI Γ C0 F k it
  | .seq e => s_seq (sE e)
  | .rng e => s_rng (sE e)
  | .enum e => s_enum (sE e)
  | .items e => s_items
  | .stuck => s_itstuck
theorem sT : ∀ t : Tg, ST Γ C0 F k t
  | .nm i => s_nm
  | .sub o i => s_sub (sE o) (sE i)
  | .tp ts => s_tp (sTs ts)
theorem sTs : ∀ ts : Tgs, STs Γ C0 F k ts
  | .nil => s_tnil
  | .cons t ts => s_tcons (sT t) (sTs ts)
end
end
end DL
set_option linter.all false
set_option maxRecDepth 100000
namespace DL
open PySem PySem.Spec PyProof.Rows L2 LiI
theorem eraseD (x : Str) (ys : List Str) : List.eraseDups (x :: ys) = x :: List.eraseDups (ys.filter fun b => !b == x) := List.eraseDups_cons ..
theorem swap2 {x y : Str} {px py pt pt2 : Pos} {kt k2 : Nat} {a b : Expr} {env : PySem.Env} (hk : env.scope.kind = .function) (hx : env.scope.names.lookup x = some .local) (hy : env.scope.names.lookup y = some .local) (hl : py.line = px.line) (hne : y ≠ x) (h1 : noStar a = true) (h2 : noStar b = true)
    (h3 : ([a, b].all (foldedForSure 8)) = false) (h4 : ([a, b].all (constantsAlone 8)) = false) : swappedStores [.Tuple [.Name x px, .Name y py] kt pt] (.Tuple [a, b] k2 pt2) env = pure (some [x, y]) := by
  have kx : env.kindOf x = some .local := hx
  have ky : env.kindOf y = some .local := hy
  have hb : env.blockKind = .function := by unfold Env.blockKind; rw [hk]; rfl
  have ne : (y == x) = false := beq_eq_false_iff_ne.mpr hne
  unfold swappedStores
  simp only [hb]
  rw [if_neg (by simp; first | rfl | decide | done)]
  rw [if_neg (by cases a <;> first | (cases h1; done) | (cases b <;> first | (cases h2; done) | (simp; done)))]
  rw [if_neg (by simp [kx, ky, hl, Expr.pos, eraseD, ne, List.eraseDups_nil])]
  rw [if_neg (by rw [h3]; decide), if_neg (by rw [h4]; decide)]
  simp [kx, ky, hl, Expr.pos]
theorem swap3 {x y z : Str} {px py pz pt pt2 : Pos} {kt k2 : Nat} {a b c : Expr} {env : PySem.Env} (hk : env.scope.kind = .function) (hx : env.scope.names.lookup x = some .local) (hy : env.scope.names.lookup y = some .local) (hz : env.scope.names.lookup z = some .local) (hl : py.line = px.line) (hl2 : pz.line = px.line) (hne : y ≠ x) (hne2 : z ≠ x) (hne3 : z ≠ y) (h1 : noStar a = true) (h2 : noStar b = true) (h2' : noStar c = true)
    (h3 : ([a, b, c].all (foldedForSure 8)) = false) (h4 : ([a, b, c].all (constantsAlone 8)) = false) : swappedStores [.Tuple [.Name x px, .Name y py, .Name z pz] kt pt] (.Tuple [a, b, c] k2 pt2) env = pure (some [x, y, z]) := by
  have kx : env.kindOf x = some .local := hx
  have ky : env.kindOf y = some .local := hy
  have kz : env.kindOf z = some .local := hz
  have hb : env.blockKind = .function := by unfold Env.blockKind; rw [hk]; rfl
  have ne : (y == x) = false := beq_eq_false_iff_ne.mpr hne
  have ne2 : (z == x) = false := beq_eq_false_iff_ne.mpr hne2
  have ne3 : (z == y) = false := beq_eq_false_iff_ne.mpr hne3
  unfold swappedStores
  simp only [hb]
  rw [if_neg (by simp; first | rfl | decide | done)]
  rw [if_neg (by
    have s1 : ∀ e : Expr, noStar e = true → (match e with | .Starred .. => true | _ => false) = false := by intro e h; cases e <;> first | (cases h; done) | rfl
    simp only [List.any_cons, List.any_nil, Bool.or_false, Bool.or_eq_true, not_or, Bool.not_eq_true]
    exact ⟨s1 a h1, s1 b h2, s1 c h2'⟩)]
  rw [if_neg (by simp [kx, ky, kz, hl, hl2, Expr.pos, eraseD, ne, ne2, ne3, List.eraseDups_nil])]
  rw [if_neg (by rw [h3]; decide), if_neg (by rw [h4]; decide)]
  simp [kx, ky, kz, hl, hl2, Expr.pos]
/-- no swapped stores: the value is no tuple, or its parts are folded, or a target is no name -/
def nolocB (sc : Scope) : Expr → Bool
  | .Name n _ => !(sc.names.lookup n == some .local)
  | _ => true
def unswB (sc : Scope) (t e : Expr) : Bool := match t, e with
  | .Tuple ts _ _, .Tuple vs _ _ => vs.all (foldedForSure 8) || ts.any (nolocB sc)
  | .List _ _, _ => false
  | _, _ => true
theorem unsw {sc : Scope} {t e : Expr} (h : unswB sc t e = true) (env : PySem.Env) (hsc : env.scope = sc) : swappedStores [t] e env = pure none := by
  unfold unswB at h
  split at h
  · rename_i ts kt pt vs k2 pt2
    unfold swappedStores
    simp only
    split
    · rfl
    · split
      · rfl
      · rw [Bool.or_eq_true] at h
        rcases h with h | h
        · split
          · rfl
          · first | rw [if_pos h] | rfl | (split <;> first | rfl | (rename_i z; exact absurd h z))
        · rw [if_pos]
          rw [Bool.or_eq_true]
          left
          rw [bne_iff_ne]
          intro e
          obtain ⟨x, hx, hn⟩ := List.any_eq_true.mp h
          have lt : ∀ (f : Expr → Option Str), f x = none → (ts.filterMap f).length ≠ ts.length := by
            intro f hf hl
            have aux : ∀ l : List Expr, (l.filterMap f).length ≤ l.length ∧ (x ∈ l → (l.filterMap f).length < l.length) := by
              intro l
              induction l with
              | nil => exact ⟨Nat.le_refl _, fun z => by cases z⟩
              | cons y l ih =>
                rw [List.filterMap_cons]
                cases hy : f y with
                | none =>
                  refine ⟨?_, fun _ => ?_⟩
                  · show (l.filterMap f).length ≤ _
                    rw [List.length_cons]; omega
                  · show (l.filterMap f).length < _
                    rw [List.length_cons]; omega
                | some w =>
                  refine ⟨?_, fun hm => ?_⟩
                  · show (w :: l.filterMap f).length ≤ _
                    rw [List.length_cons, List.length_cons]; omega
                  · show (w :: l.filterMap f).length < _
                    rcases List.mem_cons.mp hm with e | hm
                    · subst e; rw [hf] at hy; cases hy
                    · have := ih.2 hm
                      rw [List.length_cons, List.length_cons]; omega
            have := (aux ts).2 hx
            omega
          refine lt _ ?_ e
          cases x with
          | Name n p =>
            have hk : env.kindOf n = env.scope.names.lookup n := rfl
            have : (env.kindOf n == some NameKind.local) = false := by
              rw [hk, hsc]
              simpa [nolocB] using hn
            simp only [this, Bool.false_and, Bool.false_eq_true, if_false]
          | _ => rfl
  · cases h
  · rename_i h1 h2
    unfold swappedStores
    split
    · rename_i heq
      split at heq
      · rename_i e1
        cases e1
        exact (h2 _ _ _ _ _ _ rfl rfl).elim
      · rename_i e1
        cases e1
        exact (h1 _ _ rfl).elim
      · cases heq
    · rfl
end DL
set_option linter.all false
set_option maxRecDepth 100000
set_option maxHeartbeats 4000000
namespace DL
open PySem PySem.Spec PyProof.Rows L2 LiI
def ownLc (sc : Scope) (y : Str) (py pos : Pos) (scope : Scope) : Bool := decide (sc.names.lookup y = some .local) && (py.line == pos.line) && !(scope.names.any fun (n, k) => n == y && (k == .local || k == .cell))
section
variable (Γ : Stat) (sc : Scope)
def chkAsg (t : Tg) (e : E) (tg v : Expr) (sp : Pos) : Bool := match v with
  | .ListComp elt gs scope lp => match tg, t, e with
    | .Name y py, .nm i, .lc own tg' it cs e' => decide (Γ.N[i]? = some y) && ownLc sc y py lp scope && chkE Γ sc false (.lc own tg' it cs e') v
    | _, _, _ => false
  | v => chkTg Γ sc t tg && unswB sc tg v && noComp v && noStar tg && chkE Γ sc false e v
def parB (is : List Nat) (ts vs : List Expr) : Bool := match is, ts with
  | [i, j], [.Name a pa, .Name b pb] => decide (Γ.N[i]? = some a) && decide (Γ.N[j]? = some b) && decide (sc.names.lookup a = some .local) && decide (sc.names.lookup b = some .local) && decide (pb.line = pa.line) && decide (b ≠ a) &&
    decide (vs.length = 2) && vs.all noStar && !(vs.all (foldedForSure 8)) && !(vs.all (constantsAlone 8))
  | [i, j, l], [.Name a pa, .Name b pb, .Name c pc] => decide (Γ.N[i]? = some a) && decide (Γ.N[j]? = some b) && decide (Γ.N[l]? = some c) && decide (sc.names.lookup a = some .local) && decide (sc.names.lookup b = some .local) && decide (sc.names.lookup c = some .local) &&
    decide (pb.line = pa.line) && decide (pc.line = pa.line) && decide (b ≠ a) && decide (c ≠ a) && decide (c ≠ b) && decide (vs.length = 3) && vs.all noStar && !(vs.all (foldedForSure 8)) && !(vs.all (constantsAlone 8))
  | _, _ => false
def augB (op : Bop) (o : Operator) : Bool := match op, o with
  | .add, .Add => true
  | .sub, .Sub => true
  | _, _ => false
def isStuck : S → Bool
  | .stuck => true
  | _ => false
mutual
def chkS : S → Stmt → Bool
  | .asg t e, x => match x with
    | .Assign [tg] v sp => chkAsg Γ sc t e tg v sp
    | _ => false
  | .par is es, x => match x with
    | .Assign [.Tuple ts _ _] (.Tuple vs _ _) _ => parB Γ sc is ts vs && chkEs Γ sc es vs
    | _ => false
  | .aug i op e, x => match x with
    | .AugAssign (.Name n _) o v _ => decide (Γ.N[i]? = some n) && locB sc n && augB op o && chkE Γ sc false e v
    | _ => false
  | .expr e, x => match x with
    | .Expr v _ => noComp v && chkE Γ sc false e v
    | _ => false
  | .app o e, x => match x with
    | .Expr (.Call (.Attribute v name ap) [y] [] p) _ => decide (name = "append") && noSuper v && decide (ap.endLine = p.line) && noStar y && chkE Γ sc false o v && chkE Γ sc false e y
    | _ => false
  | .cut1 _ _, _ => false
  | .setf c o e, x => match x with
    | .Assign [.Attribute v name _] w _ => duo Γ.fds c name && noComp w && chkE Γ sc false o v && chkE Γ sc false e w
    | _ => false
  | .ite c a b, x => match x with
    | .If t p q _ => chkE Γ sc true c t && chkSs a p && chkSs b q
    | _ => false
  | .for_ t it b, x => match x with
    | .For tg iter body [] _ => noSet iter && chkTg Γ sc t tg && chkIt Γ sc it tg iter && chkSs b body
    | _ => false
  | .forC _ _ _, _ => false
  | .whil n c b, x => match x with
    | .While t body [] _ => chkE Γ sc true c t && chkSs b body
    | _ => false
  | .ret e, x => match x with
    | .Return (some v) _ => chkE Γ sc false e v
    | _ => false
  | .retN, x => match x with
    | .Return none _ => true
    | _ => false
  | .brk, x => match x with
    | .Break _ => true
    | _ => false
  | .cont, x => match x with
    | .Continue _ => true
    | _ => false
  | .pass, x => match x with
    | .Pass _ => true
    | _ => false
  | .stuck, _ => true
def chkSs : Ss → List Stmt → Bool
  | .nil, xs => xs.isEmpty
  | .cons s ss, xs => match xs with
    | y :: ys => isStuck s || (chkS s y && chkSs ss ys)
    | [] => isStuck s
end
end
structure SxOk (Γ : Stat) (C : Cls') (F : Fn) (k : Nat) (sc : Scope) (X : Cx) : Prop extends CxOk Γ C F k sc X where
  hsc : X.env.scope = sc
  kind : X.env.scope.kind = .function
/-- what is wanted of an outcome -/
def Post (C : Cls') (D : Ends) (ι : List Addr) (H : Hp) (o : O) (m' : Mem) : Prop := match o with
  | .nx ρ => ∀ ι' H' σ', DL.Ext ι ι' H H' → StM C ι' H' m' → EnvR C ι' H' ρ σ' → D.nx σ' H'
  | .brk ρ => ∀ ι' H' σ', DL.Ext ι ι' H H' → StM C ι' H' m' → EnvR C ι' H' ρ σ' → D.bk σ' H'
  | .ct ρ => ∀ ι' H' σ', DL.Ext ι ι' H H' → StM C ι' H' m' → EnvR C ι' H' ρ σ' → D.ct σ' H'
  | .ret u => ∀ ι' H' v, DL.Ext ι ι' H H' → StM C ι' H' m' → RepU C ι' H' u v → D.rt v H'
theorem Post.ext {C : Cls'} {D : Ends} {ι ι1 : List Addr} {H H1 : Hp} {o : O} {m' : Mem} (e : DL.Ext ι ι1 H H1) (h : Post C D ι H o m') : Post C D ι1 H1 o m' := by
  cases o with
  | nx ρ => exact fun ι' H' σ' a b c => h ι' H' σ' (e.trans a) b c
  | brk ρ => exact fun ι' H' σ' a b c => h ι' H' σ' (e.trans a) b c
  | ct ρ => exact fun ι' H' σ' a b c => h ι' H' σ' (e.trans a) b c
  | ret u => exact fun ι' H' σ' a b c => h ι' H' σ' (e.trans a) b c
def tS (C0 : Cls') (F : Fn) (s : S) : TS := fun D σ H => ∃ l ι ρ m o m', EnvR (C0.b l) ι H ρ σ ∧ StM (C0.b l) ι H m ∧ exS F s ρ m = .ok o m' ∧ Post (C0.b l) D ι H o m'
def tSs (C0 : Cls') (F : Fn) (s : Ss) : TS := fun D σ H => ∃ l ι ρ m o m', EnvR (C0.b l) ι H ρ σ ∧ StM (C0.b l) ι H m ∧ exSs F s ρ m = .ok o m' ∧ Post (C0.b l) D ι H o m'
theorem ps_imp {X : Cx} {x : Stmt} {t t' : TS} (h : PS X x t) (i : ∀ D σ H, t' D σ H → t D σ H) : PS X x t' := ⟨fun pins s σ H D I q => h.run pins s σ H D I (i D σ H q)⟩
theorem pss_imp {X : Cx} {x : List Stmt} {t t' : TS} (h : PSs X x t) (i : ∀ D σ H, t' D σ H → t D σ H) : PSs X x t' := ⟨fun pins s σ H D I q => h.run pins s σ H D I (i D σ H q)⟩
section
variable {C0 : Cls'} {F : Fn} {D : Ends} {σ : L2.St} {H : Hp}
theorem im_asg {t : Tg} {e : E} (h : tS C0 F (.asg t e) D σ H) : tAsg (tE C0 F e) (tG C0 F t) D σ H := by
  obtain ⟨l, ι, ρ, m, o, m', he, hs, hev, q⟩ := h
  simp only [exS] at hev
  obtain ⟨x, m1, h1, hev⟩ := R.bind_inv hev
  obtain ⟨ρ1, m2, h2, hev⟩ := R.bind_inv hev
  cases hev
  exact ⟨l, ι, ρ, m, x, m1, he, hs, h1, fun ι1 H1 v e1 s1 r1 => ⟨l, ι1, ρ, m1, x, ρ1, _, he.ext e1, s1, r1, h2, fun ι2 H2 σ2 e2 s2 r2 _ => q ι2 H2 σ2 (e1.trans e2) s2 r2⟩⟩
theorem reps2 {C : Cls'} {ι : List Addr} {us : List U} {vs : List V} (h : RepUs C ι H us vs) (hl : us.length = 2) : ∃ u v a b, us = [u, v] ∧ vs = [a, b] ∧ RepU C ι H u a ∧ RepU C ι H v b := by
  match us, hl with
  | [u, v], _ =>
    obtain ⟨a, ws, rfl, r1, b, zs, rfl, r2, rfl⟩ := h
    exact ⟨u, v, a, b, rfl, rfl, r1, r2⟩
theorem reps3 {C : Cls'} {ι : List Addr} {us : List U} {vs : List V} (h : RepUs C ι H us vs) (hl : us.length = 3) : ∃ u v w a b c, us = [u, v, w] ∧ vs = [a, b, c] ∧ RepU C ι H u a ∧ RepU C ι H v b ∧ RepU C ι H w c := by
  match us, hl with
  | [u, v, w], _ =>
    obtain ⟨a, ws, rfl, r1, b, zs, rfl, r2, c, ys, rfl, r3, rfl⟩ := h
    exact ⟨u, v, w, a, b, c, rfl, rfl, r1, r2, r3⟩
theorem im_par2 {i j : Nat} {es : Es} (hl : ∀ us ρ m m', evEs F es ρ m = .ok us m' → us.length = 2) (h : tS C0 F (.par [i, j] es) D σ H) : tPar i j (tA C0 F es) D σ H := by
  obtain ⟨l, ι, ρ, m, o, m', he, hs, hev, q⟩ := h
  simp only [exS] at hev
  obtain ⟨us, m1, h1, hev⟩ := R.bind_inv hev
  have hl2 := hl _ _ _ _ h1
  refine ⟨l, ι, ρ, m, us, m1, he, hs, h1, fun ι1 H1 vs e1 s1 r1 => ?_⟩
  obtain ⟨u, v, a, b, rfl, rfl, ra, rb⟩ := reps2 r1 hl2
  simp only [setAll] at hev
  cases hev
  exact ⟨a, b, rfl, q ι1 H1 _ e1 s1 (((he.ext e1).set ra).set rb)⟩
theorem im_par3 {i j k : Nat} {es : Es} (hl : ∀ us ρ m m', evEs F es ρ m = .ok us m' → us.length = 3) (h : tS C0 F (.par [i, j, k] es) D σ H) : tPar3 i j k (tA C0 F es) D σ H := by
  obtain ⟨l, ι, ρ, m, o, m', he, hs, hev, q⟩ := h
  simp only [exS] at hev
  obtain ⟨us, m1, h1, hev⟩ := R.bind_inv hev
  have hl2 := hl _ _ _ _ h1
  refine ⟨l, ι, ρ, m, us, m1, he, hs, h1, fun ι1 H1 vs e1 s1 r1 => ?_⟩
  obtain ⟨u, v, w, a, b, c, rfl, rfl, ra, rb, rc⟩ := reps3 r1 hl2
  simp only [setAll] at hev
  cases hev
  exact ⟨a, b, c, rfl, q ι1 H1 _ e1 s1 ((((he.ext e1).set ra).set rb).set rc)⟩
theorem im_aug {i : Nat} {op : Bop} {e : E} (h : tS C0 F (.aug i op e) D σ H) : (op = .add ∧ tAug i (tE C0 F e) (ipI fun i j => i + j) D σ H) ∨ (op = .sub ∧ tAug i (tE C0 F e) (ipI fun i j => i - j) D σ H) := by
  obtain ⟨l, ι, ρ, m, o, m', he, hs, hev, q⟩ := h
  simp only [exS] at hev
  split at hev
  · rename_i x hx
    obtain ⟨y, m1, h1, hev⟩ := R.bind_inv hev
    obtain ⟨v, h2, h3⟩ := he.2 i _ hx
    split at hev
    · rename_i a b
      cases hev
      cases h3
      exact .inl ⟨rfl, _, h2, l, ι, ρ, m, _, _, he, hs, h1, fun ι1 H1 w e1 s1 r1 => ⟨_, _, rfl, r1, q ι1 H1 _ e1 s1 ((he.ext e1).set rfl)⟩⟩
    · rename_i a b
      cases hev
      cases h3
      exact .inr ⟨rfl, _, h2, l, ι, ρ, m, _, _, he, hs, h1, fun ι1 H1 w e1 s1 r1 => ⟨_, _, rfl, r1, q ι1 H1 _ e1 s1 ((he.ext e1).set rfl)⟩⟩
    · cases hev
  · cases hev
theorem im_expr {e : E} (h : tS C0 F (.expr e) D σ H) : tDrop (tE C0 F e) D σ H := by
  obtain ⟨l, ι, ρ, m, o, m', he, hs, hev, q⟩ := h
  simp only [exS] at hev
  obtain ⟨x, m1, h1, hev⟩ := R.bind_inv hev
  cases hev
  exact ⟨l, ι, ρ, m, x, _, he, hs, h1, fun ι1 H1 v e1 s1 r1 => q ι1 H1 σ e1 s1 (he.ext e1)⟩
theorem im_app {K : PySem.W.Frag} {o e : E} (h : tS C0 F (.app o e) D σ H) : tDrop (tBM K "list" (fun x xs H Q => ∃ l, rAppD (C0.b l) x xs H Q) (tE C0 F o) (tCons (tE C0 F e) tNil)) D σ H := by
  obtain ⟨l, ι, ρ, m, oo, m', he, hs, hev, q⟩ := h
  simp only [exS] at hev
  obtain ⟨x, m1, h1, hev⟩ := R.bind_inv hev
  split at hev
  case isFalse => cases hev
  rename_i hl
  obtain ⟨y, m2, h2, hev⟩ := R.bind_inv hev
  split at hev
  · rename_i m3 h3
    cases hev
    refine ⟨l, ι, ρ, m, x, m1, he, hs, h1, fun ι1 H1 v e1 s1 r1 => ⟨?_, l, ι1, ρ, m1, y, m2, he.ext e1, s1, h2, fun ι2 H2 w e2 s2 r2 => ⟨l, ι2, m2, x, y, w, _, s2, r1.ext e2, rfl, r2, h3, fun H' e3 s3 => ?_⟩⟩⟩
    · cases x with
      | d z => cases hl
      | cell n =>
        simp only [lstU] at hl
        split at hl
        · rename_i xs hm
          obtain ⟨p, hp, rfl⟩ := r1
          obtain ⟨p', ho, h4, h5, ws, rfl, rv⟩ := s1.at_ n _ hm
          rw [hp] at h4; cases h4
          exact Or.inl ⟨rfl, _, SqL.of h5⟩
        · cases hl
    · exact q ι2 H' σ ((e1.trans e2).trans e3) s3 (((he.ext e1).ext e2).ext e3)
  · cases hev
theorem im_setf {K : PySem.W.Frag} {c : Nat} {x : Str} {o e : E} (hc : Cls K (C0.at_ c)) (hn : NoAttr K (C0.at_ c) x) (hx : C0.fn c = x) (h : tS C0 F (.setf c o e) D σ H) : sFld K (tE C0 F o) (tE C0 F e) x D σ H := by
  obtain ⟨l, ι, ρ, m, oo, m', he, hs, hev, q⟩ := h
  simp only [exS] at hev
  obtain ⟨u, m1, h1, hev⟩ := R.bind_inv hev
  obtain ⟨y, m2, h2, hev⟩ := R.bind_inv hev
  refine ⟨l, ι, ρ, m, u, m1, he, hs, h1, fun ι1 H1 v e1 s1 r1 => ⟨l, ι1, ρ, m1, y, m2, he.ext e1, s1, h2, fun ι2 H2 w e2 s2 r2 => ?_⟩⟩
  cases u with
  | cell _ => cases hev
  | d d =>
  cases y with
  | d _ => cases hev
  | cell n =>
  have hev : (match m2[n]? with | some (.ins c' _) => if c' = c then (R.ok (.nx ρ) (m2.set n (.ins c (some d))) : R O) else .no | _ => .no) = .ok oo m' := hev
  split at hev
  case h_2 => cases hev
  rename_i c' z hm
  split at hev
  case isFalse => cases hev
  rename_i hcc
  subst hcc
  cases hev
  obtain ⟨a, g1, rfl⟩ := r2
  obtain ⟨b, ho, k1, k2, dx, fs, k3, k4⟩ := s2.at_ _ _ hm
  rw [g1] at k1; cases k1
  subst k3
  have rd : RepD (C0.b l) ι2 H2 d v := RepD.ext e2 r1
  have pf : fs.length < 1000 ∧ putF x v fs = [(x, v)] := by
    cases z with
    | none => rw [show fs = [] from k4]; exact ⟨by decide, rfl⟩
    | some z' =>
      obtain ⟨v', e', _⟩ := k4
      rw [e', show (C0.b l).fn c' = x from hx]
      exact ⟨by simp, by simp [putF]⟩
  refine ⟨a, _, dx, fs, rfl, k2, hc, hn, pf.1, ?_⟩
  rw [pf.2]
  have s3 := s2.write (o := .ins (C0.at_ c') dx [(x, v)]) (ob := .ins c' (some d)) g1 ⟨dx, _, rfl, v, by rw [show (C0.b l).fn c' = x from hx], rd⟩
  have e3 : DL.Ext ι2 ι2 H2 (upd H2 a (.ins (C0.at_ c') dx [(x, v)])) := Ext.write (List.mem_of_getElem? g1)
  exact q ι2 _ σ ((e1.trans e2).trans e3) s3 (((he.ext e1).ext e2).ext e3)
theorem asB_inv {u : U} {k : Bool} {m m' : Mem} (h : ofO (asB u) m = .ok k m') : u = .d (.bl k) ∧ m' = m := by
  obtain ⟨h1, h2⟩ := ofO_inv h
  unfold asB at h1
  split at h1
  · cases h1; exact ⟨rfl, h2⟩
  · cases h1
theorem im_if {c : E} {a b : Ss} (h : tS C0 F (.ite c a b) D σ H) : tIfS (tT C0 F c) (tSs C0 F a) (tSs C0 F b) D σ H := by
  obtain ⟨l, ι, ρ, m, o, m', he, hs, hev, q⟩ := h
  simp only [exS, evB] at hev
  obtain ⟨k, m1, h1, hev⟩ := R.bind_inv hev
  obtain ⟨u, m0, h0, h1⟩ := R.bind_inv h1
  obtain ⟨rfl, rfl⟩ := asB_inv h1
  refine ⟨l, ι, ρ, m, k, _, he, hs, h0, fun ι1 H1 e1 s1 => ?_⟩
  cases k with
  | true => exact iteT ⟨l, ι1, ρ, _, o, m', he.ext e1, s1, hev, q.ext e1⟩
  | false => exact iteF ⟨l, ι1, ρ, _, o, m', he.ext e1, s1, hev, q.ext e1⟩
theorem im_ret {e : E} (h : tS C0 F (.ret e) D σ H) : tRet (tE C0 F e) D σ H := by
  obtain ⟨l, ι, ρ, m, o, m', he, hs, hev, q⟩ := h
  simp only [exS] at hev
  obtain ⟨x, m1, h1, hev⟩ := R.bind_inv hev
  cases hev
  exact ⟨l, ι, ρ, m, x, _, he, hs, h1, fun ι1 H1 v e1 s1 r1 => q ι1 H1 v e1 s1 r1⟩
theorem im_retN (h : tS C0 F .retN D σ H) : tRetN D σ H := by
  obtain ⟨l, ι, ρ, m, o, m', he, hs, hev, q⟩ := h
  simp only [exS] at hev
  cases hev
  exact q ι H .non Ext.refl hs rfl
theorem im_brk (h : tS C0 F .brk D σ H) : tBreak D σ H := by
  obtain ⟨l, ι, ρ, m, o, m', he, hs, hev, q⟩ := h
  simp only [exS] at hev
  cases hev
  exact q ι H σ Ext.refl hs he
theorem im_cont (h : tS C0 F .cont D σ H) : tCont D σ H := by
  obtain ⟨l, ι, ρ, m, o, m', he, hs, hev, q⟩ := h
  simp only [exS] at hev
  cases hev
  exact q ι H σ Ext.refl hs he
theorem im_pass (h : tS C0 F .pass D σ H) : tNext D σ H := by
  obtain ⟨l, ι, ρ, m, o, m', he, hs, hev, q⟩ := h
  simp only [exS] at hev
  cases hev
  exact q ι H σ Ext.refl hs he
theorem im_snil (h : tSs C0 F .nil D σ H) : tNext D σ H := by
  obtain ⟨l, ι, ρ, m, o, m', he, hs, hev, q⟩ := h
  simp only [exSs] at hev
  cases hev
  exact q ι H σ Ext.refl hs he
theorem im_scons {s : S} {ss : Ss} (h : tSs C0 F (.cons s ss) D σ H) : tSeq (tS C0 F s) (tSs C0 F ss) D σ H := by
  obtain ⟨l, ι, ρ, m, o, m', he, hs, hev, q⟩ := h
  simp only [exSs] at hev
  obtain ⟨o1, m1, h1, hev⟩ := R.bind_inv hev
  refine ⟨l, ι, ρ, m, o1, m1, he, hs, h1, ?_⟩
  cases o1 with
  | nx ρ1 => exact fun ι1 H1 σ1 e1 s1 r1 => ⟨l, ι1, ρ1, m1, o, m', r1, s1, hev, q.ext e1⟩
  | brk ρ1 => cases hev; exact q
  | ct ρ1 => cases hev; exact q
  | ret u => cases hev; exact q
theorem forL_cons {g : Option Nat} {m0 : Mem} {b : U → Env → Mem → R O} {x : U} {xs : List U} {ρ : Env} {m : Mem} {o : O} {m' : Mem} (h : forL g m0 b (x :: xs) ρ m = .ok o m') :
    ∃ o1 m1, b x ρ m = .ok o1 m1 ∧ ((∃ ρ1, (o1 = .nx ρ1 ∨ o1 = .ct ρ1) ∧ okG g m0 m1 = true ∧ forL g m0 b xs ρ1 m1 = .ok o m') ∨ (∃ ρ1, o1 = .brk ρ1 ∧ o = .nx ρ1 ∧ m' = m1) ∨ ∃ u, o1 = .ret u ∧ o = .ret u ∧ m' = m1) := by
  simp only [forL] at h
  obtain ⟨o1, m1, h1, h⟩ := R.bind_inv h
  refine ⟨o1, m1, h1, ?_⟩
  cases o1 with
  | nx ρ1 =>
    simp only at h
    split at h
    · rename_i hg; exact .inl ⟨ρ1, .inl rfl, hg, h⟩
    · cases h
  | ct ρ1 =>
    simp only at h
    split at h
    · rename_i hg; exact .inl ⟨ρ1, .inr rfl, hg, h⟩
    · cases h
  | brk ρ1 => cases h; exact .inr (.inl ⟨ρ1, rfl, rfl, rfl⟩)
  | ret u => cases h; exact .inr (.inr ⟨u, rfl, rfl, rfl⟩)
def forB (F : Fn) (t : Tg) (b : Ss) : U → Env → Mem → R O := fun u ρ1 m2 => (assT F t u ρ1 m2).bind fun ρ2 m3 => exSs F b ρ2 m3
theorem im_for {t : Tg} {it : It} {b : Ss} (h : tS C0 F (.for_ t it b) D σ H) : tFor (tI C0 F it) (tG C0 F t) (tSs C0 F b) D σ H := by
  obtain ⟨l, ι, ρ, m, o, m', he, hs, hev, q⟩ := h
  simp only [exS] at hev
  obtain ⟨p, m1, h1, hev⟩ := R.bind_inv hev
  have hev' : forL p.2 m1 (forB F t b) (p.1.map .d) ρ m1 = .ok o m' := hev
  refine ⟨l, ι, ρ, m, p, m1, he, hs, h1, fun ι1 H1 J e1 s1 hz w => ?_⟩
  refine ⟨fun i n σ2 H2 => n = p.1.length - i ∧ i ≤ p.1.length ∧ ∃ ι2 ρ2 m2, DL.Ext ι1 ι2 H1 H2 ∧ StM (C0.b l) ι2 H2 m2 ∧ EnvR (C0.b l) ι2 H2 ρ2 σ2 ∧ Same p.2 m1 m2 ∧ forL p.2 m1 (forB F t b) ((p.1.drop i).map .d) ρ2 m2 = .ok o m',
    ⟨p.1.length, by simp, Nat.zero_le _, ι1, ρ, m1, Ext.refl, s1, he.ext e1, fun _ _ => rfl, by rw [List.drop_zero]; exact hev'⟩, ?_⟩
  rintro i n σ2 H2 ⟨rfl, hle, ι2, ρ2, m2, ex, s2, env2, sm, hr⟩
  by_cases hi : i < p.1.length
  · right
    obtain ⟨go, yl⟩ := w.go _ _ _ _ (Mv.ext ex) s2 sm i hi
    refine ⟨go, fun σ3 H3 => i + 1 ≤ p.1.length ∧ ∃ ι2 ρ2 m2, DL.Ext ι1 ι2 H1 H3 ∧ StM (C0.b l) ι2 H3 m2 ∧ EnvR (C0.b l) ι2 H3 ρ2 σ3 ∧ Same p.2 m1 m2 ∧ forL p.2 m1 (forB F t b) ((p.1.drop (i + 1)).map .d) ρ2 m2 = .ok o m', fun σ3 H3 hw => ⟨p.1.length - (i + 1), by omega, rfl, hw⟩, fun x H' hy => ?_⟩
    obtain ⟨e2, s2', d, hd, rd⟩ := yl x H' hy
    have hdrop : p.1.drop i = d :: p.1.drop (i + 1) := by
      rw [List.drop_eq_getElem_cons hi]
      congr 1
      rw [List.getElem?_eq_getElem hi] at hd
      exact Option.some.inj hd
    rw [hdrop, List.map_cons] at hr
    obtain ⟨o1, m3, hb, hr⟩ := forL_cons hr
    unfold forB at hb
    obtain ⟨ρ3, m2a, ha, hb⟩ := R.bind_inv hb
    refine ⟨l, ι2, ρ2, m2, .d d, ρ3, m2a, env2.ext e2, s2', rd, ha, fun ι3 H3 σ3 e3 s3 env3 _ => ⟨l, ι3, ρ3, m2a, o1, m3, env3, s3, hb, ?_⟩⟩
    have e13 : DL.Ext ι1 ι3 H1 H3 := (ex.trans e2).trans e3
    rcases hr with ⟨ρ4, ho, hg, hr⟩ | ⟨ρ4, ho, rfl, rfl⟩ | ⟨u, ho, rfl, rfl⟩
    · rcases ho with rfl | rfl
      · exact fun ι4 H4 σ4 e4 s4 r4 => ⟨hi, ι4, ρ4, m3, e13.trans e4, s4, r4, same_of hg, hr⟩
      · exact fun ι4 H4 σ4 e4 s4 r4 => ⟨hi, ι4, ρ4, m3, e13.trans e4, s4, r4, same_of hg, hr⟩
    · subst ho
      exact fun ι4 H4 σ4 e4 s4 r4 => q ι4 H4 σ4 ((e1.trans e13).trans e4) s4 r4
    · subst ho
      exact fun ι4 H4 v e4 s4 r4 => q ι4 H4 v ((e1.trans e13).trans e4) s4 r4
  · left
    have e0 : i = p.1.length := by omega
    rw [e0, List.drop_length] at hr
    simp only [List.map_nil, forL] at hr
    cases hr
    exact ⟨w.stop _ _ _ _ (Mv.ext ex) s2 sm i (by omega), q ι2 H2 σ2 (e1.trans ex) s2 env2⟩
theorem im_while {n : Nat} {c : E} {b : Ss} (h : tS C0 F (.whil n c b) D σ H) : tWhile (tT C0 F c) (tSs C0 F b) D σ H := by
  obtain ⟨l, ι, ρ, m, o, m', he, hs, hev, q⟩ := h
  simp only [exS] at hev
  refine ⟨fun n σ2 H2 => ∃ ι2 ρ2 m2, DL.Ext ι ι2 H H2 ∧ StM (C0.b l) ι2 H2 m2 ∧ EnvR (C0.b l) ι2 H2 ρ2 σ2 ∧ whilL (fun ρ m => evB F c ρ m) (fun ρ m => exSs F b ρ m) n ρ2 m2 = .ok o m', ⟨n, ι, ρ, m, Ext.refl, hs, he, hev⟩, ?_⟩
  rintro n σ2 H2 ⟨ι2, ρ2, m2, ex, s2, env2, hr⟩
  cases n with
  | zero => simp only [whilL] at hr; cases hr
  | succ n =>
    simp only [whilL, evB] at hr
    obtain ⟨k, m3, h1, hr⟩ := R.bind_inv hr
    obtain ⟨u, m0, h0, h1⟩ := R.bind_inv h1
    obtain ⟨rfl, rfl⟩ := asB_inv h1
    refine ⟨l, ι2, ρ2, m2, k, _, env2, s2, h0, fun ι3 H3 e3 s3 => ?_⟩
    cases k with
    | false =>
      cases hr
      exact iteF (q ι3 H3 σ2 (ex.trans e3) s3 (env2.ext e3))
    | true =>
      simp only at hr
      obtain ⟨o1, m4, hb, hr⟩ := R.bind_inv hr
      refine iteT ⟨fun σ4 H4 => ∃ ι2 ρ2 m2, DL.Ext ι ι2 H H4 ∧ StM (C0.b l) ι2 H4 m2 ∧ EnvR (C0.b l) ι2 H4 ρ2 σ4 ∧ whilL (fun ρ m => evB F c ρ m) (fun ρ m => exSs F b ρ m) n ρ2 m2 = .ok o m', fun σ4 H4 hw => ⟨n, Nat.lt_succ_self n, hw⟩, l, ι3, ρ2, _, o1, m4, env2.ext e3, s3, hb, ?_⟩
      cases o1 with
      | nx ρ4 => exact fun ι4 H4 σ4 e4 s4 r4 => ⟨ι4, ρ4, m4, (ex.trans e3).trans e4, s4, r4, hr⟩
      | ct ρ4 => exact fun ι4 H4 σ4 e4 s4 r4 => ⟨ι4, ρ4, m4, (ex.trans e3).trans e4, s4, r4, hr⟩
      | brk ρ4 => cases hr; exact fun ι4 H4 σ4 e4 s4 r4 => q ι4 H4 σ4 ((ex.trans e3).trans e4) s4 r4
      | ret u => cases hr; exact fun ι4 H4 v e4 s4 r4 => q ι4 H4 v ((ex.trans e3).trans e4) s4 r4
end
end DL
set_option linter.all false
set_option maxRecDepth 100000
set_option maxHeartbeats 4000000
namespace DL
open PySem PySem.Spec PyProof.Rows L2 LiI
section
variable {Γ : Stat} {C0 : Cls'} {F : Fn} {k : Nat}
def SS (Γ : Stat) (C0 : Cls') (F : Fn) (k : Nat) (s : S) : Prop := ∀ {sc : Scope} {X : Cx}, SxOk Γ C0 F k sc X → ∀ x : Stmt, chkS Γ sc s x = true → PS X x (tS C0 F s)
def SSs (Γ : Stat) (C0 : Cls') (F : Fn) (k : Nat) (s : Ss) : Prop := ∀ {sc : Scope} {X : Cx}, SxOk Γ C0 F k sc X → ∀ x : List Stmt, chkSs Γ sc s x = true → PSs X x (tSs C0 F s)
theorem passes {X : Cx} {sc : Scope} (ok : SxOk Γ C0 F k sc X) : PassesOwn (model X.prog X.w) X.A X.env X.xe := by
  rw [ok.xe]; exact PassesOwn.never
theorem locL {X : Cx} {sc : Scope} (ok : SxOk Γ C0 F k sc X) {x : Str} (h : sc.names.lookup x = some .local) : X.env.scope.names.lookup x = some .local := by rw [ok.hsc]; exact h
theorem ss_asg {t : Tg} {e : E} : SS Γ C0 F k (.asg t e) := fun {sc X} ok x h => by
  simp only [chkS] at h
  split at h
  case h_2 => cases h
  rename_i tg v sp
  unfold chkAsg at h
  split at h
  · rename_i elt gs scope lp
    split at h
    case h_2 => cases h
    rename_i y py i own tg' it cs e'
    simp only [Bool.and_eq_true, decide_eq_true_eq] at h
    obtain ⟨⟨hi, ho⟩, hc⟩ := h
    unfold ownLc at ho
    simp only [Bool.and_eq_true, decide_eq_true_eq, Bool.not_eq_true'] at ho
    obtain ⟨⟨h1, h2⟩, h3⟩ := ho
    simp only [chkE] at hc
    · split at hc
      case h_2 => cases hc
      rename_i elt' t' iter ifs scope' pos' heq
      simp only [Bool.and_eq_true] at hc
      obtain ⟨⟨⟨⟨⟨⟨g1, g2⟩, g3⟩, g4⟩, g5⟩, g6⟩, g7⟩ := hc
      cases heq
      have hN : X.N[i]? = some y := by rw [ok.hN]; exact hi
      have pl := ps_setLc (pos := lp) (spos := sp) (py := py) ok.calm ok.nd hN (locL ok h1) (sw_true ok.kind (locL ok h1) h2 h3) (sI it ok.toCxOk _ _ g5) (blkOk_of ok.toCxOk g2) (fun s H Ca cl fp => sT tg' (ok.toCxOk.blk s H Ca cl fp) _ g4) (fun s H Ca cl fp => (sEs cs (ok.toCxOk.blk s H Ca cl fp)).2.2.1 _ g6) (fun s H Ca cl fp => (sE e' (ok.toCxOk.blk s H Ca cl fp) _).1 g7) (fun x => folded_of g1 _ x)
      rw [ownB_map] at pl
      refine ps_imp pl fun D σ H q => ?_
      have q1 := im_asg q
      refine im_lc g3 (tE_mono q1 fun x H1 z => ?_)
      exact im_nm z
  · simp only [Bool.and_eq_true] at h
    obtain ⟨⟨⟨⟨h1, h2⟩, h3⟩, h4⟩, h5⟩ := h
    by_cases hn : ∃ y py, tg = .Name y py
    · obtain ⟨y, py, rfl⟩ := hn
      cases t with
      | nm i =>
        simp only [chkTg, Bool.and_eq_true, decide_eq_true_eq] at h1
        refine ps_imp (ps_set ok.nd (by rw [ok.hN]; exact h1.1) (ok.loc _ h1.2).1 ((sE e ok.toCxOk _).1 h5) (swaps_of h3 _ _ _) (ok.loc _ h1.2).2) fun D σ H q => ?_
        exact tE_mono (im_asg q) fun x H1 z => im_nm z
      | sub o i => simp only [chkTg] at h1; cases h1
      | tp ts => simp only [chkTg] at h1; cases h1
    · refine ps_imp (ps_asg ((sE e ok.toCxOk _).1 h5) (sT t ok.toCxOk _ h1) (swaps_of h3 _ _ _) (unsw h2 _ ok.hsc) (asg_cons h4 _ _)) fun D σ H q => im_asg q
theorem nodup_ix {N : List Str} (nd : N.Nodup) {i j : Nat} {a b : Str} (hi : N[i]? = some a) (hj : N[j]? = some b) (h : b ≠ a) : i ≠ j := by
  rintro rfl
  rw [hi] at hj
  exact h (Option.some.inj hj).symm
theorem ss_par {is : List Nat} {es : Es} : SS Γ C0 F k (.par is es) := fun {sc X} ok x h => by
  simp only [chkS] at h
  split at h
  case h_2 => cases h
  rename_i ts kt pt vs k2 pt2 sp
  simp only [Bool.and_eq_true] at h
  obtain ⟨h1, h2⟩ := h
  unfold parB at h1
  split at h1
  · rename_i i j a pa b pb
    simp only [Bool.and_eq_true, decide_eq_true_eq, Bool.not_eq_true'] at h1
    obtain ⟨⟨⟨⟨⟨⟨⟨⟨⟨g1, g2⟩, g3⟩, g4⟩, g5⟩, g6⟩, g7⟩, g8⟩, g9⟩, g10⟩ := h1
    match vs, g7 with
    | [u, v], _ =>
      simp only [List.all_cons, List.all_nil, Bool.and_true, Bool.and_eq_true] at g8
      have hi : X.N[i]? = some a := by rw [ok.hN]; exact g1
      have hj : X.N[j]? = some b := by rw [ok.hN]; exact g2
      exact ps_imp (ps_par ok.calm ok.nd hi hj (nodup_ix ok.nd hi hj g6) (locL ok g3) (locL ok g4) ((sEs es ok.toCxOk).1 _ h2) (swap2 ok.kind (locL ok g3) (locL ok g4) g5 g6 g8.1 g8.2 g9 g10) rfl) fun D σ H q => im_par2 (fun us ρ m m' hev => evEs_len F es _ sc Γ h2 us ρ m m' hev) q
  · rename_i i j l a pa b pb c pc
    simp only [Bool.and_eq_true, decide_eq_true_eq, Bool.not_eq_true'] at h1
    obtain ⟨⟨⟨⟨⟨⟨⟨⟨⟨⟨⟨⟨⟨⟨g1, g2⟩, g2'⟩, g3⟩, g4⟩, g4'⟩, g5⟩, g5'⟩, g6⟩, g6'⟩, g6''⟩, g7⟩, g8⟩, g9⟩, g10⟩ := h1
    match vs, g7 with
    | [u, v, w], _ =>
      simp only [List.all_cons, List.all_nil, Bool.and_true, Bool.and_eq_true] at g8
      have hi : X.N[i]? = some a := by rw [ok.hN]; exact g1
      have hj : X.N[j]? = some b := by rw [ok.hN]; exact g2
      have hl : X.N[l]? = some c := by rw [ok.hN]; exact g2'
      exact ps_imp (ps_par3 ok.calm ok.nd hi hj hl (nodup_ix ok.nd hi hj g6) (nodup_ix ok.nd hi hl g6') (nodup_ix ok.nd hj hl g6'') (locL ok g3) (locL ok g4) (locL ok g4') ((sEs es ok.toCxOk).1 _ h2) (swap3 ok.kind (locL ok g3) (locL ok g4) (locL ok g4') g5 g5' g6 g6' g6'' g8.1 g8.2.1 g8.2.2 g9 g10) rfl) fun D σ H q => im_par3 (fun us ρ m m' hev => evEs_len F es _ sc Γ h2 us ρ m m' hev) q
  · cases h1
theorem ss_aug {i : Nat} {op : Bop} {e : E} : SS Γ C0 F k (.aug i op e) := fun {sc X} ok x h => by
  simp only [chkS] at h
  split at h
  case h_2 => cases h
  rename_i n _ _ _ _
  simp only [Bool.and_eq_true, decide_eq_true_eq] at h
  obtain ⟨⟨⟨h1, h2⟩, h3⟩, h4⟩ := h
  have hi : X.N[i]? = some n := by rw [ok.hN]; exact h1
  unfold augB at h3
  split at h3
  · refine ps_imp (ps_aug ok.nd hi (ok.loc _ h2).1 ((sE e ok.toCxOk _).1 h4) ip_add (ok.loc _ h2).2) fun D σ H q => ?_
    rcases im_aug q with ⟨_, z⟩ | ⟨z, _⟩
    · exact z
    · cases z
  · refine ps_imp (ps_aug ok.nd hi (ok.loc _ h2).1 ((sE e ok.toCxOk _).1 h4) ip_sub (ok.loc _ h2).2) fun D σ H q => ?_
    rcases im_aug q with ⟨z, _⟩ | ⟨_, z⟩
    · cases z
    · exact z
  · cases h3
theorem ss_expr {e : E} : SS Γ C0 F k (.expr e) := fun {sc X} ok x h => by
  simp only [chkS] at h
  split at h
  case h_2 => cases h
  simp only [Bool.and_eq_true] at h
  exact ps_imp (ps_expr ((sE e ok.toCxOk _).1 h.2) (swaps_of h.1 _ _ _)) fun D σ H q => im_expr q
theorem ss_app {o e : E} : SS Γ C0 F k (.app o e) := fun {sc X} ok x h => by
  simp only [chkS] at h
  split at h
  case h_2 => cases h
  simp only [Bool.and_eq_true, decide_eq_true_eq] at h
  obtain ⟨⟨⟨⟨⟨rfl, h2⟩, h3⟩, h4⟩, h5⟩, h6⟩ := h
  exact ps_imp (ps_expr (pe_bm PySem.F.plainAttrs_list PySem.F.slot_list_append PySem.F.type_list_append (mtR_ex fun C => mt_appD C) ((sE o ok.toCxOk _).1 h5) (pa_cons ((sE e ok.toCxOk _).1 h6) pa_nil (star1 h4 _ _)) (base_of h2 _ _ _) (by rw [star1 h4]; rfl) (by rw [h3]; exact beq_self_eq_true _) (star1 h4 _ _) rfl) rfl) fun D σ H q => im_app q
theorem ss_setf {c : Nat} {o e : E} : SS Γ C0 F k (.setf c o e) := fun {sc X} ok x h => by
  simp only [chkS] at h
  split at h
  case h_2 => cases h
  simp only [Bool.and_eq_true] at h
  obtain ⟨⟨⟨h1, h2⟩, h3⟩, h4⟩ := h
  obtain ⟨hc, hn, hx⟩ := ok.g.fds _ _ (duo_mem h1)
  exact ps_imp (ps_fld ((sE o ok.toCxOk _).1 h3) ((sE e ok.toCxOk _).1 h4) (swaps_of h2 _ _ _)) fun D σ H => im_setf hc hn hx
theorem ss_ite {c : E} {a b : Ss} (ha : SSs Γ C0 F k a) (hb : SSs Γ C0 F k b) : SS Γ C0 F k (.ite c a b) := fun {sc X} ok x h => by
  simp only [chkS] at h
  split at h
  case h_2 => cases h
  simp only [Bool.and_eq_true] at h
  exact ps_imp (ps_if ((sE c ok.toCxOk _).2 h.1.1) (ha ok _ h.1.2) (hb ok _ h.2)) fun D σ H q => im_if q
theorem ss_for {t : Tg} {it : It} {b : Ss} (hb : SSs Γ C0 F k b) : SS Γ C0 F k (.for_ t it b) := fun {sc X} ok x h => by
  simp only [chkS] at h
  split at h
  case h_2 => cases h
  simp only [Bool.and_eq_true] at h
  exact ps_imp (ps_for (passes ok) ok.calm (sI it ok.toCxOk _ _ h.1.2) (sT t ok.toCxOk _ h.1.1.2) (hb ok _ h.2) (fun x => folded_of h.1.1.1 _ x)) fun D σ H q => im_for q
theorem ss_while {n : Nat} {c : E} {b : Ss} (hb : SSs Γ C0 F k b) : SS Γ C0 F k (.whil n c b) := fun {sc X} ok x h => by
  simp only [chkS] at h
  split at h
  case h_2 => cases h
  simp only [Bool.and_eq_true] at h
  exact ps_imp (ps_while (passes ok) ((sE c ok.toCxOk _).2 h.1) (hb ok _ h.2)) fun D σ H q => im_while q
theorem ss_ret {e : E} : SS Γ C0 F k (.ret e) := fun {sc X} ok x h => by
  simp only [chkS] at h
  split at h
  case h_2 => cases h
  exact ps_imp (ps_ret ((sE e ok.toCxOk _).1 h)) fun D σ H q => im_ret q
theorem ss_retN : SS Γ C0 F k .retN := fun {sc X} ok x h => by
  simp only [chkS] at h
  split at h
  case h_2 => cases h
  exact ps_imp ps_retN fun D σ H q => im_retN q
theorem ss_brk : SS Γ C0 F k .brk := fun {sc X} ok x h => by
  simp only [chkS] at h
  split at h
  case h_2 => cases h
  exact ps_imp ps_break fun D σ H q => im_brk q
theorem ss_cont : SS Γ C0 F k .cont := fun {sc X} ok x h => by
  simp only [chkS] at h
  split at h
  case h_2 => cases h
  exact ps_imp ps_continue fun D σ H q => im_cont q
theorem ss_pass : SS Γ C0 F k .pass := fun {sc X} ok x h => by
  simp only [chkS] at h
  split at h
  case h_2 => cases h
  exact ps_imp ps_pass fun D σ H q => im_pass q
theorem ss_stuck : SS Γ C0 F k .stuck := fun {sc X} ok x h => ps_imp ps_never fun D σ H q => by
  obtain ⟨l, ι, ρ, m, o, m', he, hs, hev, q⟩ := q
  simp only [exS] at hev
  cases hev
theorem ss_snil : SSs Γ C0 F k .nil := fun {sc X} ok x h => by
  simp only [chkSs, List.isEmpty_iff] at h
  subst h
  exact pss_imp pss_nil fun D σ H q => im_snil q
theorem ss_scons {s : S} {ss : Ss} (h1 : SS Γ C0 F k s) (h2 : SSs Γ C0 F k ss) : SSs Γ C0 F k (.cons s ss) := fun {sc X} ok x h => by
  simp only [chkSs] at h
  have stuck : isStuck s = true → PSs X x (tSs C0 F (.cons s ss)) := fun z => by
    cases s <;> first | (cases z; done) | skip
    refine pss_imp pss_never fun D σ H q => ?_
    obtain ⟨l, ι, ρ, m, o, m', he, hs, hev, q⟩ := q
    simp only [exSs, exS, R.bind_no] at hev
    cases hev
  split at h
  · rw [Bool.or_eq_true] at h
    rcases h with h | h
    · exact stuck h
    · rw [Bool.and_eq_true] at h
      exact pss_imp (pss_cons (h1 ok _ h.1) (h2 ok _ h.2)) fun D σ H q => im_scons q
  · exact stuck h
mutual
theorem sS : ∀ s : S, SS Γ C0 F k s
  | .asg t e => ss_asg
  | .par is es => ss_par
  | .aug i op e => ss_aug
  | .expr e => ss_expr
  | .app o e => ss_app
  | .cut1 o e => fun _ _ h => by simp only [chkS] at h; cases h
  | .setf c o e => ss_setf
  | .ite c a b => ss_ite (sSs a) (sSs b)
  | .for_ t it b => ss_for (sSs b)
  | .forC i is b => fun _ _ h => by simp only [chkS] at h; cases h
  | .whil n c b => ss_while (sSs b)
  | .ret e => ss_ret
  | .retN => ss_retN
  | .brk => ss_brk
  | .cont => ss_cont
  | .pass => ss_pass
  | .stuck => ss_stuck
theorem sSs : ∀ s : Ss, SSs Γ C0 F k s
  | .nil => ss_snil
  | .cons s ss => ss_scons (sS s) (sSs ss)
end
end
end DL
set_option linter.all false
set_option maxRecDepth 100000
set_option maxHeartbeats 4000000
namespace DL
open PySem PySem.Spec PyProof.Rows L2 LiI
section
variable {C : Cls'} {ι ι' : List Addr} {H H' : Hp} {m m1 : Mem}
theorem close_post {cel : Bool} {o : O} {d : U} {m' : Mem} {Q : VK} (S : StM C ι H m) (hc : close cel m.length o m1 = .ok d m') (q : ∀ ι' H' v, DL.Ext ι ι' H H' → StM C ι' H' m' → RepU C ι' H' d v → Q v H') :
    Post C { nx := fun _ H' => Q .non H', rt := Q } ι H o m1 := by
  unfold close at hc
  split at hc
  · cases hc
    exact fun ι' H' σ' e s r => q ι H' .non (take_ext e) (take_stm S e s) rfl
  · cases hc
    exact fun ι' H' v e s r => q ι H' v (take_ext e) (take_stm S e s) (RepD.mono (take_mono e) _ _ r)
  · rename_i j
    split at hc
    case isFalse => cases hc
    rename_i hj
    have hm : ∀ (ι' : List Addr) (H' : Hp) (a : Addr), DL.Ext ι ι' H H' → ι'[j]? = some a → H a = none := fun ι' H' a e ha => by
      obtain ⟨more, hm, hf⟩ := e.more
      rw [hm, List.getElem?_append_right (by rw [S.len]; exact hj)] at ha
      exact hf a (List.mem_of_getElem? ha)
    have out : ∀ (ι' : List Addr) (H' : Hp) (a : Addr), DL.Ext ι ι' H H' → ι'[j]? = some a → a ∉ C.ban ++ ι := fun ι' H' a e ha => S.notin (hm ι' H' a e ha)
    split at hc
    case h_2 => cases hc
    rename_i ob hob
    split at hc
    · cases hc
      refine fun ι' H' v e s r => ?_
      obtain ⟨a, ha, rfl⟩ := r
      obtain ⟨a', ho, h1, h2, h3⟩ := s.at_ j _ hob
      rw [ha] at h1; cases h1
      have hn := hm ι' H' a e ha
      have no := out ι' H' a e ha
      have ex : DL.Ext ι (ι ++ [a]) H H' := ⟨e.keep, e.there, [a], rfl, fun b hb => by rw [List.mem_singleton.mp hb]; exact hn⟩
      have st0 := take_stm S e s
      have mo : ∀ b o, b ∉ C.ban ++ ι' → H' b = some o → H' b = some o ∧ b ∉ C.ban ++ (ι ++ [a]) := fun b o n h => by
        refine ⟨h, fun z => ?_⟩
        rcases List.mem_append.mp z with z | z
        · exact n (List.mem_append_left _ z)
        · rcases List.mem_append.mp z with z | z
          · obtain ⟨more, hm, _⟩ := e.more
            exact n (List.mem_append_right _ (by rw [hm]; exact List.mem_append_left _ z))
          · rw [List.mem_singleton.mp z] at n
            exact n (List.mem_append_right _ (List.mem_of_getElem? ha))
      have hl : m.length ≤ m1.length := by
        have : j < m1.length := (List.getElem?_eq_some_iff.mp hob).1
        omega
      refine q (ι ++ [a]) H' _ ex ⟨by rw [List.length_append, List.length_append, st0.len]; rfl, ?_, s.bn, fun k o hk => ?_⟩ ⟨a, by rw [← S.len]; simp, rfl⟩
      · rw [List.nodup_append]
        refine ⟨S.nd, by simp, fun x hx y hy => ?_⟩
        rw [List.mem_singleton.mp hy]
        rintro rfl
        exact no (List.mem_append_right _ hx)
      · have ltk : (m1.take m.length).length = m.length := by rw [List.length_take]; omega
        by_cases hk' : k < m.length
        · rw [List.getElem?_append_left (by rw [ltk]; exact hk'), List.getElem?_take_of_lt hk'] at hk
          obtain ⟨b, hb, g1, g2, g3⟩ := s.at_ k o hk
          obtain ⟨more, hm', _⟩ := e.more
          rw [hm', List.getElem?_append_left (by rw [S.len]; exact hk')] at g1
          exact ⟨b, hb, by rw [List.getElem?_append_left (by rw [S.len]; exact hk')]; exact g1, g2, RepO.mono mo g3⟩
        · rw [List.getElem?_append_right (by rw [ltk]; omega), ltk] at hk
          have e0 : k = m.length := by
            have := (List.getElem?_eq_some_iff.mp hk).1
            simp at this; omega
          subst e0
          rw [Nat.sub_self] at hk
          cases hk
          exact ⟨a, ho, by rw [← S.len]; simp, h2, RepO.mono mo h3⟩
    · split at hc
      · rename_i xs
        cases hc
        refine fun ι' H' v e s r => ?_
        obtain ⟨a, ha, rfl⟩ := r
        obtain ⟨a', ho, h1, h2, ws, rfl, rv⟩ := s.at_ j _ hob
        rw [ha] at h1; cases h1
        exact q ι H' _ (take_ext e) (take_stm S e s) ⟨a, ws, rfl, out ι' H' a e ha, h2, RepL.mono (take_mono e) _ _ rv⟩
      · rename_i ks
        cases hc
        refine fun ι' H' v e s r => ?_
        obtain ⟨a, ha, rfl⟩ := r
        obtain ⟨a', ho, h1, h2, ws, rfl, rv⟩ := s.at_ j _ hob
        rw [ha] at h1; cases h1
        exact q ι H' _ (take_ext e) (take_stm S e s) ⟨a, ws, rfl, out ι' H' a e ha, h2, RepK.mono (take_mono e) _ _ rv⟩
      · cases hc
      · cases hc
  · cases hc
theorem envR_start {k : Nat} : ∀ {us : List U} {vs : List V}, RepUs C ι H us vs → ∀ n, EnvR C ι H (us.map some ++ List.replicate n none) (vs.map some ++ List.replicate n none)
  | [], vs, h, n => by
    rw [h]
    refine ⟨by simp, fun i u hu => ?_⟩
    rw [List.map_nil, List.nil_append, List.getElem?_replicate] at hu
    split at hu <;> cases hu
  | x :: us, vs, h, n => by
    obtain ⟨v, ws, rfl, r, rs⟩ := h
    have ih := envR_start (k := k) rs n
    refine ⟨by simp [RepUs.length rs], fun i u hu => ?_⟩
    cases i with
    | zero => cases hu; exact ⟨v, rfl, r⟩
    | succ i => exact ih.2 i u hu
theorem start_env {N : List Str} {us : List U} {vs : List V} (h : RepUs C ι H us vs) : EnvR C ι H (startE N.length us) (L2.start N vs) := by
  unfold startE L2.start
  rw [RepUs.length h]
  exact envR_start (k := 0) h _
end
/-- what the row's facts tell of a def -/
structure DefOk (Γ : Stat) (K : PySem.W.Frag) (T : Nat → Option Def) (a : Addr) (fd : FuncData) (f : Nat) : Prop where
  ex : ∃ (d : Def) (x qual : Str) (params : Arguments) (body : List Stmt) (scope : Scope) (dvs : List V) (kws : List (Str × V)) (N : List Str), T f = some d ∧ FunD K x qual params body scope dvs kws a fd ∧ FnScope N (Γ.ar f) scope ∧ d.np = (Γ.ar f).length ∧ d.ns = N.length ∧ chkSs { Γ with N := N } scope d.body body = true
/-- what the module holds, apart from the promises -/
structure GSt (Γ : Stat) (C : Cls') (T : Nat → Option Def) (K : PySem.W.Frag) (mg : Str → Option Value) : Prop where
  fn : ∀ f, Γ.has f = true → ∃ a fd, mg (Γ.nm f) = some (.ref a) ∧ PySem.W.keepIn K (.ref a) = true ∧ DefOk Γ K T a fd f ∧
    (∀ dv, dv = [] ∨ dv = Γ.dfl f → ∃ ds dvs, Vals dvs ds ∧ (∀ l ι H, RepL (C.b l) ι H dv dvs) ∧ Binds K fd (Γ.ar f) ds) ∧
    (∀ ks perm, (f, ks, perm) ∈ Γ.kw → ∀ (st : Shared) (us : List Value), K.In st.heap → us.length = ks.length → BindsTo st fd ⟨[], ks.zip us⟩ ((Γ.ar f).zip (perm.filterMap fun i => us[i]?)))
  no : ∀ f, Γ.has f = false → Γ.hasM f = false → T f = none
  hm : ∀ f, Γ.hasM f = true → ∃ a fd, DefOk Γ K T a fd f
  mth : ∀ f c x, (f, c, x) ∈ Γ.mth → ∃ a fd, Cls K (C.at_ c) ∧ Meth K (C.at_ c) x a ∧ x ≠ C.fn c ∧ DefOk Γ K T a fd f ∧ Binds K fd (Γ.ar f) []
  prp : ∀ f c x, (f, c, x) ∈ Γ.prp → ∃ p a fd, Cls K (C.at_ c) ∧ PropOf K (C.at_ c) x p a ∧ DefOk Γ K T a fd f ∧ Binds K fd (Γ.ar f) []
  mks : ∀ g c x, (g, c, x) ∈ Γ.mks → ∃ a fd, mg x = some (.ref (C.at_ c)) ∧ Mk K (C.at_ c) a ∧ DefOk Γ K T a fd g ∧ Binds K fd (Γ.ar g) []
  isc : ∀ c x, (c, x) ∈ Γ.isc → mg x = some (.ref (C.at_ c)) ∧ PySem.W.keepIn K (.ref (C.at_ c)) = true ∧ Cls K (C.at_ c) ∧ IsC K (C.at_ c)
  fds : ∀ c x, (c, x) ∈ Γ.fds → Cls K (C.at_ c) ∧ NoAttr K (C.at_ c) x ∧ C.fn c = x
  set : mg "set" = none
  cst : ∀ x d, Γ.cst.lookup x = some d → ∃ u v, mg x = some u ∧ RelV v u ∧ ∀ l ι H, RepD (C.b l) ι H d v
  blt : ∀ b : Blt, mg (bltN b) = none
  bty : ∀ t : Ty, (∀ c, t ≠ .cls c) → mg (Str.ofString (tyT t)) = none
  isi : mg "isinstance" = none
  rng : mg "range" = none
  enm : mg "enumerate" = none
  hK : K = C.K
theorem callF_none {T : Nat → Option Def} {f : Nat} (h : T f = none) : ∀ (k : Nat) (us : List U) (m : Mem), callF T k f us m = .no
  | 0, us, m => rfl
  | k + 1, us, m => by simp only [callF, h]
theorem callF_inv {T : Nat → Option Def} {k f : Nat} {us : List U} {m m' : Mem} {x : U} (h : callF T k f us m = .ok x m') : ∃ j d o m1, k = j + 1 ∧ T f = some d ∧ us.length = d.np ∧ exSs (callF T j) d.body (startE d.ns us) m = .ok o m1 ∧ close d.cel m.length o m1 = .ok x m' := by
  cases k with
  | zero => cases h
  | succ j =>
    simp only [callF] at h
    split at h
    · cases h
    · rename_i d hd
      split at h
      · rename_i hl
        obtain ⟨o, m1, h1, h2⟩ := R.bind_inv h
        exact ⟨j, d, o, m1, rfl, hd, hl, h1, h2⟩
      · cases h
section
variable {Γ : Stat} {C : Cls'} {T : Nat → Option Def} {P : Program} {w : World} {K : PySem.W.Frag} {mg : Str → Option Value} {base : Heap}
theorem spF_len {F : List U → Mem → R U} {n : Nat} {vs : List V} {H : Hp} {Q : VK} {E : XK} (h : spF C n F vs H Q E) : vs.length = n := by
  obtain ⟨l, ι, m, us, d, m', h1, h2, h3, _⟩ := h
  rw [← h1, h3.length]
theorem gok_of {k : Nat} (G : GSt Γ C T K mg) (h : ∀ f a fd, DefOk Γ K T a fd f → FnG P w K mg base (3 * k) a fd (Γ.ar f) (spF C (Γ.ar f).length (callF T k f))) (N : List Str) : GOk { Γ with N := N } C (callF T k) k P w K mg base where
  fn := fun f hf => by
    obtain ⟨a, fd, h1, h2, h3, h4, h5⟩ := G.fn f hf
    exact ⟨a, fd, h1, h2, h f a fd h3, h4, h5⟩
  no := fun f us m hf hM => callF_none (G.no f hf hM) _ _ _
  mth := fun f c x hm => by
    obtain ⟨a, fd, h1, h2, h3, h4, h5⟩ := G.mth f c x hm
    exact ⟨a, fd, h1, h2, h3, h f a fd h4, h5⟩
  prp := fun f c x hm => by
    obtain ⟨p, a, fd, h1, h2, h4, h5⟩ := G.prp f c x hm
    exact ⟨p, a, fd, h1, h2, h f a fd h4, h5⟩
  mks := fun f c x hm => by
    obtain ⟨a, fd, h1, h2, h4, h5⟩ := G.mks f c x hm
    exact ⟨a, fd, h1, h2, h f a fd h4, h5⟩
  isc := G.isc
  fds := G.fds
  set := G.set
  ar := fun f us m d m' h => by
    obtain ⟨j, dd, o, m1, rfl, hd, hl, _⟩ := callF_inv h
    show us.length = (Γ.ar f).length
    cases hf : Γ.has f with
    | false =>
      cases hM : Γ.hasM f with
      | false => rw [G.no f hf hM] at hd; cases hd
      | true =>
        obtain ⟨a, fd, h3⟩ := G.hm f hM
        obtain ⟨d', x, qual, params, body, scope, dvs, kws, N', g1, g2, g3, g4, g5, g6⟩ := h3.ex
        rw [hd] at g1; cases g1
        rw [hl, g4]
    | true =>
      obtain ⟨a, fd, h1, h2, h3, h4, h5⟩ := G.fn f hf
      obtain ⟨d', x, qual, params, body, scope, dvs, kws, N', g1, g2, g3, g4, g5, g6⟩ := h3.ex
      rw [hd] at g1; cases g1
      rw [hl, g4]
  cst := G.cst
  blt := G.blt
  bty := G.bty
  isi := G.isi
  rng := G.rng
  enm := G.enm
theorem fn_all (G : GSt Γ C T K mg) : ∀ (k : Nat) (f : Nat) (a : Addr) (fd : FuncData), DefOk Γ K T a fd f → FnG P w K mg base (3 * k) a fd (Γ.ar f) (spF C (Γ.ar f).length (callF T k f))
  | 0, f, a, fd, D => ⟨fun vs H Q E h => spF_len h, fun A outer st H args us vs Q E hg hr e0 hb hv hs => by
    obtain ⟨l, ι, m, us, d, m', h1, h2, h3, h4, _⟩ := hs
    cases h4⟩
  | k + 1, f, a, fd, D => by
    have ih := gok_of (P := P) (w := w) (base := base) G (fun f a fd D => fn_all G k f a fd D)
    obtain ⟨d, x, qual, params, body, scope, dvs, kws, N, g1, g2, g3, g4, g5, g6⟩ := D.ex
    obtain ⟨oc, od, dV, kV, doc, pm, an, cdv, ct, osl, rfl, lk, hcd, _, _⟩ := g2.ex
    refine fnG_of (k := 3 * k + 2) lk hcd g3 (fun vs H Q E h => spF_len h) fun A outer st H vs Q E hg hr hs => ?_
    refine ⟨tSs C (callF T k) d.body, ?_, ?_⟩
    · refine sSs d.body (Γ := { Γ with N := N }) (k := k) (sc := scope) ⟨⟨rfl, g3.nd, rfl, hr, hg, rfl, G.hK, ?_, ?_, ?_, ?_, ih N⟩, rfl, g3.kind⟩ body g6
      · intro y hy
        exact vis_look hy
      · intro y hy
        exact ⟨loc_look hy, .inl rfl⟩
      · intro y hy
        exact glb_look hy
      · intro y hy
        exact hy
    · obtain ⟨l, ι, m, us, dd, m', h1, h2, h3, h4, h5⟩ := hs
      obtain ⟨j, d', o, m1, e, hd, hl, h6, h7⟩ := callF_inv h4
      cases e
      rw [g1] at hd; cases hd
      refine ⟨l, ι, startE d.ns us, m, o, m1, ?_, h2, h6, close_post h2 h7 h5⟩
      rw [g5]
      exact start_env h3
end
end DL
set_option linter.all false
set_option maxRecDepth 100000
set_option maxHeartbeats 4000000
namespace DL
open PySem PySem.Spec PySem.W PySem.Calls PyProof.Rows L2
/-- the law's call at the heap behind the top, by a promise that knows that no repr runs around -/
theorem law_callG {P : Program} {w : World} {K : PySem.W.Frag} {mg mb : Str → Option Value} {k : Nat} {fa a : Addr} {fd : FuncData} {x : Str} {sp : Sp} {st : Shared} {vs : List Value} {ns : List Int}
    (KX : K.In st.heap) (hns : st.heap.Ns mainGlobals mg) (hb : st.heap.Ns builtinsNs mb) (hbb : ∀ x : Str, x ≠ "__name__" → mb x = bootBuiltins x) (hlim : st.heap.NoLimit) (hg : st.gens = #[])
    (ha : st.heap.get? a = some { cls := .type "list", data := .seq vs.toArray }) (hi : IntsAre vs ns) (hl : ns.length ≤ sizeLine) (hr : Room k callerA)
    (G : ∀ base : Heap, K.In base → base.Ns mainGlobals mg → FnG P w K mg base k fa fd [x] sp) (hbind : ∀ (s : Shared) (u : Value), BindsTo s fd ⟨[u], []⟩ [(x, u)])
    (hsp : ∀ H : Hp, Only H → SqL K H a (ns.map V.int) → sp [.ref a] H (fun v _ => v = .bl true) fun _ _ _ => False) :
    codeAny (model P w) callerA (.call (.ref fa) ⟨[.ref a], []⟩) (fun r s' => r = .ok (.ret (.bool true)) ∧ OldK st.heap s'.heap ∧ s'.os = st.os ∧ AllBare s'.gens) st := by
  have rv := vals_ints hi
  have lenV := hi.length
  suffices core : ∀ H : Hp, Only H → SqL K H a (ns.map V.int) → HOk P w H st.heap → (∀ b, H b ≠ none → b = a) → (H a ≠ none → K.lookup a = none) →
      codeAny (model P w) callerA (.call (.ref fa) ⟨[.ref a], []⟩) (fun r s' => r = .ok (.ret (.bool true)) ∧ OldK st.heap s'.heap ∧ s'.os = st.os ∧ AllBare s'.gens) st by
    cases hk : K.lookup a with
    | some o =>
      have e := KX a o hk
      rw [ha] at e
      cases e
      refine core (fun _ => none) (fun _ => .inl rfl) (.inr ⟨_, vs.toArray, _, hk, rfl, rfl, rfl, by rw [List.size_toArray, lenV]; exact hl, by simpa using rv⟩) ?_ ?_ ?_
      · intro b u z
        exact nomatch (show (none : Option HO) = some u from z)
      · exact fun b z => absurd rfl z
      · exact fun z => absurd rfl z
    | none =>
      have at_ : (fun b => if b = a then some (HO.frz { cls := .type "list", data := .seq vs.toArray } (.lst (ns.map V.int))) else none : Hp) a = some (HO.frz { cls := .type "list", data := .seq vs.toArray } (.lst (ns.map V.int))) := if_pos rfl
      refine core (fun b => if b = a then some (.frz { cls := .type "list", data := .seq vs.toArray } (.lst (ns.map V.int))) else none) (fun b => ?_) (.inl (.inr ⟨_, at_⟩)) (fun b u z => ?_) (fun b z => ?_) fun _ => hk
      · by_cases q : b = a
        · exact .inr ⟨_, _, if_pos q⟩
        · exact .inl (if_neg q)
      · by_cases q : b = a
        · subst q
          have z' := at_.symm.trans z
          cases z'
          exact ⟨ha, by rw [List.length_map]; exact hl, vs, _, rv, ha⟩
        · exact nomatch (if_neg q).symm.trans z
      · exact Classical.byContradiction fun q => z (if_neg q)
  intro H hO hS hok hA hKa
  have dictN : ∀ {b : Addr} {o : Obj} {es : Array DictEntry} {ep : Nat}, st.heap.get? b = some o → o.data = .dict es ep → H b = none := fun {b o es ep} e d => by
    cases q : H b with
    | none => rfl
    | some u =>
      obtain rfl := hA b (by rw [q]; simp)
      rw [ha] at e
      cases e
      exact nomatch (show Data.seq vs.toArray _ = Data.dict es ep from d)
  have nsK : ∀ {b : Addr} {m : Str → Option Value}, st.heap.Ns b m → (hidT st.heap H).Ns b m := fun {b m} ⟨o, es, ep, e, d, r⟩ => ⟨o, es, ep, hidT_get e (dictN e d), d, r⟩
  have hKb : K.In (hidT st.heap H) := fun b o e => hidT_get (KX b o e) (by
    cases q : H b with
    | none => rfl
    | some u =>
      obtain rfl := hA b (by rw [q]; simp)
      rw [hKa (by rw [q]; simp)] at e
      cases e)
  have hM : Mod K mg (hidT st.heap H) := ⟨hKb, nsK hns, ⟨mb, nsK hb, hbb⟩, let ⟨mc, h1, h2⟩ := hlim; ⟨mc, nsK h1, h2⟩⟩
  have e0 : Env0 P w K mg (hidT st.heap H) callerA [] st H := ⟨rfl, hM, fun b o e => of_hidT e, Nat.le_of_eq (hidT_size _ _), trivial, fun b hb => absurd (show b ∈ ([] : List Addr) from hb) (by simp), hok, .of_eq hg⟩
  refine codeAny_mono ((G _ hKb (nsK hns)).go callerA [] st H ⟨[.ref a], []⟩ [.ref a] [.ref a] _ _ rfl hr e0 (hbind st (.ref a)) (.cons rfl .nil) (hsp H hO hS)) fun r s' h => ?_
  match r, h with
  | .error e, h => exact False.elim h
  | .ok .next, h => exact False.elim h
  | .ok .brk, h => exact False.elim h
  | .ok .cont, h => exact False.elim h
  | .ok (.ret u), ⟨v, H', os, bare, un, hok', r', q⟩ =>
    obtain rfl : v = .bl true := q
    obtain rfl : u = Value.bool true := r'
    refine ⟨rfl, OldK.of_keep fun b o e => ?_, os, bare⟩
    cases q : H b with
    | none => exact un.keep b o e q (fun z => nomatch (show b ∈ ([] : List Addr) from z)) (by simp)
    | some u =>
      rcases hO b with z | ⟨ob, xs, z⟩
      · rw [q] at z; cases z
      · have e1 := (hok b _ z).1
        have e2 := (hok' b _ (un.frzs b ob _ z)).1
        rw [e] at e1
        cases e1
        exact e2
theorem walk_ofG {l : PySem.W.OpenLaw} {n k : Nat} {q : Program} {loose : List Str} {XP : (Str → Option Value) → Heap → Prop} {YP : World → Heap → Prop} {d : DefRec} {x : Str}
    (hn : l.most = some n) (hn2 : n ≤ sizeLine) (hdf : d.params.defaults = []) (hr : Room k callerA)
    (G : ∀ (w : World) (mg : Str → Option Value) (fa : Addr) (h : Heap), YP w h → h.Ns mainGlobals mg → mg d.name = some (.ref fa) →
      ∃ (K : PySem.W.Frag) (fd : FuncData) (sp : Sp), K.In h ∧ (∀ (s : Shared) (u : Value), BindsTo s fd ⟨[u], []⟩ [(x, u)]) ∧
        (∀ (H : Hp) (a : Addr) (ns : List Int), ns.length ≤ n → (∀ z ∈ ns, Builtin.Int.intBits z ≤ 1048576) → Only H → SqL K H a (ns.map V.int) → sp [.ref a] H (fun v _ => v = .bl true) fun _ _ _ => False) ∧
        ∀ base : Heap, K.In base → base.Ns mainGlobals mg → FnG l.prog w K mg base k fa fd [x] sp) :
    PySem.W.WalkO q loose XP YP l.row.toRowW d [] (fun f vs => PySem.call f vs) := by
  refine Att.attach_callB hn hdf fun w s₀ s₁ mg mb fa o pm cd doc a vs ns Gr Y ho hd hcd hmg hobj hints hlen hbits hg => ?_
  obtain ⟨K, fd, sp, KX, hb, hsp, hF⟩ := G w mg fa _ Y Gr.T.g hmg
  exact law_callG KX Gr.T.g Gr.T.b Gr.T.builtins Gr.T.nolimit hg hobj hints (Nat.le_trans hlen hn2) hr hF hb fun H hO hS => hsp H a ns hlen hbits hO hS
/-- the script stands -/
theorem scr_rep {K : PySem.W.Frag} {at_ : Nat → Addr} {fn : Nat → Str} {H : Hp} {a : Addr} {ns : List Int} (hO : Only H) (hS : SqL K H a (ns.map V.int)) : RepU (⟨at_, fn, [], K⟩ : Cls') [] H (.d (.scr ns)) (.ref a) := by
  refine ⟨a, rfl, ?_⟩
  rcases hS with (h | ⟨o, h⟩) | h
  · rcases hO a with z | ⟨o, xs, z⟩
    · rw [z] at h; cases h
    · rw [z] at h; cases h
  · exact .inl ⟨o, by simp, h⟩
  · exact .inr h
/-- the law answers True -/
theorem law_sp {T : Nat → Option Def} {K : PySem.W.Frag} {at_ : Nat → Addr} {fn : Nat → Str} {k f n : Nat} {H : Hp} {a : Addr} {ns : List Int} {m' : Mem} (hO : Only H) (hS : SqL K H a (ns.map V.int)) (h1 : n = 1) (h : callF T k f [.d (.scr ns)] [] = .ok (.d (.bl true)) m') :
    spF (⟨at_, fn, [], K⟩ : Cls') n (callF T k f) [.ref a] H (fun v _ => v = .bl true) fun _ _ _ => False := by
  subst h1
  exact ⟨[], [], [], [.d (.scr ns)], .d (.bl true), m', rfl, ⟨rfl, .nil, (fun _ z => nomatch z), fun k o z => by simp at z⟩, ⟨_, [], rfl, scr_rep hO hS, rfl⟩, h, fun ι' H' v e s r => r⟩
end DL
set_option linter.all false
set_option maxRecDepth 100000
set_option maxHeartbeats 4000000
namespace DL
open PySem PySem.Spec PyProof.Rows L2
/-- what GSt wants of one def -/
def FnHas (Γ : Stat) (C : Cls') (T : Nat → Option Def) (K : PySem.W.Frag) (mg : Str → Option Value) (f : Nat) : Prop := ∃ a fd, mg (Γ.nm f) = some (.ref a) ∧ PySem.W.keepIn K (.ref a) = true ∧ DefOk Γ K T a fd f ∧
    (∀ dv, dv = [] ∨ dv = Γ.dfl f → ∃ ds dvs, Vals dvs ds ∧ (∀ l ι H, RepL (C.b l) ι H dv dvs) ∧ Binds K fd (Γ.ar f) ds) ∧
    (∀ ks perm, (f, ks, perm) ∈ Γ.kw → ∀ (st : Shared) (us : List Value), K.In st.heap → us.length = ks.length → BindsTo st fd ⟨[], ks.zip us⟩ ((Γ.ar f).zip (perm.filterMap fun i => us[i]?)))
section
variable {Γ : Stat} {C : Cls'} {T : Nat → Option Def} {K : PySem.W.Frag} {mg : Str → Option Value} {x qual : Str} {params : Arguments} {body : List Stmt} {scope : Scope} {a : Addr} {fd : FuncData}
theorem fnHas0 (f : Nat) (d : Def) (N : List Str) (F : FunD K x qual params body scope [] [] a fd) (hT : T f = some d) (hm : mg (Γ.nm f) = some (.ref a)) (sc : FnScope N (Γ.ar f) scope) (h1 : d.np = (Γ.ar f).length) (h2 : d.ns = N.length) (ck : chkSs { Γ with N := N } scope d.body body = true) (hd : Γ.dfl f = [])
    (hb : ∀ (kV doc pm : Value) (an : Option Addr) (cdv ct : Value) (us : List Value), us.length = (Γ.ar f).length → bindArgs (PySem.W.fnOf x qual params body scope .none kV doc pm an cdv ct) ⟨us, []⟩ = pure ((Γ.ar f).zip us))
    (hk : ∀ ks perm, (f, ks, perm) ∈ Γ.kw → ∀ (kV doc pm : Value) (an : Option Addr) (cdv ct : Value) (us : List Value), us.length = ks.length → bindArgs (PySem.W.fnOf x qual params body scope .none kV doc pm an cdv ct) ⟨[], ks.zip us⟩ = pure ((Γ.ar f).zip (perm.filterMap fun i => us[i]?))) : FnHas Γ C T K mg f := by
  refine ⟨a, fd, hm, F.kp, ⟨d, x, qual, params, body, scope, [], [], N, hT, F, sc, h1, h2, ck⟩, fun dv hdv => ?_, fun ks perm h st us _ hl => ?_⟩
  · have e : dv = [] := hdv.elim id fun z => z.trans hd
    subst e
    exact ⟨[], [], .nil, fun l ι H => rfl, F.bindsN hb⟩
  · obtain ⟨oc, od, dV, kV, doc, pm, an, cdv, ct, osl, rfl, lk, hcd, hD, hK⟩ := F.ex
    rcases hD with ⟨_, rfl⟩ | ⟨e, _⟩
    · exact .of_eq (hk ks perm h kV doc pm an cdv ct us hl)
    · exact absurd rfl e
/-- one default, the last parameter's -/
theorem fnHas1 (f : Nat) (d : Def) (N : List Str) (v : V) (w : D) (n : Nat) (F : FunD K x qual params body scope [v] [] a fd) (hT : T f = some d) (hm : mg (Γ.nm f) = some (.ref a)) (sc : FnScope N (Γ.ar f) scope) (h1 : d.np = (Γ.ar f).length) (h2 : d.ns = N.length) (ck : chkSs { Γ with N := N } scope d.body body = true) (hd : Γ.dfl f = [w]) (hn : n + 1 = (Γ.ar f).length)
    (hv : ∀ l ι H, RepD (C.b l) ι H w v)
    (hb : ∀ (D : Addr) (kV doc pm : Value) (an : Option Addr) (cdv ct : Value) (us its : List Value), us.length = n → its.length = 1 → ∃ k, bindArgs (PySem.W.fnOf x qual params body scope (.ref D) kV doc pm an cdv ct) ⟨us, []⟩ = seqItems? (.ref D) >>= k ∧ k (some its.toArray) = pure ((Γ.ar f).zip (us ++ its)))
    (hb2 : ∀ (D : Addr) (kV doc pm : Value) (an : Option Addr) (cdv ct : Value) (us its : List Value), us.length = n + 1 → its.length = 1 → ∃ k, bindArgs (PySem.W.fnOf x qual params body scope (.ref D) kV doc pm an cdv ct) ⟨us, []⟩ = seqItems? (.ref D) >>= k ∧ k (some its.toArray) = pure ((Γ.ar f).zip us))
    (hk : ∀ ks perm, (f, ks, perm) ∈ Γ.kw → ∀ (D : Addr) (kV doc pm : Value) (an : Option Addr) (cdv ct : Value) (us its : List Value), us.length = ks.length → its.length = 1 → ∃ k, bindArgs (PySem.W.fnOf x qual params body scope (.ref D) kV doc pm an cdv ct) ⟨[], ks.zip us⟩ = seqItems? (.ref D) >>= k ∧ k (some its.toArray) = pure ((Γ.ar f).zip (perm.filterMap fun i => us[i]?))) : FnHas Γ C T K mg f := by
  refine ⟨a, fd, hm, F.kp, ⟨d, x, qual, params, body, scope, [v], [], N, hT, F, sc, h1, h2, ck⟩, fun dv hdv => ?_, fun ks perm h st us X hl => ?_⟩
  rcases hdv with rfl | e
  · obtain ⟨ds, r, b⟩ := F.binds1 (ps := Γ.ar f) (n + 1) 1 (by simp) (by simpa using hn) (fun D kV doc pm an cdv ct us its hu hi => by
      obtain ⟨k, e1, e2⟩ := hb2 D kV doc pm an cdv ct us its hu (by simpa using hi)
      refine ⟨k, e1, ?_⟩
      rw [e2]
      have : its.drop 1 = [] := List.drop_eq_nil_of_le (by simp at hi; omega)
      rw [this, List.append_nil])
    exact ⟨ds, _, r, fun l ι H => rfl, b⟩
  · rw [hd] at e
    subst e
    obtain ⟨ds, r, b⟩ := F.binds1 (ps := Γ.ar f) n 0 (by simp) (by simpa using hn) (fun D kV doc pm an cdv ct us its hu hi => by
      obtain ⟨k, e1, e2⟩ := hb D kV doc pm an cdv ct us its hu (by simpa using hi)
      exact ⟨k, e1, by rw [e2, List.drop_zero]⟩)
    exact ⟨ds, _, r, fun l ι H => ⟨v, [], rfl, hv l ι H, rfl⟩, b⟩
  · obtain ⟨oc, od, dV, kV, doc, pm, an, cdv, ct, osl, rfl, lk, hcd, hD, hK⟩ := F.ex
    rcases hD with ⟨e, _⟩ | ⟨_, D, o, its, m, rfl, lT, oT, rT⟩
    · exact absurd e (by simp)
    · have l1 : its.length = 1 := rT.length.symm
      obtain ⟨k, e1, e2⟩ := hk ks perm h D kV doc pm an cdv ct us its hl l1
      refine BindsTo.of_looks fun M => ?_
      rw [e1]
      exact looks_items X lT oT (.of_pure e2)
/-- the constants -/
def CstOk (C : Cls') (mg : Str → Option Value) (x : Str) (d : D) : Prop := ∃ u v, mg x = some u ∧ RelV v u ∧ ∀ l ι H, RepD (C.b l) ι H d v
theorem cst_int {x : Str} {i : Int} (h : ∃ t, mg x = some (.int i t)) : CstOk C mg x (.int i) := by
  obtain ⟨t, h⟩ := h
  exact ⟨_, .int i, h, ⟨t, rfl⟩, fun l ι H => rfl⟩
theorem cst_str {x z : Str} {s : List Nat} (h : ∃ t, mg x = some (.str z t)) (e : z = str0 s) : CstOk C mg x (.str s) := by
  obtain ⟨t, h⟩ := h
  exact ⟨_, .str z, h, ⟨t, rfl⟩, fun l ι H => by rw [e]; rfl⟩
theorem cst_all {L : List (Str × D)} (h : ∀ p ∈ L, CstOk C mg p.1 p.2) : ∀ x d, L.lookup x = some d → CstOk C mg x d := by
  intro x d
  induction L with
  | nil => intro z; cases z
  | cons p L ih =>
    intro z
    rw [List.lookup_cons] at z
    cases e : x == p.1 with
    | true =>
      rw [e] at z
      cases z
      rw [eq_of_beq e]
      exact h p List.mem_cons_self
    | false =>
      rw [e] at z
      exact ih (fun q hq => h q (List.mem_cons_of_mem _ hq)) z
end
end DL
set_option linter.all false
set_option maxRecDepth 100000
set_option maxHeartbeats 4000000
namespace DL
open PySem PySem.Spec PyProof.Rows L2
section
variable {Γ : Stat} {C : Cls'} {T : Nat → Option Def} {K : PySem.W.Frag} {mg : Str → Option Value} {x qual : Str} {params : Arguments} {body : List Stmt} {scope : Scope} {a : Addr} {fd : FuncData}
/-- a def of a class, all its parameters given -/
theorem defM (f : Nat) (d : Def) (N : List Str) (F : FunD K x qual params body scope [] [] a fd) (hT : T f = some d) (sc : FnScope N (Γ.ar f) scope) (h1 : d.np = (Γ.ar f).length) (h2 : d.ns = N.length) (ck : chkSs { Γ with N := N } scope d.body body = true)
    (hb : ∀ (kV doc pm : Value) (an : Option Addr) (cdv ct : Value) (us : List Value), us.length = (Γ.ar f).length → bindArgs (PySem.W.fnOf x qual params body scope .none kV doc pm an cdv ct) ⟨us, []⟩ = pure ((Γ.ar f).zip us)) : DefOk Γ K T a fd f ∧ Binds K fd (Γ.ar f) [] :=
  ⟨⟨d, x, qual, params, body, scope, [], [], N, hT, F, sc, h1, h2, ck⟩, F.bindsN hb⟩
end
end DL
set_option linter.all false
set_option maxRecDepth 100000
set_option maxHeartbeats 4000000
namespace DL
section
variable (F : Nat → List U → Mem → R U)
def k_nx (ρ : Env) (m : Mem) : R O := .ok (.nx ρ) m
def k_asg (t : Tg) (ρ : Env) (x : U) (m : Mem) : R O := (assT F t x ρ m).bind k_nx
def k_par (is : List Nat) (ρ : Env) (us : List U) (m : Mem) : R O := match setAll is us ρ with
  | some ρ1 => .ok (.nx ρ1) m
  | none => .no
def k_aug (i : Nat) (op : Bop) (ρ : Env) (x y : U) (m : Mem) : R O := match x, y, op with
  | .d (.int a), .d (.int b), .add => .ok (.nx (ρ.set i (some (.d (.int (a + b)))))) m
  | .d (.int a), .d (.int b), .sub => .ok (.nx (ρ.set i (some (.d (.int (a - b)))))) m
  | _, _, _ => .no
def k_expr (ρ : Env) (_ : U) (m : Mem) : R O := .ok (.nx ρ) m
def k_app2 (ρ : Env) (x y : U) (m : Mem) : R O := match appD m x y with
  | some m3 => .ok (.nx ρ) m3
  | none => .no
def k_app (e : E) (ρ : Env) (x : U) (m : Mem) : R O := if lstU m x = true then (evE F e ρ m).bind (k_app2 ρ x) else .no
def k_b (x : U) (m : Mem) : R Bool := ofO (asB x) m
def k_ite (a b : Ss) (ρ : Env) (k : Bool) (m : Mem) : R O := match k with
  | true => exSs F a ρ m
  | false => exSs F b ρ m
def k_for (t : Tg) (b : Ss) (ρ : Env) (p : List D × Option Nat) (m : Mem) : R O := forL p.2 m (forB F t b) (p.1.map .d) ρ m
def k_ret (x : U) (m : Mem) : R O := .ok (.ret x) m
def k_seq (ss : Ss) (o : O) (m : Mem) : R O := match o with
  | .nx ρ1 => exSs F ss ρ1 m
  | o => .ok o m
theorem x_asg (t : Tg) (e : E) (ρ : Env) (m : Mem) : exS F (.asg t e) ρ m = (evE F e ρ m).bind (k_asg F t ρ) := rfl
theorem x_par (is : List Nat) (es : Es) (ρ : Env) (m : Mem) : exS F (.par is es) ρ m = (evEs F es ρ m).bind (k_par is ρ) := rfl
theorem x_aug (i : Nat) (op : Bop) (e : E) (ρ : Env) (m : Mem) : exS F (.aug i op e) ρ m = match ρ[i]? with
    | some (some x) => (evE F e ρ m).bind (k_aug i op ρ x)
    | _ => .no := rfl
theorem x_expr (e : E) (ρ : Env) (m : Mem) : exS F (.expr e) ρ m = (evE F e ρ m).bind (k_expr ρ) := rfl
theorem x_app (o e : E) (ρ : Env) (m : Mem) : exS F (.app o e) ρ m = (evE F o ρ m).bind (k_app F e ρ) := rfl
theorem x_ite (c : E) (a b : Ss) (ρ : Env) (m : Mem) : exS F (.ite c a b) ρ m = ((evE F c ρ m).bind k_b).bind (k_ite F a b ρ) := rfl
theorem x_for (t : Tg) (it : It) (b : Ss) (ρ : Env) (m : Mem) : exS F (.for_ t it b) ρ m = (evIt F it ρ m).bind (k_for F t b ρ) := rfl
theorem x_ret (e : E) (ρ : Env) (m : Mem) : exS F (.ret e) ρ m = (evE F e ρ m).bind k_ret := rfl
theorem x_retN (ρ : Env) (m : Mem) : exS F .retN ρ m = .ok (.ret (.d .non)) m := rfl
theorem x_brk (ρ : Env) (m : Mem) : exS F .brk ρ m = .ok (.brk ρ) m := rfl
theorem x_cont (ρ : Env) (m : Mem) : exS F .cont ρ m = .ok (.ct ρ) m := rfl
theorem x_pass (ρ : Env) (m : Mem) : exS F .pass ρ m = .ok (.nx ρ) m := rfl
theorem x_nil (ρ : Env) (m : Mem) : exSs F .nil ρ m = .ok (.nx ρ) m := rfl
theorem x_cons (s : S) (ss : Ss) (ρ : Env) (m : Mem) : exSs F (.cons s ss) ρ m = (exS F s ρ m).bind (k_seq F ss) := by
  show (exS F s ρ m).bind _ = _
  congr 1
def k_tup (us : List U) (m : Mem) : R U := ofO ((pures us).map fun xs => .d (.tup xs)) m
def k_lst (us : List U) (m : Mem) : R U := ofO ((pures us).map fun xs => .d (.lst xs)) m
def k_nlst (us : List U) (m : Mem) : R U := match pures us with
  | some xs => .ok (.cell m.length) (m ++ [.lst xs])
  | none => .no
def k_bin2 (op : Bop) (x y : U) (m : Mem) : R U := ofO ((binD m op x y).map .d) m
def k_bin (op : Bop) (b : E) (ρ : Env) (x : U) (m : Mem) : R U := (evE F b ρ m).bind (k_bin2 op x)
def k_neg (x : U) (m : Mem) : R U := match x with
  | .d (.int i) => .ok (.d (.int (-i))) m
  | _ => .no
def k_cmp2 (op : Cop) (x y : U) (m : Mem) : R U := ofO ((cmpD m op x y).map fun k => .d (.bl k)) m
def k_cmp (op : Cop) (b : E) (ρ : Env) (x : U) (m : Mem) : R U := (evE F b ρ m).bind (k_cmp2 op x)
def k_ch3 (op2 : Cop) (c : E) (ρ : Env) (y : U) (k : Bool) (m : Mem) : R U := match k with
  | false => .ok (.d (.bl false)) m
  | true => (evE F c ρ m).bind (k_cmp2 op2 y)
def k_ch2 (op1 op2 : Cop) (c : E) (ρ : Env) (x y : U) (m : Mem) : R U := (ofO (cmpD m op1 x y) m).bind (k_ch3 F op2 c ρ y)
def k_ch (op1 op2 : Cop) (b c : E) (ρ : Env) (x : U) (m : Mem) : R U := (evE F b ρ m).bind (k_ch2 F op1 op2 c ρ x)
def k_bl (k : Bool) (m : Mem) : R U := .ok (.d (.bl k)) m
def k_inv (x : U) (m : Mem) : R U := match x with
  | .d (.bl k) => .ok (.d (.bl (!k))) m
  | _ => .no
def k_ife (a b : E) (ρ : Env) (x : U) (m : Mem) : R U := match x with
  | .d (.bl true) => evE F a ρ m
  | .d (.bl false) => evE F b ρ m
  | _ => .no
def k_idx2 (x y : U) (m : Mem) : R U := ofO ((idxD m x y).map .d) m
def k_idx (i : E) (ρ : Env) (x : U) (m : Mem) : R U := (evE F i ρ m).bind (k_idx2 x)
def k_to2 (x y : U) (m : Mem) : R U := match y with
  | .d (.int j) => ofO ((slcD m x none (some j)).map .d) m
  | _ => .no
def k_to (i : E) (ρ : Env) (x : U) (m : Mem) : R U := (evE F i ρ m).bind (k_to2 x)
def k_fr2 (x y : U) (m : Mem) : R U := match y with
  | .d (.int j) => ofO ((slcD m x (some j) none).map .d) m
  | _ => .no
def k_fr (i : E) (ρ : Env) (x : U) (m : Mem) : R U := (evE F i ρ m).bind (k_fr2 x)
def k_call (f : Nat) (dv : List D) (us : List U) (m : Mem) : R U := F f (us ++ dv.map .d) m
def k_calk (f : Nat) (perm : List Nat) (us : List U) (m : Mem) : R U := F f (perm.filterMap fun i => us[i]?) m
def k_blt (b : Blt) (us : List U) (m : Mem) : R U := ofO ((bltD m b us).map .d) m
def k_isi (t : Ty) (x : U) (m : Mem) : R U := ofO ((isiD t x).map fun k => .d (.bl k)) m
def k_mth2 (f : Mth) (x y : U) (m : Mem) : R U := ofO ((mthD m f x y).map .d) m
def k_mth (f : Mth) (e : E) (ρ : Env) (x : U) (m : Mem) : R U := (evE F e ρ m).bind (k_mth2 f x)
def k_sit (x : U) (m : Mem) : R U := ofO ((itemsO m x).bind fun xs => (sortD xs).map .d) m
def k_lc2 (ys : List D) (m : Mem) : R U := .ok (.d (.lst ys)) m
def k_lc (own : List Nat) (tg : Tg) (cs : Es) (e : E) (ρ : Env) (p : List D × Option Nat) (m : Mem) : R U := (lcL p.2 m (lcB F own tg cs e ρ) p.1 m).bind k_lc2
def k_slen (x : U) (m : Mem) : R U := match x with
    | .d (.scr ns) => .ok (.d (.int ns.length)) m
    | _ => .no
def k_sidx2 (x y : U) (m : Mem) : R U := match x, y with
    | .d (.scr ns), .d (.int k) => ofO ((L2.atI ns k).map fun n => .d (.int n)) m
    | _, _ => .no
def k_sidx (i : E) (ρ : Env) (x : U) (m : Mem) : R U := (evE F i ρ m).bind (k_sidx2 x)
def k_sto2 (x y : U) (m : Mem) : R U := match x, y with
    | .d (.scr ns), .d (.int k) => .ok (.d (.lst (cutL (ns.map .int) none (some k)))) m
    | _, _ => .no
def k_sto (i : E) (ρ : Env) (x : U) (m : Mem) : R U := (evE F i ρ m).bind (k_sto2 x)
theorem e_var (i : Nat) (ρ : Env) (m : Mem) : evE F (.var i) ρ m = match ρ[i]? with
    | some (some u) => .ok u m
    | _ => .no := rfl
theorem e_cst (d : D) (ρ : Env) (m : Mem) : evE F (.cst d) ρ m = .ok (.d d) m := rfl
theorem e_glb (d : D) (ρ : Env) (m : Mem) : evE F (.glb d) ρ m = .ok (.d d) m := rfl
theorem e_tup (es : Es) (ρ : Env) (m : Mem) : evE F (.tup es) ρ m = (evEs F es ρ m).bind k_tup := rfl
theorem e_lst (es : Es) (ρ : Env) (m : Mem) : evE F (.lst es) ρ m = (evEs F es ρ m).bind k_lst := rfl
theorem e_nlst (es : Es) (ρ : Env) (m : Mem) : evE F (.nlst es) ρ m = (evEs F es ρ m).bind k_nlst := rfl
theorem e_ndic (ρ : Env) (m : Mem) : evE F .ndic ρ m = .ok (.cell m.length) (m ++ [.dic []]) := rfl
theorem e_ddic (ρ : Env) (m : Mem) : evE F .ddic ρ m = .ok (.d (.dic [])) m := rfl
theorem e_bin (op : Bop) (a b : E) (ρ : Env) (m : Mem) : evE F (.bin op a b) ρ m = (evE F a ρ m).bind (k_bin F op b ρ) := rfl
theorem e_neg (a : E) (ρ : Env) (m : Mem) : evE F (.neg a) ρ m = (evE F a ρ m).bind k_neg := rfl
theorem e_cmp (op : Cop) (a b : E) (ρ : Env) (m : Mem) : evE F (.cmp op a b) ρ m = (evE F a ρ m).bind (k_cmp F op b ρ) := rfl
theorem e_ch (p q : Cop) (a b c : E) (ρ : Env) (m : Mem) : evE F (.chain p q a b c) ρ m = (evE F a ρ m).bind (k_ch F p q b c ρ) := rfl
theorem e_conj (es : Es) (ρ : Env) (m : Mem) : evE F (.conj es) ρ m = (evCj F true es ρ m).bind k_bl := rfl
theorem e_disj (es : Es) (ρ : Env) (m : Mem) : evE F (.disj es) ρ m = (evCj F false es ρ m).bind k_bl := rfl
theorem e_inv (a : E) (ρ : Env) (m : Mem) : evE F (.inv a) ρ m = (evE F a ρ m).bind k_inv := rfl
theorem e_ife (c a b : E) (ρ : Env) (m : Mem) : evE F (.ite c a b) ρ m = (evE F c ρ m).bind (k_ife F a b ρ) := rfl
theorem e_idx (a i : E) (ρ : Env) (m : Mem) : evE F (.idx a i) ρ m = (evE F a ρ m).bind (k_idx F i ρ) := rfl
theorem e_to (a i : E) (ρ : Env) (m : Mem) : evE F (.slTo a i) ρ m = (evE F a ρ m).bind (k_to F i ρ) := rfl
theorem e_fr (a i : E) (ρ : Env) (m : Mem) : evE F (.slFr a i) ρ m = (evE F a ρ m).bind (k_fr F i ρ) := rfl
theorem e_slen (a : E) (ρ : Env) (m : Mem) : evE F (.slen a) ρ m = (evE F a ρ m).bind k_slen := rfl
theorem e_sidx (a i : E) (ρ : Env) (m : Mem) : evE F (.sidx a i) ρ m = (evE F a ρ m).bind (k_sidx F i ρ) := rfl
theorem e_sto (a i : E) (ρ : Env) (m : Mem) : evE F (.sto a i) ρ m = (evE F a ρ m).bind (k_sto F i ρ) := rfl
theorem e_call (f : Nat) (es : Es) (dv : List D) (ρ : Env) (m : Mem) : evE F (.call f es dv) ρ m = (evEs F es ρ m).bind (k_call F f dv) := rfl
theorem e_calk (f : Nat) (perm : List Nat) (es : Es) (ρ : Env) (m : Mem) : evE F (.callK f perm es) ρ m = (evEs F es ρ m).bind (k_calk F f perm) := rfl
theorem e_blt (b : Blt) (es : Es) (ρ : Env) (m : Mem) : evE F (.blt b es) ρ m = (evEs F es ρ m).bind (k_blt b) := rfl
theorem e_isi (a : E) (t : Ty) (ρ : Env) (m : Mem) : evE F (.isi a t) ρ m = (evE F a ρ m).bind (k_isi t) := rfl
theorem e_mth (f : Mth) (o e : E) (ρ : Env) (m : Mem) : evE F (.mth f o e) ρ m = (evE F o ρ m).bind (k_mth F f e ρ) := rfl
theorem e_sit (o : E) (ρ : Env) (m : Mem) : evE F (.sitems o) ρ m = (evE F o ρ m).bind k_sit := rfl
theorem e_lc (own : List Nat) (tg : Tg) (it : It) (cs : Es) (e : E) (ρ : Env) (m : Mem) : evE F (.lc own tg it cs e) ρ m = (evIt F it ρ m).bind (k_lc F own tg cs e ρ) := rfl
def k_c2 (x : U) (xs : List U) (m : Mem) : R (List U) := .ok (x :: xs) m
def k_c (es : Es) (ρ : Env) (x : U) (m : Mem) : R (List U) := (evEs F es ρ m).bind (k_c2 x)
theorem es_nil (ρ : Env) (m : Mem) : evEs F .nil ρ m = .ok [] m := rfl
theorem es_cons (e : E) (es : Es) (ρ : Env) (m : Mem) : evEs F (.cons e es) ρ m = (evE F e ρ m).bind (k_c F es ρ) := rfl
def k_cj (b : Bool) (es : Es) (ρ : Env) (x : U) (m : Mem) : R Bool := match x with
    | .d (.bl k) => if k = b then evCj F b es ρ m else .ok k m
    | _ => .no
theorem cj_nil (b : Bool) (ρ : Env) (m : Mem) : evCj F b .nil ρ m = .ok b m := rfl
theorem cj_cons (b : Bool) (e : E) (es : Es) (ρ : Env) (m : Mem) : evCj F b (.cons e es) ρ m = (evE F e ρ m).bind (k_cj F b es ρ) := rfl
theorem cj_two (b : Bool) (e e' : E) (es : Es) (ρ : Env) (m : Mem) : evCj F b (.cons e (.cons e' es)) ρ m = (evE F e ρ m).bind (k_cj F b (.cons e' es) ρ) := rfl
theorem cj_last (b : Bool) (e : E) (ρ : Env) (m : Mem) : evCj F b (.cons e .nil) ρ m = (evE F e ρ m).bind k_b := by
  rw [cj_cons]
  congr 1
  funext x m1
  unfold k_cj k_b asB
  split
  · rename_i k
    by_cases h : k = b
    · rw [if_pos h, cj_nil, h]; rfl
    · rw [if_neg h]; rfl
  · cases x with
    | cell n => rfl
    | d y => cases y <;> first | rfl | (rename_i h; exact absurd rfl (h _))
def k_seqI (x : U) (m : Mem) : R (List D × Option Nat) := ofO (seqIt m x) m
def k_rng (x : U) (m : Mem) : R (List D × Option Nat) := match x with
    | .d (.int n) => ofO ((tyRange n).map fun xs => (xs, none)) m
    | _ => .no
def k_enum (x : U) (m : Mem) : R (List D × Option Nat) := ofO ((seqO m x).map fun xs => (numbered xs, cellG x)) m
theorem i_seq (e : E) (ρ : Env) (m : Mem) : evIt F (.seq e) ρ m = (evE F e ρ m).bind k_seqI := rfl
theorem i_rng (e : E) (ρ : Env) (m : Mem) : evIt F (.rng e) ρ m = (evE F e ρ m).bind k_rng := rfl
theorem i_enum (e : E) (ρ : Env) (m : Mem) : evIt F (.enum e) ρ m = (evE F e ρ m).bind k_enum := rfl
def k_sub3 (ρ : Env) (u x y : U) (m : Mem) : R Env := match setD m x y u with
    | some m3 => .ok ρ m3
    | none => .no
def k_sub (i : E) (ρ : Env) (u x : U) (m : Mem) : R Env := (evE F i ρ m).bind (k_sub3 ρ u x)
def k_ts (ts : Tgs) (xs : List D) (ρ : Env) (m : Mem) : R Env := assTs F ts xs ρ m
theorem t_nm (i : Nat) (u : U) (ρ : Env) (m : Mem) : assT F (.nm i) u ρ m = .ok (ρ.set i (some u)) m := rfl
theorem t_sub (o i : E) (u : U) (ρ : Env) (m : Mem) : assT F (.sub o i) u ρ m = (evE F o ρ m).bind (k_sub F i ρ u) := rfl
theorem t_tp (ts : Tgs) (xs : List D) (ρ : Env) (m : Mem) : assT F (.tp ts) (.d (.tup xs)) ρ m = assTs F ts xs ρ m := rfl
theorem ts_nil (ρ : Env) (m : Mem) : assTs F .nil [] ρ m = .ok ρ m := rfl
theorem ts_cons (t : Tg) (ts : Tgs) (x : D) (xs : List D) (ρ : Env) (m : Mem) : assTs F (.cons t ts) (x :: xs) ρ m = (assT F t (.d x) ρ m).bind (k_ts F ts xs) := rfl
def k_fB (b : Ss) (ρ : Env) (m : Mem) : R O := exSs F b ρ m
theorem fB (t : Tg) (b : Ss) (u : U) (ρ : Env) (m : Mem) : forB F t b u ρ m = (assT F t u ρ m).bind (k_fB F b) := rfl
def k_lB3 (y : U) (m : Mem) : R (Option D) := match y with
          | .d z => .ok (some z) m
          | .cell _ => .no
def k_lB2 (e : E) (ρ : Env) (k : Bool) (m : Mem) : R (Option D) := match k with
        | false => .ok none m
        | true => (evE F e ρ m).bind k_lB3
def k_lB (cs : Es) (e : E) (ρ : Env) (m : Mem) : R (Option D) := (evCj F true cs ρ m).bind (k_lB2 F e ρ)
theorem lB (own : List Nat) (tg : Tg) (cs : Es) (e : E) (ρ : Env) (x : D) (m : Mem) : lcB F own tg cs e ρ x m = (assT F tg (.d x) (wipeE ρ own) m).bind (k_lB F cs e) := rfl
end
end DL
set_option linter.all false
set_option maxRecDepth 100000
namespace DL
/-- is_integer (value 0) -/
def a_is_integer_0 : Ss := (.cons (.ret (.conj (.cons (.isi (.var 0) .int) (.cons (.inv (.isi (.var 0) .bool)) .nil))))
  .nil)
/-- is_within (value 0, least 1, most 2) -/
def a_is_within_1 : Ss := (.cons (.ret (.conj (.cons (.call 0 (.cons (.var 0) .nil) []) (.cons (.chain .le .le (.var 1) (.var 0) (.var 2)) .nil))))
  .nil)
/-- read_number (word 0, digits 1, sign 2, number 3) -/
def a_read_number_2 : Ss := (.cons (.asg (.nm 1) (.ite (.mth .startswith (.var 0) (.cst (.str [45]))) (.slFr (.var 0) (.cst (.int 1))) (.var 0)))
  (.cons (.ite (.disj (.cons (.cmp .eq (.var 1) (.cst (.str []))) (.cons (.cmp .gt (.blt .len (.cons (.var 1) .nil)) (.cst (.int 80))) (.cons (.inv (.blt .all (.cons (.lc [2] (.nm 2) (.seq (.var 1)) .nil (.cmp .isin (.var 2) (.glb (.str [48, 49, 50, 51, 52, 53, 54, 55, 56, 57])))) .nil))) .nil)))) (.cons (.ret (.cst .non)) .nil) .nil)
  (.cons (.asg (.nm 3) (.blt .int (.cons (.var 0) .nil)))
  (.cons (.ret (.ite (.cmp .eq (.blt .str (.cons (.var 3) .nil)) (.var 0)) (.var 3) (.cst .non)))
  .nil))))
/-- is_band (value 0, before 1, least 2, most 3) -/
def a_is_band_3 : Ss := (.cons (.ite (.disj (.cons (.inv (.isi (.var 0) .tuple)) (.cons (.cmp .ne (.blt .len (.cons (.var 0) .nil)) (.cst (.int 3))) (.cons (.inv (.call 1 (.cons (.idx (.var 0) (.cst (.int 1))) (.cons (.cst (.int 0)) (.cons (.glb (.int 100000000000000000000000000000000)) .nil))) [])) .nil)))) (.cons (.ret (.cst (.bl false))) .nil) .nil)
  (.cons (.ite (.inv (.call 1 (.cons (.idx (.var 0) (.cst (.int 2))) (.cons (.neg (.glb (.int 1000))) (.cons (.glb (.int 1000)) .nil))) [])) (.cons (.ret (.cst (.bl false))) .nil) .nil)
  (.cons (.asg (.tp (.cons (.nm 2) (.cons (.nm 3) .nil))) (.ite (.cmp .is (.var 1) (.cst .non)) (.tup (.cons (.cst (.int 0)) (.cons (.cst (.int 0)) .nil))) (.tup (.cons (.bin .add (.var 1) (.cst (.int 1))) (.cons (.glb (.int 100000000000000000000000000000)) .nil)))))
  (.cons (.ret (.call 1 (.cons (.idx (.var 0) (.cst (.int 0))) (.cons (.var 2) (.cons (.var 3) .nil))) []))
  .nil))))
/-- wrong_band (bands 0, before 1, at 2, band 3) -/
def a_wrong_band_4 : Ss := (.cons (.asg (.nm 1) (.cst .non)) (.cons (.for_ (.tp (.cons (.nm 2) (.cons (.nm 3) .nil))) (.enum (.var 0)) (.cons (.ite (.disj (.cons (.inv (.call 3 (.cons (.var 3) (.cons (.var 1) .nil)) [])) (.cons (.cmp .ge (.var 2) (.glb (.int 8))) .nil))) (.cons (.ret (.var 2)) .nil) .nil)
  (.cons (.asg (.nm 1) (.idx (.var 3) (.cst (.int 0))))
  .nil)))
  (.cons (.ret (.cst .non)) .nil)))
/-- last_of (bands 0, at 1) -/
def a_last_of_5 : Ss := (.cons (.ret (.ite (.cmp .lt (.bin .add (.var 1) (.cst (.int 1))) (.blt .len (.cons (.var 0) .nil))) (.bin .sub (.idx (.idx (.var 0) (.bin .add (.var 1) (.cst (.int 1)))) (.cst (.int 0))) (.cst (.int 1))) (.cst .non)))
  .nil)
/-- left_in (band 0, income 1) -/
def a_left_in_6 : Ss := (.cons (.ret (.bin .add (.idx (.var 0) (.cst (.int 1))) (.bin .mul (.idx (.var 0) (.cst (.int 2))) (.bin .sub (.var 1) (.idx (.var 0) (.cst (.int 0)))))))
  .nil)
/-- lowest_band (bands 0, at 1, band 2, last 3) -/
def a_lowest_band_7 : Ss := (.cons (.for_ (.tp (.cons (.nm 1) (.cons (.nm 2) .nil))) (.enum (.var 0)) (.cons (.asg (.nm 3) (.call 5 (.cons (.var 0) (.cons (.var 1) .nil)) []))
  (.cons (.ite (.disj (.cons (.conj (.cons (.cmp .is (.var 3) (.cst .non)) (.cons (.cmp .lt (.idx (.var 2) (.cst (.int 2))) (.cst (.int 0))) .nil))) (.cons (.conj (.cons (.cmp .isnot (.var 3) (.cst .non)) (.cons (.cmp .lt (.call 6 (.cons (.var 2) (.cons (.var 3) .nil)) []) (.cst (.int 0))) .nil))) .nil))) (.cons (.ret (.var 1)) .nil) .nil)
  .nil)))
  (.cons (.ret (.cst .non)) .nil))
/-- are_bands (bands 0) -/
def a_are_bands_8 : Ss := (.cons (.ite (.disj (.cons (.inv (.isi (.var 0) .tuple)) (.cons (.cmp .eq (.blt .len (.cons (.var 0) .nil)) (.cst (.int 0))) .nil))) (.cons (.ret (.cst (.bl false))) .nil) .nil)
  (.cons (.ret (.conj (.cons (.cmp .is (.call 4 (.cons (.var 0) .nil) []) (.cst .non)) (.cons (.cmp .is (.call 7 (.cons (.var 0) .nil) []) (.cst .non)) .nil))))
  .nil))
/-- read_band (line 0, words 1, word 2, numbers 3) -/
def a_read_band_9 : Ss := (.cons (.asg (.nm 1) (.mth .split (.var 0) (.cst (.str [32]))))
  (.cons (.ite (.disj (.cons (.cmp .ne (.blt .len (.cons (.var 1) .nil)) (.cst (.int 6))) (.cons (.cmp .ne (.step 0 (.var 1)) (.lst (.cons (.cst (.str [102, 114, 111, 109])) (.cons (.cst (.str [118, 97, 108, 117, 101])) (.cons (.cst (.str [115, 116, 101, 112])) .nil))))) .nil))) (.cons (.ret (.cst .non)) .nil) .nil)
  (.cons (.asg (.nm 3) (.lc [2] (.nm 2) (.seq (.step 1 (.var 1))) .nil (.call 2 (.cons (.var 2) .nil) [])))
  (.cons (.ret (.ite (.cmp .isin (.cst .non) (.var 3)) (.cst .non) (.blt .tuple (.cons (.var 3) .nil))))
  .nil))))
/-- read_rule (text 0, line 1, bands 2) -/
def a_read_rule_10 : Ss := (.cons (.ite (.inv (.isi (.var 0) .str)) (.cons (.ret (.cst .non)) .nil) .nil)
  (.cons (.asg (.nm 2) (.blt .tuple (.cons (.lc [1] (.nm 1) (.seq (.mth .split (.var 0) (.cst (.str [10])))) .nil (.call 9 (.cons (.var 1) .nil) [])) .nil)))
  (.cons (.ret (.ite (.call 8 (.cons (.var 2) .nil) []) (.var 2) (.cst .non)))
  .nil)))
/-- band_at (bands 0, income 1, at 2, band 3) -/
def a_band_at_11 : Ss := (.cons (.ret (.idx (.lc [2, 3] (.tp (.cons (.nm 2) (.cons (.nm 3) .nil))) (.enum (.var 0)) (.cons (.cmp .le (.idx (.var 3) (.cst (.int 0))) (.var 1)) .nil) (.var 2)) (.neg (.cst (.int 1)))))
  .nil)
/-- fall_of (rule 0, at 1, band 2, last 3) -/
def a_fall_of_12 : Ss := (.cons (.for_ (.tp (.cons (.nm 1) (.cons (.nm 2) .nil))) (.enum (.prop 65 0 (.var 0))) (.cons (.asg (.nm 3) (.call 5 (.cons (.prop 65 0 (.var 0)) (.cons (.var 1) .nil)) []))
  (.cons (.ite (.conj (.cons (.cmp .lt (.idx (.var 2) (.cst (.int 2))) (.cst (.int 0))) (.cons (.cmp .ne (.var 3) (.idx (.var 2) (.cst (.int 0)))) .nil))) (.cons (.ret (.idx (.var 2) (.cst (.int 0)))) .nil) .nil)
  (.cons (.ite (.conj (.cons (.cmp .isnot (.var 3) (.cst .non)) (.cons (.cmp .gt (.meth 66 0 (.var 0) (.cons (.var 3) .nil)) (.meth 66 0 (.var 0) (.cons (.bin .add (.var 3) (.cst (.int 1))) .nil))) .nil))) (.cons (.ret (.var 3)) .nil) .nil)
  .nil))))
  (.cons (.ret (.cst .non)) .nil))
/-- is_kind (value 0, before 1, most 2) -/
def a_is_kind_13 : Ss := (.cons (.ite (.disj (.cons (.inv (.isi (.var 0) .tuple)) (.cons (.cmp .ne (.blt .len (.cons (.var 0) .nil)) (.cst (.int 2))) .nil))) (.cons (.ret (.cst (.bl false))) .nil) .nil)
  (.cons (.ret (.conj (.cons (.call 1 (.cons (.idx (.var 0) (.cst (.int 0))) (.cons (.bin .add (.var 1) (.cst (.int 1))) (.cons (.var 2) .nil))) []) (.cons (.call 1 (.cons (.idx (.var 0) (.cst (.int 1))) (.cons (.cst (.int 1)) (.cons (.glb (.int 1000000000000000000000000000000000000000000000000000000000000000000000000)) .nil))) []) .nil))))
  .nil))
/-- wrong_kind (kinds 0, most 1, before 2, at 3, kind 4) -/
def a_wrong_kind_14 : Ss := (.cons (.asg (.nm 2) (.neg (.cst (.int 1)))) (.cons (.for_ (.tp (.cons (.nm 3) (.cons (.nm 4) .nil))) (.enum (.var 0)) (.cons (.ite (.disj (.cons (.inv (.call 13 (.cons (.var 4) (.cons (.var 2) (.cons (.var 1) .nil))) [])) (.cons (.cmp .ge (.var 3) (.glb (.int 30))) .nil))) (.cons (.ret (.var 3)) .nil) .nil)
  (.cons (.asg (.nm 2) (.idx (.var 4) (.cst (.int 0))))
  .nil)))
  (.cons (.ret (.cst .non)) .nil)))
/-- are_kinds (kinds 0, most 1) -/
def a_are_kinds_15 : Ss := (.cons (.ret (.conj (.cons (.isi (.var 0) .tuple) (.cons (.cmp .gt (.blt .len (.cons (.var 0) .nil)) (.cst (.int 0))) (.cons (.cmp .is (.call 14 (.cons (.var 0) (.cons (.var 1) .nil)) []) (.cst .non)) .nil)))))
  .nil)
/-- read_kind (line 0, words 1) -/
def a_read_kind_16 : Ss := (.cons (.asg (.nm 1) (.mth .split (.var 0) (.cst (.str [32]))))
  (.cons (.ite (.disj (.cons (.cmp .ne (.blt .len (.cons (.var 1) .nil)) (.cst (.int 3))) (.cons (.cmp .ne (.idx (.var 1) (.cst (.int 1))) (.cst (.str [111, 102]))) .nil))) (.cons (.ret (.cst .non)) .nil) .nil)
  (.cons (.ret (.tup (.cons (.call 2 (.cons (.idx (.var 1) (.cst (.int 2))) .nil) []) (.cons (.call 2 (.cons (.idx (.var 1) (.cst (.int 0))) .nil) []) .nil))))
  .nil)))
/-- read_purse (text 0, line 1, kinds 2) -/
def a_read_purse_17 : Ss := (.cons (.ite (.inv (.isi (.var 0) .str)) (.cons (.ret (.cst .non)) .nil) .nil)
  (.cons (.asg (.nm 2) (.blt .tuple (.cons (.lc [1] (.nm 1) (.seq (.mth .split (.var 0) (.cst (.str [10])))) .nil (.call 16 (.cons (.var 1) .nil) [])) .nil)))
  (.cons (.ret (.ite (.call 15 (.cons (.var 2) (.cons (.glb (.int 1000000000000000000000000000000000000)) .nil)) []) (.var 2) (.cst .non)))
  .nil)))
/-- people_of (kinds 0, amount 1, count 2) -/
def a_people_of_18 : Ss := (.cons (.ret (.blt .sum (.cons (.lc [1, 2] (.tp (.cons (.nm 1) (.cons (.nm 2) .nil))) (.seq (.var 0)) .nil (.var 2)) .nil)))
  .nil)
/-- total_of (kinds 0, amount 1, count 2) -/
def a_total_of_19 : Ss := (.cons (.ret (.blt .sum (.cons (.lc [1, 2] (.tp (.cons (.nm 1) (.cons (.nm 2) .nil))) (.seq (.var 0)) .nil (.bin .mul (.var 1) (.var 2))) .nil)))
  .nil)
/-- kinds_behind (rule 0, kinds 1, found 2, amount 3, count 4, left 5) -/
def a_kinds_behind_20 : Ss := (.cons (.asg (.nm 2) .ndic) (.cons (.for_ (.tp (.cons (.nm 3) (.cons (.nm 4) .nil))) (.seq (.var 1)) (.cons (.asg (.nm 5) (.meth 66 0 (.var 0) (.cons (.var 3) .nil)))
  (.cons (.asg (.sub (.var 2) (.var 5)) (.bin .add (.get (.var 2) (.var 5) (.cst (.int 0))) (.var 4)))
  .nil)))
  (.cons (.ret (.blt .tuple (.cons (.blt .sorted (.cons (.litems (.var 2)) .nil)) .nil)))
  .nil)))
/-- share_of (kinds 0, part 1, whole 2, total 3, people 4, found 5, before 6, amount 7, count 8) -/
def a_share_of_21 : Ss := (.cons (.par [3, 4] (.cons (.call 19 (.cons (.var 0) .nil) []) (.cons (.call 18 (.cons (.var 0) .nil) []) .nil)))
  (.cons (.ite (.cmp .eq (.var 3) (.cst (.int 0))) (.cons (.ret (.tup (.cons (.var 1) (.cons (.var 2) .nil))))
  .nil) .nil)
  (.cons (.asg (.tp (.cons (.nm 5) (.cons (.nm 6) .nil))) (.tup (.cons (.cst (.int 0)) (.cons (.cst (.int 0)) .nil))))
  (.cons (.for_ (.tp (.cons (.nm 7) (.cons (.nm 8) .nil))) (.seq (.var 0)) (.cons (.aug 5 .add (.bin .mul (.var 7) (.blt .min (.cons (.bin .mul (.var 2) (.var 8)) (.cons (.blt .max (.cons (.cst (.int 0)) (.cons (.bin .sub (.bin .mul (.var 1) (.var 4)) (.bin .mul (.var 2) (.var 6))) .nil))) .nil)))))
  (.cons (.aug 6 .add (.var 8)) .nil)))
  (.cons (.ret (.tup (.cons (.var 5) (.cons (.bin .mul (.var 2) (.var 3)) .nil))))
  .nil)))))
/-- bends_of (kinds 0, people 1, before 2, found 3, amount 4, count 5) -/
def a_bends_of_22 : Ss := (.cons (.par [1, 2, 3] (.cons (.call 18 (.cons (.var 0) .nil) []) (.cons (.cst (.int 0)) (.cons (.nlst .nil) .nil))))
  (.cons (.for_ (.tp (.cons (.nm 4) (.cons (.nm 5) .nil))) (.seq (.var 0)) (.cons (.aug 2 .add (.var 5)) (.cons (.app (.var 3) (.tup (.cons (.var 2) (.cons (.var 1) .nil))))
  .nil)))
  (.cons (.ret (.var 3)) .nil)))
/-- first_crossing (first 0, second 1, part 2, whole 3, one 4, other 5) -/
def a_first_crossing_23 : Ss := (.cons (.for_ (.tp (.cons (.nm 2) (.cons (.nm 3) .nil))) (.seq (.bin .add (.call 22 (.cons (.var 0) .nil) []) (.call 22 (.cons (.var 1) .nil) []))) (.cons (.par [4, 5] (.cons (.call 21 (.cons (.var 0) (.cons (.var 2) (.cons (.var 3) .nil))) []) (.cons (.call 21 (.cons (.var 1) (.cons (.var 2) (.cons (.var 3) .nil))) []) .nil)))
  (.cons (.ite (.cmp .lt (.bin .mul (.idx (.var 4) (.cst (.int 0))) (.idx (.var 5) (.cst (.int 1)))) (.bin .mul (.idx (.var 5) (.cst (.int 0))) (.idx (.var 4) (.cst (.int 1))))) (.cons (.ret (.tup (.cons (.var 2) (.cons (.var 3) .nil))))
  .nil) .nil)
  .nil)))
  (.cons (.ret (.cst .non)) .nil))
/-- as_even (first 0, second 1) -/
def a_as_even_24 : Ss := (.cons (.ret (.cmp .is (.call 23 (.cons (.var 0) (.cons (.var 1) .nil)) []) (.cst .non)))
  .nil)
/-- moves_of (first 0, second 1, found 2, here 3, there 4, many 5, side 6, amount 7, count 8) -/
def a_moves_of_25 : Ss := (.cons (.par [2, 3, 4] (.cons (.nlst .nil) (.cons (.blt .list (.cons (.var 0) .nil)) (.cons (.blt .list (.cons (.var 1) .nil)) .nil))))
  (.cons .stuck (.cons (.ret (.var 2)) .nil)))
/-- least_gifts (first 0, second 1, amount 2, above 3, many 4) -/
def a_least_gifts_26 : Ss := (.cons (.ite (.disj (.cons (.cmp .ne (.call 18 (.cons (.var 0) .nil) []) (.call 18 (.cons (.var 1) .nil) [])) (.cons (.cmp .ne (.call 19 (.cons (.var 0) .nil) []) (.call 19 (.cons (.var 1) .nil) [])) (.cons (.inv (.call 24 (.cons (.var 1) (.cons (.var 0) .nil)) [])) .nil)))) (.cons (.ret (.cst .non)) .nil) .nil)
  (.cons (.ret (.blt .sum (.cons (.lc [2, 3, 4] (.tp (.cons (.nm 2) (.cons (.nm 3) (.cons (.nm 4) .nil)))) (.seq (.call 25 (.cons (.var 0) (.cons (.var 1) .nil)) [])) (.cons (.cmp .gt (.var 3) (.cst (.int 0))) .nil) (.bin .mul (.var 3) (.var 4))) .nil)))
  .nil))
/-- stretches_of (one 0, other 1, band 2, starts 3, at 4, start 5) -/
def a_stretches_of_27 : Ss := (.cons (.asg (.nm 3) (.sset (.lc [2] (.nm 2) (.seq (.bin .add (.prop 65 0 (.var 0)) (.prop 65 0 (.var 1)))) .nil (.idx (.var 2) (.cst (.int 0))))))
  (.cons (.ret (.lc [4, 5] (.tp (.cons (.nm 4) (.cons (.nm 5) .nil))) (.enum (.var 3)) .nil (.tup (.cons (.var 5) (.cons (.ite (.cmp .lt (.bin .add (.var 4) (.cst (.int 1))) (.blt .len (.cons (.var 3) .nil))) (.bin .sub (.idx (.var 3) (.bin .add (.var 4) (.cst (.int 1)))) (.cst (.int 1))) (.cst .non)) .nil)))))
  .nil))
/-- inner_pair (stretch 0) -/
def a_inner_pair_28 : Ss := (.cons (.ret (.ite (.cmp .eq (.idx (.var 0) (.cst (.int 1))) (.idx (.var 0) (.cst (.int 0)))) (.cst .non) (.idx (.var 0) (.cst (.int 0)))))
  .nil)
/-- left_by (one 0, other 1, income 2) -/
def a_left_by_29 : Ss := (.cons (.ret (.tup (.cons (.meth 66 0 (.var 0) (.cons (.var 2) .nil)) (.cons (.meth 66 0 (.var 0) (.cons (.bin .add (.var 2) (.cst (.int 1))) .nil)) (.cons (.meth 66 0 (.var 1) (.cons (.var 2) .nil)) (.cons (.meth 66 0 (.var 1) (.cons (.bin .add (.var 2) (.cst (.int 1))) .nil)) .nil))))))
  .nil)
/-- keeps (row 0, here 1, there 2, low 3, high 4) -/
def a_keeps_30 : Ss := (.cons (.asg (.tp (.cons (.nm 1) (.cons (.nm 2) (.cons (.nm 3) (.cons (.nm 4) .nil))))) (.var 0))
  (.cons (.ret (.ite (.cmp .eq (.var 3) (.var 4)) (.cmp .eq (.var 1) (.var 2)) (.cmp .le (.var 1) (.var 2))))
  .nil))
/-- is_fine (row 0, lump 1, here 2, there 3, low 4, high 5) -/
def a_is_fine_31 : Ss := (.cons (.asg (.tp (.cons (.nm 2) (.cons (.nm 3) (.cons (.nm 4) (.cons (.nm 5) .nil))))) (.var 0))
  (.cons (.ret (.conj (.cons (.call 30 (.cons (.var 0) .nil) []) (.cons (.cmp .ge (.bin .mul (.bin .add (.var 2) (.var 1)) (.var 5)) (.bin .mul (.bin .add (.var 3) (.var 1)) (.var 4))) .nil))))
  .nil))
/-- marks_of (one 0, other 1, found 2, stretch 3, lower 4, last 5) -/
def a_marks_of_32 : Ss := (.cons (.asg (.nm 2) (.nlst .nil)) (.cons (.for_ (.nm 3) (.seq (.call 27 (.cons (.var 0) (.cons (.var 1) .nil)) [])) (.cons (.asg (.nm 4) (.call 28 (.cons (.var 3) .nil) []))
  (.cons (.ite (.cmp .isnot (.var 4) (.cst .non)) (.cons (.asg (.nm 5) (.ite (.cmp .is (.idx (.var 3) (.cst (.int 1))) (.cst .non)) (.cst .non) (.bin .sub (.idx (.var 3) (.cst (.int 1))) (.cst (.int 1)))))
  (.cons (.app (.var 2) (.tup (.cons (.var 4) (.cons (.var 5) (.cons (.call 29 (.cons (.var 0) (.cons (.var 1) (.cons (.var 4) .nil))) []) .nil)))))
  .nil)) .nil)
  (.cons (.ite (.cmp .isnot (.idx (.var 3) (.cst (.int 1))) (.cst .non)) (.cons (.app (.var 2) (.tup (.cons (.idx (.var 3) (.cst (.int 1))) (.cons (.idx (.var 3) (.cst (.int 1))) (.cons (.call 29 (.cons (.var 0) (.cons (.var 1) (.cons (.idx (.var 3) (.cst (.int 1))) .nil))) []) .nil)))))
  .nil) .nil)
  .nil))))
  (.cons (.ret (.var 2)) .nil)))
/-- first_break (one 0, other 1, first 2, last 3, row 4) -/
def a_first_break_33 : Ss := (.cons (.for_ (.tp (.cons (.nm 2) (.cons (.nm 3) (.cons (.nm 4) .nil)))) (.seq (.call 32 (.cons (.var 0) (.cons (.var 1) .nil)) [])) (.cons (.ite (.inv (.call 31 (.cons (.var 4) .nil) [(.int 0)])) (.cons (.ret (.var 2)) .nil) .nil)
  .nil))
  (.cons (.ret (.cst .non)) .nil))
/-- is_count (value 0) -/
def a_is_count_34 : Ss := (.cons (.ret (.conj (.cons (.call 0 (.cons (.var 0) .nil) []) (.cons (.cmp .ge (.var 0) (.cst (.int 0))) .nil))))
  .nil)
/-- is_less (first 0, second 1, certificate 2, part 3, whole 4, one 5, other 6) -/
def a_is_less_35 : Ss := (.cons (.ite (.disj (.cons (.inv (.isi (.var 2) .tuple)) (.cons (.cmp .ne (.blt .len (.cons (.var 2) .nil)) (.cst (.int 2))) (.cons (.inv (.blt .all (.cons (.lc [3] (.nm 3) (.seq (.var 2)) .nil (.call 34 (.cons (.var 3) .nil) [])) .nil))) .nil)))) (.cons (.ret (.cst (.bl false))) .nil) .nil)
  (.cons (.asg (.tp (.cons (.nm 3) (.cons (.nm 4) .nil))) (.var 2))
  (.cons (.ite (.disj (.cons (.cmp .lt (.var 4) (.cst (.int 1))) (.cons (.cmp .gt (.var 3) (.var 4)) .nil))) (.cons (.ret (.cst (.bl false))) .nil) .nil)
  (.cons (.par [5, 6] (.cons (.call 21 (.cons (.var 0) (.cons (.var 3) (.cons (.var 4) .nil))) []) (.cons (.call 21 (.cons (.var 1) (.cons (.var 3) (.cons (.var 4) .nil))) []) .nil)))
  (.cons (.ret (.cmp .lt (.bin .mul (.idx (.var 5) (.cst (.int 0))) (.idx (.var 6) (.cst (.int 1)))) (.bin .mul (.idx (.var 6) (.cst (.int 0))) (.idx (.var 5) (.cst (.int 1))))))
  .nil)))))
/-- is_empty (value 0) -/
def a_is_empty_36 : Ss := (.cons (.ret (.conj (.cons (.isi (.var 0) .tuple) (.cons (.cmp .eq (.blt .len (.cons (.var 0) .nil)) (.cst (.int 0))) .nil))))
  .nil)
/-- sums_by (rows 0, found 1, kind 2, many 3) -/
def a_sums_by_37 : Ss := (.cons (.asg (.nm 1) .ndic) (.cons (.for_ (.tp (.cons (.nm 2) (.cons (.nm 3) .nil))) (.seq (.var 0)) (.cons (.asg (.sub (.var 1) (.var 2)) (.bin .add (.get (.var 1) (.var 2) (.cst (.int 0))) (.var 3)))
  .nil))
  (.cons .stuck .nil)))
/-- are_gifts (first 0, second 1, many 2, certificate 3, gift 4, part 5, pairs 6, moves 7, amount 8, above 9, count 10, given 11, got 12) -/
def a_are_gifts_38 : Ss := (.cons (.ite (.disj (.cons (.inv (.isi (.var 3) .tuple)) (.cons (.cmp .ne (.call 26 (.cons (.var 0) (.cons (.var 1) .nil)) []) (.var 2)) .nil))) (.cons (.ret (.cst (.bl false))) .nil) .nil)
  (.cons (.for_ (.nm 4) (.seq (.var 3)) (.cons (.ite (.disj (.cons (.inv (.isi (.var 4) .tuple)) (.cons (.cmp .ne (.blt .len (.cons (.var 4) .nil)) (.cst (.int 3))) (.cons (.inv (.blt .all (.cons (.lc [5] (.nm 5) (.seq (.var 4)) .nil (.call 34 (.cons (.var 5) .nil) [])) .nil))) (.cons (.cmp .lt (.idx (.var 4) (.cst (.int 2))) (.cst (.int 1))) .nil))))) (.cons (.ret (.cst (.bl false))) .nil) .nil)
  (.cons (.ite (.cmp .le (.idx (.var 4) (.cst (.int 0))) (.idx (.var 4) (.cst (.int 1)))) (.cons (.ret (.cst (.bl false))) .nil) .nil)
  .nil)))
  (.cons (.asg (.nm 6) (.lc [4] (.nm 4) (.seq (.var 3)) .nil (.slTo (.var 4) (.cst (.int 2)))))
  (.cons .stuck (.cons (.asg (.nm 7) (.call 25 (.cons (.var 0) (.cons (.var 1) .nil)) []))
  (.cons (.asg (.nm 11) (.call 37 (.cons (.lc [8, 9, 10] (.tp (.cons (.nm 8) (.cons (.nm 9) (.cons (.nm 10) .nil)))) (.seq (.var 7)) (.cons (.cmp .gt (.var 9) (.cst (.int 0))) .nil) (.tup (.cons (.var 8) (.cons (.bin .mul (.var 9) (.var 10)) .nil)))) .nil) []))
  (.cons (.asg (.nm 12) (.call 37 (.cons (.lc [8, 9, 10] (.tp (.cons (.nm 8) (.cons (.nm 9) (.cons (.nm 10) .nil)))) (.seq (.var 7)) (.cons (.cmp .lt (.var 9) (.cst (.int 0))) .nil) (.tup (.cons (.var 8) (.cons (.bin .mul (.neg (.var 9)) (.var 10)) .nil)))) .nil) []))
  (.cons (.ret (.conj (.cons (.cmp .eq (.var 11) (.call 37 (.cons (.lc [4] (.nm 4) (.seq (.var 3)) .nil (.tup (.cons (.idx (.var 4) (.cst (.int 0))) (.cons (.idx (.var 4) (.cst (.int 2))) .nil)))) .nil) [])) (.cons (.cmp .eq (.var 12) (.call 37 (.cons (.lc [4] (.nm 4) (.seq (.var 3)) .nil (.tup (.cons (.idx (.var 4) (.cst (.int 1))) (.cons (.idx (.var 4) (.cst (.int 2))) .nil)))) .nil) [])) .nil))))
  .nil))))))))
/-- rules_shown (claim 0, certificate 1, one 2, other 3, first 4, second 5, kinds 6) -/
def a_rules_shown_39 : Ss := (.cons (.par [2, 3] (.cons (.call 10 (.cons (.idx (.var 0) (.cst (.int 1))) .nil) []) (.cons (.call 10 (.cons (.idx (.var 0) (.cst (.int 2))) .nil) []) .nil)))
  (.cons (.ite (.disj (.cons (.cmp .is (.var 2) (.cst .non)) (.cons (.cmp .is (.var 3) (.cst .non)) .nil))) (.cons (.ret (.cst (.bl false))) .nil) .nil)
  (.cons (.par [4, 5] (.cons (.mk 64 0 (.var 2)) (.cons (.mk 64 0 (.var 3)) .nil)))
  (.cons (.ite (.cmp .eq (.idx (.var 0) (.cst (.int 0))) (.cst (.str [109, 111, 114, 101]))) (.cons (.ret (.conj (.cons (.call 36 (.cons (.var 1) .nil) []) (.cons (.cmp .is (.call 12 (.cons (.var 5) .nil) []) (.cst .non)) (.cons (.cmp .is (.call 33 (.cons (.var 4) (.cons (.var 5) .nil)) []) (.cst .non)) .nil)))))
  .nil) .nil)
  (.cons (.asg (.nm 6) (.call 17 (.cons (.var 1) .nil) []))
  (.cons (.ite (.disj (.cons (.cmp .is (.var 6) (.cst .non)) (.cons (.cmp .gt (.idx (.idx (.var 6) (.neg (.cst (.int 1)))) (.cst (.int 0))) (.glb (.int 1000000000000000000000000000000))) .nil))) (.cons (.ret (.cst (.bl false))) .nil) .nil)
  (.cons (.ret (.inv (.call 24 (.cons (.call 20 (.cons (.var 4) (.cons (.var 6) .nil)) []) (.cons (.call 20 (.cons (.var 5) (.cons (.var 6) .nil)) []) .nil)) [])))
  .nil)))))))
/-- purses_shown (claim 0, certificate 1, first 2, second 3) -/
def a_purses_shown_40 : Ss := (.cons (.par [2, 3] (.cons (.call 17 (.cons (.idx (.var 0) (.cst (.int 1))) .nil) []) (.cons (.call 17 (.cons (.idx (.var 0) (.cst (.int 2))) .nil) []) .nil)))
  (.cons (.ite (.disj (.cons (.cmp .is (.var 2) (.cst .non)) (.cons (.cmp .is (.var 3) (.cst .non)) .nil))) (.cons (.ret (.cst (.bl false))) .nil) .nil)
  (.cons (.ite (.cmp .eq (.idx (.var 0) (.cst (.int 0))) (.cst (.str [103, 105, 102, 116, 115]))) (.cons (.ret (.conj (.cons (.cmp .eq (.blt .len (.cons (.var 0) .nil)) (.cst (.int 4))) (.cons (.call 34 (.cons (.idx (.var 0) (.cst (.int 3))) .nil) []) (.cons (.call 38 (.cons (.var 2) (.cons (.var 3) (.cons (.idx (.var 0) (.cst (.int 3))) (.cons (.var 1) .nil)))) []) .nil)))))
  .nil) .nil)
  (.cons (.ite (.cmp .ne (.blt .len (.cons (.var 0) .nil)) (.cst (.int 3))) (.cons (.ret (.cst (.bl false))) .nil) .nil)
  (.cons (.ite (.cmp .eq (.idx (.var 0) (.cst (.int 0))) (.cst (.str [101, 118, 101, 110]))) (.cons (.ret (.conj (.cons (.call 36 (.cons (.var 1) .nil) []) (.cons (.call 24 (.cons (.var 2) (.cons (.var 3) .nil)) []) .nil))))
  .nil) .nil)
  (.cons (.ret (.conj (.cons (.cmp .eq (.idx (.var 0) (.cst (.int 0))) (.cst (.str [117, 110, 101, 118, 101, 110]))) (.cons (.call 35 (.cons (.var 2) (.cons (.var 3) (.cons (.var 1) .nil))) []) .nil))))
  .nil))))))
/-- accepts (claim 0, certificate 1) -/
def a_accepts_41 : Ss := (.cons (.ite (.disj (.cons (.inv (.isi (.var 0) .tuple)) (.cons (.cmp .notin (.blt .len (.cons (.var 0) .nil)) (.tup (.cons (.cst (.int 3)) (.cons (.cst (.int 4)) .nil)))) .nil))) (.cons (.ret (.cst (.bl false))) .nil) .nil)
  (.cons (.ite (.cmp .isin (.idx (.var 0) (.cst (.int 0))) (.tup (.cons (.cst (.str [109, 111, 114, 101])) (.cons (.cst (.str [110, 111, 116, 32, 109, 111, 114, 101])) .nil)))) (.cons (.ret (.conj (.cons (.cmp .eq (.blt .len (.cons (.var 0) .nil)) (.cst (.int 3))) (.cons (.call 39 (.cons (.var 0) (.cons (.var 1) .nil)) []) .nil))))
  .nil) .nil)
  (.cons (.ret (.call 40 (.cons (.var 0) (.cons (.var 1) .nil)) []))
  .nil)))
/-- _law_well (script 0, at 1, state 2, each 3, own 4) -/
def a_law_well_42 : Ss := (.cons (.asg (.nm 2) (.bin .add (.cst (.int 311111)) (.bin .mul (.cst (.int 70001)) (.var 1))))
  (.cons (.for_ (.nm 3) (.seq (.sto (.var 0) (.cst (.int 8)))) (.cons (.asg (.nm 2) (.bin .mod (.blt .int (.cons (.bin .add (.bin .add (.bin .mul (.var 2) (.cst (.int 45737))) (.bin .mul (.blt .int (.cons (.var 3) .nil)) (.cst (.int 3)))) (.var 1)) .nil)) (.cst (.int 2147483353))))
  .nil))
  (.cons (.asg (.nm 4) (.ite (.cmp .lt (.var 1) (.slen (.var 0))) (.blt .int (.cons (.sidx (.var 0) (.var 1)) .nil)) (.var 2)))
  (.cons (.ret (.nlst (.cons (.ite (.disj (.cons (.cmp .lt (.var 4) (.cst (.int 0))) (.cons (.cmp .ge (.var 4) (.bin .pow (.cst (.int 10)) (.cst (.int 18)))) .nil))) (.blt .abs (.cons (.var 4) .nil)) (.cst (.int 0))) (.cons (.bin .mod (.blt .int (.cons (.bin .add (.bin .mul (.var 2) (.cst (.int 7))) (.var 4)) .nil)) (.cst (.int 2147483353))) (.cons (.cst (.int 0)) .nil)))))
  .nil))))
/-- _law_draw (well 0, many 1, digit 2) -/
def a_law_draw_43 : Ss := (.cons (.asg (.sub (.var 0) (.cst (.int 2))) (.bin .add (.idx (.var 0) (.cst (.int 2))) (.cst (.int 1))))
  (.cons (.ite (.cmp .gt (.idx (.var 0) (.cst (.int 0))) (.cst (.int 0))) (.cons (.asg (.tp (.cons (.sub (.var 0) (.cst (.int 0))) (.cons (.nm 2) .nil))) (.blt .divmod (.cons (.idx (.var 0) (.cst (.int 0))) (.cons (.var 1) .nil))))
  (.cons (.ret (.var 2)) .nil)) .nil)
  (.cons (.asg (.sub (.var 0) (.cst (.int 1))) (.bin .mod (.blt .int (.cons (.bin .add (.bin .add (.bin .mul (.idx (.var 0) (.cst (.int 1))) (.cst (.int 39373))) (.bin .mul (.idx (.var 0) (.cst (.int 2))) (.cst (.int 911)))) (.cst (.int 17))) .nil)) (.cst (.int 2147483353))))
  (.cons (.ret (.bin .mod (.blt .int (.cons (.bin .fdiv (.idx (.var 0) (.cst (.int 1))) (.cst (.int 256))) .nil)) (.var 1)))
  .nil))))
/-- _law_some (well 0, things 1) -/
def a_law_some_44 : Ss := (.cons (.ret (.idx (.var 1) (.call 43 (.cons (.var 0) (.cons (.blt .len (.cons (.var 1) .nil)) .nil)) [])))
  .nil)
/-- _law_far (well 0, top 1, way 2, found 3, turn 4) -/
def a_law_far_45 : Ss := (.cons (.asg (.nm 2) (.call 43 (.cons (.var 0) (.cons (.cst (.int 5)) .nil)) []))
  (.cons (.ite (.cmp .eq (.var 2) (.cst (.int 0))) (.cons (.ret (.blt .min (.cons (.var 1) (.cons (.call 43 (.cons (.var 0) (.cons (.cst (.int 9)) .nil)) []) .nil))))
  .nil) .nil)
  (.cons (.ite (.cmp .eq (.var 2) (.cst (.int 1))) (.cons (.ret (.blt .min (.cons (.var 1) (.cons (.call 43 (.cons (.var 0) (.cons (.bin .pow (.cst (.int 10)) (.cst (.int 6))) .nil)) []) .nil))))
  .nil) .nil)
  (.cons (.ite (.cmp .eq (.var 2) (.cst (.int 2))) (.cons (.ret (.bin .sub (.var 1) (.blt .min (.cons (.var 1) (.cons (.call 43 (.cons (.var 0) (.cons (.cst (.int 3)) .nil)) []) .nil)))))
  .nil) .nil)
  (.cons (.asg (.nm 3) (.cst (.int 0))) (.cons (.for_ (.nm 4) (.rng (.cst (.int 12))) (.cons (.asg (.nm 3) (.bin .add (.bin .mul (.var 3) (.bin .pow (.cst (.int 10)) (.cst (.int 6)))) (.call 43 (.cons (.var 0) (.cons (.bin .pow (.cst (.int 10)) (.cst (.int 6))) .nil)) [])))
  .nil))
  (.cons (.ret (.bin .mod (.blt .int (.cons (.var 3) .nil)) (.bin .add (.var 1) (.cst (.int 1)))))
  .nil)))))))
/-- _law_kinds (well 0, most 1, top 2, many 3, found 4, turn 5, amount 6) -/
def a_law_kinds_46 : Ss := (.cons (.asg (.nm 4) .ndic) (.cons (.for_ (.nm 5) (.rng (.bin .add (.cst (.int 1)) (.call 43 (.cons (.var 0) (.cons (.var 1) .nil)) []))) (.cons (.asg (.nm 6) (.ite (.cmp .gt (.var 2) (.cst (.int 99))) (.call 45 (.cons (.var 0) (.cons (.var 2) .nil)) []) (.call 43 (.cons (.var 0) (.cons (.bin .add (.var 2) (.cst (.int 1))) .nil)) [])))
  (.cons (.asg (.sub (.var 4) (.var 6)) (.bin .add (.cst (.int 1)) (.ite (.cmp .gt (.var 3) (.cst (.int 99))) (.call 45 (.cons (.var 0) (.cons (.bin .sub (.var 3) (.cst (.int 1))) .nil)) []) (.call 43 (.cons (.var 0) (.cons (.var 3) .nil)) []))))
  .nil)))
  (.cons (.ret (.blt .tuple (.cons (.sitems (.var 4)) .nil)))
  .nil)))
/-- _law_lines (kinds 0, amount 1, many 2) -/
def a_law_lines_47 : Ss := (.cons (.ret (.mth .join (.cst (.str [10])) (.lc [1, 2] (.tp (.cons (.nm 1) (.cons (.nm 2) .nil))) (.seq (.var 0)) .nil (.bin .add (.bin .add (.blt .str (.cons (.var 2) .nil)) (.cst (.str [32, 111, 102, 32]))) (.blt .str (.cons (.var 1) .nil))))))
  .nil)
/-- _law_lower (kinds 0, part 1, whole 2, amount 3, many 4, people 5, total 6, left 7, found 8, here 9) -/
def a_law_lower_48 : Ss := (.cons (.par [5, 6] (.cons (.blt .sum (.cons (.lc [3, 4] (.tp (.cons (.nm 3) (.cons (.nm 4) .nil))) (.seq (.var 0)) .nil (.var 4)) .nil)) (.cons (.blt .sum (.cons (.lc [3, 4] (.tp (.cons (.nm 3) (.cons (.nm 4) .nil))) (.seq (.var 0)) .nil (.bin .mul (.var 3) (.var 4))) .nil)) .nil)))
  (.cons (.ite (.cmp .eq (.var 6) (.cst (.int 0))) (.cons (.ret (.tup (.cons (.var 1) (.cons (.var 2) .nil))))
  .nil) .nil)
  (.cons (.par [7, 8] (.cons (.bin .mul (.var 1) (.var 5)) (.cons (.cst (.int 0)) .nil)))
  (.cons (.for_ (.tp (.cons (.nm 3) (.cons (.nm 4) .nil))) (.seq (.var 0)) (.cons (.asg (.nm 9) (.blt .min (.cons (.var 7) (.cons (.bin .mul (.var 4) (.var 2)) .nil))))
  (.cons (.par [7, 8] (.cons (.bin .sub (.var 7) (.var 9)) (.cons (.bin .add (.var 8) (.bin .mul (.var 9) (.var 3))) .nil)))
  .nil)))
  (.cons (.ret (.tup (.cons (.var 8) (.cons (.bin .mul (.var 6) (.var 2)) .nil))))
  .nil)))))
/-- _law_is_less (kinds 0, mates 1, part 2, whole 3, near 4, far 5) -/
def a_law_is_less_49 : Ss := (.cons (.par [4, 5] (.cons (.call 48 (.cons (.var 0) (.cons (.var 2) (.cons (.var 3) .nil))) []) (.cons (.call 48 (.cons (.var 1) (.cons (.var 2) (.cons (.var 3) .nil))) []) .nil)))
  (.cons (.ret (.cmp .lt (.bin .mul (.idx (.var 4) (.cst (.int 0))) (.idx (.var 5) (.cst (.int 1)))) (.bin .mul (.idx (.var 5) (.cst (.int 0))) (.idx (.var 4) (.cst (.int 1))))))
  .nil))
/-- _law_ends (kinds 0, pair 1, people 2, found 3, here 4, amount 5, many 6) -/
def a_law_ends_50 : Ss := (.cons (.par [2, 3, 4] (.cons (.blt .sum (.cons (.lc [1] (.nm 1) (.seq (.var 0)) .nil (.idx (.var 1) (.cst (.int 1)))) .nil)) (.cons (.nlst .nil) (.cons (.cst (.int 0)) .nil))))
  (.cons (.for_ (.tp (.cons (.nm 5) (.cons (.nm 6) .nil))) (.seq (.var 0)) (.cons (.asg (.nm 4) (.bin .add (.var 4) (.var 6)))
  (.cons (.app (.var 3) (.tup (.cons (.var 4) (.cons (.var 2) .nil))))
  .nil)))
  (.cons (.ret (.var 3)) .nil)))
/-- _law_two_purses (well 0, top 1, many 2, kinds 3, way 4, times 5, amount 6, count_here 7, at 8, moved 9, other_here 10) -/
def a_law_two_purses_51 : Ss := (.cons (.par [1, 2] (.cons (.call 44 (.cons (.var 0) (.cons (.lst (.cons (.cst (.int 9)) (.cons (.cst (.int 60)) (.cons (.bin .pow (.cst (.int 10)) (.cst (.int 30))) (.cons (.bin .pow (.cst (.int 10)) (.cst (.int 36))) .nil))))) .nil)) []) (.cons (.call 44 (.cons (.var 0) (.cons (.lst (.cons (.cst (.int 3)) (.cons (.cst (.int 9)) (.cons (.bin .pow (.cst (.int 10)) (.cst (.int 20))) (.cons (.bin .pow (.cst (.int 10)) (.cst (.int 40))) .nil))))) .nil)) []) .nil)))
  (.cons (.asg (.nm 3) (.call 46 (.cons (.var 0) (.cons (.call 44 (.cons (.var 0) (.cons (.lst (.cons (.cst (.int 2)) (.cons (.cst (.int 4)) (.cons (.cst (.int 9)) .nil)))) .nil)) []) (.cons (.var 1) (.cons (.var 2) .nil)))) []))
  (.cons (.asg (.tp (.cons (.nm 4) (.cons (.nm 5) .nil))) (.tup (.cons (.call 43 (.cons (.var 0) (.cons (.cst (.int 5)) .nil)) []) (.cons (.bin .add (.cst (.int 2)) (.call 43 (.cons (.var 0) (.cons (.cst (.int 5)) .nil)) [])) .nil))))
  (.cons (.ite (.cmp .eq (.var 4) (.cst (.int 0))) (.cons (.ret (.tup (.cons (.var 3) (.cons (.call 46 (.cons (.var 0) (.cons (.cst (.int 4)) (.cons (.var 1) (.cons (.var 2) .nil)))) []) .nil))))
  .nil) .nil)
  (.cons (.ite (.cmp .eq (.var 4) (.cst (.int 1))) (.cons (.ret (.tup (.cons (.var 3) (.cons (.blt .tuple (.cons (.lc [6, 7] (.tp (.cons (.nm 6) (.cons (.nm 7) .nil))) (.seq (.var 3)) .nil (.tup (.cons (.var 6) (.cons (.bin .mul (.var 5) (.var 7)) .nil)))) .nil)) .nil))))
  .nil) .nil)
  (.cons (.ite (.conj (.cons (.cmp .eq (.var 4) (.cst (.int 2))) (.cons (.cmp .lt (.idx (.idx (.var 3) (.neg (.cst (.int 1)))) (.cst (.int 0))) (.bin .pow (.cst (.int 10)) (.cst (.int 34)))) .nil))) (.cons (.ret (.tup (.cons (.var 3) (.cons (.blt .tuple (.cons (.lc [6, 7] (.tp (.cons (.nm 6) (.cons (.nm 7) .nil))) (.seq (.var 3)) .nil (.tup (.cons (.bin .mul (.var 5) (.var 6)) (.cons (.var 7) .nil)))) .nil)) .nil))))
  .nil) .nil)
  (.cons (.asg (.nm 8) (.call 43 (.cons (.var 0) (.cons (.blt .len (.cons (.var 3) .nil)) .nil)) []))
  (.cons (.asg (.nm 9) (.tup (.cons (.idx (.idx (.var 3) (.var 8)) (.cst (.int 0))) (.cons (.bin .add (.bin .add (.idx (.idx (.var 3) (.var 8)) (.cst (.int 1))) (.cst (.int 1))) (.call 43 (.cons (.var 0) (.cons (.cst (.int 2)) .nil)) [])) .nil))))
  (.cons (.asg (.nm 10) (.bin .add (.bin .add (.slTo (.var 3) (.var 8)) (.tup (.cons (.var 9) .nil))) (.slFr (.var 3) (.bin .add (.var 8) (.cst (.int 1))))))
  (.cons (.ret (.ite (.cmp .eq (.var 4) (.cst (.int 3))) (.tup (.cons (.var 3) (.cons (.var 10) .nil))) (.tup (.cons (.var 10) (.cons (.var 3) .nil)))))
  .nil))))))))))
/-- _law_judged (told 0, paper 1, due 2, got 3) -/
def a_law_judged_52 : Ss := (.cons (.asg (.nm 3) (.lst (.cons (.call 41 (.cons (.var 0) (.cons (.var 1) .nil)) []) (.cons (.callK 41 [1, 0] (.cons (.var 1) (.cons (.var 0) .nil))) .nil))))
  (.cons (.ret (.call 53 (.cons (.var 3) (.cons (.lst (.cons (.var 2) (.cons (.var 2) .nil))) .nil)) []))
  .nil))
/-- _law_same (told 0, due 1) -/
def a_law_same_53 : Ss := (.cons (.ret (.cmp .eq (.blt .repr (.cons (.var 0) .nil)) (.blt .repr (.cons (.var 1) .nil))))
  .nil)
/-- _law_due (kinds 0, mates 1, paper 2, each 3) -/
def a_law_due_54 : Ss := (.cons (.ite (.disj (.cons (.inv (.isi (.var 2) .tuple)) (.cons (.cmp .ne (.blt .len (.cons (.var 2) .nil)) (.cst (.int 2))) .nil))) (.cons (.ret (.cst (.bl false))) .nil) .nil)
  (.cons (.for_ (.nm 3) (.seq (.var 2)) (.cons (.ite (.disj (.cons (.inv (.isi (.var 3) .int)) (.cons (.isi (.var 3) .bool) .nil))) (.cons (.ret (.cst (.bl false))) .nil) .nil)
  .nil))
  (.cons (.ret (.conj (.cons (.chain .le .le (.cst (.int 0)) (.idx (.var 2) (.cst (.int 0))) (.idx (.var 2) (.cst (.int 1)))) (.cons (.cmp .gt (.idx (.var 2) (.cst (.int 1))) (.cst (.int 0))) (.cons (.call 49 (.cons (.var 0) (.cons (.var 1) (.cons (.idx (.var 2) (.cst (.int 0))) (.cons (.idx (.var 2) (.cst (.int 1))) .nil)))) []) .nil)))))
  .nil)))
/-- _law_right (well 0, turn 1, kinds 2, mates 3, told 4, whole 5, some 6, part 7, people 8, paper 9) -/
def a_law_right_55 : Ss := (.cons (.for_ (.nm 1) (.rng (.cst (.int 6))) (.cons (.asg (.tp (.cons (.nm 2) (.cons (.nm 3) .nil))) (.call 51 (.cons (.var 0) .nil) []))
  (.cons (.asg (.nm 4) (.tup (.cons (.cst (.str [117, 110, 101, 118, 101, 110])) (.cons (.call 47 (.cons (.var 2) .nil) []) (.cons (.call 47 (.cons (.var 3) .nil) []) .nil)))))
  (.cons (.asg (.nm 5) (.bin .add (.cst (.int 1)) (.call 43 (.cons (.var 0) (.cons (.cst (.int 30)) .nil)) [])))
  (.cons (.asg (.nm 6) (.bin .add (.bin .add (.call 50 (.cons (.var 2) .nil) []) (.call 50 (.cons (.var 3) .nil) [])) (.lst (.cons (.tup (.cons (.call 43 (.cons (.var 0) (.cons (.bin .add (.var 5) (.cst (.int 1))) .nil)) []) (.cons (.var 5) .nil))) (.cons (.tup (.cons (.cst (.int 0)) (.cons (.cst (.int 1)) .nil))) (.cons (.tup (.cons (.cst (.int 1)) (.cons (.cst (.int 1)) .nil))) (.cons (.tup (.cons (.cst (.int 1)) (.cons (.cst (.int 2)) .nil))) .nil)))))))
  (.cons (.asg (.tp (.cons (.nm 7) (.cons (.nm 8) .nil))) (.call 44 (.cons (.var 0) (.cons (.var 6) .nil)) []))
  (.cons (.asg (.nm 6) (.bin .add (.var 6) (.lst (.cons (.tup (.cons (.bin .mul (.cst (.int 3)) (.var 7)) (.cons (.bin .mul (.cst (.int 3)) (.var 8)) .nil))) (.cons (.tup (.cons (.var 7) (.cons (.cst (.int 0)) .nil))) (.cons (.tup (.cons (.var 8) (.cons (.var 7) .nil))) (.cons (.tup (.cons (.neg (.var 7)) (.cons (.var 8) .nil))) (.cons (.tup (.cons (.var 7) (.cons (.neg (.var 8)) .nil))) (.cons (.tup (.cons (.cst (.int 0)) (.cons (.cst (.int 0)) .nil))) .nil)))))))))
  (.cons (.asg (.nm 6) (.bin .add (.var 6) (.lst (.cons (.lst (.cons (.var 7) (.cons (.var 8) .nil))) (.cons (.tup (.cons (.var 7) .nil)) (.cons (.tup (.cons (.var 7) (.cons (.var 8) (.cons (.cst (.int 1)) .nil)))) (.cons (.cst .non) (.cons (.blt .str (.cons (.var 7) .nil)) (.cons (.tup (.cons (.cst (.bl true)) (.cons (.cst (.int 2)) .nil))) (.cons (.tup (.cons (.var 7) (.cons (.cst (.bl true)) .nil))) (.cons (.tup .nil) (.cons .ddic .nil))))))))))))
  (.cons (.for_ (.nm 9) (.seq (.var 6)) (.cons (.ite (.inv (.call 52 (.cons (.var 4) (.cons (.var 9) (.cons (.call 54 (.cons (.var 2) (.cons (.var 3) (.cons (.var 9) .nil))) []) .nil))) [])) (.cons (.ret (.cst (.bl false))) .nil) .nil)
  .nil))
  .nil)))))))))
  (.cons (.ret (.cst (.bl true))) .nil))
/-- law (script 0, at 1) -/
def a_law_56 : Ss := (.cons (.ret (.blt .all (.cons (.lc [1] (.nm 1) (.rng (.blt .max (.cons (.cst (.int 2)) (.cons (.blt .min (.cons (.slen (.var 0)) (.cons (.cst (.int 5)) .nil))) .nil)))) .nil (.call 55 (.cons (.call 42 (.cons (.var 0) (.cons (.var 1) .nil)) []) .nil) [])) .nil)))
  .nil)
/-- _law_as_even (kinds 0, mates 1, spots 2, spot 3) -/
def a_law_as_even_57 : Ss := (.cons (.asg (.nm 2) (.bin .add (.call 50 (.cons (.var 0) .nil) []) (.call 50 (.cons (.var 1) .nil) [])))
  (.cons (.ret (.cmp .eq (.lc [3] (.nm 3) (.seq (.var 2)) (.cons (.call 49 (.cons (.var 0) (.cons (.var 1) (.cons (.idx (.var 3) (.cst (.int 0))) (.cons (.idx (.var 3) (.cst (.int 1))) .nil)))) []) .nil) (.var 3)) (.lst .nil)))
  .nil))
/-- _law_people (kinds 0, found 1, amount 2, many 3) -/
def a_law_people_58 : Ss := (.cons (.asg (.nm 1) (.lst .nil)) (.cons (.for_ (.tp (.cons (.nm 2) (.cons (.nm 3) .nil))) (.seq (.var 0)) (.cons (.asg (.nm 1) (.bin .add (.var 1) (.bin .mul (.lst (.cons (.var 2) .nil)) (.var 3))))
  .nil))
  (.cons (.ret (.ite (.cmp .gt (.blt .sum (.cons (.var 1) .nil)) (.cst (.int 0))) (.var 1) (.bin .mul (.lst (.cons (.cst (.int 1)) .nil)) (.blt .len (.cons (.var 1) .nil)))))
  .nil)))
/-- _law_even_by_people (kinds 0, mates 1, near 2, far 3, row 4, line 5, amount 6, here 7, there 8, at 9) -/
def a_law_even_by_people_59 : Ss := (.cons (.par [2, 3] (.cons (.call 58 (.cons (.var 0) .nil) []) (.cons (.call 58 (.cons (.var 1) .nil) []) .nil)))
  (.cons (.par [4, 5] (.cons (.lst .nil) (.cons (.lst .nil) .nil)))
  (.cons (.for_ (.nm 6) (.seq (.var 2)) (.cons (.asg (.nm 4) (.bin .add (.var 4) (.bin .mul (.lst (.cons (.var 6) .nil)) (.blt .len (.cons (.var 3) .nil)))))
  .nil))
  (.cons (.for_ (.nm 6) (.seq (.var 3)) (.cons (.asg (.nm 5) (.bin .add (.var 5) (.bin .mul (.lst (.cons (.var 6) .nil)) (.blt .len (.cons (.var 2) .nil)))))
  .nil))
  (.cons (.asg (.tp (.cons (.nm 7) (.cons (.nm 8) .nil))) (.tup (.cons (.cst (.int 0)) (.cons (.cst (.int 0)) .nil))))
  (.cons (.for_ (.nm 9) (.rng (.blt .len (.cons (.var 4) .nil))) (.cons (.par [7, 8] (.cons (.bin .add (.var 7) (.idx (.var 4) (.var 9))) (.cons (.bin .add (.var 8) (.idx (.var 5) (.var 9))) .nil)))
  (.cons (.ite (.cmp .lt (.bin .mul (.var 7) (.blt .sum (.cons (.var 5) .nil))) (.bin .mul (.var 8) (.blt .sum (.cons (.var 4) .nil)))) (.cons (.ret (.cst (.bl false))) .nil) .nil)
  .nil)))
  (.cons (.ret (.cst (.bl true))) .nil)))))))
/-- _law_no_paper (well 0) -/
def a_law_no_paper_60 : Ss := (.cons (.ret (.call 44 (.cons (.var 0) (.cons (.lst (.cons (.cst .non) (.cons (.tup (.cons (.cst (.int 1)) .nil)) (.cons (.lst .nil) (.cons (.cst (.str [])) (.cons (.cst (.int 0)) (.cons (.cst (.bl true)) (.cons (.cst (.bl false)) (.cons .ddic (.cons (.cst (.str [40, 41])) (.cons (.tup (.cons (.tup .nil) .nil)) (.cons (.tup (.cons (.cst (.int 0)) (.cons (.cst (.int 1)) .nil))) (.cons (.cst (.str [49, 32, 111, 102, 32, 48])) (.cons (.tup (.cons (.cst (.str [])) .nil)) .nil)))))))))))))) .nil)) []))
  .nil)
/-- _law_few (well 0, found 1, turn 2, amount 3) -/
def a_law_few_61 : Ss := (.cons (.asg (.nm 1) .ndic) (.cons (.for_ (.nm 2) (.rng (.bin .add (.cst (.int 1)) (.call 43 (.cons (.var 0) (.cons (.cst (.int 5)) .nil)) []))) (.cons (.asg (.nm 3) (.call 43 (.cons (.var 0) (.cons (.cst (.int 7)) .nil)) []))
  (.cons (.asg (.sub (.var 1) (.var 3)) (.bin .add (.get (.var 1) (.var 3) (.cst (.int 0))) (.cst (.int 1))))
  .nil)))
  (.cons (.ret (.blt .tuple (.cons (.sitems (.var 1)) .nil)))
  .nil)))
/-- _law_right (well 0, turn 1, kinds 2, mates 3, told 4, due 5) -/
def a_law_right_62 : Ss := (.cons (.for_ (.nm 1) (.rng (.cst (.int 4))) (.cons (.asg (.tp (.cons (.nm 2) (.cons (.nm 3) .nil))) (.call 51 (.cons (.var 0) .nil) []))
  (.cons (.asg (.nm 4) (.tup (.cons (.cst (.str [101, 118, 101, 110])) (.cons (.call 47 (.cons (.var 2) .nil) []) (.cons (.call 47 (.cons (.var 3) .nil) []) .nil)))))
  (.cons (.ite (.disj (.cons (.inv (.call 52 (.cons (.var 4) (.cons (.tup .nil) (.cons (.call 57 (.cons (.var 2) (.cons (.var 3) .nil)) []) .nil))) [])) (.cons (.inv (.call 52 (.cons (.var 4) (.cons (.call 60 (.cons (.var 0) .nil) []) (.cons (.cst (.bl false)) .nil))) [])) .nil))) (.cons (.ret (.cst (.bl false))) .nil) .nil)
  (.cons (.par [2, 3] (.cons (.call 61 (.cons (.var 0) .nil) []) (.cons (.call 61 (.cons (.var 0) .nil) []) .nil)))
  (.cons (.asg (.nm 5) (.call 59 (.cons (.var 2) (.cons (.var 3) .nil)) []))
  (.cons (.ite (.cmp .ne (.var 5) (.call 57 (.cons (.var 2) (.cons (.var 3) .nil)) [])) (.cons (.ret (.cst (.bl false))) .nil) .nil)
  (.cons (.ite (.inv (.call 52 (.cons (.tup (.cons (.cst (.str [101, 118, 101, 110])) (.cons (.call 47 (.cons (.var 2) .nil) []) (.cons (.call 47 (.cons (.var 3) .nil) []) .nil)))) (.cons (.tup .nil) (.cons (.var 5) .nil))) [])) (.cons (.ret (.cst (.bl false))) .nil) .nil)
  .nil))))))))
  (.cons (.ret (.cst (.bl true))) .nil))
/-- law (script 0, nothing 1, some 2, rows 3, near 4, far 5, due 6, at 7) -/
def a_law_63 : Ss := (.cons (.asg (.tp (.cons (.nm 1) (.cons (.nm 2) .nil))) (.tup (.cons (.cst (.str [55, 32, 111, 102, 32, 48])) (.cons (.cst (.str [49, 32, 111, 102, 32, 48, 10, 49, 32, 111, 102, 32, 53])) .nil))))
  (.cons (.asg (.nm 3) (.lst (.cons (.tup (.cons (.var 1) (.cons (.var 2) (.cons (.cst (.bl true)) .nil)))) (.cons (.tup (.cons (.var 2) (.cons (.var 1) (.cons (.cst (.bl false)) .nil)))) (.cons (.tup (.cons (.var 1) (.cons (.cst (.str [51, 32, 111, 102, 32, 57])) (.cons (.cst (.bl true)) .nil)))) (.cons (.tup (.cons (.cst (.str [51, 32, 111, 102, 32, 57])) (.cons (.var 1) (.cons (.cst (.bl true)) .nil)))) .nil))))))
  (.cons (.for_ (.tp (.cons (.nm 4) (.cons (.nm 5) (.cons (.nm 6) .nil)))) (.seq (.var 3)) (.cons (.ite (.inv (.call 52 (.cons (.tup (.cons (.cst (.str [101, 118, 101, 110])) (.cons (.var 4) (.cons (.var 5) .nil)))) (.cons (.tup .nil) (.cons (.var 6) .nil))) [])) (.cons (.ret (.cst (.bl false))) .nil) .nil)
  .nil))
  (.cons (.ret (.blt .all (.cons (.lc [7] (.nm 7) (.rng (.blt .max (.cons (.cst (.int 2)) (.cons (.blt .min (.cons (.slen (.var 0)) (.cons (.cst (.int 5)) .nil))) .nil)))) .nil (.call 62 (.cons (.call 42 (.cons (.var 0) (.cons (.var 7) .nil)) []) .nil) [])) .nil)))
  .nil))))
/-- Rule.__init__ (self 0, bands 1, wrong 2) -/
def a_Rule_init_64 : Ss := (.cons (.ite (.disj (.cons (.inv (.isi (.var 1) .tuple)) (.cons (.cmp .eq (.blt .len (.cons (.var 1) .nil)) (.cst (.int 0))) .nil))) (.cons .stuck .nil) .nil)
  (.cons (.asg (.nm 2) (.call 4 (.cons (.var 1) .nil) []))
  (.cons (.ite (.cmp .is (.var 2) (.cst .non)) (.cons (.asg (.nm 2) (.call 7 (.cons (.var 1) .nil) []))
  .nil) .nil)
  (.cons (.ite (.cmp .isnot (.var 2) (.cst .non)) (.cons .stuck .nil) .nil)
  (.cons (.setf 0 (.var 0) (.var 1)) .nil)))))
/-- Rule.bands (self 0) -/
def a_Rule_bands_65 : Ss := (.cons (.ret (.fld 0 (.var 0))) .nil)
/-- Rule.at (self 0, income 1) -/
def a_Rule_at_66 : Ss := (.cons (.ret (.call 6 (.cons (.idx (.fld 0 (.var 0)) (.call 11 (.cons (.fld 0 (.var 0)) (.cons (.var 1) .nil)) [])) (.cons (.var 1) .nil)) []))
  .nil)
/-- Rule.left (self 0, income 1) -/
def a_Rule_left_67 : Ss := (.cons (.ite (.inv (.call 1 (.cons (.var 1) (.cons (.cst (.int 0)) (.cons (.glb (.int 1000000000000000000000000000000)) .nil))) [])) (.cons .stuck .nil) .nil)
  (.cons (.ret (.meth 66 0 (.var 0) (.cons (.var 1) .nil)))
  .nil))
/-- Rule.__len__ (self 0) -/
def a_Rule_len_68 : Ss := (.cons (.ret (.blt .len (.cons (.fld 0 (.var 0)) .nil)))
  .nil)
/-- Rule.__bool__ (self 0) -/
def a_Rule_bool_69 : Ss := (.cons (.ret (.cst (.bl true))) .nil)
/-- Rule.__eq__ (self 0, other 1) -/
def a_Rule_eq_70 : Ss := (.cons .stuck .nil)
/-- Rule.__str__ (self 0, start 1, money 2, step 3, lines 4) -/
def a_Rule_str_71 : Ss := (.cons (.asg (.nm 4) (.lc [1, 2, 3] (.tp (.cons (.nm 1) (.cons (.nm 2) (.cons (.nm 3) .nil)))) (.seq (.fld 0 (.var 0))) .nil (.fstr (.cons (.cst (.str [102, 114, 111, 109, 32])) (.cons (.var 1) (.cons (.cst (.str [32, 118, 97, 108, 117, 101, 32])) (.cons (.var 2) (.cons (.cst (.str [32, 115, 116, 101, 112, 32])) (.cons (.var 3) .nil)))))))))
  (.cons (.ret (.mth .join (.cst (.str [10])) (.var 4)))
  .nil))
/-- _law_left (bands 0, income 1, band 2, here 3) -/
def a_law_left_72 : Ss := (.cons (.asg (.nm 3) (.idx (.lc [2] (.nm 2) (.seq (.var 0)) (.cons (.cmp .le (.idx (.var 2) (.cst (.int 0))) (.var 1)) .nil) (.var 2)) (.neg (.cst (.int 1)))))
  (.cons (.ret (.bin .add (.idx (.var 3) (.cst (.int 1))) (.bin .mul (.idx (.var 3) (.cst (.int 2))) (.bin .sub (.var 1) (.idx (.var 3) (.cst (.int 0)))))))
  .nil))
/-- _law_starts (well 0, most 1, top 2, found 3, turn 4, fresh 5) -/
def a_law_starts_73 : Ss := (.cons (.asg (.nm 3) (.nlst (.cons (.cst (.int 0)) .nil)))
  (.cons (.for_ (.nm 4) (.rng (.call 43 (.cons (.var 0) (.cons (.var 1) .nil)) [])) (.cons (.asg (.nm 5) (.bin .add (.cst (.int 1)) (.ite (.cmp .gt (.var 2) (.cst (.int 99))) (.call 45 (.cons (.var 0) (.cons (.bin .sub (.var 2) (.cst (.int 1))) .nil)) []) (.call 43 (.cons (.var 0) (.cons (.var 2) .nil)) []))))
  (.cons (.ite (.cmp .notin (.var 5) (.var 3)) (.cons (.app (.var 3) (.var 5)) .nil) .nil)
  .nil)))
  (.cons (.ret (.blt .sorted (.cons (.var 3) .nil)))
  .nil)))
/-- _law_any (well 0, most 1, sizes 2, begins 3, found 4, at 5, money 6, pace 7) -/
def a_law_any_74 : Ss := (.cons (.par [3, 4] (.cons (.call 73 (.cons (.var 0) (.cons (.var 1) (.cons (.idx (.var 2) (.cst (.int 0))) .nil))) []) (.cons (.nlst .nil) .nil)))
  (.cons (.for_ (.nm 5) (.rng (.blt .len (.cons (.var 3) .nil))) (.cons (.asg (.nm 6) (.ite (.cmp .gt (.idx (.var 2) (.cst (.int 1))) (.cst (.int 99))) (.call 45 (.cons (.var 0) (.cons (.idx (.var 2) (.cst (.int 1))) .nil)) []) (.call 43 (.cons (.var 0) (.cons (.bin .add (.idx (.var 2) (.cst (.int 1))) (.cst (.int 1))) .nil)) [])))
  (.cons (.asg (.nm 7) (.bin .sub (.call 43 (.cons (.var 0) (.cons (.bin .add (.bin .mul (.cst (.int 2)) (.idx (.var 2) (.cst (.int 2)))) (.cst (.int 1))) .nil)) []) (.idx (.var 2) (.cst (.int 2)))))
  (.cons (.ite (.cmp .eq (.bin .add (.var 5) (.cst (.int 1))) (.blt .len (.cons (.var 3) .nil))) (.cons (.asg (.nm 7) (.blt .abs (.cons (.var 7) .nil)))
  .nil) (.cons (.asg (.nm 6) (.blt .max (.cons (.var 6) (.cons (.bin .sub (.cst (.int 0)) (.bin .mul (.var 7) (.bin .sub (.bin .sub (.idx (.var 3) (.bin .add (.var 5) (.cst (.int 1)))) (.cst (.int 1))) (.idx (.var 3) (.var 5))))) .nil))))
  .nil))
  (.cons (.app (.var 4) (.tup (.cons (.idx (.var 3) (.var 5)) (.cons (.var 6) (.cons (.var 7) .nil)))))
  .nil)))))
  (.cons (.ret (.blt .tuple (.cons (.var 4) .nil)))
  .nil)))
/-- _law_even (well 0, most 1, sizes 2, begins 3, found 4, at 5, begin 6, top 7, money 8, last 9, room 10) -/
def a_law_even_75 : Ss := (.cons (.par [3, 4] (.cons (.call 73 (.cons (.var 0) (.cons (.var 1) (.cons (.idx (.var 2) (.cst (.int 0))) .nil))) []) (.cons (.nlst .nil) .nil)))
  (.cons (.for_ (.nm 5) (.rng (.blt .len (.cons (.var 3) .nil))) (.cons (.par [6, 7] (.cons (.idx (.var 3) (.var 5)) (.cons (.idx (.var 2) (.cst (.int 2))) .nil)))
  (.cons (.asg (.nm 8) (.ite (.cmp .gt (.idx (.var 2) (.cst (.int 1))) (.cst (.int 99))) (.call 45 (.cons (.var 0) (.cons (.bin .fdiv (.idx (.var 2) (.cst (.int 1))) (.cst (.int 9))) .nil)) []) (.call 43 (.cons (.var 0) (.cons (.bin .add (.idx (.var 2) (.cst (.int 1))) (.cst (.int 1))) .nil)) [])))
  (.cons (.ite (.cmp .gt (.var 5) (.cst (.int 0))) (.cons (.asg (.nm 9) (.call 72 (.cons (.var 4) (.cons (.bin .sub (.var 6) (.cst (.int 1))) .nil)) []))
  (.cons (.ite (.cmp .gt (.var 9) (.bin .pow (.cst (.int 10)) (.cst (.int 32)))) (.cons .brk .nil) .nil)
  (.cons (.asg (.nm 10) (.ite (.cmp .gt (.var 6) (.cst (.int 1))) (.bin .fdiv (.var 9) (.bin .sub (.var 6) (.cst (.int 1)))) (.bin .fdiv (.idx (.var 2) (.cst (.int 1))) (.cst (.int 9)))))
  (.cons (.asg (.nm 8) (.blt .min (.cons (.bin .pow (.cst (.int 10)) (.cst (.int 32))) (.cons (.bin .add (.var 9) (.call 44 (.cons (.var 0) (.cons (.lst (.cons (.cst (.int 0)) (.cons (.var 10) (.cons (.call 43 (.cons (.var 0) (.cons (.bin .add (.var 10) (.cst (.int 1))) .nil)) []) .nil)))) .nil)) [])) .nil))))
  (.cons (.asg (.nm 7) (.blt .min (.cons (.var 7) (.cons (.bin .fdiv (.var 8) (.var 6)) .nil))))
  .nil))))) .nil)
  (.cons (.app (.var 4) (.tup (.cons (.var 6) (.cons (.var 8) (.cons (.call 44 (.cons (.var 0) (.cons (.lst (.cons (.cst (.int 0)) (.cons (.var 7) (.cons (.call 43 (.cons (.var 0) (.cons (.bin .add (.var 7) (.cst (.int 1))) .nil)) []) .nil)))) .nil)) []) .nil)))))
  .nil)))))
  (.cons (.ret (.blt .tuple (.cons (.var 4) .nil)))
  .nil)))
/-- _law_near (well 0, most 1, sizes 2, way 3, found 4, at 5, begin 6, money 7, pace 8) -/
def a_law_near_76 : Ss := (.cons (.asg (.nm 3) (.call 43 (.cons (.var 0) (.cons (.cst (.int 4)) .nil)) []))
  (.cons (.ite (.cmp .eq (.var 3) (.cst (.int 0))) (.cons (.ret (.call 74 (.cons (.var 0) (.cons (.var 1) (.cons (.var 2) .nil))) []))
  .nil) .nil)
  (.cons (.asg (.nm 4) (.call 75 (.cons (.var 0) (.cons (.var 1) (.cons (.var 2) .nil))) []))
  (.cons (.ite (.cmp .eq (.var 3) (.cst (.int 1))) (.cons (.ret (.var 4)) .nil) .nil)
  (.cons (.asg (.nm 5) (.call 43 (.cons (.var 0) (.cons (.blt .len (.cons (.var 4) .nil)) .nil)) []))
  (.cons (.asg (.tp (.cons (.nm 6) (.cons (.nm 7) (.cons (.nm 8) .nil)))) (.idx (.var 4) (.var 5)))
  (.cons (.asg (.nm 7) (.blt .min (.cons (.idx (.var 2) (.cst (.int 1))) (.cons (.blt .max (.cons (.cst (.int 0)) (.cons (.bin .add (.var 7) (.call 44 (.cons (.var 0) (.cons (.lst (.cons (.neg (.cst (.int 1))) (.cons (.cst (.int 1)) (.cons (.neg (.cst (.int 9))) (.cons (.cst (.int 9)) (.cons (.cst (.int 0)) .nil)))))) .nil)) [])) .nil))) .nil))))
  (.cons (.asg (.nm 8) (.blt .min (.cons (.idx (.var 2) (.cst (.int 2))) (.cons (.blt .max (.cons (.cst (.int 0)) (.cons (.bin .add (.var 8) (.call 44 (.cons (.var 0) (.cons (.lst (.cons (.cst (.int 0)) (.cons (.cst (.int 0)) (.cons (.cst (.int 1)) (.cons (.neg (.cst (.int 1))) (.cons (.cst (.int 5)) .nil)))))) .nil)) [])) .nil))) .nil))))
  (.cons (.ret (.bin .add (.bin .add (.slTo (.var 4) (.var 5)) (.tup (.cons (.tup (.cons (.var 6) (.cons (.var 7) (.cons (.var 8) .nil)))) .nil))) (.slFr (.var 4) (.bin .add (.var 5) (.cst (.int 1))))))
  .nil)))))))))
/-- _law_sizes (well 0) -/
def a_law_sizes_77 : Ss := (.cons (.ret (.call 44 (.cons (.var 0) (.cons (.lst (.cons (.lst (.cons (.cst (.int 6)) (.cons (.cst (.int 40)) (.cons (.cst (.int 9)) .nil)))) (.cons (.lst (.cons (.cst (.int 12)) (.cons (.cst (.int 90)) (.cons (.cst (.int 20)) .nil)))) (.cons (.lst (.cons (.cst (.int 40)) (.cons (.cst (.int 2000)) (.cons (.cst (.int 100)) .nil)))) (.cons (.lst (.cons (.bin .pow (.cst (.int 10)) (.cst (.int 29))) (.cons (.bin .pow (.cst (.int 10)) (.cst (.int 32))) (.cons (.cst (.int 1000)) .nil)))) .nil))))) .nil)) []))
  .nil)
/-- _law_points (bands 0, mates 1, band 2, begins 3, begin 4) -/
def a_law_points_78 : Ss := (.cons (.asg (.nm 3) (.lc [2] (.nm 2) (.seq (.bin .add (.var 0) (.var 1))) .nil (.idx (.var 2) (.cst (.int 0)))))
  (.cons (.ret (.sset (.bin .add (.var 3) (.lc [4] (.nm 4) (.seq (.var 3)) (.cons (.cmp .gt (.var 4) (.cst (.int 0))) .nil) (.bin .sub (.var 4) (.cst (.int 1)))))))
  .nil))
/-- _law_breaks (bands 0, mates 1, at 2, here 3, there 4, low 5, high 6) -/
def a_law_breaks_79 : Ss := (.cons (.for_ (.nm 2) (.seq (.call 78 (.cons (.var 0) (.cons (.var 1) .nil)) [])) (.cons (.par [3, 4] (.cons (.call 72 (.cons (.var 0) (.cons (.var 2) .nil)) []) (.cons (.call 72 (.cons (.var 0) (.cons (.bin .add (.var 2) (.cst (.int 1))) .nil)) []) .nil)))
  (.cons (.par [5, 6] (.cons (.call 72 (.cons (.var 1) (.cons (.var 2) .nil)) []) (.cons (.call 72 (.cons (.var 1) (.cons (.bin .add (.var 2) (.cst (.int 1))) .nil)) []) .nil)))
  (.cons (.ite (.disj (.cons (.conj (.cons (.cmp .eq (.var 5) (.var 6)) (.cons (.cmp .ne (.var 3) (.var 4)) .nil))) (.cons (.conj (.cons (.cmp .lt (.var 5) (.var 6)) (.cons (.disj (.cons (.cmp .gt (.var 3) (.var 4)) (.cons (.cmp .lt (.bin .mul (.var 3) (.var 6)) (.bin .mul (.var 4) (.var 5))) .nil))) .nil))) .nil))) (.cons (.ret (.lst (.cons (.var 2) .nil))) .nil) .nil)
  .nil))))
  (.cons (.ret (.lst .nil)) .nil))
/-- _law_falls (bands 0, at 1) -/
def a_law_falls_80 : Ss := (.cons (.ret (.slTo (.lc [1] (.nm 1) (.seq (.call 78 (.cons (.var 0) (.cons (.var 0) .nil)) [])) (.cons (.cmp .gt (.call 72 (.cons (.var 0) (.cons (.var 1) .nil)) []) (.call 72 (.cons (.var 0) (.cons (.bin .add (.var 1) (.cst (.int 1))) .nil)) [])) .nil) (.var 1)) (.cst (.int 1))))
  .nil)
/-- _law_spell (bands 0, band 1, rows 2) -/
def a_law_spell_81 : Ss := (.cons (.asg (.nm 2) (.lc [1] (.nm 1) (.seq (.var 0)) .nil (.bin .add (.bin .add (.bin .add (.bin .add (.bin .add (.cst (.str [102, 114, 111, 109, 32])) (.blt .str (.cons (.idx (.var 1) (.cst (.int 0))) .nil))) (.cst (.str [32, 118, 97, 108, 117, 101, 32]))) (.blt .str (.cons (.idx (.var 1) (.cst (.int 1))) .nil))) (.cst (.str [32, 115, 116, 101, 112, 32]))) (.blt .str (.cons (.idx (.var 1) (.cst (.int 2))) .nil)))))
  (.cons (.ret (.mth .join (.cst (.str [10])) (.var 2)))
  .nil))
/-- _law_two (well 0, sizes 1, near 2, even 3, share 4, band 5, less 6, some 7) -/
def a_law_two_82 : Ss := (.cons (.asg (.nm 1) (.call 77 (.cons (.var 0) .nil) []))
  (.cons (.par [2, 3] (.cons (.call 76 (.cons (.var 0) (.cons (.cst (.int 5)) (.cons (.var 1) .nil))) []) (.cons (.call 75 (.cons (.var 0) (.cons (.cst (.int 5)) (.cons (.var 1) .nil))) []) .nil)))
  (.cons (.asg (.nm 4) (.call 44 (.cons (.var 0) (.cons (.lst (.cons (.cst (.int 100)) (.cons (.cst (.int 50)) (.cons (.cst (.int 25)) .nil)))) .nil)) []))
  (.cons (.asg (.nm 6) (.blt .tuple (.cons (.lc [5] (.nm 5) (.seq (.var 3)) .nil (.tup (.cons (.idx (.var 5) (.cst (.int 0))) (.cons (.bin .fdiv (.bin .mul (.idx (.var 5) (.cst (.int 1))) (.var 4)) (.cst (.int 100))) (.cons (.bin .fdiv (.bin .mul (.idx (.var 5) (.cst (.int 2))) (.var 4)) (.cst (.int 100))) .nil))))) .nil)))
  (.cons (.asg (.nm 7) (.lst (.cons (.tup (.cons (.var 2) (.cons (.tup (.cons (.tup (.cons (.cst (.int 0)) (.cons (.cst (.int 0)) (.cons (.cst (.int 100)) .nil)))) .nil)) .nil))) (.cons (.tup (.cons (.var 3) (.cons (.var 6) .nil))) (.cons (.tup (.cons (.var 6) (.cons (.var 3) .nil))) (.cons (.tup (.cons (.var 2) (.cons (.var 3) .nil))) (.cons (.tup (.cons (.var 3) (.cons (.var 3) .nil))) (.cons (.tup (.cons (.var 2) (.cons (.var 2) .nil))) .nil))))))))
  (.cons (.ret (.call 44 (.cons (.var 0) (.cons (.var 7) .nil)) []))
  .nil))))))
/-- _law_right (well 0, turn 1, bands 2, mates 3, told 4, due 5) -/
def a_law_right_83 : Ss := (.cons (.for_ (.nm 1) (.rng (.cst (.int 6))) (.cons (.asg (.tp (.cons (.nm 2) (.cons (.nm 3) .nil))) (.call 82 (.cons (.var 0) .nil) []))
  (.cons (.asg (.nm 4) (.tup (.cons (.cst (.str [109, 111, 114, 101])) (.cons (.call 81 (.cons (.var 2) .nil) []) (.cons (.call 81 (.cons (.var 3) .nil) []) .nil)))))
  (.cons (.asg (.nm 5) (.conj (.cons (.cmp .eq (.call 80 (.cons (.var 3) .nil) []) (.lst .nil)) (.cons (.cmp .eq (.call 79 (.cons (.var 2) (.cons (.var 3) .nil)) []) (.lst .nil)) .nil))))
  (.cons (.ite (.disj (.cons (.inv (.call 52 (.cons (.var 4) (.cons (.tup .nil) (.cons (.var 5) .nil))) [])) (.cons (.inv (.call 52 (.cons (.var 4) (.cons (.call 60 (.cons (.var 0) .nil) []) (.cons (.cst (.bl false)) .nil))) [])) .nil))) (.cons (.ret (.cst (.bl false))) .nil) .nil)
  .nil)))))
  (.cons (.ret (.cst (.bl true))) .nil))
/-- law (script 0, at 1) -/
def a_law_84 : Ss := (.cons (.ret (.blt .all (.cons (.lc [1] (.nm 1) (.rng (.blt .max (.cons (.cst (.int 2)) (.cons (.blt .min (.cons (.slen (.var 0)) (.cons (.cst (.int 5)) .nil))) .nil)))) .nil (.call 83 (.cons (.call 42 (.cons (.var 0) (.cons (.var 1) .nil)) []) .nil) [])) .nil)))
  .nil)
/-- _law_behind (bands 0, kinds 1, found 2, amount 3, many 4, rest 5) -/
def a_law_behind_85 : Ss := (.cons (.asg (.nm 2) .ndic) (.cons (.for_ (.tp (.cons (.nm 3) (.cons (.nm 4) .nil))) (.seq (.var 1)) (.cons (.asg (.nm 5) (.call 72 (.cons (.var 0) (.cons (.var 3) .nil)) []))
  (.cons (.asg (.sub (.var 2) (.var 5)) (.bin .add (.get (.var 2) (.var 5) (.cst (.int 0))) (.var 4)))
  .nil)))
  (.cons (.ret (.blt .tuple (.cons (.sitems (.var 2)) .nil)))
  .nil)))
/-- _law_tries (well 0, bands 1, mates 2, at 3, many 4, more 5, some 6) -/
def a_law_tries_86 : Ss := (.cons (.asg (.nm 3) (.call 44 (.cons (.var 0) (.cons (.call 78 (.cons (.var 1) (.cons (.var 2) .nil)) []) .nil)) []))
  (.cons (.asg (.nm 4) (.call 44 (.cons (.var 0) (.cons (.lst (.cons (.cst (.int 1)) (.cons (.bin .add (.cst (.int 1)) (.call 43 (.cons (.var 0) (.cons (.cst (.int 9)) .nil)) [])) (.cons (.bin .add (.cst (.int 1)) (.call 45 (.cons (.var 0) (.cons (.bin .pow (.cst (.int 10)) (.cst (.int 30))) .nil)) [])) (.cons (.bin .mul (.bin .pow (.cst (.int 10)) (.cst (.int 36))) (.bin .pow (.cst (.int 10)) (.cst (.int 35)))) .nil))))) .nil)) []))
  (.cons (.asg (.nm 5) (.call 44 (.cons (.var 0) (.cons (.lst (.cons (.cst (.int 1)) (.cons (.cst (.int 1)) (.cons (.bin .add (.cst (.int 1)) (.call 45 (.cons (.var 0) (.cons (.bin .pow (.cst (.int 10)) (.cst (.int 36))) .nil)) [])) .nil)))) .nil)) []))
  (.cons (.asg (.nm 6) (.nlst (.cons (.tup (.cons (.tup (.cons (.var 3) (.cons (.var 4) .nil))) (.cons (.tup (.cons (.bin .add (.var 3) (.cst (.int 1))) (.cons (.var 5) .nil))) .nil))) (.cons (.tup (.cons (.tup (.cons (.var 3) (.cons (.var 5) .nil))) (.cons (.tup (.cons (.bin .add (.var 3) (.cst (.int 1))) (.cons (.var 4) .nil))) .nil))) (.cons (.tup (.cons (.tup (.cons (.var 3) (.cons (.cst (.int 1)) .nil))) (.cons (.tup (.cons (.bin .add (.var 3) (.cst (.int 2))) (.cons (.cst (.int 2)) .nil))) (.cons (.tup (.cons (.bin .add (.var 3) (.cst (.int 5))) (.cons (.cst (.int 1)) .nil))) .nil)))) .nil)))))
  (.cons (.app (.var 6) (.call 46 (.cons (.var 0) (.cons (.cst (.int 4)) (.cons (.call 44 (.cons (.var 0) (.cons (.lst (.cons (.cst (.int 60)) (.cons (.bin .pow (.cst (.int 10)) (.cst (.int 30))) .nil))) .nil)) []) (.cons (.call 44 (.cons (.var 0) (.cons (.lst (.cons (.cst (.int 4)) (.cons (.bin .pow (.cst (.int 10)) (.cst (.int 40))) .nil))) .nil)) []) .nil)))) []))
  (.cons (.ret (.call 44 (.cons (.var 0) (.cons (.var 6) .nil)) []))
  .nil))))))
/-- _law_asked (well 0, bands 1, mates 2, told 3, turn 4, kinds 5, due 6, far 7) -/
def a_law_asked_87 : Ss := (.cons (.asg (.nm 3) (.tup (.cons (.cst (.str [110, 111, 116, 32, 109, 111, 114, 101])) (.cons (.call 81 (.cons (.var 1) .nil) []) (.cons (.call 81 (.cons (.var 2) .nil) []) .nil)))))
  (.cons (.for_ (.nm 4) (.rng (.cst (.int 4))) (.cons (.asg (.nm 5) (.call 86 (.cons (.var 0) (.cons (.var 1) (.cons (.var 2) .nil))) []))
  (.cons (.asg (.nm 6) (.inv (.call 57 (.cons (.call 85 (.cons (.var 1) (.cons (.var 5) .nil)) []) (.cons (.call 85 (.cons (.var 2) (.cons (.var 5) .nil)) []) .nil)) [])))
  (.cons (.ite (.inv (.call 52 (.cons (.var 3) (.cons (.call 47 (.cons (.var 5) .nil) []) (.cons (.var 6) .nil))) [])) (.cons (.ret (.cst (.bl false))) .nil) .nil)
  .nil))))
  (.cons (.asg (.nm 7) (.tup (.cons (.tup (.cons (.cst (.int 0)) (.cons (.cst (.int 1)) .nil))) (.cons (.tup (.cons (.bin .pow (.cst (.int 10)) (.cst (.int 30))) (.cons (.cst (.int 2)) .nil))) .nil))))
  (.cons (.asg (.nm 6) (.inv (.call 57 (.cons (.call 85 (.cons (.var 1) (.cons (.var 7) .nil)) []) (.cons (.call 85 (.cons (.var 2) (.cons (.var 7) .nil)) []) .nil)) [])))
  (.cons (.ite (.disj (.cons (.inv (.call 52 (.cons (.var 3) (.cons (.call 47 (.cons (.var 7) .nil) []) (.cons (.var 6) .nil))) [])) (.cons (.inv (.call 52 (.cons (.var 3) (.cons (.bin .add (.cst (.str [49, 32, 111, 102, 32, 48, 10, 50, 32, 111, 102, 32])) (.blt .str (.cons (.bin .add (.bin .pow (.cst (.int 10)) (.cst (.int 30))) (.cst (.int 1))) .nil))) (.cons (.cst (.bl false)) .nil))) [])) .nil))) (.cons (.ret (.cst (.bl false))) .nil) .nil)
  (.cons (.ret (.conj (.cons (.call 52 (.cons (.var 3) (.cons (.tup .nil) (.cons (.cst (.bl false)) .nil))) []) (.cons (.call 52 (.cons (.var 3) (.cons (.call 44 (.cons (.var 0) (.cons (.lst (.cons (.cst .non) (.cons (.var 7) (.cons (.cst (.int 5)) (.cons (.lst .nil) (.cons (.cst (.str [49, 32, 111, 102, 32, 49, 32])) .nil)))))) .nil)) []) (.cons (.cst (.bl false)) .nil))) []) .nil))))
  .nil))))))
/-- _law_right (well 0, turn 1, sizes 2, bands 3, mates 4) -/
def a_law_right_88 : Ss := (.cons (.for_ (.nm 1) (.rng (.cst (.int 2))) (.cons (.asg (.nm 2) (.call 77 (.cons (.var 0) .nil) []))
  (.cons (.par [3, 4] (.cons (.call 76 (.cons (.var 0) (.cons (.cst (.int 4)) (.cons (.var 2) .nil))) []) (.cons (.call 44 (.cons (.var 0) (.cons (.lst (.cons (.tup (.cons (.tup (.cons (.cst (.int 0)) (.cons (.cst (.int 0)) (.cons (.cst (.int 100)) .nil)))) .nil)) (.cons (.call 76 (.cons (.var 0) (.cons (.cst (.int 4)) (.cons (.var 2) .nil))) []) .nil))) .nil)) []) .nil)))
  (.cons (.ite (.inv (.call 87 (.cons (.var 0) (.cons (.var 3) (.cons (.var 4) .nil))) [])) (.cons (.ret (.cst (.bl false))) .nil) .nil)
  .nil))))
  (.cons (.ret (.cst (.bl true))) .nil))
/-- law (script 0, at 1) -/
def a_law_89 : Ss := (.cons (.ret (.blt .all (.cons (.lc [1] (.nm 1) (.rng (.blt .max (.cons (.cst (.int 2)) (.cons (.blt .min (.cons (.slen (.var 0)) (.cons (.cst (.int 5)) .nil))) .nil)))) .nil (.call 88 (.cons (.call 42 (.cons (.var 0) (.cons (.var 1) .nil)) []) .nil) [])) .nil)))
  .nil)
/-- _law_pairs (dues 0, plain_here 1, help_here 2, found 3) -/
def a_law_pairs_90 : Ss := (.cons (.asg (.tp (.cons (.nm 0) (.cons (.nm 1) .nil))) (.tup (.cons (.cst (.str [102, 114, 111, 109, 32, 48, 32, 118, 97, 108, 117, 101, 32, 48, 32, 115, 116, 101, 112, 32, 49, 48, 48, 10, 102, 114, 111, 109, 32, 49, 48, 48, 48, 32, 118, 97, 108, 117, 101, 32, 49, 48, 48, 48, 48, 48, 32, 115, 116, 101, 112, 32, 54, 48])) (.cons (.cst (.str [102, 114, 111, 109, 32, 48, 32, 118, 97, 108, 117, 101, 32, 48, 32, 115, 116, 101, 112, 32, 49, 48, 48])) .nil))))
  (.cons (.asg (.nm 2) (.cst (.str [102, 114, 111, 109, 32, 48, 32, 118, 97, 108, 117, 101, 32, 53, 48, 48, 48, 48, 32, 115, 116, 101, 112, 32, 50, 48, 10, 102, 114, 111, 109, 32, 49, 48, 48, 48, 32, 118, 97, 108, 117, 101, 32, 54, 57, 57, 56, 48, 32, 115, 116, 101, 112, 32, 56, 48])))
  (.cons (.asg (.nm 3) (.lst (.cons (.tup (.cons (.tup (.cons (.cst (.str [109, 111, 114, 101])) (.cons (.var 0) (.cons (.var 1) .nil)))) (.cons (.tup .nil) .nil))) (.cons (.tup (.cons (.tup (.cons (.cst (.str [110, 111, 116, 32, 109, 111, 114, 101])) (.cons (.var 2) (.cons (.var 1) .nil)))) (.cons (.cst (.str [49, 32, 111, 102, 32, 49, 48, 48, 48, 10, 49, 32, 111, 102, 32, 49, 48, 48, 49])) .nil))) .nil))))
  (.cons (.asg (.nm 3) (.bin .add (.var 3) (.lst (.cons (.tup (.cons (.tup (.cons (.cst (.str [117, 110, 101, 118, 101, 110])) (.cons (.cst (.str [49, 32, 111, 102, 32, 49, 10, 49, 32, 111, 102, 32, 51])) (.cons (.cst (.str [50, 32, 111, 102, 32, 53])) .nil)))) (.cons (.tup (.cons (.cst (.int 1)) (.cons (.cst (.int 2)) .nil))) .nil))) (.cons (.tup (.cons (.tup (.cons (.cst (.str [101, 118, 101, 110])) (.cons (.cst (.str [50, 32, 111, 102, 32, 50])) (.cons (.cst (.str [49, 32, 111, 102, 32, 49, 10, 49, 32, 111, 102, 32, 51])) .nil)))) (.cons (.tup .nil) .nil))) .nil)))))
  (.cons (.ret (.bin .add (.var 3) (.lst (.cons (.tup (.cons (.tup (.cons (.cst (.str [103, 105, 102, 116, 115])) (.cons (.cst (.str [49, 32, 111, 102, 32, 49, 10, 49, 32, 111, 102, 32, 51])) (.cons (.cst (.str [50, 32, 111, 102, 32, 50])) (.cons (.cst (.int 1)) .nil))))) (.cons (.tup (.cons (.tup (.cons (.cst (.int 3)) (.cons (.cst (.int 1)) (.cons (.cst (.int 1)) .nil)))) .nil)) .nil))) .nil))))
  .nil)))))
/-- _law_bent (well 0, told 1, things 2, at 3, thing 4, way 5) -/
def a_law_bent_91 : Ss := (.cons (.par [3, 4] (.cons (.call 43 (.cons (.var 0) (.cons (.blt .len (.cons (.var 1) .nil)) .nil)) []) (.cons (.call 44 (.cons (.var 0) (.cons (.var 2) .nil)) []) .nil)))
  (.cons (.asg (.nm 5) (.call 43 (.cons (.var 0) (.cons (.cst (.int 6)) .nil)) []))
  (.cons (.ite (.cmp .lt (.var 5) (.cst (.int 3))) (.cons (.ret (.bin .add (.bin .add (.slTo (.var 1) (.var 3)) (.tup (.cons (.var 4) .nil))) (.slFr (.var 1) (.bin .add (.var 3) (.cst (.int 1))))))
  .nil) .nil)
  (.cons (.ite (.cmp .eq (.var 5) (.cst (.int 3))) (.cons (.ret (.bin .add (.slTo (.var 1) (.var 3)) (.slFr (.var 1) (.bin .add (.var 3) (.cst (.int 1))))))
  .nil) .nil)
  (.cons (.ret (.ite (.cmp .eq (.var 5) (.cst (.int 4))) (.bin .add (.bin .add (.slTo (.var 1) (.var 3)) (.tup (.cons (.var 4) .nil))) (.slFr (.var 1) (.var 3))) (.call 44 (.cons (.var 0) (.cons (.lst (.cons (.blt .list (.cons (.var 1) .nil)) (.cons (.idx (.var 1) (.cst (.int 0))) (.cons (.bin .add (.var 1) (.var 1)) (.cons .ddic .nil))))) .nil)) [])))
  .nil)))))
/-- _law_is_claim (told 0) -/
def a_law_is_claim_92 : Ss := (.cons (.ite (.disj (.cons (.inv (.isi (.var 0) .tuple)) (.cons (.cmp .lt (.blt .len (.cons (.var 0) .nil)) (.cst (.int 3))) (.cons (.inv (.isi (.idx (.var 0) (.cst (.int 0))) .str)) .nil)))) (.cons (.ret (.cst (.bl false))) .nil) .nil)
  (.cons (.ite (.disj (.cons (.cmp .notin (.idx (.var 0) (.cst (.int 0))) (.lst (.cons (.cst (.str [109, 111, 114, 101])) (.cons (.cst (.str [110, 111, 116, 32, 109, 111, 114, 101])) (.cons (.cst (.str [117, 110, 101, 118, 101, 110])) (.cons (.cst (.str [101, 118, 101, 110])) (.cons (.cst (.str [103, 105, 102, 116, 115])) .nil))))))) (.cons (.cmp .ne (.blt .len (.cons (.var 0) .nil)) (.bin .add (.cst (.int 3)) (.blt .int (.cons (.cmp .eq (.idx (.var 0) (.cst (.int 0))) (.cst (.str [103, 105, 102, 116, 115]))) .nil)))) .nil))) (.cons (.ret (.cst (.bl false))) .nil) .nil)
  (.cons (.ret (.conj (.cons (.isi (.idx (.var 0) (.cst (.int 1))) .str) (.cons (.isi (.idx (.var 0) (.cst (.int 2))) .str) .nil))))
  .nil)))
/-- _law_right (well 0, things 1, told 2, paper 3, bent 4, turn 5, got 6, near 7, far 8) -/
def a_law_right_93 : Ss := (.cons (.asg (.nm 1) (.lst (.cons (.cst (.str [77, 111, 114, 101])) (.cons (.cst (.str [110, 111, 116, 109, 111, 114, 101])) (.cons (.cst (.str [103, 105, 102, 116])) (.cons (.cst (.str [])) (.cons (.cst .non) (.cons (.cst (.int 0)) (.cons (.cst (.bl true)) (.cons (.cst (.int 3)) (.cons (.tup .nil) (.cons (.tup (.cons (.cst (.str [109, 111, 114, 101])) .nil)) (.cons (.lst .nil) (.cons .ddic (.cons (.cst (.str [49, 32, 111, 102, 32, 49])) (.cons (.cst (.str [50, 32, 111, 102, 32, 50, 10, 49, 32, 111, 102, 32, 50])) .nil))))))))))))))))
  (.cons (.asg (.nm 1) (.bin .add (.var 1) (.lst (.cons (.bin .pow (.cst (.int 10)) (.cst (.int 40))) (.cons (.neg (.cst (.int 1))) (.cons (.cst (.str [102, 114, 111, 109, 32, 48, 32, 118, 97, 108, 117, 101, 32, 48, 32, 115, 116, 101, 112, 32, 49, 48, 48, 32])) (.cons (.cst (.str [102, 114, 111, 109, 32, 49, 32, 118, 97, 108, 117, 101, 32, 48, 32, 115, 116, 101, 112, 32, 49, 48, 48])) (.cons (.cst (.str [48, 32, 111, 102, 32, 53])) (.cons (.cst (.str [49, 32, 111, 102, 32, 45, 49])) .nil)))))))))
  (.cons (.for_ (.tp (.cons (.nm 2) (.cons (.nm 3) .nil))) (.seq (.call 90 .nil [])) (.cons (.ite (.inv (.call 52 (.cons (.var 2) (.cons (.var 3) (.cons (.cst (.bl true)) .nil))) [])) (.cons (.ret (.cst (.bl false))) .nil) .nil)
  (.cons (.for_ (.nm 4) (.seq (.lst (.cons (.bin .add (.var 2) (.tup (.cons (.cst (.int 1)) .nil))) (.cons (.bin .add (.var 2) (.tup (.cons (.var 3) .nil))) (.cons (.slTo (.var 2) (.neg (.cst (.int 1)))) (.cons (.blt .list (.cons (.var 2) .nil)) (.cons (.tup (.cons (.blt .list (.cons (.var 2) .nil)) .nil)) (.cons (.slTo (.var 2) (.cst (.int 1))) (.cons (.slFr (.var 2) (.cst (.int 1))) (.cons (.tup (.cons (.var 2) .nil)) .nil)))))))))) (.cons (.ite (.inv (.call 52 (.cons (.var 4) (.cons (.var 3) (.cons (.cst (.bl false)) .nil))) [])) (.cons (.ret (.cst (.bl false))) .nil) .nil)
  .nil))
  (.cons (.ite (.conj (.cons (.cmp .eq (.idx (.var 2) (.cst (.int 0))) (.cst (.str [103, 105, 102, 116, 115]))) (.cons (.inv (.call 52 (.cons (.bin .add (.slTo (.var 2) (.cst (.int 3))) (.tup (.cons (.cst (.bl true)) .nil))) (.cons (.var 3) (.cons (.cst (.bl false)) .nil))) [])) .nil))) (.cons (.ret (.cst (.bl false))) .nil) .nil)
  (.cons (.for_ (.nm 5) (.rng (.cst (.int 12))) (.cons (.asg (.nm 4) (.call 91 (.cons (.var 0) (.cons (.var 2) (.cons (.var 1) .nil))) []))
  (.cons (.asg (.nm 6) (.call 41 (.cons (.var 4) (.cons (.var 3) .nil)) []))
  (.cons (.ite (.disj (.cons (.conj (.cons (.cmp .isnot (.var 6) (.cst (.bl true))) (.cons (.cmp .isnot (.var 6) (.cst (.bl false))) .nil))) (.cons (.conj (.cons (.var 6) (.cons (.inv (.call 92 (.cons (.var 4) .nil) [])) .nil))) .nil))) (.cons (.ret (.cst (.bl false))) .nil) .nil)
  (.cons (.ite (.conj (.cons (.cmp .ne (.var 4) (.var 2)) (.cons (.var 6) (.cons (.cmp .notin (.idx (.var 4) (.cst (.int 0))) (.lst (.cons (.cst (.str [101, 118, 101, 110])) (.cons (.cst (.str [117, 110, 101, 118, 101, 110])) .nil)))) .nil)))) (.cons (.ret (.cst (.bl false))) .nil) .nil)
  .nil)))))
  .nil)))))
  (.cons (.for_ (.nm 5) (.rng (.cst (.int 20))) (.cons (.par [7, 8] (.cons (.call 44 (.cons (.var 0) (.cons (.var 1) .nil)) []) (.cons (.call 44 (.cons (.var 0) (.cons (.var 1) .nil)) []) .nil)))
  (.cons (.ite (.disj (.cons (.cmp .isnot (.call 41 (.cons (.var 7) (.cons (.var 8) .nil)) []) (.cst (.bl false))) (.cons (.cmp .isnot (.call 41 (.cons (.tup (.cons (.var 7) (.cons (.var 8) (.cons (.var 7) .nil)))) (.cons (.var 8) .nil)) []) (.cst (.bl false))) .nil))) (.cons (.ret (.cst (.bl false))) .nil) .nil)
  .nil)))
  (.cons (.ret (.cst (.bl true))) .nil)))))
/-- law (script 0, at 1) -/
def a_law_94 : Ss := (.cons (.ret (.blt .all (.cons (.lc [1] (.nm 1) (.rng (.blt .max (.cons (.cst (.int 2)) (.cons (.blt .min (.cons (.slen (.var 0)) (.cons (.cst (.int 5)) .nil))) .nil)))) .nil (.call 93 (.cons (.call 42 (.cons (.var 0) (.cons (.var 1) .nil)) []) .nil) [])) .nil)))
  .nil)
/-- _law_low (bands 0, at 1, begin 2, money 3, pace 4) -/
def a_law_low_95 : Ss := (.cons (.for_ (.nm 1) (.rng (.blt .len (.cons (.var 0) .nil))) (.cons (.asg (.tp (.cons (.nm 2) (.cons (.nm 3) (.cons (.nm 4) .nil)))) (.idx (.var 0) (.var 1)))
  (.cons (.ite (.cmp .eq (.bin .add (.var 1) (.cst (.int 1))) (.blt .len (.cons (.var 0) .nil))) (.cons (.ite (.cmp .lt (.var 4) (.cst (.int 0))) (.cons (.ret (.var 1)) .nil) .nil)
  .nil) (.cons (.ite (.cmp .lt (.bin .add (.var 3) (.bin .mul (.var 4) (.bin .sub (.bin .sub (.idx (.idx (.var 0) (.bin .add (.var 1) (.cst (.int 1)))) (.cst (.int 0))) (.cst (.int 1))) (.var 2)))) (.cst (.int 0))) (.cons (.ret (.var 1)) .nil) .nil)
  .nil))
  .nil)))
  (.cons (.ret (.neg (.cst (.int 1)))) .nil))
/-- _law_number (word 0, digits 1, sign 2) -/
def a_law_number_96 : Ss := (.cons (.asg (.nm 1) (.ite (.cmp .eq (.slTo (.var 0) (.cst (.int 1))) (.cst (.str [45]))) (.slFr (.var 0) (.cst (.int 1))) (.var 0)))
  (.cons (.ite (.disj (.cons (.cmp .eq (.var 1) (.cst (.str []))) (.cons (.cmp .ne (.lc [2] (.nm 2) (.seq (.var 1)) (.cons (.cmp .notin (.var 2) (.cst (.str [48, 49, 50, 51, 52, 53, 54, 55, 56, 57]))) .nil) (.var 2)) (.lst .nil)) (.cons (.cmp .gt (.blt .len (.cons (.var 1) .nil)) (.cst (.int 80))) .nil)))) (.cons (.ret (.lst .nil)) .nil) .nil)
  (.cons (.ret (.ite (.cmp .eq (.blt .str (.cons (.blt .int (.cons (.var 0) .nil)) .nil)) (.var 0)) (.lst (.cons (.blt .int (.cons (.var 0) .nil)) .nil)) (.lst .nil)))
  .nil)))
/-- _law_read_bands (string 0, found 1, last 2, row 3, words 4, numbers 5) -/
def a_law_read_bands_97 : Ss := (.cons (.par [1, 2] (.cons (.nlst .nil) (.cons (.neg (.cst (.int 1))) .nil)))
  (.cons (.for_ (.nm 3) (.seq (.mth .split (.var 0) (.cst (.str [10])))) (.cons (.asg (.nm 4) (.mth .split (.var 3) (.cst (.str [32]))))
  (.cons (.ite (.disj (.cons (.cmp .ne (.blt .len (.cons (.var 4) .nil)) (.cst (.int 6))) (.cons (.cmp .ne (.lst (.cons (.idx (.var 4) (.cst (.int 0))) (.cons (.idx (.var 4) (.cst (.int 2))) (.cons (.idx (.var 4) (.cst (.int 4))) .nil)))) (.lst (.cons (.cst (.str [102, 114, 111, 109])) (.cons (.cst (.str [118, 97, 108, 117, 101])) (.cons (.cst (.str [115, 116, 101, 112])) .nil))))) .nil))) (.cons (.ret (.tup .nil)) .nil) .nil)
  (.cons (.asg (.nm 5) (.bin .add (.bin .add (.call 96 (.cons (.idx (.var 4) (.cst (.int 1))) .nil) []) (.call 96 (.cons (.idx (.var 4) (.cst (.int 3))) .nil) [])) (.call 96 (.cons (.idx (.var 4) (.cst (.int 5))) .nil) [])))
  (.cons (.ite (.disj (.cons (.cmp .ne (.blt .len (.cons (.var 5) .nil)) (.cst (.int 3))) (.cons (.inv (.chain .lt .le (.var 2) (.idx (.var 5) (.cst (.int 0))) (.bin .pow (.cst (.int 10)) (.cst (.int 29))))) (.cons (.inv (.chain .le .le (.cst (.int 0)) (.idx (.var 5) (.cst (.int 1))) (.bin .pow (.cst (.int 10)) (.cst (.int 32))))) .nil)))) (.cons (.ret (.tup .nil)) .nil) .nil)
  (.cons (.ite (.disj (.cons (.cmp .gt (.blt .abs (.cons (.idx (.var 5) (.cst (.int 2))) .nil)) (.cst (.int 1000))) (.cons (.conj (.cons (.cmp .eq (.var 1) (.lst .nil)) (.cons (.cmp .ne (.idx (.var 5) (.cst (.int 0))) (.cst (.int 0))) .nil))) .nil))) (.cons (.ret (.tup .nil)) .nil) .nil)
  (.cons (.asg (.nm 2) (.idx (.var 5) (.cst (.int 0))))
  (.cons (.app (.var 1) (.blt .tuple (.cons (.var 5) .nil)))
  .nil))))))))
  (.cons (.ret (.ite (.conj (.cons (.cmp .lt (.blt .len (.cons (.var 1) .nil)) (.cst (.int 9))) (.cons (.cmp .lt (.call 95 (.cons (.var 1) .nil) []) (.cst (.int 0))) .nil))) (.blt .tuple (.cons (.var 1) .nil)) (.tup .nil)))
  .nil)))
/-- _law_read_kinds (string 0, found 1, last 2, row 3, words 4, numbers 5) -/
def a_law_read_kinds_98 : Ss := (.cons (.par [1, 2] (.cons (.nlst .nil) (.cons (.neg (.cst (.int 1))) .nil)))
  (.cons (.for_ (.nm 3) (.seq (.mth .split (.var 0) (.cst (.str [10])))) (.cons (.asg (.nm 4) (.mth .split (.var 3) (.cst (.str [32]))))
  (.cons (.ite (.disj (.cons (.cmp .ne (.blt .len (.cons (.var 4) .nil)) (.cst (.int 3))) (.cons (.cmp .ne (.idx (.var 4) (.cst (.int 1))) (.cst (.str [111, 102]))) .nil))) (.cons (.ret (.tup .nil)) .nil) .nil)
  (.cons (.asg (.nm 5) (.bin .add (.call 96 (.cons (.idx (.var 4) (.cst (.int 2))) .nil) []) (.call 96 (.cons (.idx (.var 4) (.cst (.int 0))) .nil) [])))
  (.cons (.ite (.disj (.cons (.cmp .ne (.blt .len (.cons (.var 5) .nil)) (.cst (.int 2))) (.cons (.inv (.chain .lt .le (.var 2) (.idx (.var 5) (.cst (.int 0))) (.bin .pow (.cst (.int 10)) (.cst (.int 36))))) (.cons (.inv (.chain .le .le (.cst (.int 1)) (.idx (.var 5) (.cst (.int 1))) (.bin .mul (.bin .pow (.cst (.int 10)) (.cst (.int 36))) (.bin .pow (.cst (.int 10)) (.cst (.int 36)))))) .nil)))) (.cons (.ret (.tup .nil)) .nil) .nil)
  (.cons (.asg (.nm 2) (.idx (.var 5) (.cst (.int 0))))
  (.cons (.app (.var 1) (.blt .tuple (.cons (.var 5) .nil)))
  .nil)))))))
  (.cons (.ret (.ite (.cmp .lt (.blt .len (.cons (.var 1) .nil)) (.cst (.int 31))) (.blt .tuple (.cons (.var 1) .nil)) (.tup .nil)))
  .nil)))
/-- _law_bent_text (well 0, string 1, way 2, at 3, sign 4, rows 5, words 6, by 7, some 8) -/
def a_law_bent_text_99 : Ss := (.cons (.par [2, 3] (.cons (.call 43 (.cons (.var 0) (.cons (.cst (.int 9)) .nil)) []) (.cons (.call 43 (.cons (.var 0) (.cons (.bin .add (.blt .len (.cons (.var 1) .nil)) (.cst (.int 1))) .nil)) []) .nil)))
  (.cons (.asg (.nm 4) (.call 44 (.cons (.var 0) (.cons (.cst (.str [48, 49, 50, 51, 52, 53, 54, 55, 56, 57, 32, 45, 10, 111, 102, 115, 116, 101, 112])) .nil)) []))
  (.cons (.ite (.cmp .lt (.var 2) (.cst (.int 2))) (.cons (.ret (.bin .add (.bin .add (.slTo (.var 1) (.var 3)) (.var 4)) (.slFr (.var 1) (.var 3))))
  .nil) .nil)
  (.cons (.ite (.cmp .eq (.var 2) (.cst (.int 2))) (.cons (.ret (.bin .add (.slTo (.var 1) (.var 3)) (.slFr (.var 1) (.bin .add (.var 3) (.cst (.int 1))))))
  .nil) .nil)
  (.cons (.ite (.cmp .eq (.var 2) (.cst (.int 3))) (.cons (.ret (.bin .add (.bin .add (.slTo (.var 1) (.var 3)) (.var 4)) (.slFr (.var 1) (.bin .add (.var 3) (.cst (.int 1))))))
  .nil) .nil)
  (.cons (.asg (.nm 5) (.mth .split (.var 1) (.cst (.str [10]))))
  (.cons (.asg (.nm 3) (.call 43 (.cons (.var 0) (.cons (.blt .len (.cons (.var 5) .nil)) .nil)) []))
  (.cons (.ite (.cmp .eq (.var 2) (.cst (.int 4))) (.cons (.ret (.mth .join (.cst (.str [10])) (.bin .add (.slTo (.var 5) (.var 3)) (.slFr (.var 5) (.bin .add (.var 3) (.cst (.int 1)))))))
  .nil) .nil)
  (.cons (.ite (.cmp .eq (.var 2) (.cst (.int 5))) (.cons (.ret (.mth .join (.cst (.str [10])) (.bin .add (.bin .add (.slTo (.var 5) (.var 3)) (.slMi (.var 5) (.var 3) (.bin .add (.var 3) (.cst (.int 1))))) (.slFr (.var 5) (.var 3)))))
  .nil) .nil)
  (.cons (.ite (.cmp .eq (.var 2) (.cst (.int 6))) (.cons .stuck .nil) .nil)
  (.cons (.asg (.nm 6) (.mth .split (.idx (.var 5) (.var 3)) (.cst (.str [32]))))
  (.cons (.asg (.nm 7) (.call 43 (.cons (.var 0) (.cons (.blt .len (.cons (.var 6) .nil)) .nil)) []))
  (.cons (.asg (.nm 8) (.lst (.cons (.cst (.str [48])) (.cons (.cst (.str [48, 48])) (.cons (.cst (.str [49])) (.cons (.cst (.str [45, 49])) (.cons (.cst (.str [49, 48, 48, 49])) (.cons (.cst (.str [45, 49, 48, 48, 48])) (.cons (.blt .str (.cons (.bin .add (.bin .pow (.cst (.int 10)) (.cst (.int 29))) (.cst (.int 1))) .nil)) (.cons (.cst (.str [120])) (.cons (.cst (.str [])) (.cons (.cst (.str [115, 116, 101, 112])) (.cons (.cst (.str [111, 102])) (.cons (.idx (.var 6) (.cst (.int 0))) .nil))))))))))))))
  (.cons (.asg (.sub (.var 6) (.var 7)) (.call 44 (.cons (.var 0) (.cons (.var 8) .nil)) []))
  (.cons (.ret (.ite (.cmp .eq (.var 2) (.cst (.int 7))) (.mth .join (.cst (.str [10])) (.bin .add (.bin .add (.slTo (.var 5) (.var 3)) (.lst (.cons (.mth .join (.cst (.str [32])) (.var 6)) .nil))) (.slFr (.var 5) (.bin .add (.var 3) (.cst (.int 1)))))) (.var 1)))
  .nil)))))))))))))))
/-- _law_rules_due (told 0, paper 1, bands 2, mates 3, kinds 4) -/
def a_law_rules_due_100 : Ss := (.cons (.par [2, 3] (.cons (.call 97 (.cons (.idx (.var 0) (.cst (.int 1))) .nil) []) (.cons (.call 97 (.cons (.idx (.var 0) (.cst (.int 2))) .nil) []) .nil)))
  (.cons (.ite (.disj (.cons (.cmp .eq (.var 2) (.tup .nil)) (.cons (.cmp .eq (.var 3) (.tup .nil)) .nil))) (.cons (.ret (.cst (.bl false))) .nil) .nil)
  (.cons (.ite (.cmp .eq (.idx (.var 0) (.cst (.int 0))) (.cst (.str [109, 111, 114, 101]))) (.cons (.ret (.conj (.cons (.cmp .eq (.var 1) (.tup .nil)) (.cons (.cmp .eq (.call 80 (.cons (.var 3) .nil) []) (.lst .nil)) (.cons (.cmp .eq (.call 79 (.cons (.var 2) (.cons (.var 3) .nil)) []) (.lst .nil)) .nil)))))
  .nil) .nil)
  (.cons (.asg (.nm 4) (.call 98 (.cons (.var 1) .nil) []))
  (.cons (.ite (.disj (.cons (.cmp .eq (.var 4) (.tup .nil)) (.cons (.cmp .gt (.idx (.idx (.var 4) (.neg (.cst (.int 1)))) (.cst (.int 0))) (.bin .pow (.cst (.int 10)) (.cst (.int 30)))) .nil))) (.cons (.ret (.cst (.bl false))) .nil) .nil)
  (.cons (.ret (.inv (.call 57 (.cons (.call 85 (.cons (.var 2) (.cons (.var 4) .nil)) []) (.cons (.call 85 (.cons (.var 3) (.cons (.var 4) .nil)) []) .nil)) [])))
  .nil))))))
/-- _law_purses_due (told 0, paper 1, kinds 2, mates 3) -/
def a_law_purses_due_101 : Ss := (.cons (.par [2, 3] (.cons (.call 98 (.cons (.idx (.var 0) (.cst (.int 1))) .nil) []) (.cons (.call 98 (.cons (.idx (.var 0) (.cst (.int 2))) .nil) []) .nil)))
  (.cons (.ite (.disj (.cons (.cmp .eq (.var 2) (.tup .nil)) (.cons (.cmp .eq (.var 3) (.tup .nil)) .nil))) (.cons (.ret (.cst (.bl false))) .nil) .nil)
  (.cons (.ret (.ite (.cmp .eq (.idx (.var 0) (.cst (.int 0))) (.cst (.str [101, 118, 101, 110]))) (.call 57 (.cons (.var 2) (.cons (.var 3) .nil)) []) (.call 49 (.cons (.var 2) (.cons (.var 3) (.cons (.idx (.var 1) (.cst (.int 0))) (.cons (.idx (.var 1) (.cst (.int 1))) .nil)))) [])))
  .nil)))
/-- _law_rules_right (well 0, sizes 1, texts_here 2, at 3, paper 4, told 5) -/
def a_law_rules_right_102 : Ss := (.cons (.asg (.nm 1) (.call 77 (.cons (.var 0) .nil) []))
  (.cons (.asg (.nm 2) (.nlst (.cons (.call 81 (.cons (.call 76 (.cons (.var 0) (.cons (.cst (.int 3)) (.cons (.var 1) .nil))) []) .nil) []) (.cons (.call 81 (.cons (.call 75 (.cons (.var 0) (.cons (.cst (.int 3)) (.cons (.var 1) .nil))) []) .nil) []) .nil))))
  (.cons (.par [3, 4] (.cons (.call 43 (.cons (.var 0) (.cons (.cst (.int 2)) .nil)) []) (.cons (.call 47 (.cons (.call 46 (.cons (.var 0) (.cons (.cst (.int 3)) (.cons (.call 44 (.cons (.var 0) (.cons (.lst (.cons (.cst (.int 60)) (.cons (.bin .pow (.cst (.int 10)) (.cst (.int 30))) .nil))) .nil)) []) (.cons (.cst (.int 9)) .nil)))) []) .nil) []) .nil)))
  (.cons (.ite (.cmp .eq (.call 43 (.cons (.var 0) (.cons (.cst (.int 3)) .nil)) []) (.cst (.int 0))) (.cons (.asg (.nm 4) (.call 99 (.cons (.var 0) (.cons (.var 4) .nil)) []))
  .nil) (.cons (.asg (.sub (.var 2) (.var 3)) (.call 99 (.cons (.var 0) (.cons (.idx (.var 2) (.var 3)) .nil)) []))
  .nil))
  (.cons (.asg (.nm 5) (.tup (.cons (.cst (.str [109, 111, 114, 101])) (.cons (.idx (.var 2) (.cst (.int 0))) (.cons (.idx (.var 2) (.cst (.int 1))) .nil)))))
  (.cons (.ite (.inv (.call 52 (.cons (.var 5) (.cons (.tup .nil) (.cons (.call 100 (.cons (.var 5) (.cons (.tup .nil) .nil)) []) .nil))) [])) (.cons (.ret (.cst (.bl false))) .nil) .nil)
  (.cons (.asg (.nm 5) (.tup (.cons (.cst (.str [110, 111, 116, 32, 109, 111, 114, 101])) (.cons (.idx (.var 2) (.cst (.int 0))) (.cons (.idx (.var 2) (.cst (.int 1))) .nil)))))
  (.cons (.ret (.call 52 (.cons (.var 5) (.cons (.var 4) (.cons (.call 100 (.cons (.var 5) (.cons (.var 4) .nil)) []) .nil))) []))
  .nil))))))))
/-- _law_purses_right (well 0, turn 1, texts_here 2, at 3, whole 4, paper 5, told 6) -/
def a_law_purses_right_103 : Ss := (.cons (.asg (.nm 2) (.lc [1] (.nm 1) (.rng (.cst (.int 2))) .nil (.call 47 (.cons (.call 46 (.cons (.var 0) (.cons (.cst (.int 4)) (.cons (.call 44 (.cons (.var 0) (.cons (.lst (.cons (.cst (.int 9)) (.cons (.bin .pow (.cst (.int 10)) (.cst (.int 36))) .nil))) .nil)) []) (.cons (.cst (.int 9)) .nil)))) []) .nil) [])))
  (.cons (.par [3, 4] (.cons (.call 43 (.cons (.var 0) (.cons (.cst (.int 2)) .nil)) []) (.cons (.bin .add (.cst (.int 1)) (.call 43 (.cons (.var 0) (.cons (.cst (.int 12)) .nil)) [])) .nil)))
  (.cons (.asg (.sub (.var 2) (.var 3)) (.call 99 (.cons (.var 0) (.cons (.idx (.var 2) (.var 3)) .nil)) []))
  (.cons (.asg (.nm 5) (.tup (.cons (.call 43 (.cons (.var 0) (.cons (.bin .add (.var 4) (.cst (.int 1))) .nil)) []) (.cons (.var 4) .nil))))
  (.cons (.asg (.nm 6) (.tup (.cons (.cst (.str [101, 118, 101, 110])) (.cons (.idx (.var 2) (.cst (.int 0))) (.cons (.idx (.var 2) (.cst (.int 1))) .nil)))))
  (.cons (.ite (.inv (.call 52 (.cons (.var 6) (.cons (.tup .nil) (.cons (.call 101 (.cons (.var 6) (.cons (.tup .nil) .nil)) []) .nil))) [])) (.cons (.ret (.cst (.bl false))) .nil) .nil)
  (.cons (.asg (.nm 6) (.tup (.cons (.cst (.str [117, 110, 101, 118, 101, 110])) (.cons (.idx (.var 2) (.cst (.int 0))) (.cons (.idx (.var 2) (.cst (.int 1))) .nil)))))
  (.cons (.ret (.call 52 (.cons (.var 6) (.cons (.var 5) (.cons (.call 101 (.cons (.var 6) (.cons (.var 5) .nil)) []) .nil))) []))
  .nil))))))))
/-- _law_right (well 0, turn 1) -/
def a_law_right_104 : Ss := (.cons (.ret (.blt .all (.cons (.lc [1] (.nm 1) (.rng (.cst (.int 10))) .nil (.conj (.cons (.call 102 (.cons (.var 0) .nil) []) (.cons (.call 103 (.cons (.var 0) .nil) []) .nil)))) .nil)))
  .nil)
/-- law (script 0, at 1) -/
def a_law_105 : Ss := (.cons (.ret (.blt .all (.cons (.lc [1] (.nm 1) (.rng (.blt .max (.cons (.cst (.int 2)) (.cons (.blt .min (.cons (.slen (.var 0)) (.cons (.cst (.int 5)) .nil))) .nil)))) .nil (.call 104 (.cons (.call 42 (.cons (.var 0) (.cons (.var 1) .nil)) []) .nil) [])) .nil)))
  .nil)
/-- _law_rows_of (most 0, top 1, found 2, last 3, turn 4, fresh 5, row 6, amount 7) -/
def a_law_rows_of_106 : Ss := (.cons (.par [2, 3] (.cons (.lst .nil) (.cons (.lst (.cons (.tup .nil) .nil)) .nil)))
  (.cons (.for_ (.nm 4) (.rng (.var 0)) (.cons (.asg (.nm 5) (.lst .nil)) (.cons (.for_ (.nm 6) (.seq (.var 3)) (.cons .stuck .nil))
  (.cons (.par [2, 3] (.cons (.bin .add (.var 2) (.var 5)) (.cons (.var 5) .nil)))
  .nil))))
  (.cons (.ret (.var 2)) .nil)))
/-- _law_share_rows (row 0, line 1, here 2, there 3, near 4, far 5, at 6) -/
def a_law_share_rows_107 : Ss := (.cons (.asg (.tp (.cons (.nm 2) (.cons (.nm 3) (.cons (.nm 4) (.cons (.nm 5) .nil))))) (.tup (.cons (.cst (.int 0)) (.cons (.cst (.int 0)) (.cons (.blt .sum (.cons (.var 0) .nil)) (.cons (.blt .sum (.cons (.var 1) .nil)) .nil))))))
  (.cons (.ite (.disj (.cons (.cmp .eq (.var 5) (.cst (.int 0))) (.cons (.cmp .eq (.var 4) (.cst (.int 0))) .nil))) (.cons (.ret (.disj (.cons (.cmp .eq (.var 4) (.cst (.int 0))) (.cons (.cmp .eq (.var 0) (.bin .mul (.tup (.cons (.idx (.var 0) (.cst (.int 0))) .nil)) (.blt .len (.cons (.var 0) .nil)))) .nil))))
  .nil) .nil)
  (.cons (.for_ (.nm 6) (.rng (.blt .len (.cons (.var 0) .nil))) (.cons (.par [2, 3] (.cons (.bin .add (.var 2) (.idx (.var 0) (.var 6))) (.cons (.bin .add (.var 3) (.idx (.var 1) (.var 6))) .nil)))
  (.cons (.ite (.cmp .lt (.bin .mul (.var 2) (.var 5)) (.bin .mul (.var 3) (.var 4))) (.cons (.ret (.cst (.bl false))) .nil) .nil)
  .nil)))
  (.cons (.ret (.cst (.bl true))) .nil))))
/-- _law_contrary_row (bands 0, mates 1, most 2, top 3, row 4, income 5, near 6) -/
def a_law_contrary_row_108 : Ss := (.cons (.for_ (.nm 4) (.seq (.call 106 (.cons (.var 2) (.cons (.var 3) .nil)) [])) (.cons (.asg (.nm 6) (.blt .tuple (.cons (.blt .sorted (.cons (.lc [5] (.nm 5) (.seq (.var 4)) .nil (.call 72 (.cons (.var 0) (.cons (.var 5) .nil)) [])) .nil)) .nil)))
  (.cons (.ite (.inv (.call 107 (.cons (.var 6) (.cons (.blt .tuple (.cons (.blt .sorted (.cons (.lc [5] (.nm 5) (.seq (.var 4)) .nil (.call 72 (.cons (.var 1) (.cons (.var 5) .nil)) [])) .nil)) .nil)) .nil)) [])) (.cons (.ret (.lst (.cons (.var 4) .nil))) .nil) .nil)
  .nil)))
  (.cons (.ret (.lst .nil)) .nil))
/-- _law_evened (well 0, kinds 1, here 2, turn 3, row 4, low 5, high 6, many 7, part 8, old 9, fresh 10, pair 11) -/
def a_law_evened_109 : Ss := (.cons .stuck (.cons (.for_ (.nm 3) (.rng (.call 43 (.cons (.var 0) (.cons (.cst (.int 4)) .nil)) [])) (.cons (.asg (.nm 4) (.blt .sorted (.cons (.var 2) .nil)))
  (.cons (.par [5, 6] (.cons (.call 44 (.cons (.var 0) (.cons (.var 4) .nil)) []) (.cons (.call 44 (.cons (.var 0) (.cons (.var 4) .nil)) []) .nil)))
  (.cons (.ite (.cmp .gt (.bin .sub (.var 6) (.var 5)) (.cst (.int 1))) (.cons (.asg (.nm 7) (.blt .min (.cons (.idx (.var 2) (.var 5)) (.cons (.idx (.var 2) (.var 6)) .nil))))
  (.cons (.asg (.nm 7) (.call 44 (.cons (.var 0) (.cons (.lst (.cons (.var 7) (.cons (.cst (.int 1)) (.cons (.bin .add (.cst (.int 1)) (.bin .fdiv (.var 7) (.cst (.int 2)))) .nil)))) .nil)) []))
  (.cons (.asg (.nm 8) (.call 44 (.cons (.var 0) (.cons (.lst (.cons (.cst (.int 1)) (.cons (.bin .fdiv (.bin .sub (.var 6) (.var 5)) (.cst (.int 2))) (.cons (.bin .add (.cst (.int 1)) (.bin .fdiv (.bin .sub (.var 6) (.var 5)) (.cst (.int 4)))) .nil)))) .nil)) []))
  (.cons (.for_ (.tp (.cons (.nm 9) (.cons (.nm 10) .nil))) (.seq (.lst (.cons (.tup (.cons (.var 5) (.cons (.bin .add (.var 5) (.var 8)) .nil))) (.cons (.tup (.cons (.var 6) (.cons (.bin .sub (.var 6) (.var 8)) .nil))) .nil)))) (.cons (.asg (.sub (.var 2) (.var 9)) (.bin .sub (.idx (.var 2) (.var 9)) (.var 7)))
  (.cons (.asg (.sub (.var 2) (.var 10)) (.bin .add (.get (.var 2) (.var 10) (.cst (.int 0))) (.var 7)))
  .nil)))
  (.cons .stuck .nil))))) .nil)
  .nil))))
  (.cons (.ret (.blt .tuple (.cons (.sitems (.var 2)) .nil)))
  .nil)))
/-- _law_gifts_true (kinds 0, mates 1, goal 2, near 3, far 4, amount 5, many 6, at 7) -/
def a_law_gifts_true_110 : Ss := (.cons (.asg (.tp (.cons (.nm 3) (.cons (.nm 4) .nil))) (.tup (.cons (.lst .nil) (.cons (.lst .nil) .nil))))
  (.cons (.for_ (.tp (.cons (.nm 5) (.cons (.nm 6) .nil))) (.seq (.var 0)) (.cons (.asg (.nm 3) (.bin .add (.var 3) (.bin .mul (.lst (.cons (.var 5) .nil)) (.var 6))))
  .nil))
  (.cons (.for_ (.tp (.cons (.nm 5) (.cons (.nm 6) .nil))) (.seq (.var 1)) (.cons (.asg (.nm 4) (.bin .add (.var 4) (.bin .mul (.lst (.cons (.var 5) .nil)) (.var 6))))
  .nil))
  (.cons (.ite (.disj (.cons (.cmp .ne (.blt .len (.cons (.var 3) .nil)) (.blt .len (.cons (.var 4) .nil))) (.cons (.cmp .ne (.blt .sum (.cons (.var 3) .nil)) (.blt .sum (.cons (.var 4) .nil))) (.cons (.inv (.call 59 (.cons (.var 1) (.cons (.var 0) .nil)) [])) .nil)))) (.cons (.ret (.cst (.bl false))) .nil) .nil)
  (.cons (.ret (.cmp .eq (.blt .sum (.cons (.lc [7] (.nm 7) (.rng (.blt .len (.cons (.var 3) .nil))) .nil (.blt .max (.cons (.cst (.int 0)) (.cons (.bin .sub (.idx (.var 3) (.var 7)) (.idx (.var 4) (.var 7))) .nil)))) .nil)) (.var 2)))
  .nil)))))
/-- _law_is_true (told 0, paper 1, rules_here 2, purses_here 3, bands 4, mates 5, kinds 6) -/
def a_law_is_true_111 : Ss := (.cons (.ite (.cmp .isin (.idx (.var 0) (.cst (.int 0))) (.lst (.cons (.cst (.str [109, 111, 114, 101])) (.cons (.cst (.str [110, 111, 116, 32, 109, 111, 114, 101])) .nil)))) (.cons (.par [4, 5] (.cons (.idx (.var 2) (.idx (.var 0) (.cst (.int 1)))) (.cons (.idx (.var 2) (.idx (.var 0) (.cst (.int 2)))) .nil)))
  (.cons (.ite (.cmp .eq (.idx (.var 0) (.cst (.int 0))) (.cst (.str [109, 111, 114, 101]))) (.cons (.ret (.cmp .eq (.call 108 (.cons (.var 4) (.cons (.var 5) (.cons (.cst (.int 3)) (.cons (.cst (.int 8)) .nil)))) []) (.lst .nil)))
  .nil) .nil)
  (.cons (.asg (.nm 6) (.idx (.var 3) (.var 1))) (.cons (.ret (.inv (.call 59 (.cons (.call 85 (.cons (.var 4) (.cons (.var 6) .nil)) []) (.cons (.call 85 (.cons (.var 5) (.cons (.var 6) .nil)) []) .nil)) [])))
  .nil)))) .nil)
  (.cons (.par [6, 5] (.cons (.idx (.var 3) (.idx (.var 0) (.cst (.int 1)))) (.cons (.idx (.var 3) (.idx (.var 0) (.cst (.int 2)))) .nil)))
  (.cons (.ite (.cmp .eq (.idx (.var 0) (.cst (.int 0))) (.cst (.str [103, 105, 102, 116, 115]))) (.cons (.ret (.call 110 (.cons (.var 6) (.cons (.var 5) (.cons (.idx (.var 0) (.cst (.int 3))) .nil))) []))
  .nil) .nil)
  (.cons (.ite (.cmp .eq (.idx (.var 0) (.cst (.int 0))) (.cst (.str [101, 118, 101, 110]))) (.cons (.ret (.call 59 (.cons (.var 6) (.cons (.var 5) .nil)) []))
  .nil) .nil)
  (.cons (.ret (.conj (.cons (.inv (.call 59 (.cons (.var 6) (.cons (.var 5) .nil)) [])) (.cons (.call 49 (.cons (.var 6) (.cons (.var 5) (.cons (.idx (.var 1) (.cst (.int 0))) (.cons (.idx (.var 1) (.cst (.int 1))) .nil)))) []) .nil))))
  .nil)))))
/-- _law_claim (well 0, words_here 1, lines_here 2, word 3, some 4, told 5) -/
def a_law_claim_112 : Ss := (.cons (.asg (.nm 3) (.call 44 (.cons (.var 0) (.cons (.lst (.cons (.cst (.str [109, 111, 114, 101])) (.cons (.cst (.str [110, 111, 116, 32, 109, 111, 114, 101])) (.cons (.cst (.str [117, 110, 101, 118, 101, 110])) (.cons (.cst (.str [101, 118, 101, 110])) (.cons (.cst (.str [103, 105, 102, 116, 115])) .nil)))))) .nil)) []))
  (.cons (.asg (.nm 4) (.ite (.cmp .isin (.var 3) (.lst (.cons (.cst (.str [109, 111, 114, 101])) (.cons (.cst (.str [110, 111, 116, 32, 109, 111, 114, 101])) .nil)))) (.var 1) (.var 2)))
  (.cons (.asg (.nm 5) (.tup (.cons (.var 3) (.cons (.call 44 (.cons (.var 0) (.cons (.var 4) .nil)) []) (.cons (.call 44 (.cons (.var 0) (.cons (.var 4) .nil)) []) .nil)))))
  (.cons (.ret (.ite (.cmp .eq (.var 3) (.cst (.str [103, 105, 102, 116, 115]))) (.bin .add (.var 5) (.tup (.cons (.call 43 (.cons (.var 0) (.cons (.cst (.int 7)) .nil)) []) .nil))) (.var 5)))
  .nil))))
/-- _law_right (well 0, rules_here 1, purses_here 2, turn 3, bands 4, kinds 5, each 6, words_here 7, lines_here 8, told 9, spot 10, paper 11) -/
def a_law_right_113 : Ss := (.cons (.par [1, 2] (.cons .ndic (.cons .ndic .nil)))
  (.cons (.for_ (.nm 3) (.rng (.cst (.int 4))) (.cons (.asg (.nm 4) (.call 76 (.cons (.var 0) (.cons (.cst (.int 3)) (.cons (.lst (.cons (.cst (.int 6)) (.cons (.cst (.int 40)) (.cons (.cst (.int 9)) .nil)))) .nil))) []))
  (.cons (.asg (.sub (.var 1) (.call 81 (.cons (.var 4) .nil) [])) (.var 4))
  (.cons (.asg (.nm 5) (.call 46 (.cons (.var 0) (.cons (.cst (.int 3)) (.cons (.cst (.int 6)) (.cons (.cst (.int 2)) .nil)))) []))
  (.cons (.for_ (.nm 6) (.seq (.lst (.cons (.var 5) (.cons (.call 109 (.cons (.var 0) (.cons (.var 5) .nil)) []) .nil)))) (.cons (.asg (.sub (.var 2) (.call 47 (.cons (.var 6) .nil) [])) (.var 6))
  .nil))
  .nil)))))
  (.cons (.par [7, 8] (.cons (.blt .sorted (.cons (.blt .list (.cons (.var 1) .nil)) .nil)) (.cons (.blt .sorted (.cons (.blt .list (.cons (.var 2) .nil)) .nil)) .nil)))
  (.cons (.for_ (.nm 3) (.rng (.cst (.int 30))) (.cons (.asg (.nm 9) (.call 112 (.cons (.var 0) (.cons (.var 7) (.cons (.var 8) .nil))) []))
  (.cons (.asg (.nm 10) (.tup (.cons (.call 43 (.cons (.var 0) (.cons (.cst (.int 4)) .nil)) []) (.cons (.bin .add (.cst (.int 1)) (.call 43 (.cons (.var 0) (.cons (.cst (.int 5)) .nil)) [])) .nil))))
  (.cons (.for_ (.nm 11) (.seq (.lst (.cons (.tup .nil) (.cons (.var 10) (.cons (.tup (.cons (.tup (.cons (.cst (.int 6)) (.cons (.cst (.int 0)) (.cons (.cst (.int 1)) .nil)))) .nil)) (.cons (.tup (.cons (.tup (.cons (.cst (.int 4)) (.cons (.cst (.int 2)) (.cons (.cst (.int 1)) .nil)))) .nil)) (.cons (.call 44 (.cons (.var 0) (.cons (.var 8) .nil)) []) .nil))))))) (.cons (.ite (.conj (.cons (.call 41 (.cons (.var 9) (.cons (.var 11) .nil)) []) (.cons (.inv (.call 111 (.cons (.var 9) (.cons (.var 11) (.cons (.var 1) (.cons (.var 2) .nil)))) [])) .nil))) (.cons (.ret (.cst (.bl false))) .nil) .nil)
  .nil))
  .nil))))
  (.cons (.ret (.cst (.bl true))) .nil)))))
/-- law (script 0, at 1) -/
def a_law_114 : Ss := (.cons (.ret (.blt .all (.cons (.lc [1] (.nm 1) (.rng (.blt .max (.cons (.cst (.int 2)) (.cons (.blt .min (.cons (.slen (.var 0)) (.cons (.cst (.int 4)) .nil))) .nil)))) .nil (.call 113 (.cons (.call 42 (.cons (.var 0) (.cons (.var 1) .nil)) []) .nil) [])) .nil)))
  .nil)
/-- Purse.__init__ (self 0, kinds 1, wrong 2) -/
def a_Purse_init_115 : Ss := (.cons (.ite (.disj (.cons (.inv (.isi (.var 1) .tuple)) (.cons (.cmp .eq (.blt .len (.cons (.var 1) .nil)) (.cst (.int 0))) .nil))) (.cons .stuck .nil) .nil)
  (.cons (.asg (.nm 2) (.call 14 (.cons (.var 1) .nil) [(.int 1000000000000000000000000000000000000)]))
  (.cons (.ite (.cmp .isnot (.var 2) (.cst .non)) (.cons .stuck .nil) .nil)
  (.cons (.setf 1 (.var 0) (.var 1)) .nil))))
/-- Purse.kinds (self 0) -/
def a_Purse_kinds_116 : Ss := (.cons (.ret (.fld 1 (.var 0))) .nil)
/-- Purse.people (self 0) -/
def a_Purse_people_117 : Ss := (.cons (.ret (.call 18 (.cons (.fld 1 (.var 0)) .nil) []))
  .nil)
/-- Purse.total (self 0) -/
def a_Purse_total_118 : Ss := (.cons (.ret (.call 19 (.cons (.fld 1 (.var 0)) .nil) []))
  .nil)
/-- Purse.__len__ (self 0) -/
def a_Purse_len_119 : Ss := (.cons (.ret (.blt .len (.cons (.fld 1 (.var 0)) .nil)))
  .nil)
/-- Purse.__bool__ (self 0) -/
def a_Purse_bool_120 : Ss := (.cons (.ret (.cst (.bl true))) .nil)
/-- Purse.__eq__ (self 0, other 1) -/
def a_Purse_eq_121 : Ss := (.cons .stuck .nil)
/-- Purse.__str__ (self 0, amount 1, many 2, lines 3) -/
def a_Purse_str_122 : Ss := (.cons (.asg (.nm 3) (.lc [1, 2] (.tp (.cons (.nm 1) (.cons (.nm 2) .nil))) (.seq (.fld 1 (.var 0))) .nil (.fstr (.cons (.var 2) (.cons (.cst (.str [32, 111, 102, 32])) (.cons (.var 1) .nil))))))
  (.cons (.ret (.mth .join (.cst (.str [10])) (.var 3)))
  .nil))
/-- check_purse (value 0) -/
def a_check_purse_123 : Ss := (.cons (.ite (.inv (.isi (.var 0) (.cls 1))) (.cons .stuck .nil) .nil)
  .nil)
/-- check_two (first 0, second 1) -/
def a_check_two_124 : Ss := (.cons (.expr (.call 123 (.cons (.var 0) .nil) []))
  (.cons (.expr (.call 123 (.cons (.var 1) .nil) []))
  .nil))
/-- certify_order (first 0, second 1, found 2) -/
def a_certify_order_125 : Ss := (.cons (.expr (.call 124 (.cons (.var 0) (.cons (.var 1) .nil)) []))
  (.cons (.asg (.nm 2) (.call 23 (.cons (.prop 116 1 (.var 0)) (.cons (.prop 116 1 (.var 1)) .nil)) []))
  (.cons (.ite (.cmp .is (.var 2) (.cst .non)) (.cons (.ret (.tup (.cons (.tup (.cons (.cst (.str [101, 118, 101, 110])) (.cons (.strO 122 1 (.var 0)) (.cons (.strO 122 1 (.var 1)) .nil)))) (.cons (.tup .nil) .nil))))
  .nil) .nil)
  (.cons (.ret (.tup (.cons (.tup (.cons (.cst (.str [117, 110, 101, 118, 101, 110])) (.cons (.strO 122 1 (.var 0)) (.cons (.strO 122 1 (.var 1)) .nil)))) (.cons (.var 2) .nil))))
  .nil))))
/-- _law_asked (kinds 0, mates 1, got 2, is_even 3, part 4, whole 5) -/
def a_law_asked_126 : Ss := (.cons (.ite (.disj (.cons (.inv (.isi (.var 2) .tuple)) (.cons (.cmp .ne (.blt .len (.cons (.var 2) .nil)) (.cst (.int 2))) (.cons (.inv (.call 52 (.cons (.idx (.var 2) (.cst (.int 0))) (.cons (.idx (.var 2) (.cst (.int 1))) (.cons (.cst (.bl true)) .nil))) [])) .nil)))) (.cons (.ret (.cst (.bl false))) .nil) .nil)
  (.cons (.asg (.nm 3) (.call 57 (.cons (.var 0) (.cons (.var 1) .nil)) []))
  (.cons (.ite (.inv (.call 53 (.cons (.idx (.var 2) (.cst (.int 0))) (.cons (.tup (.cons (.ite (.var 3) (.cst (.str [101, 118, 101, 110])) (.cst (.str [117, 110, 101, 118, 101, 110]))) (.cons (.call 47 (.cons (.var 0) .nil) []) (.cons (.call 47 (.cons (.var 1) .nil) []) .nil)))) .nil)) [])) (.cons (.ret (.cst (.bl false))) .nil) .nil)
  (.cons (.ite (.var 3) (.cons (.ret (.cmp .eq (.idx (.var 2) (.cst (.int 1))) (.tup .nil)))
  .nil) .nil)
  (.cons (.asg (.tp (.cons (.nm 4) (.cons (.nm 5) .nil))) (.idx (.var 2) (.cst (.int 1))))
  (.cons (.ret (.conj (.cons (.chain .le .le (.cst (.int 0)) (.var 4) (.var 5)) (.cons (.cmp .gt (.var 5) (.cst (.int 0))) (.cons (.call 49 (.cons (.var 0) (.cons (.var 1) (.cons (.var 4) (.cons (.var 5) .nil)))) []) .nil)))))
  .nil))))))
/-- _law_right (well 0, turn 1, kinds 2, mates 3, near 4, far 5, empty 6) -/
def a_law_right_127 : Ss := (.cons (.for_ (.nm 1) (.rng (.cst (.int 6))) (.cons (.asg (.tp (.cons (.nm 2) (.cons (.nm 3) .nil))) (.call 51 (.cons (.var 0) .nil) []))
  (.cons (.ite (.cmp .eq (.call 43 (.cons (.var 0) (.cons (.cst (.int 3)) .nil)) []) (.cst (.int 0))) (.cons (.asg (.nm 3) (.call 109 (.cons (.var 0) (.cons (.var 2) .nil)) []))
  .nil) .nil)
  (.cons (.par [4, 5] (.cons (.mk 115 1 (.var 2)) (.cons (.mk 115 1 (.var 3)) .nil)))
  (.cons (.ite (.inv (.call 126 (.cons (.var 2) (.cons (.var 3) (.cons (.call 125 (.cons (.var 4) (.cons (.var 5) .nil)) []) .nil))) [])) (.cons (.ret (.cst (.bl false))) .nil) .nil)
  (.cons (.ite (.inv (.call 126 (.cons (.var 3) (.cons (.var 2) (.cons (.callK 125 [1, 0] (.cons (.var 4) (.cons (.var 5) .nil))) .nil))) [])) (.cons (.ret (.cst (.bl false))) .nil) .nil)
  (.cons (.ite (.inv (.call 126 (.cons (.var 2) (.cons (.var 2) (.cons (.call 125 (.cons (.var 4) (.cons (.var 4) .nil)) []) .nil))) [])) (.cons (.ret (.cst (.bl false))) .nil) .nil)
  .nil)))))))
  (.cons (.asg (.nm 6) (.tup (.cons (.tup (.cons (.cst (.int 0)) (.cons (.bin .add (.cst (.int 1)) (.call 43 (.cons (.var 0) (.cons (.cst (.int 9)) .nil)) [])) .nil))) .nil)))
  (.cons (.ite (.inv (.call 126 (.cons (.var 6) (.cons (.var 2) (.cons (.call 125 (.cons (.mk 115 1 (.var 6)) (.cons (.var 4) .nil)) []) .nil))) [])) (.cons (.ret (.cst (.bl false))) .nil) .nil)
  (.cons (.ret (.call 126 (.cons (.var 2) (.cons (.var 6) (.cons (.call 125 (.cons (.var 4) (.cons (.mk 115 1 (.var 6)) .nil)) []) .nil))) []))
  .nil))))
/-- law (script 0, at 1) -/
def a_law_128 : Ss := (.cons (.ret (.blt .all (.cons (.lc [1] (.nm 1) (.rng (.blt .max (.cons (.cst (.int 2)) (.cons (.blt .min (.cons (.slen (.var 0)) (.cons (.cst (.int 5)) .nil))) .nil)))) .nil (.call 127 (.cons (.call 42 (.cons (.var 0) (.cons (.var 1) .nil)) []) .nil) [])) .nil)))
  .nil)
/-- gifts_of (first 0, second 1, found 2, lacking 3, amount 4, above 5, count 6, spare 7, taker 8, lack 9, many 10, giver 11) -/
def a_gifts_of_129 : Ss := (.cons (.asg (.tp (.cons (.nm 2) (.cons (.nm 3) .nil))) (.tup (.cons .ddic (.cons (.lst .nil) .nil))))
  (.cons (.for_ (.tp (.cons (.nm 4) (.cons (.nm 5) (.cons (.nm 6) .nil)))) (.seq (.call 25 (.cons (.var 0) (.cons (.var 1) .nil)) [])) (.cons (.ite (.cmp .lt (.var 5) (.cst (.int 0))) (.cons (.app (.var 3) (.tup (.cons (.var 4) (.cons (.bin .mul (.neg (.var 5)) (.var 6)) .nil))))
  .nil) .nil)
  (.cons (.asg (.nm 7) (.blt .max (.cons (.cst (.int 0)) (.cons (.bin .mul (.var 5) (.var 6)) .nil))))
  (.cons .stuck .nil))))
  (.cons (.ret (.blt .tuple (.cons (.lc [11, 8] (.tp (.cons (.nm 11) (.cons (.nm 8) .nil))) (.seq (.blt .sorted (.cons (.blt .list (.cons (.var 2) .nil)) .nil))) .nil (.tup (.cons (.var 11) (.cons (.var 8) (.cons (.idx (.var 2) (.tup (.cons (.var 11) (.cons (.var 8) .nil)))) .nil))))) .nil)))
  .nil)))
/-- certify_gifts (first 0, second 1, many 2) -/
def a_certify_gifts_130 : Ss := (.cons (.expr (.call 124 (.cons (.var 0) (.cons (.var 1) .nil)) []))
  (.cons (.asg (.nm 2) (.call 26 (.cons (.prop 116 1 (.var 0)) (.cons (.prop 116 1 (.var 1)) .nil)) []))
  (.cons (.ite (.cmp .is (.var 2) (.cst .non)) (.cons (.ret (.cst .non)) .nil) .nil)
  (.cons (.ret (.tup (.cons (.tup (.cons (.cst (.str [103, 105, 102, 116, 115])) (.cons (.strO 122 1 (.var 0)) (.cons (.strO 122 1 (.var 1)) (.cons (.var 2) .nil))))) (.cons (.call 129 (.cons (.prop 116 1 (.var 0)) (.cons (.prop 116 1 (.var 1)) .nil)) []) .nil))))
  .nil))))
/-- _law_places (kinds 0, mates 1, found 2, at 3, by 4, left 5, more 6, turn 7, many 8) -/
def a_law_places_131 : Ss := (.cons (.asg (.tp (.cons (.nm 2) (.cons (.nm 3) (.cons (.nm 4) (.cons (.nm 5) (.cons (.nm 6) .nil)))))) (.tup (.cons (.lst .nil) (.cons (.cst (.int 0)) (.cons (.cst (.int 0)) (.cons (.idx (.idx (.var 0) (.cst (.int 0))) (.cst (.int 1))) (.cons (.idx (.idx (.var 1) (.cst (.int 0))) (.cst (.int 1))) .nil)))))))
  (.cons (.for_ (.nm 7) (.rng (.bin .add (.blt .len (.cons (.var 0) .nil)) (.blt .len (.cons (.var 1) .nil)))) (.cons (.asg (.nm 8) (.blt .min (.cons (.var 5) (.cons (.var 6) .nil))))
  (.cons (.app (.var 2) (.tup (.cons (.idx (.idx (.var 0) (.var 3)) (.cst (.int 0))) (.cons (.idx (.idx (.var 1) (.var 4)) (.cst (.int 0))) (.cons (.var 8) .nil)))))
  (.cons (.par [5, 6] (.cons (.bin .sub (.var 5) (.var 8)) (.cons (.bin .sub (.var 6) (.var 8)) .nil)))
  (.cons (.ite (.cmp .eq (.var 5) (.cst (.int 0))) (.cons (.asg (.nm 3) (.bin .add (.var 3) (.cst (.int 1))))
  (.cons (.ite (.cmp .eq (.var 3) (.blt .len (.cons (.var 0) .nil))) (.cons .brk .nil) .nil)
  (.cons (.asg (.nm 5) (.idx (.idx (.var 0) (.var 3)) (.cst (.int 1))))
  .nil))) .nil)
  (.cons (.ite (.cmp .eq (.var 6) (.cst (.int 0))) (.cons (.asg (.nm 4) (.bin .add (.var 4) (.cst (.int 1))))
  (.cons (.ite (.cmp .eq (.var 4) (.blt .len (.cons (.var 1) .nil))) (.cons .brk .nil) .nil)
  (.cons (.asg (.nm 6) (.idx (.idx (.var 1) (.var 4)) (.cst (.int 1))))
  .nil))) .nil)
  .nil))))))
  (.cons (.ret (.var 2)) .nil)))
/-- _law_gift_sum (kinds 0, mates 1, pair 2, mine 3, its 4, many 5) -/
def a_law_gift_sum_132 : Ss := (.cons (.ite (.cmp .ne (.blt .sum (.cons (.lc [2] (.nm 2) (.seq (.var 0)) .nil (.idx (.var 2) (.cst (.int 1)))) .nil)) (.blt .sum (.cons (.lc [2] (.nm 2) (.seq (.var 1)) .nil (.idx (.var 2) (.cst (.int 1)))) .nil))) (.cons (.ret (.lst .nil)) .nil) .nil)
  (.cons (.ite (.cmp .ne (.blt .sum (.cons (.lc [2] (.nm 2) (.seq (.var 0)) .nil (.bin .mul (.idx (.var 2) (.cst (.int 0))) (.idx (.var 2) (.cst (.int 1))))) .nil)) (.blt .sum (.cons (.lc [2] (.nm 2) (.seq (.var 1)) .nil (.bin .mul (.idx (.var 2) (.cst (.int 0))) (.idx (.var 2) (.cst (.int 1))))) .nil))) (.cons (.ret (.lst .nil)) .nil) .nil)
  (.cons (.ite (.inv (.call 57 (.cons (.var 1) (.cons (.var 0) .nil)) [])) (.cons (.ret (.lst .nil)) .nil) .nil)
  (.cons (.ret (.lst (.cons (.blt .sum (.cons (.lc [3, 4, 5] (.tp (.cons (.nm 3) (.cons (.nm 4) (.cons (.nm 5) .nil)))) (.seq (.call 131 (.cons (.var 0) (.cons (.var 1) .nil)) [])) (.cons (.cmp .gt (.var 3) (.var 4)) .nil) (.bin .mul (.bin .sub (.var 3) (.var 4)) (.var 5))) .nil)) .nil)))
  .nil))))
/-- _law_flows (rows 0, found 1, amount 2, many 3, pair 4) -/
def a_law_flows_133 : Ss := (.cons (.asg (.nm 1) .ndic) (.cons (.for_ (.tp (.cons (.nm 2) (.cons (.nm 3) .nil))) (.seq (.var 0)) (.cons (.asg (.sub (.var 1) (.var 2)) (.bin .add (.get (.var 1) (.var 2) (.cst (.int 0))) (.var 3)))
  .nil))
  (.cons (.ret (.blt .sorted (.cons (.lc [4] (.nm 4) (.items (.var 1)) (.cons (.cmp .gt (.idx (.var 4) (.cst (.int 1))) (.cst (.int 0))) .nil) (.var 4)) .nil)))
  .nil)))
/-- _law_is_gifts (kinds 0, mates 1, many 2, paper 3, last 4, row 5, each 6, spots 7, mine 8, its 9, often 10, gone 11, come 12, told 13) -/
def a_law_is_gifts_134 : Ss := (.cons (.ite (.disj (.cons (.cmp .ne (.call 132 (.cons (.var 0) (.cons (.var 1) .nil)) []) (.lst (.cons (.var 2) .nil))) (.cons (.inv (.isi (.var 3) .tuple)) .nil))) (.cons (.ret (.cst (.bl false))) .nil) .nil)
  (.cons (.asg (.nm 4) (.tup (.cons (.neg (.cst (.int 1))) (.cons (.neg (.cst (.int 1))) .nil))))
  (.cons (.for_ (.nm 5) (.seq (.var 3)) (.cons (.ite (.disj (.cons (.inv (.isi (.var 5) .tuple)) (.cons (.cmp .ne (.blt .len (.cons (.var 5) .nil)) (.cst (.int 3))) .nil))) (.cons (.ret (.cst (.bl false))) .nil) .nil)
  (.cons (.for_ (.nm 6) (.seq (.var 5)) (.cons (.ite (.disj (.cons (.inv (.isi (.var 6) .int)) (.cons (.isi (.var 6) .bool) .nil))) (.cons (.ret (.cst (.bl false))) .nil) .nil)
  .nil))
  (.cons (.ite (.disj (.cons (.cmp .lt (.idx (.var 5) (.cst (.int 2))) (.cst (.int 1))) (.cons (.cmp .le (.idx (.var 5) (.cst (.int 0))) (.idx (.var 5) (.cst (.int 1)))) (.cons (.cmp .le (.slTo (.var 5) (.cst (.int 2))) (.var 4)) .nil)))) (.cons (.ret (.cst (.bl false))) .nil) .nil)
  (.cons (.asg (.nm 4) (.slTo (.var 5) (.cst (.int 2))))
  .nil)))))
  (.cons (.asg (.nm 7) (.call 131 (.cons (.var 0) (.cons (.var 1) .nil)) []))
  (.cons (.asg (.nm 11) (.call 133 (.cons (.lc [8, 9, 10] (.tp (.cons (.nm 8) (.cons (.nm 9) (.cons (.nm 10) .nil)))) (.seq (.var 7)) (.cons (.cmp .gt (.var 8) (.var 9)) .nil) (.tup (.cons (.var 8) (.cons (.bin .mul (.bin .sub (.var 8) (.var 9)) (.var 10)) .nil)))) .nil) []))
  (.cons (.asg (.nm 12) (.call 133 (.cons (.lc [8, 9, 10] (.tp (.cons (.nm 8) (.cons (.nm 9) (.cons (.nm 10) .nil)))) (.seq (.var 7)) (.cons (.cmp .gt (.var 9) (.var 8)) .nil) (.tup (.cons (.var 8) (.cons (.bin .mul (.bin .sub (.var 9) (.var 8)) (.var 10)) .nil)))) .nil) []))
  (.cons (.asg (.nm 13) (.lst (.cons (.call 133 (.cons (.lc [5] (.nm 5) (.seq (.var 3)) .nil (.tup (.cons (.idx (.var 5) (.cst (.int 0))) (.cons (.idx (.var 5) (.cst (.int 2))) .nil)))) .nil) []) (.cons (.call 133 (.cons (.lc [5] (.nm 5) (.seq (.var 3)) .nil (.tup (.cons (.idx (.var 5) (.cst (.int 1))) (.cons (.idx (.var 5) (.cst (.int 2))) .nil)))) .nil) []) .nil))))
  (.cons (.ret (.cmp .eq (.var 13) (.lst (.cons (.var 11) (.cons (.var 12) .nil)))))
  .nil))))))))
/-- _law_asked (kinds 0, mates 1, got 2, due 3) -/
def a_law_asked_135 : Ss := (.cons (.asg (.nm 3) (.call 132 (.cons (.var 0) (.cons (.var 1) .nil)) []))
  (.cons (.ite (.cmp .eq (.var 3) (.lst .nil)) (.cons (.ret (.cmp .is (.var 2) (.cst .non))) .nil) .nil)
  (.cons (.ite (.disj (.cons (.inv (.isi (.var 2) .tuple)) (.cons (.cmp .ne (.blt .len (.cons (.var 2) .nil)) (.cst (.int 2))) .nil))) (.cons (.ret (.cst (.bl false))) .nil) .nil)
  (.cons (.ite (.inv (.call 53 (.cons (.idx (.var 2) (.cst (.int 0))) (.cons (.tup (.cons (.cst (.str [103, 105, 102, 116, 115])) (.cons (.call 47 (.cons (.var 0) .nil) []) (.cons (.call 47 (.cons (.var 1) .nil) []) (.cons (.idx (.var 3) (.cst (.int 0))) .nil))))) .nil)) [])) (.cons (.ret (.cst (.bl false))) .nil) .nil)
  (.cons (.ret (.conj (.cons (.call 134 (.cons (.var 0) (.cons (.var 1) (.cons (.idx (.var 3) (.cst (.int 0))) (.cons (.idx (.var 2) (.cst (.int 1))) .nil)))) []) (.cons (.call 52 (.cons (.idx (.var 2) (.cst (.int 0))) (.cons (.idx (.var 2) (.cst (.int 1))) (.cons (.cst (.bl true)) .nil))) []) .nil))))
  .nil)))))
/-- _law_right (well 0, turn 1, kinds 2, mates 3, others 4, near 5, far 6) -/
def a_law_right_136 : Ss := (.cons (.for_ (.nm 1) (.rng (.cst (.int 5))) (.cons (.asg (.nm 2) (.call 46 (.cons (.var 0) (.cons (.cst (.int 6)) (.cons (.call 44 (.cons (.var 0) (.cons (.lst (.cons (.cst (.int 9)) (.cons (.cst (.int 60)) (.cons (.bin .pow (.cst (.int 10)) (.cst (.int 36))) .nil)))) .nil)) []) (.cons (.call 44 (.cons (.var 0) (.cons (.lst (.cons (.cst (.int 3)) (.cons (.cst (.int 9)) (.cons (.bin .pow (.cst (.int 10)) (.cst (.int 30))) .nil)))) .nil)) []) .nil)))) []))
  (.cons (.par [3, 4] (.cons (.call 109 (.cons (.var 0) (.cons (.var 2) .nil)) []) (.cons (.call 46 (.cons (.var 0) (.cons (.cst (.int 3)) (.cons (.cst (.int 9)) (.cons (.cst (.int 3)) .nil)))) []) .nil)))
  (.cons (.par [5, 6] (.cons (.mk 115 1 (.var 2)) (.cons (.mk 115 1 (.var 3)) .nil)))
  (.cons (.ite (.inv (.call 135 (.cons (.var 2) (.cons (.var 3) (.cons (.call 130 (.cons (.var 5) (.cons (.var 6) .nil)) []) .nil))) [])) (.cons (.ret (.cst (.bl false))) .nil) .nil)
  (.cons (.ite (.inv (.call 135 (.cons (.var 3) (.cons (.var 2) (.cons (.callK 130 [1, 0] (.cons (.var 5) (.cons (.var 6) .nil))) .nil))) [])) (.cons (.ret (.cst (.bl false))) .nil) .nil)
  (.cons (.ite (.inv (.call 135 (.cons (.var 2) (.cons (.var 2) (.cons (.call 130 (.cons (.var 5) (.cons (.var 5) .nil)) []) .nil))) [])) (.cons (.ret (.cst (.bl false))) .nil) .nil)
  (.cons (.ite (.inv (.call 135 (.cons (.var 2) (.cons (.var 4) (.cons (.call 130 (.cons (.var 5) (.cons (.mk 115 1 (.var 4)) .nil)) []) .nil))) [])) (.cons (.ret (.cst (.bl false))) .nil) .nil)
  .nil))))))))
  (.cons (.ret (.cst (.bl true))) .nil))
/-- law (script 0, at 1) -/
def a_law_137 : Ss := (.cons (.ret (.blt .all (.cons (.lc [1] (.nm 1) (.rng (.blt .max (.cons (.cst (.int 2)) (.cons (.blt .min (.cons (.slen (.var 0)) (.cons (.cst (.int 5)) .nil))) .nil)))) .nil (.call 136 (.cons (.call 42 (.cons (.var 0) (.cons (.var 1) .nil)) []) .nil) [])) .nil)))
  .nil)
/-- check_rule (value 0) -/
def a_check_rule_138 : Ss := (.cons (.ite (.inv (.isi (.var 0) (.cls 0))) (.cons .stuck .nil) .nil)
  .nil)
/-- plain () -/
def a_plain_139 : Ss := (.cons (.ret (.mk 64 0 (.tup (.cons (.tup (.cons (.cst (.int 0)) (.cons (.cst (.int 0)) (.cons (.cst (.int 100)) .nil)))) .nil))))
  .nil)
/-- contrary_of (one 0, other 1, income 2, here 3, there 4, low 5, high 6) -/
def a_contrary_of_140 : Ss := (.cons (.asg (.tp (.cons (.nm 3) (.cons (.nm 4) (.cons (.nm 5) (.cons (.nm 6) .nil))))) (.call 29 (.cons (.var 0) (.cons (.var 1) (.cons (.var 2) .nil))) []))
  (.cons (.ite (.disj (.cons (.cmp .le (.var 3) (.var 4)) (.cons (.cmp .eq (.var 5) (.var 6)) .nil))) (.cons (.ret (.mk 115 1 (.tup (.cons (.tup (.cons (.var 2) (.cons (.cst (.int 1)) .nil))) (.cons (.tup (.cons (.bin .add (.var 2) (.cst (.int 1))) (.cons (.cst (.int 1)) .nil))) .nil)))))
  .nil) .nil)
  (.cons (.ite (.cmp .eq (.var 5) (.cst (.int 0))) (.cons (.ret (.mk 115 1 (.tup (.cons (.tup (.cons (.var 2) (.cons (.cst (.int 1)) .nil))) (.cons (.tup (.cons (.bin .add (.var 2) (.cst (.int 1))) (.cons (.bin .add (.bin .fdiv (.var 3) (.bin .sub (.var 3) (.var 4))) (.cst (.int 1))) .nil))) .nil)))))
  .nil) .nil)
  (.cons (.ret (.mk 115 1 (.tup (.cons (.tup (.cons (.var 2) (.cons (.bin .add (.bin .fdiv (.bin .mul (.var 4) (.bin .sub (.var 6) (.var 5))) (.bin .mul (.var 5) (.bin .sub (.var 3) (.var 4)))) (.cst (.int 1))) .nil))) (.cons (.tup (.cons (.bin .add (.var 2) (.cst (.int 1))) (.cons (.cst (.int 1)) .nil))) .nil)))))
  .nil))))
/-- chosen (other 0) -/
def a_chosen_141 : Ss := (.cons (.ret (.ite (.cmp .is (.var 0) (.cst .non)) (.call 139 .nil []) (.var 0)))
  .nil)
/-- check_rules (one 0, other 1, fall 2) -/
def a_check_rules_142 : Ss := (.cons (.expr (.call 138 (.cons (.var 0) .nil) []))
  (.cons (.ite (.cmp .isnot (.var 1) (.cst .non)) (.cons (.expr (.call 138 (.cons (.var 1) .nil) []))
  (.cons (.asg (.nm 2) (.call 12 (.cons (.var 1) .nil) []))
  (.cons (.ite (.cmp .isnot (.var 2) (.cst .non)) (.cons .stuck .nil) .nil)
  .nil))) .nil)
  .nil))
/-- certify_evening (one 0, other 1, rule 2, income 3) -/
def a_certify_evening_143 : Ss := (.cons (.expr (.call 142 (.cons (.var 0) (.cons (.var 1) .nil)) []))
  (.cons (.asg (.nm 2) (.call 141 (.cons (.var 1) .nil) []))
  (.cons (.asg (.nm 3) (.call 33 (.cons (.var 0) (.cons (.var 2) .nil)) []))
  (.cons (.ite (.cmp .is (.var 3) (.cst .non)) (.cons (.ret (.tup (.cons (.tup (.cons (.cst (.str [109, 111, 114, 101])) (.cons (.strO 71 0 (.var 0)) (.cons (.strO 71 0 (.var 2)) .nil)))) (.cons (.tup .nil) .nil))))
  .nil) .nil)
  (.cons (.ret (.tup (.cons (.tup (.cons (.cst (.str [110, 111, 116, 32, 109, 111, 114, 101])) (.cons (.strO 71 0 (.var 0)) (.cons (.strO 71 0 (.var 2)) .nil)))) (.cons (.strO 122 1 (.call 140 (.cons (.var 0) (.cons (.var 2) (.cons (.var 3) .nil))) [])) .nil))))
  .nil)))))
/-- _law_shows_it (bands 0, mates 1, paper 2, kinds 3) -/
def a_law_shows_it_144 : Ss := (.cons (.asg (.nm 3) (.ite (.isi (.var 2) .str) (.call 98 (.cons (.var 2) .nil) []) (.tup .nil)))
  (.cons (.ite (.disj (.cons (.cmp .eq (.var 3) (.tup .nil)) (.cons (.cmp .gt (.idx (.idx (.var 3) (.neg (.cst (.int 1)))) (.cst (.int 0))) (.bin .pow (.cst (.int 10)) (.cst (.int 30)))) .nil))) (.cons (.ret (.cst (.bl false))) .nil) .nil)
  (.cons (.ret (.inv (.call 57 (.cons (.call 85 (.cons (.var 0) (.cons (.var 3) .nil)) []) (.cons (.call 85 (.cons (.var 1) (.cons (.var 3) .nil)) []) .nil)) [])))
  .nil)))
/-- _law_asked (bands 0, mates 1, got 2, is_more 3, word 4) -/
def a_law_asked_145 : Ss := (.cons (.ite (.disj (.cons (.inv (.isi (.var 2) .tuple)) (.cons (.cmp .ne (.blt .len (.cons (.var 2) .nil)) (.cst (.int 2))) .nil))) (.cons (.ret (.cst (.bl false))) .nil) .nil)
  (.cons (.asg (.nm 3) (.cmp .eq (.call 79 (.cons (.var 0) (.cons (.var 1) .nil)) []) (.lst .nil)))
  (.cons (.asg (.nm 4) (.ite (.var 3) (.cst (.str [109, 111, 114, 101])) (.cst (.str [110, 111, 116, 32, 109, 111, 114, 101]))))
  (.cons (.ite (.disj (.cons (.inv (.call 53 (.cons (.idx (.var 2) (.cst (.int 0))) (.cons (.tup (.cons (.var 4) (.cons (.call 81 (.cons (.var 0) .nil) []) (.cons (.call 81 (.cons (.var 1) .nil) []) .nil)))) .nil)) [])) (.cons (.inv (.call 52 (.cons (.idx (.var 2) (.cst (.int 0))) (.cons (.idx (.var 2) (.cst (.int 1))) (.cons (.cst (.bl true)) .nil))) [])) .nil))) (.cons (.ret (.cst (.bl false))) .nil) .nil)
  (.cons (.ret (.ite (.var 3) (.cmp .eq (.idx (.var 2) (.cst (.int 1))) (.tup .nil)) (.call 144 (.cons (.var 0) (.cons (.var 1) (.cons (.idx (.var 2) (.cst (.int 1))) .nil))) [])))
  .nil)))))
/-- _law_right (well 0, turn 1, sizes 2, bands 3, mates 4, share 5, band 6, less 7, near 8, far 9) -/
def a_law_right_146 : Ss := (.cons (.for_ (.nm 1) (.rng (.cst (.int 4))) (.cons (.asg (.nm 2) (.call 77 (.cons (.var 0) .nil) []))
  (.cons (.par [3, 4] (.cons (.call 76 (.cons (.var 0) (.cons (.cst (.int 5)) (.cons (.var 2) .nil))) []) (.cons (.call 75 (.cons (.var 0) (.cons (.cst (.int 4)) (.cons (.var 2) .nil))) []) .nil)))
  (.cons (.asg (.nm 5) (.call 44 (.cons (.var 0) (.cons (.lst (.cons (.cst (.int 100)) (.cons (.cst (.int 50)) (.cons (.cst (.int 25)) .nil)))) .nil)) []))
  (.cons (.asg (.nm 7) (.blt .tuple (.cons (.lc [6] (.nm 6) (.seq (.var 4)) .nil (.tup (.cons (.idx (.var 6) (.cst (.int 0))) (.cons (.bin .fdiv (.bin .mul (.idx (.var 6) (.cst (.int 1))) (.var 5)) (.cst (.int 100))) (.cons (.bin .fdiv (.bin .mul (.idx (.var 6) (.cst (.int 2))) (.var 5)) (.cst (.int 100))) .nil))))) .nil)))
  (.cons (.asg (.nm 3) (.call 44 (.cons (.var 0) (.cons (.lst (.cons (.var 3) (.cons (.var 3) (.cons (.var 7) .nil)))) .nil)) []))
  (.cons (.par [8, 9] (.cons (.mk 64 0 (.var 3)) (.cons (.mk 64 0 (.var 4)) .nil)))
  (.cons (.ite (.inv (.call 145 (.cons (.var 3) (.cons (.var 4) (.cons (.call 143 (.cons (.var 8) (.cons (.var 9) .nil)) []) .nil))) [])) (.cons (.ret (.cst (.bl false))) .nil) .nil)
  (.cons (.ite (.inv (.call 145 (.cons (.var 3) (.cons (.tup (.cons (.tup (.cons (.cst (.int 0)) (.cons (.cst (.int 0)) (.cons (.cst (.int 100)) .nil)))) .nil)) (.cons (.call 143 (.cons (.var 8) .nil) [.non]) .nil))) [])) (.cons (.ret (.cst (.bl false))) .nil) .nil)
  (.cons (.ite (.inv (.call 145 (.cons (.var 3) (.cons (.tup (.cons (.tup (.cons (.cst (.int 0)) (.cons (.cst (.int 0)) (.cons (.cst (.int 100)) .nil)))) .nil)) (.cons (.callK 143 [1, 0] (.cons (.mk 64 0 (.tup (.cons (.tup (.cons (.cst (.int 0)) (.cons (.cst (.int 0)) (.cons (.cst (.int 100)) .nil)))) .nil))) (.cons (.var 8) .nil))) .nil))) [])) (.cons (.ret (.cst (.bl false))) .nil) .nil)
  (.cons (.ite (.inv (.call 145 (.cons (.var 4) (.cons (.var 4) (.cons (.callK 143 [0, 1] (.cons (.var 9) (.cons (.var 9) .nil))) .nil))) [])) (.cons (.ret (.cst (.bl false))) .nil) .nil)
  .nil)))))))))))
  (.cons (.ret (.cst (.bl true))) .nil))
/-- law (script 0, far 1, bands 2, mates 3, at 4) -/
def a_law_147 : Ss := (.cons (.asg (.nm 1) (.bin .pow (.cst (.int 10)) (.cst (.int 32))))
  (.cons (.par [2, 3] (.cons (.tup (.cons (.tup (.cons (.cst (.int 0)) (.cons (.var 1) (.cons (.cst (.int 0)) .nil)))) (.cons (.tup (.cons (.cst (.int 5)) (.cons (.bin .sub (.var 1) (.cst (.int 1))) (.cons (.cst (.int 0)) .nil)))) .nil))) (.cons (.tup (.cons (.tup (.cons (.cst (.int 0)) (.cons (.cst (.int 1)) (.cons (.cst (.int 0)) .nil)))) (.cons (.tup (.cons (.cst (.int 5)) (.cons (.var 1) (.cons (.cst (.int 0)) .nil)))) .nil))) .nil)))
  (.cons (.ite (.inv (.call 145 (.cons (.var 2) (.cons (.var 3) (.cons (.call 143 (.cons (.mk 64 0 (.var 2)) (.cons (.mk 64 0 (.var 3)) .nil)) []) .nil))) [])) (.cons (.ret (.cst (.bl false))) .nil) .nil)
  (.cons (.ret (.blt .all (.cons (.lc [4] (.nm 4) (.rng (.blt .max (.cons (.cst (.int 2)) (.cons (.blt .min (.cons (.slen (.var 0)) (.cons (.cst (.int 5)) .nil))) .nil)))) .nil (.call 146 (.cons (.call 42 (.cons (.var 0) (.cons (.var 4) .nil)) []) .nil) [])) .nil)))
  .nil))))
/-- _law_rules_right (well 0, edge 1, pace 2, more 3, taxed 4, summed 5, greater 6, falling 7, cliff 8, mine 9, rows 10, bands 11, mates 12, word 13, told 14, paper 15) -/
def a_law_rules_right_148 : Ss := (.cons (.par [1, 2] (.cons (.bin .add (.cst (.int 1)) (.call 45 (.cons (.var 0) (.cons (.bin .pow (.cst (.int 10)) (.cst (.int 28))) .nil)) [])) (.cons (.call 43 (.cons (.var 0) (.cons (.cst (.int 100)) .nil)) []) .nil)))
  (.cons (.asg (.nm 3) (.bin .add (.cst (.int 1)) (.call 45 (.cons (.var 0) (.cons (.bin .pow (.cst (.int 10)) (.cst (.int 28))) .nil)) [])))
  (.cons (.asg (.nm 4) (.tup (.cons (.tup (.cons (.cst (.int 0)) (.cons (.cst (.int 0)) (.cons (.cst (.int 100)) .nil)))) (.cons (.tup (.cons (.var 1) (.cons (.bin .mul (.cst (.int 100)) (.var 1)) (.cons (.var 2) .nil)))) .nil))))
  (.cons (.par [5, 6] (.cons (.tup (.cons (.tup (.cons (.cst (.int 0)) (.cons (.var 3) (.cons (.cst (.int 100)) .nil)))) .nil)) (.cons (.tup (.cons (.tup (.cons (.cst (.int 0)) (.cons (.bin .mul (.cst (.int 2)) (.var 3)) (.cons (.cst (.int 100)) .nil)))) .nil)) .nil)))
  (.cons (.asg (.nm 7) (.tup (.cons (.tup (.cons (.cst (.int 0)) (.cons (.cst (.int 0)) (.cons (.var 2) .nil)))) (.cons (.tup (.cons (.var 1) (.cons (.bin .mul (.var 2) (.var 1)) (.cons (.bin .add (.bin .add (.var 2) (.cst (.int 1))) (.call 43 (.cons (.var 0) (.cons (.cst (.int 99)) .nil)) [])) .nil)))) .nil))))
  (.cons (.asg (.nm 8) (.ite (.cmp .gt (.var 1) (.cst (.int 1))) (.tup (.cons (.tup (.cons (.cst (.int 0)) (.cons (.cst (.int 0)) (.cons (.cst (.int 100)) .nil)))) (.cons (.tup (.cons (.var 1) (.cons (.bin .sub (.bin .mul (.cst (.int 100)) (.bin .sub (.var 1) (.cst (.int 1)))) (.cst (.int 1))) (.cons (.cst (.int 100)) .nil)))) .nil))) (.tup (.cons (.tup (.cons (.cst (.int 0)) (.cons (.cst (.int 1)) (.cons (.cst (.int 0)) .nil)))) (.cons (.tup (.cons (.var 1) (.cons (.cst (.int 0)) (.cons (.cst (.int 0)) .nil)))) .nil)))))
  (.cons (.asg (.nm 9) (.tup (.cons (.tup (.cons (.cst (.int 0)) (.cons (.cst (.int 0)) (.cons (.cst (.int 100)) .nil)))) .nil)))
  (.cons (.asg (.nm 10) (.lst (.cons (.tup (.cons (.var 4) (.cons (.var 9) (.cons (.cst (.str [109, 111, 114, 101])) .nil)))) (.cons (.tup (.cons (.var 5) (.cons (.var 9) (.cons (.cst (.str [109, 111, 114, 101])) .nil)))) (.cons (.tup (.cons (.var 6) (.cons (.var 5) (.cons (.cst (.str [109, 111, 114, 101])) .nil)))) (.cons (.tup (.cons (.var 5) (.cons (.var 6) (.cons (.cst (.str [110, 111, 116, 32, 109, 111, 114, 101])) .nil)))) .nil))))))
  (.cons (.asg (.nm 10) (.bin .add (.var 10) (.lst (.cons (.tup (.cons (.var 7) (.cons (.var 9) (.cons (.cst (.str [110, 111, 116, 32, 109, 111, 114, 101])) .nil)))) (.cons (.tup (.cons (.var 8) (.cons (.var 9) (.cons (.cst (.str [110, 111, 116, 32, 109, 111, 114, 101])) .nil)))) (.cons (.tup (.cons (.tup (.cons (.tup (.cons (.cst (.int 0)) (.cons (.cst (.int 0)) (.cons (.cst (.int 0)) .nil)))) .nil)) (.cons (.var 4) (.cons (.cst (.str [109, 111, 114, 101])) .nil)))) .nil))))))
  (.cons (.for_ (.tp (.cons (.nm 11) (.cons (.nm 12) (.cons (.nm 13) .nil)))) (.seq (.bin .add (.var 10) (.lst (.cons (.tup (.cons (.tup (.cons (.tup (.cons (.cst (.int 0)) (.cons (.cst (.int 0)) (.cons (.cst (.int 50)) .nil)))) .nil)) (.cons (.var 9) (.cons (.cst (.str [109, 111, 114, 101])) .nil)))) (.cons (.tup (.cons (.var 9) (.cons (.tup (.cons (.tup (.cons (.cst (.int 0)) (.cons (.cst (.int 0)) (.cons (.cst (.int 50)) .nil)))) .nil)) (.cons (.cst (.str [109, 111, 114, 101])) .nil)))) .nil))))) (.cons (.asg (.tp (.cons (.nm 14) (.cons (.nm 15) .nil))) (.call 143 (.cons (.mk 64 0 (.var 11)) (.cons (.mk 64 0 (.var 12)) .nil)) []))
  (.cons (.ite (.disj (.cons (.inv (.call 53 (.cons (.var 14) (.cons (.tup (.cons (.var 13) (.cons (.call 81 (.cons (.var 11) .nil) []) (.cons (.call 81 (.cons (.var 12) .nil) []) .nil)))) .nil)) [])) (.cons (.inv (.call 52 (.cons (.var 14) (.cons (.var 15) (.cons (.cst (.bl true)) .nil))) [])) .nil))) (.cons (.ret (.cst (.bl false))) .nil) .nil)
  (.cons (.ite (.disj (.cons (.conj (.cons (.cmp .eq (.var 13) (.cst (.str [109, 111, 114, 101]))) (.cons (.cmp .ne (.var 15) (.tup .nil)) .nil))) (.cons (.conj (.cons (.cmp .eq (.var 13) (.cst (.str [110, 111, 116, 32, 109, 111, 114, 101]))) (.cons (.inv (.isi (.var 15) .str)) .nil))) .nil))) (.cons (.ret (.cst (.bl false))) .nil) .nil)
  .nil))))
  (.cons (.ret (.cst (.bl true))) .nil)))))))))))
/-- _law_purses_right (well 0, part 1, many 2, times 3, parted 4, whole 5, told 6, paper 7, often 8, richer 9, rows 10, near 11, far 12, word 13) -/
def a_law_purses_right_149 : Ss := (.cons (.par [1, 2] (.cons (.bin .add (.cst (.int 1)) (.call 45 (.cons (.var 0) (.cons (.bin .pow (.cst (.int 10)) (.cst (.int 28))) .nil)) [])) (.cons (.bin .add (.cst (.int 1)) (.call 45 (.cons (.var 0) (.cons (.bin .pow (.cst (.int 10)) (.cst (.int 28))) .nil)) [])) .nil)))
  (.cons (.asg (.nm 3) (.bin .add (.cst (.int 2)) (.call 43 (.cons (.var 0) (.cons (.cst (.int 9)) .nil)) [])))
  (.cons (.par [4, 5] (.cons (.tup (.cons (.tup (.cons (.cst (.int 0)) (.cons (.var 2) .nil))) (.cons (.tup (.cons (.bin .mul (.cst (.int 2)) (.var 1)) (.cons (.var 2) .nil))) .nil))) (.cons (.tup (.cons (.tup (.cons (.var 1) (.cons (.bin .mul (.cst (.int 2)) (.var 2)) .nil))) .nil)) .nil)))
  (.cons (.asg (.tp (.cons (.nm 6) (.cons (.nm 7) .nil))) (.call 130 (.cons (.mk 115 1 (.var 4)) (.cons (.mk 115 1 (.var 5)) .nil)) []))
  (.cons (.ite (.inv (.call 53 (.cons (.var 6) (.cons (.tup (.cons (.cst (.str [103, 105, 102, 116, 115])) (.cons (.call 47 (.cons (.var 4) .nil) []) (.cons (.call 47 (.cons (.var 5) .nil) []) (.cons (.bin .mul (.var 1) (.var 2)) .nil))))) .nil)) [])) (.cons (.ret (.cst (.bl false))) .nil) .nil)
  (.cons (.ite (.disj (.cons (.cmp .ne (.var 7) (.tup (.cons (.tup (.cons (.bin .mul (.cst (.int 2)) (.var 1)) (.cons (.cst (.int 0)) (.cons (.bin .mul (.var 1) (.var 2)) .nil)))) .nil))) (.cons (.inv (.call 52 (.cons (.var 6) (.cons (.var 7) (.cons (.cst (.bl true)) .nil))) [])) .nil))) (.cons (.ret (.cst (.bl false))) .nil) .nil)
  (.cons (.ite (.disj (.cons (.cmp .isnot (.call 130 (.cons (.mk 115 1 (.var 5)) (.cons (.mk 115 1 (.var 4)) .nil)) []) (.cst .non)) (.cons (.cmp .ne (.idx (.call 130 (.cons (.mk 115 1 (.var 5)) (.cons (.mk 115 1 (.var 5)) .nil)) []) (.cst (.int 1))) (.tup .nil)) .nil))) (.cons (.ret (.cst (.bl false))) .nil) .nil)
  (.cons (.par [8, 9] (.cons (.tup (.cons (.tup (.cons (.cst (.int 0)) (.cons (.bin .mul (.var 3) (.var 2)) .nil))) (.cons (.tup (.cons (.bin .mul (.cst (.int 2)) (.var 1)) (.cons (.bin .mul (.var 3) (.var 2)) .nil))) .nil))) (.cons (.tup (.cons (.tup (.cons (.cst (.int 0)) (.cons (.var 2) .nil))) (.cons (.tup (.cons (.bin .mul (.bin .mul (.cst (.int 2)) (.var 1)) (.var 3)) (.cons (.var 2) .nil))) .nil))) .nil)))
  (.cons (.asg (.nm 10) (.lst (.cons (.tup (.cons (.var 5) (.cons (.var 4) (.cons (.cst (.str [101, 118, 101, 110])) .nil)))) (.cons (.tup (.cons (.var 4) (.cons (.var 5) (.cons (.cst (.str [117, 110, 101, 118, 101, 110])) .nil)))) (.cons (.tup (.cons (.var 8) (.cons (.var 4) (.cons (.cst (.str [101, 118, 101, 110])) .nil)))) (.cons (.tup (.cons (.var 4) (.cons (.var 8) (.cons (.cst (.str [101, 118, 101, 110])) .nil)))) .nil))))))
  (.cons (.asg (.nm 10) (.bin .add (.var 10) (.lst (.cons (.tup (.cons (.var 4) (.cons (.var 9) (.cons (.cst (.str [101, 118, 101, 110])) .nil)))) (.cons (.tup (.cons (.var 9) (.cons (.var 4) (.cons (.cst (.str [101, 118, 101, 110])) .nil)))) (.cons (.tup (.cons (.tup (.cons (.tup (.cons (.cst (.int 0)) (.cons (.var 2) .nil))) .nil)) (.cons (.var 5) (.cons (.cst (.str [101, 118, 101, 110])) .nil)))) .nil))))))
  (.cons (.for_ (.tp (.cons (.nm 11) (.cons (.nm 12) (.cons (.nm 13) .nil)))) (.seq (.var 10)) (.cons (.asg (.tp (.cons (.nm 6) (.cons (.nm 7) .nil))) (.call 125 (.cons (.mk 115 1 (.var 11)) (.cons (.mk 115 1 (.var 12)) .nil)) []))
  (.cons (.ite (.disj (.cons (.inv (.call 53 (.cons (.var 6) (.cons (.tup (.cons (.var 13) (.cons (.call 47 (.cons (.var 11) .nil) []) (.cons (.call 47 (.cons (.var 12) .nil) []) .nil)))) .nil)) [])) (.cons (.inv (.call 52 (.cons (.var 6) (.cons (.var 7) (.cons (.cst (.bl true)) .nil))) [])) .nil))) (.cons (.ret (.cst (.bl false))) .nil) .nil)
  .nil)))
  (.cons (.ret (.cst (.bl true))) .nil))))))))))))
/-- law (script 0, at 1, well 2) -/
def a_law_150 : Ss := (.cons (.for_ (.nm 1) (.rng (.blt .max (.cons (.cst (.int 2)) (.cons (.blt .min (.cons (.slen (.var 0)) (.cons (.cst (.int 6)) .nil))) .nil)))) (.cons (.asg (.nm 2) (.call 42 (.cons (.var 0) (.cons (.var 1) .nil)) []))
  (.cons (.ite (.disj (.cons (.inv (.call 148 (.cons (.var 2) .nil) [])) (.cons (.inv (.call 149 (.cons (.var 2) .nil) [])) .nil))) (.cons (.ret (.cst (.bl false))) .nil) .nil)
  .nil)))
  (.cons (.ret (.cst (.bl true))) .nil))
/-- _law_rules_right (well 0, sizes 1, bands 2, mates 3, told 4, paper 5, kinds 6, times 7, amount 8, many 9, often 10, more 11, band 12, raised 13, is_let 14) -/
def a_law_rules_right_151 : Ss := (.cons (.asg (.nm 1) (.call 77 (.cons (.var 0) .nil) []))
  (.cons (.par [2, 3] (.cons (.call 76 (.cons (.var 0) (.cons (.cst (.int 4)) (.cons (.var 1) .nil))) []) (.cons (.call 75 (.cons (.var 0) (.cons (.cst (.int 3)) (.cons (.var 1) .nil))) []) .nil)))
  (.cons (.asg (.tp (.cons (.nm 4) (.cons (.nm 5) .nil))) (.call 143 (.cons (.mk 64 0 (.var 2)) (.cons (.mk 64 0 (.var 3)) .nil)) []))
  (.cons (.ite (.cmp .eq (.idx (.var 4) (.cst (.int 0))) (.cst (.str [109, 111, 114, 101]))) (.cons (.ret (.cmp .eq (.var 5) (.tup .nil))) .nil) .nil)
  (.cons (.asg (.tp (.cons (.nm 6) (.cons (.nm 7) .nil))) (.tup (.cons (.call 98 (.cons (.var 5) .nil) []) (.cons (.bin .add (.cst (.int 2)) (.call 43 (.cons (.var 0) (.cons (.cst (.int 9)) .nil)) [])) .nil))))
  (.cons (.asg (.nm 10) (.blt .tuple (.cons (.lc [8, 9] (.tp (.cons (.nm 8) (.cons (.nm 9) .nil))) (.seq (.var 6)) .nil (.tup (.cons (.var 8) (.cons (.bin .mul (.var 7) (.var 9)) .nil)))) .nil)))
  (.cons (.asg (.nm 11) (.call 44 (.cons (.var 0) (.cons (.lst (.cons (.cst (.int 1)) (.cons (.cst (.int 100)) (.cons (.bin .pow (.cst (.int 10)) (.cst (.int 9))) .nil)))) .nil)) []))
  (.cons (.asg (.nm 13) (.blt .tuple (.cons (.lc [12] (.nm 12) (.seq (.var 3)) .nil (.tup (.cons (.idx (.var 12) (.cst (.int 0))) (.cons (.blt .min (.cons (.bin .pow (.cst (.int 10)) (.cst (.int 32))) (.cons (.bin .add (.idx (.var 12) (.cst (.int 1))) (.var 11)) .nil))) (.cons (.idx (.var 12) (.cst (.int 2))) .nil))))) .nil)))
  (.cons (.ite (.cmp .ne (.lc [12] (.nm 12) (.seq (.var 3)) (.cons (.cmp .gt (.bin .add (.idx (.var 12) (.cst (.int 1))) (.var 11)) (.bin .pow (.cst (.int 10)) (.cst (.int 32)))) .nil) (.var 12)) (.lst .nil)) (.cons (.asg (.nm 13) (.var 3)) .nil) .nil)
  (.cons (.asg (.nm 14) (.cmp .le (.blt .max (.cons (.lc [8, 9] (.tp (.cons (.nm 8) (.cons (.nm 9) .nil))) (.seq (.var 10)) .nil (.var 9)) .nil)) (.bin .mul (.bin .pow (.cst (.int 10)) (.cst (.int 36))) (.bin .pow (.cst (.int 10)) (.cst (.int 36))))))
  (.cons (.ite (.conj (.cons (.var 14) (.cons (.inv (.call 52 (.cons (.var 4) (.cons (.call 47 (.cons (.var 10) .nil) []) (.cons (.cst (.bl true)) .nil))) [])) .nil))) (.cons (.ret (.cst (.bl false))) .nil) .nil)
  (.cons (.ret (.call 52 (.cons (.tup (.cons (.cst (.str [110, 111, 116, 32, 109, 111, 114, 101])) (.cons (.call 81 (.cons (.var 2) .nil) []) (.cons (.call 81 (.cons (.var 13) .nil) []) .nil)))) (.cons (.var 5) (.cons (.cst (.bl true)) .nil))) []))
  .nil))))))))))))
/-- _law_times (kinds 0, amounts 1, counts 2, amount 3, many 4) -/
def a_law_times_152 : Ss := (.cons (.ret (.blt .tuple (.cons (.lc [3, 4] (.tp (.cons (.nm 3) (.cons (.nm 4) .nil))) (.seq (.var 0)) .nil (.tup (.cons (.bin .mul (.var 3) (.var 1)) (.cons (.bin .mul (.var 4) (.var 2)) .nil)))) .nil)))
  .nil)
/-- _law_purses_right (well 0, top 1, many 2, kinds 3, mates 4, more_even 5, times 6, told 7, paper 8, rows 9, near 10, far 11, evened 12) -/
def a_law_purses_right_153 : Ss := (.cons (.par [1, 2] (.cons (.call 44 (.cons (.var 0) (.cons (.lst (.cons (.cst (.int 9)) (.cons (.cst (.int 60)) (.cons (.bin .pow (.cst (.int 10)) (.cst (.int 30))) .nil)))) .nil)) []) (.cons (.call 44 (.cons (.var 0) (.cons (.lst (.cons (.cst (.int 3)) (.cons (.cst (.int 9)) (.cons (.bin .pow (.cst (.int 10)) (.cst (.int 30))) .nil)))) .nil)) []) .nil)))
  (.cons (.par [3, 4] (.cons (.call 46 (.cons (.var 0) (.cons (.cst (.int 4)) (.cons (.var 1) (.cons (.var 2) .nil)))) []) (.cons (.call 46 (.cons (.var 0) (.cons (.cst (.int 4)) (.cons (.var 1) (.cons (.var 2) .nil)))) []) .nil)))
  (.cons (.par [5, 6] (.cons (.call 109 (.cons (.var 0) (.cons (.var 4) .nil)) []) (.cons (.bin .add (.cst (.int 2)) (.call 43 (.cons (.var 0) (.cons (.cst (.int 9)) .nil)) [])) .nil)))
  (.cons (.asg (.tp (.cons (.nm 7) (.cons (.nm 8) .nil))) (.call 125 (.cons (.mk 115 1 (.var 3)) (.cons (.mk 115 1 (.var 4)) .nil)) []))
  (.cons (.ite (.cmp .eq (.idx (.var 7) (.cst (.int 0))) (.cst (.str [117, 110, 101, 118, 101, 110]))) (.cons (.asg (.nm 9) (.lst (.cons (.tup (.cons (.call 152 (.cons (.var 3) (.cons (.var 6) (.cons (.cst (.int 1)) .nil))) []) (.cons (.var 4) .nil))) (.cons (.tup (.cons (.var 3) (.cons (.call 152 (.cons (.var 4) (.cons (.cst (.int 1)) (.cons (.var 6) .nil))) []) .nil))) (.cons (.tup (.cons (.var 3) (.cons (.var 5) .nil))) .nil)))))
  (.cons (.for_ (.tp (.cons (.nm 10) (.cons (.nm 11) .nil))) (.seq (.var 9)) (.cons (.ite (.inv (.call 52 (.cons (.tup (.cons (.cst (.str [117, 110, 101, 118, 101, 110])) (.cons (.call 47 (.cons (.var 10) .nil) []) (.cons (.call 47 (.cons (.var 11) .nil) []) .nil)))) (.cons (.var 8) (.cons (.cst (.bl true)) .nil))) [])) (.cons (.ret (.cst (.bl false))) .nil) .nil)
  .nil))
  (.cons (.ret (.call 52 (.cons (.var 7) (.cons (.tup (.cons (.bin .mul (.var 6) (.idx (.var 8) (.cst (.int 0)))) (.cons (.bin .mul (.var 6) (.idx (.var 8) (.cst (.int 1)))) .nil))) (.cons (.cst (.bl true)) .nil))) []))
  .nil))) .nil)
  (.cons (.asg (.nm 12) (.call 109 (.cons (.var 0) (.cons (.var 3) .nil)) []))
  (.cons (.ite (.inv (.call 52 (.cons (.tup (.cons (.cst (.str [101, 118, 101, 110])) (.cons (.call 47 (.cons (.call 152 (.cons (.var 12) (.cons (.var 6) (.cons (.cst (.int 1)) .nil))) []) .nil) []) (.cons (.call 47 (.cons (.var 4) .nil) []) .nil)))) (.cons (.tup .nil) (.cons (.cst (.bl true)) .nil))) [])) (.cons (.ret (.cst (.bl false))) .nil) .nil)
  (.cons (.ret (.call 52 (.cons (.tup (.cons (.cst (.str [101, 118, 101, 110])) (.cons (.call 47 (.cons (.var 12) .nil) []) (.cons (.call 47 (.cons (.call 152 (.cons (.var 4) (.cons (.cst (.int 1)) (.cons (.var 6) .nil))) []) .nil) []) .nil)))) (.cons (.tup .nil) (.cons (.cst (.bl true)) .nil))) []))
  .nil))))))))
/-- _law_right (well 0, turn 1) -/
def a_law_right_154 : Ss := (.cons (.ret (.blt .all (.cons (.lc [1] (.nm 1) (.rng (.cst (.int 5))) .nil (.conj (.cons (.call 151 (.cons (.var 0) .nil) []) (.cons (.call 153 (.cons (.var 0) .nil) []) .nil)))) .nil)))
  .nil)
/-- law (script 0, at 1) -/
def a_law_155 : Ss := (.cons (.ret (.blt .all (.cons (.lc [1] (.nm 1) (.rng (.blt .max (.cons (.cst (.int 2)) (.cons (.blt .min (.cons (.slen (.var 0)) (.cons (.cst (.int 5)) .nil))) .nil)))) .nil (.call 154 (.cons (.call 42 (.cons (.var 0) (.cons (.var 1) .nil)) []) .nil) [])) .nil)))
  .nil)
/-- _law_purses_right (well 0, kinds 1, mates 2, amounts 3, counts 4, near 5, far 6, old 7, new 8, giver 9, taker 10, many 11, rows 12, other_here 13, told 14, due 15) -/
def a_law_purses_right_156 : Ss := (.cons (.asg (.nm 1) (.call 46 (.cons (.var 0) (.cons (.cst (.int 5)) (.cons (.call 44 (.cons (.var 0) (.cons (.lst (.cons (.cst (.int 9)) (.cons (.cst (.int 60)) (.cons (.bin .pow (.cst (.int 10)) (.cst (.int 28))) .nil)))) .nil)) []) (.cons (.call 44 (.cons (.var 0) (.cons (.lst (.cons (.cst (.int 3)) (.cons (.cst (.int 9)) (.cons (.bin .pow (.cst (.int 10)) (.cst (.int 28))) .nil)))) .nil)) []) .nil)))) []))
  (.cons (.asg (.tp (.cons (.nm 2) (.cons (.nm 3) (.cons (.nm 4) .nil)))) (.tup (.cons (.call 109 (.cons (.var 0) (.cons (.var 1) .nil)) []) (.cons (.bin .add (.cst (.int 1)) (.call 45 (.cons (.var 0) (.cons (.cst (.int 999)) .nil)) [])) (.cons (.bin .add (.cst (.int 1)) (.call 45 (.cons (.var 0) (.cons (.cst (.int 999)) .nil)) [])) .nil)))))
  (.cons (.par [5, 6] (.cons (.call 152 (.cons (.var 1) (.cons (.var 3) (.cons (.var 4) .nil))) []) (.cons (.call 152 (.cons (.var 2) (.cons (.var 3) (.cons (.var 4) .nil))) []) .nil)))
  (.cons (.par [7, 8] (.cons (.call 130 (.cons (.mk 115 1 (.var 1)) (.cons (.mk 115 1 (.var 2)) .nil)) []) (.cons (.call 130 (.cons (.mk 115 1 (.var 5)) (.cons (.mk 115 1 (.var 6)) .nil)) []) .nil)))
  (.cons (.ite (.disj (.cons (.cmp .ne (.idx (.idx (.var 8) (.cst (.int 0))) (.cst (.int 3))) (.bin .mul (.bin .mul (.idx (.idx (.var 7) (.cst (.int 0))) (.cst (.int 3))) (.var 3)) (.var 4))) (.cons (.inv (.call 52 (.cons (.idx (.var 8) (.cst (.int 0))) (.cons (.idx (.var 8) (.cst (.int 1))) (.cons (.cst (.bl true)) .nil))) [])) .nil))) (.cons (.ret (.cst (.bl false))) .nil) .nil)
  (.cons (.asg (.nm 12) (.blt .tuple (.cons (.lc [9, 10, 11] (.tp (.cons (.nm 9) (.cons (.nm 10) (.cons (.nm 11) .nil)))) (.seq (.idx (.var 7) (.cst (.int 1)))) .nil (.tup (.cons (.bin .mul (.var 9) (.var 3)) (.cons (.bin .mul (.var 10) (.var 3)) (.cons (.bin .mul (.bin .mul (.var 11) (.var 3)) (.var 4)) .nil))))) .nil)))
  (.cons (.ite (.inv (.call 52 (.cons (.idx (.var 8) (.cst (.int 0))) (.cons (.var 12) (.cons (.cst (.bl true)) .nil))) [])) (.cons (.ret (.cst (.bl false))) .nil) .nil)
  (.cons (.asg (.nm 13) (.call 46 (.cons (.var 0) (.cons (.cst (.int 4)) (.cons (.cst (.int 60)) (.cons (.cst (.int 9)) .nil)))) []))
  (.cons (.asg (.nm 14) (.lst (.cons (.idx (.idx (.call 125 (.cons (.mk 115 1 (.var 5)) (.cons (.mk 115 1 (.var 13)) .nil)) []) (.cst (.int 0))) (.cst (.int 0))) (.cons (.idx (.idx (.call 125 (.cons (.mk 115 1 (.var 13)) (.cons (.mk 115 1 (.var 5)) .nil)) []) (.cst (.int 0))) (.cst (.int 0))) .nil))))
  (.cons (.asg (.nm 15) (.lst (.cons (.idx (.idx (.call 125 (.cons (.mk 115 1 (.var 1)) (.cons (.mk 115 1 (.var 13)) .nil)) []) (.cst (.int 0))) (.cst (.int 0))) (.cons (.idx (.idx (.call 125 (.cons (.mk 115 1 (.var 13)) (.cons (.mk 115 1 (.var 1)) .nil)) []) (.cst (.int 0))) (.cst (.int 0))) .nil))))
  (.cons (.ret (.cmp .eq (.var 14) (.var 15))) .nil)))))))))))
/-- _law_rules_right (well 0, sizes 1, bands 2, mates 3, times 4, band 5, raised 6, word 7, told 8, paper 9) -/
def a_law_rules_right_157 : Ss := (.cons (.asg (.nm 1) (.call 44 (.cons (.var 0) (.cons (.lst (.cons (.lst (.cons (.cst (.int 6)) (.cons (.cst (.int 40)) (.cons (.cst (.int 9)) .nil)))) (.cons (.lst (.cons (.cst (.int 12)) (.cons (.cst (.int 90)) (.cons (.cst (.int 20)) .nil)))) (.cons (.lst (.cons (.cst (.int 40)) (.cons (.cst (.int 2000)) (.cons (.cst (.int 100)) .nil)))) .nil)))) .nil)) []))
  (.cons (.par [2, 3] (.cons (.call 76 (.cons (.var 0) (.cons (.cst (.int 4)) (.cons (.var 1) .nil))) []) (.cons (.call 75 (.cons (.var 0) (.cons (.cst (.int 3)) (.cons (.var 1) .nil))) []) .nil)))
  (.cons (.asg (.nm 4) (.bin .add (.cst (.int 2)) (.call 43 (.cons (.var 0) (.cons (.cst (.int 8)) .nil)) [])))
  (.cons (.asg (.nm 6) (.blt .tuple (.cons (.lc [5] (.nm 5) (.seq (.var 2)) .nil (.tup (.cons (.idx (.var 5) (.cst (.int 0))) (.cons (.bin .mul (.idx (.var 5) (.cst (.int 1))) (.var 4)) (.cons (.bin .mul (.idx (.var 5) (.cst (.int 2))) (.var 4)) .nil))))) .nil)))
  (.cons (.asg (.nm 7) (.idx (.idx (.call 143 (.cons (.mk 64 0 (.var 2)) (.cons (.mk 64 0 (.var 3)) .nil)) []) (.cst (.int 0))) (.cst (.int 0))))
  (.cons (.asg (.tp (.cons (.nm 8) (.cons (.nm 9) .nil))) (.call 143 (.cons (.mk 64 0 (.var 6)) (.cons (.mk 64 0 (.var 3)) .nil)) []))
  (.cons (.ite (.disj (.cons (.cmp .ne (.idx (.var 8) (.cst (.int 0))) (.var 7)) (.cons (.inv (.call 52 (.cons (.var 8) (.cons (.var 9) (.cons (.cst (.bl true)) .nil))) [])) .nil))) (.cons (.ret (.cst (.bl false))) .nil) .nil)
  (.cons (.asg (.nm 6) (.blt .tuple (.cons (.lc [5] (.nm 5) (.seq (.var 3)) .nil (.tup (.cons (.idx (.var 5) (.cst (.int 0))) (.cons (.bin .mul (.idx (.var 5) (.cst (.int 1))) (.var 4)) (.cons (.bin .mul (.idx (.var 5) (.cst (.int 2))) (.var 4)) .nil))))) .nil)))
  (.cons (.asg (.tp (.cons (.nm 8) (.cons (.nm 9) .nil))) (.call 143 (.cons (.mk 64 0 (.var 2)) (.cons (.mk 64 0 (.var 6)) .nil)) []))
  (.cons (.ret (.conj (.cons (.cmp .eq (.idx (.var 8) (.cst (.int 0))) (.var 7)) (.cons (.call 52 (.cons (.var 8) (.cons (.var 9) (.cons (.cst (.bl true)) .nil))) []) .nil))))
  .nil))))))))))
/-- _law_right (well 0, turn 1) -/
def a_law_right_158 : Ss := (.cons (.ret (.blt .all (.cons (.lc [1] (.nm 1) (.rng (.cst (.int 4))) .nil (.conj (.cons (.call 156 (.cons (.var 0) .nil) []) (.cons (.call 157 (.cons (.var 0) .nil) []) .nil)))) .nil)))
  .nil)
/-- law (script 0, at 1) -/
def a_law_159 : Ss := (.cons (.ret (.blt .all (.cons (.lc [1] (.nm 1) (.rng (.blt .max (.cons (.cst (.int 2)) (.cons (.blt .min (.cons (.slen (.var 0)) (.cons (.cst (.int 5)) .nil))) .nil)))) .nil (.call 158 (.cons (.call 42 (.cons (.var 0) (.cons (.var 1) .nil)) []) .nil) [])) .nil)))
  .nil)
/-- _law_rules_right (well 0, bands 1, mates 2, told 3, paper 4, found 5, kinds 6, pair 7) -/
def a_law_rules_right_160 : Ss := (.cons (.par [1, 2] (.cons (.call 76 (.cons (.var 0) (.cons (.cst (.int 3)) (.cons (.lst (.cons (.cst (.int 6)) (.cons (.cst (.int 40)) (.cons (.cst (.int 9)) .nil)))) .nil))) []) (.cons (.call 44 (.cons (.var 0) (.cons (.lst (.cons (.call 75 (.cons (.var 0) (.cons (.cst (.int 3)) (.cons (.lst (.cons (.cst (.int 6)) (.cons (.cst (.int 40)) (.cons (.cst (.int 9)) .nil)))) .nil))) []) (.cons (.tup (.cons (.tup (.cons (.cst (.int 0)) (.cons (.cst (.int 0)) (.cons (.cst (.int 100)) .nil)))) .nil)) .nil))) .nil)) []) .nil)))
  (.cons (.asg (.tp (.cons (.nm 3) (.cons (.nm 4) .nil))) (.call 143 (.cons (.mk 64 0 (.var 1)) (.cons (.mk 64 0 (.var 2)) .nil)) []))
  (.cons (.asg (.nm 5) (.call 108 (.cons (.var 1) (.cons (.var 2) (.cons (.cst (.int 3)) (.cons (.cst (.int 9)) .nil)))) []))
  (.cons (.ite (.disj (.cons (.cmp .ne (.slFr (.var 3) (.cst (.int 1))) (.tup (.cons (.call 81 (.cons (.var 1) .nil) []) (.cons (.call 81 (.cons (.var 2) .nil) []) .nil)))) (.cons (.inv (.call 52 (.cons (.var 3) (.cons (.var 4) (.cons (.cst (.bl true)) .nil))) [])) .nil))) (.cons (.ret (.cst (.bl false))) .nil) .nil)
  (.cons (.ite (.cmp .eq (.idx (.var 3) (.cst (.int 0))) (.cst (.str [109, 111, 114, 101]))) (.cons (.ret (.conj (.cons (.cmp .eq (.var 5) (.lst .nil)) (.cons (.cmp .eq (.var 4) (.tup .nil)) .nil))))
  .nil) .nil)
  (.cons (.asg (.nm 6) (.call 98 (.cons (.var 4) .nil) []))
  (.cons (.ite (.disj (.cons (.cmp .eq (.var 6) (.tup .nil)) (.cons (.cmp .ne (.idx (.var 3) (.cst (.int 0))) (.cst (.str [110, 111, 116, 32, 109, 111, 114, 101]))) .nil))) (.cons (.ret (.cst (.bl false))) .nil) .nil)
  (.cons (.ite (.cmp .lt (.blt .sum (.cons (.lc [7] (.nm 7) (.seq (.var 6)) .nil (.idx (.var 7) (.cst (.int 1)))) .nil)) (.cst (.int 20))) (.cons (.ret (.inv (.call 59 (.cons (.call 85 (.cons (.var 1) (.cons (.var 6) .nil)) []) (.cons (.call 85 (.cons (.var 2) (.cons (.var 6) .nil)) []) .nil)) [])))
  .nil) .nil)
  (.cons (.ret (.cst (.bl true))) .nil)))))))))
/-- _law_few (well 0, found 1, turn 2, amount 3) -/
def a_law_few_161 : Ss := (.cons (.asg (.nm 1) .ndic) (.cons (.for_ (.nm 2) (.rng (.bin .add (.cst (.int 1)) (.call 43 (.cons (.var 0) (.cons (.cst (.int 4)) .nil)) []))) (.cons (.asg (.nm 3) (.call 43 (.cons (.var 0) (.cons (.cst (.int 7)) .nil)) []))
  (.cons (.asg (.sub (.var 1) (.var 3)) (.bin .add (.get (.var 1) (.var 3) (.cst (.int 0))) (.cst (.int 1))))
  .nil)))
  (.cons (.ret (.blt .tuple (.cons (.sitems (.var 1)) .nil)))
  .nil)))
/-- _law_purses_right (well 0, turn 1, rows 2, kinds 3, mates 4, told 5, paper 6, word 7) -/
def a_law_purses_right_162 : Ss := (.cons (.asg (.nm 2) (.lc [1] (.nm 1) (.rng (.cst (.int 5))) .nil (.call 161 (.cons (.var 0) .nil) [])))
  (.cons (.for_ (.nm 3) (.seq (.var 2)) (.cons (.for_ (.nm 4) (.seq (.var 2)) (.cons (.asg (.tp (.cons (.nm 5) (.cons (.nm 6) .nil))) (.call 125 (.cons (.mk 115 1 (.var 3)) (.cons (.mk 115 1 (.var 4)) .nil)) []))
  (.cons (.asg (.nm 7) (.ite (.call 59 (.cons (.var 3) (.cons (.var 4) .nil)) []) (.cst (.str [101, 118, 101, 110])) (.cst (.str [117, 110, 101, 118, 101, 110]))))
  (.cons (.ite (.disj (.cons (.inv (.call 53 (.cons (.var 5) (.cons (.tup (.cons (.var 7) (.cons (.call 47 (.cons (.var 3) .nil) []) (.cons (.call 47 (.cons (.var 4) .nil) []) .nil)))) .nil)) [])) (.cons (.inv (.call 52 (.cons (.var 5) (.cons (.var 6) (.cons (.cst (.bl true)) .nil))) [])) .nil))) (.cons (.ret (.cst (.bl false))) .nil) .nil)
  .nil))))
  .nil))
  (.cons (.ret (.cst (.bl true))) .nil)))
/-- _law_right (well 0, turn 1) -/
def a_law_right_163 : Ss := (.cons (.ret (.blt .all (.cons (.lc [1] (.nm 1) (.rng (.cst (.int 3))) .nil (.conj (.cons (.call 160 (.cons (.var 0) .nil) []) (.cons (.call 162 (.cons (.var 0) .nil) []) .nil)))) .nil)))
  .nil)
/-- law (script 0, at 1) -/
def a_law_164 : Ss := (.cons (.ret (.blt .all (.cons (.lc [1] (.nm 1) (.rng (.blt .max (.cons (.cst (.int 2)) (.cons (.blt .min (.cons (.slen (.var 0)) (.cons (.cst (.int 4)) .nil))) .nil)))) .nil (.call 163 (.cons (.call 42 (.cons (.var 0) (.cons (.var 1) .nil)) []) .nil) [])) .nil)))
  .nil)
/-- check_incomes (value 0) -/
def a_check_incomes_165 : Ss := (.cons (.expr (.call 123 (.cons (.var 0) .nil) []))
  (.cons (.ite (.cmp .gt (.idx (.idx (.prop 116 1 (.var 0)) (.neg (.cst (.int 1)))) (.cst (.int 0))) (.glb (.int 1000000000000000000000000000000))) (.cons .stuck .nil) .nil)
  .nil))
/-- behind (rule 0, purse 1, kinds 2, amount 3, count 4) -/
def a_behind_166 : Ss := (.cons (.expr (.call 138 (.cons (.var 0) .nil) []))
  (.cons (.expr (.call 165 (.cons (.var 1) .nil) []))
  (.cons (.asg (.nm 2) (.call 20 (.cons (.var 0) (.cons (.prop 116 1 (.var 1)) .nil)) []))
  (.cons (.for_ (.tp (.cons (.nm 3) (.cons (.nm 4) .nil))) (.seq (.var 2)) (.cons (.ite (.cmp .gt (.var 4) (.glb (.int 1000000000000000000000000000000000000000000000000000000000000000000000000))) (.cons .stuck .nil) .nil)
  .nil))
  (.cons (.ret (.mk 115 1 (.var 2))) .nil)))))
/-- is_as_even (first 0, second 1) -/
def a_is_as_even_167 : Ss := (.cons (.expr (.call 124 (.cons (.var 0) (.cons (.var 1) .nil)) []))
  (.cons (.ret (.call 24 (.cons (.prop 116 1 (.var 0)) (.cons (.prop 116 1 (.var 1)) .nil)) []))
  .nil))
/-- order (first 0, second 1, one 2, other 3) -/
def a_order_168 : Ss := (.cons (.expr (.call 124 (.cons (.var 0) (.cons (.var 1) .nil)) []))
  (.cons (.par [2, 3] (.cons (.call 24 (.cons (.prop 116 1 (.var 0)) (.cons (.prop 116 1 (.var 1)) .nil)) []) (.cons (.call 24 (.cons (.prop 116 1 (.var 1)) (.cons (.prop 116 1 (.var 0)) .nil)) []) .nil)))
  (.cons (.ite (.conj (.cons (.var 2) (.cons (.var 3) .nil))) (.cons (.ret (.cst (.str [115, 97, 109, 101]))) .nil) .nil)
  (.cons (.ret (.ite (.var 2) (.cst (.str [109, 111, 114, 101])) (.ite (.var 3) (.cst (.str [108, 101, 115, 115])) (.cst (.str [110, 101, 105, 116, 104, 101, 114])))))
  .nil))))
/-- crossing (first 0, second 1) -/
def a_crossing_169 : Ss := (.cons (.expr (.call 124 (.cons (.var 0) (.cons (.var 1) .nil)) []))
  (.cons (.ret (.call 23 (.cons (.prop 116 1 (.var 0)) (.cons (.prop 116 1 (.var 1)) .nil)) []))
  .nil))
/-- gifts (first 0, second 1) -/
def a_gifts_170 : Ss := (.cons (.expr (.call 124 (.cons (.var 0) (.cons (.var 1) .nil)) []))
  (.cons (.ret (.call 26 (.cons (.prop 116 1 (.var 0)) (.cons (.prop 116 1 (.var 1)) .nil)) []))
  .nil))
/-- windows_of (one 0, other 1, found 2, begin 3, first 4, last 5, row 6) -/
def a_windows_of_171 : Ss := (.cons (.par [2, 3] (.cons (.nlst .nil) (.cons (.cst (.int 0)) .nil)))
  (.cons (.for_ (.tp (.cons (.nm 4) (.cons (.nm 5) (.cons (.nm 6) .nil)))) (.seq (.call 32 (.cons (.var 0) (.cons (.var 1) .nil)) [])) (.cons (.ite (.inv (.call 31 (.cons (.var 6) .nil) [(.int 0)])) (.cons (.ite (.cmp .gt (.var 4) (.var 3)) (.cons (.app (.var 2) (.tup (.cons (.var 3) (.cons (.var 4) .nil))))
  .nil) .nil)
  (.cons (.asg (.nm 3) (.ite (.cmp .is (.var 5) (.cst .non)) (.cst .non) (.bin .add (.var 5) (.cst (.int 1)))))
  .nil)) .nil)
  .nil))
  (.cons (.ret (.blt .tuple (.cons (.ite (.cmp .is (.var 3) (.cst .non)) (.var 2) (.bin .add (.var 2) (.lst (.cons (.tup (.cons (.var 3) (.cons (.cst .non) .nil))) .nil)))) .nil)))
  .nil)))
/-- lump_of (one 0, other 1, found 2, first 3, last 4, here 5, there 6, low 7, high 8) -/
def a_lump_of_172 : Ss := (.cons (.asg (.nm 2) (.cst (.int 0))) (.cons (.for_ (.tp (.cons (.nm 3) (.cons (.nm 4) (.cons (.tp (.cons (.nm 5) (.cons (.nm 6) (.cons (.nm 7) (.cons (.nm 8) .nil))))) .nil)))) (.seq (.call 32 (.cons (.var 0) (.cons (.var 1) .nil)) [])) (.cons (.ite (.inv (.call 30 (.cons (.tup (.cons (.var 5) (.cons (.var 6) (.cons (.var 7) (.cons (.var 8) .nil))))) .nil) [])) (.cons (.ret (.cst .non)) .nil) .nil)
  (.cons (.ite (.cmp .lt (.var 7) (.var 8)) (.cons (.asg (.nm 2) (.blt .max (.cons (.var 2) (.cons (.neg (.bin .fdiv (.bin .sub (.bin .mul (.var 5) (.var 8)) (.bin .mul (.var 6) (.var 7))) (.bin .sub (.var 8) (.var 7)))) .nil))))
  .nil) .nil)
  .nil)))
  (.cons (.ret (.var 2)) .nil)))
/-- evens_more (one 0, other 1) -/
def a_evens_more_173 : Ss := (.cons (.expr (.call 142 (.cons (.var 0) (.cons (.var 1) .nil)) []))
  (.cons (.ret (.cmp .is (.call 33 (.cons (.var 0) (.cons (.call 141 (.cons (.var 1) .nil) []) .nil)) []) (.cst .non)))
  .nil))
/-- breaking (one 0, other 1) -/
def a_breaking_174 : Ss := (.cons (.expr (.call 142 (.cons (.var 0) (.cons (.var 1) .nil)) []))
  (.cons (.ret (.call 33 (.cons (.var 0) (.cons (.call 141 (.cons (.var 1) .nil) []) .nil)) []))
  .nil))
/-- windows (one 0, other 1) -/
def a_windows_175 : Ss := (.cons (.expr (.call 142 (.cons (.var 0) (.cons (.var 1) .nil)) []))
  (.cons (.ret (.call 171 (.cons (.var 0) (.cons (.call 141 (.cons (.var 1) .nil) []) .nil)) []))
  .nil))
/-- contrary (one 0, other 1, income 2) -/
def a_contrary_176 : Ss := (.cons (.expr (.call 142 (.cons (.var 0) (.cons (.var 1) .nil)) []))
  (.cons (.asg (.nm 2) (.call 33 (.cons (.var 0) (.cons (.call 141 (.cons (.var 1) .nil) []) .nil)) []))
  (.cons (.ret (.ite (.cmp .is (.var 2) (.cst .non)) (.cst .non) (.call 140 (.cons (.var 0) (.cons (.call 141 (.cons (.var 1) .nil) []) (.cons (.var 2) .nil))) [])))
  .nil)))
/-- least_lump (one 0, other 1) -/
def a_least_lump_177 : Ss := (.cons (.expr (.call 142 (.cons (.var 0) (.cons (.var 1) .nil)) []))
  (.cons (.ret (.call 172 (.cons (.var 0) (.cons (.call 141 (.cons (.var 1) .nil) []) .nil)) []))
  .nil))
/-- tilt_of (row 0, here 1, there 2, low 3, high 4) -/
def a_tilt_of_178 : Ss := (.cons (.asg (.tp (.cons (.nm 1) (.cons (.nm 2) (.cons (.nm 3) (.cons (.nm 4) .nil))))) (.var 0))
  (.cons (.ret (.tup (.cons (.bin .sub (.bin .mul (.var 1) (.var 4)) (.bin .mul (.var 2) (.var 3))) (.cons (.bin .sub (.bin .sub (.bin .add (.var 1) (.var 4)) (.var 2)) (.var 3)) .nil))))
  .nil))
/-- views_of (one 0, other 1, least 2, most 3, first 4, last 5, row 6, begin 7, slope 8) -/
def a_views_of_179 : Ss := (.cons (.asg (.tp (.cons (.nm 2) (.cons (.nm 3) .nil))) (.tup (.cons (.cst (.int 0)) (.cons (.cst .non) .nil))))
  (.cons (.for_ (.tp (.cons (.nm 4) (.cons (.nm 5) (.cons (.nm 6) .nil)))) (.seq (.call 32 (.cons (.var 0) (.cons (.var 1) .nil)) [])) (.cons (.asg (.tp (.cons (.nm 7) (.cons (.nm 8) .nil))) (.call 178 (.cons (.var 6) .nil) []))
  (.cons (.ite (.disj (.cons (.inv (.call 30 (.cons (.var 6) .nil) [])) (.cons (.conj (.cons (.cmp .lt (.var 7) (.cst (.int 0))) (.cons (.cmp .le (.var 8) (.cst (.int 0))) .nil))) .nil))) (.cons (.ret (.cst .non)) .nil) .nil)
  (.cons (.ite (.cmp .gt (.var 8) (.cst (.int 0))) (.cons (.asg (.nm 2) (.blt .max (.cons (.var 2) (.cons (.neg (.bin .fdiv (.var 7) (.var 8))) .nil))))
  .nil) .nil)
  (.cons (.ite (.cmp .lt (.var 8) (.cst (.int 0))) (.cons (.asg (.nm 3) (.ite (.cmp .is (.var 3) (.cst .non)) (.bin .fdiv (.var 7) (.neg (.var 8))) (.blt .min (.cons (.var 3) (.cons (.bin .fdiv (.var 7) (.neg (.var 8))) .nil)))))
  .nil) .nil)
  .nil)))))
  (.cons (.ret (.ite (.conj (.cons (.cmp .isnot (.var 3) (.cst .non)) (.cons (.cmp .lt (.var 3) (.var 2)) .nil))) (.cst .non) (.tup (.cons (.var 2) (.cons (.var 3) .nil)))))
  .nil)))
/-- views (one 0, other 1) -/
def a_views_180 : Ss := (.cons (.expr (.call 142 (.cons (.var 0) (.cons (.var 1) .nil)) []))
  (.cons (.ret (.call 179 (.cons (.var 0) (.cons (.call 141 (.cons (.var 1) .nil) []) .nil)) []))
  .nil))
/-- _law_rules_right (well 0, sizes 1, near 2, far 3, told 4, paper 5, is_more 6, seen 7, shown 8, each 9) -/
def a_law_rules_right_181 : Ss := (.cons (.asg (.nm 1) (.call 77 (.cons (.var 0) .nil) []))
  (.cons (.par [2, 3] (.cons (.mk 64 0 (.call 76 (.cons (.var 0) (.cons (.cst (.int 5)) (.cons (.var 1) .nil))) [])) (.cons (.mk 64 0 (.call 75 (.cons (.var 0) (.cons (.cst (.int 4)) (.cons (.var 1) .nil))) [])) .nil)))
  (.cons (.asg (.tp (.cons (.nm 4) (.cons (.nm 5) .nil))) (.call 143 (.cons (.var 2) (.cons (.var 3) .nil)) []))
  (.cons (.par [6, 7, 8] (.cons (.cmp .eq (.idx (.var 4) (.cst (.int 0))) (.cst (.str [109, 111, 114, 101]))) (.cons (.call 180 (.cons (.var 2) (.cons (.var 3) .nil)) []) (.cons (.call 176 (.cons (.var 2) (.cons (.var 3) .nil)) []) .nil))))
  (.cons (.ite (.cmp .ne (.lst (.cons (.call 173 (.cons (.var 2) (.cons (.var 3) .nil)) []) (.cons (.cmp .is (.call 174 (.cons (.var 2) (.cons (.var 3) .nil)) []) (.cst .non)) (.cons (.cmp .is (.var 8) (.cst .non)) .nil)))) (.bin .mul (.lst (.cons (.var 6) .nil)) (.cst (.int 3)))) (.cons (.ret (.cst (.bl false))) .nil) .nil)
  (.cons (.ite (.cmp .ne (.lst (.cons (.cmp .eq (.call 175 (.cons (.var 2) (.cons (.var 3) .nil)) []) (.tup (.cons (.tup (.cons (.cst (.int 0)) (.cons (.cst .non) .nil))) .nil))) (.cons (.cmp .eq (.call 177 (.cons (.var 2) (.cons (.var 3) .nil)) []) (.cst (.int 0))) .nil))) (.bin .mul (.lst (.cons (.var 6) .nil)) (.cst (.int 2)))) (.cons (.ret (.cst (.bl false))) .nil) .nil)
  (.cons (.ite (.disj (.cons (.cmp .ne (.conj (.cons (.cmp .isnot (.var 7) (.cst .non)) (.cons (.cmp .eq (.idx (.var 7) (.cst (.int 0))) (.cst (.int 0))) .nil))) (.var 6)) (.cons (.inv (.call 52 (.cons (.var 4) (.cons (.var 5) (.cons (.cst (.bl true)) .nil))) [])) .nil))) (.cons (.ret (.cst (.bl false))) .nil) .nil)
  (.cons (.ite (.var 6) (.cons (.ret (.cst (.bl true))) .nil) .nil)
  (.cons .stuck (.cons .stuck (.cons (.ret (.cst (.bl true))) .nil)))))))))))
/-- _law_purses_right (well 0, kinds 1, mates 2, near 3, far 4, words 5, due 6, word 7, got 8, many 9, spot 10) -/
def a_law_purses_right_182 : Ss := (.cons (.asg (.nm 1) (.call 46 (.cons (.var 0) (.cons (.cst (.int 6)) (.cons (.call 44 (.cons (.var 0) (.cons (.lst (.cons (.cst (.int 9)) (.cons (.cst (.int 60)) (.cons (.bin .pow (.cst (.int 10)) (.cst (.int 30))) .nil)))) .nil)) []) (.cons (.call 44 (.cons (.var 0) (.cons (.lst (.cons (.cst (.int 3)) (.cons (.cst (.int 9)) (.cons (.bin .pow (.cst (.int 10)) (.cst (.int 30))) .nil)))) .nil)) []) .nil)))) []))
  (.cons (.asg (.nm 2) (.call 44 (.cons (.var 0) (.cons (.lst (.cons (.call 109 (.cons (.var 0) (.cons (.var 1) .nil)) []) (.cons (.call 46 (.cons (.var 0) (.cons (.cst (.int 4)) (.cons (.cst (.int 60)) (.cons (.cst (.int 9)) .nil)))) []) .nil))) .nil)) []))
  (.cons (.par [3, 4] (.cons (.mk 115 1 (.var 1)) (.cons (.mk 115 1 (.var 2)) .nil)))
  (.cons (.ite (.cmp .eq (.call 43 (.cons (.var 0) (.cons (.cst (.int 3)) .nil)) []) (.cst (.int 0))) (.cons (.par [3, 4] (.cons (.call 166 (.cons (.mk 64 0 (.call 76 (.cons (.var 0) (.cons (.cst (.int 3)) (.cons (.lst (.cons (.cst (.int 12)) (.cons (.cst (.int 90)) (.cons (.cst (.int 20)) .nil)))) .nil))) [])) (.cons (.var 3) .nil)) []) (.cons (.var 3) .nil)))
  .nil) .nil)
  (.cons (.asg (.nm 5) (.lst (.cons (.idx (.idx (.call 125 (.cons (.var 3) (.cons (.var 4) .nil)) []) (.cst (.int 0))) (.cst (.int 0))) (.cons (.idx (.idx (.call 125 (.cons (.var 4) (.cons (.var 3) .nil)) []) (.cst (.int 0))) (.cst (.int 0))) .nil))))
  (.cons (.asg (.nm 6) (.lst (.cons (.call 167 (.cons (.var 3) (.cons (.var 4) .nil)) []) (.cons (.call 167 (.cons (.var 4) (.cons (.var 3) .nil)) []) .nil))))
  (.cons (.ite (.cmp .ne (.lc [7] (.nm 7) (.seq (.var 5)) .nil (.cmp .eq (.var 7) (.cst (.str [101, 118, 101, 110])))) (.var 6)) (.cons (.ret (.cst (.bl false))) .nil) .nil)
  (.cons (.ite (.cmp .ne (.lst (.cons (.cmp .is (.call 169 (.cons (.var 3) (.cons (.var 4) .nil)) []) (.cst .non)) (.cons (.cmp .is (.call 169 (.cons (.var 4) (.cons (.var 3) .nil)) []) (.cst .non)) .nil))) (.var 6)) (.cons (.ret (.cst (.bl false))) .nil) .nil)
  (.cons (.ite (.cmp .ne (.call 168 (.cons (.var 3) (.cons (.var 4) .nil)) []) (.idx (.idx (.lst (.cons (.lst (.cons (.cst (.str [110, 101, 105, 116, 104, 101, 114])) (.cons (.cst (.str [108, 101, 115, 115])) .nil))) (.cons (.lst (.cons (.cst (.str [109, 111, 114, 101])) (.cons (.cst (.str [115, 97, 109, 101])) .nil))) .nil))) (.blt .int (.cons (.idx (.var 6) (.cst (.int 0))) .nil))) (.blt .int (.cons (.idx (.var 6) (.cst (.int 1))) .nil)))) (.cons (.ret (.cst (.bl false))) .nil) .nil)
  (.cons (.par [8, 9] (.cons (.call 130 (.cons (.var 3) (.cons (.var 4) .nil)) []) (.cons (.call 170 (.cons (.var 3) (.cons (.var 4) .nil)) []) .nil)))
  (.cons (.ite (.disj (.cons (.cmp .ne (.cmp .is (.var 8) (.cst .non)) (.cmp .is (.var 9) (.cst .non))) (.cons (.conj (.cons (.cmp .isnot (.var 8) (.cst .non)) (.cons (.cmp .ne (.idx (.idx (.var 8) (.cst (.int 0))) (.cst (.int 3))) (.var 9)) .nil))) .nil))) (.cons (.ret (.cst (.bl false))) .nil) .nil)
  (.cons (.asg (.nm 10) (.call 169 (.cons (.var 3) (.cons (.var 4) .nil)) []))
  (.cons (.ret (.disj (.cons (.cmp .is (.var 10) (.cst .non)) (.cons (.call 52 (.cons (.tup (.cons (.cst (.str [117, 110, 101, 118, 101, 110])) (.cons (.blt .str (.cons (.var 3) .nil)) (.cons (.blt .str (.cons (.var 4) .nil)) .nil)))) (.cons (.var 10) (.cons (.cst (.bl true)) .nil))) []) .nil))))
  .nil)))))))))))))
/-- _law_right (well 0, turn 1) -/
def a_law_right_183 : Ss := (.cons (.ret (.blt .all (.cons (.lc [1] (.nm 1) (.rng (.cst (.int 3))) .nil (.conj (.cons (.call 181 (.cons (.var 0) .nil) []) (.cons (.call 182 (.cons (.var 0) .nil) []) .nil)))) .nil)))
  .nil)
/-- law (script 0, at 1) -/
def a_law_184 : Ss := (.cons (.ret (.blt .all (.cons (.lc [1] (.nm 1) (.rng (.blt .max (.cons (.cst (.int 2)) (.cons (.blt .min (.cons (.slen (.var 0)) (.cons (.cst (.int 5)) .nil))) .nil)))) .nil (.call 183 (.cons (.call 42 (.cons (.var 0) (.cons (.var 1) .nil)) []) .nil) [])) .nil)))
  .nil)
/-- all of them -/
def Tall : Nat → Option Def
  | 0 => some ⟨1, 1, a_is_integer_0, false⟩
  | 1 => some ⟨3, 3, a_is_within_1, false⟩
  | 2 => some ⟨1, 4, a_read_number_2, false⟩
  | 3 => some ⟨2, 4, a_is_band_3, false⟩
  | 4 => some ⟨1, 4, a_wrong_band_4, false⟩
  | 5 => some ⟨2, 2, a_last_of_5, false⟩
  | 6 => some ⟨2, 2, a_left_in_6, false⟩
  | 7 => some ⟨1, 4, a_lowest_band_7, false⟩
  | 8 => some ⟨1, 1, a_are_bands_8, false⟩
  | 9 => some ⟨1, 4, a_read_band_9, false⟩
  | 10 => some ⟨1, 3, a_read_rule_10, false⟩
  | 11 => some ⟨2, 4, a_band_at_11, false⟩
  | 12 => some ⟨1, 4, a_fall_of_12, false⟩
  | 13 => some ⟨3, 3, a_is_kind_13, false⟩
  | 14 => some ⟨2, 5, a_wrong_kind_14, false⟩
  | 15 => some ⟨2, 2, a_are_kinds_15, false⟩
  | 16 => some ⟨1, 2, a_read_kind_16, false⟩
  | 17 => some ⟨1, 3, a_read_purse_17, false⟩
  | 18 => some ⟨1, 3, a_people_of_18, false⟩
  | 19 => some ⟨1, 3, a_total_of_19, false⟩
  | 20 => some ⟨2, 6, a_kinds_behind_20, false⟩
  | 21 => some ⟨3, 9, a_share_of_21, false⟩
  | 22 => some ⟨1, 6, a_bends_of_22, false⟩
  | 23 => some ⟨2, 6, a_first_crossing_23, false⟩
  | 24 => some ⟨2, 2, a_as_even_24, false⟩
  | 25 => some ⟨2, 9, a_moves_of_25, false⟩
  | 26 => some ⟨2, 5, a_least_gifts_26, false⟩
  | 27 => some ⟨2, 6, a_stretches_of_27, false⟩
  | 28 => some ⟨1, 1, a_inner_pair_28, false⟩
  | 29 => some ⟨3, 3, a_left_by_29, false⟩
  | 30 => some ⟨1, 5, a_keeps_30, false⟩
  | 31 => some ⟨2, 6, a_is_fine_31, false⟩
  | 32 => some ⟨2, 6, a_marks_of_32, false⟩
  | 33 => some ⟨2, 5, a_first_break_33, false⟩
  | 34 => some ⟨1, 1, a_is_count_34, false⟩
  | 35 => some ⟨3, 7, a_is_less_35, false⟩
  | 36 => some ⟨1, 1, a_is_empty_36, false⟩
  | 37 => some ⟨1, 4, a_sums_by_37, false⟩
  | 38 => some ⟨4, 13, a_are_gifts_38, false⟩
  | 39 => some ⟨2, 7, a_rules_shown_39, false⟩
  | 40 => some ⟨2, 4, a_purses_shown_40, false⟩
  | 41 => some ⟨2, 2, a_accepts_41, false⟩
  | 42 => some ⟨2, 5, a_law_well_42, true⟩
  | 43 => some ⟨2, 3, a_law_draw_43, false⟩
  | 44 => some ⟨2, 2, a_law_some_44, false⟩
  | 45 => some ⟨2, 5, a_law_far_45, false⟩
  | 46 => some ⟨4, 7, a_law_kinds_46, false⟩
  | 47 => some ⟨1, 3, a_law_lines_47, false⟩
  | 48 => some ⟨3, 10, a_law_lower_48, false⟩
  | 49 => some ⟨4, 6, a_law_is_less_49, false⟩
  | 50 => some ⟨1, 7, a_law_ends_50, false⟩
  | 51 => some ⟨1, 11, a_law_two_purses_51, false⟩
  | 52 => some ⟨3, 4, a_law_judged_52, false⟩
  | 53 => some ⟨2, 2, a_law_same_53, false⟩
  | 54 => some ⟨3, 4, a_law_due_54, false⟩
  | 55 => some ⟨1, 10, a_law_right_55, false⟩
  | 56 => some ⟨1, 2, a_law_56, false⟩
  | 57 => some ⟨2, 4, a_law_as_even_57, false⟩
  | 58 => some ⟨1, 4, a_law_people_58, false⟩
  | 59 => some ⟨2, 10, a_law_even_by_people_59, false⟩
  | 60 => some ⟨1, 1, a_law_no_paper_60, false⟩
  | 61 => some ⟨1, 4, a_law_few_61, false⟩
  | 62 => some ⟨1, 6, a_law_right_62, false⟩
  | 63 => some ⟨1, 8, a_law_63, false⟩
  | 64 => some ⟨2, 3, a_Rule_init_64, false⟩
  | 65 => some ⟨1, 1, a_Rule_bands_65, false⟩
  | 66 => some ⟨2, 2, a_Rule_at_66, false⟩
  | 67 => some ⟨2, 2, a_Rule_left_67, false⟩
  | 68 => some ⟨1, 1, a_Rule_len_68, false⟩
  | 69 => some ⟨1, 1, a_Rule_bool_69, false⟩
  | 70 => some ⟨2, 2, a_Rule_eq_70, false⟩
  | 71 => some ⟨1, 5, a_Rule_str_71, false⟩
  | 72 => some ⟨2, 4, a_law_left_72, false⟩
  | 73 => some ⟨3, 6, a_law_starts_73, false⟩
  | 74 => some ⟨3, 8, a_law_any_74, false⟩
  | 75 => some ⟨3, 11, a_law_even_75, false⟩
  | 76 => some ⟨3, 9, a_law_near_76, false⟩
  | 77 => some ⟨1, 1, a_law_sizes_77, false⟩
  | 78 => some ⟨2, 5, a_law_points_78, false⟩
  | 79 => some ⟨2, 7, a_law_breaks_79, false⟩
  | 80 => some ⟨1, 2, a_law_falls_80, false⟩
  | 81 => some ⟨1, 3, a_law_spell_81, false⟩
  | 82 => some ⟨1, 8, a_law_two_82, false⟩
  | 83 => some ⟨1, 6, a_law_right_83, false⟩
  | 84 => some ⟨1, 2, a_law_84, false⟩
  | 85 => some ⟨2, 6, a_law_behind_85, false⟩
  | 86 => some ⟨3, 7, a_law_tries_86, false⟩
  | 87 => some ⟨3, 8, a_law_asked_87, false⟩
  | 88 => some ⟨1, 5, a_law_right_88, false⟩
  | 89 => some ⟨1, 2, a_law_89, false⟩
  | 90 => some ⟨0, 4, a_law_pairs_90, false⟩
  | 91 => some ⟨3, 6, a_law_bent_91, false⟩
  | 92 => some ⟨1, 1, a_law_is_claim_92, false⟩
  | 93 => some ⟨1, 9, a_law_right_93, false⟩
  | 94 => some ⟨1, 2, a_law_94, false⟩
  | 95 => some ⟨1, 5, a_law_low_95, false⟩
  | 96 => some ⟨1, 3, a_law_number_96, false⟩
  | 97 => some ⟨1, 6, a_law_read_bands_97, false⟩
  | 98 => some ⟨1, 6, a_law_read_kinds_98, false⟩
  | 99 => some ⟨2, 9, a_law_bent_text_99, false⟩
  | 100 => some ⟨2, 5, a_law_rules_due_100, false⟩
  | 101 => some ⟨2, 4, a_law_purses_due_101, false⟩
  | 102 => some ⟨1, 6, a_law_rules_right_102, false⟩
  | 103 => some ⟨1, 7, a_law_purses_right_103, false⟩
  | 104 => some ⟨1, 2, a_law_right_104, false⟩
  | 105 => some ⟨1, 2, a_law_105, false⟩
  | 106 => some ⟨2, 8, a_law_rows_of_106, false⟩
  | 107 => some ⟨2, 7, a_law_share_rows_107, false⟩
  | 108 => some ⟨4, 7, a_law_contrary_row_108, false⟩
  | 109 => some ⟨2, 12, a_law_evened_109, false⟩
  | 110 => some ⟨3, 8, a_law_gifts_true_110, false⟩
  | 111 => some ⟨4, 7, a_law_is_true_111, false⟩
  | 112 => some ⟨3, 6, a_law_claim_112, false⟩
  | 113 => some ⟨1, 12, a_law_right_113, false⟩
  | 114 => some ⟨1, 2, a_law_114, false⟩
  | 115 => some ⟨2, 3, a_Purse_init_115, false⟩
  | 116 => some ⟨1, 1, a_Purse_kinds_116, false⟩
  | 117 => some ⟨1, 1, a_Purse_people_117, false⟩
  | 118 => some ⟨1, 1, a_Purse_total_118, false⟩
  | 119 => some ⟨1, 1, a_Purse_len_119, false⟩
  | 120 => some ⟨1, 1, a_Purse_bool_120, false⟩
  | 121 => some ⟨2, 2, a_Purse_eq_121, false⟩
  | 122 => some ⟨1, 4, a_Purse_str_122, false⟩
  | 123 => some ⟨1, 1, a_check_purse_123, false⟩
  | 124 => some ⟨2, 2, a_check_two_124, false⟩
  | 125 => some ⟨2, 3, a_certify_order_125, false⟩
  | 126 => some ⟨3, 6, a_law_asked_126, false⟩
  | 127 => some ⟨1, 7, a_law_right_127, false⟩
  | 128 => some ⟨1, 2, a_law_128, false⟩
  | 129 => some ⟨2, 12, a_gifts_of_129, false⟩
  | 130 => some ⟨2, 3, a_certify_gifts_130, false⟩
  | 131 => some ⟨2, 9, a_law_places_131, false⟩
  | 132 => some ⟨2, 6, a_law_gift_sum_132, false⟩
  | 133 => some ⟨1, 5, a_law_flows_133, false⟩
  | 134 => some ⟨4, 14, a_law_is_gifts_134, false⟩
  | 135 => some ⟨3, 4, a_law_asked_135, false⟩
  | 136 => some ⟨1, 7, a_law_right_136, false⟩
  | 137 => some ⟨1, 2, a_law_137, false⟩
  | 138 => some ⟨1, 1, a_check_rule_138, false⟩
  | 139 => some ⟨0, 0, a_plain_139, false⟩
  | 140 => some ⟨3, 7, a_contrary_of_140, false⟩
  | 141 => some ⟨1, 1, a_chosen_141, false⟩
  | 142 => some ⟨2, 3, a_check_rules_142, false⟩
  | 143 => some ⟨2, 4, a_certify_evening_143, false⟩
  | 144 => some ⟨3, 4, a_law_shows_it_144, false⟩
  | 145 => some ⟨3, 5, a_law_asked_145, false⟩
  | 146 => some ⟨1, 10, a_law_right_146, false⟩
  | 147 => some ⟨1, 5, a_law_147, false⟩
  | 148 => some ⟨1, 16, a_law_rules_right_148, false⟩
  | 149 => some ⟨1, 14, a_law_purses_right_149, false⟩
  | 150 => some ⟨1, 3, a_law_150, false⟩
  | 151 => some ⟨1, 15, a_law_rules_right_151, false⟩
  | 152 => some ⟨3, 5, a_law_times_152, false⟩
  | 153 => some ⟨1, 13, a_law_purses_right_153, false⟩
  | 154 => some ⟨1, 2, a_law_right_154, false⟩
  | 155 => some ⟨1, 2, a_law_155, false⟩
  | 156 => some ⟨1, 16, a_law_purses_right_156, false⟩
  | 157 => some ⟨1, 10, a_law_rules_right_157, false⟩
  | 158 => some ⟨1, 2, a_law_right_158, false⟩
  | 159 => some ⟨1, 2, a_law_159, false⟩
  | 160 => some ⟨1, 8, a_law_rules_right_160, false⟩
  | 161 => some ⟨1, 4, a_law_few_161, false⟩
  | 162 => some ⟨1, 8, a_law_purses_right_162, false⟩
  | 163 => some ⟨1, 2, a_law_right_163, false⟩
  | 164 => some ⟨1, 2, a_law_164, false⟩
  | 165 => some ⟨1, 1, a_check_incomes_165, false⟩
  | 166 => some ⟨2, 5, a_behind_166, false⟩
  | 167 => some ⟨2, 2, a_is_as_even_167, false⟩
  | 168 => some ⟨2, 4, a_order_168, false⟩
  | 169 => some ⟨2, 2, a_crossing_169, false⟩
  | 170 => some ⟨2, 2, a_gifts_170, false⟩
  | 171 => some ⟨2, 7, a_windows_of_171, false⟩
  | 172 => some ⟨2, 9, a_lump_of_172, false⟩
  | 173 => some ⟨2, 2, a_evens_more_173, false⟩
  | 174 => some ⟨2, 2, a_breaking_174, false⟩
  | 175 => some ⟨2, 2, a_windows_175, false⟩
  | 176 => some ⟨2, 3, a_contrary_176, false⟩
  | 177 => some ⟨2, 2, a_least_lump_177, false⟩
  | 178 => some ⟨1, 5, a_tilt_of_178, false⟩
  | 179 => some ⟨2, 9, a_views_of_179, false⟩
  | 180 => some ⟨2, 2, a_views_180, false⟩
  | 181 => some ⟨1, 10, a_law_rules_right_181, false⟩
  | 182 => some ⟨1, 11, a_law_purses_right_182, false⟩
  | 183 => some ⟨1, 2, a_law_right_183, false⟩
  | 184 => some ⟨1, 2, a_law_184, false⟩
  | _ => none
end DL
set_option linter.all false
set_option maxRecDepth 100000
set_option maxHeartbeats 4000000
namespace DL
open PySem L2
def Sub (l : List Nat) (T : Nat → Option Def) : Prop := ∀ i, l.contains i = true → T i = Tall i
theorem Sub.get {l : List Nat} {T : Nat → Option Def} (h : Sub l T) (i : Nat) (hi : l.contains i = true := by decide) : T i = Tall i := h i hi
theorem Sub.mono {l l' : List Nat} {T : Nat → Option Def} (h : Sub l T) (hl : l'.all (fun i => l.contains i) = true := by decide) : Sub l' T := fun i hi => h i (by
  rw [List.all_eq_true] at hl
  exact hl i (by simpa using hi))
/-- one level of a call -/
theorem callT {l : List Nat} {T : Nat → Option Def} (h : Sub l T) (k f : Nat) (us : List U) (m : Mem) (d : Def) (hi : l.contains f = true := by decide) (hd : Tall f = some d := by rfl) (hl : us.length = d.np := by rfl) :
    callF T (k + 1) f us m = (exSs (callF T k) d.body (startE d.ns us) m).bind (close d.cel m.length) := callF_run T k f us m d ((h.get f hi).trans hd) hl
section
variable {m : Mem} {i j : Int} {xs ys : List D} {n : Nat} {x y : D} {s t : List Nat}
theorem o_add : binD m .add (.d (.int i)) (.d (.int j)) = some (.int (i + j)) := rfl
theorem o_sub : binD m .sub (.d (.int i)) (.d (.int j)) = some (.int (i - j)) := rfl
theorem o_mul : binD m .mul (.d (.int i)) (.d (.int j)) = if mulOk i j then some (.int (i * j)) else none := rfl
theorem o_fdiv : binD m .fdiv (.d (.int i)) (.d (.int j)) = if divOk j then some (.int (i / j)) else none := rfl
theorem o_mod : binD m .mod (.d (.int i)) (.d (.int j)) = if 0 < j then some (.int (i % j)) else none := rfl
theorem o_pow : binD m .pow (.d (.int i)) (.d (.int j)) = if powOk i j then some (.int (i ^ j.toNat)) else none := rfl
theorem o_addS : binD m .add (.d (.str s)) (.d (.str t)) = if s.length + t.length ≤ 16777216 then some (.str (s ++ t)) else none := rfl
theorem o_addT : binD m .add (.d (.tup xs)) (.d (.tup ys)) = if xs.length + ys.length ≤ 16777216 then some (.tup (xs ++ ys)) else none := rfl
theorem o_addL : binD m .add (.d (.lst xs)) (.d (.lst ys)) = if xs.length + ys.length ≤ 16777216 then some (.lst (xs ++ ys)) else none := rfl
theorem o_lt : cmpD m .lt (.d (.int i)) (.d (.int j)) = some (decide (i < j)) := rfl
theorem o_le : cmpD m .le (.d (.int i)) (.d (.int j)) = some (decide (i ≤ j)) := rfl
theorem o_gt : cmpD m .gt (.d (.int i)) (.d (.int j)) = some (decide (j < i)) := rfl
theorem o_ge : cmpD m .ge (.d (.int i)) (.d (.int j)) = some (decide (j ≤ i)) := rfl
theorem o_eq : cmpD m .eq (.d (.int i)) (.d (.int j)) = some (decide (i = j)) := rfl
theorem o_ne : cmpD m .ne (.d (.int i)) (.d (.int j)) = some (!decide (i = j)) := rfl
theorem o_eqS : cmpD m .eq (.d (.str s)) (.d (.str t)) = some (s == t) := rfl
theorem o_neS : cmpD m .ne (.d (.str s)) (.d (.str t)) = some (!(s == t)) := rfl
theorem o_isN : cmpD m .is (.d x) (.d .non) = some (match x with | .non => true | _ => false) := by cases x <;> rfl
theorem o_isnN : cmpD m .isnot (.d x) (.d .non) = some (match x with | .non => false | _ => true) := by cases x <;> rfl
theorem o_len {xs : List D} : bltD m .len [.d (.lst xs)] = some (.int xs.length) := rfl
theorem o_lenT {xs : List D} : bltD m .len [.d (.tup xs)] = some (.int xs.length) := rfl
theorem o_lenS : bltD m .len [.d (.str s)] = if s.length ≤ 16777216 then some (.int s.length) else none := rfl
theorem o_int : bltD m .int [.d (.int i)] = some (.int i) := rfl
theorem o_abs : bltD m .abs [.d (.int i)] = some (.int (if i < 0 then -i else i)) := rfl
theorem o_min : bltD m .min [.d (.int i), .d (.int j)] = some (.int (if j < i then j else i)) := rfl
theorem o_max : bltD m .max [.d (.int i), .d (.int j)] = some (.int (if j > i then j else i)) := rfl
theorem o_divmod : bltD m .divmod [.d (.int i), .d (.int j)] = if 0 < j ∧ j.natAbs < 2 ^ 9000 then some (.tup [.int (i / j), .int (i % j)]) else none := rfl
theorem o_str : bltD m .str [.d (.int i)] = if strOk i then some (.str (digs i)) else none := rfl
theorem o_tuple : bltD m .tuple [.d (.lst xs)] = some (.tup xs) := rfl
theorem o_sum : bltD m .sum [.d (.lst xs)] = (intsD xs).map fun ns => .int ns.sum := rfl
theorem o_all : bltD m .all [.d (.lst xs)] = (boolsD xs).map fun bs => .bl (bs.all id) := rfl
theorem o_repr : bltD m .repr [.d x] = reprD x := rfl
theorem o_idxT : idxD m (.d (.tup xs)) (.d (.int i)) = atI xs i := rfl
theorem o_idxL : idxD m (.d (.lst xs)) (.d (.int i)) = atI xs i := rfl
theorem o_idxC (h : m[n]? = some (.lst xs)) : idxD m (.cell n) (.d (.int i)) = atI xs i := by simp only [idxD, h]
theorem o_setC (h : m[n]? = some (.lst xs)) : setD m (.cell n) (.d (.int i)) (.d x) = (match ixN xs.length i with | some j => some (m.set n (.lst (xs.set j x))) | none => none) := by
  simp only [setD, h]
  all_goals (cases ixN xs.length i <;> rfl)
theorem atN {α : Type} {xs : List α} {k : Nat} (h : k < xs.length) : atI xs (k : Int) = xs[k]? := by
  unfold atI ixN
  rw [if_pos (Int.natCast_nonneg k), if_pos (by exact_mod_cast h)]
  rfl
theorem at0 {α : Type} {x : α} {xs : List α} : atI (x :: xs) 0 = some x := atN (k := 0) (by simp)
theorem at1 {α : Type} {x y : α} {xs : List α} : atI (x :: y :: xs) 1 = some y := atN (k := 1) (by simp)
theorem at2 {α : Type} {x y z : α} {xs : List α} : atI (x :: y :: z :: xs) 2 = some z := atN (k := 2) (by simp)
theorem ix30 : ixN 3 0 = some 0 := by decide
theorem ix31 : ixN 3 1 = some 1 := by decide
theorem ix32 : ixN 3 2 = some 2 := by decide
theorem c_d {c : Bool} {k : Nat} {x : D} : close c k (.ret (.d x)) m = .ok (.d x) (m.take k) := rfl
theorem c_n {c : Bool} {k : Nat} {ρ : Env} : close c k (.nx ρ) m = .ok (.d .non) (m.take k) := rfl
theorem p_nil : pures [] = some [] := rfl
theorem p_cons {us : List U} : pures (.d x :: us) = (pures us).map (x :: ·) := rfl
theorem s_d {us : List U} {u : U} {ρ : Env} {a : Nat} {is : List Nat} : setAll (a :: is) (u :: us) ρ = setAll is us (ρ.set a (some u)) := rfl
theorem s_n {ρ : Env} : setAll [] [] ρ = some ρ := rfl
theorem asB_b {b : Bool} : asB (.d (.bl b)) = some b := rfl
theorem i_tT {xs : List D} : isiD .tuple (.d (.tup xs)) = some true := rfl
theorem i_ii : isiD .int (.d (.int i)) = some true := rfl
theorem i_bi : isiD .bool (.d (.int i)) = some false := rfl
theorem i_ss : isiD .str (.d (.str s)) = some true := rfl
theorem q_T {xs : List D} : seqIt m (.d (.tup xs)) = some (xs, none) := rfl
theorem q_L {xs : List D} : seqIt m (.d (.lst xs)) = some (xs, none) := rfl
theorem sq_T {xs : List D} : seqO m (.d (.tup xs)) = some xs := rfl
theorem sq_L {xs : List D} : seqO m (.d (.lst xs)) = some xs := rfl
end
local macro_rules | `(tactic| walk_at "ev") => `(tactic| try simp (config := {decide := true}) only [x_asg, x_par, x_aug, x_expr, x_app, x_ite, x_for, x_ret, x_retN, x_brk, x_cont, x_pass, x_nil, x_cons, e_var, e_cst, e_glb, e_tup, e_lst, e_nlst, e_ndic, e_ddic, e_bin, e_neg, e_cmp, e_ch, e_conj, e_disj, e_inv, e_ife, e_idx, e_to, e_fr, e_slen, e_sidx, e_sto, e_call, e_calk, e_blt, e_isi, e_mth, e_sit, e_lc, es_nil, es_cons, cj_nil, cj_last, cj_two, i_seq, i_rng, i_enum, t_nm, t_sub, t_tp, ts_nil, ts_cons, fB, lB, k_nx, k_asg, k_par, k_aug, k_expr, k_app2, k_app, k_b, k_ite, k_for, k_ret, k_seq, k_tup, k_lst, k_nlst, k_bin2, k_bin, k_neg, k_cmp2, k_cmp, k_ch3, k_ch2, k_ch, k_bl, k_inv, k_ife, k_idx2, k_idx, k_to2, k_to, k_fr2, k_fr, k_call, k_calk, k_blt, k_isi, k_mth2, k_mth, k_sit, k_lc2, k_lc, k_slen, k_sidx2, k_sidx, k_sto2, k_sto, k_c2, k_c, k_cj, k_seqI, k_rng, k_enum, k_sub3, k_sub, k_ts, k_fB, k_lB3, k_lB2, k_lB, R.bind_ok, R.bind_no, ofO_some, ofO_none, Option.map_some, Option.map_none, startE, List.map_cons, List.map_nil, List.length_cons, List.length_nil, List.cons_append, List.nil_append, List.append_nil, List.replicate, Nat.reduceAdd, Nat.reduceSub, List.getElem?_cons_zero, List.getElem?_cons_succ, if_true, if_false, Bool.not_true, Bool.not_false, List.set_cons_zero, List.set_cons_succ, List.set_set, wipeE, o_add, o_sub, o_mul, o_fdiv, o_mod, o_pow, o_addS, o_addT, o_addL, o_lt, o_le, o_gt, o_ge, o_eq, o_ne, o_eqS, o_neS, o_isN, o_isnN, o_len, o_lenT, o_lenS, o_int, o_abs, o_min, o_max, o_divmod, o_str, o_tuple, o_sum, o_all, o_repr, o_idxT, o_idxL, at0, at1, at2, ix30, ix31, ix32, c_d, c_n, p_nil, p_cons, s_d, s_n, asB_b, i_tT, i_ii, i_bi, i_ss, q_T, q_L, sq_T, sq_L, List.take_length, decide_true, decide_false])
abbrev wl (a b c : Int) : Ob := .lst [.int a, .int b, .int c]
theorem mulOk_r {i j : Int} (h : j.natAbs < 2 ^ 64) : mulOk i j := .inl (.inr h)
theorem mulOk_b {i j : Int} (h : i.natAbs < 2 ^ 9000) (h2 : j.natAbs < 2 ^ 9000) : mulOk i j := .inr ⟨h, h2⟩
theorem get_set {m : Mem} {n : Nat} {o x : Ob} (h : m[n]? = some o) : (m.set n x)[n]? = some x := by
  have := (List.getElem?_eq_some_iff.mp h).1
  rw [List.getElem?_set_self this]
theorem draw_ok {T : Nat → Option Def} (hT : Sub [43] T) (k n : Nat) (m : Mem) (a b c many : Int) (hm : m[n]? = some (wl a b c)) (h1 : 0 < many) (h2 : many.natAbs < 2 ^ 9000) (ha : 0 ≤ a) (hb : 0 ≤ b) :
    ∃ a' b' c' r, callF T (k + 1) 43 [.cell n, .d (.int many)] m = .ok (.d (.int r)) (m.set n (wl a' b' c')) ∧ 0 ≤ r ∧ r < many ∧ 0 ≤ a' ∧ 0 ≤ b' := by
  have hn := (List.getElem?_eq_some_iff.mp hm).1
  have hm1 : ∀ o, (m.set n o)[n]? = some o := fun o => get_set hm
  have e1 := @o_idxC m 2 _ n hm
  have hlen : ∀ o, (m.set n o).take m.length = m.set n o := fun o => List.take_of_length_le (by simp)
  by_cases h0 : 0 < a
  · refine ⟨a / many, b, c + 1, a % many, (callT hT k 43 _ m ⟨2, 3, a_law_draw_43, false⟩).trans ?_, Int.emod_nonneg _ (by omega), Int.emod_lt_of_pos _ h1, Int.ediv_nonneg ha (by omega), hb⟩
    unfold a_law_draw_43
    walk_at "ev"
    rw [o_idxC hm]
    walk_at "ev"
    rw [o_setC hm]
    walk_at "ev"
    rw [o_idxC (hm1 _)]
    walk_at "ev"
    simp only [h0, decide_true]
    walk_at "ev"
    rw [o_idxC (hm1 _)]
    walk_at "ev"
    rw [if_pos ⟨h1, h2⟩]
    walk_at "ev"
    rw [o_setC (hm1 _)]
    walk_at "ev"
    simp only [List.set_set, hlen]
  · refine ⟨a, (b * 39373 + (c + 1) * 911 + 17) % 2147483353, c + 1, (b * 39373 + (c + 1) * 911 + 17) % 2147483353 / 256 % many, (callT hT k 43 _ m ⟨2, 3, a_law_draw_43, false⟩).trans ?_, Int.emod_nonneg _ (by omega), Int.emod_lt_of_pos _ h1, ha, Int.emod_nonneg _ (by omega)⟩
    unfold a_law_draw_43
    walk_at "ev"
    rw [o_idxC hm]
    walk_at "ev"
    rw [o_setC hm]
    walk_at "ev"
    rw [o_idxC (hm1 _)]
    walk_at "ev"
    simp only [h0, decide_false]
    walk_at "ev"
    rw [o_idxC (hm1 _)]
    walk_at "ev"
    rw [if_pos (mulOk_r (by decide))]
    walk_at "ev"
    rw [o_idxC (hm1 _)]
    walk_at "ev"
    rw [if_pos (mulOk_r (by decide))]
    walk_at "ev"
    rw [o_setC (hm1 _)]
    walk_at "ev"
    rw [o_idxC (hm1 _)]
    walk_at "ev"
    rw [if_pos h1]
    walk_at "ev"
    simp only [List.set_set, hlen]
end DL
set_option linter.all false
set_option maxRecDepth 100000
set_option maxHeartbeats 4000000
set_option exponentiation.threshold 10000
namespace DL
open PySem L2
/-- the run ends, and Q holds of what it gives and leaves -/
def Wp {α : Type} (x : R α) (Q : α → Mem → Prop) : Prop := ∃ a m, x = .ok a m ∧ Q a m
theorem wp_ok {α : Type} {a : α} {m : Mem} {Q : α → Mem → Prop} : Wp (.ok a m) Q = Q a m := propext ⟨fun ⟨b, m1, e, q⟩ => by cases e; exact q, fun q => ⟨a, m, rfl, q⟩⟩
theorem wp_bind {α β : Type} {x : R α} {f : α → Mem → R β} {Q : β → Mem → Prop} : Wp (x.bind f) Q = Wp x fun a m => Wp (f a m) Q := propext ⟨fun ⟨b, m1, e, q⟩ => by
    obtain ⟨a, m2, h1, h2⟩ := R.bind_inv e
    exact ⟨a, m2, h1, b, m1, h2, q⟩, fun ⟨a, m2, h1, b, m1, h2, q⟩ => ⟨b, m1, by rw [h1]; exact h2, q⟩⟩
theorem Wp.mono {α : Type} {x : R α} {P Q : α → Mem → Prop} (h : Wp x P) (i : ∀ a m, P a m → Q a m) : Wp x Q := by
  obtain ⟨a, m, e, p⟩ := h
  exact ⟨a, m, e, i a m p⟩
theorem wp_eq {α : Type} {x : R α} {a : α} {m : Mem} : x = .ok a m ↔ Wp x fun b m' => b = a ∧ m' = m := ⟨fun e => ⟨a, m, e, rfl, rfl⟩, fun ⟨b, m', e, e1, e2⟩ => by rw [e, e1, e2]⟩
theorem Wp.of {α : Type} {x : R α} {a : α} {m : Mem} {Q : α → Mem → Prop} (e : x = .ok a m) (q : Q a m) : Wp x Q := ⟨a, m, e, q⟩
/-- a loop: P holds of the turns left, the slots, the memory -/
theorem wp_for {α : Type} {f : α → D} {b : U → Env → Mem → R O} {m0 : Mem} {Q : O → Mem → Prop} (P : List α → Env → Mem → Prop) : ∀ (l : List α) {ρ : Env} {m : Mem}, P l ρ m →
    (∀ x r ρ m, P (x :: r) ρ m → Wp (b (.d (f x)) ρ m) fun o m' => match o with
      | .nx ρ' => P r ρ' m'
      | .ct ρ' => P r ρ' m'
      | .brk ρ' => Q (.nx ρ') m'
      | .ret u => Q (.ret u) m') →
    (∀ ρ m, P [] ρ m → Q (.nx ρ) m) → Wp (forL none m0 b ((l.map f).map .d) ρ m) Q
  | [], ρ, m, hp, h, hq => ⟨_, _, rfl, hq _ _ hp⟩
  | x :: l, ρ, m, hp, h, hq => by
    obtain ⟨o, m1, h1, h2⟩ := h x l ρ m hp
    simp only [List.map_cons, forL, h1, R.bind_ok]
    cases o with
    | nx ρ' => simp only [okG, if_true]; exact wp_for P l h2 h hq
    | ct ρ' => simp only [okG, if_true]; exact wp_for P l h2 h hq
    | brk ρ' => exact ⟨_, _, rfl, h2⟩
    | ret u => exact ⟨_, _, rfl, h2⟩
/-- a loop that goes through -/
theorem wp_forN {α : Type} {f : α → D} {b : U → Env → Mem → R O} {m0 : Mem} {Q : O → Mem → Prop} (P : List α → Env → Mem → Prop) (l : List α) {ρ : Env} {m : Mem} (h0 : P l ρ m)
    (h : ∀ x r ρ m, P (x :: r) ρ m → Wp (b (.d (f x)) ρ m) fun o m' => ∃ ρ', o = .nx ρ' ∧ P r ρ' m') (hq : ∀ ρ m, P [] ρ m → Q (.nx ρ) m) : Wp (forL none m0 b ((l.map f).map .d) ρ m) Q :=
  wp_for P l h0 (fun x r ρ m hp => (h x r ρ m hp).mono fun o m' ⟨ρ', e, z⟩ => by subst e; exact z) hq
theorem wp_forE {α : Type} {f : α → D} {b : U → Env → Mem → R O} {m0 : Mem} {Q : O → Mem → Prop} (P : List α → Env → Mem → Prop) (l : List α) {L : List U} (hL : L = (l.map f).map .d) {ρ : Env} {m : Mem} (h0 : P l ρ m)
    (h : ∀ x r ρ m, P (x :: r) ρ m → Wp (b (.d (f x)) ρ m) fun o m' => ∃ ρ', o = .nx ρ' ∧ P r ρ' m') (hq : ∀ ρ m, P [] ρ m → Q (.nx ρ) m) : Wp (forL none m0 b L ρ m) Q := by
  subst hL; exact wp_forN P l h0 h hq
theorem range_drop {n i x : Nat} {r : List Nat} (h : x :: r = (List.range n).drop i) : x = i ∧ i < n ∧ r = (List.range n).drop (i + 1) := by
  have hl := congrArg List.length h
  rw [List.length_cons, List.length_drop, List.length_range] at hl
  have hi : i < n := by omega
  rw [List.drop_eq_getElem_cons (by rw [List.length_range]; exact hi)] at h
  simp only [List.cons.injEq, List.getElem_range] at h
  exact ⟨h.1, hi, h.2⟩
/-- a loop over range(n) -/
theorem wp_range {b : U → Env → Mem → R O} {m0 : Mem} {Q : O → Mem → Prop} (n : Nat) (P : Nat → Env → Mem → Prop) {ρ : Env} {m : Mem} (h0 : P 0 ρ m)
    (h : ∀ i ρ m, i < n → P i ρ m → Wp (b (.d (.int (i : Int))) ρ m) fun o m' => match o with
      | .nx ρ' => P (i + 1) ρ' m'
      | .ct ρ' => P (i + 1) ρ' m'
      | .brk ρ' => Q (.nx ρ') m'
      | .ret u => Q (.ret u) m')
    (hq : ∀ ρ m, P n ρ m → Q (.nx ρ) m) : Wp (forL none m0 b (((List.range n).map fun (i : Nat) => D.int (i : Int)).map .d) ρ m) Q := by
  refine wp_for (f := fun (i : Nat) => D.int (i : Int)) (fun l ρ m => ∃ i, i ≤ n ∧ l = (List.range n).drop i ∧ P i ρ m) (List.range n) ⟨0, by omega, by simp, h0⟩ (fun x r ρ m ⟨i, hi, e, p⟩ => ?_) (fun ρ m ⟨i, hi, e, p⟩ => ?_)
  · obtain ⟨rfl, h1, h2⟩ := range_drop e
    refine (h x ρ m h1 p).mono fun o m' z => ?_
    cases o with
    | nx ρ' => exact ⟨x + 1, h1, h2, z⟩
    | ct ρ' => exact ⟨x + 1, h1, h2, z⟩
    | brk ρ' => exact z
    | ret u => exact z
  · have hl := congrArg List.length e
    rw [List.length_nil, List.length_drop, List.length_range] at hl
    have : i = n := by omega
    subst this
    exact hq ρ m p
/-- a comprehension that keeps memory as it is -/
theorem lc_fm {α : Type} {f : α → D} {g : α → Option D} {b : D → Mem → R (Option D)} {m0 : Mem} : ∀ (l : List α) (m : Mem), (∀ x ∈ l, b (f x) m = .ok (g x) m) → lcL none m0 b (l.map f) m = .ok (l.filterMap g) m
  | [], m, h => rfl
  | x :: l, m, h => by
    simp only [List.map_cons, lcL, h x List.mem_cons_self, R.bind_ok, okG, if_true, lc_fm l m fun y hy => h y (List.mem_cons_of_mem _ hy), List.filterMap_cons]
    cases g x <;> rfl
/-- a comprehension of any turns that give what they give -/
theorem wp_lc {α : Type} {f g : α → D} {b : D → Mem → R (Option D)} {m0 : Mem} {Q : List D → Mem → Prop} : ∀ (l : List α) {m : Mem}, (∀ x ∈ l, ∀ m, Wp (b (f x) m) fun o _ => o = some (g x)) → (∀ m', Q (l.map g) m') → Wp (lcL none m0 b (l.map f) m) Q
  | [], m, h, q => ⟨_, _, rfl, q _⟩
  | x :: l, m, h, q => by
    obtain ⟨o, m1, h1, rfl⟩ := h x List.mem_cons_self m
    obtain ⟨ys, m2, h2, rfl⟩ := wp_lc (m0 := m0) (Q := fun ys _ => ys = l.map g) l (m := m1) (fun y hy => h y (List.mem_cons_of_mem _ hy)) fun _ => rfl
    exact ⟨g x :: l.map g, m2, by simp only [List.map_cons, lcL, h1, R.bind_ok, okG, if_true, h2], q m2⟩
section
variable (F : Nat → List U → Mem → R U)
def k_step (k : Nat) (x : U) (m : Mem) : R U := ofO ((stepD m k x).map .d) m
def k_sset (x : U) (m : Mem) : R U := ofO ((ssetD m x).map .d) m
def k_prop (f c : Nat) (x : U) (m : Mem) : R U := if insC m x = some c then F f [x] m else .no
def k_meth2 (f : Nat) (x : U) (us : List U) (m : Mem) : R U := F f (x :: us) m
def k_meth (f c : Nat) (es : Es) (ρ : Env) (x : U) (m : Mem) : R U := if insC m x = some c then (evEs F es ρ m).bind (k_meth2 F f x) else .no
def k_mk2 (c n : Nat) (r : U) (m2 : Mem) : R U := match r, m2[n]? with
    | .d .non, some (.ins c' (some y)) => if c' = c then .ok (.d (.ins c y)) (m2.take n) else .no
    | _, _ => .no
def k_mk (g c : Nat) (u : U) (m : Mem) : R U := (F g [.cell m.length, u] (m ++ [.ins c none])).bind (k_mk2 c m.length)
def k_fld (c : Nat) (x : U) (m : Mem) : R U := match x with
    | .d (.ins c' y) => if c' = c then .ok (.d y) m else .no
    | .cell n => match m[n]? with
      | some (.ins c' (some y)) => if c' = c then .ok (.d y) m else .no
      | _ => .no
    | _ => .no
def k_setf2 (c : Nat) (ρ : Env) (x y : U) (m : Mem) : R O := match x, y with
    | .d d, .cell n => match m[n]? with
      | some (.ins c' _) => if c' = c then .ok (.nx ρ) (m.set n (.ins c (some d))) else .no
      | _ => .no
    | _, _ => .no
def k_setf (c : Nat) (o : E) (ρ : Env) (x : U) (m : Mem) : R O := (evE F o ρ m).bind (k_setf2 c ρ x)
def k_get3 (x y z : U) (m : Mem) : R U := ofO ((getD m x y z).map .d) m
def k_get2 (d : E) (ρ : Env) (x y : U) (m : Mem) : R U := (evE F d ρ m).bind (k_get3 x y)
def k_get (k d : E) (ρ : Env) (x : U) (m : Mem) : R U := if dictU m x = true then (evE F k ρ m).bind (k_get2 F d ρ x) else .no
theorem e_step (k : Nat) (a : E) (ρ : Env) (m : Mem) : evE F (.step k a) ρ m = (evE F a ρ m).bind (k_step k) := rfl
theorem e_sset (a : E) (ρ : Env) (m : Mem) : evE F (.sset a) ρ m = (evE F a ρ m).bind k_sset := rfl
theorem e_prop (f c : Nat) (a : E) (ρ : Env) (m : Mem) : evE F (.prop f c a) ρ m = (evE F a ρ m).bind (k_prop F f c) := rfl
theorem e_meth (f c : Nat) (a : E) (es : Es) (ρ : Env) (m : Mem) : evE F (.meth f c a es) ρ m = (evE F a ρ m).bind (k_meth F f c es ρ) := rfl
theorem e_mk (g c : Nat) (a : E) (ρ : Env) (m : Mem) : evE F (.mk g c a) ρ m = (evE F a ρ m).bind (k_mk F g c) := rfl
theorem e_fld (c : Nat) (a : E) (ρ : Env) (m : Mem) : evE F (.fld c a) ρ m = (evE F a ρ m).bind (k_fld c) := rfl
theorem x_setf (c : Nat) (o e : E) (ρ : Env) (m : Mem) : exS F (.setf c o e) ρ m = (evE F e ρ m).bind (k_setf F c o ρ) := rfl
theorem e_getw (o k d : E) (ρ : Env) (m : Mem) : evE F (.get o k d) ρ m = (evE F o ρ m).bind (k_get F k d ρ) := rfl
end
theorem ins_d {m : Mem} {c : Nat} {x : D} : insC m (.d (.ins c x)) = some c := rfl
theorem st_0 {m : Mem} {xs : List D} : stepD m 0 (.d (.lst xs)) = some (.lst (evens xs)) := rfl
theorem st_1 {m : Mem} {xs : List D} : stepD m 1 (.d (.lst xs)) = some (.lst (evens (xs.drop 1))) := rfl
theorem atLast {α : Type} {x : α} {xs : List α} (h : xs.getLast? = some x) : L2.atI xs (-1) = some x := by
  cases xs with
  | nil => cases h
  | cons y ys =>
    unfold L2.atI L2.ixN
    rw [if_neg (by decide), if_pos (by simp only [List.length_cons]; omega)]
    show (y :: ys)[((-1 : Int) + ((y :: ys).length : Int)).toNat]? = _
    rw [show ((-1 : Int) + ((y :: ys).length : Int)).toNat = (y :: ys).length - 1 from by simp only [List.length_cons]; omega, ← List.getLast?_eq_getElem?]
    exact h
structure Bd (n : Nat) (i : Int) : Prop where
  lo : -(10 ^ n) ≤ i
  hi : i ≤ 10 ^ n
theorem pw_pos (n : Nat) : (1 : Int) ≤ 10 ^ n := by
  have : 0 < (10 : Nat) ^ n := Nat.pow_pos (by decide)
  have h : ((10 ^ n : Nat) : Int) = 10 ^ n := by simp
  omega
theorem pw_le {a b : Nat} (h : a ≤ b) : (10 : Int) ^ a ≤ 10 ^ b := by
  have : (10 : Nat) ^ a ≤ 10 ^ b := Nat.pow_le_pow_right (by decide) h
  have h1 : ((10 ^ a : Nat) : Int) = 10 ^ a := by simp
  have h2 : ((10 ^ b : Nat) : Int) = 10 ^ b := by simp
  omega
theorem Bd.mono {a b : Nat} {i : Int} (h : Bd a i) (l : a ≤ b) : Bd b i := ⟨by have := pw_le l; have := h.lo; omega, by have := pw_le l; have := h.hi; omega⟩
theorem Bd.abs {n : Nat} {i : Int} : Bd n i ↔ i.natAbs ≤ 10 ^ n := by
  have h1 : ((10 ^ n : Nat) : Int) = 10 ^ n := by simp
  constructor
  · intro h
    have := h.lo
    have := h.hi
    omega
  · intro h
    exact ⟨by omega, by omega⟩
theorem Bd.neg {n : Nat} {i : Int} (h : Bd n i) : Bd n (-i) := ⟨by have := h.hi; omega, by have := h.lo; omega⟩
theorem Bd.add {n m : Nat} {i j : Int} (h : Bd n i) (g : Bd m j) : Bd (max n m + 1) (i + j) := by
  have h := h.mono (Nat.le_max_left n m)
  have g := g.mono (Nat.le_max_right n m)
  have e : (10 : Int) ^ (max n m + 1) = 10 ^ (max n m) * 10 := Int.pow_succ 10 _
  have h1 := h.lo
  have h2 := h.hi
  have g1 := g.lo
  have g2 := g.hi
  constructor <;> (rw [e]; omega)
theorem Bd.sub {n m : Nat} {i j : Int} (h : Bd n i) (g : Bd m j) : Bd (max n m + 1) (i - j) := by
  rw [Int.sub_eq_add_neg]; exact h.add g.neg
theorem Bd.mul {n m : Nat} {i j : Int} (h : Bd n i) (g : Bd m j) : Bd (n + m) (i * j) := by
  rw [Bd.abs] at *
  rw [Int.natAbs_mul, Nat.pow_add]
  exact Nat.mul_le_mul h g
theorem Bd.lit (n : Nat) [OfNat Int n] (h : ((OfNat.ofNat n : Int).natAbs ≤ 10 ^ 100) := by decide +kernel) : Bd 100 (OfNat.ofNat n) := Bd.abs.mpr h
theorem Bd.ite {n m : Nat} {p : Prop} [Decidable p] {i j : Int} (h : Bd n i) (g : Bd m j) : Bd (max n m) (if p then i else j) := by
  split
  · exact h.mono (Nat.le_max_left n m)
  · exact g.mono (Nat.le_max_right n m)
theorem Bd.nn {n : Nat} {i : Int} (h : 0 ≤ i) (g : i ≤ 10 ^ n) : Bd n i := ⟨by have := pw_pos n; omega, g⟩
theorem Bd.big {n : Nat} {i : Int} (h : Bd n i) (l : n ≤ 2700) : i.natAbs < 2 ^ 9000 := by
  have h := Bd.abs.mp h
  have e : (10 : Nat) ^ 2700 < 2 ^ 9000 := by decide +kernel
  exact Nat.lt_of_le_of_lt (Nat.le_trans h (Nat.pow_le_pow_right (by decide) l)) e
theorem Bd.ok {n m : Nat} {i j : Int} (h : Bd n i) (g : Bd m j) (l : n ≤ 2700 ∧ m ≤ 2700) : mulOk i j := .inr ⟨h.big l.1, g.big l.2⟩
theorem Bd.fok {m : Nat} {j : Int} (g : Bd m j) (h : 0 < j) (l : m ≤ 2700) : divOk j := ⟨h, g.big l⟩
section
variable {m : Mem} {i j : Int} {xs ys : List D} {s t : List Nat}
theorem q_mul (h : mulOk i j) : binD m .mul (.d (.int i)) (.d (.int j)) = some (.int (i * j)) := if_pos h
theorem q_fdiv (h : divOk j) : binD m .fdiv (.d (.int i)) (.d (.int j)) = some (.int (i / j)) := if_pos h
theorem q_addS (h : s.length + t.length ≤ 16777216) : binD m .add (.d (.str s)) (.d (.str t)) = some (.str (s ++ t)) := if_pos h
theorem q_addT (h : xs.length + ys.length ≤ 16777216) : binD m .add (.d (.tup xs)) (.d (.tup ys)) = some (.tup (xs ++ ys)) := if_pos h
theorem q_addL (h : xs.length + ys.length ≤ 16777216) : binD m .add (.d (.lst xs)) (.d (.lst ys)) = some (.lst (xs ++ ys)) := if_pos h
theorem q_str (h : strOk i) : bltD m .str [.d (.int i)] = some (.str (digs i)) := if_pos h
end
end DL
set_option linter.all false
set_option maxRecDepth 100000
set_option maxHeartbeats 4000000
set_option exponentiation.threshold 10000
namespace DL
open PySem L2
local macro_rules | `(tactic| walk_at "ev") => `(tactic| try simp (config := {decide := true}) only [x_asg, x_par, x_aug, x_expr, x_app, x_ite, x_for, x_ret, x_retN, x_brk, x_cont, x_pass, x_nil, x_cons, e_var, e_cst, e_glb, e_tup, e_lst, e_nlst, e_ndic, e_ddic, e_bin, e_neg, e_cmp, e_ch, e_conj, e_disj, e_inv, e_ife, e_idx, e_to, e_fr, e_slen, e_sidx, e_sto, e_call, e_calk, e_blt, e_isi, e_mth, e_sit, e_lc, es_nil, es_cons, cj_nil, cj_last, cj_two, i_seq, i_rng, i_enum, t_nm, t_sub, t_tp, ts_nil, ts_cons, fB, lB, k_nx, k_asg, k_par, k_aug, k_expr, k_app2, k_app, k_b, k_ite, k_for, k_ret, k_seq, k_tup, k_lst, k_nlst, k_bin2, k_bin, k_neg, k_cmp2, k_cmp, k_ch3, k_ch2, k_ch, k_bl, k_inv, k_ife, k_idx2, k_idx, k_to2, k_to, k_fr2, k_fr, k_call, k_calk, k_blt, k_isi, k_mth2, k_mth, k_sit, k_lc2, k_lc, k_slen, k_sidx2, k_sidx, k_sto2, k_sto, k_c2, k_c, k_cj, k_seqI, k_rng, k_enum, k_sub3, k_sub, k_ts, k_fB, k_lB3, k_lB2, k_lB, R.bind_ok, R.bind_no, ofO_some, ofO_none, Option.map_some, Option.map_none, startE, List.map_cons, List.map_nil, List.length_cons, List.length_nil, List.cons_append, List.nil_append, List.append_nil, List.replicate, Nat.reduceAdd, Nat.reduceSub, List.getElem?_cons_zero, List.getElem?_cons_succ, if_true, if_false, Bool.not_true, Bool.not_false, List.set_cons_zero, List.set_cons_succ, List.set_set, wipeE, o_add, o_sub, o_mul, o_fdiv, o_mod, o_pow, o_addS, o_addT, o_addL, o_lt, o_le, o_gt, o_ge, o_eq, o_ne, o_eqS, o_neS, o_isN, o_isnN, o_len, o_lenT, o_lenS, o_int, o_abs, o_min, o_max, o_divmod, o_str, o_tuple, o_sum, o_all, o_repr, o_idxT, o_idxL, at0, at1, at2, ix30, ix31, ix32, c_d, c_n, p_nil, p_cons, s_d, s_n, asB_b, i_tT, i_ii, i_bi, i_ss, q_T, q_L, sq_T, sq_L, List.take_length, decide_true, decide_false])
/-- plain to isinstance -/
def pl : D → Bool
  | .ins _ _ => false
  | .scr _ => false
  | _ => true
def isI : D → Bool
  | .int _ => true
  | _ => false
theorem c_integer {T : Nat → Option Def} (hT : Sub [0] T) (k : Nat) (x : D) (m : Mem) (h : pl x = true) : callF T (k + 1) 0 [.d x] m = .ok (.d (.bl (isI x))) m := by
  refine (callT hT k 0 _ m ⟨1, 1, a_is_integer_0, false⟩).trans ?_
  unfold a_is_integer_0
  cases x <;> first | (cases h; done) | (walk_at "ev"; (try simp only [isiD]); walk_at "ev"; (try simp only [isiD]); walk_at "ev"; first | done | rfl)
def inI (a b : Int) : D → Bool
  | .int i => decide (a ≤ i) && decide (i ≤ b)
  | _ => false
theorem c_within {T : Nat → Option Def} (hT : Sub [0, 1] T) (k : Nat) (x : D) (a b : Int) (m : Mem) (h : pl x = true) : callF T (k + 2) 1 [.d x, .d (.int a), .d (.int b)] m = .ok (.d (.bl (inI a b x))) m := by
  refine (callT hT (k + 1) 1 _ m ⟨3, 3, a_is_within_1, false⟩).trans ?_
  unfold a_is_within_1
  walk_at "ev"
  rw [c_integer (hT.mono) k x m h]
  walk_at "ev"
  cases x <;> simp only [isI] <;> walk_at "ev" <;> first | rfl | skip
  rename_i i
  by_cases h1 : a ≤ i
  · simp only [h1, decide_true]
    walk_at "ev"
    simp [inI, h1]
  · simp only [h1, decide_false]
    walk_at "ev"
    simp [inI, h1]
theorem lc_map {α β : Type} {f : α → D} {g : α → D} {b : D → Mem → R (Option D)} {m0 : Mem} : ∀ (l : List α) (m : Mem), (∀ x ∈ l, ∀ m, b (f x) m = .ok (some (g x)) m) → lcL none m0 b (l.map f) m = .ok (l.map g) m
  | [], m, h => rfl
  | x :: l, m, h => by
    simp only [List.map_cons, lcL, h x List.mem_cons_self, R.bind_ok, okG, if_true, lc_map (β := β) l m fun y hy => h y (List.mem_cons_of_mem _ hy)]
theorem ints_map {α : Type} (f : α → Int) : ∀ l : List α, intsD (l.map fun p => .int (f p)) = some (l.map f)
  | [] => rfl
  | x :: l => by simp [intsD, ints_map f l]
abbrev Ps := List (Int × Int)
def ppl (ps : Ps) : Int := (ps.map (·.2)).sum
def tot (ps : Ps) : Int := (ps.map fun p => p.1 * p.2).sum
abbrev kds (ps : Ps) : D := .tup (ps.map prD)
/-- small enough -/
def Fin (n : Int) (ps : Ps) : Prop := ∀ p ∈ ps, 0 ≤ p.1 ∧ p.1 ≤ 10 ^ 60 ∧ 0 ≤ p.2 ∧ p.2 ≤ 10 ^ 80
theorem mulOk_n {i j : Int} (h1 : 0 ≤ i) (h2 : i ≤ 10 ^ 1000) (h3 : 0 ≤ j) (h4 : j ≤ 10 ^ 1000) : mulOk i j := by
  have e : (10 : Nat) ^ 1000 < 2 ^ 9000 := by decide +kernel
  refine mulOk_b ?_ ?_
  · refine Nat.lt_of_le_of_lt (m := 10 ^ 1000) ?_ e
    have : (i.natAbs : Int) ≤ ((10 ^ 1000 : Nat) : Int) := by rw [Int.natAbs_of_nonneg h1]; exact_mod_cast h2
    exact_mod_cast this
  · refine Nat.lt_of_le_of_lt (m := 10 ^ 1000) ?_ e
    have : (j.natAbs : Int) ≤ ((10 ^ 1000 : Nat) : Int) := by rw [Int.natAbs_of_nonneg h3]; exact_mod_cast h4
    exact_mod_cast this
theorem c_people {T : Nat → Option Def} (hT : Sub [18] T) (k : Nat) (ps : Ps) (m : Mem) : callF T (k + 1) 18 [.d (kds ps)] m = .ok (.d (.int (ppl ps))) m := by
  refine (callT hT k 18 _ m ⟨1, 3, a_people_of_18, false⟩).trans ?_
  unfold a_people_of_18
  walk_at "ev"
  rw [lc_map (β := Unit) (f := prD) (g := fun p => .int p.2) ps m fun p _ m => rfl]
  walk_at "ev"
  rw [ints_map]
  walk_at "ev"
  rfl
theorem c_total {T : Nat → Option Def} (hT : Sub [19] T) (k : Nat) (ps : Ps) (m : Mem) (h : Fin 0 ps) : callF T (k + 1) 19 [.d (kds ps)] m = .ok (.d (.int (tot ps))) m := by
  refine (callT hT k 19 _ m ⟨1, 3, a_total_of_19, false⟩).trans ?_
  unfold a_total_of_19
  walk_at "ev"
  rw [lc_map (β := Unit) (f := prD) (g := fun p => .int (p.1 * p.2)) ps m fun p hp m => ?_]
  · walk_at "ev"
    rw [ints_map]
    walk_at "ev"
    rfl
  · obtain ⟨h1, h2, h3, h4⟩ := h p hp
    simp only [prD]
    walk_at "ev"
    rw [if_pos (mulOk_n h1 (Int.le_trans h2 (by decide +kernel)) h3 (Int.le_trans h4 (by decide +kernel)))]
    walk_at "ev"
theorem for_fold {α β : Type} {f : α → D} {b : U → Env → Mem → R O} {m0 : Mem} (env : β → Env) (step : β → α → β) (P : List α → β → Prop) : ∀ (l : List α) (s : β) (m : Mem), P l s → (∀ s x r m, (x :: r) <:+ l → P (x :: r) s → b (.d (f x)) (env s) m = .ok (.nx (env (step s x))) m ∧ P r (step s x)) → forL none m0 b ((l.map f).map .d) (env s) m = .ok (.nx (env (l.foldl step s))) m ∧ P [] (l.foldl step s)
  | [], s, m, hp, h => ⟨rfl, hp⟩
  | x :: l, s, m, hp, h => by
    obtain ⟨h1, h2⟩ := h s x l m (List.suffix_refl _) hp
    obtain ⟨h3, h4⟩ := for_fold (m0 := m0) env step P l (step s x) m h2 fun s y r m hy => h s y r m (hy.trans (List.suffix_cons _ _))
    simp only [List.map_cons, forL, h1, R.bind_ok, okG, if_true, List.foldl_cons]
    exact ⟨h3, h4⟩
theorem foldl_pair {α : Type} {A B : Type} (step : Int × Int → α → Int × Int) {g : α → A × B} : ∀ (l : List α) (s : Int × Int) (t : A × B), l.foldl (fun (s : Int × Int × A × B) x => ((step (s.1, s.2.1) x).1, (step (s.1, s.2.1) x).2, g x)) (s.1, s.2, t) = ((l.foldl step s).1, (l.foldl step s).2, (l.foldl (fun _ x => g x) t))
  | [], s, t => rfl
  | x :: l, s, t => by
    rw [List.foldl_cons, List.foldl_cons, List.foldl_cons]
    exact foldl_pair step l (step s x) (g x)
abbrev mn (i j : Int) : Int := if j < i then j else i
abbrev mx (i j : Int) : Int := if j > i then j else i
/-- the lowest share's sum: found, before -/
def shF (pp w : Int) (s : Int × Int) (p : Int × Int) : Int × Int := (s.1 + p.1 * mn (w * p.2) (mx 0 (pp - w * s.2)), s.2 + p.2)
def shr (ps : Ps) (part whole : Int) : Int × Int := if tot ps = 0 then (part, whole) else ((ps.foldl (shF (part * ppl ps) whole) (0, 0)).1, whole * tot ps)
/-- sizes -/
structure Pu (ps : Ps) : Prop where
  ln : ps.length ≤ 30
  fin : Fin 0 ps
theorem sum_le {f : Int × Int → Int} {c : Int} : ∀ {ps : Ps}, (∀ p ∈ ps, 0 ≤ f p ∧ f p ≤ c) → 0 ≤ (ps.map f).sum ∧ (ps.map f).sum ≤ ps.length * c
  | [], h => by simp
  | p :: ps, h => by
    obtain ⟨h1, h2⟩ := h p List.mem_cons_self
    obtain ⟨h3, h4⟩ := sum_le fun q hq => h q (List.mem_cons_of_mem _ hq)
    rw [List.map_cons, List.sum_cons, List.length_cons]
    refine ⟨by omega, ?_⟩
    have e : (((ps.length + 1 : Nat) : Int)) * c = ps.length * c + c := by
      rw [Int.natCast_add, Int.add_mul]; simp
    rw [e]; omega
theorem mul_le {a b c d : Int} (h1 : 0 ≤ a) (h2 : a ≤ b) (h3 : 0 ≤ c) (h4 : c ≤ d) : 0 ≤ a * c ∧ a * c ≤ b * d :=
  ⟨Int.mul_nonneg h1 h3, Int.mul_le_mul h2 h4 h3 (Int.le_trans h1 h2)⟩
theorem p10 (a b : Nat) : (10 : Int) ^ a * 10 ^ b = 10 ^ (a + b) := (Int.pow_add 10 a b).symm
theorem p10_le {a b : Nat} (h : a ≤ b) : (10 : Int) ^ a ≤ 10 ^ b := by
  have : (10 : Nat) ^ a ≤ 10 ^ b := Nat.pow_le_pow_right (by decide) h
  exact_mod_cast this
theorem Pu.ppl {ps : Ps} (h : Pu ps) : 0 ≤ ppl ps ∧ ppl ps ≤ 10 ^ 82 := by
  obtain ⟨h1, h2⟩ := sum_le (f := (·.2)) (c := 10 ^ 80) fun p hp => ⟨(h.fin p hp).2.2.1, (h.fin p hp).2.2.2⟩
  refine ⟨h1, Int.le_trans h2 ?_⟩
  have hl : (ps.length : Int) ≤ 10 ^ 2 := by have := h.ln; omega
  have := (mul_le (a := (ps.length : Int)) (b := 10 ^ 2) (c := 10 ^ 80) (d := 10 ^ 80) (by omega) hl (Int.pow_nonneg (by decide)) (Int.le_refl _)).2
  rw [p10] at this
  exact this
theorem Pu.tot {ps : Ps} (h : Pu ps) : 0 ≤ tot ps ∧ tot ps ≤ 10 ^ 142 := by
  obtain ⟨h1, h2⟩ := sum_le (f := fun p => p.1 * p.2) (c := 10 ^ 60 * 10 ^ 80) fun p hp => by
    obtain ⟨a, b, c, d⟩ := h.fin p hp
    exact mul_le a b c d
  refine ⟨h1, Int.le_trans h2 ?_⟩
  have hl : (ps.length : Int) ≤ 10 ^ 2 := by have := h.ln; omega
  have := (mul_le (a := (ps.length : Int)) (b := 10 ^ 2) (c := 10 ^ 60 * 10 ^ 80) (d := 10 ^ 60 * 10 ^ 80) (by omega) hl (Int.mul_nonneg (Int.pow_nonneg (by decide)) (Int.pow_nonneg (by decide))) (Int.le_refl _)).2
  rw [p10, p10] at this
  exact this
theorem mn_b {i j : Int} (h1 : 0 ≤ i) (h2 : 0 ≤ j) : 0 ≤ mn i j ∧ mn i j ≤ i := by unfold mn; split <;> omega
theorem mx_b {j : Int} : 0 ≤ mx 0 j := by unfold mx; split <;> omega
theorem c_share {T : Nat → Option Def} (hT : Sub [18, 19, 21] T) (k : Nat) (ps : Ps) (part whole : Int) (m : Mem) (h : Pu ps) (h1 : 0 ≤ part) (h2 : part ≤ 10 ^ 100) (h3 : 0 ≤ whole) (h4 : whole ≤ 10 ^ 100) :
    callF T (k + 2) 21 [.d (kds ps), .d (.int part), .d (.int whole)] m = .ok (.d (.tup [.int (shr ps part whole).1, .int (shr ps part whole).2])) m := by
  refine (callT hT (k + 1) 21 _ m ⟨3, 9, a_share_of_21, false⟩).trans ?_
  unfold a_share_of_21
  walk_at "ev"
  rw [c_total hT.mono k ps m h.fin]
  walk_at "ev"
  rw [c_people hT.mono k ps m]
  walk_at "ev"
  by_cases h0 : tot ps = 0
  · simp only [h0, decide_true]
    walk_at "ev"
    unfold shr
    rw [if_pos h0]
  · simp only [h0, decide_false]
    walk_at "ev"
    obtain ⟨q1, q2⟩ := h.ppl
    obtain ⟨q3, q4⟩ := h.tot
    have ok : ∀ {a b : Int} {x y : Nat}, 0 ≤ a → a ≤ 10 ^ x → 0 ≤ b → b ≤ 10 ^ y → (hx : x ≤ 1000 ∧ y ≤ 1000) → mulOk a b := fun a1 a2 b1 b2 hx => mulOk_n a1 (Int.le_trans a2 (p10_le hx.1)) b1 (Int.le_trans b2 (p10_le hx.2))
    obtain ⟨e1, e2⟩ := for_fold (m0 := m) (f := prD) (b := forB (callF T (k + 1)) (.tp (.cons (.nm 7) (.cons (.nm 8) .nil))) (.cons (.aug 5 .add (.bin .mul (.var 7) (.blt .min (.cons (.bin .mul (.var 2) (.var 8)) (.cons (.blt .max (.cons (.cst (.int 0)) (.cons (.bin .sub (.bin .mul (.var 1) (.var 4)) (.bin .mul (.var 2) (.var 6))) .nil))) .nil))))) (.cons (.aug 6 .add (.var 8)) .nil)))
      (fun s : Int × Int × Option U × Option U => [some (.d (kds ps)), some (.d (.int part)), some (.d (.int whole)), some (.d (.int (tot ps))), some (.d (.int (ppl ps))), some (.d (.int s.1)), some (.d (.int s.2.1)), s.2.2.1, s.2.2.2])
      (fun s p => ((shF (part * ppl ps) whole (s.1, s.2.1) p).1, (shF (part * ppl ps) whole (s.1, s.2.1) p).2, some (.d (.int p.1)), some (.d (.int p.2)))) (fun r s => 0 ≤ s.2.1 ∧ s.2.1 + ppl r ≤ ppl ps) ps (0, 0, none, none) m ⟨Int.le_refl _, by simp⟩ fun s p r m hp hs => by
        obtain ⟨hs1, hs2⟩ := hs
        obtain ⟨g1, g2, g3, g4⟩ := h.fin p (hp.mem List.mem_cons_self)
        have hr : 0 ≤ ppl r := (sum_le (f := (·.2)) (c := 10 ^ 80) fun q hq => ⟨(h.fin q (hp.mem (List.mem_cons_of_mem _ hq))).2.2.1, (h.fin q (hp.mem (List.mem_cons_of_mem _ hq))).2.2.2⟩).1
        have e0 : ppl (p :: r) = p.2 + ppl r := by simp [DL.ppl]
        rw [e0] at hs2
        have b1 := mul_le h3 h4 g3 g4
        rw [p10] at b1
        have b2 := mx_b (j := part * ppl ps - whole * s.2.1)
        have b3 := mn_b b1.1 b2
        refine ⟨?_, by simp only [shF]; omega, by simp only [shF]; omega⟩
        simp only [prD]
        walk_at "ev"
        rw [if_pos (ok h3 h4 g3 g4 (by decide))]
        walk_at "ev"
        rw [if_pos (ok h1 h2 q1 q2 (by decide))]
        walk_at "ev"
        rw [if_pos (ok h3 h4 hs1 (Int.le_trans (by omega) q2) (by decide))]
        walk_at "ev"
        rw [if_pos (ok g1 g2 b3.1 (Int.le_trans b3.2 b1.2) (by decide))]
        walk_at "ev"
        rfl
    rw [e1]
    walk_at "ev"
    rw [if_pos (ok h3 h4 q3 q4 (by decide))]
    walk_at "ev"
    unfold shr
    rw [if_neg h0, show ps.foldl _ ((0, 0, none, none) : Int × Int × Option U × Option U) = _ from foldl_pair (shF (part * ppl ps) whole) (g := fun p => (some (.d (.int p.1)), some (.d (.int p.2)))) ps (0, 0) (none, none)]
/-- the law's lowest share: left, found -/
def loF (w : Int) (s : Int × Int) (p : Int × Int) : Int × Int := (s.1 - mn s.1 (p.2 * w), s.2 + mn s.1 (p.2 * w) * p.1)
def low (ps : Ps) (part whole : Int) : Int × Int := if tot ps = 0 then (part, whole) else ((ps.foldl (loF whole) (part * ppl ps, 0)).2, tot ps * whole)
theorem low_go (pp w : Int) (hw : 0 ≤ w) : ∀ (ps : Ps) (f b l : Int), (∀ p ∈ ps, 0 ≤ p.2) → l = mx 0 (pp - w * b) → (ps.foldl (loF w) (l, f)).2 = (ps.foldl (shF pp w) (f, b)).1
  | [], f, b, l, h, e => rfl
  | p :: ps, f, b, l, h, e => by
    have hp := h p List.mem_cons_self
    have hwp : 0 ≤ w * p.2 := Int.mul_nonneg hw hp
    rw [List.foldl_cons, List.foldl_cons]
    have c1 : p.2 * w = w * p.2 := Int.mul_comm _ _
    have c2 : mn l (w * p.2) = mn (w * p.2) (mx 0 (pp - w * b)) := by rw [← e]; unfold mn; split <;> split <;> omega
    have e1 : loF w (l, f) p = (l - mn (w * p.2) (mx 0 (pp - w * b)), f + p.1 * mn (w * p.2) (mx 0 (pp - w * b))) := by
      unfold loF
      simp only [c1, c2]
      rw [Int.mul_comm p.1]
    have e2 : shF pp w (f, b) p = (f + p.1 * mn (w * p.2) (mx 0 (pp - w * b)), b + p.2) := rfl
    rw [e1, e2]
    refine low_go pp w hw ps _ _ _ (fun q hq => h q (List.mem_cons_of_mem _ hq)) ?_
    rw [e, Int.mul_add]
    unfold mn mx
    split <;> split <;> split <;> omega
theorem low_shr {ps : Ps} (h : Pu ps) {part whole : Int} (h1 : 0 ≤ part) (h3 : 0 ≤ whole) : low ps part whole = shr ps part whole := by
  unfold low shr
  split
  · rfl
  · have hh : 0 ≤ part * ppl ps := Int.mul_nonneg h1 h.ppl.1
    rw [low_go (part * ppl ps) whole h3 ps 0 0 _ (fun p hp => (h.fin p hp).2.2.1) (by unfold mx; simp; omega), Int.mul_comm (tot ps)]
end DL
set_option linter.all false
set_option maxRecDepth 100000
set_option maxHeartbeats 4000000
set_option exponentiation.threshold 10000
namespace DL
open PySem L2
local macro_rules | `(tactic| walk_at "ev") => `(tactic| try simp (config := {decide := true}) only [x_asg, x_par, x_aug, x_expr, x_app, x_ite, x_for, x_ret, x_retN, x_brk, x_cont, x_pass, x_nil, x_cons, e_var, e_cst, e_glb, e_tup, e_lst, e_nlst, e_ndic, e_ddic, e_bin, e_neg, e_cmp, e_ch, e_conj, e_disj, e_inv, e_ife, e_idx, e_to, e_fr, e_slen, e_sidx, e_sto, e_call, e_calk, e_blt, e_isi, e_mth, e_sit, e_lc, es_nil, es_cons, cj_nil, cj_last, cj_two, i_seq, i_rng, i_enum, t_nm, t_sub, t_tp, ts_nil, ts_cons, fB, lB, k_nx, k_asg, k_par, k_aug, k_expr, k_app2, k_app, k_b, k_ite, k_for, k_ret, k_seq, k_tup, k_lst, k_nlst, k_bin2, k_bin, k_neg, k_cmp2, k_cmp, k_ch3, k_ch2, k_ch, k_bl, k_inv, k_ife, k_idx2, k_idx, k_to2, k_to, k_fr2, k_fr, k_call, k_calk, k_blt, k_isi, k_mth2, k_mth, k_sit, k_lc2, k_lc, k_slen, k_sidx2, k_sidx, k_sto2, k_sto, k_c2, k_c, k_cj, k_seqI, k_rng, k_enum, k_sub3, k_sub, k_ts, k_fB, k_lB3, k_lB2, k_lB, R.bind_ok, R.bind_no, ofO_some, ofO_none, Option.map_some, Option.map_none, startE, List.map_cons, List.map_nil, List.length_cons, List.length_nil, List.cons_append, List.nil_append, List.append_nil, List.replicate, Nat.reduceAdd, Nat.reduceSub, List.getElem?_cons_zero, List.getElem?_cons_succ, if_true, if_false, Bool.not_true, Bool.not_false, List.set_cons_zero, List.set_cons_succ, List.set_set, wipeE, o_add, o_sub, o_mul, o_fdiv, o_mod, o_pow, o_addS, o_addT, o_addL, o_lt, o_le, o_gt, o_ge, o_eq, o_ne, o_eqS, o_neS, o_isN, o_isnN, o_len, o_lenT, o_lenS, o_int, o_abs, o_min, o_max, o_divmod, o_str, o_tuple, o_sum, o_all, o_repr, o_idxT, o_idxL, at0, at1, at2, ix30, ix31, ix32, c_d, c_n, p_nil, p_cons, s_d, s_n, asB_b, i_tT, i_ii, i_bi, i_ss, q_T, q_L, sq_T, sq_L, List.take_length, decide_true, decide_false])
theorem shF_b {w pp : Int} (hw : 0 ≤ w) : ∀ (ps : Ps) (f b : Int), Fin 0 ps → 0 ≤ f → 0 ≤ (ps.foldl (shF pp w) (f, b)).1 ∧ (ps.foldl (shF pp w) (f, b)).1 ≤ f + w * tot ps
  | [], f, b, h, hf => by simp [tot]; exact hf
  | p :: ps, f, b, h, hf => by
    obtain ⟨h1, h2, h3, h4⟩ := h p List.mem_cons_self
    have b1 : 0 ≤ w * p.2 := Int.mul_nonneg hw h3
    obtain ⟨b2, b3⟩ := mn_b b1 (mx_b (j := pp - w * b))
    have b4 := mul_le h1 (Int.le_refl _) b2 b3
    obtain ⟨g1, g2⟩ := shF_b (pp := pp) hw ps (f + p.1 * mn (w * p.2) (mx 0 (pp - w * b))) (b + p.2) (fun q hq => h q (List.mem_cons_of_mem _ hq)) (by omega)
    rw [List.foldl_cons]
    refine ⟨g1, Int.le_trans g2 ?_⟩
    have e : tot (p :: ps) = p.1 * p.2 + tot ps := by simp [tot]
    rw [e, Int.mul_add]
    have e2 : p.1 * (w * p.2) = w * (p.1 * p.2) := by rw [← Int.mul_assoc, Int.mul_comm p.1 w, Int.mul_assoc]
    rw [e2] at b4
    omega
theorem shr_b {ps : Ps} (h : Pu ps) {part whole : Int} (h1 : 0 ≤ part) (h2 : part ≤ 10 ^ 100) (h3 : 0 ≤ whole) (h4 : whole ≤ 10 ^ 100) : (0 ≤ (shr ps part whole).1 ∧ (shr ps part whole).1 ≤ 10 ^ 242) ∧ 0 ≤ (shr ps part whole).2 ∧ (shr ps part whole).2 ≤ 10 ^ 242 := by
  obtain ⟨q1, q2⟩ := h.tot
  have b := mul_le h3 h4 q1 q2
  rw [p10] at b
  unfold shr
  split
  · exact ⟨⟨h1, Int.le_trans h2 (p10_le (by decide))⟩, h3, Int.le_trans h4 (p10_le (by decide))⟩
  · obtain ⟨g1, g2⟩ := shF_b (pp := part * ppl ps) h3 ps 0 0 h.fin (Int.le_refl _)
    exact ⟨⟨g1, by simpa using Int.le_trans g2 (by simpa using b.2)⟩, b.1, b.2⟩
theorem ok_ {a b : Int} {x y : Nat} (a1 : 0 ≤ a) (a2 : a ≤ 10 ^ x) (b1 : 0 ≤ b) (b2 : b ≤ 10 ^ y) (hx : x ≤ 1000 ∧ y ≤ 1000) : mulOk a b := mulOk_n a1 (Int.le_trans a2 (p10_le hx.1)) b1 (Int.le_trans b2 (p10_le hx.2))
theorem c_lower {T : Nat → Option Def} (hT : Sub [48] T) (k : Nat) (ps : Ps) (part whole : Int) (m : Mem) (h : Pu ps) (h1 : 0 ≤ part) (h2 : part ≤ 10 ^ 100) (h3 : 0 ≤ whole) (h4 : whole ≤ 10 ^ 100) :
    callF T (k + 1) 48 [.d (kds ps), .d (.int part), .d (.int whole)] m = .ok (.d (.tup [.int (low ps part whole).1, .int (low ps part whole).2])) m := by
  refine (callT hT k 48 _ m ⟨3, 10, a_law_lower_48, false⟩).trans ?_
  unfold a_law_lower_48
  walk_at "ev"
  rw [lc_map (β := Unit) (f := prD) (g := fun p => .int p.2) ps m fun p _ m => rfl]
  walk_at "ev"
  rw [ints_map]
  walk_at "ev"
  rw [lc_map (β := Unit) (f := prD) (g := fun p => .int (p.1 * p.2)) ps m fun p hp m => by
    obtain ⟨h1, h2, h3, h4⟩ := h.fin p hp
    simp only [prD]
    walk_at "ev"
    rw [if_pos (ok_ h1 h2 h3 h4 (by decide))]
    walk_at "ev"]
  walk_at "ev"
  rw [ints_map]
  walk_at "ev"
  have ep : (ps.map fun p => p.2).sum = ppl ps := rfl
  have et : (ps.map fun p => p.1 * p.2).sum = tot ps := rfl
  rw [ep, et]
  by_cases h0 : tot ps = 0
  · simp only [h0, decide_true]
    walk_at "ev"
    unfold low
    rw [if_pos h0]
  · simp only [h0, decide_false]
    walk_at "ev"
    obtain ⟨q1, q2⟩ := h.ppl
    obtain ⟨q3, q4⟩ := h.tot
    have b := mul_le h1 h2 q1 q2
    rw [p10] at b
    rw [if_pos (ok_ h1 h2 q1 q2 (by decide))]
    walk_at "ev"
    obtain ⟨e1, e2⟩ := for_fold (m0 := m) (f := prD) (b := forB (callF T k) (.tp (.cons (.nm 3) (.cons (.nm 4) .nil))) (.cons (.asg (.nm 9) (.blt .min (.cons (.var 7) (.cons (.bin .mul (.var 4) (.var 2)) .nil)))) (.cons (.par [7, 8] (.cons (.bin .sub (.var 7) (.var 9)) (.cons (.bin .add (.var 8) (.bin .mul (.var 9) (.var 3))) .nil))) .nil)))
      (fun s : Int × Int × Option U × Option U × Option U => [some (.d (kds ps)), some (.d (.int part)), some (.d (.int whole)), s.2.2.1, s.2.2.2.1, some (.d (.int (ppl ps))), some (.d (.int (tot ps))), some (.d (.int s.1)), some (.d (.int s.2.1)), s.2.2.2.2])
      (fun s p => ((loF whole (s.1, s.2.1) p).1, (loF whole (s.1, s.2.1) p).2, some (.d (.int p.1)), some (.d (.int p.2)), some (.d (.int (mn s.1 (p.2 * whole)))))) (fun r s => 0 ≤ s.1 ∧ s.1 ≤ 10 ^ 182) ps (part * ppl ps, 0, none, none, none) m b fun s p r m hp hs => by
        obtain ⟨hs1, hs2⟩ := hs
        obtain ⟨g1, g2, g3, g4⟩ := h.fin p (hp.mem List.mem_cons_self)
        have b1 : 0 ≤ p.2 * whole := Int.mul_nonneg g3 h3
        obtain ⟨b2, b3⟩ := mn_b hs1 b1
        refine ⟨?_, by simp only [loF]; omega, by simp only [loF]; omega⟩
        simp only [prD]
        walk_at "ev"
        rw [if_pos (ok_ g3 g4 h3 h4 (by decide))]
        walk_at "ev"
        rw [if_pos (ok_ b2 (Int.le_trans b3 hs2) g1 g2 (by decide))]
        walk_at "ev"
        rfl
    rw [e1]
    walk_at "ev"
    rw [if_pos (ok_ q3 q4 h3 h4 (by decide))]
    walk_at "ev"
    unfold low
    rw [if_neg h0]
    have go : ∀ (l : Ps) (s : Int × Int) (t : Option U × Option U × Option U), (l.foldl (fun (s : Int × Int × Option U × Option U × Option U) p => ((loF whole (s.1, s.2.1) p).1, (loF whole (s.1, s.2.1) p).2, some (.d (.int p.1)), some (.d (.int p.2)), some (.d (.int (mn s.1 (p.2 * whole)))))) (s.1, s.2, t)).2.1 = (l.foldl (loF whole) s).2 := by
      intro l
      induction l with
      | nil => intro s t; rfl
      | cons p l ih => intro s t; rw [List.foldl_cons, List.foldl_cons]; exact ih (loF whole s p) _
    rw [go ps (part * ppl ps, 0) (none, none, none)]
def les (ps qs : Ps) (p q : Int) : Bool := decide ((shr ps p q).1 * (shr qs p q).2 < (shr qs p q).1 * (shr ps p q).2)
theorem c_lawless {T : Nat → Option Def} (hT : Sub [48, 49] T) (k : Nat) (ps qs : Ps) (part whole : Int) (m : Mem) (h : Pu ps) (g : Pu qs) (h1 : 0 ≤ part) (h2 : part ≤ 10 ^ 100) (h3 : 0 ≤ whole) (h4 : whole ≤ 10 ^ 100) :
    callF T (k + 2) 49 [.d (kds ps), .d (kds qs), .d (.int part), .d (.int whole)] m = .ok (.d (.bl (les ps qs part whole))) m := by
  refine (callT hT (k + 1) 49 _ m ⟨4, 6, a_law_is_less_49, false⟩).trans ?_
  unfold a_law_is_less_49
  obtain ⟨⟨a1, a2⟩, a3, a4⟩ := shr_b h h1 h2 h3 h4
  obtain ⟨⟨b1, b2⟩, b3, b4⟩ := shr_b g h1 h2 h3 h4
  walk_at "ev"
  rw [c_lower hT.mono k ps part whole m h h1 h2 h3 h4, low_shr h h1 h3]
  walk_at "ev"
  rw [c_lower hT.mono k qs part whole m g h1 h2 h3 h4, low_shr g h1 h3]
  walk_at "ev"
  rw [if_pos (ok_ a1 a2 b3 b4 (by decide))]
  walk_at "ev"
  rw [if_pos (ok_ b1 b2 a3 a4 (by decide))]
  walk_at "ev"
  rfl
end DL
set_option linter.all false
set_option maxRecDepth 100000
set_option maxHeartbeats 4000000
set_option exponentiation.threshold 10000
namespace DL
open PySem L2 TL
local macro_rules | `(tactic| walk_at "ev") => `(tactic| try simp (config := {decide := true}) only [x_asg, x_par, x_aug, x_expr, x_app, x_ite, x_for, x_ret, x_retN, x_brk, x_cont, x_pass, x_nil, x_cons, e_var, e_cst, e_glb, e_tup, e_lst, e_nlst, e_ndic, e_ddic, e_bin, e_neg, e_cmp, e_ch, e_conj, e_disj, e_inv, e_ife, e_idx, e_to, e_fr, e_slen, e_sidx, e_sto, e_call, e_calk, e_blt, e_isi, e_mth, e_sit, e_lc, es_nil, es_cons, cj_nil, cj_last, cj_two, i_seq, i_rng, i_enum, t_nm, t_sub, t_tp, ts_nil, ts_cons, fB, lB, k_nx, k_asg, k_par, k_aug, k_expr, k_app2, k_app, k_b, k_ite, k_for, k_ret, k_seq, k_tup, k_lst, k_nlst, k_bin2, k_bin, k_neg, k_cmp2, k_cmp, k_ch3, k_ch2, k_ch, k_bl, k_inv, k_ife, k_idx2, k_idx, k_to2, k_to, k_fr2, k_fr, k_call, k_calk, k_blt, k_isi, k_mth2, k_mth, k_sit, k_lc2, k_lc, k_slen, k_sidx2, k_sidx, k_sto2, k_sto, k_c2, k_c, k_cj, k_seqI, k_rng, k_enum, k_sub3, k_sub, k_ts, k_fB, k_lB3, k_lB2, k_lB, R.bind_ok, R.bind_no, ofO_some, ofO_none, Option.map_some, Option.map_none, startE, List.map_cons, List.map_nil, List.length_cons, List.length_nil, List.cons_append, List.nil_append, List.append_nil, List.replicate, Nat.reduceAdd, Nat.reduceSub, List.getElem?_cons_zero, List.getElem?_cons_succ, if_true, if_false, Bool.not_true, Bool.not_false, List.set_cons_zero, List.set_cons_succ, List.set_set, wipeE, o_add, o_sub, o_mul, o_fdiv, o_mod, o_pow, o_addS, o_addT, o_addL, o_lt, o_le, o_gt, o_ge, o_eq, o_ne, o_eqS, o_neS, o_isN, o_isnN, o_len, o_lenT, o_lenS, o_int, o_abs, o_min, o_max, o_divmod, o_str, o_tuple, o_sum, o_all, o_repr, o_idxT, o_idxL, at0, at1, at2, ix30, ix31, ix32, c_d, c_n, p_nil, p_cons, s_d, s_n, asB_b, i_tT, i_ii, i_bi, i_ss, q_T, q_L, sq_T, sq_L, List.take_length, decide_true, decide_false])
section
variable {m : Mem}
theorem o_inS {c : Nat} {t : List Nat} : cmpD m .isin (.d (.str [c])) (.d (.str t)) = some (decide (c ∈ t)) := rfl
theorem o_sw {s t : List Nat} : mthD m .startswith (.d (.str s)) (.d (.str t)) = some (.bl (Txt.startswith (str0 s) (str0 t))) := rfl
theorem o_spl {s t : List Nat} : mthD m .split (.d (.str s)) (.d (.str t)) = if t ≠ [] ∧ s.length + 2 ≤ 16777216 then some (.lst (splitD s t)) else none := rfl
theorem o_intS {s : List Nat} : bltD m .int [.d (.str s)] = if s.length ≤ 640 then (PySem.intText? (str0 s)).map .int else none := rfl
theorem q_S {s : List Nat} : seqIt m (.d (.str s)) = if s.length ≤ 16777216 then some (s.map fun c => .str [c], none) else none := rfl
end
theorem digs_num (n : Nat) : digs (n : Int) = numL n := tl_num n
theorem str0_num (n : Nat) : str0 (numL n) = Str.ofString (toString (n : Int)) := by rw [← digs_num, ← str_digs]
theorem sw_one {a c : Nat} {r : List Nat} (h : a ≠ c) : Txt.startswith (str0 (a :: r)) (str0 [c]) = false := by
  have e : (⟨#[c]⟩ : Str).length = 1 := rfl
  simp [Txt.startswith, Builtin.Str.subAt, str0, e, h]
theorem c_readnum {T : Nat → Option Def} (hT : Sub [2] T) (k : Nat) (n : Nat) (m : Mem) (h : n < 10 ^ 80) : callF T (k + 1) 2 [.d (.str (numL n))] m = .ok (.d (.int n)) m := by
  refine (callT hT k 2 _ m ⟨1, 4, a_read_number_2, false⟩).trans ?_
  unfold a_read_number_2
  have hl : (numL n).length ≤ 80 := numL_len (by decide) h
  have hd := numL_digits n
  have hs : Txt.startswith (str0 (numL n)) (str0 [45]) = false := by
    have hne := numL_ne n
    cases q : numL n with
    | nil => exact absurd q hne
    | cons a r =>
      refine sw_one ?_
      have := hd a (by rw [q]; exact List.mem_cons_self)
      omega
  have hne : (numL n == ([] : List Nat)) = false := by
    rw [beq_eq_false_iff_ne]; exact numL_ne n
  walk_at "ev"
  rw [o_sw, hs]
  walk_at "ev"
  rw [hne]
  walk_at "ev"
  rw [if_pos (by omega)]
  walk_at "ev"
  have c1 : decide ((80 : Int) < ((numL n).length : Int)) = false := by rw [decide_eq_false_iff_not]; omega
  rw [c1]
  walk_at "ev"
  rw [q_S, if_pos (by omega)]
  walk_at "ev"
  rw [lc_map (β := Unit) (f := fun c => .str [c]) (g := fun _ => .bl true) (numL n) m fun c hc m => by
    walk_at "ev"
    have h1 := hd c hc
    rw [o_inS]
    walk_at "ev"
    have : decide (c ∈ [48, 49, 50, 51, 52, 53, 54, 55, 56, 57]) = true := by
      rw [decide_eq_true_eq]
      simp only [List.mem_cons, List.not_mem_nil, or_false]
      omega
    rw [this]]
  walk_at "ev"
  have hb : ∀ l : List Nat, (boolsD (l.map fun _ => .bl true)).map (fun bs => D.bl (bs.all id)) = some (.bl true) := by
    intro l
    have : boolsD (l.map fun _ => D.bl true) = some (l.map fun _ => true) := by
      induction l with
      | nil => rfl
      | cons a l ih => simp only [List.map_cons, boolsD, ih, Option.map_some]
    rw [this]
    simp
  rw [hb]
  walk_at "ev"
  rw [o_intS, if_pos (by omega), str0_num, int_num (by omega)]
  walk_at "ev"
  have so : strOk (n : Int) := by
    unfold strOk
    have : ((n : Int)).natAbs = n := Int.natAbs_natCast n
    rw [this]
    have e : (10 : Nat) ^ 80 ≤ 2 ^ 1900 := by decide +kernel
    refine Nat.lt_of_lt_of_le (m := 1901) ?_ (by decide)
    have h2 : n < 2 ^ 1901 := Nat.lt_of_lt_of_le h (Nat.le_trans e (Nat.pow_le_pow_right (by decide) (by decide)))
    by_cases h0 : n = 0
    · rw [h0]; decide
    · exact (Nat.log2_lt h0).mpr h2
  rw [if_pos so]
  walk_at "ev"
  rw [digs_num, beq_self_eq_true]
  walk_at "ev"
/-- the text of one kind -/
def line1 (p : Int × Int) : List Nat := numL p.2.toNat ++ [32, 111, 102, 32] ++ numL p.1.toNat
theorem split_D {sep : Nat} (hs : sep < 256) {parts : List (List Nat)} (hne : parts ≠ []) (hp : ∀ p ∈ parts, sep ∉ p) : splitD (DL.joinL [sep] parts) [sep] = parts.map .str := by
  unfold splitD
  have e : Txt.join (str0 [sep]) (parts.map str0) = str0 (DL.joinL [sep] parts) := by rw [join_eq, join_str0]
  rw [← e, split_join (y := str0 [sep]) (s := sep) (S := []) rfl (by simp [str0, hs]) (by simpa using hne) (fun p hp' => by
    obtain ⟨q, hq, rfl⟩ := List.mem_map.mp hp'
    exact hp q hq)]
  rw [List.map_map]
  apply List.map_congr_left
  intro q hq
  simp [str0]
theorem num_free {n c : Nat} (h : c < 48 ∨ 57 < c) : c ∉ numL n := numL_free h
theorem split_line (p : Int × Int) : splitD (line1 p) [32] = [.str (numL p.2.toNat), .str [111, 102], .str (numL p.1.toNat)] := by
  have := split_D (sep := 32) (by decide) (parts := [numL p.2.toNat, [111, 102], numL p.1.toNat]) (by simp) (fun q hq => by
    rcases List.mem_cons.mp hq with rfl | hq
    · exact num_free (by decide)
    · rcases List.mem_cons.mp hq with rfl | hq
      · decide
      · rw [List.mem_singleton.mp hq]; exact num_free (by decide))
  rw [List.map_cons, List.map_cons, List.map_cons, List.map_nil] at this
  rw [← this]
  congr 1
  simp [line1, DL.joinL]
theorem line_len {p : Int × Int} (h1 : p.1.toNat < 10 ^ 80) (h2 : p.2.toNat < 10 ^ 80) : (line1 p).length ≤ 200 := by
  have a := numL_len (n := p.1.toNat) (k := 80) (by decide) h1
  have b := numL_len (n := p.2.toNat) (k := 80) (by decide) h2
  simp [line1]; omega
theorem c_readkind {T : Nat → Option Def} (hT : Sub [2, 16] T) (k : Nat) (p : Int × Int) (m : Mem) (h1 : 0 ≤ p.1) (h2 : p.1 < 10 ^ 80) (h3 : 0 ≤ p.2) (h4 : p.2 < 10 ^ 80) : callF T (k + 2) 16 [.d (.str (line1 p))] m = .ok (.d (prD p)) m := by
  refine (callT hT (k + 1) 16 _ m ⟨1, 2, a_read_kind_16, false⟩).trans ?_
  unfold a_read_kind_16
  have n1 : p.1.toNat < 10 ^ 80 := by have : ((10 ^ 80 : Nat) : Int) = (10 : Int) ^ 80 := by norm_cast
                                      omega
  have n2 : p.2.toNat < 10 ^ 80 := by have : ((10 ^ 80 : Nat) : Int) = (10 : Int) ^ 80 := by norm_cast
                                      omega
  have hl := line_len n1 n2
  walk_at "ev"
  rw [o_spl, if_pos ⟨by simp, by omega⟩, split_line]
  walk_at "ev"
  have e1 : (([111, 102] : List Nat) == [111, 102]) = true := rfl
  (try rw [e1])
  walk_at "ev"
  rw [c_readnum hT.mono k _ m n1]
  walk_at "ev"
  rw [c_readnum hT.mono k _ m n2]
  walk_at "ev"
  simp only [prD]
  rw [Int.toNat_of_nonneg h1, Int.toNat_of_nonneg h3]
end DL
set_option linter.all false
set_option maxRecDepth 100000
set_option maxHeartbeats 4000000
set_option exponentiation.threshold 10000
namespace DL
open PySem L2 TL
local macro_rules | `(tactic| walk_at "ev") => `(tactic| try simp (config := {decide := true}) only [x_asg, x_par, x_aug, x_expr, x_app, x_ite, x_for, x_ret, x_retN, x_brk, x_cont, x_pass, x_nil, x_cons, e_var, e_cst, e_glb, e_tup, e_lst, e_nlst, e_ndic, e_ddic, e_bin, e_neg, e_cmp, e_ch, e_conj, e_disj, e_inv, e_ife, e_idx, e_to, e_fr, e_slen, e_sidx, e_sto, e_call, e_calk, e_blt, e_isi, e_mth, e_sit, e_lc, es_nil, es_cons, cj_nil, cj_last, cj_two, i_seq, i_rng, i_enum, t_nm, t_sub, t_tp, ts_nil, ts_cons, fB, lB, k_nx, k_asg, k_par, k_aug, k_expr, k_app2, k_app, k_b, k_ite, k_for, k_ret, k_seq, k_tup, k_lst, k_nlst, k_bin2, k_bin, k_neg, k_cmp2, k_cmp, k_ch3, k_ch2, k_ch, k_bl, k_inv, k_ife, k_idx2, k_idx, k_to2, k_to, k_fr2, k_fr, k_call, k_calk, k_blt, k_isi, k_mth2, k_mth, k_sit, k_lc2, k_lc, k_slen, k_sidx2, k_sidx, k_sto2, k_sto, k_c2, k_c, k_cj, k_seqI, k_rng, k_enum, k_sub3, k_sub, k_ts, k_fB, k_lB3, k_lB2, k_lB, R.bind_ok, R.bind_no, ofO_some, ofO_none, Option.map_some, Option.map_none, startE, List.map_cons, List.map_nil, List.length_cons, List.length_nil, List.cons_append, List.nil_append, List.append_nil, List.replicate, Nat.reduceAdd, Nat.reduceSub, List.getElem?_cons_zero, List.getElem?_cons_succ, if_true, if_false, Bool.not_true, Bool.not_false, List.set_cons_zero, List.set_cons_succ, List.set_set, wipeE, o_add, o_sub, o_mul, o_fdiv, o_mod, o_pow, o_addS, o_addT, o_addL, o_lt, o_le, o_gt, o_ge, o_eq, o_ne, o_eqS, o_neS, o_isN, o_isnN, o_len, o_lenT, o_lenS, o_int, o_abs, o_min, o_max, o_divmod, o_str, o_tuple, o_sum, o_all, o_repr, o_idxT, o_idxL, at0, at1, at2, ix30, ix31, ix32, c_d, c_n, p_nil, p_cons, s_d, s_n, asB_b, i_tT, i_ii, i_bi, i_ss, q_T, q_L, sq_T, sq_L, List.take_length, decide_true, decide_false])
structure Va (ps : Ps) : Prop where
  ne : ps ≠ []
  ln : ps.length ≤ 30
  so : ps.Pairwise (fun p q => p.1 < q.1)
  bd : ∀ p ∈ ps, 0 ≤ p.1 ∧ p.1 ≤ 10 ^ 36 ∧ 1 ≤ p.2 ∧ p.2 ≤ 10 ^ 72
theorem Va.pu {ps : Ps} (h : Va ps) : Pu ps := ⟨h.ln, fun p hp => by
  obtain ⟨a, b, c, d⟩ := h.bd p hp
  exact ⟨a, Int.le_trans b (p10_le (by decide)), by omega, Int.le_trans d (p10_le (by decide))⟩⟩
theorem Va.sm {ps : Ps} (h : Va ps) {p : Int × Int} (hp : p ∈ ps) : p.1 < 10 ^ 80 ∧ p.2 < 10 ^ 80 ∧ p.1.toNat < 10 ^ 80 ∧ p.2.toNat < 10 ^ 80 := by
  obtain ⟨a, b, c, d⟩ := h.bd p hp
  have e : ((10 ^ 80 : Nat) : Int) = (10 : Int) ^ 80 := by norm_cast
  have e1 : (10 : Int) ^ 36 < 10 ^ 80 := by decide +kernel
  have e2 : (10 : Int) ^ 72 < 10 ^ 80 := by decide +kernel
  omega
theorem strOk_n {n : Int} (h1 : 0 ≤ n) (h2 : n < 10 ^ 80) : strOk n := by
  unfold strOk
  have h : n.natAbs < 10 ^ 80 := by
    have e : ((10 ^ 80 : Nat) : Int) = (10 : Int) ^ 80 := by norm_cast
    omega
  have e : (10 : Nat) ^ 80 ≤ 2 ^ 1900 := by decide +kernel
  refine Nat.lt_of_lt_of_le (m := 1901) ?_ (by decide)
  have h2 : n.natAbs < 2 ^ 1901 := Nat.lt_of_lt_of_le h (Nat.le_trans e (Nat.pow_le_pow_right (by decide) (by decide)))
  by_cases h0 : n.natAbs = 0
  · rw [h0]; decide
  · exact (Nat.log2_lt h0).mpr h2
theorem digs_nn {n : Int} (h : 0 ≤ n) : digs n = numL n.toNat := by
  have := digs_num n.toNat
  rw [Int.toNat_of_nonneg h] at this
  exact this
/-- the text of a purse -/
def txt (ps : Ps) : List Nat := DL.joinL [10] (ps.map line1)
theorem strs_map {α : Type} (f : α → List Nat) : ∀ l : List α, strsD (l.map fun p => .str (f p)) = some (l.map f)
  | [] => rfl
  | x :: l => by simp [strsD, strs_map f l]
theorem sum_len {f : Int × Int → Nat} {c : Nat} : ∀ {ps : Ps}, (∀ p ∈ ps, f p ≤ c) → (ps.map f).sum ≤ ps.length * c
  | [], h => by simp
  | p :: ps, h => by
    have h1 := h p List.mem_cons_self
    have h2 := sum_len fun q hq => h q (List.mem_cons_of_mem _ hq)
    rw [List.map_cons, List.sum_cons, List.length_cons, Nat.add_mul]
    omega
theorem c_lines {T : Nat → Option Def} (hT : Sub [47] T) (k : Nat) (ps : Ps) (m : Mem) (h : Va ps) : callF T (k + 1) 47 [.d (kds ps)] m = .ok (.d (.str (txt ps))) m := by
  refine (callT hT k 47 _ m ⟨1, 3, a_law_lines_47, false⟩).trans ?_
  unfold a_law_lines_47
  walk_at "ev"
  rw [lc_map (β := Unit) (f := prD) (g := fun p => .str (line1 p)) ps m fun p hp m => by
    obtain ⟨a, b, c, d⟩ := h.bd p hp
    obtain ⟨s1, s2, s3, s4⟩ := h.sm hp
    have l1 := numL_len (n := p.1.toNat) (k := 80) (by decide) s3
    have l2 := numL_len (n := p.2.toNat) (k := 80) (by decide) s4
    simp only [prD]
    walk_at "ev"
    rw [if_pos (strOk_n (by omega) s2), digs_nn (n := p.2) (by omega)]
    walk_at "ev"
    rw [if_pos (by omega)]
    walk_at "ev"
    rw [if_pos (strOk_n a s1), digs_nn a]
    walk_at "ev"
    rw [if_pos (by simp; omega)]
    walk_at "ev"
    rfl]
  walk_at "ev"
  simp only [mthD, sq_L, strs_map]
  rw [if_pos (by
    rw [List.map_map]
    have := sum_len (f := fun p => (line1 p).length + 1) (c := 201) (ps := ps) fun p hp => by
      obtain ⟨s1, s2, s3, s4⟩ := h.sm hp
      have := line_len s3 s4
      omega
    have hl := h.ln
    refine Nat.le_trans this ?_
    have : ps.length * 201 ≤ 30 * 201 := Nat.mul_le_mul_right _ hl
    omega)]
  walk_at "ev"
  rfl
theorem c_iskind {T : Nat → Option Def} (hT : Sub [0, 1, 13] T) (k : Nat) (p : Int × Int) (b : Int) (m : Mem) (h1 : b < p.1) (h2 : p.1 ≤ 10 ^ 36) (h3 : 1 ≤ p.2) (h4 : p.2 ≤ 10 ^ 72) : callF T (k + 3) 13 [.d (prD p), .d (.int b), .d (.int (10 ^ 36))] m = .ok (.d (.bl true)) m := by
  refine (callT hT (k + 2) 13 _ m ⟨3, 3, a_is_kind_13, false⟩).trans ?_
  unfold a_is_kind_13
  simp only [prD]
  walk_at "ev"
  rw [c_within hT.mono k (.int p.1) _ _ m rfl]
  have e1 : inI (b + 1) (10 ^ 36) (.int p.1) = true := by
    show (decide (b + 1 ≤ p.1) && decide (p.1 ≤ 10 ^ 36)) = true
    rw [decide_eq_true (by omega), decide_eq_true h2]; rfl
  rw [e1]
  walk_at "ev"
  rw [c_within hT.mono k (.int p.2) _ _ m rfl]
  have e2 : inI 1 1000000000000000000000000000000000000000000000000000000000000000000000000 (.int p.2) = true := by
    have : (10 : Int) ^ 72 = 1000000000000000000000000000000000000000000000000000000000000000000000000 := by decide +kernel
    show (decide (1 ≤ p.2) && decide (p.2 ≤ 1000000000000000000000000000000000000000000000000000000000000000000000000)) = true
    rw [decide_eq_true h3, decide_eq_true (by rw [← this]; exact h4)]; rfl
  rw [e2]
  walk_at "ev"
theorem num_ps (ps : Ps) : numbered (ps.map prD) = ps.zipIdx.map fun q => .tup [.int (q.2 : Int), prD q.1] := by
  unfold numbered
  rw [List.zipIdx_map, List.map_map]
  rfl
theorem zip_pw {ps : Ps} {n : Nat} (h : ps.Pairwise (fun p q => p.1 < q.1)) : (ps.zipIdx n).Pairwise (fun a b => a.1.1 < b.1.1) := by
  induction ps generalizing n with
  | nil => exact .nil
  | cons p ps ih =>
    rw [List.pairwise_cons] at h
    rw [List.zipIdx_cons, List.pairwise_cons]
    refine ⟨fun q hq => h.1 q.1 ?_, ih h.2⟩
    exact (List.mem_zipIdx hq).2.2 ▸ List.getElem_mem _
theorem c_wrongkind {T : Nat → Option Def} (hT : Sub [0, 1, 13, 14] T) (k : Nat) (ps : Ps) (m : Mem) (h : Va ps) : callF T (k + 4) 14 [.d (kds ps), .d (.int (10 ^ 36))] m = .ok (.d .non) m := by
  refine (callT hT (k + 3) 14 _ m ⟨2, 5, a_wrong_kind_14, false⟩).trans ?_
  unfold a_wrong_kind_14
  walk_at "ev"
  have cg : cellG (.d (kds ps)) = none := rfl
  rw [cg, num_ps]
  obtain ⟨e1, e2⟩ := for_fold (m0 := m) (f := fun q : (Int × Int) × Nat => .tup [.int (q.2 : Int), prD q.1]) (b := forB (callF T (k + 3)) (.tp (.cons (.nm 3) (.cons (.nm 4) .nil))) (.cons (.ite (.disj (.cons (.inv (.call 13 (.cons (.var 4) (.cons (.var 2) (.cons (.var 1) .nil))) [])) (.cons (.cmp .ge (.var 3) (.glb (.int 30))) .nil))) (.cons (.ret (.var 3)) .nil) .nil) (.cons (.asg (.nm 2) (.idx (.var 4) (.cst (.int 0)))) .nil)))
      (fun s : Int × Option U × Option U => [some (.d (kds ps)), some (.d (.int (10 ^ 36))), some (.d (.int s.1)), s.2.1, s.2.2])
      (fun s q => (q.1.1, some (.d (.int (q.2 : Int))), some (.d (prD q.1)))) (fun r s => r.Pairwise (fun a b => a.1.1 < b.1.1) ∧ ∀ q ∈ r, s.1 < q.1.1) ps.zipIdx (-1, none, none) m
      ⟨zip_pw h.so, fun q hq => by
        have := (h.bd q.1 ((List.mem_zipIdx hq).2.2 ▸ List.getElem_mem _)).1
        show (-1 : Int) < _
        omega⟩ fun s q r m hq hs => by
        have hm := hq.mem List.mem_cons_self
        obtain ⟨z1, z2, z3⟩ := List.mem_zipIdx hm
        have hb := h.bd q.1 (z3 ▸ List.getElem_mem _)
        obtain ⟨a, b, c, d⟩ := hb
        obtain ⟨p1, p2⟩ := hs
        rw [List.pairwise_cons] at p1
        refine ⟨?_, p1.2, fun q' hq' => p1.1 q' hq'⟩
        walk_at "ev"
        rw [c_iskind hT.mono k q.1 s.1 m (p2 q List.mem_cons_self) b c d]
        walk_at "ev"
        have hl := h.ln
        have e : decide ((30 : Int) ≤ (q.2 : Int)) = false := by rw [decide_eq_false_iff_not]; omega
        rw [e]
        walk_at "ev"
        simp only [prD]
        walk_at "ev"
  rw [e1]
  walk_at "ev"
theorem c_arekinds {T : Nat → Option Def} (hT : Sub [0, 1, 13, 14, 15] T) (k : Nat) (ps : Ps) (m : Mem) (h : Va ps) : callF T (k + 5) 15 [.d (kds ps), .d (.int (10 ^ 36))] m = .ok (.d (.bl true)) m := by
  refine (callT hT (k + 4) 15 _ m ⟨2, 2, a_are_kinds_15, false⟩).trans ?_
  unfold a_are_kinds_15
  walk_at "ev"
  have e : decide ((0 : Int) < ((ps.map prD).length : Int)) = true := by
    rw [decide_eq_true_eq, List.length_map]
    have := List.length_pos_iff.mpr h.ne
    omega
  rw [e]
  walk_at "ev"
  rw [c_wrongkind hT.mono k ps m h]
  walk_at "ev"
theorem txt_len {ps : Ps} (h : Va ps) : (txt ps).length + 2 ≤ 16777216 := by
  have aux : ∀ (l : List (List Nat)), (∀ x ∈ l, x.length ≤ 200) → (DL.joinL [10] l).length ≤ l.length * 201 := by
    intro l
    induction l with
    | nil => intro _; simp [DL.joinL]
    | cons x l ih =>
      intro hx
      have h1 := hx x List.mem_cons_self
      have h2 := ih fun y hy => hx y (List.mem_cons_of_mem _ hy)
      cases l with
      | nil => simp [DL.joinL]; omega
      | cons y l =>
        simp only [DL.joinL, List.length_append, List.length_cons, List.length_nil] at h2 ⊢
        omega
  have := aux (ps.map line1) fun x hx => by
    obtain ⟨p, hp, rfl⟩ := List.mem_map.mp hx
    obtain ⟨s1, s2, s3, s4⟩ := h.sm hp
    exact line_len s3 s4
  rw [List.length_map] at this
  have hl := h.ln
  unfold txt
  have : ps.length * 201 ≤ 30 * 201 := Nat.mul_le_mul_right _ hl
  omega
theorem split_txt {ps : Ps} (h : Va ps) : splitD (txt ps) [10] = ps.map fun p => .str (line1 p) := by
  unfold txt
  rw [split_D (sep := 10) (by decide) (by simpa using h.ne) (fun q hq => by
    obtain ⟨p, hp, rfl⟩ := List.mem_map.mp hq
    unfold line1
    intro hm
    rcases List.mem_append.mp hm with hm | hm
    · rcases List.mem_append.mp hm with hm | hm
      · exact num_free (by decide) hm
      · revert hm; decide
    · exact num_free (by decide) hm), List.map_map]
  rfl
theorem c_readpurse {T : Nat → Option Def} (hT : Sub [0, 1, 2, 13, 14, 15, 16, 17] T) (k : Nat) (ps : Ps) (m : Mem) (h : Va ps) : callF T (k + 6) 17 [.d (.str (txt ps))] m = .ok (.d (kds ps)) m := by
  refine (callT hT (k + 5) 17 _ m ⟨1, 3, a_read_purse_17, false⟩).trans ?_
  unfold a_read_purse_17
  walk_at "ev"
  rw [o_spl, if_pos ⟨by simp, txt_len h⟩, split_txt h]
  walk_at "ev"
  rw [lc_map (β := Unit) (f := fun p => .str (line1 p)) (g := prD) ps m fun p hp m => by
    obtain ⟨a, b, c, d⟩ := h.bd p hp
    obtain ⟨s1, s2, s3, s4⟩ := h.sm hp
    walk_at "ev"
    rw [c_readkind hT.mono (k + 3) p m a s1 (by omega) s2]
    walk_at "ev"]
  walk_at "ev"
  have e : (1000000000000000000000000000000000000 : Int) = 10 ^ 36 := by decide +kernel
  rw [e, c_arekinds hT.mono k ps m h]
  walk_at "ev"
end DL
set_option linter.all false
set_option maxRecDepth 100000
set_option maxHeartbeats 4000000
set_option exponentiation.threshold 10000
namespace DL
open PySem L2 TL
local macro_rules | `(tactic| walk_at "ev") => `(tactic| try simp (config := {decide := true}) only [x_asg, x_par, x_aug, x_expr, x_app, x_ite, x_for, x_ret, x_retN, x_brk, x_cont, x_pass, x_nil, x_cons, e_var, e_cst, e_glb, e_tup, e_lst, e_nlst, e_ndic, e_ddic, e_bin, e_neg, e_cmp, e_ch, e_conj, e_disj, e_inv, e_ife, e_idx, e_to, e_fr, e_slen, e_sidx, e_sto, e_call, e_calk, e_blt, e_isi, e_mth, e_sit, e_lc, es_nil, es_cons, cj_nil, cj_last, cj_two, i_seq, i_rng, i_enum, t_nm, t_sub, t_tp, ts_nil, ts_cons, fB, lB, k_nx, k_asg, k_par, k_aug, k_expr, k_app2, k_app, k_b, k_ite, k_for, k_ret, k_seq, k_tup, k_lst, k_nlst, k_bin2, k_bin, k_neg, k_cmp2, k_cmp, k_ch3, k_ch2, k_ch, k_bl, k_inv, k_ife, k_idx2, k_idx, k_to2, k_to, k_fr2, k_fr, k_call, k_calk, k_blt, k_isi, k_mth2, k_mth, k_sit, k_lc2, k_lc, k_slen, k_sidx2, k_sidx, k_sto2, k_sto, k_c2, k_c, k_cj, k_seqI, k_rng, k_enum, k_sub3, k_sub, k_ts, k_fB, k_lB3, k_lB2, k_lB, R.bind_ok, R.bind_no, ofO_some, ofO_none, Option.map_some, Option.map_none, startE, List.map_cons, List.map_nil, List.length_cons, List.length_nil, List.cons_append, List.nil_append, List.append_nil, List.replicate, Nat.reduceAdd, Nat.reduceSub, List.getElem?_cons_zero, List.getElem?_cons_succ, if_true, if_false, Bool.not_true, Bool.not_false, List.set_cons_zero, List.set_cons_succ, List.set_set, wipeE, o_add, o_sub, o_mul, o_fdiv, o_mod, o_pow, o_addS, o_addT, o_addL, o_lt, o_le, o_gt, o_ge, o_eq, o_ne, o_eqS, o_neS, o_isN, o_isnN, o_len, o_lenT, o_lenS, o_int, o_abs, o_min, o_max, o_divmod, o_str, o_tuple, o_sum, o_all, o_repr, o_idxT, o_idxL, at0, at1, at2, ix30, ix31, ix32, c_d, c_n, p_nil, p_cons, s_d, s_n, asB_b, i_tT, i_ii, i_bi, i_ss, q_T, q_L, sq_T, sq_L, List.take_length, decide_true, decide_false])
theorem rep2 (b : Bool) : ∃ s, reprD (.lst [.bl b, .bl b]) = some (.str s) := by
  cases b
  · exact ⟨_, rfl⟩
  · exact ⟨_, rfl⟩
theorem c_same2 {T : Nat → Option Def} (hT : Sub [53] T) (k : Nat) (b : Bool) (m : Mem) : callF T (k + 1) 53 [.d (.lst [.bl b, .bl b]), .d (.lst [.bl b, .bl b])] m = .ok (.d (.bl true)) m := by
  refine (callT hT k 53 _ m ⟨2, 2, a_law_same_53, false⟩).trans ?_
  unfold a_law_same_53
  obtain ⟨s, hs⟩ := rep2 b
  walk_at "ev"
  rw [hs]
  walk_at "ev"
  rw [hs]
  walk_at "ev"
  rw [beq_self_eq_true]
  walk_at "ev"
end DL
set_option linter.all false
set_option maxRecDepth 100000
set_option maxHeartbeats 4000000
set_option exponentiation.threshold 10000
namespace DL
open PySem L2 TL
local macro_rules | `(tactic| walk_at "ev") => `(tactic| try simp (config := {decide := true}) only [x_asg, x_par, x_aug, x_expr, x_app, x_ite, x_for, x_ret, x_retN, x_brk, x_cont, x_pass, x_nil, x_cons, e_var, e_cst, e_glb, e_tup, e_lst, e_nlst, e_ndic, e_ddic, e_bin, e_neg, e_cmp, e_ch, e_conj, e_disj, e_inv, e_ife, e_idx, e_to, e_fr, e_slen, e_sidx, e_sto, e_call, e_calk, e_blt, e_isi, e_mth, e_sit, e_lc, es_nil, es_cons, cj_nil, cj_last, cj_two, i_seq, i_rng, i_enum, t_nm, t_sub, t_tp, ts_nil, ts_cons, fB, lB, k_nx, k_asg, k_par, k_aug, k_expr, k_app2, k_app, k_b, k_ite, k_for, k_ret, k_seq, k_tup, k_lst, k_nlst, k_bin2, k_bin, k_neg, k_cmp2, k_cmp, k_ch3, k_ch2, k_ch, k_bl, k_inv, k_ife, k_idx2, k_idx, k_to2, k_to, k_fr2, k_fr, k_call, k_calk, k_blt, k_isi, k_mth2, k_mth, k_sit, k_lc2, k_lc, k_slen, k_sidx2, k_sidx, k_sto2, k_sto, k_c2, k_c, k_cj, k_seqI, k_rng, k_enum, k_sub3, k_sub, k_ts, k_fB, k_lB3, k_lB2, k_lB, R.bind_ok, R.bind_no, ofO_some, ofO_none, Option.map_some, Option.map_none, startE, List.map_cons, List.map_nil, List.length_cons, List.length_nil, List.cons_append, List.nil_append, List.append_nil, List.replicate, Nat.reduceAdd, Nat.reduceSub, List.getElem?_cons_zero, List.getElem?_cons_succ, if_true, if_false, Bool.not_true, Bool.not_false, List.set_cons_zero, List.set_cons_succ, List.set_set, wipeE, o_add, o_sub, o_mul, o_fdiv, o_mod, o_pow, o_addS, o_addT, o_addL, o_lt, o_le, o_gt, o_ge, o_eq, o_ne, o_eqS, o_neS, o_isN, o_isnN, o_len, o_lenT, o_lenS, o_int, o_abs, o_min, o_max, o_divmod, o_str, o_tuple, o_sum, o_all, o_repr, o_idxT, o_idxL, at0, at1, at2, ix30, ix31, ix32, c_d, c_n, p_nil, p_cons, s_d, s_n, asB_b, i_tT, i_ii, i_bi, i_ss, q_T, q_L, sq_T, sq_L, List.take_length, decide_true, decide_false, Int.reduceToNat])
/-- the well at cell n is good -/
def Wl (n : Nat) (m : Mem) : Prop := ∃ a b c, m[n]? = some (wl a b c) ∧ 0 ≤ a ∧ 0 ≤ b
/-- m' is m with another well -/
def Wm (n : Nat) (m m' : Mem) : Prop := ∃ a b c, m' = m.set n (wl a b c) ∧ 0 ≤ a ∧ 0 ≤ b
theorem Wm.trans {n : Nat} {m m1 m2 : Mem} (h : Wm n m m1) (g : Wm n m1 m2) : Wm n m m2 := by
  obtain ⟨a, b, c, rfl, h1, h2⟩ := h
  obtain ⟨a', b', c', rfl, g1, g2⟩ := g
  exact ⟨a', b', c', by rw [List.set_set], g1, g2⟩
theorem Wm.wl {n : Nat} {m m' : Mem} (w : Wl n m) (h : Wm n m m') : Wl n m' := by
  obtain ⟨a, b, c, rfl, h1, h2⟩ := h
  obtain ⟨a', b', c', hm, _⟩ := w
  exact ⟨a, b, c, get_set hm, h1, h2⟩
theorem Wl.refl {n : Nat} {m : Mem} (w : Wl n m) : Wm n m m := by
  obtain ⟨a, b, c, hm, h1, h2⟩ := w
  refine ⟨a, b, c, ?_, h1, h2⟩
  apply List.ext_getElem?
  intro i
  by_cases e : n = i
  · subst e; rw [get_set hm, hm]
  · rw [List.getElem?_set_ne e]
theorem Wm.len {n : Nat} {m m' : Mem} (h : Wm n m m') : m'.length = m.length := by
  obtain ⟨a, b, c, rfl, _⟩ := h
  simp
theorem Wm.take {n : Nat} {m m' : Mem} (h : Wm n m m') : m'.take m.length = m' := List.take_of_length_le (by rw [h.len]; exact Nat.le_refl _)
theorem c_draw {T : Nat → Option Def} (hT : Sub [43] T) (k n : Nat) (m : Mem) (many : Int) (w : Wl n m) (h1 : 0 < many) (h2 : many ≤ 10 ^ 1000) :
    ∃ m' r, callF T (k + 1) 43 [.cell n, .d (.int many)] m = .ok (.d (.int r)) m' ∧ Wm n m m' ∧ 0 ≤ r ∧ r < many := by
  obtain ⟨a, b, c, hm, ha, hb⟩ := w
  obtain ⟨a', b', c', r, e, h3, h4, h5, h6⟩ := draw_ok hT k n m a b c many hm h1 (by
    have e : (10 : Nat) ^ 1000 < 2 ^ 9000 := by decide +kernel
    refine Nat.lt_of_le_of_lt (m := 10 ^ 1000) ?_ e
    have : (many.natAbs : Int) ≤ ((10 ^ 1000 : Nat) : Int) := by rw [Int.natAbs_of_nonneg (by omega)]; exact_mod_cast h2
    exact_mod_cast this) ha hb
  exact ⟨_, r, e, ⟨a', b', c', rfl, h5, h6⟩, h3, h4⟩
theorem c_some {T : Nat → Option Def} (hT : Sub [43, 44] T) (k n : Nat) (m : Mem) (xs : List D) (w : Wl n m) (h1 : xs ≠ []) (h2 : xs.length ≤ 1000) :
    ∃ m' x, callF T (k + 2) 44 [.cell n, .d (.lst xs)] m = .ok (.d x) m' ∧ Wm n m m' ∧ x ∈ xs := by
  have hp := List.length_pos_iff.mpr h1
  have e : (1000 : Int) ≤ 10 ^ 1000 := by decide +kernel
  obtain ⟨m', r, e1, wm, r1, r2⟩ := c_draw (hT.mono (l' := [43])) k n m xs.length w (by omega) (by omega)
  have hr : r.toNat < xs.length := by omega
  refine ⟨m', xs[r.toNat], (callT hT (k + 1) 44 _ m ⟨2, 2, a_law_some_44, false⟩).trans ?_, wm, List.getElem_mem hr⟩
  unfold a_law_some_44
  walk_at "ev"
  rw [e1]
  walk_at "ev"
  have e2 : L2.atI xs r = some xs[r.toNat] := by
    have := atN (xs := xs) hr
    rw [Int.toNat_of_nonneg r1] at this
    rw [this, List.getElem?_eq_getElem hr]
  rw [e2]
  walk_at "ev"
  rw [wm.take]
theorem for_st {α : Type} {f : α → D} {b : U → Env → Mem → R O} {m0 : Mem} (P : List α → Env → Mem → Prop) : ∀ (l : List α) (ρ : Env) (m : Mem), P l ρ m → (∀ x r ρ m, P (x :: r) ρ m → ∃ ρ' m', b (.d (f x)) ρ m = .ok (.nx ρ') m' ∧ P r ρ' m') → ∃ ρ' m', forL none m0 b ((l.map f).map .d) ρ m = .ok (.nx ρ') m' ∧ P [] ρ' m'
  | [], ρ, m, hp, h => ⟨ρ, m, rfl, hp⟩
  | x :: l, ρ, m, hp, h => by
    obtain ⟨ρ1, m1, h1, h2⟩ := h x l ρ m hp
    obtain ⟨ρ2, m2, h3, h4⟩ := for_st (m0 := m0) P l ρ1 m1 h2 h
    refine ⟨ρ2, m2, ?_, h4⟩
    simp only [List.map_cons, forL, h1, R.bind_ok, okG, if_true]
    exact h3
theorem ty_range {n : Int} (h1 : -(2 ^ 62) ≤ n) (h2 : n ≤ 16777216) : tyRange n = some ((List.range n.toNat).map fun (i : Nat) => D.int (i : Int)) := if_pos ⟨h1, h2⟩
theorem c_far {T : Nat → Option Def} (hT : Sub [43, 45] T) (k n : Nat) (m : Mem) (top : Int) (w : Wl n m) (h1 : 0 ≤ top) (h2 : top ≤ 10 ^ 100) :
    ∃ m' r, callF T (k + 2) 45 [.cell n, .d (.int top)] m = .ok (.d (.int r)) m' ∧ Wm n m m' ∧ 0 ≤ r ∧ r ≤ top := by
  have b5 : (5 : Int) ≤ 10 ^ 1000 := by decide +kernel
  have b9 : (9 : Int) ≤ 10 ^ 1000 := by decide +kernel
  have b3 : (3 : Int) ≤ 10 ^ 1000 := by decide +kernel
  have b6 : (1000000 : Int) ≤ 10 ^ 1000 := by decide +kernel
  have pw : (10 : Int) ^ 6 = 1000000 := rfl
  obtain ⟨m1, r, e1, w1, r1, r2⟩ := c_draw (hT.mono (l' := [43])) k n m 5 w (by decide) b5
  have wl1 := w1.wl w
  suffices hh : ∃ m' r', (exSs (callF T (k + 1)) a_law_far_45 (startE 5 [.cell n, .d (.int top)]) m).bind (close false m.length) = .ok (.d (.int r')) m' ∧ Wm n m m' ∧ 0 ≤ r' ∧ r' ≤ top by
    obtain ⟨m', r', e, h⟩ := hh
    exact ⟨m', r', (callT hT (k + 1) 45 _ m ⟨2, 5, a_law_far_45, false⟩).trans e, h⟩
  unfold a_law_far_45
  walk_at "ev"
  rw [e1]
  walk_at "ev"
  by_cases c0 : r = 0
  · simp only [c0, decide_true]
    obtain ⟨m2, q, e2, w2, q1, q2⟩ := c_draw (hT.mono (l' := [43])) k n m1 9 wl1 (by decide) b9
    walk_at "ev"
    rw [e2]
    walk_at "ev"
    refine ⟨m2, _, by rw [(w1.trans w2).take], w1.trans w2, ?_⟩
    constructor <;> split <;> omega
  · simp only [c0, decide_false]
    walk_at "ev"
    by_cases c1 : r = 1
    · simp only [c1, decide_true]
      walk_at "ev"
      obtain ⟨m2, q, e2, w2, q1, q2⟩ := c_draw (hT.mono (l' := [43])) k n m1 1000000 wl1 (by decide) b6
      rw [pw]
      walk_at "ev"
      rw [e2]
      walk_at "ev"
      refine ⟨m2, _, by rw [(w1.trans w2).take], w1.trans w2, ?_⟩
      constructor <;> split <;> omega
    · simp only [c1, decide_false]
      walk_at "ev"
      by_cases c2 : r = 2
      · simp only [c2, decide_true]
        walk_at "ev"
        obtain ⟨m2, q, e2, w2, q1, q2⟩ := c_draw (hT.mono (l' := [43])) k n m1 3 wl1 (by decide) b3
        rw [e2]
        walk_at "ev"
        refine ⟨m2, _, by rw [(w1.trans w2).take], w1.trans w2, ?_⟩
        constructor <;> split <;> omega
      · simp only [c2, decide_false]
        walk_at "ev"
        rw [ty_range (by decide) (by decide)]
        walk_at "ev"
        obtain ⟨ρ', m2, e2, hp⟩ := for_st (m0 := m1) (f := fun (i : Nat) => .int (i : Int)) (b := forB (callF T (k + 1)) (.nm 4) (.cons (.asg (.nm 3) (.bin .add (.bin .mul (.var 3) (.bin .pow (.cst (.int 10)) (.cst (.int 6)))) (.call 43 (.cons (.var 0) (.cons (.bin .pow (.cst (.int 10)) (.cst (.int 6))) .nil)) []))) .nil))
          (fun _ ρ m' => Wm n m m' ∧ ∃ (f : Int) (o : Option U), 0 ≤ f ∧ ρ = [some (.cell n), some (.d (.int top)), some (.d (.int r)), some (.d (.int f)), o]) (List.range 12) [some (.cell n), some (.d (.int top)), some (.d (.int r)), some (.d (.int 0)), none] m1 ⟨w1, 0, none, Int.le_refl _, rfl⟩ fun x l ρ m' ⟨wm, f, o, f0, er⟩ => by
            subst er
            obtain ⟨m3, q, e3, w3, q1, q2⟩ := c_draw (hT.mono (l' := [43])) k n m' 1000000 (wm.wl w) (by decide) b6
            refine ⟨_, m3, ?_, wm.trans w3, f * 1000000 + q, some (.d (.int x)), by omega, rfl⟩
            walk_at "ev"
            rw [pw, if_pos (mulOk_r (by decide))]
            walk_at "ev"
            rw [pw, e3]
            walk_at "ev"
        rw [e2]
        obtain ⟨wm, f, o, f0, er⟩ := hp
        subst er
        walk_at "ev"
        rw [if_pos (by omega)]
        walk_at "ev"
        exact ⟨m2, f % (top + 1), by rw [wm.take], wm, Int.emod_nonneg _ (by omega), by have := Int.emod_lt_of_pos f (b := top + 1) (by omega); omega⟩
end DL
set_option linter.all false
set_option maxRecDepth 100000
set_option maxHeartbeats 4000000
set_option exponentiation.threshold 10000
namespace DL
open PySem L2 TL
local macro_rules | `(tactic| walk_at "ev") => `(tactic| try simp (config := {decide := true}) only [x_asg, x_par, x_aug, x_expr, x_app, x_ite, x_for, x_ret, x_retN, x_brk, x_cont, x_pass, x_nil, x_cons, e_var, e_cst, e_glb, e_tup, e_lst, e_nlst, e_ndic, e_ddic, e_bin, e_neg, e_cmp, e_ch, e_conj, e_disj, e_inv, e_ife, e_idx, e_to, e_fr, e_slen, e_sidx, e_sto, e_call, e_calk, e_blt, e_isi, e_mth, e_sit, e_lc, es_nil, es_cons, cj_nil, cj_last, cj_two, i_seq, i_rng, i_enum, t_nm, t_sub, t_tp, ts_nil, ts_cons, fB, lB, k_nx, k_asg, k_par, k_aug, k_expr, k_app2, k_app, k_b, k_ite, k_for, k_ret, k_seq, k_tup, k_lst, k_nlst, k_bin2, k_bin, k_neg, k_cmp2, k_cmp, k_ch3, k_ch2, k_ch, k_bl, k_inv, k_ife, k_idx2, k_idx, k_to2, k_to, k_fr2, k_fr, k_call, k_calk, k_blt, k_isi, k_mth2, k_mth, k_sit, k_lc2, k_lc, k_slen, k_sidx2, k_sidx, k_sto2, k_sto, k_c2, k_c, k_cj, k_seqI, k_rng, k_enum, k_sub3, k_sub, k_ts, k_fB, k_lB3, k_lB2, k_lB, R.bind_ok, R.bind_no, ofO_some, ofO_none, Option.map_some, Option.map_none, startE, List.map_cons, List.map_nil, List.length_cons, List.length_nil, List.cons_append, List.nil_append, List.append_nil, List.replicate, Nat.reduceAdd, Nat.reduceSub, List.getElem?_cons_zero, List.getElem?_cons_succ, if_true, if_false, Bool.not_true, Bool.not_false, List.set_cons_zero, List.set_cons_succ, List.set_set, wipeE, o_add, o_sub, o_mul, o_fdiv, o_mod, o_pow, o_addS, o_addT, o_addL, o_lt, o_le, o_gt, o_ge, o_eq, o_ne, o_eqS, o_neS, o_isN, o_isnN, o_len, o_lenT, o_lenS, o_int, o_abs, o_min, o_max, o_divmod, o_str, o_tuple, o_sum, o_all, o_repr, o_idxT, o_idxL, at0, at1, at2, ix30, ix31, ix32, c_d, c_n, p_nil, p_cons, s_d, s_n, asB_b, i_tT, i_ii, i_bi, i_ss, q_T, q_L, sq_T, sq_L, List.take_length, decide_true, decide_false, Int.reduceToNat])
def putQ (qs : Ps) (k v : Int) : Ps := if (qs.any fun p => decide (p.1 = k)) = true then qs.map (fun p => if p.1 = k then (p.1, v) else p) else qs ++ [(k, v)]
abbrev kq (p : Int × Int) : Int × D := (p.1, .int p.2)
theorem put_kq (qs : Ps) (k v : Int) : putK (qs.map kq) k (.int v) = (putQ qs k v).map kq := by
  unfold putK putQ hasK
  rw [List.any_map]
  have e : ((fun p : Int × D => decide (p.1 = k)) ∘ kq) = fun p => decide (p.1 = k) := rfl
  rw [e]
  split
  · rw [List.map_map, List.map_map]
    apply List.map_congr_left
    intro p _
    show (if p.1 = k then (p.1, D.int v) else (p.1, D.int p.2)) = kq (if p.1 = k then (p.1, v) else p)
    split <;> rfl
  · rw [List.map_append]; rfl
structure Qs (c : Nat) (top many : Int) (qs : Ps) : Prop where
  ln : qs.length ≤ c
  nd : (qs.map (·.1)).Nodup
  bd : ∀ p ∈ qs, 0 ≤ p.1 ∧ p.1 ≤ top ∧ 1 ≤ p.2 ∧ p.2 ≤ many
theorem Qs.put {c : Nat} {top many : Int} {qs : Ps} (h : Qs c top many qs) {k v : Int} (h1 : 0 ≤ k) (h2 : k ≤ top) (h3 : 1 ≤ v) (h4 : v ≤ many) : Qs (c + 1) top many (putQ qs k v) := by
  unfold putQ
  split
  · refine ⟨by rw [List.length_map]; exact Nat.le_succ_of_le h.ln, ?_, fun p hp => ?_⟩
    · rw [List.map_map]
      have e : ((fun p : Int × Int => p.1) ∘ fun p => if p.1 = k then (p.1, v) else p) = fun p => p.1 := by
        funext p
        show (if p.1 = k then (p.1, v) else p).1 = p.1
        split <;> rfl
      rw [e]; exact h.nd
    · obtain ⟨q, hq, rfl⟩ := List.mem_map.mp hp
      have := h.bd q hq
      split
      · exact ⟨this.1, this.2.1, h3, h4⟩
      · exact this
  · rename_i hn
    refine ⟨by simp; exact h.ln, ?_, fun p hp => ?_⟩
    · rw [List.map_append, List.nodup_append]
      refine ⟨h.nd, by simp, fun a ha b hb => ?_⟩
      simp at hb
      subst hb
      obtain ⟨q, hq, rfl⟩ := List.mem_map.mp ha
      intro e
      exact hn (List.any_eq_true.mpr ⟨q, hq, decide_eq_true e⟩)
    · rcases List.mem_append.mp hp with hp | hp
      · exact h.bd p hp
      · rw [List.mem_singleton.mp hp]; exact ⟨h1, h2, h3, h4⟩
theorem put_ne (qs : Ps) (k v : Int) : putQ qs k v ≠ [] := by
  unfold putQ
  split
  · rename_i h
    intro e
    rw [List.map_eq_nil_iff] at e
    subst e
    simp at h
  · simp
theorem prs_kq : ∀ qs : Ps, prsD ((qs.map kq).map pairI) = some qs
  | [] => rfl
  | p :: qs => by
    have ih := prs_kq qs
    show (prsD ((qs.map kq).map pairI)).map (fun r => (p.1, p.2) :: r) = some (p :: qs)
    rw [ih]; rfl
theorem o_setK {m : Mem} {j : Nat} {ks : List (Int × D)} {k : Int} {x : D} (h : m[j]? = some (.dic ks)) : setD m (.cell j) (.d (.int k)) (.d x) = if ks.length < 10000000 then some (m.set j (.dic (putK ks k x))) else none := by simp only [setD, h]
theorem sort_va {top many : Int} {qs : Ps} (h : Qs 30 top many qs) (hne : qs ≠ []) (h1 : top ≤ 10 ^ 36) (h2 : many ≤ 10 ^ 72) : Va (sortP qs) := by
  have pm := sortP_perm qs
  refine ⟨fun e => hne ?_, by rw [pm.length_eq]; exact h.ln, ?_, fun p hp => ?_⟩
  · rw [e] at pm; exact List.Perm.eq_nil pm.symm
  · have nd : ((sortP qs).map (·.1)).Nodup := ((pm.map (·.1)).nodup_iff).mpr h.nd
    have nd' : (sortP qs).Pairwise (fun a b => a.1 ≠ b.1) := List.pairwise_map.mp nd
    refine ((sortP_sorted qs).and nd').imp fun {a b} hab => ?_
    have := hab.1
    unfold LeP at this
    have := hab.2
    omega
  · obtain ⟨a, b, c, d⟩ := h.bd p (pm.mem_iff.mp hp)
    exact ⟨a, Int.le_trans b h1, c, Int.le_trans d h2⟩
theorem c_kinds {T : Nat → Option Def} (hT : Sub [43, 45, 46] T) (k n : Nat) (m : Mem) (most top many : Int) (w : Wl n m) (h0 : 0 < most) (h00 : most ≤ 29) (h1 : 0 ≤ top) (h2 : top ≤ 10 ^ 36) (h3 : 1 ≤ many) (h4 : many ≤ 10 ^ 72) :
    ∃ m' ps, callF T (k + 3) 46 [.cell n, .d (.int most), .d (.int top), .d (.int many)] m = .ok (.d (kds ps)) m' ∧ Wm n m m' ∧ Va ps ∧ ∀ p ∈ ps, 0 ≤ p.1 ∧ p.1 ≤ top ∧ 1 ≤ p.2 ∧ p.2 ≤ many := by
  have hn : n < m.length := by obtain ⟨a, b, c, hm, _⟩ := w; exact (List.getElem?_eq_some_iff.mp hm).1
  have big : ∀ x : Int, x ≤ 10 ^ 72 + 1 → x ≤ 10 ^ 1000 := fun x hx => Int.le_trans hx (by decide +kernel)
  have b100 : (10 : Int) ^ 72 ≤ 10 ^ 100 := by decide +kernel
  have b3672 : (10 : Int) ^ 36 ≤ 10 ^ 72 := by decide +kernel
  have wA : ∀ ob, Wl n (m ++ [ob]) := fun ob => by
    obtain ⟨a, b, c, hm, h⟩ := w
    exact ⟨a, b, c, by rw [List.getElem?_append_left hn]; exact hm, h⟩
  have setW : ∀ (ob ob' : Ob) (x : Ob), ((m ++ [ob]).set n x).set m.length ob' = (m ++ [ob']).set n x := fun ob ob' x => by
    rw [List.set_comm _ _ (Nat.ne_of_lt hn)]
    congr 1
    rw [List.set_append_right _ _ (Nat.le_refl _)]
    simp
  have getW : ∀ (ob x : Ob), ((m ++ [ob]).set n x)[m.length]? = some ob := fun ob x => by
    rw [List.getElem?_set_ne (Nat.ne_of_lt hn)]
    simp
  suffices hh : ∃ m' ps, (exSs (callF T (k + 2)) a_law_kinds_46 (startE 7 [.cell n, .d (.int most), .d (.int top), .d (.int many)]) m).bind (close false m.length) = .ok (.d (kds ps)) m' ∧ Wm n m m' ∧ Va ps ∧ ∀ p ∈ ps, 0 ≤ p.1 ∧ p.1 ≤ top ∧ 1 ≤ p.2 ∧ p.2 ≤ many by
    obtain ⟨m', ps, e, h⟩ := hh
    exact ⟨m', ps, (callT hT (k + 2) 46 _ m ⟨4, 7, a_law_kinds_46, false⟩).trans e, h⟩
  unfold a_law_kinds_46
  walk_at "ev"
  obtain ⟨m1, r, e1, w1, r1, r2⟩ := c_draw (hT.mono (l' := [43])) (k + 1) n (m ++ [.dic []]) most (wA _) h0 (big _ (by omega))
  rw [e1]
  walk_at "ev"
  rw [ty_range (by omega) (by omega)]
  walk_at "ev"
  have lr : (List.range (1 + r).toNat).length ≤ 30 := by rw [List.length_range]; omega
  obtain ⟨ρ', m2, e2, hp⟩ := for_st (m0 := m1) (f := fun (i : Nat) => .int (i : Int)) (b := forB (callF T (k + 2)) (.nm 5) (.cons (.asg (.nm 6) (.ite (.cmp .gt (.var 2) (.cst (.int 99))) (.call 45 (.cons (.var 0) (.cons (.var 2) .nil)) []) (.call 43 (.cons (.var 0) (.cons (.bin .add (.var 2) (.cst (.int 1))) .nil)) []))) (.cons (.asg (.sub (.var 4) (.var 6)) (.bin .add (.cst (.int 1)) (.ite (.cmp .gt (.var 3) (.cst (.int 99))) (.call 45 (.cons (.var 0) (.cons (.bin .sub (.var 3) (.cst (.int 1))) .nil)) []) (.call 43 (.cons (.var 0) (.cons (.var 3) .nil)) [])))) .nil)))
    (fun l ρ m' => ∃ (qs : Ps) (o o' : Option U), l.length ≤ 30 ∧ Qs (30 - l.length) top many qs ∧ (l.length < (1 + r).toNat → qs ≠ []) ∧ Wm n (m ++ [.dic (qs.map kq)]) m' ∧ ρ = [some (.cell n), some (.d (.int most)), some (.d (.int top)), some (.d (.int many)), some (.cell m.length), o, o']) (List.range (1 + r).toNat) [some (.cell n), some (.d (.int most)), some (.d (.int top)), some (.d (.int many)), some (.cell m.length), none, none] m1
    ⟨[], none, none, lr, ⟨Nat.zero_le _, .nil, fun _ z => by cases z⟩, fun z => by rw [List.length_range] at z; omega, w1, rfl⟩ fun x l ρ m' ⟨qs, o, o', hl, hq, hne, wm, er⟩ => by
      subst er
      have wl' := wm.wl (wA _)
      have A : ∃ m3 a, (if 99 < top then callF T (k + 2) 45 [.cell n, .d (.int top)] m' else callF T (k + 2) 43 [.cell n, .d (.int (top + 1))] m') = .ok (.d (.int a)) m3 ∧ Wm n m' m3 ∧ 0 ≤ a ∧ a ≤ top := by
        split
        · obtain ⟨m3, a, e, h⟩ := c_far (hT.mono (l' := [43, 45])) k n m' top wl' h1 (Int.le_trans h2 (Int.le_trans b3672 b100))
          exact ⟨m3, a, e, h⟩
        · obtain ⟨m3, a, e, h5, h6, h7⟩ := c_draw (hT.mono (l' := [43])) (k + 1) n m' (top + 1) wl' (by omega) (big _ (by omega))
          exact ⟨m3, a, e, h5, h6, by omega⟩
      obtain ⟨m3, a, e3, w3, a1, a2⟩ := A
      have wl3 := w3.wl wl'
      have Bq : ∃ m4 c, (if 99 < many then callF T (k + 2) 45 [.cell n, .d (.int (many - 1))] m3 else callF T (k + 2) 43 [.cell n, .d (.int many)] m3) = .ok (.d (.int c)) m4 ∧ Wm n m3 m4 ∧ 0 ≤ c ∧ c ≤ many - 1 := by
        split
        · obtain ⟨m4, c, e, h⟩ := c_far (hT.mono (l' := [43, 45])) k n m3 (many - 1) wl3 (by omega) (Int.le_trans (by omega) b100)
          exact ⟨m4, c, e, h⟩
        · obtain ⟨m4, c, e, h5, h6, h7⟩ := c_draw (hT.mono (l' := [43])) (k + 1) n m3 many wl3 (by omega) (big _ (by omega))
          exact ⟨m4, c, e, h5, h6, by omega⟩
      obtain ⟨m4, c, e4, w4, c1, c2⟩ := Bq
      have wm4 := (wm.trans w3).trans w4
      obtain ⟨xa, xb, xc, em4, x1, x2⟩ := wm4
      have hq' := hq.put (k := a) (v := 1 + c) a1 a2 (by omega) (by omega)
      refine ⟨[some (.cell n), some (.d (.int most)), some (.d (.int top)), some (.d (.int many)), some (.cell m.length), some (.d (.int x)), some (.d (.int a))], m4.set m.length (.dic ((putQ qs a (1 + c)).map kq)), ?_, putQ qs a (1 + c), _, _, ?_, ?_, fun _ => put_ne _ _ _, ?_, rfl⟩
      · walk_at "ev"
        have st1 : ∀ (R1 : R U), (if 99 < top then callF T (k + 2) 45 [.cell n, .d (.int top)] m' else callF T (k + 2) 43 [.cell n, .d (.int (top + 1))] m') = R1 → True := fun _ _ => trivial
        by_cases d1 : 99 < top
        · simp only [d1, decide_true, if_true] at e3 ⊢
          walk_at "ev"
          rw [e3]
          walk_at "ev"
          by_cases d2 : 99 < many
          · simp only [d2, decide_true, if_true] at e4 ⊢
            walk_at "ev"
            rw [e4]
            walk_at "ev"
            rw [o_setK (by rw [em4]; exact getW _ _), if_pos (by rw [List.length_map]; have := hq.ln; omega), put_kq]
            walk_at "ev"
          · simp only [d2, decide_false, if_false] at e4 ⊢
            walk_at "ev"
            rw [e4]
            walk_at "ev"
            rw [o_setK (by rw [em4]; exact getW _ _), if_pos (by rw [List.length_map]; have := hq.ln; omega), put_kq]
            walk_at "ev"
        · simp only [d1, decide_false, if_false] at e3 ⊢
          walk_at "ev"
          rw [e3]
          walk_at "ev"
          by_cases d2 : 99 < many
          · simp only [d2, decide_true, if_true] at e4 ⊢
            walk_at "ev"
            rw [e4]
            walk_at "ev"
            rw [o_setK (by rw [em4]; exact getW _ _), if_pos (by rw [List.length_map]; have := hq.ln; omega), put_kq]
            walk_at "ev"
          · simp only [d2, decide_false, if_false] at e4 ⊢
            walk_at "ev"
            rw [e4]
            walk_at "ev"
            rw [o_setK (by rw [em4]; exact getW _ _), if_pos (by rw [List.length_map]; have := hq.ln; omega), put_kq]
            walk_at "ev"
      · simp at hl; omega
      · have : 30 - (x :: l).length + 1 = 30 - l.length := by simp at hl ⊢; omega
        rw [this] at hq'
        exact hq'
      · rw [em4, setW]
        exact ⟨xa, xb, xc, rfl, x1, x2⟩
  rw [e2]
  obtain ⟨qs, o, o', hl, hq, hne, wm, er⟩ := hp
  subst er
  walk_at "ev"
  obtain ⟨xa, xb, xc, em, x1, x2⟩ := wm
  have di : dicO m2 (.cell m.length) = some (qs.map kq) := by
    simp only [dicO, em, getW]
  simp only [itemsO, di]
  walk_at "ev"
  have so : (some ((qs.map kq).map pairI)).bind (fun xs => (sortD xs).map U.d) = some (.d (.lst ((sortP qs).map prD))) := by
    show (sortD ((qs.map kq).map pairI)).map U.d = _
    unfold sortD
    cases qs with
    | nil => exact absurd rfl (hne (by simp; omega))
    | cons p qs =>
      have : intsD (((p :: qs).map kq).map pairI) = none := rfl
      rw [this, prs_kq]
      rfl
  rw [so]
  walk_at "ev"
  refine ⟨m2.take m.length, sortP qs, rfl, ⟨xa, xb, xc, ?_, x1, x2⟩, sort_va (by simpa using hq) (hne (by simp; omega)) h2 h4, fun p hp => hq.bd p ((sortP_perm qs).mem_iff.mp hp)⟩
  rw [em, List.take_set]
  congr 1
  simp
end DL
set_option linter.all false
set_option maxRecDepth 100000
set_option maxHeartbeats 4000000
set_option exponentiation.threshold 10000
namespace DL
open PySem L2 TL
local macro_rules | `(tactic| walk_at "ev") => `(tactic| try simp (config := {decide := true}) only [x_asg, x_par, x_aug, x_expr, x_app, x_ite, x_for, x_ret, x_retN, x_brk, x_cont, x_pass, x_nil, x_cons, e_var, e_cst, e_glb, e_tup, e_lst, e_nlst, e_ndic, e_ddic, e_bin, e_neg, e_cmp, e_ch, e_conj, e_disj, e_inv, e_ife, e_idx, e_to, e_fr, e_slen, e_sidx, e_sto, e_call, e_calk, e_blt, e_isi, e_mth, e_sit, e_lc, es_nil, es_cons, cj_nil, cj_last, cj_two, i_seq, i_rng, i_enum, t_nm, t_sub, t_tp, ts_nil, ts_cons, fB, lB, k_nx, k_asg, k_par, k_aug, k_expr, k_app2, k_app, k_b, k_ite, k_for, k_ret, k_seq, k_tup, k_lst, k_nlst, k_bin2, k_bin, k_neg, k_cmp2, k_cmp, k_ch3, k_ch2, k_ch, k_bl, k_inv, k_ife, k_idx2, k_idx, k_to2, k_to, k_fr2, k_fr, k_call, k_calk, k_blt, k_isi, k_mth2, k_mth, k_sit, k_lc2, k_lc, k_slen, k_sidx2, k_sidx, k_sto2, k_sto, k_c2, k_c, k_cj, k_seqI, k_rng, k_enum, k_sub3, k_sub, k_ts, k_fB, k_lB3, k_lB2, k_lB, R.bind_ok, R.bind_no, ofO_some, ofO_none, Option.map_some, Option.map_none, startE, List.map_cons, List.map_nil, List.length_cons, List.length_nil, List.cons_append, List.nil_append, List.append_nil, List.replicate, Nat.reduceAdd, Nat.reduceSub, List.getElem?_cons_zero, List.getElem?_cons_succ, if_true, if_false, Bool.not_true, Bool.not_false, List.set_cons_zero, List.set_cons_succ, List.set_set, wipeE, o_add, o_sub, o_mul, o_fdiv, o_mod, o_pow, o_addS, o_addT, o_addL, o_lt, o_le, o_gt, o_ge, o_eq, o_ne, o_eqS, o_neS, o_isN, o_isnN, o_len, o_lenT, o_lenS, o_int, o_abs, o_min, o_max, o_divmod, o_str, o_tuple, o_sum, o_all, o_repr, o_idxT, o_idxL, at0, at1, at2, ix30, ix31, ix32, c_d, c_n, p_nil, p_cons, s_d, s_n, asB_b, i_tT, i_ii, i_bi, i_ss, q_T, q_L, sq_T, sq_L, List.take_length, decide_true, decide_false, Int.reduceToNat])
theorem o_toT {m : Mem} {xs : List D} {j : Int} : slcD m (.d (.tup xs)) none (some j) = some (.tup (cutL xs none (some j))) := rfl
theorem o_frT {m : Mem} {xs : List D} {j : Int} : slcD m (.d (.tup xs)) (some j) none = some (.tup (cutL xs (some j) none)) := rfl
theorem cut_to {xs : List D} {j : Nat} (h : j ≤ xs.length) : cutL xs none (some (j : Int)) = xs.take j := by
  unfold cutL
  have e1 : HT.sIx xs.length 0 none = 0 := by simp [HT.sIx]
  have e2 : HT.sIx xs.length xs.length (some (j : Int)) = j := by rw [HT.sIx_nat]; omega
  rw [e1, e2]; simp
theorem cut_fr {xs : List D} {j : Nat} (h : j ≤ xs.length) : cutL xs (some (j : Int)) none = xs.drop j := by
  unfold cutL
  have e1 : HT.sIx xs.length 0 (some (j : Int)) = j := by rw [HT.sIx_nat]; omega
  have e2 : HT.sIx xs.length xs.length none = xs.length := by simp [HT.sIx]
  rw [e1, e2]
  exact List.take_of_length_le (by simp)
theorem Va.map {ps : Ps} (h : Va ps) (f : Int × Int → Int × Int) (hm : ∀ p ∈ ps, ∀ q ∈ ps, p.1 < q.1 → (f p).1 < (f q).1) (hb : ∀ p ∈ ps, 0 ≤ (f p).1 ∧ (f p).1 ≤ 10 ^ 36 ∧ 1 ≤ (f p).2 ∧ (f p).2 ≤ 10 ^ 72) : Va (ps.map f) := by
  refine ⟨by simpa using h.ne, by rw [List.length_map]; exact h.ln, ?_, fun p hp => ?_⟩
  · rw [List.pairwise_map]
    exact h.so.imp_of_mem fun {a b} ha hb' hab => hm a ha b hb' hab
  · obtain ⟨q, hq, rfl⟩ := List.mem_map.mp hp
    exact hb q hq
theorem Va.upd {ps : Ps} (h : Va ps) {i : Nat} (hi : i < ps.length) {v : Int} (h1 : 1 ≤ v) (h2 : v ≤ 10 ^ 72) : Va (ps.set i (ps[i].1, v)) := by
  have hf : (ps.set i (ps[i].1, v)).map (·.1) = ps.map (·.1) := by
    apply List.ext_getElem?
    intro j
    rw [List.getElem?_map, List.getElem?_map]
    by_cases e : i = j
    · subst e
      rw [List.getElem?_set_self hi, List.getElem?_eq_getElem hi]; rfl
    · rw [List.getElem?_set_ne e]
  refine ⟨fun e => h.ne ?_, by rw [List.length_set]; exact h.ln, ?_, fun p hp => ?_⟩
  · have := congrArg List.length e
    rw [List.length_set] at this
    exact List.length_eq_zero_iff.mp this
  · have : (ps.map (·.1)).Pairwise (· < ·) := List.pairwise_map.mpr h.so
    rw [← hf] at this
    exact List.pairwise_map.mp this
  · rcases List.mem_or_eq_of_mem_set hp with hp | rfl
    · exact h.bd p hp
    · obtain ⟨a, b, c, d⟩ := h.bd ps[i] (List.getElem_mem hi)
      exact ⟨a, b, h1, h2⟩
end DL
set_option linter.all false
set_option maxRecDepth 100000
set_option maxHeartbeats 4000000
set_option exponentiation.threshold 10000
namespace DL
open PySem L2 TL
local macro_rules | `(tactic| walk_at "ev") => `(tactic| try simp (config := {decide := true}) only [x_asg, x_par, x_aug, x_expr, x_app, x_ite, x_for, x_ret, x_retN, x_brk, x_cont, x_pass, x_nil, x_cons, e_var, e_cst, e_glb, e_tup, e_lst, e_nlst, e_ndic, e_ddic, e_bin, e_neg, e_cmp, e_ch, e_conj, e_disj, e_inv, e_ife, e_idx, e_to, e_fr, e_slen, e_sidx, e_sto, e_call, e_calk, e_blt, e_isi, e_mth, e_sit, e_lc, es_nil, es_cons, cj_nil, cj_last, cj_two, i_seq, i_rng, i_enum, t_nm, t_sub, t_tp, ts_nil, ts_cons, fB, lB, k_nx, k_asg, k_par, k_aug, k_expr, k_app2, k_app, k_b, k_ite, k_for, k_ret, k_seq, k_tup, k_lst, k_nlst, k_bin2, k_bin, k_neg, k_cmp2, k_cmp, k_ch3, k_ch2, k_ch, k_bl, k_inv, k_ife, k_idx2, k_idx, k_to2, k_to, k_fr2, k_fr, k_call, k_calk, k_blt, k_isi, k_mth2, k_mth, k_sit, k_lc2, k_lc, k_slen, k_sidx2, k_sidx, k_sto2, k_sto, k_c2, k_c, k_cj, k_seqI, k_rng, k_enum, k_sub3, k_sub, k_ts, k_fB, k_lB3, k_lB2, k_lB, R.bind_ok, R.bind_no, ofO_some, ofO_none, Option.map_some, Option.map_none, startE, List.map_cons, List.map_nil, List.length_cons, List.length_nil, List.cons_append, List.nil_append, List.append_nil, List.replicate, Nat.reduceAdd, Nat.reduceSub, List.getElem?_cons_zero, List.getElem?_cons_succ, if_true, if_false, Bool.not_true, Bool.not_false, List.set_cons_zero, List.set_cons_succ, List.set_set, wipeE, o_add, o_sub, o_mul, o_fdiv, o_mod, o_pow, o_addS, o_addT, o_addL, o_lt, o_le, o_gt, o_ge, o_eq, o_ne, o_eqS, o_neS, o_isN, o_isnN, o_len, o_lenT, o_lenS, o_int, o_abs, o_min, o_max, o_divmod, o_str, o_tuple, o_sum, o_all, o_repr, o_idxT, o_idxL, at0, at1, at2, ix30, ix31, ix32, c_d, c_n, p_nil, p_cons, s_d, s_n, asB_b, i_tT, i_ii, i_bi, i_ss, q_T, q_L, sq_T, sq_L, List.take_length, decide_true, decide_false, Int.reduceToNat])
theorem o_lstU {m : Mem} {j : Nat} {xs : List D} (h : m[j]? = some (.lst xs)) : lstU m (.cell j) = true := by simp only [lstU, h]
theorem o_app {m : Mem} {j : Nat} {xs : List D} {x : D} (h : m[j]? = some (.lst xs)) : appD m (.cell j) (.d x) = if xs.length < 16777216 then some (m.set j (.lst (xs ++ [x]))) else none := by simp only [appD, h]
theorem get_app (m : Mem) (o : Ob) : (m ++ [o])[m.length]? = some o := by simp
theorem set_app (m : Mem) (o o' : Ob) : (m ++ [o]).set m.length o' = m ++ [o'] := by
  rw [List.set_append_right _ _ (Nat.le_refl _)]; simp
theorem close_cell (m : Mem) (xs : List D) : close false m.length (.ret (.cell m.length)) (m ++ [.lst xs]) = .ok (.d (.lst xs)) m := by
  simp [close]
theorem close_cel (m : Mem) (o : Ob) : close true m.length (.ret (.cell m.length)) (m ++ [o]) = .ok (.cell m.length) (m ++ [o]) := by
  simp [close]
theorem ok_s {i j : Int} (h : i.natAbs < 2 ^ 64) : mulOk i j := .inl (.inl h)
def Sm (e : Int × Int) : Prop := 0 ≤ e.1 ∧ e.1 ≤ 10 ^ 90 ∧ 0 ≤ e.2 ∧ e.2 ≤ 10 ^ 90
end DL
set_option linter.all false
set_option maxRecDepth 100000
set_option maxHeartbeats 4000000
set_option exponentiation.threshold 10000
namespace DL
open PySem L2 TL
local macro_rules | `(tactic| walk_at "ev") => `(tactic| try simp (config := {decide := true}) only [x_asg, x_par, x_aug, x_expr, x_app, x_ite, x_for, x_ret, x_retN, x_brk, x_cont, x_pass, x_nil, x_cons, e_var, e_cst, e_glb, e_tup, e_lst, e_nlst, e_ndic, e_ddic, e_bin, e_neg, e_cmp, e_ch, e_conj, e_disj, e_inv, e_ife, e_idx, e_to, e_fr, e_slen, e_sidx, e_sto, e_call, e_calk, e_blt, e_isi, e_mth, e_sit, e_lc, es_nil, es_cons, cj_nil, cj_last, cj_two, i_seq, i_rng, i_enum, t_nm, t_sub, t_tp, ts_nil, ts_cons, fB, lB, k_nx, k_asg, k_par, k_aug, k_expr, k_app2, k_app, k_b, k_ite, k_for, k_ret, k_seq, k_tup, k_lst, k_nlst, k_bin2, k_bin, k_neg, k_cmp2, k_cmp, k_ch3, k_ch2, k_ch, k_bl, k_inv, k_ife, k_idx2, k_idx, k_to2, k_to, k_fr2, k_fr, k_call, k_calk, k_blt, k_isi, k_mth2, k_mth, k_sit, k_lc2, k_lc, k_slen, k_sidx2, k_sidx, k_sto2, k_sto, k_c2, k_c, k_cj, k_seqI, k_rng, k_enum, k_sub3, k_sub, k_ts, k_fB, k_lB3, k_lB2, k_lB, R.bind_ok, R.bind_no, ofO_some, ofO_none, Option.map_some, Option.map_none, startE, List.map_cons, List.map_nil, List.length_cons, List.length_nil, List.cons_append, List.nil_append, List.append_nil, List.replicate, Nat.reduceAdd, Nat.reduceSub, List.getElem?_cons_zero, List.getElem?_cons_succ, if_true, if_false, Bool.not_true, Bool.not_false, List.set_cons_zero, List.set_cons_succ, List.set_set, wipeE, o_add, o_sub, o_mul, o_fdiv, o_mod, o_pow, o_addS, o_addT, o_addL, o_lt, o_le, o_gt, o_ge, o_eq, o_ne, o_eqS, o_neS, o_isN, o_isnN, o_len, o_lenT, o_lenS, o_int, o_abs, o_min, o_max, o_divmod, o_str, o_tuple, o_sum, o_all, o_repr, o_idxT, o_idxL, at0, at1, at2, ix30, ix31, ix32, c_d, c_n, p_nil, p_cons, s_d, s_n, asB_b, i_tT, i_ii, i_bi, i_ss, q_T, q_L, sq_T, sq_L, List.take_length, decide_true, decide_false, Int.reduceToNat])
theorem cut_8 (ns : List Int) : cutL (ns.map D.int) none (some 8) = (ns.take 8).map D.int := by
  have e8 : (8 : Int) = ((8 : Nat) : Int) := rfl
  unfold cutL
  have e1 : HT.sIx (ns.map D.int).length 0 none = 0 := rfl
  have e2 : HT.sIx (ns.map D.int).length (ns.map D.int).length (some 8) = min 8 ns.length := by rw [e8, HT.sIx_nat, List.length_map]
  rw [e1, e2]
  simp only [List.drop_zero, Nat.sub_zero, List.map_take]
  apply List.ext_getElem?
  intro i
  rw [List.getElem?_take, List.getElem?_take]
  by_cases h : i < 8
  · by_cases h2 : i < ns.length
    · rw [if_pos (by omega), if_pos h]
    · rw [if_neg (by omega), if_pos h, List.getElem?_eq_none (by rw [List.length_map]; omega)]
  · rw [if_neg (by omega), if_neg h]
theorem c_well {T : Nat → Option Def} (hT : Sub [42] T) (k : Nat) (ns : List Int) (at_ : Nat) (m : Mem) : ∃ a b, callF T (k + 1) 42 [.d (.scr ns), .d (.int (at_ : Int))] m = .ok (.cell m.length) (m ++ [wl a b 0]) ∧ 0 ≤ a ∧ 0 ≤ b := by
  suffices hh : ∃ a b, (exSs (callF T k) a_law_well_42 (startE 5 [.d (.scr ns), .d (.int (at_ : Int))]) m).bind (close true m.length) = .ok (.cell m.length) (m ++ [wl a b 0]) ∧ 0 ≤ a ∧ 0 ≤ b by
    obtain ⟨a, b, e, h⟩ := hh
    exact ⟨a, b, (callT hT k 42 _ m ⟨2, 5, a_law_well_42, true⟩).trans e, h⟩
  unfold a_law_well_42
  walk_at "ev"
  rw [if_pos (ok_s (by decide))]
  walk_at "ev"
  rw [cut_8]
  obtain ⟨ρ', m2, e2, hp⟩ := for_st (m0 := m) (f := D.int) (b := forB (callF T k) (.nm 3) (.cons (.asg (.nm 2) (.bin .mod (.blt .int (.cons (.bin .add (.bin .add (.bin .mul (.var 2) (.cst (.int 45737))) (.bin .mul (.blt .int (.cons (.var 3) .nil)) (.cst (.int 3)))) (.var 1)) .nil)) (.cst (.int 2147483353)))) .nil))
    (fun _ ρ m' => m' = m ∧ ∃ (s : Int) (o : Option U), ρ = [some (.d (.scr ns)), some (.d (.int (at_ : Int))), some (.d (.int s)), o, none]) (ns.take 8) [some (.d (.scr ns)), some (.d (.int (at_ : Int))), some (.d (.int (311111 + 70001 * (at_ : Int)))), none, none] m ⟨rfl, _, none, rfl⟩ fun x l ρ m' ⟨em, s, o, er⟩ => by
      subst em er
      refine ⟨_, m', ?_, rfl, (s * 45737 + x * 3 + (at_ : Int)) % 2147483353, some (.d (.int x)), rfl⟩
      walk_at "ev"
      rw [if_pos (mulOk_r (by decide))]
      walk_at "ev"
      rw [if_pos (mulOk_r (by decide))]
      walk_at "ev"
  rw [e2]
  obtain ⟨rfl, s, o, er⟩ := hp
  subst er
  walk_at "ev"
  have own : ∃ own : Int, (if (at_ : Int) < (ns.length : Int) then (ofO ((L2.atI ns (at_ : Int)).map fun n => U.d (D.int n)) m2) else R.ok (U.d (D.int s)) m2) = .ok (.d (.int own)) m2 := by
    by_cases h : at_ < ns.length
    · rw [if_pos (by omega), atN h, List.getElem?_eq_getElem h]
      exact ⟨_, rfl⟩
    · rw [if_neg (by omega)]
      exact ⟨_, rfl⟩
  obtain ⟨w, hw⟩ := own
  by_cases h : (at_ : Int) < (ns.length : Int)
  · rw [if_pos h] at hw
    simp only [h, decide_true]
    walk_at "ev"
    rw [hw]
    walk_at "ev"
    by_cases d1 : w < 0
    · simp only [d1, decide_true]
      walk_at "ev"
      rw [if_pos (mulOk_r (by decide))]
      walk_at "ev"
      exact ⟨_, _, by rw [close_cel], by split <;> omega, Int.emod_nonneg _ (by decide)⟩
    · simp only [d1, decide_false]
      walk_at "ev"
      by_cases d2 : (10 : Int) ^ 18 ≤ w
      · simp only [d2, decide_true]
        walk_at "ev"
        rw [if_pos (mulOk_r (by decide))]
        walk_at "ev"
        exact ⟨_, _, by rw [close_cel], by split <;> omega, Int.emod_nonneg _ (by decide)⟩
      · simp only [d2, decide_false]
        walk_at "ev"
        rw [if_pos (mulOk_r (by decide))]
        walk_at "ev"
        exact ⟨_, _, by rw [close_cel], Int.le_refl _, Int.emod_nonneg _ (by decide)⟩
  · rw [if_neg h] at hw
    simp only [h, decide_false]
    walk_at "ev"
    by_cases d1 : s < 0
    · simp only [d1, decide_true]
      walk_at "ev"
      rw [if_pos (mulOk_r (by decide))]
      walk_at "ev"
      exact ⟨_, _, by rw [close_cel], by split <;> omega, Int.emod_nonneg _ (by decide)⟩
    · simp only [d1, decide_false]
      walk_at "ev"
      by_cases d2 : (10 : Int) ^ 18 ≤ s
      · simp only [d2, decide_true]
        walk_at "ev"
        rw [if_pos (mulOk_r (by decide))]
        walk_at "ev"
        exact ⟨_, _, by rw [close_cel], by split <;> omega, Int.emod_nonneg _ (by decide)⟩
      · simp only [d2, decide_false]
        walk_at "ev"
        rw [if_pos (mulOk_r (by decide))]
        walk_at "ev"
        exact ⟨_, _, by rw [close_cel], Int.le_refl _, Int.emod_nonneg _ (by decide)⟩
theorem all_true {α : Type} : ∀ l : List α, boolsD (l.map fun _ => D.bl true) = some (l.map fun _ => true)
  | [] => rfl
  | x :: l => by simp only [List.map_cons, boolsD, all_true l, Option.map_some]
end DL
set_option linter.all false
set_option maxRecDepth 100000
set_option maxHeartbeats 4000000
set_option exponentiation.threshold 10000
namespace DL
open PySem L2 TL
local macro_rules | `(tactic| walk_at "ev") => `(tactic| try simp (config := {decide := true}) only [x_asg, x_par, x_aug, x_expr, x_app, x_ite, x_for, x_ret, x_retN, x_brk, x_cont, x_pass, x_nil, x_cons, e_var, e_cst, e_glb, e_tup, e_lst, e_nlst, e_ndic, e_ddic, e_bin, e_neg, e_cmp, e_ch, e_conj, e_disj, e_inv, e_ife, e_idx, e_to, e_fr, e_slen, e_sidx, e_sto, e_call, e_calk, e_blt, e_isi, e_mth, e_sit, e_lc, es_nil, es_cons, cj_nil, cj_last, cj_two, i_seq, i_rng, i_enum, t_nm, t_sub, t_tp, ts_nil, ts_cons, fB, lB, k_nx, k_asg, k_par, k_aug, k_expr, k_app2, k_app, k_b, k_ite, k_for, k_ret, k_seq, k_tup, k_lst, k_nlst, k_bin2, k_bin, k_neg, k_cmp2, k_cmp, k_ch3, k_ch2, k_ch, k_bl, k_inv, k_ife, k_idx2, k_idx, k_to2, k_to, k_fr2, k_fr, k_call, k_calk, k_blt, k_isi, k_mth2, k_mth, k_sit, k_lc2, k_lc, k_slen, k_sidx2, k_sidx, k_sto2, k_sto, k_c2, k_c, k_cj, k_seqI, k_rng, k_enum, k_sub3, k_sub, k_ts, k_fB, k_lB3, k_lB2, k_lB, R.bind_ok, R.bind_no, ofO_some, ofO_none, Option.map_some, Option.map_none, startE, List.map_cons, List.map_nil, List.length_cons, List.length_nil, List.cons_append, List.nil_append, List.append_nil, List.replicate, Nat.reduceAdd, Nat.reduceSub, List.getElem?_cons_zero, List.getElem?_cons_succ, if_true, if_false, Bool.not_true, Bool.not_false, List.set_cons_zero, List.set_cons_succ, List.set_set, wipeE, o_add, o_sub, o_mul, o_fdiv, o_mod, o_pow, o_addS, o_addT, o_addL, o_lt, o_le, o_gt, o_ge, o_eq, o_ne, o_eqS, o_neS, o_isN, o_isnN, o_len, o_lenT, o_lenS, o_int, o_abs, o_min, o_max, o_divmod, o_str, o_tuple, o_sum, o_all, o_repr, o_idxT, o_idxL, at0, at1, at2, ix30, ix31, ix32, c_d, c_n, p_nil, p_cons, s_d, s_n, asB_b, i_tT, i_ii, i_bi, i_ss, q_T, q_L, sq_T, sq_L, List.take_length, decide_true, decide_false, Int.reduceToNat])
/-- the ends of kinds -/
def spE : List (Int × Int) → Int → Int → List (Int × Int)
  | [], _, _ => []
  | p :: ps, b, n => (b + p.2, n) :: spE ps (b + p.2) n
def spt (ps : Ps) : Ps := spE ps 0 (ppl ps)
theorem spE_len : ∀ (ps : Ps) (b n : Int), (spE ps b n).length = ps.length
  | [], _, _ => rfl
  | p :: ps, b, n => by simp [spE, spE_len ps]
theorem spE_b {n : Int} : ∀ (ps : Ps) (b : Int), (∀ p ∈ ps, 0 ≤ p.2) → 0 ≤ b → b + ppl ps ≤ n → ∀ e ∈ spE ps b n, 0 ≤ e.1 ∧ e.1 ≤ n ∧ e.2 = n
  | [], b, h, h0, h1, e, he => by cases he
  | p :: ps, b, h, h0, h1, e, he => by
    have hp := h p List.mem_cons_self
    have e0 : ppl (p :: ps) = p.2 + ppl ps := by simp [ppl]
    rw [e0] at h1
    have hr : 0 ≤ ppl ps := by
      have : ∀ l : Ps, (∀ q ∈ l, 0 ≤ q.2) → 0 ≤ ppl l := by
        intro l
        induction l with
        | nil => intro _; simp [ppl]
        | cons q l ih =>
          intro hl
          have e1 : ppl (q :: l) = q.2 + ppl l := by simp [ppl]
          have := hl q List.mem_cons_self
          have := ih fun r hr => hl r (List.mem_cons_of_mem _ hr)
          omega
      exact this ps fun q hq => h q (List.mem_cons_of_mem _ hq)
    rcases List.mem_cons.mp he with rfl | he
    · exact ⟨by show 0 ≤ b + p.2; omega, by show b + p.2 ≤ n; omega, rfl⟩
    · exact spE_b ps (b + p.2) (fun q hq => h q (List.mem_cons_of_mem _ hq)) (by omega) (by omega) e he
theorem spt_sm {ps : Ps} (h : Va ps) : ∀ e ∈ spt ps, Sm e := fun e he => by
  obtain ⟨q1, q2⟩ := h.pu.ppl
  have b90 : (10 : Int) ^ 82 ≤ 10 ^ 90 := by decide +kernel
  obtain ⟨a, b, c⟩ := spE_b ps 0 (fun p hp => by have := h.bd p hp; omega) (Int.le_refl _) (by omega) e he
  exact ⟨a, by omega, by omega, by omega⟩
theorem c_bends {T : Nat → Option Def} (hT : Sub [18, 22] T) (k : Nat) (ps : Ps) (m : Mem) (h : Va ps) : callF T (k + 2) 22 [.d (kds ps)] m = .ok (.d (.lst ((spt ps).map prD))) m := by
  refine (callT hT (k + 1) 22 _ m ⟨1, 6, a_bends_of_22, false⟩).trans ?_
  unfold a_bends_of_22
  walk_at "ev"
  rw [c_people hT.mono k ps m]
  walk_at "ev"
  have hln := h.ln
  obtain ⟨ρ', m2, e2, hp⟩ := for_st (m0 := m ++ [.lst []]) (f := prD) (b := forB (callF T (k + 1)) (.tp (.cons (.nm 4) (.cons (.nm 5) .nil))) (.cons (.aug 2 .add (.var 5)) (.cons (.app (.var 3) (.tup (.cons (.var 2) (.cons (.var 1) .nil)))) .nil)))
    (fun l ρ m' => ∃ (es : Ps) (here : Int) (o o' : Option U), m' = m ++ [.lst (es.map prD)] ∧ es.length + l.length = ps.length ∧ es ++ spE l here (ppl ps) = spt ps ∧ ρ = [some (.d (kds ps)), some (.d (.int (ppl ps))), some (.d (.int here)), some (.cell m.length), o, o']) ps [some (.d (kds ps)), some (.d (.int (ppl ps))), some (.d (.int 0)), some (.cell m.length), none, none] (m ++ [.lst []])
    ⟨[], 0, none, none, rfl, by simp, rfl, rfl⟩ fun p l ρ m' ⟨es, here, o, o', em, el, hs, er⟩ => by
      subst em er
      refine ⟨_, m ++ [.lst ((es ++ [(here + p.2, ppl ps)]).map prD)], ?_, es ++ [(here + p.2, ppl ps)], here + p.2, some (.d (.int p.1)), some (.d (.int p.2)), rfl, by simp at el ⊢; omega, by rw [List.append_assoc]; exact hs, rfl⟩
      simp only [prD]
      walk_at "ev"
      rw [if_pos (o_lstU (get_app _ _))]
      walk_at "ev"
      rw [o_app (get_app _ _), if_pos (by simp at el ⊢; omega), set_app]
      walk_at "ev"
      rw [List.map_append]
      rfl
  rw [e2]
  obtain ⟨es, here, o, o', em, el, hs, er⟩ := hp
  subst em er
  walk_at "ev"
  rw [close_cell]
  rw [spE, List.append_nil] at hs
  rw [hs]
/-- the ends, told -/
theorem c_ends' {T : Nat → Option Def} (hT : Sub [50] T) (k : Nat) (ps : Ps) (m : Mem) (h : Va ps) : callF T (k + 1) 50 [.d (kds ps)] m = .ok (.d (.lst ((spt ps).map prD))) m := by
  refine (callT hT k 50 _ m ⟨1, 7, a_law_ends_50, false⟩).trans ?_
  unfold a_law_ends_50
  walk_at "ev"
  rw [lc_map (β := Unit) (f := prD) (g := fun p => .int p.2) ps m fun p _ m => by
    simp only [prD]
    walk_at "ev"]
  walk_at "ev"
  rw [ints_map]
  walk_at "ev"
  have ep : (ps.map fun p => p.2).sum = ppl ps := rfl
  rw [ep]
  have hln := h.ln
  obtain ⟨ρ', m2, e2, hp⟩ := for_st (m0 := m ++ [.lst []]) (f := prD) (b := forB (callF T k) (.tp (.cons (.nm 5) (.cons (.nm 6) .nil))) (.cons (.asg (.nm 4) (.bin .add (.var 4) (.var 6))) (.cons (.app (.var 3) (.tup (.cons (.var 4) (.cons (.var 2) .nil)))) .nil)))
    (fun l ρ m' => ∃ (es : Ps) (here : Int) (o o' : Option U), m' = m ++ [.lst (es.map prD)] ∧ es.length + l.length = ps.length ∧ es ++ spE l here (ppl ps) = spt ps ∧ ρ = [some (.d (kds ps)), none, some (.d (.int (ppl ps))), some (.cell m.length), some (.d (.int here)), o, o']) ps [some (.d (kds ps)), none, some (.d (.int (ppl ps))), some (.cell m.length), some (.d (.int 0)), none, none] (m ++ [.lst []])
    ⟨[], 0, none, none, rfl, by simp, rfl, rfl⟩ fun p l ρ m' ⟨es, here, o, o', em, el, hs, er⟩ => by
      subst em er
      refine ⟨_, m ++ [.lst ((es ++ [(here + p.2, ppl ps)]).map prD)], ?_, es ++ [(here + p.2, ppl ps)], here + p.2, some (.d (.int p.1)), some (.d (.int p.2)), rfl, by simp at el ⊢; omega, by rw [List.append_assoc]; exact hs, rfl⟩
      simp only [prD]
      walk_at "ev"
      rw [if_pos (o_lstU (get_app _ _))]
      walk_at "ev"
      rw [o_app (get_app _ _), if_pos (by simp at el ⊢; omega), set_app]
      walk_at "ev"
      rw [List.map_append]
      rfl
  rw [e2]
  obtain ⟨es, here, o, o', em, el, hs, er⟩ := hp
  subst em er
  walk_at "ev"
  rw [close_cell]
  rw [spE, List.append_nil] at hs
  rw [hs]
end DL
set_option linter.all false
set_option maxRecDepth 100000
set_option maxHeartbeats 4000000
set_option exponentiation.threshold 10000
namespace DL
open PySem L2 TL
local macro_rules | `(tactic| walk_at "ev") => `(tactic| try simp (config := {decide := true}) only [x_asg, x_par, x_aug, x_expr, x_app, x_ite, x_for, x_ret, x_retN, x_brk, x_cont, x_pass, x_nil, x_cons, e_var, e_cst, e_glb, e_tup, e_lst, e_nlst, e_ndic, e_ddic, e_bin, e_neg, e_cmp, e_ch, e_conj, e_disj, e_inv, e_ife, e_idx, e_to, e_fr, e_slen, e_sidx, e_sto, e_call, e_calk, e_blt, e_isi, e_mth, e_sit, e_lc, es_nil, es_cons, cj_nil, cj_last, cj_two, i_seq, i_rng, i_enum, t_nm, t_sub, t_tp, ts_nil, ts_cons, fB, lB, k_nx, k_asg, k_par, k_aug, k_expr, k_app2, k_app, k_b, k_ite, k_for, k_ret, k_seq, k_tup, k_lst, k_nlst, k_bin2, k_bin, k_neg, k_cmp2, k_cmp, k_ch3, k_ch2, k_ch, k_bl, k_inv, k_ife, k_idx2, k_idx, k_to2, k_to, k_fr2, k_fr, k_call, k_calk, k_blt, k_isi, k_mth2, k_mth, k_sit, k_lc2, k_lc, k_slen, k_sidx2, k_sidx, k_sto2, k_sto, k_c2, k_c, k_cj, k_seqI, k_rng, k_enum, k_sub3, k_sub, k_ts, k_fB, k_lB3, k_lB2, k_lB, R.bind_ok, R.bind_no, ofO_some, ofO_none, Option.map_some, Option.map_none, startE, List.map_cons, List.map_nil, List.length_cons, List.length_nil, List.cons_append, List.nil_append, List.append_nil, List.replicate, Nat.reduceAdd, Nat.reduceSub, List.getElem?_cons_zero, List.getElem?_cons_succ, if_true, if_false, Bool.not_true, Bool.not_false, List.set_cons_zero, List.set_cons_succ, List.set_set, wipeE, o_add, o_sub, o_mul, o_fdiv, o_mod, o_pow, o_addS, o_addT, o_addL, o_lt, o_le, o_gt, o_ge, o_eq, o_ne, o_eqS, o_neS, o_isN, o_isnN, o_len, o_lenT, o_lenS, o_int, o_abs, o_min, o_max, o_divmod, o_str, o_tuple, o_sum, o_all, o_repr, o_idxT, o_idxL, at0, at1, at2, ix30, ix31, ix32, c_d, c_n, p_nil, p_cons, s_d, s_n, asB_b, i_tT, i_ii, i_bi, i_ss, q_T, q_L, sq_T, sq_L, List.take_length, decide_true, decide_false, Int.reduceToNat])
theorem for_ret {α : Type} {f : α → D} {b : U → Env → Mem → R O} {m0 m : Mem} (P : List α → Env → Prop) (c : α → Bool) : ∀ (l : List α) (ρ : Env), P l ρ → (∀ x r ρ, P (x :: r) ρ → c x = false → ∃ ρ', b (.d (f x)) ρ m = .ok (.nx ρ') m ∧ P r ρ') → (∀ x r ρ, P (x :: r) ρ → c x = true → b (.d (f x)) ρ m = .ok (.ret (.d (f x))) m) → (l.any c = false ∧ ∃ ρ', forL none m0 b ((l.map f).map .d) ρ m = .ok (.nx ρ') m) ∨ (l.any c = true ∧ ∃ x ∈ l, forL none m0 b ((l.map f).map .d) ρ m = .ok (.ret (.d (f x))) m)
  | [], ρ, hp, h, g => .inl ⟨rfl, ρ, rfl⟩
  | x :: l, ρ, hp, h, g => by
    cases hc : c x with
    | true =>
      have hg := g x l ρ hp hc
      refine .inr ⟨by simp [hc], x, List.mem_cons_self, ?_⟩
      simp only [List.map_cons, forL, hg, R.bind_ok]
    | false =>
      obtain ⟨ρ1, h1, h2⟩ := h x l ρ hp hc
      rcases for_ret (m0 := m0) P c l ρ1 h2 h g with ⟨h3, ρ2, h4⟩ | ⟨h3, y, hy, h4⟩
      · refine .inl ⟨by simp [hc, h3], ρ2, ?_⟩
        simp only [List.map_cons, forL, h1, R.bind_ok, okG, if_true]
        exact h4
      · refine .inr ⟨by simp [hc, h3], y, List.mem_cons_of_mem _ hy, ?_⟩
        simp only [List.map_cons, forL, h1, R.bind_ok, okG, if_true]
        exact h4
/-- as even, told by the spots -/
def evn (ps qs : Ps) : Bool := !(spt ps ++ spt qs).any fun e => les ps qs e.1 e.2
theorem spt_len {ps : Ps} : (spt ps).length = ps.length := spE_len ps 0 _
theorem c_cross {T : Nat → Option Def} (hT : Sub [18, 19, 21, 22, 23] T) (k : Nat) (ps qs : Ps) (m : Mem) (h : Va ps) (g : Va qs) :
    (evn ps qs = true ∧ callF T (k + 3) 23 [.d (kds ps), .d (kds qs)] m = .ok (.d .non) m) ∨ (evn ps qs = false ∧ ∃ e, callF T (k + 3) 23 [.d (kds ps), .d (kds qs)] m = .ok (.d (prD e)) m) := by
  have h0 := callT hT (k + 2) 23 [.d (kds ps), .d (kds qs)] m ⟨2, 6, a_first_crossing_23, false⟩
  have hl1 := h.ln
  have hl2 := g.ln
  rcases for_ret (m0 := m) (m := m) (f := prD) (b := forB (callF T (k + 2)) (.tp (.cons (.nm 2) (.cons (.nm 3) .nil))) (.cons (.par [4, 5] (.cons (.call 21 (.cons (.var 0) (.cons (.var 2) (.cons (.var 3) .nil))) []) (.cons (.call 21 (.cons (.var 1) (.cons (.var 2) (.cons (.var 3) .nil))) []) .nil)))
  (.cons (.ite (.cmp .lt (.bin .mul (.idx (.var 4) (.cst (.int 0))) (.idx (.var 5) (.cst (.int 1)))) (.bin .mul (.idx (.var 5) (.cst (.int 0))) (.idx (.var 4) (.cst (.int 1))))) (.cons (.ret (.tup (.cons (.var 2) (.cons (.var 3) .nil))))
  .nil) .nil)
  .nil))) (fun l ρ => l <:+ spt ps ++ spt qs ∧ ∃ o2 o3 o4 o5 : Option U, ρ = [some (.d (kds ps)), some (.d (kds qs)), o2, o3, o4, o5]) (fun e => les ps qs e.1 e.2) (spt ps ++ spt qs) [some (.d (kds ps)), some (.d (kds qs)), none, none, none, none] ⟨List.suffix_refl _, none, none, none, none, rfl⟩ (fun e r ρ ⟨hs, o2, o3, o4, o5, er⟩ hc => by
      have hm : e ∈ spt ps ++ spt qs := hs.mem List.mem_cons_self
      have hS : Sm e := by
        rcases List.mem_append.mp hm with hm | hm
        · exact spt_sm h e hm
        · exact spt_sm g e hm
      obtain ⟨s1, s2, s3, s4⟩ := hS
      have b1 : e.1 ≤ 10 ^ 100 := Int.le_trans s2 (p10_le (by decide))
      have b2 : e.2 ≤ 10 ^ 100 := Int.le_trans s4 (p10_le (by decide))
      obtain ⟨⟨x1, x2⟩, x3, x4⟩ := shr_b h.pu s1 b1 s3 b2
      obtain ⟨⟨y1, y2⟩, y3, y4⟩ := shr_b g.pu s1 b1 s3 b2
      have hc' := hc
      simp only [les] at hc'
      subst er
      simp only [prD]
      walk_at "ev"
      rw [c_share hT.mono k ps e.1 e.2 m h.pu s1 b1 s3 b2]
      walk_at "ev"
      rw [c_share hT.mono k qs e.1 e.2 m g.pu s1 b1 s3 b2]
      walk_at "ev"
      rw [if_pos (ok_ x1 x2 y3 y4 (by decide))]
      walk_at "ev"
      rw [if_pos (ok_ y1 y2 x3 x4 (by decide))]
      walk_at "ev"
      rw [hc']
      walk_at "ev"
      exact ⟨_, rfl, (List.suffix_cons _ _).trans hs, _, _, _, _, rfl⟩) (fun e r ρ ⟨hs, o2, o3, o4, o5, er⟩ hc => by
      have hm : e ∈ spt ps ++ spt qs := hs.mem List.mem_cons_self
      have hS : Sm e := by
        rcases List.mem_append.mp hm with hm | hm
        · exact spt_sm h e hm
        · exact spt_sm g e hm
      obtain ⟨s1, s2, s3, s4⟩ := hS
      have b1 : e.1 ≤ 10 ^ 100 := Int.le_trans s2 (p10_le (by decide))
      have b2 : e.2 ≤ 10 ^ 100 := Int.le_trans s4 (p10_le (by decide))
      obtain ⟨⟨x1, x2⟩, x3, x4⟩ := shr_b h.pu s1 b1 s3 b2
      obtain ⟨⟨y1, y2⟩, y3, y4⟩ := shr_b g.pu s1 b1 s3 b2
      have hc' := hc
      simp only [les] at hc'
      subst er
      simp only [prD]
      walk_at "ev"
      rw [c_share hT.mono k ps e.1 e.2 m h.pu s1 b1 s3 b2]
      walk_at "ev"
      rw [c_share hT.mono k qs e.1 e.2 m g.pu s1 b1 s3 b2]
      walk_at "ev"
      rw [if_pos (ok_ x1 x2 y3 y4 (by decide))]
      walk_at "ev"
      rw [if_pos (ok_ y1 y2 x3 x4 (by decide))]
      walk_at "ev"
      rw [hc']
      walk_at "ev") with ⟨ha, ρ', e2⟩ | ⟨ha, e, he, e2⟩
  · refine .inl ⟨by unfold evn; rw [ha]; rfl, h0.trans ?_⟩
    unfold a_first_crossing_23
    walk_at "ev"
    rw [c_bends hT.mono k ps m h]
    walk_at "ev"
    rw [c_bends hT.mono k qs m g]
    walk_at "ev"
    rw [if_pos (by simp only [List.length_map, spt_len]; omega)]
    walk_at "ev"
    rw [← List.map_append, e2]
    walk_at "ev"
  · refine .inr ⟨by unfold evn; rw [ha]; rfl, e, h0.trans ?_⟩
    unfold a_first_crossing_23
    walk_at "ev"
    rw [c_bends hT.mono k ps m h]
    walk_at "ev"
    rw [c_bends hT.mono k qs m g]
    walk_at "ev"
    rw [if_pos (by simp only [List.length_map, spt_len]; omega)]
    walk_at "ev"
    rw [← List.map_append, e2]
    walk_at "ev"
theorem c_aseven {T : Nat → Option Def} (hT : Sub [18, 19, 21, 22, 23, 24] T) (k : Nat) (ps qs : Ps) (m : Mem) (h : Va ps) (g : Va qs) :
    callF T (k + 4) 24 [.d (kds ps), .d (kds qs)] m = .ok (.d (.bl (evn ps qs))) m := by
  refine (callT hT (k + 3) 24 _ m ⟨2, 2, a_as_even_24, false⟩).trans ?_
  unfold a_as_even_24
  walk_at "ev"
  rcases c_cross hT.mono k ps qs m h g with ⟨e1, e2⟩ | ⟨e1, e, e2⟩
  · rw [e2, e1]
    walk_at "ev"
  · rw [e2, e1]
    simp only [prD]
    walk_at "ev"
end DL
set_option linter.all false
set_option maxRecDepth 100000
set_option maxHeartbeats 4000000
set_option exponentiation.threshold 10000
namespace DL
open PySem L2 TL
local macro_rules | `(tactic| walk_at "ev") => `(tactic| try simp (config := {decide := true}) only [x_asg, x_par, x_aug, x_expr, x_app, x_ite, x_for, x_ret, x_retN, x_brk, x_cont, x_pass, x_nil, x_cons, e_var, e_cst, e_glb, e_tup, e_lst, e_nlst, e_ndic, e_ddic, e_bin, e_neg, e_cmp, e_ch, e_conj, e_disj, e_inv, e_ife, e_idx, e_to, e_fr, e_slen, e_sidx, e_sto, e_call, e_calk, e_blt, e_isi, e_mth, e_sit, e_lc, es_nil, es_cons, cj_nil, cj_last, cj_two, i_seq, i_rng, i_enum, t_nm, t_sub, t_tp, ts_nil, ts_cons, fB, lB, k_nx, k_asg, k_par, k_aug, k_expr, k_app2, k_app, k_b, k_ite, k_for, k_ret, k_seq, k_tup, k_lst, k_nlst, k_bin2, k_bin, k_neg, k_cmp2, k_cmp, k_ch3, k_ch2, k_ch, k_bl, k_inv, k_ife, k_idx2, k_idx, k_to2, k_to, k_fr2, k_fr, k_call, k_calk, k_blt, k_isi, k_mth2, k_mth, k_sit, k_lc2, k_lc, k_slen, k_sidx2, k_sidx, k_sto2, k_sto, k_c2, k_c, k_cj, k_seqI, k_rng, k_enum, k_sub3, k_sub, k_ts, k_fB, k_lB3, k_lB2, k_lB, R.bind_ok, R.bind_no, ofO_some, ofO_none, Option.map_some, Option.map_none, startE, List.map_cons, List.map_nil, List.length_cons, List.length_nil, List.cons_append, List.nil_append, List.append_nil, List.replicate, Nat.reduceAdd, Nat.reduceSub, List.getElem?_cons_zero, List.getElem?_cons_succ, if_true, if_false, Bool.not_true, Bool.not_false, List.set_cons_zero, List.set_cons_succ, List.set_set, wipeE, o_add, o_sub, o_mul, o_fdiv, o_mod, o_pow, o_addS, o_addT, o_addL, o_lt, o_le, o_gt, o_ge, o_eq, o_ne, o_eqS, o_neS, o_isN, o_isnN, o_len, o_lenT, o_lenS, o_int, o_abs, o_min, o_max, o_divmod, o_str, o_tuple, o_sum, o_all, o_repr, o_idxT, o_idxL, at0, at1, at2, ix30, ix31, ix32, c_d, c_n, p_nil, p_cons, s_d, s_n, asB_b, i_tT, i_ii, i_bi, i_ss, q_T, q_L, sq_T, sq_L, List.take_length, decide_true, decide_false, Int.reduceToNat])
theorem lc_filter {α : Type} {f : α → D} {c : α → Bool} {b : D → Mem → R (Option D)} {m0 : Mem} : ∀ (l : List α) (m : Mem), (∀ x ∈ l, ∀ m, b (f x) m = .ok (if c x then some (f x) else none) m) → lcL none m0 b (l.map f) m = .ok ((l.filter c).map f) m
  | [], m, h => rfl
  | x :: l, m, h => by
    simp only [List.map_cons, lcL, h x List.mem_cons_self, R.bind_ok, okG, if_true, lc_filter l m fun y hy => h y (List.mem_cons_of_mem _ hy), List.filter_cons]
    cases c x <;> rfl
theorem dep_prD : ∀ l : Ps, depL (l.map prD) ≤ 1
  | [] => by simp [depL]
  | p :: l => by
    have := dep_prD l
    simp only [List.map_cons, depL, prD, depD]
    omega
theorem eq_nilD (l : Ps) (m : Mem) : cmpD m .eq (.d (.lst (l.map prD))) (.d (.lst [])) = some l.isEmpty := by
  have h := dep_prD l
  have e : cmpD m .eq (.d (.lst (l.map prD))) (.d (.lst [])) = if depD (.lst (l.map prD)) ≤ 60 ∧ depD (.lst []) ≤ 60 then some (eqvD (.lst (l.map prD)) (.lst [])) else none := rfl
  rw [e, if_pos ⟨by simp only [depD]; omega, by simp [depD, depL]⟩]
  cases l <;> simp [eqvD, eqvL]
theorem c_lawaseven {T : Nat → Option Def} (hT : Sub [48, 49, 50, 57] T) (k : Nat) (ps qs : Ps) (m : Mem) (h : Va ps) (g : Va qs) :
    callF T (k + 3) 57 [.d (kds ps), .d (kds qs)] m = .ok (.d (.bl (evn ps qs))) m := by
  refine (callT hT (k + 2) 57 _ m ⟨2, 4, a_law_as_even_57, false⟩).trans ?_
  unfold a_law_as_even_57
  have hl1 := h.ln
  have hl2 := g.ln
  walk_at "ev"
  rw [c_ends' hT.mono (k + 1) ps m h]
  walk_at "ev"
  rw [c_ends' hT.mono (k + 1) qs m g]
  walk_at "ev"
  rw [if_pos (by simp only [List.length_map, spt_len]; omega)]
  walk_at "ev"
  rw [← List.map_append]
  rw [lc_filter (f := prD) (c := fun e => les ps qs e.1 e.2) (spt ps ++ spt qs) m fun e he m => by
    have hS : Sm e := by
      rcases List.mem_append.mp he with he | he
      · exact spt_sm h e he
      · exact spt_sm g e he
    obtain ⟨s1, s2, s3, s4⟩ := hS
    have b1 : e.1 ≤ 10 ^ 100 := Int.le_trans s2 (p10_le (by decide))
    have b2 : e.2 ≤ 10 ^ 100 := Int.le_trans s4 (p10_le (by decide))
    simp only [prD]
    walk_at "ev"
    rw [c_lawless hT.mono k ps qs e.1 e.2 m h.pu g.pu s1 b1 s3 b2]
    walk_at "ev"
    cases les ps qs e.1 e.2 <;> walk_at "ev"]
  walk_at "ev"
  rw [eq_nilD]
  walk_at "ev"
  have e : ((spt ps ++ spt qs).filter fun e => les ps qs e.1 e.2).isEmpty = evn ps qs := by
    unfold evn
    induction (spt ps ++ spt qs) with
    | nil => rfl
    | cons x l ih =>
      rw [List.filter_cons, List.any_cons]
      cases les ps qs x.1 x.2
      · simpa using ih
      · rfl
  rw [e]
end DL
set_option linter.all false
set_option maxRecDepth 100000
set_option maxHeartbeats 4000000
set_option exponentiation.threshold 10000
namespace DL
open PySem L2 TL
local macro_rules | `(tactic| walk_at "ev") => `(tactic| try simp (config := {decide := true}) only [x_asg, x_par, x_aug, x_expr, x_app, x_ite, x_for, x_ret, x_retN, x_brk, x_cont, x_pass, x_nil, x_cons, e_var, e_cst, e_glb, e_tup, e_lst, e_nlst, e_ndic, e_ddic, e_bin, e_neg, e_cmp, e_ch, e_conj, e_disj, e_inv, e_ife, e_idx, e_to, e_fr, e_slen, e_sidx, e_sto, e_call, e_calk, e_blt, e_isi, e_mth, e_sit, e_lc, es_nil, es_cons, cj_nil, cj_last, cj_two, i_seq, i_rng, i_enum, t_nm, t_sub, t_tp, ts_nil, ts_cons, fB, lB, k_nx, k_asg, k_par, k_aug, k_expr, k_app2, k_app, k_b, k_ite, k_for, k_ret, k_seq, k_tup, k_lst, k_nlst, k_bin2, k_bin, k_neg, k_cmp2, k_cmp, k_ch3, k_ch2, k_ch, k_bl, k_inv, k_ife, k_idx2, k_idx, k_to2, k_to, k_fr2, k_fr, k_call, k_calk, k_blt, k_isi, k_mth2, k_mth, k_sit, k_lc2, k_lc, k_slen, k_sidx2, k_sidx, k_sto2, k_sto, k_c2, k_c, k_cj, k_seqI, k_rng, k_enum, k_sub3, k_sub, k_ts, k_fB, k_lB3, k_lB2, k_lB, R.bind_ok, R.bind_no, ofO_some, ofO_none, Option.map_some, Option.map_none, startE, List.map_cons, List.map_nil, List.length_cons, List.length_nil, List.cons_append, List.nil_append, List.append_nil, List.replicate, Nat.reduceAdd, Nat.reduceSub, List.getElem?_cons_zero, List.getElem?_cons_succ, if_true, if_false, Bool.not_true, Bool.not_false, List.set_cons_zero, List.set_cons_succ, List.set_set, wipeE, o_add, o_sub, o_mul, o_fdiv, o_mod, o_pow, o_addS, o_addT, o_addL, o_lt, o_le, o_gt, o_ge, o_eq, o_ne, o_eqS, o_neS, o_isN, o_isnN, o_len, o_lenT, o_lenS, o_int, o_abs, o_min, o_max, o_divmod, o_str, o_tuple, o_sum, o_all, o_repr, o_idxT, o_idxL, at0, at1, at2, ix30, ix31, ix32, c_d, c_n, p_nil, p_cons, s_d, s_n, asB_b, i_tT, i_ii, i_bi, i_ss, q_T, q_L, sq_T, sq_L, List.take_length, decide_true, decide_false, Int.reduceToNat])
end DL
set_option linter.all false
set_option maxRecDepth 100000
set_option maxHeartbeats 4000000
set_option exponentiation.threshold 10000
namespace DL
open PySem L2 TL
local macro_rules | `(tactic| walk_at "ev") => `(tactic| try simp (config := {decide := true}) only [x_asg, x_par, x_aug, x_expr, x_app, x_ite, x_for, x_ret, x_retN, x_brk, x_cont, x_pass, x_nil, x_cons, e_var, e_cst, e_glb, e_tup, e_lst, e_nlst, e_ndic, e_ddic, e_bin, e_neg, e_cmp, e_ch, e_conj, e_disj, e_inv, e_ife, e_idx, e_to, e_fr, e_slen, e_sidx, e_sto, e_call, e_calk, e_blt, e_isi, e_mth, e_sit, e_lc, es_nil, es_cons, cj_nil, cj_last, cj_two, i_seq, i_rng, i_enum, t_nm, t_sub, t_tp, ts_nil, ts_cons, fB, lB, k_nx, k_asg, k_par, k_aug, k_expr, k_app2, k_app, k_b, k_ite, k_for, k_ret, k_seq, k_tup, k_lst, k_nlst, k_bin2, k_bin, k_neg, k_cmp2, k_cmp, k_ch3, k_ch2, k_ch, k_bl, k_inv, k_ife, k_idx2, k_idx, k_to2, k_to, k_fr2, k_fr, k_call, k_calk, k_blt, k_isi, k_mth2, k_mth, k_sit, k_lc2, k_lc, k_slen, k_sidx2, k_sidx, k_sto2, k_sto, k_c2, k_c, k_cj, k_seqI, k_rng, k_enum, k_sub3, k_sub, k_ts, k_fB, k_lB3, k_lB2, k_lB, R.bind_ok, R.bind_no, ofO_some, ofO_none, Option.map_some, Option.map_none, startE, List.map_cons, List.map_nil, List.length_cons, List.length_nil, List.cons_append, List.nil_append, List.append_nil, List.replicate, Nat.reduceAdd, Nat.reduceSub, List.getElem?_cons_zero, List.getElem?_cons_succ, if_true, if_false, Bool.not_true, Bool.not_false, List.set_cons_zero, List.set_cons_succ, List.set_set, wipeE, o_add, o_sub, o_mul, o_fdiv, o_mod, o_pow, o_addS, o_addT, o_addL, o_lt, o_le, o_gt, o_ge, o_eq, o_ne, o_eqS, o_neS, o_isN, o_isnN, o_len, o_lenT, o_lenS, o_int, o_abs, o_min, o_max, o_divmod, o_str, o_tuple, o_sum, o_all, o_repr, o_idxT, o_idxL, at0, at1, at2, ix30, ix31, ix32, c_d, c_n, p_nil, p_cons, s_d, s_n, asB_b, i_tT, i_ii, i_bi, i_ss, q_T, q_L, sq_T, sq_L, List.take_length, decide_true, decide_false, Int.reduceToNat])
theorem o_dict {m : Mem} {j : Nat} {ks : List (Int × D)} (h : m[j]? = some (.dic ks)) : dictU m (.cell j) = true := by simp only [dictU, h]
def lkQ : Ps → Int → Int
  | [], _ => 0
  | p :: r, x => if p.1 = x then p.2 else lkQ r x
theorem lk_kq (x : Int) : ∀ qs : Ps, (lookK (qs.map kq) x).getD (.int 0) = .int (lkQ qs x)
  | [] => rfl
  | p :: qs => by
    have ih := lk_kq x qs
    show (if p.1 = x then some (D.int p.2) else lookK (qs.map kq) x).getD (.int 0) = .int (if p.1 = x then p.2 else lkQ qs x)
    split
    · rfl
    · exact ih
theorem lkQ_b {c : Int} (x : Int) (hc : 0 ≤ c) : ∀ qs : Ps, (∀ p ∈ qs, 1 ≤ p.2 ∧ p.2 ≤ c) → 0 ≤ lkQ qs x ∧ lkQ qs x ≤ c
  | [], h => ⟨Int.le_refl _, hc⟩
  | p :: qs, h => by
    have ih := lkQ_b x hc qs fun q hq => h q (List.mem_cons_of_mem _ hq)
    have hp := h p List.mem_cons_self
    simp only [lkQ]
    split <;> omega
theorem o_getK {m : Mem} {j : Nat} {qs : Ps} {x : Int} (h : m[j]? = some (.dic (qs.map kq))) : getD m (.cell j) (.d (.int x)) (.d (.int 0)) = some (.int (lkQ qs x)) := by
  simp only [getD, h, lk_kq]
theorem Qs.mono {c c' : Nat} {top many many' : Int} {qs : Ps} (h : Qs c top many qs) (h1 : c ≤ c') (h2 : many ≤ many') : Qs c' top many' qs :=
  ⟨Nat.le_trans h.ln h1, h.nd, fun p hp => by have := h.bd p hp; omega⟩
end DL
set_option linter.all false
set_option maxRecDepth 100000
set_option maxHeartbeats 4000000
set_option exponentiation.threshold 10000
namespace DL
open PySem L2 TL
local macro_rules | `(tactic| walk_at "ev") => `(tactic| try simp (config := {decide := true}) only [x_asg, x_par, x_aug, x_expr, x_app, x_ite, x_for, x_ret, x_retN, x_brk, x_cont, x_pass, x_nil, x_cons, e_var, e_cst, e_glb, e_tup, e_lst, e_nlst, e_ndic, e_ddic, e_bin, e_neg, e_cmp, e_ch, e_conj, e_disj, e_inv, e_ife, e_idx, e_to, e_fr, e_slen, e_sidx, e_sto, e_call, e_calk, e_blt, e_isi, e_mth, e_sit, e_lc, es_nil, es_cons, cj_nil, cj_last, cj_two, i_seq, i_rng, i_enum, t_nm, t_sub, t_tp, ts_nil, ts_cons, fB, lB, k_nx, k_asg, k_par, k_aug, k_expr, k_app2, k_app, k_b, k_ite, k_for, k_ret, k_seq, k_tup, k_lst, k_nlst, k_bin2, k_bin, k_neg, k_cmp2, k_cmp, k_ch3, k_ch2, k_ch, k_bl, k_inv, k_ife, k_idx2, k_idx, k_to2, k_to, k_fr2, k_fr, k_call, k_calk, k_blt, k_isi, k_mth2, k_mth, k_sit, k_lc2, k_lc, k_slen, k_sidx2, k_sidx, k_sto2, k_sto, k_c2, k_c, k_cj, k_seqI, k_rng, k_enum, k_sub3, k_sub, k_ts, k_fB, k_lB3, k_lB2, k_lB, R.bind_ok, R.bind_no, ofO_some, ofO_none, Option.map_some, Option.map_none, startE, List.map_cons, List.map_nil, List.length_cons, List.length_nil, List.cons_append, List.nil_append, List.append_nil, List.replicate, Nat.reduceAdd, Nat.reduceSub, List.getElem?_cons_zero, List.getElem?_cons_succ, if_true, if_false, Bool.not_true, Bool.not_false, List.set_cons_zero, List.set_cons_succ, List.set_set, wipeE, o_add, o_sub, o_mul, o_fdiv, o_mod, o_pow, o_addS, o_addT, o_addL, o_lt, o_le, o_gt, o_ge, o_eq, o_ne, o_eqS, o_neS, o_isN, o_isnN, o_len, o_lenT, o_lenS, o_int, o_abs, o_min, o_max, o_divmod, o_str, o_tuple, o_sum, o_all, o_repr, o_idxT, o_idxL, at0, at1, at2, ix30, ix31, ix32, c_d, c_n, p_nil, p_cons, s_d, s_n, asB_b, i_tT, i_ii, i_bi, i_ss, q_T, q_L, sq_T, sq_L, List.take_length, decide_true, decide_false, Int.reduceToNat])
local macro_rules | `(tactic| simp! [$ls,*]) => `(tactic| simp (config := {decide := true}) (disch := first | assumption | omega | (simp only [List.length_map, List.length_append, List.length_replicate, List.length_cons, List.length_nil, List.length_range]; omega) | solve_by_elim [Bd.mul, Bd.add, Bd.sub, Bd.neg, Bd.lit, Bd.ok, Bd.fok]) only [$ls,*, wp_bind, wp_ok, e_step, e_sset, e_prop, e_meth, e_mk, e_fld, x_setf, e_getw, k_step, k_sset, k_prop, k_meth2, k_meth, k_mk, k_fld, k_setf, k_get3, k_get2, k_get, ins_d, st_0, st_1, x_asg, x_par, x_aug, x_expr, x_app, x_ite, x_for, x_ret, x_retN, x_brk, x_cont, x_pass, x_nil, x_cons, e_var, e_cst, e_glb, e_tup, e_lst, e_nlst, e_ndic, e_ddic, e_bin, e_neg, e_cmp, e_ch, e_conj, e_disj, e_inv, e_ife, e_idx, e_to, e_fr, e_slen, e_sidx, e_sto, e_call, e_calk, e_blt, e_isi, e_mth, e_sit, e_lc, es_nil, es_cons, cj_nil, cj_last, cj_two, i_seq, i_rng, i_enum, t_nm, t_sub, t_tp, ts_nil, ts_cons, fB, lB, k_nx, k_asg, k_par, k_aug, k_expr, k_app2, k_app, k_b, k_ite, k_for, k_ret, k_seq, k_tup, k_lst, k_nlst, k_bin2, k_bin, k_neg, k_cmp2, k_cmp, k_ch3, k_ch2, k_ch, k_bl, k_inv, k_ife, k_idx2, k_idx, k_to2, k_to, k_fr2, k_fr, k_call, k_calk, k_blt, k_isi, k_mth2, k_mth, k_sit, k_lc2, k_lc, k_slen, k_sidx2, k_sidx, k_sto2, k_sto, k_c2, k_c, k_cj, k_seqI, k_rng, k_enum, k_sub3, k_sub, k_ts, k_fB, k_lB3, k_lB2, k_lB, R.bind_ok, R.bind_no, ofO_some, ofO_none, Option.map_some, Option.map_none, startE, List.map_cons, List.map_nil, List.length_cons, List.length_nil, List.cons_append, List.nil_append, List.append_nil, List.replicate, Nat.reduceAdd, Nat.reduceSub, List.getElem?_cons_zero, List.getElem?_cons_succ, if_true, if_false, Bool.not_true, Bool.not_false, List.set_cons_zero, List.set_cons_succ, List.set_set, wipeE, o_add, o_sub, o_pow, o_lt, o_le, o_gt, o_ge, o_eq, o_ne, o_eqS, o_neS, o_isN, o_isnN, o_len, o_lenT, o_lenS, o_int, o_abs, o_min, o_max, o_tuple, o_sum, o_all, o_repr, o_idxT, o_idxL, at0, at1, at2, ix30, ix31, ix32, c_d, c_n, p_nil, p_cons, s_d, s_n, asB_b, i_tT, i_ii, i_bi, i_ss, q_T, q_L, sq_T, sq_L, List.take_length, decide_true, decide_false, Int.reduceToNat])
theorem callT_w {l : List Nat} {T : Nat → Option Def} {Q : U → Mem → Prop} (h : Sub l T) (k f : Nat) (us : List U) (m : Mem) (d : Def) (w : Wp ((exSs (callF T k) d.body (startE d.ns us) m).bind (close d.cel m.length)) Q) (hi : l.contains f = true := by decide) (hd : Tall f = some d := by rfl) (hl : us.length = d.np := by rfl) :
    Wp (callF T (k + 1) f us m) Q := by rw [callT h k f us m d hi hd hl]; exact w
/-- a loop over enumerate -/
theorem wp_enum {α : Type} {f : α → D} {b : U → Env → Mem → R O} {m0 : Mem} {Q : O → Mem → Prop} (xs : List α) (P : Nat → Env → Mem → Prop) {ρ : Env} {m : Mem} (h0 : P 0 ρ m)
    (h : ∀ i x ρ m, xs[i]? = some x → P i ρ m → Wp (b (.d (.tup [.int (i : Int), f x])) ρ m) fun o m' => match o with
      | .nx ρ' => P (i + 1) ρ' m'
      | .ct ρ' => P (i + 1) ρ' m'
      | .brk ρ' => Q (.nx ρ') m'
      | .ret u => Q (.ret u) m')
    (hq : ∀ ρ m, P xs.length ρ m → Q (.nx ρ) m) : Wp (forL none m0 b ((numbered (xs.map f)).map .d) ρ m) Q := by
  have e : numbered (xs.map f) = xs.zipIdx.map fun q => .tup [.int (q.2 : Int), f q.1] := by
    unfold numbered
    rw [List.zipIdx_map, List.map_map]
    rfl
  rw [e]
  refine wp_for (f := fun q : α × Nat => .tup [.int (q.2 : Int), f q.1]) (fun l ρ m => ∃ i, i ≤ xs.length ∧ l = (xs.drop i).zipIdx i ∧ P i ρ m) xs.zipIdx ⟨0, by omega, by simp, h0⟩ (fun q r ρ m ⟨i, hi, e, p⟩ => ?_) (fun ρ m ⟨i, hi, e, p⟩ => ?_)
  · cases hx : xs[i]? with
    | none =>
      have := List.getElem?_eq_none_iff.mp hx
      rw [List.drop_eq_nil_of_le this] at e
      cases e
    | some x =>
      obtain ⟨hl, rfl⟩ := List.getElem?_eq_some_iff.mp hx
      rw [List.drop_eq_getElem_cons hl, List.zipIdx_cons] at e
      simp only [List.cons.injEq] at e
      obtain ⟨rfl, rfl⟩ := e
      refine (h i _ ρ m hx p).mono fun o m' z => ?_
      cases o with
      | nx ρ' => exact ⟨i + 1, hl, rfl, z⟩
      | ct ρ' => exact ⟨i + 1, hl, rfl, z⟩
      | brk ρ' => exact z
      | ret u => exact z
  · have hl := congrArg List.length e
    rw [List.length_nil, List.length_zipIdx, List.length_drop] at hl
    have : i = xs.length := by omega
    subst this
    exact hq ρ m p
abbrev Bs := List (Int × Int × Int)
abbrev bdD (b : Int × Int × Int) : D := .tup [.int b.1, .int b.2.1, .int b.2.2]
abbrev bsD (bs : Bs) : D := .tup (bs.map bdD)
abbrev ruD (bs : Bs) : D := .ins 0 (bsD bs)
def optD : Option Int → D
  | none => .non
  | some i => .int i
/-- the last income of a band -/
def lastO (bs : Bs) (i : Nat) : Option Int := bs[i + 1]?.map fun c => c.1 - 1
/-- what a band leaves -/
def lfB (b : Int × Int × Int) (x : Int) : Int := b.2.1 + b.2.2 * (x - b.1)
/-- the bands of a rule -/
structure Vb (bs : Bs) : Prop where
  ne : bs ≠ []
  ln : bs.length ≤ 8
  h0 : ∀ b, bs[0]? = some b → b.1 = 0
  so : bs.Pairwise (fun a b => a.1 < b.1)
  bd : ∀ b ∈ bs, 0 ≤ b.1 ∧ b.1 ≤ 10 ^ 29 ∧ 0 ≤ b.2.1 ∧ b.2.1 ≤ 10 ^ 32 ∧ -1000 ≤ b.2.2 ∧ b.2.2 ≤ 1000
  lo : ∀ i b, bs[i]? = some b → match lastO bs i with
    | none => 0 ≤ b.2.2
    | some x => 0 ≤ lfB b x
theorem Vb.lt {bs : Bs} (h : Vb bs) {i j : Nat} {b c : Int × Int × Int} (hb : bs[i]? = some b) (hc : bs[j]? = some c) (hij : i < j) : b.1 < c.1 := by
  obtain ⟨h1, rfl⟩ := List.getElem?_eq_some_iff.mp hb
  obtain ⟨h2, rfl⟩ := List.getElem?_eq_some_iff.mp hc
  exact List.pairwise_iff_getElem.mp h.so i j h1 h2 hij
theorem Vb.at_ {bs : Bs} (h : Vb bs) {i : Nat} {b : Int × Int × Int} (hb : bs[i]? = some b) : 0 ≤ b.1 ∧ b.1 ≤ 10 ^ 29 ∧ 0 ≤ b.2.1 ∧ b.2.1 ≤ 10 ^ 32 ∧ -1000 ≤ b.2.2 ∧ b.2.2 ≤ 1000 := h.bd b (List.mem_of_getElem? hb)
theorem inI_t {a b i : Int} (h1 : a ≤ i) (h2 : i ≤ b) : inI a b (.int i) = true := by
  show (decide (a ≤ i) && decide (i ≤ b)) = true
  rw [decide_eq_true h1, decide_eq_true h2]; rfl
theorem e32 : (10 : Int) ^ 32 = 100000000000000000000000000000000 := by decide +kernel
theorem e29 : (10 : Int) ^ 29 = 100000000000000000000000000000 := by decide +kernel
def bfP (b : Int) : Option Int → Prop
  | none => b = 0
  | some s => s < b
/-- the band can stand there -/
theorem c_isband {T : Nat → Option Def} (hT : Sub [0, 1, 3] T) (k : Nat) (b : Int × Int × Int) (bf : Option Int) (m : Mem) (h : 0 ≤ b.1 ∧ b.1 ≤ 10 ^ 29 ∧ 0 ≤ b.2.1 ∧ b.2.1 ≤ 10 ^ 32 ∧ -1000 ≤ b.2.2 ∧ b.2.2 ≤ 1000) (hb : bfP b.1 bf) :
    callF T (k + 3) 3 [.d (bdD b), .d (optD bf)] m = .ok (.d (.bl true)) m := by
  refine (callT hT (k + 2) 3 _ m ⟨2, 4, a_is_band_3, false⟩).trans ?_
  obtain ⟨h1, h2, h3, h4, h5, h6⟩ := h
  rw [e32] at h4
  rw [e29] at h2
  unfold a_is_band_3
  cases bf with
  | none =>
    simp! [optD, c_within hT.mono k (.int b.2.1) _ _ m rfl, c_within hT.mono k (.int b.2.2) _ _ m rfl, c_within hT.mono k (.int b.1) _ _ m rfl, inI_t h3 h4, inI_t h5 h6, inI_t (show (0 : Int) ≤ b.1 by omega) (show b.1 ≤ 0 from by simp [bfP] at hb; omega)]
  | some s =>
    simp! [optD, c_within hT.mono k (.int b.2.1) _ _ m rfl, c_within hT.mono k (.int b.2.2) _ _ m rfl, c_within hT.mono k (.int b.1) _ _ m rfl, inI_t h3 h4, inI_t h5 h6, inI_t (show s + 1 ≤ b.1 by simp [bfP] at hb; omega) h2]
theorem c_wrongband {T : Nat → Option Def} (hT : Sub [0, 1, 3, 4] T) (k : Nat) (bs : Bs) (m : Mem) (h : Vb bs) : callF T (k + 4) 4 [.d (bsD bs)] m = .ok (.d .non) m := by
  refine (callT hT (k + 3) 4 _ m ⟨1, 4, a_wrong_band_4, false⟩).trans ?_
  unfold a_wrong_band_4
  rw [wp_eq]
  simp! [cellG]
  refine wp_enum (f := bdD) bs (fun i ρ m' => m' = m ∧ ∃ (bf : Option Int) (o o' : Option U), ρ = [some (.d (bsD bs)), some (.d (optD bf)), o, o'] ∧ ∀ b, bs[i]? = some b → bfP b.1 bf) ⟨rfl, none, none, none, rfl, fun b hb => h.h0 b hb⟩ ?_ ?_
  · rintro i b ρ m' hb ⟨rfl, bf, o, o', rfl, hh⟩
    have hi := (List.getElem?_eq_some_iff.mp hb).1
    have hl := h.ln
    have c8 : decide ((8 : Int) ≤ (i : Int)) = false := decide_eq_false (by omega)
    simp! [c_isband hT.mono k b bf _ (h.at_ hb) (hh b hb), c8]
    exact ⟨trivial, some b.1, _, _, rfl, fun c hc => h.lt hb hc (by omega)⟩
  · rintro ρ m' ⟨rfl, bf, o, o', rfl, hh⟩
    simp! [true_and]
theorem c_lastof {T : Nat → Option Def} (hT : Sub [5] T) (k : Nat) (bs : Bs) (i : Nat) (m : Mem) : callF T (k + 1) 5 [.d (bsD bs), .d (.int (i : Int))] m = .ok (.d (optD (lastO bs i))) m := by
  refine (callT hT k 5 _ m ⟨2, 2, a_last_of_5, false⟩).trans ?_
  unfold a_last_of_5
  simp! [List.length_map]
  by_cases c : i + 1 < bs.length
  · have e : decide ((i : Int) + 1 < (bs.length : Int)) = true := decide_eq_true (by omega)
    have ea : L2.atI (bs.map bdD) ((i : Int) + 1) = some (bdD bs[i + 1]) := by
      have := atN (xs := bs.map bdD) (k := i + 1) (by rw [List.length_map]; exact c)
      rw [show ((i + 1 : Nat) : Int) = (i : Int) + 1 from rfl] at this
      rw [this, List.getElem?_map, List.getElem?_eq_getElem c]; rfl
    simp! [e, ea]
    simp only [lastO, List.getElem?_eq_getElem c, Option.map_some, optD]
  · have e : decide ((i : Int) + 1 < (bs.length : Int)) = false := decide_eq_false (by omega)
    simp! [e]
    simp only [lastO, List.getElem?_eq_none (Nat.le_of_not_lt c), Option.map_none, optD]
theorem stepOk {s x : Int} (h1 : -1000 ≤ s) (h2 : s ≤ 1000) : mulOk s x := .inl (.inl (by omega))
theorem c_leftin {T : Nat → Option Def} (hT : Sub [6] T) (k : Nat) (b : Int × Int × Int) (x : Int) (m : Mem) (h1 : -1000 ≤ b.2.2) (h2 : b.2.2 ≤ 1000) : callF T (k + 1) 6 [.d (bdD b), .d (.int x)] m = .ok (.d (.int (lfB b x))) m := by
  refine (callT hT k 6 _ m ⟨2, 2, a_left_in_6, false⟩).trans ?_
  unfold a_left_in_6
  simp! [q_mul (stepOk h1 h2)]
  rfl
theorem c_lowest {T : Nat → Option Def} (hT : Sub [5, 6, 7] T) (k : Nat) (bs : Bs) (m : Mem) (h : Vb bs) : callF T (k + 2) 7 [.d (bsD bs)] m = .ok (.d .non) m := by
  refine (callT hT (k + 1) 7 _ m ⟨1, 4, a_lowest_band_7, false⟩).trans ?_
  unfold a_lowest_band_7
  rw [wp_eq]
  simp! [cellG]
  refine wp_enum (f := bdD) bs (fun i ρ m' => m' = m ∧ ∃ o o' o'', ρ = [some (.d (bsD bs)), o, o', o'']) ⟨rfl, _, _, _, rfl⟩ ?_ ?_
  · rintro i b ρ m' hb ⟨rfl, o, o', o'', rfl⟩
    obtain ⟨h1, h2, h3, h4, h5, h6⟩ := h.at_ hb
    have hl := h.lo i b hb
    simp! [c_lastof hT.mono k bs i]
    cases q : lastO bs i with
    | none =>
      rw [q] at hl
      have e : decide (b.2.2 < 0) = false := decide_eq_false (by simp at hl; omega)
      simp! [optD, e]
      exact ⟨trivial, _, _, _, rfl⟩
    | some x =>
      rw [q] at hl
      have e : decide (lfB b x < 0) = false := decide_eq_false (by simp at hl; omega)
      simp! [optD, c_leftin hT.mono k b x _ h5 h6, e]
      exact ⟨trivial, _, _, _, rfl⟩
  · rintro ρ m' ⟨rfl, o, o', o'', rfl⟩
    simp! [true_and]
theorem c_arebands {T : Nat → Option Def} (hT : Sub [0, 1, 3, 4, 5, 6, 7, 8] T) (k : Nat) (bs : Bs) (m : Mem) (h : Vb bs) : callF T (k + 5) 8 [.d (bsD bs)] m = .ok (.d (.bl true)) m := by
  refine (callT hT (k + 4) 8 _ m ⟨1, 1, a_are_bands_8, false⟩).trans ?_
  unfold a_are_bands_8
  have e : decide ((bs.length : Int) = 0) = false := decide_eq_false (by have := List.length_pos_iff.mpr h.ne; omega)
  simp! [List.length_map, e, c_wrongband hT.mono k bs _ h, c_lowest hT.mono (k + 2) bs _ h]
end DL
set_option linter.all false
set_option maxRecDepth 100000
set_option maxHeartbeats 4000000
set_option exponentiation.threshold 10000
namespace DL
open PySem L2 TL
local macro_rules | `(tactic| walk_at "ev") => `(tactic| try simp (config := {decide := true}) only [x_asg, x_par, x_aug, x_expr, x_app, x_ite, x_for, x_ret, x_retN, x_brk, x_cont, x_pass, x_nil, x_cons, e_var, e_cst, e_glb, e_tup, e_lst, e_nlst, e_ndic, e_ddic, e_bin, e_neg, e_cmp, e_ch, e_conj, e_disj, e_inv, e_ife, e_idx, e_to, e_fr, e_slen, e_sidx, e_sto, e_call, e_calk, e_blt, e_isi, e_mth, e_sit, e_lc, es_nil, es_cons, cj_nil, cj_last, cj_two, i_seq, i_rng, i_enum, t_nm, t_sub, t_tp, ts_nil, ts_cons, fB, lB, k_nx, k_asg, k_par, k_aug, k_expr, k_app2, k_app, k_b, k_ite, k_for, k_ret, k_seq, k_tup, k_lst, k_nlst, k_bin2, k_bin, k_neg, k_cmp2, k_cmp, k_ch3, k_ch2, k_ch, k_bl, k_inv, k_ife, k_idx2, k_idx, k_to2, k_to, k_fr2, k_fr, k_call, k_calk, k_blt, k_isi, k_mth2, k_mth, k_sit, k_lc2, k_lc, k_slen, k_sidx2, k_sidx, k_sto2, k_sto, k_c2, k_c, k_cj, k_seqI, k_rng, k_enum, k_sub3, k_sub, k_ts, k_fB, k_lB3, k_lB2, k_lB, R.bind_ok, R.bind_no, ofO_some, ofO_none, Option.map_some, Option.map_none, startE, List.map_cons, List.map_nil, List.length_cons, List.length_nil, List.cons_append, List.nil_append, List.append_nil, List.replicate, Nat.reduceAdd, Nat.reduceSub, List.getElem?_cons_zero, List.getElem?_cons_succ, if_true, if_false, Bool.not_true, Bool.not_false, List.set_cons_zero, List.set_cons_succ, List.set_set, wipeE, o_add, o_sub, o_mul, o_fdiv, o_mod, o_pow, o_addS, o_addT, o_addL, o_lt, o_le, o_gt, o_ge, o_eq, o_ne, o_eqS, o_neS, o_isN, o_isnN, o_len, o_lenT, o_lenS, o_int, o_abs, o_min, o_max, o_divmod, o_str, o_tuple, o_sum, o_all, o_repr, o_idxT, o_idxL, at0, at1, at2, ix30, ix31, ix32, c_d, c_n, p_nil, p_cons, s_d, s_n, asB_b, i_tT, i_ii, i_bi, i_ss, q_T, q_L, sq_T, sq_L, List.take_length, decide_true, decide_false, Int.reduceToNat])
local macro_rules | `(tactic| simp! [$ls,*]) => `(tactic| simp (config := {decide := true}) (disch := first | assumption | omega | (simp only [List.length_map, List.length_append, List.length_replicate, List.length_cons, List.length_nil, List.length_range]; omega) | solve_by_elim [Bd.mul, Bd.add, Bd.sub, Bd.neg, Bd.lit, Bd.ok, Bd.fok]) only [$ls,*, wp_bind, wp_ok, e_step, e_sset, e_prop, e_meth, e_mk, e_fld, x_setf, e_getw, k_step, k_sset, k_prop, k_meth2, k_meth, k_mk, k_fld, k_setf, k_get3, k_get2, k_get, ins_d, st_0, st_1, x_asg, x_par, x_aug, x_expr, x_app, x_ite, x_for, x_ret, x_retN, x_brk, x_cont, x_pass, x_nil, x_cons, e_var, e_cst, e_glb, e_tup, e_lst, e_nlst, e_ndic, e_ddic, e_bin, e_neg, e_cmp, e_ch, e_conj, e_disj, e_inv, e_ife, e_idx, e_to, e_fr, e_slen, e_sidx, e_sto, e_call, e_calk, e_blt, e_isi, e_mth, e_sit, e_lc, es_nil, es_cons, cj_nil, cj_last, cj_two, i_seq, i_rng, i_enum, t_nm, t_sub, t_tp, ts_nil, ts_cons, fB, lB, k_nx, k_asg, k_par, k_aug, k_expr, k_app2, k_app, k_b, k_ite, k_for, k_ret, k_seq, k_tup, k_lst, k_nlst, k_bin2, k_bin, k_neg, k_cmp2, k_cmp, k_ch3, k_ch2, k_ch, k_bl, k_inv, k_ife, k_idx2, k_idx, k_to2, k_to, k_fr2, k_fr, k_call, k_calk, k_blt, k_isi, k_mth2, k_mth, k_sit, k_lc2, k_lc, k_slen, k_sidx2, k_sidx, k_sto2, k_sto, k_c2, k_c, k_cj, k_seqI, k_rng, k_enum, k_sub3, k_sub, k_ts, k_fB, k_lB3, k_lB2, k_lB, R.bind_ok, R.bind_no, ofO_some, ofO_none, Option.map_some, Option.map_none, startE, List.map_cons, List.map_nil, List.length_cons, List.length_nil, List.cons_append, List.nil_append, List.append_nil, List.replicate, Nat.reduceAdd, Nat.reduceSub, List.getElem?_cons_zero, List.getElem?_cons_succ, if_true, if_false, Bool.not_true, Bool.not_false, List.set_cons_zero, List.set_cons_succ, List.set_set, wipeE, o_add, o_sub, o_pow, o_lt, o_le, o_gt, o_ge, o_eq, o_ne, o_eqS, o_neS, o_isN, o_isnN, o_len, o_lenT, o_lenS, o_int, o_abs, o_min, o_max, o_tuple, o_sum, o_all, o_repr, o_idxT, o_idxL, at0, at1, at2, ix30, ix31, ix32, c_d, c_n, p_nil, p_cons, s_d, s_n, asB_b, i_tT, i_ii, i_bi, i_ss, q_T, q_L, sq_T, sq_L, List.take_length, decide_true, decide_false, Int.reduceToNat])
theorem neg_int : ∀ n, n < 1001 → PySem.intText? (str0 (45 :: numL n)) = some (-(n : Int)) := by decide +kernel
theorem digs_neg (n : Nat) : digs (-((n + 1 : Nat) : Int)) = 45 :: numL (n + 1) := by
  show (Str.ofString (toString (Int.negSucc n))).cps.toList = _
  rw [PyProof.Rows.signs_ofString]
  show ("-" ++ Nat.repr (n + 1)).toList.map Char.toNat = _
  rw [String.toList_append, List.map_append, Nat.toList_repr]
  rfl
/-- the signs of a number that may be below 0 -/
theorem digs_cases (i : Int) : (0 ≤ i ∧ digs i = numL i.toNat) ∨ (i < 0 ∧ digs i = 45 :: numL (-i).toNat) := by
  by_cases h : 0 ≤ i
  · exact .inl ⟨h, digs_nn h⟩
  · refine .inr ⟨by omega, ?_⟩
    obtain ⟨n, rfl⟩ : ∃ n : Nat, i = -((n + 1 : Nat) : Int) := ⟨(-i).toNat - 1, by omega⟩
    rw [digs_neg]
    congr 2
theorem digs_free {i : Int} {c : Nat} (h : c < 45 ∨ 57 < c) : c ∉ digs i := by
  rcases digs_cases i with ⟨_, e⟩ | ⟨_, e⟩
  · rw [e]; exact numL_free (by omega)
  · rw [e]
    intro hm
    rcases List.mem_cons.mp hm with rfl | hm
    · omega
    · exact numL_free (by omega) hm
theorem digs_len {i : Int} (h : i.natAbs < 10 ^ 80) : (digs i).length ≤ 81 := by
  rcases digs_cases i with ⟨h1, e⟩ | ⟨h1, e⟩
  · rw [e]
    have := numL_len (n := i.toNat) (k := 80) (by decide) (by omega)
    omega
  · rw [e, List.length_cons]
    have := numL_len (n := (-i).toNat) (k := 80) (by decide) (by omega)
    omega
theorem strOk_i {n : Int} (h : n.natAbs < 10 ^ 80) : strOk n := by
  unfold strOk
  have e : (10 : Nat) ^ 80 ≤ 2 ^ 1900 := by decide +kernel
  refine Nat.lt_of_lt_of_le (m := 1901) ?_ (by decide)
  have h2 : n.natAbs < 2 ^ 1901 := Nat.lt_of_lt_of_le h (Nat.le_trans e (Nat.pow_le_pow_right (by decide) (by decide)))
  by_cases h0 : n.natAbs = 0
  · rw [h0]; decide
  · exact (Nat.log2_lt h0).mpr h2
/-- a number's text is read back -/
def numOk (i : Int) : Prop := (0 ≤ i ∧ i < 10 ^ 80) ∨ (-1000 ≤ i ∧ i < 0)
theorem numOk.abs {i : Int} (h : numOk i) : i.natAbs < 10 ^ 80 := by
  have e : ((10 ^ 80 : Nat) : Int) = (10 : Int) ^ 80 := by norm_cast
  have e1 : (1000 : Int) < 10 ^ 80 := by decide +kernel
  rcases h with h | h <;> omega
theorem c_readnum2 {T : Nat → Option Def} (hT : Sub [2] T) (k : Nat) (i : Int) (m : Mem) (h : numOk i) : callF T (k + 1) 2 [.d (.str (digs i))] m = .ok (.d (.int i)) m := by
  have ha := h.abs
  rcases digs_cases i with ⟨h1, e⟩ | ⟨h1, e⟩
  · rw [e, c_readnum hT k _ m (by omega), Int.toNat_of_nonneg h1]
  · refine (callT hT k 2 _ m ⟨1, 4, a_read_number_2, false⟩).trans ?_
    have hn : (-i).toNat < 1001 := by
      have e1 : ¬ (0 ≤ i) := by omega
      rcases h with h | h <;> omega
    have hl : (numL (-i).toNat).length ≤ 80 := numL_len (by decide) (by omega)
    have hd := numL_digits (-i).toNat
    have hs : Txt.startswith (str0 (45 :: numL (-i).toNat)) (str0 [45]) = true := by
      have e : (⟨#[45]⟩ : Str).length = 1 := rfl
      simp [Txt.startswith, Builtin.Str.subAt, str0, e]
      show 1 ≤ (45 :: numL (-i).toNat).toArray.size
      simp
    have hne : (numL (-i).toNat == ([] : List Nat)) = false := by rw [beq_eq_false_iff_ne]; exact numL_ne _
    have hc : cutL (45 :: numL (-i).toNat) (some 1) none = numL (-i).toNat := by
      unfold cutL
      have e1 : HT.sIx (45 :: numL (-i).toNat).length 0 (some 1) = 1 := by
        have := HT.sIx_nat (n := (45 :: numL (-i).toNat).length) (d := 0) (k := 1)
        rw [show ((1 : Nat) : Int) = 1 from rfl] at this
        rw [this, List.length_cons]; omega
      have e2 : HT.sIx (45 :: numL (-i).toNat).length (45 :: numL (-i).toNat).length none = (45 :: numL (-i).toNat).length := rfl
      rw [e1, e2]
      simp
    rw [e]
    unfold a_read_number_2
    walk_at "ev"
    rw [o_sw, hs]
    walk_at "ev"
    have sl : slcD m (.d (.str (45 :: numL (-i).toNat))) (some 1) none = some (.str (numL (-i).toNat)) := by
      unfold slcD
      simp only
      rw [if_pos (by simp; omega), hc]
    rw [sl]
    walk_at "ev"
    rw [hne]
    walk_at "ev"
    rw [if_pos (by omega)]
    walk_at "ev"
    have c1 : decide ((80 : Int) < ((numL (-i).toNat).length : Int)) = false := by rw [decide_eq_false_iff_not]; omega
    rw [c1]
    walk_at "ev"
    rw [q_S, if_pos (by omega)]
    walk_at "ev"
    rw [lc_map (β := Unit) (f := fun c => .str [c]) (g := fun _ => .bl true) (numL (-i).toNat) m fun c hc m => by
      walk_at "ev"
      have h1 := hd c hc
      rw [o_inS]
      walk_at "ev"
      have : decide (c ∈ [48, 49, 50, 51, 52, 53, 54, 55, 56, 57]) = true := by
        rw [decide_eq_true_eq]
        simp only [List.mem_cons, List.not_mem_nil, or_false]
        omega
      rw [this]]
    walk_at "ev"
    have hb : ∀ l : List Nat, (boolsD (l.map fun _ => .bl true)).map (fun bs => D.bl (bs.all id)) = some (.bl true) := by
      intro l
      have : boolsD (l.map fun _ => D.bl true) = some (l.map fun _ => true) := by
        induction l with
        | nil => rfl
        | cons a l ih => simp only [List.map_cons, boolsD, ih, Option.map_some]
      rw [this]
      simp
    rw [hb]
    walk_at "ev"
    have hi : -(((-i).toNat : Nat) : Int) = i := by omega
    rw [o_intS, if_pos (by simp; omega), neg_int _ hn, hi]
    simp! [q_str (strOk_i ha), e, beq_self_eq_true]
/-- the text of a band -/
def line3 (b : Int × Int × Int) : List Nat := [102, 114, 111, 109, 32] ++ digs b.1 ++ [32, 118, 97, 108, 117, 101, 32] ++ digs b.2.1 ++ [32, 115, 116, 101, 112, 32] ++ digs b.2.2
def tx3 (bs : Bs) : List Nat := DL.joinL [10] (bs.map line3)
def num3 (b : Int × Int × Int) : Prop := numOk b.1 ∧ numOk b.2.1 ∧ numOk b.2.2
theorem line3_len {b : Int × Int × Int} (h : num3 b) : (line3 b).length ≤ 280 := by
  have a := digs_len h.1.abs
  have b1 := digs_len h.2.1.abs
  have c := digs_len h.2.2.abs
  simp [line3]; omega
theorem line3_nl (b : Int × Int × Int) : 10 ∉ line3 b := by
  unfold line3
  intro hm
  simp only [List.mem_append] at hm
  rcases hm with ((((hm | hm) | hm) | hm) | hm) | hm
  · revert hm; decide
  · exact digs_free (by decide) hm
  · revert hm; decide
  · exact digs_free (by decide) hm
  · revert hm; decide
  · exact digs_free (by decide) hm
theorem split_line3 (b : Int × Int × Int) : splitD (line3 b) [32] = [.str [102, 114, 111, 109], .str (digs b.1), .str [118, 97, 108, 117, 101], .str (digs b.2.1), .str [115, 116, 101, 112], .str (digs b.2.2)] := by
  have := split_D (sep := 32) (by decide) (parts := [[102, 114, 111, 109], digs b.1, [118, 97, 108, 117, 101], digs b.2.1, [115, 116, 101, 112], digs b.2.2]) (by simp) (fun q hq => by
    simp only [List.mem_cons, List.not_mem_nil, or_false] at hq
    rcases hq with rfl | rfl | rfl | rfl | rfl | rfl
    · decide
    · exact digs_free (by decide)
    · decide
    · exact digs_free (by decide)
    · decide
    · exact digs_free (by decide))
  simp only [List.map_cons, List.map_nil] at this
  rw [← this]
  congr 1
  simp [line3, DL.joinL]
theorem c_readband {T : Nat → Option Def} (hT : Sub [2, 9] T) (k : Nat) (b : Int × Int × Int) (m : Mem) (h : num3 b) : callF T (k + 2) 9 [.d (.str (line3 b))] m = .ok (.d (bdD b)) m := by
  refine (callT hT (k + 1) 9 _ m ⟨1, 4, a_read_band_9, false⟩).trans ?_
  have hl := line3_len h
  unfold a_read_band_9
  simp! [o_spl]
  rw [if_pos ⟨by simp, by omega⟩, split_line3]
  have e0 : (evens [D.str [102, 114, 111, 109], D.str (digs b.1), D.str [118, 97, 108, 117, 101], D.str (digs b.2.1), D.str [115, 116, 101, 112], D.str (digs b.2.2)]) = [D.str [102, 114, 111, 109], D.str [118, 97, 108, 117, 101], D.str [115, 116, 101, 112]] := rfl
  have e1 : (evens (List.drop 1 [D.str [102, 114, 111, 109], D.str (digs b.1), D.str [118, 97, 108, 117, 101], D.str (digs b.2.1), D.str [115, 116, 101, 112], D.str (digs b.2.2)])) = [b.1, b.2.1, b.2.2].map fun i => D.str (digs i) := rfl
  have e2 : cmpD m .ne (.d (.lst [D.str [102, 114, 111, 109], D.str [118, 97, 108, 117, 101], D.str [115, 116, 101, 112]])) (.d (.lst [D.str [102, 114, 111, 109], D.str [118, 97, 108, 117, 101], D.str [115, 116, 101, 112]])) = some false := rfl
  simp! [e0, e2, e1]
  rw [show ([D.str (digs b.1), D.str (digs b.2.1), D.str (digs b.2.2)] : List D) = [b.1, b.2.1, b.2.2].map fun i => D.str (digs i) from rfl]
  rw [lc_map (β := Unit) (f := fun i : Int => D.str (digs i)) (g := fun i => D.int i) [b.1, b.2.1, b.2.2] m fun i hi m => by
    have hn : numOk i := by
      simp only [List.mem_cons, List.not_mem_nil, or_false] at hi
      rcases hi with rfl | rfl | rfl
      · exact h.1
      · exact h.2.1
      · exact h.2.2
    simp! [c_readnum2 hT.mono k i m hn]]
  have e3 : cmpD m .isin (.d .non) (.d (.lst [.int b.1, .int b.2.1, .int b.2.2])) = some false := rfl
  simp! [e3]
theorem txt3_len {bs : Bs} (hl : bs.length ≤ 8) (h : ∀ b ∈ bs, num3 b) : (tx3 bs).length + 2 ≤ 16777216 := by
  have aux : ∀ (l : List (List Nat)), (∀ x ∈ l, x.length ≤ 280) → (DL.joinL [10] l).length ≤ l.length * 281 := by
    intro l
    induction l with
    | nil => intro _; simp [DL.joinL]
    | cons x l ih =>
      intro hx
      have h1 := hx x List.mem_cons_self
      have h2 := ih fun y hy => hx y (List.mem_cons_of_mem _ hy)
      cases l with
      | nil => simp [DL.joinL]; omega
      | cons y l =>
        simp only [DL.joinL, List.length_append, List.length_cons, List.length_nil] at h2 ⊢
        omega
  have := aux (bs.map line3) fun x hx => by
    obtain ⟨p, hp, rfl⟩ := List.mem_map.mp hx
    exact line3_len (h p hp)
  rw [List.length_map] at this
  unfold tx3
  have : bs.length * 281 ≤ 8 * 281 := Nat.mul_le_mul_right _ hl
  omega
theorem split_tx3 {bs : Bs} (hn : bs ≠ []) : splitD (tx3 bs) [10] = bs.map fun b => .str (line3 b) := by
  unfold tx3
  rw [split_D (sep := 10) (by decide) (by simpa using hn) (fun q hq => by
    obtain ⟨p, hp, rfl⟩ := List.mem_map.mp hq
    exact line3_nl p), List.map_map]
  rfl
theorem Vb.num {bs : Bs} (h : Vb bs) : ∀ b ∈ bs, num3 b := fun b hb => by
  obtain ⟨h1, h2, h3, h4, h5, h6⟩ := h.bd b hb
  have e1 : (10 : Int) ^ 29 < 10 ^ 80 := by decide +kernel
  have e2 : (10 : Int) ^ 32 < 10 ^ 80 := by decide +kernel
  have e3 : (1000 : Int) < 10 ^ 80 := by decide +kernel
  refine ⟨.inl ⟨h1, by omega⟩, .inl ⟨h3, by omega⟩, ?_⟩
  by_cases c : 0 ≤ b.2.2
  · exact .inl ⟨c, by omega⟩
  · exact .inr ⟨h5, by omega⟩
theorem c_readrule {T : Nat → Option Def} (hT : Sub [0, 1, 2, 3, 4, 5, 6, 7, 8, 9, 10] T) (k : Nat) (bs : Bs) (m : Mem) (h : Vb bs) : callF T (k + 6) 10 [.d (.str (tx3 bs))] m = .ok (.d (bsD bs)) m := by
  refine (callT hT (k + 5) 10 _ m ⟨1, 3, a_read_rule_10, false⟩).trans ?_
  unfold a_read_rule_10
  simp! [o_spl]
  rw [if_pos ⟨by simp, txt3_len h.ln h.num⟩, split_tx3 h.ne]
  simp! [true_and]
  rw [lc_map (β := Unit) (f := fun b => D.str (line3 b)) (g := bdD) bs m fun b hb m => by
    simp! [c_readband hT.mono (k + 3) b m (h.num b hb)]]
  simp! [c_arebands hT.mono k bs m h]
end DL
set_option linter.all false
set_option maxRecDepth 100000
set_option maxHeartbeats 4000000
set_option exponentiation.threshold 10000
namespace DL
open PySem L2 TL
local macro_rules | `(tactic| walk_at "ev") => `(tactic| try simp (config := {decide := true}) only [x_asg, x_par, x_aug, x_expr, x_app, x_ite, x_for, x_ret, x_retN, x_brk, x_cont, x_pass, x_nil, x_cons, e_var, e_cst, e_glb, e_tup, e_lst, e_nlst, e_ndic, e_ddic, e_bin, e_neg, e_cmp, e_ch, e_conj, e_disj, e_inv, e_ife, e_idx, e_to, e_fr, e_slen, e_sidx, e_sto, e_call, e_calk, e_blt, e_isi, e_mth, e_sit, e_lc, es_nil, es_cons, cj_nil, cj_last, cj_two, i_seq, i_rng, i_enum, t_nm, t_sub, t_tp, ts_nil, ts_cons, fB, lB, k_nx, k_asg, k_par, k_aug, k_expr, k_app2, k_app, k_b, k_ite, k_for, k_ret, k_seq, k_tup, k_lst, k_nlst, k_bin2, k_bin, k_neg, k_cmp2, k_cmp, k_ch3, k_ch2, k_ch, k_bl, k_inv, k_ife, k_idx2, k_idx, k_to2, k_to, k_fr2, k_fr, k_call, k_calk, k_blt, k_isi, k_mth2, k_mth, k_sit, k_lc2, k_lc, k_slen, k_sidx2, k_sidx, k_sto2, k_sto, k_c2, k_c, k_cj, k_seqI, k_rng, k_enum, k_sub3, k_sub, k_ts, k_fB, k_lB3, k_lB2, k_lB, R.bind_ok, R.bind_no, ofO_some, ofO_none, Option.map_some, Option.map_none, startE, List.map_cons, List.map_nil, List.length_cons, List.length_nil, List.cons_append, List.nil_append, List.append_nil, List.replicate, Nat.reduceAdd, Nat.reduceSub, List.getElem?_cons_zero, List.getElem?_cons_succ, if_true, if_false, Bool.not_true, Bool.not_false, List.set_cons_zero, List.set_cons_succ, List.set_set, wipeE, o_add, o_sub, o_mul, o_fdiv, o_mod, o_pow, o_addS, o_addT, o_addL, o_lt, o_le, o_gt, o_ge, o_eq, o_ne, o_eqS, o_neS, o_isN, o_isnN, o_len, o_lenT, o_lenS, o_int, o_abs, o_min, o_max, o_divmod, o_str, o_tuple, o_sum, o_all, o_repr, o_idxT, o_idxL, at0, at1, at2, ix30, ix31, ix32, c_d, c_n, p_nil, p_cons, s_d, s_n, asB_b, i_tT, i_ii, i_bi, i_ss, q_T, q_L, sq_T, sq_L, List.take_length, decide_true, decide_false, Int.reduceToNat])
local macro_rules | `(tactic| simp! [$ls,*]) => `(tactic| simp (config := {decide := true}) (disch := first | assumption | omega | (simp only [List.length_map, List.length_append, List.length_replicate, List.length_cons, List.length_nil, List.length_range]; omega) | solve_by_elim [Bd.mul, Bd.add, Bd.sub, Bd.neg, Bd.lit, Bd.ok, Bd.fok]) only [$ls,*, wp_bind, wp_ok, e_step, e_sset, e_prop, e_meth, e_mk, e_fld, x_setf, e_getw, k_step, k_sset, k_prop, k_meth2, k_meth, k_mk, k_fld, k_setf, k_get3, k_get2, k_get, ins_d, st_0, st_1, x_asg, x_par, x_aug, x_expr, x_app, x_ite, x_for, x_ret, x_retN, x_brk, x_cont, x_pass, x_nil, x_cons, e_var, e_cst, e_glb, e_tup, e_lst, e_nlst, e_ndic, e_ddic, e_bin, e_neg, e_cmp, e_ch, e_conj, e_disj, e_inv, e_ife, e_idx, e_to, e_fr, e_slen, e_sidx, e_sto, e_call, e_calk, e_blt, e_isi, e_mth, e_sit, e_lc, es_nil, es_cons, cj_nil, cj_last, cj_two, i_seq, i_rng, i_enum, t_nm, t_sub, t_tp, ts_nil, ts_cons, fB, lB, k_nx, k_asg, k_par, k_aug, k_expr, k_app2, k_app, k_b, k_ite, k_for, k_ret, k_seq, k_tup, k_lst, k_nlst, k_bin2, k_bin, k_neg, k_cmp2, k_cmp, k_ch3, k_ch2, k_ch, k_bl, k_inv, k_ife, k_idx2, k_idx, k_to2, k_to, k_fr2, k_fr, k_call, k_calk, k_blt, k_isi, k_mth2, k_mth, k_sit, k_lc2, k_lc, k_slen, k_sidx2, k_sidx, k_sto2, k_sto, k_c2, k_c, k_cj, k_seqI, k_rng, k_enum, k_sub3, k_sub, k_ts, k_fB, k_lB3, k_lB2, k_lB, R.bind_ok, R.bind_no, ofO_some, ofO_none, Option.map_some, Option.map_none, startE, List.map_cons, List.map_nil, List.length_cons, List.length_nil, List.cons_append, List.nil_append, List.append_nil, List.replicate, Nat.reduceAdd, Nat.reduceSub, List.getElem?_cons_zero, List.getElem?_cons_succ, if_true, if_false, Bool.not_true, Bool.not_false, List.set_cons_zero, List.set_cons_succ, List.set_set, wipeE, o_add, o_sub, o_pow, o_lt, o_le, o_gt, o_ge, o_eq, o_ne, o_eqS, o_neS, o_isN, o_isnN, o_len, o_lenT, o_lenS, o_int, o_abs, o_min, o_max, o_tuple, o_sum, o_all, o_repr, o_idxT, o_idxL, at0, at1, at2, ix30, ix31, ix32, c_d, c_n, p_nil, p_cons, s_d, s_n, asB_b, i_tT, i_ii, i_bi, i_ss, q_T, q_L, sq_T, sq_L, List.take_length, decide_true, decide_false, Int.reduceToNat])
theorem c_init {T : Nat → Option Def} (hT : Sub [0, 1, 3, 4, 5, 6, 7, 64] T) (k : Nat) (bs : Bs) (m : Mem) (h : Vb bs) : callF T (k + 5) 64 [.cell m.length, .d (bsD bs)] (m ++ [.ins 0 none]) = .ok (.d .non) (m ++ [.ins 0 (some (bsD bs))]) := by
  refine (callT hT (k + 4) 64 _ _ ⟨2, 3, a_Rule_init_64, false⟩).trans ?_
  unfold a_Rule_init_64
  have e : decide ((bs.length : Int) = 0) = false := decide_eq_false (by have := List.length_pos_iff.mpr h.ne; omega)
  have e1 : ∀ ob, (m ++ [ob] : Mem)[m.length]? = some ob := fun ob => by simp
  simp! [List.length_map, e, c_wrongband hT.mono k bs _ h, c_lowest hT.mono (k + 2) bs _ h, k_setf2, e1]
  have ht : List.take (m.length + 1) (m ++ [Ob.ins 0 (some (bsD bs))]) = m ++ [Ob.ins 0 (some (bsD bs))] := List.take_of_length_le (by simp)
  simp
  exact ht
theorem c_mk {T : Nat → Option Def} (hT : Sub [0, 1, 3, 4, 5, 6, 7, 64] T) (k : Nat) (bs : Bs) (m : Mem) (h : Vb bs) : k_mk (callF T (k + 5)) 64 0 (.d (bsD bs)) m = .ok (.d (ruD bs)) m := by
  unfold k_mk
  rw [c_init hT k bs m h, R.bind_ok]
  have e1 : (m ++ [.ins 0 (some (bsD bs))] : Mem)[m.length]? = some (.ins 0 (some (bsD bs))) := by simp
  unfold k_mk2
  rw [e1]
  simp
/-- how many bands begin there or before -/
def bat (bs : Bs) (x : Int) : Nat := (bs.filter fun b => decide (b.1 ≤ x)).length
/-- what a rule leaves -/
def lf (bs : Bs) (x : Int) : Int := match bs[bat bs x - 1]? with
  | some b => lfB b x
  | none => 0
theorem filt_nil {x : Int} {a : Int × Int × Int} {r : Bs} (h : ∀ b ∈ r, a.1 < b.1) (ha : ¬ a.1 ≤ x) : r.filter (fun b => decide (b.1 ≤ x)) = [] := by
  rw [List.filter_eq_nil_iff]
  intro b hb
  have := h b hb
  rw [decide_eq_true_eq]
  omega
theorem bat_iff {x : Int} : ∀ {bs : Bs}, bs.Pairwise (fun a b => a.1 < b.1) → ∀ {i : Nat} {b : Int × Int × Int}, bs[i]? = some b → (b.1 ≤ x ↔ i < bat bs x)
  | [], _, i, b, hb => by cases hb
  | a :: r, h, i, b, hb => by
    rw [List.pairwise_cons] at h
    unfold bat
    rw [List.filter_cons]
    by_cases ha : a.1 ≤ x
    · rw [if_pos (decide_eq_true ha), List.length_cons]
      cases i with
      | zero => simp only [List.getElem?_cons_zero, Option.some.injEq] at hb; subst hb; simp [ha]
      | succ i =>
        have := bat_iff (x := x) h.2 (i := i) (b := b) (by simpa using hb)
        unfold bat at this
        rw [this]; omega
    · rw [if_neg (by simpa using ha), filt_nil h.1 ha]
      cases i with
      | zero => simp only [List.getElem?_cons_zero, Option.some.injEq] at hb; subst hb; simp; omega
      | succ i =>
        have := h.1 b (List.mem_of_getElem? (show r[i]? = some b by simpa using hb))
        simp; omega
theorem bat_fm {x : Int} : ∀ {bs : Bs} (n : Nat), bs.Pairwise (fun a b => a.1 < b.1) → (bs.zipIdx n).filterMap (fun q => if q.1.1 ≤ x then some (D.int (q.2 : Int)) else none) = (List.range' n (bat bs x)).map fun (i : Nat) => D.int (i : Int)
  | [], n, _ => rfl
  | a :: r, n, h => by
    rw [List.pairwise_cons] at h
    rw [List.zipIdx_cons, List.filterMap_cons]
    unfold bat
    rw [List.filter_cons]
    by_cases ha : a.1 ≤ x
    · rw [if_pos ha, if_pos (decide_eq_true ha), List.length_cons, List.range'_succ, List.map_cons]
      have := bat_fm (x := x) (bs := r) (n + 1) h.2
      unfold bat at this
      simp only [this]
    · rw [if_neg ha, if_neg (by simpa using ha), filt_nil h.1 ha]
      simp only [List.length_nil, List.range'_zero, List.map_nil]
      refine List.filterMap_eq_nil_iff.mpr fun q hq => ?_
      have hm : q.1 ∈ r := (List.mem_zipIdx hq).2.2 ▸ List.getElem_mem _
      have := h.1 q.1 hm
      rw [if_neg (by omega)]
theorem Vb.bat_pos {bs : Bs} (h : Vb bs) {x : Int} (hx : 0 ≤ x) : 0 < bat bs x ∧ bat bs x ≤ bs.length := by
  refine ⟨?_, List.length_filter_le _ _⟩
  cases q : bs[0]? with
  | none => exact absurd (List.eq_nil_of_length_eq_zero (by have := List.getElem?_eq_none_iff.mp q; omega)) h.ne
  | some b => exact (bat_iff h.so q).mp (by rw [h.h0 b q]; exact hx)
theorem num_bs (bs : Bs) : numbered (bs.map bdD) = bs.zipIdx.map fun q => .tup [.int (q.2 : Int), bdD q.1] := by
  unfold numbered
  rw [List.zipIdx_map, List.map_map]
  rfl
theorem c_bandat {T : Nat → Option Def} (hT : Sub [11] T) (k : Nat) (bs : Bs) (x : Int) (m : Mem) (h : Vb bs) (hx : 0 ≤ x) : callF T (k + 1) 11 [.d (bsD bs), .d (.int x)] m = .ok (.d (.int ((bat bs x - 1 : Nat) : Int))) m := by
  refine (callT hT k 11 _ m ⟨2, 4, a_band_at_11, false⟩).trans ?_
  unfold a_band_at_11
  simp! [cellG, num_bs]
  rw [lc_fm (f := fun q : (Int × Int × Int) × Nat => .tup [.int (q.2 : Int), bdD q.1]) (g := fun q => if q.1.1 ≤ x then some (D.int (q.2 : Int)) else none) bs.zipIdx m fun q hq => by
    by_cases c : q.1.1 ≤ x
    · simp! [decide_eq_true c, if_pos c]
    · simp! [decide_eq_false c, if_neg c], bat_fm 0 h.so]
  obtain ⟨hp, hl⟩ := h.bat_pos hx
  have e : L2.atI ((List.range' 0 (bat bs x)).map fun (i : Nat) => D.int (i : Int)) (-1) = some (D.int ((bat bs x - 1 : Nat) : Int)) := by
    refine atLast ?_
    rw [List.getLast?_map, List.getLast?_range', if_neg (by omega)]
    simp
  simp! [e]
theorem Vb.get {bs : Bs} (h : Vb bs) {x : Int} (hx : 0 ≤ x) : ∃ b, bs[bat bs x - 1]? = some b ∧ lf bs x = lfB b x := by
  obtain ⟨hp, hl⟩ := h.bat_pos hx
  have hi : bat bs x - 1 < bs.length := by omega
  refine ⟨bs[bat bs x - 1], List.getElem?_eq_getElem hi, ?_⟩
  unfold lf
  rw [List.getElem?_eq_getElem hi]
theorem c_at {T : Nat → Option Def} (hT : Sub [6, 11, 66] T) (k : Nat) (bs : Bs) (x : Int) (m : Mem) (h : Vb bs) (hx : 0 ≤ x) : callF T (k + 2) 66 [.d (ruD bs), .d (.int x)] m = .ok (.d (.int (lf bs x))) m := by
  refine (callT hT (k + 1) 66 _ m ⟨2, 2, a_Rule_at_66, false⟩).trans ?_
  obtain ⟨b, hb, hf⟩ := h.get hx
  obtain ⟨h1, h2, h3, h4, h5, h6⟩ := h.at_ hb
  have e : L2.atI (bs.map bdD) ((bat bs x - 1 : Nat) : Int) = some (bdD b) := by
    obtain ⟨hl, rfl⟩ := List.getElem?_eq_some_iff.mp hb
    rw [atN (by rw [List.length_map]; exact hl), List.getElem?_map, List.getElem?_eq_getElem hl]; rfl
  unfold a_Rule_at_66
  simp! [c_bandat hT.mono k bs x _ h hx, e, c_leftin hT.mono k b x _ h5 h6, hf]
end DL
set_option linter.all false
set_option maxRecDepth 100000
set_option maxHeartbeats 4000000
set_option exponentiation.threshold 10000
namespace DL
open PySem L2 TL
local macro_rules | `(tactic| walk_at "ev") => `(tactic| try simp (config := {decide := true}) only [x_asg, x_par, x_aug, x_expr, x_app, x_ite, x_for, x_ret, x_retN, x_brk, x_cont, x_pass, x_nil, x_cons, e_var, e_cst, e_glb, e_tup, e_lst, e_nlst, e_ndic, e_ddic, e_bin, e_neg, e_cmp, e_ch, e_conj, e_disj, e_inv, e_ife, e_idx, e_to, e_fr, e_slen, e_sidx, e_sto, e_call, e_calk, e_blt, e_isi, e_mth, e_sit, e_lc, es_nil, es_cons, cj_nil, cj_last, cj_two, i_seq, i_rng, i_enum, t_nm, t_sub, t_tp, ts_nil, ts_cons, fB, lB, k_nx, k_asg, k_par, k_aug, k_expr, k_app2, k_app, k_b, k_ite, k_for, k_ret, k_seq, k_tup, k_lst, k_nlst, k_bin2, k_bin, k_neg, k_cmp2, k_cmp, k_ch3, k_ch2, k_ch, k_bl, k_inv, k_ife, k_idx2, k_idx, k_to2, k_to, k_fr2, k_fr, k_call, k_calk, k_blt, k_isi, k_mth2, k_mth, k_sit, k_lc2, k_lc, k_slen, k_sidx2, k_sidx, k_sto2, k_sto, k_c2, k_c, k_cj, k_seqI, k_rng, k_enum, k_sub3, k_sub, k_ts, k_fB, k_lB3, k_lB2, k_lB, R.bind_ok, R.bind_no, ofO_some, ofO_none, Option.map_some, Option.map_none, startE, List.map_cons, List.map_nil, List.length_cons, List.length_nil, List.cons_append, List.nil_append, List.append_nil, List.replicate, Nat.reduceAdd, Nat.reduceSub, List.getElem?_cons_zero, List.getElem?_cons_succ, if_true, if_false, Bool.not_true, Bool.not_false, List.set_cons_zero, List.set_cons_succ, List.set_set, wipeE, o_add, o_sub, o_mul, o_fdiv, o_mod, o_pow, o_addS, o_addT, o_addL, o_lt, o_le, o_gt, o_ge, o_eq, o_ne, o_eqS, o_neS, o_isN, o_isnN, o_len, o_lenT, o_lenS, o_int, o_abs, o_min, o_max, o_divmod, o_str, o_tuple, o_sum, o_all, o_repr, o_idxT, o_idxL, at0, at1, at2, ix30, ix31, ix32, c_d, c_n, p_nil, p_cons, s_d, s_n, asB_b, i_tT, i_ii, i_bi, i_ss, q_T, q_L, sq_T, sq_L, List.take_length, decide_true, decide_false, Int.reduceToNat])
local macro_rules | `(tactic| simp! [$ls,*]) => `(tactic| simp (config := {decide := true}) (disch := first | assumption | omega | (simp only [List.length_map, List.length_append, List.length_replicate, List.length_cons, List.length_nil, List.length_range]; omega) | solve_by_elim [Bd.mul, Bd.add, Bd.sub, Bd.neg, Bd.lit, Bd.ok, Bd.fok]) only [$ls,*, wp_bind, wp_ok, e_step, e_sset, e_prop, e_meth, e_mk, e_fld, x_setf, e_getw, k_step, k_sset, k_prop, k_meth2, k_meth, k_mk, k_fld, k_setf, k_get3, k_get2, k_get, ins_d, st_0, st_1, x_asg, x_par, x_aug, x_expr, x_app, x_ite, x_for, x_ret, x_retN, x_brk, x_cont, x_pass, x_nil, x_cons, e_var, e_cst, e_glb, e_tup, e_lst, e_nlst, e_ndic, e_ddic, e_bin, e_neg, e_cmp, e_ch, e_conj, e_disj, e_inv, e_ife, e_idx, e_to, e_fr, e_slen, e_sidx, e_sto, e_call, e_calk, e_blt, e_isi, e_mth, e_sit, e_lc, es_nil, es_cons, cj_nil, cj_last, cj_two, i_seq, i_rng, i_enum, t_nm, t_sub, t_tp, ts_nil, ts_cons, fB, lB, k_nx, k_asg, k_par, k_aug, k_expr, k_app2, k_app, k_b, k_ite, k_for, k_ret, k_seq, k_tup, k_lst, k_nlst, k_bin2, k_bin, k_neg, k_cmp2, k_cmp, k_ch3, k_ch2, k_ch, k_bl, k_inv, k_ife, k_idx2, k_idx, k_to2, k_to, k_fr2, k_fr, k_call, k_calk, k_blt, k_isi, k_mth2, k_mth, k_sit, k_lc2, k_lc, k_slen, k_sidx2, k_sidx, k_sto2, k_sto, k_c2, k_c, k_cj, k_seqI, k_rng, k_enum, k_sub3, k_sub, k_ts, k_fB, k_lB3, k_lB2, k_lB, R.bind_ok, R.bind_no, ofO_some, ofO_none, Option.map_some, Option.map_none, startE, List.map_cons, List.map_nil, List.length_cons, List.length_nil, List.cons_append, List.nil_append, List.append_nil, List.replicate, Nat.reduceAdd, Nat.reduceSub, List.getElem?_cons_zero, List.getElem?_cons_succ, if_true, if_false, Bool.not_true, Bool.not_false, List.set_cons_zero, List.set_cons_succ, List.set_set, wipeE, o_add, o_sub, o_pow, o_lt, o_le, o_gt, o_ge, o_eq, o_ne, o_eqS, o_neS, o_isN, o_isnN, o_len, o_lenT, o_lenS, o_int, o_abs, o_min, o_max, o_tuple, o_sum, o_all, o_repr, o_idxT, o_idxL, at0, at1, at2, ix30, ix31, ix32, c_d, c_n, p_nil, p_cons, s_d, s_n, asB_b, i_tT, i_ii, i_bi, i_ss, q_T, q_L, sq_T, sq_L, List.take_length, decide_true, decide_false, Int.reduceToNat])
/-- the marks of a stretch -/
def mk1 (s : Int × Option Int) : List (Int × Option Int) := (if s.2 = some s.1 then [] else [(s.1, s.2.map fun x => x - 1)]) ++ s.2.toList.map fun x => (x, some x)
end DL
set_option linter.all false
set_option maxRecDepth 100000
set_option maxHeartbeats 4000000
set_option exponentiation.threshold 10000
namespace DL
open PySem L2 TL
local macro_rules | `(tactic| walk_at "ev") => `(tactic| try simp (config := {decide := true}) only [x_asg, x_par, x_aug, x_expr, x_app, x_ite, x_for, x_ret, x_retN, x_brk, x_cont, x_pass, x_nil, x_cons, e_var, e_cst, e_glb, e_tup, e_lst, e_nlst, e_ndic, e_ddic, e_bin, e_neg, e_cmp, e_ch, e_conj, e_disj, e_inv, e_ife, e_idx, e_to, e_fr, e_slen, e_sidx, e_sto, e_call, e_calk, e_blt, e_isi, e_mth, e_sit, e_lc, es_nil, es_cons, cj_nil, cj_last, cj_two, i_seq, i_rng, i_enum, t_nm, t_sub, t_tp, ts_nil, ts_cons, fB, lB, k_nx, k_asg, k_par, k_aug, k_expr, k_app2, k_app, k_b, k_ite, k_for, k_ret, k_seq, k_tup, k_lst, k_nlst, k_bin2, k_bin, k_neg, k_cmp2, k_cmp, k_ch3, k_ch2, k_ch, k_bl, k_inv, k_ife, k_idx2, k_idx, k_to2, k_to, k_fr2, k_fr, k_call, k_calk, k_blt, k_isi, k_mth2, k_mth, k_sit, k_lc2, k_lc, k_slen, k_sidx2, k_sidx, k_sto2, k_sto, k_c2, k_c, k_cj, k_seqI, k_rng, k_enum, k_sub3, k_sub, k_ts, k_fB, k_lB3, k_lB2, k_lB, R.bind_ok, R.bind_no, ofO_some, ofO_none, Option.map_some, Option.map_none, startE, List.map_cons, List.map_nil, List.length_cons, List.length_nil, List.cons_append, List.nil_append, List.append_nil, List.replicate, Nat.reduceAdd, Nat.reduceSub, List.getElem?_cons_zero, List.getElem?_cons_succ, if_true, if_false, Bool.not_true, Bool.not_false, List.set_cons_zero, List.set_cons_succ, List.set_set, wipeE, o_add, o_sub, o_mul, o_fdiv, o_mod, o_pow, o_addS, o_addT, o_addL, o_lt, o_le, o_gt, o_ge, o_eq, o_ne, o_eqS, o_neS, o_isN, o_isnN, o_len, o_lenT, o_lenS, o_int, o_abs, o_min, o_max, o_divmod, o_str, o_tuple, o_sum, o_all, o_repr, o_idxT, o_idxL, at0, at1, at2, ix30, ix31, ix32, c_d, c_n, p_nil, p_cons, s_d, s_n, asB_b, i_tT, i_ii, i_bi, i_ss, q_T, q_L, sq_T, sq_L, List.take_length, decide_true, decide_false, Int.reduceToNat])
local macro_rules | `(tactic| simp! [$ls,*]) => `(tactic| simp (config := {decide := true}) (disch := first | assumption | omega | (simp only [List.length_map, List.length_append, List.length_replicate, List.length_cons, List.length_nil, List.length_range]; omega) | solve_by_elim [Bd.mul, Bd.add, Bd.sub, Bd.neg, Bd.lit, Bd.ok, Bd.fok]) only [$ls,*, wp_bind, wp_ok, e_step, e_sset, e_prop, e_meth, e_mk, e_fld, x_setf, e_getw, k_step, k_sset, k_prop, k_meth2, k_meth, k_mk, k_fld, k_setf, k_get3, k_get2, k_get, ins_d, st_0, st_1, x_asg, x_par, x_aug, x_expr, x_app, x_ite, x_for, x_ret, x_retN, x_brk, x_cont, x_pass, x_nil, x_cons, e_var, e_cst, e_glb, e_tup, e_lst, e_nlst, e_ndic, e_ddic, e_bin, e_neg, e_cmp, e_ch, e_conj, e_disj, e_inv, e_ife, e_idx, e_to, e_fr, e_slen, e_sidx, e_sto, e_call, e_calk, e_blt, e_isi, e_mth, e_sit, e_lc, es_nil, es_cons, cj_nil, cj_last, cj_two, i_seq, i_rng, i_enum, t_nm, t_sub, t_tp, ts_nil, ts_cons, fB, lB, k_nx, k_asg, k_par, k_aug, k_expr, k_app2, k_app, k_b, k_ite, k_for, k_ret, k_seq, k_tup, k_lst, k_nlst, k_bin2, k_bin, k_neg, k_cmp2, k_cmp, k_ch3, k_ch2, k_ch, k_bl, k_inv, k_ife, k_idx2, k_idx, k_to2, k_to, k_fr2, k_fr, k_call, k_calk, k_blt, k_isi, k_mth2, k_mth, k_sit, k_lc2, k_lc, k_slen, k_sidx2, k_sidx, k_sto2, k_sto, k_c2, k_c, k_cj, k_seqI, k_rng, k_enum, k_sub3, k_sub, k_ts, k_fB, k_lB3, k_lB2, k_lB, R.bind_ok, R.bind_no, ofO_some, ofO_none, Option.map_some, Option.map_none, startE, List.map_cons, List.map_nil, List.length_cons, List.length_nil, List.cons_append, List.nil_append, List.append_nil, List.replicate, Nat.reduceAdd, Nat.reduceSub, List.getElem?_cons_zero, List.getElem?_cons_succ, if_true, if_false, Bool.not_true, Bool.not_false, List.set_cons_zero, List.set_cons_succ, List.set_set, wipeE, o_add, o_sub, o_pow, o_lt, o_le, o_gt, o_ge, o_eq, o_ne, o_eqS, o_neS, o_isN, o_isnN, o_len, o_lenT, o_lenS, o_int, o_abs, o_min, o_max, o_tuple, o_sum, o_all, o_repr, o_idxT, o_idxL, at0, at1, at2, ix30, ix31, ix32, c_d, c_n, p_nil, p_cons, s_d, s_n, asB_b, i_tT, i_ii, i_bi, i_ss, q_T, q_L, sq_T, sq_L, List.take_length, decide_true, decide_false, Int.reduceToNat])
/-- the law's points -/
def pts (f g : Bs) : List Int := sset ((f ++ g).map (·.1) ++ (((f ++ g).map (·.1)).filter fun x => decide (0 < x)).map fun x => x - 1)
theorem pts_mem {f g : Bs} {p : Int} : p ∈ pts f g ↔ (∃ b ∈ f ++ g, p = b.1) ∨ ∃ b ∈ f ++ g, 0 < b.1 ∧ p = b.1 - 1 := by
  unfold pts
  rw [sset_mem, List.mem_append]
  constructor
  · rintro (h | h)
    · obtain ⟨b, hb, rfl⟩ := List.mem_map.mp h
      exact .inl ⟨b, hb, rfl⟩
    · obtain ⟨x, hx, rfl⟩ := List.mem_map.mp h
      obtain ⟨h1, h2⟩ := List.mem_filter.mp hx
      obtain ⟨b, hb, rfl⟩ := List.mem_map.mp h1
      exact .inr ⟨b, hb, by simpa using h2, rfl⟩
  · rintro (⟨b, hb, rfl⟩ | ⟨b, hb, h, rfl⟩)
    · exact .inl (List.mem_map.mpr ⟨b, hb, rfl⟩)
    · exact .inr (List.mem_map.mpr ⟨b.1, List.mem_filter.mpr ⟨List.mem_map.mpr ⟨b, hb, rfl⟩, by simpa using h⟩, rfl⟩)
theorem Vb.first {bs : Bs} (h : Vb bs) : ∃ b ∈ bs, b.1 = 0 := by
  cases q : bs[0]? with
  | none => exact absurd (List.eq_nil_of_length_eq_zero (by have := List.getElem?_eq_none_iff.mp q; omega)) h.ne
  | some b => exact ⟨b, List.mem_of_getElem? q, h.h0 b q⟩
/-- the law's word: two neighbours break it -/
def brk (f g : Bs) (p : Int) : Bool := (decide (lf g p = lf g (p + 1)) && !decide (lf f p = lf f (p + 1))) || (decide (lf g p < lf g (p + 1)) && (decide (lf f (p + 1) < lf f p) || decide (lf f p * lf g (p + 1) < lf f (p + 1) * lf g p)))
theorem filt_take {x : Int} : ∀ {bs : Bs}, bs.Pairwise (fun a b => a.1 < b.1) → bs.filter (fun b => decide (b.1 ≤ x)) = bs.take (bat bs x)
  | [], _ => rfl
  | a :: r, h => by
    rw [List.pairwise_cons] at h
    unfold bat
    rw [List.filter_cons]
    by_cases ha : a.1 ≤ x
    · rw [if_pos (decide_eq_true ha), List.length_cons, List.take_succ_cons]
      congr 1
      exact filt_take h.2
    · rw [if_neg (by simpa using ha), filt_nil h.1 ha]; simp
/-- bands good enough to be looked at -/
structure Lb (bs : Bs) : Prop where
  ne : bs ≠ []
  h0 : ∀ b, bs[0]? = some b → b.1 = 0
  so : bs.Pairwise (fun a b => a.1 < b.1)
  st : ∀ b ∈ bs, -1000 ≤ b.2.2 ∧ b.2.2 ≤ 1000
theorem Vb.lb {bs : Bs} (h : Vb bs) : Lb bs := ⟨h.ne, h.h0, h.so, fun b hb => by have := h.bd b hb; omega⟩
theorem Lb.last {bs : Bs} (h : Lb bs) {x : Int} (hx : 0 ≤ x) : ∃ b, (bs.filter fun b => decide (b.1 ≤ x)).getLast? = some b ∧ b ∈ bs ∧ b.1 ≤ x ∧ lf bs x = lfB b x := by
  have hp : 0 < bat bs x := by
    cases q : bs[0]? with
    | none => exact absurd (List.eq_nil_of_length_eq_zero (by have := List.getElem?_eq_none_iff.mp q; omega)) h.ne
    | some b => exact (bat_iff h.so q).mp (by rw [h.h0 b q]; exact hx)
  have hl : bat bs x ≤ bs.length := List.length_filter_le _ _
  have hi : bat bs x - 1 < bs.length := by omega
  have hb : bs[bat bs x - 1]? = some bs[bat bs x - 1] := List.getElem?_eq_getElem hi
  refine ⟨bs[bat bs x - 1], ?_, List.getElem_mem hi, (bat_iff h.so hb).mpr (by omega), ?_⟩
  · rw [filt_take h.so, List.getLast?_take, if_neg (by omega), hb]; rfl
  · unfold lf; rw [hb]
theorem fm_filter {α β : Type} (p : α → Bool) (g : α → β) : ∀ l : List α, l.filterMap (fun b => if p b = true then some (g b) else none) = (l.filter p).map g
  | [] => rfl
  | a :: r => by
    rw [List.filterMap_cons, List.filter_cons, fm_filter p g r]
    cases p a <;> rfl
theorem c_left {T : Nat → Option Def} (hT : Sub [72] T) (k : Nat) (bs : Bs) (x : Int) (m : Mem) (h : Lb bs) (hx : 0 ≤ x) : callF T (k + 1) 72 [.d (bsD bs), .d (.int x)] m = .ok (.d (.int (lf bs x))) m := by
  refine (callT hT k 72 _ m ⟨2, 4, a_law_left_72, false⟩).trans ?_
  obtain ⟨b, h1, h2, h3, h4⟩ := h.last hx
  have hs := h.st b h2
  unfold a_law_left_72
  simp! [true_and]
  rw [lc_fm (f := bdD) (g := fun b => if b.1 ≤ x then some (bdD b) else none) bs m fun b hb => by
    by_cases c : b.1 ≤ x
    · simp! [decide_eq_true c, if_pos c]
    · simp! [decide_eq_false c, if_neg c]]
  have e : bs.filterMap (fun b => if b.1 ≤ x then some (bdD b) else none) = (bs.filter fun b => decide (b.1 ≤ x)).map bdD := by
    rw [← fm_filter]
    congr 1
    funext b
    by_cases c : b.1 ≤ x
    · rw [if_pos c, if_pos (decide_eq_true c)]
    · rw [if_neg c, if_neg (by simpa using c)]
  have ea : L2.atI ((bs.filter fun b => decide (b.1 ≤ x)).map bdD) (-1) = some (bdD b) := atLast (by rw [List.getLast?_map, h1]; rfl)
  rw [e]
  simp! [ea, q_mul (stepOk hs.1 hs.2), h4]
  rfl
theorem ints_l : ∀ l : List Int, intsD (l.map D.int) = some l
  | [] => rfl
  | x :: l => by simp [intsD, ints_l l]
theorem c_points {T : Nat → Option Def} (hT : Sub [78] T) (k : Nat) (f g : Bs) (m : Mem) (h : f.length + g.length < 20) : callF T (k + 1) 78 [.d (bsD f), .d (bsD g)] m = .ok (.d (.lst ((pts f g).map .int))) m := by
  refine (callT hT k 78 _ m ⟨2, 5, a_law_points_78, false⟩).trans ?_
  unfold a_law_points_78
  simp! [q_addT]
  rw [← List.map_append]
  rw [lc_map (β := Unit) (f := bdD) (g := fun b => D.int b.1) (f ++ g) m fun b hb m => by simp! [true_and]]
  simp! [true_and]
  have e1 : ((f ++ g).map fun b => D.int b.1) = ((f ++ g).map (·.1)).map D.int := by rw [List.map_map]; rfl
  rw [e1]
  rw [lc_fm (f := D.int) (g := fun x => if decide (0 < x) = true then some (D.int (x - 1)) else none) ((f ++ g).map (·.1)) m fun x hx => by
    by_cases c : 0 < x
    · simp! [decide_eq_true c, if_true]
    · simp! [decide_eq_false c, if_false, Bool.false_eq_true], fm_filter (fun x => decide (0 < x)) (fun x => D.int (x - 1))]
  have hl : ((f ++ g).map (·.1)).length < 20 := by rw [List.length_map, List.length_append]; exact h
  have hl2 := List.length_filter_le (fun x => decide (0 < x)) ((f ++ g).map (·.1))
  generalize hxs : (f ++ g).map (·.1) = xs at *
  simp! [q_addL]
  have e2 : ((xs.filter fun x => decide (0 < x)).map fun x => D.int (x - 1)) = ((xs.filter fun x => decide (0 < x)).map fun x => x - 1).map D.int := by rw [List.map_map]; rfl
  rw [e2, ← List.map_append]
  have es : ssetD m (.d (.lst ((xs ++ (xs.filter fun x => decide (0 < x)).map fun x => x - 1).map D.int))) = some (.lst ((sset (xs ++ (xs.filter fun x => decide (0 < x)).map fun x => x - 1)).map .int)) := by
    unfold ssetD
    show (match intsD ((xs ++ (xs.filter fun x => decide (0 < x)).map fun x => x - 1).map D.int) with | some ns => if ns.length < 64 then some (D.lst ((sset ns).map .int)) else none | none => none) = _
    rw [ints_l]
    simp only
    rw [if_pos (by rw [List.length_append, List.length_map]; omega)]
  simp! [es]
  rw [pts, hxs]
theorem dep_ints : ∀ l : List Int, depL (l.map D.int) = 0
  | [] => by simp [depL]
  | x :: l => by simp [depL, depD, dep_ints l]
end DL
set_option linter.all false
set_option maxRecDepth 100000
set_option maxHeartbeats 4000000
set_option exponentiation.threshold 10000
namespace DL
open PySem L2 TL
local macro_rules | `(tactic| walk_at "ev") => `(tactic| try simp (config := {decide := true}) only [x_asg, x_par, x_aug, x_expr, x_app, x_ite, x_for, x_ret, x_retN, x_brk, x_cont, x_pass, x_nil, x_cons, e_var, e_cst, e_glb, e_tup, e_lst, e_nlst, e_ndic, e_ddic, e_bin, e_neg, e_cmp, e_ch, e_conj, e_disj, e_inv, e_ife, e_idx, e_to, e_fr, e_slen, e_sidx, e_sto, e_call, e_calk, e_blt, e_isi, e_mth, e_sit, e_lc, es_nil, es_cons, cj_nil, cj_last, cj_two, i_seq, i_rng, i_enum, t_nm, t_sub, t_tp, ts_nil, ts_cons, fB, lB, k_nx, k_asg, k_par, k_aug, k_expr, k_app2, k_app, k_b, k_ite, k_for, k_ret, k_seq, k_tup, k_lst, k_nlst, k_bin2, k_bin, k_neg, k_cmp2, k_cmp, k_ch3, k_ch2, k_ch, k_bl, k_inv, k_ife, k_idx2, k_idx, k_to2, k_to, k_fr2, k_fr, k_call, k_calk, k_blt, k_isi, k_mth2, k_mth, k_sit, k_lc2, k_lc, k_slen, k_sidx2, k_sidx, k_sto2, k_sto, k_c2, k_c, k_cj, k_seqI, k_rng, k_enum, k_sub3, k_sub, k_ts, k_fB, k_lB3, k_lB2, k_lB, R.bind_ok, R.bind_no, ofO_some, ofO_none, Option.map_some, Option.map_none, startE, List.map_cons, List.map_nil, List.length_cons, List.length_nil, List.cons_append, List.nil_append, List.append_nil, List.replicate, Nat.reduceAdd, Nat.reduceSub, List.getElem?_cons_zero, List.getElem?_cons_succ, if_true, if_false, Bool.not_true, Bool.not_false, List.set_cons_zero, List.set_cons_succ, List.set_set, wipeE, o_add, o_sub, o_mul, o_fdiv, o_mod, o_pow, o_addS, o_addT, o_addL, o_lt, o_le, o_gt, o_ge, o_eq, o_ne, o_eqS, o_neS, o_isN, o_isnN, o_len, o_lenT, o_lenS, o_int, o_abs, o_min, o_max, o_divmod, o_str, o_tuple, o_sum, o_all, o_repr, o_idxT, o_idxL, at0, at1, at2, ix30, ix31, ix32, c_d, c_n, p_nil, p_cons, s_d, s_n, asB_b, i_tT, i_ii, i_bi, i_ss, q_T, q_L, sq_T, sq_L, List.take_length, decide_true, decide_false, Int.reduceToNat])
local macro_rules | `(tactic| simp! [$ls,*]) => `(tactic| simp (config := {decide := true}) (disch := first | assumption | omega | (simp only [List.length_map, List.length_append, List.length_replicate, List.length_cons, List.length_nil, List.length_range]; omega) | solve_by_elim [Bd.mul, Bd.add, Bd.sub, Bd.neg, Bd.lit, Bd.ok, Bd.fok]) only [$ls,*, wp_bind, wp_ok, e_step, e_sset, e_prop, e_meth, e_mk, e_fld, x_setf, e_getw, k_step, k_sset, k_prop, k_meth2, k_meth, k_fld, k_setf, k_get3, k_get2, k_get, ins_d, st_0, st_1, x_asg, x_par, x_aug, x_expr, x_app, x_ite, x_for, x_ret, x_retN, x_brk, x_cont, x_pass, x_nil, x_cons, e_var, e_cst, e_glb, e_tup, e_lst, e_nlst, e_ndic, e_ddic, e_bin, e_neg, e_cmp, e_ch, e_conj, e_disj, e_inv, e_ife, e_idx, e_to, e_fr, e_slen, e_sidx, e_sto, e_call, e_calk, e_blt, e_isi, e_mth, e_sit, e_lc, es_nil, es_cons, cj_nil, cj_last, cj_two, i_seq, i_rng, i_enum, t_nm, t_sub, t_tp, ts_nil, ts_cons, fB, lB, k_nx, k_asg, k_par, k_aug, k_expr, k_app2, k_app, k_b, k_ite, k_for, k_ret, k_seq, k_tup, k_lst, k_nlst, k_bin2, k_bin, k_neg, k_cmp2, k_cmp, k_ch3, k_ch2, k_ch, k_bl, k_inv, k_ife, k_idx2, k_idx, k_to2, k_to, k_fr2, k_fr, k_call, k_calk, k_blt, k_isi, k_mth2, k_mth, k_sit, k_lc2, k_lc, k_slen, k_sidx2, k_sidx, k_sto2, k_sto, k_c2, k_c, k_cj, k_seqI, k_rng, k_enum, k_sub3, k_sub, k_ts, k_fB, k_lB3, k_lB2, k_lB, R.bind_ok, R.bind_no, ofO_some, ofO_none, Option.map_some, Option.map_none, startE, List.map_cons, List.map_nil, List.length_cons, List.length_nil, List.cons_append, List.nil_append, List.append_nil, List.replicate, Nat.reduceAdd, Nat.reduceSub, List.getElem?_cons_zero, List.getElem?_cons_succ, if_true, if_false, Bool.not_true, Bool.not_false, List.set_cons_zero, List.set_cons_succ, List.set_set, wipeE, o_add, o_sub, o_pow, o_lt, o_le, o_gt, o_ge, o_eq, o_ne, o_eqS, o_neS, o_isN, o_isnN, o_len, o_lenT, o_lenS, o_int, o_abs, o_min, o_max, o_tuple, o_sum, o_all, o_repr, o_idxT, o_idxL, at0, at1, at2, ix30, ix31, ix32, c_d, c_n, p_nil, p_cons, s_d, s_n, asB_b, i_tT, i_ii, i_bi, i_ss, q_T, q_L, sq_T, sq_L, List.take_length, decide_true, decide_false, Int.reduceToNat])
theorem sum_len3 {f : Int × Int × Int → Nat} {c : Nat} : ∀ {ps : Bs}, (∀ p ∈ ps, f p ≤ c) → (ps.map f).sum ≤ ps.length * c
  | [], h => by simp
  | p :: ps, h => by
    have h1 := h p List.mem_cons_self
    have h2 := sum_len3 fun q hq => h q (List.mem_cons_of_mem _ hq)
    rw [List.map_cons, List.sum_cons, List.length_cons, Nat.add_mul]
    omega
theorem c_lspell {T : Nat → Option Def} (hT : Sub [81] T) (k : Nat) (bs : Bs) (m : Mem) (h : Vb bs) : callF T (k + 1) 81 [.d (bsD bs)] m = .ok (.d (.str (tx3 bs))) m := by
  refine (callT hT k 81 _ m ⟨1, 3, a_law_spell_81, false⟩).trans ?_
  unfold a_law_spell_81
  simp! [true_and]
  rw [lc_map (β := Unit) (f := bdD) (g := fun b => .str (line3 b)) bs m fun b hb m => by
    obtain ⟨n1, n2, n3⟩ := h.num b hb
    have l1 := digs_len n1.abs
    have l2 := digs_len n2.abs
    have l3 := digs_len n3.abs
    simp! [q_str (strOk_i n1.abs), q_str (strOk_i n2.abs), q_str (strOk_i n3.abs), q_addS]
    unfold line3
    simp only [List.append_assoc, List.cons_append, List.nil_append]]
  simp! [true_and]
  have hj : mthD m .join (.d (.str [10])) (.d (.lst (bs.map fun b => D.str (line3 b)))) = some (.str (tx3 bs)) := by
    simp only [mthD, sq_L, strs_map]
    rw [if_pos (by
      rw [List.map_map]
      have := sum_len3 (f := fun p => (line3 p).length + 1) (c := 281) (ps := bs) fun p hp => by
        have := line3_len (h.num p hp)
        omega
      have hl := h.ln
      refine Nat.le_trans this ?_
      have : bs.length * 281 ≤ 8 * 281 := Nat.mul_le_mul_right _ hl
      omega)]
    rfl
  simp! [hj]
abbrev tld3 (w : List Nat) (f g : Bs) : D := .tup [.str w, .str (tx3 f), .str (tx3 g)]
end DL
set_option linter.all false
set_option maxRecDepth 100000
set_option maxHeartbeats 4000000
set_option exponentiation.threshold 10000
namespace DL
open PySem L2 TL
local macro_rules | `(tactic| walk_at "ev") => `(tactic| try simp (config := {decide := true}) only [x_asg, x_par, x_aug, x_expr, x_app, x_ite, x_for, x_ret, x_retN, x_brk, x_cont, x_pass, x_nil, x_cons, e_var, e_cst, e_glb, e_tup, e_lst, e_nlst, e_ndic, e_ddic, e_bin, e_neg, e_cmp, e_ch, e_conj, e_disj, e_inv, e_ife, e_idx, e_to, e_fr, e_slen, e_sidx, e_sto, e_call, e_calk, e_blt, e_isi, e_mth, e_sit, e_lc, es_nil, es_cons, cj_nil, cj_last, cj_two, i_seq, i_rng, i_enum, t_nm, t_sub, t_tp, ts_nil, ts_cons, fB, lB, k_nx, k_asg, k_par, k_aug, k_expr, k_app2, k_app, k_b, k_ite, k_for, k_ret, k_seq, k_tup, k_lst, k_nlst, k_bin2, k_bin, k_neg, k_cmp2, k_cmp, k_ch3, k_ch2, k_ch, k_bl, k_inv, k_ife, k_idx2, k_idx, k_to2, k_to, k_fr2, k_fr, k_call, k_calk, k_blt, k_isi, k_mth2, k_mth, k_sit, k_lc2, k_lc, k_slen, k_sidx2, k_sidx, k_sto2, k_sto, k_c2, k_c, k_cj, k_seqI, k_rng, k_enum, k_sub3, k_sub, k_ts, k_fB, k_lB3, k_lB2, k_lB, R.bind_ok, R.bind_no, ofO_some, ofO_none, Option.map_some, Option.map_none, startE, List.map_cons, List.map_nil, List.length_cons, List.length_nil, List.cons_append, List.nil_append, List.append_nil, List.replicate, Nat.reduceAdd, Nat.reduceSub, List.getElem?_cons_zero, List.getElem?_cons_succ, if_true, if_false, Bool.not_true, Bool.not_false, List.set_cons_zero, List.set_cons_succ, List.set_set, wipeE, o_add, o_sub, o_mul, o_fdiv, o_mod, o_pow, o_addS, o_addT, o_addL, o_lt, o_le, o_gt, o_ge, o_eq, o_ne, o_eqS, o_neS, o_isN, o_isnN, o_len, o_lenT, o_lenS, o_int, o_abs, o_min, o_max, o_divmod, o_str, o_tuple, o_sum, o_all, o_repr, o_idxT, o_idxL, at0, at1, at2, ix30, ix31, ix32, c_d, c_n, p_nil, p_cons, s_d, s_n, asB_b, i_tT, i_ii, i_bi, i_ss, q_T, q_L, sq_T, sq_L, List.take_length, decide_true, decide_false, Int.reduceToNat])
local macro_rules | `(tactic| simp! [$ls,*]) => `(tactic| simp (config := {decide := true}) (disch := first | assumption | omega | (simp only [List.length_map, List.length_append, List.length_replicate, List.length_cons, List.length_nil, List.length_range]; omega) | solve_by_elim [Bd.mul, Bd.add, Bd.sub, Bd.neg, Bd.lit, Bd.ok, Bd.fok]) only [$ls,*, wp_bind, wp_ok, e_step, e_sset, e_prop, e_meth, e_mk, e_fld, x_setf, e_getw, k_step, k_sset, k_prop, k_meth2, k_meth, k_fld, k_setf, k_get3, k_get2, k_get, ins_d, st_0, st_1, x_asg, x_par, x_aug, x_expr, x_app, x_ite, x_for, x_ret, x_retN, x_brk, x_cont, x_pass, x_nil, x_cons, e_var, e_cst, e_glb, e_tup, e_lst, e_nlst, e_ndic, e_ddic, e_bin, e_neg, e_cmp, e_ch, e_conj, e_disj, e_inv, e_ife, e_idx, e_to, e_fr, e_slen, e_sidx, e_sto, e_call, e_calk, e_blt, e_isi, e_mth, e_sit, e_lc, es_nil, es_cons, cj_nil, cj_last, cj_two, i_seq, i_rng, i_enum, t_nm, t_sub, t_tp, ts_nil, ts_cons, fB, lB, k_nx, k_asg, k_par, k_aug, k_expr, k_app2, k_app, k_b, k_ite, k_for, k_ret, k_seq, k_tup, k_lst, k_nlst, k_bin2, k_bin, k_neg, k_cmp2, k_cmp, k_ch3, k_ch2, k_ch, k_bl, k_inv, k_ife, k_idx2, k_idx, k_to2, k_to, k_fr2, k_fr, k_call, k_calk, k_blt, k_isi, k_mth2, k_mth, k_sit, k_lc2, k_lc, k_slen, k_sidx2, k_sidx, k_sto2, k_sto, k_c2, k_c, k_cj, k_seqI, k_rng, k_enum, k_sub3, k_sub, k_ts, k_fB, k_lB3, k_lB2, k_lB, R.bind_ok, R.bind_no, ofO_some, ofO_none, Option.map_some, Option.map_none, startE, List.map_cons, List.map_nil, List.length_cons, List.length_nil, List.cons_append, List.nil_append, List.append_nil, List.replicate, Nat.reduceAdd, Nat.reduceSub, List.getElem?_cons_zero, List.getElem?_cons_succ, if_true, if_false, Bool.not_true, Bool.not_false, List.set_cons_zero, List.set_cons_succ, List.set_set, wipeE, o_add, o_sub, o_pow, o_lt, o_le, o_gt, o_ge, o_eq, o_ne, o_eqS, o_neS, o_isN, o_isnN, o_len, o_lenT, o_lenS, o_int, o_abs, o_min, o_max, o_tuple, o_sum, o_all, o_repr, o_idxT, o_idxL, at0, at1, at2, ix30, ix31, ix32, c_d, c_n, p_nil, p_cons, s_d, s_n, asB_b, i_tT, i_ii, i_bi, i_ss, q_T, q_L, sq_T, sq_L, List.take_length, decide_true, decide_false, Int.reduceToNat])
def We (n : Nat) (m : Mem) (ob : Ob) (m' : Mem) : Prop := n < m.length ∧ Wm n (m ++ [ob]) m'
theorem Wl.lt {n : Nat} {m : Mem} (w : Wl n m) : n < m.length := by
  obtain ⟨a, b, c, h, _⟩ := w
  exact (List.getElem?_eq_some_iff.mp h).1
theorem Wl.app {n : Nat} {m : Mem} (w : Wl n m) (ob : Ob) : Wl n (m ++ [ob]) := by
  have hn := w.lt
  obtain ⟨a, b, c, h, h2⟩ := w
  exact ⟨a, b, c, by rw [List.getElem?_append_left hn]; exact h, h2⟩
theorem We.start {n : Nat} {m : Mem} {ob : Ob} (w : Wl n m) : We n m ob (m ++ [ob]) := ⟨w.lt, (w.app ob).refl⟩
theorem We.get {n : Nat} {m m' : Mem} {ob : Ob} (h : We n m ob m') : m'[m.length]? = some ob := by
  obtain ⟨hn, a, b, c, rfl, _⟩ := h
  rw [List.getElem?_set_ne (Nat.ne_of_lt hn)]
  simp
theorem We.wl {n : Nat} {m m' : Mem} {ob : Ob} (h : We n m ob m') (w : Wl n m) : Wl n m' := h.2.wl (w.app ob)
theorem We.draw {n : Nat} {m m' m2 : Mem} {ob : Ob} (h : We n m ob m') (g : Wm n m' m2) : We n m ob m2 := ⟨h.1, h.2.trans g⟩
theorem We.put {n : Nat} {m m' : Mem} {ob : Ob} (h : We n m ob m') (ob' : Ob) : We n m ob' (m'.set m.length ob') := by
  obtain ⟨hn, a, b, c, rfl, h1, h2⟩ := h
  refine ⟨hn, a, b, c, ?_, h1, h2⟩
  rw [List.set_comm _ _ (Nat.ne_of_lt hn)]
  congr 1
  rw [List.set_append_right _ _ (Nat.le_refl _)]
  simp
theorem We.take {n : Nat} {m m' : Mem} {ob : Ob} (h : We n m ob m') : Wm n m (m'.take m.length) := by
  obtain ⟨hn, a, b, c, rfl, h1, h2⟩ := h
  refine ⟨a, b, c, ?_, h1, h2⟩
  rw [List.take_set]
  congr 1
  simp
theorem We.lstU {n : Nat} {m m' : Mem} {xs : List D} (h : We n m (.lst xs) m') : lstU m' (.cell m.length) = true := by
  unfold DL.lstU
  simp only [h.get]
theorem We.app {n : Nat} {m m' : Mem} {xs : List D} (h : We n m (.lst xs) m') (x : D) (hl : xs.length < 16777216) : appD m' (.cell m.length) (.d x) = some (m'.set m.length (.lst (xs ++ [x]))) := by
  unfold appD
  simp only [h.get, if_pos hl]
theorem We.lstO {n : Nat} {m m' : Mem} {xs : List D} (h : We n m (.lst xs) m') : lstO m' (.cell m.length) = some xs := by
  unfold DL.lstO
  simp only [h.get]
theorem We.seqO {n : Nat} {m m' : Mem} {xs : List D} (h : We n m (.lst xs) m') : seqO m' (.cell m.length) = some xs := by
  unfold DL.seqO
  simp only [h.get]
theorem anyIn_ints (x : Int) : ∀ l : List Int, anyIn (.int x) (l.map D.int) = decide (x ∈ l)
  | [] => by simp [anyIn]
  | y :: l => by
    rw [List.map_cons, anyIn, anyIn_ints x l, eqvD]
    by_cases h : y = x
    · subst h; simp
    · have h' : ¬ x = y := fun z => h z.symm
      rw [beq_eq_false_iff_ne.mpr h]; simp [h']
theorem We.notin {n : Nat} {m m' : Mem} {l : List Int} (h : We n m (.lst (l.map D.int)) m') (x : Int) : cmpD m' .notin (.d (.int x)) (.cell m.length) = some (!decide (x ∈ l)) := by
  have e : inD m' (.d (.int x)) (.cell m.length) = some (decide (x ∈ l)) := by
    unfold inD
    simp only [h.seqO]
    rw [if_pos ⟨by simp [depD], by rw [dep_ints]; decide⟩, anyIn_ints]
  show (inD m' (.d (.int x)) (.cell m.length)).map (!·) = _
  rw [e]; rfl
theorem ins_same (x : Int) : ∀ l : List Int, x ∉ l → insI x l = ins1 x l
  | [], _ => rfl
  | y :: r, h => by
    have hx : x ≠ y := fun e => h (by rw [e]; exact List.mem_cons_self)
    unfold insI ins1
    by_cases c : x < y
    · rw [if_pos (by omega), if_pos c]
    · rw [if_neg (by omega), if_neg c, if_neg hx, ins_same x r fun z => h (List.mem_cons_of_mem _ z)]
theorem sort_sset : ∀ l : List Int, l.Nodup → sortI l = sset l
  | [], _ => rfl
  | x :: r, h => by
    rw [List.nodup_cons] at h
    rw [sortI, sset, sort_sset r h.2]
    exact ins_same x _ fun z => h.1 ((sset_mem x r).mp z)
/-- beginnings of bands -/
structure St (bg : List Int) : Prop where
  ln : bg.length ≤ 5
  h0 : bg[0]? = some 0
  so : bg.Pairwise (· < ·)
  bd : ∀ x ∈ bg, 0 ≤ x ∧ x ≤ 10 ^ 29
theorem sset_len2 : ∀ l : List Int, (sset l).length ≤ l.length := by
  have aux : ∀ (x : Int) (l : List Int), (ins1 x l).length ≤ l.length + 1 := by
    intro x l
    induction l with
    | nil => simp [ins1]
    | cons y l ih => unfold ins1; split <;> (try split) <;> simp <;> omega
  intro l
  induction l with
  | nil => simp [sset]
  | cons x l ih => have := aux x (sset l); simp only [sset, List.length_cons]; omega
theorem st_of {l : List Int} (hn : l.Nodup) (h0 : (0 : Int) ∈ l) (hb : ∀ x ∈ l, 0 ≤ x ∧ x ≤ 10 ^ 29) (hl : l.length ≤ 5) : St (sortI l) := by
  rw [sort_sset l hn]
  have hs := sset_lt l
  have hm : ∀ x, x ∈ sset l ↔ x ∈ l := fun x => sset_mem x l
  refine ⟨Nat.le_trans (sset_len2 l) hl, ?_, hs, fun x hx => hb x ((hm x).mp hx)⟩
  cases q : sset l with
  | nil => have := (hm 0).mpr h0; rw [q] at this; cases this
  | cons a r =>
    rw [q, List.pairwise_cons] at hs
    have h1 := (hm 0).mpr h0
    rw [q] at h1
    have h2 := hb a ((hm a).mp (by rw [q]; exact List.mem_cons_self))
    rcases List.mem_cons.mp h1 with z | z
    · rw [z]; rfl
    · have := hs.1 0 z; omega
theorem c_starts {T : Nat → Option Def} (hT : Sub [43, 45, 73] T) (k n : Nat) (m : Mem) (most top : Int) (w : Wl n m) (h1 : 1 ≤ most) (h2 : most ≤ 5) (h3 : 1 ≤ top) (h4 : top ≤ 10 ^ 29) :
    Wp (callF T (k + 3) 73 [.cell n, .d (.int most), .d (.int top)] m) fun u m' => Wm n m m' ∧ ∃ bg, u = .d (.lst (bg.map .int)) ∧ St bg := by
  refine callT_w hT (k + 2) 73 _ m ⟨3, 6, a_law_starts_73, false⟩ ?_
  have p29 : (10 : Int) ^ 29 ≤ 10 ^ 1000 := pw_le (by decide)
  have p29' : (10 : Int) ^ 29 ≤ 10 ^ 100 := pw_le (by decide)
  have p5 : (5 : Int) ≤ 10 ^ 1000 := by decide +kernel
  unfold a_law_starts_73
  have s0 : We n m (.lst [.int 0]) (m ++ [.lst [.int 0]]) := We.start w
  obtain ⟨m1, r, e1, w1, r1, r2⟩ := c_draw (hT.mono (l' := [43])) (k + 1) n (m ++ [.lst [.int 0]]) most (s0.wl w) (by omega) (by omega)
  have s1 := s0.draw w1
  simp! [e1, ty_range (show -(2 ^ 62) ≤ r by omega) (show r ≤ 16777216 by omega)]
  refine wp_range r.toNat (fun i ρ m' => ∃ (l : List Int) (o o' : Option U), We n m (.lst (l.map .int)) m' ∧ l.Nodup ∧ (0 : Int) ∈ l ∧ (∀ x ∈ l, 0 ≤ x ∧ x ≤ 10 ^ 29) ∧ l.length ≤ 1 + i ∧ ρ = [some (.cell n), some (.d (.int most)), some (.d (.int top)), some (.cell m.length), o, o'])
    ⟨[0], none, none, s1, by simp, by simp, fun x hx => by rw [List.mem_singleton.mp hx]; exact ⟨Int.le_refl _, by omega⟩, by simp, rfl⟩ ?_ ?_
  · rintro i ρ m' hi ⟨l, o, o', we, hn, h0, hb, hl, rfl⟩
    have wl := we.wl w
    have key : ∃ m2 f, (evE (callF T (k + 2)) (.ite (.cmp .gt (.var 2) (.cst (.int 99))) (.call 45 (.cons (.var 0) (.cons (.bin .sub (.var 2) (.cst (.int 1))) .nil)) []) (.call 43 (.cons (.var 0) (.cons (.var 2) .nil)) [])) [some (.cell n), some (.d (.int most)), some (.d (.int top)), some (.cell m.length), some (.d (.int (i : Int))), o'] m') = .ok (.d (.int f)) m2 ∧ Wm n m' m2 ∧ 0 ≤ f ∧ f ≤ top - 1 := by
      by_cases c : 99 < top
      · obtain ⟨m2, f, e2, w2, f1, f2⟩ := c_far (hT.mono (l' := [43, 45])) k n m' (top - 1) wl (by omega) (by omega)
        refine ⟨m2, f, ?_, w2, f1, f2⟩
        simp! [decide_eq_true c, e2]
      · obtain ⟨m2, f, e2, w2, f1, f2⟩ := c_draw (hT.mono (l' := [43])) (k + 1) n m' top wl (by omega) (by omega)
        refine ⟨m2, f, ?_, w2, f1, by omega⟩
        simp! [decide_eq_false c, e2]
    obtain ⟨m2, f, e2, w2, f1, f2⟩ := key
    have we2 := we.draw w2
    rw [fB, t_nm]
    simp only [R.bind_ok, k_fB, List.set_cons_succ, List.set_cons_zero]
    rw [x_cons, x_asg, e_bin, e_cst, R.bind_ok]
    unfold k_bin
    rw [e2]
    simp! [we2.notin]
    by_cases c : (1 + f) ∈ l
    · simp! [decide_eq_true c]
      exact ⟨l, _, _, we2, hn, h0, hb, by omega, rfl⟩
    · have hap := we2.app (.int (1 + f)) (by rw [List.length_map]; omega)
      simp! [decide_eq_false c, we2.lstU, hap]
      refine ⟨l ++ [1 + f], _, _, ?_, ?_, List.mem_append_left _ h0, fun x hx => ?_, by rw [List.length_append, List.length_singleton]; omega, rfl⟩
      · rw [List.map_append]; exact we2.put _
      · rw [List.nodup_append]
        refine ⟨hn, by simp, fun a ha b hb' => ?_⟩
        rw [List.mem_singleton.mp hb']
        rintro rfl; exact c ha
      · rcases List.mem_append.mp hx with z | z
        · exact hb x z
        · rw [List.mem_singleton.mp z]; omega
  · rintro ρ m' ⟨l, o, o', we, hn, h0, hb, hl, rfl⟩
    have es : bltD m' .sorted [.cell m.length] = some (.lst ((sortI l).map .int)) := by
      show (match DL.lstO m' (.cell m.length) with | some xs => sortD xs | none => none) = _
      rw [we.lstO]
      show sortD (l.map D.int) = _
      unfold sortD
      rw [ints_l]
    simp! [es]
    exact ⟨we.take, sortI l, rfl, st_of hn h0 hb (by omega)⟩
end DL
set_option linter.all false
set_option maxRecDepth 100000
set_option maxHeartbeats 4000000
set_option exponentiation.threshold 10000
namespace DL
open PySem L2 TL
local macro_rules | `(tactic| walk_at "ev") => `(tactic| try simp (config := {decide := true}) only [x_asg, x_par, x_aug, x_expr, x_app, x_ite, x_for, x_ret, x_retN, x_brk, x_cont, x_pass, x_nil, x_cons, e_var, e_cst, e_glb, e_tup, e_lst, e_nlst, e_ndic, e_ddic, e_bin, e_neg, e_cmp, e_ch, e_conj, e_disj, e_inv, e_ife, e_idx, e_to, e_fr, e_slen, e_sidx, e_sto, e_call, e_calk, e_blt, e_isi, e_mth, e_sit, e_lc, es_nil, es_cons, cj_nil, cj_last, cj_two, i_seq, i_rng, i_enum, t_nm, t_sub, t_tp, ts_nil, ts_cons, fB, lB, k_nx, k_asg, k_par, k_aug, k_expr, k_app2, k_app, k_b, k_ite, k_for, k_ret, k_seq, k_tup, k_lst, k_nlst, k_bin2, k_bin, k_neg, k_cmp2, k_cmp, k_ch3, k_ch2, k_ch, k_bl, k_inv, k_ife, k_idx2, k_idx, k_to2, k_to, k_fr2, k_fr, k_call, k_calk, k_blt, k_isi, k_mth2, k_mth, k_sit, k_lc2, k_lc, k_slen, k_sidx2, k_sidx, k_sto2, k_sto, k_c2, k_c, k_cj, k_seqI, k_rng, k_enum, k_sub3, k_sub, k_ts, k_fB, k_lB3, k_lB2, k_lB, R.bind_ok, R.bind_no, ofO_some, ofO_none, Option.map_some, Option.map_none, startE, List.map_cons, List.map_nil, List.length_cons, List.length_nil, List.cons_append, List.nil_append, List.append_nil, List.replicate, Nat.reduceAdd, Nat.reduceSub, List.getElem?_cons_zero, List.getElem?_cons_succ, if_true, if_false, Bool.not_true, Bool.not_false, List.set_cons_zero, List.set_cons_succ, List.set_set, wipeE, o_add, o_sub, o_mul, o_fdiv, o_mod, o_pow, o_addS, o_addT, o_addL, o_lt, o_le, o_gt, o_ge, o_eq, o_ne, o_eqS, o_neS, o_isN, o_isnN, o_len, o_lenT, o_lenS, o_int, o_abs, o_min, o_max, o_divmod, o_str, o_tuple, o_sum, o_all, o_repr, o_idxT, o_idxL, at0, at1, at2, ix30, ix31, ix32, c_d, c_n, p_nil, p_cons, s_d, s_n, asB_b, i_tT, i_ii, i_bi, i_ss, q_T, q_L, sq_T, sq_L, List.take_length, decide_true, decide_false, Int.reduceToNat])
local macro_rules | `(tactic| simp! [$ls,*]) => `(tactic| simp (config := {decide := true}) (disch := first | assumption | omega | (simp only [List.length_map, List.length_append, List.length_replicate, List.length_cons, List.length_nil, List.length_range]; omega) | solve_by_elim [Bd.mul, Bd.add, Bd.sub, Bd.neg, Bd.lit, Bd.ok, Bd.fok]) only [$ls,*, wp_bind, wp_ok, e_step, e_sset, e_prop, e_meth, e_mk, e_fld, x_setf, e_getw, k_step, k_sset, k_prop, k_meth2, k_meth, k_fld, k_setf, k_get3, k_get2, k_get, ins_d, st_0, st_1, x_asg, x_par, x_aug, x_expr, x_app, x_ite, x_for, x_ret, x_retN, x_brk, x_cont, x_pass, x_nil, x_cons, e_var, e_cst, e_glb, e_tup, e_lst, e_nlst, e_ndic, e_ddic, e_bin, e_neg, e_cmp, e_ch, e_conj, e_disj, e_inv, e_ife, e_idx, e_to, e_fr, e_slen, e_sidx, e_sto, e_call, e_calk, e_blt, e_isi, e_mth, e_sit, e_lc, es_nil, es_cons, cj_nil, cj_last, cj_two, i_seq, i_rng, i_enum, t_nm, t_sub, t_tp, ts_nil, ts_cons, fB, lB, k_nx, k_asg, k_par, k_aug, k_expr, k_app2, k_app, k_b, k_ite, k_for, k_ret, k_seq, k_tup, k_lst, k_nlst, k_bin2, k_bin, k_neg, k_cmp2, k_cmp, k_ch3, k_ch2, k_ch, k_bl, k_inv, k_ife, k_idx2, k_idx, k_to2, k_to, k_fr2, k_fr, k_call, k_calk, k_blt, k_isi, k_mth2, k_mth, k_sit, k_lc2, k_lc, k_slen, k_sidx2, k_sidx, k_sto2, k_sto, k_c2, k_c, k_cj, k_seqI, k_rng, k_enum, k_sub3, k_sub, k_ts, k_fB, k_lB3, k_lB2, k_lB, R.bind_ok, R.bind_no, ofO_some, ofO_none, Option.map_some, Option.map_none, startE, List.map_cons, List.map_nil, List.length_cons, List.length_nil, List.cons_append, List.nil_append, List.append_nil, List.replicate, Nat.reduceAdd, Nat.reduceSub, List.getElem?_cons_zero, List.getElem?_cons_succ, if_true, if_false, Bool.not_true, Bool.not_false, List.set_cons_zero, List.set_cons_succ, List.set_set, wipeE, o_add, o_sub, o_pow, o_lt, o_le, o_gt, o_ge, o_eq, o_ne, o_eqS, o_neS, o_isN, o_isnN, o_len, o_lenT, o_lenS, o_int, o_abs, o_min, o_max, o_tuple, o_sum, o_all, o_repr, o_idxT, o_idxL, at0, at1, at2, ix30, ix31, ix32, c_d, c_n, p_nil, p_cons, s_d, s_n, asB_b, i_tT, i_ii, i_bi, i_ss, q_T, q_L, sq_T, sq_L, List.take_length, decide_true, decide_false, Int.reduceToNat])
theorem same_bs : ∀ bs : Bs, sameL (bs.map bdD) (bs.map bdD) = true
  | [] => by simp [sameL]
  | b :: bs => by simp [sameL, sameD, same_bs bs]
theorem lc_fmG {α : Type} {f : α → D} {g : α → Option D} {b : D → Mem → R (Option D)} {j : Nat} {m : Mem} (hs : okG (some j) m m = true) : ∀ (l : List α), (∀ x ∈ l, b (f x) m = .ok (g x) m) → lcL (some j) m b (l.map f) m = .ok (l.filterMap g) m
  | [], h => rfl
  | x :: l, h => by
    simp only [List.map_cons, lcL, h x List.mem_cons_self, R.bind_ok, hs, if_true, lc_fmG hs l fun y hy => h y (List.mem_cons_of_mem _ hy), List.filterMap_cons]
    cases g x <;> rfl
theorem c_leftC {T : Nat → Option Def} (hT : Sub [72] T) (k j : Nat) (bs : Bs) (x : Int) (m : Mem) (hj : m[j]? = some (.lst (bs.map bdD))) (h : Lb bs) (hx : 0 ≤ x) : callF T (k + 1) 72 [.cell j, .d (.int x)] m = .ok (.d (.int (lf bs x))) m := by
  refine (callT hT k 72 _ m ⟨2, 4, a_law_left_72, false⟩).trans ?_
  obtain ⟨b, h1, h2, h3, h4⟩ := h.last hx
  have hs := h.st b h2
  have sq : seqIt m (.cell j) = some (bs.map bdD, some j) := by
    show (seqO m (.cell j)).map (fun xs => (xs, cellG (.cell j))) = _
    unfold seqO
    simp only [hj]
    rfl
  have ok : okG (some j) m m = true := by
    unfold okG sameO
    simp only [hj]
    exact same_bs bs
  unfold a_law_left_72
  simp! [sq]
  rw [lc_fmG (f := bdD) (g := fun b => if decide (b.1 ≤ x) = true then some (bdD b) else none) ok bs fun b hb => by
    by_cases c : b.1 ≤ x
    · simp! [decide_eq_true c, if_true]
    · simp! [decide_eq_false c, if_false, Bool.false_eq_true], fm_filter (fun b => decide (b.1 ≤ x)) bdD]
  have ea : L2.atI ((bs.filter fun b => decide (b.1 ≤ x)).map bdD) (-1) = some (bdD b) := atLast (by rw [List.getLast?_map, h1]; rfl)
  simp! [ea, q_mul (stepOk hs.1 hs.2), h4]
  rfl
/-- greatest beginning, value, step -/
structure Siz (s0 s1 s2 : Int) : Prop where
  a0 : 1 ≤ s0
  a1 : s0 ≤ 10 ^ 29
  b0 : 1 ≤ s1
  b1 : s1 ≤ 10 ^ 32
  c0 : 1 ≤ s2
  c1 : s2 ≤ 1000
abbrev szD (s0 s1 s2 : Int) : D := .lst [.int s0, .int s1, .int s2]
theorem map_get {bs : Bs} {bg : List Int} (h : bs.map (·.1) = bg) {i : Nat} {b : Int × Int × Int} (hb : bs[i]? = some b) : bg[i]? = some b.1 := by
  rw [← h, List.getElem?_map, hb]; rfl
theorem vb_of {bg : List Int} {bs : Bs} (hs : St bg) (hm : bs.map (·.1) = bg) (hb : ∀ b ∈ bs, 0 ≤ b.2.1 ∧ b.2.1 ≤ 10 ^ 32 ∧ -1000 ≤ b.2.2 ∧ b.2.2 ≤ 1000)
    (hl : ∀ (j : Nat) (b : Int × Int × Int), bs[j]? = some b → match bg[j + 1]? with | none => 0 ≤ b.2.2 | some c => 0 ≤ lfB b (c - 1)) : Vb bs := by
  have hlen : bs.length = bg.length := by rw [← hm, List.length_map]
  refine ⟨fun e => ?_, by have := hs.ln; omega, fun b h0 => ?_, ?_, fun b hbm => ?_, fun i b hi => ?_⟩
  · subst e
    have := hs.h0
    rw [← hm] at this
    cases this
  · have := map_get hm h0
    rw [hs.h0] at this
    simpa using this.symm
  · have := hs.so
    rw [← hm, List.pairwise_map] at this
    exact this
  · have h1 := hs.bd b.1 (by rw [← hm]; exact List.mem_map.mpr ⟨b, hbm, rfl⟩)
    have h2 := hb b hbm
    exact ⟨h1.1, h1.2, h2⟩
  · have h1 := hl i b hi
    have e : bg[i + 1]? = bs[i + 1]?.map (·.1) := by rw [← hm, List.getElem?_map]
    rw [e] at h1
    unfold lastO
    cases q : bs[i + 1]? with
    | none => rw [q] at h1; exact h1
    | some c => rw [q] at h1; exact h1
theorem atS {s0 s1 s2 : Int} : L2.atI [D.int s0, D.int s1, D.int s2] 0 = some (.int s0) ∧ L2.atI [D.int s0, D.int s1, D.int s2] 1 = some (.int s1) ∧ L2.atI [D.int s0, D.int s1, D.int s2] 2 = some (.int s2) := ⟨rfl, rfl, rfl⟩
theorem span_b {p c b : Int} (h1 : -1000 ≤ p) (h2 : p ≤ 1000) (h3 : 0 ≤ c) (h4 : c ≤ 10 ^ 29) : 0 - p * c ≤ 10 ^ 32 := by
  have e : (10 : Int) ^ 32 = 1000 * 10 ^ 29 := by decide +kernel
  have h5 : (-p) * c ≤ 1000 * 10 ^ 29 := by
    by_cases s : 0 ≤ -p
    · exact Int.mul_le_mul (by omega) h4 h3 (by decide)
    · have : (-p) * c ≤ 0 := Int.mul_nonpos_of_nonpos_of_nonneg (by omega) h3
      have : (0 : Int) ≤ 1000 * 10 ^ 29 := by decide +kernel
      omega
  have : 0 - p * c = (-p) * c := by grind
  omega
theorem mulOk_l {i j : Int} (h : i.natAbs < 2 ^ 64) : mulOk i j := .inl (.inl h)
theorem c_any {T : Nat → Option Def} (hT : Sub [43, 45, 73, 74] T) (k n : Nat) (m : Mem) (most s0 s1 s2 : Int) (w : Wl n m) (h1 : 1 ≤ most) (h2 : most ≤ 5) (z : Siz s0 s1 s2) :
    Wp (callF T (k + 4) 74 [.cell n, .d (.int most), .d (szD s0 s1 s2)] m) fun u m' => Wm n m m' ∧ ∃ bs, u = .d (bsD bs) ∧ Vb bs := by
  refine callT_w hT (k + 3) 74 _ m ⟨3, 8, a_law_any_74, false⟩ ?_
  obtain ⟨a0, a1, b0, b1, c0, c1⟩ := z
  have p32 : (10 : Int) ^ 32 + 1 ≤ 10 ^ 1000 := by decide +kernel
  have p32' : (10 : Int) ^ 32 ≤ 10 ^ 100 := pw_le (by decide)
  have p3 : (2001 : Int) ≤ 10 ^ 1000 := by decide +kernel
  unfold a_law_any_74
  obtain ⟨u1, m1, e1, w1, bg, rfl, st⟩ := c_starts (hT.mono (l' := [43, 45, 73])) k n m most s0 w h1 h2 a0 a1
  have hl5 := st.ln
  have wl1 := w1.wl w
  simp! [e1, atS.1, List.length_map, ty_range (show -(2 ^ 62) ≤ (bg.length : Int) by omega) (show (bg.length : Int) ≤ 16777216 by omega), Int.toNat_natCast]
  refine wp_range bg.length (fun i ρ m' => ∃ (bs : Bs) (o o' o'' : Option U), We n m1 (.lst (bs.map bdD)) m' ∧ bs.map (·.1) = bg.take i ∧ (∀ b ∈ bs, 0 ≤ b.2.1 ∧ b.2.1 ≤ 10 ^ 32 ∧ -1000 ≤ b.2.2 ∧ b.2.2 ≤ 1000) ∧ (∀ (j : Nat) (b : Int × Int × Int), bs[j]? = some b → match bg[j + 1]? with | none => 0 ≤ b.2.2 | some c => 0 ≤ lfB b (c - 1)) ∧
      ρ = [some (.cell n), some (.d (.int most)), some (.d (szD s0 s1 s2)), some (.d (.lst (bg.map .int))), some (.cell m1.length), o, o', o''])
    ⟨[], none, none, none, We.start wl1, rfl, (by simp), (by simp), rfl⟩ ?_ ?_
  · rintro i ρ m' hi ⟨bs, o, o', o'', we, hm, hb, hlo, rfl⟩
    have wl := we.wl wl1
    have hbl : bs.length = i := by
      have := congrArg List.length hm
      rw [List.length_map, List.length_take] at this
      omega
    have key : ∃ m2 f, (evE (callF T (k + 3)) (.ite (.cmp .gt (.idx (.var 2) (.cst (.int 1))) (.cst (.int 99))) (.call 45 (.cons (.var 0) (.cons (.idx (.var 2) (.cst (.int 1))) .nil)) []) (.call 43 (.cons (.var 0) (.cons (.bin .add (.idx (.var 2) (.cst (.int 1))) (.cst (.int 1))) .nil)) [])) [some (.cell n), some (.d (.int most)), some (.d (szD s0 s1 s2)), some (.d (.lst (bg.map .int))), some (.cell m1.length), some (.d (.int (i : Int))), o', o''] m') = .ok (.d (.int f)) m2 ∧ Wm n m' m2 ∧ 0 ≤ f ∧ f ≤ 10 ^ 32 := by
      by_cases c : 99 < s1
      · obtain ⟨m2, f, e2, w2, f1, f2⟩ := c_far (hT.mono (l' := [43, 45])) (k + 1) n m' s1 wl (by omega) (by omega)
        refine ⟨m2, f, ?_, w2, f1, by omega⟩
        simp! [atS.2.1, decide_eq_true c, e2]
      · obtain ⟨m2, f, e2, w2, f1, f2⟩ := c_draw (hT.mono (l' := [43])) (k + 2) n m' (s1 + 1) wl (by omega) (by omega)
        refine ⟨m2, f, ?_, w2, f1, by omega⟩
        simp! [atS.2.1, decide_eq_false c, e2]
    obtain ⟨m2, f, e2, w2, f1, f2⟩ := key
    have we2 := we.draw w2
    have wl2 := w2.wl wl
    obtain ⟨m3, p, e3, w3, p1, p2⟩ := c_draw (hT.mono (l' := [43])) (k + 2) n m2 (2 * s2 + 1) wl2 (by omega) (by omega)
    have we3 := we2.draw w3
    rw [fB, t_nm]
    simp only [R.bind_ok, k_fB, List.set_cons_succ, List.set_cons_zero]
    rw [x_cons, x_asg, e2]
    have hbgi : bg[i]? = some bg[i] := List.getElem?_eq_getElem hi
    have ai : L2.atI (bg.map D.int) (i : Int) = some (.int bg[i]) := by
      rw [atN (by rw [List.length_map]; exact hi), List.getElem?_map, hbgi]; rfl
    have hbi := st.bd bg[i] (List.getElem_mem hi)
    have mk : ∀ (m4 : Mem) (mo pa : Int), We n m1 (.lst (bs.map bdD)) m4 → 0 ≤ mo → mo ≤ 10 ^ 32 → -1000 ≤ pa → pa ≤ 1000 → (match bg[i + 1]? with | none => 0 ≤ pa | some c => 0 ≤ mo + pa * (c - 1 - bg[i])) →
        appD m4 (.cell m1.length) (.d (.tup [.int bg[i], .int mo, .int pa])) = some (m4.set m1.length (.lst ((bs ++ [(bg[i], mo, pa)]).map bdD))) ∧ We n m1 (.lst ((bs ++ [(bg[i], mo, pa)]).map bdD)) (m4.set m1.length (.lst ((bs ++ [(bg[i], mo, pa)]).map bdD))) ∧ (bs ++ [(bg[i], mo, pa)]).map (·.1) = bg.take (i + 1) ∧
        (∀ b ∈ bs ++ [(bg[i], mo, pa)], 0 ≤ b.2.1 ∧ b.2.1 ≤ 10 ^ 32 ∧ -1000 ≤ b.2.2 ∧ b.2.2 ≤ 1000) ∧ (∀ (j : Nat) (b : Int × Int × Int), (bs ++ [(bg[i], mo, pa)])[j]? = some b → match bg[j + 1]? with | none => 0 ≤ b.2.2 | some c => 0 ≤ lfB b (c - 1)) := by
      intro m4 mo pa we4 q1 q2 q3 q4 q5
      have e := we4.app (.tup [.int bg[i], .int mo, .int pa]) (by rw [List.length_map]; omega)
      have em : (bs ++ [(bg[i], mo, pa)]).map bdD = bs.map bdD ++ [.tup [.int bg[i], .int mo, .int pa]] := by rw [List.map_append]; rfl
      refine ⟨by rw [e, em], we4.put _, ?_, fun b hb' => ?_, fun j b hj => ?_⟩
      · rw [List.map_append, hm, List.take_succ, hbgi]; rfl
      · rcases List.mem_append.mp hb' with x | x
        · exact hb b x
        · rw [List.mem_singleton.mp x]; exact ⟨q1, q2, q3, q4⟩
      · by_cases cj : j < bs.length
        · rw [List.getElem?_append_left cj] at hj
          exact hlo j b hj
        · have : j = bs.length := by
            have := (List.getElem?_eq_some_iff.mp hj).1
            simp at this; omega
          subst this
          rw [List.getElem?_append_right (Nat.le_refl _), Nat.sub_self] at hj
          simp only [List.getElem?_cons_zero, Option.some.injEq] at hj
          subst hj
          rw [hbl]
          exact q5
    have m22 : mulOk 2 s2 := mulOk_l (by decide)
    by_cases cl : i + 1 = bg.length
    · have d1 : decide ((i : Int) + 1 = (bg.length : Int)) = true := decide_eq_true (by omega)
      have hn1 : bg[i + 1]? = none := List.getElem?_eq_none (by omega)
      have hab : 0 ≤ (if p - s2 < 0 then -(p - s2) else p - s2) ∧ (if p - s2 < 0 then -(p - s2) else p - s2) ≤ 1000 := by split <;> omega
      obtain ⟨g1, g2, g3, g4, g5⟩ := mk m3 f (if p - s2 < 0 then -(p - s2) else p - s2) we3 f1 f2 (by omega) hab.2 (by rw [hn1]; exact hab.1)
      simp! [atS.2.2, q_mul m22, e3, List.length_map, d1, ai, we3.lstU, g1]
      exact ⟨_, _, _, _, g2, g3, g4, g5, rfl⟩
    · have d1 : decide ((i : Int) + 1 = (bg.length : Int)) = false := decide_eq_false (by omega)
      have hi1 : i + 1 < bg.length := by omega
      have hbg1 : bg[i + 1]? = some bg[i + 1] := List.getElem?_eq_getElem hi1
      have ai1 : L2.atI (bg.map D.int) ((i : Int) + 1) = some (.int bg[i + 1]) := by
        have := atN (xs := bg.map D.int) (k := i + 1) (by rw [List.length_map]; exact hi1)
        rw [show ((i + 1 : Nat) : Int) = (i : Int) + 1 from rfl] at this
        rw [this, List.getElem?_map, hbg1]; rfl
      have hbi1 := st.bd bg[i + 1] (List.getElem_mem hi1)
      have hlt : bg[i] < bg[i + 1] := List.pairwise_iff_getElem.mp st.so i (i + 1) hi hi1 (by omega)
      have ms : mulOk (p - s2) (bg[i + 1] - 1 - bg[i]) := mulOk_l (by omega)
      have sp := span_b (p := p - s2) (c := bg[i + 1] - 1 - bg[i]) (b := 0) (by omega) (by omega) (by omega) (by omega)
      have hmx : 0 ≤ (if 0 - (p - s2) * (bg[i + 1] - 1 - bg[i]) > f then 0 - (p - s2) * (bg[i + 1] - 1 - bg[i]) else f) ∧ (if 0 - (p - s2) * (bg[i + 1] - 1 - bg[i]) > f then 0 - (p - s2) * (bg[i + 1] - 1 - bg[i]) else f) ≤ 10 ^ 32 ∧ 0 ≤ (if 0 - (p - s2) * (bg[i + 1] - 1 - bg[i]) > f then 0 - (p - s2) * (bg[i + 1] - 1 - bg[i]) else f) + (p - s2) * (bg[i + 1] - 1 - bg[i]) := by
        generalize (p - s2) * (bg[i + 1] - 1 - bg[i]) = q at *
        split <;> omega
      obtain ⟨g1, g2, g3, g4, g5⟩ := mk m3 _ (p - s2) we3 hmx.1 hmx.2.1 (by omega) (by omega) (by rw [hbg1]; exact hmx.2.2)
      simp! [atS.2.2, q_mul m22, e3, List.length_map, d1, ai, ai1, q_mul ms, we3.lstU, g1]
      exact ⟨_, _, _, _, g2, g3, g4, g5, rfl⟩
  · rintro ρ m' ⟨bs, o, o', o'', we, hm, hb, hlo, rfl⟩
    rw [List.take_length] at hm
    have et : bltD m' .tuple [.cell m1.length] = some (.tup (bs.map bdD)) := by
      show (match DL.seqO m' (.cell m1.length) with | some xs => some (D.tup xs) | none => none) = _
      rw [we.seqO]
    simp! [et]
    rw [show m.length = m1.length from w1.len.symm]
    exact ⟨w1.trans we.take, bs, rfl, vb_of st hm hb hlo⟩
end DL
set_option linter.all false
set_option maxRecDepth 100000
set_option maxHeartbeats 4000000
set_option exponentiation.threshold 10000
namespace DL
open PySem L2 TL
local macro_rules | `(tactic| walk_at "ev") => `(tactic| try simp (config := {decide := true}) only [x_asg, x_par, x_aug, x_expr, x_app, x_ite, x_for, x_ret, x_retN, x_brk, x_cont, x_pass, x_nil, x_cons, e_var, e_cst, e_glb, e_tup, e_lst, e_nlst, e_ndic, e_ddic, e_bin, e_neg, e_cmp, e_ch, e_conj, e_disj, e_inv, e_ife, e_idx, e_to, e_fr, e_slen, e_sidx, e_sto, e_call, e_calk, e_blt, e_isi, e_mth, e_sit, e_lc, es_nil, es_cons, cj_nil, cj_last, cj_two, i_seq, i_rng, i_enum, t_nm, t_sub, t_tp, ts_nil, ts_cons, fB, lB, k_nx, k_asg, k_par, k_aug, k_expr, k_app2, k_app, k_b, k_ite, k_for, k_ret, k_seq, k_tup, k_lst, k_nlst, k_bin2, k_bin, k_neg, k_cmp2, k_cmp, k_ch3, k_ch2, k_ch, k_bl, k_inv, k_ife, k_idx2, k_idx, k_to2, k_to, k_fr2, k_fr, k_call, k_calk, k_blt, k_isi, k_mth2, k_mth, k_sit, k_lc2, k_lc, k_slen, k_sidx2, k_sidx, k_sto2, k_sto, k_c2, k_c, k_cj, k_seqI, k_rng, k_enum, k_sub3, k_sub, k_ts, k_fB, k_lB3, k_lB2, k_lB, R.bind_ok, R.bind_no, ofO_some, ofO_none, Option.map_some, Option.map_none, startE, List.map_cons, List.map_nil, List.length_cons, List.length_nil, List.cons_append, List.nil_append, List.append_nil, List.replicate, Nat.reduceAdd, Nat.reduceSub, List.getElem?_cons_zero, List.getElem?_cons_succ, if_true, if_false, Bool.not_true, Bool.not_false, List.set_cons_zero, List.set_cons_succ, List.set_set, wipeE, o_add, o_sub, o_mul, o_fdiv, o_mod, o_pow, o_addS, o_addT, o_addL, o_lt, o_le, o_gt, o_ge, o_eq, o_ne, o_eqS, o_neS, o_isN, o_isnN, o_len, o_lenT, o_lenS, o_int, o_abs, o_min, o_max, o_divmod, o_str, o_tuple, o_sum, o_all, o_repr, o_idxT, o_idxL, at0, at1, at2, ix30, ix31, ix32, c_d, c_n, p_nil, p_cons, s_d, s_n, asB_b, i_tT, i_ii, i_bi, i_ss, q_T, q_L, sq_T, sq_L, List.take_length, decide_true, decide_false, Int.reduceToNat])
local macro_rules | `(tactic| simp! [$ls,*]) => `(tactic| simp (config := {decide := true}) (disch := first | assumption | omega | (simp only [List.length_map, List.length_append, List.length_replicate, List.length_cons, List.length_nil, List.length_range]; omega) | solve_by_elim [Bd.mul, Bd.add, Bd.sub, Bd.neg, Bd.lit, Bd.ok, Bd.fok]) only [$ls,*, wp_bind, wp_ok, e_step, e_sset, e_prop, e_meth, e_mk, e_fld, x_setf, e_getw, k_step, k_sset, k_prop, k_meth2, k_meth, k_fld, k_setf, k_get3, k_get2, k_get, ins_d, st_0, st_1, x_asg, x_par, x_aug, x_expr, x_app, x_ite, x_for, x_ret, x_retN, x_brk, x_cont, x_pass, x_nil, x_cons, e_var, e_cst, e_glb, e_tup, e_lst, e_nlst, e_ndic, e_ddic, e_bin, e_neg, e_cmp, e_ch, e_conj, e_disj, e_inv, e_ife, e_idx, e_to, e_fr, e_slen, e_sidx, e_sto, e_call, e_calk, e_blt, e_isi, e_mth, e_sit, e_lc, es_nil, es_cons, cj_nil, cj_last, cj_two, i_seq, i_rng, i_enum, t_nm, t_sub, t_tp, ts_nil, ts_cons, fB, lB, k_nx, k_asg, k_par, k_aug, k_expr, k_app2, k_app, k_b, k_ite, k_for, k_ret, k_seq, k_tup, k_lst, k_nlst, k_bin2, k_bin, k_neg, k_cmp2, k_cmp, k_ch3, k_ch2, k_ch, k_bl, k_inv, k_ife, k_idx2, k_idx, k_to2, k_to, k_fr2, k_fr, k_call, k_calk, k_blt, k_isi, k_mth2, k_mth, k_sit, k_lc2, k_lc, k_slen, k_sidx2, k_sidx, k_sto2, k_sto, k_c2, k_c, k_cj, k_seqI, k_rng, k_enum, k_sub3, k_sub, k_ts, k_fB, k_lB3, k_lB2, k_lB, R.bind_ok, R.bind_no, ofO_some, ofO_none, Option.map_some, Option.map_none, startE, List.map_cons, List.map_nil, List.length_cons, List.length_nil, List.cons_append, List.nil_append, List.append_nil, List.replicate, Nat.reduceAdd, Nat.reduceSub, List.getElem?_cons_zero, List.getElem?_cons_succ, if_true, if_false, Bool.not_true, Bool.not_false, List.set_cons_zero, List.set_cons_succ, List.set_set, wipeE, o_add, o_sub, o_pow, o_lt, o_le, o_gt, o_ge, o_eq, o_ne, o_eqS, o_neS, o_isN, o_isnN, o_len, o_lenT, o_lenS, o_int, o_abs, o_min, o_max, o_tuple, o_sum, o_all, o_repr, o_idxT, o_idxL, at0, at1, at2, ix30, ix31, ix32, c_d, c_n, p_nil, p_cons, s_d, s_n, asB_b, i_tT, i_ii, i_bi, i_ss, q_T, q_L, sq_T, sq_L, List.take_length, decide_true, decide_false, Int.reduceToNat])
theorem wp_rangeB {b : U → Env → Mem → R O} {m0 : Mem} {Q : O → Mem → Prop} (n : Nat) (P : Nat → Env → Mem → Prop) (X : Env → Mem → Prop) {ρ : Env} {m : Mem} (h0 : P 0 ρ m)
    (h : ∀ i ρ m, i < n → P i ρ m → Wp (b (.d (.int (i : Int))) ρ m) fun o m' => (∃ ρ', o = .nx ρ' ∧ P (i + 1) ρ' m') ∨ ∃ ρ', o = .brk ρ' ∧ X ρ' m')
    (he : ∀ ρ m, P n ρ m → X ρ m) (hq : ∀ ρ m, X ρ m → Q (.nx ρ) m) : Wp (forL none m0 b (((List.range n).map fun (i : Nat) => D.int (i : Int)).map .d) ρ m) Q := by
  refine wp_range n P h0 (fun i ρ m hi p => (h i ρ m hi p).mono fun o m' z => ?_) fun ρ m p => hq _ _ (he _ _ p)
  rcases z with ⟨ρ', rfl, z⟩ | ⟨ρ', rfl, z⟩
  · exact z
  · exact hq _ _ z
theorem St.take {bg : List Int} (h : St bg) {j : Nat} (hj : 1 ≤ j) : St (bg.take j) := by
  refine ⟨by rw [List.length_take]; have := h.ln; omega, ?_, h.so.sublist (List.take_sublist _ _), fun x hx => h.bd x (List.mem_of_mem_take hx)⟩
  rw [List.getElem?_take_of_lt hj]; exact h.h0
/-- bands that never fall -/
structure Ev (bs : Bs) : Prop where
  vb : Vb bs
  up : ∀ b ∈ bs, 0 ≤ b.2.2
theorem ev_of {bg : List Int} {bs : Bs} (hs : St bg) (hm : bs.map (·.1) = bg) (hb : ∀ b ∈ bs, 0 ≤ b.2.1 ∧ b.2.1 ≤ 10 ^ 32 ∧ 0 ≤ b.2.2 ∧ b.2.2 ≤ 1000) : Ev bs := by
  refine ⟨vb_of hs hm (fun b h => by have := hb b h; omega) fun j b hj => ?_, fun b h => (hb b h).2.2.1⟩
  have hbb := hb b (List.mem_of_getElem? hj)
  cases q : bg[j + 1]? with
  | none => exact hbb.2.2.1
  | some c =>
    have h1 := map_get hm hj
    obtain ⟨l1, e1⟩ := List.getElem?_eq_some_iff.mp h1
    obtain ⟨l2, e2⟩ := List.getElem?_eq_some_iff.mp q
    have := List.pairwise_iff_getElem.mp hs.so j (j + 1) l1 l2 (by omega)
    rw [e1, e2] at this
    show 0 ≤ b.2.1 + b.2.2 * (c - 1 - b.1)
    have := Int.mul_nonneg hbb.2.2.1 (show 0 ≤ c - 1 - b.1 by omega)
    omega
theorem Ev.nn {bs : Bs} (h : Ev bs) {x : Int} (hx : 0 ≤ x) : 0 ≤ lf bs x := by
  obtain ⟨b, _, hb, hle, e⟩ := h.vb.lb.last hx
  have h1 := h.vb.bd b hb
  have h2 := h.up b hb
  rw [e]
  unfold lfB
  have := Int.mul_nonneg h2 (show 0 ≤ x - b.1 by omega)
  omega
theorem c_even {T : Nat → Option Def} (hT : Sub [43, 44, 45, 72, 73, 75] T) (k n : Nat) (m : Mem) (most s0 s1 s2 : Int) (w : Wl n m) (h1 : 1 ≤ most) (h2 : most ≤ 5) (z : Siz s0 s1 s2) :
    Wp (callF T (k + 4) 75 [.cell n, .d (.int most), .d (szD s0 s1 s2)] m) fun u m' => Wm n m m' ∧ ∃ bs, u = .d (bsD bs) ∧ Ev bs := by
  refine callT_w hT (k + 3) 75 _ m ⟨3, 11, a_law_even_75, false⟩ ?_
  obtain ⟨a0, a1, b0, b1, c0, c1⟩ := z
  have p32 : (10 : Int) ^ 32 + 1 ≤ 10 ^ 1000 := by decide +kernel
  have p32' : (10 : Int) ^ 32 ≤ 10 ^ 100 := pw_le (by decide)
  have p32p := pw_pos 32
  have p3 : (2001 : Int) ≤ 10 ^ 1000 := by decide +kernel
  have d9 : divOk 9 := ⟨by decide, by decide⟩
  unfold a_law_even_75
  obtain ⟨u1, m1, e1, w1, bg, rfl, st⟩ := c_starts (hT.mono (l' := [43, 45, 73])) k n m most s0 w h1 h2 a0 a1
  have hl5 := st.ln
  have wl1 := w1.wl w
  have bgp : 0 < bg.length := by
    have := st.h0
    exact (List.getElem?_eq_some_iff.mp this).1
  simp! [e1, atS.1, List.length_map, ty_range (show -(2 ^ 62) ≤ (bg.length : Int) by omega) (show (bg.length : Int) ≤ 16777216 by omega), Int.toNat_natCast]
  refine wp_rangeB bg.length (fun i ρ m' => ∃ (bs : Bs) (o6 o7 o8 o9 o10 o5 : Option U), We n m1 (.lst (bs.map bdD)) m' ∧ bs.map (·.1) = bg.take i ∧ (∀ b ∈ bs, 0 ≤ b.2.1 ∧ b.2.1 ≤ 10 ^ 32 ∧ 0 ≤ b.2.2 ∧ b.2.2 ≤ 1000) ∧
      ρ = [some (.cell n), some (.d (.int most)), some (.d (szD s0 s1 s2)), some (.d (.lst (bg.map .int))), some (.cell m1.length), o5, o6, o7, o8, o9, o10])
    (fun ρ m' => ∃ (j : Nat) (bs : Bs) (o6 o7 o8 o9 o10 o5 : Option U), 1 ≤ j ∧ We n m1 (.lst (bs.map bdD)) m' ∧ bs.map (·.1) = bg.take j ∧ (∀ b ∈ bs, 0 ≤ b.2.1 ∧ b.2.1 ≤ 10 ^ 32 ∧ 0 ≤ b.2.2 ∧ b.2.2 ≤ 1000) ∧
      ρ = [some (.cell n), some (.d (.int most)), some (.d (szD s0 s1 s2)), some (.d (.lst (bg.map .int))), some (.cell m1.length), o5, o6, o7, o8, o9, o10])
    ⟨[], none, none, none, none, none, none, We.start wl1, rfl, (by simp), rfl⟩ ?_ (fun ρ m' ⟨bs, o6, o7, o8, o9, o10, o5, h⟩ => ⟨bg.length, bs, o6, o7, o8, o9, o10, o5, bgp, h⟩) ?_
  · rintro i ρ m' hi ⟨bs, o6, o7, o8, o9, o10, o5, we, hm, hb, rfl⟩
    have wl := we.wl wl1
    have hbl : bs.length = i := by
      have := congrArg List.length hm
      rw [List.length_map, List.length_take] at this
      omega
    have hbgi : bg[i]? = some bg[i] := List.getElem?_eq_getElem hi
    have ai : L2.atI (bg.map D.int) (i : Int) = some (.int bg[i]) := by
      rw [atN (by rw [List.length_map]; exact hi), List.getElem?_map, hbgi]; rfl
    have hbi := st.bd bg[i] (List.getElem_mem hi)
    have s9 : 0 ≤ s1 / 9 ∧ s1 / 9 ≤ 10 ^ 32 := by omega
    have key : ∃ m2 f, (evE (callF T (k + 3)) (.ite (.cmp .gt (.idx (.var 2) (.cst (.int 1))) (.cst (.int 99))) (.call 45 (.cons (.var 0) (.cons (.bin .fdiv (.idx (.var 2) (.cst (.int 1))) (.cst (.int 9))) .nil)) []) (.call 43 (.cons (.var 0) (.cons (.bin .add (.idx (.var 2) (.cst (.int 1))) (.cst (.int 1))) .nil)) [])) [some (.cell n), some (.d (.int most)), some (.d (szD s0 s1 s2)), some (.d (.lst (bg.map .int))), some (.cell m1.length), some (.d (.int (i : Int))), some (.d (.int bg[i])), some (.d (.int s2)), o8, o9, o10] m') = .ok (.d (.int f)) m2 ∧ Wm n m' m2 ∧ 0 ≤ f ∧ f ≤ 10 ^ 32 := by
      by_cases c : 99 < s1
      · obtain ⟨m2, f, e2, w2, f1, f2⟩ := c_far (hT.mono (l' := [43, 45])) (k + 1) n m' (s1 / 9) wl s9.1 (by omega)
        refine ⟨m2, f, ?_, w2, f1, by omega⟩
        simp! [atS.2.1, decide_eq_true c, q_fdiv d9, e2]
      · obtain ⟨m2, f, e2, w2, f1, f2⟩ := c_draw (hT.mono (l' := [43])) (k + 2) n m' (s1 + 1) wl (by omega) (by omega)
        refine ⟨m2, f, ?_, w2, f1, by omega⟩
        simp! [atS.2.1, decide_eq_false c, e2]
    obtain ⟨m2, f, e2, w2, f1, f2⟩ := key
    have we2 := we.draw w2
    have wl2 := w2.wl wl
    have fin : ∀ (m4 : Mem) (mo tp : Int), We n m1 (.lst (bs.map bdD)) m4 → 0 ≤ mo → mo ≤ 10 ^ 32 → 0 ≤ tp → tp ≤ 1000 → ∃ m5 r m6 sp, callF T (k + 3) 43 [.cell n, .d (.int (tp + 1))] m4 = .ok (.d (.int r)) m5 ∧ callF T (k + 3) 44 [.cell n, .d (.lst [.int 0, .int tp, .int r])] m5 = .ok (.d (.int sp)) m6 ∧
        lstU m4 (.cell m1.length) = true ∧ appD m6 (.cell m1.length) (.d (.tup [.int bg[i], .int mo, .int sp])) = some (m6.set m1.length (.lst ((bs ++ [(bg[i], mo, sp)]).map bdD))) ∧ We n m1 (.lst ((bs ++ [(bg[i], mo, sp)]).map bdD)) (m6.set m1.length (.lst ((bs ++ [(bg[i], mo, sp)]).map bdD))) ∧ (bs ++ [(bg[i], mo, sp)]).map (·.1) = bg.take (i + 1) ∧
        (∀ b ∈ bs ++ [(bg[i], mo, sp)], 0 ≤ b.2.1 ∧ b.2.1 ≤ 10 ^ 32 ∧ 0 ≤ b.2.2 ∧ b.2.2 ≤ 1000) := by
      intro m4 mo tp we4 q1 q2 q3 q4
      obtain ⟨m5, r, e5, w5, r1, r2⟩ := c_draw (hT.mono (l' := [43])) (k + 2) n m4 (tp + 1) (we4.wl wl1) (by omega) (by omega)
      have we5 := we4.draw w5
      obtain ⟨m6, x, e6, w6, hx⟩ := c_some (hT.mono (l' := [43, 44])) (k + 1) n m5 [.int 0, .int tp, .int r] (we5.wl wl1) (by simp) (by simp)
      have we6 := we5.draw w6
      have hsp : ∃ sp, x = .int sp ∧ 0 ≤ sp ∧ sp ≤ 1000 := by
        simp only [List.mem_cons, List.not_mem_nil, or_false] at hx
        rcases hx with rfl | rfl | rfl
        · exact ⟨0, rfl, by omega, by omega⟩
        · exact ⟨tp, rfl, q3, q4⟩
        · exact ⟨r, rfl, r1, by omega⟩
      obtain ⟨sp, rfl, sp1, sp2⟩ := hsp
      have e := we6.app (.tup [.int bg[i], .int mo, .int sp]) (by rw [List.length_map]; omega)
      have em : (bs ++ [(bg[i], mo, sp)]).map bdD = bs.map bdD ++ [.tup [.int bg[i], .int mo, .int sp]] := by rw [List.map_append]; rfl
      refine ⟨m5, r, m6, sp, e5, e6, we4.lstU, by rw [e, em], we6.put _, ?_, fun b hb' => ?_⟩
      · rw [List.map_append, hm, List.take_succ, hbgi]; rfl
      · rcases List.mem_append.mp hb' with x | x
        · exact hb b x
        · rw [List.mem_singleton.mp x]; exact ⟨q1, q2, sp1, sp2⟩
    rw [fB, t_nm]
    simp only [R.bind_ok, k_fB, List.set_cons_succ, List.set_cons_zero]
    rw [x_cons]
    have ep : exS (callF T (k + 3)) (.par [6, 7] (.cons (.idx (.var 3) (.var 5)) (.cons (.idx (.var 2) (.cst (.int 2))) .nil))) [some (.cell n), some (.d (.int most)), some (.d (szD s0 s1 s2)), some (.d (.lst (bg.map .int))), some (.cell m1.length), some (.d (.int (i : Int))), o6, o7, o8, o9, o10] m' = .ok (.nx [some (.cell n), some (.d (.int most)), some (.d (szD s0 s1 s2)), some (.d (.lst (bg.map .int))), some (.cell m1.length), some (.d (.int (i : Int))), some (.d (.int bg[i])), some (.d (.int s2)), o8, o9, o10]) m' := by
      simp! [ai, atS.2.2]
    rw [ep, R.bind_ok]
    unfold k_seq
    simp only
    rw [x_cons, x_asg, e2]
    by_cases ci : i = 0
    · subst ci
      obtain ⟨m5, r, m6, sp, g1, g2, g3, g4, g5, g6, g7⟩ := fin m2 f s2 we2 f1 f2 (by omega) c1
      simp! [Int.natCast_zero, g1, g2, g3, g4]
      exact .inl ⟨_, rfl, _, _, _, _, _, _, _, g5, g6, g7, rfl⟩
    · have d0 : decide ((0 : Int) < (i : Int)) = true := decide_eq_true (by omega)
      have hev : Ev bs := by
        have := ev_of (bg := bg.take i) (st.take (by omega)) hm hb
        exact this
      have hb1 : 1 ≤ bg[i] := by
        have h00 := st.h0
        obtain ⟨l0, e0⟩ := List.getElem?_eq_some_iff.mp h00
        have := List.pairwise_iff_getElem.mp st.so 0 i l0 hi (by omega)
        rw [e0] at this
        omega
      have hlf := c_leftC (hT.mono (l' := [72])) (k + 2) m1.length bs (bg[i] - 1) m2 we2.get hev.vb.lb (by omega)
      have nn := hev.nn (x := bg[i] - 1) (by omega)
      by_cases cb : (10 : Int) ^ 32 < lf bs (bg[i] - 1)
      · simp! [d0, hlf, decide_eq_true cb]
        exact .inr ⟨_, rfl, i, _, _, _, _, _, _, _, by omega, we2, hm, hb, rfl⟩
      · have keyr : ∃ rm, ((1 < bg[i] ∧ lf bs (bg[i] - 1) / (bg[i] - 1) = rm ∧ divOk (bg[i] - 1)) ∨ (¬ 1 < bg[i] ∧ s1 / 9 = rm)) ∧ 0 ≤ rm ∧ rm ≤ 10 ^ 32 := by
          by_cases c : 1 < bg[i]
          · have dk : divOk (bg[i] - 1) := (Bd.nn (n := 29) (show 0 ≤ bg[i] - 1 by omega) (by omega)).fok (by omega) (by decide)
            exact ⟨_, .inl ⟨c, rfl, dk⟩, Int.ediv_nonneg nn (by omega), Int.le_trans (Int.ediv_le_self _ nn) (by omega)⟩
          · exact ⟨_, .inr ⟨c, rfl⟩, s9.1, s9.2⟩
        obtain ⟨rm, er, rm1, rm2⟩ := keyr
        obtain ⟨m3, r3, e3, w3, r31, r32⟩ := c_draw (hT.mono (l' := [43])) (k + 2) n m2 (rm + 1) wl2 (by omega) (by omega)
        have we3 := we2.draw w3
        obtain ⟨m4, x, e4, w4, hx⟩ := c_some (hT.mono (l' := [43, 44])) (k + 1) n m3 [.int 0, .int rm, .int r3] (we3.wl wl1) (by simp) (by simp)
        have we4 := we3.draw w4
        have hsp : ∃ sp, x = .int sp ∧ 0 ≤ sp ∧ sp ≤ 10 ^ 32 := by
          simp only [List.mem_cons, List.not_mem_nil, or_false] at hx
          rcases hx with rfl | rfl | rfl
          · exact ⟨0, rfl, by omega, by omega⟩
          · exact ⟨rm, rfl, rm1, rm2⟩
          · exact ⟨r3, rfl, r31, by omega⟩
        obtain ⟨x, rfl, x1, x2⟩ := hsp
        have dk : divOk bg[i] := (Bd.nn (n := 29) hbi.1 hbi.2).fok (by omega) (by decide)
        have hmo : ∃ mo, (if lf bs (bg[i] - 1) + x < (10 : Int) ^ 32 then lf bs (bg[i] - 1) + x else 10 ^ 32) = mo ∧ 0 ≤ mo ∧ mo ≤ 10 ^ 32 := ⟨_, rfl, by split <;> omega, by split <;> omega⟩
        obtain ⟨mo, emo, mo1, mo2⟩ := hmo
        have htp : ∃ tp, (if mo / bg[i] < s2 then mo / bg[i] else s2) = tp ∧ 0 ≤ tp ∧ tp ≤ 1000 := ⟨_, rfl, by
          have := Int.ediv_nonneg mo1 hbi.1
          split <;> omega, by split <;> omega⟩
        obtain ⟨tp, etp, tp1, tp2⟩ := htp
        obtain ⟨m5, r, m6, sp, g1, g2, g3, g4, g5, g6, g7⟩ := fin m4 mo tp we4 mo1 mo2 tp1 tp2
        have cbF : decide ((10 : Int) ^ 32 < lf bs (bg[i] - 1)) = false := decide_eq_false cb
        rcases er with ⟨c, erm, dm⟩ | ⟨c, erm⟩
        · simp! [d0, hlf, cbF, decide_eq_true c, q_fdiv dm, erm, e3, e4, emo, q_fdiv dk, atS.2.2, etp, g1, g2, g3, g4]
          exact .inl ⟨_, rfl, _, _, _, _, _, _, _, g5, g6, g7, rfl⟩
        · simp! [d0, hlf, cbF, decide_eq_false c, atS.2.1, q_fdiv d9, erm, e3, e4, emo, q_fdiv dk, atS.2.2, etp, g1, g2, g3, g4]
          exact .inl ⟨_, rfl, _, _, _, _, _, _, _, g5, g6, g7, rfl⟩
  · rintro ρ m' ⟨j, bs, o6, o7, o8, o9, o10, o5, hj, we, hm, hb, rfl⟩
    have et : bltD m' .tuple [.cell m1.length] = some (.tup (bs.map bdD)) := by
      show (match DL.seqO m' (.cell m1.length) with | some xs => some (D.tup xs) | none => none) = _
      rw [we.seqO]
    simp! [et]
    rw [show m.length = m1.length from w1.len.symm]
    exact ⟨w1.trans we.take, bs, rfl, ev_of (st.take hj) hm hb⟩
end DL
set_option linter.all false
set_option maxRecDepth 100000
set_option maxHeartbeats 4000000
set_option exponentiation.threshold 10000
namespace DL
open PySem L2 TL
local macro_rules | `(tactic| walk_at "ev") => `(tactic| try simp (config := {decide := true}) only [x_asg, x_par, x_aug, x_expr, x_app, x_ite, x_for, x_ret, x_retN, x_brk, x_cont, x_pass, x_nil, x_cons, e_var, e_cst, e_glb, e_tup, e_lst, e_nlst, e_ndic, e_ddic, e_bin, e_neg, e_cmp, e_ch, e_conj, e_disj, e_inv, e_ife, e_idx, e_to, e_fr, e_slen, e_sidx, e_sto, e_call, e_calk, e_blt, e_isi, e_mth, e_sit, e_lc, es_nil, es_cons, cj_nil, cj_last, cj_two, i_seq, i_rng, i_enum, t_nm, t_sub, t_tp, ts_nil, ts_cons, fB, lB, k_nx, k_asg, k_par, k_aug, k_expr, k_app2, k_app, k_b, k_ite, k_for, k_ret, k_seq, k_tup, k_lst, k_nlst, k_bin2, k_bin, k_neg, k_cmp2, k_cmp, k_ch3, k_ch2, k_ch, k_bl, k_inv, k_ife, k_idx2, k_idx, k_to2, k_to, k_fr2, k_fr, k_call, k_calk, k_blt, k_isi, k_mth2, k_mth, k_sit, k_lc2, k_lc, k_slen, k_sidx2, k_sidx, k_sto2, k_sto, k_c2, k_c, k_cj, k_seqI, k_rng, k_enum, k_sub3, k_sub, k_ts, k_fB, k_lB3, k_lB2, k_lB, R.bind_ok, R.bind_no, ofO_some, ofO_none, Option.map_some, Option.map_none, startE, List.map_cons, List.map_nil, List.length_cons, List.length_nil, List.cons_append, List.nil_append, List.append_nil, List.replicate, Nat.reduceAdd, Nat.reduceSub, List.getElem?_cons_zero, List.getElem?_cons_succ, if_true, if_false, Bool.not_true, Bool.not_false, List.set_cons_zero, List.set_cons_succ, List.set_set, wipeE, o_add, o_sub, o_mul, o_fdiv, o_mod, o_pow, o_addS, o_addT, o_addL, o_lt, o_le, o_gt, o_ge, o_eq, o_ne, o_eqS, o_neS, o_isN, o_isnN, o_len, o_lenT, o_lenS, o_int, o_abs, o_min, o_max, o_divmod, o_str, o_tuple, o_sum, o_all, o_repr, o_idxT, o_idxL, at0, at1, at2, ix30, ix31, ix32, c_d, c_n, p_nil, p_cons, s_d, s_n, asB_b, i_tT, i_ii, i_bi, i_ss, q_T, q_L, sq_T, sq_L, List.take_length, decide_true, decide_false, Int.reduceToNat])
local macro_rules | `(tactic| simp! [$ls,*]) => `(tactic| simp (config := {decide := true}) (disch := first | assumption | omega | (simp only [List.length_map, List.length_append, List.length_replicate, List.length_cons, List.length_nil, List.length_range]; omega) | solve_by_elim [Bd.mul, Bd.add, Bd.sub, Bd.neg, Bd.lit, Bd.ok, Bd.fok]) only [$ls,*, wp_bind, wp_ok, e_step, e_sset, e_prop, e_meth, e_mk, e_fld, x_setf, e_getw, k_step, k_sset, k_prop, k_meth2, k_meth, k_fld, k_setf, k_get3, k_get2, k_get, ins_d, st_0, st_1, x_asg, x_par, x_aug, x_expr, x_app, x_ite, x_for, x_ret, x_retN, x_brk, x_cont, x_pass, x_nil, x_cons, e_var, e_cst, e_glb, e_tup, e_lst, e_nlst, e_ndic, e_ddic, e_bin, e_neg, e_cmp, e_ch, e_conj, e_disj, e_inv, e_ife, e_idx, e_to, e_fr, e_slen, e_sidx, e_sto, e_call, e_calk, e_blt, e_isi, e_mth, e_sit, e_lc, es_nil, es_cons, cj_nil, cj_last, cj_two, i_seq, i_rng, i_enum, t_nm, t_sub, t_tp, ts_nil, ts_cons, fB, lB, k_nx, k_asg, k_par, k_aug, k_expr, k_app2, k_app, k_b, k_ite, k_for, k_ret, k_seq, k_tup, k_lst, k_nlst, k_bin2, k_bin, k_neg, k_cmp2, k_cmp, k_ch3, k_ch2, k_ch, k_bl, k_inv, k_ife, k_idx2, k_idx, k_to2, k_to, k_fr2, k_fr, k_call, k_calk, k_blt, k_isi, k_mth2, k_mth, k_sit, k_lc2, k_lc, k_slen, k_sidx2, k_sidx, k_sto2, k_sto, k_c2, k_c, k_cj, k_seqI, k_rng, k_enum, k_sub3, k_sub, k_ts, k_fB, k_lB3, k_lB2, k_lB, R.bind_ok, R.bind_no, ofO_some, ofO_none, Option.map_some, Option.map_none, startE, List.map_cons, List.map_nil, List.length_cons, List.length_nil, List.cons_append, List.nil_append, List.append_nil, List.replicate, Nat.reduceAdd, Nat.reduceSub, List.getElem?_cons_zero, List.getElem?_cons_succ, if_true, if_false, Bool.not_true, Bool.not_false, List.set_cons_zero, List.set_cons_succ, List.set_set, wipeE, o_add, o_sub, o_pow, o_lt, o_le, o_gt, o_ge, o_eq, o_ne, o_eqS, o_neS, o_isN, o_isnN, o_len, o_lenT, o_lenS, o_int, o_abs, o_min, o_max, o_tuple, o_sum, o_all, o_repr, o_idxT, o_idxL, at0, at1, at2, ix30, ix31, ix32, c_d, c_n, p_nil, p_cons, s_d, s_n, asB_b, i_tT, i_ii, i_bi, i_ss, q_T, q_L, sq_T, sq_L, List.take_length, decide_true, decide_false, Int.reduceToNat])
theorem set_split3 {bs : Bs} {i : Nat} (hi : i < bs.length) (q : Int × Int × Int) : (bs.map bdD).take i ++ [bdD q] ++ (bs.map bdD).drop (i + 1) = (bs.set i q).map bdD := by
  rw [← List.map_take, ← List.map_drop, List.set_eq_take_append_cons_drop, if_pos hi, List.map_append, List.map_cons, List.append_assoc]
  rfl
theorem ev_mk {bs : Bs} (h0 : bs ≠ []) (hl : bs.length ≤ 8) (hz : ∀ b, bs[0]? = some b → b.1 = 0) (so : bs.Pairwise (fun a b => a.1 < b.1)) (hb : ∀ b ∈ bs, 0 ≤ b.1 ∧ b.1 ≤ 10 ^ 29 ∧ 0 ≤ b.2.1 ∧ b.2.1 ≤ 10 ^ 32 ∧ 0 ≤ b.2.2 ∧ b.2.2 ≤ 1000) : Ev bs := by
  refine ⟨⟨h0, hl, hz, so, fun b h => by have := hb b h; omega, fun i b hi => ?_⟩, fun b h => (hb b h).2.2.2.2.1⟩
  have hbb := hb b (List.mem_of_getElem? hi)
  unfold lastO
  cases q : bs[i + 1]? with
  | none => exact hbb.2.2.2.2.1
  | some c =>
    obtain ⟨l1, e1⟩ := List.getElem?_eq_some_iff.mp hi
    obtain ⟨l2, e2⟩ := List.getElem?_eq_some_iff.mp q
    have := List.pairwise_iff_getElem.mp so i (i + 1) l1 l2 (by omega)
    rw [e1, e2] at this
    show 0 ≤ b.2.1 + b.2.2 * (c.1 - 1 - b.1)
    have := Int.mul_nonneg hbb.2.2.2.2.1 (show 0 ≤ c.1 - 1 - b.1 by omega)
    omega
theorem Ev.bd {bs : Bs} (h : Ev bs) {b : Int × Int × Int} (hb : b ∈ bs) : 0 ≤ b.1 ∧ b.1 ≤ 10 ^ 29 ∧ 0 ≤ b.2.1 ∧ b.2.1 ≤ 10 ^ 32 ∧ 0 ≤ b.2.2 ∧ b.2.2 ≤ 1000 := by
  have := h.vb.bd b hb; have := h.up b hb; omega
/-- values and steps turned, beginnings kept -/
theorem Ev.map {bs : Bs} (h : Ev bs) (f : Int × Int × Int → Int × Int × Int) (h1 : ∀ b ∈ bs, (f b).1 = b.1) (h2 : ∀ b ∈ bs, 0 ≤ (f b).2.1 ∧ (f b).2.1 ≤ 10 ^ 32 ∧ 0 ≤ (f b).2.2 ∧ (f b).2.2 ≤ 1000) : Ev (bs.map f) := by
  refine ev_mk (by simpa using h.vb.ne) (by rw [List.length_map]; exact h.vb.ln) (fun b hb => ?_) (List.pairwise_map.mpr ?_) fun b hb => ?_
  · rw [List.getElem?_map] at hb
    cases q : bs[0]? with
    | none => rw [q] at hb; cases hb
    | some c => rw [q] at hb; cases hb; rw [h1 c (List.mem_of_getElem? q)]; exact h.vb.h0 c q
  · refine List.Pairwise.imp_of_mem ?_ h.vb.so
    intro a b ha hb hab
    rw [h1 a ha, h1 b hb]; exact hab
  · obtain ⟨c, hc, rfl⟩ := List.mem_map.mp hb
    have := h.bd hc
    have e := h1 c hc
    have := h2 c hc
    omega
theorem Ev.upd {bs : Bs} (h : Ev bs) {i : Nat} (hi : i < bs.length) {v s : Int} (h2 : 0 ≤ v ∧ v ≤ 10 ^ 32 ∧ 0 ≤ s ∧ s ≤ 1000) : Ev (bs.set i (bs[i].1, v, s)) := by
  have hm : (bs.set i (bs[i].1, v, s)).map (·.1) = bs.map (·.1) := by
    rw [List.map_set]
    apply List.ext_getElem
    · simp
    · intro j h3 h4
      rw [List.getElem_set]
      split
      · rename_i e; subst e; simp
      · rfl
  have sx : ((bs.set i (bs[i].1, v, s)).map (·.1)).Pairwise (· < ·) := by
    rw [hm]; exact List.pairwise_map.mpr h.vb.so
  refine ev_mk (fun e => ?_) (by rw [List.length_set]; exact h.vb.ln) (fun b hb => ?_) (List.pairwise_map.mp sx) fun b hb => ?_
  · have := congrArg List.length e
    rw [List.length_set] at this
    simp at this
    exact h.vb.ne this
  · have e := congrArg (fun l : List Int => l[0]?) hm
    simp only [List.getElem?_map, hb] at e
    cases q : bs[0]? with
    | none => rw [q] at e; cases e
    | some c => rw [show b.1 = c.1 by simpa [q] using e]; exact h.vb.h0 c q
  · rcases List.mem_or_eq_of_mem_set hb with x | rfl
    · exact h.bd x
    · have := h.bd (List.getElem_mem hi)
      exact ⟨this.1, this.2.1, h2⟩
theorem c_sizes {T : Nat → Option Def} (hT : Sub [43, 44, 77] T) (k n : Nat) (m : Mem) (w : Wl n m) :
    ∃ m' s0 s1 s2, callF T (k + 3) 77 [.cell n] m = .ok (.d (szD s0 s1 s2)) m' ∧ Wm n m m' ∧ Siz s0 s1 s2 := by
  obtain ⟨m1, x, e, wm, hx⟩ := c_some (hT.mono (l' := [43, 44])) k n m [szD 6 40 9, szD 12 90 20, szD 40 2000 100, szD (10 ^ 29) (10 ^ 32) 1000] w (by simp) (by simp)
  have hw : Wp (callF T (k + 3) 77 [.cell n] m) fun u m' => u = .d x ∧ m' = m1 := by
    refine callT_w hT (k + 2) 77 _ m ⟨1, 1, a_law_sizes_77, false⟩ ?_
    unfold a_law_sizes_77
    have p1 : powOk 10 29 := by decide
    have p2 : powOk 10 32 := by decide
    simp! [if_pos p1, if_pos p2, Int.reduceToNat, e]
    exact ⟨trivial, wm.take⟩
  obtain ⟨u, m2, e2, rfl, rfl⟩ := hw
  simp only [List.mem_cons, List.not_mem_nil, or_false] at hx
  rcases hx with rfl | rfl | rfl | rfl
  · exact ⟨m2, _, _, _, e2, wm, by constructor <;> decide +kernel⟩
  · exact ⟨m2, _, _, _, e2, wm, by constructor <;> decide +kernel⟩
  · exact ⟨m2, _, _, _, e2, wm, by constructor <;> decide +kernel⟩
  · exact ⟨m2, _, _, _, e2, wm, by constructor <;> decide +kernel⟩
theorem c_near {T : Nat → Option Def} (hT : Sub [43, 44, 45, 72, 73, 74, 75, 76] T) (k n : Nat) (m : Mem) (most s0 s1 s2 : Int) (w : Wl n m) (h1 : 1 ≤ most) (h2 : most ≤ 5) (z : Siz s0 s1 s2) :
    Wp (callF T (k + 5) 76 [.cell n, .d (.int most), .d (szD s0 s1 s2)] m) fun u m' => Wm n m m' ∧ ∃ bs, u = .d (bsD bs) ∧ Vb bs := by
  refine callT_w hT (k + 4) 76 _ m ⟨3, 9, a_law_near_76, false⟩ ?_
  have b4 : (4 : Int) ≤ 10 ^ 1000 := by decide +kernel
  have p32 : (10 : Int) ^ 32 + 1 ≤ 10 ^ 1000 := by decide +kernel
  unfold a_law_near_76
  obtain ⟨m1, way, e1, w1, y1, y2⟩ := c_draw (hT.mono (l' := [43])) (k + 3) n m 4 w (by decide) b4
  have wl1 := w1.wl w
  by_cases c0 : way = 0
  · obtain ⟨u, m2, e2, w2, bs, rfl, vb⟩ := c_any (hT.mono (l' := [43, 45, 73, 74])) k n m1 most s0 s1 s2 wl1 h1 h2 z
    simp! [e1, decide_eq_true c0, e2]
    rw [(w1.trans w2).take]
    exact ⟨w1.trans w2, bs, rfl, vb⟩
  · obtain ⟨u, m2, e2, w2, bs, rfl, ev⟩ := c_even (hT.mono (l' := [43, 44, 45, 72, 73, 75])) k n m1 most s0 s1 s2 wl1 h1 h2 z
    have wl2 := w2.wl wl1
    by_cases c1 : way = 1
    · simp! [e1, decide_eq_false c0, e2, decide_eq_true c1]
      rw [(w1.trans w2).take]
      exact ⟨w1.trans w2, bs, rfl, ev.vb⟩
    · have hln := ev.vb.ln
      have hpl := List.length_pos_iff.mpr ev.vb.ne
      obtain ⟨m3, at_, e3, w3, f1, f2⟩ := c_draw (hT.mono (l' := [43])) (k + 3) n m2 bs.length wl2 (by omega) (by omega)
      have wl3 := w3.wl wl2
      have hi : at_.toNat < bs.length := by omega
      have ea : L2.atI (bs.map bdD) at_ = some (bdD bs[at_.toNat]) := by
        have := atN (xs := bs.map bdD) (k := at_.toNat) (by rw [List.length_map]; exact hi)
        rw [Int.toNat_of_nonneg f1] at this
        rw [this, List.getElem?_map, List.getElem?_eq_getElem hi]; rfl
      have ct : cutL (bs.map bdD) none (some at_) = (bs.map bdD).take at_.toNat := by
        have := cut_to (xs := bs.map bdD) (j := at_.toNat) (by rw [List.length_map]; omega)
        rw [Int.toNat_of_nonneg f1] at this
        exact this
      have cf : cutL (bs.map bdD) (some (at_ + 1)) none = (bs.map bdD).drop (at_.toNat + 1) := by
        have := cut_fr (xs := bs.map bdD) (j := at_.toNat + 1) (by rw [List.length_map]; omega)
        rw [Int.natCast_add, Int.toNat_of_nonneg f1] at this
        exact this
      obtain ⟨m4, x, e4, w4, hx⟩ := c_some (hT.mono (l' := [43, 44])) (k + 2) n m3 [.int (-1), .int 1, .int (-9), .int 9, .int 0] wl3 (by simp) (by simp)
      have wl4 := w4.wl wl3
      obtain ⟨m5, y, e5, w5, hy⟩ := c_some (hT.mono (l' := [43, 44])) (k + 2) n m4 [.int 0, .int 0, .int 1, .int (-1), .int 5] wl4 (by simp) (by simp)
      have hx' : ∃ i, x = .int i := by
        simp only [List.mem_cons, List.not_mem_nil, or_false] at hx
        rcases hx with rfl | rfl | rfl | rfl | rfl <;> exact ⟨_, rfl⟩
      have hy' : ∃ i, y = .int i := by
        simp only [List.mem_cons, List.not_mem_nil, or_false] at hy
        rcases hy with rfl | rfl | rfl | rfl | rfl <;> exact ⟨_, rfl⟩
      obtain ⟨x, rfl⟩ := hx'
      obtain ⟨y, rfl⟩ := hy'
      obtain ⟨a0, a1, b0, b1, c0', c1'⟩ := z
      have hvv : ∃ v, (if (if 0 < bs[at_.toNat].2.1 + x then bs[at_.toNat].2.1 + x else 0) < s1 then (if 0 < bs[at_.toNat].2.1 + x then bs[at_.toNat].2.1 + x else 0) else s1) = v ∧ 0 ≤ v ∧ v ≤ 10 ^ 32 := ⟨_, rfl, by split <;> (try split) <;> omega, by split <;> (try split) <;> omega⟩
      obtain ⟨v, ev1, v1, v2⟩ := hvv
      have hss : ∃ s, (if (if 0 < bs[at_.toNat].2.2 + y then bs[at_.toNat].2.2 + y else 0) < s2 then (if 0 < bs[at_.toNat].2.2 + y then bs[at_.toNat].2.2 + y else 0) else s2) = s ∧ 0 ≤ s ∧ s ≤ 1000 := ⟨_, rfl, by split <;> (try split) <;> omega, by split <;> (try split) <;> omega⟩
      obtain ⟨s, es1, t1, t2⟩ := hss
      have eu := ev.upd hi (v := v) (s := s) ⟨v1, v2, t1, t2⟩
      have q1 : binD m5 .add (.d (.tup ((bs.map bdD).take at_.toNat))) (.d (.tup [.tup [.int bs[at_.toNat].1, .int v, .int s]])) = some (.tup ((bs.map bdD).take at_.toNat ++ [.tup [.int bs[at_.toNat].1, .int v, .int s]])) := q_addT (by rw [List.length_take, List.length_map]; simp; omega)
      have q2 : binD m5 .add (.d (.tup ((bs.map bdD).take at_.toNat ++ [.tup [.int bs[at_.toNat].1, .int v, .int s]]))) (.d (.tup ((bs.map bdD).drop (at_.toNat + 1)))) = some (.tup ((bs.set at_.toNat (bs[at_.toNat].1, v, s)).map bdD)) := by
        rw [q_addT (by rw [List.length_append, List.length_take, List.length_drop, List.length_map]; simp; omega)]
        exact congrArg (fun l => some (D.tup l)) (set_split3 hi (bs[at_.toNat].1, v, s))
      have W := (((w1.trans w2).trans w3).trans w4).trans w5
      have gm : ∀ i j : Int, (if j > i then j else i) = (if i < j then j else i) := fun i j => rfl
      simp! [e1, decide_eq_false c0, decide_eq_false c1, e2, List.length_map, e3, ea, bdD, e4, e5, atS.2.1, atS.2.2, gm, ev1, es1, o_toT, o_frT, ct, cf, q1, q2]
      rw [W.take]
      exact ⟨W, _, rfl, eu.vb⟩
theorem v_flat : Vb [(0, 0, 100)] := ⟨by simp, by simp, by simp, by simp, by simp, by
  intro i b hi
  cases i with
  | zero => cases hi; show (0 : Int) ≤ 100; decide
  | succ i => cases hi⟩
end DL
set_option linter.all false
set_option maxRecDepth 100000
set_option maxHeartbeats 4000000
set_option exponentiation.threshold 10000
namespace DL
open PySem L2 TL
local macro_rules | `(tactic| walk_at "ev") => `(tactic| try simp (config := {decide := true}) only [x_asg, x_par, x_aug, x_expr, x_app, x_ite, x_for, x_ret, x_retN, x_brk, x_cont, x_pass, x_nil, x_cons, e_var, e_cst, e_glb, e_tup, e_lst, e_nlst, e_ndic, e_ddic, e_bin, e_neg, e_cmp, e_ch, e_conj, e_disj, e_inv, e_ife, e_idx, e_to, e_fr, e_slen, e_sidx, e_sto, e_call, e_calk, e_blt, e_isi, e_mth, e_sit, e_lc, es_nil, es_cons, cj_nil, cj_last, cj_two, i_seq, i_rng, i_enum, t_nm, t_sub, t_tp, ts_nil, ts_cons, fB, lB, k_nx, k_asg, k_par, k_aug, k_expr, k_app2, k_app, k_b, k_ite, k_for, k_ret, k_seq, k_tup, k_lst, k_nlst, k_bin2, k_bin, k_neg, k_cmp2, k_cmp, k_ch3, k_ch2, k_ch, k_bl, k_inv, k_ife, k_idx2, k_idx, k_to2, k_to, k_fr2, k_fr, k_call, k_calk, k_blt, k_isi, k_mth2, k_mth, k_sit, k_lc2, k_lc, k_slen, k_sidx2, k_sidx, k_sto2, k_sto, k_c2, k_c, k_cj, k_seqI, k_rng, k_enum, k_sub3, k_sub, k_ts, k_fB, k_lB3, k_lB2, k_lB, R.bind_ok, R.bind_no, ofO_some, ofO_none, Option.map_some, Option.map_none, startE, List.map_cons, List.map_nil, List.length_cons, List.length_nil, List.cons_append, List.nil_append, List.append_nil, List.replicate, Nat.reduceAdd, Nat.reduceSub, List.getElem?_cons_zero, List.getElem?_cons_succ, if_true, if_false, Bool.not_true, Bool.not_false, List.set_cons_zero, List.set_cons_succ, List.set_set, wipeE, o_add, o_sub, o_mul, o_fdiv, o_mod, o_pow, o_addS, o_addT, o_addL, o_lt, o_le, o_gt, o_ge, o_eq, o_ne, o_eqS, o_neS, o_isN, o_isnN, o_len, o_lenT, o_lenS, o_int, o_abs, o_min, o_max, o_divmod, o_str, o_tuple, o_sum, o_all, o_repr, o_idxT, o_idxL, at0, at1, at2, ix30, ix31, ix32, c_d, c_n, p_nil, p_cons, s_d, s_n, asB_b, i_tT, i_ii, i_bi, i_ss, q_T, q_L, sq_T, sq_L, List.take_length, decide_true, decide_false, Int.reduceToNat])
local macro_rules | `(tactic| simp! [$ls,*]) => `(tactic| simp (config := {decide := true}) (disch := first | assumption | omega | (simp only [List.length_map, List.length_append, List.length_replicate, List.length_cons, List.length_nil, List.length_range]; omega) | solve_by_elim [Bd.mul, Bd.add, Bd.sub, Bd.neg, Bd.lit, Bd.ok, Bd.fok]) only [$ls,*, wp_bind, wp_ok, e_step, e_sset, e_prop, e_meth, e_mk, e_fld, x_setf, e_getw, k_step, k_sset, k_prop, k_meth2, k_meth, k_fld, k_setf, k_get3, k_get2, k_get, ins_d, st_0, st_1, x_asg, x_par, x_aug, x_expr, x_app, x_ite, x_for, x_ret, x_retN, x_brk, x_cont, x_pass, x_nil, x_cons, e_var, e_cst, e_glb, e_tup, e_lst, e_nlst, e_ndic, e_ddic, e_bin, e_neg, e_cmp, e_ch, e_conj, e_disj, e_inv, e_ife, e_idx, e_to, e_fr, e_slen, e_sidx, e_sto, e_call, e_calk, e_blt, e_isi, e_mth, e_sit, e_lc, es_nil, es_cons, cj_nil, cj_last, cj_two, i_seq, i_rng, i_enum, t_nm, t_sub, t_tp, ts_nil, ts_cons, fB, lB, k_nx, k_asg, k_par, k_aug, k_expr, k_app2, k_app, k_b, k_ite, k_for, k_ret, k_seq, k_tup, k_lst, k_nlst, k_bin2, k_bin, k_neg, k_cmp2, k_cmp, k_ch3, k_ch2, k_ch, k_bl, k_inv, k_ife, k_idx2, k_idx, k_to2, k_to, k_fr2, k_fr, k_call, k_calk, k_blt, k_isi, k_mth2, k_mth, k_sit, k_lc2, k_lc, k_slen, k_sidx2, k_sidx, k_sto2, k_sto, k_c2, k_c, k_cj, k_seqI, k_rng, k_enum, k_sub3, k_sub, k_ts, k_fB, k_lB3, k_lB2, k_lB, R.bind_ok, R.bind_no, ofO_some, ofO_none, Option.map_some, Option.map_none, startE, List.map_cons, List.map_nil, List.length_cons, List.length_nil, List.cons_append, List.nil_append, List.append_nil, List.replicate, Nat.reduceAdd, Nat.reduceSub, List.getElem?_cons_zero, List.getElem?_cons_succ, if_true, if_false, Bool.not_true, Bool.not_false, List.set_cons_zero, List.set_cons_succ, List.set_set, wipeE, o_add, o_sub, o_pow, o_lt, o_le, o_gt, o_ge, o_eq, o_ne, o_eqS, o_neS, o_isN, o_isnN, o_len, o_lenT, o_lenS, o_int, o_abs, o_min, o_max, o_tuple, o_sum, o_all, o_repr, o_idxT, o_idxL, at0, at1, at2, ix30, ix31, ix32, c_d, c_n, p_nil, p_cons, s_d, s_n, asB_b, i_tT, i_ii, i_bi, i_ss, q_T, q_L, sq_T, sq_L, List.take_length, decide_true, decide_false, Int.reduceToNat])
theorem e_li {F : Nat → List U → Mem → R U} (o : E) (ρ : Env) (m : Mem) : evE F (.litems o) ρ m = (evE F o ρ m).bind fun x m1 => ofO ((itemsO m1 x).map fun xs => .d (.lst xs)) m1 := rfl
theorem o_sorted {m : Mem} {xs : List D} : bltD m .sorted [.d (.lst xs)] = sortD xs := rfl
theorem sort_kq (qs : Ps) : sortD ((qs.map kq).map pairI) = some (.lst ((sortP qs).map prD)) := by
  unfold sortD
  cases qs with
  | nil => rfl
  | cons p qs =>
    have : intsD (((p :: qs).map kq).map pairI) = none := rfl
    rw [this, prs_kq]
theorem o_itemsK {m : Mem} {j : Nat} {qs : Ps} (h : m[j]? = some (.dic (qs.map kq))) : itemsO m (.cell j) = some ((qs.map kq).map pairI) := by
  unfold itemsO dicO
  simp only [h]; rfl
/-- one kind behind a rule -/
def bhF (f : Bs) (qs : Ps) (p : Int × Int) : Ps := putQ qs (lf f p.1) (lkQ qs (lf f p.1) + p.2)
def bh (f : Bs) (ps : Ps) : Ps := sortP (ps.foldl (bhF f) [])
/-- purses that may stand as certificates -/
structure Kb (ps : Ps) : Prop where
  va : Va ps
  pp : ppl ps ≤ 10 ^ 72
  am : ∀ p ∈ ps, p.1 ≤ 10 ^ 30
theorem Vb.left_b {f : Bs} (h : Vb f) {x : Int} (hx : 0 ≤ x) (hx2 : x ≤ 10 ^ 30) : 0 ≤ lf f x ∧ lf f x ≤ 10 ^ 36 := by
  obtain ⟨b, hb, e⟩ := h.get hx
  obtain ⟨p1, p2⟩ := h.bat_pos hx
  have hle : b.1 ≤ x := (bat_iff h.so hb).mpr (by omega)
  have hbd := h.at_ hb
  have hlo := h.lo _ b hb
  have e36 : (10 : Int) ^ 36 = 1000000000000000000000000000000000000 := by decide +kernel
  have e30 : (10 : Int) ^ 30 = 1000000000000000000000000000000 := by decide +kernel
  have e32 := e32
  have e29 := e29
  rw [e]
  unfold lfB
  have up : b.2.2 * (x - b.1) ≤ 1000 * 10 ^ 30 := by
    by_cases s : 0 ≤ b.2.2
    · exact Int.mul_le_mul (by omega) (by omega) (by omega) (by decide)
    · have : b.2.2 * (x - b.1) ≤ 0 := Int.mul_nonpos_of_nonpos_of_nonneg (by omega) (by omega)
      omega
  refine ⟨?_, by omega⟩
  unfold lastO at hlo
  cases q : f[bat f x - 1 + 1]? with
  | none =>
    rw [q] at hlo
    have : 0 ≤ b.2.2 := hlo
    have := Int.mul_nonneg this (show 0 ≤ x - b.1 by omega)
    omega
  | some c =>
    rw [q] at hlo
    have hl : 0 ≤ b.2.1 + b.2.2 * (c.1 - 1 - b.1) := hlo
    have hc : ¬ c.1 ≤ x := fun z => by
      have := (bat_iff (x := x) h.so q).mp z
      omega
    by_cases s : 0 ≤ b.2.2
    · have := Int.mul_nonneg s (show 0 ≤ x - b.1 by omega)
      omega
    · have := Int.mul_le_mul_of_nonpos_left (a := b.2.2) (b := c.1 - 1 - b.1) (c := x - b.1) (by omega) (by omega)
      omega
structure Bq (f : Bs) (ps l : Ps) (qs : Ps) : Prop where
  fo : l.foldl (bhF f) qs = ps.foldl (bhF f) []
  hq : Qs (30 - l.length) (10 ^ 36) (10 ^ 72 - ppl l) qs
  ln : l.length ≤ 30
  pp : ppl l ≤ 10 ^ 72
  bd : ∀ p ∈ l, 0 ≤ p.1 ∧ p.1 ≤ 10 ^ 30 ∧ 1 ≤ p.2
  ne : l.length < ps.length → qs ≠ []
theorem Bq.start {f : Bs} {ps : Ps} (k : Kb ps) : Bq f ps ps [] := ⟨rfl, ⟨Nat.zero_le _, .nil, fun _ z => by cases z⟩, k.va.ln, k.pp, fun p hp => by
  have := k.va.bd p hp; have := k.am p hp; omega, fun z => by omega⟩
theorem Bq.step {f : Bs} (h : Vb f) {ps l qs : Ps} {p : Int × Int} (b : Bq f ps (p :: l) qs) : Bq f ps l (bhF f qs p) := by
  obtain ⟨fo, q, ln, pp, bd, ne⟩ := b
  have hp := bd p List.mem_cons_self
  have hb := h.left_b hp.1 hp.2.1
  have ep : ppl (p :: l) = p.2 + ppl l := rfl
  rw [ep] at pp q
  have hlk := lkQ_b (c := 10 ^ 72 - (p.2 + ppl l)) (lf f p.1) (by omega) qs fun x hx => (q.bd x hx).2.2
  rw [List.length_cons] at ln q
  have hq := (q.mono (Nat.le_refl _) (many' := 10 ^ 72 - ppl l) (by omega)).put (k := lf f p.1) (v := lkQ qs (lf f p.1) + p.2) hb.1 hb.2 (by omega) (by omega)
  rw [show 30 - (l.length + 1) + 1 = 30 - l.length by omega] at hq
  exact ⟨fo, hq, by omega, by omega, fun x hx => bd x (List.mem_cons_of_mem _ hx), fun _ => put_ne _ _ _⟩
theorem bh_va {f : Bs} {ps qs : Ps} (k : Kb ps) (b : Bq f ps [] qs) : Va (sortP qs) :=
  sort_va (by simpa using b.hq) (b.ne (List.length_pos_iff.mpr k.va.ne)) (Int.le_refl _) (by have : ppl [] = 0 := rfl; omega)
theorem bq_all {f : Bs} (h : Vb f) {ps : Ps} : ∀ (l qs : Ps), Bq f ps l qs → Bq f ps [] (ps.foldl (bhF f) [])
  | [], qs, b => by
    have e : qs = ps.foldl (bhF f) [] := b.fo
    rw [← e]; exact b
  | p :: l, qs, b => bq_all h l _ (b.step h)
theorem va_bh {f : Bs} (h : Vb f) {ps : Ps} (k : Kb ps) : Va (bh f ps) := bh_va k (bq_all h ps [] (Bq.start k))
theorem wp_get {x : R U} {a : U} {m : Mem} (h : Wp x fun u m' => u = a ∧ m' = m) : x = .ok a m := by
  obtain ⟨u, m', e, rfl, rfl⟩ := h; exact e
theorem c_kbehind {T : Nat → Option Def} (hT : Sub [6, 11, 20, 66] T) (k : Nat) (f : Bs) (ps : Ps) (m : Mem) (h : Vb f) (kb : Kb ps) : callF T (k + 3) 20 [.d (ruD f), .d (kds ps)] m = .ok (.d (kds (bh f ps))) m := by
  refine wp_get (callT_w hT (k + 2) 20 _ m ⟨2, 6, a_kinds_behind_20, false⟩ ?_)
  unfold a_kinds_behind_20
  simp! [true_and]
  refine wp_forE (f := prD) (fun l ρ m' => ∃ (qs : Ps) (o3 o4 o5 : Option U), Bq f ps l qs ∧ m' = m ++ [.dic (qs.map kq)] ∧ ρ = [some (.d (ruD f)), some (.d (kds ps)), some (.cell m.length), o3, o4, o5]) ps rfl ⟨[], none, none, none, Bq.start kb, rfl, rfl⟩ ?_ ?_
  · rintro p l ρ m' ⟨qs, o3, o4, o5, b, rfl, rfl⟩
    have hp := b.bd p List.mem_cons_self
    have hg := get_app m (.dic (qs.map kq))
    have hl : (qs.map kq).length < 10000000 := by rw [List.length_map]; have := b.hq.ln; omega
    have ca := c_at (hT.mono (l' := [6, 11, 66])) k f p.1 (m ++ [.dic (qs.map kq)]) h hp.1
    have es := o_setK (k := lf f p.1) (x := .int (lkQ qs (lf f p.1) + p.2)) hg
    rw [if_pos hl, put_kq, set_app] at es
    unfold prD
    simp! [ca, o_dict hg, o_getK hg, es]
    exact ⟨_, rfl, bhF f qs p, _, _, _, b.step h, rfl, rfl⟩
  · rintro ρ m' ⟨qs, o3, o4, o5, b, rfl, rfl⟩
    have hg := get_app m (.dic (qs.map kq))
    have e : qs = ps.foldl (bhF f) [] := b.fo
    simp! [e_li, o_itemsK hg, o_sorted, sort_kq, List.take_left]
    rw [e]; exact ⟨rfl, trivial⟩
theorem c_lbehind {T : Nat → Option Def} (hT : Sub [72, 85] T) (k : Nat) (f : Bs) (ps : Ps) (m : Mem) (h : Vb f) (kb : Kb ps) : callF T (k + 2) 85 [.d (bsD f), .d (kds ps)] m = .ok (.d (kds (bh f ps))) m := by
  refine wp_get (callT_w hT (k + 1) 85 _ m ⟨2, 6, a_law_behind_85, false⟩ ?_)
  unfold a_law_behind_85
  simp! [true_and]
  refine wp_forE (f := prD) (fun l ρ m' => ∃ (qs : Ps) (o3 o4 o5 : Option U), Bq f ps l qs ∧ m' = m ++ [.dic (qs.map kq)] ∧ ρ = [some (.d (bsD f)), some (.d (kds ps)), some (.cell m.length), o3, o4, o5]) ps rfl ⟨[], none, none, none, Bq.start kb, rfl, rfl⟩ ?_ ?_
  · rintro p l ρ m' ⟨qs, o3, o4, o5, b, rfl, rfl⟩
    have hp := b.bd p List.mem_cons_self
    have hg := get_app m (.dic (qs.map kq))
    have hl : (qs.map kq).length < 10000000 := by rw [List.length_map]; have := b.hq.ln; omega
    have ca := c_left (hT.mono (l' := [72])) k f p.1 (m ++ [.dic (qs.map kq)]) h.lb hp.1
    have es := o_setK (k := lf f p.1) (x := .int (lkQ qs (lf f p.1) + p.2)) hg
    rw [if_pos hl, put_kq, set_app] at es
    unfold prD
    simp! [ca, o_dict hg, o_getK hg, es]
    exact ⟨_, rfl, bhF f qs p, _, _, _, b.step h, rfl, rfl⟩
  · rintro ρ m' ⟨qs, o3, o4, o5, b, rfl, rfl⟩
    have hg := get_app m (.dic (qs.map kq))
    have e : qs = ps.foldl (bhF f) [] := b.fo
    simp! [o_itemsK hg, Option.bind_some, sort_kq, List.take_left]
    rw [e]; exact ⟨rfl, trivial⟩
end DL
set_option linter.all false
set_option maxRecDepth 100000
set_option maxHeartbeats 4000000
set_option exponentiation.threshold 10000
namespace DL
open PySem L2 TL
local macro_rules | `(tactic| walk_at "ev") => `(tactic| try simp (config := {decide := true}) only [x_asg, x_par, x_aug, x_expr, x_app, x_ite, x_for, x_ret, x_retN, x_brk, x_cont, x_pass, x_nil, x_cons, e_var, e_cst, e_glb, e_tup, e_lst, e_nlst, e_ndic, e_ddic, e_bin, e_neg, e_cmp, e_ch, e_conj, e_disj, e_inv, e_ife, e_idx, e_to, e_fr, e_slen, e_sidx, e_sto, e_call, e_calk, e_blt, e_isi, e_mth, e_sit, e_lc, es_nil, es_cons, cj_nil, cj_last, cj_two, i_seq, i_rng, i_enum, t_nm, t_sub, t_tp, ts_nil, ts_cons, fB, lB, k_nx, k_asg, k_par, k_aug, k_expr, k_app2, k_app, k_b, k_ite, k_for, k_ret, k_seq, k_tup, k_lst, k_nlst, k_bin2, k_bin, k_neg, k_cmp2, k_cmp, k_ch3, k_ch2, k_ch, k_bl, k_inv, k_ife, k_idx2, k_idx, k_to2, k_to, k_fr2, k_fr, k_call, k_calk, k_blt, k_isi, k_mth2, k_mth, k_sit, k_lc2, k_lc, k_slen, k_sidx2, k_sidx, k_sto2, k_sto, k_c2, k_c, k_cj, k_seqI, k_rng, k_enum, k_sub3, k_sub, k_ts, k_fB, k_lB3, k_lB2, k_lB, R.bind_ok, R.bind_no, ofO_some, ofO_none, Option.map_some, Option.map_none, startE, List.map_cons, List.map_nil, List.length_cons, List.length_nil, List.cons_append, List.nil_append, List.append_nil, List.replicate, Nat.reduceAdd, Nat.reduceSub, List.getElem?_cons_zero, List.getElem?_cons_succ, if_true, if_false, Bool.not_true, Bool.not_false, List.set_cons_zero, List.set_cons_succ, List.set_set, wipeE, o_add, o_sub, o_mul, o_fdiv, o_mod, o_pow, o_addS, o_addT, o_addL, o_lt, o_le, o_gt, o_ge, o_eq, o_ne, o_eqS, o_neS, o_isN, o_isnN, o_len, o_lenT, o_lenS, o_int, o_abs, o_min, o_max, o_divmod, o_str, o_tuple, o_sum, o_all, o_repr, o_idxT, o_idxL, at0, at1, at2, ix30, ix31, ix32, c_d, c_n, p_nil, p_cons, s_d, s_n, asB_b, i_tT, i_ii, i_bi, i_ss, q_T, q_L, sq_T, sq_L, List.take_length, decide_true, decide_false, Int.reduceToNat])
local macro_rules | `(tactic| simp! [$ls,*]) => `(tactic| simp (config := {decide := true}) (disch := first | assumption | omega | (simp only [List.length_map, List.length_append, List.length_replicate, List.length_cons, List.length_nil, List.length_range]; omega) | solve_by_elim [Bd.mul, Bd.add, Bd.sub, Bd.neg, Bd.lit, Bd.ok, Bd.fok]) only [$ls,*, wp_bind, wp_ok, e_step, e_sset, e_prop, e_meth, e_mk, e_fld, x_setf, e_getw, k_step, k_sset, k_prop, k_meth2, k_meth, k_fld, k_setf, k_get3, k_get2, k_get, ins_d, st_0, st_1, x_asg, x_par, x_aug, x_expr, x_app, x_ite, x_for, x_ret, x_retN, x_brk, x_cont, x_pass, x_nil, x_cons, e_var, e_cst, e_glb, e_tup, e_lst, e_nlst, e_ndic, e_ddic, e_bin, e_neg, e_cmp, e_ch, e_conj, e_disj, e_inv, e_ife, e_idx, e_to, e_fr, e_slen, e_sidx, e_sto, e_call, e_calk, e_blt, e_isi, e_mth, e_sit, e_lc, es_nil, es_cons, cj_nil, cj_last, cj_two, i_seq, i_rng, i_enum, t_nm, t_sub, t_tp, ts_nil, ts_cons, fB, lB, k_nx, k_asg, k_par, k_aug, k_expr, k_app2, k_app, k_b, k_ite, k_for, k_ret, k_seq, k_tup, k_lst, k_nlst, k_bin2, k_bin, k_neg, k_cmp2, k_cmp, k_ch3, k_ch2, k_ch, k_bl, k_inv, k_ife, k_idx2, k_idx, k_to2, k_to, k_fr2, k_fr, k_call, k_calk, k_blt, k_isi, k_mth2, k_mth, k_sit, k_lc2, k_lc, k_slen, k_sidx2, k_sidx, k_sto2, k_sto, k_c2, k_c, k_cj, k_seqI, k_rng, k_enum, k_sub3, k_sub, k_ts, k_fB, k_lB3, k_lB2, k_lB, R.bind_ok, R.bind_no, ofO_some, ofO_none, Option.map_some, Option.map_none, startE, List.map_cons, List.map_nil, List.length_cons, List.length_nil, List.cons_append, List.nil_append, List.append_nil, List.replicate, Nat.reduceAdd, Nat.reduceSub, List.getElem?_cons_zero, List.getElem?_cons_succ, if_true, if_false, Bool.not_true, Bool.not_false, List.set_cons_zero, List.set_cons_succ, List.set_set, wipeE, o_add, o_sub, o_pow, o_lt, o_le, o_gt, o_ge, o_eq, o_ne, o_eqS, o_neS, o_isN, o_isnN, o_len, o_lenT, o_lenS, o_int, o_abs, o_min, o_max, o_tuple, o_sum, o_all, o_repr, o_idxT, o_idxL, at0, at1, at2, ix30, ix31, ix32, c_d, c_n, p_nil, p_cons, s_d, s_n, asB_b, i_tT, i_ii, i_bi, i_ss, q_T, q_L, sq_T, sq_L, List.take_length, decide_true, decide_false, Int.reduceToNat])
abbrev nmW : List Nat := [110, 111, 116, 32, 109, 111, 114, 101]
/-- what read_purse reads, and what the checker answers then -/
inductive Cert (f g : Bs) : D → Bool → Prop
  | no : Cert f g .non false
  | far (ps : Ps) (l : Int × Int) (h : ps.getLast? = some l) (hl : 10 ^ 30 < l.1) : Cert f g (kds ps) false
  | ok (ps : Ps) (h : Kb ps) : Cert f g (kds ps) (!evn (bh f ps) (bh g ps))
theorem c_shownN {T : Nat → Option Def} (hT : Sub [0, 1, 2, 3, 4, 5, 6, 7, 8, 9, 10, 11, 17, 18, 19, 20, 21, 22, 23, 24, 39, 64, 66] T) (k : Nat) (f g : Bs) (d r : D) (b : Bool) (m : Mem) (h : Vb f) (h' : Vb g) (hr : callF T (k + 6) 17 [.d d] m = .ok (.d r) m) (hc : Cert f g r b) :
    callF T (k + 7) 39 [.d (tld3 nmW f g), .d d] m = .ok (.d (.bl b)) m := by
  refine (callT hT (k + 6) 39 _ m ⟨2, 7, a_rules_shown_39, false⟩).trans ?_
  unfold a_rules_shown_39
  have e1 : (([110, 111, 116, 32, 109, 111, 114, 101] : List Nat) == [109, 111, 114, 101]) = false := rfl
  have mk1 := c_mk (hT.mono (l' := [0, 1, 3, 4, 5, 6, 7, 64])) (k + 1) f m h
  have mk2 := c_mk (hT.mono (l' := [0, 1, 3, 4, 5, 6, 7, 64])) (k + 1) g m h'
  have i1 : L2.atI [D.str nmW, D.str (tx3 f), D.str (tx3 g)] 0 = some (D.str nmW) := rfl
  have e30 : (10 : Int) ^ 30 = 1000000000000000000000000000000 := by decide +kernel
  cases hc with
  | no => simp! [c_readrule hT.mono k f _ h, c_readrule hT.mono k g _ h', mk1, mk2, e1, hr]
  | far ps l hl hgt =>
    have ea : L2.atI (ps.map prD) (-1) = some (.tup [.int l.1, .int l.2]) := atLast (by rw [List.getLast?_map, hl]; rfl)
    simp! [c_readrule hT.mono k f _ h, c_readrule hT.mono k g _ h', mk1, mk2, e1, hr, ea, decide_eq_true (show l.1 > 1000000000000000000000000000000 by omega), decide_eq_true (show 1000000000000000000000000000000 < l.1 by omega)]
  | ok ps kb =>
    have hl : ∃ l, ps.getLast? = some l ∧ l.1 ≤ 10 ^ 30 := by
      cases q : ps.getLast? with
      | none => exact absurd (List.getLast?_eq_none_iff.mp q) kb.va.ne
      | some l => exact ⟨l, rfl, kb.am l (List.mem_of_getLast? q)⟩
    obtain ⟨l, hl, hle⟩ := hl
    have ea : L2.atI (ps.map prD) (-1) = some (.tup [.int l.1, .int l.2]) := atLast (by rw [List.getLast?_map, hl]; rfl)
    have b1 := c_kbehind (hT.mono (l' := [6, 11, 20, 66])) (k + 3) f ps m h kb
    have b2 := c_kbehind (hT.mono (l' := [6, 11, 20, 66])) (k + 3) g ps m h' kb
    have b3 := c_aseven (hT.mono (l' := [18, 19, 21, 22, 23, 24])) (k + 2) (bh f ps) (bh g ps) m (va_bh h kb) (va_bh h' kb)
    simp! [c_readrule hT.mono k f _ h, c_readrule hT.mono k g _ h', mk1, mk2, e1, hr, ea, decide_eq_false (show ¬ l.1 > 1000000000000000000000000000000 by omega), decide_eq_false (show ¬ 1000000000000000000000000000000 < l.1 by omega), b1, b2, b3]
theorem c_judgedN {T : Nat → Option Def} (hT : Sub [0, 1, 2, 3, 4, 5, 6, 7, 8, 9, 10, 11, 17, 18, 19, 20, 21, 22, 23, 24, 39, 41, 52, 53, 64, 66] T) (k : Nat) (f g : Bs) (d r : D) (b : Bool) (m : Mem) (h : Vb f) (h' : Vb g) (hr : ∀ m, callF T (k + 6) 17 [.d d] m = .ok (.d r) m) (hc : Cert f g r b) :
    callF T (k + 9) 52 [.d (tld3 nmW f g), .d d, .d (.bl b)] m = .ok (.d (.bl true)) m := by
  have hs := fun m => c_shownN (hT.mono (l' := [0, 1, 2, 3, 4, 5, 6, 7, 8, 9, 10, 11, 17, 18, 19, 20, 21, 22, 23, 24, 39, 64, 66])) k f g d r b m h h' (hr m) hc
  have acc : ∀ m, callF T (k + 8) 41 [.d (tld3 nmW f g), .d d] m = .ok (.d (.bl b)) m := fun m => by
    refine (callT hT (k + 7) 41 _ m ⟨2, 2, a_accepts_41, false⟩).trans ?_
    unfold a_accepts_41
    have e1 : ∀ m, cmpD m .notin (.d (.int 3)) (.d (.tup [.int 3, .int 4])) = some false := fun m => rfl
    have e2 : ∀ m, cmpD m .isin (.d (.str nmW)) (.d (.tup [.str [109, 111, 114, 101], .str [110, 111, 116, 32, 109, 111, 114, 101]])) = some true := fun m => rfl
    have e3 : ∀ m, cmpD m .eq (.d (.int 3)) (.d (.int 3)) = some true := fun m => rfl
    walk_at "ev"
    (try simp only [Nat.zero_add])
    (try rw [show ((3 : Nat) : Int) = 3 from rfl])
    rw [e1]
    simp! [e2, e3, hs m]
  refine (callT hT (k + 8) 52 _ m ⟨3, 4, a_law_judged_52, false⟩).trans ?_
  unfold a_law_judged_52
  have e : (List.filterMap (fun i => ([U.d d, U.d (tld3 nmW f g)] : List U)[i]?) [1, 0]) = [U.d (tld3 nmW f g), U.d d] := rfl
  simp! [acc, e, c_same2 hT.mono (k + 7)]
/-- other values -/
theorem c_readno {T : Nat → Option Def} (hT : Sub [17] T) (k : Nat) (d : D) (m : Mem) (hd : isiD .str (.d d) = some false) : callF T (k + 1) 17 [.d d] m = .ok (.d .non) m := by
  refine (callT hT k 17 _ m ⟨1, 3, a_read_purse_17, false⟩).trans ?_
  unfold a_read_purse_17
  simp! [hd]
theorem c_readbad {T : Nat → Option Def} (hT : Sub [0, 1, 2, 13, 14, 15, 16, 17] T) (k : Nat) (m : Mem) : callF T (k + 6) 17 [.d (.str [49, 32, 111, 102, 32, 49, 32])] m = .ok (.d .non) m := by
  have e16 : callF T (k + 5) 16 [.d (.str [49, 32, 111, 102, 32, 49, 32])] m = .ok (.d .non) m := by
    refine (callT hT (k + 4) 16 _ m ⟨1, 2, a_read_kind_16, false⟩).trans ?_
    unfold a_read_kind_16
    have e : mthD m .split (.d (.str [49, 32, 111, 102, 32, 49, 32])) (.d (.str [32])) = some (.lst [.str [49], .str [111, 102], .str [49], .str []]) := by rw [o_spl, if_pos (by decide)]; exact congrArg (fun l => some (D.lst l)) (split_D (sep := 32) (by decide) (parts := [[49], [111, 102], [49], []]) (by simp) (by decide))
    simp! [e]
  have e13 : ∀ m, callF T (k + 3) 13 [.d .non, .d (.int (-1)), .d (.int (10 ^ 36))] m = .ok (.d (.bl false)) m := fun m => by
    refine (callT hT (k + 2) 13 _ m ⟨3, 3, a_is_kind_13, false⟩).trans ?_
    unfold a_is_kind_13
    have it : isiD .tuple (.d .non) = some false := rfl
    simp! [it]
  have e14 : callF T (k + 4) 14 [.d (.tup [.non]), .d (.int (10 ^ 36))] m = .ok (.d (.int 0)) m := by
    refine (callT hT (k + 3) 14 _ m ⟨2, 5, a_wrong_kind_14, false⟩).trans ?_
    unfold a_wrong_kind_14
    have en : numbered [D.non] = [.tup [.int 0, .non]] := rfl
    have sq : seqO m (.d (.tup [D.non])) = some [.non] := rfl
    simp! [sq, en, e13, forL]
  have e15 : callF T (k + 5) 15 [.d (.tup [.non]), .d (.int (10 ^ 36))] m = .ok (.d (.bl false)) m := by
    refine (callT hT (k + 4) 15 _ m ⟨2, 2, a_are_kinds_15, false⟩).trans ?_
    unfold a_are_kinds_15
    simp! [e14]
  refine (callT hT (k + 5) 17 _ m ⟨1, 3, a_read_purse_17, false⟩).trans ?_
  unfold a_read_purse_17
  have e : mthD m .split (.d (.str [49, 32, 111, 102, 32, 49, 32])) (.d (.str [10])) = some (.lst [.str [49, 32, 111, 102, 32, 49, 32]]) := by rw [o_spl, if_pos (by decide)]; exact congrArg (fun l => some (D.lst l)) (split_D (sep := 10) (by decide) (parts := [[49, 32, 111, 102, 32, 49, 32]]) (by simp) (by decide))
  have e36 : (10 : Int) ^ 36 = 1000000000000000000000000000000000000 := by decide +kernel
  rw [e36] at e15
  have ok : okG none m m = true := rfl
  simp! [e, lcL, e16, e15, ok]
end DL
set_option linter.all false
set_option maxRecDepth 100000
set_option maxHeartbeats 4000000
set_option exponentiation.threshold 10000
namespace DL
open PySem L2 TL
local macro_rules | `(tactic| walk_at "ev") => `(tactic| try simp (config := {decide := true}) only [x_asg, x_par, x_aug, x_expr, x_app, x_ite, x_for, x_ret, x_retN, x_brk, x_cont, x_pass, x_nil, x_cons, e_var, e_cst, e_glb, e_tup, e_lst, e_nlst, e_ndic, e_ddic, e_bin, e_neg, e_cmp, e_ch, e_conj, e_disj, e_inv, e_ife, e_idx, e_to, e_fr, e_slen, e_sidx, e_sto, e_call, e_calk, e_blt, e_isi, e_mth, e_sit, e_lc, es_nil, es_cons, cj_nil, cj_last, cj_two, i_seq, i_rng, i_enum, t_nm, t_sub, t_tp, ts_nil, ts_cons, fB, lB, k_nx, k_asg, k_par, k_aug, k_expr, k_app2, k_app, k_b, k_ite, k_for, k_ret, k_seq, k_tup, k_lst, k_nlst, k_bin2, k_bin, k_neg, k_cmp2, k_cmp, k_ch3, k_ch2, k_ch, k_bl, k_inv, k_ife, k_idx2, k_idx, k_to2, k_to, k_fr2, k_fr, k_call, k_calk, k_blt, k_isi, k_mth2, k_mth, k_sit, k_lc2, k_lc, k_slen, k_sidx2, k_sidx, k_sto2, k_sto, k_c2, k_c, k_cj, k_seqI, k_rng, k_enum, k_sub3, k_sub, k_ts, k_fB, k_lB3, k_lB2, k_lB, R.bind_ok, R.bind_no, ofO_some, ofO_none, Option.map_some, Option.map_none, startE, List.map_cons, List.map_nil, List.length_cons, List.length_nil, List.cons_append, List.nil_append, List.append_nil, List.replicate, Nat.reduceAdd, Nat.reduceSub, List.getElem?_cons_zero, List.getElem?_cons_succ, if_true, if_false, Bool.not_true, Bool.not_false, List.set_cons_zero, List.set_cons_succ, List.set_set, wipeE, o_add, o_sub, o_mul, o_fdiv, o_mod, o_pow, o_addS, o_addT, o_addL, o_lt, o_le, o_gt, o_ge, o_eq, o_ne, o_eqS, o_neS, o_isN, o_isnN, o_len, o_lenT, o_lenS, o_int, o_abs, o_min, o_max, o_divmod, o_str, o_tuple, o_sum, o_all, o_repr, o_idxT, o_idxL, at0, at1, at2, ix30, ix31, ix32, c_d, c_n, p_nil, p_cons, s_d, s_n, asB_b, i_tT, i_ii, i_bi, i_ss, q_T, q_L, sq_T, sq_L, List.take_length, decide_true, decide_false, Int.reduceToNat])
local macro_rules | `(tactic| simp! [$ls,*]) => `(tactic| simp (config := {decide := true}) (disch := first | assumption | omega | (simp only [List.length_map, List.length_append, List.length_replicate, List.length_cons, List.length_nil, List.length_range]; omega) | solve_by_elim [Bd.mul, Bd.add, Bd.sub, Bd.neg, Bd.lit, Bd.ok, Bd.fok]) only [$ls,*, wp_bind, wp_ok, e_step, e_sset, e_prop, e_meth, e_mk, e_fld, x_setf, e_getw, k_step, k_sset, k_prop, k_meth2, k_meth, k_fld, k_setf, k_get3, k_get2, k_get, ins_d, st_0, st_1, x_asg, x_par, x_aug, x_expr, x_app, x_ite, x_for, x_ret, x_retN, x_brk, x_cont, x_pass, x_nil, x_cons, e_var, e_cst, e_glb, e_tup, e_lst, e_nlst, e_ndic, e_ddic, e_bin, e_neg, e_cmp, e_ch, e_conj, e_disj, e_inv, e_ife, e_idx, e_to, e_fr, e_slen, e_sidx, e_sto, e_call, e_calk, e_blt, e_isi, e_mth, e_sit, e_lc, es_nil, es_cons, cj_nil, cj_last, cj_two, i_seq, i_rng, i_enum, t_nm, t_sub, t_tp, ts_nil, ts_cons, fB, lB, k_nx, k_asg, k_par, k_aug, k_expr, k_app2, k_app, k_b, k_ite, k_for, k_ret, k_seq, k_tup, k_lst, k_nlst, k_bin2, k_bin, k_neg, k_cmp2, k_cmp, k_ch3, k_ch2, k_ch, k_bl, k_inv, k_ife, k_idx2, k_idx, k_to2, k_to, k_fr2, k_fr, k_call, k_calk, k_blt, k_isi, k_mth2, k_mth, k_sit, k_lc2, k_lc, k_slen, k_sidx2, k_sidx, k_sto2, k_sto, k_c2, k_c, k_cj, k_seqI, k_rng, k_enum, k_sub3, k_sub, k_ts, k_fB, k_lB3, k_lB2, k_lB, R.bind_ok, R.bind_no, ofO_some, ofO_none, Option.map_some, Option.map_none, startE, List.map_cons, List.map_nil, List.length_cons, List.length_nil, List.cons_append, List.nil_append, List.append_nil, List.replicate, Nat.reduceAdd, Nat.reduceSub, List.getElem?_cons_zero, List.getElem?_cons_succ, if_true, if_false, Bool.not_true, Bool.not_false, List.set_cons_zero, List.set_cons_succ, List.set_set, wipeE, o_add, o_sub, o_pow, o_lt, o_le, o_gt, o_ge, o_eq, o_ne, o_eqS, o_neS, o_isN, o_isnN, o_len, o_lenT, o_lenS, o_int, o_abs, o_min, o_max, o_tuple, o_sum, o_all, o_repr, o_idxT, o_idxL, at0, at1, at2, ix30, ix31, ix32, c_d, c_n, p_nil, p_cons, s_d, s_n, asB_b, i_tT, i_ii, i_bi, i_ss, q_T, q_L, sq_T, sq_L, List.take_length, decide_true, decide_false, Int.reduceToNat])
theorem c_someC {T : Nat → Option Def} (hT : Sub [43, 44] T) (k n : Nat) (m0 m : Mem) (xs : List D) (w0 : Wl n m0) (we : We n m0 (.lst xs) m) (h1 : xs ≠ []) (h2 : xs.length ≤ 1000) :
    ∃ m' x, callF T (k + 2) 44 [.cell n, .cell m0.length] m = .ok (.d x) m' ∧ Wm n m m' ∧ x ∈ xs := by
  have hp := List.length_pos_iff.mpr h1
  have e : (1000 : Int) ≤ 10 ^ 1000 := by decide +kernel
  obtain ⟨m', r, e1, wm, r1, r2⟩ := c_draw (hT.mono (l' := [43])) k n m xs.length (we.wl w0) (by omega) (by omega)
  have hr : r.toNat < xs.length := by omega
  have hw : Wp (callF T (k + 2) 44 [.cell n, .cell m0.length] m) fun u m2 => u = .d xs[r.toNat] ∧ m2 = m' := by
    refine callT_w hT (k + 1) 44 _ m ⟨2, 2, a_law_some_44, false⟩ ?_
    unfold a_law_some_44
    have el : bltD m .len [.cell m0.length] = some (.int xs.length) := by
      show lenTo 16777216 m (.cell m0.length) = _
      unfold lenTo
      simp only [we.seqO]
    have e2 : idxD m' (.cell m0.length) (.d (.int r)) = some xs[r.toNat] := by
      rw [o_idxC (we.draw wm).get]
      have := atN (xs := xs) hr
      rw [Int.toNat_of_nonneg r1] at this
      rw [this, List.getElem?_eq_getElem hr]
    simp! [el, e1, e2]
    exact ⟨trivial, wm.take⟩
  exact ⟨m', _, wp_get hw, wm, List.getElem_mem hr⟩
theorem kb2 {a x y : Int} (h1 : 0 ≤ a) (h2 : a + 1 ≤ 10 ^ 30) (x1 : 1 ≤ x) (x2 : x ≤ 10 ^ 71) (y1 : 1 ≤ y) (y2 : y ≤ 10 ^ 71) : Kb [(a, x), (a + 1, y)] := by
  have e1 : (10 : Int) ^ 72 = 10 * 10 ^ 71 := by decide +kernel
  have e2 : (10 : Int) ^ 30 ≤ 10 ^ 36 := by decide +kernel
  refine ⟨⟨by simp, by simp, ?_, ?_⟩, ?_, ?_⟩
  · simp; omega
  · simp only [List.mem_cons, List.not_mem_nil, or_false]
    rintro p (rfl | rfl) <;> simp only [] <;> omega
  · show x + (y + 0) ≤ _
    omega
  · simp only [List.mem_cons, List.not_mem_nil, or_false]
    rintro p (rfl | rfl) <;> simp only [] <;> omega
theorem kb3 {a : Int} (h1 : 0 ≤ a) (h2 : a + 5 ≤ 10 ^ 30) : Kb [(a, 1), (a + 2, 2), (a + 5, 1)] := by
  have e1 : (4 : Int) ≤ 10 ^ 72 := by decide +kernel
  have e2 : (10 : Int) ^ 30 ≤ 10 ^ 36 := by decide +kernel
  refine ⟨⟨by simp, by simp, ?_, ?_⟩, ?_, ?_⟩
  · simp; omega
  · simp only [List.mem_cons, List.not_mem_nil, or_false]
    rintro p (rfl | rfl | rfl) <;> simp only [] <;> omega
  · show (1 : Int) + (2 + (1 + 0)) ≤ _
    omega
  · simp only [List.mem_cons, List.not_mem_nil, or_false]
    rintro p (rfl | rfl | rfl) <;> simp only [] <;> omega
theorem kbV {ps : Ps} (h : Va ps) (hb : ∀ p ∈ ps, p.1 ≤ 10 ^ 30 ∧ 1 ≤ p.2 ∧ p.2 ≤ 10 ^ 40) : Kb ps := by
  refine ⟨h, ?_, fun p hp => (hb p hp).1⟩
  have := (sum_le (f := fun p => p.2) (c := 10 ^ 40) fun p hp => by have := hb p hp; omega : 0 ≤ (ps.map (·.2)).sum ∧ _).2
  have hl := h.ln
  have e : (30 : Int) * 10 ^ 40 ≤ 10 ^ 72 := by decide +kernel
  have : (ps.length : Int) * 10 ^ 40 ≤ 30 * 10 ^ 40 := Int.mul_le_mul_of_nonneg_right (by omega) (by decide)
  unfold ppl
  omega
theorem pts_30 {f g : Bs} (h : Vb f) (h' : Vb g) : ∀ p ∈ pts f g, 0 ≤ p ∧ p ≤ 10 ^ 29 := fun p hp => by
  have hb : ∀ b ∈ f ++ g, 0 ≤ b.1 ∧ b.1 ≤ 10 ^ 29 := fun b hb => by
    rcases List.mem_append.mp hb with x | x
    · have := h.bd b x; omega
    · have := h'.bd b x; omega
  rcases pts_mem.mp hp with ⟨b, hbm, rfl⟩ | ⟨b, hbm, h1, rfl⟩
  · exact hb b hbm
  · have := hb b hbm; omega
theorem pts_ne {f g : Bs} (h : Vb f) : pts f g ≠ [] := by
  obtain ⟨b, hb, _⟩ := h.first
  have := pts_mem (f := f) (g := g).mpr (.inl ⟨b, List.mem_append_left _ hb, rfl⟩)
  exact List.ne_nil_of_mem this
theorem pts_ln {f g : Bs} (h : Vb f) (h' : Vb g) : (pts f g).length ≤ 1000 := by
  have h1 := h.ln
  have h2 := h'.ln
  refine Nat.le_trans (sset_len2 _) ?_
  rw [List.length_append, List.length_map, List.length_map, List.length_append]
  have := List.length_filter_le (fun x => decide ((0 : Int) < x)) ((f ++ g).map (·.1))
  rw [List.length_map, List.length_append] at this
  omega
theorem c_tries {T : Nat → Option Def} (hT : Sub [43, 44, 45, 46, 78, 86] T) (k n : Nat) (f g : Bs) (m : Mem) (w : Wl n m) (h : Vb f) (h' : Vb g) :
    Wp (callF T (k + 4) 86 [.cell n, .d (bsD f), .d (bsD g)] m) fun u m' => Wm n m m' ∧ ∃ ps, u = .d (kds ps) ∧ Kb ps := by
  refine callT_w hT (k + 3) 86 _ m ⟨3, 7, a_law_tries_86, false⟩ ?_
  unfold a_law_tries_86
  have b9 : (9 : Int) ≤ 10 ^ 1000 := by decide +kernel
  have b30 : (10 : Int) ^ 30 ≤ 10 ^ 71 - 1 := by decide +kernel
  have b36 : (10 : Int) ^ 36 ≤ 10 ^ 71 - 1 := by decide +kernel
  have b2930 : (10 : Int) ^ 29 + 5 ≤ 10 ^ 30 := by decide +kernel
  have b71 : (10 : Int) ^ 36 * 10 ^ 35 = 10 ^ 71 := by decide +kernel
  have p1 : powOk 10 30 := by decide
  have p2 : powOk 10 36 := by decide
  have p3 : powOk 10 35 := by decide
  have p4 : powOk 10 40 := by decide
  have mm : mulOk (10 ^ 36) (10 ^ 35) := by decide +kernel
  have cp := c_points (hT.mono (l' := [78])) (k + 2) f g m (by have := h.ln; have := h'.ln; omega)
  obtain ⟨m1, x, e1, w1, hx⟩ := c_some (hT.mono (l' := [43, 44])) (k + 1) n m ((pts f g).map .int) w (by simpa using pts_ne h) (by rw [List.length_map]; exact pts_ln h h')
  obtain ⟨at_, hat, rfl⟩ := List.mem_map.mp hx
  have ha := pts_30 h h' at_ hat
  have wl1 := w1.wl w
  obtain ⟨m2, r, e2, w2, r1, r2⟩ := c_draw (hT.mono (l' := [43])) (k + 2) n m1 9 wl1 (by decide) b9
  have wl2 := w2.wl wl1
  obtain ⟨m3, s, e3, w3, s1, s2⟩ := c_far (hT.mono (l' := [43, 45])) (k + 1) n m2 (10 ^ 30) wl2 (by decide) (by decide +kernel)
  have wl3 := w3.wl wl2
  obtain ⟨m4, y, e4, w4, hy⟩ := c_some (hT.mono (l' := [43, 44])) (k + 1) n m3 [.int 1, .int (1 + r), .int (1 + s), .int (10 ^ 36 * 10 ^ 35)] wl3 (by simp) (by simp)
  have wl4 := w4.wl wl3
  have hy' : ∃ i : Int, y = .int i ∧ 1 ≤ i ∧ i ≤ 10 ^ 71 := by
    simp only [List.mem_cons, List.not_mem_nil, or_false] at hy
    rcases hy with rfl | rfl | rfl | rfl <;> exact ⟨_, rfl, by omega, by omega⟩
  obtain ⟨many, rfl, y1, y2⟩ := hy'
  obtain ⟨m5, t, e5, w5, t1, t2⟩ := c_far (hT.mono (l' := [43, 45])) (k + 1) n m4 (10 ^ 36) wl4 (by decide) (by decide +kernel)
  have wl5 := w5.wl wl4
  obtain ⟨m6, z, e6, w6, hz⟩ := c_some (hT.mono (l' := [43, 44])) (k + 1) n m5 [.int 1, .int 1, .int (1 + t)] wl5 (by simp) (by simp)
  have wl6 := w6.wl wl5
  have hz' : ∃ i : Int, z = .int i ∧ 1 ≤ i ∧ i ≤ 10 ^ 71 := by
    simp only [List.mem_cons, List.not_mem_nil, or_false] at hz
    rcases hz with rfl | rfl | rfl <;> exact ⟨_, rfl, by omega, by omega⟩
  obtain ⟨more, rfl, z1, z2⟩ := hz'
  have hlen : m.length = m6.length := by rw [w6.len, w5.len, w4.len, w3.len, w2.len, w1.len]
  have W6 := ((((w1.trans w2).trans w3).trans w4).trans w5).trans w6
  let ls : List Ps := [[(at_, many), (at_ + 1, more)], [(at_, more), (at_ + 1, many)], [(at_, 1), (at_ + 2, 2), (at_ + 5, 1)]]
  have we0 : We n m6 (.lst (ls.map kds)) (m6 ++ [.lst (ls.map kds)]) := We.start wl6
  obtain ⟨m7, u7, e7, w7, h7⟩ := c_some (hT.mono (l' := [43, 44])) (k + 1) n (m6 ++ [.lst (ls.map kds)]) [.int 60, .int (10 ^ 30)] (we0.wl wl6) (by simp) (by simp)
  have we7 := we0.draw w7
  have h7' : ∃ i : Int, u7 = .int i ∧ 0 ≤ i ∧ i ≤ 10 ^ 30 := by
    simp only [List.mem_cons, List.not_mem_nil, or_false] at h7
    rcases h7 with rfl | rfl <;> exact ⟨_, rfl, by decide, by decide +kernel⟩
  obtain ⟨top, rfl, tp1, tp2⟩ := h7'
  obtain ⟨m8, u8, e8, w8, h8⟩ := c_some (hT.mono (l' := [43, 44])) (k + 1) n m7 [.int 4, .int (10 ^ 40)] (we7.wl wl6) (by simp) (by simp)
  have we8 := we7.draw w8
  have h8' : ∃ i : Int, u8 = .int i ∧ 1 ≤ i ∧ i ≤ 10 ^ 40 := by
    simp only [List.mem_cons, List.not_mem_nil, or_false] at h8
    rcases h8 with rfl | rfl <;> exact ⟨_, rfl, by decide, by decide +kernel⟩
  obtain ⟨mny, rfl, my1, my2⟩ := h8'
  obtain ⟨m9, qs, e9, w9, vq, hq⟩ := c_kinds (hT.mono (l' := [43, 45, 46])) k n m8 4 top mny (we8.wl wl6) (by decide) (by decide) tp1 (Int.le_trans tp2 (by decide +kernel)) my1 (Int.le_trans my2 (by decide +kernel))
  have we9 := we8.draw w9
  have ea := we9.app (kds qs) (by simp [ls])
  have we10 := we9.put (.lst (ls.map kds ++ [kds qs]))
  obtain ⟨m11, r11, e11, w11, h11⟩ := c_someC (hT.mono (l' := [43, 44])) (k + 1) n m6 _ _ wl6 we10 (by simp) (by simp [ls])
  have we11 := we10.draw w11
  have hk : ∃ ps, r11 = kds ps ∧ Kb ps := by
    rw [show ls.map kds ++ [kds qs] = (ls ++ [qs]).map kds by rw [List.map_append]; rfl] at h11
    obtain ⟨ps, hps, rfl⟩ := List.mem_map.mp h11
    refine ⟨ps, rfl, ?_⟩
    simp only [ls, List.cons_append, List.nil_append, List.mem_cons, List.not_mem_nil, or_false] at hps
    rcases hps with rfl | rfl | rfl | rfl
    · exact kb2 ha.1 (by omega) y1 y2 z1 z2
    · exact kb2 ha.1 (by omega) z1 z2 y1 y2
    · exact kb3 ha.1 (by omega)
    · exact kbV vq fun p hp => by have := hq p hp; omega
  obtain ⟨ps, rfl, kb⟩ := hk
  have hU := we0.lstU
  simp only [ls, List.map_cons, List.map_nil, kds, prD, List.cons_append, List.nil_append] at e7 ea e11 hU
  simp! [cp, e1, if_pos p1, if_pos p2, if_pos p3, if_pos p4, e2, e3, q_mul mm, e4, e5, e6, e7, e8, e9, hU, ea, e11]
  rw [hlen]
  exact ⟨W6.trans we11.take, ps, rfl, kb⟩
end DL
set_option linter.all false
set_option maxRecDepth 100000
set_option maxHeartbeats 4000000
set_option exponentiation.threshold 10000
namespace DL
open PySem L2 TL
local macro_rules | `(tactic| walk_at "ev") => `(tactic| try simp (config := {decide := true}) only [x_asg, x_par, x_aug, x_expr, x_app, x_ite, x_for, x_ret, x_retN, x_brk, x_cont, x_pass, x_nil, x_cons, e_var, e_cst, e_glb, e_tup, e_lst, e_nlst, e_ndic, e_ddic, e_bin, e_neg, e_cmp, e_ch, e_conj, e_disj, e_inv, e_ife, e_idx, e_to, e_fr, e_slen, e_sidx, e_sto, e_call, e_calk, e_blt, e_isi, e_mth, e_sit, e_lc, es_nil, es_cons, cj_nil, cj_last, cj_two, i_seq, i_rng, i_enum, t_nm, t_sub, t_tp, ts_nil, ts_cons, fB, lB, k_nx, k_asg, k_par, k_aug, k_expr, k_app2, k_app, k_b, k_ite, k_for, k_ret, k_seq, k_tup, k_lst, k_nlst, k_bin2, k_bin, k_neg, k_cmp2, k_cmp, k_ch3, k_ch2, k_ch, k_bl, k_inv, k_ife, k_idx2, k_idx, k_to2, k_to, k_fr2, k_fr, k_call, k_calk, k_blt, k_isi, k_mth2, k_mth, k_sit, k_lc2, k_lc, k_slen, k_sidx2, k_sidx, k_sto2, k_sto, k_c2, k_c, k_cj, k_seqI, k_rng, k_enum, k_sub3, k_sub, k_ts, k_fB, k_lB3, k_lB2, k_lB, R.bind_ok, R.bind_no, ofO_some, ofO_none, Option.map_some, Option.map_none, startE, List.map_cons, List.map_nil, List.length_cons, List.length_nil, List.cons_append, List.nil_append, List.append_nil, List.replicate, Nat.reduceAdd, Nat.reduceSub, List.getElem?_cons_zero, List.getElem?_cons_succ, if_true, if_false, Bool.not_true, Bool.not_false, List.set_cons_zero, List.set_cons_succ, List.set_set, wipeE, o_add, o_sub, o_mul, o_fdiv, o_mod, o_pow, o_addS, o_addT, o_addL, o_lt, o_le, o_gt, o_ge, o_eq, o_ne, o_eqS, o_neS, o_isN, o_isnN, o_len, o_lenT, o_lenS, o_int, o_abs, o_min, o_max, o_divmod, o_str, o_tuple, o_sum, o_all, o_repr, o_idxT, o_idxL, at0, at1, at2, ix30, ix31, ix32, c_d, c_n, p_nil, p_cons, s_d, s_n, asB_b, i_tT, i_ii, i_bi, i_ss, q_T, q_L, sq_T, sq_L, List.take_length, decide_true, decide_false, Int.reduceToNat])
local macro_rules | `(tactic| simp! [$ls,*]) => `(tactic| simp (config := {decide := true}) (disch := first | assumption | omega | (simp only [List.length_map, List.length_append, List.length_replicate, List.length_cons, List.length_nil, List.length_range]; omega) | solve_by_elim [Bd.mul, Bd.add, Bd.sub, Bd.neg, Bd.lit, Bd.ok, Bd.fok]) only [$ls,*, wp_bind, wp_ok, e_step, e_sset, e_prop, e_meth, e_mk, e_fld, x_setf, e_getw, k_step, k_sset, k_prop, k_meth2, k_meth, k_fld, k_setf, k_get3, k_get2, k_get, ins_d, st_0, st_1, x_asg, x_par, x_aug, x_expr, x_app, x_ite, x_for, x_ret, x_retN, x_brk, x_cont, x_pass, x_nil, x_cons, e_var, e_cst, e_glb, e_tup, e_lst, e_nlst, e_ndic, e_ddic, e_bin, e_neg, e_cmp, e_ch, e_conj, e_disj, e_inv, e_ife, e_idx, e_to, e_fr, e_slen, e_sidx, e_sto, e_call, e_calk, e_blt, e_isi, e_mth, e_sit, e_lc, es_nil, es_cons, cj_nil, cj_last, cj_two, i_seq, i_rng, i_enum, t_nm, t_sub, t_tp, ts_nil, ts_cons, fB, lB, k_nx, k_asg, k_par, k_aug, k_expr, k_app2, k_app, k_b, k_ite, k_for, k_ret, k_seq, k_tup, k_lst, k_nlst, k_bin2, k_bin, k_neg, k_cmp2, k_cmp, k_ch3, k_ch2, k_ch, k_bl, k_inv, k_ife, k_idx2, k_idx, k_to2, k_to, k_fr2, k_fr, k_call, k_calk, k_blt, k_isi, k_mth2, k_mth, k_sit, k_lc2, k_lc, k_slen, k_sidx2, k_sidx, k_sto2, k_sto, k_c2, k_c, k_cj, k_seqI, k_rng, k_enum, k_sub3, k_sub, k_ts, k_fB, k_lB3, k_lB2, k_lB, R.bind_ok, R.bind_no, ofO_some, ofO_none, Option.map_some, Option.map_none, startE, List.map_cons, List.map_nil, List.length_cons, List.length_nil, List.cons_append, List.nil_append, List.append_nil, List.replicate, Nat.reduceAdd, Nat.reduceSub, List.getElem?_cons_zero, List.getElem?_cons_succ, if_true, if_false, Bool.not_true, Bool.not_false, List.set_cons_zero, List.set_cons_succ, List.set_set, wipeE, o_add, o_sub, o_pow, o_lt, o_le, o_gt, o_ge, o_eq, o_ne, o_eqS, o_neS, o_isN, o_isnN, o_len, o_lenT, o_lenS, o_int, o_abs, o_min, o_max, o_tuple, o_sum, o_all, o_repr, o_idxT, o_idxL, at0, at1, at2, ix30, ix31, ix32, c_d, c_n, p_nil, p_cons, s_d, s_n, asB_b, i_tT, i_ii, i_bi, i_ss, q_T, q_L, sq_T, sq_L, List.take_length, decide_true, decide_false, Int.reduceToNat])
def farP : Ps := [(0, 1), (10 ^ 30, 2)]
def farQ : Ps := [(0, 1), (10 ^ 30 + 1, 2)]
theorem e30' : (10 : Int) ^ 30 = 1000000000000000000000000000000 := by decide +kernel
theorem kb_far : Kb farP := by
  have e1 : (10 : Int) ^ 36 = 1000000000000000000000000000000000000 := by decide +kernel
  have e2 : (3 : Int) ≤ 10 ^ 72 := by decide +kernel
  have e3 := e30'
  refine ⟨⟨by simp [farP], by simp [farP], ?_, ?_⟩, ?_, ?_⟩
  · simp [farP]
  · simp only [farP, List.mem_cons, List.not_mem_nil, or_false]
    rintro p (rfl | rfl) <;> simp only [] <;> omega
  · show (1 : Int) + (2 + 0) ≤ _
    omega
  · simp only [farP, List.mem_cons, List.not_mem_nil, or_false]
    rintro p (rfl | rfl) <;> simp only [] <;> omega
theorem va_far : Va farQ := by
  have e1 : (10 : Int) ^ 36 = 1000000000000000000000000000000000000 := by decide +kernel
  have e2 : (3 : Int) ≤ 10 ^ 72 := by decide +kernel
  have e3 := e30'
  refine ⟨by simp [farQ], by simp [farQ], ?_, ?_⟩
  · simp only [farQ, List.pairwise_cons, List.mem_cons, List.not_mem_nil, or_false, forall_eq, List.Pairwise.nil, and_true, false_implies, implies_true]
    omega
  · simp only [farQ, List.mem_cons, List.not_mem_nil, or_false]
    rintro p (rfl | rfl) <;> simp only [] <;> omega
theorem txt_far : [49, 32, 111, 102, 32, 48, 10, 50, 32, 111, 102, 32] ++ digs ((10 : Int) ^ 30 + 1) = txt farQ := by
  rw [digs_nn (by decide +kernel)]
  decide +kernel
theorem c_asked {T : Nat → Option Def} (hT : Sub [0, 1, 2, 3, 4, 5, 6, 7, 8, 9, 10, 11, 13, 14, 15, 16, 17, 18, 19, 20, 21, 22, 23, 24, 39, 41, 43, 44, 45, 46, 47, 48, 49, 50, 52, 53, 57, 64, 66, 72, 78, 81, 85, 86, 87] T) (k n : Nat) (f g : Bs) (m : Mem) (w : Wl n m) (h : Vb f) (h' : Vb g) :
    Wp (callF T (k + 10) 87 [.cell n, .d (bsD f), .d (bsD g)] m) fun u m' => u = .d (.bl true) ∧ Wm n m m' := by
  refine callT_w hT (k + 9) 87 _ m ⟨3, 8, a_law_asked_87, false⟩ ?_
  unfold a_law_asked_87
  have due : ∀ (ps : Ps), Kb ps → ∀ m, callF T (k + 9) 57 [.d (kds (bh f ps)), .d (kds (bh g ps))] m = .ok (.d (.bl (evn (bh f ps) (bh g ps)))) m := fun ps kb m => c_lawaseven (hT.mono (l' := [48, 49, 50, 57])) (k + 6) _ _ m (va_bh h kb) (va_bh h' kb)
  have bf : ∀ (ps : Ps), Kb ps → ∀ m, callF T (k + 9) 85 [.d (bsD f), .d (kds ps)] m = .ok (.d (kds (bh f ps))) m := fun ps kb m => c_lbehind (hT.mono (l' := [72, 85])) (k + 7) f ps m h kb
  have bg : ∀ (ps : Ps), Kb ps → ∀ m, callF T (k + 9) 85 [.d (bsD g), .d (kds ps)] m = .ok (.d (kds (bh g ps))) m := fun ps kb m => c_lbehind (hT.mono (l' := [72, 85])) (k + 7) g ps m h' kb
  have li : ∀ (ps : Ps), Va ps → ∀ m, callF T (k + 9) 47 [.d (kds ps)] m = .ok (.d (.str (txt ps))) m := fun ps va m => c_lines (hT.mono (l' := [47])) (k + 8) ps m va
  have ju : ∀ (d r : D) (b : Bool), (∀ m, callF T (k + 6) 17 [.d d] m = .ok (.d r) m) → Cert f g r b → ∀ m, callF T (k + 9) 52 [.d (tld3 nmW f g), .d d, .d (.bl b)] m = .ok (.d (.bl true)) m := fun d r b h1 h2 m => c_judgedN (hT.mono (l' := [0, 1, 2, 3, 4, 5, 6, 7, 8, 9, 10, 11, 17, 18, 19, 20, 21, 22, 23, 24, 39, 41, 52, 53, 64, 66])) k f g d r b m h h' h1 h2
  have jp : ∀ (ps : Ps), Kb ps → ∀ m, callF T (k + 9) 52 [.d (tld3 nmW f g), .d (.str (txt ps)), .d (.bl (!evn (bh f ps) (bh g ps)))] m = .ok (.d (.bl true)) m := fun ps kb => ju _ _ _ (fun m => c_readpurse (hT.mono (l' := [0, 1, 2, 13, 14, 15, 16, 17])) k ps m kb.va) (.ok ps kb)
  have p1 : powOk 10 30 := by decide
  unfold tld3 nmW at ju jp
  simp! [c_lspell hT.mono (k + 8) f _ h, c_lspell hT.mono (k + 8) g _ h', ty_range]
  refine wp_forN (f := fun (i : Nat) => .int (i : Int)) (fun _ ρ m' => Wm n m m' ∧ ∃ o4 o5 o6 o7, ρ = [some (.cell n), some (.d (bsD f)), some (.d (bsD g)), some (.d (.tup [.str [110, 111, 116, 32, 109, 111, 114, 101], .str (tx3 f), .str (tx3 g)])), o4, o5, o6, o7]) _ ⟨w.refl, _, _, _, _, rfl⟩ ?_ ?_
  · rintro x r ρ m1 ⟨wm, o4, o5, o6, o7, rfl⟩
    have w1 := wm.wl w
    obtain ⟨u2, m2, e1, wm2, ps, rfl, kb⟩ := c_tries (hT.mono (l' := [43, 44, 45, 46, 78, 86])) (k + 5) n f g m1 w1 h h'
    simp! [e1, bf ps kb, bg ps kb, due ps kb, li ps kb.va, jp ps kb]
    exact ⟨_, rfl, wm.trans wm2, _, _, _, _, rfl⟩
  · rintro ρ m1 ⟨wm, o4, o5, o6, o7, rfl⟩
    have w1 := wm.wl w
    have bf' := bf farP kb_far
    have bg' := bg farP kb_far
    have li' := li farP kb_far.va
    have sk : strOk ((10 : Int) ^ 30 + 1) := strOk_n (by decide +kernel) (by decide +kernel)
    have es : ∀ m, bltD m .str [.d (.int ((10 : Int) ^ 30 + 1))] = some (.str (digs ((10 : Int) ^ 30 + 1))) := fun m => by rw [o_str, if_pos sk]
    have ea : ∀ m, binD m .add (.d (.str [49, 32, 111, 102, 32, 48, 10, 50, 32, 111, 102, 32])) (.d (.str (digs ((10 : Int) ^ 30 + 1)))) = some (.str (txt farQ)) := fun m => by
      rw [q_addS, txt_far]
      have := txt_len va_far
      rw [← txt_far, List.length_append] at this
      omega
    have jf := jp farP kb_far
    have jq := ju (.str (txt farQ)) _ false (fun m => c_readpurse (hT.mono (l' := [0, 1, 2, 13, 14, 15, 16, 17])) k farQ m va_far) (.far farQ (10 ^ 30 + 1, 2) rfl (by decide +kernel))
    have je := ju (.tup []) .non false (fun m => c_readno (hT.mono (l' := [17])) (k + 5) _ m rfl) .no
    obtain ⟨m2, d, e2, w2, hd⟩ := c_some (hT.mono (l' := [43, 44])) (k + 7) n m1 [.non, kds farP, .int 5, .lst [], .str [49, 32, 111, 102, 32, 49, 32]] w1 (by simp) (by simp)
    have jd : ∀ m, callF T (k + 9) 52 [.d (.tup [.str [110, 111, 116, 32, 109, 111, 114, 101], .str (tx3 f), .str (tx3 g)]), .d d, .d (.bl false)] m = .ok (.d (.bl true)) m := by
      simp only [List.mem_cons, List.not_mem_nil, or_false] at hd
      rcases hd with rfl | rfl | rfl | rfl | rfl
      · exact ju _ .non false (fun m => c_readno (hT.mono (l' := [17])) (k + 5) _ m rfl) .no
      · exact ju _ .non false (fun m => c_readno (hT.mono (l' := [17])) (k + 5) _ m rfl) .no
      · exact ju _ .non false (fun m => c_readno (hT.mono (l' := [17])) (k + 5) _ m rfl) .no
      · exact ju _ .non false (fun m => c_readno (hT.mono (l' := [17])) (k + 5) _ m rfl) .no
      · exact ju _ .non false (fun m => c_readbad (hT.mono (l' := [0, 1, 2, 13, 14, 15, 16, 17])) k m) .no
    have du := due farP kb_far
    simp only [kds, farP, List.map_cons, List.map_nil, prD] at bf' bg' li' e2
    have ef : farP = [(0, 1), (10 ^ 30, 2)] := rfl
    simp! [if_pos p1, bf', bg', ← ef, du, li', jf, es, ea, jq, je, e2, jd]
    have W := wm.trans w2
    rw [W.take]; exact ⟨trivial, W⟩
theorem c_right80 {T : Nat → Option Def} (hT : Sub [0, 1, 2, 3, 4, 5, 6, 7, 8, 9, 10, 11, 13, 14, 15, 16, 17, 18, 19, 20, 21, 22, 23, 24, 39, 41, 43, 44, 45, 46, 47, 48, 49, 50, 52, 53, 57, 64, 66, 72, 73, 74, 75, 76, 77, 78, 81, 85, 86, 87, 88] T) (k n : Nat) (m : Mem) (w : Wl n m) :
    Wp (callF T (k + 11) 88 [.cell n] m) fun u m' => u = .d (.bl true) ∧ Wm n m m' := by
  refine callT_w hT (k + 10) 88 _ m ⟨1, 5, a_law_right_88, false⟩ ?_
  unfold a_law_right_88
  simp! [ty_range]
  refine wp_forN (f := fun (i : Nat) => .int (i : Int)) (fun _ ρ m' => Wm n m m' ∧ ∃ o1 o2 o3 o4, ρ = [some (.cell n), o1, o2, o3, o4]) _ ⟨w.refl, _, _, _, _, rfl⟩ ?_ ?_
  · rintro x r ρ m1 ⟨wm, o1, o2, o3, o4, rfl⟩
    have w1 := wm.wl w
    obtain ⟨m2, s0, s1, s2, e2, wm2, z⟩ := c_sizes (hT.mono (l' := [43, 44, 77])) (k + 7) n m1 w1
    have w2 := wm2.wl w1
    obtain ⟨u3, m3, e3, wm3, f, rfl, vf⟩ := c_near (hT.mono (l' := [43, 44, 45, 72, 73, 74, 75, 76])) (k + 5) n m2 4 s0 s1 s2 w2 (by decide) (by decide) z
    have w3 := wm3.wl w2
    obtain ⟨u4, m4, e4, wm4, g, rfl, vg⟩ := c_near (hT.mono (l' := [43, 44, 45, 72, 73, 74, 75, 76])) (k + 5) n m3 4 s0 s1 s2 w3 (by decide) (by decide) z
    have w4 := wm4.wl w3
    obtain ⟨m5, d, e5, wm5, hd⟩ := c_some (hT.mono (l' := [43, 44])) (k + 8) n m4 [bsD [(0, 0, 100)], bsD g] w4 (by simp) (by simp)
    have w5 := wm5.wl w4
    have hg : ∃ g', d = bsD g' ∧ Vb g' := by
      simp only [List.mem_cons, List.not_mem_nil, or_false] at hd
      rcases hd with rfl | rfl
      · exact ⟨_, rfl, v_flat⟩
      · exact ⟨_, rfl, vg⟩
    obtain ⟨g', rfl, vg'⟩ := hg
    obtain ⟨u6, m6, e6, rfl, wm6⟩ := c_asked (hT.mono (l' := [0, 1, 2, 3, 4, 5, 6, 7, 8, 9, 10, 11, 13, 14, 15, 16, 17, 18, 19, 20, 21, 22, 23, 24, 39, 41, 43, 44, 45, 46, 47, 48, 49, 50, 52, 53, 57, 64, 66, 72, 78, 81, 85, 86, 87])) k n f g' m5 w5 vf vg'
    have e5' : callF T (k + 10) 44 [.cell n, .d (.lst [.tup [.tup [.int 0, .int 0, .int 100]], bsD g])] m4 = .ok (.d (bsD g')) m5 := e5
    simp! [e2, e3, e4, e5', e6]
    exact ⟨_, rfl, ((((wm.trans wm2).trans wm3).trans wm4).trans wm5).trans wm6, _, _, _, _, rfl⟩
  · rintro ρ m1 ⟨wm, o1, o2, o3, o4, rfl⟩
    simp! [true_and]
    rw [wm.take]; exact wm
theorem c_law80 {T : Nat → Option Def} (hT : Sub [0, 1, 2, 3, 4, 5, 6, 7, 8, 9, 10, 11, 13, 14, 15, 16, 17, 18, 19, 20, 21, 22, 23, 24, 39, 41, 42, 43, 44, 45, 46, 47, 48, 49, 50, 52, 53, 57, 64, 66, 72, 73, 74, 75, 76, 77, 78, 81, 85, 86, 87, 88, 89] T) (k : Nat) (ns : List Int) :
    Wp (callF T (k + 12) 89 [.d (.scr ns)] []) fun u _ => u = .d (.bl true) := by
  refine callT_w hT (k + 11) 89 _ [] ⟨1, 2, a_law_89, false⟩ ?_
  unfold a_law_89
  simp! [true_and]
  rw [ty_range (by split <;> omega) (by split <;> (first | omega | (split <;> omega)))]
  simp! [true_and]
  refine wp_lc (f := fun (i : Nat) => D.int (i : Int)) (g := fun _ => .bl true) _ (fun x _ m => ?_) fun m' => ?_
  · obtain ⟨a, b, e1, h1, h2⟩ := c_well (hT.mono (l' := [42])) (k + 10) ns x m
    obtain ⟨u, m2, e2, rfl, _⟩ := c_right80 (hT.mono (l' := [0, 1, 2, 3, 4, 5, 6, 7, 8, 9, 10, 11, 13, 14, 15, 16, 17, 18, 19, 20, 21, 22, 23, 24, 39, 41, 43, 44, 45, 46, 47, 48, 49, 50, 52, 53, 57, 64, 66, 72, 73, 74, 75, 76, 77, 78, 81, 85, 86, 87, 88])) k m.length (m ++ [wl a b 0]) ⟨a, b, 0, get_app _ _, h1, h2⟩
    simp! [e1, e2]
  · simp! [all_true]
    simp
end DL
set_option maxHeartbeats 0
namespace DL
open PySem PySem.Spec PyProof.Rows L2
def T : Nat → Option Def
  | 0 => Tall 0
  | 1 => Tall 1
  | 2 => Tall 2
  | 3 => Tall 3
  | 4 => Tall 4
  | 5 => Tall 5
  | 6 => Tall 6
  | 7 => Tall 7
  | 8 => Tall 8
  | 9 => Tall 9
  | 10 => Tall 10
  | 11 => Tall 11
  | 64 => Tall 64
  | 66 => Tall 66
  | 13 => Tall 13
  | 14 => Tall 14
  | 15 => Tall 15
  | 16 => Tall 16
  | 17 => Tall 17
  | 18 => Tall 18
  | 19 => Tall 19
  | 20 => Tall 20
  | 21 => Tall 21
  | 22 => Tall 22
  | 23 => Tall 23
  | 24 => Tall 24
  | 39 => Tall 39
  | 41 => Tall 41
  | 42 => Tall 42
  | 43 => Tall 43
  | 44 => Tall 44
  | 45 => Tall 45
  | 72 => Tall 72
  | 73 => Tall 73
  | 74 => Tall 74
  | 75 => Tall 75
  | 76 => Tall 76
  | 77 => Tall 77
  | 78 => Tall 78
  | 81 => Tall 81
  | 52 => Tall 52
  | 53 => Tall 53
  | 46 => Tall 46
  | 47 => Tall 47
  | 85 => Tall 85
  | 48 => Tall 48
  | 49 => Tall 49
  | 50 => Tall 50
  | 57 => Tall 57
  | 86 => Tall 86
  | 87 => Tall 87
  | 88 => Tall 88
  | 89 => Tall 89
  | _ => none
def nmF : Nat → Str
  | 0 => "is_integer"
  | 1 => "is_within"
  | 2 => "read_number"
  | 3 => "is_band"
  | 4 => "wrong_band"
  | 5 => "last_of"
  | 6 => "left_in"
  | 7 => "lowest_band"
  | 8 => "are_bands"
  | 9 => "read_band"
  | 10 => "read_rule"
  | 11 => "band_at"
  | 13 => "is_kind"
  | 14 => "wrong_kind"
  | 15 => "are_kinds"
  | 16 => "read_kind"
  | 17 => "read_purse"
  | 18 => "people_of"
  | 19 => "total_of"
  | 20 => "kinds_behind"
  | 21 => "share_of"
  | 22 => "bends_of"
  | 23 => "first_crossing"
  | 24 => "as_even"
  | 39 => "rules_shown"
  | 41 => "accepts"
  | 42 => "_law_well"
  | 43 => "_law_draw"
  | 44 => "_law_some"
  | 45 => "_law_far"
  | 72 => "_law_left"
  | 73 => "_law_starts"
  | 74 => "_law_any"
  | 75 => "_law_even"
  | 76 => "_law_near"
  | 77 => "_law_sizes"
  | 78 => "_law_points"
  | 81 => "_law_spell"
  | 52 => "_law_judged"
  | 53 => "_law_same"
  | 46 => "_law_kinds"
  | 47 => "_law_lines"
  | 85 => "_law_behind"
  | 48 => "_law_lower"
  | 49 => "_law_is_less"
  | 50 => "_law_ends"
  | 57 => "_law_as_even"
  | 86 => "_law_tries"
  | 87 => "_law_asked"
  | 88 => "_law_right"
  | 89 => "law"
  | _ => ""
def arF : Nat → List Str
  | 0 => ["value"]
  | 1 => ["value", "least", "most"]
  | 2 => ["word"]
  | 3 => ["value", "before"]
  | 4 => ["bands"]
  | 5 => ["bands", "at"]
  | 6 => ["band", "income"]
  | 7 => ["bands"]
  | 8 => ["bands"]
  | 9 => ["line"]
  | 10 => ["text"]
  | 11 => ["bands", "income"]
  | 64 => ["self", "bands"]
  | 66 => ["self", "income"]
  | 13 => ["value", "before", "most"]
  | 14 => ["kinds", "most"]
  | 15 => ["kinds", "most"]
  | 16 => ["line"]
  | 17 => ["text"]
  | 18 => ["kinds"]
  | 19 => ["kinds"]
  | 20 => ["rule", "kinds"]
  | 21 => ["kinds", "part", "whole"]
  | 22 => ["kinds"]
  | 23 => ["first", "second"]
  | 24 => ["first", "second"]
  | 39 => ["claim", "certificate"]
  | 41 => ["claim", "certificate"]
  | 42 => ["script", "at"]
  | 43 => ["well", "many"]
  | 44 => ["well", "things"]
  | 45 => ["well", "top"]
  | 72 => ["bands", "income"]
  | 73 => ["well", "most", "top"]
  | 74 => ["well", "most", "sizes"]
  | 75 => ["well", "most", "sizes"]
  | 76 => ["well", "most", "sizes"]
  | 77 => ["well"]
  | 78 => ["bands", "mates"]
  | 81 => ["bands"]
  | 52 => ["told", "paper", "due"]
  | 53 => ["told", "due"]
  | 46 => ["well", "most", "top", "many"]
  | 47 => ["kinds"]
  | 85 => ["bands", "kinds"]
  | 48 => ["kinds", "part", "whole"]
  | 49 => ["kinds", "mates", "part", "whole"]
  | 50 => ["kinds"]
  | 57 => ["kinds", "mates"]
  | 86 => ["well", "bands", "mates"]
  | 87 => ["well", "bands", "mates"]
  | 88 => ["well"]
  | 89 => ["script"]
  | _ => []
def dflF : Nat → List D
  | 14 => [(.int 1000000000000000000000000000000000000)]
  | _ => []
def hasF : Nat → Bool
  | 0 => true
  | 1 => true
  | 2 => true
  | 3 => true
  | 4 => true
  | 5 => true
  | 6 => true
  | 7 => true
  | 8 => true
  | 9 => true
  | 10 => true
  | 11 => true
  | 13 => true
  | 14 => true
  | 15 => true
  | 16 => true
  | 17 => true
  | 18 => true
  | 19 => true
  | 20 => true
  | 21 => true
  | 22 => true
  | 23 => true
  | 24 => true
  | 39 => true
  | 41 => true
  | 42 => true
  | 43 => true
  | 44 => true
  | 45 => true
  | 72 => true
  | 73 => true
  | 74 => true
  | 75 => true
  | 76 => true
  | 77 => true
  | 78 => true
  | 81 => true
  | 52 => true
  | 53 => true
  | 46 => true
  | 47 => true
  | 85 => true
  | 48 => true
  | 49 => true
  | 50 => true
  | 57 => true
  | 86 => true
  | 87 => true
  | 88 => true
  | 89 => true
  | _ => false
def hasMF : Nat → Bool
  | 64 => true
  | 66 => true
  | _ => false
def iscF : List (Nat × Str) := []
def mthF : List (Nat × Nat × Str) := [(66, 0, "at")]
def prpF : List (Nat × Nat × Str) := []
def mksF : List (Nat × Nat × Str) := [(64, 0, "Rule")]
def fdsF : List (Nat × Str) := [(0, "pieces")]
def cstF : List (Str × D) := [("MOST_BANDS", (.int 8)), ("MOST_STEP", (.int 1000)), ("MOST_START", (.int 100000000000000000000000000000)), ("MOST_INCOME", (.int 1000000000000000000000000000000)), ("MOST_VALUE", (.int 100000000000000000000000000000000)), ("MOST_KINDS", (.int 30)), ("MOST_AMOUNT", (.int 1000000000000000000000000000000000000)), ("MOST_COUNT", (.int 1000000000000000000000000000000000000000000000000000000000000000000000000)), ("DIGITS", (.str [48, 49, 50, 51, 52, 53, 54, 55, 56, 57]))]
def kwF : List (Nat × List Str × List Nat) := [(41, ["certificate", "claim"], [1, 0])]
def Γ0 : Stat := ⟨[], nmF, arF, dflF, hasF, cstF, kwF, hasMF, mthF, prpF, mksF, fdsF, iscF⟩
def N_is_integer : List Str := ["value"]
theorem ck_is_integer : chkSs { Γ0 with N := N_is_integer } (defScope st_is_integer) a_is_integer_0 (defBody st_is_integer) = true := by decide +kernel
theorem sc_is_integer : FnScope N_is_integer (arF 0) (defScope st_is_integer) := ⟨by decide +kernel, by decide +kernel, by decide +kernel, by decide +kernel, by decide +kernel, by decide +kernel, by decide +kernel⟩
def N_is_within : List Str := ["value", "least", "most"]
theorem ck_is_within : chkSs { Γ0 with N := N_is_within } (defScope st_is_within) a_is_within_1 (defBody st_is_within) = true := by decide +kernel
theorem sc_is_within : FnScope N_is_within (arF 1) (defScope st_is_within) := ⟨by decide +kernel, by decide +kernel, by decide +kernel, by decide +kernel, by decide +kernel, by decide +kernel, by decide +kernel⟩
def N_read_number : List Str := ["word", "digits", "sign", "number"]
theorem ck_read_number : chkSs { Γ0 with N := N_read_number } (defScope st_read_number) a_read_number_2 (defBody st_read_number) = true := by decide +kernel
theorem sc_read_number : FnScope N_read_number (arF 2) (defScope st_read_number) := ⟨by decide +kernel, by decide +kernel, by decide +kernel, by decide +kernel, by decide +kernel, by decide +kernel, by decide +kernel⟩
def N_is_band : List Str := ["value", "before", "least", "most"]
theorem ck_is_band : chkSs { Γ0 with N := N_is_band } (defScope st_is_band) a_is_band_3 (defBody st_is_band) = true := by decide +kernel
theorem sc_is_band : FnScope N_is_band (arF 3) (defScope st_is_band) := ⟨by decide +kernel, by decide +kernel, by decide +kernel, by decide +kernel, by decide +kernel, by decide +kernel, by decide +kernel⟩
def N_wrong_band : List Str := ["bands", "before", "at", "band"]
theorem ck_wrong_band : chkSs { Γ0 with N := N_wrong_band } (defScope st_wrong_band) a_wrong_band_4 (defBody st_wrong_band) = true := by decide +kernel
theorem sc_wrong_band : FnScope N_wrong_band (arF 4) (defScope st_wrong_band) := ⟨by decide +kernel, by decide +kernel, by decide +kernel, by decide +kernel, by decide +kernel, by decide +kernel, by decide +kernel⟩
def N_last_of : List Str := ["bands", "at"]
theorem ck_last_of : chkSs { Γ0 with N := N_last_of } (defScope st_last_of) a_last_of_5 (defBody st_last_of) = true := by decide +kernel
theorem sc_last_of : FnScope N_last_of (arF 5) (defScope st_last_of) := ⟨by decide +kernel, by decide +kernel, by decide +kernel, by decide +kernel, by decide +kernel, by decide +kernel, by decide +kernel⟩
def N_left_in : List Str := ["band", "income"]
theorem ck_left_in : chkSs { Γ0 with N := N_left_in } (defScope st_left_in) a_left_in_6 (defBody st_left_in) = true := by decide +kernel
theorem sc_left_in : FnScope N_left_in (arF 6) (defScope st_left_in) := ⟨by decide +kernel, by decide +kernel, by decide +kernel, by decide +kernel, by decide +kernel, by decide +kernel, by decide +kernel⟩
def N_lowest_band : List Str := ["bands", "at", "band", "last"]
theorem ck_lowest_band : chkSs { Γ0 with N := N_lowest_band } (defScope st_lowest_band) a_lowest_band_7 (defBody st_lowest_band) = true := by decide +kernel
theorem sc_lowest_band : FnScope N_lowest_band (arF 7) (defScope st_lowest_band) := ⟨by decide +kernel, by decide +kernel, by decide +kernel, by decide +kernel, by decide +kernel, by decide +kernel, by decide +kernel⟩
def N_are_bands : List Str := ["bands"]
theorem ck_are_bands : chkSs { Γ0 with N := N_are_bands } (defScope st_are_bands) a_are_bands_8 (defBody st_are_bands) = true := by decide +kernel
theorem sc_are_bands : FnScope N_are_bands (arF 8) (defScope st_are_bands) := ⟨by decide +kernel, by decide +kernel, by decide +kernel, by decide +kernel, by decide +kernel, by decide +kernel, by decide +kernel⟩
def N_read_band : List Str := ["line", "words", "word", "numbers"]
theorem ck_read_band : chkSs { Γ0 with N := N_read_band } (defScope st_read_band) a_read_band_9 (defBody st_read_band) = true := by decide +kernel
theorem sc_read_band : FnScope N_read_band (arF 9) (defScope st_read_band) := ⟨by decide +kernel, by decide +kernel, by decide +kernel, by decide +kernel, by decide +kernel, by decide +kernel, by decide +kernel⟩
def N_read_rule : List Str := ["text", "line", "bands"]
theorem ck_read_rule : chkSs { Γ0 with N := N_read_rule } (defScope st_read_rule) a_read_rule_10 (defBody st_read_rule) = true := by decide +kernel
theorem sc_read_rule : FnScope N_read_rule (arF 10) (defScope st_read_rule) := ⟨by decide +kernel, by decide +kernel, by decide +kernel, by decide +kernel, by decide +kernel, by decide +kernel, by decide +kernel⟩
def N_band_at : List Str := ["bands", "income", "at", "band"]
theorem ck_band_at : chkSs { Γ0 with N := N_band_at } (defScope st_band_at) a_band_at_11 (defBody st_band_at) = true := by decide +kernel
theorem sc_band_at : FnScope N_band_at (arF 11) (defScope st_band_at) := ⟨by decide +kernel, by decide +kernel, by decide +kernel, by decide +kernel, by decide +kernel, by decide +kernel, by decide +kernel⟩
def N_Rule_init : List Str := ["self", "bands", "wrong"]
theorem ck_Rule_init : chkSs { Γ0 with N := N_Rule_init } (defScope st_Rule_init) a_Rule_init_64 (defBody st_Rule_init) = true := by decide +kernel
theorem sc_Rule_init : FnScope N_Rule_init (arF 64) (defScope st_Rule_init) := ⟨by decide +kernel, by decide +kernel, by decide +kernel, by decide +kernel, by decide +kernel, by decide +kernel, by decide +kernel⟩
def N_Rule_at : List Str := ["self", "income"]
theorem ck_Rule_at : chkSs { Γ0 with N := N_Rule_at } (defScope st_Rule_at) a_Rule_at_66 (defBody st_Rule_at) = true := by decide +kernel
theorem sc_Rule_at : FnScope N_Rule_at (arF 66) (defScope st_Rule_at) := ⟨by decide +kernel, by decide +kernel, by decide +kernel, by decide +kernel, by decide +kernel, by decide +kernel, by decide +kernel⟩
def N_is_kind : List Str := ["value", "before", "most"]
theorem ck_is_kind : chkSs { Γ0 with N := N_is_kind } (defScope st_is_kind) a_is_kind_13 (defBody st_is_kind) = true := by decide +kernel
theorem sc_is_kind : FnScope N_is_kind (arF 13) (defScope st_is_kind) := ⟨by decide +kernel, by decide +kernel, by decide +kernel, by decide +kernel, by decide +kernel, by decide +kernel, by decide +kernel⟩
def N_wrong_kind : List Str := ["kinds", "most", "before", "at", "kind"]
theorem ck_wrong_kind : chkSs { Γ0 with N := N_wrong_kind } (defScope st_wrong_kind) a_wrong_kind_14 (defBody st_wrong_kind) = true := by decide +kernel
theorem sc_wrong_kind : FnScope N_wrong_kind (arF 14) (defScope st_wrong_kind) := ⟨by decide +kernel, by decide +kernel, by decide +kernel, by decide +kernel, by decide +kernel, by decide +kernel, by decide +kernel⟩
def N_are_kinds : List Str := ["kinds", "most"]
theorem ck_are_kinds : chkSs { Γ0 with N := N_are_kinds } (defScope st_are_kinds) a_are_kinds_15 (defBody st_are_kinds) = true := by decide +kernel
theorem sc_are_kinds : FnScope N_are_kinds (arF 15) (defScope st_are_kinds) := ⟨by decide +kernel, by decide +kernel, by decide +kernel, by decide +kernel, by decide +kernel, by decide +kernel, by decide +kernel⟩
def N_read_kind : List Str := ["line", "words"]
theorem ck_read_kind : chkSs { Γ0 with N := N_read_kind } (defScope st_read_kind) a_read_kind_16 (defBody st_read_kind) = true := by decide +kernel
theorem sc_read_kind : FnScope N_read_kind (arF 16) (defScope st_read_kind) := ⟨by decide +kernel, by decide +kernel, by decide +kernel, by decide +kernel, by decide +kernel, by decide +kernel, by decide +kernel⟩
def N_read_purse : List Str := ["text", "line", "kinds"]
theorem ck_read_purse : chkSs { Γ0 with N := N_read_purse } (defScope st_read_purse) a_read_purse_17 (defBody st_read_purse) = true := by decide +kernel
theorem sc_read_purse : FnScope N_read_purse (arF 17) (defScope st_read_purse) := ⟨by decide +kernel, by decide +kernel, by decide +kernel, by decide +kernel, by decide +kernel, by decide +kernel, by decide +kernel⟩
def N_people_of : List Str := ["kinds", "amount", "count"]
theorem ck_people_of : chkSs { Γ0 with N := N_people_of } (defScope st_people_of) a_people_of_18 (defBody st_people_of) = true := by decide +kernel
theorem sc_people_of : FnScope N_people_of (arF 18) (defScope st_people_of) := ⟨by decide +kernel, by decide +kernel, by decide +kernel, by decide +kernel, by decide +kernel, by decide +kernel, by decide +kernel⟩
def N_total_of : List Str := ["kinds", "amount", "count"]
theorem ck_total_of : chkSs { Γ0 with N := N_total_of } (defScope st_total_of) a_total_of_19 (defBody st_total_of) = true := by decide +kernel
theorem sc_total_of : FnScope N_total_of (arF 19) (defScope st_total_of) := ⟨by decide +kernel, by decide +kernel, by decide +kernel, by decide +kernel, by decide +kernel, by decide +kernel, by decide +kernel⟩
def N_kinds_behind : List Str := ["rule", "kinds", "found", "amount", "count", "left"]
theorem ck_kinds_behind : chkSs { Γ0 with N := N_kinds_behind } (defScope st_kinds_behind) a_kinds_behind_20 (defBody st_kinds_behind) = true := by decide +kernel
theorem sc_kinds_behind : FnScope N_kinds_behind (arF 20) (defScope st_kinds_behind) := ⟨by decide +kernel, by decide +kernel, by decide +kernel, by decide +kernel, by decide +kernel, by decide +kernel, by decide +kernel⟩
def N_share_of : List Str := ["kinds", "part", "whole", "total", "people", "found", "before", "amount", "count"]
theorem ck_share_of : chkSs { Γ0 with N := N_share_of } (defScope st_share_of) a_share_of_21 (defBody st_share_of) = true := by decide +kernel
theorem sc_share_of : FnScope N_share_of (arF 21) (defScope st_share_of) := ⟨by decide +kernel, by decide +kernel, by decide +kernel, by decide +kernel, by decide +kernel, by decide +kernel, by decide +kernel⟩
def N_bends_of : List Str := ["kinds", "people", "before", "found", "amount", "count"]
theorem ck_bends_of : chkSs { Γ0 with N := N_bends_of } (defScope st_bends_of) a_bends_of_22 (defBody st_bends_of) = true := by decide +kernel
theorem sc_bends_of : FnScope N_bends_of (arF 22) (defScope st_bends_of) := ⟨by decide +kernel, by decide +kernel, by decide +kernel, by decide +kernel, by decide +kernel, by decide +kernel, by decide +kernel⟩
def N_first_crossing : List Str := ["first", "second", "part", "whole", "one", "other"]
theorem ck_first_crossing : chkSs { Γ0 with N := N_first_crossing } (defScope st_first_crossing) a_first_crossing_23 (defBody st_first_crossing) = true := by decide +kernel
theorem sc_first_crossing : FnScope N_first_crossing (arF 23) (defScope st_first_crossing) := ⟨by decide +kernel, by decide +kernel, by decide +kernel, by decide +kernel, by decide +kernel, by decide +kernel, by decide +kernel⟩
def N_as_even : List Str := ["first", "second"]
theorem ck_as_even : chkSs { Γ0 with N := N_as_even } (defScope st_as_even) a_as_even_24 (defBody st_as_even) = true := by decide +kernel
theorem sc_as_even : FnScope N_as_even (arF 24) (defScope st_as_even) := ⟨by decide +kernel, by decide +kernel, by decide +kernel, by decide +kernel, by decide +kernel, by decide +kernel, by decide +kernel⟩
def N_rules_shown : List Str := ["claim", "certificate", "one", "other", "first", "second", "kinds"]
theorem ck_rules_shown : chkSs { Γ0 with N := N_rules_shown } (defScope st_rules_shown) a_rules_shown_39 (defBody st_rules_shown) = true := by decide +kernel
theorem sc_rules_shown : FnScope N_rules_shown (arF 39) (defScope st_rules_shown) := ⟨by decide +kernel, by decide +kernel, by decide +kernel, by decide +kernel, by decide +kernel, by decide +kernel, by decide +kernel⟩
def N_accepts : List Str := ["claim", "certificate"]
theorem ck_accepts : chkSs { Γ0 with N := N_accepts } (defScope st_accepts) a_accepts_41 (defBody st_accepts) = true := by decide +kernel
theorem sc_accepts : FnScope N_accepts (arF 41) (defScope st_accepts) := ⟨by decide +kernel, by decide +kernel, by decide +kernel, by decide +kernel, by decide +kernel, by decide +kernel, by decide +kernel⟩
def N_law_well : List Str := ["script", "at", "state", "each", "own"]
theorem ck_law_well : chkSs { Γ0 with N := N_law_well } (defScope st_law_well) a_law_well_42 (defBody st_law_well) = true := by decide +kernel
theorem sc_law_well : FnScope N_law_well (arF 42) (defScope st_law_well) := ⟨by decide +kernel, by decide +kernel, by decide +kernel, by decide +kernel, by decide +kernel, by decide +kernel, by decide +kernel⟩
def N_law_draw : List Str := ["well", "many", "digit"]
theorem ck_law_draw : chkSs { Γ0 with N := N_law_draw } (defScope st_law_draw) a_law_draw_43 (defBody st_law_draw) = true := by decide +kernel
theorem sc_law_draw : FnScope N_law_draw (arF 43) (defScope st_law_draw) := ⟨by decide +kernel, by decide +kernel, by decide +kernel, by decide +kernel, by decide +kernel, by decide +kernel, by decide +kernel⟩
def N_law_some : List Str := ["well", "things"]
theorem ck_law_some : chkSs { Γ0 with N := N_law_some } (defScope st_law_some) a_law_some_44 (defBody st_law_some) = true := by decide +kernel
theorem sc_law_some : FnScope N_law_some (arF 44) (defScope st_law_some) := ⟨by decide +kernel, by decide +kernel, by decide +kernel, by decide +kernel, by decide +kernel, by decide +kernel, by decide +kernel⟩
def N_law_far : List Str := ["well", "top", "way", "found", "turn"]
theorem ck_law_far : chkSs { Γ0 with N := N_law_far } (defScope st_law_far) a_law_far_45 (defBody st_law_far) = true := by decide +kernel
theorem sc_law_far : FnScope N_law_far (arF 45) (defScope st_law_far) := ⟨by decide +kernel, by decide +kernel, by decide +kernel, by decide +kernel, by decide +kernel, by decide +kernel, by decide +kernel⟩
def N_law_left : List Str := ["bands", "income", "band", "here"]
theorem ck_law_left : chkSs { Γ0 with N := N_law_left } (defScope st_law_left) a_law_left_72 (defBody st_law_left) = true := by decide +kernel
theorem sc_law_left : FnScope N_law_left (arF 72) (defScope st_law_left) := ⟨by decide +kernel, by decide +kernel, by decide +kernel, by decide +kernel, by decide +kernel, by decide +kernel, by decide +kernel⟩
def N_law_starts : List Str := ["well", "most", "top", "found", "turn", "fresh"]
theorem ck_law_starts : chkSs { Γ0 with N := N_law_starts } (defScope st_law_starts) a_law_starts_73 (defBody st_law_starts) = true := by decide +kernel
theorem sc_law_starts : FnScope N_law_starts (arF 73) (defScope st_law_starts) := ⟨by decide +kernel, by decide +kernel, by decide +kernel, by decide +kernel, by decide +kernel, by decide +kernel, by decide +kernel⟩
def N_law_any : List Str := ["well", "most", "sizes", "begins", "found", "at", "money", "pace"]
theorem ck_law_any : chkSs { Γ0 with N := N_law_any } (defScope st_law_any) a_law_any_74 (defBody st_law_any) = true := by decide +kernel
theorem sc_law_any : FnScope N_law_any (arF 74) (defScope st_law_any) := ⟨by decide +kernel, by decide +kernel, by decide +kernel, by decide +kernel, by decide +kernel, by decide +kernel, by decide +kernel⟩
def N_law_even : List Str := ["well", "most", "sizes", "begins", "found", "at", "begin", "top", "money", "last", "room"]
theorem ck_law_even : chkSs { Γ0 with N := N_law_even } (defScope st_law_even) a_law_even_75 (defBody st_law_even) = true := by decide +kernel
theorem sc_law_even : FnScope N_law_even (arF 75) (defScope st_law_even) := ⟨by decide +kernel, by decide +kernel, by decide +kernel, by decide +kernel, by decide +kernel, by decide +kernel, by decide +kernel⟩
def N_law_near : List Str := ["well", "most", "sizes", "way", "found", "at", "begin", "money", "pace"]
theorem ck_law_near : chkSs { Γ0 with N := N_law_near } (defScope st_law_near) a_law_near_76 (defBody st_law_near) = true := by decide +kernel
theorem sc_law_near : FnScope N_law_near (arF 76) (defScope st_law_near) := ⟨by decide +kernel, by decide +kernel, by decide +kernel, by decide +kernel, by decide +kernel, by decide +kernel, by decide +kernel⟩
def N_law_sizes : List Str := ["well"]
theorem ck_law_sizes : chkSs { Γ0 with N := N_law_sizes } (defScope st_law_sizes) a_law_sizes_77 (defBody st_law_sizes) = true := by decide +kernel
theorem sc_law_sizes : FnScope N_law_sizes (arF 77) (defScope st_law_sizes) := ⟨by decide +kernel, by decide +kernel, by decide +kernel, by decide +kernel, by decide +kernel, by decide +kernel, by decide +kernel⟩
def N_law_points : List Str := ["bands", "mates", "band", "begins", "begin"]
theorem ck_law_points : chkSs { Γ0 with N := N_law_points } (defScope st_law_points) a_law_points_78 (defBody st_law_points) = true := by decide +kernel
theorem sc_law_points : FnScope N_law_points (arF 78) (defScope st_law_points) := ⟨by decide +kernel, by decide +kernel, by decide +kernel, by decide +kernel, by decide +kernel, by decide +kernel, by decide +kernel⟩
def N_law_spell : List Str := ["bands", "band", "rows"]
theorem ck_law_spell : chkSs { Γ0 with N := N_law_spell } (defScope st_law_spell) a_law_spell_81 (defBody st_law_spell) = true := by decide +kernel
theorem sc_law_spell : FnScope N_law_spell (arF 81) (defScope st_law_spell) := ⟨by decide +kernel, by decide +kernel, by decide +kernel, by decide +kernel, by decide +kernel, by decide +kernel, by decide +kernel⟩
def N_law_judged : List Str := ["told", "paper", "due", "got"]
theorem ck_law_judged : chkSs { Γ0 with N := N_law_judged } (defScope st_law_judged) a_law_judged_52 (defBody st_law_judged) = true := by decide +kernel
theorem sc_law_judged : FnScope N_law_judged (arF 52) (defScope st_law_judged) := ⟨by decide +kernel, by decide +kernel, by decide +kernel, by decide +kernel, by decide +kernel, by decide +kernel, by decide +kernel⟩
def N_law_same : List Str := ["told", "due"]
theorem ck_law_same : chkSs { Γ0 with N := N_law_same } (defScope st_law_same) a_law_same_53 (defBody st_law_same) = true := by decide +kernel
theorem sc_law_same : FnScope N_law_same (arF 53) (defScope st_law_same) := ⟨by decide +kernel, by decide +kernel, by decide +kernel, by decide +kernel, by decide +kernel, by decide +kernel, by decide +kernel⟩
def N_law_kinds : List Str := ["well", "most", "top", "many", "found", "turn", "amount"]
theorem ck_law_kinds : chkSs { Γ0 with N := N_law_kinds } (defScope st_law_kinds) a_law_kinds_46 (defBody st_law_kinds) = true := by decide +kernel
theorem sc_law_kinds : FnScope N_law_kinds (arF 46) (defScope st_law_kinds) := ⟨by decide +kernel, by decide +kernel, by decide +kernel, by decide +kernel, by decide +kernel, by decide +kernel, by decide +kernel⟩
def N_law_lines : List Str := ["kinds", "amount", "many"]
theorem ck_law_lines : chkSs { Γ0 with N := N_law_lines } (defScope st_law_lines) a_law_lines_47 (defBody st_law_lines) = true := by decide +kernel
theorem sc_law_lines : FnScope N_law_lines (arF 47) (defScope st_law_lines) := ⟨by decide +kernel, by decide +kernel, by decide +kernel, by decide +kernel, by decide +kernel, by decide +kernel, by decide +kernel⟩
def N_law_behind : List Str := ["bands", "kinds", "found", "amount", "many", "rest"]
theorem ck_law_behind : chkSs { Γ0 with N := N_law_behind } (defScope st_law_behind) a_law_behind_85 (defBody st_law_behind) = true := by decide +kernel
theorem sc_law_behind : FnScope N_law_behind (arF 85) (defScope st_law_behind) := ⟨by decide +kernel, by decide +kernel, by decide +kernel, by decide +kernel, by decide +kernel, by decide +kernel, by decide +kernel⟩
def N_law_lower : List Str := ["kinds", "part", "whole", "amount", "many", "people", "total", "left", "found", "here"]
theorem ck_law_lower : chkSs { Γ0 with N := N_law_lower } (defScope st_law_lower) a_law_lower_48 (defBody st_law_lower) = true := by decide +kernel
theorem sc_law_lower : FnScope N_law_lower (arF 48) (defScope st_law_lower) := ⟨by decide +kernel, by decide +kernel, by decide +kernel, by decide +kernel, by decide +kernel, by decide +kernel, by decide +kernel⟩
def N_law_is_less : List Str := ["kinds", "mates", "part", "whole", "near", "far"]
theorem ck_law_is_less : chkSs { Γ0 with N := N_law_is_less } (defScope st_law_is_less) a_law_is_less_49 (defBody st_law_is_less) = true := by decide +kernel
theorem sc_law_is_less : FnScope N_law_is_less (arF 49) (defScope st_law_is_less) := ⟨by decide +kernel, by decide +kernel, by decide +kernel, by decide +kernel, by decide +kernel, by decide +kernel, by decide +kernel⟩
def N_law_ends : List Str := ["kinds", "pair", "people", "found", "here", "amount", "many"]
theorem ck_law_ends : chkSs { Γ0 with N := N_law_ends } (defScope st_law_ends) a_law_ends_50 (defBody st_law_ends) = true := by decide +kernel
theorem sc_law_ends : FnScope N_law_ends (arF 50) (defScope st_law_ends) := ⟨by decide +kernel, by decide +kernel, by decide +kernel, by decide +kernel, by decide +kernel, by decide +kernel, by decide +kernel⟩
def N_law_as_even : List Str := ["kinds", "mates", "spots", "spot"]
theorem ck_law_as_even : chkSs { Γ0 with N := N_law_as_even } (defScope st_law_as_even) a_law_as_even_57 (defBody st_law_as_even) = true := by decide +kernel
theorem sc_law_as_even : FnScope N_law_as_even (arF 57) (defScope st_law_as_even) := ⟨by decide +kernel, by decide +kernel, by decide +kernel, by decide +kernel, by decide +kernel, by decide +kernel, by decide +kernel⟩
def N_law_tries : List Str := ["well", "bands", "mates", "at", "many", "more", "some"]
theorem ck_law_tries : chkSs { Γ0 with N := N_law_tries } (defScope st_law_tries) a_law_tries_86 (defBody st_law_tries) = true := by decide +kernel
theorem sc_law_tries : FnScope N_law_tries (arF 86) (defScope st_law_tries) := ⟨by decide +kernel, by decide +kernel, by decide +kernel, by decide +kernel, by decide +kernel, by decide +kernel, by decide +kernel⟩
def N_law_asked : List Str := ["well", "bands", "mates", "told", "turn", "kinds", "due", "far"]
theorem ck_law_asked : chkSs { Γ0 with N := N_law_asked } (defScope st_law_asked) a_law_asked_87 (defBody st_law_asked) = true := by decide +kernel
theorem sc_law_asked : FnScope N_law_asked (arF 87) (defScope st_law_asked) := ⟨by decide +kernel, by decide +kernel, by decide +kernel, by decide +kernel, by decide +kernel, by decide +kernel, by decide +kernel⟩
def N_law_right : List Str := ["well", "turn", "sizes", "bands", "mates"]
theorem ck_law_right : chkSs { Γ0 with N := N_law_right } (defScope st_law_right) a_law_right_88 (defBody st_law_right) = true := by decide +kernel
theorem sc_law_right : FnScope N_law_right (arF 88) (defScope st_law_right) := ⟨by decide +kernel, by decide +kernel, by decide +kernel, by decide +kernel, by decide +kernel, by decide +kernel, by decide +kernel⟩
def N_law : List Str := ["script", "at"]
theorem ck_law : chkSs { Γ0 with N := N_law } (defScope st_law) a_law_89 (defBody st_law) = true := by decide +kernel
theorem sc_law : FnScope N_law (arF 89) (defScope st_law) := ⟨by decide +kernel, by decide +kernel, by decide +kernel, by decide +kernel, by decide +kernel, by decide +kernel, by decide +kernel⟩
theorem subL : Sub [0, 1, 2, 3, 4, 5, 6, 7, 8, 9, 10, 11, 13, 14, 15, 16, 17, 18, 19, 20, 21, 22, 23, 24, 39, 41, 42, 43, 44, 45, 46, 47, 48, 49, 50, 52, 53, 57, 64, 66, 72, 73, 74, 75, 76, 77, 78, 81, 85, 86, 87, 88, 89] T := fun i hi => by
  simp only [List.contains_cons, List.contains_nil, Bool.or_false, Bool.or_eq_true, beq_iff_eq] at hi
  rcases hi with rfl | rfl | rfl | rfl | rfl | rfl | rfl | rfl | rfl | rfl | rfl | rfl | rfl | rfl | rfl | rfl | rfl | rfl | rfl | rfl | rfl | rfl | rfl | rfl | rfl | rfl | rfl | rfl | rfl | rfl | rfl | rfl | rfl | rfl | rfl | rfl | rfl | rfl | rfl | rfl | rfl | rfl | rfl | rfl | rfl | rfl | rfl | rfl | rfl | rfl | rfl | rfl | rfl <;> rfl
theorem law_true (ns : List Int) (hl : ns.length ≤ 63) (hb : ∀ z ∈ ns, Builtin.Int.intBits z ≤ 1048576) : ∃ m, callF T 16 89 [.d (.scr ns)] [] = .ok (.d (.bl true)) m := by
  obtain ⟨u, m, e, rfl⟩ := c_law80 subL 4 ns
  exact ⟨m, e⟩
abbrev CL (K : PySem.W.Frag) : Cls' := ⟨fun c => match c with | 0 => He.ga K "Rule" | _ => 0, fun c => match c with | 0 => "pieces" | _ => "", [], K⟩
section
variable {K : PySem.W.Frag} {h : Heap} {mg : Str → Option Value}
theorem g_Rule_init (c : SaysE fas dfs prs K) : ∃ fd, DefOk Γ0 K T (He.ma K (He.ga K "Rule") "__init__") fd 64 ∧ Binds K fd (Γ0.ar 64) [] := by
  obtain ⟨fd, F⟩ := c.d.def_ 12 (d := dd_Rule_init) rfl
  exact ⟨fd, defM (Γ := Γ0) 64 _ N_Rule_init F rfl sc_Rule_init rfl rfl ck_Rule_init (fun _ _ _ _ _ _ us hl => match us, hl with | [_, _], _ => rfl)⟩
theorem g_Rule_at (c : SaysE fas dfs prs K) : ∃ fd, DefOk Γ0 K T (He.ma K (He.ga K "Rule") "at") fd 66 ∧ Binds K fd (Γ0.ar 66) [] := by
  obtain ⟨fd, F⟩ := c.d.def_ 13 (d := dd_Rule_at) rfl
  exact ⟨fd, defM (Γ := Γ0) 66 _ N_Rule_at F rfl sc_Rule_at rfl rfl ck_Rule_at (fun _ _ _ _ _ _ us hl => match us, hl with | [_, _], _ => rfl)⟩
theorem g_is_integer (X : K.In h) (G : h.Ns mainGlobals mg) (c : SaysE fas dfs prs K) : FnHas Γ0 (CL K) T K mg 0 := by
  obtain ⟨fd, F⟩ := c.d.def_ 0 (d := dd_is_integer) rfl
  exact fnHas0 (Γ := Γ0) 0 _ N_is_integer F rfl (He.glo_ok X G (c.d.fact 0 (f := .glo "is_integer") rfl)) sc_is_integer rfl rfl ck_is_integer rfl (fun _ _ _ _ _ _ us hl => match us, hl with | [_], _ => rfl) (fun ks perm z => by simp [Γ0, kwF] at z)
theorem g_is_within (X : K.In h) (G : h.Ns mainGlobals mg) (c : SaysE fas dfs prs K) : FnHas Γ0 (CL K) T K mg 1 := by
  obtain ⟨fd, F⟩ := c.d.def_ 1 (d := dd_is_within) rfl
  exact fnHas0 (Γ := Γ0) 1 _ N_is_within F rfl (He.glo_ok X G (c.d.fact 1 (f := .glo "is_within") rfl)) sc_is_within rfl rfl ck_is_within rfl (fun _ _ _ _ _ _ us hl => match us, hl with | [_, _, _], _ => rfl) (fun ks perm z => by simp [Γ0, kwF] at z)
theorem g_read_number (X : K.In h) (G : h.Ns mainGlobals mg) (c : SaysE fas dfs prs K) : FnHas Γ0 (CL K) T K mg 2 := by
  obtain ⟨fd, F⟩ := c.d.def_ 2 (d := dd_read_number) rfl
  exact fnHas0 (Γ := Γ0) 2 _ N_read_number F rfl (He.glo_ok X G (c.d.fact 2 (f := .glo "read_number") rfl)) sc_read_number rfl rfl ck_read_number rfl (fun _ _ _ _ _ _ us hl => match us, hl with | [_], _ => rfl) (fun ks perm z => by simp [Γ0, kwF] at z)
theorem g_is_band (X : K.In h) (G : h.Ns mainGlobals mg) (c : SaysE fas dfs prs K) : FnHas Γ0 (CL K) T K mg 3 := by
  obtain ⟨fd, F⟩ := c.d.def_ 3 (d := dd_is_band) rfl
  exact fnHas0 (Γ := Γ0) 3 _ N_is_band F rfl (He.glo_ok X G (c.d.fact 3 (f := .glo "is_band") rfl)) sc_is_band rfl rfl ck_is_band rfl (fun _ _ _ _ _ _ us hl => match us, hl with | [_, _], _ => rfl) (fun ks perm z => by simp [Γ0, kwF] at z)
theorem g_wrong_band (X : K.In h) (G : h.Ns mainGlobals mg) (c : SaysE fas dfs prs K) : FnHas Γ0 (CL K) T K mg 4 := by
  obtain ⟨fd, F⟩ := c.d.def_ 4 (d := dd_wrong_band) rfl
  exact fnHas0 (Γ := Γ0) 4 _ N_wrong_band F rfl (He.glo_ok X G (c.d.fact 4 (f := .glo "wrong_band") rfl)) sc_wrong_band rfl rfl ck_wrong_band rfl (fun _ _ _ _ _ _ us hl => match us, hl with | [_], _ => rfl) (fun ks perm z => by simp [Γ0, kwF] at z)
theorem g_last_of (X : K.In h) (G : h.Ns mainGlobals mg) (c : SaysE fas dfs prs K) : FnHas Γ0 (CL K) T K mg 5 := by
  obtain ⟨fd, F⟩ := c.d.def_ 5 (d := dd_last_of) rfl
  exact fnHas0 (Γ := Γ0) 5 _ N_last_of F rfl (He.glo_ok X G (c.d.fact 5 (f := .glo "last_of") rfl)) sc_last_of rfl rfl ck_last_of rfl (fun _ _ _ _ _ _ us hl => match us, hl with | [_, _], _ => rfl) (fun ks perm z => by simp [Γ0, kwF] at z)
theorem g_left_in (X : K.In h) (G : h.Ns mainGlobals mg) (c : SaysE fas dfs prs K) : FnHas Γ0 (CL K) T K mg 6 := by
  obtain ⟨fd, F⟩ := c.d.def_ 6 (d := dd_left_in) rfl
  exact fnHas0 (Γ := Γ0) 6 _ N_left_in F rfl (He.glo_ok X G (c.d.fact 6 (f := .glo "left_in") rfl)) sc_left_in rfl rfl ck_left_in rfl (fun _ _ _ _ _ _ us hl => match us, hl with | [_, _], _ => rfl) (fun ks perm z => by simp [Γ0, kwF] at z)
theorem g_lowest_band (X : K.In h) (G : h.Ns mainGlobals mg) (c : SaysE fas dfs prs K) : FnHas Γ0 (CL K) T K mg 7 := by
  obtain ⟨fd, F⟩ := c.d.def_ 7 (d := dd_lowest_band) rfl
  exact fnHas0 (Γ := Γ0) 7 _ N_lowest_band F rfl (He.glo_ok X G (c.d.fact 7 (f := .glo "lowest_band") rfl)) sc_lowest_band rfl rfl ck_lowest_band rfl (fun _ _ _ _ _ _ us hl => match us, hl with | [_], _ => rfl) (fun ks perm z => by simp [Γ0, kwF] at z)
theorem g_are_bands (X : K.In h) (G : h.Ns mainGlobals mg) (c : SaysE fas dfs prs K) : FnHas Γ0 (CL K) T K mg 8 := by
  obtain ⟨fd, F⟩ := c.d.def_ 8 (d := dd_are_bands) rfl
  exact fnHas0 (Γ := Γ0) 8 _ N_are_bands F rfl (He.glo_ok X G (c.d.fact 8 (f := .glo "are_bands") rfl)) sc_are_bands rfl rfl ck_are_bands rfl (fun _ _ _ _ _ _ us hl => match us, hl with | [_], _ => rfl) (fun ks perm z => by simp [Γ0, kwF] at z)
theorem g_read_band (X : K.In h) (G : h.Ns mainGlobals mg) (c : SaysE fas dfs prs K) : FnHas Γ0 (CL K) T K mg 9 := by
  obtain ⟨fd, F⟩ := c.d.def_ 9 (d := dd_read_band) rfl
  exact fnHas0 (Γ := Γ0) 9 _ N_read_band F rfl (He.glo_ok X G (c.d.fact 9 (f := .glo "read_band") rfl)) sc_read_band rfl rfl ck_read_band rfl (fun _ _ _ _ _ _ us hl => match us, hl with | [_], _ => rfl) (fun ks perm z => by simp [Γ0, kwF] at z)
theorem g_read_rule (X : K.In h) (G : h.Ns mainGlobals mg) (c : SaysE fas dfs prs K) : FnHas Γ0 (CL K) T K mg 10 := by
  obtain ⟨fd, F⟩ := c.d.def_ 10 (d := dd_read_rule) rfl
  exact fnHas0 (Γ := Γ0) 10 _ N_read_rule F rfl (He.glo_ok X G (c.d.fact 10 (f := .glo "read_rule") rfl)) sc_read_rule rfl rfl ck_read_rule rfl (fun _ _ _ _ _ _ us hl => match us, hl with | [_], _ => rfl) (fun ks perm z => by simp [Γ0, kwF] at z)
theorem g_band_at (X : K.In h) (G : h.Ns mainGlobals mg) (c : SaysE fas dfs prs K) : FnHas Γ0 (CL K) T K mg 11 := by
  obtain ⟨fd, F⟩ := c.d.def_ 11 (d := dd_band_at) rfl
  exact fnHas0 (Γ := Γ0) 11 _ N_band_at F rfl (He.glo_ok X G (c.d.fact 11 (f := .glo "band_at") rfl)) sc_band_at rfl rfl ck_band_at rfl (fun _ _ _ _ _ _ us hl => match us, hl with | [_, _], _ => rfl) (fun ks perm z => by simp [Γ0, kwF] at z)
theorem g_is_kind (X : K.In h) (G : h.Ns mainGlobals mg) (c : SaysE fas dfs prs K) : FnHas Γ0 (CL K) T K mg 13 := by
  obtain ⟨fd, F⟩ := c.d.def_ 14 (d := dd_is_kind) rfl
  exact fnHas0 (Γ := Γ0) 13 _ N_is_kind F rfl (He.glo_ok X G (c.d.fact 12 (f := .glo "is_kind") rfl)) sc_is_kind rfl rfl ck_is_kind rfl (fun _ _ _ _ _ _ us hl => match us, hl with | [_, _, _], _ => rfl) (fun ks perm z => by simp [Γ0, kwF] at z)
theorem g_wrong_kind (X : K.In h) (G : h.Ns mainGlobals mg) (c : SaysE fas dfs prs K) : FnHas Γ0 (CL K) T K mg 14 := by
  obtain ⟨fd, F⟩ := c.d.def_ 15 (d := dd_wrong_kind) rfl
  exact fnHas1 (Γ := Γ0) 14 _ N_wrong_kind (.int 1000000000000000000000000000000000000) (.int 1000000000000000000000000000000000000) 1 F rfl (He.glo_ok X G (c.d.fact 13 (f := .glo "wrong_kind") rfl)) sc_wrong_kind rfl rfl ck_wrong_kind rfl rfl (fun l ι H => rfl) (fun _ _ _ _ _ _ _ us its hu hi => match us, hu, its, hi with | [_], _, [_], _ => ⟨_, rfl, rfl⟩) (fun _ _ _ _ _ _ _ us its hu hi => match us, hu, its, hi with | [_, _], _, [_], _ => ⟨_, rfl, rfl⟩) (fun ks perm z => by simp [Γ0, kwF] at z)
theorem g_are_kinds (X : K.In h) (G : h.Ns mainGlobals mg) (c : SaysE fas dfs prs K) : FnHas Γ0 (CL K) T K mg 15 := by
  obtain ⟨fd, F⟩ := c.d.def_ 16 (d := dd_are_kinds) rfl
  exact fnHas0 (Γ := Γ0) 15 _ N_are_kinds F rfl (He.glo_ok X G (c.d.fact 14 (f := .glo "are_kinds") rfl)) sc_are_kinds rfl rfl ck_are_kinds rfl (fun _ _ _ _ _ _ us hl => match us, hl with | [_, _], _ => rfl) (fun ks perm z => by simp [Γ0, kwF] at z)
theorem g_read_kind (X : K.In h) (G : h.Ns mainGlobals mg) (c : SaysE fas dfs prs K) : FnHas Γ0 (CL K) T K mg 16 := by
  obtain ⟨fd, F⟩ := c.d.def_ 17 (d := dd_read_kind) rfl
  exact fnHas0 (Γ := Γ0) 16 _ N_read_kind F rfl (He.glo_ok X G (c.d.fact 15 (f := .glo "read_kind") rfl)) sc_read_kind rfl rfl ck_read_kind rfl (fun _ _ _ _ _ _ us hl => match us, hl with | [_], _ => rfl) (fun ks perm z => by simp [Γ0, kwF] at z)
theorem g_read_purse (X : K.In h) (G : h.Ns mainGlobals mg) (c : SaysE fas dfs prs K) : FnHas Γ0 (CL K) T K mg 17 := by
  obtain ⟨fd, F⟩ := c.d.def_ 18 (d := dd_read_purse) rfl
  exact fnHas0 (Γ := Γ0) 17 _ N_read_purse F rfl (He.glo_ok X G (c.d.fact 16 (f := .glo "read_purse") rfl)) sc_read_purse rfl rfl ck_read_purse rfl (fun _ _ _ _ _ _ us hl => match us, hl with | [_], _ => rfl) (fun ks perm z => by simp [Γ0, kwF] at z)
theorem g_people_of (X : K.In h) (G : h.Ns mainGlobals mg) (c : SaysE fas dfs prs K) : FnHas Γ0 (CL K) T K mg 18 := by
  obtain ⟨fd, F⟩ := c.d.def_ 19 (d := dd_people_of) rfl
  exact fnHas0 (Γ := Γ0) 18 _ N_people_of F rfl (He.glo_ok X G (c.d.fact 17 (f := .glo "people_of") rfl)) sc_people_of rfl rfl ck_people_of rfl (fun _ _ _ _ _ _ us hl => match us, hl with | [_], _ => rfl) (fun ks perm z => by simp [Γ0, kwF] at z)
theorem g_total_of (X : K.In h) (G : h.Ns mainGlobals mg) (c : SaysE fas dfs prs K) : FnHas Γ0 (CL K) T K mg 19 := by
  obtain ⟨fd, F⟩ := c.d.def_ 20 (d := dd_total_of) rfl
  exact fnHas0 (Γ := Γ0) 19 _ N_total_of F rfl (He.glo_ok X G (c.d.fact 18 (f := .glo "total_of") rfl)) sc_total_of rfl rfl ck_total_of rfl (fun _ _ _ _ _ _ us hl => match us, hl with | [_], _ => rfl) (fun ks perm z => by simp [Γ0, kwF] at z)
theorem g_kinds_behind (X : K.In h) (G : h.Ns mainGlobals mg) (c : SaysE fas dfs prs K) : FnHas Γ0 (CL K) T K mg 20 := by
  obtain ⟨fd, F⟩ := c.d.def_ 21 (d := dd_kinds_behind) rfl
  exact fnHas0 (Γ := Γ0) 20 _ N_kinds_behind F rfl (He.glo_ok X G (c.d.fact 19 (f := .glo "kinds_behind") rfl)) sc_kinds_behind rfl rfl ck_kinds_behind rfl (fun _ _ _ _ _ _ us hl => match us, hl with | [_, _], _ => rfl) (fun ks perm z => by simp [Γ0, kwF] at z)
theorem g_share_of (X : K.In h) (G : h.Ns mainGlobals mg) (c : SaysE fas dfs prs K) : FnHas Γ0 (CL K) T K mg 21 := by
  obtain ⟨fd, F⟩ := c.d.def_ 22 (d := dd_share_of) rfl
  exact fnHas0 (Γ := Γ0) 21 _ N_share_of F rfl (He.glo_ok X G (c.d.fact 20 (f := .glo "share_of") rfl)) sc_share_of rfl rfl ck_share_of rfl (fun _ _ _ _ _ _ us hl => match us, hl with | [_, _, _], _ => rfl) (fun ks perm z => by simp [Γ0, kwF] at z)
theorem g_bends_of (X : K.In h) (G : h.Ns mainGlobals mg) (c : SaysE fas dfs prs K) : FnHas Γ0 (CL K) T K mg 22 := by
  obtain ⟨fd, F⟩ := c.d.def_ 23 (d := dd_bends_of) rfl
  exact fnHas0 (Γ := Γ0) 22 _ N_bends_of F rfl (He.glo_ok X G (c.d.fact 21 (f := .glo "bends_of") rfl)) sc_bends_of rfl rfl ck_bends_of rfl (fun _ _ _ _ _ _ us hl => match us, hl with | [_], _ => rfl) (fun ks perm z => by simp [Γ0, kwF] at z)
theorem g_first_crossing (X : K.In h) (G : h.Ns mainGlobals mg) (c : SaysE fas dfs prs K) : FnHas Γ0 (CL K) T K mg 23 := by
  obtain ⟨fd, F⟩ := c.d.def_ 24 (d := dd_first_crossing) rfl
  exact fnHas0 (Γ := Γ0) 23 _ N_first_crossing F rfl (He.glo_ok X G (c.d.fact 22 (f := .glo "first_crossing") rfl)) sc_first_crossing rfl rfl ck_first_crossing rfl (fun _ _ _ _ _ _ us hl => match us, hl with | [_, _], _ => rfl) (fun ks perm z => by simp [Γ0, kwF] at z)
theorem g_as_even (X : K.In h) (G : h.Ns mainGlobals mg) (c : SaysE fas dfs prs K) : FnHas Γ0 (CL K) T K mg 24 := by
  obtain ⟨fd, F⟩ := c.d.def_ 25 (d := dd_as_even) rfl
  exact fnHas0 (Γ := Γ0) 24 _ N_as_even F rfl (He.glo_ok X G (c.d.fact 23 (f := .glo "as_even") rfl)) sc_as_even rfl rfl ck_as_even rfl (fun _ _ _ _ _ _ us hl => match us, hl with | [_, _], _ => rfl) (fun ks perm z => by simp [Γ0, kwF] at z)
theorem g_rules_shown (X : K.In h) (G : h.Ns mainGlobals mg) (c : SaysE fas dfs prs K) : FnHas Γ0 (CL K) T K mg 39 := by
  obtain ⟨fd, F⟩ := c.d.def_ 26 (d := dd_rules_shown) rfl
  exact fnHas0 (Γ := Γ0) 39 _ N_rules_shown F rfl (He.glo_ok X G (c.d.fact 24 (f := .glo "rules_shown") rfl)) sc_rules_shown rfl rfl ck_rules_shown rfl (fun _ _ _ _ _ _ us hl => match us, hl with | [_, _], _ => rfl) (fun ks perm z => by simp [Γ0, kwF] at z)
theorem g_accepts (X : K.In h) (G : h.Ns mainGlobals mg) (c : SaysE fas dfs prs K) : FnHas Γ0 (CL K) T K mg 41 := by
  obtain ⟨fd, F⟩ := c.d.def_ 27 (d := dd_accepts) rfl
  exact fnHas0 (Γ := Γ0) 41 _ N_accepts F rfl (He.glo_ok X G (c.d.fact 25 (f := .glo "accepts") rfl)) sc_accepts rfl rfl ck_accepts rfl (fun _ _ _ _ _ _ us hl => match us, hl with | [_, _], _ => rfl) (fun ks perm z => by
    simp [Γ0, kwF] at z
    obtain ⟨rfl, rfl⟩ := z
    intro _ _ _ _ _ _ us hl
    match us, hl with
    | [_, _], _ => rfl)
theorem g_law_well (X : K.In h) (G : h.Ns mainGlobals mg) (c : SaysE fas dfs prs K) : FnHas Γ0 (CL K) T K mg 42 := by
  obtain ⟨fd, F⟩ := c.d.def_ 28 (d := dd_law_well) rfl
  exact fnHas0 (Γ := Γ0) 42 _ N_law_well F rfl (He.glo_ok X G (c.d.fact 26 (f := .glo "_law_well") rfl)) sc_law_well rfl rfl ck_law_well rfl (fun _ _ _ _ _ _ us hl => match us, hl with | [_, _], _ => rfl) (fun ks perm z => by simp [Γ0, kwF] at z)
theorem g_law_draw (X : K.In h) (G : h.Ns mainGlobals mg) (c : SaysE fas dfs prs K) : FnHas Γ0 (CL K) T K mg 43 := by
  obtain ⟨fd, F⟩ := c.d.def_ 29 (d := dd_law_draw) rfl
  exact fnHas0 (Γ := Γ0) 43 _ N_law_draw F rfl (He.glo_ok X G (c.d.fact 27 (f := .glo "_law_draw") rfl)) sc_law_draw rfl rfl ck_law_draw rfl (fun _ _ _ _ _ _ us hl => match us, hl with | [_, _], _ => rfl) (fun ks perm z => by simp [Γ0, kwF] at z)
theorem g_law_some (X : K.In h) (G : h.Ns mainGlobals mg) (c : SaysE fas dfs prs K) : FnHas Γ0 (CL K) T K mg 44 := by
  obtain ⟨fd, F⟩ := c.d.def_ 30 (d := dd_law_some) rfl
  exact fnHas0 (Γ := Γ0) 44 _ N_law_some F rfl (He.glo_ok X G (c.d.fact 28 (f := .glo "_law_some") rfl)) sc_law_some rfl rfl ck_law_some rfl (fun _ _ _ _ _ _ us hl => match us, hl with | [_, _], _ => rfl) (fun ks perm z => by simp [Γ0, kwF] at z)
theorem g_law_far (X : K.In h) (G : h.Ns mainGlobals mg) (c : SaysE fas dfs prs K) : FnHas Γ0 (CL K) T K mg 45 := by
  obtain ⟨fd, F⟩ := c.d.def_ 31 (d := dd_law_far) rfl
  exact fnHas0 (Γ := Γ0) 45 _ N_law_far F rfl (He.glo_ok X G (c.d.fact 29 (f := .glo "_law_far") rfl)) sc_law_far rfl rfl ck_law_far rfl (fun _ _ _ _ _ _ us hl => match us, hl with | [_, _], _ => rfl) (fun ks perm z => by simp [Γ0, kwF] at z)
theorem g_law_left (X : K.In h) (G : h.Ns mainGlobals mg) (c : SaysE fas dfs prs K) : FnHas Γ0 (CL K) T K mg 72 := by
  obtain ⟨fd, F⟩ := c.d.def_ 32 (d := dd_law_left) rfl
  exact fnHas0 (Γ := Γ0) 72 _ N_law_left F rfl (He.glo_ok X G (c.d.fact 30 (f := .glo "_law_left") rfl)) sc_law_left rfl rfl ck_law_left rfl (fun _ _ _ _ _ _ us hl => match us, hl with | [_, _], _ => rfl) (fun ks perm z => by simp [Γ0, kwF] at z)
theorem g_law_starts (X : K.In h) (G : h.Ns mainGlobals mg) (c : SaysE fas dfs prs K) : FnHas Γ0 (CL K) T K mg 73 := by
  obtain ⟨fd, F⟩ := c.d.def_ 33 (d := dd_law_starts) rfl
  exact fnHas0 (Γ := Γ0) 73 _ N_law_starts F rfl (He.glo_ok X G (c.d.fact 31 (f := .glo "_law_starts") rfl)) sc_law_starts rfl rfl ck_law_starts rfl (fun _ _ _ _ _ _ us hl => match us, hl with | [_, _, _], _ => rfl) (fun ks perm z => by simp [Γ0, kwF] at z)
theorem g_law_any (X : K.In h) (G : h.Ns mainGlobals mg) (c : SaysE fas dfs prs K) : FnHas Γ0 (CL K) T K mg 74 := by
  obtain ⟨fd, F⟩ := c.d.def_ 34 (d := dd_law_any) rfl
  exact fnHas0 (Γ := Γ0) 74 _ N_law_any F rfl (He.glo_ok X G (c.d.fact 32 (f := .glo "_law_any") rfl)) sc_law_any rfl rfl ck_law_any rfl (fun _ _ _ _ _ _ us hl => match us, hl with | [_, _, _], _ => rfl) (fun ks perm z => by simp [Γ0, kwF] at z)
theorem g_law_even (X : K.In h) (G : h.Ns mainGlobals mg) (c : SaysE fas dfs prs K) : FnHas Γ0 (CL K) T K mg 75 := by
  obtain ⟨fd, F⟩ := c.d.def_ 35 (d := dd_law_even) rfl
  exact fnHas0 (Γ := Γ0) 75 _ N_law_even F rfl (He.glo_ok X G (c.d.fact 33 (f := .glo "_law_even") rfl)) sc_law_even rfl rfl ck_law_even rfl (fun _ _ _ _ _ _ us hl => match us, hl with | [_, _, _], _ => rfl) (fun ks perm z => by simp [Γ0, kwF] at z)
theorem g_law_near (X : K.In h) (G : h.Ns mainGlobals mg) (c : SaysE fas dfs prs K) : FnHas Γ0 (CL K) T K mg 76 := by
  obtain ⟨fd, F⟩ := c.d.def_ 36 (d := dd_law_near) rfl
  exact fnHas0 (Γ := Γ0) 76 _ N_law_near F rfl (He.glo_ok X G (c.d.fact 34 (f := .glo "_law_near") rfl)) sc_law_near rfl rfl ck_law_near rfl (fun _ _ _ _ _ _ us hl => match us, hl with | [_, _, _], _ => rfl) (fun ks perm z => by simp [Γ0, kwF] at z)
theorem g_law_sizes (X : K.In h) (G : h.Ns mainGlobals mg) (c : SaysE fas dfs prs K) : FnHas Γ0 (CL K) T K mg 77 := by
  obtain ⟨fd, F⟩ := c.d.def_ 37 (d := dd_law_sizes) rfl
  exact fnHas0 (Γ := Γ0) 77 _ N_law_sizes F rfl (He.glo_ok X G (c.d.fact 35 (f := .glo "_law_sizes") rfl)) sc_law_sizes rfl rfl ck_law_sizes rfl (fun _ _ _ _ _ _ us hl => match us, hl with | [_], _ => rfl) (fun ks perm z => by simp [Γ0, kwF] at z)
theorem g_law_points (X : K.In h) (G : h.Ns mainGlobals mg) (c : SaysE fas dfs prs K) : FnHas Γ0 (CL K) T K mg 78 := by
  obtain ⟨fd, F⟩ := c.d.def_ 38 (d := dd_law_points) rfl
  exact fnHas0 (Γ := Γ0) 78 _ N_law_points F rfl (He.glo_ok X G (c.d.fact 36 (f := .glo "_law_points") rfl)) sc_law_points rfl rfl ck_law_points rfl (fun _ _ _ _ _ _ us hl => match us, hl with | [_, _], _ => rfl) (fun ks perm z => by simp [Γ0, kwF] at z)
theorem g_law_spell (X : K.In h) (G : h.Ns mainGlobals mg) (c : SaysE fas dfs prs K) : FnHas Γ0 (CL K) T K mg 81 := by
  obtain ⟨fd, F⟩ := c.d.def_ 39 (d := dd_law_spell) rfl
  exact fnHas0 (Γ := Γ0) 81 _ N_law_spell F rfl (He.glo_ok X G (c.d.fact 37 (f := .glo "_law_spell") rfl)) sc_law_spell rfl rfl ck_law_spell rfl (fun _ _ _ _ _ _ us hl => match us, hl with | [_], _ => rfl) (fun ks perm z => by simp [Γ0, kwF] at z)
theorem g_law_judged (X : K.In h) (G : h.Ns mainGlobals mg) (c : SaysE fas dfs prs K) : FnHas Γ0 (CL K) T K mg 52 := by
  obtain ⟨fd, F⟩ := c.d.def_ 40 (d := dd_law_judged) rfl
  exact fnHas0 (Γ := Γ0) 52 _ N_law_judged F rfl (He.glo_ok X G (c.d.fact 38 (f := .glo "_law_judged") rfl)) sc_law_judged rfl rfl ck_law_judged rfl (fun _ _ _ _ _ _ us hl => match us, hl with | [_, _, _], _ => rfl) (fun ks perm z => by simp [Γ0, kwF] at z)
theorem g_law_same (X : K.In h) (G : h.Ns mainGlobals mg) (c : SaysE fas dfs prs K) : FnHas Γ0 (CL K) T K mg 53 := by
  obtain ⟨fd, F⟩ := c.d.def_ 41 (d := dd_law_same) rfl
  exact fnHas0 (Γ := Γ0) 53 _ N_law_same F rfl (He.glo_ok X G (c.d.fact 39 (f := .glo "_law_same") rfl)) sc_law_same rfl rfl ck_law_same rfl (fun _ _ _ _ _ _ us hl => match us, hl with | [_, _], _ => rfl) (fun ks perm z => by simp [Γ0, kwF] at z)
theorem g_law_kinds (X : K.In h) (G : h.Ns mainGlobals mg) (c : SaysE fas dfs prs K) : FnHas Γ0 (CL K) T K mg 46 := by
  obtain ⟨fd, F⟩ := c.d.def_ 42 (d := dd_law_kinds) rfl
  exact fnHas0 (Γ := Γ0) 46 _ N_law_kinds F rfl (He.glo_ok X G (c.d.fact 40 (f := .glo "_law_kinds") rfl)) sc_law_kinds rfl rfl ck_law_kinds rfl (fun _ _ _ _ _ _ us hl => match us, hl with | [_, _, _, _], _ => rfl) (fun ks perm z => by simp [Γ0, kwF] at z)
theorem g_law_lines (X : K.In h) (G : h.Ns mainGlobals mg) (c : SaysE fas dfs prs K) : FnHas Γ0 (CL K) T K mg 47 := by
  obtain ⟨fd, F⟩ := c.d.def_ 43 (d := dd_law_lines) rfl
  exact fnHas0 (Γ := Γ0) 47 _ N_law_lines F rfl (He.glo_ok X G (c.d.fact 41 (f := .glo "_law_lines") rfl)) sc_law_lines rfl rfl ck_law_lines rfl (fun _ _ _ _ _ _ us hl => match us, hl with | [_], _ => rfl) (fun ks perm z => by simp [Γ0, kwF] at z)
theorem g_law_behind (X : K.In h) (G : h.Ns mainGlobals mg) (c : SaysE fas dfs prs K) : FnHas Γ0 (CL K) T K mg 85 := by
  obtain ⟨fd, F⟩ := c.d.def_ 44 (d := dd_law_behind) rfl
  exact fnHas0 (Γ := Γ0) 85 _ N_law_behind F rfl (He.glo_ok X G (c.d.fact 42 (f := .glo "_law_behind") rfl)) sc_law_behind rfl rfl ck_law_behind rfl (fun _ _ _ _ _ _ us hl => match us, hl with | [_, _], _ => rfl) (fun ks perm z => by simp [Γ0, kwF] at z)
theorem g_law_lower (X : K.In h) (G : h.Ns mainGlobals mg) (c : SaysE fas dfs prs K) : FnHas Γ0 (CL K) T K mg 48 := by
  obtain ⟨fd, F⟩ := c.d.def_ 45 (d := dd_law_lower) rfl
  exact fnHas0 (Γ := Γ0) 48 _ N_law_lower F rfl (He.glo_ok X G (c.d.fact 43 (f := .glo "_law_lower") rfl)) sc_law_lower rfl rfl ck_law_lower rfl (fun _ _ _ _ _ _ us hl => match us, hl with | [_, _, _], _ => rfl) (fun ks perm z => by simp [Γ0, kwF] at z)
theorem g_law_is_less (X : K.In h) (G : h.Ns mainGlobals mg) (c : SaysE fas dfs prs K) : FnHas Γ0 (CL K) T K mg 49 := by
  obtain ⟨fd, F⟩ := c.d.def_ 46 (d := dd_law_is_less) rfl
  exact fnHas0 (Γ := Γ0) 49 _ N_law_is_less F rfl (He.glo_ok X G (c.d.fact 44 (f := .glo "_law_is_less") rfl)) sc_law_is_less rfl rfl ck_law_is_less rfl (fun _ _ _ _ _ _ us hl => match us, hl with | [_, _, _, _], _ => rfl) (fun ks perm z => by simp [Γ0, kwF] at z)
theorem g_law_ends (X : K.In h) (G : h.Ns mainGlobals mg) (c : SaysE fas dfs prs K) : FnHas Γ0 (CL K) T K mg 50 := by
  obtain ⟨fd, F⟩ := c.d.def_ 47 (d := dd_law_ends) rfl
  exact fnHas0 (Γ := Γ0) 50 _ N_law_ends F rfl (He.glo_ok X G (c.d.fact 45 (f := .glo "_law_ends") rfl)) sc_law_ends rfl rfl ck_law_ends rfl (fun _ _ _ _ _ _ us hl => match us, hl with | [_], _ => rfl) (fun ks perm z => by simp [Γ0, kwF] at z)
theorem g_law_as_even (X : K.In h) (G : h.Ns mainGlobals mg) (c : SaysE fas dfs prs K) : FnHas Γ0 (CL K) T K mg 57 := by
  obtain ⟨fd, F⟩ := c.d.def_ 48 (d := dd_law_as_even) rfl
  exact fnHas0 (Γ := Γ0) 57 _ N_law_as_even F rfl (He.glo_ok X G (c.d.fact 46 (f := .glo "_law_as_even") rfl)) sc_law_as_even rfl rfl ck_law_as_even rfl (fun _ _ _ _ _ _ us hl => match us, hl with | [_, _], _ => rfl) (fun ks perm z => by simp [Γ0, kwF] at z)
theorem g_law_tries (X : K.In h) (G : h.Ns mainGlobals mg) (c : SaysE fas dfs prs K) : FnHas Γ0 (CL K) T K mg 86 := by
  obtain ⟨fd, F⟩ := c.d.def_ 49 (d := dd_law_tries) rfl
  exact fnHas0 (Γ := Γ0) 86 _ N_law_tries F rfl (He.glo_ok X G (c.d.fact 47 (f := .glo "_law_tries") rfl)) sc_law_tries rfl rfl ck_law_tries rfl (fun _ _ _ _ _ _ us hl => match us, hl with | [_, _, _], _ => rfl) (fun ks perm z => by simp [Γ0, kwF] at z)
theorem g_law_asked (X : K.In h) (G : h.Ns mainGlobals mg) (c : SaysE fas dfs prs K) : FnHas Γ0 (CL K) T K mg 87 := by
  obtain ⟨fd, F⟩ := c.d.def_ 50 (d := dd_law_asked) rfl
  exact fnHas0 (Γ := Γ0) 87 _ N_law_asked F rfl (He.glo_ok X G (c.d.fact 48 (f := .glo "_law_asked") rfl)) sc_law_asked rfl rfl ck_law_asked rfl (fun _ _ _ _ _ _ us hl => match us, hl with | [_, _, _], _ => rfl) (fun ks perm z => by simp [Γ0, kwF] at z)
theorem g_law_right (X : K.In h) (G : h.Ns mainGlobals mg) (c : SaysE fas dfs prs K) : FnHas Γ0 (CL K) T K mg 88 := by
  obtain ⟨fd, F⟩ := c.d.def_ 51 (d := dd_law_right) rfl
  exact fnHas0 (Γ := Γ0) 88 _ N_law_right F rfl (He.glo_ok X G (c.d.fact 49 (f := .glo "_law_right") rfl)) sc_law_right rfl rfl ck_law_right rfl (fun _ _ _ _ _ _ us hl => match us, hl with | [_], _ => rfl) (fun ks perm z => by simp [Γ0, kwF] at z)
theorem g_law (X : K.In h) (G : h.Ns mainGlobals mg) (c : SaysE fas dfs prs K) : FnHas Γ0 (CL K) T K mg 89 := by
  obtain ⟨fd, F⟩ := c.d.def_ 52 (d := dd_law) rfl
  exact fnHas0 (Γ := Γ0) 89 _ N_law F rfl (He.glo_ok X G (c.d.fact 50 (f := .glo "law") rfl)) sc_law rfl rfl ck_law rfl (fun _ _ _ _ _ _ us hl => match us, hl with | [_], _ => rfl) (fun ks perm z => by simp [Γ0, kwF] at z)
theorem gst (X : K.In h) (G : h.Ns mainGlobals mg) (c : SaysE fas dfs prs K) (hK : K = (CL K).K) : GSt Γ0 (CL K) T K mg where
  fn := fun f hf => by
    change hasF f = true at hf
    unfold hasF at hf
    split at hf
    · exact g_is_integer X G c
    · exact g_is_within X G c
    · exact g_read_number X G c
    · exact g_is_band X G c
    · exact g_wrong_band X G c
    · exact g_last_of X G c
    · exact g_left_in X G c
    · exact g_lowest_band X G c
    · exact g_are_bands X G c
    · exact g_read_band X G c
    · exact g_read_rule X G c
    · exact g_band_at X G c
    · exact g_is_kind X G c
    · exact g_wrong_kind X G c
    · exact g_are_kinds X G c
    · exact g_read_kind X G c
    · exact g_read_purse X G c
    · exact g_people_of X G c
    · exact g_total_of X G c
    · exact g_kinds_behind X G c
    · exact g_share_of X G c
    · exact g_bends_of X G c
    · exact g_first_crossing X G c
    · exact g_as_even X G c
    · exact g_rules_shown X G c
    · exact g_accepts X G c
    · exact g_law_well X G c
    · exact g_law_draw X G c
    · exact g_law_some X G c
    · exact g_law_far X G c
    · exact g_law_left X G c
    · exact g_law_starts X G c
    · exact g_law_any X G c
    · exact g_law_even X G c
    · exact g_law_near X G c
    · exact g_law_sizes X G c
    · exact g_law_points X G c
    · exact g_law_spell X G c
    · exact g_law_judged X G c
    · exact g_law_same X G c
    · exact g_law_kinds X G c
    · exact g_law_lines X G c
    · exact g_law_behind X G c
    · exact g_law_lower X G c
    · exact g_law_is_less X G c
    · exact g_law_ends X G c
    · exact g_law_as_even X G c
    · exact g_law_tries X G c
    · exact g_law_asked X G c
    · exact g_law_right X G c
    · exact g_law X G c
    · cases hf
  no := fun f hf hM => by
    change hasF f = false at hf
    change hasMF f = false at hM
    unfold T
    split <;> first | rfl | exact absurd hf (by decide) | exact absurd hM (by decide)
  hm := fun f hf => by
    change hasMF f = true at hf
    unfold hasMF at hf
    split at hf
    · obtain ⟨fd, D, B⟩ := g_Rule_init c; exact ⟨_, fd, D⟩
    · obtain ⟨fd, D, B⟩ := g_Rule_at c; exact ⟨_, fd, D⟩
    · cases hf
  mth := fun f c' x h => by
    change (f, c', x) ∈ mthF at h
    simp only [mthF, List.mem_cons, List.not_mem_nil, or_false] at h
    rcases h with h
    · cases h
      obtain ⟨fd, D, B⟩ := g_Rule_at c
      exact ⟨_, fd, He.cls_ok (c.d.fact 52 (f := .cls "Rule") rfl), He.meth_ok (c.d.fact 55 (f := .meth "Rule" "at") rfl), (show ("at" : Str) ≠ "pieces" by decide), D, B⟩
  prp := fun f c' x h => by
    change (f, c', x) ∈ prpF at h
    simp only [prpF, List.mem_cons, List.not_mem_nil, or_false] at h
  mks := fun f c' x h => by
    change (f, c', x) ∈ mksF at h
    simp only [mksF, List.mem_cons, List.not_mem_nil, or_false] at h
    rcases h with h
    · cases h
      obtain ⟨fd, D, B⟩ := g_Rule_init c
      exact ⟨_, fd, He.glo_ok X G (c.d.fact 51 (f := .glo "Rule") rfl), He.mkr_ok (c.d.fact 54 (f := .mkr "Rule") rfl), D, B⟩
  fds := fun c' x h => by
    change (c', x) ∈ fdsF at h
    simp only [fdsF, List.mem_cons, List.not_mem_nil, or_false] at h
    rcases h with h
    · cases h
      exact ⟨He.cls_ok (c.d.fact 52 (f := .cls "Rule") rfl), He.noat_ok (c.d.fact 53 (f := .noat "Rule" "pieces") rfl), rfl⟩
  isc := fun c' x h => by
    change (c', x) ∈ iscF at h
    simp only [iscF, List.mem_cons, List.not_mem_nil, or_false] at h
  cst := cst_all fun p hp => by
    change p ∈ cstF at hp
    simp only [cstF, List.mem_cons, List.not_mem_nil, or_false] at hp
    rcases hp with rfl | rfl | rfl | rfl | rfl | rfl | rfl | rfl | rfl
    · exact cst_int (He.int_ok X G (c.d.fact 74 (f := .int "MOST_BANDS" 8) rfl))
    · exact cst_int (He.int_ok X G (c.d.fact 75 (f := .int "MOST_STEP" 1000) rfl))
    · exact cst_int (He.int_ok X G (c.d.fact 76 (f := .int "MOST_START" 100000000000000000000000000000) rfl))
    · exact cst_int (He.int_ok X G (c.d.fact 77 (f := .int "MOST_INCOME" 1000000000000000000000000000000) rfl))
    · exact cst_int (He.int_ok X G (c.d.fact 78 (f := .int "MOST_VALUE" 100000000000000000000000000000000) rfl))
    · exact cst_int (He.int_ok X G (c.d.fact 79 (f := .int "MOST_KINDS" 30) rfl))
    · exact cst_int (He.int_ok X G (c.d.fact 80 (f := .int "MOST_AMOUNT" 1000000000000000000000000000000000000) rfl))
    · exact cst_int (He.int_ok X G (c.d.fact 81 (f := .int "MOST_COUNT" 1000000000000000000000000000000000000000000000000000000000000000000000000) rfl))
    · exact cst_str (He.str_ok X G (c.d.fact 82 (f := .str "DIGITS" "0123456789") rfl)) (by decide +kernel)
  blt := fun b => by
    cases b
    · exact He.free_ok X G (c.d.fact 56 (f := .free "len") rfl)
    · exact He.free_ok X G (c.d.fact 57 (f := .free "abs") rfl)
    · exact He.free_ok X G (c.d.fact 58 (f := .free "min") rfl)
    · exact He.free_ok X G (c.d.fact 59 (f := .free "max") rfl)
    · exact He.free_ok X G (c.d.fact 60 (f := .free "int") rfl)
    · exact He.free_ok X G (c.d.fact 61 (f := .free "str") rfl)
    · exact He.free_ok X G (c.d.fact 62 (f := .free "sum") rfl)
    · exact He.free_ok X G (c.d.fact 63 (f := .free "all") rfl)
    · exact He.free_ok X G (c.d.fact 64 (f := .free "tuple") rfl)
    · exact He.free_ok X G (c.d.fact 65 (f := .free "list") rfl)
    · exact He.free_ok X G (c.d.fact 66 (f := .free "sorted") rfl)
    · exact He.free_ok X G (c.d.fact 67 (f := .free "repr") rfl)
    · exact He.free_ok X G (c.d.fact 68 (f := .free "divmod") rfl)
  bty := fun t ht => by
    cases t
    · exact He.free_ok X G (c.d.fact 60 (f := .free "int") rfl)
    · exact He.free_ok X G (c.d.fact 69 (f := .free "bool") rfl)
    · exact He.free_ok X G (c.d.fact 64 (f := .free "tuple") rfl)
    · exact He.free_ok X G (c.d.fact 61 (f := .free "str") rfl)
    · exact absurd rfl (ht _)
  isi := He.free_ok X G (c.d.fact 70 (f := .free "isinstance") rfl)
  rng := He.free_ok X G (c.d.fact 71 (f := .free "range") rfl)
  enm := He.free_ok X G (c.d.fact 72 (f := .free "enumerate") rfl)
  set := He.free_ok X G (c.d.fact 73 (f := .free "set") rfl)
  hK := hK
end
theorem facts {P : Program} {w : World} {K : PySem.W.Frag} {h : Heap} {mg : Str → Option Value} {f : Addr} (X : K.In h) (G : h.Ns mainGlobals mg) (hfa : mg ("law" : Str) = some (.ref f)) (c : SaysE fas dfs prs K) :
    ∃ fd : FuncData, (∀ (s : Shared) (v : Value), BindsTo s fd ⟨[v], []⟩ [("script", v)]) ∧ ∀ base : Heap, FnG P w K mg base (3 * 16) f fd ["script"] (spF (CL K) 1 (callF T 16 89)) := by
  obtain ⟨fd, F⟩ := c.d.def_ 52 (d := dd_law) rfl
  have e := hfa.symm.trans (He.glo_ok X G (c.d.fact 50 (f := .glo "law") rfl))
  cases e
  have b := FunD.bindsA (ps := ["script"]) F fun _ _ _ _ _ _ us hl => match us, hl with | [_], _ => rfl
  exact ⟨fd, fun s v => b s [v] rfl, fun base => fn_all (Γ := Γ0) (gst X G c rfl) 16 89 _ fd ⟨_, _, _, _, _, _, _, _, N_law, rfl, F, sc_law, rfl, rfl, ck_law⟩⟩
end DL
open PySem PySem.W PySem.Calls PyProof.Rows
theorem PySem.Challenge.cw_evenedshares_k80_whole_not_more_papers_j_holds : PySem.Challenge.rw_evenedshares_k80_whole_not_more_papers_j.Holds := by
  w_on; o_law
  refine HandSHeadRun.head_any (r := OpenLaw.row PySem.Challenge.rw_evenedshares_k80_whole_not_more_papers_j) (q := view (OpenLaw.row PySem.Challenge.rw_evenedshares_k80_whole_not_more_papers_j).prog [88]) (H := DL.hk) (ob := DL.ob) (M := 20000) (loose := DL.loose) (d := HandSHeadRun.topDef (OpenLaw.row PySem.Challenge.rw_evenedshares_k80_whole_not_more_papers_j).prog 88) (kwd := []) DL.ob_eq
    (by kernel_rfl) (fun s => by kernel_rfl) DL.run (by kernel_rfl) (by kernel_rfl) (by kernel_rfl) (by rfl) (by first | assumption | decide +kernel) (by decide +kernel) ⟨rfl, rfl, rfl, rfl, rfl, by decide +kernel⟩ ?hw ?hc
  case hw => w_witness2
  case hc =>
    refine DL.walk_ofG (l := PySem.Challenge.rw_evenedshares_k80_whole_not_more_papers_j) (n := 63) (k := 3 * 16) (x := "script") rfl (by decide) (by kernel_rfl) ⟨rfl, by decide, by decide⟩ ?F
    intro w mg fa h Y G hmg0
    obtain ⟨K, KX, c⟩ := Y
    have hmg : mg ("law" : PySem.Str) = some (.ref fa) := by
      have e : (HandSHeadRun.topDef (OpenLaw.row PySem.Challenge.rw_evenedshares_k80_whole_not_more_papers_j).prog 88).name = ("law" : PySem.Str) := by kernel_rfl
      rw [← e]
      exact hmg0
    obtain ⟨fd, hb, hF⟩ := DL.facts (P := (PySem.Challenge.rw_evenedshares_k80_whole_not_more_papers_j).prog) (w := w) KX G hmg c
    refine ⟨K, fd, _, KX, hb, fun H a ns hl hbits hO hS => ?_, fun base _ _ => hF base⟩
    obtain ⟨m', hm⟩ := DL.law_true ns hl hbits
    exact DL.law_sp hO hS rfl hm
