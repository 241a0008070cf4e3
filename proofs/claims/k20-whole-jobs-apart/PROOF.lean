import PyProof.Rows.All
import Wide.All
import OpenK.AllK
import Wide.FinOn
import HandS.ForMost
import HandS.Flow
import HandS.Style
import HandS.Conv
import HandS.Defaults
import HandS.MakeKwOnly
import HandS.Property
import HandS.IsInst
import HandS.DictComp
import HandS.TupAny
import HandS.More
import HandS.SetKeys
import HandS.SortRule
import HandS.ListItems
import HandS.Walk
import HandS.HeadHook4
import KE.KStateDown
import HandS.Head0
import HandS.Head1
import HandS.Head2
import HandS.Codes
import HandS.Strs
import HandS.DictTup
import HandS.TupSets
import PyProof.ReprBulk
import HandS.Ends
import HandS.HeadEnd
import PySem.Challenge.RW_whilemerged_k20_whole_jobs_apart
set_option Elab.async false
/-! T0 -/
section
set_option Elab.async false
set_option linter.all false
set_option maxRecDepth 100000
set_option maxHeartbeats 4000000
namespace K20W
open PySem L2
/-! ### the text by places -/
def top (i : Nat) : Stmt := PySem.Challenge.pw_whilemerged_k20_whole_jobs_apart.main.body.getD i (.Pass ⟨0, 0, 0, 0⟩)

section
variable (P : Program) (w : World) (K : PySem.W.Frag) (mg : Str → Option Value) (base : Heap)
/-- a def of the module keeps a promise -/
def Gd (x : Str) (k : Nat) (ps : List Str) (sp : Sp) : Prop := ∃ (f : Addr) (fd : FuncData), FnOk P w K mg base CX0 k f fd ps sp ∧ mg x = some (.ref f) ∧ PySem.W.keepIn K (.ref f) = true ∧ Binds K fd ps []
/-- a method does -/
def Md (C : Addr) (m : Str) (k : Nat) (ps : List Str) (sp : Sp) : Prop := ∃ (f : Addr) (fd : FuncData), FnOk P w K mg base CX0 k f fd ps sp ∧ Meth K C m f ∧ Binds K fd ps []
/-- a property's getter does -/
def Pd (C : Addr) (f : Str) (k : Nat) (sp : Sp) : Prop := ∃ (p g : Addr) (fd : FuncData), FnOk P w K mg base CX0 k g fd ["self"] sp ∧ PropOf K C f p g ∧ Binds K fd ["self"] []
/-- a class's __init__ does -/
def Id (C : Addr) (k : Nat) (ps : List Str) (sp : Sp) : Prop := ∃ (f : Addr) (fd : FuncData), FnOk P w K mg base CX0 k f fd ps sp ∧ Mk K C f ∧ Binds K fd ps []
/-- a def of the text, as the top leaves it -/
abbrev Fu (x qual : Str) (st : Stmt) (f : Addr) (fd : FuncData) : Prop := FunD K x qual (defArgs st) (defBody st) (defScope st) [] [] f fd
end
/-- which built-ins are still themselves -/
structure Blt (mg : Str → Option Value) : Prop where
  isinstance : mg "isinstance" = none
  int : mg "int" = none
  bool : mg "bool" = none
  str : mg "str" = none
  list : mg "list" = none
  tuple : mg "tuple" = none
  dict : mg "dict" = none
  len : mg "len" = none
  set : mg "set" = none
  sorted : mg "sorted" = none
  range : mg "range" = none
  abs : mg "abs" = none
  min : mg "min" = none
  repr : mg "repr" = none
theorem boot_list : bootBuiltins "list" = some (.type "list") := by decide +kernel
theorem boot_dict : bootBuiltins "dict" = some (.type "dict") := by decide +kernel
theorem boot_tuple : bootBuiltins "tuple" = some (.type "tuple") := by decide +kernel
theorem boot_sorted : bootBuiltins "sorted" = some (.builtin "sorted") := by decide +kernel
theorem boot_range : bootBuiltins "range" = some (.type "range") := by decide +kernel
theorem boot_isinstance : bootBuiltins "isinstance" = some (.builtin "isinstance") := by decide +kernel
theorem boot_set : bootBuiltins "set" = some (.type "set") := by decide +kernel
theorem boot_abs : bootBuiltins "abs" = some (.builtin "abs") := by decide +kernel
theorem boot_min : bootBuiltins "min" = some (.builtin "min") := by decide +kernel
theorem boot_repr : bootBuiltins "repr" = some (.builtin "repr") := by decide +kernel
end K20W
end
/-! H0 -/
section
set_option Elab.async false
set_option linter.all false
set_option maxRecDepth 100000
set_option maxHeartbeats 4000000
/-! The head's Hook: what is read off the heap behind the top. -/
namespace K20W
open PySem PySem.Spec PyProof.Rows L2
/-! ### the head's facts -/
/-- what cur refers to, n times over; no two are compared -/
def accF (g : Addr → Option Obj) : Nat → List Addr → List Addr
  | 0, cur => cur
  | n + 1, cur => cur ++ accF g n (cur.flatMap fun a => match g a with
    | some o => He.refsD o
    | none => [])
def frM (n : Nat) (g : Addr → Option Obj) : PySem.W.Frag := He.frG g (sysModules :: accF g n [mainGlobals])
/-- a property of a class, its getter -/
structure DefP where
  cls : Str
  prop : Str
  qual : Str
  params : Arguments
  body : List Stmt
  scope : Scope
def prAd (K : PySem.W.Frag) (c f : Str) : Addr := He.ma K (He.ga K c) f
def gtAd (K : PySem.W.Frag) (c f : Str) : Addr := match PySem.W.recIn K (prAd K c f) "property" with
  | some (.ref g :: _) => g
  | _ => 0
def fnAt (K : PySem.W.Frag) (a : Addr) : He.FnW := match K.lookup a with
  | some ⟨_, _, .func fd, _⟩ => some (fd.name, fd.qualname, fd.params, fd.body, fd.scope, fd.globals, fd.closure, fd.builtins)
  | _ => none
def DefP.val (d : DefP) : He.FnW := some (d.prop, d.qual, d.params, .stmts d.body, d.scope, mainGlobals, [], builtinsNs)
def DefP.ok (K : PySem.W.Frag) (d : DefP) : Bool := He.eqO (PySem.W.findIn K (.ref (He.ga K d.cls)) d.prop) (some (some (.ref (prAd K d.cls d.prop)))) && (He.eqO (PySem.W.specialIn K (.ref (prAd K d.cls d.prop)) "__get__") (some (some (.builtin "property.__get__"))) &&
  (decide (PySem.W.takesIn K (.ref (prAd K d.cls d.prop)) = some true) && ((match PySem.W.recIn K (prAd K d.cls d.prop) "property" with
    | some (.ref _ :: _) => true
    | _ => false) && (PySem.W.keepIn K (.ref (gtAd K d.cls d.prop)) && (match K.lookup (gtAd K d.cls d.prop) with
    | some ⟨_, _, .func fd, _⟩ => PySem.W.codeIn K fd.code d.qual && (He.dflB K fd.defaults [] && He.kwdB K fd.kwdefaults [])
    | _ => false)))))
theorem DefP.out {K : PySem.W.Frag} {d : DefP} (e : fnAt K (gtAd K d.cls d.prop) = d.val) (c : d.ok K = true) : PropOf K (He.ga K d.cls) d.prop (prAd K d.cls d.prop) (gtAd K d.cls d.prop) ∧ ∃ fd, FunD K d.prop d.qual d.params d.body d.scope [] [] (gtAd K d.cls d.prop) fd := by
  obtain ⟨c1, c⟩ := He.ba c
  obtain ⟨c2, c⟩ := He.ba c
  obtain ⟨c3, c⟩ := He.ba c
  obtain ⟨c4, c⟩ := He.ba c
  obtain ⟨kp, c5⟩ := He.ba c
  refine ⟨⟨He.eqO_ok c1, He.eqO_ok c2, of_decide_eq_true c3, ?_⟩, ?_⟩
  · unfold gtAd
    split at c4
    · rename_i g rest h
      exact ⟨rest, by rw [h]⟩
    · cases c4
  · unfold fnAt at e
    cases q : K.lookup (gtAd K d.cls d.prop) with
    | none =>
      rw [q] at c5
      cases c5
    | some o =>
      obtain ⟨oc, od, dt, osl⟩ := o
      rw [q] at c5 e
      cases dt with
      | func fd =>
        obtain ⟨n1, n2, n3, n4, n5, n6, n7, n8, n9, n10, n11, n12, n13, n14, n15⟩ := fd
        have e2 : (some (n1, n2, n3, n4, n5, n6, n7, n15) : He.FnW) = some (d.prop, d.qual, d.params, .stmts d.body, d.scope, mainGlobals, [], builtinsNs) := e
        simp only [Option.some.injEq, Prod.mk.injEq] at e2
        obtain ⟨h1, h2, h3, h4, h5, h6, h7, h8⟩ := e2
        subst h1 h2 h3 h4 h5 h6 h7 h8
        obtain ⟨k1, k2⟩ := He.ba (show (PySem.W.codeIn K n13 d.qual && (He.dflB K n8 [] && He.kwdB K n9 [])) = true from c5)
        obtain ⟨k3, k4⟩ := He.ba k2
        exact ⟨_, ⟨oc, od, n8, n9, n10, n11, n12, n13, n14, osl, rfl, q, k1, He.dflB_ok k3, He.kwdB_ok k4⟩, kp⟩
      | _ => cases c5
abbrev AlM : Type := He.AlT × List He.FnW × Bool
def obsM (n : Nat) (fa : List He.Fa) (fn : List He.DefD) (ts : List He.Tab) (ps : List DefP) (ex : PySem.W.Frag → Bool) (g : Addr → Option Obj) : AlM :=
  (He.obsT fa fn ts (frM n g), ps.map fun d => fnAt (frM n g) (gtAd (frM n g) d.cls d.prop), (ps.all fun d => d.ok (frM n g)) && ex (frM n g))
def valM (fn : List He.DefD) (ts : List He.Tab) (ps : List DefP) (w : World) : AlM := (He.valT fn ts w, ps.map DefP.val, true)
structure SaysM (fa : List He.Fa) (fn : List He.DefD) (ts : List He.Tab) (ps : List DefP) (ex : PySem.W.Frag → Bool) (w : World) (K : PySem.W.Frag) : Prop where
  t : He.SaysT fa fn ts w K
  pr : ∀ d ∈ ps, PropOf K (He.ga K d.cls) d.prop (prAd K d.cls d.prop) (gtAd K d.cls d.prop) ∧ ∃ fd, FunD K d.prop d.qual d.params d.body d.scope [] [] (gtAd K d.cls d.prop) fd
  ex : ex K = true
theorem saysM_of {n : Nat} {fa : List He.Fa} {fn : List He.DefD} {ts : List He.Tab} {ps : List DefP} {ex : PySem.W.Frag → Bool} {w : World} {g : Addr → Option Obj} (e : obsM n fa fn ts ps ex g = valM fn ts ps w) : SaysM fa fn ts ps ex w (frM n g) := by
  have e1 : He.obsT fa fn ts (frM n g) = He.valT fn ts w := congrArg (fun z : AlM => z.1) e
  have e2 : (ps.map fun d => fnAt (frM n g) (gtAd (frM n g) d.cls d.prop)) = ps.map DefP.val := congrArg (fun z : AlM => z.2.1) e
  have e3 : ((ps.all fun d => d.ok (frM n g)) && ex (frM n g)) = true := congrArg (fun z : AlM => z.2.2) e
  obtain ⟨k1, k2⟩ := He.ba e3
  refine ⟨e1, fun d hd => ?_, k2⟩
  refine DefP.out ?_ (List.all_eq_true.mp k1 d hd)
  have := List.map_inj_left.mp e2 d hd
  exact this
def hookM (n : Nat) (fa : List He.Fa) (fn : List He.DefD) (ts : List He.Tab) (ps : List DefP) (ex : PySem.W.Frag → Bool) : PySem.W.Hook where
  α := AlM
  obs := fun s => obsM n fa fn ts ps ex s.heap.get?
  val := fun w => valM fn ts ps w
  says := fun w h => ∃ K : PySem.W.Frag, K.In h ∧ SaysM fa fn ts ps ex w K
  of := fun _ _ e => ⟨_, He.frG_in, saysM_of e⟩
  keeps := fun _ _ _ ⟨K, hK, c⟩ k => ⟨K, PySem.W.Frag.In.keeps hK k, c⟩
theorem obsM_eq {n : Nat} {fa : List He.Fa} {fn : List He.DefD} {ts : List He.Tab} {ps : List DefP} {ex : PySem.W.Frag → Bool} {g : Addr → Option Obj} {s : Shared} (h : ∀ a, g a = s.heap.get? a) : obsM n fa fn ts ps ex g = (hookM n fa fn ts ps ex).obs s := by
  have e : g = s.heap.get? := funext h
  rw [e]
  rfl
def d_isnum : He.DefD := ⟨("is_number", none), "is_number", "is_number", defArgs (top 27), defBody (top 27), defScope (top 27), [], []⟩
def d_iskind : He.DefD := ⟨("is_kind", none), "is_kind", "is_kind", defArgs (top 28), defBody (top 28), defScope (top 28), [], []⟩
def d_needkind : He.DefD := ⟨("need_kind", none), "need_kind", "need_kind", defArgs (top 29), defBody (top 29), defScope (top 29), [], []⟩
def d_needbook : He.DefD := ⟨("need_book", none), "need_book", "need_book", defArgs (top 30), defBody (top 30), defScope (top 30), [], []⟩
def d_needword : He.DefD := ⟨("need_word", none), "need_word", "need_word", defArgs (top 31), defBody (top 31), defScope (top 31), [], []⟩
def d_needwords : He.DefD := ⟨("need_words", none), "need_words", "need_words", defArgs (top 32), defBody (top 32), defScope (top 32), [], []⟩
def d_twofold : He.DefD := ⟨("is_twofold", none), "is_twofold", "is_twofold", defArgs (top 37), defBody (top 37), defScope (top 37), [], []⟩
def d_looked : He.DefD := ⟨("looked", none), "looked", "looked", defArgs (top 38), defBody (top 38), defScope (top 38), [], []⟩
def d_give : He.DefD := ⟨("give", none), "give", "give", defArgs (top 39), defBody (top 39), defScope (top 39), [], []⟩
def d_copyon : He.DefD := ⟨("copy_on", none), "copy_on", "copy_on", defArgs (top 40), defBody (top 40), defScope (top 40), [], []⟩
def d_isdeed : He.DefD := ⟨("is_deed", none), "is_deed", "is_deed", defArgs (top 46), defBody (top 46), defScope (top 46), [], []⟩
def d_answered : He.DefD := ⟨("answered", none), "answered", "answered", defArgs (top 47), defBody (top 47), defScope (top 47), [], []⟩
def d_binit : He.DefD := ⟨("Book", some "__init__"), "__init__", "Book.__init__", defArgs (inClass (top 33) 0), defBody (inClass (top 33) 0), defScope (inClass (top 33) 0), [], [("up", .str "one")]⟩
def d_j___init__ : He.DefD := ⟨("Job", some "__init__"), "__init__", "Job.__init__", defArgs (inClass (top 35) 0), defBody (inClass (top 35) 0), defScope (inClass (top 35) 0), [], []⟩
def d_j_twin : He.DefD := ⟨("Job", some "twin"), "twin", "Job.twin", defArgs (inClass (top 35) 1), defBody (inClass (top 35) 1), defScope (inClass (top 35) 1), [], []⟩
def d_j_next_cell : He.DefD := ⟨("Job", some "next_cell"), "next_cell", "Job.next_cell", defArgs (inClass (top 35) 2), defBody (inClass (top 35) 2), defScope (inClass (top 35) 2), [], []⟩
def d_j_copied : He.DefD := ⟨("Job", some "copied"), "copied", "Job.copied", defArgs (inClass (top 35) 4), defBody (inClass (top 35) 4), defScope (inClass (top 35) 4), [], []⟩
def d_y___init__ : He.DefD := ⟨("Yard", some "__init__"), "__init__", "Yard.__init__", defArgs (inClass (top 48) 0), defBody (inClass (top 48) 0), defScope (inClass (top 48) 0), [], []⟩
def d_y_need_writer : He.DefD := ⟨("Yard", some "need_writer"), "need_writer", "Yard.need_writer", defArgs (inClass (top 48) 6), defBody (inClass (top 48) 6), defScope (inClass (top 48) 6), [], []⟩
def d_y_need_cell : He.DefD := ⟨("Yard", some "need_cell"), "need_cell", "Yard.need_cell", defArgs (inClass (top 48) 7), defBody (inClass (top 48) 7), defScope (inClass (top 48) 7), [], []⟩
def d_y_need_layer : He.DefD := ⟨("Yard", some "need_layer"), "need_layer", "Yard.need_layer", defArgs (inClass (top 48) 8), defBody (inClass (top 48) 8), defScope (inClass (top 48) 8), [], []⟩
def d_y_seat_of : He.DefD := ⟨("Yard", some "seat_of"), "seat_of", "Yard.seat_of", defArgs (inClass (top 48) 9), defBody (inClass (top 48) 9), defScope (inClass (top 48) 9), [], []⟩
def d_y_is_open : He.DefD := ⟨("Yard", some "is_open"), "is_open", "Yard.is_open", defArgs (inClass (top 48) 10), defBody (inClass (top 48) 10), defScope (inClass (top 48) 10), [], []⟩
def d_y_above : He.DefD := ⟨("Yard", some "above"), "above", "Yard.above", defArgs (inClass (top 48) 11), defBody (inClass (top 48) 11), defScope (inClass (top 48) 11), [], []⟩
def d_y_uppers : He.DefD := ⟨("Yard", some "uppers"), "uppers", "Yard.uppers", defArgs (inClass (top 48) 12), defBody (inClass (top 48) 12), defScope (inClass (top 48) 12), [], []⟩
def d_y_lowers : He.DefD := ⟨("Yard", some "lowers"), "lowers", "Yard.lowers", defArgs (inClass (top 48) 13), defBody (inClass (top 48) 13), defScope (inClass (top 48) 13), [], []⟩
def d_y_put_on : He.DefD := ⟨("Yard", some "put_on"), "put_on", "Yard.put_on", defArgs (inClass (top 48) 14), defBody (inClass (top 48) 14), defScope (inClass (top 48) 14), [], []⟩
def d_y_merging : He.DefD := ⟨("Yard", some "merging"), "merging", "Yard.merging", defArgs (inClass (top 48) 15), defBody (inClass (top 48) 15), defScope (inClass (top 48) 15), [], []⟩
def d_y_write : He.DefD := ⟨("Yard", some "write"), "write", "Yard.write", defArgs (inClass (top 48) 16), defBody (inClass (top 48) 16), defScope (inClass (top 48) 16), [], []⟩
def d_y_cover : He.DefD := ⟨("Yard", some "cover"), "cover", "Yard.cover", defArgs (inClass (top 48) 17), defBody (inClass (top 48) 17), defScope (inClass (top 48) 17), [], []⟩
def d_y_branch : He.DefD := ⟨("Yard", some "branch"), "branch", "Yard.branch", defArgs (inClass (top 48) 18), defBody (inClass (top 48) 18), defScope (inClass (top 48) 18), [], []⟩
def d_y_begin : He.DefD := ⟨("Yard", some "begin"), "begin", "Yard.begin", defArgs (inClass (top 48) 19), defBody (inClass (top 48) 19), defScope (inClass (top 48) 19), [], []⟩
def d_y_step : He.DefD := ⟨("Yard", some "step"), "step", "Yard.step", defArgs (inClass (top 48) 20), defBody (inClass (top 48) 20), defScope (inClass (top 48) 20), [], []⟩
def d_y_finish_word : He.DefD := ⟨("Yard", some "finish_word"), "finish_word", "Yard.finish_word", defArgs (inClass (top 48) 21), defBody (inClass (top 48) 21), defScope (inClass (top 48) 21), [], []⟩
def d_y_link : He.DefD := ⟨("Yard", some "link"), "link", "Yard.link", defArgs (inClass (top 48) 22), defBody (inClass (top 48) 22), defScope (inClass (top 48) 22), [], []⟩
def d_y_cut : He.DefD := ⟨("Yard", some "cut"), "cut", "Yard.cut", defArgs (inClass (top 48) 23), defBody (inClass (top 48) 23), defScope (inClass (top 48) 23), [], []⟩
def d_y_do : He.DefD := ⟨("Yard", some "do"), "do", "Yard.do", defArgs (inClass (top 48) 25), defBody (inClass (top 48) 25), defScope (inClass (top 48) 25), [], []⟩
def d_y_shown : He.DefD := ⟨("Yard", some "shown"), "shown", "Yard.shown", defArgs (inClass (top 48) 26), defBody (inClass (top 48) 26), defScope (inClass (top 48) 26), [], []⟩
def d_y_contents : He.DefD := ⟨("Yard", some "contents"), "contents", "Yard.contents", defArgs (inClass (top 48) 28), defBody (inClass (top 48) 28), defScope (inClass (top 48) 28), [], []⟩
def d_y_wrong : He.DefD := ⟨("Yard", some "wrong"), "wrong", "Yard.wrong", defArgs (inClass (top 48) 31), defBody (inClass (top 48) 31), defScope (inClass (top 48) 31), [], []⟩
def d_y_copy : He.DefD := ⟨("Yard", some "copy"), "copy", "Yard.copy", defArgs (inClass (top 48) 32), defBody (inClass (top 48) 32), defScope (inClass (top 48) 32), [], []⟩
def d_l_begun : He.DefD := ⟨("_law_begun", none), "_law_begun", "_law_begun", defArgs (top 50), defBody (top 50), defScope (top 50), [], []⟩
def d_l_mixed : He.DefD := ⟨("_law_mixed", none), "_law_mixed", "_law_mixed", defArgs (top 51), defBody (top 51), defScope (top 51), [], []⟩
def d_l_take : He.DefD := ⟨("_law_take", none), "_law_take", "_law_take", defArgs (top 52), defBody (top 52), defScope (top 52), [], []⟩
def d_l_pick : He.DefD := ⟨("_law_pick", none), "_law_pick", "_law_pick", defArgs (top 53), defBody (top 53), defScope (top 53), [], []⟩
def d_l_is_number : He.DefD := ⟨("_law_is_number", none), "_law_is_number", "_law_is_number", defArgs (top 54), defBody (top 54), defScope (top 54), [], []⟩
def d_l_drawn_fields : He.DefD := ⟨("_law_drawn_fields", none), "_law_drawn_fields", "_law_drawn_fields", defArgs (top 55), defBody (top 55), defScope (top 55), [], []⟩
def d_l_book : He.DefD := ⟨("_law_book", none), "_law_book", "_law_book", defArgs (top 56), defBody (top 56), defScope (top 56), [], []⟩
def d_l_new_sheet : He.DefD := ⟨("_law_new_sheet", none), "_law_new_sheet", "_law_new_sheet", defArgs (top 57), defBody (top 57), defScope (top 57), [], []⟩
def d_l_copy_of : He.DefD := ⟨("_law_copy_of", none), "_law_copy_of", "_law_copy_of", defArgs (top 58), defBody (top 58), defScope (top 58), [], []⟩
def d_l_shown : He.DefD := ⟨("_law_shown", none), "_law_shown", "_law_shown", defArgs (top 59), defBody (top 59), defScope (top 59), [], []⟩
def d_l_wrong : He.DefD := ⟨("_law_wrong", none), "_law_wrong", "_law_wrong", defArgs (top 60), defBody (top 60), defScope (top 60), [], []⟩
def d_l_above : He.DefD := ⟨("_law_above", none), "_law_above", "_law_above", defArgs (top 61), defBody (top 61), defScope (top 61), [], []⟩
def d_l_is_open : He.DefD := ⟨("_law_is_open", none), "_law_is_open", "_law_is_open", defArgs (top 62), defBody (top 62), defScope (top 62), [], []⟩
def d_l_has : He.DefD := ⟨("_law_has", none), "_law_has", "_law_has", defArgs (top 63), defBody (top 63), defScope (top 63), [], []⟩
def d_l_layer_refusal : He.DefD := ⟨("_law_layer_refusal", none), "_law_layer_refusal", "_law_layer_refusal", defArgs (top 65), defBody (top 65), defScope (top 65), [], []⟩
def d_l_refusal : He.DefD := ⟨("_law_refusal", none), "_law_refusal", "_law_refusal", defArgs (top 66), defBody (top 66), defScope (top 66), [], []⟩
def d_l_merging : He.DefD := ⟨("_law_merging", none), "_law_merging", "_law_merging", defArgs (top 67), defBody (top 67), defScope (top 67), [], []⟩
def d_l_put_on : He.DefD := ⟨("_law_put_on", none), "_law_put_on", "_law_put_on", defArgs (top 68), defBody (top 68), defScope (top 68), [], []⟩
def d_l_written : He.DefD := ⟨("_law_written", none), "_law_written", "_law_written", defArgs (top 69), defBody (top 69), defScope (top 69), [], []⟩
def d_l_copied : He.DefD := ⟨("_law_copied", none), "_law_copied", "_law_copied", defArgs (top 70), defBody (top 70), defScope (top 70), [], []⟩
def d_l_linked : He.DefD := ⟨("_law_linked", none), "_law_linked", "_law_linked", defArgs (top 71), defBody (top 71), defScope (top 71), [], []⟩
def d_l_cut : He.DefD := ⟨("_law_cut", none), "_law_cut", "_law_cut", defArgs (top 72), defBody (top 72), defScope (top 72), [], []⟩
def d_l_stepped : He.DefD := ⟨("_law_stepped", none), "_law_stepped", "_law_stepped", defArgs (top 73), defBody (top 73), defScope (top 73), [], []⟩
def d_l_begins : He.DefD := ⟨("_law_begins", none), "_law_begins", "_law_begins", defArgs (top 75), defBody (top 75), defScope (top 75), [], []⟩
def d_l_done : He.DefD := ⟨("_law_done", none), "_law_done", "_law_done", defArgs (top 76), defBody (top 76), defScope (top 76), [], []⟩
def d_l_shows : He.DefD := ⟨("_law_shows", none), "_law_shows", "_law_shows", defArgs (top 77), defBody (top 77), defScope (top 77), [], []⟩
def d_l_grown : He.DefD := ⟨("_law_grown", none), "_law_grown", "_law_grown", defArgs (top 78), defBody (top 78), defScope (top 78), [], []⟩
def d_l_exchanged : He.DefD := ⟨("_law_exchanged", none), "_law_exchanged", "_law_exchanged", defArgs (top 79), defBody (top 79), defScope (top 79), [], []⟩
def d_law : He.DefD := ⟨("law", none), "law", "law", defArgs (top 80), defBody (top 80), defScope (top 80), [], []⟩
def hfn0 : List He.DefD := [d_isnum, d_iskind, d_needkind, d_needbook, d_needword, d_needwords, d_twofold, d_looked, d_give, d_copyon, d_isdeed, d_answered, d_binit, d_j___init__, d_j_twin, d_j_next_cell, d_j_copied, d_y___init__, d_y_need_writer, d_y_need_cell]
def hfn1 : List He.DefD := [d_y_need_layer, d_y_seat_of, d_y_is_open, d_y_above, d_y_uppers, d_y_lowers, d_y_put_on, d_y_merging, d_y_write, d_y_cover, d_y_branch, d_y_begin, d_y_step, d_y_finish_word, d_y_link, d_y_cut, d_y_do, d_y_shown, d_y_contents, d_y_wrong]
def hfn2 : List He.DefD := [d_y_copy, d_l_begun, d_l_mixed, d_l_take, d_l_pick, d_l_is_number, d_l_drawn_fields, d_l_book, d_l_new_sheet, d_l_copy_of, d_l_shown, d_l_wrong, d_l_above, d_l_is_open, d_l_has, d_l_layer_refusal, d_l_refusal, d_l_merging, d_l_put_on, d_l_written]
def hfn3 : List He.DefD := [d_l_copied, d_l_linked, d_l_cut, d_l_stepped, d_l_begins, d_l_done, d_l_shows, d_l_grown, d_l_exchanged, d_law]
def hfn : List He.DefD := hfn0 ++ hfn1 ++ hfn2 ++ hfn3
def p_Book_up : DefP := ⟨"Book", "up", "Book.up", defArgs (inClass (top 33) 1), defBody (inClass (top 33) 1), defScope (inClass (top 33) 1)⟩
def p_Book_down : DefP := ⟨"Book", "down", "Book.down", defArgs (inClass (top 33) 2), defBody (inClass (top 33) 2), defScope (inClass (top 33) 2)⟩
def p_Book_moves : DefP := ⟨"Book", "moves", "Book.moves", defArgs (inClass (top 33) 4), defBody (inClass (top 33) 4), defScope (inClass (top 33) 4)⟩
def p_Book_finish : DefP := ⟨"Book", "finish", "Book.finish", defArgs (inClass (top 33) 5), defBody (inClass (top 33) 5), defScope (inClass (top 33) 5)⟩
def p_Book_counts : DefP := ⟨"Book", "counts", "Book.counts", defArgs (inClass (top 33) 6), defBody (inClass (top 33) 6), defScope (inClass (top 33) 6)⟩
def p_Book_bars : DefP := ⟨"Book", "bars", "Book.bars", defArgs (inClass (top 33) 7), defBody (inClass (top 33) 7), defScope (inClass (top 33) 7)⟩
def p_Yard_cells : DefP := ⟨"Yard", "cells", "Yard.cells", defArgs (inClass (top 48) 2), defBody (inClass (top 48) 2), defScope (inClass (top 48) 2)⟩
def p_Yard_layers : DefP := ⟨"Yard", "layers", "Yard.layers", defArgs (inClass (top 48) 3), defBody (inClass (top 48) 3), defScope (inClass (top 48) 3)⟩
def p_Yard_writers : DefP := ⟨"Yard", "writers", "Yard.writers", defArgs (inClass (top 48) 4), defBody (inClass (top 48) 4), defScope (inClass (top 48) 4)⟩
def p_Yard_jobs : DefP := ⟨"Yard", "jobs", "Yard.jobs", defArgs (inClass (top 48) 5), defBody (inClass (top 48) 5), defScope (inClass (top 48) 5)⟩
def hps0 : List DefP := [p_Book_up, p_Book_down, p_Book_moves, p_Book_finish, p_Book_counts, p_Book_bars, p_Yard_cells, p_Yard_layers, p_Yard_writers, p_Yard_jobs]
def hps : List DefP := hps0
def hfa0 : List He.Fa := [.glo "is_number", .glo "is_kind", .glo "need_kind", .glo "need_book", .glo "need_word", .glo "need_words", .glo "is_twofold", .glo "looked", .glo "give", .glo "copy_on", .glo "is_deed", .glo "answered", .glo "_law_begun", .glo "_law_mixed", .glo "_law_take", .glo "_law_pick", .glo "_law_is_number", .glo "_law_drawn_fields", .glo "_law_book", .glo "_law_new_sheet"]
def hfa1 : List He.Fa := [.glo "_law_copy_of", .glo "_law_shown", .glo "_law_wrong", .glo "_law_above", .glo "_law_is_open", .glo "_law_has", .glo "_law_layer_refusal", .glo "_law_refusal", .glo "_law_merging", .glo "_law_put_on", .glo "_law_written", .glo "_law_copied", .glo "_law_linked", .glo "_law_cut", .glo "_law_stepped", .glo "_law_begins", .glo "_law_done", .glo "_law_shows", .glo "_law_grown", .glo "_law_exchanged"]
def hfa2 : List He.Fa := [.glo "law", .glo "Book", .glo "Job", .glo "Yard", .glo "PARTS", .glo "KINDS", .glo "UPS", .glo "DOWNS", .glo "WRITES", .glo "MOVES", .glo "FINISHES", .glo "COUNTS", .glo "BARS", .glo "NOTES", .free "isinstance", .free "int", .free "bool", .free "str", .free "list", .free "tuple"]
def hfa3 : List He.Fa := [.free "dict", .free "len", .free "set", .free "sorted", .free "range", .free "abs", .free "min", .free "repr", .int "MOST_VALUE" 1000000000, .int "MOST_CELLS" 40, .cls "Book", .mkr "Book", .noat "Book" "b_words", .noat "Book" "b_bars", .noat "Book" "b_notes", .cls "Job", .mkr "Job", .noat "Job" "kind", .noat "Job" "upper", .noat "Job" "lower"]
def hfa4 : List He.Fa := [.noat "Job" "place", .noat "Job" "marks", .noat "Job" "seen", .noat "Job" "half", .noat "Job" "noted", .noat "Job" "free", .cls "Yard", .mkr "Yard", .noat "Yard" "y_book", .noat "Yard" "y_cells", .noat "Yard" "y_bases", .noat "Yard" "y_owned", .noat "Yard" "y_dues", .noat "Yard" "y_seats", .noat "Yard" "y_contents", .noat "Yard" "y_jobs", .noat "Yard" "y_begun", .meth "Job" "twin", .meth "Job" "next_cell", .meth "Job" "copied"]
def hfa5 : List He.Fa := [.meth "Yard" "need_writer", .meth "Yard" "need_cell", .meth "Yard" "need_layer", .meth "Yard" "seat_of", .meth "Yard" "is_open", .meth "Yard" "above", .meth "Yard" "uppers", .meth "Yard" "lowers", .meth "Yard" "put_on", .meth "Yard" "merging", .meth "Yard" "write", .meth "Yard" "cover", .meth "Yard" "branch", .meth "Yard" "begin", .meth "Yard" "step", .meth "Yard" "finish_word", .meth "Yard" "link", .meth "Yard" "cut", .meth "Yard" "do", .meth "Yard" "shown"]
def hfa6 : List He.Fa := [.meth "Yard" "contents", .meth "Yard" "wrong", .meth "Yard" "copy"]
def hfa : List He.Fa := hfa0 ++ hfa1 ++ hfa2 ++ hfa3 ++ hfa4 ++ hfa5 ++ hfa6
def insB (K : PySem.W.Frag) (x : Str) : Bool := He.eqO (PySem.W.findIn K (.ref (He.ga K x)) "__class__") (some (some (.builtin "object.__class__"))) && (He.eqO (PySem.W.specialIn K (.builtin "object.__class__") "__get__") (some (some (.builtin "getset_descriptor.__get__"))) &&
  (decide (PySem.W.takesIn K (.builtin "object.__class__") = some true) && (decide (PySem.W.mroIn K (He.ga K x) (.type "object") = some true) && decide (PySem.W.kitOne K (.ref (He.ga K x)) (.ref (He.ga K x)) = some true))))
def partsK : List (Str × He.Dv) := [("write", .int 4), ("cover", .int 2), ("branch", .int 2), ("begin", .int 3)]
def hts : List He.Tab := [(fun K => He.ga K "PARTS", ["write", "cover", "branch", "begin", "step", "stop"])]
def hex (K : PySem.W.Frag) : Bool := insB K "Book" && ((K.lookup sysModules).isSome && (He.valsB K (He.ga K "PARTS") partsK && (He.tupB K "KINDS" [.str "down", .str "up"] && (He.tupB K "UPS" [.str "one", .str "late", .str "blind"] && (He.tupB K "DOWNS" [.str "one", .str "two"] && (He.tupB K "WRITES" [.str "plain", .str "both", .str "again", .str "behind", .str "refused"] && (He.tupB K "MOVES" [.str "now", .str "first"] && (He.tupB K "FINISHES" [.str "one", .str "link", .str "cut"] && (He.tupB K "COUNTS" [.str "last", .str "first", .str "never"] && (He.tupB K "BARS" [.str "cover", .str "lower", .str "open", .str "others", .str "upper"] && (He.tupB K "NOTES" [.str "again", .str "job", .str "place"])))))))))))
end K20W
namespace K20H
open PySem PySem.W PySem.Calls PyProof.Rows
abbrev R : OpenRow := OpenLaw.row PySem.Challenge.rw_whilemerged_k20_whole_jobs_apart
abbrev qv : Program := view R.prog [80]
def names0 : List PySem.Str := ["_wall", "MergeError", "BadBook", "NoCell", "NoWriter", "NoLayer", "NoJob", "NoKind", "BadValue", "OpenLayer", "NoBase", "Busy", "Barred", "Lost", "BadDeed", "BadNumber", "KINDS", "UPS", "DOWNS", "WRITES"]
def names1 : List PySem.Str := ["MOVES", "FINISHES", "COUNTS", "BARS", "NOTES", "is_number", "is_kind", "need_kind", "need_book", "need_word", "need_words", "Book", "Job", "has_linked", "is_twofold", "looked", "give", "copy_on", "write_beside", "MOST_CELLS"]
def names2 : List PySem.Str := ["MOST_VALUE", "PARTS", "is_deed", "answered", "Yard", "_law_begun", "_law_mixed", "_law_take", "_law_pick", "_law_is_number", "_law_drawn_fields", "_law_book", "_law_new_sheet", "_law_copy_of", "_law_shown", "_law_wrong", "_law_above", "_law_is_open", "_law_has", "_law_writer_refusal"]
def names3 : List PySem.Str := ["_law_layer_refusal", "_law_refusal", "_law_merging", "_law_put_on", "_law_written", "_law_copied", "_law_linked", "_law_cut", "_law_stepped", "_law_stopped", "_law_begins", "_law_done", "_law_shows", "_law_grown", "_law_exchanged"]
def names : List PySem.Str := names0 ++ names1 ++ names2 ++ names3
abbrev hk : PySem.W.Hook := K20W.hookM 5 K20W.hfa K20W.hfn K20W.hts K20W.hps K20W.hex
def ob (s : PySem.W.SharedT) : K20W.AlM := K20W.obsM 5 K20W.hfa K20W.hfn K20W.hts K20W.hps K20W.hex (HandSHeadRun.getT s)
theorem ob_eq (s : PySem.W.SharedT) : ob s = hk.obs s.abs := K20W.obsM_eq (HandSHeadRun.getT_eq s)
end K20H
end
/-! H1 -/
section
set_option Elab.async false
set_option linter.all false
set_option maxRecDepth 100000
set_option maxHeartbeats 0
/-! The run of the top. -/
namespace K20H
open PySem PySem.W PySem.Calls PyProof.Rows
theorem seeF (w : World) : HandSHeadRun.RunEq R qv Hook.none (fun _ => ()) 60000 names (w.withFollow "special-get-raises" false) := by
  intro os
  kernel_rfl
theorem seeT (w : World) : HandSHeadRun.RunEq R qv Hook.none (fun _ => ()) 60000 names (w.withFollow "special-get-raises" true) := by
  intro os
  kernel_rfl
theorem see (w : World) : HandSHeadRun.RunEq R qv Hook.none (fun _ => ()) 60000 names w :=
  byRow2 "special-get-raises" (P := fun w => HandSHeadRun.RunEq R qv Hook.none (fun _ => ()) 60000 names w) seeF seeT w
end K20H
end
/-! H2 -/
section
set_option Elab.async false
set_option linter.all false
set_option maxRecDepth 100000
set_option maxHeartbeats 0
/-! What the Hook reads behind the top. -/
namespace K20H
open PySem PySem.W PySem.Calls PyProof.Rows
def obEq (w : World) : Prop := ∀ os : OsState, (HandSHeadRun.endF (HandSHeadRun.stepQ (HandSHeadRun.denQ HandSHeadRun.tabQ) R.prog w) 60000 R.prog w os).map ob = some (hk.val w)
theorem obF (w : World) : obEq (w.withFollow "special-get-raises" false) := by
  intro os
  kernel_rfl
theorem obT (w : World) : obEq (w.withFollow "special-get-raises" true) := by
  intro os
  kernel_rfl
theorem obA (w : World) : obEq w := byRow2 "special-get-raises" (P := obEq) obF obT w
theorem run (w : World) : HandSHeadRun.RunEq R qv hk ob 60000 names w := by
  intro os
  have h1 := see w os
  have h2 := obA w os
  unfold obEq at h2
  generalize HandSHeadRun.endF (HandSHeadRun.stepQ (HandSHeadRun.denQ HandSHeadRun.tabQ) R.prog w) 60000 R.prog w os = x at h1 h2 ⊢
  cases x with
  | none => cases h2
  | some s =>
    have e1 := Option.some.inj h1
    have e2 : ob s = hk.val w := Option.some.inj h2
    show some (_, _, ob s) = some (_, _, _)
    rw [e2]
    have a1 := congrArg Prod.fst e1
    have a2 := congrArg (fun z => z.2.1) e1
    exact congrArg some (Prod.ext a1 (Prod.ext a2 rfl))
end K20H
end
/-! Model -/
section
set_option linter.all false
set_option autoImplicit false
/-! The plain model of a yard: what the program and the law's own sheet both hold; one step of a job; two steps of different jobs commute. -/
namespace K20

/-! ### small tables -/
abbrev Row := List (Int × Int)
def get (l : Row) (c : Int) : Option Int := (l.find? fun p => decide (p.1 = c)).map (·.2)
def put (l : Row) (c v : Int) : Row :=
  if (l.any fun p => decide (p.1 = c)) = true then l.map (fun p => if p.1 = c then (p.1, v) else p) else l ++ [(c, v)]
def has (l : Row) (c : Int) : Bool := (get l c).isSome
def fupd {α : Type} (f : Int → α) (k : Int) (v : α) : Int → α := fun x => if x = k then v else f x
theorem fupd_same {α : Type} {f : Int → α} {k : Int} {v : α} : fupd f k v k = v := if_pos rfl
theorem fupd_ne {α : Type} {f : Int → α} {k x : Int} {v : α} (h : x ≠ k) : fupd f k v x = f x := if_neg h
theorem fupd_comm {α : Type} {f : Int → α} {k x : Int} {v w : α} (h : x ≠ k) : fupd (fupd f k v) x w = fupd (fupd f x w) k v := by
  funext z
  unfold fupd
  by_cases e : z = x
  · subst e
    rw [if_pos rfl, if_neg h, if_pos rfl]
  · rw [if_neg e]
    by_cases e2 : z = k
    · rw [if_pos e2, if_pos e2]
    · rw [if_neg e2, if_neg e2, if_neg e]
def rng (n : Nat) : List Int := (List.range n).map fun i : Nat => (i : Int)
theorem mem_rng {n : Nat} {x : Int} : x ∈ rng n ↔ 0 ≤ x ∧ x < n := by
  unfold rng
  rw [List.mem_map]
  constructor
  · rintro ⟨i, hi, rfl⟩
    have := List.mem_range.mp hi
    omega
  · rintro ⟨h1, h2⟩
    exact ⟨x.toNat, List.mem_range.mpr (by omega), by omega⟩

/-! ### the state -/
structure Jb where
  up : Int
  lo : Int
  pl : Int
  seen : Option (Int × Option Int)
  half : Bool
  noted : List Int
  free : Bool
/-- the book's choices, for jobs of one kind -/
structure Par where
  dn : Bool
  one : Bool
  blind : Bool
  now : Bool
  lnk : Bool
  cf : Bool
  cl : Bool
  n : Nat
structure Vs where
  m : Nat
  bs : Int → Option Int
  ok : List Int
  ow : Int → Row
  nw : Nat
  se : Int → Int
  co : Int → List Int
  jk : List Int
  jo : Int → Jb
  bg : Nat
/-- the due contents, apart -/
structure Du where
  dk : List Int
  du : Int → List Int
def Du.put (D : Du) (k : Int) (v : List Int) : Du := ⟨if k ∈ D.dk then D.dk else D.dk ++ [k], fupd D.du k v⟩

def above (S : Vs) (x : Int) : List Int := S.ok.filter fun y => decide (S.bs y = some x)
def sitting (S : Vs) (x : Int) : List Int := (rng S.nw).filter fun w => decide (S.se w = x)

/-! ### a step -/
def looked (P : Par) (U L : Row) (c : Int) : Option Int := if P.dn then get U c else if P.blind && has U c then none else get L c
/-- what the upper, the lower layer own behind a gift -/
def gaveU (P : Par) (U : Row) (c : Int) (v : Option Int) : Row := match v with
  | none => U
  | some x => if P.dn then U else if P.blind || !has U c then put U c x else U
def gaveL (P : Par) (L : Row) (c : Int) (v : Option Int) : Row := match v with
  | none => L
  | some x => if P.dn then put L c x else L
inductive Wd where
  | copy | look | put | link | cut | both
  deriving DecidableEq
def copies (P : Par) (J : Jb) : Bool := J.seen.isSome || decide (J.pl < P.n)
/-- the word of a step -/
def wordOf (P : Par) (J : Jb) : Wd := match J.seen with
  | some _ => .put
  | none => if J.pl < P.n then (if P.one then .copy else .look) else if P.lnk then (if J.half then .cut else .link) else .both
def copiedJ (P : Par) (J : Jb) (U L : Row) : Jb := match J.seen with
  | some _ => { J with seen := none, pl := J.pl + 1 }
  | none => if P.one then { J with pl := J.pl + 1 } else { J with seen := some (J.pl, looked P U L J.pl) }
def copiedU (P : Par) (J : Jb) (U L : Row) : Row := match J.seen with
  | some (c, v) => gaveU P U c v
  | none => if P.one then gaveU P U J.pl (looked P U L J.pl) else U
def copiedL (P : Par) (J : Jb) (U L : Row) : Row := match J.seen with
  | some (c, v) => gaveL P L c v
  | none => if P.one then gaveL P L J.pl (looked P U L J.pl) else L
def two (f : Int → Row) (u l : Int) (U L : Row) : Int → Row := fun x => if x = u then U else if x = l then L else f x
def copyS (P : Par) (S : Vs) (i : Int) : Vs :=
  { S with
    ow := two S.ow (S.jo i).up (S.jo i).lo (copiedU P (S.jo i) (S.ow (S.jo i).up) (S.ow (S.jo i).lo)) (copiedL P (S.jo i) (S.ow (S.jo i).up) (S.ow (S.jo i).lo))
    jo := fupd S.jo i (copiedJ P (S.jo i) (S.ow (S.jo i).up) (S.ow (S.jo i).lo)) }
def moved (P : Par) (S : Vs) (J : Jb) (y : Int) : Bool := decide (y ∈ S.ok) && (decide (S.bs y = some J.up) && (P.now || decide (y ∈ J.noted)))
def linkS (P : Par) (S : Vs) (J : Jb) : Vs :=
  if P.dn then { S with bs := fun y => if moved P S J y then some J.lo else S.bs y, se := fun w => if S.se w = J.up then J.lo else S.se w }
  else { S with bs := fupd S.bs J.up (S.bs J.lo) }
def linkD (P : Par) (S : Vs) (D : Du) (J : Jb) : Du :=
  if P.dn then (match sitting S J.up with
    | [] => D.put J.lo (D.du J.up)
    | w :: _ => D.put J.up (S.co w))
  else D
def freeOf (P : Par) (S : Vs) (J : Jb) : Bool := if P.cf then J.free else P.cl && ((above S J.lo).filter fun y => decide (y ≠ J.up)).isEmpty
def goneOf (P : Par) (S : Vs) (J : Jb) : Option Int := if P.dn then some J.up else if freeOf P S J then some J.lo else none
def cutS (P : Par) (S : Vs) (J : Jb) : Vs := { S with ok := S.ok.filter fun y => decide (some y ≠ goneOf P S J) }
def dropJ (S : Vs) (i : Int) : Vs := { S with jk := S.jk.filter fun j => decide (j ≠ i) }
def halfJ (S : Vs) (i : Int) : Vs := { S with jo := fupd S.jo i { S.jo i with half := true } }
def stepS (P : Par) (S : Vs) (i : Int) : Vs :=
  if copies P (S.jo i) then copyS P S i
  else if P.lnk then (if (S.jo i).half then dropJ (cutS P S (S.jo i)) i else halfJ (linkS P S (S.jo i)) i)
  else dropJ (cutS P (linkS P S (S.jo i)) (S.jo i)) i
def stepD (P : Par) (S : Vs) (D : Du) (i : Int) : Du :=
  if copies P (S.jo i) then D else if P.lnk && (S.jo i).half then D else linkD P S D (S.jo i)

/-! ### what cells show -/
def shown (S : Vs) (c : Int) : Nat → Option Int → Option Int
  | 0, _ => none
  | _ + 1, none => some 0
  | k + 1, some x => if x ∈ S.ok then (match get (S.ow x) c with
    | some v => some v
    | none => shown S c k (S.bs x)) else none
def reads (S : Vs) (w c : Int) : Option Int := shown S c (S.m + 2) (some (S.se w))
def wrongIn (S : Vs) (w : Int) (n : Nat) : Option (Int × Int) := (rng n).findSome? fun c => if reads S w c = (S.co w)[c.toNat]? then none else some (w, c)
def wrong (S : Vs) (n : Nat) : Option (Int × Int) := (rng S.nw).findSome? fun w => wrongIn S w n

/-! ### what holds of a yard in which jobs run -/
structure JobOk (P : Par) (S : Vs) (D : Du) (J : Jb) : Prop where
  uo : J.up ∈ S.ok
  lo : J.lo ∈ S.ok
  ne : J.up ≠ J.lo
  bd : P.dn = true → S.bs J.up = some J.lo
  bu : P.dn = false → S.bs J.up = if J.half then S.bs J.lo else some J.lo
  du : P.dn = true → J.half = false → (∀ (w : Int), 0 ≤ w → w < S.nw → S.se w ≠ J.up) → J.up ∈ D.dk
  sn : ∀ (c : Int) (v : Option Int), J.seen = some (c, v) → P.one = false ∧ 0 ≤ c ∧ c < P.n
  sb : ∀ (c v : Int), J.seen = some (c, some v) → 0 ≤ v ∧ v ≤ 1000
  pl0 : 0 ≤ J.pl
  pl1 : J.pl ≤ P.n
  sp : J.seen.isSome = true → J.pl < P.n
  hf : J.half = true → P.lnk = true
/-- two jobs share no layer -/
structure Apart (J K : Jb) : Prop where
  uu : J.up ≠ K.up
  ul : J.up ≠ K.lo
  lu : J.lo ≠ K.up
  ll : J.lo ≠ K.lo
theorem Apart.symm {J K : Jb} (h : Apart J K) : Apart K J := ⟨fun e => h.uu e.symm, fun e => h.lu e.symm, fun e => h.ul e.symm, fun e => h.ll e.symm⟩
structure RowOk (n : Nat) (l : Row) : Prop where
  nd : (l.map (·.1)).Nodup
  ks : ∀ p ∈ l, 0 ≤ p.1 ∧ p.1 < n
  vs : ∀ p ∈ l, 0 ≤ p.2 ∧ p.2 ≤ 1000
structure Base (n : Nat) (S : Vs) : Prop where
  m0 : 1 ≤ S.m
  m14 : S.m ≤ 20
  w0 : 1 ≤ S.nw
  w14 : S.nw ≤ 20
  os : S.ok.Pairwise (· < ·)
  oi : ∀ x ∈ S.ok, 0 ≤ x ∧ x < S.m
  bl : ∀ (x b : Int), 0 ≤ x → x < S.m → S.bs x = some b → 0 ≤ b ∧ b < x
  sr : ∀ (w : Int), 0 ≤ w → w < S.nw → 0 ≤ S.se w ∧ S.se w < S.m
  cl : ∀ (w : Int), 0 ≤ w → w < S.nw → (S.co w).length = n
  cb : ∀ (w : Int), 0 ≤ w → w < S.nw → ∀ v ∈ S.co w, 0 ≤ v ∧ v ≤ 1000
  ro : ∀ x ∈ S.ok, RowOk n (S.ow x)
  b20 : S.bg ≤ 20
  jn : S.jk.Pairwise (· < ·)
  ji : ∀ i ∈ S.jk, 0 ≤ i ∧ i < S.bg
structure Good (P : Par) (S : Vs) (D : Du) : Prop where
  ba : Base P.n S
  jb : ∀ i ∈ S.jk, JobOk P S D (S.jo i)
  ap : ∀ i ∈ S.jk, ∀ j ∈ S.jk, i ≠ j → Apart (S.jo i) (S.jo j)
  dn : D.dk.Nodup
  dr : ∀ x ∈ D.dk, 0 ≤ x ∧ x < S.m
end K20
end
/-! Comm -/
section
set_option linter.all false
set_option autoImplicit false
/-! Two steps of different jobs commute, up to the due contents. -/
namespace K20

theorem Vs.ext {S T : Vs} (h1 : S.m = T.m) (h2 : S.bs = T.bs) (h3 : S.ok = T.ok) (h4 : S.ow = T.ow) (h5 : S.nw = T.nw) (h6 : S.se = T.se) (h7 : S.co = T.co) (h8 : S.jk = T.jk) (h9 : S.jo = T.jo) (h10 : S.bg = T.bg) : S = T := by
  cases S
  cases T
  simp only at h1 h2 h3 h4 h5 h6 h7 h8 h9 h10
  subst h1 h2 h3 h4 h5 h6 h7 h8 h9 h10
  rfl

section
variable {P : Par} {S : Vs} {D : Du} {i j : Int}

/-- what two jobs lean on, to commute -/
structure Sep (P : Par) (S : Vs) (J K : Jb) : Prop where
  ap : Apart J K
  nJ : J.up ≠ J.lo
  nK : K.up ≠ K.lo
  uJ : J.up ∈ S.ok
  uK : K.up ∈ S.ok
  lJ : P.dn = false → J.lo ∈ S.ok
  lK : P.dn = false → K.lo ∈ S.ok
  dJ : P.dn = true → S.bs J.up = some J.lo
  dK : P.dn = true → S.bs K.up = some K.lo
  pJ : P.dn = false → S.bs J.up = some J.lo ∨ S.bs J.up = S.bs J.lo
  pK : P.dn = false → S.bs K.up = some K.lo ∨ S.bs K.up = S.bs K.lo
theorem Sep.symm {J K : Jb} (h : Sep P S J K) : Sep P S K J := ⟨h.ap.symm, h.nK, h.nJ, h.uK, h.uJ, h.lK, h.lJ, h.dK, h.dJ, h.pK, h.pJ⟩

theorem link_up (hd : P.dn = false) (J : Jb) : linkS P S J = { S with bs := fupd S.bs J.up (S.bs J.lo) } := by
  unfold linkS
  rw [hd]
  rfl
theorem link_dn (hd : P.dn = true) (J : Jb) : linkS P S J = { S with bs := fun y => if moved P S J y then some J.lo else S.bs y, se := fun w => if S.se w = J.up then J.lo else S.se w } := by
  unfold linkS
  rw [hd]
  rfl

/-- linking keeps what two jobs lean on -/
theorem Sep.link {J K : Jb} (h : Sep P S J K) : Sep P (linkS P S J) J K := by
  have e : (linkS P S J).ok = S.ok := by
    unfold linkS
    split <;> rfl
  refine ⟨h.ap, h.nJ, h.nK, by rw [e]; exact h.uJ, by rw [e]; exact h.uK, by rw [e]; exact h.lJ, by rw [e]; exact h.lK, fun hd => ?_, fun hd => ?_, fun hd => ?_, fun hd => ?_⟩
  · rw [link_dn hd]
    show (if moved P S J J.up then some J.lo else S.bs J.up) = some J.lo
    split
    · rfl
    · exact h.dJ hd
  · rw [link_dn hd]
    show (if moved P S J K.up then some J.lo else S.bs K.up) = some K.lo
    have : moved P S J K.up = false := by
      unfold moved
      rw [h.dK hd]
      have : ¬ (some K.lo = some J.up) := fun e => h.ap.symm.lu (Option.some.inj e)
      simp [this]
    rw [this]
    exact h.dK hd
  · right
    rw [link_up hd]
    show fupd S.bs J.up (S.bs J.lo) J.up = fupd S.bs J.up (S.bs J.lo) J.lo
    rw [fupd_same, fupd_ne h.nJ.symm]
  · rw [link_up hd]
    show fupd S.bs J.up (S.bs J.lo) K.up = some K.lo ∨ fupd S.bs J.up (S.bs J.lo) K.up = fupd S.bs J.up (S.bs J.lo) K.lo
    rw [fupd_ne h.ap.uu.symm, fupd_ne h.ap.ul.symm]
    exact h.pK hd
theorem cut_ok (J : Jb) {y : Int} (hy : y ∈ S.ok) (h : y ≠ J.up ∨ P.dn = false) (h2 : y ≠ J.lo ∨ P.dn = true) : y ∈ (cutS P S J).ok := by
  show y ∈ S.ok.filter fun y => decide (some y ≠ goneOf P S J)
  refine List.mem_filter.mpr ⟨hy, decide_eq_true ?_⟩
  unfold goneOf
  cases hd : P.dn with
  | true =>
    rw [if_pos rfl]
    rcases h with h | h
    · exact fun e => h (Option.some.inj e)
    · rw [hd] at h
      cases h
  | false =>
    rw [if_neg (by simp)]
    rcases h2 with h2 | h2
    · split
      · exact fun e => h2 (Option.some.inj e)
      · simp
    · rw [hd] at h2
      cases h2

/-! ### linking commutes with linking -/
theorem link_link {J K : Jb} (h : Sep P S J K) : linkS P (linkS P S J) K = linkS P (linkS P S K) J := by
  cases hd : P.dn with
  | false =>
    rw [link_up hd, link_up hd, link_up hd, link_up hd]
    refine Vs.ext rfl ?_ rfl rfl rfl rfl rfl rfl rfl rfl
    show fupd (fupd S.bs J.up (S.bs J.lo)) K.up (fupd S.bs J.up (S.bs J.lo) K.lo) = fupd (fupd S.bs K.up (S.bs K.lo)) J.up (fupd S.bs K.up (S.bs K.lo) J.lo)
    rw [fupd_ne (x := K.lo) (fun e => h.ap.ul e.symm), fupd_ne (x := J.lo) h.ap.lu]
    exact fupd_comm fun e => h.ap.uu e.symm
  | true =>
    have m1 : ∀ {A B : Jb}, Apart A B → ∀ y, moved P { S with bs := fun y => if moved P S A y then some A.lo else S.bs y, se := fun w => if S.se w = A.up then A.lo else S.se w } B y = moved P S B y := by
      intro A B ap y
      unfold moved
      show (decide (y ∈ S.ok) && (decide ((if moved P S A y = true then some A.lo else S.bs y) = some B.up) && (P.now || decide (y ∈ B.noted)))) = _
      by_cases hm : moved P S A y = true
      · rw [if_pos hm]
        have hb : S.bs y = some A.up := by
          unfold moved at hm
          simp only [Bool.and_eq_true, decide_eq_true_eq] at hm
          exact hm.2.1
        have e1 : ¬ (some A.lo = some B.up) := fun e => ap.lu (Option.some.inj e)
        have e2 : ¬ (S.bs y = some B.up) := fun e => ap.uu (Option.some.inj (hb.symm.trans e))
        simp [e1, e2]
      · rw [if_neg hm]
    have nb : ∀ y, moved P S J y = true → moved P S K y = true → False := by
      intro y a b
      unfold moved at a b
      simp only [Bool.and_eq_true, decide_eq_true_eq] at a b
      exact h.ap.uu (Option.some.inj (a.2.1.symm.trans b.2.1))
    rw [link_dn hd, link_dn hd, link_dn hd, link_dn hd]
    refine Vs.ext rfl ?_ rfl rfl rfl ?_ rfl rfl rfl rfl
    · funext y
      show (if moved P _ K y = true then some K.lo else if moved P S J y = true then some J.lo else S.bs y) = (if moved P _ J y = true then some J.lo else if moved P S K y = true then some K.lo else S.bs y)
      rw [m1 h.ap, m1 h.ap.symm]
      by_cases a : moved P S J y = true
      · by_cases b : moved P S K y = true
        · exact (nb y a b).elim
        · rw [if_pos a, if_pos a, if_neg b]
      · rw [if_neg a, if_neg a]
    · funext x
      show (if (if S.se x = J.up then J.lo else S.se x) = K.up then K.lo else if S.se x = J.up then J.lo else S.se x) = (if (if S.se x = K.up then K.lo else S.se x) = J.up then J.lo else if S.se x = K.up then K.lo else S.se x)
      by_cases a : S.se x = J.up
      · have b : ¬ S.se x = K.up := fun e => h.ap.uu (a.symm.trans e)
        rw [if_pos a, if_neg h.ap.lu, if_neg b, if_pos a]
      · rw [if_neg a]
        by_cases b : S.se x = K.up
        · rw [if_pos b, if_neg h.ap.symm.lu]
        · rw [if_neg b, if_neg a]

/-! ### what is cut -/
/-- whether others are above the lower layer -/
def others (S : Vs) (J : Jb) : Prop := ∃ y ∈ S.ok, S.bs y = some J.lo ∧ y ≠ J.up
theorem others_iff (J : Jb) : ((above S J.lo).filter fun y => decide (y ≠ J.up)).isEmpty = true ↔ ¬ others S J := by
  unfold above others
  rw [List.isEmpty_iff, List.filter_filter, List.filter_eq_nil_iff]
  constructor
  · rintro h ⟨y, h1, h2, h3⟩
    exact h y h1 (by simp [h2, h3])
  · intro h y h1 h2
    simp only [Bool.and_eq_true, decide_eq_true_eq] at h2
    exact h ⟨y, h1, h2.2, h2.1⟩
theorem gone_congr {S' : Vs} {J : Jb} (h : P.dn = false → (others S J ↔ others S' J)) : goneOf P S J = goneOf P S' J := by
  unfold goneOf
  cases hd : P.dn with
  | true => rfl
  | false =>
    have e : freeOf P S J = freeOf P S' J := by
      unfold freeOf
      have : ((above S J.lo).filter fun y => decide (y ≠ J.up)).isEmpty = ((above S' J.lo).filter fun y => decide (y ≠ J.up)).isEmpty := by
        rw [Bool.eq_iff_iff, others_iff, others_iff, h hd]
      rw [this]
    rw [e]
theorem gone_lo (hd : P.dn = false) {J : Jb} {y : Int} (h : some y = goneOf P S J) : y = J.lo := by
  unfold goneOf at h
  rw [if_neg (by simp [hd])] at h
  split at h
  · exact Option.some.inj h
  · cases h

/-- linking another job does not change what is cut (kind up) -/
theorem others_link {J K : Jb} (h : Sep P S J K) (hd : P.dn = false) : others S J ↔ others (linkS P S K) J := by
  rw [link_up hd]
  have hK := h.lK hd
  constructor
  · rintro ⟨y, h1, h2, h3⟩
    by_cases e : y = K.up
    · subst e
      rcases h.pK hd with q | q
      · rw [q] at h2
        exact (h.ap.ll (Option.some.inj h2).symm).elim
      · refine ⟨K.up, h1, ?_, h3⟩
        show fupd S.bs K.up (S.bs K.lo) K.up = _
        rw [fupd_same, ← q]
        exact h2
    · exact ⟨y, h1, by show fupd S.bs K.up (S.bs K.lo) y = _; rw [fupd_ne e]; exact h2, h3⟩
  · rintro ⟨y, h1, h2, h3⟩
    by_cases e : y = K.up
    · subst e
      have h2 : fupd S.bs K.up (S.bs K.lo) K.up = some J.lo := h2
      rw [fupd_same] at h2
      exact ⟨K.lo, hK, h2, fun z => h.ap.ul z.symm⟩
    · have h2 : fupd S.bs K.up (S.bs K.lo) y = some J.lo := h2
      rw [fupd_ne e] at h2
      exact ⟨y, h1, h2, h3⟩
/-- nor does cutting another one that has linked -/
theorem others_cut {J K : Jb} (h : Sep P S J K) (hd : P.dn = false) (hl : S.bs K.up = S.bs K.lo) : others S J ↔ others (cutS P S K) J := by
  constructor
  · rintro ⟨y, h1, h2, h3⟩
    by_cases e : y = K.lo
    · subst e
      exact ⟨K.up, cut_ok K h.uK (.inr hd) (.inl h.nK), hl.trans h2, fun z => h.ap.uu z.symm⟩
    · refine ⟨y, List.mem_filter.mpr ⟨h1, decide_eq_true fun q => e (gone_lo hd q)⟩, h2, h3⟩
  · rintro ⟨y, h1, h2, h3⟩
    exact ⟨y, (List.mem_filter.mp h1).1, h2, h3⟩
theorem cut_cut {J K : Jb} (h : Sep P S J K) (lJ : P.dn = false → S.bs J.up = S.bs J.lo) (lK : P.dn = false → S.bs K.up = S.bs K.lo) : cutS P (cutS P S J) K = cutS P (cutS P S K) J := by
  refine Vs.ext rfl rfl ?_ rfl rfl rfl rfl rfl rfl rfl
  show (S.ok.filter _).filter (fun y => decide (some y ≠ goneOf P (cutS P S J) K)) = (S.ok.filter _).filter (fun y => decide (some y ≠ goneOf P (cutS P S K) J))
  rw [← gone_congr (S := S) (S' := cutS P S J) (J := K) fun hd => others_cut h.symm hd (lJ hd), ← gone_congr (S := S) (S' := cutS P S K) (J := J) fun hd => others_cut h hd (lK hd)]
  rw [List.filter_filter, List.filter_filter]
  congr 1
  funext y
  exact Bool.and_comm _ _
theorem link_cut {J K : Jb} (h : Sep P S J K) : linkS P (cutS P S K) J = cutS P (linkS P S J) K := by
  cases hd : P.dn with
  | false =>
    have e : goneOf P S K = goneOf P (linkS P S J) K := gone_congr fun hd => others_link h.symm hd
    unfold cutS
    rw [← e, link_up hd, link_up hd]
  | true =>
    have e : ∀ T : Vs, goneOf P T K = some K.up := fun T => by
      unfold goneOf
      rw [hd]
      rfl
    have hm : ∀ y, moved P (cutS P S K) J y = moved P S J y := by
      intro y
      unfold moved
      show (decide (y ∈ S.ok.filter fun y => decide (some y ≠ goneOf P S K)) && (decide (S.bs y = some J.up) && _)) = _
      rw [e S]
      by_cases q : y = K.up
      · have : ¬ (S.bs y = some J.up) := fun z => by
          rw [q, h.dK hd] at z
          exact h.ap.symm.lu (Option.some.inj z)
        simp [this]
      · have : (decide (y ∈ S.ok.filter fun y => decide (some y ≠ some K.up))) = decide (y ∈ S.ok) := by
          rw [decide_eq_decide, List.mem_filter]
          simp [q]
        rw [this]
    have hm2 : (moved P (cutS P S K) J) = moved P S J := funext hm
    rw [link_dn hd, link_dn hd, hm2]
    unfold cutS
    rw [e, e]
end
end K20
end
/-! Step -/
section
set_option linter.all false
set_option autoImplicit false
/-! Steps of different jobs commute; what a step keeps. -/
namespace K20
section
variable {P : Par} {S : Vs} {D : Du} {i j : Int}

theorem two_two {f : Int → Row} {u l v k : Int} {A B C E : Row} (h1 : u ≠ v) (h2 : u ≠ k) (h3 : l ≠ v) (h4 : l ≠ k) : two (two f u l A B) v k C E = two (two f v k C E) u l A B := by
  funext x
  unfold two
  by_cases e1 : x = u
  · subst e1
    rw [if_neg h1, if_neg h2, if_pos rfl, if_pos rfl]
  · by_cases e2 : x = l
    · subst e2
      rw [if_neg h3, if_neg h4, if_neg e1, if_pos rfl, if_neg e1, if_pos rfl]
    · rw [if_neg e1, if_neg e2, if_neg e1, if_neg e2]
theorem two_ne {f : Int → Row} {u l x : Int} {A B : Row} (h1 : x ≠ u) (h2 : x ≠ l) : two f u l A B x = f x := by
  unfold two
  rw [if_neg h1, if_neg h2]

theorem copy_jo (ne : j ≠ i) : (copyS P S i).jo j = S.jo j := fupd_ne ne
theorem link_jo (J : Jb) : (linkS P S J).jo = S.jo := by
  unfold linkS
  split <;> rfl
theorem half_jo (ne : j ≠ i) : (halfJ S i).jo j = S.jo j := fupd_ne ne
theorem step_jo (ne : j ≠ i) : (stepS P S i).jo j = S.jo j := by
  unfold stepS
  split
  · exact copy_jo ne
  · split
    · split
      · rfl
      · rw [half_jo ne, link_jo]
    · show (linkS P S (S.jo i)).jo j = _
      rw [link_jo]

theorem copy_copy (h : Apart (S.jo i) (S.jo j)) (ne : i ≠ j) : copyS P (copyS P S i) j = copyS P (copyS P S j) i := by
  have a1 : (copyS P S i).jo j = S.jo j := copy_jo (Ne.symm ne)
  have a2 : (copyS P S j).jo i = S.jo i := copy_jo ne
  have b1 : (copyS P S i).ow (S.jo j).up = S.ow (S.jo j).up := two_ne h.uu.symm h.lu.symm
  have b2 : (copyS P S i).ow (S.jo j).lo = S.ow (S.jo j).lo := two_ne h.ul.symm h.ll.symm
  have b3 : (copyS P S j).ow (S.jo i).up = S.ow (S.jo i).up := two_ne h.uu h.ul
  have b4 : (copyS P S j).ow (S.jo i).lo = S.ow (S.jo i).lo := two_ne h.lu h.ll
  refine Vs.ext rfl rfl rfl ?_ rfl rfl rfl rfl ?_ rfl
  · show two (copyS P S i).ow ((copyS P S i).jo j).up ((copyS P S i).jo j).lo (copiedU P ((copyS P S i).jo j) ((copyS P S i).ow ((copyS P S i).jo j).up) ((copyS P S i).ow ((copyS P S i).jo j).lo)) (copiedL P ((copyS P S i).jo j) ((copyS P S i).ow ((copyS P S i).jo j).up) ((copyS P S i).ow ((copyS P S i).jo j).lo)) = two (copyS P S j).ow ((copyS P S j).jo i).up ((copyS P S j).jo i).lo (copiedU P ((copyS P S j).jo i) ((copyS P S j).ow ((copyS P S j).jo i).up) ((copyS P S j).ow ((copyS P S j).jo i).lo)) (copiedL P ((copyS P S j).jo i) ((copyS P S j).ow ((copyS P S j).jo i).up) ((copyS P S j).ow ((copyS P S j).jo i).lo))
    rw [a1, a2, b1, b2, b3, b4]
    exact two_two h.uu h.ul h.lu h.ll
  · show fupd (copyS P S i).jo j (copiedJ P ((copyS P S i).jo j) ((copyS P S i).ow ((copyS P S i).jo j).up) ((copyS P S i).ow ((copyS P S i).jo j).lo)) = fupd (copyS P S j).jo i (copiedJ P ((copyS P S j).jo i) ((copyS P S j).ow ((copyS P S j).jo i).up) ((copyS P S j).ow ((copyS P S j).jo i).lo))
    rw [a1, a2, b1, b2, b3, b4]
    exact fupd_comm (Ne.symm ne)
theorem copy_link (K : Jb) : copyS P (linkS P S K) i = linkS P (copyS P S i) K := by
  unfold linkS
  split <;> rfl
theorem copy_cut (K : Jb) : copyS P (cutS P S K) i = cutS P (copyS P S i) K := rfl
theorem copy_drop : copyS P (dropJ S j) i = dropJ (copyS P S i) j := rfl
theorem copy_half (ne : i ≠ j) : copyS P (halfJ S j) i = halfJ (copyS P S i) j := by
  have a : (halfJ S j).jo i = S.jo i := half_jo ne
  have b : (copyS P S i).jo j = S.jo j := copy_jo (Ne.symm ne)
  refine Vs.ext rfl rfl rfl ?_ rfl rfl rfl rfl ?_ rfl
  · show two S.ow ((halfJ S j).jo i).up ((halfJ S j).jo i).lo (copiedU P ((halfJ S j).jo i) (S.ow ((halfJ S j).jo i).up) (S.ow ((halfJ S j).jo i).lo)) (copiedL P ((halfJ S j).jo i) (S.ow ((halfJ S j).jo i).up) (S.ow ((halfJ S j).jo i).lo)) = two S.ow (S.jo i).up (S.jo i).lo (copiedU P (S.jo i) (S.ow (S.jo i).up) (S.ow (S.jo i).lo)) (copiedL P (S.jo i) (S.ow (S.jo i).up) (S.ow (S.jo i).lo))
    rw [a]
  · show fupd (fupd S.jo j _) i (copiedJ P ((halfJ S j).jo i) (S.ow ((halfJ S j).jo i).up) (S.ow ((halfJ S j).jo i).lo)) = fupd (fupd S.jo i _) j { (copyS P S i).jo j with half := true }
    rw [a, b]
    exact fupd_comm ne
theorem link_drop (K : Jb) : linkS P (dropJ S i) K = dropJ (linkS P S K) i := by
  unfold linkS
  split <;> rfl
theorem link_half (K : Jb) : linkS P (halfJ S i) K = halfJ (linkS P S K) i := by
  unfold linkS
  split <;> rfl
theorem drop_drop : dropJ (dropJ S i) j = dropJ (dropJ S j) i := by
  refine Vs.ext rfl rfl rfl rfl rfl rfl rfl ?_ rfl rfl
  show (S.jk.filter _).filter _ = (S.jk.filter _).filter _
  rw [List.filter_filter, List.filter_filter]
  congr 1
  funext y
  exact Bool.and_comm _ _
theorem half_half (ne : i ≠ j) : halfJ (halfJ S i) j = halfJ (halfJ S j) i := by
  refine Vs.ext rfl rfl rfl rfl rfl rfl rfl rfl ?_ rfl
  show fupd (fupd S.jo i _) j { (halfJ S i).jo j with half := true } = fupd (fupd S.jo j _) i { (halfJ S j).jo i with half := true }
  rw [half_jo (Ne.symm ne), half_jo ne]
  exact fupd_comm (Ne.symm ne)

/-- TWO STEPS OF DIFFERENT JOBS COMMUTE -/
theorem step_comm (h : Sep P S (S.jo i) (S.jo j)) (ne : i ≠ j) (li : P.dn = false → (S.jo i).half = true → S.bs (S.jo i).up = S.bs (S.jo i).lo) (lj : P.dn = false → (S.jo j).half = true → S.bs (S.jo j).up = S.bs (S.jo j).lo) :
    stepS P (stepS P S i) j = stepS P (stepS P S j) i := by
  have e1 : (stepS P S i).jo j = S.jo j := step_jo (Ne.symm ne)
  have e2 : (stepS P S j).jo i = S.jo i := step_jo ne
  have u1 : ∀ T : Vs, T.jo j = S.jo j → stepS P T j = if copies P (S.jo j) then copyS P T j else if P.lnk then (if (S.jo j).half then dropJ (cutS P T (S.jo j)) j else halfJ (linkS P T (S.jo j)) j) else dropJ (cutS P (linkS P T (S.jo j)) (S.jo j)) j := fun T e => by
    unfold stepS
    rw [e]
  have u2 : ∀ T : Vs, T.jo i = S.jo i → stepS P T i = if copies P (S.jo i) then copyS P T i else if P.lnk then (if (S.jo i).half then dropJ (cutS P T (S.jo i)) i else halfJ (linkS P T (S.jo i)) i) else dropJ (cutS P (linkS P T (S.jo i)) (S.jo i)) i := fun T e => by
    unfold stepS
    rw [e]
  rw [u1 _ e1, u2 _ e2, u1 S rfl, u2 S rfl]
  by_cases ci : copies P (S.jo i) = true
  · rw [if_pos ci, if_pos ci]
    by_cases cj : copies P (S.jo j) = true
    · rw [if_pos cj, if_pos cj]
      exact copy_copy h.ap ne
    · rw [if_neg cj, if_neg cj]
      by_cases l : P.lnk = true
      · rw [if_pos l, if_pos l]
        by_cases hj : (S.jo j).half = true
        · rw [if_pos hj, if_pos hj, copy_drop, copy_cut]
        · rw [if_neg hj, if_neg hj, copy_half ne, copy_link]
      · rw [if_neg l, if_neg l, copy_drop, copy_cut, copy_link]
  · rw [if_neg ci, if_neg ci]
    by_cases cj : copies P (S.jo j) = true
    · rw [if_pos cj, if_pos cj]
      by_cases l : P.lnk = true
      · rw [if_pos l, if_pos l]
        by_cases hi : (S.jo i).half = true
        · rw [if_pos hi, if_pos hi, copy_drop, copy_cut]
        · rw [if_neg hi, if_neg hi, copy_half (Ne.symm ne), copy_link]
      · rw [if_neg l, if_neg l, copy_drop, copy_cut, copy_link]
    · rw [if_neg cj, if_neg cj]
      by_cases l : P.lnk = true
      · rw [if_pos l, if_pos l, if_pos l, if_pos l]
        by_cases hi : (S.jo i).half = true
        · rw [if_pos hi, if_pos hi]
          by_cases hj : (S.jo j).half = true
          · rw [if_pos hj, if_pos hj]
            show dropJ (dropJ (cutS P (cutS P S (S.jo i)) (S.jo j)) i) j = dropJ (dropJ (cutS P (cutS P S (S.jo j)) (S.jo i)) j) i
            rw [cut_cut h (fun d => li d hi) (fun d => lj d hj), drop_drop]
          · rw [if_neg hj, if_neg hj, link_drop, link_cut h.symm]
            rfl
        · rw [if_neg hi, if_neg hi]
          by_cases hj : (S.jo j).half = true
          · rw [if_pos hj, if_pos hj, link_drop, link_cut h]
            rfl
          · rw [if_neg hj, if_neg hj, link_half, link_half, link_link h]
            exact half_half ne
      · rw [if_neg l, if_neg l, if_neg l, if_neg l, link_drop, link_drop]
        show dropJ (dropJ (cutS P (linkS P (cutS P (linkS P S (S.jo i)) (S.jo i)) (S.jo j)) (S.jo j)) i) j = dropJ (dropJ (cutS P (linkS P (cutS P (linkS P S (S.jo j)) (S.jo j)) (S.jo i)) (S.jo i)) j) i
        have s1 := h.link
        have s2 := h.symm.link
        have s12 := s1.symm.link
        rw [link_cut s1.symm, link_cut s2.symm, link_link h, drop_drop]
        have hJ : P.dn = false → (linkS P (linkS P S (S.jo j)) (S.jo i)).bs (S.jo i).up = (linkS P (linkS P S (S.jo j)) (S.jo i)).bs (S.jo i).lo := fun hd => by
          rw [link_up hd (S.jo i)]
          show fupd _ _ _ _ = fupd _ _ _ _
          rw [fupd_same, fupd_ne h.nJ.symm]
        have hK : P.dn = false → (linkS P (linkS P S (S.jo j)) (S.jo i)).bs (S.jo j).up = (linkS P (linkS P S (S.jo j)) (S.jo i)).bs (S.jo j).lo := fun hd => by
          rw [← link_link h, link_up hd (S.jo j)]
          show fupd _ _ _ _ = fupd _ _ _ _
          rw [fupd_same, fupd_ne h.nK.symm]
        have s : Sep P (linkS P (linkS P S (S.jo j)) (S.jo i)) (S.jo i) (S.jo j) := by
          rw [← link_link h]
          exact s12.symm
        rw [cut_cut s hJ hK]
end
end K20
end
/-! Keep -/
section
set_option linter.all false
set_option autoImplicit false
/-! A step keeps what holds of a yard. -/
namespace K20

/-! ### rows -/
theorem get_nil {c : Int} : get [] c = none := rfl
theorem get_pos {p : Int × Int} {r : Row} {c : Int} (e : p.1 = c) : get (p :: r) c = some p.2 := by simp [get, List.find?_cons, e]
theorem get_neg {p : Int × Int} {r : Row} {c : Int} (e : ¬ p.1 = c) : get (p :: r) c = get r c := by simp [get, List.find?_cons, e]
theorem get_any (c : Int) : ∀ l : Row, (l.any fun p => decide (p.1 = c)) = (get l c).isSome
  | [] => rfl
  | p :: r => by
    rw [List.any_cons]
    by_cases e : p.1 = c
    · simp only [get_pos e, decide_eq_true e, Bool.true_or, Option.isSome_some]
    · rw [get_neg e, decide_eq_false e, Bool.false_or]
      exact get_any c r
theorem get_mem {l : Row} {c v : Int} (h : get l c = some v) : (c, v) ∈ l := by
  unfold get at h
  obtain ⟨p, hp, e⟩ := Option.map_eq_some_iff.mp h
  have h1 := List.find?_some hp
  have h2 := List.mem_of_find?_eq_some hp
  have h3 : p.1 = c := of_decide_eq_true h1
  rw [← h3, ← e]
  exact h2
theorem put_keys_old {l : Row} {c v : Int} (h : (get l c).isSome = true) : (put l c v).map (·.1) = l.map (·.1) := by
  unfold put
  rw [get_any, if_pos h, List.map_map]
  refine List.map_congr_left fun p _ => ?_
  show (if p.1 = c then (p.1, v) else p).1 = p.1
  split <;> rfl
theorem put_new {l : Row} {c v : Int} (h : (get l c).isSome = false) : put l c v = l ++ [(c, v)] := by
  unfold put
  rw [get_any, if_neg (by rw [h]; simp)]
theorem mem_put {l : Row} {c v : Int} {p : Int × Int} (h : p ∈ put l c v) : p ∈ l ∨ p = (c, v) := by
  unfold put at h
  split at h
  · obtain ⟨q, hq, e⟩ := List.mem_map.mp h
    split at e
    · rename_i z
      right
      rw [← e, z]
    · left
      rw [← e]
      exact hq
  · rcases List.mem_append.mp h with h | h
    · exact .inl h
    · exact .inr (List.mem_singleton.mp h)
theorem RowOk.put {n : Nat} {l : Row} {c v : Int} (h : RowOk n l) (hc : 0 ≤ c ∧ c < n) (hv : 0 ≤ v ∧ v ≤ 1000) : RowOk n (put l c v) := by
  refine ⟨?_, fun p hp => ?_, fun p hp => ?_⟩
  · cases e : (get l c).isSome with
    | true =>
      rw [put_keys_old e]
      exact h.nd
    | false =>
      rw [put_new e, List.map_append]
      refine List.nodup_append.mpr ⟨h.nd, by simp, ?_⟩
      intro a ha b hb
      have hb : b = c := by simpa using hb
      subst hb
      rintro rfl
      obtain ⟨q, hq, eq⟩ := List.mem_map.mp ha
      have : (l.any fun p => decide (p.1 = a)) = true := List.any_eq_true.mpr ⟨q, hq, decide_eq_true eq⟩
      rw [get_any, e] at this
      cases this
  · rcases mem_put hp with hp | rfl
    · exact h.ks p hp
    · exact hc
  · rcases mem_put hp with hp | rfl
    · exact h.vs p hp
    · exact hv

section
variable {P : Par} {S : Vs} {D : Du} {i j : Int}

theorem RowOk.looked {n : Nat} {U L : Row} (hU : RowOk n U) (hL : RowOk n L) {c v : Int} (h : looked P U L c = some v) : 0 ≤ v ∧ v ≤ 1000 := by
  unfold K20.looked at h
  split at h
  · exact hU.vs _ (get_mem h)
  · split at h
    · cases h
    · exact hL.vs _ (get_mem h)
theorem RowOk.gaveU {n : Nat} {U : Row} {c : Int} {v : Option Int} (hU : RowOk n U) (hc : 0 ≤ c ∧ c < n) (hv : ∀ x, v = some x → 0 ≤ x ∧ x ≤ 1000) : RowOk n (gaveU P U c v) := by
  unfold K20.gaveU
  cases v with
  | none => exact hU
  | some x =>
    show RowOk n (if P.dn then U else if P.blind || !has U c then K20.put U c x else U)
    split
    · exact hU
    · split
      · exact hU.put hc (hv x rfl)
      · exact hU
theorem RowOk.gaveL {n : Nat} {L : Row} {c : Int} {v : Option Int} (hL : RowOk n L) (hc : 0 ≤ c ∧ c < n) (hv : ∀ x, v = some x → 0 ≤ x ∧ x ≤ 1000) : RowOk n (gaveL P L c v) := by
  unfold K20.gaveL
  cases v with
  | none => exact hL
  | some x =>
    show RowOk n (if P.dn then K20.put L c x else L)
    split
    · exact hL.put hc (hv x rfl)
    · exact hL
theorem copied_rows {n : Nat} {J : Jb} {U L : Row} (hU : RowOk n U) (hL : RowOk n L) (hs : ∀ c v, J.seen = some (c, v) → (0 ≤ c ∧ c < n) ∧ ∀ x, v = some x → 0 ≤ x ∧ x ≤ 1000) (hp : J.seen = none → 0 ≤ J.pl ∧ J.pl < n) :
    RowOk n (copiedU P J U L) ∧ RowOk n (copiedL P J U L) := by
  unfold copiedU copiedL
  cases e : J.seen with
  | some q =>
    obtain ⟨c, v⟩ := q
    obtain ⟨h1, h2⟩ := hs c v e
    exact ⟨hU.gaveU h1 h2, hL.gaveL h1 h2⟩
  | none =>
    have h1 := hp e
    have h2 : ∀ x, looked P U L J.pl = some x → 0 ≤ x ∧ x ≤ 1000 := fun x h => RowOk.looked hU hL h
    show RowOk n (if P.one then gaveU P U J.pl (looked P U L J.pl) else U) ∧ RowOk n (if P.one then gaveL P L J.pl (looked P U L J.pl) else L)
    split
    · exact ⟨hU.gaveU h1 h2, hL.gaveL h1 h2⟩
    · exact ⟨hU, hL⟩

theorem Good.sep (G : Good P S D) (hi : i ∈ S.jk) (hj : j ∈ S.jk) (ne : i ≠ j) : Sep P S (S.jo i) (S.jo j) := by
  have A := G.jb i hi
  have B := G.jb j hj
  refine ⟨G.ap i hi j hj ne, A.ne, B.ne, A.uo, B.uo, fun _ => A.lo, fun _ => B.lo, A.bd, B.bd, fun hd => ?_, fun hd => ?_⟩
  · have := A.bu hd
    split at this
    · exact .inr this
    · exact .inl this
  · have := B.bu hd
    split at this
    · exact .inr this
    · exact .inl this
/-- TWO STEPS commute in every good yard -/
theorem Good.comm (G : Good P S D) (hi : i ∈ S.jk) (hj : j ∈ S.jk) (ne : i ≠ j) : stepS P (stepS P S i) j = stepS P (stepS P S j) i := by
  refine step_comm (G.sep hi hj ne) ne (fun hd h => ?_) fun hd h => ?_
  · have := (G.jb i hi).bu hd
    rw [if_pos h] at this
    exact this
  · have := (G.jb j hj).bu hd
    rw [if_pos h] at this
    exact this

/-! ### copying keeps -/
theorem Good.copy (G : Good P S D) (hi : i ∈ S.jk) (hc : copies P (S.jo i) = true) : Good P (copyS P S i) D := by
  have A := G.jb i hi
  have up' : ∀ U L, (copiedJ P (S.jo i) U L).up = (S.jo i).up := fun U L => by
    unfold copiedJ
    split
    · rfl
    · split <;> rfl
  have lo' : ∀ U L, (copiedJ P (S.jo i) U L).lo = (S.jo i).lo := fun U L => by
    unfold copiedJ
    split
    · rfl
    · split <;> rfl
  have hf' : ∀ U L, (copiedJ P (S.jo i) U L).half = (S.jo i).half := fun U L => by
    unfold copiedJ
    split
    · rfl
    · split <;> rfl
  have plt : (S.jo i).pl < P.n := by
    unfold copies at hc
    cases e : (S.jo i).seen with
    | none =>
      rw [e] at hc
      simpa using hc
    | some q => exact A.sp (by rw [e]; rfl)
  have hU := G.ba.ro _ A.uo
  have hL := G.ba.ro _ A.lo
  obtain ⟨hU2, hL2⟩ := copied_rows (P := P) (J := S.jo i) hU hL (fun c v e => by
    obtain ⟨_, h1, h2⟩ := A.sn c v e
    exact ⟨⟨h1, h2⟩, fun x hx => A.sb c x (by rw [e, hx])⟩) (fun _ => ⟨A.pl0, plt⟩)
  have jup : ∀ j, ((copyS P S i).jo j).up = (S.jo j).up := fun j => by
    by_cases e : j = i
    · subst e
      show (fupd S.jo j _ j).up = _
      rw [fupd_same, up']
    · rw [copy_jo e]
  have jlo : ∀ j, ((copyS P S i).jo j).lo = (S.jo j).lo := fun j => by
    by_cases e : j = i
    · subst e
      show (fupd S.jo j _ j).lo = _
      rw [fupd_same, lo']
    · rw [copy_jo e]
  refine ⟨⟨G.ba.m0, G.ba.m14, G.ba.w0, G.ba.w14, G.ba.os, G.ba.oi, G.ba.bl, G.ba.sr, G.ba.cl, G.ba.cb, fun x hx => ?_, G.ba.b20, G.ba.jn, G.ba.ji⟩, fun j hj => ?_, fun a ha b hb ne => ?_, G.dn, G.dr⟩
  · show RowOk P.n (two S.ow _ _ _ _ x)
    unfold two
    split
    · exact hU2
    · split
      · exact hL2
      · exact G.ba.ro x hx
  · by_cases e : j = i
    · subst e
      have ej : (copyS P S j).jo j = copiedJ P (S.jo j) (S.ow (S.jo j).up) (S.ow (S.jo j).lo) := fupd_same
      rw [ej]
      refine ⟨by rw [up']; exact A.uo, by rw [lo']; exact A.lo, by rw [up', lo']; exact A.ne, fun hd => by rw [up', lo']; exact A.bd hd, fun hd => by rw [up', lo', hf']; exact A.bu hd, fun hd h1 h2 => by rw [up'] at h2 ⊢; rw [hf'] at h1; exact A.du hd h1 h2, fun c v h => ?_, fun c v h => ?_, ?_, ?_, fun h => ?_, fun h => by rw [hf'] at h; exact A.hf h⟩
      · unfold copiedJ at h
        split at h
        · cases h
        · split at h
          · rename_i hn _
            have h : (S.jo j).seen = some (c, v) := h
            rw [hn] at h
            cases h
          · rename_i ho
            have h : some ((S.jo j).pl, looked P (S.ow (S.jo j).up) (S.ow (S.jo j).lo) (S.jo j).pl) = some (c, v) := h
            injection h with h
            injection h with h1 h2
            subst h1
            exact ⟨by simpa using ho, A.pl0, plt⟩
      · unfold copiedJ at h
        split at h
        · cases h
        · split at h
          · rename_i hn _
            have h : (S.jo j).seen = some (c, some v) := h
            rw [hn] at h
            cases h
          · have h : some ((S.jo j).pl, looked P (S.ow (S.jo j).up) (S.ow (S.jo j).lo) (S.jo j).pl) = some (c, some v) := h
            injection h with h
            injection h with h1 h2
            exact RowOk.looked hU hL h2
      · have := A.pl0
        unfold copiedJ
        split
        · show 0 ≤ (S.jo j).pl + 1
          omega
        · split
          · show 0 ≤ (S.jo j).pl + 1
            omega
          · exact A.pl0
      · unfold copiedJ
        split
        · show (S.jo j).pl + 1 ≤ P.n
          omega
        · split
          · show (S.jo j).pl + 1 ≤ P.n
            omega
          · exact A.pl1
      · unfold copiedJ at h ⊢
        split at h
        · cases h
        · split at h
          · rename_i hn _
            have h : (S.jo j).seen.isSome = true := h
            rw [hn] at h
            cases h
          · rename_i hn ho
            rw [if_neg ho]
            exact plt
    · rw [copy_jo e]
      have B := G.jb j hj
      exact ⟨B.uo, B.lo, B.ne, B.bd, B.bu, B.du, B.sn, B.sb, B.pl0, B.pl1, B.sp, B.hf⟩
  · have z := G.ap a ha b hb ne
    exact ⟨by rw [jup, jup]; exact z.uu, by rw [jup, jlo]; exact z.ul, by rw [jlo, jup]; exact z.lu, by rw [jlo, jlo]; exact z.ll⟩

/-! ### finishing keeps -/
theorem sit_nil {x : Int} (h : sitting S x = []) : ∀ (w : Int), 0 ≤ w → w < S.nw → S.se w ≠ x := fun w h1 h2 e => by
  have : w ∈ sitting S x := List.mem_filter.mpr ⟨mem_rng.mpr ⟨h1, h2⟩, decide_eq_true e⟩
  rw [h] at this
  cases this
theorem Du.put_mem {D : Du} {k x : Int} {v : List Int} : x ∈ (D.put k v).dk ↔ x ∈ D.dk ∨ x = k := by
  show x ∈ (if k ∈ D.dk then D.dk else D.dk ++ [k]) ↔ _
  by_cases h : k ∈ D.dk
  · rw [if_pos h]
    exact ⟨.inl, fun z => z.elim id fun e => e ▸ h⟩
  · rw [if_neg h, List.mem_append, List.mem_singleton]
theorem Du.put_nodup {D : Du} {k : Int} {v : List Int} (h : D.dk.Nodup) : (D.put k v).dk.Nodup := by
  show (if k ∈ D.dk then D.dk else D.dk ++ [k]).Nodup
  split
  · exact h
  · rename_i n
    refine List.nodup_append.mpr ⟨h, by simp, fun a ha b hb e => ?_⟩
    have hb : b = k := by simpa using hb
    exact n (hb ▸ e ▸ ha)
theorem linkD_mem {J : Jb} {x : Int} (h : x ∈ D.dk) : x ∈ (linkD P S D J).dk := by
  unfold linkD
  split
  · split
    · exact Du.put_mem.mpr (.inl h)
    · exact Du.put_mem.mpr (.inl h)
  · exact h
theorem linkD_nodup {J : Jb} (h : D.dk.Nodup) : (linkD P S D J).dk.Nodup := by
  unfold linkD
  split
  · split
    · exact Du.put_nodup h
    · exact Du.put_nodup h
  · exact h
theorem linkD_range {J : Jb} (h : ∀ x ∈ D.dk, 0 ≤ x ∧ x < S.m) (hu : 0 ≤ J.up ∧ J.up < S.m) (hl : 0 ≤ J.lo ∧ J.lo < S.m) : ∀ x ∈ (linkD P S D J).dk, 0 ≤ x ∧ x < S.m := by
  intro x hx
  unfold linkD at hx
  split at hx
  · split at hx
    · rcases Du.put_mem.mp hx with hx | rfl
      · exact h x hx
      · exact hl
    · rcases Du.put_mem.mp hx with hx | rfl
      · exact h x hx
      · exact hu
  · exact h x hx
theorem link_m (J : Jb) : (linkS P S J).m = S.m := by
  unfold linkS
  split <;> rfl
theorem link_ok (J : Jb) : (linkS P S J).ok = S.ok := by
  unfold linkS
  split <;> rfl
theorem link_nw (J : Jb) : (linkS P S J).nw = S.nw := by
  unfold linkS
  split <;> rfl
theorem link_co (J : Jb) : (linkS P S J).co = S.co := by
  unfold linkS
  split <;> rfl
theorem link_ow (J : Jb) : (linkS P S J).ow = S.ow := by
  unfold linkS
  split <;> rfl
theorem link_jk (J : Jb) : (linkS P S J).jk = S.jk := by
  unfold linkS
  split <;> rfl
theorem link_bg (J : Jb) : (linkS P S J).bg = S.bg := by
  unfold linkS
  split <;> rfl

/-- linking, as far as the yard without the job goes: what holds of the other jobs -/
theorem Good.link_base (G : Good P S D) (hi : i ∈ S.jk) (hh : (S.jo i).half = false) : Base P.n (linkS P S (S.jo i)) := by
  have A := G.jb i hi
  have hlt : 0 ≤ (S.jo i).lo ∧ (S.jo i).lo < (S.jo i).up := by
    have hu := G.ba.oi _ A.uo
    have : S.bs (S.jo i).up = some (S.jo i).lo := by
      cases hd : P.dn with
      | true => exact A.bd hd
      | false =>
        have := A.bu hd
        rw [if_neg (by simp [hh])] at this
        exact this
    exact G.ba.bl _ _ hu.1 hu.2 this
  refine ⟨by rw [link_m]; exact G.ba.m0, by rw [link_m]; exact G.ba.m14, by rw [link_nw]; exact G.ba.w0, by rw [link_nw]; exact G.ba.w14, by rw [link_ok]; exact G.ba.os, by rw [link_ok, link_m]; exact G.ba.oi, fun x b h0 h1 hb => ?_, fun w h0 h1 => ?_, by rw [link_nw, link_co]; exact G.ba.cl, by rw [link_nw, link_co]; exact G.ba.cb, by rw [link_ok, link_ow]; exact G.ba.ro, by rw [link_bg]; exact G.ba.b20, by rw [link_jk]; exact G.ba.jn, by rw [link_jk, link_bg]; exact G.ba.ji⟩
  · rw [link_m] at h1
    cases hd : P.dn with
    | true =>
      rw [link_dn hd] at hb
      have hb : (if moved P S (S.jo i) x then some (S.jo i).lo else S.bs x) = some b := hb
      split at hb
      · rename_i hm
        unfold moved at hm
        simp only [Bool.and_eq_true, decide_eq_true_eq] at hm
        have := G.ba.bl x _ h0 h1 hm.2.1
        have := Option.some.inj hb
        omega
      · exact G.ba.bl x b h0 h1 hb
    | false =>
      rw [link_up hd] at hb
      have hb : fupd S.bs (S.jo i).up (S.bs (S.jo i).lo) x = some b := hb
      by_cases e : x = (S.jo i).up
      · rw [e, fupd_same] at hb
        have h2 := G.ba.oi _ A.lo
        have := G.ba.bl _ b h2.1 h2.2 hb
        omega
      · rw [fupd_ne e] at hb
        exact G.ba.bl x b h0 h1 hb
  · rw [link_nw] at h1
    rw [link_m]
    have hs := G.ba.sr w h0 h1
    cases hd : P.dn with
    | true =>
      rw [link_dn hd]
      show 0 ≤ (if S.se w = (S.jo i).up then (S.jo i).lo else S.se w) ∧ (if S.se w = (S.jo i).up then (S.jo i).lo else S.se w) < (S.m : Int)
      split
      · exact G.ba.oi _ A.lo
      · exact hs
    | false =>
      rw [link_up hd]
      exact hs
theorem Good.link_other (G : Good P S D) (hi : i ∈ S.jk) (hj : j ∈ S.jk) (ne : j ≠ i) : JobOk P (linkS P S (S.jo i)) (linkD P S D (S.jo i)) (S.jo j) := by
  have B := G.jb j hj
  have ap := G.ap i hi j hj (Ne.symm ne)
  refine ⟨by rw [link_ok]; exact B.uo, by rw [link_ok]; exact B.lo, B.ne, fun hd => ?_, fun hd => ?_, fun hd h1 h2 => ?_, B.sn, B.sb, B.pl0, B.pl1, B.sp, B.hf⟩
  · rw [link_dn hd]
    show (if moved P S (S.jo i) (S.jo j).up then some (S.jo i).lo else S.bs (S.jo j).up) = _
    have : moved P S (S.jo i) (S.jo j).up = false := by
      unfold moved
      rw [B.bd hd]
      have : ¬ (some (S.jo j).lo = some (S.jo i).up) := fun e => ap.ul (Option.some.inj e).symm
      simp [this]
    rw [this]
    exact B.bd hd
  · rw [link_up hd]
    show fupd S.bs (S.jo i).up (S.bs (S.jo i).lo) (S.jo j).up = if (S.jo j).half = true then fupd S.bs (S.jo i).up (S.bs (S.jo i).lo) (S.jo j).lo else some (S.jo j).lo
    rw [fupd_ne ap.uu.symm, fupd_ne ap.ul.symm]
    exact B.bu hd
  · refine linkD_mem (B.du hd h1 fun w w0 w1 e => ?_)
    have h3 := h2 w w0 (by rw [link_nw]; exact w1)
    rw [link_dn hd] at h3
    have h3 : (if S.se w = (S.jo i).up then (S.jo i).lo else S.se w) ≠ (S.jo j).up := h3
    rw [e, if_neg ap.uu.symm] at h3
    exact h3 rfl
/-- kept under dropping a job, cutting its layer -/
theorem JobOk.cut {K : Jb} (B : JobOk P S D K) {J : Jb} (ap : Apart J K) : JobOk P (cutS P S J) D K :=
  ⟨cut_ok J B.uo (.inl ap.uu.symm) (.inl ap.lu.symm), cut_ok J B.lo (.inl ap.ul.symm) (.inl ap.ll.symm), B.ne, B.bd, B.bu, B.du, B.sn, B.sb, B.pl0, B.pl1, B.sp, B.hf⟩
theorem Base.cut {n : Nat} (B : Base n S) (J : Jb) : Base n (cutS P S J) := by
  have sub : ∀ x ∈ (cutS P S J).ok, x ∈ S.ok := fun x hx => (List.mem_filter.mp hx).1
  exact ⟨B.m0, B.m14, B.w0, B.w14, B.os.sublist List.filter_sublist, fun x hx => B.oi x (sub x hx), B.bl, B.sr, B.cl, B.cb, fun x hx => B.ro x (sub x hx), B.b20, B.jn, B.ji⟩
theorem Base.drop {n : Nat} (B : Base n S) (i : Int) : Base n (dropJ S i) :=
  ⟨B.m0, B.m14, B.w0, B.w14, B.os, B.oi, B.bl, B.sr, B.cl, B.cb, B.ro, B.b20, B.jn.sublist List.filter_sublist, fun x hx => B.ji x (List.mem_filter.mp hx).1⟩
theorem Base.half {n : Nat} (B : Base n S) (i : Int) : Base n (halfJ S i) :=
  ⟨B.m0, B.m14, B.w0, B.w14, B.os, B.oi, B.bl, B.sr, B.cl, B.cb, B.ro, B.b20, B.jn, B.ji⟩
theorem mem_drop {j : Int} (h : j ∈ (dropJ S i).jk) : j ∈ S.jk ∧ j ≠ i := by
  obtain ⟨h1, h2⟩ := List.mem_filter.mp h
  exact ⟨h1, of_decide_eq_true h2⟩

/-- A STEP KEEPS -/
theorem Good.step (G : Good P S D) (hi : i ∈ S.jk) : Good P (stepS P S i) (stepD P S D i) := by
  have A := G.jb i hi
  unfold stepS stepD
  by_cases c : copies P (S.jo i) = true
  · rw [if_pos c, if_pos c]
    exact G.copy hi c
  · rw [if_neg c, if_neg c]
    by_cases l : P.lnk = true
    · rw [if_pos l]
      by_cases h : (S.jo i).half = true
      · rw [if_pos h, if_pos (by rw [l, h]; rfl)]
        refine ⟨(G.ba.cut _).drop i, fun j hj => ?_, fun a ha b hb ne => ?_, G.dn, G.dr⟩
        · obtain ⟨h1, h2⟩ := mem_drop hj
          have h1 : j ∈ S.jk := h1
          have := (G.jb j h1).cut (G.ap i hi j h1 (Ne.symm h2))
          exact ⟨this.uo, this.lo, this.ne, this.bd, this.bu, this.du, this.sn, this.sb, this.pl0, this.pl1, this.sp, this.hf⟩
        · exact G.ap a (mem_drop ha).1 b (mem_drop hb).1 ne
      · rw [if_neg h, if_neg (by simp [h])]
        have hh : (S.jo i).half = false := by simpa using h
        have jo_i : (halfJ (linkS P S (S.jo i)) i).jo i = { S.jo i with half := true } := by
          show fupd (linkS P S (S.jo i)).jo i { (linkS P S (S.jo i)).jo i with half := true } i = _
          rw [fupd_same, link_jo]
        have jo_j : ∀ j, j ≠ i → (halfJ (linkS P S (S.jo i)) i).jo j = S.jo j := fun j ne => by
          rw [half_jo ne, link_jo]
        have jkk : (halfJ (linkS P S (S.jo i)) i).jk = S.jk := link_jk _
        refine ⟨(G.link_base hi hh).half i, fun j hj => ?_, fun a ha b hb ne => ?_, linkD_nodup G.dn, ?_⟩
        · rw [jkk] at hj
          by_cases e : j = i
          · subst e
            rw [jo_i]
            have nu := A.ne
            refine ⟨by show (S.jo j).up ∈ (linkS P S (S.jo j)).ok; rw [link_ok]; exact A.uo, by show (S.jo j).lo ∈ (linkS P S (S.jo j)).ok; rw [link_ok]; exact A.lo, nu, fun hd => ?_, fun hd => ?_, fun _ h1 => ?_, A.sn, A.sb, A.pl0, A.pl1, A.sp, fun _ => l⟩
            · show (linkS P S (S.jo j)).bs (S.jo j).up = some (S.jo j).lo
              rw [link_dn hd]
              show (if moved P S (S.jo j) (S.jo j).up then some (S.jo j).lo else S.bs (S.jo j).up) = _
              split
              · rfl
              · exact A.bd hd
            · show (linkS P S (S.jo j)).bs (S.jo j).up = if true = true then (linkS P S (S.jo j)).bs (S.jo j).lo else _
              rw [if_pos rfl, link_up hd]
              show fupd _ _ _ _ = fupd _ _ _ _
              rw [fupd_same, fupd_ne nu.symm]
            · cases h1
          · rw [jo_j j e]
            have := G.link_other hi hj e
            exact ⟨this.uo, this.lo, this.ne, this.bd, this.bu, this.du, this.sn, this.sb, this.pl0, this.pl1, this.sp, this.hf⟩
        · rw [jkk] at ha hb
          have up' : ∀ j, ((halfJ (linkS P S (S.jo i)) i).jo j).up = (S.jo j).up := fun j => by
            by_cases e : j = i
            · subst e
              rw [jo_i]
            · rw [jo_j j e]
          have lo' : ∀ j, ((halfJ (linkS P S (S.jo i)) i).jo j).lo = (S.jo j).lo := fun j => by
            by_cases e : j = i
            · subst e
              rw [jo_i]
            · rw [jo_j j e]
          have z := G.ap a ha b hb ne
          exact ⟨by rw [up', up']; exact z.uu, by rw [up', lo']; exact z.ul, by rw [lo', up']; exact z.lu, by rw [lo', lo']; exact z.ll⟩
        · show ∀ x ∈ _, 0 ≤ x ∧ x < ((linkS P S (S.jo i)).m : Int)
          rw [link_m]
          exact linkD_range G.dr (G.ba.oi _ A.uo) (G.ba.oi _ A.lo)
    · have hh : (S.jo i).half = false := by
        cases e : (S.jo i).half with
        | false => rfl
        | true => exact (l (A.hf e)).elim
      rw [if_neg l, if_neg (by simp [l])]
      refine ⟨((G.link_base hi hh).cut _).drop i, fun j hj => ?_, fun a ha b hb ne => ?_, linkD_nodup G.dn, ?_⟩
      · obtain ⟨h1, h2⟩ := mem_drop hj
        have h1 : j ∈ S.jk := by
          have h1 : j ∈ (linkS P S (S.jo i)).jk := h1
          rw [link_jk] at h1
          exact h1
        have := (G.link_other hi h1 h2).cut (G.ap i hi j h1 (Ne.symm h2))
        have ej : (dropJ (cutS P (linkS P S (S.jo i)) (S.jo i)) i).jo j = S.jo j := by
          show (linkS P S (S.jo i)).jo j = _
          rw [link_jo]
        rw [ej]
        exact ⟨this.uo, this.lo, this.ne, this.bd, this.bu, this.du, this.sn, this.sb, this.pl0, this.pl1, this.sp, this.hf⟩
      · have ha : a ∈ (linkS P S (S.jo i)).jk := (mem_drop ha).1
        have hb : b ∈ (linkS P S (S.jo i)).jk := (mem_drop hb).1
        rw [link_jk] at ha hb
        have ej : (dropJ (cutS P (linkS P S (S.jo i)) (S.jo i)) i).jo = S.jo := link_jo _
        rw [ej]
        exact G.ap a ha b hb ne
      · show ∀ x ∈ _, 0 ≤ x ∧ x < ((linkS P S (S.jo i)).m : Int)
        rw [link_m]
        exact linkD_range G.dr (G.ba.oi _ A.uo) (G.ba.oi _ A.lo)
theorem step_jk (ne : j ≠ i) (hj : j ∈ S.jk) : j ∈ (stepS P S i).jk := by
  unfold stepS
  split
  · exact hj
  · split
    · split
      · exact List.mem_filter.mpr ⟨hj, decide_eq_true ne⟩
      · show j ∈ (linkS P S (S.jo i)).jk
        rw [link_jk]
        exact hj
    · refine List.mem_filter.mpr ⟨?_, decide_eq_true ne⟩
      show j ∈ (linkS P S (S.jo i)).jk
      rw [link_jk]
      exact hj
end
end K20
end
/-! Shown -/
section
set_option linter.all false
set_option autoImplicit false
/-! Reading through layers; the least wrong reading. -/
namespace K20
section
variable {S : Vs} {n : Nat} {c : Int}
theorem shown_fuel (B : Base n S) : ∀ (f g : Nat) (o : Option Int), (o = none → 1 ≤ f ∧ 1 ≤ g) → (∀ z, o = some z → 0 ≤ z ∧ z < S.m ∧ z.toNat + 2 ≤ f ∧ z.toNat + 2 ≤ g) → shown S c f o = shown S c g o
  | 0, g, none, h, _ => by have := (h rfl).1; omega
  | 0, g, some z, _, h => by have := (h z rfl).2.2.1; omega
  | f + 1, 0, none, h, _ => by have := (h rfl).2; omega
  | f + 1, 0, some z, _, h => by have := (h z rfl).2.2.2; omega
  | f + 1, g + 1, none, _, _ => rfl
  | f + 1, g + 1, some z, _, h => by
    obtain ⟨h0, h1, h2, h3⟩ := h z rfl
    have ih : shown S c f (S.bs z) = shown S c g (S.bs z) := by
      refine shown_fuel B f g (S.bs z) (fun e => by omega) fun y e => ?_
      have := B.bl z y h0 h1 e
      omega
    show (if z ∈ S.ok then (match get (S.ow z) c with | some v => some v | none => shown S c f (S.bs z)) else none) = (if z ∈ S.ok then (match get (S.ow z) c with | some v => some v | none => shown S c g (S.bs z)) else none)
    rw [ih]
theorem shown_none : shown S c (S.m + 2) none = some 0 := rfl
theorem shown_some (B : Base n S) {z : Int} (h0 : 0 ≤ z) (h1 : z < S.m) : shown S c (S.m + 2) (some z) = if z ∈ S.ok then (match get (S.ow z) c with | some v => some v | none => shown S c (S.m + 2) (S.bs z)) else none := by
  have : shown S c (S.m + 1) (S.bs z) = shown S c (S.m + 2) (S.bs z) := shown_fuel B _ _ _ (fun e => by omega) fun y e => by
    have := B.bl z y h0 h1 e
    omega
  show (if z ∈ S.ok then (match get (S.ow z) c with | some v => some v | none => shown S c (S.m + 1) (S.bs z)) else none) = _
  rw [this]
theorem find_at {α β : Type} {f : α → Option β} : ∀ {l : List α} {i : Nat} {x : α} {b : β}, l[i]? = some x → (∀ (j : Nat) (y : α), j < i → l[j]? = some y → f y = none) → f x = some b → l.findSome? f = some b
  | [], i, x, b, h, _, _ => by simp at h
  | a :: r, 0, x, b, h, _, hb => by
    have e : a = x := by simpa using h
    subst e
    rw [List.findSome?_cons, hb]
  | a :: r, i + 1, x, b, h, hn, hb => by
    rw [List.findSome?_cons, hn 0 a (Nat.succ_pos i) rfl]
    exact find_at (l := r) (i := i) (by simpa using h) (fun j y hj hy => hn (j + 1) y (Nat.succ_lt_succ hj) (by simpa using hy)) hb
theorem find_none {α β : Type} {f : α → Option β} {l : List α} (h : ∀ y ∈ l, f y = none) : l.findSome? f = none := List.findSome?_eq_none_iff.mpr h
theorem rng_get {n i : Nat} (h : i < n) : (rng n)[i]? = some (i : Int) := by
  unfold rng
  rw [List.getElem?_map, List.getElem?_range h]
  rfl
theorem rng_got {n i : Nat} {y : Int} (h : (rng n)[i]? = some y) : y = (i : Int) ∧ i < n := by
  have hl : i < (rng n).length := (List.getElem?_eq_some_iff.mp h).1
  unfold rng at hl
  rw [List.length_map, List.length_range] at hl
  rw [rng_get hl] at h
  exact ⟨(Option.some.inj h).symm, hl⟩
end
end K20
end
/-! Grow -/
section
set_option linter.all false
set_option autoImplicit false
/-! Before the jobs: writing, covering, branching; a job begins. -/
namespace K20
def writeS (S : Vs) (w c v : Int) : Vs := { S with ow := fupd S.ow (S.se w) (put (S.ow (S.se w)) c v), co := fupd S.co w ((S.co w).set c.toNat v) }
def onS (S : Vs) (x : Int) : Vs := { S with m := S.m + 1, bs := fupd S.bs S.m (some x), ok := S.ok ++ [(S.m : Int)], ow := fupd S.ow S.m [] }
def coverS (S : Vs) (w : Int) : Vs := { onS S (S.se w) with se := fupd S.se w S.m }
def coverD (S : Vs) (D : Du) (w : Int) : Du := D.put (S.se w) (S.co w)
def branchS (S : Vs) (D : Du) (x : Int) : Vs := { onS S x with nw := S.nw + 1, se := fupd S.se S.nw S.m, co := fupd S.co S.nw (D.du x) }
def begun (S : Vs) (x l : Int) : Jb := ⟨x, l, 0, none, false, above S x, ((above S l).filter fun y => decide (y ≠ x)).isEmpty⟩
def beginS (S : Vs) (x l : Int) : Vs := { S with jk := S.jk ++ [(S.bg : Int)], jo := fupd S.jo S.bg (begun S x l), bg := S.bg + 1 }
def S0 (n : Nat) : Vs := ⟨1, fun _ => none, [0], fun _ => [], 1, fun _ => 0, fun _ => List.replicate n 0, [], fun _ => ⟨0, 0, 0, none, false, [], false⟩, 0⟩
def D0 : Du := ⟨[], fun _ => []⟩
structure Grow (n : Nat) (S : Vs) (D : Du) : Prop where
  ba : Base n S
  ok : S.ok = rng S.m
  jk : S.jk = []
  bg : S.bg = 0
  dn : D.dk.Nodup
  dr : ∀ x ∈ D.dk, 0 ≤ x ∧ x < S.m
  cl : ∀ x ∈ S.ok, (∀ w : Int, 0 ≤ w → w < S.nw → S.se w ≠ x) → x ∈ D.dk
  dl : ∀ x ∈ D.dk, (D.du x).length = n ∧ ∀ v ∈ D.du x, 0 ≤ v ∧ v ≤ 1000
theorem RowOk.nil {n : Nat} : RowOk n [] := ⟨List.nodup_nil, fun _ h => (nomatch h), fun _ h => (nomatch h)⟩
theorem Grow.init (n : Nat) : Grow n (S0 n) D0 := by
  refine ⟨⟨Nat.le_refl _, by show 1 ≤ 20; decide, Nat.le_refl _, by show 1 ≤ 20; decide, List.pairwise_singleton .., fun x hx => ?_, fun x b _ _ h => (nomatch h), fun w _ _ => ⟨Int.le_refl _, by show (0 : Int) < 1; decide⟩, fun w _ _ => List.length_replicate .., fun w _ _ v hv => ?_, fun x _ => RowOk.nil, Nat.zero_le _, List.Pairwise.nil, fun i hi => (nomatch hi)⟩, rfl, rfl, rfl, List.nodup_nil, fun x hx => (nomatch hx), fun x hx h => ?_, fun x hx => (nomatch hx)⟩
  · have : x = 0 := List.mem_singleton.mp hx
    subst this
    exact ⟨Int.le_refl _, by show (0 : Int) < 1; decide⟩
  · have := (List.mem_replicate.mp hv).2
    subst this
    decide
  · have : x = 0 := List.mem_singleton.mp hx
    exact absurd this.symm (h 0 (Int.le_refl _) (by show (0 : Int) < 1; decide))
section
variable {n : Nat} {S : Vs} {D : Du}
theorem mem_set {l : List Int} {i : Nat} {v x : Int} (h : x ∈ l.set i v) : x ∈ l ∨ x = v := by
  rcases List.mem_or_eq_of_mem_set h with h | h
  · exact .inl h
  · exact .inr h
theorem Grow.write (G : Grow n S D) {w c v : Int} (hw : 0 ≤ w ∧ w < S.nw) (hc : 0 ≤ c ∧ c < n) (hv : 0 ≤ v ∧ v ≤ 1000) : Grow n (writeS S w c v) D := by
  have B := G.ba
  have hs := B.sr w hw.1 hw.2
  have hso : S.se w ∈ S.ok := by rw [G.ok]; exact mem_rng.mpr hs
  refine ⟨⟨B.m0, B.m14, B.w0, B.w14, B.os, B.oi, B.bl, B.sr, fun u h1 h2 => ?_, fun u h1 h2 z hz => ?_, fun x hx => ?_, B.b20, B.jn, B.ji⟩, G.ok, G.jk, G.bg, G.dn, G.dr, G.cl, G.dl⟩
  · show (fupd S.co w _ u).length = n
    by_cases e : u = w
    · subst e
      rw [fupd_same, List.length_set]
      exact B.cl u h1 h2
    · rw [fupd_ne e]
      exact B.cl u h1 h2
  · have hz : z ∈ fupd S.co w ((S.co w).set c.toNat v) u := hz
    by_cases e : u = w
    · subst e
      rw [fupd_same] at hz
      rcases mem_set hz with h | h
      · exact B.cb u h1 h2 z h
      · subst h
        exact hv
    · rw [fupd_ne e] at hz
      exact B.cb u h1 h2 z hz
  · show RowOk n (fupd S.ow (S.se w) _ x)
    by_cases e : x = S.se w
    · subst e
      rw [fupd_same]
      exact (B.ro _ hso).put hc hv
    · rw [fupd_ne e]
      exact B.ro x hx
theorem Base.on (B : Base n S) (hok : S.ok = rng S.m) {x : Int} (hx : 0 ≤ x ∧ x < S.m) (hm : S.m < 20) : Base n (onS S x) := by
  refine ⟨Nat.le_succ_of_le B.m0, hm, B.w0, B.w14, ?_, fun y hy => ?_, fun y b h0 h1 h => ?_, fun w h0 h1 => ?_, B.cl, B.cb, fun y hy => ?_, B.b20, B.jn, B.ji⟩
  · show (S.ok ++ [(S.m : Int)]).Pairwise (· < ·)
    rw [List.pairwise_append]
    exact ⟨B.os, List.pairwise_singleton .., fun a ha b hb => by
      have := (B.oi a ha).2
      rw [List.mem_singleton.mp hb]
      exact this⟩
  · show 0 ≤ y ∧ y < ((S.m + 1 : Nat) : Int)
    rcases List.mem_append.mp hy with h | h
    · have := B.oi y h
      omega
    · have := List.mem_singleton.mp h
      omega
  · have h : fupd S.bs S.m (some x) y = some b := h
    by_cases e : y = S.m
    · subst e
      rw [fupd_same] at h
      cases h
      exact hx
    · rw [fupd_ne e] at h
      have h1 : y < ((S.m + 1 : Nat) : Int) := h1
      exact B.bl y b h0 (by omega) h
  · have := B.sr w h0 h1
    show 0 ≤ S.se w ∧ S.se w < ((S.m + 1 : Nat) : Int)
    omega
  · show RowOk n (fupd S.ow S.m [] y)
    by_cases e : y = S.m
    · subst e
      rw [fupd_same]
      exact RowOk.nil
    · rw [fupd_ne e]
      refine B.ro y ?_
      rcases List.mem_append.mp hy with h | h
      · exact h
      · exact (e (List.mem_singleton.mp h)).elim
theorem rng_snoc (k : Nat) : rng (k + 1) = rng k ++ [(k : Int)] := by
  unfold rng
  rw [List.range_succ, List.map_append]
  rfl
theorem Grow.cover (G : Grow n S D) {w : Int} (hw : 0 ≤ w ∧ w < S.nw) (hm : S.m < 20) : Grow n (coverS S w) (coverD S D w) := by
  have B := G.ba
  have hs := B.sr w hw.1 hw.2
  have B1 := B.on G.ok hs hm
  refine ⟨⟨B1.m0, B1.m14, B1.w0, B1.w14, B1.os, B1.oi, B1.bl, fun u h0 h1 => ?_, B1.cl, B1.cb, B1.ro, B1.b20, B1.jn, B1.ji⟩, ?_, G.jk, G.bg, Du.put_nodup G.dn, fun x hx => ?_, fun x hx h => ?_, fun x hx => ?_⟩
  · show 0 ≤ fupd S.se w S.m u ∧ fupd S.se w S.m u < ((S.m + 1 : Nat) : Int)
    by_cases e : u = w
    · subst e
      rw [fupd_same]
      omega
    · rw [fupd_ne e]
      have := B.sr u h0 h1
      omega
  · show S.ok ++ [(S.m : Int)] = rng (S.m + 1)
    rw [rng_snoc, G.ok]
  · show 0 ≤ x ∧ x < ((S.m + 1 : Nat) : Int)
    rcases Du.put_mem.mp hx with h | h
    · have := G.dr x h
      omega
    · omega
  · refine Du.put_mem.mpr ?_
    by_cases e : x = S.se w
    · exact .inr e
    · left
      rcases List.mem_append.mp hx with hx | hx
      · refine G.cl x hx fun u h0 h1 z => ?_
        have := h u h0 h1
        by_cases eu : u = w
        · subst eu
          exact e z.symm
        · have h2 : fupd S.se w S.m u ≠ x := this
          rw [fupd_ne eu] at h2
          exact h2 z
      · have := h w hw.1 hw.2
        have h2 : fupd S.se w S.m w ≠ x := this
        rw [fupd_same] at h2
        exact (h2 (List.mem_singleton.mp hx).symm).elim
  · show (fupd D.du (S.se w) (S.co w) x).length = n ∧ ∀ v ∈ fupd D.du (S.se w) (S.co w) x, 0 ≤ v ∧ v ≤ 1000
    by_cases e : x = S.se w
    · subst e
      rw [fupd_same]
      exact ⟨B.cl w hw.1 hw.2, B.cb w hw.1 hw.2⟩
    · rw [fupd_ne e]
      exact G.dl x ((Du.put_mem.mp hx).resolve_right e)
theorem Grow.branch (G : Grow n S D) {x : Int} (hx : x ∈ S.ok) (hcl : ∀ w : Int, 0 ≤ w → w < S.nw → S.se w ≠ x) (hm : S.m < 20) (hn : S.nw < 20) : Grow n (branchS S D x) D := by
  have B := G.ba
  have B1 := B.on G.ok (B.oi x hx) hm
  have dx := G.cl x hx hcl
  refine ⟨⟨B1.m0, B1.m14, Nat.le_succ_of_le B.w0, hn, B1.os, B1.oi, B1.bl, fun u h0 h1 => ?_, fun u h0 h1 => ?_, fun u h0 h1 => ?_, B1.ro, B1.b20, B1.jn, B1.ji⟩, ?_, G.jk, G.bg, G.dn, fun y hy => ?_, fun y hy h => ?_, G.dl⟩
  · show 0 ≤ fupd S.se S.nw S.m u ∧ fupd S.se S.nw S.m u < ((S.m + 1 : Nat) : Int)
    have h1 : u < ((S.nw + 1 : Nat) : Int) := h1
    by_cases e : u = S.nw
    · subst e
      rw [fupd_same]
      omega
    · rw [fupd_ne e]
      have := B.sr u h0 (by omega)
      omega
  · show (fupd S.co S.nw (D.du x) u).length = n
    have h1 : u < ((S.nw + 1 : Nat) : Int) := h1
    by_cases e : u = S.nw
    · subst e
      rw [fupd_same]
      exact (G.dl x dx).1
    · rw [fupd_ne e]
      exact B.cl u h0 (by omega)
  · show ∀ v ∈ fupd S.co S.nw (D.du x) u, 0 ≤ v ∧ v ≤ 1000
    have h1 : u < ((S.nw + 1 : Nat) : Int) := h1
    by_cases e : u = S.nw
    · subst e
      rw [fupd_same]
      exact (G.dl x dx).2
    · rw [fupd_ne e]
      exact B.cb u h0 (by omega)
  · show S.ok ++ [(S.m : Int)] = rng (S.m + 1)
    rw [rng_snoc, G.ok]
  · show 0 ≤ y ∧ y < ((S.m + 1 : Nat) : Int)
    have := G.dr y hy
    omega
  · have h2 : fupd S.se S.nw S.m S.nw ≠ y := h S.nw (by omega) (by show (S.nw : Int) < ((S.nw + 1 : Nat) : Int); omega)
    rw [fupd_same] at h2
    rcases List.mem_append.mp hy with hy | hy
    · refine G.cl y hy fun u h0 h1 z => ?_
      have h3 : fupd S.se S.nw S.m u ≠ y := h u h0 (by show u < ((S.nw + 1 : Nat) : Int); omega)
      rw [fupd_ne (by omega)] at h3
      exact h3 z
    · exact (h2 (List.mem_singleton.mp hy).symm).elim
/-- jobs begin: what holds besides -/
structure Beg (P : Par) (S : Vs) (D : Du) : Prop where
  go : Good P S D
  cl : ∀ x ∈ S.ok, (∀ w : Int, 0 ≤ w → w < S.nw → S.se w ≠ x) → x ∈ D.dk
theorem Grow.beg {P : Par} (hn : P.n = n) (G : Grow n S D) : Beg P S D :=
  ⟨⟨by rw [hn]; exact G.ba, fun i hi => (by rw [G.jk] at hi; cases hi), fun i hi => (by rw [G.jk] at hi; cases hi), G.dn, G.dr⟩, G.cl⟩
theorem Beg.begin {P : Par} (G : Beg P S D) {x l : Int} (hx : x ∈ S.ok) (hl : l ∈ S.ok) (hb : S.bs x = some l) (hne : x ≠ l) (hap : ∀ i ∈ S.jk, (S.jo i).up ≠ x ∧ (S.jo i).lo ≠ x ∧ (S.jo i).up ≠ l ∧ (S.jo i).lo ≠ l) (hg : S.bg < 20) : Beg P (beginS S x l) D := by
  have B := G.go.ba
  have jne : ∀ i ∈ S.jk, i ≠ (S.bg : Int) := fun i hi => by have := B.ji i hi; omega
  have jo_old : ∀ i ∈ S.jk, (beginS S x l).jo i = S.jo i := fun i hi => fupd_ne (jne i hi)
  have jo_new : (beginS S x l).jo S.bg = begun S x l := fupd_same
  have jm : ∀ {i : Int}, i ∈ (beginS S x l).jk → i ∈ S.jk ∨ i = S.bg := fun {i} h => by
    rcases List.mem_append.mp h with h | h
    · exact .inl h
    · exact .inr (List.mem_singleton.mp h)
  refine ⟨⟨⟨B.m0, B.m14, B.w0, B.w14, B.os, B.oi, B.bl, B.sr, B.cl, B.cb, B.ro, hg, ?_, fun i hi => ?_⟩, fun i hi => ?_, fun i hi j hj ne => ?_, G.go.dn, G.go.dr⟩, G.cl⟩
  · show (S.jk ++ [(S.bg : Int)]).Pairwise (· < ·)
    rw [List.pairwise_append]
    exact ⟨B.jn, List.pairwise_singleton .., fun a ha b hb => by
      have := (B.ji a ha).2
      rw [List.mem_singleton.mp hb]
      exact this⟩
  · show 0 ≤ i ∧ i < ((S.bg + 1 : Nat) : Int)
    rcases jm hi with h | h
    · have := B.ji i h
      omega
    · omega
  · rcases jm hi with h | h
    · rw [jo_old i h]
      have z := G.go.jb i h
      exact ⟨z.uo, z.lo, z.ne, z.bd, z.bu, z.du, z.sn, z.sb, z.pl0, z.pl1, z.sp, z.hf⟩
    · subst h
      rw [jo_new]
      exact ⟨hx, hl, hne, fun _ => hb, fun _ => hb, fun _ _ h => G.cl x hx h, fun c v e => (nomatch e), fun c v e => (nomatch e), Int.le_refl _, by show (0 : Int) ≤ P.n; omega, fun e => (nomatch e), fun e => (nomatch e)⟩
  · rcases jm hi with h | h
    · rcases jm hj with h2 | h2
      · rw [jo_old i h, jo_old j h2]
        exact G.go.ap i h j h2 ne
      · subst h2
        rw [jo_old i h, jo_new]
        have := hap i h
        exact ⟨this.1, this.2.2.1, this.2.1, this.2.2.2⟩
    · subst h
      rcases jm hj with h2 | h2
      · rw [jo_old j h2, jo_new]
        have := hap j h2
        exact ⟨this.1.symm, this.2.1.symm, this.2.2.1.symm, this.2.2.2.symm⟩
      · exact (ne h2.symm).elim
end
end K20
end
/-! Ru -/
section
set_option Elab.async false
set_option linter.all false
set_option maxRecDepth 100000
set_option maxHeartbeats 4000000
/-! Rules that the layer lacks. -/
namespace K20W
open PySem L2
section
variable {X : Cx}
/-- o.f as one of several targets -/
def gAttr (K : PySem.W.Frag) (f : Str) (to : TE) : TG := fun v σ H Q => to σ H fun x H1 => ∃ a C dx fs, x = .ref a ∧ H1 a = some (.ins C dx fs) ∧ Cls K C ∧ NoAttr K C f ∧ fs.length < 1000 ∧ Q σ (upd H1 a (.ins C dx (putF f v fs)))
theorem pg_attr {o : Expr} {f : Str} {to : TE} {pos : Pos} (ho : PE X o to) : PG X (.Attribute o f pos) (gAttr X.K f to) := by
  refine ⟨fun pins s σ H v u Q I r h => ?_⟩
  rw [assign_Attribute]
  refine wpAny_bind (wpAny_holding (thn (ho.run pins s σ H _ I h) fun ov s1 ⟨x, H1, I1, r1, a, C, dx, fs, e, ha, c, n, l, q⟩ => ?_))
  subst e
  obtain rfl : ov = Value.ref a := r1
  refine wpAny_bind (wpAny_standAt (wpAny_bind (wpAny_holding (setattr_ok I1 ha c n l r fun s2 I2 => ?_))))
  exact wpAny_release ⟨σ, _, I2, q⟩
end
/-! ### comprehensions that pick -/
section
variable {J : It} {G : Hp → Prop} {xs : List V} {tt : TT} {te : TE} {σ : St} {H1 : Hp} {D : Addr} {Qd : Hp → Prop}
/-- [el for x in xs if p]: the test and the element make new things alone -/
theorem lc_pick {j : Nat} (w : Walk J xs.length G (YAt xs)) (hD : H1 D = none) (p : V → Bool) (el : V → V) (hz : xs.length ≤ sizeLine) (hG : ∀ H, Same H1 H → G H)
    (ht : ∀ x H, x ∈ xs → Same H1 H → ∀ Q : Bool → Hp → Prop, (∀ H3, Same H H3 → Q (p x) H3) → tt ((wipe σ [j]).set j (some x)) H Q)
    (he : ∀ x H, x ∈ xs → p x = true → Same H1 H → ∀ Q : VK, (∀ H3, Same H H3 → Q (el x) H3) → te ((wipe σ [j]).set j (some x)) H Q)
    (hd : ∀ H, Same H1 H → H D = some (.lst ((xs.filter p).map el)) → Qd H) :
    ∃ W : Nat → Nat → Hp → Prop, (∃ m, W 0 m (upd H1 D (.lst []))) ∧ ∀ i m H, W i m H →
      (J.stop i H ∧ Qd H) ∨ (J.go i H ∧ ∃ Nx : Hp → Prop, (∀ H', Nx H' → ∃ m', m' < m ∧ W (i + 1) m' H') ∧ ∀ x H', J.yld i H x H' → gName j x (wipe σ [j]) H' fun σ2 H2 => wipe σ2 [j] = wipe σ [j] ∧ tt σ2 H2 fun b H3 =>
        if b = true then te σ2 H3 fun y H4 => ∃ acc, H4 D = some (.lst acc) ∧ acc.length < sizeLine ∧ Nx (upd H4 D (.lst (acc ++ [y]))) else Nx H3) := by
  have up : ∀ {H : Hp} {o : HO}, Same H1 H → Same H1 (upd H D o) := fun s b u e => by
    rw [upd_ne (ne_of_none e hD)]
    exact s b u e
  refine lc_it w (fun i H => Same H1 H ∧ H D = some (.lst (((xs.take i).filter p).map el))) ⟨up (Same.refl _), upd_same⟩ (fun i H _ h => hG H h.1) ?_ fun H h => hd H h.1 (by rw [List.take_length] at h; exact h.2)
  rintro i x H H' hi ⟨s, hacc⟩ ⟨rfl, hx⟩
  have hm : x ∈ xs := List.mem_of_getElem? hx
  have ti : xs.take (i + 1) = xs.take i ++ [x] := by
    rw [List.take_add_one, hx]
    rfl
  refine ⟨?_, ht x H' hm s _ fun H3 s3 => ?_⟩
  · show (((wipe σ []).set j none).set j (some x)).set j none = (wipe σ []).set j none
    rw [List.set_set, List.set_set]
  · by_cases hp : p x = true
    · rw [hp]
      refine iteT (he x H3 hm hp (Same.trans s s3) _ fun H4 s4 => ⟨_, s4 _ _ (s3 _ _ hacc), ?_, up (Same.trans s (Same.trans s3 s4)), ?_⟩)
      · rw [List.length_map]
        refine Nat.lt_of_le_of_lt (List.length_filter_le _ _) ?_
        rw [List.length_take]
        omega
      · rw [upd_same, ti, List.filter_append, List.map_append]
        have : ([x].filter p) = [x] := by rw [List.filter_cons_of_pos hp]; rfl
        rw [this]
        rfl
    · rw [show p x = false by simpa using hp]
      refine iteF ⟨Same.trans s s3, ?_⟩
      rw [s3 _ _ hacc, ti, List.filter_append]
      have : ([x].filter p) = [] := by rw [List.filter_cons_of_neg hp]; rfl
      rw [this, List.append_nil]
end
theorem walk_keysA {d : Addr} {o : Obj} {kvs : List (Key × V)} : Walk (Itk d o kvs) (kvs.map fun q => kV q.1).length (fun H => H d = some (.frz o (.dK kvs))) (YAt (kvs.map fun q => kV q.1)) := by
  rw [List.length_map]
  refine walk_keys.mono (fun _ h => h) fun i H x H' _ _ y => ?_
  obtain ⟨e, k, v, h1, h2⟩ := y
  exact ⟨e, by rw [List.getElem?_map, h1, h2]; rfl⟩
theorem walk_valuesA {d : Addr} {o : Obj} {kvs : List (Key × V)} : Walk (Itd d o kvs) (kvs.map (·.2)).length (fun H => H d = some (.frz o (.dK kvs))) (YAt (kvs.map (·.2))) := by
  rw [List.length_map]
  refine walk_values.mono (fun _ h => h) fun i H x H' _ _ y => ?_
  obtain ⟨e, k, h1⟩ := y
  exact ⟨e, by rw [List.getElem?_map, h1]; rfl⟩
theorem Same.unlock {H H' : Hp} {d : Addr} {o u : HO} (h : H d = some u) (s : Same (upd H d o) H') : Same H (upd H' d u) := fun b x e => by
  by_cases q : b = d
  · subst q
    rw [h] at e
    cases e
    exact upd_same
  · rw [upd_ne q]
    exact s b x (by rw [upd_ne q]; exact e)
/-! ### views of a dict -/
def valuesO (p d : Addr) : HO := .ext fun h => h.IsValuesView p d
def itemsW (p d : Addr) : HO := .ext fun h => h.IsItemsView p d
theorem valuesO_ok {P : Program} {w : World} {H : Hp} {h : Heap} {p d : Addr} (e : h.get? p = some { cls := .type "dict_values", data := .fields #[.ref d] }) : ObjOk P w H h p (valuesO p d) :=
  ⟨⟨_, e, rfl, rfl⟩, ⟨_, e⟩, fun h1 h2 x k => let ⟨o, ho, z⟩ := x; ⟨o, k o ho, z⟩⟩
theorem itemsW_ok {P : Program} {w : World} {H : Hp} {h : Heap} {p d : Addr} (e : h.get? p = some { cls := .type "dict_items", data := .fields #[.ref d] }) : ObjOk P w H h p (itemsW p d) :=
  ⟨⟨_, e, rfl, rfl⟩, ⟨_, e⟩, fun h1 h2 x k => let ⟨o, ho, z⟩ := x; ⟨o, k o ho, z⟩⟩
section
variable {X : Cx}
def rValues : V → List V → Hp → VK → Prop := fun x xs H Q => ∃ (a : Addr) (kvs : List (Key × V)), x = .ref a ∧ xs = [] ∧ H a = some (.dK kvs) ∧ ∀ p, H p = none → Q (.ref p) (upd H p (valuesO p a))
theorem mt_values : MtR X "dict.values" rValues := by
  intro pins s σ H x xs v us Q I rx rxs h
  obtain ⟨a, kvs, rfl, rfl, ha, q⟩ := h
  cases rx
  cases rxs
  obtain ⟨z, hd, vs, kv, hdo⟩ := I.hok a _ ha
  refine call_meetsIn PySem.F.slot_dict_values hdo.typeIs PySem.F.entry_dict_values (PySem.F.args_dict_values_1 _) (meets_dict_values (mixKind X.prog X.w) a hd) ⟨⟨vs, hdo⟩, ?_⟩
  have hf : H s.heap.objs.size = none := I.hok.fresh (Nat.le_refl _)
  exact ⟨.ref s.heap.objs.size, upd H s.heap.objs.size (valuesO s.heap.objs.size a), I.laid (t' := s.toks) (fun b u e => Heap.get?_push_of_some _ e) (Nat.le_refl _) (valuesO_ok (Heap.get?_push_size _ rfl)), rfl, q _ hf⟩
def rItemsK : V → List V → Hp → VK → Prop := fun x xs H Q => ∃ (a : Addr) (kvs : List (Key × V)), x = .ref a ∧ xs = [] ∧ H a = some (.dK kvs) ∧ ∀ p, H p = none → Q (.ref p) (upd H p (itemsW p a))
theorem mt_itemsK : MtR X "dict.items" rItemsK := by
  intro pins s σ H x xs v us Q I rx rxs h
  obtain ⟨a, kvs, rfl, rfl, ha, q⟩ := h
  cases rx
  cases rxs
  obtain ⟨z, hd, vs, kv, hdo⟩ := I.hok a _ ha
  refine call_meetsIn PySem.F.slot_dict_items hdo.typeIs PySem.F.entry_dict_items (PySem.F.args_dict_items_1 _) (meets_dict_items (mixKind X.prog X.w) a hd) ⟨⟨vs, hdo⟩, ?_⟩
  have hf : H s.heap.objs.size = none := I.hok.fresh (Nat.le_refl _)
  exact ⟨.ref s.heap.objs.size, upd H s.heap.objs.size (itemsW s.heap.objs.size a), I.laid (t' := s.toks) (fun b u e => Heap.get?_push_of_some _ e) (Nat.le_refl _) (itemsW_ok (Heap.get?_push_size _ rfl)), rfl, q _ hf⟩
/-- list(d.values()): the view stands at p -/
def rListValues : List V → Hp → VK → Prop := fun xs H Q => ∃ (p a : Addr) (kvs : List (Key × V)), xs = [.ref p] ∧ H p = some (valuesO p a) ∧ H a = some (.dK kvs) ∧ ∀ q, H q = none → Q (.ref q) (upd H q (.lst (kvs.map (·.2))))
theorem call_list_values (hc : X.calm = true) : CallR X (.type "list") rListValues := by
  intro pins s σ H xs us Q I r h
  obtain ⟨p, a, kvs, e, hp, hk, q⟩ := h
  subst e
  obtain ⟨u, eu, rx⟩ := vals1 r
  subst eu
  obtain rfl : u = Value.ref p := rx
  have view : s.heap.IsValuesView p a := (show ObjOk X.prog X.w H s.heap p (valuesO p a) from I.hok p _ hp).1
  obtain ⟨z, lo, vs, rk, hd⟩ := (show ObjOk X.prog X.w H s.heap a (.dK kvs) from I.hok a _ hk)
  obtain ⟨ep, hat⟩ := hd.dictAt
  have hl : kvs.length = vs.length := Paired.length rk
  refine PySem.W.kdl_call (PySem.W.kdl_values (knd := mixKind X.prog X.w) (kvs := vs) (ep := ep)) (I.ok.hd hc) ⟨view, hat⟩ (by rw [← hl]; exact z) fun h' tk acc' c' hkeep hS hacc => ?_
  refine ⟨.ref s.heap.objs.size, upd H s.heap.objs.size (.lst (kvs.map (·.2))), I.laid hkeep (Nat.le_refl _) (show ObjOk X.prog X.w _ _ _ (.lst (kvs.map (·.2))) from ⟨?_, acc'.toList, c', ?_, ?_⟩), rfl, q _ (I.hok.fresh (Nat.le_refl _))⟩
  · rw [List.length_map]
    exact z
  · have el : acc'.toList.length = acc'.size := by simp
    refine vals_of_at (by rw [List.length_map, el, hacc.1, hl]) fun j x y h1 h2 => ?_
    obtain ⟨k, hky⟩ := hacc.2 j y (by rw [← Array.getElem?_toList]; exact h2)
    rw [List.getElem?_map] at h1
    cases e3 : kvs[j]? with
    | none =>
      rw [e3] at h1
      cases h1
    | some q =>
      rw [e3] at h1
      cases h1
      have : ∀ {xs : List (Key × V)} {ys : List (Key × Value)} {j : Nat} {x y}, KV xs ys → xs[j]? = some x → ys[j]? = some y → RelV x.2 y.2 := by
        intro xs ys j x y r
        unfold KV at r
        induction r generalizing j with
        | nil => intro a; simp at a
        | cons r t ih =>
          intro a b
          cases j with
          | zero =>
            simp at a b
            subst a b
            exact r.2
          | succ j => exact ih (by simpa using a) (by simpa using b)
      exact this rk e3 hky
  · rw [Array.toArray_toList]
    exact hS
end
end K20W
end
/-! Dat -/
section
set_option Elab.async false
set_option linter.all false
set_option maxRecDepth 100000
set_option maxHeartbeats 4000000
/-! Lists of ints, of texts, as data. -/
namespace K20W
open PySem L2
theorem dpAll_ints (K : PySem.W.Frag) (H : Hp) : ∀ l : List Int, DpAll K H (l.map V.int) (l.map PyData.int)
  | [] => .nil
  | i :: r => .cons (.int i) (dpAll_ints K H r)
theorem dpAll_strs (K : PySem.W.Frag) (H : Hp) : ∀ l : List Str, DpAll K H (l.map V.str) (l.map PyData.str)
  | [] => .nil
  | i :: r => .cons (.str i) (dpAll_strs K H r)
theorem eqv_ints : ∀ l m : List Int, PyData.eqv (.list (l.map PyData.int)) (.list (m.map PyData.int)) = decide (l = m) := by
  intro l m
  simp only [PyData.eqv]
  induction l generalizing m with
  | nil => cases m <;> simp [PyData.eqvAll]
  | cons a r ih =>
    cases m with
    | nil => simp [PyData.eqvAll]
    | cons b q =>
      simp only [List.map_cons, PyData.eqvAll, PyData.eqv, ih, List.cons.injEq]
      rw [Bool.eq_iff_iff]
      simp
theorem eqv_strs : ∀ l m : List Str, PyData.eqv (.list (l.map PyData.str)) (.list (m.map PyData.str)) = decide (l = m) := by
  intro l m
  simp only [PyData.eqv]
  induction l generalizing m with
  | nil => cases m <;> simp [PyData.eqvAll]
  | cons a r ih =>
    cases m with
    | nil => simp [PyData.eqvAll]
    | cons b q =>
      simp only [List.map_cons, PyData.eqvAll, PyData.eqv, ih, List.cons.injEq]
      rw [Bool.eq_iff_iff]
      simp
theorem shaped_ints (l : List Int) : SeqAt.shaped (.list (l.map PyData.int)) = true := by
  have a : ∀ l : List Int, PyData.canLayAll0 (l.map PyData.int) = true := fun l => by
    induction l with
    | nil => simp [PyData.canLayAll0]
    | cons a r ih => simp [PyData.canLayAll0, PyData.canLay0, ih]
  have b : ∀ l : List Int, PyData.depthAll (l.map PyData.int) ≤ 1 := fun l => by
    induction l with
    | nil => simp [PyData.depthAll]
    | cons a r ih => simp [PyData.depthAll, PyData.depth, ih]
  have e1 : PyData.canLay0 (.list (l.map PyData.int)) = true := by
    simp only [PyData.canLay0]
    exact a l
  have e2 : PyData.depth (.list (l.map PyData.int)) ≤ 64 := by
    have := b l
    simp only [PyData.depth]
    omega
  unfold SeqAt.shaped
  rw [e1, decide_eq_true e2]
  rfl
theorem shaped_strs (l : List Str) (hs : ∀ x ∈ l, PyData.strOk x = true) : SeqAt.shaped (.list (l.map PyData.str)) = true := by
  have a : PyData.canLayAll0 (l.map PyData.str) = true := by
    induction l with
    | nil => simp [PyData.canLayAll0]
    | cons a r ih => simp [PyData.canLayAll0, PyData.canLay0, hs a (List.mem_cons_self), ih fun x hx => hs x (List.mem_cons_of_mem _ hx)]
  have b : ∀ l : List Str, PyData.depthAll (l.map PyData.str) ≤ 1 := fun l => by
    induction l with
    | nil => simp [PyData.depthAll]
    | cons a r ih => simp [PyData.depthAll, PyData.depth, ih]
  have e1 : PyData.canLay0 (.list (l.map PyData.str)) = true := by
    simp only [PyData.canLay0]
    exact a
  have e2 : PyData.depth (.list (l.map PyData.str)) ≤ 64 := by
    have := b l
    simp only [PyData.depth]
    omega
  unfold SeqAt.shaped
  rw [e1, decide_eq_true e2]
  rfl
end K20W
end
/-! R0 -/
section
set_option Elab.async false
set_option linter.all false
set_option maxRecDepth 100000
set_option maxHeartbeats 4000000
/-! How a plain yard lies in the abstract heap: by roles of addresses (tags). -/
namespace K20W
open PySem L2 K20

/-! ### tables over the ints -/
def dI (g : Int → V) (ks : List Int) : List (Key × V) := ks.map fun k => (Sum.inl k, g k)
theorem dI_length (g : Int → V) (ks : List Int) : (dI g ks).length = ks.length := List.length_map ..
theorem dI_keys (g : Int → V) (ks : List Int) : (dI g ks).map (·.1) = ks.map Sum.inl := by
  unfold dI
  rw [List.map_map]
  rfl
theorem dI_congr {g h : Int → V} {ks : List Int} (e : ∀ k ∈ ks, g k = h k) : dI g ks = dI h ks := List.map_congr_left fun k hk => by rw [e k hk]
theorem inl_eq {a b : Int} : ((Sum.inl a : Key) = Sum.inl b) ↔ a = b := ⟨Sum.inl.inj, fun e => by rw [e]⟩
theorem dI_val (g : Int → V) (k : Int) : ∀ ks : List Int, valV (dI g ks) (Sum.inl k) = if k ∈ ks then some (g k) else none
  | [] => rfl
  | x :: r => by
    show valV ((Sum.inl x, g x) :: dI g r) (Sum.inl k) = _
    by_cases e : x = k
    · subst e
      rw [valV_pos (p := ((Sum.inl x : Key), g x)) rfl, if_pos (List.mem_cons_self)]
    · rw [valV_neg (p := ((Sum.inl x : Key), g x)) (fun z => e (Sum.inl.inj z)), dI_val g k r]
      by_cases m : k ∈ r
      · rw [if_pos m, if_pos (List.mem_cons_of_mem _ m)]
      · rw [if_neg m, if_neg (by simp [m, Ne.symm e])]
theorem dI_in {g : Int → V} {k : Int} {ks : List Int} (h : k ∈ ks) : valV (dI g ks) (Sum.inl k) = some (g k) := by rw [dI_val, if_pos h]
theorem dI_out {g : Int → V} {k : Int} {ks : List Int} (h : k ∉ ks) : valV (dI g ks) (Sum.inl k) = none := by rw [dI_val, if_neg h]
theorem dI_put {g : Int → V} {k : Int} {ks : List Int} (h : k ∈ ks) (v : V) : putK (dI g ks) (Sum.inl k) v = dI (fupd g k v) ks := by
  unfold putK
  rw [valV_any, dI_in h, if_pos (show (some (g k)).isSome = true from rfl)]
  unfold dI
  rw [List.map_map]
  refine List.map_congr_left fun x _ => ?_
  show (if (Sum.inl x : Key) = Sum.inl k then _ else _) = _
  unfold fupd
  by_cases e : x = k
  · rw [if_pos (inl_eq.mpr e), if_pos e]
  · rw [if_neg (fun z => e (inl_eq.mp z)), if_neg e]
theorem dI_new {g : Int → V} {k : Int} {ks : List Int} (h : k ∉ ks) (v : V) : putK (dI g ks) (Sum.inl k) v = dI (fupd g k v) (ks ++ [k]) := by
  rw [putK_new _ (dI_out h)]
  unfold dI
  rw [List.map_append]
  congr 1
  · refine List.map_congr_left fun x hx => ?_
    rw [fupd_ne (fun e : x = k => h (e ▸ hx))]
  · show [((Sum.inl k : Key), v)] = [((Sum.inl k : Key), fupd g k v k)]
    rw [fupd_same]
theorem dI_drop {g : Int → V} {k : Int} {ks : List Int} : dropK (dI g ks) (Sum.inl k) = dI g (ks.filter fun x => decide (x ≠ k)) := by
  unfold dropK dI
  rw [List.filter_map]
  congr 1
  refine List.filter_congr fun x _ => ?_
  show decide ((Sum.inl x : Key) ≠ Sum.inl k) = _
  rw [decide_eq_decide]
  exact not_congr inl_eq
def oV : Option Int → V
  | none => .non
  | some i => .int i
/-- a layer's own cells as a dict -/
def rowV (l : Row) : List (Key × V) := l.map fun p => (Sum.inl p.1, V.int p.2)
theorem rowV_length (l : Row) : (rowV l).length = l.length := List.length_map ..
theorem rowV_val (c : Int) : ∀ l : Row, valV (rowV l) (Sum.inl c) = (get l c).map V.int
  | [] => rfl
  | p :: r => by
    show valV ((Sum.inl p.1, V.int p.2) :: rowV r) (Sum.inl c) = _
    by_cases e : p.1 = c
    · rw [valV_pos (p := ((Sum.inl p.1 : Key), V.int p.2)) (by rw [e]), get_pos e]
      rfl
    · rw [valV_neg (p := ((Sum.inl p.1 : Key), V.int p.2)) (fun z => e (Sum.inl.inj z)), get_neg e, rowV_val c r]
theorem rowV_put (l : Row) (c v : Int) : putK (rowV l) (Sum.inl c) (.int v) = rowV (put l c v) := by
  unfold putK put
  rw [valV_any, rowV_val, get_any]
  have e : ((get l c).map V.int).isSome = (get l c).isSome := by cases get l c <;> rfl
  rw [e]
  split
  · unfold rowV
    rw [List.map_map, List.map_map]
    refine List.map_congr_left fun p _ => ?_
    show (if (Sum.inl p.1 : Key) = Sum.inl c then _ else _) = _
    by_cases z : p.1 = c
    · rw [if_pos (inl_eq.mpr z)]
      show _ = ((Sum.inl (if p.1 = c then (p.1, v) else p).1 : Key), V.int (if p.1 = c then (p.1, v) else p).2)
      rw [if_pos z]
    · rw [if_neg (fun q => z (inl_eq.mp q))]
      show _ = ((Sum.inl (if p.1 = c then (p.1, v) else p).1 : Key), V.int (if p.1 = c then (p.1, v) else p).2)
      rw [if_neg z]
  · unfold rowV
    rw [List.map_append]
    rfl

/-! ### heaps -/
theorem rng_length (n : Nat) : (rng n).length = n := by
  unfold rng
  rw [List.length_map, List.length_range]
theorem rng_succ (n : Nat) : rng (n + 1) = rng n ++ [(n : Int)] := by
  unfold rng
  rw [List.range_succ, List.map_append]
  rfl
theorem tag_ne {τ : Addr → Int} {a b : Addr} {i j : Int} (h : τ a = i) (h' : τ b = j) (n : i ≠ j) : a ≠ b := fun e => n (by rw [← h, ← h', e])
/-- tuples, and the lists that nobody writes -/
def isT (o : HO) : Prop := ∃ xs, o = .tup xs ∨ o = .lst xs
/-- all stays but what bears a tag of τ; tuples stay -/
def Kp (τ : Addr → Int) (H H' : Hp) : Prop := ∀ a o, H a = some o → (τ a ≠ 0 → isT o) → H' a = some o
def τ0 : Addr → Int := fun _ => 0
/-- the tags grow into new addresses alone -/
def Gw (τ τ' : Addr → Int) (H : Hp) : Prop := ∀ a, τ' a ≠ 0 → τ a ≠ 0 ∨ H a = none
def Live (τ : Addr → Int) (H : Hp) : Prop := ∀ a, τ a ≠ 0 → H a ≠ none
def Dj (τ σ : Addr → Int) : Prop := ∀ a, τ a = 0 ∨ σ a = 0
theorem Kp.refl (τ : Addr → Int) (H : Hp) : Kp τ H H := fun _ _ h _ => h
theorem Kp.of_same {τ : Addr → Int} {H H' : Hp} (s : Same H H') : Kp τ H H' := fun a o h _ => s a o h
theorem Kp.same {H H' : Hp} (k : Kp τ0 H H') : Same H H' := fun a o h => k a o h fun z => (z rfl).elim
theorem Gw.refl (τ : Addr → Int) (H : Hp) : Gw τ τ H := fun _ h => .inl h
theorem Kp.free {τ : Addr → Int} {H H' : Hp} (k : Kp τ H H') {a : Addr} (h : H' a = none) (ht : τ a = 0) : H a = none := by
  cases e : H a with
  | none => rfl
  | some o => rw [k a o e (fun z => (z ht).elim)] at h; cases h
theorem Kp.trans {τ τ' : Addr → Int} {H H1 H2 : Hp} (a : Kp τ H H1) (g : Gw τ τ' H) (b : Kp τ' H1 H2) : Kp τ H H2 := fun c o h ht =>
  b c o (a c o h ht) fun z => (g c z).elim ht fun n => by rw [h] at n; cases n
theorem Kp.wr {τ : Addr → Int} {H H1 : Hp} (k : Kp τ H H1) {p : Addr} {u o : HO} (hp : τ p ≠ 0) (hu : H1 p = some u) (nt : ¬ isT u) : Kp τ H (upd H1 p o) := fun a x h ht => by
  have : a ≠ p := fun e => by
    subst e
    have z := k a x h ht
    rw [hu] at z
    cases z
    exact nt (ht hp)
  rw [upd_ne this]
  exact k a x h ht
theorem Kp.new {τ : Addr → Int} {H H1 : Hp} (k : Kp τ H H1) {p : Addr} {o : HO} (hn : H1 p = none) : Kp τ H (upd H1 p o) := fun a x h ht => by
  have z := k a x h ht
  rw [upd_ne (ne_of_none z hn)]
  exact z
theorem Same.newS {H H1 : Hp} (k : Same H H1) {p : Addr} {o : HO} (hn : H1 p = none) : Same H (upd H1 p o) := fun a x h => by
  have z := k a x h
  rw [upd_ne (ne_of_none z hn)]
  exact z
theorem isT_dK {kvs : List (Key × V)} : ¬ isT (.dK kvs) := fun ⟨_, e⟩ => by rcases e with e | e <;> cases e
theorem isT_ins {C dx : Addr} {fs : List (Str × V)} : ¬ isT (.ins C dx fs) := fun ⟨_, e⟩ => by rcases e with e | e <;> cases e
theorem isT_lst (xs : List V) : isT (.lst xs) := ⟨xs, .inr rfl⟩
theorem isT_tup (xs : List V) : isT (.tup xs) := ⟨xs, .inl rfl⟩

/-! ### a yard's parts -/
/-- where the six tables and their parts stand -/
structure Ad where
  b : Addr
  o : Addr
  d : Addr
  s : Addr
  c : Addr
  j : Addr
  od : Int → Addr
  dd : Int → Addr
  cd : Int → Addr
  jd : Int → Addr
abbrev JP : Type := Hp → (Addr → Int) → Addr → Jb → Prop
/-- a job's description leans on its own object, on lists tagged 8, on tuples -/
def Stays (J : JP) : Prop := ∀ (H H' : Hp) (τ τ' : Addr → Int) (a : Addr) (x : Jb), J H τ a x → (∀ b o, H b = some o → (b = a ∨ τ b = 8 ∨ isT o) → H' b = some o) → (∀ b, H b ≠ none → τ b = 8 → τ' b = 8) → J H' τ' a x
structure Rep (J : JP) (H : Hp) (A : Ad) (S : Vs) (D : Du) (τ : Addr → Int) (p : Addr) : Prop where
  hb : H A.b = some (.dK (dI (fun x => oV (S.bs x)) (rng S.m)))
  ho : H A.o = some (.dK (dI (fun x => .ref (A.od x)) S.ok))
  hd : H A.d = some (.dK (dI (fun x => .ref (A.dd x)) D.dk))
  hs : H A.s = some (.dK (dI (fun x => .int (S.se x)) (rng S.nw)))
  hc : H A.c = some (.dK (dI (fun x => .ref (A.cd x)) (rng S.nw)))
  hj : H A.j = some (.dK (dI (fun x => .ref (A.jd x)) S.jk))
  hod : ∀ x ∈ S.ok, H (A.od x) = some (.dK (rowV (S.ow x)))
  hdd : ∀ x ∈ D.dk, H (A.dd x) = some (.tup ((D.du x).map V.int))
  hcd : ∀ x ∈ rng S.nw, H (A.cd x) = some (.tup ((S.co x).map V.int))
  hjd : ∀ i ∈ S.jk, J H τ (A.jd i) (S.jo i)
  tp : τ p = 1
  tb : τ A.b = 2
  to : τ A.o = 3
  td : τ A.d = 4
  ts : τ A.s = 5
  tc : τ A.c = 6
  tj : τ A.j = 7
  tod : ∀ x ∈ S.ok, τ (A.od x) = 10 + 2 * x ∧ 0 ≤ x
  tjd : ∀ i ∈ S.jk, τ (A.jd i) = 11 + 2 * i ∧ 0 ≤ i
  live : Live τ H
theorem not_tag {τ : Addr → Int} {H : Hp} {a : Addr} (l : Live τ H) (h : H a = none) : τ a = 0 := Classical.byContradiction fun z => l a z h
end K20W
end
/-! R1 -/
section
set_option Elab.async false
set_option linter.all false
set_option maxRecDepth 100000
set_option maxHeartbeats 4000000
/-! What a change of one part does to a yard in the heap. -/
namespace K20W
open PySem L2 K20
/-- only what bears the tag t has changed -/
def Ch (τ : Addr → Int) (t : Int) (H H' : Hp) : Prop := ∀ a o, H a = some o → (τ a = t → isT o) → H' a = some o
theorem Ch.wr {τ : Addr → Int} {t : Int} {H : Hp} {p : Addr} {u o : HO} (hp : τ p = t) (hu : H p = some u) (nt : ¬ isT u) : Ch τ t H (upd H p o) := fun a x h ht => by
  have : a ≠ p := fun e => by
    subst e
    rw [hu] at h
    cases h
    exact nt (ht hp)
  rw [upd_ne this]
  exact h
theorem Ch.new {τ : Addr → Int} {t : Int} {H H1 : Hp} (c : Ch τ t H H1) {p : Addr} {o : HO} (hn : H1 p = none) : Ch τ t H (upd H1 p o) := fun a x h ht => by
  have z := c a x h ht
  rw [upd_ne (ne_of_none z hn)]
  exact z
theorem Ch.refl (τ : Addr → Int) (t : Int) (H : Hp) : Ch τ t H H := fun _ _ h _ => h
theorem Live.wr {τ : Addr → Int} {H : Hp} (l : Live τ H) (p : Addr) (o : HO) : Live τ (upd H p o) := fun a ha => by
  by_cases e : a = p
  · subst e
    rw [upd_same]
    exact fun z => nomatch z
  · rw [upd_ne e]
    exact l a ha
/-- one more tag -/
def tg (τ : Addr → Int) (q : Addr) (t : Int) : Addr → Int := fun a => if a = q then t else τ a
theorem tg_same {τ : Addr → Int} {q : Addr} {t : Int} : tg τ q t q = t := if_pos rfl
theorem tg_ne {τ : Addr → Int} {q a : Addr} {t : Int} (h : a ≠ q) : tg τ q t a = τ a := if_neg h
theorem tg_old {τ : Addr → Int} {H : Hp} {q a : Addr} {t : Int} (hq : H q = none) (ha : H a ≠ none) : tg τ q t a = τ a := tg_ne fun e => ha (e ▸ hq)
theorem Live.tg {τ : Addr → Int} {H : Hp} (l : Live τ H) (q : Addr) (t : Int) (hq : H q ≠ none) : Live (tg τ q t) H := fun a ha => by
  by_cases e : a = q
  · subst e
    exact hq
  · rw [tg_ne e] at ha
    exact l a ha
theorem Gw.tg {τ : Addr → Int} {H : Hp} {q : Addr} (t : Int) (hq : H q = none) : Gw τ (tg τ q t) H := fun a ha => by
  by_cases e : a = q
  · subst e
    exact .inr hq
  · rw [tg_ne e] at ha
    exact .inl ha
theorem Gw.trans {τ τ1 τ2 : Addr → Int} {H H1 : Hp} (a : Gw τ τ1 H) (k : ∀ c, H1 c = none → H c = none ∨ τ c ≠ 0) (b : Gw τ1 τ2 H1) : Gw τ τ2 H := fun c hc => by
  rcases b c hc with h | h
  · exact a c h
  · exact (k c h).symm
section
variable {J : JP} {H H' : Hp} {A : Ad} {S : Vs} {D : Du} {τ : Addr → Int} {p : Addr}
theorem some_ne {o : HO} {a : Addr} (h : H a = some o) : H a ≠ none := fun z => by rw [h] at z; cases z
/-- the jobs stay -/
theorem Rep.jobs_stay (hJ : Stays J) (R : Rep J H A S D τ p) {t : Int} (c : Ch τ t H H') (h8 : t ≠ 8) (hj : ∀ i ∈ S.jk, t ≠ 11 + 2 * i) : ∀ i ∈ S.jk, J H' τ (A.jd i) (S.jo i) := fun i hi =>
  hJ H H' τ τ _ _ (R.hjd i hi) (fun b o hb h => c b o hb fun z => by
    rcases h with h | h | h
    · subst h
      have h2 := R.tjd i hi
      exact absurd (z.symm.trans h2.1) (hj i hi)
    · exact absurd (z.symm.trans h) h8
    · exact h) fun _ _ h => h
theorem Rep.bases (hJ : Stays J) (R : Rep J H A S D τ p) (c : Ch τ 2 H H') {bs : Int → Option Int} (new : H' A.b = some (.dK (dI (fun x => oV (bs x)) (rng S.m)))) (l : Live τ H') : Rep J H' A { S with bs := bs } D τ p := by
  have js := R.jobs_stay hJ c (by decide) (fun i hi => by have := R.tjd i hi; omega)
  have ho : ∀ x ∈ S.ok, τ (A.od x) = 2 → False := fun x hx z => by have := R.tod x hx; omega
  exact ⟨new, c _ _ R.ho fun z => absurd (z.symm.trans R.to) (by decide), c _ _ R.hd fun z => absurd (z.symm.trans R.td) (by decide), c _ _ R.hs fun z => absurd (z.symm.trans R.ts) (by decide), c _ _ R.hc fun z => absurd (z.symm.trans R.tc) (by decide), c _ _ R.hj fun z => absurd (z.symm.trans R.tj) (by decide),
    fun x hx => c _ _ (R.hod x hx) fun z => (ho x hx z).elim, fun x hx => c _ _ (R.hdd x hx) fun _ => isT_tup _, fun x hx => c _ _ (R.hcd x hx) fun _ => isT_tup _, js,
    R.tp, R.tb, R.to, R.td, R.ts, R.tc, R.tj, R.tod, R.tjd, l⟩
theorem Rep.seats (hJ : Stays J) (R : Rep J H A S D τ p) (c : Ch τ 5 H H') {se : Int → Int} (new : H' A.s = some (.dK (dI (fun x => .int (se x)) (rng S.nw)))) (l : Live τ H') : Rep J H' A { S with se := se } D τ p := by
  have js := R.jobs_stay hJ c (by decide) (fun i hi => by have := R.tjd i hi; omega)
  have ho : ∀ x ∈ S.ok, τ (A.od x) = 5 → False := fun x hx z => by have := R.tod x hx; omega
  exact ⟨c _ _ R.hb fun z => absurd (z.symm.trans R.tb) (by decide), c _ _ R.ho fun z => absurd (z.symm.trans R.to) (by decide), c _ _ R.hd fun z => absurd (z.symm.trans R.td) (by decide), new, c _ _ R.hc fun z => absurd (z.symm.trans R.tc) (by decide), c _ _ R.hj fun z => absurd (z.symm.trans R.tj) (by decide),
    fun x hx => c _ _ (R.hod x hx) fun z => (ho x hx z).elim, fun x hx => c _ _ (R.hdd x hx) fun _ => isT_tup _, fun x hx => c _ _ (R.hcd x hx) fun _ => isT_tup _, js,
    R.tp, R.tb, R.to, R.td, R.ts, R.tc, R.tj, R.tod, R.tjd, l⟩
/-- the due contents: the table at d and where its tuples stand -/
theorem Rep.dues (hJ : Stays J) (R : Rep J H A S D τ p) (c : Ch τ 4 H H') {D' : Du} {dd : Int → Addr} (new : H' A.d = some (.dK (dI (fun x => .ref (dd x)) D'.dk))) (tu : ∀ x ∈ D'.dk, H' (dd x) = some (.tup ((D'.du x).map V.int))) (l : Live τ H') : Rep J H' { A with dd := dd } S D' τ p := by
  have js := R.jobs_stay hJ c (by decide) (fun i hi => by have := R.tjd i hi; omega)
  have ho : ∀ x ∈ S.ok, τ (A.od x) = 4 → False := fun x hx z => by have := R.tod x hx; omega
  exact ⟨c _ _ R.hb fun z => absurd (z.symm.trans R.tb) (by decide), c _ _ R.ho fun z => absurd (z.symm.trans R.to) (by decide), new, c _ _ R.hs fun z => absurd (z.symm.trans R.ts) (by decide), c _ _ R.hc fun z => absurd (z.symm.trans R.tc) (by decide), c _ _ R.hj fun z => absurd (z.symm.trans R.tj) (by decide),
    fun x hx => c _ _ (R.hod x hx) fun z => (ho x hx z).elim, tu, fun x hx => c _ _ (R.hcd x hx) fun _ => isT_tup _, js,
    R.tp, R.tb, R.to, R.td, R.ts, R.tc, R.tj, R.tod, R.tjd, l⟩
/-- the contents: the table at c; a writer more may come -/
theorem Rep.conts (hJ : Stays J) (R : Rep J H A S D τ p) (c : Ch τ 6 H H') {co : Int → List Int} {cd : Int → Addr} (new : H' A.c = some (.dK (dI (fun x => .ref (cd x)) (rng S.nw)))) (tu : ∀ x ∈ rng S.nw, H' (cd x) = some (.tup ((co x).map V.int))) (l : Live τ H') : Rep J H' { A with cd := cd } { S with co := co } D τ p := by
  have js := R.jobs_stay hJ c (by decide) (fun i hi => by have := R.tjd i hi; omega)
  have ho : ∀ x ∈ S.ok, τ (A.od x) = 6 → False := fun x hx z => by have := R.tod x hx; omega
  exact ⟨c _ _ R.hb fun z => absurd (z.symm.trans R.tb) (by decide), c _ _ R.ho fun z => absurd (z.symm.trans R.to) (by decide), c _ _ R.hd fun z => absurd (z.symm.trans R.td) (by decide), c _ _ R.hs fun z => absurd (z.symm.trans R.ts) (by decide), new, c _ _ R.hj fun z => absurd (z.symm.trans R.tj) (by decide),
    fun x hx => c _ _ (R.hod x hx) fun z => (ho x hx z).elim, fun x hx => c _ _ (R.hdd x hx) fun _ => isT_tup _, tu, js,
    R.tp, R.tb, R.to, R.td, R.ts, R.tc, R.tj, R.tod, R.tjd, l⟩
/-- one layer's cells -/
theorem Rep.cells (hJ : Stays J) (R : Rep J H A S D τ p) {y : Int} (hy : y ∈ S.ok) (c : Ch τ (10 + 2 * y) H H') {r : Row} (new : H' (A.od y) = some (.dK (rowV r))) (l : Live τ H') : Rep J H' A { S with ow := fupd S.ow y r } D τ p := by
  have y0 := (R.tod y hy).2
  have js := R.jobs_stay hJ c (by omega) (fun i hi => by have := R.tjd i hi; omega)
  refine ⟨c _ _ R.hb fun z => ?_, c _ _ R.ho fun z => ?_, c _ _ R.hd fun z => ?_, c _ _ R.hs fun z => ?_, c _ _ R.hc fun z => ?_, c _ _ R.hj fun z => ?_, fun x hx => ?_, fun x hx => c _ _ (R.hdd x hx) fun _ => isT_tup _, fun x hx => c _ _ (R.hcd x hx) fun _ => isT_tup _, js,
    R.tp, R.tb, R.to, R.td, R.ts, R.tc, R.tj, R.tod, R.tjd, l⟩
  · have := R.tb; omega
  · have := R.to; omega
  · have := R.td; omega
  · have := R.ts; omega
  · have := R.tc; omega
  · have := R.tj; omega
  · show H' (A.od x) = some (.dK (rowV (fupd S.ow y r x)))
    by_cases e : x = y
    · subst e
      rw [fupd_same]
      exact new
    · rw [fupd_ne e]
      exact c _ _ (R.hod x hx) fun z => by have := R.tod x hx; omega
/-- layers are removed, in the same table -/
theorem Rep.drop (hJ : Stays J) (R : Rep J H A S D τ p) (c : Ch τ 3 H H') {ok : List Int} (sub : ∀ x ∈ ok, x ∈ S.ok) (new : H' A.o = some (.dK (dI (fun x => .ref (A.od x)) ok))) (l : Live τ H') : Rep J H' A { S with ok := ok } D τ p := by
  have js := R.jobs_stay hJ c (by decide) (fun i hi => by have := R.tjd i hi; omega)
  have ho : ∀ x ∈ S.ok, τ (A.od x) = 3 → False := fun x hx z => by have := R.tod x hx; omega
  exact ⟨c _ _ R.hb fun z => absurd (z.symm.trans R.tb) (by decide), new, c _ _ R.hd fun z => absurd (z.symm.trans R.td) (by decide), c _ _ R.hs fun z => absurd (z.symm.trans R.ts) (by decide), c _ _ R.hc fun z => absurd (z.symm.trans R.tc) (by decide), c _ _ R.hj fun z => absurd (z.symm.trans R.tj) (by decide),
    fun x hx => c _ _ (R.hod x (sub x hx)) fun z => (ho x (sub x hx) z).elim, fun x hx => c _ _ (R.hdd x hx) fun _ => isT_tup _, fun x hx => c _ _ (R.hcd x hx) fun _ => isT_tup _, js,
    R.tp, R.tb, R.to, R.td, R.ts, R.tc, R.tj, fun x hx => R.tod x (sub x hx), R.tjd, l⟩
/-- jobs end -/
theorem Rep.ends (hJ : Stays J) (R : Rep J H A S D τ p) (c : Ch τ 7 H H') {jk : List Int} (sub : ∀ x ∈ jk, x ∈ S.jk) (new : H' A.j = some (.dK (dI (fun x => .ref (A.jd x)) jk))) (l : Live τ H') : Rep J H' A { S with jk := jk } D τ p := by
  have js := R.jobs_stay hJ c (by decide) (fun i hi => by have := R.tjd i hi; omega)
  have ho : ∀ x ∈ S.ok, τ (A.od x) = 7 → False := fun x hx z => by have := R.tod x hx; omega
  exact ⟨c _ _ R.hb fun z => absurd (z.symm.trans R.tb) (by decide), c _ _ R.ho fun z => absurd (z.symm.trans R.to) (by decide), c _ _ R.hd fun z => absurd (z.symm.trans R.td) (by decide), c _ _ R.hs fun z => absurd (z.symm.trans R.ts) (by decide), c _ _ R.hc fun z => absurd (z.symm.trans R.tc) (by decide), new,
    fun x hx => c _ _ (R.hod x hx) fun z => (ho x hx z).elim, fun x hx => c _ _ (R.hdd x hx) fun _ => isT_tup _, fun x hx => c _ _ (R.hcd x hx) fun _ => isT_tup _, fun i hi => js i (sub i hi),
    R.tp, R.tb, R.to, R.td, R.ts, R.tc, R.tj, R.tod, fun x hx => R.tjd x (sub x hx), l⟩
/-- a job's own object -/
theorem Rep.job (hJ : Stays J) (R : Rep J H A S D τ p) {i : Int} (hi : i ∈ S.jk) (c : Ch τ (11 + 2 * i) H H') {x : Jb} (new : J H' τ (A.jd i) x) (l : Live τ H') : Rep J H' A { S with jo := fupd S.jo i x } D τ p := by
  have i0 := (R.tjd i hi).2
  refine ⟨c _ _ R.hb fun z => ?_, c _ _ R.ho fun z => ?_, c _ _ R.hd fun z => ?_, c _ _ R.hs fun z => ?_, c _ _ R.hc fun z => ?_, c _ _ R.hj fun z => ?_, fun x hx => c _ _ (R.hod x hx) fun z => by have := R.tod x hx; omega, fun x hx => c _ _ (R.hdd x hx) fun _ => isT_tup _, fun x hx => c _ _ (R.hcd x hx) fun _ => isT_tup _, fun j hj => ?_,
    R.tp, R.tb, R.to, R.td, R.ts, R.tc, R.tj, R.tod, R.tjd, l⟩
  · have := R.tb; omega
  · have := R.to; omega
  · have := R.td; omega
  · have := R.ts; omega
  · have := R.tc; omega
  · have := R.tj; omega
  · show J H' τ (A.jd j) (fupd S.jo i x j)
    by_cases e : j = i
    · subst e
      rw [fupd_same]
      exact new
    · rw [fupd_ne e]
      refine hJ H H' τ τ _ _ (R.hjd j hj) (fun b o hb h => c b o hb fun z => ?_) fun _ _ h => h
      rcases h with h | h | h
      · subst h
        have := R.tjd j hj
        omega
      · omega
      · exact h
/-- the top object's own content is of no account here -/
theorem Rep.top (hJ : Stays J) (R : Rep J H A S D τ p) (c : Ch τ 1 H H') (l : Live τ H') : Rep J H' A S D τ p := by
  have js := R.jobs_stay hJ c (by decide) (fun i hi => by have := R.tjd i hi; omega)
  have ho : ∀ x ∈ S.ok, τ (A.od x) = 1 → False := fun x hx z => by have := R.tod x hx; omega
  exact ⟨c _ _ R.hb fun z => absurd (z.symm.trans R.tb) (by decide), c _ _ R.ho fun z => absurd (z.symm.trans R.to) (by decide), c _ _ R.hd fun z => absurd (z.symm.trans R.td) (by decide), c _ _ R.hs fun z => absurd (z.symm.trans R.ts) (by decide), c _ _ R.hc fun z => absurd (z.symm.trans R.tc) (by decide), c _ _ R.hj fun z => absurd (z.symm.trans R.tj) (by decide),
    fun x hx => c _ _ (R.hod x hx) fun z => (ho x hx z).elim, fun x hx => c _ _ (R.hdd x hx) fun _ => isT_tup _, fun x hx => c _ _ (R.hcd x hx) fun _ => isT_tup _, js,
    R.tp, R.tb, R.to, R.td, R.ts, R.tc, R.tj, R.tod, R.tjd, l⟩
/-- what is written elsewhere does not touch a yard -/
theorem Rep.frame (hJ : Stays J) (R : Rep J H A S D τ p) {σ : Addr → Int} (k : Kp σ H H') (dj : Dj τ σ) : Rep J H' A S D τ p := by
  have st : ∀ {a : Addr} {o : HO}, H a = some o → τ a ≠ 0 → H' a = some o := fun {a o} h ht => k a o h fun z => ((dj a).elim ht z).elim
  have su : ∀ {a : Addr} {xs : List V}, H a = some (.tup xs) → H' a = some (.tup xs) := fun h => k _ _ h fun _ => isT_tup _
  refine ⟨st R.hb (by rw [R.tb]; decide), st R.ho (by rw [R.to]; decide), st R.hd (by rw [R.td]; decide), st R.hs (by rw [R.ts]; decide), st R.hc (by rw [R.tc]; decide), st R.hj (by rw [R.tj]; decide), fun x hx => st (R.hod x hx) (by have := R.tod x hx; omega), fun x hx => su (R.hdd x hx), fun x hx => su (R.hcd x hx), fun i hi => ?_,
    R.tp, R.tb, R.to, R.td, R.ts, R.tc, R.tj, R.tod, R.tjd, fun a ha n => ?_⟩
  · refine hJ H H' τ τ _ _ (R.hjd i hi) (fun b o hb h => k b o hb fun z => ?_) fun _ _ h => h
    rcases h with h | h | h
    · subst h
      have h2 := R.tjd i hi
      rcases dj (A.jd i) with q | q
      · omega
      · exact (z q).elim
    · rcases dj b with q | q
      · omega
      · exact (z q).elim
    · exact h
  · cases e : H a with
    | none => exact R.live a ha e
    | some o => rw [st e ha] at n; cases n
theorem Rep.same (hJ : Stays J) (R : Rep J H A S D τ p) (s : Same H H') : Rep J H' A S D τ p := R.frame hJ (σ := τ0) (Kp.of_same s) fun _ => .inr rfl
/-- more tags on new addresses -/
theorem Rep.tags (hJ : Stays J) (R : Rep J H A S D τ p) {τ' : Addr → Int} (h : ∀ a, H a ≠ none → τ' a = τ a) (l : Live τ' H) : Rep J H A S D τ' p :=
  ⟨R.hb, R.ho, R.hd, R.hs, R.hc, R.hj, R.hod, R.hdd, R.hcd, fun i hi => hJ H H τ τ' _ _ (R.hjd i hi) (fun _ _ z _ => z) fun b hb z => (h b hb).trans z,
    (h p (R.live p (by rw [R.tp]; decide))).trans R.tp, (h _ (some_ne R.hb)).trans R.tb, (h _ (some_ne R.ho)).trans R.to, (h _ (some_ne R.hd)).trans R.td, (h _ (some_ne R.hs)).trans R.ts, (h _ (some_ne R.hc)).trans R.tc, (h _ (some_ne R.hj)).trans R.tj,
    fun x hx => ⟨(h _ (some_ne (R.hod x hx))).trans (R.tod x hx).1, (R.tod x hx).2⟩, fun i hi => ⟨(h _ (R.live _ (by have := R.tjd i hi; omega))).trans (R.tjd i hi).1, (R.tjd i hi).2⟩, l⟩
end
end K20W
end
/-! R2 -/
section
set_option Elab.async false
set_option linter.all false
set_option maxRecDepth 100000
set_option maxHeartbeats 4000000
/-! New layers, new jobs; the yard's object, a job's object; the sheet's dict, a task's dict. -/
namespace K20W
open PySem L2 K20
/-- a layer is put on the layer x -/
def putS (S : Vs) (x : Int) : Vs := { S with m := S.m + 1, bs := fupd S.bs S.m (some x), ok := S.ok ++ [(S.m : Int)], ow := fupd S.ow S.m [] }
section
variable {J : JP} {H H' : Hp} {A : Ad} {S : Vs} {D : Du} {τ : Addr → Int} {p : Addr}
theorem Rep.puton (hJ : Stays J) (R : Rep J H A S D τ p) {x : Int} {q : Addr} (hm : ∀ y ∈ S.ok, 0 ≤ y ∧ y < S.m) (hq : H q = none) :
    Rep J (upd (upd (upd H A.b (.dK (dI (fun y => oV (fupd S.bs S.m (some x) y)) (rng (S.m + 1))))) q (.dK [])) A.o (.dK (dI (fun y => .ref (fupd A.od S.m q y)) (S.ok ++ [(S.m : Int)])))) { A with od := fupd A.od S.m q } (putS S x) D (tg τ q (10 + 2 * S.m)) p := by
  have bo : A.b ≠ A.o := tag_ne R.tb R.to (by decide)
  have nq : ∀ {a : Addr} {o : HO}, H a = some o → a ≠ q := fun h => ne_of_none h hq
  have st : ∀ {a : Addr} {o : HO}, H a = some o → (τ a = 2 → isT o) → (τ a = 3 → isT o) → (upd (upd (upd H A.b (.dK (dI (fun y => oV (fupd S.bs S.m (some x) y)) (rng (S.m + 1))))) q (.dK [])) A.o (.dK (dI (fun y => .ref (fupd A.od S.m q y)) (S.ok ++ [(S.m : Int)])))) a = some o := by
    intro a o h h2 h3
    have n2 : a ≠ A.b := fun e => by
      subst e
      rw [R.hb] at h
      cases h
      exact isT_dK (h2 R.tb)
    have n3 : a ≠ A.o := fun e => by
      subst e
      rw [R.ho] at h
      cases h
      exact isT_dK (h3 R.to)
    rw [upd_ne n3, upd_ne (nq h), upd_ne n2]
    exact h
  have tgo : ∀ {a : Addr} {o : HO}, H a = some o → tg τ q (10 + 2 * S.m) a = τ a := fun h => tg_ne (nq h)
  have st' : ∀ {a : Addr} {o : HO} {t : Int}, H a = some o → τ a = t → t ≠ 2 → t ≠ 3 → _ := fun {a o t} h e h2 h3 => st h (fun z => (h2 (e.symm.trans z)).elim) fun z => (h3 (e.symm.trans z)).elim
  refine ⟨?_, upd_same, st' R.hd R.td (by decide) (by decide), st' R.hs R.ts (by decide) (by decide), st' R.hc R.tc (by decide) (by decide), st' R.hj R.tj (by decide) (by decide), fun y hy => ?_, fun y hy => st (R.hdd y hy) (fun _ => isT_tup _) fun _ => isT_tup _, fun y hy => st (R.hcd y hy) (fun _ => isT_tup _) fun _ => isT_tup _, fun i hi => ?_,
    (tg_old hq (R.live p (by rw [R.tp]; decide))).trans R.tp, (tgo R.hb).trans R.tb, (tgo R.ho).trans R.to, (tgo R.hd).trans R.td, (tgo R.hs).trans R.ts, (tgo R.hc).trans R.tc, (tgo R.hj).trans R.tj, fun y hy => ?_, fun i hi => ?_, ?_⟩
  · rw [upd_ne bo, upd_ne (nq R.hb), upd_same] <;> rfl
  · show (upd _ A.o _) (fupd A.od S.m q y) = some (.dK (rowV (fupd S.ow S.m [] y)))
    by_cases e : y = S.m
    · subst e
      rw [fupd_same, fupd_same, upd_ne (nq R.ho).symm, upd_same] <;> rfl
    · rw [fupd_ne e, fupd_ne e]
      have hy : y ∈ S.ok := by
        rcases List.mem_append.mp hy with h | h
        · exact h
        · exact (e (List.mem_singleton.mp h)).elim
      have := R.tod y hy
      exact st (R.hod y hy) (fun z => by omega) fun z => by omega
  · have h2 := R.tjd i hi
    refine hJ H _ τ _ _ _ (R.hjd i hi) (fun b o hb h => ?_) fun b hb h => (tg_old hq hb).trans h
    rcases h with h | h | h
    · subst h
      exact st' hb h2.1 (by omega) (by omega)
    · exact st' hb h (by decide) (by decide)
    · exact st hb (fun _ => h) fun _ => h
  · show tg τ q (10 + 2 * S.m) (fupd A.od S.m q y) = 10 + 2 * y ∧ 0 ≤ y
    by_cases e : y = S.m
    · subst e
      rw [fupd_same, tg_same]
      exact ⟨rfl, by omega⟩
    · rw [fupd_ne e]
      have hy : y ∈ S.ok := by
        rcases List.mem_append.mp hy with h | h
        · exact h
        · exact (e (List.mem_singleton.mp h)).elim
      rw [tgo (R.hod y hy)]
      exact R.tod y hy
  · have h2 := R.tjd i hi
    exact ⟨(tg_old hq (R.live (A.jd i) (by rw [h2.1]; omega))).trans h2.1, h2.2⟩
  · refine (((Live.tg ?_ q _ ?_).wr A.o _))
    · exact (R.live.wr _ _).wr _ _
    · rw [upd_same]
      exact fun z => nomatch z
/-- a job begins -/
theorem Rep.newjob (hJ : Stays J) (R : Rep J H A S D τ p) {i : Int} {x : Jb} {q : Addr} (hi : i ∉ S.jk) (i0 : 0 ≤ i) (hq : τ q = 11 + 2 * i) (c : Ch τ 7 H H') (new : H' A.j = some (.dK (dI (fun z => .ref (fupd A.jd i q z)) (S.jk ++ [i])))) (jq : J H' τ q x) (l : Live τ H') :
    Rep J H' { A with jd := fupd A.jd i q } { S with jk := S.jk ++ [i], jo := fupd S.jo i x } D τ p := by
  have js := R.jobs_stay hJ c (by decide) (fun i hi => by have := R.tjd i hi; omega)
  have ho : ∀ x ∈ S.ok, τ (A.od x) = 7 → False := fun x hx z => by have := R.tod x hx; omega
  refine ⟨c _ _ R.hb fun z => absurd (z.symm.trans R.tb) (by decide), c _ _ R.ho fun z => absurd (z.symm.trans R.to) (by decide), c _ _ R.hd fun z => absurd (z.symm.trans R.td) (by decide), c _ _ R.hs fun z => absurd (z.symm.trans R.ts) (by decide), c _ _ R.hc fun z => absurd (z.symm.trans R.tc) (by decide), new,
    fun x hx => c _ _ (R.hod x hx) fun z => (ho x hx z).elim, fun x hx => c _ _ (R.hdd x hx) fun _ => isT_tup _, fun x hx => c _ _ (R.hcd x hx) fun _ => isT_tup _, fun j hj => ?_, R.tp, R.tb, R.to, R.td, R.ts, R.tc, R.tj, R.tod, fun j hj => ?_, l⟩
  · show J H' τ (fupd A.jd i q j) (fupd S.jo i x j)
    by_cases e : j = i
    · subst e
      rw [fupd_same, fupd_same]
      exact jq
    · rw [fupd_ne e, fupd_ne e]
      exact js j ((List.mem_append.mp hj).resolve_right fun h => e (List.mem_singleton.mp h))
  · show τ (fupd A.jd i q j) = 11 + 2 * j ∧ 0 ≤ j
    by_cases e : j = i
    · subst e
      rw [fupd_same]
      exact ⟨hq, i0⟩
    · rw [fupd_ne e]
      exact R.tjd j ((List.mem_append.mp hj).resolve_right fun h => e (List.mem_singleton.mp h))
/-- another table of the layers -/
theorem Rep.newowned (hJ : Stays J) (R : Rep J H A S D τ p) {q : Addr} {ok : List Int} (sub : ∀ x ∈ ok, x ∈ S.ok) (hq : τ q = 3) (new : H q = some (.dK (dI (fun x => .ref (A.od x)) ok))) : Rep J H { A with o := q } { S with ok := ok } D τ p :=
  ⟨R.hb, new, R.hd, R.hs, R.hc, R.hj, fun x hx => R.hod x (sub x hx), R.hdd, R.hcd, R.hjd, R.tp, R.tb, hq, R.td, R.ts, R.tc, R.tj, fun x hx => R.tod x (sub x hx), R.tjd, R.live⟩
end

/-! ### a job of the program -/
def kindS (dn : Bool) : Str := if dn then "down" else "up"
/-- what has been seen -/
def SeenV (H : Hp) (v : V) : Option (Int × Option Int) → Prop
  | none => v = .non
  | some (c, x) => ∃ t, v = .ref t ∧ H t = some (.tup [.int c, oV x])
def jfs (k : Str) (x : Jb) (ma na : Addr) (sv : V) : List (Str × V) :=
  [("kind", .str k), ("upper", .int x.up), ("lower", .int x.lo), ("place", .int x.pl), ("marks", .ref ma), ("seen", sv), ("half", .bl x.half), ("noted", .ref na), ("free", .bl x.free)]
/-- a Job object (CJ: the class) of the kind dn -/
def JobAt (CJ : Addr) (dn : Bool) : JP := fun H τ a x => ∃ (dx ma na : Addr) (sv : V), H a = some (.ins CJ dx (jfs (kindS dn) x ma na sv)) ∧ H ma = some (.lst []) ∧ H na = some (.lst (x.noted.map V.int)) ∧ τ ma = 8 ∧ τ na = 8 ∧ SeenV H sv x.seen
theorem SeenV.stay {H H' : Hp} {v : V} {o : Option (Int × Option Int)} (h : SeenV H v o) (k : ∀ t xs, H t = some (.tup xs) → H' t = some (.tup xs)) : SeenV H' v o := by
  cases o with
  | none => exact h
  | some p =>
    obtain ⟨t, e, q⟩ := h
    exact ⟨t, e, k t _ q⟩
theorem JobAt.stays (CJ : Addr) (dn : Bool) : Stays (JobAt CJ dn) := by
  rintro H H' τ τ' a x ⟨dx, ma, na, sv, h1, h2, h3, h4, h5, h6⟩ k t
  exact ⟨dx, ma, na, sv, k _ _ h1 (.inl rfl), k _ _ h2 (.inr (.inl h4)), k _ _ h3 (.inr (.inl h5)), t _ (some_ne h2) h4, t _ (some_ne h3) h5, h6.stay fun t xs z => k t _ z (.inr (.inr (isT_tup xs)))⟩
/-- a task of the law's own sheet -/
def tkv (k : Str) (x : Jb) (ma na : Addr) (sv : V) : List (Key × V) :=
  [(Sum.inr "kind", .str k), (Sum.inr "upper", .int x.up), (Sum.inr "lower", .int x.lo), (Sum.inr "place", .int x.pl), (Sum.inr "marks", .ref ma), (Sum.inr "seen", sv), (Sum.inr "half", .bl x.half), (Sum.inr "noted", .ref na), (Sum.inr "free", .bl x.free)]
def TaskAt (dn : Bool) : JP := fun H τ a x => ∃ (ma na : Addr) (sv : V), H a = some (.dK (tkv (kindS dn) x ma na sv)) ∧ H ma = some (.tup []) ∧ H na = some (.lst (x.noted.map V.int)) ∧ τ na = 8 ∧ SeenV H sv x.seen
theorem TaskAt.stays (dn : Bool) : Stays (TaskAt dn) := by
  rintro H H' τ τ' a x ⟨ma, na, sv, h1, h2, h3, h5, h6⟩ k t
  exact ⟨ma, na, sv, k _ _ h1 (.inl rfl), k _ _ h2 (.inr (.inr (isT_tup _))), k _ _ h3 (.inr (.inl h5)), t _ (some_ne h3) h5, h6.stay fun t xs z => k t _ z (.inr (.inr (isT_tup xs)))⟩

/-! ### the yard, the sheet -/
def yfs (bk : Addr) (n : Nat) (A : Ad) (bg : Nat) : List (Str × V) :=
  [("y_book", .ref bk), ("y_cells", .int n), ("y_bases", .ref A.b), ("y_owned", .ref A.o), ("y_dues", .ref A.d), ("y_seats", .ref A.s), ("y_contents", .ref A.c), ("y_jobs", .ref A.j), ("y_begun", .int bg)]
/-- a Yard at y (CY, CJ: the classes), its book at bk -/
def YardAt (CY CJ : Addr) (dn : Bool) (bk : Addr) (n : Nat) (H : Hp) (y : Addr) (S : Vs) (D : Du) (τ : Addr → Int) : Prop :=
  ∃ (A : Ad) (dx : Addr), H y = some (.ins CY dx (yfs bk n A S.bg)) ∧ Rep (JobAt CJ dn) H A S D τ y ∧ τ bk = 0
def skv (n : Nat) (A : Ad) (bg : Nat) : List (Key × V) :=
  [(Sum.inr "cells", .int n), (Sum.inr "bases", .ref A.b), (Sum.inr "owned", .ref A.o), (Sum.inr "dues", .ref A.d), (Sum.inr "seats", .ref A.s), (Sum.inr "contents", .ref A.c), (Sum.inr "jobs", .ref A.j), (Sum.inr "begun", .int bg)]
def SheetAt (dn : Bool) (n : Nat) (H : Hp) (p : Addr) (S : Vs) (D : Du) (τ : Addr → Int) : Prop :=
  ∃ A : Ad, H p = some (.dK (skv n A S.bg)) ∧ Rep (TaskAt dn) H A S D τ p
section
variable {CY CJ bk : Addr} {dn : Bool} {n : Nat} {H H' : Hp} {y p : Addr} {S : Vs} {D : Du} {τ σ : Addr → Int}
theorem YardAt.frame (h : YardAt CY CJ dn bk n H y S D τ) (k : Kp σ H H') (dj : Dj τ σ) : YardAt CY CJ dn bk n H' y S D τ := by
  obtain ⟨A, dx, h1, h2, h3⟩ := h
  exact ⟨A, dx, k _ _ h1 fun z => by
    rcases dj y with q | q
    · rw [h2.tp] at q
      cases q
    · exact (z q).elim, h2.frame (JobAt.stays CJ dn) k dj, h3⟩
theorem SheetAt.frame (h : SheetAt dn n H p S D τ) (k : Kp σ H H') (dj : Dj τ σ) : SheetAt dn n H' p S D τ := by
  obtain ⟨A, h1, h2⟩ := h
  exact ⟨A, k _ _ h1 fun z => by
    rcases dj p with q | q
    · rw [h2.tp] at q
      cases q
    · exact (z q).elim, h2.frame (TaskAt.stays dn) k dj⟩
theorem YardAt.live (h : YardAt CY CJ dn bk n H y S D τ) : Live τ H := by
  obtain ⟨A, dx, h1, h2, h3⟩ := h
  exact h2.live
theorem SheetAt.live (h : SheetAt dn n H p S D τ) : Live τ H := by
  obtain ⟨A, h1, h2⟩ := h
  exact h2.live
/-- two footprints stay apart while one grows -/
theorem Dj.grow {τ' : Addr → Int} (dj : Dj τ σ) (g : Gw τ τ' H) (l : Live σ H) : Dj τ' σ := fun a => by
  by_cases e : τ' a = 0
  · exact .inl e
  · right
    rcases g a e with h | h
    · exact (dj a).resolve_left h
    · exact not_tag l h
theorem Dj.symm (dj : Dj τ σ) : Dj σ τ := fun a => (dj a).symm
end
end K20W
end
/-! W1 -/
section
set_option Elab.async false
set_option linter.all false
set_option maxRecDepth 100000
set_option maxHeartbeats 4000000
namespace K20W
open PySem L2
abbrev s_is_number : Stmt := top 27
abbrev s_is_kind : Stmt := top 28
abbrev s_need_kind : Stmt := top 29
abbrev s_need_book : Stmt := top 30
abbrev s_need_word : Stmt := top 31
section
variable {P : Program} {w : World} {K : PySem.W.Frag} {mg : Str → Option Value} {base : Heap} {f : Addr} {fd : FuncData}
def spNum : Sp := fun vs H Q _ => ∃ i : Int, vs = [.int i] ∧ Q (.bl true) H
theorem sc_is_number : FnScope ["thing"] ["thing"] (defScope s_is_number) := ⟨rfl, rfl, rfl, by decide +kernel, rfl, by decide +kernel, by decide +kernel⟩
theorem ok_is_number (B : Blt mg) (F : Fu K "is_number" "is_number" s_is_number f fd) : FnOk P w K mg base CX0 1 f fd ["thing"] spNum := by
  refine F.ok sc_is_number (fun vs H Q E h => ?_) (fun cdv A outer s H vs Q E hr h => ?_)
  · obtain ⟨i, rfl, _⟩ := h
    rfl
  · obtain ⟨i, rfl, k⟩ := h
    refine ⟨_, pss_one (ps_ret (pe_and (pe_callB call_isi rfl B.isinstance (by decide +kernel) (pa_cons (pv 0) (pa_cons (pe_bltn rfl B.int PyProof.Rows.boot_int (v := .ty "int") rfl) pa_nil)))
      (pe_one (pe_not (pe_callB call_isi rfl B.isinstance (by decide +kernel) (pa_cons (pv 0) (pa_cons (pe_bltn rfl B.bool PyProof.Rows.boot_bool (v := .ty "bool") rfl) pa_nil))))))), ?_⟩
    refine ⟨_, rfl, .int i, .ty "int", .type "int", .type "int", true, rfl, .ty _, .base (.int i), kit_ty (by decide +kernel), true, rfl, ?_⟩
    refine iteT ⟨_, rfl, .int i, .ty "bool", .type "int", .type "bool", false, rfl, .ty _, .base (.int i), kit_ty (by decide +kernel), false, rfl, ?_⟩
    exact k
end
end K20W
end
/-! W2 -/
section
set_option Elab.async false
set_option linter.all false
set_option maxRecDepth 100000
set_option maxHeartbeats 4000000
/-! The methods of a Job. -/
namespace K20W
open PySem L2 K20
/-- the class Job, as the walk asks of it -/
structure JobC (K : PySem.W.Frag) (C : Addr) : Prop where
  cl : Cls K C
  kind : NoAttr K C "kind"
  upper : NoAttr K C "upper"
  lower : NoAttr K C "lower"
  place : NoAttr K C "place"
  marks : NoAttr K C "marks"
  seen : NoAttr K C "seen"
  half : NoAttr K C "half"
  noted : NoAttr K C "noted"
  free : NoAttr K C "free"
section
variable (k : Str) (x : Jb) (ma na : Addr) (sv : V)
theorem jf_kind : (jfs k x ma na sv).lookup ("kind" : Str) = some (.str k) := by kernel_rfl
theorem jf_upper : (jfs k x ma na sv).lookup ("upper" : Str) = some (.int x.up) := by kernel_rfl
theorem jf_lower : (jfs k x ma na sv).lookup ("lower" : Str) = some (.int x.lo) := by kernel_rfl
theorem jf_place : (jfs k x ma na sv).lookup ("place" : Str) = some (.int x.pl) := by kernel_rfl
theorem jf_marks : (jfs k x ma na sv).lookup ("marks" : Str) = some (.ref ma) := by kernel_rfl
theorem jf_seen : (jfs k x ma na sv).lookup ("seen" : Str) = some sv := by kernel_rfl
theorem jf_half : (jfs k x ma na sv).lookup ("half" : Str) = some (.bl x.half) := by kernel_rfl
theorem jf_noted : (jfs k x ma na sv).lookup ("noted" : Str) = some (.ref na) := by kernel_rfl
theorem jf_free : (jfs k x ma na sv).lookup ("free" : Str) = some (.bl x.free) := by kernel_rfl
theorem jf_put_seen (v : V) : putF "seen" v (jfs k x ma na sv) = jfs k x ma na v := by kernel_rfl
theorem jf_put_place (i : Int) : putF "place" (.int i) (jfs k x ma na sv) = jfs k { x with pl := i } ma na sv := by kernel_rfl
theorem jf_put_half (b : Bool) : putF "half" (.bl b) (jfs k x ma na sv) = jfs k { x with half := b } ma na sv := by kernel_rfl
end
theorem jf_len {k : Str} {x : Jb} {ma na : Addr} {sv : V} : (jfs k x ma na sv).length < 1000 := by show 9 < 1000; decide
abbrev s_job (i : Nat) : Stmt := inClass (top 35) i
section
variable {P : Program} {w : World} {K : PySem.W.Frag} {mg : Str → Option Value} {base : Heap} {f CJ : Addr} {fd : FuncData}
def spNext (CJ : Addr) : Sp := fun vs H Q _ => ∃ (a : Addr) (many : Int) (dx ma na : Addr) (k : Str) (x : Jb) (sv : V), vs = [.ref a, .int many] ∧ H a = some (.ins CJ dx (jfs k x ma na sv)) ∧ H ma = some (.lst []) ∧
  ∀ H', Same H H' → Q (oV (if x.pl < many then some x.pl else none)) H'
theorem sc_next : FnScope ["self", "many"] ["self", "many"] (defScope (s_job 2)) := ⟨rfl, rfl, rfl, by decide +kernel, rfl, by decide +kernel, by decide +kernel⟩
theorem ok_next (T : JobC K CJ) (F : Fu K "next_cell" "Job.next_cell" (s_job 2) f fd) : FnOk P w K mg base CX0 1 f fd ["self", "many"] (spNext CJ) := by
  refine F.ok sc_next (fun vs H Q E h => ?_) (fun cdv A outer s H vs Q E hr h => ?_)
  · obtain ⟨a, many, _, _, _, _, _, _, rfl, _⟩ := h
    rfl
  · obtain ⟨a, many, dx, ma, na, k, x, sv, rfl, h1, h2, q⟩ := h
    refine ⟨_, pss_cons (ps_if (pt_cmpR (op_neD hr.units) (pe_fld (pv 0) rfl) (pe_lst pa_nil) (nomark _)) (pss_one (ps_ret (pe_ix ix_list (pe_fld (pv 0) rfl) pe_int (fun _ _ => rfl)))) pss_nil)
      (pss_one (ps_ret (pe_ifExp (pt_cmpR op_lt (pe_fld (pv 0) rfl) (pv 1) (nomark _)) (pe_fld (pv 0) rfl) pe_non))), ?_⟩
    refine ⟨_, rfl, a, CJ, dx, _, _, rfl, h1, T.cl, T.marks, jf_marks .., by decide, fun p hp => ?_⟩
    have nm : ma ≠ p := ne_of_none h2 hp
    have h1' : (upd H p (.lst [])) a = some (.ins CJ dx (jfs k x ma na sv)) := by rw [upd_ne (ne_of_none h1 hp)]; exact h1
    refine ⟨.list [], .list [], .lst (SqL.of (by rw [upd_ne nm]; exact h2)) .nil, .lst (SqL.of upd_same) .nil, by decide +kernel, by decide +kernel, _, rfl, ?_⟩
    rw [show PyData.eqv (.list []) (.list []) = true from by decide +kernel]
    refine iteF ?_
    refine ⟨_, rfl, a, CJ, dx, _, _, rfl, h1', T.cl, T.place, jf_place .., _, rfl, _, _, rfl, rfl, _, rfl, ?_⟩
    have sm : Same H (upd H p (.lst [])) := Same.newS (Same.refl H) hp
    by_cases c : x.pl < many
    · rw [decide_eq_true c]
      refine iteT ⟨_, rfl, a, CJ, dx, _, _, rfl, h1', T.cl, T.place, jf_place .., ?_⟩
      have := q _ sm
      rw [if_pos c] at this
      exact this
    · rw [decide_eq_false c]
      refine iteF ?_
      have := q _ sm
      rw [if_neg c] at this
      exact this
/-- a cell was copied -/
def spCopied (CJ : Addr) : Sp := fun vs H Q _ => ∃ (a : Addr) (c : Int) (dx ma na : Addr) (k : Str) (x : Jb) (sv : V), vs = [.ref a, .int c] ∧ H a = some (.ins CJ dx (jfs k x ma na sv)) ∧ H ma = some (.lst []) ∧
  Q .non (upd H a (.ins CJ dx (jfs k { x with pl := x.pl + 1 } ma na .non)))
theorem sc_copied : FnScope ["self", "cell", "other"] ["self", "cell"] (defScope (s_job 4)) := ⟨rfl, rfl, rfl, by decide +kernel, rfl, by decide +kernel, by decide +kernel⟩
theorem ok_copied (T : JobC K CJ) (F : Fu K "copied" "Job.copied" (s_job 4) f fd) : FnOk P w K mg base CX0 1 f fd ["self", "cell"] (spCopied CJ) := by
  refine F.ok sc_copied (fun vs H Q E h => ?_) (fun cdv A outer s H vs Q E hr h => ?_)
  · obtain ⟨a, c, _, _, _, _, _, _, rfl, _⟩ := h
    rfl
  · obtain ⟨a, c, dx, ma, na, k, x, sv, rfl, h1, h2, q⟩ := h
    refine ⟨_, pss_cons (ps_fld (pv 0) pe_non rfl) (pss_one (ps_if (pt_cmpR op_in_seq (pv 1) (pe_fld (pv 0) rfl) rfl) (pss_one ps_never)
      (pss_one (ps_fld (pv 0) (pe_op op_add (pe_fld (pv 0) rfl) pe_int) rfl)))), ?_⟩
    have e1 : (upd H a (.ins CJ dx (jfs k x ma na .non))) a = some (.ins CJ dx (jfs k x ma na .non)) := upd_same
    have nm : ma ≠ a := ne_of h2 h1 (by intro z; cases z)
    refine ⟨_, rfl, a, CJ, dx, _, rfl, h1, T.cl, T.seen, jf_len, ?_⟩
    rw [jf_put_seen]
    refine ⟨_, rfl, _, rfl, a, CJ, dx, _, _, rfl, e1, T.cl, T.marks, jf_marks .., ma, [], rfl, .inl (SqL.of (by rw [upd_ne nm]; exact h2)), rfl, rfl, _, rfl, ?_⟩
    refine iteF ?_
    refine ⟨_, rfl, a, CJ, dx, _, _, rfl, e1, T.cl, T.place, jf_place .., _, _, rfl, rfl, _, rfl, a, CJ, dx, _, rfl, e1, T.cl, T.place, jf_len, ?_⟩
    rw [jf_put_place, upd_upd]
    exact q
/-- a new job -/
def spJobInit (CJ : Addr) : Sp := fun vs H Q _ => ∃ (a dx : Addr) (k : Str) (u l : Int), vs = [.ref a, .str k, .int u, .int l] ∧ H a = some (.ins CJ dx []) ∧
  ∀ ma na H', H ma = none → H na = none → ma ≠ na → H' a = some (.ins CJ dx (jfs k ⟨u, l, 0, none, false, [], false⟩ ma na .non)) → H' ma = some (.lst []) → H' na = some (.lst []) → (∀ b o, H b = some o → b ≠ a → H' b = some o) → Q .non H'
theorem sc_jinit : FnScope ["self", "kind", "upper", "lower"] ["self", "kind", "upper", "lower"] (defScope (s_job 0)) := ⟨rfl, rfl, rfl, by decide +kernel, rfl, by decide +kernel, by decide +kernel⟩
theorem len1000 {fs : List (Str × V)} (h : Nat.ble (fs.length + 1) 1000 = true) : fs.length < 1000 := Nat.le_of_ble_eq_true h
theorem ok_jinit (T : JobC K CJ) (F : Fu K "__init__" "Job.__init__" (s_job 0) f fd) : FnOk P w K mg base CX0 1 f fd ["self", "kind", "upper", "lower"] (spJobInit CJ) := by
  refine F.ok sc_jinit (fun vs H Q E h => ?_) (fun cdv A outer s H vs Q E hr h => ?_)
  · obtain ⟨a, _, _, _, _, rfl, _⟩ := h
    rfl
  · obtain ⟨a, dx, k, u, l, rfl, h1, q⟩ := h
    refine ⟨_, pss_cons (ps_fld (pv 0) (pv 1) rfl) (pss_cons (ps_fld (pv 0) (pv 2) rfl) (pss_cons (ps_fld (pv 0) (pv 3) rfl) (pss_cons (ps_fld (pv 0) pe_int rfl)
      (pss_cons (ps_fld (pv 0) (pe_lst pa_nil) rfl) (pss_cons (ps_fld (pv 0) pe_non rfl) (pss_cons (ps_fld (pv 0) pe_bl rfl) (pss_cons (ps_fld (pv 0) (pe_lst pa_nil) rfl) (pss_one (ps_fld (pv 0) pe_bl rfl))))))))), ?_⟩
    refine ⟨_, rfl, _, rfl, a, CJ, dx, _, rfl, h1, T.cl, T.kind, len1000 (by kernel_rfl), ?_⟩
    refine ⟨_, rfl, _, rfl, a, CJ, dx, _, rfl, upd_same, T.cl, T.upper, len1000 (by kernel_rfl), ?_⟩
    refine ⟨_, rfl, _, rfl, a, CJ, dx, _, rfl, upd_same, T.cl, T.lower, len1000 (by kernel_rfl), ?_⟩
    refine ⟨_, rfl, a, CJ, dx, _, rfl, upd_same, T.cl, T.place, len1000 (by kernel_rfl), ?_⟩
    rw [upd_upd, upd_upd, upd_upd]
    refine ⟨by decide, fun ma hma => ?_⟩
    have ama : a ≠ ma := ne_of_none upd_same hma
    refine ⟨_, rfl, a, CJ, dx, _, rfl, by rw [upd_ne ama]; exact upd_same, T.cl, T.marks, len1000 (by kernel_rfl), ?_⟩
    refine ⟨_, rfl, a, CJ, dx, _, rfl, upd_same, T.cl, T.seen, len1000 (by kernel_rfl), ?_⟩
    refine ⟨_, rfl, a, CJ, dx, _, rfl, upd_same, T.cl, T.half, len1000 (by kernel_rfl), ?_⟩
    rw [upd_upd, upd_upd]
    refine ⟨by decide, fun na hna => ?_⟩
    have ana : a ≠ na := ne_of_none upd_same hna
    refine ⟨_, rfl, a, CJ, dx, _, rfl, by rw [upd_ne ana]; exact upd_same, T.cl, T.noted, len1000 (by kernel_rfl), ?_⟩
    refine ⟨_, rfl, a, CJ, dx, _, rfl, upd_same, T.cl, T.free, len1000 (by kernel_rfl), ?_⟩
    rw [upd_upd]
    rw [upd_ne ama.symm] at hma
    rw [upd_ne ana.symm] at hna
    have mn : ma ≠ na := fun e => by
      subst e
      rw [upd_same] at hna
      cases hna
    rw [upd_ne mn.symm, upd_ne ana.symm] at hna
    refine q ma na _ hma hna mn ?_ ?_ ?_ fun b o hb hne => ?_
    · rw [upd_same]
      kernel_rfl
    · rw [upd_ne ama.symm, upd_ne mn, upd_ne ama.symm, upd_same]
    · rw [upd_ne ana.symm, upd_same]
    · rw [upd_ne hne, upd_ne (ne_of_none hb hna), upd_ne hne, upd_ne (ne_of_none hb hma), upd_ne hne]
      exact hb
end
end K20W
end
/-! W3 -/
section
set_option Elab.async false
set_option linter.all false
set_option maxRecDepth 100000
set_option maxHeartbeats 4000000
/-! Job.twin. -/
namespace K20W
open PySem L2 K20
section
variable {P : Program} {w : World} {K : PySem.W.Frag} {mg : Str → Option Value} {base : Heap} {f CJ : Addr} {fd : FuncData}
def spTwin (CJ : Addr) : Sp := fun vs H Q _ => ∃ (a dx ma na : Addr) (k : Str) (x : Jb) (sv : V) (l : List V), vs = [.ref a] ∧ H a = some (.ins CJ dx (jfs k x ma na sv)) ∧ H ma = some (.lst []) ∧ H na = some (.lst l) ∧
  ∀ (q dx' ma' na' : Addr) (H' : Hp), H q = none → H ma' = none → H na' = none → ma' ≠ q → na' ≠ q → ma' ≠ na' → Same H H' → H' q = some (.ins CJ dx' (jfs k x ma' na' sv)) → H' ma' = some (.lst []) → H' na' = some (.lst l) → Q (.ref q) H'
theorem sc_twin : FnScope ["self", "found"] ["self"] (defScope (s_job 1)) := ⟨rfl, rfl, rfl, by decide +kernel, rfl, by decide +kernel, by decide +kernel⟩
theorem ok_twin (B : Blt mg) (T : JobC K CJ) (gJ : mg "Job" = some (.ref CJ)) (I : Id P w K mg base CJ 1 ["self", "kind", "upper", "lower"] (spJobInit CJ)) (F : Fu K "twin" "Job.twin" (s_job 1) f fd) : FnOk P w K mg base CX0 3 f fd ["self"] (spTwin CJ) := by
  obtain ⟨fi, fdi, G, M, b⟩ := I
  refine F.ok sc_twin (fun vs H Q E h => ?_) (fun cdv A outer s H vs Q E hr h => ?_)
  · obtain ⟨a, _, _, _, _, _, _, _, rfl, _⟩ := h
    rfl
  · obtain ⟨a, dx, ma, na, k, x, sv, l, rfl, h1, h2, h3, q⟩ := h
    refine ⟨_, pss_cons (ps_set (i := 1) sc_twin.nd rfl (.inl rfl) (pe_make M G hr rfl gJ b .nil pass0 (pa_cons (pe_fld (pv 0) rfl) (pa_cons (pe_fld (pv 0) rfl) (pa_cons (pe_fld (pv 0) rfl) pa_nil)))))
      (pss_cons (ps_asg (pe_tup (pa_cons (pe_fld (pv 0) rfl) (pa_cons (pe_callTy call_list_of rfl B.list boot_list (pa_cons (pe_fld (pv 0) rfl) pa_nil)) (pa_cons (pe_fld (pv 0) rfl) pa_nil))))
          (pg_tup rfl (pgs_cons (pg_attr (pv 1)) (pgs_cons (pg_attr (pv 1)) (pgs_cons (pg_attr (pv 1)) pgs_nil)))))
      (pss_cons (ps_asg (pe_tup (pa_cons (pe_fld (pv 0) rfl) (pa_cons (pe_callTy call_list_of rfl B.list boot_list (pa_cons (pe_fld (pv 0) rfl) pa_nil)) (pa_cons (pe_fld (pv 0) rfl) pa_nil))))
          (pg_tup rfl (pgs_cons (pg_attr (pv 1)) (pgs_cons (pg_attr (pv 1)) (pgs_cons (pg_attr (pv 1)) pgs_nil)))))
      (pss_one (ps_ret (pv 1))))), ?_⟩
    refine ⟨_, rfl, a, CJ, dx, _, _, rfl, h1, T.cl, T.kind, jf_kind .., _, rfl, a, CJ, dx, _, _, rfl, h1, T.cl, T.upper, jf_upper .., _, rfl, a, CJ, dx, _, _, rfl, h1, T.cl, T.lower, jf_lower .., ?_⟩
    intro y dy ny ndy dne
    refine ⟨y, dy, k, x.up, x.lo, rfl, upd_same, fun m0 n0 H1 e1 e2 e3 e4 e5 e6 e7 => ⟨rfl, ?_⟩⟩
    have s1 : Same H H1 := fun b o hb => e7 b o (by rw [upd_ne (ne_of_none hb ny), upd_ne (ne_of_none hb ndy)]; exact hb) (ne_of_none hb ny)
    -- found.place, found.marks, found.seen
    refine ⟨_, rfl, a, CJ, dx, _, _, rfl, s1 _ _ h1, T.cl, T.place, jf_place .., _, rfl, a, CJ, dx, _, _, rfl, s1 _ _ h1, T.cl, T.marks, jf_marks .., ma, _, rfl, .inl (SqL.of (s1 _ _ h2)), fun m1 hm1 => ?_⟩
    have s2 : Same H1 (upd H1 m1 (.lst [])) := Same.newS (Same.refl H1) hm1
    refine ⟨_, rfl, a, CJ, dx, _, _, rfl, s2 _ _ (s1 _ _ h1), T.cl, T.seen, jf_seen .., (show 3 ≤ sizeLine from by decide), fun t1 ht1 => ?_⟩
    have s3 : Same H1 (upd (upd H1 m1 (.lst [])) t1 (.tup [.int x.pl, .ref m1, sv])) := Same.newS s2 ht1
    refine ⟨t1, _, rfl, SqT.of upd_same, rfl, _, _, rfl, _, rfl, y, CJ, dy, _, rfl, s3 _ _ e4, T.cl, T.place, jf_len, ?_⟩
    rw [jf_put_place]
    refine ⟨_, _, rfl, _, rfl, y, CJ, dy, _, rfl, upd_same, T.cl, T.marks, jf_len, ?_⟩
    rw [upd_upd]
    refine ⟨_, _, rfl, _, rfl, y, CJ, dy, _, rfl, upd_same, T.cl, T.seen, len1000 (by kernel_rfl), rfl, ?_⟩
    rw [upd_upd]
    -- the heap so far
    generalize hH2 : upd (upd (upd H1 m1 (.lst [])) t1 (.tup [.int x.pl, .ref m1, sv])) y _ = H2
    have ny1 : ∀ {b : Addr} {o : HO}, H b = some o → b ≠ y := fun hb => ne_of_none hb ny
    have s4 : Same H H2 := fun b o hb => by
      rw [← hH2, upd_ne (ny1 hb)]
      exact s3 _ _ (s1 _ _ hb)
    have g1 : H2 y = some (.ins CJ dy (jfs k { x with half := false, noted := [], free := false, seen := none } m1 n0 sv)) := by
      rw [← hH2, upd_same]
      kernel_rfl
    have ym1 : m1 ≠ y := (ne_of_none e4 hm1).symm
    have m1t : m1 ≠ t1 := fun e => by
      subst e
      rw [upd_same] at ht1
      cases ht1
    have g2 : H2 m1 = some (.lst []) := by
      rw [← hH2, upd_ne ym1, upd_ne m1t, upd_same]
    have nm1 : H m1 = none := s1.free hm1
    refine ⟨_, rfl, a, CJ, dx, _, _, rfl, s4 _ _ h1, T.cl, T.half, jf_half .., _, rfl, a, CJ, dx, _, _, rfl, s4 _ _ h1, T.cl, T.noted, jf_noted .., na, _, rfl, .inl (SqL.of (s4 _ _ h3)), fun n1 hn1 => ?_⟩
    have s5 : Same H2 (upd H2 n1 (.lst l)) := Same.newS (Same.refl H2) hn1
    refine ⟨_, rfl, a, CJ, dx, _, _, rfl, s5 _ _ (s4 _ _ h1), T.cl, T.free, jf_free .., (show 3 ≤ sizeLine from by decide), fun t2 ht2 => ?_⟩
    have s6 : Same H2 (upd (upd H2 n1 (.lst l)) t2 (.tup [.bl x.half, .ref n1, .bl x.free])) := Same.newS s5 ht2
    refine ⟨t2, _, rfl, SqT.of upd_same, rfl, _, _, rfl, _, rfl, y, CJ, dy, _, rfl, s6 _ _ g1, T.cl, T.half, jf_len, ?_⟩
    rw [jf_put_half]
    refine ⟨_, _, rfl, _, rfl, y, CJ, dy, _, rfl, upd_same, T.cl, T.noted, jf_len, ?_⟩
    rw [upd_upd]
    refine ⟨_, _, rfl, _, rfl, y, CJ, dy, _, rfl, upd_same, T.cl, T.free, len1000 (by kernel_rfl), rfl, ?_⟩
    rw [upd_upd]
    have n1y : n1 ≠ y := (ne_of_none g1 hn1).symm
    have n1t : n1 ≠ t2 := fun e => by
      subst e
      rw [upd_same] at ht2
      cases ht2
    refine ⟨_, rfl, q y dy m1 n1 _ ny nm1 (s4.free hn1) ym1 n1y (ne_of_none g2 hn1) (fun b o hb => ?_) ?_ ?_ ?_⟩
    · rw [upd_ne (ny1 hb)]
      exact s6 _ _ (s4 _ _ hb)
    · rw [upd_same]
      kernel_rfl
    · rw [upd_ne ym1]
      exact s6 _ _ g2
    · rw [upd_ne n1y, upd_ne n1t, upd_same]
end
end K20W
end
/-! W4 -/
section
set_option Elab.async false
set_option linter.all false
set_option maxRecDepth 100000
set_option maxHeartbeats 4000000
/-! The book; how a job copies. -/
namespace K20W
open PySem L2 K20
structure BookC (K : PySem.W.Frag) (C : Addr) : Prop where
  cl : Cls K C
  words : NoAttr K C "b_words"
  bars : NoAttr K C "b_bars"
  notes : NoAttr K C "b_notes"
structure BookR where
  up : Str
  down : Str
  writes : Str
  moves : Str
  finish : Str
  counts : Str
  bars : List Str
  notes : List Str
def bfs (tw tb tn : Addr) : List (Str × V) := [("b_words", .ref tw), ("b_bars", .ref tb), ("b_notes", .ref tn)]
def wordsV (B : BookR) : List V := [.str B.up, .str B.down, .str B.writes, .str B.moves, .str B.finish, .str B.counts]
/-- a Book at bk -/
def BookAt (CB : Addr) (H : Hp) (bk : Addr) (B : BookR) : Prop := ∃ dx tw tb tn, H bk = some (.ins CB dx (bfs tw tb tn)) ∧ H tw = some (.tup (wordsV B)) ∧ H tb = some (.tup (B.bars.map V.str)) ∧ H tn = some (.tup (B.notes.map V.str))
theorem BookAt.keep {CB : Addr} {H H' : Hp} {bk : Addr} {B : BookR} {τ : Addr → Int} (h : BookAt CB H bk B) (k : Kp τ H H') (t : τ bk = 0) : BookAt CB H' bk B := by
  obtain ⟨dx, tw, tb, tn, h1, h2, h3, h4⟩ := h
  exact ⟨dx, tw, tb, tn, k _ _ h1 fun z => (z t).elim, k _ _ h2 fun _ => isT_tup _, k _ _ h3 fun _ => isT_tup _, k _ _ h4 fun _ => isT_tup _⟩
theorem BookAt.same {CB : Addr} {H H' : Hp} {bk : Addr} {B : BookR} (h : BookAt CB H bk B) (s : Same H H') : BookAt CB H' bk B := h.keep (τ := τ0) (Kp.of_same s) rfl
/-- the choices as the plain model has them -/
def par (B : BookR) (dn : Bool) (n : Nat) : Par where
  dn := dn
  one := decide ((if dn then B.down else B.up) = "one")
  blind := decide (B.up = "blind")
  now := decide (B.moves = "now")
  lnk := decide (B.finish = "link")
  cf := decide (B.counts = "first")
  cl := decide (B.counts = "last")
  n := n
theorem kind_down (dn : Bool) : decide (V.str (kindS dn) = V.str "down") = dn := by cases dn <;> decide +kernel
theorem kind_up (dn : Bool) : decide (V.str (kindS dn) = V.str "up") = !dn := by cases dn <;> decide +kernel
theorem vstr (a b : Str) : decide (V.str a = V.str b) = decide (a = b) := by
  rw [decide_eq_decide]
  exact ⟨V.str.inj, fun e => by rw [e]⟩
theorem one_of (B : BookR) (dn : Bool) (n : Nat) : (par B dn n).one = decide ((if dn then B.down else B.up) = "one") := rfl
abbrev s_book (i : Nat) : Stmt := inClass (top 33) i
section
variable {P : Program} {w : World} {K : PySem.W.Frag} {mg : Str → Option Value} {base : Heap} {f CB CJ : Addr} {fd : FuncData}
/-- a property that reads the i-th word -/
def spWord (CB : Addr) (g : BookR → Str) : Sp := fun vs H Q _ => ∃ (a : Addr) (B : BookR), vs = [.ref a] ∧ BookAt CB H a B ∧ Q (.str (g B)) H
theorem bf_words (tw tb tn : Addr) : (bfs tw tb tn).lookup ("b_words" : Str) = some (.ref tw) := by kernel_rfl
theorem bf_bars (tw tb tn : Addr) : (bfs tw tb tn).lookup ("b_bars" : Str) = some (.ref tb) := by kernel_rfl
theorem sc_self (st : Stmt) (h : FnScope ["self"] ["self"] (defScope st)) : FnScope ["self"] ["self"] (defScope st) := h
theorem ok_bup (T : BookC K CB) (F : Fu K "up" "Book.up" (s_book 1) f fd) : FnOk P w K mg base CX0 1 f fd ["self"] (spWord CB BookR.up) := by
  have sc : FnScope ["self"] ["self"] (defScope (s_book 1)) := ⟨rfl, rfl, rfl, by decide +kernel, rfl, by decide +kernel, by decide +kernel⟩
  refine F.ok sc (fun vs H Q E h => ?_) (fun cdv A outer s H vs Q E hr h => ?_)
  · obtain ⟨a, B, rfl, _⟩ := h
    rfl
  · obtain ⟨a, B, rfl, ⟨dx, tw, tb, tn, h1, h2, h3, h4⟩, q⟩ := h
    refine ⟨_, pss_one (ps_ret (pe_ix ix_tup (pe_fld (pv 0) rfl) pe_int (fun _ _ => rfl))), ?_⟩
    exact ⟨_, rfl, a, CB, dx, _, _, rfl, h1, T.cl, T.words, bf_words .., tw, _, _, _, rfl, rfl, SqT.of h2, atI_nat (xs := wordsV B) (j := 0) rfl, q⟩
theorem ok_bdown (T : BookC K CB) (F : Fu K "down" "Book.down" (s_book 2) f fd) : FnOk P w K mg base CX0 1 f fd ["self"] (spWord CB BookR.down) := by
  have sc : FnScope ["self"] ["self"] (defScope (s_book 2)) := ⟨rfl, rfl, rfl, by decide +kernel, rfl, by decide +kernel, by decide +kernel⟩
  refine F.ok sc (fun vs H Q E h => ?_) (fun cdv A outer s H vs Q E hr h => ?_)
  · obtain ⟨a, B, rfl, _⟩ := h
    rfl
  · obtain ⟨a, B, rfl, ⟨dx, tw, tb, tn, h1, h2, h3, h4⟩, q⟩ := h
    refine ⟨_, pss_one (ps_ret (pe_ix ix_tup (pe_fld (pv 0) rfl) pe_int (fun _ _ => rfl))), ?_⟩
    exact ⟨_, rfl, a, CB, dx, _, _, rfl, h1, T.cl, T.words, bf_words .., tw, _, _, _, rfl, rfl, SqT.of h2, atI_nat (xs := wordsV B) (j := 1) rfl, q⟩
theorem ok_bmoves (T : BookC K CB) (F : Fu K "moves" "Book.moves" (s_book 4) f fd) : FnOk P w K mg base CX0 1 f fd ["self"] (spWord CB BookR.moves) := by
  have sc : FnScope ["self"] ["self"] (defScope (s_book 4)) := ⟨rfl, rfl, rfl, by decide +kernel, rfl, by decide +kernel, by decide +kernel⟩
  refine F.ok sc (fun vs H Q E h => ?_) (fun cdv A outer s H vs Q E hr h => ?_)
  · obtain ⟨a, B, rfl, _⟩ := h
    rfl
  · obtain ⟨a, B, rfl, ⟨dx, tw, tb, tn, h1, h2, h3, h4⟩, q⟩ := h
    refine ⟨_, pss_one (ps_ret (pe_ix ix_tup (pe_fld (pv 0) rfl) pe_int (fun _ _ => rfl))), ?_⟩
    exact ⟨_, rfl, a, CB, dx, _, _, rfl, h1, T.cl, T.words, bf_words .., tw, _, _, _, rfl, rfl, SqT.of h2, atI_nat (xs := wordsV B) (j := 3) rfl, q⟩
theorem ok_bfinish (T : BookC K CB) (F : Fu K "finish" "Book.finish" (s_book 5) f fd) : FnOk P w K mg base CX0 1 f fd ["self"] (spWord CB BookR.finish) := by
  have sc : FnScope ["self"] ["self"] (defScope (s_book 5)) := ⟨rfl, rfl, rfl, by decide +kernel, rfl, by decide +kernel, by decide +kernel⟩
  refine F.ok sc (fun vs H Q E h => ?_) (fun cdv A outer s H vs Q E hr h => ?_)
  · obtain ⟨a, B, rfl, _⟩ := h
    rfl
  · obtain ⟨a, B, rfl, ⟨dx, tw, tb, tn, h1, h2, h3, h4⟩, q⟩ := h
    refine ⟨_, pss_one (ps_ret (pe_ix ix_tup (pe_fld (pv 0) rfl) pe_int (fun _ _ => rfl))), ?_⟩
    exact ⟨_, rfl, a, CB, dx, _, _, rfl, h1, T.cl, T.words, bf_words .., tw, _, _, _, rfl, rfl, SqT.of h2, atI_nat (xs := wordsV B) (j := 4) rfl, q⟩
theorem ok_bcounts (T : BookC K CB) (F : Fu K "counts" "Book.counts" (s_book 6) f fd) : FnOk P w K mg base CX0 1 f fd ["self"] (spWord CB BookR.counts) := by
  have sc : FnScope ["self"] ["self"] (defScope (s_book 6)) := ⟨rfl, rfl, rfl, by decide +kernel, rfl, by decide +kernel, by decide +kernel⟩
  refine F.ok sc (fun vs H Q E h => ?_) (fun cdv A outer s H vs Q E hr h => ?_)
  · obtain ⟨a, B, rfl, _⟩ := h
    rfl
  · obtain ⟨a, B, rfl, ⟨dx, tw, tb, tn, h1, h2, h3, h4⟩, q⟩ := h
    refine ⟨_, pss_one (ps_ret (pe_ix ix_tup (pe_fld (pv 0) rfl) pe_int (fun _ _ => rfl))), ?_⟩
    exact ⟨_, rfl, a, CB, dx, _, _, rfl, h1, T.cl, T.words, bf_words .., tw, _, _, _, rfl, rfl, SqT.of h2, atI_nat (xs := wordsV B) (j := 5) rfl, q⟩
def spBars (CB : Addr) : Sp := fun vs H Q _ => ∃ (a : Addr) (B : BookR), vs = [.ref a] ∧ BookAt CB H a B ∧ ∀ t, H t = some (.tup (B.bars.map V.str)) → Q (.ref t) H
theorem ok_bbars (T : BookC K CB) (F : Fu K "bars" "Book.bars" (s_book 7) f fd) : FnOk P w K mg base CX0 1 f fd ["self"] (spBars CB) := by
  have sc : FnScope ["self"] ["self"] (defScope (s_book 7)) := ⟨rfl, rfl, rfl, by decide +kernel, rfl, by decide +kernel, by decide +kernel⟩
  refine F.ok sc (fun vs H Q E h => ?_) (fun cdv A outer s H vs Q E hr h => ?_)
  · obtain ⟨a, B, rfl, _⟩ := h
    rfl
  · obtain ⟨a, B, rfl, ⟨dx, tw, tb, tn, h1, h2, h3, h4⟩, q⟩ := h
    refine ⟨_, pss_one (ps_ret (pe_fld (pv 0) rfl)), ?_⟩
    exact ⟨_, rfl, a, CB, dx, _, _, rfl, h1, T.cl, T.bars, bf_bars .., q tb h3⟩

/-! ### jobs.py -/
abbrev s_twofold : Stmt := top 37
abbrev s_looked : Stmt := top 38
abbrev s_give : Stmt := top 39
abbrev s_copyon : Stmt := top 40
/-- the getters of a Book -/
structure BookP (P : Program) (w : World) (K : PySem.W.Frag) (mg : Str → Option Value) (base : Heap) (CB : Addr) : Prop where
  up : Pd P w K mg base CB "up" 1 (spWord CB BookR.up)
  down : Pd P w K mg base CB "down" 1 (spWord CB BookR.down)
  moves : Pd P w K mg base CB "moves" 1 (spWord CB BookR.moves)
  finish : Pd P w K mg base CB "finish" 1 (spWord CB BookR.finish)
  counts : Pd P w K mg base CB "counts" 1 (spWord CB BookR.counts)
  bars : Pd P w K mg base CB "bars" 1 (spBars CB)
/-- a property at a Book: the object is one -/
theorem BookAt.ins {H : Hp} {bk : Addr} {B : BookR} (h : BookAt CB H bk B) : ∃ dx fs, H bk = some (.ins CB dx fs) := by
  obtain ⟨dx, tw, tb, tn, h1, _⟩ := h
  exact ⟨dx, _, h1⟩
def spTwofold (CB CJ : Addr) : Sp := fun vs H Q _ => ∃ (a bk dx ma na : Addr) (dn : Bool) (x : Jb) (sv : V) (B : BookR), vs = [.ref a, .ref bk] ∧ H a = some (.ins CJ dx (jfs (kindS dn) x ma na sv)) ∧ BookAt CB H bk B ∧ Q (.bl (!(par B dn 0).one)) H
theorem ok_twofold (TB : BookC K CB) (TJ : JobC K CJ) (GB : BookP P w K mg base CB) (F : Fu K "is_twofold" "is_twofold" s_twofold f fd) : FnOk P w K mg base CX0 3 f fd ["job", "book"] (spTwofold CB CJ) := by
  have sc : FnScope ["job", "book"] ["job", "book"] (defScope s_twofold) := ⟨rfl, rfl, rfl, by decide +kernel, rfl, by decide +kernel, by decide +kernel⟩
  obtain ⟨pu, gu, fu, Gu, Pu, bu⟩ := GB.up
  obtain ⟨pd, gd, fdd, Gd', Pd', bd⟩ := GB.down
  refine F.ok sc (fun vs H Q E h => ?_) (fun cdv A outer s H vs Q E hr h => ?_)
  · obtain ⟨a, bk, _, _, _, _, _, _, _, rfl, _⟩ := h
    rfl
  · obtain ⟨a, bk, dx, ma, na, dn, x, sv, B, rfl, h1, h2, q⟩ := h
    obtain ⟨db, fs, hb⟩ := h2.ins
    refine ⟨_, pss_one (ps_ret (pe_cmpR op_ne (pe_ifExp (pt_cmpR op_eq (pe_fld (pv 0) rfl) pe_str (nomark _)) (pe_prop (pv 1) TB.cl Pd' Gd' hr bd .nil pass0 rfl) (pe_prop (pv 1) TB.cl Pu Gu hr bu .nil pass0 rfl)) pe_str (nomark _))), ?_⟩
    refine ⟨_, rfl, a, CJ, dx, _, _, rfl, h1, TJ.cl, TJ.kind, jf_kind .., rfl, _, rfl, ?_⟩
    rw [kind_down]
    cases dn with
    | true =>
      refine iteT ⟨_, rfl, bk, db, fs, rfl, hb, bk, B, rfl, h2, rfl, ?_⟩
      rw [vstr]
      exact q
    | false =>
      refine iteF ⟨_, rfl, bk, db, fs, rfl, hb, bk, B, rfl, h2, rfl, ?_⟩
      rw [vstr]
      exact q
/-- what stands around a job that copies: the table of the layers, its two layers' cells -/
structure Two (H : Hp) (o u l : Addr) (ok : List Int) (od : Int → Addr) (x : Jb) (U L : Row) : Prop where
  ho : H o = some (.dK (dI (fun z => .ref (od z)) ok))
  uo : x.up ∈ ok
  lo : x.lo ∈ ok
  eu : od x.up = u
  el : od x.lo = l
  hu : H u = some (.dK (rowV U))
  hl : H l = some (.dK (rowV L))
theorem Two.getU {H : Hp} {o u l : Addr} {ok : List Int} {od : Int → Addr} {x : Jb} {U L : Row} (t : Two H o u l ok od x U L) : DGet H o (.int x.up) (some (.ref u)) := by
  have := DGet.k (k := Sum.inl x.up) t.ho
  rw [dI_in t.uo, t.eu] at this
  exact this
theorem Two.getL {H : Hp} {o u l : Addr} {ok : List Int} {od : Int → Addr} {x : Jb} {U L : Row} (t : Two H o u l ok od x U L) : DGet H o (.int x.lo) (some (.ref l)) := by
  have := DGet.k (k := Sum.inl x.lo) t.ho
  rw [dI_in t.lo, t.el] at this
  exact this
theorem row_get {H : Hp} {a : Addr} {U : Row} (h : H a = some (.dK (rowV U))) (c : Int) : DGet H a (.int c) ((get U c).map V.int) := by
  have := DGet.k (k := Sum.inl c) h
  rw [rowV_val] at this
  exact this
theorem oV_getD (o : Option Int) : (o.map V.int).getD .non = oV o := by cases o <;> rfl
theorem isSome_map (o : Option Int) : (o.map V.int).isSome = o.isSome := by cases o <;> rfl
def spLooked (CB CJ : Addr) : Sp := fun vs H Q _ => ∃ (a bk o u l dx ma na : Addr) (c : Int) (dn : Bool) (x : Jb) (sv : V) (B : BookR) (ok : List Int) (od : Int → Addr) (U L : Row), vs = [.ref a, .ref bk, .ref o, .int c] ∧
  H a = some (.ins CJ dx (jfs (kindS dn) x ma na sv)) ∧ BookAt CB H bk B ∧ Two H o u l ok od x U L ∧ Q (oV (looked (par B dn 0) U L c)) H
theorem ok_looked (TB : BookC K CB) (TJ : JobC K CJ) (GB : BookP P w K mg base CB) (F : Fu K "looked" "looked" s_looked f fd) : FnOk P w K mg base CX0 3 f fd ["job", "book", "owned", "cell"] (spLooked CB CJ) := by
  have sc : FnScope ["job", "book", "owned", "cell"] ["job", "book", "owned", "cell"] (defScope s_looked) := ⟨rfl, rfl, rfl, by decide +kernel, rfl, by decide +kernel, by decide +kernel⟩
  obtain ⟨pu, gu, fu, Gu, Pu, bu⟩ := GB.up
  refine F.ok sc (fun vs H Q E h => ?_) (fun cdv A outer s H vs Q E hr h => ?_)
  · obtain ⟨a, bk, _, _, _, _, _, _, _, _, _, _, _, _, _, _, _, rfl, _⟩ := h
    rfl
  · obtain ⟨a, bk, o, u, l, dx, ma, na, c, dn, x, sv, B, ok, od, U, L, rfl, h1, h2, t, q⟩ := h
    obtain ⟨db, fs, hb⟩ := h2.ins
    have hu := hu_of hr
    refine ⟨_, pss_cons (ps_if (pt_cmpR op_eq (pe_fld (pv 0) rfl) pe_str (nomark _)) (pss_one (ps_ret (pe_dget1 hu (pe_dget hu (pv 2) (pe_fld (pv 0) rfl) (fun _ _ => rfl)) (pv 3) ⟨rfl, rfl, rfl, rfl⟩))) pss_nil)
      (pss_cons (ps_if (PW.pt (pw_and (pt_cmpR op_eq (pe_prop (pv 1) TB.cl Pu Gu hr bu .nil pass0 rfl) pe_str (nomark _)) (pw_and1 (pt_cmp (pc_din hu (pv 3) (pe_dget hu (pv 2) (pe_fld (pv 0) rfl) (fun _ _ => rfl))))))) (pss_one (ps_ret pe_non)) pss_nil)
      (pss_one (ps_ret (pe_dget1 hu (pe_dget hu (pv 2) (pe_fld (pv 0) rfl) (fun _ _ => rfl)) (pv 3) ⟨rfl, rfl, rfl, rfl⟩)))), ?_⟩
    refine ⟨_, rfl, a, CJ, dx, _, _, rfl, h1, TJ.cl, TJ.kind, jf_kind .., rfl, _, rfl, ?_⟩
    rw [kind_down]
    cases dn with
    | true =>
      refine iteT ⟨_, rfl, _, rfl, a, CJ, dx, _, _, rfl, h1, TJ.cl, TJ.upper, jf_upper .., o, _, rfl, t.getU, u, rfl, .inl ⟨_, .inl t.hu⟩, _, rfl, _, row_get t.hu c, ?_⟩
      rw [oV_getD]
      exact q
    | false =>
      refine iteF ⟨_, rfl, bk, db, fs, rfl, hb, bk, B, rfl, h2, rfl, _, rfl, ?_⟩
      rw [vstr]
      have hL : looked (par B false 0) U L c = if decide (B.up = "blind") && has U c then none else get L c := rfl
      have fin : get L c = looked (par B false 0) U L c → Q (oV (get L c)) H := fun e => by rw [e]; exact q
      by_cases e : decide (B.up = "blind") = true
      · rw [e]
        refine iteT ⟨_, rfl, _, rfl, _, rfl, a, CJ, dx, _, _, rfl, h1, TJ.cl, TJ.upper, jf_upper .., o, _, rfl, t.getU, u, _, rfl, row_get t.hu c, _, rfl, ?_⟩
        rw [isSome_map]
        by_cases g : (get U c).isSome = true
        · rw [g]
          refine iteT ?_
          have : looked (par B false 0) U L c = none := by
            rw [hL, e]
            exact if_pos g
          rw [this] at q
          exact q
        · rw [show (get U c).isSome = false by simpa using g]
          refine iteF ⟨_, rfl, _, rfl, a, CJ, dx, _, _, rfl, h1, TJ.cl, TJ.lower, jf_lower .., o, _, rfl, t.getL, l, rfl, .inl ⟨_, .inl t.hl⟩, _, rfl, _, row_get t.hl c, ?_⟩
          rw [oV_getD]
          refine fin ?_
          rw [hL, if_neg]
          intro z
          exact g (Bool.and_eq_true_iff.mp z).2
      · rw [show decide (B.up = "blind") = false by simpa using e]
        refine iteF (iteF ⟨_, rfl, _, rfl, a, CJ, dx, _, _, rfl, h1, TJ.cl, TJ.lower, jf_lower .., o, _, rfl, t.getL, l, rfl, .inl ⟨_, .inl t.hl⟩, _, rfl, _, row_get t.hl c, ?_⟩)
        rw [oV_getD]
        refine fin ?_
        rw [hL, if_neg]
        intro z
        exact e (Bool.and_eq_true_iff.mp z).1
end
end K20W
end
/-! W5 -/
section
set_option Elab.async false
set_option linter.all false
set_option maxRecDepth 100000
set_option maxHeartbeats 4000000
/-! give, copy_on. -/
namespace K20W
open PySem L2 K20
def giveH (P : Par) (H : Hp) (u l : Addr) (U L : Row) (c : Int) (v : Option Int) : Hp := match v with
  | none => H
  | some x => if P.dn then upd H l (.dK (rowV (put L c x))) else if P.blind || !has U c then upd H u (.dK (rowV (put U c x))) else H
theorem giveH_u {P : Par} {H : Hp} {u l : Addr} {U L : Row} {c : Int} {v : Option Int} (hu : H u = some (.dK (rowV U))) (n : u ≠ l) : giveH P H u l U L c v u = some (.dK (rowV (gaveU P U c v))) := by
  unfold giveH gaveU
  cases v with
  | none => exact hu
  | some x =>
    show (if P.dn = true then upd H l (.dK (rowV (put L c x))) else if (P.blind || !has U c) = true then upd H u (.dK (rowV (put U c x))) else H) u = some (.dK (rowV (if P.dn = true then U else if (P.blind || !has U c) = true then put U c x else U)))
    split
    · rw [upd_ne n]
      exact hu
    · split
      · exact upd_same
      · exact hu
theorem giveH_l {P : Par} {H : Hp} {u l : Addr} {U L : Row} {c : Int} {v : Option Int} (hl : H l = some (.dK (rowV L))) (n : u ≠ l) : giveH P H u l U L c v l = some (.dK (rowV (gaveL P L c v))) := by
  unfold giveH gaveL
  cases v with
  | none => exact hl
  | some x =>
    show (if P.dn = true then upd H l (.dK (rowV (put L c x))) else if (P.blind || !has U c) = true then upd H u (.dK (rowV (put U c x))) else H) l = some (.dK (rowV (if P.dn = true then put L c x else L)))
    split
    · exact upd_same
    · split
      · rw [upd_ne n.symm]
        exact hl
      · exact hl
theorem giveH_ne {P : Par} {H : Hp} {u l b : Addr} {U L : Row} {c : Int} {v : Option Int} (n1 : b ≠ u) (n2 : b ≠ l) : giveH P H u l U L c v b = H b := by
  unfold giveH
  cases v with
  | none => rfl
  | some x =>
    show (if P.dn = true then upd H l (.dK (rowV (put L c x))) else if (P.blind || !has U c) = true then upd H u (.dK (rowV (put U c x))) else H) b = H b
    split
    · exact upd_ne n2
    · split
      · exact upd_ne n1
      · rfl
section
variable {P : Program} {w : World} {K : PySem.W.Frag} {mg : Str → Option Value} {base : Heap} {f CB CJ : Addr} {fd : FuncData}
def spGive (CB CJ : Addr) : Sp := fun vs H Q _ => ∃ (a bk o u l dx ma na : Addr) (c : Int) (v : Option Int) (dn : Bool) (x : Jb) (sv : V) (B : BookR) (ok : List Int) (od : Int → Addr) (U L : Row), vs = [.ref a, .ref bk, .ref o, .int c, oV v] ∧
  H a = some (.ins CJ dx (jfs (kindS dn) x ma na sv)) ∧ BookAt CB H bk B ∧ Two H o u l ok od x U L ∧ U.length ≤ 1000 ∧ L.length ≤ 1000 ∧ Q .non (giveH (par B dn 0) H u l U L c v)
theorem row_put {H : Hp} {a : Addr} {U : Row} (h : H a = some (.dK (rowV U))) (hl : U.length ≤ 1000) (c x : Int) : DPut H a (.int c) (.int x) (upd H a (.dK (rowV (put U c x)))) := by
  have := DPut.k (k := Sum.inl c) (v := .int x) h (by rw [rowV_length]; exact small1000 hl)
  rw [rowV_put] at this
  exact this
theorem ok_give (TB : BookC K CB) (TJ : JobC K CJ) (GB : BookP P w K mg base CB) (F : Fu K "give" "give" s_give f fd) : FnOk P w K mg base CX0 3 f fd ["job", "book", "owned", "cell", "value"] (spGive CB CJ) := by
  have sc : FnScope ["job", "book", "owned", "cell", "value", "layer"] ["job", "book", "owned", "cell", "value"] (defScope s_give) := ⟨rfl, rfl, rfl, by decide +kernel, rfl, by decide +kernel, by decide +kernel⟩
  obtain ⟨pu, gu, fu, Gu, Pu, bu⟩ := GB.up
  refine F.ok sc (fun vs H Q E h => ?_) (fun cdv A outer s H vs Q E hr h => ?_)
  · obtain ⟨a, bk, _, _, _, _, _, _, _, _, _, _, _, _, _, _, _, _, rfl, _⟩ := h
    rfl
  · obtain ⟨a, bk, o, u, l, dx, ma, na, c, v, dn, x, sv, B, ok, od, U, L, rfl, h1, h2, t, zU, zL, q⟩ := h
    obtain ⟨db, fs, hb⟩ := h2.ins
    have hu := hu_of hr
    refine ⟨_, pss_cons (ps_if (pt_cmp (pc_isN (pv 4))) (pss_one ps_retN) pss_nil)
      (pss_one (ps_if (pt_cmpR op_eq (pe_fld (pv 0) rfl) pe_str (nomark _))
        (pss_cons (ps_set (i := 5) sc.nd rfl (.inl rfl) (pe_dget hu (pv 2) (pe_fld (pv 0) rfl) (fun _ _ => rfl))) (pss_one (ps_dput hu (pv 5) (pv 3) (pv 4) rfl)))
        (pss_one (ps_if (PW.pt (pw_or (pt_cmpR op_eq (pe_prop (pv 1) TB.cl Pu Gu hr bu .nil pass0 rfl) pe_str (nomark _)) (pw_or1 (pt_cmp (pc_dnotin hu (pv 3) (pe_dget hu (pv 2) (pe_fld (pv 0) rfl) (fun _ _ => rfl)))))))
          (pss_cons (ps_set (i := 5) sc.nd rfl (.inl rfl) (pe_dget hu (pv 2) (pe_fld (pv 0) rfl) (fun _ _ => rfl))) (pss_one (ps_dput hu (pv 5) (pv 3) (pv 4) rfl))) pss_nil)))), ?_⟩
    cases v with
    | none => exact ⟨_, rfl, true, rfl, q⟩
    | some z =>
      refine ⟨_, rfl, false, rfl, iteF ⟨_, rfl, a, CJ, dx, _, _, rfl, h1, TJ.cl, TJ.kind, jf_kind .., rfl, _, rfl, ?_⟩⟩
      rw [kind_down]
      cases dn with
      | true =>
        refine iteT ⟨_, rfl, _, rfl, a, CJ, dx, _, _, rfl, h1, TJ.cl, TJ.lower, jf_lower .., o, _, rfl, t.getL, _, rfl, _, rfl, _, rfl, l, _, rfl, row_put t.hl zL c z, ?_⟩
        exact q
      | false =>
        have putU : (B.up = "blind" ∨ has U c = false) → Q .non (upd H u (.dK (rowV (put U c z)))) := fun e => by
          have : giveH (par B false 0) H u l U L c (some z) = upd H u (.dK (rowV (put U c z))) := by
            show (if (decide (B.up = "blind") || !has U c) = true then _ else H) = _
            rw [if_pos]
            rcases e with e | e
            · rw [decide_eq_true e]
              rfl
            · rw [e, Bool.or_eq_true]
              exact .inr rfl
          rw [← this]
          exact q
        refine iteF ⟨_, rfl, bk, db, fs, rfl, hb, bk, B, rfl, h2, rfl, _, rfl, ?_⟩
        rw [vstr]
        by_cases e : B.up = "blind"
        · rw [decide_eq_true e]
          refine iteT (iteT ⟨_, rfl, _, rfl, a, CJ, dx, _, _, rfl, h1, TJ.cl, TJ.upper, jf_upper .., o, _, rfl, t.getU, _, rfl, _, rfl, _, rfl, u, _, rfl, row_put t.hu zU c z, ?_⟩)
          exact putU (.inl e)
        · rw [decide_eq_false e]
          refine iteF ⟨_, rfl, _, rfl, _, rfl, a, CJ, dx, _, _, rfl, h1, TJ.cl, TJ.upper, jf_upper .., o, _, rfl, t.getU, u, _, rfl, row_get t.hu c, _, rfl, ?_⟩
          rw [isSome_map]
          cases g : (get U c).isSome with
          | true =>
            refine iteF ?_
            have : giveH (par B false 0) H u l U L c (some z) = H := by
              show (if (decide (B.up = "blind") || !has U c) = true then _ else H) = _
              rw [if_neg]
              unfold has
              rw [g, decide_eq_false e]
              decide
            rw [this] at q
            exact q
          | false =>
            refine iteT ⟨_, rfl, _, rfl, a, CJ, dx, _, _, rfl, h1, TJ.cl, TJ.upper, jf_upper .., o, _, rfl, t.getU, _, rfl, _, rfl, _, rfl, u, _, rfl, row_put t.hu zU c z, ?_⟩
            exact putU (.inr g)

def wordS : Wd → Str
  | .copy => "copy"
  | .look => "look"
  | .put => "put"
  | .link => "link"
  | .cut => "cut"
  | .both => "both"
/-- a step of copying, the next cell being told -/
def spCopyOn (CB CJ : Addr) : Sp := fun vs H Q _ => ∃ (a bk o u l dx ma na : Addr) (dn : Bool) (x : Jb) (sv : V) (B : BookR) (n : Nat) (ok : List Int) (od : Int → Addr) (U L : Row), vs = [.ref a, .ref bk, .ref o, .int x.pl] ∧
  H a = some (.ins CJ dx (jfs (kindS dn) x ma na sv)) ∧ H ma = some (.lst []) ∧ SeenV H sv x.seen ∧ BookAt CB H bk B ∧ Two H o u l ok od x U L ∧ u ≠ l ∧ U.length ≤ 1000 ∧ L.length ≤ 1000 ∧ x.pl < n ∧
  ∀ (sv' : V) (H' : Hp), SeenV H' sv' (copiedJ (par B dn n) x U L).seen → H' a = some (.ins CJ dx (jfs (kindS dn) (copiedJ (par B dn n) x U L) ma na sv')) → H' u = some (.dK (rowV (copiedU (par B dn n) x U L))) → H' l = some (.dK (rowV (copiedL (par B dn n) x U L))) →
    (∀ b o, H b = some o → b ≠ a → b ≠ u → b ≠ l → H' b = some o) → Q (.str (wordS (wordOf (par B dn n) x))) H'
theorem jfs_seen (k : Str) (x : Jb) (ma na : Addr) (sv : V) (z : Option (Int × Option Int)) : jfs k { x with seen := z } ma na sv = jfs k x ma na sv := rfl
theorem ok_copyon (TB : BookC K CB) (TJ : JobC K CJ) (g1 : Gd P w K mg base "give" 3 ["job", "book", "owned", "cell", "value"] (spGive CB CJ)) (g2 : Gd P w K mg base "looked" 3 ["job", "book", "owned", "cell"] (spLooked CB CJ)) (g3 : Gd P w K mg base "is_twofold" 3 ["job", "book"] (spTwofold CB CJ))
    (m1 : Md P w K mg base CJ "copied" 1 ["self", "cell"] (spCopied CJ)) (F : Fu K "copy_on" "copy_on" s_copyon f fd) : FnOk P w K mg base CX0 4 f fd ["job", "book", "owned", "cell"] (spCopyOn CB CJ) := by
  have sc : FnScope ["job", "book", "owned", "cell", "where", "value"] ["job", "book", "owned", "cell"] (defScope s_copyon) := ⟨rfl, rfl, rfl, by decide +kernel, rfl, by decide +kernel, by decide +kernel⟩
  obtain ⟨f1, d1, G1, e1, k1, b1⟩ := g1
  obtain ⟨f2, d2, G2, e2, k2, b2⟩ := g2
  obtain ⟨f3, d3, G3, e3, k3, b3⟩ := g3
  obtain ⟨f4, d4, G4, M4, b4⟩ := m1
  refine F.ok sc (fun vs H Q E h => ?_) (fun cdv A outer s H vs Q E hr h => ?_)
  · obtain ⟨a, bk, _, _, _, _, _, _, _, _, _, _, _, _, _, _, _, rfl, _⟩ := h
    rfl
  · obtain ⟨a, bk, o, u, l, dx, ma, na, dn, x, sv, B, n, ok, od, U, L, rfl, h1, hma, hsv, h2, t, nul, zU, zL, hpl, q⟩ := h
    have hr1 : Room 1 _ := hr.mono (by decide)
    have au : a ≠ u := ne_of h1 t.hu (by intro z; cases z)
    have al : a ≠ l := ne_of h1 t.hl (by intro z; cases z)
    have nocop : ∀ (y : Jb) (sv : V), (jfs (kindS dn) y ma na sv).lookup ("copied" : Str) = none := fun y sv => by kernel_rfl
    have mu : ma ≠ u := ne_of hma t.hu (by intro z; cases z)
    have ml : ma ≠ l := ne_of hma t.hl (by intro z; cases z)
    refine ⟨_, pss_cons (ps_if (pt_cmp (pc_notN (pe_fld (pv 0) rfl)))
        (pss_cons (ps_asg (pe_fld (pv 0) rfl) (pg_tup rfl (pgs_cons (pg_name (i := 4) sc.nd rfl (.inl rfl)) (pgs_cons (pg_name (i := 5) sc.nd rfl (.inl rfl)) pgs_nil))))
        (pss_cons (ps_expr (pe_call G1 hr rfl e1 k1 b1 .nil pass0 (pa_cons (pv 0) (pa_cons (pv 1) (pa_cons (pv 2) (pa_cons (pv 4) (pa_cons (pv 5) pa_nil)))))))
        (pss_cons (ps_expr (pe_meth (pv 0) TJ.cl M4 G4 hr1 b4 .nil pass0 (pa_cons (pv 4) pa_nil))) (pss_one (ps_ret pe_str))))) pss_nil)
      (pss_cons (ps_set (i := 5) sc.nd rfl (.inl rfl) (pe_call G2 hr rfl e2 k2 b2 .nil pass0 (pa_cons (pv 0) (pa_cons (pv 1) (pa_cons (pv 2) (pa_cons (pv 3) pa_nil))))))
      (pss_cons (ps_if (pt_val (pe_call G3 hr rfl e3 k3 b3 .nil pass0 (pa_cons (pv 0) (pa_cons (pv 1) pa_nil)))) (pss_cons (ps_fld (pv 0) (pe_tup (pa_cons (pv 3) (pa_cons (pv 5) pa_nil))) rfl) (pss_one (ps_ret pe_str))) pss_nil)
      (pss_cons (ps_expr (pe_call G1 hr rfl e1 k1 b1 .nil pass0 (pa_cons (pv 0) (pa_cons (pv 1) (pa_cons (pv 2) (pa_cons (pv 3) (pa_cons (pv 5) pa_nil)))))))
      (pss_cons (ps_expr (pe_meth (pv 0) TJ.cl M4 G4 hr1 b4 .nil pass0 (pa_cons (pv 3) pa_nil))) (pss_one (ps_ret pe_str)))))), ?_⟩
    refine ⟨_, rfl, a, CJ, dx, _, _, rfl, h1, TJ.cl, TJ.seen, jf_seen .., ?_⟩
    cases es : x.seen with
    | some p =>
      obtain ⟨c, v⟩ := p
      rw [es] at hsv
      obtain ⟨tt, rfl, ht⟩ := hsv
      refine ⟨true, rfl, iteT ⟨_, rfl, a, CJ, dx, _, _, rfl, h1, TJ.cl, TJ.seen, jf_seen .., tt, _, rfl, SqT.of ht, rfl, _, _, rfl, _, _, rfl, rfl, _, rfl, _, rfl, _, rfl, _, rfl, _, rfl, ?_⟩⟩
      refine ⟨a, bk, o, u, l, dx, ma, na, c, v, dn, x, _, B, ok, od, U, L, rfl, h1, h2, t, zU, zL, ?_⟩
      have g1 : giveH (par B dn 0) H u l U L c v a = some (.ins CJ dx (jfs (kindS dn) x ma na (.ref tt))) := (giveH_ne au al).trans h1
      refine ⟨_, rfl, a, dx, _, rfl, g1, nocop x _, _, rfl, a, c, dx, ma, na, kindS dn, x, _, rfl, g1, (giveH_ne mu ml).trans hma, ?_⟩
      have ew : wordS (wordOf (par B dn n) x) = "put" := by
        unfold wordOf
        rw [es]
        rfl
      have ej : copiedJ (par B dn n) x U L = { x with seen := none, pl := x.pl + 1 } := by
        unfold copiedJ
        rw [es]
      have eU : copiedU (par B dn n) x U L = gaveU (par B dn 0) U c v := by
        unfold copiedU
        rw [es]
        rfl
      have eL : copiedL (par B dn n) x U L = gaveL (par B dn 0) L c v := by
        unfold copiedL
        rw [es]
        rfl
      rw [ew, ej, eU, eL] at q
      exact q .non _ rfl upd_same (by rw [upd_ne au.symm]; exact giveH_u t.hu nul) (by rw [upd_ne al.symm]; exact giveH_l t.hl nul) fun b o hb n1 n2 n3 => by
        rw [upd_ne n1, giveH_ne n2 n3]
        exact hb
    | none =>
      rw [es] at hsv
      have hsv : sv = .non := hsv
      subst hsv
      refine ⟨false, rfl, iteF ⟨_, rfl, _, rfl, _, rfl, _, rfl, a, bk, o, u, l, dx, ma, na, x.pl, dn, x, _, B, ok, od, U, L, rfl, h1, h2, t, ?_⟩⟩
      refine ⟨_, rfl, _, rfl, a, bk, dx, ma, na, dn, x, _, B, rfl, h1, h2, _, rfl, ?_⟩
      have hw : wordOf (par B dn n) x = if (par B dn 0).one then .copy else .look := by
        unfold wordOf
        rw [es]
        exact if_pos hpl
      cases eo : (par B dn 0).one with
      | false =>
        refine iteT ⟨_, rfl, _, rfl, (show 2 ≤ sizeLine from by decide), fun p hp => ⟨_, rfl, a, CJ, dx, _, rfl, by rw [upd_ne (ne_of_none h1 hp)]; exact h1, TJ.cl, TJ.seen, jf_len, ?_⟩⟩
        rw [jf_put_seen]
        have ew : wordS (wordOf (par B dn n) x) = "look" := by
          rw [hw, eo]
          rfl
        have ej : copiedJ (par B dn n) x U L = { x with seen := some (x.pl, looked (par B dn 0) U L x.pl) } := by
          unfold copiedJ
          rw [es]
          show (if (par B dn 0).one = true then _ else _) = _
          rw [eo]
          rfl
        have eU : copiedU (par B dn n) x U L = U := by
          unfold copiedU
          rw [es]
          show (if (par B dn 0).one = true then _ else _) = _
          rw [eo]
          rfl
        have eL : copiedL (par B dn n) x U L = L := by
          unfold copiedL
          rw [es]
          show (if (par B dn 0).one = true then _ else _) = _
          rw [eo]
          rfl
        rw [ew, ej, eU, eL] at q
        have ap : a ≠ p := ne_of_none h1 hp
        exact q (.ref p) _ ⟨p, rfl, by rw [upd_ne ap.symm]; exact upd_same⟩ upd_same (by rw [upd_ne au.symm, upd_ne (ne_of_none t.hu hp)]; exact t.hu) (by rw [upd_ne al.symm, upd_ne (ne_of_none t.hl hp)]; exact t.hl) fun b o hb n1 n2 n3 => by
          rw [upd_ne n1, upd_ne (ne_of_none hb hp)]
          exact hb
      | true =>
        refine iteF ⟨_, rfl, _, rfl, _, rfl, _, rfl, _, rfl, a, bk, o, u, l, dx, ma, na, x.pl, looked (par B dn 0) U L x.pl, dn, x, _, B, ok, od, U, L, rfl, h1, h2, t, zU, zL, ?_⟩
        have g1 : giveH (par B dn 0) H u l U L x.pl (looked (par B dn 0) U L x.pl) a = some (.ins CJ dx (jfs (kindS dn) x ma na .non)) := (giveH_ne au al).trans h1
        refine ⟨_, rfl, a, dx, _, rfl, g1, nocop x _, _, rfl, a, x.pl, dx, ma, na, kindS dn, x, _, rfl, g1, (giveH_ne mu ml).trans hma, ?_⟩
        have ew : wordS (wordOf (par B dn n) x) = "copy" := by
          rw [hw, eo]
          rfl
        have ej : copiedJ (par B dn n) x U L = { x with pl := x.pl + 1 } := by
          unfold copiedJ
          rw [es]
          show (if (par B dn 0).one = true then _ else _) = _
          rw [eo]
          rfl
        have eU : copiedU (par B dn n) x U L = gaveU (par B dn 0) U x.pl (looked (par B dn 0) U L x.pl) := by
          unfold copiedU
          rw [es]
          show (if (par B dn 0).one = true then _ else _) = _
          rw [eo]
          rfl
        have eL : copiedL (par B dn n) x U L = gaveL (par B dn 0) L x.pl (looked (par B dn 0) U L x.pl) := by
          unfold copiedL
          rw [es]
          show (if (par B dn 0).one = true then _ else _) = _
          rw [eo]
          rfl
        rw [ew, ej, eU, eL] at q
        exact q .non _ (by show SeenV _ _ x.seen; rw [es]; rfl) upd_same (by rw [upd_ne au.symm]; exact giveH_u t.hu nul) (by rw [upd_ne al.symm]; exact giveH_l t.hl nul) fun b o hb n1 n2 n3 => by
          rw [upd_ne n1, giveH_ne n2 n3]
          exact hb
end
end K20W
end
/-! W6 -/
section
set_option Elab.async false
set_option linter.all false
set_option maxRecDepth 100000
set_option maxHeartbeats 4000000
/-! The small methods of a Yard. -/
namespace K20W
open PySem L2 K20
structure YardC (K : PySem.W.Frag) (C : Addr) : Prop where
  cl : Cls K C
  book : NoAttr K C "y_book"
  cells : NoAttr K C "y_cells"
  bases : NoAttr K C "y_bases"
  owned : NoAttr K C "y_owned"
  dues : NoAttr K C "y_dues"
  seats : NoAttr K C "y_seats"
  contents : NoAttr K C "y_contents"
  jobs : NoAttr K C "y_jobs"
  begun : NoAttr K C "y_begun"
section
variable (bk : Addr) (n : Nat) (A : Ad) (bg : Nat)
theorem yf_book : (yfs bk n A bg).lookup ("y_book" : Str) = some (.ref bk) := by kernel_rfl
theorem yf_cells : (yfs bk n A bg).lookup ("y_cells" : Str) = some (.int n) := by kernel_rfl
theorem yf_bases : (yfs bk n A bg).lookup ("y_bases" : Str) = some (.ref A.b) := by kernel_rfl
theorem yf_owned : (yfs bk n A bg).lookup ("y_owned" : Str) = some (.ref A.o) := by kernel_rfl
theorem yf_dues : (yfs bk n A bg).lookup ("y_dues" : Str) = some (.ref A.d) := by kernel_rfl
theorem yf_seats : (yfs bk n A bg).lookup ("y_seats" : Str) = some (.ref A.s) := by kernel_rfl
theorem yf_contents : (yfs bk n A bg).lookup ("y_contents" : Str) = some (.ref A.c) := by kernel_rfl
theorem yf_jobs : (yfs bk n A bg).lookup ("y_jobs" : Str) = some (.ref A.j) := by kernel_rfl
theorem yf_begun : (yfs bk n A bg).lookup ("y_begun" : Str) = some (.int bg) := by kernel_rfl
theorem yf_put_begun (z : Nat) : putF "y_begun" (.int z) (yfs bk n A bg) = yfs bk n A z := by kernel_rfl
end
theorem yf_len {bk : Addr} {n : Nat} {A : Ad} {bg : Nat} : (yfs bk n A bg).length < 1000 := by show 9 < 1000; decide
abbrev s_yard (i : Nat) : Stmt := inClass (top 48) i
theorem dI_get {H : Hp} {a : Addr} {g : Int → V} {ks : List Int} {k : Int} (h : H a = some (.dK (dI g ks))) (hk : k ∈ ks) : DGet H a (.int k) (some (g k)) := by
  have := DGet.k (k := Sum.inl k) h
  rw [dI_in hk] at this
  exact this
theorem dI_getO {H : Hp} {a : Addr} {g : Int → V} {ks : List Int} (k : Int) (h : H a = some (.dK (dI g ks))) : DGet H a (.int k) (if k ∈ ks then some (g k) else none) := by
  have := DGet.k (k := Sum.inl k) h
  rw [dI_val] at this
  exact this
theorem dI_getF {H : Hp} {a : Addr} {o : Obj} {g : Int → V} {ks : List Int} {k : Int} (h : H a = some (.frz o (.dK (dI g ks)))) (hk : k ∈ ks) : DGet H a (.int k) (some (g k)) :=
  .inl ⟨_, Sum.inl k, .inr ⟨o, h⟩, rfl, (dI_in hk).symm⟩
theorem dI_setOld {H : Hp} {a : Addr} {g : Int → V} {ks : List Int} {k : Int} (h : H a = some (.dK (dI g ks))) (hk : k ∈ ks) (hl : ks.length ≤ 1000) (v : V) : DPut H a (.int k) v (upd H a (.dK (dI (fupd g k v) ks))) := by
  have := DPut.k (k := Sum.inl k) (v := v) h (by rw [dI_length]; exact small1000 hl)
  rw [dI_put hk] at this
  exact this
theorem dI_setNew {H : Hp} {a : Addr} {g : Int → V} {ks : List Int} {k : Int} (h : H a = some (.dK (dI g ks))) (hk : k ∉ ks) (hl : ks.length ≤ 1000) (v : V) : DPut H a (.int k) v (upd H a (.dK (dI (fupd g k v) (ks ++ [k])))) := by
  have := DPut.k (k := Sum.inl k) (v := v) h (by rw [dI_length]; exact small1000 hl)
  rw [dI_new hk] at this
  exact this
theorem fupd_map {α β : Type} (F : α → β) (f : Int → α) (k : Int) (v : α) : (fun x => F (fupd f k v x)) = fupd (fun x => F (f x)) k (F v) := by
  funext x
  unfold fupd
  split <;> rfl
section
variable {P : Program} {w : World} {K : PySem.W.Frag} {mg : Str → Option Value} {base : Heap} {f CY : Addr} {fd : FuncData}
def spPutOn (CY : Addr) : Sp := fun vs H Q _ => ∃ (y dx bk : Addr) (n bg : Nat) (A : Ad) (x : Int) (S : Vs), vs = [.ref y, .int x] ∧ H y = some (.ins CY dx (yfs bk n A bg)) ∧ H A.b = some (.dK (dI (fun x => oV (S.bs x)) (rng S.m))) ∧ H A.o = some (.dK (dI (fun x => .ref (A.od x)) S.ok)) ∧
  A.b ≠ A.o ∧ (∀ k ∈ S.ok, k < S.m) ∧ S.m ≤ 1000 ∧ S.ok.length ≤ 1000 ∧
  ∀ q, H q = none → Q (.int S.m) (upd (upd (upd H A.b (.dK (dI (fun y => oV (fupd S.bs S.m (some x) y)) (rng (S.m + 1))))) q (.dK [])) A.o (.dK (dI (fun y => .ref (fupd A.od S.m q y)) (S.ok ++ [(S.m : Int)]))))
theorem ok_puton (B : Blt mg) (T : YardC K CY) (F : Fu K "put_on" "Yard.put_on" (s_yard 14) f fd) : FnOk P w K mg base CX0 1 f fd ["self", "layer"] (spPutOn CY) := by
  have sc : FnScope ["self", "layer", "number"] ["self", "layer"] (defScope (s_yard 14)) := ⟨rfl, rfl, rfl, by decide +kernel, rfl, by decide +kernel, by decide +kernel⟩
  refine F.ok sc (fun vs H Q E h => ?_) (fun cdv A outer s H vs Q E hr h => ?_)
  · obtain ⟨y, _, _, _, _, _, _, _, rfl, _⟩ := h
    rfl
  · obtain ⟨y, dx, bk, n, bg, A, x, S, rfl, h1, hb, ho, nbo, hk, hm, hz, q⟩ := h
    have hu := hu_of hr
    refine ⟨_, pss_cons (ps_set (i := 2) sc.nd rfl (.inl rfl) (pe_callB call_lenD (by rfl) B.len PySem.boot_len (pa_cons (pe_fld (pv 0) rfl) pa_nil)))
      (pss_cons (ps_dput hu (pe_fld (pv 0) rfl) (pv 2) (pv 1) rfl) (pss_cons (ps_dput hu (pe_fld (pv 0) rfl) (pv 2) pe_dnewK rfl) (pss_one (ps_ret (pv 2))))), ?_⟩
    refine ⟨_, rfl, y, CY, dx, _, _, rfl, h1, T.cl, T.bases, yf_bases .., A.b, _, rfl, hb, ?_⟩
    rw [dI_length, rng_length]
    have nin : (S.m : Int) ∉ rng S.m := fun z => by have := mem_rng.mp z; omega
    have p1 := dI_setNew hb nin (by rw [rng_length]; exact hm) (.int x)
    rw [← rng_succ, show fupd (fun x => oV (S.bs x)) (S.m : Int) (.int x) = fun z => oV (fupd S.bs S.m (some x) z) from (fupd_map oV S.bs S.m (some x)).symm] at p1
    have yb : y ≠ A.b := ne_of h1 hb (by intro z; cases z)
    refine ⟨_, rfl, _, rfl, y, CY, dx, _, _, rfl, h1, T.cl, T.bases, yf_bases .., _, rfl, _, _, rfl, p1, ?_⟩
    generalize hH1 : upd H A.b (.dK (dI (fun z => oV (fupd S.bs S.m (some x) z)) (rng (S.m + 1)))) = H1
    have e1 : H1 y = some (.ins CY dx (yfs bk n A bg)) := by rw [← hH1, upd_ne yb]; exact h1
    have e2 : H1 A.o = some (.dK (dI (fun x => .ref (A.od x)) S.ok)) := by rw [← hH1, upd_ne nbo.symm]; exact ho
    intro q0 hq0
    have nin2 : (S.m : Int) ∉ S.ok := fun z => by have := hk _ z; omega
    have e3 : (upd H1 q0 (.dK [])) A.o = some (.dK (dI (fun x => .ref (A.od x)) S.ok)) := by rw [upd_ne (ne_of_none e2 hq0)]; exact e2
    have p2 := dI_setNew e3 nin2 hz (.ref q0)
    rw [show fupd (fun x => V.ref (A.od x)) (S.m : Int) (.ref q0) = fun z => .ref (fupd A.od S.m q0 z) from (fupd_map V.ref A.od S.m q0).symm] at p2
    refine ⟨_, rfl, y, CY, dx, _, _, rfl, by rw [upd_ne (ne_of_none e1 hq0)]; exact e1, T.cl, T.owned, yf_owned .., _, rfl, _, _, rfl, p2, ?_⟩
    have hq : H q0 = none := by
      rw [← hH1] at hq0
      by_cases e : q0 = A.b
      · subst e
        rw [upd_same] at hq0
        cases hq0
      · rw [upd_ne e] at hq0
        exact hq0
    have := q q0 hq
    rw [hH1] at this
    exact ⟨_, rfl, this⟩
/-- the layers above one: a new list -/
def spAbove (CY : Addr) : Sp := fun vs H Q _ => ∃ (y dx bk : Addr) (n bg : Nat) (A : Ad) (x : Int) (S : Vs), vs = [.ref y, .int x] ∧ H y = some (.ins CY dx (yfs bk n A bg)) ∧ H A.b = some (.dK (dI (fun x => oV (S.bs x)) (rng S.m))) ∧ H A.o = some (.dK (dI (fun x => .ref (A.od x)) S.ok)) ∧
  A.b ≠ A.o ∧ (∀ k ∈ S.ok, 0 ≤ k ∧ k < S.m) ∧ S.ok.length ≤ 1000 ∧ ∀ p H', H p = none → Same H H' → H' p = some (.lst ((above S x).map V.int)) → Q (.ref p) H'
theorem dI_keysV (g : Int → V) (ks : List Int) : (dI g ks).map (fun q => kV q.1) = ks.map V.int := by
  unfold dI
  rw [List.map_map]
  rfl
theorem oV_eq (o : Option Int) (x : Int) : decide (oV o = V.int x) = decide (o = some x) := by
  rw [decide_eq_decide]
  cases o with
  | none => exact ⟨fun e => (nomatch e), fun e => (nomatch e)⟩
  | some z => exact ⟨fun e => congrArg some (V.int.inj e), fun e => congrArg V.int (Option.some.inj e)⟩
theorem scal_oV (o : Option Int) (x : Int) : scal (oV o) (.int x) = true := by cases o <;> rfl
/-- a picked list of ints -/
theorem filt_int {ks : List Int} {p : V → Bool} {p' : Int → Bool} (h : ∀ k ∈ ks, p (.int k) = p' k) : ((ks.map V.int).filter p).map (fun x => x) = (ks.filter p').map V.int := by
  rw [List.map_id', List.filter_map]
  congr 1
  exact List.filter_congr fun k hk => h k hk
theorem ok_above (T : YardC K CY) (F : Fu K "above" "Yard.above" (s_yard 11) f fd) : FnOk P w K mg base CX0 1 f fd ["self", "layer"] (spAbove CY) := by
  have sc : FnScope ["self", "layer", "other"] ["self", "layer"] (defScope (s_yard 11)) := ⟨rfl, rfl, rfl, by decide +kernel, rfl, by decide +kernel, by decide +kernel⟩
  refine F.ok sc (fun vs H Q E h => ?_) (fun cdv A outer s H vs Q E hr h => ?_)
  · obtain ⟨y, _, _, _, _, _, _, _, rfl, _⟩ := h
    rfl
  · obtain ⟨y, dx, bk, n, bg, A, x, S, rfl, h1, hb, ho, nbo, hk, hz, q⟩ := h
    have hu := hu_of hr
    refine ⟨_, pss_one (ps_ret (pe_lock (pe_lc (own := [("other", 2)]) (g := gName 2) (tt := tTest (tOp rEq (tDGet (tFld K (tVar 0) "y_bases") (tVar 2)) (tVar 1))) (by rfl) sc.nd (pi_keys (pe_fld (pv 0) rfl)) (blkOk_by (own := [("other", 2)]) (N := ["self", "layer", "other"]) (sc := defScope (s_yard 11)) (by decide +kernel))
      (fun _ _ _ _ _ => pg_name (i := 2) sc.nd rfl (Or.inl rfl)) (fun _ _ _ _ _ => pts_one (pt_cmpR op_eq (pe_dget hu (pe_fld (pv 0) rfl) (pv 2) (fun _ _ => rfl)) (pv 1) (nomark _))) (fun _ _ _ _ _ => pv 2)))), ?_⟩
    have yo : y ≠ A.o := ne_of h1 ho (by intro z; cases z)
    refine ⟨A.o, _, ho, trivial, fun od => ?_⟩
    generalize hH1 : upd H A.o (.frz od (.dK (dI (fun x => .ref (A.od x)) S.ok))) = H1
    have e0 : H1 A.o = some (.frz od (.dK (dI (fun x => .ref (A.od x)) S.ok))) := by rw [← hH1, upd_same]
    have e1 : H1 y = some (.ins CY dx (yfs bk n A bg)) := by rw [← hH1, upd_ne yo]; exact h1
    have e2 : H1 A.b = some (.dK (dI (fun x => oV (S.bs x)) (rng S.m))) := by rw [← hH1, upd_ne nbo]; exact hb
    refine ⟨_, rfl, y, CY, dx, _, _, rfl, e1, T.cl, T.owned, yf_owned .., A.o, od, rfl, .inl ⟨_, e0, fun D hD => ?_⟩⟩
    refine lc_pick (walk_keysA (kvs := dI (fun x => .ref (A.od x)) S.ok)) hD (fun v => match v with | .int k => decide (S.bs k = some x) | _ => false) (fun v => v) ?_ (fun H s => s _ _ e0) (fun z H' hz' s Q' hq => ?_) (fun z H' hz' hp s Q' hq => ⟨_, rfl, hq _ (Same.refl _)⟩) fun H' s hD' => ?_
    · rw [dI_keysV, List.length_map]
      exact Nat.le_of_lt (small1000 hz)
    · rw [dI_keysV] at hz'
      obtain ⟨k, hkk, rfl⟩ := List.mem_map.mp hz'
      have hk' := hk k hkk
      refine ⟨_, rfl, y, CY, dx, _, _, rfl, s _ _ e1, T.cl, T.bases, yf_bases .., _, rfl, A.b, _, rfl, dI_get (s _ _ e2) (mem_rng.mpr hk'), _, rfl, scal_oV _ _, _, rfl, ?_⟩
      rw [oV_eq]
      exact hq _ (Same.refl _)
    · refine ⟨s _ _ e0, q D _ ?_ ?_ ?_⟩
      · rw [← hH1] at hD
        have : D ≠ A.o := fun e => by subst e; rw [upd_same] at hD; cases hD
        rw [upd_ne this] at hD
        exact hD
      · rw [← hH1] at s
        exact Same.unlock ho s
      · have : D ≠ A.o := fun e => by subst e; rw [e0] at hD; cases hD
        rw [upd_ne this, hD', dI_keysV]
        unfold above
        rw [filt_int (p' := fun k => decide (S.bs k = some x)) fun k hk => rfl]
end
end K20W
end
/-! W7 -/
section
set_option Elab.async false
set_option linter.all false
set_option maxRecDepth 100000
set_option maxHeartbeats 4000000
/-! More of a Yard. -/
namespace K20W
open PySem L2 K20
theorem upd_id {H : Hp} {a : Addr} {o : HO} (h : H a = some o) : upd H a o = H := by
  funext b
  unfold upd
  split
  · rename_i e
    rw [e, h]
  · rfl
def isOpen (S : Vs) (x : Int) : Bool := (rng S.nw).any fun w => decide (S.se w = x)
theorem inV_ints (x : Int) (g : Int → Int) (ks : List Int) : inV (.int x) (ks.map fun k => V.int (g k)) = ks.any fun k => decide (g k = x) := by
  unfold inV
  rw [List.any_map]
  rfl
theorem flat_ints (g : Int → Int) (ks : List Int) : (ks.map fun k => V.int (g k)).all flatV = true := by
  rw [List.all_eq_true]
  intro v hv
  obtain ⟨k, _, rfl⟩ := List.mem_map.mp hv
  rfl
theorem dI_vals (g : Int → V) (ks : List Int) : (dI g ks).map (·.2) = ks.map g := by
  unfold dI
  rw [List.map_map]
  rfl
section
variable {P : Program} {w : World} {K : PySem.W.Frag} {mg : Str → Option Value} {base : Heap} {f CY CB CJ : Addr} {fd : FuncData}
def spIsOpen (CY : Addr) : Sp := fun vs H Q _ => ∃ (y dx bk : Addr) (n bg : Nat) (A : Ad) (x : Int) (S : Vs), vs = [.ref y, .int x] ∧ H y = some (.ins CY dx (yfs bk n A bg)) ∧ H A.s = some (.dK (dI (fun x => .int (S.se x)) (rng S.nw))) ∧ ∀ H', Same H H' → Q (.bl (isOpen S x)) H'
theorem ok_isopen (B : Blt mg) (T : YardC K CY) (F : Fu K "is_open" "Yard.is_open" (s_yard 10) f fd) : FnOk P w K mg base CX0 1 f fd ["self", "layer"] (spIsOpen CY) := by
  have sc : FnScope ["self", "layer"] ["self", "layer"] (defScope (s_yard 10)) := ⟨rfl, rfl, rfl, by decide +kernel, rfl, by decide +kernel, by decide +kernel⟩
  refine F.ok sc (fun vs H Q E h => ?_) (fun cdv A outer s H vs Q E hr h => ?_)
  · obtain ⟨y, _, _, _, _, _, _, _, rfl, _⟩ := h
    rfl
  · obtain ⟨y, dx, bk, n, bg, A, x, S, rfl, h1, hs, q⟩ := h
    refine ⟨_, pss_one (ps_ret (pe_cmpR op_in_seq (pv 1) (pe_callTy (call_list_values rfl) rfl B.list boot_list (pa_cons (pe_bm0 PySem.F.plainAttrs_dict PySem.F.slot_dict_values PySem.F.type_dict_values mt_values (pe_fld (pv 0) rfl)) pa_nil)) rfl)), ?_⟩
    refine ⟨_, rfl, _, rfl, y, CY, dx, _, _, rfl, h1, T.cl, T.seats, yf_seats .., .inr (.inr (.inl ⟨rfl, .inl ⟨_, hs⟩⟩)), A.s, _, rfl, rfl, hs, fun p hp => ?_⟩
    have s1 : Same H (upd H p (valuesO p A.s)) := Same.newS (Same.refl _) hp
    refine ⟨p, A.s, _, rfl, upd_same, s1 _ _ hs, fun q0 hq0 => ⟨q0, _, rfl, .inl (SqL.of upd_same), rfl, ?_, ?_⟩⟩
    · rw [dI_vals]
      exact flat_ints S.se _
    · rw [dI_vals, inV_ints]
      exact q _ (Same.newS s1 hq0)
/-- the number of a job's upper, lower layer, read off the heap -/
def fldOf (H : Hp) (x : Str) : V → V
  | .ref a => match H a with
    | some (.ins _ _ fs) => (fs.lookup x).getD .non
    | _ => .non
  | _ => .non
theorem fldOf_eq {H : Hp} {a C dx : Addr} {fs : List (Str × V)} {x : Str} {v : V} (h : H a = some (.ins C dx fs)) (l : fs.lookup x = some v) : fldOf H x (.ref a) = v := by
  show (match H a with | some (.ins _ _ fs) => (fs.lookup x).getD .non | _ => .non) = v
  rw [h]
  show (fs.lookup x).getD .non = v
  rw [l]
  rfl
def spLayers (CY CJ : Addr) (g : Jb → Int) : Sp := fun vs H Q _ => ∃ (y dx bk : Addr) (n bg : Nat) (A : Ad) (S : Vs) (k : Str), vs = [.ref y] ∧ H y = some (.ins CY dx (yfs bk n A bg)) ∧ H A.j = some (.dK (dI (fun x => .ref (A.jd x)) S.jk)) ∧ S.jk.length ≤ 1000 ∧ (∀ i ∈ S.jk, ∃ dx ma na sv, H (A.jd i) = some (.ins CJ dx (jfs k (S.jo i) ma na sv))) ∧
  ∀ p H', Same H H' → H p = none → H' p = some (.lst (S.jk.map fun i => V.int (g (S.jo i)))) → Q (.ref p) H'
theorem ok_uppers (T : YardC K CY) (TJ : JobC K CJ) (F : Fu K "uppers" "Yard.uppers" (s_yard 12) f fd) : FnOk P w K mg base CX0 1 f fd ["self"] (spLayers CY CJ Jb.up) := by
  have sc : FnScope ["self", "job"] ["self"] (defScope (s_yard 12)) := ⟨rfl, rfl, rfl, by decide +kernel, rfl, by decide +kernel, by decide +kernel⟩
  refine F.ok sc (fun vs H Q E h => ?_) (fun cdv A outer s H vs Q E hr h => ?_)
  · obtain ⟨y, _, _, _, _, _, _, _, rfl, _⟩ := h
    rfl
  · obtain ⟨y, dx, bk, n, bg, A, S, k, rfl, h1, hj, hz, hjo, q⟩ := h
    refine ⟨_, pss_one (ps_ret (pe_lock (pe_lc (own := [("job", 1)]) (g := gName 1) (te := tFld K (tVar 1) "upper") (by rfl) sc.nd (pi_values (pe_fld (pv 0) rfl)) (blkOk_by (own := [("job", 1)]) (N := ["self", "job"]) (sc := defScope (s_yard 12)) (by decide +kernel))
      (fun _ _ _ _ _ => pg_name (i := 1) sc.nd rfl (Or.inl rfl)) (fun _ _ _ _ _ => pts_nil) (fun _ _ _ _ _ => pe_fld (pv 1) rfl)))), ?_⟩
    have yj : y ≠ A.j := ne_of h1 hj (by intro z; cases z)
    refine ⟨A.j, _, hj, trivial, fun od => ?_⟩
    generalize hH1 : upd H A.j (.frz od (.dK (dI (fun x => .ref (A.jd x)) S.jk))) = H1
    have e0 : H1 A.j = some (.frz od (.dK (dI (fun x => .ref (A.jd x)) S.jk))) := by rw [← hH1, upd_same]
    have e1 : H1 y = some (.ins CY dx (yfs bk n A bg)) := by rw [← hH1, upd_ne yj]; exact h1
    have ej : ∀ i ∈ S.jk, ∃ dx ma na sv, H1 (A.jd i) = some (.ins CJ dx (jfs k (S.jo i) ma na sv)) := fun i hi => by
      obtain ⟨dx, ma, na, sv, z⟩ := hjo i hi
      exact ⟨dx, ma, na, sv, by rw [← hH1, upd_ne (ne_of z hj (by intro z; cases z))]; exact z⟩
    refine ⟨_, rfl, y, CY, dx, _, _, rfl, e1, T.cl, T.jobs, yf_jobs .., A.j, od, _, rfl, e0, fun D hD => ?_⟩
    refine lc_pick (walk_valuesA (kvs := dI (fun x => .ref (A.jd x)) S.jk)) hD (fun _ => true) (fldOf H1 "upper") ?_ (fun H s => s _ _ e0) (fun z H' hz' s Q' hq => hq _ (Same.refl _)) (fun z H' hz' hp s Q' hq => ?_) fun H' s hD' => ?_
    · rw [dI_vals, List.length_map]
      exact Nat.le_of_lt (small1000 hz)
    · rw [dI_vals] at hz'
      obtain ⟨i, hi, rfl⟩ := List.mem_map.mp hz'
      obtain ⟨dx', ma, na, sv, hji⟩ := ej i hi
      refine ⟨_, rfl, A.jd i, CJ, dx', _, _, rfl, s _ _ hji, TJ.cl, TJ.upper, jf_upper .., ?_⟩
      have := hq H' (Same.refl _)
      rw [fldOf_eq hji (jf_upper ..)] at this
      exact this
    · have nD : D ≠ A.j := fun e => by subst e; rw [e0] at hD; cases hD
      refine ⟨s _ _ e0, q D _ ?_ ?_ ?_⟩
      · rw [← hH1] at s
        exact Same.unlock hj s
      · rw [← hH1, upd_ne nD] at hD
        exact hD
      · rw [upd_ne nD, hD', dI_vals]
        have : ∀ l : List V, l.filter (fun _ => true) = l := fun l => List.filter_eq_self.mpr fun _ _ => rfl
        rw [this, List.map_map]
        refine congrArg (fun l => some (HO.lst l)) (List.map_congr_left fun i hi => ?_)
        obtain ⟨dx', ma, na, sv, hji⟩ := ej i hi
        exact fldOf_eq hji (jf_upper ..)
theorem ok_lowers (T : YardC K CY) (TJ : JobC K CJ) (F : Fu K "lowers" "Yard.lowers" (s_yard 13) f fd) : FnOk P w K mg base CX0 1 f fd ["self"] (spLayers CY CJ Jb.lo) := by
  have sc : FnScope ["self", "job"] ["self"] (defScope (s_yard 13)) := ⟨rfl, rfl, rfl, by decide +kernel, rfl, by decide +kernel, by decide +kernel⟩
  refine F.ok sc (fun vs H Q E h => ?_) (fun cdv A outer s H vs Q E hr h => ?_)
  · obtain ⟨y, _, _, _, _, _, _, _, rfl, _⟩ := h
    rfl
  · obtain ⟨y, dx, bk, n, bg, A, S, k, rfl, h1, hj, hz, hjo, q⟩ := h
    refine ⟨_, pss_one (ps_ret (pe_lock (pe_lc (own := [("job", 1)]) (g := gName 1) (te := tFld K (tVar 1) "lower") (by rfl) sc.nd (pi_values (pe_fld (pv 0) rfl)) (blkOk_by (own := [("job", 1)]) (N := ["self", "job"]) (sc := defScope (s_yard 13)) (by decide +kernel))
      (fun _ _ _ _ _ => pg_name (i := 1) sc.nd rfl (Or.inl rfl)) (fun _ _ _ _ _ => pts_nil) (fun _ _ _ _ _ => pe_fld (pv 1) rfl)))), ?_⟩
    have yj : y ≠ A.j := ne_of h1 hj (by intro z; cases z)
    refine ⟨A.j, _, hj, trivial, fun od => ?_⟩
    generalize hH1 : upd H A.j (.frz od (.dK (dI (fun x => .ref (A.jd x)) S.jk))) = H1
    have e0 : H1 A.j = some (.frz od (.dK (dI (fun x => .ref (A.jd x)) S.jk))) := by rw [← hH1, upd_same]
    have e1 : H1 y = some (.ins CY dx (yfs bk n A bg)) := by rw [← hH1, upd_ne yj]; exact h1
    have ej : ∀ i ∈ S.jk, ∃ dx ma na sv, H1 (A.jd i) = some (.ins CJ dx (jfs k (S.jo i) ma na sv)) := fun i hi => by
      obtain ⟨dx, ma, na, sv, z⟩ := hjo i hi
      exact ⟨dx, ma, na, sv, by rw [← hH1, upd_ne (ne_of z hj (by intro z; cases z))]; exact z⟩
    refine ⟨_, rfl, y, CY, dx, _, _, rfl, e1, T.cl, T.jobs, yf_jobs .., A.j, od, _, rfl, e0, fun D hD => ?_⟩
    refine lc_pick (walk_valuesA (kvs := dI (fun x => .ref (A.jd x)) S.jk)) hD (fun _ => true) (fldOf H1 "lower") ?_ (fun H s => s _ _ e0) (fun z H' hz' s Q' hq => hq _ (Same.refl _)) (fun z H' hz' hp s Q' hq => ?_) fun H' s hD' => ?_
    · rw [dI_vals, List.length_map]
      exact Nat.le_of_lt (small1000 hz)
    · rw [dI_vals] at hz'
      obtain ⟨i, hi, rfl⟩ := List.mem_map.mp hz'
      obtain ⟨dx', ma, na, sv, hji⟩ := ej i hi
      refine ⟨_, rfl, A.jd i, CJ, dx', _, _, rfl, s _ _ hji, TJ.cl, TJ.lower, jf_lower .., ?_⟩
      have := hq H' (Same.refl _)
      rw [fldOf_eq hji (jf_lower ..)] at this
      exact this
    · have nD : D ≠ A.j := fun e => by subst e; rw [e0] at hD; cases hD
      refine ⟨s _ _ e0, q D _ ?_ ?_ ?_⟩
      · rw [← hH1] at s
        exact Same.unlock hj s
      · rw [← hH1, upd_ne nD] at hD
        exact hD
      · rw [upd_ne nD, hD', dI_vals]
        have : ∀ l : List V, l.filter (fun _ => true) = l := fun l => List.filter_eq_self.mpr fun _ _ => rfl
        rw [this, List.map_map]
        refine congrArg (fun l => some (HO.lst l)) (List.map_congr_left fun i hi => ?_)
        obtain ⟨dx', ma, na, sv, hji⟩ := ej i hi
        exact fldOf_eq hji (jf_lower ..)
/-! ### the checks that pass -/
def spNeedW (CY : Addr) : Sp := fun vs H Q _ => ∃ (y dx bk : Addr) (n bg : Nat) (A : Ad) (x : Int) (g : Int → V) (ks : List Int), vs = [.ref y, .int x] ∧ H y = some (.ins CY dx (yfs bk n A bg)) ∧ (H A.s = some (.dK (dI g ks)) ∨ ∃ o, H A.s = some (.frz o (.dK (dI g ks)))) ∧ x ∈ ks ∧ Q .non H
theorem ok_needw (T : YardC K CY) (g1 : Gd P w K mg base "is_number" 1 ["thing"] spNum) (F : Fu K "need_writer" "Yard.need_writer" (s_yard 6) f fd) : FnOk P w K mg base CX0 2 f fd ["self", "writer"] (spNeedW CY) := by
  have sc : FnScope ["self", "writer"] ["self", "writer"] (defScope (s_yard 6)) := ⟨rfl, rfl, rfl, by decide +kernel, rfl, by decide +kernel, by decide +kernel⟩
  obtain ⟨f1, d1, G1, e1, k1, b1⟩ := g1
  refine F.ok sc (fun vs H Q E h => ?_) (fun cdv A outer s H vs Q E hr h => ?_)
  · obtain ⟨y, _, _, _, _, _, _, _, _, rfl, _⟩ := h
    rfl
  · obtain ⟨y, dx, bk, n, bg, A, x, g, ks, rfl, h1, hs, hx, q⟩ := h
    have hu := hu_of hr
    refine ⟨_, pss_one (ps_if (PW.pt (pw_or (pt_not (pt_val (pe_call G1 hr rfl e1 k1 b1 .nil pass0 (pa_cons (pv 1) pa_nil)))) (pw_or1 (pt_cmp (pc_dnotin hu (pv 1) (pe_fld (pv 0) rfl)))))) (pss_one ps_never) pss_nil), ?_⟩
    refine ⟨_, rfl, x, rfl, true, rfl, iteF ⟨_, rfl, _, rfl, y, CY, dx, _, _, rfl, h1, T.cl, T.seats, yf_seats .., A.s, some (g x), rfl, ?_, _, rfl, iteF q⟩⟩
    rcases hs with hs | ⟨o, hs⟩
    · exact dI_get hs hx
    · exact dI_getF hs hx
def spNeedC (CY : Addr) : Sp := fun vs H Q _ => ∃ (y dx bk : Addr) (n bg : Nat) (A : Ad) (x : Int), vs = [.ref y, .int x] ∧ H y = some (.ins CY dx (yfs bk n A bg)) ∧ 0 ≤ x ∧ x < n ∧ Q .non H
theorem ok_needc (T : YardC K CY) (g1 : Gd P w K mg base "is_number" 1 ["thing"] spNum) (F : Fu K "need_cell" "Yard.need_cell" (s_yard 7) f fd) : FnOk P w K mg base CX0 2 f fd ["self", "cell"] (spNeedC CY) := by
  have sc : FnScope ["self", "cell"] ["self", "cell"] (defScope (s_yard 7)) := ⟨rfl, rfl, rfl, by decide +kernel, rfl, by decide +kernel, by decide +kernel⟩
  obtain ⟨f1, d1, G1, e1, k1, b1⟩ := g1
  refine F.ok sc (fun vs H Q E h => ?_) (fun cdv A outer s H vs Q E hr h => ?_)
  · obtain ⟨y, _, _, _, _, _, _, rfl, _⟩ := h
    rfl
  · obtain ⟨y, dx, bk, n, bg, A, x, rfl, h1, h0, hn, q⟩ := h
    refine ⟨_, pss_one (ps_if (PW.pt (pw_or (pt_not (pt_val (pe_call G1 hr rfl e1 k1 b1 .nil pass0 (pa_cons (pv 1) pa_nil)))) (pw_or1 (pt_not (pt_chain op_le op_lt pe_int (pv 1) (pe_fld (pv 0) rfl)))))) (pss_one ps_never) pss_nil), ?_⟩
    refine ⟨_, rfl, x, rfl, true, rfl, iteF ⟨_, rfl, _, _, rfl, rfl, true, ?_, iteT ⟨_, rfl, y, CY, dx, _, _, rfl, h1, T.cl, T.cells, yf_cells .., _, _, rfl, rfl, true, ?_, iteF q⟩⟩⟩
    · exact congrArg V.bl (decide_eq_true h0)
    · exact congrArg V.bl (decide_eq_true hn)
def spNeedL (CY : Addr) : Sp := fun vs H Q _ => ∃ (y dx bk : Addr) (n bg : Nat) (A : Ad) (x : Int) (g : Int → V) (ks : List Int), vs = [.ref y, .int x] ∧ H y = some (.ins CY dx (yfs bk n A bg)) ∧ H A.o = some (.dK (dI g ks)) ∧ x ∈ ks ∧ Q .non H
theorem ok_needl (T : YardC K CY) (g1 : Gd P w K mg base "is_number" 1 ["thing"] spNum) (F : Fu K "need_layer" "Yard.need_layer" (s_yard 8) f fd) : FnOk P w K mg base CX0 2 f fd ["self", "layer"] (spNeedL CY) := by
  have sc : FnScope ["self", "layer"] ["self", "layer"] (defScope (s_yard 8)) := ⟨rfl, rfl, rfl, by decide +kernel, rfl, by decide +kernel, by decide +kernel⟩
  obtain ⟨f1, d1, G1, e1, k1, b1⟩ := g1
  refine F.ok sc (fun vs H Q E h => ?_) (fun cdv A outer s H vs Q E hr h => ?_)
  · obtain ⟨y, _, _, _, _, _, _, _, _, rfl, _⟩ := h
    rfl
  · obtain ⟨y, dx, bk, n, bg, A, x, g, ks, rfl, h1, hs, hx, q⟩ := h
    have hu := hu_of hr
    refine ⟨_, pss_one (ps_if (PW.pt (pw_or (pt_not (pt_val (pe_call G1 hr rfl e1 k1 b1 .nil pass0 (pa_cons (pv 1) pa_nil)))) (pw_or1 (pt_cmp (pc_dnotin hu (pv 1) (pe_fld (pv 0) rfl)))))) (pss_one ps_never) pss_nil), ?_⟩
    exact ⟨_, rfl, x, rfl, true, rfl, iteF ⟨_, rfl, _, rfl, y, CY, dx, _, _, rfl, h1, T.cl, T.owned, yf_owned .., A.o, some (g x), rfl, dI_get hs hx, _, rfl, iteF q⟩⟩
def spSeatOf (CY : Addr) : Sp := fun vs H Q _ => ∃ (y dx bk : Addr) (n bg : Nat) (A : Ad) (x : Int) (se : Int → Int) (ks : List Int) (g : Int → V) (ok : List Int), vs = [.ref y, .int x] ∧ H y = some (.ins CY dx (yfs bk n A bg)) ∧ H A.s = some (.dK (dI (fun w => .int (se w)) ks)) ∧ H A.o = some (.dK (dI g ok)) ∧ x ∈ ks ∧ se x ∈ ok ∧ Q (.int (se x)) H
theorem ok_seatof (T : YardC K CY) (F : Fu K "seat_of" "Yard.seat_of" (s_yard 9) f fd) : FnOk P w K mg base CX0 1 f fd ["self", "writer"] (spSeatOf CY) := by
  have sc : FnScope ["self", "writer", "layer"] ["self", "writer"] (defScope (s_yard 9)) := ⟨rfl, rfl, rfl, by decide +kernel, rfl, by decide +kernel, by decide +kernel⟩
  refine F.ok sc (fun vs H Q E h => ?_) (fun cdv A outer s H vs Q E hr h => ?_)
  · obtain ⟨y, _, _, _, _, _, _, _, _, _, _, rfl, _⟩ := h
    rfl
  · obtain ⟨y, dx, bk, n, bg, A, x, se, ks, g, ok, rfl, h1, hs, ho, hx, hso, q⟩ := h
    have hu := hu_of hr
    refine ⟨_, pss_cons (ps_set (i := 2) sc.nd rfl (.inl rfl) (pe_dget hu (pe_fld (pv 0) rfl) (pv 1) (fun _ _ => rfl))) (pss_cons (ps_if (pt_cmp (pc_dnotin hu (pv 2) (pe_fld (pv 0) rfl))) (pss_one ps_never) pss_nil) (pss_one (ps_ret (pv 2)))), ?_⟩
    refine ⟨_, rfl, y, CY, dx, _, _, rfl, h1, T.cl, T.seats, yf_seats .., _, rfl, A.s, _, rfl, dI_get hs hx, ?_⟩
    exact ⟨_, rfl, _, rfl, y, CY, dx, _, _, rfl, h1, T.cl, T.owned, yf_owned .., A.o, _, rfl, dI_get ho hso, _, rfl, iteF ⟨_, rfl, q⟩⟩
/-- no job runs -/
def spMerging (CY : Addr) : Sp := fun vs H Q _ => ∃ (y dx bk : Addr) (n bg : Nat) (A : Ad) (x : Int), vs = [.ref y, .int x] ∧ H y = some (.ins CY dx (yfs bk n A bg)) ∧ H A.j = some (.dK []) ∧ Q .non H
theorem ok_merging (T : YardC K CY) (F : Fu K "merging" "Yard.merging" (s_yard 15) f fd) : FnOk P w K mg base CX0 1 f fd ["self", "layer"] (spMerging CY) := by
  have sc : FnScope ["self", "layer", "job"] ["self", "layer"] (defScope (s_yard 15)) := ⟨rfl, rfl, rfl, by decide +kernel, rfl, by decide +kernel, by decide +kernel⟩
  refine F.ok sc (fun vs H Q E h => ?_) (fun cdv A outer s H vs Q E hr h => ?_)
  · obtain ⟨y, _, _, _, _, _, _, rfl, _⟩ := h
    rfl
  · obtain ⟨y, dx, bk, n, bg, A, x, rfl, h1, hj, q⟩ := h
    refine ⟨_, PSs.nox (pss_cons (ps_lock (ps_for PassesOwn.never rfl (pi_values (pe_fld (pv 0) rfl)) (pg_name (i := 2) sc.nd rfl (Or.inl rfl)) (pss_one ps_never))) (pss_one (ps_ret pe_non))), ?_⟩
    have yj : y ≠ A.j := ne_of h1 hj (by intro z; cases z)
    refine ⟨A.j, _, hj, trivial, fun od => ?_⟩
    have e0 : (upd H A.j (.frz od (.dK []))) A.j = some (.frz od (.dK [])) := upd_same
    refine ⟨_, rfl, y, CY, dx, _, _, rfl, by rw [upd_ne yj]; exact h1, T.cl, T.jobs, yf_jobs .., A.j, od, _, rfl, e0, ?_⟩
    refine for_it (walk_values (kvs := [])) (fun _ _ H' => H' = upd H A.j (.frz od (.dK []))) rfl (fun _ _ _ _ e => by rw [e]; exact e0) (fun i _ _ _ _ hi => absurd hi (Nat.not_lt_zero _)) fun σ' H' e => ?_
    subst e
    refine ⟨e0, ?_⟩
    rw [upd_upd, upd_id hj]
    exact q
def spFinish (CY CB CJ : Addr) : Sp := fun vs H Q _ => ∃ (y a dx dj bk ma na : Addr) (n bg : Nat) (A : Ad) (B : BookR) (k : Str) (x : Jb) (sv : V), vs = [.ref y, .ref a] ∧ H y = some (.ins CY dx (yfs bk n A bg)) ∧ BookAt CB H bk B ∧ (B.finish = "one" ∨ B.finish = "link") ∧ H a = some (.ins CJ dj (jfs k x ma na sv)) ∧
  Q (.str (if B.finish = "link" then (if x.half then "cut" else "link") else "both")) H
theorem one_link : ¬ (("one" : Str) = "link") := by decide +kernel
theorem link_one : ¬ (("link" : Str) = "one") := by decide +kernel
theorem ok_finish (TB : BookC K CB) (TY : YardC K CY) (TJ : JobC K CJ) (GB : BookP P w K mg base CB) (F : Fu K "finish_word" "Yard.finish_word" (s_yard 21) f fd) : FnOk P w K mg base CX0 3 f fd ["self", "held"] (spFinish CY CB CJ) := by
  have sc : FnScope ["self", "held"] ["self", "held"] (defScope (s_yard 21)) := ⟨rfl, rfl, rfl, by decide +kernel, rfl, by decide +kernel, by decide +kernel⟩
  obtain ⟨pu, gu, fu, Gu, Pu, bu⟩ := GB.finish
  refine F.ok sc (fun vs H Q E h => ?_) (fun cdv A outer s H vs Q E hr h => ?_)
  · obtain ⟨y, a, _, _, _, _, _, _, _, _, _, _, _, _, rfl, _⟩ := h
    rfl
  · obtain ⟨y, a, dx, dj, bk, ma, na, n, bg, A, B, k, x, sv, rfl, h1, hB, hf, h2, q⟩ := h
    obtain ⟨db, fs, hb⟩ := hB.ins
    refine ⟨_, pss_cons (ps_if (pt_cmpR op_eq (pe_prop (pe_fld (pv 0) rfl) TB.cl Pu Gu hr bu .nil pass0 rfl) pe_str (nomark _)) (pss_one (ps_ret pe_str)) pss_nil)
      (pss_one (ps_ret (pe_ifExp (pt_cmpR op_ne (pe_cmpR op_eq (pe_prop (pe_fld (pv 0) rfl) TB.cl Pu Gu hr bu .nil pass0 rfl) pe_str (nomark _)) (pe_fld (pv 1) rfl) (nomark _)) pe_str pe_str))), ?_⟩
    refine ⟨_, rfl, y, CY, dx, _, _, rfl, h1, TY.cl, TY.book, yf_book .., bk, db, fs, rfl, hb, bk, B, rfl, hB, rfl, _, rfl, ?_⟩
    rw [vstr]
    rcases hf with hf | hf
    · rw [hf, if_neg one_link] at q
      rw [decide_eq_true hf]
      exact iteT q
    · rw [hf, if_pos rfl] at q
      rw [decide_eq_false (fun e => link_one (hf ▸ e))]
      refine iteF ⟨_, rfl, y, CY, dx, _, _, rfl, h1, TY.cl, TY.book, yf_book .., bk, db, fs, rfl, hb, bk, B, rfl, hB, rfl, ?_⟩
      rw [vstr, decide_eq_true hf]
      refine ⟨_, rfl, a, CJ, dj, _, _, rfl, h2, TJ.cl, TJ.half, jf_half .., rfl, _, rfl, ?_⟩
      cases e : x.half with
      | true =>
        rw [e] at q
        exact q
      | false =>
        rw [e] at q
        exact q
end
end K20W
end
/-! W8 -/
section
set_option Elab.async false
set_option linter.all false
set_option maxRecDepth 100000
set_option maxHeartbeats 4000000
/-! What a Yard shows. -/
namespace K20W
open PySem L2 K20
section
variable {P : Program} {w : World} {K : PySem.W.Frag} {mg : Str → Option Value} {base : Heap} {f CY CB CJ : Addr} {fd : FuncData}
def spShown (CY : Addr) : Sp := fun vs H Q _ => ∃ (y dx bk : Addr) (n bg : Nat) (A : Ad) (x c : Int) (S : Vs), vs = [.ref y, .int x, .int c] ∧ H y = some (.ins CY dx (yfs bk n A bg)) ∧ H A.b = some (.dK (dI (fun x => oV (S.bs x)) (rng S.m))) ∧ H A.o = some (.dK (dI (fun x => .ref (A.od x)) S.ok)) ∧
  (∀ x ∈ S.ok, H (A.od x) = some (.dK (rowV (S.ow x)))) ∧ Base n S ∧ 0 ≤ x ∧ x < S.m ∧ Q (oV (shown S c (S.m + 2) (some x))) H
theorem ok_shown (T : YardC K CY) (F : Fu K "shown" "Yard.shown" (s_yard 26) f fd) : FnOk P w K mg base CX0 1 f fd ["self", "layer", "cell"] (spShown CY) := by
  have sc : FnScope ["self", "layer", "cell", "here"] ["self", "layer", "cell"] (defScope (s_yard 26)) := ⟨rfl, rfl, rfl, by decide +kernel, rfl, by decide +kernel, by decide +kernel⟩
  refine F.ok sc (fun vs H Q E h => ?_) (fun cdv A outer s H vs Q E hr h => ?_)
  · obtain ⟨y, _, _, _, _, _, _, _, _, rfl, _⟩ := h
    rfl
  · obtain ⟨y, dx, bk, n, bg, A, x, c, S, rfl, h1, hb, ho, hod, BS, x0, x1, q⟩ := h
    have hu := hu_of hr
    refine ⟨_, PSs.nox (pss_cons (ps_set (i := 3) sc.nd rfl (.inl rfl) (pv 1)) (pss_cons (ps_while PassesOwn.never (PW.pt (pw_and (pt_cmp (pc_notN (pv 3))) (pw_and1 (pt_cmp (pc_din hu (pv 3) (pe_fld (pv 0) rfl))))))
        (pss_cons (ps_if (pt_cmp (pc_din hu (pv 2) (pe_dget hu (pe_fld (pv 0) rfl) (pv 3) (fun _ _ => rfl)))) (pss_one (ps_ret (pe_dget hu (pe_dget hu (pe_fld (pv 0) rfl) (pv 3) (fun _ _ => rfl)) (pv 2) (fun _ _ => rfl)))) pss_nil)
          (pss_one (ps_set (i := 3) sc.nd rfl (.inl rfl) (pe_dget hu (pe_fld (pv 0) rfl) (pv 3) (fun _ _ => rfl))))))
      (pss_one (ps_ret (pe_ifExp (pt_cmp (pc_isN (pv 3))) pe_int pe_non))))), ?_⟩
    refine ⟨_, rfl, ?_⟩
    refine ⟨fun k σ H' => ∃ o : Option Int, k = (match o with | none => 0 | some z => z.toNat + 1) ∧ (∀ z, o = some z → 0 ≤ z ∧ z < S.m) ∧ σ = [some (.ref y), some (.int x), some (.int c), some (oV o)] ∧ H' = H ∧ shown S c (S.m + 2) (some x) = shown S c (S.m + 2) o,
      ⟨_, some x, rfl, fun z e => by injection e with e; subst e; exact ⟨x0, x1⟩, rfl, rfl, rfl⟩, ?_⟩
    rintro k σ H' ⟨o, rfl, hz, rfl, rfl, e⟩
    cases o with
    | none =>
      refine ⟨_, rfl, false, rfl, iteF (iteF ⟨_, rfl, true, rfl, iteT ?_⟩)⟩
      rw [e, shown_none] at q
      exact q
    | some z =>
      obtain ⟨z0, z1⟩ := hz z rfl
      rw [shown_some BS z0 z1] at e
      refine ⟨_, rfl, true, rfl, iteT ⟨_, rfl, _, rfl, y, CY, dx, _, _, rfl, h1, T.cl, T.owned, yf_owned .., A.o, _, rfl, dI_getO z ho, _, rfl, ?_⟩⟩
      by_cases hm : z ∈ S.ok
      · rw [if_pos hm] at e ⊢
        have hrow := hod z hm
        refine iteT ⟨fun σ' H'' => σ' = [some (.ref y), some (.int x), some (.int c), some (oV (S.bs z))] ∧ H'' = H' ∧ get (S.ow z) c = none, ?_, ?_⟩
        · rintro σ' H'' ⟨rfl, rfl, g⟩
          rw [g] at e
          refine ⟨_, ?_, S.bs z, rfl, fun u hu => ?_, rfl, rfl, e⟩
          · cases hb' : S.bs z with
            | none => exact Nat.succ_pos _
            | some u =>
              have := BS.bl z u z0 z1 hb'
              show u.toNat + 1 < z.toNat + 1
              omega
          · have := BS.bl z u z0 z1 hu
            omega
        · refine ⟨_, rfl, _, rfl, y, CY, dx, _, _, rfl, h1, T.cl, T.owned, yf_owned .., _, rfl, A.o, _, rfl, dI_get ho hm, A.od z, _, rfl, row_get hrow c, _, rfl, ?_⟩
          rw [isSome_map]
          cases g : get (S.ow z) c with
          | some v =>
            rw [g] at e
            refine iteT ⟨_, rfl, y, CY, dx, _, _, rfl, h1, T.cl, T.owned, yf_owned .., _, rfl, A.o, _, rfl, dI_get ho hm, _, rfl, A.od z, V.int v, rfl, ?_, ?_⟩
            · have := row_get hrow c
              rw [g] at this
              exact this
            · rw [e] at q
              exact q
          | none =>
            refine iteF ⟨_, rfl, y, CY, dx, _, _, rfl, h1, T.cl, T.bases, yf_bases .., _, rfl, A.b, _, rfl, dI_get hb (mem_rng.mpr ⟨z0, z1⟩), rfl, rfl, rfl⟩
      · rw [if_neg hm] at e ⊢
        refine iteF ⟨_, rfl, false, rfl, iteF ?_⟩
        rw [e] at q
        exact q
/-- contents(writer) -/
def spContents (CY : Addr) : Sp := fun vs H Q _ => ∃ (y dx bk : Addr) (n bg : Nat) (A : Ad) (x : Int) (S : Vs), vs = [.ref y, .int x] ∧ H y = some (.ins CY dx (yfs bk n A bg)) ∧ H A.s = some (.dK (dI (fun x => .int (S.se x)) (rng S.nw))) ∧ H A.c = some (.dK (dI (fun x => .ref (A.cd x)) (rng S.nw))) ∧ x ∈ rng S.nw ∧ Q (.ref (A.cd x)) H
theorem ok_contents (T : YardC K CY) (m1 : Md P w K mg base CY "need_writer" 2 ["self", "writer"] (spNeedW CY)) (F : Fu K "contents" "Yard.contents" (s_yard 28) f fd) : FnOk P w K mg base CX0 3 f fd ["self", "writer"] (spContents CY) := by
  have sc : FnScope ["self", "writer"] ["self", "writer"] (defScope (s_yard 28)) := ⟨rfl, rfl, rfl, by decide +kernel, rfl, by decide +kernel, by decide +kernel⟩
  obtain ⟨f4, d4, G4, M4, b4⟩ := m1
  refine F.ok sc (fun vs H Q E h => ?_) (fun cdv A outer s H vs Q E hr h => ?_)
  · obtain ⟨y, _, _, _, _, _, _, _, rfl, _⟩ := h
    rfl
  · obtain ⟨y, dx, bk, n, bg, A, x, S, rfl, h1, hs, hc, hx, q⟩ := h
    have hu := hu_of hr
    refine ⟨_, pss_cons (ps_expr (pe_meth (pv 0) T.cl M4 G4 hr b4 .nil pass0 (pa_cons (pv 1) pa_nil))) (pss_one (ps_ret (pe_dget hu (pe_fld (pv 0) rfl) (pv 1) (fun _ _ => rfl)))), ?_⟩
    refine ⟨_, rfl, y, dx, _, rfl, h1, by kernel_rfl, _, rfl, y, dx, bk, n, bg, A, x, _, _, rfl, h1, .inl hs, hx, ?_⟩
    exact ⟨_, rfl, y, CY, dx, _, _, rfl, h1, T.cl, T.contents, yf_contents .., _, rfl, A.c, _, rfl, dI_get hc hx, q⟩
/-- the property cells -/
def spCells (CY : Addr) : Sp := fun vs H Q _ => ∃ (y dx bk : Addr) (n bg : Nat) (A : Ad), vs = [.ref y] ∧ H y = some (.ins CY dx (yfs bk n A bg)) ∧ Q (.int n) H
theorem ok_cells (T : YardC K CY) (F : Fu K "cells" "Yard.cells" (s_yard 2) f fd) : FnOk P w K mg base CX0 1 f fd ["self"] (spCells CY) := by
  have sc : FnScope ["self"] ["self"] (defScope (s_yard 2)) := ⟨rfl, rfl, rfl, by decide +kernel, rfl, by decide +kernel, by decide +kernel⟩
  refine F.ok sc (fun vs H Q E h => ?_) (fun cdv A outer s H vs Q E hr h => ?_)
  · obtain ⟨y, _, _, _, _, _, rfl, _⟩ := h
    rfl
  · obtain ⟨y, dx, bk, n, bg, A, rfl, h1, q⟩ := h
    exact ⟨_, pss_one (ps_ret (pe_fld (pv 0) rfl)), _, rfl, y, CY, dx, _, _, rfl, h1, T.cl, T.cells, yf_cells .., q⟩
/-- a reading that is wrong, or None -/
def WrongV (H : Hp) (v : V) : Option (Int × Int) → Prop
  | none => v = .non
  | some (x, c) => ∃ t, v = .ref t ∧ H t = some (.tup [.int x, .int c])
def spWrong (CY : Addr) : Sp := fun vs H Q _ => ∃ (y dx bk : Addr) (n bg : Nat) (A : Ad) (S : Vs), vs = [.ref y] ∧ H y = some (.ins CY dx (yfs bk n A bg)) ∧ H A.b = some (.dK (dI (fun x => oV (S.bs x)) (rng S.m))) ∧ H A.o = some (.dK (dI (fun x => .ref (A.od x)) S.ok)) ∧
  H A.s = some (.dK (dI (fun x => .int (S.se x)) (rng S.nw))) ∧ H A.c = some (.dK (dI (fun x => .ref (A.cd x)) (rng S.nw))) ∧ A.s ≠ A.b ∧ A.s ≠ A.o ∧ A.s ≠ A.c ∧ (∀ x ∈ S.ok, A.s ≠ A.od x) ∧
  (∀ x ∈ S.ok, H (A.od x) = some (.dK (rowV (S.ow x)))) ∧ (∀ x ∈ rng S.nw, H (A.cd x) = some (.tup ((S.co x).map V.int))) ∧ Base n S ∧ n ≤ 1000 ∧ ∀ v H', Same H H' → WrongV H' v (wrong S n) → Q v H'
theorem ok_wrong (B : Blt mg) (T : YardC K CY) (m1 : Md P w K mg base CY "shown" 1 ["self", "layer", "cell"] (spShown CY)) (F : Fu K "wrong" "Yard.wrong" (s_yard 31) f fd) : FnOk P w K mg base CX0 3 f fd ["self"] (spWrong CY) := by
  have sc : FnScope ["self", "writer", "cell"] ["self"] (defScope (s_yard 31)) := ⟨rfl, rfl, rfl, by decide +kernel, rfl, by decide +kernel, by decide +kernel⟩
  obtain ⟨f4, d4, G4, M4, b4⟩ := m1
  refine F.ok sc (fun vs H Q E h => ?_) (fun cdv A outer s H vs Q E hr h => ?_)
  · obtain ⟨y, _, _, _, _, _, _, rfl, _⟩ := h
    rfl
  · obtain ⟨y, dx, bk, n, bg, A, S, rfl, h1, hb, ho, hs, hc, n1, n2, n3, n4, hod, hcd, BS, hn, q⟩ := h
    have hu := hu_of hr
    have hr1 : Room 1 _ := hr.mono (by decide)
    refine ⟨_, PSs.nox (pss_cons (ps_lock (ps_for PassesOwn.never rfl (pi_keys (pe_fld (pv 0) rfl)) (pg_name (i := 1) sc.nd rfl (Or.inl rfl))
        (pss_one (ps_for PassesOwn.never rfl (pi_range1 rfl B.range (pa_cons (pe_fld (pv 0) rfl) pa_nil)) (pg_name (i := 2) sc.nd rfl (Or.inl rfl))
          (pss_one (ps_if (pt_cmpR op_ne (pe_meth (pv 0) T.cl M4 G4 hr1 b4 .nil pass0 (pa_cons (pe_dget hu (pe_fld (pv 0) rfl) (pv 1) (fun _ _ => rfl)) (pa_cons (pv 2) pa_nil))) (pe_ix ix_tup (pe_dget hu (pe_fld (pv 0) rfl) (pv 1) (fun _ _ => rfl)) (pv 2) (fun _ _ => rfl)) (nomark _))
            (pss_one (ps_ret (pe_tup (pa_cons (pv 1) (pa_cons (pv 2) pa_nil))))) pss_nil)))))) (pss_one (ps_ret pe_non))), ?_⟩
    have ys : y ≠ A.s := ne_of h1 hs (by intro z; cases z)
    refine ⟨A.s, _, hs, trivial, fun od => ?_⟩
    generalize hH1 : upd H A.s (.frz od (.dK (dI (fun x => .int (S.se x)) (rng S.nw)))) = H1
    have e0 : H1 A.s = some (.frz od (.dK (dI (fun x => .int (S.se x)) (rng S.nw)))) := by rw [← hH1, upd_same]
    have off : ∀ {a : Addr} {o : HO}, A.s ≠ a → H a = some o → H1 a = some o := fun n h => by rw [← hH1, upd_ne n.symm]; exact h
    have e1 := off ys.symm h1
    have eb := off n1 hb
    have eo := off n2 ho
    have ec := off n3 hc
    have eod : ∀ x ∈ S.ok, H1 (A.od x) = some (.dK (rowV (S.ow x))) := fun x hx => off (n4 x hx) (hod x hx)
    have ecd : ∀ x ∈ rng S.nw, H1 (A.cd x) = some (.tup ((S.co x).map V.int)) := fun x hx => off (ne_of hs (hcd x hx) (by intro z; cases z)) (hcd x hx)
    have fin : ∀ {σ : L2.St} {v : V} {H' : Hp}, Same H1 H' → WrongV H' v (wrong S n) → H' A.s = some (.frz od (.dK (dI (fun x => .int (S.se x)) (rng S.nw)))) ∧ Q v (upd H' A.s (.dK (dI (fun x => .int (S.se x)) (rng S.nw)))) := fun {σ v H'} s wv => by
      refine ⟨s _ _ e0, q v _ ?_ ?_⟩
      · rw [← hH1] at s
        exact Same.unlock hs s
      · cases e : wrong S n with
        | none =>
          rw [e] at wv
          exact wv
        | some p =>
          obtain ⟨x, c⟩ := p
          rw [e] at wv
          obtain ⟨t, e2, ht⟩ := wv
          refine ⟨t, e2, ?_⟩
          rw [upd_ne (ne_of ht (s _ _ e0) (by intro z; cases z))]
          exact ht
    refine ⟨_, rfl, y, CY, dx, _, _, rfl, e1, T.cl, T.seats, yf_seats .., A.s, od, rfl, .inl ⟨_, e0, ?_⟩⟩
    refine for_it walk_keys (fun i σ H' => H' = H1 ∧ (∃ a b, σ = [some (.ref y), a, b]) ∧ ∀ j, j < i → j < S.nw → wrongIn S j n = none) ⟨rfl, ⟨_, _, rfl⟩, fun j hj => absurd hj (Nat.not_lt_zero _)⟩ (fun i σ H' _ h => by rw [h.1]; exact e0) ?_ ?_
    · rintro i x σ H' H2 hi ⟨rfl, ⟨a0, b0, rfl⟩, hw⟩ ⟨rfl, kk, vv, hk, rfl⟩
      rw [dI_length, rng_length] at hi
      have hki : kk = Sum.inl (i : Int) := by
        unfold dI at hk
        rw [List.getElem?_map, rng_get hi] at hk
        cases hk
        rfl
      subst hki
      have mi : (i : Int) ∈ rng S.nw := mem_rng.mpr ⟨by omega, by omega⟩
      obtain ⟨s0, s1⟩ := BS.sr i (by omega) (by omega)
      refine ⟨_, rfl, y, CY, dx, _, _, rfl, e1, T.cl, T.cells, yf_cells .., _, rfl, by omega, by omega, ?_⟩
      rw [show ((n : Nat) : Int).toNat = n from by omega]
      refine for_it walk_range (fun c σ H' => H' = H2 ∧ (∃ b, σ = [some (.ref y), some (.int i), b]) ∧ ∀ d : Nat, d < c → d < n → reads S i d = (S.co i)[d]?) ⟨rfl, ⟨_, rfl⟩, fun d hd => absurd hd (Nat.not_lt_zero _)⟩ (fun _ _ _ _ _ => trivial) ?_ ?_
      · rintro c x σ H' H3 hc' ⟨rfl, ⟨b1, rfl⟩, hd⟩ ⟨rfl, rfl⟩
        have lc : c < (S.co i).length := by rw [BS.cl i (by omega) (by omega)]; exact hc'
        have hcv : (S.co i)[c]? = some (S.co i)[c] := List.getElem?_eq_getElem lc
        refine ⟨_, rfl, y, dx, _, rfl, e1, by kernel_rfl, _, rfl, y, CY, dx, _, _, rfl, e1, T.cl, T.seats, yf_seats .., _, rfl, A.s, _, rfl, dI_getF e0 mi, _, rfl, y, dx, bk, n, bg, A, S.se i, (0 + (c : Nat) : Int), S, rfl, e1, eb, eo, eod, BS, s0, s1, ?_⟩
        refine ⟨_, rfl, y, CY, dx, _, _, rfl, e1, T.cl, T.contents, yf_contents .., _, rfl, A.c, _, rfl, dI_get ec mi, _, rfl, A.cd i, _, _, V.int (S.co i)[c], rfl, rfl, SqT.of (ecd _ mi), ?_, scal_oV _ _, _, rfl, ?_⟩
        · rw [show (0 + (c : Nat) : Int) = ((c : Nat) : Int) from by omega]
          exact atI_nat (by rw [List.getElem?_map, hcv]; rfl)
        · rw [oV_eq]
          have ez : (0 + (c : Nat) : Int) = (c : Int) := by omega
          rw [ez]
          by_cases e : shown S (c : Int) (S.m + 2) (some (S.se i)) = some (S.co i)[c]
          · rw [decide_eq_true e]
            refine iteF ⟨rfl, ⟨_, rfl⟩, fun d h1 h2 => ?_⟩
            by_cases ed : d = c
            · subst ed
              rw [hcv]
              exact e
            · exact hd d (by omega) h2
          · rw [decide_eq_false e]
            refine iteT ⟨_, rfl, _, rfl, (show 2 ≤ sizeLine from by decide), fun t ht => fin (σ := []) (Same.newS (Same.refl _) ht) ?_⟩
            have ew : wrong S n = some ((i : Int), (c : Int)) := by
              refine find_at (rng_get hi) (fun j y hj hy => ?_) ?_
              · obtain ⟨rfl, hj2⟩ := rng_got hy
                exact hw j hj hj2
              · refine find_at (rng_get hc') (fun j y hj hy => ?_) ?_
                · obtain ⟨rfl, hj2⟩ := rng_got hy
                  have := hd j hj hj2
                  show (if reads S i j = (S.co i)[(j : Int).toNat]? then none else some ((i : Int), (j : Int))) = none
                  rw [if_pos (by rw [this]; rfl)]
                · show (if reads S i c = (S.co i)[(c : Int).toNat]? then none else some ((i : Int), (c : Int))) = _
                  rw [if_neg]
                  intro z
                  rw [show (c : Int).toNat = c from by omega, hcv] at z
                  exact e z
            rw [ew]
            exact ⟨t, rfl, by rw [upd_same]; show some (HO.tup [V.int i, V.int (0 + (c : Nat) : Int)]) = _; rw [ez]⟩
      · rintro σ H' ⟨rfl, ⟨b1, rfl⟩, hd⟩
        refine ⟨rfl, ⟨_, _, rfl⟩, fun j hj hj2 => ?_⟩
        by_cases ej : j = i
        · subst ej
          refine find_none fun y hy => ?_
          have := mem_rng.mp hy
          show (if reads S j y = (S.co j)[y.toNat]? then none else some ((j : Int), y)) = none
          rw [if_pos]
          have h3 := hd y.toNat (by omega) (by omega)
          rw [show ((y.toNat : Nat) : Int) = y from by omega] at h3
          exact h3
        · exact hw j (by omega) hj2
    · rintro σ H' ⟨rfl, ⟨a0, b0, rfl⟩, hw⟩
      rw [dI_length, rng_length] at hw
      have ew : wrong S n = none := find_none fun y hy => by
        have := mem_rng.mp hy
        have h3 := hw y.toNat (by omega) (by omega)
        rw [show ((y.toNat : Nat) : Int) = y from by omega] at h3
        exact h3
      exact fin (σ := []) (Same.refl _) (by rw [ew]; rfl)
end
end K20W
end
/-! W9 -/
section
set_option Elab.async false
set_option linter.all false
set_option maxRecDepth 100000
set_option maxHeartbeats 4000000
/-! link, cut. -/
namespace K20W
open PySem L2 K20
/-- a Yard, its addresses told -/
structure YA (CY CJ : Addr) (dn : Bool) (bk : Addr) (n : Nat) (H : Hp) (y : Addr) (A : Ad) (S : Vs) (D : Du) (τ : Addr → Int) : Prop where
  ob : ∃ dx, H y = some (.ins CY dx (yfs bk n A S.bg))
  re : Rep (JobAt CJ dn) H A S D τ y
  bk0 : τ bk = 0
theorem dI_set {H : Hp} {a : Addr} {g : Int → V} {ks : List Int} {k : Int} (h : H a = some (.dK (dI g ks))) (hl : ks.length ≤ 1000) (v : V) : DPut H a (.int k) v (upd H a (.dK (dI (fupd g k v) (if k ∈ ks then ks else ks ++ [k])))) := by
  by_cases hk : k ∈ ks
  · rw [if_pos hk]
    exact dI_setOld h hk hl v
  · rw [if_neg hk]
    exact dI_setNew h hk hl v
theorem nodup_le : ∀ {m : Nat} {l : List Int}, l.Nodup → (∀ x ∈ l, 0 ≤ x ∧ x < m) → l.length ≤ m
  | 0, [], _, _ => Nat.le_refl _
  | 0, a :: r, _, h => by have := h a (List.mem_cons_self); omega
  | m + 1, l, hn, h => by
    have e : (l.filter fun x => decide (x ≠ (m : Int))).length ≤ m := nodup_le (hn.sublist List.filter_sublist) fun x hx => by
      obtain ⟨h1, h2⟩ := List.mem_filter.mp hx
      have := h x h1
      have h2 := of_decide_eq_true h2
      omega
    have e2 : l.length ≤ (l.filter fun x => decide (x ≠ (m : Int))).length + 1 := by
      clear e h
      induction l with
      | nil => simp
      | cons a r ih =>
        obtain ⟨h1, h2⟩ := List.nodup_cons.mp hn
        by_cases q : a = (m : Int)
        · subst q
          have : r.filter (fun x => decide (x ≠ (m : Int))) = r := List.filter_eq_self.mpr fun x hx => decide_eq_true fun e => h1 (e ▸ hx)
          rw [List.filter_cons_of_neg (by simp), this, List.length_cons]
          exact Nat.le_refl _
        · rw [List.filter_cons_of_pos (by simp [q]), List.length_cons, List.length_cons]
          have := ih h2
          omega
    omega
theorem ok_len {n : Nat} {S : Vs} (B : Base n S) : S.ok.length ≤ 20 := Nat.le_trans (nodup_le (B.os.imp fun {a b} h => by omega) B.oi) B.m14
theorem jk_len {n : Nat} {S : Vs} (B : Base n S) : S.jk.length ≤ 20 := Nat.le_trans (nodup_le (B.jn.imp fun {a b} h => by omega) B.ji) B.b20
section
variable {P : Program} {w : World} {K : PySem.W.Frag} {mg : Str → Option Value} {base : Heap} {f CY CB CJ : Addr} {fd : FuncData}
theorem cut_up (P : Par) (S : Vs) (J : Jb) (h : goneOf P S J = none) : cutS P S J = S := by
  unfold K20.cutS
  rw [h]
  have : S.ok.filter (fun y => decide (some y ≠ (none : Option Int))) = S.ok := List.filter_eq_self.mpr fun x _ => rfl
  rw [this]
theorem cut_at (P : Par) (S : Vs) (J : Jb) (z : Int) (h : goneOf P S J = some z) : cutS P S J = { S with ok := S.ok.filter fun x => decide (x ≠ z) } := by
  unfold K20.cutS
  rw [h]
  have : (fun y => decide (some y ≠ some z)) = fun x => decide (x ≠ z) := by
    funext x
    rw [decide_eq_decide]
    exact not_congr ⟨Option.some.inj, fun e => by rw [e]⟩
  rw [this]
/-- a layer is removed from the table -/
theorem YA.del {dn : Bool} {bk : Addr} {n : Nat} {H : Hp} {y : Addr} {A : Ad} {S : Vs} {D : Du} {τ : Addr → Int} (Y : YA CY CJ dn bk n H y A S D τ) (z : Int) :
    YA CY CJ dn bk n (upd H A.o (.dK (dropK (dI (fun x => .ref (A.od x)) S.ok) (Sum.inl z)))) y A { S with ok := S.ok.filter fun x => decide (x ≠ z) } D τ ∧ Kp τ H (upd H A.o (.dK (dropK (dI (fun x => .ref (A.od x)) S.ok) (Sum.inl z)))) := by
  obtain ⟨⟨dx, h1⟩, R, b0⟩ := Y
  rw [dI_drop]
  have yo : y ≠ A.o := ne_of h1 R.ho (by intro z; cases z)
  refine ⟨⟨⟨dx, by rw [upd_ne yo]; exact h1⟩, R.drop (JobAt.stays CJ dn) (Ch.wr R.to R.ho isT_dK) (fun x hx => (List.mem_filter.mp hx).1) upd_same (R.live.wr _ _), b0⟩, (Kp.refl τ H).wr (by rw [R.to]; decide) R.ho isT_dK⟩
def spCut (CY CB CJ : Addr) : Sp := fun vs H Q _ => ∃ (y bk : Addr) (dn : Bool) (n : Nat) (A : Ad) (S : Vs) (D : Du) (τ : Addr → Int) (B : BookR) (i : Int), vs = [.ref y, .ref (A.jd i)] ∧ YA CY CJ dn bk n H y A S D τ ∧ BookAt CB H bk B ∧ i ∈ S.jk ∧ (S.jo i).up ∈ S.ok ∧ (S.jo i).lo ∈ S.ok ∧ Base n S ∧
  ∀ H', YA CY CJ dn bk n H' y A (cutS (par B dn n) S (S.jo i)) D τ → Kp τ H H' → Q .non H'
theorem ok_cut (TB : BookC K CB) (TY : YardC K CY) (TJ : JobC K CJ) (GB : BookP P w K mg base CB) (m1 : Md P w K mg base CY "above" 1 ["self", "layer"] (spAbove CY)) (F : Fu K "cut" "Yard.cut" (s_yard 23) f fd) : FnOk P w K mg base CX0 3 f fd ["self", "held"] (spCut CY CB CJ) := by
  have sc : FnScope ["self", "held", "one"] ["self", "held"] (defScope (s_yard 23)) := ⟨rfl, rfl, rfl, by decide +kernel, rfl, by decide +kernel, by decide +kernel⟩
  obtain ⟨pu, gu, fu, Gu, Pu, bu⟩ := GB.counts
  obtain ⟨f4, d4, G4, M4, b4⟩ := m1
  refine F.ok sc (fun vs H Q E h => ?_) (fun cdv A outer s H vs Q E hr h => ?_)
  · obtain ⟨y, _, _, _, _, _, _, _, _, _, rfl, _⟩ := h
    rfl
  · obtain ⟨y, bk, dn, n, A, S, D, τ, B, i, rfl, Y, hB, hi, hup, hlo, BS, q⟩ := h
    have hu := hu_of hr
    have hr1 : Room 1 _ := hr.mono (by decide)
    obtain ⟨⟨dx, h1⟩, R, b0⟩ := id Y
    obtain ⟨dj, ma, na, sv, hj, _, _, _, _, _⟩ := R.hjd i hi
    obtain ⟨db, fs, hb⟩ := hB.ins
    refine ⟨_, PSs.nox (pss_one (ps_if (pt_cmpR op_eq (pe_fld (pv 1) rfl) pe_str (nomark _)) (pss_one (ps_ddel (pe_fld (pv 0) rfl) (pe_fld (pv 1) rfl)))
      (pss_one (ps_if (PW.pt (pw_and (pt_cmpR op_eq (pe_prop (pe_fld (pv 0) rfl) TB.cl Pu Gu hr bu .nil pass0 rfl) pe_str (nomark _)) (pw_and1 (pt_val (pe_fld (pv 1) rfl))))) (pss_one (ps_ddel (pe_fld (pv 0) rfl) (pe_fld (pv 1) rfl)))
        (pss_one (ps_if (PW.pt (pw_and (pt_cmpR op_eq (pe_prop (pe_fld (pv 0) rfl) TB.cl Pu Gu hr bu .nil pass0 rfl) pe_str (nomark _)) (pw_and1 (pt_cmpR (op_eqD hr.units)
            (pe_lc (own := [("one", 2)]) (g := gName 2) (tt := tTest (tOp rNe (tVar 2) (tFld K (tVar 1) "upper"))) (by rfl) sc.nd (pi_list (pe_meth (pv 0) TY.cl M4 G4 hr1 b4 .nil pass0 (pa_cons (pe_fld (pv 1) rfl) pa_nil))) (blkOk_by (own := [("one", 2)]) (N := ["self", "held", "one"]) (sc := defScope (s_yard 23)) (by decide +kernel))
              (fun _ _ _ _ _ => pg_name (i := 2) sc.nd rfl (Or.inl rfl)) (fun _ _ _ _ _ => pts_one (pt_cmpR op_ne (pv 2) (pe_fld (pv 1) rfl) (nomark _))) (fun _ _ _ _ _ => pv 2))
            (pe_lst pa_nil) (nomark _))))) (pss_one (ps_ddel (pe_fld (pv 0) rfl) (pe_fld (pv 1) rfl))) pss_nil)))))), ?_⟩
    have del : ∀ z, z ∈ S.ok → goneOf (par B dn n) S (S.jo i) = some z → ∀ H1 : Hp, Same H H1 → Q .non (upd H1 A.o (.dK (dropK (dI (fun x => .ref (A.od x)) S.ok) (Sum.inl z)))) := fun z hz e H1 s1 => by
      have Y1 : YA CY CJ dn bk n H1 y A S D τ := ⟨⟨dx, s1 _ _ h1⟩, R.same (JobAt.stays CJ dn) s1, b0⟩
      obtain ⟨Y2, k2⟩ := Y1.del z
      rw [← cut_at _ _ _ _ e] at Y2
      exact q _ Y2 (Kp.trans (Kp.of_same s1) (Gw.refl τ H) k2)
    have some_in : ∀ z, z ∈ S.ok → (valV (dI (fun x => V.ref (A.od x)) S.ok) (Sum.inl z)).isSome = true := fun z hz => by rw [dI_in hz]; rfl
    refine ⟨_, rfl, A.jd i, CJ, dj, _, _, rfl, hj, TJ.cl, TJ.kind, jf_kind .., rfl, _, rfl, ?_⟩
    rw [kind_down]
    cases hdn : dn with
    | true =>
      refine iteT ⟨_, rfl, y, CY, dx, _, _, rfl, h1, TY.cl, TY.owned, yf_owned .., _, rfl, A.jd i, CJ, dj, _, _, rfl, hj, TJ.cl, TJ.upper, jf_upper .., A.o, _, Sum.inl (S.jo i).up, rfl, R.ho, rfl, some_in _ hup, ?_⟩
      refine del _ hup ?_ H (Same.refl _)
      unfold goneOf par
      rw [hdn]
      rfl
    | false =>
      have hg : goneOf (par B dn n) S (S.jo i) = if freeOf (par B dn n) S (S.jo i) then some (S.jo i).lo else none := by
        unfold goneOf par
        rw [hdn]
        rfl
      have hff : freeOf (par B dn n) S (S.jo i) = if decide (B.counts = "first") then (S.jo i).free else decide (B.counts = "last") && ((above S (S.jo i).lo).filter fun y => decide (y ≠ (S.jo i).up)).isEmpty := rfl
      have none_ : freeOf (par B dn n) S (S.jo i) = false → ∀ H1 : Hp, Same H H1 → Q .non H1 := fun e H1 s1 => by
        rw [e] at hg
        have := q H1
        rw [cut_up _ _ _ hg] at this
        exact this ⟨⟨dx, s1 _ _ h1⟩, R.same (JobAt.stays CJ dn) s1, b0⟩ (Kp.of_same s1)
      refine iteF ⟨_, rfl, y, CY, dx, _, _, rfl, h1, TY.cl, TY.book, yf_book .., bk, db, fs, rfl, hb, bk, B, rfl, hB, rfl, _, rfl, ?_⟩
      rw [vstr]
      -- the last arm
      have last : B.counts ≠ "first" → tIfS (tAnd (tTest (tOp rEq (tProp CB (spWord CB BookR.counts) [] E0 (tFld K (tVar 0) "y_book")) (tC (.str "last")))) (tTest (tOp (rEqD K)
          (tLc (iList K (tMeth CY "above" (spAbove CY) [] E0 (tVar 0) (tCons (tFld K (tVar 1) "lower") tNil))) (gName 2) (tTest (tOp rNe (tVar 2) (tFld K (tVar 1) "upper"))) (tVar 2) [2]) (tLst tNil))))
          (sDDel (tFld K (tVar 0) "y_owned") (tFld K (tVar 1) "lower")) tNext { nx := fun _ H' => Q .non H', rt := Q } (start ["self", "held", "one"] [.ref y, .ref (A.jd i)]) H := by
        intro hc
        rw [decide_eq_false hc] at hff
        refine ⟨_, rfl, y, CY, dx, _, _, rfl, h1, TY.cl, TY.book, yf_book .., bk, db, fs, rfl, hb, bk, B, rfl, hB, rfl, _, rfl, ?_⟩
        rw [vstr]
        by_cases hl : B.counts = "last"
        · rw [decide_eq_true hl] at hff ⊢
          refine iteT ⟨_, rfl, y, dx, _, rfl, h1, by kernel_rfl, _, rfl, A.jd i, CJ, dj, _, _, rfl, hj, TJ.cl, TJ.lower, jf_lower .., y, dx, bk, n, S.bg, A, (S.jo i).lo, S, rfl, h1, R.hb, R.ho, tag_ne R.tb R.to (by decide), BS.oi, Nat.le_trans (ok_len BS) (by decide), fun p H1 hp s1 hl1 => ?_⟩
          refine ⟨p, rfl, ⟨_, SqL.of hl1⟩, fun D0 hD0 => ?_⟩
          refine lc_pick (walk_list (K := K) (a := p) (xs := (above S (S.jo i).lo).map V.int)) hD0 (fun v => !decide (v = V.int (S.jo i).up)) (fun v => v) ?_ (fun H2 s2 => SqL.of (s2 _ _ hl1)) (fun x H2 hx s2 Q' hq => ?_) (fun x H2 hx _ s2 Q' hq => ⟨_, rfl, hq _ (Same.refl _)⟩) fun H2 s2 hD2 => ?_
          · rw [List.length_map]
            refine Nat.le_trans (List.length_filter_le _ _) (Nat.le_trans (ok_len BS) (by decide))
          · obtain ⟨z, _, rfl⟩ := List.mem_map.mp hx
            exact ⟨_, rfl, _, rfl, A.jd i, CJ, dj, _, _, rfl, s2 _ _ (s1 _ _ hj), TJ.cl, TJ.upper, jf_upper .., rfl, _, rfl, hq _ (Same.refl _)⟩
          · have el : (((above S (S.jo i).lo).map V.int).filter fun v => !decide (v = V.int (S.jo i).up)).map (fun v => v) = ((above S (S.jo i).lo).filter fun y => decide (y ≠ (S.jo i).up)).map V.int :=
              filt_int fun k _ => by
                rw [Bool.eq_iff_iff]
                simp
            rw [el] at hD2
            refine ⟨by decide, fun e0 he0 => ?_⟩
            have s3 : Same H2 (upd H2 e0 (.lst [])) := Same.newS (Same.refl _) he0
            refine ⟨_, _, .lst (SqL.of (s3 _ _ hD2)) (dpAll_ints K _ _), .lst (SqL.of upd_same) (dpAll_ints K _ []), shaped_ints _, shaped_ints [], _, rfl, ?_⟩
            rw [eqv_ints]
            have s4 : Same H (upd H2 e0 (.lst [])) := Same.trans s1 (Same.trans s2 s3)
            by_cases hem : (above S (S.jo i).lo).filter (fun y => decide (y ≠ (S.jo i).up)) = []
            · rw [hem] at hff ⊢
              refine iteT ⟨_, rfl, y, CY, dx, _, _, rfl, s4 _ _ h1, TY.cl, TY.owned, yf_owned .., _, rfl, A.jd i, CJ, dj, _, _, rfl, s4 _ _ hj, TJ.cl, TJ.lower, jf_lower .., A.o, _, Sum.inl (S.jo i).lo, rfl, s4 _ _ R.ho, rfl, some_in _ hlo, ?_⟩
              refine del _ hlo ?_ _ s4
              rw [hg, hff]
              rfl
            · rw [decide_eq_false hem]
              refine iteF (none_ ?_ _ s4)
              rw [hff]
              show (true && _) = false
              rw [Bool.true_and]
              cases e : List.isEmpty _ with
              | false => rfl
              | true => exact (hem (List.isEmpty_iff.mp e)).elim
        · rw [decide_eq_false hl] at hff ⊢
          refine iteF (iteF (none_ ?_ H (Same.refl _)))
          rw [hff]
          rfl
      by_cases hc : B.counts = "first"
      · rw [decide_eq_true hc] at hff ⊢
        refine iteT ⟨_, rfl, A.jd i, CJ, dj, _, _, rfl, hj, TJ.cl, TJ.free, jf_free .., (S.jo i).free, rfl, ?_⟩
        cases hfr : (S.jo i).free with
        | true =>
          rw [hfr] at hff
          refine iteT ⟨_, rfl, y, CY, dx, _, _, rfl, h1, TY.cl, TY.owned, yf_owned .., _, rfl, A.jd i, CJ, dj, _, _, rfl, hj, TJ.cl, TJ.lower, jf_lower .., A.o, _, Sum.inl (S.jo i).lo, rfl, R.ho, rfl, some_in _ hlo, ?_⟩
          refine del _ hlo ?_ H (Same.refl _)
          rw [hg, hff]
          rfl
        | false =>
          rw [hfr] at hff
          have nl : ¬ B.counts = "last" := fun e => absurd (hc.symm.trans e) (by decide +kernel)
          refine iteF ⟨_, rfl, y, CY, dx, _, _, rfl, h1, TY.cl, TY.book, yf_book .., bk, db, fs, rfl, hb, bk, B, rfl, hB, rfl, _, rfl, ?_⟩
          rw [vstr, decide_eq_false nl]
          exact iteF (iteF (none_ hff H (Same.refl _)))
      · rw [decide_eq_false hc]
        exact iteF (iteF (last hc))
end
end K20W
end
/-! W10 -/
section
set_option Elab.async false
set_option linter.all false
set_option maxRecDepth 100000
set_option maxHeartbeats 4000000
/-! link. -/
namespace K20W
open PySem L2 K20
section
variable {CY CJ : Addr} {dn : Bool} {bk : Addr} {n : Nat} {H H' : Hp} {y : Addr} {A : Ad} {S : Vs} {D : Du} {τ : Addr → Int}
theorem YA.same (Y : YA CY CJ dn bk n H y A S D τ) (s : Same H H') : YA CY CJ dn bk n H' y A S D τ := by
  obtain ⟨⟨dx, h1⟩, R, b0⟩ := Y
  exact ⟨⟨dx, s _ _ h1⟩, R.same (JobAt.stays CJ dn) s, b0⟩
theorem YA.setb (Y : YA CY CJ dn bk n H y A S D τ) (bs : Int → Option Int) :
    YA CY CJ dn bk n (upd H A.b (.dK (dI (fun x => oV (bs x)) (rng S.m)))) y A { S with bs := bs } D τ ∧ Kp τ H (upd H A.b (.dK (dI (fun x => oV (bs x)) (rng S.m)))) := by
  obtain ⟨⟨dx, h1⟩, R, b0⟩ := Y
  have yo : y ≠ A.b := ne_of h1 R.hb (by intro z; cases z)
  exact ⟨⟨⟨dx, by rw [upd_ne yo]; exact h1⟩, R.bases (JobAt.stays CJ dn) (Ch.wr R.tb R.hb isT_dK) upd_same (R.live.wr _ _), b0⟩, (Kp.refl τ H).wr (by rw [R.tb]; decide) R.hb isT_dK⟩
theorem YA.sets (Y : YA CY CJ dn bk n H y A S D τ) (se : Int → Int) :
    YA CY CJ dn bk n (upd H A.s (.dK (dI (fun x => .int (se x)) (rng S.nw)))) y A { S with se := se } D τ ∧ Kp τ H (upd H A.s (.dK (dI (fun x => .int (se x)) (rng S.nw)))) := by
  obtain ⟨⟨dx, h1⟩, R, b0⟩ := Y
  have yo : y ≠ A.s := ne_of h1 R.hs (by intro z; cases z)
  exact ⟨⟨⟨dx, by rw [upd_ne yo]; exact h1⟩, R.seats (JobAt.stays CJ dn) (Ch.wr R.ts R.hs isT_dK) upd_same (R.live.wr _ _), b0⟩, (Kp.refl τ H).wr (by rw [R.ts]; decide) R.hs isT_dK⟩
theorem YA.setd (Y : YA CY CJ dn bk n H y A S D τ) (D' : Du) (dd : Int → Addr) (tu : ∀ x ∈ D'.dk, H (dd x) = some (.tup ((D'.du x).map V.int))) :
    YA CY CJ dn bk n (upd H A.d (.dK (dI (fun x => .ref (dd x)) D'.dk))) y { A with dd := dd } S D' τ ∧ Kp τ H (upd H A.d (.dK (dI (fun x => .ref (dd x)) D'.dk))) := by
  obtain ⟨⟨dx, h1⟩, R, b0⟩ := Y
  have yo : y ≠ A.d := ne_of h1 R.hd (by intro z; cases z)
  exact ⟨⟨⟨dx, by rw [upd_ne yo]; exact h1⟩, R.dues (JobAt.stays CJ dn) (Ch.wr R.td R.hd isT_dK) upd_same (fun x hx => by
    rw [upd_ne (ne_of (tu x hx) R.hd (by intro z; cases z))]
    exact tu x hx) (R.live.wr _ _), b0⟩, (Kp.refl τ H).wr (by rw [R.td]; decide) R.hd isT_dK⟩
/-- the due contents of k become those which stand at t -/
theorem YA.due1 (Y : YA CY CJ dn bk n H y A S D τ) {k : Int} {t : Addr} {l : List Int} (ht : H t = some (.tup (l.map V.int))) (hl : D.dk.length ≤ 1000) :
    ∃ dd H1, DPut H A.d (.int k) (.ref t) H1 ∧ YA CY CJ dn bk n H1 y { A with dd := dd } S (D.put k l) τ ∧ Kp τ H H1 := by
  have p := dI_set (k := k) Y.re.hd hl (.ref t)
  have e : fupd (fun x => V.ref (A.dd x)) k (.ref t) = fun x => .ref (fupd A.dd k t x) := (fupd_map V.ref A.dd k t).symm
  rw [e] at p
  obtain ⟨a, b⟩ := Y.setd (D.put k l) (fupd A.dd k t) fun x hx => by
    show H (fupd A.dd k t x) = some (.tup ((fupd D.du k l x).map V.int))
    by_cases q : x = k
    · subst q
      rw [fupd_same, fupd_same]
      exact ht
    · rw [fupd_ne q, fupd_ne q]
      refine Y.re.hdd x ?_
      have hx : x ∈ (if k ∈ D.dk then D.dk else D.dk ++ [k]) := hx
      by_cases z : k ∈ D.dk
      · rw [if_pos z] at hx
        exact hx
      · rw [if_neg z] at hx
        exact (List.mem_append.mp hx).resolve_right fun h => q (List.mem_singleton.mp h)
  exact ⟨_, _, p, a, b⟩
end
section
variable {P : Program} {w : World} {K : PySem.W.Frag} {mg : Str → Option Value} {base : Heap} {f CY CB CJ : Addr} {fd : FuncData}
def spLink (CY CB CJ : Addr) : Sp := fun vs H Q _ => ∃ (y bk : Addr) (dn : Bool) (n : Nat) (A : Ad) (S : Vs) (D : Du) (τ : Addr → Int) (B : BookR) (i : Int), vs = [.ref y, .ref (A.jd i)] ∧ YA CY CJ dn bk n H y A S D τ ∧ BookAt CB H bk B ∧ i ∈ S.jk ∧ Good (par B dn n) S D ∧ (S.jo i).half = false ∧
  ∀ dd H', YA CY CJ dn bk n H' y { A with dd := dd } (linkS (par B dn n) S (S.jo i)) (linkD (par B dn n) S D (S.jo i)) τ → Kp τ H H' → Q .non H'
theorem ok_link (Bt : Blt mg) (TB : BookC K CB) (TY : YardC K CY) (TJ : JobC K CJ) (GB : BookP P w K mg base CB) (m1 : Md P w K mg base CY "above" 1 ["self", "layer"] (spAbove CY)) (F : Fu K "link" "Yard.link" (s_yard 22) f fd) : FnOk P w K mg base CX0 3 f fd ["self", "held"] (spLink CY CB CJ) := by
  have sc : FnScope ["self", "held", "layer", "writer", "sitting"] ["self", "held"] (defScope (s_yard 22)) := ⟨rfl, rfl, rfl, by decide +kernel, rfl, by decide +kernel, by decide +kernel⟩
  obtain ⟨pu, gu, fu, Gu, Pu, bu⟩ := GB.moves
  obtain ⟨f4, d4, G4, M4, b4⟩ := m1
  refine F.ok sc (fun vs H Q E h => ?_) (fun cdv A outer s H vs Q E hr h => ?_)
  · obtain ⟨y, _, _, _, _, _, _, _, _, _, rfl, _⟩ := h
    rfl
  · obtain ⟨y, bk, dn, n, A, S, D, τ, B, i, rfl, Y, hB, hi, G, hh, q⟩ := h
    have hu := hu_of hr
    have hr1 : Room 1 _ := hr.mono (by decide)
    obtain ⟨⟨dx, h1⟩, R, b0⟩ := id Y
    obtain ⟨dj, ma, na, sv, hj, hma, hna, tma, tna, hsv⟩ := R.hjd i hi
    obtain ⟨db, fs, hb⟩ := hB.ins
    have BS := G.ba
    have JO := G.jb i hi
    have up0 := BS.oi _ JO.uo
    have lo0 := BS.oi _ JO.lo
    refine ⟨_, PSs.nox (pss_cons (ps_if (pt_cmpR op_eq (pe_fld (pv 1) rfl) pe_str (nomark _)) (pss_cons (ps_dput hu (pe_fld (pv 0) rfl) (pe_fld (pv 1) rfl) (pe_dget hu (pe_fld (pv 0) rfl) (pe_fld (pv 1) rfl) (fun _ _ => rfl)) rfl) (pss_one ps_retN)) pss_nil)
      (pss_cons (ps_for PassesOwn.never rfl (pi_list (pe_meth (pv 0) TY.cl M4 G4 hr1 b4 .nil pass0 (pa_cons (pe_fld (pv 1) rfl) pa_nil))) (pg_name (i := 2) sc.nd rfl (Or.inl rfl))
          (pss_one (ps_if (PW.pt (pw_or (pt_cmpR op_eq (pe_prop (pe_fld (pv 0) rfl) TB.cl Pu Gu hr bu .nil pass0 rfl) pe_str (nomark _)) (pw_or1 (pt_cmpR op_in_seq (pv 2) (pe_fld (pv 1) rfl) rfl)))) (pss_one (ps_dput hu (pe_fld (pv 0) rfl) (pv 2) (pe_fld (pv 1) rfl) rfl)) pss_nil)))
      (pss_cons (ps_lock (ps_setLc (i := 4) (own := [("writer", 3)]) (g := gName 3) (tt := tTest (tOp rEq (tDGet (tFld K (tVar 0) "y_seats") (tVar 3)) (tFld K (tVar 1) "upper"))) (te := tVar 3) (by rfl) sc.nd rfl rfl (sw_true rfl rfl rfl (by decide +kernel)) (pi_keys (pe_fld (pv 0) rfl)) (blkOk_by (own := [("writer", 3)]) (N := ["self", "held", "layer", "writer", "sitting"]) (sc := defScope (s_yard 22)) (by decide +kernel))
          (fun _ _ _ _ _ => pg_name (i := 3) sc.nd rfl (Or.inl rfl)) (fun _ _ _ _ _ => pts_one (pt_cmpR op_eq (pe_dget hu (pe_fld (pv 0) rfl) (pv 3) (fun _ _ => rfl)) (pe_fld (pv 1) rfl) (nomark _))) (fun _ _ _ _ _ => pv 3)))
      (pss_cons (ps_if (pt_cmpR op_eq (pe_callB call_len (by rfl) Bt.len PySem.boot_len (pa_cons (pv 4) pa_nil)) pe_int (nomark _)) (pss_cons (ps_dput hu (pe_fld (pv 0) rfl) (pe_fld (pv 1) rfl) (pe_dget hu (pe_fld (pv 0) rfl) (pe_fld (pv 1) rfl) (fun _ _ => rfl)) rfl) (pss_one ps_retN)) pss_nil)
      (pss_cons (ps_dput hu (pe_fld (pv 0) rfl) (pe_fld (pv 1) rfl) (pe_dget hu (pe_fld (pv 0) rfl) (pe_ix ix_list (pv 4) pe_int (fun _ _ => rfl)) (fun _ _ => rfl)) rfl)
      (pss_one (ps_for PassesOwn.never rfl (pi_list (pv 4)) (pg_name (i := 3) sc.nd rfl (Or.inl rfl)) (pss_one (ps_dput hu (pe_fld (pv 0) rfl) (pv 3) (pe_fld (pv 1) rfl) rfl))))))))), ?_⟩
    refine ⟨_, rfl, A.jd i, CJ, dj, _, _, rfl, hj, TJ.cl, TJ.kind, jf_kind .., rfl, _, rfl, ?_⟩
    rw [kind_up]
    cases hdn : dn with
    | false =>
      subst hdn
      have p := dI_setOld R.hb (mem_rng.mpr up0) (by rw [rng_length]; exact Nat.le_trans BS.m14 (by decide)) (oV (S.bs (S.jo i).lo))
      rw [← fupd_map oV] at p
      refine iteT ⟨_, rfl, y, CY, dx, _, _, rfl, h1, TY.cl, TY.bases, yf_bases .., _, rfl, A.jd i, CJ, dj, _, _, rfl, hj, TJ.cl, TJ.lower, jf_lower .., A.b, _, rfl, dI_get R.hb (mem_rng.mpr lo0), ?_⟩
      refine ⟨_, rfl, y, CY, dx, _, _, rfl, h1, TY.cl, TY.bases, yf_bases .., _, rfl, A.jd i, CJ, dj, _, _, rfl, hj, TJ.cl, TJ.upper, jf_upper .., _, _, rfl, p, ?_⟩
      obtain ⟨Y2, k2⟩ := Y.setb (fupd S.bs (S.jo i).up (S.bs (S.jo i).lo))
      exact q A.dd _ Y2 k2
    | true =>
      subst hdn
      refine iteF ⟨_, rfl, y, dx, _, rfl, h1, by kernel_rfl, _, rfl, A.jd i, CJ, dj, _, _, rfl, hj, TJ.cl, TJ.upper, jf_upper .., y, dx, bk, n, S.bg, A, (S.jo i).up, S, rfl, h1, R.hb, R.ho, tag_ne R.tb R.to (by decide), BS.oi, Nat.le_trans (ok_len BS) (by decide), fun p0 H1 hp s1 hl1 => ?_⟩
      refine ⟨p0, rfl, ⟨_, SqL.of hl1⟩, ?_⟩
      have t0 : τ p0 = 0 := not_tag R.live hp
      have Y1 := Y.same s1
      have ab : ∀ {z : Int}, z ∈ above S (S.jo i).up ↔ z ∈ S.ok ∧ S.bs z = some (S.jo i).up := fun {z} => by
        unfold above
        rw [List.mem_filter, decide_eq_true_iff]
      let mv : List Int → Int → Option Int := fun l z => if (decide (z ∈ l) && (decide (B.moves = "now") || decide (z ∈ (S.jo i).noted))) = true then some (S.jo i).lo else S.bs z
      refine for_it (walk_list (K := K) (a := p0) (xs := (above S (S.jo i).up).map V.int)) (fun k σ H' => (∃ a b c, σ = [some (.ref y), some (.ref (A.jd i)), a, b, c]) ∧ YA CY CJ true bk n H' y A { S with bs := mv ((above S (S.jo i).up).take k) } D τ ∧ Kp τ H1 H')
        ⟨⟨_, _, _, rfl⟩, ?_, Kp.refl _ _⟩ (fun k σ H' _ h => SqL.of (h.2.2 _ _ hl1 fun z => (z t0).elim)) ?_ ?_
      · have : mv ((above S (S.jo i).up).take 0) = S.bs := by
          funext z
          show (if (decide (z ∈ []) && _) = true then _ else _) = _
          simp
        rw [this]
        exact Y1
      · rintro k x σ H' H2 hk ⟨⟨a0, b1, c0, rfl⟩, Yk, kk⟩ ⟨rfl, hx⟩
        rw [List.getElem?_map] at hx
        obtain ⟨z, hz, rfl⟩ : ∃ z, (above S (S.jo i).up)[k]? = some z ∧ x = V.int z := by
          cases e : (above S (S.jo i).up)[k]? with
          | none => rw [e] at hx; cases hx
          | some z => rw [e] at hx; exact ⟨z, rfl, (Option.some.inj hx).symm⟩
        have hzm := ab.mp (List.mem_of_getElem? hz)
        have hz0 := BS.oi z hzm.1
        obtain ⟨⟨dx', e1⟩, R', b0'⟩ := id Yk
        obtain ⟨dj', ma', na', sv', hj', _, hna', _, _, _⟩ := R'.hjd i hi
        have kt : Kp τ H H2 := Kp.trans (Kp.of_same s1) (Gw.refl τ H) kk
        have hB' := hB.keep kt b0
        obtain ⟨db', fs', hb'⟩ := hB'.ins
        have tk : (above S (S.jo i).up).take (k + 1) = (above S (S.jo i).up).take k ++ [z] := by
          rw [List.take_add_one, hz]
          rfl
        have goput : (decide (B.moves = "now") || decide (z ∈ (S.jo i).noted)) = true → ∃ H3, DPut H2 A.b (.int z) (.int (S.jo i).lo) H3 ∧ YA CY CJ true bk n H3 y A { S with bs := mv ((above S (S.jo i).up).take (k + 1)) } D τ ∧ Kp τ H1 H3 := fun hc => by
          have p := dI_setOld R'.hb (mem_rng.mpr hz0) (by rw [rng_length]; exact Nat.le_trans BS.m14 (by decide)) (oV (some (S.jo i).lo))
          rw [← fupd_map oV] at p
          obtain ⟨Y3, k3⟩ := Yk.setb (fupd (mv ((above S (S.jo i).up).take k)) z (some (S.jo i).lo))
          refine ⟨_, p, ?_, Kp.trans kk (Gw.refl τ H1) k3⟩
          have e : fupd (mv ((above S (S.jo i).up).take k)) z (some (S.jo i).lo) = mv ((above S (S.jo i).up).take (k + 1)) := by
            funext u
            show _ = (if (decide (u ∈ (above S (S.jo i).up).take (k + 1)) && _) = true then _ else _)
            rw [tk]
            by_cases e : u = z
            · subst e
              rw [fupd_same, hc, if_pos]
              simp
            · rw [fupd_ne e]
              show (if (decide (u ∈ (above S (S.jo i).up).take k) && _) = true then _ else _) = _
              have : decide (u ∈ (above S (S.jo i).up).take k ++ [z]) = decide (u ∈ (above S (S.jo i).up).take k) := by
                rw [decide_eq_decide, List.mem_append, List.mem_singleton]
                exact ⟨fun h => h.resolve_right e, .inl⟩
              rw [this]
          rw [← e]
          exact Y3
        have goskip : (decide (B.moves = "now") || decide (z ∈ (S.jo i).noted)) = false → YA CY CJ true bk n H2 y A { S with bs := mv ((above S (S.jo i).up).take (k + 1)) } D τ := fun hc => by
          have e : mv ((above S (S.jo i).up).take k) = mv ((above S (S.jo i).up).take (k + 1)) := by
            funext u
            show (if (decide (u ∈ (above S (S.jo i).up).take k) && _) = true then _ else _) = (if (decide (u ∈ (above S (S.jo i).up).take (k + 1)) && _) = true then _ else _)
            rw [tk]
            by_cases e : u = z
            · subst e
              rw [hc, Bool.and_false, Bool.and_false]
            · have : decide (u ∈ (above S (S.jo i).up).take k ++ [z]) = decide (u ∈ (above S (S.jo i).up).take k) := by
                rw [decide_eq_decide, List.mem_append, List.mem_singleton]
                exact ⟨fun h => h.resolve_right e, .inl⟩
              rw [this]
          rw [← e]
          exact Yk
        refine ⟨_, rfl, y, CY, dx', _, _, rfl, e1, TY.cl, TY.book, yf_book .., bk, db', fs', rfl, hb', bk, B, rfl, hB', rfl, _, rfl, ?_⟩
        rw [vstr]
        by_cases e : B.moves = "now"
        · rw [decide_eq_true e] at goput ⊢
          obtain ⟨H3, p, Y3, k3⟩ := goput rfl
          refine iteT (iteT ⟨_, rfl, A.jd i, CJ, dj', _, _, rfl, hj', TJ.cl, TJ.lower, jf_lower .., _, rfl, y, CY, dx', _, _, rfl, e1, TY.cl, TY.bases, yf_bases .., _, rfl, _, _, rfl, p, ⟨_, _, _, rfl⟩, Y3, k3⟩)
        · rw [decide_eq_false e] at goput goskip ⊢
          refine iteF ⟨_, rfl, _, rfl, A.jd i, CJ, dj', _, _, rfl, hj', TJ.cl, TJ.noted, jf_noted .., na', _, rfl, .inl (SqL.of hna'), rfl, flat_ints (fun z => z) _, _, rfl, ?_⟩
          rw [inV_ints z (fun z => z)]
          have ea : ((S.jo i).noted.any fun k => decide (k = z)) = decide (z ∈ (S.jo i).noted) := by
            rw [Bool.eq_iff_iff, List.any_eq_true, decide_eq_true_iff]
            exact ⟨fun ⟨u, hu, e⟩ => of_decide_eq_true e ▸ hu, fun h => ⟨z, h, decide_eq_true rfl⟩⟩
          rw [ea]
          by_cases e2 : z ∈ (S.jo i).noted
          · rw [decide_eq_true e2] at goput ⊢
            obtain ⟨H3, p, Y3, k3⟩ := goput rfl
            refine iteT ⟨_, rfl, A.jd i, CJ, dj', _, _, rfl, hj', TJ.cl, TJ.lower, jf_lower .., _, rfl, y, CY, dx', _, _, rfl, e1, TY.cl, TY.bases, yf_bases .., _, rfl, _, _, rfl, p, ⟨_, _, _, rfl⟩, Y3, k3⟩
          · rw [decide_eq_false e2] at goskip ⊢
            exact iteF ⟨⟨_, _, _, rfl⟩, goskip rfl, kk⟩
      · rintro σ H2 ⟨⟨a0, b1, c0, rfl⟩, Y2, k2⟩
        rw [List.length_map, List.take_length] at Y2
        have hbs : mv (above S (S.jo i).up) = (linkS (par B true n) S (S.jo i)).bs := by
          funext u
          show (if (decide (u ∈ above S (S.jo i).up) && (decide (B.moves = "now") || decide (u ∈ (S.jo i).noted))) = true then some (S.jo i).lo else S.bs u) = if (decide (u ∈ S.ok) && (decide (S.bs u = some (S.jo i).up) && (decide (B.moves = "now") || decide (u ∈ (S.jo i).noted)))) = true then some (S.jo i).lo else S.bs u
          have : decide (u ∈ above S (S.jo i).up) = (decide (u ∈ S.ok) && decide (S.bs u = some (S.jo i).up)) := by
            rw [Bool.eq_iff_iff, Bool.and_eq_true, decide_eq_true_iff, decide_eq_true_iff, decide_eq_true_iff]
            exact ab
          rw [this, Bool.and_assoc]
        rw [hbs] at Y2
        obtain ⟨⟨dx2, e2⟩, R2, _⟩ := id Y2
        obtain ⟨dj2, ma2, na2, sv2, hj2, _, _, _, _, _⟩ := R2.hjd i hi
        have k20 : Kp τ H H2 := Kp.trans (Kp.of_same s1) (Gw.refl τ H) k2
        -- who sits on the upper one
        refine ⟨A.s, _, R2.hs, trivial, fun od => ?_⟩
        have ys : y ≠ A.s := tag_ne R.tp R.ts (by decide)
        have js : A.jd i ≠ A.s := fun e => by
          have := (R.tjd i hi).1
          rw [e, R.ts] at this
          have := (R.tjd i hi).2
          omega
        generalize hH3 : upd H2 A.s (.frz od (.dK (dI (fun x => .int (S.se x)) (rng S.nw)))) = H3
        have e0 : H3 A.s = some (.frz od (.dK (dI (fun x => .int (S.se x)) (rng S.nw)))) := by rw [← hH3, upd_same]
        have e1 : H3 y = some (.ins CY dx2 (yfs bk n A S.bg)) := by rw [← hH3, upd_ne ys]; exact e2
        have ej : H3 (A.jd i) = some (.ins CJ dj2 (jfs (kindS true) (S.jo i) ma2 na2 sv2)) := by rw [← hH3, upd_ne js]; exact hj2
        refine ⟨_, rfl, y, CY, dx2, _, _, rfl, e1, TY.cl, TY.seats, yf_seats .., A.s, od, rfl, .inl ⟨_, e0, fun D0 hD0 => ?_⟩⟩
        refine lc_pick (walk_keysA (kvs := dI (fun x => .int (S.se x)) (rng S.nw))) hD0 (fun v => match v with | .int k => decide (S.se k = (S.jo i).up) | _ => false) (fun v => v) ?_ (fun H s => s _ _ e0) (fun x H' hx s Q' hq => ?_) (fun x H' hx hp s Q' hq => ⟨_, rfl, hq _ (Same.refl _)⟩) fun H' s hD' => ?_
        · rw [dI_keysV, List.length_map, rng_length]
          exact Nat.le_trans BS.w14 (by decide)
        · rw [dI_keysV] at hx
          obtain ⟨k, hkk, rfl⟩ := List.mem_map.mp hx
          refine ⟨_, rfl, y, CY, dx2, _, _, rfl, s _ _ e1, TY.cl, TY.seats, yf_seats .., _, rfl, A.s, _, rfl, dI_getF (s _ _ e0) hkk, _, rfl, A.jd i, CJ, dj2, _, _, rfl, s _ _ ej, TJ.cl, TJ.upper, jf_upper .., rfl, _, rfl, ?_⟩
          have : decide (V.int (S.se k) = V.int (S.jo i).up) = decide (S.se k = (S.jo i).up) := by
            rw [decide_eq_decide]
            exact ⟨V.int.inj, fun e => by rw [e]⟩
          rw [this]
          exact hq _ (Same.refl _)
        · have nD : D0 ≠ A.s := fun e => by subst e; rw [e0] at hD0; cases hD0
          have hD2 : H2 D0 = none := by rw [← hH3, upd_ne nD] at hD0; exact hD0
          have s4 : Same H2 (upd H' A.s (.dK (dI (fun x => .int (S.se x)) (rng S.nw)))) := by
            rw [← hH3] at s
            exact Same.unlock R2.hs s
          refine ⟨s _ _ e0, ?_⟩
          have hl4 : (upd H' A.s (.dK (dI (fun x => .int (S.se x)) (rng S.nw)))) D0 = some (.lst ((sitting S (S.jo i).up).map V.int)) := by
            rw [upd_ne nD, hD', dI_keysV]
            unfold sitting
            rw [filt_int (p' := fun k => decide (S.se k = (S.jo i).up)) fun k hk => rfl]
          generalize hH4 : upd H' A.s (.dK (dI (fun x => .int (S.se x)) (rng S.nw))) = H4 at s4 hl4 ⊢
          have Y4 := Y2.same s4
          have k4 : Kp τ H H4 := Kp.trans k20 (Gw.refl τ H) (Kp.of_same s4)
          obtain ⟨⟨dx4, f4⟩, R4, _⟩ := id Y4
          obtain ⟨dj4, ma4, na4, sv4, hj4, _, _, _, _, _⟩ := R4.hjd i hi
          have ld : D.dk.length ≤ 1000 := Nat.le_trans (nodup_le G.dn G.dr) (Nat.le_trans BS.m14 (by decide))
          refine ⟨_, rfl, _, _, rfl, .inl ⟨_, SqL.of hl4, rfl⟩, rfl, _, rfl, ?_⟩
          rw [List.length_map]
          have hse : ∀ u, u ∈ sitting S (S.jo i).up ↔ u ∈ rng S.nw ∧ S.se u = (S.jo i).up := fun u => by
            unfold sitting
            rw [List.mem_filter, decide_eq_true_iff]
          cases hsit : sitting S (S.jo i).up with
          | nil =>
            have nos : ∀ w : Int, 0 ≤ w → w < S.nw → S.se w ≠ (S.jo i).up := fun w h0 h1 e => by
              have := (hse w).mpr ⟨mem_rng.mpr ⟨h0, h1⟩, e⟩
              rw [hsit] at this
              cases this
            have hup := JO.du rfl hh nos
            obtain ⟨dd, H5, p5, Y5, k5⟩ := Y4.due1 (k := (S.jo i).lo) (R4.hdd _ hup) ld
            refine iteT ⟨_, rfl, y, CY, dx4, _, _, rfl, f4, TY.cl, TY.dues, yf_dues .., _, rfl, A.jd i, CJ, dj4, _, _, rfl, hj4, TJ.cl, TJ.upper, jf_upper .., A.d, _, rfl, dI_get R4.hd hup, ?_⟩
            refine ⟨_, rfl, y, CY, dx4, _, _, rfl, f4, TY.cl, TY.dues, yf_dues .., _, rfl, A.jd i, CJ, dj4, _, _, rfl, hj4, TJ.cl, TJ.lower, jf_lower .., _, _, rfl, p5, ?_⟩
            refine q dd H5 ?_ (Kp.trans k4 (Gw.refl τ H) k5)
            obtain ⟨Y6, _⟩ := Y5.sets (linkS (par B true n) S (S.jo i)).se
            have es : dI (fun x => V.int ((linkS (par B true n) S (S.jo i)).se x)) (rng S.nw) = dI (fun x => V.int (S.se x)) (rng S.nw) := dI_congr fun k hk => by
              have h2 := mem_rng.mp hk
              show V.int (if S.se k = (S.jo i).up then (S.jo i).lo else S.se k) = _
              rw [if_neg (nos k h2.1 h2.2)]
            rw [es, upd_id Y5.re.hs] at Y6
            have eD : linkD (par B true n) S D (S.jo i) = D.put (S.jo i).lo (D.du (S.jo i).up) := by
              show (match sitting S (S.jo i).up with | [] => D.put (S.jo i).lo (D.du (S.jo i).up) | w :: _ => D.put (S.jo i).up (S.co w)) = _
              rw [hsit]
            rw [eD]
            exact Y6
          | cons w0 ws =>
            have hw0 : w0 ∈ rng S.nw := ((hse w0).mp (by rw [hsit]; exact List.mem_cons_self)).1
            obtain ⟨dd, H5, p5, Y5, k5⟩ := Y4.due1 (k := (S.jo i).up) (R4.hcd _ hw0) ld
            refine iteF ⟨_, rfl, y, CY, dx4, _, _, rfl, f4, TY.cl, TY.contents, yf_contents .., _, rfl, D0, _, _, V.int w0, rfl, rfl, SqL.of hl4, atI_nat (j := 0) (by rw [hsit]; rfl), A.c, _, rfl, dI_get R4.hc hw0, ?_⟩
            refine ⟨_, rfl, y, CY, dx4, _, _, rfl, f4, TY.cl, TY.dues, yf_dues .., _, rfl, A.jd i, CJ, dj4, _, _, rfl, hj4, TJ.cl, TJ.upper, jf_upper .., _, _, rfl, p5, ?_⟩
            have eD : linkD (par B true n) S D (S.jo i) = D.put (S.jo i).up (S.co w0) := by
              show (match sitting S (S.jo i).up with | [] => D.put (S.jo i).lo (D.du (S.jo i).up) | w :: _ => D.put (S.jo i).up (S.co w)) = _
              rw [hsit]
            have tD : τ D0 = 0 := not_tag R2.live hD2
            have hl5 : H5 D0 = some (.lst ((sitting S (S.jo i).up).map V.int)) := k5 _ _ hl4 fun z => (z tD).elim
            refine ⟨_, rfl, D0, rfl, ⟨_, SqL.of hl5⟩, ?_⟩
            let sv (l : List Int) : Int → Int := fun u => if u ∈ l then (S.jo i).lo else S.se u
            refine for_it (walk_list (K := K) (a := D0) (xs := (sitting S (S.jo i).up).map V.int)) (fun k σ H' => (∃ a b c, σ = [some (.ref y), some (.ref (A.jd i)), a, b, c]) ∧ YA CY CJ true bk n H' y { A with dd := dd } { S with bs := (linkS (par B true n) S (S.jo i)).bs, se := sv ((sitting S (S.jo i).up).take k) } (D.put (S.jo i).up (S.co w0)) τ ∧ Kp τ H5 H')
              ⟨⟨_, _, _, rfl⟩, ?_, Kp.refl _ _⟩ (fun k σ H' _ h => SqL.of (h.2.2 _ _ hl5 fun z => (z tD).elim)) ?_ ?_
            · have : sv ((sitting S (S.jo i).up).take 0) = S.se := by
                funext z
                show (if z ∈ [] then _ else _) = _
                simp
              rw [this]
              exact Y5
            · rintro k x σ H' H6 hk ⟨⟨a0, b1, c0, rfl⟩, Yk, kk⟩ ⟨rfl, hx⟩
              rw [List.getElem?_map] at hx
              obtain ⟨z, hz, rfl⟩ : ∃ z, (sitting S (S.jo i).up)[k]? = some z ∧ x = V.int z := by
                cases e : (sitting S (S.jo i).up)[k]? with
                | none => rw [e] at hx; cases hx
                | some z => rw [e] at hx; exact ⟨z, rfl, (Option.some.inj hx).symm⟩
              have hzm := (hse z).mp (List.mem_of_getElem? hz)
              obtain ⟨⟨dx', g1⟩, R', b0'⟩ := id Yk
              obtain ⟨dj', ma', na', sv', hj', _, hna', _, _, _⟩ := R'.hjd i hi
              have tk : (sitting S (S.jo i).up).take (k + 1) = (sitting S (S.jo i).up).take k ++ [z] := by
                rw [List.take_add_one, hz]
                rfl
              have p := dI_setOld R'.hs hzm.1 (by rw [rng_length]; exact Nat.le_trans BS.w14 (by decide)) (.int (S.jo i).lo)
              rw [← fupd_map V.int] at p
              obtain ⟨Y7, k7⟩ := Yk.sets (fupd (sv ((sitting S (S.jo i).up).take k)) z (S.jo i).lo)
              refine ⟨_, rfl, A.jd i, CJ, dj', _, _, rfl, hj', TJ.cl, TJ.lower, jf_lower .., _, rfl, y, CY, dx', _, _, rfl, g1, TY.cl, TY.seats, yf_seats .., _, rfl, _, _, rfl, p, ⟨_, _, _, rfl⟩, ?_, Kp.trans kk (Gw.refl τ H5) k7⟩
              have e : fupd (sv ((sitting S (S.jo i).up).take k)) z (S.jo i).lo = sv ((sitting S (S.jo i).up).take (k + 1)) := by
                funext u
                show _ = (if u ∈ (sitting S (S.jo i).up).take (k + 1) then _ else _)
                rw [tk]
                by_cases e : u = z
                · subst e
                  rw [fupd_same, if_pos (by simp)]
                · rw [fupd_ne e]
                  show (if u ∈ (sitting S (S.jo i).up).take k then _ else _) = _
                  by_cases m : u ∈ (sitting S (S.jo i).up).take k
                  · rw [if_pos m, if_pos (List.mem_append_left _ m)]
                  · rw [if_neg m, if_neg (by simp [m, e])]
              rw [← e]
              exact Y7
            · rintro σ H6 ⟨⟨a0, b1, c0, rfl⟩, Y6, k6⟩
              rw [List.length_map, List.take_length] at Y6
              refine q dd H6 ?_ (Kp.trans (Kp.trans k4 (Gw.refl τ H) k5) (Gw.refl τ H) k6)
              obtain ⟨Y8, _⟩ := Y6.sets (linkS (par B true n) S (S.jo i)).se
              have es : dI (fun x => V.int ((linkS (par B true n) S (S.jo i)).se x)) (rng S.nw) = dI (fun x => V.int (sv (sitting S (S.jo i).up) x)) (rng S.nw) := dI_congr fun k hk => by
                show V.int (if S.se k = (S.jo i).up then (S.jo i).lo else S.se k) = V.int (if k ∈ sitting S (S.jo i).up then (S.jo i).lo else S.se k)
                by_cases e : S.se k = (S.jo i).up
                · rw [if_pos e, if_pos ((hse k).mpr ⟨hk, e⟩)]
                · rw [if_neg e, if_neg fun h => e ((hse k).mp h).2]
              rw [es, upd_id Y6.re.hs] at Y8
              rw [eD]
              exact Y8
end
end K20W
end
/-! W11 -/
section
set_option Elab.async false
set_option linter.all false
set_option maxRecDepth 100000
set_option maxHeartbeats 4000000
/-! step. -/
namespace K20W
open PySem L2 K20
section
variable {J : JP} {H H' : Hp} {A : Ad} {S : Vs} {D : Du} {τ : Addr → Int} {p : Addr}
/-- a job copies: its own object, its two layers -/
theorem Rep.copyd (hJ : Stays J) (R : Rep J H A S D τ p) {i : Int} (hi : i ∈ S.jk) {u l : Int} (uo : u ∈ S.ok) (lo : l ∈ S.ok) {U L : Row} {x : Jb} (ne : u ≠ l) (nt : ∀ o, H (A.jd i) = some o → ¬ isT o)
    (keep : ∀ b o, H b = some o → b ≠ A.jd i → b ≠ A.od u → b ≠ A.od l → H' b = some o) (new : J H' τ (A.jd i) x) (ln : H' (A.jd i) ≠ none) (hu : H' (A.od u) = some (.dK (rowV U))) (hl : H' (A.od l) = some (.dK (rowV L))) :
    Rep J H' A { S with ow := two S.ow u l U L, jo := fupd S.jo i x } D τ p ∧ Kp τ H H' := by
  have t1 := R.tjd i hi
  have t2 := R.tod u uo
  have t3 := R.tod l lo
  have off : ∀ {a : Addr} {o : HO} {t : Int}, H a = some o → τ a = t → t ≠ 11 + 2 * i → t ≠ 10 + 2 * u → t ≠ 10 + 2 * l → H' a = some o := fun {a o t} h e n1 n2 n3 =>
    keep a o h (fun z => n1 (by rw [← e, z, t1.1])) (fun z => n2 (by rw [← e, z, t2.1])) fun z => n3 (by rw [← e, z, t3.1])
  have tup : ∀ {a : Addr} {o : HO}, H a = some o → isT o → H' a = some o := fun {a o} h ho => keep a o h (fun z => nt o (z ▸ h) ho)
    (fun z => by rw [z, R.hod u uo] at h; cases h; exact isT_dK ho) fun z => by rw [z, R.hod l lo] at h; cases h; exact isT_dK ho
  refine ⟨⟨off R.hb R.tb (by omega) (by omega) (by omega), off R.ho R.to (by omega) (by omega) (by omega), off R.hd R.td (by omega) (by omega) (by omega), off R.hs R.ts (by omega) (by omega) (by omega), off R.hc R.tc (by omega) (by omega) (by omega), off R.hj R.tj (by omega) (by omega) (by omega),
    fun y hy => ?_, fun y hy => tup (R.hdd y hy) (isT_tup _), fun y hy => tup (R.hcd y hy) (isT_tup _), fun j hj => ?_, R.tp, R.tb, R.to, R.td, R.ts, R.tc, R.tj, R.tod, R.tjd, fun a ha => ?_⟩, fun a o h ht => ?_⟩
  · show H' (A.od y) = some (.dK (rowV (two S.ow u l U L y)))
    unfold two
    by_cases e : y = u
    · subst e
      rw [if_pos rfl]
      exact hu
    · rw [if_neg e]
      by_cases e2 : y = l
      · subst e2
        rw [if_pos rfl]
        exact hl
      · rw [if_neg e2]
        have := R.tod y hy
        exact off (R.hod y hy) this.1 (by omega) (by omega) (by omega)
  · show J H' τ (A.jd j) (fupd S.jo i x j)
    by_cases e : j = i
    · subst e
      rw [fupd_same]
      exact new
    · rw [fupd_ne e]
      have t4 := R.tjd j hj
      refine hJ H H' τ τ _ _ (R.hjd j hj) (fun b o hb h => ?_) fun _ _ h => h
      rcases h with h | h | h
      · subst h
        exact off hb t4.1 (by omega) (by omega) (by omega)
      · exact off hb h (by omega) (by omega) (by omega)
      · exact tup hb h
  · by_cases e1 : a = A.jd i
    · rw [e1]
      exact ln
    · by_cases e2 : a = A.od u
      · rw [e2, hu]
        exact fun z => nomatch z
      · by_cases e3 : a = A.od l
        · rw [e3, hl]
          exact fun z => nomatch z
        · cases e : H a with
          | none => exact (R.live a ha e).elim
          | some o =>
            rw [keep a o e e1 e2 e3]
            exact fun z => nomatch z
  · refine keep a o h (fun z => ?_) (fun z => ?_) fun z => ?_
    · exact nt o (z ▸ h) (ht (by rw [z, t1.1]; omega))
    · subst z
      rw [R.hod u uo] at h
      cases h
      exact isT_dK (ht (by rw [t2.1]; omega))
    · subst z
      rw [R.hod l lo] at h
      cases h
      exact isT_dK (ht (by rw [t3.1]; omega))
/-- something of no account changes -/
theorem Rep.other (hJ : Stays J) (R : Rep J H A S D τ p) {t : Int} (c : Ch τ t H H') (h9 : t < 2 ∨ 8 < t) (ho : ∀ x ∈ S.ok, t ≠ 10 + 2 * x) (hj : ∀ i ∈ S.jk, t ≠ 11 + 2 * i) (l : Live τ H') : Rep J H' A S D τ p := by
  have js := R.jobs_stay hJ c (by omega) hj
  exact ⟨c _ _ R.hb fun z => absurd (z.symm.trans R.tb) (by omega), c _ _ R.ho fun z => absurd (z.symm.trans R.to) (by omega), c _ _ R.hd fun z => absurd (z.symm.trans R.td) (by omega), c _ _ R.hs fun z => absurd (z.symm.trans R.ts) (by omega), c _ _ R.hc fun z => absurd (z.symm.trans R.tc) (by omega), c _ _ R.hj fun z => absurd (z.symm.trans R.tj) (by omega),
    fun x hx => c _ _ (R.hod x hx) fun z => (ho x hx (z.symm.trans (R.tod x hx).1)).elim, fun x hx => c _ _ (R.hdd x hx) fun _ => isT_tup _, fun x hx => c _ _ (R.hcd x hx) fun _ => isT_tup _, js,
    R.tp, R.tb, R.to, R.td, R.ts, R.tc, R.tj, R.tod, R.tjd, l⟩
end
section
variable {CY CJ : Addr} {dn : Bool} {bk : Addr} {n : Nat} {H H' : Hp} {y : Addr} {A : Ad} {S : Vs} {D : Du} {τ : Addr → Int}
/-- a job's object is written -/
theorem YA.setj (Y : YA CY CJ dn bk n H y A S D τ) {i : Int} (hi : i ∈ S.jk) {dj : Addr} {x x0 : Jb} {ma na : Addr} {sv sv0 : V} {k0 : Str} (hj : H (A.jd i) = some (.ins CJ dj (jfs k0 x0 ma na sv0))) (hm : H ma = some (.lst [])) (hn : H na = some (.lst (x.noted.map V.int))) (tm : τ ma = 8) (tn : τ na = 8) (hv : SeenV H sv x.seen) :
    YA CY CJ dn bk n (upd H (A.jd i) (.ins CJ dj (jfs (kindS dn) x ma na sv))) y A { S with jo := fupd S.jo i x } D τ ∧ Kp τ H (upd H (A.jd i) (.ins CJ dj (jfs (kindS dn) x ma na sv))) := by
  obtain ⟨⟨dx, h1⟩, R, b0⟩ := Y
  have tj := R.tjd i hi
  have ny : y ≠ A.jd i := tag_ne R.tp tj.1 (by omega)
  have nm : ma ≠ A.jd i := ne_of hm hj (by intro z; cases z)
  have nn : na ≠ A.jd i := ne_of hn hj (by intro z; cases z)
  refine ⟨⟨⟨dx, by rw [upd_ne ny]; exact h1⟩, R.job (JobAt.stays CJ dn) hi (Ch.wr tj.1 hj isT_ins) ⟨dj, ma, na, sv, upd_same, by rw [upd_ne nm]; exact hm, by rw [upd_ne nn]; exact hn, tm, tn, hv.stay fun t xs z => by rw [upd_ne (ne_of z hj (by intro z; cases z))]; exact z⟩ (R.live.wr _ _), b0⟩, (Kp.refl τ H).wr (by rw [tj.1]; omega) hj isT_ins⟩
/-- a job ends -/
theorem YA.endj (Y : YA CY CJ dn bk n H y A S D τ) (i : Int) :
    YA CY CJ dn bk n (upd H A.j (.dK (dropK (dI (fun x => .ref (A.jd x)) S.jk) (Sum.inl i)))) y A (dropJ S i) D τ ∧ Kp τ H (upd H A.j (.dK (dropK (dI (fun x => .ref (A.jd x)) S.jk) (Sum.inl i)))) := by
  obtain ⟨⟨dx, h1⟩, R, b0⟩ := Y
  rw [dI_drop]
  have yo : y ≠ A.j := ne_of h1 R.hj (by intro z; cases z)
  exact ⟨⟨⟨dx, by rw [upd_ne yo]; exact h1⟩, R.ends (JobAt.stays CJ dn) (Ch.wr R.tj R.hj isT_dK) (fun x hx => (List.mem_filter.mp hx).1) upd_same (R.live.wr _ _), b0⟩, (Kp.refl τ H).wr (by rw [R.tj]; decide) R.hj isT_dK⟩
/-- a job that has ended is written -/
theorem YA.deadj (Y : YA CY CJ dn bk n H y A S D τ) {i : Int} {a : Addr} (hi : i ∉ S.jk) (i0 : 0 ≤ i) (ta : τ a = 11 + 2 * i) {u o : HO} (hu : H a = some u) (nt : ¬ isT u) : YA CY CJ dn bk n (upd H a o) y A S D τ ∧ Kp τ H (upd H a o) := by
  obtain ⟨⟨dx, h1⟩, R, b0⟩ := Y
  have ny : y ≠ a := tag_ne R.tp ta (by omega)
  have hj : ∀ j ∈ S.jk, 11 + 2 * i ≠ 11 + 2 * j := fun j hj e => hi ((show j = i by omega) ▸ hj)
  exact ⟨⟨⟨dx, by rw [upd_ne ny]; exact h1⟩, R.other (JobAt.stays CJ dn) (Ch.wr ta hu nt) (by omega) (fun x hx => by omega) hj (R.live.wr _ _), b0⟩, (Kp.refl τ H).wr (by rw [ta]; omega) hu nt⟩
end
section
variable {P : Program} {w : World} {K : PySem.W.Frag} {mg : Str → Option Value} {base : Heap} {f CY CB CJ : Addr} {fd : FuncData}
/-- a step of job i -/
def spStep (CY CB CJ : Addr) : Sp := fun vs H Q _ => ∃ (y bk : Addr) (dn : Bool) (n : Nat) (A : Ad) (S : Vs) (D : Du) (τ : Addr → Int) (B : BookR) (i : Int), vs = [.ref y, .int i] ∧ YA CY CJ dn bk n H y A S D τ ∧ BookAt CB H bk B ∧ (B.finish = "one" ∨ B.finish = "link") ∧ i ∈ S.jk ∧ Good (par B dn n) S D ∧ n ≤ 40 ∧
  ∀ dd H', YA CY CJ dn bk n H' y { A with dd := dd } (stepS (par B dn n) S i) (stepD (par B dn n) S D i) τ → Kp τ H H' → Q (.str (wordS (wordOf (par B dn n) (S.jo i)))) H'
theorem row_len {n : Nat} {l : Row} (h : RowOk n l) : l.length ≤ n := by
  have := nodup_le h.nd fun x hx => by
    obtain ⟨p, hp, rfl⟩ := List.mem_map.mp hx
    exact h.ks p hp
  rw [List.length_map] at this
  exact this
theorem ok_step (TB : BookC K CB) (TY : YardC K CY) (TJ : JobC K CJ) (g1 : Gd P w K mg base "is_number" 1 ["thing"] spNum) (g2 : Gd P w K mg base "copy_on" 4 ["job", "book", "owned", "cell"] (spCopyOn CB CJ))
    (m1 : Md P w K mg base CJ "next_cell" 1 ["self", "many"] (spNext CJ)) (m2 : Md P w K mg base CY "finish_word" 3 ["self", "held"] (spFinish CY CB CJ)) (m3 : Md P w K mg base CY "link" 3 ["self", "held"] (spLink CY CB CJ)) (m4 : Md P w K mg base CY "cut" 3 ["self", "held"] (spCut CY CB CJ))
    (F : Fu K "step" "Yard.step" (s_yard 20) f fd) : FnOk P w K mg base CX0 5 f fd ["self", "job"] (spStep CY CB CJ) := by
  have sc : FnScope ["self", "job", "held", "cell", "word"] ["self", "job"] (defScope (s_yard 20)) := ⟨rfl, rfl, rfl, by decide +kernel, rfl, by decide +kernel, by decide +kernel⟩
  obtain ⟨f1, d1, G1, e1, k1, b1⟩ := g1
  obtain ⟨f2, d2, G2, e2, k2, b2⟩ := g2
  obtain ⟨f3, d3, G3, M3, b3⟩ := m1
  obtain ⟨f4, d4, G4, M4, b4⟩ := m2
  obtain ⟨f5, d5, G5, M5, b5⟩ := m3
  obtain ⟨f6, d6, G6, M6, b6⟩ := m4
  refine F.ok sc (fun vs H Q E h => ?_) (fun cdv A outer s H vs Q E hr h => ?_)
  · obtain ⟨y, _, _, _, _, _, _, _, _, _, rfl, _⟩ := h
    rfl
  · obtain ⟨y, bk, dn, n, A, S, D, τ, B, i, rfl, Y, hB, hf, hi, G, hn, q⟩ := h
    have hu := hu_of hr
    have hr1 : Room 1 _ := hr.mono (by decide)
    have hr3 : Room 3 _ := hr.mono (by decide)
    obtain ⟨⟨dx, h1⟩, R, b0⟩ := id Y
    obtain ⟨dj, ma, na, sv, hj, hma, hna, tma, tna, hsv⟩ := R.hjd i hi
    have BS : Base n S := G.ba
    have JO := G.jb i hi
    have nocell : ∀ (x : Jb) (sv : V) (ma na : Addr), (jfs (kindS dn) x ma na sv).lookup ("next_cell" : Str) = none := fun x sv ma na => by kernel_rfl
    refine ⟨_, pss_cons (ps_if (PW.pt (pw_or (pt_not (pt_val (pe_call G1 hr1 rfl e1 k1 b1 .nil pass0 (pa_cons (pv 1) pa_nil)))) (pw_or1 (pt_cmp (pc_dnotin hu (pv 1) (pe_fld (pv 0) rfl)))))) (pss_one ps_never) pss_nil)
      (pss_cons (ps_set (i := 2) sc.nd rfl (.inl rfl) (pe_dget hu (pe_fld (pv 0) rfl) (pv 1) (fun _ _ => rfl)))
      (pss_cons (ps_if (PW.pt (pw_and (pt_not (pt_val (pe_fld (pv 2) rfl))) (pw_and1 (PW.pt (pw_or (pt_cmp (pc_dnotin hu (pe_fld (pv 2) rfl) (pe_fld (pv 0) rfl))) (pw_or1 (pt_cmp (pc_dnotin hu (pe_fld (pv 2) rfl) (pe_fld (pv 0) rfl))))))))) (pss_cons ps_never (pss_one ps_never)) pss_nil)
      (pss_cons (ps_set (i := 3) sc.nd rfl (.inl rfl) (pe_meth (pv 2) TJ.cl M3 G3 hr1 b3 .nil pass0 (pa_cons (pe_fld (pv 0) rfl) pa_nil)))
      (pss_cons (ps_if (PW.pt (pw_or (pt_cmp (pc_notN (pe_fld (pv 2) rfl))) (pw_or1 (pt_cmp (pc_notN (pv 3)))))) (pss_one (ps_ret (pe_call G2 hr rfl e2 k2 b2 .nil pass0 (pa_cons (pv 2) (pa_cons (pe_fld (pv 0) rfl) (pa_cons (pe_fld (pv 0) rfl) (pa_cons (pv 3) pa_nil))))))) pss_nil)
      (pss_cons (ps_set (i := 4) sc.nd rfl (.inl rfl) (pe_meth (pv 0) TY.cl M4 G4 hr3 b4 .nil pass0 (pa_cons (pv 2) pa_nil)))
      (pss_cons (ps_if (pt_cmpR op_ne (pv 4) pe_str (nomark _)) (pss_one (ps_expr (pe_meth (pv 0) TY.cl M5 G5 hr3 b5 .nil pass0 (pa_cons (pv 2) pa_nil)))) pss_nil)
      (pss_cons (ps_if (pt_cmpR op_ne (pv 4) pe_str (nomark _)) (pss_one (ps_expr (pe_meth (pv 0) TY.cl M6 G6 hr3 b6 .nil pass0 (pa_cons (pv 2) pa_nil)))) pss_nil)
      (pss_cons (ps_if (PW.pt (pw_or (pt_val (pe_fld (pv 2) rfl)) (pw_or1 (pt_cmpR op_eq (pv 4) pe_str (nomark _))))) (pss_one (ps_ddel (pe_fld (pv 0) rfl) (pv 1))) pss_nil)
      (pss_cons (ps_fld (pv 2) pe_bl rfl) (pss_one (ps_ret (pv 4)))))))))))), ?_⟩
    refine ⟨_, rfl, i, rfl, true, rfl, iteF ⟨_, rfl, _, rfl, y, CY, dx, _, _, rfl, h1, TY.cl, TY.jobs, yf_jobs .., A.j, _, rfl, dI_get R.hj hi, _, rfl, iteF ?_⟩⟩
    refine ⟨_, rfl, y, CY, dx, _, _, rfl, h1, TY.cl, TY.jobs, yf_jobs .., _, rfl, A.j, _, rfl, dI_get R.hj hi, ?_⟩
    refine ⟨_, rfl, A.jd i, CJ, dj, _, _, rfl, hj, TJ.cl, TJ.half, jf_half .., (S.jo i).half, rfl, ?_⟩
    have U0 : DGet H A.o (.int (S.jo i).up) (some (.ref (A.od (S.jo i).up))) := dI_get R.ho JO.uo
    have L0 : DGet H A.o (.int (S.jo i).lo) (some (.ref (A.od (S.jo i).lo))) := dI_get R.ho JO.lo
    have tji := R.tjd i hi
    have tou := R.tod _ JO.uo
    have tol := R.tod _ JO.lo
    have ne := JO.ne
    -- a copy
    have cpy : (S.jo i).pl < n → ∀ (H1 H' : Hp) (sv' : V), Same H H1 → SeenV H' sv' (copiedJ (par B dn n) (S.jo i) (S.ow (S.jo i).up) (S.ow (S.jo i).lo)).seen → H' (A.jd i) = some (.ins CJ dj (jfs (kindS dn) (copiedJ (par B dn n) (S.jo i) (S.ow (S.jo i).up) (S.ow (S.jo i).lo)) ma na sv')) →
        H' (A.od (S.jo i).up) = some (.dK (rowV (copiedU (par B dn n) (S.jo i) (S.ow (S.jo i).up) (S.ow (S.jo i).lo)))) → H' (A.od (S.jo i).lo) = some (.dK (rowV (copiedL (par B dn n) (S.jo i) (S.ow (S.jo i).up) (S.ow (S.jo i).lo)))) →
        (∀ b o, H1 b = some o → b ≠ A.jd i → b ≠ A.od (S.jo i).up → b ≠ A.od (S.jo i).lo → H' b = some o) → Q (.str (wordS (wordOf (par B dn n) (S.jo i)))) H' := fun hpl H1 H' sv' s1 c1 c2 c3 c4 c5 => by
      have mt : ∀ {a : Addr}, τ a = 8 → a ≠ A.jd i ∧ a ≠ A.od (S.jo i).up ∧ a ≠ A.od (S.jo i).lo := fun {a} h => ⟨tag_ne h tji.1 (by omega), tag_ne h tou.1 (by omega), tag_ne h tol.1 (by omega)⟩
      obtain ⟨R', k'⟩ := R.copyd (H' := H') (JobAt.stays CJ dn) hi JO.uo JO.lo ne (fun o e z => by rw [hj] at e; cases e; exact isT_ins z) (fun b o hb => c5 b o (s1 _ _ hb))
        ⟨dj, ma, na, sv', c2, c5 _ _ (s1 _ _ hma) (mt tma).1 (mt tma).2.1 (mt tma).2.2, by
          have e : (copiedJ (par B dn n) (S.jo i) (S.ow (S.jo i).up) (S.ow (S.jo i).lo)).noted = (S.jo i).noted := by
            unfold copiedJ
            cases (S.jo i).seen with
            | some p => rfl
            | none => by_cases e : (par B dn n).one = true <;> simp [e]
          rw [e]
          exact c5 _ _ (s1 _ _ hna) (mt tna).1 (mt tna).2.1 (mt tna).2.2, tma, tna, c1⟩ (some_ne c2) c3 c4
      have ny : y ≠ A.jd i ∧ y ≠ A.od (S.jo i).up ∧ y ≠ A.od (S.jo i).lo := ⟨tag_ne R.tp tji.1 (by omega), tag_ne R.tp tou.1 (by omega), tag_ne R.tp tol.1 (by omega)⟩
      have ec : copies (par B dn n) (S.jo i) = true := by
        unfold copies
        rw [show decide ((S.jo i).pl < (par B dn n).n) = true from decide_eq_true hpl, Bool.or_true]
      have eS : stepS (par B dn n) S i = copyS (par B dn n) S i := if_pos ec
      have eD : stepD (par B dn n) S D i = D := if_pos ec
      have := q A.dd H'
      rw [eS, eD] at this
      exact this ⟨⟨dx, c5 _ _ (s1 _ _ h1) ny.1 ny.2.1 ny.2.2⟩, R', b0⟩ k'
    -- the end of a job
    have ended : ∀ (dd : Int → Addr) (S3 : Vs) (D3 : Du) (H3 : Hp), YA CY CJ dn bk n H3 y { A with dd := dd } S3 D3 τ → S3.jk = S.jk → S3.jo = S.jo → S3.bg = S.bg → ∃ dx3 dj3 ma3 na3 sv3, H3 y = some (.ins CY dx3 (yfs bk n { A with dd := dd } S.bg)) ∧ H3 (A.jd i) = some (.ins CJ dj3 (jfs (kindS dn) (S.jo i) ma3 na3 sv3)) ∧
        H3 A.j = some (.dK (dI (fun x => .ref (A.jd x)) S.jk)) ∧ (upd H3 A.j (.dK (dropK (dI (fun x => .ref (A.jd x)) S.jk) (Sum.inl i)))) (A.jd i) = some (.ins CJ dj3 (jfs (kindS dn) (S.jo i) ma3 na3 sv3)) ∧
        ∀ o, YA CY CJ dn bk n (upd (upd H3 A.j (.dK (dropK (dI (fun x => .ref (A.jd x)) S.jk) (Sum.inl i)))) (A.jd i) o) y { A with dd := dd } (dropJ S3 i) D3 τ ∧ Kp τ H3 (upd (upd H3 A.j (.dK (dropK (dI (fun x => .ref (A.jd x)) S.jk) (Sum.inl i)))) (A.jd i) o) := fun dd S3 D3 H3 Y3 ejk ejo ebg => by
      obtain ⟨⟨dx3, g1⟩, R3, _⟩ := id Y3
      obtain ⟨dj3, ma3, na3, sv3, g2, _⟩ := R3.hjd i (by rw [ejk]; exact hi)
      have g2 : H3 (A.jd i) = some (.ins CJ dj3 (jfs (kindS dn) (S3.jo i) ma3 na3 sv3)) := g2
      have g3 := R3.hj
      have g3 : H3 A.j = some (.dK (dI (fun x => .ref (A.jd x)) S3.jk)) := g3
      rw [ejk] at g3
      rw [ejo] at g2
      rw [ebg] at g1
      have nj : A.jd i ≠ A.j := tag_ne tji.1 R.tj (by omega)
      have g4 : (upd H3 A.j (.dK (dropK (dI (fun x => .ref (A.jd x)) S.jk) (Sum.inl i)))) (A.jd i) = some (.ins CJ dj3 (jfs (kindS dn) (S.jo i) ma3 na3 sv3)) := by rw [upd_ne nj]; exact g2
      refine ⟨dx3, dj3, ma3, na3, sv3, g1, g2, g3, g4, fun o => ?_⟩
      obtain ⟨Y4, k4⟩ := Y3.endj i
      have Y4 : YA CY CJ dn bk n (upd H3 A.j (.dK (dropK (dI (fun x => .ref (A.jd x)) S3.jk) (Sum.inl i)))) y { A with dd := dd } (dropJ S3 i) D3 τ := Y4
      have k4 : Kp τ H3 (upd H3 A.j (.dK (dropK (dI (fun x => .ref (A.jd x)) S3.jk) (Sum.inl i)))) := k4
      rw [ejk] at Y4 k4
      obtain ⟨Y5, k5⟩ := Y4.deadj (o := o) (i := i) (fun z => (mem_drop z).2 rfl) tji.2 tji.1 g4 isT_ins
      exact ⟨Y5, Kp.trans k4 (Gw.refl τ H3) k5⟩
    have word_ne : ∀ (a b : Str), (!decide (V.str a = V.str b)) = !decide (a = b) := fun a b => by rw [vstr]
    cases hh : (S.jo i).half
    case' false =>
      refine iteT ⟨_, rfl, A.jd i, CJ, dj, _, _, rfl, hj, TJ.cl, TJ.upper, jf_upper .., _, rfl, y, CY, dx, _, _, rfl, h1, TY.cl, TY.owned, yf_owned .., A.o, _, rfl, U0, _, rfl, iteF ?_⟩
      refine ⟨_, rfl, A.jd i, CJ, dj, _, _, rfl, hj, TJ.cl, TJ.lower, jf_lower .., _, rfl, y, CY, dx, _, _, rfl, h1, TY.cl, TY.owned, yf_owned .., A.o, _, rfl, L0, _, rfl, iteF ?_⟩
      revert hh
    case' true =>
      refine iteF ?_
      revert hh
    all_goals
      intro hh
      refine ⟨_, rfl, A.jd i, dj, _, rfl, hj, nocell _ _ _ _, _, rfl, y, CY, dx, _, _, rfl, h1, TY.cl, TY.cells, yf_cells .., A.jd i, (n : Int), dj, ma, na, kindS dn, S.jo i, sv, rfl, hj, hma, fun H1 s1 => ?_⟩
      have hB1 := hB.same s1
      have Y1 := Y.same s1
      refine ⟨_, rfl, A.jd i, CJ, dj, _, _, rfl, s1 _ _ hj, TJ.cl, TJ.seen, jf_seen .., ?_⟩
      by_cases hpl : (S.jo i).pl < n
      · rw [if_pos hpl]
        have tw : Two H1 A.o (A.od (S.jo i).up) (A.od (S.jo i).lo) S.ok A.od (S.jo i) (S.ow (S.jo i).up) (S.ow (S.jo i).lo) := ⟨s1 _ _ R.ho, JO.uo, JO.lo, rfl, rfl, s1 _ _ (R.hod _ JO.uo), s1 _ _ (R.hod _ JO.lo)⟩
        have nul : A.od (S.jo i).up ≠ A.od (S.jo i).lo := tag_ne tou.1 tol.1 (by omega)
        have zU : (S.ow (S.jo i).up).length ≤ 1000 := Nat.le_trans (row_len (BS.ro _ JO.uo)) (by omega)
        have zL : (S.ow (S.jo i).lo).length ≤ 1000 := Nat.le_trans (row_len (BS.ro _ JO.lo)) (by omega)
        have hsv1 : SeenV H1 sv (S.jo i).seen := hsv.stay fun t xs z => s1 _ _ z
        cases es : (S.jo i).seen with
        | some p =>
          have esv : (V.non = sv) → False := fun e => by
            rw [es] at hsv
            obtain ⟨t, e2, _⟩ := hsv
            rw [e2] at e
            cases e
          obtain ⟨t, e2, _⟩ := (by rw [es] at hsv; exact hsv : ∃ t, sv = .ref t ∧ _)
          subst e2
          refine ⟨true, rfl, iteT (iteT ⟨_, rfl, _, rfl, y, CY, dx, _, _, rfl, s1 _ _ h1, TY.cl, TY.book, yf_book .., _, rfl, y, CY, dx, _, _, rfl, s1 _ _ h1, TY.cl, TY.owned, yf_owned .., _, rfl, ?_⟩)⟩
          exact ⟨A.jd i, bk, A.o, _, _, dj, ma, na, dn, S.jo i, _, B, n, S.ok, A.od, _, _, rfl, s1 _ _ hj, s1 _ _ hma, hsv1, hB1, tw, nul, zU, zL, hpl, fun sv' H' c1 c2 c3 c4 c5 => cpy hpl H1 H' sv' s1 c1 c2 c3 c4 c5⟩
        | none =>
          rw [es] at hsv
          have e2 : sv = .non := hsv
          subst e2
          refine ⟨false, rfl, iteF ⟨_, rfl, true, rfl, iteT ⟨_, rfl, _, rfl, y, CY, dx, _, _, rfl, s1 _ _ h1, TY.cl, TY.book, yf_book .., _, rfl, y, CY, dx, _, _, rfl, s1 _ _ h1, TY.cl, TY.owned, yf_owned .., _, rfl, ?_⟩⟩⟩
          exact ⟨A.jd i, bk, A.o, _, _, dj, ma, na, dn, S.jo i, _, B, n, S.ok, A.od, _, _, rfl, s1 _ _ hj, s1 _ _ hma, hsv1, hB1, tw, nul, zU, zL, hpl, fun sv' H' c1 c2 c3 c4 c5 => cpy hpl H1 H' sv' s1 c1 c2 c3 c4 c5⟩
      · rw [if_neg hpl]
        have es : (S.jo i).seen = none := by
          cases e : (S.jo i).seen with
          | none => rfl
          | some p => exact (hpl (JO.sp (by rw [e]; rfl))).elim
        rw [es] at hsv
        have e2 : sv = .non := hsv
        subst e2
        have ec : copies (par B dn n) (S.jo i) = false := by
          unfold copies
          rw [es, show decide ((S.jo i).pl < (par B dn n).n) = false from decide_eq_false hpl]
          rfl
        have ew : wordOf (par B dn n) (S.jo i) = if (par B dn n).lnk then (if (S.jo i).half then .cut else .link) else .both := by
          unfold wordOf
          rw [es]
          exact if_neg hpl
        have eS : stepS (par B dn n) S i = if (par B dn n).lnk then (if (S.jo i).half then dropJ (K20.cutS (par B dn n) S (S.jo i)) i else halfJ (linkS (par B dn n) S (S.jo i)) i) else dropJ (K20.cutS (par B dn n) (linkS (par B dn n) S (S.jo i)) (S.jo i)) i := by
          unfold stepS
          rw [ec]
          rfl
        have eD : stepD (par B dn n) S D i = if ((par B dn n).lnk && (S.jo i).half) = true then D else linkD (par B dn n) S D (S.jo i) := by
          unfold stepD
          rw [ec]
          rfl
        refine ⟨false, rfl, iteF ⟨_, rfl, false, rfl, iteF ?_⟩⟩
        refine ⟨_, rfl, y, dx, _, rfl, s1 _ _ h1, by kernel_rfl, _, rfl, y, A.jd i, dx, dj, bk, ma, na, n, S.bg, A, B, kindS dn, S.jo i, _, rfl, s1 _ _ h1, hB1, hf, s1 _ _ hj, ?_⟩
        have hin : (valV (dI (fun x => V.ref (A.jd x)) S.jk) (Sum.inl i)).isSome = true := by rw [dI_in hi]; rfl
        have k1 : Kp τ H H1 := Kp.of_same s1
        rcases hf with hf | hf
        · have hl : (par B dn n).lnk = false := decide_eq_false fun e => one_link (hf.symm.trans e)
          have hhf : (S.jo i).half = false := by
            cases e : (S.jo i).half with
            | false => rfl
            | true =>
              have := JO.hf e
              rw [hl] at this
              cases this
          have q := q
          rw [ew, eS, eD, hl] at q
          rw [if_neg (fun e => one_link (hf.symm.trans e))]
          refine ⟨_, rfl, rfl, _, rfl, ?_⟩
          rw [word_ne, decide_eq_false (by decide +kernel)]
          refine iteT ⟨_, rfl, y, dx, _, rfl, s1 _ _ h1, by kernel_rfl, _, rfl, y, bk, dn, n, A, S, D, τ, B, i, rfl, Y1, hB1, hi, G, hhf, fun dd H2 Y2 k2 => ?_⟩
          obtain ⟨dx2, h2⟩ := Y2.ob
          have h2 : H2 y = some (.ins CY dx2 (yfs bk n { A with dd := dd } (linkS (par B dn n) S (S.jo i)).bg)) := h2
          have k12 := Kp.trans k1 (Gw.refl τ H) k2
          refine ⟨_, rfl, rfl, _, rfl, ?_⟩
          rw [word_ne, decide_eq_false (by decide +kernel)]
          refine iteT ⟨_, rfl, y, dx2, _, rfl, h2, by kernel_rfl, _, rfl, y, bk, dn, n, { A with dd := dd }, linkS (par B dn n) S (S.jo i), linkD (par B dn n) S D (S.jo i), τ, B, i, rfl, Y2, hB.keep k12 b0, by rw [link_jk]; exact hi, by rw [link_jo, link_ok]; exact JO.uo, by rw [link_jo, link_ok]; exact JO.lo, G.link_base hi hhf, fun H3 Y3 k3 => ?_⟩
          rw [link_jo] at Y3
          obtain ⟨dx3, dj3, ma3, na3, sv3, a1, a2, a3, a4, a5⟩ := ended dd _ _ H3 Y3 (link_jk _) (link_jo _) (link_bg _)
          refine ⟨_, rfl, A.jd i, CJ, dj3, _, _, rfl, a2, TJ.cl, TJ.half, jf_half .., (S.jo i).half, rfl, ?_⟩
          rw [hhf]
          refine iteF ⟨_, rfl, rfl, _, rfl, ?_⟩
          rw [vstr, decide_eq_true rfl]
          refine iteT ⟨_, rfl, y, CY, dx3, _, _, rfl, a1, TY.cl, TY.jobs, yf_jobs .., _, rfl, A.j, _, Sum.inl i, rfl, a3, rfl, hin, ?_⟩
          refine ⟨_, rfl, A.jd i, CJ, dj3, _, rfl, a4, TJ.cl, TJ.half, jf_len, ?_⟩
          obtain ⟨Y5, k5⟩ := a5 (.ins CJ dj3 (putF "half" (.bl true) (jfs (kindS dn) (S.jo i) ma3 na3 sv3)))
          exact ⟨_, rfl, q dd _ Y5 (Kp.trans k12 (Gw.refl τ H) (Kp.trans k3 (Gw.refl τ H2) k5))⟩
        · have hl : (par B dn n).lnk = true := decide_eq_true hf
          have q := q
          rw [ew, eS, eD, hl] at q
          rw [if_pos hf]
          cases hhf : (S.jo i).half with
          | false =>
            rw [hhf] at q
            rw [if_neg (show ¬ (false = true) from fun z => nomatch z)]
            refine ⟨_, rfl, rfl, _, rfl, ?_⟩
            rw [word_ne, decide_eq_false (by decide +kernel)]
            refine iteT ⟨_, rfl, y, dx, _, rfl, s1 _ _ h1, by kernel_rfl, _, rfl, y, bk, dn, n, A, S, D, τ, B, i, rfl, Y1, hB1, hi, G, hhf, fun dd H2 Y2 k2 => ?_⟩
            have k12 := Kp.trans k1 (Gw.refl τ H) k2
            refine ⟨_, rfl, rfl, _, rfl, ?_⟩
            rw [word_ne, decide_eq_true rfl]
            refine iteF ?_
            obtain ⟨dj3, ma3, na3, sv3, a2, a3, a4, a5, a6, a7⟩ := Y2.re.hjd i (by rw [link_jk]; exact hi)
            rw [link_jo] at a2 a4 a7
            have a2 : H2 (A.jd i) = some (.ins CJ dj3 (jfs (kindS dn) (S.jo i) ma3 na3 sv3)) := a2
            refine ⟨_, rfl, A.jd i, CJ, dj3, _, _, rfl, a2, TJ.cl, TJ.half, jf_half .., (S.jo i).half, rfl, ?_⟩
            rw [hhf]
            refine iteF ⟨_, rfl, rfl, _, rfl, ?_⟩
            rw [vstr, decide_eq_false (by decide +kernel)]
            refine iteF ⟨_, rfl, A.jd i, CJ, dj3, _, rfl, a2, TJ.cl, TJ.half, jf_len, ?_⟩
            rw [jf_put_half]
            obtain ⟨Y5, k5⟩ := Y2.setj (x := { S.jo i with half := true }) (by rw [link_jk]; exact hi) a2 a3 a4 a5 a6 a7
            refine ⟨_, rfl, q dd _ ?_ (Kp.trans k12 (Gw.refl τ H) k5)⟩
            have e : halfJ (linkS (par B dn n) S (S.jo i)) i = { linkS (par B dn n) S (S.jo i) with jo := fupd (linkS (par B dn n) S (S.jo i)).jo i { S.jo i with half := true } } := by
              unfold halfJ
              rw [link_jo]
            show YA CY CJ dn bk n _ y { A with dd := dd } (halfJ (linkS (par B dn n) S (S.jo i)) i) (linkD (par B dn n) S D (S.jo i)) τ
            rw [e]
            exact Y5
          | true =>
            rw [hhf] at q
            rw [if_pos rfl]
            refine ⟨_, rfl, rfl, _, rfl, ?_⟩
            rw [word_ne, decide_eq_true rfl]
            refine iteF ⟨_, rfl, rfl, _, rfl, ?_⟩
            rw [word_ne, decide_eq_false (by decide +kernel)]
            refine iteT ⟨_, rfl, y, dx, _, rfl, s1 _ _ h1, by kernel_rfl, _, rfl, y, bk, dn, n, A, S, D, τ, B, i, rfl, Y1, hB1, hi, JO.uo, JO.lo, BS, fun H3 Y3 k3 => ?_⟩
            obtain ⟨dx3, dj3, ma3, na3, sv3, a1, a2, a3, a4, a5⟩ := ended A.dd _ _ H3 Y3 rfl rfl rfl
            refine ⟨_, rfl, A.jd i, CJ, dj3, _, _, rfl, a2, TJ.cl, TJ.half, jf_half .., (S.jo i).half, rfl, ?_⟩
            rw [hhf]
            refine iteT (iteT ⟨_, rfl, y, CY, dx3, _, _, rfl, a1, TY.cl, TY.jobs, yf_jobs .., _, rfl, A.j, _, Sum.inl i, rfl, a3, rfl, hin, ?_⟩)
            refine ⟨_, rfl, A.jd i, CJ, dj3, _, rfl, a4, TJ.cl, TJ.half, jf_len, ?_⟩
            obtain ⟨Y5, k5⟩ := a5 (.ins CJ dj3 (putF "half" (.bl true) (jfs (kindS dn) (S.jo i) ma3 na3 sv3)))
            exact ⟨_, rfl, q A.dd _ Y5 (Kp.trans k1 (Gw.refl τ H) (Kp.trans k3 (Gw.refl τ H1) k5))⟩
end
end K20W
end
/-! W12 -/
section
set_option Elab.async false
set_option linter.all false
set_option maxRecDepth 100000
set_option maxHeartbeats 4000000
/-! write, cover, branch. -/
namespace K20W
open PySem L2 K20
/-! ### tuples put together -/
theorem catA_any {K : PySem.W.Frag} {H : Hp} {a b : Addr} {xs ys : List V} {Q : VK} (ha : H a = some (.tup xs)) (hb : H b = some (.tup ys)) (hz : xs.length + ys.length ≤ sizeLine) (q : ∀ p H', Same H H' → H' p = some (.tup (xs ++ ys)) → Q (.ref p) H') : rCatA K (.ref a) (.ref b) H Q := by
  refine ⟨a, b, xs, ys, rfl, rfl, SqT.of ha, SqT.of hb, hz, fun e => ?_, fun _ e => ?_, fun _ _ p hp => q p _ (Same.newS (Same.refl _) hp) upd_same⟩
  · subst e
    exact q b H (Same.refl _) hb
  · subst e
    exact q a H (Same.refl _) (by rw [List.append_nil]; exact ha)
theorem slA_any {K : PySem.W.Frag} {H : Hp} {a : Addr} {xs : List V} {lo hi : Option Int} {Q : VK} (ha : H a = some (.tup xs)) (q : ∀ p H', Same H H' → H' p = some (.tup (cutV xs lo hi)) → Q (.ref p) H') : rSlA K (.ref a) lo hi H Q := by
  refine ⟨a, xs, rfl, SqT.of ha, fun e => ?_, fun _ p hp => q p _ (Same.newS (Same.refl _) hp) upd_same⟩
  refine q a H (Same.refl _) ?_
  unfold cutV
  rw [e.1, e.2, List.drop_zero, Nat.sub_zero, List.take_length]
  exact ha
theorem cut_to (xs : List V) (c : Int) (h0 : 0 ≤ c) (h1 : c < xs.length) : cutV xs none (some c) = xs.take c.toNat := by
  obtain ⟨k, rfl⟩ := Int.eq_ofNat_of_zero_le h0
  unfold cutV
  rw [HT.sIx_none, HT.sIx_nat, List.drop_zero, Nat.sub_zero]
  have : k < xs.length := by omega
  rw [Nat.min_eq_left (Nat.le_of_lt this)]
  rfl
theorem cut_from (xs : List V) (c : Int) (h0 : 0 ≤ c) (h1 : c ≤ xs.length) : cutV xs (some c) none = xs.drop c.toNat := by
  obtain ⟨k, rfl⟩ := Int.eq_ofNat_of_zero_le h0
  unfold cutV
  rw [HT.sIx_none, HT.sIx_nat]
  have : k ≤ xs.length := by omega
  rw [Nat.min_eq_left this]
  show (xs.drop k).take (xs.length - k) = xs.drop k
  rw [List.take_of_length_le (by rw [List.length_drop]; exact Nat.le_refl _)]
theorem set_cut (l : List Int) (c v : Int) (h0 : 0 ≤ c) (h1 : c < l.length) : (l.map V.int).take c.toNat ++ [V.int v] ++ (l.map V.int).drop (c + 1).toNat = (l.set c.toNat v).map V.int := by
  rw [List.set_eq_take_append_cons_drop, if_pos (by omega), List.map_append, List.map_cons, List.map_take, List.map_drop, show (c + 1).toNat = c.toNat + 1 by omega, List.append_assoc]
  rfl
theorem inV_strs (x : Str) (ks : List Str) : inV (.str x) (ks.map V.str) = ks.any fun k => decide (k = x) := by
  unfold inV
  rw [List.any_map]
  rfl
theorem flat_strs (ks : List Str) : (ks.map V.str).all flatV = true := by
  rw [List.all_eq_true]
  intro v hv
  obtain ⟨k, _, rfl⟩ := List.mem_map.mp hv
  rfl
/-! ### a layer is put on -/
section
variable {J : JP} {H H' : Hp} {A : Ad} {S : Vs} {D : Du} {τ : Addr → Int} {p : Addr}
theorem Rep.put2 (hJ : Stays J) (R : Rep J H A S D τ p) (hm : ∀ y ∈ S.ok, 0 ≤ y ∧ y < S.m) {q : Addr} (hq : H q = none) {x : Int} {nw : Nat} {se : Int → Int} {co : Int → List Int} {D' : Du} {dd cd : Int → Addr}
    (keep : ∀ b o, H b = some o → b ≠ A.b → b ≠ A.o → b ≠ A.d → b ≠ A.s → b ≠ A.c → H' b = some o) (nq : H' q = some (.dK []))
    (hb : H' A.b = some (.dK (dI (fun y => oV (fupd S.bs S.m (some x) y)) (rng (S.m + 1))))) (ho : H' A.o = some (.dK (dI (fun y => .ref (fupd A.od S.m q y)) (S.ok ++ [(S.m : Int)]))))
    (hd : H' A.d = some (.dK (dI (fun y => .ref (dd y)) D'.dk))) (hs : H' A.s = some (.dK (dI (fun y => .int (se y)) (rng nw)))) (hc : H' A.c = some (.dK (dI (fun y => .ref (cd y)) (rng nw))))
    (hdd : ∀ y ∈ D'.dk, H' (dd y) = some (.tup ((D'.du y).map V.int))) (hcd : ∀ y ∈ rng nw, H' (cd y) = some (.tup ((co y).map V.int))) :
    Rep J H' { A with od := fupd A.od S.m q, dd := dd, cd := cd } { onS S x with nw := nw, se := se, co := co } D' (tg τ q (10 + 2 * S.m)) p ∧ Kp τ H H' ∧ Gw τ (tg τ q (10 + 2 * S.m)) H := by
  have nqa : ∀ {a : Addr} {o : HO}, H a = some o → a ≠ q := fun h => ne_of_none h hq
  have tgo : ∀ {a : Addr} {o : HO}, H a = some o → tg τ q (10 + 2 * S.m) a = τ a := fun h => tg_ne (nqa h)
  have st : ∀ {a : Addr} {o : HO}, H a = some o → ((τ a ≠ 2 ∧ τ a ≠ 3 ∧ τ a ≠ 4 ∧ τ a ≠ 5 ∧ τ a ≠ 6) ∨ isT o) → H' a = some o := fun {a o} h hh => by
    have ne : ∀ {b : Addr} {kvs : List (Key × V)} {t : Int}, H b = some (.dK kvs) → τ b = t → (t = 2 ∨ t = 3 ∨ t = 4 ∨ t = 5 ∨ t = 6) → a ≠ b := fun {b kvs t} hb' e ht z => by
      subst z
      rcases hh with hh | hh
      · omega
      · rw [hb'] at h
        cases h
        exact isT_dK hh
    exact keep a o h (ne R.hb R.tb (.inl rfl)) (ne R.ho R.to (.inr (.inl rfl))) (ne R.hd R.td (.inr (.inr (.inl rfl)))) (ne R.hs R.ts (.inr (.inr (.inr (.inl rfl))))) (ne R.hc R.tc (.inr (.inr (.inr (.inr rfl)))))
  have old : ∀ {y : Int}, y ∈ S.ok ++ [(S.m : Int)] → y ≠ S.m → y ∈ S.ok := fun {y} h e => (List.mem_append.mp h).resolve_right fun h => e (List.mem_singleton.mp h)
  refine ⟨⟨hb, ho, hd, hs, hc, st R.hj (by rw [R.tj]; omega), fun y hy => ?_, hdd, hcd, fun i hi => ?_,
    (tg_old hq (R.live p (by rw [R.tp]; decide))).trans R.tp, (tgo R.hb).trans R.tb, (tgo R.ho).trans R.to, (tgo R.hd).trans R.td, (tgo R.hs).trans R.ts, (tgo R.hc).trans R.tc, (tgo R.hj).trans R.tj, fun y hy => ?_, fun i hi => ?_, fun a ha => ?_⟩, fun a o h ht => ?_, Gw.tg _ hq⟩
  · show H' (fupd A.od S.m q y) = some (.dK (rowV (fupd S.ow S.m [] y)))
    by_cases e : y = S.m
    · subst e
      rw [fupd_same, fupd_same]
      exact nq
    · rw [fupd_ne e, fupd_ne e]
      have hy := old hy e
      have := R.tod y hy
      exact st (R.hod y hy) (.inl (by omega))
  · have h2 := R.tjd i hi
    refine hJ H H' τ _ _ _ (R.hjd i hi) (fun b o hb' h => ?_) fun b hb' h => (tg_old hq hb').trans h
    rcases h with h | h | h
    · have e : τ b = 11 + 2 * i := by
        rw [h]
        exact h2.1
      have := h2.2
      exact st hb' (.inl (by omega))
    · exact st hb' (.inl (by omega))
    · exact st hb' (.inr h)
  · show tg τ q (10 + 2 * S.m) (fupd A.od S.m q y) = 10 + 2 * y ∧ 0 ≤ y
    by_cases e : y = S.m
    · subst e
      rw [fupd_same, tg_same]
      exact ⟨rfl, by omega⟩
    · rw [fupd_ne e]
      have hy := old hy e
      rw [tgo (R.hod y hy)]
      exact R.tod y hy
  · have h2 := R.tjd i hi
    exact ⟨(tg_old hq (R.live (A.jd i) (by rw [h2.1]; omega))).trans h2.1, h2.2⟩
  · by_cases e : a = q
    · subst e
      rw [nq]
      exact fun z => nomatch z
    · rw [tg_ne e] at ha
      by_cases e1 : a = A.b
      · rw [e1, hb]
        exact fun z => nomatch z
      · by_cases e2 : a = A.o
        · rw [e2, ho]
          exact fun z => nomatch z
        · by_cases e3 : a = A.d
          · rw [e3, hd]
            exact fun z => nomatch z
          · by_cases e4 : a = A.s
            · rw [e4, hs]
              exact fun z => nomatch z
            · by_cases e5 : a = A.c
              · rw [e5, hc]
                exact fun z => nomatch z
              · cases e : H a with
                | none => exact (R.live a ha e).elim
                | some o =>
                  rw [keep a o e e1 e2 e3 e4 e5]
                  exact fun z => nomatch z
  · refine st h ?_
    by_cases e : τ a = 0
    · left
      omega
    · exact .inr (ht e)
end
section
variable {CY CJ : Addr} {dn : Bool} {bk : Addr} {n : Nat} {H H' : Hp} {y : Addr} {A : Ad} {S : Vs} {D : Du} {τ : Addr → Int}
/-- a layer's own cells -/
theorem YA.row (Y : YA CY CJ dn bk n H y A S D τ) {x : Int} (hx : x ∈ S.ok) (r : Row) :
    YA CY CJ dn bk n (upd H (A.od x) (.dK (rowV r))) y A { S with ow := fupd S.ow x r } D τ ∧ Kp τ H (upd H (A.od x) (.dK (rowV r))) := by
  obtain ⟨⟨dx, h1⟩, R, b0⟩ := Y
  have t := R.tod x hx
  have yo : y ≠ A.od x := tag_ne R.tp t.1 (by omega)
  exact ⟨⟨⟨dx, by rw [upd_ne yo]; exact h1⟩, R.cells (JobAt.stays CJ dn) hx (Ch.wr t.1 (R.hod x hx) isT_dK) upd_same (R.live.wr _ _), b0⟩, (Kp.refl τ H).wr (by rw [t.1]; omega) (R.hod x hx) isT_dK⟩
/-- the contents of u become those which stand at t -/
theorem YA.cont1 (Y : YA CY CJ dn bk n H y A S D τ) {u : Int} (hu : u ∈ rng S.nw) {t : Addr} {l : List Int} (ht : H t = some (.tup (l.map V.int))) (hl : S.nw ≤ 1000) :
    ∃ cd H1, DPut H A.c (.int u) (.ref t) H1 ∧ YA CY CJ dn bk n H1 y { A with cd := cd } { S with co := fupd S.co u l } D τ ∧ Kp τ H H1 := by
  obtain ⟨⟨dx, h1⟩, R, b0⟩ := Y
  have p := dI_setOld R.hc hu (by rw [rng_length]; exact hl) (.ref t)
  rw [← fupd_map V.ref] at p
  have yo : y ≠ A.c := ne_of h1 R.hc (by intro z; cases z)
  refine ⟨fupd A.cd u t, _, p, ⟨⟨dx, by rw [upd_ne yo]; exact h1⟩, R.conts (JobAt.stays CJ dn) (Ch.wr R.tc R.hc isT_dK) upd_same (fun x hx => ?_) (R.live.wr _ _), b0⟩, (Kp.refl τ H).wr (by rw [R.tc]; decide) R.hc isT_dK⟩
  have tup : ∀ {a : Addr} {xs : List V}, H a = some (HO.tup xs) → (upd H A.c (.dK (dI (fun x => V.ref (fupd A.cd u t x)) (rng S.nw)))) a = some (HO.tup xs) := fun h => by
    rw [upd_ne (ne_of h R.hc (by intro z; cases z))]
    exact h
  show _ = some (HO.tup ((fupd S.co u l x).map V.int))
  by_cases e : x = u
  · subst e
    rw [fupd_same, fupd_same]
    exact tup ht
  · rw [fupd_ne e, fupd_ne e]
    exact tup (R.hcd x hx)
end
/-! ### the walks -/
theorem pt_never {X : Cx} {e : Expr} : PT X e (fun _ _ _ => False) := ⟨fun _ _ _ _ _ _ h => h.elim⟩
theorem pe_never {X : Cx} {e : Expr} : PE X e (fun _ _ _ => False) := ⟨fun _ _ _ _ _ _ h => h.elim⟩
section
variable {P : Program} {w : World} {K : PySem.W.Frag} {mg : Str → Option Value} {base : Heap} {f CY CB CJ : Addr} {fd : FuncData}
theorem YA.jobs_none {CY CJ : Addr} {dn : Bool} {bk : Addr} {n : Nat} {H : Hp} {y : Addr} {A : Ad} {S : Vs} {D : Du} {τ : Addr → Int} (Y : YA CY CJ dn bk n H y A S D τ) (e : S.jk = []) : H A.j = some (.dK []) := by
  have := Y.re.hj
  rw [e] at this
  exact this
def spWrite (CY CJ : Addr) : Sp := fun vs H Q _ => ∃ (y bk : Addr) (dn : Bool) (n : Nat) (A : Ad) (S : Vs) (D : Du) (τ : Addr → Int) (u c v : Int), vs = [.ref y, .int u, .int c, .int v] ∧ YA CY CJ dn bk n H y A S D τ ∧ Grow n S D ∧ n ≤ 40 ∧ (0 ≤ u ∧ u < S.nw) ∧ (0 ≤ c ∧ c < n) ∧ (1 ≤ v ∧ v ≤ 1000) ∧
  ∀ cd H', YA CY CJ dn bk n H' y { A with cd := cd } (writeS S u c v) D τ → Kp τ H H' → Q .non H'
theorem ok_write (TY : YardC K CY) (hmv : mg "MOST_VALUE" = some (.int 1000000000 t0)) (g1 : Gd P w K mg base "is_number" 1 ["thing"] spNum) (m1 : Md P w K mg base CY "need_writer" 2 ["self", "writer"] (spNeedW CY)) (m2 : Md P w K mg base CY "need_cell" 2 ["self", "cell"] (spNeedC CY))
    (m3 : Md P w K mg base CY "seat_of" 1 ["self", "writer"] (spSeatOf CY)) (m4 : Md P w K mg base CY "merging" 1 ["self", "layer"] (spMerging CY)) (F : Fu K "write" "Yard.write" (s_yard 16) f fd) : FnOk P w K mg base CX0 3 f fd ["self", "writer", "cell", "value"] (spWrite CY CJ) := by
  have sc : FnScope ["self", "writer", "cell", "value", "layer", "job", "owned", "old"] ["self", "writer", "cell", "value"] (defScope (s_yard 16)) := ⟨rfl, rfl, rfl, by decide +kernel, rfl, by decide +kernel, by decide +kernel⟩
  obtain ⟨f1, d1, G1, e1, k1, b1⟩ := g1
  obtain ⟨f2, d2, G2, M2, b2⟩ := m1
  obtain ⟨f3, d3, G3, M3, b3⟩ := m2
  obtain ⟨f4, d4, G4, M4, b4⟩ := m3
  obtain ⟨f5, d5, G5, M5, b5⟩ := m4
  refine F.ok sc (fun vs H Q E h => ?_) (fun cdv A outer s H vs Q E hr h => ?_)
  · obtain ⟨y, _, _, _, _, _, _, _, _, _, _, rfl, _⟩ := h
    rfl
  · obtain ⟨y, bk, dn, n, A, S, D, τ, u, c, v, rfl, Y, G, hn, hw, hc, hv, q⟩ := h
    have hu := hu_of hr
    have hr1 : Room 1 _ := hr.mono (by decide)
    obtain ⟨⟨dx, h1⟩, R, b0⟩ := id Y
    have BS := G.ba
    refine ⟨_, pss_cons (ps_expr (pe_meth (pv 0) TY.cl M2 G2 hr b2 .nil pass0 (pa_cons (pv 1) pa_nil)))
      (pss_cons (ps_expr (pe_meth (pv 0) TY.cl M3 G3 hr b3 .nil pass0 (pa_cons (pv 2) pa_nil)))
      (pss_cons (ps_if (PW.pt (pw_or (pt_not (pt_val (pe_call G1 hr1 rfl e1 k1 b1 .nil pass0 (pa_cons (pv 3) pa_nil)))) (pw_or1 (pt_not (pt_chain op_le op_le pe_int (pv 3) (pe_glob (v := .int 1000000000) rfl hmv ⟨_, rfl⟩)))))) (pss_one ps_never) pss_nil)
      (pss_cons (ps_set (i := 4) sc.nd rfl (.inl rfl) (pe_meth (pv 0) TY.cl M4 G4 hr1 b4 .nil pass0 (pa_cons (pv 1) pa_nil)))
      (pss_cons (ps_set (i := 5) sc.nd rfl (.inl rfl) (pe_meth (pv 0) TY.cl M5 G5 hr1 b5 .nil pass0 (pa_cons (pv 4) pa_nil)))
      (pss_cons (ps_if (PW.pt (pw_and (pt_cmp (pc_notN (pv 5))) (pw_and1 pt_never))) (pss_one ps_never) pss_nil)
      (pss_cons (ps_set (i := 6) sc.nd rfl (.inl rfl) (pe_dget hu (pe_fld (pv 0) rfl) (pv 4) (fun _ _ => rfl)))
      (pss_cons (ps_dput hu (pv 6) (pv 2) (pv 3) rfl)
      (pss_cons (ps_set (i := 7) sc.nd rfl (.inl rfl) (pe_dget hu (pe_fld (pv 0) rfl) (pv 1) (fun _ _ => rfl)))
      (pss_cons (ps_dput hu (pe_fld (pv 0) rfl) (pv 1) (pe_op op_catA (pe_op op_catA (pe_slice sl_tupA (pv 7) po_none (po_some (pv 2))) (pe_tup (pa_cons (pv 3) pa_nil))) (pe_slice sl_tupA (pv 7) (po_some (pe_op op_add (pv 2) pe_int)) po_none)) rfl)
      (pss_one (ps_if (pt_cmp (pc_notN (pv 5))) (pss_one ps_never) pss_nil))))))))))), ?_⟩
    have hwm := mem_rng.mpr hw
    have hso : S.se u ∈ S.ok := by rw [G.ok]; exact mem_rng.mpr (BS.sr u hw.1 hw.2)
    refine ⟨_, rfl, y, dx, _, rfl, h1, by kernel_rfl, _, rfl, y, dx, bk, n, S.bg, A, u, _, _, rfl, h1, .inl R.hs, hwm, ?_⟩
    refine ⟨_, rfl, y, dx, _, rfl, h1, by kernel_rfl, _, rfl, y, dx, bk, n, S.bg, A, c, rfl, h1, hc.1, hc.2, ?_⟩
    refine ⟨_, rfl, v, rfl, true, rfl, iteF ⟨_, rfl, _, _, rfl, rfl, true, congrArg V.bl (decide_eq_true hv.1), iteT ⟨_, _, rfl, rfl, true, congrArg V.bl (decide_eq_true (by omega)), iteF ?_⟩⟩⟩
    refine ⟨_, rfl, y, dx, _, rfl, h1, by kernel_rfl, _, rfl, y, dx, bk, n, S.bg, A, u, S.se, rng S.nw, _, S.ok, rfl, h1, R.hs, R.ho, hwm, hso, ?_⟩
    refine ⟨_, rfl, y, dx, _, rfl, h1, by kernel_rfl, _, rfl, y, dx, bk, n, S.bg, A, S.se u, rfl, h1, Y.jobs_none G.jk, ?_⟩
    refine ⟨_, rfl, false, rfl, iteF (iteF ?_)⟩
    refine ⟨_, rfl, y, CY, dx, _, _, rfl, h1, TY.cl, TY.owned, yf_owned .., _, rfl, A.o, _, rfl, dI_get R.ho hso, ?_⟩
    have lr : (S.ow (S.se u)).length ≤ 1000 := Nat.le_trans (row_len (BS.ro _ hso)) (by omega)
    refine ⟨_, rfl, _, rfl, _, rfl, A.od (S.se u), _, rfl, row_put (R.hod _ hso) lr c v, ?_⟩
    obtain ⟨Y1, k1⟩ := Y.row hso (put (S.ow (S.se u)) c v)
    generalize hH1 : upd H (A.od (S.se u)) (.dK (rowV (put (S.ow (S.se u)) c v))) = H1 at Y1 k1 ⊢
    obtain ⟨⟨dx1, g1⟩, R1, _⟩ := id Y1
    refine ⟨_, rfl, y, CY, dx1, _, _, rfl, g1, TY.cl, TY.contents, yf_contents .., _, rfl, A.c, _, rfl, dI_get R1.hc hwm, ?_⟩
    have t0 := R1.hcd u hwm
    have t0 : H1 (A.cd u) = some (.tup ((S.co u).map V.int)) := t0
    have lc := BS.cl u hw.1 hw.2
    have lm : ((S.co u).map V.int).length = n := by rw [List.length_map, lc]
    have sl : sizeLine ≥ 1000 := by decide
    refine ⟨_, rfl, _, rfl, c, rfl, slA_any t0 fun p1 H2 s2 g2 => ?_⟩
    rw [cut_to _ _ hc.1 (by rw [lm]; exact hc.2)] at g2
    refine ⟨_, rfl, (show 1 ≤ sizeLine from by decide), fun t ht => ?_⟩
    have s3 : Same H2 (upd H2 t (.tup [V.int v])) := Same.newS (Same.refl _) ht
    refine catA_any (s3 _ _ g2) upd_same (by rw [List.length_take, lm]; show min _ n + 1 ≤ sizeLine; omega) fun p2 H3 s4 g4 => ?_
    have s5 : Same H1 H3 := Same.trans s2 (Same.trans s3 s4)
    refine ⟨_, rfl, _, rfl, _, _, rfl, rfl, c + 1, rfl, ?_⟩
    unfold tNoPart
    refine slA_any (s5 _ _ t0) fun p3 H4 s6 g6 => ?_
    rw [cut_from _ _ (by omega) (by rw [lm]; omega)] at g6
    refine catA_any (s6 _ _ g4) g6 (by rw [List.length_append, List.length_take, List.length_drop, lm]; show min _ n + 1 + _ ≤ sizeLine; omega) fun p4 H5 s7 g7 => ?_
    rw [set_cut _ _ _ hc.1 (by rw [lc]; exact hc.2)] at g7
    have s8 : Same H1 H5 := Same.trans s5 (Same.trans s6 s7)
    have Y5 := Y1.same s8
    obtain ⟨cd, H6, p6, Y6, k6⟩ := Y5.cont1 hwm g7 (Nat.le_trans BS.w14 (by decide))
    refine ⟨_, rfl, y, CY, dx1, _, _, rfl, s8 _ _ g1, TY.cl, TY.contents, yf_contents .., _, rfl, A.c, H6, rfl, p6, ?_⟩
    exact ⟨_, rfl, false, rfl, iteF (q cd H6 Y6 (Kp.trans (Kp.trans k1 (Gw.refl τ H) (Kp.of_same s8)) (Gw.refl τ H) k6))⟩
end
end K20W
end
/-! W13 -/
section
set_option Elab.async false
set_option linter.all false
set_option maxRecDepth 100000
set_option maxHeartbeats 4000000
/-! cover, branch. -/
namespace K20W
open PySem L2 K20
section
variable {CY CJ : Addr} {dn : Bool} {bk : Addr} {n : Nat} {H H' : Hp} {y : Addr} {A : Ad} {S : Vs} {D : Du} {τ : Addr → Int}
/-- a layer is put on x, the seats and the contents change -/
theorem YA.put (Y : YA CY CJ dn bk n H y A S D τ) (hbk : H bk ≠ none) (hm : ∀ y ∈ S.ok, 0 ≤ y ∧ y < S.m) {q : Addr} (hq : H q = none) {x : Int} {nw : Nat} {se : Int → Int} {co : Int → List Int} {cd : Int → Addr} (hcd : ∀ y ∈ rng nw, H (cd y) = some (.tup ((co y).map V.int))) :
    YA CY CJ dn bk n (upd (upd (upd (upd (upd H A.b (.dK (dI (fun y => oV (fupd S.bs S.m (some x) y)) (rng (S.m + 1))))) q (.dK [])) A.o (.dK (dI (fun y => .ref (fupd A.od S.m q y)) (S.ok ++ [(S.m : Int)])))) A.s (.dK (dI (fun y => .int (se y)) (rng nw)))) A.c (.dK (dI (fun y => .ref (cd y)) (rng nw)))) y
      { A with od := fupd A.od S.m q, cd := cd } { onS S x with nw := nw, se := se, co := co } D (tg τ q (10 + 2 * S.m)) ∧
    Kp τ H (upd (upd (upd (upd (upd H A.b (.dK (dI (fun y => oV (fupd S.bs S.m (some x) y)) (rng (S.m + 1))))) q (.dK [])) A.o (.dK (dI (fun y => .ref (fupd A.od S.m q y)) (S.ok ++ [(S.m : Int)])))) A.s (.dK (dI (fun y => .int (se y)) (rng nw)))) A.c (.dK (dI (fun y => .ref (cd y)) (rng nw)))) ∧ Gw τ (tg τ q (10 + 2 * S.m)) H := by
  obtain ⟨⟨dx, h1⟩, R, b0⟩ := Y
  have bo : A.b ≠ A.o := tag_ne R.tb R.to (by decide)
  have bs : A.b ≠ A.s := tag_ne R.tb R.ts (by decide)
  have bc : A.b ≠ A.c := tag_ne R.tb R.tc (by decide)
  have os : A.o ≠ A.s := tag_ne R.to R.ts (by decide)
  have oc : A.o ≠ A.c := tag_ne R.to R.tc (by decide)
  have scn : A.s ≠ A.c := tag_ne R.ts R.tc (by decide)
  have db : A.d ≠ A.b := tag_ne R.td R.tb (by decide)
  have do_ : A.d ≠ A.o := tag_ne R.td R.to (by decide)
  have ds : A.d ≠ A.s := tag_ne R.td R.ts (by decide)
  have dc : A.d ≠ A.c := tag_ne R.td R.tc (by decide)
  have nq : ∀ {a : Addr} {o : HO}, H a = some o → a ≠ q := fun h => ne_of_none h hq
  have keep : ∀ {b : Addr} {o : HO}, H b = some o → b ≠ A.b → b ≠ A.o → b ≠ A.s → b ≠ A.c → (upd (upd (upd (upd (upd H A.b (.dK (dI (fun y => oV (fupd S.bs S.m (some x) y)) (rng (S.m + 1))))) q (.dK [])) A.o (.dK (dI (fun y => .ref (fupd A.od S.m q y)) (S.ok ++ [(S.m : Int)])))) A.s (.dK (dI (fun y => .int (se y)) (rng nw)))) A.c (.dK (dI (fun y => .ref (cd y)) (rng nw)))) b = some o := fun {b o} h n1 n2 n3 n4 => by
    rw [upd_ne n4, upd_ne n3, upd_ne n2, upd_ne (nq h), upd_ne n1]
    exact h
  have tup : ∀ {b : Addr} {xs : List V}, H b = some (.tup xs) → _ := fun {b xs} h => keep h (ne_of h R.hb (by intro z; cases z)) (ne_of h R.ho (by intro z; cases z)) (ne_of h R.hs (by intro z; cases z)) (ne_of h R.hc (by intro z; cases z))
  obtain ⟨R2, k2, g2⟩ := R.put2 (JobAt.stays CJ dn) hm hq (x := x) (nw := nw) (se := se) (co := co) (D' := D) (dd := A.dd) (cd := cd) (fun b o h n1 n2 _ n4 n5 => keep h n1 n2 n4 n5)
    (by rw [upd_ne (nq R.hc).symm, upd_ne (nq R.hs).symm, upd_ne (nq R.ho).symm, upd_same]) (by rw [upd_ne bc, upd_ne bs, upd_ne bo, upd_ne (nq R.hb), upd_same]) (by rw [upd_ne oc, upd_ne os, upd_same])
    (keep R.hd db do_ ds dc) (by rw [upd_ne scn, upd_same]) upd_same (fun y hy => tup (R.hdd y hy)) (fun y hy => tup (hcd y hy))
  refine ⟨⟨⟨dx, ?_⟩, R2, ?_⟩, k2, g2⟩
  · exact keep h1 (tag_ne R.tp R.tb (by decide)) (tag_ne R.tp R.to (by decide)) (tag_ne R.tp R.ts (by decide)) (tag_ne R.tp R.tc (by decide))
  · rw [tg_ne fun e : bk = q => hbk (e ▸ hq)]
    exact b0
end
section
variable {P : Program} {w : World} {K : PySem.W.Frag} {mg : Str → Option Value} {base : Heap} {f CY CB CJ : Addr} {fd : FuncData}
def spCover (CY CB CJ : Addr) : Sp := fun vs H Q _ => ∃ (y bk : Addr) (dn : Bool) (n : Nat) (A : Ad) (S : Vs) (D : Du) (τ : Addr → Int) (B : BookR) (u : Int), vs = [.ref y, .int u] ∧ YA CY CJ dn bk n H y A S D τ ∧ BookAt CB H bk B ∧ Grow n S D ∧ (0 ≤ u ∧ u < S.nw) ∧
  ∀ od dd H' τ', YA CY CJ dn bk n H' y { A with od := od, dd := dd } (coverS S u) (coverD S D u) τ' → Kp τ H H' → Gw τ τ' H → Q (.int S.m) H'
theorem ok_cover (TB : BookC K CB) (TY : YardC K CY) (GB : BookP P w K mg base CB) (m1 : Md P w K mg base CY "need_writer" 2 ["self", "writer"] (spNeedW CY))
    (m3 : Md P w K mg base CY "seat_of" 1 ["self", "writer"] (spSeatOf CY)) (m4 : Md P w K mg base CY "uppers" 1 ["self"] (spLayers CY CJ Jb.up)) (m5 : Md P w K mg base CY "put_on" 1 ["self", "layer"] (spPutOn CY)) (F : Fu K "cover" "Yard.cover" (s_yard 17) f fd) : FnOk P w K mg base CX0 3 f fd ["self", "writer"] (spCover CY CB CJ) := by
  have sc : FnScope ["self", "writer", "layer"] ["self", "writer"] (defScope (s_yard 17)) := ⟨rfl, rfl, rfl, by decide +kernel, rfl, by decide +kernel, by decide +kernel⟩
  obtain ⟨f2, d2, G2, M2, b2⟩ := m1
  obtain ⟨f3, d3, G3, M3, b3⟩ := m3
  obtain ⟨f4, d4, G4, M4, b4⟩ := m4
  obtain ⟨f5, d5, G5, M5, b5⟩ := m5
  obtain ⟨pu, gu, fu, Gu, Pu, bu⟩ := GB.bars
  refine F.ok sc (fun vs H Q E h => ?_) (fun cdv A outer s H vs Q E hr h => ?_)
  · obtain ⟨y, _, _, _, _, _, _, _, _, _, rfl, _⟩ := h
    rfl
  · obtain ⟨y, bk, dn, n, A, S, D, τ, B, u, rfl, Y, hB, G, hw, q⟩ := h
    have hu := hu_of hr
    have hr1 : Room 1 _ := hr.mono (by decide)
    obtain ⟨⟨dx, h1⟩, R, b0⟩ := id Y
    have BS := G.ba
    obtain ⟨db, fs, hb⟩ := hB.ins
    refine ⟨_, pss_cons (ps_expr (pe_meth (pv 0) TY.cl M2 G2 hr b2 .nil pass0 (pa_cons (pv 1) pa_nil)))
      (pss_cons (ps_set (i := 2) sc.nd rfl (.inl rfl) (pe_meth (pv 0) TY.cl M3 G3 hr1 b3 .nil pass0 (pa_cons (pv 1) pa_nil)))
      (pss_cons (ps_if (PW.pt (pw_and (pt_cmpR op_in_seq pe_str (pe_prop (pe_fld (pv 0) rfl) TB.cl Pu Gu hr bu .nil pass0 rfl) rfl) (pw_and1 (pt_cmpR op_in_seq (pv 2) (pe_meth0 (pv 0) TY.cl M4 G4 hr1 b4 .nil pass0) rfl)))) (pss_one ps_never) pss_nil)
      (pss_cons (ps_dput hu (pe_fld (pv 0) rfl) (pv 2) (pe_dget hu (pe_fld (pv 0) rfl) (pv 1) (fun _ _ => rfl)) rfl)
      (pss_cons (ps_dput hu (pe_fld (pv 0) rfl) (pv 1) (pe_meth (pv 0) TY.cl M5 G5 hr1 b5 .nil pass0 (pa_cons (pv 2) pa_nil)) rfl)
      (pss_one (ps_ret (pe_dget hu (pe_fld (pv 0) rfl) (pv 1) (fun _ _ => rfl)))))))), ?_⟩
    have hwm := mem_rng.mpr hw
    have hso : S.se u ∈ S.ok := by rw [G.ok]; exact mem_rng.mpr (BS.sr u hw.1 hw.2)
    refine ⟨_, rfl, y, dx, _, rfl, h1, by kernel_rfl, _, rfl, y, dx, bk, n, S.bg, A, u, _, _, rfl, h1, .inl R.hs, hwm, ?_⟩
    refine ⟨_, rfl, y, dx, _, rfl, h1, by kernel_rfl, _, rfl, y, dx, bk, n, S.bg, A, u, S.se, rng S.nw, _, S.ok, rfl, h1, R.hs, R.ho, hwm, hso, ?_⟩
    refine ⟨_, rfl, y, CY, dx, _, _, rfl, h1, TY.cl, TY.book, yf_book .., bk, db, fs, rfl, hb, bk, B, rfl, hB, fun tb htb => ⟨tb, _, rfl, .inr (SqT.of htb), rfl, flat_strs _, _, rfl, ?_⟩⟩
    cases hcb : (B.bars.any fun k => decide (k = "cover"))
    case' false =>
      rw [inV_strs, hcb]
      refine iteF (iteF ?_)
      have s1 := Same.refl H
    case' true =>
      rw [inV_strs, hcb]
      refine iteT ⟨_, rfl, _, rfl, y, dx, _, rfl, h1, by kernel_rfl, y, dx, bk, n, S.bg, A, S, kindS dn, rfl, h1, R.hj, by rw [G.jk]; decide, fun i hi => (by rw [G.jk] at hi; cases hi), fun p H1 s1 hp hl => ⟨p, _, rfl, .inl (SqL.of hl), rfl, flat_ints (fun i => (S.jo i).up) _, _, rfl, ?_⟩⟩
      rw [inV_ints, G.jk]
      refine iteF ?_
    all_goals
      have Y1 := Y.same s1
      obtain ⟨⟨dx1, g1⟩, R1, _⟩ := id Y1
      have ld : D.dk.length ≤ 1000 := Nat.le_trans (nodup_le G.dn G.dr) (Nat.le_trans BS.m14 (by decide))
      obtain ⟨dd, H2, p2, Y2, k2⟩ := Y1.due1 (k := S.se u) (R1.hcd _ hwm) ld
      obtain ⟨⟨dx2, g2⟩, R2, _⟩ := id Y2
      refine ⟨_, rfl, y, CY, dx1, _, _, rfl, g1, TY.cl, TY.contents, yf_contents .., _, rfl, A.c, _, rfl, dI_get R1.hc hwm, ?_⟩
      refine ⟨_, rfl, y, CY, dx1, _, _, rfl, g1, TY.cl, TY.dues, yf_dues .., _, rfl, A.d, H2, rfl, p2, ?_⟩
      refine ⟨_, rfl, y, dx2, _, rfl, g2, by kernel_rfl, _, rfl, y, dx2, bk, n, S.bg, { A with dd := dd }, S.se u, S, rfl, g2, R2.hb, R2.ho, tag_ne R.tb R.to (by decide), fun k hk => (BS.oi k hk).2, Nat.le_trans BS.m14 (by decide), Nat.le_trans (ok_len BS) (by decide), fun q0 hq0 => ?_⟩
      have bkn : H2 bk ≠ none := fun z => by
        obtain ⟨d0, f0, z2⟩ := (hB.same s1).ins
        rw [k2 _ _ z2 fun z => (z b0).elim] at z
        cases z
      obtain ⟨Y3, k3, w3⟩ := Y2.put bkn BS.oi hq0 (x := S.se u) (nw := S.nw) (se := fupd S.se u S.m) (co := S.co) (cd := A.cd) R2.hcd
      have bs : A.b ≠ A.s := tag_ne R.tb R.ts (by decide)
      have os : A.o ≠ A.s := tag_ne R.to R.ts (by decide)
      have bc : A.b ≠ A.c := tag_ne R.tb R.tc (by decide)
      have oc : A.o ≠ A.c := tag_ne R.to R.tc (by decide)
      have scn : A.s ≠ A.c := tag_ne R.ts R.tc (by decide)
      have nyb : y ≠ A.b := tag_ne R.tp R.tb (by decide)
      have nyo : y ≠ A.o := tag_ne R.tp R.to (by decide)
      have nys : y ≠ A.s := tag_ne R.tp R.ts (by decide)
      have nqs : A.s ≠ q0 := ne_of_none R2.hs hq0
      have nqy : y ≠ q0 := ne_of_none g2 hq0
      generalize hHP : upd (upd (upd H2 A.b _) q0 (.dK [])) A.o _ = HP at Y3 k3 ⊢
      have p1 : HP A.s = some (.dK (dI (fun x => .int (S.se x)) (rng S.nw))) := by rw [← hHP, upd_ne os.symm, upd_ne nqs, upd_ne bs.symm]; exact R2.hs
      have p3 : HP A.c = some (.dK (dI (fun x => .ref (A.cd x)) (rng S.nw))) := by rw [← hHP, upd_ne oc.symm, upd_ne (ne_of_none R2.hc hq0), upd_ne bc.symm]; exact R2.hc
      have p4 : HP y = some (.ins CY dx2 (yfs bk n { A with dd := dd } S.bg)) := by rw [← hHP, upd_ne nyo, upd_ne nqy, upd_ne nyb]; exact g2
      have p5 := dI_setOld p1 hwm (by rw [rng_length]; exact Nat.le_trans BS.w14 (by decide)) (.int S.m)
      rw [← fupd_map V.int] at p5
      refine ⟨_, rfl, y, CY, dx2, _, _, rfl, p4, TY.cl, TY.seats, yf_seats .., _, rfl, A.s, _, rfl, p5, ?_⟩
      have eC : (upd HP A.s (.dK (dI (fun x => .int (fupd S.se u S.m x)) (rng S.nw)))) A.c = some (.dK (dI (fun x => .ref (A.cd x)) (rng S.nw))) := by rw [upd_ne scn.symm]; exact p3
      have eS := upd_id eC
      have Y3 : YA CY CJ dn bk n (upd (upd HP A.s (.dK (dI (fun x => .int (fupd S.se u S.m x)) (rng S.nw)))) A.c (.dK (dI (fun x => .ref (A.cd x)) (rng S.nw)))) y { A with od := fupd A.od S.m q0, dd := dd } (coverS S u) (coverD S D u) (tg τ q0 (10 + 2 * S.m)) := Y3
      have k3 : Kp τ H2 (upd (upd HP A.s (.dK (dI (fun x => .int (fupd S.se u S.m x)) (rng S.nw)))) A.c (.dK (dI (fun x => .ref (A.cd x)) (rng S.nw)))) := k3
      rw [eS] at Y3 k3
      have k02 : Kp τ H H2 := Kp.trans (Kp.of_same s1) (Gw.refl τ H) k2
      have ym : (fupd (fun x => V.int (S.se x)) u (.int S.m)) u = V.int S.m := fupd_same
      refine ⟨_, rfl, y, CY, dx2, _, _, rfl, by rw [upd_ne nys]; exact p4, TY.cl, TY.seats, yf_seats .., _, rfl, A.s, V.int S.m, rfl, ?_, ?_⟩
      · have z := dI_get (k := u) (H := upd HP A.s (.dK (dI (fun x => .int (fupd S.se u S.m x)) (rng S.nw)))) (a := A.s) upd_same hwm
        rw [fupd_same] at z
        exact z
      · exact q _ _ _ _ Y3 (Kp.trans k02 (Gw.refl τ H) k3) fun a ha => (w3 a ha).imp (fun z => z) fun z => by
          cases e : H a with
          | none => rfl
          | some o =>
            by_cases ta : τ a = 0
            · rw [k02 a o e fun z => (z ta).elim] at z
              cases z
            · exact (R2.live a ta z).elim
theorem open_no {S : Vs} {x : Int} (h : ∀ w : Int, 0 ≤ w → w < S.nw → S.se w ≠ x) : isOpen S x = false := by
  unfold isOpen
  rw [List.any_eq_false]
  intro w hw
  have := mem_rng.mp hw
  simpa using h w this.1 this.2
theorem open_iff {S : Vs} {x : Int} : isOpen S x = false ↔ ∀ w : Int, 0 ≤ w → w < S.nw → S.se w ≠ x := by
  refine ⟨fun h w h0 h1 e => ?_, open_no⟩
  unfold isOpen at h
  rw [List.any_eq_false] at h
  exact h w (mem_rng.mpr ⟨h0, h1⟩) (decide_eq_true e)
def spBranch (CY CB CJ : Addr) : Sp := fun vs H Q _ => ∃ (y bk : Addr) (dn : Bool) (n : Nat) (A : Ad) (S : Vs) (D : Du) (τ : Addr → Int) (B : BookR) (x : Int), vs = [.ref y, .int x] ∧ YA CY CJ dn bk n H y A S D τ ∧ BookAt CB H bk B ∧ Grow n S D ∧ x ∈ S.ok ∧ isOpen S x = false ∧
  ∀ od cd H' τ', YA CY CJ dn bk n H' y { A with od := od, cd := cd } (branchS S D x) D τ' → Kp τ H H' → Gw τ τ' H → Q (.int S.nw) H'
theorem ok_branch (Bt : Blt mg) (TB : BookC K CB) (TY : YardC K CY) (GB : BookP P w K mg base CB) (m1 : Md P w K mg base CY "need_layer" 2 ["self", "layer"] (spNeedL CY)) (m2 : Md P w K mg base CY "is_open" 1 ["self", "layer"] (spIsOpen CY))
    (m3 : Md P w K mg base CY "lowers" 1 ["self"] (spLayers CY CJ Jb.lo)) (m4 : Md P w K mg base CY "uppers" 1 ["self"] (spLayers CY CJ Jb.up)) (m5 : Md P w K mg base CY "put_on" 1 ["self", "layer"] (spPutOn CY)) (F : Fu K "branch" "Yard.branch" (s_yard 18) f fd) : FnOk P w K mg base CX0 3 f fd ["self", "layer"] (spBranch CY CB CJ) := by
  have sc : FnScope ["self", "layer", "writer"] ["self", "layer"] (defScope (s_yard 18)) := ⟨rfl, rfl, rfl, by decide +kernel, rfl, by decide +kernel, by decide +kernel⟩
  obtain ⟨f2, d2, G2, M2, b2⟩ := m1
  obtain ⟨f1, d1, G1, M1, b1⟩ := m2
  obtain ⟨f3, d3, G3, M3, b3⟩ := m3
  obtain ⟨f4, d4, G4, M4, b4⟩ := m4
  obtain ⟨f5, d5, G5, M5, b5⟩ := m5
  obtain ⟨pu, gu, fu, Gu, Pu, bu⟩ := GB.bars
  refine F.ok sc (fun vs H Q E h => ?_) (fun cdv A outer s H vs Q E hr h => ?_)
  · obtain ⟨y, _, _, _, _, _, _, _, _, _, rfl, _⟩ := h
    rfl
  · obtain ⟨y, bk, dn, n, A, S, D, τ, B, x, rfl, Y, hB, G, hx, hop, q⟩ := h
    have hu := hu_of hr
    have hr1 : Room 1 _ := hr.mono (by decide)
    obtain ⟨⟨dx, h1⟩, R, b0⟩ := id Y
    have BS := G.ba
    have hcl := open_iff.mp hop
    have hxd := G.cl x hx hcl
    refine ⟨_, pss_cons (ps_expr (pe_meth (pv 0) TY.cl M2 G2 hr b2 .nil pass0 (pa_cons (pv 1) pa_nil)))
      (pss_cons (ps_if (pt_val (pe_meth (pv 0) TY.cl M1 G1 hr1 b1 .nil pass0 (pa_cons (pv 1) pa_nil))) (pss_one ps_never) pss_nil)
      (pss_cons (ps_if (PW.pt (pw_and (pt_cmpR op_in_seq pe_str (pe_prop (pe_fld (pv 0) rfl) TB.cl Pu Gu hr bu .nil pass0 rfl) rfl) (pw_and1 (pt_cmpR op_in_seq (pv 1) (pe_meth0 (pv 0) TY.cl M3 G3 hr1 b3 .nil pass0) rfl)))) (pss_one ps_never) pss_nil)
      (pss_cons (ps_if (PW.pt (pw_and (pt_cmpR op_in_seq pe_str (pe_prop (pe_fld (pv 0) rfl) TB.cl Pu Gu hr bu .nil pass0 rfl) rfl) (pw_and1 (pt_cmpR op_in_seq (pv 1) (pe_meth0 (pv 0) TY.cl M4 G4 hr1 b4 .nil pass0) rfl)))) (pss_one ps_never) pss_nil)
      (pss_cons (ps_set (i := 2) sc.nd rfl (.inl rfl) (pe_callB call_lenD (by rfl) Bt.len PySem.boot_len (pa_cons (pe_fld (pv 0) rfl) pa_nil)))
      (pss_cons (ps_dput hu (pe_fld (pv 0) rfl) (pv 2) (pe_meth (pv 0) TY.cl M5 G5 hr1 b5 .nil pass0 (pa_cons (pv 1) pa_nil)) rfl)
      (pss_cons (ps_dput hu (pe_fld (pv 0) rfl) (pv 2) (pe_dget hu (pe_fld (pv 0) rfl) (pv 1) (fun _ _ => rfl)) rfl)
      (pss_one (ps_ret (pv 2))))))))), ?_⟩
    refine ⟨_, rfl, y, dx, _, rfl, h1, by kernel_rfl, _, rfl, y, dx, bk, n, S.bg, A, x, _, _, rfl, h1, R.ho, hx, ?_⟩
    refine ⟨_, rfl, y, dx, _, rfl, h1, by kernel_rfl, _, rfl, y, dx, bk, n, S.bg, A, x, S, rfl, h1, R.hs, fun H0 s0 => ⟨_, rfl, ?_⟩⟩
    rw [hop]
    obtain ⟨db, fs, hb⟩ := (hB.same s0).ins
    refine iteF ⟨_, rfl, y, CY, dx, _, _, rfl, s0 _ _ h1, TY.cl, TY.book, yf_book .., bk, db, fs, rfl, hb, bk, B, rfl, hB.same s0, fun tb htb => ⟨tb, _, rfl, .inr (SqT.of htb), rfl, flat_strs _, _, rfl, ?_⟩⟩
    rw [inV_strs]
    cases hcb : (B.bars.any fun k => decide (k = "lower"))
    case' false =>
      refine iteF (iteF ?_)
      have s1 := s0
    case' true =>
      refine iteT ⟨_, rfl, _, rfl, y, dx, _, rfl, s0 _ _ h1, by kernel_rfl, y, dx, bk, n, S.bg, A, S, kindS dn, rfl, s0 _ _ h1, s0 _ _ R.hj, by rw [G.jk]; decide, fun i hi => (by rw [G.jk] at hi; cases hi), fun p H1 s1' hp hl => ⟨p, _, rfl, .inl (SqL.of hl), rfl, flat_ints (fun i => (S.jo i).lo) _, _, rfl, ?_⟩⟩
      rw [inV_ints, G.jk]
      refine iteF ?_
      have s1 := Same.trans s0 s1'
    all_goals
      obtain ⟨db1, fs1, hb1⟩ := (hB.same s1).ins
      refine ⟨_, rfl, y, CY, dx, _, _, rfl, s1 _ _ h1, TY.cl, TY.book, yf_book .., bk, db1, fs1, rfl, hb1, bk, B, rfl, hB.same s1, fun tb htb => ⟨tb, _, rfl, .inr (SqT.of htb), rfl, flat_strs _, _, rfl, ?_⟩⟩
      rw [inV_strs]
      cases hcu : (B.bars.any fun k => decide (k = "upper"))
      case' false =>
        refine iteF (iteF ?_)
        have s2 := s1
      case' true =>
        refine iteT ⟨_, rfl, _, rfl, y, dx, _, rfl, s1 _ _ h1, by kernel_rfl, y, dx, bk, n, S.bg, A, S, kindS dn, rfl, s1 _ _ h1, s1 _ _ R.hj, by rw [G.jk]; decide, fun i hi => (by rw [G.jk] at hi; cases hi), fun p H1 s1' hp hl => ⟨p, _, rfl, .inl (SqL.of hl), rfl, flat_ints (fun i => (S.jo i).up) _, _, rfl, ?_⟩⟩
        rw [inV_ints, G.jk]
        refine iteF ?_
        have s2 := Same.trans s1 s1'
    all_goals
      have Y2 := Y.same s2
      obtain ⟨⟨dx2, g2⟩, R2, _⟩ := id Y2
      refine ⟨_, rfl, y, CY, dx2, _, _, rfl, g2, TY.cl, TY.seats, yf_seats .., A.s, _, rfl, R2.hs, ?_⟩
      rw [dI_length, rng_length]
      refine ⟨_, rfl, y, dx2, _, rfl, g2, by kernel_rfl, _, rfl, y, dx2, bk, n, S.bg, A, x, S, rfl, g2, R2.hb, R2.ho, tag_ne R.tb R.to (by decide), fun k hk => (BS.oi k hk).2, Nat.le_trans BS.m14 (by decide), Nat.le_trans (ok_len BS) (by decide), fun q0 hq0 => ?_⟩
      have bkn : ∀ {H2 : Hp}, Same H H2 → H2 bk ≠ none := fun s z => by
        obtain ⟨d0, f0, z2⟩ := (hB.same s).ins
        rw [z2] at z
        cases z
      have cdm : ∀ z ∈ rng (S.nw + 1), fupd A.cd S.nw (A.dd x) z = (if z = S.nw then A.dd x else A.cd z) := fun z _ => rfl
      obtain ⟨Y3, k3, w3⟩ := Y2.put (bkn s2) BS.oi hq0 (x := x) (nw := S.nw + 1) (se := fupd S.se S.nw S.m) (co := fupd S.co S.nw (D.du x)) (cd := fupd A.cd S.nw (A.dd x)) (fun z hz => by
        by_cases e : z = S.nw
        · subst e
          rw [fupd_same, fupd_same]
          exact R2.hdd x hxd
        · rw [fupd_ne e, fupd_ne e]
          refine R2.hcd z (mem_rng.mpr ?_)
          have := mem_rng.mp hz
          omega)
      have bs : A.b ≠ A.s := tag_ne R.tb R.ts (by decide)
      have os : A.o ≠ A.s := tag_ne R.to R.ts (by decide)
      have bc : A.b ≠ A.c := tag_ne R.tb R.tc (by decide)
      have oc : A.o ≠ A.c := tag_ne R.to R.tc (by decide)
      have scn : A.s ≠ A.c := tag_ne R.ts R.tc (by decide)
      have dbn : A.d ≠ A.b := tag_ne R.td R.tb (by decide)
      have don : A.d ≠ A.o := tag_ne R.td R.to (by decide)
      have dsn : A.d ≠ A.s := tag_ne R.td R.ts (by decide)
      have nyb : y ≠ A.b := tag_ne R.tp R.tb (by decide)
      have nyo : y ≠ A.o := tag_ne R.tp R.to (by decide)
      have nys : y ≠ A.s := tag_ne R.tp R.ts (by decide)
      have nqs : A.s ≠ q0 := ne_of_none R2.hs hq0
      have nqy : y ≠ q0 := ne_of_none g2 hq0
      generalize hHP : upd (upd (upd _ A.b _) q0 (.dK [])) A.o _ = HP at Y3 k3 ⊢
      have p1 : HP A.s = some (.dK (dI (fun x => .int (S.se x)) (rng S.nw))) := by rw [← hHP, upd_ne os.symm, upd_ne nqs, upd_ne bs.symm]; exact R2.hs
      have p3 : HP A.c = some (.dK (dI (fun x => .ref (A.cd x)) (rng S.nw))) := by rw [← hHP, upd_ne oc.symm, upd_ne (ne_of_none R2.hc hq0), upd_ne bc.symm]; exact R2.hc
      have p4 : HP y = some (.ins CY dx2 (yfs bk n A S.bg)) := by rw [← hHP, upd_ne nyo, upd_ne nqy, upd_ne nyb]; exact g2
      have p6 : HP A.d = some (.dK (dI (fun x => .ref (A.dd x)) D.dk)) := by rw [← hHP, upd_ne don, upd_ne (ne_of_none R2.hd hq0), upd_ne dbn]; exact R2.hd
      have nin : (S.nw : Int) ∉ rng S.nw := fun z => by have := mem_rng.mp z; omega
      have lw : (rng S.nw).length ≤ 1000 := by rw [rng_length]; exact Nat.le_trans BS.w14 (by decide)
      have p5 := dI_setNew p1 nin lw (.int S.m)
      rw [← fupd_map V.int, ← rng_succ] at p5
      refine ⟨_, rfl, y, CY, dx2, _, _, rfl, p4, TY.cl, TY.seats, yf_seats .., _, rfl, A.s, _, rfl, p5, ?_⟩
      have p7 : (upd HP A.s (.dK (dI (fun x => .int (fupd S.se S.nw S.m x)) (rng (S.nw + 1))))) A.c = some (.dK (dI (fun x => .ref (A.cd x)) (rng S.nw))) := by rw [upd_ne scn.symm]; exact p3
      have p8 := dI_setNew p7 nin lw (.ref (A.dd x))
      rw [← fupd_map V.ref, ← rng_succ] at p8
      refine ⟨_, rfl, y, CY, dx2, _, _, rfl, by rw [upd_ne nys]; exact p4, TY.cl, TY.dues, yf_dues .., _, rfl, A.d, _, rfl, dI_get (by rw [upd_ne dsn]; exact p6) hxd, ?_⟩
      refine ⟨_, rfl, y, CY, dx2, _, _, rfl, by rw [upd_ne nys]; exact p4, TY.cl, TY.contents, yf_contents .., _, rfl, A.c, _, rfl, p8, ?_⟩
      refine ⟨_, rfl, q _ _ _ _ Y3 (Kp.trans (Kp.of_same s2) (Gw.refl τ H) k3) fun a ha => (w3 a ha).imp (fun z => z) fun z => ?_⟩
      exact Same.free s2 z
end
end K20W
end
/-! W14 -/
section
set_option Elab.async false
set_option linter.all false
set_option maxRecDepth 100000
set_option maxHeartbeats 4000000
/-! kinds, words; begin. -/
namespace K20W
open PySem L2 K20
/-- a tuple of the module -/
def Gt (K : PySem.W.Frag) (mg : Str → Option Value) (x : Str) (xs : List V) : Prop := ∃ a, mg x = some (.ref a) ∧ ∀ H, SqT K H a xs
section
variable {P : Program} {w : World} {K : PySem.W.Frag} {mg : Str → Option Value} {base : Heap} {f CY CB CJ : Addr} {fd : FuncData}
def spKind : Sp := fun vs H Q _ => ∃ dn : Bool, vs = [.str (kindS dn)] ∧ Q (.bl true) H
theorem ok_iskind (B : Blt mg) (g : Gt K mg "KINDS" [.str "down", .str "up"]) (F : Fu K "is_kind" "is_kind" s_is_kind f fd) : FnOk P w K mg base CX0 1 f fd ["thing"] spKind := by
  have sc : FnScope ["thing"] ["thing"] (defScope s_is_kind) := ⟨rfl, rfl, rfl, by decide +kernel, rfl, by decide +kernel, by decide +kernel⟩
  obtain ⟨ka, km, kt⟩ := g
  refine F.ok sc (fun vs H Q E h => ?_) (fun cdv A outer s H vs Q E hr h => ?_)
  · obtain ⟨dn, rfl, _⟩ := h
    rfl
  · obtain ⟨dn, rfl, q⟩ := h
    refine ⟨_, pss_one (ps_ret (pe_and (pe_callB call_isi rfl B.isinstance boot_isinstance (pa_cons (pv 0) (pa_cons (pe_bltn rfl B.str PyProof.Rows.boot_str (v := .ty "str") rfl) pa_nil)))
      (pe_one (pe_cmpR op_in_seq (pv 0) (pe_glob (v := .ref ka) rfl km rfl) rfl)))), ?_⟩
    refine ⟨_, rfl, .str (kindS dn), .ty "str", .type "str", .type "str", true, rfl, .ty _, .base (.str _), kit_ty (by decide +kernel), true, rfl, ?_⟩
    refine iteT ⟨_, rfl, ka, _, rfl, .inr (kt H), rfl, rfl, ?_⟩
    have : inV (.str (kindS dn)) [.str "down", .str "up"] = true := by cases dn <;> decide +kernel
    rw [this]
    exact q
def spNeedKind : Sp := fun vs H Q _ => ∃ dn : Bool, vs = [.str (kindS dn)] ∧ Q .non H
theorem ok_needkind (g1 : Gd P w K mg base "is_kind" 1 ["thing"] spKind) (F : Fu K "need_kind" "need_kind" s_need_kind f fd) : FnOk P w K mg base CX0 2 f fd ["kind"] spNeedKind := by
  have sc : FnScope ["kind"] ["kind"] (defScope s_need_kind) := ⟨rfl, rfl, rfl, by decide +kernel, rfl, by decide +kernel, by decide +kernel⟩
  obtain ⟨f1, d1, G1, e1, k1, b1⟩ := g1
  refine F.ok sc (fun vs H Q E h => ?_) (fun cdv A outer s H vs Q E hr h => ?_)
  · obtain ⟨dn, rfl, _⟩ := h
    rfl
  · obtain ⟨dn, rfl, q⟩ := h
    exact ⟨_, pss_one (ps_if (pt_not (pt_val (pe_call G1 hr rfl e1 k1 b1 .nil pass0 (pa_cons (pv 0) pa_nil)))) (pss_one ps_never) pss_nil), _, rfl, dn, rfl, true, rfl, iteF q⟩
/-- a word of a list -/
def spNeedWord : Sp := fun vs H Q _ => ∃ (x z : Str) (t : Addr) (xs : List V), vs = [.str x, .str z, .ref t] ∧ SqT K H t xs ∧ xs.all flatV = true ∧ inV (.str z) xs = true ∧ Q .non H
theorem ok_needword (B : Blt mg) (F : Fu K "need_word" "need_word" s_need_word f fd) : FnOk P w K mg base CX0 1 f fd ["field", "word", "words"] (spNeedWord (K := K)) := by
  have sc : FnScope ["field", "word", "words"] ["field", "word", "words"] (defScope s_need_word) := ⟨rfl, rfl, rfl, by decide +kernel, rfl, by decide +kernel, by decide +kernel⟩
  refine F.ok sc (fun vs H Q E h => ?_) (fun cdv A outer s H vs Q E hr h => ?_)
  · obtain ⟨x, z, t, xs, rfl, _⟩ := h
    rfl
  · obtain ⟨x, z, t, xs, rfl, h1, h2, h3, q⟩ := h
    refine ⟨_, pss_one (ps_if (PW.pt (pw_or (pt_not (pt_val (pe_callB call_isi rfl B.isinstance boot_isinstance (pa_cons (pv 1) (pa_cons (pe_bltn rfl B.str PyProof.Rows.boot_str (v := .ty "str") rfl) pa_nil))))) (pw_or1 (pt_cmpR op_notIn_seq (pv 1) (pv 2) rfl)))) (pss_one ps_never) pss_nil), ?_⟩
    refine ⟨_, rfl, .str z, .ty "str", .type "str", .type "str", true, rfl, .ty _, .base (.str _), kit_ty (by decide +kernel), true, rfl, ?_⟩
    refine iteF ⟨_, rfl, _, rfl, t, xs, rfl, .inr h1, rfl, h2, _, rfl, ?_⟩
    rw [h3]
    exact iteF q
end
section
variable {J : JP} {H : Hp} {A : Ad} {S : Vs} {D : Du} {τ τ' : Addr → Int} {p : Addr}
theorem Rep.bg (R : Rep J H A S D τ p) (b : Nat) : Rep J H A { S with bg := b } D τ p :=
  ⟨R.hb, R.ho, R.hd, R.hs, R.hc, R.hj, R.hod, R.hdd, R.hcd, R.hjd, R.tp, R.tb, R.to, R.td, R.ts, R.tc, R.tj, R.tod, R.tjd, R.live⟩
/-- more tags -/
theorem Rep.tags2 (hJ : Stays J) (R : Rep J H A S D τ p) (h : ∀ a, τ a ≠ 0 → τ' a = τ a) (l : Live τ' H) : Rep J H A S D τ' p := by
  have e : ∀ {a : Addr} {t : Int}, τ a = t → t ≠ 0 → τ' a = t := fun z n => (h _ (by rw [z]; exact n)).trans z
  exact ⟨R.hb, R.ho, R.hd, R.hs, R.hc, R.hj, R.hod, R.hdd, R.hcd, fun i hi => hJ H H τ τ' _ _ (R.hjd i hi) (fun _ _ z _ => z) fun b _ z => e z (by decide),
    e R.tp (by decide), e R.tb (by decide), e R.to (by decide), e R.td (by decide), e R.ts (by decide), e R.tc (by decide), e R.tj (by decide),
    fun x hx => ⟨e (R.tod x hx).1 (by have := R.tod x hx; omega), (R.tod x hx).2⟩, fun i hi => ⟨e (R.tjd i hi).1 (by have := R.tjd i hi; omega), (R.tjd i hi).2⟩, l⟩
end
section
variable {P : Program} {w : World} {K : PySem.W.Frag} {mg : Str → Option Value} {base : Heap} {f CY CB CJ : Addr} {fd : FuncData}
/-- may a job of the kind dn begin on x (its base l)? -/
def free2 (S : Vs) (x l : Int) : Prop := ∀ i ∈ S.jk, (S.jo i).up ≠ x ∧ (S.jo i).lo ≠ x ∧ (S.jo i).up ≠ l ∧ (S.jo i).lo ≠ l
def notAlone (S : Vs) (x l : Int) : Bool := !((above S l).filter fun y => decide (y ≠ x)).isEmpty
def barred (B : BookR) (dn : Bool) (S : Vs) (x l : Int) : Bool := dn && ((B.bars.any fun k => decide (k = "open")) && isOpen S x || (B.bars.any fun k => decide (k = "others")) && notAlone S x l)
def spBegin (CY CB CJ : Addr) : Sp := fun vs H Q _ => ∃ (y bk : Addr) (dn : Bool) (n : Nat) (A : Ad) (S : Vs) (D : Du) (τ : Addr → Int) (B : BookR) (x l : Int), vs = [.ref y, .str (kindS dn), .int x] ∧ YA CY CJ dn bk n H y A S D τ ∧ BookAt CB H bk B ∧ Base n S ∧ x ∈ S.ok ∧ S.bs x = some l ∧ l ∈ S.ok ∧ free2 S x l ∧ barred B dn S x l = false ∧
  ∀ jd H' τ', YA CY CJ dn bk n H' y { A with jd := jd } (beginS S x l) D τ' → Kp τ H H' → Gw τ τ' H → Q (.int S.bg) H'
theorem ok_begin (Bt : Blt mg) (TB : BookC K CB) (TY : YardC K CY) (TJ : JobC K CJ) (gJ : mg "Job" = some (.ref CJ)) (GB : BookP P w K mg base CB) (g1 : Gd P w K mg base "need_kind" 2 ["kind"] spNeedKind) (I : Id P w K mg base CJ 1 ["self", "kind", "upper", "lower"] (spJobInit CJ))
    (m1 : Md P w K mg base CY "need_layer" 2 ["self", "layer"] (spNeedL CY)) (m2 : Md P w K mg base CY "is_open" 1 ["self", "layer"] (spIsOpen CY))
    (m3 : Md P w K mg base CY "lowers" 1 ["self"] (spLayers CY CJ Jb.lo)) (m4 : Md P w K mg base CY "uppers" 1 ["self"] (spLayers CY CJ Jb.up)) (m5 : Md P w K mg base CY "above" 1 ["self", "layer"] (spAbove CY)) (F : Fu K "begin" "Yard.begin" (s_yard 19) f fd) : FnOk P w K mg base CX0 3 f fd ["self", "kind", "layer"] (spBegin CY CB CJ) := by
  have sc : FnScope ["self", "kind", "layer", "lower", "busy", "others", "job", "one"] ["self", "kind", "layer"] (defScope (s_yard 19)) := ⟨rfl, rfl, rfl, by decide +kernel, rfl, by decide +kernel, by decide +kernel⟩
  obtain ⟨f0, d0, G0, e0, k0, b0⟩ := g1
  obtain ⟨f2, d2, G2, M2, b2⟩ := m1
  obtain ⟨f1, d1, G1, M1, b1⟩ := m2
  obtain ⟨f3, d3, G3, M3, b3⟩ := m3
  obtain ⟨f4, d4, G4, M4, b4⟩ := m4
  obtain ⟨f5, d5, G5, M5, b5⟩ := m5
  obtain ⟨fi, di, Gi, Mi, bi⟩ := I
  obtain ⟨pu, gu, fu, Gu, Pu, bu⟩ := GB.bars
  refine F.ok sc (fun vs H Q E h => ?_) (fun cdv A outer s H vs Q E hr h => ?_)
  · obtain ⟨y, _, _, _, _, _, _, _, _, _, _, rfl, _⟩ := h
    rfl
  · obtain ⟨y, bk, dn, n, A, S, D, τ, B, x, l, rfl, Y, hB, BS, hx, hb, hl, hfr, hba, q⟩ := h
    have hu := hu_of hr
    have hr1 : Room 1 _ := hr.mono (by decide)
    obtain ⟨⟨dx, h1⟩, R, t0⟩ := id Y
    refine ⟨_, PSs.nox (pss_cons (ps_expr (pe_call G0 hr rfl e0 k0 b0 .nil pass0 (pa_cons (pv 1) pa_nil)))
      (pss_cons (ps_expr (pe_meth (pv 0) TY.cl M2 G2 hr b2 .nil pass0 (pa_cons (pv 2) pa_nil)))
      (pss_cons (ps_set (i := 3) sc.nd rfl (.inl rfl) (pe_dget hu (pe_fld (pv 0) rfl) (pv 2) (fun _ _ => rfl)))
      (pss_cons (ps_if (PW.pt (pw_or (pt_cmp (pc_isN (pv 3))) (pw_or1 (pt_cmp (pc_dnotin hu (pv 3) (pe_fld (pv 0) rfl)))))) (pss_one ps_never) pss_nil)
      (pss_cons (ps_setLc (i := 4) (own := [("one", 7)]) (g := gName 7) (tt := tOr (tTest (tOp (rIn K false) (tVar 7) (tMeth CY "uppers" (spLayers CY CJ Jb.up) [] E0 (tVar 0) tNil))) (tTest (tOp (rIn K false) (tVar 7) (tMeth CY "lowers" (spLayers CY CJ Jb.lo) [] E0 (tVar 0) tNil)))) (te := tVar 7) (by rfl) sc.nd rfl rfl (sw_true rfl rfl rfl (by decide +kernel)) (pi_list (pe_callB cr_sorted (by rfl) Bt.sorted boot_sorted (pa_cons (pe_lst (pa_cons (pv 2) (pa_cons (pv 3) pa_nil))) pa_nil)))
          (blkOk_by (own := [("one", 7)]) (N := ["self", "kind", "layer", "lower", "busy", "others", "job", "one"]) (sc := defScope (s_yard 19)) (by decide +kernel))
          (fun _ _ _ _ _ => pg_name (i := 7) sc.nd rfl (Or.inl rfl)) (fun _ _ _ _ _ => pts_one (PW.pt (pw_or (pt_cmpR op_in_seq (pv 7) (pe_meth0 (pv 0) TY.cl M4 G4 hr1 b4 .nil pass0) rfl) (pw_or1 (pt_cmpR op_in_seq (pv 7) (pe_meth0 (pv 0) TY.cl M3 G3 hr1 b3 .nil pass0) rfl))))) (fun _ _ _ _ _ => pv 7))
      (pss_cons (ps_if (pt_cmpR op_gt (pe_callB call_len (by rfl) Bt.len PySem.boot_len (pa_cons (pv 4) pa_nil)) pe_int (nomark _)) (pss_one ps_never) pss_nil)
      (pss_cons (ps_setLc (i := 5) (own := [("one", 7)]) (g := gName 7) (tt := tTest (tOp rNe (tVar 7) (tVar 2))) (te := tVar 7) (by rfl) sc.nd rfl rfl (sw_true rfl rfl rfl (by decide +kernel)) (pi_list (pe_meth (pv 0) TY.cl M5 G5 hr1 b5 .nil pass0 (pa_cons (pv 3) pa_nil)))
          (blkOk_by (own := [("one", 7)]) (N := ["self", "kind", "layer", "lower", "busy", "others", "job", "one"]) (sc := defScope (s_yard 19)) (by decide +kernel))
          (fun _ _ _ _ _ => pg_name (i := 7) sc.nd rfl (Or.inl rfl)) (fun _ _ _ _ _ => pts_one (pt_cmpR op_ne (pv 7) (pv 2) (nomark _))) (fun _ _ _ _ _ => pv 7))
      (pss_cons (ps_if (PW.pt (pw_and (pt_cmpR op_eq (pv 1) pe_str (nomark _)) (pw_and (pt_cmpR op_in_seq pe_str (pe_prop (pe_fld (pv 0) rfl) TB.cl Pu Gu hr bu .nil pass0 rfl) rfl) (pw_and1 (pt_val (pe_meth (pv 0) TY.cl M1 G1 hr1 b1 .nil pass0 (pa_cons (pv 2) pa_nil))))))) (pss_one ps_never) pss_nil)
      (pss_cons (ps_if (PW.pt (pw_and (pt_cmpR op_eq (pv 1) pe_str (nomark _)) (pw_and (pt_cmpR op_in_seq pe_str (pe_prop (pe_fld (pv 0) rfl) TB.cl Pu Gu hr bu .nil pass0 rfl) rfl) (pw_and1 (pt_cmpR op_gt (pe_callB call_len (by rfl) Bt.len PySem.boot_len (pa_cons (pv 5) pa_nil)) pe_int (nomark _)))))) (pss_one ps_never) pss_nil)
      (pss_cons (ps_set (i := 6) sc.nd rfl (.inl rfl) (pe_make Mi Gi hr rfl gJ bi .nil pass0 (pa_cons (pv 1) (pa_cons (pv 2) (pa_cons (pv 3) pa_nil)))))
      (pss_cons (ps_asg (pe_tup (pa_cons (pe_meth (pv 0) TY.cl M5 G5 hr1 b5 .nil pass0 (pa_cons (pv 2) pa_nil)) (pa_cons (pe_cmpR op_eq (pe_callB call_len (by rfl) Bt.len PySem.boot_len (pa_cons (pv 5) pa_nil)) pe_int (nomark _)) pa_nil))) (pg_tup rfl (pgs_cons (pg_attr (pv 6)) (pgs_cons (pg_attr (pv 6)) pgs_nil))))
      (pss_cons (ps_dput hu (pe_fld (pv 0) rfl) (pe_fld (pv 0) rfl) (pv 6) rfl)
      (pss_cons (ps_fld (pv 0) (pe_op op_add (pe_fld (pv 0) rfl) pe_int) rfl)
      (pss_one (ps_ret (pe_op op_sub (pe_fld (pv 0) rfl) pe_int)))))))))))))))), ?_⟩
    have hx0 := BS.oi x hx
    have gb : DGet H A.b (.int x) (some (.int l)) := by
      have z : DGet H A.b (.int x) (some (oV (S.bs x))) := dI_get R.hb (mem_rng.mpr hx0)
      rw [hb] at z
      exact z
    have jl : S.jk.length ≤ 1000 := Nat.le_trans (jk_len BS) (by decide)
    have upn : ∀ z, z = x ∨ z = l → (S.jk.any fun i => decide ((S.jo i).up = z)) = false := fun z hz => by
      rw [List.any_eq_false]
      intro i hi e
      have e := of_decide_eq_true e
      have := hfr i hi
      rcases hz with hz | hz
      · exact this.1 (e.trans hz)
      · exact this.2.2.1 (e.trans hz)
    have lon : ∀ z, z = x ∨ z = l → (S.jk.any fun i => decide ((S.jo i).lo = z)) = false := fun z hz => by
      rw [List.any_eq_false]
      intro i hi e
      have e := of_decide_eq_true e
      have := hfr i hi
      rcases hz with hz | hz
      · exact this.2.1 (e.trans hz)
      · exact this.2.2.2 (e.trans hz)
    have jobs : ∀ {H' : Hp}, Same H H' → ∀ i ∈ S.jk, ∃ dx ma na sv, H' (A.jd i) = some (.ins CJ dx (jfs (kindS dn) (S.jo i) ma na sv)) := fun s i hi => by
      obtain ⟨dj, ma, na, sv, hj, _⟩ := R.hjd i hi
      exact ⟨dj, ma, na, sv, s _ _ hj⟩
    refine ⟨_, rfl, dn, rfl, ?_⟩
    refine ⟨_, rfl, y, dx, _, rfl, h1, by kernel_rfl, _, rfl, y, dx, bk, n, S.bg, A, x, _, _, rfl, h1, R.ho, hx, ?_⟩
    refine ⟨_, rfl, y, CY, dx, _, _, rfl, h1, TY.cl, TY.bases, yf_bases .., _, rfl, A.b, _, rfl, gb, ?_⟩
    refine ⟨_, rfl, false, rfl, iteF ⟨_, rfl, _, rfl, y, CY, dx, _, _, rfl, h1, TY.cl, TY.owned, yf_owned .., A.o, _, rfl, dI_get R.ho hl, _, rfl, iteF ?_⟩⟩
    refine ⟨_, rfl, _, rfl, (show 2 ≤ sizeLine from by decide), fun p1 hp1 => ⟨p1, [x, l], rfl, SqL.of upd_same, (show 2 < 64 from by decide), fun ys p2 hperm hsrt hp2 => ?_⟩⟩
    have sp1 : Same H (upd H p1 (.lst [.int x, .int l])) := Same.newS (Same.refl _) hp1
    have sp2 : Same H (upd (upd H p1 (.lst [.int x, .int l])) p2 (.lst (ys.map V.int))) := Same.newS sp1 hp2
    have eys : (upd (upd H p1 (.lst [.int x, .int l])) p2 (.lst (ys.map V.int))) p2 = some (.lst (ys.map V.int)) := upd_same
    generalize upd (upd H p1 (.lst [.int x, .int l])) p2 (.lst (ys.map V.int)) = H2 at sp2 eys ⊢
    refine ⟨p2, rfl, ⟨_, SqL.of eys⟩, fun D1 hD1 => ?_⟩
    refine lc_pick (walk_list (K := K) (a := p2) (xs := ys.map V.int)) hD1 (fun _ => false) (fun v => v) ?_ (fun H3 s3 => SqL.of (s3 _ _ eys)) (fun z H3 hz s3 Q' hq => ?_) (fun z H3 hz hp _ _ _ => absurd hp (by decide)) fun H3 s3 hD3 => ?_
    · rw [List.length_map, hperm.length_eq]
      show 2 ≤ sizeLine
      decide
    · obtain ⟨z, hzm, rfl⟩ := List.mem_map.mp hz
      have hz2 : z = x ∨ z = l := by
        have := hperm.mem_iff.mp hzm
        simpa using this
      have s03 : Same H H3 := Same.trans sp2 s3
      refine ⟨_, rfl, _, rfl, y, dx, _, rfl, s03 _ _ h1, by kernel_rfl, y, dx, bk, n, S.bg, A, S, kindS dn, rfl, s03 _ _ h1, s03 _ _ R.hj, jl, jobs s03, fun p4 H4 s4 _ hl4 => ⟨p4, _, rfl, .inl (SqL.of hl4), rfl, flat_ints (fun i => (S.jo i).up) _, _, rfl, ?_⟩⟩
      rw [inV_ints, upn z hz2]
      have s04 := Same.trans s03 s4
      refine iteF ⟨_, rfl, _, rfl, y, dx, _, rfl, s04 _ _ h1, by kernel_rfl, y, dx, bk, n, S.bg, A, S, kindS dn, rfl, s04 _ _ h1, s04 _ _ R.hj, jl, jobs s04, fun p5 H5 s5 _ hl5 => ⟨p5, _, rfl, .inl (SqL.of hl5), rfl, flat_ints (fun i => (S.jo i).lo) _, _, rfl, ?_⟩⟩
      rw [inV_ints, lon z hz2]
      exact hq _ (Same.trans s4 s5)
    · have s03 : Same H H3 := fun b o hb' => s3 b o (sp2 b o hb')
      have eD : (List.map V.int ys).filter (fun _ => false) = [] := List.filter_eq_nil_iff.mpr fun _ _ => by decide
      rw [eD] at hD3
      refine ⟨_, rfl, _, _, rfl, .inl ⟨_, SqL.of hD3, rfl⟩, _, _, rfl, rfl, _, rfl, iteF ?_⟩
      refine ⟨_, rfl, y, dx, _, rfl, s03 _ _ h1, by kernel_rfl, _, rfl, y, dx, bk, n, S.bg, A, l, S, rfl, s03 _ _ h1, s03 _ _ R.hb, s03 _ _ R.ho, tag_ne R.tb R.to (by decide), BS.oi, Nat.le_trans (ok_len BS) (by decide), fun p4 H4 _ s4 hl4 => ?_⟩
      refine ⟨p4, rfl, ⟨_, SqL.of hl4⟩, fun D2 hD2 => ?_⟩
      refine lc_pick (walk_list (K := K) (a := p4) (xs := (above S l).map V.int)) hD2 (fun v => !decide (v = V.int x)) (fun v => v) ?_ (fun H5 s5 => SqL.of (s5 _ _ hl4)) (fun z H5 hz s5 Q' hq => ?_) (fun z H5 _ _ _ Q' hq => ⟨_, rfl, hq _ (Same.refl _)⟩) fun H5 s5 hD5 => ?_
      · rw [List.length_map]
        exact Nat.le_trans (List.length_filter_le _ _) (Nat.le_trans (ok_len BS) (by decide))
      · obtain ⟨z, _, rfl⟩ := List.mem_map.mp hz
        exact ⟨_, rfl, _, rfl, rfl, _, rfl, hq _ (Same.refl _)⟩
      · have el : (((above S l).map V.int).filter fun v => !decide (v = V.int x)).map (fun v => v) = ((above S l).filter fun y => decide (y ≠ x)).map V.int :=
          filt_int fun k _ => by
            rw [Bool.eq_iff_iff]
            simp
        rw [el] at hD5
        have s05 : Same H H5 := fun b o hb' => s5 b o (s4 b o (s03 b o hb'))
        have eoth : (((above S l).filter fun y => decide (y ≠ x)).map V.int).length = ((above S l).filter fun y => decide (y ≠ x)).length := List.length_map ..
        have hlen : ((above S l).filter fun y => decide (y ≠ x)).length = 0 ↔ notAlone S x l = false := by
          unfold notAlone
          cases (above S l).filter fun y => decide (y ≠ x) with
          | nil => simp
          | cons a r => simp
        have hba' : (dn && (B.bars.any fun k => decide (k = "open")) && isOpen S x) = false ∧ (dn && (B.bars.any fun k => decide (k = "others")) && notAlone S x l) = false := by
          unfold barred at hba
          cases dn
          · exact ⟨rfl, rfl⟩
          · rw [Bool.true_and, Bool.or_eq_false_iff] at hba
            rw [Bool.true_and, Bool.true_and]
            exact hba
        obtain ⟨hb1, hb2⟩ := hba'
        refine ⟨_, rfl, rfl, _, rfl, ?_⟩
        rw [kind_down]
        cases hdn : dn
        case' false =>
          refine iteF (iteF ⟨_, rfl, rfl, _, rfl, ?_⟩)
          rw [← hdn, kind_down, hdn]
          refine iteF (iteF ?_)
          have s06 := s05
          have hD6 := hD5
        case' true =>
          rw [hdn, Bool.true_and] at hb1 hb2
          obtain ⟨db, fs, hbk⟩ := (hB.same s05).ins
          refine iteT ⟨_, rfl, y, CY, dx, _, _, rfl, s05 _ _ h1, TY.cl, TY.book, yf_book .., bk, db, fs, rfl, hbk, bk, B, rfl, hB.same s05, fun tb htb => ⟨tb, _, rfl, .inr (SqT.of htb), rfl, flat_strs _, _, rfl, ?_⟩⟩
          rw [inV_strs]
          cases ho : (B.bars.any fun k => decide (k = "open"))
          case' false =>
            refine iteF (iteF ?_)
            have s05b := s05
            have hD5b := hD5
          case' true =>
            rw [ho, Bool.true_and] at hb1
            refine iteT ⟨_, rfl, y, dx, _, rfl, s05 _ _ h1, by kernel_rfl, _, rfl, y, dx, bk, n, S.bg, A, x, S, rfl, s05 _ _ h1, s05 _ _ R.hs, fun H6 s6 => ⟨_, rfl, ?_⟩⟩
            rw [hb1]
            refine iteF ?_
            have s05b := Same.trans s05 s6
            have hD5b := s6 _ _ hD5
          all_goals
            obtain ⟨db2, fs2, hbk2⟩ := (hB.same s05b).ins
            refine ⟨_, rfl, rfl, _, rfl, ?_⟩
            rw [← hdn, kind_down, hdn]
            refine iteT ⟨_, rfl, y, CY, dx, _, _, rfl, s05b _ _ h1, TY.cl, TY.book, yf_book .., bk, db2, fs2, rfl, hbk2, bk, B, rfl, hB.same s05b, fun tb htb => ⟨tb, _, rfl, .inr (SqT.of htb), rfl, flat_strs _, _, rfl, ?_⟩⟩
            rw [inV_strs]
            cases ho2 : (B.bars.any fun k => decide (k = "others"))
            case' false =>
              refine iteF (iteF ?_)
              have s06 := s05b
              have hD6 := hD5b
            case' true =>
              rw [ho2, Bool.true_and] at hb2
              refine iteT ⟨_, rfl, _, _, rfl, .inl ⟨_, SqL.of hD5b, rfl⟩, _, _, rfl, rfl, _, rfl, ?_⟩
              rw [eoth, hlen.mpr hb2]
              refine iteF ?_
              have s06 := s05b
              have hD6 := hD5b
        all_goals
          refine ⟨_, rfl, _, rfl, _, rfl, ?_⟩
          intro a da an dan dne
          refine ⟨a, da, _, x, l, rfl, upd_same, fun m0 n0 H7 c1 c2 c3 c4 c5 c6 c7 => ⟨rfl, ?_⟩⟩
          have s07 : Same H H7 := fun b o hb' => by
            have z := s06 _ _ hb'
            exact c7 b o (by rw [upd_ne (ne_of_none z an), upd_ne (ne_of_none z dan)]; exact z) (ne_of_none z an)
          have hD7 : H7 _ = some _ := c7 _ _ (by rw [upd_ne (ne_of_none hD6 an), upd_ne (ne_of_none hD6 dan)]; exact hD6) (ne_of_none hD6 an)
          have Ha : H a = none := s06.free an
          have c1' : H m0 = none := by
            cases e : H m0 with
            | none => rfl
            | some o =>
              have z := s06 _ _ e
              rw [upd_ne (ne_of_none z an), upd_ne (ne_of_none z dan), z] at c1
              cases c1
          have am0 : m0 ≠ a := fun e => by
            rw [e, upd_same] at c1
            cases c1
          refine ⟨_, rfl, y, dx, _, rfl, s07 _ _ h1, by kernel_rfl, _, rfl, y, dx, bk, n, S.bg, A, x, S, rfl, s07 _ _ h1, s07 _ _ R.hb, s07 _ _ R.ho, tag_ne R.tb R.to (by decide), BS.oi, Nat.le_trans (ok_len BS) (by decide), fun p8 H8 hp8 s8 hl8 => ?_⟩
          refine ⟨_, rfl, _, _, rfl, .inl ⟨_, SqL.of (s8 _ _ hD7), rfl⟩, rfl, (show 2 ≤ sizeLine from by decide), fun t ht => ?_⟩
          have efree : decide (V.int ((((above S l).filter fun y => decide (y ≠ x)).map V.int).length : Nat) = V.int 0) = ((above S l).filter fun y => decide (y ≠ x)).isEmpty := by
            rw [eoth]
            cases (above S l).filter fun y => decide (y ≠ x) with
            | nil => rfl
            | cons a r =>
              refine decide_eq_false fun e => ?_
              have := V.int.inj e
              rw [List.length_cons] at this
              omega
          rw [efree]
          have p8a : p8 ≠ a := (ne_of_none c4 hp8).symm
          have p8m : p8 ≠ m0 := (ne_of_none c5 hp8).symm
          have Hp8 : H p8 = none := s07.free hp8
          have s09 : Same H8 (upd H8 t (.tup [.ref p8, .bl ((above S l).filter fun y => decide (y ≠ x)).isEmpty])) := Same.newS (Same.refl _) ht
          refine ⟨t, _, rfl, SqT.of upd_same, rfl, _, _, rfl, _, rfl, a, CJ, da, _, rfl, s09 _ _ (s8 _ _ c4), TJ.cl, TJ.noted, jf_len, ?_⟩
          refine ⟨_, _, rfl, _, rfl, a, CJ, da, _, rfl, upd_same, TJ.cl, TJ.free, len1000 (by kernel_rfl), rfl, ?_⟩
          rw [upd_upd]
          generalize hHX : upd (upd H8 t (.tup [.ref p8, .bl ((above S l).filter fun y => decide (y ≠ x)).isEmpty])) a _ = HX
          have sX : Same H HX := fun b o hb' => by
            rw [← hHX, upd_ne (ne_of_none hb' Ha)]
            exact s09 _ _ (s8 _ _ (s07 _ _ hb'))
          have ga : HX a = some (.ins CJ da (jfs (kindS dn) (begun S x l) m0 p8 .non)) := by
            rw [hdn, ← hHX, upd_same]
            kernel_rfl
          have gm : HX m0 = some (.lst []) := by
            rw [← hHX, upd_ne am0]
            exact s09 _ _ (s8 _ _ c5)
          have gp : HX p8 = some (.lst ((above S x).map V.int)) := by
            rw [← hHX, upd_ne p8a]
            exact s09 _ _ hl8
          have RX := R.same (JobAt.stays CJ _) sX
          have lv : ∀ {b : Addr}, H b = none → τ b = 0 := fun h => not_tag R.live h
          obtain ⟨τ', hτ, ta, tm, tn, gw, lx⟩ : ∃ τ' : Addr → Int, (∀ b, τ b ≠ 0 → τ' b = τ b) ∧ τ' a = 11 + 2 * (S.bg : Int) ∧ τ' m0 = 8 ∧ τ' p8 = 8 ∧ Gw τ τ' H ∧ Live τ' HX := by
            refine ⟨tg (tg (tg τ a (11 + 2 * (S.bg : Int))) m0 8) p8 8, fun b hb' => ?_, ?_, ?_, tg_same, fun b hb' => ?_, fun b hb' => ?_⟩
            · rw [tg_ne (fun e : b = p8 => hb' (by rw [e]; exact lv Hp8)), tg_ne (fun e : b = m0 => hb' (by rw [e]; exact lv c1')), tg_ne (fun e : b = a => hb' (by rw [e]; exact lv Ha))]
            · rw [tg_ne p8a.symm, tg_ne am0.symm, tg_same]
            · rw [tg_ne p8m.symm, tg_same]
            · by_cases e1 : b = p8
              · exact .inr (e1 ▸ Hp8)
              · by_cases e2 : b = m0
                · exact .inr (e2 ▸ c1')
                · by_cases e3 : b = a
                  · exact .inr (e3 ▸ Ha)
                  · rw [tg_ne e1, tg_ne e2, tg_ne e3] at hb'
                    exact .inl hb'
            · by_cases e1 : b = p8
              · rw [e1, gp]
                exact fun z => nomatch z
              · by_cases e2 : b = m0
                · rw [e2, gm]
                  exact fun z => nomatch z
                · by_cases e3 : b = a
                  · rw [e3, ga]
                    exact fun z => nomatch z
                  · rw [tg_ne e1, tg_ne e2, tg_ne e3] at hb'
                    exact RX.live b hb'
          have RT := RX.tags2 (JobAt.stays CJ _) hτ lx
          have nin : (S.bg : Int) ∉ S.jk := fun z => by have := BS.ji _ z; omega
          have p9 := dI_setNew RX.hj nin jl (.ref a)
          rw [← fupd_map V.ref] at p9
          have yj : y ≠ A.j := tag_ne R.tp R.tj (by decide)
          have aj : a ≠ A.j := ne_of ga RX.hj (by intro z; cases z)
          have mj : m0 ≠ A.j := ne_of gm RX.hj (by intro z; cases z)
          have pj : p8 ≠ A.j := ne_of gp RX.hj (by intro z; cases z)
          have ya : y ≠ a := ne_of_none h1 Ha
          have ym : y ≠ m0 := ne_of_none h1 c1'
          have yp : y ≠ p8 := ne_of_none h1 Hp8
          refine ⟨_, rfl, _, rfl, y, CY, dx, _, _, rfl, sX _ _ h1, TY.cl, TY.jobs, yf_jobs .., _, rfl, y, CY, dx, _, _, rfl, sX _ _ h1, TY.cl, TY.begun, yf_begun .., A.j, _, rfl, p9, ?_⟩
          have RN := RT.newjob (JobAt.stays CJ _) (x := begun S x l) nin (by omega) ta (Ch.wr RT.tj RT.hj isT_dK) upd_same ⟨da, m0, p8, .non, by rw [upd_ne aj]; exact ga, by rw [upd_ne mj]; exact gm, by rw [upd_ne pj]; exact gp, tm, tn, rfl⟩ (RT.live.wr _ _)
          have gy : (upd HX A.j (.dK (dI (fun z => .ref (fupd A.jd S.bg a z)) (S.jk ++ [(S.bg : Int)])))) y = some (.ins CY dx (yfs bk n A S.bg)) := by
            rw [upd_ne yj]
            exact sX _ _ h1
          generalize hHY : upd HX A.j (.dK (dI (fun z => .ref (fupd A.jd S.bg a z)) (S.jk ++ [(S.bg : Int)]))) = HY at RN gy ⊢
          refine ⟨_, rfl, y, CY, dx, _, _, rfl, gy, TY.cl, TY.begun, yf_begun .., _, _, rfl, rfl, _, rfl, y, CY, dx, _, rfl, gy, TY.cl, TY.begun, yf_len, ?_⟩
          have ep : ∀ z : V, z = .int ((S.bg + 1 : Nat) : Int) → putF "y_begun" z (yfs bk n A S.bg) = yfs bk n A (S.bg + 1) := fun z e => by
            subst e
            exact yf_put_begun ..
          rw [ep _ (show V.int ((S.bg : Int) + 1) = _ from congrArg V.int (by omega))]
          refine ⟨_, rfl, y, CY, dx, _, _, rfl, upd_same, TY.cl, TY.begun, yf_begun .., _, _, rfl, rfl, ?_⟩
          have RZ := (RN.top (JobAt.stays CJ _) (Ch.wr RN.tp gy isT_ins) (RN.live.wr y (.ins CY dx (yfs bk n A (S.bg + 1))))).bg (S.bg + 1)
          have qq := q (fupd A.jd S.bg a) _ τ' ⟨⟨dx, upd_same⟩, RZ, ?_⟩ ?_ gw
          · have e2 : V.int (((S.bg + 1 : Nat) : Int) - 1) = V.int S.bg := congrArg V.int (by omega)
            rw [← e2] at qq
            exact qq
          · have bkn : H bk ≠ none := fun z => by
              obtain ⟨d0, f0, z2⟩ := hB.ins
              rw [z2] at z
              cases z
            have e : ∀ b, H b ≠ none → τ b = 0 → τ' b = 0 := fun b hb' hz => by
              cases Classical.em (τ' b = 0) with
              | inl h => exact h
              | inr h => rcases gw b h with h | h
                         · exact (h hz).elim
                         · exact (hb' h).elim
            exact e bk bkn t0
          · refine Kp.wr ?_ (by rw [R.tp]; decide) gy isT_ins
            rw [← hHY]
            exact (Kp.of_same sX).wr (by rw [R.tj]; decide) RX.hj isT_dK
end
end K20W
end
/-! Ru2 -/
section
set_option Elab.async false
set_option linter.all false
set_option maxRecDepth 100000
set_option maxHeartbeats 4000000
/-! More rules that the layer lacks: comprehensions over ints that make new things alone, by an invariant. -/
namespace K20W
open PySem L2 K20
/-- all but D stays -/
def Off (D : Addr) (H H' : Hp) : Prop := ∀ b o, b ≠ D → H b = some o → H' b = some o
theorem Off.of {D : Addr} {H H' : Hp} (s : Same H H') : Off D H H' := fun b o _ h => s b o h
theorem Off.upd {D : Addr} {H : Hp} (o : HO) : Off D H (upd H D o) := fun b _ n h => by
  rw [upd_ne n]
  exact h
theorem Off.refl {D : Addr} {H : Hp} : Off D H H := fun _ _ _ h => h
theorem Off.trans {D : Addr} {H H1 H2 : Hp} (a : Off D H H1) (b : Off D H1 H2) : Off D H H2 := fun c o n h => b c o n (a c o n h)
theorem Off.new {D : Addr} {H H1 : Hp} (a : Off D H H1) {p : Addr} {o : HO} (hp : H1 p = none) : Off D H (L2.upd H1 p o) := fun c x n h => by
  have z := a c x n h
  rw [upd_ne (ne_of_none z hp)]
  exact z
section
variable {J : It} {G : Hp → Prop} {tk tv : TE} {tt : TT} {σ : St} {H1 : Hp} {D : Addr} {Qd : Hp → Prop}
/-- {k: v for k in ks}, ints: the values are told by I -/
theorem dc_inv {j : Nat} {ks : List Int} (hn : ks.Nodup) (w : Walk J (ks.map V.int).length G (YAt (ks.map V.int))) (hD : H1 D = none) (hz : ks.length < sizeLine) (I : List Int → (Int → V) → Hp → Prop)
    (hI : ∀ pre f H H', I pre f H → Off D H H' → H' D ≠ none → I pre f H') (h0 : ∀ f, I [] f (upd H1 D (.dK [])))
    (hG : ∀ H, Same H1 H → G H) (ht : ∀ k H, k ∈ ks → Same H1 H → ∀ Q : Bool → Hp → Prop, Q true H → tt ((wipe σ [j]).set j (some (.int k))) H Q)
    (hk : ∀ k H, k ∈ ks → Same H1 H → ∀ Q : VK, Q (.int k) H → tk ((wipe σ [j]).set j (some (.int k))) H Q)
    (hv : ∀ k pre f H, k ∈ ks → k ∉ pre → Same H1 H → H D ≠ none → I pre f H → ∀ Q : VK, (∀ v H3, Same H H3 → I (pre ++ [k]) (fupd f k v) H3 → Q v H3) → tv ((wipe σ [j]).set j (some (.int k))) H Q)
    (hd : ∀ H (f : Int → V), Same H1 H → H D = some (.dK (dI f ks)) → I ks f H → Qd H) :
    ∃ W : Nat → Nat → Hp → Prop, (∃ m, W 0 m (upd H1 D (.dK []))) ∧ ∀ i m H, W i m H →
      (J.stop i H ∧ Qd H) ∨ (J.go i H ∧ ∃ Nx : Hp → Prop, (∀ H', Nx H' → ∃ m', m' < m ∧ W (i + 1) m' H') ∧ ∀ x H', J.yld i H x H' → gName j x (wipe σ [j]) H' fun σ2 H2 => wipe σ2 [j] = wipe σ [j] ∧ tt σ2 H2 fun b H3 =>
        if b = true then tk σ2 H3 fun y H4 => tv σ2 H4 fun z H5 => ∃ kvs k, y = kV k ∧ H5 D = some (.dK kvs) ∧ kvs.length < sizeLine ∧ Nx (upd H5 D (.dK (putK kvs k z))) else Nx H3) := by
  have up : ∀ {H : Hp} {o : HO}, Same H1 H → Same H1 (upd H D o) := fun s b u e => by
    rw [upd_ne (ne_of_none e hD)]
    exact s b u e
  let Pv : Nat → Hp → Prop := fun i H => ∃ f : Int → V, Same H1 H ∧ H D = some (.dK (dI f (ks.take i))) ∧ I (ks.take i) f H
  refine ⟨fun i m H => m = ks.length - i ∧ i ≤ ks.length ∧ Pv i H, ⟨ks.length, by simp, Nat.zero_le _, fun _ => .non, up (Same.refl _), upd_same, h0 _⟩, ?_⟩
  have hln : (ks.map V.int).length = ks.length := List.length_map ..
  rintro i m H ⟨rfl, hi, f, s, hf, hr⟩
  by_cases hlt : i < ks.length
  · refine .inr ⟨w.goes i H (by rw [hln]; exact hlt) (hG H s), Pv (i + 1), fun H' p' => ⟨ks.length - (i + 1), by omega, rfl, hlt, p'⟩, fun x H' y => ?_⟩
    obtain ⟨e, hx⟩ := w.yields i H x H' (by rw [hln]; exact hlt) (hG H s) y
    subst e
    rw [List.getElem?_map] at hx
    obtain ⟨k, hk0, rfl⟩ : ∃ k, ks[i]? = some k ∧ x = V.int k := by
      cases e : ks[i]? with
      | none => rw [e] at hx; cases hx
      | some z => rw [e] at hx; exact ⟨z, rfl, (Option.some.inj hx).symm⟩
    have km : k ∈ ks := List.mem_of_getElem? hk0
    have tk1 : ks.take (i + 1) = ks.take i ++ [k] := by
      rw [List.take_add_one, hk0]
      rfl
    have kn : k ∉ ks.take i := fun h => by
      have h2 : (ks.take (i + 1)).Nodup := hn.sublist (List.take_sublist _ _)
      rw [tk1, List.nodup_append] at h2
      exact h2.2.2 k h k (List.mem_singleton.mpr rfl) rfl
    have dl : H' D ≠ none := fun z => by rw [hf] at z; cases z
    refine ⟨?_, ht k H' km s _ ?_⟩
    · show (((wipe σ []).set j none).set j (some (V.int k))).set j none = (wipe σ []).set j none
      rw [List.set_set, List.set_set]
    · show (if true = true then _ else _)
      refine iteT (hk k H' km s _ (hv k _ f H' km kn s dl hr _ fun v H3 s3 hv3 => ⟨_, Sum.inl k, rfl, s3 _ _ hf, ?_, fupd f k v, up (Same.trans s s3), ?_, ?_⟩))
      · rw [dI_length, List.length_take]
        omega
      · rw [upd_same, dI_new kn, tk1]
      · rw [tk1]
        exact hI _ _ _ _ hv3 (Off.upd _) (by rw [upd_same]; exact fun z => nomatch z)
  · have e : i = ks.length := by omega
    subst e
    rw [List.take_length] at hf hr
    refine .inl ⟨?_, hd H f s hf hr⟩
    have := w.stops H (hG H s)
    rw [hln] at this
    exact this
/-- [v for k in ks], ints: the values are told by I -/
theorem lc_inv {te : TE} {j : Nat} {ks : List Int} (hn : ks.Nodup) (w : Walk J (ks.map V.int).length G (YAt (ks.map V.int))) (hD : H1 D = none) (hz : ks.length < sizeLine) (I : List Int → List V → Hp → Prop)
    (hI : ∀ pre vs H H', I pre vs H → Off D H H' → H' D ≠ none → I pre vs H') (h0 : I [] [] (upd H1 D (.lst [])))
    (hG : ∀ H, Same H1 H → G H) (ht : ∀ k H, k ∈ ks → Same H1 H → ∀ Q : Bool → Hp → Prop, Q true H → tt ((wipe σ [j]).set j (some (.int k))) H Q)
    (hv : ∀ k pre vs H, k ∈ ks → k ∉ pre → Same H1 H → H D ≠ none → I pre vs H → ∀ Q : VK, (∀ v H3, Same H H3 → I (pre ++ [k]) (vs ++ [v]) H3 → Q v H3) → te ((wipe σ [j]).set j (some (.int k))) H Q)
    (hd : ∀ H (vs : List V), Same H1 H → H D = some (.lst vs) → vs.length = ks.length → I ks vs H → Qd H) :
    ∃ W : Nat → Nat → Hp → Prop, (∃ m, W 0 m (upd H1 D (.lst []))) ∧ ∀ i m H, W i m H →
      (J.stop i H ∧ Qd H) ∨ (J.go i H ∧ ∃ Nx : Hp → Prop, (∀ H', Nx H' → ∃ m', m' < m ∧ W (i + 1) m' H') ∧ ∀ x H', J.yld i H x H' → gName j x (wipe σ [j]) H' fun σ2 H2 => wipe σ2 [j] = wipe σ [j] ∧ tt σ2 H2 fun b H3 =>
        if b = true then te σ2 H3 fun y H4 => ∃ acc, H4 D = some (.lst acc) ∧ acc.length < sizeLine ∧ Nx (upd H4 D (.lst (acc ++ [y]))) else Nx H3) := by
  have up : ∀ {H : Hp} {o : HO}, Same H1 H → Same H1 (upd H D o) := fun s b u e => by
    rw [upd_ne (ne_of_none e hD)]
    exact s b u e
  have hln : (ks.map V.int).length = ks.length := List.length_map ..
  refine lc_it w (fun i H => ∃ vs : List V, Same H1 H ∧ H D = some (.lst vs) ∧ vs.length = i ∧ i ≤ ks.length ∧ I (ks.take i) vs H) ⟨[], up (Same.refl _), upd_same, rfl, Nat.zero_le _, h0⟩ (fun i H _ ⟨_, s, _⟩ => hG H s) ?_ ?_
  · rintro i x H H' hi ⟨vs, s, hf, hl, _, hr⟩ ⟨rfl, hx⟩
    rw [hln] at hi
    rw [List.getElem?_map] at hx
    obtain ⟨k, hk0, rfl⟩ : ∃ k, ks[i]? = some k ∧ x = V.int k := by
      cases e : ks[i]? with
      | none => rw [e] at hx; cases hx
      | some z => rw [e] at hx; exact ⟨z, rfl, (Option.some.inj hx).symm⟩
    have km : k ∈ ks := List.mem_of_getElem? hk0
    have tk1 : ks.take (i + 1) = ks.take i ++ [k] := by
      rw [List.take_add_one, hk0]
      rfl
    have kn : k ∉ ks.take i := fun h => by
      have h2 : (ks.take (i + 1)).Nodup := hn.sublist (List.take_sublist _ _)
      rw [tk1, List.nodup_append] at h2
      exact h2.2.2 k h k (List.mem_singleton.mpr rfl) rfl
    have dl : H' D ≠ none := fun z => by rw [hf] at z; cases z
    refine ⟨?_, ht k H' km s _ ?_⟩
    · show (((wipe σ []).set j none).set j (some (V.int k))).set j none = (wipe σ []).set j none
      rw [List.set_set, List.set_set]
    · show (if true = true then _ else _)
      refine iteT (hv k _ vs H' km kn s dl hr _ fun v H3 s3 hv3 => ⟨_, s3 _ _ hf, by rw [hl]; omega, vs ++ [v], up (Same.trans s s3), upd_same, by rw [List.length_append, hl]; rfl, hi, ?_⟩)
      rw [tk1]
      exact hI _ _ _ _ hv3 (Off.upd _) (by rw [upd_same]; exact fun z => nomatch z)
  · rintro H ⟨vs, s, hf, hl, _, hr⟩
    rw [hln] at hl hr
    rw [List.take_length] at hr
    exact hd H vs s hf hl hr
end
end K20W
end
/-! W15 -/
section
set_option Elab.async false
set_option linter.all false
set_option maxRecDepth 100000
set_option maxHeartbeats 4000000
/-! A new Yard. -/
namespace K20W
open PySem L2 K20
/-! ### new objects, by a list of their tags -/
def tagOf (L : List (Addr × Int)) : Addr → Int := fun a => (L.lookup a).getD 0
structure Lay (H0 H : Hp) (L : List (Addr × Int)) : Prop where
  nd : (L.map (·.1)).Nodup
  lv : ∀ p ∈ L, H p.1 ≠ none
  nw : ∀ p ∈ L, H0 p.1 = none
theorem Lay.nil (H : Hp) : Lay H H [] := ⟨List.nodup_nil, fun _ h => (nomatch h), fun _ h => (nomatch h)⟩
theorem Lay.add {H0 H H' : Hp} {L : List (Addr × Int)} (l : Lay H0 H L) {p : Addr} (t : Int) (hp : H p = none) (h0 : H0 p = none) (hp' : H' p ≠ none) (k : ∀ a, H a ≠ none → H' a ≠ none) : Lay H0 H' ((p, t) :: L) := by
  refine ⟨?_, fun q hq => ?_, fun q hq => ?_⟩
  · rw [List.map_cons, List.nodup_cons]
    refine ⟨fun h => ?_, l.nd⟩
    obtain ⟨q, hq, e⟩ := List.mem_map.mp h
    exact l.lv q hq (by rw [e]; exact hp)
  · rcases List.mem_cons.mp hq with h | h
    · rw [h]
      exact hp'
    · exact k _ (l.lv q h)
  · rcases List.mem_cons.mp hq with h | h
    · rw [h]
      exact h0
    · exact l.nw q h
theorem Lay.keep {H0 H H' : Hp} {L : List (Addr × Int)} (l : Lay H0 H L) (k : ∀ a, H a ≠ none → H' a ≠ none) : Lay H0 H' L := ⟨l.nd, fun p hp => k _ (l.lv p hp), l.nw⟩
theorem lookup_of {L : List (Addr × Int)} (nd : (L.map (·.1)).Nodup) {a : Addr} {t : Int} (h : (a, t) ∈ L) : L.lookup a = some t := by
  induction L with
  | nil => cases h
  | cons q r ih =>
    obtain ⟨b, u⟩ := q
    rw [List.map_cons, List.nodup_cons] at nd
    rw [List.lookup_cons]
    rcases List.mem_cons.mp h with h | h
    · cases h
      simp
    · have : a ≠ b := fun e => nd.1 (List.mem_map.mpr ⟨(a, t), h, e⟩)
      rw [show (a == b) = false from beq_eq_false_iff_ne.mpr this]
      exact ih nd.2 h
theorem Lay.tag {H0 H : Hp} {L : List (Addr × Int)} (l : Lay H0 H L) {a : Addr} {t : Int} (h : (a, t) ∈ L) : tagOf L a = t := by
  unfold tagOf
  rw [lookup_of l.nd h]
  rfl
theorem tag_mem {L : List (Addr × Int)} {a : Addr} (h : tagOf L a ≠ 0) : ∃ t, (a, t) ∈ L := by
  unfold tagOf at h
  induction L with
  | nil => exact (h rfl).elim
  | cons q r ih =>
    obtain ⟨b, u⟩ := q
    rw [List.lookup_cons] at h
    by_cases e : a = b
    · subst e
      exact ⟨u, List.mem_cons_self⟩
    · rw [show (a == b) = false from beq_eq_false_iff_ne.mpr e] at h
      obtain ⟨t, ht⟩ := ih h
      exact ⟨t, List.mem_cons_of_mem _ ht⟩
theorem Lay.live {H0 H : Hp} {L : List (Addr × Int)} (l : Lay H0 H L) : Live (tagOf L) H := fun a ha => by
  obtain ⟨t, h⟩ := tag_mem ha
  exact l.lv _ h
theorem Lay.fresh {H0 H : Hp} {L : List (Addr × Int)} (l : Lay H0 H L) {a : Addr} (ha : tagOf L a ≠ 0) : H0 a = none := by
  obtain ⟨t, h⟩ := tag_mem ha
  exact l.nw _ h
theorem live_upd {H : Hp} {p : Addr} {o : HO} {a : Addr} (h : H a ≠ none) : (upd H p o) a ≠ none := by
  by_cases e : a = p
  · subst e
    rw [upd_same]
    exact fun z => nomatch z
  · rw [upd_ne e]
    exact h
theorem Off.at {D : Addr} {H H1 : Hp} (a : Off D H H1) {p : Addr} {o : HO} (hp : H p = none) : Off D H (L2.upd H1 p o) := fun c x n h => by
  rw [upd_ne (ne_of_none h hp)]
  exact a c x n h
theorem le15 {α : Type} {l : List α} (h : Nat.ble l.length 15 = true) : l.length ≤ 15 := Nat.le_of_ble_eq_true h
section
variable {P : Program} {w : World} {K : PySem.W.Frag} {mg : Str → Option Value} {base : Heap} {f CY CB CJ : Addr} {fd : FuncData}
theorem rep_mul (n : Nat) : (List.replicate (n : Int).toNat [V.int 0]).flatten = (List.replicate n (0 : Int)).map V.int := by
  rw [Int.toNat_natCast]
  induction n with
  | zero => rfl
  | succ k ih =>
    rw [List.replicate_succ, List.replicate_succ, List.flatten_cons, List.map_cons, ih]
    rfl
def spNeedBook (CB : Addr) : Sp := fun vs H Q _ => ∃ (a dx : Addr) (fs : List (Str × V)), vs = [.ref a] ∧ H a = some (.ins CB dx fs) ∧ Q .non H
theorem ok_needbook (B : Blt mg) (IB : C8.InsC K CB) (gB : mg "Book" = some (.ref CB)) (F : Fu K "need_book" "need_book" s_need_book f fd) : FnOk P w K mg base CX0 1 f fd ["book"] (spNeedBook CB) := by
  have sc : FnScope ["book"] ["book"] (defScope s_need_book) := ⟨rfl, rfl, rfl, by decide +kernel, rfl, by decide +kernel, by decide +kernel⟩
  refine F.ok sc (fun vs H Q E h => ?_) (fun cdv A outer s H vs Q E hr h => ?_)
  · obtain ⟨a, dx, fs, rfl, _⟩ := h
    rfl
  · obtain ⟨a, dx, fs, rfl, h1, q⟩ := h
    refine ⟨_, pss_one (ps_if (pt_not (pt_val (pe_callB (C8.call_isC IB) rfl B.isinstance boot_isinstance (pa_cons (pv 0) (pa_cons (pe_glob (v := .ref CB) rfl gB rfl) pa_nil))))) (pss_one ps_never) pss_nil), ?_⟩
    exact ⟨_, rfl, a, dx, fs, rfl, h1, true, rfl, iteF q⟩
def spYardInit (CY CB CJ : Addr) : Sp := fun vs H Q _ => ∃ (y bk dx : Addr) (n : Nat) (B : BookR), vs = [.ref y, .ref bk, .int n] ∧ H y = some (.ins CY dx []) ∧ BookAt CB H bk B ∧ 1 ≤ n ∧ n ≤ 40 ∧
  ∀ (A : Ad) (H' : Hp) (L : List (Addr × Int)), H' y = some (.ins CY dx (yfs bk n A 0)) → Off y H H' → Lay H H' L → (∀ p ∈ L, p.1 ≠ y) → ((∀ p ∈ (y, (1 : Int)) :: L, p.1 ≠ bk) → ∀ dn, YA CY CJ dn bk n H' y A (S0 n) D0 (tagOf ((y, 1) :: L))) → Q .non H'
theorem ok_yinit (B : Blt mg) (TY : YardC K CY) (hmc : mg "MOST_CELLS" = some (.int 40 t0)) (g0 : Gd P w K mg base "need_book" 1 ["book"] (spNeedBook CB)) (g1 : Gd P w K mg base "is_number" 1 ["thing"] spNum) (F : Fu K "__init__" "Yard.__init__" (s_yard 0) f fd) : FnOk P w K mg base CX0 2 f fd ["self", "book", "cells"] (spYardInit CY CB CJ) := by
  have sc : FnScope ["self", "book", "cells"] ["self", "book", "cells"] (defScope (s_yard 0)) := ⟨rfl, rfl, rfl, by decide +kernel, rfl, by decide +kernel, by decide +kernel⟩
  obtain ⟨f0, d0, G0, e0, k0, b0⟩ := g0
  obtain ⟨f1, d1, G1, e1, k1, b1⟩ := g1
  refine F.ok sc (fun vs H Q E h => ?_) (fun cdv A outer s H vs Q E hr h => ?_)
  · obtain ⟨y, _, _, _, _, rfl, _⟩ := h
    rfl
  · obtain ⟨y, bk, dx, n, BR, rfl, h1, hB, n1, n40, q⟩ := h
    obtain ⟨db, fs, hb⟩ := hB.ins
    refine ⟨_, pss_cons (ps_expr (pe_call G0 hr rfl e0 k0 b0 .nil pass0 (pa_cons (pv 1) pa_nil)))
      (pss_cons (ps_if (PW.pt (pw_or (pt_not (pt_val (pe_call G1 hr rfl e1 k1 b1 .nil pass0 (pa_cons (pv 2) pa_nil)))) (pw_or1 (pt_not (pt_chain op_le op_le pe_int (pv 2) (pe_glob (v := .int 40) rfl hmc ⟨_, rfl⟩)))))) (pss_one ps_never) pss_nil)
      (pss_cons (ps_fld (pv 0) (pv 1) rfl) (pss_cons (ps_fld (pv 0) (pv 2) rfl)
      (pss_cons (ps_fld (pv 0) (pe_disp (pps_cons pe_int pe_non pps_nil) rfl rfl (by decide) (by decide)) rfl)
      (pss_cons (ps_fld (pv 0) (pe_disp (pps_cons pe_int pe_dnewK pps_nil) rfl rfl (by decide) (by decide)) rfl)
      (pss_cons (ps_fld (pv 0) pe_dnewK rfl)
      (pss_cons (ps_fld (pv 0) (pe_disp (pps_cons pe_int pe_int pps_nil) rfl rfl (by decide) (by decide)) rfl)
      (pss_cons (ps_fld (pv 0) (pe_disp (pps_cons pe_int (pe_callTy call_tuple_of rfl B.tuple boot_tuple (pa_cons (pe_op op_rep (pe_lst (pa_cons pe_int pa_nil)) (pv 2)) pa_nil)) pps_nil) rfl rfl (by decide) (by decide)) rfl)
      (pss_cons (ps_fld (pv 0) pe_dnewK rfl) (pss_one (ps_fld (pv 0) pe_int rfl))))))))))), ?_⟩
    refine ⟨_, rfl, bk, db, fs, rfl, hb, ?_⟩
    refine ⟨_, rfl, n, rfl, true, rfl, iteF ⟨_, rfl, _, _, rfl, rfl, true, congrArg V.bl (decide_eq_true (by omega)), iteT ⟨_, _, rfl, rfl, true, congrArg V.bl (decide_eq_true (by omega)), iteF ?_⟩⟩⟩
    refine ⟨_, rfl, _, rfl, y, CY, dx, _, rfl, h1, TY.cl, TY.book, len1000 (by kernel_rfl), ?_⟩
    refine ⟨_, rfl, _, rfl, y, CY, dx, _, rfl, upd_same, TY.cl, TY.cells, len1000 (by kernel_rfl), ?_⟩
    rw [upd_upd]
    generalize hK1 : upd H y _ = K1
    have o1 : Off y H K1 := by rw [← hK1]; exact Off.upd _
    have g1 : K1 y = some (.ins CY dx [("y_book", .ref bk), ("y_cells", .int n)]) := by
      rw [← hK1, upd_same]
      kernel_rfl
    have l1 : Lay H K1 [] := ⟨List.nodup_nil, fun _ h => (nomatch h), fun _ h => (nomatch h)⟩
    have fr : ∀ {K2 : Hp} {a : Addr}, Off y H K2 → K2 y ≠ none → K2 a = none → H a = none ∧ a ≠ y := fun {K2 a} o hy ha => by
      have hne : a ≠ y := fun e => hy (e ▸ ha)
      refine ⟨?_, hne⟩
      cases e : H a with
      | none => rfl
      | some u => rw [o a u hne e] at ha; cases ha
    -- y_bases
    intro pb hpb
    refine ⟨upd_same, [(Sum.inl 0, .non)], rfl, by decide, ?_⟩
    rw [upd_upd]
    obtain ⟨fb, nb⟩ := fr o1 (by rw [g1]; exact fun z => nomatch z) hpb
    refine ⟨_, rfl, y, CY, dx, _, rfl, by rw [upd_ne nb.symm]; exact g1, TY.cl, TY.bases, len1000 (by kernel_rfl), ?_⟩
    generalize hK2 : upd (upd K1 pb _) y _ = K2
    have o2 : Off y H K2 := by rw [← hK2]; exact Off.trans (Off.new o1 hpb) (Off.upd _)
    have g2 : K2 y = some (.ins CY dx [("y_book", .ref bk), ("y_cells", .int n), ("y_bases", .ref pb)]) := by
      rw [← hK2, upd_same]
      kernel_rfl
    have v2b : K2 pb = some (.dK [(Sum.inl 0, .non)]) := by
      rw [← hK2, upd_ne nb, upd_same]
      kernel_rfl
    have l2 : Lay H K2 [(pb, 2)] := l1.add 2 hpb fb (some_ne v2b) fun a ha => by rw [← hK2]; exact live_upd (live_upd ha)
    have yl2 : K2 y ≠ none := some_ne g2
    -- y_owned
    intro po hpo pi hpi
    have hpo' : po ≠ pi := fun e => by
      rw [← e, upd_same] at hpi
      cases hpi
    have hpi0 : K2 pi = none := by
      rw [upd_ne hpo'.symm] at hpi
      exact hpi
    refine ⟨by rw [upd_ne hpo', upd_same], [(Sum.inl 0, .ref pi)], rfl, le15 rfl, ?_⟩
    obtain ⟨fo, no⟩ := fr o2 yl2 hpo
    obtain ⟨fi, ni⟩ := fr o2 yl2 hpi0
    refine ⟨_, rfl, y, CY, dx, _, rfl, by rw [upd_ne no.symm, upd_ne ni.symm, upd_ne no.symm]; exact g2, TY.cl, TY.owned, len1000 (by kernel_rfl), ?_⟩
    generalize hK3 : upd (upd (upd (upd K2 po _) pi _) po _) y _ = K3
    have o3 : Off y H K3 := by rw [← hK3]; exact Off.trans (((o2.at fo).at fi).at fo) (Off.upd _)
    have on3 : ∀ {a : Addr} {o : HO}, a ≠ y → K2 a = some o → K3 a = some o := fun n h => by
      rw [← hK3, upd_ne n, upd_ne (ne_of_none h hpo), upd_ne (ne_of_none h hpi0), upd_ne (ne_of_none h hpo)]
      exact h
    have g3 : K3 y = some (.ins CY dx [("y_book", .ref bk), ("y_cells", .int n), ("y_bases", .ref pb), ("y_owned", .ref po)]) := by
      rw [← hK3, upd_same]
      kernel_rfl
    have v3o : K3 po = some (.dK [(Sum.inl 0, .ref pi)]) := by
      rw [← hK3, upd_ne no, upd_same]
      kernel_rfl
    have v3i : K3 pi = some (.dK []) := by
      rw [← hK3, upd_ne ni, upd_ne hpo'.symm, upd_same]
    have v3b := on3 nb v2b
    have l3 : Lay H K3 [(pi, 10), (po, 3), (pb, 2)] := (l2.add (H' := upd K2 po (.dK [])) 3 hpo fo (by rw [upd_same]; exact fun z => nomatch z) fun a ha => live_upd ha).add 10 (by rw [upd_ne hpo'.symm]; exact hpi0) fi (some_ne v3i) fun a ha => by
      rw [← hK3]
      exact live_upd (live_upd (live_upd ha))
    have yl3 : K3 y ≠ none := some_ne g3
    -- y_dues
    intro pd hpd
    obtain ⟨fd, nd⟩ := fr o3 yl3 hpd
    refine ⟨_, rfl, y, CY, dx, _, rfl, by rw [upd_ne nd.symm]; exact g3, TY.cl, TY.dues, len1000 (by kernel_rfl), ?_⟩
    generalize hK4 : upd (upd K3 pd _) y _ = K4
    have o4 : Off y H K4 := by rw [← hK4]; exact Off.trans (o3.at fd) (Off.upd _)
    have on4 : ∀ {a : Addr} {o : HO}, a ≠ y → K3 a = some o → K4 a = some o := fun n h => by
      rw [← hK4, upd_ne n, upd_ne (ne_of_none h hpd)]
      exact h
    have g4 : K4 y = some (.ins CY dx [("y_book", .ref bk), ("y_cells", .int n), ("y_bases", .ref pb), ("y_owned", .ref po), ("y_dues", .ref pd)]) := by
      rw [← hK4, upd_same]
      kernel_rfl
    have v4d : K4 pd = some (.dK []) := by
      rw [← hK4, upd_ne nd, upd_same]
    have v4b := on4 nb v3b
    have v4o := on4 no v3o
    have v4i := on4 ni v3i
    have l4 : Lay H K4 [(pd, 4), (pi, 10), (po, 3), (pb, 2)] := l3.add 4 hpd fd (some_ne v4d) fun a ha => by rw [← hK4]; exact live_upd (live_upd ha)
    have yl4 : K4 y ≠ none := some_ne g4
    -- y_seats
    intro ps hps
    refine ⟨upd_same, [(Sum.inl 0, .int 0)], rfl, le15 rfl, ?_⟩
    rw [upd_upd]
    obtain ⟨fs, ns⟩ := fr o4 yl4 hps
    refine ⟨_, rfl, y, CY, dx, _, rfl, by rw [upd_ne ns.symm]; exact g4, TY.cl, TY.seats, len1000 (by kernel_rfl), ?_⟩
    generalize hK5 : upd (upd K4 ps _) y _ = K5
    have o5 : Off y H K5 := by rw [← hK5]; exact Off.trans (o4.at fs) (Off.upd _)
    have on5 : ∀ {a : Addr} {o : HO}, a ≠ y → K4 a = some o → K5 a = some o := fun n h => by
      rw [← hK5, upd_ne n, upd_ne (ne_of_none h hps)]
      exact h
    have g5 : K5 y = some (.ins CY dx [("y_book", .ref bk), ("y_cells", .int n), ("y_bases", .ref pb), ("y_owned", .ref po), ("y_dues", .ref pd), ("y_seats", .ref ps)]) := by
      rw [← hK5, upd_same]
      kernel_rfl
    have v5s : K5 ps = some (.dK [(Sum.inl 0, .int 0)]) := by
      rw [← hK5, upd_ne ns, upd_same]
      kernel_rfl
    have v5b := on5 nb v4b
    have v5o := on5 no v4o
    have v5i := on5 ni v4i
    have v5d := on5 nd v4d
    have l5 : Lay H K5 [(ps, 5), (pd, 4), (pi, 10), (po, 3), (pb, 2)] := l4.add 5 hps fs (some_ne v5s) fun a ha => by rw [← hK5]; exact live_upd (live_upd ha)
    have yl5 : K5 y ≠ none := some_ne g5
    -- y_contents
    intro pc hpc
    obtain ⟨fc, nc⟩ := fr o5 yl5 hpc
    have sl : sizeLine ≥ 1000 := by decide
    refine ⟨(show 1 ≤ sizeLine from by decide), fun p1 hp1 => ?_⟩
    refine ⟨_, rfl, p1, n, [V.int 0], rfl, rfl, upd_same, by omega, by omega, (show 1 * (n : Int).toNat ≤ sizeLine by omega), fun p2 hp2 => ?_⟩
    rw [rep_mul]
    refine ⟨p2, _, rfl, .inl ⟨SqL.of upd_same, fun p3 hp3 => ?_⟩⟩
    have q1 : ∀ {a b : Addr} {o : HO} {K0 : Hp}, (upd K0 b o) a = none → a ≠ b ∧ K0 a = none := fun {a b o K0} h => by
      by_cases e : a = b
      · rw [e, upd_same] at h
        cases h
      · rw [upd_ne e] at h
        exact ⟨e, h⟩
    obtain ⟨c1, z1⟩ := q1 hp1
    obtain ⟨c2, z2'⟩ := q1 hp2
    obtain ⟨c2b, z2⟩ := q1 z2'
    obtain ⟨c3, z3'⟩ := q1 hp3
    obtain ⟨c3a, z3''⟩ := q1 z3'
    obtain ⟨c3b, z3⟩ := q1 z3''
    refine ⟨by rw [upd_ne c3b.symm, upd_ne c2b.symm, upd_ne c1.symm, upd_same], [(Sum.inl 0, .ref p3)], rfl, le15 rfl, ?_⟩
    obtain ⟨f1', n1'⟩ := fr o5 yl5 z1
    obtain ⟨f2', n2'⟩ := fr o5 yl5 z2
    obtain ⟨f3', n3'⟩ := fr o5 yl5 z3
    refine ⟨_, rfl, y, CY, dx, _, rfl, by rw [upd_ne nc.symm, upd_ne n3'.symm, upd_ne n2'.symm, upd_ne n1'.symm, upd_ne nc.symm]; exact g5, TY.cl, TY.contents, len1000 (by kernel_rfl), ?_⟩
    generalize hK6 : upd (upd (upd (upd (upd (upd K5 pc _) p1 _) p2 _) p3 _) pc _) y _ = K6
    have o6 : Off y H K6 := by rw [← hK6]; exact Off.trans (((((o5.at fc).at f1').at f2').at f3').at fc) (Off.upd _)
    have on6 : ∀ {a : Addr} {o : HO}, a ≠ y → K5 a = some o → K6 a = some o := fun n h => by
      rw [← hK6, upd_ne n, upd_ne (ne_of_none h hpc), upd_ne (ne_of_none h z3), upd_ne (ne_of_none h z2), upd_ne (ne_of_none h z1), upd_ne (ne_of_none h hpc)]
      exact h
    have g6 : K6 y = some (.ins CY dx [("y_book", .ref bk), ("y_cells", .int n), ("y_bases", .ref pb), ("y_owned", .ref po), ("y_dues", .ref pd), ("y_seats", .ref ps), ("y_contents", .ref pc)]) := by
      rw [← hK6, upd_same]
      kernel_rfl
    have v6c : K6 pc = some (.dK [(Sum.inl 0, .ref p3)]) := by
      rw [← hK6, upd_ne nc, upd_same]
      kernel_rfl
    have v6t : K6 p3 = some (.tup ((List.replicate n (0 : Int)).map V.int)) := by
      rw [← hK6, upd_ne n3', upd_ne c3b, upd_same]
    have v6b := on6 nb v5b
    have v6o := on6 no v5o
    have v6i := on6 ni v5i
    have v6d := on6 nd v5d
    have v6s := on6 ns v5s
    have l6 : Lay H K6 [(pc, 6), (ps, 5), (pd, 4), (pi, 10), (po, 3), (pb, 2)] := l5.add 6 hpc fc (some_ne v6c) fun a ha => by
      rw [← hK6]
      exact live_upd (live_upd (live_upd (live_upd (live_upd (live_upd ha)))))
    have yl6 : K6 y ≠ none := some_ne g6
    -- y_jobs
    intro pj hpj
    obtain ⟨fj, nj⟩ := fr o6 yl6 hpj
    refine ⟨_, rfl, y, CY, dx, _, rfl, by rw [upd_ne nj.symm]; exact g6, TY.cl, TY.jobs, len1000 (by kernel_rfl), ?_⟩
    refine ⟨_, rfl, y, CY, dx, _, rfl, upd_same, TY.cl, TY.begun, len1000 (by kernel_rfl), ?_⟩
    rw [upd_upd]
    generalize hK7 : upd (upd K6 pj _) y _ = K7
    have o7 : Off y H K7 := by rw [← hK7]; exact Off.trans (o6.at fj) (Off.upd _)
    have on7 : ∀ {a : Addr} {o : HO}, a ≠ y → K6 a = some o → K7 a = some o := fun n h => by
      rw [← hK7, upd_ne n, upd_ne (ne_of_none h hpj)]
      exact h
    have v7j : K7 pj = some (.dK []) := by rw [← hK7, upd_ne nj, upd_same]
    have l7 : Lay H K7 [(pj, 7), (pc, 6), (ps, 5), (pd, 4), (pi, 10), (po, 3), (pb, 2)] := l6.add 7 hpj fj (some_ne v7j) fun a ha => by
      rw [← hK7]
      exact live_upd (live_upd ha)
    have g7 : K7 y = some (.ins CY dx (yfs bk n ⟨pb, po, pd, ps, pc, pj, fun _ => pi, fun _ => pi, fun _ => p3, fun _ => pi⟩ 0)) := by
      rw [← hK7, upd_same]
      kernel_rfl
    have ny : ∀ p ∈ [(pj, (7 : Int)), (pc, 6), (ps, 5), (pd, 4), (pi, 10), (po, 3), (pb, 2)], p.1 ≠ y := fun p hp => by
      simp only [List.mem_cons, List.not_mem_nil, or_false] at hp
      rcases hp with rfl | rfl | rfl | rfl | rfl | rfl | rfl <;> assumption
    refine q _ K7 _ g7 o7 l7 ny fun nbk dn => ?_
    have ndl : (((y, (1 : Int)) :: [(pj, (7 : Int)), (pc, 6), (ps, 5), (pd, 4), (pi, 10), (po, 3), (pb, 2)]).map (·.1)).Nodup := by
      rw [List.map_cons, List.nodup_cons]
      refine ⟨fun h => ?_, l7.nd⟩
      obtain ⟨p, hp, e⟩ := List.mem_map.mp h
      exact ny p hp e
    have tgs : ∀ {a : Addr} {t : Int}, (a, t) ∈ ((y, (1 : Int)) :: [(pj, (7 : Int)), (pc, 6), (ps, 5), (pd, 4), (pi, 10), (po, 3), (pb, 2)]) → tagOf ((y, 1) :: [(pj, 7), (pc, 6), (ps, 5), (pd, 4), (pi, 10), (po, 3), (pb, 2)]) a = t := fun {a t} h => by
      unfold tagOf
      rw [lookup_of ndl h]
      rfl
    refine ⟨⟨dx, g7⟩, ⟨on7 nb v6b, on7 no v6o, on7 nd v6d, on7 ns v6s, on7 nc v6c, v7j, fun x hx => ?_, fun x hx => (nomatch hx), fun x hx => on7 n3' v6t, fun i hi => (nomatch hi), tgs (by simp), tgs (by simp), tgs (by simp), tgs (by simp), tgs (by simp), tgs (by simp), tgs (by simp), fun x hx => ?_, fun i hi => (nomatch hi), fun a ha => ?_⟩, ?_⟩
    · exact on7 ni v6i
    · have : x = 0 := List.mem_singleton.mp hx
      subst this
      exact ⟨tgs (by simp), Int.le_refl _⟩
    · obtain ⟨t, h⟩ := tag_mem ha
      rcases List.mem_cons.mp h with h | h
      · cases h
        exact some_ne g7
      · exact l7.lv _ h
    · cases Classical.em (tagOf ((y, 1) :: [(pj, 7), (pc, 6), (ps, 5), (pd, 4), (pi, 10), (po, 3), (pb, 2)]) bk = 0) with
      | inl h => exact h
      | inr h =>
        obtain ⟨t, h⟩ := tag_mem h
        exact (nbk _ h rfl).elim
end
end K20W
end
/-! W16 -/
section
set_option Elab.async false
set_option linter.all false
set_option maxRecDepth 100000
set_option maxHeartbeats 4000000
/-! Yard.copy. -/
namespace K20W
open PySem L2 K20
section
variable (bk : Addr) (n : Nat) (A : Ad) (bg : Nat) (p : Addr)
theorem yf_put_bases : putF "y_bases" (.ref p) (yfs bk n A bg) = yfs bk n { A with b := p } bg := by kernel_rfl
theorem yf_put_owned : putF "y_owned" (.ref p) (yfs bk n A bg) = yfs bk n { A with o := p } bg := by kernel_rfl
theorem yf_put_dues : putF "y_dues" (.ref p) (yfs bk n A bg) = yfs bk n { A with d := p } bg := by kernel_rfl
theorem yf_put_seats : putF "y_seats" (.ref p) (yfs bk n A bg) = yfs bk n { A with s := p } bg := by kernel_rfl
theorem yf_put_contents : putF "y_contents" (.ref p) (yfs bk n A bg) = yfs bk n { A with c := p } bg := by kernel_rfl
theorem yf_put_jobs : putF "y_jobs" (.ref p) (yfs bk n A bg) = yfs bk n { A with j := p } bg := by kernel_rfl
end
section
variable {H K : Hp} {L : List (Addr × Int)} {y p : Addr}
/-- a new object, then a write at y -/
theorem stage (s : Same H K) (hy0 : H y = none) (hyk : K y ≠ none) (l : Lay H K L) (hp : K p = none) (t : Int) (o o' : HO) :
    Same H (upd (upd K p o) y o') ∧ Lay H (upd (upd K p o) y o') ((p, t) :: L) ∧ (upd (upd K p o) y o') p = some o ∧ Off y K (upd (upd K p o) y o') ∧ p ≠ y := by
  have ne : p ≠ y := fun e => hyk (e ▸ hp)
  have v : (upd (upd K p o) y o') p = some o := by rw [upd_ne ne, upd_same]
  refine ⟨fun b x h => ?_, l.add t hp (s.free hp) (some_ne v) fun a ha => live_upd (live_upd ha), v, fun b x n h => ?_, ne⟩
  · rw [upd_ne (ne_of_none h hy0), upd_ne (ne_of_none (s _ _ h) hp)]
    exact s _ _ h
  · rw [upd_ne n, upd_ne (ne_of_none h hp)]
    exact h
theorem stage2 (s : Same H K) (hy0 : H y = none) (l : Lay H K L) (o' : HO) : Same H (upd K y o') ∧ Lay H (upd K y o') L ∧ Off y K (upd K y o') :=
  ⟨fun b x h => by
    rw [upd_ne (ne_of_none h hy0)]
    exact s _ _ h, l.keep fun a ha => live_upd ha, Off.upd _⟩
end
theorem Lay.add3 {H0 H H' : Hp} {L : List (Addr × Int)} (l : Lay H0 H L) {q m n : Addr} (tq tm tn : Int) (hq : H q = none) (hm : H m = none) (hn : H n = none) (fq : H0 q = none) (fm : H0 m = none) (fn : H0 n = none) (e1 : m ≠ q) (e2 : n ≠ q) (e3 : m ≠ n)
    (lq : H' q ≠ none) (lm : H' m ≠ none) (ln : H' n ≠ none) (k : ∀ a, H a ≠ none → H' a ≠ none) : Lay H0 H' ((q, tq) :: (m, tm) :: (n, tn) :: L) := by
  have a1 : Lay H0 (upd H n (.lst [])) ((n, tn) :: L) := l.add tn hn fn (by rw [upd_same]; exact fun z => nomatch z) fun a ha => live_upd ha
  have a2 : Lay H0 (upd (upd H n (.lst [])) m (.lst [])) ((m, tm) :: (n, tn) :: L) := a1.add tm (by rw [upd_ne e3]; exact hm) fm (by rw [upd_same]; exact fun z => nomatch z) fun a ha => live_upd ha
  refine a2.add tq (by rw [upd_ne e1.symm, upd_ne e2.symm]; exact hq) fq lq fun a ha => ?_
  by_cases b1 : a = m
  · rw [b1]
    exact lm
  · rw [upd_ne b1] at ha
    by_cases b2 : a = n
    · rw [b2]
      exact ln
    · rw [upd_ne b2] at ha
      exact k a ha
theorem Lay.apart {H0 H : Hp} {L : List (Addr × Int)} (l : Lay H0 H L) {a b : Addr} {t u : Int} (h : (a, t) ∈ L) (h' : (b, u) ∈ L) (n : t ≠ u) : a ≠ b := fun e => n (by rw [← l.tag h, ← l.tag h', e])
/-- what a value refers to -/
def adr : V → Addr
  | .ref a => a
  | _ => 0
section
variable {P : Program} {w : World} {K : PySem.W.Frag} {mg : Str → Option Value} {base : Heap} {f CY CB CJ : Addr} {fd : FuncData}
def spCopy (CY CB CJ : Addr) : Sp := fun vs H Q _ => ∃ (y bk : Addr) (dn : Bool) (n : Nat) (A : Ad) (S : Vs) (D : Du) (τ : Addr → Int) (B : BookR), vs = [.ref y] ∧ YA CY CJ dn bk n H y A S D τ ∧ BookAt CB H bk B ∧ Base n S ∧ 1 ≤ n ∧ n ≤ 40 ∧
  ∀ y' A' H' τ', Same H H' → YA CY CJ dn bk n H' y' A' S D τ' → (∀ a, τ' a ≠ 0 → H a = none) → Q (.ref y') H'
theorem ok_copy (Bt : Blt mg) (TY : YardC K CY) (TJ : JobC K CJ) (gY : mg "Yard" = some (.ref CY)) (I : Id P w K mg base CY 2 ["self", "book", "cells"] (spYardInit CY CB CJ)) (m1 : Md P w K mg base CJ "twin" 3 ["self"] (spTwin CJ)) (F : Fu K "copy" "Yard.copy" (s_yard 32) f fd) : FnOk P w K mg base CX0 4 f fd ["self"] (spCopy CY CB CJ) := by
  have sc : FnScope ["self", "found", "layer", "number"] ["self"] (defScope (s_yard 32)) := ⟨rfl, rfl, rfl, by decide +kernel, rfl, by decide +kernel, by decide +kernel⟩
  obtain ⟨fi, di, Gi, Mi, bi⟩ := I
  obtain ⟨f4, d4, G4, M4, b4⟩ := m1
  refine F.ok sc (fun vs H Q E h => ?_) (fun cdv A outer s H vs Q E hr h => ?_)
  · obtain ⟨y, _, _, _, _, _, _, _, _, rfl, _⟩ := h
    rfl
  · obtain ⟨y, bk, dn, n, A, S, D, τ, BR, rfl, Y, hB, BS, n1, n40, q⟩ := h
    have hu := hu_of hr
    obtain ⟨⟨dx, h1⟩, R, b0⟩ := id Y
    refine ⟨_, PSs.nox (pss_cons (ps_set (i := 1) sc.nd rfl (.inl rfl) (pe_make Mi Gi hr rfl gY bi .nil pass0 (pa_cons (pe_fld (pv 0) rfl) (pa_cons (pe_fld (pv 0) rfl) pa_nil))))
      (pss_cons (ps_fld (pv 1) (pe_callTy call_dictD rfl Bt.dict boot_dict (pa_cons (pe_fld (pv 0) rfl) pa_nil)) rfl)
      (pss_cons (ps_fld (pv 1) (pe_lock (pe_dc (own := [("layer", 2)]) (g := gName 2) (tk := tVar 2) (by rfl) sc.nd (pi_keys (pe_fld (pv 0) rfl)) (blkOk_by (own := [("layer", 2)]) (N := ["self", "found", "layer", "number"]) (sc := defScope (s_yard 32)) (by decide +kernel))
          (fun _ _ _ _ _ => pg_name (i := 2) sc.nd rfl (Or.inl rfl)) (fun _ _ _ _ _ => pts_nil) (fun _ _ _ _ _ => pv 2) (tv := tCB (fun xs H Q => ∃ (a : Addr) (kvs : List (Key × V)), xs = [.ref a] ∧ Rd H a (.dK kvs) ∧ ∀ p, H p = none → Q (.ref p) (upd H p (.dK kvs))) (tCons (tDGet (tFld K (tVar 0) "y_owned") (tVar 2)) tNil))
          (fun _ _ _ _ _ => pe_callTy call_dictD rfl Bt.dict boot_dict (pa_cons (pe_dget hu (pe_fld (pv 0) rfl) (pv 2) (fun _ _ => rfl)) pa_nil)))) rfl)
      (pss_cons (ps_fld (pv 1) (pe_callTy call_dictD rfl Bt.dict boot_dict (pa_cons (pe_fld (pv 0) rfl) pa_nil)) rfl)
      (pss_cons (ps_fld (pv 1) (pe_callTy call_dictD rfl Bt.dict boot_dict (pa_cons (pe_fld (pv 0) rfl) pa_nil)) rfl)
      (pss_cons (ps_fld (pv 1) (pe_callTy call_dictD rfl Bt.dict boot_dict (pa_cons (pe_fld (pv 0) rfl) pa_nil)) rfl)
      (pss_cons (ps_fld (pv 1) (pe_lock (pe_dc (own := [("number", 3)]) (g := gName 3) (tk := tVar 3) (by rfl) sc.nd (pi_keys (pe_fld (pv 0) rfl)) (blkOk_by (own := [("number", 3)]) (N := ["self", "found", "layer", "number"]) (sc := defScope (s_yard 32)) (by decide +kernel))
          (fun _ _ _ _ _ => pg_name (i := 3) sc.nd rfl (Or.inl rfl)) (fun _ _ _ _ _ => pts_nil) (fun _ _ _ _ _ => pv 3) (tv := tMeth CJ "twin" (spTwin CJ) [] E0 (tDGet (tFld K (tVar 0) "y_jobs") (tVar 3)) tNil)
          (fun _ _ _ _ _ => pe_meth0 (pe_dget hu (pe_fld (pv 0) rfl) (pv 3) (fun _ _ => rfl)) TJ.cl M4 G4 hr b4 .nil pass0))) rfl)
      (pss_cons (ps_fld (pv 1) (pe_fld (pv 0) rfl) rfl) (pss_one (ps_ret (pv 1))))))))))), ?_⟩
    refine ⟨_, rfl, y, CY, dx, _, _, rfl, h1, TY.cl, TY.book, yf_book .., _, rfl, y, CY, dx, _, _, rfl, h1, TY.cl, TY.cells, yf_cells .., ?_⟩
    intro y' dy ny ndy dne
    refine ⟨y', bk, dy, n, BR, rfl, upd_same, ?_, n1, n40, fun A0 K0 _ g0 off0 _ _ _ => ⟨rfl, ?_⟩⟩
    · refine hB.same fun b o hb => ?_
      rw [upd_ne (ne_of_none hb ny), upd_ne (ne_of_none hb ndy)]
      exact hb
    have s0 : Same H K0 := fun b o hb => off0 b o (ne_of_none hb ny) (by rw [upd_ne (ne_of_none hb ny), upd_ne (ne_of_none hb ndy)]; exact hb)
    have l0 : Lay H K0 [(y', 1)] := ⟨by simp, fun p hp => by
      cases List.mem_singleton.mp hp
      exact some_ne g0, fun p hp => by
      cases List.mem_singleton.mp hp
      exact ny⟩
    -- y_bases
    refine ⟨_, rfl, y, CY, dx, _, _, rfl, s0 _ _ h1, TY.cl, TY.bases, yf_bases .., A.b, _, rfl, .inl (s0 _ _ R.hb), fun pb hpb => ?_⟩
    refine ⟨_, rfl, y', CY, dy, _, rfl, by rw [upd_ne (fun e => some_ne g0 (e ▸ hpb) : y' ≠ pb)]; exact g0, TY.cl, TY.bases, yf_len, ?_⟩
    rw [yf_put_bases]
    obtain ⟨s1, l1, v1b, f1, nb⟩ := stage s0 ny (some_ne g0) l0 hpb 2 (.dK (dI (fun x => oV (S.bs x)) (rng S.m))) (.ins CY dy (yfs bk n { A0 with b := pb } 0))
    have g1 : (upd (upd K0 pb (.dK (dI (fun x => oV (S.bs x)) (rng S.m)))) y' (.ins CY dy (yfs bk n { A0 with b := pb } 0))) y' = some (.ins CY dy (yfs bk n { A0 with b := pb } 0)) := upd_same
    generalize upd (upd K0 pb (.dK (dI (fun x => oV (S.bs x)) (rng S.m)))) y' (.ins CY dy (yfs bk n { A0 with b := pb } 0)) = K1 at s1 l1 v1b f1 g1 ⊢
    -- y_owned
    refine ⟨A.o, _, s1 _ _ R.ho, trivial, fun od => ?_⟩
    have e0 : (upd K1 A.o (.frz od (.dK (dI (fun x => .ref (A.od x)) S.ok)))) A.o = some (.frz od (.dK (dI (fun x => .ref (A.od x)) S.ok))) := upd_same
    have el : ∀ {a : Addr}, K1 a ≠ none → (upd K1 A.o (.frz od (.dK (dI (fun x => .ref (A.od x)) S.ok)))) a ≠ none := fun h => live_upd h
    have eoff : Off A.o K1 (upd K1 A.o (.frz od (.dK (dI (fun x => .ref (A.od x)) S.ok)))) := Off.upd _
    have unl : ∀ {Kx : Hp}, Same (upd K1 A.o (.frz od (.dK (dI (fun x => .ref (A.od x)) S.ok)))) Kx → Same K1 (upd Kx A.o (.dK (dI (fun x => .ref (A.od x)) S.ok))) := fun s => Same.unlock (s1 _ _ R.ho) s
    generalize upd K1 A.o (.frz od (.dK (dI (fun x => .ref (A.od x)) S.ok))) = KL at e0 el eoff unl ⊢
    have yo : y ≠ A.o := tag_ne R.tp R.to (by decide)
    have eL1 := eoff _ _ yo (s1 _ _ h1)
    have fromL : ∀ {Kx : Hp} {a : Addr}, Same KL Kx → Kx a = none → H a = none := fun {Kx a} s ha => by
      cases e : H a with
      | none => rfl
      | some o =>
        have z := el (some_ne (s1 _ _ e))
        cases e2 : KL a with
        | none => exact (z e2).elim
        | some u =>
          rw [s _ _ e2] at ha
          cases ha
    refine ⟨_, rfl, y, CY, dx, _, _, rfl, eL1, TY.cl, TY.owned, yf_owned .., A.o, od, rfl, .inl ⟨_, e0, fun po hpo => ?_⟩⟩
    have okn : S.ok.Nodup := BS.os.imp fun {a b} h => by omega
    have wk : Walk (Itk A.o od (dI (fun x => .ref (A.od x)) S.ok)) (S.ok.map V.int).length (fun H => H A.o = some (.frz od (.dK (dI (fun x => .ref (A.od x)) S.ok)))) (YAt (S.ok.map V.int)) := by
      have := walk_keysA (d := A.o) (o := od) (kvs := dI (fun x => .ref (A.od x)) S.ok)
      rw [dI_keysV] at this
      exact this
    have K1po : K1 po = none := by
      cases e : K1 po with
      | none => rfl
      | some o => exact (el (some_ne e) hpo).elim
    refine dc_inv okn wk hpo (Nat.lt_of_le_of_lt (ok_len BS) (by decide)) (fun pre f Hc => ∃ L, Lay H Hc L ∧ (po, 3) ∈ L ∧ (∀ p ∈ [(pb, (2 : Int)), (y', 1)], p ∈ L) ∧ ∀ k ∈ pre, ∃ q, f k = .ref q ∧ (q, 10 + 2 * k) ∈ L ∧ Hc q = some (.dK (rowV (S.ow k))) ∧ q ≠ po ∧ H q = none)
      (fun pre f Hc Hc' ⟨L, l, a1, a2, a3⟩ of lv => ⟨L, l.keep fun a ha => ?_, a1, a2, fun k hk => ?_⟩) (fun f => ⟨(po, 3) :: [(pb, 2), (y', 1)], ?_, List.mem_cons_self, fun p hp => List.mem_cons_of_mem _ hp, fun k hk => (nomatch hk)⟩) (fun Hc s => s _ _ e0)
      (fun k Hc _ _ Q' hq => hq) (fun k Hc _ _ Q' hq => ⟨_, rfl, hq⟩) (fun k pre f Hc hk kn s lD ⟨L, l, a1, a2, a3⟩ Q' hq => ?_) fun Hc f s hD ⟨L, l, a1, a2, a3⟩ => ?_
    · by_cases e : a = po
      · rw [e]
        exact lv
      · cases e2 : Hc a with
        | none => exact (ha e2).elim
        | some u =>
          rw [of a u e e2]
          exact fun z => nomatch z
    · obtain ⟨q0, b1, b2, b3, b4, b5⟩ := a3 k hk
      exact ⟨q0, b1, b2, of _ _ b4 b3, b4, b5⟩
    · refine (l1.keep (H' := KL) fun a ha => el ha).add 3 hpo (s1.free K1po) (by rw [upd_same]; exact fun z => nomatch z) fun a ha => live_upd ha
    · have kod : KL (A.od k) = some (.dK (rowV (S.ow k))) := eoff _ _ (fun e => by have := (R.tod k hk).1; rw [e, R.to] at this; omega) (s1 _ _ (R.hod k hk))
      refine ⟨_, rfl, y, CY, dx, _, _, rfl, s _ _ eL1, TY.cl, TY.owned, yf_owned .., _, rfl, A.o, _, rfl, dI_getF (s _ _ e0) hk, A.od k, _, rfl, .inl (s _ _ kod), fun q0 hq0 => ?_⟩
      have fq := fromL s hq0
      refine hq _ _ (Same.newS (Same.refl _) hq0) ⟨(q0, 10 + 2 * k) :: L, l.add _ hq0 fq (by rw [upd_same]; exact fun z => nomatch z) fun a ha => live_upd ha, List.mem_cons_of_mem _ a1, fun p hp => List.mem_cons_of_mem _ (a2 p hp), fun z hz => ?_⟩
      by_cases e : z = k
      · subst e
        exact ⟨q0, by rw [fupd_same], List.mem_cons_self, upd_same, fun e => lD (e ▸ hq0), fq⟩
      · rw [fupd_ne e]
        obtain ⟨q1, b1, b2, b3, b4, b5⟩ := a3 z ((List.mem_append.mp hz).resolve_right fun h => e (List.mem_singleton.mp h))
        exact ⟨q1, b1, List.mem_cons_of_mem _ b2, by rw [upd_ne (ne_of_none b3 hq0)]; exact b3, b4, b5⟩
    · have un := unl s
      have s2 : Same H (upd Hc A.o (.dK (dI (fun x => .ref (A.od x)) S.ok))) := Same.trans s1 un
      refine ⟨s _ _ e0, ?_⟩
      have nao : ∀ {a : Addr}, H a = none → a ≠ A.o := fun h e => by
        rw [e, R.ho] at h
        cases h
      have Hpo : H po = none := s1.free K1po
      have w1 : (upd Hc A.o (.dK (dI (fun x => .ref (A.od x)) S.ok))) po = some (.dK (dI f S.ok)) := by rw [upd_ne (nao Hpo)]; exact hD
      have w2 : ∀ k ∈ S.ok, ∃ q, f k = .ref q ∧ (q, 10 + 2 * k) ∈ L ∧ (upd Hc A.o (.dK (dI (fun x => .ref (A.od x)) S.ok))) q = some (.dK (rowV (S.ow k))) := fun k hk => by
        obtain ⟨q1, b1, b2, b3, b4, b5⟩ := a3 k hk
        exact ⟨q1, b1, b2, by rw [upd_ne (nao b5)]; exact b3⟩
      have l2 : Lay H (upd Hc A.o (.dK (dI (fun x => .ref (A.od x)) S.ok))) L := l.keep fun a ha => live_upd ha
      have g2 : (upd Hc A.o (.dK (dI (fun x => .ref (A.od x)) S.ok))) y' = some (.ins CY dy (yfs bk n { A0 with b := pb } 0)) := un _ _ g1
      have v2b := un _ _ v1b
      generalize upd Hc A.o (.dK (dI (fun x => .ref (A.od x)) S.ok)) = K2 at s2 w1 w2 l2 g2 v2b ⊢
      have ed : dI f S.ok = dI (fun k => .ref (adr (f k))) S.ok := dI_congr fun k hk => by
        obtain ⟨q1, b1, _⟩ := w2 k hk
        rw [b1]
        rfl
      rw [ed] at w1
      have w2 : ∀ k ∈ S.ok, (adr (f k), 10 + 2 * k) ∈ L ∧ K2 (adr (f k)) = some (.dK (rowV (S.ow k))) := fun k hk => by
        obtain ⟨q1, b1, b2⟩ := w2 k hk
        rw [b1]
        exact b2
      obtain ⟨od', hod'⟩ : ∃ od' : Int → Addr, od' = fun k => adr (f k) := ⟨_, rfl⟩
      have w1 : K2 po = some (.dK (dI (fun k => .ref (od' k)) S.ok)) := by rw [hod']; exact w1
      have w2 : ∀ k ∈ S.ok, (od' k, 10 + 2 * k) ∈ L ∧ K2 (od' k) = some (.dK (rowV (S.ow k))) := fun k hk => by rw [hod']; exact w2 k hk
      have ly' : (y', (1 : Int)) ∈ L := a2 _ (by simp)
      have lpb : (pb, (2 : Int)) ∈ L := a2 _ (by simp)
      refine ⟨_, rfl, y', CY, dy, _, rfl, g2, TY.cl, TY.owned, yf_len, ?_⟩
      rw [yf_put_owned]
      have npo : po ≠ y' := l.apart a1 ly' (by decide)
      have npb : pb ≠ y' := l.apart lpb ly' (by decide)
      have nod : ∀ k ∈ S.ok, od' k ≠ y' := fun k hk => l.apart (w2 k hk).1 ly' (by omega)
      obtain ⟨s3, l3, f3⟩ := stage2 s2 ny l2 (.ins CY dy (yfs bk n { A0 with b := pb, o := po } 0))
      have g3 : (upd K2 y' (.ins CY dy (yfs bk n { A0 with b := pb, o := po } 0))) y' = some (.ins CY dy (yfs bk n { A0 with b := pb, o := po } 0)) := upd_same
      generalize upd K2 y' (.ins CY dy (yfs bk n { A0 with b := pb, o := po } 0)) = K3 at s3 l3 f3 g3 ⊢
      -- y_dues
      refine ⟨_, rfl, y, CY, dx, _, _, rfl, s3 _ _ h1, TY.cl, TY.dues, yf_dues .., A.d, _, rfl, .inl (s3 _ _ R.hd), fun pd hpd => ?_⟩
      refine ⟨_, rfl, y', CY, dy, _, rfl, by rw [upd_ne (fun e => some_ne g3 (e ▸ hpd) : y' ≠ pd)]; exact g3, TY.cl, TY.dues, yf_len, ?_⟩
      rw [yf_put_dues]
      obtain ⟨s4, l4, v4d, f4', nd⟩ := stage s3 ny (some_ne g3) l3 hpd 4 (.dK (dI (fun x => .ref (A.dd x)) D.dk)) (.ins CY dy (yfs bk n { A0 with b := pb, o := po, d := pd } 0))
      have g4 : (upd (upd K3 pd (.dK (dI (fun x => .ref (A.dd x)) D.dk))) y' (.ins CY dy (yfs bk n { A0 with b := pb, o := po, d := pd } 0))) y' = some (.ins CY dy (yfs bk n { A0 with b := pb, o := po, d := pd } 0)) := upd_same
      generalize upd (upd K3 pd (.dK (dI (fun x => .ref (A.dd x)) D.dk))) y' (.ins CY dy (yfs bk n { A0 with b := pb, o := po, d := pd } 0)) = K4 at s4 l4 v4d f4' g4 ⊢
      -- y_seats
      refine ⟨_, rfl, y, CY, dx, _, _, rfl, s4 _ _ h1, TY.cl, TY.seats, yf_seats .., A.s, _, rfl, .inl (s4 _ _ R.hs), fun ps hps => ?_⟩
      refine ⟨_, rfl, y', CY, dy, _, rfl, by rw [upd_ne (fun e => some_ne g4 (e ▸ hps) : y' ≠ ps)]; exact g4, TY.cl, TY.seats, yf_len, ?_⟩
      rw [yf_put_seats]
      obtain ⟨s5, l5, v5s, f5, ns⟩ := stage s4 ny (some_ne g4) l4 hps 5 (.dK (dI (fun x => .int (S.se x)) (rng S.nw))) (.ins CY dy (yfs bk n { A0 with b := pb, o := po, d := pd, s := ps } 0))
      have g5 : (upd (upd K4 ps (.dK (dI (fun x => .int (S.se x)) (rng S.nw)))) y' (.ins CY dy (yfs bk n { A0 with b := pb, o := po, d := pd, s := ps } 0))) y' = some (.ins CY dy (yfs bk n { A0 with b := pb, o := po, d := pd, s := ps } 0)) := upd_same
      generalize upd (upd K4 ps (.dK (dI (fun x => .int (S.se x)) (rng S.nw)))) y' (.ins CY dy (yfs bk n { A0 with b := pb, o := po, d := pd, s := ps } 0)) = K5 at s5 l5 v5s f5 g5 ⊢
      -- y_contents
      refine ⟨_, rfl, y, CY, dx, _, _, rfl, s5 _ _ h1, TY.cl, TY.contents, yf_contents .., A.c, _, rfl, .inl (s5 _ _ R.hc), fun pc hpc => ?_⟩
      refine ⟨_, rfl, y', CY, dy, _, rfl, by rw [upd_ne (fun e => some_ne g5 (e ▸ hpc) : y' ≠ pc)]; exact g5, TY.cl, TY.contents, yf_len, ?_⟩
      rw [yf_put_contents]
      obtain ⟨s6, l6, v6c, f6, nc⟩ := stage s5 ny (some_ne g5) l5 hpc 6 (.dK (dI (fun x => .ref (A.cd x)) (rng S.nw))) (.ins CY dy (yfs bk n { A0 with b := pb, o := po, d := pd, s := ps, c := pc } 0))
      have g6 : (upd (upd K5 pc (.dK (dI (fun x => .ref (A.cd x)) (rng S.nw)))) y' (.ins CY dy (yfs bk n { A0 with b := pb, o := po, d := pd, s := ps, c := pc } 0))) y' = some (.ins CY dy (yfs bk n { A0 with b := pb, o := po, d := pd, s := ps, c := pc } 0)) := upd_same
      generalize upd (upd K5 pc (.dK (dI (fun x => .ref (A.cd x)) (rng S.nw)))) y' (.ins CY dy (yfs bk n { A0 with b := pb, o := po, d := pd, s := ps, c := pc } 0)) = K6 at s6 l6 v6c f6 g6 ⊢
      -- y_jobs
      refine ⟨A.j, _, s6 _ _ R.hj, trivial, fun od2 => ?_⟩
      have e0' : (upd K6 A.j (.frz od2 (.dK (dI (fun x => .ref (A.jd x)) S.jk)))) A.j = some (.frz od2 (.dK (dI (fun x => .ref (A.jd x)) S.jk))) := upd_same
      have el' : ∀ {a : Addr}, K6 a ≠ none → (upd K6 A.j (.frz od2 (.dK (dI (fun x => .ref (A.jd x)) S.jk)))) a ≠ none := fun h => live_upd h
      have eoff' : Off A.j K6 (upd K6 A.j (.frz od2 (.dK (dI (fun x => .ref (A.jd x)) S.jk)))) := Off.upd _
      have unl' : ∀ {Kx : Hp}, Same (upd K6 A.j (.frz od2 (.dK (dI (fun x => .ref (A.jd x)) S.jk)))) Kx → Same K6 (upd Kx A.j (.dK (dI (fun x => .ref (A.jd x)) S.jk))) := fun s => Same.unlock (s6 _ _ R.hj) s
      generalize upd K6 A.j (.frz od2 (.dK (dI (fun x => .ref (A.jd x)) S.jk))) = KM at e0' el' eoff' unl' ⊢
      have yj : y ≠ A.j := tag_ne R.tp R.tj (by decide)
      have eM1 := eoff' _ _ yj (s6 _ _ h1)
      have fromM : ∀ {Kx : Hp} {a : Addr}, Same KM Kx → Kx a = none → H a = none := fun {Kx a} s ha => by
        cases e : H a with
        | none => rfl
        | some o =>
          have z := el' (some_ne (s6 _ _ e))
          cases e2 : KM a with
          | none => exact (z e2).elim
          | some u =>
            rw [s _ _ e2] at ha
            cases ha
      refine ⟨_, rfl, y, CY, dx, _, _, rfl, eM1, TY.cl, TY.jobs, yf_jobs .., A.j, od2, rfl, .inl ⟨_, e0', fun pj hpj => ?_⟩⟩
      have jkn : S.jk.Nodup := BS.jn.imp fun {a b} h => by omega
      have wk2 : Walk (Itk A.j od2 (dI (fun x => .ref (A.jd x)) S.jk)) (S.jk.map V.int).length (fun H => H A.j = some (.frz od2 (.dK (dI (fun x => .ref (A.jd x)) S.jk)))) (YAt (S.jk.map V.int)) := by
        have := walk_keysA (d := A.j) (o := od2) (kvs := dI (fun x => .ref (A.jd x)) S.jk)
        rw [dI_keysV] at this
        exact this
      have K6pj : K6 pj = none := by
        cases e : K6 pj with
        | none => rfl
        | some o => exact (el' (some_ne e) hpj).elim
      generalize hLb : ((pc, (6 : Int)) :: (ps, 5) :: (pd, 4) :: L) = Lb at l6
      refine dc_inv jkn wk2 hpj (Nat.lt_of_le_of_lt (jk_len BS) (by decide)) (fun pre f Hc => ∃ L, Lay H Hc L ∧ (pj, 7) ∈ L ∧ (∀ p ∈ Lb, p ∈ L) ∧ ∀ i ∈ pre, ∃ (q dx' ma' na' : Addr) (sv : V), f i = .ref q ∧ (q, 11 + 2 * i) ∈ L ∧ (ma', 8) ∈ L ∧ (na', 8) ∈ L ∧
            Hc q = some (.ins CJ dx' (jfs (kindS dn) (S.jo i) ma' na' sv)) ∧ Hc ma' = some (.lst []) ∧ Hc na' = some (.lst ((S.jo i).noted.map V.int)) ∧ SeenV H sv (S.jo i).seen ∧ q ≠ pj ∧ ma' ≠ pj ∧ na' ≠ pj ∧ H q = none ∧ H ma' = none ∧ H na' = none)
        (fun pre f Hc Hc' ⟨L, l, a1, a2, a3⟩ of lv => ⟨L, l.keep fun a ha => ?_, a1, a2, fun k hk => ?_⟩) (fun f => ⟨(pj, 7) :: Lb, ?_, List.mem_cons_self, fun p hp => List.mem_cons_of_mem _ hp, fun k hk => (nomatch hk)⟩) (fun Hc s => s _ _ e0')
        (fun k Hc _ _ Q' hq => hq) (fun k Hc _ _ Q' hq => ⟨_, rfl, hq⟩) (fun k pre f Hc hk kn s lD ⟨L, l, a1, a2, a3⟩ Q' hq => ?_) fun Hc f2 s hD ⟨L2, l', a1', a2', a3'⟩ => ?_
      · by_cases e : a = pj
        · rw [e]
          exact lv
        · cases e2 : Hc a with
          | none => exact (ha e2).elim
          | some u =>
            rw [of a u e e2]
            exact fun z => nomatch z
      · obtain ⟨q0, dx', ma', na', sv, b1, b2, b3, b4, b5, b6, b7, b8, b9, b10, b11, b12, b13, b14⟩ := a3 k hk
        exact ⟨q0, dx', ma', na', sv, b1, b2, b3, b4, of _ _ b9 b5, of _ _ b10 b6, of _ _ b11 b7, b8, b9, b10, b11, b12, b13, b14⟩
      · exact (l6.keep (H' := KM) fun a ha => el' ha).add 7 hpj (s6.free K6pj) (by rw [upd_same]; exact fun z => nomatch z) fun a ha => live_upd ha
      · obtain ⟨dj, ma, na, sv, hj, hma, hna, tma, tna, hsv⟩ := R.hjd k hk
        have tk := R.tjd k hk
        have kj := s _ _ (eoff' _ _ (fun e => by have := tk.1; rw [e, R.tj] at this; omega) (s6 _ _ hj))
        have km := s _ _ (eoff' _ _ (fun e => by rw [e, R.tj] at tma; omega) (s6 _ _ hma))
        have kna := s _ _ (eoff' _ _ (fun e => by rw [e, R.tj] at tna; omega) (s6 _ _ hna))
        refine ⟨_, rfl, y, CY, dx, _, _, rfl, s _ _ eM1, TY.cl, TY.jobs, yf_jobs .., _, rfl, A.j, _, rfl, dI_getF (s _ _ e0') hk, A.jd k, dj, _, rfl, kj, by kernel_rfl, A.jd k, dj, ma, na, kindS dn, S.jo k, sv, _, rfl, kj, km, kna, fun q0 dx' ma' na' H' c1 c2 c3 c4 c5 c6 c7 c8 c9 c10 => ?_⟩
        have fq := fromM s c1
        have fm := fromM s c2
        have fn := fromM s c3
        refine hq _ _ c7 ⟨(q0, 11 + 2 * k) :: (ma', 8) :: (na', 8) :: L, l.add3 _ _ _ c1 c2 c3 fq fm fn c4 c5 c6 (some_ne c8) (some_ne c9) (some_ne c10) fun a ha => ?_, ?_, fun p hp => List.mem_cons_of_mem _ (List.mem_cons_of_mem _ (List.mem_cons_of_mem _ (a2 p hp))), fun z hz => ?_⟩
        · cases e2 : Hc a with
          | none => exact (ha e2).elim
          | some u =>
            rw [c7 a u e2]
            exact fun z => nomatch z
        · exact List.mem_cons_of_mem _ (List.mem_cons_of_mem _ (List.mem_cons_of_mem _ a1))
        · by_cases e : z = k
          · subst e
            exact ⟨q0, dx', ma', na', sv, by rw [fupd_same], by simp, by simp, by simp, c8, c9, c10, hsv, fun e => lD (e ▸ c1), fun e => lD (e ▸ c2), fun e => lD (e ▸ c3), fq, fm, fn⟩
          · rw [fupd_ne e]
            obtain ⟨q1, dx1, ma1, na1, sv1, b1, b2, b3, b4, b5, b6, b7, b8, b9, b10, b11, b12, b13, b14⟩ := a3 z ((List.mem_append.mp hz).resolve_right fun h => e (List.mem_singleton.mp h))
            exact ⟨q1, dx1, ma1, na1, sv1, b1, List.mem_cons_of_mem _ (List.mem_cons_of_mem _ (List.mem_cons_of_mem _ b2)), List.mem_cons_of_mem _ (List.mem_cons_of_mem _ (List.mem_cons_of_mem _ b3)), List.mem_cons_of_mem _ (List.mem_cons_of_mem _ (List.mem_cons_of_mem _ b4)), c7 _ _ b5, c7 _ _ b6, c7 _ _ b7, b8, b9, b10, b11, b12, b13, b14⟩
      · have un2 := unl' s
        have s7 : Same H (upd Hc A.j (.dK (dI (fun x => .ref (A.jd x)) S.jk))) := Same.trans s6 un2
        refine ⟨s _ _ e0', ?_⟩
        have naj : ∀ {a : Addr}, H a = none → a ≠ A.j := fun h e => by
          rw [e, R.hj] at h
          cases h
        have Hpj : H pj = none := s6.free K6pj
        have x1 : (upd Hc A.j (.dK (dI (fun x => .ref (A.jd x)) S.jk))) pj = some (.dK (dI f2 S.jk)) := by rw [upd_ne (naj Hpj)]; exact hD
        have x2 : ∀ i ∈ S.jk, ∃ (q dx' ma' na' : Addr) (sv : V), f2 i = .ref q ∧ (q, 11 + 2 * i) ∈ L2 ∧ (ma', 8) ∈ L2 ∧ (na', 8) ∈ L2 ∧ (upd Hc A.j (.dK (dI (fun x => .ref (A.jd x)) S.jk))) q = some (.ins CJ dx' (jfs (kindS dn) (S.jo i) ma' na' sv)) ∧ (upd Hc A.j (.dK (dI (fun x => .ref (A.jd x)) S.jk))) ma' = some (.lst []) ∧
            (upd Hc A.j (.dK (dI (fun x => .ref (A.jd x)) S.jk))) na' = some (.lst ((S.jo i).noted.map V.int)) ∧ SeenV H sv (S.jo i).seen := fun i hi => by
          obtain ⟨q1, dx1, ma1, na1, sv1, b1, b2, b3, b4, b5, b6, b7, b8, b9, b10, b11, b12, b13, b14⟩ := a3' i hi
          exact ⟨q1, dx1, ma1, na1, sv1, b1, b2, b3, b4, by rw [upd_ne (naj b12)]; exact b5, by rw [upd_ne (naj b13)]; exact b6, by rw [upd_ne (naj b14)]; exact b7, b8⟩
        have l7 : Lay H (upd Hc A.j (.dK (dI (fun x => .ref (A.jd x)) S.jk))) L2 := l'.keep fun a ha => live_upd ha
        have g7 : (upd Hc A.j (.dK (dI (fun x => .ref (A.jd x)) S.jk))) y' = _ := un2 _ _ g6
        generalize upd Hc A.j (.dK (dI (fun x => .ref (A.jd x)) S.jk)) = K7 at un2 s7 x1 x2 l7 g7 ⊢
        have ed2 : dI f2 S.jk = dI (fun k => .ref (adr (f2 k))) S.jk := dI_congr fun k hk => by
          obtain ⟨q1, _, _, _, _, b1, _⟩ := x2 k hk
          rw [b1]
          rfl
        rw [ed2] at x1
        obtain ⟨jd', hjd'⟩ : ∃ jd' : Int → Addr, jd' = fun k => adr (f2 k) := ⟨_, rfl⟩
        have x1 : K7 pj = some (.dK (dI (fun k => .ref (jd' k)) S.jk)) := by rw [hjd']; exact x1
        have x2 : ∀ i ∈ S.jk, ∃ (dx' ma' na' : Addr) (sv : V), (jd' i, 11 + 2 * i) ∈ L2 ∧ (ma', 8) ∈ L2 ∧ (na', 8) ∈ L2 ∧ K7 (jd' i) = some (.ins CJ dx' (jfs (kindS dn) (S.jo i) ma' na' sv)) ∧ K7 ma' = some (.lst []) ∧ K7 na' = some (.lst ((S.jo i).noted.map V.int)) ∧ SeenV H sv (S.jo i).seen := fun i hi => by
          obtain ⟨q1, dx1, ma1, na1, sv1, b1, b2⟩ := x2 i hi
          rw [hjd']
          exact ⟨dx1, ma1, na1, sv1, by show (adr (f2 i), _) ∈ L2 ∧ _ ∧ _ ∧ K7 (adr (f2 i)) = _ ∧ _; rw [b1]; exact b2⟩
        have inL2 : ∀ p ∈ Lb, p ∈ L2 := a2'
        have mem : ∀ {p : Addr × Int}, p ∈ ((pc, (6 : Int)) :: (ps, 5) :: (pd, 4) :: L) → p ∈ L2 := fun {p} h => inL2 _ (by rw [← hLb]; exact h)
        have ly2 : (y', (1 : Int)) ∈ L2 := mem (List.mem_cons_of_mem _ (List.mem_cons_of_mem _ (List.mem_cons_of_mem _ ly')))
        have npj : pj ≠ y' := l'.apart a1' ly2 (by decide)
        refine ⟨_, rfl, y', CY, dy, _, rfl, g7, TY.cl, TY.jobs, yf_len, ?_⟩
        rw [yf_put_jobs]
        refine ⟨_, rfl, y, CY, dx, _, _, rfl, by rw [upd_ne (ne_of_none h1 ny)]; exact s7 _ _ h1, TY.cl, TY.begun, yf_begun .., ?_⟩
        refine ⟨_, rfl, y', CY, dy, _, rfl, upd_same, TY.cl, TY.begun, yf_len, ?_⟩
        rw [upd_upd, yf_put_begun]
        refine ⟨_, rfl, ?_⟩
        obtain ⟨s8, l8, f8⟩ := stage2 s7 ny l7 (.ins CY dy (yfs bk n { A0 with b := pb, o := po, d := pd, s := ps, c := pc, j := pj } S.bg))
        have g8 : (upd K7 y' (.ins CY dy (yfs bk n { A0 with b := pb, o := po, d := pd, s := ps, c := pc, j := pj } S.bg))) y' = some (.ins CY dy (yfs bk n { A0 with b := pb, o := po, d := pd, s := ps, c := pc, j := pj } S.bg)) := upd_same
        refine q y' ⟨pb, po, pd, ps, pc, pj, od', A.dd, A.cd, jd'⟩ _ (tagOf L2) s8 ⟨⟨dy, g8⟩, ?_, ?_⟩ fun a ha => l8.fresh ha
        · generalize upd K7 y' (.ins CY dy (yfs bk n { A0 with b := pb, o := po, d := pd, s := ps, c := pc, j := pj } S.bg)) = K8 at s8 l8 f8 g8 ⊢
          have o67 : ∀ {a : Addr} {o : HO}, a ≠ y' → K6 a = some o → K8 a = some o := fun n h => f8 _ _ n (un2 _ _ h)
          have tb : (pb, (2 : Int)) ∈ L2 := mem (List.mem_cons_of_mem _ (List.mem_cons_of_mem _ (List.mem_cons_of_mem _ lpb)))
          have to_ : (po, (3 : Int)) ∈ L2 := mem (List.mem_cons_of_mem _ (List.mem_cons_of_mem _ (List.mem_cons_of_mem _ a1)))
          refine ⟨o67 npb (f6 _ _ npb (f5 _ _ npb (f4' _ _ npb (f3 _ _ npb v2b)))), o67 npo (f6 _ _ npo (f5 _ _ npo (f4' _ _ npo (f3 _ _ npo w1)))), o67 nd (f6 _ _ nd (f5 _ _ nd v4d)), o67 ns (f6 _ _ ns v5s), o67 nc v6c, f8 _ _ npj x1,
            fun x hx => ?_, fun x hx => s8 _ _ (R.hdd x hx), fun x hx => s8 _ _ (R.hcd x hx), fun i hi => ?_, l8.tag ly2, l8.tag tb, l8.tag to_, l8.tag (mem (by simp)), l8.tag (mem (by simp)), l8.tag (mem (by simp)), l8.tag a1', fun x hx => ?_, fun i hi => ?_, l8.live⟩
          · have := nod x hx
            exact o67 this (f6 _ _ this (f5 _ _ this (f4' _ _ this (f3 _ _ this (w2 x hx).2))))
          · obtain ⟨dx1, ma1, na1, sv1, b1, b2, b3, b4, b5, b6, b7⟩ := x2 i hi
            have t := R.tjd i hi
            exact ⟨dx1, ma1, na1, sv1, f8 _ _ (l'.apart b1 ly2 (by omega)) b4, f8 _ _ (l'.apart b2 ly2 (by decide)) b5, f8 _ _ (l'.apart b3 ly2 (by decide)) b6, l8.tag b2, l8.tag b3, b7.stay fun t xs z => s8 _ _ z⟩
          · exact ⟨l8.tag (mem (List.mem_cons_of_mem _ (List.mem_cons_of_mem _ (List.mem_cons_of_mem _ (w2 x hx).1)))), (R.tod x hx).2⟩
          · obtain ⟨dx1, ma1, na1, sv1, b1, _⟩ := x2 i hi
            exact ⟨l8.tag b1, (R.tjd i hi).2⟩
        · cases Classical.em (tagOf L2 bk = 0) with
          | inl h => exact h
          | inr h =>
            obtain ⟨db, fs, hb⟩ := hB.ins
            have := l8.fresh h
            rw [hb] at this
            cases this
end
end K20W
end
/-! Ru3 -/
section
set_option Elab.async false
set_option linter.all false
set_option maxRecDepth 100000
set_option maxHeartbeats 4000000
/-! repr of nested lists, tuples, dicts of int keys. -/
namespace K20W
open PySem L2 K20
mutual
/-- what a value is, as data -/
inductive DR (H : Hp) : V → PyData → Prop
  | non : DR H .non .none
  | bl (b : Bool) : DR H (.bl b) (.bool b)
  | int (i : Int) : DR H (.int i) (.int i)
  | str (x : Str) : DR H (.str x) (.str x)
  | lst {a : Addr} {xs : List V} {ds : List PyData} : H a = some (.lst xs) → DRs H xs ds → DR H (.ref a) (.list ds)
  | tup {a : Addr} {xs : List V} {ds : List PyData} : H a = some (.tup xs) → DRs H xs ds → DR H (.ref a) (.tuple ds)
  | dic {a : Addr} {kvs : List (Key × V)} {es : List (Int × PyData)} : H a = some (.dK kvs) → DRk H kvs es → DR H (.ref a) (.dict (es.map fun e => (.int e.1, e.2)))
inductive DRs (H : Hp) : List V → List PyData → Prop
  | nil : DRs H [] []
  | cons {v : V} {vs : List V} {d : PyData} {ds : List PyData} : DR H v d → DRs H vs ds → DRs H (v :: vs) (d :: ds)
inductive DRk (H : Hp) : List (Key × V) → List (Int × PyData) → Prop
  | nil : DRk H [] []
  | cons {k : Int} {v : V} {kvs : List (Key × V)} {d : PyData} {es : List (Int × PyData)} : DR H v d → DRk H kvs es → DRk H ((Sum.inl k, v) :: kvs) ((k, d) :: es)
end
mutual
theorem DR.same {H H' : Hp} (s : Same H H') : ∀ {v : V} {d : PyData}, DR H v d → DR H' v d
  | _, _, .non => .non
  | _, _, .bl b => .bl b
  | _, _, .int i => .int i
  | _, _, .str x => .str x
  | _, _, .lst h q => .lst (s _ _ h) (DRs.same s q)
  | _, _, .tup h q => .tup (s _ _ h) (DRs.same s q)
  | _, _, .dic h q => .dic (s _ _ h) (DRk.same s q)
theorem DRs.same {H H' : Hp} (s : Same H H') : ∀ {v : List V} {d : List PyData}, DRs H v d → DRs H' v d
  | _, _, .nil => .nil
  | _, _, .cons a b => .cons (DR.same s a) (DRs.same s b)
theorem DRk.same {H H' : Hp} (s : Same H H') : ∀ {v : List (Key × V)} {d : List (Int × PyData)}, DRk H v d → DRk H' v d
  | _, _, .nil => .nil
  | _, _, .cons a b => .cons (DR.same s a) (DRk.same s b)
end
theorem DRs.append {H : Hp} {a b : List V} {c d : List PyData} (h : DRs H a c) (k : DRs H b d) : DRs H (a ++ b) (c ++ d) := by
  induction a generalizing c with
  | nil => cases h; exact k
  | cons x r ih => cases h with
    | cons p q => exact .cons p (ih q)
theorem DRs.ints {H : Hp} : ∀ l : List Int, DRs H (l.map V.int) (l.map PyData.int)
  | [] => .nil
  | i :: r => .cons (.int i) (DRs.ints r)
theorem DRk.dI {H : Hp} {g : Int → V} {d : Int → PyData} : ∀ {ks : List Int}, (∀ k ∈ ks, DR H (g k) (d k)) → DRk H (dI g ks) (ks.map fun k => (k, d k))
  | [], _ => .nil
  | k :: r, h => .cons (h k List.mem_cons_self) (DRk.dI fun x hx => h x (List.mem_cons_of_mem _ hx))
section
variable {X : Cx} {pins : List (Addr × Obj)} {σ : St} {H : Hp} {s : Shared}
theorem sys_none (I : Inv X pins σ H s) (hk : X.K.lookup sysModules ≠ none) : H sysModules = none := by
  cases e : X.K.lookup sysModules with
  | none => exact (hk e).elim
  | some o => exact (I.bs sysModules o (I.mod.kin sysModules o e)).2
/-- keys that are ints, as data -/
theorem keys_read {h : Heap} {kvs : List (Key × V)} {es : List (Int × PyData)} (h1 : DRk H kvs es) : ∀ {vs : List (Key × Value)} {ents : List DictEntry}, KV kvs vs → PySem.Pairs (mixKind X.prog X.w) ents vs → ReadsAll h (ents.map (·.key)) (es.map fun e => PyData.int e.1) [] := by
  revert h1
  induction kvs generalizing es with
  | nil =>
    intro h1 vs ents r p
    cases h1
    cases r
    cases p
    exact .nil
  | cons a l ih =>
    intro h1 vs ents r p
    cases h1 with
    | @cons k0 v0 kvs0 d0 es0 hv hr =>
      cases r with
      | cons r1 r2 =>
        cases p with
        | @cons e kv es' kvs' p1 p2 p3 =>
          obtain ⟨e1, e2⟩ := r1
          have q : (mixKind X.prog X.w).is (Sum.inl k0) e.key = true := by
            rw [← e1] at p1
            exact p1
          have : ∃ t, e.key = Value.int k0 t := by
            rcases keyIs_shape (show keyIs (Sum.inl k0) e.key = true from q) with ⟨i, t, h2, h3⟩ | ⟨x, t, h2, h3⟩
            · cases h2
              exact ⟨t, h3⟩
            · cases h2
          obtain ⟨t, ht⟩ := this
          have k := ih hr r2 p3
          show ReadsAll h (e.key :: es'.map (·.key)) _ _
          rw [ht]
          exact ReadsAll.cons (Reads.int _ t) k
mutual
theorem DR.reads (I : Inv X pins σ H s) (hn : H sysModules = none) : ∀ {v : V} {d : PyData}, DR H v d → ∀ u : Value, RelV v u → ∃ as, Reads s.heap u d as ∧ sysModules ∉ as
  | _, _, .non, _, r => by
    cases r
    exact ⟨_, Reads.none, fun z => nomatch z⟩
  | _, _, .bl b, _, r => by
    cases r
    exact ⟨_, Reads.bool b, fun z => nomatch z⟩
  | _, _, .int i, _, r => by
    obtain ⟨t, rfl⟩ := r
    exact ⟨_, Reads.int i t, fun z => nomatch z⟩
  | _, _, .str x, _, r => by
    obtain ⟨t, rfl⟩ := r
    exact ⟨_, Reads.str x t, fun z => nomatch z⟩
  | _, _, .lst hs ha, _, r => by
    cases r
    obtain ⟨its, rv, ⟨o, n, ho, hc, _, hd⟩, _⟩ := I.list (SqL.of hs)
    obtain ⟨as, hr, hq⟩ := DRs.reads I hn ha _ rv
    refine ⟨_, Reads.list ho hc hd hr, fun z => ?_⟩
    rcases List.mem_cons.mp z with z | z
    · rw [z] at hn
      rw [hn] at hs
      cases hs
    · exact hq z
  | _, _, .tup hs ha, _, r => by
    cases r
    obtain ⟨its, rv, ⟨o, ho, hc, n, hd⟩, _⟩ := I.tuple (SqT.of hs)
    obtain ⟨as, hr, hq⟩ := DRs.reads I hn ha _ rv
    exact ⟨_, Reads.tuple ho hc hd hr, hq⟩
  | _, _, .dic (es := es) hs ha, _, r => by
    cases r
    obtain ⟨z, hd, vs, rel, o, ents, n, ho, hx, h3, _, hp, _⟩ := dk_of I.hok hs
    obtain ⟨bs, hr, hq⟩ := DRk.reads I hn ha _ _ rel hp
    have hk := keys_read (h := s.heap) ha rel hp
    have hk' : ReadsAll s.heap (ents.toList.map (·.key)) ((es.map fun e => (PyData.int e.1, e.2)).map (·.1)) [] := by
      rw [List.map_map]
      exact hk
    have hv' : ReadsAll s.heap (ents.toList.map (·.val)) ((es.map fun e => (PyData.int e.1, e.2)).map (·.2)) bs := by
      rw [List.map_map]
      exact hr
    refine ⟨_, Reads.dict ho hx.1 h3 hk' hv', fun z => ?_⟩
    rcases List.mem_append.mp z with z | z
    · have z := List.mem_singleton.mp z
      rw [z] at hn
      rw [hn] at hs
      cases hs
    · exact hq z
theorem DRs.reads (I : Inv X pins σ H s) (hn : H sysModules = none) : ∀ {vs : List V} {ds : List PyData}, DRs H vs ds → ∀ us : List Value, Vals vs us → ∃ as, ReadsAll s.heap us ds as ∧ sysModules ∉ as
  | _, _, .nil, _, r => by
    cases r
    exact ⟨_, ReadsAll.nil, fun z => nomatch z⟩
  | _, _, .cons h1 h2, _, r => by
    cases r with
    | cons r1 r2 =>
      obtain ⟨as, q1, p1⟩ := DR.reads I hn h1 _ r1
      obtain ⟨bs, q2, p2⟩ := DRs.reads I hn h2 _ r2
      exact ⟨_, ReadsAll.cons q1 q2, fun z => (List.mem_append.mp z).elim p1 p2⟩
theorem DRk.reads (I : Inv X pins σ H s) (hn : H sysModules = none) : ∀ {kvs : List (Key × V)} {es : List (Int × PyData)}, DRk H kvs es → ∀ (vs : List (Key × Value)) (ents : List DictEntry), KV kvs vs → PySem.Pairs (mixKind X.prog X.w) ents vs → ∃ as, ReadsAll s.heap (ents.map (·.val)) (es.map (·.2)) as ∧ sysModules ∉ as
  | _, _, .nil, _, _, r, p => by
    cases r
    cases p
    exact ⟨_, ReadsAll.nil, fun z => nomatch z⟩
  | _, _, .cons h1 h2, _, _, r, p => by
    cases r with
    | cons r1 r2 =>
      cases p with
      | cons p1 p2 p3 =>
        obtain ⟨as, q1, o1⟩ := DR.reads I hn h1 _ r1.2
        obtain ⟨bs, q2, o2⟩ := DRk.reads I hn h2 _ _ r2 p3
        refine ⟨_, ?_, fun z => (List.mem_append.mp z).elim o1 o2⟩
        rw [List.map_cons, List.map_cons, p2]
        exact ReadsAll.cons q1 q2
end
end
section
variable {X : Cx}
/-- repr(x), where no guard stands around -/
theorem call_repr (hg : X.A.guards = some []) (hk : X.K.lookup sysModules ≠ none) (hu : X.A.units + 100 < cLine) : CallR X (.builtin "repr") (fun xs H Q => ∃ (a : Addr) (d : PyData), xs = [.ref a] ∧ DR H (.ref a) d ∧ d.showable = true ∧ d.depth ≤ 90 ∧ d.shown.length ≤ sizeLine ∧ Q (.str d.shown) H) := by
  intro pins s σ H xs us Q I r h
  obtain ⟨a, d, rfl, hd, hs, hdp, hsz, q⟩ := h
  obtain ⟨u, rfl, rx⟩ := vals1 r
  obtain ⟨as, hr, hn⟩ := DR.reads I (sys_none I hk) hd u rx
  cases rx
  exact PySem.repr_of_reads' hr hs (fun _ => hn) hg (by omega) (fun _ _ e => e) (fun h' u tk hk => ⟨.str d.shown, H, I.kept hk, ⟨_, rfl⟩, q⟩) hsz
end
end K20W
end
/-! Tell -/
section
set_option Elab.async false
set_option linter.all false
set_option maxRecDepth 100000
set_option maxHeartbeats 4000000
/-! A yard, told as data. -/
namespace K20W
open PySem L2 K20
/-! ### rising lists are told by their members -/
theorem rising_eq : ∀ {l m : List Int}, l.Pairwise (· < ·) → m.Pairwise (· < ·) → (∀ x, x ∈ l ↔ x ∈ m) → l = m
  | [], [], _, _, _ => rfl
  | [], b :: m, _, _, h => by have := (h b).mpr List.mem_cons_self; cases this
  | a :: l, [], _, _, h => by have := (h a).mp List.mem_cons_self; cases this
  | a :: l, b :: m, hl, hm, h => by
    obtain ⟨l1, l2⟩ := List.pairwise_cons.mp hl
    obtain ⟨m1, m2⟩ := List.pairwise_cons.mp hm
    have e : a = b := by
      rcases List.mem_cons.mp ((h a).mp List.mem_cons_self) with q | q
      · exact q
      · rcases List.mem_cons.mp ((h b).mpr List.mem_cons_self) with p | p
        · exact p.symm
        · have := m1 a q
          have := l1 b p
          omega
    subst e
    rw [rising_eq l2 m2 fun x => ⟨fun hx => ?_, fun hx => ?_⟩]
    · rcases List.mem_cons.mp ((h x).mp (List.mem_cons_of_mem _ hx)) with q | q
      · have := l1 x hx
        omega
      · exact q
    · rcases List.mem_cons.mp ((h x).mpr (List.mem_cons_of_mem _ hx)) with q | q
      · have := m1 x hx
        omega
      · exact q
theorem rising_of {l : List Int} (h : l.Pairwise (· ≤ ·)) (n : l.Nodup) : l.Pairwise (· < ·) := by
  refine (h.and n).imp ?_
  rintro a b ⟨h1, h2⟩
  omega
/-- a sorted list of the members of a rising one -/
theorem sorted_eq {l m : List Int} (hp : l.Perm m) (hs : l.Pairwise (· ≤ ·)) (hm : m.Pairwise (· < ·)) : l = m :=
  rising_eq (rising_of hs (hp.nodup_iff.mpr (hm.imp fun {a b} h => by omega))) hm fun x => hp.mem_iff
theorem rng_rising (n : Nat) : (rng n).Pairwise (· < ·) := by
  unfold rng
  rw [List.pairwise_map]
  exact List.pairwise_lt_range.imp fun {a b} h => by omega
/-- the cells that a layer owns, in order -/
def kc (n : Nat) (r : Row) : List Int := (rng n).filter fun c => has r c
theorem has_mem {r : Row} {c : Int} : has r c = true ↔ c ∈ r.map (·.1) := by
  unfold has
  induction r with
  | nil => simp [K20.get]
  | cons p q ih =>
    by_cases e : p.1 = c
    · rw [get_pos e]
      simp [e]
    · rw [get_neg e, List.map_cons, List.mem_cons]
      rw [ih]
      exact ⟨.inr, fun h => h.resolve_left fun z => e z.symm⟩
theorem kc_mem {n : Nat} {r : Row} (h : RowOk n r) {c : Int} : c ∈ kc n r ↔ c ∈ r.map (·.1) := by
  unfold kc
  rw [List.mem_filter, has_mem]
  refine ⟨fun h => h.2, fun hc => ⟨?_, hc⟩⟩
  obtain ⟨p, hp, rfl⟩ := List.mem_map.mp hc
  exact mem_rng.mpr (h.ks p hp)
theorem kc_eq {n : Nat} {r : Row} (h : RowOk n r) {l : List Int} (hp : l.Perm (r.map (·.1))) (hs : l.Pairwise (· ≤ ·)) : l = kc n r :=
  rising_eq (rising_of hs (hp.nodup_iff.mpr h.nd)) ((rng_rising n).filter _) fun x => by rw [hp.mem_iff, kc_mem h]
def cellV (r : Row) (c : Int) : Int := (get r c).getD 0
def oD : Option Int → PyData
  | none => .none
  | some i => .int i
def rowE (n : Nat) (r : Row) : List (Int × PyData) := (kc n r).map fun c => (c, .int (cellV r c))
def dicD (es : List (Int × PyData)) : PyData := .dict (es.map fun e => (.int e.1, e.2))
def layerD (n : Nat) (S : Vs) (x : Int) : PyData := .tuple [oD (S.bs x), dicD (rowE n (S.ow x))]
def layersD (n : Nat) (S : Vs) : PyData := dicD (S.ok.map fun x => (x, layerD n S x))
def writersD (S : Vs) : PyData := dicD ((rng S.nw).map fun w => (w, .int (S.se w)))
def jobD (dn : Bool) (J : Jb) : PyData := .tuple [.str (kindS dn), .int J.up, .int J.lo, .int J.pl, .tuple []]
def jobsD (dn : Bool) (S : Vs) : PyData := dicD (S.jk.map fun i => (i, jobD dn (S.jo i)))
def wrongD : Option (Int × Int) → PyData
  | none => .none
  | some (x, c) => .tuple [.int x, .int c]
def tellD (dn : Bool) (n : Nat) (S : Vs) : PyData := .list ([layersD n S, writersD S, jobsD dn S, wrongD (wrong S n), .int n] ++ (rng S.nw).map fun w => .tuple ((S.co w).map PyData.int))
theorem DR.oV {H : Hp} (o : Option Int) : DR H (oV o) (oD o) := by
  cases o with
  | none => exact .non
  | some i => exact .int i
end K20W
end
/-! W17 -/
section
set_option Elab.async false
set_option linter.all false
set_option maxRecDepth 100000
set_option maxHeartbeats 4000000
/-! layers, writers, jobs. -/
namespace K20W
open PySem L2 K20
section
variable {P : Program} {w : World} {K : PySem.W.Frag} {mg : Str → Option Value} {base : Heap} {f CY CB CJ : Addr} {fd : FuncData}
def spWriters (CY CJ : Addr) : Sp := fun vs H Q _ => ∃ (y bk : Addr) (dn : Bool) (n : Nat) (A : Ad) (S : Vs) (D : Du) (τ : Addr → Int), vs = [.ref y] ∧ YA CY CJ dn bk n H y A S D τ ∧ ∀ v H', Same H H' → DR H' v (writersD S) → Q v H'
theorem ok_writers (Bt : Blt mg) (TY : YardC K CY) (F : Fu K "writers" "Yard.writers" (s_yard 4) f fd) : FnOk P w K mg base CX0 1 f fd ["self"] (spWriters CY CJ) := by
  have sc : FnScope ["self"] ["self"] (defScope (s_yard 4)) := ⟨rfl, rfl, rfl, by decide +kernel, rfl, by decide +kernel, by decide +kernel⟩
  refine F.ok sc (fun vs H Q E h => ?_) (fun cdv A outer s H vs Q E hr h => ?_)
  · obtain ⟨y, _, _, _, _, _, _, _, rfl, _⟩ := h
    rfl
  · obtain ⟨y, bk, dn, n, A, S, D, τ, rfl, Y, q⟩ := h
    obtain ⟨⟨dx, h1⟩, R, b0⟩ := id Y
    refine ⟨_, pss_one (ps_ret (pe_callTy call_dictD rfl Bt.dict boot_dict (pa_cons (pe_fld (pv 0) rfl) pa_nil))), ?_⟩
    refine ⟨_, rfl, y, CY, dx, _, _, rfl, h1, TY.cl, TY.seats, yf_seats .., A.s, _, rfl, .inl R.hs, fun p hp => ?_⟩
    exact q _ _ (Same.newS (Same.refl _) hp) (.dic upd_same (DRk.dI fun k _ => .int _))
theorem tasks_get {g : Int → V} {ks : List Int} {i : Nat} (hi : i < (dI g ks).length) : ∃ k, ks[i]? = some k ∧ (dI g ks)[i]? = some (Sum.inl k, g k) := by
  rw [dI_length] at hi
  refine ⟨ks[i], by simp [hi], ?_⟩
  unfold dI
  rw [List.getElem?_map]
  simp [hi]
def spJobs (CY CJ : Addr) : Sp := fun vs H Q _ => ∃ (y bk : Addr) (dn : Bool) (n : Nat) (A : Ad) (S : Vs) (D : Du) (τ : Addr → Int), vs = [.ref y] ∧ YA CY CJ dn bk n H y A S D τ ∧ Base n S ∧ ∀ v H', Same H H' → DR H' v (jobsD dn S) → Q v H'
theorem ok_jobs (Bt : Blt mg) (TY : YardC K CY) (TJ : JobC K CJ) (F : Fu K "jobs" "Yard.jobs" (s_yard 5) f fd) : FnOk P w K mg base CX0 1 f fd ["self"] (spJobs CY CJ) := by
  have sc : FnScope ["self", "found", "number", "job"] ["self"] (defScope (s_yard 5)) := ⟨rfl, rfl, rfl, by decide +kernel, rfl, by decide +kernel, by decide +kernel⟩
  refine F.ok sc (fun vs H Q E h => ?_) (fun cdv A outer s H vs Q E hr h => ?_)
  · obtain ⟨y, _, _, _, _, _, _, _, rfl, _⟩ := h
    rfl
  · obtain ⟨y, bk, dn, n, A, S, D, τ, rfl, Y, BS, q⟩ := h
    have hu := hu_of hr
    obtain ⟨⟨dx, h1⟩, R, b0⟩ := id Y
    refine ⟨_, PSs.nox (pss_cons (ps_set (i := 1) sc.nd rfl (.inl rfl) pe_dnewK)
      (pss_cons (ps_lock (ps_for PassesOwn.never rfl (pi_items (pe_fld (pv 0) rfl)) (pg_tup rfl (pgs_cons (pg_name (i := 2) sc.nd rfl (Or.inl rfl)) (pgs_cons (pg_name (i := 3) sc.nd rfl (Or.inl rfl)) pgs_nil)))
        (pss_one (ps_dput hu (pv 1) (pv 2) (pe_tup (pa_cons (pe_fld (pv 3) rfl) (pa_cons (pe_fld (pv 3) rfl) (pa_cons (pe_fld (pv 3) rfl) (pa_cons (pe_fld (pv 3) rfl) (pa_cons (pe_callTy call_tuple_of rfl Bt.tuple boot_tuple (pa_cons (pe_fld (pv 3) rfl) pa_nil)) pa_nil)))))) rfl))))
      (pss_one (ps_ret (pv 1))))), ?_⟩
    intro F0 hF0
    have s0 : Same H (upd H F0 (.dK [])) := Same.newS (Same.refl _) hF0
    have vF : (upd H F0 (.dK [])) F0 = some (.dK []) := upd_same
    generalize upd H F0 (.dK []) = H0 at s0 vF ⊢
    refine ⟨A.j, _, s0 _ _ R.hj, trivial, fun od => ?_⟩
    have yj : y ≠ A.j := tag_ne R.tp R.tj (by decide)
    have e0 : (upd H0 A.j (.frz od (.dK (dI (fun x => .ref (A.jd x)) S.jk)))) A.j = some (.frz od (.dK (dI (fun x => .ref (A.jd x)) S.jk))) := upd_same
    have off : Off A.j H0 (upd H0 A.j (.frz od (.dK (dI (fun x => .ref (A.jd x)) S.jk)))) := Off.upd _
    have nF : F0 ≠ A.j := (ne_of_none R.hj hF0).symm
    have unl : ∀ {Kx : Hp}, (∀ b o, b ≠ F0 → (upd H0 A.j (.frz od (.dK (dI (fun x => .ref (A.jd x)) S.jk)))) b = some o → Kx b = some o) → Same H (upd Kx A.j (.dK (dI (fun x => .ref (A.jd x)) S.jk))) := fun {Kx} k b o hb => by
      by_cases e : b = A.j
      · rw [e, R.hj] at hb
        cases hb
        rw [e, upd_same]
      · rw [upd_ne e]
        exact k b o (ne_of_none hb hF0) (by rw [upd_ne e]; exact s0 _ _ hb)
    generalize upd H0 A.j (.frz od (.dK (dI (fun x => .ref (A.jd x)) S.jk))) = H1 at e0 off unl ⊢
    have g1 := off _ _ yj (s0 _ _ h1)
    have gF := off _ _ nF vF
    refine ⟨_, rfl, y, CY, dx, _, _, rfl, g1, TY.cl, TY.jobs, yf_jobs .., A.j, od, _, rfl, e0, ?_⟩
    have jkn : S.jk.Nodup := BS.jn.imp fun {a b} h => by omega
    refine for_it (walk_items (kvs := dI (fun x => .ref (A.jd x)) S.jk)) (fun i σ H' => (∃ a b, σ = [some (.ref y), some (.ref F0), a, b]) ∧ Off F0 H1 H' ∧ ∃ g : Int → V, H' F0 = some (.dK (dI g (S.jk.take i))) ∧ ∀ k ∈ S.jk.take i, ∃ t t0, g k = .ref t ∧ H' t = some (.tup [.str (kindS dn), .int (S.jo k).up, .int (S.jo k).lo, .int (S.jo k).pl, .ref t0]) ∧ H' t0 = some (.tup []))
      ⟨⟨_, _, rfl⟩, Off.refl, fun _ => .non, gF, fun k hk => (nomatch hk)⟩ (fun i σ H' _ h => h.2.1 _ _ nF.symm e0) ?_ ?_
    · rintro i x σ H' H2 hi ⟨⟨a0, b1, rfl⟩, of, g, hg, hgk⟩ ⟨T, u, v, rfl, hT, rfl, h3, h4⟩
      obtain ⟨k, hk0, hk1⟩ := tasks_get hi
      have h3 : ((dI (fun x => V.ref (A.jd x)) S.jk)[i]?).map (fun kv => kV kv.1) = some u := h3
      have h4 : ((dI (fun x => V.ref (A.jd x)) S.jk)[i]?).map Prod.snd = some v := h4
      rw [hk1] at h3 h4
      cases h3
      cases h4
      have km : k ∈ S.jk := List.mem_of_getElem? hk0
      have tk1 : S.jk.take (i + 1) = S.jk.take i ++ [k] := by
        rw [List.take_add_one, hk0]
        rfl
      have kn : k ∉ S.jk.take i := fun h => by
        have h2 : (S.jk.take (i + 1)).Nodup := jkn.sublist (List.take_sublist _ _)
        rw [tk1, List.nodup_append] at h2
        exact h2.2.2 k h k (List.mem_singleton.mpr rfl) rfl
      have sT : Same H' (upd H' T (.tup [kV (Sum.inl k), .ref (A.jd k)])) := Same.newS (Same.refl _) hT
      refine ⟨T, _, rfl, SqT.of upd_same, rfl, _, _, rfl, _, _, rfl, rfl, ?_⟩
      have tT : (upd H' T (.tup [kV (Sum.inl k), .ref (A.jd k)])) T ≠ none := by rw [upd_same]; exact fun z => nomatch z
      generalize upd H' T (.tup [kV (Sum.inl k), .ref (A.jd k)]) = H3 at sT ⊢
      obtain ⟨dj, ma, na, sv, hj, hma, _, tma, _, _⟩ := R.hjd k km
      have tk := R.tjd k km
      have lk : ∀ {a : Addr} {o : HO}, H a = some o → a ≠ A.j → H3 a = some o := fun h n => sT _ _ (of _ _ (ne_of_none h hF0) (off _ _ n (s0 _ _ h)))
      have kj := lk hj (fun e => by have := tk.1; rw [e, R.tj] at this; omega)
      have km2 := lk hma (fun e => by rw [e, R.tj] at tma; omega)
      refine ⟨_, rfl, A.jd k, CJ, dj, _, _, rfl, kj, TJ.cl, TJ.kind, jf_kind .., _, rfl, A.jd k, CJ, dj, _, _, rfl, kj, TJ.cl, TJ.upper, jf_upper .., _, rfl, A.jd k, CJ, dj, _, _, rfl, kj, TJ.cl, TJ.lower, jf_lower .., _, rfl, A.jd k, CJ, dj, _, _, rfl, kj, TJ.cl, TJ.place, jf_place ..,
        _, rfl, A.jd k, CJ, dj, _, _, rfl, kj, TJ.cl, TJ.marks, jf_marks .., ma, _, rfl, .inl ⟨SqL.of km2, fun t0 ht0 => ?_⟩⟩
      have st0 : Same H3 (upd H3 t0 (.tup [])) := Same.newS (Same.refl _) ht0
      have v0 : (upd H3 t0 (.tup [])) t0 = some (.tup []) := upd_same
      generalize upd H3 t0 (.tup []) = H4 at st0 v0 ⊢
      refine ⟨(show 5 ≤ sizeLine from by decide), fun t ht => ?_⟩
      have st : Same H4 (upd H4 t (.tup [.str (kindS dn), .int (S.jo k).up, .int (S.jo k).lo, .int (S.jo k).pl, .ref t0])) := Same.newS (Same.refl _) ht
      have vt : (upd H4 t (.tup [.str (kindS dn), .int (S.jo k).up, .int (S.jo k).lo, .int (S.jo k).pl, .ref t0])) t = some (.tup [.str (kindS dn), .int (S.jo k).up, .int (S.jo k).lo, .int (S.jo k).pl, .ref t0]) := upd_same
      generalize upd H4 t (.tup [.str (kindS dn), .int (S.jo k).up, .int (S.jo k).lo, .int (S.jo k).pl, .ref t0]) = H5 at st vt ⊢
      have s5 : Same H' H5 := Same.trans sT (Same.trans st0 st)
      have pF := dI_setNew (s5 _ _ hg) kn (by rw [List.length_take]; have := jk_len BS; omega) (.ref t)
      rw [← tk1] at pF
      refine ⟨_, rfl, _, rfl, F0, _, rfl, pF, ⟨_, _, rfl⟩, fun b o hb h => ?_, _, upd_same, fun z hz => ?_⟩
      · rw [upd_ne hb]
        exact s5 _ _ (of _ _ hb h)
      · have nt : ∀ {a : Addr} {xs : List V}, H5 a = some (.tup xs) → (upd H5 F0 (.dK (dI (fupd g k (.ref t)) (S.jk.take (i + 1))))) a = some (.tup xs) := fun h => by
          rw [upd_ne (ne_of h (s5 _ _ hg) (by intro z; cases z))]
          exact h
        by_cases e : z = k
        · subst e
          exact ⟨t, t0, by rw [fupd_same], nt vt, nt (st _ _ v0)⟩
        · rw [tk1] at hz
          obtain ⟨t', t0', b1, b2, b3⟩ := hgk z ((List.mem_append.mp hz).resolve_right fun h => e (List.mem_singleton.mp h))
          exact ⟨t', t0', by rw [fupd_ne e]; exact b1, nt (s5 _ _ b2), nt (s5 _ _ b3)⟩
    · rintro σ H2 ⟨⟨a0, b1, rfl⟩, of, g, hg, hgk⟩
      rw [dI_length, List.take_length] at hg hgk
      refine ⟨of _ _ nF.symm e0, _, rfl, q _ _ (unl fun b o hb h => of _ _ hb h) (.dic (by rw [upd_ne nF]; exact hg) (DRk.dI fun k hk => ?_))⟩
      obtain ⟨t, t0, b1, b2, b3⟩ := hgk k hk
      rw [b1]
      have nt : ∀ {a : Addr} {xs : List V}, H2 a = some (.tup xs) → (upd H2 A.j (.dK (dI (fun x => .ref (A.jd x)) S.jk))) a = some (.tup xs) := fun h => by
        rw [upd_ne (ne_of h (of _ _ nF.symm e0) (by intro z; cases z))]
        exact h
      exact .tup (nt b2) (.cons (.str _) (.cons (.int _) (.cons (.int _) (.cons (.int _) (.cons (.tup (nt b3) .nil) .nil)))))
def spLayersD (CY CJ : Addr) : Sp := fun vs H Q _ => ∃ (y bk : Addr) (dn : Bool) (n : Nat) (A : Ad) (S : Vs) (D : Du) (τ : Addr → Int), vs = [.ref y] ∧ YA CY CJ dn bk n H y A S D τ ∧ Base n S ∧ n ≤ 40 ∧ ∀ v H', Same H H' → DR H' v (layersD n S) → Q v H'
theorem row_keys (r : Row) : (rowV r).map (·.1) = (r.map (·.1)).map Sum.inl := by
  unfold rowV
  rw [List.map_map, List.map_map]
  rfl
theorem kc_len (n : Nat) (r : Row) : (kc n r).length ≤ n := by
  unfold kc
  refine Nat.le_trans (List.length_filter_le _ _) ?_
  rw [rng_length]
  exact Nat.le_refl _
theorem ok_layers (Bt : Blt mg) (TY : YardC K CY) (F : Fu K "layers" "Yard.layers" (s_yard 3) f fd) : FnOk P w K mg base CX0 1 f fd ["self"] (spLayersD CY CJ) := by
  have sc : FnScope ["self", "found", "layer", "owned", "cell"] ["self"] (defScope (s_yard 3)) := ⟨rfl, rfl, rfl, by decide +kernel, rfl, by decide +kernel, by decide +kernel⟩
  refine F.ok sc (fun vs H Q E h => ?_) (fun cdv A outer s H vs Q E hr h => ?_)
  · obtain ⟨y, _, _, _, _, _, _, _, rfl, _⟩ := h
    rfl
  · obtain ⟨y, bk, dn, n, A, S, D, τ, rfl, Y, BS, n40, q⟩ := h
    have hu := hu_of hr
    obtain ⟨⟨dx, h1⟩, R, b0⟩ := id Y
    refine ⟨_, PSs.nox (pss_cons (ps_set (i := 1) sc.nd rfl (.inl rfl) pe_dnewK)
      (pss_cons (ps_lock (ps_for PassesOwn.never rfl (pi_items (pe_fld (pv 0) rfl)) (pg_tup rfl (pgs_cons (pg_name (i := 2) sc.nd rfl (Or.inl rfl)) (pgs_cons (pg_name (i := 3) sc.nd rfl (Or.inr rfl)) pgs_nil)))
        (pss_one (ps_dput hu (pv 1) (pv 2) (pe_tup (pa_cons (pe_dget hu (pe_fld (pv 0) rfl) (pv 2) (fun _ _ => rfl)) (pa_cons
          (pe_dc (own := [("cell", 4)]) (g := gName 4) (tk := tVar 4) (by rfl) sc.nd (pi_list (pe_callB (call_sortedDI rfl) (by rfl) Bt.sorted boot_sorted (pa_cons (pv 3) pa_nil))) (blkOk_by (own := [("cell", 4)]) (N := ["self", "found", "layer", "owned", "cell"]) (sc := defScope (s_yard 3)) (by decide +kernel))
            (fun _ _ _ _ _ => pg_name (i := 4) sc.nd rfl (Or.inl rfl)) (fun _ _ _ _ _ => pts_nil) (fun _ _ _ _ _ => pv 4) (tv := tDGet (tVar 3) (tVar 4)) (fun _ _ _ _ _ => pe_dget hu (pv 3) (pv 4) (fun _ _ => rfl))) pa_nil))) rfl))))
      (pss_one (ps_ret (pv 1))))), ?_⟩
    intro F0 hF0
    have s0 : Same H (upd H F0 (.dK [])) := Same.newS (Same.refl _) hF0
    have vF : (upd H F0 (.dK [])) F0 = some (.dK []) := upd_same
    generalize upd H F0 (.dK []) = H0 at s0 vF ⊢
    refine ⟨A.o, _, s0 _ _ R.ho, trivial, fun od => ?_⟩
    have yj : y ≠ A.o := tag_ne R.tp R.to (by decide)
    have e0 : (upd H0 A.o (.frz od (.dK (dI (fun x => .ref (A.od x)) S.ok)))) A.o = some (.frz od (.dK (dI (fun x => .ref (A.od x)) S.ok))) := upd_same
    have off : Off A.o H0 (upd H0 A.o (.frz od (.dK (dI (fun x => .ref (A.od x)) S.ok)))) := Off.upd _
    have nF : F0 ≠ A.o := (ne_of_none R.ho hF0).symm
    have unl : ∀ {Kx : Hp}, (∀ b o, b ≠ F0 → (upd H0 A.o (.frz od (.dK (dI (fun x => .ref (A.od x)) S.ok)))) b = some o → Kx b = some o) → Same H (upd Kx A.o (.dK (dI (fun x => .ref (A.od x)) S.ok))) := fun {Kx} k b o hb => by
      by_cases e : b = A.o
      · rw [e, R.ho] at hb
        cases hb
        rw [e, upd_same]
      · rw [upd_ne e]
        exact k b o (ne_of_none hb hF0) (by rw [upd_ne e]; exact s0 _ _ hb)
    have lv1 : ∀ {a : Addr}, H0 a ≠ none → (upd H0 A.o (.frz od (.dK (dI (fun x => .ref (A.od x)) S.ok)))) a ≠ none := fun h => live_upd h
    generalize upd H0 A.o (.frz od (.dK (dI (fun x => .ref (A.od x)) S.ok))) = H1 at e0 off unl lv1 ⊢
    have g1 := off _ _ yj (s0 _ _ h1)
    have gF := off _ _ nF vF
    refine ⟨_, rfl, y, CY, dx, _, _, rfl, g1, TY.cl, TY.owned, yf_owned .., A.o, od, _, rfl, e0, ?_⟩
    have okn : S.ok.Nodup := BS.os.imp fun {a b} h => by omega
    refine for_it (walk_items (kvs := dI (fun x => .ref (A.od x)) S.ok)) (fun i σ H' => (∃ a b c, σ = [some (.ref y), some (.ref F0), a, b, c]) ∧ Off F0 H1 H' ∧ ∃ g : Int → V, H' F0 = some (.dK (dI g (S.ok.take i))) ∧ ∀ k ∈ S.ok.take i, ∃ t t0, g k = .ref t ∧ H' t = some (.tup [oV (S.bs k), .ref t0]) ∧ H' t0 = some (.dK (dI (fun c => .int (cellV (S.ow k) c)) (kc n (S.ow k)))) ∧ t0 ≠ F0 ∧ t0 ≠ A.o)
      ⟨⟨_, _, _, rfl⟩, Off.refl, fun _ => .non, gF, fun k hk => (nomatch hk)⟩ (fun i σ H' _ h => h.2.1 _ _ nF.symm e0) ?_ ?_
    · rintro i x σ H' H2 hi ⟨⟨a0, b1, c1, rfl⟩, of, g, hg, hgk⟩ ⟨T, u, v, rfl, hT, rfl, h3, h4⟩
      obtain ⟨k, hk0, hk1⟩ := tasks_get hi
      have h3 : ((dI (fun x => V.ref (A.od x)) S.ok)[i]?).map (fun kv => kV kv.1) = some u := h3
      have h4 : ((dI (fun x => V.ref (A.od x)) S.ok)[i]?).map Prod.snd = some v := h4
      rw [hk1] at h3 h4
      cases h3
      cases h4
      have km : k ∈ S.ok := List.mem_of_getElem? hk0
      have tk1 : S.ok.take (i + 1) = S.ok.take i ++ [k] := by
        rw [List.take_add_one, hk0]
        rfl
      have kn : k ∉ S.ok.take i := fun h => by
        have h2 : (S.ok.take (i + 1)).Nodup := okn.sublist (List.take_sublist _ _)
        rw [tk1, List.nodup_append] at h2
        exact h2.2.2 k h k (List.mem_singleton.mpr rfl) rfl
      have sT : Same H' (upd H' T (.tup [kV (Sum.inl k), .ref (A.od k)])) := Same.newS (Same.refl _) hT
      refine ⟨T, _, rfl, SqT.of upd_same, rfl, _, _, rfl, _, _, rfl, rfl, ?_⟩
      generalize upd H' T (.tup [kV (Sum.inl k), .ref (A.od k)]) = H3 at sT ⊢
      have tk := R.tod k km
      have RO := BS.ro k km
      have lk : ∀ {a : Addr} {o : HO}, H a = some o → a ≠ A.o → H3 a = some o := fun h n => sT _ _ (of _ _ (ne_of_none h hF0) (off _ _ n (s0 _ _ h)))
      have kod := lk (R.hod k km) (fun e => by have := tk.1; rw [e, R.to] at this; omega)
      refine ⟨_, rfl, y, CY, dx, _, _, rfl, lk h1 yj, TY.cl, TY.bases, yf_bases .., _, rfl, A.b, _, rfl, dI_get (lk R.hb (tag_ne R.tb R.to (by decide))) (mem_rng.mpr (BS.oi k km)), ?_⟩
      refine ⟨_, rfl, A.od k, _, (S.ow k).map (·.1), rfl, .inl kod, row_keys _, by rw [List.length_map]; have := row_len RO; omega, fun ys p hperm hsrt hp => ?_⟩
      have ey := kc_eq RO hperm hsrt
      subst ey
      have sp : Same H3 (upd H3 p (.lst ((kc n (S.ow k)).map V.int))) := Same.newS (Same.refl _) hp
      have vp : (upd H3 p (.lst ((kc n (S.ow k)).map V.int))) p = some (.lst ((kc n (S.ow k)).map V.int)) := upd_same
      generalize upd H3 p (.lst ((kc n (S.ow k)).map V.int)) = H4 at sp vp ⊢
      refine ⟨p, rfl, ⟨_, SqL.of vp⟩, fun t0 ht0 => ?_⟩
      have kcn : (kc n (S.ow k)).Nodup := ((rng_rising n).filter _).imp fun {a b} h => by omega
      refine dc_inv kcn (walk_list (K := K) (a := p) (xs := (kc n (S.ow k)).map V.int)) ht0 (Nat.lt_of_le_of_lt (kc_len _ _) (Nat.lt_of_le_of_lt n40 (by decide))) (fun pre f _ => ∀ c ∈ pre, f c = .int (cellV (S.ow k) c)) (fun _ _ _ _ h _ _ => h) (fun f c hc => (nomatch hc)) (fun Hc sc => SqL.of (sc _ _ vp))
        (fun c Hc _ _ Q' hq => hq) (fun c Hc _ _ Q' hq => ⟨_, rfl, hq⟩) (fun c pre f Hc hc cn sc _ hI Q' hq => ?_) fun Hc f sc hD hI => ?_
      · have hm := has_mem.mpr ((kc_mem RO).mp hc)
        have hg2 := row_get (sc _ _ (sp _ _ kod)) c
        have : (K20.get (S.ow k) c).map V.int = some (.int (cellV (S.ow k) c)) := by
          unfold cellV
          unfold has at hm
          cases e : K20.get (S.ow k) c with
          | none => rw [e] at hm; cases hm
          | some z => rfl
        rw [this] at hg2
        refine ⟨_, rfl, _, rfl, A.od k, _, rfl, hg2, hq _ _ (Same.refl _) fun z hz => ?_⟩
        by_cases e : z = c
        · subst e
          rw [fupd_same]
        · rw [fupd_ne e]
          exact hI z ((List.mem_append.mp hz).resolve_right fun h => e (List.mem_singleton.mp h))
      · have hD : Hc t0 = some (.dK (dI (fun c => .int (cellV (S.ow k) c)) (kc n (S.ow k)))) := by
          rw [hD]
          exact congrArg (fun l => some (HO.dK l)) (dI_congr hI)
        have s34 : Same H' Hc := Same.trans sT (Same.trans sp sc)
        refine ⟨(show 2 ≤ sizeLine from by decide), fun t ht => ?_⟩
        have st : Same Hc (upd Hc t (.tup [oV (S.bs k), .ref t0])) := Same.newS (Same.refl _) ht
        have vt : (upd Hc t (.tup [oV (S.bs k), .ref t0])) t = some (.tup [oV (S.bs k), .ref t0]) := upd_same
        generalize upd Hc t (.tup [oV (S.bs k), .ref t0]) = H5 at st vt ⊢
        have s5 : Same H' H5 := Same.trans s34 st
        have pF := dI_setNew (s5 _ _ hg) kn (by rw [List.length_take]; have := ok_len BS; omega) (.ref t)
        rw [← tk1] at pF
        have t0F : t0 ≠ F0 := (ne_of_none (sp _ _ (sT _ _ hg)) ht0).symm
        have t0o : t0 ≠ A.o := (ne_of_none (sp _ _ (sT _ _ (of _ _ nF.symm e0))) ht0).symm
        refine ⟨_, rfl, _, rfl, F0, _, rfl, pF, ⟨_, _, _, rfl⟩, fun b o hb h => ?_, _, upd_same, fun z hz => ?_⟩
        · rw [upd_ne hb]
          exact s5 _ _ (of _ _ hb h)
        · have nt : ∀ {a : Addr} {xs : List V}, H5 a = some (.tup xs) → (upd H5 F0 (.dK (dI (fupd g k (.ref t)) (S.ok.take (i + 1))))) a = some (.tup xs) := fun h => by
            rw [upd_ne (ne_of h (s5 _ _ hg) (by intro z; cases z))]
            exact h
          by_cases e : z = k
          · subst e
            exact ⟨t, t0, by rw [fupd_same], nt vt, by rw [upd_ne t0F]; exact st _ _ hD, t0F, t0o⟩
          · rw [tk1] at hz
            obtain ⟨t', t0', b1, b2, b3, b4, b5⟩ := hgk z ((List.mem_append.mp hz).resolve_right fun h => e (List.mem_singleton.mp h))
            exact ⟨t', t0', by rw [fupd_ne e]; exact b1, nt (s5 _ _ b2), by rw [upd_ne b4]; exact s5 _ _ b3, b4, b5⟩
    · rintro σ H2 ⟨⟨a0, b1, c1, rfl⟩, of, g, hg, hgk⟩
      rw [dI_length, List.take_length] at hg hgk
      refine ⟨of _ _ nF.symm e0, _, rfl, q _ _ (unl fun b o hb h => of _ _ hb h) (.dic (by rw [upd_ne nF]; exact hg) (DRk.dI fun k hk => ?_))⟩
      obtain ⟨t, t0, b1, b2, b3, b4, b5⟩ := hgk k hk
      rw [b1]
      refine .tup (by rw [upd_ne (ne_of b2 (of _ _ nF.symm e0) (by intro z; cases z))]; exact b2) (.cons (DR.oV _) (.cons (.dic (by rw [upd_ne b5]; exact b3) (DRk.dI fun c _ => .int _)) .nil))
end
end K20W
end
/-! W18 -/
section
set_option Elab.async false
set_option linter.all false
set_option maxRecDepth 100000
set_option maxHeartbeats 4000000
/-! deeds. -/
namespace K20W
open PySem L2 K20
section
variable {X : Cx} {o e f : Expr} {apos cpos : Pos} {td ty tx : TE}
/-- d.get(y, x), d a written dict, y there -/
def tKGet2 (K : PySem.W.Frag) (w : World) (td ty tx : TE) : TE := fun σ H Q => td σ H fun x H1 => ∃ (d : Addr) (es : Array DictEntry) (n : Nat), x = .ref d ∧ KDict K w d es n ∧ ty σ H1 fun y H2 => ∃ z : Str, y = .str z ∧ tx σ H2 fun _ H3 => ∃ (u : Value) (v : V), PySem.W.nsIn K d z = some (some u) ∧ RelV v u ∧ Q v H3
theorem pe_kget2 (ho : PE X o td) (he : PE X e ty) (hf : PE X f tx) (m : M2 X o "get" apos e f cpos) : PE X (.Call (.Attribute o "get" apos) [e, f] [] cpos) (tKGet2 X.K X.w td ty tx) := by
  refine ⟨fun pins s σ H Q I h => ?_⟩
  refine wpAny_Call_method m.base m.few m.line PySem.F.plainAttrs_dict PySem.F.slot_dict_get PySem.F.type_dict_get (thn (ho.run pins s σ H _ I h) fun u s1 ⟨x, H1, I1, rx, d, es, n, ex, D, q1⟩ => ?_)
  subst ex
  obtain rfl : u = Value.ref d := rx
  refine ⟨kd_type D I1, fun b q => ?_, ?_⟩
  · cases q
    exact ⟨_, I1.kIn _ _ D.at_, rfl⟩
  rw [m.trees]
  refine Calls.callWith_builtin rfl (Calls.evalArgs_plain (Calls.spliced_cons (thn (he.run pins s1 σ H1 _ I1 q1) fun iv s2 ⟨y, H2, I2, ry, z, ey, q2⟩ =>
    Calls.spliced_cons (thn (hf.run pins s2 σ H2 _ I2 q2) fun fv s3 ⟨z', H3, I3, rz, u0, v0, g, rv, q3⟩ => Calls.spliced_nil ?_))))
  subst ey
  obtain ⟨t, rfl⟩ := ry
  refine call_meetsIn PySem.F.slot_dict_get (kd_type D I3) PySem.F.entry_dict_get (PySem.F.args_dict_get_3 _ _ _) (meets_dict_get_default (strKind X.prog X.w) d (PySem.strKind_is X.prog X.w z t) D.low fv) ⟨_, PySem.W.mapOf_K (prog := X.prog) I3.kIn D.at_ D.lit, ?_⟩
  rw [PySem.W.find_K D.at_ g]
  exact ⟨v0, H3, I3.tok _, rv, q3⟩
end
/-- the parts that a deed has -/
def partN (z : Str) : Nat := if z = "write" then 4 else if z = "begin" then 3 else 2
def Parts (K : PySem.W.Frag) (w : World) (mg : Str → Option Value) : Prop := ∃ (d : Addr) (es : Array DictEntry) (n : Nat), mg "PARTS" = some (.ref d) ∧ KDict K w d es n ∧ ∀ z : Str, (z = "write" ∨ z = "cover" ∨ z = "branch" ∨ z = "begin") → ∃ u, PySem.W.nsIn K d z = some (some u) ∧ RelV (.int (partN z)) u
section
variable {P : Program} {w : World} {K : PySem.W.Frag} {mg : Str → Option Value} {base : Heap} {f CY CB CJ : Addr} {fd : FuncData}
def spDeed : Sp := fun vs H Q _ => ∃ (t : Addr) (z : Str) (xs : List V), vs = [.ref t] ∧ H t = some (.tup (.str z :: xs)) ∧ (z = "write" ∨ z = "cover" ∨ z = "branch" ∨ z = "begin") ∧ xs.length + 1 = partN z ∧ Q (.bl true) H
abbrev s_isdeed : Stmt := top 46
abbrev s_answered : Stmt := top 47
theorem ok_isdeed (B : Blt mg) (G : Parts K w mg) (F : Fu K "is_deed" "is_deed" s_isdeed f fd) : FnOk P w K mg base CX0 1 f fd ["thing"] spDeed := by
  have sc : FnScope ["thing"] ["thing"] (defScope s_isdeed) := ⟨rfl, rfl, rfl, by decide +kernel, rfl, by decide +kernel, by decide +kernel⟩
  obtain ⟨d, es, n, gm, D, hD⟩ := G
  refine F.ok sc (fun vs H Q E h => ?_) (fun cdv A outer s H vs Q E hr h => ?_)
  · obtain ⟨t, z, xs, rfl, _⟩ := h
    rfl
  · obtain ⟨t, z, xs, rfl, ht, hz, hl, q⟩ := h
    obtain ⟨u, hu1, hu2⟩ := hD z hz
    refine ⟨_, pss_cons (ps_if (PW.pt (pw_or (pt_not (pt_val (pe_callB call_isi rfl B.isinstance boot_isinstance (pa_cons (pv 0) (pa_cons (pe_bltn rfl B.tuple boot_tuple (v := .ty "tuple") rfl) pa_nil)))))
        (pw_or (pt_cmpR op_eq (pe_callB call_len (by rfl) B.len PySem.boot_len (pa_cons (pv 0) pa_nil)) pe_int (nomark _)) (pw_or1 (pt_not (pt_val (pe_callB call_isi rfl B.isinstance boot_isinstance (pa_cons (pe_ix ix_tup (pv 0) pe_int (fun _ _ => rfl)) (pa_cons (pe_bltn rfl B.str PyProof.Rows.boot_str (v := .ty "str") rfl) pa_nil)))))))))
        (pss_one (ps_ret pe_bl)) pss_nil)
      (pss_one (ps_ret (pe_cmpR op_eq (pe_kget2 (pe_glob (v := .ref d) rfl gm rfl) (pe_ix ix_tup (pv 0) pe_int (fun _ _ => rfl)) pe_int ⟨rfl, rfl, rfl, rfl⟩) (pe_callB call_len (by rfl) B.len PySem.boot_len (pa_cons (pv 0) pa_nil)) (nomark _)))), ?_⟩
    refine ⟨_, rfl, .ref t, .ty "tuple", .type "tuple", .type "tuple", true, rfl, .ty _, .base (.tup ht), kit_ty (by decide +kernel), true, rfl, iteF ?_⟩
    refine ⟨_, rfl, _, _, rfl, .inr ⟨_, SqT.of ht, rfl⟩, rfl, _, rfl, ?_⟩
    rw [show decide (V.int ((V.str z :: xs).length : Nat) = V.int 0) = false from decide_eq_false fun e => by
      have := V.int.inj e
      rw [List.length_cons] at this
      omega]
    refine iteF ⟨_, rfl, t, _, _, V.str z, rfl, rfl, SqT.of ht, atI_nat (j := 0) rfl, .str z, .ty "str", .type "str", .type "str", true, rfl, .ty _, .base (.str _), kit_ty (by decide +kernel), true, rfl, iteF ?_⟩
    refine ⟨d, es, n, rfl, D, _, rfl, t, _, _, V.str z, rfl, rfl, SqT.of ht, atI_nat (j := 0) rfl, z, rfl, u, _, hu1, hu2, ?_⟩
    refine ⟨_, rfl, _, _, rfl, .inr ⟨_, SqT.of ht, rfl⟩, rfl, ?_⟩
    rw [List.length_cons, hl]
    have : decide (V.int (partN z : Nat) = V.int (partN z : Nat)) = true := decide_eq_true rfl
    rw [this]
    exact q
/-- what a deed does -/
def ansAt (CY CB CJ : Addr) (y t : Addr) (H : Hp) (Q : VK) : Prop :=
  (∃ u c v : Int, H t = some (.tup [.str "write", .int u, .int c, .int v]) ∧ spWrite CY CJ [.ref y, .int u, .int c, .int v] H Q E0) ∨
  (∃ u : Int, H t = some (.tup [.str "cover", .int u]) ∧ spCover CY CB CJ [.ref y, .int u] H Q E0) ∨
  (∃ x : Int, H t = some (.tup [.str "branch", .int x]) ∧ spBranch CY CB CJ [.ref y, .int x] H Q E0) ∨
  (∃ (k : Str) (x : Int), H t = some (.tup [.str "begin", .str k, .int x]) ∧ spBegin CY CB CJ [.ref y, .str k, .int x] H Q E0)
def spAns (CY CB CJ : Addr) : Sp := fun vs H Q _ => ∃ y t, vs = [.ref y, .ref t] ∧ ansAt CY CB CJ y t H Q
theorem ok_answered (TY : YardC K CY) (g1 : Gd P w K mg base "is_deed" 1 ["thing"] spDeed) (m1 : Md P w K mg base CY "write" 3 ["self", "writer", "cell", "value"] (spWrite CY CJ)) (m2 : Md P w K mg base CY "cover" 3 ["self", "writer"] (spCover CY CB CJ))
    (m3 : Md P w K mg base CY "branch" 3 ["self", "layer"] (spBranch CY CB CJ)) (m4 : Md P w K mg base CY "begin" 3 ["self", "kind", "layer"] (spBegin CY CB CJ)) (F : Fu K "answered" "answered" s_answered f fd) : FnOk P w K mg base CX0 4 f fd ["yard", "deed"] (spAns CY CB CJ) := by
  have sc : FnScope ["yard", "deed", "word"] ["yard", "deed"] (defScope s_answered) := ⟨rfl, rfl, rfl, by decide +kernel, rfl, by decide +kernel, by decide +kernel⟩
  obtain ⟨f1, d1, G1, e1, k1, b1⟩ := g1
  obtain ⟨f2, d2, G2, M2, b2⟩ := m1
  obtain ⟨f3, d3, G3, M3, b3⟩ := m2
  obtain ⟨f4, d4, G4, M4, b4⟩ := m3
  obtain ⟨f5, d5, G5, M5, b5⟩ := m4
  refine F.ok sc (fun vs H Q E h => ?_) (fun cdv A outer s H vs Q E hr h => ?_)
  · obtain ⟨t, z, rfl, _⟩ := h
    rfl
  · obtain ⟨y, t, rfl, h⟩ := h
    have hr1 : Room 1 _ := hr.mono (by decide)
    have ix : ∀ {X : Cx} {i : Nat}, True := fun {_ _} => trivial
    refine ⟨_, pss_cons (ps_if (pt_not (pt_val (pe_call G1 hr1 rfl e1 k1 b1 .nil pass0 (pa_cons (pv 1) pa_nil)))) (pss_one ps_never) pss_nil)
      (pss_cons (ps_set (i := 2) sc.nd rfl (.inl rfl) (pe_ix ix_tup (pv 1) pe_int (fun _ _ => rfl)))
      (pss_cons (ps_if (pt_cmpR op_eq (pv 2) pe_str (nomark _)) (pss_one (ps_ret (pe_meth (pv 0) TY.cl M2 G2 hr b2 .nil pass0 (pa_cons (pe_ix ix_tup (pv 1) pe_int (fun _ _ => rfl)) (pa_cons (pe_ix ix_tup (pv 1) pe_int (fun _ _ => rfl)) (pa_cons (pe_ix ix_tup (pv 1) pe_int (fun _ _ => rfl)) pa_nil)))))) pss_nil)
      (pss_cons (ps_if (pt_cmpR op_eq (pv 2) pe_str (nomark _)) (pss_one (ps_ret (pe_meth (pv 0) TY.cl M3 G3 hr b3 .nil pass0 (pa_cons (pe_ix ix_tup (pv 1) pe_int (fun _ _ => rfl)) pa_nil)))) pss_nil)
      (pss_cons (ps_if (pt_cmpR op_eq (pv 2) pe_str (nomark _)) (pss_one (ps_ret (pe_meth (pv 0) TY.cl M4 G4 hr b4 .nil pass0 (pa_cons (pe_ix ix_tup (pv 1) pe_int (fun _ _ => rfl)) pa_nil)))) pss_nil)
      (pss_cons (ps_if (pt_cmpR op_eq (pv 2) pe_str (nomark _)) (pss_one (ps_ret (pe_meth (pv 0) TY.cl M5 G5 hr b5 .nil pass0 (pa_cons (pe_ix ix_tup (pv 1) pe_int (fun _ _ => rfl)) (pa_cons (pe_ix ix_tup (pv 1) pe_int (fun _ _ => rfl)) pa_nil))))) pss_nil)
      (pss_one ps_never)))))), ?_⟩
    rcases h with ⟨u, c, v, ht, hs⟩ | ⟨u, ht, hs⟩ | ⟨x, ht, hs⟩ | ⟨k, x, ht, hs⟩
    · obtain ⟨y0, bk, dn, n, A, S, D, τ, u0, c0, v0, e, Y, r⟩ := id hs
      cases e
      obtain ⟨dx, h1⟩ := Y.ob
      refine ⟨_, rfl, t, _, _, rfl, ht, .inl rfl, rfl, true, rfl, iteF ⟨_, rfl, t, _, _, _, rfl, rfl, SqT.of ht, atI_nat (j := 0) rfl, ?_⟩⟩
      refine ⟨_, rfl, rfl, _, rfl, iteT ?_⟩
      exact ⟨_, rfl, y, dx, _, rfl, h1, by kernel_rfl, _, rfl, t, _, _, _, rfl, rfl, SqT.of ht, atI_nat (j := 1) rfl, _, rfl, t, _, _, _, rfl, rfl, SqT.of ht, atI_nat (j := 2) rfl, _, rfl, t, _, _, _, rfl, rfl, SqT.of ht, atI_nat (j := 3) rfl, hs⟩
    · obtain ⟨y0, bk, dn, n, A, S, D, τ, B0, u0, e, Y, r⟩ := id hs
      cases e
      obtain ⟨dx, h1⟩ := Y.ob
      refine ⟨_, rfl, t, _, _, rfl, ht, .inr (.inl rfl), rfl, true, rfl, iteF ⟨_, rfl, t, _, _, _, rfl, rfl, SqT.of ht, atI_nat (j := 0) rfl, ?_⟩⟩
      refine ⟨_, rfl, rfl, _, rfl, iteF ⟨_, rfl, rfl, _, rfl, iteT ?_⟩⟩
      exact ⟨_, rfl, y, dx, _, rfl, h1, by kernel_rfl, _, rfl, t, _, _, _, rfl, rfl, SqT.of ht, atI_nat (j := 1) rfl, hs⟩
    · obtain ⟨y0, bk, dn, n, A, S, D, τ, B0, u0, e, Y, r⟩ := id hs
      cases e
      obtain ⟨dx, h1⟩ := Y.ob
      refine ⟨_, rfl, t, _, _, rfl, ht, .inr (.inr (.inl rfl)), rfl, true, rfl, iteF ⟨_, rfl, t, _, _, _, rfl, rfl, SqT.of ht, atI_nat (j := 0) rfl, ?_⟩⟩
      refine ⟨_, rfl, rfl, _, rfl, iteF ⟨_, rfl, rfl, _, rfl, iteF ⟨_, rfl, rfl, _, rfl, iteT ?_⟩⟩⟩
      exact ⟨_, rfl, y, dx, _, rfl, h1, by kernel_rfl, _, rfl, t, _, _, _, rfl, rfl, SqT.of ht, atI_nat (j := 1) rfl, hs⟩
    · obtain ⟨y0, bk, dn, n, A, S, D, τ, B0, x0, l0, e, Y, r⟩ := id hs
      cases e
      obtain ⟨dx, h1⟩ := Y.ob
      refine ⟨_, rfl, t, _, _, rfl, ht, .inr (.inr (.inr rfl)), rfl, true, rfl, iteF ⟨_, rfl, t, _, _, _, rfl, rfl, SqT.of ht, atI_nat (j := 0) rfl, ?_⟩⟩
      refine ⟨_, rfl, rfl, _, rfl, iteF ⟨_, rfl, rfl, _, rfl, iteF ⟨_, rfl, rfl, _, rfl, iteF ⟨_, rfl, rfl, _, rfl, iteT ?_⟩⟩⟩⟩
      exact ⟨_, rfl, y, dx, _, rfl, h1, by kernel_rfl, _, rfl, t, _, _, _, rfl, rfl, SqT.of ht, atI_nat (j := 1) rfl, _, rfl, t, _, _, _, rfl, rfl, SqT.of ht, atI_nat (j := 2) rfl, hs⟩
def spDo (CY CB CJ : Addr) : Sp := fun vs H Q _ => ∃ y t, vs = [.ref y, .ref t] ∧ ansAt CY CB CJ y t H fun _ H' => Q .non H'
theorem ok_do (g1 : Gd P w K mg base "answered" 4 ["yard", "deed"] (spAns CY CB CJ)) (F : Fu K "do" "Yard.do" (s_yard 25) f fd) : FnOk P w K mg base CX0 5 f fd ["self", "deed"] (spDo CY CB CJ) := by
  have sc : FnScope ["self", "deed"] ["self", "deed"] (defScope (s_yard 25)) := ⟨rfl, rfl, rfl, by decide +kernel, rfl, by decide +kernel, by decide +kernel⟩
  obtain ⟨f1, d1, G1, e1, k1, b1⟩ := g1
  refine F.ok sc (fun vs H Q E h => ?_) (fun cdv A outer s H vs Q E hr h => ?_)
  · obtain ⟨t, z, rfl, _⟩ := h
    rfl
  · obtain ⟨y, t, rfl, h⟩ := h
    exact ⟨_, pss_one (ps_expr (pe_call G1 hr rfl e1 k1 b1 .nil pass0 (pa_cons (pv 0) (pa_cons (pv 1) pa_nil)))), _, rfl, _, rfl, y, t, rfl, h⟩
end
end K20W
end
/-! Ru4 -/
section
set_option Elab.async false
set_option linter.all false
set_option maxRecDepth 100000
set_option maxHeartbeats 4000000
/-! len(set(xs)), xs a list of texts that differ. -/
namespace K20W
open PySem PySem.Spec PyProof.Rows
section
variable {pg : Program} {wd : World} {Ar : Around} {Rz : Result → Shared → Prop} {it : Addr} {fps wrs : List Addr} {Gs : Array GenState → Array GenState → Prop} {m : Nat} {Pv : Nat → Value → Prop} {Sv : Nat → Shared → Prop}
/-- one text more goes into a set -/
theorem any_snoc {zs : List Str} {i : Nat} (hi : i < zs.length) (k : Str) : ((zs.take i).any (· == k) || decide (k = zs.getD i Str.empty)) = (zs.take (i + 1)).any (· == k) := by
  have e : zs.take (i + 1) = zs.take i ++ [zs.getD i Str.empty] := by
    rw [List.take_add_one]
    simp [hi]
  rw [e, List.any_append]
  congr 1
  rw [List.any_cons, List.any_nil, Bool.or_false, Bool.eq_iff_iff, decide_eq_true_iff, beq_iff_eq]
  exact ⟨Eq.symm, Eq.symm⟩
theorem any_fresh {zs : List Str} (hn : zs.Nodup) {i : Nat} (hi : i < zs.length) : (zs.take i).any (· == zs.getD i Str.empty) = false := by
  rw [List.any_eq_false]
  intro x hx e
  have e : x = zs.getD i Str.empty := by simpa using e
  have h2 : (zs.take (i + 1)).Nodup := hn.sublist (List.take_sublist _ _)
  have e2 : zs.take (i + 1) = zs.take i ++ [zs.getD i Str.empty] := by
    rw [List.take_add_one]
    simp [hi]
  rw [e2, List.nodup_append] at h2
  exact h2.2.2 x hx _ (List.mem_singleton.mpr rfl) e
theorem texts_in (Wk : WalksS pg wd Ar.in1 it fps wrs Gs m Pv Sv) (sa : Addr) (hs : sa ∉ fps) (zs : List Str) (hz : zs.length = m) (hn : zs.Nodup) (hb : m + 1 < scanBound) (hv : ∀ i v, Pv i v → ∃ t, v = .str (zs.getD i Str.empty) t) :
    ∀ (left i : Nat) (st : Shared), m - i = left → i ≤ m → Sv i st → st.heap.SetOf (PySem.strKind pg wd) sa (fun k => (zs.take i).any (· == k)) i →
      (∀ st', Moved (sa :: wrs) Gs st st' → st'.heap.SetOf (PySem.strKind pg wd) sa (fun k => (zs.take m).any (· == k)) m → Rz (.ok (.ret .none)) st') →
      codeAny (model pg wd) Ar (.builtin "set.update.loop" ⟨[.ref sa, .ref it], []⟩) Rz st := by
  have out : sa ∉ wrs := fun h => hs (Wk.sub _ h)
  have more : ∀ b ∈ wrs, b ∈ sa :: wrs := fun b hb => List.mem_cons_of_mem _ hb
  intro left
  induction left with
  | zero =>
    intro i st hl hi hst hset hend
    obtain rfl : i = m := by omega
    refine codeAny_builtin PyProof.Rows.F.entry_set_update_loop ?_
    rw [Around.under_plainId PyProof.Rows.F.plain_set_update_loop _]
    show wpAny _ Ar.in1 (pyNext (.ref it) >>= _) _ _ st
    refine wpAny_bind (Wk.done st _ _ hst fun st2 mv => ?_)
    show wpAny _ Ar.in1 (ret Value.none) _ _ st2
    obtain ⟨ob, es, ep, tb, ho, rest⟩ := hset
    exact wpAny_pure (hend st2 (mv.mono more) ⟨ob, es, ep, tb, mv.heap sa _ out ho, rest⟩)
  | succ left ih =>
    intro i st hl hi hst hset hend
    have lt : i < m := by omega
    refine codeAny_builtin PyProof.Rows.F.entry_set_update_loop ?_
    rw [Around.under_plainId PyProof.Rows.F.plain_set_update_loop _]
    show wpAny _ Ar.in1 (pyNext (.ref it) >>= _) _ _ st
    refine wpAny_bind (Wk.item i st _ _ lt hst fun v st2 hp hst2 mv => ?_)
    obtain ⟨t, rfl⟩ := hv i v hp
    have set2 : st2.heap.SetOf (PySem.strKind pg wd) sa (fun k => (zs.take i).any (· == k)) i := by
      obtain ⟨ob, es, ep, tb, ho, rest⟩ := hset
      exact ⟨ob, es, ep, tb, mv.heap sa _ out ho, rest⟩
    show wpAny _ Ar.in1 (holding [Value.str (zs.getD i Str.empty) t] (setAdd sa (.str (zs.getD i Str.empty) t)) >>= _) _ _ st2
    refine wpAny_bind (wpAny_holding ?_)
    unfold setAdd
    refine wpAny_holding (wpAny_bind ((PySem.strKind pg wd).pyHash (k := zs.getD i Str.empty) (strKind_is _ _ _ _) ?_))
    refine wpAny_setAddHashed_of (knd := PySem.strKind pg wd) (s := { st2 with toks := st2.toks + 1 }) (strKind_is _ _ _ _) rfl set2 (by omega) fun h3 sb set3 => ?_
    have set4 : h3.SetOf (PySem.strKind pg wd) sa (fun k => (zs.take (i + 1)).any (· == k)) (i + 1) :=
      SetOf_congr set3 (fun k => any_snoc (by omega) k) (by rw [any_fresh hn (by omega)]; rfl)
    have off : ∀ b o, b ≠ sa → st2.heap.get? b = some o → h3.get? b = some o := fun b o nb e => (sb.2 b nb).trans e
    refine wpAny_pure ⟨plainId_quiet PyProof.Rows.F.plain_set_update_loop _, ih (i + 1) _ (by omega) lt (Wk.frame _ st2 _ _ hst2 (Nat.le_succ _) fun b hb' o e => off b o (fun q => hs (q ▸ hb')) e) set4 fun st5 mv5 set5 => ?_⟩
    exact hend st5 (Moved.trans Wk.gtrans ((mv.mono more).then_heap (Nat.le_succ _) fun b o hb' e => off b o (fun q => hb' (q ▸ List.mem_cons_self)) e) mv5) set5
end
section
variable {pg : Program} {wd : World} {Ar : Around} {Ez : Value → Shared → Prop} {st : Shared}
/-- the new set, still empty -/
abbrev bare (led : Bool) : Obj := { cls := .type "set", dict := none, data := .set #[] 0 (.fresh 0 0 led) }
set_option maxHeartbeats 8000000 in
theorem set_of_texts {la : Addr} {vals : Array Value} {zs : List Str} {Qz : Value → Shared → Prop} (hh : Ar.handled = none) (hl : st.heap.IsList la vals) (hi : StrsAre vals.toList zs) (hn : zs.Nodup) (hb : vals.size + 1 < scanBound)
    (fin : ∀ (h2 : Heap) (tk : Nat), h2.SetOf (PySem.strKind pg wd) st.heap.objs.size (fun k => (zs.take vals.size).any (· == k)) vals.size → (∀ b o, b < st.heap.objs.size → st.heap.get? b = some o → h2.get? b = some o) → Qz (.ref st.heap.objs.size) { st with heap := h2, toks := tk }) :
    wpAny (model pg wd) Ar (call (.type "set") [.ref la]) Qz Ez st := by
  obtain ⟨cl, rest, mro⟩ := PySem.F.called_set.mro
  have made := PySem.F.called_set.made
  have sub := PySem.F.called_set.sub
  refine wpAny_call (codeAny_of_tree ?_)
  show wpAny _ _ (callAny (.type "set") _) _ _ st
  refine wpAny_pure ⟨Code.quiet_builtin _ (by decide +kernel), codeAny_builtin PySem.F.entry_type_call ?_⟩
  rw [Around.under_plain (weight_type_call_type "set" [.ref la] []) rfl]
  have n1 := PySem.F.called_set.notType
  have n2 := PySem.F.called_set.canCreate
  have n3 := PySem.F.typeCall_set_1 (.ref la)
  repeat (any_goals (first | assumption | wp_step))
  refine codeAny_mono (code_set_new_1 (.ref la) (E := Ez) (Q₁ := fun x s1 => ∃ led : Bool, x = .ref st.heap.objs.size ∧ s1 = { st with heap := st.heap.push (bare led) }) fun led => ⟨led, rfl, rfl⟩) fun r s1 hr => ?_
  cases r with
  | error e => exact hr
  | ok fl =>
    cases fl with
    | ret x =>
      obtain ⟨led, rfl, rfl⟩ := hr
      have gS : (st.heap.push (bare led)).get? st.heap.objs.size = some (bare led) := Heap.get?_push_size _ rfl
      have tS : Shared.TypeIs { st with heap := st.heap.push (bare led) } (.ref st.heap.objs.size) "set" := ⟨_, gS, rfl⟩
      have i1 := PySem.F.called_set.init.lookup
      have i2 := PySem.F.called_set.init.bind (.ref st.heap.objs.size)
      repeat (any_goals (first | assumption | wp_step))
      refine codeAny_mono (codeAny_call_builtin (R := wants (fun r s2 => r = .none ∧ ∃ h2 tk, s2 = { st with heap := h2, toks := tk } ∧ h2.SetOf (PySem.strKind pg wd) st.heap.objs.size (fun k => (zs.take vals.size).any (· == k)) vals.size ∧
          (∀ b o, b < st.heap.objs.size → st.heap.get? b = some o → h2.get? b = some o)) Ez) PySem.F.called_set.init.plain PySem.F.entry_set_init (check_set_init_1 tS ?_)) fun r2 s2 hr2 => ?_
      · obtain ⟨ol, gl, cl, nl, dl⟩ := hl
        obtain ⟨lc, ld, lda, lsl⟩ := ol
        simp only at cl dl
        subst cl dl
        have gl2 : (st.heap.push (bare led)).get? la = some { cls := .type "list", dict := ld, data := .seq vals nl, slots := lsl } := Heap.get?_push_of_some _ gl
        have q1 := PySem.F.sub_list_set
        have q2 := PySem.F.sub_list_frozenset
        have q3 : (Value.type "list" == Value.type "dict") = false := by decide
        have il : (st.heap.push (bare led)).IsList la vals := ⟨_, gl2, rfl, nl, rfl⟩
        unfold Builtin.«set.__init__» noKeywords Builtin.Frozenset.updateFrom
        generalize hPI : pyIter = PI
        wp_walk
        subst hPI
        refine wpAny_pyIter_list il (wpAny_bind (wpAny_runValue ?_))
        have lla : la < st.heap.objs.size := Heap.lt_size gl
        have h3 : Ar.in1.in1.in1.handled = none := by simp [hh]
        have nI : la ≠ (st.heap.push (bare led)).objs.size := by
          rw [Heap.size_push]
          exact Nat.ne_of_lt (Nat.lt_succ_of_lt lla)
        have nS : st.heap.objs.size ∉ [(st.heap.push (bare led)).objs.size, la] := fun h => by
          rw [Heap.size_push] at h
          rcases List.mem_cons.mp h with h | h
          · exact Nat.ne_of_lt (Nat.lt_succ_self _) h
          · exact Nat.ne_of_gt lla (List.mem_singleton.mp h)
        have hz : zs.length = vals.size := by rw [← StrsAre.len_eq hi, Array.length_toList]
        refine texts_in ((Walks.list h3 _ la nI vals).toS) st.heap.objs.size nS zs hz hn hb (fun i v hv => SS.strs_at hi i v (by rw [Array.getElem?_toList]; exact hv)) (vals.size - 0) 0 _ (by omega) (Nat.zero_le _)
          ⟨⟨_, Heap.get?_push_size _ rfl, rfl, rfl⟩, (il.push _)⟩ ?empty ?ends
        case empty =>
          exact SetOf_congr ((setObjOf_fresh (knd := PySem.strKind pg wd) led).setOf (Heap.get?_push_of_some _ gS) (by unfold scanBound; omega)) (fun _ => rfl) rfl
        case ends =>
          rintro ⟨h2, g2, d2, tk2, os2⟩ mv hset
          obtain rfl : g2 = st.gens := mv.gens
          obtain rfl : d2 = st.drawn := mv.drawn
          obtain rfl : os2 = st.os := mv.os
          refine wpAny_pure (wpAny_pure ⟨rfl, h2, tk2, rfl, hset, fun b o lt e => ?_⟩)
          refine mv.heap b o (fun h => ?_) (Heap.get?_push_of_some _ (Heap.get?_push_of_some _ e))
          rw [Heap.size_push] at h
          rcases List.mem_cons.mp h with h | h
          · exact Nat.ne_of_lt lt h
          · exact Nat.ne_of_lt (Nat.lt_succ_of_lt lt) (List.mem_singleton.mp h)
      · cases r2 with
        | error e => exact hr2
        | ok f2 =>
          cases f2 with
          | ret r =>
            obtain ⟨rfl, h2, tk, rfl, hset, hk⟩ := hr2
            repeat (any_goals (first | assumption | wp_step))
            exact fin _ _ hset hk
          | _ => exact hr2.elim
    | _ => exact hr.elim
end
end K20W
end
/-! Ru5 -/
section
set_option Elab.async false
set_option linter.all false
set_option maxRecDepth 100000
set_option maxHeartbeats 4000000
/-! len(set(xs)) by promises. -/
namespace K20W
open PySem L2
/-- the set of texts at a -/
def TextSet (P : Program) (w : World) (a : Addr) (n : Nat) : HO := .ext fun h => ∃ S, h.SetOf (PySem.strKind P w) a S n
section
variable {X : Cx}
theorem textSet_ok {P : Program} {w : World} {H : Hp} {h : Heap} {a : Addr} {S : Str → Bool} {n : Nat} (R : h.SetOf (PySem.strKind P w) a S n) : ObjOk P w H h a (TextSet P w a n) := by
  have ⟨o, _, _, _, ho, _⟩ := R
  exact ⟨⟨S, R⟩, ⟨o, ho⟩, fun h1 h2 ⟨S, o, es, ep, t, hq, r⟩ k => ⟨S, o, es, ep, t, k o hq, r⟩⟩
/-- set(xs) -/
theorem call_set_texts (hc : X.calm = true) : CallR X (.type "set") (fun xs H Q => ∃ (a : Addr) (zs : List Str), xs = [.ref a] ∧ H a = some (.lst (zs.map V.str)) ∧ zs.Nodup ∧ zs.length ≤ 20 ∧ ∀ q, H q = none → Q (.ref q) (upd H q (TextSet X.prog X.w q zs.length))) := by
  intro pins s σ H xs us Q I r h
  obtain ⟨a, zs, rfl, ha, hn, hl, q⟩ := h
  obtain ⟨u, rfl, rx⟩ := vals1 r
  obtain rfl : u = Value.ref a := rx
  obtain ⟨its, rv, pl, hz⟩ := I.list (SqL.of ha)
  have hlen : its.toArray.size = zs.length := by rw [List.size_toArray, ← rv.length, List.length_map]
  refine set_of_texts (I.ok.hd hc) pl.isList (by simpa using strsAre_of rv) hn (by rw [hlen]; unfold scanBound; omega) fun h2 tk hset hk => ?_
  rw [hlen] at hset
  exact ⟨.ref s.heap.objs.size, _, I.laid (t' := tk) (o := TextSet X.prog X.w s.heap.objs.size zs.length) (fun b o e => hk b o (Heap.lt_size e) e) (Nat.le_refl _) (textSet_ok hset), rfl, q _ (I.hok.fresh (Nat.le_refl _))⟩
/-- len(s) -/
theorem call_len_texts : CallR X (.builtin "len") (fun xs H Q => ∃ (a : Addr) (n : Nat), xs = [.ref a] ∧ H a = some (TextSet X.prog X.w a n) ∧ n ≤ 20 ∧ Q (.int n) H) := by
  intro pins s σ H xs us Q I r h
  obtain ⟨a, n, rfl, ha, hn, q⟩ := h
  obtain ⟨u, rfl, rx⟩ := vals1 r
  obtain rfl : u = Value.ref a := rx
  obtain ⟨S, o, es, ep, t, ho, hex, hd, _, _, _, hf, hc⟩ := (show ∃ S, s.heap.SetOf (PySem.strKind X.prog X.w) a S n from (I.hok a _ ha).1)
  exact call_len_set ho hex hd hf (by rw [hc]; omega) ⟨.int n, H, I.tok _, ⟨_, by rw [hc]⟩, q⟩
end
end K20W
end
/-! W19 -/
section
set_option Elab.async false
set_option linter.all false
set_option maxRecDepth 100000
set_option maxHeartbeats 4000000
/-! Book. -/
namespace K20W
open PySem L2 K20
abbrev s_needwords : Stmt := top 32
theorem inV_mem {x : Str} {ks : List Str} (h : x ∈ ks) : inV (.str x) (ks.map V.str) = true := by
  rw [inV_strs, List.any_eq_true]
  exact ⟨x, h, decide_eq_true rfl⟩
section
variable {P : Program} {w : World} {K : PySem.W.Frag} {mg : Str → Option Value} {base : Heap} {f CY CB CJ : Addr} {fd : FuncData}
def spNeedWords (K : PySem.W.Frag) : Sp := fun vs H Q _ => ∃ (x : Str) (a t : Addr) (zs ws : List Str), vs = [.str x, .ref a, .ref t] ∧ H a = some (.lst (zs.map V.str)) ∧ (∀ H', SqT K H' t (ws.map V.str)) ∧ zs.Nodup ∧ zs.length ≤ 20 ∧ (∀ z ∈ zs, z ∈ ws) ∧ ∀ H', Same H H' → Q .non H'
theorem ok_needwords (B : Blt mg) (g1 : Gd P w K mg base "need_word" 1 ["field", "word", "words"] (spNeedWord (K := K))) (F : Fu K "need_words" "need_words" s_needwords f fd) : FnOk P w K mg base CX0 2 f fd ["field", "some", "words"] (spNeedWords K) := by
  have sc : FnScope ["field", "some", "words", "word"] ["field", "some", "words"] (defScope s_needwords) := ⟨rfl, rfl, rfl, by decide +kernel, rfl, by decide +kernel, by decide +kernel⟩
  obtain ⟨f1, d1, G1, e1, k1, b1⟩ := g1
  refine F.ok sc (fun vs H Q E h => ?_) (fun cdv A outer s H vs Q E hr h => ?_)
  · obtain ⟨x, a, t, zs, ws, rfl, _⟩ := h
    rfl
  · obtain ⟨x, a, t, zs, ws, rfl, ha, ht, hn, hl, hin, q⟩ := h
    refine ⟨_, PSs.nox (pss_cons (ps_if (pt_not (pt_val (pe_callB call_isiT rfl B.isinstance boot_isinstance (pa_cons (pv 1) (pa_cons (pe_tup (pa_cons (pe_bltn rfl B.list boot_list (v := .ty "list") rfl) (pa_cons (pe_bltn rfl B.tuple boot_tuple (v := .ty "tuple") rfl) pa_nil))) pa_nil))))) (pss_one ps_never) pss_nil)
      (pss_cons (ps_for PassesOwn.never rfl (pi_list (pv 1)) (pg_name (i := 3) sc.nd rfl (Or.inl rfl)) (pss_one (ps_expr (pe_call G1 hr rfl e1 k1 b1 .nil pass0 (pa_cons (pv 0) (pa_cons (pv 3) (pa_cons (pv 2) pa_nil)))))))
      (pss_one (ps_if (pt_cmpR op_lt (pe_callB call_len_texts rfl B.len PySem.boot_len (pa_cons (pe_callTy (call_set_texts rfl) rfl B.set boot_set (pa_cons (pv 1) pa_nil)) pa_nil)) (pe_callB call_len (by rfl) B.len PySem.boot_len (pa_cons (pv 1) pa_nil)) (nomark _)) (pss_one ps_never) pss_nil)))), ?_⟩
    refine ⟨_, rfl, (show 2 ≤ sizeLine from by decide), fun p hp => ?_⟩
    have s1 : Same H (upd H p (.tup [.ty "list", .ty "tuple"])) := Same.newS (Same.refl _) hp
    refine ⟨.ref a, p, [.ty "list", .ty "tuple"], .type "list", [.type "list", .type "tuple"], true, rfl, upd_same, .cons (.ty _) (.cons (.ty _) .nil), .base (.lst (s1 _ _ ha)), kitAny_cons (b := true) (kit_ty (by decide +kernel)) (fun e => nomatch e) (fun _ => rfl), true, rfl, iteF ?_⟩
    generalize upd H p (.tup [.ty "list", .ty "tuple"]) = H1 at s1 ⊢
    refine ⟨_, rfl, a, rfl, ⟨_, SqL.of (s1 _ _ ha)⟩, ?_⟩
    refine for_it (walk_list (K := K) (a := a) (xs := zs.map V.str)) (fun i σ H' => (∃ b, σ = [some (.str x), some (.ref a), some (.ref t), b]) ∧ H' = H1) ⟨⟨_, rfl⟩, rfl⟩ (fun i σ H' _ h => by rw [h.2]; exact SqL.of (s1 _ _ ha)) ?_ ?_
    · rintro i v σ H' H2 hi ⟨⟨b, rfl⟩, rfl⟩ ⟨rfl, hv⟩
      obtain ⟨z, hz, rfl⟩ := List.mem_map.mp (List.mem_of_getElem? hv)
      exact ⟨_, rfl, _, rfl, _, rfl, x, z, t, _, rfl, ht _, flat_strs _, inV_mem (hin z hz), ⟨_, rfl⟩, rfl⟩
    · rintro σ H' ⟨⟨b, rfl⟩, rfl⟩
      refine ⟨_, rfl, a, zs, rfl, s1 _ _ ha, hn, hl, fun c hc => ?_⟩
      have s2 : Same H' (upd H' c (TextSet P w c zs.length)) := Same.newS (Same.refl _) hc
      refine ⟨c, zs.length, rfl, upd_same, hl, _, rfl, _, _, rfl, .inl ⟨_, SqL.of (s2 _ _ (s1 _ _ ha)), rfl⟩, _, _, rfl, rfl, _, rfl, ?_⟩
      rw [List.length_map]
      have : decide (((zs.length : Nat) : Int) < ((zs.length : Nat) : Int)) = false := decide_eq_false (by omega)
      rw [this]
      exact iteF (q _ (Same.trans s1 s2))
def UPSl : List Str := ["one", "late", "blind"]
def DOWNSl : List Str := ["one", "two"]
def WRITESl : List Str := ["plain", "both", "again", "behind", "refused"]
def MOVESl : List Str := ["now", "first"]
def FINISHl : List Str := ["one", "link", "cut"]
def COUNTSl : List Str := ["last", "first", "never"]
def BARSl : List Str := ["cover", "lower", "open", "others", "upper"]
def NOTESl : List Str := ["again", "job", "place"]
structure BookG (K : PySem.W.Frag) (mg : Str → Option Value) : Prop where
  ups : Gt K mg "UPS" (UPSl.map V.str)
  downs : Gt K mg "DOWNS" (DOWNSl.map V.str)
  writes : Gt K mg "WRITES" (WRITESl.map V.str)
  moves : Gt K mg "MOVES" (MOVESl.map V.str)
  finishes : Gt K mg "FINISHES" (FINISHl.map V.str)
  counts : Gt K mg "COUNTS" (COUNTSl.map V.str)
  bars : Gt K mg "BARS" (BARSl.map V.str)
  notes : Gt K mg "NOTES" (NOTESl.map V.str)
/-- the choices are some that a Book takes -/
structure BookIn (B : BookR) : Prop where
  up : B.up ∈ UPSl
  down : B.down ∈ DOWNSl
  writes : B.writes ∈ WRITESl
  moves : B.moves ∈ MOVESl
  finish : B.finish ∈ FINISHl
  counts : B.counts ∈ COUNTSl
  bars : ∀ z ∈ B.bars, z ∈ BARSl
  notes : ∀ z ∈ B.notes, z ∈ NOTESl
  bn : B.bars.Nodup
  nn : B.notes.Nodup
  bl : B.bars.length ≤ 20
  nl : B.notes.length ≤ 20
def spBookInit (CB : Addr) : Sp := fun vs H Q _ => ∃ (a dx ba na : Addr) (B : BookR), vs = [.ref a, .str B.up, .str B.down, .str B.writes, .str B.moves, .str B.finish, .str B.counts, .ref ba, .ref na] ∧ H a = some (.ins CB dx []) ∧ H ba = some (.lst (B.bars.map V.str)) ∧ H na = some (.lst (B.notes.map V.str)) ∧ BookIn B ∧
  ∀ (H' : Hp) (bs ns : List Str), bs.Perm B.bars → BookAt CB H' a { B with bars := bs, notes := ns } → Off a H H' → Q .non H'
theorem ok_binit {kws : List (Str × V)} (Bt : Blt mg) (TB : BookC K CB) (GG : BookG K mg) (g1 : Gd P w K mg base "need_word" 1 ["field", "word", "words"] (spNeedWord (K := K))) (g2 : Gd P w K mg base "need_words" 2 ["field", "some", "words"] (spNeedWords K))
    (F : FunD K "__init__" "Book.__init__" (defArgs (s_book 0)) (defBody (s_book 0)) (defScope (s_book 0)) [] kws f fd) : FnOk P w K mg base CX0 3 f fd ["self", "up", "down", "writes", "moves", "finish", "counts", "bars", "notes"] (spBookInit CB) := by
  have sc : FnScope ["self", "up", "down", "writes", "moves", "finish", "counts", "bars", "notes"] ["self", "up", "down", "writes", "moves", "finish", "counts", "bars", "notes"] (defScope (s_book 0)) := ⟨rfl, rfl, rfl, by decide +kernel, rfl, by decide +kernel, by decide +kernel⟩
  obtain ⟨f1, d1, G1, e1, k1, b1⟩ := g1
  obtain ⟨f2, d2, G2, e2, k2, b2⟩ := g2
  obtain ⟨t1, m1, q1⟩ := GG.ups
  obtain ⟨t2, m2, q2⟩ := GG.downs
  obtain ⟨t3, m3, q3⟩ := GG.writes
  obtain ⟨t4, m4, q4⟩ := GG.moves
  obtain ⟨t5, m5, q5⟩ := GG.finishes
  obtain ⟨t6, m6, q6⟩ := GG.counts
  obtain ⟨t7, m7, q7⟩ := GG.bars
  obtain ⟨t8, m8, q8⟩ := GG.notes
  refine F.ok sc (fun vs H Q E h => ?_) (fun cdv A outer s H vs Q E hr h => ?_)
  · obtain ⟨a, _, _, _, B, rfl, _⟩ := h
    rfl
  · obtain ⟨a, dx, ba, na, B, rfl, ha, hba, hna, BI, q⟩ := h
    have hr1 : Room 1 _ := hr.mono (by decide)
    refine ⟨_, pss_cons (ps_expr (pe_call G1 hr1 rfl e1 k1 b1 .nil pass0 (pa_cons pe_str (pa_cons (pv 1) (pa_cons (pe_glob (v := .ref t1) rfl m1 rfl) pa_nil)))))
      (pss_cons (ps_expr (pe_call G1 hr1 rfl e1 k1 b1 .nil pass0 (pa_cons pe_str (pa_cons (pv 2) (pa_cons (pe_glob (v := .ref t2) rfl m2 rfl) pa_nil)))))
      (pss_cons (ps_expr (pe_call G1 hr1 rfl e1 k1 b1 .nil pass0 (pa_cons pe_str (pa_cons (pv 3) (pa_cons (pe_glob (v := .ref t3) rfl m3 rfl) pa_nil)))))
      (pss_cons (ps_expr (pe_call G1 hr1 rfl e1 k1 b1 .nil pass0 (pa_cons pe_str (pa_cons (pv 4) (pa_cons (pe_glob (v := .ref t4) rfl m4 rfl) pa_nil)))))
      (pss_cons (ps_expr (pe_call G1 hr1 rfl e1 k1 b1 .nil pass0 (pa_cons pe_str (pa_cons (pv 5) (pa_cons (pe_glob (v := .ref t5) rfl m5 rfl) pa_nil)))))
      (pss_cons (ps_expr (pe_call G1 hr1 rfl e1 k1 b1 .nil pass0 (pa_cons pe_str (pa_cons (pv 6) (pa_cons (pe_glob (v := .ref t6) rfl m6 rfl) pa_nil)))))
      (pss_cons (ps_expr (pe_call G2 hr rfl e2 k2 b2 .nil pass0 (pa_cons pe_str (pa_cons (pv 7) (pa_cons (pe_glob (v := .ref t7) rfl m7 rfl) pa_nil)))))
      (pss_cons (ps_expr (pe_call G2 hr rfl e2 k2 b2 .nil pass0 (pa_cons pe_str (pa_cons (pv 8) (pa_cons (pe_glob (v := .ref t8) rfl m8 rfl) pa_nil)))))
      (pss_cons (ps_fld (pv 0) (pe_tup (pa_cons (pv 1) (pa_cons (pv 2) (pa_cons (pv 3) (pa_cons (pv 4) (pa_cons (pv 5) (pa_cons (pv 6) pa_nil))))))) rfl)
      (pss_cons (ps_fld (pv 0) (pe_callTy call_tuple_of rfl Bt.tuple boot_tuple (pa_cons (pe_callB cr_sortedS (by rfl) Bt.sorted boot_sorted (pa_cons (pv 7) pa_nil)) pa_nil)) rfl)
      (pss_one (ps_fld (pv 0) (pe_callTy call_tuple_of rfl Bt.tuple boot_tuple (pa_cons (pe_callB cr_sortedS (by rfl) Bt.sorted boot_sorted (pa_cons (pv 8) pa_nil)) pa_nil)) rfl))))))))))), ?_⟩
    refine ⟨_, rfl, "up", B.up, t1, _, rfl, q1 H, flat_strs _, inV_mem BI.up, ?_⟩
    refine ⟨_, rfl, "down", B.down, t2, _, rfl, q2 H, flat_strs _, inV_mem BI.down, ?_⟩
    refine ⟨_, rfl, "writes", B.writes, t3, _, rfl, q3 H, flat_strs _, inV_mem BI.writes, ?_⟩
    refine ⟨_, rfl, "moves", B.moves, t4, _, rfl, q4 H, flat_strs _, inV_mem BI.moves, ?_⟩
    refine ⟨_, rfl, "finish", B.finish, t5, _, rfl, q5 H, flat_strs _, inV_mem BI.finish, ?_⟩
    refine ⟨_, rfl, "counts", B.counts, t6, _, rfl, q6 H, flat_strs _, inV_mem BI.counts, ?_⟩
    refine ⟨_, rfl, "bars", ba, t7, B.bars, BARSl, rfl, hba, q7, BI.bn, BI.bl, BI.bars, fun H1 s1 => ?_⟩
    refine ⟨_, rfl, "notes", na, t8, B.notes, NOTESl, rfl, s1 _ _ hna, q8, BI.nn, BI.nl, BI.notes, fun H2 s2 => ?_⟩
    have s02 := Same.trans s1 s2
    refine ⟨_, rfl, _, rfl, _, rfl, _, rfl, _, rfl, _, rfl, (show 6 ≤ sizeLine from by decide), fun tw htw => ?_⟩
    have aw : a ≠ tw := ne_of_none (s02 _ _ ha) htw
    refine ⟨_, rfl, a, CB, dx, _, rfl, by rw [upd_ne aw]; exact s02 _ _ ha, TB.cl, TB.words, len1000 (by kernel_rfl), ?_⟩
    have o3 : Off a H (upd (upd H2 tw (.tup (wordsV B))) a (.ins CB dx (putF "b_words" (.ref tw) []))) := Off.trans (Off.new (Off.of s02) htw) (Off.upd _)
    have v3 : (upd (upd H2 tw (.tup (wordsV B))) a (.ins CB dx (putF "b_words" (.ref tw) []))) tw = some (.tup (wordsV B)) := by rw [upd_ne aw.symm, upd_same]
    have g3 : (upd (upd H2 tw (.tup (wordsV B))) a (.ins CB dx (putF "b_words" (.ref tw) []))) a = some (.ins CB dx (putF "b_words" (.ref tw) [])) := upd_same
    show _
    generalize hH3 : upd (upd H2 tw _) a _ = H3
    have o3 : Off a H H3 := by rw [← hH3]; exact o3
    have v3 : H3 tw = some (.tup (wordsV B)) := by rw [← hH3]; exact v3
    have g3 : H3 a = some (.ins CB dx (putF "b_words" (.ref tw) [])) := by rw [← hH3]; exact g3
    have aba : ba ≠ a := ne_of hba ha (by intro z; cases z)
    have ana : na ≠ a := ne_of hna ha (by intro z; cases z)
    refine ⟨_, rfl, ba, B.bars, rfl, SqL.of (o3 _ _ aba hba), Nat.lt_of_le_of_lt BI.bl (by decide), fun bs l1 hp1 _ hl1 => ?_⟩
    refine ⟨l1, _, rfl, .inl ⟨SqL.of upd_same, fun tb htb => ?_⟩⟩
    have s4 : Same H3 (upd (upd H3 l1 (.lst (bs.map V.str))) tb (.tup (bs.map V.str))) := Same.newS (Same.newS (Same.refl _) hl1) htb
    have v4 : (upd (upd H3 l1 (.lst (bs.map V.str))) tb (.tup (bs.map V.str))) tb = some (.tup (bs.map V.str)) := upd_same
    generalize upd (upd H3 l1 (.lst (bs.map V.str))) tb (.tup (bs.map V.str)) = H4 at s4 v4 ⊢
    refine ⟨_, rfl, a, CB, dx, _, rfl, s4 _ _ g3, TB.cl, TB.bars, len1000 (by kernel_rfl), ?_⟩
    have tba : tb ≠ a := ne_of v4 (s4 _ _ g3) (by intro z; cases z)
    have twa : tw ≠ a := ne_of v3 g3 (by intro z; cases z)
    generalize hH5 : upd H4 a _ = H5
    have o5 : Off a H3 H5 := by rw [← hH5]; exact Off.trans (Off.of s4) (Off.upd _)
    have v5 : H5 tb = some (.tup (bs.map V.str)) := by rw [← hH5, upd_ne tba]; exact v4
    have g5 : H5 a = some (.ins CB dx (putF "b_bars" (.ref tb) (putF "b_words" (.ref tw) []))) := by rw [← hH5, upd_same]
    refine ⟨_, rfl, na, B.notes, rfl, SqL.of (o5 _ _ ana (o3 _ _ ana hna)), Nat.lt_of_le_of_lt BI.nl (by decide), fun ns l2 hp2 _ hl2 => ?_⟩
    refine ⟨l2, _, rfl, .inl ⟨SqL.of upd_same, fun tn htn => ?_⟩⟩
    have s6 : Same H5 (upd (upd H5 l2 (.lst (ns.map V.str))) tn (.tup (ns.map V.str))) := Same.newS (Same.newS (Same.refl _) hl2) htn
    have v6 : (upd (upd H5 l2 (.lst (ns.map V.str))) tn (.tup (ns.map V.str))) tn = some (.tup (ns.map V.str)) := upd_same
    generalize upd (upd H5 l2 (.lst (ns.map V.str))) tn (.tup (ns.map V.str)) = H6 at s6 v6 ⊢
    refine ⟨_, rfl, a, CB, dx, _, rfl, s6 _ _ g5, TB.cl, TB.notes, len1000 (by kernel_rfl), ?_⟩
    have tna : tn ≠ a := ne_of v6 (s6 _ _ g5) (by intro z; cases z)
    refine q _ bs ns hp1 ⟨dx, tw, tb, tn, ?_, ?_, ?_, ?_⟩ (Off.trans o3 (Off.trans o5 (Off.trans (Off.of s6) (Off.upd _))))
    · rw [upd_same]
      kernel_rfl
    · rw [upd_ne twa]
      exact s6 _ _ (o5 _ _ twa v3)
    · rw [upd_ne tba]
      exact s6 _ _ v5
    · rw [upd_ne tna]
      exact v6
end
end K20W
end
/-! V1 -/
section
set_option Elab.async false
set_option linter.all false
set_option maxRecDepth 100000
set_option maxHeartbeats 4000000
/-! The law's own sheet: small functions. -/
namespace K20W
open PySem L2 K20
/-- a sheet, its addresses told -/
structure SA (dn : Bool) (n : Nat) (H : Hp) (p : Addr) (A : Ad) (S : Vs) (D : Du) (τ : Addr → Int) : Prop where
  ob : H p = some (.dK (skv n A S.bg))
  re : Rep (TaskAt dn) H A S D τ p
section
variable {H : Hp} {p : Addr} {n : Nat} {A : Ad} {bg : Nat}
theorem sk_cells (h : H p = some (.dK (skv n A bg))) : DGet H p (.str "cells") (some (.int n)) := DGet.k (k := Sum.inr "cells") h
theorem sk_bases (h : H p = some (.dK (skv n A bg))) : DGet H p (.str "bases") (some (.ref A.b)) := DGet.k (k := Sum.inr "bases") h
theorem sk_owned (h : H p = some (.dK (skv n A bg))) : DGet H p (.str "owned") (some (.ref A.o)) := DGet.k (k := Sum.inr "owned") h
theorem sk_dues (h : H p = some (.dK (skv n A bg))) : DGet H p (.str "dues") (some (.ref A.d)) := DGet.k (k := Sum.inr "dues") h
theorem sk_seats (h : H p = some (.dK (skv n A bg))) : DGet H p (.str "seats") (some (.ref A.s)) := DGet.k (k := Sum.inr "seats") h
theorem sk_contents (h : H p = some (.dK (skv n A bg))) : DGet H p (.str "contents") (some (.ref A.c)) := DGet.k (k := Sum.inr "contents") h
theorem sk_jobs (h : H p = some (.dK (skv n A bg))) : DGet H p (.str "jobs") (some (.ref A.j)) := DGet.k (k := Sum.inr "jobs") h
theorem sk_begun (h : H p = some (.dK (skv n A bg))) : DGet H p (.str "begun") (some (.int bg)) := DGet.k (k := Sum.inr "begun") h
end
section
variable {H : Hp} {a : Addr} {k : Str} {x : Jb} {ma na : Addr} {sv : V}
theorem tk_kind (h : H a = some (.dK (tkv k x ma na sv))) : DGet H a (.str "kind") (some (.str k)) := DGet.k (k := Sum.inr "kind") h
theorem tk_upper (h : H a = some (.dK (tkv k x ma na sv))) : DGet H a (.str "upper") (some (.int x.up)) := DGet.k (k := Sum.inr "upper") h
theorem tk_lower (h : H a = some (.dK (tkv k x ma na sv))) : DGet H a (.str "lower") (some (.int x.lo)) := DGet.k (k := Sum.inr "lower") h
theorem tk_place (h : H a = some (.dK (tkv k x ma na sv))) : DGet H a (.str "place") (some (.int x.pl)) := DGet.k (k := Sum.inr "place") h
theorem tk_marks (h : H a = some (.dK (tkv k x ma na sv))) : DGet H a (.str "marks") (some (.ref ma)) := DGet.k (k := Sum.inr "marks") h
theorem tk_seen (h : H a = some (.dK (tkv k x ma na sv))) : DGet H a (.str "seen") (some sv) := DGet.k (k := Sum.inr "seen") h
theorem tk_half (h : H a = some (.dK (tkv k x ma na sv))) : DGet H a (.str "half") (some (.bl x.half)) := DGet.k (k := Sum.inr "half") h
theorem tk_noted (h : H a = some (.dK (tkv k x ma na sv))) : DGet H a (.str "noted") (some (.ref na)) := DGet.k (k := Sum.inr "noted") h
theorem tk_free (h : H a = some (.dK (tkv k x ma na sv))) : DGet H a (.str "free") (some (.bl x.free)) := DGet.k (k := Sum.inr "free") h
end
/-- two tables of a sheet are not one -/
theorem ok_rising {n : Nat} {S : Vs} (B : Base n S) {ys : List Int} (hp : ys.Perm S.ok) (hs : ys.Pairwise (· ≤ ·)) : ys = S.ok := sorted_eq hp hs B.os
theorem keys_dI {g : Int → V} {ks : List Int} : (dI g ks).map (·.1) = ks.map Sum.inl := dI_keys g ks
section
variable {P : Program} {w : World} {K : PySem.W.Frag} {mg : Str → Option Value} {base : Heap} {f CY CB CJ : Addr} {fd : FuncData}
theorem ok_lnum (B : Blt mg) (F : Fu K "_law_is_number" "_law_is_number" (top 54) f fd) : FnOk P w K mg base CX0 1 f fd ["_law_thing"] spNum := by
  have sc : FnScope ["_law_thing"] ["_law_thing"] (defScope (top 54)) := ⟨rfl, rfl, rfl, by decide +kernel, rfl, by decide +kernel, by decide +kernel⟩
  refine F.ok sc (fun vs H Q E h => ?_) (fun cdv A outer s H vs Q E hr h => ?_)
  · obtain ⟨i, rfl, _⟩ := h
    rfl
  · obtain ⟨i, rfl, k⟩ := h
    refine ⟨_, pss_one (ps_ret (pe_and (pe_callB call_isi rfl B.isinstance boot_isinstance (pa_cons (pv 0) (pa_cons (pe_bltn rfl B.int PyProof.Rows.boot_int (v := .ty "int") rfl) pa_nil)))
      (pe_one (pe_not (pe_callB call_isi rfl B.isinstance boot_isinstance (pa_cons (pv 0) (pa_cons (pe_bltn rfl B.bool PyProof.Rows.boot_bool (v := .ty "bool") rfl) pa_nil))))))), ?_⟩
    refine ⟨_, rfl, .int i, .ty "int", .type "int", .type "int", true, rfl, .ty _, .base (.int i), kit_ty (by decide +kernel), true, rfl, ?_⟩
    exact iteT ⟨_, rfl, .int i, .ty "bool", .type "int", .type "bool", false, rfl, .ty _, .base (.int i), kit_ty (by decide +kernel), false, rfl, k⟩
def spLOpen : Sp := fun vs H Q _ => ∃ (p : Addr) (n bg : Nat) (A : Ad) (x : Int) (S : Vs), vs = [.ref p, .int x] ∧ H p = some (.dK (skv n A bg)) ∧ H A.s = some (.dK (dI (fun x => .int (S.se x)) (rng S.nw))) ∧ ∀ H', Same H H' → Q (.bl (isOpen S x)) H'
theorem ok_lopen (B : Blt mg) (F : Fu K "_law_is_open" "_law_is_open" (top 62) f fd) : FnOk P w K mg base CX0 1 f fd ["_law_sheet", "_law_seat"] spLOpen := by
  have sc : FnScope ["_law_sheet", "_law_seat"] ["_law_sheet", "_law_seat"] (defScope (top 62)) := ⟨rfl, rfl, rfl, by decide +kernel, rfl, by decide +kernel, by decide +kernel⟩
  refine F.ok sc (fun vs H Q E h => ?_) (fun cdv A outer s H vs Q E hr h => ?_)
  · obtain ⟨p, _, _, _, _, _, rfl, _⟩ := h
    rfl
  · obtain ⟨p, n, bg, A, x, S, rfl, h1, hs, q⟩ := h
    have hu := hu_of hr
    refine ⟨_, pss_one (ps_ret (pe_cmpR op_in_seq (pv 1) (pe_callTy (call_list_values rfl) rfl B.list boot_list (pa_cons (pe_bm0 PySem.F.plainAttrs_dict PySem.F.slot_dict_values PySem.F.type_dict_values mt_values (pe_dget hu (pv 0) pe_str (fun _ _ => rfl))) pa_nil)) rfl)), ?_⟩
    refine ⟨_, rfl, _, rfl, p, _, rfl, sk_seats h1, .inr (.inr (.inl ⟨rfl, .inl ⟨_, hs⟩⟩)), A.s, _, rfl, rfl, hs, fun v hv => ?_⟩
    have s1 : Same H (upd H v (valuesO v A.s)) := Same.newS (Same.refl _) hv
    refine ⟨v, A.s, _, rfl, upd_same, s1 _ _ hs, fun q0 hq0 => ⟨q0, _, rfl, .inl (SqL.of upd_same), rfl, ?_, ?_⟩⟩
    · rw [dI_vals]
      exact flat_ints S.se _
    · rw [dI_vals, inV_ints]
      exact q _ (Same.newS s1 hq0)
def spLAbove : Sp := fun vs H Q _ => ∃ (p : Addr) (n0 n bg : Nat) (A : Ad) (x : Int) (S : Vs), vs = [.ref p, .int x] ∧ H p = some (.dK (skv n A bg)) ∧ H A.b = some (.dK (dI (fun x => oV (S.bs x)) (rng S.m))) ∧ H A.o = some (.dK (dI (fun x => .ref (A.od x)) S.ok)) ∧ Base n0 S ∧
  ∀ q H', H q = none → Same H H' → H' q = some (.lst ((above S x).map V.int)) → Q (.ref q) H'
theorem ok_labove (B : Blt mg) (F : Fu K "_law_above" "_law_above" (top 61) f fd) : FnOk P w K mg base CX0 1 f fd ["_law_sheet", "_law_below"] spLAbove := by
  have sc : FnScope ["_law_sheet", "_law_below", "_law_one"] ["_law_sheet", "_law_below"] (defScope (top 61)) := ⟨rfl, rfl, rfl, by decide +kernel, rfl, by decide +kernel, by decide +kernel⟩
  refine F.ok sc (fun vs H Q E h => ?_) (fun cdv A outer s H vs Q E hr h => ?_)
  · obtain ⟨p, _, _, _, _, _, _, rfl, _⟩ := h
    rfl
  · obtain ⟨p, n0, n, bg, A, x, S, rfl, h1, hb, ho, BS, q⟩ := h
    have hu := hu_of hr
    refine ⟨_, pss_one (ps_ret (pe_lc (own := [("_law_one", 2)]) (g := gName 2) (tt := tTest (tOp rEq (tDGet (tDGet (tVar 0) (tC (.str "bases"))) (tVar 2)) (tVar 1))) (te := tVar 2) (by rfl) sc.nd (pi_list (pe_callB (call_sortedDI rfl) (by rfl) B.sorted boot_sorted (pa_cons (pe_dget hu (pv 0) pe_str (fun _ _ => rfl)) pa_nil)))
      (blkOk_by (own := [("_law_one", 2)]) (N := ["_law_sheet", "_law_below", "_law_one"]) (sc := defScope (top 61)) (by decide +kernel))
      (fun _ _ _ _ _ => pg_name (i := 2) sc.nd rfl (Or.inl rfl)) (fun _ _ _ _ _ => pts_one (pt_cmpR op_eq (pe_dget hu (pe_dget hu (pv 0) pe_str (fun _ _ => rfl)) (pv 2) (fun _ _ => rfl)) (pv 1) (nomark _))) (fun _ _ _ _ _ => pv 2))), ?_⟩
    refine ⟨_, rfl, p, _, rfl, sk_owned h1, A.o, _, S.ok, rfl, .inl ho, dI_keys _ _, Nat.lt_of_le_of_lt (ok_len BS) (by decide), fun ys l hperm hsrt hl => ?_⟩
    have ey := ok_rising BS hperm hsrt
    subst ey
    have sl : Same H (upd H l (.lst (S.ok.map V.int))) := Same.newS (Same.refl _) hl
    have vl : (upd H l (.lst (S.ok.map V.int))) l = some (.lst (S.ok.map V.int)) := upd_same
    generalize upd H l (.lst (S.ok.map V.int)) = H1 at sl vl ⊢
    refine ⟨l, rfl, ⟨_, SqL.of vl⟩, fun D0 hD0 => ?_⟩
    refine lc_pick (walk_list (K := K) (a := l) (xs := S.ok.map V.int)) hD0 (fun v => match v with | .int k => decide (S.bs k = some x) | _ => false) (fun v => v) ?_ (fun H s => SqL.of (s _ _ vl)) (fun z H' hz' s Q' hq => ?_) (fun z H' hz' hp s Q' hq => ⟨_, rfl, hq _ (Same.refl _)⟩) fun H' s hD' => ?_
    · rw [List.length_map]
      exact Nat.le_trans (ok_len BS) (by decide)
    · obtain ⟨k, hkk, rfl⟩ := List.mem_map.mp hz'
      refine ⟨_, rfl, p, _, rfl, sk_bases (s _ _ (sl _ _ h1)), _, rfl, A.b, _, rfl, dI_get (s _ _ (sl _ _ hb)) (mem_rng.mpr (BS.oi k hkk)), _, rfl, scal_oV _ _, _, rfl, ?_⟩
      rw [oV_eq]
      exact hq _ (Same.refl _)
    · refine q D0 _ ?_ (Same.trans sl s) ?_
      · exact sl.free hD0
      · rw [hD']
        unfold above
        rw [filt_int (p' := fun k => decide (S.bs k = some x)) fun k hk => rfl]
end
end K20W
end
/-! V2 -/
section
set_option Elab.async false
set_option linter.all false
set_option maxRecDepth 100000
set_option maxHeartbeats 4000000
/-! has, shown, wrong, put_on, merging of the sheet. -/
namespace K20W
open PySem L2 K20
section
variable {P : Program} {w : World} {K : PySem.W.Frag} {mg : Str → Option Value} {base : Heap} {f CY CB CJ : Addr} {fd : FuncData}
def spLHas : Sp := fun vs H Q _ => ∃ (p : Addr) (n bg : Nat) (A : Ad) (x : Int) (S : Vs) (nm k : Str) (g : Jb → Int), vs = [.ref p, .str nm, .int x] ∧ H p = some (.dK (skv n A bg)) ∧ H A.j = some (.dK (dI (fun x => .ref (A.jd x)) S.jk)) ∧ S.jk.length ≤ 1000 ∧ (∀ i ∈ S.jk, ∃ ma na sv, H (A.jd i) = some (.dK (tkv k (S.jo i) ma na sv))) ∧ (∀ i ∈ S.jk, A.jd i ≠ A.j) ∧ p ≠ A.j ∧
  ((nm = "upper" ∧ g = Jb.up) ∨ (nm = "lower" ∧ g = Jb.lo)) ∧ ∀ H', Same H H' → Q (.bl (S.jk.any fun i => decide (g (S.jo i) = x))) H'
theorem ok_lhas (F : Fu K "_law_has" "_law_has" (top 63) f fd) : FnOk P w K mg base CX0 1 f fd ["_law_sheet", "_law_name", "_law_wanted"] spLHas := by
  have sc : FnScope ["_law_sheet", "_law_name", "_law_wanted", "_law_one"] ["_law_sheet", "_law_name", "_law_wanted"] (defScope (top 63)) := ⟨rfl, rfl, rfl, by decide +kernel, rfl, by decide +kernel, by decide +kernel⟩
  refine F.ok sc (fun vs H Q E h => ?_) (fun cdv A outer s H vs Q E hr h => ?_)
  · obtain ⟨p, _, _, _, _, _, _, _, _, rfl, _⟩ := h
    rfl
  · obtain ⟨p, n, bg, A, x, S, nm, k, g, rfl, h1, hj, jl, jobs, jne, pj, hg, q⟩ := h
    have hu := hu_of hr
    refine ⟨_, pss_one (ps_ret (pe_cmpR op_in_seq (pv 2) (pe_lock (pe_lc (own := [("_law_one", 3)]) (g := gName 3) (te := tDGet (tDGet (tDGet (tVar 0) (tC (.str "jobs"))) (tVar 3)) (tVar 1)) (by rfl) sc.nd (pi_keys (pe_dget hu (pv 0) pe_str (fun _ _ => rfl)))
      (blkOk_by (own := [("_law_one", 3)]) (N := ["_law_sheet", "_law_name", "_law_wanted", "_law_one"]) (sc := defScope (top 63)) (by decide +kernel))
      (fun _ _ _ _ _ => pg_name (i := 3) sc.nd rfl (Or.inl rfl)) (fun _ _ _ _ _ => pts_nil) (fun _ _ _ _ _ => pe_dget hu (pe_dget hu (pe_dget hu (pv 0) pe_str (fun _ _ => rfl)) (pv 3) (fun _ _ => rfl)) (pv 1) (fun _ _ => rfl)))) rfl)), ?_⟩
    refine ⟨_, rfl, A.j, _, hj, trivial, fun od => ?_⟩
    have e0 : (upd H A.j (.frz od (.dK (dI (fun x => .ref (A.jd x)) S.jk)))) A.j = some (.frz od (.dK (dI (fun x => .ref (A.jd x)) S.jk))) := upd_same
    have off : Off A.j H (upd H A.j (.frz od (.dK (dI (fun x => .ref (A.jd x)) S.jk)))) := Off.upd _
    have unl : ∀ {Kx : Hp}, Same (upd H A.j (.frz od (.dK (dI (fun x => .ref (A.jd x)) S.jk)))) Kx → Same H (upd Kx A.j (.dK (dI (fun x => .ref (A.jd x)) S.jk))) := fun s => Same.unlock hj s
    generalize upd H A.j (.frz od (.dK (dI (fun x => .ref (A.jd x)) S.jk))) = H1 at e0 off unl ⊢
    have g1 := off _ _ pj h1
    refine ⟨_, rfl, p, _, rfl, sk_jobs g1, A.j, od, rfl, .inl ⟨_, e0, fun D0 hD0 => ?_⟩⟩
    let el : V → V := fun v => match v with | .int i => .int (g (S.jo i)) | _ => .non
    refine lc_pick (walk_keysA (kvs := dI (fun x => .ref (A.jd x)) S.jk)) hD0 (fun _ => true) el ?_ (fun H s => s _ _ e0) (fun z H' hz' s Q' hq => hq _ (Same.refl _)) (fun z H' hz' hp s Q' hq => ?_) fun H' s hD' => ?_
    · rw [dI_keysV, List.length_map]
      exact Nat.le_trans jl (by decide)
    · rw [dI_keysV] at hz'
      obtain ⟨i, hi, rfl⟩ := List.mem_map.mp hz'
      obtain ⟨ma, na, sv, ht⟩ := jobs i hi
      have ht := s _ _ (off _ _ (jne i hi) ht)
      refine ⟨_, rfl, p, _, rfl, sk_jobs (s _ _ g1), _, rfl, A.j, _, rfl, dI_getF (s _ _ e0) hi, _, rfl, A.jd i, .int (g (S.jo i)), rfl, ?_, hq _ (Same.refl _)⟩
      rcases hg with ⟨rfl, rfl⟩ | ⟨rfl, rfl⟩
      · exact tk_upper ht
      · exact tk_lower ht
    · have nD : D0 ≠ A.j := fun e => by subst e; rw [e0] at hD0; cases hD0
      refine ⟨s _ _ e0, D0, _, rfl, .inl (SqL.of (by rw [upd_ne nD]; exact hD')), rfl, ?_, ?_⟩
      · rw [dI_keysV, List.filter_eq_self.mpr fun _ _ => rfl, List.map_map]
        exact flat_ints (fun i => g (S.jo i)) _
      · rw [dI_keysV, List.filter_eq_self.mpr fun _ _ => rfl, List.map_map]
        have : inV (.int x) (S.jk.map (el ∘ V.int)) = S.jk.any fun i => decide (g (S.jo i) = x) := inV_ints x (fun i => g (S.jo i)) S.jk
        rw [this]
        exact q _ (unl s)
/-- how deep a reading goes -/
def dep : Option Int → Nat
  | none => 0
  | some z => z.toNat + 1
def spLShown (k : Nat) : Sp := fun vs H Q _ => ∃ (p : Addr) (n bg : Nat) (A : Ad) (o : Option Int) (c : Int) (S : Vs), vs = [.ref p, oV o, .int c] ∧ H p = some (.dK (skv n A bg)) ∧ H A.b = some (.dK (dI (fun x => oV (S.bs x)) (rng S.m))) ∧ H A.o = some (.dK (dI (fun x => .ref (A.od x)) S.ok)) ∧
  (∀ x ∈ S.ok, H (A.od x) = some (.dK (rowV (S.ow x)))) ∧ Base n S ∧ (∀ z, o = some z → 0 ≤ z ∧ z < S.m) ∧ dep o ≤ k ∧ Q (oV (shown S c (S.m + 2) o)) H
theorem ok_lshown (F : Fu K "_law_shown" "_law_shown" (top 59) f fd) (hm : mg "_law_shown" = some (.ref f)) (hb : Binds K fd ["_law_sheet", "_law_start", "_law_spot"] []) : ∀ k, FnOk P w K mg base CX0 (k + 1) f fd ["_law_sheet", "_law_start", "_law_spot"] (spLShown k) := by
  have sc : FnScope ["_law_sheet", "_law_start", "_law_spot", "_law_owned"] ["_law_sheet", "_law_start", "_law_spot"] (defScope (top 59)) := ⟨rfl, rfl, rfl, by decide +kernel, rfl, by decide +kernel, by decide +kernel⟩
  intro k
  induction k with
  | zero =>
    refine F.ok sc (fun vs H Q E h => ?_) (fun cdv A outer s H vs Q E hr h => ?_)
    · obtain ⟨p, _, _, _, _, _, _, rfl, _⟩ := h
      rfl
    · obtain ⟨p, n, bg, A, o, c, S, rfl, h1, h2, h3, h4, BS, hz, hd, q⟩ := h
      obtain rfl : o = none := by
        cases o with
        | none => rfl
        | some z => exact absurd hd (Nat.not_succ_le_zero _)
      refine ⟨_, pss_cons (ps_if (PW.pt (pw_or (pt_cmp (pc_isN (pv 1))) (pw_or1 pt_never))) (pss_one (ps_ret (pe_ifExp (pt_cmp (pc_isN (pv 1))) pe_int pe_non))) pss_nil) pss_never, ?_⟩
      exact ⟨_, rfl, true, rfl, iteT (iteT ⟨_, rfl, true, rfl, iteT q⟩)⟩
  | succ k ih =>
    refine F.ok sc (fun vs H Q E h => ?_) (fun cdv A outer s H vs Q E hr h => ?_)
    · obtain ⟨p, _, _, _, _, _, _, rfl, _⟩ := h
      rfl
    · obtain ⟨p, n, bg, A, o, c, S, rfl, h1, h2, h3, h4, BS, hz, hd, q⟩ := h
      have hu := hu_of hr
      refine ⟨_, pss_cons (ps_if (PW.pt (pw_or (pt_cmp (pc_isN (pv 1))) (pw_or1 (pt_cmp (pc_dnotin hu (pv 1) (pe_dget hu (pv 0) pe_str (fun _ _ => rfl))))))) (pss_one (ps_ret (pe_ifExp (pt_cmp (pc_isN (pv 1))) pe_int pe_non))) pss_nil)
        (pss_cons (ps_set (i := 3) sc.nd rfl (.inl rfl) (pe_dget hu (pe_dget hu (pv 0) pe_str (fun _ _ => rfl)) (pv 1) (fun _ _ => rfl)))
        (pss_one (ps_ret (pe_ifExp (pt_cmp (pc_din hu (pv 2) (pv 3))) (pe_dget hu (pv 3) (pv 2) (fun _ _ => rfl)) (pe_call ih hr rfl hm F.kp hb .nil pass0 (pa_cons (pv 0) (pa_cons (pe_dget hu (pe_dget hu (pv 0) pe_str (fun _ _ => rfl)) (pv 1) (fun _ _ => rfl)) (pa_cons (pv 2) pa_nil)))))))), ?_⟩
      cases o with
      | none => exact ⟨_, rfl, true, rfl, iteT (iteT ⟨_, rfl, true, rfl, iteT q⟩)⟩
      | some z =>
        obtain ⟨z0, z1⟩ := hz z rfl
        rw [shown_some BS z0 z1] at q
        refine ⟨_, rfl, false, rfl, iteF ⟨_, rfl, _, rfl, p, _, rfl, sk_owned h1, A.o, _, rfl, dI_getO z h3, _, rfl, ?_⟩⟩
        by_cases hm2 : z ∈ S.ok
        · rw [if_pos hm2] at q ⊢
          refine iteF ⟨_, rfl, p, _, rfl, sk_owned h1, _, rfl, A.o, _, rfl, dI_get h3 hm2, ?_⟩
          refine ⟨_, rfl, _, rfl, A.od z, _, rfl, row_get (h4 z hm2) c, _, rfl, ?_⟩
          rw [isSome_map]
          cases g : K20.get (S.ow z) c with
          | some v =>
            rw [g] at q
            refine iteT ⟨_, rfl, _, rfl, A.od z, V.int v, rfl, ?_, q⟩
            have := row_get (h4 z hm2) c
            rw [g] at this
            exact this
          | none =>
            rw [g] at q
            refine iteF ⟨_, rfl, _, rfl, p, _, rfl, sk_bases h1, _, rfl, A.b, _, rfl, dI_get h2 (mem_rng.mpr ⟨z0, z1⟩), _, rfl, p, n, bg, A, S.bs z, c, S, rfl, h1, h2, h3, h4, BS, fun u e => ?_, ?_, q⟩
            · have := BS.bl z u z0 z1 e
              omega
            · have hd : z.toNat + 1 ≤ k + 1 := hd
              cases e : S.bs z with
              | none => exact Nat.zero_le _
              | some u =>
                have := BS.bl z u z0 z1 e
                show u.toNat + 1 ≤ k
                omega
        · rw [if_neg hm2] at q ⊢
          exact iteT ⟨_, rfl, false, rfl, iteF q⟩
end
end K20W
end
/-! V3 -/
section
set_option Elab.async false
set_option linter.all false
set_option maxRecDepth 100000
set_option maxHeartbeats 4000000
/-! wrong, put_on, merging of the sheet. -/
namespace K20W
open PySem L2 K20
section
variable {P : Program} {w : World} {K : PySem.W.Frag} {mg : Str → Option Value} {base : Heap} {f CY CB CJ : Addr} {fd : FuncData}
def spLWrong : Sp := fun vs H Q _ => ∃ (p : Addr) (n bg : Nat) (A : Ad) (S : Vs), vs = [.ref p] ∧ H p = some (.dK (skv n A bg)) ∧ H A.b = some (.dK (dI (fun x => oV (S.bs x)) (rng S.m))) ∧ H A.o = some (.dK (dI (fun x => .ref (A.od x)) S.ok)) ∧
  H A.s = some (.dK (dI (fun x => .int (S.se x)) (rng S.nw))) ∧ H A.c = some (.dK (dI (fun x => .ref (A.cd x)) (rng S.nw))) ∧
  (∀ x ∈ S.ok, H (A.od x) = some (.dK (rowV (S.ow x)))) ∧ (∀ x ∈ rng S.nw, H (A.cd x) = some (.tup ((S.co x).map V.int))) ∧ Base n S ∧ n ≤ 1000 ∧ ∀ v H', Same H H' → WrongV H' v (wrong S n) → Q v H'
theorem ok_lwrong (B : Blt mg) (g1 : Gd P w K mg base "_law_shown" 22 ["_law_sheet", "_law_start", "_law_spot"] (spLShown 21)) (F : Fu K "_law_wrong" "_law_wrong" (top 60) f fd) : FnOk P w K mg base CX0 23 f fd ["_law_sheet"] spLWrong := by
  have sc : FnScope ["_law_sheet", "_law_one", "_law_spot"] ["_law_sheet"] (defScope (top 60)) := ⟨rfl, rfl, rfl, by decide +kernel, rfl, by decide +kernel, by decide +kernel⟩
  obtain ⟨f4, d4, G4, e4, k4, b4⟩ := g1
  refine F.ok sc (fun vs H Q E h => ?_) (fun cdv A outer s H vs Q E hr h => ?_)
  · obtain ⟨p, _, _, _, _, rfl, _⟩ := h
    rfl
  · obtain ⟨p, n, bg, A, S, rfl, h1, hb, ho, hs, hc, hod, hcd, BS, hn, q⟩ := h
    have hu := hu_of hr
    refine ⟨_, PSs.nox (pss_cons (ps_for PassesOwn.never rfl (pi_list (pe_callB (call_sortedDI rfl) (by rfl) B.sorted boot_sorted (pa_cons (pe_dget hu (pv 0) pe_str (fun _ _ => rfl)) pa_nil))) (pg_name (i := 1) sc.nd rfl (Or.inl rfl))
        (pss_one (ps_for PassesOwn.never rfl (pi_range1 rfl B.range (pa_cons (pe_dget hu (pv 0) pe_str (fun _ _ => rfl)) pa_nil)) (pg_name (i := 2) sc.nd rfl (Or.inl rfl))
          (pss_one (ps_if (pt_cmpR op_ne (pe_call G4 hr rfl e4 k4 b4 .nil pass0 (pa_cons (pv 0) (pa_cons (pe_dget hu (pe_dget hu (pv 0) pe_str (fun _ _ => rfl)) (pv 1) (fun _ _ => rfl)) (pa_cons (pv 2) pa_nil)))) (pe_ix ix_tup (pe_dget hu (pe_dget hu (pv 0) pe_str (fun _ _ => rfl)) (pv 1) (fun _ _ => rfl)) (pv 2) (fun _ _ => rfl)) (nomark _))
            (pss_one (ps_ret (pe_tup (pa_cons (pv 1) (pa_cons (pv 2) pa_nil))))) pss_nil))))) (pss_one (ps_ret pe_non))), ?_⟩
    refine ⟨_, rfl, p, _, rfl, sk_seats h1, A.s, _, rng S.nw, rfl, .inl hs, dI_keys _ _, by rw [rng_length]; have := BS.w14; omega, fun ys l hperm hsrt hl => ?_⟩
    have ey := sorted_eq hperm hsrt (rng_rising _)
    subst ey
    have sl : Same H (upd H l (.lst ((rng S.nw).map V.int))) := Same.newS (Same.refl _) hl
    have vl : (upd H l (.lst ((rng S.nw).map V.int))) l = some (.lst ((rng S.nw).map V.int)) := upd_same
    generalize upd H l (.lst ((rng S.nw).map V.int)) = H1 at sl vl ⊢
    have e1 := sl _ _ h1
    refine ⟨l, rfl, ⟨_, SqL.of vl⟩, ?_⟩
    refine for_it (walk_list (K := K) (a := l) (xs := (rng S.nw).map V.int)) (fun i σ H' => H' = H1 ∧ (∃ a b, σ = [some (.ref p), a, b]) ∧ ∀ j, j < i → j < S.nw → wrongIn S j n = none) ⟨rfl, ⟨_, _, rfl⟩, fun j hj => absurd hj (Nat.not_lt_zero _)⟩ (fun i σ H' _ h => by rw [h.1]; exact SqL.of vl) ?_ ?_
    · rintro i x σ H' H2 hi ⟨rfl, ⟨a0, b0, rfl⟩, hw⟩ ⟨rfl, hx⟩
      rw [List.length_map, rng_length] at hi
      rw [List.getElem?_map, rng_get hi] at hx
      cases hx
      have mi : (i : Int) ∈ rng S.nw := mem_rng.mpr ⟨by omega, by omega⟩
      obtain ⟨s0, s1⟩ := BS.sr i (by omega) (by omega)
      refine ⟨_, rfl, p, _, rfl, sk_cells e1, _, rfl, by omega, by omega, ?_⟩
      rw [show ((n : Nat) : Int).toNat = n from by omega]
      refine for_it walk_range (fun c σ H' => H' = H2 ∧ (∃ b, σ = [some (.ref p), some (.int i), b]) ∧ ∀ d : Nat, d < c → d < n → reads S i d = (S.co i)[d]?) ⟨rfl, ⟨_, rfl⟩, fun d hd => absurd hd (Nat.not_lt_zero _)⟩ (fun _ _ _ _ _ => trivial) ?_ ?_
      · rintro c x σ H' H3 hc' ⟨rfl, ⟨b1, rfl⟩, hd⟩ ⟨rfl, rfl⟩
        have lc : c < (S.co i).length := by rw [BS.cl i (by omega) (by omega)]; exact hc'
        have hcv : (S.co i)[c]? = some (S.co i)[c] := List.getElem?_eq_getElem lc
        refine ⟨_, rfl, _, rfl, p, _, rfl, sk_seats e1, _, rfl, A.s, _, rfl, dI_get (sl _ _ hs) mi, _, rfl, p, n, bg, A, some (S.se i), (0 + (c : Nat) : Int), S, rfl, e1, sl _ _ hb, sl _ _ ho, fun x hx => sl _ _ (hod x hx), BS, fun z e => (by injection e with e; subst e; exact ⟨s0, s1⟩), ?_, ?_⟩
        · have := BS.m14
          show (S.se i).toNat + 1 ≤ 21
          omega
        refine ⟨_, rfl, p, _, rfl, sk_contents e1, _, rfl, A.c, _, rfl, dI_get (sl _ _ hc) mi, _, rfl, A.cd i, _, _, V.int (S.co i)[c], rfl, rfl, SqT.of (sl _ _ (hcd _ mi)), ?_, scal_oV _ _, _, rfl, ?_⟩
        · rw [show (0 + (c : Nat) : Int) = ((c : Nat) : Int) from by omega]
          exact atI_nat (by rw [List.getElem?_map, hcv]; rfl)
        · rw [oV_eq]
          have ez : (0 + (c : Nat) : Int) = (c : Int) := by omega
          rw [ez]
          by_cases e : K20.shown S (c : Int) (S.m + 2) (some (S.se i)) = some (S.co i)[c]
          · rw [decide_eq_true e]
            refine iteF ⟨rfl, ⟨_, rfl⟩, fun d h1 h2 => ?_⟩
            by_cases ed : d = c
            · subst ed
              rw [hcv]
              exact e
            · exact hd d (by omega) h2
          · rw [decide_eq_false e]
            refine iteT ⟨_, rfl, _, rfl, (show 2 ≤ sizeLine from by decide), fun t ht => q _ _ (Same.trans sl (Same.newS (Same.refl _) ht)) ?_⟩
            have ew : K20.wrong S n = some ((i : Int), (c : Int)) := by
              refine find_at (rng_get hi) (fun j y hj hy => ?_) ?_
              · obtain ⟨rfl, hj2⟩ := rng_got hy
                exact hw j hj hj2
              · refine find_at (rng_get hc') (fun j y hj hy => ?_) ?_
                · obtain ⟨rfl, hj2⟩ := rng_got hy
                  have := hd j hj hj2
                  show (if reads S i j = (S.co i)[(j : Int).toNat]? then none else some ((i : Int), (j : Int))) = none
                  rw [if_pos (by rw [this]; rfl)]
                · show (if reads S i c = (S.co i)[(c : Int).toNat]? then none else some ((i : Int), (c : Int))) = _
                  rw [if_neg]
                  intro z
                  rw [show (c : Int).toNat = c from by omega, hcv] at z
                  exact e z
            rw [ew]
            exact ⟨t, rfl, by rw [upd_same]; show some (HO.tup [V.int i, V.int (0 + (c : Nat) : Int)]) = _; rw [ez]⟩
      · rintro σ H' ⟨rfl, ⟨b1, rfl⟩, hd⟩
        refine ⟨rfl, ⟨_, _, rfl⟩, fun j hj hj2 => ?_⟩
        by_cases ej : j = i
        · subst ej
          refine find_none fun y hy => ?_
          have := mem_rng.mp hy
          show (if reads S j y = (S.co j)[y.toNat]? then none else some ((j : Int), y)) = none
          rw [if_pos]
          have h3 := hd y.toNat (by omega) (by omega)
          rw [show ((y.toNat : Nat) : Int) = y from by omega] at h3
          exact h3
        · exact hw j (by omega) hj2
    · rintro σ H' ⟨rfl, ⟨a0, b0, rfl⟩, hw⟩
      rw [List.length_map, rng_length] at hw
      have ew : K20.wrong S n = none := find_none fun y hy => by
        have := mem_rng.mp hy
        have h3 := hw y.toNat (by omega) (by omega)
        rw [show ((y.toNat : Nat) : Int) = y from by omega] at h3
        exact h3
      exact q _ _ sl (by rw [ew]; rfl)
/-- a layer is put on, in the sheet -/
def spLPutOn : Sp := fun vs H Q _ => ∃ (p : Addr) (n bg : Nat) (A : Ad) (x : Int) (S : Vs), vs = [.ref p, .int x] ∧ H p = some (.dK (skv n A bg)) ∧ H A.b = some (.dK (dI (fun x => oV (S.bs x)) (rng S.m))) ∧ H A.o = some (.dK (dI (fun x => .ref (A.od x)) S.ok)) ∧
  A.b ≠ A.o ∧ (∀ k ∈ S.ok, k < S.m) ∧ S.m ≤ 1000 ∧ S.ok.length ≤ 1000 ∧
  ∀ q, H q = none → Q (.int S.m) (upd (upd (upd H A.b (.dK (dI (fun y => oV (fupd S.bs S.m (some x) y)) (rng (S.m + 1))))) q (.dK [])) A.o (.dK (dI (fun y => .ref (fupd A.od S.m q y)) (S.ok ++ [(S.m : Int)]))))
theorem ok_lputon (B : Blt mg) (F : Fu K "_law_put_on" "_law_put_on" (top 68) f fd) : FnOk P w K mg base CX0 1 f fd ["_law_sheet", "_law_below"] spLPutOn := by
  have sc : FnScope ["_law_sheet", "_law_below", "_law_fresh", "_law_bases", "_law_owned"] ["_law_sheet", "_law_below"] (defScope (top 68)) := ⟨rfl, rfl, rfl, by decide +kernel, rfl, by decide +kernel, by decide +kernel⟩
  refine F.ok sc (fun vs H Q E h => ?_) (fun cdv A outer s H vs Q E hr h => ?_)
  · obtain ⟨p, _, _, _, _, _, rfl, _⟩ := h
    rfl
  · obtain ⟨p, n, bg, A, x, S, rfl, h1, hb, ho, nbo, hk, hm, hz, q⟩ := h
    have hu := hu_of hr
    refine ⟨_, pss_cons (ps_par3 (i := 2) (j := 3) (l := 4) (by rfl) sc.nd rfl rfl rfl (by decide) (by decide) (by decide) rfl rfl rfl (pa_cons (pe_callB call_lenD (by rfl) B.len PySem.boot_len (pa_cons (pe_dget hu (pv 0) pe_str (fun _ _ => rfl)) pa_nil)) (pa_cons (pe_dget hu (pv 0) pe_str (fun _ _ => rfl)) (pa_cons (pe_dget hu (pv 0) pe_str (fun _ _ => rfl)) pa_nil))) rfl)
      (pss_cons (ps_dput hu (pv 3) (pv 2) (pv 1) rfl) (pss_cons (ps_dput hu (pv 4) (pv 2) pe_dnewK rfl) (pss_one (ps_ret (pv 2))))), ?_⟩
    refine ⟨_, rfl, p, _, rfl, sk_bases h1, A.b, _, rfl, hb, ?_⟩
    rw [dI_length, rng_length]
    refine ⟨_, rfl, p, _, rfl, sk_bases h1, _, rfl, p, _, rfl, sk_owned h1, _, _, _, rfl, ?_⟩
    have nin : (S.m : Int) ∉ rng S.m := fun z => by have := mem_rng.mp z; omega
    have p1 := dI_setNew hb nin (by rw [rng_length]; exact hm) (.int x)
    rw [← rng_succ, show fupd (fun x => oV (S.bs x)) (S.m : Int) (.int x) = fun z => oV (fupd S.bs S.m (some x) z) from (fupd_map oV S.bs S.m (some x)).symm] at p1
    refine ⟨_, rfl, _, rfl, _, rfl, _, _, rfl, p1, ?_⟩
    generalize hH1 : upd H A.b (.dK (dI (fun z => oV (fupd S.bs S.m (some x) z)) (rng (S.m + 1)))) = H1
    have e2 : H1 A.o = some (.dK (dI (fun x => .ref (A.od x)) S.ok)) := by rw [← hH1, upd_ne nbo.symm]; exact ho
    intro q0 hq0
    have nin2 : (S.m : Int) ∉ S.ok := fun z => by have := hk _ z; omega
    have e3 : (upd H1 q0 (.dK [])) A.o = some (.dK (dI (fun x => .ref (A.od x)) S.ok)) := by rw [upd_ne (ne_of_none e2 hq0)]; exact e2
    have p2 := dI_setNew e3 nin2 hz (.ref q0)
    rw [show fupd (fun x => V.ref (A.od x)) (S.m : Int) (.ref q0) = fun z => .ref (fupd A.od S.m q0 z) from (fupd_map V.ref A.od S.m q0).symm] at p2
    refine ⟨_, rfl, _, rfl, _, _, rfl, p2, ?_⟩
    have hq : H q0 = none := by
      rw [← hH1] at hq0
      by_cases e : q0 = A.b
      · subst e
        rw [upd_same] at hq0
        cases hq0
      · rw [upd_ne e] at hq0
        exact hq0
    have := q q0 hq
    rw [hH1] at this
    exact ⟨_, rfl, this⟩
/-- no job runs -/
def spLMerging : Sp := fun vs H Q _ => ∃ (fa p : Addr) (n bg : Nat) (A : Ad) (x : Int), vs = [.ref fa, .ref p, .int x] ∧ H p = some (.dK (skv n A bg)) ∧ H A.j = some (.dK []) ∧ p ≠ A.j ∧ Q .non H
theorem ok_lmerging (F : Fu K "_law_merging" "_law_merging" (top 67) f fd) : FnOk P w K mg base CX0 1 f fd ["_law_fields", "_law_sheet", "_law_seat"] spLMerging := by
  have sc : FnScope ["_law_fields", "_law_sheet", "_law_seat", "_law_one", "_law_task"] ["_law_fields", "_law_sheet", "_law_seat"] (defScope (top 67)) := ⟨rfl, rfl, rfl, by decide +kernel, rfl, by decide +kernel, by decide +kernel⟩
  refine F.ok sc (fun vs H Q E h => ?_) (fun cdv A outer s H vs Q E hr h => ?_)
  · obtain ⟨fa, p, _, _, _, _, rfl, _⟩ := h
    rfl
  · obtain ⟨fa, p, n, bg, A, x, rfl, h1, hj, pj, q⟩ := h
    have hu := hu_of hr
    refine ⟨_, PSs.nox (pss_cons (ps_lock (ps_for PassesOwn.never rfl (pi_keys (pe_dget hu (pv 1) pe_str (fun _ _ => rfl))) (pg_name (i := 3) sc.nd rfl (Or.inl rfl)) pss_never)) (pss_one (ps_ret pe_non))), ?_⟩
    refine ⟨A.j, _, hj, trivial, fun od => ?_⟩
    have e0 : (upd H A.j (.frz od (.dK []))) A.j = some (.frz od (.dK [])) := upd_same
    refine ⟨_, rfl, p, _, rfl, sk_jobs (by rw [upd_ne pj]; exact h1), A.j, od, rfl, .inl ⟨_, e0, ?_⟩⟩
    refine for_it (walk_keys (kvs := [])) (fun _ _ H' => H' = upd H A.j (.frz od (.dK []))) rfl (fun _ _ _ _ e => by rw [e]; exact e0) (fun i _ _ _ _ hi => absurd hi (Nat.not_lt_zero _)) fun σ' H' e => ?_
    subst e
    refine ⟨e0, ?_⟩
    rw [upd_upd, upd_id hj]
    exact q
end
end K20W
end
/-! V4 -/
section
set_option Elab.async false
set_option linter.all false
set_option maxRecDepth 100000
set_option maxHeartbeats 4000000
/-! Changes of a sheet; written. -/
namespace K20W
open PySem L2 K20
section
variable {dn : Bool} {n : Nat} {H H' : Hp} {p : Addr} {A : Ad} {S : Vs} {D : Du} {τ : Addr → Int}
theorem SA.same (Y : SA dn n H p A S D τ) (s : Same H H') : SA dn n H' p A S D τ := ⟨s _ _ Y.ob, Y.re.same (TaskAt.stays dn) s⟩
theorem SA.frame (Y : SA dn n H p A S D τ) {σ : Addr → Int} (k : Kp σ H H') (dj : Dj τ σ) : SA dn n H' p A S D τ :=
  ⟨k _ _ Y.ob fun z => by
    rcases dj p with q | q
    · rw [Y.re.tp] at q
      cases q
    · exact (z q).elim, Y.re.frame (TaskAt.stays dn) k dj⟩
theorem SA.setb (Y : SA dn n H p A S D τ) (bs : Int → Option Int) :
    SA dn n (upd H A.b (.dK (dI (fun x => oV (bs x)) (rng S.m)))) p A { S with bs := bs } D τ ∧ Kp τ H (upd H A.b (.dK (dI (fun x => oV (bs x)) (rng S.m)))) := by
  obtain ⟨h1, R⟩ := Y
  have yo : p ≠ A.b := tag_ne R.tp R.tb (by decide)
  exact ⟨⟨by rw [upd_ne yo]; exact h1, R.bases (TaskAt.stays dn) (Ch.wr R.tb R.hb isT_dK) upd_same (R.live.wr _ _)⟩, (Kp.refl τ H).wr (by rw [R.tb]; decide) R.hb isT_dK⟩
theorem SA.sets (Y : SA dn n H p A S D τ) (se : Int → Int) :
    SA dn n (upd H A.s (.dK (dI (fun x => .int (se x)) (rng S.nw)))) p A { S with se := se } D τ ∧ Kp τ H (upd H A.s (.dK (dI (fun x => .int (se x)) (rng S.nw)))) := by
  obtain ⟨h1, R⟩ := Y
  have yo : p ≠ A.s := tag_ne R.tp R.ts (by decide)
  exact ⟨⟨by rw [upd_ne yo]; exact h1, R.seats (TaskAt.stays dn) (Ch.wr R.ts R.hs isT_dK) upd_same (R.live.wr _ _)⟩, (Kp.refl τ H).wr (by rw [R.ts]; decide) R.hs isT_dK⟩
theorem SA.setd (Y : SA dn n H p A S D τ) (D' : Du) (dd : Int → Addr) (tu : ∀ x ∈ D'.dk, H (dd x) = some (.tup ((D'.du x).map V.int))) :
    SA dn n (upd H A.d (.dK (dI (fun x => .ref (dd x)) D'.dk))) p { A with dd := dd } S D' τ ∧ Kp τ H (upd H A.d (.dK (dI (fun x => .ref (dd x)) D'.dk))) := by
  obtain ⟨h1, R⟩ := Y
  have yo : p ≠ A.d := tag_ne R.tp R.td (by decide)
  exact ⟨⟨by rw [upd_ne yo]; exact h1, R.dues (TaskAt.stays dn) (Ch.wr R.td R.hd isT_dK) upd_same (fun x hx => by
    rw [upd_ne (ne_of (tu x hx) R.hd (by intro z; cases z))]
    exact tu x hx) (R.live.wr _ _)⟩, (Kp.refl τ H).wr (by rw [R.td]; decide) R.hd isT_dK⟩
theorem SA.due1 (Y : SA dn n H p A S D τ) {k : Int} {t : Addr} {l : List Int} (ht : H t = some (.tup (l.map V.int))) (hl : D.dk.length ≤ 1000) :
    ∃ dd H1, DPut H A.d (.int k) (.ref t) H1 ∧ SA dn n H1 p { A with dd := dd } S (D.put k l) τ ∧ Kp τ H H1 := by
  have q := dI_set (k := k) Y.re.hd hl (.ref t)
  have e : fupd (fun x => V.ref (A.dd x)) k (.ref t) = fun x => .ref (fupd A.dd k t x) := (fupd_map V.ref A.dd k t).symm
  rw [e] at q
  obtain ⟨a, b⟩ := Y.setd (D.put k l) (fupd A.dd k t) fun x hx => by
    show H (fupd A.dd k t x) = some (.tup ((fupd D.du k l x).map V.int))
    by_cases q : x = k
    · subst q
      rw [fupd_same, fupd_same]
      exact ht
    · rw [fupd_ne q, fupd_ne q]
      exact Y.re.hdd x ((Du.put_mem.mp hx).resolve_right q)
  exact ⟨_, _, q, a, b⟩
theorem SA.row (Y : SA dn n H p A S D τ) {x : Int} (hx : x ∈ S.ok) (r : Row) :
    SA dn n (upd H (A.od x) (.dK (rowV r))) p A { S with ow := fupd S.ow x r } D τ ∧ Kp τ H (upd H (A.od x) (.dK (rowV r))) := by
  obtain ⟨h1, R⟩ := Y
  have t := R.tod x hx
  have yo : p ≠ A.od x := tag_ne R.tp t.1 (by omega)
  exact ⟨⟨by rw [upd_ne yo]; exact h1, R.cells (TaskAt.stays dn) hx (Ch.wr t.1 (R.hod x hx) isT_dK) upd_same (R.live.wr _ _)⟩, (Kp.refl τ H).wr (by rw [t.1]; omega) (R.hod x hx) isT_dK⟩
theorem SA.cont1 (Y : SA dn n H p A S D τ) {u : Int} (hu : u ∈ rng S.nw) {t : Addr} {l : List Int} (ht : H t = some (.tup (l.map V.int))) (hl : S.nw ≤ 1000) :
    ∃ cd H1, DPut H A.c (.int u) (.ref t) H1 ∧ SA dn n H1 p { A with cd := cd } { S with co := fupd S.co u l } D τ ∧ Kp τ H H1 := by
  obtain ⟨h1, R⟩ := Y
  have q := dI_setOld R.hc hu (by rw [rng_length]; exact hl) (.ref t)
  rw [← fupd_map V.ref] at q
  have yo : p ≠ A.c := tag_ne R.tp R.tc (by decide)
  refine ⟨fupd A.cd u t, _, q, ⟨by rw [upd_ne yo]; exact h1, R.conts (TaskAt.stays dn) (Ch.wr R.tc R.hc isT_dK) upd_same (fun x hx => ?_) (R.live.wr _ _)⟩, (Kp.refl τ H).wr (by rw [R.tc]; decide) R.hc isT_dK⟩
  have tup : ∀ {a : Addr} {xs : List V}, H a = some (HO.tup xs) → (upd H A.c (.dK (dI (fun x => V.ref (fupd A.cd u t x)) (rng S.nw)))) a = some (HO.tup xs) := fun h => by
    rw [upd_ne (ne_of h R.hc (by intro z; cases z))]
    exact h
  show _ = some (HO.tup ((fupd S.co u l x).map V.int))
  by_cases e : x = u
  · subst e
    rw [fupd_same, fupd_same]
    exact tup ht
  · rw [fupd_ne e, fupd_ne e]
    exact tup (R.hcd x hx)
theorem SA.jobs_none (Y : SA dn n H p A S D τ) (e : S.jk = []) : H A.j = some (.dK []) := by
  have := Y.re.hj
  rw [e] at this
  exact this
theorem SA.put (Y : SA dn n H p A S D τ) (hm : ∀ y ∈ S.ok, 0 ≤ y ∧ y < S.m) {q : Addr} (hq : H q = none) {x : Int} {nw : Nat} {se : Int → Int} {co : Int → List Int} {cd : Int → Addr} {H' : Hp} (hcd : ∀ y ∈ rng nw, H (cd y) = some (.tup ((co y).map V.int)))
    (keep : ∀ b o, H b = some o → b ≠ A.b → b ≠ A.o → b ≠ A.s → b ≠ A.c → H' b = some o) (nq : H' q = some (.dK []))
    (hb : H' A.b = some (.dK (dI (fun y => oV (fupd S.bs S.m (some x) y)) (rng (S.m + 1))))) (ho : H' A.o = some (.dK (dI (fun y => .ref (fupd A.od S.m q y)) (S.ok ++ [(S.m : Int)]))))
    (hs : H' A.s = some (.dK (dI (fun y => .int (se y)) (rng nw)))) (hc : H' A.c = some (.dK (dI (fun y => .ref (cd y)) (rng nw)))) :
    SA dn n H' p { A with od := fupd A.od S.m q, cd := cd } { onS S x with nw := nw, se := se, co := co } D (tg τ q (10 + 2 * S.m)) ∧ Kp τ H H' ∧ Gw τ (tg τ q (10 + 2 * S.m)) H := by
  obtain ⟨h1, R⟩ := Y
  have tup : ∀ {b : Addr} {xs : List V}, H b = some (.tup xs) → H' b = some (.tup xs) := fun {b xs} h => keep _ _ h (ne_of h R.hb (by intro z; cases z)) (ne_of h R.ho (by intro z; cases z)) (ne_of h R.hs (by intro z; cases z)) (ne_of h R.hc (by intro z; cases z))
  obtain ⟨R2, k2, g2⟩ := R.put2 (TaskAt.stays dn) hm hq (x := x) (nw := nw) (se := se) (co := co) (D' := D) (dd := A.dd) (cd := cd) (fun b o h n1 n2 _ n4 n5 => keep _ _ h n1 n2 n4 n5) nq hb ho
    (keep _ _ R.hd (tag_ne R.td R.tb (by decide)) (tag_ne R.td R.to (by decide)) (tag_ne R.td R.ts (by decide)) (tag_ne R.td R.tc (by decide))) hs hc (fun y hy => tup (R.hdd y hy)) (fun y hy => tup (hcd y hy))
  exact ⟨⟨keep _ _ h1 (tag_ne R.tp R.tb (by decide)) (tag_ne R.tp R.to (by decide)) (tag_ne R.tp R.ts (by decide)) (tag_ne R.tp R.tc (by decide)), R2⟩, k2, g2⟩
end
theorem walk_rangeA {n : Nat} : Walk (Itr 0 n) ((rng n).map V.int).length (fun _ => True) (YAt ((rng n).map V.int)) := by
  rw [List.length_map, rng_length]
  refine walk_range.mono (fun _ h => h) fun i H x H' hi _ y => ?_
  obtain ⟨e, h1⟩ := y
  refine ⟨e, ?_⟩
  rw [List.getElem?_map, rng_get hi, h1]
  show some (V.int i) = some (V.int (0 + i))
  rw [Int.zero_add]
section
variable {P : Program} {w : World} {K : PySem.W.Frag} {mg : Str → Option Value} {base : Heap} {f CY CB CJ : Addr} {fd : FuncData}
theorem set_map (l : List Int) (c v : Int) (n : Nat) (hl : l.length = n) (h0 : 0 ≤ c) : ((rng n).map fun k => if k = c then v else (l[k.toNat]?).getD 0) = l.set c.toNat v := by
  refine List.ext_getElem? fun i => ?_
  rw [List.getElem?_map, List.getElem?_set]
  by_cases hi : i < n
  · rw [rng_get hi]
    show some (if (i : Int) = c then v else (l[(i : Int).toNat]?).getD 0) = _
    have hg : l[i]? = some l[i] := List.getElem?_eq_getElem (by omega)
    by_cases e : c.toNat = i
    · rw [if_pos (by omega), if_pos e, if_pos (by omega)]
    · rw [if_neg (by omega), if_neg e, Int.toNat_natCast, hg]
      rfl
  · rw [show (rng n)[i]? = none from List.getElem?_eq_none (by rw [rng_length]; omega)]
    by_cases e : c.toNat = i
    · rw [if_pos e, if_neg (by omega)]
      rfl
    · rw [if_neg e, List.getElem?_eq_none (by omega)]
      rfl
def spLWritten : Sp := fun vs H Q _ => ∃ (fa p t : Addr) (dn : Bool) (n : Nat) (A : Ad) (S : Vs) (D : Du) (τ : Addr → Int) (u c v : Int), vs = [.ref fa, .ref p, .ref t] ∧ H t = some (.tup [.str "write", .int u, .int c, .int v]) ∧ SA dn n H p A S D τ ∧ Grow n S D ∧ n ≤ 40 ∧ (0 ≤ u ∧ u < S.nw) ∧ (0 ≤ c ∧ c < n) ∧
  ∀ cd H', SA dn n H' p { A with cd := cd } (writeS S u c v) D τ → Kp τ H H' → Q .non H'
theorem ok_lwritten (B : Blt mg) (g1 : Gd P w K mg base "_law_merging" 1 ["_law_fields", "_law_sheet", "_law_seat"] spLMerging) (F : Fu K "_law_written" "_law_written" (top 69) f fd) : FnOk P w K mg base CX0 2 f fd ["_law_fields", "_law_sheet", "_law_deed"] spLWritten := by
  have sc : FnScope ["_law_fields", "_law_sheet", "_law_deed", "_law_word", "_law_one", "_law_spot", "_law_number", "_law_seat", "_law_contents", "_law_task", "_law_owned", "_law_below", "_law_k"] ["_law_fields", "_law_sheet", "_law_deed"] (defScope (top 69)) := ⟨rfl, rfl, rfl, by decide +kernel, rfl, by decide +kernel, by decide +kernel⟩
  obtain ⟨f4, d4, G4, e4, k4, b4⟩ := g1
  refine F.ok sc (fun vs H Q E h => ?_) (fun cdv A outer s H vs Q E hr h => ?_)
  · obtain ⟨fa, p, t, _, _, _, _, _, _, _, _, _, rfl, _⟩ := h
    rfl
  · obtain ⟨fa, p, t, dn, n, A, S, D, τ, u, c, v, rfl, ht, Y, G, n40, hw, hc, q⟩ := h
    have hu := hu_of hr
    obtain ⟨h1, R⟩ := id Y
    have BS := G.ba
    refine ⟨_, pss_cons (ps_asg (pv 2) (pg_tup rfl (pgs_cons (pg_name (i := 3) sc.nd rfl (Or.inl rfl)) (pgs_cons (pg_name (i := 4) sc.nd rfl (Or.inr rfl)) (pgs_cons (pg_name (i := 5) sc.nd rfl (Or.inr rfl)) (pgs_cons (pg_name (i := 6) sc.nd rfl (Or.inr rfl)) pgs_nil))))))
      (pss_cons (ps_asg (pe_tup (pa_cons (pe_dget hu (pe_dget hu (pv 1) pe_str (fun _ _ => rfl)) (pv 4) (fun _ _ => rfl)) (pa_cons (pe_dget hu (pv 1) pe_str (fun _ _ => rfl)) pa_nil))) (pg_tup rfl (pgs_cons (pg_name (i := 7) sc.nd rfl (Or.inl rfl)) (pgs_cons (pg_name (i := 8) sc.nd rfl (Or.inr rfl)) pgs_nil))))
      (pss_cons (ps_par (i := 9) (j := 10) (by rfl) sc.nd rfl rfl (by decide) rfl rfl (pa_cons (pe_call G4 hr rfl e4 k4 b4 .nil pass0 (pa_cons (pv 0) (pa_cons (pv 1) (pa_cons (pv 7) pa_nil)))) (pa_cons (pe_dget hu (pe_dget hu (pv 1) pe_str (fun _ _ => rfl)) (pv 7) (fun _ _ => rfl)) pa_nil)) rfl)
      (pss_cons (ps_dput hu (pv 10) (pv 5) (pv 6) rfl)
      (pss_cons (ps_dput hu (pv 8) (pv 4) (pe_callTy call_tuple_of rfl B.tuple boot_tuple (pa_cons (pe_lc (own := [("_law_k", 12)]) (g := gName 12) (te := tIf (tTest (tOp rEq (tVar 12) (tVar 5))) (tVar 6) (tOp (rIxT K) (tDGet (tVar 8) (tVar 4)) (tVar 12))) (by rfl) sc.nd (pi_range1 rfl B.range (pa_cons (pe_dget hu (pv 1) pe_str (fun _ _ => rfl)) pa_nil))
          (blkOk_by (own := [("_law_k", 12)]) (N := ["_law_fields", "_law_sheet", "_law_deed", "_law_word", "_law_one", "_law_spot", "_law_number", "_law_seat", "_law_contents", "_law_task", "_law_owned", "_law_below", "_law_k"]) (sc := defScope (top 69)) (by decide +kernel))
          (fun _ _ _ _ _ => pg_name (i := 12) sc.nd rfl (Or.inl rfl)) (fun _ _ _ _ _ => pts_nil) (fun _ _ _ _ _ => pe_ifExp (pt_cmpR op_eq (pv 12) (pv 5) (nomark _)) (pv 6) (pe_ix ix_tup (pe_dget hu (pv 8) (pv 4) (fun _ _ => rfl)) (pv 12) (fun _ _ => rfl)))) pa_nil)) rfl)
      (pss_cons (ps_if (pt_cmp (pc_isN (pv 9))) (pss_one (ps_ret pe_non)) pss_nil) pss_never))))), ?_⟩
    have hwm := mem_rng.mpr hw
    have hso : S.se u ∈ S.ok := by rw [G.ok]; exact mem_rng.mpr (BS.sr u hw.1 hw.2)
    have sl : sizeLine ≥ 1000 := by decide
    refine ⟨_, rfl, t, _, rfl, SqT.of ht, rfl, _, _, rfl, _, _, rfl, _, _, rfl, _, _, rfl, rfl, ?_⟩
    refine ⟨_, rfl, p, _, rfl, sk_seats h1, _, rfl, A.s, _, rfl, dI_get R.hs hwm, _, rfl, p, _, rfl, sk_contents h1, (show 2 ≤ sizeLine from by decide), fun t2 ht2 => ⟨t2, _, rfl, SqT.of upd_same, rfl, _, _, rfl, _, _, rfl, rfl, ?_⟩⟩
    have s1 : Same H (upd H t2 (.tup [.int (S.se u), .ref A.c])) := Same.newS (Same.refl _) ht2
    generalize upd H t2 (.tup [.int (S.se u), .ref A.c]) = H1 at s1 ⊢
    have Y1 := Y.same s1
    obtain ⟨g1, R1⟩ := id Y1
    refine ⟨_, rfl, _, rfl, _, rfl, fa, p, n, S.bg, A, S.se u, rfl, g1, Y1.jobs_none G.jk, tag_ne R.tp R.tj (by decide), _, rfl, p, _, rfl, sk_owned g1, _, rfl, A.o, _, rfl, dI_get R1.ho hso, _, _, rfl, ?_⟩
    have lr : (S.ow (S.se u)).length ≤ 1000 := Nat.le_trans (row_len (BS.ro _ hso)) (by omega)
    refine ⟨_, rfl, _, rfl, _, rfl, A.od (S.se u), _, rfl, row_put (R1.hod _ hso) lr c v, ?_⟩
    obtain ⟨Y2, k2⟩ := Y1.row hso (put (S.ow (S.se u)) c v)
    generalize hH2 : upd H1 (A.od (S.se u)) (.dK (rowV (put (S.ow (S.se u)) c v))) = H2 at Y2 k2 ⊢
    obtain ⟨g2, R2⟩ := id Y2
    have lc := BS.cl u hw.1 hw.2
    have tc : H2 (A.cd u) = some (.tup ((S.co u).map V.int)) := R2.hcd u hwm
    refine ⟨_, rfl, p, _, rfl, sk_cells g2, n, rfl, by omega, by omega, ?_⟩
    rw [show ((n : Nat) : Int).toNat = n from by omega]
    intro D0 hD0
    let el : V → V := fun z => match z with | .int k => .int (if k = c then v else ((S.co u)[k.toNat]?).getD 0) | _ => .non
    refine lc_pick (walk_rangeA (n := n)) hD0 (fun _ => true) el ?_ (fun _ _ => trivial) (fun z H' hz' s Q' hq => hq _ (Same.refl _)) (fun z H' hz' hp s Q' hq => ?_) fun H' s hD' => ?_
    · rw [List.length_map, rng_length]
      omega
    · obtain ⟨k, hk, rfl⟩ := List.mem_map.mp hz'
      have hk2 := mem_rng.mp hk
      have hq2 := hq H' (Same.refl _)
      have eel : el (.int k) = .int (if k = c then v else ((S.co u)[k.toNat]?).getD 0) := rfl
      rw [eel] at hq2
      refine ⟨_, rfl, _, rfl, rfl, _, rfl, ?_⟩
      have ek : decide (V.int k = V.int c) = decide (k = c) := by
        rw [decide_eq_decide]
        exact ⟨V.int.inj, fun e => by rw [e]⟩
      rw [ek]
      by_cases e : k = c
      · rw [if_pos e] at hq2
        rw [decide_eq_true e]
        exact iteT ⟨_, rfl, hq2⟩
      · rw [if_neg e] at hq2
        rw [decide_eq_false e]
        have hg : (S.co u)[k.toNat]? = some (S.co u)[k.toNat] := List.getElem?_eq_getElem (by omega)
        rw [hg] at hq2
        refine iteF ⟨_, rfl, _, rfl, A.c, _, rfl, dI_get (s _ _ R2.hc) hwm, _, rfl, A.cd u, _, _, V.int (S.co u)[k.toNat], rfl, rfl, SqT.of (s _ _ tc), ?_, hq2⟩
        have hx := atI_nat (xs := (S.co u).map V.int) (j := k.toNat) (v := V.int (S.co u)[k.toNat]) (by rw [List.getElem?_map, hg]; rfl)
        rw [show ((k.toNat : Nat) : Int) = k from by omega] at hx
        exact hx
    · have hD2 : H' D0 = some (.lst (((S.co u).set c.toNat v).map V.int)) := by
        rw [hD', List.filter_eq_self.mpr fun _ _ => rfl, List.map_map, ← set_map (S.co u) c v n lc hc.1, List.map_map]
        rfl
      refine ⟨D0, _, rfl, .inl ⟨SqL.of hD2, fun t3 ht3 => ?_⟩⟩
      have s3 : Same H2 (upd H' t3 (.tup (((S.co u).set c.toNat v).map V.int))) := Same.newS s ht3
      have v3 : (upd H' t3 (.tup (((S.co u).set c.toNat v).map V.int))) t3 = some (.tup (((S.co u).set c.toNat v).map V.int)) := upd_same
      generalize upd H' t3 (.tup (((S.co u).set c.toNat v).map V.int)) = H3 at s3 v3 ⊢
      have Y3 := Y2.same s3
      obtain ⟨cd, H4, p4, Y4, k4⟩ := Y3.cont1 hwm v3 (Nat.le_trans BS.w14 (by decide))
      refine ⟨_, rfl, _, rfl, A.c, H4, rfl, p4, ?_⟩
      exact ⟨_, rfl, true, rfl, iteT (q cd H4 Y4 (Kp.trans (Kp.trans (Kp.trans (Kp.of_same s1) (Gw.refl τ H) k2) (Gw.refl τ H) (Kp.of_same s3)) (Gw.refl τ H) k4))⟩
end
end K20W
end
/-! V5 -/
section
set_option Elab.async false
set_option linter.all false
set_option maxRecDepth 100000
set_option maxHeartbeats 4000000
/-! begins. -/
namespace K20W
open PySem L2 K20
theorem only_iff {l : List Int} {x : Int} (hn : l.Pairwise (· < ·)) (hx : x ∈ l) : decide (l = [x]) = (l.filter fun y => decide (y ≠ x)).isEmpty := by
  rw [Bool.eq_iff_iff, decide_eq_true_iff, List.isEmpty_iff, List.filter_eq_nil_iff]
  constructor
  · rintro rfl y hy
    rw [List.mem_singleton.mp hy]
    simp
  · intro h
    refine rising_eq hn (List.pairwise_singleton ..) fun y => ⟨fun hy => ?_, fun hy => ?_⟩
    · have := h y hy
      rw [List.mem_singleton]
      simpa using this
    · rw [List.mem_singleton.mp hy]
      exact hx
theorem above_rising {n : Nat} {S : Vs} (B : Base n S) (x : Int) : (above S x).Pairwise (· < ·) := B.os.filter _
theorem sk_put_begun (n : Nat) (A : Ad) (bg z : Nat) : putK (skv n A bg) (Sum.inr "begun") (.int z) = skv n A z := by kernel_rfl
theorem sk_put_owned (n : Nat) (A : Ad) (bg : Nat) (q : Addr) : putK (skv n A bg) (Sum.inr "owned") (.ref q) = skv n { A with o := q } bg := by kernel_rfl
/-- a task but for the last two -/
def tk7 (k : Str) (u l : Int) (ma : Addr) : List (Key × V) := [(Sum.inr "kind", .str k), (Sum.inr "upper", .int u), (Sum.inr "lower", .int l), (Sum.inr "place", .int 0), (Sum.inr "marks", .ref ma), (Sum.inr "seen", .non), (Sum.inr "half", .bl false)]
theorem tk7_merge (k : Str) (u l : Int) (ma : Addr) : mergeK [] (tk7 k u l ma) = tk7 k u l ma := by kernel_rfl
theorem tk7_put (k : Str) (S : Vs) (x l : Int) (ma na : Addr) : putK (putK (tk7 k x l ma) (Sum.inr "noted") (.ref na)) (Sum.inr "free") (.bl ((above S l).filter fun y => decide (y ≠ x)).isEmpty) = tkv k (begun S x l) ma na .non := by kernel_rfl
section
variable {P : Program} {w : World} {K : PySem.W.Frag} {mg : Str → Option Value} {base : Heap} {f CY CB CJ : Addr} {fd : FuncData}
def spLBegins : Sp := fun vs H Q _ => ∃ (p : Addr) (dn : Bool) (n : Nat) (A : Ad) (S : Vs) (D : Du) (τ : Addr → Int) (x l : Int), vs = [.ref p, .str (kindS dn), .int x] ∧ SA dn n H p A S D τ ∧ Base n S ∧ x ∈ S.ok ∧ S.bs x = some l ∧
  ∀ jd H' τ', SA dn n H' p { A with jd := jd } (beginS S x l) D τ' → Kp τ H H' → Gw τ τ' H → Q (.int S.bg) H'
theorem ok_lbegins (B : Blt mg) (g1 : Gd P w K mg base "_law_above" 1 ["_law_sheet", "_law_below"] spLAbove) (F : Fu K "_law_begins" "_law_begins" (top 75) f fd) : FnOk P w K mg base CX0 2 f fd ["_law_sheet", "_law_word", "_law_upper"] spLBegins := by
  have sc : FnScope ["_law_sheet", "_law_word", "_law_upper", "_law_lower", "_law_jobs", "_law_task"] ["_law_sheet", "_law_word", "_law_upper"] (defScope (top 75)) := ⟨rfl, rfl, rfl, by decide +kernel, rfl, by decide +kernel, by decide +kernel⟩
  obtain ⟨f4, d4, G4, e4, k4, b4⟩ := g1
  refine F.ok sc (fun vs H Q E h => ?_) (fun cdv A outer s H vs Q E hr h => ?_)
  · obtain ⟨p, _, _, _, _, _, _, _, _, rfl, _⟩ := h
    rfl
  · obtain ⟨p, dn, n, A, S, D, τ, x, l, rfl, Y, BS, hx, hb, q⟩ := h
    have hu := hu_of hr
    obtain ⟨h1, R⟩ := id Y
    refine ⟨_, pss_cons (ps_par (i := 3) (j := 4) (by rfl) sc.nd rfl rfl (by decide) rfl rfl (pa_cons (pe_dget hu (pe_dget hu (pv 0) pe_str (fun _ _ => rfl)) (pv 2) (fun _ _ => rfl)) (pa_cons (pe_dget hu (pv 0) pe_str (fun _ _ => rfl)) pa_nil)) rfl)
      (pss_cons (ps_set (i := 5) sc.nd rfl (.inl rfl) (pe_disp (pps_cons pe_str (pv 1) (pps_cons pe_str (pv 2) (pps_cons pe_str (pv 3) (pps_cons pe_str pe_int (pps_cons pe_str (pe_tup pa_nil) (pps_cons pe_str pe_non (pps_cons pe_str pe_bl pps_nil))))))) rfl rfl (by decide) (by decide)))
      (pss_cons (ps_dput hu (pv 5) pe_str (pe_call G4 hr rfl e4 k4 b4 .nil pass0 (pa_cons (pv 0) (pa_cons (pv 2) pa_nil))) rfl)
      (pss_cons (ps_dput hu (pv 5) pe_str (pe_cmpR (op_eqD hr.units) (pe_call G4 hr rfl e4 k4 b4 .nil pass0 (pa_cons (pv 0) (pa_cons (pv 3) pa_nil))) (pe_lst (pa_cons (pv 2) pa_nil)) (nomark _)) rfl)
      (pss_cons (ps_dput hu (pv 4) (pe_dget hu (pv 0) pe_str (fun _ _ => rfl)) (pv 5) rfl)
      (pss_cons (ps_dput hu (pv 0) pe_str (pe_op op_add (pe_dget hu (pv 0) pe_str (fun _ _ => rfl)) pe_int) rfl)
      (pss_one (ps_ret (pe_op op_sub (pe_dget hu (pv 0) pe_str (fun _ _ => rfl)) pe_int)))))))), ?_⟩
    have hx0 := BS.oi x hx
    have gb : DGet H A.b (.int x) (some (.int l)) := by
      have z : DGet H A.b (.int x) (some (oV (S.bs x))) := dI_get R.hb (mem_rng.mpr hx0)
      rw [hb] at z
      exact z
    refine ⟨_, rfl, p, _, rfl, sk_bases h1, _, rfl, A.b, _, rfl, gb, _, rfl, p, _, rfl, sk_jobs h1, _, _, rfl, ?_⟩
    intro a ha
    refine ⟨_, rfl, _, rfl, _, rfl, (show 0 ≤ sizeLine from Nat.zero_le _), fun ma hma => ?_⟩
    have am : a ≠ ma := fun e => by
      rw [← e, upd_same] at hma
      cases hma
    have hma0 : H ma = none := by
      rw [upd_ne am.symm] at hma
      exact hma
    refine ⟨by rw [upd_ne am, upd_same], tk7 (kindS dn) x l ma, rfl, le15 rfl, ?_⟩
    rw [tk7_merge]
    have s2 : Same H (upd (upd (upd H a (.dK [])) ma (.tup [])) a (.dK (tk7 (kindS dn) x l ma))) := fun b o hb' => by
      rw [upd_ne (ne_of_none hb' ha), upd_ne (ne_of_none hb' hma0), upd_ne (ne_of_none hb' ha)]
      exact hb'
    have v2 : (upd (upd (upd H a (.dK [])) ma (.tup [])) a (.dK (tk7 (kindS dn) x l ma))) a = some (.dK (tk7 (kindS dn) x l ma)) := upd_same
    have v2m : (upd (upd (upd H a (.dK [])) ma (.tup [])) a (.dK (tk7 (kindS dn) x l ma))) ma = some (.tup []) := by rw [upd_ne am.symm, upd_same]
    generalize upd (upd (upd H a (.dK [])) ma (.tup [])) a (.dK (tk7 (kindS dn) x l ma)) = H2 at s2 v2 v2m ⊢
    refine ⟨_, rfl, _, rfl, p, n, n, S.bg, A, x, S, rfl, s2 _ _ h1, s2 _ _ R.hb, s2 _ _ R.ho, BS, fun na H3 hna s3 v3n => ?_⟩
    have hna0 : H na = none := s2.free hna
    have na_a : na ≠ a := (ne_of_none v2 hna).symm
    refine ⟨_, rfl, a, _, rfl, DPut.k (k := Sum.inr "noted") (s3 _ _ v2) (small1000 (show 7 ≤ 1000 by decide)), ?_⟩
    have o4 : Off a H3 (upd H3 a (.dK (putK (tk7 (kindS dn) x l ma) (Sum.inr "noted") (.ref na)))) := Off.upd _
    have v4 : (upd H3 a (.dK (putK (tk7 (kindS dn) x l ma) (Sum.inr "noted") (.ref na)))) a = some (.dK (putK (tk7 (kindS dn) x l ma) (Sum.inr "noted") (.ref na))) := upd_same
    generalize upd H3 a (.dK (putK (tk7 (kindS dn) x l ma) (Sum.inr "noted") (.ref na))) = H4 at o4 v4 ⊢
    have oH : Off a H H4 := Off.trans (Off.of (Same.trans s2 s3)) o4
    have off : ∀ {b : Addr} {o : HO}, H b = some o → H4 b = some o := fun h => oH _ _ (ne_of_none h ha) h
    refine ⟨_, rfl, _, rfl, p, n, n, S.bg, A, l, S, rfl, off h1, off R.hb, off R.ho, BS, fun q1 H5 hq1 s5 v5 => ?_⟩
    refine ⟨_, rfl, (show 1 ≤ sizeLine from by decide), fun q2 hq2 => ?_⟩
    have s6 : Same H5 (upd H5 q2 (.lst [.int x])) := Same.newS (Same.refl _) hq2
    refine ⟨_, _, .lst (SqL.of (s6 _ _ v5)) (dpAll_ints K _ _), .lst (SqL.of upd_same) (dpAll_ints K _ [x]), shaped_ints _, shaped_ints [x], ?_⟩
    rw [eqv_ints, only_iff (above_rising BS l) (by unfold above; rw [List.mem_filter, decide_eq_true_iff]; exact ⟨hx, hb⟩)]
    generalize upd H5 q2 (.lst [.int x]) = H6 at s6 ⊢
    have s46 : Same H4 H6 := Same.trans s5 s6
    refine ⟨_, rfl, a, _, rfl, DPut.k (k := Sum.inr "free") (s46 _ _ v4) (small1000 (show 8 ≤ 1000 by decide)), ?_⟩
    rw [tk7_put]
    generalize hHX : upd H6 a _ = HX
    have sX : Same H HX := fun b o hb' => by
      rw [← hHX, upd_ne (ne_of_none hb' ha)]
      exact s46 _ _ (off hb')
    have ga : HX a = some (.dK (tkv (kindS dn) (begun S x l) ma na .non)) := by rw [← hHX, upd_same]
    have gm : HX ma = some (.tup []) := by
      rw [← hHX, upd_ne am.symm]
      exact s46 _ _ (o4 _ _ am.symm (s3 _ _ v2m))
    have gn : HX na = some (.lst ((above S x).map V.int)) := by
      rw [← hHX, upd_ne na_a]
      exact s46 _ _ (o4 _ _ na_a v3n)
    have RX := R.same (TaskAt.stays dn) sX
    have lv : ∀ {b : Addr}, H b = none → τ b = 0 := fun h => not_tag R.live h
    obtain ⟨τ', hτ, ta, tn, gw, lx⟩ : ∃ τ' : Addr → Int, (∀ b, τ b ≠ 0 → τ' b = τ b) ∧ τ' a = 11 + 2 * (S.bg : Int) ∧ τ' na = 8 ∧ Gw τ τ' H ∧ Live τ' HX := by
      refine ⟨tg (tg τ a (11 + 2 * (S.bg : Int))) na 8, fun b hb' => ?_, ?_, tg_same, fun b hb' => ?_, fun b hb' => ?_⟩
      · rw [tg_ne (fun e : b = na => hb' (by rw [e]; exact lv hna0)), tg_ne (fun e : b = a => hb' (by rw [e]; exact lv ha))]
      · rw [tg_ne na_a.symm, tg_same]
      · by_cases e1 : b = na
        · exact .inr (e1 ▸ hna0)
        · by_cases e3 : b = a
          · exact .inr (e3 ▸ ha)
          · rw [tg_ne e1, tg_ne e3] at hb'
            exact .inl hb'
      · by_cases e1 : b = na
        · rw [e1, gn]
          exact fun z => nomatch z
        · by_cases e3 : b = a
          · rw [e3, ga]
            exact fun z => nomatch z
          · rw [tg_ne e1, tg_ne e3] at hb'
            exact RX.live b hb'
    have RT := RX.tags2 (TaskAt.stays dn) hτ lx
    have nin : (S.bg : Int) ∉ S.jk := fun z => by have := BS.ji _ z; omega
    have p9 := dI_setNew RX.hj nin (Nat.le_trans (jk_len BS) (by decide)) (.ref a)
    rw [← fupd_map V.ref] at p9
    have pj : p ≠ A.j := tag_ne R.tp R.tj (by decide)
    have aj : a ≠ A.j := fun e => by
      rw [e, R.hj] at ha
      cases ha
    have mj : ma ≠ A.j := ne_of gm RX.hj (by intro z; cases z)
    have nj : na ≠ A.j := ne_of gn RX.hj (by intro z; cases z)
    refine ⟨_, rfl, _, rfl, _, rfl, p, _, rfl, sk_begun (sX _ _ h1), A.j, _, rfl, p9, ?_⟩
    have RN := RT.newjob (TaskAt.stays dn) (x := begun S x l) nin (by omega) ta (Ch.wr RT.tj RT.hj isT_dK) upd_same ⟨ma, na, .non, by rw [upd_ne aj]; exact ga, by rw [upd_ne mj]; exact gm, by rw [upd_ne nj]; exact gn, tn, rfl⟩ (RT.live.wr _ _)
    have gp : (upd HX A.j (.dK (dI (fun z => .ref (fupd A.jd S.bg a z)) (S.jk ++ [(S.bg : Int)])))) p = some (.dK (skv n A S.bg)) := by
      rw [upd_ne pj]
      exact sX _ _ h1
    generalize hHY : upd HX A.j (.dK (dI (fun z => .ref (fupd A.jd S.bg a z)) (S.jk ++ [(S.bg : Int)]))) = HY at RN gp ⊢
    refine ⟨_, rfl, p, _, rfl, sk_begun gp, _, _, rfl, rfl, _, rfl, p, _, rfl, DPut.k (k := Sum.inr "begun") gp (small1000 (show 8 ≤ 1000 by decide)), ?_⟩
    have ep : ∀ z : V, z = .int ((S.bg + 1 : Nat) : Int) → putK (skv n A S.bg) (Sum.inr "begun") z = skv n A (S.bg + 1) := fun z e => by
      subst e
      exact sk_put_begun ..
    rw [ep _ (show V.int ((S.bg : Int) + 1) = _ from congrArg V.int (by omega))]
    refine ⟨_, rfl, p, _, rfl, sk_begun upd_same, _, _, rfl, rfl, ?_⟩
    have RZ := (RN.top (TaskAt.stays dn) (Ch.wr RN.tp gp isT_dK) (RN.live.wr p (.dK (skv n A (S.bg + 1))))).bg (S.bg + 1)
    have qq := q (fupd A.jd S.bg a) _ τ' ⟨upd_same, RZ⟩ ?_ gw
    · have e2 : V.int (((S.bg + 1 : Nat) : Int) - 1) = V.int S.bg := congrArg V.int (by omega)
      rw [← e2] at qq
      exact qq
    · refine Kp.wr ?_ (by rw [R.tp]; decide) gp isT_dK
      rw [← hHY]
      exact (Kp.of_same sX).wr (by rw [R.tj]; decide) RX.hj isT_dK
end
end K20W
end
/-! V6 -/
section
set_option Elab.async false
set_option linter.all false
set_option maxRecDepth 100000
set_option maxHeartbeats 4000000
/-! copied. -/
namespace K20W
open PySem L2 K20
/-- the choices, as the law's own dict has them -/
def fkv (B : BookR) (ba na : Addr) : List (Key × V) := [(Sum.inr "up", .str B.up), (Sum.inr "down", .str B.down), (Sum.inr "writes", .str B.writes), (Sum.inr "moves", .str B.moves), (Sum.inr "finish", .str B.finish), (Sum.inr "counts", .str B.counts), (Sum.inr "bars", .ref ba), (Sum.inr "notes", .ref na)]
def FieldsAt (H : Hp) (fa : Addr) (B : BookR) : Prop := ∃ ba na, H fa = some (.dK (fkv B ba na)) ∧ H ba = some (.lst (B.bars.map V.str)) ∧ H na = some (.lst (B.notes.map V.str))
section
variable {H : Hp} {fa ba na : Addr} {B : BookR}
theorem fk_way (dn : Bool) (h : H fa = some (.dK (fkv B ba na))) : DGet H fa (.str (kindS dn)) (some (.str (if dn then B.down else B.up))) := by
  cases dn with
  | true => exact DGet.k (k := Sum.inr "down") h
  | false => exact DGet.k (k := Sum.inr "up") h
theorem fk_writes (h : H fa = some (.dK (fkv B ba na))) : DGet H fa (.str "writes") (some (.str B.writes)) := DGet.k (k := Sum.inr "writes") h
theorem fk_moves (h : H fa = some (.dK (fkv B ba na))) : DGet H fa (.str "moves") (some (.str B.moves)) := DGet.k (k := Sum.inr "moves") h
theorem fk_finish (h : H fa = some (.dK (fkv B ba na))) : DGet H fa (.str "finish") (some (.str B.finish)) := DGet.k (k := Sum.inr "finish") h
theorem fk_counts (h : H fa = some (.dK (fkv B ba na))) : DGet H fa (.str "counts") (some (.str B.counts)) := DGet.k (k := Sum.inr "counts") h
theorem fk_bars (h : H fa = some (.dK (fkv B ba na))) : DGet H fa (.str "bars") (some (.ref ba)) := DGet.k (k := Sum.inr "bars") h
end
theorem tk_put_seen (k : Str) (x : Jb) (ma na : Addr) (sv v : V) : putK (tkv k x ma na sv) (Sum.inr "seen") v = tkv k x ma na v := by kernel_rfl
theorem tk_put_place (k : Str) (x : Jb) (ma na : Addr) (sv : V) (z : Int) : putK (tkv k x ma na sv) (Sum.inr "place") (.int z) = tkv k { x with pl := z } ma na sv := by kernel_rfl
theorem tk_put_marks (k : Str) (x : Jb) (ma na : Addr) (sv : V) (q : Addr) : putK (tkv k x ma na sv) (Sum.inr "marks") (.ref q) = tkv k x q na sv := by kernel_rfl
theorem tk_put_half (k : Str) (x : Jb) (ma na : Addr) (sv : V) (b : Bool) : putK (tkv k x ma na sv) (Sum.inr "half") (.bl b) = tkv k { x with half := b } ma na sv := by kernel_rfl
theorem tk_set {H : Hp} {a : Addr} {k : Str} {x : Jb} {ma na : Addr} {sv : V} (h : H a = some (.dK (tkv k x ma na sv))) (y : Str) (v : V) : DPut H a (.str y) v (upd H a (.dK (putK (tkv k x ma na sv) (Sum.inr y) v))) := DPut.k (k := Sum.inr y) h (small1000 (show 9 ≤ 1000 by decide))
section
variable {P : Program} {w : World} {K : PySem.W.Frag} {mg : Str → Option Value} {base : Heap} {f CY CB CJ : Addr} {fd : FuncData}
/-- a copy in the sheet; a: the task -/
def spLCopied : Sp := fun vs H Q _ => ∃ (fa p a : Addr) (dn : Bool) (n : Nat) (A : Ad) (x : Jb) (ma na : Addr) (sv : V) (S : Vs) (B : BookR), vs = [.ref fa, .ref p, .ref a] ∧ H p = some (.dK (skv n A S.bg)) ∧ FieldsAt H fa B ∧ (dn = true → B.down ≠ "blind") ∧ H a = some (.dK (tkv (kindS dn) x ma na sv)) ∧ H ma = some (.tup []) ∧ SeenV H sv x.seen ∧
  Two H A.o (A.od x.up) (A.od x.lo) S.ok A.od x (S.ow x.up) (S.ow x.lo) ∧ A.od x.up ≠ A.od x.lo ∧ a ≠ A.od x.up ∧ a ≠ A.od x.lo ∧ p ≠ a ∧ A.o ≠ a ∧ p ≠ A.od x.up ∧ p ≠ A.od x.lo ∧ A.o ≠ A.od x.up ∧ A.o ≠ A.od x.lo ∧ fa ≠ a ∧ fa ≠ A.od x.up ∧ fa ≠ A.od x.lo ∧ (S.ow x.up).length ≤ 1000 ∧ (S.ow x.lo).length ≤ 1000 ∧ x.pl < n ∧ (x.seen.isSome = true → (par B dn n).one = false) ∧
  ∀ (sv' : V) (ma' : Addr) (H' : Hp), SeenV H' sv' (copiedJ (par B dn n) x (S.ow x.up) (S.ow x.lo)).seen → H' a = some (.dK (tkv (kindS dn) (copiedJ (par B dn n) x (S.ow x.up) (S.ow x.lo)) ma' na sv')) → H' ma' = some (.tup []) → H' (A.od x.up) = some (.dK (rowV (copiedU (par B dn n) x (S.ow x.up) (S.ow x.lo)))) → H' (A.od x.lo) = some (.dK (rowV (copiedL (par B dn n) x (S.ow x.up) (S.ow x.lo)))) →
    (∀ b o, H b = some o → b ≠ a → b ≠ A.od x.up → b ≠ A.od x.lo → H' b = some o) → Q (.str (wordS (wordOf (par B dn n) x))) H'
theorem ok_lcopied (Bt : Blt mg) (F : Fu K "_law_copied" "_law_copied" (top 70) f fd) : FnOk P w K mg base CX0 1 f fd ["_law_fields", "_law_sheet", "_law_task"] spLCopied := by
  have sc : FnScope ["_law_fields", "_law_sheet", "_law_task", "_law_spot", "_law_lower", "_law_upper", "_law_way", "_law_seen", "_law_number", "_law_k"] ["_law_fields", "_law_sheet", "_law_task"] (defScope (top 70)) := ⟨rfl, rfl, rfl, by decide +kernel, rfl, by decide +kernel, by decide +kernel⟩
  refine F.ok sc (fun vs H Q E h => ?_) (fun cdv Ar outer s H vs Q E hr h => ?_)
  · obtain ⟨fa, p, a, _, _, _, _, _, _, _, _, _, rfl, _⟩ := h
    rfl
  · obtain ⟨fa, p, a, dn, n, A, x, ma, na, sv, S, B, rfl, h1, ⟨fba, fna, hf, _, _⟩, nbl, ha, hma, hsv, tw, nul, nau, nal, npa, noa, npu, npl, nou, nol, nfa, nfu, nfl, zU, zL, hpl, hone, q⟩ := h
    have hu := hu_of hr
    obtain ⟨way, hwayd⟩ : ∃ way : Str, way = if dn then B.down else B.up := ⟨_, rfl⟩
    have hway : (par B dn n).one = decide (way = "one") := by rw [hwayd]; rfl
    -- behind the look
    have tail : ∃ T2, PSs (cxOf CX0 P w K mg base ["_law_fields", "_law_sheet", "_law_task", "_law_spot", "_law_lower", "_law_upper", "_law_way", "_law_seen", "_law_number", "_law_k"] "_law_copied" (defScope (top 70)) f cdv Ar outer s H E) ((defBody (top 70)).drop 4) T2 ∧
        ∀ (o8 : Option V) (H2 : Hp) (c : Int) (v : Option Int) (t : Addr), Same H H2 → H2 t = some (.tup [.int c, oV v]) → copiedJ (par B dn n) x (S.ow x.up) (S.ow x.lo) = { x with seen := none, pl := x.pl + 1 } → copiedU (par B dn n) x (S.ow x.up) (S.ow x.lo) = gaveU (par B dn 0) (S.ow x.up) c v → copiedL (par B dn n) x (S.ow x.up) (S.ow x.lo) = gaveL (par B dn 0) (S.ow x.lo) c v →
          wordOf (par B dn n) x = (if (par B dn n).one then .copy else .put) →
          T2 { nx := fun _ H' => Q .non H', rt := Q } [some (.ref fa), some (.ref p), some (.ref a), some (.int x.pl), some (.ref (A.od x.lo)), some (.ref (A.od x.up)), some (.str way), some (.ref t), o8, none] H2 := by
      refine ⟨_, pss_cons (ps_if (PW.pt (pw_and (pt_cmpR op_eq (pe_dget hu (pv 2) pe_str (fun _ _ => rfl)) pe_str (nomark _)) (pw_and1 (pt_cmp (pc_notN (pe_ix ix_tup (pv 7) pe_int (fun _ _ => rfl))))))) (pss_one (ps_dput hu (pv 4) (pe_ix ix_tup (pv 7) pe_int (fun _ _ => rfl)) (pe_ix ix_tup (pv 7) pe_int (fun _ _ => rfl)) rfl)) pss_nil)
        (pss_cons (ps_if (PW.pt (pw_and (pt_cmpR op_eq (pe_dget hu (pv 2) pe_str (fun _ _ => rfl)) pe_str (nomark _)) (pw_and (pt_cmp (pc_notN (pe_ix ix_tup (pv 7) pe_int (fun _ _ => rfl)))) (pw_and1 (PW.pt (pw_or (pt_cmpR op_eq (pv 6) pe_str (nomark _)) (pw_or1 (pt_cmp (pc_dnotin hu (pe_ix ix_tup (pv 7) pe_int (fun _ _ => rfl)) (pv 5)))))))))) (pss_one (ps_dput hu (pv 5) (pe_ix ix_tup (pv 7) pe_int (fun _ _ => rfl)) (pe_ix ix_tup (pv 7) pe_int (fun _ _ => rfl)) rfl)) pss_nil)
        (pss_cons (ps_dput hu (pv 2) pe_str pe_non rfl)
        (pss_cons (ps_dput hu (pv 2) pe_str (pe_op op_add (pe_dget hu (pv 2) pe_str (fun _ _ => rfl)) (pe_callTy call_int1 rfl Bt.int PyProof.Rows.boot_int (pa_cons (pe_cmpR op_notIn_seq (pe_ix ix_tup (pv 7) pe_int (fun _ _ => rfl)) (pe_dget hu (pv 2) pe_str (fun _ _ => rfl)) rfl) pa_nil))) rfl)
        (pss_cons (ps_dput hu (pv 2) pe_str (pe_callTy call_tuple_of rfl Bt.tuple boot_tuple (pa_cons (pe_lc (own := [("_law_k", 9)]) (g := gName 9) (tt := fun _ _ _ => False) (te := tVar 9) (by rfl) sc.nd (pi_tup (pe_dget hu (pv 2) pe_str (fun _ _ => rfl)))
            (blkOk_by (own := [("_law_k", 9)]) (N := ["_law_fields", "_law_sheet", "_law_task", "_law_spot", "_law_lower", "_law_upper", "_law_way", "_law_seen", "_law_number", "_law_k"]) (sc := defScope (top 70)) (by decide +kernel))
            (fun _ _ _ _ _ => pg_name (i := 9) sc.nd rfl (Or.inl rfl)) (fun _ _ _ _ _ => pts_one pt_never) (fun _ _ _ _ _ => pv 9)) pa_nil)) rfl)
        (pss_one (ps_ret (pe_ifExp (pt_cmpR op_eq (pv 6) pe_str (nomark _)) pe_str pe_str))))))), ?_⟩
      intro o8 H2 c v t s2 ht eJ eU eL eW
      have a2 := s2 _ _ ha
      have u2 := s2 _ _ tw.hu
      have l2 := s2 _ _ tw.hl
      have ix0 : ∀ {H3 : Hp}, H3 t = some (.tup [.int c, oV v]) → atI [V.int c, oV v] 0 = some (.int c) := fun _ => atI_nat (j := 0) rfl
      have t0u : t ≠ A.od x.up := ne_of ht u2 (by intro z; cases z)
      have t0l : t ≠ A.od x.lo := ne_of ht l2 (by intro z; cases z)
      have m2 : H2 ma = some (.tup []) := s2 _ _ hma
      have mau : ma ≠ A.od x.up := ne_of m2 u2 (by intro z; cases z)
      have mal : ma ≠ A.od x.lo := ne_of m2 l2 (by intro z; cases z)
      have maa : ma ≠ a := ne_of m2 a2 (by intro z; cases z)
      have ta : t ≠ a := ne_of ht a2 (by intro z; cases z)
      have gU := giveH_u (P := par B dn 0) (c := c) (v := v) (L := S.ow x.lo) u2 nul
      have gL := giveH_l (P := par B dn 0) (c := c) (v := v) (U := S.ow x.up) l2 nul
      have gN : ∀ {b : Addr}, b ≠ A.od x.up → b ≠ A.od x.lo → giveH (par B dn 0) H2 (A.od x.up) (A.od x.lo) (S.ow x.up) (S.ow x.lo) c v b = H2 b := fun n1 n2 => giveH_ne n1 n2
      have aG := (gN nau nal).trans a2
      have tG := (gN t0u t0l).trans ht
      have mG := (gN mau mal).trans m2
      refine ⟨_, rfl, a, _, rfl, tk_kind a2, rfl, _, rfl, ?_⟩
      rw [kind_down]
      cases hdn : dn
      case' true =>
        refine iteT ⟨_, rfl, t, _, _, oV v, rfl, rfl, SqT.of ht, atI_nat (j := 1) rfl, ?_⟩
        cases hv : v
        case' none =>
          refine ⟨false, rfl, iteF ?_⟩
          have eG : giveH (par B dn 0) H2 (A.od x.up) (A.od x.lo) (S.ow x.up) (S.ow x.lo) c v = H2 := by rw [hv]; rfl
        case' some z =>
          have eG : giveH (par B dn 0) H2 (A.od x.up) (A.od x.lo) (S.ow x.up) (S.ow x.lo) c v = upd H2 (A.od x.lo) (.dK (rowV (put (S.ow x.lo) c z))) := by rw [hv, hdn]; rfl
          have ht' : H2 t = some (.tup [.int c, .int z]) := by rw [hv] at ht; exact ht
          refine ⟨true, rfl, iteT ⟨_, rfl, t, _, _, V.int z, rfl, rfl, SqT.of ht', atI_nat (j := 1) rfl, _, rfl, _, rfl, t, _, _, V.int c, rfl, rfl, SqT.of ht', atI_nat (j := 0) rfl, A.od x.lo, _, rfl, row_put l2 zL c z, ?_⟩⟩
        all_goals
          rw [← eG]
          refine ⟨_, rfl, a, _, rfl, tk_kind aG, rfl, _, rfl, ?_⟩
          rw [show decide (V.str (kindS dn) = V.str "up") = false from by rw [kind_up, hdn]; rfl]
          refine iteF (iteF ?_)
      case' false =>
        refine iteF (iteF ⟨_, rfl, a, _, rfl, tk_kind a2, rfl, _, rfl, ?_⟩)
        rw [show decide (V.str (kindS dn) = V.str "up") = true from by rw [kind_up, hdn]; rfl]
        refine iteT ⟨_, rfl, t, _, _, oV v, rfl, rfl, SqT.of ht, atI_nat (j := 1) rfl, ?_⟩
        cases hv : v
        case' none =>
          refine ⟨false, rfl, iteF (iteF ?_)⟩
          have eG : giveH (par B dn 0) H2 (A.od x.up) (A.od x.lo) (S.ow x.up) (S.ow x.lo) c v = H2 := by rw [hv]; rfl
        case' some z =>
          have ht' : H2 t = some (.tup [.int c, .int z]) := by rw [hv] at ht; exact ht
          have eGp : (decide (B.up = "blind") || !has (S.ow x.up) c) = true → giveH (par B dn 0) H2 (A.od x.up) (A.od x.lo) (S.ow x.up) (S.ow x.lo) c v = upd H2 (A.od x.up) (.dK (rowV (put (S.ow x.up) c z))) := fun e => by
            rw [hv, hdn]
            show (if (decide (B.up = "blind") || !has (S.ow x.up) c) = true then _ else _) = _
            rw [if_pos e]
          have eGn : (decide (B.up = "blind") || !has (S.ow x.up) c) = false → giveH (par B dn 0) H2 (A.od x.up) (A.od x.lo) (S.ow x.up) (S.ow x.lo) c v = H2 := fun e => by
            rw [hv, hdn]
            show (if (decide (B.up = "blind") || !has (S.ow x.up) c) = true then _ else _) = _
            rw [e]
            rfl
          refine ⟨true, rfl, iteT ⟨_, rfl, rfl, _, rfl, ?_⟩⟩
          rw [vstr, show decide (way = ("blind" : Str)) = decide (B.up = "blind") from by rw [hwayd, hdn]; rfl]
          cases hbl : decide (B.up = "blind")
          case' true =>
            have eG := eGp (by rw [hbl]; rfl)
            refine iteT (iteT ⟨_, rfl, t, _, _, V.int z, rfl, rfl, SqT.of ht', atI_nat (j := 1) rfl, _, rfl, _, rfl, t, _, _, V.int c, rfl, rfl, SqT.of ht', atI_nat (j := 0) rfl, A.od x.up, _, rfl, row_put u2 zU c z, ?_⟩)
          case' false =>
            refine iteF ⟨_, rfl, t, _, _, V.int c, rfl, rfl, SqT.of ht', atI_nat (j := 0) rfl, _, rfl, A.od x.up, _, rfl, row_get u2 c, _, rfl, ?_⟩
            rw [isSome_map]
            cases hha : (K20.get (S.ow x.up) c).isSome
            case' true =>
              have eG := eGn (by rw [hbl]; unfold has; rw [hha]; rfl)
              refine iteF ?_
            case' false =>
              have eG := eGp (by rw [hbl]; unfold has; rw [hha]; rfl)
              refine iteT ⟨_, rfl, t, _, _, V.int z, rfl, rfl, SqT.of ht', atI_nat (j := 1) rfl, _, rfl, _, rfl, t, _, _, V.int c, rfl, rfl, SqT.of ht', atI_nat (j := 0) rfl, A.od x.up, _, rfl, row_put u2 zU c z, ?_⟩
        all_goals
          rw [← eG]
      all_goals
        rw [← eU] at gU
        rw [← eL] at gL
        clear eG
        generalize giveH (par B dn 0) H2 (A.od x.up) (A.od x.lo) (S.ow x.up) (S.ow x.lo) c v = HG at gU gL gN aG tG mG ⊢
        have keep : ∀ {b : Addr} {o : HO}, H b = some o → b ≠ A.od x.up → b ≠ A.od x.lo → HG b = some o := fun h n1 n2 => (gN n1 n2).trans (s2 _ _ h)
        refine ⟨_, rfl, a, _, rfl, tk_set aG "seen" .non, ?_⟩
        rw [tk_put_seen]
        have a3 : (upd HG a (.dK (tkv (kindS dn) x ma na .non))) a = some (.dK (tkv (kindS dn) x ma na .non)) := upd_same
        have o3 : Off a HG (upd HG a (.dK (tkv (kindS dn) x ma na .non))) := Off.upd _
        generalize upd HG a (.dK (tkv (kindS dn) x ma na .non)) = H3 at a3 o3 ⊢
        refine ⟨_, rfl, a, _, rfl, tk_place a3, _, rfl, t, _, _, V.int c, rfl, rfl, SqT.of (o3 _ _ ta tG), atI_nat (j := 0) rfl, _, rfl, a, _, rfl, tk_marks a3, ma, [], rfl, .inr (SqT.of (o3 _ _ maa mG)), rfl, rfl, .inr ⟨true, rfl, _, _, rfl, rfl, ?_⟩⟩
        refine ⟨_, rfl, a, _, rfl, tk_set a3 "place" _, ?_⟩
        have ep : putK (tkv (kindS dn) x ma na .non) (Sum.inr "place") (.int (x.pl + 1)) = tkv (kindS dn) { x with pl := x.pl + 1 } ma na .non := tk_put_place ..
        have a4 : (upd H3 a (.dK (putK (tkv (kindS dn) x ma na .non) (Sum.inr "place") (.int (x.pl + 1))))) a = some (.dK (tkv (kindS dn) { x with pl := x.pl + 1 } ma na .non)) := by rw [upd_same, ep]
        have o4 : Off a H3 (upd H3 a (.dK (putK (tkv (kindS dn) x ma na .non) (Sum.inr "place") (.int (x.pl + 1))))) := Off.upd _
        show _
        generalize hH4 : upd H3 a _ = H4
        have a4 : H4 a = some (.dK (tkv (kindS dn) { x with pl := x.pl + 1 } ma na .non)) := by rw [← hH4]; exact a4
        have o4 : Off a H3 H4 := by rw [← hH4]; exact o4
        have m4 := o4 _ _ maa (o3 _ _ maa mG)
        refine ⟨_, rfl, a, _, rfl, tk_marks a4, ma, rfl, ⟨[], SqT.of m4⟩, fun D0 hD0 => ?_⟩
        refine lc_pick (tt := fun _ _ _ => False) (te := tVar 9) (walk_tup (K := K) (a := ma) (xs := [])) hD0 (fun _ => true) (fun v => v) (Nat.zero_le _) (fun H5 s5 => SqT.of (s5 _ _ m4)) (fun z _ hz _ _ _ => (nomatch hz)) (fun z _ hz _ _ _ _ => (nomatch hz)) fun H5 s5 hD5 => ?_
        refine ⟨D0, [], rfl, .inl ⟨SqL.of hD5, fun mm hmm => ?_⟩⟩
        have s6 : Same H4 (upd H5 mm (.tup [])) := Same.newS s5 hmm
        have v6 : (upd H5 mm (.tup [])) mm = some (.tup []) := upd_same
        generalize upd H5 mm (.tup []) = H6 at s6 v6 ⊢
        have mma : mm ≠ a := ne_of v6 (s6 _ _ a4) (by intro z; cases z)
        refine ⟨_, rfl, a, _, rfl, tk_set (s6 _ _ a4) "marks" _, ?_⟩
        rw [tk_put_marks]
        have o7 : Off a HG (upd H6 a (.dK (tkv (kindS dn) { x with pl := x.pl + 1 } mm na .non))) := Off.trans o3 (Off.trans o4 (Off.trans (Off.of s6) (Off.upd _)))
        have a7 : (upd H6 a (.dK (tkv (kindS dn) { x with pl := x.pl + 1 } mm na .non))) a = some (.dK (tkv (kindS dn) { x with seen := none, pl := x.pl + 1 } mm na .non)) := upd_same
        have v7 : (upd H6 a (.dK (tkv (kindS dn) { x with pl := x.pl + 1 } mm na .non))) mm = some (.tup []) := by rw [upd_ne mma]; exact v6
        generalize upd H6 a (.dK (tkv (kindS dn) { x with pl := x.pl + 1 } mm na .non)) = H7 at o7 a7 v7 ⊢
        refine ⟨_, rfl, rfl, _, rfl, ?_⟩
        rw [← eJ] at a7
        have fin := q .non mm H7 (by rw [eJ]; rfl) a7 v7 (o7 _ _ nau.symm gU) (o7 _ _ nal.symm gL) fun b o hb n1 n2 n3 => o7 _ _ n1 (keep hb n2 n3)
        rw [eW, hway] at fin
        rw [vstr]
        cases ho1 : decide (way = ("one" : Str))
        case' true =>
          rw [ho1] at fin
          exact iteT fin
        case' false =>
          rw [ho1] at fin
          exact iteF fin
    obtain ⟨T2, hT2, w2⟩ := tail
    refine ⟨_, pss_cons (ps_set (i := 3) sc.nd rfl (.inl rfl) (pe_ifExp (pt_cmpR (op_neD hr.units) (pe_dget hu (pv 2) pe_str (fun _ _ => rfl)) (pe_tup pa_nil) (nomark _)) pe_never (pe_dget hu (pv 2) pe_str (fun _ _ => rfl))))
      (pss_cons (ps_par (i := 4) (j := 5) (by rfl) sc.nd rfl rfl (by decide) rfl rfl (pa_cons (pe_dget hu (pe_dget hu (pv 1) pe_str (fun _ _ => rfl)) (pe_dget hu (pv 2) pe_str (fun _ _ => rfl)) (fun _ _ => rfl)) (pa_cons (pe_dget hu (pe_dget hu (pv 1) pe_str (fun _ _ => rfl)) (pe_dget hu (pv 2) pe_str (fun _ _ => rfl)) (fun _ _ => rfl)) pa_nil)) rfl)
      (pss_cons (ps_asg (pe_tup (pa_cons (pe_dget hu (pv 0) (pe_dget hu (pv 2) pe_str (fun _ _ => rfl)) (fun _ _ => rfl)) (pa_cons (pe_dget hu (pv 2) pe_str (fun _ _ => rfl)) pa_nil))) (pg_tup rfl (pgs_cons (pg_name (i := 6) sc.nd rfl (Or.inl rfl)) (pgs_cons (pg_name (i := 7) sc.nd rfl (Or.inr rfl)) pgs_nil))))
      (pss_cons (ps_if (pt_cmp (pc_isN (pv 7)))
        (pss_cons (ps_set (i := 8) sc.nd rfl (.inl rfl) (pe_ifExp (pt_cmpR op_eq (pe_dget hu (pv 2) pe_str (fun _ _ => rfl)) pe_str (nomark _)) (pe_dget1 hu (pv 5) (pv 3) ⟨rfl, rfl, rfl, rfl⟩) (pe_dget1 hu (pv 4) (pv 3) ⟨rfl, rfl, rfl, rfl⟩)))
        (pss_cons (ps_set (i := 7) sc.nd rfl (.inr rfl) (pe_tup (pa_cons (pv 3) (pa_cons (pe_ifExp (PW.pt (pw_and (pt_cmpR op_eq (pv 6) pe_str (nomark _)) (pw_and1 (pt_cmp (pc_din hu (pv 3) (pv 5)))))) pe_non (pv 8)) pa_nil))))
        (pss_one (ps_if (pt_cmpR op_ne (pv 6) pe_str (nomark _)) (pss_cons (ps_dput hu (pv 2) pe_str (pv 7) rfl) (pss_one (ps_ret pe_str))) pss_nil)))) pss_nil)
      hT2))), ?_⟩
    refine ⟨_, rfl, a, _, rfl, tk_marks ha, (show 0 ≤ sizeLine from Nat.zero_le _), fun t0 ht0 => ?_⟩
    have s1 : Same H (upd H t0 (.tup [])) := Same.newS (Same.refl _) ht0
    refine ⟨.tuple [], .tuple [], .tup (SqT.of (s1 _ _ hma)) .nil, .tup (SqT.of upd_same) .nil, by decide +kernel, by decide +kernel, _, rfl, ?_⟩
    rw [show PyData.eqv (.tuple []) (.tuple []) = true from by decide +kernel]
    generalize upd H t0 (.tup []) = H1 at s1 ⊢
    have a1 := s1 _ _ ha
    refine iteF ⟨_, rfl, a, _, rfl, tk_place a1, ?_⟩
    have getL : DGet H1 A.o (.int x.lo) (some (.ref (A.od x.lo))) := dI_get (s1 _ _ tw.ho) tw.lo
    have getU : DGet H1 A.o (.int x.up) (some (.ref (A.od x.up))) := dI_get (s1 _ _ tw.ho) tw.uo
    refine ⟨_, rfl, p, _, rfl, sk_owned (s1 _ _ h1), _, rfl, a, _, rfl, tk_lower a1, A.o, _, rfl, getL, _, rfl, p, _, rfl, sk_owned (s1 _ _ h1), _, rfl, a, _, rfl, tk_upper a1, A.o, _, rfl, getU, _, _, rfl, ?_⟩
    have gw : DGet H1 fa (.str (kindS dn)) (some (.str way)) := by rw [hwayd]; exact fk_way dn (s1 _ _ hf)
    refine ⟨_, rfl, _, rfl, a, _, rfl, tk_kind a1, fa, _, rfl, gw, _, rfl, a, _, rfl, tk_seen a1, (show 2 ≤ sizeLine from by decide), fun t1 ht1 => ⟨t1, _, rfl, SqT.of upd_same, rfl, _, _, rfl, _, _, rfl, rfl, ?_⟩⟩
    have s2 : Same H (upd H1 t1 (.tup [.str way, sv])) := Same.newS s1 ht1
    generalize upd H1 t1 (.tup [.str way, sv]) = H2 at s2 ⊢
    have a2 := s2 _ _ ha
    have u2 := s2 _ _ tw.hu
    have l2 := s2 _ _ tw.hl
    cases es : x.seen with
    | some cv =>
      obtain ⟨c, v⟩ := cv
      rw [es] at hsv
      obtain ⟨t, rfl, ht⟩ := hsv
      have h1 := hone (by rw [es]; rfl)
      refine ⟨_, rfl, false, rfl, iteF (w2 none H2 c v t s2 (s2 _ _ ht) ?_ ?_ ?_ ?_)⟩
      · unfold copiedJ
        rw [es]
      · unfold copiedU
        rw [es]
        rfl
      · unfold copiedL
        rw [es]
        rfl
      · unfold wordOf
        rw [es, h1]
        rfl
    | none =>
      rw [es] at hsv
      have hsv : sv = .non := hsv
      subst hsv
      refine ⟨_, rfl, true, rfl, iteT ⟨_, rfl, a, _, rfl, tk_kind a2, rfl, _, rfl, ?_⟩⟩
      rw [kind_down]
      have hw : wordOf (par B dn n) x = if (par B dn n).one then .copy else .look := by
        unfold wordOf
        rw [es]
        exact if_pos hpl
      cases hdn : dn
      case' true =>
        refine iteT ⟨_, rfl, A.od x.up, rfl, .inl ⟨_, .inl u2⟩, _, rfl, _, row_get u2 x.pl, ?_⟩
        rw [oV_getD]
        refine ⟨_, rfl, _, rfl, rfl, _, rfl, ?_⟩
        rw [vstr, show decide (way = ("blind" : Str)) = false from decide_eq_false (by rw [hwayd, hdn]; exact nbl hdn)]
        refine iteF (iteF ⟨_, rfl, (show 2 ≤ sizeLine from by decide), fun t htn => ?_⟩)
        have hlk : looked (par B dn n) (S.ow x.up) (S.ow x.lo) x.pl = K20.get (S.ow x.up) x.pl := by rw [hdn]; rfl
      case' false =>
        refine iteF ⟨_, rfl, A.od x.lo, rfl, .inl ⟨_, .inl l2⟩, _, rfl, _, row_get l2 x.pl, ?_⟩
        rw [oV_getD]
        have hlk0 : looked (par B dn n) (S.ow x.up) (S.ow x.lo) x.pl = if decide (B.up = "blind") && has (S.ow x.up) x.pl then none else K20.get (S.ow x.lo) x.pl := by rw [hdn]; rfl
        refine ⟨_, rfl, _, rfl, rfl, _, rfl, ?_⟩
        rw [vstr, show decide (way = ("blind" : Str)) = decide (B.up = "blind") from by rw [hwayd, hdn]; rfl]
        cases hbl : decide (B.up = "blind")
        case' false =>
          refine iteF (iteF ⟨_, rfl, (show 2 ≤ sizeLine from by decide), fun t htn => ?_⟩)
          have hlk : looked (par B dn n) (S.ow x.up) (S.ow x.lo) x.pl = K20.get (S.ow x.lo) x.pl := by
            rw [hlk0, if_neg]
            rw [hbl, Bool.false_and]
            exact fun z => nomatch z
        case' true =>
          refine iteT ⟨_, rfl, _, rfl, A.od x.up, _, rfl, row_get u2 x.pl, _, rfl, ?_⟩
          rw [isSome_map]
          cases hha : (K20.get (S.ow x.up) x.pl).isSome
          case' true =>
            refine iteT ⟨(show 2 ≤ sizeLine from by decide), fun t htn => ?_⟩
            have hlk : looked (par B dn n) (S.ow x.up) (S.ow x.lo) x.pl = none := by
              rw [hlk0, hbl, if_pos]
              unfold has
              rw [hha]
              rfl
          case' false =>
            refine iteF ⟨_, rfl, (show 2 ≤ sizeLine from by decide), fun t htn => ?_⟩
            have hlk : looked (par B dn n) (S.ow x.up) (S.ow x.lo) x.pl = K20.get (S.ow x.lo) x.pl := by
              rw [hlk0, if_neg]
              unfold has
              rw [hha, Bool.and_false]
              exact fun z => nomatch z
      all_goals
        generalize hH3 : upd H2 t _ = H3
        have s3 : Same H2 H3 := by rw [← hH3]; exact Same.newS (Same.refl _) htn
        have v3 : H3 t = some (.tup [.int x.pl, oV (looked (par B dn n) (S.ow x.up) (S.ow x.lo) x.pl)]) := by
          rw [hlk, ← hH3]
          exact upd_same
        clear hH3
        refine ⟨_, rfl, rfl, _, rfl, ?_⟩
        rw [show (!decide (V.str way = V.str "one")) = !(par B dn n).one from by rw [vstr, hway]]
        cases ho : (par B dn n).one
        · refine iteT ⟨_, rfl, _, rfl, a, _, rfl, tk_set (s3 _ _ a2) "seen" _, ?_⟩
          rw [tk_put_seen]
          have fin := q (.ref t) ma (upd H3 a (.dK (tkv (kindS dn) x ma na (.ref t)))) ?_ ?_ ?_ ?_ ?_ ?_
          · rw [hw, ho] at fin
            exact fin
          · rw [show (copiedJ (par B dn n) x (S.ow x.up) (S.ow x.lo)).seen = some (x.pl, looked (par B dn n) (S.ow x.up) (S.ow x.lo) x.pl) from by unfold copiedJ; rw [es, ho]; rfl]
            exact ⟨t, rfl, by rw [upd_ne (ne_of v3 (s3 _ _ a2) (by intro z; cases z))]; exact v3⟩
          · rw [upd_same, show copiedJ (par B dn n) x (S.ow x.up) (S.ow x.lo) = { x with seen := some (x.pl, looked (par B dn n) (S.ow x.up) (S.ow x.lo) x.pl) } from by unfold copiedJ; rw [es, ho]; rfl]
            rfl
          · rw [upd_ne (ne_of hma ha (by intro z; cases z))]
            exact s3 _ _ (s2 _ _ hma)
          · rw [upd_ne nau.symm, show copiedU (par B dn n) x (S.ow x.up) (S.ow x.lo) = S.ow x.up from by unfold copiedU; rw [es, ho]; rfl]
            exact s3 _ _ u2
          · rw [upd_ne nal.symm, show copiedL (par B dn n) x (S.ow x.up) (S.ow x.lo) = S.ow x.lo from by unfold copiedL; rw [es, ho]; rfl]
            exact s3 _ _ l2
          · intro b o hb n1 n2 n3
            rw [upd_ne n1]
            exact s3 _ _ (s2 _ _ hb)
        · refine iteF (w2 _ H3 x.pl (looked (par B dn n) (S.ow x.up) (S.ow x.lo) x.pl) t (Same.trans s2 s3) v3 ?_ ?_ ?_ ?_)
          · unfold copiedJ
            rw [es, ho]
            rfl
          · unfold copiedU
            rw [es, ho]
            rfl
          · unfold copiedL
            rw [es, ho]
            rfl
          · rw [hw, ho]
            rfl
end
end K20W
end
/-! V7 -/
section
set_option Elab.async false
set_option linter.all false
set_option maxRecDepth 100000
set_option maxHeartbeats 4000000
/-! linked. -/
namespace K20W
open PySem L2 K20
section
variable {P : Program} {w : World} {K : PySem.W.Frag} {mg : Str → Option Value} {base : Heap} {f CY CB CJ : Addr} {fd : FuncData}
/-- the link in the sheet -/
def spLLinked : Sp := fun vs H Q _ => ∃ (fa p ba fn : Addr) (dn : Bool) (n : Nat) (A : Ad) (S : Vs) (D : Du) (τ : Addr → Int) (B : BookR) (i : Int), vs = [.ref fa, .ref p, .ref (A.jd i)] ∧ SA dn n H p A S D τ ∧ H fa = some (.dK (fkv B ba fn)) ∧ τ fa = 0 ∧ i ∈ S.jk ∧ Good (par B dn n) S D ∧ (S.jo i).half = false ∧
  ∀ dd H', SA dn n H' p { A with dd := dd } (linkS (par B dn n) S (S.jo i)) (linkD (par B dn n) S D (S.jo i)) τ → Kp τ H H' → Q .non H'
theorem ok_llinked (Bt : Blt mg) (g1 : Gd P w K mg base "_law_above" 1 ["_law_sheet", "_law_below"] spLAbove) (F : Fu K "_law_linked" "_law_linked" (top 71) f fd) : FnOk P w K mg base CX0 2 f fd ["_law_fields", "_law_sheet", "_law_task"] spLLinked := by
  have sc : FnScope ["_law_fields", "_law_sheet", "_law_task", "_law_upper", "_law_lower", "_law_bases", "_law_one", "_law_seats", "_law_dues", "_law_sitting"] ["_law_fields", "_law_sheet", "_law_task"] (defScope (top 71)) := ⟨rfl, rfl, rfl, by decide +kernel, rfl, by decide +kernel, by decide +kernel⟩
  obtain ⟨f4, d4, G4, e4, k4, b4⟩ := g1
  refine F.ok sc (fun vs H Q E h => ?_) (fun cdv Ar outer s H vs Q E hr h => ?_)
  · obtain ⟨fa, p, _, _, _, _, _, _, _, _, _, _, rfl, _⟩ := h
    rfl
  · obtain ⟨fa, p, ba, fn, dn, n, A, S, D, τ, B, i, rfl, Y, hf, t0f, hi, G, hh, q⟩ := h
    have hu := hu_of hr
    obtain ⟨h1, R⟩ := id Y
    obtain ⟨ma, na, sv, hj, hma, hna, tna, hsv⟩ := R.hjd i hi
    have BS : Base n S := G.ba
    have JO := G.jb i hi
    have up0 := BS.oi _ JO.uo
    have lo0 := BS.oi _ JO.lo
    refine ⟨_, PSs.nox (pss_cons (ps_asg (pe_tup (pa_cons (pe_dget hu (pv 2) pe_str (fun _ _ => rfl)) (pa_cons (pe_dget hu (pv 2) pe_str (fun _ _ => rfl)) (pa_cons (pe_dget hu (pv 1) pe_str (fun _ _ => rfl)) pa_nil)))) (pg_tup rfl (pgs_cons (pg_name (i := 3) sc.nd rfl (Or.inr rfl)) (pgs_cons (pg_name (i := 4) sc.nd rfl (Or.inl rfl)) (pgs_cons (pg_name (i := 5) sc.nd rfl (Or.inl rfl)) pgs_nil)))))
      (pss_cons (ps_if (pt_cmpR op_eq (pe_dget hu (pv 2) pe_str (fun _ _ => rfl)) pe_str (nomark _)) (pss_cons (ps_dput hu (pv 5) (pv 3) (pe_dget hu (pv 5) (pv 4) (fun _ _ => rfl)) rfl) (pss_one (ps_ret pe_non))) pss_nil)
      (pss_cons (ps_for PassesOwn.never rfl (pi_list (pe_call G4 hr rfl e4 k4 b4 .nil pass0 (pa_cons (pv 1) (pa_cons (pv 3) pa_nil)))) (pg_name (i := 6) sc.nd rfl (Or.inl rfl))
          (pss_one (ps_if (PW.pt (pw_or (pt_cmpR op_eq (pe_dget hu (pv 0) pe_str (fun _ _ => rfl)) pe_str (nomark _)) (pw_or1 (pt_cmpR op_in_seq (pv 6) (pe_dget hu (pv 2) pe_str (fun _ _ => rfl)) rfl)))) (pss_one (ps_dput hu (pv 5) (pv 6) (pv 4) rfl)) pss_nil)))
      (pss_cons (ps_asg (pe_tup (pa_cons (pe_dget hu (pv 1) pe_str (fun _ _ => rfl)) (pa_cons (pe_dget hu (pv 1) pe_str (fun _ _ => rfl)) pa_nil))) (pg_tup rfl (pgs_cons (pg_name (i := 7) sc.nd rfl (Or.inr rfl)) (pgs_cons (pg_name (i := 8) sc.nd rfl (Or.inl rfl)) pgs_nil))))
      (pss_cons (ps_setLc (i := 9) (own := [("_law_one", 6)]) (g := gName 6) (tt := tTest (tOp rEq (tDGet (tVar 7) (tVar 6)) (tVar 3))) (te := tVar 6) (by rfl) sc.nd rfl rfl (sw_true rfl rfl rfl (by decide +kernel)) (pi_list (pe_callB (call_sortedDI rfl) (by rfl) Bt.sorted boot_sorted (pa_cons (pv 7) pa_nil)))
          (blkOk_by (own := [("_law_one", 6)]) (N := ["_law_fields", "_law_sheet", "_law_task", "_law_upper", "_law_lower", "_law_bases", "_law_one", "_law_seats", "_law_dues", "_law_sitting"]) (sc := defScope (top 71)) (by decide +kernel))
          (fun _ _ _ _ _ => pg_name (i := 6) sc.nd rfl (Or.inl rfl)) (fun _ _ _ _ _ => pts_one (pt_cmpR op_eq (pe_dget hu (pv 7) (pv 6) (fun _ _ => rfl)) (pv 3) (nomark _))) (fun _ _ _ _ _ => pv 6))
      (pss_cons (ps_for PassesOwn.never rfl (pi_list (pv 9)) (pg_name (i := 6) sc.nd rfl (Or.inl rfl)) (pss_one (ps_dput hu (pv 7) (pv 6) (pv 4) rfl)))
      (pss_cons (ps_if (pt_cmpR (op_eqD hr.units) (pv 9) (pe_lst pa_nil) (nomark _)) (pss_one (ps_dput hu (pv 8) (pv 4) (pe_dget hu (pv 8) (pv 3) (fun _ _ => rfl)) rfl))
          (pss_one (ps_dput hu (pv 8) (pv 3) (pe_dget hu (pe_dget hu (pv 1) pe_str (fun _ _ => rfl)) (pe_ix ix_list (pv 9) pe_int (fun _ _ => rfl)) (fun _ _ => rfl)) rfl)))
      (pss_one (ps_ret pe_non))))))))), ?_⟩
    refine ⟨_, rfl, A.jd i, _, rfl, tk_upper hj, _, rfl, A.jd i, _, rfl, tk_lower hj, _, rfl, p, _, rfl, sk_bases h1, (show 3 ≤ sizeLine from by decide), fun t3 ht3 => ⟨t3, _, rfl, SqT.of upd_same, rfl, _, _, rfl, _, _, rfl, _, _, rfl, rfl, ?_⟩⟩
    have s0 : Same H (upd H t3 (.tup [.int (S.jo i).up, .int (S.jo i).lo, .ref A.b])) := Same.newS (Same.refl _) ht3
    generalize upd H t3 (.tup [.int (S.jo i).up, .int (S.jo i).lo, .ref A.b]) = H0 at s0 ⊢
    have Y0 := Y.same s0
    obtain ⟨h1, R⟩ := id Y0
    have hj := s0 _ _ hj
    refine ⟨_, rfl, A.jd i, _, rfl, tk_kind hj, rfl, _, rfl, ?_⟩
    rw [kind_up]
    cases hdn : dn with
    | false =>
      subst hdn
      have pb := dI_setOld R.hb (mem_rng.mpr up0) (by rw [rng_length]; exact Nat.le_trans BS.m14 (by decide)) (oV (S.bs (S.jo i).lo))
      rw [← fupd_map oV] at pb
      refine iteT ⟨_, rfl, _, rfl, A.b, _, rfl, dI_get R.hb (mem_rng.mpr lo0), _, rfl, _, rfl, A.b, _, rfl, pb, ?_⟩
      obtain ⟨Y2, k2⟩ := Y0.setb (fupd S.bs (S.jo i).up (S.bs (S.jo i).lo))
      exact q A.dd _ Y2 (Kp.trans (Kp.of_same s0) (Gw.refl τ H) k2)
    | true =>
      subst hdn
      refine iteF ?_
      refine ⟨_, rfl, _, rfl, p, n, n, S.bg, A, (S.jo i).up, S, rfl, h1, R.hb, R.ho, BS, fun p0 H1 hp s1 hl1 => ?_⟩
      refine ⟨p0, rfl, ⟨_, SqL.of hl1⟩, ?_⟩
      have t0 : τ p0 = 0 := not_tag R.live hp
      have Y1 := Y0.same s1
      have ab : ∀ {z : Int}, z ∈ above S (S.jo i).up ↔ z ∈ S.ok ∧ S.bs z = some (S.jo i).up := fun {z} => by
        unfold above
        rw [List.mem_filter, decide_eq_true_iff]
      let mv : List Int → Int → Option Int := fun l z => if (decide (z ∈ l) && (decide (B.moves = "now") || decide (z ∈ (S.jo i).noted))) = true then some (S.jo i).lo else S.bs z
      have s01 : Same H H1 := Same.trans s0 s1
      refine for_it (walk_list (K := K) (a := p0) (xs := (above S (S.jo i).up).map V.int)) (fun k σ H' => (∃ o c, σ = [some (.ref fa), some (.ref p), some (.ref (A.jd i)), some (.int (S.jo i).up), some (.int (S.jo i).lo), some (.ref A.b), o, c, none, none]) ∧ SA true n H' p A { S with bs := mv ((above S (S.jo i).up).take k) } D τ ∧ Kp τ H1 H')
        ⟨⟨_, _, rfl⟩, ?_, Kp.refl _ _⟩ (fun k σ H' _ h => SqL.of (h.2.2 _ _ hl1 fun z => (z t0).elim)) ?_ ?_
      · have : mv ((above S (S.jo i).up).take 0) = S.bs := by
          funext z
          show (if (decide (z ∈ []) && _) = true then _ else _) = _
          simp
        rw [this]
        exact Y1
      · rintro k x σ H' H2 hk ⟨⟨o0, c0, rfl⟩, Yk, kk⟩ ⟨rfl, hx⟩
        rw [List.getElem?_map] at hx
        obtain ⟨z, hz, rfl⟩ : ∃ z, (above S (S.jo i).up)[k]? = some z ∧ x = V.int z := by
          cases e : (above S (S.jo i).up)[k]? with
          | none => rw [e] at hx; cases hx
          | some z => rw [e] at hx; exact ⟨z, rfl, (Option.some.inj hx).symm⟩
        have hzm := ab.mp (List.mem_of_getElem? hz)
        have hz0 := BS.oi z hzm.1
        obtain ⟨e1, R'⟩ := id Yk
        obtain ⟨ma', na', sv', hj', _, hna', _, _⟩ := R'.hjd i hi
        have hfk : H2 fa = some (.dK (fkv B ba fn)) := kk _ _ (s01 _ _ hf) fun z => (z t0f).elim
        have tk : (above S (S.jo i).up).take (k + 1) = (above S (S.jo i).up).take k ++ [z] := by
          rw [List.take_add_one, hz]
          rfl
        have goput : (decide (B.moves = "now") || decide (z ∈ (S.jo i).noted)) = true → ∃ H3, DPut H2 A.b (.int z) (.int (S.jo i).lo) H3 ∧ SA true n H3 p A { S with bs := mv ((above S (S.jo i).up).take (k + 1)) } D τ ∧ Kp τ H1 H3 := fun hc => by
          have pb := dI_setOld R'.hb (mem_rng.mpr hz0) (by rw [rng_length]; exact Nat.le_trans BS.m14 (by decide)) (oV (some (S.jo i).lo))
          rw [← fupd_map oV] at pb
          obtain ⟨Y3, k3⟩ := Yk.setb (fupd (mv ((above S (S.jo i).up).take k)) z (some (S.jo i).lo))
          refine ⟨_, pb, ?_, Kp.trans kk (Gw.refl τ H1) k3⟩
          have e : fupd (mv ((above S (S.jo i).up).take k)) z (some (S.jo i).lo) = mv ((above S (S.jo i).up).take (k + 1)) := by
            funext u
            show _ = (if (decide (u ∈ (above S (S.jo i).up).take (k + 1)) && _) = true then _ else _)
            rw [tk]
            by_cases e : u = z
            · subst e
              rw [fupd_same, hc, if_pos]
              simp
            · rw [fupd_ne e]
              show (if (decide (u ∈ (above S (S.jo i).up).take k) && _) = true then _ else _) = _
              have : decide (u ∈ (above S (S.jo i).up).take k ++ [z]) = decide (u ∈ (above S (S.jo i).up).take k) := by
                rw [decide_eq_decide, List.mem_append, List.mem_singleton]
                exact ⟨fun h => h.resolve_right e, .inl⟩
              rw [this]
          rw [← e]
          exact Y3
        have goskip : (decide (B.moves = "now") || decide (z ∈ (S.jo i).noted)) = false → SA true n H2 p A { S with bs := mv ((above S (S.jo i).up).take (k + 1)) } D τ := fun hc => by
          have e : mv ((above S (S.jo i).up).take k) = mv ((above S (S.jo i).up).take (k + 1)) := by
            funext u
            show (if (decide (u ∈ (above S (S.jo i).up).take k) && _) = true then _ else _) = (if (decide (u ∈ (above S (S.jo i).up).take (k + 1)) && _) = true then _ else _)
            rw [tk]
            by_cases e : u = z
            · subst e
              rw [hc, Bool.and_false, Bool.and_false]
            · have : decide (u ∈ (above S (S.jo i).up).take k ++ [z]) = decide (u ∈ (above S (S.jo i).up).take k) := by
                rw [decide_eq_decide, List.mem_append, List.mem_singleton]
                exact ⟨fun h => h.resolve_right e, .inl⟩
              rw [this]
          rw [← e]
          exact Yk
        refine ⟨_, rfl, fa, _, rfl, fk_moves hfk, rfl, _, rfl, ?_⟩
        rw [vstr]
        by_cases e : B.moves = "now"
        · rw [decide_eq_true e] at goput ⊢
          obtain ⟨H3, pb, Y3, k3⟩ := goput rfl
          exact iteT (iteT ⟨_, rfl, _, rfl, _, rfl, A.b, H3, rfl, pb, ⟨_, _, rfl⟩, Y3, k3⟩)
        · rw [decide_eq_false e] at goput goskip ⊢
          refine iteF ⟨_, rfl, _, rfl, A.jd i, _, rfl, tk_noted hj', na', _, rfl, .inl (SqL.of hna'), rfl, flat_ints (fun z => z) _, _, rfl, ?_⟩
          rw [inV_ints z (fun z => z)]
          have ea : ((S.jo i).noted.any fun k => decide (k = z)) = decide (z ∈ (S.jo i).noted) := by
            rw [Bool.eq_iff_iff, List.any_eq_true, decide_eq_true_iff]
            exact ⟨fun ⟨u, hu, e⟩ => of_decide_eq_true e ▸ hu, fun h => ⟨z, h, decide_eq_true rfl⟩⟩
          rw [ea]
          by_cases e2 : z ∈ (S.jo i).noted
          · rw [decide_eq_true e2] at goput ⊢
            obtain ⟨H3, pb, Y3, k3⟩ := goput rfl
            exact iteT ⟨_, rfl, _, rfl, _, rfl, A.b, H3, rfl, pb, ⟨_, _, rfl⟩, Y3, k3⟩
          · rw [decide_eq_false e2] at goskip ⊢
            exact iteF ⟨⟨_, _, rfl⟩, goskip rfl, kk⟩
      · rintro σ H2 ⟨⟨o0, c0, rfl⟩, Y2, k2⟩
        rw [List.length_map, List.take_length] at Y2
        have hbs : mv (above S (S.jo i).up) = (linkS (par B true n) S (S.jo i)).bs := by
          funext u
          show (if (decide (u ∈ above S (S.jo i).up) && (decide (B.moves = "now") || decide (u ∈ (S.jo i).noted))) = true then some (S.jo i).lo else S.bs u) = if (decide (u ∈ S.ok) && (decide (S.bs u = some (S.jo i).up) && (decide (B.moves = "now") || decide (u ∈ (S.jo i).noted)))) = true then some (S.jo i).lo else S.bs u
          have : decide (u ∈ above S (S.jo i).up) = (decide (u ∈ S.ok) && decide (S.bs u = some (S.jo i).up)) := by
            rw [Bool.eq_iff_iff, Bool.and_eq_true, decide_eq_true_iff, decide_eq_true_iff, decide_eq_true_iff]
            exact ab
          rw [this, Bool.and_assoc]
        rw [hbs] at Y2
        obtain ⟨e2, R2⟩ := id Y2
        have k20 : Kp τ H H2 := Kp.trans (Kp.of_same s01) (Gw.refl τ H) k2
        refine ⟨_, rfl, p, _, rfl, sk_seats e2, _, rfl, p, _, rfl, sk_dues e2, (show 2 ≤ sizeLine from by decide), fun t2 ht2 => ⟨t2, _, rfl, SqT.of upd_same, rfl, _, _, rfl, _, _, rfl, rfl, ?_⟩⟩
        have s2 : Same H2 (upd H2 t2 (.tup [.ref A.s, .ref A.d])) := Same.newS (Same.refl _) ht2
        generalize upd H2 t2 (.tup [.ref A.s, .ref A.d]) = H3 at s2 ⊢
        have Y3 := Y2.same s2
        obtain ⟨e3, R3⟩ := id Y3
        refine ⟨_, rfl, A.s, _, rng S.nw, rfl, .inl R3.hs, dI_keys _ _, by rw [rng_length]; have := BS.w14; omega, fun ys l hperm hsrt hl => ?_⟩
        have ey := sorted_eq hperm hsrt (rng_rising _)
        subst ey
        have sl : Same H3 (upd H3 l (.lst ((rng S.nw).map V.int))) := Same.newS (Same.refl _) hl
        have vl : (upd H3 l (.lst ((rng S.nw).map V.int))) l = some (.lst ((rng S.nw).map V.int)) := upd_same
        generalize upd H3 l (.lst ((rng S.nw).map V.int)) = H4 at sl vl ⊢
        refine ⟨l, rfl, ⟨_, SqL.of vl⟩, fun D0 hD0 => ?_⟩
        refine lc_pick (walk_list (K := K) (a := l) (xs := (rng S.nw).map V.int)) hD0 (fun v => match v with | .int k => decide (S.se k = (S.jo i).up) | _ => false) (fun v => v) ?_ (fun H s => SqL.of (s _ _ vl)) (fun x H' hx s Q' hq => ?_) (fun x H' hx hp s Q' hq => ⟨_, rfl, hq _ (Same.refl _)⟩) fun H5 s5 hl5 => ?_
        · rw [List.length_map, rng_length]
          exact Nat.le_trans BS.w14 (by decide)
        · obtain ⟨k, hkk, rfl⟩ := List.mem_map.mp hx
          refine ⟨_, rfl, _, rfl, A.s, _, rfl, dI_get (s _ _ (sl _ _ R3.hs)) hkk, _, rfl, rfl, _, rfl, ?_⟩
          have : decide (V.int (S.se k) = V.int (S.jo i).up) = decide (S.se k = (S.jo i).up) := by
            rw [decide_eq_decide]
            exact ⟨V.int.inj, fun e => by rw [e]⟩
          rw [this]
          exact hq _ (Same.refl _)
        · have hl5 : H5 D0 = some (.lst ((sitting S (S.jo i).up).map V.int)) := by
            rw [hl5]
            unfold sitting
            rw [filt_int (p' := fun k => decide (S.se k = (S.jo i).up)) fun k hk => rfl]
          have s25 : Same H2 H5 := Same.trans s2 (Same.trans sl s5)
          have Y5 := Y2.same s25
          have k5 : Kp τ H H5 := Kp.trans k20 (Gw.refl τ H) (Kp.of_same s25)
          have tD : τ D0 = 0 := not_tag (Y3.same sl).re.live hD0
          have hse : ∀ u, u ∈ sitting S (S.jo i).up ↔ u ∈ rng S.nw ∧ S.se u = (S.jo i).up := fun u => by
            unfold sitting
            rw [List.mem_filter, decide_eq_true_iff]
          let sv (l : List Int) : Int → Int := fun u => if u ∈ l then (S.jo i).lo else S.se u
          refine ⟨_, rfl, D0, rfl, ⟨_, SqL.of hl5⟩, ?_⟩
          refine for_it (walk_list (K := K) (a := D0) (xs := (sitting S (S.jo i).up).map V.int)) (fun k σ H' => (∃ o, σ = [some (.ref fa), some (.ref p), some (.ref (A.jd i)), some (.int (S.jo i).up), some (.int (S.jo i).lo), some (.ref A.b), o, some (.ref A.s), some (.ref A.d), some (.ref D0)]) ∧ SA true n H' p A { S with bs := (linkS (par B true n) S (S.jo i)).bs, se := sv ((sitting S (S.jo i).up).take k) } D τ ∧ Kp τ H5 H')
            ⟨⟨_, rfl⟩, ?_, Kp.refl _ _⟩ (fun k σ H' _ h => SqL.of (h.2.2 _ _ hl5 fun z => (z tD).elim)) ?_ ?_
          · have : sv ((sitting S (S.jo i).up).take 0) = S.se := by
              funext z
              show (if z ∈ [] then _ else _) = _
              simp
            rw [this]
            exact Y5
          · rintro k x σ H' H6 hk ⟨⟨o1, rfl⟩, Yk, kk⟩ ⟨rfl, hx⟩
            rw [List.getElem?_map] at hx
            obtain ⟨z, hz, rfl⟩ : ∃ z, (sitting S (S.jo i).up)[k]? = some z ∧ x = V.int z := by
              cases e : (sitting S (S.jo i).up)[k]? with
              | none => rw [e] at hx; cases hx
              | some z => rw [e] at hx; exact ⟨z, rfl, (Option.some.inj hx).symm⟩
            have hzm := (hse z).mp (List.mem_of_getElem? hz)
            have tk : (sitting S (S.jo i).up).take (k + 1) = (sitting S (S.jo i).up).take k ++ [z] := by
              rw [List.take_add_one, hz]
              rfl
            have ps := dI_setOld Yk.re.hs hzm.1 (by rw [rng_length]; exact Nat.le_trans BS.w14 (by decide)) (.int (S.jo i).lo)
            rw [← fupd_map V.int] at ps
            obtain ⟨Y7, k7⟩ := Yk.sets (fupd (sv ((sitting S (S.jo i).up).take k)) z (S.jo i).lo)
            refine ⟨_, rfl, _, rfl, _, rfl, A.s, _, rfl, ps, ⟨_, rfl⟩, ?_, Kp.trans kk (Gw.refl τ H5) k7⟩
            have e : fupd (sv ((sitting S (S.jo i).up).take k)) z (S.jo i).lo = sv ((sitting S (S.jo i).up).take (k + 1)) := by
              funext u
              show _ = (if u ∈ (sitting S (S.jo i).up).take (k + 1) then _ else _)
              rw [tk]
              by_cases e : u = z
              · subst e
                rw [fupd_same, if_pos (by simp)]
              · rw [fupd_ne e]
                show (if u ∈ (sitting S (S.jo i).up).take k then _ else _) = _
                by_cases m : u ∈ (sitting S (S.jo i).up).take k
                · rw [if_pos m, if_pos (List.mem_append_left _ m)]
                · rw [if_neg m, if_neg (by simp [m, e])]
            rw [← e]
            exact Y7
          · rintro σ H6 ⟨⟨o1, rfl⟩, Y6, k6⟩
            rw [List.length_map, List.take_length] at Y6
            have Y6 : SA true n H6 p A (linkS (par B true n) S (S.jo i)) D τ := by
              obtain ⟨Y8, _⟩ := Y6.sets (linkS (par B true n) S (S.jo i)).se
              have es : dI (fun x => V.int ((linkS (par B true n) S (S.jo i)).se x)) (rng S.nw) = dI (fun x => V.int (sv (sitting S (S.jo i).up) x)) (rng S.nw) := dI_congr fun k hk => by
                show V.int (if S.se k = (S.jo i).up then (S.jo i).lo else S.se k) = V.int (if k ∈ sitting S (S.jo i).up then (S.jo i).lo else S.se k)
                by_cases e : S.se k = (S.jo i).up
                · rw [if_pos e, if_pos ((hse k).mpr ⟨hk, e⟩)]
                · rw [if_neg e, if_neg fun h => e ((hse k).mp h).2]
              rw [es, upd_id Y6.re.hs] at Y8
              exact Y8
            have k06 : Kp τ H H6 := Kp.trans k5 (Gw.refl τ H) k6
            have ld : D.dk.length ≤ 1000 := Nat.le_trans (nodup_le G.dn G.dr) (Nat.le_trans BS.m14 (by decide))
            have hl6 : H6 D0 = some (.lst ((sitting S (S.jo i).up).map V.int)) := k6 _ _ hl5 fun z => (z tD).elim
            refine ⟨_, rfl, (show 0 ≤ sizeLine from Nat.zero_le _), fun e0 he0 => ?_⟩
            have s7 : Same H6 (upd H6 e0 (.lst [])) := Same.newS (Same.refl _) he0
            refine ⟨_, _, .lst (SqL.of (s7 _ _ hl6)) (dpAll_ints K _ _), .lst (SqL.of upd_same) (dpAll_ints K _ []), shaped_ints _, shaped_ints [], _, rfl, ?_⟩
            rw [eqv_ints]
            generalize upd H6 e0 (.lst []) = H7 at s7 ⊢
            have Y7 := Y6.same s7
            have k07 : Kp τ H H7 := Kp.trans k06 (Gw.refl τ H) (Kp.of_same s7)
            obtain ⟨e7, R7⟩ := id Y7
            cases hsit : sitting S (S.jo i).up with
            | nil =>
              have nos : ∀ w : Int, 0 ≤ w → w < S.nw → S.se w ≠ (S.jo i).up := fun w h0 h1 e => by
                have := (hse w).mpr ⟨mem_rng.mpr ⟨h0, h1⟩, e⟩
                rw [hsit] at this
                cases this
              have hup := JO.du rfl hh nos
              obtain ⟨dd, H8, p8, Y8, k8⟩ := Y7.due1 (k := (S.jo i).lo) (R7.hdd _ hup) ld
              refine iteT ⟨_, rfl, _, rfl, A.d, _, rfl, dI_get R7.hd hup, _, rfl, _, rfl, A.d, H8, rfl, p8, ?_⟩
              have eD : linkD (par B true n) S D (S.jo i) = D.put (S.jo i).lo (D.du (S.jo i).up) := by
                show (match sitting S (S.jo i).up with | [] => D.put (S.jo i).lo (D.du (S.jo i).up) | w :: _ => D.put (S.jo i).up (S.co w)) = _
                rw [hsit]
              have fin := q dd H8
              rw [eD] at fin
              exact fin Y8 (Kp.trans k07 (Gw.refl τ H) k8)
            | cons w0 ws =>
              have hw0 : w0 ∈ rng S.nw := ((hse w0).mp (by rw [hsit]; exact List.mem_cons_self)).1
              obtain ⟨dd, H8, p8, Y8, k8⟩ := Y7.due1 (k := (S.jo i).up) (R7.hcd _ hw0) ld
              refine iteF ⟨_, rfl, p, _, rfl, sk_contents e7, _, rfl, D0, _, _, V.int w0, rfl, rfl, SqL.of (s7 _ _ hl6), atI_nat (j := 0) (by rw [hsit]; rfl), A.c, _, rfl, dI_get R7.hc hw0, _, rfl, _, rfl, A.d, H8, rfl, p8, ?_⟩
              have eD : linkD (par B true n) S D (S.jo i) = D.put (S.jo i).up (S.co w0) := by
                show (match sitting S (S.jo i).up with | [] => D.put (S.jo i).lo (D.du (S.jo i).up) | w :: _ => D.put (S.jo i).up (S.co w)) = _
                rw [hsit]
              have fin := q dd H8
              rw [eD] at fin
              exact fin Y8 (Kp.trans k07 (Gw.refl τ H) k8)
end
end K20W
end
/-! V8 -/
section
set_option Elab.async false
set_option linter.all false
set_option maxRecDepth 100000
set_option maxHeartbeats 4000000
/-! A comprehension that picks and makes; dict of pairs. -/
namespace K20W
open PySem L2 K20
theorem fupd_id {α : Type} (g : Int → α) (k : Int) : fupd g k (g k) = g := by
  funext x
  unfold fupd
  split
  · rename_i e
    rw [e]
  · rfl
theorem merge_dI (g : Int → V) : ∀ (ks pre : List Int), (pre ++ ks).Nodup → mergeK (dI g pre) (dI g ks) = dI g (pre ++ ks)
  | [], pre, _ => by
    rw [List.append_nil]
    rfl
  | k :: r, pre, h => by
    have kn : k ∉ pre := fun z => by
      rw [List.nodup_append] at h
      exact h.2.2 k z k List.mem_cons_self rfl
    have e : mergeK (dI g pre) (dI g (k :: r)) = mergeK (putK (dI g pre) (Sum.inl k) (g k)) (dI g r) := rfl
    rw [e, dI_new kn, fupd_id, merge_dI g r (pre ++ [k]) (by simpa using h)]
    simp
theorem merge_nil (g : Int → V) {ks : List Int} (h : ks.Nodup) : mergeK [] (dI g ks) = dI g ks := merge_dI g ks [] (by simpa using h)
section
variable {J : It} {G : Hp → Prop} {tt : TT} {te : TE} {σ : St} {H1 : Hp} {D : Addr} {Qd : Hp → Prop}
/-- [v for k in ks if p], ints: the values are told by I -/
theorem lc_invP {j : Nat} {ks : List Int} (w : Walk J (ks.map V.int).length G (YAt (ks.map V.int))) (hD : H1 D = none) (hz : ks.length < sizeLine) (pp : Int → Bool) (I : List Int → List V → Hp → Prop)
    (hI : ∀ pre vs H H', I pre vs H → Off D H H' → H' D ≠ none → I pre vs H') (h0 : I [] [] (upd H1 D (.lst [])))
    (hG : ∀ H, Same H1 H → G H) (ht : ∀ k H, k ∈ ks → Same H1 H → ∀ Q : Bool → Hp → Prop, (∀ H3, Same H H3 → Q (pp k) H3) → tt ((wipe σ [j]).set j (some (.int k))) H Q)
    (hv : ∀ k pre vs H, k ∈ ks → pp k = true → Same H1 H → (∃ xs, H D = some (.lst xs)) → I pre vs H → ∀ Q : VK, (∀ v H3, Same H H3 → I (pre ++ [k]) (vs ++ [v]) H3 → Q v H3) → te ((wipe σ [j]).set j (some (.int k))) H Q)
    (hd : ∀ H (vs : List V), Same H1 H → H D = some (.lst vs) → I (ks.filter pp) vs H → Qd H) :
    ∃ W : Nat → Nat → Hp → Prop, (∃ m, W 0 m (upd H1 D (.lst []))) ∧ ∀ i m H, W i m H →
      (J.stop i H ∧ Qd H) ∨ (J.go i H ∧ ∃ Nx : Hp → Prop, (∀ H', Nx H' → ∃ m', m' < m ∧ W (i + 1) m' H') ∧ ∀ x H', J.yld i H x H' → gName j x (wipe σ [j]) H' fun σ2 H2 => wipe σ2 [j] = wipe σ [j] ∧ tt σ2 H2 fun b H3 =>
        if b = true then te σ2 H3 fun y H4 => ∃ acc, H4 D = some (.lst acc) ∧ acc.length < sizeLine ∧ Nx (upd H4 D (.lst (acc ++ [y]))) else Nx H3) := by
  have up : ∀ {H : Hp} {o : HO}, Same H1 H → Same H1 (upd H D o) := fun s b u e => by
    rw [upd_ne (ne_of_none e hD)]
    exact s b u e
  have hln : (ks.map V.int).length = ks.length := List.length_map ..
  refine lc_it w (fun i H => ∃ vs : List V, Same H1 H ∧ H D = some (.lst vs) ∧ vs.length ≤ i ∧ I ((ks.take i).filter pp) vs H) ⟨[], up (Same.refl _), upd_same, Nat.zero_le _, h0⟩ (fun i H _ ⟨_, s, _⟩ => hG H s) ?_ ?_
  · rintro i x H H' hi ⟨vs, s, hf, hl, hr⟩ ⟨rfl, hx⟩
    rw [hln] at hi
    rw [List.getElem?_map] at hx
    obtain ⟨k, hk0, rfl⟩ : ∃ k, ks[i]? = some k ∧ x = V.int k := by
      cases e : ks[i]? with
      | none => rw [e] at hx; cases hx
      | some z => rw [e] at hx; exact ⟨z, rfl, (Option.some.inj hx).symm⟩
    have km : k ∈ ks := List.mem_of_getElem? hk0
    have tk1 : ks.take (i + 1) = ks.take i ++ [k] := by
      rw [List.take_add_one, hk0]
      rfl
    have dl : H' D ≠ none := fun z => by rw [hf] at z; cases z
    refine ⟨?_, ht k H' km s _ fun H3 s3 => ?_⟩
    · show (((wipe σ []).set j none).set j (some (V.int k))).set j none = (wipe σ []).set j none
      rw [List.set_set, List.set_set]
    · have r3 := hI _ _ _ _ hr (Off.of s3) (fun z => by rw [s3 _ _ hf] at z; cases z)
      by_cases hp : pp k = true
      · rw [hp]
        refine iteT (hv k _ vs H3 km hp (Same.trans s s3) ⟨_, s3 _ _ hf⟩ r3 _ fun v H4 s4 hv4 => ⟨_, s4 _ _ (s3 _ _ hf), by omega, vs ++ [v], up (Same.trans s (Same.trans s3 s4)), upd_same, by rw [List.length_append]; show vs.length + 1 ≤ i + 1; omega, ?_⟩)
        rw [tk1, List.filter_append, show [k].filter pp = [k] from by rw [List.filter_cons_of_pos hp]; rfl]
        exact hI _ _ _ _ hv4 (Off.upd _) (by rw [upd_same]; exact fun z => nomatch z)
      · rw [show pp k = false by simpa using hp]
        refine iteF ⟨vs, Same.trans s s3, s3 _ _ hf, by omega, ?_⟩
        rw [tk1, List.filter_append, show [k].filter pp = [] from by rw [List.filter_cons_of_neg hp]; rfl, List.append_nil]
        exact r3
  · rintro H ⟨vs, s, hf, hl, hr⟩
    rw [hln] at hr
    rw [List.take_length] at hr
    exact hd H vs s hf hr
end
end K20W
end
/-! V9 -/
section
set_option Elab.async false
set_option linter.all false
set_option maxRecDepth 100000
set_option maxHeartbeats 4000000
/-! cut. -/
namespace K20W
open PySem L2 K20
section
variable {P : Program} {w : World} {K : PySem.W.Frag} {mg : Str → Option Value} {base : Heap} {f CY CB CJ : Addr} {fd : FuncData}
theorem paired_snoc {α β : Type} {R : α → β → Prop} {l : List α} {m : List β} {a : α} {b : β} (h : Paired R l m) (h2 : R a b) : Paired R (l ++ [a]) (m ++ [b]) := by
  induction h with
  | nil => exact .cons h2 .nil
  | cons x _ ih => exact .cons x ih
theorem SA.newo {dn : Bool} {n : Nat} {H : Hp} {p : Addr} {A : Ad} {S : Vs} {D : Du} {τ : Addr → Int} (Y : SA dn n H p A S D τ) {q : Addr} (hq : H q = none) {ok : List Int} (sub : ∀ x ∈ ok, x ∈ S.ok) :
    SA dn n (upd (upd H q (.dK (dI (fun x => .ref (A.od x)) ok))) p (.dK (skv n { A with o := q } S.bg))) p { A with o := q } { S with ok := ok } D (tg τ q 3) ∧
      Kp τ H (upd (upd H q (.dK (dI (fun x => .ref (A.od x)) ok))) p (.dK (skv n { A with o := q } S.bg))) ∧ Gw τ (tg τ q 3) H := by
  obtain ⟨h1, R⟩ := Y
  have sq : Same H (upd H q (.dK (dI (fun x => .ref (A.od x)) ok))) := Same.newS (Same.refl _) hq
  have vq : (upd H q (.dK (dI (fun x => .ref (A.od x)) ok))) q = some (.dK (dI (fun x => .ref (A.od x)) ok)) := upd_same
  generalize upd H q (.dK (dI (fun x => .ref (A.od x)) ok)) = H1 at sq vq ⊢
  have R1 := R.same (TaskAt.stays dn) sq
  have hqt : τ q = 0 := not_tag R.live hq
  have R2 := R1.tags2 (TaskAt.stays dn) (τ' := tg τ q 3) (fun a ha => tg_ne fun e => ha (e ▸ hqt)) (R1.live.tg q 3 (some_ne vq))
  have R3 := R2.newowned (TaskAt.stays dn) sub tg_same vq
  have h2 := sq _ _ h1
  have R4 := R3.top (TaskAt.stays dn) (Ch.wr R3.tp h2 isT_dK) (R3.live.wr p (.dK (skv n { A with o := q } S.bg)))
  exact ⟨⟨upd_same, R4⟩, (Kp.of_same sq).wr (by rw [R.tp]; decide) h2 isT_dK, Gw.tg 3 hq⟩
def spLCut : Sp := fun vs H Q _ => ∃ (fa p ba fn : Addr) (dn : Bool) (n : Nat) (A : Ad) (S : Vs) (D : Du) (τ : Addr → Int) (B : BookR) (i : Int), vs = [.ref fa, .ref p, .ref (A.jd i)] ∧ SA dn n H p A S D τ ∧ H fa = some (.dK (fkv B ba fn)) ∧ i ∈ S.jk ∧ (S.jo i).up ∈ S.ok ∧ (S.jo i).lo ∈ S.ok ∧ Base n S ∧
  ∀ o' H' τ', SA dn n H' p { A with o := o' } (K20.cutS (par B dn n) S (S.jo i)) D τ' → Kp τ H H' → Gw τ τ' H → Q .non H'
theorem ok_lcut (Bt : Blt mg) (g1 : Gd P w K mg base "_law_above" 1 ["_law_sheet", "_law_below"] spLAbove) (F : Fu K "_law_cut" "_law_cut" (top 72) f fd) : FnOk P w K mg base CX0 2 f fd ["_law_fields", "_law_sheet", "_law_task"] spLCut := by
  have sc : FnScope ["_law_fields", "_law_sheet", "_law_task", "_law_others", "_law_is_free", "_law_gone", "_law_one"] ["_law_fields", "_law_sheet", "_law_task"] (defScope (top 72)) := ⟨rfl, rfl, rfl, by decide +kernel, rfl, by decide +kernel, by decide +kernel⟩
  obtain ⟨f4, d4, G4, e4, k4, b4⟩ := g1
  refine F.ok sc (fun vs H Q E h => ?_) (fun cdv Ar outer s H vs Q E hr h => ?_)
  · obtain ⟨fa, p, _, _, _, _, _, _, _, _, _, _, rfl, _⟩ := h
    rfl
  · obtain ⟨fa, p, ba, fn, dn, n, A, S, D, τ, B, i, rfl, Y, hf, hi, hup, hlo, BS, q⟩ := h
    have hu := hu_of hr
    obtain ⟨h1, R⟩ := id Y
    obtain ⟨ma, na, sv, hj, hma, hna, tna, hsv⟩ := R.hjd i hi
    have tail : ∃ T2, PSs (cxOf CX0 P w K mg base ["_law_fields", "_law_sheet", "_law_task", "_law_others", "_law_is_free", "_law_gone", "_law_one"] "_law_cut" (defScope (top 72)) f cdv Ar outer s H E) ((defBody (top 72)).drop 4) T2 ∧
        ∀ (o3 o4 : Option V) (H2 : Hp) (g : Option Int), Same H H2 → g = goneOf (par B dn n) S (S.jo i) →
          T2 { nx := fun _ H' => Q .non H', rt := Q } [some (.ref fa), some (.ref p), some (.ref (A.jd i)), o3, o4, some (oV g), none] H2 := by
      refine ⟨_, pss_one (ps_dput hu (pv 1) pe_str (pe_callTy (call_dictP rfl) rfl Bt.dict boot_dict (pa_cons (pe_lock (pe_lc (own := [("_law_one", 6)]) (g := gName 6) (tt := tTest (tOp rNe (tVar 6) (tVar 5))) (te := tTup (tCons (tVar 6) (tCons (tDGet (tDGet (tVar 1) (tC (.str "owned"))) (tVar 6)) tNil))) (by rfl) sc.nd (pi_keys (pe_dget hu (pv 1) pe_str (fun _ _ => rfl)))
          (blkOk_by (own := [("_law_one", 6)]) (N := ["_law_fields", "_law_sheet", "_law_task", "_law_others", "_law_is_free", "_law_gone", "_law_one"]) (sc := defScope (top 72)) (by decide +kernel))
          (fun _ _ _ _ _ => pg_name (i := 6) sc.nd rfl (Or.inl rfl)) (fun _ _ _ _ _ => pts_one (pt_cmpR op_ne (pv 6) (pv 5) (nomark _))) (fun _ _ _ _ _ => pe_tup (pa_cons (pv 6) (pa_cons (pe_dget hu (pe_dget hu (pv 1) pe_str (fun _ _ => rfl)) (pv 6) (fun _ _ => rfl)) pa_nil))))) pa_nil)) rfl), ?_⟩
      intro o3 o4 H2 g s2 eg
      have ho2 := s2 _ _ R.ho
      have po : p ≠ A.o := tag_ne R.tp R.to (by decide)
      refine ⟨A.o, _, ho2, trivial, fun od => ?_⟩
      have e0 : (upd H2 A.o (.frz od (.dK (dI (fun x => .ref (A.od x)) S.ok)))) A.o = some (.frz od (.dK (dI (fun x => .ref (A.od x)) S.ok))) := upd_same
      have off : Off A.o H2 (upd H2 A.o (.frz od (.dK (dI (fun x => .ref (A.od x)) S.ok)))) := Off.upd _
      have unl : ∀ {Kx : Hp}, Same (upd H2 A.o (.frz od (.dK (dI (fun x => .ref (A.od x)) S.ok)))) Kx → Same H2 (upd Kx A.o (.dK (dI (fun x => .ref (A.od x)) S.ok))) := fun s => Same.unlock ho2 s
      generalize upd H2 A.o (.frz od (.dK (dI (fun x => .ref (A.od x)) S.ok))) = H3 at e0 off unl ⊢
      have g3 := off _ _ po (s2 _ _ h1)
      refine ⟨_, rfl, p, _, rfl, sk_owned g3, A.o, od, rfl, .inl ⟨_, e0, fun D0 hD0 => ?_⟩⟩
      have wk : Walk (Itk A.o od (dI (fun x => .ref (A.od x)) S.ok)) (S.ok.map V.int).length (fun H => H A.o = some (.frz od (.dK (dI (fun x => .ref (A.od x)) S.ok)))) (YAt (S.ok.map V.int)) := by
        have := walk_keysA (d := A.o) (o := od) (kvs := dI (fun x => .ref (A.od x)) S.ok)
        rw [dI_keysV] at this
        exact this
      refine lc_invP wk hD0 (Nat.lt_of_le_of_lt (ok_len BS) (by decide)) (fun k => decide (some k ≠ g)) (fun pre vs Hc => ∃ ps : List Addr, vs = ps.map V.ref ∧ Paired (fun a k => Hc a = some (.tup [.int k, .ref (A.od k)]) ∧ a ≠ D0 ∧ a ≠ A.o) ps pre)
        (fun pre vs Hc Hc' ⟨ps, e, pr⟩ of _ => ⟨ps, e, L2.Paired.mapP pr fun a k ⟨h1, h2, h3⟩ => ⟨of _ _ h2 h1, h2, h3⟩⟩) ⟨[], rfl, .nil⟩ (fun Hc s => s _ _ e0) (fun k Hc hk s Q' hq => ?_) (fun k pre vs Hc hk hp s ⟨xs, hx⟩ ⟨ps, e, pr⟩ Q' hq => ?_) fun Hc vs s hD ⟨ps, e, pr⟩ => ?_
      · refine ⟨_, rfl, _, rfl, ?_, _, rfl, ?_⟩
        · cases g <;> rfl
        · have : (!decide (V.int k = oV g)) = decide (some k ≠ g) := by
            cases g with
            | none => rfl
            | some z =>
              rw [Bool.eq_iff_iff]
              simp [oV]
          rw [this]
          exact hq _ (Same.refl _)
      · refine ⟨_, rfl, _, rfl, p, _, rfl, sk_owned (s _ _ g3), _, rfl, A.o, _, rfl, dI_getF (s _ _ e0) hk, (show 2 ≤ sizeLine from by decide), fun t ht => ?_⟩
        have st : Same Hc (upd Hc t (.tup [.int k, .ref (A.od k)])) := Same.newS (Same.refl _) ht
        refine hq _ _ st ⟨ps ++ [t], by rw [e, List.map_append]; rfl, ?_⟩
        exact paired_snoc (L2.Paired.mapP pr fun a k ⟨h1, h2, h3⟩ => ⟨st _ _ h1, h2, h3⟩) ⟨upd_same, (ne_of_none hx ht).symm, (ne_of_none (s _ _ e0) ht).symm⟩
      · have s5 : Same H2 (upd Hc A.o (.dK (dI (fun x => .ref (A.od x)) S.ok))) := unl s
        refine ⟨s _ _ e0, ?_⟩
        have nD : D0 ≠ A.o := fun e => by rw [e, e0] at hD0; cases hD0
        have hD5 : (upd Hc A.o (.dK (dI (fun x => .ref (A.od x)) S.ok))) D0 = some (.lst (ps.map V.ref)) := by rw [upd_ne nD, ← e]; exact hD
        have pr5 : Paired (fun a (kv : Key × V) => SqT K (upd Hc A.o (.dK (dI (fun x => .ref (A.od x)) S.ok))) a [kV kv.1, kv.2]) ps (dI (fun x => .ref (A.od x)) (S.ok.filter fun k => decide (some k ≠ g))) := by
          clear e hD hD5
          generalize S.ok.filter (fun k => decide (some k ≠ g)) = ks at pr
          induction pr with
          | nil => exact .nil
          | cons x _ ih =>
            refine .cons (SqT.of ?_) ih
            rw [upd_ne x.2.2]
            exact x.1
        generalize upd Hc A.o (.dK (dI (fun x => .ref (A.od x)) S.ok)) = H5 at s5 hD5 pr5 ⊢
        refine ⟨D0, ps, _, rfl, SqL.of hD5, pr5, fun qo hqo => ?_⟩
        have okn : (S.ok.filter fun k => decide (some k ≠ g)).Nodup := (BS.os.imp fun {a b} h => by omega : S.ok.Nodup).sublist List.filter_sublist
        rw [merge_nil _ okn]
        have s05 := Same.trans s2 s5
        obtain ⟨Y6, k6, w6⟩ := (Y.same s05).newo hqo (ok := S.ok.filter fun k => decide (some k ≠ g)) fun x hx => (List.mem_filter.mp hx).1
        have h15 : (upd H5 qo (.dK (dI (fun x => .ref (A.od x)) (S.ok.filter fun k => decide (some k ≠ g))))) p = some (.dK (skv n A S.bg)) := by
          rw [upd_ne (ne_of_none (s05 _ _ h1) hqo)]
          exact s05 _ _ h1
        have pp := DPut.k (k := Sum.inr "owned") (v := .ref qo) h15 (small1000 (show 8 ≤ 1000 by decide))
        rw [sk_put_owned] at pp
        refine ⟨_, rfl, p, _, rfl, pp, ?_⟩
        have fin := q qo _ _ ?_ (Kp.trans (Kp.of_same s05) (Gw.refl τ H) k6) fun a ha => (w6 a ha).imp (fun z => z) fun z => s05.free z
        · exact fin
        · have : K20.cutS (par B dn n) S (S.jo i) = { S with ok := S.ok.filter fun k => decide (some k ≠ g) } := by
            unfold K20.cutS
            rw [← eg]
          rw [this]
          exact Y6
    obtain ⟨T2, hT2, w2⟩ := tail
    refine ⟨_, pss_cons (ps_setLc (i := 3) (own := [("_law_one", 6)]) (g := gName 6) (tt := tTest (tOp rNe (tVar 6) (tDGet (tVar 2) (tC (.str "upper"))))) (te := tVar 6) (by rfl) sc.nd rfl rfl (sw_true rfl rfl rfl (by decide +kernel)) (pi_list (pe_call G4 hr rfl e4 k4 b4 .nil pass0 (pa_cons (pv 1) (pa_cons (pe_dget hu (pv 2) pe_str (fun _ _ => rfl)) pa_nil))))
        (blkOk_by (own := [("_law_one", 6)]) (N := ["_law_fields", "_law_sheet", "_law_task", "_law_others", "_law_is_free", "_law_gone", "_law_one"]) (sc := defScope (top 72)) (by decide +kernel))
        (fun _ _ _ _ _ => pg_name (i := 6) sc.nd rfl (Or.inl rfl)) (fun _ _ _ _ _ => pts_one (pt_cmpR op_ne (pv 6) (pe_dget hu (pv 2) pe_str (fun _ _ => rfl)) (nomark _))) (fun _ _ _ _ _ => pv 6))
      (pss_cons (ps_set (i := 4) sc.nd rfl (.inl rfl) (pe_ifExp (pt_cmpR op_eq (pe_dget hu (pv 0) pe_str (fun _ _ => rfl)) pe_str (nomark _)) (pe_dget hu (pv 2) pe_str (fun _ _ => rfl)) (pe_and (pe_cmpR op_eq (pe_dget hu (pv 0) pe_str (fun _ _ => rfl)) pe_str (nomark _)) (pe_one (pe_cmpR (op_eqD hr.units) (pv 3) (pe_lst pa_nil) (nomark _))))))
      (pss_cons (ps_set (i := 5) sc.nd rfl (.inr rfl) (pe_ifExp (pt_val (pv 4)) (pe_dget hu (pv 2) pe_str (fun _ _ => rfl)) pe_non))
      (pss_cons (ps_set (i := 5) sc.nd rfl (.inr rfl) (pe_ifExp (pt_cmpR op_eq (pe_dget hu (pv 2) pe_str (fun _ _ => rfl)) pe_str (nomark _)) (pe_dget hu (pv 2) pe_str (fun _ _ => rfl)) (pv 5)))
      hT2))), ?_⟩
    refine ⟨_, rfl, _, rfl, A.jd i, _, rfl, tk_lower hj, p, n, n, S.bg, A, (S.jo i).lo, S, rfl, h1, R.hb, R.ho, BS, fun p0 H1 _ s1 hl1 => ?_⟩
    refine ⟨p0, rfl, ⟨_, SqL.of hl1⟩, fun D0 hD0 => ?_⟩
    refine lc_pick (walk_list (K := K) (a := p0) (xs := (above S (S.jo i).lo).map V.int)) hD0 (fun v => !decide (v = V.int (S.jo i).up)) (fun v => v) ?_ (fun H2 s2 => SqL.of (s2 _ _ hl1)) (fun x H2 hx s2 Q' hq => ?_) (fun x H2 hx _ s2 Q' hq => ⟨_, rfl, hq _ (Same.refl _)⟩) fun H2 s2 hD2 => ?_
    · rw [List.length_map]
      exact Nat.le_trans (List.length_filter_le _ _) (Nat.le_trans (ok_len BS) (by decide))
    · obtain ⟨z, _, rfl⟩ := List.mem_map.mp hx
      exact ⟨_, rfl, _, rfl, A.jd i, _, rfl, tk_upper (s2 _ _ (s1 _ _ hj)), rfl, _, rfl, hq _ (Same.refl _)⟩
    · have el : (((above S (S.jo i).lo).map V.int).filter fun v => !decide (v = V.int (S.jo i).up)).map (fun v => v) = ((above S (S.jo i).lo).filter fun y => decide (y ≠ (S.jo i).up)).map V.int :=
        filt_int fun k _ => by
          rw [Bool.eq_iff_iff]
          simp
      rw [el] at hD2
      have s02 : Same H H2 := Same.trans s1 s2
      have hff : freeOf (par B dn n) S (S.jo i) = if decide (B.counts = "first") then (S.jo i).free else decide (B.counts = "last") && ((above S (S.jo i).lo).filter fun y => decide (y ≠ (S.jo i).up)).isEmpty := rfl
      have hgo : goneOf (par B dn n) S (S.jo i) = if dn then some (S.jo i).up else if freeOf (par B dn n) S (S.jo i) then some (S.jo i).lo else none := rfl
      refine ⟨_, rfl, fa, _, rfl, fk_counts (s02 _ _ hf), rfl, _, rfl, ?_⟩
      rw [vstr]
      have emp : ∀ l : List Int, decide (l = []) = l.isEmpty := fun l => by cases l <;> rfl
      cases hc1 : decide (B.counts = "first")
      case' true =>
        refine iteT ⟨_, rfl, A.jd i, _, rfl, tk_free (s02 _ _ hj), ?_⟩
        have efr : freeOf (par B dn n) S (S.jo i) = (S.jo i).free := by rw [hff, hc1]; rfl
        rw [← efr]
        have s03 := s02
      case' false =>
        refine iteF ⟨_, rfl, fa, _, rfl, fk_counts (s02 _ _ hf), rfl, ?_⟩
        rw [vstr]
        rw [hc1] at hff
        cases hc2 : decide (B.counts = "last")
        case' false =>
          refine ⟨_, rfl, iteF ?_⟩
          have efr : freeOf (par B dn n) S (S.jo i) = false := by rw [hff, hc2]; rfl
          rw [← efr]
          have s03 := s02
        case' true =>
          refine ⟨_, rfl, iteT ⟨_, rfl, (show 0 ≤ sizeLine from Nat.zero_le _), fun e0 he0 => ?_⟩⟩
          have s3 : Same H2 (upd H2 e0 (.lst [])) := Same.newS (Same.refl _) he0
          refine ⟨_, _, .lst (SqL.of (s3 _ _ hD2)) (dpAll_ints K _ _), .lst (SqL.of upd_same) (dpAll_ints K _ []), shaped_ints _, shaped_ints [], ?_⟩
          rw [eqv_ints, emp]
          have efr : freeOf (par B dn n) S (S.jo i) = ((above S (S.jo i).lo).filter fun y => decide (y ≠ (S.jo i).up)).isEmpty := by rw [hff, hc2]; rfl
          rw [← efr]
          have s03 := Same.trans s02 s3
          generalize upd H2 e0 (.lst []) = H3 at s3 s03 ⊢
      all_goals
        refine ⟨_, rfl, freeOf (par B dn n) S (S.jo i), rfl, ?_⟩
        cases hfr : freeOf (par B dn n) S (S.jo i)
        case' true =>
          refine iteT ⟨_, rfl, A.jd i, _, rfl, tk_lower (s03 _ _ hj), ?_⟩
        case' false =>
          refine iteF ?_
        all_goals
          refine ⟨_, rfl, A.jd i, _, rfl, tk_kind (s03 _ _ hj), rfl, _, rfl, ?_⟩
          rw [kind_down]
          cases hdn : dn
          · refine iteF ⟨_, rfl, ?_⟩
            first
              | exact w2 _ _ _ none s03 (by rw [hgo, hfr, hdn]; rfl)
              | exact w2 _ _ _ (some (S.jo i).lo) s03 (by rw [hgo, hfr, hdn]; rfl)
          · exact iteT ⟨_, rfl, A.jd i, _, rfl, tk_upper (s03 _ _ hj), w2 _ _ _ (some (S.jo i).up) s03 (by rw [hgo, hdn]; rfl)⟩
end
end K20W
end
/-! V10 -/
section
set_option Elab.async false
set_option linter.all false
set_option maxRecDepth 100000
set_option maxHeartbeats 4000000
/-! stepped. -/
namespace K20W
open PySem L2 K20
theorem Gw.back {τ τ' : Addr → Int} {H H2 : Hp} (k : Kp τ H H2) (g : Gw τ τ' H2) : Gw τ τ' H := fun a ha => by
  by_cases e : τ a = 0
  · exact .inr (k.free ((g a ha).resolve_left fun z => z e) e)
  · exact .inl e
section
variable {dn : Bool} {n : Nat} {H H' : Hp} {p : Addr} {A : Ad} {S : Vs} {D : Du} {τ : Addr → Int}
theorem SA.setj (Y : SA dn n H p A S D τ) {i : Int} (hi : i ∈ S.jk) {x x0 : Jb} {ma na : Addr} {sv sv0 : V} {k0 : Str} (hj : H (A.jd i) = some (.dK (tkv k0 x0 ma na sv0))) (hm : H ma = some (.tup [])) (hn : H na = some (.lst (x.noted.map V.int))) (tn : τ na = 8) (hv : SeenV H sv x.seen) :
    SA dn n (upd H (A.jd i) (.dK (tkv (kindS dn) x ma na sv))) p A { S with jo := fupd S.jo i x } D τ ∧ Kp τ H (upd H (A.jd i) (.dK (tkv (kindS dn) x ma na sv))) := by
  obtain ⟨h1, R⟩ := Y
  have tj := R.tjd i hi
  have ny : p ≠ A.jd i := tag_ne R.tp tj.1 (by omega)
  have nm : ma ≠ A.jd i := ne_of hm hj (by intro z; cases z)
  have nn : na ≠ A.jd i := ne_of hn hj (by intro z; cases z)
  exact ⟨⟨by rw [upd_ne ny]; exact h1, R.job (TaskAt.stays dn) hi (Ch.wr tj.1 hj isT_dK) ⟨ma, na, sv, upd_same, by rw [upd_ne nm]; exact hm, by rw [upd_ne nn]; exact hn, tn, hv.stay fun t xs z => by rw [upd_ne (ne_of z hj (by intro z; cases z))]; exact z⟩ (R.live.wr _ _)⟩, (Kp.refl τ H).wr (by rw [tj.1]; omega) hj isT_dK⟩
theorem SA.endj (Y : SA dn n H p A S D τ) (i : Int) :
    SA dn n (upd H A.j (.dK (dropK (dI (fun x => .ref (A.jd x)) S.jk) (Sum.inl i)))) p A (dropJ S i) D τ ∧ Kp τ H (upd H A.j (.dK (dropK (dI (fun x => .ref (A.jd x)) S.jk) (Sum.inl i)))) := by
  obtain ⟨h1, R⟩ := Y
  rw [dI_drop]
  have yo : p ≠ A.j := tag_ne R.tp R.tj (by decide)
  exact ⟨⟨by rw [upd_ne yo]; exact h1, R.ends (TaskAt.stays dn) (Ch.wr R.tj R.hj isT_dK) (fun x hx => (List.mem_filter.mp hx).1) upd_same (R.live.wr _ _)⟩, (Kp.refl τ H).wr (by rw [R.tj]; decide) R.hj isT_dK⟩
theorem SA.deadj (Y : SA dn n H p A S D τ) {i : Int} {a : Addr} (hi : i ∉ S.jk) (i0 : 0 ≤ i) (ta : τ a = 11 + 2 * i) {u o : HO} (hu : H a = some u) (nt : ¬ isT u) : SA dn n (upd H a o) p A S D τ ∧ Kp τ H (upd H a o) := by
  obtain ⟨h1, R⟩ := Y
  have ny : p ≠ a := tag_ne R.tp ta (by omega)
  have hj : ∀ j ∈ S.jk, 11 + 2 * i ≠ 11 + 2 * j := fun j hj e => hi ((show j = i by omega) ▸ hj)
  exact ⟨⟨by rw [upd_ne ny]; exact h1, R.other (TaskAt.stays dn) (Ch.wr ta hu nt) (by omega) (fun x hx => by omega) hj (R.live.wr _ _)⟩, (Kp.refl τ H).wr (by rw [ta]; omega) hu nt⟩
end
section
variable {P : Program} {w : World} {K : PySem.W.Frag} {mg : Str → Option Value} {base : Heap} {f CY CB CJ : Addr} {fd : FuncData}
def spLStepped : Sp := fun vs H Q _ => ∃ (fa p ba fn : Addr) (dn : Bool) (n : Nat) (A : Ad) (S : Vs) (D : Du) (τ : Addr → Int) (B : BookR) (i : Int), vs = [.ref fa, .ref p, .int i] ∧ SA dn n H p A S D τ ∧ H fa = some (.dK (fkv B ba fn)) ∧ H ba = some (.lst (B.bars.map V.str)) ∧ H fn = some (.lst (B.notes.map V.str)) ∧ τ fa = 0 ∧ (B.finish = "one" ∨ B.finish = "link") ∧ (dn = true → B.down ≠ "blind") ∧ i ∈ S.jk ∧ Good (par B dn n) S D ∧ n ≤ 40 ∧
  ∀ o' dd H' τ', SA dn n H' p { A with o := o', dd := dd } (stepS (par B dn n) S i) (stepD (par B dn n) S D i) τ' → Kp τ H H' → Gw τ τ' H → Q (.str (wordS (wordOf (par B dn n) (S.jo i)))) H'
theorem ok_lstepped (Bt : Blt mg) (g1 : Gd P w K mg base "_law_copied" 1 ["_law_fields", "_law_sheet", "_law_task"] spLCopied) (g2 : Gd P w K mg base "_law_linked" 2 ["_law_fields", "_law_sheet", "_law_task"] spLLinked) (g3 : Gd P w K mg base "_law_cut" 2 ["_law_fields", "_law_sheet", "_law_task"] spLCut)
    (F : Fu K "_law_stepped" "_law_stepped" (top 73) f fd) : FnOk P w K mg base CX0 3 f fd ["_law_fields", "_law_sheet", "_law_number"] spLStepped := by
  have sc : FnScope ["_law_fields", "_law_sheet", "_law_number", "_law_jobs", "_law_task", "_law_is_lost", "_law_word"] ["_law_fields", "_law_sheet", "_law_number"] (defScope (top 73)) := ⟨rfl, rfl, rfl, by decide +kernel, rfl, by decide +kernel, by decide +kernel⟩
  obtain ⟨f1, d1, G1, e1, k1, b1⟩ := g1
  obtain ⟨f2, d2, G2, e2, k2, b2⟩ := g2
  obtain ⟨f3, d3, G3, e3, k3, b3⟩ := g3
  refine F.ok sc (fun vs H Q E h => ?_) (fun cdv Ar outer s H vs Q E hr h => ?_)
  · obtain ⟨fa, p, _, _, _, _, _, _, _, _, _, _, rfl, _⟩ := h
    rfl
  · obtain ⟨fa, p, ba, fn, dn, n, A, S, D, τ, B, i, rfl, Y, hf, hba, hfn, t0f, hfi, nbl, hi, G, n40, q⟩ := h
    have hu := hu_of hr
    have hr1 : Room 1 _ := hr.mono (by decide)
    obtain ⟨h1, R⟩ := id Y
    obtain ⟨ma, na, sv, hj, hma, hna, tna, hsv⟩ := R.hjd i hi
    have BS : Base n S := G.ba
    have JO := G.jb i hi
    refine ⟨_, pss_cons (ps_par (i := 3) (j := 4) (by rfl) sc.nd rfl rfl (by decide) rfl rfl (pa_cons (pe_dget hu (pv 1) pe_str (fun _ _ => rfl)) (pa_cons (pe_dget hu (pe_dget hu (pv 1) pe_str (fun _ _ => rfl)) (pv 2) (fun _ _ => rfl)) pa_nil)) rfl)
      (pss_cons (ps_set (i := 5) sc.nd rfl (.inl rfl) (pe_or (pe_cmp (pc_dnotin hu (pe_dget hu (pv 4) pe_str (fun _ _ => rfl)) (pe_dget hu (pv 1) pe_str (fun _ _ => rfl)))) (pe_one (pe_cmp (pc_dnotin hu (pe_dget hu (pv 4) pe_str (fun _ _ => rfl)) (pe_dget hu (pv 1) pe_str (fun _ _ => rfl)))))))
      (pss_cons (ps_if (PW.pt (pw_and (pt_val (pv 5)) (pw_and1 pt_never))) pss_never pss_nil)
      (pss_cons (ps_if (PW.pt (pw_or (pt_cmp (pc_notN (pe_dget hu (pv 4) pe_str (fun _ _ => rfl)))) (pw_or (pt_cmpR (op_neD hr.units) (pe_dget hu (pv 4) pe_str (fun _ _ => rfl)) (pe_tup pa_nil) (nomark _)) (pw_or1 (pt_cmpR op_lt (pe_dget hu (pv 4) pe_str (fun _ _ => rfl)) (pe_dget hu (pv 1) pe_str (fun _ _ => rfl)) (nomark _))))))
        (pss_one (ps_ret (pe_call G1 hr1 rfl e1 k1 b1 .nil pass0 (pa_cons (pv 0) (pa_cons (pv 1) (pa_cons (pv 4) pa_nil)))))) pss_nil)
      (pss_cons (ps_set (i := 6) sc.nd rfl (.inl rfl) (pe_dget hu (pe_disp (pps_cons pe_str pe_str (pps_cons pe_str pe_str (pps_cons pe_str pe_str pps_nil))) rfl rfl (by decide) (by decide)) (pe_dget hu (pv 0) pe_str (fun _ _ => rfl)) (fun _ _ => rfl)))
      (pss_cons (ps_if (PW.pt (pw_and (pt_cmpR op_ne (pv 6) pe_str (nomark _)) (pw_and1 (pt_val (pe_dget hu (pv 4) pe_str (fun _ _ => rfl)))))) (pss_one (ps_set (i := 6) sc.nd rfl (.inl rfl) (pe_ifExp (pt_cmpR op_eq (pv 6) pe_str (nomark _)) pe_str pe_str))) pss_nil)
      (pss_cons (ps_if (pt_cmpR op_ne (pv 6) pe_str (nomark _)) (pss_one (ps_expr (pe_call G2 hr rfl e2 k2 b2 .nil pass0 (pa_cons (pv 0) (pa_cons (pv 1) (pa_cons (pv 4) pa_nil)))))) pss_nil)
      (pss_cons (ps_if (pt_cmpR op_ne (pv 6) pe_str (nomark _)) (pss_one (ps_expr (pe_call G3 hr rfl e3 k3 b3 .nil pass0 (pa_cons (pv 0) (pa_cons (pv 1) (pa_cons (pv 4) pa_nil)))))) pss_nil)
      (pss_cons (ps_if (PW.pt (pw_or (pt_cmpR op_eq (pv 6) pe_str (nomark _)) (pw_or1 (pt_val (pe_dget hu (pv 4) pe_str (fun _ _ => rfl)))))) (pss_one (ps_expr (pe_dpop1 (pv 3) (pv 2) ⟨rfl, rfl, rfl, rfl⟩))) pss_nil)
      (pss_cons (ps_dput hu (pv 4) pe_str pe_bl rfl) (pss_one (ps_ret (pv 6)))))))))))), ?_⟩
    refine ⟨_, rfl, p, _, rfl, sk_jobs h1, _, rfl, p, _, rfl, sk_jobs h1, _, rfl, A.j, _, rfl, dI_get R.hj hi, ?_⟩
    have U0 : DGet H A.o (.int (S.jo i).up) (some (.ref (A.od (S.jo i).up))) := dI_get R.ho JO.uo
    have L0 : DGet H A.o (.int (S.jo i).lo) (some (.ref (A.od (S.jo i).lo))) := dI_get R.ho JO.lo
    have tji := R.tjd i hi
    have tou := R.tod _ JO.uo
    have tol := R.tod _ JO.lo
    have ne := JO.ne
    refine ⟨_, _, rfl, ?_⟩
    refine ⟨_, rfl, A.jd i, _, rfl, tk_upper hj, _, rfl, p, _, rfl, sk_owned h1, A.o, _, rfl, U0, false, rfl, iteF ?_⟩
    refine ⟨_, rfl, A.jd i, _, rfl, tk_lower hj, _, rfl, p, _, rfl, sk_owned h1, A.o, _, rfl, L0, ?_⟩
    refine ⟨_, rfl, false, rfl, iteF (iteF ?_)⟩
    -- a copy
    have cpy : (S.jo i).pl < n → ∀ (H1 H' : Hp) (sv' : V) (ma' : Addr), Same H H1 → SeenV H' sv' (copiedJ (par B dn n) (S.jo i) (S.ow (S.jo i).up) (S.ow (S.jo i).lo)).seen → H' (A.jd i) = some (.dK (tkv (kindS dn) (copiedJ (par B dn n) (S.jo i) (S.ow (S.jo i).up) (S.ow (S.jo i).lo)) ma' na sv')) → H' ma' = some (.tup []) →
        H' (A.od (S.jo i).up) = some (.dK (rowV (copiedU (par B dn n) (S.jo i) (S.ow (S.jo i).up) (S.ow (S.jo i).lo)))) → H' (A.od (S.jo i).lo) = some (.dK (rowV (copiedL (par B dn n) (S.jo i) (S.ow (S.jo i).up) (S.ow (S.jo i).lo)))) →
        (∀ b o, H1 b = some o → b ≠ A.jd i → b ≠ A.od (S.jo i).up → b ≠ A.od (S.jo i).lo → H' b = some o) → Q (.str (wordS (wordOf (par B dn n) (S.jo i)))) H' := fun hpl H1 H' sv' ma' s1 c1 c2 cm c3 c4 c5 => by
      obtain ⟨R', k'⟩ := R.copyd (H' := H') (TaskAt.stays dn) hi JO.uo JO.lo ne (fun o e z => by rw [hj] at e; cases e; exact isT_dK z) (fun b o hb => c5 b o (s1 _ _ hb))
        ⟨ma', na, sv', c2, cm, by
          have e : (copiedJ (par B dn n) (S.jo i) (S.ow (S.jo i).up) (S.ow (S.jo i).lo)).noted = (S.jo i).noted := by
            unfold copiedJ
            cases (S.jo i).seen with
            | some p => rfl
            | none => by_cases e : (par B dn n).one = true <;> simp [e]
          rw [e]
          exact c5 _ _ (s1 _ _ hna) (ne_of hna hj (by intro z; cases z)) (ne_of hna (R.hod _ JO.uo) (by intro z; cases z)) (ne_of hna (R.hod _ JO.lo) (by intro z; cases z)), tna, c1⟩ (some_ne c2) c3 c4
      have ny : p ≠ A.jd i ∧ p ≠ A.od (S.jo i).up ∧ p ≠ A.od (S.jo i).lo := ⟨tag_ne R.tp tji.1 (by omega), tag_ne R.tp tou.1 (by omega), tag_ne R.tp tol.1 (by omega)⟩
      have ec : copies (par B dn n) (S.jo i) = true := by
        unfold copies
        rw [show decide ((S.jo i).pl < (par B dn n).n) = true from decide_eq_true hpl, Bool.or_true]
      have eS : stepS (par B dn n) S i = copyS (par B dn n) S i := if_pos ec
      have eD : stepD (par B dn n) S D i = D := if_pos ec
      have := q A.o A.dd H' τ
      rw [eS, eD] at this
      exact this ⟨c5 _ _ (s1 _ _ h1) ny.1 ny.2.1 ny.2.2, R'⟩ k' (Gw.refl τ H)
    -- the call of a copy
    have call : (S.jo i).pl < n → ∀ H1, Same H H1 → spLCopied [.ref fa, .ref p, .ref (A.jd i)] H1 Q E := fun hpl H1 s1 => by
      have f0 : ∀ {t : Int} {b : Addr}, τ b = t → t ≠ 0 → fa ≠ b := fun h h2 => tag_ne t0f h (fun e => h2 e.symm)
      exact ⟨fa, p, A.jd i, dn, n, A, S.jo i, ma, na, sv, S, B, rfl, s1 _ _ h1, ⟨ba, fn, s1 _ _ hf, s1 _ _ hba, s1 _ _ hfn⟩, nbl, s1 _ _ hj, s1 _ _ hma, hsv.stay fun t xs z => s1 _ _ z,
        ⟨s1 _ _ R.ho, JO.uo, JO.lo, rfl, rfl, s1 _ _ (R.hod _ JO.uo), s1 _ _ (R.hod _ JO.lo)⟩, tag_ne tou.1 tol.1 (by omega), tag_ne tji.1 tou.1 (by omega), tag_ne tji.1 tol.1 (by omega), tag_ne R.tp tji.1 (by omega), tag_ne R.to tji.1 (by omega), tag_ne R.tp tou.1 (by omega), tag_ne R.tp tol.1 (by omega), tag_ne R.to tou.1 (by omega), tag_ne R.to tol.1 (by omega), f0 tji.1 (by omega), f0 tou.1 (by omega), f0 tol.1 (by omega),
        Nat.le_trans (row_len (BS.ro _ JO.uo)) (by omega), Nat.le_trans (row_len (BS.ro _ JO.lo)) (by omega), hpl, fun h => by
          cases e : (S.jo i).seen with
          | none => rw [e] at h; cases h
          | some p => exact (JO.sn p.1 p.2 e).1,
        fun sv' ma' H' c1 c2 cm c3 c4 c5 => cpy hpl H1 H' sv' ma' s1 c1 c2 cm c3 c4 c5⟩
    -- the end of a task
    have ended : ∀ (o' : Addr) (dd : Int → Addr) (S3 : Vs) (D3 : Du) (H3 : Hp) (τ3 : Addr → Int), SA dn n H3 p { A with o := o', dd := dd } S3 D3 τ3 → S3.jk = S.jk → S3.jo = S.jo → S3.bg = S.bg → ∃ ma3 na3 sv3, H3 p = some (.dK (skv n { A with o := o', dd := dd } S.bg)) ∧ H3 (A.jd i) = some (.dK (tkv (kindS dn) (S.jo i) ma3 na3 sv3)) ∧
        H3 A.j = some (.dK (dI (fun x => .ref (A.jd x)) S.jk)) ∧ (upd H3 A.j (.dK (dropK (dI (fun x => .ref (A.jd x)) S.jk) (Sum.inl i)))) (A.jd i) = some (.dK (tkv (kindS dn) (S.jo i) ma3 na3 sv3)) ∧
        ∀ o, SA dn n (upd (upd H3 A.j (.dK (dropK (dI (fun x => .ref (A.jd x)) S.jk) (Sum.inl i)))) (A.jd i) o) p { A with o := o', dd := dd } (dropJ S3 i) D3 τ3 ∧ Kp τ3 H3 (upd (upd H3 A.j (.dK (dropK (dI (fun x => .ref (A.jd x)) S.jk) (Sum.inl i)))) (A.jd i) o) := fun o' dd S3 D3 H3 τ3 Y3 ejk ejo ebg => by
      obtain ⟨g1, R3⟩ := id Y3
      obtain ⟨ma3, na3, sv3, g2, _⟩ := R3.hjd i (by rw [ejk]; exact hi)
      have g2 : H3 (A.jd i) = some (.dK (tkv (kindS dn) (S3.jo i) ma3 na3 sv3)) := g2
      have g3 := R3.hj
      have g3 : H3 A.j = some (.dK (dI (fun x => .ref (A.jd x)) S3.jk)) := g3
      rw [ejk] at g3
      rw [ejo] at g2
      rw [ebg] at g1
      have nj : A.jd i ≠ A.j := tag_ne tji.1 R.tj (by omega)
      have g4 : (upd H3 A.j (.dK (dropK (dI (fun x => .ref (A.jd x)) S.jk) (Sum.inl i)))) (A.jd i) = some (.dK (tkv (kindS dn) (S.jo i) ma3 na3 sv3)) := by rw [upd_ne nj]; exact g2
      refine ⟨ma3, na3, sv3, g1, g2, g3, g4, fun o => ?_⟩
      obtain ⟨Y4, k4⟩ := Y3.endj i
      have Y4 : SA dn n (upd H3 A.j (.dK (dropK (dI (fun x => .ref (A.jd x)) S3.jk) (Sum.inl i)))) p { A with o := o', dd := dd } (dropJ S3 i) D3 τ3 := Y4
      have k4 : Kp τ3 H3 (upd H3 A.j (.dK (dropK (dI (fun x => .ref (A.jd x)) S3.jk) (Sum.inl i)))) := k4
      rw [ejk] at Y4 k4
      obtain ⟨Y5, k5⟩ := Y4.deadj (o := o) (i := i) (fun z => (mem_drop z).2 rfl) tji.2 (show τ3 (A.jd i) = _ from (R3.tjd i (by rw [ejk]; exact hi)).1) g4 isT_dK
      exact ⟨Y5, Kp.trans k4 (Gw.refl τ3 H3) k5⟩
    have word_ne : ∀ (a b : Str), (!decide (V.str a = V.str b)) = !decide (a = b) := fun a b => by rw [vstr]
    refine ⟨_, rfl, A.jd i, _, rfl, tk_seen hj, ?_⟩
    by_cases hpl : (S.jo i).pl < n
    · cases es : (S.jo i).seen with
      | some pq =>
        have e2 : ∃ t, sv = .ref t := by
          rw [es] at hsv
          obtain ⟨t, e2, _⟩ := hsv
          exact ⟨t, e2⟩
        obtain ⟨t, rfl⟩ := e2
        exact ⟨true, rfl, iteT (iteT ⟨_, rfl, _, rfl, _, rfl, call hpl H (Same.refl _)⟩)⟩
      | none =>
        have e2 : sv = .non := by rw [es] at hsv; exact hsv
        subst e2
        refine ⟨false, rfl, iteF ⟨_, rfl, A.jd i, _, rfl, tk_marks hj, (show 0 ≤ sizeLine from Nat.zero_le _), fun e0 he0 => ?_⟩⟩
        have s1 : Same H (upd H e0 (.tup [])) := Same.newS (Same.refl _) he0
        refine ⟨_, _, .tup (SqT.of (s1 _ _ hma)) (dpAll_ints K _ []), .tup (SqT.of upd_same) (dpAll_ints K _ []), shaped_ints [], shaped_ints [], _, rfl, iteF ?_⟩
        generalize upd H e0 (.tup []) = H1 at s1 ⊢
        refine ⟨_, rfl, A.jd i, _, rfl, tk_place (s1 _ _ hj), _, rfl, p, _, rfl, sk_cells (s1 _ _ h1), _, _, rfl, rfl, _, rfl, ?_⟩
        rw [decide_eq_true hpl]
        exact iteT ⟨_, rfl, _, rfl, _, rfl, call hpl H1 s1⟩
    · have es : (S.jo i).seen = none := by
        cases e : (S.jo i).seen with
        | none => rfl
        | some p => exact (hpl (JO.sp (by rw [e]; rfl))).elim
      have e2 : sv = .non := by rw [es] at hsv; exact hsv
      subst e2
      have ec : copies (par B dn n) (S.jo i) = false := by
        unfold copies
        rw [es, show decide ((S.jo i).pl < (par B dn n).n) = false from decide_eq_false hpl]
        rfl
      have ew : wordOf (par B dn n) (S.jo i) = if (par B dn n).lnk then (if (S.jo i).half then .cut else .link) else .both := by
        unfold wordOf
        rw [es]
        exact if_neg hpl
      have eS : stepS (par B dn n) S i = if (par B dn n).lnk then (if (S.jo i).half then dropJ (K20.cutS (par B dn n) S (S.jo i)) i else halfJ (linkS (par B dn n) S (S.jo i)) i) else dropJ (K20.cutS (par B dn n) (linkS (par B dn n) S (S.jo i)) (S.jo i)) i := by
        unfold stepS
        rw [ec]
        rfl
      have eD : stepD (par B dn n) S D i = if ((par B dn n).lnk && (S.jo i).half) = true then D else linkD (par B dn n) S D (S.jo i) := by
        unfold stepD
        rw [ec]
        rfl
      refine ⟨false, rfl, iteF ⟨_, rfl, A.jd i, _, rfl, tk_marks hj, (show 0 ≤ sizeLine from Nat.zero_le _), fun e0 he0 => ?_⟩⟩
      have s1 : Same H (upd H e0 (.tup [])) := Same.newS (Same.refl _) he0
      refine ⟨_, _, .tup (SqT.of (s1 _ _ hma)) (dpAll_ints K _ []), .tup (SqT.of upd_same) (dpAll_ints K _ []), shaped_ints [], shaped_ints [], _, rfl, iteF ?_⟩
      generalize upd H e0 (.tup []) = H1 at s1 ⊢
      refine ⟨_, rfl, A.jd i, _, rfl, tk_place (s1 _ _ hj), _, rfl, p, _, rfl, sk_cells (s1 _ _ h1), _, _, rfl, rfl, _, rfl, ?_⟩
      rw [decide_eq_false hpl]
      refine iteF ?_
      intro w0 hw0
      refine ⟨upd_same, [(Sum.inr "one", .str "both"), (Sum.inr "link", .str "link"), (Sum.inr "cut", .str "cut")], rfl, le15 rfl, ?_⟩
      have sw : Same H1 (upd (upd H1 w0 (.dK [])) w0 (.dK (mergeK [] [(Sum.inr "one", .str "both"), (Sum.inr "link", .str "link"), (Sum.inr "cut", .str "cut")]))) := fun b o hb' => by
        rw [upd_ne (ne_of_none hb' hw0), upd_ne (ne_of_none hb' hw0)]
        exact hb'
      have vw : (upd (upd H1 w0 (.dK [])) w0 (.dK (mergeK [] [(Sum.inr "one", .str "both"), (Sum.inr "link", .str "link"), (Sum.inr "cut", .str "cut")]))) w0 = some (.dK [(Sum.inr "one", .str "both"), (Sum.inr "link", .str "link"), (Sum.inr "cut", .str "cut")]) := upd_same
      generalize upd (upd H1 w0 (.dK [])) w0 (.dK (mergeK [] [(Sum.inr "one", .str "both"), (Sum.inr "link", .str "link"), (Sum.inr "cut", .str "cut")])) = H2 at sw vw ⊢
      have s2 := Same.trans s1 sw
      have Y2 := Y.same s2
      have k2 : Kp τ H H2 := Kp.of_same s2
      have hj2 := s2 _ _ hj
      have hf2 := s2 _ _ hf
      refine ⟨_, rfl, fa, _, rfl, fk_finish hf2, ?_⟩
      have hin : (valV (dI (fun x => V.ref (A.jd x)) S.jk) (Sum.inl i)).isSome = true := by rw [dI_in hi]; rfl
      have hinv : valV (dI (fun x => V.ref (A.jd x)) S.jk) (Sum.inl i) = some (.ref (A.jd i)) := dI_in hi
      rcases hfi with hfi | hfi
      · have hl : (par B dn n).lnk = false := decide_eq_false fun e => one_link (hfi.symm.trans e)
        have hhf : (S.jo i).half = false := by
          cases e : (S.jo i).half with
          | false => rfl
          | true =>
            have := JO.hf e
            rw [hl] at this
            cases this
        have q := q
        rw [ew, eS, eD, hl] at q
        rw [hfi]
        refine ⟨w0, _, rfl, DGet.k (k := Sum.inr "one") vw, ?_⟩
        refine ⟨_, rfl, rfl, _, rfl, ?_⟩
        rw [word_ne, decide_eq_true rfl]
        refine iteF (iteF ⟨_, rfl, rfl, _, rfl, ?_⟩)
        rw [word_ne, decide_eq_false (by decide +kernel)]
        refine iteT ⟨_, rfl, _, rfl, _, rfl, fa, p, ba, fn, dn, n, A, S, D, τ, B, i, rfl, Y2, hf2, t0f, hi, G, hhf, fun dd H3 Y3 k3 => ?_⟩
        have k13 := Kp.trans k2 (Gw.refl τ H) k3
        have hf3 : H3 fa = some (.dK (fkv B ba fn)) := k3 _ _ hf2 fun z => (z t0f).elim
        refine ⟨_, rfl, rfl, _, rfl, ?_⟩
        rw [word_ne, decide_eq_false (by decide +kernel)]
        refine iteT ⟨_, rfl, _, rfl, _, rfl, fa, p, ba, fn, dn, n, { A with dd := dd }, linkS (par B dn n) S (S.jo i), linkD (par B dn n) S D (S.jo i), τ, B, i, rfl, Y3, hf3, by rw [link_jk]; exact hi, by rw [link_jo, link_ok]; exact JO.uo, by rw [link_jo, link_ok]; exact JO.lo, G.link_base hi hhf, fun o' H4 τ4 Y4 k4 w4 => ?_⟩
        rw [link_jo] at Y4
        obtain ⟨ma3, na3, sv3, a1, a2, a3, a4, a5⟩ := ended o' dd _ _ H4 τ4 Y4 (link_jk _) (link_jo _) (link_bg _)
        refine ⟨_, rfl, rfl, _, rfl, ?_⟩
        rw [vstr, decide_eq_true rfl]
        refine iteT (iteT ⟨_, rfl, A.j, rfl, .inl ⟨_, .inl a3⟩, _, rfl, _, Sum.inl i, _, a3, rfl, hinv, ?_⟩)
        refine ⟨_, rfl, A.jd i, _, rfl, tk_set a4 "half" (.bl true), ?_⟩
        obtain ⟨Y5, k5⟩ := a5 (.dK (putK (tkv (kindS dn) (S.jo i) ma3 na3 sv3) (Sum.inr "half") (.bl true)))
        have g4 : Gw τ τ4 H := Gw.back k13 w4
        exact ⟨_, rfl, q o' dd _ τ4 Y5 (Kp.trans (Kp.trans k13 (Gw.refl τ H) k4) g4 k5) g4⟩
      · have hl : (par B dn n).lnk = true := decide_eq_true hfi
        have q := q
        rw [ew, eS, eD, hl] at q
        rw [hfi]
        refine ⟨w0, _, rfl, DGet.k (k := Sum.inr "link") vw, ?_⟩
        refine ⟨_, rfl, rfl, _, rfl, ?_⟩
        rw [word_ne, decide_eq_false (by decide +kernel)]
        refine iteT ⟨_, rfl, A.jd i, _, rfl, tk_half hj2, (S.jo i).half, rfl, ?_⟩
        cases hhf : (S.jo i).half with
        | false =>
          rw [hhf] at q
          refine iteF ⟨_, rfl, rfl, _, rfl, ?_⟩
          rw [word_ne, decide_eq_false (by decide +kernel)]
          refine iteT ⟨_, rfl, _, rfl, _, rfl, fa, p, ba, fn, dn, n, A, S, D, τ, B, i, rfl, Y2, hf2, t0f, hi, G, hhf, fun dd H3 Y3 k3 => ?_⟩
          have k13 := Kp.trans k2 (Gw.refl τ H) k3
          refine ⟨_, rfl, rfl, _, rfl, ?_⟩
          rw [word_ne, decide_eq_true rfl]
          refine iteF ⟨_, rfl, rfl, _, rfl, ?_⟩
          rw [vstr, decide_eq_false (by decide +kernel)]
          obtain ⟨ma3, na3, sv3, a2, a3, a4, a6, a7⟩ := Y3.re.hjd i (by rw [link_jk]; exact hi)
          rw [link_jo] at a2 a4 a7
          have a2 : H3 (A.jd i) = some (.dK (tkv (kindS dn) (S.jo i) ma3 na3 sv3)) := a2
          refine iteF ⟨_, rfl, A.jd i, _, rfl, tk_half a2, (S.jo i).half, rfl, ?_⟩
          rw [hhf]
          refine iteF ⟨_, rfl, A.jd i, _, rfl, tk_set a2 "half" (.bl true), ?_⟩
          rw [tk_put_half]
          obtain ⟨Y5, k5⟩ := Y3.setj (x := { S.jo i with half := true }) (by rw [link_jk]; exact hi) a2 a3 a4 a6 a7
          refine ⟨_, rfl, q A.o dd _ τ ?_ (Kp.trans k13 (Gw.refl τ H) k5) (Gw.refl τ H)⟩
          have e : halfJ (linkS (par B dn n) S (S.jo i)) i = { linkS (par B dn n) S (S.jo i) with jo := fupd (linkS (par B dn n) S (S.jo i)).jo i { S.jo i with half := true } } := by
            unfold halfJ
            rw [link_jo]
          show SA dn n _ p { A with dd := dd } (halfJ (linkS (par B dn n) S (S.jo i)) i) (linkD (par B dn n) S D (S.jo i)) τ
          rw [e]
          exact Y5
        | true =>
          rw [hhf] at q
          refine iteT ⟨_, rfl, rfl, _, rfl, ?_⟩
          rw [vstr, decide_eq_true rfl]
          refine iteT ⟨_, rfl, rfl, _, rfl, ?_⟩
          rw [word_ne, decide_eq_true rfl]
          refine iteF ⟨_, rfl, rfl, _, rfl, ?_⟩
          rw [word_ne, decide_eq_false (by decide +kernel)]
          refine iteT ⟨_, rfl, _, rfl, _, rfl, fa, p, ba, fn, dn, n, A, S, D, τ, B, i, rfl, Y2, hf2, hi, JO.uo, JO.lo, BS, fun o' H4 τ4 Y4 k4 w4 => ?_⟩
          obtain ⟨ma3, na3, sv3, a1, a2, a3, a4, a5⟩ := ended o' A.dd _ _ H4 τ4 Y4 rfl rfl rfl
          refine ⟨_, rfl, rfl, _, rfl, ?_⟩
          rw [vstr, decide_eq_false (by decide +kernel)]
          refine iteF ⟨_, rfl, A.jd i, _, rfl, tk_half a2, (S.jo i).half, rfl, ?_⟩
          rw [hhf]
          refine iteT ⟨_, rfl, A.j, rfl, .inl ⟨_, .inl a3⟩, _, rfl, _, Sum.inl i, _, a3, rfl, hinv, ?_⟩
          refine ⟨_, rfl, A.jd i, _, rfl, tk_set a4 "half" (.bl true), ?_⟩
          obtain ⟨Y5, k5⟩ := a5 (.dK (putK (tkv (kindS dn) (S.jo i) ma3 na3 sv3) (Sum.inr "half") (.bl true)))
          have g4 : Gw τ τ4 H := Gw.back k2 w4
          exact ⟨_, rfl, q o' A.dd _ τ4 Y5 (Kp.trans (Kp.trans k2 (Gw.refl τ H) k4) g4 k5) g4⟩
end
end K20W
end
/-! V11 -/
section
set_option Elab.async false
set_option linter.all false
set_option maxRecDepth 100000
set_option maxHeartbeats 4000000
/-! A new sheet. -/
namespace K20W
open PySem L2 K20
section
variable {H K K' : Hp} {L : List (Addr × Int)} {q : Addr}
theorem lay1 (s : Same H K) (l : Lay H K L) (hq : K q = none) (t : Int) (o : HO) : Same H (upd K q o) ∧ Same K (upd K q o) ∧ Lay H (upd K q o) ((q, t) :: L) ∧ (upd K q o) q = some o :=
  ⟨Same.newS s hq, Same.newS (Same.refl _) hq, l.add t hq (s.free hq) (by rw [upd_same]; exact fun z => nomatch z) fun a ha => live_upd ha, upd_same⟩
theorem lay0 (s : Same H K) (l : Lay H K L) (hq : K q = none) (o : HO) : Same H (upd K q o) ∧ Same K (upd K q o) ∧ Lay H (upd K q o) L ∧ (upd K q o) q = some o :=
  ⟨Same.newS s hq, Same.newS (Same.refl _) hq, l.keep fun a ha => live_upd ha, upd_same⟩
/-- a new object is written over -/
theorem lay2 (s : Same K K') (hq : K q = none) (l : Lay H K' L) (o : HO) : Same K (upd K' q o) ∧ Off q K' (upd K' q o) ∧ Lay H (upd K' q o) L ∧ (upd K' q o) q = some o :=
  ⟨fun b x h => by
    rw [upd_ne (ne_of_none h hq)]
    exact s _ _ h, Off.upd _, l.keep fun a ha => live_upd ha, upd_same⟩
end
theorem merge1 (v : V) : mergeK [] [(Sum.inl 0, v)] = [(Sum.inl 0, v)] := by kernel_rfl
theorem merge_sk (n : Nat) (A : Ad) (bg : Nat) : mergeK [] (skv n A bg) = skv n A bg := by kernel_rfl
section
variable {P : Program} {w : World} {K : PySem.W.Frag} {mg : Str → Option Value} {base : Heap} {f CY CB CJ : Addr} {fd : FuncData}
def spLNew : Sp := fun vs H Q _ => ∃ n : Nat, vs = [.int n] ∧ 1 ≤ n ∧ n ≤ 40 ∧ ∀ p A H' τ', Same H H' → (∀ dn, SA dn n H' p A (S0 n) D0 τ') → (∀ a, τ' a ≠ 0 → H a = none) → Q (.ref p) H'
theorem ok_lnew (B : Blt mg) (F : Fu K "_law_new_sheet" "_law_new_sheet" (top 57) f fd) : FnOk P w K mg base CX0 1 f fd ["_law_many"] spLNew := by
  have sc : FnScope ["_law_many"] ["_law_many"] (defScope (top 57)) := ⟨rfl, rfl, rfl, by decide +kernel, rfl, by decide +kernel, by decide +kernel⟩
  refine F.ok sc (fun vs H Q E h => ?_) (fun cdv Ar outer s H vs Q E hr h => ?_)
  · obtain ⟨n, rfl, _⟩ := h
    rfl
  · obtain ⟨n, rfl, n1, n40, q⟩ := h
    have hu := hu_of hr
    refine ⟨_, pss_one (ps_ret (pe_disp (pps_cons pe_str (pv 0) (pps_cons pe_str (pe_disp (pps_cons pe_int pe_non pps_nil) rfl rfl (by decide) (by decide)) (pps_cons pe_str (pe_disp (pps_cons pe_int pe_dnewK pps_nil) rfl rfl (by decide) (by decide)) (pps_cons pe_str pe_dnewK (pps_cons pe_str (pe_disp (pps_cons pe_int pe_int pps_nil) rfl rfl (by decide) (by decide)) (pps_cons pe_str (pe_disp (pps_cons pe_int (pe_callTy call_tuple_of rfl B.tuple boot_tuple (pa_cons (pe_op op_rep (pe_lst (pa_cons pe_int pa_nil)) (pv 0)) pa_nil)) pps_nil) rfl rfl (by decide) (by decide)) (pps_cons pe_str pe_dnewK (pps_cons pe_str pe_int pps_nil)))))))) rfl rfl (by decide) (by decide))), ?_⟩
    intro p hp
    obtain ⟨s0, _, l0, g0⟩ := lay1 (Same.refl H) (Lay.nil H) hp 1 (.dK [])
    generalize upd H p (.dK []) = K0 at s0 g0 l0 ⊢
    refine ⟨_, rfl, ?_⟩
    -- bases
    intro pb hpb
    refine ⟨upd_same, [(Sum.inl 0, .non)], rfl, le15 rfl, ?_⟩
    rw [upd_upd, merge1]
    obtain ⟨s1, t1, l1, vb⟩ := lay1 s0 l0 hpb 2 (.dK [(Sum.inl 0, .non)])
    have g1 := t1 _ _ g0
    generalize upd K0 pb (.dK [(Sum.inl 0, .non)]) = K1 at s1 t1 l1 vb g1 ⊢
    -- owned
    intro po hpo
    obtain ⟨s2, t2, l2, vo⟩ := lay1 s1 l1 hpo 3 (.dK [])
    generalize upd K1 po (.dK []) = K2 at s2 t2 l2 vo ⊢
    intro pi hpi
    obtain ⟨s3, t3, l3, vi⟩ := lay1 s2 l2 hpi 10 (.dK [])
    refine ⟨t3 _ _ vo, [(Sum.inl 0, .ref pi)], rfl, le15 rfl, ?_⟩
    rw [merge1]
    have t13 := Same.trans t2 t3
    generalize upd K2 pi (.dK []) = K3 at s3 t3 l3 vi t13 ⊢
    obtain ⟨t4, o4, l4, vo4⟩ := lay2 t13 hpo l3 (.dK [(Sum.inl 0, .ref pi)])
    have s4 := Same.trans s1 t4
    have vi4 := o4 _ _ (l3.apart (t := 10) (u := 3) (by simp) (by simp) (by decide)) vi
    have vb4 := t4 _ _ vb
    have g4 := t4 _ _ g1
    generalize upd K3 po (.dK [(Sum.inl 0, .ref pi)]) = K4 at s4 t4 l4 vo4 vi4 vb4 g4 ⊢
    -- dues
    intro pd hpd
    obtain ⟨s5, t5, l5, vd5⟩ := lay1 s4 l4 hpd 4 (.dK [])
    have vo5 := t5 _ _ vo4
    have vi5 := t5 _ _ vi4
    have vb5 := t5 _ _ vb4
    have g5 := t5 _ _ g4
    generalize upd K4 pd (.dK []) = K5 at s5 t5 l5 vd5 vo5 vi5 vb5 g5 ⊢
    -- seats
    intro ps hps
    refine ⟨upd_same, [(Sum.inl 0, .int 0)], rfl, le15 rfl, ?_⟩
    rw [upd_upd, merge1]
    obtain ⟨s6, t6, l6, vs6⟩ := lay1 s5 l5 hps 5 (.dK [(Sum.inl 0, .int 0)])
    have vd6 := t6 _ _ vd5
    have vo6 := t6 _ _ vo5
    have vi6 := t6 _ _ vi5
    have vb6 := t6 _ _ vb5
    have g6 := t6 _ _ g5
    generalize upd K5 ps (.dK [(Sum.inl 0, .int 0)]) = K6 at s6 t6 l6 vs6 vd6 vo6 vi6 vb6 g6 ⊢
    -- contents
    intro pc hpc
    obtain ⟨s7, t7, l7, vc⟩ := lay1 s6 l6 hpc 6 (.dK [])
    generalize upd K6 pc (.dK []) = K7 at s7 t7 l7 vc ⊢
    have sl : sizeLine ≥ 1000 := by decide
    refine ⟨(show 1 ≤ sizeLine from by decide), fun p1 hp1 => ?_⟩
    obtain ⟨sa, ta, la, va⟩ := lay0 s7 l7 hp1 (.lst [V.int 0])
    have t7a := Same.trans t7 ta
    have ca := ta _ _ vc
    refine ⟨_, rfl, p1, n, [V.int 0], rfl, rfl, upd_same, by omega, by omega, (show 1 * (n : Int).toNat ≤ sizeLine by omega), fun p2 hp2 => ?_⟩
    rw [rep_mul]
    generalize upd K7 p1 (.lst [V.int 0]) = Ka at sa ta la va t7a ca hp2 ⊢
    obtain ⟨sb, tb, lb, vbb⟩ := lay0 sa la hp2 (.lst ((List.replicate n (0 : Int)).map V.int))
    have t7b := Same.trans t7a tb
    have cb := tb _ _ ca
    refine ⟨p2, _, rfl, .inl ⟨SqL.of upd_same, fun p3 hp3 => ?_⟩⟩
    generalize upd Ka p2 (.lst ((List.replicate n (0 : Int)).map V.int)) = Kb at sb tb lb vbb t7b cb hp3 ⊢
    obtain ⟨sc', tc, lc, vt⟩ := lay0 sb lb hp3 (.tup ((List.replicate n (0 : Int)).map V.int))
    have t7c := Same.trans t7b tc
    have cc := tc _ _ cb
    refine ⟨cc, [(Sum.inl 0, .ref p3)], rfl, le15 rfl, ?_⟩
    rw [merge1]
    generalize upd Kb p3 (.tup ((List.replicate n (0 : Int)).map V.int)) = Kc at sc' tc lc vt t7c cc ⊢
    obtain ⟨t8, o8, l8, vc8⟩ := lay2 t7c hpc lc (.dK [(Sum.inl 0, .ref p3)])
    have s8 := Same.trans s6 t8
    have vt8 := o8 _ _ (ne_of vt cc (by intro z; cases z)) vt
    have vs8 := t8 _ _ vs6
    have vd8 := t8 _ _ vd6
    have vo8 := t8 _ _ vo6
    have vi8 := t8 _ _ vi6
    have vb8 := t8 _ _ vb6
    have g8 := t8 _ _ g6
    generalize upd Kc pc (.dK [(Sum.inl 0, .ref p3)]) = K8 at s8 t8 l8 vc8 vt8 vs8 vd8 vo8 vi8 vb8 g8 ⊢
    -- jobs
    intro pj hpj
    obtain ⟨s9, t9, l9, vj9⟩ := lay1 s8 l8 hpj 7 (.dK [])
    have vt9 := t9 _ _ vt8
    have vc9 := t9 _ _ vc8
    have vs9 := t9 _ _ vs8
    have vd9 := t9 _ _ vd8
    have vo9 := t9 _ _ vo8
    have vi9 := t9 _ _ vi8
    have vb9 := t9 _ _ vb8
    have g9 := t9 _ _ g8
    generalize upd K8 pj (.dK []) = K9 at s9 t9 l9 vj9 vt9 vc9 vs9 vd9 vo9 vi9 vb9 g9 ⊢
    refine ⟨g9, skv n ⟨pb, po, pd, ps, pc, pj, fun _ => pi, fun _ => pi, fun _ => p3, fun _ => pi⟩ 0, rfl, le15 rfl, ?_⟩
    rw [merge_sk]
    obtain ⟨tz, oz, lz, gz⟩ := lay2 s9 hp l9 (.dK (skv n ⟨pb, po, pd, ps, pc, pj, fun _ => pi, fun _ => pi, fun _ => p3, fun _ => pi⟩ 0))
    have m1 : (p, (1 : Int)) ∈ [(pj, (7 : Int)), (pc, 6), (ps, 5), (pd, 4), (pi, 10), (po, 3), (pb, 2), (p, 1)] := by simp
    have ap : ∀ {a : Addr} {t : Int}, (a, t) ∈ [(pj, (7 : Int)), (pc, 6), (ps, 5), (pd, 4), (pi, 10), (po, 3), (pb, 2), (p, 1)] → t ≠ 1 → a ≠ p := fun h n => l9.apart h m1 n
    refine q p _ _ _ tz (fun dn => ⟨gz, ?_⟩) fun a ha => lz.fresh ha
    refine ⟨oz _ _ (ap (t := 2) (by simp) (by decide)) vb9, oz _ _ (ap (t := 3) (by simp) (by decide)) vo9, oz _ _ (ap (t := 4) (by simp) (by decide)) vd9, oz _ _ (ap (t := 5) (by simp) (by decide)) vs9, oz _ _ (ap (t := 6) (by simp) (by decide)) vc9, oz _ _ (ap (t := 7) (by simp) (by decide)) vj9,
      fun x hx => oz _ _ (ap (t := 10) (by simp) (by decide)) vi9, fun x hx => (nomatch hx), fun x hx => ?_, fun x hx => (nomatch hx), lz.tag (by simp), lz.tag (by simp), lz.tag (by simp), lz.tag (by simp), lz.tag (by simp), lz.tag (by simp), lz.tag (by simp), fun x hx => ?_, fun x hx => (nomatch hx), lz.live⟩
    · exact oz _ _ (ne_of vt9 g9 (by intro z; cases z)) vt9
    · cases List.mem_singleton.mp hx
      exact ⟨lz.tag (by simp), Int.le_refl 0⟩
end
end K20W
end
/-! V12 -/
section
set_option Elab.async false
set_option linter.all false
set_option maxRecDepth 100000
set_option maxHeartbeats 4000000
/-! A copy of a sheet. -/
namespace K20W
open PySem L2 K20
def forBody : Stmt → List Stmt
  | .For _ _ b _ _ => b
  | _ => []
def nthBody (l : List Stmt) (n : Nat) : List Stmt := match l.drop n with
  | s :: _ => forBody s
  | [] => []
theorem fun_of {ks : List Int} (nd : ks.Nodup) (kvs : List (Int × Addr)) (h : kvs.map (·.1) = ks) : ∃ g : Int → Addr, kvs = ks.map fun k => (k, g k) := by
  subst h
  refine ⟨fun k => (kvs.lookup k).getD 0, ?_⟩
  rw [List.map_map]
  refine (List.map_id _).symm.trans (List.map_congr_left fun p hp => ?_)
  show p = (p.1, (kvs.lookup p.1).getD 0)
  have : kvs.lookup p.1 = some p.2 := by
    induction kvs with
    | nil => cases hp
    | cons q r ih =>
      obtain ⟨b, u⟩ := q
      rw [List.map_cons, List.nodup_cons] at nd
      rw [List.lookup_cons]
      rcases List.mem_cons.mp hp with h | h
      · subst h
        simp
      · have : p.1 ≠ b := fun e => nd.1 (List.mem_map.mpr ⟨p, h, e⟩)
        rw [show (p.1 == b) = false from beq_eq_false_iff_ne.mpr this]
        exact ih nd.2 h
  rw [this]
  rfl
theorem sk_putb (n : Nat) (A : Ad) (bg : Nat) (q : Addr) : putK (skv n A bg) (Sum.inr "bases") (.ref q) = skv n { A with b := q } bg := by kernel_rfl
theorem sk_putd (n : Nat) (A : Ad) (bg : Nat) (q : Addr) : putK (skv n A bg) (Sum.inr "dues") (.ref q) = skv n { A with d := q } bg := by kernel_rfl
theorem sk_puts (n : Nat) (A : Ad) (bg : Nat) (q : Addr) : putK (skv n A bg) (Sum.inr "seats") (.ref q) = skv n { A with s := q } bg := by kernel_rfl
theorem sk_putc (n : Nat) (A : Ad) (bg : Nat) (q : Addr) : putK (skv n A bg) (Sum.inr "contents") (.ref q) = skv n { A with c := q } bg := by kernel_rfl
theorem sk_putj (n : Nat) (A : Ad) (bg : Nat) (q : Addr) : putK (skv n A bg) (Sum.inr "jobs") (.ref q) = skv n { A with j := q } bg := by kernel_rfl
theorem sk_set {H : Hp} {p : Addr} {n : Nat} {A : Ad} {bg : Nat} (h : H p = some (.dK (skv n A bg))) (y : Str) (v : V) : DPut H p (.str y) v (upd H p (.dK (putK (skv n A bg) (Sum.inr y) v))) := DPut.k (k := Sum.inr y) h (small1000 (show 8 ≤ 1000 by decide))
section
variable {P : Program} {w : World} {K : PySem.W.Frag} {mg : Str → Option Value} {base : Heap} {f CY CB CJ : Addr} {fd : FuncData}
/-- new addresses, and the lists that the old one and the new one share -/
def Fr (τ : Addr → Int) (H : Hp) (τ' : Addr → Int) : Prop := ∀ a, τ' a ≠ 0 → H a = none ∨ (τ a = 8 ∧ ∃ xs, H a = some (.lst xs))
open Classical in
theorem share {H H' : Hp} {L : List (Addr × Int)} {τ : Addr → Int} (s : Same H H') (l : Lay H H' L) : ∃ τ' : Addr → Int, (∀ a t, (a, t) ∈ L → τ' a = t) ∧ (∀ a xs, H a = some (.lst xs) → τ a = 8 → τ' a = 8) ∧ Fr τ H τ' ∧ Live τ' H' := by
  refine ⟨fun a => if tagOf L a ≠ 0 then tagOf L a else if τ a = 8 ∧ ∃ xs, H a = some (.lst xs) then 8 else 0, fun a t h => ?_, fun a xs h h8 => ?_, fun a ha => ?_, fun a ha => ?_⟩
  · have e := l.tag h
    show (if tagOf L a ≠ 0 then tagOf L a else _) = t
    by_cases z : tagOf L a = 0
    · have n : H a = none := l.nw _ h
      rw [if_neg (fun w => w z), if_neg (fun ⟨_, xs, w⟩ => by rw [n] at w; cases w), ← e, z]
    · rw [if_pos z]
      exact e
  · show (if tagOf L a ≠ 0 then tagOf L a else _) = 8
    have z : tagOf L a = 0 := Classical.byContradiction fun w => by rw [l.fresh w] at h; cases h
    rw [if_neg (fun w => w z), if_pos ⟨h8, xs, h⟩]
  · by_cases z : tagOf L a = 0
    · right
      refine Classical.byContradiction fun w => ha ?_
      show (if tagOf L a ≠ 0 then tagOf L a else _) = 0
      rw [if_neg (fun w => w z), if_neg w]
    · exact .inl (l.fresh z)
  · by_cases z : tagOf L a = 0
    · have w : τ a = 8 ∧ ∃ xs, H a = some (.lst xs) := Classical.byContradiction fun w => ha (by
        show (if tagOf L a ≠ 0 then tagOf L a else _) = 0
        rw [if_neg (fun w => w z), if_neg w])
      obtain ⟨_, xs, h⟩ := w
      rw [s _ _ h]
      exact fun z => nomatch z
    · exact l.live a z
def spLCopy : Sp := fun vs H Q _ => ∃ (p : Addr) (dn : Bool) (n : Nat) (A : Ad) (S : Vs) (D : Du) (τ : Addr → Int), vs = [.ref p] ∧ SA dn n H p A S D τ ∧ Base n S ∧
  ∀ p' A' H' τ', Same H H' → SA dn n H' p' A' S D τ' → Fr τ H τ' → Q (.ref p') H'
theorem ok_lcopy (Bt : Blt mg) (F : Fu K "_law_copy_of" "_law_copy_of" (top 58) f fd) : FnOk P w K mg base CX0 1 f fd ["_law_sheet"] spLCopy := by
  have sc : FnScope ["_law_sheet", "_law_found", "_law_name", "_law_one"] ["_law_sheet"] (defScope (top 58)) := ⟨rfl, rfl, rfl, by decide +kernel, rfl, by decide +kernel, by decide +kernel⟩
  refine F.ok sc (fun vs H Q E h => ?_) (fun cdv Ar outer s H vs Q E hr h => ?_)
  · obtain ⟨p, _, _, _, _, _, _, rfl, _⟩ := h
    rfl
  · obtain ⟨p0, dn, n, A, S, D, τ, rfl, Y, BS, q⟩ := h
    have hu := hu_of hr
    obtain ⟨h1, R⟩ := id Y
    have bd : ∃ T2, PSs (cxOf CX0 P w K mg base ["_law_sheet", "_law_found", "_law_name", "_law_one"] "_law_copy_of" (defScope (top 58)) f cdv Ar outer s H E).nox (nthBody (defBody (top 58)) 2) T2 ∧
        ∀ (z : Str) (T : Addr) (g : Int → Addr) (ks : List Int) (kv : Int → List (Key × V)) (t0 tT : Int) (H2 : Hp) (L : List (Addr × Int)) (p : Addr) (fv : List (Key × V)) (De : Ends), Same H H2 → Lay H H2 L → (p, 1) ∈ L → H2 p = some (.dK fv) → fv.length ≤ 1000 → H p0 ≠ none → p0 ≠ T →
          (∀ Hx, Hx p0 = some (.dK (skv n A S.bg)) → DGet Hx p0 (.str z) (some (.ref T))) → H T = some (.dK (dI (fun x => .ref (g x)) ks)) → ks.Nodup → ks.length < sizeLine → ks.length ≤ 1000 → (∀ k ∈ ks, H (g k) = some (.dK (kv k)) ∧ g k ≠ T) → (∀ k ∈ ks, t0 + 2 * k ≠ 1) → tT ≠ 1 →
          (∀ (qo : Addr) (g' : Int → Addr) (H3 : Hp) (L' : List (Addr × Int)), Same H H3 → Lay H H3 L' → (∀ x ∈ L, x ∈ L') → (qo, tT) ∈ L' → H3 qo = some (.dK (dI (fun x => .ref (g' x)) ks)) → (∀ k ∈ ks, (g' k, t0 + 2 * k) ∈ L' ∧ H3 (g' k) = some (.dK (kv k))) → Off p H2 H3 → H3 p = some (.dK (putK fv (Sum.inr z) (.ref qo))) →
            De.nx [some (.ref p0), some (.ref p), some (.str z), none] H3) →
          T2 De [some (.ref p0), some (.ref p), some (.str z), none] H2 := by
      refine ⟨_, pss_one (ps_dput hu (pv 1) (pv 2) (pe_callTy (call_dictP rfl) rfl Bt.dict boot_dict (pa_cons (pe_lock (pe_lc (own := [("_law_one", 3)]) (g := gName 3) (te := tTup (tCons (tVar 3) (tCons (tCB (fun xs H Q => ∃ (a : Addr) (kvs : List (Key × V)), xs = [.ref a] ∧ Rd H a (.dK kvs) ∧ ∀ p, H p = none → Q (.ref p) (upd H p (.dK kvs))) (tCons (tDGet (tDGet (tVar 0) (tVar 2)) (tVar 3)) tNil)) tNil))) (by rfl) sc.nd (pi_keys (pe_dget hu (pv 0) (pv 2) (fun _ _ => rfl)))
          (blkOk_by (own := [("_law_one", 3)]) (N := ["_law_sheet", "_law_found", "_law_name", "_law_one"]) (sc := defScope (top 58)) (by decide +kernel))
          (fun _ _ _ _ _ => pg_name (i := 3) sc.nd rfl (Or.inl rfl)) (fun _ _ _ _ _ => pts_nil) (fun _ _ _ _ _ => pe_tup (pa_cons (pv 3) (pa_cons (pe_callTy call_dictD rfl Bt.dict boot_dict (pa_cons (pe_dget hu (pe_dget hu (pv 0) (pv 2) (fun _ _ => rfl)) (pv 3) (fun _ _ => rfl)) pa_nil)) pa_nil))))) pa_nil)) rfl), ?_⟩
      intro z T g ks kv t0 tT H2 L p fv De s2 l2 lp gp hfv hp0 p0T dz hT ksn ksl ks1 hg t01 tT1 nx
      have hT2 := s2 _ _ hT
      refine ⟨T, _, hT2, trivial, fun od => ?_⟩
      have e0 : (upd H2 T (.frz od (.dK (dI (fun x => .ref (g x)) ks)))) T = some (.frz od (.dK (dI (fun x => .ref (g x)) ks))) := upd_same
      have off : Off T H2 (upd H2 T (.frz od (.dK (dI (fun x => .ref (g x)) ks)))) := Off.upd _
      have el : ∀ {a : Addr}, H2 a ≠ none → (upd H2 T (.frz od (.dK (dI (fun x => .ref (g x)) ks)))) a ≠ none := fun h => live_upd h
      have unl : ∀ {Kx : Hp}, Same (upd H2 T (.frz od (.dK (dI (fun x => .ref (g x)) ks)))) Kx → Same H2 (upd Kx T (.dK (dI (fun x => .ref (g x)) ks))) := fun s => Same.unlock hT2 s
      generalize upd H2 T (.frz od (.dK (dI (fun x => .ref (g x)) ks))) = H3 at e0 off el unl ⊢
      have g3 := off _ _ p0T (s2 _ _ h1)
      have from3 : ∀ {Kx : Hp} {a : Addr}, Same H3 Kx → Kx a = none → H2 a = none := fun {Kx a} s ha => by
        cases e : H2 a with
        | none => rfl
        | some o =>
          have z := el (some_ne e)
          cases e2 : H3 a with
          | none => exact (z e2).elim
          | some u =>
            rw [s _ _ e2] at ha
            cases ha
      refine ⟨_, rfl, _, rfl, p0, _, rfl, dz _ g3, T, od, rfl, .inl ⟨_, e0, fun D0 hD0 => ?_⟩⟩
      have wk : Walk (Itk T od (dI (fun x => .ref (g x)) ks)) (ks.map V.int).length (fun H => H T = some (.frz od (.dK (dI (fun x => .ref (g x)) ks)))) (YAt (ks.map V.int)) := by
        have := walk_keysA (d := T) (o := od) (kvs := dI (fun x => .ref (g x)) ks)
        rw [dI_keysV] at this
        exact this
      refine lc_invP wk hD0 ksl (fun _ => true) (fun pre vs Hc => ∃ (L' : List (Addr × Int)) (ps : List Addr) (kvs : List (Int × Addr)), vs = ps.map V.ref ∧ kvs.map (·.1) = pre ∧ Lay H Hc L' ∧ (∀ x ∈ L, x ∈ L') ∧ Paired (fun a (kq : Int × Addr) => Hc a = some (.tup [.int kq.1, .ref kq.2]) ∧ a ≠ D0 ∧ H a = none) ps kvs ∧ ∀ kq ∈ kvs, (kq.2, t0 + 2 * kq.1) ∈ L' ∧ Hc kq.2 = some (.dK (kv kq.1)) ∧ kq.2 ≠ D0 ∧ H kq.2 = none)
        (fun pre vs Hc Hc' ⟨L', ps, kvs, e1, e2, l, a1, pr, a2⟩ of lv => ⟨L', ps, kvs, e1, e2, l.keep fun a ha => ?_, a1, L2.Paired.mapP pr fun a k ⟨x1, x2, x3⟩ => ⟨of _ _ x2 x1, x2, x3⟩, fun kq hk => ?_⟩) ⟨L, [], [], rfl, rfl, (l2.keep (H' := H3) fun a ha => el ha).keep fun a ha => live_upd ha, fun x hx => hx, .nil, fun kq hk => (nomatch hk)⟩ (fun Hc s => s _ _ e0) (fun k Hc hk s Q' hq => hq _ (Same.refl _)) (fun k pre vs Hc hk hp s ⟨xs, hx⟩ ⟨L', ps, kvs, e1, e2, l, a1, pr, a2⟩ Q' hq => ?_) fun Hc vs s hD ⟨L', ps, kvs, e1, e2, l, a1, pr, a2⟩ => ?_
      · by_cases e : a = D0
        · rw [e]
          exact lv
        · cases e2 : Hc a with
          | none => exact (ha e2).elim
          | some u =>
            rw [of a u e e2]
            exact fun z => nomatch z
      · obtain ⟨b1, b2, b3, b4⟩ := a2 kq hk
        exact ⟨b1, of _ _ b3 b2, b3, b4⟩
      · refine ⟨_, rfl, _, rfl, _, rfl, p0, _, rfl, dz _ (s _ _ g3), _, rfl, T, _, rfl, dI_getF (s _ _ e0) hk, g k, kv k, rfl, .inl (s _ _ (off _ _ (hg k hk).2 (s2 _ _ (hg k hk).1))), fun q0 hq0 => ⟨(show 2 ≤ sizeLine from by decide), fun t ht => ?_⟩⟩
        have st : Same Hc (upd (upd Hc q0 (.dK (kv k))) t (.tup [.int k, .ref q0])) := Same.newS (Same.newS (Same.refl _) hq0) ht
        have fq0 : H q0 = none := s2.free (from3 s hq0)
        have tq : t ≠ q0 := fun e => by
          rw [e, upd_same] at ht
          cases ht
        have ht0 : Hc t = none := by
          rw [upd_ne tq] at ht
          exact ht
        have ft : H t = none := s2.free (from3 s ht0)
        have vq : (upd (upd Hc q0 (.dK (kv k))) t (.tup [.int k, .ref q0])) q0 = some (.dK (kv k)) := by rw [upd_ne tq.symm, upd_same]
        refine hq _ _ st ⟨(q0, t0 + 2 * k) :: L', ps ++ [t], kvs ++ [(k, q0)], by rw [e1, List.map_append]; rfl, by rw [List.map_append, e2]; rfl, l.add _ hq0 fq0 (some_ne vq) (fun a ha => live_upd (live_upd ha)), fun x hx => List.mem_cons_of_mem _ (a1 x hx), paired_snoc (L2.Paired.mapP pr fun a kq ⟨x1, x2, x3⟩ => ⟨st _ _ x1, x2, x3⟩) ⟨upd_same, (ne_of_none hx ht0).symm, ft⟩, fun kq hkq => ?_⟩
        rcases List.mem_append.mp hkq with h | h
        · obtain ⟨b1, b2, b3, b4⟩ := a2 kq h
          exact ⟨List.mem_cons_of_mem _ b1, st _ _ b2, b3, b4⟩
        · cases List.mem_singleton.mp h
          exact ⟨List.mem_cons_self, vq, (ne_of_none hx hq0).symm, fq0⟩
      · have s5 : Same H2 (upd Hc T (.dK (dI (fun x => .ref (g x)) ks))) := unl s
        refine ⟨s _ _ e0, ?_⟩
        have nT : ∀ {a : Addr}, H a = none → a ≠ T := fun h e => by
          rw [e, hT] at h
          cases h
        have fD : H D0 = none := s2.free (from3 (Same.refl _) hD0)
        rw [List.filter_eq_self.mpr fun _ _ => rfl] at e2
        obtain ⟨g', hg'⟩ := fun_of ksn kvs e2
        subst hg'
        have hD5 : (upd Hc T (.dK (dI (fun x => .ref (g x)) ks))) D0 = some (.lst (ps.map V.ref)) := by rw [upd_ne (nT fD), ← e1]; exact hD
        have pr5 : Paired (fun a (kv : Key × V) => SqT K (upd Hc T (.dK (dI (fun x => .ref (g x)) ks))) a [kV kv.1, kv.2]) ps (dI (fun x => .ref (g' x)) ks) := by
          have ed : dI (fun x => V.ref (g' x)) ks = (ks.map fun k => (k, g' k)).map fun kq => (Sum.inl kq.1, V.ref kq.2) := by
            rw [List.map_map]
            rfl
          rw [ed]
          clear ed hD5 e1 e2 a2 hD
          generalize (ks.map fun k => (k, g' k)) = kvs at pr
          induction pr with
          | nil => exact .nil
          | cons x _ ih => exact .cons (SqT.of (by rw [upd_ne (nT x.2.2)]; exact x.1)) ih
        have w5 : ∀ k ∈ ks, (g' k, t0 + 2 * k) ∈ L' ∧ (upd Hc T (.dK (dI (fun x => .ref (g x)) ks))) (g' k) = some (.dK (kv k)) := fun k hk => by
          obtain ⟨b1, b2, b3, b4⟩ := a2 (k, g' k) (List.mem_map.mpr ⟨k, hk, rfl⟩)
          exact ⟨b1, by rw [upd_ne (nT b4)]; exact b2⟩
        have l5 : Lay H (upd Hc T (.dK (dI (fun x => .ref (g x)) ks))) L' := l.keep fun a ha => live_upd ha
        generalize upd Hc T (.dK (dI (fun x => .ref (g x)) ks)) = H5 at s5 hD5 pr5 w5 l5 ⊢
        refine ⟨D0, ps, _, rfl, SqL.of hD5, pr5, fun qo hqo => ?_⟩
        rw [merge_nil _ ksn]
        have s05 := Same.trans s2 s5
        have gp5 := s5 _ _ gp
        have npq : p ≠ qo := ne_of_none gp5 hqo
        have g6 : (upd H5 qo (.dK (dI (fun x => .ref (g' x)) ks))) p = some (.dK fv) := by rw [upd_ne npq]; exact gp5
        refine ⟨_, rfl, _, rfl, p, _, rfl, DPut.k (k := Sum.inr z) g6 (small1000 hfv), ?_⟩
        obtain ⟨sx, lx, vx, fx, _⟩ := stage s05 (l2.nw _ lp) (some_ne gp5) l5 hqo tT (.dK (dI (fun x => .ref (g' x)) ks)) (.dK (putK fv (Sum.inr z) (.ref qo)))
        refine nx qo g' _ ((qo, tT) :: L') sx lx (fun x hx => List.mem_cons_of_mem _ (a1 x hx)) List.mem_cons_self vx (fun k hk => ⟨List.mem_cons_of_mem _ (w5 k hk).1, fx _ _ (lx.apart (List.mem_cons_of_mem _ (w5 k hk).1) (List.mem_cons_of_mem _ (a1 _ lp)) (t01 k hk)) (w5 k hk).2⟩) (fun b x nb hb => fx _ _ nb (s5 _ _ hb)) upd_same
    obtain ⟨T2, hT2, w2⟩ := bd
    refine ⟨_, PSs.nox (pss_cons (ps_set (i := 1) sc.nd rfl (.inl rfl) (pe_callTy call_dictD rfl Bt.dict boot_dict (pa_cons (pv 0) pa_nil)))
      (pss_cons (ps_for PassesOwn.never rfl (pi_list (pe_lst (pa_cons pe_str (pa_cons pe_str (pa_cons pe_str (pa_cons pe_str pa_nil)))))) (pg_name (i := 2) sc.nd rfl (Or.inr rfl))
          (pss_one (ps_dput hu (pv 1) (pv 2) (pe_callTy call_dictD rfl Bt.dict boot_dict (pa_cons (pe_dget hu (pv 0) (pv 2) (fun _ _ => rfl)) pa_nil)) rfl)))
      (pss_cons (ps_for PassesOwn.never rfl (pi_list (pe_lst (pa_cons pe_str (pa_cons pe_str pa_nil)))) (pg_name (i := 2) sc.nd rfl (Or.inr rfl)) hT2)
      (pss_one (ps_ret (pv 1)))))), ?_⟩
    refine ⟨_, rfl, p0, _, rfl, .inl h1, fun p hp => ?_⟩
    obtain ⟨s1, _, l1, g1⟩ := lay1 (Same.refl H) (Lay.nil H) hp 1 (.dK (skv n A S.bg))
    generalize upd H p (.dK (skv n A S.bg)) = H1 at s1 l1 g1 ⊢
    refine ⟨(show 4 ≤ sizeLine from by decide), fun li hli => ?_⟩
    have hv1 : (upd H1 li (.lst [.str "bases", .str "dues", .str "seats", .str "contents"])) li = some (.lst [.str "bases", .str "dues", .str "seats", .str "contents"]) := upd_same
    refine ⟨li, rfl, ⟨_, SqL.of hv1⟩, ?_⟩
    obtain ⟨s2, t2, l2, _⟩ := lay0 s1 l1 hli (.lst [.str "bases", .str "dues", .str "seats", .str "contents"])
    have g2 := t2 _ _ g1
    generalize upd H1 li (.lst [.str "bases", .str "dues", .str "seats", .str "contents"]) = H2 at hv1 s2 t2 l2 g2 ⊢
    refine for_it (walk_list (K := K) (a := li) (xs := [.str "bases", .str "dues", .str "seats", .str "contents"])) (fun k σ H' => ∃ (o2 : Option V) (pb pd ps pc : Addr) (L : List (Addr × Int)), σ = [some (.ref p0), some (.ref p), o2, none] ∧ Same H H' ∧ Lay H H' L ∧ (p, 1) ∈ L ∧ H' li = some (.lst [.str "bases", .str "dues", .str "seats", .str "contents"]) ∧ H' p = some (.dK (skv n { A with b := pb, d := pd, s := ps, c := pc } S.bg)) ∧
        (1 ≤ k → (pb, 2) ∈ L ∧ H' pb = some (.dK (dI (fun x => oV (S.bs x)) (rng S.m)))) ∧ (2 ≤ k → (pd, 4) ∈ L ∧ H' pd = some (.dK (dI (fun x => .ref (A.dd x)) D.dk))) ∧ (3 ≤ k → (ps, 5) ∈ L ∧ H' ps = some (.dK (dI (fun x => .int (S.se x)) (rng S.nw)))) ∧ (4 ≤ k → (pc, 6) ∈ L ∧ H' pc = some (.dK (dI (fun x => .ref (A.cd x)) (rng S.nw)))))
      ⟨none, A.b, A.d, A.s, A.c, _, rfl, s2, l2, List.mem_cons_self, hv1, g2, fun z => by omega, fun z => by omega, fun z => by omega, fun z => by omega⟩ (fun k σ H' _ ⟨_, _, _, _, _, _, _, _, _, _, x, _⟩ => SqL.of x) ?_ ?_
    · rintro k x σ H' H3 hk ⟨o2, pb, pd, ps, pc, L, rfl, s3, l3, lp, hv3, g3, f1, f2, f3, f4⟩ ⟨rfl, hx⟩
      have np : ∀ {a : Addr} {t : Int}, (a, t) ∈ L → t ≠ 1 → a ≠ p := fun h n => l3.apart h lp n
      have nli : li ≠ p := ne_of hv3 g3 (by intro z; cases z)
      rcases k with _ | _ | _ | _ | k
      · cases hx
        refine ⟨_, rfl, _, rfl, p0, _, rfl, sk_bases (s3 _ _ h1), A.b, _, rfl, .inl (s3 _ _ R.hb), fun qo hqo => ⟨_, rfl, _, rfl, p, _, rfl, sk_set (by rw [upd_ne (ne_of_none g3 hqo)]; exact g3) "bases" _, ?_⟩⟩
        rw [sk_putb]
        obtain ⟨sx, lx, vx, fx, nx⟩ := stage s3 (l3.nw _ lp) (some_ne g3) l3 hqo 2 (.dK (dI (fun x => oV (S.bs x)) (rng S.m))) (.dK (skv n { A with b := qo, d := pd, s := ps, c := pc } S.bg))
        exact ⟨_, qo, pd, ps, pc, _, rfl, sx, lx, List.mem_cons_of_mem _ lp, fx _ _ nli hv3, upd_same, fun _ => ⟨List.mem_cons_self, vx⟩, fun z => by omega, fun z => by omega, fun z => by omega⟩
      · cases hx
        refine ⟨_, rfl, _, rfl, p0, _, rfl, sk_dues (s3 _ _ h1), A.d, _, rfl, .inl (s3 _ _ R.hd), fun qo hqo => ⟨_, rfl, _, rfl, p, _, rfl, sk_set (by rw [upd_ne (ne_of_none g3 hqo)]; exact g3) "dues" _, ?_⟩⟩
        rw [sk_putd]
        obtain ⟨sx, lx, vx, fx, nx⟩ := stage s3 (l3.nw _ lp) (some_ne g3) l3 hqo 4 (.dK (dI (fun x => .ref (A.dd x)) D.dk)) (.dK (skv n { A with b := pb, d := qo, s := ps, c := pc } S.bg))
        have z1 := f1 (by omega)
        exact ⟨_, pb, qo, ps, pc, _, rfl, sx, lx, List.mem_cons_of_mem _ lp, fx _ _ nli hv3, upd_same, fun _ => ⟨List.mem_cons_of_mem _ z1.1, fx _ _ (np z1.1 (by decide)) z1.2⟩, fun _ => ⟨List.mem_cons_self, vx⟩, fun z => by omega, fun z => by omega⟩
      · cases hx
        refine ⟨_, rfl, _, rfl, p0, _, rfl, sk_seats (s3 _ _ h1), A.s, _, rfl, .inl (s3 _ _ R.hs), fun qo hqo => ⟨_, rfl, _, rfl, p, _, rfl, sk_set (by rw [upd_ne (ne_of_none g3 hqo)]; exact g3) "seats" _, ?_⟩⟩
        rw [sk_puts]
        obtain ⟨sx, lx, vx, fx, nx⟩ := stage s3 (l3.nw _ lp) (some_ne g3) l3 hqo 5 (.dK (dI (fun x => .int (S.se x)) (rng S.nw))) (.dK (skv n { A with b := pb, d := pd, s := qo, c := pc } S.bg))
        have z1 := f1 (by omega)
        have z2 := f2 (by omega)
        exact ⟨_, pb, pd, qo, pc, _, rfl, sx, lx, List.mem_cons_of_mem _ lp, fx _ _ nli hv3, upd_same, fun _ => ⟨List.mem_cons_of_mem _ z1.1, fx _ _ (np z1.1 (by decide)) z1.2⟩, fun _ => ⟨List.mem_cons_of_mem _ z2.1, fx _ _ (np z2.1 (by decide)) z2.2⟩, fun _ => ⟨List.mem_cons_self, vx⟩, fun z => by omega⟩
      · cases hx
        refine ⟨_, rfl, _, rfl, p0, _, rfl, sk_contents (s3 _ _ h1), A.c, _, rfl, .inl (s3 _ _ R.hc), fun qo hqo => ⟨_, rfl, _, rfl, p, _, rfl, sk_set (by rw [upd_ne (ne_of_none g3 hqo)]; exact g3) "contents" _, ?_⟩⟩
        rw [sk_putc]
        obtain ⟨sx, lx, vx, fx, nx⟩ := stage s3 (l3.nw _ lp) (some_ne g3) l3 hqo 6 (.dK (dI (fun x => .ref (A.cd x)) (rng S.nw))) (.dK (skv n { A with b := pb, d := pd, s := ps, c := qo } S.bg))
        have z1 := f1 (by omega)
        have z2 := f2 (by omega)
        have z3 := f3 (by omega)
        exact ⟨_, pb, pd, ps, qo, _, rfl, sx, lx, List.mem_cons_of_mem _ lp, fx _ _ nli hv3, upd_same, fun _ => ⟨List.mem_cons_of_mem _ z1.1, fx _ _ (np z1.1 (by decide)) z1.2⟩, fun _ => ⟨List.mem_cons_of_mem _ z2.1, fx _ _ (np z2.1 (by decide)) z2.2⟩, fun _ => ⟨List.mem_cons_of_mem _ z3.1, fx _ _ (np z3.1 (by decide)) z3.2⟩, fun _ => ⟨List.mem_cons_self, vx⟩⟩
      · have hk : k + 1 + 1 + 1 + 1 < 4 := hk
        omega
    · rintro σ H3 ⟨o2, pb, pd, ps, pc, L, rfl, s3, l3, lp, hv3, g3, f1, f2, f3, f4⟩
      obtain ⟨lb, vb⟩ := f1 (by decide)
      obtain ⟨ld, vd⟩ := f2 (by decide)
      obtain ⟨ls, vs⟩ := f3 (by decide)
      obtain ⟨lc, vc⟩ := f4 (by decide)
      clear f1 f2 f3 f4 hv3 hv1
      have np : ∀ {a : Addr} {t : Int}, (a, t) ∈ L → t ≠ 1 → a ≠ p := fun h n => l3.apart h lp n
      refine ⟨(show 2 ≤ sizeLine from by decide), fun li2 hli2 => ?_⟩
      have hv4 : (upd H3 li2 (.lst [.str "owned", .str "jobs"])) li2 = some (.lst [.str "owned", .str "jobs"]) := upd_same
      refine ⟨li2, rfl, ⟨_, SqL.of hv4⟩, ?_⟩
      obtain ⟨s4, t4, l4, _⟩ := lay0 s3 l3 hli2 (.lst [.str "owned", .str "jobs"])
      have g4 := t4 _ _ g3
      have vb := t4 _ _ vb
      have vd := t4 _ _ vd
      have vs := t4 _ _ vs
      have vc := t4 _ _ vc
      generalize upd H3 li2 (.lst [.str "owned", .str "jobs"]) = H4 at hv4 s4 t4 l4 g4 vb vd vs vc ⊢
      refine for_it (walk_list (K := K) (a := li2) (xs := [.str "owned", .str "jobs"])) (fun k σ H' => ∃ (o2 : Option V) (po pj : Addr) (go gj : Int → Addr) (L' : List (Addr × Int)), σ = [some (.ref p0), some (.ref p), o2, none] ∧ Same H H' ∧ Lay H H' L' ∧ (∀ x ∈ L, x ∈ L') ∧ Off p H4 H' ∧ H' p = some (.dK (skv n { A with b := pb, d := pd, s := ps, c := pc, o := po, j := pj } S.bg)) ∧
          (1 ≤ k → (po, 3) ∈ L' ∧ H' po = some (.dK (dI (fun x => .ref (go x)) S.ok)) ∧ ∀ x ∈ S.ok, (go x, 10 + 2 * x) ∈ L' ∧ H' (go x) = some (.dK (rowV (S.ow x)))) ∧ (2 ≤ k → (pj, 7) ∈ L' ∧ H' pj = some (.dK (dI (fun x => .ref (gj x)) S.jk)) ∧ ∀ i ∈ S.jk, (gj i, 11 + 2 * i) ∈ L' ∧ ∀ o, H (A.jd i) = some o → H' (gj i) = some o))
        ⟨_, A.o, A.j, A.od, A.jd, L, rfl, s4, l4, fun x hx => hx, Off.of (Same.refl _), g4, fun z => by omega, fun z => by omega⟩ (fun k σ H' _ ⟨_, _, _, _, _, _, _, _, _, _, x, _⟩ => SqL.of (x _ _ (ne_of hv4 g4 (by intro z; cases z)) hv4)) ?_ ?_
      · rintro k x σ H' H5 hk ⟨o2, po, pj, go, gj, L', rfl, s5, l5, sub, of5, g5, f1, f2⟩ ⟨rfl, hx⟩
        have np : ∀ {a : Addr} {t : Int}, (a, t) ∈ L' → t ≠ 1 → a ≠ p := fun h n => l5.apart h (sub _ lp) n
        rcases k with _ | _ | k
        · cases hx
          refine w2 "owned" A.o A.od S.ok (fun x => rowV (S.ow x)) 10 3 _ L' p _ _ s5 l5 (sub _ lp) g5 (show 8 ≤ 1000 by decide) (some_ne h1) (tag_ne R.tp R.to (by decide)) (fun Hx hx => sk_owned hx) R.ho (BS.os.imp fun {a b} h => by omega) (Nat.lt_of_le_of_lt (ok_len BS) (by decide)) (Nat.le_trans (ok_len BS) (by decide)) (fun k hk => ⟨R.hod k hk, tag_ne (R.tod k hk).1 R.to (by have := (R.tod k hk).2; omega)⟩) (fun k hk => by have := (R.tod k hk).2; omega) (by decide) fun qo g' H6 L6 s6 l6 sub6 lq v6 w6 of6 g6 => ?_
          rw [sk_put_owned] at g6
          exact ⟨_, qo, pj, g', gj, L6, rfl, s6, l6, fun x hx => sub6 _ (sub _ hx), Off.trans of5 of6, g6, fun _ => ⟨lq, v6, w6⟩, fun z => by omega⟩
        · cases hx
          obtain ⟨z1, z2, z3⟩ := f1 (by omega)
          refine w2 "jobs" A.j A.jd S.jk (fun x => match H (A.jd x) with | some (.dK l) => l | _ => []) 11 7 _ L' p _ _ s5 l5 (sub _ lp) g5 (show 8 ≤ 1000 by decide) (some_ne h1) (tag_ne R.tp R.tj (by decide)) (fun Hx hx => sk_jobs hx) R.hj (BS.jn.imp fun {a b} h => by omega) (Nat.lt_of_le_of_lt (jk_len BS) (by decide)) (Nat.le_trans (jk_len BS) (by decide)) (fun k hk => ⟨?_, tag_ne (R.tjd k hk).1 R.tj (by have := (R.tjd k hk).2; omega)⟩) (fun k hk => by have := (R.tjd k hk).2; omega) (by decide) fun qo g' H6 L6 s6 l6 sub6 lq v6 w6 of6 g6 => ?_
          · obtain ⟨ma, na, sv, hj, _⟩ := R.hjd k hk
            rw [hj]
          · rw [sk_putj] at g6
            refine ⟨_, po, qo, go, g', L6, rfl, s6, l6, fun x hx => sub6 _ (sub _ hx), Off.trans of5 of6, g6, fun _ => ⟨sub6 _ z1, of6 _ _ (np z1 (by decide)) z2, fun x hx => ⟨sub6 _ (z3 x hx).1, of6 _ _ (np (z3 x hx).1 (by omega)) (z3 x hx).2⟩⟩, fun _ => ⟨lq, v6, fun i hi => ⟨(w6 i hi).1, fun o ho => ?_⟩⟩⟩
            have z := (w6 i hi).2
            obtain ⟨ma, na, sv, hj, _⟩ := R.hjd i hi
            rw [hj] at ho z
            cases ho
            exact z
        · have hk : k + 1 + 1 < 2 := hk
          omega
      · rintro σ H6 ⟨o2, po, pj, go, gj, L', rfl, s6, l6, sub, of6, g6, f1, f2⟩
        obtain ⟨lo, vo, wo⟩ := f1 (by decide)
        obtain ⟨lj, vj, wj⟩ := f2 (by decide)
        obtain ⟨τ', tg1, tg2, fr, lv⟩ := share (τ := τ) s6 l6
        refine ⟨_, rfl, q p ⟨pb, po, pd, ps, pc, pj, go, A.dd, A.cd, gj⟩ H6 τ' s6 ⟨g6, ?_⟩ fr⟩
        refine ⟨of6 _ _ (np lb (by decide)) vb, vo, of6 _ _ (np ld (by decide)) vd, of6 _ _ (np ls (by decide)) vs, of6 _ _ (np lc (by decide)) vc, vj, fun x hx => (wo x hx).2, fun x hx => s6 _ _ (R.hdd x hx), fun x hx => s6 _ _ (R.hcd x hx), fun i hi => ?_, tg1 _ _ (sub _ lp), tg1 _ _ (sub _ lb), tg1 _ _ lo, tg1 _ _ (sub _ ld), tg1 _ _ (sub _ ls), tg1 _ _ (sub _ lc), tg1 _ _ lj, fun x hx => ⟨tg1 _ _ (wo x hx).1, (R.tod x hx).2⟩, fun i hi => ⟨tg1 _ _ (wj i hi).1, (R.tjd i hi).2⟩, lv⟩
        obtain ⟨ma, na, sv, hj, hma, hna, tna, hsv⟩ := R.hjd i hi
        exact ⟨ma, na, sv, (wj i hi).2 _ hj, s6 _ _ hma, s6 _ _ hna, tg2 _ _ hna tna, hsv.stay fun t xs z => s6 _ _ z⟩
end
end K20W
end
/-! V13 -/
section
set_option Elab.async false
set_option linter.all false
set_option maxRecDepth 100000
set_option maxHeartbeats 4000000
/-! done. -/
namespace K20W
open PySem L2 K20
/-- a deed of the sheet, and what stands behind it -/
def DeedL (H : Hp) (fa t : Addr) (dn : Bool) (n : Nat) (S : Vs) (D : Du) (S' : Vs) (D' : Du) : Prop :=
  (∃ u c v : Int, H t = some (.tup [.str "write", .int u, .int c, .int v]) ∧ Grow n S D ∧ (0 ≤ u ∧ u < S.nw) ∧ (0 ≤ c ∧ c < n) ∧ S' = writeS S u c v ∧ D' = D) ∨
  (∃ u : Int, H t = some (.tup [.str "cover", .int u]) ∧ Grow n S D ∧ (0 ≤ u ∧ u < S.nw) ∧ S' = coverS S u ∧ D' = coverD S D u) ∨
  (∃ x : Int, H t = some (.tup [.str "branch", .int x]) ∧ Grow n S D ∧ x ∈ S.ok ∧ isOpen S x = false ∧ S' = branchS S D x ∧ D' = D) ∨
  (∃ x l : Int, H t = some (.tup [.str "begin", .str (kindS dn), .int x]) ∧ x ∈ S.ok ∧ S.bs x = some l ∧ S' = beginS S x l ∧ D' = D) ∨
  (∃ (ba fn : Addr) (B : BookR) (i : Int), H t = some (.tup [.str "step", .int i]) ∧ H fa = some (.dK (fkv B ba fn)) ∧ H ba = some (.lst (B.bars.map V.str)) ∧ H fn = some (.lst (B.notes.map V.str)) ∧ (B.finish = "one" ∨ B.finish = "link") ∧ (dn = true → B.down ≠ "blind") ∧ i ∈ S.jk ∧ Good (par B dn n) S D ∧ S' = stepS (par B dn n) S i ∧ D' = stepD (par B dn n) S D i)
section
variable {P : Program} {w : World} {K : PySem.W.Frag} {mg : Str → Option Value} {base : Heap} {f CY CB CJ : Addr} {fd : FuncData}
def spLDone : Sp := fun vs H Q _ => ∃ (fa p t : Addr) (dn : Bool) (n : Nat) (A : Ad) (S : Vs) (D : Du) (τ : Addr → Int) (S' : Vs) (D' : Du), vs = [.ref fa, .ref p, .ref t] ∧ SA dn n H p A S D τ ∧ Base n S ∧ n ≤ 40 ∧ H fa ≠ none ∧ DeedL H fa t dn n S D S' D' ∧
  ∀ r p' v A' H' τ', Same H H' → H' r = some (.tup [.ref p', v]) → SA dn n H' p' A' S' D' τ' → Fr τ H τ' → Q (.ref r) H'
theorem ok_ldone (Bt : Blt mg) (g0 : Gd P w K mg base "_law_copy_of" 1 ["_law_sheet"] spLCopy) (g1 : Gd P w K mg base "_law_written" 2 ["_law_fields", "_law_sheet", "_law_deed"] spLWritten) (g2 : Gd P w K mg base "_law_put_on" 1 ["_law_sheet", "_law_below"] spLPutOn)
    (g3 : Gd P w K mg base "_law_begins" 2 ["_law_sheet", "_law_word", "_law_upper"] spLBegins) (g4 : Gd P w K mg base "_law_stepped" 3 ["_law_fields", "_law_sheet", "_law_number"] spLStepped) (F : Fu K "_law_done" "_law_done" (top 76) f fd) : FnOk P w K mg base CX0 4 f fd ["_law_fields", "_law_before", "_law_deed"] spLDone := by
  have sc : FnScope ["_law_fields", "_law_before", "_law_deed", "_law_sheet", "_law_seats", "_law_contents", "_law_word", "_law_dues", "_law_fresh"] ["_law_fields", "_law_before", "_law_deed"] (defScope (top 76)) := ⟨rfl, rfl, rfl, by decide +kernel, rfl, by decide +kernel, by decide +kernel⟩
  obtain ⟨f0, d0, G0, e0, k0, b0⟩ := g0
  obtain ⟨f1, d1, G1, e1, k1, b1⟩ := g1
  obtain ⟨f2, d2, G2, e2, k2, b2⟩ := g2
  obtain ⟨f3, d3, G3, e3, k3, b3⟩ := g3
  obtain ⟨f4, d4, G4, e4, k4, b4⟩ := g4
  refine F.ok sc (fun vs H Q E h => ?_) (fun cdv Ar outer s H vs Q E hr h => ?_)
  · obtain ⟨fa, p, t, _, _, _, _, _, _, _, _, rfl, _⟩ := h
    rfl
  · obtain ⟨fa, p0, t, dn, n, A0, S, D, τ0, S', D', rfl, Y0, BS, n40, hfa, hd, q⟩ := h
    have hu := hu_of hr
    have hr1 : Room 1 _ := hr.mono (by decide)
    have hr2 : Room 2 _ := hr.mono (by decide)
    refine ⟨_, pss_cons (ps_set (i := 3) sc.nd rfl (.inl rfl) (pe_call G0 hr1 rfl e0 k0 b0 .nil pass0 (pa_cons (pv 1) pa_nil)))
      (pss_cons (ps_par3 (i := 4) (j := 5) (l := 6) (by rfl) sc.nd rfl rfl rfl (by decide) (by decide) (by decide) rfl rfl rfl (pa_cons (pe_dget hu (pv 3) pe_str (fun _ _ => rfl)) (pa_cons (pe_dget hu (pv 3) pe_str (fun _ _ => rfl)) (pa_cons (pe_ix ix_tup (pv 2) pe_int (fun _ _ => rfl)) pa_nil))) rfl)
      (pss_cons (ps_set (i := 7) sc.nd rfl (.inl rfl) (pe_dget hu (pv 3) pe_str (fun _ _ => rfl)))
      (pss_cons (ps_if (pt_cmpR op_eq (pv 6) pe_str (nomark _)) (pss_one (ps_ret (pe_tup (pa_cons (pv 3) (pa_cons (pe_call G1 hr2 rfl e1 k1 b1 .nil pass0 (pa_cons (pv 0) (pa_cons (pv 3) (pa_cons (pv 2) pa_nil)))) pa_nil))))) pss_nil)
      (pss_cons (ps_if (pt_cmpR op_eq (pv 6) pe_str (nomark _))
        (pss_cons (ps_dput hu (pv 7) (pe_dget hu (pv 4) (pe_ix ix_tup (pv 2) pe_int (fun _ _ => rfl)) (fun _ _ => rfl)) (pe_dget hu (pv 5) (pe_ix ix_tup (pv 2) pe_int (fun _ _ => rfl)) (fun _ _ => rfl)) rfl)
        (pss_cons (ps_dput hu (pv 4) (pe_ix ix_tup (pv 2) pe_int (fun _ _ => rfl)) (pe_call G2 hr1 rfl e2 k2 b2 .nil pass0 (pa_cons (pv 3) (pa_cons (pe_dget hu (pv 4) (pe_ix ix_tup (pv 2) pe_int (fun _ _ => rfl)) (fun _ _ => rfl)) pa_nil))) rfl)
        (pss_one (ps_ret (pe_tup (pa_cons (pv 3) (pa_cons (pe_dget hu (pv 4) (pe_ix ix_tup (pv 2) pe_int (fun _ _ => rfl)) (fun _ _ => rfl)) pa_nil))))))) pss_nil)
      (pss_cons (ps_if (pt_cmpR op_eq (pv 6) pe_str (nomark _))
        (pss_cons (ps_set (i := 8) sc.nd rfl (.inl rfl) (pe_callB call_lenD (by rfl) Bt.len PySem.boot_len (pa_cons (pv 4) pa_nil)))
        (pss_cons (ps_dput hu (pv 5) (pv 8) (pe_dget hu (pv 7) (pe_ix ix_tup (pv 2) pe_int (fun _ _ => rfl)) (fun _ _ => rfl)) rfl)
        (pss_cons (ps_dput hu (pv 4) (pv 8) (pe_call G2 hr1 rfl e2 k2 b2 .nil pass0 (pa_cons (pv 3) (pa_cons (pe_ix ix_tup (pv 2) pe_int (fun _ _ => rfl)) pa_nil))) rfl)
        (pss_one (ps_ret (pe_tup (pa_cons (pv 3) (pa_cons (pv 8) pa_nil)))))))) pss_nil)
      (pss_cons (ps_if (pt_cmpR op_eq (pv 6) pe_str (nomark _)) (pss_one (ps_ret (pe_tup (pa_cons (pv 3) (pa_cons (pe_call G3 hr2 rfl e3 k3 b3 .nil pass0 (pa_cons (pv 3) (pa_cons (pe_ix ix_tup (pv 2) pe_int (fun _ _ => rfl)) (pa_cons (pe_ix ix_tup (pv 2) pe_int (fun _ _ => rfl)) pa_nil)))) pa_nil))))) pss_nil)
      (pss_one (ps_ret (pe_tup (pa_cons (pv 3) (pa_cons (pe_ifExp (pt_cmpR op_eq (pv 6) pe_str (nomark _)) (pe_call G4 hr rfl e4 k4 b4 .nil pass0 (pa_cons (pv 0) (pa_cons (pv 3) (pa_cons (pe_ix ix_tup (pv 2) pe_int (fun _ _ => rfl)) pa_nil)))) pe_never) pa_nil))))))))))), ?_⟩
    refine ⟨_, rfl, p0, dn, n, A0, S, D, τ0, rfl, Y0, BS, fun p A H1 τ s1 Y f1 => ?_⟩
    obtain ⟨g1, R⟩ := id Y
    have fin : ∀ (v : V) (A2 : Ad) (H2 : Hp) (τ2 : Addr → Int), SA dn n H2 p A2 S' D' τ2 → Kp τ H1 H2 → Gw τ τ2 H1 → (2 ≤ sizeLine ∧ ∀ r, H2 r = none → Q (.ref r) (upd H2 r (.tup [.ref p, v]))) := fun v A2 H2 τ2 Y2 k2 w2 => by
      refine ⟨by decide, fun r hr => ?_⟩
      have s12 : Same H H2 := fun a o h => k2 a o (s1 a o h) fun z => by
        rcases f1 a z with y | ⟨_, xs, y⟩
        · rw [h] at y
          cases y
        · rw [h] at y
          cases y
          exact isT_lst xs
      refine q r p v A2 _ τ2 (Same.newS s12 hr) upd_same (Y2.same (Same.newS (Same.refl _) hr)) fun a ha => ?_
      rcases w2 a ha with z | z
      · exact f1 a z
      · exact .inl (s1.free z)
    rcases hd with ⟨u, c, v, ht, G, hw, hc, rfl, rfl⟩ | ⟨u, ht, G, hw, rfl, rfl⟩ | ⟨x, ht, G, hx, hop, rfl, rfl⟩ | ⟨x, l, ht, hx, hb, rfl, rfl⟩ | ⟨ba, fn, B, i, ht, hf, hba, hfn, hfi, nbl, hi, G, rfl, rfl⟩
    · have ht1 := s1 _ _ ht
      refine ⟨_, rfl, p, _, rfl, sk_seats g1, _, rfl, p, _, rfl, sk_contents g1, _, rfl, t, _, _, .str "write", rfl, rfl, SqT.of ht1, atI_nat (j := 0) rfl, _, _, _, rfl, ?_⟩
      refine ⟨_, rfl, p, _, rfl, sk_dues g1, _, rfl, rfl, _, rfl, ?_⟩
      rw [vstr, decide_eq_true rfl]
      exact iteT ⟨_, rfl, _, rfl, _, rfl, _, rfl, fa, p, t, dn, n, A, S, D', τ, u, c, v, rfl, ht1, Y, G, n40, hw, hc, fun cd H2 Y2 k2 => fin _ _ H2 τ Y2 k2 (Gw.refl τ H1)⟩
    · have ht1 := s1 _ _ ht
      refine ⟨_, rfl, p, _, rfl, sk_seats g1, _, rfl, p, _, rfl, sk_contents g1, _, rfl, t, _, _, .str "cover", rfl, rfl, SqT.of ht1, atI_nat (j := 0) rfl, _, _, _, rfl, ?_⟩
      refine ⟨_, rfl, p, _, rfl, sk_dues g1, _, rfl, rfl, _, rfl, ?_⟩
      rw [vstr, decide_eq_false (by decide +kernel)]
      refine iteF ⟨_, rfl, rfl, _, rfl, ?_⟩
      rw [vstr, decide_eq_true rfl]
      have hwm := mem_rng.mpr hw
      have ld : D.dk.length ≤ 1000 := Nat.le_trans (nodup_le G.dn G.dr) (Nat.le_trans BS.m14 (by decide))
      obtain ⟨dd, H2, p2, Y2, k2⟩ := Y.due1 (k := S.se u) (R.hcd _ hwm) ld
      obtain ⟨g2, R2⟩ := id Y2
      have tt : τ t = 0 := Classical.byContradiction fun z => by
        rcases f1 t z with y | ⟨_, xs, y⟩ <;> rw [ht] at y <;> cases y
      have ht2 : H2 t = some (.tup [.str "cover", .int u]) := k2 _ _ ht1 fun z => (z tt).elim
      have ix1 : atI [V.str "cover", V.int u] 1 = some (.int u) := atI_nat (j := 1) rfl
      refine iteT ⟨_, rfl, _, rfl, t, _, _, .int u, rfl, rfl, SqT.of ht1, ix1, A.c, _, rfl, dI_get R.hc hwm, _, rfl, _, rfl, _, rfl, t, _, _, .int u, rfl, rfl, SqT.of ht1, ix1, A.s, _, rfl, dI_get R.hs hwm, A.d, H2, rfl, p2, ?_⟩
      refine ⟨_, rfl, _, rfl, _, rfl, t, _, _, .int u, rfl, rfl, SqT.of ht2, ix1, A.s, _, rfl, dI_get R2.hs hwm, p, n, S.bg, { A with dd := dd }, S.se u, S, rfl, g2, R2.hb, R2.ho, tag_ne R.tb R.to (by decide), fun k hk => (BS.oi k hk).2, Nat.le_trans BS.m14 (by decide), Nat.le_trans (ok_len BS) (by decide), fun q0 hq0 => ?_⟩
      have bs : A.b ≠ A.s := tag_ne R.tb R.ts (by decide)
      have os : A.o ≠ A.s := tag_ne R.to R.ts (by decide)
      have bo : A.b ≠ A.o := tag_ne R.tb R.to (by decide)
      have bc : A.b ≠ A.c := tag_ne R.tb R.tc (by decide)
      have oc : A.o ≠ A.c := tag_ne R.to R.tc (by decide)
      have scn : A.s ≠ A.c := tag_ne R.ts R.tc (by decide)
      generalize hHP : upd (upd (upd H2 A.b _) q0 (.dK [])) A.o _ = HP
      have keep : ∀ b o, H2 b = some o → b ≠ A.b → b ≠ A.o → HP b = some o := fun b o h n1 n2 => by
        rw [← hHP, upd_ne n2, upd_ne (ne_of_none h hq0), upd_ne n1]
        exact h
      have p1 : HP A.s = some (.dK (dI (fun x => .int (S.se x)) (rng S.nw))) := keep _ _ R2.hs bs.symm os.symm
      have p5 := dI_setOld p1 hwm (by rw [rng_length]; exact Nat.le_trans BS.w14 (by decide)) (.int S.m)
      rw [← fupd_map V.int] at p5
      have ht3 : HP t = some (.tup [.str "cover", .int u]) := keep _ _ ht2 (ne_of ht2 R2.hb (by intro z; cases z)) (ne_of ht2 R2.ho (by intro z; cases z))
      refine ⟨_, rfl, _, rfl, t, _, _, .int u, rfl, rfl, SqT.of ht3, ix1, A.s, _, rfl, p5, ?_⟩
      obtain ⟨Y3, k3, w3⟩ := Y2.put BS.oi hq0 (x := S.se u) (nw := S.nw) (se := fupd S.se u S.m) (co := S.co) (cd := A.cd) (H' := upd HP A.s (.dK (dI (fun x => .int (fupd S.se u S.m x)) (rng S.nw)))) R2.hcd
        (fun b o h n1 n2 n3 _ => by rw [upd_ne n3]; exact keep _ _ h n1 n2) (by rw [upd_ne (ne_of_none R2.hs hq0).symm, ← hHP, upd_ne (ne_of_none R2.ho hq0).symm, upd_same]) (by rw [upd_ne bs, ← hHP, upd_ne bo, upd_ne (ne_of_none R2.hb hq0), upd_same]) (by rw [upd_ne os, ← hHP, upd_same]) upd_same (by rw [upd_ne scn.symm]; exact keep _ _ R2.hc bc.symm oc.symm)
      have ht4 : (upd HP A.s (.dK (dI (fun x => .int (fupd S.se u S.m x)) (rng S.nw)))) t = some (.tup [.str "cover", .int u]) := by rw [upd_ne (ne_of ht2 R2.hs (by intro z; cases z))]; exact ht3
      refine ⟨_, rfl, _, rfl, _, rfl, t, _, _, .int u, rfl, rfl, SqT.of ht4, ix1, A.s, V.int (fupd S.se u S.m u), rfl, dI_get (k := u) upd_same hwm, ?_⟩
      exact fin _ _ _ _ Y3 (Kp.trans k2 (Gw.refl τ H1) k3) (Gw.back k2 w3)
    · have ht1 := s1 _ _ ht
      refine ⟨_, rfl, p, _, rfl, sk_seats g1, _, rfl, p, _, rfl, sk_contents g1, _, rfl, t, _, _, .str "branch", rfl, rfl, SqT.of ht1, atI_nat (j := 0) rfl, _, _, _, rfl, ?_⟩
      refine ⟨_, rfl, p, _, rfl, sk_dues g1, _, rfl, rfl, _, rfl, ?_⟩
      rw [vstr, decide_eq_false (by decide +kernel)]
      refine iteF ⟨_, rfl, rfl, _, rfl, ?_⟩
      rw [vstr, decide_eq_false (by decide +kernel)]
      refine iteF ⟨_, rfl, rfl, _, rfl, ?_⟩
      rw [vstr, decide_eq_true rfl]
      have hxd : x ∈ D'.dk := G.cl x hx (open_iff.mp hop)
      have ix1 : atI [V.str "branch", V.int x] 1 = some (.int x) := atI_nat (j := 1) rfl
      have nin : (S.nw : Int) ∉ rng S.nw := fun z => by have := mem_rng.mp z; omega
      have lw : (rng S.nw).length ≤ 1000 := by rw [rng_length]; exact Nat.le_trans BS.w14 (by decide)
      have p8 := dI_setNew R.hc nin lw (.ref (A.dd x))
      rw [← fupd_map V.ref, ← rng_succ] at p8
      refine iteT ⟨_, rfl, A.s, _, rfl, R.hs, ?_⟩
      rw [dI_length, rng_length]
      refine ⟨_, rfl, _, rfl, t, _, _, .int x, rfl, rfl, SqT.of ht1, ix1, A.d, _, rfl, dI_get R.hd hxd, _, rfl, _, rfl, A.c, _, rfl, p8, ?_⟩
      have keep1 : ∀ b o, H1 b = some o → b ≠ A.c → (upd H1 A.c (.dK (dI (fun y => .ref (fupd A.cd S.nw (A.dd x) y)) (rng (S.nw + 1))))) b = some o := fun b o h n1 => by
        rw [upd_ne n1]
        exact h
      have vc : (upd H1 A.c (.dK (dI (fun y => .ref (fupd A.cd S.nw (A.dd x) y)) (rng (S.nw + 1))))) A.c = some (.dK (dI (fun y => .ref (fupd A.cd S.nw (A.dd x) y)) (rng (S.nw + 1)))) := upd_same
      have fr : ∀ {b : Addr}, (upd H1 A.c (.dK (dI (fun y => .ref (fupd A.cd S.nw (A.dd x) y)) (rng (S.nw + 1))))) b = none → H1 b = none := fun {b} h => by
        by_cases e : b = A.c
        · rw [e, upd_same] at h
          cases h
        · rw [upd_ne e] at h
          exact h
      generalize upd H1 A.c (.dK (dI (fun y => .ref (fupd A.cd S.nw (A.dd x) y)) (rng (S.nw + 1)))) = H2 at keep1 vc fr ⊢
      have bs : A.b ≠ A.s := tag_ne R.tb R.ts (by decide)
      have os : A.o ≠ A.s := tag_ne R.to R.ts (by decide)
      have bo : A.b ≠ A.o := tag_ne R.tb R.to (by decide)
      have bc : A.b ≠ A.c := tag_ne R.tb R.tc (by decide)
      have oc : A.o ≠ A.c := tag_ne R.to R.tc (by decide)
      have scn : A.s ≠ A.c := tag_ne R.ts R.tc (by decide)
      have ht2 := keep1 _ _ ht1 (ne_of ht1 R.hc (by intro z; cases z))
      have s2s := keep1 _ _ R.hs scn
      have b2b := keep1 _ _ R.hb bc
      have o2o := keep1 _ _ R.ho oc
      refine ⟨_, rfl, _, rfl, t, _, _, .int x, rfl, rfl, SqT.of ht2, ix1, p, n, S.bg, A, x, S, rfl, keep1 _ _ g1 (tag_ne R.tp R.tc (by decide)), b2b, o2o, bo, fun k hk => (BS.oi k hk).2, Nat.le_trans BS.m14 (by decide), Nat.le_trans (ok_len BS) (by decide), fun q0 hq0 => ?_⟩
      have hq1 := fr hq0
      generalize hHP : upd (upd (upd H2 A.b _) q0 (.dK [])) A.o _ = HP
      have keep : ∀ b o, H2 b = some o → b ≠ A.b → b ≠ A.o → HP b = some o := fun b o h n1 n2 => by
        rw [← hHP, upd_ne n2, upd_ne (ne_of_none h hq0), upd_ne n1]
        exact h
      have p5 := dI_setNew (keep _ _ s2s bs.symm os.symm) nin lw (.int S.m)
      rw [← fupd_map V.int, ← rng_succ] at p5
      refine ⟨_, rfl, _, rfl, A.s, _, rfl, p5, ?_⟩
      obtain ⟨Y3, k3, w3⟩ := Y.put BS.oi hq1 (x := x) (nw := S.nw + 1) (se := fupd S.se S.nw S.m) (co := fupd S.co S.nw (D'.du x)) (cd := fupd A.cd S.nw (A.dd x)) (H' := upd HP A.s (.dK (dI (fun x => .int (fupd S.se S.nw S.m x)) (rng (S.nw + 1))))) (fun z hz => by
        by_cases e : z = S.nw
        · subst e
          rw [fupd_same, fupd_same]
          exact R.hdd x hxd
        · rw [fupd_ne e, fupd_ne e]
          refine R.hcd z (mem_rng.mpr ?_)
          have := mem_rng.mp hz
          omega) (fun b o h n1 n2 n3 n4 => by rw [upd_ne n3]; exact keep _ _ (keep1 _ _ h n4) n1 n2) (by rw [upd_ne (ne_of_none s2s hq0).symm, ← hHP, upd_ne (ne_of_none o2o hq0).symm, upd_same]) (by rw [upd_ne bs, ← hHP, upd_ne bo, upd_ne (ne_of_none b2b hq0), upd_same]) (by rw [upd_ne os, ← hHP, upd_same]) upd_same (by rw [upd_ne scn.symm]; exact keep _ _ vc bc.symm oc.symm)
      exact ⟨_, rfl, _, rfl, fin _ _ _ _ Y3 k3 w3⟩
    · have ht1 := s1 _ _ ht
      refine ⟨_, rfl, p, _, rfl, sk_seats g1, _, rfl, p, _, rfl, sk_contents g1, _, rfl, t, _, _, .str "begin", rfl, rfl, SqT.of ht1, atI_nat (j := 0) rfl, _, _, _, rfl, ?_⟩
      refine ⟨_, rfl, p, _, rfl, sk_dues g1, _, rfl, rfl, _, rfl, ?_⟩
      rw [vstr, decide_eq_false (by decide +kernel)]
      refine iteF ⟨_, rfl, rfl, _, rfl, ?_⟩
      rw [vstr, decide_eq_false (by decide +kernel)]
      refine iteF ⟨_, rfl, rfl, _, rfl, ?_⟩
      rw [vstr, decide_eq_false (by decide +kernel)]
      refine iteF ⟨_, rfl, rfl, _, rfl, ?_⟩
      rw [vstr, decide_eq_true rfl]
      exact iteT ⟨_, rfl, _, rfl, _, rfl, t, _, _, .str (kindS dn), rfl, rfl, SqT.of ht1, atI_nat (j := 1) rfl, _, rfl, t, _, _, .int x, rfl, rfl, SqT.of ht1, atI_nat (j := 2) rfl, p, dn, n, A, S, _, τ, x, l, rfl, Y, BS, hx, hb, fun jd H2 τ2 Y2 k2 w2 => fin _ _ H2 τ2 Y2 k2 w2⟩
    · have ht1 := s1 _ _ ht
      refine ⟨_, rfl, p, _, rfl, sk_seats g1, _, rfl, p, _, rfl, sk_contents g1, _, rfl, t, _, _, .str "step", rfl, rfl, SqT.of ht1, atI_nat (j := 0) rfl, _, _, _, rfl, ?_⟩
      refine ⟨_, rfl, p, _, rfl, sk_dues g1, _, rfl, rfl, _, rfl, ?_⟩
      rw [vstr, decide_eq_false (by decide +kernel)]
      refine iteF ⟨_, rfl, rfl, _, rfl, ?_⟩
      rw [vstr, decide_eq_false (by decide +kernel)]
      refine iteF ⟨_, rfl, rfl, _, rfl, ?_⟩
      rw [vstr, decide_eq_false (by decide +kernel)]
      refine iteF ⟨_, rfl, rfl, _, rfl, ?_⟩
      rw [vstr, decide_eq_false (by decide +kernel)]
      refine iteF ⟨_, rfl, _, rfl, rfl, _, rfl, ?_⟩
      rw [vstr, decide_eq_true rfl]
      have tf : τ fa = 0 := Classical.byContradiction fun z => by
        rcases f1 fa z with y | ⟨_, xs, y⟩ <;> rw [hf] at y <;> cases y
      exact iteT ⟨_, rfl, _, rfl, _, rfl, t, _, _, .int i, rfl, rfl, SqT.of ht1, atI_nat (j := 1) rfl, fa, p, ba, fn, dn, n, A, S, D, τ, B, i, rfl, Y, s1 _ _ hf, s1 _ _ hba, s1 _ _ hfn, tf, hfi, nbl, hi, G, n40, fun o' dd H2 τ2 Y2 k2 w2 => fin _ _ H2 τ2 Y2 k2 w2⟩
end
end K20W
end
/-! V14 -/
section
set_option Elab.async false
set_option linter.all false
set_option maxRecDepth 100000
set_option maxHeartbeats 4000000
/-! refusal of a begin. -/
namespace K20W
open PySem L2 K20
theorem kind_in (dn : Bool) : inV (V.str (kindS dn)) [V.str "up", V.str "down"] = true := by cases dn <;> decide +kernel
theorem dI_has {H : Hp} {a : Addr} {g : Int → V} {ks : List Int} (h : H a = some (.dK (dI g ks))) {k : Int} : DGet H a (.int k) (if k ∈ ks then some (g k) else none) := by
  rw [← dI_val]
  exact DGet.k (k := Sum.inl k) h
section
variable {P : Program} {w : World} {K : PySem.W.Frag} {mg : Str → Option Value} {base : Heap} {f CY CB CJ : Addr} {fd : FuncData}
def spLRefuse : Sp := fun vs H Q _ => ∃ (fa p t ba fn : Addr) (dn : Bool) (n : Nat) (A : Ad) (S : Vs) (D : Du) (τ : Addr → Int) (B : BookR) (x : Int), vs = [.ref fa, .ref p, .ref t] ∧ SA dn n H p A S D τ ∧ Base n S ∧ H t = some (.tup [.str "begin", .str (kindS dn), .int x]) ∧ H fa = some (.dK (fkv B ba fn)) ∧ H ba = some (.lst (B.bars.map V.str)) ∧ x ∈ S.ok ∧
  (∀ r H', Same H H' → Q (.ref r) H') ∧ (∀ l H', S.bs x = some l → l ∈ S.ok → free2 S x l → barred B dn S x l = false → Same H H' → Q .non H')
theorem ok_llayer (Bt : Blt mg) (g0 : Gd P w K mg base "_law_is_number" 1 ["_law_thing"] spNum) (g1 : Gd P w K mg base "_law_is_open" 1 ["_law_sheet", "_law_seat"] spLOpen) (g2 : Gd P w K mg base "_law_has" 1 ["_law_sheet", "_law_name", "_law_wanted"] spLHas) (g3 : Gd P w K mg base "_law_above" 1 ["_law_sheet", "_law_below"] spLAbove)
    (F : Fu K "_law_layer_refusal" "_law_layer_refusal" (top 65) f fd) : FnOk P w K mg base CX0 2 f fd ["_law_fields", "_law_sheet", "_law_deed"] spLRefuse := by
  have sc : FnScope ["_law_fields", "_law_sheet", "_law_deed", "_law_found", "_law_bars_here", "_law_held", "_law_base", "_law_one", "_law_is_beside", "_law_word"] ["_law_fields", "_law_sheet", "_law_deed"] (defScope (top 65)) := ⟨rfl, rfl, rfl, by decide +kernel, rfl, by decide +kernel, by decide +kernel⟩
  obtain ⟨f0, d0, G0, e0, k0, b0⟩ := g0
  obtain ⟨f1, d1, G1, e1, k1, b1⟩ := g1
  obtain ⟨f2, d2, G2, e2, k2, b2⟩ := g2
  obtain ⟨f3, d3, G3, e3, k3, b3⟩ := g3
  refine F.ok sc (fun vs H Q E h => ?_) (fun cdv Ar outer s H vs Q E hr h => ?_)
  · obtain ⟨fa, p, t, _, _, _, _, _, _, _, _, _, _, rfl, _⟩ := h
    rfl
  · obtain ⟨fa, p, t, ba, fn, dn, n, A, S, D, τ, B, x, rfl, Y, BS, ht, hf, hba, hx, qr, qn⟩ := h
    have hu := hu_of hr
    obtain ⟨h1, R⟩ := id Y
    have hx0 := BS.oi x hx
    have ix1 : atI [V.str "begin", V.str (kindS dn), V.int x] 1 = some (.str (kindS dn)) := atI_nat (j := 1) rfl
    have jl : S.jk.length ≤ 1000 := Nat.le_trans (jk_len BS) (by decide)
    have jobs : ∀ {H' : Hp}, Same H H' → ∀ i ∈ S.jk, ∃ ma na sv, H' (A.jd i) = some (.dK (tkv (kindS dn) (S.jo i) ma na sv)) := fun s i hi => by
      obtain ⟨ma, na, sv, hj, _⟩ := R.hjd i hi
      exact ⟨ma, na, sv, s _ _ hj⟩
    have jne : ∀ i ∈ S.jk, A.jd i ≠ A.j := fun i hi => tag_ne (R.tjd i hi).1 R.tj (by have := (R.tjd i hi).2; omega)
    have pj : p ≠ A.j := tag_ne R.tp R.tj (by decide)
    have qt : ∀ {H' : Hp} {a b : V}, Same H H' → (2 ≤ sizeLine ∧ ∀ r, H' r = none → Q (.ref r) (upd H' r (.tup [a, b]))) := fun s => ⟨by decide, fun r hr => qr r _ (Same.newS s hr)⟩
    have hxa : ∀ l, S.bs x = some l → x ∈ above S l := fun l hb => by
      unfold above
      rw [List.mem_filter, decide_eq_true_iff]
      exact ⟨hx, hb⟩
    -- the last two rows
    have tail8 : ∃ T2, PSs (cxOf CX0 P w K mg base ["_law_fields", "_law_sheet", "_law_deed", "_law_found", "_law_bars_here", "_law_held", "_law_base", "_law_one", "_law_is_beside", "_law_word"] "_law_layer_refusal" (defScope (top 65)) f cdv Ar outer s H E).nox ((defBody (top 65)).drop 8) T2 ∧
        ∀ (o7 : Option V) (l : Int) (H2 : Hp), Same H H2 → S.bs x = some l → l ∈ S.ok → free2 S x l → (dn = true → ((B.bars.any fun k => decide (k = "open")) && isOpen S x) = false) →
          T2 { nx := fun _ H' => Q .non H', rt := Q } [some (.ref fa), some (.ref p), some (.ref t), some (.int x), some (.ref ba), none, some (.int l), o7, none, none] H2 := by
      refine ⟨_, pss_cons (ps_set (i := 8) sc.nd rfl (.inl rfl) (pe_and (pe_cmpR op_eq (pe_ix ix_tup (pv 2) pe_int (fun _ _ => rfl)) pe_str (nomark _)) (pe_and (pe_cmpR op_in_seq pe_str (pv 4) rfl) (pe_one (pe_cmpR (op_neD hr.units) (pe_call G3 hr rfl e3 k3 b3 .nil pass0 (pa_cons (pv 1) (pa_cons (pv 6) pa_nil))) (pe_lst (pa_cons (pv 3) pa_nil)) (nomark _))))))
        (pss_one (ps_ret (pe_ifExp (pt_val (pv 8)) (pe_tup (pa_cons pe_str (pa_cons pe_str pa_nil))) pe_non))), ?_⟩
      intro o7 l H2 s2 hb hl hfr hop
      have done : ∀ {H3 : Hp}, Same H H3 → barred B dn S x l = false → Q .non H3 := fun s h => qn l _ hb hl hfr h s
      have enx : (!decide (above S l = [x])) = notAlone S x l := by rw [only_iff (above_rising BS l) (hxa l hb)]; rfl
      refine ⟨_, rfl, t, _, _, .str (kindS dn), rfl, rfl, SqT.of (s2 _ _ ht), ix1, rfl, ?_⟩
      rw [kind_down]
      cases hdn : dn with
      | false => exact ⟨_, rfl, iteF ⟨_, rfl, false, rfl, iteF (done s2 (by rw [hdn]; rfl))⟩⟩
      | true =>
        refine ⟨_, rfl, iteT ⟨_, rfl, ba, _, rfl, .inl (SqL.of (s2 _ _ hba)), rfl, flat_strs _, ?_⟩⟩
        rw [inV_strs]
        cases hot : (B.bars.any fun k => decide (k = "others"))
        · exact ⟨_, rfl, iteF ⟨_, rfl, false, rfl, iteF (done s2 (by unfold barred; rw [hop hdn, hot, hdn]; rfl))⟩⟩
        · refine ⟨_, rfl, iteT ⟨_, rfl, _, rfl, p, n, n, S.bg, A, l, S, rfl, s2 _ _ h1, s2 _ _ R.hb, s2 _ _ R.ho, BS, fun q1 H5 hq1 s5 v5 => ?_⟩⟩
          refine ⟨_, rfl, (show 1 ≤ sizeLine from by decide), fun q2 hq2 => ?_⟩
          have s6 : Same H5 (upd H5 q2 (.lst [.int x])) := Same.newS (Same.refl _) hq2
          refine ⟨_, _, .lst (SqL.of (s6 _ _ v5)) (dpAll_ints K _ _), .lst (SqL.of upd_same) (dpAll_ints K _ [x]), shaped_ints _, shaped_ints [x], ?_⟩
          rw [eqv_ints, enx]
          have s06 := Same.trans s2 (Same.trans s5 s6)
          generalize upd H5 q2 (.lst [.int x]) = H6 at s06 ⊢
          refine ⟨_, rfl, notAlone S x l, rfl, ?_⟩
          cases hna : notAlone S x l
          · exact iteF (done s06 (by unfold barred; rw [hop hdn, hot, hdn, hna]; rfl))
          · exact iteT (qt s06)
    obtain ⟨T8, hT8, w8⟩ := tail8
    have tail7 : ∃ T2, PSs (cxOf CX0 P w K mg base ["_law_fields", "_law_sheet", "_law_deed", "_law_found", "_law_bars_here", "_law_held", "_law_base", "_law_one", "_law_is_beside", "_law_word"] "_law_layer_refusal" (defScope (top 65)) f cdv Ar outer s H E).nox ((defBody (top 65)).drop 7) T2 ∧
        ∀ (o7 : Option V) (l : Int) (H2 : Hp), Same H H2 → S.bs x = some l → l ∈ S.ok → free2 S x l →
          T2 { nx := fun _ H' => Q .non H', rt := Q } [some (.ref fa), some (.ref p), some (.ref t), some (.int x), some (.ref ba), none, some (.int l), o7, none, none] H2 := by
      refine ⟨_, pss_cons (ps_if (PW.pt (pw_and (pt_cmpR op_eq (pe_ix ix_tup (pv 2) pe_int (fun _ _ => rfl)) pe_str (nomark _)) (pw_and (pt_cmpR op_in_seq pe_str (pv 4) rfl) (pw_and1 (pt_val (pe_call G1 hr rfl e1 k1 b1 .nil pass0 (pa_cons (pv 1) (pa_cons (pv 3) pa_nil)))))))) (pss_one (ps_ret (pe_tup (pa_cons pe_str (pa_cons pe_str pa_nil))))) pss_nil) hT8, ?_⟩
      intro o7 l H2 s2 hb hl hfr
      refine ⟨_, rfl, t, _, _, .str (kindS dn), rfl, rfl, SqT.of (s2 _ _ ht), ix1, rfl, _, rfl, ?_⟩
      rw [kind_down]
      cases hdn : dn with
      | false => exact iteF (iteF (w8 o7 l H2 s2 hb hl hfr fun z => by rw [hdn] at z; cases z))
      | true =>
        refine iteT ⟨_, rfl, ba, _, rfl, .inl (SqL.of (s2 _ _ hba)), rfl, flat_strs _, _, rfl, ?_⟩
        rw [inV_strs]
        cases hot : (B.bars.any fun k => decide (k = "open"))
        · exact iteF (iteF (w8 o7 l H2 s2 hb hl hfr fun _ => by rw [hot]; rfl))
        · refine iteT ⟨_, rfl, _, rfl, p, n, S.bg, A, x, S, rfl, s2 _ _ h1, s2 _ _ R.hs, fun H3 s3 => ⟨isOpen S x, rfl, ?_⟩⟩
          cases hop : isOpen S x
          · exact iteF (w8 o7 l H3 (Same.trans s2 s3) hb hl hfr fun _ => by rw [hot, hop]; rfl)
          · exact iteT (qt (Same.trans s2 s3))
    obtain ⟨T7, hT7, w7⟩ := tail7
    refine ⟨_, PSs.nox (pss_cons (ps_asg (pe_tup (pa_cons (pe_ix ix_tup (pv 2) (pe_un un_neg pe_int) (fun _ _ => rfl)) (pa_cons (pe_dget hu (pv 0) pe_str (fun _ _ => rfl)) pa_nil))) (pg_tup rfl (pgs_cons (pg_name (i := 3) sc.nd rfl (Or.inr rfl)) (pgs_cons (pg_name (i := 4) sc.nd rfl (Or.inr rfl)) pgs_nil))))
      (pss_cons (ps_if (PW.pt (pw_and (pt_cmpR op_eq (pe_ix ix_tup (pv 2) pe_int (fun _ _ => rfl)) pe_str (nomark _)) (pw_and1 (PW.pt (pw_or (pt_not (pt_val (pe_callB call_isi rfl Bt.isinstance boot_isinstance (pa_cons (pe_ix ix_tup (pv 2) pe_int (fun _ _ => rfl)) (pa_cons (pe_bltn rfl Bt.str PyProof.Rows.boot_str (v := .ty "str") rfl) pa_nil))))) (pw_or1 (pt_cmpR op_notIn_seq (pe_ix ix_tup (pv 2) pe_int (fun _ _ => rfl)) (pe_lst (pa_cons pe_str (pa_cons pe_str pa_nil))) rfl))))))) (pss_one ps_never) pss_nil)
      (pss_cons (ps_if (PW.pt (pw_or (pt_not (pt_val (pe_call G0 hr rfl e0 k0 b0 .nil pass0 (pa_cons (pv 3) pa_nil)))) (pw_or1 (pt_cmp (pc_dnotin hu (pv 3) (pe_dget hu (pv 1) pe_str (fun _ _ => rfl))))))) (pss_one ps_never) pss_nil)
      (pss_cons (ps_if (pt_cmpR op_eq (pe_ix ix_tup (pv 2) pe_int (fun _ _ => rfl)) pe_str (nomark _)) pss_never pss_nil)
      (pss_cons (ps_set (i := 6) sc.nd rfl (.inl rfl) (pe_dget hu (pe_dget hu (pv 1) pe_str (fun _ _ => rfl)) (pv 3) (fun _ _ => rfl)))
      (pss_cons (ps_if (PW.pt (pw_or (pt_cmp (pc_isN (pv 6))) (pw_or1 (pt_cmp (pc_dnotin hu (pv 6) (pe_dget hu (pv 1) pe_str (fun _ _ => rfl))))))) (pss_one (ps_ret (pe_tup (pa_cons pe_str (pa_cons (pv 3) pa_nil))))) pss_nil)
      (pss_cons (ps_for PassesOwn.never rfl (pi_list (pe_callB cr_sorted (by rfl) Bt.sorted boot_sorted (pa_cons (pe_lst (pa_cons (pv 3) (pa_cons (pv 6) pa_nil))) pa_nil))) (pg_name (i := 7) sc.nd rfl (Or.inl rfl))
        (pss_one (ps_if (PW.pt (pw_or (pt_val (pe_call G2 hr rfl e2 k2 b2 .nil pass0 (pa_cons (pv 1) (pa_cons pe_str (pa_cons (pv 7) pa_nil))))) (pw_or1 (pt_val (pe_call G2 hr rfl e2 k2 b2 .nil pass0 (pa_cons (pv 1) (pa_cons pe_str (pa_cons (pv 7) pa_nil)))))))) (pss_one (ps_ret (pe_tup (pa_cons pe_str (pa_cons (pv 7) pa_nil))))) pss_nil)))
      hT7))))))), ?_⟩
    refine ⟨_, rfl, 1, rfl, t, _, _, .int x, rfl, rfl, SqT.of ht, atI_last [V.str "begin", V.str (kindS dn)] (.int x), _, rfl, fa, _, rfl, fk_bars hf, (show 2 ≤ sizeLine from by decide), fun t2 ht2 => ⟨t2, _, rfl, SqT.of upd_same, rfl, _, _, rfl, _, _, rfl, rfl, ?_⟩⟩
    have s1 : Same H (upd H t2 (.tup [.int x, .ref ba])) := Same.newS (Same.refl _) ht2
    generalize upd H t2 (.tup [.int x, .ref ba]) = H1 at s1 ⊢
    refine ⟨_, rfl, t, _, _, .str "begin", rfl, rfl, SqT.of (s1 _ _ ht), atI_nat (j := 0) rfl, rfl, _, rfl, ?_⟩
    rw [vstr, decide_eq_true rfl]
    refine iteT ⟨_, rfl, t, _, _, .str (kindS dn), rfl, rfl, SqT.of (s1 _ _ ht), ix1, .str (kindS dn), .ty "str", .type "str", .type "str", true, rfl, .ty _, .base (.str _), kit_ty (by decide +kernel), true, rfl, iteF ⟨_, rfl, t, _, _, .str (kindS dn), rfl, rfl, SqT.of (s1 _ _ ht), ix1, (show 2 ≤ sizeLine from by decide), fun l0 hl0 => ⟨l0, _, rfl, .inl (SqL.of upd_same), rfl, flat_strs ["up", "down"], _, rfl, ?_⟩⟩⟩
    rw [kind_in]
    have s2 : Same H (upd H1 l0 (.lst [.str "up", .str "down"])) := Same.newS s1 hl0
    generalize upd H1 l0 (.lst [.str "up", .str "down"]) = H2 at s2 ⊢
    refine iteF ⟨_, rfl, x, rfl, true, rfl, iteF ⟨_, rfl, _, rfl, p, _, rfl, sk_owned (s2 _ _ h1), A.o, _, rfl, dI_get (s2 _ _ R.ho) hx, _, rfl, iteF ?_⟩⟩
    refine ⟨_, rfl, t, _, _, .str "begin", rfl, rfl, SqT.of (s2 _ _ ht), atI_nat (j := 0) rfl, rfl, _, rfl, ?_⟩
    rw [vstr, decide_eq_false (by decide +kernel)]
    refine iteF ⟨_, rfl, p, _, rfl, sk_bases (s2 _ _ h1), _, rfl, A.b, _, rfl, dI_get (s2 _ _ R.hb) (mem_rng.mpr hx0), ?_⟩
    cases hb : S.bs x with
    | none => exact ⟨_, rfl, true, rfl, iteT (iteT ⟨_, rfl, qt s2⟩)⟩
    | some l =>
      refine ⟨_, rfl, false, rfl, iteF ⟨_, rfl, _, rfl, p, _, rfl, sk_owned (s2 _ _ h1), A.o, _, rfl, dI_has (s2 _ _ R.ho), _, rfl, ?_⟩⟩
      by_cases hl : l ∈ S.ok
      case neg =>
        rw [if_neg hl]
        exact iteT ⟨_, rfl, qt s2⟩
      rw [if_pos hl]
      refine iteF ⟨_, rfl, _, rfl, (show 2 ≤ sizeLine from by decide), fun p1 hp1 => ⟨p1, [x, l], rfl, SqL.of upd_same, (show 2 < 64 from by decide), fun ys p2 hperm hsrt hp2 => ?_⟩⟩
      have s3 : Same H (upd (upd H2 p1 (.lst [.int x, oV (some l)])) p2 (.lst (ys.map V.int))) := Same.newS (Same.newS s2 hp1) hp2
      have v3 : (upd (upd H2 p1 (.lst [.int x, oV (some l)])) p2 (.lst (ys.map V.int))) p2 = some (.lst (ys.map V.int)) := upd_same
      generalize upd (upd H2 p1 (.lst [.int x, oV (some l)])) p2 (.lst (ys.map V.int)) = H3 at s3 v3 ⊢
      refine ⟨p2, rfl, ⟨_, SqL.of v3⟩, ?_⟩
      refine for_it (walk_list (K := K) (a := p2) (xs := ys.map V.int)) (fun k σ H' => ∃ o7, σ = [some (.ref fa), some (.ref p), some (.ref t), some (.int x), some (.ref ba), none, some (.int l), o7, none, none] ∧ Same H3 H' ∧ ∀ z ∈ ys.take k, ∀ i ∈ S.jk, (S.jo i).up ≠ z ∧ (S.jo i).lo ≠ z)
        ⟨_, rfl, Same.refl _, fun z hz => (by rw [List.take_zero] at hz; cases hz)⟩ (fun k σ H' _ ⟨_, _, x, _⟩ => SqL.of (x _ _ v3)) ?_ ?_
      · rintro k v σ H4 H5 hk ⟨o7, rfl, s4, old⟩ ⟨rfl, hv⟩
        rw [List.getElem?_map] at hv
        obtain ⟨z, hz, rfl⟩ : ∃ z, ys[k]? = some z ∧ v = V.int z := by
          cases e : ys[k]? with
          | none => rw [e] at hv; cases hv
          | some z => rw [e] at hv; exact ⟨z, rfl, (Option.some.inj hv).symm⟩
        have s5 := Same.trans s3 s4
        refine ⟨_, rfl, _, rfl, p, n, S.bg, A, z, S, "upper", kindS dn, Jb.up, rfl, s5 _ _ h1, s5 _ _ R.hj, jl, jobs s5, jne, pj, .inl ⟨rfl, rfl⟩, fun H6 s6 => ⟨S.jk.any fun i => decide ((S.jo i).up = z), rfl, ?_⟩⟩
        have s06 := Same.trans s5 s6
        cases hu1 : S.jk.any fun i => decide ((S.jo i).up = z)
        · refine iteF ⟨_, rfl, _, rfl, p, n, S.bg, A, z, S, "lower", kindS dn, Jb.lo, rfl, s06 _ _ h1, s06 _ _ R.hj, jl, jobs s06, jne, pj, .inr ⟨rfl, rfl⟩, fun H7 s7 => ⟨S.jk.any fun i => decide ((S.jo i).lo = z), rfl, ?_⟩⟩
          have s07 := Same.trans s06 s7
          cases hl1 : S.jk.any fun i => decide ((S.jo i).lo = z)
          · refine iteF ⟨_, rfl, Same.trans s4 (Same.trans s6 s7), fun y hy i hi => ?_⟩
            rw [List.take_add_one, hz] at hy
            rcases List.mem_append.mp hy with h | h
            · exact old y h i hi
            · have e : y = z := by simpa using h
              subst e
              rw [List.any_eq_false] at hu1 hl1
              exact ⟨fun e => hu1 i hi (decide_eq_true e), fun e => hl1 i hi (decide_eq_true e)⟩
          · exact iteT ⟨_, rfl, qt s07⟩
        · exact iteT (iteT ⟨_, rfl, qt s06⟩)
      · rintro σ H4 ⟨o7, rfl, s4, old⟩
        rw [List.length_map, List.take_length] at old
        refine w7 o7 l H4 (Same.trans s3 s4) hb hl fun i hi => ?_
        have mx := old x (hperm.mem_iff.mpr (by simp)) i hi
        have ml := old l (hperm.mem_iff.mpr (by simp)) i hi
        exact ⟨mx.1, mx.2, ml.1, ml.2⟩
def spLRefusal : Sp := fun vs H Q e => spLRefuse vs H Q e
theorem ok_lrefusal (g1 : Gd P w K mg base "_law_layer_refusal" 2 ["_law_fields", "_law_sheet", "_law_deed"] spLRefuse) (F : Fu K "_law_refusal" "_law_refusal" (top 66) f fd) : FnOk P w K mg base CX0 3 f fd ["_law_fields", "_law_sheet", "_law_deed"] spLRefuse := by
  have sc : FnScope ["_law_fields", "_law_sheet", "_law_deed", "_law_is_none"] ["_law_fields", "_law_sheet", "_law_deed"] (defScope (top 66)) := ⟨rfl, rfl, rfl, by decide +kernel, rfl, by decide +kernel, by decide +kernel⟩
  obtain ⟨f1, d1, G1, e1, k1, b1⟩ := g1
  refine F.ok sc (fun vs H Q E h => ?_) (fun cdv Ar outer s H vs Q E hr h => ?_)
  · obtain ⟨fa, p, t, _, _, _, _, _, _, _, _, _, _, rfl, _⟩ := h
    rfl
  · obtain ⟨fa, p, t, ba, fn, dn, n, A, S, D, τ, B, x, rfl, Y, BS, ht, hf, hba, hx, qr, qn⟩ := h
    refine ⟨_, PSs.nox (pss_cons (ps_if (pt_cmpR op_in_seq (pe_ix ix_tup (pv 2) pe_int (fun _ _ => rfl)) (pe_tup (pa_cons pe_str (pa_cons pe_str pa_nil))) rfl) (pss_one ps_never) pss_nil)
      (pss_cons (ps_if (pt_cmpR op_in_seq (pe_ix ix_tup (pv 2) pe_int (fun _ _ => rfl)) (pe_tup (pa_cons pe_str (pa_cons pe_str pa_nil))) rfl) (pss_one (ps_ret (pe_call G1 hr rfl e1 k1 b1 .nil pass0 (pa_cons (pv 0) (pa_cons (pv 1) (pa_cons (pv 2) pa_nil)))))) pss_nil)
      pss_never)), ?_⟩
    have i1 : inV (V.str "begin") [V.str "write", V.str "cover"] = false := by decide +kernel
    have i2 : inV (V.str "begin") [V.str "branch", V.str "begin"] = true := by decide +kernel
    refine ⟨_, rfl, t, _, _, .str "begin", rfl, rfl, SqT.of ht, atI_nat (j := 0) rfl, (show 2 ≤ sizeLine from by decide), fun l0 hl0 => ⟨l0, _, rfl, .inr (SqT.of upd_same), rfl, flat_strs ["write", "cover"], _, rfl, ?_⟩⟩
    rw [i1]
    have s1 : Same H (upd H l0 (.tup [.str "write", .str "cover"])) := Same.newS (Same.refl _) hl0
    generalize upd H l0 (.tup [.str "write", .str "cover"]) = H1 at s1 ⊢
    refine iteF ⟨_, rfl, t, _, _, .str "begin", rfl, rfl, SqT.of (s1 _ _ ht), atI_nat (j := 0) rfl, (show 2 ≤ sizeLine from by decide), fun l1 hl1 => ⟨l1, _, rfl, .inr (SqT.of upd_same), rfl, flat_strs ["branch", "begin"], _, rfl, ?_⟩⟩
    rw [i2]
    have s2 : Same H (upd H1 l1 (.tup [.str "branch", .str "begin"])) := Same.newS s1 hl1
    generalize upd H1 l1 (.tup [.str "branch", .str "begin"]) = H2 at s2 ⊢
    exact iteT ⟨_, rfl, _, rfl, _, rfl, fa, p, t, ba, fn, dn, n, A, S, D, τ, B, x, rfl, Y.same s2, BS, s2 _ _ ht, s2 _ _ hf, s2 _ _ hba, hx, fun r H' s => qr r H' (Same.trans s2 s), fun l H' a b c d s => qn l H' a b c d (Same.trans s2 s)⟩
end
end K20W
end
/-! V15 -/
section
set_option Elab.async false
set_option linter.all false
set_option maxRecDepth 100000
set_option maxHeartbeats 4000000
/-! the draws. -/
namespace K20W
open PySem L2 K20
def dkv (wa ca : Addr) (rest turn : Int) : List (Key × V) := [(Sum.inr "wide", .ref wa), (Sum.inr "cells", .ref ca), (Sum.inr "rest", .int rest), (Sum.inr "turn", .int turn)]
/-- the state of the draws: at dr, its list of large numbers at wa, at most c turns -/
def Dw (H : Hp) (dr : Addr) (wa : Addr × Addr) (c : Nat) : Prop := ∃ (wide cells : List Int) (rest turn : Int), H dr = some (.dK (dkv wa.1 wa.2 rest turn)) ∧ H wa.1 = some (.lst (wide.map V.int)) ∧ H wa.2 = some (.lst (cells.map V.int)) ∧ wa.1 ≠ wa.2 ∧ 0 ≤ turn ∧ turn ≤ c
theorem Dw.mono {H : Hp} {dr : Addr} {wa : Addr × Addr} {c c' : Nat} (h : Dw H dr wa c) (l : c ≤ c') : Dw H dr wa c' := by
  obtain ⟨wide, cells, rest, turn, h1, h2, h3, h4, h5, h6⟩ := h
  exact ⟨wide, cells, rest, turn, h1, h2, h3, h4, h5, by omega⟩
theorem Dw.same {H H' : Hp} {dr : Addr} {wa : Addr × Addr} {c : Nat} (h : Dw H dr wa c) (s : Same H H') : Dw H' dr wa c := by
  obtain ⟨wide, cells, rest, turn, h1, h2, h3, h4⟩ := h
  exact ⟨wide, cells, rest, turn, s _ _ h1, s _ _ h2, s _ _ h3, h4⟩
/-- all stays but what is at dr and at wa -/
def OffD (dr : Addr) (wa : Addr × Addr) (H H' : Hp) : Prop := ∀ a o, H a = some o → a ≠ dr → a ≠ wa.1 → H' a = some o
theorem OffD.of {dr : Addr} {wa : Addr × Addr} {H H' : Hp} (s : Same H H') : OffD dr wa H H' := fun a o h _ _ => s a o h
theorem OffD.trans {dr : Addr} {wa : Addr × Addr} {H H1 H2 : Hp} (a : OffD dr wa H H1) (b : OffD dr wa H1 H2) : OffD dr wa H H2 := fun c o h n1 n2 => b c o (a c o h n1 n2) n1 n2
theorem OffD.upd1 {dr : Addr} {wa : Addr × Addr} {H H1 : Hp} (a : OffD dr wa H H1) (o : HO) : OffD dr wa H (upd H1 dr o) := fun c x h n1 n2 => by
  rw [upd_ne n1]
  exact a c x h n1 n2
theorem dk_get {H : Hp} {dr wa ca : Addr} {rest turn : Int} (h : H dr = some (.dK (dkv wa ca rest turn))) : DGet H dr (.str "wide") (some (.ref wa)) ∧ DGet H dr (.str "cells") (some (.ref ca)) ∧ DGet H dr (.str "rest") (some (.int rest)) ∧ DGet H dr (.str "turn") (some (.int turn)) :=
  ⟨DGet.k (k := Sum.inr "wide") h, DGet.k (k := Sum.inr "cells") h, DGet.k (k := Sum.inr "rest") h, DGet.k (k := Sum.inr "turn") h⟩
theorem dk_turn (wa ca : Addr) (rest turn z : Int) : putK (dkv wa ca rest turn) (Sum.inr "turn") (.int z) = dkv wa ca rest z := by kernel_rfl
theorem dk_rest (wa ca : Addr) (rest turn z : Int) : putK (dkv wa ca rest turn) (Sum.inr "rest") (.int z) = dkv wa ca z turn := by kernel_rfl
theorem dk_merge (wa ca : Addr) (rest turn : Int) : mergeK [] (dkv wa ca rest turn) = dkv wa ca rest turn := by kernel_rfl
theorem dk_set {H : Hp} {dr wa ca : Addr} {rest turn : Int} (h : H dr = some (.dK (dkv wa ca rest turn))) (y : Str) (v : V) : DPut H dr (.str y) v (upd H dr (.dK (putK (dkv wa ca rest turn) (Sum.inr y) v))) := DPut.k (k := Sum.inr y) h (small1000 (show 4 ≤ 1000 by decide))
theorem SqL.keep {K : PySem.W.Frag} {H H' : Hp} {a : Addr} {xs : List V} (s : ∀ o, H a = some o → H' a = some o) (h : SqL K H a xs) : SqL K H' a xs := by
  rcases h with h | h
  · left
    rcases h with h | ⟨o, h⟩
    · exact .inl (s _ h)
    · exact .inr ⟨o, s _ h⟩
  · exact .inr h
section
variable {P : Program} {w : World} {K : PySem.W.Frag} {mg : Str → Option Value} {base : Heap} {f CY CB CJ : Addr} {fd : FuncData}
def spBegun (K : PySem.W.Frag) : Sp := fun vs H Q _ => ∃ (sa : Addr) (ns : List Int), vs = [.ref sa] ∧ SqL K H sa (ns.map V.int) ∧ ns.length ≤ 1000 ∧ ∀ dr (wa : Addr × Addr) H', Same H H' → H dr = none → H wa.1 = none → H wa.2 = none → Dw H' dr wa 0 → Q (.ref dr) H'
theorem ok_begun (Bt : Blt mg) (F : Fu K "_law_begun" "_law_begun" (top 50) f fd) : FnOk P w K mg base CX0 1 f fd ["_law_script"] (spBegun K) := by
  have sc : FnScope ["_law_script", "_law_wide", "_law_cell"] ["_law_script"] (defScope (top 50)) := ⟨rfl, rfl, rfl, by decide +kernel, rfl, by decide +kernel, by decide +kernel⟩
  refine F.ok sc (fun vs H Q E h => ?_) (fun cdv Ar outer s H vs Q E hr h => ?_)
  · obtain ⟨sa, _, rfl, _⟩ := h
    rfl
  · obtain ⟨sa, ns, rfl, hs, hn, q⟩ := h
    have hu := hu_of hr
    refine ⟨_, pss_cons (ps_setLc (i := 1) (own := [("_law_cell", 2)]) (g := gName 2) (by rfl) sc.nd rfl rfl (sw_true rfl rfl rfl (by decide +kernel)) (pi_list (pv 0))
        (blkOk_by (own := [("_law_cell", 2)]) (N := ["_law_script", "_law_wide", "_law_cell"]) (sc := defScope (top 50)) (by decide +kernel))
        (fun _ _ _ _ _ => pg_name (i := 2) sc.nd rfl (Or.inl rfl)) (fun _ _ _ _ _ => pts_one (pt_cmpR op_ge (pe_callB call_abs rfl Bt.abs boot_abs (pa_cons (pv 2) pa_nil)) (pe_op op_pow pe_int pe_int) (nomark _))) (fun _ _ _ _ _ => pe_op op_sub (pe_callB call_abs rfl Bt.abs boot_abs (pa_cons (pv 2) pa_nil)) (pe_op op_pow pe_int pe_int)))
      (pss_one (ps_ret (pe_disp (pps_cons pe_str (pv 1) (pps_cons pe_str (pe_lc (own := [("_law_cell", 2)]) (g := gName 2) (by rfl) sc.nd (pi_list (pv 0))
        (blkOk_by (own := [("_law_cell", 2)]) (N := ["_law_script", "_law_wide", "_law_cell"]) (sc := defScope (top 50)) (by decide +kernel))
        (fun _ _ _ _ _ => pg_name (i := 2) sc.nd rfl (Or.inl rfl)) (fun _ _ _ _ _ => pts_nil) (fun _ _ _ _ _ => pe_op op_mod (pe_callTy call_int1 rfl Bt.int PyProof.Rows.boot_int (pa_cons (pe_callB call_abs rfl Bt.abs boot_abs (pa_cons (pv 2) pa_nil)) pa_nil)) pe_int)) (pps_cons pe_str pe_int (pps_cons pe_str pe_int pps_nil)))) rfl rfl (by decide) (by decide)))), ?_⟩
    have zl : (ns.map V.int).length < sizeLine := by
      rw [List.length_map]
      exact Nat.lt_of_le_of_lt hn (by decide)
    refine ⟨_, rfl, sa, rfl, ⟨_, hs⟩, fun wa hwa => ?_⟩
    refine lc_pick (walk_list (K := K) (a := sa) (xs := ns.map V.int)) hwa (fun v => match v with | .int k => decide ((10 : Int) ^ (18 : Int).toNat ≤ if k < 0 then -k else k) | _ => false) (fun v => match v with | .int k => .int ((if k < 0 then -k else k) - (10 : Int) ^ (18 : Int).toNat) | _ => .non) (Nat.le_of_lt zl) (fun H2 s2 => SqL.keep (fun o h => s2 _ _ h) hs) (fun x H2 hx s2 Q' hq => ?_) (fun x H2 hx _ s2 Q' hq => ?_) fun H2 s2 hD2 => ?_
    · obtain ⟨z, _, rfl⟩ := List.mem_map.mp hx
      exact ⟨_, rfl, z, rfl, _, _, rfl, rfl, ⟨by decide, by decide, by decide⟩, _, _, rfl, rfl, _, rfl, hq _ (Same.refl _)⟩
    · obtain ⟨z, _, rfl⟩ := List.mem_map.mp hx
      exact ⟨_, rfl, z, rfl, _, _, rfl, rfl, ⟨by decide, by decide, by decide⟩, _, _, rfl, rfl, hq _ (Same.refl _)⟩
    · obtain ⟨wide, hw⟩ : ∃ wide : List Int, H2 wa = some (.lst (wide.map V.int)) := by
        refine ⟨(ns.filter fun k => decide ((10 : Int) ^ (18 : Int).toNat ≤ if k < 0 then -k else k)).map fun k => (if k < 0 then -k else k) - (10 : Int) ^ (18 : Int).toNat, ?_⟩
        rw [hD2, List.filter_map, List.map_map, List.map_map]
        rfl
      clear hD2
      intro dr hdr
      have s3 : Same H2 (upd H2 dr (.dK [])) := Same.newS (Same.refl _) hdr
      have g3 : (upd H2 dr (.dK [])) dr = some (.dK []) := upd_same
      generalize upd H2 dr (.dK []) = H3 at s3 g3 ⊢
      have s03 := Same.trans s2 s3
      refine ⟨_, rfl, _, rfl, sa, rfl, ⟨_, SqL.keep (fun o h => s03 _ _ h) hs⟩, fun ca hca => ?_⟩
      refine lc_pick (walk_list (K := K) (a := sa) (xs := ns.map V.int)) hca (fun _ => true) (fun v => match v with | .int k => .int ((if k < 0 then -k else k) % 2147483629) | _ => .non) (Nat.le_of_lt zl) (fun H4 s4 => SqL.keep (fun o h => s4 _ _ (s03 _ _ h)) hs) (fun x H4 hx s4 Q' hq => hq _ (Same.refl _)) (fun x H4 hx _ s4 Q' hq => ?_) fun H4 s4 hD4 => ?_
      · obtain ⟨z, _, rfl⟩ := List.mem_map.mp hx
        exact ⟨_, rfl, z, rfl, .inl ⟨_, rfl, _, _, rfl, rfl, (show (0 : Int) < 2147483629 by decide), hq _ (Same.refl _)⟩⟩
      · obtain ⟨cells, hc⟩ : ∃ cells : List Int, H4 ca = some (.lst (cells.map V.int)) := by
          refine ⟨ns.map fun k => (if k < 0 then -k else k) % 2147483629, ?_⟩
          rw [hD4, List.filter_eq_self.mpr fun _ _ => rfl, List.map_map, List.map_map]
          rfl
        refine ⟨s4 _ _ g3, dkv wa ca 0 0, rfl, le15 rfl, ?_⟩
        rw [dk_merge]
        have hw4 := s4 _ _ (s3 _ _ hw)
        have ndr : H dr = none := s2.free hdr
        refine q dr (wa, ca) _ (fun b o hb => ?_) ndr hwa (s03.free hca) ⟨wide, cells, 0, 0, upd_same, ?_, ?_, ?_, Int.le_refl _, Int.le_refl _⟩
        · rw [upd_ne (ne_of_none hb ndr)]
          exact s4 _ _ (s03 _ _ hb)
        · show (upd _ _ _) wa = _
          rw [upd_ne (ne_of_none hw hdr)]
          exact hw4
        · show (upd _ _ _) ca = _
          rw [upd_ne (fun e : ca = dr => by rw [e, g3] at hca; cases hca)]
          exact hc
        · exact ne_of_none (s3 _ _ hw) hca
def spMixed : Sp := fun vs H Q _ => ∃ (dr : Addr) (wa : Addr × Addr) (c : Nat), vs = [.ref dr] ∧ Dw H dr wa c ∧ c ≤ 1000000 ∧ ∀ r H', Dw H' dr wa (c + 1) → OffD dr wa H H' → (∀ o, H wa.1 = some o → H' wa.1 = some o) → Q (.int r) H'
theorem ok_mixed (Bt : Blt mg) (F : Fu K "_law_mixed" "_law_mixed" (top 51) f fd) : FnOk P w K mg base CX0 1 f fd ["_law_draw"] spMixed := by
  have sc : FnScope ["_law_draw", "_law_turn", "_law_found", "_law_prime", "_law_blend", "_law_cell"] ["_law_draw"] (defScope (top 51)) := ⟨rfl, rfl, rfl, by decide +kernel, rfl, by decide +kernel, by decide +kernel⟩
  refine F.ok sc (fun vs H Q E h => ?_) (fun cdv Ar outer s H vs Q E hr h => ?_)
  · obtain ⟨dr, _, _, rfl, _⟩ := h
    rfl
  · obtain ⟨dr, ⟨wa, ca⟩, c, rfl, ⟨wide, cells, rest, turn, h1, h2, h3, nwc, t0, tc⟩, hc, q⟩ := h
    have nwc : wa ≠ ca := nwc
    have h1 : H dr = some (.dK (dkv wa ca rest turn)) := h1
    have h2 : H wa = some (.lst (wide.map V.int)) := h2
    have h3 : H ca = some (.lst (cells.map V.int)) := h3
    have hu := hu_of hr
    obtain ⟨d1, d2, d3, d4⟩ := dk_get h1
    refine ⟨_, PSs.nox (pss_cons (ps_par (i := 1) (j := 2) (by rfl) sc.nd rfl rfl (by decide) rfl rfl (pa_cons (pe_op op_add (pe_dget hu (pv 0) pe_str (fun _ _ => rfl)) pe_int) (pa_cons pe_int pa_nil)) rfl)
      (pss_cons (ps_dput hu (pv 0) pe_str (pv 1) rfl)
      (pss_cons (ps_for PassesOwn.never rfl (pi_list (pe_lst (pa_cons pe_int (pa_cons pe_int (pa_cons pe_int (pa_cons pe_int pa_nil)))))) (pg_name (i := 3) sc.nd rfl (Or.inl rfl))
        (pss_cons (ps_set (i := 4) sc.nd rfl (.inl rfl) (pe_op op_add (pe_op op_mul pe_int (pv 1)) (pe_op op_fdiv (pv 3) pe_int)))
        (pss_cons (ps_for PassesOwn.never rfl (pi_list (pe_dget hu (pv 0) pe_str (fun _ _ => rfl))) (pg_name (i := 5) sc.nd rfl (Or.inl rfl))
          (pss_one (ps_set (i := 4) sc.nd rfl (.inl rfl) (pe_op op_mod (pe_callTy call_int1 rfl Bt.int PyProof.Rows.boot_int (pa_cons (pe_op op_add (pe_op op_add (pe_op op_mul (pv 4) pe_int) (pv 5)) (pv 1)) pa_nil)) (pv 3)))))
        (pss_one (ps_set (i := 2) sc.nd rfl (.inl rfl) (pe_op op_add (pe_op op_mul (pv 2) pe_int) (pe_op op_mod (pe_callTy call_int1 rfl Bt.int PyProof.Rows.boot_int (pa_cons (pe_op op_pow (pv 4) pe_int) pa_nil)) (pv 3))))))))
      (pss_one (ps_ret (pv 2)))))), ?_⟩
    refine ⟨_, rfl, dr, _, rfl, d4, _, _, rfl, rfl, _, _, rfl, ?_⟩
    refine ⟨_, rfl, _, rfl, dr, _, rfl, dk_set h1 "turn" _, ?_⟩
    rw [dk_turn]
    have nwd : wa ≠ dr := ne_of h2 h1 (by intro z; cases z)
    have ncd : ca ≠ dr := ne_of h3 h1 (by intro z; cases z)
    have o1 : OffD dr (wa, ca) H (upd H dr (.dK (dkv wa ca rest (turn + 1)))) := OffD.upd1 (OffD.of (Same.refl _)) _
    have v1 : (upd H dr (.dK (dkv wa ca rest (turn + 1)))) dr = some (.dK (dkv wa ca rest (turn + 1))) := upd_same
    have v2 : (upd H dr (.dK (dkv wa ca rest (turn + 1)))) wa = some (.lst (wide.map V.int)) := by rw [upd_ne nwd]; exact h2
    have v3 : (upd H dr (.dK (dkv wa ca rest (turn + 1)))) ca = some (.lst (cells.map V.int)) := by rw [upd_ne ncd]; exact h3
    generalize upd H dr (.dK (dkv wa ca rest (turn + 1))) = H1 at o1 v1 v2 v3 ⊢
    refine ⟨(show 4 ≤ sizeLine from by decide), fun li hli => ?_⟩
    have hv : (upd H1 li (.lst [.int 2147483629, .int 2147483587, .int 2147483579, .int 2147483563])) li = some (.lst [.int 2147483629, .int 2147483587, .int 2147483579, .int 2147483563]) := upd_same
    refine ⟨li, rfl, ⟨_, SqL.of hv⟩, ?_⟩
    have s2 : Same H1 (upd H1 li (.lst [.int 2147483629, .int 2147483587, .int 2147483579, .int 2147483563])) := Same.newS (Same.refl _) hli
    generalize upd H1 li (.lst [.int 2147483629, .int 2147483587, .int 2147483579, .int 2147483563]) = H2 at hv s2 ⊢
    refine for_it (walk_list (K := K) (a := li) (xs := [.int 2147483629, .int 2147483587, .int 2147483579, .int 2147483563])) (fun k σ H' => H' = H2 ∧ ∃ (fo : Int) (o3 o4 o5 : Option V), σ = [some (.ref dr), some (.int (turn + 1)), some (.int fo), o3, o4, o5])
      ⟨rfl, 0, none, none, none, rfl⟩ (fun k σ H' _ ⟨e, _⟩ => e ▸ SqL.of hv) ?_ ?_
    · rintro k x σ H' H3 hk ⟨rfl, fo, o3, o4, o5, rfl⟩ ⟨rfl, hx⟩
      obtain ⟨pr, rfl, p1, p2⟩ : ∃ pr : Int, x = .int pr ∧ 2147483000 ≤ pr ∧ pr ≤ 2147484000 := by
        rcases k with _ | _ | _ | _ | k
        · cases hx
          exact ⟨_, rfl, by decide, by decide⟩
        · cases hx
          exact ⟨_, rfl, by decide, by decide⟩
        · cases hx
          exact ⟨_, rfl, by decide, by decide⟩
        · cases hx
          exact ⟨_, rfl, by decide, by decide⟩
        · have hk : k + 1 + 1 + 1 + 1 < 4 := hk
          omega
      refine ⟨_, rfl, _, _, rfl, rfl, .inl ⟨by decide, by decide⟩, _, rfl, _, _, rfl, rfl, ⟨by decide, by decide⟩, _, _, rfl, rfl, ?_⟩
      refine ⟨_, rfl, dr, _, rfl, (dk_get (s2 _ _ v1)).2.1, ca, rfl, ⟨_, SqL.of (s2 _ _ v3)⟩, ?_⟩
      refine for_it (walk_list (K := K) (a := ca) (xs := cells.map V.int)) (fun k σ H' => H' = H3 ∧ ∃ (bl : Int) (o5 : Option V), σ = [some (.ref dr), some (.int (turn + 1)), some (.int fo), some (.int pr), some (.int bl), o5] ∧ 0 ≤ bl ∧ bl < 1000000000000000000)
        ⟨rfl, _, _, rfl, by omega, by omega⟩ (fun k σ H' _ ⟨e, _⟩ => e ▸ SqL.of (s2 _ _ v3)) ?_ ?_
      · rintro k x σ H' H4 hk ⟨rfl, bl, o5, rfl, b0, b1⟩ ⟨rfl, hx⟩
        obtain ⟨z, _, rfl⟩ := List.mem_map.mp (List.mem_of_getElem? hx)
        refine ⟨_, rfl, _, _, rfl, rfl, .inr ⟨by decide, by decide⟩, _, rfl, _, _, rfl, rfl, _, rfl, _, _, rfl, rfl, .inl ⟨_, rfl, _, rfl, _, _, rfl, rfl, (by omega : (0 : Int) < pr), ?_⟩⟩
        exact ⟨rfl, _, _, rfl, Int.emod_nonneg _ (by omega), Int.lt_trans (Int.emod_lt_of_pos _ (by omega)) (by omega)⟩
      · rintro σ H4 ⟨rfl, bl, o5, rfl, b0, b1⟩
        refine ⟨_, rfl, _, _, rfl, rfl, .inr ⟨by decide, by decide⟩, _, rfl, _, _, rfl, rfl, ⟨by decide, by decide, by omega⟩, .inl ⟨_, rfl, _, rfl, _, _, rfl, rfl, (by omega : (0 : Int) < pr), _, _, rfl, rfl, ?_⟩⟩
        exact ⟨rfl, _, _, _, _, rfl⟩
    · rintro σ H3 ⟨rfl, fo, o3, o4, o5, rfl⟩
      refine ⟨_, rfl, q fo _ ⟨wide, cells, rest, turn + 1, s2 _ _ v1, s2 _ _ v2, s2 _ _ v3, nwc, by omega, by omega⟩ (OffD.trans o1 (OffD.of s2)) fun o ho => ?_⟩
      have ho : H wa = some o := ho
      rw [h2] at ho
      cases ho
      exact s2 _ _ v2
def spTake : Sp := fun vs H Q _ => ∃ (dr : Addr) (wa : Addr × Addr) (c : Nat) (z : Int), vs = [.ref dr, .int z] ∧ Dw H dr wa c ∧ c ≤ 1000000 ∧ 0 < z ∧ z ≤ 1000 ∧ ∀ r H', 0 ≤ r → r < z → Dw H' dr wa (c + 1) → OffD dr wa H H' → Q (.int r) H'
theorem ok_take (Bt : Blt mg) (g1 : Gd P w K mg base "_law_mixed" 1 ["_law_draw"] spMixed) (F : Fu K "_law_take" "_law_take" (top 52) f fd) : FnOk P w K mg base CX0 2 f fd ["_law_draw", "_law_size"] spTake := by
  have sc : FnScope ["_law_draw", "_law_size", "_law_found"] ["_law_draw", "_law_size"] (defScope (top 52)) := ⟨rfl, rfl, rfl, by decide +kernel, rfl, by decide +kernel, by decide +kernel⟩
  obtain ⟨f1, d1, G1, e1, k1, b1⟩ := g1
  refine F.ok sc (fun vs H Q E h => ?_) (fun cdv Ar outer s H vs Q E hr h => ?_)
  · obtain ⟨dr, _, _, _, rfl, _⟩ := h
    rfl
  · obtain ⟨dr, ⟨wa, ca⟩, c, z, rfl, hd, hc, z0, z1, q⟩ := h
    have hu := hu_of hr
    -- the last rows
    have tail : ∃ T2, PSs (cxOf CX0 P w K mg base ["_law_draw", "_law_size", "_law_found"] "_law_take" (defScope (top 52)) f cdv Ar outer s H E) ((defBody (top 52)).drop 1) T2 ∧
        ∀ (H2 : Hp), Dw H2 dr (wa, ca) (c + 1) → OffD dr (wa, ca) H H2 → T2 { nx := fun _ H' => Q .non H', rt := Q } [some (.ref dr), some (.int z), none] H2 := by
      refine ⟨_, pss_cons (ps_set (i := 2) sc.nd rfl (.inl rfl) (pe_op op_mod (pe_callTy call_int1 rfl Bt.int PyProof.Rows.boot_int (pa_cons (pe_dget hu (pv 0) pe_str (fun _ _ => rfl)) pa_nil)) (pv 1)))
        (pss_cons (ps_dput hu (pv 0) pe_str (pe_op op_fdiv (pe_dget hu (pv 0) pe_str (fun _ _ => rfl)) (pv 1)) rfl) (pss_one (ps_ret (pv 2)))), ?_⟩
      rintro H2 ⟨wide, cells, rest, turn, h1, h2, h3, nwc, t0, tc⟩ of2
      have nwc : wa ≠ ca := nwc
      have h1 : H2 dr = some (.dK (dkv wa ca rest turn)) := h1
      have h2 : H2 wa = some (.lst (wide.map V.int)) := h2
      have h3 : H2 ca = some (.lst (cells.map V.int)) := h3
      have dg := (dk_get h1).2.2.1
      refine ⟨_, rfl, dr, _, rfl, dg, .inl ⟨_, rfl, _, rfl, _, _, rfl, rfl, z0, ?_⟩⟩
      refine ⟨_, rfl, dr, _, rfl, dg, _, rfl, _, _, rfl, rfl, ⟨z0, by omega⟩, _, rfl, dr, _, rfl, dk_set h1 "rest" _, ?_⟩
      rw [dk_rest]
      refine ⟨_, rfl, q _ _ (Int.emod_nonneg _ (by omega)) (Int.emod_lt_of_pos _ z0) ⟨wide, cells, _, turn, upd_same, ?_, ?_, nwc, t0, tc⟩ (of2.upd1 _)⟩
      · rw [upd_ne (ne_of h2 h1 (by intro z; cases z))]
        exact h2
      · rw [upd_ne (ne_of h3 h1 (by intro z; cases z))]
        exact h3
    obtain ⟨T2, hT2, w2⟩ := tail
    refine ⟨_, pss_cons (ps_if (pt_cmpR op_eq (pe_dget hu (pv 0) pe_str (fun _ _ => rfl)) pe_int (nomark _)) (pss_one (ps_dput hu (pv 0) pe_str (pe_ifExp (pt_cmpR (op_neD hr.units) (pe_dget hu (pv 0) pe_str (fun _ _ => rfl)) (pe_lst pa_nil) (nomark _))
        (pe_bm PySem.F.plainAttrs_list PySem.F.slot_list_pop PySem.F.type_list_pop mt_popAt (pe_dget hu (pv 0) pe_str (fun _ _ => rfl)) (pa_cons pe_int pa_nil)) (pe_call G1 hr rfl e1 k1 b1 .nil pass0 (pa_cons (pv 0) pa_nil))) rfl)) pss_nil) hT2, ?_⟩
    obtain ⟨wide, cells, rest, turn, h1, h2, h3, nwc, t0, tc⟩ := id hd
    have nwc : wa ≠ ca := nwc
    have h1 : H dr = some (.dK (dkv wa ca rest turn)) := h1
    have h2 : H wa = some (.lst (wide.map V.int)) := h2
    have h3 : H ca = some (.lst (cells.map V.int)) := h3
    obtain ⟨g1, g2, g3, g4⟩ := dk_get h1
    refine ⟨_, rfl, dr, _, rfl, g3, rfl, _, rfl, ?_⟩
    cases hr0 : decide (V.int rest = V.int 0)
    · exact iteF (w2 H (hd.mono (by omega)) (OffD.of (Same.refl _)))
    · refine iteT ⟨_, rfl, dr, _, rfl, g1, (show 0 ≤ sizeLine from Nat.zero_le _), fun e0 he0 => ?_⟩
      have s1 : Same H (upd H e0 (.lst [])) := Same.newS (Same.refl _) he0
      refine ⟨_, _, .lst (SqL.of (s1 _ _ h2)) (dpAll_ints K _ _), .lst (SqL.of upd_same) (dpAll_ints K _ []), shaped_ints _, shaped_ints [], _, rfl, ?_⟩
      rw [eqv_ints]
      generalize upd H e0 (.lst []) = H1 at s1 ⊢
      have hd1 := hd.same s1
      cases wide with
      | nil =>
        refine iteF ⟨_, rfl, dr, (wa, ca), c, rfl, hd1, hc, fun r H2 hd2 of2 _ => ?_⟩
        obtain ⟨wide2, cells2, rest2, turn2, m1, m2, m3, m4, m5, m6⟩ := hd2
        have m1 : H2 dr = some (.dK (dkv wa ca rest2 turn2)) := m1
        have m2 : H2 wa = some (.lst (wide2.map V.int)) := m2
        have m3 : H2 ca = some (.lst (cells2.map V.int)) := m3
        refine ⟨_, rfl, dr, _, rfl, dk_set m1 "rest" _, ?_⟩
        rw [dk_rest]
        refine w2 _ ⟨wide2, cells2, r, turn2, upd_same, ?_, ?_, m4, m5, m6⟩ ((OffD.trans (OffD.of s1) of2).upd1 _)
        · rw [upd_ne (ne_of m2 m1 (by intro z; cases z))]
          exact m2
        · rw [upd_ne (ne_of m3 m1 (by intro z; cases z))]
          exact m3
      | cons x ws =>
        have w1 := s1 _ _ h2
        have c1 := s1 _ _ h3
        have k1' := s1 _ _ h1
        refine iteT ⟨_, rfl, dr, _, rfl, (dk_get k1').1, .inl ⟨rfl, _, SqL.of w1⟩, wa, _, 0, 0, .int x, rfl, rfl, w1, by decide, by decide, by rw [List.length_map, List.length_cons]; unfold seqIndex?; simp, rfl, ?_⟩
        have nwd : wa ≠ dr := ne_of w1 k1' (by intro z; cases z)
        have k2 : (upd H1 wa (.lst ((((x :: ws).map V.int)).eraseIdx 0))) dr = some (.dK (dkv wa ca rest turn)) := by rw [upd_ne nwd.symm]; exact k1'
        refine ⟨_, rfl, dr, _, rfl, dk_set k2 "rest" _, ?_⟩
        rw [dk_rest]
        refine w2 _ ⟨ws, cells, x, turn, upd_same, ?_, ?_, nwc, t0, by omega⟩ fun a o h n1 n2 => ?_
        · show (upd _ _ _) wa = _
          rw [upd_ne nwd, upd_same]
          rfl
        · show (upd _ _ _) ca = _
          rw [upd_ne (ne_of c1 k1' (by intro z; cases z)), upd_ne nwc.symm]
          exact c1
        · rw [upd_ne n1, upd_ne n2]
          exact s1 _ _ h
/-- some: a list of things at a -/
def spPick : Sp := fun vs H Q _ => ∃ (dr : Addr) (wa : Addr × Addr) (a : Addr) (c : Nat) (xs : List V), vs = [.ref dr, .ref a] ∧ Dw H dr wa c ∧ c ≤ 1000000 ∧ H a = some (.lst xs) ∧ a ≠ wa.1 ∧ 0 < xs.length ∧ xs.length ≤ 1000 ∧ ∀ x H', x ∈ xs → Dw H' dr wa (c + 1) → OffD dr wa H H' → Q x H'
theorem ok_pick (Bt : Blt mg) (g1 : Gd P w K mg base "_law_take" 2 ["_law_draw", "_law_size"] spTake) (F : Fu K "_law_pick" "_law_pick" (top 53) f fd) : FnOk P w K mg base CX0 3 f fd ["_law_draw", "_law_some"] spPick := by
  have sc : FnScope ["_law_draw", "_law_some"] ["_law_draw", "_law_some"] (defScope (top 53)) := ⟨rfl, rfl, rfl, by decide +kernel, rfl, by decide +kernel, by decide +kernel⟩
  obtain ⟨f1, d1, G1, e1, k1, b1⟩ := g1
  refine F.ok sc (fun vs H Q E h => ?_) (fun cdv Ar outer s H vs Q E hr h => ?_)
  · obtain ⟨dr, _, a, _, _, rfl, _⟩ := h
    rfl
  · obtain ⟨dr, wa, a, c, xs, rfl, hd, hc, ha, naw, z0, z1, q⟩ := h
    refine ⟨_, pss_one (ps_ret (pe_ix ix_list (pv 1) (pe_call G1 hr rfl e1 k1 b1 .nil pass0 (pa_cons (pv 0) (pa_cons (pe_callB call_len (by rfl) Bt.len PySem.boot_len (pa_cons (pv 1) pa_nil)) pa_nil))) (fun _ _ => rfl))), ?_⟩
    have nad : a ≠ dr := by
      obtain ⟨wide, cells, rest, turn, h1, _⟩ := hd
      exact ne_of ha h1 (by intro z; cases z)
    refine ⟨_, rfl, _, rfl, _, rfl, _, _, rfl, .inl ⟨_, SqL.of ha, rfl⟩, dr, wa, c, xs.length, rfl, hd, hc, by omega, by omega, fun r H' r0 r1 hd' of' => ?_⟩
    have hl : r.toNat < xs.length := by omega
    have hx : xs[r.toNat]? = some xs[r.toNat] := List.getElem?_eq_getElem hl
    have ix := atI_nat hx
    rw [show ((r.toNat : Nat) : Int) = r from by omega] at ix
    exact ⟨a, _, _, _, rfl, rfl, SqL.of (of' _ _ ha nad naw), ix, q _ H' (List.getElem_mem hl) hd' of'⟩
end
end K20W
end
/-! V16 -/
section
set_option Elab.async false
set_option linter.all false
set_option maxRecDepth 100000
set_option maxHeartbeats 4000000
/-! drawn fields. -/
namespace K20W
open PySem L2 K20
theorem pick_of {dr l : Addr} {wa : Addr × Addr} {c : Nat} (L : List V) {H1 : Hp} {R : VK} {E : XK} (hl : H1 l = none) (hd : Dw H1 dr wa c) (hc : c ≤ 1000000) (z0 : 0 < L.length) (z1 : L.length ≤ 1000) (k : ∀ x H', x ∈ L → Dw H' dr wa (c + 1) → OffD dr wa H1 H' → R x H') : spPick [.ref dr, .ref l] (upd H1 l (.lst L)) R E := by
  have s : Same H1 (upd H1 l (.lst L)) := Same.newS (Same.refl _) hl
  refine ⟨dr, wa, l, c, L, rfl, hd.same s, hc, upd_same, ?_, z0, z1, fun x H' hx hd' of' => k x H' hx hd' (OffD.trans (OffD.of s) of')⟩
  obtain ⟨wide, cells, rest, turn, h1, h2, _⟩ := hd
  exact (ne_of_none h2 hl).symm
theorem str_of {L : List Str} {x : V} (h : x ∈ L.map V.str) : ∃ z ∈ L, x = .str z := by
  obtain ⟨z, hz, e⟩ := List.mem_map.mp h
  exact ⟨z, hz, e.symm⟩
def F2 (u d : Str) : List (Key × V) := [(Sum.inr "up", .str u), (Sum.inr "down", .str d)]
def F3 (u d w : Str) : List (Key × V) := [(Sum.inr "up", .str u), (Sum.inr "down", .str d), (Sum.inr "writes", .str w)]
def F4 (u d w m : Str) : List (Key × V) := [(Sum.inr "up", .str u), (Sum.inr "down", .str d), (Sum.inr "writes", .str w), (Sum.inr "moves", .str m)]
def F5 (u d w m f : Str) : List (Key × V) := [(Sum.inr "up", .str u), (Sum.inr "down", .str d), (Sum.inr "writes", .str w), (Sum.inr "moves", .str m), (Sum.inr "finish", .str f)]
def F6 (u d w m f c : Str) : List (Key × V) := [(Sum.inr "up", .str u), (Sum.inr "down", .str d), (Sum.inr "writes", .str w), (Sum.inr "moves", .str m), (Sum.inr "finish", .str f), (Sum.inr "counts", .str c)]
def F7 (u d w m f c : Str) (b : Addr) : List (Key × V) := [(Sum.inr "up", .str u), (Sum.inr "down", .str d), (Sum.inr "writes", .str w), (Sum.inr "moves", .str m), (Sum.inr "finish", .str f), (Sum.inr "counts", .str c), (Sum.inr "bars", .ref b)]
theorem fp2 (u d : Str) : mergeK [] (F2 u d) = F2 u d := by kernel_rfl
theorem fp3 (u d w : Str) : putK (F2 u d) (Sum.inr "writes") (.str w) = F3 u d w := by kernel_rfl
theorem fp4 (u d w m : Str) : putK (F3 u d w) (Sum.inr "moves") (.str m) = F4 u d w m := by kernel_rfl
theorem fp5 (u d w m f : Str) : putK (F4 u d w m) (Sum.inr "finish") (.str f) = F5 u d w m f := by kernel_rfl
theorem fp6 (u d w m f c : Str) : putK (F5 u d w m f) (Sum.inr "counts") (.str c) = F6 u d w m f c := by kernel_rfl
theorem fp7 (u d w m f c : Str) (b : Addr) : putK (F6 u d w m f c) (Sum.inr "bars") (.ref b) = F7 u d w m f c b := by kernel_rfl
theorem fp8 (B : BookR) (b n : Addr) : putK (F7 B.up B.down B.writes B.moves B.finish B.counts b) (Sum.inr "notes") (.ref n) = fkv B b n := by kernel_rfl
theorem fp_finish (B : BookR) (b n : Addr) (z : Str) : putK (fkv B b n) (Sum.inr "finish") (.str z) = fkv { B with finish := z } b n := by kernel_rfl
theorem fset {H : Hp} {a : Addr} {l : List (Key × V)} (h : H a = some (.dK l)) (hl : l.length ≤ 1000) (y : Str) (v : V) : DPut H a (.str y) v (upd H a (.dK (putK l (Sum.inr y) v))) := DPut.k (k := Sum.inr y) h (small1000 hl)
section
variable {P : Program} {w : World} {K : PySem.W.Frag} {mg : Str → Option Value} {base : Heap} {f CY CB CJ : Addr} {fd : FuncData}
def spFields : Sp := fun vs H Q _ => ∃ (dr : Addr) (wa : Addr × Addr) (c : Nat), vs = [.ref dr] ∧ Dw H dr wa c ∧ c ≤ 900000 ∧ ∀ (fa ba fn : Addr) (B : BookR) H', BookIn B → H fa = none → H ba = none → H fn = none → H' fa = some (.dK (fkv B ba fn)) → H' ba = some (.lst (B.bars.map V.str)) → H' fn = some (.lst (B.notes.map V.str)) → Dw H' dr wa (c + 15) → OffD dr wa H H' → Q (.ref fa) H'
/-- what a draw leaves at a -/
theorem OffD.new {dr : Addr} {wa : Addr × Addr} {H H1 : Hp} (a : OffD dr wa H H1) {p : Addr} {o : HO} (hp : H p = none) : OffD dr wa H (upd H1 p o) := fun c x h n1 n2 => by
  rw [upd_ne (ne_of_none h hp)]
  exact a c x h n1 n2
theorem OffD.free {dr : Addr} {wa : Addr × Addr} {H H1 : Hp} {c c' : Nat} (hd : Dw H dr wa c) (hd1 : Dw H1 dr wa c') (a : OffD dr wa H H1) {p : Addr} (hp : H1 p = none) : H p = none := by
  cases e : H p with
  | none => rfl
  | some o =>
    have n1 : p ≠ dr := fun z => by
      obtain ⟨_, _, _, _, h1, _⟩ := hd1
      rw [z, h1] at hp
      cases hp
    have n2 : p ≠ wa.1 := fun z => by
      obtain ⟨_, _, _, _, _, h1, _⟩ := hd1
      rw [z, h1] at hp
      cases hp
    rw [a p o e n1 n2] at hp
    cases hp
theorem Dw.ne {H : Hp} {dr a : Addr} {wa : Addr × Addr} {c : Nat} (hd : Dw H dr wa c) (ha : H a = none) : a ≠ dr ∧ a ≠ wa.1 ∧ a ≠ wa.2 := by
  obtain ⟨_, _, _, _, h1, h2, h3, _⟩ := hd
  exact ⟨(ne_of_none h1 ha).symm, (ne_of_none h2 ha).symm, (ne_of_none h3 ha).symm⟩
theorem Dw.upd {H : Hp} {dr a : Addr} {wa : Addr × Addr} {c : Nat} (hd : Dw H dr wa c) (n : a ≠ dr ∧ a ≠ wa.1 ∧ a ≠ wa.2) (o : HO) : Dw (L2.upd H a o) dr wa c := by
  obtain ⟨wide, cells, rest, turn, h1, h2, h3, h4⟩ := hd
  exact ⟨wide, cells, rest, turn, by rw [upd_ne n.1.symm]; exact h1, by rw [upd_ne n.2.1.symm]; exact h2, by rw [upd_ne n.2.2.symm]; exact h3, h4⟩
section
variable {J : It} {G : Hp → Prop} {ks : List Str} {tt : TT} {te : TE} {σ : St} {H1 : Hp} {D : Addr} {Qd : Hp → Prop}
/-- [z for z in words if a draw] -/
theorem lc_draw {j : Nat} {dr : Addr} {wa : Addr × Addr} {c : Nat} (w : Walk J (ks.map V.str).length G (YAt (ks.map V.str))) (hD : H1 D = none) (hw : Dw H1 dr wa c) (hz : ks.length < sizeLine) (hG : ∀ H, OffD dr wa H1 H → G H)
    (ht : ∀ x H c', x ∈ ks → c' ≤ c + ks.length → Dw H dr wa c' → OffD dr wa H1 H → ∀ Q : Bool → Hp → Prop, (∀ b H3, Dw H3 dr wa (c' + 1) → OffD dr wa H H3 → Q b H3) → tt ((wipe σ [j]).set j (some (.str x))) H Q)
    (he : ∀ x H, x ∈ ks → ∀ Q : VK, Q (.str x) H → te ((wipe σ [j]).set j (some (.str x))) H Q)
    (hd : ∀ H (B : List Str), B.Sublist ks → H D = some (.lst (B.map V.str)) → Dw H dr wa (c + ks.length) → OffD dr wa H1 H → Qd H) :
    ∃ W : Nat → Nat → Hp → Prop, (∃ m, W 0 m (L2.upd H1 D (.lst []))) ∧ ∀ i m H, W i m H →
      (J.stop i H ∧ Qd H) ∨ (J.go i H ∧ ∃ Nx : Hp → Prop, (∀ H', Nx H' → ∃ m', m' < m ∧ W (i + 1) m' H') ∧ ∀ x H', J.yld i H x H' → gName j x (wipe σ [j]) H' fun σ2 H2 => wipe σ2 [j] = wipe σ [j] ∧ tt σ2 H2 fun b H3 =>
        if b = true then te σ2 H3 fun y H4 => ∃ acc, H4 D = some (.lst acc) ∧ acc.length < sizeLine ∧ Nx (L2.upd H4 D (.lst (acc ++ [y]))) else Nx H3) := by
  have nD := hw.ne hD
  have up : ∀ {H : Hp} {o : HO}, OffD dr wa H1 H → OffD dr wa H1 (L2.upd H D o) := fun s => s.new hD
  have hln : (ks.map V.str).length = ks.length := List.length_map ..
  refine lc_it w (fun i H => ∃ B : List Str, B.Sublist (ks.take i) ∧ H D = some (.lst (B.map V.str)) ∧ Dw H dr wa (c + i) ∧ OffD dr wa H1 H) ⟨[], List.nil_sublist _, upd_same, hw.upd nD _, up (OffD.of (Same.refl _))⟩ (fun i H _ ⟨_, _, _, _, o⟩ => hG H o) ?_ ?_
  · rintro i x H H' hi ⟨B, sb, hB, hdw, of⟩ ⟨rfl, hx⟩
    rw [hln] at hi
    rw [List.getElem?_map] at hx
    obtain ⟨k, hk0, rfl⟩ : ∃ k, ks[i]? = some k ∧ x = V.str k := by
      cases e : ks[i]? with
      | none => rw [e] at hx; cases hx
      | some z => rw [e] at hx; exact ⟨z, rfl, (Option.some.inj hx).symm⟩
    have km : k ∈ ks := List.mem_of_getElem? hk0
    have tk1 : ks.take (i + 1) = ks.take i ++ [k] := by
      rw [List.take_add_one, hk0]
      rfl
    refine ⟨?_, ht k H' (c + i) km (by omega) hdw of _ fun b H3 dw3 of3 => ?_⟩
    · show (((wipe σ []).set j none).set j (some (V.str k))).set j none = (wipe σ []).set j none
      rw [List.set_set, List.set_set]
    · have hB3 := of3 _ _ hB nD.1 nD.2.1
      have o13 := OffD.trans of of3
      cases b
      · exact iteF ⟨B, by rw [tk1]; exact sb.trans (List.sublist_append_left _ _), hB3, dw3, o13⟩
      · refine iteT (he k H3 km _ ⟨_, hB3, ?_, B ++ [k], by rw [tk1]; exact sb.append (List.Sublist.refl _), by rw [upd_same, List.map_append]; rfl, dw3.upd nD _, up o13⟩)
        have := sb.length_le
        rw [List.length_take] at this
        rw [List.length_map]
        omega
  · rintro H ⟨B, sb, hB, hdw, of⟩
    rw [hln] at sb hdw
    rw [List.take_length] at sb
    exact hd H B sb hB hdw of
end
theorem ok_fields (Bt : Blt mg) (g1 : Gd P w K mg base "_law_take" 2 ["_law_draw", "_law_size"] spTake) (g2 : Gd P w K mg base "_law_pick" 3 ["_law_draw", "_law_some"] spPick) (F : Fu K "_law_drawn_fields" "_law_drawn_fields" (top 55) f fd) : FnOk P w K mg base CX0 4 f fd ["_law_draw"] spFields := by
  have sc : FnScope ["_law_draw", "_law_likely", "_law_found", "_law_bars_here", "_law_word"] ["_law_draw"] (defScope (top 55)) := ⟨rfl, rfl, rfl, by decide +kernel, rfl, by decide +kernel, by decide +kernel⟩
  obtain ⟨f1, d1, G1, e1, k1, b1⟩ := g1
  obtain ⟨f2, d2, G2, e2, k2, b2⟩ := g2
  refine F.ok sc (fun vs H Q E h => ?_) (fun cdv Ar outer s H vs Q E hr h => ?_)
  · obtain ⟨dr, _, _, rfl, _⟩ := h
    rfl
  · obtain ⟨dr, wa, c, rfl, hd, hc, q⟩ := h
    have hu := hu_of hr
    have hr2 : Room 2 _ := hr.mono (by decide)
    refine ⟨_, pss_cons (ps_set (i := 1) sc.nd rfl (.inr rfl) (pe_op op_add pe_int (pe_op op_mul pe_int (pe_call G1 hr2 rfl e1 k1 b1 .nil pass0 (pa_cons (pv 0) (pa_cons pe_int pa_nil))))))
      (pss_cons (ps_set (i := 2) sc.nd rfl (.inl rfl) (pe_disp (pps_cons pe_str (pe_call G2 hr rfl e2 k2 b2 .nil pass0 (pa_cons (pv 0) (pa_cons (pe_lst (pa_cons pe_str (pa_cons pe_str (pa_cons pe_str pa_nil)))) pa_nil))) (pps_cons pe_str (pe_call G2 hr rfl e2 k2 b2 .nil pass0 (pa_cons (pv 0) (pa_cons (pe_lst (pa_cons pe_str (pa_cons pe_str pa_nil))) pa_nil))) pps_nil)) rfl rfl (by decide) (by decide)))
      (pss_cons (ps_dput hu (pv 2) pe_str (pe_call G2 hr rfl e2 k2 b2 .nil pass0 (pa_cons (pv 0) (pa_cons (pe_lst (pa_cons pe_str (pa_cons pe_str (pa_cons pe_str (pa_cons pe_str (pa_cons pe_str pa_nil)))))) pa_nil))) rfl)
      (pss_cons (ps_dput hu (pv 2) pe_str (pe_call G2 hr rfl e2 k2 b2 .nil pass0 (pa_cons (pv 0) (pa_cons (pe_lst (pa_cons pe_str (pa_cons pe_str pa_nil))) pa_nil))) rfl)
      (pss_cons (ps_dput hu (pv 2) pe_str (pe_call G2 hr rfl e2 k2 b2 .nil pass0 (pa_cons (pv 0) (pa_cons (pe_lst (pa_cons pe_str (pa_cons pe_str (pa_cons pe_str (pa_cons pe_str (pa_cons pe_str pa_nil)))))) pa_nil))) rfl)
      (pss_cons (ps_dput hu (pv 2) pe_str (pe_call G2 hr rfl e2 k2 b2 .nil pass0 (pa_cons (pv 0) (pa_cons (pe_lst (pa_cons pe_str (pa_cons pe_str (pa_cons pe_str pa_nil)))) pa_nil))) rfl)
      (pss_cons (ps_set (i := 3) sc.nd rfl (.inl rfl) (pe_lst (pa_cons pe_str (pa_cons pe_str (pa_cons pe_str (pa_cons pe_str (pa_cons pe_str pa_nil)))))))
      (pss_cons (ps_dput hu (pv 2) pe_str (pe_lc (own := [("_law_word", 4)]) (g := gName 4) (by rfl) sc.nd (pi_list (pv 3))
        (blkOk_by (own := [("_law_word", 4)]) (N := ["_law_draw", "_law_likely", "_law_found", "_law_bars_here", "_law_word"]) (sc := defScope (top 55)) (by decide +kernel))
        (fun _ _ _ _ _ => pg_name (i := 4) sc.nd rfl (Or.inl rfl)) (fun _ _ _ _ _ => pts_one (pt_cmpR op_gt (pe_call G1 hr2 rfl e1 k1 b1 .nil pass0 (pa_cons (pv 0) (pa_cons (pv 1) pa_nil))) pe_int (nomark _))) (fun _ _ _ _ _ => pv 4)) rfl)
      (pss_cons (ps_dput hu (pv 2) pe_str (pe_lc (own := [("_law_word", 4)]) (g := gName 4) (by rfl) sc.nd (pi_list (pe_lst (pa_cons pe_str (pa_cons pe_str (pa_cons pe_str pa_nil)))))
        (blkOk_by (own := [("_law_word", 4)]) (N := ["_law_draw", "_law_likely", "_law_found", "_law_bars_here", "_law_word"]) (sc := defScope (top 55)) (by decide +kernel))
        (fun _ _ _ _ _ => pg_name (i := 4) sc.nd rfl (Or.inl rfl)) (fun _ _ _ _ _ => pts_one (pt_cmpR op_gt (pe_call G1 hr2 rfl e1 k1 b1 .nil pass0 (pa_cons (pv 0) (pa_cons (pv 1) pa_nil))) pe_int (nomark _))) (fun _ _ _ _ _ => pv 4)) rfl)
      (pss_one (ps_ret (pv 2))))))))))), ?_⟩
    refine ⟨_, rfl, dr, wa, c, 3, rfl, hd, by omega, by decide, by decide, fun r H1 r0 r1 hd1 o1 => ⟨_, _, rfl, rfl, .inl ⟨by decide, by decide⟩, _, _, rfl, rfl, ?_⟩⟩
    have lk0 : 0 < 2 + 2 * r := by omega
    have lk1 : 2 + 2 * r ≤ 1000 := by omega
    intro fa hfa
    have ffa : H fa = none := OffD.free hd hd1 o1 hfa
    have nfa := hd1.ne hfa
    have g := (upd_same : (L2.upd H1 fa (.dK [])) fa = some (.dK []))
    have d := hd1.upd nfa (.dK [])
    have o := o1.new (o := .dK []) ffa
    generalize L2.upd H1 fa (.dK []) = K1 at g d o ⊢
    refine ⟨_, rfl, (show 3 ≤ sizeLine from by decide), fun l hl => pick_of (E := E0) (UPSl.map V.str) hl d (by omega) (by decide) (by decide) fun x K2 hx d2 o2 => ?_⟩
    obtain ⟨up, hup, rfl⟩ := str_of hx
    have g2 := o2 _ _ g nfa.1 nfa.2.1
    have o2 := OffD.trans o o2
    clear d g o
    refine ⟨_, rfl, (show 2 ≤ sizeLine from by decide), fun l hl => pick_of (E := E0) (DOWNSl.map V.str) hl d2 (by omega) (by decide) (by decide) fun x K3 hx d3 o3 => ?_⟩
    obtain ⟨dow, hdow, rfl⟩ := str_of hx
    have g3 := o3 _ _ g2 nfa.1 nfa.2.1
    have o3 := OffD.trans o2 o3
    refine ⟨g3, F2 up dow, rfl, le15 rfl, ?_⟩
    rw [fp2]
    have g := (upd_same : (L2.upd K3 fa (.dK (F2 up dow))) fa = some (.dK (F2 up dow)))
    have d := d3.upd nfa (.dK (F2 up dow))
    have o := o3.new (o := .dK (F2 up dow)) ffa
    generalize L2.upd K3 fa (.dK (F2 up dow)) = K4 at g d o ⊢
    clear d2 d3 o2 o3 g2 g3
    refine ⟨_, rfl, (show 5 ≤ sizeLine from by decide), fun l hl => pick_of (E := E0) (WRITESl.map V.str) hl d (by omega) (by decide) (by decide) fun x K5 hx d5 o5 => ?_⟩
    obtain ⟨wr, hwr, rfl⟩ := str_of hx
    have g5 := o5 _ _ g nfa.1 nfa.2.1
    have o5 := OffD.trans o o5
    refine ⟨_, rfl, fa, _, rfl, fset g5 (show 2 ≤ 1000 by decide) "writes" _, ?_⟩
    rw [fp3]
    clear g d o
    have g := (upd_same : (L2.upd K5 fa (.dK (F3 up dow wr))) fa = some (.dK (F3 up dow wr)))
    have d := d5.upd nfa (.dK (F3 up dow wr))
    have o := o5.new (o := .dK (F3 up dow wr)) ffa
    generalize L2.upd K5 fa (.dK (F3 up dow wr)) = K6 at g d o ⊢
    clear d5 o5 g5
    refine ⟨_, rfl, (show 2 ≤ sizeLine from by decide), fun l hl => pick_of (E := E0) (MOVESl.map V.str) hl d (by omega) (by decide) (by decide) fun x K5 hx d5 o5 => ?_⟩
    obtain ⟨mv, hmv, rfl⟩ := str_of hx
    have g5 := o5 _ _ g nfa.1 nfa.2.1
    have o5 := OffD.trans o o5
    refine ⟨_, rfl, fa, _, rfl, fset g5 (show 3 ≤ 1000 by decide) "moves" _, ?_⟩
    rw [fp4]
    clear g d o
    have g := (upd_same : (L2.upd K5 fa (.dK (F4 up dow wr mv))) fa = some (.dK (F4 up dow wr mv)))
    have d := d5.upd nfa (.dK (F4 up dow wr mv))
    have o := o5.new (o := .dK (F4 up dow wr mv)) ffa
    generalize L2.upd K5 fa (.dK (F4 up dow wr mv)) = K7 at g d o ⊢
    clear d5 o5 g5
    refine ⟨_, rfl, (show 5 ≤ sizeLine from by decide), fun l hl => pick_of (E := E0) ((["one", "one", "link", "link", "cut"] : List Str).map V.str) hl d (by omega) (by decide) (by decide) fun x K5 hx d5 o5 => ?_⟩
    obtain ⟨fi, hfi, rfl⟩ := str_of hx
    have hfi : fi ∈ FINISHl := by
      simp only [List.mem_cons, List.not_mem_nil, or_false] at hfi
      unfold FINISHl
      simp only [List.mem_cons, List.not_mem_nil, or_false]
      rcases hfi with h | h | h | h | h
      · exact .inl h
      · exact .inl h
      · exact .inr (.inl h)
      · exact .inr (.inl h)
      · exact .inr (.inr h)
    have g5 := o5 _ _ g nfa.1 nfa.2.1
    have o5 := OffD.trans o o5
    refine ⟨_, rfl, fa, _, rfl, fset g5 (show 4 ≤ 1000 by decide) "finish" _, ?_⟩
    rw [fp5]
    clear g d o
    have g := (upd_same : (L2.upd K5 fa (.dK (F5 up dow wr mv fi))) fa = some (.dK (F5 up dow wr mv fi)))
    have d := d5.upd nfa (.dK (F5 up dow wr mv fi))
    have o := o5.new (o := .dK (F5 up dow wr mv fi)) ffa
    generalize L2.upd K5 fa (.dK (F5 up dow wr mv fi)) = K8 at g d o ⊢
    clear d5 o5 g5
    refine ⟨_, rfl, (show 3 ≤ sizeLine from by decide), fun l hl => pick_of (E := E0) (COUNTSl.map V.str) hl d (by omega) (by decide) (by decide) fun x K5 hx d5 o5 => ?_⟩
    obtain ⟨co, hco, rfl⟩ := str_of hx
    have g5 := o5 _ _ g nfa.1 nfa.2.1
    have o5 := OffD.trans o o5
    refine ⟨_, rfl, fa, _, rfl, fset g5 (show 5 ≤ 1000 by decide) "counts" _, ?_⟩
    rw [fp6]
    clear g d o
    have g := (upd_same : (L2.upd K5 fa (.dK (F6 up dow wr mv fi co))) fa = some (.dK (F6 up dow wr mv fi co)))
    have d := d5.upd nfa (.dK (F6 up dow wr mv fi co))
    have o := o5.new (o := .dK (F6 up dow wr mv fi co)) ffa
    generalize L2.upd K5 fa (.dK (F6 up dow wr mv fi co)) = K9 at g d o ⊢
    clear d5 o5 g5
    -- bars
    refine ⟨(show 5 ≤ sizeLine from by decide), fun lb hlb => ?_⟩
    have nlb := d.ne hlb
    have v := (upd_same : (L2.upd K9 lb (.lst [.str "cover", .str "lower", .str "open", .str "others", .str "upper"])) lb = some (.lst (BARSl.map V.str)))
    have s10 : Same K9 (L2.upd K9 lb (.lst [.str "cover", .str "lower", .str "open", .str "others", .str "upper"])) := Same.newS (Same.refl _) hlb
    have d10 := d.same s10
    have o10 := OffD.trans o (OffD.of s10)
    have g10 := s10 _ _ g
    refine ⟨_, rfl, lb, rfl, ⟨_, SqL.of v⟩, fun ba hba => ?_⟩
    have hba : (L2.upd K9 lb (.lst [.str "cover", .str "lower", .str "open", .str "others", .str "upper"])) ba = none := hba
    generalize L2.upd K9 lb (.lst [.str "cover", .str "lower", .str "open", .str "others", .str "upper"]) = K10 at v d10 o10 g10 hba ⊢
    have fba : H ba = none := OffD.free hd d10 o10 hba
    have nba := d10.ne hba
    have nbf : ba ≠ fa := (ne_of_none g10 hba).symm
    refine lc_draw (ks := BARSl) (walk_list (K := K) (a := lb) (xs := BARSl.map V.str)) hba d10 (by decide) (fun H2 o2 => SqL.of (o2 _ _ v nlb.1 nlb.2.1)) (fun x Hc c' hx hc' hd' o' Q' hq => ⟨_, rfl, _, rfl, dr, wa, c', 2 + 2 * r, rfl, hd', Nat.le_trans hc' (by show c + 1 + 1 + 1 + 1 + 1 + 1 + 1 + 5 ≤ 1000000; omega), lk0, lk1, fun r H3 _ _ d3 o3 => ⟨_, _, rfl, rfl, _, rfl, hq _ _ d3 o3⟩⟩) (fun x Hc hx Q' hq => ⟨_, rfl, hq⟩) fun K11 Bb sb hBb d11 o11 => ?_
    have g11 := o11 _ _ g10 nfa.1 nfa.2.1
    have o11 := OffD.trans o10 o11
    refine ⟨_, rfl, fa, _, rfl, fset g11 (show 6 ≤ 1000 by decide) "bars" _, ?_⟩
    rw [fp7]
    clear g d o
    have g := (upd_same : (L2.upd K11 fa (.dK (F7 up dow wr mv fi co ba))) fa = some (.dK (F7 up dow wr mv fi co ba)))
    have d := d11.upd nfa (.dK (F7 up dow wr mv fi co ba))
    have o := o11.new (o := .dK (F7 up dow wr mv fi co ba)) ffa
    have hBb : (L2.upd K11 fa (.dK (F7 up dow wr mv fi co ba))) ba = some (.lst (Bb.map V.str)) := by rw [upd_ne nbf]; exact hBb
    generalize L2.upd K11 fa (.dK (F7 up dow wr mv fi co ba)) = K12 at g d o hBb ⊢
    clear d11 o11 g11
    -- notes
    refine ⟨(show 3 ≤ sizeLine from by decide), fun ln hln => ?_⟩
    have nln := d.ne hln
    have v := (upd_same : (L2.upd K12 ln (.lst [.str "again", .str "job", .str "place"])) ln = some (.lst (NOTESl.map V.str)))
    have s13 : Same K12 (L2.upd K12 ln (.lst [.str "again", .str "job", .str "place"])) := Same.newS (Same.refl _) hln
    have d13 := d.same s13
    have o13 := OffD.trans o (OffD.of s13)
    have g13 := s13 _ _ g
    have hBb := s13 _ _ hBb
    refine ⟨ln, rfl, ⟨_, SqL.of v⟩, fun fn hfn => ?_⟩
    have hfn : (L2.upd K12 ln (.lst [.str "again", .str "job", .str "place"])) fn = none := hfn
    generalize L2.upd K12 ln (.lst [.str "again", .str "job", .str "place"]) = K13 at v d13 o13 g13 hfn hBb ⊢
    have ffn : H fn = none := OffD.free hd d13 o13 hfn
    have nff : fn ≠ fa := (ne_of_none g13 hfn).symm
    refine lc_draw (ks := NOTESl) (walk_list (K := K) (a := ln) (xs := NOTESl.map V.str)) hfn d13 (by decide) (fun H2 o2 => SqL.of (o2 _ _ v nln.1 nln.2.1)) (fun x Hc c' hx hc' hd' o' Q' hq => ⟨_, rfl, _, rfl, dr, wa, c', 2 + 2 * r, rfl, hd', Nat.le_trans hc' (by show c + 1 + 1 + 1 + 1 + 1 + 1 + 1 + 5 + 3 ≤ 1000000; omega), lk0, lk1, fun r H3 _ _ d3 o3 => ⟨_, _, rfl, rfl, _, rfl, hq _ _ d3 o3⟩⟩) (fun x Hc hx Q' hq => ⟨_, rfl, hq⟩) fun K14 Bn sn hBn d14 o14 => ?_
    have g14 := o14 _ _ g13 nfa.1 nfa.2.1
    have hBb := o14 _ _ hBb nba.1 nba.2.1
    have o14 := OffD.trans o13 o14
    refine ⟨_, rfl, fa, _, rfl, fset g14 (show 7 ≤ 1000 by decide) "notes" _, ?_⟩
    rw [fp8 ⟨up, dow, wr, mv, fi, co, Bb, Bn⟩ ba fn]
    refine ⟨_, rfl, q fa ba fn ⟨up, dow, wr, mv, fi, co, Bb, Bn⟩ _ ⟨hup, hdow, hwr, hmv, hfi, hco, fun z hz => sb.subset hz, fun z hz => sn.subset hz, ?_, ?_, Nat.le_trans sb.length_le (by decide), Nat.le_trans sn.length_le (by decide)⟩ ffa fba ffn upd_same (by rw [upd_ne nbf]; exact hBb) (by rw [upd_ne nff]; exact hBn) (d14.upd nfa _) (o14.new ffa)⟩
    · exact List.Nodup.sublist sb (by decide +kernel)
    · exact List.Nodup.sublist sn (by decide +kernel)
end
end K20W
end
/-! V17 -/
section
set_option Elab.async false
set_option linter.all false
set_option maxRecDepth 100000
set_option maxHeartbeats 4000000
/-! book. -/
namespace K20W
open PySem L2 K20
section
variable {P : Program} {w : World} {K : PySem.W.Frag} {mg : Str → Option Value} {base : Heap} {f CY CB CJ : Addr} {fd : FuncData}
theorem bookKB {kws : List (Str × V)} {f : Addr} {fd : FuncData} (F : FunD K "__init__" "Book.__init__" (defArgs (s_book 0)) (defBody (s_book 0)) (defScope (s_book 0)) [] kws f fd) (hk : kws ≠ []) :
    ∃ mv : List Value, KBn K fd ["self", "up", "down", "writes", "moves", "finish", "counts", "bars", "notes"] 1 ["up", "down", "writes", "moves", "finish", "counts", "bars", "notes"] (fun us ws => us ++ ws) (fun vs zs => vs ++ zs) := by
  refine FunD.kbinds0 F 1 ["up", "down", "writes", "moves", "finish", "counts", "bars", "notes"] [] (fun vs _ zs => vs ++ zs) hk (fun q hq => nomatch hq) (fun r1 _ r3 => Vals.append r1 r3) fun D doc pm an cdv ct us mv ws l1 l2 l3 => ?_
  match us, l1, mv, l2, ws, l3 with
  | [u], _, [], _, [w1, w2, w3, w4, w5, w6, w7, w8], _ => rfl
/-- Book.__init__ -/
def BookI (P : Program) (w : World) (K : PySem.W.Frag) (mg : Str → Option Value) (base : Heap) (CB : Addr) : Prop := ∃ (f : Addr) (fd : FuncData) (kws : List (Str × V)), FnOk P w K mg base CX0 3 f fd ["self", "up", "down", "writes", "moves", "finish", "counts", "bars", "notes"] (spBookInit CB) ∧ Mk K CB f ∧ FunD K "__init__" "Book.__init__" (defArgs (s_book 0)) (defBody (s_book 0)) (defScope (s_book 0)) [] kws f fd ∧ kws ≠ []
def spBook (CB : Addr) : Sp := fun vs H Q _ => ∃ (fa ba fn : Addr) (B : BookR), vs = [.ref fa] ∧ H fa = some (.dK (fkv B ba fn)) ∧ H ba = some (.lst (B.bars.map V.str)) ∧ H fn = some (.lst (B.notes.map V.str)) ∧ BookIn B ∧
  ∀ a (bs ns : List Str) H', Same H H' → H a = none → bs.Perm B.bars → BookAt CB H' a { B with bars := bs, notes := ns } → Q (.ref a) H'
theorem fk_up {H : Hp} {fa ba na : Addr} {B : BookR} (h : H fa = some (.dK (fkv B ba na))) : DGet H fa (.str "up") (some (.str B.up)) := DGet.k (k := Sum.inr "up") h
theorem fk_down {H : Hp} {fa ba na : Addr} {B : BookR} (h : H fa = some (.dK (fkv B ba na))) : DGet H fa (.str "down") (some (.str B.down)) := DGet.k (k := Sum.inr "down") h
theorem fk_notes {H : Hp} {fa ba na : Addr} {B : BookR} (h : H fa = some (.dK (fkv B ba na))) : DGet H fa (.str "notes") (some (.ref na)) := DGet.k (k := Sum.inr "notes") h
theorem ok_book (I : BookI P w K mg base CB) (gB : mg "Book" = some (.ref CB)) (F : Fu K "_law_book" "_law_book" (top 56) f fd) : FnOk P w K mg base CX0 5 f fd ["_law_fields"] (spBook CB) := by
  have sc : FnScope ["_law_fields", "_law_sets"] ["_law_fields"] (defScope (top 56)) := ⟨rfl, rfl, rfl, by decide +kernel, rfl, by decide +kernel, by decide +kernel⟩
  obtain ⟨fi, di, kws, Gi, Mi, Fi, hk⟩ := I
  obtain ⟨mv, hb⟩ := bookKB Fi hk
  refine F.ok sc (fun vs H Q E h => ?_) (fun cdv Ar outer s H vs Q E hr h => ?_)
  · obtain ⟨fa, _, _, _, rfl, _⟩ := h
    rfl
  · obtain ⟨fa, ba, fn, B, rfl, hf, hba, hfn, bi, q⟩ := h
    have hu := hu_of hr
    refine ⟨_, pss_cons (ps_set (i := 1) sc.nd rfl (.inl rfl) (pe_lst (pa_cons (pe_dget hu (pv 0) pe_str (fun _ _ => rfl)) (pa_cons (pe_dget hu (pv 0) pe_str (fun _ _ => rfl)) pa_nil))))
      (pss_one (ps_ret (pe_makeK0 Mi Gi hr rfl gB hb pass0 (pk_cons (pe_dget hu (pv 0) pe_str (fun _ _ => rfl)) (pk_cons (pe_dget hu (pv 0) pe_str (fun _ _ => rfl)) (pk_cons (pe_dget hu (pv 0) pe_str (fun _ _ => rfl)) (pk_cons (pe_dget hu (pv 0) pe_str (fun _ _ => rfl)) (pk_cons (pe_dget hu (pv 0) pe_str (fun _ _ => rfl)) (pk_cons (pe_dget hu (pv 0) pe_str (fun _ _ => rfl))
        (pk_cons (pe_ix ix_list (pv 1) pe_int (fun _ _ => rfl)) (pk_cons (pe_ix ix_list (pv 1) pe_int (fun _ _ => rfl)) pk_nil))))))))))), ?_⟩
    refine ⟨_, rfl, fa, _, rfl, fk_bars hf, _, rfl, fa, _, rfl, fk_notes hf, (show 2 ≤ sizeLine from by decide), fun l hl => ?_⟩
    have s1 : Same H (upd H l (.lst [.ref ba, .ref fn])) := Same.newS (Same.refl _) hl
    have v1 : (upd H l (.lst [.ref ba, .ref fn])) l = some (.lst [.ref ba, .ref fn]) := upd_same
    generalize upd H l (.lst [.ref ba, .ref fn]) = H1 at s1 v1 ⊢
    have hf1 := s1 _ _ hf
    refine ⟨_, rfl, fa, _, rfl, fk_up hf1, _, rfl, fa, _, rfl, fk_down hf1, _, rfl, fa, _, rfl, fk_writes hf1, _, rfl, fa, _, rfl, fk_moves hf1, _, rfl, fa, _, rfl, fk_finish hf1, _, rfl, fa, _, rfl, fk_counts hf1, _, rfl, l, _, _, .ref ba, rfl, rfl, SqL.of v1, atI_nat (j := 0) rfl, _, rfl, l, _, _, .ref fn, rfl, rfl, SqL.of v1, atI_nat (j := 1) rfl, rfl, rfl, fun x dx hx hdx ne => ?_⟩
    have keep : ∀ {b : Addr} {o : HO}, H1 b = some o → (upd (upd H1 dx (.own x)) x (.ins CB dx [])) b = some o := fun h => by
      rw [upd_ne (ne_of_none h hx), upd_ne (ne_of_none h hdx)]
      exact h
    refine ⟨x, dx, ba, fn, B, rfl, upd_same, keep (s1 _ _ hba), keep (s1 _ _ hfn), bi, fun H' bs ns hp hat off => ⟨rfl, ?_⟩⟩
    exact q x bs ns H' (fun b o hb => off b o (ne_of_none (s1 _ _ hb) hx) (keep (s1 _ _ hb))) (s1.free hx) hp hat
end
end K20W
end
/-! Ru6 -/
section
set_option Elab.async false
set_option linter.all false
set_option maxRecDepth 100000
set_option maxHeartbeats 4000000
/-! sorted(d.items()), ints to ints. -/
namespace K20W
open PySem PySem.Spec PyProof.Rows L2 L2.DX K20
section
variable {X : Cx}
def rItemsK2 : V → List V → Hp → VK → Prop := fun x xs H Q => ∃ (a : Addr) (kvs : List (Key × V)), x = .ref a ∧ xs = [] ∧ H a = some (.dK kvs) ∧ ∀ p, H p = none → Q (.ref p) (upd H p (itemsO p a))
theorem mt_itemsK2 : MtR X "dict.items" rItemsK2 := by
  intro pins s σ H x xs v us Q I rx rxs h
  obtain ⟨a, kvs, rfl, rfl, ha, q⟩ := h
  cases rx
  cases rxs
  obtain ⟨z, hd, vs', rel, o, es, ep, ho, hx, hdat, _⟩ := dk_of I.hok ha
  refine DT.callItems (es := es) (ep := ep) hd ⟨o, ho, hx, hdat⟩ ?_
  have hf : H s.heap.objs.size = none := I.hok.fresh (Nat.le_refl _)
  exact ⟨.ref s.heap.objs.size, upd H s.heap.objs.size (itemsO s.heap.objs.size a), I.laid (t' := s.toks) (fun b u e => Heap.get?_push_of_some _ e) (Nat.le_refl _) (itemsO_ok (Heap.get?_push_size _ rfl)), rfl, q _ hf⟩
theorem ents_int {P : Program} {w : World} {g : Int → Int} {ks : List Int} : ∀ {vs : List (Key × Value)} {ents : List DictEntry}, KV (dI (fun k => .int (g k)) ks) vs → PySem.Pairs (mixKind P w) ents vs →
    ents.length = ks.length ∧ ∀ (j : Nat) (e : DictEntry), ents[j]? = some e → ∃ (k : Int) (t u : Tok), ks[j]? = some k ∧ e.key = Value.int k t ∧ e.val = Value.int (g k) u := by
  induction ks with
  | nil =>
    intro vs ents r p
    cases r
    cases p
    exact ⟨rfl, fun j e h => by simp at h⟩
  | cons k0 r ih =>
    intro vs ents rr p
    cases rr with
    | cons r1 r2 =>
      cases p with
      | @cons e kv es' kvs' p1 p2 p3 =>
        obtain ⟨e1, e2⟩ := r1
        obtain ⟨l, ih⟩ := ih r2 p3
        refine ⟨by rw [List.length_cons, List.length_cons, l], fun j x h => ?_⟩
        cases j with
        | zero =>
          have ex : e = x := by simpa using h
          subst ex
          have q : (mixKind P w).is (Sum.inl k0) e.key = true := by
            rw [← e1] at p1
            exact p1
          obtain ⟨u, hu⟩ := e2
          rcases keyIs_shape (show keyIs (Sum.inl k0) e.key = true from q) with ⟨i, t, h2, h3⟩ | ⟨x, t, h2, h3⟩
          · cases h2
            exact ⟨k0, t, u, rfl, h3, p2.trans hu⟩
          · cases h2
        | succ j => exact ih j x (by simpa using h)
def rSortII : List V → Hp → VK → Prop := fun vs H Q => ∃ (p a : Addr) (ks : List Int) (g : Int → Int), vs = [.ref p] ∧ H p = some (itemsO p a) ∧ H a = some (.dK (dI (fun k => .int (g k)) ks)) ∧ ks.length < 64 ∧ (∀ k ∈ ks, 0 ≤ k ∧ k < 2000 ∧ 0 ≤ g k ∧ g k < 2000) ∧
  ∀ (H' : Hp) (l : Addr) (ps : List (Addr × Int)), (∀ b o, H b = some o → H' b = some o) → (ps.map (·.2)).Perm ks → (ps.map (·.2)).Pairwise (· ≤ ·) → H' l = some (.lst (ps.map fun z => V.ref z.1)) → (∀ z ∈ ps, H' z.1 = some (.tup [.int z.2, .int (g z.2)])) → Q (.ref l) H'
theorem zipmap {α β γ : Type} (f : α → γ) : ∀ (as : List α) (ks : List β), as.length = ks.length → (as.zip ks).map (fun z => f z.1) = as.map f
  | [], _, _ => rfl
  | a :: as, [], h => by simp at h
  | a :: as, k :: ks, h => by
    show f a :: (as.zip ks).map _ = f a :: as.map f
    rw [zipmap f as ks (by simpa using h)]
theorem code2 (a b : Int) : TS.code 2000 [a, b] = a * 2000 + b := by
  show a * 2000 ^ 1 + (b * 2000 ^ 0 + 0) = _
  rw [Int.pow_succ, Int.pow_zero, Int.one_mul, Int.mul_one, Int.add_zero]
theorem cr_sortedII (hc : X.calm = true) : CallR X (.builtin "sorted") rSortII := by
  intro pins s σ H xs us Q I r h
  obtain ⟨p, a, ks, g, rfl, hp, ha, h64, hb, q⟩ := h
  obtain rfl := Vals.ref1 r
  have view : s.heap.IsItemsView p a := (show ObjOk X.prog X.w H s.heap p (itemsO p a) from I.hok p _ hp).1
  obtain ⟨z, hd, vs', rel, o, es, ep, ho, hx, hdat, _, prs, _⟩ := dk_of I.hok ha
  obtain ⟨l2, hes⟩ := ents_int rel prs
  have l2 : es.size = ks.length := by rw [← Array.length_toList]; exact l2
  have hh : X.A.handled = none := I.ok.hd hc
  refine DT.sortedI (es := es) (ep := ep) hh view ⟨o, ho, hx, hdat⟩ (by rw [sizeLine_eq]; omega) fun h' tk as hk hlt hl hG => ?_
  have lak : as.length = ks.length := by omega
  have nd : as.Nodup := List.Pairwise.imp (fun h => Nat.ne_of_lt h) hG.rise
  have pr : ∀ (j : Nat) (b : Addr), as[j]? = some b → ∃ (k : Int) (t u : Tok), ks[j]? = some k ∧ h'.get? b = some { cls := .type "tuple", data := .seq #[Value.int k t, Value.int (g k) u] } := by
    intro j b hj
    obtain ⟨en, he, hg⟩ := hG.pairs j b hj
    obtain ⟨k, t, u, h1, h2, h3⟩ := hes j en (by rw [Array.getElem?_toList]; exact he)
    refine ⟨k, t, u, h1, ?_⟩
    rw [hg, h2, h3]
  have hob : (h'.push { cls := .type "list", data := .seq (as.map Value.ref).toArray }).get? h'.objs.size = some (seqObj "list" (as.map Value.ref).toArray 0) := Heap.get?_push_size _ rfl
  have kb : ∀ b o, s.heap.get? b = some o → (h'.push { cls := .type "list", data := .seq (as.map Value.ref).toArray }).get? b = some o := fun b o e => Heap.get?_push_of_some _ (hk b o e)
  have ne0 : ∀ b o, h'.get? b = some o → b ≠ h'.objs.size := fun b o e => Nat.ne_of_lt (Heap.lt_size e)
  generalize hh2 : h'.push { cls := .type "list", data := .seq (as.map Value.ref).toArray } = h2 at hob kb ⊢
  have ka : ∀ b o, h'.get? b = some o → h2.get? b = some o := fun b o e => by rw [← hh2]; exact Heap.get?_push_of_some _ e
  have tup : ∀ (j : Nat) (b : Addr) (k : Int), as[j]? = some b → ks[j]? = some k → TS.TupInts h2 (.ref b) [k, g k] := by
    intro j b k hj hkj
    obtain ⟨k', t, u, hk', hg⟩ := pr j b hj
    have e : k' = k := Option.some.inj (hk'.symm.trans hkj)
    subst e
    exact ⟨b, _, rfl, ⟨_, ka _ _ hg, rfl, 0, rfl⟩, .cons _ _ (.cons _ _ .nil)⟩
  have bd : ∀ k ∈ ks, TS.Bd 2000 [k, g k] := fun k hk m hm => by
    have := hb k hk
    simp only [List.mem_cons, List.not_mem_nil, or_false] at hm
    rcases hm with rfl | rfl
    · exact ⟨this.1, this.2.1⟩
    · exact ⟨this.2.2.1, this.2.2.2⟩
  have at_ : ∀ v ∈ as.map Value.ref, ∃ (j : Nat) (b : Addr) (k : Int), v = .ref b ∧ as[j]? = some b ∧ ks[j]? = some k := by
    intro v hv'
    obtain ⟨b, hb, rfl⟩ := List.mem_map.mp hv'
    obtain ⟨j, hj⟩ := List.mem_iff_getElem?.mp hb
    obtain ⟨k, _, _, he, _⟩ := pr j b hj
    exact ⟨j, b, k, rfl, hj, he⟩
  refine wpAny_call_entry PyProof.Rows.slot_list_sort ⟨_, hob, rfl⟩ PyProof.Rows.entry_list_sort
    (TS.sort_tups (s := { s with heap := h2, toks := tk }) (d := 2) (B := 2000) (r := fun v => TS.code 2000 (TS.intsOf h2 v)) hob (by rw [List.length_map]; omega) (by decide) (fun v hv' => ?_) (fun v hv' ns t => ?_) fun out o2 o3 => ⟨.none, rfl, ?_⟩) (PyProof.Rows.args_list_sort _)
  · obtain ⟨j, b, k, rfl, hj, he⟩ := at_ v hv'
    exact ⟨_, tup j b k hj he, rfl, bd k (List.mem_of_getElem? he)⟩
  · show TS.code 2000 (TS.intsOf h2 v) = _
    rw [t.ints]
  · show EP X pins σ Q (.ref h'.objs.size) { s with heap := sortedHeap h2 h'.objs.size (as.map Value.ref) out, toks := tk }
    obtain ⟨zs, pz, ez⟩ := perm_lift (fun z : Addr × Int => Value.ref z.1) o2 (as.zip ks) (zipmap Value.ref as ks lak)
    have idx : ∀ z ∈ zs, ∃ j : Nat, as[j]? = some z.1 ∧ ks[j]? = some z.2 := by
      intro z' hz'
      obtain ⟨j, hj⟩ := List.mem_iff_getElem?.mp (pz.mem_iff.mp hz')
      exact ⟨j, List.getElem?_zip_eq_some.mp hj⟩
    have hout : out.toList = zs.map fun z => Value.ref z.1 := ez.symm
    have hperm : (zs.map (·.2)).Perm ks := by
      have e := pz.map (·.2)
      have m2 : (as.zip ks).map (·.2) = ks := List.map_snd_zip (by rw [lak]; exact Nat.le_refl _)
      rw [m2] at e
      exact e
    have hsort : (zs.map (·.2)).Pairwise (· ≤ ·) := by
      rw [hout, List.pairwise_map] at o3
      rw [List.pairwise_map]
      refine List.Pairwise.imp_of_mem (fun {x y} hx hy h => ?_) o3
      obtain ⟨j, j1, j2⟩ := idx x hx
      obtain ⟨i, i1, i2⟩ := idx y hy
      have h' : TS.code 2000 (TS.intsOf h2 (.ref x.1)) ≤ TS.code 2000 (TS.intsOf h2 (.ref y.1)) := h
      rw [(tup j _ _ j1 j2).ints, (tup i _ _ i1 i2).ints, code2, code2] at h'
      have a1 := hb _ (List.mem_of_getElem? j2)
      have a2 := hb _ (List.mem_of_getElem? i2)
      omega
    have kF : ∀ b o, b ≠ h'.objs.size → h2.get? b = some o → (sortedHeap h2 h'.objs.size (as.map Value.ref) out).get? b = some o := fun b o hb e => (PyProof.Rows.sortedHeap_old hb (Heap.lt_size e)).trans e
    have kS : ∀ b o, s.heap.get? b = some o → (sortedHeap h2 h'.objs.size (as.map Value.ref) out).get? b = some o := fun b o e => kF b o (ne0 _ _ (hk b o e)) (kb b o e)
    obtain ⟨eF, heF⟩ := PyProof.Rows.sortedHeap_at (vs := as.map Value.ref) (out := out) hob
    have I1 : Inv X pins σ H { s with heap := sortedHeap h2 h'.objs.size (as.map Value.ref) out, toks := tk } := I.kept (t' := tk) kS
    have hn0 : H h'.objs.size = none := I.hok.fresh (Nat.le_of_lt hlt)
    have hlen : (zs.map fun z => V.ref z.1).length ≤ sizeLine := by
      have e := hperm.length_eq
      rw [List.length_map] at e
      rw [List.length_map, sizeLine_eq]
      omega
    have rv : Vals (zs.map fun z => V.ref z.1) out.toList := by
      rw [hout]
      exact vals_maps (fun z : Addr × Int => V.ref z.1) (fun z => Value.ref z.1) zs fun _ _ => rfl
    have I2 : Inv X pins σ (upd H h'.objs.size (.lst (zs.map fun z => V.ref z.1))) { s with heap := sortedHeap h2 h'.objs.size (as.map Value.ref) out, toks := tk } :=
      I1.take (h' := sortedHeap h2 h'.objs.size (as.map Value.ref) out) (t' := tk) (fun b ob _ e => e) (I.fpOk (Nat.le_of_lt hlt) hn0) ⟨hlen, out.toList, eF, rv, heF⟩
    obtain ⟨H2, I3, gk, qt⟩ := takeT (P := fun b vs => ∃ (j : Nat) (k : Int), as[j]? = some b ∧ ks[j]? = some k ∧ vs = [.int k, .int (g k)]) I as _ I2 nd fun b hb => by
      obtain ⟨j, hj⟩ := List.mem_iff_getElem?.mp hb
      obtain ⟨k, t, u, he, hg⟩ := pr j b hj
      have hbl : s.heap.objs.size ≤ b := Nat.le_of_lt (hG.above b hb)
      refine ⟨hbl, ?_, [.int k, .int (g k)], ⟨j, k, hj, he, rfl⟩, fun H3 => ⟨(by rw [sizeLine_eq]; show 2 ≤ 16777216; omega), [Value.int k t, Value.int (g k) u], .cons ⟨_, rfl⟩ (.cons ⟨_, rfl⟩ .nil), ⟨_, kF _ _ (ne0 _ _ hg) (ka _ _ hg), rfl, 0, rfl⟩⟩⟩
      rw [upd_ne (ne0 _ _ hg)]
      exact I.hok.fresh hbl
    have gr : ∀ b o, H b = some o → H2 b = some o := fun b o e => gk b o (by rw [upd_ne (ne_of_none e hn0)]; exact e)
    refine ⟨.ref h'.objs.size, H2, I3, rfl, q H2 h'.objs.size zs gr hperm hsort (gk _ _ upd_same) fun z' hz' => ?_⟩
    obtain ⟨i, i1, i2⟩ := idx z' hz'
    obtain ⟨vs, ⟨j, k, j1, j2, ev⟩, hH⟩ := qt z'.1 (List.mem_of_getElem? i1)
    have eij : i = j := (List.getElem?_inj (List.getElem?_eq_some_iff.mp i1).1 nd).mp (i1.trans j1.symm)
    subst eij
    have ee : k = z'.2 := Option.some.inj (j2.symm.trans i2)
    rw [ev, ee] at hH
    exact hH
end
end K20W
end
/-! Fits -/
section
set_option Elab.async false
set_option linter.all false
set_option maxRecDepth 100000
set_option maxHeartbeats 4000000
/-! What a yard tells is short. -/
namespace K20W
open PySem L2 K20
structure Fi (d : PyData) (k w : Nat) : Prop where
  ls : d.leavesShort 13 = true
  sh : d.showable = true
  dp : d.depth ≤ k
  bk : d.bulk ≤ w
theorem Fi.mono {d : PyData} {k k' w w' : Nat} (h : Fi d k w) (a : k ≤ k') (b : w ≤ w') : Fi d k' w' := ⟨h.ls, h.sh, Nat.le_trans h.dp a, Nat.le_trans h.bk b⟩
theorem Fi.int {i : Int} (h0 : 0 ≤ i) (h1 : i ≤ 100000) : Fi (.int i) 0 0 := by
  refine ⟨decide_eq_true ?_, decide_eq_true ?_, Nat.le_refl _, Nat.le_refl _⟩
  · show (Str.ofString (toString i)).length ≤ 13
    rw [ofString_length]
    exact Nat.le_trans (int_text_length_le10 (k := 6) (by decide) (by show i.natAbs < 1000000; omega)) (by decide)
  · have : i.natAbs < 2 ^ 20 := by show i.natAbs < 1048576; omega
    by_cases z : i.natAbs = 0
    · rw [z]
      decide
    · exact Nat.lt_trans ((Nat.log2_lt z).mpr this) (by decide)
theorem Fi.none : Fi .none 0 0 := ⟨rfl, rfl, Nat.le_refl _, Nat.le_refl _⟩
theorem Fi.all {k w : Nat} : ∀ {ds : List PyData}, (∀ d ∈ ds, Fi d k w) → PyData.leavesShortAll 13 ds = true ∧ PyData.showableAll ds = true ∧ PyData.depthAll ds ≤ k ∧ PyData.bulkAll ds ≤ ds.length * (w + 1)
  | [], _ => ⟨rfl, rfl, Nat.zero_le _, Nat.zero_le _⟩
  | d :: r, h => by
    obtain ⟨a, b, c, e⟩ := Fi.all fun x hx => h x (List.mem_cons_of_mem _ hx)
    have x := h d List.mem_cons_self
    refine ⟨?_, ?_, ?_, ?_⟩
    · show (_ && _) = true
      rw [x.ls, a]
      rfl
    · show (_ && _) = true
      rw [x.sh, b]
      rfl
    · exact Nat.max_le.mpr ⟨x.dp, c⟩
    · show d.bulk + 1 + PyData.bulkAll r ≤ (r.length + 1) * (w + 1)
      rw [Nat.succ_mul]
      have := x.bk
      omega
theorem Fi.kv {k w : Nat} : ∀ {es : List (PyData × PyData)}, (∀ e ∈ es, Fi e.1 k w ∧ Fi e.2 k w) → PyData.leavesShortKv 13 es = true ∧ PyData.showableKv es = true ∧ PyData.depthKv es ≤ k ∧ PyData.bulkKv es ≤ es.length * (2 * w + 2)
  | [], _ => ⟨rfl, rfl, Nat.zero_le _, Nat.zero_le _⟩
  | (a, b) :: r, h => by
    obtain ⟨c1, c2, c3, c4⟩ := Fi.kv fun x hx => h x (List.mem_cons_of_mem _ hx)
    obtain ⟨x, y⟩ := h (a, b) List.mem_cons_self
    have x : Fi a k w := x
    have y : Fi b k w := y
    refine ⟨?_, ?_, ?_, ?_⟩
    · show (_ && _ && _) = true
      rw [x.ls, y.ls, c1]
      rfl
    · show (_ && _ && _) = true
      rw [x.sh, y.sh, c2]
      rfl
    · exact Nat.max_le.mpr ⟨Nat.max_le.mpr ⟨x.dp, y.dp⟩, c3⟩
    · show a.bulk + b.bulk + 2 + PyData.bulkKv r ≤ (r.length + 1) * (2 * w + 2)
      rw [Nat.succ_mul]
      have := x.bk
      have := y.bk
      omega
theorem Fi.list {k w l : Nat} {ds : List PyData} (h : ∀ d ∈ ds, Fi d k w) (hl : ds.length ≤ l) : Fi (.list ds) (k + 1) (l * (w + 1)) := by
  obtain ⟨a, b, c, e⟩ := Fi.all h
  exact ⟨a, b, Nat.succ_le_succ c, Nat.le_trans e (Nat.mul_le_mul_right _ hl)⟩
theorem Fi.tuple {k w l : Nat} {ds : List PyData} (h : ∀ d ∈ ds, Fi d k w) (hl : ds.length ≤ l) : Fi (.tuple ds) (k + 1) (l * (w + 1)) := by
  obtain ⟨a, b, c, e⟩ := Fi.all h
  exact ⟨a, b, Nat.succ_le_succ c, Nat.le_trans e (Nat.mul_le_mul_right _ hl)⟩
theorem Fi.dic {k w l : Nat} {es : List (Int × PyData)} (h : ∀ e ∈ es, (0 ≤ e.1 ∧ e.1 ≤ 100000) ∧ Fi e.2 k w) (hl : es.length ≤ l) : Fi (dicD es) (k + 1) (l * (2 * w + 2)) := by
  obtain ⟨a, b, c, e⟩ := Fi.kv (k := k) (w := w) (es := es.map fun e => (.int e.1, e.2)) fun x hx => by
    obtain ⟨y, hy, rfl⟩ := List.mem_map.mp hx
    exact ⟨(Fi.int (h y hy).1.1 (h y hy).1.2).mono (Nat.zero_le _) (Nat.zero_le _), (h y hy).2⟩
  rw [List.length_map] at e
  exact ⟨a, b, Nat.succ_le_succ c, Nat.le_trans e (Nat.mul_le_mul_right _ hl)⟩
theorem getrow {n : Nat} {r : Row} (h : RowOk n r) (c : Int) : 0 ≤ cellV r c ∧ cellV r c ≤ 1000 := by
  unfold cellV
  cases e : K20.get r c with
  | none => exact ⟨Int.le_refl _, by show (0 : Int) ≤ 1000; decide⟩
  | some v =>
    have : ∃ p ∈ r, p.2 = v := by
      clear h
      induction r with
      | nil => cases e
      | cons p q ih =>
        by_cases z : p.1 = c
        · rw [get_pos z] at e
          exact ⟨p, List.mem_cons_self, Option.some.inj e⟩
        · rw [get_neg z] at e
          obtain ⟨x, hx, ex⟩ := ih e
          exact ⟨x, List.mem_cons_of_mem _ hx, ex⟩
    obtain ⟨p, hp, rfl⟩ := this
    exact h.vs p hp
theorem wrong_bd {S : Vs} {n : Nat} {x c : Int} (h : wrong S n = some (x, c)) : (0 ≤ x ∧ x < S.nw) ∧ 0 ≤ c ∧ c < n := by
  unfold wrong at h
  obtain ⟨w, hw, h2⟩ := List.exists_of_findSome?_eq_some h
  unfold wrongIn at h2
  obtain ⟨d, hd, h3⟩ := List.exists_of_findSome?_eq_some h2
  by_cases e : reads S w d = (S.co w)[d.toNat]?
  · rw [if_pos e] at h3
    cases h3
  · rw [if_neg e] at h3
    cases h3
    exact ⟨mem_rng.mp hw, mem_rng.mp hd⟩
theorem tell_fits {P : Par} {dn : Bool} {n : Nat} {S : Vs} {D : Du} (hP : P.n = n) (G : Good P S D) (hn : n ≤ 40) : (tellD dn n S).showable = true ∧ (tellD dn n S).depth ≤ 90 ∧ (tellD dn n S).shown.length ≤ sizeLine := by
  subst hP
  have BS := G.ba
  have lok : S.ok.length ≤ 20 := Nat.le_trans (nodup_le (BS.os.imp fun {a b} h => by omega) fun x hx => BS.oi x hx) BS.m14
  have ljk : S.jk.length ≤ 20 := Nat.le_trans (nodup_le (BS.jn.imp fun {a b} h => by omega) fun x hx => BS.ji x hx) BS.b20
  have ob : ∀ x ∈ S.ok, 0 ≤ x ∧ x ≤ 100000 := fun x hx => ⟨(BS.oi x hx).1, by have := (BS.oi x hx).2; have := BS.m14; omega⟩
  have f1 : ∀ x ∈ S.ok, Fi (layerD P.n S x) 2 200 := fun x hx => by
    have r := BS.ro x hx
    refine (Fi.tuple (k := 1) (w := 80) (l := 2) (fun d hd => ?_) (Nat.le_refl _)).mono (Nat.le_refl _) (by decide)
    simp only [List.mem_cons, List.not_mem_nil, or_false] at hd
    rcases hd with rfl | rfl
    · cases e : S.bs x with
      | none => exact Fi.none.mono (by decide) (by decide)
      | some b =>
        have z := BS.oi x hx
        have y := BS.bl x b z.1 z.2 e
        have := BS.m14
        exact (Fi.int y.1 (by omega)).mono (by decide) (by decide)
    · refine (Fi.dic (k := 0) (w := 0) (l := 40) (fun e he => ?_) ?_).mono (by decide) (by decide)
      · obtain ⟨c, hc, rfl⟩ := List.mem_map.mp he
        have hc2 := mem_rng.mp (List.mem_filter.mp hc).1
        have := getrow r c
        exact ⟨⟨hc2.1, by show c ≤ 100000; omega⟩, Fi.int this.1 (by omega)⟩
      · unfold rowE kc
        rw [List.length_map]
        exact Nat.le_trans (List.length_filter_le _ _) (by rw [rng_length]; exact hn)
  have f2 : Fi (layersD P.n S) 3 8040 := by
    refine (Fi.dic (k := 2) (w := 200) (l := 20) (fun e he => ?_) (by rw [List.length_map]; exact lok)).mono (by decide) (by decide)
    obtain ⟨x, hx, rfl⟩ := List.mem_map.mp he
    exact ⟨ob x hx, f1 x hx⟩
  have f3 : Fi (writersD S) 3 8040 := by
    refine (Fi.dic (k := 0) (w := 0) (l := 20) (fun e he => ?_) (by rw [List.length_map, rng_length]; exact BS.w14)).mono (by decide) (by decide)
    obtain ⟨w, hw, rfl⟩ := List.mem_map.mp he
    have hw2 := mem_rng.mp hw
    have := BS.w14
    have := BS.m14
    have z := BS.sr w hw2.1 hw2.2
    exact ⟨⟨hw2.1, by show w ≤ 100000; omega⟩, Fi.int z.1 (by omega)⟩
  have f4 : Fi (jobsD dn S) 3 8040 := by
    refine (Fi.dic (k := 2) (w := 30) (l := 20) (fun e he => ?_) (by rw [List.length_map]; exact ljk)).mono (by decide) (by decide)
    obtain ⟨i, hi, rfl⟩ := List.mem_map.mp he
    have j := G.jb i hi
    have hi2 := BS.ji i hi
    have := BS.b20
    have p0 := j.pl0
    have p1 := j.pl1
    refine ⟨⟨hi2.1, by show i ≤ 100000; omega⟩, ?_⟩
    refine (Fi.tuple (k := 1) (w := 4) (l := 5) (fun d hd => ?_) (Nat.le_refl _)).mono (by decide) (by decide)
    simp only [List.mem_cons, List.not_mem_nil, or_false] at hd
    rcases hd with rfl | rfl | rfl | rfl | rfl
    · refine ⟨?_, rfl, Nat.zero_le _, ?_⟩
      · cases dn <;> decide +kernel
      · cases dn <;> decide +kernel
    · exact (Fi.int (ob _ j.uo).1 (ob _ j.uo).2).mono (by decide) (by decide)
    · exact (Fi.int (ob _ j.lo).1 (ob _ j.lo).2).mono (by decide) (by decide)
    · exact (Fi.int p0 (by omega)).mono (by decide) (by decide)
    · exact ⟨rfl, rfl, by decide, by decide⟩
  have f5 : Fi (wrongD (wrong S P.n)) 3 8040 := by
    cases e : wrong S P.n with
    | none => exact Fi.none.mono (by decide) (by decide)
    | some q =>
      obtain ⟨x, c⟩ := q
      have := wrong_bd e
      have := BS.w14
      refine (Fi.tuple (k := 0) (w := 0) (l := 2) (fun d hd => ?_) (Nat.le_refl _)).mono (by decide) (by decide)
      simp only [List.mem_cons, List.not_mem_nil, or_false] at hd
      rcases hd with rfl | rfl
      · exact Fi.int (by omega) (by omega)
      · exact Fi.int (by omega) (by omega)
  have f6 : ∀ w ∈ rng S.nw, Fi (.tuple ((S.co w).map PyData.int)) 3 8040 := fun w hw => by
    have hw2 := mem_rng.mp hw
    refine (Fi.tuple (k := 0) (w := 0) (l := 40) (fun d hd => ?_) (by rw [List.length_map, BS.cl w hw2.1 hw2.2]; exact hn)).mono (by decide) (by decide)
    obtain ⟨v, hv, rfl⟩ := List.mem_map.mp hd
    have := BS.cb w hw2.1 hw2.2 v hv
    exact Fi.int this.1 (by omega)
  have f : Fi (tellD dn P.n S) 4 (25 * 8041) := by
    refine Fi.list (k := 3) (w := 8040) (l := 25) (fun d hd => ?_) ?_
    · rcases List.mem_append.mp hd with hd | hd
      · simp only [List.mem_cons, List.not_mem_nil, or_false] at hd
        rcases hd with rfl | rfl | rfl | rfl | rfl
        · exact f2
        · exact f3
        · exact f4
        · exact f5
        · exact (Fi.int (by omega) (by omega)).mono (by decide) (by decide)
      · obtain ⟨w, hw, rfl⟩ := List.mem_map.mp hd
        exact f6 w hw
    · rw [List.length_append, List.length_map, rng_length]
      have := BS.w14
      show 5 + S.nw ≤ 25
      omega
  exact ⟨f.sh, Nat.le_trans f.dp (by decide), PyData.shown_fits_bulk (by decide) (by decide) f.ls (Nat.le_trans f.bk (by decide))⟩
end K20W
end
/-! GG -/
section
set_option Elab.async false
set_option linter.all false
set_option maxRecDepth 100000
set_option maxHeartbeats 4000000
/-! A promise of a def that is called where no repr is under way. -/
namespace K20W
open PySem PySem.Spec PyProof.Rows L2 K20
/-- like FnOk, where the repr guards are known to be empty -/
structure FnOkG (P : Program) (w : World) (K : PySem.W.Frag) (mg : Str → Option Value) (base : Heap) (CX : CXT) (k : Nat) (f : Addr) (fd : FuncData) (ps : List Str) (sp : Sp) : Prop where
  len : ∀ vs H Q E, sp vs H Q E → vs.length = ps.length
  go : ∀ (A : Around) (outer : List Env) (s : Shared) (H : Hp) (args : Args) (us : List Value) (vs : List V) (Q : VK) (E : XK), A.guards = some [] → Room k A → Env0 P w K mg base A outer s H → BindsTo s fd args (ps.zip us) → Vals vs us → sp vs H Q E →
    codeAny (model P w) A (.call (.ref f) args) (CR CX outer P w H s Q E) s
theorem FnOkG.mk' {P : Program} {w : World} {K : PySem.W.Frag} {mg : Str → Option Value} {base : Heap} {x qual : Str} {pa : Arguments} {body : List Stmt} {scope : Scope} {dvs : List V} {kws : List (Str × V)} {f : Addr} {fd : FuncData} {CX : CXT} {N ps : List Str} {k : Nat} {sp : Sp}
    (F : FunD K x qual pa body scope dvs kws f fd) (S : FnScope N ps scope) (len : ∀ vs H Q E, sp vs H Q E → vs.length = ps.length)
    (hb : ∀ (cdv : Value) (A : Around) (outer : List Env) (s : Shared) (H : Hp) (vs : List V) (Q : VK) (E : XK), (A.deeper (envOfC qual scope s.heap.objs.size f cdv)).guards = some [] → Room k (A.deeper (envOfC qual scope s.heap.objs.size f cdv)) → sp vs H Q E →
      ∃ t, PSs (cxOf CX P w K mg base N qual scope f cdv A outer s H E) body t ∧ t { nx := fun _ H' => Q .non H', rt := Q } (start N vs) H) : FnOkG P w K mg base CX (k + 1) f fd ps sp := by
  obtain ⟨oc, od, dV, kV, doc, pm, an, cdv, ct, osl, rfl, lk, hcd, _, _⟩ := F.ex
  refine ⟨len, ?_⟩
  intro A outer s H args us vs Q E hg hr e0 hbd hv hsp
  have ln := len _ _ _ _ hsp
  have inK : K.In s.heap := e0.mod.kin.keeps fun b o e => (e0.bs b o e).1
  have nolim : s.heap.NoLimit := e0.mod.nolimit.keeps fun b o e => (e0.bs b o e).1
  have kinds : ∀ y ∈ ps.zip us, scope.names.lookup y.1 = some .local ∨ (scope.names.lookup y.1 = some .cell ∧ ((cellsFrom (s.heap.objs.size + 1) scope.names []).lookup y.1).isSome = true) := by
    rintro ⟨n, v⟩ hy
    exact (S.par n (List.of_mem_zip hy).1).imp (fun q => q) fun q => ⟨q, PySem.W.cellsFrom_some _ _ _ (.inl q)⟩
  refine codeAny_call_function hr.depth (inK _ _ lk) rfl S.co S.gen rfl (PySem.W.codeRec_of inK hcd) (hbd _ _ _ _ ?_)
  refine wpAny_newFunctionEnv_cells S.kind kinds fun env he s1 x => ?_
  subst he
  refine ⟨nolim.keeps x.toInCall.keep, codeAny_func ?_⟩
  obtain ⟨t, ht, hq⟩ := hb cdv A outer s H vs Q E hg (hr.deeper _) hsp
  have I : Inv (cxOf CX P w K mg base N qual scope f cdv A outer s H E) [] (start N vs) H s1 := inv_start S hr.hd e0 ln hv x
  refine wpAny_mono (ht.run [] s1 (start N vs) H _ I hq) (fun fl s' hs => ?_) fun e s' hs => hs
  have done : ∀ {σ' : L2.St} {H' : Hp} {v : V} {u : Value}, Inv (cxOf CX P w K mg base N qual scope f cdv A outer s H E) [] σ' H' s' → RelV v u → Q v H' → CE outer P w H s Q u s' := by
    intro σ' H' v u J rv q
    exact ⟨v, H', J.os, J.bare, J.base, J.hok, rv, q⟩
  match fl, hs with
  | .ret u, ⟨v, σ', H', J, rv, q⟩ => exact done J rv q
  | .next, ⟨σ', H', J, q⟩ => exact done (v := V.non) (u := Value.none) J rfl q
  | .brk, ⟨_, _, _, q⟩ => exact q.elim
  | .cont, ⟨_, _, _, q⟩ => exact q.elim
section
variable {X : Cx} {CX : CXT} {k : Nat} {f : Addr} {fd : FuncData} {ps : List Str} {sp : Sp} {E : XK} {x : Str} {p pos : Pos} {e : Expr} {es : List Expr} {t : TA}
theorem pe_callG (hg : X.A.guards = some []) (F : FnOkG X.prog X.w X.K X.mg X.base CX k f fd ps sp) (hr : Room k X.A) (gl : Gl X x) (hm : X.mg x = some (.ref f)) (hk : PySem.W.keepIn X.K (.ref f) = true) (hb : Binds X.K fd ps []) (hx : Passes CX X E)
    (ha : PA X (e :: es) t) (hdb : (x == ("__debug__" : Str)) = false := by decide) (he : starEach (e :: es) X.env = (false, eval e X.env) :: starEach es X.env := by rfl) (hpl : (backTo pos (starEach es X.env)).any (·.1) = false := by rfl) :
    PE X (.Call (.Name x p) (e :: es) [] pos) (tCall sp [] E t) := by
  refine ⟨fun pins s σ H Q I h => wpAny_Call_Name_kw (ld_glob I gl hm ?_ hdb)⟩
  refine PySem.W.callWith_K (h₀ := X.base) I.ok.mod.kin hk (thn (ha.run pos pins s σ H _ I h) fun us s1 ⟨vs, H1, I1, r, q⟩ => ⟨I1.kIn, ?_⟩) he hpl
  have q : sp vs H1 Q E := by
    have q2 : sp (vs ++ []) H1 Q E := q
    rw [List.append_nil] at q2
    exact q2
  have ln : us.length = ps.length := by rw [← r.length]; exact F.len _ _ _ _ q
  have bd := hb s1 us I1.kIn (by rw [List.append_nil]; exact ln)
  rw [List.append_nil] at bd
  refine wpAny_call (codeAny_mono (F.go X.A X.stack s1 H1 ⟨us, []⟩ us vs Q E hg hr I1.env0 bd r q) fun r s' hq => ?_)
  match r, hq with
  | .error e, hq => exact hx pins σ H1 s1 e s' I1 hq
  | .ok (.ret u), hq => exact I1.after hq
  | .ok .next, hq => exact hq.elim
  | .ok .brk, hq => exact hq.elim
  | .ok .cont, hq => exact hq.elim
end
end K20W
end
/-! V18 -/
section
set_option Elab.async false
set_option linter.all false
set_option maxRecDepth 100000
set_option maxHeartbeats 8000000
/-! shows. -/
namespace K20W
open PySem L2 K20
theorem cell_of {n : Nat} {r : Row} (h : RowOk n r) {p : Int × Int} (hp : p ∈ r) : cellV r p.1 = p.2 := by
  have hn := h.nd
  clear h
  unfold cellV
  induction r with
  | nil => cases hp
  | cons q l ih =>
    rw [List.map_cons, List.nodup_cons] at hn
    rcases List.mem_cons.mp hp with e | e
    · subst e
      rw [get_pos rfl]
      rfl
    · have ne : ¬ q.1 = p.1 := fun z => hn.1 (List.mem_map.mpr ⟨p, e, z.symm⟩)
      rw [get_neg ne]
      exact ih e hn.2
theorem rowV_dI {n : Nat} {r : Row} (h : RowOk n r) : rowV r = dI (fun c => .int (cellV r c)) (r.map (·.1)) := by
  show r.map _ = (r.map (·.1)).map _
  rw [List.map_map]
  refine List.map_congr_left fun p hp => ?_
  show (Sum.inl p.1, V.int p.2) = (Sum.inl p.1, V.int (cellV r p.1))
  rw [cell_of h hp]
theorem pairs_of {K : PySem.W.Frag} {H : Hp} {g : Int → Int} : ∀ {ps : List (Addr × Int)}, (∀ z ∈ ps, H z.1 = some (.tup [.int z.2, .int (g z.2)])) → Paired (fun p (kv : Key × V) => SqT K H p [kV kv.1, kv.2]) (ps.map (·.1)) (dI (fun k => .int (g k)) (ps.map (·.2)))
  | [], _ => .nil
  | z :: r, h => .cons (SqT.of (h z List.mem_cons_self)) (pairs_of fun y hy => h y (List.mem_cons_of_mem _ hy))
theorem WrongV.dr {H : Hp} {v : V} {o : Option (Int × Int)} (h : WrongV H v o) : DR H v (wrongD o) := by
  cases o with
  | none =>
    have h : v = .non := h
    subst h
    exact .non
  | some q =>
    obtain ⟨x, c⟩ := q
    obtain ⟨t, rfl, ht⟩ := h
    exact .tup ht (.cons (.int _) (.cons (.int _) .nil))
/-- a task's five, by their names -/
def fiveV (k : Str) (x : Jb) (ma : Addr) : V → V := fun v => if v = .str "kind" then .str k else if v = .str "upper" then .int x.up else if v = .str "lower" then .int x.lo else if v = .str "place" then .int x.pl else .ref ma
def fiveN : List V := [.str "kind", .str "upper", .str "lower", .str "place", .str "marks"]
theorem five_ne {a b : Str} (h : a ≠ b) : ¬ V.str a = V.str b := fun e => h (V.str.inj e)
theorem five_map (k : Str) (x : Jb) (ma : Addr) : ((fiveN.filter fun _ => true).map (fiveV k x ma)) = [.str k, .int x.up, .int x.lo, .int x.pl, .ref ma] := by
  rw [List.filter_eq_self.mpr fun _ _ => rfl]
  show [fiveV k x ma (.str "kind"), fiveV k x ma (.str "upper"), fiveV k x ma (.str "lower"), fiveV k x ma (.str "place"), fiveV k x ma (.str "marks")] = _
  have e1 : fiveV k x ma (.str "kind") = .str k := if_pos rfl
  have e2 : fiveV k x ma (.str "upper") = .int x.up := (if_neg (five_ne (by decide +kernel))).trans (if_pos rfl)
  have e3 : fiveV k x ma (.str "lower") = .int x.lo := (if_neg (five_ne (by decide +kernel))).trans ((if_neg (five_ne (by decide +kernel))).trans (if_pos rfl))
  have e4 : fiveV k x ma (.str "place") = .int x.pl := (if_neg (five_ne (by decide +kernel))).trans ((if_neg (five_ne (by decide +kernel))).trans ((if_neg (five_ne (by decide +kernel))).trans (if_pos rfl)))
  have e5 : fiveV k x ma (.str "marks") = .ref ma := (if_neg (five_ne (by decide +kernel))).trans ((if_neg (five_ne (by decide +kernel))).trans ((if_neg (five_ne (by decide +kernel))).trans (if_neg (five_ne (by decide +kernel)))))
  rw [e1, e2, e3, e4, e5]
theorem five_get {H : Hp} {a : Addr} {k : Str} {x : Jb} {ma na : Addr} {sv : V} (h : H a = some (.dK (tkv k x ma na sv))) {v : V} (hv : v ∈ fiveN) : DGet H a v (some (fiveV k x ma v)) := by
  unfold fiveN at hv
  simp only [List.mem_cons, List.not_mem_nil, or_false] at hv
  rcases hv with rfl | rfl | rfl | rfl | rfl
  · rw [show fiveV k x ma (.str "kind") = .str k from if_pos rfl]
    exact tk_kind h
  · rw [show fiveV k x ma (.str "upper") = .int x.up from (if_neg (five_ne (by decide +kernel))).trans (if_pos rfl)]
    exact tk_upper h
  · rw [show fiveV k x ma (.str "lower") = .int x.lo from (if_neg (five_ne (by decide +kernel))).trans ((if_neg (five_ne (by decide +kernel))).trans (if_pos rfl))]
    exact tk_lower h
  · rw [show fiveV k x ma (.str "place") = .int x.pl from (if_neg (five_ne (by decide +kernel))).trans ((if_neg (five_ne (by decide +kernel))).trans ((if_neg (five_ne (by decide +kernel))).trans (if_pos rfl)))]
    exact tk_place h
  · rw [show fiveV k x ma (.str "marks") = .ref ma from (if_neg (five_ne (by decide +kernel))).trans ((if_neg (five_ne (by decide +kernel))).trans ((if_neg (five_ne (by decide +kernel))).trans (if_neg (five_ne (by decide +kernel)))))]
    exact tk_marks h
theorem DRs.maps {H : Hp} {g : Int → V} {d : Int → PyData} : ∀ {ks : List Int}, (∀ k ∈ ks, DR H (g k) (d k)) → DRs H (ks.map g) (ks.map d)
  | [], _ => .nil
  | k :: r, h => .cons (h k List.mem_cons_self) (DRs.maps fun x hx => h x (List.mem_cons_of_mem _ hx))
theorem take_snoc {ks : List Int} (nd : ks.Nodup) {i : Nat} {k : Int} (h : ks[i]? = some k) : ks.take (i + 1) = ks.take i ++ [k] ∧ k ∉ ks.take i := by
  have tk1 : ks.take (i + 1) = ks.take i ++ [k] := by
    rw [List.take_add_one, h]
    rfl
  refine ⟨tk1, fun hm => ?_⟩
  have h2 : (ks.take (i + 1)).Nodup := nd.sublist (List.take_sublist _ _)
  rw [tk1, List.nodup_append] at h2
  exact h2.2.2 k hm k (List.mem_singleton.mpr rfl) rfl
theorem int_at {ks : List Int} {i : Nat} {x : V} (h : (ks.map V.int)[i]? = some x) : ∃ k, ks[i]? = some k ∧ x = .int k := by
  rw [List.getElem?_map] at h
  cases e : ks[i]? with
  | none => rw [e] at h; cases h
  | some z => rw [e] at h; exact ⟨z, rfl, (Option.some.inj h).symm⟩
section
variable {P : Program} {w : World} {K : PySem.W.Frag} {mg : Str → Option Value} {base : Heap} {f CY CB CJ : Addr} {fd : FuncData}
def spShows (CY CJ : Addr) : Sp := fun vs H Q _ => ∃ (y bk p : Addr) (dn : Bool) (n : Nat) (A A2 : Ad) (S : Vs) (D D2 : Du) (τ σ : Addr → Int) (B : BookR), vs = [.ref y, .ref p] ∧ YA CY CJ dn bk n H y A S D τ ∧ SA dn n H p A2 S D2 σ ∧ Good (par B dn n) S D ∧ n ≤ 40 ∧ ∀ H', Same H H' → Q (.bl true) H'
theorem ok_shows (hS : K.lookup sysModules ≠ none) (Bt : Blt mg) (TY : YardC K CY) (p1 : Pd P w K mg base CY "layers" 1 (spLayersD CY CJ)) (p2 : Pd P w K mg base CY "writers" 1 (spWriters CY CJ)) (p3 : Pd P w K mg base CY "jobs" 1 (spJobs CY CJ)) (p4 : Pd P w K mg base CY "cells" 1 (spCells CY))
    (m1 : Md P w K mg base CY "wrong" 3 ["self"] (spWrong CY)) (m2 : Md P w K mg base CY "contents" 3 ["self", "writer"] (spContents CY)) (g1 : Gd P w K mg base "_law_wrong" 23 ["_law_sheet"] spLWrong)
    (F : Fu K "_law_shows" "_law_shows" (top 77) f fd) : FnOkG P w K mg base CX0 24 f fd ["_law_yard", "_law_sheet"] (spShows CY CJ) := by
  have sc : FnScope ["_law_yard", "_law_sheet", "_law_owned", "_law_jobs", "_law_layers", "_law_one", "_law_task", "_law_told", "_law_due", "_law_name"] ["_law_yard", "_law_sheet"] (defScope (top 77)) := ⟨rfl, rfl, rfl, by decide +kernel, rfl, by decide +kernel, by decide +kernel⟩
  obtain ⟨q1, a1, c1, G1, P1, b1⟩ := p1
  obtain ⟨q2, a2, c2, G2, P2, b2⟩ := p2
  obtain ⟨q3, a3, c3, G3, P3, b3⟩ := p3
  obtain ⟨q4, a4, c4, G4, P4, b4⟩ := p4
  obtain ⟨a5, c5, G5, M5, b5⟩ := m1
  obtain ⟨a6, c6, G6, M6, b6⟩ := m2
  obtain ⟨a7, c7, G7, e7, k7, b7⟩ := g1
  refine FnOkG.mk' F sc (fun vs H Q E h => ?_) (fun cdv Ar outer s H vs Q E hg hr h => ?_)
  · obtain ⟨y, _, p, _, _, _, _, _, _, _, _, _, _, rfl, _⟩ := h
    rfl
  · obtain ⟨y, bk, p, dn, n, A, A2, S, D, D2, τ, σ, B, rfl, Y, Z, G, n40, q⟩ := h
    have hu := hu_of hr
    have hr2 : Room 2 _ := hr.mono (by decide)
    have hr3 : Room 3 _ := hr.mono (by decide)
    have hu100 := show (Ar.deeper (PyProof.Rows.envOfC "_law_shows" (defScope (top 77)) s.heap.objs.size f cdv)).units + 100 < cLine from by have := hr.un; omega
    refine ⟨_, PSs.nox (pss_cons (ps_par3 (i := 2) (j := 3) (l := 4) (by rfl) sc.nd rfl rfl rfl (by decide) (by decide) (by decide) rfl rfl rfl (pa_cons (pe_dget hu (pv 1) pe_str (fun _ _ => rfl)) (pa_cons pe_dnewK (pa_cons pe_dnewK pa_nil))) rfl)
      (pss_cons (ps_for PassesOwn.never rfl (pi_list (pe_callB (call_sortedDI rfl) (by rfl) Bt.sorted boot_sorted (pa_cons (pe_dget hu (pv 1) pe_str (fun _ _ => rfl)) pa_nil))) (pg_name (i := 5) sc.nd rfl (Or.inl rfl))
        (pss_cons (ps_set (i := 6) sc.nd rfl (.inr rfl) (pe_dget hu (pe_dget hu (pv 1) pe_str (fun _ _ => rfl)) (pv 5) (fun _ _ => rfl)))
        (pss_one (ps_dput hu (pv 3) (pv 5) (pe_callTy call_tuple_of rfl Bt.tuple boot_tuple (pa_cons (pe_lc (own := [("_law_name", 9)]) (g := gName 9) (te := tDGet (tVar 6) (tVar 9)) (by rfl) sc.nd (pi_list (pe_lst (pa_cons pe_str (pa_cons pe_str (pa_cons pe_str (pa_cons pe_str (pa_cons pe_str pa_nil)))))))
          (blkOk_by (own := [("_law_name", 9)]) (N := ["_law_yard", "_law_sheet", "_law_owned", "_law_jobs", "_law_layers", "_law_one", "_law_task", "_law_told", "_law_due", "_law_name"]) (sc := defScope (top 77)) (by decide +kernel))
          (fun _ _ _ _ _ => pg_name (i := 9) sc.nd rfl (Or.inl rfl)) (fun _ _ _ _ _ => pts_nil) (fun _ _ _ _ _ => pe_dget hu (pv 6) (pv 9) (fun _ _ => rfl))) pa_nil)) rfl))))
      (pss_cons (ps_for PassesOwn.never rfl (pi_list (pe_callB (call_sortedDI rfl) (by rfl) Bt.sorted boot_sorted (pa_cons (pv 2) pa_nil))) (pg_name (i := 5) sc.nd rfl (Or.inl rfl))
        (pss_one (ps_dput hu (pv 4) (pv 5) (pe_tup (pa_cons (pe_dget hu (pe_dget hu (pv 1) pe_str (fun _ _ => rfl)) (pv 5) (fun _ _ => rfl)) (pa_cons (pe_callTy (call_dictP rfl) rfl Bt.dict boot_dict (pa_cons (pe_callB (cr_sortedII rfl) (by rfl) Bt.sorted boot_sorted (pa_cons
          (pe_bm0 PySem.F.plainAttrs_dict PySem.F.slot_dict_items PySem.F.type_dict_items mt_itemsK2 (pe_dget hu (pv 2) (pv 5) (fun _ _ => rfl))) pa_nil)) pa_nil)) pa_nil))) rfl)))
      (pss_cons (ps_set (i := 7) sc.nd rfl (.inl rfl) (pe_lst (pa_cons (pe_prop (pv 0) TY.cl P1 G1 hr2 b1 .nil pass0 rfl) (pa_cons (pe_prop (pv 0) TY.cl P2 G2 hr2 b2 .nil pass0 rfl) (pa_cons (pe_prop (pv 0) TY.cl P3 G3 hr2 b3 .nil pass0 rfl) (pa_cons (pe_meth0 (pv 0) TY.cl M5 G5 hr3 b5 .nil pass0) (pa_cons (pe_prop (pv 0) TY.cl P4 G4 hr2 b4 .nil pass0 rfl) pa_nil)))))))
      (pss_cons (ps_set (i := 7) sc.nd rfl (.inl rfl) (pe_op op_cat (pv 7) (pe_lc (own := [("_law_one", 5)]) (g := gName 5) (te := tMeth CY "contents" (spContents CY) [] E0 (tVar 0) (tCons (tVar 5) tNil)) (by rfl) sc.nd (pi_list (pe_callB (call_sortedDI rfl) (by rfl) Bt.sorted boot_sorted (pa_cons (pe_dget hu (pv 1) pe_str (fun _ _ => rfl)) pa_nil)))
          (blkOk_by (own := [("_law_one", 5)]) (N := ["_law_yard", "_law_sheet", "_law_owned", "_law_jobs", "_law_layers", "_law_one", "_law_task", "_law_told", "_law_due", "_law_name"]) (sc := defScope (top 77)) (by decide +kernel))
          (fun _ _ _ _ _ => pg_name (i := 5) sc.nd rfl (Or.inl rfl)) (fun _ _ _ _ _ => pts_nil) (fun _ _ _ _ _ => pe_meth (pv 0) TY.cl M6 G6 hr3 b6 .nil pass0 (pa_cons (pv 5) pa_nil)))))
      (pss_cons (ps_set (i := 8) sc.nd rfl (.inl rfl) (pe_lst (pa_cons (pv 4) (pa_cons (pe_callTy (call_dictP rfl) rfl Bt.dict boot_dict (pa_cons (pe_callB (cr_sortedII rfl) (by rfl) Bt.sorted boot_sorted (pa_cons (pe_bm0 PySem.F.plainAttrs_dict PySem.F.slot_dict_items PySem.F.type_dict_items mt_itemsK2 (pe_dget hu (pv 1) pe_str (fun _ _ => rfl))) pa_nil)) pa_nil))
          (pa_cons (pv 3) (pa_cons (pe_call G7 hr rfl e7 k7 b7 .nil pass0 (pa_cons (pv 1) pa_nil)) (pa_cons (pe_dget hu (pv 1) pe_str (fun _ _ => rfl)) pa_nil)))))))
      (pss_one (ps_ret (pe_cmpR op_eq (pe_callB (call_repr hg hS hu100) (by rfl) Bt.repr boot_repr (pa_cons (pv 7) pa_nil)) (pe_callB (call_repr hg hS hu100) (by rfl) Bt.repr boot_repr (pa_cons (pe_op op_cat (pv 8) (pe_lc (own := [("_law_one", 5)]) (g := gName 5) (te := tDGet (tDGet (tVar 1) (tC (.str "contents"))) (tVar 5)) (by rfl) sc.nd (pi_list (pe_callB (call_sortedDI rfl) (by rfl) Bt.sorted boot_sorted (pa_cons (pe_dget hu (pv 1) pe_str (fun _ _ => rfl)) pa_nil)))
          (blkOk_by (own := [("_law_one", 5)]) (N := ["_law_yard", "_law_sheet", "_law_owned", "_law_jobs", "_law_layers", "_law_one", "_law_task", "_law_told", "_law_due", "_law_name"]) (sc := defScope (top 77)) (by decide +kernel))
          (fun _ _ _ _ _ => pg_name (i := 5) sc.nd rfl (Or.inl rfl)) (fun _ _ _ _ _ => pts_nil) (fun _ _ _ _ _ => pe_dget hu (pe_dget hu (pv 1) pe_str (fun _ _ => rfl)) (pv 5) (fun _ _ => rfl)))) pa_nil)) (nomark _)))))))))), ?_⟩
    obtain ⟨⟨dx, h1⟩, R, b0⟩ := id Y
    obtain ⟨k1, R2⟩ := id Z
    have BS : Base n S := G.ba
    have jkn : S.jk.Nodup := BS.jn.imp fun {a b} h => by omega
    have okn : S.ok.Nodup := BS.os.imp fun {a b} h => by omega
    have nwn : (rng S.nw).Nodup := (rng_rising S.nw).imp fun {a b} h => by omega
    have lj := jk_len BS
    have lo := ok_len BS
    refine ⟨_, rfl, p, _, rfl, sk_owned k1, ?_⟩
    intro F1 hF1 F2 hF2
    refine ⟨_, _, _, rfl, ?_⟩
    have n12 : F2 ≠ F1 := fun e => by
      rw [e, upd_same] at hF2
      cases hF2
    have s2 : Same H (upd (upd H F1 (.dK [])) F2 (.dK [])) := Same.newS (Same.newS (Same.refl _) hF1) hF2
    have v1 : (upd (upd H F1 (.dK [])) F2 (.dK [])) F1 = some (.dK []) := by rw [upd_ne n12.symm, upd_same]
    have v2 : (upd (upd H F1 (.dK [])) F2 (.dK [])) F2 = some (.dK []) := upd_same
    have hF2' : H F2 = none := by
      rw [upd_ne n12] at hF2
      exact hF2
    generalize upd (upd H F1 (.dK [])) F2 (.dK []) = H2 at s2 v1 v2 ⊢
    -- the jobs
    refine ⟨_, rfl, p, _, rfl, sk_jobs (s2 _ _ k1), A2.j, _, S.jk, rfl, .inl (s2 _ _ R2.hj), dI_keys _ _, Nat.lt_of_le_of_lt lj (by decide), fun ys l hperm hsrt hl => ?_⟩
    have ey := sorted_eq hperm hsrt BS.jn
    subst ey
    have s3 : Same H2 (upd H2 l (.lst (S.jk.map V.int))) := Same.newS (Same.refl _) hl
    have vl : (upd H2 l (.lst (S.jk.map V.int))) l = some (.lst (S.jk.map V.int)) := upd_same
    generalize upd H2 l (.lst (S.jk.map V.int)) = H3 at s3 vl ⊢
    have s03 := Same.trans s2 s3
    have nlF : l ≠ F1 := ne_of vl (s3 _ _ v1) (by intro z; cases z)
    refine ⟨l, rfl, ⟨_, SqL.of vl⟩, ?_⟩
    refine for_it (walk_list (K := K) (a := l) (xs := S.jk.map V.int)) (fun i σ H' => (∃ a b, σ = [some (.ref y), some (.ref p), some (.ref A2.o), some (.ref F1), some (.ref F2), a, b, none, none, none]) ∧ Off F1 H3 H' ∧ ∃ g : Int → V, H' F1 = some (.dK (dI g (S.jk.take i))) ∧ ∀ k ∈ S.jk.take i, ∃ t t0, g k = .ref t ∧ H' t = some (.tup [.str (kindS dn), .int (S.jo k).up, .int (S.jo k).lo, .int (S.jo k).pl, .ref t0]) ∧ H' t0 = some (.tup []))
      ⟨⟨_, _, rfl⟩, Off.refl, fun _ => .non, s3 _ _ v1, fun k hk => (nomatch hk)⟩ (fun i σ H' _ h => SqL.of (h.2.1 _ _ nlF vl)) ?_ ?_
    · rintro i x σ H' H4 hi ⟨⟨a0, b1, rfl⟩, of, g, hg, hgk⟩ ⟨rfl, hx⟩
      obtain ⟨k, hk0, rfl⟩ := int_at hx
      have km : k ∈ S.jk := List.mem_of_getElem? hk0
      obtain ⟨tk1, kn⟩ := take_snoc jkn hk0
      obtain ⟨ma, na, sv, hj, hma, _⟩ := R2.hjd k km
      have lk : ∀ {a : Addr} {o : HO}, H a = some o → H4 a = some o := fun h => of _ _ (ne_of_none h hF1) (s03 _ _ h)
      refine ⟨_, rfl, p, _, rfl, sk_jobs (lk k1), _, rfl, A2.j, _, rfl, dI_get (lk R2.hj) km, (show 5 ≤ sizeLine from by decide), fun ln hln => ?_⟩
      have s5 : Same H4 (upd H4 ln (.lst fiveN)) := Same.newS (Same.refl _) hln
      have v5 : (upd H4 ln (.lst fiveN)) ln = some (.lst fiveN) := upd_same
      have hj5 := s5 _ _ (lk hj)
      refine ⟨ln, rfl, ⟨_, SqL.of v5⟩, fun D0 hD0 => ?_⟩
      refine lc_pick (walk_list (K := K) (a := ln) (xs := fiveN)) (H1 := upd H4 ln (.lst fiveN)) hD0 (fun _ => true) (fiveV (kindS dn) (S.jo k) ma) (show 5 ≤ sizeLine from by decide) (fun Hc sc => SqL.of (sc _ _ v5)) (fun x Hc hx sc Q' hq => hq _ (Same.refl _)) (fun x Hc hx _ sc Q' hq => ⟨_, rfl, _, rfl, A2.jd k, _, rfl, five_get (sc _ _ hj5) hx, hq _ (Same.refl _)⟩) fun H6 s6 hD6 => ?_
      rw [five_map] at hD6
      have s46 := Same.trans s5 s6
      refine ⟨D0, _, rfl, .inl ⟨SqL.of hD6, fun t ht => ?_⟩⟩
      have st : Same H6 (upd H6 t (.tup [.str (kindS dn), .int (S.jo k).up, .int (S.jo k).lo, .int (S.jo k).pl, .ref ma])) := Same.newS (Same.refl _) ht
      have vt : (upd H6 t (.tup [.str (kindS dn), .int (S.jo k).up, .int (S.jo k).lo, .int (S.jo k).pl, .ref ma])) t = some (.tup [.str (kindS dn), .int (S.jo k).up, .int (S.jo k).lo, .int (S.jo k).pl, .ref ma]) := upd_same
      generalize upd H6 t (.tup [.str (kindS dn), .int (S.jo k).up, .int (S.jo k).lo, .int (S.jo k).pl, .ref ma]) = H7 at st vt ⊢
      have s47 : Same H4 H7 := Same.trans s46 st
      have pF := dI_setNew (s47 _ _ hg) kn (by rw [List.length_take]; omega) (.ref t)
      rw [← tk1] at pF
      refine ⟨_, rfl, _, rfl, F1, _, rfl, pF, ⟨_, _, rfl⟩, fun b o hb h => ?_, _, upd_same, fun z hz => ?_⟩
      · rw [upd_ne hb]
        exact s47 _ _ (of _ _ hb h)
      · have nt : ∀ {a : Addr} {xs : List V}, H7 a = some (.tup xs) → (upd H7 F1 (.dK (dI (fupd g k (.ref t)) (S.jk.take (i + 1))))) a = some (.tup xs) := fun h => by
          rw [upd_ne (ne_of h (s47 _ _ hg) (by intro z; cases z))]
          exact h
        by_cases e : z = k
        · subst e
          exact ⟨t, ma, by rw [fupd_same], nt vt, nt (s47 _ _ (lk hma))⟩
        · rw [tk1] at hz
          obtain ⟨t', t0', b1, b2, b3⟩ := hgk z ((List.mem_append.mp hz).resolve_right fun h => e (List.mem_singleton.mp h))
          exact ⟨t', t0', by rw [fupd_ne e]; exact b1, nt (s47 _ _ b2), nt (s47 _ _ b3)⟩
    rintro σ1 H4 ⟨⟨a0, b1', rfl⟩, of, g, hg, hgk⟩
    rw [List.length_map, List.take_length] at hg hgk
    have s04 : Same H H4 := fun b o hb => of _ _ (ne_of_none hb hF1) (s03 _ _ hb)
    have v2 := of _ _ n12 (s3 _ _ v2)
    clear of vl s3 s03 nlF v1
    -- the layers
    refine ⟨_, rfl, A2.o, _, S.ok, rfl, .inl (s04 _ _ R2.ho), dI_keys _ _, Nat.lt_of_le_of_lt lo (by decide), fun ys l2 hperm hsrt hl2 => ?_⟩
    have ey := sorted_eq hperm hsrt BS.os
    subst ey
    have s5 : Same H4 (upd H4 l2 (.lst (S.ok.map V.int))) := Same.newS (Same.refl _) hl2
    have vl : (upd H4 l2 (.lst (S.ok.map V.int))) l2 = some (.lst (S.ok.map V.int)) := upd_same
    generalize upd H4 l2 (.lst (S.ok.map V.int)) = H5 at s5 vl ⊢
    have s05 := Same.trans s04 s5
    have v2 := s5 _ _ v2
    have hg := s5 _ _ hg
    have nlF : l2 ≠ F2 := ne_of vl v2 (by intro z; cases z)
    refine ⟨l2, rfl, ⟨_, SqL.of vl⟩, ?_⟩
    refine for_it (walk_list (K := K) (a := l2) (xs := S.ok.map V.int)) (fun i σ H' => (∃ a b, σ = [some (.ref y), some (.ref p), some (.ref A2.o), some (.ref F1), some (.ref F2), a, b, none, none, none]) ∧ Off F2 H5 H' ∧ ∃ g : Int → V, H' F2 = some (.dK (dI g (S.ok.take i))) ∧ ∀ k ∈ S.ok.take i, ∃ t t0, g k = .ref t ∧ H' t = some (.tup [oV (S.bs k), .ref t0]) ∧ H' t0 = some (.dK (dI (fun c => .int (cellV (S.ow k) c)) (kc n (S.ow k)))) ∧ t0 ≠ F2)
      ⟨⟨_, _, rfl⟩, Off.refl, fun _ => .non, v2, fun k hk => (nomatch hk)⟩ (fun i σ H' _ h => SqL.of (h.2.1 _ _ nlF vl)) ?_ ?_
    · rintro i x σ H' H6 hi ⟨⟨a0, b1, rfl⟩, of, g2, hg2, hgk2⟩ ⟨rfl, hx⟩
      obtain ⟨k, hk0, rfl⟩ := int_at hx
      have km : k ∈ S.ok := List.mem_of_getElem? hk0
      obtain ⟨tk1, kn⟩ := take_snoc okn hk0
      have RO := BS.ro k km
      have lk : ∀ {a : Addr} {o : HO}, H a = some o → H6 a = some o := fun h => of _ _ (ne_of_none h hF2') (s05 _ _ h)
      have hod : H6 (A2.od k) = some (.dK (dI (fun c => .int (cellV (S.ow k) c)) ((S.ow k).map (·.1)))) := by
        rw [← rowV_dI RO]
        exact lk (R2.hod k km)
      refine ⟨_, rfl, p, _, rfl, sk_bases (lk k1), _, rfl, A2.b, _, rfl, dI_get (lk R2.hb) (mem_rng.mpr (BS.oi k km)), ?_⟩
      refine ⟨_, rfl, _, rfl, A2.o, _, rfl, dI_get (lk R2.ho) km, .inr (.inr (.inl ⟨rfl, .inl ⟨_, hod⟩⟩)), A2.od k, _, rfl, rfl, hod, fun iv hiv => ?_⟩
      have s7 : Same H6 (upd H6 iv (L2.DX.itemsO iv (A2.od k))) := Same.newS (Same.refl _) hiv
      refine ⟨iv, A2.od k, (S.ow k).map (·.1), cellV (S.ow k), rfl, upd_same, s7 _ _ hod, by rw [List.length_map]; have := row_len RO; omega, fun c hc => ?_, fun H7 ls ps s8 perm srt hls htup => ?_⟩
      · obtain ⟨z, hz, rfl⟩ := List.mem_map.mp hc
        have := RO.ks z hz
        have := getrow RO z.1
        exact ⟨by omega, by omega, by omega, by omega⟩
      · have ek := kc_eq RO perm srt
        have s67 : Same H6 H7 := Same.trans s7 s8
        have kcn : (kc n (S.ow k)).Nodup := ((rng_rising n).filter _).imp fun {a b} h => by omega
        refine ⟨ls, ps.map (·.1), _, rfl, SqL.of (by rw [hls, List.map_map]; rfl), pairs_of (g := cellV (S.ow k)) htup, fun t0 ht0 => ?_⟩
        rw [ek, merge_nil _ kcn]
        have s9 : Same H7 (upd H7 t0 (.dK (dI (fun c => .int (cellV (S.ow k) c)) (kc n (S.ow k))))) := Same.newS (Same.refl _) ht0
        have v9 : (upd H7 t0 (.dK (dI (fun c => .int (cellV (S.ow k) c)) (kc n (S.ow k))))) t0 = some (.dK (dI (fun c => .int (cellV (S.ow k) c)) (kc n (S.ow k)))) := upd_same
        have t0F : t0 ≠ F2 := (ne_of_none (s67 _ _ hg2) ht0).symm
        generalize upd H7 t0 (.dK (dI (fun c => .int (cellV (S.ow k) c)) (kc n (S.ow k)))) = H8 at s9 v9 ⊢
        refine ⟨(show 2 ≤ sizeLine from by decide), fun t ht => ?_⟩
        have st : Same H8 (upd H8 t (.tup [oV (S.bs k), .ref t0])) := Same.newS (Same.refl _) ht
        have vt : (upd H8 t (.tup [oV (S.bs k), .ref t0])) t = some (.tup [oV (S.bs k), .ref t0]) := upd_same
        generalize upd H8 t (.tup [oV (S.bs k), .ref t0]) = H9 at st vt ⊢
        have s69 : Same H6 H9 := Same.trans s67 (Same.trans s9 st)
        have pF := dI_setNew (s69 _ _ hg2) kn (by rw [List.length_take]; omega) (.ref t)
        rw [← tk1] at pF
        refine ⟨_, rfl, _, rfl, F2, _, rfl, pF, ⟨_, _, rfl⟩, fun b o hb h => ?_, _, upd_same, fun z hz => ?_⟩
        · rw [upd_ne hb]
          exact s69 _ _ (of _ _ hb h)
        · have nt : ∀ {a : Addr} {xs : List V}, H9 a = some (.tup xs) → (upd H9 F2 (.dK (dI (fupd g2 k (.ref t)) (S.ok.take (i + 1))))) a = some (.tup xs) := fun h => by
            rw [upd_ne (ne_of h (s69 _ _ hg2) (by intro z; cases z))]
            exact h
          by_cases e : z = k
          · subst e
            exact ⟨t, t0, by rw [fupd_same], nt vt, by rw [upd_ne t0F]; exact st _ _ v9, t0F⟩
          · rw [tk1] at hz
            obtain ⟨t', t0', b1, b2, b3, b4⟩ := hgk2 z ((List.mem_append.mp hz).resolve_right fun h => e (List.mem_singleton.mp h))
            exact ⟨t', t0', by rw [fupd_ne e]; exact b1, nt (s69 _ _ b2), by rw [upd_ne b4]; exact s69 _ _ b3, b4⟩
    rintro σ1 H6 ⟨⟨a0, b1', rfl⟩, of, g2, hg2, hgk2⟩
    rw [List.length_map, List.take_length] at hg2 hgk2
    have s06 : Same H H6 := fun b o hb => of _ _ (ne_of_none hb hF2') (s05 _ _ hb)
    have dL : DR H6 (.ref F2) (layersD n S) := by
      refine .dic hg2 (DRk.dI fun k hk => ?_)
      obtain ⟨t, t0, c1, c2, c3, c4⟩ := hgk2 k hk
      rw [c1]
      exact .tup c2 (.cons (DR.oV _) (.cons (.dic c3 (DRk.dI fun c _ => .int _)) .nil))
    have dJ : DR H6 (.ref F1) (jobsD dn S) := by
      refine .dic (of _ _ n12.symm hg) (DRk.dI fun k hk => ?_)
      obtain ⟨t, t0, c1, c2, c3⟩ := hgk k hk
      rw [c1]
      have nt : ∀ {a : Addr} {xs : List V}, H4 a = some (.tup xs) → H6 a = some (.tup xs) := fun h => of _ _ (ne_of (s5 _ _ h) v2 (by intro z; cases z)) (s5 _ _ h)
      exact .tup (nt c2) (.cons (.str _) (.cons (.int _) (.cons (.int _) (.cons (.int _) (.cons (.tup (nt c3) .nil) .nil)))))
    clear hg hgk hg2 hgk2 of vl s5 s05 nlF v2
    -- told
    have Y6 := Y.same s06
    obtain ⟨⟨dx6, y6⟩, R6, _⟩ := id Y6
    refine ⟨_, rfl, y, dx6, _, rfl, y6, y, bk, dn, n, A, S, D, τ, rfl, Y6, BS, n40, fun vL H7 s7 dL2 => ?_⟩
    have Y7 := Y6.same s7
    obtain ⟨⟨dx7, y7⟩, R7, _⟩ := id Y7
    refine ⟨_, rfl, y, dx7, _, rfl, y7, y, bk, dn, n, A, S, D, τ, rfl, Y7, fun vW H8 s8 dW => ?_⟩
    have Y8 := Y7.same s8
    obtain ⟨⟨dx8, y8⟩, R8, _⟩ := id Y8
    refine ⟨_, rfl, y, dx8, _, rfl, y8, y, bk, dn, n, A, S, D, τ, rfl, Y8, BS, fun vJ H9 s9 dJ2 => ?_⟩
    have Y9 := Y8.same s9
    obtain ⟨⟨dx9, y9⟩, R9, _⟩ := id Y9
    refine ⟨_, rfl, y, dx9, _, rfl, y9, by kernel_rfl, y, dx9, bk, n, S.bg, A, S, rfl, y9, R9.hb, R9.ho, R9.hs, R9.hc, tag_ne R.ts R.tb (by decide), tag_ne R.ts R.to (by decide), tag_ne R.ts R.tc (by decide), fun x hx => tag_ne R.ts (R.tod x hx).1 (by have := (R.tod x hx).2; omega), R9.hod, R9.hcd, BS, by omega, fun vG H10 s10 dG => ?_⟩
    have Y10 := Y9.same s10
    obtain ⟨⟨dx10, y10⟩, R10, _⟩ := id Y10
    refine ⟨_, rfl, y, dx10, _, rfl, y10, y, dx10, bk, n, S.bg, A, rfl, y10, ?_⟩
    refine ⟨(show 5 ≤ sizeLine from by decide), fun t1 ht1 => ?_⟩
    have s11 : Same H10 (upd H10 t1 (.lst [vL, vW, vJ, vG, .int n])) := Same.newS (Same.refl _) ht1
    have w1 : (upd H10 t1 (.lst [vL, vW, vJ, vG, .int n])) t1 = some (.lst [vL, vW, vJ, vG, .int n]) := upd_same
    generalize upd H10 t1 (.lst [vL, vW, vJ, vG, .int n]) = H11 at s11 w1 ⊢
    have s7_11 : Same H7 H11 := Same.trans s8 (Same.trans s9 (Same.trans s10 s11))
    have s6_11 : Same H6 H11 := Same.trans s7 s7_11
    have s0_11 := Same.trans s06 s6_11
    have ds : DRs H11 [vL, vW, vJ, vG, .int n] [layersD n S, writersD S, jobsD dn S, wrongD (wrong S n), .int n] :=
      .cons (DR.same s7_11 dL2) (.cons (DR.same (Same.trans s9 (Same.trans s10 s11)) dW) (.cons (DR.same (Same.trans s10 s11) dJ2) (.cons (DR.same s11 (WrongV.dr dG)) (.cons (.int _) .nil))))
    have dL := DR.same s6_11 dL
    have dJ := DR.same s6_11 dJ
    clear dL2 dW dJ2 dG
    -- told + contents
    refine ⟨_, rfl, _, rfl, p, _, rfl, sk_seats (s0_11 _ _ k1), A2.s, _, rng S.nw, rfl, .inl (s0_11 _ _ R2.hs), dI_keys _ _, by rw [rng_length]; have := BS.w14; omega, fun ys l3 hperm hsrt hl3 => ?_⟩
    have ey := sorted_eq hperm hsrt (rng_rising _)
    subst ey
    have s12 : Same H11 (upd H11 l3 (.lst ((rng S.nw).map V.int))) := Same.newS (Same.refl _) hl3
    have vl : (upd H11 l3 (.lst ((rng S.nw).map V.int))) l3 = some (.lst ((rng S.nw).map V.int)) := upd_same
    generalize upd H11 l3 (.lst ((rng S.nw).map V.int)) = H12 at s12 vl ⊢
    have lw : ((rng S.nw).map V.int).length ≤ 20 := by
      rw [List.length_map, rng_length]
      exact BS.w14
    have Y12 := Y.same (Same.trans s0_11 s12)
    obtain ⟨⟨dx12, y12⟩, R12, _⟩ := id Y12
    refine ⟨l3, rfl, ⟨_, SqL.of vl⟩, fun D1 hD1 => ?_⟩
    refine lc_pick (walk_list (K := K) (a := l3) (xs := (rng S.nw).map V.int)) hD1 (fun _ => true) (fun v => match v with | .int k => .ref (A.cd k) | _ => .non) (Nat.le_trans lw (by decide)) (fun Hc sc => SqL.of (sc _ _ vl)) (fun x Hc hx sc Q' hq => hq _ (Same.refl _)) (fun x Hc hx _ sc Q' hq => ?_) fun H13 s13 hD13 => ?_
    · obtain ⟨k, hk, rfl⟩ := List.mem_map.mp hx
      exact ⟨_, rfl, y, dx12, _, rfl, sc _ _ y12, by kernel_rfl, _, rfl, y, dx12, bk, n, S.bg, A, k, S, rfl, sc _ _ y12, sc _ _ R12.hs, sc _ _ R12.hc, hk, hq _ (Same.refl _)⟩
    have hD13 : H13 D1 = some (.lst ((rng S.nw).map fun k => V.ref (A.cd k))) := by
      rw [hD13, List.filter_eq_self.mpr fun _ _ => rfl, List.map_map]
      rfl
    have s11_13 : Same H11 H13 := Same.trans s12 s13
    have l25 : ([vL, vW, vJ, vG, V.int n].length + ((rng S.nw).map fun k => V.ref (A.cd k)).length) ≤ sizeLine := by
      rw [List.length_map] at lw
      rw [List.length_map]
      refine Nat.le_trans (Nat.add_le_add_left lw 5) (by decide)
    refine ⟨t1, D1, _, _, rfl, rfl, s11_13 _ _ w1, hD13, l25, fun t2 ht2 => ?_⟩
    have s14 : Same H13 (upd H13 t2 (.lst ([vL, vW, vJ, vG, .int n] ++ (rng S.nw).map fun k => V.ref (A.cd k)))) := Same.newS (Same.refl _) ht2
    have w2 : (upd H13 t2 (.lst ([vL, vW, vJ, vG, .int n] ++ (rng S.nw).map fun k => V.ref (A.cd k)))) t2 = some (.lst ([vL, vW, vJ, vG, .int n] ++ (rng S.nw).map fun k => V.ref (A.cd k))) := upd_same
    generalize upd H13 t2 (.lst ([vL, vW, vJ, vG, .int n] ++ (rng S.nw).map fun k => V.ref (A.cd k))) = H14 at s14 w2 ⊢
    have s11_14 := Same.trans s11_13 s14
    have s0_14 := Same.trans s0_11 s11_14
    have dT : DR H14 (.ref t2) (tellD dn n S) := by
      refine .lst w2 (DRs.append (DRs.same s11_14 ds) (DRs.maps fun k hk => ?_))
      exact .tup (s0_14 _ _ (R.hcd k hk)) (DRs.ints _)
    have dL := DR.same s11_14 dL
    have dJ := DR.same s11_14 dJ
    clear ds
    -- due
    have K14 := s0_14 _ _ k1
    have S14 := s0_14 _ _ R2.hs
    refine ⟨_, rfl, _, rfl, p, _, rfl, sk_seats K14, .inr (.inr (.inl ⟨rfl, .inl ⟨_, S14⟩⟩)), A2.s, _, rfl, rfl, S14, fun iv hiv => ?_⟩
    have s15 : Same H14 (upd H14 iv (L2.DX.itemsO iv A2.s)) := Same.newS (Same.refl _) hiv
    refine ⟨iv, A2.s, rng S.nw, S.se, rfl, upd_same, s15 _ _ S14, by rw [rng_length]; have := BS.w14; omega, fun c hc => ?_, fun H15 ls ps s15' perm srt hls htup => ?_⟩
    · have c2 := mem_rng.mp hc
      have := BS.sr c c2.1 c2.2
      have := BS.w14
      have := BS.m14
      exact ⟨by omega, by omega, by omega, by omega⟩
    have ek := sorted_eq perm srt (rng_rising _)
    have s14_15 : Same H14 H15 := Same.trans s15 s15'
    refine ⟨ls, ps.map (·.1), _, rfl, SqL.of (by rw [hls, List.map_map]; rfl), pairs_of (g := S.se) htup, fun wd hwd => ?_⟩
    rw [ek, merge_nil _ nwn]
    have s16 : Same H15 (upd H15 wd (.dK (dI (fun k => .int (S.se k)) (rng S.nw)))) := Same.newS (Same.refl _) hwd
    have w3 : (upd H15 wd (.dK (dI (fun k => .int (S.se k)) (rng S.nw)))) wd = some (.dK (dI (fun k => .int (S.se k)) (rng S.nw))) := upd_same
    generalize upd H15 wd (.dK (dI (fun k => .int (S.se k)) (rng S.nw))) = H16 at s16 w3 ⊢
    have s14_16 := Same.trans s14_15 s16
    have s0_16 := Same.trans s0_14 s14_16
    have dW : DR H16 (.ref wd) (writersD S) := .dic w3 (DRk.dI fun k hk => .int _)
    refine ⟨_, rfl, _, rfl, p, n, S.bg, A2, S, rfl, s0_16 _ _ k1, s0_16 _ _ R2.hb, s0_16 _ _ R2.ho, s0_16 _ _ R2.hs, s0_16 _ _ R2.hc, fun x hx => s0_16 _ _ (R2.hod x hx), fun x hx => s0_16 _ _ (R2.hcd x hx), BS, by omega, fun vG2 H17 s17 dG => ?_⟩
    refine ⟨_, rfl, p, _, rfl, sk_cells (s17 _ _ (s0_16 _ _ k1)), (show 5 ≤ sizeLine from by decide), fun t3 ht3 => ?_⟩
    have s18 : Same H17 (upd H17 t3 (.lst [.ref F2, .ref wd, .ref F1, vG2, .int n])) := Same.newS (Same.refl _) ht3
    have w4 : (upd H17 t3 (.lst [.ref F2, .ref wd, .ref F1, vG2, .int n])) t3 = some (.lst [.ref F2, .ref wd, .ref F1, vG2, .int n]) := upd_same
    generalize upd H17 t3 (.lst [.ref F2, .ref wd, .ref F1, vG2, .int n]) = H18 at s18 w4 ⊢
    have s16_18 := Same.trans s17 s18
    have s14_18 := Same.trans s14_16 s16_18
    have s0_18 := Same.trans s0_14 s14_18
    have ds : DRs H18 [.ref F2, .ref wd, .ref F1, vG2, .int n] [layersD n S, writersD S, jobsD dn S, wrongD (wrong S n), .int n] :=
      .cons (DR.same s14_18 dL) (.cons (DR.same s16_18 dW) (.cons (DR.same s14_18 dJ) (.cons (DR.same s18 (WrongV.dr dG)) (.cons (.int _) .nil))))
    have dT := DR.same s14_18 dT
    clear dL dW dJ dG
    obtain ⟨f1, f2, f3⟩ := tell_fits (P := par B dn n) (dn := dn) rfl G n40
    refine ⟨_, rfl, t2, tellD dn n S, rfl, dT, f1, f2, f3, ?_⟩
    refine ⟨_, rfl, _, rfl, p, _, rfl, sk_seats (s0_18 _ _ k1), A2.s, _, rng S.nw, rfl, .inl (s0_18 _ _ R2.hs), dI_keys _ _, by rw [rng_length]; have := BS.w14; omega, fun ys l4 hperm hsrt hl4 => ?_⟩
    have ey := sorted_eq hperm hsrt (rng_rising _)
    subst ey
    have s19 : Same H18 (upd H18 l4 (.lst ((rng S.nw).map V.int))) := Same.newS (Same.refl _) hl4
    have vl : (upd H18 l4 (.lst ((rng S.nw).map V.int))) l4 = some (.lst ((rng S.nw).map V.int)) := upd_same
    generalize upd H18 l4 (.lst ((rng S.nw).map V.int)) = H19 at s19 vl ⊢
    have s0_19 := Same.trans s0_18 s19
    refine ⟨l4, rfl, ⟨_, SqL.of vl⟩, fun D2 hD2 => ?_⟩
    refine lc_pick (walk_list (K := K) (a := l4) (xs := (rng S.nw).map V.int)) hD2 (fun _ => true) (fun v => match v with | .int k => .ref (A2.cd k) | _ => .non) (Nat.le_trans lw (by decide)) (fun Hc sc => SqL.of (sc _ _ vl)) (fun x Hc hx sc Q' hq => hq _ (Same.refl _)) (fun x Hc hx _ sc Q' hq => ?_) fun H20 s20 hD20 => ?_
    · obtain ⟨k, hk, rfl⟩ := List.mem_map.mp hx
      exact ⟨_, rfl, p, _, rfl, sk_contents (sc _ _ (s0_19 _ _ k1)), _, rfl, A2.c, _, rfl, dI_get (sc _ _ (s0_19 _ _ R2.hc)) hk, hq _ (Same.refl _)⟩
    have hD20 : H20 D2 = some (.lst ((rng S.nw).map fun k => V.ref (A2.cd k))) := by
      rw [hD20, List.filter_eq_self.mpr fun _ _ => rfl, List.map_map]
      rfl
    have s18_20 : Same H18 H20 := Same.trans s19 s20
    have l25 : ([V.ref F2, .ref wd, .ref F1, vG2, V.int n].length + ((rng S.nw).map fun k => V.ref (A2.cd k)).length) ≤ sizeLine := by
      rw [List.length_map] at lw
      rw [List.length_map]
      refine Nat.le_trans (Nat.add_le_add_left lw 5) (by decide)
    refine ⟨t3, D2, _, _, rfl, rfl, s18_20 _ _ w4, hD20, l25, fun t4 ht4 => ?_⟩
    have s21 : Same H20 (upd H20 t4 (.lst ([.ref F2, .ref wd, .ref F1, vG2, .int n] ++ (rng S.nw).map fun k => V.ref (A2.cd k)))) := Same.newS (Same.refl _) ht4
    have w5 : (upd H20 t4 (.lst ([.ref F2, .ref wd, .ref F1, vG2, .int n] ++ (rng S.nw).map fun k => V.ref (A2.cd k)))) t4 = some (.lst ([.ref F2, .ref wd, .ref F1, vG2, .int n] ++ (rng S.nw).map fun k => V.ref (A2.cd k))) := upd_same
    generalize upd H20 t4 (.lst ([.ref F2, .ref wd, .ref F1, vG2, .int n] ++ (rng S.nw).map fun k => V.ref (A2.cd k))) = H21 at s21 w5 ⊢
    have s18_21 := Same.trans s18_20 s21
    have s0_21 := Same.trans s0_18 s18_21
    have dT2 : DR H21 (.ref t4) (tellD dn n S) := by
      refine .lst w5 (DRs.append (DRs.same s18_21 ds) (DRs.maps fun k hk => ?_))
      exact .tup (s0_21 _ _ (R2.hcd k hk)) (DRs.ints _)
    refine ⟨t4, tellD dn n S, rfl, dT2, f1, f2, f3, rfl, ?_⟩
    rw [decide_eq_true rfl]
    exact q _ s0_21
end
end K20W
end
/-! V19 -/
section
set_option Elab.async false
set_option linter.all false
set_option maxRecDepth 100000
set_option maxHeartbeats 8000000
/-! a yard and its sheet, side by side. -/
namespace K20W
open PySem L2 K20
theorem JobAt.off {CJ : Addr} {dn : Bool} {H H' : Hp} {τ : Addr → Int} {a : Addr} {x : Jb} (h : JobAt CJ dn H τ a x) (ta : τ a ≠ 0) (k : ∀ a o, H a = some o → (τ a ≠ 0 ∨ ∃ xs, o = .tup xs) → H' a = some o) : JobAt CJ dn H' τ a x := by
  obtain ⟨dx, ma, na, sv, h1, h2, h3, h4, h5, h6⟩ := h
  exact ⟨dx, ma, na, sv, k _ _ h1 (.inl ta), k _ _ h2 (.inl (by rw [h4]; decide)), k _ _ h3 (.inl (by rw [h5]; decide)), h4, h5, h6.stay fun t xs z => k _ _ z (.inr ⟨_, rfl⟩)⟩
theorem TaskAt.off {dn : Bool} {H H' : Hp} {τ : Addr → Int} {a : Addr} {x : Jb} (h : TaskAt dn H τ a x) (ta : τ a ≠ 0) (k : ∀ a o, H a = some o → (τ a ≠ 0 ∨ ∃ xs, o = .tup xs) → H' a = some o) : TaskAt dn H' τ a x := by
  obtain ⟨ma, na, sv, h1, h2, h3, h5, h6⟩ := h
  exact ⟨ma, na, sv, k _ _ h1 (.inl ta), k _ _ h2 (.inr ⟨_, rfl⟩), k _ _ h3 (.inl (by rw [h5]; decide)), h5, h6.stay fun t xs z => k _ _ z (.inr ⟨_, rfl⟩)⟩
theorem Rep.off {J : JP} {H H' : Hp} {A : Ad} {S : Vs} {D : Du} {τ : Addr → Int} {p : Addr} (R : Rep J H A S D τ p) (k : ∀ a o, H a = some o → (τ a ≠ 0 ∨ ∃ xs, o = .tup xs) → H' a = some o) (hJ : ∀ i ∈ S.jk, J H' τ (A.jd i) (S.jo i)) : Rep J H' A S D τ p := by
  have st : ∀ {a : Addr} {o : HO}, H a = some o → τ a ≠ 0 → H' a = some o := fun {a o} h ht => k a o h (.inl ht)
  exact ⟨st R.hb (by rw [R.tb]; decide), st R.ho (by rw [R.to]; decide), st R.hd (by rw [R.td]; decide), st R.hs (by rw [R.ts]; decide), st R.hc (by rw [R.tc]; decide), st R.hj (by rw [R.tj]; decide), fun x hx => st (R.hod x hx) (by have := R.tod x hx; omega), fun x hx => k _ _ (R.hdd x hx) (.inr ⟨_, rfl⟩), fun x hx => k _ _ (R.hcd x hx) (.inr ⟨_, rfl⟩), hJ,
    R.tp, R.tb, R.to, R.td, R.ts, R.tc, R.tj, R.tod, R.tjd, fun a ha n => by
      cases e : H a with
      | none => exact R.live a ha e
      | some o => rw [k a o e (.inl ha)] at n; cases n⟩
structure LS (CY CB CJ : Addr) (dn : Bool) (n : Nat) (bk : Addr) (B : BookR) (fa ba fn : Addr) (Bf : BookR) (dr : Addr) (wa : Addr × Addr) (c : Nat) (H : Hp) (y : Addr) (Ay : Ad) (τ : Addr → Int) (Sy : Vs) (Dy : Du) (p : Addr) (As : Ad) (σ : Addr → Int) (Ss : Vs) (Ds : Du) : Prop where
  ya : YA CY CJ dn bk n H y Ay Sy Dy τ
  sa : SA dn n H p As Ss Ds σ
  dj : ∀ a, τ a = 0 ∨ σ a = 0
  dw : Dw H dr wa c
  bo : BookAt CB H bk B
  f1 : H fa = some (.dK (fkv Bf ba fn))
  f2 : H ba = some (.lst (Bf.bars.map V.str))
  f3 : H fn = some (.lst (Bf.notes.map V.str))
  zd : τ dr = 0 ∧ σ dr = 0
  zw : τ wa.1 = 0 ∧ σ wa.1 = 0
  zf : τ fa = 0 ∧ σ fa = 0
  nf : fa ≠ dr ∧ ba ≠ wa.1 ∧ fn ≠ wa.1
section
variable {CY CB CJ : Addr} {dn : Bool} {n : Nat} {bk : Addr} {B : BookR} {fa ba fn : Addr} {Bf : BookR} {dr : Addr} {wa : Addr × Addr} {c c' : Nat} {H H' : Hp} {y : Addr} {Ay Ay' : Ad} {τ τ' : Addr → Int} {Sy Sy' : Vs} {Dy Dy' : Du} {p p' : Addr} {As As' : Ad} {σ σ' : Addr → Int} {Ss Ss' : Vs} {Ds Ds' : Du}
theorem Dw.parts {H : Hp} {dr : Addr} {wa : Addr × Addr} {c : Nat} (h : Dw H dr wa c) : (∃ l, H dr = some (.dK l)) ∧ (∃ l, H wa.1 = some (.lst l)) ∧ ∃ l, H wa.2 = some (.lst l) := by
  obtain ⟨wide, cells, rest, turn, h1, h2, h3, _⟩ := h
  exact ⟨⟨_, h1⟩, ⟨_, h2⟩, ⟨_, h3⟩⟩
theorem Dw.kept {H H' : Hp} {dr : Addr} {wa : Addr × Addr} {c : Nat} (h : Dw H dr wa c) (τ : Addr → Int) (k : Kp τ H H') (z : τ dr = 0) : Dw H' dr wa c := by
  obtain ⟨wide, cells, rest, turn, h1, h2, h3, h4⟩ := h
  exact ⟨wide, cells, rest, turn, k _ _ h1 fun w => (w z).elim, k _ _ h2 fun _ => isT_lst _, k _ _ h3 fun _ => isT_lst _, h4⟩
theorem LS.same (L : LS CY CB CJ dn n bk B fa ba fn Bf dr wa c H y Ay τ Sy Dy p As σ Ss Ds) (s : Same H H') : LS CY CB CJ dn n bk B fa ba fn Bf dr wa c H' y Ay τ Sy Dy p As σ Ss Ds :=
  ⟨L.ya.same s, L.sa.same s, L.dj, L.dw.same s, L.bo.same s, s _ _ L.f1, s _ _ L.f2, s _ _ L.f3, L.zd, L.zw, L.zf, L.nf⟩
theorem LS.mono (L : LS CY CB CJ dn n bk B fa ba fn Bf dr wa c H y Ay τ Sy Dy p As σ Ss Ds) (h : c ≤ c') : LS CY CB CJ dn n bk B fa ba fn Bf dr wa c' H y Ay τ Sy Dy p As σ Ss Ds :=
  ⟨L.ya, L.sa, L.dj, L.dw.mono h, L.bo, L.f1, L.f2, L.f3, L.zd, L.zw, L.zf, L.nf⟩
theorem LS.draw (L : LS CY CB CJ dn n bk B fa ba fn Bf dr wa c H y Ay τ Sy Dy p As σ Ss Ds) (o : OffD dr wa H H') (d : Dw H' dr wa c') : LS CY CB CJ dn n bk B fa ba fn Bf dr wa c' H' y Ay τ Sy Dy p As σ Ss Ds := by
  obtain ⟨⟨l1, g1⟩, ⟨l2, g2⟩, _⟩ := L.dw.parts
  have kk : ∀ (ρ : Addr → Int), ρ dr = 0 → ρ wa.1 = 0 → ∀ a o, H a = some o → (ρ a ≠ 0 ∨ ∃ xs, o = .tup xs) → H' a = some o := fun ρ z1 z2 a u h e => by
    refine o a u h (fun w => ?_) fun w => ?_
    · rcases e with e | ⟨xs, e⟩
      · exact e (by rw [w]; exact z1)
      · rw [w, g1] at h
        rw [e] at h
        cases h
    · rcases e with e | ⟨xs, e⟩
      · exact e (by rw [w]; exact z2)
      · rw [w, g2] at h
        rw [e] at h
        cases h
  have kt := kk τ L.zd.1 L.zw.1
  have ks := kk σ L.zd.2 L.zw.2
  obtain ⟨⟨dx, h1⟩, R, b0⟩ := L.ya
  obtain ⟨k1, R2⟩ := L.sa
  obtain ⟨db, tw, tb, tn, m1, m2, m3, m4⟩ := L.bo
  refine ⟨⟨⟨dx, kt _ _ h1 (.inl (by rw [R.tp]; decide))⟩, R.off kt fun i hi => (R.hjd i hi).off (by have := R.tjd i hi; omega) kt, b0⟩, ⟨ks _ _ k1 (.inl (by rw [R2.tp]; decide)), R2.off ks fun i hi => (R2.hjd i hi).off (by have := R2.tjd i hi; omega) ks⟩, L.dj, d,
    ⟨db, tw, tb, tn, o _ _ m1 (ne_of m1 g1 (by intro z; cases z)) (ne_of m1 g2 (by intro z; cases z)), kt _ _ m2 (.inr ⟨_, rfl⟩), kt _ _ m3 (.inr ⟨_, rfl⟩), kt _ _ m4 (.inr ⟨_, rfl⟩)⟩,
    o _ _ L.f1 L.nf.1 (ne_of L.f1 g2 (by intro z; cases z)), o _ _ L.f2 (ne_of L.f2 g1 (by intro z; cases z)) L.nf.2.1, o _ _ L.f3 (ne_of L.f3 g1 (by intro z; cases z)) L.nf.2.2, L.zd, L.zw, L.zf, L.nf⟩
theorem LS.yard (L : LS CY CB CJ dn n bk B fa ba fn Bf dr wa c H y Ay τ Sy Dy p As σ Ss Ds) (Y : YA CY CJ dn bk n H' y Ay' Sy' Dy' τ') (k : Kp τ H H') (g : Gw τ τ' H) : LS CY CB CJ dn n bk B fa ba fn Bf dr wa c H' y Ay' τ' Sy' Dy' p As σ Ss Ds := by
  have z0 : ∀ {a : Addr} {o : HO}, H a = some o → τ a = 0 → τ' a = 0 := fun {a o} h z => Classical.byContradiction fun w => by
    rcases g a w with e | e
    · exact e z
    · rw [h] at e
      cases e
  obtain ⟨⟨l1, g1⟩, ⟨l2, g2⟩, _⟩ := L.dw.parts
  refine ⟨Y, L.sa.frame k fun a => (L.dj a).symm, fun a => ?_, L.dw.kept τ k L.zd.1, L.bo.keep k L.ya.bk0, k _ _ L.f1 fun w => (w L.zf.1).elim, k _ _ L.f2 fun _ => isT_lst _, k _ _ L.f3 fun _ => isT_lst _, ⟨z0 g1 L.zd.1, L.zd.2⟩, ⟨z0 g2 L.zw.1, L.zw.2⟩, ⟨z0 L.f1 L.zf.1, L.zf.2⟩, L.nf⟩
  by_cases e : σ a = 0
  · exact .inr e
  · left
    cases h : H a with
    | none => exact (L.sa.re.live a e h).elim
    | some o => exact z0 h ((L.dj a).resolve_right e)
theorem LS.sheet (L : LS CY CB CJ dn n bk B fa ba fn Bf dr wa c H y Ay τ Sy Dy p As σ Ss Ds) (Z : SA dn n H' p' As' Ss' Ds' σ') (s : Same H H') (g : Fr σ H σ') : LS CY CB CJ dn n bk B fa ba fn Bf dr wa c H' y Ay τ Sy Dy p' As' σ' Ss' Ds' := by
  obtain ⟨⟨l1, g1⟩, ⟨l2, g2⟩, _⟩ := L.dw.parts
  have z0 : ∀ {a : Addr} {o : HO}, H a = some o → σ a = 0 → σ' a = 0 := fun {a o} h z => Classical.byContradiction fun w => by
    rcases g a w with e | ⟨e, _⟩
    · rw [h] at e
      cases e
    · rw [z] at e
      cases e
  refine ⟨L.ya.same s, Z, fun a => ?_, L.dw.same s, L.bo.same s, s _ _ L.f1, s _ _ L.f2, s _ _ L.f3, ⟨L.zd.1, z0 g1 L.zd.2⟩, ⟨L.zw.1, z0 g2 L.zw.2⟩, ⟨L.zf.1, z0 L.f1 L.zf.2⟩, L.nf⟩
  by_cases e : σ' a = 0
  · exact .inr e
  · left
    rcases g a e with h | ⟨h, _⟩
    · exact not_tag L.ya.re.live h
    · refine (L.dj a).resolve_right ?_
      rw [h]
      decide
end
end K20W
end
/-! V20 -/
section
set_option Elab.async false
set_option linter.all false
set_option maxRecDepth 100000
set_option maxHeartbeats 8000000
/-! grown. -/
namespace K20W
open PySem L2 K20
section
variable {P : Program} {w : World} {K : PySem.W.Frag} {mg : Str → Option Value} {base : Heap} {f CY CB CJ : Addr} {fd : FuncData}
def spGrown (CY CB CJ : Addr) : Sp := fun vs H Q _ => ∃ (dn : Bool) (n : Nat) (bk : Addr) (B : BookR) (fa ba fn : Addr) (Bf : BookR) (dr : Addr) (wa : Addr × Addr) (c : Nat) (y : Addr) (Ay : Ad) (τ : Addr → Int) (p : Addr) (As : Ad) (σ : Addr → Int), vs = [.ref dr, .ref fa, .ref y, .ref p] ∧
  LS CY CB CJ dn n bk B fa ba fn Bf dr wa c H y Ay τ (S0 n) D0 p As σ (S0 n) D0 ∧ p ≠ dr ∧ 1 ≤ n ∧ n ≤ 40 ∧ c ≤ 500000 ∧
  ∀ Ay' τ' p' As' σ' S D H', LS CY CB CJ dn n bk B fa ba fn Bf dr wa (c + 100) H' y Ay' τ' S D p' As' σ' S D → Grow n S D → p' ≠ dr → Q (.ref p') H'
theorem ok_grown (Bt : Blt mg) (TY : YardC K CY) (g1 : Gd P w K mg base "_law_take" 2 ["_law_draw", "_law_size"] spTake) (g2 : Gd P w K mg base "_law_pick" 3 ["_law_draw", "_law_some"] spPick) (g3 : Gd P w K mg base "_law_is_open" 1 ["_law_sheet", "_law_seat"] spLOpen) (g4 : Gd P w K mg base "_law_done" 4 ["_law_fields", "_law_before", "_law_deed"] spLDone)
    (m1 : Md P w K mg base CY "do" 5 ["self", "deed"] (spDo CY CB CJ)) (F : Fu K "_law_grown" "_law_grown" (top 78) f fd) : FnOk P w K mg base CX0 6 f fd ["_law_draw", "_law_fields", "_law_yard", "_law_sheet"] (spGrown CY CB CJ) := by
  have sc : FnScope ["_law_draw", "_law_fields", "_law_yard", "_law_sheet", "_law_found", "_law_lap", "_law_closed", "_law_deed", "_law_ahead", "_law_one"] ["_law_draw", "_law_fields", "_law_yard", "_law_sheet"] (defScope (top 78)) := ⟨rfl, rfl, rfl, by decide +kernel, rfl, by decide +kernel, by decide +kernel⟩
  obtain ⟨f1, d1, G1, e1, k1, b1⟩ := g1
  obtain ⟨f2, d2, G2, e2, k2, b2⟩ := g2
  obtain ⟨f3, d3, G3, e3, k3, b3⟩ := g3
  obtain ⟨f4, d4, G4, e4, k4, b4⟩ := g4
  obtain ⟨f5, d5, G5, M5, b5⟩ := m1
  refine F.ok sc (fun vs H Q E h => ?_) (fun cdv Ar outer s H vs Q E hr h => ?_)
  · obtain ⟨dn, n, bk, B, fa, ba, fn, Bf, dr, wa, c, y, Ay, τ, p, As, σ, rfl, _⟩ := h
    rfl
  · obtain ⟨dn, n, bk, B, fa, ba, fn, Bf, dr, wa, c, y, Ay, τ, p0, As, σ, rfl, L0, npd, n1, n40, hc, q⟩ := h
    have hu := hu_of hr
    have hr1 : Room 1 _ := hr.mono (by decide)
    have hr2 : Room 2 _ := hr.mono (by decide)
    have hr3 : Room 3 _ := hr.mono (by decide)
    have hr4 : Room 4 _ := hr.mono (by decide)
    obtain ⟨As0, eAs0⟩ : ∃ A0, A0 = As := ⟨_, rfl⟩
    -- the deed is done
    have tail4 : ∃ T2, PSs (cxOf CX0 P w K mg base ["_law_draw", "_law_fields", "_law_yard", "_law_sheet", "_law_found", "_law_lap", "_law_closed", "_law_deed", "_law_ahead", "_law_one"] "_law_grown" (defScope (top 78)) f cdv Ar outer s H E).nox ((nthBody (defBody (top 78)) 1).drop 4) T2 ∧
        ∀ (De : Ends) (o6 o8 : Option V) (lap : V) (t : Addr) (H2 : Hp) (c : Nat) (Ay : Ad) (τ : Addr → Int) (p : Addr) (As : Ad) (σ : Addr → Int) (S : Vs) (D : Du), LS CY CB CJ dn n bk B fa ba fn Bf dr wa c H2 y Ay τ S D p As σ S D → Grow n S D → S.m ≤ 15 → S.nw ≤ 15 → H2 p0 ≠ none → τ p0 = 0 →
          ((∃ u : Int, H2 t = some (.tup [.str "cover", .int u]) ∧ 0 ≤ u ∧ u < S.nw) ∨ ∃ x : Int, H2 t = some (.tup [.str "branch", .int x]) ∧ x ∈ S.ok ∧ isOpen S x = false) →
          (∀ H3 Ay' τ' p' As' σ' S' D', LS CY CB CJ dn n bk B fa ba fn Bf dr wa c H3 y Ay' τ' S' D' p' As' σ' S' D' → Grow n S' D' → S'.m = S.m + 1 → S'.nw ≤ S.nw + 1 → p' ≠ dr → τ' p0 = 0 → (∀ o, H2 p0 = some o → H3 p0 = some o) → De.nx [some (.ref dr), some (.ref fa), some (.ref y), some (.ref p0), some (.ref p'), some lap, o6, some (.ref t), o8, none] H3) →
          T2 De [some (.ref dr), some (.ref fa), some (.ref y), some (.ref p0), some (.ref p), some lap, o6, some (.ref t), o8, none] H2 := by
      refine ⟨_, pss_cons (ps_expr (pe_meth (pv 2) TY.cl M5 G5 hr b5 .nil pass0 (pa_cons (pv 7) pa_nil)))
        (pss_one (ps_set (i := 4) sc.nd rfl (.inr rfl) (pe_ix ix_tup (pe_call G4 hr4 rfl e4 k4 b4 .nil pass0 (pa_cons (pv 1) (pa_cons (pv 4) (pa_cons (pv 7) pa_nil)))) pe_int (fun _ _ => rfl)))), ?_⟩
      intro De o6 o8 lap t H2 c Ay τ p As σ S D L G hm hw hp0 tp0 hd nx
      obtain ⟨⟨dx, h1⟩, R, b0⟩ := id L.ya
      have keep : ∀ {H3 : Hp} {τ' : Addr → Int}, Kp τ H2 H3 → Gw τ τ' H2 → τ' p0 = 0 ∧ ∀ o, H2 p0 = some o → H3 p0 = some o := fun {H3 τ'} k g => ⟨Classical.byContradiction fun w => by
        rcases g p0 w with e | e
        · exact e tp0
        · exact hp0 e, fun o h => k _ _ h fun z => (z tp0).elim⟩
      have fin : ∀ {H3 : Hp} {Ay' : Ad} {τ' : Addr → Int} {S' : Vs} {D' : Du}, YA CY CJ dn bk n H3 y Ay' S' D' τ' → Kp τ H2 H3 → Gw τ τ' H2 → Grow n S' D' → S'.m = S.m + 1 → S'.nw ≤ S.nw + 1 → DeedL H3 fa t dn n S D S' D' → spLDone [.ref fa, .ref p, .ref t] H3 (fun y_1 H4 => ∃ (a : Addr) (xs : List V) (j : Int) (v : V), y_1 = .ref a ∧ V.int 0 = .int j ∧ SqT K H4 a xs ∧ atI xs j = some v ∧ De.nx [some (.ref dr), some (.ref fa), some (.ref y), some (.ref p0), some v, some lap, o6, some (.ref t), o8, none] H4) E0 := fun {H3 Ay' τ' S' D'} Y' k g G' hm' hw' hd' => by
        have L3 := L.yard Y' k g
        obtain ⟨kp1, kp2⟩ := keep k g
        refine ⟨fa, p, t, dn, n, As, S, D, σ, S', D', rfl, L3.sa, G.ba, n40, some_ne L3.f1, hd', fun r p' v A' H4 σ' s4 hr4 Z4 fr4 => ?_⟩
        refine ⟨r, _, 0, .ref p', rfl, rfl, SqT.of hr4, atI_nat (j := 0) rfl, nx H4 _ _ p' _ _ _ _ (L3.sheet Z4 s4 fr4) G' hm' hw' (fun e => ?_) kp1 fun o h => s4 _ _ (kp2 o h)⟩
        have z := (L3.sheet Z4 s4 fr4).zd.2
        rw [← e, Z4.re.tp] at z
        cases z
      rcases hd with ⟨u, ht, u0, u1⟩ | ⟨x, ht, hx, hop⟩
      · refine ⟨_, rfl, y, dx, _, rfl, h1, by kernel_rfl, _, rfl, y, t, rfl, .inr (.inl ⟨u, ht, y, bk, dn, n, Ay, S, D, τ, B, u, rfl, L.ya, L.bo, G, ⟨u0, u1⟩, fun od dd H3 τ' Y' k g => ?_⟩)⟩
        have tt : H3 t = some (.tup [.str "cover", .int u]) := k _ _ ht fun _ => isT_tup _
        exact ⟨_, rfl, _, rfl, _, rfl, fin Y' k g (G.cover ⟨u0, u1⟩ (by omega)) rfl (Nat.le_succ _) (.inr (.inl ⟨u, tt, G, ⟨u0, u1⟩, rfl, rfl⟩))⟩
      · refine ⟨_, rfl, y, dx, _, rfl, h1, by kernel_rfl, _, rfl, y, t, rfl, .inr (.inr (.inl ⟨x, ht, y, bk, dn, n, Ay, S, D, τ, B, x, rfl, L.ya, L.bo, G, hx, hop, fun od cd H3 τ' Y' k g => ?_⟩))⟩
        have tt : H3 t = some (.tup [.str "branch", .int x]) := k _ _ ht fun _ => isT_tup _
        exact ⟨_, rfl, _, rfl, _, rfl, fin Y' k g (G.branch hx (open_iff.mp hop) (by omega) (by omega)) rfl (Nat.le_refl _) (.inr (.inr (.inl ⟨x, tt, G, hx, hop, rfl, rfl⟩)))⟩
    obtain ⟨T4, hT4, w4⟩ := tail4
    have tail3 : ∃ T2, PSs (cxOf CX0 P w K mg base ["_law_draw", "_law_fields", "_law_yard", "_law_sheet", "_law_found", "_law_lap", "_law_closed", "_law_deed", "_law_ahead", "_law_one"] "_law_grown" (defScope (top 78)) f cdv Ar outer s H E).nox ((nthBody (defBody (top 78)) 1).drop 3) T2 ∧
        ∀ (De : Ends) (o6 o8 : Option V) (lap : Int) (t : Addr) (H2 : Hp) (c : Nat) (Ay : Ad) (τ : Addr → Int) (p : Addr) (As : Ad) (σ : Addr → Int) (S : Vs) (D : Du), 0 ≤ lap → lap ≤ 20 → c ≤ 600000 → LS CY CB CJ dn n bk B fa ba fn Bf dr wa c H2 y Ay τ S D p As σ S D → Grow n S D → S.m ≤ 15 → S.nw ≤ 15 → (∃ bg, H2 p0 = some (.dK (skv n As0 bg))) → τ p0 = 0 →
          ((∃ u : Int, H2 t = some (.tup [.str "cover", .int u]) ∧ 0 ≤ u ∧ u < S.nw) ∨ ∃ x : Int, H2 t = some (.tup [.str "branch", .int x]) ∧ x ∈ S.ok ∧ isOpen S x = false) →
          (∀ o8 H3 Ay' τ' p' As' σ' S' D', LS CY CB CJ dn n bk B fa ba fn Bf dr wa (c + 1) H3 y Ay' τ' S' D' p' As' σ' S' D' → Grow n S' D' → S'.m = S.m + 1 → S'.nw ≤ S.nw + 1 → p' ≠ dr → τ' p0 = 0 → (∃ bg, H3 p0 = some (.dK (skv n As0 bg))) → De.nx [some (.ref dr), some (.ref fa), some (.ref y), some (.ref p0), some (.ref p'), some (.int lap), o6, some (.ref t), o8, none] H3) →
          T2 De [some (.ref dr), some (.ref fa), some (.ref y), some (.ref p0), some (.ref p), some (.int lap), o6, some (.ref t), o8, none] H2 := by
      refine ⟨_, pss_cons (ps_if (pt_cmpR op_eq (pe_ix ix_tup (pv 7) pe_int (fun _ _ => rfl)) pe_str (nomark _))
          (pss_cons (ps_set (i := 8) sc.nd rfl (.inl rfl) (pe_tup (pa_cons pe_str (pa_cons (pe_ix ix_tup (pv 7) pe_int (fun _ _ => rfl)) (pa_cons (pe_call G1 hr2 rfl e1 k1 b1 .nil pass0 (pa_cons (pv 0) (pa_cons (pe_dget hu (pv 3) pe_str (fun _ _ => rfl)) pa_nil))) (pa_cons (pe_op op_add pe_int (pv 5)) pa_nil))))))
          (pss_cons (ps_expr (pe_meth (pv 2) TY.cl M5 G5 hr b5 .nil pass0 (pa_cons (pv 8) pa_nil)))
          (pss_one (ps_set (i := 4) sc.nd rfl (.inr rfl) (pe_ix ix_tup (pe_call G4 hr4 rfl e4 k4 b4 .nil pass0 (pa_cons (pv 1) (pa_cons (pv 4) (pa_cons (pv 8) pa_nil)))) pe_int (fun _ _ => rfl)))))) pss_nil) hT4, ?_⟩
      intro De o6 o8 lap t H2 c Ay τ p As σ S D l0 l1 hc L G hm hw hp0 tp0 hd nx
      obtain ⟨bg0, hp0⟩ := hp0
      rcases hd with ⟨u, ht, u0, u1⟩ | ⟨x, ht, hx, hop⟩
      · refine ⟨_, rfl, t, _, _, .str "cover", rfl, rfl, SqT.of ht, atI_nat (j := 0) rfl, rfl, _, rfl, ?_⟩
        rw [vstr, decide_eq_true rfl]
        refine iteT ⟨_, rfl, t, _, _, .int u, rfl, rfl, SqT.of ht, atI_nat (j := 1) rfl, _, rfl, _, rfl, p0, _, rfl, sk_cells hp0, dr, wa, c, n, rfl, L.dw, by omega, by omega, by omega, fun r H3 r0 r1 hd3 o3 => ?_⟩
        have nwp : p0 ≠ wa.1 := by
          obtain ⟨_, ⟨l, g⟩, _⟩ := L.dw.parts
          exact ne_of hp0 g (by intro z; cases z)
        have hp3 := o3 _ _ hp0 npd nwp
        have ht3 : H3 t = some (.tup [.str "cover", .int u]) := by
          obtain ⟨⟨l1, g1⟩, ⟨l2, g2⟩, _⟩ := L.dw.parts
          exact o3 _ _ ht (ne_of ht g1 (by intro z; cases z)) (ne_of ht g2 (by intro z; cases z))
        have L3 := L.draw o3 hd3
        refine ⟨_, rfl, _, _, rfl, rfl, (show 4 ≤ sizeLine from by decide), fun t4 ht4 => ?_⟩
        have s4 : Same H3 (upd H3 t4 (.tup [.str "write", .int u, .int r, .int (1 + lap)])) := Same.newS (Same.refl _) ht4
        have v4 : (upd H3 t4 (.tup [.str "write", .int u, .int r, .int (1 + lap)])) t4 = some (.tup [.str "write", .int u, .int r, .int (1 + lap)]) := upd_same
        generalize upd H3 t4 (.tup [.str "write", .int u, .int r, .int (1 + lap)]) = H4 at s4 v4 ⊢
        have L4 := L3.same s4
        have hp4 := s4 _ _ hp3
        have ht4' := s4 _ _ ht3
        obtain ⟨⟨dx, h1⟩, R, b0⟩ := id L4.ya
        refine ⟨_, rfl, y, dx, _, rfl, h1, by kernel_rfl, _, rfl, y, t4, rfl, .inl ⟨u, r, 1 + lap, v4, y, bk, dn, n, Ay, S, D, τ, u, r, 1 + lap, rfl, L4.ya, G, n40, ⟨u0, u1⟩, ⟨r0, r1⟩, ⟨by omega, by omega⟩, fun cd H5 Y5 k5 => ?_⟩⟩
        have L5 := L4.yard Y5 k5 (Gw.refl τ H4)
        have G5' := G.write ⟨u0, u1⟩ ⟨r0, r1⟩ (v := 1 + lap) ⟨by omega, by omega⟩
        have t45 : H5 t4 = some (.tup [.str "write", .int u, .int r, .int (1 + lap)]) := k5 _ _ v4 fun _ => isT_tup _
        have ht5 : H5 t = some (.tup [.str "cover", .int u]) := k5 _ _ ht4' fun _ => isT_tup _
        have hp5 := k5 _ _ hp4 fun z => (z tp0).elim
        refine ⟨_, rfl, _, rfl, _, rfl, fa, p, t4, dn, n, As, S, D, σ, writeS S u r (1 + lap), D, rfl, L5.sa, G.ba, n40, some_ne L5.f1, .inl ⟨u, r, 1 + lap, t45, G, ⟨u0, u1⟩, ⟨r0, r1⟩, rfl, rfl⟩, fun rr p' v A' H6 σ' s6 hr6 Z6 fr6 => ?_⟩
        have L6 := L5.sheet Z6 s6 fr6
        refine ⟨rr, _, 0, .ref p', rfl, rfl, SqT.of hr6, atI_nat (j := 0) rfl, ?_⟩
        exact w4 De o6 _ (.int lap) t H6 (c + 1) _ τ p' A' σ' _ D L6 G5' hm hw (some_ne (s6 _ _ hp5)) tp0 (.inl ⟨u, s6 _ _ ht5, u0, u1⟩) fun H7 Ay' τ' p'' As' σ'' S' D' L7 G7 m7 n7 e7 t7 kp7 => nx _ H7 Ay' τ' p'' As' σ'' S' D' L7 G7 m7 n7 e7 t7 ⟨bg0, kp7 _ (s6 _ _ hp5)⟩
      · refine ⟨_, rfl, t, _, _, .str "branch", rfl, rfl, SqT.of ht, atI_nat (j := 0) rfl, rfl, _, rfl, ?_⟩
        rw [vstr, decide_eq_false (by decide +kernel)]
        exact iteF (w4 De o6 o8 (.int lap) t H2 c Ay τ p As σ S D L G hm hw (some_ne hp0) tp0 (.inr ⟨x, ht, hx, hop⟩) fun H7 Ay' τ' p'' As' σ'' S' D' L7 G7 m7 n7 e7 t7 kp7 => nx _ H7 Ay' τ' p'' As' σ'' S' D' (L7.mono (Nat.le_succ _)) G7 m7 n7 e7 t7 ⟨bg0, kp7 _ hp0⟩)
    obtain ⟨T3, hT3, w3⟩ := tail3
    refine ⟨_, PSs.nox (pss_cons (ps_set (i := 4) sc.nd rfl (.inr rfl) (pv 3))
      (pss_cons (ps_for PassesOwn.never rfl (pi_range1 rfl Bt.range (pa_cons (pe_op op_add pe_int (pe_call G1 hr2 rfl e1 k1 b1 .nil pass0 (pa_cons (pv 0) (pa_cons pe_int pa_nil)))) pa_nil)) (pg_name (i := 5) sc.nd rfl (Or.inl rfl))
        (pss_cons (ps_setLc (i := 6) (own := [("_law_one", 9)]) (g := gName 9) (te := tVar 9) (by rfl) sc.nd rfl rfl (sw_true rfl rfl rfl (by decide +kernel)) (pi_list (pe_callB (call_sortedDI rfl) (by rfl) Bt.sorted boot_sorted (pa_cons (pe_dget hu (pv 4) pe_str (fun _ _ => rfl)) pa_nil)))
          (blkOk_by (own := [("_law_one", 9)]) (N := ["_law_draw", "_law_fields", "_law_yard", "_law_sheet", "_law_found", "_law_lap", "_law_closed", "_law_deed", "_law_ahead", "_law_one"]) (sc := defScope (top 78)) (by decide +kernel))
          (fun _ _ _ _ _ => pg_name (i := 9) sc.nd rfl (Or.inl rfl)) (fun _ _ _ _ _ => pts_one (pt_not (pt_val (pe_call G3 hr1 rfl e3 k3 b3 .nil pass0 (pa_cons (pv 4) (pa_cons (pv 9) pa_nil)))))) (fun _ _ _ _ _ => pv 9))
        (pss_cons (ps_set (i := 7) sc.nd rfl (.inl rfl) (pe_tup (pa_cons pe_str (pa_cons (pe_call G1 hr2 rfl e1 k1 b1 .nil pass0 (pa_cons (pv 0) (pa_cons (pe_callB call_lenD (by rfl) Bt.len PySem.boot_len (pa_cons (pe_dget hu (pv 4) pe_str (fun _ _ => rfl)) pa_nil)) pa_nil))) pa_nil))))
        (pss_cons (ps_if (PW.pt (pw_and (pt_cmpR (op_neD hr.units) (pv 6) (pe_lst pa_nil) (nomark _)) (pw_and1 (pt_cmpR op_eq (pe_call G1 hr2 rfl e1 k1 b1 .nil pass0 (pa_cons (pv 0) (pa_cons pe_int pa_nil))) pe_int (nomark _)))))
          (pss_one (ps_set (i := 7) sc.nd rfl (.inl rfl) (pe_tup (pa_cons pe_str (pa_cons (pe_call G2 hr3 rfl e2 k2 b2 .nil pass0 (pa_cons (pv 0) (pa_cons (pv 6) pa_nil))) pa_nil))))) pss_nil) hT3))))
      (pss_one (ps_ret (pv 4))))), ?_⟩
    refine ⟨_, rfl, _, rfl, dr, wa, c, 9, rfl, L0.dw, by omega, by decide, by decide, fun r H1 r0 r1 hd1 o1 => ⟨_, _, rfl, rfl, _, rfl, by omega, by omega, ?_⟩⟩
    have L1 := L0.draw o1 hd1
    have nwp : p0 ≠ wa.1 := by
      obtain ⟨_, ⟨l, g⟩, _⟩ := L0.dw.parts
      exact ne_of L0.sa.ob g (by intro z; cases z)
    have tp0 : τ p0 = 0 := (L0.dj p0).resolve_right (by rw [L0.sa.re.tp]; decide)
    refine for_it (walk_rangeA (n := (5 + r).toNat)) (fun i st H' => ∃ (p : Addr) (o5 o6 o7 o8 : Option V) (Ay : Ad) (τ : Addr → Int) (As' : Ad) (σ : Addr → Int) (S : Vs) (D : Du), st = [some (.ref dr), some (.ref fa), some (.ref y), some (.ref p0), some (.ref p), o5, o6, o7, o8, none] ∧ LS CY CB CJ dn n bk B fa ba fn Bf dr wa (c + 1 + 4 * i) H' y Ay τ S D p As' σ S D ∧ Grow n S D ∧ S.m ≤ 1 + i ∧ S.nw ≤ 1 + i ∧ p ≠ dr ∧ τ p0 = 0 ∧ ∃ bg, H' p0 = some (.dK (skv n As0 bg)))
      ⟨p0, none, none, none, none, Ay, τ, As, σ, S0 n, D0, rfl, L1, Grow.init n, Nat.le_refl _, Nat.le_refl _, npd, tp0, (S0 n).bg, by rw [eAs0]; exact o1 _ _ L0.sa.ob npd nwp⟩ (fun _ _ _ _ _ => trivial) ?_ ?_
    · rintro i x st H2 H2' hi ⟨p, o5, o6, o7, o8, Ay, τ, As', σ, S, D, rfl, L, G, hm, hw, npp, tp, bg, hp0⟩ ⟨rfl, hx⟩
      obtain ⟨lap, hlap, rfl⟩ := int_at hx
      have hl2 := mem_rng.mp (List.mem_of_getElem? hlap)
      rw [List.length_map, rng_length] at hi
      have i12 : i ≤ 12 := by omega
      have lap20 : lap ≤ 20 := by omega
      have BS := G.ba
      obtain ⟨k1, R⟩ := id L.sa
      refine ⟨_, rfl, p, _, rfl, sk_owned k1, As'.o, _, S.ok, rfl, .inl R.ho, dI_keys _ _, Nat.lt_of_le_of_lt (ok_len BS) (by decide), fun ys l hperm hsrt hl => ?_⟩
      have ey := sorted_eq hperm hsrt BS.os
      subst ey
      have s3 : Same H2' (upd H2' l (.lst (S.ok.map V.int))) := Same.newS (Same.refl _) hl
      have vl : (upd H2' l (.lst (S.ok.map V.int))) l = some (.lst (S.ok.map V.int)) := upd_same
      generalize upd H2' l (.lst (S.ok.map V.int)) = H3 at s3 vl ⊢
      refine ⟨l, rfl, ⟨_, SqL.of vl⟩, fun D0' hD0' => ?_⟩
      have dne := (L.dw.same s3).ne hD0'
      refine lc_pick (walk_list (K := K) (a := l) (xs := S.ok.map V.int)) hD0' (fun v => match v with | .int k => !isOpen S k | _ => false) (fun v => v) (by rw [List.length_map]; exact Nat.le_trans (ok_len BS) (by decide)) (fun Hc sc => SqL.of (sc _ _ vl)) (fun x Hc hx sc Q' hq => ?_) (fun x Hc hx _ sc Q' hq => ⟨_, rfl, hq _ (Same.refl _)⟩) fun H4 s4 hD4 => ?_
      · obtain ⟨k, hk, rfl⟩ := List.mem_map.mp hx
        exact ⟨_, rfl, _, rfl, p, n, S.bg, As', k, S, rfl, sc _ _ (s3 _ _ k1), sc _ _ (s3 _ _ R.hs), fun H5 s5 => ⟨isOpen S k, rfl, hq _ s5⟩⟩
      rw [filt_int (p' := fun k => !isOpen S k) fun k hk => rfl] at hD4
      have s24 := Same.trans s3 s4
      have L4 := L.same s24
      have hp4 := s24 _ _ hp0
      obtain ⟨k4', R4⟩ := id L4.sa
      refine ⟨_, rfl, _, rfl, p, _, rfl, sk_seats k4', As'.s, _, rfl, R4.hs, ?_⟩
      rw [dI_length, rng_length]
      have w0 := BS.w0
      have w14 := BS.w14
      refine ⟨dr, wa, c + 1 + 4 * i, S.nw, rfl, L4.dw, by omega, by omega, by omega, fun u H5 u0 u1 hd5 o5' => ⟨(show 2 ≤ sizeLine from by decide), fun t ht => ?_⟩⟩
      have hD5 := o5' _ _ hD4 dne.1 dne.2.1
      have hp5 := o5' _ _ hp4 npd nwp
      have L5 := L4.draw o5' hd5
      have s6 : Same H5 (upd H5 t (.tup [.str "cover", .int u])) := Same.newS (Same.refl _) ht
      have v6 : (upd H5 t (.tup [.str "cover", .int u])) t = some (.tup [.str "cover", .int u]) := upd_same
      generalize upd H5 t (.tup [.str "cover", .int u]) = H6 at s6 v6 ⊢
      have L6 := L5.same s6
      have hp6 := s6 _ _ hp5
      have hD6 := s6 _ _ hD5
      have tn : ∀ {H : Hp} {c : Nat}, Dw H dr wa c → H t = some (.tup [.str "cover", .int u]) → t ≠ dr ∧ t ≠ wa.1 := fun {H c} d h => by
        obtain ⟨⟨l1, g1⟩, ⟨l2, g2⟩, _⟩ := d.parts
        exact ⟨ne_of h g1 (by intro z; cases z), ne_of h g2 (by intro z; cases z)⟩
      refine ⟨_, rfl, (show 0 ≤ sizeLine from Nat.zero_le _), fun e0 he0 => ?_⟩
      have s7 : Same H6 (upd H6 e0 (.lst [])) := Same.newS (Same.refl _) he0
      refine ⟨_, _, .lst (SqL.of (s7 _ _ hD6)) (dpAll_ints K _ _), .lst (SqL.of upd_same) (dpAll_ints K _ []), shaped_ints _, shaped_ints [], _, rfl, ?_⟩
      rw [eqv_ints]
      generalize upd H6 e0 (.lst []) = H7 at s7 ⊢
      have L7 := L6.same s7
      have v7 := s7 _ _ v6
      have hp7 := s7 _ _ hp6
      have hD7 := s7 _ _ hD6
      cases hcl : S.ok.filter fun k => !isOpen S k with
      | nil =>
        refine iteF (iteF (w3 _ _ _ lap t H7 _ _ _ p _ _ S D hl2.1 lap20 (by omega) L7 G (by omega) (by omega) ⟨bg, hp7⟩ tp (.inl ⟨u, v7, u0, u1⟩) fun o8 H8 Ay' τ' p' As'' σ' S' D' L8 G8 m8 n8 e8 t8 kp8 => ?_))
        exact ⟨p', _, _, _, _, _, _, _, _, S', D', rfl, L8.mono (by omega), G8, by omega, by omega, e8, t8, kp8⟩
      | cons z zs =>
        rw [hcl] at hD7
        refine iteT ⟨_, rfl, dr, wa, c + 1 + 4 * i + 1, 5, rfl, L7.dw, by omega, by decide, by decide, fun q5 H8 q0 q1 hd8 o8' => ⟨rfl, _, rfl, ?_⟩⟩
        have tne := tn L7.dw v7
        have L8 := L7.draw o8' hd8
        have v8 := o8' _ _ v7 tne.1 tne.2
        have hp8 := o8' _ _ hp7 npd nwp
        have hD8 := o8' _ _ hD7 dne.1 dne.2.1
        cases hq5 : decide (V.int q5 = V.int 0)
        · refine iteF (w3 _ _ _ lap t H8 _ _ _ p _ _ S D hl2.1 lap20 (by omega) L8 G (by omega) (by omega) ⟨bg, hp8⟩ tp (.inl ⟨u, v8, u0, u1⟩) fun o8 H9 Ay' τ' p' As'' σ' S' D' L9 G9 m9 n9 e9 t9 kp9 => ?_)
          exact ⟨p', _, _, _, _, _, _, _, _, S', D', rfl, L9.mono (by omega), G9, by omega, by omega, e9, t9, kp9⟩
        · refine iteT ⟨_, rfl, _, rfl, dr, wa, D0', c + 1 + 4 * i + 1 + 1, _, rfl, L8.dw, by omega, hD8, dne.2.1, by rw [List.length_map, List.length_cons]; omega, ?_, fun x H9 hx hd9 o9 => ?_⟩
          · rw [List.length_map, ← hcl]
            exact Nat.le_trans (List.length_filter_le _ _) (Nat.le_trans (ok_len BS) (by decide))
          · obtain ⟨k, hk, rfl⟩ := List.mem_map.mp hx
            rw [← hcl, List.mem_filter] at hk
            have L9 := L8.draw o9 hd9
            have hp9 := o9 _ _ hp8 npd nwp
            refine ⟨(show 2 ≤ sizeLine from by decide), fun t2 ht2 => ?_⟩
            have s10 : Same H9 (upd H9 t2 (.tup [.str "branch", .int k])) := Same.newS (Same.refl _) ht2
            have v10 : (upd H9 t2 (.tup [.str "branch", .int k])) t2 = some (.tup [.str "branch", .int k]) := upd_same
            generalize upd H9 t2 (.tup [.str "branch", .int k]) = H10 at s10 v10 ⊢
            refine w3 _ _ _ lap t2 H10 _ _ _ p _ _ S D hl2.1 lap20 (by omega) (L9.same s10) G (by omega) (by omega) ⟨bg, s10 _ _ hp9⟩ tp (.inr ⟨k, v10, hk.1, by simpa using hk.2⟩) fun o8 H11 Ay' τ' p' As'' σ' S' D' L11 G11 m11 n11 e11 t11 kp11 => ?_
            exact ⟨p', _, _, _, _, _, _, _, _, S', D', rfl, L11.mono (by omega), G11, by omega, by omega, e11, t11, kp11⟩
    · rintro st H2 ⟨p, o5, o6, o7, o8, Ay, τ, As', σ, S, D, rfl, L, G, hm, hw, npp, tp, bg, hp0⟩
      rw [List.length_map, rng_length] at L
      exact ⟨_, rfl, q Ay τ p As' σ S D H2 (L.mono (by omega)) G npp⟩
end
end K20W
end
/-! V21 -/
section
set_option Elab.async false
set_option linter.all false
set_option maxRecDepth 100000
set_option maxHeartbeats 8000000
/-! exchanged. -/
namespace K20W
open PySem L2 K20
theorem YA.frame {CY CJ : Addr} {dn : Bool} {bk : Addr} {n : Nat} {H H' : Hp} {y : Addr} {A : Ad} {S : Vs} {D : Du} {τ ρ : Addr → Int} (Y : YA CY CJ dn bk n H y A S D τ) (k : Kp ρ H H') (dj : ∀ a, τ a = 0 ∨ ρ a = 0) : YA CY CJ dn bk n H' y A S D τ := by
  obtain ⟨⟨dx, h1⟩, R, b0⟩ := Y
  refine ⟨⟨dx, k _ _ h1 fun z => ?_⟩, R.frame (JobAt.stays CJ dn) k dj, b0⟩
  rcases dj y with e | e
  · rw [R.tp] at e
    cases e
  · exact (z e).elim
section
variable {P : Program} {w : World} {K : PySem.W.Frag} {mg : Str → Option Value} {base : Heap} {f CY CB CJ : Addr} {fd : FuncData}
def wordV (P : Par) (S : Vs) (i : Int) : V := .str (wordS (wordOf P (S.jo i)))
def spExch (CY CB CJ : Addr) : Sp := fun vs H Q _ => ∃ (y bk : Addr) (dn : Bool) (n : Nat) (A : Ad) (S : Vs) (D : Du) (τ : Addr → Int) (B : BookR) (i j : Int), vs = [.ref y, .int i, .int j] ∧ YA CY CJ dn bk n H y A S D τ ∧ BookAt CB H bk B ∧ (B.finish = "one" ∨ B.finish = "link") ∧ i ∈ S.jk ∧ j ∈ S.jk ∧ i ≠ j ∧ Good (par B dn n) S D ∧ 1 ≤ n ∧ n ≤ 40 ∧
  ∀ r y1 y2 w1 w2 A1 A2 τ1 τ2 H', Same H H' → H' r = some (.tup [.ref y1, .ref w1, .ref y2, .ref w2]) → H' w1 = some (.lst [wordV (par B dn n) S i, wordV (par B dn n) S j]) → H' w2 = some (.lst [wordV (par B dn n) S i, wordV (par B dn n) S j]) →
    YA CY CJ dn bk n H' y1 A1 (stepS (par B dn n) (stepS (par B dn n) S i) j) (stepD (par B dn n) (stepS (par B dn n) S i) (stepD (par B dn n) S D i) j) τ1 → YA CY CJ dn bk n H' y2 A2 (stepS (par B dn n) (stepS (par B dn n) S j) i) (stepD (par B dn n) (stepS (par B dn n) S j) (stepD (par B dn n) S D j) i) τ2 → Q (.ref r) H'
theorem ok_exch (TY : YardC K CY) (m1 : Md P w K mg base CY "copy" 4 ["self"] (spCopy CY CB CJ)) (m2 : Md P w K mg base CY "step" 5 ["self", "job"] (spStep CY CB CJ)) (F : Fu K "_law_exchanged" "_law_exchanged" (top 79) f fd) : FnOk P w K mg base CX0 6 f fd ["_law_yard", "_law_one", "_law_other"] (spExch CY CB CJ) := by
  have sc : FnScope ["_law_yard", "_law_one", "_law_other", "_law_first", "_law_second", "_law_words", "_law_turned"] ["_law_yard", "_law_one", "_law_other"] (defScope (top 79)) := ⟨rfl, rfl, rfl, by decide +kernel, rfl, by decide +kernel, by decide +kernel⟩
  obtain ⟨f1, d1, G1, M1, b1⟩ := m1
  obtain ⟨f2, d2, G2, M2, b2⟩ := m2
  refine F.ok sc (fun vs H Q E h => ?_) (fun cdv Ar outer s H vs Q E hr h => ?_)
  · obtain ⟨y, _, _, _, _, _, _, _, _, _, _, rfl, _⟩ := h
    rfl
  · obtain ⟨y, bk, dn, n, A, S, D, τ, B, i, j, rfl, Y, hB, hf, hi, hj, ne, G, n1, n40, q⟩ := h
    have hr4 : Room 4 _ := hr.mono (by decide)
    refine ⟨_, pss_cons (ps_par (i := 3) (j := 4) (by rfl) sc.nd rfl rfl (by decide) rfl rfl (pa_cons (pe_meth0 (pv 0) TY.cl M1 G1 hr4 b1 .nil pass0) (pa_cons (pe_meth0 (pv 0) TY.cl M1 G1 hr4 b1 .nil pass0) pa_nil)) rfl)
      (pss_cons (ps_set (i := 5) sc.nd rfl (.inl rfl) (pe_lst (pa_cons (pe_meth (pv 3) TY.cl M2 G2 hr b2 .nil pass0 (pa_cons (pv 1) pa_nil)) (pa_cons (pe_meth (pv 3) TY.cl M2 G2 hr b2 .nil pass0 (pa_cons (pv 2) pa_nil)) pa_nil))))
      (pss_cons (ps_set (i := 6) sc.nd rfl (.inl rfl) (pe_lst (pa_cons (pe_meth (pv 4) TY.cl M2 G2 hr b2 .nil pass0 (pa_cons (pv 2) pa_nil)) (pa_cons (pe_meth (pv 4) TY.cl M2 G2 hr b2 .nil pass0 (pa_cons (pv 1) pa_nil)) pa_nil))))
      (pss_one (ps_ret (pe_tup (pa_cons (pv 3) (pa_cons (pv 5) (pa_cons (pv 4) (pa_cons (pe_revL (pv 6)) pa_nil))))))))), ?_⟩
    have BS : Base n S := G.ba
    have sj : (stepS (par B dn n) S i).jo j = S.jo j := step_jo (Ne.symm ne)
    have si : (stepS (par B dn n) S j).jo i = S.jo i := step_jo ne
    have Gi := G.step hi
    have Gj := G.step hj
    obtain ⟨⟨dx, h1⟩, R, b0⟩ := id Y
    refine ⟨_, rfl, y, dx, _, rfl, h1, by kernel_rfl, y, bk, dn, n, A, S, D, τ, B, rfl, Y, hB, BS, n1, n40, fun y1 A1 H1 τ1 s1 Y1 fr1 => ?_⟩
    have Y01 := Y.same s1
    obtain ⟨⟨dx', h1'⟩, R', b0'⟩ := id Y01
    refine ⟨_, rfl, y, dx', _, rfl, h1', by kernel_rfl, y, bk, dn, n, A, S, D, τ, B, rfl, Y01, hB.same s1, BS, n1, n40, fun y2 A2 H2 τ2 s2 Y2 fr2 => ?_⟩
    refine ⟨_, _, rfl, ?_⟩
    have Y12 := Y1.same s2
    have dj : ∀ a, τ1 a = 0 ∨ τ2 a = 0 := fun a => by
      by_cases e : τ1 a = 0
      · exact .inl e
      · right
        exact Classical.byContradiction fun z => Y1.re.live a e (fr2 a z)
    have old1 : ∀ {a : Addr} {o : HO}, H a = some o → τ1 a = 0 := fun {a o} h => Classical.byContradiction fun z => by
      rw [fr1 a z] at h
      cases h
    have old2 : ∀ {a : Addr} {o : HO}, H a = some o → τ2 a = 0 := fun {a o} h => Classical.byContradiction fun z => by
      have := fr2 a z
      rw [s1 _ _ h] at this
      cases this
    have s02 := Same.trans s1 s2
    have hB2 := hB.same s02
    -- first.step(one)
    obtain ⟨⟨dy1, g1⟩, Ry1, bz1⟩ := id Y12
    refine ⟨_, rfl, y1, dy1, _, rfl, g1, by kernel_rfl, _, rfl, y1, bk, dn, n, A1, S, D, τ1, B, i, rfl, Y12, hB2, hf, hi, G, n40, fun dd3 H3 Y3 k3 => ?_⟩
    have s03 : Same H H3 := fun a o h => k3 _ _ (s02 _ _ h) fun z => (z (old1 h)).elim
    have hB3 := hB.same s03
    have Y2_3 := Y2.frame k3 fun a => (dj a).symm
    -- first.step(other)
    obtain ⟨⟨dy3, g3⟩, Ry3, bz3⟩ := id Y3
    refine ⟨_, rfl, y1, dy3, _, rfl, g3, by kernel_rfl, _, rfl, y1, bk, dn, n, { A1 with dd := dd3 }, _, _, τ1, B, j, rfl, Y3, hB3, hf, step_jk (Ne.symm ne) hj, Gi, n40, fun dd4 H4 Y4 k4 => ?_⟩
    have s04 : Same H H4 := fun a o h => k4 _ _ (s03 _ _ h) fun z => (z (old1 h)).elim
    have Y2_4 := Y2_3.frame k4 fun a => (dj a).symm
    rw [sj]
    refine ⟨(show 2 ≤ sizeLine from by decide), fun w1 hw1 => ?_⟩
    generalize hH5 : upd H4 w1 _ = H5
    have s5 : Same H4 H5 := by
      rw [← hH5]
      exact Same.newS (Same.refl _) hw1
    have v1 : H5 w1 = some (.lst [wordV (par B dn n) S i, wordV (par B dn n) S j]) := by
      rw [← hH5]
      exact upd_same
    clear hH5
    have Y4' := Y4.same s5
    have Y2_5 := Y2_4.same s5
    have s05 := Same.trans s04 s5
    have hB5 := hB.same s05
    -- second.step(other)
    obtain ⟨⟨dy5, g5⟩, Ry5, bz5⟩ := id Y2_5
    refine ⟨_, rfl, y2, dy5, _, rfl, g5, by kernel_rfl, _, rfl, y2, bk, dn, n, A2, S, D, τ2, B, j, rfl, Y2_5, hB5, hf, hj, G, n40, fun dd6 H6 Y6 k6 => ?_⟩
    have s06 : Same H H6 := fun a o h => k6 _ _ (s05 _ _ h) fun z => (z (old2 h)).elim
    have hB6 := hB.same s06
    have Y4_6 := Y4'.frame k6 dj
    have v6 := k6 _ _ v1 fun _ => isT_lst _
    -- second.step(one)
    obtain ⟨⟨dy6, g6⟩, Ry6, bz6⟩ := id Y6
    refine ⟨_, rfl, y2, dy6, _, rfl, g6, by kernel_rfl, _, rfl, y2, bk, dn, n, { A2 with dd := dd6 }, _, _, τ2, B, i, rfl, Y6, hB6, hf, step_jk ne hi, Gj, n40, fun dd7 H7 Y7 k7 => ?_⟩
    have s07 : Same H H7 := fun a o h => k7 _ _ (s06 _ _ h) fun z => (z (old2 h)).elim
    have Y4_7 := Y4_6.frame k7 dj
    have v7 := k7 _ _ v6 fun _ => isT_lst _
    rw [si]
    refine ⟨(show 2 ≤ sizeLine from by decide), fun w2 hw2 => ?_⟩
    generalize hH8 : upd H7 w2 _ = H8
    have s8 : Same H7 H8 := by
      rw [← hH8]
      exact Same.newS (Same.refl _) hw2
    have v8 : H8 w2 = some (.lst [wordV (par B dn n) S j, wordV (par B dn n) S i]) := by
      rw [← hH8]
      exact upd_same
    clear hH8
    refine ⟨_, rfl, _, rfl, _, rfl, _, rfl, w2, _, rfl, SqL.of v8, fun w3 hw3 => ⟨(show 4 ≤ sizeLine from by decide), fun r hr => ?_⟩⟩
    have s9 : Same H8 (upd (upd H8 w3 (.lst [wordV (par B dn n) S j, wordV (par B dn n) S i].reverse)) r (.tup [.ref y1, .ref w1, .ref y2, .ref w3])) := Same.newS (Same.newS (Same.refl _) hw3) hr
    have nr : w3 ≠ r := fun e => by
      rw [← e, upd_same] at hr
      cases hr
    have s79 := Same.trans s8 s9
    refine q r y1 y2 w1 w3 _ _ τ1 τ2 _ (Same.trans s07 s79) upd_same (s79 _ _ v7) ?_ (Y4_7.same s79) (Y7.same s79)
    rw [upd_ne nr, upd_same]
    rfl
end
end K20W
end
/-! V22 -/
section
set_option Elab.async false
set_option linter.all false
set_option maxRecDepth 100000
set_option maxHeartbeats 8000000
/-! the law. -/
namespace K20W
open PySem L2 K20
theorem word_ok (a : Wd) : PyData.strOk (wordS a) = true := by cases a <;> decide +kernel
theorem words_shaped (a b : Wd) : SeqAt.shaped (.list ([wordS a, wordS b].map PyData.str)) = true := shaped_strs _ fun x hx => by
  simp only [List.mem_cons, List.not_mem_nil, or_false] at hx
  rcases hx with rfl | rfl
  · exact word_ok a
  · exact word_ok b
theorem words_eqv (a b : Wd) : PyData.eqv (.list ([wordS a, wordS b].map PyData.str)) (.list ([wordS a, wordS b].map PyData.str)) = true := by
  simp [PyData.eqv, PyData.eqvAll]
theorem other_some {l : List Int} (nd : l.Pairwise (· < ·)) (h : 2 ≤ l.length) (i : Int) : 0 < (l.filter fun y => decide (y ≠ i)).length := by
  match l, nd, h with
  | a :: b :: r, nd, _ =>
    have ab : a < b := (List.pairwise_cons.mp nd).1 b List.mem_cons_self
    apply List.length_pos_of_mem (a := if a = i then b else a)
    rw [List.mem_filter]
    by_cases e : a = i
    · rw [if_pos e]
      exact ⟨List.mem_cons_of_mem _ List.mem_cons_self, decide_eq_true (by omega)⟩
    · rw [if_neg e]
      exact ⟨List.mem_cons_self, decide_eq_true e⟩
theorem any_perm {l m : List Str} (h : l.Perm m) (f : Str → Bool) : l.any f = m.any f := by
  rw [Bool.eq_iff_iff, List.any_eq_true, List.any_eq_true]
  exact ⟨fun ⟨x, hx, e⟩ => ⟨x, h.mem_iff.mp hx, e⟩, fun ⟨x, hx, e⟩ => ⟨x, h.mem_iff.mpr hx, e⟩⟩
theorem min_bd (z : Int) (h : 0 ≤ z) : 0 ≤ (if (6 : Int) < z then (6 : Int) else z) ∧ (if (6 : Int) < z then (6 : Int) else z) ≤ 6 := by
  by_cases e : (6 : Int) < z
  · rw [if_pos e]
    decide
  · rw [if_neg e]
    omega
section
variable {P : Program} {w : World} {K : PySem.W.Frag} {mg : Str → Option Value} {base : Heap} {f CY CB CJ : Addr} {fd : FuncData}
def spLaw (K : PySem.W.Frag) : Sp := fun vs H Q _ => ∃ (sa : Addr) (ns : List Int), vs = [.ref sa] ∧ SqL K H sa (ns.map V.int) ∧ ns.length ≤ 1000 ∧ ∀ H', Q (.bl true) H'
def GdG (P : Program) (w : World) (K : PySem.W.Frag) (mg : Str → Option Value) (base : Heap) (x : Str) (k : Nat) (ps : List Str) (sp : Sp) : Prop := ∃ (f : Addr) (fd : FuncData), FnOkG P w K mg base CX0 k f fd ps sp ∧ mg x = some (.ref f) ∧ PySem.W.keepIn K (.ref f) = true ∧ Binds K fd ps []
theorem ok_law (Bt : Blt mg) (TY : YardC K CY) (gY : mg "Yard" = some (.ref CY)) (I : Id P w K mg base CY 2 ["self", "book", "cells"] (spYardInit CY CB CJ)) (g1 : Gd P w K mg base "_law_begun" 1 ["_law_script"] (spBegun K)) (g2 : Gd P w K mg base "_law_drawn_fields" 4 ["_law_draw"] spFields) (g3 : Gd P w K mg base "_law_take" 2 ["_law_draw", "_law_size"] spTake) (g4 : Gd P w K mg base "_law_pick" 3 ["_law_draw", "_law_some"] spPick)
    (g5 : Gd P w K mg base "_law_book" 5 ["_law_fields"] (spBook CB)) (g6 : Gd P w K mg base "_law_new_sheet" 1 ["_law_many"] spLNew) (g7 : Gd P w K mg base "_law_grown" 6 ["_law_draw", "_law_fields", "_law_yard", "_law_sheet"] (spGrown CY CB CJ)) (g8 : Gd P w K mg base "_law_refusal" 3 ["_law_fields", "_law_sheet", "_law_deed"] spLRefuse) (g9 : Gd P w K mg base "_law_done" 4 ["_law_fields", "_law_before", "_law_deed"] spLDone)
    (g10 : Gd P w K mg base "_law_exchanged" 6 ["_law_yard", "_law_one", "_law_other"] (spExch CY CB CJ)) (g11 : GdG P w K mg base "_law_shows" 24 ["_law_yard", "_law_sheet"] (spShows CY CJ)) (m1 : Md P w K mg base CY "do" 5 ["self", "deed"] (spDo CY CB CJ)) (m2 : Md P w K mg base CY "step" 5 ["self", "job"] (spStep CY CB CJ))
    (F : Fu K "law" "law" (top 80) f fd) : FnOkG P w K mg base CX0 25 f fd ["_law_script"] (spLaw K) := by
  have sc : FnScope ["_law_script", "_law_draw", "_law_turn", "_law_fields", "_law_many", "_law_word", "_law_yard", "_law_sheet", "_law_lap", "_law_deed", "_law_running", "_law_one", "_law_other", "_law_later", "_law_first", "_law_words", "_law_second", "_law_turned", "_law_number"] ["_law_script"] (defScope (top 80)) := ⟨rfl, rfl, rfl, by decide +kernel, rfl, by decide +kernel, by decide +kernel⟩
  obtain ⟨fi, di, Gi, Mi, bi⟩ := I
  obtain ⟨f1, d1, G1, e1, k1, b1⟩ := g1
  obtain ⟨f2, d2, G2, e2, k2, b2⟩ := g2
  obtain ⟨f3, d3, G3, e3, k3, b3⟩ := g3
  obtain ⟨f4, d4, G4, e4, k4, b4⟩ := g4
  obtain ⟨f5, d5, G5, e5, k5, b5⟩ := g5
  obtain ⟨f6, d6, G6, e6, k6, b6⟩ := g6
  obtain ⟨f7, d7, G7, e7, k7, b7⟩ := g7
  obtain ⟨f8, d8, G8, e8, k8, b8⟩ := g8
  obtain ⟨f9, d9, G9, e9, k9, b9⟩ := g9
  obtain ⟨f10, d10, G10, e10, k10, b10⟩ := g10
  obtain ⟨f11, d11, G11, e11, k11, b11⟩ := g11
  obtain ⟨f12, d12, G12, M12, b12⟩ := m1
  obtain ⟨f13, d13, G13, M13, b13⟩ := m2
  refine FnOkG.mk' F sc (fun vs H Q E h => ?_) (fun cdv Ar outer s H vs Q E hg hr h => ?_)
  · obtain ⟨sa, _, rfl, _⟩ := h
    rfl
  · obtain ⟨sa, ns, rfl, hs, hn, q⟩ := h
    have hu := hu_of hr
    have r1 : Room 1 _ := hr.mono (by decide)
    have r2 : Room 2 _ := hr.mono (by decide)
    have r3 : Room 3 _ := hr.mono (by decide)
    have r4 : Room 4 _ := hr.mono (by decide)
    have r5 : Room 5 _ := hr.mono (by decide)
    have r6 : Room 6 _ := hr.mono (by decide)
    refine ⟨_, PSs.nox (pss_cons (ps_set (i := 1) sc.nd rfl (.inl rfl) (pe_call G1 r1 rfl e1 k1 b1 .nil pass0 (pa_cons (pv 0) pa_nil)))
      (pss_cons (ps_for PassesOwn.never rfl (pi_range1 rfl Bt.range (pa_cons (pe_op op_add pe_int (pe_callB (call_min2 rfl) (by rfl) Bt.min boot_min (pa_cons (pe_callB call_len (by rfl) Bt.len PySem.boot_len (pa_cons (pv 0) pa_nil)) (pa_cons pe_int pa_nil)))) pa_nil)) (pg_name (i := 2) sc.nd rfl (Or.inl rfl))
        (pss_cons (ps_par3 (i := 3) (j := 4) (l := 5) (by rfl) sc.nd rfl rfl rfl (by decide) (by decide) (by decide) rfl rfl rfl (pa_cons (pe_call G2 r4 rfl e2 k2 b2 .nil pass0 (pa_cons (pv 1) pa_nil)) (pa_cons (pe_op op_add pe_int (pe_call G3 r2 rfl e3 k3 b3 .nil pass0 (pa_cons (pv 1) (pa_cons pe_int pa_nil)))) (pa_cons (pe_call G4 r3 rfl e4 k4 b4 .nil pass0 (pa_cons (pv 1) (pa_cons (pe_lst (pa_cons pe_str (pa_cons pe_str pa_nil))) pa_nil))) pa_nil))) rfl)
        (pss_cons (ps_dput hu (pv 3) pe_str (pe_call G4 r3 rfl e4 k4 b4 .nil pass0 (pa_cons (pv 1) (pa_cons (pe_lst (pa_cons pe_str (pa_cons pe_str pa_nil))) pa_nil))) rfl)
        (pss_cons (ps_par (i := 6) (j := 7) (by rfl) sc.nd rfl rfl (by decide) rfl rfl (pa_cons (pe_make Mi Gi r3 rfl gY bi .nil pass0 (pa_cons (pe_call G5 r5 rfl e5 k5 b5 .nil pass0 (pa_cons (pv 3) pa_nil)) (pa_cons (pv 4) pa_nil))) (pa_cons (pe_call G6 r1 rfl e6 k6 b6 .nil pass0 (pa_cons (pv 4) pa_nil)) pa_nil)) rfl)
        (pss_cons (ps_set (i := 7) sc.nd rfl (.inl rfl) (pe_call G7 r6 rfl e7 k7 b7 .nil pass0 (pa_cons (pv 1) (pa_cons (pv 3) (pa_cons (pv 6) (pa_cons (pv 7) pa_nil))))))
        (pss_cons (ps_for PassesOwn.never rfl (pi_range1 rfl Bt.range (pa_cons pe_int pa_nil)) (pg_name (i := 8) sc.nd rfl (Or.inl rfl))
          (pss_cons (ps_set (i := 9) sc.nd rfl (.inl rfl) (pe_tup (pa_cons pe_str (pa_cons (pv 5) (pa_cons (pe_call G4 r3 rfl e4 k4 b4 .nil pass0 (pa_cons (pv 1) (pa_cons (pe_callB (call_sortedDI rfl) (by rfl) Bt.sorted boot_sorted (pa_cons (pe_dget hu (pv 7) pe_str (fun _ _ => rfl)) pa_nil)) pa_nil))) pa_nil)))))
          (pss_one (ps_if (PW.pt (pw_and (pt_cmpR op_lt (pe_callB call_lenD (by rfl) Bt.len PySem.boot_len (pa_cons (pe_dget hu (pv 7) pe_str (fun _ _ => rfl)) pa_nil)) pe_int (nomark _)) (pw_and1 (pt_cmp (pc_isN (pe_call G8 r3 rfl e8 k8 b8 .nil pass0 (pa_cons (pv 3) (pa_cons (pv 7) (pa_cons (pv 9) pa_nil)))))))))
            (pss_cons (ps_expr (pe_meth (pv 6) TY.cl M12 G12 r5 b12 .nil pass0 (pa_cons (pv 9) pa_nil)))
            (pss_one (ps_set (i := 7) sc.nd rfl (.inl rfl) (pe_ix ix_tup (pe_call G9 r4 rfl e9 k9 b9 .nil pass0 (pa_cons (pv 3) (pa_cons (pv 7) (pa_cons (pv 9) pa_nil)))) pe_int (fun _ _ => rfl))))) pss_nil))))
        (pss_one (ps_for PassesOwn.never rfl (pi_range1 rfl Bt.range (pa_cons pe_int pa_nil)) (pg_name (i := 8) sc.nd rfl (Or.inl rfl))
          (pss_cons (ps_set (i := 10) sc.nd rfl (.inl rfl) (pe_callB (call_sortedDI rfl) (by rfl) Bt.sorted boot_sorted (pa_cons (pe_dget hu (pv 7) pe_str (fun _ _ => rfl)) pa_nil)))
          (pss_cons (ps_if (pt_cmpR op_lt (pe_callB call_len (by rfl) Bt.len PySem.boot_len (pa_cons (pv 10) pa_nil)) pe_int (nomark _)) (pss_one ps_break) pss_nil)
          (pss_cons (ps_set (i := 11) sc.nd rfl (.inr rfl) (pe_call G4 r3 rfl e4 k4 b4 .nil pass0 (pa_cons (pv 1) (pa_cons (pv 10) pa_nil))))
          (pss_cons (ps_set (i := 12) sc.nd rfl (.inl rfl) (pe_call G4 r3 rfl e4 k4 b4 .nil pass0 (pa_cons (pv 1) (pa_cons (pe_lc (own := [("_law_number", 18)]) (g := gName 18) (by rfl) sc.nd (pi_list (pv 10))
            (blkOk_by (own := [("_law_number", 18)]) (N := ["_law_script", "_law_draw", "_law_turn", "_law_fields", "_law_many", "_law_word", "_law_yard", "_law_sheet", "_law_lap", "_law_deed", "_law_running", "_law_one", "_law_other", "_law_later", "_law_first", "_law_words", "_law_second", "_law_turned", "_law_number"]) (sc := defScope (top 80)) (by decide +kernel))
            (fun _ _ _ _ _ => pg_name (i := 18) sc.nd rfl (Or.inl rfl)) (fun _ _ _ _ _ => pts_one (pt_cmpR op_ne (pv 18) (pv 11) (nomark _))) (fun _ _ _ _ _ => pv 18)) pa_nil))))
          (pss_cons (ps_set (i := 13) sc.nd rfl (.inl rfl) (pe_ix ix_tup (pe_call G9 r4 rfl e9 k9 b9 .nil pass0 (pa_cons (pv 3) (pa_cons (pe_ix ix_tup (pe_call G9 r4 rfl e9 k9 b9 .nil pass0 (pa_cons (pv 3) (pa_cons (pv 7) (pa_cons (pe_tup (pa_cons pe_str (pa_cons (pv 11) pa_nil))) pa_nil)))) pe_int (fun _ _ => rfl)) (pa_cons (pe_tup (pa_cons pe_str (pa_cons (pv 12) pa_nil))) pa_nil)))) pe_int (fun _ _ => rfl)))
          (pss_cons (ps_asg (pe_call G10 r6 rfl e10 k10 b10 .nil pass0 (pa_cons (pv 6) (pa_cons (pv 11) (pa_cons (pv 12) pa_nil)))) (pg_tup rfl (pgs_cons (pg_name (i := 14) sc.nd rfl (Or.inl rfl)) (pgs_cons (pg_name (i := 15) sc.nd rfl (Or.inl rfl)) (pgs_cons (pg_name (i := 16) sc.nd rfl (Or.inl rfl)) (pgs_cons (pg_name (i := 17) sc.nd rfl (Or.inl rfl)) pgs_nil))))))
          (pss_cons (ps_if (PW.pt (pw_or (pt_cmpR (op_neD hr.units) (pv 15) (pv 17) (nomark _)) (pw_or (pt_not (pt_val (pe_callG hg G11 hr rfl e11 k11 b11 pass0 (pa_cons (pv 14) (pa_cons (pv 13) pa_nil))))) (pw_or1 (pt_not (pt_val (pe_callG hg G11 hr rfl e11 k11 b11 pass0 (pa_cons (pv 16) (pa_cons (pv 13) pa_nil)))))))))
            (pss_one ps_never) pss_nil)
          (pss_cons (ps_expr (pe_meth (pv 6) TY.cl M13 G13 r5 b13 .nil pass0 (pa_cons (pv 11) pa_nil)))
          (pss_one (ps_set (i := 7) sc.nd rfl (.inl rfl) (pe_ix ix_tup (pe_call G9 r4 rfl e9 k9 b9 .nil pass0 (pa_cons (pv 3) (pa_cons (pv 7) (pa_cons (pe_tup (pa_cons pe_str (pa_cons (pv 11) pa_nil))) pa_nil)))) pe_int (fun _ _ => rfl))))))))))))))))))))
      (pss_one (ps_ret pe_bl)))), ?_⟩
    refine ⟨_, rfl, sa, ns, rfl, hs, hn, fun dr wa H1 s1 ndr nwa nwb hd1 => ?_⟩
    have hs1 : SqL K H1 sa (ns.map V.int) := SqL.keep (fun o h => s1 _ _ h) hs
    have mb := min_bd (((ns.map V.int).length : Nat) : Int) (by omega)
    refine ⟨_, rfl, _, _, rfl, .inl ⟨_, hs1, rfl⟩, _, _, rfl, _, _, rfl, rfl, _, rfl, ?_, ?_, ?_⟩
    · have := mb.1
      have := mb.2
      omega
    · have := mb.1
      have := mb.2
      omega
    refine for_it (walk_rangeA (n := (2 + if (6 : Int) < ((ns.map V.int).length : Nat) then (6 : Int) else ((ns.map V.int).length : Nat)).toNat)) (fun t st H' => (∃ o2 o3 o4 o5 o6 o7 o8 o9 o10 o11 o12 o13 o14 o15 o16 o17, st = [some (.ref sa), some (.ref dr), o2, o3, o4, o5, o6, o7, o8, o9, o10, o11, o12, o13, o14, o15, o16, o17, none]) ∧ Dw H' dr wa (1000 * t))
      ⟨⟨_, _, _, _, _, _, _, _, _, _, _, _, _, _, _, _, rfl⟩, hd1⟩ (fun _ _ _ _ _ => trivial) ?_ ?_
    · rintro t x st H2 H2' ht ⟨⟨o2, o3, o4, o5, o6, o7, o8, o9, o10, o11, o12, o13, o14, o15, o16, o17, rfl⟩, hd⟩ ⟨rfl, hx⟩
      obtain ⟨tv, _, rfl⟩ := int_at hx
      rw [List.length_map, rng_length] at ht
      have t8 : t ≤ 8 := by
        have := mb.2
        omega
      -- the draws
      refine ⟨_, rfl, dr, wa, 1000 * t, rfl, hd, by omega, fun fa ba fn Bf H3 bi nfa nba nfn f1 f2 f3 hd3 o3' => ?_⟩
      refine ⟨_, rfl, dr, wa, 1000 * t + 15, 3, rfl, hd3, by omega, by decide, by decide, fun r H4 r0 r1' hd4 o4' => ⟨_, _, rfl, rfl, ?_⟩⟩
      refine ⟨_, rfl, (show 2 ≤ sizeLine from by decide), fun l hl => pick_of (E := E0) ((["up", "down"] : List Str).map V.str) hl hd4 (by omega) (by decide) (by decide) fun x H5 hx5 hd5 o5' => ?_⟩
      obtain ⟨z, hz, rfl⟩ := str_of hx5
      obtain ⟨dn, rfl⟩ : ∃ dn, z = kindS dn := by
        simp only [List.mem_cons, List.not_mem_nil, or_false] at hz
        rcases hz with rfl | rfl
        · exact ⟨false, rfl⟩
        · exact ⟨true, rfl⟩
      obtain ⟨n, hn, n1, n40⟩ : ∃ n : Nat, 1 + r = (n : Int) ∧ 1 ≤ n ∧ n ≤ 40 := ⟨(1 + r).toNat, by omega, by omega, by omega⟩
      refine ⟨_, _, _, rfl, ?_⟩
      have qa := hd.ne nfa
      have qb := hd.ne nba
      have qn := hd.ne nfn
      have f1 := o5' _ _ (o4' _ _ f1 qa.1 qa.2.1) qa.1 qa.2.1
      have f2 := o5' _ _ (o4' _ _ f2 qb.1 qb.2.1) qb.1 qb.2.1
      have f3 := o5' _ _ (o4' _ _ f3 qn.1 qn.2.1) qn.1 qn.2.1
      -- the finish
      refine ⟨_, rfl, (show 2 ≤ sizeLine from by decide), fun l hl => pick_of (E := E0) ((["one", "link"] : List Str).map V.str) hl hd5 (by omega) (by decide) (by decide) fun x H6 hx6 hd6 o6' => ?_⟩
      obtain ⟨fi, hfi, rfl⟩ := str_of hx6
      have hfi : fi = "one" ∨ fi = "link" := by
        simp only [List.mem_cons, List.not_mem_nil, or_false] at hfi
        exact hfi
      have f1 := o6' _ _ f1 qa.1 qa.2.1
      have f2 := o6' _ _ f2 qb.1 qb.2.1
      have f3 := o6' _ _ f3 qn.1 qn.2.1
      refine ⟨_, rfl, fa, _, rfl, fset f1 (show 8 ≤ 1000 by decide) "finish" _, ?_⟩
      rw [fp_finish]
      have nbf : ba ≠ fa := ne_of f2 f1 (by intro z; cases z)
      have nnf : fn ≠ fa := ne_of f3 f1 (by intro z; cases z)
      have g1 : (upd H6 fa (.dK (fkv { Bf with finish := fi } ba fn))) fa = some (.dK (fkv { Bf with finish := fi } ba fn)) := upd_same
      have g2 : (upd H6 fa (.dK (fkv { Bf with finish := fi } ba fn))) ba = some (.lst (Bf.bars.map V.str)) := by rw [upd_ne nbf]; exact f2
      have g3 : (upd H6 fa (.dK (fkv { Bf with finish := fi } ba fn))) fn = some (.lst (Bf.notes.map V.str)) := by rw [upd_ne nnf]; exact f3
      have hd7 := hd6.upd qa (.dK (fkv { Bf with finish := fi } ba fn))
      generalize upd H6 fa (.dK (fkv { Bf with finish := fi } ba fn)) = H7 at g1 g2 g3 hd7 ⊢
      have bg : BookIn { Bf with finish := fi } := ⟨bi.up, bi.down, bi.writes, bi.moves, by
        show fi ∈ FINISHl
        unfold FINISHl
        rcases hfi with rfl | rfl <;> simp, bi.counts, bi.bars, bi.notes, bi.bn, bi.nn, bi.bl, bi.nl⟩
      have nbl : dn = true → Bf.down ≠ "blind" := fun _ e => by
        have := bi.down
        rw [e] at this
        revert this
        decide +kernel
      clear f1 f2 f3 o3' o4' o5' o6' hd3 hd4 hd5 hd6
      -- the yard, the sheet
      refine ⟨_, rfl, fa, ba, fn, { Bf with finish := fi }, rfl, g1, g2, g3, bg, fun bk bs nt H8 s8 nbk perm hbk => ?_⟩
      refine ⟨_, rfl, ?_⟩
      intro y dy ny ndy dne
      have up : ∀ {b : Addr} {o : HO}, H8 b = some o → (upd (upd H8 dy (.own y)) y (.ins CY dy [])) b = some o := fun h => by
        rw [upd_ne (ne_of_none h ny), upd_ne (ne_of_none h ndy)]
        exact h
      refine ⟨y, bk, dy, n, { Bf with finish := fi, bars := bs, notes := nt }, congrArg (fun z => [V.ref y, V.ref bk, V.int z]) hn, upd_same, hbk.same fun b o h => up h, n1, n40, fun A0 K0 L gy off0 lay hne yaf => ⟨rfl, ?_⟩⟩
      obtain ⟨B, hB⟩ : ∃ B : BookR, B = { Bf with finish := fi, bars := bs, notes := nt } := ⟨_, rfl⟩
      have s80 : Same H8 K0 := fun b o h => off0 b o (ne_of_none h ny) (up h)
      have old0 : ∀ {a : Addr} {o : HO}, H8 a = some o → tagOf ((y, 1) :: L) a = 0 := fun {a o} h => Classical.byContradiction fun w => by
        obtain ⟨u, hu⟩ := tag_mem w
        rcases List.mem_cons.mp hu with e | e
        · cases e
          rw [ny] at h
          cases h
        · have := lay.nw _ e
          rw [up h] at this
          cases this
      obtain ⟨db, fsb, hbi⟩ := hbk.ins
      have Y0 := yaf (fun p hp e => by
        rcases List.mem_cons.mp hp with h | h
        · rw [h] at e
          have e : y = bk := e
          rw [← e, ny] at hbi
          cases hbi
        · have := lay.nw _ h
          rw [e, up hbi] at this
          cases this) dn
      refine ⟨_, rfl, n, congrArg (fun z => [V.int z]) hn, n1, n40, fun p As H9 σ s9 sheet fresh => ?_⟩
      refine ⟨_, _, rfl, ?_⟩
      have s89 := Same.trans s80 s9
      have s79 := Same.trans s8 s89
      have sz : ∀ {a : Addr} {o : HO}, H8 a = some o → σ a = 0 := fun {a o} h => Classical.byContradiction fun w => by
        have := fresh a w
        rw [s80 _ _ h] at this
        cases this
      obtain ⟨⟨ld1, lg1⟩, ⟨ld2, lg2⟩, _⟩ := hd7.parts
      have L0 : LS CY CB CJ dn n bk B fa ba fn { Bf with finish := fi } dr wa (1000 * t + 15 + 1 + 1 + 1) H9 y A0 (tagOf ((y, 1) :: L)) (S0 n) D0 p As σ (S0 n) D0 := by
        refine ⟨Y0.same s9, sheet dn, fun a => ?_, hd7.same s79, by rw [hB]; exact hbk.same s89, s79 _ _ g1, s79 _ _ g2, s79 _ _ g3, ⟨old0 (s8 _ _ lg1), sz (s8 _ _ lg1)⟩, ⟨old0 (s8 _ _ lg2), sz (s8 _ _ lg2)⟩, ⟨old0 (s8 _ _ g1), sz (s8 _ _ g1)⟩, qa.1, qb.2.1, qn.2.1⟩
        by_cases e : σ a = 0
        · exact .inr e
        · exact .inl (not_tag Y0.re.live (fresh a e))
      have npd : p ≠ dr := fun e => by
        have := L0.sa.re.tp
        rw [e, L0.zd.2] at this
        cases this
      refine ⟨_, rfl, _, rfl, _, rfl, _, rfl, dn, n, bk, B, fa, ba, fn, { Bf with finish := fi }, dr, wa, _, y, A0, _, p, As, σ, rfl, L0, npd, n1, n40, by omega, fun Ay τ p As σ S D H10 L1 G _ => ?_⟩
      have pb : par B dn n = par { Bf with finish := fi } dn n := by rw [hB]; rfl
      have hfB : B.finish = "one" ∨ B.finish = "link" := by rw [hB]; exact hfi
      have anyB : ∀ f : Str → Bool, B.bars.any f = Bf.bars.any f := fun f => by rw [hB]; exact any_perm perm f
      clear L0 Y0 yaf lay off0 old0 sz fresh sheet up hbk hbi lg1 lg2 s79 s89 s80 s8 s9 g1 g2 g3
      have ok0 : S.ok ≠ [] := fun e => by
        have h1 := G.ok
        have h2 := G.ba.m0
        rw [e] at h1
        have := congrArg List.length h1
        rw [rng_length] at this
        simp at this
        omega
      -- jobs begin
      refine ⟨_, rfl, by decide, by decide, ?_⟩
      refine for_it (walk_rangeA (n := (12 : Int).toNat)) (fun i st H' => ∃ (o8 o9 : Option V) (p : Addr) (Ay : Ad) (τ : Addr → Int) (As : Ad) (σ : Addr → Int) (S : Vs) (D : Du), st = [some (.ref sa), some (.ref dr), some (.int tv), some (.ref fa), some ((fun i j => V.int (i + j)) 1 r), some (.str (kindS dn)), some (.ref y), some (.ref p), o8, o9, o10, o11, o12, o13, o14, o15, o16, o17, none] ∧
          LS CY CB CJ dn n bk B fa ba fn { Bf with finish := fi } dr wa (1000 * t + 118 + i) H' y Ay τ S D p As σ S D ∧ Beg (par B dn n) S D ∧ S.bg ≤ i ∧ S.ok ≠ [])
        ⟨o8, o9, p, Ay, τ, As, σ, S, D, rfl, L1, G.beg rfl, by rw [G.bg]; exact Nat.zero_le _, ok0⟩ (fun _ _ _ _ _ => trivial) ?_ ?_
      · rintro i x st H3 H3' hi ⟨o8, o9, p, Ay, τ, As, σ, S, D, rfl, L, G, hbg, ok0⟩ ⟨rfl, hx⟩
        obtain ⟨lap, _, rfl⟩ := int_at hx
        rw [List.length_map, rng_length] at hi
        have i12 : i < 12 := hi
        have BS := G.go.ba
        have BS : Base n S := BS
        obtain ⟨k1, R⟩ := id L.sa
        refine ⟨_, rfl, _, rfl, _, rfl, p, _, rfl, sk_owned k1, As.o, _, S.ok, rfl, .inl R.ho, dI_keys _ _, Nat.lt_of_le_of_lt (ok_len BS) (by decide), fun ys l hperm hsrt hl => ?_⟩
        have ey := sorted_eq hperm hsrt BS.os
        subst ey
        refine pick_of (E := E0) (S.ok.map V.int) hl L.dw (by omega) (by rw [List.length_map]; exact List.length_pos_iff.mpr ok0) (by rw [List.length_map]; exact Nat.le_trans (ok_len BS) (by decide)) fun x H5 hx5 hd5 o5' => ⟨(show 3 ≤ sizeLine from by decide), fun t3 ht3 => ?_⟩
        obtain ⟨x, hxo, rfl⟩ := List.mem_map.mp hx5
        have L5 := L.draw o5' hd5
        have s6 : Same H5 (upd H5 t3 (.tup [.str "begin", .str (kindS dn), .int x])) := Same.newS (Same.refl _) ht3
        have v6 : (upd H5 t3 (.tup [.str "begin", .str (kindS dn), .int x])) t3 = some (.tup [.str "begin", .str (kindS dn), .int x]) := upd_same
        generalize upd H5 t3 (.tup [.str "begin", .str (kindS dn), .int x]) = H6 at s6 v6 ⊢
        have L6 := L5.same s6
        obtain ⟨k6', R6⟩ := id L6.sa
        refine ⟨_, rfl, p, _, rfl, sk_jobs k6', As.j, _, rfl, R6.hj, ?_⟩
        rw [dI_length]
        refine ⟨_, _, rfl, rfl, _, rfl, ?_⟩
        have skip : ∀ {H7 : Hp}, Same H6 H7 → LS CY CB CJ dn n bk B fa ba fn { Bf with finish := fi } dr wa (1000 * t + 118 + (i + 1)) H7 y Ay τ S D p As σ S D := fun s => (L6.same s).mono (by omega)
        cases hjl : decide (((S.jk.length : Nat) : Int) < 3)
        · exact iteF (iteF ⟨_, _, p, Ay, τ, As, σ, S, D, rfl, skip (Same.refl _), G, by omega, ok0⟩)
        · refine iteT ⟨_, rfl, _, rfl, _, rfl, fa, p, t3, ba, fn, dn, n, As, S, D, σ, { Bf with finish := fi }, x, rfl, L6.sa, BS, v6, L6.f1, L6.f2, hxo, fun rr H7 s7 => ⟨false, rfl, iteF ⟨_, _, p, Ay, τ, As, σ, S, D, rfl, skip s7, G, by omega, ok0⟩⟩, fun l H7 hb hl hfr hbar s7 => ⟨true, rfl, iteT ?_⟩⟩
          have L7 := L6.same s7
          have v7 := s7 _ _ v6
          obtain ⟨⟨dx, h1⟩, Ry, b0⟩ := id L7.ya
          have hbB : barred B dn S x l = false := by
            rw [← hbar]
            unfold barred
            rw [anyB, anyB]
          refine ⟨_, rfl, y, dx, _, rfl, h1, by kernel_rfl, _, rfl, y, t3, rfl, .inr (.inr (.inr ⟨kindS dn, x, v7, y, bk, dn, n, Ay, S, D, τ, B, x, l, rfl, L7.ya, L7.bo, BS, hxo, hb, hl, hfr, hbB, fun jd H8 τ' Y8 kk gg => ?_⟩))⟩
          have L8 := L7.yard Y8 kk gg
          have v8 : H8 t3 = some (.tup [.str "begin", .str (kindS dn), .int x]) := kk _ _ v7 fun _ => isT_tup _
          refine ⟨_, rfl, _, rfl, _, rfl, fa, p, t3, dn, n, As, S, D, σ, beginS S x l, D, rfl, L8.sa, BS, n40, some_ne L8.f1, .inr (.inr (.inr (.inl ⟨x, l, v8, hxo, hb, rfl, rfl⟩))), fun rr p' v A' H9 σ' s9 hr9 Z9 fr9 => ⟨rr, _, 0, .ref p', rfl, rfl, SqT.of hr9, atI_nat (j := 0) rfl, ?_⟩⟩
          have L9 := L8.sheet Z9 s9 fr9
          have hx0 := BS.oi x hxo
          have hne : x ≠ l := fun e => by
            have := BS.bl x l hx0.1 hx0.2 hb
            omega
          exact ⟨_, _, p', _, τ', A', σ', beginS S x l, D, rfl, L9.mono (by omega), G.begin hxo hl hb hne hfr (by omega), by show S.bg + 1 ≤ i + 1; omega, ok0⟩
      rintro st H11 ⟨o8', o9', p, Ay, τ, As, σ, S, D, rfl, L, G, _, _⟩
      have G := G.go
      rw [List.length_map, rng_length] at L
      have L : LS CY CB CJ dn n bk B fa ba fn { Bf with finish := fi } dr wa (1000 * t + 118 + 12) H11 y Ay τ S D p As σ S D := L
      clear L1 hd hd7 ok0
      -- jobs step
      refine ⟨_, rfl, by decide, by decide, ?_⟩
      refine for_it (walk_rangeA (n := (12 : Int).toNat)) (fun i st H' => ∃ (o8 o9 o10 o11 o12 o13 o14 o15 o16 o17 : Option V) (p : Addr) (Ay : Ad) (τ : Addr → Int) (As : Ad) (σ : Addr → Int) (S : Vs) (D : Du), st = [some (.ref sa), some (.ref dr), some (.int tv), some (.ref fa), some ((fun i j => V.int (i + j)) 1 r), some (.str (kindS dn)), some (.ref y), some (.ref p), o8, o9, o10, o11, o12, o13, o14, o15, o16, o17, none] ∧
          LS CY CB CJ dn n bk B fa ba fn { Bf with finish := fi } dr wa (1000 * t + 130 + 2 * i) H' y Ay τ S D p As σ S D ∧ Good (par B dn n) S D)
        ⟨_, _, o10, o11, o12, o13, o14, o15, o16, o17, p, Ay, τ, As, σ, S, D, rfl, L, G⟩ (fun _ _ _ _ _ => trivial) ?_ ?_
      · rintro i x st H3 H3' hi ⟨o8, o9, o10, o11, o12, o13, o14, o15, o16, o17, p, Ay, τ, As, σ, S, D, rfl, L, G⟩ ⟨rfl, hx⟩
        obtain ⟨lap, _, rfl⟩ := int_at hx
        rw [List.length_map, rng_length] at hi
        have i12 : i < 12 := hi
        have BS : Base n S := G.ba
        obtain ⟨k1, R⟩ := id L.sa
        refine ⟨_, rfl, p, _, rfl, sk_jobs k1, As.j, _, S.jk, rfl, .inl R.hj, dI_keys _ _, Nat.lt_of_le_of_lt (jk_len BS) (by decide), fun ys l hperm hsrt hl => ?_⟩
        have ey := sorted_eq hperm hsrt BS.jn
        subst ey
        have nl := L.dw.ne hl
        have s4 : Same H3' (upd H3' l (.lst (S.jk.map V.int))) := Same.newS (Same.refl _) hl
        have v4 : (upd H3' l (.lst (S.jk.map V.int))) l = some (.lst (S.jk.map V.int)) := upd_same
        generalize upd H3' l (.lst (S.jk.map V.int)) = H4 at s4 v4 ⊢
        have L4 := L.same s4
        refine ⟨_, rfl, _, _, rfl, .inl ⟨_, SqL.of v4, rfl⟩, _, _, rfl, rfl, _, rfl, ?_⟩
        rw [List.length_map]
        by_cases h2 : ((S.jk.length : Nat) : Int) < 2
        · rw [decide_eq_true h2]
          exact iteT ⟨⟨_, _, _, _, _, _, _, _, _, _, _, _, _, _, _, _, rfl⟩, L4.dw.mono (by omega)⟩
        · rw [decide_eq_false h2]
          have h2 : 2 ≤ S.jk.length := by omega
          have j20 := jk_len BS
          refine iteF ⟨_, rfl, _, rfl, dr, wa, l, 1000 * t + 130 + 2 * i, _, rfl, L4.dw, by omega, v4, nl.2.1, by rw [List.length_map]; omega, by rw [List.length_map]; omega, fun x H5 hx5 hd5 o5' => ?_⟩
          obtain ⟨a, ha, rfl⟩ := List.mem_map.mp hx5
          have L5 := L4.draw o5' hd5
          have v5 := o5' _ _ v4 nl.1 nl.2.1
          refine ⟨_, rfl, _, rfl, l, rfl, ⟨_, SqL.of v5⟩, fun D1 hD1 => ?_⟩
          have nD := L5.dw.ne hD1
          refine lc_pick (walk_list (K := K) (a := l) (xs := S.jk.map V.int)) hD1 (fun v => !decide (v = V.int a)) (fun v => v) (by rw [List.length_map]; exact Nat.le_trans j20 (by decide)) (fun Hc sc => SqL.of (sc _ _ v5)) (fun x Hc hx sc Q' hq => ?_) (fun x Hc hx _ sc Q' hq => ⟨_, rfl, hq _ (Same.refl _)⟩) fun H6 s6 hD6 => ?_
          · obtain ⟨k, hk, rfl⟩ := List.mem_map.mp hx
            exact ⟨_, rfl, _, rfl, rfl, _, rfl, hq _ (Same.refl _)⟩
          have el : ((S.jk.map V.int).filter fun v => !decide (v = V.int a)).map (fun v => v) = (S.jk.filter fun y => decide (y ≠ a)).map V.int :=
            filt_int fun k _ => by
              rw [Bool.eq_iff_iff]
              simp
          rw [el] at hD6
          have L6 := L5.same s6
          have os := other_some BS.jn h2 a
          refine ⟨dr, wa, D1, 1000 * t + 130 + 2 * i + 1, _, rfl, L6.dw, by omega, hD6, nD.2.1, by rw [List.length_map]; exact os, by rw [List.length_map]; exact Nat.le_trans (List.length_filter_le _ _) (by omega), fun x H7 hx7 hd7 o7' => ?_⟩
          obtain ⟨b, hb, rfl⟩ := List.mem_map.mp hx7
          rw [List.mem_filter] at hb
          have hb1 := hb.1
          have hab : a ≠ b := fun e => (of_decide_eq_true hb.2) e.symm
          have L7 := L6.draw o7' hd7
          have Gf : Good (par { Bf with finish := fi } dn n) S D := by rw [← pb]; exact G
          -- later
          refine ⟨_, rfl, _, rfl, _, rfl, _, rfl, (show 2 ≤ sizeLine from by decide), fun t1 ht1 => ?_⟩
          have s8 : Same H7 (upd H7 t1 (.tup [.str "step", .int a])) := Same.newS (Same.refl _) ht1
          have v8 : (upd H7 t1 (.tup [.str "step", .int a])) t1 = some (.tup [.str "step", .int a]) := upd_same
          generalize upd H7 t1 (.tup [.str "step", .int a]) = H8 at s8 v8 ⊢
          have L8 := L7.same s8
          refine ⟨fa, p, t1, dn, n, As, S, D, σ, _, _, rfl, L8.sa, BS, n40, some_ne L8.f1, .inr (.inr (.inr (.inr ⟨ba, fn, { Bf with finish := fi }, a, v8, L8.f1, L8.f2, L8.f3, hfi, nbl, ha, Gf, rfl, rfl⟩))), fun r1' p1 v1 A1 H9 σ1 s9 hr9 Z9 fr9 => ⟨r1', _, 0, .ref p1, rfl, rfl, SqT.of hr9, atI_nat (j := 0) rfl, ?_⟩⟩
          rw [← pb] at Z9
          have L9 := L8.same s9
          have Ga := G.step ha
          have Gfa : Good (par { Bf with finish := fi } dn n) (stepS (par B dn n) S a) (stepD (par B dn n) S D a) := by rw [← pb]; exact Ga
          have hb2 : b ∈ (stepS (par B dn n) S a).jk := step_jk (Ne.symm hab) hb1
          refine ⟨_, rfl, (show 2 ≤ sizeLine from by decide), fun t2 ht2 => ?_⟩
          have s10 : Same H9 (upd H9 t2 (.tup [.str "step", .int b])) := Same.newS (Same.refl _) ht2
          have v10 : (upd H9 t2 (.tup [.str "step", .int b])) t2 = some (.tup [.str "step", .int b]) := upd_same
          generalize upd H9 t2 (.tup [.str "step", .int b]) = H10 at s10 v10 ⊢
          have L10 := L9.same s10
          have Z10 := Z9.same s10
          refine ⟨fa, p1, t2, dn, n, A1, _, _, σ1, _, _, rfl, Z10, Ga.ba, n40, some_ne L10.f1, .inr (.inr (.inr (.inr ⟨ba, fn, { Bf with finish := fi }, b, v10, L10.f1, L10.f2, L10.f3, hfi, nbl, hb2, Gfa, rfl, rfl⟩))), fun r2' p2 v2 A2 H11 σ2 s11 hr11 Z11 fr11 => ⟨r2', _, 0, .ref p2, rfl, rfl, SqT.of hr11, atI_nat (j := 0) rfl, ?_⟩⟩
          rw [← pb] at Z11
          have L11 := L10.same s11
          -- exchanged
          refine ⟨_, rfl, _, rfl, _, rfl, y, bk, dn, n, Ay, S, D, τ, B, a, b, rfl, L11.ya, L11.bo, hfB, ha, hb1, hab, G, n1, n40, fun rr y1 y2 w1 w2 B1 B2 τ1 τ2 H12 s12 hr12 hw1 hw2 Y1 Y2 => ⟨rr, _, rfl, SqT.of hr12, rfl, _, _, rfl, _, _, rfl, _, _, rfl, _, _, rfl, rfl, ?_⟩⟩
          have L12 := L11.same s12
          have Z12 := Z11.same s12
          rw [← G.comm ha hb1 hab] at Y2
          have G12 := Ga.step hb2
          have G21 : Good (par B dn n) (stepS (par B dn n) (stepS (par B dn n) S a) b) (stepD (par B dn n) (stepS (par B dn n) S b) (stepD (par B dn n) S D b) a) := by
            rw [G.comm ha hb1 hab]
            exact (G.step hb1).step (step_jk hab ha)
          refine ⟨_, rfl, _, rfl, _, _, .lst (SqL.of hw1) (dpAll_strs K _ [wordS (wordOf (par B dn n) (S.jo a)), wordS (wordOf (par B dn n) (S.jo b))]), .lst (SqL.of hw2) (dpAll_strs K _ [wordS (wordOf (par B dn n) (S.jo a)), wordS (wordOf (par B dn n) (S.jo b))]), words_shaped _ _, words_shaped _ _, _, rfl, ?_⟩
          rw [words_eqv]
          refine iteF ⟨_, rfl, _, rfl, y1, bk, p2, dn, n, B1, A2, _, _, _, τ1, σ2, B, rfl, Y1, Z12, G12, n40, fun H13 s13 => ⟨true, rfl, iteF ⟨_, rfl, _, rfl, y2, bk, p2, dn, n, B2, A2, _, _, _, τ2, σ2, B, rfl, Y2.same s13, Z12.same s13, G21, n40, fun H14 s14 => ⟨true, rfl, iteF ?_⟩⟩⟩⟩
          have L14 := (L12.same s13).same s14
          -- the step
          obtain ⟨⟨dx, h1⟩, Ry, b0⟩ := id L14.ya
          refine ⟨_, rfl, y, dx, _, rfl, h1, by kernel_rfl, _, rfl, y, bk, dn, n, Ay, S, D, τ, B, a, rfl, L14.ya, L14.bo, hfB, ha, G, n40, fun dd H15 Y15 k15 => ?_⟩
          have L15 := L14.yard Y15 k15 (Gw.refl τ H14)
          refine ⟨_, rfl, _, rfl, _, rfl, (show 2 ≤ sizeLine from by decide), fun t3 ht3 => ?_⟩
          have s16 : Same H15 (upd H15 t3 (.tup [.str "step", .int a])) := Same.newS (Same.refl _) ht3
          have v16 : (upd H15 t3 (.tup [.str "step", .int a])) t3 = some (.tup [.str "step", .int a]) := upd_same
          generalize upd H15 t3 (.tup [.str "step", .int a]) = H16 at s16 v16 ⊢
          have L16 := L15.same s16
          refine ⟨fa, p, t3, dn, n, As, S, D, σ, _, _, rfl, L16.sa, BS, n40, some_ne L16.f1, .inr (.inr (.inr (.inr ⟨ba, fn, { Bf with finish := fi }, a, v16, L16.f1, L16.f2, L16.f3, hfi, nbl, ha, Gf, rfl, rfl⟩))), fun r3' p3 v3 A3 H17 σ3 s17 hr17 Z17 fr17 => ⟨r3', _, 0, .ref p3, rfl, rfl, SqT.of hr17, atI_nat (j := 0) rfl, ?_⟩⟩
          rw [← pb] at Z17
          exact ⟨_, _, _, _, _, _, _, _, _, _, p3, _, τ, A3, σ3, _, _, rfl, (L16.sheet Z17 s17 fr17).mono (by omega), Ga⟩
      · rintro st H3 ⟨o8, o9, o10, o11, o12, o13, o14, o15, o16, o17, p, Ay, τ, As, σ, S, D, rfl, L, G⟩
        rw [List.length_map, rng_length] at L
        have L : LS CY CB CJ dn n bk B fa ba fn { Bf with finish := fi } dr wa (1000 * t + 130 + 2 * 12) H3 y Ay τ S D p As σ S D := L
        exact ⟨⟨_, _, _, _, _, _, _, _, _, _, _, _, _, _, _, _, rfl⟩, L.dw.mono (by omega)⟩
    · rintro st H2 ⟨⟨o2, o3, o4, o5, o6, o7, o8, o9, o10, o11, o12, o13, o14, o15, o16, o17, rfl⟩, hd⟩
      exact q H2
end
end K20W
end
/-! HG1 -/
section
set_option Elab.async false
set_option linter.all false
set_option maxRecDepth 100000
set_option maxHeartbeats 4000000
/-! The end of a law whose promise wants the repr guards empty. -/
namespace K20W
open PySem PySem.Spec PyProof.Rows L2 K20
theorem law_callG {P : Program} {w : World} {K : PySem.W.Frag} {mg mb : Str → Option Value} {k : Nat} {fa a : Addr} {fd : FuncData} {x : Str} {sp : Sp} {s₁ : Shared} {vs : List Value} {ns : List Int}
    (KX : K.In s₁.heap) (hns : s₁.heap.Ns mainGlobals mg) (hb : s₁.heap.Ns builtinsNs mb) (hbb : ∀ x : Str, x ≠ "__name__" → mb x = bootBuiltins x) (hlim : s₁.heap.NoLimit) (hg : s₁.gens = #[])
    (ha : s₁.heap.get? a = some { cls := .type "list", data := .seq vs.toArray }) (hi : IntsAre vs ns) (hl : ns.length ≤ sizeLine) (hr : Room k callerA)
    (F : ∀ base : Heap, K.In base → base.Ns mainGlobals mg → FnOkG P w K mg base CX0 k fa fd [x] sp) (hbind : ∀ (s : Shared) (u : Value), BindsTo s fd ⟨[u], []⟩ [(x, u)])
    (hsp : ∀ H : Hp, SqL K H a (ns.map V.int) → sp [.ref a] H (fun v _ => v = .bl true) fun _ _ _ => False) :
    codeAny (model P w) callerA (.call (.ref fa) ⟨[.ref a], []⟩) (fun r s' => r = .ok (.ret (.bool true)) ∧ OldK s₁.heap s'.heap ∧ s'.os = s₁.os ∧ AllBare s'.gens) s₁ := by
  have rv := vals_ints hi
  have core : ∀ H : Hp, Only H → SqL K H a (ns.map V.int) → HOk P w H s₁.heap → (∀ b, H b ≠ none → b = a) → (H a ≠ none → K.lookup a = none) →
      codeAny (model P w) callerA (.call (.ref fa) ⟨[.ref a], []⟩) (fun r s' => r = .ok (.ret (.bool true)) ∧ OldK s₁.heap s'.heap ∧ s'.os = s₁.os ∧ AllBare s'.gens) s₁ := by
    intro H hO hS hok hA hK
    have eqa : ∀ {b : Addr}, (∃ u, H b = some u) → b = a := fun ⟨u, q⟩ => hA _ (by rw [q]; simp)
    have old : ∀ {b : Addr} {o : Obj}, s₁.heap.get? b = some o → H b = none → (hidT s₁.heap H).get? b = some o := fun e n => hidT_get e n
    have noA : ∀ {b : Addr} {o : Obj} {es : Array DictEntry} {ep : Nat}, s₁.heap.get? b = some o → o.data = .dict es ep → H b = none := by
      intro b o es ep e d
      cases q : H b with
      | none => rfl
      | some u =>
        rw [eqa ⟨u, q⟩, ha] at e
        cases e
        cases (show Data.seq vs.toArray _ = Data.dict es ep from d)
    have nsK : ∀ {b : Addr} {m : Str → Option Value}, s₁.heap.Ns b m → (hidT s₁.heap H).Ns b m := fun {b m} ⟨o, es, ep, e, d, r⟩ => ⟨o, es, ep, old e (noA e d), d, r⟩
    have hKb : K.In (hidT s₁.heap H) := by
      intro b o e
      refine old (KX b o e) ?_
      cases q : H b with
      | none => rfl
      | some u =>
        have e' : b = a := eqa ⟨u, q⟩
        subst e'
        rw [hK (by rw [q]; simp)] at e
        cases e
    have hM : Mod K mg (hidT s₁.heap H) := ⟨hKb, nsK hns, ⟨mb, nsK hb, hbb⟩, let ⟨mc, h1, h2⟩ := hlim; ⟨mc, nsK h1, h2⟩⟩
    have e0 : Env0 P w K mg (hidT s₁.heap H) callerA [] s₁ H := ⟨rfl, hM, fun b o e => of_hidT e, Nat.le_of_eq (hidT_size _ _), trivial, fun b hb => absurd (show b ∈ ([] : List Addr) from hb) (by simp), hok, .of_eq hg⟩
    have run := (F _ hKb (nsK hns)).go callerA [] s₁ H ⟨[.ref a], []⟩ [.ref a] [.ref a] (fun v _ => v = .bl true) (fun _ _ _ => False) rfl hr e0 (hbind s₁ (.ref a)) (.cons rfl .nil) (hsp H hS)
    refine codeAny_mono run fun r s' h => ?_
    match r, h with
    | .error e, h => exact (show False from h).elim
    | .ok .next, h => exact (show False from h).elim
    | .ok .brk, h => exact (show False from h).elim
    | .ok .cont, h => exact (show False from h).elim
    | .ok (.ret u), ⟨v, H', os, bare, un, hok', r', q⟩ =>
      have q' : v = .bl true := q
      subst q'
      obtain rfl : u = Value.bool true := r'
      refine ⟨rfl, OldK.of_keep fun b o e => ?_, os, bare⟩
      cases q : H b with
      | none => exact un.keep b o e q (by intro z; exact absurd (show b ∈ ([] : List Addr) from z) (by simp)) (by simp)
      | some u =>
        rcases hO b with z | ⟨ob, xs, z⟩
        · rw [q] at z
          cases z
        · obtain ⟨e1, _⟩ := hok b _ z
          obtain ⟨e2, _⟩ := hok' b _ (un.frzs b ob _ z)
          rw [e] at e1
          cases e1
          exact e2
  by_cases hk : ∃ o, K.lookup a = some o
  · obtain ⟨o, hk⟩ := hk
    have e := KX a o hk
    rw [ha] at e
    cases e
    refine core (fun _ => none) (fun _ => .inl rfl) (.inr ⟨_, vs.toArray, _, hk, rfl, rfl, rfl, ?_, ?_⟩) (fun b u z => nomatch (show (none : Option HO) = some u from z)) (fun b z => absurd rfl z) fun z => absurd rfl z
    · rw [List.size_toArray, hi.length]
      exact hl
    · simpa using rv
  · have hk : K.lookup a = none := by
      cases e : K.lookup a with
      | none => rfl
      | some o => exact (hk ⟨o, e⟩).elim
    have at_ : ∀ {b : Addr} {u : HO}, (if b = a then some (HO.frz { cls := .type "list", data := .seq vs.toArray } (.lst (ns.map V.int))) else none) = some u → b = a ∧ u = .frz { cls := .type "list", data := .seq vs.toArray } (.lst (ns.map V.int)) := by
      intro b u z
      by_cases e : b = a
      · rw [if_pos e] at z
        exact ⟨e, (Option.some.inj z).symm⟩
      · rw [if_neg e] at z
        cases z
    refine core (fun b => if b = a then some (.frz { cls := .type "list", data := .seq vs.toArray } (.lst (ns.map V.int))) else none) (fun b => ?_) (.inl (.inr ⟨_, if_pos rfl⟩)) (fun b u z => ?_) (fun b z => ?_) fun _ => hk
    · by_cases e : b = a
      · exact .inr ⟨_, _, if_pos e⟩
      · exact .inl (if_neg e)
    · obtain ⟨e, e2⟩ := at_ z
      subst e e2
      exact ⟨ha, by rw [List.length_map]; exact hl, vs, _, rv, ha⟩
    · by_cases e : b = a
      · exact e
      · exact absurd (if_neg e) z
theorem walk_ofG {l : PySem.W.OpenLaw} {n k : Nat} {q : Program} {loose : List Str} {XP : (Str → Option Value) → Heap → Prop} {YP : World → Heap → Prop} {d : DefRec} {x : Str}
    (hn : l.most = some n) (hn2 : n ≤ sizeLine) (hdf : d.params.defaults = []) (hr : Room k callerA)
    (F : ∀ (w : World) (mg : Str → Option Value) (fa : Addr) (h : Heap), YP w h → h.Ns mainGlobals mg → mg d.name = some (.ref fa) →
      ∃ (K : PySem.W.Frag) (fd : FuncData) (sp : Sp), K.In h ∧ (∀ (s : Shared) (u : Value), BindsTo s fd ⟨[u], []⟩ [(x, u)]) ∧
        (∀ (H : Hp) (a : Addr) (ns : List Int), ns.length ≤ n → SqL K H a (ns.map V.int) → sp [.ref a] H (fun v _ => v = .bl true) fun _ _ _ => False) ∧
        ∀ base : Heap, K.In base → base.Ns mainGlobals mg → FnOkG l.prog w K mg base CX0 k fa fd [x] sp) :
    PySem.W.WalkO q loose XP YP l.row.toRowW d [] (fun f vs => PySem.call f vs) := by
  refine Att.attach_call hn hdf fun w s₀ s₁ mg mb fa o pm cd doc a vs ns G Y ho hd hcd hmg hobj hints hlen hg => ?_
  obtain ⟨K, fd, sp, KX, hb, hsp, hF⟩ := F w mg fa _ Y G.T.g hmg
  exact law_callG KX G.T.g G.T.b G.T.builtins G.T.nolimit hg hobj hints (Nat.le_trans hlen hn2) hr hF hb fun H hS => hsp H a ns hlen hS
end K20W
end
/-! HG2 -/
section
set_option Elab.async false
set_option linter.all false
set_option maxRecDepth 100000
set_option maxHeartbeats 4000000
/-! The law's promise out of the head's facts. -/
namespace K20W
open PySem PySem.Spec PyProof.Rows L2 K20
theorem insB_ok {K : PySem.W.Frag} {x : Str} (cl : Cls K (He.ga K x)) (h : insB K x = true) : C8.InsC K (He.ga K x) := by
  obtain ⟨a, h⟩ := He.ba h
  obtain ⟨b, h⟩ := He.ba h
  obtain ⟨c, h⟩ := He.ba h
  obtain ⟨d, e⟩ := He.ba h
  exact ⟨cl, He.eqO_ok a, He.eqO_ok b, of_decide_eq_true c, of_decide_eq_true d, of_decide_eq_true e⟩
theorem parts_of {K : PySem.W.Frag} {w : World} {mg : Str → Option Value} (gm : mg "PARTS" = some (.ref (He.ga K "PARTS"))) (t : ∃ es n, KDict K w (He.ga K "PARTS") es n) (v : He.valsB K (He.ga K "PARTS") partsK = true) : Parts K w mg := by
  obtain ⟨es, n, t⟩ := t
  refine ⟨_, es, n, gm, t, fun z hz => ?_⟩
  rcases hz with rfl | rfl | rfl | rfl
  · exact He.valsB_ok v (q := ("write", .int 4)) (by simp [partsK])
  · exact He.valsB_ok v (q := ("cover", .int 2)) (by simp [partsK])
  · exact He.valsB_ok v (q := ("branch", .int 2)) (by simp [partsK])
  · exact He.valsB_ok v (q := ("begin", .int 3)) (by simp [partsK])
theorem facts {P : Program} {w : World} {K : PySem.W.Frag} {h : Heap} {mg : Str → Option Value} {f : Addr} (X : K.In h) (N : h.Ns mainGlobals mg) (hf : mg ("law" : Str) = some (.ref f)) (c : SaysM hfa hfn hts hps hex w K) :
    ∃ fd : FuncData, (∀ (s : Shared) (v : Value), BindsTo s fd ⟨[v], []⟩ [("_law_script", v)]) ∧ ∀ base : Heap, K.In base → base.Ns mainGlobals mg → FnOkG P w K mg base CX0 25 f fd ["_law_script"] (spLaw K) := by
  have D := c.t.d
  obtain ⟨fd_isnum, F_isnum⟩ := D.def_ 0 (d := d_isnum) rfl
  obtain ⟨fd_iskind, F_iskind⟩ := D.def_ 1 (d := d_iskind) rfl
  obtain ⟨fd_needkind, F_needkind⟩ := D.def_ 2 (d := d_needkind) rfl
  obtain ⟨fd_needbook, F_needbook⟩ := D.def_ 3 (d := d_needbook) rfl
  obtain ⟨fd_needword, F_needword⟩ := D.def_ 4 (d := d_needword) rfl
  obtain ⟨fd_needwords, F_needwords⟩ := D.def_ 5 (d := d_needwords) rfl
  obtain ⟨fd_twofold, F_twofold⟩ := D.def_ 6 (d := d_twofold) rfl
  obtain ⟨fd_looked, F_looked⟩ := D.def_ 7 (d := d_looked) rfl
  obtain ⟨fd_give, F_give⟩ := D.def_ 8 (d := d_give) rfl
  obtain ⟨fd_copyon, F_copyon⟩ := D.def_ 9 (d := d_copyon) rfl
  obtain ⟨fd_isdeed, F_isdeed⟩ := D.def_ 10 (d := d_isdeed) rfl
  obtain ⟨fd_answered, F_answered⟩ := D.def_ 11 (d := d_answered) rfl
  obtain ⟨fd_binit, F_binit⟩ := D.def_ 12 (d := d_binit) rfl
  obtain ⟨fd_j___init__, F_j___init__⟩ := D.def_ 13 (d := d_j___init__) rfl
  obtain ⟨fd_j_twin, F_j_twin⟩ := D.def_ 14 (d := d_j_twin) rfl
  obtain ⟨fd_j_next_cell, F_j_next_cell⟩ := D.def_ 15 (d := d_j_next_cell) rfl
  obtain ⟨fd_j_copied, F_j_copied⟩ := D.def_ 16 (d := d_j_copied) rfl
  obtain ⟨fd_y___init__, F_y___init__⟩ := D.def_ 17 (d := d_y___init__) rfl
  obtain ⟨fd_y_need_writer, F_y_need_writer⟩ := D.def_ 18 (d := d_y_need_writer) rfl
  obtain ⟨fd_y_need_cell, F_y_need_cell⟩ := D.def_ 19 (d := d_y_need_cell) rfl
  obtain ⟨fd_y_need_layer, F_y_need_layer⟩ := D.def_ 20 (d := d_y_need_layer) rfl
  obtain ⟨fd_y_seat_of, F_y_seat_of⟩ := D.def_ 21 (d := d_y_seat_of) rfl
  obtain ⟨fd_y_is_open, F_y_is_open⟩ := D.def_ 22 (d := d_y_is_open) rfl
  obtain ⟨fd_y_above, F_y_above⟩ := D.def_ 23 (d := d_y_above) rfl
  obtain ⟨fd_y_uppers, F_y_uppers⟩ := D.def_ 24 (d := d_y_uppers) rfl
  obtain ⟨fd_y_lowers, F_y_lowers⟩ := D.def_ 25 (d := d_y_lowers) rfl
  obtain ⟨fd_y_put_on, F_y_put_on⟩ := D.def_ 26 (d := d_y_put_on) rfl
  obtain ⟨fd_y_merging, F_y_merging⟩ := D.def_ 27 (d := d_y_merging) rfl
  obtain ⟨fd_y_write, F_y_write⟩ := D.def_ 28 (d := d_y_write) rfl
  obtain ⟨fd_y_cover, F_y_cover⟩ := D.def_ 29 (d := d_y_cover) rfl
  obtain ⟨fd_y_branch, F_y_branch⟩ := D.def_ 30 (d := d_y_branch) rfl
  obtain ⟨fd_y_begin, F_y_begin⟩ := D.def_ 31 (d := d_y_begin) rfl
  obtain ⟨fd_y_step, F_y_step⟩ := D.def_ 32 (d := d_y_step) rfl
  obtain ⟨fd_y_finish_word, F_y_finish_word⟩ := D.def_ 33 (d := d_y_finish_word) rfl
  obtain ⟨fd_y_link, F_y_link⟩ := D.def_ 34 (d := d_y_link) rfl
  obtain ⟨fd_y_cut, F_y_cut⟩ := D.def_ 35 (d := d_y_cut) rfl
  obtain ⟨fd_y_do, F_y_do⟩ := D.def_ 36 (d := d_y_do) rfl
  obtain ⟨fd_y_shown, F_y_shown⟩ := D.def_ 37 (d := d_y_shown) rfl
  obtain ⟨fd_y_contents, F_y_contents⟩ := D.def_ 38 (d := d_y_contents) rfl
  obtain ⟨fd_y_wrong, F_y_wrong⟩ := D.def_ 39 (d := d_y_wrong) rfl
  obtain ⟨fd_y_copy, F_y_copy⟩ := D.def_ 40 (d := d_y_copy) rfl
  obtain ⟨fd_l_begun, F_l_begun⟩ := D.def_ 41 (d := d_l_begun) rfl
  obtain ⟨fd_l_mixed, F_l_mixed⟩ := D.def_ 42 (d := d_l_mixed) rfl
  obtain ⟨fd_l_take, F_l_take⟩ := D.def_ 43 (d := d_l_take) rfl
  obtain ⟨fd_l_pick, F_l_pick⟩ := D.def_ 44 (d := d_l_pick) rfl
  obtain ⟨fd_l_is_number, F_l_is_number⟩ := D.def_ 45 (d := d_l_is_number) rfl
  obtain ⟨fd_l_drawn_fields, F_l_drawn_fields⟩ := D.def_ 46 (d := d_l_drawn_fields) rfl
  obtain ⟨fd_l_book, F_l_book⟩ := D.def_ 47 (d := d_l_book) rfl
  obtain ⟨fd_l_new_sheet, F_l_new_sheet⟩ := D.def_ 48 (d := d_l_new_sheet) rfl
  obtain ⟨fd_l_copy_of, F_l_copy_of⟩ := D.def_ 49 (d := d_l_copy_of) rfl
  obtain ⟨fd_l_shown, F_l_shown⟩ := D.def_ 50 (d := d_l_shown) rfl
  obtain ⟨fd_l_wrong, F_l_wrong⟩ := D.def_ 51 (d := d_l_wrong) rfl
  obtain ⟨fd_l_above, F_l_above⟩ := D.def_ 52 (d := d_l_above) rfl
  obtain ⟨fd_l_is_open, F_l_is_open⟩ := D.def_ 53 (d := d_l_is_open) rfl
  obtain ⟨fd_l_has, F_l_has⟩ := D.def_ 54 (d := d_l_has) rfl
  obtain ⟨fd_l_layer_refusal, F_l_layer_refusal⟩ := D.def_ 55 (d := d_l_layer_refusal) rfl
  obtain ⟨fd_l_refusal, F_l_refusal⟩ := D.def_ 56 (d := d_l_refusal) rfl
  obtain ⟨fd_l_merging, F_l_merging⟩ := D.def_ 57 (d := d_l_merging) rfl
  obtain ⟨fd_l_put_on, F_l_put_on⟩ := D.def_ 58 (d := d_l_put_on) rfl
  obtain ⟨fd_l_written, F_l_written⟩ := D.def_ 59 (d := d_l_written) rfl
  obtain ⟨fd_l_copied, F_l_copied⟩ := D.def_ 60 (d := d_l_copied) rfl
  obtain ⟨fd_l_linked, F_l_linked⟩ := D.def_ 61 (d := d_l_linked) rfl
  obtain ⟨fd_l_cut, F_l_cut⟩ := D.def_ 62 (d := d_l_cut) rfl
  obtain ⟨fd_l_stepped, F_l_stepped⟩ := D.def_ 63 (d := d_l_stepped) rfl
  obtain ⟨fd_l_begins, F_l_begins⟩ := D.def_ 64 (d := d_l_begins) rfl
  obtain ⟨fd_l_done, F_l_done⟩ := D.def_ 65 (d := d_l_done) rfl
  obtain ⟨fd_l_shows, F_l_shows⟩ := D.def_ 66 (d := d_l_shows) rfl
  obtain ⟨fd_l_grown, F_l_grown⟩ := D.def_ 67 (d := d_l_grown) rfl
  obtain ⟨fd_l_exchanged, F_l_exchanged⟩ := D.def_ 68 (d := d_l_exchanged) rfl
  obtain ⟨fd_law, F_law⟩ := D.def_ 69 (d := d_law) rfl
  obtain ⟨Q_Book_up, fd_Book_up, F_Book_up⟩ := c.pr p_Book_up (List.mem_of_getElem? (i := 0) rfl)
  obtain ⟨Q_Book_down, fd_Book_down, F_Book_down⟩ := c.pr p_Book_down (List.mem_of_getElem? (i := 1) rfl)
  obtain ⟨Q_Book_moves, fd_Book_moves, F_Book_moves⟩ := c.pr p_Book_moves (List.mem_of_getElem? (i := 2) rfl)
  obtain ⟨Q_Book_finish, fd_Book_finish, F_Book_finish⟩ := c.pr p_Book_finish (List.mem_of_getElem? (i := 3) rfl)
  obtain ⟨Q_Book_counts, fd_Book_counts, F_Book_counts⟩ := c.pr p_Book_counts (List.mem_of_getElem? (i := 4) rfl)
  obtain ⟨Q_Book_bars, fd_Book_bars, F_Book_bars⟩ := c.pr p_Book_bars (List.mem_of_getElem? (i := 5) rfl)
  obtain ⟨Q_Yard_cells, fd_Yard_cells, F_Yard_cells⟩ := c.pr p_Yard_cells (List.mem_of_getElem? (i := 6) rfl)
  obtain ⟨Q_Yard_layers, fd_Yard_layers, F_Yard_layers⟩ := c.pr p_Yard_layers (List.mem_of_getElem? (i := 7) rfl)
  obtain ⟨Q_Yard_writers, fd_Yard_writers, F_Yard_writers⟩ := c.pr p_Yard_writers (List.mem_of_getElem? (i := 8) rfl)
  obtain ⟨Q_Yard_jobs, fd_Yard_jobs, F_Yard_jobs⟩ := c.pr p_Yard_jobs (List.mem_of_getElem? (i := 9) rfl)
  obtain ⟨x0, y0⟩ := He.ba (show hex K = true from c.ex)
  obtain ⟨x1, y1⟩ := He.ba y0
  obtain ⟨x2, y2⟩ := He.ba y1
  obtain ⟨x3, y3⟩ := He.ba y2
  obtain ⟨x4, y4⟩ := He.ba y3
  obtain ⟨x5, y5⟩ := He.ba y4
  obtain ⟨x6, y6⟩ := He.ba y5
  obtain ⟨x7, y7⟩ := He.ba y6
  obtain ⟨x8, y8⟩ := He.ba y7
  obtain ⟨x9, y9⟩ := He.ba y8
  obtain ⟨x10, y10⟩ := He.ba y9
  have g_isnum := He.glo_ok X N (D.fact 0 (f := .glo "is_number") rfl)
  have g_iskind := He.glo_ok X N (D.fact 1 (f := .glo "is_kind") rfl)
  have g_needkind := He.glo_ok X N (D.fact 2 (f := .glo "need_kind") rfl)
  have g_needbook := He.glo_ok X N (D.fact 3 (f := .glo "need_book") rfl)
  have g_needword := He.glo_ok X N (D.fact 4 (f := .glo "need_word") rfl)
  have g_needwords := He.glo_ok X N (D.fact 5 (f := .glo "need_words") rfl)
  have g_twofold := He.glo_ok X N (D.fact 6 (f := .glo "is_twofold") rfl)
  have g_looked := He.glo_ok X N (D.fact 7 (f := .glo "looked") rfl)
  have g_give := He.glo_ok X N (D.fact 8 (f := .glo "give") rfl)
  have g_copyon := He.glo_ok X N (D.fact 9 (f := .glo "copy_on") rfl)
  have g_isdeed := He.glo_ok X N (D.fact 10 (f := .glo "is_deed") rfl)
  have g_answered := He.glo_ok X N (D.fact 11 (f := .glo "answered") rfl)
  have g_l_begun := He.glo_ok X N (D.fact 12 (f := .glo "_law_begun") rfl)
  have g_l_mixed := He.glo_ok X N (D.fact 13 (f := .glo "_law_mixed") rfl)
  have g_l_take := He.glo_ok X N (D.fact 14 (f := .glo "_law_take") rfl)
  have g_l_pick := He.glo_ok X N (D.fact 15 (f := .glo "_law_pick") rfl)
  have g_l_is_number := He.glo_ok X N (D.fact 16 (f := .glo "_law_is_number") rfl)
  have g_l_drawn_fields := He.glo_ok X N (D.fact 17 (f := .glo "_law_drawn_fields") rfl)
  have g_l_book := He.glo_ok X N (D.fact 18 (f := .glo "_law_book") rfl)
  have g_l_new_sheet := He.glo_ok X N (D.fact 19 (f := .glo "_law_new_sheet") rfl)
  have g_l_copy_of := He.glo_ok X N (D.fact 20 (f := .glo "_law_copy_of") rfl)
  have g_l_shown := He.glo_ok X N (D.fact 21 (f := .glo "_law_shown") rfl)
  have g_l_wrong := He.glo_ok X N (D.fact 22 (f := .glo "_law_wrong") rfl)
  have g_l_above := He.glo_ok X N (D.fact 23 (f := .glo "_law_above") rfl)
  have g_l_is_open := He.glo_ok X N (D.fact 24 (f := .glo "_law_is_open") rfl)
  have g_l_has := He.glo_ok X N (D.fact 25 (f := .glo "_law_has") rfl)
  have g_l_layer_refusal := He.glo_ok X N (D.fact 26 (f := .glo "_law_layer_refusal") rfl)
  have g_l_refusal := He.glo_ok X N (D.fact 27 (f := .glo "_law_refusal") rfl)
  have g_l_merging := He.glo_ok X N (D.fact 28 (f := .glo "_law_merging") rfl)
  have g_l_put_on := He.glo_ok X N (D.fact 29 (f := .glo "_law_put_on") rfl)
  have g_l_written := He.glo_ok X N (D.fact 30 (f := .glo "_law_written") rfl)
  have g_l_copied := He.glo_ok X N (D.fact 31 (f := .glo "_law_copied") rfl)
  have g_l_linked := He.glo_ok X N (D.fact 32 (f := .glo "_law_linked") rfl)
  have g_l_cut := He.glo_ok X N (D.fact 33 (f := .glo "_law_cut") rfl)
  have g_l_stepped := He.glo_ok X N (D.fact 34 (f := .glo "_law_stepped") rfl)
  have g_l_begins := He.glo_ok X N (D.fact 35 (f := .glo "_law_begins") rfl)
  have g_l_done := He.glo_ok X N (D.fact 36 (f := .glo "_law_done") rfl)
  have g_l_shows := He.glo_ok X N (D.fact 37 (f := .glo "_law_shows") rfl)
  have g_l_grown := He.glo_ok X N (D.fact 38 (f := .glo "_law_grown") rfl)
  have g_l_exchanged := He.glo_ok X N (D.fact 39 (f := .glo "_law_exchanged") rfl)
  have g_law := He.glo_ok X N (D.fact 40 (f := .glo "law") rfl)
  have g_Book := He.glo_ok X N (D.fact 41 (f := .glo "Book") rfl)
  have g_Job := He.glo_ok X N (D.fact 42 (f := .glo "Job") rfl)
  have g_Yard := He.glo_ok X N (D.fact 43 (f := .glo "Yard") rfl)
  have g_PARTS := He.glo_ok X N (D.fact 44 (f := .glo "PARTS") rfl)
  have g_KINDS := He.glo_ok X N (D.fact 45 (f := .glo "KINDS") rfl)
  have g_UPS := He.glo_ok X N (D.fact 46 (f := .glo "UPS") rfl)
  have g_DOWNS := He.glo_ok X N (D.fact 47 (f := .glo "DOWNS") rfl)
  have g_WRITES := He.glo_ok X N (D.fact 48 (f := .glo "WRITES") rfl)
  have g_MOVES := He.glo_ok X N (D.fact 49 (f := .glo "MOVES") rfl)
  have g_FINISHES := He.glo_ok X N (D.fact 50 (f := .glo "FINISHES") rfl)
  have g_COUNTS := He.glo_ok X N (D.fact 51 (f := .glo "COUNTS") rfl)
  have g_BARS := He.glo_ok X N (D.fact 52 (f := .glo "BARS") rfl)
  have g_NOTES := He.glo_ok X N (D.fact 53 (f := .glo "NOTES") rfl)
  have Bt : Blt mg := ⟨He.free_ok X N (D.fact 54 (f := .free "isinstance") rfl), He.free_ok X N (D.fact 55 (f := .free "int") rfl), He.free_ok X N (D.fact 56 (f := .free "bool") rfl), He.free_ok X N (D.fact 57 (f := .free "str") rfl), He.free_ok X N (D.fact 58 (f := .free "list") rfl), He.free_ok X N (D.fact 59 (f := .free "tuple") rfl), He.free_ok X N (D.fact 60 (f := .free "dict") rfl), He.free_ok X N (D.fact 61 (f := .free "len") rfl), He.free_ok X N (D.fact 62 (f := .free "set") rfl), He.free_ok X N (D.fact 63 (f := .free "sorted") rfl), He.free_ok X N (D.fact 64 (f := .free "range") rfl), He.free_ok X N (D.fact 65 (f := .free "abs") rfl), He.free_ok X N (D.fact 66 (f := .free "min") rfl), He.free_ok X N (D.fact 67 (f := .free "repr") rfl)⟩
  have TBook : BookC K (He.ga K "Book") := ⟨He.cls_ok (D.fact 70 (f := .cls "Book") rfl), He.noat_ok (D.fact 72 (f := .noat "Book" "b_words") rfl), He.noat_ok (D.fact 73 (f := .noat "Book" "b_bars") rfl), He.noat_ok (D.fact 74 (f := .noat "Book" "b_notes") rfl)⟩
  have KBook := He.mkr_ok (D.fact 71 (f := .mkr "Book") rfl)
  have TJob : JobC K (He.ga K "Job") := ⟨He.cls_ok (D.fact 75 (f := .cls "Job") rfl), He.noat_ok (D.fact 77 (f := .noat "Job" "kind") rfl), He.noat_ok (D.fact 78 (f := .noat "Job" "upper") rfl), He.noat_ok (D.fact 79 (f := .noat "Job" "lower") rfl), He.noat_ok (D.fact 80 (f := .noat "Job" "place") rfl), He.noat_ok (D.fact 81 (f := .noat "Job" "marks") rfl), He.noat_ok (D.fact 82 (f := .noat "Job" "seen") rfl), He.noat_ok (D.fact 83 (f := .noat "Job" "half") rfl), He.noat_ok (D.fact 84 (f := .noat "Job" "noted") rfl), He.noat_ok (D.fact 85 (f := .noat "Job" "free") rfl)⟩
  have KJob := He.mkr_ok (D.fact 76 (f := .mkr "Job") rfl)
  have TYard : YardC K (He.ga K "Yard") := ⟨He.cls_ok (D.fact 86 (f := .cls "Yard") rfl), He.noat_ok (D.fact 88 (f := .noat "Yard" "y_book") rfl), He.noat_ok (D.fact 89 (f := .noat "Yard" "y_cells") rfl), He.noat_ok (D.fact 90 (f := .noat "Yard" "y_bases") rfl), He.noat_ok (D.fact 91 (f := .noat "Yard" "y_owned") rfl), He.noat_ok (D.fact 92 (f := .noat "Yard" "y_dues") rfl), He.noat_ok (D.fact 93 (f := .noat "Yard" "y_seats") rfl), He.noat_ok (D.fact 94 (f := .noat "Yard" "y_contents") rfl), He.noat_ok (D.fact 95 (f := .noat "Yard" "y_jobs") rfl), He.noat_ok (D.fact 96 (f := .noat "Yard" "y_begun") rfl)⟩
  have KYard := He.mkr_ok (D.fact 87 (f := .mkr "Yard") rfl)
  obtain ⟨tmv, hmv⟩ := He.int_ok X N (D.fact 68 (f := .int "MOST_VALUE" 1000000000) rfl)
  obtain ⟨tmc, hmc⟩ := He.int_ok X N (D.fact 69 (f := .int "MOST_CELLS" 40) rfl)
  have IB := insB_ok TBook.cl x0
  have hS : K.lookup sysModules ≠ none := fun z => by
    have q := x1
    rw [z] at q
    cases q
  have PA : Parts K w mg := parts_of g_PARTS (c.t.tab 0 rfl) x2
  have T_KINDS : Gt K mg "KINDS" [.str "down", .str "up"] := ⟨_, g_KINDS, fun H => He.tupB_ok x3 H⟩
  have T_UPS : Gt K mg "UPS" [.str "one", .str "late", .str "blind"] := ⟨_, g_UPS, fun H => He.tupB_ok x4 H⟩
  have T_DOWNS : Gt K mg "DOWNS" [.str "one", .str "two"] := ⟨_, g_DOWNS, fun H => He.tupB_ok x5 H⟩
  have T_WRITES : Gt K mg "WRITES" [.str "plain", .str "both", .str "again", .str "behind", .str "refused"] := ⟨_, g_WRITES, fun H => He.tupB_ok x6 H⟩
  have T_MOVES : Gt K mg "MOVES" [.str "now", .str "first"] := ⟨_, g_MOVES, fun H => He.tupB_ok x7 H⟩
  have T_FINISHES : Gt K mg "FINISHES" [.str "one", .str "link", .str "cut"] := ⟨_, g_FINISHES, fun H => He.tupB_ok x8 H⟩
  have T_COUNTS : Gt K mg "COUNTS" [.str "last", .str "first", .str "never"] := ⟨_, g_COUNTS, fun H => He.tupB_ok x9 H⟩
  have T_BARS : Gt K mg "BARS" [.str "cover", .str "lower", .str "open", .str "others", .str "upper"] := ⟨_, g_BARS, fun H => He.tupB_ok x10 H⟩
  have T_NOTES : Gt K mg "NOTES" [.str "again", .str "job", .str "place"] := ⟨_, g_NOTES, fun H => He.tupB_ok y10 H⟩
  have GG : BookG K mg := ⟨T_UPS, T_DOWNS, T_WRITES, T_MOVES, T_FINISHES, T_COUNTS, T_BARS, T_NOTES⟩
  have e := hf.symm.trans g_law
  cases e
  have b := FunD.bindsA (ps := ["_law_script"]) F_law fun _ _ _ _ _ _ us hl => match us, hl with | [_], _ => rfl
  refine ⟨fd_law, fun s v => b s [v] rfl, fun base _ _ => ?_⟩
  have B_isnum : Binds K fd_isnum ["thing"] [] := F_isnum.bindsN fun _ _ _ _ _ _ us hl => match us, hl with | [_], _ => rfl
  have O_isnum : FnOk P w K mg base CX0 1 _ fd_isnum ["thing"] spNum := ok_is_number Bt F_isnum
  have G_isnum : Gd P w K mg base "is_number" 1 ["thing"] spNum := ⟨_, _, O_isnum, g_isnum, F_isnum.kp, B_isnum⟩
  have B_iskind : Binds K fd_iskind ["thing"] [] := F_iskind.bindsN fun _ _ _ _ _ _ us hl => match us, hl with | [_], _ => rfl
  have O_iskind : FnOk P w K mg base CX0 1 _ fd_iskind ["thing"] spKind := ok_iskind Bt T_KINDS F_iskind
  have G_iskind : Gd P w K mg base "is_kind" 1 ["thing"] spKind := ⟨_, _, O_iskind, g_iskind, F_iskind.kp, B_iskind⟩
  have B_needkind : Binds K fd_needkind ["kind"] [] := F_needkind.bindsN fun _ _ _ _ _ _ us hl => match us, hl with | [_], _ => rfl
  have O_needkind : FnOk P w K mg base CX0 2 _ fd_needkind ["kind"] spNeedKind := ok_needkind G_iskind F_needkind
  have G_needkind : Gd P w K mg base "need_kind" 2 ["kind"] spNeedKind := ⟨_, _, O_needkind, g_needkind, F_needkind.kp, B_needkind⟩
  have B_needbook : Binds K fd_needbook ["book"] [] := F_needbook.bindsN fun _ _ _ _ _ _ us hl => match us, hl with | [_], _ => rfl
  have O_needbook : FnOk P w K mg base CX0 1 _ fd_needbook ["book"] (spNeedBook (He.ga K "Book")) := ok_needbook Bt IB g_Book F_needbook
  have G_needbook : Gd P w K mg base "need_book" 1 ["book"] (spNeedBook (He.ga K "Book")) := ⟨_, _, O_needbook, g_needbook, F_needbook.kp, B_needbook⟩
  have B_needword : Binds K fd_needword ["field", "word", "words"] [] := F_needword.bindsN fun _ _ _ _ _ _ us hl => match us, hl with | [_, _, _], _ => rfl
  have O_needword : FnOk P w K mg base CX0 1 _ fd_needword ["field", "word", "words"] (spNeedWord (K := K)) := ok_needword Bt F_needword
  have G_needword : Gd P w K mg base "need_word" 1 ["field", "word", "words"] (spNeedWord (K := K)) := ⟨_, _, O_needword, g_needword, F_needword.kp, B_needword⟩
  have B_needwords : Binds K fd_needwords ["field", "some", "words"] [] := F_needwords.bindsN fun _ _ _ _ _ _ us hl => match us, hl with | [_, _, _], _ => rfl
  have O_needwords : FnOk P w K mg base CX0 2 _ fd_needwords ["field", "some", "words"] (spNeedWords K) := ok_needwords Bt G_needword F_needwords
  have G_needwords : Gd P w K mg base "need_words" 2 ["field", "some", "words"] (spNeedWords K) := ⟨_, _, O_needwords, g_needwords, F_needwords.kp, B_needwords⟩
  have B_Book_up : Binds K fd_Book_up ["self"] [] := F_Book_up.bindsN fun _ _ _ _ _ _ us hl => match us, hl with | [_], _ => rfl
  have G_Book_up : Pd P w K mg base (He.ga K "Book") "up" 1 (spWord (He.ga K "Book") BookR.up) := ⟨_, _, _, (ok_bup TBook F_Book_up : FnOk P w K mg base CX0 1 _ fd_Book_up ["self"] (spWord (He.ga K "Book") BookR.up)), Q_Book_up, B_Book_up⟩
  have B_Book_down : Binds K fd_Book_down ["self"] [] := F_Book_down.bindsN fun _ _ _ _ _ _ us hl => match us, hl with | [_], _ => rfl
  have G_Book_down : Pd P w K mg base (He.ga K "Book") "down" 1 (spWord (He.ga K "Book") BookR.down) := ⟨_, _, _, (ok_bdown TBook F_Book_down : FnOk P w K mg base CX0 1 _ fd_Book_down ["self"] (spWord (He.ga K "Book") BookR.down)), Q_Book_down, B_Book_down⟩
  have B_Book_moves : Binds K fd_Book_moves ["self"] [] := F_Book_moves.bindsN fun _ _ _ _ _ _ us hl => match us, hl with | [_], _ => rfl
  have G_Book_moves : Pd P w K mg base (He.ga K "Book") "moves" 1 (spWord (He.ga K "Book") BookR.moves) := ⟨_, _, _, (ok_bmoves TBook F_Book_moves : FnOk P w K mg base CX0 1 _ fd_Book_moves ["self"] (spWord (He.ga K "Book") BookR.moves)), Q_Book_moves, B_Book_moves⟩
  have B_Book_finish : Binds K fd_Book_finish ["self"] [] := F_Book_finish.bindsN fun _ _ _ _ _ _ us hl => match us, hl with | [_], _ => rfl
  have G_Book_finish : Pd P w K mg base (He.ga K "Book") "finish" 1 (spWord (He.ga K "Book") BookR.finish) := ⟨_, _, _, (ok_bfinish TBook F_Book_finish : FnOk P w K mg base CX0 1 _ fd_Book_finish ["self"] (spWord (He.ga K "Book") BookR.finish)), Q_Book_finish, B_Book_finish⟩
  have B_Book_counts : Binds K fd_Book_counts ["self"] [] := F_Book_counts.bindsN fun _ _ _ _ _ _ us hl => match us, hl with | [_], _ => rfl
  have G_Book_counts : Pd P w K mg base (He.ga K "Book") "counts" 1 (spWord (He.ga K "Book") BookR.counts) := ⟨_, _, _, (ok_bcounts TBook F_Book_counts : FnOk P w K mg base CX0 1 _ fd_Book_counts ["self"] (spWord (He.ga K "Book") BookR.counts)), Q_Book_counts, B_Book_counts⟩
  have B_Book_bars : Binds K fd_Book_bars ["self"] [] := F_Book_bars.bindsN fun _ _ _ _ _ _ us hl => match us, hl with | [_], _ => rfl
  have G_Book_bars : Pd P w K mg base (He.ga K "Book") "bars" 1 (spBars (He.ga K "Book")) := ⟨_, _, _, (ok_bbars TBook F_Book_bars : FnOk P w K mg base CX0 1 _ fd_Book_bars ["self"] (spBars (He.ga K "Book"))), Q_Book_bars, B_Book_bars⟩
  have GB : BookP P w K mg base (He.ga K "Book") := ⟨G_Book_up, G_Book_down, G_Book_moves, G_Book_finish, G_Book_counts, G_Book_bars⟩
  have B_twofold : Binds K fd_twofold ["job", "book"] [] := F_twofold.bindsN fun _ _ _ _ _ _ us hl => match us, hl with | [_, _], _ => rfl
  have O_twofold : FnOk P w K mg base CX0 3 _ fd_twofold ["job", "book"] (spTwofold (He.ga K "Book") (He.ga K "Job")) := ok_twofold TBook TJob GB F_twofold
  have G_twofold : Gd P w K mg base "is_twofold" 3 ["job", "book"] (spTwofold (He.ga K "Book") (He.ga K "Job")) := ⟨_, _, O_twofold, g_twofold, F_twofold.kp, B_twofold⟩
  have B_looked : Binds K fd_looked ["job", "book", "owned", "cell"] [] := F_looked.bindsN fun _ _ _ _ _ _ us hl => match us, hl with | [_, _, _, _], _ => rfl
  have O_looked : FnOk P w K mg base CX0 3 _ fd_looked ["job", "book", "owned", "cell"] (spLooked (He.ga K "Book") (He.ga K "Job")) := ok_looked TBook TJob GB F_looked
  have G_looked : Gd P w K mg base "looked" 3 ["job", "book", "owned", "cell"] (spLooked (He.ga K "Book") (He.ga K "Job")) := ⟨_, _, O_looked, g_looked, F_looked.kp, B_looked⟩
  have B_give : Binds K fd_give ["job", "book", "owned", "cell", "value"] [] := F_give.bindsN fun _ _ _ _ _ _ us hl => match us, hl with | [_, _, _, _, _], _ => rfl
  have O_give : FnOk P w K mg base CX0 3 _ fd_give ["job", "book", "owned", "cell", "value"] (spGive (He.ga K "Book") (He.ga K "Job")) := ok_give TBook TJob GB F_give
  have G_give : Gd P w K mg base "give" 3 ["job", "book", "owned", "cell", "value"] (spGive (He.ga K "Book") (He.ga K "Job")) := ⟨_, _, O_give, g_give, F_give.kp, B_give⟩
  have B_j_copied : Binds K fd_j_copied ["self", "cell"] [] := F_j_copied.bindsN fun _ _ _ _ _ _ us hl => match us, hl with | [_, _], _ => rfl
  have O_j_copied : FnOk P w K mg base CX0 1 _ fd_j_copied ["self", "cell"] (spCopied (He.ga K "Job")) := ok_copied TJob F_j_copied
  have G_j_copied : Md P w K mg base (He.ga K "Job") "copied" 1 ["self", "cell"] (spCopied (He.ga K "Job")) := ⟨_, _, O_j_copied, He.meth_ok (D.fact 99 (f := .meth "Job" "copied") rfl), B_j_copied⟩
  have B_j_next_cell : Binds K fd_j_next_cell ["self", "many"] [] := F_j_next_cell.bindsN fun _ _ _ _ _ _ us hl => match us, hl with | [_, _], _ => rfl
  have O_j_next_cell : FnOk P w K mg base CX0 1 _ fd_j_next_cell ["self", "many"] (spNext (He.ga K "Job")) := ok_next TJob F_j_next_cell
  have G_j_next_cell : Md P w K mg base (He.ga K "Job") "next_cell" 1 ["self", "many"] (spNext (He.ga K "Job")) := ⟨_, _, O_j_next_cell, He.meth_ok (D.fact 98 (f := .meth "Job" "next_cell") rfl), B_j_next_cell⟩
  have B_j___init__ : Binds K fd_j___init__ ["self", "kind", "upper", "lower"] [] := F_j___init__.bindsN fun _ _ _ _ _ _ us hl => match us, hl with | [_, _, _, _], _ => rfl
  have O_j___init__ : FnOk P w K mg base CX0 1 _ fd_j___init__ ["self", "kind", "upper", "lower"] (spJobInit (He.ga K "Job")) := ok_jinit TJob F_j___init__
  have G_j___init__ : Id P w K mg base (He.ga K "Job") 1 ["self", "kind", "upper", "lower"] (spJobInit (He.ga K "Job")) := ⟨_, _, O_j___init__, KJob, B_j___init__⟩
  have B_j_twin : Binds K fd_j_twin ["self"] [] := F_j_twin.bindsN fun _ _ _ _ _ _ us hl => match us, hl with | [_], _ => rfl
  have O_j_twin : FnOk P w K mg base CX0 3 _ fd_j_twin ["self"] (spTwin (He.ga K "Job")) := ok_twin Bt TJob g_Job G_j___init__ F_j_twin
  have G_j_twin : Md P w K mg base (He.ga K "Job") "twin" 3 ["self"] (spTwin (He.ga K "Job")) := ⟨_, _, O_j_twin, He.meth_ok (D.fact 97 (f := .meth "Job" "twin") rfl), B_j_twin⟩
  have B_copyon : Binds K fd_copyon ["job", "book", "owned", "cell"] [] := F_copyon.bindsN fun _ _ _ _ _ _ us hl => match us, hl with | [_, _, _, _], _ => rfl
  have O_copyon : FnOk P w K mg base CX0 4 _ fd_copyon ["job", "book", "owned", "cell"] (spCopyOn (He.ga K "Book") (He.ga K "Job")) := ok_copyon TBook TJob G_give G_looked G_twofold G_j_copied F_copyon
  have G_copyon : Gd P w K mg base "copy_on" 4 ["job", "book", "owned", "cell"] (spCopyOn (He.ga K "Book") (He.ga K "Job")) := ⟨_, _, O_copyon, g_copyon, F_copyon.kp, B_copyon⟩
  have B_y_put_on : Binds K fd_y_put_on ["self", "layer"] [] := F_y_put_on.bindsN fun _ _ _ _ _ _ us hl => match us, hl with | [_, _], _ => rfl
  have O_y_put_on : FnOk P w K mg base CX0 1 _ fd_y_put_on ["self", "layer"] (spPutOn (He.ga K "Yard")) := ok_puton Bt TYard F_y_put_on
  have G_y_put_on : Md P w K mg base (He.ga K "Yard") "put_on" 1 ["self", "layer"] (spPutOn (He.ga K "Yard")) := ⟨_, _, O_y_put_on, He.meth_ok (D.fact 108 (f := .meth "Yard" "put_on") rfl), B_y_put_on⟩
  have B_y_above : Binds K fd_y_above ["self", "layer"] [] := F_y_above.bindsN fun _ _ _ _ _ _ us hl => match us, hl with | [_, _], _ => rfl
  have O_y_above : FnOk P w K mg base CX0 1 _ fd_y_above ["self", "layer"] (spAbove (He.ga K "Yard")) := ok_above TYard F_y_above
  have G_y_above : Md P w K mg base (He.ga K "Yard") "above" 1 ["self", "layer"] (spAbove (He.ga K "Yard")) := ⟨_, _, O_y_above, He.meth_ok (D.fact 105 (f := .meth "Yard" "above") rfl), B_y_above⟩
  have B_y_is_open : Binds K fd_y_is_open ["self", "layer"] [] := F_y_is_open.bindsN fun _ _ _ _ _ _ us hl => match us, hl with | [_, _], _ => rfl
  have O_y_is_open : FnOk P w K mg base CX0 1 _ fd_y_is_open ["self", "layer"] (spIsOpen (He.ga K "Yard")) := ok_isopen Bt TYard F_y_is_open
  have G_y_is_open : Md P w K mg base (He.ga K "Yard") "is_open" 1 ["self", "layer"] (spIsOpen (He.ga K "Yard")) := ⟨_, _, O_y_is_open, He.meth_ok (D.fact 104 (f := .meth "Yard" "is_open") rfl), B_y_is_open⟩
  have B_y_uppers : Binds K fd_y_uppers ["self"] [] := F_y_uppers.bindsN fun _ _ _ _ _ _ us hl => match us, hl with | [_], _ => rfl
  have O_y_uppers : FnOk P w K mg base CX0 1 _ fd_y_uppers ["self"] (spLayers (He.ga K "Yard") (He.ga K "Job") Jb.up) := ok_uppers TYard TJob F_y_uppers
  have G_y_uppers : Md P w K mg base (He.ga K "Yard") "uppers" 1 ["self"] (spLayers (He.ga K "Yard") (He.ga K "Job") Jb.up) := ⟨_, _, O_y_uppers, He.meth_ok (D.fact 106 (f := .meth "Yard" "uppers") rfl), B_y_uppers⟩
  have B_y_lowers : Binds K fd_y_lowers ["self"] [] := F_y_lowers.bindsN fun _ _ _ _ _ _ us hl => match us, hl with | [_], _ => rfl
  have O_y_lowers : FnOk P w K mg base CX0 1 _ fd_y_lowers ["self"] (spLayers (He.ga K "Yard") (He.ga K "Job") Jb.lo) := ok_lowers TYard TJob F_y_lowers
  have G_y_lowers : Md P w K mg base (He.ga K "Yard") "lowers" 1 ["self"] (spLayers (He.ga K "Yard") (He.ga K "Job") Jb.lo) := ⟨_, _, O_y_lowers, He.meth_ok (D.fact 107 (f := .meth "Yard" "lowers") rfl), B_y_lowers⟩
  have B_y_need_writer : Binds K fd_y_need_writer ["self", "writer"] [] := F_y_need_writer.bindsN fun _ _ _ _ _ _ us hl => match us, hl with | [_, _], _ => rfl
  have O_y_need_writer : FnOk P w K mg base CX0 2 _ fd_y_need_writer ["self", "writer"] (spNeedW (He.ga K "Yard")) := ok_needw TYard G_isnum F_y_need_writer
  have G_y_need_writer : Md P w K mg base (He.ga K "Yard") "need_writer" 2 ["self", "writer"] (spNeedW (He.ga K "Yard")) := ⟨_, _, O_y_need_writer, He.meth_ok (D.fact 100 (f := .meth "Yard" "need_writer") rfl), B_y_need_writer⟩
  have B_y_need_cell : Binds K fd_y_need_cell ["self", "cell"] [] := F_y_need_cell.bindsN fun _ _ _ _ _ _ us hl => match us, hl with | [_, _], _ => rfl
  have O_y_need_cell : FnOk P w K mg base CX0 2 _ fd_y_need_cell ["self", "cell"] (spNeedC (He.ga K "Yard")) := ok_needc TYard G_isnum F_y_need_cell
  have G_y_need_cell : Md P w K mg base (He.ga K "Yard") "need_cell" 2 ["self", "cell"] (spNeedC (He.ga K "Yard")) := ⟨_, _, O_y_need_cell, He.meth_ok (D.fact 101 (f := .meth "Yard" "need_cell") rfl), B_y_need_cell⟩
  have B_y_need_layer : Binds K fd_y_need_layer ["self", "layer"] [] := F_y_need_layer.bindsN fun _ _ _ _ _ _ us hl => match us, hl with | [_, _], _ => rfl
  have O_y_need_layer : FnOk P w K mg base CX0 2 _ fd_y_need_layer ["self", "layer"] (spNeedL (He.ga K "Yard")) := ok_needl TYard G_isnum F_y_need_layer
  have G_y_need_layer : Md P w K mg base (He.ga K "Yard") "need_layer" 2 ["self", "layer"] (spNeedL (He.ga K "Yard")) := ⟨_, _, O_y_need_layer, He.meth_ok (D.fact 102 (f := .meth "Yard" "need_layer") rfl), B_y_need_layer⟩
  have B_y_seat_of : Binds K fd_y_seat_of ["self", "writer"] [] := F_y_seat_of.bindsN fun _ _ _ _ _ _ us hl => match us, hl with | [_, _], _ => rfl
  have O_y_seat_of : FnOk P w K mg base CX0 1 _ fd_y_seat_of ["self", "writer"] (spSeatOf (He.ga K "Yard")) := ok_seatof TYard F_y_seat_of
  have G_y_seat_of : Md P w K mg base (He.ga K "Yard") "seat_of" 1 ["self", "writer"] (spSeatOf (He.ga K "Yard")) := ⟨_, _, O_y_seat_of, He.meth_ok (D.fact 103 (f := .meth "Yard" "seat_of") rfl), B_y_seat_of⟩
  have B_y_merging : Binds K fd_y_merging ["self", "layer"] [] := F_y_merging.bindsN fun _ _ _ _ _ _ us hl => match us, hl with | [_, _], _ => rfl
  have O_y_merging : FnOk P w K mg base CX0 1 _ fd_y_merging ["self", "layer"] (spMerging (He.ga K "Yard")) := ok_merging TYard F_y_merging
  have G_y_merging : Md P w K mg base (He.ga K "Yard") "merging" 1 ["self", "layer"] (spMerging (He.ga K "Yard")) := ⟨_, _, O_y_merging, He.meth_ok (D.fact 109 (f := .meth "Yard" "merging") rfl), B_y_merging⟩
  have B_y_finish_word : Binds K fd_y_finish_word ["self", "held"] [] := F_y_finish_word.bindsN fun _ _ _ _ _ _ us hl => match us, hl with | [_, _], _ => rfl
  have O_y_finish_word : FnOk P w K mg base CX0 3 _ fd_y_finish_word ["self", "held"] (spFinish (He.ga K "Yard") (He.ga K "Book") (He.ga K "Job")) := ok_finish TBook TYard TJob GB F_y_finish_word
  have G_y_finish_word : Md P w K mg base (He.ga K "Yard") "finish_word" 3 ["self", "held"] (spFinish (He.ga K "Yard") (He.ga K "Book") (He.ga K "Job")) := ⟨_, _, O_y_finish_word, He.meth_ok (D.fact 115 (f := .meth "Yard" "finish_word") rfl), B_y_finish_word⟩
  have B_y_shown : Binds K fd_y_shown ["self", "layer", "cell"] [] := F_y_shown.bindsN fun _ _ _ _ _ _ us hl => match us, hl with | [_, _, _], _ => rfl
  have O_y_shown : FnOk P w K mg base CX0 1 _ fd_y_shown ["self", "layer", "cell"] (spShown (He.ga K "Yard")) := ok_shown TYard F_y_shown
  have G_y_shown : Md P w K mg base (He.ga K "Yard") "shown" 1 ["self", "layer", "cell"] (spShown (He.ga K "Yard")) := ⟨_, _, O_y_shown, He.meth_ok (D.fact 119 (f := .meth "Yard" "shown") rfl), B_y_shown⟩
  have B_y_contents : Binds K fd_y_contents ["self", "writer"] [] := F_y_contents.bindsN fun _ _ _ _ _ _ us hl => match us, hl with | [_, _], _ => rfl
  have O_y_contents : FnOk P w K mg base CX0 3 _ fd_y_contents ["self", "writer"] (spContents (He.ga K "Yard")) := ok_contents TYard G_y_need_writer F_y_contents
  have G_y_contents : Md P w K mg base (He.ga K "Yard") "contents" 3 ["self", "writer"] (spContents (He.ga K "Yard")) := ⟨_, _, O_y_contents, He.meth_ok (D.fact 120 (f := .meth "Yard" "contents") rfl), B_y_contents⟩
  have B_y_wrong : Binds K fd_y_wrong ["self"] [] := F_y_wrong.bindsN fun _ _ _ _ _ _ us hl => match us, hl with | [_], _ => rfl
  have O_y_wrong : FnOk P w K mg base CX0 3 _ fd_y_wrong ["self"] (spWrong (He.ga K "Yard")) := ok_wrong Bt TYard G_y_shown F_y_wrong
  have G_y_wrong : Md P w K mg base (He.ga K "Yard") "wrong" 3 ["self"] (spWrong (He.ga K "Yard")) := ⟨_, _, O_y_wrong, He.meth_ok (D.fact 121 (f := .meth "Yard" "wrong") rfl), B_y_wrong⟩
  have B_y_cut : Binds K fd_y_cut ["self", "held"] [] := F_y_cut.bindsN fun _ _ _ _ _ _ us hl => match us, hl with | [_, _], _ => rfl
  have O_y_cut : FnOk P w K mg base CX0 3 _ fd_y_cut ["self", "held"] (spCut (He.ga K "Yard") (He.ga K "Book") (He.ga K "Job")) := ok_cut TBook TYard TJob GB G_y_above F_y_cut
  have G_y_cut : Md P w K mg base (He.ga K "Yard") "cut" 3 ["self", "held"] (spCut (He.ga K "Yard") (He.ga K "Book") (He.ga K "Job")) := ⟨_, _, O_y_cut, He.meth_ok (D.fact 117 (f := .meth "Yard" "cut") rfl), B_y_cut⟩
  have B_y_link : Binds K fd_y_link ["self", "held"] [] := F_y_link.bindsN fun _ _ _ _ _ _ us hl => match us, hl with | [_, _], _ => rfl
  have O_y_link : FnOk P w K mg base CX0 3 _ fd_y_link ["self", "held"] (spLink (He.ga K "Yard") (He.ga K "Book") (He.ga K "Job")) := ok_link Bt TBook TYard TJob GB G_y_above F_y_link
  have G_y_link : Md P w K mg base (He.ga K "Yard") "link" 3 ["self", "held"] (spLink (He.ga K "Yard") (He.ga K "Book") (He.ga K "Job")) := ⟨_, _, O_y_link, He.meth_ok (D.fact 116 (f := .meth "Yard" "link") rfl), B_y_link⟩
  have B_y_step : Binds K fd_y_step ["self", "job"] [] := F_y_step.bindsN fun _ _ _ _ _ _ us hl => match us, hl with | [_, _], _ => rfl
  have O_y_step : FnOk P w K mg base CX0 5 _ fd_y_step ["self", "job"] (spStep (He.ga K "Yard") (He.ga K "Book") (He.ga K "Job")) := ok_step TBook TYard TJob G_isnum G_copyon G_j_next_cell G_y_finish_word G_y_link G_y_cut F_y_step
  have G_y_step : Md P w K mg base (He.ga K "Yard") "step" 5 ["self", "job"] (spStep (He.ga K "Yard") (He.ga K "Book") (He.ga K "Job")) := ⟨_, _, O_y_step, He.meth_ok (D.fact 114 (f := .meth "Yard" "step") rfl), B_y_step⟩
  have B_y_write : Binds K fd_y_write ["self", "writer", "cell", "value"] [] := F_y_write.bindsN fun _ _ _ _ _ _ us hl => match us, hl with | [_, _, _, _], _ => rfl
  have O_y_write : FnOk P w K mg base CX0 3 _ fd_y_write ["self", "writer", "cell", "value"] (spWrite (He.ga K "Yard") (He.ga K "Job")) := ok_write TYard hmv G_isnum G_y_need_writer G_y_need_cell G_y_seat_of G_y_merging F_y_write
  have G_y_write : Md P w K mg base (He.ga K "Yard") "write" 3 ["self", "writer", "cell", "value"] (spWrite (He.ga K "Yard") (He.ga K "Job")) := ⟨_, _, O_y_write, He.meth_ok (D.fact 110 (f := .meth "Yard" "write") rfl), B_y_write⟩
  have B_y_cover : Binds K fd_y_cover ["self", "writer"] [] := F_y_cover.bindsN fun _ _ _ _ _ _ us hl => match us, hl with | [_, _], _ => rfl
  have O_y_cover : FnOk P w K mg base CX0 3 _ fd_y_cover ["self", "writer"] (spCover (He.ga K "Yard") (He.ga K "Book") (He.ga K "Job")) := ok_cover TBook TYard GB G_y_need_writer G_y_seat_of G_y_uppers G_y_put_on F_y_cover
  have G_y_cover : Md P w K mg base (He.ga K "Yard") "cover" 3 ["self", "writer"] (spCover (He.ga K "Yard") (He.ga K "Book") (He.ga K "Job")) := ⟨_, _, O_y_cover, He.meth_ok (D.fact 111 (f := .meth "Yard" "cover") rfl), B_y_cover⟩
  have B_y_branch : Binds K fd_y_branch ["self", "layer"] [] := F_y_branch.bindsN fun _ _ _ _ _ _ us hl => match us, hl with | [_, _], _ => rfl
  have O_y_branch : FnOk P w K mg base CX0 3 _ fd_y_branch ["self", "layer"] (spBranch (He.ga K "Yard") (He.ga K "Book") (He.ga K "Job")) := ok_branch Bt TBook TYard GB G_y_need_layer G_y_is_open G_y_lowers G_y_uppers G_y_put_on F_y_branch
  have G_y_branch : Md P w K mg base (He.ga K "Yard") "branch" 3 ["self", "layer"] (spBranch (He.ga K "Yard") (He.ga K "Book") (He.ga K "Job")) := ⟨_, _, O_y_branch, He.meth_ok (D.fact 112 (f := .meth "Yard" "branch") rfl), B_y_branch⟩
  have B_y_begin : Binds K fd_y_begin ["self", "kind", "layer"] [] := F_y_begin.bindsN fun _ _ _ _ _ _ us hl => match us, hl with | [_, _, _], _ => rfl
  have O_y_begin : FnOk P w K mg base CX0 3 _ fd_y_begin ["self", "kind", "layer"] (spBegin (He.ga K "Yard") (He.ga K "Book") (He.ga K "Job")) := ok_begin Bt TBook TYard TJob g_Job GB G_needkind G_j___init__ G_y_need_layer G_y_is_open G_y_lowers G_y_uppers G_y_above F_y_begin
  have G_y_begin : Md P w K mg base (He.ga K "Yard") "begin" 3 ["self", "kind", "layer"] (spBegin (He.ga K "Yard") (He.ga K "Book") (He.ga K "Job")) := ⟨_, _, O_y_begin, He.meth_ok (D.fact 113 (f := .meth "Yard" "begin") rfl), B_y_begin⟩
  have B_y___init__ : Binds K fd_y___init__ ["self", "book", "cells"] [] := F_y___init__.bindsN fun _ _ _ _ _ _ us hl => match us, hl with | [_, _, _], _ => rfl
  have O_y___init__ : FnOk P w K mg base CX0 2 _ fd_y___init__ ["self", "book", "cells"] (spYardInit (He.ga K "Yard") (He.ga K "Book") (He.ga K "Job")) := ok_yinit Bt TYard hmc G_needbook G_isnum F_y___init__
  have G_y___init__ : Id P w K mg base (He.ga K "Yard") 2 ["self", "book", "cells"] (spYardInit (He.ga K "Yard") (He.ga K "Book") (He.ga K "Job")) := ⟨_, _, O_y___init__, KYard, B_y___init__⟩
  have B_y_copy : Binds K fd_y_copy ["self"] [] := F_y_copy.bindsN fun _ _ _ _ _ _ us hl => match us, hl with | [_], _ => rfl
  have O_y_copy : FnOk P w K mg base CX0 4 _ fd_y_copy ["self"] (spCopy (He.ga K "Yard") (He.ga K "Book") (He.ga K "Job")) := ok_copy Bt TYard TJob g_Yard G_y___init__ G_j_twin F_y_copy
  have G_y_copy : Md P w K mg base (He.ga K "Yard") "copy" 4 ["self"] (spCopy (He.ga K "Yard") (He.ga K "Book") (He.ga K "Job")) := ⟨_, _, O_y_copy, He.meth_ok (D.fact 122 (f := .meth "Yard" "copy") rfl), B_y_copy⟩
  have B_Yard_writers : Binds K fd_Yard_writers ["self"] [] := F_Yard_writers.bindsN fun _ _ _ _ _ _ us hl => match us, hl with | [_], _ => rfl
  have G_Yard_writers : Pd P w K mg base (He.ga K "Yard") "writers" 1 (spWriters (He.ga K "Yard") (He.ga K "Job")) := ⟨_, _, _, (ok_writers Bt TYard F_Yard_writers : FnOk P w K mg base CX0 1 _ fd_Yard_writers ["self"] (spWriters (He.ga K "Yard") (He.ga K "Job"))), Q_Yard_writers, B_Yard_writers⟩
  have B_Yard_jobs : Binds K fd_Yard_jobs ["self"] [] := F_Yard_jobs.bindsN fun _ _ _ _ _ _ us hl => match us, hl with | [_], _ => rfl
  have G_Yard_jobs : Pd P w K mg base (He.ga K "Yard") "jobs" 1 (spJobs (He.ga K "Yard") (He.ga K "Job")) := ⟨_, _, _, (ok_jobs Bt TYard TJob F_Yard_jobs : FnOk P w K mg base CX0 1 _ fd_Yard_jobs ["self"] (spJobs (He.ga K "Yard") (He.ga K "Job"))), Q_Yard_jobs, B_Yard_jobs⟩
  have B_Yard_layers : Binds K fd_Yard_layers ["self"] [] := F_Yard_layers.bindsN fun _ _ _ _ _ _ us hl => match us, hl with | [_], _ => rfl
  have G_Yard_layers : Pd P w K mg base (He.ga K "Yard") "layers" 1 (spLayersD (He.ga K "Yard") (He.ga K "Job")) := ⟨_, _, _, (ok_layers Bt TYard F_Yard_layers : FnOk P w K mg base CX0 1 _ fd_Yard_layers ["self"] (spLayersD (He.ga K "Yard") (He.ga K "Job"))), Q_Yard_layers, B_Yard_layers⟩
  have B_Yard_cells : Binds K fd_Yard_cells ["self"] [] := F_Yard_cells.bindsN fun _ _ _ _ _ _ us hl => match us, hl with | [_], _ => rfl
  have G_Yard_cells : Pd P w K mg base (He.ga K "Yard") "cells" 1 (spCells (He.ga K "Yard")) := ⟨_, _, _, (ok_cells TYard F_Yard_cells : FnOk P w K mg base CX0 1 _ fd_Yard_cells ["self"] (spCells (He.ga K "Yard"))), Q_Yard_cells, B_Yard_cells⟩
  have B_isdeed : Binds K fd_isdeed ["thing"] [] := F_isdeed.bindsN fun _ _ _ _ _ _ us hl => match us, hl with | [_], _ => rfl
  have O_isdeed : FnOk P w K mg base CX0 1 _ fd_isdeed ["thing"] spDeed := ok_isdeed Bt PA F_isdeed
  have G_isdeed : Gd P w K mg base "is_deed" 1 ["thing"] spDeed := ⟨_, _, O_isdeed, g_isdeed, F_isdeed.kp, B_isdeed⟩
  have B_answered : Binds K fd_answered ["yard", "deed"] [] := F_answered.bindsN fun _ _ _ _ _ _ us hl => match us, hl with | [_, _], _ => rfl
  have O_answered : FnOk P w K mg base CX0 4 _ fd_answered ["yard", "deed"] (spAns (He.ga K "Yard") (He.ga K "Book") (He.ga K "Job")) := ok_answered TYard G_isdeed G_y_write G_y_cover G_y_branch G_y_begin F_answered
  have G_answered : Gd P w K mg base "answered" 4 ["yard", "deed"] (spAns (He.ga K "Yard") (He.ga K "Book") (He.ga K "Job")) := ⟨_, _, O_answered, g_answered, F_answered.kp, B_answered⟩
  have B_y_do : Binds K fd_y_do ["self", "deed"] [] := F_y_do.bindsN fun _ _ _ _ _ _ us hl => match us, hl with | [_, _], _ => rfl
  have O_y_do : FnOk P w K mg base CX0 5 _ fd_y_do ["self", "deed"] (spDo (He.ga K "Yard") (He.ga K "Book") (He.ga K "Job")) := ok_do G_answered F_y_do
  have G_y_do : Md P w K mg base (He.ga K "Yard") "do" 5 ["self", "deed"] (spDo (He.ga K "Yard") (He.ga K "Book") (He.ga K "Job")) := ⟨_, _, O_y_do, He.meth_ok (D.fact 118 (f := .meth "Yard" "do") rfl), B_y_do⟩
  have BI : BookI P w K mg base (He.ga K "Book") := ⟨_, _, _, ok_binit Bt TBook GG G_needword G_needwords F_binit, KBook, F_binit, fun z => nomatch z⟩
  have B_l_is_number : Binds K fd_l_is_number ["_law_thing"] [] := F_l_is_number.bindsN fun _ _ _ _ _ _ us hl => match us, hl with | [_], _ => rfl
  have O_l_is_number : FnOk P w K mg base CX0 1 _ fd_l_is_number ["_law_thing"] spNum := ok_lnum Bt F_l_is_number
  have G_l_is_number : Gd P w K mg base "_law_is_number" 1 ["_law_thing"] spNum := ⟨_, _, O_l_is_number, g_l_is_number, F_l_is_number.kp, B_l_is_number⟩
  have B_l_is_open : Binds K fd_l_is_open ["_law_sheet", "_law_seat"] [] := F_l_is_open.bindsN fun _ _ _ _ _ _ us hl => match us, hl with | [_, _], _ => rfl
  have O_l_is_open : FnOk P w K mg base CX0 1 _ fd_l_is_open ["_law_sheet", "_law_seat"] spLOpen := ok_lopen Bt F_l_is_open
  have G_l_is_open : Gd P w K mg base "_law_is_open" 1 ["_law_sheet", "_law_seat"] spLOpen := ⟨_, _, O_l_is_open, g_l_is_open, F_l_is_open.kp, B_l_is_open⟩
  have B_l_above : Binds K fd_l_above ["_law_sheet", "_law_below"] [] := F_l_above.bindsN fun _ _ _ _ _ _ us hl => match us, hl with | [_, _], _ => rfl
  have O_l_above : FnOk P w K mg base CX0 1 _ fd_l_above ["_law_sheet", "_law_below"] spLAbove := ok_labove Bt F_l_above
  have G_l_above : Gd P w K mg base "_law_above" 1 ["_law_sheet", "_law_below"] spLAbove := ⟨_, _, O_l_above, g_l_above, F_l_above.kp, B_l_above⟩
  have B_l_has : Binds K fd_l_has ["_law_sheet", "_law_name", "_law_wanted"] [] := F_l_has.bindsN fun _ _ _ _ _ _ us hl => match us, hl with | [_, _, _], _ => rfl
  have O_l_has : FnOk P w K mg base CX0 1 _ fd_l_has ["_law_sheet", "_law_name", "_law_wanted"] spLHas := ok_lhas F_l_has
  have G_l_has : Gd P w K mg base "_law_has" 1 ["_law_sheet", "_law_name", "_law_wanted"] spLHas := ⟨_, _, O_l_has, g_l_has, F_l_has.kp, B_l_has⟩
  have B_l_shown : Binds K fd_l_shown ["_law_sheet", "_law_start", "_law_spot"] [] := F_l_shown.bindsN fun _ _ _ _ _ _ us hl => match us, hl with | [_, _, _], _ => rfl
  have O_l_shown : FnOk P w K mg base CX0 22 _ fd_l_shown ["_law_sheet", "_law_start", "_law_spot"] (spLShown 21) := ok_lshown F_l_shown g_l_shown B_l_shown 21
  have G_l_shown : Gd P w K mg base "_law_shown" 22 ["_law_sheet", "_law_start", "_law_spot"] (spLShown 21) := ⟨_, _, O_l_shown, g_l_shown, F_l_shown.kp, B_l_shown⟩
  have B_l_wrong : Binds K fd_l_wrong ["_law_sheet"] [] := F_l_wrong.bindsN fun _ _ _ _ _ _ us hl => match us, hl with | [_], _ => rfl
  have O_l_wrong : FnOk P w K mg base CX0 23 _ fd_l_wrong ["_law_sheet"] spLWrong := ok_lwrong Bt G_l_shown F_l_wrong
  have G_l_wrong : Gd P w K mg base "_law_wrong" 23 ["_law_sheet"] spLWrong := ⟨_, _, O_l_wrong, g_l_wrong, F_l_wrong.kp, B_l_wrong⟩
  have B_l_put_on : Binds K fd_l_put_on ["_law_sheet", "_law_below"] [] := F_l_put_on.bindsN fun _ _ _ _ _ _ us hl => match us, hl with | [_, _], _ => rfl
  have O_l_put_on : FnOk P w K mg base CX0 1 _ fd_l_put_on ["_law_sheet", "_law_below"] spLPutOn := ok_lputon Bt F_l_put_on
  have G_l_put_on : Gd P w K mg base "_law_put_on" 1 ["_law_sheet", "_law_below"] spLPutOn := ⟨_, _, O_l_put_on, g_l_put_on, F_l_put_on.kp, B_l_put_on⟩
  have B_l_merging : Binds K fd_l_merging ["_law_fields", "_law_sheet", "_law_seat"] [] := F_l_merging.bindsN fun _ _ _ _ _ _ us hl => match us, hl with | [_, _, _], _ => rfl
  have O_l_merging : FnOk P w K mg base CX0 1 _ fd_l_merging ["_law_fields", "_law_sheet", "_law_seat"] spLMerging := ok_lmerging F_l_merging
  have G_l_merging : Gd P w K mg base "_law_merging" 1 ["_law_fields", "_law_sheet", "_law_seat"] spLMerging := ⟨_, _, O_l_merging, g_l_merging, F_l_merging.kp, B_l_merging⟩
  have B_l_written : Binds K fd_l_written ["_law_fields", "_law_sheet", "_law_deed"] [] := F_l_written.bindsN fun _ _ _ _ _ _ us hl => match us, hl with | [_, _, _], _ => rfl
  have O_l_written : FnOk P w K mg base CX0 2 _ fd_l_written ["_law_fields", "_law_sheet", "_law_deed"] spLWritten := ok_lwritten Bt G_l_merging F_l_written
  have G_l_written : Gd P w K mg base "_law_written" 2 ["_law_fields", "_law_sheet", "_law_deed"] spLWritten := ⟨_, _, O_l_written, g_l_written, F_l_written.kp, B_l_written⟩
  have B_l_begins : Binds K fd_l_begins ["_law_sheet", "_law_word", "_law_upper"] [] := F_l_begins.bindsN fun _ _ _ _ _ _ us hl => match us, hl with | [_, _, _], _ => rfl
  have O_l_begins : FnOk P w K mg base CX0 2 _ fd_l_begins ["_law_sheet", "_law_word", "_law_upper"] spLBegins := ok_lbegins Bt G_l_above F_l_begins
  have G_l_begins : Gd P w K mg base "_law_begins" 2 ["_law_sheet", "_law_word", "_law_upper"] spLBegins := ⟨_, _, O_l_begins, g_l_begins, F_l_begins.kp, B_l_begins⟩
  have B_l_copied : Binds K fd_l_copied ["_law_fields", "_law_sheet", "_law_task"] [] := F_l_copied.bindsN fun _ _ _ _ _ _ us hl => match us, hl with | [_, _, _], _ => rfl
  have O_l_copied : FnOk P w K mg base CX0 1 _ fd_l_copied ["_law_fields", "_law_sheet", "_law_task"] spLCopied := ok_lcopied Bt F_l_copied
  have G_l_copied : Gd P w K mg base "_law_copied" 1 ["_law_fields", "_law_sheet", "_law_task"] spLCopied := ⟨_, _, O_l_copied, g_l_copied, F_l_copied.kp, B_l_copied⟩
  have B_l_linked : Binds K fd_l_linked ["_law_fields", "_law_sheet", "_law_task"] [] := F_l_linked.bindsN fun _ _ _ _ _ _ us hl => match us, hl with | [_, _, _], _ => rfl
  have O_l_linked : FnOk P w K mg base CX0 2 _ fd_l_linked ["_law_fields", "_law_sheet", "_law_task"] spLLinked := ok_llinked Bt G_l_above F_l_linked
  have G_l_linked : Gd P w K mg base "_law_linked" 2 ["_law_fields", "_law_sheet", "_law_task"] spLLinked := ⟨_, _, O_l_linked, g_l_linked, F_l_linked.kp, B_l_linked⟩
  have B_l_cut : Binds K fd_l_cut ["_law_fields", "_law_sheet", "_law_task"] [] := F_l_cut.bindsN fun _ _ _ _ _ _ us hl => match us, hl with | [_, _, _], _ => rfl
  have O_l_cut : FnOk P w K mg base CX0 2 _ fd_l_cut ["_law_fields", "_law_sheet", "_law_task"] spLCut := ok_lcut Bt G_l_above F_l_cut
  have G_l_cut : Gd P w K mg base "_law_cut" 2 ["_law_fields", "_law_sheet", "_law_task"] spLCut := ⟨_, _, O_l_cut, g_l_cut, F_l_cut.kp, B_l_cut⟩
  have B_l_stepped : Binds K fd_l_stepped ["_law_fields", "_law_sheet", "_law_number"] [] := F_l_stepped.bindsN fun _ _ _ _ _ _ us hl => match us, hl with | [_, _, _], _ => rfl
  have O_l_stepped : FnOk P w K mg base CX0 3 _ fd_l_stepped ["_law_fields", "_law_sheet", "_law_number"] spLStepped := ok_lstepped Bt G_l_copied G_l_linked G_l_cut F_l_stepped
  have G_l_stepped : Gd P w K mg base "_law_stepped" 3 ["_law_fields", "_law_sheet", "_law_number"] spLStepped := ⟨_, _, O_l_stepped, g_l_stepped, F_l_stepped.kp, B_l_stepped⟩
  have B_l_new_sheet : Binds K fd_l_new_sheet ["_law_many"] [] := F_l_new_sheet.bindsN fun _ _ _ _ _ _ us hl => match us, hl with | [_], _ => rfl
  have O_l_new_sheet : FnOk P w K mg base CX0 1 _ fd_l_new_sheet ["_law_many"] spLNew := ok_lnew Bt F_l_new_sheet
  have G_l_new_sheet : Gd P w K mg base "_law_new_sheet" 1 ["_law_many"] spLNew := ⟨_, _, O_l_new_sheet, g_l_new_sheet, F_l_new_sheet.kp, B_l_new_sheet⟩
  have B_l_copy_of : Binds K fd_l_copy_of ["_law_sheet"] [] := F_l_copy_of.bindsN fun _ _ _ _ _ _ us hl => match us, hl with | [_], _ => rfl
  have O_l_copy_of : FnOk P w K mg base CX0 1 _ fd_l_copy_of ["_law_sheet"] spLCopy := ok_lcopy Bt F_l_copy_of
  have G_l_copy_of : Gd P w K mg base "_law_copy_of" 1 ["_law_sheet"] spLCopy := ⟨_, _, O_l_copy_of, g_l_copy_of, F_l_copy_of.kp, B_l_copy_of⟩
  have B_l_done : Binds K fd_l_done ["_law_fields", "_law_before", "_law_deed"] [] := F_l_done.bindsN fun _ _ _ _ _ _ us hl => match us, hl with | [_, _, _], _ => rfl
  have O_l_done : FnOk P w K mg base CX0 4 _ fd_l_done ["_law_fields", "_law_before", "_law_deed"] spLDone := ok_ldone Bt G_l_copy_of G_l_written G_l_put_on G_l_begins G_l_stepped F_l_done
  have G_l_done : Gd P w K mg base "_law_done" 4 ["_law_fields", "_law_before", "_law_deed"] spLDone := ⟨_, _, O_l_done, g_l_done, F_l_done.kp, B_l_done⟩
  have B_l_layer_refusal : Binds K fd_l_layer_refusal ["_law_fields", "_law_sheet", "_law_deed"] [] := F_l_layer_refusal.bindsN fun _ _ _ _ _ _ us hl => match us, hl with | [_, _, _], _ => rfl
  have O_l_layer_refusal : FnOk P w K mg base CX0 2 _ fd_l_layer_refusal ["_law_fields", "_law_sheet", "_law_deed"] spLRefuse := ok_llayer Bt G_l_is_number G_l_is_open G_l_has G_l_above F_l_layer_refusal
  have G_l_layer_refusal : Gd P w K mg base "_law_layer_refusal" 2 ["_law_fields", "_law_sheet", "_law_deed"] spLRefuse := ⟨_, _, O_l_layer_refusal, g_l_layer_refusal, F_l_layer_refusal.kp, B_l_layer_refusal⟩
  have B_l_refusal : Binds K fd_l_refusal ["_law_fields", "_law_sheet", "_law_deed"] [] := F_l_refusal.bindsN fun _ _ _ _ _ _ us hl => match us, hl with | [_, _, _], _ => rfl
  have O_l_refusal : FnOk P w K mg base CX0 3 _ fd_l_refusal ["_law_fields", "_law_sheet", "_law_deed"] spLRefuse := ok_lrefusal G_l_layer_refusal F_l_refusal
  have G_l_refusal : Gd P w K mg base "_law_refusal" 3 ["_law_fields", "_law_sheet", "_law_deed"] spLRefuse := ⟨_, _, O_l_refusal, g_l_refusal, F_l_refusal.kp, B_l_refusal⟩
  have B_l_begun : Binds K fd_l_begun ["_law_script"] [] := F_l_begun.bindsN fun _ _ _ _ _ _ us hl => match us, hl with | [_], _ => rfl
  have O_l_begun : FnOk P w K mg base CX0 1 _ fd_l_begun ["_law_script"] (spBegun K) := ok_begun Bt F_l_begun
  have G_l_begun : Gd P w K mg base "_law_begun" 1 ["_law_script"] (spBegun K) := ⟨_, _, O_l_begun, g_l_begun, F_l_begun.kp, B_l_begun⟩
  have B_l_mixed : Binds K fd_l_mixed ["_law_draw"] [] := F_l_mixed.bindsN fun _ _ _ _ _ _ us hl => match us, hl with | [_], _ => rfl
  have O_l_mixed : FnOk P w K mg base CX0 1 _ fd_l_mixed ["_law_draw"] spMixed := ok_mixed Bt F_l_mixed
  have G_l_mixed : Gd P w K mg base "_law_mixed" 1 ["_law_draw"] spMixed := ⟨_, _, O_l_mixed, g_l_mixed, F_l_mixed.kp, B_l_mixed⟩
  have B_l_take : Binds K fd_l_take ["_law_draw", "_law_size"] [] := F_l_take.bindsN fun _ _ _ _ _ _ us hl => match us, hl with | [_, _], _ => rfl
  have O_l_take : FnOk P w K mg base CX0 2 _ fd_l_take ["_law_draw", "_law_size"] spTake := ok_take Bt G_l_mixed F_l_take
  have G_l_take : Gd P w K mg base "_law_take" 2 ["_law_draw", "_law_size"] spTake := ⟨_, _, O_l_take, g_l_take, F_l_take.kp, B_l_take⟩
  have B_l_pick : Binds K fd_l_pick ["_law_draw", "_law_some"] [] := F_l_pick.bindsN fun _ _ _ _ _ _ us hl => match us, hl with | [_, _], _ => rfl
  have O_l_pick : FnOk P w K mg base CX0 3 _ fd_l_pick ["_law_draw", "_law_some"] spPick := ok_pick Bt G_l_take F_l_pick
  have G_l_pick : Gd P w K mg base "_law_pick" 3 ["_law_draw", "_law_some"] spPick := ⟨_, _, O_l_pick, g_l_pick, F_l_pick.kp, B_l_pick⟩
  have B_l_drawn_fields : Binds K fd_l_drawn_fields ["_law_draw"] [] := F_l_drawn_fields.bindsN fun _ _ _ _ _ _ us hl => match us, hl with | [_], _ => rfl
  have O_l_drawn_fields : FnOk P w K mg base CX0 4 _ fd_l_drawn_fields ["_law_draw"] spFields := ok_fields Bt G_l_take G_l_pick F_l_drawn_fields
  have G_l_drawn_fields : Gd P w K mg base "_law_drawn_fields" 4 ["_law_draw"] spFields := ⟨_, _, O_l_drawn_fields, g_l_drawn_fields, F_l_drawn_fields.kp, B_l_drawn_fields⟩
  have B_l_book : Binds K fd_l_book ["_law_fields"] [] := F_l_book.bindsN fun _ _ _ _ _ _ us hl => match us, hl with | [_], _ => rfl
  have O_l_book : FnOk P w K mg base CX0 5 _ fd_l_book ["_law_fields"] (spBook (He.ga K "Book")) := ok_book BI g_Book F_l_book
  have G_l_book : Gd P w K mg base "_law_book" 5 ["_law_fields"] (spBook (He.ga K "Book")) := ⟨_, _, O_l_book, g_l_book, F_l_book.kp, B_l_book⟩
  have B_l_grown : Binds K fd_l_grown ["_law_draw", "_law_fields", "_law_yard", "_law_sheet"] [] := F_l_grown.bindsN fun _ _ _ _ _ _ us hl => match us, hl with | [_, _, _, _], _ => rfl
  have O_l_grown : FnOk P w K mg base CX0 6 _ fd_l_grown ["_law_draw", "_law_fields", "_law_yard", "_law_sheet"] (spGrown (He.ga K "Yard") (He.ga K "Book") (He.ga K "Job")) := ok_grown Bt TYard G_l_take G_l_pick G_l_is_open G_l_done G_y_do F_l_grown
  have G_l_grown : Gd P w K mg base "_law_grown" 6 ["_law_draw", "_law_fields", "_law_yard", "_law_sheet"] (spGrown (He.ga K "Yard") (He.ga K "Book") (He.ga K "Job")) := ⟨_, _, O_l_grown, g_l_grown, F_l_grown.kp, B_l_grown⟩
  have B_l_exchanged : Binds K fd_l_exchanged ["_law_yard", "_law_one", "_law_other"] [] := F_l_exchanged.bindsN fun _ _ _ _ _ _ us hl => match us, hl with | [_, _, _], _ => rfl
  have O_l_exchanged : FnOk P w K mg base CX0 6 _ fd_l_exchanged ["_law_yard", "_law_one", "_law_other"] (spExch (He.ga K "Yard") (He.ga K "Book") (He.ga K "Job")) := ok_exch TYard G_y_copy G_y_step F_l_exchanged
  have G_l_exchanged : Gd P w K mg base "_law_exchanged" 6 ["_law_yard", "_law_one", "_law_other"] (spExch (He.ga K "Yard") (He.ga K "Book") (He.ga K "Job")) := ⟨_, _, O_l_exchanged, g_l_exchanged, F_l_exchanged.kp, B_l_exchanged⟩
  have B_l_shows : Binds K fd_l_shows ["_law_yard", "_law_sheet"] [] := F_l_shows.bindsN fun _ _ _ _ _ _ us hl => match us, hl with | [_, _], _ => rfl
  have G_l_shows : GdG P w K mg base "_law_shows" 24 ["_law_yard", "_law_sheet"] (spShows (He.ga K "Yard") (He.ga K "Job")) := ⟨_, _, ok_shows hS Bt TYard G_Yard_layers G_Yard_writers G_Yard_jobs G_Yard_cells G_y_wrong G_y_contents G_l_wrong F_l_shows, g_l_shows, F_l_shows.kp, B_l_shows⟩
  exact ok_law Bt TYard g_Yard G_y___init__ G_l_begun G_l_drawn_fields G_l_take G_l_pick G_l_book G_l_new_sheet G_l_grown G_l_refusal G_l_done G_l_exchanged G_l_shows G_y_do G_y_step F_law
end K20W
end
/-! HG5 -/
section
set_option Elab.async false
set_option linter.all false
set_option maxRecDepth 100000
set_option maxHeartbeats 0
open PySem PySem.W PySem.Calls PyProof.Rows
theorem PySem.Challenge.cw_whilemerged_k20_whole_jobs_apart_holds : PySem.Challenge.rw_whilemerged_k20_whole_jobs_apart.Holds := by
  w_on; o_law
  refine HandSHeadRun.head_any (r := OpenLaw.row PySem.Challenge.rw_whilemerged_k20_whole_jobs_apart) (q := view (OpenLaw.row PySem.Challenge.rw_whilemerged_k20_whole_jobs_apart).prog [80]) (H := K20H.hk) (ob := K20H.ob) (M := 60000) (loose := K20H.names) (d := HandSHeadRun.topDef (OpenLaw.row PySem.Challenge.rw_whilemerged_k20_whole_jobs_apart).prog 80) (kwd := []) K20H.ob_eq
    (by kernel_rfl) (fun s => by kernel_rfl) K20H.run (by kernel_rfl) (by kernel_rfl) (by kernel_rfl) (by rfl) (by first | assumption | decide +kernel) (by decide +kernel) ⟨rfl, rfl, rfl, rfl, rfl, by decide +kernel⟩ ?hw ?hc
  case hw => w_witness2
  case hc =>
    refine K20W.walk_ofG (l := PySem.Challenge.rw_whilemerged_k20_whole_jobs_apart) (n := 63) (k := 25) (x := "_law_script") rfl (by decide) (by kernel_rfl) ⟨rfl, by decide, by decide⟩ ?F
    intro w mg fa h Y G hmg0
    obtain ⟨K, KX, c⟩ := Y
    have hmg : mg ("law" : PySem.Str) = some (.ref fa) := by
      have e : (HandSHeadRun.topDef (OpenLaw.row PySem.Challenge.rw_whilemerged_k20_whole_jobs_apart).prog 80).name = ("law" : PySem.Str) := by kernel_rfl
      rw [← e]
      exact hmg0
    obtain ⟨fd, hb, hF⟩ := K20W.facts (P := (PySem.Challenge.rw_whilemerged_k20_whole_jobs_apart).prog) (w := w) KX G hmg c
    exact ⟨K, fd, K20W.spLaw K, KX, hb, fun H a ns hl hS => ⟨a, ns, rfl, hS, Nat.le_trans hl (by decide), fun _ => rfl⟩, hF⟩
end
