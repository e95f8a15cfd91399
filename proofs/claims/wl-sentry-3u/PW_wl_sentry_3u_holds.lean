import PyProof.Rows.All
import Wide.All
import OpenK.AllK
import Wide.FinOn
import PyProof.CompFree
import PyProof.TupleOps
import PyProof.DictKinds
import PyProof.DictCompW
import PyProof.Rows.CellsNews
import PyProof.Rows.Tup
import PyProof.Rows.RuleB_small
import PyProof.Rows.RuleB_mul
import PyProof.Rows.RuleB_floordiv
import PyProof.Rows.RuleB_mod
import PyProof.Rows.RuleU_int
import PyProof.Rows.ListMul
import PyProof.Rows.IntRules
import PyProof.Rows.Globals
import PyProof.AutoSeq1
import PyProof.SliceList
import PyProof.LetGo
import PyProof.DictRoads
import PyProof.Rows.Lst
import PyProof.Rows.SeqSlice
import PyProof.AutoListH
import PyProof.ListMulRoad
import PyProof.P3In
import PyProof.NeData
import PyProof.IsRules
import PyProof.ListTruth
import PyProof.DictStraight
import PyProof.Rows.RuleC_int
import PyProof.Rows.Nodes
import PyProof.SliceMore
import PyProof.ListCopy
import PyProof.DictTable
import PyProof.CallType
import PyProof.IsiPairs
import PyProof.WalkInts
import PyProof.CallRoads
import PyProof.FactsAll.list_3
import PyProof.FactsAll.list_0
import PyProof.WalksMore
import PyProof.DictWalks
import PyProof.RangeFor
import PyProof.FactsAll.dict_0
import PyProof.FactsAll.dict_4
import PyProof.Rows.TupAssign
import PyProof.ListIndex
import PyProof.AttrMissHeap
import KE.KDictOf
import KE.KItemsList
import KE.KEqDict
import PyProof.EqAt
import KE.KSortTup
import PySem.Challenge.RW_wl_sentry_3u
set_option compiler.extract_closed false
set_option genSizeOf false
set_option Elab.async false
set_option linter.unusedVariables false
set_option linter.unusedSimpArgs false
section
set_option linter.unusedVariables false
set_option Elab.async false
set_option maxRecDepth 100000
set_option maxHeartbeats 8000000
namespace Mine
open PySem PySem.W PyProof.Rows
noncomputable def prg : Program := PySem.Challenge.pw_wl_sentry_3u
noncomputable def fnT (n : Nat) : Str := match prg.main.body[n]? with | some (.FunctionDef t _ _ _ _ _ _ _ _ _) => t | _ => ""
noncomputable def fnB (n : Nat) : List Stmt := match prg.main.body[n]? with | some (.FunctionDef _ _ b _ _ _ _ _ _ _) => b | _ => []
noncomputable def fnP (n : Nat) : Arguments := match prg.main.body[n]? with | some (.FunctionDef _ a _ _ _ _ _ _ _ _) => a | _ => { posonlyargs := [], args := [], vararg := none, kwonlyargs := [], kw_defaults := [], kwarg := none, defaults := [] }
noncomputable def fnS (n : Nat) : Option Scope := match prg.main.body[n]? with | some (.FunctionDef _ _ _ _ _ _ s _ _ _) => some s | _ => none

/-- a table of the text: tuples, numbers, texts, bools -/
noncomputable def litD : Nat → PySem.Expr → Option PyData
  | 0, _ => none
  | _, .Constant (.int i) _ _ => some (.int i)
  | _, .Constant (.str i) _ _ => some (.str i)
  | _, .Constant (.bool i) _ _ => some (.bool i)
  | _, .UnaryOp .USub (.Constant (.int i) _ _) _ => some (.int (-i))
  | n + 1, .Tuple es _ _ => (es.mapM (litD n)).map .tuple
  | _, _ => none
noncomputable def bltNames : List Str := ["len", "list", "range", "sorted", "min", "dict", "isinstance", "int"]
noncomputable def tabOf (st : Stmt) : Option (Str × PyData) := match st with
  | .Assign [.Name y _] e _ => (litD 10 e).map fun d => (y, d)
  | _ => none
/-- a value of a heap holds this data, object by object -/
noncomputable def tupS (r : Value → PyData → Bool) (o : Obj) (xs : List PyData) : Bool := match o.data with
  | .seq vs _ => (match o.cls with | .type t => decide (t = "tuple") | _ => false) && o.dict.isNone && decide (o.slots.size = 0) && decide (vs.toList.length = xs.length) && (vs.toList.zip xs).all fun q => r q.1 q.2
  | _ => false
noncomputable def repS (h : Heap) (r : Value → PyData → Bool) (v : Value) (d : PyData) : Bool := match d with
  | .bool b => (match v with | .bool a => a == b | _ => false)
  | .int j => (match v with | .int i _ => decide (i = j) | _ => false)
  | .str y => (match v with | .str x _ => decide (x = y) | _ => false)
  | .tuple xs => (match v with | .ref a => (h.get? a).any fun o => tupS r o xs | _ => false)
  | _ => false
noncomputable def repH (h : Heap) : Nat → Value → PyData → Bool
  | 0 => fun _ _ => false
  | n + 1 => repS h (repH h n)
noncomputable def tabG (x : Str) : Option PyData := ((prg.main.body.drop 17).take 8).findSome? fun st => (tabOf st).bind fun q => if q.1 = x then some q.2 else none
noncomputable def tabsL : List (Str × PyData) := ((prg.main.body.drop 17).take 8).filterMap tabOf
/-- what is read of the heap when the top has run: the tables, and that no built-in is hidden -/
noncomputable def obsT (s : Shared) : Bool := s.heap.isNs mainGlobals && (tabsL.all fun q => (s.heap.nsMap mainGlobals q.1).any fun v => repH s.heap 12 v q.2) && bltNames.all fun x => (s.heap.nsMap mainGlobals x).isNone
/-- the text's functions, as the library lists them -/
noncomputable def fnPos (n : Nat) : Pos := match prg.main.body[n]? with | some (.FunctionDef _ _ _ _ _ _ _ _ _ p) => p | _ => default
noncomputable def recL : List DefRec := (List.range 36).filterMap fun n => (fnS n).map fun s => ⟨fnT n, fnP n, fnB n, s, fnPos n⟩
/-- the text without its two lines that name the module -/
noncomputable def vw : Program := view PySem.Challenge.pw_wl_sentry_3u [1, 2, 3, 4, 5, 6, 7, 8, 9, 10, 11, 12, 13, 14, 15, 17, 18, 19, 20, 21, 22, 23, 24, 25, 26, 27, 28, 29, 30, 31, 32, 33, 34, 35]
theorem said0 : PySem.Challenge.rw_wl_sentry_3u.wellSaid = true := by kernel_rfl
theorem left0 : LeftO PySem.Challenge.rw_wl_sentry_3u.row.prog vw [] (fun s => xlAt vw [] s && recOk (RowW.records PySem.Challenge.rw_wl_sentry_3u.row.toRowW) s) obsT (fun _ => true) 2420 := by
  intro w
  kernel_rfl
theorem recs0 : recsOf vw = recL := by kernel_rfl
noncomputable def lawRec : DefRec := ⟨fnT 35, fnP 35, fnB 35, (fnS 35).getD default, fnPos 35⟩
theorem def0 : defOf vw PySem.Challenge.rw_wl_sentry_3u.row.name = some (lawRec, []) := by kernel_rfl
theorem the0 : PySem.Challenge.rw_wl_sentry_3u.row.prog.theDef PySem.Challenge.rw_wl_sentry_3u.row.name = some (lawRec.params, lawRec.body, lawRec.scope) := by kernel_rfl
theorem kw0 : kwWritten? lawRec.params.kwonlyargs lawRec.params.kw_defaults = some [] := by kernel_rfl
theorem ok0 : (chainsOk vw && opensWell PySem.Challenge.rw_wl_sentry_3u.row.prog && (frees PySem.Challenge.rw_wl_sentry_3u.row.toRowW && PySem.Challenge.rw_wl_sentry_3u.row.within.isEmpty)) = true := by kernel_rfl
theorem bare0 : PySem.Challenge.rw_wl_sentry_3u.row.prog.bare := ⟨rfl, rfl, rfl, rfl, rfl, by decide +kernel⟩
theorem prom0 : PySem.Challenge.rw_wl_sentry_3u.row.toRowW.promised := by
  w_on
  w_witness2
theorem law_name : lawRec.name = "law" := by kernel_rfl
end Mine
end

section
set_option linter.unusedVariables false
namespace Mine
open PySem PyProof.Rows

/-- a dict of ints or of strs as keys, its pairs in order -/
noncomputable def IsDP (p : Program) (w : World) (h : Heap) (a : Addr) (kvs : List (PyData × Value)) : Prop :=
  (a == sysModules) = false ∧
  ((∃ ks : List (Int × Value), kvs = ks.map (fun q => (.int q.1, q.2)) ∧ h.DictOf (intKind p w) a ks) ∨
  (∃ ks : List (Str × Value), kvs = ks.map (fun q => (.str q.1, q.2)) ∧ h.DictOf (strKind p w) a ks))
theorem IsDP.at {p : Program} {w : World} {h h' : Heap} {a : Addr} {kvs : List (PyData × Value)} (x : IsDP p w h a kvs) (k : ∀ o, h.get? a = some o → h'.get? a = some o) : IsDP p w h' a kvs :=
  ⟨x.1, x.2.imp (fun ⟨ks, e, d⟩ => ⟨ks, e, d.at k⟩) fun ⟨ks, e, d⟩ => ⟨ks, e, d.at k⟩⟩
theorem IsDP.get {p : Program} {w : World} {h : Heap} {a : Addr} {kvs : List (PyData × Value)} (x : IsDP p w h a kvs) : ∃ o, h.get? a = some o := by
  rcases x.2 with ⟨ks, e, o, es, ep, ho, _⟩ | ⟨ks, e, o, es, ep, ho, _⟩ <;> exact ⟨o, ho⟩

mutual
inductive Rep (p : Program) (w : World) (h : Heap) (X : Addr → Prop) : Value → PyData → Prop
  | none : Rep p w h X .none .none
  | bool (b : Bool) : Rep p w h X (.bool b) (.bool b)
  | int (i : Int) (t : Tok) : Rep p w h X (.int i t) (.int i)
  | str (x : Str) (t : Tok) : Rep p w h X (.str x t) (.str x)
  | list {a : Addr} {vs : Array Value} {n : Nat} {xs : List PyData} : ¬ X a → IsL h a vs n → RepAll p w h X vs.toList xs → Rep p w h X (.ref a) (.list xs)
  | tuple {a : Addr} {vs : Array Value} {n : Nat} {xs : List PyData} : ¬ X a → IsT h a vs n → RepAll p w h X vs.toList xs → Rep p w h X (.ref a) (.tuple xs)
  | dict {a : Addr} {kvs : List (PyData × Value)} {kds : List (PyData × PyData)} : ¬ X a → IsDP p w h a kvs → RepKV p w h X kvs kds → Rep p w h X (.ref a) (.dict kds)
inductive RepAll (p : Program) (w : World) (h : Heap) (X : Addr → Prop) : List Value → List PyData → Prop
  | nil : RepAll p w h X [] []
  | cons {v : Value} {vs : List Value} {d : PyData} {ds : List PyData} : Rep p w h X v d → RepAll p w h X vs ds → RepAll p w h X (v :: vs) (d :: ds)
inductive RepKV (p : Program) (w : World) (h : Heap) (X : Addr → Prop) : List (PyData × Value) → List (PyData × PyData) → Prop
  | nil : RepKV p w h X [] []
  | cons {k : PyData} {v : Value} {r : List (PyData × Value)} {d : PyData} {kds : List (PyData × PyData)} : Rep p w h X v d → RepKV p w h X r kds → RepKV p w h X ((k, v) :: r) ((k, d) :: kds)
end

/-- what a heap and a set of loose addresses must keep -/
noncomputable def Ext (X : Addr → Prop) (h : Heap) (X' : Addr → Prop) (h' : Heap) : Prop := ∀ b o, ¬ X b → h.get? b = some o → ¬ X' b ∧ h'.get? b = some o

section
variable {p : Program} {w : World} {h h' : Heap} {X X' : Addr → Prop}
mutual
theorem Rep.mono (k : Ext X h X' h') : ∀ {v d}, Rep p w h X v d → Rep p w h' X' v d
  | _, _, .none => .none
  | _, _, .bool b => .bool b
  | _, _, .int i t => .int i t
  | _, _, .str x t => .str x t
  | _, _, .list hx hl r => .list (k _ _ hx hl).1 (k _ _ hx hl).2 (RepAll.mono k r)
  | _, _, .tuple hx hl r => .tuple (k _ _ hx hl).1 (k _ _ hx hl).2 (RepAll.mono k r)
  | _, _, .dict hx hl r => .dict (let ⟨o, e⟩ := hl.get; (k _ o hx e).1) (hl.at fun o e => (k _ o hx e).2) (RepKV.mono k r)
theorem RepAll.mono (k : Ext X h X' h') : ∀ {vs ds}, RepAll p w h X vs ds → RepAll p w h' X' vs ds
  | _, _, .nil => .nil
  | _, _, .cons a r => .cons (Rep.mono k a) (RepAll.mono k r)
theorem RepKV.mono (k : Ext X h X' h') : ∀ {es kvs}, RepKV p w h X es kvs → RepKV p w h' X' es kvs
  | _, _, .nil => .nil
  | _, _, .cons a r => .cons (Rep.mono k a) (RepKV.mono k r)
end
theorem Ext.keep (k : ∀ b o, h.get? b = some o → h'.get? b = some o) : Ext X h X h' := fun b o hx e => ⟨hx, k b o e⟩
theorem Ext.sub (k : ∀ a, X' a → X a) : Ext X h X' h := fun b _ hx e => ⟨fun q => hx (k b q), e⟩
/-- the set may grow by addresses that hold nothing -/
theorem Ext.more (k : ∀ b o, h.get? b = some o → h'.get? b = some o) (n : ∀ a, X' a → X a ∨ h.get? a = none) : Ext X h X' h' :=
  fun b o hx e => ⟨fun q => (n b q).elim hx (fun z => nomatch (z.symm.trans e)), k b o e⟩

mutual
theorem Rep.reads : ∀ {v d}, Rep p w h X v d → d.canLay0 = true → ∃ as, Reads h v d as
  | _, _, .none, _ => ⟨_, .none⟩
  | _, _, .bool b, _ => ⟨_, .bool b⟩
  | _, _, .int i t, _ => ⟨_, .int i t⟩
  | _, _, .str x t, _ => ⟨_, .str x t⟩
  | _, _, .list _ hl r, c => let ⟨_, q⟩ := RepAll.reads r (by simpa [PyData.canLay0] using c); ⟨_, .list hl rfl rfl q⟩
  | _, _, .tuple _ hl r, c => let ⟨_, q⟩ := RepAll.reads r (by simpa [PyData.canLay0] using c); ⟨_, .tuple hl rfl rfl q⟩
  | _, _, .dict _ hl r, c => by simp [PyData.canLay0] at c
theorem RepAll.reads : ∀ {vs ds}, RepAll p w h X vs ds → PyData.canLayAll0 ds = true → ∃ as, ReadsAll h vs ds as
  | _, _, .nil, _ => ⟨_, .nil⟩
  | _, _, .cons a r, c => by
    simp only [PyData.canLayAll0, Bool.and_eq_true] at c
    obtain ⟨_, p⟩ := Rep.reads a c.1
    obtain ⟨_, q⟩ := RepAll.reads r c.2
    exact ⟨_, .cons p q⟩
end

theorem RepAll.length : ∀ {vs ds}, RepAll p w h X vs ds → vs.length = ds.length
  | _, _, .nil => rfl
  | _, _, .cons _ r => congrArg (· + 1) r.length
theorem RepAll.get : ∀ {vs ds}, RepAll p w h X vs ds → ∀ (i : Nat) {d}, ds[i]? = some d → ∃ v, vs[i]? = some v ∧ Rep p w h X v d
  | _, _, .nil, i, d, e => by simp at e
  | _, _, .cons a r, 0, d, e => by simp at e; subst e; exact ⟨_, rfl, a⟩
  | _, _, .cons a r, i + 1, d, e => by simpa using r.get i (by simpa using e)
theorem RepAll.get' : ∀ {vs ds}, RepAll p w h X vs ds → ∀ (i : Nat) {v}, vs[i]? = some v → ∃ d, ds[i]? = some d ∧ Rep p w h X v d
  | _, _, .nil, i, d, e => by simp at e
  | _, _, .cons a r, 0, d, e => by simp at e; subst e; exact ⟨_, rfl, a⟩
  | _, _, .cons a r, i + 1, d, e => by simpa using r.get' i (by simpa using e)
theorem RepAll.append : ∀ {vs ds vs' ds'}, RepAll p w h X vs ds → RepAll p w h X vs' ds' → RepAll p w h X (vs ++ vs') (ds ++ ds')
  | _, _, _, _, .nil, q => q
  | _, _, _, _, .cons a r, q => .cons a (r.append q)
theorem RepAll.take : ∀ {vs ds}, RepAll p w h X vs ds → ∀ n, RepAll p w h X (vs.take n) (ds.take n)
  | _, _, _, 0 => .nil
  | _, _, .nil, _ + 1 => .nil
  | _, _, .cons a r, n + 1 => .cons a (r.take n)
theorem RepAll.drop : ∀ {vs ds}, RepAll p w h X vs ds → ∀ n, RepAll p w h X (vs.drop n) (ds.drop n)
  | _, _, q, 0 => q
  | _, _, .nil, _ + 1 => .nil
  | _, _, .cons _ r, n + 1 => r.drop n
theorem RepAll.set : ∀ {vs ds}, RepAll p w h X vs ds → ∀ (i : Nat) {v d}, Rep p w h X v d → RepAll p w h X (vs.set i v) (ds.set i d)
  | _, _, .nil, _, _, _, _ => .nil
  | _, _, .cons _ r, 0, _, _, q => .cons q r
  | _, _, .cons a r, i + 1, _, _, q => .cons a (r.set i q)
theorem RepKV.length : ∀ {es kvs}, RepKV p w h X es kvs → es.length = kvs.length
  | _, _, .nil => rfl
  | _, _, .cons _ r => congrArg (· + 1) r.length
theorem RepKV.keys : ∀ {es kvs}, RepKV p w h X es kvs → es.map (·.1) = kvs.map (·.1)
  | _, _, .nil => rfl
  | _, _, .cons _ r => by simp only [List.map_cons, r.keys]
theorem RepKV.vals : ∀ {es kvs}, RepKV p w h X es kvs → RepAll p w h X (es.map (·.2)) (kvs.map (·.2))
  | _, _, .nil => .nil
  | _, _, .cons a r => .cons a r.vals
theorem RepKV.append : ∀ {vs ds vs' ds'}, RepKV p w h X vs ds → RepKV p w h X vs' ds' → RepKV p w h X (vs ++ vs') (ds ++ ds')
  | _, _, _, _, .nil, q => q
  | _, _, _, _, .cons a r, q => .cons a (r.append q)

/-- the top of a list or a dict that is the frame's own -/
noncomputable def TopR (p : Program) (w : World) (h : Heap) (X : Addr → Prop) (a : Addr) : PyData → Prop
  | .list xs => ∃ vs n, IsL h a vs n ∧ RepAll p w h X vs.toList xs
  | .dict kvs => ∃ es, IsDP p w h a es ∧ RepKV p w h X es kvs
  | _ => False
theorem TopR.mono {a : Addr} {d : PyData} (t : TopR p w h X a d) (k : Ext X h X' h') (ha : ∀ o, h.get? a = some o → h'.get? a = some o) : TopR p w h' X' a d := by
  cases d <;> first | exact t.elim | (obtain ⟨vs, n, hl, r⟩ := t; exact ⟨vs, n, ha _ hl, RepAll.mono k r⟩) | (obtain ⟨vs, hl, r⟩ := t; exact ⟨vs, hl.at ha, RepKV.mono k r⟩)
theorem TopR.rep {a : Addr} {d : PyData} (t : TopR p w h X a d) (hx : ¬ X a) : Rep p w h X (.ref a) d := by
  cases d <;> first | exact t.elim | (obtain ⟨vs, n, hl, r⟩ := t; exact .list hx hl r) | (obtain ⟨vs, hl, r⟩ := t; exact .dict hx hl r)
theorem TopR.alive {a : Addr} {d : PyData} (t : TopR p w h X a d) : ∃ o, h.get? a = some o := by
  cases d <;> first | exact t.elim | (obtain ⟨vs, n, hl, r⟩ := t; exact ⟨_, hl⟩) | (obtain ⟨vs, hl, r⟩ := t; exact hl.get)

/-- a value that may be a frame's own list or dict, or frozen -/
noncomputable def RepB (p : Program) (w : World) (h : Heap) (X : Addr → Prop) (v : Value) (d : PyData) : Prop := Rep p w h X v d ∨ ∃ a, v = .ref a ∧ TopR p w h X a d
theorem RepB.mono {v : Value} {d : PyData} (r : RepB p w h X v d) (k : ∀ b o, h.get? b = some o → h'.get? b = some o) : RepB p w h' X v d :=
  r.elim (fun r => .inl (r.mono (Ext.keep k))) fun ⟨a, e, t⟩ => .inr ⟨a, e, t.mono (Ext.keep k) fun o q => k a o q⟩
theorem RepB.list {v : Value} {xs : List PyData} (r : RepB p w h X v (.list xs)) : ∃ a vs n, v = .ref a ∧ IsL h a vs n ∧ RepAll p w h X vs.toList xs := by
  rcases r with r | ⟨a, e, t⟩
  · cases r with | list hx hl q => exact ⟨_, _, _, rfl, hl, q⟩
  · obtain ⟨vs, n, hl, q⟩ := t; exact ⟨a, vs, n, e, hl, q⟩
theorem RepB.dict {v : Value} {kvs : List (PyData × PyData)} (r : RepB p w h X v (.dict kvs)) : ∃ a es, v = .ref a ∧ IsDP p w h a es ∧ RepKV p w h X es kvs := by
  rcases r with r | ⟨a, e, t⟩
  · cases r with | dict hx hl q => exact ⟨_, _, rfl, hl, q⟩
  · obtain ⟨vs, hl, q⟩ := t; exact ⟨a, vs, e, hl, q⟩
theorem RepB.tuple {v : Value} {xs : List PyData} (r : RepB p w h X v (.tuple xs)) : ∃ a vs n, v = .ref a ∧ IsT h a vs n ∧ RepAll p w h X vs.toList xs := by
  rcases r with r | ⟨a, e, t⟩
  · cases r with | tuple hx hl q => exact ⟨_, _, _, rfl, hl, q⟩
  · exact t.elim
theorem RepB.tupleRep {v : Value} {xs : List PyData} (r : RepB p w h X v (.tuple xs)) : Rep p w h X v (.tuple xs) := r.elim id fun ⟨_, _, t⟩ => t.elim
theorem RepB.int {v : Value} {i : Int} (r : RepB p w h X v (.int i)) : ∃ t, v = .int i t := by
  rcases r with r | ⟨a, e, t⟩
  · cases r with | int i t => exact ⟨t, rfl⟩
  · exact t.elim
theorem RepB.bool {v : Value} {b : Bool} (r : RepB p w h X v (.bool b)) : v = .bool b := by
  rcases r with r | ⟨a, e, t⟩
  · cases r; rfl
  · exact t.elim
theorem RepB.str {v : Value} {i : Str} (r : RepB p w h X v (.str i)) : ∃ t, v = .str i t := by
  rcases r with r | ⟨a, e, t⟩
  · cases r with | str i t => exact ⟨t, rfl⟩
  · exact t.elim
theorem RepB.none {v : Value} (r : RepB p w h X v .none) : v = .none := by
  rcases r with r | ⟨a, e, t⟩
  · cases r; rfl
  · exact t.elim
theorem RepB.reads {v : Value} {d : PyData} (r : RepB p w h X v d) (c : d.canLay0 = true) : ∃ as, Reads h v d as := by
  rcases r with r | ⟨a, rfl, t⟩
  · exact r.reads c
  · cases d <;> first | exact t.elim | (obtain ⟨vs, n, hl, r⟩ := t; exact (let ⟨_, q⟩ := RepAll.reads r (by simpa [PyData.canLay0] using c); ⟨_, .list hl rfl rfl q⟩)) | (simp [PyData.canLay0] at c)
end
end Mine
end

section
set_option linter.unusedVariables false
namespace Mine
open PySem PyProof.Rows

noncomputable abbrev Names := List (Str × NameKind)
structure Slot where
  d : PyData
  own : Bool
noncomputable abbrev PEnv := Str → Option Slot
noncomputable def PEnv.set (pe : PEnv) (x : Str) (d : PyData) (o : Bool := false) : PEnv := fun y => if y = x then some ⟨d, o⟩ else pe y
noncomputable def PEnv.frz (pe : PEnv) : PEnv := fun y => (pe y).map fun s => ⟨s.d, false⟩

/-- the fixed surroundings of all calls -/
structure Cx where
  prog : Program
  w : World
  h₀ : Heap
  mg : Str → Option Value
  mb : Str → Option Value
  G : Str → Option PyData

structure Gd (c : Cx) : Prop where
  g : c.h₀.Ns mainGlobals c.mg
  b : c.h₀.Ns builtinsNs c.mb
  nolimit : c.h₀.NoLimit
  blt : ∀ x ∈ bltNames, c.mg x = none ∧ c.mb x = bootBuiltins x
  tab : ∀ x d, c.G x = some d → ∃ v, c.mg x = some v ∧ Rep c.prog c.w c.h₀ (fun _ => False) v d

structure Room (l : Nat) (A : Around) : Prop where
  hd : A.handled = none
  dep : A.depth + l < recursionLimit
  un : A.units + 100 * l + 100 < cLine

theorem Room.mono {l l' : Nat} {A : Around} (r : Room l A) (h : l' ≤ l) : Room l' A :=
  ⟨r.hd, by have := r.dep; omega, by have := r.un; omega⟩
theorem Room.deeper {l : Nat} {A : Around} (r : Room (l + 1) A) (env : Env) : Room l (A.deeper env) :=
  ⟨r.hd, by have := r.dep; show A.depth + 1 + l < _; omega, by have := r.un; show A.units + 3 + 100 * l + 100 < _; omega⟩

structure SInv (c : Cx) (X : Addr → Prop) (s : Shared) : Prop where
  kept : ∀ b o, c.h₀.get? b = some o → s.heap.get? b = some o
  xa : ∀ a, X a → c.h₀.get? a = none ∧ ∃ o, s.heap.get? a = some o

structure Gr (s s' : Shared) : Prop where
  same : ∃ h t, s' = { s with heap := h, toks := t }
  keep : ∀ b o, s.heap.get? b = some o → s'.heap.get? b = some o
theorem Gr.refl (s : Shared) : Gr s s := ⟨⟨s.heap, s.toks, rfl⟩, fun _ _ e => e⟩
theorem Gr.trans {s s' s'' : Shared} (a : Gr s s') (b : Gr s' s'') : Gr s s'' := by
  refine ⟨?_, fun x o e => b.keep x o (a.keep x o e)⟩
  obtain ⟨h, t, rfl⟩ := a.same
  obtain ⟨h', t', rfl⟩ := b.same
  exact ⟨h', t', rfl⟩
theorem Gr.toks (s : Shared) (t : Nat) : Gr s { s with toks := t } := ⟨⟨s.heap, t, rfl⟩, fun _ _ e => e⟩
theorem Gr.push (s : Shared) (o : Obj) : Gr s { s with heap := s.heap.push o } := ⟨⟨_, s.toks, rfl⟩, fun _ _ e => Heap.get?_push_of_some o e⟩
theorem Gr.heap (s : Shared) {h : Heap} (k : ∀ b o, s.heap.get? b = some o → h.get? b = some o) (t : Nat) : Gr s { s with heap := h, toks := t } := ⟨⟨h, t, rfl⟩, k⟩

theorem SInv.grow {c : Cx} {X : Addr → Prop} {s s' : Shared} (i : SInv c X s) (k : Gr s s') : SInv c X s' :=
  ⟨fun b o e => k.keep b o (i.kept b o e), fun a q => ⟨(i.xa a q).1, let ⟨o, e⟩ := (i.xa a q).2; ⟨o, k.keep a o e⟩⟩⟩

noncomputable def SlotR (p : Program) (w : World) (h : Heap) (X : Addr → Prop) (v : Value) (sl : Slot) : Prop :=
  match sl.own with
  | false => Rep p w h X v sl.d
  | true => ∃ a, v = .ref a ∧ TopR p w h X a sl.d
theorem SlotR.repB {p : Program} {w : World} {h : Heap} {X : Addr → Prop} {v : Value} {sl : Slot} (r : SlotR p w h X v sl) : RepB p w h X v sl.d := by
  obtain ⟨d, o⟩ := sl
  cases o with
  | false => exact .inl r
  | true => exact .inr r
theorem SlotR.keep {p : Program} {w : World} {h h' : Heap} {X : Addr → Prop} {v : Value} {sl : Slot} (r : SlotR p w h X v sl) (k : ∀ b o, h.get? b = some o → h'.get? b = some o) : SlotR p w h' X v sl := by
  obtain ⟨d, o⟩ := sl
  cases o with
  | false => exact Rep.mono (Ext.keep k) r
  | true => exact let ⟨a, e, t⟩ := r; ⟨a, e, t.mono (Ext.keep k) fun o q => k a o q⟩

noncomputable def VarR (p : Program) (w : World) (h : Heap) (X : Addr → Prop) (env : Env) (nm : Names) (x : Str) (sl : Slot) : Prop :=
  (nm.lookup x = some .local ∧ ∃ v m, h.Ns env.locals m ∧ m x = some v ∧ SlotR p w h X v sl) ∨
  (nm.lookup x = some .cell ∧ ∃ v cc, env.cells.lookup x = some cc ∧ h.IsCell cc (some v) ∧ SlotR p w h X v sl)
theorem VarR.keep {p : Program} {w : World} {h h' : Heap} {X : Addr → Prop} {env : Env} {nm : Names} {x : Str} {sl : Slot} (r : VarR p w h X env nm x sl) (k : ∀ b o, h.get? b = some o → h'.get? b = some o) : VarR p w h' X env nm x sl :=
  r.imp (fun ⟨a, v, m, n, e, q⟩ => ⟨a, v, m, n.keeps k, e, q.keep k⟩) fun ⟨a, v, cc, n, e, q⟩ => ⟨a, v, cc, n, e.keeps k, q.keep k⟩

structure EInv (c : Cx) (X : Addr → Prop) (env : Env) (nm : Names) (pe : PEnv) (s : Shared) : Prop extends SInv c X s where
  kind : env.scope.kind = .function
  names : env.scope.names = nm
  glob : env.globals = mainGlobals
  blt : env.builtins = builtinsNs
  vars : ∀ x sl, pe x = some sl → VarR c.prog c.w s.heap X env nm x sl
theorem EInv.grow {c : Cx} {X : Addr → Prop} {env : Env} {nm : Names} {pe : PEnv} {s s' : Shared} (i : EInv c X env nm pe s) (k : Gr s s') : EInv c X env nm pe s' :=
  { i.toSInv.grow k with kind := i.kind, names := i.names, glob := i.glob, blt := i.blt, vars := fun x sl e => (i.vars x sl e).keep k.keep }

noncomputable abbrev noE : Value → Shared → Prop := fun _ _ => False
/-- the end of an expression: the heap is kept, the value stands for a datum that K takes -/
noncomputable def Post (c : Cx) (X : Addr → Prop) (s : Shared) (K : PyData → Prop) (v : Value) (s' : Shared) : Prop := Gr s s' ∧ ∃ d, K d ∧ Rep c.prog c.w s'.heap X v d
noncomputable def PostB (c : Cx) (X : Addr → Prop) (s : Shared) (K : PyData → Prop) (v : Value) (s' : Shared) : Prop := Gr s s' ∧ ∃ d, K d ∧ RepB c.prog c.w s'.heap X v d
noncomputable def PostT (s : Shared) (K : Bool → Prop) (b : Bool) (s' : Shared) : Prop := Gr s s' ∧ K b
/-- a new object that nothing else holds -/
noncomputable def PostF (c : Cx) (X : Addr → Prop) (s : Shared) (K : PyData → Prop) (v : Value) (s' : Shared) : Prop :=
  Gr s s' ∧ ∃ d a, K d ∧ v = .ref a ∧ s.heap.get? a = none ∧ TopR c.prog c.w s'.heap (fun b => X b ∨ b = a) a d

theorem Post.of {c : Cx} {X : Addr → Prop} {s s₁ s' : Shared} {K : PyData → Prop} {v : Value} (k : Gr s s₁) (p : Post c X s₁ K v s') : Post c X s K v s' := ⟨k.trans p.1, p.2⟩
theorem PostB.of {c : Cx} {X : Addr → Prop} {s s₁ s' : Shared} {K : PyData → Prop} {v : Value} (k : Gr s s₁) (p : PostB c X s₁ K v s') : PostB c X s K v s' := ⟨k.trans p.1, p.2⟩
theorem PostT.of {s s₁ s' : Shared} {K : Bool → Prop} {v : Bool} (k : Gr s s₁) (p : PostT s₁ K v s') : PostT s K v s' := ⟨k.trans p.1, p.2⟩
theorem PostF.of {c : Cx} {X : Addr → Prop} {s s₁ s' : Shared} {K : PyData → Prop} {v : Value} (k : Gr s s₁) (p : PostF c X s₁ K v s') : PostF c X s K v s' := by
  obtain ⟨k', d, a, hK, e, hn, t⟩ := p
  refine ⟨k.trans k', d, a, hK, e, ?_, t⟩
  cases hh : s.heap.get? a with
  | none => rfl
  | some o => rw [k.keep a o hh] at hn; cases hn
theorem PostF.post {c : Cx} {X : Addr → Prop} {s s' : Shared} {K : PyData → Prop} {v : Value} (i : SInv c X s) (p : PostF c X s K v s') : Post c X s K v s' := by
  obtain ⟨k', d, a, hK, rfl, hn, t⟩ := p
  have hx : ¬ X a := fun q => by obtain ⟨o, e⟩ := (i.xa a q).2; rw [hn] at e; cases e
  exact ⟨k', d, hK, (t.mono (Ext.sub fun b q => .inl q) fun _ e => e).rep hx⟩
theorem Post.toB {c : Cx} {X : Addr → Prop} {s s' : Shared} {K : PyData → Prop} {v : Value} (p : Post c X s K v s') : PostB c X s K v s' := ⟨p.1, let ⟨d, k, r⟩ := p.2; ⟨d, k, .inl r⟩⟩

section
variable (c : Cx) (l : Nat) (nm : Names) (pe : PEnv)
noncomputable def EvS (e : Expr) (K : PyData → Prop) : Prop := ∀ X env A s, Room l A → EInv c X env nm pe s → wpAny (model c.prog c.w) A (eval e env) (Post c X s K) noE s
noncomputable def EvB (e : Expr) (K : PyData → Prop) : Prop := ∀ X env A s, Room l A → EInv c X env nm pe s → wpAny (model c.prog c.w) A (eval e env) (PostB c X s K) noE s
noncomputable def EvT (e : Expr) (K : Bool → Prop) : Prop := ∀ X env A s, Room l A → EInv c X env nm pe s → wpAny (model c.prog c.w) A (isTrue e env (eval e env)) (PostT s K) noE s
noncomputable def EvF (e : Expr) (K : PyData → Prop) : Prop := ∀ X env A s, Room l A → EInv c X env nm pe s → wpAny (model c.prog c.w) A (eval e env) (PostF c X s K) noE s
end

section
variable {c : Cx} {l : Nat} {X : Addr → Prop} {env : Env} {nm : Names} {pe : PEnv} {K K' : PyData → Prop} {e : Expr}
theorem EvS.mono (h : EvS c l nm pe e K) (k : ∀ d, K d → K' d) : EvS c l nm pe e K' :=
  fun X env A s r i => wpAny_mono (h X env A s r i) (fun _ _ p => ⟨p.1, let ⟨d, q, z⟩ := p.2; ⟨d, k d q, z⟩⟩) fun _ _ f => f
theorem EvB.mono (h : EvB c l nm pe e K) (k : ∀ d, K d → K' d) : EvB c l nm pe e K' :=
  fun X env A s r i => wpAny_mono (h X env A s r i) (fun _ _ p => ⟨p.1, let ⟨d, q, z⟩ := p.2; ⟨d, k d q, z⟩⟩) fun _ _ f => f
theorem EvF.mono (h : EvF c l nm pe e K) (k : ∀ d, K d → K' d) : EvF c l nm pe e K' :=
  fun X env A s r i => wpAny_mono (h X env A s r i) (fun _ _ p => ⟨p.1, let ⟨d, a, q, z⟩ := p.2; ⟨d, a, k d q, z⟩⟩) fun _ _ f => f
theorem EvT.mono {K K' : Bool → Prop} (h : EvT c l nm pe e K) (k : ∀ d, K d → K' d) : EvT c l nm pe e K' :=
  fun X env A s r i => wpAny_mono (h X env A s r i) (fun _ _ p => ⟨p.1, k _ p.2⟩) fun _ _ f => f
theorem EvS.toB (h : EvS c l nm pe e K) : EvB c l nm pe e K := fun X env A s r i => wpAny_mono (h X env A s r i) (fun _ _ p => p.toB) fun _ _ f => f
theorem EvF.toS (h : EvF c l nm pe e K) : EvS c l nm pe e K := fun X env A s r i => wpAny_mono (h X env A s r i) (fun _ _ p => p.post i.toSInv) fun _ _ f => f

theorem SInv.nolimit (gd : Gd c) {s : Shared} (i : SInv c X s) : s.heap.NoLimit := gd.nolimit.keeps i.kept
theorem SInv.g (gd : Gd c) {s : Shared} (i : SInv c X s) : s.heap.Ns mainGlobals c.mg := gd.g.keeps i.kept
theorem SInv.b (gd : Gd c) {s : Shared} (i : SInv c X s) : s.heap.Ns builtinsNs c.mb := gd.b.keeps i.kept

theorem EvS_int {i : Int} {k pos} (h : K (.int i)) : EvS c l nm pe (.Constant (.int i) k pos) K :=
  fun X env A s r _ => wpAny_Constant_int ⟨.toks .., _, h, .int ..⟩
theorem EvS_str {i : Str} {k pos} (h : K (.str i)) : EvS c l nm pe (.Constant (.str i) k pos) K :=
  fun X env A s r _ => Calls.Constant_str ⟨.toks .., _, h, .str ..⟩
theorem EvS_bool {i : Bool} {k pos} (h : K (.bool i)) : EvS c l nm pe (.Constant (.bool i) k pos) K :=
  fun X env A s r _ => wpAny_pure ⟨.refl .., _, h, .bool ..⟩
theorem EvS_none {k pos} (h : K .none) : EvS c l nm pe (.Constant .none k pos) K :=
  fun X env A s r _ => wpAny_pure ⟨.refl .., _, h, .none⟩

theorem loadVar {A : Around} {s : Shared} {x : Str} {sl : Slot} {Q : Value → Shared → Prop} (i : EInv c X env nm pe s) (hp : pe x = some sl)
    (h : ∀ v, SlotR c.prog c.w s.heap X v sl → Q v s) : wpAny (model c.prog c.w) A (loadName env x) Q noE s := by
  rcases i.vars x sl hp with ⟨a, v, m, n, e, q⟩ | ⟨a, v, cc, n, e, q⟩
  · exact wpAny_loadName_local i.kind (by show env.scope.names.lookup x = _; rw [i.names]; exact a) n e (h v q)
  · exact wpAny_loadName_cell i.kind (by show env.scope.names.lookup x = _; rw [i.names]; exact a) n e (h v q)

theorem EvB_var {x : Str} {pos} {sl : Slot} (hd : (x == ("__debug__" : Str)) = false) (hp : pe x = some sl) (h : K sl.d) : EvB c l nm pe (.Name x pos) K :=
  fun _ _ _ _ _ i => wpAny_Name (loadVar i hp fun v q => ⟨.refl .., _, h, q.repB⟩) hd
theorem EvS_var {x : Str} {pos} {d : PyData} (hd : (x == ("__debug__" : Str)) = false) (hp : pe x = some ⟨d, false⟩) (h : K d) : EvS c l nm pe (.Name x pos) K :=
  fun _ _ _ _ _ i => wpAny_Name (loadVar i hp fun v q => ⟨.refl .., _, h, q⟩) hd

theorem EvS_tab (gd : Gd c) {x : Str} {pos} {d : PyData} (hd : (x == ("__debug__" : Str)) = false) (hk : nm.lookup x = some .globalImplicit) (hp : c.G x = some d) (h : K d) :
    EvS c l nm pe (.Name x pos) K := fun _ env _ s _ i => by
  obtain ⟨v, hv, rv⟩ := gd.tab x d hp
  refine Calls.Name_function_global i.kind (by show env.scope.names.lookup x = _; rw [i.names]; exact hk) (Calls.loadGlobal_global (by rw [i.glob]; exact i.toSInv.g gd) hv ?_) hd
  exact ⟨.refl .., _, h, rv.mono fun b o _ e => ⟨(fun q => nomatch ((i.xa b q).1.symm.trans e)), i.kept b o e⟩⟩

theorem evalBlt (gd : Gd c) {A : Around} {s : Shared} {x : Str} {pos} {v : Value} {Q : Value → Shared → Prop} (i : EInv c X env nm pe s) (hm : x ∈ bltNames) (hk : nm.lookup x = some .globalImplicit)
    (hv : bootBuiltins x = some v) (h : Q v s) (hd : (x == ("__debug__" : Str)) = false := by decide) : wpAny (model c.prog c.w) A (eval (.Name x pos) env) Q noE s :=
  Calls.Name_function_global i.kind (by show env.scope.names.lookup x = _; rw [i.names]; exact hk)
    (Calls.loadGlobal_builtin (by rw [i.glob]; exact i.toSInv.g gd) (gd.blt x hm).1 (by rw [i.blt]; exact i.toSInv.b gd) ((gd.blt x hm).2.trans hv) h) hd
end
end Mine
end

section
set_option linter.unusedVariables false
namespace Mine
open PySem PyProof.Rows

noncomputable abbrev lim : Nat := 100000
theorem lim_le : lim ≤ sizeLine := by rw [sizeLine_eq]; decide

inductive FrR (K : PyData → Prop) : Operator → PyData → PyData → Prop
  | addL {xs ys : List PyData} : xs.length + ys.length ≤ lim → K (.list (xs ++ ys)) → FrR K .Add (.list xs) (.list ys)
  | mulL {xs : List PyData} {n : Int} : 0 ≤ n ∧ n ≤ 1000 ∧ xs.length ≤ 10 → K (.list (List.replicate n.toNat xs).flatten) → FrR K .Mult (.list xs) (.int n)
noncomputable def frW (op : Operator) (a b : PyData) (K : PyData → Prop) : Prop := FrR K op a b

inductive BinR (K : PyData → Prop) : Operator → PyData → PyData → Prop
  | addI {x y : Int} : K (.int (x + y)) → BinR K .Add (.int x) (.int y)
  | subI {x y : Int} : K (.int (x - y)) → BinR K .Sub (.int x) (.int y)
  | mulI {x y : Int} : x.natAbs < 2 ^ 32 → K (.int (x * y)) → BinR K .Mult (.int x) (.int y)
  | modI {x y : Int} : y ≠ 0 → K (.int (x.fmod y)) → BinR K .Mod (.int x) (.int y)
  | divI {x y : Int} : y ≠ 0 → y.natAbs < 2 ^ 20 → K (.int (x.fdiv y)) → BinR K .FloorDiv (.int x) (.int y)
  | powI {x y : Int} : 0 ≤ y ∧ y ≤ 1000 ∧ x.natAbs < 2 ^ 32 → K (.int (x ^ y.toNat)) → BinR K .Pow (.int x) (.int y)
  | addT {xs ys : List PyData} : xs.length + ys.length ≤ lim → K (.tuple (xs ++ ys)) → BinR K .Add (.tuple xs) (.tuple ys)
  | fr {op : Operator} {a b : PyData} : frW op a b K → BinR K op a b
noncomputable def binW (op : Operator) (a b : PyData) (K : PyData → Prop) : Prop := BinR K op a b

section
variable {c : Cx} {l : Nat} {X : Addr → Prop} {env : Env} {nm : Names} {pe : PEnv} {K : PyData → Prop} {A : Around} {s : Shared}

theorem fresh_addr (s : Shared) : s.heap.get? s.heap.objs.size = none := Heap.get?_none_of_le (Nat.le_refl _)

theorem postF_list {arr : Array Value} {xs : List PyData} (r : RepAll c.prog c.w s.heap X arr.toList xs) (h : K (.list xs)) :
    PostF c X s K (.ref s.heap.objs.size) { s with heap := s.heap.push { cls := .type "list", data := .seq arr } } :=
  ⟨.push .., _, _, h, rfl, fresh_addr s, arr, 0, IsL.new .., r.mono (Ext.more (fun _ _ e => Heap.get?_push_of_some _ e) fun a q => q.imp id fun e => by rw [e]; exact fresh_addr s)⟩
theorem post_tuple {arr : Array Value} {xs : List PyData} (i : SInv c X s) (r : RepAll c.prog c.w s.heap X arr.toList xs) (h : K (.tuple xs)) :
    Post c X s K (.ref s.heap.objs.size) { s with heap := s.heap.push { cls := .type "tuple", data := .seq arr } } :=
  ⟨.push .., _, h, .tuple (fun q => by obtain ⟨o, e⟩ := (i.xa _ q).2; rw [fresh_addr] at e; cases e) (IsT.new ..) (r.mono (Ext.keep fun _ _ e => Heap.get?_push_of_some _ e))⟩

theorem foldl_replicate (items : Array Value) : ∀ (n : Nat) (acc : Array Value), (List.foldl (fun x1 x2 => x1 ++ x2) acc (List.replicate n items)).toList = acc.toList ++ (List.replicate n items.toList).flatten
  | 0, acc => by simp
  | n + 1, acc => by rw [List.replicate_succ, List.foldl_cons, foldl_replicate items n, List.replicate_succ, List.flatten_cons]; simp
theorem RepAll.rep {p : Program} {w : World} {h : Heap} {vs : List Value} {xs : List PyData} (r : RepAll p w h X vs xs) : ∀ n, RepAll p w h X (List.replicate n vs).flatten (List.replicate n xs).flatten
  | 0 => .nil
  | n + 1 => by rw [List.replicate_succ, List.replicate_succ, List.flatten_cons, List.flatten_cons]; exact r.append (RepAll.rep r n)

theorem frW_sound {op : Operator} {a b : PyData} {va vb : Value} (h : frW op a b K) (ra : RepB c.prog c.w s.heap X va a) (rb : RepB c.prog c.w s.heap X vb b) :
    wpAny (model c.prog c.w) A (binaryOp op va vb) (PostF c X s K) noE s := by
  cases h with
  | addL hle h =>
    obtain ⟨l1, vs1, n1, rfl, hl1, r1⟩ := ra.list
    obtain ⟨l2, vs2, n2, rfl, hl2, r2⟩ := rb.list
    have e1 := r1.length
    have e2 := r2.length
    have := lim_le
    simp only [Array.length_toList] at e1 e2
    exact P.add_list hl1 hl2 (postF_list (by simpa using r1.append r2) h) (by omega)
  | @mulL xs n hle' hK =>
    obtain ⟨l1, vs1, n1, rfl, hl1, r1⟩ := ra.list
    obtain ⟨t, rfl⟩ := rb.int
    obtain ⟨h0, h1, h2⟩ := hle'
    have e1 := r1.length
    simp only [Array.length_toList] at e1
    have hle : vs1.size * n.toNat ≤ 10 * 1000 := Nat.mul_le_mul (by omega) (by omega)
    refine wpAny_binaryOp_repeat_ref (T := "list") (U := "int") (by decide) ⟨_, hl1, rfl⟩ (fun s' => typeIs_int s' n t) noFill_list_mul F.fills_int_mul F.slot_int_rmul repeat_list F.slot_int_index.lookup
      (call_meets F.slot_int_rmul (typeIs_int s n t) F.entry_int_rmul (F.args_int_rmul_2 _ _) (int___rmul___int_list n t l1 vs1 n1)
        ⟨hl1, rfl, ⟨_, hl1, rfl⟩, call_meets F.slot_list_mul ⟨_, hl1, rfl⟩ F.entry_list_mul (F.args_list_mul_2 _ _)
          (AutoListH.list___mul___list_int_3 l1 vs1 n1 n t (by simp [Builtin.List.listFitsIndex]; omega) (by omega) ?_) ⟨hl1, postF_list ?_ hK⟩⟩)
    · simp [Builtin.List.listTooLong, sizeLine]; omega
    · rw [foldl_replicate]
      by_cases he : vs1.isEmpty = true
      · have : vs1 = #[] := by simpa using he
        subst this
        have : xs = [] := by cases xs with
          | nil => rfl
          | cons => simp at e1
        subst this
        simp
        exact .nil
      · simp [he]; exact r1.rep _

theorem binW_sound {op : Operator} {a b : PyData} {va vb : Value} (h : binW op a b K) (i : SInv c X s) (ra : RepB c.prog c.w s.heap X va a) (rb : RepB c.prog c.w s.heap X vb b) :
    wpAny (model c.prog c.w) A (binaryOp op va vb) (Post c X s K) noE s := by
  cases h with
  | addI h =>
    obtain ⟨t, rfl⟩ := ra.int
    obtain ⟨u, rfl⟩ := rb.int
    exact wpAny_add_int ⟨.toks .., _, h, .int ..⟩
  | subI h =>
    obtain ⟨t, rfl⟩ := ra.int
    obtain ⟨u, rfl⟩ := rb.int
    exact PyProof.Rows.sub_int ⟨.toks .., _, h, .int ..⟩
  | mulI h1 h =>
    obtain ⟨t, rfl⟩ := ra.int
    obtain ⟨u, rfl⟩ := rb.int
    exact PyProof.Rows.mul_int ⟨.toks .., _, h, .int ..⟩ (.of_left (intBits_le (by omega)))
  | modI h1 h =>
    obtain ⟨t, rfl⟩ := ra.int
    obtain ⟨u, rfl⟩ := rb.int
    exact mod_int' h1 ⟨.toks .., _, h, .int ..⟩
  | divI h1 h2 h =>
    obtain ⟨t, rfl⟩ := ra.int
    obtain ⟨u, rfl⟩ := rb.int
    exact floordiv_int h1 ⟨.toks .., _, h, .int ..⟩ (.inl (PyProof.noPylong_small (by omega)))
  | powI h1 h =>
    obtain ⟨t, rfl⟩ := ra.int
    obtain ⟨u, rfl⟩ := rb.int
    exact pow_int_small h1.1 (by omega) (by omega) ⟨.toks .., _, h, .int ..⟩
  | @addT xs ys hle h =>
    obtain ⟨l1, vs1, n1, rfl, hl1, r1⟩ := ra.tuple
    obtain ⟨l2, vs2, n2, rfl, hl2, r2⟩ := rb.tuple
    have e1 := r1.length
    have e2 := r2.length
    have := lim_le
    simp only [Array.length_toList] at e1 e2
    by_cases h1 : vs1.isEmpty = true
    · have z : vs1 = #[] := by simpa using h1
      have z' : xs = [] := by rw [z] at e1; cases xs with
        | nil => rfl
        | cons => simp at e1
      refine concat_meets ⟨_, hl1, rfl⟩ ⟨_, hl2, rfl⟩ noFill_tuple_add seq_tuple_add F.slot_tuple_add F.entry_tuple_add (F.args_tuple_add_2 _ _) (AutoSeq1.tuple___add___tuple_tuple_0 l1 vs1 n1 l2 vs2 n2 h1) ⟨hl1, hl2, ?_⟩
      exact ⟨.refl .., _, h, by rw [z']; exact rb.tupleRep⟩
    · by_cases h2 : vs2.isEmpty = true
      · have z : vs2 = #[] := by simpa using h2
        have z' : ys = [] := by rw [z] at e2; cases ys with
          | nil => rfl
          | cons => simp at e2
        refine concat_meets ⟨_, hl1, rfl⟩ ⟨_, hl2, rfl⟩ noFill_tuple_add seq_tuple_add F.slot_tuple_add F.entry_tuple_add (F.args_tuple_add_2 _ _) (AutoSeq1.tuple___add___tuple_tuple_1 l1 vs1 n1 l2 vs2 n2 h1 h2) ⟨hl1, hl2, ?_⟩
        exact ⟨.refl .., _, h, by rw [z', List.append_nil]; exact ra.tupleRep⟩
      · exact P.add_tuple hl1 hl2 h1 h2 (post_tuple i (by simpa using r1.append r2) h) (by omega)
  | fr h => exact wpAny_mono (frW_sound h ra rb) (fun _ _ p => p.post i) fun _ _ f => f

theorem EvB.bind2 {e1 e2 : Expr} {K : PyData → PyData → Prop} (h : EvB c l nm pe e1 fun a => EvB c l nm pe e2 fun b => K a b) {Q : Value → Shared → Prop} {t : Value → Value → Sem Value}
    (r : Room l A) (i : EInv c X env nm pe s)
    (q : ∀ va vb a b s', Gr s s' → EInv c X env nm pe s' → RepB c.prog c.w s'.heap X va a → RepB c.prog c.w s'.heap X vb b → K a b → wpAny (model c.prog c.w) A (t va vb) Q noE s') :
    wpAny (model c.prog c.w) A (eval e1 env) (fun va s₁ => wpAny (model c.prog c.w) A (eval e2 env) (fun vb s₂ => wpAny (model c.prog c.w) A (t va vb) Q noE s₂) noE s₁) noE s := by
  refine wpAny_mono (h X env A s r i) (fun va s₁ p => ?_) fun _ _ f => f
  obtain ⟨g1, a, ha, ra⟩ := p
  refine wpAny_mono (ha X env A s₁ r (i.grow g1)) (fun vb s₂ p => ?_) fun _ _ f => f
  obtain ⟨g2, b, hb, rb⟩ := p
  exact q va vb a b s₂ (g1.trans g2) (i.grow (g1.trans g2)) (ra.mono g2.keep) rb hb

theorem EvF_bin {e1 e2 : Expr} {op pos} (h : EvB c l nm pe e1 fun a => EvB c l nm pe e2 fun b => frW op a b K) : EvF c l nm pe (.BinOp e1 op e2 pos) K :=
  fun X env A s r i => wpAny_BinOp (h.bind2 (t := binaryOp op) r i fun va vb a b s' g i' ra rb k => wpAny_mono (frW_sound k ra rb) (fun _ _ p => p.of g) fun _ _ f => f)
theorem EvS_bin {e1 e2 : Expr} {op pos} (h : EvB c l nm pe e1 fun a => EvB c l nm pe e2 fun b => binW op a b K) : EvS c l nm pe (.BinOp e1 op e2 pos) K :=
  fun X env A s r i => wpAny_BinOp (h.bind2 (t := binaryOp op) r i fun va vb a b s' g i' ra rb k => wpAny_mono (binW_sound k i'.toSInv ra rb) (fun _ _ p => p.of g) fun _ _ f => f)
end
end Mine
end

section
set_option linter.unusedVariables false
namespace Mine
open PySem PyProof.Rows

/-- data without dicts, at most n deep, its texts whole: what == may compare -/
noncomputable def okD : Nat → PyData → Prop
  | _, .none => True
  | _, .bool _ => True
  | _, .int _ => True
  | _, .str x => (PyData.str x).canLay0 = true
  | n + 1, .list xs => ∀ x ∈ xs, okD n x
  | n + 1, .tuple xs => ∀ x ∈ xs, okD n x
  | _, _ => False

theorem okAll_of {n : Nat} (ih : ∀ d, okD n d → d.canLay0 = true ∧ d.depth ≤ n) : ∀ xs : List PyData, (∀ x ∈ xs, okD n x) → PyData.canLayAll0 xs = true ∧ PyData.depthAll xs ≤ n
  | [], _ => by simp [PyData.canLayAll0, PyData.depthAll]
  | x :: xs, h => by
    have h1 := ih x (h x (.head _))
    have h2 := okAll_of ih xs fun y hy => h y (.tail _ hy)
    simp only [PyData.canLayAll0, PyData.depthAll, h1.1, h2.1, Bool.and_self, true_and]
    exact Nat.max_le.mpr ⟨h1.2, h2.2⟩
theorem okD.can : ∀ (n : Nat) (d : PyData), okD n d → d.canLay0 = true ∧ d.depth ≤ n
  | n, .none, _ => by simp [PyData.canLay0, PyData.depth]
  | n, .bool _, _ => by simp [PyData.canLay0, PyData.depth]
  | n, .int _, _ => by simp [PyData.canLay0, PyData.depth]
  | n, .str x, h => by
    have : (PyData.str x).canLay0 = true := by cases n <;> exact h
    exact ⟨this, by simp [PyData.depth]⟩
  | 0, .list _, h => h.elim
  | 0, .tuple _, h => h.elim
  | 0, .dict _, h => h.elim
  | n + 1, .dict _, h => h.elim
  | n + 1, .list xs, h => by
    have := okAll_of (okD.can n) xs h
    simp only [PyData.canLay0, PyData.depth]
    exact ⟨this.1, Nat.succ_le_succ this.2⟩
  | n + 1, .tuple xs, h => by
    have := okAll_of (okD.can n) xs h
    simp only [PyData.canLay0, PyData.depth]
    exact ⟨this.1, Nat.succ_le_succ this.2⟩

noncomputable def kEq : PyData → PyData → Bool
  | .int a, .int b => a == b
  | .str a, .str b => a == b
  | _, _ => false
noncomputable def sameKind : PyData → PyData → Prop
  | .int _, .int _ => True
  | .str _, .str _ => True
  | _, _ => False
noncomputable def kindOk (kvs : List (PyData × PyData)) (k : PyData) : Prop := ∀ q ∈ kvs, sameKind q.1 k
noncomputable def getK (kvs : List (PyData × PyData)) (k : PyData) : Option PyData := (kvs.find? fun q => kEq q.1 k).map (·.2)

theorem getK_cons (k' d : PyData) (r : List (PyData × PyData)) (k : PyData) : getK ((k', d) :: r) k = if kEq k' k = true then some d else getK r k := by
  unfold getK
  rw [List.find?_cons]
  cases h : kEq k' k <;> simp [h]
theorem valueAt_cons {K : Type} [DecidableEq K] (k' : K) (v : Value) (r : List (K × Value)) (k : K) : valueAt ((k', v) :: r) k = if k' = k then some v else valueAt r k := by
  unfold valueAt
  rw [List.find?_cons]
  by_cases h : k' = k <;> simp [h]
section
variable {p : Program} {w : World} {h : Heap} {X : Addr → Prop} {a : Addr}
theorem DictOf.nil_int {ks : List (Str × Value)} (d : h.DictOf (strKind p w) a ks) (e : ks = []) : h.DictOf (intKind p w) a [] := by
  subst e
  obtain ⟨o, es, ep, ho, hc, hd, hk, hp, hn⟩ := d
  have : es = #[] := by
    have : es.toList = [] := by cases hes : es.toList with
      | nil => rfl
      | cons => rw [hes] at hp; cases hp
    simpa using this
  subst this
  exact ⟨o, #[], ep, ho, hc, hd, fun _ he => by simp at he, .nil, List.nodup_nil⟩
theorem DictOf.nil_str {ks : List (Int × Value)} (d : h.DictOf (intKind p w) a ks) (e : ks = []) : h.DictOf (strKind p w) a [] := by
  subst e
  obtain ⟨o, es, ep, ho, hc, hd, hk, hp, hn⟩ := d
  have : es = #[] := by
    have : es.toList = [] := by cases hes : es.toList with
      | nil => rfl
      | cons => rw [hes] at hp; cases hp
    simpa using this
  subst this
  exact ⟨o, #[], ep, ho, hc, hd, fun _ he => by simp at he, .nil, List.nodup_nil⟩

theorem kind_key {kvs : List (PyData × Value)} {kds : List (PyData × PyData)} (r : RepKV p w h X kvs kds) {k : PyData} (hk : kindOk kds k) : ∀ q ∈ kvs, sameKind q.1 k := by
  intro q hq
  have : q.1 ∈ kvs.map (·.1) := List.mem_map.mpr ⟨q, hq, rfl⟩
  rw [r.keys] at this
  obtain ⟨q', hq', e⟩ := List.mem_map.mp this
  rw [← e]; exact hk q' hq'

theorem IsDP.ints {kvs : List (PyData × Value)} {kds : List (PyData × PyData)} (d : IsDP p w h a kvs) (r : RepKV p w h X kvs kds) {k : Int} (hk : kindOk kds (.int k)) :
    ∃ ks : List (Int × Value), kvs = ks.map (fun q => (.int q.1, q.2)) ∧ h.DictOf (intKind p w) a ks := by
  rcases d.2 with ⟨ks, e, hd⟩ | ⟨ks, e, hd⟩
  · exact ⟨ks, e, hd⟩
  · have : ks = [] := by
      cases ks with
      | nil => rfl
      | cons q t => exact (kind_key r hk (.str q.1, q.2) (by rw [e]; exact .head _)).elim
    exact ⟨[], by rw [e, this]; rfl, DictOf.nil_int hd this⟩
theorem IsDP.strs {kvs : List (PyData × Value)} {kds : List (PyData × PyData)} (d : IsDP p w h a kvs) (r : RepKV p w h X kvs kds) {k : Str} (hk : kindOk kds (.str k)) :
    ∃ ks : List (Str × Value), kvs = ks.map (fun q => (.str q.1, q.2)) ∧ h.DictOf (strKind p w) a ks := by
  rcases d.2 with ⟨ks, e, hd⟩ | ⟨ks, e, hd⟩
  · have : ks = [] := by
      cases ks with
      | nil => rfl
      | cons q t => exact (kind_key r hk (.int q.1, q.2) (by rw [e]; exact .head _)).elim
    exact ⟨[], by rw [e, this]; rfl, DictOf.nil_str hd this⟩
  · exact ⟨ks, e, hd⟩

theorem getK_int : ∀ {ks : List (Int × Value)} {kds : List (PyData × PyData)}, RepKV p w h X (ks.map fun q => (.int q.1, q.2)) kds → ∀ k,
    (valueAt ks k = none ∧ getK kds (.int k) = none) ∨ ∃ v d, valueAt ks k = some v ∧ getK kds (.int k) = some d ∧ Rep p w h X v d
  | [], _, r, k => by cases r; exact .inl ⟨rfl, rfl⟩
  | (i, v) :: t, _, r, k => by
    cases r with
    | cons rv r =>
      rw [valueAt_cons, getK_cons]
      rcases Decidable.em (i = k) with e | e
      · subst e; exact .inr ⟨v, _, by simp, by simp [kEq], rv⟩
      · have e' : ¬ (kEq (.int i) (.int k) = true) := by simpa [kEq] using e
        rw [if_neg e, if_neg e']
        exact getK_int (ks := t) r k
theorem getK_str : ∀ {ks : List (Str × Value)} {kds : List (PyData × PyData)}, RepKV p w h X (ks.map fun q => (.str q.1, q.2)) kds → ∀ k,
    (valueAt ks k = none ∧ getK kds (.str k) = none) ∨ ∃ v d, valueAt ks k = some v ∧ getK kds (.str k) = some d ∧ Rep p w h X v d
  | [], _, r, k => by cases r; exact .inl ⟨rfl, rfl⟩
  | (i, v) :: t, _, r, k => by
    cases r with
    | cons rv r =>
      rw [valueAt_cons, getK_cons]
      rcases Decidable.em (i = k) with e | e
      · subst e; exact .inr ⟨v, _, by simp, by simp [kEq], rv⟩
      · have e' : ¬ (kEq (.str i) (.str k) = true) := by simpa [kEq] using e
        rw [if_neg e, if_neg e']
        exact getK_str (ks := t) r k
end

noncomputable def inW (a b : PyData) (K : Bool → Prop) : Prop :=
  match b with
  | .dict kvs => kindOk kvs a ∧ (match a with | .int _ => True | .str _ => True | _ => False) ∧ K (getK kvs a).isSome
  | .list xs => (okD 20 (.list xs) ∧ okD 20 a) ∧ K (xs.any fun y => PyData.eqv y a)
  | _ => False
noncomputable def intW (a b : PyData) (K : Int → Int → Prop) : Prop :=
  match a, b with
  | .int x, .int y => K x y
  | _, _ => False
noncomputable def eqW (a b : PyData) (K : Bool → Prop) : Prop :=
  match a, b with
  | .dict _, _ => False
  | a, b => (okD 20 a ∧ okD 20 b) ∧ K (PyData.eqv a b)
noncomputable def cmpW (op : CmpOp) (a b : PyData) (K : Bool → Prop) : Prop :=
  match op with
  | .Eq => eqW a b K
  | .NotEq => eqW a b fun r => K (!r)
  | .Lt => intW a b fun x y => K (decide (x < y))
  | .LtE => intW a b fun x y => K (decide (x ≤ y))
  | .Gt => intW a b fun x y => K (decide (y < x))
  | .GtE => intW a b fun x y => K (decide (y ≤ x))
  | .In => inW a b K
  | .NotIn => inW a b fun r => K (!r)
  | .IsNot => match a, b with | .bool x, .bool y => K (!(x == y)) | _, _ => False
  | _ => False

section
variable {c : Cx} {l : Nat} {X : Addr → Prop} {env : Env} {nm : Names} {pe : PEnv} {A : Around} {s : Shared} {K : Bool → Prop}

/-- a comparison's end: a bool -/
noncomputable def PostC (s : Shared) (K : Bool → Prop) (v : Value) (s' : Shared) : Prop := Gr s s' ∧ ∃ b, K b ∧ v = .bool b

theorem cmpW_sound {op : CmpOp} {a b : PyData} {va vb : Value} (h : cmpW op a b K) (rm : Room l A) (ra : RepB c.prog c.w s.heap X va a) (rb : RepB c.prog c.w s.heap X vb b) :
    wpAny (model c.prog c.w) A (compareOp op va vb) (PostC s K) noE s := by
  have hun := rm.un
  have eqs : ∀ {K : Bool → Prop}, eqW a b K → (okD 20 a ∧ okD 20 b) ∧ K (PyData.eqv a b) := by
    intro K h; unfold eqW at h; split at h
    · exact h.elim
    · exact h
  unfold cmpW at h
  split at h
  · obtain ⟨⟨o1, o2⟩, hK⟩ := eqs h
    obtain ⟨as, r1⟩ := ra.reads (okD.can _ _ o1).1
    obtain ⟨bs, r2⟩ := rb.reads (okD.can _ _ o2).1
    have d1 := (okD.can _ _ o1).2
    exact SeqAt.compareEq_reads r1 r2 (okD.can _ _ o1).1 (okD.can _ _ o2).1 (by omega) ⟨.refl .., _, hK, rfl⟩
  · obtain ⟨⟨o1, o2⟩, hK⟩ := eqs h
    obtain ⟨as, r1⟩ := ra.reads (okD.can _ _ o1).1
    obtain ⟨bs, r2⟩ := rb.reads (okD.can _ _ o2).1
    have d1 := (okD.can _ _ o1).2
    exact SeqAt.compareNe_reads r1 r2 (okD.can _ _ o1).1 (okD.can _ _ o2).1 (by omega) ⟨.refl .., _, hK, rfl⟩
  · unfold intW at h; split at h
    · obtain ⟨t, rfl⟩ := ra.int; obtain ⟨u, rfl⟩ := rb.int
      exact wpAny_lt_int ⟨.refl .., _, h, rfl⟩
    · exact h.elim
  · unfold intW at h; split at h
    · obtain ⟨t, rfl⟩ := ra.int; obtain ⟨u, rfl⟩ := rb.int
      exact PyProof.Rows.le_int ⟨.refl .., _, h, rfl⟩
    · exact h.elim
  · unfold intW at h; split at h
    · obtain ⟨t, rfl⟩ := ra.int; obtain ⟨u, rfl⟩ := rb.int
      exact PyProof.Rows.gt_int ⟨.refl .., _, h, rfl⟩
    · exact h.elim
  · unfold intW at h; split at h
    · obtain ⟨t, rfl⟩ := ra.int; obtain ⟨u, rfl⟩ := rb.int
      exact PyProof.Rows.ge_int ⟨.refl .., _, h, rfl⟩
    · exact h.elim
  · unfold inW at h; split at h
    · rename_i kvs
      obtain ⟨hk, hkd, hK⟩ := h
      obtain ⟨d, es, rfl, hd, r⟩ := rb.dict
      cases a with
      | int k =>
        obtain ⟨t, rfl⟩ := ra.int
        obtain ⟨ks, rfl, hD⟩ := hd.ints r hk
        refine wpAny_in_of (knd := intKind c.prog c.w) (k := k) (by simp [intKind, Value.isInt]) hd.1 hD.mapOf ⟨.toks .., _, hK, ?_⟩
        rcases getK_int r k with ⟨h1, h2⟩ | ⟨v, d', h1, h2, h3⟩ <;> rw [h1, h2] <;> rfl
      | str k =>
        obtain ⟨t, rfl⟩ := ra.str
        obtain ⟨ks, rfl, hD⟩ := hd.strs r hk
        refine wpAny_in_of (knd := strKind c.prog c.w) (k := k) (by simp [PySem.strKind, Value.isStrOf]) hd.1 hD.mapOf ⟨.toks .., _, hK, ?_⟩
        rcases getK_str r k with ⟨h1, h2⟩ | ⟨v, d', h1, h2, h3⟩ <;> rw [h1, h2] <;> rfl
      | _ => exact hkd.elim
    · obtain ⟨⟨o1, o2⟩, hK⟩ := h
      have c1 := okD.can _ _ o1
      have c2 := okD.can _ _ o2
      obtain ⟨as, r1⟩ := rb.reads c1.1
      obtain ⟨bs, r2⟩ := ra.reads c2.1
      exact SeqAt.in_list_reads r1 r2 (by simpa [PyData.canLay0] using c1.1) c2.1 (by have := c2.2; omega) ⟨.refl .., _, hK, rfl⟩
    · exact h.elim
  · unfold inW at h; split at h
    · rename_i kvs
      obtain ⟨hk, hkd, hK⟩ := h
      obtain ⟨d, es, rfl, hd, r⟩ := rb.dict
      cases a with
      | int k =>
        obtain ⟨t, rfl⟩ := ra.int
        obtain ⟨ks, rfl, hD⟩ := hd.ints r hk
        refine wpAny_notIn_of (knd := intKind c.prog c.w) (k := k) (by simp [intKind, Value.isInt]) hd.1 hD.mapOf ⟨.toks .., _, hK, ?_⟩
        rcases getK_int r k with ⟨h1, h2⟩ | ⟨v, d', h1, h2, h3⟩ <;> rw [h1, h2] <;> rfl
      | str k =>
        obtain ⟨t, rfl⟩ := ra.str
        obtain ⟨ks, rfl, hD⟩ := hd.strs r hk
        refine wpAny_notIn_of (knd := strKind c.prog c.w) (k := k) (by simp [PySem.strKind, Value.isStrOf]) hd.1 hD.mapOf ⟨.toks .., _, hK, ?_⟩
        rcases getK_str r k with ⟨h1, h2⟩ | ⟨v, d', h1, h2, h3⟩ <;> rw [h1, h2] <;> rfl
      | _ => exact hkd.elim
    · obtain ⟨⟨o1, o2⟩, hK⟩ := h
      have c1 := okD.can _ _ o1
      have c2 := okD.can _ _ o2
      obtain ⟨as, r1⟩ := rb.reads c1.1
      obtain ⟨bs, r2⟩ := ra.reads c2.1
      exact SeqAt.notIn_list_reads r1 r2 (by simpa [PyData.canLay0] using c1.1) c2.1 (by have := c2.2; omega) ⟨.refl .., _, hK, rfl⟩
    · exact h.elim
  · split at h
    · rename_i x y
      have := ra.bool; have := rb.bool; subst_vars
      refine wpAny_isNot_plain rfl ⟨.refl .., _, h, ?_⟩
      cases x <;> cases y <;> rfl
    · exact h.elim
  · exact h.elim

theorem EvS_cmp {e1 e2 : Expr} {op pos} {K : PyData → Prop} (hm : behindInMarks op e2 = false) (h : EvB c l nm pe e1 fun a => EvB c l nm pe e2 fun b => cmpW op a b fun r => K (.bool r)) :
    EvS c l nm pe (.Compare e1 [op] [e2] pos) K :=
  fun X env A s r i => wpAny_Compare1 (h.bind2 (t := compareOp op) r i fun va vb a b s' g i' ra rb k => wpAny_mono (cmpW_sound k r ra rb) (fun v s'' p => by
    obtain ⟨g', b, hb, rfl⟩ := p; exact ⟨g.trans g', _, hb, .bool b⟩) fun _ _ f => f) hm
theorem EvT_cmp {e1 e2 : Expr} {op pos} (hm : behindInMarks op e2 = false) (h : EvB c l nm pe e1 fun a => EvB c l nm pe e2 fun b => cmpW op a b K) :
    EvT c l nm pe (.Compare e1 [op] [e2] pos) K :=
  fun X env A s r i => wpAny_isTrue_Compare1 (by
    refine wpAny_mono (h X env A s r i) (fun va s₁ p => ?_) fun _ _ f => f
    obtain ⟨g1, a, ha, ra⟩ := p
    refine wpAny_mono (ha X env A s₁ r (i.grow g1)) (fun vb s₂ p => ?_) fun _ _ f => f
    obtain ⟨g2, b, hb, rb⟩ := p
    refine wpAny_mono (cmpW_sound hb r (ra.mono g2.keep) rb) (fun v s₃ p => ?_) fun _ _ f => f
    obtain ⟨g3, b, hb, rfl⟩ := p
    exact wpAny_truthy_bool ⟨g1.trans (g2.trans g3), hb⟩) hm

theorem EvT_not {e : Expr} {pos} (h : EvT c l nm pe e fun b => K (!b)) : EvT c l nm pe (.UnaryOp .Not e pos) K := fun X env A s r i => isTrue_not (h X env A s r i)
theorem EvT_and_nil {pos} (h : K true) : EvT c l nm pe (.BoolOp .And [] pos) K := fun X env A s r i => isTrue_and_nil ⟨.refl .., h⟩
theorem EvT_or_nil {pos} (h : K false) : EvT c l nm pe (.BoolOp .Or [] pos) K := fun X env A s r i => isTrue_or_nil ⟨.refl .., h⟩
theorem EvT_and {e : Expr} {es pos} (h : EvT c l nm pe e fun b => if b then EvT c l nm pe (.BoolOp .And es pos) K else K false) : EvT c l nm pe (.BoolOp .And (e :: es) pos) K := fun X env A s r i => by
  refine isTrue_and (wpAny_mono (h X env A s r i) (fun b s₁ p => ?_) fun _ _ f => f)
  obtain ⟨g, hb⟩ := p
  cases b with
  | false => exact ⟨g, hb⟩
  | true => exact wpAny_mono (hb X env A s₁ r (i.grow g)) (fun _ _ p => p.of g) fun _ _ f => f
theorem EvT_or {e : Expr} {es pos} (h : EvT c l nm pe e fun b => if b then K true else EvT c l nm pe (.BoolOp .Or es pos) K) : EvT c l nm pe (.BoolOp .Or (e :: es) pos) K := fun X env A s r i => by
  refine isTrue_or (wpAny_mono (h X env A s r i) (fun b s₁ p => ?_) fun _ _ f => f)
  obtain ⟨g, hb⟩ := p
  cases b with
  | true => exact ⟨g, hb⟩
  | false => exact wpAny_mono (hb X env A s₁ r (i.grow g)) (fun _ _ p => p.of g) fun _ _ f => f
noncomputable def truthW (d : PyData) (K : Bool → Prop) : Prop :=
  match d with
  | .bool b => K b
  | .list xs => xs.length ≤ lim ∧ K (!xs.isEmpty)
  | _ => False
theorem truthW_sound {d : PyData} {v : Value} (h : truthW d K) (r : RepB c.prog c.w s.heap X v d) : wpAny (model c.prog c.w) A (truthy v) (PostT s K) noE s := by
  unfold truthW at h; split at h
  · rw [r.bool]; exact wpAny_truthy_bool ⟨.refl .., h⟩
  · obtain ⟨a, vs, n, rfl, hl, q⟩ := r.list
    have := q.length
    simp only [Array.length_toList] at this
    refine wpAny_truthy_list hl.isList (by have := h.1; simp only [lim] at this; omega) ⟨.toks .., ?_⟩
    rename_i xs
    have e : vs.isEmpty = xs.isEmpty := by
      rw [Bool.eq_iff_iff, Array.isEmpty_iff_size_eq_zero, List.isEmpty_iff_length_eq_zero, this]
    rw [e]; exact h.2
  · exact h.elim
theorem EvT_plain {e : Expr} (he : ∀ env whole, isTrue e env whole = (do let v ← whole; standAt e.pos; holding [v] (truthy v))) (h : EvB c l nm pe e fun d => truthW d K) : EvT c l nm pe e K := fun X env A s r i => by
  refine isTrue_plain (wpAny_mono (h X env A s r i) (fun v s₁ p => ?_) fun _ _ f => f) (he env _)
  obtain ⟨g, d, hd, rd⟩ := p
  exact wpAny_mono (truthW_sound hd rd) (fun _ _ p => p.of g) fun _ _ f => f
end
end Mine
end

section
set_option linter.unusedVariables false
namespace Mine
open PySem PyProof.Rows

section
variable {p : Program} {w : World} {h h' : Heap} {X : Addr → Prop} {a : Addr}
theorem Ext.same (hs : Heap.SameBut a h h') (ha : X a) : Ext X h X h' := fun b o hx e => ⟨hx, (hs.2 b fun q => hx (q ▸ ha)).trans e⟩
end

section
variable {c : Cx} {X X' : Addr → Prop} {env : Env} {nm : Names} {pe : PEnv} {s s' : Shared}
theorem SInv.ext (i : SInv c X s) (g : Gr s s') (hx : ∀ a, X' a → X a ∨ (s.heap.get? a = none ∧ ∃ o, s'.heap.get? a = some o)) : SInv c X' s' where
  kept := fun b o e => g.keep b o (i.kept b o e)
  xa := fun a q => (hx a q).elim (fun q => ⟨(i.xa a q).1, let ⟨o, e⟩ := (i.xa a q).2; ⟨o, g.keep a o e⟩⟩) fun ⟨n, al⟩ => ⟨(by
    cases e : c.h₀.get? a with
    | none => rfl
    | some o => rw [i.kept a o e] at n; exact nomatch n), al⟩
theorem SlotR.ext {p : Program} {w : World} {h h' : Heap} {v : Value} {sl : Slot} (r : SlotR p w h X v sl) (k : ∀ b o, h.get? b = some o → h'.get? b = some o) (hx : ∀ a, X' a → X a ∨ h.get? a = none) : SlotR p w h' X' v sl := by
  obtain ⟨d, o⟩ := sl
  cases o with
  | false => exact Rep.mono (Ext.more k hx) r
  | true => exact let ⟨a, e, t⟩ := r; ⟨a, e, t.mono (Ext.more k hx) fun o q => k a o q⟩
/-- more addresses are loose: they are new -/
theorem EInv.ext (i : EInv c X env nm pe s) (g : Gr s s') (hx : ∀ a, X' a → X a ∨ (s.heap.get? a = none ∧ ∃ o, s'.heap.get? a = some o)) : EInv c X' env nm pe s' :=
  { i.toSInv.ext g hx with
    kind := i.kind, names := i.names, glob := i.glob, blt := i.blt
    vars := fun x sl e => (i.vars x sl e).imp (fun ⟨a, v, m, n, e, q⟩ => ⟨a, v, m, n.keeps g.keep, e, q.ext g.keep fun a z => (hx a z).imp id (·.1)⟩) fun ⟨a, v, cc, n, e, q⟩ => ⟨a, v, cc, n, e.keeps g.keep, q.ext g.keep fun a z => (hx a z).imp id (·.1)⟩ }
end

noncomputable def idxW (xs : List PyData) (i : PyData) (K : PyData → Prop) : Prop :=
  match i with
  | .int k => (0 ≤ k ∧ k < 2 ^ 31) ∧ ∃ d, xs[k.toNat]? = some d ∧ K d
  | _ => False
noncomputable def itemW (a i : PyData) (K : PyData → Prop) : Prop :=
  match a with
  | .list xs => idxW xs i K
  | .tuple xs => idxW xs i K
  | .dict kvs => kindOk kvs i ∧ (match i with | .int _ => True | .str _ => True | _ => False) ∧ ∃ d, getK kvs i = some d ∧ K d
  | _ => False
noncomputable def uptoW (a y : PyData) (K : PyData → Prop) : Prop :=
  match a, y with
  | .list xs, .int k => (0 ≤ k ∧ xs.length ≤ lim) ∧ K (.list (xs.take k.toNat))
  | _, _ => False
noncomputable def fromW (a y : PyData) (K : PyData → Prop) : Prop :=
  match a, y with
  | .list xs, .int k => (0 ≤ k ∧ xs.length ≤ lim) ∧ K (.list (xs.drop k.toNat))
  | _, _ => False
noncomputable def negW (a : PyData) (K : PyData → Prop) : Prop := match a with | .int k => K (.int (-k)) | _ => False
noncomputable def lenW (a : PyData) (K : PyData → Prop) : Prop :=
  match a with
  | .list xs => xs.length ≤ lim ∧ K (.int xs.length)
  | .tuple xs => xs.length ≤ lim ∧ K (.int xs.length)
  | _ => False

section
variable {c : Cx} {l : Nat} {X : Addr → Prop} {env : Env} {nm : Names} {pe : PEnv} {A : Around} {s : Shared} {K : PyData → Prop}

theorem EvS_ifexp {t b o : Expr} {pos} (h : EvT c l nm pe t fun r => if r then EvS c l nm pe b K else EvS c l nm pe o K) : EvS c l nm pe (.IfExp t b o pos) K := fun X env A s r i => by
  show wpAny _ A (do if ← isTrue t env (eval t env) then eval b env else eval o env) _ _ s
  refine wpAny_bind (wpAny_mono (h X env A s r i) (fun v s₁ p => ?_) fun _ _ f => f)
  obtain ⟨g, hv⟩ := p
  cases v with
  | true => exact wpAny_mono (hv X env A s₁ r (i.grow g)) (fun _ _ p => p.of g) fun _ _ f => f
  | false => exact wpAny_mono (hv X env A s₁ r (i.grow g)) (fun _ _ p => p.of g) fun _ _ f => f

theorem EvS_neg {e : Expr} {pos} (h : EvS c l nm pe e fun d => negW d K) : EvS c l nm pe (.UnaryOp .USub e pos) K := fun X env A s r i => by
  show wpAny _ A (do let v ← eval e env; standAt pos; holding [v] (unaryOp .USub v)) _ _ s
  refine wpAny_bind (wpAny_mono (h X env A s r i) (fun v s₁ p => wpAny_bind (wpAny_standAt (wpAny_holding ?_))) fun _ _ f => f)
  obtain ⟨g, d, hd, rd⟩ := p
  unfold negW at hd; split at hd
  · cases rd; exact PyProof.Rows.neg_int ⟨g.trans (.toks ..), _, hd, .int ..⟩
  · exact hd.elim

theorem subscripted_any {M : Model} {slice : Expr} {o i : Value} {Q : Value → Shared → Prop} {E : Value → Shared → Prop} (h : wpAny M A (getItem o i) Q E s) : wpAny M A (subscripted slice false o i) Q E s := by
  unfold subscripted
  split
  · exact wpAny_operating h
  · contradiction
  · exact wpAny_operating h

theorem subscript_tail {value slice : Expr} {o i : Value} {T id : String} {Q : Value → Shared → Prop} (hT : s.TypeIs o T) (hl : typeLookup (.type T) "__getitem__" = pure (some (.builtin id)))
    (h : wpAny (model c.prog c.w) A (getItem o i) Q noE s) :
    wpAny (model c.prog c.w) A (do let r ← subscripted slice (← getitemInPython o) o i; letTemporaryGo value o r; pure r) Q noE s := by
  refine wpAny_bind ?_
  rw [getitemInPython_of_ne hT.not_modules]
  refine wpAny_bind (wpAny_specialOf hT hl ?_)
  exact wpAny_pure (wpAny_bind (wpAny_mono (subscripted_any h) (fun r s₃ h₃ => wpAny_bind (wpAny_letTemporaryGo (wpAny_pure h₃))) fun _ _ f => f))

theorem itemW_sound {value slice : Expr} {a i : PyData} {va vi : Value} (h : itemW a i K) (ra : RepB c.prog c.w s.heap X va a) (ri : Rep c.prog c.w s.heap X vi i) :
    wpAny (model c.prog c.w) A (do let r ← subscripted slice (← getitemInPython va) va vi; letTemporaryGo value va r; pure r) (Post c X s K) noE s := by
  unfold itemW at h; split at h
  · obtain ⟨l1, vs, n, rfl, hl, r⟩ := ra.list
    unfold idxW at h; split at h
    · obtain ⟨⟨h0, h1⟩, d, hd, hK⟩ := h
      cases ri
      obtain ⟨v, hv, rv⟩ := r.get _ hd
      exact subscript_tail hl.isList.typeIs slot_list_getitem.lookup (wpAny_getItem_list hl.isList h0 (by omega) (by simpa using hv) ⟨.refl .., _, hK, rv⟩)
    · exact h.elim
  · obtain ⟨l1, vs, n, rfl, hl, r⟩ := ra.tuple
    unfold idxW at h; split at h
    · obtain ⟨⟨h0, h1⟩, d, hd, hK⟩ := h
      rename_i k
      cases ri
      obtain ⟨v, hv, rv⟩ := r.get _ hd
      have hlt : k.toNat < vs.size := by
        have := (List.getElem?_eq_some_iff.mp hv).1
        simpa using this
      refine subscript_tail (T := "tuple") ⟨_, hl, rfl⟩ PyProof.Rows.slot_tuple_getitem.lookup (P.getItem_tuple (k := k.toNat) hl (by omega) (by omega) ?_ (by simpa using hv) ⟨.refl .., _, hK, rv⟩)
      unfold seqIndex?
      simp only [show ¬ k < 0 from by omega, if_false]
      rw [if_pos (by simp; omega)]
    · exact h.elim
  · rename_i kvs
    obtain ⟨hk, hkd, d, hd', hK⟩ := h
    obtain ⟨b, es, rfl, hd, r⟩ := ra.dict
    cases i with
    | int k =>
      cases ri
      obtain ⟨ks, rfl, hD⟩ := hd.ints r hk
      rcases getK_int r k with ⟨h1, h2⟩ | ⟨v, d', h1, h2, h3⟩
      · rw [h2] at hd'; cases hd'
      · rw [h2] at hd'; cases hd'
        exact subscript_tail hD.typeIs slot_dict_getitem.lookup (wpAny_getItem_of (knd := intKind c.prog c.w) (k := k) (by simp [intKind, Value.isInt]) hD.mapOf h1 ⟨.toks .., _, hK, h3⟩)
    | str k =>
      cases ri
      obtain ⟨ks, rfl, hD⟩ := hd.strs r hk
      rcases getK_str r k with ⟨h1, h2⟩ | ⟨v, d', h1, h2, h3⟩
      · rw [h2] at hd'; cases hd'
      · rw [h2] at hd'; cases hd'
        exact subscript_tail hD.typeIs slot_dict_getitem.lookup (wpAny_getItem_of (knd := strKind c.prog c.w) (k := k) (by simp [PySem.strKind, Value.isStrOf]) hD.mapOf h1 ⟨.toks .., _, hK, h3⟩)
    | _ => exact hkd.elim
  · exact h.elim

theorem EvS_sub {value slice : Expr} {pos} (h : EvB c l nm pe value fun a => EvS c l nm pe slice fun i => itemW a i K) : EvS c l nm pe (.Subscript value slice pos) K := fun X env A s r i => by
  rw [eval_Subscript]
  refine wpAny_bind (wpAny_mono (h X env A s r i) (fun va s₁ p => ?_) fun _ _ f => f)
  obtain ⟨g1, a, ha, ra⟩ := p
  refine wpAny_bind (wpAny_holding (wpAny_mono (ha X env A s₁ r (i.grow g1)) (fun vi s₂ p => wpAny_bind (wpAny_standAt ?_)) fun _ _ f => f))
  obtain ⟨g2, b, hb, rb⟩ := p
  exact wpAny_mono (itemW_sound hb (ra.mono g2.keep) rb) (fun _ _ p => p.of (g1.trans g2)) fun _ _ f => f

theorem slice_sound {value slice : Expr} {xs ys : List PyData} {va vl vu : Value} {lo hi : Option Int} (i : SInv c X s) (ra : RepB c.prog c.w s.heap X va (.list xs)) (hK : K (.list ys)) (hsz : xs.length ≤ lim)
    (pl : IsPart vl lo) (pu : IsPart vu hi) (hp : ∀ vs : Array Value, RepAll c.prog c.w s.heap X vs.toList xs → RepAll c.prog c.w s.heap X (slicePick vs lo hi none).toList ys) :
    wpAny (model c.prog c.w) A (newFields "slice" [vl, vu, .none]) (fun vi s₁ => wpAny (model c.prog c.w) A (do let r ← subscripted slice (← getitemInPython va) va vi; letTemporaryGo value va r; pure r) (Post c X s K) noE s₁) noE s := by
  obtain ⟨l1, vs, n, rfl, hl, r⟩ := ra.list
  have e1 := r.length
  simp only [Array.length_toList] at e1
  have := lim_le
  refine wpAny_newObj_type ?_
  refine subscript_tail (s := { s with heap := s.heap.push { cls := .type "slice", data := .fields [vl, vu, Value.none].toArray } }) (hl.push _).isList.typeIs slot_list_getitem.lookup
    (wpAny_getItem_list_slice (hl.push _).isList (Heap.IsSliceOf.new ..) pl pu .none (by simp) ?_ (by omega))
  have k1 : Gr s { s with heap := s.heap.push { cls := .type "slice", data := .fields [vl, vu, Value.none].toArray } } := .push ..
  exact Post.of k1 (PostF.post (i.grow k1) (postF_list (s := { s with heap := s.heap.push { cls := .type "slice", data := .fields [vl, vu, Value.none].toArray } }) ((hp vs r).mono (Ext.keep k1.keep)) hK))

theorem EvS_upto {value u : Expr} {p2 pos} (h : EvB c l nm pe value fun a => EvS c l nm pe u fun y => uptoW a y K) : EvS c l nm pe (.Subscript value (.Slice none (some u) none p2) pos) K := fun X env A s r i => by
  rw [eval_Subscript]
  refine wpAny_bind (wpAny_mono (h X env A s r i) (fun va s₁ p => ?_) fun _ _ f => f)
  obtain ⟨g1, a, ha, ra⟩ := p
  refine wpAny_bind (wpAny_holding ?_)
  show wpAny _ A (do let l ← pure Value.none; let u' ← holding [l] (eval u env); let st ← holding [l, u'] (pure Value.none); newFields "slice" [l, u', st]) _ _ s₁
  refine wpAny_bind (wpAny_pure (wpAny_bind (wpAny_holding (wpAny_mono (ha X env A s₁ r (i.grow g1)) (fun vi s₂ p => wpAny_bind (wpAny_holding (wpAny_pure ?_))) fun _ _ f => f))))
  obtain ⟨g2, b, hb, rb⟩ := p
  unfold uptoW at hb; split at hb
  · rename_i xs k
    obtain ⟨m, rfl⟩ : ∃ m : Nat, k = m := ⟨k.toNat, by have := hb.1.1; omega⟩
    cases rb
    refine wpAny_mono (slice_sound (value := value) (slice := .Slice none (some u) none p2) (i.grow (g1.trans g2)).toSInv (ra.mono g2.keep) hb.2 hb.1.2 .none (.int ..) fun vs q => ?_) (fun vi s₃ p => wpAny_bind (wpAny_standAt (wpAny_mono p (fun _ _ p => p.of (g1.trans g2)) fun _ _ f => f))) fun _ _ f => f
    rw [slicePick_upto']
    simpa using q.take m
  · exact hb.elim
theorem EvS_from {value u : Expr} {p2 pos} (h : EvB c l nm pe value fun a => EvS c l nm pe u fun y => fromW a y K) : EvS c l nm pe (.Subscript value (.Slice (some u) none none p2) pos) K := fun X env A s r i => by
  rw [eval_Subscript]
  refine wpAny_bind (wpAny_mono (h X env A s r i) (fun va s₁ p => ?_) fun _ _ f => f)
  obtain ⟨g1, a, ha, ra⟩ := p
  refine wpAny_bind (wpAny_holding ?_)
  show wpAny _ A (do let l ← eval u env; let u' ← holding [l] (pure Value.none); let st ← holding [l, u'] (pure Value.none); newFields "slice" [l, u', st]) _ _ s₁
  refine wpAny_bind (wpAny_mono (ha X env A s₁ r (i.grow g1)) (fun vi s₂ p => wpAny_bind (wpAny_holding (wpAny_pure (wpAny_bind (wpAny_holding (wpAny_pure ?_)))))) fun _ _ f => f)
  obtain ⟨g2, b, hb, rb⟩ := p
  unfold fromW at hb; split at hb
  · rename_i xs k
    obtain ⟨m, rfl⟩ : ∃ m : Nat, k = m := ⟨k.toNat, by have := hb.1.1; omega⟩
    cases rb
    refine wpAny_mono (slice_sound (value := value) (slice := .Slice (some u) none none p2) (i.grow (g1.trans g2)).toSInv (ra.mono g2.keep) hb.2 hb.1.2 (.int ..) .none fun vs q => ?_) (fun vi s₃ p => wpAny_bind (wpAny_standAt (wpAny_mono p (fun _ _ p => p.of (g1.trans g2)) fun _ _ f => f))) fun _ _ f => f
    rw [slicePick_from']
    simpa using q.drop m
  · exact hb.elim
end
end Mine
end

section
set_option linter.unusedVariables false
namespace Mine
open PySem PyProof.Rows

noncomputable def isStar : Expr → Bool
  | .Starred .. => true
  | _ => false
theorem starEach_plain {e : Expr} (h : isStar e = false) (rest : List Expr) (env : Env) : starEach (e :: rest) env = (false, eval e env) :: starEach rest env := by
  cases e <;> first | rfl | cases h

section
variable (c : Cx) (l : Nat) (nm : Names) (pe : PEnv)
/-- the values of a display or of a call's arguments -/
noncomputable def EvL (es : List Expr) (K : List PyData → Prop) : Prop := ∀ X env A s pos, Room l A → EInv c X env nm pe s →
  wpAny (model c.prog c.w) A (spliced (backTo pos (starEach es env))) (fun vs s' => Gr s s' ∧ ∃ ds, K ds ∧ RepAll c.prog c.w s'.heap X vs ds) noE s
/-- what a call of a def of the text gives -/
noncomputable def CallOK (f : Str) (ds : List PyData) (K : PyData → Prop) : Prop := ∀ X A s vs, Room l A → SInv c X s → RepAll c.prog c.w s.heap X vs ds →
  ∃ a o fd, c.mg f = some (.ref a) ∧ c.h₀.get? a = some o ∧ o.data = .func fd ∧ wpAny (model c.prog c.w) A (call (.ref a) vs) (Post c X s K) noE s
end

section
variable {c : Cx} {l : Nat} {nm : Names} {pe : PEnv}
theorem CallOK.mono {l' : Nat} {f : Str} {ds : List PyData} {K K' : PyData → Prop} (h : CallOK c l f ds K) (hl : l ≤ l') (k : ∀ d, K d → K' d) : CallOK c l' f ds K' :=
  fun X A s vs r i rs => let ⟨a, o, fd, h1, h2, h3, h4⟩ := h X A s vs (r.mono hl) i rs
    ⟨a, o, fd, h1, h2, h3, wpAny_mono h4 (fun _ _ p => ⟨p.1, let ⟨d, q, z⟩ := p.2; ⟨d, k d q, z⟩⟩) fun _ _ f => f⟩
theorem EvL.mono {es : List Expr} {K K' : List PyData → Prop} (h : EvL c l nm pe es K) (k : ∀ d, K d → K' d) : EvL c l nm pe es K' :=
  fun X env A s pos r i => wpAny_mono (h X env A s pos r i) (fun _ _ p => ⟨p.1, let ⟨d, q, z⟩ := p.2; ⟨d, k d q, z⟩⟩) fun _ _ f => f
theorem EvL_nil {K : List PyData → Prop} (h : K []) : EvL c l nm pe [] K := fun X env A s pos r i => args_nil ⟨.refl .., _, h, .nil⟩
theorem EvL_cons {e : Expr} {es : List Expr} {K : List PyData → Prop} (hs : isStar e = false) (h : EvS c l nm pe e fun d => EvL c l nm pe es fun ds => K (d :: ds)) : EvL c l nm pe (e :: es) K := fun X env A s pos r i => by
  refine args_cons (wpAny_mono (h X env A s r i) (fun v s₁ p => ?_) fun _ _ f => f) (starEach_plain hs _ _)
  obtain ⟨g, d, hd, rd⟩ := p
  refine wpAny_mono (hd X env A s₁ pos r (i.grow g)) (fun vs s₂ p => ?_) fun _ _ f => f
  obtain ⟨g', ds, hds, rds⟩ := p
  exact ⟨g.trans g', _, hds, .cons (rd.mono (Ext.keep g'.keep)) rds⟩

theorem EvF_list {es : List Expr} {pos} {K : PyData → Prop} (h : EvL c l nm pe es fun ds => ds.length ≤ lim ∧ K (.list ds)) : EvF c l nm pe (.List es pos) K := fun X env A s r i => by
  refine List_ (wpAny_mono (h X env A s pos r i) (fun vs s₁ p => ?_) fun _ _ f => f)
  obtain ⟨g, ds, hds, rds⟩ := p
  refine wpAny_newObj_type (PostF.of g (postF_list (arr := vs.toArray) (by simpa using rds) hds.2)) ?_
  have := rds.length; have := lim_le; have := hds.1
  show vs.toArray.size ≤ sizeLine; simp; omega
theorem EvS_tuple {es : List Expr} {k pos} {K : PyData → Prop} (h : EvL c l nm pe es fun ds => ds.length ≤ lim ∧ K (.tuple ds)) : EvS c l nm pe (.Tuple es k pos) K := fun X env A s r i => by
  refine Tuple_ (wpAny_mono (h X env A s pos r i) (fun vs s₁ p => ?_) fun _ _ f => f)
  obtain ⟨g, ds, hds, rds⟩ := p
  refine wpAny_newObj_type (Post.of g (post_tuple (arr := vs.toArray) (i.grow g).toSInv (by simpa using rds) hds.2)) ?_
  have := rds.length; have := lim_le; have := hds.1
  show vs.toArray.size ≤ sizeLine; simp; omega

theorem EvS_call {f : Str} {p pos} {e : Expr} {es : List Expr} {K : PyData → Prop} (gd : Gd c) (hd : (f == ("__debug__" : Str)) = false) (hk : nm.lookup f = some .globalImplicit) (hs : isStar e = false)
    (h : EvL c l nm pe (e :: es) fun ds => CallOK c l f ds K) (ha : ∃ a o fd, c.mg f = some (.ref a) ∧ c.h₀.get? a = some o ∧ o.data = .func fd) :
    EvS c l nm pe (.Call (.Name f p) (e :: es) [] pos) K := fun X env A s r i => by
  obtain ⟨a, o, fd, hm, ho, hf⟩ := ha
  refine Call_ (Calls.Name_function_global i.kind (by show env.scope.names.lookup f = _; rw [i.names]; exact hk) (Calls.loadGlobal_global (by rw [i.glob]; exact i.toSInv.g gd) hm ?_) hd)
  refine callWith_def hf ?_ (starEach_plain hs _ _)
  refine wpAny_mono (h X env A s pos r i) (fun vs s₁ p => ?_) fun _ _ f => f
  obtain ⟨g, ds, hds, rds⟩ := p
  refine ⟨(i.grow g).kept _ _ ho, ?_⟩
  obtain ⟨a', o', fd', hm', _, _, hw⟩ := hds X A s₁ vs r (i.grow g).toSInv rds
  obtain rfl : a' = a := by rw [hm] at hm'; injection hm' with e; injection e with e; exact e.symm
  exact wpAny_mono hw (fun _ _ p => p.of g) fun _ _ f => f

theorem boot_len : bootBuiltins "len" = some (.builtin "len") := by decide +kernel
theorem boot_list : bootBuiltins "list" = some (.type "list") := by decide +kernel
theorem boot_range : bootBuiltins "range" = some (.type "range") := by decide +kernel
theorem boot_sorted : bootBuiltins "sorted" = some (.builtin "sorted") := by decide +kernel
theorem boot_min : bootBuiltins "min" = some (.builtin "min") := by decide +kernel
theorem boot_dict : bootBuiltins "dict" = some (.type "dict") := by decide +kernel
theorem boot_isinstance : bootBuiltins "isinstance" = some (.builtin "isinstance") := by decide +kernel
theorem boot_int : bootBuiltins "int" = some (.type "int") := by decide +kernel

variable {K : PyData → Prop}
/-- a built-in function of one argument that may be borrowed -/
theorem call_blt1 {f : Str} {id : String} {p pos} {e : Expr} (gd : Gd c) (hb : bootBuiltins f = some (.builtin id)) (hm : f ∈ bltNames) (hd : (f == ("__debug__" : Str)) = false) (hk : nm.lookup f = some .globalImplicit) (hs : isStar e = false)
    {W : PyData → Prop} (h : EvB c l nm pe e W)
    (q : ∀ X A s v d, Room l A → SInv c X s → RepB c.prog c.w s.heap X v d → W d → wpAny (model c.prog c.w) A (call (.builtin id) [v]) (Post c X s K) noE s) : EvS c l nm pe (.Call (.Name f p) [e] [] pos) K := fun X env A s r i => by
  refine Call_ (evalBlt gd i hm hk hb ?_ hd)
  refine callWith_builtin1 ?_ (starEach_plain hs _ _)
  refine args_cons (wpAny_mono (h X env A s r i) (fun v s₁ p => args_nil ?_) fun _ _ f => f) (starEach_plain hs _ _)
  obtain ⟨g, d, hd, rd⟩ := p
  exact wpAny_mono (q X A s₁ v d r (i.grow g).toSInv rd hd) (fun _ _ p => p.of g) fun _ _ f => f

theorem EvS_len {p pos} {e : Expr} (gd : Gd c) (hk : nm.lookup ("len" : Str) = some .globalImplicit) (hs : isStar e = false) (h : EvB c l nm pe e fun d => lenW d K) : EvS c l nm pe (.Call (.Name "len" p) [e] [] pos) K :=
  call_blt1 gd boot_len (by decide) (by decide) hk hs h fun X A s v d r i rd hd => by
    unfold lenW at hd; split at hd
    · obtain ⟨a, vs, n, rfl, hl, q⟩ := rd.list
      have e := q.length
      simp only [Array.length_toList] at e
      have := hd.1
      exact PyProof.Rows.len_list hl.isList (by simp only [lim] at this; omega) ⟨.toks .., _, hd.2, by rw [e]; exact .int ..⟩
    · obtain ⟨a, vs, n, rfl, hl, q⟩ := rd.tuple
      have e := q.length
      simp only [Array.length_toList] at e
      have := hd.1
      exact P.len_tuple hl (by simp only [lim] at this; omega) ⟨.toks .., _, hd.2, by rw [e]; exact .int ..⟩
    · exact hd.elim

noncomputable def copyW (d : PyData) (K : PyData → Prop) : Prop :=
  match d with
  | .list xs => xs.length ≤ lim ∧ K (.list xs)
  | .tuple xs => xs.length ≤ lim ∧ K (.list xs)
  | _ => False
theorem postF_at {s : Shared} {X : Addr → Prop} {h' : Heap} {tk : Nat} {arr : Array Value} {n : Nat} {xs : List PyData} (k : ∀ b o, s.heap.get? b = some o → h'.get? b = some o) (hl : IsL h' s.heap.objs.size arr n) (r : RepAll c.prog c.w s.heap X arr.toList xs) (h : K (.list xs)) :
    PostF c X s K (.ref s.heap.objs.size) { s with heap := h', toks := tk } :=
  ⟨.heap s k tk, _, _, h, rfl, fresh_addr s, arr, n, hl, r.mono (Ext.more k fun a q => q.imp id fun e => by rw [e]; exact fresh_addr s)⟩
theorem EvF_copy {p pos} {e : Expr} (gd : Gd c) (hk : nm.lookup ("list" : Str) = some .globalImplicit) (hs : isStar e = false) (h : EvB c l nm pe e fun d => copyW d K) : EvF c l nm pe (.Call (.Name "list" p) [e] [] pos) K := fun X env A s r i => by
  refine Call_ (evalBlt gd i (by decide) hk boot_list ?_ (by decide))
  rw [starEach_plain hs]
  refine PySem.callWith_type rfl (Calls.evalArgs_plain (Calls.spliced_cons (wpAny_mono (h X env A s r i) (fun v s₁ p => Calls.spliced_nil ?_) fun _ _ f => f)))
  obtain ⟨g, d, hd, rd⟩ := p
  show wpAny _ A (call (.type "list") [v]) _ _ s₁
  have := lim_le
  unfold copyW at hd; split at hd
  · obtain ⟨a, vs, n, rfl, hl, q⟩ := rd.list
    have e := q.length
    simp only [Array.length_toList] at e
    exact call_list_seq a (T := "list") (.inl rfl) hl rfl rfl (fun h' c' k hD => PostF.of g (postF_at (tk := s₁.toks) k hD q hd.2)) (by omega)
  · obtain ⟨a, vs, n, rfl, hl, q⟩ := rd.tuple
    have e := q.length
    simp only [Array.length_toList] at e
    exact call_list_seq a (T := "tuple") (.inr rfl) hl rfl rfl (fun h' c' k hD => PostF.of g (postF_at (tk := s₁.toks) k hD q hd.2)) (by omega)
  · exact hd.elim

noncomputable def minW (a b : PyData) (K : PyData → Prop) : Prop := match a, b with | .int x, .int y => K (.int (min x y)) | _, _ => False
theorem EvS_min {p pos} {e1 e2 : Expr} (gd : Gd c) (hk : nm.lookup ("min" : Str) = some .globalImplicit) (hs : isStar e1 = false) (hs2 : isStar e2 = false)
    (h : EvL c l nm pe [e1, e2] fun ds => match ds with | [a, b] => minW a b K | _ => False) : EvS c l nm pe (.Call (.Name "min" p) [e1, e2] [] pos) K := fun X env A s r i => by
  refine Call_ (evalBlt gd i (by decide) hk boot_min ?_ (by decide))
  refine callWith_builtin1 ?_ (starEach_plain hs _ _) (by rw [starEach_plain hs2]; rfl)
  refine wpAny_mono (h X env A s pos r i) (fun vs s₁ p => ?_) fun _ _ f => f
  obtain ⟨g, ds, hds, rds⟩ := p
  split at hds
  · cases rds with | cons ra rds => cases rds with | cons rb rds => cases rds with | nil =>
      unfold minW at hds; split at hds
      · rename_i x y
        cases ra; cases rb
        refine min_two_ints r.hd fun h' tk k => ⟨g.trans (.heap s₁ k tk), _, hds, ?_⟩
        by_cases hlt : y < x
        · rw [if_pos hlt, Int.min_eq_right (by omega)]; exact .int ..
        · rw [if_neg hlt, Int.min_eq_left (by omega)]; exact .int ..
      · exact hds.elim
  · exact hds.elim

theorem EvT_isint {p p2 pos} {e : Expr} {K : Bool → Prop} (gd : Gd c) (hk : nm.lookup ("isinstance" : Str) = some .globalImplicit) (hk2 : nm.lookup ("int" : Str) = some .globalImplicit) (hs : isStar e = false)
    (h : EvS c l nm pe e fun d => match d with | .int _ => K true | _ => False) : EvT c l nm pe (.Call (.Name "isinstance" p) [e, .Name "int" p2] [] pos) K := fun X env A s r i => by
  refine isTrue_plain ?_
  refine Call_ (evalBlt gd i (by decide) hk boot_isinstance ?_ (by decide))
  refine callWith_builtin1 ?_ (starEach_plain hs _ _)
  refine args_cons (wpAny_mono (h X env A s r i) (fun v s₁ p => ?_) fun _ _ f => f) (starEach_plain hs _ _)
  obtain ⟨g, d, hd, rd⟩ := p
  refine args_cons (evalBlt gd (i.grow g) (by decide) hk2 boot_int (args_nil ?_) (by decide))
  split at hd
  · cases rd
    exact IsiPair.int_int (wpAny_truthy_bool ⟨g, hd⟩)
  · exact hd.elim
end
end Mine
end

section
set_option linter.unusedVariables false
namespace Mine
open PySem PyProof.Rows

/-- iterators that hand out a tuple of their own -/
noncomputable def ownIts : List String := ["enumerate", "zip", "dict_itemiterator", "dict_reverseitemiterator", "odict_iterator", "itertools.zip_longest", "itertools.pairwise"]
noncomputable def ItPlain (h : Heap) (I : Addr) : Prop := ∃ o n, h.get? I = some o ∧ o.cls = .type n ∧ ownIts.contains n = false
/-- an iterator I that hands out values for ds, in order -/
noncomputable def Src (c : Cx) (A : Around) (X : Addr → Prop) (s : Shared) (I : Addr) (ds : List PyData) : Prop :=
  ∃ fp P St, Walks c.prog c.w A I fp [I] ds.length P St ∧ St 0 s.heap ∧ (∀ b ∈ fp, b ≠ I → ¬ X b ∧ ∃ o, s.heap.get? b = some o) ∧ (∀ i h, St i h → ItPlain h I) ∧
    ∀ i v, i < ds.length → P i v → ∃ d, ds[i]? = some d ∧ Rep c.prog c.w s.heap (fun b => X b ∨ b = I) v d

section
variable (c : Cx) (l : Nat) (nm : Names) (pe : PEnv)
noncomputable def EvI (e : Expr) (K : List PyData → Prop) : Prop := ∀ X env A s, Room l A → EInv c X env nm pe s →
  wpAny (model c.prog c.w) A (eval e env) (fun xv s₁ => wpAny (model c.prog c.w) A (pyIter xv) (fun it s₂ => Gr s s₂ ∧ ∃ I ds, it = .ref I ∧ K ds ∧ s.heap.get? I = none ∧ Src c A X s₂ I ds) noE s₁) noE s
end

noncomputable def iterW (d : PyData) (K : List PyData → Prop) : Prop :=
  match d with
  | .list xs => K xs
  | .tuple xs => K xs
  | .dict kvs => K (kvs.map (·.1))
  | _ => False
noncomputable def rangeL (a b : Int) : List PyData := (List.range (b - a).toNat).map fun i : Nat => .int (a + i)
noncomputable def rng1W (d : PyData) (K : List PyData → Prop) : Prop := match d with | .int n => (-(2 ^ 31) ≤ n ∧ n < 2 ^ 31) ∧ K (rangeL 0 n) | _ => False
noncomputable def rng2W (a b : PyData) (K : List PyData → Prop) : Prop := match a, b with | .int m, .int n => (-(2 ^ 31) ≤ m ∧ m < 2 ^ 31 ∧ -(2 ^ 31) ≤ n ∧ n < 2 ^ 31) ∧ K (rangeL m n) | _, _ => False
noncomputable def valsW (d : PyData) (K : List PyData → Prop) : Prop := match d with | .dict kvs => K (kvs.map (·.2)) | _ => False

section
variable {c : Cx} {l : Nat} {nm : Names} {pe : PEnv} {K : List PyData → Prop} {A : Around} {s : Shared} {X : Addr → Prop}

theorem Gr.none {s s₁ : Shared} (g : Gr s s₁) {a : Addr} (h : s₁.heap.get? a = none) : s.heap.get? a = none := by
  cases e : s.heap.get? a with
  | none => rfl
  | some o => rw [g.keep a o e] at h; cases h

theorem EvI.mono {e : Expr} {K K' : List PyData → Prop} (h : EvI c l nm pe e K) (k : ∀ d, K d → K' d) : EvI c l nm pe e K' :=
  fun X env A s r i => wpAny_mono (h X env A s r i) (fun _ _ p => wpAny_mono p (fun _ _ p => ⟨p.1, let ⟨I, ds, e, q, z⟩ := p.2; ⟨I, ds, e, k ds q, z⟩⟩) fun _ _ f => f) fun _ _ f => f

theorem newIt {o : Obj} (hf : o.isFreed = false := by rfl) : (s.heap.push o).get? s.heap.objs.size = some o := Heap.get?_push_size _ hf

theorem key_rep_int {p : Program} {w : World} {h : Heap} {X : Addr → Prop} {kvs : List (PyData × Value)} {kds : List (PyData × PyData)} {ks : List (Int × Value)} (r : RepKV p w h X kvs kds) (e : kvs = ks.map fun q => (.int q.1, q.2)) {i : Nat} {k : Int} {x v : Value}
    (hx : ks[i]? = some (k, x)) (hv : (intKind p w).is k v = true) : ∃ d, (kds.map (·.1))[i]? = some d ∧ Rep p w h X v d := by
  obtain ⟨t, rfl⟩ := Value.isInt_shape hv
  refine ⟨.int k, ?_, .int k t⟩
  rw [← r.keys, e]
  simp [hx]
theorem key_rep_str {p : Program} {w : World} {h : Heap} {X : Addr → Prop} {kvs : List (PyData × Value)} {kds : List (PyData × PyData)} {ks : List (Str × Value)} (r : RepKV p w h X kvs kds) (e : kvs = ks.map fun q => (.str q.1, q.2)) {i : Nat} {k : Str} {x v : Value}
    (hx : ks[i]? = some (k, x)) (hv : (strKind p w).is k v = true) : ∃ d, (kds.map (·.1))[i]? = some d ∧ Rep p w h X v d := by
  obtain ⟨t, rfl⟩ := Value.isStrOf_shape hv
  refine ⟨.str k, ?_, .str k t⟩
  rw [← r.keys, e]
  simp [hx]

theorem iterW_sound {d : PyData} {v : Value} (h : iterW d K) (hh : A.handled = none) (rd : Rep c.prog c.w s.heap X v d) :
    wpAny (model c.prog c.w) A (pyIter v) (fun it s₂ => Gr s s₂ ∧ ∃ I ds, it = .ref I ∧ K ds ∧ s.heap.get? I = none ∧ Src c A X s₂ I ds) noE s := by
  unfold iterW at h; split at h
  · cases rd with | @list a vs n xs hx hl r =>
    refine wpAny_pyIter_list hl.isList ⟨.push .., _, _, rfl, h, fresh_addr s, ?_⟩
    have hlt := Heap.lt_size hl
    have e := r.length
    simp only [Array.length_toList] at e
    have W := Walks.list (prog := c.prog) (w := c.w) hh s.heap.objs.size a (Nat.ne_of_lt hlt) vs
    rw [e] at W
    refine ⟨_, _, _, W, ⟨⟨_, newIt, rfl, rfl⟩, (hl.push _).isList⟩, fun b hb hne => ?_, fun i h st => ?_, fun i v hi hv => ?_⟩
    · simp at hb; rcases hb with rfl | rfl
      · exact absurd rfl hne
      · exact ⟨hx, _, hl.push _⟩
    · obtain ⟨⟨o, ho, hc, _⟩, _⟩ := st; exact ⟨o, _, ho, hc, by decide⟩
    · obtain ⟨d, hd, rd⟩ := r.get' i (v := v) (by simpa using hv)
      exact ⟨d, hd, rd.mono (Ext.more (fun _ _ e => Heap.get?_push_of_some _ e) fun a q => q.imp id fun e => by subst e; exact fresh_addr s)⟩
  · cases rd with | @tuple a vs n xs hx hl r =>
    have ht : s.heap.IsTuple a vs := ⟨_, hl, rfl, _, rfl⟩
    refine wpAny_pyIter_tuple ht ⟨.push .., _, _, rfl, h, fresh_addr s, ?_⟩
    have hlt := Heap.lt_size hl
    have e := r.length
    simp only [Array.length_toList] at e
    have W := Walks.tuple (prog := c.prog) (w := c.w) hh s.heap.objs.size a (Nat.ne_of_lt hlt) vs
    rw [e] at W
    refine ⟨_, _, _, W, ⟨⟨_, newIt, rfl, rfl⟩, ⟨_, hl.push _, rfl, _, rfl⟩⟩, fun b hb hne => ?_, fun i h st => ?_, fun i v hi hv => ?_⟩
    · simp at hb; rcases hb with rfl | rfl
      · exact absurd rfl hne
      · exact ⟨hx, _, hl.push _⟩
    · obtain ⟨⟨o, ho, hc, _⟩, _⟩ := st; exact ⟨o, _, ho, hc, by decide⟩
    · obtain ⟨d, hd, rd⟩ := r.get' i (v := v) (by simpa using hv)
      exact ⟨d, hd, rd.mono (Ext.more (fun _ _ e => Heap.get?_push_of_some _ e) fun a q => q.imp id fun e => by subst e; exact fresh_addr s)⟩
  · rename_i kds
    cases rd with | @dict a kvs _ hx hd r =>
    obtain ⟨o, ho⟩ := hd.get
    have hlt := Heap.lt_size ho
    rcases hd.2 with ⟨ks, e, hD⟩ | ⟨ks, e, hD⟩
    · obtain ⟨ep, hA⟩ := hD.dictAt
      have el : (kds.map (·.1)).length = ks.length := by rw [← r.keys, e]; simp
      refine wpAny_pyIter_dict hd.1 hA ⟨.push .., _, _, rfl, h, fresh_addr s, ?_⟩
      have W := Walks.dictKeys (knd := intKind c.prog c.w) hh s.heap.objs.size a (Nat.ne_of_lt hlt) ks ep
      have W' := W
      rw [← el] at W'
      refine ⟨_, _, _, W', ⟨⟨_, newIt, rfl, by rw [el]; rfl⟩, hA.at' fun _ e => Heap.get?_push_of_some _ e⟩, fun b hb hne => ?_, fun i h st => ?_, fun i v hi hv => ?_⟩
      · simp at hb; rcases hb with rfl | rfl
        · exact absurd rfl hne
        · exact ⟨hx, _, Heap.get?_push_of_some _ ho⟩
      · obtain ⟨⟨o, ho, hc, _⟩, _⟩ := st; exact ⟨o, _, ho, hc, by decide⟩
      · obtain ⟨k, x, h1, h2⟩ := hv
        obtain ⟨d, hd, rd⟩ := key_rep_int r e h1 h2
        exact ⟨d, hd, rd.mono (Ext.more (fun _ _ e => Heap.get?_push_of_some _ e) fun a q => q.imp id fun e => by subst e; exact fresh_addr s)⟩
    · obtain ⟨ep, hA⟩ := hD.dictAt
      have el : (kds.map (·.1)).length = ks.length := by rw [← r.keys, e]; simp
      refine wpAny_pyIter_dict hd.1 hA ⟨.push .., _, _, rfl, h, fresh_addr s, ?_⟩
      have W := Walks.dictKeys (knd := strKind c.prog c.w) hh s.heap.objs.size a (Nat.ne_of_lt hlt) ks ep
      have W' := W
      rw [← el] at W'
      refine ⟨_, _, _, W', ⟨⟨_, newIt, rfl, by rw [el]; rfl⟩, hA.at' fun _ e => Heap.get?_push_of_some _ e⟩, fun b hb hne => ?_, fun i h st => ?_, fun i v hi hv => ?_⟩
      · simp at hb; rcases hb with rfl | rfl
        · exact absurd rfl hne
        · exact ⟨hx, _, Heap.get?_push_of_some _ ho⟩
      · obtain ⟨⟨o, ho, hc, _⟩, _⟩ := st; exact ⟨o, _, ho, hc, by decide⟩
      · obtain ⟨k, x, h1, h2⟩ := hv
        obtain ⟨d, hd, rd⟩ := key_rep_str r e h1 h2
        exact ⟨d, hd, rd.mono (Ext.more (fun _ _ e => Heap.get?_push_of_some _ e) fun a q => q.imp id fun e => by subst e; exact fresh_addr s)⟩
  · exact h.elim

theorem EvI_of {e : Expr} (h : EvS c l nm pe e fun d => iterW d K) : EvI c l nm pe e K := fun X env A s r i => by
  refine wpAny_mono (h X env A s r i) (fun v s₁ p => ?_) fun _ _ f => f
  obtain ⟨g, d, hd, rd⟩ := p
  exact wpAny_mono (iterW_sound hd r.hd rd) (fun it s₂ p => ⟨g.trans p.1, let ⟨I, ds, a, b, n, z⟩ := p.2; ⟨I, ds, a, b, g.none n, z⟩⟩) fun _ _ f => f

theorem range_sound {a b : Int} {t u v : Tok} {r : Addr} (hh : A.handled = none) (hr : IsRange s.heap r a b 1 t u v) (h1 : -(2 ^ 31) ≤ a) (h2 : a < 2 ^ 31) (h3 : -(2 ^ 31) ≤ b) (h4 : b < 2 ^ 31) (hK : K (rangeL a b)) :
    wpAny (model c.prog c.w) A (pyIter (.ref r)) (fun it s₂ => Gr s s₂ ∧ ∃ I ds, it = .ref I ∧ K ds ∧ s.heap.get? I = none ∧ Src c A X s₂ I ds) noE s := by
  refine wpAny_pyIter_range hr (small_one (by omega) (by omega) (by omega) (by omega)) ⟨.push .., _, _, rfl, hK, fresh_addr s, ?_⟩
  have e : Builtin.Range.rangeSize a b 1 = ((b - a).toNat : Int) := by rw [rangeSize_one]; split <;> omega
  have el : (rangeL a b).length = (b - a).toNat := by simp [rangeL]
  have W := Walks.range (prog := c.prog) (w := c.w) hh s.heap.objs.size a 1 (b - a).toNat
  rw [← el] at W
  refine ⟨_, _, _, W, ?_, fun x hx hne => ?_, fun i h st => ?_, fun i v hi hv => ?_⟩
  · rw [e]
    have : a + ((0 : Nat) : Int) * 1 = a := by omega
    have e3 : ((b - a).toNat : Int) - ((0 : Nat) : Int) = ((b - a).toNat : Int) := by omega
    rw [el, this, e3]; exact newIt
  · simp at hx; exact absurd hx hne
  · exact ⟨_, _, st, rfl, by decide⟩
  · obtain ⟨t, rfl⟩ := hv
    rw [el] at hi
    refine ⟨.int (a + i * 1), ?_, .int ..⟩
    simp [rangeL, hi]


theorem EvI_range1 {p pos} {e : Expr} (gd : Gd c) (hk : nm.lookup ("range" : Str) = some .globalImplicit) (hs : isStar e = false) (h : EvS c l nm pe e fun d => rng1W d K) : EvI c l nm pe (.Call (.Name "range" p) [e] [] pos) K := fun X env A s r i => by
  refine Call_ (evalBlt gd i (by decide) hk boot_range ?_ (by decide))
  rw [starEach_plain hs]
  refine PySem.callWith_type rfl (Calls.evalArgs_plain (Calls.spliced_cons (wpAny_mono (h X env A s r i) (fun v s₁ p => Calls.spliced_nil ?_) fun _ _ f => f)))
  obtain ⟨g, d, hd, rd⟩ := p
  show wpAny _ A (call (.type "range") [v]) _ _ s₁
  unfold rng1W at hd; split at hd
  · cases rd
    refine call_range_1 ?_
    have g1 : Gr s₁ { s₁ with heap := s₁.heap.push { cls := .type "range", data := .fields #[.int 0 s₁.toks, .int ‹Int› ‹Tok›, .int 1 (s₁.toks + 1)] }, toks := s₁.toks + 1 + 1 } := .heap s₁ (fun _ _ e => Heap.get?_push_of_some _ e) _
    exact wpAny_mono (range_sound (X := X) r.hd (IsRange.new ..) (by omega) (by omega) hd.1.1 hd.1.2 hd.2) (fun it s₂ p => ⟨g.trans (g1.trans p.1), let ⟨I, ds, a, b, n, z⟩ := p.2; ⟨I, ds, a, b, g.none (g1.none n), z⟩⟩) fun _ _ f => f
  · exact hd.elim
theorem EvI_range2 {p pos} {e1 e2 : Expr} (gd : Gd c) (hk : nm.lookup ("range" : Str) = some .globalImplicit) (hs : isStar e1 = false) (hs2 : isStar e2 = false)
    (h : EvL c l nm pe [e1, e2] fun ds => match ds with | [a, b] => rng2W a b K | _ => False) : EvI c l nm pe (.Call (.Name "range" p) [e1, e2] [] pos) K := fun X env A s r i => by
  refine Call_ (evalBlt gd i (by decide) hk boot_range ?_ (by decide))
  have h' := h X env A s pos r i
  rw [starEach_plain hs, starEach_plain hs2] at h' ⊢
  refine PySem.callWith_type rfl (Calls.evalArgs_plain (wpAny_mono h' (fun vs s₁ p => ?_) fun _ _ f => f))
  obtain ⟨g, ds, hds, rds⟩ := p
  show wpAny _ A (call (.type "range") vs) _ _ s₁
  split at hds
  · cases rds with | cons ra rds => cases rds with | cons rb rds => cases rds with | nil =>
      unfold rng2W at hds; split at hds
      · cases ra; cases rb
        refine call_range_2 ?_
        rename_i m n t u
        have g1 : Gr s₁ { s₁ with heap := s₁.heap.push { cls := .type "range", data := .fields #[.int m t, .int n u, .int 1 s₁.toks] }, toks := s₁.toks + 1 } := .heap s₁ (fun _ _ e => Heap.get?_push_of_some _ e) _
        exact wpAny_mono (range_sound (X := X) r.hd (IsRange.new ..) hds.1.1 hds.1.2.1 hds.1.2.2.1 hds.1.2.2.2 hds.2) (fun it s₂ p => ⟨g.trans (g1.trans p.1), let ⟨I, ds, a, b, n, z⟩ := p.2; ⟨I, ds, a, b, g.none (g1.none n), z⟩⟩) fun _ _ f => f
      · exact hds.elim
  · exact hds.elim

theorem vals_sound {K' : Type} [DecidableEq K'] {knd : KeyKind c.prog c.w K'} {a : Addr} {ks : List (K' × Value)} {kds : List PyData} (hh : A.handled = none) (hx : ¬ X a) (hsm : (a == sysModules) = false) (hD : s.heap.DictOf knd a ks)
    (r : RepAll c.prog c.w s.heap X (ks.map (·.2)) kds) (hK : K kds) :
    wpAny (model c.prog c.w) A (call (.builtin "dict.values") [.ref a]) (fun xv s₁ => wpAny (model c.prog c.w) A (pyIter xv) (fun it s₂ => Gr s s₂ ∧ ∃ I ds, it = .ref I ∧ K ds ∧ s.heap.get? I = none ∧ Src c A X s₂ I ds) noE s₁) noE s := by
  refine call_meetsIn PySem.F.slot_dict_values hD.typeIs PySem.F.entry_dict_values (PySem.F.args_dict_values_1 _) (meets_dict_values knd a hsm) ⟨⟨ks, hD⟩, ?_⟩
  have g1 : Gr s { s with heap := s.heap.push { cls := .type "dict_values", data := .fields #[.ref a] } } := .push ..
  obtain ⟨ep, hA⟩ := hD.dictAt
  obtain ⟨o, es, ho, _⟩ := id hA
  have hlt := Heap.lt_size ho
  have el : kds.length = ks.length := by rw [← r.length]; simp
  refine wpAny_pyIter_values (knd := knd) (kvs := ks) (ep := ep) ⟨_, newIt, rfl, rfl⟩ (hA.at' fun _ e => Heap.get?_push_of_some _ e) ⟨g1.trans (.push ..), _, _, rfl, hK, g1.none (fresh_addr _), ?_⟩
  have W := Walks.dictValues (knd := knd) hh (s.heap.push { cls := .type "dict_values", data := .fields #[.ref a] }).objs.size a (by rw [Heap.size_push]; exact Nat.ne_of_lt (Nat.lt_succ_of_lt hlt)) ks ep
  have W' := W
  rw [← el] at W'
  refine ⟨_, _, _, W', ⟨⟨_, Heap.get?_push_size _ rfl, rfl, by rw [el]; rfl⟩, hA.at' fun _ e => Heap.get?_push_of_some _ (Heap.get?_push_of_some _ e)⟩, fun b hb hne => ?_, fun i h st => ?_, fun i v hi hv => ?_⟩
  · simp only [List.mem_cons, List.not_mem_nil, or_false] at hb; rcases hb with rfl | rfl
    · exact absurd rfl hne
    · exact ⟨hx, _, Heap.get?_push_of_some _ (Heap.get?_push_of_some _ ho)⟩
  · obtain ⟨⟨o, ho, hc, _⟩, _⟩ := st; exact ⟨o, _, ho, hc, by decide⟩
  · obtain ⟨k, hk⟩ := hv
    obtain ⟨d, hd, rd⟩ := r.get' i (v := v) (by simp [hk])
    exact ⟨d, hd, rd.mono (Ext.more (fun _ _ e => Heap.get?_push_of_some _ (Heap.get?_push_of_some _ e)) fun a q => q.imp id fun e => by subst e; exact g1.none (fresh_addr _))⟩

/-- the base of a method call is no call of super -/
noncomputable def plainBase : Expr → Bool
  | .Name .. => true
  | .Subscript .. => true
  | _ => false
theorem base_plain {o : Expr} (h : plainBase o = true) (n : Str) (env : Env) : attributeBase o n env (eval o env) = eval o env := by
  cases o <;> first | rfl | cases h

theorem EvI_vals {o : Expr} {apos pos} (hb : plainBase o = true) (hl : (apos.endLine == pos.line) = true) (h : EvS c l nm pe o fun d => valsW d K) : EvI c l nm pe (.Call (.Attribute o "values" apos) [] [] pos) K := fun X env A s r i => by
  refine wpAny_Call_method (T := "dict") (id := "dict.values") (base_plain hb _ _) rfl hl PySem.F.plainAttrs_dict PySem.F.slot_dict_values PySem.F.type_dict_values (wpAny_mono (h X env A s r i) (fun v s₁ p => ?_) fun _ _ f => f)
  obtain ⟨g, d, hd, rd⟩ := p
  unfold valsW at hd; split at hd
  · rename_i kds
    cases rd with | @dict a kvs _ hx hdp rr =>
    have fin : ∀ {K' : Type} [DecidableEq K'] {knd : KeyKind c.prog c.w K'} {ks : List (K' × Value)}, s₁.heap.DictOf knd a ks → RepAll c.prog c.w s₁.heap X (ks.map (·.2)) (kds.map (·.2)) →
        (s₁.TypeIs (.ref a) "dict" ∧ (∀ b, Value.ref a = .ref b → ∃ ob, s₁.heap.get? b = some ob ∧ ob.dict = none) ∧ wpAny (model c.prog c.w) A (callWith pos (.builtin "dict.values") [.ref a] (backTo pos (starEach [] env)) [])
          (fun xv s₁ => wpAny (model c.prog c.w) A (pyIter xv) (fun it s₂ => Gr s s₂ ∧ ∃ I ds, it = .ref I ∧ K ds ∧ s.heap.get? I = none ∧ Src c A X s₂ I ds) noE s₁) noE s₁) := by
      intro K' _ knd ks hD rv
      refine ⟨hD.typeIs, hD.mapOf.noDict, ?_⟩
      refine Calls.callWith_builtin rfl (PyProof.Rows.evalArgs_none ?_)
      refine wpAny_mono (vals_sound (X := X) r.hd hx hdp.1 hD rv hd) (fun xv s₂ p => wpAny_mono p (fun it s₃ p => ⟨g.trans p.1, let ⟨I, ds, a, b, n, z⟩ := p.2; ⟨I, ds, a, b, g.none n, z⟩⟩) fun _ _ f => f) fun _ _ f => f
    rcases hdp.2 with ⟨ks, rfl, hD⟩ | ⟨ks, rfl, hD⟩
    · exact fin hD (by have := rr.vals; simpa [List.map_map, Function.comp_def] using this)
    · exact fin hD (by have := rr.vals; simpa [List.map_map, Function.comp_def] using this)
  · exact hd.elim

theorem ownGo {M : Model} {E : Value → Shared → Prop} {target : Expr} {I : Addr} {v : Value} {Q : Unit → Shared → Prop} (hi : ItPlain s.heap I) (h : Q () s) : wpAny M A (letOwnedTupleGo target (.ref I) v) Q E s := by
  obtain ⟨o, n, ho, hc, hn⟩ := hi
  have key : ∀ b : Addr, wpAny M A (do
      let o ← load I
      match o.cls, o.data with
      | .type n, .fields vs =>
        if ["enumerate", "zip", "dict_itemiterator", "dict_reverseitemiterator", "odict_iterator", "itertools.zip_longest", "itertools.pairwise"].contains n && vs[0]? == some (rawInt b) then
          rule "for.unpacks-the-owned-tuple"
          updateField I 0 .none
      | _, _ => pure ()) Q E s := fun b => by
    refine wpAny_bind (wpAny_load ho ?_)
    obtain ⟨cl, dd, dt, sl⟩ := o
    simp only at hc
    subst hc
    cases dt with
    | fields vs =>
      simp only
      rw [if_neg (by unfold ownIts at hn; rw [hn]; simp)]
      exact wpAny_pure h
    | _ => exact wpAny_pure h
  unfold letOwnedTupleGo
  cases target with
  | Tuple es k p => cases v <;> first | exact key _ | exact wpAny_pure h
  | List es p => cases v <;> first | exact key _ | exact wpAny_pure h
  | _ => exact wpAny_pure h
end
end Mine
end

section
set_option linter.unusedVariables false
namespace Mine
open PySem PyProof.Rows

noncomputable def RepP (p : Program) (w : World) (h : Heap) (X : Addr → Prop) : List (Value × Value) → List (PyData × PyData) → Prop
  | [], [] => True
  | (k, v) :: r, (dk, dv) :: r' => Rep p w h X k dk ∧ Rep p w h X v dv ∧ RepP p w h X r r'
  | _, _ => False

section
variable (c : Cx) (l : Nat) (nm : Names) (pe : PEnv)
noncomputable def EvP (ks : List (Option Expr)) (vs : List Expr) (K : List (PyData × PyData) → Prop) : Prop := ∀ X env A s pos, Room l A → EInv c X env nm pe s →
  wpAny (model c.prog c.w) A (evalPairs (pairTrees ks vs env pos)) (fun r s' => Gr s s' ∧ ∃ kds, K kds ∧ RepP c.prog c.w s'.heap X r kds) noE s
end

noncomputable def dictWI (kds : List (PyData × PyData)) (K : PyData → Prop) : Prop := (∃ ks : List (Int × PyData), kds = ks.map (fun q => (.int q.1, q.2)) ∧ (ks.map (·.1)).Nodup) ∧ K (.dict kds)
noncomputable def dictWS (kds : List (PyData × PyData)) (K : PyData → Prop) : Prop := (∃ ks : List (Str × PyData), kds = ks.map (fun q => (.str q.1, q.2)) ∧ (ks.map (·.1)).Nodup) ∧ K (.dict kds)

section
variable {c : Cx} {l : Nat} {nm : Names} {pe : PEnv} {A : Around} {s : Shared} {X : Addr → Prop}
theorem EvP.mono {ks vs} {K K' : List (PyData × PyData) → Prop} (h : EvP c l nm pe ks vs K) (k : ∀ d, K d → K' d) : EvP c l nm pe ks vs K' :=
  fun X env A s pos r i => wpAny_mono (h X env A s pos r i) (fun _ _ p => ⟨p.1, let ⟨d, q, z⟩ := p.2; ⟨d, k d q, z⟩⟩) fun _ _ f => f
theorem EvP_nil {K : List (PyData × PyData) → Prop} (h : K []) : EvP c l nm pe [] [] K := fun X env A s pos r i => pairTrees_nil_walk ⟨.refl .., _, h, trivial⟩
theorem EvP_cons {k v : Expr} {ks : List (Option Expr)} {vs : List Expr} {K : List (PyData × PyData) → Prop} (h : EvS c l nm pe k fun dk => EvS c l nm pe v fun dv => EvP c l nm pe ks vs fun r => K ((dk, dv) :: r)) :
    EvP c l nm pe (some k :: ks) (v :: vs) K := fun X env A s pos r i => by
  refine pairTrees_cons_walk (wpAny_mono (h X env A s r i) (fun kv s₁ p => ?_) fun _ _ f => f)
  obtain ⟨g1, dk, hk, rk⟩ := p
  refine wpAny_mono (hk X env A s₁ r (i.grow g1)) (fun vv s₂ p => ?_) fun _ _ f => f
  obtain ⟨g2, dv, hv, rv⟩ := p
  refine wpAny_mono (hv X env A s₂ pos r (i.grow (g1.trans g2))) (fun rs s₃ p => ?_) fun _ _ f => f
  obtain ⟨g3, kds, hK, rr⟩ := p
  exact ⟨g1.trans (g2.trans g3), _, hK, rk.mono (Ext.keep fun b o e => g3.keep b o (g2.keep b o e)), rv.mono (Ext.keep g3.keep), rr⟩

theorem repP_int {p : Program} {w : World} {h : Heap} : ∀ {r : List (Value × Value)} {ks : List (Int × PyData)}, RepP p w h X r (ks.map fun q => (.int q.1, q.2)) →
    ∃ kvs : List (Int × Value), Carries (intKind p w) r kvs ∧ kvs.map (·.1) = ks.map (·.1) ∧ RepKV p w h X (kvs.map fun q => (.int q.1, q.2)) (ks.map fun q => (.int q.1, q.2))
  | [], [], _ => ⟨[], trivial, rfl, .nil⟩
  | (k, v) :: r, (i, d) :: ks, h => by
    obtain ⟨h1, h2, h3⟩ := h
    obtain ⟨kvs, a, b, e⟩ := repP_int h3
    cases h1
    exact ⟨(i, v) :: kvs, ⟨by simp [intKind, Value.isInt], rfl, a⟩, by simp [b], .cons h2 e⟩
theorem repP_str {p : Program} {w : World} {h : Heap} : ∀ {r : List (Value × Value)} {ks : List (Str × PyData)}, RepP p w h X r (ks.map fun q => (.str q.1, q.2)) →
    ∃ kvs : List (Str × Value), Carries (strKind p w) r kvs ∧ kvs.map (·.1) = ks.map (·.1) ∧ RepKV p w h X (kvs.map fun q => (.str q.1, q.2)) (ks.map fun q => (.str q.1, q.2))
  | [], [], _ => ⟨[], trivial, rfl, .nil⟩
  | (k, v) :: r, (i, d) :: ks, h => by
    obtain ⟨h1, h2, h3⟩ := h
    obtain ⟨kvs, a, b, e⟩ := repP_str h3
    cases h1
    exact ⟨(i, v) :: kvs, ⟨by simp [PySem.strKind, Value.isStrOf], rfl, a⟩, by simp [b], .cons h2 e⟩

theorem notSys (gd : Gd c) (i : SInv c X s) : (s.heap.objs.size == sysModules) = false := by
  obtain ⟨o, _, _, ho, _⟩ := i.g gd
  have := Heap.lt_size ho
  have : sysModules < s.heap.objs.size := Nat.lt_trans (by decide) this
  simpa using Nat.ne_of_gt this

theorem EvF_dict0 (gd : Gd c) {pos} {K : PyData → Prop} (h : K (.dict [])) : EvF c l nm pe (.Dict [] [] pos) K := fun X env A s r i => by
  show wpAny _ A (do standAt pos; newDict) _ _ s
  refine wpAny_bind (wpAny_standAt (wpAny_newObj_type ⟨.push .., _, _, h, rfl, fresh_addr s, [], ⟨notSys gd i.toSInv, .inl ⟨[], rfl, Heap.DictOf.new ..⟩⟩, .nil⟩))

theorem dict_fin {K' : Type} [DecidableEq K'] (knd : KeyKind c.prog c.w K') (en : K' → PyData) {K : PyData → Prop} {s₁ : Shared} {kds : List (PyData × PyData)} {kvs : List (K' × Value)} (g2 : Gr { s with heap := s.heap.push { cls := .type "dict", data := .dict #[] } } s₁)
    (hn : (kvs.map (·.1)).Nodup) (rk : RepKV c.prog c.w s₁.heap (fun b => X b ∨ b = s.heap.objs.size) (kvs.map fun q => (en q.1, q.2)) kds) (hK : K (.dict kds))
    (hip : ∀ h', h'.DictOf knd s.heap.objs.size kvs → IsDP c.prog c.w h' s.heap.objs.size (kvs.map fun q => (en q.1, q.2))) {h' : Heap} {tk : Nat} (hD : h'.DictOf knd s.heap.objs.size (merged [] kvs)) (hs : Heap.SameBut s.heap.objs.size s₁.heap h') :
    PostF c X s K (.ref s.heap.objs.size) { s₁ with heap := h', toks := tk } := by
  have g1 : Gr s { s with heap := s.heap.push { cls := .type "dict", data := .dict #[] } } := .push ..
  rw [merged_nil_of_nodup _ hn] at hD
  refine ⟨⟨?_, fun b o e => ?_⟩, _, _, hK, rfl, fresh_addr s, _, hip h' hD, rk.mono (Ext.same hs (.inr rfl))⟩
  · obtain ⟨hh, t, e⟩ := g2.same
    rw [e]; exact ⟨_, _, rfl⟩
  · have : b ≠ s.heap.objs.size := fun q => by subst q; rw [fresh_addr] at e; cases e
    exact (hs.2 b this).trans (g2.keep b o (g1.keep b o e))

theorem dict_new {env : Env} (i : EInv c X env nm pe s) : EInv c (fun b => X b ∨ b = s.heap.objs.size) env nm pe { s with heap := s.heap.push { cls := .type "dict", data := .dict #[] } } :=
  i.ext (.push ..) fun a q => q.imp id fun e => by subst e; exact ⟨fresh_addr s, _, Heap.get?_push_size _ rfl⟩

theorem EvF_dictI (gd : Gd c) {ks : List (Option Expr)} {vs : List Expr} {pos} {K : PyData → Prop} (hall : ks.all (·.isSome) = true) (hl : ks.length = vs.length) (h0 : ks ≠ []) (hlen : ks.length ≤ 15)
    (h : EvP c l nm pe ks vs fun kds => dictWI kds K) : EvF c l nm pe (.Dict ks vs pos) K := fun X env A s r i => by
  refine wpAny_Dict_walk (knd := intKind c.prog c.w) hall hl h0 hlen (wpAny_mono (h _ env A _ pos r (dict_new i)) (fun rs s₁ p => ?_) fun _ _ f => f)
  obtain ⟨g2, kds, ⟨⟨ks', rfl, hn⟩, hK⟩, rr⟩ := p
  obtain ⟨kvs, a, b, e⟩ := repP_int rr
  exact ⟨kvs, a, (Heap.DictOf.new (knd := intKind c.prog c.w) s.heap).at fun o e => g2.keep _ _ e, fun h' hD hs => dict_fin (intKind c.prog c.w) .int g2 (by rw [b]; exact hn) e hK (fun h' hD => ⟨notSys gd i.toSInv, .inl ⟨kvs, rfl, hD⟩⟩) hD hs⟩
theorem EvF_dictS (gd : Gd c) {ks : List (Option Expr)} {vs : List Expr} {pos} {K : PyData → Prop} (hall : ks.all (·.isSome) = true) (hl : ks.length = vs.length) (h0 : ks ≠ []) (hlen : ks.length ≤ 15)
    (h : EvP c l nm pe ks vs fun kds => dictWS kds K) : EvF c l nm pe (.Dict ks vs pos) K := fun X env A s r i => by
  refine wpAny_Dict_walk (knd := strKind c.prog c.w) hall hl h0 hlen (wpAny_mono (h _ env A _ pos r (dict_new i)) (fun rs s₁ p => ?_) fun _ _ f => f)
  obtain ⟨g2, kds, ⟨⟨ks', rfl, hn⟩, hK⟩, rr⟩ := p
  obtain ⟨kvs, a, b, e⟩ := repP_str rr
  exact ⟨kvs, a, (Heap.DictOf.new (knd := strKind c.prog c.w) s.heap).at fun o e => g2.keep _ _ e, fun h' hD hs => dict_fin (strKind c.prog c.w) .str g2 (by rw [b]; exact hn) e hK (fun h' hD => ⟨notSys gd i.toSInv, .inr ⟨kvs, rfl, hD⟩⟩) hD hs⟩
end
end Mine
end

section
set_option linter.unusedVariables false
namespace Mine
open PySem PyProof.Rows

inductive Lab where
  | L
  | cell (x : Str)
  | own (x : Str)
inductive Fl where
  | next | brk | cont
  | ret (d : PyData)

noncomputable def XX (X₀ : Addr → Prop) (ρ : Addr → Option Lab) : Addr → Prop := fun a => X₀ a ∨ ρ a ≠ none
noncomputable def SlotF (p : Program) (w : World) (h : Heap) (X : Addr → Prop) (ρ : Addr → Option Lab) (x : Str) (v : Value) (sl : Slot) : Prop :=
  match sl.own with
  | false => Rep p w h X v sl.d
  | true => ∃ a, v = .ref a ∧ ρ a = some (.own x) ∧ TopR p w h X a sl.d

structure FInv (c : Cx) (X₀ : Addr → Prop) (env : Env) (nm : Names) (pe : PEnv) (ρ : Addr → Option Lab) (s : Shared) : Prop where
  kept : ∀ b o, c.h₀.get? b = some o → s.heap.get? b = some o
  x0 : ∀ a, X₀ a → c.h₀.get? a = none ∧ (∃ o, s.heap.get? a = some o) ∧ ρ a = none
  rho : ∀ a, ρ a ≠ none → c.h₀.get? a = none ∧ ∃ o, s.heap.get? a = some o
  kind : env.scope.kind = .function
  names : env.scope.names = nm
  glob : env.globals = mainGlobals
  blt : env.builtins = builtinsNs
  L : ρ env.locals = some .L
  ns : ∃ m, s.heap.Ns env.locals m ∧ ∀ x sl, pe x = some sl → nm.lookup x = some .local → ∃ v, m x = some v ∧ SlotF c.prog c.w s.heap (XX X₀ ρ) ρ x v sl
  cells : ∀ x, nm.lookup x = some .cell → ∃ cc ov, env.cells.lookup x = some cc ∧ ρ cc = some (.cell x) ∧ s.heap.IsCell cc ov ∧ ∀ sl, pe x = some sl → ∃ v, ov = some v ∧ SlotF c.prog c.w s.heap (XX X₀ ρ) ρ x v sl
  dom : ∀ x sl, pe x = some sl → nm.lookup x = some .local ∨ nm.lookup x = some .cell

/-- only what bears a label may have turned -/
structure GrB (ρ : Addr → Option Lab) (s s' : Shared) : Prop where
  same : ∃ h t, s' = { s with heap := h, toks := t }
  keep : ∀ b o, ρ b = none → s.heap.get? b = some o → s'.heap.get? b = some o
theorem Gr.grB {s s' : Shared} (g : Gr s s') (ρ : Addr → Option Lab) : GrB ρ s s' := ⟨g.same, fun b o _ e => g.keep b o e⟩
/-- labels of what lives stay -/
noncomputable def Lbl (s : Shared) (ρ ρ' : Addr → Option Lab) : Prop := ∀ a o, s.heap.get? a = some o → ρ' a = ρ a
theorem Lbl.refl (s : Shared) (ρ : Addr → Option Lab) : Lbl s ρ ρ := fun _ _ _ => rfl

section
variable {c : Cx} {l : Nat} {X₀ : Addr → Prop} {env : Env} {nm : Names} {pe : PEnv} {ρ ρ' ρ'' : Addr → Option Lab} {s s' s'' : Shared}

theorem FInv.sinv (i : FInv c X₀ env nm pe ρ s) : SInv c (XX X₀ ρ) s := ⟨i.kept, fun a q => q.elim (fun q => ⟨(i.x0 a q).1, (i.x0 a q).2.1⟩) fun q => i.rho a q⟩
theorem SlotF.slotR {p : Program} {w : World} {h : Heap} {X : Addr → Prop} {x : Str} {v : Value} {sl : Slot} (r : SlotF p w h X ρ x v sl) : SlotR p w h X v sl := by
  obtain ⟨d, o⟩ := sl
  cases o with
  | false => exact r
  | true => exact let ⟨a, e, _, t⟩ := r; ⟨a, e, t⟩
theorem FInv.einv (i : FInv c X₀ env nm pe ρ s) : EInv c (XX X₀ ρ) env nm pe s :=
  { i.sinv with
    kind := i.kind, names := i.names, glob := i.glob, blt := i.blt
    vars := fun x sl e => by
      rcases i.dom x sl e with hl | hl
      · obtain ⟨m, n, q⟩ := i.ns
        obtain ⟨v, hv, r⟩ := q x sl e hl
        exact .inl ⟨hl, v, m, n, hv, r.slotR⟩
      · obtain ⟨cc, ov, h1, _, h2, h3⟩ := i.cells x hl
        obtain ⟨v, rfl, r⟩ := h3 sl e
        exact .inr ⟨hl, v, cc, h1, h2, r.slotR⟩ }
/-- at a return the frame's own things are let go: all is frozen -/
theorem SlotF.frz {p : Program} {w : World} {h : Heap} {x : Str} {v : Value} {sl : Slot} (r : SlotF p w h (XX X₀ ρ) ρ x v sl) (hx : ∀ a, X₀ a → ρ a = none) : SlotR p w h X₀ v ⟨sl.d, false⟩ := by
  obtain ⟨d, o⟩ := sl
  cases o with
  | false => exact Rep.mono (Ext.sub fun _ q => .inl q) r
  | true =>
    obtain ⟨a, rfl, h1, t⟩ := r
    exact (t.mono (Ext.sub fun _ q => .inl q) fun _ e => e).rep fun q => by rw [hx a q] at h1; cases h1
theorem FInv.einvR (i : FInv c X₀ env nm pe ρ s) : EInv c X₀ env nm pe.frz s where
  kept := i.kept
  xa := fun a q => ⟨(i.x0 a q).1, (i.x0 a q).2.1⟩
  kind := i.kind
  names := i.names
  glob := i.glob
  blt := i.blt
  vars := fun x sl e => by
    have hx : ∀ a, X₀ a → ρ a = none := fun a q => (i.x0 a q).2.2
    obtain ⟨sl', e', rfl⟩ : ∃ sl', pe x = some sl' ∧ (⟨sl'.d, false⟩ : Slot) = sl := by
      unfold PEnv.frz at e
      cases h : pe x with
      | none => rw [h] at e; cases e
      | some z => rw [h] at e; exact ⟨z, rfl, Option.some.inj e⟩
    rcases i.dom x sl' e' with hl | hl
    · obtain ⟨m, n, q⟩ := i.ns
      obtain ⟨v, hv, r⟩ := q x sl' e' hl
      exact .inl ⟨hl, v, m, n, hv, r.frz hx⟩
    · obtain ⟨cc, ov, h1, _, h2, h3⟩ := i.cells x hl
      obtain ⟨v, rfl, r⟩ := h3 sl' e'
      exact .inr ⟨hl, v, cc, h1, h2, r.frz hx⟩

theorem SlotF.ext {p : Program} {w : World} {h h' : Heap} {X X' : Addr → Prop} {x : Str} {v : Value} {sl : Slot} (r : SlotF p w h X ρ x v sl) (k : Ext X h X' h') (ka : ∀ a o, ρ a = some (.own x) → h.get? a = some o → h'.get? a = some o ∧ ρ' a = some (.own x)) :
    SlotF p w h' X' ρ' x v sl := by
  obtain ⟨d, o⟩ := sl
  cases o with
  | false => exact Rep.mono k r
  | true =>
    obtain ⟨a, e, h1, t⟩ := r
    obtain ⟨o, ho⟩ := t.alive
    exact ⟨a, e, (ka a o h1 ho).2, t.mono k fun o q => (ka a o h1 q).1⟩

/-- the heap grows; new things may get a label, or become loose for others -/
theorem FInv.growX {X₁ : Addr → Prop} (i : FInv c X₀ env nm pe ρ s) (g : Gr s s') (hl : Lbl s ρ ρ') (hn : ∀ a, ρ' a ≠ none → ρ a ≠ none ∨ (s.heap.get? a = none ∧ ∃ o, s'.heap.get? a = some o))
    (hx1 : ∀ a, X₁ a → X₀ a ∨ (s.heap.get? a = none ∧ (∃ o, s'.heap.get? a = some o) ∧ ρ' a = none)) : FInv c X₁ env nm pe ρ' s' := by
  have X1 : Ext (XX X₀ ρ) s.heap (XX X₁ ρ') s'.heap := Ext.more g.keep fun a q => q.elim (fun q => (hx1 a q).elim (fun q => .inl (.inl q)) fun q => .inr q.1) fun q => (hn a q).elim (fun q => .inl (.inr q)) fun q => .inr q.1
  have Xa : ∀ x a o, ρ a = some (.own x) → s.heap.get? a = some o → s'.heap.get? a = some o ∧ ρ' a = some (.own x) := fun x a o h1 h2 => ⟨g.keep a o h2, (hl a o h2).trans h1⟩
  have new0 : ∀ a, s.heap.get? a = none → c.h₀.get? a = none := fun a q1 => by
    cases e : c.h₀.get? a with
    | none => rfl
    | some o => rw [i.kept a o e] at q1; cases q1
  refine ⟨fun b o e => g.keep b o (i.kept b o e), fun a q => ?_, fun a q => ?_, i.kind, i.names, i.glob, i.blt, ?_, ?_, fun x hx => ?_, i.dom⟩
  · rcases hx1 a q with q | ⟨q1, q2, q3⟩
    · obtain ⟨h1, ⟨o, ho⟩, h3⟩ := i.x0 a q
      exact ⟨h1, ⟨o, g.keep a o ho⟩, (hl a o ho).trans h3⟩
    · exact ⟨new0 a q1, q2, q3⟩
  · rcases hn a q with q | ⟨q1, q2⟩
    · obtain ⟨h1, o, ho⟩ := i.rho a q
      exact ⟨h1, o, g.keep a o ho⟩
    · exact ⟨new0 a q1, q2⟩
  · obtain ⟨m, n, _⟩ := i.ns
    obtain ⟨o, _, _, ho, _⟩ := n
    rw [hl _ o ho]; exact i.L
  · obtain ⟨m, n, q⟩ := i.ns
    exact ⟨m, n.keeps g.keep, fun x sl e hl => let ⟨v, hv, r⟩ := q x sl e hl; ⟨v, hv, r.ext X1 (Xa x)⟩⟩
  · obtain ⟨cc, ov, h1, h2, h3, h4⟩ := i.cells x hx
    refine ⟨cc, ov, h1, ?_, h3.keeps g.keep, fun sl e => let ⟨v, hv, r⟩ := h4 sl e; ⟨v, hv, r.ext X1 (Xa x)⟩⟩
    obtain ⟨o, ho, _⟩ := h3
    rw [hl cc o ho]; exact h2
theorem FInv.grow (i : FInv c X₀ env nm pe ρ s) (g : Gr s s') (hl : Lbl s ρ ρ') (hn : ∀ a, ρ' a ≠ none → ρ a ≠ none ∨ (s.heap.get? a = none ∧ ∃ o, s'.heap.get? a = some o)) : FInv c X₀ env nm pe ρ' s' :=
  i.growX g hl hn fun a q => .inl q
/-- what is loose for others turns; some of it may be let go -/
theorem FInv.turnX {X₁ : Addr → Prop} (i : FInv c X₀ env nm pe ρ s) (k : ∀ b o, ¬ X₀ b → s.heap.get? b = some o → s'.heap.get? b = some o) (sub : ∀ a, X₁ a → X₀ a) (al : ∀ a, X₁ a → ∃ o, s'.heap.get? a = some o) : FInv c X₁ env nm pe ρ s' := by
  have X1 : Ext (XX X₀ ρ) s.heap (XX X₁ ρ) s'.heap := fun b o hb e => ⟨fun q => hb (q.imp (sub b) id), k b o (fun q => hb (.inl q)) e⟩
  have nx : ∀ a, ρ a ≠ none → ¬ X₀ a := fun a h q => h (i.x0 a q).2.2
  have Xa : ∀ x a o, ρ a = some (.own x) → s.heap.get? a = some o → s'.heap.get? a = some o ∧ ρ a = some (.own x) := fun x a o h1 h2 => ⟨k a o (nx a (by rw [h1]; exact fun e => nomatch e)) h2, h1⟩
  refine ⟨fun b o e => k b o (fun q => ?_) (i.kept b o e), fun a q => ⟨(i.x0 a (sub a q)).1, al a q, (i.x0 a (sub a q)).2.2⟩, fun a q => ?_, i.kind, i.names, i.glob, i.blt, i.L, ?_, fun x hx => ?_, i.dom⟩
  · rw [(i.x0 b q).1] at e; cases e
  · obtain ⟨h1, o, ho⟩ := i.rho a q
    exact ⟨h1, o, k a o (nx a q) ho⟩
  · obtain ⟨m, n, q⟩ := i.ns
    refine ⟨m, ?_, fun x sl e hl => let ⟨v, hv, r⟩ := q x sl e hl; ⟨v, hv, r.ext X1 (Xa x)⟩⟩
    obtain ⟨o, es, ep, ho, z⟩ := n
    exact ⟨o, es, ep, k _ o (nx _ (by rw [i.L]; exact fun e => nomatch e)) ho, z⟩
  · obtain ⟨cc, ov, h1, h2, h3, h4⟩ := i.cells x hx
    refine ⟨cc, ov, h1, h2, ?_, fun sl e => let ⟨v, hv, r⟩ := h4 sl e; ⟨v, hv, r.ext X1 (Xa x)⟩⟩
    obtain ⟨o, ho, z⟩ := h3
    exact ⟨o, k _ o (nx _ (by rw [h2]; exact fun e => nomatch e)) ho, z⟩
/-- fewer things are loose for others -/
theorem FInv.subX {X₁ : Addr → Prop} (i : FInv c X₁ env nm pe ρ s) (k : ∀ a, X₀ a → X₁ a) : FInv c X₀ env nm pe ρ s := by
  have X1 : Ext (XX X₁ ρ) s.heap (XX X₀ ρ) s.heap := Ext.sub fun a q => q.imp (k a) id
  have Xa : ∀ x a o, ρ a = some (.own x) → s.heap.get? a = some o → s.heap.get? a = some o ∧ ρ a = some (.own x) := fun x a o h1 h2 => ⟨h2, h1⟩
  refine ⟨i.kept, fun a q => i.x0 a (k a q), i.rho, i.kind, i.names, i.glob, i.blt, i.L, ?_, fun x hx => ?_, i.dom⟩
  · obtain ⟨m, n, q⟩ := i.ns
    exact ⟨m, n, fun x sl e hl => let ⟨v, hv, r⟩ := q x sl e hl; ⟨v, hv, r.ext X1 (Xa x)⟩⟩
  · obtain ⟨cc, ov, h1, h2, h3, h4⟩ := i.cells x hx
    exact ⟨cc, ov, h1, h2, h3, fun sl e => let ⟨v, hv, r⟩ := h4 sl e; ⟨v, hv, r.ext X1 (Xa x)⟩⟩
theorem FInv.gr (i : FInv c X₀ env nm pe ρ s) (g : Gr s s') : FInv c X₀ env nm pe ρ s' := i.grow g (Lbl.refl s ρ) fun a q => .inl q

theorem GrB.refl (s : Shared) : GrB ρ s s := (Gr.refl s).grB ρ
theorem GrB.trans (a : GrB ρ s s') (hl : Lbl s ρ ρ') (b : GrB ρ' s' s'') : GrB ρ s s'' := by
  refine ⟨?_, fun x o hx e => b.keep x o ((hl x o e).trans hx) (a.keep x o hx e)⟩
  obtain ⟨h, t, rfl⟩ := a.same
  obtain ⟨h', t', rfl⟩ := b.same
  exact ⟨h', t', rfl⟩
/-- labels of what lived stay, through two steps -/
theorem Lbl.trans (al : ∀ a o, s.heap.get? a = some o → ∃ o', s'.heap.get? a = some o') (a : Lbl s ρ ρ') (b : Lbl s' ρ' ρ'') : Lbl s ρ ρ'' := fun x o e => let ⟨o', e'⟩ := al x o e; (b x o' e').trans (a x o e)

/-- one labelled thing turns: all the other slots stay -/
theorem SlotF.upd {p : Program} {w : World} {h h' : Heap} {b : Addr} {x : Str} {v : Value} {sl : Slot} (r : SlotF p w h (XX X₀ ρ) ρ x v sl) (hs : Heap.SameBut b h h') (hb : ρ b ≠ none) (hx : ρ b ≠ some (.own x)) : SlotF p w h' (XX X₀ ρ) ρ x v sl :=
  r.ext (Ext.same hs (.inr hb)) fun a o h1 h2 => ⟨(hs.2 a fun e => hx (e ▸ h1)).trans h2, h1⟩

theorem store_sound {A : Around} {x : Str} {v : Value} {d : PyData} {ow : Bool} {Q : Unit → Shared → Prop} (i : FInv c X₀ env nm pe ρ s) (hk : nm.lookup x = some .local ∨ nm.lookup x = some .cell)
    (hv : SlotF c.prog c.w s.heap (XX X₀ ρ) ρ x v ⟨d, ow⟩) (h : ∀ s', GrB ρ s s' → FInv c X₀ env nm (pe.set x d ow) ρ s' → (∀ a o, s.heap.get? a = some o → ∃ o', s'.heap.get? a = some o') → Q () s') : wpAny (model c.prog c.w) A (storeName env x v) Q noE s := by
  have hkind : ∀ y k, nm.lookup y = some k → env.kindOf y = some k := fun y k e => by show env.scope.names.lookup y = _; rw [i.names]; exact e
  have live : ∀ {b : Addr} {h' : Heap}, Heap.SameBut b s.heap h' → (∃ o, h'.get? b = some o) → ∀ a o, s.heap.get? a = some o → ∃ o', h'.get? a = some o' := fun {b h'} hs hb a o e => by
    by_cases hab : a = b
    · subst hab; exact hb
    · exact ⟨o, (hs.2 a hab).trans e⟩
  have keepB : ∀ {b : Addr} {h' : Heap} {tk : Nat}, Heap.SameBut b s.heap h' → ρ b ≠ none → GrB ρ s { s with heap := h', toks := tk } := fun {b h' tk} hs hb => ⟨⟨_, _, rfl⟩, fun a o ha e => (hs.2 a fun q => hb (q ▸ ha)).trans e⟩
  have base : ∀ {b : Addr} {h' : Heap}, Heap.SameBut b s.heap h' → ρ b ≠ none → (∃ o, h'.get? b = some o) →
      (∀ a o, c.h₀.get? a = some o → h'.get? a = some o) ∧ (∀ a, X₀ a → c.h₀.get? a = none ∧ (∃ o, h'.get? a = some o) ∧ ρ a = none) ∧ (∀ a, ρ a ≠ none → c.h₀.get? a = none ∧ ∃ o, h'.get? a = some o) := fun {b h'} hs hb hal => by
    refine ⟨fun a o e => (hs.2 a fun q => ?_).trans (i.kept a o e), fun a q => ?_, fun a q => ?_⟩
    · subst q; rw [(i.rho a hb).1] at e; cases e
    · obtain ⟨h1, ⟨o, ho⟩, h3⟩ := i.x0 a q
      exact ⟨h1, live hs hal a o ho, h3⟩
    · obtain ⟨h1, o, ho⟩ := i.rho a q
      exact ⟨h1, live hs hal a o ho⟩
  have setne : ∀ {y sl}, (pe.set x d ow) y = some sl → y ≠ x → pe y = some sl := fun {y sl} e hy => by unfold PEnv.set at e; rwa [if_neg hy] at e
  have seteq : ∀ {sl}, (pe.set x d ow) x = some sl → sl = ⟨d, ow⟩ := fun {sl} e => by unfold PEnv.set at e; rw [if_pos rfl] at e; exact (Option.some.inj e).symm
  have dom' : ∀ y sl, (pe.set x d ow) y = some sl → nm.lookup y = some .local ∨ nm.lookup y = some .cell := fun y sl e => by
    by_cases hy : y = x
    · subst hy; exact hk
    · exact i.dom y sl (setne e hy)
  rcases hk with hl | hl
  · obtain ⟨m, n, q⟩ := i.ns
    refine wpAny_storeName_local (hkind x _ hl) n (fun h' n' hs => ?_) (by rw [i.kind]; rfl)
    have hLn : ρ env.locals ≠ none := by rw [i.L]; exact fun e => nomatch e
    obtain ⟨o', _, _, ho', _⟩ := id n'
    obtain ⟨b1, b2, b3⟩ := base hs hLn ⟨o', ho'⟩
    refine h _ (keepB hs hLn) ⟨b1, b2, b3, i.kind, i.names, i.glob, i.blt, i.L, ⟨_, n', fun y sl e hy => ?_⟩, fun y hy => ?_, dom'⟩ (live hs ⟨o', ho'⟩)
    · by_cases hyx : y = x
      · subst hyx
        refine ⟨v, by simp, ?_⟩
        rw [seteq e]
        exact hv.upd hs hLn (by rw [i.L]; exact fun e => nomatch e)
      · obtain ⟨u, hu, r⟩ := q y sl (setne e hyx) hy
        exact ⟨u, by simp [hyx, hu], r.upd hs hLn (by rw [i.L]; exact fun e => nomatch e)⟩
    · obtain ⟨cc, ov, h1, h2, h3, h4⟩ := i.cells y hy
      have hne : cc ≠ env.locals := fun e => by rw [e, i.L] at h2; cases h2
      refine ⟨cc, ov, h1, h2, h3.sameBut hs hne, fun sl e => ?_⟩
      have hyx : y ≠ x := fun e => by subst e; rw [hl] at hy; cases hy
      obtain ⟨u, hu, r⟩ := h4 sl (setne e hyx)
      exact ⟨u, hu, r.upd hs hLn (by rw [i.L]; exact fun e => nomatch e)⟩
  · obtain ⟨cc, ov, h1, h2, h3, h4⟩ := i.cells x hl
    refine wpAny_storeName_cell i.kind (hkind x _ hl) h1 h3 (fun h' n' hs => ?_)
    have hLn : ρ cc ≠ none := by rw [h2]; exact fun e => nomatch e
    obtain ⟨o', ho', _⟩ := id n'
    obtain ⟨b1, b2, b3⟩ := base hs hLn ⟨o', ho'⟩
    refine h _ (keepB (tk := s.toks) hs hLn) ⟨b1, b2, b3, i.kind, i.names, i.glob, i.blt, i.L, ?_, fun y hy => ?_, dom'⟩ (live hs ⟨o', ho'⟩)
    · obtain ⟨m, n, q⟩ := i.ns
      have hne : env.locals ≠ cc := fun e => by rw [← e, i.L] at h2; cases h2
      refine ⟨m, n.sameBut hs hne, fun y sl e hy => ?_⟩
      have hyx : y ≠ x := fun e => by subst e; rw [hl] at hy; cases hy
      obtain ⟨u, hu, r⟩ := q y sl (setne e hyx) hy
      exact ⟨u, hu, r.upd hs hLn (by rw [h2]; exact fun e => nomatch e)⟩
    · by_cases hyx : y = x
      · subst hyx
        refine ⟨cc, some v, h1, h2, n', fun sl e => ⟨v, rfl, ?_⟩⟩
        rw [seteq e]
        exact hv.upd hs hLn (by rw [h2]; exact fun e => nomatch e)
      · obtain ⟨cc', ov', k1, k2, k3, k4⟩ := i.cells y hy
        have hne : cc' ≠ cc := fun e => by rw [e, h2] at k2; injection k2 with k2; injection k2 with k2; exact hyx k2.symm
        refine ⟨cc', ov', k1, k2, k3.sameBut hs hne, fun sl e => ?_⟩
        obtain ⟨u, hu, r⟩ := k4 sl (setne e hyx)
        exact ⟨u, hu, r.upd hs hLn (by rw [h2]; exact fun e => nomatch e)⟩
end
end Mine
end

section
set_option linter.unusedVariables false
namespace Mine
open PySem PyProof.Rows

noncomputable def Alive (s s' : Shared) : Prop := ∀ a o, s.heap.get? a = some o → ∃ o', s'.heap.get? a = some o'
theorem Alive.trans {s s' s'' : Shared} (a : Alive s s') (b : Alive s' s'') : Alive s s'' := fun x o e => let ⟨o', e'⟩ := a x o e; b x o' e'
theorem Gr.alive {s s' : Shared} (g : Gr s s') : Alive s s' := fun a o e => ⟨o, g.keep a o e⟩

noncomputable def FlR (c : Cx) (X₀ : Addr → Prop) (s : Shared) : Flow → Fl → Prop
  | .next, .next => True
  | .brk, .brk => True
  | .cont, .cont => True
  | .ret v, .ret d => Rep c.prog c.w s.heap X₀ v d
  | _, _ => False

/-- from (ρ, s) to (ρ', s'): what bears no label stays, labels stay, what lives lives on -/
structure To (ρ : Addr → Option Lab) (s : Shared) (ρ' : Addr → Option Lab) (s' : Shared) : Prop where
  g : GrB ρ s s'
  lb : Lbl s ρ ρ'
  al : Alive s s'
theorem To.refl (ρ : Addr → Option Lab) (s : Shared) : To ρ s ρ s := ⟨.refl s, .refl s ρ, (Gr.refl s).alive⟩
theorem To.trans {ρ ρ' ρ'' : Addr → Option Lab} {s s' s'' : Shared} (a : To ρ s ρ' s') (b : To ρ' s' ρ'' s'') : To ρ s ρ'' s'' := ⟨a.g.trans a.lb b.g, Lbl.trans a.al a.lb b.lb, a.al.trans b.al⟩
theorem Gr.to {ρ : Addr → Option Lab} {s s' : Shared} (g : Gr s s') : To ρ s ρ s' := ⟨g.grB ρ, .refl s ρ, g.alive⟩
theorem To.ext {X₀ : Addr → Prop} {ρ ρ' : Addr → Option Lab} {s s' : Shared} (t : To ρ s ρ' s') : Ext (XX X₀ ρ) s.heap (XX X₀ ρ') s'.heap := fun b o hb e => by
  have hr : ρ b = none := Classical.byContradiction fun q => hb (.inr q)
  refine ⟨fun q => q.elim (fun q => hb (.inl q)) fun q => q ((t.lb b o e).trans hr), t.g.keep b o hr e⟩

noncomputable def SPost (c : Cx) (X₀ : Addr → Prop) (env : Env) (nm : Names) (ρ : Addr → Option Lab) (s : Shared) (K : Fl → PEnv → Prop) (fl : Flow) (s' : Shared) : Prop :=
  ∃ ρ' pe' fl', FInv c X₀ env nm pe' ρ' s' ∧ To ρ s ρ' s' ∧ FlR c X₀ s' fl fl' ∧ K fl' pe'
theorem SPost.of {c : Cx} {X₀ : Addr → Prop} {env : Env} {nm : Names} {ρ ρ₁ : Addr → Option Lab} {s s₁ s' : Shared} {K : Fl → PEnv → Prop} {fl : Flow} (t : To ρ s ρ₁ s₁) (p : SPost c X₀ env nm ρ₁ s₁ K fl s') : SPost c X₀ env nm ρ s K fl s' :=
  let ⟨ρ', pe', fl', i, t', f, k⟩ := p; ⟨ρ', pe', fl', i, t.trans t', f, k⟩

section
variable (c : Cx) (l : Nat) (nm : Names)
noncomputable def ExS (st : Stmt) (pe : PEnv) (K : Fl → PEnv → Prop) : Prop := ∀ X₀ env A s ρ, Room l A → FInv c X₀ env nm pe ρ s → wpAny (model c.prog c.w) A (exec st env) (SPost c X₀ env nm ρ s K) noE s
noncomputable def ExL (ss : List Stmt) (pe : PEnv) (K : Fl → PEnv → Prop) : Prop := ∀ X₀ env A s ρ, Room l A → FInv c X₀ env nm pe ρ s → wpAny (model c.prog c.w) A (execs ss env) (SPost c X₀ env nm ρ s K) noE s
end

noncomputable def kindOK (nm : Names) (x : Str) : Prop := nm.lookup x = some .local ∨ nm.lookup x = some .cell
noncomputable def tgtsW (nm : Names) : List Expr → List PyData → PEnv → (PEnv → Prop) → Prop
  | [], [], pe, K => K pe
  | .Name x _ :: es, d :: ds, pe, K => kindOK nm x ∧ tgtsW nm es ds (pe.set x d) K
  | _, _, _, _ => False
noncomputable def tgtW (nm : Names) (t : Expr) (d : PyData) (pe : PEnv) (K : PEnv → Prop) : Prop :=
  match t, d with
  | .Name x _, d => kindOK nm x ∧ K (pe.set x d)
  | .Tuple es _ _, .tuple ds => es.length = ds.length ∧ tgtsW nm es ds pe K
  | _, _ => False

noncomputable def isComp : Expr → Bool
  | .ListComp .. => true
  | .SetComp .. => true
  | .DictComp .. => true
  | _ => false
theorem swaps_plain {v : Expr} (h : isComp v = false) (t : Option Expr) (n : Nat) (env : Env) : swapsWith v t n env = pure false := by
  cases v <;> first | rfl | cases h

section
variable {c : Cx} {l : Nat} {nm : Names} {pe : PEnv} {K : Fl → PEnv → Prop} {X₀ : Addr → Prop} {env : Env} {A : Around} {s : Shared} {ρ : Addr → Option Lab}

theorem ExL.mono {ss : List Stmt} {K K' : Fl → PEnv → Prop} (h : ExL c l nm ss pe K) (k : ∀ f e, K f e → K' f e) : ExL c l nm ss pe K' :=
  fun X₀ env A s ρ r i => wpAny_mono (h X₀ env A s ρ r i) (fun _ _ p => let ⟨ρ', pe', fl', i, t, f, z⟩ := p; ⟨ρ', pe', fl', i, t, f, k _ _ z⟩) fun _ _ f => f
theorem ExS.mono {ss : Stmt} {K K' : Fl → PEnv → Prop} (h : ExS c l nm ss pe K) (k : ∀ f e, K f e → K' f e) : ExS c l nm ss pe K' :=
  fun X₀ env A s ρ r i => wpAny_mono (h X₀ env A s ρ r i) (fun _ _ p => let ⟨ρ', pe', fl', i, t, f, z⟩ := p; ⟨ρ', pe', fl', i, t, f, k _ _ z⟩) fun _ _ f => f
theorem ExL_nil (h : K .next pe) : ExL c l nm [] pe K := fun X₀ env A s ρ r i => wpAny_execs_nil ⟨ρ, pe, .next, i, .refl .., trivial, h⟩
/-- what follows a statement -/
noncomputable def thenW (c : Cx) (l : Nat) (nm : Names) (rest : List Stmt) (K : Fl → PEnv → Prop) : Fl → PEnv → Prop
  | .next, pe => ExL c l nm rest pe K
  | f, pe => K f pe
theorem ExL_cons {st : Stmt} {rest : List Stmt} (h : ExS c l nm st pe (thenW c l nm rest K)) : ExL c l nm (st :: rest) pe K := fun X₀ env A s ρ r i => by
  refine wpAny_execs_cons (wpAny_mono (h X₀ env A s ρ r i) (fun fl s' p => ?_) fun _ _ f => f)
  obtain ⟨ρ', pe', fl', i', t, f, k⟩ := p
  cases fl with
  | next =>
    cases fl' with
    | next => exact wpAny_mono (k X₀ env A s' ρ' r i') (fun _ _ p => p.of t) fun _ _ f => f
    | _ => exact f.elim
  | brk =>
    cases fl' with
    | brk => exact ⟨ρ', pe', .brk, i', t, f, k⟩
    | _ => exact f.elim
  | cont =>
    cases fl' with
    | cont => exact ⟨ρ', pe', .cont, i', t, f, k⟩
    | _ => exact f.elim
  | ret v =>
    cases fl' with
    | ret d => exact ⟨ρ', pe', .ret d, i', t, f, k⟩
    | _ => exact f.elim

/-- storing a frozen value -/
theorem store_rep {x : Str} {v : Value} {d : PyData} {Q : Unit → Shared → Prop} (i : FInv c X₀ env nm pe ρ s) (hk : kindOK nm x) (r : Rep c.prog c.w s.heap (XX X₀ ρ) v d)
    (h : ∀ s', To ρ s ρ s' → FInv c X₀ env nm (pe.set x d) ρ s' → Q () s') : wpAny (model c.prog c.w) A (storeName env x v) Q noE s :=
  store_sound (ow := false) i hk r fun s' g i' al => h s' ⟨g, .refl s ρ, al⟩ i'

theorem ExS_assign {x : Str} {p pos} {e : Expr} (hc : isComp e = false) (hk : kindOK nm x) (h : EvS c l nm pe e fun d => K .next (pe.set x d)) : ExS c l nm (.Assign [.Name x p] e pos) pe K := fun X₀ env A s ρ r i => by
  refine wpAny_Assign_Name (wpAny_mono (h _ env A s r i.einv) (fun v s₁ p => ?_) fun _ _ f => f) (swaps_plain hc _ _ _)
  obtain ⟨g, d, hd, rd⟩ := p
  exact store_rep (i.gr g) hk rd fun s' t i' => ⟨ρ, _, .next, i', g.to.trans t, trivial, hd⟩
theorem ExS_own {x : Str} {p pos} {e : Expr} (hc : isComp e = false) (hk : kindOK nm x) (h : EvF c l nm pe e fun d => K .next (pe.set x d true)) : ExS c l nm (.Assign [.Name x p] e pos) pe K := fun X₀ env A s ρ r i => by
  refine wpAny_Assign_Name (wpAny_mono (h _ env A s r i.einv) (fun v s₁ p => ?_) fun _ _ f => f) (swaps_plain hc _ _ _)
  obtain ⟨g, d, a, hd, rfl, hn, t⟩ := p
  have lb : Lbl s ρ (fun b => if b = a then some (.own x) else ρ b) := fun b o e => by
    have : b ≠ a := fun q => by subst q; rw [hn] at e; cases e
    simp [this]
  have i1 : FInv c X₀ env nm pe (fun b => if b = a then some (.own x) else ρ b) s₁ := i.grow g lb fun b q => by
    by_cases hb : b = a
    · subst hb; exact .inr ⟨hn, t.alive⟩
    · simp [hb] at q; exact .inl q
  refine store_sound (ow := true) (d := d) i1 hk ⟨a, rfl, by simp, t.mono (fun b o hb e => ⟨fun q => hb ?_, e⟩) fun _ e => e⟩ fun s' g' i' al => ⟨_, _, .next, i', (⟨g.grB ρ, lb, g.alive⟩ : To ρ s _ s₁).trans ⟨g', Lbl.refl s₁ _, al⟩, trivial, hd⟩
  rcases q with q | q
  · exact .inl (.inl q)
  · by_cases hb : b = a
    · exact .inr hb
    · simp [hb] at q; exact .inl (.inr q)

theorem ExS_ret {e : Expr} {pos} (h : EvS c l nm pe.frz e fun d => K (.ret d) pe) : ExS c l nm (.Return (some e) pos) pe K := fun X₀ env A s ρ r i => by
  refine wpAny_Return_some (wpAny_mono (h _ env A s r i.einvR) (fun v s₁ p => ?_) fun _ _ f => f)
  obtain ⟨g, d, hd, rd⟩ := p
  exact ⟨ρ, pe, .ret d, i.gr g, g.to, rd, hd⟩
theorem ExS_if {t : Expr} {b o : List Stmt} {pos} (h : EvT c l nm pe t fun r => if r then ExL c l nm b pe K else ExL c l nm o pe K) : ExS c l nm (.If t b o pos) pe K := fun X₀ env A s ρ r i => by
  refine wpAny_If (wpAny_mono (h _ env A s r i.einv) (fun v s₁ p => ?_) fun _ _ f => f)
  obtain ⟨g, hv⟩ := p
  cases v with
  | true => exact wpAny_mono (hv X₀ env A s₁ ρ r (i.gr g)) (fun _ _ p => p.of g.to) fun _ _ f => f
  | false => exact wpAny_mono (hv X₀ env A s₁ ρ r (i.gr g)) (fun _ _ p => p.of g.to) fun _ _ f => f
theorem ExS_break {pos} (h : K .brk pe) : ExS c l nm (.Break pos) pe K := fun X₀ env A s ρ r i => by
  show wpAny _ A (do standAt pos; pure Flow.brk) _ _ s
  exact wpAny_bind (wpAny_standAt (wpAny_pure ⟨ρ, pe, .brk, i, .refl .., trivial, h⟩))
theorem ExS_cont {pos} (h : K .cont pe) : ExS c l nm (.Continue pos) pe K := fun X₀ env A s ρ r i => by
  show wpAny _ A (do standAt pos; pure Flow.cont) _ _ s
  exact wpAny_bind (wpAny_standAt (wpAny_pure ⟨ρ, pe, .cont, i, .refl .., trivial, h⟩))

theorem assigns_sound {K : PEnv → Prop} (es : List Expr) : ∀ (ds : List PyData) (vs : List Value) (pe : PEnv) (s : Shared), tgtsW nm es ds pe K → FInv c X₀ env nm pe ρ s → RepAll c.prog c.w s.heap (XX X₀ ρ) vs ds →
    wpAny (model c.prog c.w) A (assignInOrder ((assignEach es env).map (·.2)) vs) (fun _ s' => ∃ pe', FInv c X₀ env nm pe' ρ s' ∧ To ρ s ρ s' ∧ K pe') noE s := by
  induction es with
  | nil =>
    intro ds vs pe s h i r
    cases ds with
    | nil => cases r; exact wpAny_pure ⟨pe, i, .refl .., h⟩
    | cons => exact h.elim
  | cons e es ih =>
    intro ds vs pe s h i r
    cases ds with
    | nil => cases e <;> exact h.elim
    | cons d ds =>
      cases e with
      | Name x p =>
        cases r with
        | @cons v vs _ _ rv r =>
          show wpAny _ A (do holding vs (assign (.Name x p) env v); assignInOrder ((assignEach es env).map (·.2)) vs) _ _ s
          refine wpAny_bind (wpAny_holding (PyProof.Rows.assign_Name (store_rep i h.1 rv fun s' t i' => ?_)))
          exact wpAny_mono (ih ds vs _ s' h.2 i' (r.mono t.ext)) (fun _ s'' p => let ⟨pe', i, t', k⟩ := p; ⟨pe', i, t.trans t', k⟩) fun _ _ f => f
      | _ => exact h.elim
theorem starTargets : ∀ (es : List Expr) (env : Env) (ds : List PyData) (pe : PEnv) {K : PEnv → Prop}, tgtsW nm es ds pe K → (assignEach es env).findIdx? (·.1) = none ∧ (assignEach es env).length = es.length
  | [], _, _, _, _, _ => ⟨rfl, rfl⟩
  | e :: es, env, [], pe, K, h => by cases e <;> exact h.elim
  | e :: es, env, d :: ds, pe, K, h => by
    cases e with
    | Name x p =>
      have := starTargets es env ds _ h.2
      show ((false, assign (.Name x p) env) :: assignEach es env).findIdx? (·.1) = none ∧ ((false, assign (.Name x p) env) :: assignEach es env).length = _
      rw [List.findIdx?_cons]
      simp [this.1, this.2]
    | _ => exact h.elim

theorem tgt_sound {t : Expr} {d : PyData} {v : Value} {K : PEnv → Prop} (hh : A.handled = none) (h : tgtW nm t d pe K) (i : FInv c X₀ env nm pe ρ s) (r : Rep c.prog c.w s.heap (XX X₀ ρ) v d) :
    wpAny (model c.prog c.w) A (assign t env v) (fun _ s' => ∃ pe', FInv c X₀ env nm pe' ρ s' ∧ To ρ s ρ s' ∧ K pe') noE s := by
  unfold tgtW at h; split at h
  · exact PyProof.Rows.assign_Name (store_rep i h.1 r fun s' t i' => ⟨_, i', t, h.2⟩)
  · rename_i es k pos ds
    cases r with | @tuple a vs n _ hx ht r =>
    have hst := starTargets es env ds pe h.2
    have e1 := r.length
    simp only [Array.length_toList] at e1
    show wpAny _ A (do standAt pos; unpack (.ref a) (assignEach es env)) _ _ s
    refine wpAny_bind (wpAny_standAt ?_)
    unfold unpack
    rw [hst.1, hst.2, h.1, ← e1]
    refine wpAny_bind (wpAny_holding (unpackItems_tuple hh ⟨_, ht, rfl, _, rfl⟩ fun h' he => ?_))
    have g1 : Gr s { s with heap := h' } := ⟨⟨h', s.toks, rfl⟩, fun b o e => he b o (Nat.ne_of_lt (Heap.lt_size e)) e⟩
    exact wpAny_mono (assigns_sound es ds vs.toList pe _ h.2 (i.gr g1) (r.mono (Ext.keep g1.keep))) (fun _ s'' p => let ⟨pe', i, t', k⟩ := p; ⟨pe', i, g1.to.trans t', k⟩) fun _ _ f => f
  · exact h.elim

noncomputable def isTupE : Expr → Bool
  | .Tuple .. => true
  | _ => false
theorem ExS_unpack {es : List Expr} {k tp pos} {e : Expr} (hc : isComp e = false) (ht : isTupE e = false) (h : EvS c l nm pe e fun d => tgtW nm (.Tuple es k tp) d pe fun pe' => K .next pe') : ExS c l nm (.Assign [.Tuple es k tp] e pos) pe K := fun X₀ env A s ρ r i => by
  refine Assign_Tuple (wpAny_mono (h _ env A s r i.einv) (fun v s₁ p => ?_) fun _ _ f => f) (by unfold swapsWithSole; exact swaps_plain hc _ _ _) (by cases e <;> first | rfl | cases ht)
  obtain ⟨g, d, hd, rd⟩ := p
  exact wpAny_mono (tgt_sound r.hd hd (i.gr g) rd) (fun _ s' p => let ⟨pe', i', t, k⟩ := p; ⟨ρ, pe', .next, i', g.to.trans t, trivial, k⟩) fun _ _ f => f
end
end Mine
end

section
set_option linter.unusedVariables false
namespace Mine
open PySem PyProof.Rows

theorem Ns.uniq {h : Heap} {a : Addr} {m m' : Str → Option Value} (x : h.Ns a m) (y : h.Ns a m') : m = m' := by
  obtain ⟨o, es, ep, ho, hd, _, hm⟩ := x
  obtain ⟨o', es', ep', ho', hd', _, hm'⟩ := y
  rw [ho] at ho'; cases ho'
  rw [hd] at hd'; cases hd'
  funext z
  rw [← hm z, ← hm' z]

noncomputable def Holds (env : Env) (nm : Names) (h : Heap) (x : Str) (v : Value) : Prop :=
  (nm.lookup x = some .local ∧ ∃ m, h.Ns env.locals m ∧ m x = some v) ∨ (nm.lookup x = some .cell ∧ ∃ cc, env.cells.lookup x = some cc ∧ h.IsCell cc (some v))
theorem Holds.keep {env : Env} {nm : Names} {h h' : Heap} {x : Str} {v : Value} (r : Holds env nm h x v) (k : ∀ b o, h.get? b = some o → h'.get? b = some o) : Holds env nm h' x v :=
  r.imp (fun ⟨a, m, n, e⟩ => ⟨a, m, n.keeps k, e⟩) fun ⟨a, cc, n, e⟩ => ⟨a, cc, n, e.keeps k⟩

section
variable {c : Cx} {l : Nat} {nm : Names} {pe : PEnv} {K : Fl → PEnv → Prop} {X₀ : Addr → Prop} {env : Env} {A : Around} {s : Shared} {ρ : Addr → Option Lab}

theorem loadOwn {x : Str} {d : PyData} {Q : Value → Shared → Prop} (i : FInv c X₀ env nm pe ρ s) (hp : pe x = some ⟨d, true⟩)
    (h : ∀ a, Holds env nm s.heap x (.ref a) → ρ a = some (.own x) → TopR c.prog c.w s.heap (XX X₀ ρ) a d → Q (.ref a) s) : wpAny (model c.prog c.w) A (loadName env x) Q noE s := by
  have hkind : ∀ y k, nm.lookup y = some k → env.kindOf y = some k := fun y k e => by show env.scope.names.lookup y = _; rw [i.names]; exact e
  rcases i.dom x _ hp with hl | hl
  · obtain ⟨m, n, q⟩ := i.ns
    obtain ⟨v, hv, a, rfl, ha, t⟩ := q x _ hp hl
    exact wpAny_loadName_local i.kind (hkind x _ hl) n hv (h a (.inl ⟨hl, m, n, hv⟩) ha t)
  · obtain ⟨cc, ov, h1, h2, h3, h4⟩ := i.cells x hl
    obtain ⟨v, rfl, a, rfl, ha, t⟩ := h4 _ hp
    exact wpAny_loadName_cell i.kind (hkind x _ hl) h1 h3 (h a (.inr ⟨hl, cc, h1, h3⟩) ha t)

theorem FInv.setOwn {x : Str} {d d' : PyData} {a : Addr} {h' : Heap} {tk : Nat} (i : FInv c X₀ env nm pe ρ s) (hp : pe x = some ⟨d, true⟩) (hv : Holds env nm s.heap x (.ref a)) (ha : ρ a = some (.own x)) (hs : Heap.SameBut a s.heap h')
    (t : TopR c.prog c.w h' (XX X₀ ρ) a d') : FInv c X₀ env nm (pe.set x d' true) ρ { s with heap := h', toks := tk } ∧ To ρ s ρ { s with heap := h', toks := tk } := by
  have han : ρ a ≠ none := by rw [ha]; exact fun e => nomatch e
  have live : ∀ b o, s.heap.get? b = some o → ∃ o', h'.get? b = some o' := fun b o e => by
    by_cases hab : b = a
    · subst hab; exact t.alive
    · exact ⟨o, (hs.2 b hab).trans e⟩
  have setne : ∀ {y sl}, (pe.set x d' true) y = some sl → y ≠ x → pe y = some sl := fun {y sl} e hy => by unfold PEnv.set at e; rwa [if_neg hy] at e
  have seteq : ∀ {sl}, (pe.set x d' true) x = some sl → sl = ⟨d', true⟩ := fun {sl} e => by unfold PEnv.set at e; rw [if_pos rfl] at e; exact (Option.some.inj e).symm
  have hLa : env.locals ≠ a := fun e => by have := i.L; rw [e, ha] at this; cases this
  have nown : ∀ y, y ≠ x → ρ a ≠ some (.own y) := fun y hy e => by rw [ha] at e; injection e with e; injection e with e; exact hy e.symm
  refine ⟨⟨fun b o e => (hs.2 b fun q => ?_).trans (i.kept b o e), fun b q => ?_, fun b q => ?_, i.kind, i.names, i.glob, i.blt, i.L, ?_, fun y hy => ?_, fun y sl e => ?_⟩, ⟨⟨⟨_, _, rfl⟩, fun b o hb e => (hs.2 b fun q => ?_).trans e⟩, .refl s ρ, live⟩⟩
  · subst q; rw [(i.rho b han).1] at e; cases e
  · obtain ⟨h1, ⟨o, ho⟩, h3⟩ := i.x0 b q
    exact ⟨h1, live b o ho, h3⟩
  · obtain ⟨h1, o, ho⟩ := i.rho b q
    exact ⟨h1, live b o ho⟩
  · obtain ⟨m, n, q⟩ := i.ns
    refine ⟨m, n.sameBut hs hLa, fun y sl e hy => ?_⟩
    by_cases hyx : y = x
    · subst hyx
      rcases hv with ⟨_, m', n', e'⟩ | ⟨hc, _⟩
      · obtain rfl := Ns.uniq n n'
        rw [seteq e]; exact ⟨_, e', a, rfl, ha, t⟩
      · rw [hy] at hc; cases hc
    · obtain ⟨v, hv', r⟩ := q y sl (setne e hyx) hy
      exact ⟨v, hv', r.upd hs han (nown y hyx)⟩
  · obtain ⟨cc, ov, h1, h2, h3, h4⟩ := i.cells y hy
    have hne : cc ≠ a := fun e => by rw [e, ha] at h2; cases h2
    refine ⟨cc, ov, h1, h2, h3.sameBut hs hne, fun sl e => ?_⟩
    by_cases hyx : y = x
    · subst hyx
      rcases hv with ⟨hc, _⟩ | ⟨_, cc', k1, k2⟩
      · rw [hy] at hc; cases hc
      · rw [h1] at k1; cases k1
        obtain ⟨o, ho, hd⟩ := h3
        obtain ⟨o', ho', hd'⟩ := k2
        rw [ho] at ho'; cases ho'
        rw [hd] at hd'; cases hd'
        rw [seteq e]; exact ⟨_, rfl, a, rfl, ha, t⟩
    · obtain ⟨v, hv', r⟩ := h4 sl (setne e hyx)
      exact ⟨v, hv', r.upd hs han (nown y hyx)⟩
  · by_cases hyx : y = x
    · subst hyx; exact i.dom y _ hp
    · exact i.dom y sl (setne e hyx)
  · subst q; exact han hb

theorem ExS_append {x : Str} {px apos pos spos} {e : Expr} {xs : List PyData} (hd : (x == ("__debug__" : Str)) = false) (hs : isStar e = false) (hl : (apos.endLine == pos.line) = true) (hp : pe x = some ⟨.list xs, true⟩) (hz : xs.length ≤ lim)
    (h : EvS c l nm pe e fun d => K .next (pe.set x (.list (xs ++ [d])) true)) : ExS c l nm (.Expr (.Call (.Attribute (.Name x px) "append" apos) [e] [] pos) spos) pe K := fun X₀ env A s ρ r i => by
  refine wpAny_Expr ?_ (by unfold interactive; rw [i.kind]; rfl)
  refine wpAny_Call_method (T := "list") (id := "list.append") rfl (by rw [starEach_plain hs]; rfl) hl PySem.F.plainAttrs_list PySem.F.slot_list_append PySem.F.type_list_append (wpAny_Name (loadOwn i hp fun a hv ha t => ?_) hd)
  obtain ⟨vs, n, hL, rr⟩ := t
  refine ⟨⟨_, hL, rfl⟩, fun b q => by injection q with q; subst q; exact ⟨_, hL, rfl⟩, ?_⟩
  rw [starEach_plain hs]
  refine P.append_list (wpAny_mono (h _ env A s r i.einv) (fun v s₁ p => ?_) fun _ _ f => f)
  obtain ⟨g, d, hK, rd⟩ := p
  have e1 := rr.length
  simp only [Array.length_toList] at e1
  have := lim_le
  have hL1 : IsL s₁.heap a vs n := g.keep _ _ hL
  refine ⟨vs, n, by omega, hL1, ?_⟩
  have hsb : Heap.SameBut a s₁.heap (s₁.heap.update a (Obj.mapSeq fun xs => xs.push v)) := .update ..
  have han : ρ a ≠ none := by rw [ha]; exact fun e => nomatch e
  have T : TopR c.prog c.w (s₁.heap.update a (Obj.mapSeq fun xs => xs.push v)) (XX X₀ ρ) a (.list (xs ++ [d])) :=
    ⟨_, _, hL1.update _, by
      have := (rr.mono (Ext.keep g.keep)).append (.cons rd .nil)
      simpa using this.mono (Ext.same hsb (.inr han))⟩
  obtain ⟨i2, t2⟩ := (i.gr g).setOwn (tk := s₁.toks) hp (hv.keep g.keep) ha hsb T
  exact ⟨ρ, _, .next, i2, g.to.trans t2, trivial, hK⟩

theorem setItem_IsL {a : Addr} {items : Array Value} {n : Nat} {k : Int} {t : Tok} {v : Value} {Q : Unit → Shared → Prop} (hl : IsL s.heap a items n) (h0 : 0 ≤ k) (hfit : k < 2 ^ 63) (hn : k < items.size)
    (hQ : Q () { s with heap := s.heap.update a (Obj.mapSeq fun xs => xs.setIfInBounds k.toNat v) }) : wpAny (model c.prog c.w) A (setItem (.ref a) (.int k t) v) Q noE s := by
  have hT := hl.isList.typeIs (s := s)
  unfold setItem
  refine wpAny_holding (wpAny_bind (wpAny_sequenceKey hT (by decide) (wpAny_bind (wpAny_callSpecial?_slot (name := Str.ofString "__setitem__") hT slot_list_setitem
    (wpAny_call_entry slot_list_setitem hT entry_list_setitem ?_ (args_list_setitem _ _ _))))))
  show wpAny _ _ (Builtin.List.listSubscript? (.int k t) >>= _) _ _ s
  refine wpAny_bind (wpAny_listSubscript_int (fitsIndex_of h0 hfit) ?_)
  clear hfit
  obtain ⟨j, rfl⟩ := Int.eq_ofNat_of_zero_le h0
  have hj : j < items.size := by omega
  show wpAny _ _ ((seqItemAt a j >>= fun r => pure (r.map (j, ·))) >>= _) _ _ s
  refine wpAny_bind (wpAny_bind (wpAny_seqItemAt hl rfl (wpAny_pure ?_)))
  rw [Array.getElem?_eq_getElem hj]
  show wpAny _ _ (setSeqItemAt a j v >>= _) _ _ s
  refine wpAny_bind (wpAny_setSeqItemAt hl rfl ?_)
  first
    | exact wpAny_bind (wpAny_pure (wpAny_pure ⟨.none, rfl, wpAny_pure hQ⟩))
    | exact wpAny_pure ⟨.none, rfl, wpAny_pure hQ⟩

noncomputable def setW (a i v : PyData) (K : PyData → Prop) : Prop :=
  match a, i with
  | .list xs, .int k => (0 ≤ k ∧ k < xs.length ∧ xs.length ≤ lim) ∧ K (.list (xs.set k.toNat v))
  | .dict kvs, .int k => (kindOk kvs (.int k) ∧ kvs.length ≤ lim ∧ getK kvs (.int k) = none) ∧ K (.dict (kvs ++ [(.int k, v)]))
  | _, _ => False

theorem ExS_setitem {x : Str} {px p pos} {ix e : Expr} {d₀ : PyData} (hd : (x == ("__debug__" : Str)) = false) (hc : isComp e = false) (hp : pe x = some ⟨d₀, true⟩)
    (h : EvS c l nm pe e fun v => EvS c l nm pe ix fun k => setW d₀ k v fun d' => K .next (pe.set x d' true)) : ExS c l nm (.Assign [.Subscript (.Name x px) ix p] e pos) pe K := fun X₀ env A s ρ r i => by
  refine wpAny_Assign_Subscript (wpAny_mono (h _ env A s r i.einv) (fun v s₁ p => ?_) fun _ _ f => f) (swaps_plain hc _ _ _)
  obtain ⟨g, dv, hK, rv⟩ := p
  refine wpAny_Name (loadOwn (i.gr g) hp fun a hv ha t => ?_) hd
  refine wpAny_mono (hK _ env A s₁ r (i.gr g).einv) (fun ki s₂ p => ?_) fun _ _ f => f
  obtain ⟨g2, dk, hW, rk⟩ := p
  have i2 := (i.gr g).gr g2
  have hv2 := hv.keep g2.keep
  have t2 := t.mono (X' := XX X₀ ρ) (Ext.keep g2.keep) fun o e => g2.keep a o e
  have rv2 := rv.mono (Ext.keep g2.keep)
  have han : ρ a ≠ none := by rw [ha]; exact fun e => nomatch e
  unfold setW at hW; split at hW
  · rename_i xs k
    obtain ⟨vs, n, hL, rr⟩ := t2
    cases rk
    have e1 := rr.length
    simp only [Array.length_toList] at e1
    have := lim_le
    refine setItem_IsL hL (by omega) (by simp only [lim] at hW; omega) (by omega) ?_
    have hsb : Heap.SameBut a s₂.heap (s₂.heap.update a (Obj.mapSeq fun xs => xs.setIfInBounds k.toNat v)) := .update ..
    have T : TopR c.prog c.w (s₂.heap.update a (Obj.mapSeq fun xs => xs.setIfInBounds k.toNat v)) (XX X₀ ρ) a (.list (xs.set k.toNat dv)) :=
      ⟨_, _, hL.update _, by
        have := rr.set k.toNat rv2
        simpa using this.mono (Ext.same hsb (.inr han))⟩
    obtain ⟨i3, t3⟩ := i2.setOwn (tk := s₂.toks) hp hv2 ha hsb T
    exact ⟨ρ, _, .next, i3, g.to.trans (g2.to.trans t3), trivial, hW.2⟩
  · rename_i kvs k
    obtain ⟨es, hD, rr⟩ := t2
    cases rk
    obtain ⟨⟨hk, hz, hg⟩, hK'⟩ := hW
    obtain ⟨ks, rfl, hDi⟩ := hD.ints rr hk
    have e1 := rr.length
    simp only [List.length_map] at e1
    have := lim_le
    rcases getK_int rr k with ⟨h1, h2⟩ | ⟨v', d', h1, h2, h3⟩
    · refine wpAny_setItem_pairs (knd := intKind c.prog c.w) (k := k) (by simp [intKind, Value.isInt]) hDi (fun h' hD' hsb => ?_) (by omega)
      have hst : stored ks k v = ks ++ [(k, v)] := by
        unfold stored
        rw [if_neg]
        intro hany
        obtain ⟨q, hq, he⟩ := List.any_eq_true.mp hany
        have hq' : q.1 = k := of_decide_eq_true he
        unfold valueAt at h1
        have := Option.map_eq_none_iff.mp h1
        have := List.find?_eq_none.mp this q hq
        exact this (by simpa using hq')
      rw [hst] at hD'
      have T : TopR c.prog c.w h' (XX X₀ ρ) a (.dict (kvs ++ [(.int k, dv)])) := by
        refine ⟨(ks ++ [(k, v)]).map fun q => (.int q.1, q.2), ⟨hD.1, .inl ⟨_, rfl, hD'⟩⟩, ?_⟩
        have := rr.append (.cons (k := .int k) rv2 .nil)
        simpa using this.mono (Ext.same hsb (.inr han))
      obtain ⟨i3, t3⟩ := i2.setOwn (tk := s₂.toks + 1) hp hv2 ha hsb T
      exact ⟨ρ, _, .next, i3, g.to.trans (g2.to.trans t3), trivial, hK'⟩
    · rw [hg] at h2; cases h2
  · exact hW.elim

noncomputable def forW (step : PyData → PEnv → (Fl → PEnv → Prop) → Prop) : List PyData → PEnv → (Fl → PEnv → Prop) → Prop
  | [], pe, K => K .next pe
  | d :: ds, pe, K => step d pe fun fl pe' => match fl with
    | .next => forW step ds pe' K
    | .cont => forW step ds pe' K
    | .brk => K .next pe'
    | .ret r => K (.ret r) pe'
noncomputable def isSetE : Expr → Bool
  | .Set .. => true
  | _ => false
theorem folded_plain {e : Expr} (h : isSetE e = false) (env : Env) (x : Value) : foldedSetIterable e env x = pure x := by
  cases e <;> first | rfl | cases h

theorem ExS_for {t it : Expr} {body : List Stmt} {pos} (hset : isSetE it = false) (h : EvI c l nm pe it fun ds => forW (fun d pe K' => tgtW nm t d pe fun pe' => ExL c l nm body pe' K') ds pe K) :
    ExS c l nm (.For t it body [] pos) pe K := fun X₀ env A s ρ r i => by
  refine wpAny_For (wpAny_mono (h _ env A s r i.einv) (fun xv s₁ p => wpAny_mono p (fun itv s₂ p => ?_) fun _ _ f => f) fun _ _ f => f) (folded_plain hset env)
  obtain ⟨g, I, ds, rfl, hK, hIn, fp, P, St, W, st0, hfp, hpl, hrep⟩ := p
  -- the iterator is loose for the body
  have hI2 : ItPlain s₂.heap I := hpl 0 _ st0
  obtain ⟨oI, nI, hoI, _, _⟩ := hI2
  have hrI : ρ I = none := Classical.byContradiction fun q => by obtain ⟨_, o, ho⟩ := i.rho I q; rw [hIn] at ho; cases ho
  have i1 : FInv c (fun a => X₀ a ∨ a = I) env nm pe ρ s₂ := i.growX g (.refl s ρ) (fun a q => .inl q) fun a q => q.imp id fun e => by subst e; exact ⟨hIn, ⟨oI, hoI⟩, hrI⟩
  have hfpr : ∀ b ∈ fp, ρ b = none ∧ ∃ o, s₂.heap.get? b = some o := fun b hb => by
    by_cases hbI : b = I
    · subst hbI; exact ⟨hrI, oI, hoI⟩
    · obtain ⟨h1, h2⟩ := hfp b hb hbI
      exact ⟨Classical.byContradiction fun q => h1 (.inr q), h2⟩
  -- what holds between the turns
  refine codeAny_forLoop_any (fun n s' => ∃ k ρ' pe', n = ds.length + 1 - k ∧ k ≤ ds.length ∧ FInv c (fun a => X₀ a ∨ a = I) env nm pe' ρ' s' ∧ St k s'.heap ∧ (∃ h t, s' = { s₂ with heap := h, toks := t }) ∧
      (∀ b o, ρ b = none → b ≠ I → s₂.heap.get? b = some o → s'.heap.get? b = some o) ∧ Lbl s₂ ρ ρ' ∧ Alive s₂ s' ∧
      forW (fun d pe K' => tgtW nm t d pe fun pe' => ExL c l nm body pe' K') (ds.drop k) pe' K) ?_ (ds.length + 1)
    ⟨0, ρ, pe, rfl, Nat.zero_le _, i1, st0, ⟨s₂.heap, s₂.toks, rfl⟩, fun _ _ _ _ e => e, .refl s₂ ρ, (Gr.refl s₂).alive, hK⟩
  rintro n s' ⟨k, ρ', pe', rfl, hk, i', st', same', keep', lb', al', hW⟩
  -- from the very start
  have fromS : ∀ {ρ'' : Addr → Option Lab} {s'' : Shared}, (∃ h t, s'' = { s₂ with heap := h, toks := t }) → (∀ b o, ρ b = none → b ≠ I → s₂.heap.get? b = some o → s''.heap.get? b = some o) → Lbl s₂ ρ ρ'' → (∀ a o, a ≠ I → s₂.heap.get? a = some o → ∃ o', s''.heap.get? a = some o') → To ρ s ρ'' s'' := by
    intro ρ'' s'' sm kp lb al
    refine ⟨⟨?_, fun b o hb e => kp b o hb (fun q => by subst q; rw [hIn] at e; cases e) (g.keep b o e)⟩, fun b o e => lb b o (g.keep b o e), fun b o e => al b o (fun q => by subst q; rw [hIn] at e; cases e) (g.keep b o e)⟩
    obtain ⟨h1, t1, e1⟩ := g.same
    obtain ⟨h2, t2, e2⟩ := sm
    rw [e2, e1]; exact ⟨h2, t2, rfl⟩
  by_cases hlt : k < ds.length
  · refine wpAny_mono (W.item k s' _ noE hlt st' fun v h' tk hP stn hkeep => ?_) (fun _ _ p => p) fun _ _ f => f.elim
    have hit := hpl _ _ stn
    have i2 : FInv c (fun a => X₀ a ∨ a = I) env nm pe' ρ' { s' with heap := h', toks := tk } := i'.turnX (fun b o hb e => hkeep b o (by simp; exact fun q => hb (.inr q)) e) (fun _ q => q) fun a q => by
      by_cases ha : a = I
      · subst ha; obtain ⟨o, _, ho, _⟩ := hit; exact ⟨o, ho⟩
      · obtain ⟨_, ⟨o, ho⟩, _⟩ := i'.x0 a q
        exact ⟨o, hkeep a o (by simpa using ha) ho⟩
    have keep2 : ∀ b o, ρ b = none → b ≠ I → s₂.heap.get? b = some o → h'.get? b = some o := fun b o h1 h2 e => hkeep b o (by simpa using h2) (keep' b o h1 h2 e)
    have al2 : Alive s₂ { s' with heap := h', toks := tk } := fun a o e => by
      by_cases ha : a = I
      · subst ha; obtain ⟨o, _, ho, _⟩ := hit; exact ⟨o, ho⟩
      · obtain ⟨o', ho'⟩ := al' a o e
        exact ⟨o', hkeep a o' (by simpa using ha) ho'⟩
    refine ownGo hit ?_
    obtain ⟨d, hd, rd⟩ := hrep k v hlt hP
    have rd2 : Rep c.prog c.w h' (XX (fun a => X₀ a ∨ a = I) ρ') v d := rd.mono fun b o hb e => by
      have hbr : ρ b = none := Classical.byContradiction fun q => hb (.inl (.inr q))
      have hbI : b ≠ I := fun q => hb (.inr q)
      refine ⟨fun q => ?_, keep2 b o hbr hbI e⟩
      rcases q with (q | q) | q
      · exact hb (.inl (.inl q))
      · exact hbI q
      · exact q ((lb' b o e).trans hbr)
    have hdrop : ds.drop k = d :: ds.drop (k + 1) := by
      obtain ⟨hk', e⟩ := List.getElem?_eq_some_iff.mp hd
      rw [List.drop_eq_getElem_cons hk', e]
    rw [hdrop, forW] at hW
    refine wpAny_mono (tgt_sound r.hd hW i2 rd2) (fun _ s₃ p => ?_) fun _ _ f => f.elim
    obtain ⟨pe₃, i3, t3, hb3⟩ := p
    refine wpAny_mono (hb3 _ env A s₃ ρ' r i3) (fun fl s₄ p => ?_) fun _ _ f => f.elim
    obtain ⟨ρ₄, pe₄, fl', i4, t4, f4, k4⟩ := p
    have t34 : To ρ' { s' with heap := h', toks := tk } ρ₄ s₄ := t3.trans t4
    have same4 : ∃ h t, s₄ = { s₂ with heap := h, toks := t } := by
      obtain ⟨h1, t1, e1⟩ := same'
      obtain ⟨h2, t2, e2⟩ := t34.g.same
      rw [e2, e1]; exact ⟨h2, t2, rfl⟩
    have keep4 : ∀ b o, ρ b = none → b ≠ I → s₂.heap.get? b = some o → s₄.heap.get? b = some o := fun b o h1 h2 e => t34.g.keep b o ((lb' b o e).trans h1) (keep2 b o h1 h2 e)
    have lb4 : Lbl s₂ ρ ρ₄ := fun b o e => by obtain ⟨o', ho'⟩ := al2 b o e; exact (t34.lb b o' ho').trans (lb' b o e)
    have al4 : Alive s₂ s₄ := al2.trans t34.al
    have st4 : St (k + 1) s₄.heap := W.frame _ _ _ stn fun b hb o e => by
      obtain ⟨hbr, o2, ho2⟩ := hfpr b hb
      exact t34.g.keep b o ((lb' b o2 ho2).trans hbr) e
    have iend : FInv c X₀ env nm pe₄ ρ₄ s₄ := i4.subX fun a q => .inl q
    cases fl with
    | next => cases fl' with
      | next => exact ⟨ds.length + 1 - (k + 1), by omega, k + 1, ρ₄, pe₄, rfl, hlt, i4, st4, same4, keep4, lb4, al4, k4⟩
      | _ => exact f4.elim
    | cont => cases fl' with
      | cont => exact ⟨ds.length + 1 - (k + 1), by omega, k + 1, ρ₄, pe₄, rfl, hlt, i4, st4, same4, keep4, lb4, al4, k4⟩
      | _ => exact f4.elim
    | brk => cases fl' with
      | brk => exact ⟨ρ₄, pe₄, .next, iend, fromS same4 keep4 lb4 (fun a o _ e => al4 a o e), trivial, k4⟩
      | _ => exact f4.elim
    | ret v => cases fl' with
      | ret d => exact ⟨ρ₄, pe₄, .ret d, iend, fromS same4 keep4 lb4 (fun a o _ e => al4 a o e), Rep.mono (Ext.sub fun a q => .inl q) f4, k4⟩
      | _ => exact f4.elim
  · obtain rfl : k = ds.length := by omega
    refine wpAny_mono (W.done s' _ noE st' fun h' tk hkeep => ?_) (fun _ _ p => p) fun _ _ f => f.elim
    have iend : FInv c X₀ env nm pe' ρ' { s' with heap := h', toks := tk } := i'.turnX (fun b o hb e => hkeep b o (by simp; exact fun q => hb (.inr q)) e) (fun a q => .inl q) fun a q => by
      obtain ⟨_, ⟨o, ho⟩, _⟩ := i'.x0 a (.inl q)
      refine ⟨o, hkeep a o ?_ ho⟩
      simp
      rintro rfl
      obtain ⟨_, ⟨o2, ho2⟩, _⟩ := i.x0 a q
      rw [hIn] at ho2; cases ho2
    rw [List.drop_length, forW] at hW
    refine wpAny_execs_nil ⟨ρ', pe', .next, iend, fromS ?_ ?_ lb' ?_, trivial, hW⟩
    · obtain ⟨h1, t1, e1⟩ := same'
      exact ⟨h', tk, by rw [e1]⟩
    · exact fun b o h1 h2 e => hkeep b o (by simpa using h2) (keep' b o h1 h2 e)
    · intro a o ha e
      obtain ⟨o', ho'⟩ := al' a o e
      exact ⟨o', hkeep a o' (by simpa using ha) ho'⟩

noncomputable def whileW (test : PEnv → (Bool → Prop) → Prop) (body : PEnv → (Fl → PEnv → Prop) → Prop) : Nat → PEnv → (Fl → PEnv → Prop) → Prop
  | 0, _, _ => False
  | n + 1, pe, K => test pe fun b => if b then body pe fun fl pe' => match fl with
      | .next => whileW test body n pe' K
      | .cont => whileW test body n pe' K
      | .brk => K .next pe'
      | .ret r => K (.ret r) pe'
    else K .next pe
theorem ExS_while {t : Expr} {body : List Stmt} {pos} (h : ∃ n, whileW (fun pe K' => EvT c l nm pe t K') (fun pe K' => ExL c l nm body pe K') n pe K) : ExS c l nm (.While t body [] pos) pe K := fun X₀ env A s ρ r i => by
  obtain ⟨n, hn⟩ := h
  refine wpAny_While (codeAny_whileLoop (fun n s' => ∃ ρ' pe', FInv c X₀ env nm pe' ρ' s' ∧ To ρ s ρ' s' ∧ whileW (fun pe K' => EvT c l nm pe t K') (fun pe K' => ExL c l nm body pe K') n pe' K) ?_ n ⟨ρ, pe, i, .refl .., hn⟩)
  rintro n s' ⟨ρ', pe', i', t', hW⟩
  cases n with
  | zero => exact hW.elim
  | succ n =>
    rw [whileW] at hW
    refine wpAny_mono (hW _ env A s' r i'.einv) (fun b s₁ p => ?_) fun _ _ f => f.elim
    obtain ⟨g, hb⟩ := p
    cases b with
    | false => exact wpAny_execs_nil ⟨ρ', pe', .next, i'.gr g, t'.trans g.to, trivial, hb⟩
    | true =>
      refine wpAny_mono (hb _ env A s₁ ρ' r (i'.gr g)) (fun fl s₂ p => ?_) fun _ _ f => f.elim
      obtain ⟨ρ₂, pe₂, fl', i2, t2, f2, k2⟩ := p
      have t02 := (t'.trans g.to).trans t2
      cases fl with
      | next => cases fl' with
        | next => exact ⟨n, Nat.lt_succ_self n, ρ₂, pe₂, i2, t02, k2⟩
        | _ => exact f2.elim
      | cont => cases fl' with
        | cont => exact ⟨n, Nat.lt_succ_self n, ρ₂, pe₂, i2, t02, k2⟩
        | _ => exact f2.elim
      | brk => cases fl' with
        | brk => exact ⟨ρ₂, pe₂, .next, i2, t02, trivial, k2⟩
        | _ => exact f2.elim
      | ret v => cases fl' with
        | ret d => exact ⟨ρ₂, pe₂, .ret d, i2, t02, f2, k2⟩
        | _ => exact f2.elim
end
end Mine
end

section
set_option linter.unusedVariables false
namespace Mine
open PySem PyProof.Rows

/-- the names that a comprehension's block takes from around it keep their cells -/
structure CI (c : Cx) (X : Addr → Prop) (env : Env) (nm : Names) (pe : PEnv) (Z : Addr → Prop) (s : Shared) : Prop extends EInv c X env nm pe s where
  ns : ∃ m, s.heap.Ns env.locals m
  zl : Z env.locals
  zx : ∀ a, Z a → X a
  own : ∀ x d, pe x = some ⟨d, true⟩ → ∃ cc a, nm.lookup x = some .cell ∧ env.cells.lookup x = some cc ∧ s.heap.IsCell cc (some (.ref a)) ∧ ¬ Z a

noncomputable def PLe (pe pe' : PEnv) : Prop := ∀ x sl, pe x = some sl → pe' x = some sl
/-- what lies outside Z stays -/
structure GrZ (Z : Addr → Prop) (s s' : Shared) : Prop where
  same : ∃ h t, s' = { s with heap := h, toks := t }
  keep : ∀ b o, ¬ Z b → s.heap.get? b = some o → s'.heap.get? b = some o
theorem GrZ.refl (Z : Addr → Prop) (s : Shared) : GrZ Z s s := ⟨⟨s.heap, s.toks, rfl⟩, fun _ _ _ e => e⟩
theorem GrZ.trans {Z : Addr → Prop} {s s' s'' : Shared} (a : GrZ Z s s') (b : GrZ Z s' s'') : GrZ Z s s'' := by
  refine ⟨?_, fun x o hx e => b.keep x o hx (a.keep x o hx e)⟩
  obtain ⟨h, t, rfl⟩ := a.same
  obtain ⟨h', t', rfl⟩ := b.same
  exact ⟨h', t', rfl⟩
theorem Gr.grZ {s s' : Shared} (g : Gr s s') (Z : Addr → Prop) : GrZ Z s s' := ⟨g.same, fun b o _ e => g.keep b o e⟩
theorem GrZ.mono {Z Z' : Addr → Prop} {s s' : Shared} (g : GrZ Z s s') (h : ∀ a, Z a → Z' a) : GrZ Z' s s' := ⟨g.same, fun b o hb e => g.keep b o (fun q => hb (h b q)) e⟩

section
variable {c : Cx} {l : Nat} {X : Addr → Prop} {env : Env} {nm : Names} {pe pe' : PEnv} {Z : Addr → Prop} {s s' : Shared} {A : Around}

theorem CI.le (i : CI c X env nm pe' Z s) (h : PLe pe pe') : CI c X env nm pe Z s :=
  { i.toEInv with vars := fun x sl e => i.vars x sl (h x sl e), ns := i.ns, zl := i.zl, zx := i.zx, own := fun x d e => i.own x d (h x _ e) }
theorem CI.gr (i : CI c X env nm pe Z s) (g : Gr s s') : CI c X env nm pe Z s' :=
  { i.toEInv.grow g with
    ns := let ⟨m, n⟩ := i.ns; ⟨m, n.keeps g.keep⟩
    zl := i.zl, zx := i.zx
    own := fun x d e => let ⟨cc, a, h1, h2, h3, h4⟩ := i.own x d e; ⟨cc, a, h1, h2, h3.keeps g.keep, h4⟩ }

theorem cell_not_ns {h : Heap} {a : Addr} {v : Option Value} {m : Str → Option Value} (x : h.IsCell a v) (y : h.Ns a m) : False := by
  obtain ⟨o, ho, hd⟩ := x
  obtain ⟨o', es, ep, ho', hd', _⟩ := y
  rw [ho] at ho'; cases ho'
  rw [hd] at hd'; cases hd'

/-- the accumulator and the iterators turn, the block's names do not; some things may be let go -/
theorem CI.turnTo {X₁ Z₁ : Addr → Prop} (i : CI c X env nm pe Z s) (k : ∀ b o, (¬ Z b ∨ b = env.locals) → s.heap.get? b = some o → s'.heap.get? b = some o)
    (sub : ∀ a, X₁ a → X a) (subz : ∀ a, Z₁ a → Z a) (zl1 : Z₁ env.locals) (zx1 : ∀ a, Z₁ a → X₁ a) (al : ∀ a, X₁ a → ∃ o, s'.heap.get? a = some o)
    (hc : ∀ x cc, nm.lookup x = some .cell → env.cells.lookup x = some cc → ¬ Z cc) : CI c X₁ env nm pe Z₁ s' := by
  have kx : Ext X s.heap X₁ s'.heap := fun b o hb e => ⟨fun q => hb (sub b q), k b o (.inl fun q => hb (i.zx b q)) e⟩
  have kns : ∀ {m}, s.heap.Ns env.locals m → s'.heap.Ns env.locals m := fun {m} n => by
    obtain ⟨o, es, ep, ho, z⟩ := n
    exact ⟨o, es, ep, k _ o (.inr rfl) ho, z⟩
  have kcell : ∀ {x cc v}, nm.lookup x = some .cell → env.cells.lookup x = some cc → s.heap.IsCell cc v → s'.heap.IsCell cc v := fun {x cc v} h1 h2 h3 => by
    obtain ⟨o, ho, z⟩ := h3
    exact ⟨o, k _ o (.inl (hc x cc h1 h2)) ho, z⟩
  refine { kept := fun b o e => k b o (.inl fun q => ?_) (i.kept b o e), xa := fun a q => ⟨(i.xa a (sub a q)).1, al a q⟩, kind := i.kind, names := i.names, glob := i.glob, blt := i.blt, vars := fun x sl e => ?_, ns := let ⟨m, n⟩ := i.ns; ⟨m, kns n⟩, zl := zl1, zx := zx1, own := fun x d e => ?_ }
  · rw [(i.xa b (i.zx b q)).1] at e; cases e
  · obtain ⟨d, ow⟩ := sl
    cases ow with
    | false => exact (i.vars x _ e).imp (fun ⟨a, v, m, n, e, q⟩ => ⟨a, v, m, kns n, e, Rep.mono kx q⟩) fun ⟨a, v, cc, n, e, q⟩ => ⟨a, v, cc, n, kcell a n e, Rep.mono kx q⟩
    | true =>
      obtain ⟨cc, a, h1, h2, h3, h4⟩ := i.own x d e
      rcases i.vars x _ e with ⟨q, _⟩ | ⟨q, v, cc', n, e', a', rfl, t⟩
      · rw [h1] at q; cases q
      · rw [h2] at n; cases n
        obtain ⟨o, ho, hd⟩ := h3
        obtain ⟨o', ho', hd'⟩ := id e'
        rw [ho] at ho'; cases ho'
        rw [hd] at hd'; cases hd'
        exact .inr ⟨q, _, cc, h2, kcell q h2 e', a, rfl, t.mono kx fun o e => k a o (.inl h4) e⟩
  · obtain ⟨cc, a, h1, h2, h3, h4⟩ := i.own x d e
    exact ⟨cc, a, h1, h2, kcell h1 h2 h3, fun q => h4 (subz a q)⟩
theorem CI.turn (i : CI c X env nm pe Z s) (k : ∀ b o, (¬ Z b ∨ b = env.locals) → s.heap.get? b = some o → s'.heap.get? b = some o) (al : ∀ a, X a → ∃ o, s'.heap.get? a = some o)
    (hc : ∀ x cc, nm.lookup x = some .cell → env.cells.lookup x = some cc → ¬ Z cc) : CI c X env nm pe Z s' :=
  i.turnTo k (fun _ q => q) (fun _ q => q) i.zl i.zx al hc

theorem CI.store {x : Str} {v : Value} {d : PyData} {Q : Unit → Shared → Prop} (i : CI c X env nm pe Z s) (hx : nm.lookup x = some .local) (hn : pe x = none) (r : Rep c.prog c.w s.heap X v d)
    (h : ∀ s', GrZ (fun a => a = env.locals) s s' → CI c X env nm (pe.set x d) Z s' → Q () s') : wpAny (model c.prog c.w) A (storeName env x v) Q noE s := by
  have hkind : env.kindOf x = some .local := by show env.scope.names.lookup x = _; rw [i.names]; exact hx
  obtain ⟨m, n⟩ := i.ns
  refine wpAny_storeName_local hkind n (fun h' n' hs => ?_) (by rw [i.kind]; rfl)
  have hXL := i.zx _ i.zl
  have kx : Ext X s.heap X h' := Ext.same hs hXL
  have kcell : ∀ {cc v}, s.heap.IsCell cc v → h'.IsCell cc v := fun {cc v} h3 => h3.sameBut hs fun e => cell_not_ns h3 (e ▸ n)
  obtain ⟨o', _, _, ho', _⟩ := id n'
  refine h _ ⟨⟨h', _, rfl⟩, fun b o hb e => (hs.2 b hb).trans e⟩ { kept := fun b o e => (hs.2 b fun q => ?_).trans (i.kept b o e), xa := fun a q => ⟨(i.xa a q).1, ?_⟩, kind := i.kind, names := i.names, glob := i.glob, blt := i.blt, vars := fun y sl e => ?_, ns := ⟨_, n'⟩, zl := i.zl, zx := i.zx, own := fun y d' e => ?_ }
  · subst q; rw [(i.xa _ hXL).1] at e; cases e
  · by_cases ha : a = env.locals
    · subst ha; exact ⟨o', ho'⟩
    · obtain ⟨o, ho⟩ := (i.xa a q).2
      exact ⟨o, (hs.2 a ha).trans ho⟩
  · unfold PEnv.set at e
    by_cases hy : y = x
    · subst hy
      rw [if_pos rfl] at e
      cases e
      exact .inl ⟨hx, v, _, n', by simp, Rep.mono kx r⟩
    · rw [if_neg hy] at e
      obtain ⟨d', ow⟩ := sl
      cases ow with
      | false =>
        refine (i.vars y _ e).imp (fun ⟨a, v', m', n2, e2, q⟩ => ?_) fun ⟨a, v', cc, n2, e2, q⟩ => ⟨a, v', cc, n2, kcell e2, Rep.mono kx q⟩
        obtain rfl := Ns.uniq n n2
        exact ⟨a, v', _, n', by simp [hy, e2], Rep.mono kx q⟩
      | true =>
        obtain ⟨cc, a, h1, h2, h3, h4⟩ := i.own y d' e
        rcases i.vars y _ e with ⟨q, _⟩ | ⟨q, v', cc', n2, e', a', rfl, t⟩
        · rw [h1] at q; cases q
        · rw [h2] at n2; cases n2
          obtain ⟨o, ho, hd⟩ := id h3
          obtain ⟨o2, ho2, hd2⟩ := id e'
          rw [ho] at ho2; cases ho2
          rw [hd] at hd2; cases hd2
          exact .inr ⟨q, _, cc, h2, kcell h3, a, rfl, t.mono kx fun o e => (hs.2 a fun z => h4 (z ▸ i.zl)).trans e⟩
  · unfold PEnv.set at e
    by_cases hy : y = x
    · subst hy; rw [if_pos rfl] at e; cases e
    · rw [if_neg hy] at e
      obtain ⟨cc, a, h1, h2, h3, h4⟩ := i.own y d' e
      exact ⟨cc, a, h1, h2, kcell h3, h4⟩
end

noncomputable def tgtsC (nm : Names) : List Expr → List PyData → PEnv → (PEnv → Prop) → Prop
  | [], [], pe, K => K pe
  | .Name x _ :: es, d :: ds, pe, K => (nm.lookup x = some .local ∧ pe x = none) ∧ tgtsC nm es ds (pe.set x d) K
  | _, _, _, _ => False
noncomputable def tgtC (nm : Names) (t : Expr) (d : PyData) (pe : PEnv) (K : PEnv → Prop) : Prop :=
  match t, d with
  | .Name x _, d => (nm.lookup x = some .local ∧ pe x = none) ∧ K (pe.set x d)
  | .Tuple es _ _, .tuple ds => es.length = ds.length ∧ tgtsC nm es ds pe K
  | _, _ => False

section
variable {c : Cx} {l : Nat} {X : Addr → Prop} {env : Env} {nm : Names} {Z : Addr → Prop} {A : Around}
theorem set_le {pe : PEnv} {x : Str} {d : PyData} (h : pe x = none) : PLe pe (pe.set x d) := fun y sl e => by
  unfold PEnv.set
  rw [if_neg (fun q => by subst q; rw [h] at e; cases e)]; exact e
theorem assignsC_sound {K : PEnv → Prop} (es : List Expr) : ∀ (ds : List PyData) (vs : List Value) (pe : PEnv) (s : Shared), tgtsC nm es ds pe K → CI c X env nm pe Z s → RepAll c.prog c.w s.heap X vs ds →
    wpAny (model c.prog c.w) A (assignInOrder ((assignEach es env).map (·.2)) vs) (fun _ s' => ∃ pe', CI c X env nm pe' Z s' ∧ GrZ (fun a => a = env.locals) s s' ∧ PLe pe pe' ∧ K pe') noE s := by
  induction es with
  | nil =>
    intro ds vs pe s h i r
    cases ds with
    | nil => cases r; exact wpAny_pure ⟨pe, i, .refl .., fun _ _ e => e, h⟩
    | cons => exact h.elim
  | cons e es ih =>
    intro ds vs pe s h i r
    cases ds with
    | nil => cases e <;> exact h.elim
    | cons d ds =>
      cases e with
      | Name x p =>
        cases r with
        | @cons v vs _ _ rv r =>
          show wpAny _ A (do holding vs (assign (.Name x p) env v); assignInOrder ((assignEach es env).map (·.2)) vs) _ _ s
          refine wpAny_bind (wpAny_holding (PyProof.Rows.assign_Name (i.store h.1.1 h.1.2 rv fun s' t i' => ?_)))
          have kx : Ext X s.heap X s'.heap := fun b o hb e => ⟨hb, t.keep b o (fun q => hb (q ▸ i.zx _ i.zl)) e⟩
          exact wpAny_mono (ih ds vs _ s' h.2 i' (r.mono kx)) (fun _ s'' p => let ⟨pe', i, t', le, k⟩ := p; ⟨pe', i, t.trans t', fun y sl e => le y sl (set_le h.1.2 y sl e), k⟩) fun _ _ f => f
      | _ => exact h.elim
theorem starTargetsC : ∀ (es : List Expr) (env : Env) (ds : List PyData) (pe : PEnv) {K : PEnv → Prop}, tgtsC nm es ds pe K → (assignEach es env).findIdx? (·.1) = none ∧ (assignEach es env).length = es.length
  | [], _, _, _, _, _ => ⟨rfl, rfl⟩
  | e :: es, env, [], pe, K, h => by cases e <;> exact h.elim
  | e :: es, env, d :: ds, pe, K, h => by
    cases e with
    | Name x p =>
      have := starTargetsC es env ds _ h.2
      show ((false, assign (.Name x p) env) :: assignEach es env).findIdx? (·.1) = none ∧ ((false, assign (.Name x p) env) :: assignEach es env).length = _
      rw [List.findIdx?_cons]
      simp [this.1, this.2]
    | _ => exact h.elim
theorem tgtC_sound {t : Expr} {d : PyData} {v : Value} {pe : PEnv} {s : Shared} {K : PEnv → Prop} (hh : A.handled = none) (h : tgtC nm t d pe K) (i : CI c X env nm pe Z s) (r : Rep c.prog c.w s.heap X v d) :
    wpAny (model c.prog c.w) A (assign t env v) (fun _ s' => ∃ pe', CI c X env nm pe' Z s' ∧ GrZ (fun a => a = env.locals) s s' ∧ PLe pe pe' ∧ K pe') noE s := by
  unfold tgtC at h; split at h
  · exact PyProof.Rows.assign_Name (i.store h.1.1 h.1.2 r fun s' t i' => ⟨_, i', t, set_le h.1.2, h.2⟩)
  · rename_i es k pos ds
    cases r with | @tuple a vs n _ hx ht r =>
    have hst := starTargetsC es env ds pe h.2
    have e1 := r.length
    simp only [Array.length_toList] at e1
    show wpAny _ A (do standAt pos; unpack (.ref a) (assignEach es env)) _ _ s
    refine wpAny_bind (wpAny_standAt ?_)
    unfold unpack
    rw [hst.1, hst.2, h.1, ← e1]
    refine wpAny_bind (wpAny_holding (unpackItems_tuple hh ⟨_, ht, rfl, _, rfl⟩ fun h' he => ?_))
    have g1 : Gr s { s with heap := h' } := ⟨⟨h', s.toks, rfl⟩, fun b o e => he b o (Nat.ne_of_lt (Heap.lt_size e)) e⟩
    exact wpAny_mono (assignsC_sound es ds vs.toList pe _ h.2 (i.gr g1) (r.mono (Ext.keep g1.keep))) (fun _ s'' p => let ⟨pe', i, t', le, k⟩ := p; ⟨pe', i, (g1.grZ _).trans t', le, k⟩) fun _ _ f => f
  · exact h.elim
end
end Mine
end

section
set_option linter.unusedVariables false
namespace Mine
open PySem PyProof.Rows

noncomputable def testsW (c : Cx) (l : Nat) (nm : Names) (pe : PEnv) : List Expr → (Bool → Prop) → Prop
  | [], K => K true
  | [t], K => EvT c l nm pe t K
  | _, _ => False
noncomputable def compL (step : PyData → List PyData → (List PyData → Prop) → Prop) : List PyData → List PyData → (List PyData → Prop) → Prop
  | [], acc, K => K acc
  | d :: ds, acc, K => step d acc fun acc' => compL step ds acc' K
noncomputable def turnW (c : Cx) (l : Nat) (nm : Names) (t : Expr) (ifs : List Expr) (emitW : PEnv → List PyData → (List PyData → Prop) → Prop) (pe : PEnv) (d : PyData) (acc : List PyData) (K : List PyData → Prop) : Prop :=
  tgtC nm t d pe fun pe' => testsW c l nm pe' ifs fun b => if b then emitW pe' acc K else K acc
noncomputable def eltW (c : Cx) (l : Nat) (nm : Names) (elt : Expr) (pe : PEnv) (acc : List PyData) (K : List PyData → Prop) : Prop := EvS c l nm pe elt fun r => acc.length ≤ lim ∧ K (acc ++ [r])

noncomputable def AccAt (c : Cx) (X : Addr → Prop) (s : Shared) (D : Addr) (acc : List PyData) : Prop := ∃ vs n, IsL s.heap D vs n ∧ RepAll c.prog c.w s.heap X vs.toList acc
theorem AccAt.turn {c : Cx} {X : Addr → Prop} {s s' : Shared} {D : Addr} {acc : List PyData} (a : AccAt c X s D acc) (kx : Ext X s.heap X s'.heap) (kd : ∀ o, s.heap.get? D = some o → s'.heap.get? D = some o) : AccAt c X s' D acc :=
  let ⟨vs, n, h, r⟩ := a; ⟨vs, n, kd _ h, r.mono kx⟩

noncomputable def turnS (t : Expr) (ip : Pos) (ifs : List Expr) (emit : Sem Unit) (next : Code) (it : Value) (env : Env) : Sem Fin := do
  standAt ip
  match ← pyNext it with
  | none => pure (.done .next)
  | some v =>
    letOwnedTupleGo t it v
    assign t env v
    let mut ok := true
    for c in ifs do
      if ok then ok ← isTrue c env (eval c env)
    if ok then emit
    again next

section
variable {c : Cx} {l : Nat} {nm : Names} {A : Around} {env : Env}

theorem tests_sound {ifs : List Expr} {pe : PEnv} {X : Addr → Prop} {s : Shared} {K : Bool → Prop} (h : testsW c l nm pe ifs K) (r : Room l A) (i : EInv c X env nm pe s) :
    wpAny (model c.prog c.w) A (forIn ifs true fun c r => if r = true then do let ok ← isTrue c env (eval c env); pure (ForInStep.yield ok) else pure (ForInStep.yield r)) (PostT s K) noE s := by
  unfold testsW at h; split at h
  · exact wpAny_tests_nil ⟨.refl s, h⟩
  · exact wpAny_tests_one (h X env A s r i)
  · exact h.elim

/-- the loop of a comprehension, one clause -/
theorem loop_sound {cd : Code} {t : Expr} {ip : Pos} {ifs : List Expr} {emit : Sem Unit} {emitW : PEnv → List PyData → (List PyData → Prop) → Prop} {I D : Addr} {X Z : Addr → Prop} {pe : PEnv} {s : Shared} {ds acc : List PyData} {K : List PyData → Prop} {R : Result → Shared → Prop}
    (hq : cd.quiet = true) (hun : A.under cd = A) (hden : (model c.prog c.w).den cd = (turnS t ip ifs emit cd (.ref I) env).onRaise (fun x => do noteFrame x env; theTreesLotGoes x)) (rm : Room l A)
    (hcell : ∀ x cc, nm.lookup x = some .cell → env.cells.lookup x = some cc → ¬ Z cc)
    (hemit : ∀ pe' acc K' s', emitW pe' acc K' → CI c X env nm pe' Z s' → AccAt c X s' D acc → GrZ (fun a => a = env.locals ∨ a = D ∨ a = I) s s' → wpAny (model c.prog c.w) A emit (fun _ s'' => ∃ acc', K' acc' ∧ CI c X env nm pe' Z s'' ∧ AccAt c X s'' D acc' ∧ GrZ (fun a => a = env.locals ∨ a = D) s' s'') noE s')
    (i : CI c X env nm pe Z s) (zD : Z D) (zI : Z I) (hDC : D ≠ env.locals) (hIC : I ≠ env.locals) (hID : I ≠ D)
    {fp : List Addr} {P : Nat → Value → Prop} {St : Nat → Heap → Prop} (W : Walks c.prog c.w A I fp [I] ds.length P St) (st0 : St 0 s.heap) (hfp : ∀ b ∈ fp, b ≠ I → ¬ X b) (hpl : ∀ i h, St i h → ItPlain h I)
    (hrep : ∀ i v, i < ds.length → P i v → ∃ d, ds[i]? = some d ∧ Rep c.prog c.w s.heap X v d)
    (hacc : AccAt c X s D acc) (hW : compL (turnW c l nm t ifs emitW pe) ds acc K)
    (hR : ∀ s' acc', K acc' → CI c (fun a => X a ∧ a ≠ I) env nm pe (fun a => Z a ∧ a ≠ I) s' → AccAt c (fun a => X a ∧ a ≠ I) s' D acc' → GrZ (fun a => a = env.locals ∨ a = D ∨ a = I) s s' → R (.ok .next) s') : codeAny (model c.prog c.w) A cd R s := by
  refine codeAny_loop hq (fun n s' => ∃ k acc', n = ds.length + 1 - k ∧ k ≤ ds.length ∧ CI c X env nm pe Z s' ∧ AccAt c X s' D acc' ∧ St k s'.heap ∧ GrZ (fun a => a = env.locals ∨ a = D ∨ a = I) s s' ∧ compL (turnW c l nm t ifs emitW pe) (ds.drop k) acc' K) ?_ (ds.length + 1)
    ⟨0, acc, rfl, Nat.zero_le _, i, hacc, st0, .refl .., hW⟩
  rintro n s' ⟨k, acc', rfl, hk, i', hacc', st', g', hW'⟩
  rw [hden, hun]
  refine wpAny_noted ?_
  unfold turnS
  refine wpAny_bind (wpAny_standAt (wpAny_bind ?_))
  by_cases hlt : k < ds.length
  · refine wpAny_mono (W.item k s' _ noE hlt st' fun v h' tk hP stn hkeep => ?_) (fun _ _ p => p) fun _ _ f => f.elim
    have hit := hpl _ _ stn
    have same1 : ∃ h t, ({ s' with heap := h', toks := tk } : Shared) = { s' with heap := h, toks := t } := ⟨_, _, rfl⟩
    have kI : ∀ b o, b ≠ I → s'.heap.get? b = some o → h'.get? b = some o := fun b o hb e => hkeep b o (by simpa using hb) e
    have i1 : CI c X env nm pe Z { s' with heap := h', toks := tk } := i'.turn (fun b o hb e => kI b o (hb.elim (fun q z => q (z ▸ zI)) fun q z => hIC (z ▸ q)) e) (fun a q => by
      by_cases ha : a = I
      · subst ha; obtain ⟨o, _, ho, _⟩ := hit; exact ⟨o, ho⟩
      · obtain ⟨o, ho⟩ := (i'.xa a q).2
        exact ⟨o, kI a o ha ho⟩) hcell
    have kx1 : Ext X s'.heap X h' := fun b o hb e => ⟨hb, kI b o (fun z => hb (z ▸ i.zx I zI)) e⟩
    have acc1 : AccAt c X { s' with heap := h', toks := tk } D acc' := hacc'.turn kx1 fun o e => kI D o (Ne.symm hID) e
    have g1 : GrZ (fun a => a = env.locals ∨ a = D ∨ a = I) s { s' with heap := h', toks := tk } := g'.trans ⟨same1, fun b o hb e => kI b o (fun z => hb (.inr (.inr z))) e⟩
    refine wpAny_bind (ownGo hit ?_)
    obtain ⟨d, hd, rd⟩ := hrep k v hlt hP
    have zx3 : ∀ a, (a = env.locals ∨ a = D ∨ a = I) → X a := fun a q => i.zx a (by rcases q with rfl | rfl | rfl <;> first | exact i.zl | exact zD | exact zI)
    have rd2 : Rep c.prog c.w h' X v d := rd.mono fun b o hb e => ⟨hb, g1.keep b o (fun q => hb (zx3 b q)) e⟩
    have hdrop : ds.drop k = d :: ds.drop (k + 1) := by
      obtain ⟨hk', e⟩ := List.getElem?_eq_some_iff.mp hd
      rw [List.drop_eq_getElem_cons hk', e]
    rw [hdrop, compL] at hW'
    unfold turnW at hW'
    refine wpAny_bind (wpAny_mono (tgtC_sound rm.hd hW' i1 rd2) (fun _ s₂ p => ?_) fun _ _ f => f.elim)
    obtain ⟨pe₂, i2, g2, le2, ht2⟩ := p
    have kx2 : Ext X h' X s₂.heap := fun b o hb e => ⟨hb, g2.keep b o (fun z => hb (z ▸ i.zx _ i.zl)) e⟩
    have acc2 : AccAt c X s₂ D acc' := acc1.turn kx2 fun o e => g2.keep D o hDC e
    have st2 : St (k + 1) s₂.heap := W.frame _ _ _ stn fun b hb o e => g2.keep b o (fun z => by
      by_cases hbI : b = I
      · exact hIC (hbI ▸ z)
      · exact hfp b hb hbI (z ▸ i.zx _ i.zl)) e
    have g02 : GrZ (fun a => a = env.locals ∨ a = D ∨ a = I) s s₂ := g1.trans (g2.mono fun a q => .inl q)
    refine wpAny_bind (wpAny_mono (tests_sound ht2 rm i2.toEInv) (fun ok s₃ p => ?_) fun _ _ f => f.elim)
    obtain ⟨g3, hb3⟩ := p
    have i3 := i2.gr g3
    have acc3 : AccAt c X s₃ D acc' := acc2.turn (Ext.keep g3.keep) fun o e => g3.keep D o e
    have st3 : St (k + 1) s₃.heap := W.frame _ _ _ st2 fun b _ o e => g3.keep b o e
    have g03 := g02.trans (g3.grZ _)
    cases ok with
    | false => exact wpAny_pure ⟨rfl, ds.length + 1 - (k + 1), by omega, k + 1, acc', rfl, hlt, i3.le le2, acc3, st3, g03, hb3⟩
    | true =>
      refine wpAny_bind (wpAny_mono (hemit _ _ _ _ hb3 i3 acc3 g03) (fun _ s₄ p => ?_) fun _ _ f => f.elim)
      obtain ⟨acc4, hK4, i4, a4, g4⟩ := p
      have st4 : St (k + 1) s₄.heap := W.frame _ _ _ st3 fun b hb o e => g4.keep b o (fun z => by
        by_cases hbI : b = I
        · rcases z with z | z
          · exact hIC (hbI ▸ z)
          · exact hID (hbI ▸ z)
        · rcases z with z | z
          · exact hfp b hb hbI (z ▸ i.zx _ i.zl)
          · exact hfp b hb hbI (z ▸ i.zx _ zD)) e
      exact wpAny_pure ⟨rfl, ds.length + 1 - (k + 1), by omega, k + 1, acc4, rfl, hlt, i4.le le2, a4, st4, g03.trans (g4.mono fun a q => q.imp id .inl), hK4⟩
  · obtain rfl : k = ds.length := by omega
    refine wpAny_mono (W.done s' _ noE st' fun h' tk hkeep => ?_) (fun _ _ p => p) fun _ _ f => f.elim
    have kI : ∀ b o, b ≠ I → s'.heap.get? b = some o → h'.get? b = some o := fun b o hb e => hkeep b o (by simpa using hb) e
    rw [List.drop_length, compL] at hW'
    -- the iterator is let go
    have i0 : CI c (fun a => X a ∧ a ≠ I) env nm pe (fun a => Z a ∧ a ≠ I) { s' with heap := h', toks := tk } := by
      refine i'.turnTo (fun b o hb e => kI b o (hb.elim (fun q z => q (z ▸ zI)) fun q z => hIC (z ▸ q)) e) (fun a q => q.1) (fun a q => q.1) ⟨i.zl, Ne.symm hIC⟩ (fun a q => ⟨i.zx a q.1, q.2⟩) (fun a q => ?_) hcell
      obtain ⟨o, ho⟩ := (i'.xa a q.1).2
      exact ⟨o, kI a o q.2 ho⟩
    refine wpAny_pure (hR _ acc' hW' i0 ?_ (g'.trans ⟨⟨_, _, rfl⟩, fun b o hb e => kI b o (fun z => hb (.inr (.inr z))) e⟩))
    obtain ⟨vs, n, hl, rr⟩ := hacc'
    exact ⟨vs, n, kI D _ (Ne.symm hID) hl, rr.mono fun b o hb e => ⟨fun q => hb q.1, kI b o (fun z => hb (z ▸ i.zx I zI)) e⟩⟩
end
end Mine
end

section
set_option linter.unusedVariables false
namespace Mine
open PySem PyProof.Rows

noncomputable def relN (nm : Names) (names : Names) : Names := names.map fun (n, k) => if (k == .free && nm.lookup n == some .cell) then (n, .cell) else (n, k)
noncomputable def resC (nm' : Names) (pe : PEnv) : PEnv := fun x => if nm'.lookup x = some .cell then pe x else none
noncomputable def scopeOk (nm : Names) (scope : Scope) : Bool :=
  scope.kind == .function && scope.names.all fun q => q.2 != .cell && (q.2 != .local || scope.names.lookup q.1 == some .local) && (q.2 != .free || nm.lookup q.1 == some .cell)
noncomputable def freeOk (pe : PEnv) (names : Names) : Prop := ∀ q ∈ names, q.2 = .free → (pe q.1).isSome = true

noncomputable def innerW (c : Cx) (l : Nat) (nm : Names) (elt t : Expr) (it : Expr) (ifs : List Expr) (pe : PEnv) (acc : List PyData) (K : List PyData → Prop) : Prop :=
  isSetE it = false ∧ EvI c l nm pe it fun ds => compL (turnW c l nm t ifs (eltW c l nm elt) pe) ds acc K
inductive CompR (c : Cx) (l : Nat) (nm : Names) (pe : PEnv) (elt : Expr) (scope : Scope) (K : List PyData → Prop) : List Comprehension → Prop
  | one {t it : Expr} {ifs : List Expr} : isSetE it = false → (EvI c l nm pe it fun ds => compL (turnW c l (relN nm scope.names) t ifs (eltW c l (relN nm scope.names) elt) (resC (relN nm scope.names) pe)) ds [] K) → CompR c l nm pe elt scope K [⟨t, it, ifs, 0⟩]
  | two {t it t1 it1 : Expr} {ifs ifs1 : List Expr} : isSetE it = false → (EvI c l nm pe it fun ds => compL (turnW c l (relN nm scope.names) t ifs (innerW c l (relN nm scope.names) elt t1 it1 ifs1) (resC (relN nm scope.names) pe)) ds [] K) → CompR c l nm pe elt scope K [⟨t, it, ifs, 0⟩, ⟨t1, it1, ifs1, 0⟩]
noncomputable def compW (c : Cx) (l : Nat) (nm : Names) (pe : PEnv) (elt : Expr) (gens : List Comprehension) (scope : Scope) (K : List PyData → Prop) : Prop :=
  scopeOk nm scope = true ∧ freeOk pe scope.names ∧ CompR c l nm pe elt scope K gens

noncomputable def closL (cells : List (Str × Addr)) : Names → List (Str × Addr) → List (Str × Addr)
  | [], acc => acc
  | (n, k) :: r, acc => closL cells r (if k == .free then (n, (cells.lookup n).getD 0) :: acc else acc)
theorem closL_lookup {cells : List (Str × Addr)} {x : Str} : ∀ (names : Names) (acc : List (Str × Addr)), (∀ b, acc.lookup x = some b → b = (cells.lookup x).getD 0) → ((acc.lookup x).isSome = true ∨ (x, NameKind.free) ∈ names) →
    (closL cells names acc).lookup x = some ((cells.lookup x).getD 0)
  | [], acc, h1, h2 => by
    rcases h2 with h2 | h2
    · obtain ⟨b, hb⟩ := Option.isSome_iff_exists.mp h2
      rw [closL, hb, h1 b hb]
    · cases h2
  | (n, k) :: r, acc, h1, h2 => by
    rw [closL]
    refine closL_lookup r _ (fun b hb => ?_) ?_
    · by_cases hk : (k == NameKind.free) = true
      · rw [if_pos hk, List.lookup_cons] at hb
        by_cases hx : (x == n) = true
        · rw [hx] at hb
          have : x = n := beq_iff_eq.mp hx
          subst this
          exact (Option.some.inj hb).symm
        · have : (x == n) = false := by simpa using hx
          rw [this] at hb; exact h1 b hb
      · rw [if_neg hk] at hb; exact h1 b hb
    · rcases h2 with h2 | h2
      · left
        by_cases hk : (k == NameKind.free) = true
        · rw [if_pos hk, List.lookup_cons]
          cases x == n
          · exact h2
          · rfl
        · rw [if_neg hk]; exact h2
      · rcases List.mem_cons.mp h2 with e | h2
        · cases e
          left
          simp
        · exact .inr h2
theorem closure_eq {scope : Scope} {env : Env} (h : ∀ q ∈ scope.names, q.2 = .free → (env.cells.lookup q.1).isSome = true) : closureFor scope env = pure (closL env.cells scope.names []) := by
  have key : ∀ (names : Names) (acc : List (Str × Addr)), (∀ q ∈ names, q.2 = .free → (env.cells.lookup q.1).isSome = true) →
      (forIn names acc fun (x : Str × NameKind) (r : List (Str × Addr)) => (if (x.2 == NameKind.free) = true then do let a ← cellOf env x.1; pure (ForInStep.yield ((x.1, a) :: r)) else pure (ForInStep.yield r) : Sem _)) = pure (closL env.cells names acc) := by
    intro names
    induction names with
    | nil => intro acc _; rfl
    | cons q r ih =>
      intro acc hq
      obtain ⟨n, k⟩ := q
      rw [List.forIn_cons, closL]
      by_cases hk : (k == NameKind.free) = true
      · obtain ⟨a, ha⟩ := Option.isSome_iff_exists.mp (hq (n, k) (.head _) (by simpa using hk))
        rw [if_pos hk, if_pos hk]
        have : cellOf env n = pure a := by unfold cellOf; rw [ha]
        rw [this, ha]
        simp only [pure_bind, Option.getD_some]
        exact ih _ fun q h => hq q (.tail _ h)
      · rw [if_neg hk, if_neg hk, pure_bind]
        exact ih _ fun q h => hq q (.tail _ h)
  unfold closureFor
  have e := key scope.names [] h
  show (forIn scope.names [] _ >>= fun r => pure r) = _
  rw [show (forIn scope.names ([] : List (Str × Addr)) (fun x r => match x with | (name, kind) => if (kind == NameKind.free) = true then do let a ← cellOf env name; pure PUnit.unit; pure (ForInStep.yield ((name, a) :: r)) else do pure PUnit.unit; pure (ForInStep.yield r) : Str × NameKind → List (Str × Addr) → Sem (ForInStep (List (Str × Addr)))) : Sem (List (Str × Addr))) = pure (closL env.cells scope.names []) from e]
  rfl
end Mine
end

section
set_option linter.unusedVariables false
namespace Mine
open PySem PyProof.Rows

section
variable {c : Cx} {l : Nat} {nm : Names} {A : Around} {env : Env}

/-- the last clause hands one item to the list -/
theorem emit_elt {elt : Expr} {D : Addr} {X Z : Addr → Prop} {pe : PEnv} {acc : List PyData} {K : List PyData → Prop} {s : Shared} (rm : Room l A) (zD : Z D) (hDC : D ≠ env.locals)
    (hcell : ∀ x cc, nm.lookup x = some .cell → env.cells.lookup x = some cc → ¬ Z cc)
    (h : eltW c l nm elt pe acc K) (i : CI c X env nm pe Z s) (ha : AccAt c X s D acc) :
    wpAny (model c.prog c.w) A (do let _ ← call (.builtin "list.append") [.ref D, ← eval elt env]) (fun _ s' => ∃ acc', K acc' ∧ CI c X env nm pe Z s' ∧ AccAt c X s' D acc' ∧ GrZ (fun a => a = env.locals ∨ a = D) s s') noE s := by
  refine wpAny_bind (wpAny_mono (h X env A s rm i.toEInv) (fun v s₁ p => ?_) fun _ _ f => f)
  obtain ⟨g, d, ⟨hz, hK⟩, rd⟩ := p
  obtain ⟨vs, n, hl, rr⟩ := ha
  have hl1 : IsL s₁.heap D vs n := g.keep _ _ hl
  have e1 := rr.length
  simp only [Array.length_toList] at e1
  have := lim_le
  refine wpAny_bind (call_meets PySem.F.slot_list_append ⟨_, hl1, rfl⟩ PySem.F.entry_list_append (PySem.F.args_list_append_2 _ _) (list_append D vs n v (by omega)) ⟨hl1, wpAny_pure ?_⟩)
  have hsb : Heap.SameBut D s₁.heap (s₁.heap.update D (Obj.mapSeq fun xs => xs.push v)) := .update ..
  refine ⟨acc ++ [d], hK, (i.gr g).turn (fun b o hb e => (hsb.2 b fun q => ?_).trans e) (fun a q => ?_) hcell, ⟨_, _, hl1.update _, ?_⟩, ⟨?_, fun b o hb e => (hsb.2 b fun q => hb (.inr q)).trans (g.keep b o e)⟩⟩
  · rcases hb with hb | hb
    · exact hb (q ▸ zD)
    · exact hDC (q ▸ hb)
  · by_cases haD : a = D
    · subst haD; exact ⟨_, hl1.update _⟩
    · obtain ⟨o, ho⟩ := ((i.gr g).xa a q).2
      exact ⟨o, (hsb.2 a haD).trans ho⟩
  · have := (rr.mono (Ext.keep g.keep)).append (.cons rd .nil)
    simpa using this.mono (Ext.same hsb (i.zx D zD))
  · obtain ⟨h1, t1, e1⟩ := g.same
    exact ⟨_, _, by rw [e1]⟩

theorem turn1 (elt t it : Expr) (ifs : List Expr) (scope : Scope) (pos : Pos) (iv acc : Value) (env : Env) :
    compTurn (.ListComp elt [⟨t, it, ifs, 0⟩] scope pos) 0 iv acc env = turnS t it.pos ifs (do let _ ← call (.builtin "list.append") [acc, ← eval elt env]) (.compLoop (.ListComp elt [⟨t, it, ifs, 0⟩] scope pos) 0 iv acc env) iv env := by rfl
theorem turn2 (elt t it : Expr) (ifs : List Expr) (g0 : Comprehension) (scope : Scope) (pos : Pos) (iv acc : Value) (env : Env) :
    compTurn (.ListComp elt [g0, ⟨t, it, ifs, 0⟩] scope pos) 1 iv acc env = turnS t it.pos ifs (do let _ ← call (.builtin "list.append") [acc, ← eval elt env]) (.compLoop (.ListComp elt [g0, ⟨t, it, ifs, 0⟩] scope pos) 1 iv acc env) iv env := by rfl
theorem turn0 (elt t it t1 it1 : Expr) (ifs ifs1 : List Expr) (scope : Scope) (pos : Pos) (iv acc : Value) (env : Env) :
    compTurn (.ListComp elt [⟨t, it, ifs, 0⟩, ⟨t1, it1, ifs1, 0⟩] scope pos) 0 iv acc env = turnS t it.pos ifs (do
        let x ← eval it1 env
        standAt it1.pos
        let x ← foldedSetIterable it1 env x
        let _ ← runOwn (.compStart (.ListComp elt [⟨t, it, ifs, 0⟩, ⟨t1, it1, ifs1, 0⟩] scope pos) 1 (← holding [x] (pyIter x)) acc env) env) (.compLoop (.ListComp elt [⟨t, it, ifs, 0⟩, ⟨t1, it1, ifs1, 0⟩] scope pos) 0 iv acc env) iv env := by
  unfold turnS
  simp only [bind_assoc, pure_bind]
  rfl

theorem start1 {elt t it : Expr} {ifs : List Expr} {g0 : Comprehension} {scope : Scope} {pos : Pos} {iv acc : Value} {R : Result → Shared → Prop} {s : Shared}
    (h0 : codeAny (model c.prog c.w) A (.compLoop (.ListComp elt [g0, ⟨t, it, ifs, 0⟩] scope pos) 1 iv acc env) R s)
    (h : wpAny (model c.prog c.w) A (pyIter iv) (fun it' s' => codeAny (model c.prog c.w) A (.compLoop (.ListComp elt [g0, ⟨t, it, ifs, 0⟩] scope pos) 1 it' acc env) R s') noE s) :
    codeAny (model c.prog c.w) A (.compStart (.ListComp elt [g0, ⟨t, it, ifs, 0⟩] scope pos) 1 iv acc env) R s := by
  refine codeAny_of_tree ?_
  show wpAny _ _ ((compStart (.ListComp elt [g0, ⟨t, it, ifs, 0⟩] scope pos) 1 iv acc env).onRaise (fun x => do noteFrame x env; standAt theWindowsPlace)) _ _ s
  refine wpAny_notedAt ?_
  unfold compStart
  show wpAny _ _ (ask >>= _) _ _ s
  refine wpAny_bind (wpAny_askSetting (wpAny_ite ?_))
  split
  · first
      | exact wpAny_bind (wpAny_pure (wpAny_pure (And.intro rfl h0)))
      | exact wpAny_pure (And.intro rfl h0)
  · refine wpAny_bind (wpAny_rule ?_)
    show wpAny _ _ (standAt it.pos >>= _) _ _ s
    exact wpAny_bind (wpAny_standAt (wpAny_bind (wpAny_mono h (fun it' s' h' => wpAny_pure (And.intro rfl h')) fun _ _ x => x.elim)))

/-- the inner clause runs its own loop -/
theorem emit_inner {elt t it t1 it1 : Expr} {ifs ifs1 : List Expr} {scope : Scope} {pos : Pos} {D : Addr} {X Z : Addr → Prop} {pe : PEnv} {acc : List PyData} {K : List PyData → Prop} {s : Shared} (rm : Room l A) (zD : Z D) (hDC : D ≠ env.locals)
    (hcell : ∀ x cc, nm.lookup x = some .cell → env.cells.lookup x = some cc → ¬ Z cc ∧ ∃ o, s.heap.get? cc = some o)
    (h : innerW c l nm elt t1 it1 ifs1 pe acc K) (i : CI c X env nm pe Z s) (ha : AccAt c X s D acc) :
    wpAny (model c.prog c.w) A (do
        let x ← eval it1 env
        standAt it1.pos
        let x ← foldedSetIterable it1 env x
        let _ ← runOwn (.compStart (.ListComp elt [⟨t, it, ifs, 0⟩, ⟨t1, it1, ifs1, 0⟩] scope pos) 1 (← holding [x] (pyIter x)) (.ref D) env) env)
      (fun _ s' => ∃ acc', K acc' ∧ CI c X env nm pe Z s' ∧ AccAt c X s' D acc' ∧ GrZ (fun a => a = env.locals ∨ a = D) s s') noE s := by
  obtain ⟨hset, h⟩ := h
  refine wpAny_bind (wpAny_mono (h X env A s rm i.toEInv) (fun xv s₁ p => wpAny_bind (wpAny_standAt (wpAny_bind (wpAny_of_eq (folded_plain hset env xv) (wpAny_bind (wpAny_holding (wpAny_mono p (fun iv s₂ p => ?_) fun _ _ f => f))))))) fun _ _ f => f)
  obtain ⟨g, I, ds, rfl, hW, hIn, fp, P, St, W, st0, hfp, hpl, hrep⟩ := p
  obtain ⟨oI, nI, hoI, _, _⟩ := hpl 0 _ st0
  have nI : ∀ a o, s.heap.get? a = some o → a ≠ I := fun a o e q => by subst q; rw [hIn] at e; cases e
  have i1 : CI c (fun a => X a ∨ a = I) env nm pe (fun a => Z a ∨ a = I) s₂ :=
    { i.toEInv.ext (X' := fun a => X a ∨ a = I) g fun a q => q.imp id fun e => by subst e; exact ⟨hIn, oI, hoI⟩ with
      ns := let ⟨m, n⟩ := i.ns; ⟨m, n.keeps g.keep⟩
      zl := .inl i.zl
      zx := fun a q => q.imp (i.zx a) id
      own := fun x d e => by
        obtain ⟨cc, a, h1, h2, h3, h4⟩ := i.own x d e
        refine ⟨cc, a, h1, h2, h3.keeps g.keep, fun q => q.elim h4 fun q => ?_⟩
        rcases i.vars x _ e with ⟨q', _⟩ | ⟨q', v, cc', n, e', a', rfl, t⟩
        · rw [h1] at q'; cases q'
        · rw [h2] at n; cases n
          obtain ⟨o, ho, hd⟩ := h3
          obtain ⟨o', ho', hd'⟩ := id e'
          rw [ho] at ho'; cases ho'
          rw [hd] at hd'; cases hd'
          obtain ⟨oa, hoa⟩ := t.alive
          exact nI a oa hoa q }
  obtain ⟨mL, hnL⟩ := i.ns
  obtain ⟨oL, _, _, hoL, _⟩ := id hnL
  obtain ⟨vsD, nD, hlD, rrD⟩ := id ha
  have kx : Ext X s.heap (fun a => X a ∨ a = I) s₂.heap := Ext.more g.keep fun a q => q.imp id fun e => by subst e; exact hIn
  have acc1 : AccAt c (fun a => X a ∨ a = I) s₂ D acc := ⟨vsD, nD, g.keep _ _ hlD, rrD.mono kx⟩
  have hIC : I ≠ env.locals := fun e => nI _ _ hoL e.symm
  have hID : I ≠ D := fun e => nI _ _ hlD e.symm
  have loop : codeAny (model c.prog c.w) A (.compLoop (.ListComp elt [⟨t, it, ifs, 0⟩, ⟨t1, it1, ifs1, 0⟩] scope pos) 1 (.ref I) (.ref D) env)
      (fun r s' => match r with | .ok f => wpAny (model c.prog c.w) A (pure ()) (fun _ s' => ∃ acc', K acc' ∧ CI c X env nm pe Z s' ∧ AccAt c X s' D acc' ∧ GrZ (fun a => a = env.locals ∨ a = D) s s') noE s' | .error e => cameBackBy (model c.prog c.w) A env noE e s') s₂ := by
    refine loop_sound (l := l) (t := t1) (ip := it1.pos) (ifs := ifs1) (emit := do let _ ← call (.builtin "list.append") [.ref D, ← eval elt env]) (emitW := eltW c l nm elt) (I := I) (D := D) (ds := ds) (acc := acc) (K := K) (pe := pe) (nm := nm) (env := env)
      rfl rfl (by rw [← turn2]; rfl) rm (fun x cc h1 h2 q => ?_) (fun pe' acc K' s h i ha _ => emit_elt rm (.inl zD) hDC (fun x cc h1 h2 q => ?_) h i ha) i1 (.inl zD) (.inr rfl) hDC hIC hID W st0 (fun b hb hne q => ?_) hpl (fun k v hk hP => ?_) acc1 hW ?_
    · obtain ⟨z1, o, ho⟩ := hcell x cc h1 h2
      exact q.elim z1 fun e => nI _ _ ho e
    · obtain ⟨z1, o, ho⟩ := hcell x cc h1 h2
      exact q.elim z1 fun e => nI _ _ ho e
    · exact q.elim (hfp b hb hne).1 hne
    · obtain ⟨d, hd, rd⟩ := hrep k v hk hP
      exact ⟨d, hd, rd⟩
    · intro s' acc' hK i' a' g'
      have xeq : ∀ a, X a → (fun a => (X a ∨ a = I) ∧ a ≠ I) a := fun a q => ⟨.inl q, by obtain ⟨o, ho⟩ := (i.xa a q).2; exact nI a o ho⟩
      have zeq : ∀ a, Z a → (fun a => (Z a ∨ a = I) ∧ a ≠ I) a := fun a q => ⟨.inl q, by obtain ⟨o, ho⟩ := (i.xa a (i.zx a q)).2; exact nI a o ho⟩
      refine wpAny_pure ⟨acc', hK, ?_, ?_, ⟨?_, fun b o hb e => g'.keep b o (fun q => ?_) (g.keep b o e)⟩⟩
      · refine i'.turnTo (fun b o _ e => e) xeq zeq i.zl i.zx (fun a q => (i'.xa a (xeq a q)).2) fun x cc h1 h2 q => ?_
        exact (hcell x cc h1 h2).1 (q.1.elim id fun e => absurd e q.2)
      · obtain ⟨vs, n, hl, rr⟩ := a'
        exact ⟨vs, n, hl, rr.mono (Ext.sub xeq)⟩
      · obtain ⟨h1, t1, e1⟩ := g.same
        obtain ⟨h2, t2, e2⟩ := g'.same
        exact ⟨h2, t2, by rw [e2, e1]⟩
      · rcases q with q | q | q
        · exact hb (.inl q)
        · exact hb (.inr q)
        · exact nI b o e q
  refine wpAny_bind (wpAny_runOwn ?_)
  exact start1 loop (W.self 0 _ _ _ st0 loop)
end
end Mine
end

section
set_option linter.unusedVariables false
namespace Mine
open PySem PyProof.Rows

section
variable {c : Cx} {l : Nat} {nm : Names} {A : Around} {env : Env} {pe : PEnv}

theorem relN_eq {X : Addr → Prop} {s : Shared} (i : EInv c X env nm pe s) (scope : Scope) : (relabel scope env).names = relN nm scope.names := by
  unfold relabel relN
  refine List.map_congr_left fun q _ => ?_
  obtain ⟨n, k⟩ := q
  have : env.kindOf n = nm.lookup n := by show env.scope.names.lookup n = _; rw [i.names]
  simp [i.kind, this]

theorem relN_cell : ∀ {names : Names} {x : Str}, (∀ q ∈ names, q.2 ≠ .cell) → (relN nm names).lookup x = some .cell → (x, NameKind.free) ∈ names ∧ nm.lookup x = some .cell
  | [], x, _, h => by simp [relN] at h
  | (n, k) :: r, x, hn, h => by
    unfold relN at h
    rw [List.map_cons, List.lookup_cons] at h
    by_cases hk : (k == NameKind.free && nm.lookup n == some NameKind.cell) = true
    · rw [if_pos hk] at h
      cases hx : x == n with
      | true =>
        obtain ⟨h1, h2⟩ := Bool.and_eq_true_iff.mp hk
        have e1 : x = n := beq_iff_eq.mp hx
        have e2 : k = NameKind.free := by simpa using h1
        subst e1; subst e2
        exact ⟨.head _, by simpa using h2⟩
      | false =>
        rw [hx] at h
        obtain ⟨h1, h2⟩ := relN_cell (names := r) (fun q hq => hn q (.tail _ hq)) h
        exact ⟨.tail _ h1, h2⟩
    · rw [if_neg hk] at h
      cases hx : x == n with
      | true =>
        rw [hx] at h
        exact absurd (Option.some.inj h) (hn (n, k) (.head _))
      | false =>
        rw [hx] at h
        obtain ⟨h1, h2⟩ := relN_cell (names := r) (fun q hq => hn q (.tail _ hq)) h
        exact ⟨.tail _ h1, h2⟩

structure ScopeFacts (nm : Names) (scope : Scope) : Prop where
  kind : scope.kind = .function
  nocell : ∀ q ∈ scope.names, q.2 ≠ .cell
  locals : ∀ q ∈ scope.names, q.2 = .local → scope.names.lookup q.1 = some .local
  free : ∀ q ∈ scope.names, q.2 = .free → nm.lookup q.1 = some .cell
theorem scope_facts {scope : Scope} (h : scopeOk nm scope = true) : ScopeFacts nm scope := by
  unfold scopeOk at h
  obtain ⟨h1, h2⟩ := Bool.and_eq_true_iff.mp h
  have h3 := List.all_eq_true.mp h2
  refine ⟨by simpa using h1, fun q hq => ?_, fun q hq e => ?_, fun q hq e => ?_⟩
  · have := h3 q hq
    simp only [Bool.and_eq_true] at this
    simpa using this.1.1
  · have := h3 q hq
    simp only [Bool.and_eq_true] at this
    have := this.1.2
    rw [e] at this
    simpa using this
  · have := h3 q hq
    simp only [Bool.and_eq_true] at this
    have := this.2
    rw [e] at this
    simpa using this

theorem EInv.cellOf {X : Addr → Prop} {s : Shared} (i : EInv c X env nm pe s) {x : Str} (hx : nm.lookup x = some .cell) (hp : (pe x).isSome = true) : ∃ cc o, env.cells.lookup x = some cc ∧ s.heap.get? cc = some o := by
  obtain ⟨sl, hs⟩ := Option.isSome_iff_exists.mp hp
  rcases i.vars x sl hs with ⟨q, _⟩ | ⟨q, v, cc, n, ⟨o, ho, _⟩, _⟩
  · rw [hx] at q; cases q
  · exact ⟨cc, o, n, ho⟩

/-- the block of a comprehension begins -/
theorem comp_begin {scope : Scope} {X : Addr → Prop} {s s₂ : Shared} {I C : Addr} {h₁ : Heap} {tk : Nat} (i : EInv c X env nm pe s) (sf : ScopeFacts nm scope) (fo : freeOk pe scope.names) (g : Gr s s₂) (hIn : s.heap.get? I = none) {oI : Obj} (hoI : s₂.heap.get? I = some oI)
    (D : Addr) (hD : D = s₂.heap.objs.size) (hC : C = (s₂.heap.push { cls := .type "list", data := .seq #[] }).objs.size)
    (hns : h₁.Ns C (fun _ => none)) (hsb : Heap.SameBut C ((s₂.heap.push { cls := .type "list", data := .seq #[] }).push { cls := .type "dict", data := .dict #[] }) h₁) :
    CI c (fun a => X a ∨ a = C ∨ a = D ∨ a = I) (compEnvC scope (closL env.cells scope.names []) C env) (relN nm scope.names) (resC (relN nm scope.names) pe) (fun a => a = C ∨ a = D ∨ a = I) { s₂ with heap := h₁, toks := tk } ∧
    Gr s₂ { s₂ with heap := h₁, toks := tk } ∧ IsL h₁ D #[] 0 ∧ D ≠ C ∧ I ≠ C ∧ I ≠ D ∧ s.heap.get? D = none ∧ s.heap.get? C = none ∧
    (∀ x cc, (relN nm scope.names).lookup x = some .cell → (closL env.cells scope.names []).lookup x = some cc → ∃ o, s.heap.get? cc = some o) := by
  have hDs : s₂.heap.get? D = none := by rw [hD]; exact fresh_addr s₂
  have hCs : s₂.heap.get? C = none := by rw [hC]; exact Heap.get?_none_of_le (by rw [Heap.size_push]; omega)
  have hCD : D ≠ C := by rw [hC, hD, Heap.size_push]; exact Nat.ne_of_lt (Nat.lt_succ_self _)
  have kp : ∀ b o, s₂.heap.get? b = some o → h₁.get? b = some o := fun b o e => (hsb.2 b fun q => by subst q; rw [hCs] at e; cases e).trans (Heap.get?_push_of_some _ (Heap.get?_push_of_some _ e))
  have gg : Gr s₂ { s₂ with heap := h₁, toks := tk } := .heap s₂ kp tk
  have hlD : IsL h₁ D #[] 0 := by
    show h₁.get? D = _
    rw [hsb.2 D hCD]
    exact Heap.get?_push_of_some _ (by rw [hD]; exact Heap.get?_push_size _ rfl)
  have hIC : I ≠ C := fun q => by subst q; rw [hCs] at hoI; cases hoI
  have hID : I ≠ D := fun q => by subst q; rw [hDs] at hoI; cases hoI
  obtain ⟨oC, _, _, hoC, _⟩ := id hns
  have look : ∀ x, (relN nm scope.names).lookup x = some .cell → ∃ cc o, env.cells.lookup x = some cc ∧ (closL env.cells scope.names []).lookup x = some cc ∧ s.heap.get? cc = some o := fun x hx => by
    obtain ⟨h1, h2⟩ := relN_cell sf.nocell hx
    obtain ⟨cc, o, h3, h4⟩ := i.cellOf h2 (fo _ h1 rfl)
    refine ⟨cc, o, h3, ?_, h4⟩
    rw [closL_lookup scope.names [] (fun b hb => by simp at hb) (.inr h1), h3]; rfl
  have i0 := i.ext (X' := fun a => X a ∨ a = C ∨ a = D ∨ a = I) (g.trans gg) fun a q => q.imp id fun q => by
    rcases q with rfl | rfl | rfl
    · exact ⟨g.none hCs, oC, hoC⟩
    · exact ⟨g.none hDs, _, hlD⟩
    · exact ⟨hIn, oI, kp _ _ hoI⟩
  have zs : ∀ a o, s.heap.get? a = some o → ¬ (a = C ∨ a = D ∨ a = I) := fun a o e q => by
    rcases q with rfl | rfl | rfl
    · rw [g.none hCs] at e; cases e
    · rw [g.none hDs] at e; cases e
    · rw [hIn] at e; cases e
  refine ⟨{ toSInv := i0.toSInv, kind := by simp [compEnvC, relabel, sf.kind], names := relN_eq i scope, glob := i.glob, blt := i.blt, vars := fun x sl e => ?_, ns := ⟨_, hns⟩, zl := .inl rfl, zx := fun a q => .inr q, own := fun x d e => ?_ }, gg, hlD, hCD, hIC, hID, g.none hDs, g.none hCs, fun x cc h1 h2 => ?_⟩
  · unfold resC at e
    split at e
    · rename_i hx
      obtain ⟨cc, o, h1, h2, h3⟩ := look x hx
      have hxc := (relN_cell sf.nocell hx).2
      rcases i0.vars x sl e with ⟨q, _⟩ | ⟨q, v, cc', n, e', t⟩
      · rw [hxc] at q; cases q
      · rw [h1] at n; cases n
        exact .inr ⟨hx, v, cc, h2, e', t⟩
    · cases e
  · unfold resC at e
    split at e
    · rename_i hx
      obtain ⟨cc, o, h1, h2, h3⟩ := look x hx
      have hxc := (relN_cell sf.nocell hx).2
      rcases i.vars x _ e with ⟨q, _⟩ | ⟨q, v, cc', n, e', a, rfl, t⟩
      · rw [hxc] at q; cases q
      · rw [h1] at n; cases n
        obtain ⟨oa, hoa⟩ := t.alive
        exact ⟨cc, a, hx, h2, e'.keeps (g.trans gg).keep, zs a oa hoa⟩
    · cases e
  · obtain ⟨cc', o, k1, k2, k3⟩ := look x h1
    rw [k2] at h2; cases h2
    exact ⟨o, k3⟩

theorem comp_core {elt : Expr} {gens : List Comprehension} {scope : Scope} {pos : Pos} {X : Addr → Prop} {s : Shared} {K : List PyData → Prop} {RR : Value → Addr → Result → Shared → Prop} (rm : Room l A) (i : EInv c X env nm pe s) (h : compW c l nm pe elt gens scope K)
    (hRR : ∀ D C s' acc', K acc' → s.heap.get? D = none → s.heap.get? C = none → D ≠ C → Gr s s' → (∃ m, s'.heap.Ns C m) → AccAt c (fun a => X a ∨ a = C ∨ a = D) s' D acc' → RR (.ref D) C (.ok .next) s') :
    wpAny (model c.prog c.w) A (firstIter gens env) (fun x s₁ => wpAny (model c.prog c.w) A (pyIter x) (fun it s₂ => wpAny (model c.prog c.w) A (newList []) (fun acc s₃ =>
      wpAny (model c.prog c.w) A (newFunctionEnv scope env.globals (closL env.cells scope.names []) [] env.qual none .none (some env)) (fun cenv s₄ =>
        codeAny (model c.prog c.w) A (.compStart (.ListComp elt gens scope pos) 0 it acc { cenv with scope := relabel scope env }) (RR acc cenv.locals) s₄) noE s₃) noE s₂) noE s₁) noE s := by
  obtain ⟨so, fo, h⟩ := h
  have sf := scope_facts so
  -- one run of the first clause's loop
  have run : ∀ {t it : Expr} {ifs : List Expr} {gs : List Comprehension} {emitW : PEnv → List PyData → (List PyData → Prop) → Prop} {emit : Addr → Addr → Sem Unit}, gens = ⟨t, it, ifs, 0⟩ :: gs →
      (∀ iv D C, compTurn (.ListComp elt gens scope pos) 0 iv (.ref D) (compEnvC scope (closL env.cells scope.names []) C env) =
        turnS t it.pos ifs (emit D C) (.compLoop (.ListComp elt gens scope pos) 0 iv (.ref D) (compEnvC scope (closL env.cells scope.names []) C env)) iv (compEnvC scope (closL env.cells scope.names []) C env)) →
      (∀ D C X Z pe' acc K' s', emitW pe' acc K' → CI c X (compEnvC scope (closL env.cells scope.names []) C env) (relN nm scope.names) pe' Z s' → AccAt c X s' D acc → Z D → D ≠ C →
        (∀ x cc, (relN nm scope.names).lookup x = some .cell → (closL env.cells scope.names []).lookup x = some cc → ¬ Z cc ∧ ∃ o, s'.heap.get? cc = some o) →
        wpAny (model c.prog c.w) A (emit D C) (fun _ s'' => ∃ acc', K' acc' ∧ CI c X (compEnvC scope (closL env.cells scope.names []) C env) (relN nm scope.names) pe' Z s'' ∧ AccAt c X s'' D acc' ∧ GrZ (fun a => a = C ∨ a = D) s' s'') noE s') →
      (EvI c l nm pe it fun ds => compL (turnW c l (relN nm scope.names) t ifs emitW (resC (relN nm scope.names) pe)) ds [] K) →
      wpAny (model c.prog c.w) A (firstIter gens env) (fun x s₁ => wpAny (model c.prog c.w) A (pyIter x) (fun it s₂ => wpAny (model c.prog c.w) A (newList []) (fun acc s₃ =>
      wpAny (model c.prog c.w) A (newFunctionEnv scope env.globals (closL env.cells scope.names []) [] env.qual none .none (some env)) (fun cenv s₄ =>
        codeAny (model c.prog c.w) A (.compStart (.ListComp elt gens scope pos) 0 it acc { cenv with scope := relabel scope env }) (RR acc cenv.locals) s₄) noE s₃) noE s₂) noE s₁) noE s := by
    intro t it ifs gs emitW emit hgs hturn hemit hI
    subst hgs
    show wpAny _ A (eval it env) _ _ s
    refine wpAny_mono (hI X env A s rm i) (fun xv s₁ p => wpAny_mono p (fun iv s₂ p => ?_) fun _ _ f => f) fun _ _ f => f
    obtain ⟨g, I, ds, rfl, hW, hIn, fp, P, St, W, st0, hfp, hpl, hrep⟩ := p
    obtain ⟨oI, nI, hoI, _, _⟩ := hpl 0 _ st0
    refine wpAny_newObj_type (wpAny_newFunctionEnv sf.nocell (by intro y hy; simp at hy) (fun h₁ hns₁ hsb₁ => ?_) sf.kind)
    have hns : h₁.Ns (s₂.heap.push { cls := .type "list", data := .seq #[] }).objs.size (fun _ => none) := hns₁
    have hsb : Heap.SameBut (s₂.heap.push { cls := .type "list", data := .seq #[] }).objs.size ((s₂.heap.push { cls := .type "list", data := .seq #[] }).push { cls := .type "dict", data := .dict #[] }) h₁ := hsb₁
    obtain ⟨i1, gg, hlD, hDC, hIC, hID, hDs, hCs, hcl⟩ := comp_begin (tk := s₂.toks) i sf fo g hIn hoI s₂.heap.objs.size rfl rfl hns hsb
    generalize hCdef : (s₂.heap.push { cls := .type "list", data := .seq #[] }).objs.size = C at *
    generalize hDdef : s₂.heap.objs.size = D at *
    show codeAny (model c.prog c.w) A (.compStart (.ListComp elt (⟨t, it, ifs, 0⟩ :: gs) scope pos) 0 (.ref I) (.ref D) (compEnvC scope (closL env.cells scope.names []) C env)) (RR (.ref D) C) { s₂ with heap := h₁, toks := s₂.toks }
    have zold : ∀ a o, s.heap.get? a = some o → ¬ (a = C ∨ a = D ∨ a = I) := fun a o e q => by
      rcases q with rfl | rfl | rfl
      · rw [hCs] at e; cases e
      · rw [hDs] at e; cases e
      · rw [hIn] at e; cases e
    have st1 : St 0 h₁ := W.frame _ _ _ st0 fun b _ o e => gg.keep b o e
    have loop : codeAny (model c.prog c.w) A (.compLoop (.ListComp elt (⟨t, it, ifs, 0⟩ :: gs) scope pos) 0 (.ref I) (.ref D) (compEnvC scope (closL env.cells scope.names []) C env)) (RR (.ref D) C) { s₂ with heap := h₁, toks := s₂.toks } := by
      have wold : ∀ x cc, (relN nm scope.names).lookup x = some .cell → (closL env.cells scope.names []).lookup x = some cc → ¬ (cc = C ∨ cc = D ∨ cc = I) := fun x cc h1 h2 => let ⟨o, ho⟩ := hcl x cc h1 h2; zold cc o ho
      refine loop_sound (l := l) (t := t) (ip := it.pos) (ifs := ifs) (emit := emit D C) (emitW := emitW) (I := I) (D := D) (ds := ds) (acc := []) (K := K) (env := compEnvC scope (closL env.cells scope.names []) C env)
        rfl rfl (by rw [← hturn]; rfl) rm wold (fun pe' acc K' s' hw ci ha gz => hemit D C _ _ pe' acc K' s' hw ci ha (.inr (.inl rfl)) hDC fun x cc h1 h2 => ⟨wold x cc h1 h2, ?_⟩)
        i1 (.inr (.inl rfl)) (.inr (.inr rfl)) hDC hIC hID W st1 (fun b hb hne q => ?_) hpl (fun k v hk hP => ?_) ⟨#[], 0, hlD, .nil⟩ hW ?_
      · obtain ⟨o, ho⟩ := hcl x cc h1 h2
        exact ⟨o, gz.keep cc o (wold x cc h1 h2) (gg.keep _ _ (g.keep _ _ ho))⟩
      · obtain ⟨hx, o, ho⟩ := hfp b hb hne
        rcases q with q | q | q | q
        · exact hx q
        · subst q; rw [← hCdef, Heap.size_push] at ho; exact absurd (Heap.lt_size ho) (Nat.not_lt.mpr (Nat.le_succ _))
        · subst q; rw [← hDdef] at ho; exact absurd (Heap.lt_size ho) (Nat.lt_irrefl _)
        · exact hne q
      · obtain ⟨d, hd, rd⟩ := hrep k v hk hP
        refine ⟨d, hd, rd.mono fun b o hb e => ⟨fun q => ?_, gg.keep b o e⟩⟩
        rcases q with q | q | q | q
        · exact hb (.inl q)
        · subst q; rw [← hCdef, Heap.size_push] at e; exact absurd (Heap.lt_size e) (Nat.not_lt.mpr (Nat.le_succ _))
        · subst q; rw [← hDdef] at e; exact absurd (Heap.lt_size e) (Nat.lt_irrefl _)
        · exact hb (.inr q)
      · intro s' acc' hK i' a' g'
        refine hRR D C s' acc' hK hDs hCs hDC ⟨?_, fun b o e => g'.keep b o (zold b o e) (gg.keep b o (g.keep b o e))⟩ i'.ns ?_
        · obtain ⟨h1, t1, e1⟩ := g.same
          obtain ⟨h2, t2, e2⟩ := g'.same
          exact ⟨h2, t2, by rw [e2, e1]⟩
        · obtain ⟨vs, n, hl, rr⟩ := a'
          refine ⟨vs, n, hl, rr.mono (Ext.sub fun a q => ⟨?_, fun e => ?_⟩)⟩
          · rcases q with q | q | q
            · exact .inl q
            · exact .inr (.inl q)
            · exact .inr (.inr (.inl q))
          · subst e
            rcases q with q | q | q
            · obtain ⟨o, ho⟩ := (i.xa _ q).2; rw [hIn] at ho; cases ho
            · exact hIC q
            · exact hID q
    exact codeAny_compStart_list loop (W.self 0 _ _ _ st1 loop)
  cases h with
  | one hset h =>
    exact run rfl (fun iv D C => turn1 ..) (fun D C X Z pe' acc K' s' hw i ha zD hDC hc => emit_elt rm zD hDC (fun x cc h1 h2 => (hc x cc h1 h2).1) hw i ha) h
  | two hset h =>
    exact run rfl (fun iv D C => turn0 ..) (fun D C X Z pe' acc K' s' hw i ha zD hDC hc => emit_inner rm zD hDC hc hw i ha) h

theorem EvS_comp {elt : Expr} {gens : List Comprehension} {scope : Scope} {pos : Pos} {K : PyData → Prop} (h : compW c l nm pe elt gens scope fun ds => K (.list ds)) : EvS c l nm pe (.ListComp elt gens scope pos) K := fun X env A s rm i => by
  obtain ⟨g0, gs, hset, has, rfl⟩ : ∃ g gs, isSetE g.iter = false ∧ firstAsync (g :: gs) = false ∧ gens = g :: gs := by
    obtain ⟨_, _, h⟩ := h
    cases h with
    | one hs _ => exact ⟨_, _, hs, rfl, rfl⟩
    | two hs _ => exact ⟨_, _, hs, rfl, rfl⟩
  have sf := scope_facts h.1
  rw [eval_ListComp, has]
  refine wpAny_comprehension_free (use := none) rfl (folded_plain hset env) (closure_eq fun q hq e => ?_) sf.kind sf.locals (comp_core (RR := fun acc C => compPost (model c.prog c.w) A noE none (Post c X s K) acc C) rm i h fun D C s' acc' hK hD hC hDC g hn ha => ?_)
  · obtain ⟨cc, o, h1, _⟩ := i.cellOf (sf.free q hq e) (h.2.1 q hq e)
    rw [h1]; rfl
  · obtain ⟨m, n⟩ := hn
    refine ⟨m, n, fun h' hs => ⟨⟨?_, fun b o e => (hs.2 b fun q => by subst q; rw [hC] at e; cases e).trans (g.keep b o e)⟩, .list acc', hK, ?_⟩⟩
    · obtain ⟨h1, t1, e1⟩ := g.same
      exact ⟨h', t1, by rw [e1]⟩
    · obtain ⟨vs, n, hl, rr⟩ := ha
      have hXD : ¬ X D := fun q => by obtain ⟨o, ho⟩ := (i.xa D q).2; rw [hD] at ho; cases ho
      refine .list hXD ((hs.2 D hDC).trans hl) (rr.mono fun b o hb e => ⟨fun q => hb (.inl q), (hs.2 b fun q => hb (.inr (.inl q))).trans e⟩)

theorem ExS_comp {x : Str} {px : Pos} {elt : Expr} {gens : List Comprehension} {scope : Scope} {cpos spos : Pos} {K : Fl → PEnv → Prop} (hk : kindOK nm x) (h : compW c l nm pe elt gens scope fun ds => K .next (pe.set x (.list ds))) :
    ExS c l nm (.Assign [.Name x px] (.ListComp elt gens scope cpos) spos) pe K := fun X₀ env A s ρ rm i => by
  have hsw : ∃ b, swapsWith (.ListComp elt gens scope cpos) (some (.Name x px)) spos.line env = pure b := ⟨_, rfl⟩
  obtain ⟨b, hsw⟩ := hsw
  cases b with
  | false =>
    refine wpAny_Assign_Name (wpAny_mono (EvS_comp (K := fun d => K .next (pe.set x d)) h _ env A s rm i.einv) (fun v s₁ p => ?_) fun _ _ f => f) hsw
    obtain ⟨g, d, hd, rd⟩ := p
    exact store_rep (i.gr g) hk rd fun s' t i' => ⟨ρ, _, .next, i', g.to.trans t, trivial, hd⟩
  | true =>
    obtain ⟨g0, gs, hset, has, rfl⟩ : ∃ g gs, isSetE g.iter = false ∧ firstAsync (g :: gs) = false ∧ gens = g :: gs := by
      obtain ⟨_, _, h⟩ := h
      cases h with
      | one hs _ => exact ⟨_, _, hs, rfl, rfl⟩
      | two hs _ => exact ⟨_, _, hs, rfl, rfl⟩
    have sf := scope_facts h.1
    rw [exec_Assign_Name_used _ _ _ _ hsw]
    refine wpAny_bind (wpAny_standAt (wpAny_bind ?_))
    show wpAny _ A (do let _ ← comprehension (.ListComp elt (g0 :: gs) scope cpos) scope env _ (newList []) (firstAsync (g0 :: gs)) (firstIter (g0 :: gs) env) (some (assign (.Name x px) env))) _ _ s
    rw [has]
    refine wpAny_bind (wpAny_mono (wpAny_comprehension_free (use := some (assign (.Name x px) env)) (Q := fun _ s' => SPost c X₀ env nm ρ s K .next s') rfl (folded_plain hset env) (closure_eq fun q hq e => ?_) sf.kind sf.locals
      (comp_core (RR := fun acc C => compPost (model c.prog c.w) A noE (some (assign (.Name x px) env)) (fun _ s' => SPost c X₀ env nm ρ s K .next s') acc C) rm i.einv h fun D C s' acc' hK hD hC hDC g hn ha => ?_)) (fun _ s' q => wpAny_pure (wpAny_pure q)) fun _ _ f => f)
    · obtain ⟨cc, o, h1, _⟩ := i.einv.cellOf (sf.free q hq e) (h.2.1 q hq e)
      rw [h1]; rfl
    · show wpAny _ A (assign (.Name x px) env (.ref D)) _ _ s'
      obtain ⟨m, n⟩ := hn
      obtain ⟨oC, _, _, hoC, _⟩ := id n
      have hrC : ρ C = none := Classical.byContradiction fun q => by obtain ⟨_, o, ho⟩ := i.rho C q; rw [hC] at ho; cases ho
      have hrD : ρ D = none := Classical.byContradiction fun q => by obtain ⟨_, o, ho⟩ := i.rho D q; rw [hD] at ho; cases ho
      have i1 : FInv c (fun a => X₀ a ∨ a = C) env nm pe ρ s' := i.growX g (.refl s ρ) (fun a q => .inl q) fun a q => q.imp id fun e => by subst e; exact ⟨hC, ⟨oC, hoC⟩, hrC⟩
      have rD : Rep c.prog c.w s'.heap (XX (fun a => X₀ a ∨ a = C) ρ) (.ref D) (.list acc') := by
        obtain ⟨vs, n, hl, rr⟩ := ha
        refine .list (fun q => ?_) hl (rr.mono (Ext.sub fun a q => ?_))
        · rcases q with (q | q) | q
          · obtain ⟨_, ⟨o, ho⟩, _⟩ := i.x0 D q; rw [hD] at ho; cases ho
          · exact hDC q
          · exact q hrD
        · rcases q with (q | q) | q
          · exact .inl (.inl q)
          · exact .inr (.inl q)
          · exact .inl (.inr q)
      refine PyProof.Rows.assign_Name (store_rep i1 hk rD fun s'' t i' => ?_)
      obtain ⟨oC', hoC'⟩ := t.al C oC hoC
      have nC : s''.heap.Ns C m := by
        obtain ⟨o, es, ep, ho, z⟩ := n
        exact ⟨o, es, ep, t.g.keep C o hrC ho, z⟩
      refine ⟨m, nC, fun h' hs => ⟨ρ, _, .next, i'.turnX (X₁ := X₀) (fun b o hb e => (hs.2 b fun q => hb (.inr q)).trans e) (fun a q => .inl q) (fun a q => ?_), ?_, trivial, hK⟩⟩
      · obtain ⟨_, ⟨o, ho⟩, _⟩ := i'.x0 a (.inl q)
        refine ⟨o, (hs.2 a fun e => ?_).trans ho⟩
        subst e
        obtain ⟨_, ⟨o2, ho2⟩, _⟩ := i.x0 a q; rw [hC] at ho2; cases ho2
      · have t0 : To ρ s ρ s'' := g.to.trans t
        refine ⟨⟨?_, fun b o hb e => (hs.2 b fun q => by subst q; rw [hC] at e; cases e).trans (t0.g.keep b o hb e)⟩, .refl s ρ, fun b o e => ?_⟩
        · obtain ⟨h1, t1, e1⟩ := t0.g.same
          exact ⟨h', t1, by rw [e1]⟩
        · obtain ⟨o', ho'⟩ := t0.al b o e
          exact ⟨o', (hs.2 b fun q => by subst q; rw [hC] at e; cases e).trans ho'⟩
end
end Mine
end

section
set_option linter.unusedVariables false
namespace Mine
open PySem PyProof.Rows

noncomputable def bindPe (xs : List Str) (ds : List PyData) : PEnv := fun y => ((xs.zip ds).lookup y).map fun d => ⟨d, false⟩
noncomputable def FnAt (c : Cx) (f : Str) (params : Arguments) (body : List Stmt) (scope : Scope) : Prop :=
  ∃ a o pm cd doc, c.mg f = some (.ref a) ∧ c.h₀.get? a = some o ∧ o.data = .func (Calls.docDef f params body scope pm cd doc) ∧ c.h₀.CodeRec cd f

theorem bindL_other {kindOf : Str → Option NameKind} {x : Str} : ∀ (binds : List (Str × Value)) (m : Str → Option Value), x ∉ binds.map (·.1) → bindL kindOf binds m x = m x
  | [], m, _ => rfl
  | (n, v) :: r, m, h => by
    simp only [List.map_cons, List.mem_cons, not_or] at h
    rw [bindL, bindL_other r _ h.2]
    split
    · simp [h.1]
    · rfl
theorem bindC_other {kindOf : Str → Option NameKind} {x : Str} : ∀ (binds : List (Str × Value)) (m : Str → Option Value), x ∉ binds.map (·.1) → bindC kindOf binds m x = m x
  | [], m, _ => rfl
  | (n, v) :: r, m, h => by
    simp only [List.map_cons, List.mem_cons, not_or] at h
    rw [bindC, bindC_other r _ h.2]
    split
    · rfl
    · simp [h.1]
theorem bindL_at {kindOf : Str → Option NameKind} {x : Str} {v : Value} (hk : kindOf x = some .local) : ∀ (binds : List (Str × Value)) (m : Str → Option Value), (binds.map (·.1)).Nodup → binds.lookup x = some v → bindL kindOf binds m x = some v
  | [], m, _, h => by simp at h
  | (n, u) :: r, m, hn, h => by
    rw [List.map_cons, List.nodup_cons] at hn
    rw [List.lookup_cons] at h
    rw [bindL]
    cases hx : x == n with
    | true =>
      rw [hx] at h
      have e : x = n := beq_iff_eq.mp hx
      subst e
      cases h
      rw [bindL_other r _ hn.1, if_pos hk]; simp
    | false =>
      rw [hx] at h
      exact bindL_at hk r _ hn.2 h
theorem bindC_at {kindOf : Str → Option NameKind} {x : Str} {v : Value} (hk : kindOf x = some .cell) : ∀ (binds : List (Str × Value)) (m : Str → Option Value), (binds.map (·.1)).Nodup → binds.lookup x = some v → bindC kindOf binds m x = some v
  | [], m, _, h => by simp at h
  | (n, u) :: r, m, hn, h => by
    rw [List.map_cons, List.nodup_cons] at hn
    rw [List.lookup_cons] at h
    rw [bindC]
    cases hx : x == n with
    | true =>
      rw [hx] at h
      have e : x = n := beq_iff_eq.mp hx
      subst e
      cases h
      rw [bindC_other r _ hn.1, if_neg (by rw [hk]; decide)]; simp
    | false =>
      rw [hx] at h
      exact bindC_at hk r _ hn.2 h

section
variable {c : Cx} {l : Nat}
theorem RepAll.zipLookup {p : Program} {w : World} {h : Heap} {X : Addr → Prop} : ∀ {vs : List Value} {ds : List PyData} (xs : List Str), RepAll p w h X vs ds → ∀ {x d}, (xs.zip ds).lookup x = some d → ∃ v, (xs.zip vs).lookup x = some v ∧ Rep p w h X v d
  | _, _, [], _, x, d, e => by simp at e
  | _, _, _ :: _, .nil, x, d, e => by simp at e
  | _, _, y :: xs, .cons a r, x, d, e => by
    rw [List.zip_cons_cons, List.lookup_cons] at e ⊢
    cases hx : x == y with
    | true => rw [hx] at e; cases e; exact ⟨_, rfl, a⟩
    | false => rw [hx] at e; exact r.zipLookup xs e

noncomputable def labOf (L : Addr) (cs : List (Str × Addr)) : Addr → Option Lab := fun a => if a = L then some .L else (cs.find? fun q => cs.lookup q.1 == some a).map fun q => .cell q.1
theorem labOf_cell {L : Addr} {cs : List (Str × Addr)} (hp : cs.Pairwise fun x y => x.2 ≠ y.2) (hab : ∀ n c, (n, c) ∈ cs → L < c) {x : Str} {cc : Addr} (h : cs.lookup x = some cc) : labOf L cs cc = some (.cell x) := by
  unfold labOf
  rw [if_neg (Nat.ne_of_gt (hab x cc (mem_of_lookup h)))]
  cases hf : cs.find? fun q => cs.lookup q.1 == some cc with
  | none =>
    have := List.find?_eq_none.mp hf (x, cc) (mem_of_lookup h)
    simp [h] at this
  | some q =>
    have h1 := List.find?_some hf
    obtain ⟨n, a⟩ := q
    have h1 : cs.lookup n = some cc := by simpa using h1
    rw [name_of_addr hp (mem_of_lookup h1) (mem_of_lookup h)]; rfl
theorem labOf_above {L a : Addr} {cs : List (Str × Addr)} (hab : ∀ n c, (n, c) ∈ cs → L < c) (h : labOf L cs a ≠ none) : L ≤ a ∧ (a = L ∨ ∃ x, cs.lookup x = some a) := by
  unfold labOf at h
  split at h
  · rename_i e; subst e; exact ⟨Nat.le_refl _, .inl rfl⟩
  · cases hf : cs.find? fun q => cs.lookup q.1 == some a with
    | none => rw [hf] at h; exact absurd rfl h
    | some q =>
      have h1 := List.find?_some hf
      obtain ⟨n, b⟩ := q
      have h1 : cs.lookup n = some a := by simpa using h1
      exact ⟨Nat.le_of_lt (hab n a (mem_of_lookup h1)), .inr ⟨n, h1⟩⟩

/-- what a def's body must end with -/
noncomputable def retW (K : PyData → Prop) : Fl → PEnv → Prop
  | .ret d, _ => K d
  | .next, _ => K .none
  | _, _ => False

theorem fn_sound {f : Str} {params : Arguments} {body : List Stmt} {scope : Scope} {xs : List Str} {ds : List PyData} {K : PyData → Prop} (gd : Gd c) (fa : FnAt c f params body scope)
    (hbind : ∀ (pm cd doc : Value) (vs : List Value), vs.length = xs.length → bindArgs (Calls.docDef f params body scope pm cd doc) ⟨vs, []⟩ = pure (xs.zip vs)) (hlen : ds.length = xs.length) (hnd : xs.Nodup)
    (hkind : ∀ x ∈ xs, scope.names.lookup x = some .local ∨ (scope.names.lookup x = some .cell ∧ ∀ n, ((cellsFrom n scope.names []).lookup x).isSome = true))
    (hcells : ∀ n x, scope.names.lookup x = some .cell → ((cellsFrom n scope.names []).lookup x).isSome = true)
    (hco : scope.isCoroutine = false) (hgen : scope.isGenerator = false) (hk : scope.kind = .function)
    (h : ExL c l scope.names body (bindPe xs ds) (retW K)) : CallOK c (l + 1) f ds K := fun X A s vs r i rs => by
  obtain ⟨a, o, pm, cd, doc, hm, ho, hd, hcr⟩ := fa
  refine ⟨a, o, _, hm, ho, hd, wpAny_call ?_⟩
  have hvl : vs.length = xs.length := rs.length.trans hlen
  have hmap : (xs.zip vs).map (·.1) = xs := by rw [List.map_fst_zip]; omega
  refine call_cells_ret (by have := r.dep; omega) (i.kept _ _ ho) hd (i.nolimit gd) (hcr.keeps i.kept) (hbind pm cd doc vs hvl) (fun x hx => ?_) (fun h₁ tk F C => ?_) hco hgen hk
  · have : x.1 ∈ xs := by rw [← hmap]; exact List.mem_map.mpr ⟨x, hx, rfl⟩
    exact (hkind x.1 this).imp id fun q => ⟨q.1, q.2 _⟩
  generalize hL : s.heap.objs.size = L at *
  generalize hcs : cellsFrom (L + 1) scope.names [] = cs at *
  have hab := C.above
  have old : ∀ b ob, s.heap.get? b = some ob → labOf L cs b = none := fun b ob e => Classical.byContradiction fun q => by
    have h1 := (labOf_above hab q).1
    have h2 := Heap.lt_size e
    rw [hL] at h2
    exact absurd h1 (Nat.not_le.mpr h2)
  have kp : ∀ b ob, s.heap.get? b = some ob → h₁.get? b = some ob := F.keep
  have i1 : FInv c X (envOfC f scope L a cd) scope.names (bindPe xs ds) (labOf L cs) { s with heap := h₁, toks := tk } := by
    have X1 : Ext X s.heap (XX X (labOf L cs)) h₁ := fun b ob hb e => ⟨fun q => q.elim hb fun q => q (old b ob e), kp b ob e⟩
    refine ⟨fun b ob e => kp b ob (i.kept b ob e), fun b q => ?_, fun b q => ?_, hk, rfl, rfl, rfl, by simp [labOf, envOfC], ⟨_, F.ns, fun x sl e hx => ?_⟩, fun x hx => ?_, fun x sl e => ?_⟩
    · obtain ⟨h1, ob, hob⟩ := i.xa b q
      exact ⟨h1, ⟨ob, kp b ob hob⟩, old b ob hob⟩
    · obtain ⟨h1, h2⟩ := labOf_above hab q
      refine ⟨?_, ?_⟩
      · cases e : c.h₀.get? b with
        | none => rfl
        | some ob => have h2 := Heap.lt_size (i.kept b ob e); rw [hL] at h2; exact absurd h1 (Nat.not_le.mpr h2)
      · rcases h2 with rfl | ⟨x, hx⟩
        · obtain ⟨oL, _, _, hoL, _⟩ := F.ns; exact ⟨oL, hoL⟩
        · obtain ⟨ob, hob, _⟩ := C.cell x b hx
          exact ⟨ob, hob⟩
    · unfold bindPe at e
      cases hl : (xs.zip ds).lookup x with
      | none => rw [hl] at e; cases e
      | some d =>
        rw [hl] at e; cases e
        obtain ⟨v, hv, rv⟩ := rs.zipLookup xs hl
        exact ⟨v, bindL_at (by exact hx) _ _ (by rw [hmap]; exact hnd) hv, rv.mono X1⟩
    · obtain ⟨cc, hcc⟩ := Option.isSome_iff_exists.mp (hcells (L + 1) x hx)
      rw [hcs] at hcc
      refine ⟨cc, _, by show (cellsFrom (L + 1) scope.names []).lookup x = _; rw [hcs]; exact hcc, labOf_cell C.apart hab hcc, C.cell x cc hcc, fun sl e => ?_⟩
      unfold bindPe at e
      cases hl : (xs.zip ds).lookup x with
      | none => rw [hl] at e; cases e
      | some d =>
        rw [hl] at e; cases e
        obtain ⟨v, hv, rv⟩ := rs.zipLookup xs hl
        exact ⟨v, bindC_at (by exact hx) _ _ (by rw [hmap]; exact hnd) hv, rv.mono X1⟩
    · unfold bindPe at e
      cases hl : (xs.zip ds).lookup x with
      | none => rw [hl] at e; cases e
      | some d =>
        have : x ∈ xs := by
          have := PySem.mem_of_lookup hl
          exact (List.of_mem_zip this).1
        exact (hkind x this).imp id (·.1)
  refine wpAny_mono (h X _ _ _ _ (r.deeper _) i1) (fun fl s' p => ?_) fun _ _ f => f
  obtain ⟨ρ', pe', fl', i2, t, f2, k⟩ := p
  have g : Gr s s' := by
    refine ⟨?_, fun b ob e => t.g.keep b ob (old b ob e) (kp b ob e)⟩
    obtain ⟨h2, t2, e2⟩ := t.g.same
    exact ⟨h2, t2, by rw [e2]⟩
  cases fl with
  | next => cases fl' with
    | next => exact ⟨g, .none, k, .none⟩
    | _ => exact f2.elim
  | ret v => cases fl' with
    | ret d => exact ⟨g, d, k, f2⟩
    | _ => exact f2.elim
  | brk => cases fl' with
    | brk => exact k.elim
    | _ => exact f2.elim
  | cont => cases fl' with
    | cont => exact k.elim
    | _ => exact f2.elim
end
end Mine
end

section
set_option linter.unusedVariables false
set_option maxRecDepth 100000
namespace Mine
open PySem PyProof.Rows

theorem keys_missing : typeLookup (.type "list") "keys" = pure none := am_miss_of_fast (by decide +kernel)
theorem miss_keys {prog : Program} {w : World} {A : Around} {E : Value → Shared → Prop} {s : Shared} {a : Addr} {xs : Array Value} {k : Nat} {Q : Option Value → Shared → Prop}
    (hx : IsL s.heap a xs k) (hA : A.handled = none) (h : ∀ h' tk, (∀ b o, s.heap.get? b = some o → h'.get? b = some o) → Q none { s with heap := h', toks := tk }) :
    wpAny (model prog w) A (getAttr? (.ref a) "keys") Q E s := by
  obtain ⟨hp, g, d, tk, os⟩ := s
  have hT : ∀ tk', (⟨hp, g, d, tk', os⟩ : Shared).TypeIs (.ref a) "list" := fun _ => ⟨_, hx, rfl⟩
  have f1 := sub_AttributeError
  have f3 := F.slot_list_getattribute.lookup
  have f4 := F.slot_list_getattribute.bind (.ref a)
  have f5 := am_list_getattr_none
  unfold getAttr? getAttrBy? getAttrBy
  repeat (any_goals (first | assumption | exact hT _ | ((with_reducible show wpAny _ _ (call (Value.builtin "list.__getattribute__") _ _) _ _ _); refine call_meets F.slot_list_getattribute (hT _) am_entry_list_getattribute (F.args_list_getattribute_2 _ _) (meets_getattribute_miss_list a xs k _ "keys" _ keys_missing (by decide +kernel)) ⟨hx, hA, fun h' tk' e hx' => ?_⟩) | wp_step))
  obtain ⟨t', u', he⟩ := hx'.there
  show wpAny _ _ (getattributeRaised _ _ _ _ _ _ _) _ _ _
  unfold getattributeRaised
  repeat (any_goals (first | assumption | wp_step))
  exact h _ _ hx'.keeps

theorem entry_dict_update_loop : entryFor table "dict.update.loop" = some Builtin.«dict.update.loop» := entryFor_of_tree (by kernel_rfl)
theorem plain_dict_update_loop : plainId "dict.update.loop" = true := by decide +kernel

noncomputable def pairD (q : Int × PyData) : PyData := .tuple [.int q.1, q.2]
noncomputable def dictOfW (d : PyData) (K : PyData → Prop) : Prop :=
  match d with
  | .list xs => ∃ kds : List (Int × PyData), xs = kds.map pairD ∧ (kds.map (·.1)).Nodup ∧ kds.length ≤ lim ∧ K (.dict (kds.map fun q => (.int q.1, q.2)))
  | _ => False

section
variable {c : Cx} {l : Nat} {nm : Names} {pe : PEnv} {A : Around} {s : Shared} {X : Addr → Prop}

theorem stored_new {ks : List (Int × Value)} {k : Int} {v : Value} (h : k ∉ ks.map (·.1)) : stored ks k v = ks ++ [(k, v)] := by
  unfold stored
  rw [if_neg]
  intro hany
  obtain ⟨q, hq, he⟩ := List.any_eq_true.mp hany
  exact h (List.mem_map.mpr ⟨q, hq, of_decide_eq_true he⟩)

theorem dict_loop {R : Result → Shared → Prop} {I D : Addr} {kds : List (Int × PyData)} {fp : List Addr} {P : Nat → Value → Prop} {St : Nat → Heap → Prop} (W : Walks c.prog c.w A.in1 I fp [I] kds.length P St) (hD : D ∉ fp) (hDI : D ≠ I)
    (hn : (kds.map (·.1)).Nodup) (hl : kds.length ≤ lim) (s₂ : Shared)
    (hP : ∀ i v, i < kds.length → P i v → ∃ d, (kds.map pairD)[i]? = some d ∧ Rep c.prog c.w s₂.heap (fun b => (X b ∨ b = D) ∨ b = I) v d) :
    ∀ (k i : Nat) (s : Shared) (kvs : List (Int × Value)), kds.length - i = k → i ≤ kds.length → St i s.heap → (∃ h t, s = { s₂ with heap := h, toks := t }) → (∀ b o, b ≠ I → b ≠ D → s₂.heap.get? b = some o → s.heap.get? b = some o) →
      s.heap.DictOf (intKind c.prog c.w) D kvs → RepKV c.prog c.w s.heap (fun b => (X b ∨ b = D) ∨ b = I) (kvs.map fun q => (.int q.1, q.2)) ((kds.take i).map fun q => (.int q.1, q.2)) →
      (∀ s' kvs, (∃ h t, s' = { s₂ with heap := h, toks := t }) → (∀ b o, b ≠ I → b ≠ D → s₂.heap.get? b = some o → s'.heap.get? b = some o) →
        s'.heap.DictOf (intKind c.prog c.w) D kvs → RepKV c.prog c.w s'.heap (fun b => (X b ∨ b = D) ∨ b = I) (kvs.map fun q => (.int q.1, q.2)) (kds.map fun q => (.int q.1, q.2)) → R (.ok (.ret .none)) s') →
      codeAny (model c.prog c.w) A (.builtin "dict.update.loop" ⟨[.ref D, .ref I, rawInt i, .none], []⟩) R s := by
  intro k
  induction k with
  | zero =>
    intro i s kvs hk hi st sm kp hd rr hR
    obtain rfl : i = kds.length := by omega
    refine codeAny_builtin entry_dict_update_loop ?_
    rw [Around.under_plainId plain_dict_update_loop _]
    show wpAny _ A.in1 (pyNext (.ref I) >>= _) _ _ s
    refine wpAny_bind (W.done s _ _ st fun h' tk kp' => ?_)
    show wpAny _ A.in1 (Builtin.Dict.addKeywords D [] >>= _) _ _ _
    refine wpAny_bind (wpAny_pure (wpAny_pure (hR _ kvs ?_ (fun b o h1 h2 e => kp' b o (by simpa using h1) (kp b o h1 h2 e)) (hd.at fun o e => kp' D o (by simpa using hDI) e) ?_)))
    · obtain ⟨h1, t1, rfl⟩ := sm; exact ⟨_, _, rfl⟩
    · rw [List.take_length] at rr
      exact rr.mono fun b o hb e => ⟨hb, kp' b o (by simpa using fun q => hb (.inr q)) e⟩
  | succ k ih =>
    intro i s kvs hk hi st sm kp hd rr hR
    have hlt : i < kds.length := by omega
    refine codeAny_builtin entry_dict_update_loop ?_
    rw [Around.under_plainId plain_dict_update_loop _]
    show wpAny _ A.in1 (pyNext (.ref I) >>= _) _ _ s
    refine wpAny_bind (W.item i s _ _ hlt st fun v h' tk hPv st' kp' => ?_)
    obtain ⟨d, hd1, rv⟩ := hP i v hlt hPv
    have hq : kds[i]? = some kds[i] := by simp [hlt]
    rw [List.getElem?_map, hq] at hd1
    obtain rfl : pairD kds[i] = d := by simpa using hd1
    generalize hki : kds[i] = q at *
    obtain ⟨ki, di⟩ := q
    have kp2 : ∀ b o, b ≠ I → b ≠ D → s₂.heap.get? b = some o → h'.get? b = some o := fun b o h1 h2 e => kp' b o (by simpa using h1) (kp b o h1 h2 e)
    have rv' : Rep c.prog c.w h' (fun b => (X b ∨ b = D) ∨ b = I) v (.tuple [.int ki, di]) := rv.mono fun b o hb e => ⟨hb, kp2 b o (fun q => hb (.inr q)) (fun q => hb (.inl (.inr q))) e⟩
    cases rv' with | @tuple p vs n xs hp ht r =>
    obtain ⟨arr⟩ := vs
    cases r with | cons r1 r => cases r with | cons r2 r => cases r with | nil =>
    cases r1
    rename_i v2 t1
    have hd' : h'.DictOf (intKind c.prog c.w) D kvs := hd.at fun o e => kp' D o (by simpa using hDI) e
    have e1 := rr.length
    simp only [List.length_map, List.length_take] at e1
    have := lim_le
    have hkeys : kvs.map (·.1) = (kds.take i).map (·.1) := by
      have := rr.keys
      simp only [List.map_map, Function.comp_def] at this
      have h2 := congrArg (List.map fun d : PyData => match d with | .int j => j | _ => 0) this
      simpa [List.map_map, Function.comp_def] using h2
    have hnew : ki ∉ kvs.map (·.1) := by
      rw [hkeys]
      intro hm
      obtain ⟨q, hq1, hq2⟩ := List.mem_map.mp hm
      obtain ⟨j, hj, e⟩ := List.mem_iff_getElem.mp hq1
      simp only [List.length_take] at hj
      rw [List.getElem_take] at e
      have hne := List.pairwise_iff_getElem.mp hn j i (by simp; omega) (by simpa using hlt) (by omega)
      simp only [List.getElem_map, hki, e] at hne
      exact hne hq2
    show wpAny _ A.in1 (holding [.ref p] _ >>= _) _ _ _
    refine wpAny_bind (wpAny_holding (wpAny_bind (wpAny_tryCatch ?_)))
    show wpAny _ A.in1 (Builtin.Dict.pairItems (.ref p)) _ _ _
    unfold Builtin.Dict.pairItems
    have hT : ({ s with heap := h', toks := tk } : Shared).TypeIs (.ref p) "tuple" := ⟨_, ht, rfl⟩
    refine wpAny_bind (wpAny_typeOf hT ?_)
    rw [if_pos (by decide)]
    refine wpAny_bind (wpAny_seqItems ht rfl (wpAny_pure ?_))
    show wpAny _ A.in1 (holding _ (dictSet D (.int ki t1) v2)) _ _ _
    refine wpAny_holding (wpAny_dictSet_pairs (knd := intKind c.prog c.w) (k := ki) (by simp [intKind, Value.isInt]) hd' (fun h'' hd'' hs => ?_) (by omega))
    rw [stored_new hnew] at hd''
    refine wpAny_pure ⟨Code.quiet_builtin _ (by decide +kernel), ?_⟩
    refine ih (i + 1) _ (kvs ++ [(ki, v2)]) (by omega) (by omega) ?_ ?_ ?_ hd'' ?_ hR
    · exact W.frame _ _ _ st' fun b hb o e => (hs.2 b fun q => hD (q ▸ hb)).trans e
    · obtain ⟨h1, t1, rfl⟩ := sm; exact ⟨_, _, rfl⟩
    · exact fun b o h1 h2 e => (hs.2 b h2).trans (kp2 b o h1 h2 e)
    · have X1 : Ext (fun b => (X b ∨ b = D) ∨ b = I) h' (fun b => (X b ∨ b = D) ∨ b = I) h'' := fun b o hb e => ⟨hb, (hs.2 b fun q => hb (.inl (.inr q))).trans e⟩
      have X0 : Ext (fun b => (X b ∨ b = D) ∨ b = I) s.heap (fun b => (X b ∨ b = D) ∨ b = I) h'' := fun b o hb e => X1 b o hb (kp' b o (by simpa using fun q => hb (.inr q)) e)
      rw [List.take_add_one, hq]
      simpa using (rr.mono X0).append (.cons (k := .int ki) (r2.mono X1) .nil)

theorem EvF_dictOf {p pos} {e : Expr} {K : PyData → Prop} (gd : Gd c) (hk : nm.lookup ("dict" : Str) = some .globalImplicit) (hs : isStar e = false) (h : EvS c l nm pe e fun d => dictOfW d K) : EvF c l nm pe (.Call (.Name "dict" p) [e] [] pos) K := fun X env A s r i => by
  refine Call_ (evalBlt gd i (by decide) hk boot_dict ?_ (by decide))
  rw [starEach_plain hs]
  refine PySem.callWith_type rfl (Calls.evalArgs_plain (Calls.spliced_cons (wpAny_mono (h X env A s r i) (fun v s₁ p => Calls.spliced_nil ?_) fun _ _ f => f)))
  obtain ⟨g, d, hd, rd⟩ := p
  have i1 := (i.grow g).toSInv
  show wpAny _ A (call (.type "dict") [v]) _ _ s₁
  unfold dictOfW at hd; split at hd
  · obtain ⟨kds, rfl, hn, hl, hK⟩ := hd
    cases rd with | @list a vs n xs hx hL rr =>
    refine callType_codes (Q₁ := fun obj s' => obj = .ref s₁.heap.objs.size ∧ s' = { s₁ with heap := s₁.heap.push { cls := .type "dict", data := .dict #[] } }) F.kt_called_dict (F.kt_typeCall_dict_1 _) F.entry_dict_init (kt_code_dict_new _ ⟨rfl, rfl⟩) ?_
    rintro obj s₂ ⟨rfl, rfl⟩
    have hnew : (s₁.heap.push { cls := .type "dict", data := .dict #[] }).DictOf (intKind c.prog c.w) s₁.heap.objs.size [] := Heap.DictOf.new s₁.heap
    have g1 : Gr s₁ { s₁ with heap := s₁.heap.push { cls := .type "dict", data := .dict #[] } } := .push ..
    refine ⟨hnew.typeIs, F.args_dict_init_2 _ _, ?_⟩
    unfold Builtin.«dict.__init__»
    refine wpAny_bind ?_
    unfold Builtin.Dict.selfAndRest
    refine wpAny_bind (wpAny_notOrdered_dict hnew.typeIs ?_)
    show wpAny _ _ (pure (s₁.heap.objs.size, [Value.ref a])) _ _ _
    refine wpAny_pure ?_
    show wpAny _ _ (Builtin.Dict.updateFrom "dict.__init__" s₁.heap.objs.size (.ref a) [] .none) _ _ _
    unfold Builtin.Dict.updateFrom
    have hLp := hL.push { cls := .type "dict", data := .dict #[] }
    refine wpAny_bind (wpAny_typeOf hLp.isList.typeIs ?_)
    rw [if_pos (by decide)]
    refine wpAny_bind (miss_keys hLp r.hd fun h' tk kp => ?_)
    show wpAny _ _ (rule _ >>= _) _ _ _
    refine wpAny_bind (wpAny_rule ?_)
    have g2 : Gr { s₁ with heap := s₁.heap.push { cls := .type "dict", data := .dict #[] } } { s₁ with heap := h', toks := tk } := ⟨⟨_, _, rfl⟩, kp⟩
    have r2 : Rep c.prog c.w h' (fun b => X b ∨ b = s₁.heap.objs.size) (.ref a) (.list (kds.map pairD)) := Rep.mono (h' := h') (Ext.more (fun b o e => (g1.trans g2).keep b o e) fun b q => q.imp id fun e => by subst e; exact fresh_addr s₁) (.list hx hL rr)
    refine wpAny_bind (wpAny_mono (iterW_sound (K := fun ds => ds = kds.map pairD) (A := A.in1.in1) (s := { s₁ with heap := h', toks := tk }) (X := fun b => X b ∨ b = s₁.heap.objs.size) (by exact rfl) r.hd r2) (fun it s₃ p => ?_) fun _ _ f => f.elim)
    obtain ⟨g3, I, ds, rfl, rfl, hIn, fp, P, St, W, st0, hfp, hpl, hrep⟩ := p
    refine wpAny_pure ⟨Code.quiet_builtin _ (by decide +kernel), ?_⟩
    have hdnew : s₃.heap.DictOf (intKind c.prog c.w) s₁.heap.objs.size [] := hnew.at fun o e => g3.keep _ o (kp _ o e)
    have hDI : s₁.heap.objs.size ≠ I := fun e => by
      obtain ⟨o, _, _, ho, _⟩ := hnew
      rw [← e, kp _ o ho] at hIn; cases hIn
    have hDf : s₁.heap.objs.size ∉ fp := fun q => (hfp _ q hDI).1 (.inr rfl)
    rw [List.length_map] at W
    have g13 : Gr s₁ s₃ := g1.trans (g2.trans g3)
    refine dict_loop W hDf hDI hn hl s₃ (X := X) (fun i v hi hv => hrep i v (by simpa using hi) hv) kds.length 0 s₃ [] (by omega) (by omega) st0 ⟨s₃.heap, s₃.toks, rfl⟩ (fun _ _ _ _ e => e) hdnew .nil fun s₄ kvs sm kp4 hd4 rk4 => ?_
    refine ⟨rfl, ?_⟩
    have g14 : Gr s₁ s₄ := by
      refine ⟨?_, fun b o e => kp4 b o (fun q => ?_) (fun q => ?_) (g13.keep b o e)⟩
      · obtain ⟨h1, t1, e1⟩ := g13.same
        obtain ⟨h2, t2, e2⟩ := sm
        rw [e2, e1]; exact ⟨_, _, rfl⟩
      · subst q; rw [(g1.trans g2).keep b o e] at hIn; cases hIn
      · subst q; rw [fresh_addr] at e; cases e
    refine PostF.of g ⟨g14, _, _, hK, rfl, fresh_addr s₁, _, ⟨notSys gd i1, .inl ⟨kvs, rfl, hd4⟩⟩, rk4.mono (Ext.sub fun b q => .inl q)⟩
  · exact hd.elim
end
end Mine
end

section
set_option linter.unusedVariables false
set_option maxRecDepth 100000
namespace Mine
open PySem PyProof.Rows

noncomputable def itemsW (d : PyData) (K : PyData → Prop) : Prop :=
  match d with
  | .dict kds => ∃ ks : List (Int × PyData), kds = ks.map (fun q => (.int q.1, q.2)) ∧ ks.length ≤ lim ∧ K (.list (ks.map pairD))
  | _ => False

section
variable {c : Cx} {l : Nat} {nm : Names} {pe : PEnv} {A : Around} {s : Shared} {X : Addr → Prop}

theorem items_rep {h' : Heap} : ∀ (ks : List (Int × PyData)) (kvs : List (Int × Value)) (as : List Addr), RepKV c.prog c.w h' X (kvs.map fun q => (.int q.1, q.2)) (ks.map fun q => (.int q.1, q.2)) → as.length = kvs.length →
    (∀ (j : Nat) (a : Addr), as[j]? = some a → ∃ key k x, kvs[j]? = some (k, x) ∧ (intKind c.prog c.w).is k key = true ∧ h'.get? a = some { cls := .type "tuple", data := .seq #[key, x] }) →
    (∀ a ∈ as, ¬ X a) → RepAll c.prog c.w h' X (as.map Value.ref) (ks.map pairD)
  | [], [], [], _, _, _, _ => .nil
  | [], _ :: _, _, r, _, _, _ => by cases r
  | _ :: _, [], _, r, _, _, _ => by cases r
  | _, [], _ :: _, _, e, _, _ => by simp at e
  | _ :: _, _ :: _, [], _, e, _, _ => by simp at e
  | (k, d) :: ks, (k', x) :: kvs, a :: as, r, e, hp, hx => by
    rw [List.map_cons, List.map_cons] at r
    have hk : k' = k := by have := r.keys; simp at this; exact this.1
    subst hk
    cases r with
    | cons rv r =>
      obtain ⟨key, k2, x2, e1, e2, e3⟩ := hp 0 a rfl
      simp at e1
      obtain ⟨rfl, rfl⟩ := e1
      obtain ⟨t, rfl⟩ := Value.isInt_shape e2
      exact .cons (.tuple (hx a (.head _)) e3 (.cons (.int ..) (.cons rv .nil))) (items_rep ks kvs as r (by simpa using e) (fun j b hb => by simpa using hp (j + 1) b (by simpa using hb)) fun b hb => hx b (.tail _ hb))

theorem EvF_items {o : Expr} {p apos cpos pos} {K : PyData → Prop} (gd : Gd c) (hk : nm.lookup ("list" : Str) = some .globalImplicit) (hb : plainBase o = true) (hl : (apos.endLine == cpos.line) = true) (h : EvS c l nm pe o fun d => itemsW d K) :
    EvF c l nm pe (.Call (.Name "list" p) [.Call (.Attribute o "items" apos) [] [] cpos] [] pos) K := fun X env A s r i => by
  refine Call_ (evalBlt gd i (by decide) hk boot_list ?_ (by decide))
  rw [starEach_plain rfl]
  refine PySem.callWith_type rfl (Calls.evalArgs_plain (Calls.spliced_cons ?_))
  refine wpAny_Call_method (T := "dict") (id := "dict.items") (base_plain hb _ _) rfl hl PySem.F.plainAttrs_dict PySem.F.slot_dict_items PySem.F.type_dict_items (wpAny_mono (h X env A s r i) (fun v s₁ p => ?_) fun _ _ f => f)
  obtain ⟨g, d, hd, rd⟩ := p
  unfold itemsW at hd; split at hd
  · obtain ⟨ks, rfl, hlen, hK⟩ := hd
    cases rd with | @dict a kvs' _ hx hdp rr =>
    have hko : kindOk (ks.map fun q => ((.int q.1, q.2) : PyData × PyData)) (.int 0) := fun q hq => by obtain ⟨z, _, rfl⟩ := List.mem_map.mp hq; trivial
    obtain ⟨kvs, rfl, hD⟩ := hdp.ints rr hko
    refine ⟨hD.typeIs, hD.mapOf.noDict, ?_⟩
    refine Calls.callWith_builtin rfl (PyProof.Rows.evalArgs_none ?_)
    refine call_meetsIn PySem.F.slot_dict_items hD.typeIs PySem.F.entry_dict_items (PySem.F.args_dict_items_1 _) (meets_dict_items (intKind c.prog c.w) a hdp.1) ⟨⟨kvs, hD⟩, ?_⟩
    refine Calls.spliced_nil ?_
    have g1 : Gr s₁ { s₁ with heap := s₁.heap.push { cls := .type "dict_items", data := .fields #[.ref a] } } := .push ..
    obtain ⟨ep, hA⟩ := hD.dictAt
    have e1 := rr.length
    simp only [List.length_map] at e1
    have := lim_le
    show wpAny _ A (call (.type "list") [.ref s₁.heap.objs.size]) _ _ _
    refine PySem.W.kdx_call (knd := intKind c.prog c.w) (kvs := kvs) (ep := ep) r.hd ⟨_, newIt, rfl, rfl⟩ (hA.at' fun _ e => Heap.get?_push_of_some _ e) (by omega) fun h' tk acc cc as kp hL hlen' hG hacc => ?_
    refine PostF.of (g.trans g1) ?_
    refine ⟨⟨⟨_, _, rfl⟩, kp⟩, _, _, hK, rfl, fresh_addr { s₁ with heap := s₁.heap.push { cls := .type "dict_items", data := .fields #[.ref a] } }, acc, cc, hL, ?_⟩
    rw [hacc]
    have xa : ∀ b, X b → b < s₁.heap.objs.size := fun b q => by obtain ⟨_, ob, hob⟩ := (i.grow g).xa b q; exact Heap.lt_size hob
    refine items_rep ks kvs as (rr.mono (Ext.more (fun b o e => kp b o (g1.keep b o e)) fun b q => q.imp id fun e => by subst e; exact g1.none (fresh_addr _))) hlen' hG.pairs fun b hb q => ?_
    have hab := hG.above b hb
    rcases q with q | q
    · have h1 := xa b q
      simp only [Heap.size_push] at hab
      exact absurd (Nat.lt_trans (Nat.lt_of_succ_lt hab) h1) (Nat.lt_irrefl _)
    · subst q; exact absurd hab (Nat.lt_irrefl _)
  · exact hd.elim
end
end Mine
end

section
set_option linter.unusedVariables false
set_option maxRecDepth 100000
namespace Mine
open PySem PyProof.Rows

/-- a dict of ints against the empty dict -/
noncomputable def eqDW (a b : PyData) (K : Bool → Prop) : Prop :=
  match a, b with
  | .dict xs, .dict [] => kindOk xs (.int 0) ∧ K xs.isEmpty
  | _, _ => False
section
variable {c : Cx} {l : Nat} {nm : Names} {pe : PEnv} {A : Around} {s : Shared} {X : Addr → Prop}
theorem eqDW_sound {a b : PyData} {va vb : Value} {K : Bool → Prop} (h : eqDW a b K) (rm : Room l A) (ra : RepB c.prog c.w s.heap X va a) (rb : RepB c.prog c.w s.heap X vb b) :
    wpAny (model c.prog c.w) A (compareOp .Eq va vb) (PostC s K) noE s := by
  unfold eqDW at h; split at h
  · rename_i xs
    obtain ⟨x, es, rfl, hd, r⟩ := ra.dict
    obtain ⟨y, es', rfl, hd', r'⟩ := rb.dict
    obtain ⟨ks, rfl, hD⟩ := hd.ints r h.1
    obtain ⟨ks', rfl, hD'⟩ := hd'.ints (k := 0) r' fun q hq => by simp at hq
    have e1 := r.length
    have e2 := r'.length
    simp only [List.length_map, List.length_nil] at e1 e2
    have e3 : ks' = [] := List.eq_nil_of_length_eq_zero e2
    subst e3
    refine PySem.W.keq_eq (r := true) hd.1 hd'.1 hD hD' (by have := rm.un; omega) (fun e => ?_) ⟨.refl .., _, h.2, ?_⟩
    · have : ks = [] := List.eq_nil_of_length_eq_zero e
      subst this; exact .nil
    · cases xs with
      | nil => simp at e1; subst e1; rfl
      | cons q t => cases ks with
        | nil => simp at e1
        | cons => rfl
  · exact h.elim
theorem EvT_eqD {e1 : Expr} {pos pos'} {K : Bool → Prop} (h : EvB c l nm pe e1 fun a => EvB c l nm pe (.Dict [] [] pos') fun b => eqDW a b K) :
    EvT c l nm pe (.Compare e1 [.Eq] [.Dict [] [] pos'] pos) K :=
  fun X env A s r i => wpAny_isTrue_Compare1 (by
    refine wpAny_mono (h X env A s r i) (fun va s₁ p => ?_) fun _ _ f => f
    obtain ⟨g1, a, ha, ra⟩ := p
    refine wpAny_mono (ha X env A s₁ r (i.grow g1)) (fun vb s₂ p => ?_) fun _ _ f => f
    obtain ⟨g2, b, hb, rb⟩ := p
    refine wpAny_mono (eqDW_sound hb r (ra.mono g2.keep) rb) (fun v s₃ p => ?_) fun _ _ f => f
    obtain ⟨g3, b, hb, rfl⟩ := p
    exact wpAny_truthy_bool ⟨g1.trans (g2.trans g3), hb⟩) rfl
end
end Mine
end

section
set_option linter.unusedVariables false
set_option maxRecDepth 100000
namespace Mine
open PySem PyProof.Rows

noncomputable def lstW (a : PyData) (K : List PyData → Prop) : Prop :=
  match a with
  | .list xs => K xs
  | _ => False
noncomputable def indexW (xs : List PyData) (x : PyData) (K : PyData → Prop) : Prop :=
  (okD 20 (.list xs) ∧ okD 20 x ∧ xs.length ≤ lim) ∧ ∃ j : Nat, (∃ y, xs[j]? = some y ∧ PyData.eqv y x = true) ∧ (∀ m y, m < j → xs[m]? = some y → PyData.eqv y x = false) ∧ K (.int j)
section
variable {c : Cx} {l : Nat} {nm : Names} {pe : PEnv} {A : Around} {s : Shared} {X : Addr → Prop}
theorem EvS_index {o e : Expr} {apos pos} {K : PyData → Prop} (hb : plainBase o = true) (hs : isStar e = false) (hl : (apos.endLine == pos.line) = true) (h : EvS c l nm pe o fun a => lstW a fun xs => EvS c l nm pe e fun x => indexW xs x K) :
    EvS c l nm pe (.Call (.Attribute o "index" apos) [e] [] pos) K := fun X env A s r i => by
  refine wpAny_Call_method (T := "list") (id := "list.index") (base_plain hb _ _) (by rw [starEach_plain hs]; rfl) hl PySem.F.plainAttrs_list PySem.F.slot_list_index PySem.F.type_list_index (wpAny_mono (h X env A s r i) (fun v s₁ p => ?_) fun _ _ f => f)
  obtain ⟨g, d, hd, rd⟩ := p
  unfold lstW at hd; split at hd
  · rename_i xs
    cases rd with | @list a vs n _ hx hL rr =>
    refine ⟨⟨_, hL, rfl⟩, fun b q => by injection q with q; subst q; exact ⟨_, hL, rfl⟩, ?_⟩
    rw [starEach_plain hs]
    refine seqMethod1_meets PySem.F.slot_list_index PySem.F.entry_list_index (wpAny_mono (hd X env A s₁ r (i.grow g)) (fun v s₂ p => ?_) fun _ _ f => f)
    obtain ⟨g2, x, ⟨⟨o1, o2, hlen⟩, j, ⟨y, hy1, hy2⟩, hno, hK⟩, rx⟩ := p
    have hL2 : IsL s₂.heap a vs n := g2.keep _ _ hL
    have r1 := rr.mono (Ext.keep (X := X) g2.keep)
    have c1 := okD.can _ _ o1
    have c2 := okD.can _ _ o2
    have c1' : PyData.canLayAll0 xs = true := by simpa [PyData.canLay0] using c1.1
    obtain ⟨as, q1⟩ := r1.reads c1'
    obtain ⟨bs, q2⟩ := rx.reads c2.1
    have hun := r.un
    have hmap := SeqAt.readsAll_map _ _ _ c1' q1
    have e1 := r1.length
    simp only [Array.length_toList] at e1
    have hrd : ∀ m (hm : m < vs.size), xs[m]? = some (SeqAt.readOf s₂.heap vs[m]) := fun m hm => by
      rw [← hmap]; simp [hm]
    have hj : j < vs.size := by
      rcases Nat.lt_or_ge j xs.length with q | q
      · omega
      · rw [List.getElem?_eq_none q] at hy1; cases hy1
    refine ⟨⟨_, hL2, rfl⟩, PySem.F.args_list_index_2 _ _, _, SeqAt.list_indexAt a vs n none #[] v (fun y => PyData.eqv (SeqAt.readOf s₂.heap y) x) j hj (by simp only [lim] at hlen; omega) ?_ ?_, hL2, ?_, ?_⟩
    · have := hrd j hj
      rw [hy1] at this
      injection this with this
      rw [← this]; exact hy2
    · exact fun m hm hlt => hno m _ hlt (hrd m hm)
    · refine SeqAt.items_eqAt q1 q2 c1' c2.1 ?_
      have := c2.2
      have : min (PyData.depthAll xs) x.depth ≤ 20 := Nat.le_trans (Nat.min_le_right _ _) this
      omega
    · exact ⟨(g.trans g2).trans (.toks ..), _, hK, .int ..⟩
  · exact hd.elim
end
end Mine
end

section
set_option linter.unusedVariables false
set_option maxRecDepth 100000
namespace Mine
open PySem PyProof.Rows PySem.W

noncomputable def sortIW (d : PyData) (K : PyData → Prop) : Prop :=
  match d with
  | .list xs => ∃ ns : List Int, xs = ns.map .int ∧ ns.length < 64 ∧ ∀ ns' : List Int, ns'.Perm ns → ns'.Pairwise (· ≤ ·) → K (.list (ns'.map .int))
  | _ => False
noncomputable def pairI (q : Int × Int) : PyData := .tuple [.int q.1, .int q.2]
noncomputable def lexLe (p q : Int × Int) : Prop := p.1 < q.1 ∨ (p.1 = q.1 ∧ p.2 ≤ q.2)
noncomputable def sortPW (d : PyData) (K : PyData → Prop) : Prop :=
  match d with
  | .list xs => ∃ ps : List (Int × Int), xs = ps.map pairI ∧ ps.length < 64 ∧ ps.Pairwise lexLe ∧ K (.list xs)
  | _ => False

section
variable {c : Cx} {l : Nat} {nm : Names} {pe : PEnv} {A : Around} {s : Shared} {X : Addr → Prop} {K : PyData → Prop}
theorem RepAll.intsAre {p : Program} {w : World} {h : Heap} : ∀ {vs : List Value} {ns : List Int}, RepAll p w h X vs (ns.map .int) → IntsAre vs ns
  | _, [], r => by cases r; exact .nil
  | _, n :: ns, r => by cases r with | cons a r => cases a; exact .cons _ _ r.intsAre
theorem IntsAre.repAll {p : Program} {w : World} {h : Heap} : ∀ {vs : List Value} {ns : List Int}, IntsAre vs ns → RepAll p w h X vs (ns.map .int)
  | _, _, .nil => .nil
  | _, _, .cons n t r => .cons (.int n t) (IntsAre.repAll r)

theorem EvS_sortI {p pos} {e : Expr} (gd : Gd c) (hk : nm.lookup ("sorted" : Str) = some .globalImplicit) (hs : isStar e = false) (h : EvB c l nm pe e fun d => sortIW d K) : EvS c l nm pe (.Call (.Name "sorted" p) [e] [] pos) K :=
  call_blt1 gd boot_sorted (by decide) (by decide) hk hs h fun X A s v d r i rd hd => by
    unfold sortIW at hd; split at hd
    · obtain ⟨ns, rfl, hl, hK⟩ := hd
      obtain ⟨a, vs, n, rfl, hL, q⟩ := rd.list
      have e1 := q.length
      simp only [Array.length_toList, List.length_map] at e1
      refine sorted_ints (vs := vs.toList) (by simpa using hL.isList) q.intsAre (by simpa [e1] using hl) fun out ns' a1 a2 a3 => ?_
      obtain ⟨ep, hp⟩ := sortedAll_at s.heap vs.toList out
      refine ⟨⟨⟨_, _, rfl⟩, fun b o hb => sortedAll_old hb⟩, _, hK ns' a2 a3, .list (fun q => ?_) hp (IntsAre.repAll a1)⟩
      obtain ⟨_, o, ho⟩ := i.xa _ q
      exact absurd (Heap.lt_size ho) (Nat.not_lt.mpr (Nat.le_succ _))
    · exact hd.elim

theorem lt_pair {prog : Program} {w : World} {x y : Addr} {a b a' b' : Int} {t1 t2 t3 t4 : Tok} {n k : Nat} {Q : Bool → Shared → Prop} {E : Value → Shared → Prop} (hx : IsT s.heap x #[.int a t1, .int b t2] n) (hy : IsT s.heap y #[.int a' t3, .int b' t4] k)
    (hle : lexLe (a', b') (a, b)) (h : Q false s) : wpAny (model prog w) A (keyLt' (tuples' true) (.ref x) (.ref y)) Q E s := by
  refine kat_lt hx rfl hy rfl (kat_cons (wpAny_eqBool_int ?_))
  refine kat_go (fun e => kat_yes (kat_cons (wpAny_eqBool_int ?_))) fun e => kat_no ?_
  · refine kat_go (fun e2 => kat_yes (kat_nil h)) fun e2 => kat_no (kat_one _ _ (wpAny_lt_int ?_))
    have h1 : a = a' := by simpa using e
    have : ¬ (b < b') := by rcases hle with q | q <;> simp only at q <;> omega
    show Q (decide (b < b')) s
    rw [decide_eq_false this]; exact h
  · have h1 : a ≠ a' := by simpa using e
    have : ¬ (a < a') := by rcases hle with q | q <;> simp only at q <;> omega
    refine oneLt_int ?_
    rw [decide_eq_false this]; exact h

theorem asc_all {cmp : Nat → Nat → (Bool → Shared → Prop) → Shared → Prop} {p : Array Nat} : ∀ (f n : Nat) {Q : Nat → Shared → Prop}, (∀ i C, n ≤ i → i < n + f → C false s → cmp (p.getD i 0) (p.getD (i - 1) 0) C s) → Q (n + f) s → (kas_asc p f n).kasWp cmp Q s
  | 0, n, Q, _, h => h
  | f + 1, n, Q, hc, h => by
    show cmp _ _ _ s
    refine hc n _ (Nat.le_refl _) (by omega) ?_
    show KasT.kasWp cmp (if false = true then KasT.ret n else kas_asc p f (n + 1)) Q s
    rw [if_neg (by simp)]
    exact asc_all f (n + 1) (fun i C h1 h2 => hc i C (by omega) (by omega)) (by rw [show n + 1 + f = n + (f + 1) by omega]; exact h)
theorem sort_all {cmp : Nat → Nat → (Bool → Shared → Prop) → Shared → Prop} {N : Nat} {Q : Array Nat → Shared → Prop} (h1 : 1 ≤ N) (hc : ∀ i C, 1 ≤ i → i < N → C false s → cmp i (i - 1) C s) (h : Q (List.range N).toArray s) : (kas_sort N).kasWp cmp Q s := by
  unfold kas_sort
  rw [KasT.kasWp_bind]
  unfold kas_count
  rw [KasT.kasWp_bind]
  refine asc_all _ _ (fun i C h2 h3 h4 => ?_) ?_
  · have e1 : (List.range N).toArray.getD i 0 = i := by simp [Array.getD]; omega
    have e2 : (List.range N).toArray.getD (i - 1) 0 = i - 1 := by simp [Array.getD]; omega
    rw [e1, e2]; exact hc i C h2 (by omega) h4
  · rw [if_pos (by simp; omega)]
    show (if 1 + (N - 1) < N then _ else KasT.ret (List.range N).toArray).kasWp cmp Q s
    rw [if_neg (by omega)]; exact h

theorem list_sort_same {prog : Program} {w : World} {a : Addr} {vs : List Value} {n : Nat} {P : PySem.Fin → Shared → Prop} {E : Value → Shared → Prop} {κ : SortKind} (ho : s.heap.get? a = some (seqObj "list" vs.toArray n)) (h64 : vs.length < 64)
    (hk : 2 ≤ vs.length → ∀ s' : Shared, (∀ b o, b ≠ a → s.heap.get? b = some o → s'.heap.get? b = some o) → (∀ Q : SortKind → Shared → Prop, Q κ s' → wpAny (model prog w) A (keyKind' vs.toArray) Q (fun _ _ => False) s') ∧
      ∀ i C, 1 ≤ i → i < vs.length → C false s' → wpAny (model prog w) A (keyLt' κ (vs.getD i Value.none) (vs.getD (i - 1) Value.none)) C (fun _ _ => False) s')
    (h : P (.done (.ret .none)) { s with heap := sortedHeap s.heap a vs vs.toArray }) :
    wpAny (model prog w) A (Builtin.«list.sort» ⟨[.ref a], []⟩) P E s := by
  rw [list_sort_plain]
  have ha : a < s.heap.objs.size := Heap.lt_size ho
  refine wpAny_bind (listItems_at ho rfl ?_)
  refine wpAny_bind (listUpdate_at ho rfl ?_)
  obtain ⟨e1, ho1⟩ : ∃ e1, (s.heap.update a (Obj.mapSeq fun _ => #[])).get? a = some (seqObj "list" #[] e1) := ⟨_, get?_update_seq ho (fun _ => #[])⟩
  refine wpAny_bind (seqEpoch_at ho1 rfl ?_)
  refine wpAny_bind (wpAny_newTuple ?_)
  refine wpAny_bind (wpAny_newList ?_)
  refine wpAny_holding ?_
  have ho6 : (((s.heap.update a (Obj.mapSeq fun _ => #[])).push (seqObj "tuple" vs.toArray 0)).push (seqObj "list" #[] 0)).get? a = some (seqObj "list" #[] e1) := by
    rw [Heap.get?_push_ne _ _ _ (by rw [size_push', Heap.size_update]; exact Nat.ne_of_lt (Nat.lt_succ_of_lt ha)), Heap.get?_push_ne _ _ _ (by rw [Heap.size_update]; exact Nat.ne_of_lt ha)]
    exact ho1
  show wpAny (model prog w) A _ P E { s with heap := ((s.heap.update a (Obj.mapSeq fun _ => #[])).push (seqObj "tuple" vs.toArray 0)).push (seqObj "list" #[] 0) }
  have kp : ∀ b o, b ≠ a → s.heap.get? b = some o → (((s.heap.update a (Obj.mapSeq fun _ => #[])).push (seqObj "tuple" vs.toArray 0)).push (seqObj "list" #[] 0)).get? b = some o := fun b o hb e =>
    Heap.get?_push_of_some _ (Heap.get?_push_of_some _ ((Heap.SameBut.update s.heap a _).2 b hb |>.trans e))
  dsimp only
  have hsz : vs.toArray.size = vs.length := by simp
  by_cases h2 : vs.toArray.size < 2
  · rw [if_pos h2, if_pos h2]
    refine wpAny_bind (wpAny_pure ?_)
    rw [StateT.run_pure]
    refine wpAny_bind (wpAny_pure ?_)
    dsimp only
    refine wpAny_bind (seqEpoch_at ho6 rfl ?_)
    refine wpAny_bind (listUpdate_at ho6 rfl ?_ (hsz2 := by rw [Array.size_map]; show (pairsOf vs).size ≤ _; rw [pairsOf_size, sizeLine_eq]; omega))
    simp only [bne_self_eq_false, Bool.false_eq_true, if_false]
    refine wpAny_pure ?_
    have e : Array.map (·.2) (arrOf (SortSt.mk' general' (vs.toArray.zip vs.toArray) #[] 7 none)) = vs.toArray := by
      show Array.map (·.2) (vs.toArray.zip vs.toArray) = _
      rw [Array.map_snd_zip]; simp
    rw [e]; exact h
  · rw [if_neg h2, if_neg h2]
    have h2' : 2 ≤ vs.length := by omega
    obtain ⟨k1, k2⟩ := hk h2' { s with heap := ((s.heap.update a (Obj.mapSeq fun _ => #[])).push (seqObj "tuple" vs.toArray 0)).push (seqObj "list" #[] 0) } kp
    refine wpAny_bind (wpAny_mono (k1 (fun κ' s' => κ' = κ ∧ s' = _) ⟨rfl, rfl⟩) (fun κ' s' hq => ?_) fun _ _ x => x.elim)
    obtain ⟨rfl, rfl⟩ := hq
    refine wpAny_bind (wpAny_mono (kat_run (ks := vs) (vs := vs) (Q := fun st' s' => (arrOf st').map (·.2) = vs.toArray ∧ failedOf st' = none ∧ s' = { s with heap := ((s.heap.update a (Obj.mapSeq fun _ => #[])).push (seqObj "tuple" vs.toArray 0)).push (seqObj "list" #[] 0) })
      (G := fun p s' => p = (List.range vs.length).toArray ∧ s' = { s with heap := ((s.heap.update a (Obj.mapSeq fun _ => #[])).push (seqObj "tuple" vs.toArray 0)).push (seqObj "list" #[] 0) }) rfl h2' h64 (fun p st' s' a1 a2 a3 a4 => ?_) (sort_all (by omega) (fun i C x1 x2 x3 => k2 i C x1 x2 x3) ⟨rfl, rfl⟩)) ?_ fun _ _ e => e)
    · refine ⟨?_, a3, a4.2⟩
      rw [kat_snds rfl a2, a4.1]
      congr 1
      refine List.ext_getElem (by simp) fun i h1 h2 => ?_
      simp at h1 ⊢
      simp [h1]
    rintro ⟨⟨⟩, st'⟩ s' ⟨hp, hf, rfl⟩
    dsimp only
    refine wpAny_bind (seqEpoch_at ho6 rfl ?_)
    rw [hp]
    refine wpAny_bind (listUpdate_at ho6 rfl ?_ (hsz2 := by rw [hsz, sizeLine_eq]; omega))
    rw [hf]
    simp only [bne_self_eq_false, Bool.false_eq_true, if_false]
    exact wpAny_pure h

theorem sorted_same {prog : Program} {w : World} {l : Addr} {vs : List Value} {Q : Value → Shared → Prop} {E : Value → Shared → Prop} {κ : SortKind} (hl : s.heap.IsList l vs.toArray) (h64 : vs.length < 64)
    (hk : 2 ≤ vs.length → ∀ s' : Shared, (∀ b o, s.heap.get? b = some o → s'.heap.get? b = some o) → (∀ Q : SortKind → Shared → Prop, Q κ s' → wpAny (model prog w) A.in1.in1 (keyKind' vs.toArray) Q (fun _ _ => False) s') ∧
      ∀ i C, 1 ≤ i → i < vs.length → C false s' → wpAny (model prog w) A.in1.in1 (keyLt' κ (vs.getD i Value.none) (vs.getD (i - 1) Value.none)) C (fun _ _ => False) s')
    (h : Q (.ref (s.heap.objs.size + 1)) { s with heap := sortedAll s.heap vs vs.toArray }) :
    wpAny (model prog w) A (call (.builtin "sorted") [.ref l]) Q E s := by
  refine Calls.call_function_entry kind_sorted plain_sorted entry_sorted (args_sorted1 _) ?_
  unfold Builtin.«sorted»
  refine wpAny_bind (m := checkCount "sorted" 1 1 _) (wpAny_pure ?_)
  refine wpAny_bind (collect_list hl ?_)
  refine wpAny_bind (wpAny_newList ?_)
  have hsz : ((s.heap.push (seqObj "list" #[] 0)).update s.heap.objs.size (Obj.mapSeq (· ++ vs.toArray))).objs.size = s.heap.objs.size + 1 := by
    rw [Heap.size_update, size_push']
  have hoL : (((s.heap.push (seqObj "list" #[] 0)).update s.heap.objs.size (Obj.mapSeq (· ++ vs.toArray))).push (seqObj "list" vs.toArray 0)).get? (s.heap.objs.size + 1) = some (seqObj "list" vs.toArray 0) := by
    rw [← hsz]; exact Heap.get?_push_size _ rfl
  have keep : ∀ b o, s.heap.get? b = some o → (((s.heap.push (seqObj "list" #[] 0)).update s.heap.objs.size (Obj.mapSeq (· ++ vs.toArray))).push (seqObj "list" vs.toArray 0)).get? b = some o := fun b o q => by
    have hlt : b < s.heap.objs.size := Heap.lt_size q
    rw [Heap.get?_push_ne _ _ _ (by rw [hsz]; exact Nat.ne_of_lt (Nat.lt_succ_of_lt hlt)), Heap.get?_update_ne _ _ _ _ (Nat.ne_of_lt hlt), Heap.get?_push_ne _ _ _ (Nat.ne_of_lt hlt)]
    exact q
  show wpAny _ _ _ _ _ { s with heap := ((s.heap.push (seqObj "list" #[] 0)).update s.heap.objs.size (Obj.mapSeq (· ++ vs.toArray))).push (seqObj "list" vs.toArray 0) }
  rw [hsz]
  refine wpAny_bind (wpAny_holding (wpAny_call_entry slot_list_sort ⟨_, hoL, rfl⟩ entry_list_sort (list_sort_same hoL h64 (fun h2 s' kp => hk h2 s' fun b o e => kp b o (Nat.ne_of_lt (Nat.lt_succ_of_lt (Heap.lt_size e))) (keep b o e)) ⟨_, rfl, ?_⟩) (args_list_sort _)))
  exact wpAny_pure ⟨_, rfl, h⟩

theorem RepAll.katTups {p : Program} {w : World} {h : Heap} : ∀ {vs : List Value} {ps : List (Int × Int)}, RepAll p w h X vs (ps.map pairI) → ∃ fs : List Value, KatTups h vs fs ∧ fs.length = ps.length ∧ ∀ v ∈ fs, ∃ i t, v = .int i t
  | _, [], r => by cases r; exact ⟨[], trivial, rfl, fun _ h => nomatch h⟩
  | _, (a, b) :: ps, r => by
    cases r with | cons r1 r =>
    obtain ⟨fs, h1, h2, h3⟩ := r.katTups
    cases r1 with | @tuple x vs n _ hx ht q =>
    obtain ⟨arr⟩ := vs
    cases q with | cons q1 q => cases q with | cons q2 q => cases q with | nil =>
    cases q1; cases q2
    refine ⟨_, KatTups.cons ht rfl rfl rfl h1, by simp [h2], fun v hv => ?_⟩
    rcases List.mem_cons.mp hv with rfl | hv
    · exact ⟨_, _, rfl⟩
    · exact h3 v hv
theorem RepAll.pairAt {p : Program} {w : World} {h : Heap} {vs : List Value} {ps : List (Int × Int)} (r : RepAll p w h X vs (ps.map pairI)) {i : Nat} {q : Int × Int} (hq : ps[i]? = some q) : ∃ x n t1 t2, vs[i]? = some (.ref x) ∧ IsT h x #[.int q.1 t1, .int q.2 t2] n := by
  obtain ⟨v, hv, rv⟩ := r.get i (d := pairI q) (by simp [hq])
  cases rv with | @tuple x vs n _ hx ht q =>
  obtain ⟨arr⟩ := vs
  cases q with | cons q1 q => cases q with | cons q2 q => cases q with | nil =>
  cases q1; cases q2
  exact ⟨x, n, _, _, hv, ht⟩

theorem EvS_sortP {p pos} {e : Expr} (gd : Gd c) (hk : nm.lookup ("sorted" : Str) = some .globalImplicit) (hs : isStar e = false) (h : EvB c l nm pe e fun d => sortPW d K) : EvS c l nm pe (.Call (.Name "sorted" p) [e] [] pos) K :=
  call_blt1 gd boot_sorted (by decide) (by decide) hk hs h fun X A s v d r i rd hd => by
    unfold sortPW at hd; split at hd
    · obtain ⟨ps, rfl, hl, hso, hK⟩ := hd
      obtain ⟨a, vs, n, rfl, hL, q⟩ := rd.list
      have e1 := q.length
      simp only [Array.length_toList, List.length_map] at e1
      refine sorted_same (κ := tuples' true) (vs := vs.toList) (by simpa using hL.isList) (by simpa [e1] using hl) (fun h2 s' kp => ⟨fun Q hQ => ?_, fun j C h1 hj hC => ?_⟩) ?_
      · obtain ⟨fs, t1, t2, t3⟩ := (q.mono (Ext.keep kp)).katTups
        have hne : 0 < fs.length := by simp at h2; omega
        refine kat_kind (T := .type "int") t1 hne (fun v hv => ?_) rfl hQ
        obtain ⟨i, t, rfl⟩ := t3 v hv
        intro A' Q' E' s'' k' hq'
        exact wpAny_typeOf (T := "int") (by exact rfl) hq'
      · have hj' : j < ps.length := by simp at hj; omega
        obtain ⟨x, n1, t1, t2, hx, ht⟩ := (q.mono (Ext.keep kp)).pairAt (i := j) (q := ps[j]) (by simp [hj'])
        obtain ⟨y, n2, t3, t4, hy, ht'⟩ := (q.mono (Ext.keep kp)).pairAt (i := j - 1) (q := ps[j - 1]'(by omega)) (by simp)
        have ex : vs.toList.getD j Value.none = .ref x := by rw [List.getD_eq_getElem?_getD, hx]; rfl
        have ey : vs.toList.getD (j - 1) Value.none = .ref y := by rw [List.getD_eq_getElem?_getD, hy]; rfl
        rw [ex, ey]
        exact lt_pair ht ht' (List.pairwise_iff_getElem.mp hso (j - 1) j (by omega) hj' (by omega)) hC
      · obtain ⟨ep, hp⟩ := sortedAll_at s.heap vs.toList vs.toList.toArray
        refine ⟨⟨⟨_, _, rfl⟩, fun b o hb => sortedAll_old hb⟩, _, hK, .list (fun q => ?_) hp ?_⟩
        · obtain ⟨_, o, ho⟩ := i.xa _ q
          exact absurd (Heap.lt_size ho) (Nat.not_lt.mpr (Nat.le_succ _))
        · simpa using q.mono (Ext.keep fun b o hb => sortedAll_old hb)
    · exact hd.elim
end
end Mine
end

section
set_option linter.unusedVariables false
set_option maxRecDepth 100000
namespace Mine
open PySem PyProof.Rows

noncomputable def fnM (n : Nat) : Names := match fnS n with | some s => s.names | none => []
/-- what all calls stand on -/
structure Pg (c : Cx) : Prop where
  gd : Gd c
  fn : ∀ n s, fnS n = some s → FnAt c (fnT n) (fnP n) (fnB n) s
  G : c.G = tabG

section
variable {c : Cx} {l : Nat}
theorem Pg.addr (pg : Pg c) (n : Nat) {f : Str} (hs : (fnS n).isSome = true) (hf : fnT n = f) : ∃ a o fd, c.mg f = some (.ref a) ∧ c.h₀.get? a = some o ∧ o.data = .func fd := by
  obtain ⟨s, hs⟩ := Option.isSome_iff_exists.mp hs
  obtain ⟨a, o, pm, cd, doc, h1, h2, h3, h4⟩ := pg.fn n s hs
  exact ⟨a, o, _, by rw [← hf]; exact h1, h2, h3⟩

noncomputable def scopeFits (s : Scope) (xs : List Str) : Bool :=
  s.isCoroutine == false && s.isGenerator == false && s.kind == .function && xs.all (fun x => s.names.lookup x == some .local || s.names.lookup x == some .cell)

theorem cellsFrom_acc : ∀ (names : List (Str × NameKind)) (n : Nat) (acc : List (Str × Addr)) (x : Str), (acc.lookup x).isSome = true → ((cellsFrom n names acc).lookup x).isSome = true
  | [], n, acc, x, h => h
  | (name, kind) :: r, n, acc, x, h => by
    rw [cellsFrom]; split
    · refine cellsFrom_acc r _ _ x ?_
      rw [List.lookup_cons]; split
      · rfl
      · exact h
    · exact cellsFrom_acc r _ _ x h
theorem cellsFrom_look : ∀ (names : List (Str × NameKind)) (n : Nat) (acc : List (Str × Addr)) (x : Str), names.lookup x = some .cell → ((cellsFrom n names acc).lookup x).isSome = true
  | [], n, acc, x, h => by simp at h
  | (name, kind) :: r, n, acc, x, h => by
    rw [List.lookup_cons] at h
    rw [cellsFrom]
    cases hx : x == name with
    | true =>
      rw [hx] at h
      simp at h
      subst h
      rw [if_pos (by rfl)]
      exact cellsFrom_acc r _ _ x (by rw [List.lookup_cons, hx]; rfl)
    | false =>
      rw [hx] at h
      split
      · exact cellsFrom_look r _ _ x h
      · exact cellsFrom_look r _ _ x h

theorem Pg.ok (pg : Pg c) (n : Nat) {s : Scope} {f : Str} {xs : List Str} {ds : List PyData} {K : PyData → Prop} (hs : fnS n = some s) (hf : fnT n = f) (hfit : scopeFits s xs = true) (hnd : xs.Nodup)
    (hbind : ∀ (pm cd doc : Value) (vs : List Value), vs.length = xs.length → bindArgs (Calls.docDef (fnT n) (fnP n) (fnB n) s pm cd doc) ⟨vs, []⟩ = pure (xs.zip vs)) (hlen : ds.length = xs.length)
    (h : ExL c l s.names (fnB n) (bindPe xs ds) (retW K)) : CallOK c (l + 1) f ds K := by
  subst hf
  simp only [scopeFits, Bool.and_eq_true, beq_iff_eq, List.all_eq_true, Bool.or_eq_true] at hfit
  obtain ⟨⟨⟨h1, h2⟩, h3⟩, h4⟩ := hfit
  exact fn_sound pg.gd (pg.fn n s hs) hbind hlen hnd (fun x hx => (h4 x hx).imp id fun q => ⟨q, fun n => cellsFrom_look _ n _ x q⟩) (fun n x q => cellsFrom_look _ n _ x q) h1 h2 h3 h
end
end Mine
end

section
set_option linter.unusedVariables false
set_option maxRecDepth 100000
namespace Mine
open PySem PyProof.Rows

/-! short rules for the walk -/
theorem iteT {b : Bool} {P Q : Prop} (h : b = true) (p : P) : if b = true then P else Q := by rw [if_pos h]; exact p
theorem iteF {b : Bool} {P Q : Prop} (h : b = false) (p : Q) : if b = true then P else Q := by rw [if_neg (by simp [h])]; exact p
theorem iteD {c : Prop} [Decidable c] {P Q : Prop} (p : c → P) (q : ¬ c → Q) : if decide c = true then P else Q := by
  by_cases h : c
  · rw [if_pos (decide_eq_true h)]; exact p h
  · rw [if_neg (by simpa using h)]; exact q h
theorem iteN {c : Prop} [Decidable c] {P Q : Prop} (p : ¬ c → P) (q : c → Q) : if (!decide c) = true then P else Q := by
  by_cases h : c
  · rw [if_neg (by simpa using h)]; exact q h
  · rw [if_pos (by simpa using h)]; exact p h
theorem frz_of {pe : PEnv} {x : Str} {sl : Slot} (h : pe x = some sl) : pe.frz x = some ⟨sl.d, false⟩ := by unfold PEnv.frz; rw [h]; rfl
theorem kl {nm : Names} {x : Str} (h : nm.lookup x = some .local) : kindOK nm x := .inl h
theorem kc {nm : Names} {x : Str} (h : nm.lookup x = some .cell) : kindOK nm x := .inr h

theorem okS {x : Str} (h : PyData.strOk x = true) : (PyData.str x).canLay0 = true := by simpa [PyData.canLay0] using h
theorem eqv_int (x y : Int) : PyData.eqv (.int x) (.int y) = decide (x = y) := by simp only [PyData.eqv]; exact (Bool.beq_eq_decide_eq x y)
theorem eqv_str (x y : Str) : PyData.eqv (.str x) (.str y) = decide (x = y) := by
  simp only [PyData.eqv]
  by_cases h : x = y
  · subst h; simp
  · rw [decide_eq_false h]; simpa using h
section
variable {c : Cx} {l : Nat} {nm : Names} {rest : List Stmt} {K : Fl → PEnv → Prop} {pe : PEnv} {d : PyData} {P : PyData → Prop}
theorem tW_next (h : ExL c l nm rest pe K) : thenW c l nm rest K .next pe := h
theorem tW_ret (h : K (.ret d) pe) : thenW c l nm rest K (.ret d) pe := h
theorem tW_brk (h : K .brk pe) : thenW c l nm rest K .brk pe := h
theorem tW_cont (h : K .cont pe) : thenW c l nm rest K .cont pe := h
theorem rW_ret (h : P d) : retW P (.ret d) pe := h
theorem rW_next (h : P .none) : retW P .next pe := h
end
section
variable {K : PyData → Prop} {B : Bool → Prop}
theorem cI_eq {x y : Int} (h : B (decide (x = y))) : cmpW .Eq (.int x) (.int y) B := ⟨⟨trivial, trivial⟩, by rw [eqv_int]; exact h⟩
theorem cI_ne {x y : Int} (h : B (!decide (x = y))) : cmpW .NotEq (.int x) (.int y) B := ⟨⟨trivial, trivial⟩, by rw [eqv_int]; exact h⟩
theorem cI_lt {x y : Int} (h : B (decide (x < y))) : cmpW .Lt (.int x) (.int y) B := h
theorem cI_le {x y : Int} (h : B (decide (x ≤ y))) : cmpW .LtE (.int x) (.int y) B := h
theorem cI_gt {x y : Int} (h : B (decide (y < x))) : cmpW .Gt (.int x) (.int y) B := h
theorem cI_ge {x y : Int} (h : B (decide (y ≤ x))) : cmpW .GtE (.int x) (.int y) B := h
theorem cS_eq {x y : Str} (hx : PyData.strOk x = true) (hy : PyData.strOk y = true) (h : B (decide (x = y))) : cmpW .Eq (.str x) (.str y) B :=
  ⟨⟨okS hx, okS hy⟩, by rw [eqv_str]; exact h⟩
theorem cS_ne {x y : Str} (hx : PyData.strOk x = true) (hy : PyData.strOk y = true) (h : B (!decide (x = y))) : cmpW .NotEq (.str x) (.str y) B :=
  ⟨⟨okS hx, okS hy⟩, by rw [eqv_str]; exact h⟩
theorem cB_isnot {x y : Bool} (h : B (!(x == y))) : cmpW .IsNot (.bool x) (.bool y) B := h
theorem bI_add {x y : Int} (h : K (.int (x + y))) : binW .Add (.int x) (.int y) K := .addI h
theorem bI_sub {x y : Int} (h : K (.int (x - y))) : binW .Sub (.int x) (.int y) K := .subI h
theorem bI_mul {x y : Int} (hx : x.natAbs < 2 ^ 32) (h : K (.int (x * y))) : binW .Mult (.int x) (.int y) K := .mulI hx h
theorem bI_mod {x y : Int} (hx : y ≠ 0) (h : K (.int (x.fmod y))) : binW .Mod (.int x) (.int y) K := .modI hx h
theorem bI_div {x y : Int} (hx : y ≠ 0) (h2 : y.natAbs < 2 ^ 20) (h : K (.int (x.fdiv y))) : binW .FloorDiv (.int x) (.int y) K := .divI hx h2 h
theorem bT_add {x y : List PyData} (hx : x.length + y.length ≤ lim) (h : K (.tuple (x ++ y))) : binW .Add (.tuple x) (.tuple y) K := .addT hx h
theorem bL_add {x y : List PyData} (hx : x.length + y.length ≤ lim) (h : K (.list (x ++ y))) : binW .Add (.list x) (.list y) K := .fr (.addL hx h)
theorem iL {xs : List PyData} {k : Int} {d : PyData} (h0 : 0 ≤ k ∧ k < 2 ^ 31) (hd : xs[k.toNat]? = some d) (h : K d) : itemW (.list xs) (.int k) K := ⟨h0, d, hd, h⟩
theorem iT {xs : List PyData} {k : Int} {d : PyData} (h0 : 0 ≤ k ∧ k < 2 ^ 31) (hd : xs[k.toNat]? = some d) (h : K d) : itemW (.tuple xs) (.int k) K := ⟨h0, d, hd, h⟩
theorem lL {xs : List PyData} (h0 : xs.length ≤ lim) (h : K (.int xs.length)) : lenW (.list xs) K := ⟨h0, h⟩
theorem lT {xs : List PyData} (h0 : xs.length ≤ lim) (h : K (.int xs.length)) : lenW (.tuple xs) K := ⟨h0, h⟩
theorem nI {x : Int} (h : K (.int (-x))) : negW (.int x) K := h
theorem cpL {xs : List PyData} (h0 : xs.length ≤ lim) (h : K (.list xs)) : copyW (.list xs) K := ⟨h0, h⟩
theorem up {xs : List PyData} {k : Int} (h0 : 0 ≤ k) (h1 : xs.length ≤ lim) (h : K (.list (xs.take k.toNat))) : uptoW (.list xs) (.int k) K := ⟨⟨h0, h1⟩, h⟩
theorem fr {xs : List PyData} {k : Int} (h0 : 0 ≤ k) (h1 : xs.length ≤ lim) (h : K (.list (xs.drop k.toNat))) : fromW (.list xs) (.int k) K := ⟨⟨h0, h1⟩, h⟩
theorem rg1 {n : Int} {L : List PyData → Prop} (h0 : -(2 ^ 31) ≤ n ∧ n < 2 ^ 31) (h : L (rangeL 0 n)) : rng1W (.int n) L := ⟨h0, h⟩
theorem itL {xs : List PyData} {L : List PyData → Prop} (h : L xs) : iterW (.list xs) L := h
theorem itT {xs : List PyData} {L : List PyData → Prop} (h : L xs) : iterW (.tuple xs) L := h
theorem trB {b : Bool} (h : B b) : truthW (.bool b) B := h
theorem trL {xs : List PyData} (h0 : xs.length ≤ lim) (h : B (!xs.isEmpty)) : truthW (.list xs) B := ⟨h0, h⟩
theorem mnI {x y : Int} (h : K (.int (min x y))) : minW (.int x) (.int y) K := h
end
end Mine
end

section
set_option linter.unusedVariables false
namespace Mine
open PySem PyProof.Rows

noncomputable abbrev dN (i : Nat) : PyData := .int (i : Int)
noncomputable abbrev dI (i : Int) : PyData := .int i
noncomputable abbrev dS (st : List Int) : PyData := .list (st.map dI)

theorem forW_inv {α : Type} {f : α → PyData} {step : PyData → PEnv → (Fl → PEnv → Prop) → Prop} {K : Fl → PEnv → Prop} (I : List α → PEnv → Prop) (h0 : ∀ pe, I [] pe → K .next pe)
    (hs : ∀ a r pe K', I (a :: r) pe → (∀ pe', I r pe' → K' .next pe') → (∀ pe', I r pe' → K' .cont pe') → (∀ pe', K .next pe' → K' .brk pe') → (∀ d pe', K (.ret d) pe' → K' (.ret d) pe') → step (f a) pe K') :
    ∀ (xs : List α) (pe : PEnv), I xs pe → forW step (xs.map f) pe K
  | [], pe, h => h0 pe h
  | a :: r, pe, h => hs a r pe _ h (fun pe' h' => forW_inv I h0 hs r pe' h') (fun pe' h' => forW_inv I h0 hs r pe' h') (fun _ k => k) fun _ _ k => k

theorem whileW_inv {test : PEnv → (Bool → Prop) → Prop} {body : PEnv → (Fl → PEnv → Prop) → Prop} {K : Fl → PEnv → Prop} (I : Nat → PEnv → Prop)
    (hs : ∀ n pe K', I n pe → (∀ m pe', m < n → I m pe' → K' .next pe') → (∀ m pe', m < n → I m pe' → K' .cont pe') → (∀ pe', K .next pe' → K' .brk pe') → (∀ d pe', K (.ret d) pe' → K' (.ret d) pe') → test pe fun b => if b then body pe K' else K .next pe)
    {n : Nat} {pe : PEnv} (h : I n pe) : ∃ k, whileW test body k pe K := by
  have go : ∀ N n pe, n ≤ N → I n pe → whileW test body (N + 1) pe K := by
    intro N
    induction N with
    | zero =>
      intro n pe hn hI
      exact hs n pe (fun fl pe' => match fl with
        | .next => whileW test body 0 pe' K
        | .cont => whileW test body 0 pe' K
        | .brk => K .next pe'
        | .ret r => K (.ret r) pe') hI (fun m pe' hm _ => by omega) (fun m pe' hm _ => by omega) (fun _ k => k) fun _ _ k => k
    | succ N ih =>
      intro n pe hn hI
      exact hs n pe (fun fl pe' => match fl with
        | .next => whileW test body (N + 1) pe' K
        | .cont => whileW test body (N + 1) pe' K
        | .brk => K .next pe'
        | .ret r => K (.ret r) pe') hI (fun m pe' hm hI' => ih m pe' (by omega) hI') (fun m pe' hm hI' => ih m pe' (by omega) hI') (fun _ k => k) fun _ _ k => k
  exact ⟨n + 1, go n n pe (Nat.le_refl _) h⟩

theorem compL_flat {α : Type} {f : α → PyData} {step : PyData → List PyData → (List PyData → Prop) → Prop} {K : List PyData → Prop} (g : α → List PyData) : ∀ (xs : List α) (acc : List PyData),
    (∀ a acc K', a ∈ xs → acc.length ≤ lim → K' (acc ++ g a) → step (f a) acc K') → acc.length + (xs.flatMap g).length ≤ lim → K (acc ++ xs.flatMap g) → compL step (xs.map f) acc K
  | [], acc, hs, hl, h => by simpa [compL] using h
  | a :: r, acc, hs, hl, h => by
    rw [List.flatMap_cons, List.length_append] at hl
    rw [List.flatMap_cons, ← List.append_assoc] at h
    exact hs a acc _ (.head _) (by omega) (compL_flat g r (acc ++ g a) (fun b acc K' hb => hs b acc K' (.tail _ hb)) (by rw [List.length_append]; omega) h)

section
variable {c : Cx} {l : Nat} {nm : Names} {pe : PEnv}
theorem tgN {x : Str} {p : Pos} {d : PyData} {K : PEnv → Prop} (h1 : kindOK nm x) (h : K (pe.set x d)) : tgtW nm (.Name x p) d pe K := ⟨h1, h⟩
theorem tgT {es : List Expr} {k : Nat} {p : Pos} {ds : List PyData} {K : PEnv → Prop} (h1 : es.length = ds.length) (h : tgtsW nm es ds pe K) : tgtW nm (.Tuple es k p) (.tuple ds) pe K := ⟨h1, h⟩
theorem tgs0 {K : PEnv → Prop} (h : K pe) : tgtsW nm [] [] pe K := h
theorem tgs1 {x : Str} {p : Pos} {es : List Expr} {d : PyData} {ds : List PyData} {K : PEnv → Prop} (h1 : kindOK nm x) (h : tgtsW nm es ds (pe.set x d) K) : tgtsW nm (.Name x p :: es) (d :: ds) pe K := ⟨h1, h⟩
theorem tcN {x : Str} {p : Pos} {d : PyData} {K : PEnv → Prop} (h1 : nm.lookup x = some .local) (h2 : pe x = none) (h : K (pe.set x d)) : tgtC nm (.Name x p) d pe K := ⟨⟨h1, h2⟩, h⟩
theorem tcT {es : List Expr} {k : Nat} {p : Pos} {ds : List PyData} {K : PEnv → Prop} (h1 : es.length = ds.length) (h : tgtsC nm es ds pe K) : tgtC nm (.Tuple es k p) (.tuple ds) pe K := ⟨h1, h⟩
theorem tcs0 {K : PEnv → Prop} (h : K pe) : tgtsC nm [] [] pe K := h
theorem tcs1 {x : Str} {p : Pos} {es : List Expr} {d : PyData} {ds : List PyData} {K : PEnv → Prop} (h1 : nm.lookup x = some .local) (h2 : pe x = none) (h : tgtsC nm es ds (pe.set x d) K) : tgtsC nm (.Name x p :: es) (d :: ds) pe K := ⟨⟨h1, h2⟩, h⟩
theorem cp1 {elt t it : Expr} {ifs : List Expr} {scope : Scope} {K : List PyData → Prop} (h1 : scopeOk nm scope = true) (h2 : freeOk pe scope.names) (h3 : isSetE it = false)
    (h : EvI c l nm pe it fun ds => compL (turnW c l (relN nm scope.names) t ifs (eltW c l (relN nm scope.names) elt) (resC (relN nm scope.names) pe)) ds [] K) : compW c l nm pe elt [{ target := t, iter := it, ifs := ifs, is_async := 0 }] scope K := ⟨h1, h2, .one h3 h⟩
theorem cp2 {elt t it t1 it1 : Expr} {ifs ifs1 : List Expr} {scope : Scope} {K : List PyData → Prop} (h1 : scopeOk nm scope = true) (h2 : freeOk pe scope.names) (h3 : isSetE it = false)
    (h : EvI c l nm pe it fun ds => compL (turnW c l (relN nm scope.names) t ifs (innerW c l (relN nm scope.names) elt t1 it1 ifs1) (resC (relN nm scope.names) pe)) ds [] K) : compW c l nm pe elt [{ target := t, iter := it, ifs := ifs, is_async := 0 }, { target := t1, iter := it1, ifs := ifs1, is_async := 0 }] scope K := ⟨h1, h2, .two h3 h⟩
theorem tu {t : Expr} {ifs : List Expr} {em : PEnv → List PyData → (List PyData → Prop) → Prop} {d : PyData} {acc : List PyData} {K : List PyData → Prop} (h : tgtC nm t d pe fun pe' => testsW c l nm pe' ifs fun b => if b then em pe' acc K else K acc) : turnW c l nm t ifs em pe d acc K := h
theorem te0 {K : Bool → Prop} (h : K true) : testsW c l nm pe [] K := h
theorem te1 {t : Expr} {K : Bool → Prop} (h : EvT c l nm pe t K) : testsW c l nm pe [t] K := h
theorem el {elt : Expr} {acc : List PyData} {K : List PyData → Prop} (h : EvS c l nm pe elt fun r => acc.length ≤ lim ∧ K (acc ++ [r])) : eltW c l nm elt pe acc K := h
theorem inn {elt t it : Expr} {ifs : List Expr} {acc : List PyData} {K : List PyData → Prop} (h1 : isSetE it = false) (h : EvI c l nm pe it fun ds => compL (turnW c l nm t ifs (eltW c l nm elt) pe) ds acc K) : innerW c l nm elt t it ifs pe acc K := ⟨h1, h⟩
theorem ExS_ownAgain {x : Str} {p pos} {e : Expr} {d₀ : PyData} {K : Fl → PEnv → Prop} (hc : isComp e = false) (hk : kindOK nm x) (hp : pe x = some ⟨d₀, true⟩) (h : EvF c l nm pe e fun d => K .next (pe.set x d true)) : ExS c l nm (.Assign [.Name x p] e pos) pe K := ExS_own hc hk h
theorem CallOK.to {l' : Nat} {f : Str} {ds : List PyData} {d : PyData} {K : PyData → Prop} (h : CallOK c l f ds (· = d)) (hl : l ≤ l') (k : K d) : CallOK c l' f ds K := h.mono hl fun _ e => e ▸ k
theorem fL_add {x y : List PyData} {K : PyData → Prop} (hx : x.length + y.length ≤ lim) (h : K (.list (x ++ y))) : frW .Add (.list x) (.list y) K := .addL hx h
theorem fL_mul {x : List PyData} {n : Int} {K : PyData → Prop} (hx : 0 ≤ n ∧ n ≤ 1000 ∧ x.length ≤ 10) (h : K (.list (List.replicate n.toNat x).flatten)) : frW .Mult (.list x) (.int n) K := .mulL hx h
theorem fo0 : freeOk pe [] := fun _ h => nomatch h
theorem fo1 {x : Str} {k : NameKind} {r : Names} (hk : (k == .free) = false) (h : freeOk pe r) : freeOk pe ((x, k) :: r) := fun q hq hf => by
  rcases List.mem_cons.mp hq with rfl | hq
  · simp only at hf; subst hf; cases hk
  · exact h q hq hf
theorem fo2 {x : Str} {r : Names} {sl : Slot} (hx : pe x = some sl) (h : freeOk pe r) : freeOk pe ((x, .free) :: r) := fun q hq hf => by
  rcases List.mem_cons.mp hq with rfl | hq
  · simp only; rw [hx]; rfl
  · exact h q hq hf
theorem iteTT {P Q : Prop} (p : P) : if true = true then P else Q := by rw [if_pos rfl]; exact p
theorem rangeL_nat (n : Nat) : rangeL 0 n = (List.range n).map dN := by
  unfold rangeL
  have : ((n : Int) - 0).toNat = n := by omega
  rw [this]
  refine List.map_congr_left fun i _ => ?_
  simp
theorem rg1n {n : Nat} {L : List PyData → Prop} (h0 : n < 2 ^ 31) (h : L ((List.range n).map dN)) : rng1W (.int n) L := ⟨by omega, by rw [rangeL_nat]; exact h⟩
end
end Mine
end

section
set_option linter.unusedVariables false
namespace Mine
open PySem PyProof.Rows
theorem flat_filter {α β : Type} (p : α → Bool) (g : α → β) : ∀ xs : List α, (xs.flatMap fun a => if p a then [g a] else []) = (xs.filter p).map g
  | [] => rfl
  | a :: r => by
    rw [List.flatMap_cons, flat_filter p g r, List.filter_cons]
    cases h : p a <;> simp
theorem compL_filter {α : Type} {f : α → PyData} {step : PyData → List PyData → (List PyData → Prop) → Prop} {K : List PyData → Prop} (p : α → Bool) (g : α → PyData) (xs : List α)
    (hs : ∀ a acc K', a ∈ xs → acc.length ≤ lim → (p a = true → K' (acc ++ [g a])) → (p a = false → K' acc) → step (f a) acc K') (hl : xs.length ≤ lim) (h : K ((xs.filter p).map g)) : compL step (xs.map f) [] K := by
  refine compL_flat (f := f) (fun a => if p a then [g a] else []) xs [] (fun a acc K' ha hacc hK => hs a acc K' ha hacc (fun hp => by simpa [hp] using hK) fun hp => by simpa [hp] using hK) ?_ ?_
  · rw [flat_filter, List.length_map, List.length_nil]
    have := List.length_filter_le p xs
    omega
  · rw [flat_filter, List.nil_append]; exact h
theorem compL_map {α : Type} {f : α → PyData} {step : PyData → List PyData → (List PyData → Prop) → Prop} {K : List PyData → Prop} (g : α → PyData) (xs : List α)
    (hs : ∀ a acc K', a ∈ xs → acc.length ≤ lim → K' (acc ++ [g a]) → step (f a) acc K') (hl : xs.length ≤ lim) (h : K (xs.map g)) : compL step (xs.map f) [] K := by
  have e : (xs.flatMap fun a => [g a]) = xs.map g := by rw [← List.map_eq_flatMap]
  refine compL_flat (f := f) (fun a => [g a]) xs [] (fun a acc K' ha hacc hK => hs a acc K' ha hacc hK) ?_ ?_
  · rw [e]; simpa using hl
  · rw [e]; simpa using h
inductive OwnName (x : Str) : Prop
  | mk : OwnName x
section
variable {c : Cx} {l : Nat} {nm : Names} {pe : PEnv}
theorem ExS_ownBy {x : Str} {p pos} {e : Expr} {K : Fl → PEnv → Prop} (hc : isComp e = false) (hk : kindOK nm x) (ho : OwnName x) (h : EvF c l nm pe e fun d => K .next (pe.set x d true)) : ExS c l nm (.Assign [.Name x p] e pos) pe K := ExS_own hc hk h
theorem EvS_callA {f : Str} {p pos} {e : Expr} {es : List Expr} {K : PyData → Prop} (gd : Gd c) (hd : (f == ("__debug__" : Str)) = false) (hk : nm.lookup f = some .globalImplicit) (hs : isStar e = false)
    (ha : ∃ a o fd, c.mg f = some (.ref a) ∧ c.h₀.get? a = some o ∧ o.data = .func fd) (h : EvL c l nm pe (e :: es) fun ds => CallOK c l f ds K) : EvS c l nm pe (.Call (.Name f p) (e :: es) [] pos) K := EvS_call gd hd hk hs h ha
theorem cp1A {elt t it : Expr} {ifs : List Expr} {scope : Scope} {K : List PyData → Prop} (h1 : scopeOk nm scope = true) (h3 : isSetE it = false) (h2 : freeOk pe scope.names)
    (h : EvI c l nm pe it fun ds => compL (turnW c l (relN nm scope.names) t ifs (eltW c l (relN nm scope.names) elt) (resC (relN nm scope.names) pe)) ds [] K) : compW c l nm pe elt [{ target := t, iter := it, ifs := ifs, is_async := 0 }] scope K := cp1 h1 h2 h3 h
theorem cp2A {elt t it t1 it1 : Expr} {ifs ifs1 : List Expr} {scope : Scope} {K : List PyData → Prop} (h1 : scopeOk nm scope = true) (h3 : isSetE it = false) (h2 : freeOk pe scope.names)
    (h : EvI c l nm pe it fun ds => compL (turnW c l (relN nm scope.names) t ifs (innerW c l (relN nm scope.names) elt t1 it1 ifs1) (resC (relN nm scope.names) pe)) ds [] K) : compW c l nm pe elt [{ target := t, iter := it, ifs := ifs, is_async := 0 }, { target := t1, iter := it1, ifs := ifs1, is_async := 0 }] scope K := cp2 h1 h2 h3 h
theorem EvS_items {o : Expr} {p apos cpos pos} {K : PyData → Prop} (gd : Gd c) (hk : nm.lookup ("list" : Str) = some .globalImplicit) (hb : plainBase o = true) (hl : (apos.endLine == cpos.line) = true) (h : EvS c l nm pe o fun d => itemsW d K) :
    EvS c l nm pe (.Call (.Name "list" p) [.Call (.Attribute o "items" apos) [] [] cpos] [] pos) K := EvF.toS (EvF_items gd hk hb hl h)
theorem EvS_copy {p pos} {e : Expr} {K : PyData → Prop} (gd : Gd c) (hk : nm.lookup ("list" : Str) = some .globalImplicit) (hs : isStar e = false) (h : EvB c l nm pe e fun d => copyW d K) : EvS c l nm pe (.Call (.Name "list" p) [e] [] pos) K := EvF.toS (EvF_copy gd hk hs h)
theorem EvS_dictOf {p pos} {e : Expr} {K : PyData → Prop} (gd : Gd c) (hk : nm.lookup ("dict" : Str) = some .globalImplicit) (hs : isStar e = false) (h : EvS c l nm pe e fun d => dictOfW d K) : EvS c l nm pe (.Call (.Name "dict" p) [e] [] pos) K := EvF.toS (EvF_dictOf gd hk hs h)
theorem EvS_list {es : List Expr} {pos} {K : PyData → Prop} (h : EvL c l nm pe es fun ds => ds.length ≤ lim ∧ K (.list ds)) : EvS c l nm pe (.List es pos) K := EvF.toS (EvF_list h)
theorem EvS_dict0 (gd : Gd c) {pos} {K : PyData → Prop} (h : K (.dict [])) : EvS c l nm pe (.Dict [] [] pos) K := EvF.toS (EvF_dict0 gd h)
theorem bI_pow {x y : Int} {K : PyData → Prop} (hx : 0 ≤ y ∧ y ≤ 1000 ∧ x.natAbs < 2 ^ 32) (h : K (.int (x ^ y.toNat))) : binW .Pow (.int x) (.int y) K := .powI hx h
theorem sL {xs : List PyData} {k : Int} {v : PyData} {K : PyData → Prop} (h0 : 0 ≤ k ∧ k < xs.length ∧ xs.length ≤ lim) (h : K (.list (xs.set k.toNat v))) : setW (.list xs) (.int k) v K := ⟨h0, h⟩
theorem sD {kvs : List (PyData × PyData)} {k : Int} {v : PyData} {K : PyData → Prop} (h0 : kindOk kvs (.int k) ∧ kvs.length ≤ lim ∧ getK kvs (.int k) = none) (h : K (.dict (kvs ++ [(.int k, v)]))) : setW (.dict kvs) (.int k) v K := ⟨h0, h⟩
end
/-! short roads, to keep the proofs small -/
theorem iRg {g : Nat → PyData} {n k : Nat} {K : PyData → Prop} (hk : k < n) (hn : n ≤ 9) (h : K (g k)) : itemW (.list ((List.range n).map g)) (.int (k : Int)) K := iL ⟨by omega, by omega⟩ (by simp [hk]) h
theorem iMp {α : Type} {g : α → PyData} {L : List α} {k : Nat} {a : α} {K : PyData → Prop} (hk : L[k]? = some a) (hl : L.length ≤ 9) (h : K (g a)) : itemW (.list (L.map g)) (.int (k : Int)) K := by
  have := (List.getElem?_eq_some_iff.mp hk).1
  exact iL ⟨by omega, by omega⟩ (by simp [hk]) h
theorem to8 {c : Cx} {l : Nat} (i : Nat) {f : Str} {ds : List PyData} {d : PyData} {K : PyData → Prop} (h : CallOK c (l + i) f ds (· = d)) (hi : i ≤ 8) (k : K d) : CallOK c (l + 8) f ds K := h.to (by omega) k
theorem limM {α : Type} {g : α → PyData} {L : List α} (h : L.length ≤ 9) : (L.map g).length ≤ lim := by simp [lim]; omega
theorem limR {g : Nat → PyData} {n : Nat} (h : n ≤ 9) : ((List.range n).map g).length ≤ lim := by simp [lim]; omega
theorem iDs {ds : List Int} {k n : Nat} {K : PyData → Prop} (hk : k < n) (hl : ds.length = n) (hn : n ≤ 9) (h : K (.int (ds.getD k 0))) : itemW (.list (ds.map dI)) (.int (k : Int)) K := by
  have hk' : k < ds.length := by omega
  exact iL ⟨by omega, by omega⟩ (by simp [hk']) h
end Mine
end

namespace Mine
local macro_rules
  | `(tactic| contradiction) => `(tactic| with_reducible first
    | refine ExL_cons ?_
    | refine ExL_nil ?_
    | refine tW_next ?_
    | refine EvP_cons ?_
    | refine EvP_nil ?_
    | refine tW_ret ?_
    | refine tW_brk ?_
    | refine tW_cont ?_
    | refine rW_ret ?_
    | refine rW_next ?_
    | refine ExS_if ?_
    | refine ExS_ret ?_
    | refine ExS_break ?_
    | refine ExS_cont ?_
    | (refine ExS_unpack ?_ ?_ ?_; with_unfolding_all rfl; with_unfolding_all rfl)
    | (refine' ExS_append ?_ ?_ ?_ ?_ ?_ ?_; rotate_left; decide; with_unfolding_all rfl; with_unfolding_all rfl; with_unfolding_all rfl)
    | (refine' ExS_append ?_ ?_ ?_ ?_ ?_ ?_; rotate_left; decide; with_unfolding_all rfl; with_unfolding_all rfl; with_unfolding_all assumption)
    | (refine' ExS_ownAgain ?_ ?_ ?_ ?_; rotate_left; with_unfolding_all rfl; exact kl (by with_unfolding_all rfl); with_unfolding_all rfl)
    | (refine' ExS_ownAgain ?_ ?_ ?_ ?_; rotate_left; with_unfolding_all rfl; exact kl (by with_unfolding_all rfl); with_unfolding_all assumption)
    | (refine' ExS_ownAgain ?_ ?_ ?_ ?_; rotate_left; with_unfolding_all rfl; exact kc (by with_unfolding_all rfl); with_unfolding_all rfl)
    | (refine' ExS_ownAgain ?_ ?_ ?_ ?_; rotate_left; with_unfolding_all rfl; exact kc (by with_unfolding_all rfl); with_unfolding_all assumption)
    | (refine' ExS_setitem ?_ ?_ ?_ ?_; rotate_left; decide; with_unfolding_all rfl; with_unfolding_all rfl)
    | (refine' ExS_setitem ?_ ?_ ?_ ?_; rotate_left; decide; with_unfolding_all rfl; with_unfolding_all assumption)
    | (refine ExS_ownBy ?_ ?_ ?_ ?_; with_unfolding_all rfl; exact kl (by with_unfolding_all rfl); assumption)
    | (refine ExS_ownBy ?_ ?_ ?_ ?_; with_unfolding_all rfl; exact kc (by with_unfolding_all rfl); assumption)
    | (refine ExS_comp ?_ ?_; exact kl (by with_unfolding_all rfl))
    | (refine ExS_comp ?_ ?_; exact kc (by with_unfolding_all rfl))
    | (refine ExS_assign ?_ ?_ ?_; with_unfolding_all rfl; exact kl (by with_unfolding_all rfl))
    | (refine ExS_assign ?_ ?_ ?_; with_unfolding_all rfl; exact kc (by with_unfolding_all rfl))
    | (refine' EvB_var ?_ ?_ ?_; rotate_left; decide; with_unfolding_all rfl)
    | (refine' EvB_var ?_ ?_ ?_; rotate_left; decide; with_unfolding_all assumption)
    | (refine' EvB_var ?_ ?_ ?_; rotate_left; decide; with_unfolding_all exact frz_of (by assumption))
    | refine EvS.toB ?_
    | (refine' EvS_var ?_ ?_ ?_; rotate_left; decide; with_unfolding_all rfl)
    | (refine' EvS_var ?_ ?_ ?_; rotate_left; decide; with_unfolding_all assumption)
    | (refine' EvS_var ?_ ?_ ?_; rotate_left; decide; with_unfolding_all exact frz_of (by assumption))
    | (refine' EvS_tab ?_ ?_ ?_ ?_ ?_; assumption; rotate_left; decide; with_unfolding_all rfl; assumption)
    | refine EvS_int ?_
    | refine EvS_str ?_
    | refine EvS_bool ?_
    | refine EvS_none ?_
    | refine EvS_bin ?_
    | refine EvS_ifexp ?_
    | refine EvS_neg ?_
    | refine EvS_upto ?_
    | refine EvS_from ?_
    | refine EvS_sub ?_
    | (refine EvS_cmp ?_ ?_; with_unfolding_all rfl)
    | (refine EvS_len ?_ ?_ ?_ ?_; assumption; with_unfolding_all rfl; with_unfolding_all rfl)
    | (refine EvS_min ?_ ?_ ?_ ?_ ?_; assumption; with_unfolding_all rfl; with_unfolding_all rfl; with_unfolding_all rfl)
    | (refine EvS_items ?_ ?_ ?_ ?_ ?_; assumption; with_unfolding_all rfl; with_unfolding_all rfl; with_unfolding_all rfl)
    | (refine EvS_copy ?_ ?_ ?_ ?_; assumption; with_unfolding_all rfl; with_unfolding_all rfl)
    | (refine EvS_dictOf ?_ ?_ ?_ ?_; assumption; with_unfolding_all rfl; with_unfolding_all rfl)
    | (refine EvS_index ?_ ?_ ?_ ?_; with_unfolding_all rfl; with_unfolding_all rfl; with_unfolding_all rfl)
    | (refine EvS_callA ?_ ?_ ?_ ?_ ?_ ?_; assumption; decide; with_unfolding_all rfl; with_unfolding_all rfl; assumption)
    | refine EvS_tuple ?_
    | (refine EvS_list ?_)
    | (refine EvS_dict0 ?_ ?_; assumption)
    | refine EvS_comp ?_
    | refine EvF_bin ?_
    | refine EvF_list ?_
    | (refine EvF_items ?_ ?_ ?_ ?_ ?_; assumption; with_unfolding_all rfl; with_unfolding_all rfl; with_unfolding_all rfl)
    | (refine EvF_copy ?_ ?_ ?_ ?_; assumption; with_unfolding_all rfl; with_unfolding_all rfl)
    | (refine EvF_dict0 ?_ ?_; assumption)
    | refine fL_add ?_ ?_
    | refine fL_mul ?_ ?_
    | (refine And.intro ?_ ?_; with_unfolding_all exact Nat.le_of_ble_eq_true rfl)
    | refine EvL_nil ?_
    | (refine EvL_cons ?_ ?_; with_unfolding_all rfl)
    | refine EvT_eqD ?_
    | (refine EvT_cmp ?_ ?_; with_unfolding_all rfl)
    | refine EvT_not ?_
    | refine EvT_and ?_
    | refine EvT_and_nil ?_
    | refine EvT_or ?_
    | refine EvT_or_nil ?_
    | (refine EvT_isint ?_ ?_ ?_ ?_ ?_; assumption; with_unfolding_all rfl; with_unfolding_all rfl; with_unfolding_all rfl)
    | (refine EvT_plain ?_ ?_; with_unfolding_all exact fun _ _ => rfl)
    | (refine EvI_range1 ?_ ?_ ?_ ?_; assumption; with_unfolding_all rfl; with_unfolding_all rfl)
    | (refine EvI_range2 ?_ ?_ ?_ ?_ ?_; assumption; with_unfolding_all rfl; with_unfolding_all rfl; with_unfolding_all rfl)
    | (refine EvI_vals ?_ ?_ ?_; with_unfolding_all rfl; with_unfolding_all rfl)
    | refine EvI_of ?_
    | (refine tgN ?_ ?_; exact kl (by with_unfolding_all rfl))
    | (refine tgN ?_ ?_; exact kc (by with_unfolding_all rfl))
    | (refine tgT ?_ ?_; with_unfolding_all rfl)
    | refine tgs0 ?_
    | (refine tgs1 ?_ ?_; exact kl (by with_unfolding_all rfl))
    | (refine tgs1 ?_ ?_; exact kc (by with_unfolding_all rfl))
    | refine tu ?_
    | refine te0 ?_
    | refine te1 ?_
    | (refine tcN ?_ ?_ ?_; with_unfolding_all rfl; with_unfolding_all rfl)
    | (refine tcT ?_ ?_; with_unfolding_all rfl)
    | refine tcs0 ?_
    | (refine tcs1 ?_ ?_ ?_; with_unfolding_all rfl; with_unfolding_all rfl)
    | refine el ?_
    | (refine inn ?_ ?_; with_unfolding_all rfl)
    | refine iteTT ?_
    | (refine cp1A ?_ ?_ ?_ ?_; decide +kernel; with_unfolding_all rfl)
    | (refine cp2A ?_ ?_ ?_ ?_; decide +kernel; with_unfolding_all rfl)
    | refine fo0
    | (refine fo1 ?_ ?_; with_unfolding_all rfl)
    | (refine' fo2 ?_ ?_; rotate_left; with_unfolding_all rfl)
    | (refine' fo2 ?_ ?_; rotate_left; with_unfolding_all assumption)
    | (refine' fo2 ?_ ?_; rotate_left; with_unfolding_all exact frz_of (by assumption))
    | refine cI_eq ?_
    | refine cI_ne ?_
    | refine cI_lt ?_
    | refine cI_le ?_
    | refine cI_gt ?_
    | refine cI_ge ?_
    | (refine cS_eq ?_ ?_ ?_; decide +kernel; decide +kernel)
    | (refine cS_ne ?_ ?_ ?_; decide +kernel; decide +kernel)
    | (refine cS_eq ?_ ?_ ?_; assumption; decide +kernel)
    | (refine cS_ne ?_ ?_ ?_; assumption; decide +kernel)
    | refine cB_isnot ?_
    | refine bI_add ?_
    | refine bI_sub ?_
    | refine bI_mul ?_ ?_
    | refine bI_mod ?_ ?_
    | refine bI_div ?_ ?_ ?_
    | refine bI_pow ?_ ?_
    | refine bT_add ?_ ?_
    | refine bL_add ?_ ?_
    | (refine' iT ?_ ?_ ?_; rotate_left; decide; with_unfolding_all rfl)
    | (refine' iL ?_ ?_ ?_; rotate_left; decide; with_unfolding_all rfl)
    | refine lL ?_ ?_
    | refine lT ?_ ?_
    | refine nI ?_
    | refine cpL ?_ ?_
    | refine up ?_ ?_ ?_
    | refine fr ?_ ?_ ?_
    | refine rg1n ?_ ?_
    | refine rg1 ?_ ?_
    | refine itL ?_
    | refine itT ?_
    | refine trB ?_
    | refine trL ?_ ?_
    | refine mnI ?_
    | (refine iteT ?_ ?_; with_unfolding_all rfl)
    | (refine iteF ?_ ?_; with_unfolding_all rfl)
    | (refine iteF ?_ ?_; with_unfolding_all assumption)
    | (refine iteT ?_ ?_; with_unfolding_all assumption)
    | refine iteD (fun _ => ?_) (fun _ => ?_)
    | refine iteN (fun _ => ?_) (fun _ => ?_)
    | fail)

section
set_option linter.unusedVariables false
set_option maxRecDepth 100000
set_option maxHeartbeats 4000000
open PySem PyProof.Rows
inductive Op | add | sub | mul | eq | ne | lt | and | or | not
  deriving DecidableEq
noncomputable def Op.str : Op → Str
  | .add => "+" | .sub => "-" | .mul => "*" | .eq => "==" | .ne => "!=" | .lt => "<" | .and => "and" | .or => "or" | .not => "not"
noncomputable def Op.val : Op → Int → Int → Int
  | .add, a, b => a + b
  | .sub, a, b => a - b
  | .mul, a, b => a * b
  | .eq, a, b => if a = b then 1 else 0
  | .ne, a, b => if a = b then 0 else 1
  | .lt, a, b => if a < b then 1 else 0
  | .and, a, b => if a = 0 ∨ b = 0 then 0 else 1
  | .or, a, b => if a = 0 ∧ b = 0 then 0 else 1
  | .not, a, b => if a = 0 then 1 else 0
inductive Lf | num (n : Int) | var (i : Nat)
noncomputable def Lf.d : Lf → PyData
  | .num n => .tuple [.str "num", .int n]
  | .var i => .tuple [.str "var", dN i]
noncomputable def Lf.val (st : List Int) : Lf → Int
  | .num n => n
  | .var i => st.getD i 0
inductive It | lf (l : Lf) | op (o : Op)
noncomputable def It.d : It → PyData
  | .lf l => l.d
  | .op o => .tuple [.str o.str, .int 0]
/-- the stack machine; the top comes first -/
noncomputable def It.run (st : List Int) : List It → List Int → Option (List Int)
  | [], s => some s
  | .lf (.num n) :: r, s => It.run st r (n :: s)
  | .lf (.var i) :: r, s => if i < st.length then It.run st r (st.getD i 0 :: s) else none
  | .op o :: r, s => if o = .not then (match s with | a :: s => It.run st r (Op.not.val a 0 :: s) | _ => none)
      else (match s with | b :: a :: s => if a.natAbs < 2 ^ 32 then It.run st r (o.val a b :: s) else none | _ => none)

theorem run_not (st : List Int) (r : List It) (a : Int) (s : List Int) : It.run st (.op .not :: r) (a :: s) = It.run st r (Op.not.val a 0 :: s) := by simp [It.run]
theorem run_bin (st : List Int) (r : List It) {o : Op} (ho : o ≠ .not) (b a : Int) (s : List Int) (ha : a.natAbs < 2 ^ 32) : It.run st (.op o :: r) (b :: a :: s) = It.run st r (o.val a b :: s) := by simp [It.run, ho, ha]
theorem run_op_inv (st : List Int) (r : List It) {o : Op} (ho : o ≠ .not) {s : List Int} {v : Int} (h : It.run st (.op o :: r) s = some [v]) : ∃ b a s', s = b :: a :: s' ∧ a.natAbs < 2 ^ 32 ∧ It.run st r (o.val a b :: s') = some [v] := by
  match s, h with
  | b :: a :: s, h =>
    by_cases ha : a.natAbs < 2 ^ 32
    · exact ⟨b, a, s, rfl, ha, by rwa [run_bin st r ho b a s ha] at h⟩
    · simp [It.run, ho, ha] at h
  | [b], h => simp [It.run, ho] at h
  | [], h => simp [It.run, ho] at h
theorem stk1 (b : Int) (s : List Int) : ((b :: s).reverse.map dI)[((((b :: s).reverse.map dI).length : Int) - 1).toNat]? = some (dI b) := by
  have : ((((b :: s).reverse.map dI).length : Int) - 1).toNat = s.length := by simp
  rw [this]; simp
theorem stk2 (b a : Int) (s : List Int) : ((b :: a :: s).reverse.map dI)[((((b :: a :: s).reverse.map dI).length : Int) - 2).toNat]? = some (dI a) := by
  have : ((((b :: a :: s).reverse.map dI).length : Int) - 2).toNat = s.length := by simp
  rw [this]; simp
theorem stt1 (b : Int) (s : List Int) : ((b :: s).reverse.map dI).take ((((b :: s).reverse.map dI).length : Int) - 1).toNat = s.reverse.map dI := by
  have : ((((b :: s).reverse.map dI).length : Int) - 1).toNat = s.length := by simp
  rw [this]; simp [List.take_append]
theorem stt2 (b a : Int) (s : List Int) : ((b :: a :: s).reverse.map dI).take ((((b :: a :: s).reverse.map dI).length : Int) - 2).toNat = s.reverse.map dI := by
  have : ((((b :: a :: s).reverse.map dI).length : Int) - 2).toNat = s.length := by simp
  rw [this]; simp
theorem stp (v : Int) (s : List Int) : s.reverse.map dI ++ [.int v] = (v :: s).reverse.map dI := by simp
theorem Op.strOk (o : Op) : PyData.strOk o.str = true := by cases o <;> decide +kernel
theorem Op.ne_num (o : Op) : decide (o.str = ("num" : Str)) = false := by cases o <;> rfl
theorem Op.ne_var (o : Op) : decide (o.str = ("var" : Str)) = false := by cases o <;> rfl
theorem Op.ne_not {o : Op} (h : o ≠ .not) : decide (o.str = ("not" : Str)) = false := by cases o <;> first | rfl | exact absurd rfl h
theorem lim_of {n : Nat} (h : n ≤ 1000) : n ≤ lim := Nat.le_trans h (by decide)

section
variable {c : Cx} (pg : Pg c) {l : Nat}
include pg
theorem apply_op_ok (o : Op) (ho : o ≠ .not) (a b : Int) (ha : a.natAbs < 2 ^ 32) : CallOK c (l+1) "apply_op" [.str o.str, .int a, .int b] (· = .int (o.val a b)) := by
  refine pg.ok 1 (xs := ["op","a","b"]) rfl rfl (by decide +kernel) (by decide +kernel) (fun pm cd doc vs h => ?_) rfl ?_
  · match vs, h with
    | [a,b,c], _ => rfl
  · refine ExL_cons ?_
    cases o
    case not => exact absurd rfl ho
    all_goals repeat' contradiction
    all_goals first | rfl | exact ha | simp_all [Op.val]

theorem value_of_ok (its : List It) (st : List Int) (v : Int) (h : It.run st its [] = some [v]) (hst : st.length ≤ lim) (hits : its.length ≤ 1000) : CallOK c (l+2) "value_of" [.list (its.map It.d), dS st] (· = .int v) := by
  have gd := pg.gd
  have a1 := pg.addr 1 (f := "apply_op") rfl rfl
  refine pg.ok 2 (xs := ["expr","state"]) rfl rfl (by decide +kernel) (by decide +kernel) (fun pm cd doc vs h => ?_) rfl ?_
  · match vs, h with
    | [a,b], _ => rfl
  · refine ExL_cons (ExS_own rfl (kl rfl) (EvF_list (EvL_nil ⟨by decide, ?_⟩)))
    refine tW_next (ExL_cons (ExS_for rfl (EvI_of (EvS_var (by decide) rfl (itL ?_)))))
    refine forW_inv (f := It.d) (fun r pe => ∃ s : List Int, It.run st r s = some [v] ∧ s.length + r.length ≤ 1000 ∧ pe "stack" = some ⟨dS s.reverse, true⟩ ∧ pe "state" = some ⟨dS st, false⟩) (fun pe hI => ?_) (fun a r pe K' hI hn hc hb hr => ?_) its _ ⟨[], h, by simpa using hits, rfl, rfl⟩
    · obtain ⟨s, hr, hl, h1, h2⟩ := hI
      rw [It.run] at hr
      injection hr with hr
      subst hr
      repeat' contradiction
      rfl
    · obtain ⟨s, hr', hl, h1, h2⟩ := hI
      clear hc hb hr
      have hsl : (s.reverse.map dI).length ≤ lim := lim_of (by simp; omega)
      simp only [List.length_cons] at hl
      cases a with
      | lf lf =>
        cases lf with
        | num n =>
          rw [It.run] at hr'
          simp only [It.d, Lf.d]
          repeat' contradiction
          · exact hsl
          · exact hn _ ⟨n :: s, hr', by simp; omega, by rw [stp]; rfl, h2⟩
        | var i =>
          rw [It.run] at hr'
          by_cases hi : i < st.length
          · rw [if_pos hi] at hr'
            simp only [It.d, Lf.d]
            repeat' contradiction
            · exact hsl
            refine iL (d := .int (st.getD i 0)) ⟨by omega, by simp only [lim] at hst; omega⟩ (by simp [hi]) ?_
            repeat' contradiction
            exact hn _ ⟨st.getD i 0 :: s, hr', by simp; omega, by rw [stp]; rfl, h2⟩
          · rw [if_neg hi] at hr'; cases hr'
      | op o =>
        by_cases ho : o = .not
        · subst ho
          cases s with
          | nil => simp [It.run] at hr'
          | cons b s =>
            rw [run_not] at hr'
            simp only [It.d, Op.str]
            repeat' contradiction
            · exact hsl
            refine iL ⟨by simp, by simp at hl ⊢; omega⟩ (stk1 b s) ?_
            repeat' contradiction
            all_goals first | exact hsl | (simp; done) | (rw [stt1]; exact lim_of (by simp at hl ⊢; omega)) | skip
            · rename_i hb0
              have hb0 : b = 0 := hb0
              exact hn _ ⟨1 :: s, by simpa [Op.val, hb0] using hr', by simp at hl ⊢; omega, by rw [stt1, stp]; rfl, h2⟩
            · rename_i hb0
              have hb0 : ¬ b = 0 := hb0
              exact hn _ ⟨0 :: s, by simpa [Op.val, hb0] using hr', by simp at hl ⊢; omega, by rw [stt1, stp]; rfl, h2⟩
        · have h3 := o.strOk
          have h4 := o.ne_num
          have h5 := o.ne_var
          have h6 := Op.ne_not ho
          obtain ⟨b, a, s, rfl, ha, hr'⟩ := run_op_inv st r ho hr'
          simp only [It.d]
          repeat' contradiction
          · exact hsl
          refine iL ⟨by simp, by simp at hl ⊢; omega⟩ (stk2 b a s) ?_
          repeat' contradiction
          · exact hsl
          refine iL ⟨by simp; omega, by simp at hl ⊢; omega⟩ (stk1 b (a :: s)) ?_
          repeat' contradiction
          all_goals first | exact hsl | (simp; done) | skip
          refine (apply_op_ok pg o ho a b ha).to (Nat.le_refl _) ?_
          repeat' contradiction
          · rw [stt2]; exact lim_of (by simp at hl ⊢; omega)
          · exact hn _ ⟨o.val a b :: s, hr', by simp at hl ⊢; omega, by rw [stt2, stp]; rfl, h2⟩
end
end

section
set_option linter.unusedVariables false
open PySem

structure Tr where
  leaf : Lf
  ops : List (Op × Lf × Bool)
noncomputable def stepV (st : List Int) (got : Int) (q : Op × Lf × Bool) : Int := if q.2.2 then q.1.val (q.2.1.val st) got else q.1.val got (q.2.1.val st)
noncomputable def Tr.val (t : Tr) (st : List Int) : Int := t.ops.foldl (stepV st) (t.leaf.val st)
noncomputable def stepP (items : List It) (q : Op × Lf × Bool) : List It := (if q.1 = .not then items else if q.2.2 then .lf q.2.1 :: items else items ++ [.lf q.2.1]) ++ [.op q.1]
noncomputable def Tr.post (t : Tr) : List It := t.ops.foldl stepP [.lf t.leaf]
/-- vars below n, small nums -/
noncomputable def Lf.ok (n : Nat) : Lf → Prop
  | .num k => k.natAbs ≤ 3
  | .var i => i < n
noncomputable def Tr.ok (n : Nat) (t : Tr) : Prop := t.leaf.ok n ∧ t.ops.length ≤ 2 ∧ ∀ q ∈ t.ops, q.2.1.ok n ∧ (q.1 = .not → q.2.2 = false)
noncomputable def stOk (n : Nat) (st : List Int) : Prop := st.length = n ∧ ∀ v ∈ st, v.natAbs ≤ 3

theorem Lf.val_le {n : Nat} {st : List Int} {l : Lf} (h : l.ok n) (hs : stOk n st) : (l.val st).natAbs ≤ 3 := by
  cases l with
  | num k => exact h
  | var i =>
    have hi : i < st.length := by rw [hs.1]; exact h
    have : st.getD i 0 = st[i] := by simp [hi]
    show (st.getD i 0).natAbs ≤ 3
    rw [this]; exact hs.2 _ (List.getElem_mem _)

theorem Op.val_le (o : Op) (a b : Int) : (o.val a b).natAbs ≤ (a.natAbs + 1) * (b.natAbs + 1) := by
  have hpos : 1 ≤ (a.natAbs + 1) * (b.natAbs + 1) := Nat.mul_pos (by omega) (by omega)
  have e : (a.natAbs + 1) * (b.natAbs + 1) = a.natAbs * b.natAbs + a.natAbs + b.natAbs + 1 := by
    rw [Nat.add_mul, Nat.mul_add]; omega
  cases o <;> simp only [Op.val]
  · rw [e]; have := Int.natAbs_add_le a b; omega
  · rw [e]; have := Int.natAbs_sub_le a b; omega
  · rw [e, Int.natAbs_mul]; omega
  all_goals (split <;> simp <;> omega)

theorem run_append (st : List Int) : ∀ (xs ys : List It) (s : List Int), It.run st (xs ++ ys) s = (It.run st xs s).bind (It.run st ys)
  | [], ys, s => rfl
  | .lf (.num n) :: r, ys, s => by simp only [List.cons_append, It.run]; exact run_append st r ys _
  | .lf (.var i) :: r, ys, s => by
    simp only [List.cons_append, It.run]
    split
    · exact run_append st r ys _
    · rfl
  | .op o :: r, ys, s => by
    simp only [List.cons_append]
    by_cases ho : o = .not
    · subst ho
      cases s with
      | nil => simp [It.run]
      | cons a s => rw [run_not, run_not]; exact run_append st r ys _
    · match s with
      | b :: a :: s =>
        by_cases ha : a.natAbs < 2 ^ 32
        · rw [run_bin st _ ho b a s ha, run_bin st _ ho b a s ha]; exact run_append st r ys _
        · simp [It.run, ho, ha]
      | [b] => simp [It.run, ho]
      | [] => simp [It.run, ho]
theorem run_lf {n : Nat} {st : List Int} {l : Lf} (h : l.ok n) (hs : stOk n st) (r : List It) (s : List Int) : It.run st (.lf l :: r) s = It.run st r (l.val st :: s) := by
  cases l with
  | num k => rfl
  | var i =>
    have hi : i < st.length := by rw [hs.1]; exact h
    simp only [It.run, if_pos hi]; rfl

theorem run_ops {n : Nat} {st : List Int} (hs : stOk n st) : ∀ (ops : List (Op × Lf × Bool)) (items : List It) (v : Int), (∀ q ∈ ops, q.2.1.ok n ∧ (q.1 = .not → q.2.2 = false)) → (v.natAbs + 1) * 5 ^ ops.length ≤ 2 ^ 20 →
    (∀ s, It.run st items s = some (v :: s)) → ∀ s, It.run st (ops.foldl stepP items) s = some (ops.foldl (stepV st) v :: s)
  | [], items, v, _, _, h, s => h s
  | (o, lf, f) :: ops, items, v, hok, hb, h, s => by
    obtain ⟨hl, hf⟩ := hok (o, lf, f) (.head _)
    have hlv : (lf.val st).natAbs ≤ 3 := Lf.val_le hl hs
    have hv : v.natAbs < 2 ^ 20 := by
      have : 1 ≤ 5 ^ ((o, lf, f) :: ops).length := Nat.pow_pos (by omega)
      have := Nat.mul_le_mul_left (v.natAbs + 1) this
      omega
    rw [List.foldl_cons, List.foldl_cons]
    have hb' : ((stepV st v (o, lf, f)).natAbs + 1) * 5 ^ ops.length ≤ 2 ^ 20 := by
      refine Nat.le_trans ?_ hb
      rw [List.length_cons, Nat.pow_succ, Nat.mul_comm (5 ^ ops.length) 5, ← Nat.mul_assoc]
      refine Nat.mul_le_mul_right _ ?_
      have key : (stepV st v (o, lf, f)).natAbs ≤ (v.natAbs + 1) * 4 := by
        unfold stepV
        dsimp only
        split
        · have := o.val_le (lf.val st) v
          refine Nat.le_trans this ?_
          rw [Nat.mul_comm]
          exact Nat.mul_le_mul_left _ (by omega)
        · have := o.val_le v (lf.val st)
          exact Nat.le_trans this (Nat.mul_le_mul_left _ (by omega))
      omega
    refine run_ops hs ops _ _ (fun q hq => hok q (.tail _ hq)) hb' (fun s => ?_) s
    unfold stepP stepV
    dsimp only
    by_cases ho : o = .not
    · subst ho
      rw [if_pos rfl, run_append, h s]
      simp only [Option.bind_some]
      have hff : f = false := hf rfl
      subst hff
      rw [run_not]
      simp [It.run, Op.val]
    · rw [if_neg ho]
      cases f with
      | true =>
        simp only [if_true]
        rw [List.cons_append, run_lf hl hs, run_append, h]
        simp only [Option.bind_some]
        rw [run_bin st _ ho _ _ _ (by omega)]
        rfl
      | false =>
        simp only [Bool.false_eq_true, if_false]
        rw [List.append_assoc, run_append, h s]
        simp only [Option.bind_some, List.cons_append, List.nil_append]
        rw [run_lf hl hs, run_bin st _ ho _ _ _ (by omega)]
        rfl
theorem run_post {n : Nat} {st : List Int} {t : Tr} (ht : t.ok n) (hs : stOk n st) : It.run st t.post [] = some [t.val st] := by
  refine run_ops hs t.ops [.lf t.leaf] (t.leaf.val st) ht.2.2 ?_ (fun s => ?_) []
  · have := Lf.val_le ht.1 hs
    have h2 : 5 ^ t.ops.length ≤ 5 ^ 2 := Nat.pow_le_pow_right (by omega) ht.2.1
    exact Nat.le_trans (Nat.mul_le_mul (by omega : (t.leaf.val st).natAbs + 1 ≤ 4) h2) (by decide)
  · rw [run_lf ht.1 hs]; rfl
theorem post_len : ∀ (ops : List (Op × Lf × Bool)) (items : List It), (ops.foldl stepP items).length ≤ items.length + 2 * ops.length
  | [], items => by simp
  | q :: ops, items => by
    rw [List.foldl_cons]
    refine Nat.le_trans (post_len ops _) ?_
    have : (stepP items q).length ≤ items.length + 2 := by unfold stepP; split <;> (try split) <;> simp
    rw [List.length_cons]; omega
theorem Tr.post_le {n : Nat} {t : Tr} (ht : t.ok n) : t.post.length ≤ 10 := by
  have := post_len t.ops [.lf t.leaf]
  have := ht.2.1
  simp only [List.length_cons, List.length_nil] at *
  exact Nat.le_trans (post_len t.ops [.lf t.leaf]) (by simp; omega)
end

section
set_option linter.unusedVariables false
set_option maxRecDepth 100000
set_option maxHeartbeats 4000000
open PySem PyProof.Rows
noncomputable abbrev Rule := Tr × List (Nat × Tr)
noncomputable abbrev dP (t : Tr) : PyData := .list (t.post.map It.d)
noncomputable abbrev dWr (q : Nat × Tr) : PyData := .tuple [dN q.1, dP q.2]
noncomputable abbrev dRu (r : Rule) : PyData := .tuple [dP r.1, .list (r.2.map dWr)]
structure Md where
  base : Nat
  start : List Int
  rules : List Rule
noncomputable abbrev Md.d (m : Md) : PyData := .tuple [dN m.base, dS m.start, .list (m.rules.map dRu)]
noncomputable def Rule.ok (n : Nat) (r : Rule) : Prop := r.1.ok n ∧ r.2.length ≤ 2 ∧ ∀ q ∈ r.2, q.1 < n ∧ q.2.ok n
structure Md.ok (m : Md) : Prop where
  b1 : 1 ≤ m.base
  b3 : m.base ≤ 3
  n3 : m.start.length ≤ 3
  st : ∀ v ∈ m.start, 0 ≤ v ∧ v < m.base
  r3 : m.rules.length ≤ 3
  ru : ∀ r ∈ m.rules, r.ok m.start.length
noncomputable def Md.inBox (m : Md) (st : List Int) : Prop := st.length = m.start.length ∧ ∀ v ∈ st, 0 ≤ v ∧ v < m.base
theorem Md.inBox.stOk {m : Md} (h : m.ok) {st : List Int} (hs : m.inBox st) : stOk m.start.length st := ⟨hs.1, fun v hv => by have := hs.2 v hv; have := h.b3; omega⟩
noncomputable def Md.en (m : Md) (st : List Int) : List Nat := (List.range m.rules.length).filter fun k => match m.rules[k]? with | some r => decide (r.1.val st ≠ 0) | none => false
noncomputable def Md.fire (m : Md) (st : List Int) (k : Nat) : List Int := match m.rules[k]? with
  | some r => r.2.foldl (fun new q => new.set q.1 ((q.2.val st).fmod m.base)) st
  | none => st
noncomputable def codeOf (b : Nat) (st : List Int) : Int := st.foldl (fun code v => code * b + v) 0
noncomputable def stateOf (b : Nat) : Nat → Int → List Int → List Int
  | 0, c, acc => acc
  | n + 1, c, acc => stateOf b n (c.fdiv b) (c.fmod b :: acc)

section
variable {c : Cx} (pg : Pg c) {l : Nat}
include pg
theorem value_tr {n : Nat} {t : Tr} {st : List Int} (ht : t.ok n) (hs : stOk n st) (hn : n ≤ 3) : CallOK c (l+2) "value_of" [dP t, dS st] (· = .int (t.val st)) :=
  value_of_ok pg t.post st _ (run_post ht hs) (lim_of (by rw [hs.1]; omega)) (by have := Tr.post_le ht; omega)

theorem enabled_ok {m : Md} (hm : m.ok) {st : List Int} (hs : m.inBox st) : CallOK c (l+3) "enabled" [m.d, dS st] (· = .list ((m.en st).map dN)) := by
  have gd := pg.gd
  have a1 := pg.addr 2 (f := "value_of") rfl rfl
  refine pg.ok 3 (xs := ["model","state"]) rfl rfl (by decide +kernel) (by decide +kernel) (fun pm cd doc vs h => ?_) rfl ?_
  · match vs, h with
    | [a,b], _ => rfl
  · have hr := hm.r3
    refine ExL_cons ?_
    repeat' contradiction
    · simp [lim]; omega
    · simp; omega
    rw [List.length_map]
    refine compL_filter (f := dN) (fun k => match m.rules[k]? with | some r => decide (r.1.val st ≠ 0) | none => false) dN _ (fun k acc K' hk ha hK1 hK2 => ?_) (by simp [lim]; omega) ?_
    · have hk' : k < m.rules.length := by simpa using hk
      have hru := hm.ru _ (List.getElem_mem hk')
      repeat' contradiction
      refine iL (d := dRu m.rules[k]) ⟨by omega, by omega⟩ (by simp [hk']) ?_
      repeat' contradiction
      refine (value_tr pg hru.1 (Md.inBox.stOk hm hs) hm.n3).to (Nat.le_refl _) ?_
      repeat' contradiction
      · rename_i hv
        exact ⟨ha, hK1 (by simpa [hk'] using hv)⟩
      · rename_i hv
        exact hK2 (by simpa [hk'] using hv)
    · repeat' contradiction
      rfl

theorem fire_len {m : Md} {st : List Int} (k : Nat) : (m.fire st k).length = st.length := by
  unfold Md.fire
  split
  · rename_i r _
    generalize r.2 = ws
    have : ∀ (ws : List (Nat × Tr)) (new : List Int), (ws.foldl (fun new q => new.set q.1 ((q.2.val st).fmod m.base)) new).length = new.length := by
      intro ws
      induction ws with
      | nil => intro new; rfl
      | cons q r ih => intro new; rw [List.foldl_cons, ih, List.length_set]
    exact this ws st
  · rfl
theorem fire_box {m : Md} (hm : m.ok) {st : List Int} (hs : m.inBox st) (k : Nat) : m.inBox (m.fire st k) := by
  refine ⟨(fire_len pg k).trans hs.1, ?_⟩
  unfold Md.fire
  split
  · rename_i r _
    generalize r.2 = ws
    have : ∀ (ws : List (Nat × Tr)) (new : List Int), (∀ v ∈ new, 0 ≤ v ∧ v < m.base) → ∀ v ∈ ws.foldl (fun new q => new.set q.1 ((q.2.val st).fmod m.base)) new, 0 ≤ v ∧ v < m.base := by
      intro ws
      induction ws with
      | nil => intro new h; exact h
      | cons q r ih =>
        intro new h
        rw [List.foldl_cons]
        refine ih _ fun v hv => ?_
        rcases List.mem_or_eq_of_mem_set hv with hv | rfl
        · exact h v hv
        · have h1 := hm.b1
          exact ⟨Int.fmod_nonneg_of_pos _ (by omega), Int.fmod_lt_of_pos _ (by omega)⟩
    exact this ws st hs.2
  · exact hs.2

theorem fired_ok {m : Md} (hm : m.ok) {st : List Int} (hs : m.inBox st) {k : Nat} (hk : k < m.rules.length) : CallOK c (l+3) "fired" [m.d, dS st, dN k] (· = dS (m.fire st k)) := by
  have gd := pg.gd
  have a1 := pg.addr 2 (f := "value_of") rfl rfl
  refine pg.ok 4 (xs := ["model","state","k"]) rfl rfl (by decide +kernel) (by decide +kernel) (fun pm cd doc vs h => ?_) rfl ?_
  · match vs, h with
    | [a,b,c], _ => rfl
  · have hr := hm.r3
    have hn := hm.n3
    have hb1 := hm.b1
    have hru := hm.ru _ (List.getElem_mem hk)
    have hz := hs.1
    have o1 : OwnName "new" := .mk
    refine ExL_cons ?_
    repeat' contradiction
    · simp [lim]; omega
    refine ExS_for rfl ?_
    repeat' contradiction
    refine iL (d := dRu m.rules[k]) ⟨by omega, by omega⟩ (by simp [hk]) ?_
    repeat' contradiction
    refine forW_inv (f := dWr) (fun r pe => ∃ new : List Int, new.length = st.length ∧ r.foldl (fun new q => new.set q.1 ((q.2.val st).fmod m.base)) new = m.fire st k ∧ (∀ q ∈ r, q.1 < st.length ∧ q.2.ok st.length) ∧ pe "new" = some ⟨dS new, true⟩ ∧ pe "state" = some ⟨dS st, false⟩ ∧ pe "base" = some ⟨dN m.base, false⟩) (fun pe hI => ?_) (fun a r pe K' hI hn hc hb hr => ?_) _ _ ⟨st, rfl, ?_, ?_, rfl, rfl, rfl⟩
    · obtain ⟨new, h1, h2, h3, h4, h5, h6⟩ := hI
      repeat' contradiction
      rw [← h2]; rfl
    · obtain ⟨new, h1, h2, h3, h4, h5, h6⟩ := hI
      clear hc hb hr
      obtain ⟨q1, q2⟩ := h3 a (.head _)
      repeat' contradiction
      refine (value_tr pg q2 ⟨rfl, (Md.inBox.stOk hm hs).2⟩ (by omega)).to (Nat.le_refl _) ?_
      repeat' contradiction
      · omega
      refine sL ⟨by omega, by simp; omega, by simp [lim]; omega⟩ ?_
      repeat' contradiction
      refine hn _ ⟨new.set a.1 ((a.2.val st).fmod m.base), by simp [h1], h2, fun q hq => h3 q (.tail _ hq), ?_, h5, h6⟩
      rw [← List.map_set]; rfl
    · simp [Md.fire, hk]
    · intro q hq
      have := hru.2.2 q hq
      rw [hz]; exact this

theorem code_of_ok {m : Md} (hm : m.ok) {st : List Int} (hs : m.inBox st) : CallOK c (l+1) "code_of" [m.d, dS st] (· = .int (codeOf m.base st)) := by
  have gd := pg.gd
  refine pg.ok 5 (xs := ["model","state"]) rfl rfl (by decide +kernel) (by decide +kernel) (fun pm cd doc vs h => ?_) rfl ?_
  · match vs, h with
    | [a,b], _ => rfl
  · have hn := hm.n3
    have hb1 := hm.b1
    have hb3 := hm.b3
    have hz := hs.1
    refine ExL_cons ?_
    repeat' contradiction
    refine ExS_for rfl ?_
    repeat' contradiction
    refine forW_inv (f := dI) (fun r pe => ∃ acc : Int, (acc.natAbs + 1) * 4 ^ r.length ≤ 64 ∧ r.foldl (fun (code : Int) (v : Int) => code * (m.base : Int) + v) acc = codeOf m.base st ∧ (∀ v ∈ r, 0 ≤ v ∧ v < m.base) ∧ pe "code" = some ⟨dI acc, false⟩ ∧ pe "base" = some ⟨dN m.base, false⟩) (fun pe hI => ?_) (fun a r pe K' hI hn hc hb hr => ?_) _ _ ⟨0, ?_, rfl, hs.2, rfl, rfl⟩
    · obtain ⟨acc, h1, h2, h3, h4, h5⟩ := hI
      repeat' contradiction
      rw [← h2]; rfl
    · obtain ⟨acc, h1, h2, h3, h4, h5⟩ := hI
      clear hc hb hr
      obtain ⟨q1, q2⟩ := h3 a (.head _)
      have hacc : acc.natAbs + 1 ≤ 64 := Nat.le_trans (Nat.le_mul_of_pos_right _ (Nat.pow_pos (by omega))) h1
      repeat' contradiction
      · omega
      refine hn _ ⟨acc * m.base + a, ?_, h2, fun q hq => h3 q (.tail _ hq), rfl, h5⟩
      rw [List.length_cons, Nat.pow_succ, Nat.mul_comm (4 ^ r.length) 4, ← Nat.mul_assoc] at h1
      refine Nat.le_trans (Nat.mul_le_mul_right _ ?_) h1
      have e1 := Int.natAbs_add_le (acc * m.base) a
      rw [Int.natAbs_mul] at e1
      have e2 : acc.natAbs * (m.base : Int).natAbs ≤ acc.natAbs * 3 := Nat.mul_le_mul_left _ (by omega)
      omega
    · rw [hz]
      have : 4 ^ m.start.length ≤ 4 ^ 3 := Nat.pow_le_pow_right (by omega) hn
      simpa using this

theorem state_of_ok {m : Md} (hm : m.ok) (k : Int) : CallOK c (l+1) "state_of" [m.d, .int k] (· = dS (stateOf m.base m.start.length k [])) := by
  have gd := pg.gd
  refine pg.ok 6 (xs := ["model","code"]) rfl rfl (by decide +kernel) (by decide +kernel) (fun pm cd doc vs h => ?_) rfl ?_
  · match vs, h with
    | [a,b], _ => rfl
  · have hn := hm.n3
    have hb1 := hm.b1
    have hb3 := hm.b3
    refine ExL_cons ?_
    repeat' contradiction
    refine ExS_for rfl ?_
    repeat' contradiction
    · simp [lim]; omega
    · simp; omega
    rw [List.length_map]
    refine forW_inv (f := dN) (fun r pe => ∃ (acc : List Int) (x : Int), acc.length + r.length ≤ 3 ∧ stateOf m.base r.length x acc = stateOf m.base m.start.length k [] ∧ pe "state" = some ⟨dS acc, false⟩ ∧ pe "rest" = some ⟨dI x, false⟩ ∧ pe "base" = some ⟨dN m.base, false⟩) (fun pe hI => ?_) (fun a r pe K' hI hn hc hb hr => ?_) _ _ ⟨[], k, ?_, ?_, rfl, rfl, rfl⟩
    · obtain ⟨acc, x, h1, h2, h3, h4, h5⟩ := hI
      repeat' contradiction
      rw [← h2]; rfl
    · obtain ⟨acc, x, h1, h2, h3, h4, h5⟩ := hI
      clear hc hb hr
      rw [List.length_cons] at h1
      repeat' contradiction
      · omega
      · simp [lim]; omega
      · omega
      · omega
      refine hn _ ⟨x.fmod m.base :: acc, x.fdiv m.base, by simp; omega, h2, rfl, rfl, h5⟩
    · simpa using hn
    · simp

theorem box_size_ok {m : Md} (hm : m.ok) : CallOK c (l+1) "box_size" [m.d] (· = .int ((m.base : Int) ^ m.start.length)) := by
  have gd := pg.gd
  refine pg.ok 7 (xs := ["model"]) rfl rfl (by decide +kernel) (by decide +kernel) (fun pm cd doc vs h => ?_) rfl ?_
  · match vs, h with
    | [a], _ => rfl
  · have hn := hm.n3
    have hb3 := hm.b3
    refine ExL_cons ?_
    repeat' contradiction
    · simp [lim]; omega
    · simp; omega
    · simp
end
end

section
set_option linter.unusedVariables false

structure TS where
  N : Nat
  mv : Nat → List (Nat × Nat)
  s0 : Nat
structure TS.ok (T : TS) : Prop where
  n : T.N ≤ 9
  s0 : T.s0 < T.N
  tgt : ∀ c, c < T.N → ∀ q ∈ T.mv c, q.2 < T.N
  asc : ∀ c, c < T.N → ((T.mv c).map (·.1)).Pairwise (· < ·)

/-- states found and their parents -/
structure LP where
  L : List Nat
  P : List (Int × Int)
noncomputable def add (p : Nat) (s : LP) (q : Nat × Nat) : LP := if q.2 ∈ s.L then s else ⟨s.L ++ [q.2], s.P ++ [((p : Int), (q.1 : Int))]⟩
noncomputable def visit (p : Nat) (qs : List (Nat × Nat)) (s : LP) : LP := qs.foldl (add p) s
noncomputable def TS.bfs (T : TS) : Nat → Nat → LP → LP
  | 0, _, s => s
  | n + 1, p, s => match s.L[p]? with
    | some x => T.bfs n (p + 1) (visit p (T.mv x) s)
    | none => s
noncomputable def TS.start (T : TS) : LP := ⟨[T.s0], [(-1, -1)]⟩
noncomputable def TS.full (T : TS) : LP := T.bfs (T.N + 1) 0 T.start

/-- one list begins another -/
noncomputable def Pre (s s' : LP) : Prop := ∃ xs ys, s'.L = s.L ++ xs ∧ s'.P = s.P ++ ys ∧ xs.length = ys.length
theorem Pre.refl (s : LP) : Pre s s := ⟨[], [], by simp, by simp, rfl⟩
theorem Pre.trans {a b c : LP} (h : Pre a b) (k : Pre b c) : Pre a c := by
  obtain ⟨x, y, h1, h2, h3⟩ := h
  obtain ⟨u, v, k1, k2, k3⟩ := k
  exact ⟨x ++ u, y ++ v, by rw [k1, h1, List.append_assoc], by rw [k2, h2, List.append_assoc], by simp [h3, k3]⟩
theorem add_pre (p : Nat) (s : LP) (q : Nat × Nat) : Pre s (add p s q) := by
  unfold add; split
  · exact .refl _
  · exact ⟨_, _, rfl, rfl, rfl⟩
theorem visit_pre (p : Nat) : ∀ (qs : List (Nat × Nat)) (s : LP), Pre s (visit p qs s)
  | [], s => .refl _
  | q :: qs, s => (add_pre p s q).trans (visit_pre p qs _)
theorem TS.bfs_pre (T : TS) : ∀ (n p : Nat) (s : LP), Pre s (T.bfs n p s)
  | 0, _, s => .refl _
  | n + 1, p, s => by
    rw [TS.bfs]; split
    · exact (visit_pre _ _ _).trans (T.bfs_pre n _ _)
    · exact .refl _

/-- what holds all the while -/
structure BI (T : TS) (s : LP) : Prop where
  len : s.L.length = s.P.length
  nd : s.L.Nodup
  lt : ∀ x ∈ s.L, x < T.N
theorem TS.ok.start {T : TS} (h : T.ok) : BI T T.start := ⟨rfl, by simp [TS.start], fun x hx => by simp [TS.start] at hx; subst hx; exact h.s0⟩
theorem BI.add {T : TS} {s : LP} (h : BI T s) {p : Nat} {q : Nat × Nat} (hq : q.2 < T.N) : BI T (Mine.add p s q) := by
  unfold Mine.add; split
  · exact h
  · rename_i hn
    refine ⟨by simp [h.len], ?_, fun x hx => ?_⟩
    · rw [List.nodup_append]
      exact ⟨h.nd, by simp, fun a ha b hb => by simp at hb; subst hb; exact fun e => hn (e ▸ ha)⟩
    · rcases List.mem_append.mp hx with hx | hx
      · exact h.lt x hx
      · simp at hx; subst hx; exact hq
theorem BI.visit {T : TS} {p : Nat} : ∀ {qs : List (Nat × Nat)} {s : LP}, BI T s → (∀ q ∈ qs, q.2 < T.N) → BI T (Mine.visit p qs s)
  | [], s, h, _ => h
  | q :: qs, s, h, hq => by
    have h1 := h.add (p := p) (hq q (.head _))
    exact BI.visit (qs := qs) h1 fun r hr => hq r (.tail _ hr)
theorem nodup_le : ∀ {N : Nat} {l : List Nat}, l.Nodup → (∀ x ∈ l, x < N) → l.length ≤ N
  | 0, [], _, _ => Nat.le_refl _
  | 0, x :: l, _, h => absurd (h x (.head _)) (by omega)
  | N + 1, l, hn, hl => by
    by_cases hN : N ∈ l
    · have h1 := List.length_erase_of_mem hN
      have h2 := nodup_le (N := N) (hn.erase N) fun x hx => by
        have := (List.Nodup.mem_erase_iff hn).mp hx
        have h3 := hl x this.2
        have h4 := this.1
        omega
      omega
    · have := nodup_le (N := N) hn fun x hx => by
        have h3 := hl x hx
        have h4 : x ≠ N := fun e => hN (e ▸ hx)
        omega
      omega
theorem BI.le {T : TS} {s : LP} (h : BI T s) : s.L.length ≤ T.N := nodup_le h.nd h.lt
theorem BI.bfs {T : TS} (ok : T.ok) : ∀ (n p : Nat) {s : LP}, BI T s → BI T (T.bfs n p s)
  | 0, _, s, h => h
  | n + 1, p, s, h => by
    rw [TS.bfs]; split
    · rename_i x hx
      exact BI.bfs ok n _ (h.visit (ok.tgt x (h.lt x (List.mem_of_getElem? hx))))
    · exact h
/-- with fuel enough the end is no turn's -/
theorem TS.bfs_end {T : TS} (ok : T.ok) : ∀ (n p : Nat) {s : LP}, BI T s → T.N < p + n → T.bfs n p s = T.bfs (n + 1) p s
  | 0, p, s, h, hf => by
    have := h.le
    rw [TS.bfs, TS.bfs]
    have : s.L[p]? = none := List.getElem?_eq_none (by omega)
    rw [this]
  | n + 1, p, s, h, hf => by
    rw [TS.bfs, TS.bfs]
    cases hx : s.L[p]? with
    | none => rfl
    | some x => exact T.bfs_end ok n (p + 1) (h.visit (ok.tgt x (h.lt x (List.mem_of_getElem? hx)))) (by omega)
theorem take_pre {s f : LP} (h : Pre s f) (hl : s.L.length = s.P.length) {q : Nat} {r : Int × Int} (h2 : Pre ⟨s.L ++ [q], s.P ++ [r]⟩ f) {n : Nat} (hn : s.L.length = n) : f.L.take n = s.L ∧ f.P.take n = s.P ∧ decide (f.L.length ≤ n) = false := by
  obtain ⟨xs, ys, h3, h4, h5⟩ := h2
  subst hn
  simp only at h3 h4
  refine ⟨?_, ?_, ?_⟩
  · rw [h3, List.append_assoc, List.take_append_of_le_length (Nat.le_refl _), List.take_length]
  · rw [h4, List.append_assoc, hl, List.take_append_of_le_length (Nat.le_refl _), List.take_length]
  · rw [h3]; simp
theorem add_in {p : Nat} {s : LP} {q : Nat × Nat} (h : q.2 ∈ s.L) : add p s q = s := by unfold add; rw [if_pos h]
theorem add_new {p : Nat} {s : LP} {q : Nat × Nat} (h : ¬ q.2 ∈ s.L) : add p s q = ⟨s.L ++ [q.2], s.P ++ [((p : Int), (q.1 : Int))]⟩ := by unfold add; rw [if_neg h]
theorem visit_cons (p : Nat) (q : Nat × Nat) (qs : List (Nat × Nat)) (s : LP) : visit p (q :: qs) s = visit p qs (add p s q) := rfl
end

section
set_option linter.unusedVariables false
set_option maxRecDepth 100000
set_option maxHeartbeats 4000000
open PySem PyProof.Rows
structure Sys (c : Cx) (l : Nat) (m : Md) (T : TS) (box : Nat → List Int) : Prop where
  ok : T.ok
  en : ∀ x, x < T.N → CallOK c l "enabled" [m.d, dS (box x)] (· = .list ((T.mv x).map fun q => dN q.1))
  fi : ∀ x, x < T.N → ∀ q ∈ T.mv x, CallOK c l "fired" [m.d, dS (box x), dN q.1] (· = dS (box q.2))
  co : ∀ x, x < T.N → CallOK c l "code_of" [m.d, dS (box x)] (· = dN x)
  so : ∀ x, x < T.N → CallOK c l "state_of" [m.d, dN x] (· = dS (box x))
  bs : CallOK c l "box_size" [m.d] (· = dN T.N)
  inj : ∀ x y, x < T.N → y < T.N → box x = box y → x = y
  st : m.start = box T.s0
  blen : ∀ x, x < T.N → (box x).length ≤ 3

noncomputable abbrev dB (box : Nat → List Int) (L : List Nat) : PyData := .list (L.map fun x => dS (box x))
noncomputable abbrev dPP (P : List (Int × Int)) : PyData := .list (P.map pairI)

theorem dB_app (box : Nat → List Int) (L : List Nat) (y : Nat) : dB box (L ++ [y]) = .list (L.map (fun x => dS (box x)) ++ [dS (box y)]) := by simp [dB]
theorem dPP_app (P : List (Int × Int)) (y : Int × Int) : dPP (P ++ [y]) = .list (P.map pairI ++ [pairI y]) := by simp [dPP]
theorem eqv_ints : ∀ (a b : List Int), PyData.eqvAll (a.map dI) (b.map dI) = decide (a = b)
  | [], [] => by simp [PyData.eqvAll]
  | [], _ :: _ => by simp [PyData.eqvAll]
  | _ :: _, [] => by simp [PyData.eqvAll]
  | x :: a, y :: b => by
    simp only [List.map_cons, PyData.eqvAll, eqv_int, eqv_ints a b]
    by_cases h : x = y <;> by_cases h2 : a = b <;> simp [h, h2]
theorem eqv_dS (a b : List Int) : PyData.eqv (dS a) (dS b) = decide (a = b) := by
  simp only [PyData.eqv]; exact eqv_ints a b
theorem okD_ints (n : Nat) (a : List Int) : okD (n + 1) (dS a) := fun x hx => by
  obtain ⟨i, _, rfl⟩ := List.mem_map.mp hx
  cases n <;> trivial
theorem okD_box (n : Nat) (box : Nat → List Int) (L : List Nat) : okD (n + 2) (dB box L) := fun x hx => by
  obtain ⟨i, _, rfl⟩ := List.mem_map.mp hx
  exact okD_ints n _
theorem any_box {N : Nat} {box : Nat → List Int} (inj : ∀ x y, x < N → y < N → box x = box y → x = y) {L : List Nat} (hL : ∀ x ∈ L, x < N) {y : Nat} (hy : y < N) :
    ((L.map fun x => dS (box x)).any fun z => PyData.eqv z (dS (box y))) = decide (y ∈ L) := by
  rw [Bool.eq_iff_iff]
  simp only [List.any_map, List.any_eq_true, Function.comp, decide_eq_true_eq]
  constructor
  · rintro ⟨x, hx, e⟩
    rw [eqv_dS] at e
    exact inj x y (hL x hx) hy (of_decide_eq_true e) ▸ hx
  · intro h
    exact ⟨y, h, by rw [eqv_dS]; simp⟩
theorem notin_box {N : Nat} {box : Nat → List Int} (inj : ∀ x y, x < N → y < N → box x = box y → x = y) {L : List Nat} (hL : ∀ x ∈ L, x < N) {y : Nat} (hy : y < N) {B : Bool → Prop} (h : B (!decide (y ∈ L))) :
    cmpW .NotIn (dS (box y)) (dB box L) B := ⟨⟨okD_box 18 box L, okD_ints 19 _⟩, by rw [any_box inj hL hy]; exact h⟩

section
variable {c : Cx} (pg : Pg c) {l : Nat} {m : Md} {T : TS} {box : Nat → List Int}
include pg
theorem explored_ok (S : Sys c l m T box) {limit : Nat} (h1 : 1 ≤ limit) :
    CallOK c (l+1) "explored" [m.d, dN limit] (· = .tuple [dB box (T.full.L.take limit), dPP (T.full.P.take limit), .bool (decide (T.full.L.length ≤ limit))]) := by
  have gd := pg.gd
  have a1 := pg.addr 3 (f := "enabled") rfl rfl
  have a2 := pg.addr 4 (f := "fired") rfl rfl
  refine pg.ok 8 (xs := ["model","limit"]) rfl rfl (by decide +kernel) (by decide +kernel) (fun pm cd doc vs h => ?_) rfl ?_
  · match vs, h with
    | [a,b], _ => rfl
  · have o1 : OwnName "states" := .mk
    have o2 : OwnName "parents" := .mk
    have hN := S.ok.n
    have hb0 := S.blen _ S.ok.s0
    refine ExL_cons ?_
    repeat' contradiction
    · rw [S.st]; simp [lim]; omega
    refine ExS_while (whileW_inv (fun n pe => ∃ (s : LP) (place : Nat), T.N < place + n ∧ BI T s ∧ T.bfs n place s = T.full ∧ s.L.length ≤ limit ∧ pe "states" = some ⟨dB box s.L, true⟩ ∧ pe "parents" = some ⟨dPP s.P, true⟩ ∧ pe "place" = some ⟨dN place, false⟩ ∧ pe "model" = some ⟨m.d, false⟩ ∧ pe "limit" = some ⟨dN limit, false⟩)
      (fun n pe K' hI hn hc hb hr => ?_) (n := T.N + 1) ⟨T.start, 0, by omega, S.ok.start, rfl, h1, ?_, rfl, rfl, rfl, rfl⟩)
    · obtain ⟨s, place, e1, e2, e3, e4, p1, p2, p3, p4, p5⟩ := hI
      have hle := e2.le
      have hll : (List.map (fun x => dS (box x)) s.L).length ≤ lim := by simp [lim]; omega
      repeat' contradiction
      · exact hll
      · rename_i hlt
        have hlt : place < s.L.length := by simpa using hlt
        obtain ⟨n, rfl⟩ : ∃ k, n = k + 1 := ⟨n - 1, by omega⟩
        have hx : s.L[place]? = some s.L[place] := by simp [hlt]
        have hxN : s.L[place] < T.N := e2.lt _ (List.getElem_mem hlt)
        rw [TS.bfs, hx] at e3
        simp only at e3
        generalize s.L[place] = x at hx hxN e3
        refine iL (d := dS (box x)) ⟨by omega, by omega⟩ (by simp [hx]) ?_
        repeat' contradiction
        refine ExS_for rfl ?_
        repeat' contradiction
        refine (S.en x hxN).to (Nat.le_refl _) ?_
        repeat' contradiction
        refine forW_inv (f := fun q => dN q.1) (fun r pe => ∃ s : LP, BI T s ∧ T.bfs n (place + 1) (visit place r s) = T.full ∧ s.L.length ≤ limit ∧ (∀ q ∈ r, q ∈ T.mv x) ∧ pe "states" = some ⟨dB box s.L, true⟩ ∧ pe "parents" = some ⟨dPP s.P, true⟩ ∧ pe "place" = some ⟨dN place, false⟩ ∧ pe "model" = some ⟨m.d, false⟩ ∧ pe "limit" = some ⟨dN limit, false⟩ ∧ pe "here" = some ⟨dS (box x), false⟩)
          (fun pe hI => ?_) (fun q r pe K'' hI hn' hc' hb' hr' => ?_) _ _ ?_
        · obtain ⟨s, f1, f2, f3, f4, g1, g2, g3, g4, g5, g6⟩ := hI
          repeat' contradiction
          exact hn n _ (by omega) ⟨s, place + 1, by omega, f1, f2, f3, g1, g2, rfl, g4, g5⟩
        · obtain ⟨s, f1, f2, f3, f4, g1, g2, g3, g4, g5, g6⟩ := hI
          have hq := f4 q (.head _)
          have hqN := S.ok.tgt x hxN q hq
          have hle := f1.le
          have hll : (List.map (fun x => dS (box x)) s.L).length ≤ lim := by simp [lim]; omega
          have hpl : (List.map pairI s.P).length ≤ lim := by rw [List.length_map, ← f1.len]; simp [lim]; omega
          rw [visit_cons] at f2
          clear p1 p2 p3 p4 p5 hc hb hc' hb'
          repeat' contradiction
          refine (S.fi x hxN q hq).to (Nat.le_refl _) ?_
          repeat' contradiction
          refine notin_box S.inj f1.lt hqN ?_
          repeat' contradiction
          · exact hll
          · rename_i hni hge
            have hge : limit ≤ s.L.length := by simpa using hge
            rw [add_new hni] at f2
            have hp : Pre ⟨s.L ++ [q.2], s.P ++ [((place : Int), (q.1 : Int))]⟩ T.full := by
              rw [← f2]; exact (visit_pre _ _ _).trans (T.bfs_pre _ _ _)
            obtain ⟨t1, t2, t3⟩ := take_pre (s := s) (Pre.trans ⟨[q.2], [_], rfl, rfl, rfl⟩ hp) f1.len hp (n := limit) (by omega)
            refine hr' _ _ (tW_ret (hr _ _ (tW_ret (rW_ret ?_))))
            rw [t1, t2, t3]
          · exact hll
          · exact hpl
          · rename_i hni hge
            have hge : ¬ limit ≤ s.L.length := by simpa using hge
            rw [add_new hni] at f2
            refine hn' _ ⟨⟨s.L ++ [q.2], s.P ++ [((place : Int), (q.1 : Int))]⟩, ?_, f2, by simp; omega, fun q' hq' => f4 q' (.tail _ hq'), ?_, ?_, g3, g4, g5, g6⟩
            · rw [← add_new (p := place) hni]; exact f1.add hqN
            · rw [dB_app]; rfl
            · rw [dPP_app]; rfl
          · rename_i hni
            rw [add_in hni] at f2
            exact hn' _ ⟨s, f1, f2, f3, fun q' hq' => f4 q' (.tail _ hq'), g1, g2, g3, g4, g5, g6⟩
        · exact ⟨s, e2, e3, e4, fun q hq => hq, p1, p2, p3, p4, p5, rfl⟩
      · rename_i hlt
        have hlt : s.L[place]? = none := List.getElem?_eq_none (by simpa using hlt)
        have hs : s = T.full := by
          rw [← e3]
          cases n with
          | zero => rfl
          | succ n => rw [TS.bfs, hlt]
        repeat' contradiction
        rw [← hs, List.take_of_length_le e4, List.take_of_length_le (by rw [← e2.len]; exact e4), decide_eq_true e4]
    · rw [S.st]; rfl
end
end

section
set_option linter.unusedVariables false
set_option maxRecDepth 100000
set_option maxHeartbeats 4000000
open PySem PyProof.Rows
noncomputable abbrev dSeen (L : List Nat) : PyData := .dict (L.map fun x => (dN x, .bool true))
theorem dSeen_app (L : List Nat) (y : Nat) : dSeen (L ++ [y]) = .dict (L.map (fun x => (dN x, .bool true)) ++ [(dN y, .bool true)]) := by simp [dSeen]
theorem getK_seen : ∀ (L : List Nat) (y : Nat), (getK (L.map fun x => (dN x, .bool true)) (dN y)).isSome = decide (y ∈ L)
  | [], y => by simp [getK]
  | x :: L, y => by
    rw [List.map_cons, getK_cons]
    by_cases h : x = y
    · subst h; simp [kEq]
    · have h2 : ¬ kEq (dN x) (dN y) = true := by simp [kEq]; omega
      rw [if_neg h2, getK_seen L y]
      have h3 : ¬ y = x := fun e => h e.symm
      simp [h3]
theorem kind_seen (L : List Nat) (y : Int) : kindOk (L.map fun x => (dN x, .bool true)) (.int y) := fun q hq => by
  obtain ⟨z, _, rfl⟩ := List.mem_map.mp hq
  trivial
theorem notin_seen {L : List Nat} {y : Nat} {B : Bool → Prop} (h : B (!decide (y ∈ L))) : cmpW .NotIn (dN y) (dSeen L) B := ⟨kind_seen L y, trivial, by rw [getK_seen]; exact h⟩
theorem seen_new {L : List Nat} {y : Nat} (hl : L.length ≤ 9) (h : ¬ y ∈ L) : kindOk (L.map fun x => (dN x, .bool true)) (.int y) ∧ (L.map fun x => (dN x, PyData.bool true)).length ≤ lim ∧ getK (L.map fun x => (dN x, .bool true)) (.int y) = none := by
  refine ⟨kind_seen L y, by simp [lim]; omega, ?_⟩
  have := getK_seen L y
  rw [decide_eq_false h] at this
  simpa using this
section
variable {c : Cx} (pg : Pg c) {l : Nat} {m : Md} {T : TS} {box : Nat → List Int}
include pg
theorem explored_fast_ok (S : Sys c l m T box) {limit : Nat} (h1 : 1 ≤ limit) :
    CallOK c (l+1) "explored_fast" [m.d, dN limit] (· = .tuple [dB box (T.full.L.take limit), dPP (T.full.P.take limit), .bool (decide (T.full.L.length ≤ limit))]) := by
  have gd := pg.gd
  have a1 := pg.addr 3 (f := "enabled") rfl rfl
  have a2 := pg.addr 4 (f := "fired") rfl rfl
  have a3 := pg.addr 5 (f := "code_of") rfl rfl
  refine pg.ok 13 (xs := ["model","limit"]) rfl rfl (by decide +kernel) (by decide +kernel) (fun pm cd doc vs h => ?_) rfl ?_
  · match vs, h with
    | [a,b], _ => rfl
  · have o1 : OwnName "states" := .mk
    have o2 : OwnName "parents" := .mk
    have o3 : OwnName "seen" := .mk
    have hN := S.ok.n
    have hb0 := S.blen _ S.ok.s0
    refine ExL_cons ?_
    repeat' contradiction
    · rw [S.st]; simp [lim]; omega
    refine EvF_dictI gd rfl rfl (by simp) (by decide) (EvP_cons ?_)
    repeat' contradiction
    have hc0 := S.co T.s0 S.ok.s0
    rw [← S.st] at hc0
    refine hc0.to (Nat.le_refl _) ?_
    repeat' contradiction
    refine ⟨⟨[((T.s0 : Int), .bool true)], rfl, by simp⟩, ?_⟩
    repeat' contradiction
    refine ExS_while (whileW_inv (fun n pe => ∃ (s : LP) (place : Nat), T.N < place + n ∧ BI T s ∧ T.bfs n place s = T.full ∧ s.L.length ≤ limit ∧ pe "states" = some ⟨dB box s.L, true⟩ ∧ pe "parents" = some ⟨dPP s.P, true⟩ ∧ pe "place" = some ⟨dN place, false⟩ ∧ pe "model" = some ⟨m.d, false⟩ ∧ pe "limit" = some ⟨dN limit, false⟩ ∧ pe "seen" = some ⟨dSeen s.L, true⟩)
      (fun n pe K' hI hn hc hb hr => ?_) (n := T.N + 1) ⟨T.start, 0, by omega, S.ok.start, rfl, h1, ?_, rfl, rfl, rfl, rfl, rfl⟩)
    · obtain ⟨s, place, e1, e2, e3, e4, p1, p2, p3, p4, p5, p6⟩ := hI
      have hle := e2.le
      have hll : (List.map (fun x => dS (box x)) s.L).length ≤ lim := by simp [lim]; omega
      repeat' contradiction
      · exact hll
      · rename_i hlt
        have hlt : place < s.L.length := by simpa using hlt
        obtain ⟨n, rfl⟩ : ∃ k, n = k + 1 := ⟨n - 1, by omega⟩
        have hx : s.L[place]? = some s.L[place] := by simp [hlt]
        have hxN : s.L[place] < T.N := e2.lt _ (List.getElem_mem hlt)
        rw [TS.bfs, hx] at e3
        simp only at e3
        generalize s.L[place] = x at hx hxN e3
        refine iL (d := dS (box x)) ⟨by omega, by omega⟩ (by simp [hx]) ?_
        repeat' contradiction
        refine ExS_for rfl ?_
        repeat' contradiction
        refine (S.en x hxN).to (Nat.le_refl _) ?_
        repeat' contradiction
        refine forW_inv (f := fun q => dN q.1) (fun r pe => ∃ s : LP, BI T s ∧ T.bfs n (place + 1) (visit place r s) = T.full ∧ s.L.length ≤ limit ∧ (∀ q ∈ r, q ∈ T.mv x) ∧ pe "states" = some ⟨dB box s.L, true⟩ ∧ pe "parents" = some ⟨dPP s.P, true⟩ ∧ pe "place" = some ⟨dN place, false⟩ ∧ pe "model" = some ⟨m.d, false⟩ ∧ pe "limit" = some ⟨dN limit, false⟩ ∧ pe "here" = some ⟨dS (box x), false⟩ ∧ pe "seen" = some ⟨dSeen s.L, true⟩)
          (fun pe hI => ?_) (fun q r pe K'' hI hn' hc' hb' hr' => ?_) _ _ ?_
        · obtain ⟨s, f1, f2, f3, f4, g1, g2, g3, g4, g5, g6, g7⟩ := hI
          repeat' contradiction
          exact hn n _ (by omega) ⟨s, place + 1, by omega, f1, f2, f3, g1, g2, rfl, g4, g5, g7⟩
        · obtain ⟨s, f1, f2, f3, f4, g1, g2, g3, g4, g5, g6, g7⟩ := hI
          have hq := f4 q (.head _)
          have hqN := S.ok.tgt x hxN q hq
          have hle := f1.le
          have hll : (List.map (fun x => dS (box x)) s.L).length ≤ lim := by simp [lim]; omega
          have hpl : (List.map pairI s.P).length ≤ lim := by rw [List.length_map, ← f1.len]; simp [lim]; omega
          rw [visit_cons] at f2
          clear p1 p2 p3 p4 p5 p6 hc hb hc' hb'
          repeat' contradiction
          refine (S.fi x hxN q hq).to (Nat.le_refl _) ?_
          repeat' contradiction
          refine (S.co q.2 hqN).to (Nat.le_refl _) ?_
          repeat' contradiction
          refine notin_seen ?_
          repeat' contradiction
          · exact hll
          · rename_i hni hge
            have hge : limit ≤ s.L.length := by simpa using hge
            rw [add_new hni] at f2
            have hp : Pre ⟨s.L ++ [q.2], s.P ++ [((place : Int), (q.1 : Int))]⟩ T.full := by
              rw [← f2]; exact (visit_pre _ _ _).trans (T.bfs_pre _ _ _)
            obtain ⟨t1, t2, t3⟩ := take_pre (s := s) (Pre.trans ⟨[q.2], [_], rfl, rfl, rfl⟩ hp) f1.len hp (n := limit) (by omega)
            refine hr' _ _ (tW_ret (hr _ _ (tW_ret (rW_ret ?_))))
            rw [t1, t2, t3]
          refine sD (seen_new (by omega) (by assumption)) ?_
          repeat' contradiction
          · exact hll
          · exact hpl
          · rename_i hni hge
            have hge : ¬ limit ≤ s.L.length := by simpa using hge
            rw [add_new hni] at f2
            refine hn' _ ⟨⟨s.L ++ [q.2], s.P ++ [((place : Int), (q.1 : Int))]⟩, ?_, f2, by simp; omega, fun q' hq' => f4 q' (.tail _ hq'), ?_, ?_, g3, g4, g5, g6, ?_⟩
            · rw [← add_new (p := place) hni]; exact f1.add hqN
            · rw [dB_app]; rfl
            · rw [dPP_app]; rfl
            · rw [dSeen_app]; rfl
          · rename_i hni
            rw [add_in hni] at f2
            exact hn' _ ⟨s, f1, f2, f3, fun q' hq' => f4 q' (.tail _ hq'), g1, g2, g3, g4, g5, g6, g7⟩
        · exact ⟨s, e2, e3, e4, fun q hq => hq, p1, p2, p3, p4, p5, rfl, p6⟩
      · rename_i hlt
        have hlt : s.L[place]? = none := List.getElem?_eq_none (by simpa using hlt)
        have hs : s = T.full := by
          rw [← e3]
          cases n with
          | zero => rfl
          | succ n => rw [TS.bfs, hlt]
        repeat' contradiction
        rw [← hs, List.take_of_length_le e4, List.take_of_length_le (by rw [← e2.len]; exact e4), decide_eq_true e4]
    · rw [S.st]; rfl
end
end

section
set_option linter.unusedVariables false
set_option maxRecDepth 100000
set_option maxHeartbeats 4000000
open PySem PyProof.Rows
noncomputable def TS.reach (T : TS) : List Nat := (List.range T.N).filter fun x => decide (x ∈ T.full.L)
theorem TS.full_bi {T : TS} (ok : T.ok) : BI T T.full := BI.bfs ok _ _ ok.start
theorem sorted_nat {T : TS} {L : List Nat} {P : List (Int × Int)} (h : BI T ⟨L, P⟩) {ns : List Int} (hp : ns.Perm (L.map fun x : Nat => (x : Int))) (hs : ns.Pairwise (· ≤ ·)) : ns = ((List.range T.N).filter fun x => decide (x ∈ L)).map fun x : Nat => (x : Int) := by
  refine List.Perm.eq_of_pairwise (le := (· ≤ ·)) (fun a b _ _ h1 h2 => by omega) hs ?_ (hp.trans (List.Perm.map _ ?_))
  · refine List.Pairwise.map _ (R := (· < ·)) (fun a b hab => by omega) ?_
    exact List.Pairwise.filter _ List.pairwise_lt_range
  · refine (List.perm_ext_iff_of_nodup h.nd (List.Pairwise.filter _ List.nodup_range)).mpr fun a => ?_
    simp only [List.mem_filter, List.mem_range, decide_eq_true_eq]
    exact ⟨fun q => ⟨h.lt a q, q⟩, fun q => q.2⟩
section
variable {c : Cx} (pg : Pg c) {l : Nat} {m : Md} {T : TS} {box : Nat → List Int}
include pg
theorem saturated_fast_ok (S : Sys c l m T box) : CallOK c (l+1) "saturated_fast" [m.d] (· = .list (T.reach.map dN)) := by
  have gd := pg.gd
  have a1 := pg.addr 3 (f := "enabled") rfl rfl
  have a2 := pg.addr 4 (f := "fired") rfl rfl
  have a3 := pg.addr 5 (f := "code_of") rfl rfl
  have a4 := pg.addr 6 (f := "state_of") rfl rfl
  refine pg.ok 14 (xs := ["model"]) rfl rfl (by decide +kernel) (by decide +kernel) (fun pm cd doc vs h => ?_) rfl ?_
  · match vs, h with
    | [a], _ => rfl
  · have o1 : OwnName "todo" := .mk
    have o3 : OwnName "seen" := .mk
    have hN := S.ok.n
    have hb0 := S.blen _ S.ok.s0
    refine ExL_cons ?_
    repeat' contradiction
    have hc0 := S.co T.s0 S.ok.s0
    rw [← S.st] at hc0
    refine hc0.to (Nat.le_refl _) ?_
    repeat' contradiction
    refine EvF_dictI gd rfl rfl (by simp) (by decide) (EvP_cons ?_)
    repeat' contradiction
    refine ⟨⟨[((T.s0 : Int), .bool true)], rfl, by simp⟩, ?_⟩
    repeat' contradiction
    refine ExS_while (whileW_inv (fun n pe => ∃ (s : LP) (place : Nat), T.N < place + n ∧ BI T s ∧ T.bfs n place s = T.full ∧ pe "todo" = some ⟨.list (s.L.map dN), true⟩ ∧ pe "place" = some ⟨dN place, false⟩ ∧ pe "model" = some ⟨m.d, false⟩ ∧ pe "seen" = some ⟨dSeen s.L, true⟩)
      (fun n pe K' hI hn hc hb hr => ?_) (n := T.N + 1) ⟨T.start, 0, by omega, S.ok.start, rfl, rfl, rfl, rfl, rfl⟩)
    · obtain ⟨s, place, e1, e2, e3, p1, p3, p4, p6⟩ := hI
      have hle := e2.le
      have hll : (List.map dN s.L).length ≤ lim := by simp [lim]; omega
      repeat' contradiction
      · exact hll
      · rename_i hlt
        have hlt : place < s.L.length := by simpa using hlt
        obtain ⟨n, rfl⟩ : ∃ k, n = k + 1 := ⟨n - 1, by omega⟩
        have hx : s.L[place]? = some s.L[place] := by simp [hlt]
        have hxN : s.L[place] < T.N := e2.lt _ (List.getElem_mem hlt)
        rw [TS.bfs, hx] at e3
        simp only at e3
        generalize s.L[place] = x at hx hxN e3
        refine iL (d := dN x) ⟨by omega, by omega⟩ (by simp [hx]) ?_
        repeat' contradiction
        refine (S.so x hxN).to (Nat.le_refl _) ?_
        repeat' contradiction
        refine ExS_for rfl ?_
        repeat' contradiction
        refine (S.en x hxN).to (Nat.le_refl _) ?_
        repeat' contradiction
        refine forW_inv (f := fun q => dN q.1) (fun r pe => ∃ s : LP, BI T s ∧ T.bfs n (place + 1) (visit place r s) = T.full ∧ (∀ q ∈ r, q ∈ T.mv x) ∧ pe "todo" = some ⟨.list (s.L.map dN), true⟩ ∧ pe "place" = some ⟨dN place, false⟩ ∧ pe "model" = some ⟨m.d, false⟩ ∧ pe "here" = some ⟨dS (box x), false⟩ ∧ pe "seen" = some ⟨dSeen s.L, true⟩)
          (fun pe hI => ?_) (fun q r pe K'' hI hn' hc' hb' hr' => ?_) _ _ ?_
        · obtain ⟨s, f1, f2, f4, g1, g3, g4, g6, g7⟩ := hI
          repeat' contradiction
          exact hn n _ (by omega) ⟨s, place + 1, by omega, f1, f2, g1, rfl, g4, g7⟩
        · obtain ⟨s, f1, f2, f4, g1, g3, g4, g6, g7⟩ := hI
          have hq := f4 q (.head _)
          have hqN := S.ok.tgt x hxN q hq
          have hle := f1.le
          have hll : (List.map dN s.L).length ≤ lim := by simp [lim]; omega
          rw [visit_cons] at f2
          clear p1 p3 p4 p6 hc hb hc' hb'
          repeat' contradiction
          refine (S.fi x hxN q hq).to (Nat.le_refl _) ?_
          repeat' contradiction
          refine (S.co q.2 hqN).to (Nat.le_refl _) ?_
          repeat' contradiction
          refine notin_seen ?_
          repeat' contradiction
          refine sD (seen_new (by omega) (by assumption)) ?_
          repeat' contradiction
          · exact hll
          · rename_i hni
            rw [add_new hni] at f2
            refine hn' _ ⟨⟨s.L ++ [q.2], s.P ++ [((place : Int), (q.1 : Int))]⟩, ?_, f2, fun q' hq' => f4 q' (.tail _ hq'), ?_, g3, g4, g6, ?_⟩
            · rw [← add_new (p := place) hni]; exact f1.add hqN
            · show _ = some (⟨.list ((s.L ++ [q.2]).map dN), true⟩ : Slot)
              rw [List.map_append]; rfl
            · rw [dSeen_app]; rfl
          · rename_i hni
            rw [add_in hni] at f2
            exact hn' _ ⟨s, f1, f2, fun q' hq' => f4 q' (.tail _ hq'), g1, g3, g4, g6, g7⟩
        · exact ⟨s, e2, e3, fun q hq => hq, p1, p3, p4, rfl, p6⟩
      · rename_i hlt
        have hlt : s.L[place]? = none := List.getElem?_eq_none (by simpa using hlt)
        have hs : s = T.full := by
          rw [← e3]
          cases n with
          | zero => rfl
          | succ n => rw [TS.bfs, hlt]
        refine EvS_sortI gd rfl rfl ?_
        repeat' contradiction
        refine ⟨s.L.map fun x : Nat => (x : Int), by simp, by simp; omega, fun ns' h1 h2 => ?_⟩
        repeat' contradiction
        rw [sorted_nat (P := s.P) e2 h1 h2, TS.reach, ← hs, List.map_map]
        rfl
end
end

section
set_option linter.unusedVariables false

noncomputable def Pok (P : List (Int × Int)) : Prop := ∀ (i : Nat) (q : Int × Int), P[i]? = some q → q.1 < 0 ∨ (0 ≤ q.1 ∧ q.1 < i)
noncomputable def trF (P : List (Int × Int)) : Nat → Nat → List Int
  | 0, _ => []
  | n + 1, i => match P[i]? with
    | some q => if q.1 < 0 then [] else trF P n q.1.toNat ++ [q.2]
    | none => []
noncomputable def trOf (P : List (Int × Int)) (i : Nat) : List Int := trF P (i + 1) i
theorem trF_fuel {P : List (Int × Int)} (h : Pok P) : ∀ (n j : Nat), j < n → trF P n j = trF P (j + 1) j := by
  intro n
  induction n using Nat.strongRecOn with
  | _ n ih =>
    intro j hj
    obtain ⟨k, rfl⟩ : ∃ k, n = k + 1 := ⟨n - 1, by omega⟩
    rw [trF, trF]
    cases hq : P[j]? with
    | none => rfl
    | some q =>
      simp only
      by_cases h0 : q.1 < 0
      · rw [if_pos h0, if_pos h0]
      · rw [if_neg h0, if_neg h0]
        rcases h j q hq with h1 | ⟨h1, h2⟩
        · exact absurd h1 h0
        · rw [ih k (by omega) q.1.toNat (by omega)]
          by_cases hjk : j = k
          · subst hjk; rw [ih j (by omega) q.1.toNat (by omega)]
          · rw [ih j (by omega) q.1.toNat (by omega)]
theorem trOf_step {P : List (Int × Int)} (h : Pok P) {i : Nat} {q : Int × Int} (hq : P[i]? = some q) : trOf P i = if q.1 < 0 then [] else trOf P q.1.toNat ++ [q.2] := by
  unfold trOf
  rw [trF, hq]
  simp only
  split
  · rfl
  · rename_i h0
    rcases h i q hq with h1 | ⟨h1, h2⟩
    · exact absurd h1 h0
    · rw [trF_fuel h i q.1.toNat (by omega)]
theorem Pok.pre {P Q : List (Int × Int)} (h : Pok (P ++ Q)) : Pok P := fun i q hq => by
  refine h i q ?_
  rw [List.getElem?_append_left (by
    rcases Nat.lt_or_ge i P.length with h | h
    · exact h
    · rw [List.getElem?_eq_none h] at hq; cases hq)]
  exact hq
theorem trOf_pre {P Q : List (Int × Int)} (h : Pok (P ++ Q)) : ∀ (i : Nat), i < P.length → trOf (P ++ Q) i = trOf P i := by
  intro i
  induction i using Nat.strongRecOn with
  | _ i ih =>
    intro hi
    have e1 : P[i]? = some P[i] := by simp [hi]
    have e2 : (P ++ Q)[i]? = some P[i] := by rw [List.getElem?_append_left hi]; exact e1
    rw [trOf_step h e2, trOf_step h.pre e1]
    split
    · rfl
    · rename_i h0
      rcases h i _ e2 with h1 | ⟨h1, h2⟩
      · exact absurd h1 h0
      · rw [ih P[i].1.toNat (by omega) (by omega)]

/-- the parents are sound -/
structure PI (T : TS) (s : LP) : Prop where
  zero : s.L[0]? = some T.s0 ∧ s.P[0]? = some (-1, -1)
  up : ∀ i q, 0 < i → s.P[i]? = some q → ∃ (p k x y : Nat), q = ((p : Int), (k : Int)) ∧ p < i ∧ s.L[p]? = some x ∧ s.L[i]? = some y ∧ (k, y) ∈ T.mv x
theorem PI.pok {T : TS} {s : LP} (h : PI T s) : Pok s.P := fun i q hq => by
  rcases Nat.eq_zero_or_pos i with rfl | hi
  · rw [h.zero.2] at hq; injection hq with hq; subst hq; exact .inl (by decide)
  · obtain ⟨p, k, x, y, rfl, hp, _⟩ := h.up i q hi hq
    exact .inr ⟨by simp, by simp; omega⟩
theorem PI.start (T : TS) : PI T T.start := ⟨⟨rfl, rfl⟩, fun i q hi hq => by
  simp only [TS.start] at hq
  rw [List.getElem?_eq_none (by simp; omega)] at hq; cases hq⟩
theorem PI.add {T : TS} {s : LP} (h : PI T s) (hl : s.L.length = s.P.length) {p x : Nat} (hx : s.L[p]? = some x) {q : Nat × Nat} (hq : q ∈ T.mv x) : PI T (Mine.add p s q) := by
  unfold Mine.add; split
  · exact h
  · have hp : p < s.L.length := by
      rcases Nat.lt_or_ge p s.L.length with h | h
      · exact h
      · rw [List.getElem?_eq_none h] at hx; cases hx
    have getL : ∀ {i : Nat} {y : Nat}, s.L[i]? = some y → (s.L ++ [q.2])[i]? = some y := fun {i y} e => by
      rw [List.getElem?_append_left (by
        rcases Nat.lt_or_ge i s.L.length with h | h
        · exact h
        · rw [List.getElem?_eq_none h] at e; cases e)]
      exact e
    refine ⟨⟨getL h.zero.1, ?_⟩, fun i r hi hr => ?_⟩
    · rw [List.getElem?_append_left (by omega)]; exact h.zero.2
    · rcases Nat.lt_or_ge i s.P.length with hlt | hge
      · rw [List.getElem?_append_left hlt] at hr
        obtain ⟨p', k, x', y, e, h1, h2, h3, h4⟩ := h.up i r hi hr
        exact ⟨p', k, x', y, e, h1, getL h2, getL h3, h4⟩
      · rw [List.getElem?_append_right hge] at hr
        have : i - s.P.length = 0 := by
          rcases Nat.eq_zero_or_pos (i - s.P.length) with h | h
          · exact h
          · rw [List.getElem?_eq_none (by simp; omega)] at hr; cases hr
        rw [this] at hr
        simp at hr
        have hi' : i = s.P.length := by omega
        refine ⟨p, q.1, x, q.2, hr.symm, by omega, getL hx, ?_, hq⟩
        rw [hi', ← hl]; simp
theorem PI.visit {T : TS} {p x : Nat} : ∀ (qs : List (Nat × Nat)) {s : LP}, PI T s → BI T s → s.L[p]? = some x → (∀ q ∈ qs, q ∈ T.mv x) → (∀ q ∈ qs, q.2 < T.N) → PI T (Mine.visit p qs s)
  | [], s, h, _, _, _, _ => h
  | q :: qs, s, h, b, hx, hq, hn => by
    have hb := b.add (p := p) (hn q (.head _))
    refine PI.visit qs (h.add b.len hx (hq q (.head _))) hb ?_ (fun r hr => hq r (.tail _ hr)) fun r hr => hn r (.tail _ hr)
    obtain ⟨xs, ys, e, _, _⟩ := add_pre p s q
    rw [e, List.getElem?_append_left (by
      rcases Nat.lt_or_ge p s.L.length with h | h
      · exact h
      · rw [List.getElem?_eq_none h] at hx; cases hx)]
    exact hx
theorem PI.bfs {T : TS} (ok : T.ok) : ∀ (n p : Nat) {s : LP}, PI T s → BI T s → PI T (T.bfs n p s)
  | 0, _, s, h, _ => h
  | n + 1, p, s, h, b => by
    rw [TS.bfs]; split
    · rename_i x hx
      have hxN := b.lt x (List.mem_of_getElem? hx)
      exact PI.bfs ok n _ (PI.visit _ h b hx (fun _ q => q) (ok.tgt x hxN)) (b.visit (ok.tgt x hxN))
    · exact h
theorem TS.full_pi {T : TS} (ok : T.ok) : PI T T.full := PI.bfs ok _ _ (PI.start T) ok.start
theorem Pok.take {P : List (Int × Int)} (h : Pok P) (n : Nat) : Pok (P.take n) := Pok.pre (Q := P.drop n) (by rw [List.take_append_drop]; exact h)

/-- the first place without a move -/
noncomputable def TS.stuck (T : TS) (L : List Nat) : Option Nat := (List.range L.length).find? fun i => (T.mv (L.getD i 0)).isEmpty
end

section
set_option linter.unusedVariables false
set_option maxRecDepth 100000
set_option maxHeartbeats 4000000
open PySem PyProof.Rows
noncomputable def TS.dead (T : TS) (L : List Nat) (P : List (Int × Int)) : PyData := match T.stuck L with
  | some i => .list ((trOf P i).map dI)
  | none => .none
theorem cL_nil {α : Type} {xs : List α} {f : α → Nat} {B : Bool → Prop} (h : B xs.isEmpty) : cmpW .Eq (.list (xs.map fun q => dN (f q))) (.list []) B := by
  refine ⟨⟨fun x hx => ?_, fun x hx => nomatch hx⟩, ?_⟩
  · obtain ⟨i, _, rfl⟩ := List.mem_map.mp hx; trivial
  · have : PyData.eqv (.list (xs.map fun q => dN (f q))) (.list []) = xs.isEmpty := by
      cases xs <;> simp [PyData.eqv, PyData.eqvAll]
    rw [this]; exact h
theorem iteB {b : Bool} {P Q : Prop} (p : b = true → P) (q : b = false → Q) : if b = true then P else Q := by
  cases b
  · rw [if_neg (by simp)]; exact q rfl
  · rw [if_pos rfl]; exact p rfl
section
variable {c : Cx} (pg : Pg c) {l : Nat} {m : Md} {T : TS} {box : Nat → List Int}
include pg
theorem trace_to_ok {P : List (Int × Int)} (hP : Pok P) {i : Nat} (hi : i < P.length) (hl : P.length ≤ 1000) : CallOK c (l+1) "trace_to" [dPP P, dN i] (· = .list ((trOf P i).map dI)) := by
  have gd := pg.gd
  refine pg.ok 9 (xs := ["parents","i"]) rfl rfl (by decide +kernel) (by decide +kernel) (fun pm cd doc vs h => ?_) rfl ?_
  · match vs, h with
    | [a,b], _ => rfl
  · have hpl : (List.map pairI P).length ≤ lim := lim_of (by simpa using hl)
    refine ExL_cons ?_
    repeat' contradiction
    refine ExS_for rfl ?_
    repeat' contradiction
    · exact hpl
    · simp; omega
    rw [List.length_map]
    refine forW_inv (f := dN) (fun r pe => ∃ (place : Nat) (acc : List Int), place < P.length ∧ place + 1 ≤ r.length ∧ acc.length + r.length ≤ 1000 ∧ trOf P place ++ acc = trOf P i ∧ pe "parents" = some ⟨dPP P, false⟩ ∧ pe "place" = some ⟨dN place, false⟩ ∧ pe "trace" = some ⟨.list (acc.map dI), false⟩) (fun pe hI => ?_) (fun a r pe K' hI hn hc hb hr => ?_) _ _ ?_
    · obtain ⟨place, acc, h1, h2, _⟩ := hI
      simp at h2
    · obtain ⟨place, acc, h1, h2, h3, h4, p1, p2, p3⟩ := hI
      have hq : P[place]? = some P[place] := by simp [h1]
      have hstep := trOf_step hP hq
      have hok := hP place _ hq
      generalize P[place] = q at hq hstep hok
      obtain ⟨qp, qk⟩ := q
      simp only [List.length_cons] at h2 h3
      repeat' contradiction
      refine iL (d := pairI (qp, qk)) ⟨by omega, by omega⟩ (by simp [hq]) ?_
      unfold pairI
      repeat' contradiction
      · rename_i hneg
        refine hb _ ?_
        repeat' contradiction
        rw [if_pos hneg] at hstep
        rw [hstep, List.nil_append] at h4
        rw [← h4]
      · simp [lim]; omega
      · rename_i hneg
        have hneg : ¬ qp < 0 := hneg
        rw [if_neg hneg] at hstep
        simp only at hstep hok
        obtain ⟨h5, h6⟩ := hok.resolve_left hneg
        obtain ⟨p, rfl⟩ := Int.eq_ofNat_of_zero_le h5
        refine hn _ ⟨p, qk :: acc, by omega, by omega, by simp; omega, ?_, p1, rfl, rfl⟩
        rw [← h4, hstep]
        simp
    · exact ⟨i, [], hi, by simp; omega, by simpa using hl, by simp, rfl, rfl, rfl⟩

theorem deadlock_trace_ok (S : Sys c l m T box) {limit : Nat} (h1 : 1 ≤ limit) (h9 : limit ≤ 9) :
    CallOK c (l+2) "deadlock_trace" [m.d, dN limit] (· = T.dead (T.full.L.take limit) (T.full.P.take limit)) := by
  have gd := pg.gd
  have a1 := pg.addr 3 (f := "enabled") rfl rfl
  have a2 := pg.addr 8 (f := "explored") rfl rfl
  have a3 := pg.addr 9 (f := "trace_to") rfl rfl
  refine pg.ok 12 (xs := ["model","limit"]) rfl rfl (by decide +kernel) (by decide +kernel) (fun pm cd doc vs h => ?_) rfl ?_
  · match vs, h with
    | [a,b], _ => rfl
  · have hN := S.ok.n
    have hbi := TS.full_bi S.ok
    have hle := hbi.le
    have hP := (TS.full_pi S.ok).pok.take limit
    refine ExL_cons ?_
    repeat' contradiction
    refine (explored_ok pg S h1).to (Nat.le_refl _) ?_
    repeat' contradiction
    refine ExS_for rfl ?_
    have hlt : (T.full.L.take limit).length = (T.full.P.take limit).length := by simp [hbi.len]
    have hl9 : (T.full.L.take limit).length ≤ 9 := by simp; omega
    have hLN : ∀ x ∈ T.full.L.take limit, x < T.N := fun x hx => hbi.lt x (List.mem_of_mem_take hx)
    generalize hdead : T.dead (T.full.L.take limit) (T.full.P.take limit) = dd
    generalize T.full.L.take limit = L at *
    generalize T.full.P.take limit = P at *
    repeat' contradiction
    · simp [lim]; omega
    · simp; omega
    rw [List.length_map]
    refine forW_inv (f := dN) (fun r pe => T.stuck L = r.find? (fun i => (T.mv (L.getD i 0)).isEmpty) ∧ (∀ i ∈ r, i < L.length) ∧ pe "parents" = some ⟨dPP P, false⟩ ∧ pe "states" = some ⟨dB box L, false⟩ ∧ pe "model" = some ⟨m.d, false⟩) (fun pe hI => ?_) (fun a r pe K' hI hn hc hb hr => ?_) _ _ ?_
    · obtain ⟨h2, h3, p1, p2, p3⟩ := hI
      repeat' contradiction
      rw [← hdead, TS.dead, h2]; rfl
    · obtain ⟨h2, h3, p1, p2, p3⟩ := hI
      have hi := h3 a (.head _)
      have hx : L[a]? = some L[a] := by simp [hi]
      have hxN := hLN _ (List.getElem_mem hi)
      have hget : L.getD a 0 = L[a] := by simp [hi]
      rw [List.find?_cons, hget] at h2
      generalize L[a] = x at hx hxN h2
      repeat' contradiction
      refine iL (d := dS (box x)) ⟨by omega, by omega⟩ (by simp [hx]) ?_
      repeat' contradiction
      refine (S.en x hxN).to (Nat.le_succ _) ?_
      repeat' contradiction
      refine cL_nil (iteB (fun he => ?_) fun he => ?_)
      · rw [he] at h2
        repeat' contradiction
        refine (trace_to_ok pg hP (i := a) (by omega) (by omega)).to (Nat.le_refl _) ?_
        repeat' contradiction
        refine hr _ _ ?_
        repeat' contradiction
        rw [← hdead, TS.dead, h2]
      · rw [he] at h2
        repeat' contradiction
        exact hn _ ⟨h2, fun j hj => h3 j (.tail _ hj), p1, p2, p3⟩
    · exact ⟨rfl, fun i hi => by simpa using hi, rfl, rfl, rfl⟩
end
end

section
set_option linter.unusedVariables false
theorem getD_app {L zs : List Nat} {j : Nat} (h : j < L.length) : (L ++ zs).getD j 0 = L.getD j 0 := by
  rw [List.getD_eq_getElem?_getD, List.getD_eq_getElem?_getD, List.getElem?_append_left h]
theorem stuck_pre {T : TS} {L zs : List Nat} {p : Nat} (hp : p < L.length) (he : (T.mv (L.getD p 0)).isEmpty = true) (hn : ∀ j, j < p → (T.mv (L.getD j 0)).isEmpty = false) : T.stuck (L ++ zs) = some p := by
  unfold TS.stuck
  rw [List.find?_range_eq_some]
  refine ⟨by rw [getD_app hp]; exact he, by simp; omega, fun j hj => ?_⟩
  rw [getD_app (by omega), hn j hj]; rfl
theorem stuck_none {T : TS} {L : List Nat} (h : ∀ j, j < L.length → (T.mv (L.getD j 0)).isEmpty = false) : T.stuck L = none := by
  unfold TS.stuck
  rw [List.find?_range_eq_none]
  intro i hi
  rw [h i hi]; rfl
theorem stuck_from {T : TS} {L : List Nat} {p : Nat} (hp : p < L.length) (hn : ∀ j, j ≤ p → (T.mv (L.getD j 0)).isEmpty = false) :
    T.stuck L = (List.range' (p + 1) (L.length - (p + 1))).find? fun i => (T.mv (L.getD i 0)).isEmpty := by
  unfold TS.stuck
  have e : List.range L.length = List.range (p + 1) ++ List.range' (p + 1) (L.length - (p + 1)) := by
    have h := List.range'_append_1 (s := 0) (m := p + 1) (n := L.length - (p + 1))
    rw [Nat.zero_add, Nat.add_sub_cancel' hp] at h
    rw [List.range_eq_range', List.range_eq_range', h]
  rw [e, List.find?_append]
  have : (List.range (p + 1)).find? (fun i => (T.mv (L.getD i 0)).isEmpty) = none := by
    rw [List.find?_range_eq_none]
    intro i hi
    rw [hn i (by omega)]; rfl
  rw [this]; rfl
end

section
set_option linter.unusedVariables false
set_option maxRecDepth 100000
set_option maxHeartbeats 4000000
open PySem PyProof.Rows
theorem rg2n {x y : Nat} {L : List PyData → Prop} (hx : x < 2 ^ 31) (hy : y < 2 ^ 31) (h : L ((List.range' x (y - x)).map dN)) : rng2W (.int (x : Int)) (.int (y : Int)) L := by
  refine ⟨by omega, ?_⟩
  have e : rangeL (x : Int) (y : Int) = (List.range' x (y - x)).map dN := by
    unfold rangeL
    have e1 : ((y : Int) - (x : Int)).toNat = y - x := by omega
    rw [e1, List.range'_eq_map_range, List.map_map]
    refine List.map_congr_left fun i _ => ?_
    simp
  rw [e]; exact h
section
variable {c : Cx} (pg : Pg c) {l : Nat} {m : Md} {T : TS} {box : Nat → List Int}
include pg
theorem deadlock_trace_fast_ok (S : Sys c l m T box) {limit : Nat} (h1 : 1 ≤ limit) :
    CallOK c (l+2) "deadlock_trace_fast" [m.d, dN limit] (· = T.dead (T.full.L.take limit) (T.full.P.take limit)) := by
  have gd := pg.gd
  have a1 := pg.addr 3 (f := "enabled") rfl rfl
  have a2 := pg.addr 4 (f := "fired") rfl rfl
  have a3 := pg.addr 5 (f := "code_of") rfl rfl
  have a4 := pg.addr 9 (f := "trace_to") rfl rfl
  refine pg.ok 15 (xs := ["model","limit"]) rfl rfl (by decide +kernel) (by decide +kernel) (fun pm cd doc vs h => ?_) rfl ?_
  · match vs, h with
    | [a,b], _ => rfl
  · have o1 : OwnName "states" := .mk
    have o2 : OwnName "parents" := .mk
    have o3 : OwnName "seen" := .mk
    have hN := S.ok.n
    have hb0 := S.blen _ S.ok.s0
    refine ExL_cons ?_
    repeat' contradiction
    · rw [S.st]; simp [lim]; omega
    refine EvF_dictI gd rfl rfl (by simp) (by decide) (EvP_cons ?_)
    repeat' contradiction
    have hc0 := S.co T.s0 S.ok.s0
    rw [← S.st] at hc0
    refine hc0.to (Nat.le_succ _) ?_
    repeat' contradiction
    refine ⟨⟨[((T.s0 : Int), .bool true)], rfl, by simp⟩, ?_⟩
    repeat' contradiction
    refine ExS_while (whileW_inv (fun n pe => ∃ (s : LP) (place : Nat), T.N < place + n ∧ BI T s ∧ PI T s ∧ (∀ j, j < place → (T.mv (s.L.getD j 0)).isEmpty = false) ∧ place ≤ s.L.length ∧ T.bfs n place s = T.full ∧ s.L.length ≤ limit ∧ pe "states" = some ⟨dB box s.L, true⟩ ∧ pe "parents" = some ⟨dPP s.P, true⟩ ∧ pe "place" = some ⟨dN place, false⟩ ∧ pe "model" = some ⟨m.d, false⟩ ∧ pe "limit" = some ⟨dN limit, false⟩ ∧ pe "seen" = some ⟨dSeen s.L, true⟩)
      (fun n pe K' hI hn hc hb hr => ?_) (n := T.N + 1) ⟨T.start, 0, by omega, S.ok.start, PI.start T, fun j hj => by omega, Nat.zero_le _, rfl, h1, ?_, rfl, rfl, rfl, rfl, rfl⟩)
    · obtain ⟨s, place, e1, e2, e5, e6, e7, e3, e4, p1, p2, p3, p4, p5, p6⟩ := hI
      have hle := e2.le
      have hll : (List.map (fun x => dS (box x)) s.L).length ≤ lim := by simp [lim]; omega
      repeat' contradiction
      · exact hll
      · rename_i hlt
        have hlt : place < s.L.length := by simpa using hlt
        obtain ⟨n, rfl⟩ : ∃ k, n = k + 1 := ⟨n - 1, by omega⟩
        have hx : s.L[place]? = some s.L[place] := by simp [hlt]
        have hxN : s.L[place] < T.N := e2.lt _ (List.getElem_mem hlt)
        rw [TS.bfs, hx] at e3
        simp only at e3
        generalize s.L[place] = x at hx hxN e3
        refine iL (d := dS (box x)) ⟨by omega, by omega⟩ (by simp [hx]) ?_
        repeat' contradiction
        refine (S.en x hxN).to (Nat.le_succ _) ?_
        repeat' contradiction
        have hget : s.L.getD place 0 = x := by rw [List.getD_eq_getElem?_getD, hx]; rfl
        refine cL_nil (iteB (fun he => ?_) fun he => ?_)
        · have hpre : Pre s T.full := by rw [← e3]; exact (visit_pre _ _ _).trans (T.bfs_pre _ _ _)
          obtain ⟨xs, ys, x1, x2, x3⟩ := hpre
          repeat' contradiction
          refine (trace_to_ok pg e5.pok (i := place) (by rw [← e2.len]; exact hlt) (by rw [← e2.len]; omega)).to (Nat.succ_le_succ (Nat.zero_le _)) ?_
          repeat' contradiction
          refine hr _ _ ?_
          repeat' contradiction
          have k1 : T.full.L.take limit = s.L ++ xs.take (limit - s.L.length) := by rw [x1, List.take_append, List.take_of_length_le e4]
          have k2 : T.full.P.take limit = s.P ++ ys.take (limit - s.P.length) := by rw [x2, List.take_append, List.take_of_length_le (by rw [← e2.len]; exact e4)]
          have hpok := (TS.full_pi S.ok).pok.take limit
          rw [k2] at hpok
          rw [TS.dead, k1, stuck_pre hlt (by rw [hget]; exact he) e6]
          simp only
          rw [k2, trOf_pre hpok place (by rw [← e2.len]; exact hlt)]
        repeat' contradiction
        refine ExS_for rfl ?_
        repeat' contradiction
        refine forW_inv (f := fun q => dN q.1) (fun r pe => ∃ s : LP, BI T s ∧ PI T s ∧ (∀ j, j ≤ place → (T.mv (s.L.getD j 0)).isEmpty = false) ∧ place < s.L.length ∧ s.L[place]? = some x ∧ T.bfs n (place + 1) (visit place r s) = T.full ∧ s.L.length ≤ limit ∧ (∀ q ∈ r, q ∈ T.mv x) ∧ pe "states" = some ⟨dB box s.L, true⟩ ∧ pe "parents" = some ⟨dPP s.P, true⟩ ∧ pe "place" = some ⟨dN place, false⟩ ∧ pe "model" = some ⟨m.d, false⟩ ∧ pe "limit" = some ⟨dN limit, false⟩ ∧ pe "here" = some ⟨dS (box x), false⟩ ∧ pe "seen" = some ⟨dSeen s.L, true⟩)
          (fun pe hI => ?_) (fun q r pe K'' hI hn' hc' hb' hr' => ?_) _ _ ?_
        · obtain ⟨s, f1, f5, f6, f7, f8, f2, f3, f4, g1, g2, g3, g4, g5, g6, g7⟩ := hI
          repeat' contradiction
          exact hn n _ (by omega) ⟨s, place + 1, by omega, f1, f5, fun j hj => f6 j (by omega), f7, f2, f3, g1, g2, rfl, g4, g5, g7⟩
        · obtain ⟨s, f1, f5, f6, f7, f8, f2, f3, f4, g1, g2, g3, g4, g5, g6, g7⟩ := hI
          have hq := f4 q (.head _)
          have hqN := S.ok.tgt x hxN q hq
          have hle := f1.le
          have hll : (List.map (fun x => dS (box x)) s.L).length ≤ lim := by simp [lim]; omega
          have hpl : (List.map pairI s.P).length ≤ lim := by rw [List.length_map, ← f1.len]; simp [lim]; omega
          rw [visit_cons] at f2
          clear p1 p2 p3 p4 p5 p6 hc hb hc' hb'
          repeat' contradiction
          refine (S.fi x hxN q hq).to (Nat.le_succ _) ?_
          repeat' contradiction
          refine (S.co q.2 hqN).to (Nat.le_succ _) ?_
          repeat' contradiction
          refine notin_seen ?_
          repeat' contradiction
          · exact hll
          · rename_i hni hge
            have hge : limit ≤ s.L.length := by simpa using hge
            rw [add_new hni] at f2
            have hp : Pre ⟨s.L ++ [q.2], s.P ++ [((place : Int), (q.1 : Int))]⟩ T.full := by
              rw [← f2]; exact (visit_pre _ _ _).trans (T.bfs_pre _ _ _)
            obtain ⟨t1, t2, t3⟩ := take_pre (s := s) (Pre.trans ⟨[q.2], [_], rfl, rfl, rfl⟩ hp) f1.len hp (n := limit) (by omega)
            refine ExS_for rfl ?_
            repeat' contradiction
            · exact hll
            rw [List.length_map]
            refine rg2n (x := place + 1) (y := s.L.length) (by omega) (by omega) ?_
            refine forW_inv (f := dN) (fun r pe => T.stuck s.L = r.find? (fun i => (T.mv (s.L.getD i 0)).isEmpty) ∧ (∀ i ∈ r, i < s.L.length) ∧ pe "parents" = some ⟨dPP s.P, true⟩ ∧ pe "states" = some ⟨dB box s.L, true⟩ ∧ pe "model" = some ⟨m.d, false⟩) (fun pe hI => ?_) (fun a r pe K3 hI hn3 hc3 hb3 hr3 => ?_) _ _ ?_
            · obtain ⟨h2, h3, p1, p2, p3⟩ := hI
              repeat' contradiction
              refine hr' _ _ (tW_ret (hr _ _ (tW_ret (rW_ret ?_))))
              rw [TS.dead, t1, h2]; rfl
            · obtain ⟨h2, h3, p1, p2, p3⟩ := hI
              have hi := h3 a (.head _)
              have hy : s.L[a]? = some s.L[a] := by simp [hi]
              have hyN := f1.lt _ (List.getElem_mem hi)
              have hget : s.L.getD a 0 = s.L[a] := by simp [hi]
              rw [List.find?_cons, hget] at h2
              generalize s.L[a] = y at hy hyN h2
              clear g1 g2 g3 g4 g5 g6 g7
              repeat' contradiction
              refine iL (d := dS (box y)) ⟨by omega, by omega⟩ (by simp [hy]) ?_
              repeat' contradiction
              refine (S.en y hyN).to (Nat.le_succ _) ?_
              repeat' contradiction
              refine cL_nil (iteB (fun he => ?_) fun he => ?_)
              · rw [he] at h2
                repeat' contradiction
                refine (trace_to_ok pg f5.pok (i := a) (by rw [← f1.len]; exact hi) (by rw [← f1.len]; omega)).to (Nat.succ_le_succ (Nat.zero_le _)) ?_
                repeat' contradiction
                refine hr3 _ _ (tW_ret (hr' _ _ (tW_ret (hr _ _ (tW_ret (rW_ret ?_))))))
                rw [TS.dead, t1, t2, h2]
              · rw [he] at h2
                repeat' contradiction
                exact hn3 _ ⟨h2, fun j hj => h3 j (.tail _ hj), p1, p2, p3⟩
            · refine ⟨stuck_from f7 f6, fun i hi => ?_, g2, g1, g4⟩
              simp only [List.mem_range'_1] at hi
              omega
          refine sD (seen_new (by omega) (by assumption)) ?_
          repeat' contradiction
          · exact hll
          · exact hpl
          · rename_i hni hge
            have hge : ¬ limit ≤ s.L.length := by simpa using hge
            rw [add_new hni] at f2
            refine hn' _ ⟨⟨s.L ++ [q.2], s.P ++ [((place : Int), (q.1 : Int))]⟩, ?_, ?_, ?_, ?_, ?_, f2, by simp; omega, fun q' hq' => f4 q' (.tail _ hq'), ?_, ?_, g3, g4, g5, g6, ?_⟩
            · rw [← add_new (p := place) hni]; exact f1.add hqN
            · rw [← add_new (p := place) hni]; exact f5.add f1.len f8 hq
            · intro j hj
              simp only
              rw [getD_app (by omega)]; exact f6 j hj
            · simp; omega
            · simp only
              rw [List.getElem?_append_left f7]; exact f8
            · rw [dB_app]; rfl
            · rw [dPP_app]; rfl
            · rw [dSeen_app]; rfl
          · rename_i hni
            rw [add_in hni] at f2
            exact hn' _ ⟨s, f1, f5, f6, f7, f8, f2, f3, fun q' hq' => f4 q' (.tail _ hq'), g1, g2, g3, g4, g5, g6, g7⟩
        · exact ⟨s, e2, e5, fun j hj => (by rcases Nat.lt_or_eq_of_le hj with h | rfl; exact e6 j h; rw [hget]; exact he), hlt, hx, e3, e4, fun q hq => hq, p1, p2, p3, p4, p5, rfl, p6⟩
      · rename_i hlt
        have hlt : s.L[place]? = none := List.getElem?_eq_none (by simpa using hlt)
        have hs : s = T.full := by
          rw [← e3]
          cases n with
          | zero => rfl
          | succ n => rw [TS.bfs, hlt]
        repeat' contradiction
        have hpl : place = s.L.length := by
          have := List.getElem?_eq_none_iff.mp hlt
          omega
        rw [TS.dead, ← hs, List.take_of_length_le e4, stuck_none (fun j hj => e6 j (by omega))]
    · rw [S.st]; rfl
end
end

section
set_option linter.unusedVariables false
set_option maxRecDepth 100000
set_option maxHeartbeats 4000000
open PySem PyProof.Rows
theorem forW_fin {α : Type} {f : α → PyData} {step : PyData → PEnv → (Fl → PEnv → Prop) → Prop} {K : Fl → PEnv → Prop} (I : List α → PEnv → Prop) (Fin : PEnv → Prop) (hf : ∀ pe, Fin pe → K .next pe) (h0 : ∀ pe, I [] pe → Fin pe)
    (hs : ∀ a r pe K', I (a :: r) pe → (∀ pe', I r pe' → K' .next pe') → (∀ pe', I r pe' → K' .cont pe') → (∀ pe', Fin pe' → K' .brk pe') → (∀ d pe', K (.ret d) pe' → K' (.ret d) pe') → step (f a) pe K')
    (xs : List α) (pe : PEnv) (h : I xs pe) : forW step (xs.map f) pe K :=
  forW_inv I (fun pe h => hf pe (h0 pe h)) (fun a r pe K' hI hn hc hb hr => hs a r pe K' hI hn hc (fun pe' h => hb pe' (hf pe' h)) hr) xs pe h
noncomputable abbrev dBs (bs : List Bool) : PyData := .list (bs.map .bool)
noncomputable def mk (bs : List Bool) (x : Nat) : Prop := bs[x]? = some true
/-- marks that only grow, and stay sound -/
structure MI (T : TS) (bs : List Bool) : Prop where
  len : bs.length = T.N
  sound : ∀ x, mk bs x → x ∈ T.full.L
theorem mk_set {bs : List Bool} {d x : Nat} (h : mk bs x) : mk (bs.set d true) x := by
  unfold mk at *
  rw [List.getElem?_set]
  split
  · rename_i e
    subst e
    have : d < bs.length := by
      rcases Nat.lt_or_ge d bs.length with q | q
      · exact q
      · rw [List.getElem?_eq_none q] at h; cases h
    simp [this]
  · exact h
theorem mk_set_self {bs : List Bool} {d : Nat} (h : d < bs.length) : mk (bs.set d true) d := by
  unfold mk; simp [h]
theorem mk_set_inv {bs : List Bool} {d x : Nat} (h : mk (bs.set d true) x) : x = d ∨ mk bs x := by
  unfold mk at *
  rw [List.getElem?_set] at h
  split at h
  · rename_i e; exact .inl e.symm
  · exact .inr h
/-- the full search is closed -/
theorem visit_mem {p : Nat} : ∀ (qs : List (Nat × Nat)) (s : LP), ∀ q ∈ qs, q.2 ∈ (visit p qs s).L
  | q :: qs, s, r, hr => by
    rw [visit_cons]
    rcases List.mem_cons.mp hr with rfl | hr
    · obtain ⟨xs, ys, e, _, _⟩ := visit_pre p qs (add p s r)
      rw [e]
      refine List.mem_append_left _ ?_
      unfold add; split
      · assumption
      · simp
    · exact visit_mem qs _ r hr
theorem bfs_closed {T : TS} (ok : T.ok) : ∀ (n p : Nat) {s : LP}, BI T s → T.N < p + n → (∀ j x, j < p → s.L[j]? = some x → ∀ q ∈ T.mv x, q.2 ∈ s.L) → ∀ x ∈ (T.bfs n p s).L, ∀ q ∈ T.mv x, q.2 ∈ (T.bfs n p s).L
  | 0, p, s, b, hf, h => fun x hx q hq => by
    obtain ⟨j, hj⟩ := List.mem_iff_getElem?.mp hx
    have := b.le
    have hj' : j < s.L.length := by
      rcases Nat.lt_or_ge j s.L.length with q | q
      · exact q
      · rw [TS.bfs, List.getElem?_eq_none q] at hj; cases hj
    exact h j x (by omega) hj q hq
  | n + 1, p, s, b, hf, h => by
    rw [TS.bfs]
    cases hx : s.L[p]? with
    | none =>
      intro x hx' q hq
      obtain ⟨j, hj⟩ := List.mem_iff_getElem?.mp hx'
      have h1 := List.getElem?_eq_none_iff.mp hx
      have hj' : j < s.L.length := by
        rcases Nat.lt_or_ge j s.L.length with q | q
        · exact q
        · simp only at hj; rw [List.getElem?_eq_none q] at hj; cases hj
      exact h j x (by omega) hj q hq
    | some y =>
      have hyN := b.lt y (List.mem_of_getElem? hx)
      refine bfs_closed ok n (p + 1) (b.visit (ok.tgt y hyN)) (by omega) fun j x hj hjx q hq => ?_
      obtain ⟨xs, ys, e, _, _⟩ := visit_pre p (T.mv y) s
      have hp : p < s.L.length := by
        rcases Nat.lt_or_ge p s.L.length with q | q
        · exact q
        · rw [List.getElem?_eq_none q] at hx; cases hx
      rw [e, List.getElem?_append_left (by omega)] at hjx
      rcases Nat.lt_or_eq_of_le (Nat.le_of_lt_succ hj) with hlt | rfl
      · rw [e]; exact List.mem_append_left _ (h j x hlt hjx q hq)
      · rw [hx] at hjx; injection hjx with hjx; subst hjx
        exact visit_mem _ _ q hq
theorem TS.closed {T : TS} (ok : T.ok) : ∀ x ∈ T.full.L, ∀ q ∈ T.mv x, q.2 ∈ T.full.L := bfs_closed ok _ _ ok.start (by omega) fun j x hj => by omega
theorem full_s0 {T : TS} (ok : T.ok) : T.full.L[0]? = some T.s0 := (TS.full_pi ok).zero.1
/-- marks closed under the moves hold all of the search -/
theorem all_marked {T : TS} (ok : T.ok) {bs : List Bool} (h0 : mk bs T.s0) (hc : ∀ x, x < T.N → mk bs x → ∀ q ∈ T.mv x, mk bs q.2) : ∀ (i x : Nat), T.full.L[i]? = some x → mk bs x := by
  intro i
  induction i using Nat.strongRecOn with
  | _ i ih =>
    intro x hx
    rcases Nat.eq_zero_or_pos i with rfl | hi
    · rw [full_s0 ok] at hx; injection hx with hx; subst hx; exact h0
    · have hl : i < T.full.L.length := by
        rcases Nat.lt_or_ge i T.full.L.length with q | q
        · exact q
        · rw [List.getElem?_eq_none q] at hx; cases hx
      have hb := TS.full_bi ok
      obtain ⟨p, k, y, z, e, h1, h2, h3, h4⟩ := (TS.full_pi ok).up i (T.full.P[i]'(by rw [← hb.len]; exact hl)) hi (by simp)
      rw [hx] at h3; injection h3 with h3; subst h3
      exact hc y (hb.lt y (List.mem_of_getElem? h2)) (ih p h1 y h2) (k, x) h4
theorem next_marked {T : TS} (ok : T.ok) {bs bs' : List Bool} {j : Nat} (h : ∀ i x, i ≤ j → T.full.L[i]? = some x → mk bs x) (h0 : mk bs' T.s0) (hc : ∀ x, x < T.N → mk bs x → ∀ q ∈ T.mv x, mk bs' q.2) : ∀ i x, i ≤ j + 1 → T.full.L[i]? = some x → mk bs' x := by
  intro i x hij hx
  rcases Nat.eq_zero_or_pos i with rfl | hi
  · rw [full_s0 ok] at hx; injection hx with hx; subst hx; exact h0
  · have hl : i < T.full.L.length := by
      rcases Nat.lt_or_ge i T.full.L.length with q | q
      · exact q
      · rw [List.getElem?_eq_none q] at hx; cases hx
    have hb := TS.full_bi ok
    obtain ⟨p, k, y, z, e, h1, h2, h3, h4⟩ := (TS.full_pi ok).up i (T.full.P[i]'(by rw [← hb.len]; exact hl)) hi (by simp)
    rw [hx] at h3; injection h3 with h3; subst h3
    exact hc y (hb.lt y (List.mem_of_getElem? h2)) (h p y (by omega) h2) (k, x) h4
section
variable {c : Cx} (pg : Pg c) {l : Nat} {m : Md} {T : TS} {box : Nat → List Int}
include pg
theorem saturated_ok (S : Sys c l m T box) : CallOK c (l+1) "saturated" [m.d] (· = .list (T.reach.map dN)) := by
  have gd := pg.gd
  have a1 := pg.addr 3 (f := "enabled") rfl rfl
  have a2 := pg.addr 4 (f := "fired") rfl rfl
  have a3 := pg.addr 5 (f := "code_of") rfl rfl
  have a4 := pg.addr 6 (f := "state_of") rfl rfl
  have a5 := pg.addr 7 (f := "box_size") rfl rfl
  refine pg.ok 11 (xs := ["model"]) rfl rfl (by decide +kernel) (by decide +kernel) (fun pm cd doc vs h => ?_) rfl ?_
  · match vs, h with
    | [a], _ => rfl
  · have o1 : OwnName "marks" := .mk
    have hN := S.ok.n
    have hs0 := S.ok.s0
    refine ExL_cons ?_
    repeat' contradiction
    refine S.bs.to (Nat.le_refl _) ?_
    repeat' contradiction
    · simp; omega
    have hrep : (List.replicate (T.N : Int).toNat [PyData.bool false]).flatten = (List.replicate T.N false).map .bool := by simp
    rw [hrep]
    repeat' contradiction
    have hc0 := S.co T.s0 S.ok.s0
    rw [← S.st] at hc0
    refine hc0.to (Nat.le_refl _) ?_
    repeat' contradiction
    refine sL ⟨by omega, by simp; omega, by simp [lim]; omega⟩ ?_
    rw [Int.toNat_natCast, ← List.map_set]
    repeat' contradiction
    refine ExS_for rfl ?_
    repeat' contradiction
    · omega
    have mi0 : MI T ((List.replicate T.N false).set T.s0 true) := by
      refine ⟨by simp, fun x hx => ?_⟩
      rcases mk_set_inv hx with rfl | hx
      · exact List.mem_of_getElem? (full_s0 S.ok)
      · unfold mk at hx
        rw [List.getElem?_replicate] at hx
        split at hx <;> simp at hx
    have hs1 : mk ((List.replicate T.N false).set T.s0 true) T.s0 := mk_set_self (by simpa using hs0)
    generalize (List.replicate T.N false).set T.s0 true = bs0 at mi0 hs1
    refine forW_fin (f := dN) (fun r pe => ∃ bs, MI T bs ∧ r.length ≤ T.N ∧ mk bs T.s0 ∧ (∀ i x, i + r.length ≤ T.N → T.full.L[i]? = some x → mk bs x) ∧ pe "marks" = some ⟨dBs bs, true⟩ ∧ pe "size" = some ⟨dN T.N, false⟩ ∧ pe "model" = some ⟨m.d, false⟩)
      (fun pe => ∃ bs, MI T bs ∧ (∀ (i x : Nat), T.full.L[i]? = some x → mk bs x) ∧ pe "marks" = some ⟨dBs bs, true⟩ ∧ pe "size" = some ⟨dN T.N, false⟩) (fun pe hI => ?_) (fun pe hI => ?_) (fun w r pe K' hI hn hc hb hr => ?_) _ _ ?_
    · obtain ⟨bs, h1, h2, p1, p2⟩ := hI
      have hlen := h1.len
      have hiff : ∀ x, x < T.N → bs[x]? = some (decide (x ∈ T.full.L)) := fun x hx => by
        by_cases hm : x ∈ T.full.L
        · obtain ⟨i, hi⟩ := List.mem_iff_getElem?.mp hm
          rw [decide_eq_true hm]; exact h2 i x hi
        · rw [decide_eq_false hm]
          have hx' : bs[x]? = some bs[x] := by simp
          cases hb : bs[x] with
          | false => rw [hx', hb]
          | true => exact absurd (h1.sound x (by unfold mk; rw [hx', hb])) hm
      repeat' contradiction
      · omega
      refine compL_filter (f := dN) (fun x => decide (x ∈ T.full.L)) dN _ (fun k acc K' hk ha hK1 hK2 => ?_) (by simp [lim]; omega) ?_
      · have hkN : k < T.N := by simpa using hk
        have hv := hiff k hkN
        repeat' contradiction
        refine iL (d := .bool (decide (k ∈ T.full.L))) ⟨by omega, by omega⟩ (by simp [hv]) ?_
        repeat' contradiction
        · rename_i h; exact ⟨ha, hK1 (decide_eq_true h)⟩
        · rename_i h; exact hK2 (decide_eq_false h)
      · repeat' contradiction
        rfl
    · obtain ⟨bs, h1, hrl, h2, h3, p1, p2, p3⟩ := hI
      have hb := TS.full_bi S.ok
      refine ⟨bs, h1, fun i x hx => h3 i x ?_ hx, p1, p2⟩
      have : i < T.full.L.length := by
        rcases Nat.lt_or_ge i T.full.L.length with q | q
        · exact q
        · rw [List.getElem?_eq_none q] at hx; cases hx
      have := hb.le
      simp; omega
    · obtain ⟨bs, h1, hrl, h2, h3, p1, p2, p3⟩ := hI
      rw [List.length_cons] at hrl
      clear hr hc
      repeat' contradiction
      refine ExS_for rfl ?_
      repeat' contradiction
      · omega
      have hlen := h1.len
      refine forW_inv (f := dN) (fun r' pe => ∃ (bs' : List Bool) (ch : Bool), MI T bs' ∧ (∀ x, mk bs x → mk bs' x) ∧ (ch = false → bs' = bs) ∧ (∀ x ∈ r', x < T.N) ∧ (∀ x, x < T.N → x ∉ r' → mk bs x → ∀ q ∈ T.mv x, mk bs' q.2) ∧ pe "marks" = some ⟨dBs bs', true⟩ ∧ pe "size" = some ⟨dN T.N, false⟩ ∧ pe "model" = some ⟨m.d, false⟩ ∧ pe "changed" = some ⟨.bool ch, false⟩)
        (fun pe hI => ?_) (fun x r' pe K'' hI hn' hc' hb' hr' => ?_) _ _ ?_
      · obtain ⟨bs', ch, i1, i2, i3, i4, i5, q1, q2, q3, q4⟩ := hI
        have hcl : ∀ x, x < T.N → mk bs x → ∀ q ∈ T.mv x, mk bs' q.2 := fun x hx => i5 x hx (fun h => nomatch h)
        repeat' contradiction
        cases ch with
        | false =>
          have e := i3 rfl
          subst e
          repeat' contradiction
          exact hb _ ⟨bs', i1, all_marked S.ok h2 hcl, q1, q2⟩
        | true =>
          repeat' contradiction
          refine hn _ ⟨bs', i1, by omega, i2 _ h2, fun i x hi hx => ?_, q1, q2, q3⟩
          have hr1 : r.length + 1 ≤ T.N := by omega
          refine next_marked S.ok (j := T.N - (r.length + 1)) (bs := bs) (fun i x hi hx => h3 i x (by simp; omega) hx) (i2 _ h2) hcl i x (by omega) hx
      · obtain ⟨bs', ch, i1, i2, i3, i4, i5, q1, q2, q3, q4⟩ := hI
        have hxN := i4 x (.head _)
        have hl' := i1.len
        have hv : bs'[x]? = some bs'[x] := by simp
        repeat' contradiction
        refine iL (d := .bool bs'[x]) ⟨by omega, by omega⟩ (by simp [hv]) ?_
        repeat' contradiction
        generalize bs'[x] = bx at hv
        cases bx with
        | false =>
          repeat' contradiction
          refine hc' _ ⟨bs', ch, i1, i2, i3, fun y hy => i4 y (.tail _ hy), fun y hy hn hm => ?_, q1, q2, q3, q4⟩
          by_cases hyx : y = x
          · subst hyx
            have := i2 y hm
            unfold mk at this
            rw [hv] at this; cases this
          · exact i5 y hy (fun h => (List.mem_cons.mp h).elim hyx hn) hm
        | true =>
          have hxm : x ∈ T.full.L := i1.sound x hv
          repeat' contradiction
          refine (S.so x hxN).to (Nat.le_refl _) ?_
          repeat' contradiction
          refine ExS_for rfl ?_
          repeat' contradiction
          refine (S.en x hxN).to (Nat.le_refl _) ?_
          repeat' contradiction
          refine forW_inv (f := fun q => dN q.1) (fun r3 pe => ∃ (bs3 : List Bool) (ch3 : Bool), MI T bs3 ∧ (∀ x, mk bs' x → mk bs3 x) ∧ (ch3 = false → bs3 = bs) ∧ (∀ q ∈ r3, q ∈ T.mv x) ∧ (∀ q ∈ T.mv x, q ∉ r3 → mk bs3 q.2) ∧ pe "marks" = some ⟨dBs bs3, true⟩ ∧ pe "size" = some ⟨dN T.N, false⟩ ∧ pe "model" = some ⟨m.d, false⟩ ∧ pe "changed" = some ⟨.bool ch3, false⟩ ∧ pe "here" = some ⟨dS (box x), false⟩)
            (fun pe hI => ?_) (fun q r3 pe K3 hI hn3 hc3 hb3 hr3 => ?_) _ _ ?_
          · obtain ⟨bs3, ch3, j1, j2, j3, j4, j5, v1, v2, v3, v4, v5⟩ := hI
            repeat' contradiction
            refine hn' _ ⟨bs3, ch3, j1, fun y hy => j2 y (i2 y hy), j3, fun y hy => i4 y (.tail _ hy), fun y hy hn hm q hq => ?_, v1, v2, v3, v4⟩
            by_cases hyx : y = x
            · subst hyx; exact j5 q hq (fun h => nomatch h)
            · exact j2 _ (i5 y hy (fun h => (List.mem_cons.mp h).elim hyx hn) hm q hq)
          · obtain ⟨bs3, ch3, j1, j2, j3, j4, j5, v1, v2, v3, v4, v5⟩ := hI
            have hq := j4 q (.head _)
            have hqN := S.ok.tgt x hxN q hq
            have hl3 := j1.len
            have hv3 : bs3[q.2]? = some bs3[q.2] := by simp
            clear p1 p2 p3 q1 q2 q3 q4
            repeat' contradiction
            refine (S.fi x hxN q hq).to (Nat.le_refl _) ?_
            repeat' contradiction
            refine (S.co q.2 hqN).to (Nat.le_refl _) ?_
            repeat' contradiction
            refine iL (d := .bool bs3[q.2]) ⟨by omega, by omega⟩ (by simp [hv3]) ?_
            repeat' contradiction
            generalize bs3[q.2] = b3 at hv3
            cases b3 with
            | false =>
              repeat' contradiction
              refine sL ⟨by omega, by simp; omega, by simp [lim]; omega⟩ ?_
              rw [Int.toNat_natCast, ← List.map_set]
              repeat' contradiction
              refine hn3 _ ⟨bs3.set q.2 true, true, ⟨by simp [hl3], fun y hy => ?_⟩, fun y hy => mk_set (j2 y hy), fun h => (by cases h), fun q' h => j4 q' (.tail _ h), fun q' h1 h2 => ?_, rfl, v2, v3, rfl, v5⟩
              · rcases mk_set_inv hy with rfl | hy
                · exact TS.closed S.ok x hxm q hq
                · exact j1.sound y hy
              · by_cases hqq : q' = q
                · subst hqq; exact mk_set_self (by omega)
                · exact mk_set (j5 q' h1 (fun h => (List.mem_cons.mp h).elim hqq h2))
            | true =>
              repeat' contradiction
              refine hn3 _ ⟨bs3, ch3, j1, j2, j3, fun q' h => j4 q' (.tail _ h), fun q' h1 h2 => ?_, v1, v2, v3, v4, v5⟩
              by_cases hqq : q' = q
              · subst hqq; exact hv3
              · exact j5 q' h1 (fun h => (List.mem_cons.mp h).elim hqq h2)
          · exact ⟨bs', ch, i1, fun _ h => h, i3, fun _ h => h, fun q h1 h2 => absurd h1 h2, q1, q2, q3, q4, rfl⟩
      · exact ⟨bs, false, h1, fun _ h => h, fun _ => rfl, fun x hx => by simpa using hx, fun x hx hn => absurd (List.mem_range.mpr hx) hn, p1, p2, p3, rfl⟩
    · refine ⟨bs0, mi0, by simp, hs1, fun i x hi hx => ?_, rfl, rfl, rfl⟩
      have : i = 0 := by simp at hi; omega
      subst this
      rw [full_s0 S.ok] at hx; injection hx with hx; subst hx; exact hs1
end
end

section
set_option linter.unusedVariables false
set_option maxRecDepth 100000
set_option maxHeartbeats 4000000
open PySem PyProof.Rows
structure SysR (c : Cx) (l : Nat) (m : Md) (T : TS) (box : Nat → List Int) : Prop extends Sys c l m T box where
  r3 : m.rules.length ≤ 3
  kr : ∀ x, x < T.N → ∀ q ∈ T.mv x, q.1 < m.rules.length
  vo : ∀ x, x < T.N → ∀ k r, m.rules[k]? = some r → ∃ v : Int, CallOK c l "value_of" [dP r.1, dS (box x)] (· = .int v) ∧ (v = 0 ↔ (T.mv x).lookup k = none)
noncomputable def TS.replay (T : TS) : Nat → List Int → Option (List Nat)
  | _, [] => some []
  | x, k :: ks => if k < 0 then none else match (T.mv x).lookup k.toNat with
    | some d => (T.replay d ks).map (d :: ·)
    | none => none
noncomputable def TS.runD (T : TS) (box : Nat → List Int) (ks : List Int) : PyData := match T.replay T.s0 ks with
  | some ds => dB box (T.s0 :: ds)
  | none => .none
theorem mem_of_look {l : List (Nat × Nat)} {k d : Nat} (h : l.lookup k = some d) : (k, d) ∈ l := by
  induction l with
  | nil => simp at h
  | cons q r ih =>
    rw [List.lookup_cons] at h
    split at h
    · rename_i e
      have e : k = q.1 := by simpa using e
      injection h with h
      subst h; subst e; exact .head _
    · exact .tail _ (ih h)
section
variable {c : Cx} (pg : Pg c) {l : Nat} {m : Md} {T : TS} {box : Nat → List Int}
include pg
theorem replayed_ok (S : SysR c l m T box) {ks : List Int} (hk : ks.length ≤ 900) : CallOK c (l+1) "replayed" [m.d, .list (ks.map dI)] (· = T.runD box ks) := by
  have gd := pg.gd
  have a1 := pg.addr 2 (f := "value_of") rfl rfl
  have a2 := pg.addr 4 (f := "fired") rfl rfl
  refine pg.ok 10 (xs := ["model","trace"]) rfl rfl (by decide +kernel) (by decide +kernel) (fun pm cd doc vs h => ?_) rfl ?_
  · match vs, h with
    | [a,b], _ => rfl
  · have o1 : OwnName "run" := .mk
    have hN := S.ok.n
    have hs0 := S.ok.s0
    have hb0 := S.blen _ hs0
    have hr3 := S.r3
    refine ExL_cons ?_
    repeat' contradiction
    · rw [S.st]; simp [lim]; omega
    rw [S.st]
    refine ExS_for rfl ?_
    repeat' contradiction
    refine forW_inv (f := dI) (fun r pe => ∃ (x : Nat) (dn : List Nat), x < T.N ∧ dn.length + r.length ≤ 901 ∧ (T.replay T.s0 ks).map (T.s0 :: ·) = (T.replay x r).map (dn ++ ·) ∧ pe "run" = some ⟨dB box dn, true⟩ ∧ pe "here" = some ⟨dS (box x), false⟩ ∧ pe "rules" = some ⟨.list (m.rules.map dRu), false⟩ ∧ pe "model" = some ⟨m.d, false⟩)
      (fun pe hI => ?_) (fun k r pe K' hI hn hc hb hr => ?_) _ _ ?_
    · obtain ⟨x, dn, h1, h2, h3, p1, p2, p3, p4⟩ := hI
      repeat' contradiction
      rw [TS.replay] at h3
      unfold TS.runD
      cases hq : T.replay T.s0 ks with
      | none => rw [hq] at h3; simp at h3
      | some ds => rw [hq] at h3; simp at h3; rw [← h3]
    · obtain ⟨x, dn, h1, h2, h3, p1, p2, p3, p4⟩ := hI
      rw [TS.replay] at h3
      have hrl : (m.rules.map dRu).length ≤ lim := by simp [lim]; omega
      have hdl : (dn.map fun x => dS (box x)).length ≤ lim := by simp at h2 ⊢; simp [lim]; omega
      have none_of : (T.replay T.s0 ks).map (T.s0 :: ·) = none → PyData.none = T.runD box ks := fun e => by
        unfold TS.runD
        rw [Option.map_eq_none_iff] at e
        rw [e]
      repeat' contradiction
      · rename_i hneg
        have hneg : k < 0 := hneg
        rw [if_pos hneg] at h3
        exact hr _ _ (tW_ret (rW_ret (none_of (by rw [h3]; rfl))))
      · exact hrl
      · rename_i hneg hge
        have hneg : ¬ k < 0 := hneg
        have hge : (m.rules.length : Int) ≤ k := by simpa using hge
        rw [if_neg hneg] at h3
        have hno : (T.mv x).lookup k.toNat = none := by
          cases e : (T.mv x).lookup k.toNat with
          | none => rfl
          | some d =>
            have := S.kr x h1 _ (mem_of_look e)
            simp only at this
            omega
        rw [hno] at h3
        exact hr _ _ (tW_ret (rW_ret (none_of (by rw [h3]; rfl))))
      rename_i hneg hge
      have hneg : ¬ k < 0 := hneg
      have hge : ¬ (m.rules.length : Int) ≤ k := by simpa using hge
      obtain ⟨k, rfl⟩ := Int.eq_ofNat_of_zero_le (show 0 ≤ k by omega)
      have hkl : k < m.rules.length := by omega
      rw [if_neg hneg] at h3
      obtain ⟨v, hv1, hv2⟩ := S.vo x h1 k m.rules[k] (by simp [hkl])
      refine iL (d := dRu m.rules[k]) ⟨by omega, by omega⟩ (by simp [hkl]) ?_
      repeat' contradiction
      refine hv1.to (Nat.le_refl _) ?_
      repeat' contradiction
      · rename_i hz
        have hz : v = 0 := hz
        have hno := hv2.mp hz
        simp only [Int.ofNat_eq_natCast, Int.toNat_natCast] at h3
        rw [hno] at h3
        exact hr _ _ (tW_ret (rW_ret (none_of (by rw [h3]; rfl))))
      · rename_i hz
        have hz : ¬ v = 0 := hz
        simp only [Int.ofNat_eq_natCast, Int.toNat_natCast] at h3
        cases e : (T.mv x).lookup k with
        | none => exact absurd (hv2.mpr e) hz
        | some d =>
          rw [e] at h3
          have hmem := mem_of_look e
          have hdN := S.ok.tgt x h1 _ hmem
          refine (S.fi x h1 (k, d) hmem).to (Nat.le_refl _) ?_
          repeat' contradiction
          · exact hdl
          · refine hn _ ⟨d, dn ++ [d], hdN, by simp at h2 ⊢; omega, ?_, ?_, rfl, p3, p4⟩
            · rw [h3, Option.map_map]
              congr 1
              funext z
              simp
            · rw [dB_app]; rfl
    · exact ⟨T.s0, [T.s0], hs0, by simp; omega, rfl, rfl, rfl, rfl, rfl⟩
end
end

section
set_option linter.unusedVariables false
set_option maxRecDepth 100000
set_option maxHeartbeats 4000000
open PySem PyProof.Rows
section
variable {c : Cx} {l : Nat} {nm : Names} {pe : PEnv}
theorem EvS_if01 {t : Expr} {x y : Int} {k k' p p' pos} {K : PyData → Prop} (h : EvT c l nm pe t fun r => K (.int (bif r then x else y))) : EvS c l nm pe (.IfExp t (.Constant (.int x) k p) (.Constant (.int y) k' p') pos) K :=
  EvS_ifexp (h.mono fun r hr => by cases r with | true => exact EvS_int hr | false => exact EvS_int hr)
theorem EvT_or2 {e1 e2 : Expr} {pos} {p q : Bool} {K : Bool → Prop} (h1 : EvT c l nm pe e1 (· = p)) (h2 : EvT c l nm pe e2 (· = q)) (h : K (p || q)) : EvT c l nm pe (.BoolOp .Or [e1, e2] pos) K :=
  EvT_or (h1.mono fun r hr => by
    subst hr
    cases r with
    | true => exact h
    | false => exact EvT_or (h2.mono fun r hr => by
        subst hr
        cases r with
        | true => exact h
        | false => exact EvT_or_nil h))
theorem EvT_and2 {e1 e2 : Expr} {pos} {p q : Bool} {K : Bool → Prop} (h1 : EvT c l nm pe e1 (· = p)) (h2 : EvT c l nm pe e2 (· = q)) (h : K (p && q)) : EvT c l nm pe (.BoolOp .And [e1, e2] pos) K :=
  EvT_and (h1.mono fun r hr => by
    subst hr
    cases r with
    | false => exact h
    | true => exact EvT_and (h2.mono fun r hr => by
        subst hr
        cases r with
        | false => exact h
        | true => exact EvT_and_nil h))
end
noncomputable abbrev dOp (q : Op × Lf × Bool) : PyData := .tuple [.str q.1.str, q.2.1.d, .bool q.2.2]
noncomputable abbrev dTr (t : Tr) : PyData := .tuple [t.leaf.d, .list (t.ops.map dOp)]
section
variable {c : Cx} (pg : Pg c) {l : Nat}
include pg
theorem cell_ok {ns : List Int} (hl : ns.length ≤ 63) (i : Nat) (hi : i < 2 ^ 31) : CallOK c (l+1) "_law_cell" [.list (ns.map dI), dN i] (· = .int (ns.getD i 0)) := by
  have gd := pg.gd
  refine pg.ok 25 (xs := ["script","i"]) rfl rfl (by decide +kernel) (by decide +kernel) (fun pm cd doc vs h => ?_) rfl ?_
  · match vs, h with
    | [a,b], _ => rfl
  · refine ExL_cons ?_
    repeat' contradiction
    · simp [lim]; omega
    · rename_i h
      have h : i < ns.length := by simpa using h
      refine iL (d := .int (ns.getD i 0)) ⟨by omega, by omega⟩ (by simp [h]) ?_
      repeat' contradiction
      rfl
    · rename_i h
      have h : ¬ i < ns.length := by simpa using h
      simp at h
      simp [h]
theorem apply_ok (o : Op) (a b : Int) (ha : a.natAbs < 2 ^ 32) : CallOK c (l+1) "_law_apply" [.str o.str, .int a, .int b] (· = .int (o.val a b)) := by
  have gd := pg.gd
  refine pg.ok 26 (xs := ["op","a","b"]) rfl rfl (by decide +kernel) (by decide +kernel) (fun pm cd doc vs h => ?_) rfl ?_
  · match vs, h with
    | [a,b,c], _ => rfl
  · refine ExL_cons ?_
    refine ExS_assign rfl (kl rfl) ?_
    refine EvF.toS ?_
    refine EvF_dictS gd ?_ ?_ ?_ ?_ ?_
    · rfl
    · rfl
    · simp
    · decide
    refine EvP_cons (EvS_str (EvS_bin ?_))
    iterate 3 contradiction
    refine EvP_cons (EvS_str (EvS_bin ?_))
    iterate 3 contradiction
    refine EvP_cons (EvS_str (EvS_bin ?_))
    iterate 2 contradiction
    refine bI_mul ha ?_
    refine EvP_cons (EvS_str (EvS_if01 ?_))
    iterate 5 contradiction
    refine EvP_cons (EvS_str (EvS_if01 ?_))
    iterate 4 contradiction
    refine EvP_cons (EvS_str (EvS_if01 ?_))
    iterate 4 contradiction
    refine EvP_cons (EvS_str (EvS_if01 ?_))
    iterate 4 contradiction
    refine EvP_cons (EvS_str (EvS_if01 (EvT_or2 (p := decide (a = 0)) (q := decide (b = 0)) ?_ ?_ ?_)))
    · repeat' contradiction
      rfl
    · repeat' contradiction
      rfl
    refine EvP_cons (EvS_str (EvS_if01 (EvT_and2 (p := decide (a = 0)) (q := decide (b = 0)) ?_ ?_ ?_)))
    · repeat' contradiction
      rfl
    · repeat' contradiction
      rfl
    refine EvP_nil ⟨⟨[("+", .int (a + b)), ("-", .int (a - b)), ("*", .int (a * b)), ("not", .int (bif decide (a = 0) then 1 else 0)), ("==", .int (bif decide (a = b) then 1 else 0)), ("!=", .int (bif decide (a = b) then 0 else 1)), ("<", .int (bif decide (a < b) then 1 else 0)), ("and", .int (bif decide (a = 0) || decide (b = 0) then 0 else 1)), ("or", .int (bif decide (a = 0) && decide (b = 0) then 0 else 1))], rfl, ?_⟩, ?_⟩
    · show (["+", "-", "*", "not", "==", "!=", "<", "and", "or"] : List Str).Nodup
      decide +kernel
    iterate 6 contradiction
    have hk : ∀ s : Str, kindOk [((.str "+" : PyData), (.int (a + b) : PyData)), (.str "-", .int (a - b)), (.str "*", .int (a * b)), (.str "not", .int (bif decide (a = 0) then 1 else 0)), (.str "==", .int (bif decide (a = b) then 1 else 0)), (.str "!=", .int (bif decide (a = b) then 0 else 1)), (.str "<", .int (bif decide (a < b) then 1 else 0)), (.str "and", .int (bif decide (a = 0) || decide (b = 0) then 0 else 1)), (.str "or", .int (bif decide (a = 0) && decide (b = 0) then 0 else 1))] (.str s) := fun s q hq => by
      simp only [List.mem_cons, List.not_mem_nil, or_false] at hq
      rcases hq with rfl | rfl | rfl | rfl | rfl | rfl | rfl | rfl | rfl <;> trivial
    refine ⟨hk _, trivial, .int (o.val a b), ?_, rfl⟩
    cases o
    · rfl
    · rfl
    · rfl
    · show some _ = some _; simp only [Op.val]; by_cases h : a = b <;> simp [h]
    · show some _ = some _; simp only [Op.val]; by_cases h : a = b <;> simp [h]
    · show some _ = some _; simp only [Op.val]; by_cases h : a < b <;> simp [h]
    · show some _ = some _; simp only [Op.val]; by_cases h : a = 0 <;> by_cases h' : b = 0 <;> simp [h, h']
    · show some _ = some _; simp only [Op.val]; by_cases h : a = 0 <;> by_cases h' : b = 0 <;> simp [h, h']
    · show some _ = some _; simp only [Op.val]; by_cases h : a = 0 <;> simp [h]
end
end

section
set_option linter.unusedVariables false
set_option maxRecDepth 100000
set_option maxHeartbeats 4000000
open PySem PyProof.Rows
theorem dOp_tgt {q : Op × Lf × Bool} : dOp q = .tuple [.str q.1.str, q.2.1.d, .bool q.2.2] := rfl
section
variable {c : Cx} (pg : Pg c) {l : Nat}
include pg
theorem leaf_ok {n : Nat} {lf : Lf} {st : List Int} (hl : lf.ok n) (hs : stOk n st) (hn : n ≤ 3) : CallOK c (l+1) "_law_leaf" [lf.d, dS st] (· = .int (lf.val st)) := by
  have gd := pg.gd
  refine pg.ok 27 (xs := ["leaf","state"]) rfl rfl (by decide +kernel) (by decide +kernel) (fun pm cd doc vs h => ?_) rfl ?_
  · match vs, h with
    | [a,b], _ => rfl
  · cases lf with
    | num k =>
      simp only [Lf.d]
      refine ExL_cons ?_
      repeat' contradiction
      rfl
    | var i =>
      have hi : i < st.length := by rw [hs.1]; exact hl
      have h3 := hs.1
      simp only [Lf.d]
      refine ExL_cons ?_
      repeat' contradiction
      refine iL (d := .int (st.getD i 0)) ⟨by omega, by omega⟩ (by simp [hi]) ?_
      repeat' contradiction
      rfl

theorem value_ok {n : Nat} {t : Tr} {st : List Int} (ht : t.ok n) (hs : stOk n st) (hn : n ≤ 3) : CallOK c (l+2) "_law_value" [dTr t, dS st] (· = .int (t.val st)) := by
  have gd := pg.gd
  have a1 := pg.addr 27 (f := "_law_leaf") rfl rfl
  have a2 := pg.addr 26 (f := "_law_apply") rfl rfl
  refine pg.ok 28 (xs := ["tree","state"]) rfl rfl (by decide +kernel) (by decide +kernel) (fun pm cd doc vs h => ?_) rfl ?_
  · match vs, h with
    | [a,b], _ => rfl
  · obtain ⟨h1, h2, h3⟩ := ht
    refine ExL_cons ?_
    repeat' contradiction
    refine (leaf_ok pg h1 hs hn).to (Nat.le_refl _) ?_
    repeat' contradiction
    refine ExS_for rfl ?_
    repeat' contradiction
    refine forW_inv (f := dOp) (fun r pe => ∃ v : Int, r.foldl (stepV st) v = t.val st ∧ (v.natAbs + 1) * 5 ^ r.length ≤ 2 ^ 20 ∧ (∀ q ∈ r, q.2.1.ok n) ∧ pe "got" = some ⟨.int v, false⟩ ∧ pe "state" = some ⟨dS st, false⟩)
      (fun pe hI => ?_) (fun q r pe K' hI hn' hc hb hr => ?_) _ _ ?_
    · obtain ⟨v, k1, k2, k3, p1, p2⟩ := hI
      repeat' contradiction
      rw [← k1]; rfl
    · obtain ⟨v, k1, k2, k3, p1, p2⟩ := hI
      obtain ⟨o, lf, f⟩ := q
      have hl := k3 _ (.head _)
      simp only at hl
      have hlv : (lf.val st).natAbs ≤ 3 := Lf.val_le hl hs
      have hv : v.natAbs < 2 ^ 20 := by
        have : 1 ≤ 5 ^ ((o, lf, f) :: r).length := Nat.pow_pos (by omega)
        have := Nat.mul_le_mul_left (v.natAbs + 1) this
        omega
      have hnext : ((stepV st v (o, lf, f)).natAbs + 1) * 5 ^ r.length ≤ 2 ^ 20 := by
        refine Nat.le_trans ?_ k2
        rw [List.length_cons, Nat.pow_succ, Nat.mul_comm (5 ^ r.length) 5, ← Nat.mul_assoc]
        refine Nat.mul_le_mul_right _ ?_
        have key : (stepV st v (o, lf, f)).natAbs ≤ (v.natAbs + 1) * 4 := by
          unfold stepV
          dsimp only
          split
          · have := o.val_le (lf.val st) v
            refine Nat.le_trans this ?_
            rw [Nat.mul_comm]
            exact Nat.mul_le_mul_left _ (by omega)
          · have := o.val_le v (lf.val st)
            exact Nat.le_trans this (Nat.mul_le_mul_left _ (by omega))
        omega
      clear hc hb hr
      simp only [dOp]
      repeat' contradiction
      refine (leaf_ok pg hl hs hn).to (Nat.le_refl _) ?_
      repeat' contradiction
      cases f with
      | true =>
        repeat' contradiction
        refine (apply_ok pg o (lf.val st) v (by omega)).to (Nat.le_refl _) ?_
        repeat' contradiction
        exact hn' _ ⟨o.val (lf.val st) v, k1, hnext, fun q hq => k3 q (.tail _ hq), rfl, p2⟩
      | false =>
        repeat' contradiction
        refine (apply_ok pg o v (lf.val st) (by omega)).to (Nat.le_refl _) ?_
        repeat' contradiction
        exact hn' _ ⟨o.val v (lf.val st), k1, hnext, fun q hq => k3 q (.tail _ hq), rfl, p2⟩
    · refine ⟨t.leaf.val st, rfl, ?_, fun q hq => (h3 q hq).1, rfl, rfl⟩
      have hv := Lf.val_le h1 hs
      have hp : 5 ^ t.ops.length ≤ 5 ^ 2 := Nat.pow_le_pow_right (by omega) h2
      exact Nat.le_trans (Nat.mul_le_mul (by omega : (t.leaf.val st).natAbs + 1 ≤ 4) hp) (by decide)

theorem postfix_ok {n : Nat} {t : Tr} (ht : t.ok n) : CallOK c (l+1) "_law_postfix" [dTr t] (· = dP t) := by
  have gd := pg.gd
  refine pg.ok 29 (xs := ["tree"]) rfl rfl (by decide +kernel) (by decide +kernel) (fun pm cd doc vs h => ?_) rfl ?_
  · match vs, h with
    | [a], _ => rfl
  · obtain ⟨h1, h2, h3⟩ := ht
    refine ExL_cons ?_
    repeat' contradiction
    refine ExS_for rfl ?_
    repeat' contradiction
    refine forW_inv (f := dOp) (fun r pe => ∃ its : List It, r.foldl stepP its = t.post ∧ its.length + 2 * r.length ≤ 100 ∧ pe "items" = some ⟨.list (its.map It.d), false⟩)
      (fun pe hI => ?_) (fun q r pe K' hI hn' hc hb hr => ?_) _ _ ?_
    · obtain ⟨its, k1, k2, p1⟩ := hI
      repeat' contradiction
      show _ = PyData.list (t.post.map It.d)
      rw [← k1]; rfl
    · obtain ⟨its, k1, k2, p1⟩ := hI
      obtain ⟨o, lf, f⟩ := q
      clear hc hb hr
      simp only [List.length_cons] at k2
      have hso := o.strOk
      simp only [dOp]
      by_cases ho : o = .not
      · subst ho
        repeat' contradiction
        · simp [lim]; omega
        · refine hn' _ ⟨its ++ [.op .not], k1, by simp; omega, ?_⟩
          show _ = some (⟨.list ((its ++ [It.op .not]).map It.d), false⟩ : Slot)
          rw [List.map_append]; rfl
      · have hne := Op.ne_not ho
        have hne' : (!decide (o.str = ("not" : Str))) = true := by rw [hne]; rfl
        have hst : stepP its (o, lf, f) = (if f then .lf lf :: its else its ++ [.lf lf]) ++ [.op o] := by unfold stepP; simp [ho]
        rw [List.foldl_cons, hst] at k1
        cases f with
        | true =>
          repeat' contradiction
          · simp [lim]; omega
          · simp [lim]; omega
          · refine hn' _ ⟨.lf lf :: its ++ [.op o], k1, by simp; omega, ?_⟩
            show _ = some (⟨.list ((It.lf lf :: its ++ [It.op o]).map It.d), false⟩ : Slot)
            rw [List.map_append]; rfl
        | false =>
          repeat' contradiction
          · simp [lim]; omega
          · simp [lim]; omega
          · refine hn' _ ⟨its ++ [.lf lf] ++ [.op o], k1, by simp; omega, ?_⟩
            show _ = some (⟨.list ((its ++ [It.lf lf] ++ [It.op o]).map It.d), false⟩ : Slot)
            rw [List.map_append, List.map_append]; rfl
    · exact ⟨[.lf t.leaf], rfl, by simp; omega, rfl⟩
end
end

section
set_option linter.unusedVariables false
set_option maxRecDepth 100000
set_option maxHeartbeats 4000000
open PySem PyProof.Rows
inductive Lk | n | x | y
noncomputable def Lk.str : Lk → Str
  | .n => "n" | .x => "x" | .y => "y"
noncomputable def numsT : List Int := [1, 0, 2, 3, 1]
noncomputable def firstsT : List (Lk × List (Op × Lk × Bool)) := [(.n, []), (.x, []), (.x, [(.add, .n, false)]), (.x, [(.sub, .n, false)]), (.x, [(.mul, .y, false)]), (.x, [(.eq, .n, false)]), (.x, [(.ne, .n, false)]), (.x, [(.lt, .n, false)]), (.x, [(.and, .y, false)]), (.x, [(.or, .y, false)]), (.x, [(.not, .n, false)])]
noncomputable def secondsT : List (List (Op × Lk × Bool)) := [[], [], [(.sub, .n, true)], [(.lt, .y, true)], [(.and, .y, true)], [(.or, .y, false)], [(.not, .n, false)]]
noncomputable abbrev dOk (q : Op × Lk × Bool) : PyData := .tuple [.str q.1.str, .str q.2.1.str, .bool q.2.2]
noncomputable abbrev dFi (q : Lk × List (Op × Lk × Bool)) : PyData := .tuple [.str q.1.str, .tuple (q.2.map dOk)]
noncomputable def leafOf (b : Int) (nv : Nat) : Lk → Lf
  | .n => .num (numsT.getD (b.fmod 5).toNat 0)
  | .x => .var (b.fmod nv).toNat
  | .y => .var ((b + 1).fmod nv).toNat
noncomputable def treeOf (a b : Int) (nv : Nat) : Tr :=
  let f := firstsT.getD (a.fmod 11).toNat (.n, [])
  ⟨leafOf b nv f.1, (f.2 ++ secondsT.getD (b.fmod 7).toNat []).map fun q => (q.1, leafOf b nv q.2.1, q.2.2)⟩
noncomputable abbrev dLv (b : Int) (nv : Nat) : List (PyData × PyData) := [(.str "n", (leafOf b nv .n).d), (.str "x", (leafOf b nv .x).d), (.str "y", (leafOf b nv .y).d)]
theorem iLeaf {b : Int} {nv : Nat} {lk : Lk} {K : PyData → Prop} (h : K (leafOf b nv lk).d) : itemW (.dict (dLv b nv)) (.str lk.str) K := by
  refine ⟨fun q hq => ?_, trivial, _, ?_, h⟩
  · simp only [dLv, List.mem_cons, List.not_mem_nil, or_false] at hq
    rcases hq with rfl | rfl | rfl <;> trivial
  · cases lk <;> rfl
theorem fmod_nat (a : Int) (n : Nat) (hn : 0 < n) : ∃ k : Nat, a.fmod n = k ∧ k < n ∧ (a.fmod n).toNat = k := by
  have h1 := Int.fmod_nonneg_of_pos a (b := n) (by omega)
  have h2 := Int.fmod_lt_of_pos a (b := n) (by omega)
  exact ⟨(a.fmod n).toNat, by omega, by omega, rfl⟩
theorem iTm {α : Type} {xs : List α} {f : α → PyData} {a n : Int} {K : PyData → Prop} (dflt : α) (hn : (xs.length : Int) = n) (h0 : 0 < xs.length) (hl : xs.length < 2 ^ 31) (h : K (f (xs.getD (a.fmod n).toNat dflt))) : itemW (.tuple (xs.map f)) (.int (a.fmod n)) K := by
  have h1 := Int.fmod_nonneg_of_pos a (b := n) (by omega)
  have h2 := Int.fmod_lt_of_pos a (b := n) (by omega)
  have h3 : (a.fmod n).toNat < xs.length := by omega
  refine iT (d := f (xs.getD (a.fmod n).toNat dflt)) ⟨h1, by omega⟩ ?_ h
  simp [h3]
section
variable {c : Cx} (pg : Pg c) {l : Nat}
include pg
theorem tree_ok (a b : Int) {nv : Nat} (h1 : 1 ≤ nv) (h3 : nv ≤ 3) : CallOK c (l+1) "_law_tree" [.int a, .int b, dN nv] (· = dTr (treeOf a b nv)) := by
  have gd := pg.gd
  have t1 : c.G "_law_nums" = some (.tuple (numsT.map dI)) := by rw [pg.G]; rfl
  have t2 : c.G "_law_firsts" = some (.tuple (firstsT.map dFi)) := by rw [pg.G]; rfl
  have t3 : c.G "_law_seconds" = some (.tuple (secondsT.map fun q => .tuple (q.map dOk))) := by rw [pg.G]; rfl
  refine pg.ok 30 (xs := ["a","b","nvars"]) rfl rfl (by decide +kernel) (by decide +kernel) (fun pm cd doc vs h => ?_) rfl ?_
  · match vs, h with
    | [a,b,c], _ => rfl
  · obtain ⟨k5, e5, l5, z5⟩ := fmod_nat b 5 (by omega)
    obtain ⟨k11, e11, l11, z11⟩ := fmod_nat a 11 (by omega)
    obtain ⟨k7, e7, l7, z7⟩ := fmod_nat b 7 (by omega)
    obtain ⟨kx, ex, lx, zx⟩ := fmod_nat b nv (by omega)
    obtain ⟨ky, ey, ly, zy⟩ := fmod_nat (b + 1) nv (by omega)
    refine ExL_cons ?_
    refine ExS_assign rfl (kc rfl) ?_
    refine EvF.toS ?_
    refine EvF_dictS gd ?_ ?_ ?_ ?_ ?_
    · rfl
    · rfl
    · simp
    · decide
    repeat' contradiction
    · decide
    refine iTm 0 rfl (by decide) (by decide) ?_
    repeat' contradiction
    · omega
    · omega
    refine ⟨⟨[("n", (leafOf b nv .n).d), ("x", (leafOf b nv .x).d), ("y", (leafOf b nv .y).d)], ?_, ?_⟩, ?_⟩
    · simp only [leafOf, Lf.d, zx, zy, dN, ex, ey]; rfl
    · show (["n", "x", "y"] : List Str).Nodup
      decide +kernel
    have hkds : ([(.str "n", .tuple [.str "num", .int (numsT.getD (b.fmod 5).toNat 0)]), (.str "x", .tuple [.str "var", .int (b.fmod nv)]), (.str "y", .tuple [.str "var", .int ((b + 1).fmod nv)])] : List (PyData × PyData)) = dLv b nv := by
      simp only [dLv, leafOf, Lf.d, zx, zy, dN, ex, ey]; rfl
    rw [hkds]
    have hops : ∀ i, (firstsT.getD i (.n, [])).2.length ≤ 1 := fun i => by
      rcases Nat.lt_or_ge i 11 with h | h
      · have : ∀ i < 11, (firstsT.getD i (.n, [])).2.length ≤ 1 := by decide +kernel
        exact this i h
      · have : firstsT.getD i (.n, []) = (.n, []) := by rw [List.getD_eq_getElem?_getD, List.getElem?_eq_none (by exact h)]; rfl
        rw [this]; simp
    have hsec : ∀ i, (secondsT.getD i []).length ≤ 1 := fun i => by
      rcases Nat.lt_or_ge i 7 with h | h
      · have : ∀ i < 7, (secondsT.getD i []).length ≤ 1 := by decide +kernel
        exact this i h
      · have : secondsT.getD i [] = [] := by rw [List.getD_eq_getElem?_getD, List.getElem?_eq_none (by exact h)]; rfl
        rw [this]; simp
    have hfirst := hops (a.fmod 11).toNat
    have hsecond := hsec (b.fmod 7).toNat
    repeat' contradiction
    · decide
    refine iTm (.n, []) rfl (by decide) (by decide) ?_
    repeat' contradiction
    refine iLeaf ?_
    repeat' contradiction
    · decide
    refine iTm (xs := secondsT) (f := fun q => .tuple (q.map dOk)) [] rfl (by decide) (by decide) ?_
    repeat' contradiction
    · rw [List.length_map, List.length_map]; exact lim_of (by omega)
    rw [← List.map_append]
    refine compL_map (f := dOk) (fun q => dOp (q.1, leafOf b nv q.2.1, q.2.2)) _ (fun q acc K' hq hacc hK => ?_) (by rw [List.length_append]; exact lim_of (by omega)) ?_
    · simp only [dOk]
      repeat' contradiction
      refine iLeaf ?_
      repeat' contradiction
      exact ⟨hacc, hK⟩
    · repeat' contradiction
      show _ = dTr (treeOf a b nv)
      simp only [dTr, treeOf, List.map_map]
      rfl
end
end

section
set_option linter.unusedVariables false
set_option maxRecDepth 100000
set_option maxHeartbeats 4000000
open PySem PyProof.Rows
noncomputable def wcT : List Nat := [1, 2, 0, 2, 1]
noncomputable def ruleOf (ns : List Int) (at' nv : Nat) : Rule :=
  let a := ns.getD at' 0
  (treeOf a (ns.getD (at' + 1) 0) nv, (List.range (wcT.getD (a.fmod 5).toNat 0)).map fun j =>
    let c := ns.getD (at' + 2 + 2 * j) 0
    ((c.fmod nv).toNat, treeOf c (ns.getD (at' + 3 + 2 * j) 0) nv))
noncomputable abbrev dWL (q : Nat × Tr) : PyData := .tuple [dN q.1, dTr q.2]
noncomputable abbrev dRL (r : Rule) : PyData := .tuple [dTr r.1, .list (r.2.map dWL)]
theorem leaf_okN (b : Int) {nv : Nat} (h1 : 1 ≤ nv) (lk : Lk) : (leafOf b nv lk).ok nv := by
  cases lk with
  | n =>
    show (numsT.getD _ 0).natAbs ≤ 3
    have : ∀ i, (numsT.getD i 0).natAbs ≤ 3 := fun i => by
      rcases Nat.lt_or_ge i 5 with h | h
      · have : ∀ i < 5, (numsT.getD i 0).natAbs ≤ 3 := by decide +kernel
        exact this i h
      · rw [List.getD_eq_getElem?_getD, List.getElem?_eq_none (by exact h)]; decide
    exact this _
  | x =>
    obtain ⟨k, e, h, z⟩ := fmod_nat b nv h1
    show (b.fmod nv).toNat < nv
    omega
  | y =>
    obtain ⟨k, e, h, z⟩ := fmod_nat (b + 1) nv h1
    show ((b + 1).fmod nv).toNat < nv
    omega
noncomputable def opsFine (q : List (Op × Lk × Bool)) : Bool := decide (q.length ≤ 1) && q.all fun z => decide (z.1 ≠ .not) || !z.2.2
theorem first_fine (i : Nat) : opsFine (firstsT.getD i (.n, [])).2 = true := by
  rcases Nat.lt_or_ge i 11 with h | h
  · have : ∀ i < 11, opsFine (firstsT.getD i (.n, [])).2 = true := by decide +kernel
    exact this i h
  · rw [List.getD_eq_getElem?_getD, List.getElem?_eq_none (by exact h)]; rfl
theorem second_fine (i : Nat) : opsFine (secondsT.getD i []) = true := by
  rcases Nat.lt_or_ge i 7 with h | h
  · have : ∀ i < 7, opsFine (secondsT.getD i []) = true := by decide +kernel
    exact this i h
  · rw [List.getD_eq_getElem?_getD, List.getElem?_eq_none (by exact h)]; rfl
theorem fine_not {q : List (Op × Lk × Bool)} (h : opsFine q = true) : q.length ≤ 1 ∧ ∀ z ∈ q, z.1 = .not → z.2.2 = false := by
  unfold opsFine at h
  rw [Bool.and_eq_true] at h
  refine ⟨of_decide_eq_true h.1, fun z hz hn => ?_⟩
  have := List.all_eq_true.mp h.2 z hz
  simpa [hn] using this
theorem tree_okN (a b : Int) {nv : Nat} (h1 : 1 ≤ nv) : (treeOf a b nv).ok nv := by
  obtain ⟨f1, f2⟩ := fine_not (first_fine (a.fmod 11).toNat)
  obtain ⟨s1, s2⟩ := fine_not (second_fine (b.fmod 7).toNat)
  refine ⟨leaf_okN b h1 _, ?_, fun q hq => ?_⟩
  · simp only [treeOf, List.length_map, List.length_append]; omega
  · simp only [treeOf] at hq
    obtain ⟨z, hz, rfl⟩ := List.mem_map.mp hq
    refine ⟨leaf_okN b h1 _, fun hn => ?_⟩
    rcases List.mem_append.mp hz with hz | hz
    · exact f2 z hz hn
    · exact s2 z hz hn
theorem wc_le (i : Nat) : wcT.getD i 0 ≤ 2 := by
  rcases Nat.lt_or_ge i 5 with h | h
  · have : ∀ i < 5, wcT.getD i 0 ≤ 2 := by decide +kernel
    exact this i h
  · rw [List.getD_eq_getElem?_getD, List.getElem?_eq_none (by exact h)]; decide
theorem rule_okN (ns : List Int) (at' : Nat) {nv : Nat} (h1 : 1 ≤ nv) : Rule.ok nv (ruleOf ns at' nv) := by
  refine ⟨tree_okN _ _ h1, ?_, fun q hq => ?_⟩
  · simp only [ruleOf, List.length_map, List.length_range]; exact wc_le _
  · simp only [ruleOf] at hq
    obtain ⟨j, _, rfl⟩ := List.mem_map.mp hq
    refine ⟨?_, tree_okN _ _ h1⟩
    obtain ⟨k, e, h, z⟩ := fmod_nat (ns.getD (at' + 2 + 2 * j) 0) nv h1
    simp only
    omega
section
variable {c : Cx} (pg : Pg c) {l : Nat}
include pg
theorem cell_okI {ns : List Int} (hl : ns.length ≤ 63) (n : Nat) {i : Int} (e : i = n) (hi : n < 2 ^ 31) : CallOK c (l+1) "_law_cell" [.list (ns.map dI), .int i] (· = .int (ns.getD n 0)) := by
  subst e; exact cell_ok pg hl n hi
theorem rule_ok {ns : List Int} (hl : ns.length ≤ 63) {at' nv : Nat} (hat : at' ≤ 100) (h1 : 1 ≤ nv) (h3 : nv ≤ 3) : CallOK c (l+2) "_law_rule" [.list (ns.map dI), dN at', dN nv] (· = dRL (ruleOf ns at' nv)) := by
  have gd := pg.gd
  have a1 := pg.addr 25 (f := "_law_cell") rfl rfl
  have a2 := pg.addr 30 (f := "_law_tree") rfl rfl
  have t1 : c.G "_law_write_counts" = some (.tuple (wcT.map dN)) := by rw [pg.G]; rfl
  refine pg.ok 31 (xs := ["script","at","nvars"]) rfl rfl (by decide +kernel) (by decide +kernel) (fun pm cd doc vs h => ?_) rfl ?_
  · match vs, h with
    | [a,b,c], _ => rfl
  · have o1 : OwnName "writes" := .mk
    refine ExL_cons ?_
    repeat' contradiction
    refine (cell_okI pg hl at' rfl (by omega)).to (Nat.le_refl _) ?_
    repeat' contradiction
    refine (cell_okI pg hl (at' + 1) rfl (by omega)).to (Nat.le_refl _) ?_
    repeat' contradiction
    refine (tree_ok pg _ _ h1 h3).to (Nat.le_refl _) ?_
    repeat' contradiction
    refine ExS_for rfl ?_
    repeat' contradiction
    · decide
    refine iTm 0 rfl (by decide) (by decide) ?_
    have hw := wc_le ((ns.getD at' 0).fmod 5).toNat
    repeat' contradiction
    · omega
    refine forW_inv (f := dN) (fun r pe => ∃ ws : List (Nat × Tr), ws.length + r.length ≤ 2 ∧ ws ++ r.map (fun j => (((ns.getD (at' + 2 + 2 * j) 0).fmod nv).toNat, treeOf (ns.getD (at' + 2 + 2 * j) 0) (ns.getD (at' + 3 + 2 * j) 0) nv)) = (ruleOf ns at' nv).2 ∧ (∀ j ∈ r, j ≤ 2) ∧ pe "writes" = some ⟨.list (ws.map dWL), true⟩ ∧ pe "script" = some ⟨.list (ns.map dI), false⟩ ∧ pe "at" = some ⟨dN at', false⟩ ∧ pe "nvars" = some ⟨dN nv, false⟩ ∧ pe "guard" = some ⟨dTr (ruleOf ns at' nv).1, false⟩)
      (fun pe hI => ?_) (fun j r pe K' hI hn' hc hb hr => ?_) _ _ ?_
    · obtain ⟨ws, k1, k2, k3, p1, p2, p3, p4, p5⟩ := hI
      repeat' contradiction
      rw [List.map_nil, List.append_nil] at k2
      show _ = dRL (ruleOf ns at' nv)
      rw [k2]
    · obtain ⟨ws, k1, k2, k3, p1, p2, p3, p4, p5⟩ := hI
      have hj := k3 j (.head _)
      simp only [List.length_cons] at k1
      repeat' contradiction
      · simp
      refine (cell_okI pg hl (at' + 2 + 2 * j) (by omega) (by omega)).to (Nat.le_refl _) ?_
      repeat' contradiction
      · simp [lim]; omega
      · omega
      · simp
      refine (cell_okI pg hl (at' + 3 + 2 * j) (by omega) (by omega)).to (Nat.le_refl _) ?_
      repeat' contradiction
      refine (tree_ok pg _ _ h1 h3).to (Nat.le_refl _) ?_
      repeat' contradiction
      obtain ⟨kx, ex, lx, zx⟩ := fmod_nat (ns.getD (at' + 2 + 2 * j) 0) nv h1
      refine hn' _ ⟨ws ++ [(((ns.getD (at' + 2 + 2 * j) 0).fmod nv).toNat, treeOf (ns.getD (at' + 2 + 2 * j) 0) (ns.getD (at' + 3 + 2 * j) 0) nv)], by simp; omega, by rw [List.append_assoc]; exact k2, fun j' h => k3 j' (.tail _ h), ?_, p2, p3, p4, p5⟩
      show _ = some (⟨.list ((ws ++ [_]).map dWL), true⟩ : Slot)
      rw [List.map_append, zx, ex]; rfl
    · exact ⟨[], by simpa using hw, rfl, fun j hj => by have := List.mem_range.mp hj; omega, rfl, rfl, rfl, rfl, rfl⟩

theorem model_ok {m : Md} (hm : m.ok) : CallOK c (l+2) "_law_model" [dN m.base, dS m.start, .list (m.rules.map dRL)] (· = m.d) := by
  have gd := pg.gd
  have a1 := pg.addr 29 (f := "_law_postfix") rfl rfl
  refine pg.ok 32 (xs := ["base","start","rules"]) rfl rfl (by decide +kernel) (by decide +kernel) (fun pm cd doc vs h => ?_) rfl ?_
  · match vs, h with
    | [a,b,c], _ => rfl
  · have hr := hm.r3
    have hn := hm.n3
    refine ExL_cons ?_
    repeat' contradiction
    · simp [lim]; omega
    refine compL_map (f := dRL) dRu _ (fun r acc K' hr' hacc hK => ?_) (by simp [lim]; omega) ?_
    · have hru := hm.ru r hr'
      simp only [dRL]
      repeat' contradiction
      refine (postfix_ok pg hru.1).to (Nat.succ_le_succ (Nat.zero_le _)) ?_
      repeat' contradiction
      have h2 := hru.2.1
      refine compL_map (f := dWL) dWr _ (fun q acc' K'' hq hacc' hK' => ?_) (by simp [lim]; omega) ?_
      · simp only [dWL]
        repeat' contradiction
        refine (postfix_ok pg (hru.2.2 q hq).2).to (Nat.succ_le_succ (Nat.zero_le _)) ?_
        repeat' contradiction
        exact ⟨hacc', hK'⟩
      · repeat' contradiction
        exact ⟨hacc, hK⟩
    · repeat' contradiction
      rfl
end
end

section
set_option linter.unusedVariables false
set_option maxRecDepth 100000
set_option maxHeartbeats 4000000
open PySem PyProof.Rows
structure BoxOK (m : Md) (N : Nat) (box : Nat → List Int) (nx : Nat → Nat → Nat) : Prop where
  n9 : N ≤ 9
  inb : ∀ x, x < N → m.inBox (box x)
  inj : ∀ x y, x < N → y < N → box x = box y → x = y
  nxt : ∀ x, x < N → ∀ k, k < m.rules.length → m.fire (box x) k = box (nx x k) ∧ nx x k < N
noncomputable def mvOf (m : Md) (box : Nat → List Int) (nx : Nat → Nat → Nat) (x : Nat) : List (Nat × Nat) := (m.en (box x)).map fun k => (k, nx x k)
noncomputable abbrev dMv (qs : List (Nat × Nat)) : PyData := .dict (qs.map fun q => (dN q.1, dN q.2))
theorem lsW {xs : List PyData} {K : List PyData → Prop} (h : K xs) : lstW (.list xs) K := h
theorem set_slice {α : Type} (xs : List α) (v : Nat) (x : α) (h : v < xs.length) : xs.take v ++ [x] ++ xs.drop (v + 1) = xs.set v x := by
  rw [List.set_eq_take_append_cons_drop, if_pos h]; simp
theorem index_box {N : Nat} {box : Nat → List Int} (inj : ∀ x y, x < N → y < N → box x = box y → x = y) (h9 : N ≤ 9) {y : Nat} (hy : y < N) {K : PyData → Prop} (h : K (dN y)) : indexW ((List.range N).map fun x => dS (box x)) (dS (box y)) K := by
  refine ⟨⟨okD_box 18 box (List.range N), okD_ints 19 _, by simp [lim]; omega⟩, y, ⟨dS (box y), by simp [hy], by rw [eqv_dS]; simp⟩, fun i z hi hz => ?_, h⟩
  have hiN : i < N := by omega
  simp [hiN] at hz
  subst hz
  rw [eqv_dS]
  exact decide_eq_false fun e => by have := inj i y hiN hy e; omega
section
variable {c : Cx} (pg : Pg c) {l : Nat} {m : Md} {N : Nat} {box : Nat → List Int} {nx : Nat → Nat → Nat}
include pg
theorem moves_ok (hm : m.ok) (hB : BoxOK m N box nx) : CallOK c (l+3) "_law_moves" [dN m.base, dB box (List.range N), .list (m.rules.map dRL)] (· = .list ((List.range N).map fun x => dMv (mvOf m box nx x))) := by
  have gd := pg.gd
  have a1 := pg.addr 28 (f := "_law_value") rfl rfl
  refine pg.ok 33 (xs := ["base","box","rules"]) rfl rfl (by decide +kernel) (by decide +kernel) (fun pm cd doc vs h => ?_) rfl ?_
  · match vs, h with
    | [a,b,c], _ => rfl
  · have o1 : OwnName "moves" := .mk
    have hr3 := hm.r3
    have hn3 := hm.n3
    have hb1 := hm.b1
    have h9 := hB.n9
    refine ExL_cons ?_
    repeat' contradiction
    refine ExS_for rfl ?_
    repeat' contradiction
    refine forW_inv (f := fun x => dS (box x)) (fun r pe => ∃ dn : List Nat, dn ++ r = List.range N ∧ pe "moves" = some ⟨.list (dn.map fun x => dMv (mvOf m box nx x)), true⟩ ∧ pe "box" = some ⟨dB box (List.range N), false⟩ ∧ pe "base" = some ⟨dN m.base, false⟩ ∧ pe "rules" = some ⟨.list (m.rules.map dRL), false⟩)
      (fun pe hI => ?_) (fun x r pe K' hI hn' hc hb hr => ?_) _ _ ?_
    · obtain ⟨dn, k1, p1, p2, p3, p4⟩ := hI
      repeat' contradiction
      rw [List.append_nil] at k1
      show PyData.list _ = _
      rw [k1]
    · obtain ⟨dn, k1, p1, p2, p3, p4⟩ := hI
      have hxN : x < N := by
        have : x ∈ List.range N := by rw [← k1]; simp
        simpa using this
      have hdl : dn.length ≤ 9 := by
        have := congrArg List.length k1
        simp at this
        omega
      have hs := hB.inb x hxN
      have hst := Md.inBox.stOk hm hs
      repeat' contradiction
      refine ExS_for rfl ?_
      repeat' contradiction
      · simp [lim]; omega
      · simp; omega
      rw [List.length_map]
      refine forW_inv (f := dN) (fun r' pe => ∃ ks : List Nat, (∀ k ∈ r', k < m.rules.length) ∧ (∀ k ∈ ks, ∀ j ∈ r', k < j) ∧ ks.Nodup ∧ r'.Pairwise (· < ·) ∧ ks.length + r'.length ≤ 3 ∧ ks ++ r'.filter (fun k => match m.rules[k]? with | some r => decide (r.1.val (box x) ≠ 0) | none => false) = m.en (box x) ∧ pe "here" = some ⟨dMv (ks.map fun k => (k, nx x k)), false⟩ ∧ pe "state" = some ⟨dS (box x), false⟩ ∧
          pe "moves" = some ⟨.list (dn.map fun x => dMv (mvOf m box nx x)), true⟩ ∧ pe "box" = some ⟨dB box (List.range N), false⟩ ∧ pe "base" = some ⟨dN m.base, false⟩ ∧ pe "rules" = some ⟨.list (m.rules.map dRL), false⟩)
        (fun pe hI => ?_) (fun k r' pe K'' hI hn'' hc' hb' hr' => ?_) _ _ ?_
      · obtain ⟨ks, e1, e2, e3, e5, e6, e7, q1, q2, q3, q4, q5, q6⟩ := hI
        repeat' contradiction
        · simp [lim]; omega
        refine hn' _ ⟨dn ++ [x], by rw [← k1]; simp, ?_, q4, q5, q6⟩
        rw [List.filter_nil, List.append_nil] at e7
        show _ = some (⟨.list ((dn ++ [x]).map fun x => dMv (mvOf m box nx x)), true⟩ : Slot)
        have e8 : mvOf m box nx x = ks.map fun k => (k, nx x k) := by unfold mvOf; rw [← e7]
        rw [List.map_append, List.map_singleton, e8]; rfl
      · obtain ⟨ks, e1, e2, e3, e5, e6, e7, q1, q2, q3, q4, q5, q6⟩ := hI
        have hk := e1 k (.head _)
        have hru := hm.ru _ (List.getElem_mem hk)
        rw [List.filter_cons] at e7
        simp only [List.length_cons] at e6
        clear p1 p2 p3 p4 hc hb hr hc' hb' hr'
        repeat' contradiction
        refine iL (d := dRL m.rules[k]) ⟨by omega, by omega⟩ (by simp [hk]) ?_
        repeat' contradiction
        refine (value_ok pg hru.1 hst hn3).to (Nat.le_refl _) ?_
        repeat' contradiction
        · have := hs.1
          simp [lim]; omega
        · rename_i hv
          have hv : ¬ m.rules[k].1.val (box x) = 0 := hv
          have hkt : (match m.rules[k]? with | some r => decide (r.1.val (box x) ≠ 0) | none => false) = true := by simp [hk, hv]
          rw [if_pos hkt] at e7
          refine ExS_for rfl ?_
          repeat' contradiction
          refine iL (d := dRL m.rules[k]) ⟨by omega, by omega⟩ (by simp [hk]) ?_
          repeat' contradiction
          refine forW_inv (f := dWL) (fun r3 pe => ∃ new : List Int, new.length = (box x).length ∧ r3.foldl (fun new q => new.set q.1 ((q.2.val (box x)).fmod m.base)) new = m.fire (box x) k ∧ (∀ q ∈ r3, q.1 < m.start.length ∧ q.2.ok m.start.length) ∧ pe "new" = some ⟨dS new, false⟩ ∧ pe "k" = some ⟨dN k, false⟩ ∧
              pe "here" = some ⟨dMv (ks.map fun k => (k, nx x k)), false⟩ ∧ pe "state" = some ⟨dS (box x), false⟩ ∧ pe "moves" = some ⟨.list (dn.map fun x => dMv (mvOf m box nx x)), true⟩ ∧ pe "box" = some ⟨dB box (List.range N), false⟩ ∧ pe "base" = some ⟨dN m.base, false⟩ ∧ pe "rules" = some ⟨.list (m.rules.map dRL), false⟩)
            (fun pe hI => ?_) (fun q r3 pe K3 hI hn3' hc3 hb3 hr3' => ?_) _ _ ?_
          · obtain ⟨new, z1, z2, z3, v1, v0, v2, v3, v4, v5, v6, v7⟩ := hI
            rw [List.foldl_nil] at z2
            obtain ⟨y1, y2⟩ := hB.nxt x hxN k hk
            rw [z2, y1] at v1
            clear q1 q2 q3 q4 q5 q6
            repeat' contradiction
            refine ⟨ks.map fun k : Nat => ((k : Int), dN (nx x k)), by simp, by simp [lim]; omega, ?_⟩
            repeat' contradiction
            refine lsW ?_
            repeat' contradiction
            refine index_box hB.inj h9 y2 ?_
            repeat' contradiction
            · simp [lim]; omega
            have hkk : k ∉ ks := fun h => by have := e2 k h k (.head _); omega
            have hnd : (ks ++ [k]).Nodup := by
              rw [List.nodup_append]
              exact ⟨e3, by simp, fun a ha b hb => by simp at hb; subst hb; exact fun e => hkk (e ▸ ha)⟩
            refine ⟨(ks ++ [k]).map fun k : Nat => ((k : Int), dN (nx x k)), ?_, ?_, by simp [lim]; omega, ?_⟩
            · rw [List.map_append, List.map_append]; rfl
            · rw [List.map_map]
              exact List.Pairwise.map _ (fun a b hab => by simp only [Function.comp]; omega) hnd
            repeat' contradiction
            rw [List.pairwise_cons] at e5
            refine hn'' _ ⟨ks ++ [k], fun j hj => e1 j (.tail _ hj), fun a ha j hj => ?_, hnd, e5.2, by simp; omega, by rw [List.append_assoc]; exact e7, ?_, v3, v4, v5, v6, v7⟩
            · rcases List.mem_append.mp ha with ha | ha
              · exact e2 a ha j (.tail _ hj)
              · simp at ha; subst ha; exact e5.1 j hj
            · show some (⟨.dict _, false⟩ : Slot) = some ⟨.dict _, false⟩
              congr 3
              simp
          · obtain ⟨new, z1, z2, z3, v1, v0, v2, v3, v4, v5, v6, v7⟩ := hI
            obtain ⟨w1, w2⟩ := z3 q (.head _)
            have hbl := hs.1
            clear q1 q2 q3 q4 q5 q6 hc3 hb3 hr3'
            simp only [dWL]
            have hnl : (List.map dI new).length ≤ lim := by simp [lim]; omega
            repeat' contradiction
            · omega
            · exact hnl
            refine (value_ok pg w2 hst hn3).to (Nat.le_refl _) ?_
            repeat' contradiction
            all_goals first | exact hnl | omega | skip
            · simp [lim]; omega
            · simp [lim]; omega
            · refine hn3' _ ⟨new.set q.1 ((q.2.val (box x)).fmod m.base), by simp [z1], z2, fun q' h => z3 q' (.tail _ h), ?_, v0, v2, v3, v4, v5, v6, v7⟩
              have e9 : (List.take ((q.1 : Int)).toNat (List.map dI new) ++ [PyData.int ((q.2.val (box x)).fmod m.base)] ++ List.drop ((q.1 : Int) + 1).toNat (List.map dI new)) = (new.set q.1 ((q.2.val (box x)).fmod m.base)).map dI := by
                have t1 : ((q.1 : Int)).toNat = q.1 := by omega
                have t2 : ((q.1 : Int) + 1).toNat = q.1 + 1 := by omega
                rw [t1, t2, set_slice _ _ _ (by simp; omega), List.map_set]
              show some (⟨.list _, false⟩ : Slot) = some ⟨.list _, false⟩
              rw [e9]
          · refine ⟨box x, rfl, ?_, hru.2.2, rfl, rfl, q1, q2, q3, q4, q5, q6⟩
            simp [Md.fire, hk]
        · rename_i hv
          have hv : m.rules[k].1.val (box x) = 0 := hv
          have hkt : ¬ (match m.rules[k]? with | some r => decide (r.1.val (box x) ≠ 0) | none => false) = true := by simp [hk, hv]
          rw [if_neg hkt] at e7
          rw [List.pairwise_cons] at e5
          exact hn'' _ ⟨ks, fun j hj => e1 j (.tail _ hj), fun a ha j hj => e2 a ha j (.tail _ hj), e3, e5.2, by omega, e7, q1, q2, q3, q4, q5, q6⟩
      · refine ⟨[], fun k hk => List.mem_range.mp hk, fun k hk => (by cases hk), List.nodup_nil, List.pairwise_lt_range, by simp; omega, rfl, rfl, rfl, p1, p2, p3, p4⟩
    · exact ⟨[], rfl, rfl, rfl, rfl, rfl⟩
end
end

section
set_option linter.unusedVariables false
set_option maxRecDepth 100000
set_option maxHeartbeats 4000000
open PySem PyProof.Rows
noncomputable def relax (c : Nat) (ds : List Int) (q : Nat × Nat) : List Int := ds.set q.2 (min (ds.getD q.2 0) (ds.getD c 0 + 1))
noncomputable def TS.sweep (T : TS) (ds : List Int) (c : Nat) : List Int := (T.mv c).foldl (relax c) ds
noncomputable def TS.round (T : TS) (ds : List Int) : List Int := (List.range T.N).foldl T.sweep ds
noncomputable def TS.dist0 (T : TS) : List Int := (List.replicate T.N 99).set T.s0 0
noncomputable def TS.dists (T : TS) : List Int := (List.range T.N).foldl (fun ds _ => T.round ds) T.dist0
theorem relax_len (c : Nat) (ds : List Int) (q : Nat × Nat) : (relax c ds q).length = ds.length := by unfold relax; simp
theorem bL_mul {x : List PyData} {n : Int} {K : PyData → Prop} (hx : 0 ≤ n ∧ n ≤ 1000 ∧ x.length ≤ 10) (h : K (.list (List.replicate n.toNat x).flatten)) : binW .Mult (.list x) (.int n) K := .fr (.mulL hx h)
theorem vW {kvs : List (PyData × PyData)} {L : List PyData → Prop} (h : L (kvs.map (·.2))) : valsW (.dict kvs) L := h
theorem slice_set (ds : List Int) (d : Nat) (x : Int) (h : d < ds.length) : List.take (d : Int).toNat (ds.map dI) ++ [PyData.int x] ++ List.drop ((d : Int) + 1).toNat (ds.map dI) = (ds.set d x).map dI := by
  have t1 : ((d : Int)).toNat = d := by omega
  have t2 : ((d : Int) + 1).toNat = d + 1 := by omega
  rw [t1, t2, set_slice _ _ _ (by simpa using h), List.map_set]
section
variable {c : Cx} (pg : Pg c) {l : Nat} {T : TS}
include pg
theorem distances_ok (ok : T.ok) : CallOK c (l+1) "_law_distances" [.list ((List.range T.N).map fun x => dMv (T.mv x)), dN T.s0] (· = .list (T.dists.map dI)) := by
  have gd := pg.gd
  refine pg.ok 34 (xs := ["moves","start"]) rfl rfl (by decide +kernel) (by decide +kernel) (fun pm cd doc vs h => ?_) rfl ?_
  · match vs, h with
    | [a,b], _ => rfl
  · have hN := ok.n
    have hs0 := ok.s0
    refine ExL_cons ?_
    repeat' contradiction
    · simp [lim]; omega
    refine bL_mul ⟨by simp, by simp; omega, by simp⟩ ?_
    have hrep : (List.replicate ((((List.range T.N).map fun x => dMv (T.mv x)).length : Nat) : Int).toNat [PyData.int 99]).flatten = (List.replicate T.N 99).map dI := by simp
    rw [hrep]
    repeat' contradiction
    all_goals first | omega | (simp [lim]; omega) | skip
    rw [slice_set _ _ _ (by simpa using hs0)]
    refine ExS_for rfl ?_
    repeat' contradiction
    · simp [lim]; omega
    · simp; omega
    rw [List.length_map, List.length_range]
    refine forW_inv (f := dN) (fun r pe => ∃ ds : List Int, ds.length = T.N ∧ r.foldl (fun ds _ => T.round ds) ds = T.dists ∧ pe "dist" = some ⟨.list (ds.map dI), false⟩ ∧ pe "moves" = some ⟨.list ((List.range T.N).map fun x => dMv (T.mv x)), false⟩)
      (fun pe hI => ?_) (fun w r pe K' hI hn hc hb hr => ?_) _ _ ?_
    · obtain ⟨ds, k1, k2, p1, p2⟩ := hI
      repeat' contradiction
      rw [List.foldl_nil] at k2
      rw [k2]
    · obtain ⟨ds, k1, k2, p1, p2⟩ := hI
      rw [List.foldl_cons] at k2
      repeat' contradiction
      refine ExS_for rfl ?_
      repeat' contradiction
      · simp [lim]; omega
      · simp; omega
      rw [List.length_map, List.length_range]
      refine forW_inv (f := dN) (fun r2 pe => ∃ ds2 : List Int, ds2.length = T.N ∧ r2.foldl T.sweep ds2 = T.round ds ∧ (∀ x ∈ r2, x < T.N) ∧ pe "dist" = some ⟨.list (ds2.map dI), false⟩ ∧ pe "moves" = some ⟨.list ((List.range T.N).map fun x => dMv (T.mv x)), false⟩)
        (fun pe hI => ?_) (fun x r2 pe K2 hI hn2 hc2 hb2 hr2 => ?_) _ _ ?_
      · obtain ⟨ds2, j1, j2, j3, q1, q2⟩ := hI
        repeat' contradiction
        rw [List.foldl_nil] at j2
        exact hn _ ⟨ds2, j1, by rw [j2]; exact k2, q1, q2⟩
      · obtain ⟨ds2, j1, j2, j3, q1, q2⟩ := hI
        have hx := j3 x (.head _)
        rw [List.foldl_cons] at j2
        clear p1 p2
        repeat' contradiction
        refine ExS_for rfl ?_
        repeat' contradiction
        refine iRg hx hN ?_
        repeat' contradiction
        refine vW ?_
        rw [List.map_map]
        refine forW_inv (f := fun q => dN q.2) (fun r3 pe => ∃ ds3 : List Int, ds3.length = T.N ∧ r3.foldl (relax x) ds3 = T.sweep ds2 x ∧ (∀ q ∈ r3, q.2 < T.N) ∧ pe "dist" = some ⟨.list (ds3.map dI), false⟩ ∧ pe "c" = some ⟨dN x, false⟩ ∧ pe "moves" = some ⟨.list ((List.range T.N).map fun x => dMv (T.mv x)), false⟩)
          (fun pe hI => ?_) (fun q r3 pe K3 hI hn3 hc3 hb3 hr3 => ?_) _ _ ?_
        · obtain ⟨ds3, i1, i2, i3, v1, v2, v3⟩ := hI
          repeat' contradiction
          rw [List.foldl_nil] at i2
          exact hn2 _ ⟨ds3, i1, by rw [i2]; exact j2, fun y hy => j3 y (.tail _ hy), v1, v3⟩
        · obtain ⟨ds3, i1, i2, i3, v1, v2, v3⟩ := hI
          have hq := i3 q (.head _)
          have hnl : (List.map dI ds3).length ≤ lim := by simp [lim]; omega
          rw [List.foldl_cons] at i2
          clear q1 q2
          repeat' contradiction
          · omega
          · exact hnl
          refine iDs hq i1 hN ?_
          repeat' contradiction
          refine iDs hx i1 hN ?_
          repeat' contradiction
          all_goals first | exact hnl | omega | (simp [lim]; omega) | skip
          rw [slice_set _ _ _ (by omega)]
          exact hn3 _ ⟨relax x ds3 q, by rw [relax_len]; exact i1, i2, fun q' h => i3 q' (.tail _ h), rfl, v2, v3⟩
        · exact ⟨ds2, j1, rfl, ok.tgt x hx, q1, rfl, q2⟩
      · exact ⟨ds, k1, rfl, fun x hx => by simpa using hx, p1, p2⟩
    · exact ⟨T.dist0, by simp [TS.dist0], rfl, rfl, rfl⟩
end
end

section
set_option linter.unusedVariables false
noncomputable def lexLt (a b : Int × Int) : Prop := a.1 < b.1 ∨ (a.1 = b.1 ∧ a.2 < b.2)
/-- the order of the finds -/
structure OI (T : TS) (p : Nat) (qs : List (Nat × Nat)) (s : LP) : Prop where
  srt : s.P.Pairwise lexLt
  bnd : ∀ e ∈ s.P, e.1 < p ∨ (e.1 = p ∧ ∀ q ∈ qs, e.2 < (q.1 : Int))
  fst : ∀ (i : Nat) (e : Int × Int), s.P[i]? = some e → ∀ (j x : Nat), (j : Int) < e.1 → s.L[j]? = some x → ∀ q ∈ T.mv x, q.2 ∈ s.L.take i
  cl : ∀ (j x : Nat), j < p → s.L[j]? = some x → ∀ q ∈ T.mv x, q.2 ∈ s.L
theorem getL_app {L : List Nat} {y j x : Nat} (h : L[j]? = some x) : (L ++ [y])[j]? = some x := by
  rw [List.getElem?_append_left (by
    rcases Nat.lt_or_ge j L.length with q | q
    · exact q
    · rw [List.getElem?_eq_none q] at h; cases h)]
  exact h
theorem OI.add {T : TS} {p : Nat} {q : Nat × Nat} {qs : List (Nat × Nat)} {s : LP} (h : OI T p (q :: qs) s) (b : BI T s) (pi : PI T s) (hp : p < s.L.length) (asc : ∀ r ∈ qs, q.1 < r.1) : OI T p qs (Mine.add p s q) := by
  unfold Mine.add
  split
  · exact ⟨h.srt, fun e he => (h.bnd e he).imp id fun k => ⟨k.1, fun r hr => k.2 r (.tail _ hr)⟩, h.fst, h.cl⟩
  · rename_i hni
    refine ⟨?_, fun e he => ?_, fun i e he j x hj hx r hr => ?_, fun j x hj hx r hr => ?_⟩
    · simp only
      rw [List.pairwise_append]
      refine ⟨h.srt, by simp, fun a ha c hc => ?_⟩
      simp at hc
      subst hc
      rcases h.bnd a ha with k | ⟨k1, k2⟩
      · exact .inl k
      · exact .inr ⟨k1, k2 q (.head _)⟩
    · simp only at he
      rcases List.mem_append.mp he with he | he
      · exact (h.bnd e he).imp id fun k => ⟨k.1, fun r hr => k.2 r (.tail _ hr)⟩
      · simp at he
        subst he
        refine .inr ⟨rfl, fun r hr => ?_⟩
        have := asc r hr
        simp only
        omega
    · simp only at he hx ⊢
      rcases Nat.lt_or_ge i s.P.length with hlt | hge
      · rw [List.getElem?_append_left hlt] at he
        have hjl : j < s.L.length := by
          have hpk := pi.pok i e he
          have := b.len
          omega
        rw [List.getElem?_append_left hjl] at hx
        rw [List.take_append_of_le_length (by rw [b.len]; omega)]
        exact h.fst i e he j x hj hx r hr
      · rw [List.getElem?_append_right hge] at he
        have hz : i - s.P.length = 0 := by
          rcases Nat.eq_zero_or_pos (i - s.P.length) with h | h
          · exact h
          · rw [List.getElem?_eq_none (by simp; omega)] at he; cases he
        rw [hz] at he
        simp at he
        subst he
        simp only at hj
        have hjp : j < p := by omega
        rw [List.getElem?_append_left (by omega)] at hx
        have hi : i = s.L.length := by rw [b.len]; omega
        rw [hi, List.take_append_of_le_length (Nat.le_refl _), List.take_length]
        exact h.cl j x hjp hx r hr
    · simp only at hx ⊢
      rw [List.getElem?_append_left (by omega)] at hx
      exact List.mem_append_left _ (h.cl j x hj hx r hr)
theorem OI.visit {T : TS} {p x : Nat} : ∀ (qs : List (Nat × Nat)) {s : LP}, OI T p qs s → BI T s → PI T s → s.L[p]? = some x → (∀ q ∈ qs, q ∈ T.mv x) → (∀ q ∈ qs, q.2 < T.N) → (qs.map (·.1)).Pairwise (· < ·) → OI T p [] (Mine.visit p qs s)
  | [], s, h, _, _, _, _, _, _ => h
  | q :: qs, s, h, b, pi, hx, hq, hn, asc => by
    have hp : p < s.L.length := by
      rcases Nat.lt_or_ge p s.L.length with q | q
      · exact q
      · rw [List.getElem?_eq_none q] at hx; cases hx
    rw [List.map_cons, List.pairwise_cons] at asc
    have hx' : (Mine.add p s q).L[p]? = some x := by
      unfold Mine.add; split
      · exact hx
      · exact getL_app hx
    exact OI.visit qs (h.add b pi hp fun r hr => asc.1 r.1 (List.mem_map.mpr ⟨r, hr, rfl⟩)) (b.add (hn q (.head _))) (pi.add b.len hx (hq q (.head _))) hx' (fun r hr => hq r (.tail _ hr)) (fun r hr => hn r (.tail _ hr)) asc.2
end

section
set_option linter.unusedVariables false
structure OH (T : TS) (p : Nat) (s : LP) : Prop where
  srt : s.P.Pairwise lexLt
  bnd : ∀ e ∈ s.P, e.1 < p
  fst : ∀ (i : Nat) (e : Int × Int), s.P[i]? = some e → ∀ (j x : Nat), (j : Int) < e.1 → s.L[j]? = some x → ∀ q ∈ T.mv x, q.2 ∈ s.L.take i
  cl : ∀ (j x : Nat), j < p → s.L[j]? = some x → ∀ q ∈ T.mv x, q.2 ∈ s.L
theorem OH.start (T : TS) : OH T 0 T.start := by
  refine ⟨by simp [TS.start], fun e he => ?_, fun i e he j x hj => ?_, fun j x hj => by omega⟩
  · simp [TS.start] at he; subst he; decide
  · have : e ∈ T.start.P := List.mem_of_getElem? he
    simp [TS.start] at this; subst this
    simp only at hj; omega
theorem OH.step {T : TS} (ok : T.ok) {p x : Nat} {s : LP} (h : OH T p s) (b : BI T s) (pi : PI T s) (hx : s.L[p]? = some x) : OH T (p + 1) (visit p (T.mv x) s) := by
  have hxN := b.lt x (List.mem_of_getElem? hx)
  have o : OI T p (T.mv x) s := ⟨h.srt, fun e he => .inl (h.bnd e he), h.fst, h.cl⟩
  have o' := OI.visit (T.mv x) o b pi hx (fun _ q => q) (ok.tgt x hxN) (ok.asc x hxN)
  refine ⟨o'.srt, fun e he => ?_, o'.fst, fun j y hj hy q hq => ?_⟩
  · rcases o'.bnd e he with k | k <;> omega
  · rcases Nat.lt_or_eq_of_le (Nat.le_of_lt_succ hj) with hlt | rfl
    · exact o'.cl j y hlt hy q hq
    · obtain ⟨xs, ys, e, _, _⟩ := visit_pre j (T.mv x) s
      have hjl : j < s.L.length := by
        rcases Nat.lt_or_ge j s.L.length with q | q
        · exact q
        · rw [List.getElem?_eq_none q] at hx; cases hx
      rw [e, List.getElem?_append_left hjl, hx] at hy
      injection hy with hy
      subst hy
      exact visit_mem _ _ q hq
theorem OH.bfs {T : TS} (ok : T.ok) : ∀ (n p : Nat) {s : LP}, OH T p s → BI T s → PI T s → ∃ p', OH T p' (T.bfs n p s)
  | 0, p, s, h, _, _ => ⟨p, h⟩
  | n + 1, p, s, h, b, pi => by
    rw [TS.bfs]
    cases hx : s.L[p]? with
    | none => exact ⟨p, h⟩
    | some x =>
      have hxN := b.lt x (List.mem_of_getElem? hx)
      exact OH.bfs ok n (p + 1) (h.step ok b pi hx) (b.visit (ok.tgt x hxN)) (PI.visit _ pi b hx (fun _ q => q) (ok.tgt x hxN))
theorem full_oh {T : TS} (ok : T.ok) : ∃ p, OH T p T.full := OH.bfs ok _ _ (OH.start T) ok.start (PI.start T)
/-- how far a find lies from the start -/
noncomputable def TS.dp (T : TS) (i : Nat) : Nat := (trOf T.full.P i).length
theorem dp_zero {T : TS} (ok : T.ok) : T.dp 0 = 0 := by
  unfold TS.dp
  rw [trOf_step (TS.full_pi ok).pok (TS.full_pi ok).zero.2]; rfl
theorem par {T : TS} (ok : T.ok) {i : Nat} (h0 : 0 < i) (hi : i < T.full.L.length) : ∃ (p k x y : Nat), T.full.P[i]? = some ((p : Int), (k : Int)) ∧ p < i ∧ T.full.L[p]? = some x ∧ T.full.L[i]? = some y ∧ (k, y) ∈ T.mv x ∧ T.dp i = T.dp p + 1 ∧ trOf T.full.P i = trOf T.full.P p ++ [(k : Int)] := by
  have hb := TS.full_bi ok
  have hP : T.full.P[i]? = some (T.full.P[i]'(by rw [← hb.len]; exact hi)) := by simp
  obtain ⟨p, k, x, y, e, h1, h2, h3, h4⟩ := (TS.full_pi ok).up i _ h0 hP
  rw [e] at hP
  have ht : trOf T.full.P i = trOf T.full.P p ++ [(k : Int)] := by
    rw [trOf_step (TS.full_pi ok).pok hP, if_neg (by simp only; omega)]
    simp
  refine ⟨p, k, x, y, hP, h1, h2, h3, h4, ?_, ht⟩
  unfold TS.dp
  rw [ht]; simp
theorem dp_mono {T : TS} (ok : T.ok) : ∀ (j i : Nat), i ≤ j → j < T.full.L.length → T.dp i ≤ T.dp j := by
  intro j
  induction j using Nat.strongRecOn with
  | _ j ih =>
    intro i hij hj
    rcases Nat.lt_or_eq_of_le hij with hlt | rfl
    · rcases Nat.eq_zero_or_pos i with rfl | hi
      · rw [dp_zero ok]; omega
      · obtain ⟨pj, kj, _, _, ej, lj, _, _, _, dj, _⟩ := par ok (show 0 < j by omega) hj
        obtain ⟨pi, ki, _, _, ei, li, _, _, _, di, _⟩ := par ok hi (by omega)
        obtain ⟨_, oh⟩ := full_oh ok
        have hb := TS.full_bi ok
        have hs := List.pairwise_iff_getElem.mp oh.srt i j (by rw [← hb.len]; omega) (by rw [← hb.len]; omega) hlt
        have e1 : T.full.P[i]'(by rw [← hb.len]; omega) = ((pi : Int), (ki : Int)) := by
          exact (List.getElem?_eq_some_iff.mp ei).2
        have e2 : T.full.P[j]'(by rw [← hb.len]; omega) = ((pj : Int), (kj : Int)) := by
          exact (List.getElem?_eq_some_iff.mp ej).2
        rw [e1, e2] at hs
        have : pi ≤ pj := by rcases hs with h | h <;> simp only at h <;> omega
        rw [di, dj]
        have := ih pj lj pi this (by omega)
        omega
    · exact Nat.le_refl _
theorem dp_edge {T : TS} (ok : T.ok) {i j x : Nat} {q : Nat × Nat} (hj : T.full.L[j]? = some x) (hq : q ∈ T.mv x) (hi : T.full.L[i]? = some q.2) : T.dp i ≤ T.dp j + 1 := by
  have hb := TS.full_bi ok
  have lt : ∀ {a b : Nat}, T.full.L[a]? = some b → a < T.full.L.length := fun {a b} h => by
    rcases Nat.lt_or_ge a T.full.L.length with q | q
    · exact q
    · rw [List.getElem?_eq_none q] at h; cases h
  rcases Nat.eq_zero_or_pos i with rfl | h0
  · rw [dp_zero ok]; omega
  · obtain ⟨p, k, x', y, e, hp, _, h3, _, d, _⟩ := par ok h0 (lt hi)
    obtain ⟨_, oh⟩ := full_oh ok
    have hpj : p ≤ j := by
      rcases Nat.lt_or_ge j p with hlt | hge
      · have hm := oh.fst i _ e j x (by simp only; omega) hj q hq
        obtain ⟨a, ha, hae⟩ := List.mem_iff_getElem.mp hm
        simp only [List.length_take] at ha
        rw [List.getElem_take] at hae
        have hne := List.pairwise_iff_getElem.mp hb.nd a i (by omega) (lt hi) (by omega)
        have : T.full.L[i]'(lt hi) = q.2 := (List.getElem?_eq_some_iff.mp hi).2
        exact absurd (hae.trans this.symm) hne
      · exact hge
    rw [d]
    have := dp_mono ok j p hpj (lt hj)
    omega
theorem dp_le {T : TS} (ok : T.ok) : ∀ (i : Nat), i < T.full.L.length → T.dp i ≤ i := by
  intro i
  induction i using Nat.strongRecOn with
  | _ i ih =>
    intro hi
    rcases Nat.eq_zero_or_pos i with rfl | h0
    · rw [dp_zero ok]; omega
    · obtain ⟨p, k, _, _, _, hp, _, _, _, d, _⟩ := par ok h0 hi
      have := ih p hp (by omega)
      omega
end

section
set_option linter.unusedVariables false
theorem getD_set (ds : List Int) (d : Nat) (v : Int) (y : Nat) (hd : d < ds.length) : (ds.set d v).getD y 0 = if y = d then v else ds.getD y 0 := by
  rw [List.getD_eq_getElem?_getD, List.getElem?_set]
  by_cases h : d = y
  · subst h; simp [hd]
  · rw [if_neg h, if_neg (fun e => h e.symm), List.getD_eq_getElem?_getD]
theorem relax_mono {c : Nat} {ds : List Int} {q : Nat × Nat} (hq : q.2 < ds.length) (y : Nat) : (relax c ds q).getD y 0 ≤ ds.getD y 0 := by
  unfold relax
  rw [getD_set _ _ _ _ hq]
  split
  · rename_i e; subst e; omega
  · exact Int.le_refl _
theorem fold_len {c : Nat} : ∀ (qs : List (Nat × Nat)) (ds : List Int), (qs.foldl (relax c) ds).length = ds.length
  | [], ds => rfl
  | q :: qs, ds => by rw [List.foldl_cons, fold_len qs, relax_len]
theorem fold_mono {c : Nat} : ∀ (qs : List (Nat × Nat)) (ds : List Int), (∀ q ∈ qs, q.2 < ds.length) → ∀ y, (qs.foldl (relax c) ds).getD y 0 ≤ ds.getD y 0
  | [], ds, _, y => Int.le_refl _
  | q :: qs, ds, h, y => by
    rw [List.foldl_cons]
    exact Int.le_trans (fold_mono qs _ (fun r hr => by rw [relax_len]; exact h r (.tail _ hr)) y) (relax_mono (h q (.head _)) y)
theorem fold_le {c : Nat} : ∀ (qs : List (Nat × Nat)) (ds : List Int), (∀ q ∈ qs, q.2 < ds.length) → ∀ q ∈ qs, (qs.foldl (relax c) ds).getD q.2 0 ≤ ds.getD c 0 + 1
  | q :: qs, ds, h, r, hr => by
    rw [List.foldl_cons]
    have h' : ∀ z ∈ qs, z.2 < (relax c ds q).length := fun z hz => by rw [relax_len]; exact h z (.tail _ hz)
    rcases List.mem_cons.mp hr with rfl | hr
    · refine Int.le_trans (fold_mono qs _ h' _) ?_
      unfold relax
      rw [getD_set _ _ _ _ (h r (.head _)), if_pos rfl]; omega
    · refine Int.le_trans (fold_le qs _ h' r hr) ?_
      have := relax_mono (c := c) (h q (.head _)) c
      omega
section
variable {T : TS} (ok : T.ok)
include ok
theorem sweeps_len : ∀ (cs : List Nat) (ds : List Int), (cs.foldl T.sweep ds).length = ds.length
  | [], ds => rfl
  | c :: cs, ds => by rw [List.foldl_cons, sweeps_len cs, TS.sweep, fold_len]
theorem sweeps_mono : ∀ (cs : List Nat) (ds : List Int), (∀ c ∈ cs, c < T.N) → ds.length = T.N → ∀ y, (cs.foldl T.sweep ds).getD y 0 ≤ ds.getD y 0
  | [], ds, _, _, y => Int.le_refl _
  | c :: cs, ds, h, hl, y => by
    rw [List.foldl_cons]
    refine Int.le_trans (sweeps_mono cs _ (fun r hr => h r (.tail _ hr)) (by rw [TS.sweep, fold_len]; exact hl) y) ?_
    exact fold_mono _ _ (fun q hq => by rw [hl]; exact ok.tgt c (h c (.head _)) q hq) y
theorem sweeps_le : ∀ (cs : List Nat) (ds : List Int), (∀ c ∈ cs, c < T.N) → ds.length = T.N → ∀ c ∈ cs, ∀ q ∈ T.mv c, (cs.foldl T.sweep ds).getD q.2 0 ≤ ds.getD c 0 + 1
  | c :: cs, ds, h, hl, r, hr, q, hq => by
    rw [List.foldl_cons]
    have hl' : (T.sweep ds c).length = T.N := by rw [TS.sweep, fold_len]; exact hl
    have hcs : ∀ c ∈ cs, c < T.N := fun r hr => h r (.tail _ hr)
    have ht : ∀ q ∈ T.mv c, q.2 < ds.length := fun q hq => by rw [hl]; exact ok.tgt c (h c (.head _)) q hq
    rcases List.mem_cons.mp hr with rfl | hr
    · exact Int.le_trans (sweeps_mono ok cs _ hcs hl' _) (fold_le _ _ ht q hq)
    · refine Int.le_trans (sweeps_le cs _ hcs hl' r hr q hq) ?_
      have := fold_mono (c := c) _ _ ht r
      unfold TS.sweep
      omega
/-- never under the true distance -/
noncomputable def Low (T : TS) (ds : List Int) : Prop := ds.length = T.N ∧ (∀ x, x < T.N → ds.getD x 0 ≤ 99) ∧ (∀ (i x : Nat), T.full.L[i]? = some x → (T.dp i : Int) ≤ ds.getD x 0) ∧ ∀ x, x < T.N → x ∉ T.full.L → ds.getD x 0 = 99
theorem Low.relax {ds : List Int} (h : Low T ds) {c : Nat} (hc : c < T.N) {q : Nat × Nat} (hq : q ∈ T.mv c) : Low T (relax c ds q) := by
  obtain ⟨h1, h2, h3, h4⟩ := h
  have hqN := ok.tgt c hc q hq
  have hql : q.2 < ds.length := by omega
  have g : ∀ y, (Mine.relax c ds q).getD y 0 = if y = q.2 then min (ds.getD q.2 0) (ds.getD c 0 + 1) else ds.getD y 0 := fun y => by unfold Mine.relax; rw [getD_set _ _ _ _ hql]
  refine ⟨by rw [relax_len]; exact h1, fun x hx => ?_, fun i x hx => ?_, fun x hx hn => ?_⟩
  · rw [g]; split
    · have := h2 _ hqN; omega
    · exact h2 x hx
  · rw [g]; split
    · rename_i e
      subst e
      have k1 := h3 i _ hx
      by_cases hcL : c ∈ T.full.L
      · obtain ⟨j, hj⟩ := List.mem_iff_getElem?.mp hcL
        have k2 := h3 j c hj
        have k3 := dp_edge ok hj hq hx
        omega
      · have k2 := h4 c hc hcL
        have k3 := h2 _ hqN
        omega
    · exact h3 i x hx
  · rw [g]; split
    · rename_i e
      subst e
      by_cases hcL : c ∈ T.full.L
      · exact absurd (TS.closed ok c hcL q hq) hn
      · have k2 := h4 c hc hcL
        have k3 := h4 _ hqN hn
        omega
    · exact h4 x hx hn
theorem Low.fold {c : Nat} (hc : c < T.N) : ∀ (qs : List (Nat × Nat)) {ds : List Int}, Low T ds → (∀ q ∈ qs, q ∈ T.mv c) → Low T (qs.foldl (Mine.relax c) ds)
  | [], ds, h, _ => h
  | q :: qs, ds, h, hq => Low.fold hc qs (h.relax ok hc (hq q (.head _))) fun r hr => hq r (.tail _ hr)
theorem Low.sweeps : ∀ (cs : List Nat) {ds : List Int}, Low T ds → (∀ c ∈ cs, c < T.N) → Low T (cs.foldl T.sweep ds)
  | [], ds, h, _ => h
  | c :: cs, ds, h, hc => Low.sweeps cs (Low.fold ok (hc c (.head _)) (T.mv c) h fun _ q => q) fun r hr => hc r (.tail _ hr)
theorem Low.round {ds : List Int} (h : Low T ds) : Low T (T.round ds) := Low.sweeps ok _ h fun c hc => by simpa using hc
noncomputable def Up (T : TS) (t : Nat) (ds : List Int) : Prop := ∀ (i x : Nat), T.full.L[i]? = some x → T.dp i ≤ t → ds.getD x 0 ≤ T.dp i
theorem Up.round {ds : List Int} {t : Nat} (h : Up T t ds) (hl : ds.length = T.N) : Up T (t + 1) (T.round ds) := fun i x hx hd => by
  have hr : ∀ c ∈ List.range T.N, c < T.N := fun c hc => by simpa using hc
  rcases Nat.lt_or_ge t (T.dp i) with hlt | hge
  · have hi : i < T.full.L.length := by
      rcases Nat.lt_or_ge i T.full.L.length with q | q
      · exact q
      · rw [List.getElem?_eq_none q] at hx; cases hx
    have h0 : 0 < i := by
      rcases Nat.eq_zero_or_pos i with rfl | h
      · rw [dp_zero ok] at hlt; omega
      · exact h
    obtain ⟨p, k, z, y, _, hp, hz, hy, he, d, _⟩ := par ok h0 hi
    rw [hx] at hy; injection hy with hy; subst hy
    have hzN := (TS.full_bi ok).lt z (List.mem_of_getElem? hz)
    have k1 := h p z hz (by omega)
    have k2 := sweeps_le ok (List.range T.N) ds hr hl z (List.mem_range.mpr hzN) (k, x) he
    simp only at k2
    unfold TS.round
    omega
  · exact Int.le_trans (sweeps_mono ok _ _ hr hl x) (h i x hx hge)
theorem rounds : ∀ (r : List Nat) {ds : List Int} {t : Nat}, Low T ds → Up T t ds → Low T (r.foldl (fun ds _ => T.round ds) ds) ∧ Up T (t + r.length) (r.foldl (fun ds _ => T.round ds) ds)
  | [], ds, t, h, u => ⟨h, u⟩
  | w :: r, ds, t, h, u => by
    rw [List.foldl_cons, List.length_cons, show t + (r.length + 1) = (t + 1) + r.length by omega]
    exact rounds r (h.round ok) (u.round ok h.1)
theorem low0 : Low T T.dist0 := by
  have hs := ok.s0
  have hl : (List.replicate T.N (99 : Int)).length = T.N := by simp
  have g : ∀ y, y < T.N → T.dist0.getD y 0 = if y = T.s0 then 0 else 99 := fun y hy => by
    unfold TS.dist0
    rw [getD_set _ _ _ _ (by omega)]
    split
    · rfl
    · simp [hy]
  have hb := TS.full_bi ok
  refine ⟨by simp [TS.dist0], fun x hx => ?_, fun i x hx => ?_, fun x hx hn => ?_⟩
  · rw [g x hx]; split <;> omega
  · rw [g x (hb.lt x (List.mem_of_getElem? hx))]
    have hi : i < T.full.L.length := by
      rcases Nat.lt_or_ge i T.full.L.length with q | q
      · exact q
      · rw [List.getElem?_eq_none q] at hx; cases hx
    split
    · rename_i e
      subst e
      have h0 := full_s0 ok
      have : i = 0 := by
        rcases Nat.eq_zero_or_pos i with h | h
        · exact h
        · have hne := List.pairwise_iff_getElem.mp hb.nd 0 i (by omega) hi h
          have e1 := (List.getElem?_eq_some_iff.mp h0).2
          have e2 := (List.getElem?_eq_some_iff.mp hx).2
          exact absurd (e1.trans e2.symm) hne
      subst this
      rw [dp_zero ok]; decide
    · have := dp_le ok i hi
      have := hb.le
      have := ok.n
      omega
  · rw [g x hx, if_neg]
    intro e
    subst e
    exact hn (List.mem_of_getElem? (full_s0 ok))
theorem up0 : Up T 0 T.dist0 := fun i x hx hd => by
  have hi : i < T.full.L.length := by
    rcases Nat.lt_or_ge i T.full.L.length with q | q
    · exact q
    · rw [List.getElem?_eq_none q] at hx; cases hx
  rcases Nat.eq_zero_or_pos i with rfl | h
  · rw [full_s0 ok] at hx; injection hx with hx; subst hx
    unfold TS.dist0
    rw [getD_set _ _ _ _ (by simpa using ok.s0), if_pos rfl]; omega
  · obtain ⟨p, k, _, _, _, _, _, _, _, d, _⟩ := par ok h hi
    omega
/-- the law's distances are the finds' depths -/
theorem dists_at {i x : Nat} (hx : T.full.L[i]? = some x) : T.dists.getD x 0 = T.dp i := by
  obtain ⟨h, u⟩ := rounds ok (List.range T.N) (low0 ok) (up0 ok)
  have hi : i < T.full.L.length := by
    rcases Nat.lt_or_ge i T.full.L.length with q | q
    · exact q
    · rw [List.getElem?_eq_none q] at hx; cases hx
  have k1 := h.2.2.1 i x hx
  have k2 := u i x hx (by have := dp_le ok i hi; have := (TS.full_bi ok).le; simp; omega)
  unfold TS.dists
  omega
theorem dists_far {x : Nat} (hx : x < T.N) (hn : x ∉ T.full.L) : T.dists.getD x 0 = 99 := by
  obtain ⟨h, u⟩ := rounds ok (List.range T.N) (low0 ok) (up0 ok)
  exact h.2.2.2 x hx hn
theorem dists_len : T.dists.length = T.N := (rounds ok (List.range T.N) (low0 ok) (up0 ok)).1.1
theorem dists_lt {x : Nat} (hx : x < T.N) : T.dists.getD x 0 < 99 ↔ x ∈ T.full.L := by
  constructor
  · intro h
    exact Classical.byContradiction fun hn => by rw [dists_far ok hx hn] at h; omega
  · intro h
    obtain ⟨i, hi⟩ := List.mem_iff_getElem?.mp h
    rw [dists_at ok hi]
    have hl : i < T.full.L.length := by
      rcases Nat.lt_or_ge i T.full.L.length with q | q
      · exact q
      · rw [List.getElem?_eq_none q] at hi; cases hi
    have := dp_le ok i hl
    have := (TS.full_bi ok).le
    have := ok.n
    omega
end
end

section
set_option linter.unusedVariables false
set_option maxRecDepth 100000
open PySem PyProof.Rows
noncomputable def boxL (b : Nat) : Nat → List (List Int)
  | 0 => [[]]
  | n + 1 => (boxL b n).flatMap fun st => (List.range b).map fun v : Nat => st ++ [(v : Int)]
noncomputable def shapes : List (Nat × Nat) := [(3, 2), (2, 3), (3, 1), (2, 2), (1, 1), (3, 2), (2, 3), (1, 2), (2, 1)]
noncomputable def boxAt (b n x : Nat) : List Int := (boxL b n).getD x []
noncomputable def boxFine (b n : Nat) : Bool := decide ((boxL b n).length = b ^ n) && decide (b ^ n ≤ 9) && decide (1 ≤ b ^ n) && decide (1 ≤ b) && decide (b ≤ 3) && decide (1 ≤ n) && decide (n ≤ 3) &&
  (List.range (b ^ n)).all fun x => decide (codeOf b (boxAt b n x) = x) && decide (stateOf b n x [] = boxAt b n x) && decide ((boxAt b n x).length = n) && (boxAt b n x).all fun v => decide (0 ≤ v) && decide (v < b)
theorem shapes_fine : ∀ q ∈ shapes, boxFine q.1 q.2 = true := by decide +kernel
structure BF (b n : Nat) : Prop where
  len : (boxL b n).length = b ^ n
  n9 : b ^ n ≤ 9
  n1 : 1 ≤ b ^ n
  b1 : 1 ≤ b
  b3 : b ≤ 3
  v1 : 1 ≤ n
  v3 : n ≤ 3
  code : ∀ x, x < b ^ n → codeOf b (boxAt b n x) = x
  state : ∀ x, x < b ^ n → stateOf b n x [] = boxAt b n x
  size : ∀ x, x < b ^ n → (boxAt b n x).length = n
  ent : ∀ x, x < b ^ n → ∀ v ∈ boxAt b n x, 0 ≤ v ∧ v < b
theorem BF.of {b n : Nat} (h : boxFine b n = true) : BF b n := by
  unfold boxFine at h
  simp only [Bool.and_eq_true, decide_eq_true_eq, List.all_eq_true, List.mem_range] at h
  obtain ⟨⟨⟨⟨⟨⟨⟨h1, h2⟩, h3⟩, h4⟩, h5⟩, h6⟩, h7⟩, h8⟩ := h
  exact ⟨h1, h2, h3, h4, h5, h6, h7, fun x hx => (h8 x hx).1.1.1, fun x hx => (h8 x hx).1.1.2, fun x hx => (h8 x hx).1.2, fun x hx v hv => (h8 x hx).2 v hv⟩
theorem mem_box {b : Nat} : ∀ (n : Nat) (st : List Int), st.length = n → (∀ v ∈ st, 0 ≤ v ∧ v < b) → st ∈ boxL b n
  | 0, st, h, _ => by
    have : st = [] := List.eq_nil_of_length_eq_zero h
    subst this; simp [boxL]
  | n + 1, st, h, hv => by
    rcases List.eq_nil_or_concat st with rfl | ⟨l, a, e⟩
    · simp at h
    · rw [List.concat_eq_append] at e
      subst e
      have ha := hv a (by simp)
      simp only [boxL, List.mem_flatMap, List.mem_map, List.mem_range]
      refine ⟨l, mem_box n l (by simpa using h) (fun v hm => hv v (by simp [hm])), a.toNat, by omega, ?_⟩
      have : ((a.toNat : Nat) : Int) = a := by omega
      rw [this]
theorem BF.surj {b n : Nat} (h : BF b n) {st : List Int} (h1 : st.length = n) (h2 : ∀ v ∈ st, 0 ≤ v ∧ v < b) : ∃ x, x < b ^ n ∧ boxAt b n x = st := by
  obtain ⟨x, hx, e⟩ := List.mem_iff_getElem.mp (mem_box n st h1 h2)
  refine ⟨x, by rw [← h.len]; exact hx, ?_⟩
  unfold boxAt
  simp [hx, e]
theorem BF.inj {b n : Nat} (h : BF b n) {x y : Nat} (hx : x < b ^ n) (hy : y < b ^ n) (e : boxAt b n x = boxAt b n y) : x = y := by
  have h1 := h.code x hx
  have h2 := h.code y hy
  rw [e, h2] at h1
  omega
/-- the law's model and its moves -/
noncomputable def mdOf (b n s0 : Nat) (rs : List Rule) : Md := ⟨b, boxAt b n s0, rs⟩
noncomputable def nxOf (m : Md) (n x k : Nat) : Nat := (codeOf m.base (m.fire (boxAt m.base n x) k)).toNat
noncomputable def tsOf (b n s0 : Nat) (rs : List Rule) : TS := ⟨b ^ n, mvOf (mdOf b n s0 rs) (boxAt b n) (nxOf (mdOf b n s0 rs) n), s0⟩
section
variable {b n s0 : Nat} {rs : List Rule} (h : BF b n) (hs : s0 < b ^ n) (hr : rs.length ≤ 3) (hru : ∀ r ∈ rs, Rule.ok n r)
include h hs hr hru
theorem md_ok : (mdOf b n s0 rs).ok := by
  have e : (mdOf b n s0 rs).start.length = n := h.size s0 hs
  exact ⟨h.b1, h.b3, by rw [e]; exact h.v3, h.ent s0 hs, hr, fun r q => by rw [e]; exact hru r q⟩
theorem md_inb {x : Nat} (hx : x < b ^ n) : (mdOf b n s0 rs).inBox (boxAt b n x) := by
  have e : (mdOf b n s0 rs).start.length = n := h.size s0 hs
  exact ⟨by rw [e]; exact h.size x hx, h.ent x hx⟩
end
end

section
set_option linter.unusedVariables false
set_option maxRecDepth 100000
open PySem PyProof.Rows
section
variable {c : Cx} (pg : Pg c) {l : Nat} {b n s0 : Nat} {rs : List Rule} (h : BF b n) (hs : s0 < b ^ n) (hr : rs.length ≤ 3) (hru : ∀ r ∈ rs, Rule.ok n r)
include pg h hs hr hru
theorem box_ok : BoxOK (mdOf b n s0 rs) (b ^ n) (boxAt b n) (nxOf (mdOf b n s0 rs) n) := by
  refine ⟨h.n9, fun x hx => md_inb h hs hr hru hx, fun x y hx hy e => h.inj hx hy e, fun x hx k hk => ?_⟩
  have hf := fire_box pg (md_ok h hs hr hru) (md_inb h hs hr hru hx) k
  have e : (mdOf b n s0 rs).start.length = n := h.size s0 hs
  obtain ⟨y, hy, ey⟩ := h.surj (st := (mdOf b n s0 rs).fire (boxAt b n x) k) (by rw [hf.1, e]) hf.2
  have hc := h.code y hy
  have hn : nxOf (mdOf b n s0 rs) n x k = y := by
    unfold nxOf
    show (codeOf b ((mdOf b n s0 rs).fire (boxAt b n x) k)).toNat = y
    rw [← ey, hc]; omega
  rw [hn]
  exact ⟨ey.symm, hy⟩
theorem en_lt {st : List Int} {k : Nat} (hk : k ∈ (mdOf b n s0 rs).en st) : k < rs.length := by
  unfold Md.en at hk
  have := (List.mem_filter.mp hk).1
  exact List.mem_range.mp this
theorem ts_ok : (tsOf b n s0 rs).ok := by
  have B := box_ok pg h hs hr hru
  refine ⟨h.n9, hs, fun x hx q hq => ?_, fun x hx => ?_⟩
  · obtain ⟨k, hk, rfl⟩ := List.mem_map.mp hq
    exact (B.nxt x hx k (en_lt pg h hs hr hru hk)).2
  · show ((mvOf _ _ _ x).map (·.1)).Pairwise (· < ·)
    unfold mvOf
    rw [List.map_map]
    have : ((fun x => x.1) ∘ fun k => (k, nxOf (mdOf b n s0 rs) n x k)) = (id : Nat → Nat) := rfl
    rw [this, List.map_id]
    unfold Md.en
    exact List.Pairwise.filter _ List.pairwise_lt_range
theorem sys_r : SysR c (l + 3) (mdOf b n s0 rs) (tsOf b n s0 rs) (boxAt b n) := by
  have hm := md_ok h hs hr hru
  have B := box_ok pg h hs hr hru
  have ib := fun {x : Nat} (hx : x < b ^ n) => md_inb h hs hr hru hx
  have e : (mdOf b n s0 rs).start.length = n := h.size s0 hs
  refine { ok := ts_ok pg h hs hr hru, en := fun x hx => ?_, fi := fun x hx q hq => ?_, co := fun x hx => ?_, so := fun x hx => ?_, bs := ?_, inj := fun x y hx hy q => h.inj hx hy q, st := rfl, blen := fun x hx => ?_, r3 := hr, kr := fun x hx q hq => ?_, vo := fun x hx k r hk => ?_ }
  · refine (enabled_ok pg hm (ib hx)).mono (Nat.le_refl _) fun d hd => ?_
    rw [hd]
    show PyData.list (((mdOf b n s0 rs).en (boxAt b n x)).map dN) = .list ((mvOf _ _ _ x).map fun q => dN q.1)
    unfold mvOf
    rw [List.map_map]; rfl
  · obtain ⟨k, hk, rfl⟩ := List.mem_map.mp hq
    have hkl := en_lt pg h hs hr hru hk
    refine (fired_ok pg hm (ib hx) (k := k) hkl).mono (Nat.le_refl _) fun d hd => ?_
    rw [hd, (B.nxt x hx k hkl).1]
  · refine (code_of_ok pg (l := l) hm (ib hx)).mono (by omega) fun d hd => ?_
    rw [hd]
    show PyData.int (codeOf b (boxAt b n x)) = _
    rw [h.code x hx]
  · refine (state_of_ok pg (l := l) hm (x : Int)).mono (by omega) fun d hd => ?_
    rw [hd, e]
    show dS (stateOf b n x []) = _
    rw [h.state x hx]
  · refine (box_size_ok pg (l := l) hm).mono (by omega) fun d hd => ?_
    rw [hd, e]
    show PyData.int ((b : Int) ^ n) = PyData.int ((b ^ n : Nat) : Int)
    rw [Int.natCast_pow]
  · have := h.size x hx
    have := h.v3
    omega
  · obtain ⟨k, hk, rfl⟩ := List.mem_map.mp hq
    exact en_lt pg h hs hr hru hk
  · have hrm : r ∈ rs := List.mem_of_getElem? hk
    refine ⟨r.1.val (boxAt b n x), (value_tr pg (l := l) (hru r hrm).1 ⟨h.size x hx, fun v hv => ?_⟩ h.v3).mono (by omega) fun _ q => q, ?_⟩
    · have := h.ent x hx v hv
      have := h.b3
      omega
    · have hk' : (mdOf b n s0 rs).rules[k]? = some r := hk
      have hkl : k < rs.length := by
        rcases Nat.lt_or_ge k rs.length with q | q
        · exact q
        · rw [show (mdOf b n s0 rs).rules = rs from rfl, List.getElem?_eq_none q] at hk'; cases hk'
      constructor
      · intro hv
        cases hl : ((tsOf b n s0 rs).mv x).lookup k with
        | none => rfl
        | some d =>
          have hmem := mem_of_look hl
          obtain ⟨k', hk2, e2⟩ := List.mem_map.mp hmem
          injection e2 with e2 e3
          subst e2
          unfold Md.en at hk2
          have := (List.mem_filter.mp hk2).2
          rw [hk'] at this
          simp [hv] at this
      · intro hl
        refine Classical.byContradiction fun hv => ?_
        have hmem : k ∈ (mdOf b n s0 rs).en (boxAt b n x) := by
          unfold Md.en
          refine List.mem_filter.mpr ⟨List.mem_range.mpr hkl, ?_⟩
          rw [hk']
          simp [hv]
        have : (k, nxOf (mdOf b n s0 rs) n x k) ∈ (tsOf b n s0 rs).mv x := List.mem_map.mpr ⟨k, hmem, rfl⟩
        rw [List.lookup_eq_none_iff] at hl
        have := hl _ this
        simp at this
end
end

section
set_option linter.unusedVariables false
theorem look_of_mem : ∀ {l : List (Nat × Nat)}, (l.map (·.1)).Pairwise (· < ·) → ∀ {k d : Nat}, (k, d) ∈ l → l.lookup k = some d
  | (a, e) :: l, hp, k, d, hm => by
    rw [List.map_cons, List.pairwise_cons] at hp
    rw [List.lookup_cons]
    rcases List.mem_cons.mp hm with h | h
    · injection h with h1 h2; subst h1; subst h2; simp
    · have := hp.1 k (List.mem_map.mpr ⟨(k, d), h, rfl⟩)
      simp only at this
      have hne : (k == a) = false := by simp; omega
      rw [hne]
      exact look_of_mem hp.2 h
noncomputable def lastOf (x : Nat) (ds : List Nat) : Nat := (x :: ds).getLast (by simp)
theorem replay_snoc {T : TS} : ∀ (ks : List Int) (x : Nat) (ds : List Nat) (k d : Nat), T.replay x ks = some ds → (T.mv (lastOf x ds)).lookup k = some d → T.replay x (ks ++ [(k : Int)]) = some (ds ++ [d])
  | [], x, ds, k, d, h, hd => by
    rw [TS.replay] at h
    injection h with h
    subst h
    simp only [lastOf, List.getLast_singleton] at hd
    simp [TS.replay, hd]
  | j :: ks, x, ds, k, d, h, hd => by
    rw [TS.replay] at h
    rw [List.cons_append, TS.replay]
    split at h
    · cases h
    · rename_i h0
      rw [if_neg h0]
      cases hl : (T.mv x).lookup j.toNat with
      | none => rw [hl] at h; cases h
      | some y =>
        rw [hl] at h
        simp only at h ⊢
        cases hr : T.replay y ks with
        | none => rw [hr] at h; cases h
        | some es =>
          rw [hr] at h
          simp at h
          subst h
          have hlast : lastOf x (y :: es) = lastOf y es := by unfold lastOf; rw [List.getLast_cons (by simp)]
          rw [hlast] at hd
          rw [replay_snoc ks y es k d hr hd]
          simp
/-- the way to a find -/
noncomputable def TS.way (T : TS) (i : Nat) : List Nat := (T.replay T.s0 (trOf T.full.P i)).getD []
theorem way_ok {T : TS} (ok : T.ok) : ∀ (i : Nat), i < T.full.L.length → T.replay T.s0 (trOf T.full.P i) = some (T.way i) ∧ T.full.L[i]? = some (lastOf T.s0 (T.way i)) ∧
    (∀ (p k : Nat), T.full.P[i]? = some ((p : Int), (k : Int)) → ∃ x, T.full.L[i]? = some x ∧ T.way i = T.way p ++ [x]) := by
  intro i
  induction i using Nat.strongRecOn with
  | _ i ih =>
    intro hi
    rcases Nat.eq_zero_or_pos i with rfl | h0
    · have ht : trOf T.full.P 0 = [] := by
        rw [trOf_step (TS.full_pi ok).pok (TS.full_pi ok).zero.2]; rfl
      have hw : T.way 0 = [] := by unfold TS.way; rw [ht]; rfl
      refine ⟨by rw [ht, hw]; rfl, by rw [hw]; exact full_s0 ok, fun p k e => ?_⟩
      rw [(TS.full_pi ok).zero.2] at e
      injection e with e
      injection e with e1 e2
      omega
    · obtain ⟨p, k, x, y, e, hp, hx, hy, he, d, ht⟩ := par ok h0 hi
      obtain ⟨r1, r2, _⟩ := ih p hp (by omega)
      rw [hx] at r2
      injection r2 with r2
      have hxN := (TS.full_bi ok).lt x (List.mem_of_getElem? hx)
      have hl := look_of_mem (ok.asc x hxN) he
      rw [r2] at hl
      have hr := replay_snoc _ _ _ k y r1 hl
      rw [← ht] at hr
      have hw : T.way i = T.way p ++ [y] := by
        have : T.way i = (T.replay T.s0 (trOf T.full.P i)).getD [] := rfl
        rw [this, hr]; rfl
      refine ⟨by rw [hr, hw], ?_, fun p' k' e' => ?_⟩
      · rw [hw, hy]; unfold lastOf
        congr 1
        rw [List.getLast_cons (by simp), List.getLast_append]; simp
      · rw [e] at e'
        injection e' with e'
        injection e' with e1 e2
        have : p' = p := by omega
        subst this
        exact ⟨y, hy, hw⟩
end

section
set_option linter.unusedVariables false
theorem lt_of_getL {α : Type} {L : List α} {p : Nat} {x : α} (h : L[p]? = some x) : p < L.length := by
  rcases Nat.lt_or_ge p L.length with q | q
  · exact q
  · rw [List.getElem?_eq_none q] at h; cases h
theorem bfs_step {T : TS} (ok : T.ok) {n p : Nat} {s : LP} (b : BI T s) (h : T.bfs n p s = T.full) (hf : p + n = T.N + 1) (hp : p < T.full.L.length) :
    ∃ x n', s.L[p]? = some x ∧ T.full.L[p]? = some x ∧ T.bfs n' (p + 1) (visit p (T.mv x) s) = T.full ∧ (p + 1) + n' = T.N + 1 ∧ BI T (visit p (T.mv x) s) ∧ x < T.N := by
  have hb : BI T T.full := BI.bfs ok _ _ ok.start
  have hle := hb.le
  obtain ⟨n', rfl⟩ : ∃ n', n = n' + 1 := ⟨n - 1, by omega⟩
  have hpre : Pre s T.full := h ▸ T.bfs_pre _ _ _
  rw [TS.bfs] at h
  cases hx : s.L[p]? with
  | none =>
    rw [hx] at h
    simp only at h
    subst h
    exact absurd hx (by rw [List.getElem?_eq_getElem hp]; exact fun e => by cases e)
  | some x =>
    rw [hx] at h
    simp only at h
    have hxN := b.lt x (List.mem_of_getElem? hx)
    refine ⟨x, n', rfl, ?_, h, by omega, b.visit (ok.tgt x hxN), hxN⟩
    obtain ⟨xs, ys, e, _, _⟩ := hpre
    rw [e, List.getElem?_append_left (lt_of_getL hx)]
    exact hx
theorem bfs_stop {T : TS} {n p : Nat} {s : LP} (h : T.bfs n p s = T.full) (hp : T.full.L.length = p) : s = T.full := by
  cases n with
  | zero => exact h
  | succ n =>
    have hpre : Pre s T.full := h ▸ T.bfs_pre _ _ _
    rw [TS.bfs] at h
    cases hx : s.L[p]? with
    | none => rw [hx] at h; exact h
    | some x =>
      obtain ⟨xs, ys, e, _, _⟩ := hpre
      have := lt_of_getL hx
      rw [← hp, e] at this
      simp at this
      omega
theorem lexLt_irrefl_sorted {P : List (Int × Int)} (h : P.Pairwise lexLt) : P.Pairwise fun a b => a.1 < b.1 ∨ (a.1 = b.1 ∧ a.2 ≤ b.2) := h.imp fun k => by
  rcases k with k | k
  · exact .inl k
  · exact .inr ⟨k.1, by omega⟩
/-- an ascending list is the only ascending order of its items -/
theorem sorted_same_ints {ns ms : List Int} (hp : ns.Perm ms) (h1 : ns.Pairwise (· ≤ ·)) (h2 : ms.Pairwise (· ≤ ·)) : ns = ms :=
  hp.eq_of_pairwise (fun a b _ _ h1 h2 => Int.le_antisymm h1 h2) h1 h2
end

section
set_option linter.unusedVariables false
open PySem PyProof.Rows
theorem eqvAll_refl {n : Nat} (ih : ∀ d, okD n d → PyData.eqv d d = true) : ∀ xs : List PyData, (∀ x ∈ xs, okD n x) → PyData.eqvAll xs xs = true
  | [], _ => by simp [PyData.eqvAll]
  | x :: xs, h => by
    have h1 := ih x (h x (.head _))
    have h2 := eqvAll_refl ih xs fun y hy => h y (.tail _ hy)
    simp [PyData.eqvAll, h1, h2]
theorem eqv_refl : ∀ (n : Nat) (d : PyData), okD n d → PyData.eqv d d = true
  | 0, d, h => by cases d <;> first | exact h.elim | simp [PyData.eqv]
  | n + 1, d, h => by
    cases d with
    | list xs => simp only [PyData.eqv]; exact eqvAll_refl (eqv_refl n) xs h
    | tuple xs => simp only [PyData.eqv]; exact eqvAll_refl (eqv_refl n) xs h
    | dict xs => exact h.elim
    | _ => simp [PyData.eqv]
/-- the same data on both sides -/
theorem cE_ne {d : PyData} {B : Bool → Prop} (ho : okD 20 d) (h : B false) : cmpW .NotEq d d B := by
  have e := eqv_refl 20 d ho
  have h' : B (!PyData.eqv d d) := by rw [e]; exact h
  cases d with
  | dict xs => exact ho.elim
  | _ => exact ⟨⟨ho, ho⟩, h'⟩
theorem okD_pairs (n : Nat) (P : List (Int × Int)) : okD (n + 2) (dPP P) := fun x hx => by
  obtain ⟨i, _, rfl⟩ := List.mem_map.mp hx
  intro y hy
  simp only [List.mem_cons, List.not_mem_nil, or_false] at hy
  rcases hy with rfl | rfl <;> cases n <;> trivial
theorem okD_str {s : Str} (n : Nat) (h : PyData.strOk s = true) : okD n (.str s) := by
  cases n <;> exact okS h
theorem okD_int (n : Nat) (i : Int) : okD n (.int i) := by cases n <;> trivial
theorem okD_two {n : Nat} {a b : PyData} (h1 : okD n a) (h2 : okD n b) : okD (n + 1) (.tuple [a, b]) := fun x hx => by
  simp only [List.mem_cons, List.not_mem_nil, or_false] at hx
  rcases hx with rfl | rfl
  · exact h1
  · exact h2
theorem okD_three {n : Nat} {a b d : PyData} (h1 : okD n a) (h2 : okD n b) (h3 : okD n d) : okD (n + 1) (.tuple [a, b, d]) := fun x hx => by
  simp only [List.mem_cons, List.not_mem_nil, or_false] at hx
  rcases hx with rfl | rfl | rfl
  · exact h1
  · exact h2
  · exact h3
theorem okD_all {α : Type} {n : Nat} {f : α → PyData} (h : ∀ a, okD n (f a)) (xs : List α) : okD (n + 1) (.list (xs.map f)) := fun x hx => by
  obtain ⟨i, _, rfl⟩ := List.mem_map.mp hx
  exact h i
theorem okD_it (n : Nat) (i : It) : okD (n + 1) i.d := by
  cases i with
  | lf l => cases l with
    | num k => exact okD_two (okD_str n (by decide +kernel)) (okD_int n _)
    | var k => exact okD_two (okD_str n (by decide +kernel)) (okD_int n _)
  | op o => exact okD_two (okD_str n o.strOk) (okD_int n _)
theorem okD_dP (n : Nat) (t : Tr) : okD (n + 2) (dP t) := okD_all (okD_it n) _
theorem okD_ru (n : Nat) (r : Rule) : okD (n + 5) (dRu r) := okD_two (okD_dP (n + 2) _) (okD_all (f := dWr) (fun q : Nat × Tr => okD_two (okD_int _ _) (okD_dP n q.2)) _)
theorem okD_md (m : Md) : okD 20 m.d := okD_three (okD_int _ _) (okD_ints 18 _) (okD_all (okD_ru 13) _)
theorem okD_held (box : Nat → List Int) (L : List Nat) (P : List (Int × Int)) (b : Bool) : okD 20 (.tuple [dB box L, dPP P, .bool b]) := okD_three (okD_box 17 box L) (okD_pairs 17 P) trivial
theorem okD_nats (n : Nat) (L : List Nat) : okD (n + 1) (.list (L.map dN)) := okD_all (fun a => okD_int _ _) L
theorem okD_run (T : TS) (box : Nat → List Int) (ks : List Int) : okD 20 (T.runD box ks) := by
  unfold TS.runD
  split
  · exact okD_box 18 box _
  · trivial
theorem okD_dead (T : TS) (L : List Nat) (P : List (Int × Int)) : okD 20 (T.dead L P) := by
  unfold TS.dead
  split
  · exact okD_ints 19 _
  · trivial
/-! dicts with nats as keys -/
theorem getK_nat {β : Type} (g : β → PyData) : ∀ (l : List (Nat × β)) (k : Int), getK (l.map fun q => (dN q.1, g q.2)) (dI k) = if k < 0 then none else (l.lookup k.toNat).map g
  | [], k => by simp [getK]
  | (a, b) :: l, k => by
    rw [List.map_cons, getK_cons, getK_nat g l k, List.lookup_cons]
    simp only
    by_cases h0 : k < 0
    · have h2 : ¬ kEq (dN a) (dI k) = true := by simp [kEq]; omega
      rw [if_neg h2, if_pos h0, if_pos h0]
    · rw [if_neg h0, if_neg h0]
      by_cases h : k.toNat = a
      · have h2 : kEq (dN a) (dI k) = true := by simp [kEq]; omega
        rw [if_pos h2]
        have h3 : (k.toNat == a) = true := by simp [h]
        rw [h3]; rfl
      · have h2 : ¬ kEq (dN a) (dI k) = true := by simp [kEq]; omega
        rw [if_neg h2]
        have h3 : (k.toNat == a) = false := by simp [h]
        rw [h3]
theorem kind_nat {β : Type} (g : β → PyData) (l : List (Nat × β)) (k : Int) : kindOk (l.map fun q => (dN q.1, g q.2)) (dI k) := fun q hq => by
  obtain ⟨z, _, rfl⟩ := List.mem_map.mp hq
  trivial
theorem item_mv {qs : List (Nat × Nat)} {k d : Nat} {K : PyData → Prop} (h : qs.lookup k = some d) (hK : K (dN d)) : itemW (dMv qs) (dN k) K := by
  refine ⟨kind_nat dN qs k, trivial, dN d, ?_, hK⟩
  rw [getK_nat dN qs k, if_neg (by omega)]
  simp [h]
theorem item_mvI {qs : List (Nat × Nat)} {k : Int} {d : Nat} {K : PyData → Prop} (h0 : ¬ k < 0) (h : qs.lookup k.toNat = some d) (hK : K (dN d)) : itemW (dMv qs) (dI k) K := by
  refine ⟨kind_nat dN qs k, trivial, dN d, ?_, hK⟩
  rw [getK_nat dN qs k, if_neg h0, h]; rfl
noncomputable def hasK (qs : List (Nat × Nat)) (k : Int) : Bool := if k < 0 then false else (qs.lookup k.toNat).isSome
theorem notin_mv {qs : List (Nat × Nat)} {k : Int} {B : Bool → Prop} (h : B (!hasK qs k)) : cmpW .NotIn (dI k) (dMv qs) B := by
  refine ⟨kind_nat dN qs k, trivial, ?_⟩
  rw [getK_nat dN qs k]
  have e : (if k < 0 then none else (qs.lookup k.toNat).map dN).isSome = hasK qs k := by
    unfold hasK
    split <;> simp
  rw [e]; exact h
theorem eqD_mv {qs : List (Nat × Nat)} {B : Bool → Prop} (h : B qs.isEmpty) : eqDW (dMv qs) (.dict []) B := by
  refine ⟨kind_nat dN qs 0, ?_⟩
  rw [List.isEmpty_map]; exact h
theorem itD {kvs : List (PyData × PyData)} {L : List PyData → Prop} (h : L (kvs.map (·.1))) : iterW (.dict kvs) L := h
/-! the law's own table of first parents -/
noncomputable abbrev dF (s : LP) : PyData := .dict ((s.L.zip s.P).map fun q => (dN q.1, pairI q.2))
theorem zip_look : ∀ {L : List Nat} {P : List (Int × Int)} (x : Nat), L.length = P.length → ((L.zip P).lookup x).isSome = decide (x ∈ L)
  | [], P, x, _ => by simp
  | a :: L, [], x, h => by simp at h
  | a :: L, p :: P, x, h => by
    rw [List.zip_cons_cons, List.lookup_cons]
    by_cases e : x = a
    · subst e; simp
    · have h3 : (x == a) = false := by simp [e]
      rw [h3]
      simp only
      rw [zip_look x (by simpa using h)]
      simp [e]
theorem notin_F {s : LP} (hl : s.L.length = s.P.length) {y : Nat} {B : Bool → Prop} (h : B (!decide (y ∈ s.L))) : cmpW .NotIn (dN y) (dF s) B := by
  refine ⟨kind_nat pairI _ y, trivial, ?_⟩
  rw [getK_nat pairI (s.L.zip s.P) y, if_neg (by omega)]
  simp only [Int.toNat_natCast, Option.isSome_map]
  rw [zip_look y hl]; exact h
noncomputable def firstOf (s : LP) (x : Nat) : Int × Int := ((s.L.zip s.P).lookup x).getD (0, 0)
theorem item_F {s : LP} (hl : s.L.length = s.P.length) {x : Nat} (hx : x ∈ s.L) {K : PyData → Prop} (hK : K (pairI (firstOf s x))) : itemW (dF s) (dN x) K := by
  refine ⟨kind_nat pairI _ x, trivial, pairI (firstOf s x), ?_, hK⟩
  rw [getK_nat pairI (s.L.zip s.P) x, if_neg (by omega)]
  have := zip_look (P := s.P) x hl
  rw [decide_eq_true hx] at this
  obtain ⟨q, hq⟩ := Option.isSome_iff_exists.mp this
  unfold firstOf
  simp [hq]
theorem first_map : ∀ {L : List Nat} {P : List (Int × Int)}, L.Nodup → L.length = P.length → L.map (firstOf ⟨L, P⟩) = P
  | [], [], _, _ => rfl
  | [], _ :: _, _, h => by simp at h
  | _ :: _, [], _, h => by simp at h
  | a :: L, p :: P, hn, h => by
    rw [List.nodup_cons] at hn
    rw [List.map_cons]
    have h1 : firstOf ⟨a :: L, p :: P⟩ a = p := by simp [firstOf]
    rw [h1]
    congr 1
    refine Eq.trans ?_ (first_map (P := P) hn.2 (by simpa using h))
    refine List.map_congr_left fun x hx => ?_
    have : (x == a) = false := by
      simp
      intro e
      subst e
      exact hn.1 hx
    simp only [firstOf, List.zip_cons_cons, List.lookup_cons, this]
theorem zip_app {L : List Nat} {P : List (Int × Int)} (hl : L.length = P.length) (y : Nat) (q : Int × Int) : (L ++ [y]).zip (P ++ [q]) = L.zip P ++ [(y, q)] := by
  rw [List.zip_append hl]; rfl
theorem zip_keys {L : List Nat} {P : List (Int × Int)} (hl : L.length = P.length) : (L.zip P).map (·.1) = L := by
  rw [List.map_fst_zip (by omega)]
/-! reach, far, the first stuck find -/
theorem reach_len {T : TS} (ok : T.ok) : T.reach.length = T.full.L.length := by
  have hb := TS.full_bi ok
  refine List.Perm.length_eq ?_
  refine ((List.perm_ext_iff_of_nodup hb.nd (List.Pairwise.filter _ List.nodup_range)).mpr fun a => ?_).symm
  simp only [List.mem_filter, List.mem_range, decide_eq_true_eq]
  exact ⟨fun q => ⟨hb.lt a q, q⟩, fun q => q.2⟩
theorem far_eq {T : TS} (ok : T.ok) : T.full.L.map (fun x => dI (T.dists.getD x 0)) = (List.range T.full.L.length).map fun i => dN (T.dp i) := by
  refine List.ext_getElem (by simp) fun i h1 h2 => ?_
  simp only [List.length_map] at h1
  rw [List.getElem_map, List.getElem_map, List.getElem_range]
  congr 1
  exact dists_at ok (by simp [h1])
theorem far_sorted {T : TS} (ok : T.ok) : ((List.range T.full.L.length).map fun i => (T.dp i : Int)).Pairwise (· ≤ ·) := by
  rw [List.pairwise_iff_getElem]
  intro i j hi hj hij
  simp only [List.length_map, List.length_range] at hi hj
  simp only [List.getElem_map, List.getElem_range]
  have := dp_mono ok j i (by omega) hj
  omega
theorem full_sorted {T : TS} (ok : T.ok) : T.full.P.Pairwise lexLe := by
  obtain ⟨_, oh⟩ := full_oh ok
  exact lexLt_irrefl_sorted oh.srt
theorem dead_at {T : TS} (ok : T.ok) (limit : Nat) : T.dead (T.full.L.take limit) (T.full.P.take limit) =
    match (List.range (min limit T.full.L.length)).filter (fun i => (T.mv (T.full.L.getD i 0)).isEmpty) with
    | [] => .none
    | i :: _ => .list ((trOf T.full.P i).map dI) := by
  have hb := TS.full_bi ok
  have e : T.stuck (T.full.L.take limit) = ((List.range (min limit T.full.L.length)).filter (fun i => (T.mv (T.full.L.getD i 0)).isEmpty)).head? := by
    rw [List.head?_filter]
    unfold TS.stuck
    rw [List.length_take]
    have hc : ∀ i ∈ List.range (min limit T.full.L.length), (T.mv ((T.full.L.take limit).getD i 0)).isEmpty = (T.mv (T.full.L.getD i 0)).isEmpty := fun i hi => by
      have hi : i < min limit T.full.L.length := List.mem_range.mp hi
      rw [List.getD_eq_getElem?_getD, List.getD_eq_getElem?_getD, List.getElem?_take, if_pos (by omega)]
    revert hc
    generalize List.range (min limit T.full.L.length) = xs
    intro hc
    induction xs with
    | nil => rfl
    | cons x xs ih =>
      rw [List.find?_cons, List.find?_cons, hc x (.head _), ih fun i hi => hc i (.tail _ hi)]
  unfold TS.dead
  rw [e]
  cases hf : (List.range (min limit T.full.L.length)).filter (fun i => (T.mv (T.full.L.getD i 0)).isEmpty) with
  | nil => rfl
  | cons i r =>
    simp only [List.head?_cons]
    have hi : i ∈ List.range (min limit T.full.L.length) := (List.mem_filter.mp (hf ▸ List.Mem.head _ : i ∈ (List.range (min limit T.full.L.length)).filter (fun i => (T.mv (T.full.L.getD i 0)).isEmpty))).1
    have hi : i < min limit T.full.L.length := List.mem_range.mp hi
    have hp : Pok (T.full.P.take limit ++ T.full.P.drop limit) := by rw [List.take_append_drop]; exact (TS.full_pi ok).pok
    have := trOf_pre hp i (by rw [List.length_take, ← hb.len]; omega)
    rw [List.take_append_drop] at this
    rw [this]
end

section
set_option linter.unusedVariables false
set_option maxRecDepth 100000
set_option maxHeartbeats 4000000
open PySem PyProof.Rows
/-- what the law's names hold from its tenth line on -/
noncomputable def LE (ns : List Int) (m : Md) (T : TS) (box : Nat → List Int) (pe : PEnv) : Prop :=
  pe "script" = some ⟨.list (ns.map dI), false⟩ ∧ pe "base" = some ⟨dN m.base, false⟩ ∧ pe "box" = some ⟨dB box (List.range T.N), false⟩ ∧ pe "size" = some ⟨dN T.N, false⟩ ∧ pe "start" = some ⟨dN T.s0, false⟩ ∧
  pe "rules" = some ⟨.list (m.rules.map dRL), false⟩ ∧ pe "model" = some ⟨m.d, false⟩ ∧ pe "moves" = some ⟨.list ((List.range T.N).map fun x => dMv (T.mv x)), false⟩
noncomputable def numbersT : List Int := [0, 1, 2, 0, 1, 3, -1]
theorem replay_no {T : TS} {x : Nat} {k : Int} {r : List Int} (hk : hasK (T.mv x) k = false) : T.replay x (k :: r) = none := by
  rw [TS.replay]
  unfold hasK at hk
  split
  · rfl
  · rename_i h0
    rw [if_neg h0] at hk
    cases e : (T.mv x).lookup k.toNat with
    | none => rfl
    | some d => rw [e] at hk; cases hk
theorem replay_yes {T : TS} {x : Nat} {k : Int} {r : List Int} (hk : hasK (T.mv x) k = true) : ¬ k < 0 ∧ ∃ d, (T.mv x).lookup k.toNat = some d ∧ T.replay x (k :: r) = (T.replay d r).map (d :: ·) := by
  have h0 : ¬ k < 0 := fun h0 => by unfold hasK at hk; rw [if_pos h0] at hk; cases hk
  refine ⟨h0, ?_⟩
  unfold hasK at hk
  rw [if_neg h0] at hk
  obtain ⟨d, hd⟩ := Option.isSome_iff_exists.mp hk
  refine ⟨d, hd, ?_⟩
  rw [TS.replay, if_neg h0, hd]
section
variable {c : Cx} (pg : Pg c) {l : Nat} {m : Md} {T : TS} {box : Nat → List Int}
include pg
/-- the last lines: a replay of the script's own trace -/
theorem law_end {ns : List Int} (hl : ns.length ≤ 63) (S : SysR c (l + 3) m T box) {pe : PEnv} (hm : m.ok) (E : LE ns m T box pe) :
    ExL c (l + 8) (fnM 35) ((fnB 35).drop 25) pe (retW (· = .bool true)) := by
  obtain ⟨p1, p2, p3, p4, p5, p6, p7, p8⟩ := E
  have gd := pg.gd
  have a1 := pg.addr 25 (f := "_law_cell") rfl rfl
  have a2 := pg.addr 10 (f := "replayed") rfl rfl
  have a3 := pg.addr 32 (f := "_law_model") rfl rfl
  have t1 : c.G "_law_numbers" = some (.tuple (numbersT.map dI)) := by rw [pg.G]; rfl
  have hN := S.ok.n
  have hs0 := S.ok.s0
  refine ExL_cons ?_
  repeat' contradiction
  obtain ⟨n5, e5, l5, z5⟩ := fmod_nat (ns.getD 2 0) 5 (by omega)
  have e5 : (ns.getD 2 0).fmod 5 = (n5 : Int) := e5
  refine to8 1 (cell_okI pg (l := l) hl 2 rfl (by omega)) (by decide) ?_
  repeat' contradiction
  · decide
  · rw [e5]; omega
  rw [e5, rangeL_nat]
  refine compL_map (f := dN) (fun j => dI (numbersT.getD ((ns.getD (21 + j) 0).fmod 7).toNat 0)) _ (fun j acc K2 hj hacc hK => ?_) (by simp [lim]; omega) ?_
  · have hj : j < n5 := by simpa using hj
    repeat' contradiction
    refine to8 1 (cell_okI pg (l := l) hl (21 + j) (by omega) (by omega)) (by decide) ?_
    repeat' contradiction
    · decide
    refine iTm (xs := numbersT) 0 rfl (by decide) (by decide) ?_
    exact ⟨hacc, hK⟩
  generalize hks : (List.range n5).map (fun j => numbersT.getD ((ns.getD (21 + j) 0).fmod 7).toNat 0) = ks
  have hkl : ks.length ≤ 5 := by rw [← hks]; simp; omega
  have hkd : (List.range n5).map (fun j => dI (numbersT.getD ((ns.getD (21 + j) 0).fmod 7).toNat 0)) = ks.map dI := by rw [← hks, List.map_map]; rfl
  rw [hkd]
  repeat' contradiction
  refine iRg hs0 hN ?_
  repeat' contradiction
  refine ExS_for rfl ?_
  repeat' contradiction
  refine forW_fin (f := dI) (fun r pe => ∃ (x : Nat) (dn : List Nat), x < T.N ∧ dn.length + r.length ≤ 6 ∧ (T.replay T.s0 ks).map (T.s0 :: ·) = (T.replay x r).map (dn ++ ·) ∧ pe "run" = some ⟨dB box dn, false⟩ ∧ pe "here" = some ⟨dN x, false⟩ ∧ pe "trace" = some ⟨.list (ks.map dI), false⟩ ∧ LE ns m T box pe)
    (fun pe => pe "run" = some ⟨T.runD box ks, false⟩ ∧ pe "trace" = some ⟨.list (ks.map dI), false⟩ ∧ LE ns m T box pe)
    (fun pe hF => ?_) (fun pe hI => ?_) (fun k r pe K' hI hn hc hb hr => ?_) _ _ ?_
  · clear p1 p2 p3 p4 p5 p6 p7 p8
    obtain ⟨q1, q2, p1, p2, p3, p4, p5, p6, p7, p8⟩ := hF
    repeat' contradiction
    refine to8 4 (replayed_ok pg S (by omega : ks.length ≤ 900)) (by decide) ?_
    repeat' contradiction
    refine cE_ne (okD_run T box ks) ?_
    repeat' contradiction
    refine iRg hs0 hN ?_
    repeat' contradiction
    have hmo := model_ok pg (l := l) hm
    rw [S.st] at hmo
    refine to8 2 hmo (by decide) ?_
    repeat' contradiction
    refine cE_ne (okD_md m) ?_
    repeat' contradiction
    rfl
  · obtain ⟨x, dn, h1, h2, h3, q1, q2, q3, q4⟩ := hI
    refine ⟨?_, q3, q4⟩
    rw [q1]
    rw [TS.replay] at h3
    unfold TS.runD
    cases hq : T.replay T.s0 ks with
    | none => rw [hq] at h3; simp at h3
    | some ds => rw [hq] at h3; simp at h3; rw [← h3]
  · clear p1 p2 p3 p4 p5 p6 p7 p8
    obtain ⟨x, dn, h1, h2, h3, q1, q2, q3, p1, p2, p3, p4, p5, p6, p7, p8⟩ := hI
    simp only [List.length_cons] at h2
    repeat' contradiction
    refine iRg h1 hN ?_
    repeat' contradiction
    refine notin_mv ?_
    cases hk : hasK (T.mv x) k with
    | false =>
      rw [replay_no hk] at h3
      have hrn : T.runD box ks = .none := by
        unfold TS.runD
        have : T.replay T.s0 ks = none := by simpa using h3
        rw [this]
      repeat' contradiction
      refine hb _ ⟨?_, q3, p1, p2, p3, p4, p5, p6, p7, p8⟩
      rw [hrn]; rfl
    | true =>
      obtain ⟨h0, d, hd, hre⟩ := replay_yes (r := r) hk
      rw [hre] at h3
      have hdN := S.ok.tgt x h1 _ (mem_of_look hd)
      have hdN : d < T.N := hdN
      repeat' contradiction
      refine iRg h1 hN ?_
      repeat' contradiction
      refine item_mvI h0 hd ?_
      repeat' contradiction
      refine iRg hdN hN ?_
      repeat' contradiction
      · simp [lim]; omega
      refine hn _ ⟨d, dn ++ [d], hdN, by simp; omega, ?_, ?_, rfl, q3, p1, p2, p3, p4, p5, p6, p7, p8⟩
      · rw [h3, Option.map_map]
        congr 1
        funext z
        simp
      · rw [dB_app]; rfl
  · exact ⟨T.s0, [T.s0], hs0, by simp; omega, rfl, rfl, rfl, rfl, p1, p2, p3, p4, p5, p6, p7, p8⟩
end
end

section
set_option linter.unusedVariables false
set_option maxRecDepth 100000
set_option maxHeartbeats 4000000
open PySem PyProof.Rows
noncomputable def limitsT : List Nat := [2, 1, 3, 4, 5, 6, 7, 8, 9, 2, 3, 4]
theorem limits_le (i : Nat) : 1 ≤ limitsT.getD i 2 ∧ limitsT.getD i 2 ≤ 9 := by
  rcases Nat.lt_or_ge i 12 with h | h
  · have : ∀ i < 12, 1 ≤ limitsT.getD i 2 ∧ limitsT.getD i 2 ≤ 9 := by decide +kernel
    exact this i h
  · rw [List.getD_eq_getElem?_getD, List.getElem?_eq_none (by exact h)]; decide
noncomputable abbrev dTs (T : TS) (n : Nat) : PyData := .list ((List.range n).map fun i => dS (trOf T.full.P i))
noncomputable def LF (T : TS) (box : Nat → List Int) (pe : PEnv) : Prop :=
  pe "states" = some ⟨dB box T.full.L, false⟩ ∧ pe "parents" = some ⟨dPP T.full.P, false⟩ ∧ pe "reach" = some ⟨.list (T.reach.map dN), false⟩ ∧ pe "codes" = some ⟨.list (T.full.L.map dN), false⟩
section
variable {c : Cx} (pg : Pg c) {l : Nat} {m : Md} {T : TS} {box : Nat → List Int}
include pg
/-- the loop over the limits -/
theorem law_lim {ns : List Int} (hl : ns.length ≤ 63) (S : SysR c (l + 3) m T box) {pe : PEnv} (hm : m.ok) (E : LE ns m T box pe) (F : LF T box pe) (ptr : pe "traces" = some ⟨dTs T T.full.L.length, true⟩) :
    ExL c (l + 8) (fnM 35) ((fnB 35).drop 23) pe (retW (· = .bool true)) := by
  obtain ⟨p1, p2, p3, p4, p5, p6, p7, p8⟩ := E
  obtain ⟨f1, f2, f3, f4⟩ := F
  have gd := pg.gd
  have a1 := pg.addr 25 (f := "_law_cell") rfl rfl
  have a2 := pg.addr 8 (f := "explored") rfl rfl
  have a3 := pg.addr 13 (f := "explored_fast") rfl rfl
  have a4 := pg.addr 12 (f := "deadlock_trace") rfl rfl
  have a5 := pg.addr 15 (f := "deadlock_trace_fast") rfl rfl
  have t1 : c.G "_law_limits" = some (.tuple (limitsT.map dN)) := by rw [pg.G]; rfl
  have hN := S.ok.n
  have hs0 := S.ok.s0
  have hb := TS.full_bi S.ok
  have hLN := hb.le
  have hL9 : T.full.L.length ≤ 9 := Nat.le_trans hLN hN
  have hLP := hb.len
  have hrl := reach_len S.ok
  refine ExL_cons ?_
  repeat' contradiction
  refine to8 1 (cell_okI pg (l := l) hl 2 rfl (by omega)) (by decide) ?_
  repeat' contradiction
  · decide
  refine iTm (xs := limitsT) 2 rfl (by decide) (by decide) ?_
  generalize hsm : limitsT.getD ((ns.getD 2 0).fmod 12).toNat 2 = small
  have hs19 : 1 ≤ small ∧ small ≤ 9 := by rw [← hsm]; exact limits_le _
  repeat' contradiction
  refine ExS_for rfl ?_
  repeat' contradiction
  refine forW_inv (f := dN) (fun r pe => (∀ n ∈ r, 1 ≤ n ∧ n ≤ 9) ∧ LE ns m T box pe ∧ LF T box pe ∧ pe "traces" = some ⟨dTs T T.full.L.length, true⟩)
    (fun pe hI => ?_) (fun limit r pe K' hI hn hc hbk hr => ?_) [T.N, small] _ ?_
  · exact tW_next (law_end pg hl S hm hI.2.1)
  · clear p1 p2 p3 p4 p5 p6 p7 p8 f1 f2 f3 f4 ptr
    obtain ⟨hr9, ⟨p1, p2, p3, p4, p5, p6, p7, p8⟩, ⟨f1, f2, f3, f4⟩, ptr⟩ := hI
    have h19 := hr9 limit (.head _)
    have hL1 : (List.map (fun x => dS (box x)) T.full.L).length ≤ lim := limM hL9
    have hL2 : (List.map pairI T.full.P).length ≤ lim := limM (hLP ▸ hL9)
    have hL3 : (List.map dN T.reach).length ≤ lim := limM (hrl ▸ hL9)
    have hL4 : (List.map dN T.full.L).length ≤ lim := limM hL9
    have hmn : min (limit : Int) ((List.map dN T.full.L).length : Int) = ((min limit T.full.L.length : Nat) : Int) := by simp; omega
    repeat' contradiction
    all_goals first | exact hL1 | exact hL2 | exact hL3 | exact hL4 | omega | skip
    rw [hmn, rangeL_nat]
    refine compL_filter (f := dN) (fun i => (T.mv (T.full.L.getD i 0)).isEmpty) (fun i => dS (trOf T.full.P i)) _ (fun i acc K2 hi hacc hK hK' => ?_) (by simp [lim]; omega) ?_
    · have hi : i < min limit T.full.L.length := by simpa using hi
      have hiL : i < T.full.L.length := by omega
      have hxe : T.full.L.getD i 0 = T.full.L[i] := by simp [hiL]
      rw [hxe] at hK hK'
      have hxN := hb.lt _ (List.getElem_mem hiL)
      generalize hx : T.full.L[i] = x at hK hK' hxN
      have hx? : T.full.L[i]? = some x := by rw [List.getElem?_eq_getElem hiL, hx]
      repeat' contradiction
      refine iMp hx? hL9 ?_
      repeat' contradiction
      refine iRg hxN hN ?_
      repeat' contradiction
      refine eqD_mv ?_
      refine iteB (fun h => ?_) (fun h => ?_)
      · repeat' contradiction
        refine iRg hiL hL9 ?_
        exact ⟨hacc, hK h⟩
      · exact hK' h
    have hdead := dead_at S.ok limit
    have hfl : ((List.range (min limit T.full.L.length)).filter fun i => (T.mv (T.full.L.getD i 0)).isEmpty).length ≤ 9 := by
      have := List.length_filter_le (fun i => (T.mv (T.full.L.getD i 0)).isEmpty) (List.range (min limit T.full.L.length))
      rw [List.length_range] at this
      omega
    generalize hst : ((List.range (min limit T.full.L.length)).filter fun i => (T.mv (T.full.L.getD i 0)).isEmpty) = st at hdead hfl
    have hx1 := explored_ok pg S.toSys h19.1
    have hx2 := explored_fast_ok pg S.toSys h19.1
    have hx3 := deadlock_trace_ok pg S.toSys h19.1 h19.2
    have hx4 := deadlock_trace_fast_ok pg S.toSys h19.1
    have hbl : decide (((List.map dN T.reach).length : Int) ≤ (limit : Int)) = decide (T.full.L.length ≤ limit) := by
      rw [List.length_map, hrl]
      exact decide_eq_decide.mpr (by omega)
    have htk : (List.map (fun x => dS (box x)) T.full.L).take (limit : Int).toNat = (T.full.L.take limit).map fun x => dS (box x) := by simp
    have htp : (List.map pairI T.full.P).take (limit : Int).toNat = (T.full.P.take limit).map pairI := by simp
    rw [hbl, htk, htp]
    cases st with
    | nil =>
      rw [hdead] at hx3 hx4
      repeat' contradiction
      · simp [lim]
      refine to8 4 hx1 (by decide) ?_
      repeat' contradiction
      refine cE_ne (okD_held _ _ _ _) ?_
      repeat' contradiction
      refine to8 4 hx2 (by decide) ?_
      repeat' contradiction
      refine cE_ne (okD_held _ _ _ _) ?_
      repeat' contradiction
      refine to8 5 hx3 (by decide) ?_
      repeat' contradiction
      refine cE_ne trivial ?_
      repeat' contradiction
      refine to8 5 hx4 (by decide) ?_
      repeat' contradiction
      refine cE_ne trivial ?_
      repeat' contradiction
      exact hn _ ⟨fun n hn => hr9 n (.tail _ hn), ⟨p1, p2, p3, p4, p5, p6, p7, p8⟩, ⟨f1, f2, f3, f4⟩, ptr⟩
    | cons i r' =>
      rw [hdead] at hx3 hx4
      repeat' contradiction
      · simp [lim]; simp at hfl; omega
      refine to8 4 hx1 (by decide) ?_
      repeat' contradiction
      refine cE_ne (okD_held _ _ _ _) ?_
      repeat' contradiction
      refine to8 4 hx2 (by decide) ?_
      repeat' contradiction
      refine cE_ne (okD_held _ _ _ _) ?_
      repeat' contradiction
      refine to8 5 hx3 (by decide) ?_
      repeat' contradiction
      refine cE_ne (okD_ints 19 _) ?_
      repeat' contradiction
      refine to8 5 hx4 (by decide) ?_
      repeat' contradiction
      refine cE_ne (okD_ints 19 _) ?_
      repeat' contradiction
      exact hn _ ⟨fun n hn => hr9 n (.tail _ hn), ⟨p1, p2, p3, p4, p5, p6, p7, p8⟩, ⟨f1, f2, f3, f4⟩, ptr⟩
  · refine ⟨fun n hn => ?_, ⟨p1, p2, p3, p4, p5, p6, p7, p8⟩, ⟨f1, f2, f3, f4⟩, ptr⟩
    simp only [List.mem_cons, List.not_mem_nil, or_false] at hn
    rcases hn with rfl | rfl <;> omega
end
end

section
set_option linter.unusedVariables false
set_option maxRecDepth 100000
set_option maxHeartbeats 4000000
open PySem PyProof.Rows
noncomputable abbrev dRs (T : TS) (box : Nat → List Int) (n : Nat) : PyData := .list ((List.range n).map fun i => dB box (T.s0 :: T.way i))
noncomputable abbrev dFar (T : TS) : PyData := .list ((List.range T.full.L.length).map fun i => dN (T.dp i))
theorem run_of {T : TS} (ok : T.ok) (box : Nat → List Int) {i : Nat} (hi : i < T.full.L.length) : T.runD box (trOf T.full.P i) = dB box (T.s0 :: T.way i) := by
  unfold TS.runD
  rw [(way_ok ok i hi).1]
theorem dTs_app (T : TS) (n : Nat) : dTs T (n + 1) = .list ((List.range n).map (fun i => dS (trOf T.full.P i)) ++ [dS (trOf T.full.P n)]) := by simp [dTs, List.range_succ]
theorem dRs_app (T : TS) (box : Nat → List Int) (n : Nat) : dRs T box (n + 1) = .list ((List.range n).map (fun i => dB box (T.s0 :: T.way i)) ++ [dB box (T.s0 :: T.way n)]) := by simp [dRs, List.range_succ]
theorem replay_len {T : TS} : ∀ (ks : List Int) (x : Nat) (ds : List Nat), T.replay x ks = some ds → ds.length = ks.length
  | [], x, ds, h => by rw [TS.replay] at h; injection h with h; subst h; rfl
  | k :: ks, x, ds, h => by
    cases hk : hasK (T.mv x) k with
    | false => rw [replay_no hk] at h; cases h
    | true =>
      obtain ⟨_, d, _, hre⟩ := replay_yes (r := ks) hk
      rw [hre] at h
      cases hr : T.replay d ks with
      | none => rw [hr] at h; cases h
      | some es =>
        rw [hr] at h
        simp at h
        subst h
        simp [replay_len ks d es hr]
section
variable {c : Cx} (pg : Pg c) {l : Nat} {m : Md} {T : TS} {box : Nat → List Int}
include pg
/-- the loop over the finds -/
theorem law_tr {ns : List Int} (hl : ns.length ≤ 63) (S : SysR c (l + 3) m T box) {pe : PEnv} (hm : m.ok) (E : LE ns m T box pe) (F : LF T box pe) (pw : pe "want" = some ⟨dPP T.full.P, false⟩) (pf : pe "far" = some ⟨dFar T, false⟩) :
    ExL c (l + 8) (fnM 35) ((fnB 35).drop 20) pe (retW (· = .bool true)) := by
  obtain ⟨p1, p2, p3, p4, p5, p6, p7, p8⟩ := E
  obtain ⟨f1, f2, f3, f4⟩ := F
  have gd := pg.gd
  have a1 := pg.addr 9 (f := "trace_to") rfl rfl
  have a2 := pg.addr 10 (f := "replayed") rfl rfl
  have o1 : OwnName "traces" := .mk
  have o2 : OwnName "runs" := .mk
  have hN := S.ok.n
  have hs0 := S.ok.s0
  have hb := TS.full_bi S.ok
  have hLN := hb.le
  have hL9 : T.full.L.length ≤ 9 := Nat.le_trans hLN hN
  have hLP := hb.len
  have hL4 : (List.map dN T.full.L).length ≤ lim := limM hL9
  refine ExL_cons ?_
  repeat' contradiction
  refine ExS_for rfl ?_
  repeat' contradiction
  · exact hL4
  · simp; omega
  rw [List.length_map]
  refine forW_inv (f := dN) (fun r pe => ∃ n, n + r.length = T.full.L.length ∧ r = List.range' n r.length ∧ LE ns m T box pe ∧ LF T box pe ∧ pe "want" = some ⟨dPP T.full.P, false⟩ ∧ pe "far" = some ⟨dFar T, false⟩ ∧ pe "traces" = some ⟨dTs T n, true⟩ ∧ pe "runs" = some ⟨dRs T box n, true⟩)
    (fun pe hI => ?_) (fun i r pe K' hI hn hc hbk hr => ?_) _ _ ?_
  · obtain ⟨n, k1, k2, E, F, _, _, q3, _⟩ := hI
    have k1 : n = T.full.L.length := by simpa using k1
    subst k1
    exact tW_next (law_lim pg hl S hm E F q3)
  · clear p1 p2 p3 p4 p5 p6 p7 p8 f1 f2 f3 f4 pw pf
    obtain ⟨n, k1, k2, ⟨p1, p2, p3, p4, p5, p6, p7, p8⟩, ⟨f1, f2, f3, f4⟩, pw, pf, q3, q4⟩ := hI
    rw [List.length_cons, List.range'_succ] at k2
    injection k2 with k2 k3
    subst k2
    simp only [List.length_cons] at k1
    have hi : i < T.full.L.length := by omega
    have hi9 : i ≤ 9 := by omega
    have hT1 : ((List.range i).map fun i => dS (trOf T.full.P i)).length ≤ lim := limR hi9
    have hT2 : ((List.range i).map fun i => dB box (T.s0 :: T.way i)).length ≤ lim := limR hi9
    have hdl : (trOf T.full.P i).length ≤ 9 := by have := dp_le S.ok i hi; unfold TS.dp at this; omega
    have htt := trace_to_ok pg (l := l) (TS.full_pi S.ok).pok (i := i) (by omega) (by omega)
    have hrp := replayed_ok pg S (ks := trOf T.full.P i) (by omega)
    rw [run_of S.ok box hi] at hrp
    rcases Nat.eq_zero_or_pos i with h0 | h0
    · subst h0
      have ht0 : trOf T.full.P 0 = [] := by rw [trOf_step (TS.full_pi S.ok).pok (TS.full_pi S.ok).zero.2]; rfl
      have hw0 : T.way 0 = [] := by unfold TS.way; rw [ht0]; rfl
      have hP0 := (TS.full_pi S.ok).zero.2
      have hdp0 := dp_zero S.ok
      rw [ht0] at htt hrp
      rw [hw0] at hrp
      repeat' contradiction
      refine iL (d := .tuple [.int (-1), .int (-1)]) ⟨by omega, by omega⟩ (by simp [hP0, pairI]) ?_
      repeat' contradiction
      refine iRg hs0 hN ?_
      repeat' contradiction
      · exact hT1
      · exact hT2
      · simp [lim]
      refine iL (d := .int 0) ⟨by omega, by omega⟩ (by simp [hi, hdp0]) ?_
      repeat' contradiction
      refine to8 1 htt (by decide) ?_
      repeat' contradiction
      refine cE_ne (okD_ints 19 _) ?_
      repeat' contradiction
      refine to8 4 hrp (by decide) ?_
      repeat' contradiction
      refine cE_ne (okD_box 18 box _) ?_
      repeat' contradiction
      refine hn _ ⟨1, by omega, k3, ⟨p1, p2, p3, p4, p5, p6, p7, p8⟩, ⟨f1, f2, f3, f4⟩, pw, pf, ?_, ?_⟩
      · rw [dTs_app T 0, ht0]; rfl
      · rw [dRs_app T box 0, hw0]; rfl
    · obtain ⟨p, k, x, y, eP, hp, hx, hy, he, hd, ht⟩ := par S.ok h0 hi
      obtain ⟨y', hy', hw⟩ := (way_ok S.ok i hi).2.2 p k eP
      rw [hy] at hy'
      injection hy' with hy'
      subst hy'
      have hyN := hb.lt y (List.mem_of_getElem? hy)
      have htp : (trOf T.full.P p).length ≤ 9 := by have := dp_le S.ok p (by omega); unfold TS.dp at this; omega
      have hwp : (T.way p).length ≤ 9 := by rw [replay_len _ _ _ (way_ok S.ok p (by omega)).1]; exact htp
      have htd : List.map dI (trOf T.full.P p) ++ [dN k] = List.map dI (trOf T.full.P i) := by rw [ht]; simp
      have hrd : List.map (fun x => dS (box x)) (T.s0 :: T.way p) ++ [dS (box y)] = List.map (fun x => dS (box x)) (T.s0 :: T.way i) := by rw [hw]; simp
      have hlen : (!decide (((List.map dI (trOf T.full.P i)).length : Int) = (T.dp i : Int))) = false := by simp [TS.dp]
      have hp0 : decide ((0 : Int) ≤ (p : Int)) = true := decide_eq_true (by omega)
      repeat' contradiction
      refine iL (d := .tuple [dN p, dN k]) ⟨by omega, by omega⟩ (by simp [eP, pairI]) ?_
      repeat' contradiction
      refine iRg hs0 hN ?_
      repeat' contradiction
      refine iRg hp hi9 ?_
      repeat' contradiction
      · simp [lim]; omega
      rw [htd]
      refine iRg hp hi9 ?_
      repeat' contradiction
      refine iMp hy hL9 ?_
      repeat' contradiction
      refine iRg hyN hN ?_
      repeat' contradiction
      · simp [lim]; omega
      · exact hT1
      · exact hT2
      · simp [lim]; omega
      rw [hrd]
      refine iRg hi hL9 ?_
      repeat' contradiction
      refine to8 1 htt (by decide) ?_
      repeat' contradiction
      refine cE_ne (okD_ints 19 _) ?_
      repeat' contradiction
      refine to8 4 hrp (by decide) ?_
      repeat' contradiction
      refine cE_ne (okD_box 18 box _) ?_
      repeat' contradiction
      refine hn _ ⟨i + 1, by omega, k3, ⟨p1, p2, p3, p4, p5, p6, p7, p8⟩, ⟨f1, f2, f3, f4⟩, pw, pf, ?_, ?_⟩
      · rw [dTs_app T i]; rfl
      · rw [dRs_app T box i]; rfl
  · exact ⟨0, by simp, by simp [List.range_eq_range'], ⟨p1, p2, p3, p4, p5, p6, p7, p8⟩, ⟨f1, f2, f3, f4⟩, pw, pf, rfl, rfl⟩
end
end

section
set_option linter.unusedVariables false
set_option maxRecDepth 100000
set_option maxHeartbeats 4000000
open PySem PyProof.Rows
section
variable {c : Cx} (pg : Pg c) {l : Nat} {m : Md} {T : TS} {box : Nat → List Int}
include pg
/-- the first parents, anew -/
theorem law_first {ns : List Int} (hl : ns.length ≤ 63) (S : SysR c (l + 3) m T box) {pe : PEnv} (hm : m.ok) (E : LE ns m T box pe) (F : LF T box pe) (pd : pe "dist" = some ⟨.list (T.dists.map dI), false⟩) :
    ExL c (l + 8) (fnM 35) ((fnB 35).drop 15) pe (retW (· = .bool true)) := by
  obtain ⟨p1, p2, p3, p4, p5, p6, p7, p8⟩ := E
  obtain ⟨f1, f2, f3, f4⟩ := F
  have gd := pg.gd
  have hN := S.ok.n
  have hs0 := S.ok.s0
  have hb := TS.full_bi S.ok
  have hLN := hb.le
  have hL9 : T.full.L.length ≤ 9 := Nat.le_trans hLN hN
  have hLP := hb.len
  have hL4 : (List.map dN T.full.L).length ≤ lim := limM hL9
  refine ExL_cons ?_
  repeat' contradiction
  refine EvF.toS (EvF_dictI gd rfl rfl (by simp) (by decide) (EvP_cons ?_))
  repeat' contradiction
  refine ⟨⟨[((T.s0 : Int), .tuple [.int (-1), .int (-1)])], rfl, by simp⟩, ?_⟩
  repeat' contradiction
  refine ExS_for rfl ?_
  repeat' contradiction
  · exact hL4
  · simp; omega
  rw [List.length_map]
  refine forW_inv (f := dN) (fun r pe => ∃ p n s, p + r.length = T.full.L.length ∧ r = List.range' p r.length ∧ T.bfs n p s = T.full ∧ p + n = T.N + 1 ∧ BI T s ∧ LE ns m T box pe ∧ LF T box pe ∧ pe "dist" = some ⟨.list (T.dists.map dI), false⟩ ∧ pe "first" = some ⟨dF s, false⟩)
    (fun pe hI => ?_) (fun p r pe K' hI hn hc hbk hr => ?_) _ _ ?_
  · clear p1 p2 p3 p4 p5 p6 p7 p8 f1 f2 f3 f4 pd
    obtain ⟨p, n, s, k1, k2, k3, k4, bi, ⟨p1, p2, p3, p4, p5, p6, p7, p8⟩, ⟨f1, f2, f3, f4⟩, pd, q1⟩ := hI
    have k1 : p = T.full.L.length := by simpa using k1
    have hs := bfs_stop k3 k1.symm
    subst hs
    repeat' contradiction
    refine compL_map (f := dN) (fun x => pairI (firstOf T.full x)) _ (fun x acc K2 hx hacc hK => ?_) (by simp [lim]; omega) ?_
    · repeat' contradiction
      refine item_F hLP hx ?_
      exact ⟨hacc, hK⟩
    have hwant : T.full.L.map (fun x => pairI (firstOf T.full x)) = T.full.P.map pairI := by
      have := congrArg (List.map pairI) (first_map hb.nd hLP)
      rw [List.map_map] at this
      exact this
    rw [hwant]
    repeat' contradiction
    refine compL_map (f := dN) (fun x => dI (T.dists.getD x 0)) _ (fun x acc K2 hx hacc hK => ?_) (by simp [lim]; omega) ?_
    · have hxN := hb.lt x hx
      have hdl := dists_len S.ok
      repeat' contradiction
      refine iDs hxN hdl hN ?_
      exact ⟨hacc, hK⟩
    rw [far_eq S.ok]
    repeat' contradiction
    refine cE_ne (okD_pairs 18 _) ?_
    repeat' contradiction
    refine EvS_sortP gd rfl rfl ?_
    repeat' contradiction
    refine ⟨T.full.P, rfl, by omega, full_sorted S.ok, ?_⟩
    refine cE_ne (okD_pairs 18 _) ?_
    repeat' contradiction
    refine EvS_sortI gd rfl rfl ?_
    repeat' contradiction
    refine ⟨(List.range T.full.L.length).map fun i => (T.dp i : Int), by rw [List.map_map]; rfl, by simp; omega, fun ns' h1 h2 => ?_⟩
    have hsame := sorted_same_ints h1 h2 (far_sorted S.ok)
    subst hsame
    rw [List.map_map]
    refine cE_ne (okD_all (fun a => okD_int _ _) _) ?_
    refine iteF rfl ?_
    refine EvT_or_nil ?_
    refine iteF rfl (ExL_nil (tW_next ?_))
    exact law_tr pg hl S hm ⟨p1, p2, p3, p4, p5, p6, p7, p8⟩ ⟨f1, f2, f3, f4⟩ rfl rfl
  · clear p1 p2 p3 p4 p5 p6 p7 p8 f1 f2 f3 f4 pd
    obtain ⟨p', n, s, k1, k2, k3, k4, bi, ⟨p1, p2, p3, p4, p5, p6, p7, p8⟩, ⟨f1, f2, f3, f4⟩, pd, q1⟩ := hI
    rw [List.length_cons, List.range'_succ] at k2
    injection k2 with k2 k2'
    subst k2
    simp only [List.length_cons] at k1
    obtain ⟨x, n', x1, x2, x3, x4, x5, x6⟩ := bfs_step S.ok bi k3 k4 (by omega)
    repeat' contradiction
    refine ExS_for rfl ?_
    repeat' contradiction
    refine iMp x2 hL9 ?_
    repeat' contradiction
    refine iRg x6 hN ?_
    repeat' contradiction
    refine itD ?_
    rw [List.map_map]
    refine forW_inv (f := fun q => dN q.1) (fun r' pe => ∃ s' : LP, visit p r' s' = visit p (T.mv x) s ∧ (∀ q ∈ r', q ∈ T.mv x) ∧ BI T s' ∧ LE ns m T box pe ∧ LF T box pe ∧ pe "dist" = some ⟨.list (T.dists.map dI), false⟩ ∧ pe "p" = some ⟨dN p, false⟩ ∧ pe "first" = some ⟨dF s', false⟩)
      (fun pe hI => ?_) (fun q r' pe K2 hI hn2 hc2 hbk2 hr2 => ?_) (T.mv x) _ ?_
    · obtain ⟨s', e1, e2, e3, E, F, g1, g2, g3⟩ := hI
      have e1 : s' = visit p (T.mv x) s := e1
      subst e1
      repeat' contradiction
      exact hn _ ⟨p + 1, n', visit p (T.mv x) s, by omega, k2', x3, x4, x5, E, F, g1, g3⟩
    · clear p1 p2 p3 p4 p5 p6 p7 p8 f1 f2 f3 f4 pd q1
      obtain ⟨s', e1, e2, e3, ⟨p1, p2, p3, p4, p5, p6, p7, p8⟩, ⟨f1, f2, f3, f4⟩, pd, g2, q1⟩ := hI
      have hq := e2 q (.head _)
      have hlk := look_of_mem (S.ok.asc x x6) hq
      have hqN := S.ok.tgt x x6 q hq
      have hs'l := e3.len
      have hs'9 := e3.le
      rw [visit_cons] at e1
      repeat' contradiction
      refine iMp x2 hL9 ?_
      repeat' contradiction
      refine iRg x6 hN ?_
      repeat' contradiction
      refine item_mv hlk ?_
      repeat' contradiction
      refine notin_F hs'l ?_
      refine iteN (fun hin => ?_) (fun hin => ?_)
      · rw [add_new hin] at e1
        have e3' := e3.add (p := p) hqN
        rw [add_new hin] at e3'
        repeat' contradiction
        refine ⟨(s'.L.zip s'.P).map fun z => ((z.1 : Int), pairI z.2), by simp, by simp [lim]; omega, ?_⟩
        repeat' contradiction
        refine iMp x2 hL9 ?_
        repeat' contradiction
        refine iRg x6 hN ?_
        repeat' contradiction
        refine item_mv hlk ?_
        repeat' contradiction
        · simp [lim]; omega
        refine ⟨((s'.L ++ [q.2]).zip (s'.P ++ [((p : Int), (q.1 : Int))])).map fun z => ((z.1 : Int), pairI z.2), ?_, ?_, by simp [lim]; omega, ?_⟩
        · rw [zip_app hs'l, List.map_append, List.map_append]; rfl
        · rw [List.map_map]
          have hnd := e3'.nd
          have hkeys := zip_keys (L := s'.L ++ [q.2]) (P := s'.P ++ [((p : Int), (q.1 : Int))]) (by simp [hs'l])
          have : List.map ((fun x => x.1) ∘ fun z : Nat × Int × Int => ((z.1 : Int), pairI z.2)) ((s'.L ++ [q.2]).zip (s'.P ++ [((p : Int), (q.1 : Int))])) = (s'.L ++ [q.2]).map fun x : Nat => (x : Int) := by
            rw [← hkeys, List.map_map]
            rw [hkeys]; rfl
          rw [this]
          exact List.Pairwise.map _ (fun a b hab => by omega) hnd
        repeat' contradiction
        refine hn2 _ ⟨⟨s'.L ++ [q.2], s'.P ++ [((p : Int), (q.1 : Int))]⟩, e1, fun z hz => e2 z (.tail _ hz), e3', ⟨p1, p2, p3, p4, p5, p6, p7, p8⟩, ⟨f1, f2, f3, f4⟩, pd, g2, ?_⟩
        show some (⟨.dict _, false⟩ : Slot) = some ⟨.dict _, false⟩
        rw [List.map_map]; rfl
      · rw [add_in hin] at e1
        repeat' contradiction
        exact hn2 _ ⟨s', e1, fun z hz => e2 z (.tail _ hz), e3, ⟨p1, p2, p3, p4, p5, p6, p7, p8⟩, ⟨f1, f2, f3, f4⟩, pd, g2, q1⟩
    · exact ⟨s, rfl, fun _ h => h, bi, ⟨p1, p2, p3, p4, p5, p6, p7, p8⟩, ⟨f1, f2, f3, f4⟩, pd, rfl, q1⟩
  · refine ⟨0, T.N + 1, T.start, by simp, by simp [List.range_eq_range'], rfl, by omega, S.ok.start, ⟨p1, p2, p3, p4, p5, p6, p7, p8⟩, ⟨f1, f2, f3, f4⟩, pd, rfl⟩
end
end

section
set_option linter.unusedVariables false
set_option maxRecDepth 100000
set_option maxHeartbeats 4000000
open PySem PyProof.Rows
section
variable {c : Cx} (pg : Pg c) {l : Nat} {m : Md} {T : TS} {box : Nat → List Int}
include pg
/-- from the distances on -/
theorem law_top {ns : List Int} (hl : ns.length ≤ 63) (S : SysR c (l + 3) m T box) {pe : PEnv} (hm : m.ok) (E : LE ns m T box pe) (pd : pe "dist" = some ⟨.list (T.dists.map dI), false⟩) :
    ExL c (l + 8) (fnM 35) ((fnB 35).drop 10) pe (retW (· = .bool true)) := by
  obtain ⟨p1, p2, p3, p4, p5, p6, p7, p8⟩ := E
  have gd := pg.gd
  have a1 := pg.addr 7 (f := "box_size") rfl rfl
  have a2 := pg.addr 8 (f := "explored") rfl rfl
  have a3 := pg.addr 11 (f := "saturated") rfl rfl
  have a4 := pg.addr 14 (f := "saturated_fast") rfl rfl
  have hN := S.ok.n
  have hs0 := S.ok.s0
  have hb := TS.full_bi S.ok
  have hLN := hb.le
  have hL9 : T.full.L.length ≤ 9 := Nat.le_trans hLN hN
  have hLP := hb.len
  have hrl := reach_len S.ok
  have hdl := dists_len S.ok
  refine ExL_cons ?_
  repeat' contradiction
  · omega
  refine compL_filter (f := dN) (fun x => decide (x ∈ T.full.L)) dN _ (fun x acc K2 hx hacc hK hK' => ?_) (by simp [lim]; omega) ?_
  · have hx : x < T.N := by simpa using hx
    have hlt := dists_lt S.ok hx
    repeat' contradiction
    refine iDs hx hdl hN ?_
    repeat' contradiction
    · rename_i h
      exact ⟨hacc, hK (decide_eq_true (hlt.mp h))⟩
    · rename_i h
      exact hK' (decide_eq_false fun q => h (hlt.mpr q))
  have hre : ((List.range T.N).filter fun x => decide (x ∈ T.full.L)).map dN = T.reach.map dN := rfl
  rw [hre]
  repeat' contradiction
  refine to8 3 S.bs (by decide) ?_
  repeat' contradiction
  refine to8 4 (saturated_ok pg S.toSys) (by decide) ?_
  repeat' contradiction
  refine cE_ne (okD_nats 19 _) ?_
  repeat' contradiction
  refine to8 4 (saturated_fast_ok pg S.toSys) (by decide) ?_
  repeat' contradiction
  refine cE_ne (okD_nats 19 _) ?_
  repeat' contradiction
  have hex := explored_ok pg S.toSys (limit := T.N) (by omega)
  rw [List.take_of_length_le hLN, List.take_of_length_le (by omega), decide_eq_true hLN] at hex
  refine to8 4 hex (by decide) ?_
  repeat' contradiction
  refine compL_map (f := fun x => dS (box x)) dN _ (fun x acc K2 hx hacc hK => ?_) (by simp [lim]; omega) ?_
  · have hxN := hb.lt x hx
    repeat' contradiction
    refine lsW ?_
    repeat' contradiction
    refine index_box S.inj hN hxN ?_
    exact ⟨hacc, hK⟩
  have hlr : (!decide ((((List.map (fun x => dS (box x)) T.full.L).length : Nat) : Int) = (((List.map dN T.reach).length : Nat) : Int))) = false := by simp [hrl]
  repeat' contradiction
  · simp [lim]; omega
  · simp [lim]; omega
  refine EvS_sortI gd rfl rfl ?_
  repeat' contradiction
  refine ⟨T.full.L.map fun x : Nat => (x : Int), by simp, by simp; omega, fun ns' h1 h2 => ?_⟩
  have hsame : ns' = T.reach.map fun x : Nat => (x : Int) := sorted_nat (P := T.full.P) hb h1 h2
  subst hsame
  rw [List.map_map]
  repeat' contradiction
  refine cE_ne (okD_all (fun a => okD_int _ _) _) ?_
  refine iteF rfl ?_
  refine EvT_or_nil ?_
  refine iteF rfl (ExL_nil (tW_next ?_))
  exact law_first pg hl S hm ⟨p1, p2, p3, p4, p5, p6, p7, p8⟩ ⟨rfl, rfl, rfl, rfl⟩ pd
end
end

section
set_option linter.unusedVariables false
set_option maxRecDepth 100000
set_option maxHeartbeats 4000000
open PySem PyProof.Rows
noncomputable def rcT : List Nat := [0, 1, 2, 3, 2, 3, 3]
noncomputable abbrev dSh (q : Nat × Nat) : PyData := .tuple [dN q.1, dN q.2]
theorem compL_flat2 {α : Type} {f : α → PyData} {step : PyData → List PyData → (List PyData → Prop) → Prop} {K : List PyData → Prop} (g : α → List PyData) : ∀ (xs : List α) (acc : List PyData),
    (∀ a acc K', a ∈ xs → acc.length + (g a).length ≤ lim → K' (acc ++ g a) → step (f a) acc K') → acc.length + (xs.flatMap g).length ≤ lim → K (acc ++ xs.flatMap g) → compL step (xs.map f) acc K
  | [], acc, hs, hl, h => by simpa [compL] using h
  | a :: r, acc, hs, hl, h => by
    rw [List.flatMap_cons, List.length_append] at hl
    rw [List.flatMap_cons, ← List.append_assoc] at h
    exact hs a acc _ (.head _) (by omega) (compL_flat2 g r (acc ++ g a) (fun b acc K' hb => hs b acc K' (.tail _ hb)) (by rw [List.length_append]; omega) h)
theorem dS_app (st : List Int) (v : Int) : dS (st ++ [v]) = .list (st.map dI ++ [.int v]) := by simp [dS]
theorem boxL_mem (b : Nat) : ∀ (t : Nat) (st : List Int), st ∈ boxL b t → st.length = t
  | 0, st, h => by simp [boxL] at h; subst h; rfl
  | t + 1, st, h => by
    simp only [boxL, List.mem_flatMap, List.mem_map, List.mem_range] at h
    obtain ⟨u, hu, v, _, rfl⟩ := h
    have := boxL_mem b t u hu
    simp; omega
theorem sum_const (b : Nat) : ∀ (l : List (List Int)), (l.flatMap fun st => (List.range b).map fun v : Nat => st ++ [(v : Int)]).length = l.length * b
  | [] => by simp
  | x :: l => by rw [List.flatMap_cons, List.length_append, sum_const b l]; simp [Nat.add_mul]; omega
theorem boxL_len (b : Nat) : ∀ t, (boxL b t).length = b ^ t
  | 0 => rfl
  | t + 1 => by rw [boxL, sum_const, boxL_len b t, Nat.pow_succ]
section
variable {c : Cx} (pg : Pg c) {l : Nat}
include pg
theorem law_ok {ns : List Int} (hl : ns.length ≤ 63) : CallOK c (l+9) "law" [.list (ns.map dI)] (· = .bool true) := by
  have gd := pg.gd
  have a1 := pg.addr 25 (f := "_law_cell") rfl rfl
  have a2 := pg.addr 31 (f := "_law_rule") rfl rfl
  have a3 := pg.addr 32 (f := "_law_model") rfl rfl
  have a4 := pg.addr 33 (f := "_law_moves") rfl rfl
  have a5 := pg.addr 34 (f := "_law_distances") rfl rfl
  have t1 : c.G "_law_shapes" = some (.tuple (shapes.map dSh)) := by rw [pg.G]; rfl
  have t2 : c.G "_law_rule_counts" = some (.tuple (rcT.map dN)) := by rw [pg.G]; rfl
  refine pg.ok 35 (xs := ["script"]) rfl rfl (by decide +kernel) (by decide +kernel) (fun pm cd doc vs h => ?_) rfl ?_
  · match vs, h with
    | [a], _ => rfl
  · refine ExL_cons ?_
    repeat' contradiction
    refine to8 1 (cell_okI pg (l := l) hl 0 rfl (by omega)) (by decide) ?_
    repeat' contradiction
    · decide
    refine iTm (xs := shapes) (1, 1) rfl (by decide) (by decide) ?_
    have hsh : ∃ b n, shapes.getD ((ns.getD 0 0).fmod 9).toNat (1, 1) = (b, n) ∧ BF b n := by
      refine ⟨_, _, rfl, BF.of ?_⟩
      have : ∀ i, boxFine (shapes.getD i (1, 1)).1 (shapes.getD i (1, 1)).2 = true := fun i => by
        rcases Nat.lt_or_ge i 9 with h | h
        · have : ∀ i < 9, boxFine (shapes.getD i (1, 1)).1 (shapes.getD i (1, 1)).2 = true := by decide +kernel
          exact this i h
        · rw [List.getD_eq_getElem?_getD, List.getElem?_eq_none (by exact h)]; decide +kernel
      exact this _
    obtain ⟨b, n, esh, hbf⟩ := hsh
    rw [esh]
    repeat' contradiction
    have hv3 := hbf.v3
    have hb3 := hbf.b3
    have h9 := hbf.n9
    refine ExS_for rfl ?_
    repeat' contradiction
    · omega
    have hblen : ∀ t, t ≤ 3 → (boxL b t).length ≤ 27 := fun t ht => by
      rw [boxL_len]
      exact Nat.le_trans (Nat.pow_le_pow_left hb3 t) (Nat.le_trans (Nat.pow_le_pow_right (by omega) ht) (by decide))
    refine forW_inv (f := dN) (fun r pe => ∃ t, t + r.length = n ∧ pe "box" = some ⟨.list ((boxL b t).map dS), false⟩ ∧ pe "script" = some ⟨.list (ns.map dI), false⟩ ∧ pe "base" = some ⟨dN b, false⟩ ∧ pe "nvars" = some ⟨dN n, false⟩)
      (fun pe hI => ?_) (fun w r pe K' hI hn' hc hb hr => ?_) _ _ ?_
    · obtain ⟨t, k1, p1, p2, p3, p4⟩ := hI
      obtain rfl : t = n := by simpa using k1
      have hbl := hbf.len
      have h1 := hbf.n1
      have hbx : (boxL b t).map dS = (List.range (b ^ t)).map fun x => dS (boxAt b t x) := by
        refine List.ext_getElem (by simp [hbl]) fun i h1 h2 => ?_
        simp only [List.length_map] at h1
        simp [boxAt, h1]
      rw [hbx] at p1
      have hNl : ((List.range (b ^ t)).map fun x => dS (boxAt b t x)).length = b ^ t := by simp
      repeat' contradiction
      · simp [lim]; omega
      rw [hNl]
      refine to8 1 (cell_okI pg (l := l) hl 1 rfl (by omega)) (by decide) ?_
      repeat' contradiction
      · omega
      obtain ⟨s0, es0, ls0, zs0⟩ := fmod_nat (ns.getD 1 0) (b ^ t) (by omega)
      rw [es0]
      refine to8 1 (cell_okI pg (l := l) hl 1 rfl (by omega)) (by decide) ?_
      repeat' contradiction
      · decide
      refine iTm (xs := rcT) 0 rfl (by decide) (by decide) ?_
      generalize hrc : rcT.getD ((ns.getD 1 0).fmod 7).toNat 0 = rc
      have hrc3 : rc ≤ 3 := by
        rw [← hrc]
        have : ∀ i, rcT.getD i 0 ≤ 3 := fun i => by
          rcases Nat.lt_or_ge i 7 with h | h
          · have : ∀ i < 7, rcT.getD i 0 ≤ 3 := by decide +kernel
            exact this i h
          · rw [List.getD_eq_getElem?_getD, List.getElem?_eq_none (by exact h)]; decide
        exact this _
      repeat' contradiction
      · omega
      refine compL_map (f := dN) (fun r => dRL (ruleOf ns (3 + 6 * r) t)) _ (fun r acc K2 hr' hacc hK => ?_) (by simp [lim]; omega) ?_
      · have hr' : r < rc := by simpa using hr'
        repeat' contradiction
        · simp
        refine ((rule_ok pg (l := l) hl (at' := 3 + 6 * r) (by omega) hbf.v1 hv3).mono (by omega : l + 2 ≤ l + 8) fun _ q => q).to (Nat.le_refl _) ?_
        repeat' contradiction
        exact ⟨hacc, hK⟩
      generalize hrs : (List.range rc).map (fun r => ruleOf ns (3 + 6 * r) t) = rs
      have hrl : rs.length ≤ 3 := by rw [← hrs]; simpa using hrc3
      have hru : ∀ r ∈ rs, Rule.ok t r := fun r hr => by
        rw [← hrs] at hr
        obtain ⟨j, _, rfl⟩ := List.mem_map.mp hr
        exact rule_okN ns _ hbf.v1
      have hrd : (List.range rc).map (fun r => dRL (ruleOf ns (3 + 6 * r) t)) = rs.map dRL := by rw [← hrs, List.map_map]; rfl
      rw [hrd]
      repeat' contradiction
      refine iRg ls0 h9 ?_
      repeat' contradiction
      have hm := md_ok hbf ls0 hrl hru
      have hok := ts_ok pg hbf ls0 hrl hru
      have hsys := sys_r pg (l := l) hbf ls0 hrl hru
      have hbox := box_ok pg hbf ls0 hrl hru
      generalize hT : tsOf b t s0 rs = T at hok hsys
      have hTN : T.N = b ^ t := by rw [← hT]; rfl
      have hTs : T.s0 = s0 := by rw [← hT]; rfl
      have hTm : T.mv = mvOf (mdOf b t s0 rs) (boxAt b t) (nxOf (mdOf b t s0 rs) t) := by rw [← hT]; rfl
      refine (to8 2 (model_ok pg (l := l) hm) (by decide) ?_)
      repeat' contradiction
      refine (to8 3 (moves_ok pg (l := l) hm hbox) (by decide) ?_)
      repeat' contradiction
      have hd := distances_ok pg (l := l) hok
      rw [hTN, hTs, hTm] at hd
      subst hT
      refine (to8 1 hd (by decide) ?_)
      refine tW_next ?_
      exact law_top pg hl hsys hm ⟨p2, p3, p1, rfl, rfl, rfl, rfl, rfl⟩ rfl
    · obtain ⟨t, k1, p1, p2, p3, p4⟩ := hI
      simp only [List.length_cons] at k1
      clear hc hb hr
      repeat' contradiction
      refine compL_flat2 (f := dS) (fun st => (List.range b).map fun v : Nat => dS (st ++ [(v : Int)])) _ _ (fun st acc K'' hst hacc hK => ?_) ?_ ?_
      · repeat' contradiction
        · omega
        refine compL_flat (f := dN) (fun v => [dS (st ++ [(v : Int)])]) _ _ (fun v acc2 K3 hv hacc2 hK3 => ?_) ?_ ?_
        · repeat' contradiction
          · have := boxL_mem b t st hst
            simp [lim]; omega
          · exact ⟨hacc2, by rw [dS_app] at hK3; exact hK3⟩
        · rw [← List.map_eq_flatMap]; exact hacc
        · rw [← List.map_eq_flatMap]; exact hK
      · have e : (List.flatMap (fun st => List.map (fun v : Nat => dS (st ++ [(v : Int)])) (List.range b)) (boxL b t)) = (boxL b (t + 1)).map dS := by
          rw [boxL, List.map_flatMap]
          congr 1
          funext st
          rw [List.map_map]; rfl
        rw [e, List.length_map]
        have := hblen (t + 1) (by omega)
        simp [lim]; omega
      · have e : (List.flatMap (fun st => List.map (fun v : Nat => dS (st ++ [(v : Int)])) (List.range b)) (boxL b t)) = (boxL b (t + 1)).map dS := by
          rw [boxL, List.map_flatMap]
          congr 1
          funext st
          rw [List.map_map]; rfl
        rw [List.nil_append, e]
        repeat' contradiction
        exact hn' _ ⟨t + 1, by omega, rfl, p2, p3, p4⟩
    · exact ⟨0, by simp, rfl, rfl, rfl, rfl⟩
end
end

section
set_option linter.unusedVariables false
set_option maxRecDepth 100000
set_option maxHeartbeats 8000000
open PySem PySem.W PyProof.Rows
theorem repAll_zip {p : Program} {w : World} {h : Heap} {X : Addr → Prop} : ∀ {vs : List Value} {ds : List PyData}, vs.length = ds.length → (∀ q ∈ vs.zip ds, Rep p w h X q.1 q.2) → RepAll p w h X vs ds
  | [], [], _, _ => .nil
  | [], _ :: _, e, _ => by simp at e
  | _ :: _, [], e, _ => by simp at e
  | v :: vs, d :: ds, e, k => .cons (k (v, d) (.head _)) (repAll_zip (by simpa using e) fun q hq => k q (.tail _ hq))
theorem tupS_sound {p : Program} {w : World} {h : Heap} {r : Value → PyData → Bool} (hr : ∀ v d, r v d = true → Rep p w h (fun _ => False) v d) {a : Addr} {o : Obj} (ho : h.get? a = some o) {xs : List PyData} (e : tupS r o xs = true) : Rep p w h (fun _ => False) (.ref a) (.tuple xs) := by
  obtain ⟨oc, od, odt, osl⟩ := o
  unfold tupS at e
  split at e
  · rename_i vs m hd
    simp only [Bool.and_eq_true, decide_eq_true_eq, List.all_eq_true, Option.isNone_iff_eq_none] at e
    obtain ⟨⟨⟨⟨h1, h0⟩, h2⟩, h3⟩, h4⟩ := e
    simp only at hd h0 h1 h2
    split at h1
    · have h1 := of_decide_eq_true h1
      have hsl : osl = #[] := Array.eq_empty_of_size_eq_zero h2
      subst hsl
      subst h1
      subst h0
      subst hd
      exact .tuple (fun q => q) ho (repAll_zip h3 fun q hq => hr _ _ (h4 q hq))
    · cases h1
  · cases e
theorem repH_sound {p : Program} {w : World} {h : Heap} : ∀ (n : Nat) (v : Value) (d : PyData), repH h n v d = true → Rep p w h (fun _ => False) v d
  | 0, v, d, e => by cases e
  | n + 1, v, d, e => by
    have e : repS h (repH h n) v d = true := e
    cases d with
    | bool b => cases v with
      | bool a => rw [show a = b from beq_iff_eq.mp e]; exact .bool _
      | _ => cases e
    | int b => cases v with
      | int a t => rw [show a = b from of_decide_eq_true e]; exact .int _ _
      | _ => cases e
    | str b => cases v with
      | str a t => rw [show a = b from of_decide_eq_true e]; exact .str _ _
      | _ => cases e
    | tuple xs => cases v with
      | ref a =>
        have e : (h.get? a).any (fun o => tupS (repH h n) o xs) = true := e
        cases ho : h.get? a with
        | none => rw [ho] at e; cases e
        | some o =>
          rw [ho] at e
          exact tupS_sound (repH_sound n) ho e
      | _ => cases e
    | _ => cases e
theorem tabG_mem {x : Str} {d : PyData} (h : tabG x = some d) : (x, d) ∈ tabsL := by
  unfold tabG at h
  obtain ⟨st, hst, he⟩ := List.exists_of_findSome?_eq_some h
  refine List.mem_filterMap.mpr ⟨st, hst, ?_⟩
  obtain ⟨q, hq, he⟩ := Option.bind_eq_some_iff.mp he
  rw [hq]
  by_cases hx : q.1 = x
  · rw [if_pos hx] at he
    injection he with he
    rw [← hx, ← he]
  · rw [if_neg hx] at he; cases he
noncomputable def saysT (w : World) (h : Heap) : Prop := ∃ mg, h.Ns mainGlobals mg ∧ (∀ x d, tabG x = some d → ∃ v, mg x = some v ∧ Rep PySem.Challenge.rw_wl_sentry_3u.row.prog w h (fun _ => False) v d) ∧ ∀ x ∈ bltNames, mg x = none
theorem saysT_of (w : World) (s : Shared) (e : obsT s = true) : saysT w s.heap := by
  simp only [obsT, Bool.and_eq_true, List.all_eq_true, Option.any_eq_true, Option.isNone_iff_eq_none] at e
  obtain ⟨⟨h1, h2⟩, h3⟩ := e
  refine ⟨_, .of_isNs h1, fun x d hx => ?_, h3⟩
  obtain ⟨v, hv, hr⟩ := h2 _ (tabG_mem hx)
  exact ⟨v, hv, repH_sound 12 v d hr⟩
theorem saysT_keeps (w : World) (h h' : Heap) (y : saysT w h) (k : ∀ b o, h.get? b = some o → h'.get? b = some o) : saysT w h' := by
  obtain ⟨mg, g, t, b⟩ := y
  refine ⟨mg, g.keeps k, fun x d hx => ?_, b⟩
  obtain ⟨v, hv, hr⟩ := t x d hx
  exact ⟨v, hv, hr.mono fun b o _ e => ⟨fun q => q, k b o e⟩⟩
theorem recL_mem {n : Nat} {s : Scope} (h : fnS n = some s) : ⟨fnT n, fnP n, fnB n, s, fnPos n⟩ ∈ recL := by
  refine List.mem_filterMap.mpr ⟨n, List.mem_range.mpr ?_, by rw [h]; rfl⟩
  rcases Nat.lt_or_ge n 36 with q | q
  · exact q
  · have : prg.main.body[n]? = none := List.getElem?_eq_none q
    unfold fnS at h
    rw [this] at h
    cases h
theorem wellAll_rep {P : Params} {p : Program} {w : World} {h : Heap} {X : Addr → Prop} : ∀ {ns : List Int} {vs : List Value}, WellAll P h vs (ofPys (ns.map PyData.int)) → RepAll p w h X vs (ns.map .int)
  | [], vs, r => by
    simp only [List.map_nil, ofPys] at r
    cases r
    exact .nil
  | n :: ns, vs, r => by
    simp only [List.map_cons, ofPys, ofPy] at r
    cases r with | cons a r =>
    cases a
    exact .cons (.int _ _) (wellAll_rep r)
theorem well_rep {P : Params} {p : Program} {w : World} {h : Heap} {ns : List Int} {v : Value} (r : Well P h v (ofPy (PyData.list (ns.map PyData.int)))) : Rep p w h (fun _ => False) v (.list (ns.map dI)) := by
  simp only [ofPy] at r
  cases r with | list ho r =>
  exact .list (fun q => q) ho (by simpa using wellAll_rep r)
theorem pg_of {p : Program} {loose : List Str} {mean : ExcName → Option Value} {w : World} {mg mb : Str → Option Value} {h : Heap} (T : Top p loose mean mg mb h) (Y : saysT w h) (hrec : recsOf p = recL) :
    Pg ⟨PySem.Challenge.rw_wl_sentry_3u.row.prog, w, h, mg, mb, tabG⟩ := by
  obtain ⟨mg', g, t, b⟩ := Y
  have e : mg' = mg := Ns.uniq g T.g
  subst e
  exact ⟨⟨T.g, T.b, T.nolimit, fun x hx => ⟨b x hx, T.builtins x fun e => by subst e; revert hx; decide⟩, t⟩, fun n s h => T.fn ⟨fnT n, fnP n, fnB n, s, fnPos n⟩ (hrec ▸ recL_mem h), rfl⟩
theorem room9 : Room (0 + 9) callerA := ⟨rfl, by decide, by decide⟩
end

section
set_option linter.unusedVariables false
open PySem PySem.W PyProof.Rows Mine
set_option maxRecDepth 100000
set_option maxHeartbeats 8000000
theorem walk0 : WalkO vw [] (XL vw []) saysT PySem.Challenge.rw_wl_sentry_3u.row.toRowW lawRec [] fun f vs => PySem.call f vs := by
    intro w s₀ s₁ mg mb G Y fa o pm cd doc dV kV ho hd hcd hD hmg hg args vals as hpre hlay hrd hwl hlo
    clear hd hcd hD
    rw [law_name] at hmg
    refine Ground.open G ?_
    intro T B D TE TW
    have pg := pg_of T Y recs0
    clear T B D TE TW G Y
    wrow_args hpre hlay hrd hwl hlo
    rename_i ns hs1 hl0 hL1 hr1 hl2 as1 as2 lst vs as3 hIsL ra w1 r0 hI hr hc63 hct
    obtain ⟨a, o', fd, e1, e2, e3, hw⟩ := law_ok pg (l := 0) (ns := ns) (by omega) (fun _ => False) callerA s₁ [.ref lst] room9 ⟨fun _ _ e => e, fun _ q => q.elim⟩ (.cons (well_rep w1) .nil)
    have ea : a = fa := by
      have e1 : mg "law" = some (.ref a) := e1
      rw [hmg] at e1
      injection e1 with e1
      injection e1 with e1
      exact e1.symm
    subst ea
    refine wpAny_mono hw (fun v s' p => ?_) (fun _ _ f => f.elim)
    obtain ⟨g, d, hd, rd⟩ := p
    subst hd
    cases rd
    obtain ⟨h', t', rfl⟩ := g.same
    refine GoodW.toG ⟨.inl ⟨.bool true, .bool true, [], rfl, raisesW_false ?_, .bool true, ?_, fun _ => ⟨List.nodup_nil, fun _ h => absurd h List.not_mem_nil⟩⟩, g.keep, rfl, hg⟩
    · wrow_none_raised
    · wrow_post
end

section
set_option linter.unusedVariables false
open PySem PySem.W PyProof.Rows Mine
set_option maxRecDepth 100000
set_option maxHeartbeats 8000000
theorem open0 (said : PySem.Challenge.rw_wl_sentry_3u.row.wellSaid = true) (hw : PySem.Challenge.rw_wl_sentry_3u.row.toRowW.promised) (hc : WalkO vw [] (XL vw []) saysT PySem.Challenge.rw_wl_sentry_3u.row.toRowW lawRec [] fun f vs => PySem.call f vs) : PySem.Challenge.rw_wl_sentry_3u.row.Holds :=
  holds_open (q := vw) (loose := []) (Xt := fun s => xlAt vw [] s && recOk (RowW.records PySem.Challenge.rw_wl_sentry_3u.row.toRowW) s) (XP := XL vw []) (Yf := obsT) (Ya := fun _ => true) (YP := saysT) (N := 2420) left0 saysT_of saysT_keeps
    (fun s e => xl_of s (Bool.and_eq_true_iff.mp e).1) XL.keeps def0 the0 kw0 (fun s e => recFacts_of (Bool.and_eq_true_iff.mp e).2) (by rfl) said ok0 bare0 hw hc
end

end Mine
open PySem PySem.W PyProof.Rows Mine
theorem PySem.Challenge.cw_wl_sentry_3u_holds : PySem.Challenge.rw_wl_sentry_3u.Holds := by
  exact holds_law said0 fun said => open0 said prom0 walk0
