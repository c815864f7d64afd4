import PyProof.Rows.All
import Wide.All
import OpenK.AllK
import Wide.FinOn
import KE.KStateDown
import HandS.Base
import HandS.Call
import HandS.Ends
import HandS.Words
import HandS.Defaults
import HandS.Head0
import HandS.Head1
import HandS.Head2
import HandS.HeadEnd
import HandS.HeadHook1
import PySem.Challenge.RW_stillplanks_k29_examples_of_the_document
import HandS.ForMost
import HandS.Exc
import HandS.IsInst
import HandS.TupAny
import HandS.TupMul
import HandS.TupLe
import HandS.Wide
import HandS.Deep
import HandS.Style
import HandS.Zip
import HandS.SortKw
import HandS.SortInts
import HandS.Set
import HandS.ExcOwn
import HandS.Iter
import KE.GoesMore
import KE.KTurns
import KE.GoesEnum
import PyProof.EnumMake
import HandS.Conv
import HandS.Text
import HandS.Codes
import HandS.SetFor
import HandS.RaiseMore
import KE.KSortKey
import HandS.SortRule
import HandS.More
import HandS.Star
import HandS.Property
import HandS.ClsMeth
import KE.KOpsOwn
import KE.KCallOwn
import HandS.GenCall
import HandS.GenList
import HandS.GenBody
import HandS.GenYield
import PyProof.GenComp
import HandS.HeadHook2
set_option Elab.async false
set_option linter.all false
set_option maxRecDepth 100000
set_option maxHeartbeats 4000000
/-! what the top leaves, as one list of names and what stands there -/
namespace HL
open PySem PySem.Spec PyProof.Rows L2

inductive Inf where
  | int (i : Int)
  | fn (name qual : Str) (params : Arguments) (body : FuncBody) (scope : Scope) (globals : Addr) (closure : List (Str × Addr)) (dflt : Value) (builtins : Addr) (cq : Str)
  | other
  | missing

def codeName (g : Addr → Option Obj) (v : Value) : Option Str := match v with
  | .ref c => (match g c with
    | some ⟨_, _, .fields vs, _⟩ => (match vs.toList with
      | _ :: .str n _ :: _ => some n
      | _ => none)
    | _ => none)
  | _ => none
def inf (g : Addr → Option Obj) (v : Value) : Inf := match v with
  | .int i _ => .int i
  | .ref a => (match g a with
    | some ⟨_, _, .func fd, _⟩ => (match codeName g fd.code with
      | some q => .fn fd.name fd.qualname fd.params fd.body fd.scope fd.globals fd.closure fd.defaults fd.builtins q
      | none => .missing)
    | some _ => .other
    | none => .missing)
  | _ => .other
def keyS (v : Value) : Option Str := match v with
  | .str x _ => some x
  | _ => none
def obs (g : Addr → Option Obj) : Option (List (Option Str × Inf)) := match g mainGlobals with
  | some ⟨_, _, .dict es _, _⟩ => some (es.toList.map fun e => (keyS e.key, inf g e.val))
  | _ => none
def isMissing : Inf → Bool
  | .missing => true
  | _ => false

theorem codeName_mono {g g' : Addr → Option Obj} (k : ∀ b o, g b = some o → g' b = some o) {v : Value} {q : Str} (h : codeName g v = some q) : codeName g' v = some q := by
  cases v with
  | ref c =>
    unfold codeName at h ⊢
    dsimp only at h ⊢
    cases e : g c with
    | none => rw [e] at h; cases h
    | some o => rw [e] at h; rw [k _ _ e]; exact h
  | _ => cases h
theorem inf_mono {g g' : Addr → Option Obj} (k : ∀ b o, g b = some o → g' b = some o) {v : Value} (h : isMissing (inf g v) = false) : inf g' v = inf g v := by
  cases v with
  | ref a =>
    unfold inf at h ⊢
    dsimp only at h ⊢
    cases e : g a with
    | none => rw [e] at h; cases h
    | some o =>
      rw [e] at h
      rw [k _ _ e]
      obtain ⟨oc, od, dt, sl⟩ := o
      cases dt with
      | func fd =>
        dsimp only at h ⊢
        cases c : codeName g fd.code with
        | none => rw [c] at h; cases h
        | some q => rw [codeName_mono k c]
      | _ => rfl
  | _ => rfl

/-- what is expected -/
def want (val : List (Str × Inf)) : Option (List (Option Str × Inf)) := some (val.map fun p => (some p.1, p.2))
def whole (val : List (Str × Inf)) : Bool := val.all fun p => !isMissing p.2

theorem obs_mono {g g' : Addr → Option Obj} (k : ∀ b o, g b = some o → g' b = some o) {val : List (Str × Inf)} (hw : whole val = true) (h : obs g = want val) : obs g' = want val := by
  unfold obs at h ⊢
  cases e : g mainGlobals with
  | none => rw [e] at h; cases h
  | some o =>
    rw [e] at h
    rw [k _ _ e]
    obtain ⟨oc, od, dt, sl⟩ := o
    cases dt with
    | dict es ep =>
      dsimp only at h ⊢
      rw [← h]
      congr 1
      refine List.map_congr_left fun x hx => ?_
      have hm : (keyS x.key, inf g x.val) ∈ val.map fun p => (some p.1, p.2) := by
        have h' := Option.some.inj (show some (es.toList.map fun e => (keyS e.key, inf g e.val)) = some (val.map fun p => (some p.1, p.2)) from h)
        rw [← h']
        exact List.mem_map_of_mem hx
      obtain ⟨p, hp, ep'⟩ := List.mem_map.mp hm
      have e2 : inf g x.val = p.2 := (congrArg Prod.snd ep').symm
      have hn : isMissing (inf g x.val) = false := by
        rw [e2]
        have := List.all_eq_true.mp hw p hp
        simpa using this
      rw [inf_mono k hn]
    | _ => cases h

def hook (val : List (Str × Inf)) (hw : whole val = true) : PySem.W.Hook where
  α := Option (List (Option Str × Inf))
  obs := fun s => obs s.heap.get?
  val := fun _ => want val
  says := fun _ h => obs h.get? = want val
  of := fun _ _ e => e
  keeps := fun _ _ _ e k => obs_mono k hw e

/-! ### the whole heap as the written part -/
def allK (h : Heap) : PySem.W.Frag := He.frG h.get? (List.range h.objs.size)
theorem frG_mem {g : Addr → Option Obj} {a : Addr} {o : Obj} : ∀ {as : List Addr}, a ∈ as → g a = some o → (He.frG g as).lookup a = some o
  | b :: r, hm, e => by
    unfold He.frG
    rw [List.filterMap_cons]
    by_cases hb : a = b
    · subst hb
      rw [e]
      show List.lookup a ((a, o) :: _) = some o
      simp [List.lookup]
    · have hr : a ∈ r := by
        rcases List.mem_cons.mp hm with z | z
        · exact absurd z hb
        · exact z
      cases hg : g b with
      | none => exact frG_mem hr e
      | some ob =>
        show List.lookup a ((b, ob) :: _) = some o
        have hbe : (a == b) = false := beq_eq_false_iff_ne.mpr hb
        simp only [List.lookup, hbe]
        exact frG_mem hr e
theorem allK_in (h : Heap) : (allK h).In h := He.frG_in
theorem allK_at {h : Heap} {a : Addr} {o : Obj} (e : h.get? a = some o) : (allK h).lookup a = some o := frG_mem (List.mem_range.mpr (Heap.lt_size e)) e

/-! ### names -/
def scode (x : Str) : Nat := x.cps.toList.foldl (fun n c => n * 2097152 + c + 1) 0
theorem find_at {es : List DictEntry} : ∀ {i : Nat} {e : DictEntry} {x : Str}, es[i]? = some e → keyS e.key = some x → (es.map fun e => (keyS e.key).elim 0 scode).Nodup → es.find? (fun e => e.key.isStr x) = some e := by
  induction es with
  | nil => intro i e x h; simp at h
  | cons e0 r ih =>
    intro i e x h hk nd
    rw [List.map_cons, List.nodup_cons] at nd
    cases i with
    | zero =>
      simp at h
      subst h
      rw [List.find?_cons]
      have hs : e0.key.isStr x = true := by
        cases hq : e0.key with
        | str y t =>
          rw [hq] at hk
          have : y = x := Option.some.inj hk
          subst this
          simp [Value.isStr]
        | _ => rw [hq] at hk; cases hk
      rw [hs]
    | succ i =>
      have h' : r[i]? = some e := by simpa using h
      rw [List.find?_cons]
      have hs : e0.key.isStr x = false := by
        cases hq : e0.key with
        | str y t =>
          show (y == x) = false
          refine beq_eq_false_iff_ne.mpr fun z => nd.1 ?_
          rw [hq]
          refine List.mem_map.mpr ⟨e, List.mem_of_getElem? h', ?_⟩
          rw [hk]
          show scode x = scode y
          rw [z]
        | _ => rfl
      rw [hs]
      exact ih h' hk nd.2
theorem find_none {es : List DictEntry} {x : Str} (h : ∀ e ∈ es, ∀ y, keyS e.key = some y → scode y ≠ scode x) : es.find? (fun e => e.key.isStr x) = none := by
  rw [List.find?_eq_none]
  intro e he hs
  cases hq : e.key with
  | str y t =>
    rw [hq] at hs
    have : y = x := by simpa [Value.isStr] using hs
    exact h e he y (by rw [hq]; rfl) (by rw [this])
  | _ => rw [hq] at hs; cases hs

section
variable {h : Heap} {mg : Str → Option Value} {val : List (Str × Inf)}
theorem keys_eq {es : List DictEntry} (e : (es.map fun e => (keyS e.key, inf h.get? e.val)) = val.map fun p => (some p.1, p.2)) : (es.map fun e => (keyS e.key).elim 0 scode) = val.map fun p => scode p.1 := by
  have := congrArg (List.map fun p : Option Str × Inf => p.1.elim 0 scode) e
  simpa [List.map_map, Function.comp_def] using this
theorem entries (c : obs h.get? = want val) (G : h.Ns mainGlobals mg) : ∃ es : List DictEntry, (es.map fun e => (keyS e.key, inf h.get? e.val)) = (val.map fun p => (some p.1, p.2)) ∧ ∀ x, mg x = (es.find? fun e => e.key.isStr x).map (·.val) := by
  obtain ⟨o, es, ep, ho, hd, _, hf⟩ := G
  unfold obs at c
  rw [ho] at c
  obtain ⟨oc, od, dt, sl⟩ := o
  dsimp only at hd
  subst hd
  refine ⟨es.toList, Option.some.inj c, fun x => ?_⟩
  rw [← hf x]
  unfold nsFind findBy
  rw [← Array.find?_toList]
theorem mg_at (c : obs h.get? = want val) (G : h.Ns mainGlobals mg) (nd : (val.map fun p => scode p.1).Nodup) {i : Nat} {x : Str} {I : Inf} (hx : val[i]? = some (x, I)) : ∃ v, mg x = some v ∧ inf h.get? v = I := by
  obtain ⟨es, e1, e2⟩ := entries c G
  have hi : (es.map fun e => (keyS e.key, inf h.get? e.val))[i]? = some (some x, I) := by
    rw [e1, List.getElem?_map, hx]
    rfl
  rw [List.getElem?_map] at hi
  cases he : es[i]? with
  | none => rw [he] at hi; cases hi
  | some e =>
    rw [he] at hi
    have h1 : (keyS e.key, inf h.get? e.val) = (some x, I) := Option.some.inj hi
    have h2 : keyS e.key = some x := congrArg Prod.fst h1
    refine ⟨e.val, ?_, congrArg Prod.snd h1⟩
    rw [e2, find_at he h2 (by rw [keys_eq e1]; exact nd)]
    rfl
theorem mg_free (c : obs h.get? = want val) (G : h.Ns mainGlobals mg) {x : Str} (hx : scode x ∉ val.map fun p => scode p.1) : mg x = none := by
  obtain ⟨es, e1, e2⟩ := entries c G
  rw [e2, find_none fun e he y hy z => hx ?_]
  · rfl
  · rw [← keys_eq e1]
    refine List.mem_map.mpr ⟨e, he, ?_⟩
    rw [hy]
    exact z
theorem mg_int (c : obs h.get? = want val) (G : h.Ns mainGlobals mg) (nd : (val.map fun p => scode p.1).Nodup) {i : Nat} {x : Str} {n : Int} (hx : val[i]? = some (x, .int n)) : ∃ t, mg x = some (.int n t) := by
  obtain ⟨v, h1, h2⟩ := mg_at c G nd hx
  cases v with
  | int j t =>
    have : j = n := by
      have h3 : Inf.int j = Inf.int n := h2
      injection h3
    subst this
    exact ⟨t, h1⟩
  | ref a =>
    exfalso
    unfold inf at h2
    dsimp only at h2
    split at h2
    · split at h2 <;> cases h2
    · cases h2
    · cases h2
  | _ => cases h2
/-- a def of the text -/
def fnI (x : Str) (st : Stmt) : Inf := .fn x x (defArgs st) (.stmts (defBody st)) (defScope st) mainGlobals [] .none builtinsNs x
theorem mg_fn (c : obs h.get? = want val) (G : h.Ns mainGlobals mg) (nd : (val.map fun p => scode p.1).Nodup) {i : Nat} {x : Str} {st : Stmt} (hx : val[i]? = some (x, fnI x st)) :
    ∃ f fd, mg x = some (.ref f) ∧ FunD (allK h) x x (defArgs st) (defBody st) (defScope st) [] [] f fd := by
  obtain ⟨v, h1, h2⟩ := mg_at c G nd hx
  cases v with
  | ref a =>
    unfold inf at h2
    dsimp only at h2
    cases e : h.get? a with
    | none => rw [e] at h2; cases h2
    | some o =>
      rw [e] at h2
      obtain ⟨oc, od, dt, sl⟩ := o
      cases dt with
      | func fd =>
        dsimp only at h2
        cases cn : codeName h.get? fd.code with
        | none => rw [cn] at h2; cases h2
        | some q =>
          rw [cn] at h2
          obtain ⟨n1, n2, n3, n4, n5, n6, n7, n8, n9, n10, n11, n12, n13, n14, n15⟩ := fd
          unfold fnI at h2
          simp only [Inf.fn.injEq] at h2
          obtain ⟨z1, z2, z3, z4, z5, z6, z7, z8, z9, z10⟩ := h2
          subst z1 z2 z3 z4 z5 z6 z7 z8 z9
          refine ⟨a, _, h1, ⟨oc, od, .none, n9, n10, n11, n12, n13, n14, sl, rfl, allK_at e, ?_, .inl ⟨rfl, rfl⟩, .inl rfl⟩, ?_⟩
          · unfold codeName at cn
            cases n13 with
            | ref cc =>
              dsimp only at cn
              unfold PySem.W.codeIn
              dsimp only
              cases ec : h.get? cc with
              | none => rw [ec] at cn; cases cn
              | some oo =>
                rw [ec] at cn
                rw [allK_at ec]
                obtain ⟨oc', od', dt', sl'⟩ := oo
                cases dt' with
                | fields vs =>
                  dsimp only at cn ⊢
                  split at cn
                  · rename_i n t r hv
                    have : n = q := Option.some.inj cn
                    rw [hv]
                    dsimp only
                    rw [this, z10]
                    simp
                  · cases cn
                | _ => cases cn
            | _ => cases cn
          · unfold PySem.W.keepIn
            dsimp only
            rw [allK_at e]
      | _ => cases h2
  | int j t => cases h2
  | _ => cases h2
end
end HL

set_option Elab.async false
set_option linter.all false
set_option maxRecDepth 100000
set_option maxHeartbeats 4000000
/-! what the top leaves: names, own classes, their defs; the run in parts -/
namespace HK
open PySem PySem.Spec PyProof.Rows L2

/-! ### the written part: what classes reach comes first -/
def valsAt (g : Addr → Option Obj) (ns : Addr) : List Value := match g ns with
  | some ⟨_, _, .dict es _, _⟩ => es.toList.map (·.val)
  | _ => []
def codeOf (g : Addr → Option Obj) (b : Addr) : List Addr := match g b with
  | some ⟨_, _, .func fd, _⟩ => He.refV fd.code
  | _ => []
def deep (g : Addr → Option Obj) (v : Value) : List Addr := match v with
  | .ref b => b :: (match g b with
    | some ⟨_, _, .func fd, _⟩ => He.refV fd.code
    | some ⟨_, _, .fields vs, _⟩ => vs.toList.flatMap fun u => (match u with
      | .ref c => c :: codeOf g c
      | _ => [])
    | _ => [])
  | _ => []
def preC (g : Addr → Option Obj) (v : Value) : List Addr := match v with
  | .ref a => (match g a with
    | some ⟨_, _, .cls cd, _⟩ => a :: cd.ns :: (valsAt g cd.ns).flatMap (deep g)
    | _ => [])
  | _ => []
def pre (g : Addr → Option Obj) : List Addr := mainGlobals :: cStatics :: (valsAt g mainGlobals).flatMap (preC g)
def KG (g : Addr → Option Obj) (n : Nat) : PySem.W.Frag := He.frG g (pre g ++ List.range n)
abbrev K (h : Heap) : PySem.W.Frag := KG h.get? h.objs.size
/-! ### facts of own classes -/
def pgA (K : PySem.W.Frag) (C m : Str) : Addr := match PySem.W.recIn K (He.ma K (He.ga K C) m) "property" with
  | some (.ref g :: _) => g
  | _ => 0
def cgA (K : PySem.W.Frag) (C m : Str) : Addr := match PySem.W.recIn K (He.ma K (He.ga K C) m) "classmethod" with
  | some (.ref g :: _) => g
  | _ => 0
def mtA (K : PySem.W.Frag) (C m : Str) : Addr := He.ma K (He.ga K C) m
inductive Fc where
  | own (C : Str)
  | mth (C m : Str)
  | prp (C m : Str)
  | fld (C f : Str)
  | mkr (C : Str)
  | cmt (C m : Str)
  | exc (C : Str) (bm : List Value) (Bn newId initId : String)
  | txt (x z : Str)
def isRef : List Value → Bool
  | .ref _ :: _ => true
  | _ => false
def cmB (K : PySem.W.Frag) (c p : Addr) (m : Str) : Bool := match PySem.W.findCls K (.ref c) (.type "type") m with
  | some (.get (.builtin i) (.ref p') .none (.ref c')) => decide (i = "classmethod.__get__") && (Nat.beq p' p && Nat.beq c' c)
  | _ => false
def recB (K : PySem.W.Frag) (p : Addr) (T : String) : Bool := match PySem.W.recIn K p T with
  | some vs => isRef vs
  | none => false
def clsxB (K : PySem.W.Frag) (c : Addr) : Bool := PySem.W.selfFirst K c && (PySem.W.noSeq K c && (He.eqO (PySem.W.findIn K (.ref c) (PySem.dunderR "add")) (some none) && (He.eqO (PySem.W.findIn K (.ref c) (PySem.dunderR "sub")) (some none) &&
  (He.eqO (PySem.W.findIn K (.ref c) "__class__") (some (some (.builtin "object.__class__"))) && (He.eqO (PySem.W.specialIn K (.builtin "object.__class__") "__get__") (some (some (.builtin "getset_descriptor.__get__"))) &&
  (decide (PySem.W.takesIn K (.builtin "object.__class__") = some true) && (decide (PySem.W.mroIn K c (.type "object") = some true) && decide (PySem.W.typeIn K (.ref c) = some (.type "type")))))))))
def Fc.ok (K : PySem.W.Frag) : Fc → Bool
  | .own C => (He.Fa.glo C).ok K && ((He.Fa.cls C).ok K && clsxB K (He.ga K C))
  | .mth C m => (He.Fa.meth C m).ok K && PySem.W.fnIn K (mtA K C m)
  | .prp C m => He.eqO (PySem.W.findIn K (.ref (He.ga K C)) m) (some (some (.ref (mtA K C m)))) && (He.eqO (PySem.W.specialIn K (.ref (mtA K C m)) "__get__") (some (some (.builtin "property.__get__"))) &&
      (decide (PySem.W.takesIn K (.ref (mtA K C m)) = some true) && recB K (mtA K C m) "property"))
  | .fld C f => (He.Fa.noat C f).ok K
  | .mkr C => (He.Fa.mkr C).ok K
  | .cmt C m => PySem.W.readsIn K (He.ga K C) (.type "type") && (He.eqO (PySem.W.specialIn K (.ref (He.ga K C)) "__getattribute__") (some (some (.builtin "type.__getattribute__"))) &&
      (cmB K (He.ga K C) (mtA K C m) m && (recB K (mtA K C m) "classmethod" && PySem.W.fnIn K (cgA K C m))))
  | .exc C bm Bn n i => (He.Fa.glo C).ok K && (PySem.W.excIn K (He.ga K C) bm n && (PySem.W.keepIn K (.ref (He.ga K C)) && (decide (PySem.W.subIn K (.ref (He.ga K C)) (.type "BaseException") = some true) && decide (PySem.W.typeIn K (.ref (He.ga K C)) = some (.type "type")))))
  | .txt x z => (He.Fa.str x z).ok K
/-! ### the Hook -/
/-- a def of a class -/
inductive At where
  | mt | pr | cm
def At.adr (K : PySem.W.Frag) (C m : Str) : At → Addr
  | .mt => mtA K C m
  | .pr => pgA K C m
  | .cm => cgA K C m
structure Df where
  at_ : At
  C : Str
  m : Str
  qual : Str
  st : Stmt
def Df.want (d : Df) : HL.Inf := .fn d.m d.qual (defArgs d.st) (.stmts (defBody d.st)) (defScope d.st) mainGlobals [] .none builtinsNs d.qual
structure Sp where
  val : List (Str × HL.Inf)
  fc : List Fc
  df : List Df
abbrev Al : Type := Option (List (Option Str × HL.Inf)) × Bool × List HL.Inf
def obsK (K : PySem.W.Frag) (p : Sp) : Bool × List HL.Inf := (p.fc.all fun f => f.ok K, p.df.map fun d => HL.inf (fun a => K.lookup a) (.ref (d.at_.adr K d.C d.m)))
def obs (p : Sp) (g : Addr → Option Obj) (n : Nat) : Al := (HL.obs g, obsK (KG g n) p)
def want (p : Sp) : Al := (HL.want p.val, true, p.df.map Df.want)
def hook (p : Sp) : PySem.W.Hook where
  α := Al
  obs := fun s => obs p s.heap.get? s.heap.objs.size
  val := fun _ => want p
  says := fun _ h => ∃ h0 : Heap, (∀ a o, h0.get? a = some o → h.get? a = some o) ∧ obs p h0.get? h0.objs.size = want p
  of := fun _ _ e => ⟨_, fun _ _ e => e, e⟩
  keeps := fun _ _ _ ⟨h0, k0, e⟩ k => ⟨h0, fun a o q => k a o (k0 a o q), e⟩
def clsBody : Stmt → List Stmt
  | .ClassDef _ _ _ b _ _ _ _ _ _ _ => b
  | _ => []
theorem ob_eq (p : Sp) (s : PySem.W.SharedT) : obs p (HandSHeadRun.getT s) s.n = (hook p).obs s.abs := by
  show obs p (HandSHeadRun.getT s) s.n = obs p s.abs.heap.get? s.abs.heap.objs.size
  rw [show HandSHeadRun.getT s = s.abs.heap.get? from funext (HandSHeadRun.getT_eq s), show s.abs.heap.objs.size = s.n from PySem.W.absHeap_size _ _ _]

/-! ### the run's equation, by parts -/
open PySem.W
def eqN : List Nat → List Nat → Bool
  | [], [] => true
  | a :: as, b :: bs => (match Nat.beq a b with
    | true => eqN as bs
    | false => false)
  | _, _ => false
theorem eqN_ok : ∀ {as bs : List Nat}, eqN as bs = true → as = bs
  | [], [], _ => rfl
  | [], _ :: _, h => by cases h
  | _ :: _, [], h => by cases h
  | a :: as, b :: bs, h => by
    unfold eqN at h
    split at h
    · rename_i q
      rw [Nat.eq_of_beq_eq_true q, eqN_ok h]
    · cases h
def eqS (x y : Str) : Bool := eqN x.cps.toList y.cps.toList
theorem eqS_ok {x y : Str} (h : eqS x y = true) : x = y := by
  obtain ⟨⟨a⟩⟩ := x
  obtain ⟨⟨b⟩⟩ := y
  have : a = b := eqN_ok h
  rw [this]
/-- keys that stand in the list, in its order -/
def incl : Nat → List Str → List Str → Bool
  | 0, _, _ => false
  | _ + 1, [], _ => true
  | _ + 1, _ :: _, [] => false
  | n + 1, k :: ks, x :: xs => (match eqS k x with
    | true => incl n ks (x :: xs)
    | false => incl n (k :: ks) xs)
theorem incl_ok : ∀ {n : Nat} {ks xs : List Str}, incl n ks xs = true → ∀ k ∈ ks, k ∈ xs
  | 0, _, _, h => by cases h
  | _ + 1, [], _, _ => fun k hk => by cases hk
  | _ + 1, _ :: _, [], h => by cases h
  | n + 1, k :: ks, x :: xs, h => by
    unfold incl at h
    split at h
    · rename_i e
      have e := eqS_ok e
      subst e
      intro z hz
      rcases List.mem_cons.mp hz with q | q
      · exact List.mem_cons.mpr (.inl q)
      · exact incl_ok h z q
    · intro z hz
      exact List.mem_cons_of_mem _ (incl_ok h z hz)
def startB (k : Str) : Bool := startupNames.any fun x => eqS k x
def namesQ (p : Program) (h : Heap) : Bool := h.isNs mainGlobals && incl 4000 ((h.nsKeys mainGlobals).filter fun k => !startB k) p.boundNames
theorem namesQ_ok {p : Program} {h : Heap} (e : namesQ p h = true) : namesBound p h = true := by
  unfold namesQ at e
  obtain ⟨e1, e2⟩ := Bool.and_eq_true_iff.mp e
  unfold namesBound
  refine Bool.and_eq_true_iff.mpr ⟨e1, List.all_eq_true.mpr fun k hk => ?_⟩
  rw [Bool.or_eq_true]
  cases q : startB k with
  | true =>
    obtain ⟨x, hx, ex⟩ := List.any_eq_true.mp q
    have ex := eqS_ok ex
    subst ex
    exact .inl (List.contains_iff_mem.mpr hx)
  | false =>
    exact .inr (List.contains_iff_mem.mpr (incl_ok e2 k (List.mem_filter.mpr ⟨hk, by rw [q]; rfl⟩)))
section
variable (r : OpenRow) (q : Program) (loose : List Str)
noncomputable abbrev seenR (s : SharedT) := HandSHeadRun.seenQ q loose (importedModules r.prog.main.body) (fun s => xlAt q [] s && recOk r.toRowW.records s) s.abs
-- the state behind the top
noncomputable abbrev endR (M : Nat) (w : World) (os : OsState) : Option SharedT := HandSHeadRun.endF (HandSHeadRun.stepQ (HandSHeadRun.denQ HandSHeadRun.tabQ) r.prog w) M r.prog w os
def RunA (M : Nat) (w : World) : Prop := ∀ os : OsState, (endR r M w os).map (fun s => ((gensDone s.abs && laidKept (boot_heap w.params) s.abs.heap) && (staticsOk (importedModules r.prog.main.body) (boot_heap w.params) s.abs.heap && namesQ r.prog s.abs.heap))) = some true
def RunO (sp : Sp) (M : Nat) (w : World) : Prop := ∀ os : OsState, (endR r M w os).map (fun s => obs sp (HandSHeadRun.getT s) s.n) = some (want sp)
def RunB (M : Nat) (w : World) : Prop := ∀ os : OsState, (endR r M w os).map (fun s => ((seenR r q loose s).1, (seenR r q loose s).2.1, (seenR r q loose s).2.2.1, (seenR r q loose s).2.2.2.1, (seenR r q loose s).2.2.2.2)) = some ((openGood q loose).1, (openGood q loose).2.1, (openGood q loose).2.2.1, (openGood q loose).2.2.2.1, (openGood q loose).2.2.2.2)
end
theorem run_join {r : OpenRow} {q : Program} {loose : List Str} {sp : Sp} {M : Nat} {w : World} (a : RunA r M w) (o : RunO r sp M w) (b : RunB r q loose M w) :
    HandSHeadRun.RunEq r q (hook sp) (fun s => obs sp (HandSHeadRun.getT s) s.n) M loose w := by
  intro os
  have a := a os
  have o := o os
  have b := b os
  cases e : endR r M w os with
  | none => rw [e] at a; cases a
  | some s =>
    rw [e] at a o b
    show (endR r M w os).map _ = _
    rw [e]
    have a := Option.some.inj a
    have b := Option.some.inj b
    have a2 := Option.some.inj o
    have a1 : ((gensDone s.abs && laidKept (boot_heap w.params) s.abs.heap) && (staticsOk (importedModules r.prog.main.body) (boot_heap w.params) s.abs.heap && namesQ r.prog s.abs.heap)) = true := a
    obtain ⟨b1, b⟩ := Prod.mk.inj b
    obtain ⟨b2, b⟩ := Prod.mk.inj b
    obtain ⟨b3, b⟩ := Prod.mk.inj b
    obtain ⟨b4, c⟩ := Prod.mk.inj b
    obtain ⟨z1, z2⟩ := Bool.and_eq_true_iff.mp a1
    obtain ⟨z3, z4⟩ := Bool.and_eq_true_iff.mp z1
    obtain ⟨z5, z6⟩ := Bool.and_eq_true_iff.mp z2
    have l : HandSHeadRun.looksF r.prog (boot_heap w.params) s.abs = true := by
      unfold HandSHeadRun.looksF
      rw [z5, namesQ_ok z6, z3, z4]
      rfl
    have sq : seenR r q loose s = openGood q loose := Prod.ext b1 (Prod.ext b2 (Prod.ext b3 (Prod.ext b4 c)))
    refine congrArg some (Prod.ext l (Prod.ext sq a2))
end HK

set_option Elab.async false
set_option linter.all false
set_option maxRecDepth 100000
set_option maxHeartbeats 0
namespace Hd
open PySem PySem.Spec PyProof.Rows L2
def top (i : Nat) : Stmt := PySem.Challenge.pw_stillplanks_k29_examples_of_the_document.main.body.getD i (.Pass ⟨0, 0, 0, 0⟩)
def val0 : List (Str × HL.Inf) := [("__name__", .other), ("__doc__", .other), ("__package__", .other), ("__loader__", .other), ("__spec__", .other), ("__annotations__", .other), ("__builtins__", .other), ("__file__", .other), ("__cached__", .other), ("_wall", HL.fnI "_wall" (top 0)), ("PlankError", .other), ("InvalidHouse", .other), ("InvalidPile", .other), ("InvalidWeights", .other), ("InvalidFacts", .other), ("InvalidScript", .other), ("InvalidPlank", .other), ("InvalidPlace", .other), ("InvalidPaper", .other), ("InvalidStep", .other), ("Impossible", .other), ("Fallen", .other), ("Unlike", .other), ("NothingToUndo", .other), ("TooMany", .other), ("InvalidText", .other), ("divisor", HL.fnI "divisor" (top 19)), ("lowest", HL.fnI "lowest" (top 20)), ("neat", HL.fnI "neat" (top 21)), ("table_of", HL.fnI "table_of" (top 22))]
def val1 : List (Str × HL.Inf) := [("cleared", HL.fnI "cleared" (top 23)), ("leaving", HL.fnI "leaving" (top 24)), ("numbers_of", HL.fnI "numbers_of" (top 25)), ("greatest", HL.fnI "greatest" (top 26)), ("solution", HL.fnI "solution" (top 27)), ("greatest_worth", HL.fnI "greatest_worth" (top 28)), ("LOW", .int (-12)), ("HIGH", .int (20)), ("TABLE", .int (-1)), ("is_number", HL.fnI "is_number" (top 33)), ("is_tuple", HL.fnI "is_tuple" (top 34)), ("is_fraction", HL.fnI "is_fraction" (top 35)), ("is_good_house", HL.fnI "is_good_house" (top 36)), ("is_triple", HL.fnI "is_triple" (top 37)), ("ends_of", HL.fnI "ends_of" (top 38)), ("ascending", HL.fnI "ascending" (top 39)), ("do_overlap", HL.fnI "do_overlap" (top 40)), ("on_table", HL.fnI "on_table" (top 41)), ("held_by", HL.fnI "held_by" (top 42)), ("lies_well", HL.fnI "lies_well" (top 43)), ("is_good_pile", HL.fnI "is_good_pile" (top 44)), ("contacts_of", HL.fnI "contacts_of" (top 45)), ("are_good_weights", HL.fnI "are_good_weights" (top 46)), ("is_lot", HL.fnI "is_lot" (top 47)), ("are_good_facts", HL.fnI "are_good_facts" (top 48)), ("triple_of", HL.fnI "triple_of" (top 49)), ("is_bare", HL.fnI "is_bare" (top 50)), ("less", HL.fnI "less" (top 51)), ("laid", HL.fnI "laid" (top 52)), ("is_step", HL.fnI "is_step" (top 53))]
def val2 : List (Str × HL.Inf) := [("stepped", HL.fnI "stepped" (top 54)), ("piles_along", HL.fnI "piles_along" (top 55)), ("is_good_script", HL.fnI "is_good_script" (top 56)), ("count_in", HL.fnI "count_in" (top 57)), ("weighed", HL.fnI "weighed" (top 58)), ("keeps_facts", HL.fnI "keeps_facts" (top 59)), ("need_house", HL.fnI "need_house" (top 60)), ("need_pile", HL.fnI "need_pile" (top 61)), ("need_weights", HL.fnI "need_weights" (top 62)), ("need_facts", HL.fnI "need_facts" (top 63)), ("need_script", HL.fnI "need_script" (top 64)), ("need_plank", HL.fnI "need_plank" (top 65)), ("need_case", HL.fnI "need_case" (top 66)), ("need_known", HL.fnI "need_known" (top 67)), ("is_house", HL.fnI "is_house" (top 68)), ("is_pile", HL.fnI "is_pile" (top 69)), ("is_script", HL.fnI "is_script" (top 70)), ("contacts", HL.fnI "contacts" (top 71)), ("keep", HL.fnI "keep" (top 72)), ("gone_up", HL.fnI "gone_up" (top 74)), ("gap_at", HL.fnI "gap_at" (top 75)), ("marks_of", HL.fnI "marks_of" (top 76)), ("main_contacts", HL.fnI "main_contacts" (top 77)), ("carried_by", HL.fnI "carried_by" (top 78)), ("neat_motion", HL.fnI "neat_motion" (top 79)), ("first_motions", HL.fnI "first_motions" (top 80)), ("joined", HL.fnI "joined" (top 81)), ("still_marks", HL.fnI "still_marks" (top 82)), ("are_beside", HL.fnI "are_beside" (top 83)), ("cut_by", HL.fnI "cut_by" (top 84))]
def val3 : List (Str × HL.Inf) := [("outermost", HL.fnI "outermost" (top 85)), ("lifts", HL.fnI "lifts" (top 86)), ("sunk", HL.fnI "sunk" (top 87)), ("LARGEST", .int (1000000000000000000000000000000)), ("middle_of", HL.fnI "middle_of" (top 90)), ("equation_rows", HL.fnI "equation_rows" (top 91)), ("sign_of", HL.fnI "sign_of" (top 92)), ("bearing_rows", HL.fnI "bearing_rows" (top 93)), ("forces_of", HL.fnI "forces_of" (top 94)), ("motion_of", HL.fnI "motion_of" (top 95)), ("does_stand", HL.fnI "does_stand" (top 96)), ("need_standing", HL.fnI "need_standing" (top 97)), ("is_force", HL.fnI "is_force" (top 98)), ("are_forces", HL.fnI "are_forces" (top 99)), ("is_whole", HL.fnI "is_whole" (top 100)), ("is_motion", HL.fnI "is_motion" (top 101)), ("row_is_so", HL.fnI "row_is_so" (top 102)), ("do_bear", HL.fnI "do_bear" (top 103)), ("is_toppling", HL.fnI "is_toppling" (top 104)), ("stands", HL.fnI "stands" (top 105)), ("forces", HL.fnI "forces" (top 106)), ("motion", HL.fnI "motion" (top 107)), ("bears", HL.fnI "bears" (top 108)), ("topples", HL.fnI "topples" (top 109)), ("LIMIT", .int (60)), ("Yard", .other), ("as_row", HL.fnI "as_row" (top 114)), ("opposite", HL.fnI "opposite" (top 115)), ("weight_rows", HL.fnI "weight_rows" (top 116)), ("fact_rows", HL.fnI "fact_rows" (top 117))]
def val4 : List (Str × HL.Inf) := [("weights_for", HL.fnI "weights_for" (top 118)), ("are_possible", HL.fnI "are_possible" (top 119)), ("need_possible", HL.fnI "need_possible" (top 120)), ("sums_of", HL.fnI "sums_of" (top 121)), ("falling_weights", HL.fnI "falling_weights" (top 122)), ("standing_rows", HL.fnI "standing_rows" (top 123)), ("is_sure", HL.fnI "is_sure" (top 124)), ("told", HL.fnI "told" (top 125)), ("lots_of", HL.fnI "lots_of" (top 126)), ("is_enough", HL.fnI "is_enough" (top 127)), ("thinned", HL.fnI "thinned" (top 128)), ("can_stand", HL.fnI "can_stand" (top 129)), ("can_fall", HL.fnI "can_fall" (top 130)), ("always", HL.fnI "always" (top 131)), ("least_facts", HL.fnI "least_facts" (top 132)), ("conditions", HL.fnI "conditions" (top 133)), ("both_bounds", HL.fnI "both_bounds" (top 135)), ("pairs_of", HL.fnI "pairs_of" (top 136)), ("is_pair", HL.fnI "is_pair" (top 137)), ("bearing", HL.fnI "bearing" (top 138)), ("borne", HL.fnI "borne" (top 139)), ("built_orders", HL.fnI "built_orders" (top 141)), ("taken_orders", HL.fnI "taken_orders" (top 142)), ("pile_behind", HL.fnI "pile_behind" (top 143)), ("first_fall", HL.fnI "first_fall" (top 144)), ("lay_orders", HL.fnI "lay_orders" (top 145)), ("take_orders", HL.fnI "take_orders" (top 146)), ("safe_places", HL.fnI "safe_places" (top 147)), ("planks_of", HL.fnI "planks_of" (top 149)), ("worse_weights", HL.fnI "worse_weights" (top 150))]
def val5 : List (Str × HL.Inf) := [("need_two", HL.fnI "need_two" (top 151)), ("parted", HL.fnI "parted" (top 152)), ("alike", HL.fnI "alike" (top 153)), ("parting", HL.fnI "parting" (top 154)), ("never_worse", HL.fnI "never_worse" (top 155)), ("needless", HL.fnI "needless" (top 156)), ("is_less", HL.fnI "is_less" (top 158)), ("later", HL.fnI "later" (top 159)), ("sooner", HL.fnI "sooner" (top 160)), ("free_spans", HL.fnI "free_spans" (top 161)), ("borne_span", HL.fnI "borne_span" (top 162)), ("is_free", HL.fnI "is_free" (top 163)), ("spans", HL.fnI "spans" (top 164)), ("greatest_load", HL.fnI "greatest_load" (top 165)), ("DIGITS", .other), ("line_of", HL.fnI "line_of" (top 168)), ("text_of", HL.fnI "text_of" (top 169)), ("number_in", HL.fnI "number_in" (top 170)), ("triple_in", HL.fnI "triple_in" (top 171)), ("pile_in", HL.fnI "pile_in" (top 172)), ("pile_text", HL.fnI "pile_text" (top 173)), ("read_pile", HL.fnI "read_pile" (top 174)), ("need_good", HL.fnI "need_good" (top 176)), ("in_order", HL.fnI "in_order" (top 177)), ("with_plank", HL.fnI "with_plank" (top 178)), ("without_plank", HL.fnI "without_plank" (top 179)), ("turned", HL.fnI "turned" (top 180)), ("need_like", HL.fnI "need_like" (top 181)), ("Pile", .other), ("_law_source", HL.fnI "_law_source" (top 184))]
def val6 : List (Str × HL.Inf) := [("_law_draw", HL.fnI "_law_draw" (top 185)), ("_law_some", HL.fnI "_law_some" (top 186)), ("_law_first_right", HL.fnI "_law_first_right" (top 187)), ("_law_second_right", HL.fnI "_law_second_right" (top 188)), ("_law_third_right", HL.fnI "_law_third_right" (top 189)), ("_law_fourth_right", HL.fnI "_law_fourth_right" (top 190)), ("law", HL.fnI "law" (top 191))]
def val : List (Str × HL.Inf) := val0 ++ (val1 ++ (val2 ++ (val3 ++ (val4 ++ (val5 ++ (val6))))))
def mt (i k : Nat) : Stmt := (HK.clsBody (top i)).getD k (.Pass ⟨0, 0, 0, 0⟩)
def fc : List HK.Fc := [.own "Yard", .fld "Yard" "home", .fld "Yard" "masses", .fld "Yard" "now", .fld "Yard" "past", .mkr "Yard", .mth "Yard" "__init__", .prp "Yard" "house", .prp "Yard" "weights", .prp "Yard" "pile", .prp "Yard" "steps", .mth "Yard" "go_on", .mth "Yard" "lay", .mth "Yard" "take", .mth "Yard" "slide", .mth "Yard" "__iadd__", .mth "Yard" "forces", .mth "Yard" "heavy", .mth "Yard" "undo", .mth "Yard" "attempt", .mth "Yard" "__getitem__", .mth "Yard" "__contains__", .mth "Yard" "__len__", .mth "Yard" "__bool__", .mth "Yard" "__iter__", .mth "Yard" "__eq__", .mth "Yard" "log", .own "Pile", .fld "Pile" "home", .fld "Pile" "base", .mkr "Pile", .mth "Pile" "__init__", .cmt "Pile" "read", .prp "Pile" "house", .prp "Pile" "source", .mth "Pile" "__add__", .mth "Pile" "__sub__", .mth "Pile" "__invert__", .mth "Pile" "__iadd__", .mth "Pile" "__isub__", .mth "Pile" "__call__", .mth "Pile" "__getitem__", .mth "Pile" "__contains__", .mth "Pile" "__len__", .mth "Pile" "__bool__", .mth "Pile" "__iter__", .mth "Pile" "__le__", .mth "Pile" "__lt__", .mth "Pile" "__eq__", .mth "Pile" "__str__", .txt "DIGITS" "0123456789"]
def df : List HK.Df := [⟨.mt, "Yard", "__init__", "Yard.__init__", mt 112 1⟩, ⟨.pr, "Yard", "house", "Yard.house", mt 112 2⟩, ⟨.pr, "Yard", "weights", "Yard.weights", mt 112 3⟩, ⟨.pr, "Yard", "pile", "Yard.pile", mt 112 4⟩, ⟨.pr, "Yard", "steps", "Yard.steps", mt 112 5⟩, ⟨.mt, "Yard", "go_on", "Yard.go_on", mt 112 6⟩, ⟨.mt, "Yard", "lay", "Yard.lay", mt 112 7⟩, ⟨.mt, "Yard", "take", "Yard.take", mt 112 8⟩, ⟨.mt, "Yard", "slide", "Yard.slide", mt 112 9⟩, ⟨.mt, "Yard", "__iadd__", "Yard.__iadd__", mt 112 10⟩, ⟨.mt, "Yard", "forces", "Yard.forces", mt 112 11⟩, ⟨.mt, "Yard", "heavy", "Yard.heavy", mt 112 12⟩, ⟨.mt, "Yard", "undo", "Yard.undo", mt 112 13⟩, ⟨.mt, "Yard", "attempt", "Yard.attempt", mt 112 14⟩, ⟨.mt, "Yard", "__getitem__", "Yard.__getitem__", mt 112 15⟩, ⟨.mt, "Yard", "__contains__", "Yard.__contains__", mt 112 16⟩, ⟨.mt, "Yard", "__len__", "Yard.__len__", mt 112 17⟩, ⟨.mt, "Yard", "__bool__", "Yard.__bool__", mt 112 18⟩, ⟨.mt, "Yard", "__iter__", "Yard.__iter__", mt 112 19⟩, ⟨.mt, "Yard", "__eq__", "Yard.__eq__", mt 112 20⟩, ⟨.mt, "Yard", "log", "Yard.log", mt 112 21⟩, ⟨.mt, "Pile", "__init__", "Pile.__init__", mt 182 1⟩, ⟨.cm, "Pile", "read", "Pile.read", mt 182 2⟩, ⟨.pr, "Pile", "house", "Pile.house", mt 182 3⟩, ⟨.pr, "Pile", "source", "Pile.source", mt 182 4⟩, ⟨.mt, "Pile", "__add__", "Pile.__add__", mt 182 5⟩, ⟨.mt, "Pile", "__sub__", "Pile.__sub__", mt 182 6⟩, ⟨.mt, "Pile", "__invert__", "Pile.__invert__", mt 182 7⟩, ⟨.mt, "Pile", "__iadd__", "Pile.__iadd__", mt 182 8⟩, ⟨.mt, "Pile", "__isub__", "Pile.__isub__", mt 182 9⟩, ⟨.mt, "Pile", "__call__", "Pile.__call__", mt 182 10⟩, ⟨.mt, "Pile", "__getitem__", "Pile.__getitem__", mt 182 11⟩, ⟨.mt, "Pile", "__contains__", "Pile.__contains__", mt 182 12⟩, ⟨.mt, "Pile", "__len__", "Pile.__len__", mt 182 13⟩, ⟨.mt, "Pile", "__bool__", "Pile.__bool__", mt 182 14⟩, ⟨.mt, "Pile", "__iter__", "Pile.__iter__", mt 182 15⟩, ⟨.mt, "Pile", "__le__", "Pile.__le__", mt 182 16⟩, ⟨.mt, "Pile", "__lt__", "Pile.__lt__", mt 182 17⟩, ⟨.mt, "Pile", "__eq__", "Pile.__eq__", mt 182 18⟩, ⟨.mt, "Pile", "__str__", "Pile.__str__", mt 182 19⟩]
abbrev sp : HK.Sp := ⟨val, fc, df⟩
abbrev R : PySem.W.OpenRow := PySem.W.OpenLaw.row PySem.Challenge.rw_stillplanks_k29_examples_of_the_document
theorem val_nd : (val.map fun p => HL.scode p.1).Nodup := by decide +kernel
abbrev hk : PySem.W.Hook := HK.hook sp
def ob (s : PySem.W.SharedT) : HK.Al := HK.obs sp (HandSHeadRun.getT s) s.n
theorem ob_eq (s : PySem.W.SharedT) : ob s = hk.obs s.abs := HK.ob_eq sp s
def loose0 : List Str := ["_wall", "divisor", "lowest", "neat", "table_of", "cleared", "leaving", "numbers_of", "greatest", "solution", "greatest_worth", "is_number", "is_tuple", "is_fraction", "is_good_house", "is_triple", "ends_of", "ascending", "do_overlap", "on_table", "held_by", "lies_well", "is_good_pile", "contacts_of", "are_good_weights", "is_lot", "are_good_facts", "triple_of", "is_bare", "less"]
def loose1 : List Str := ["laid", "is_step", "stepped", "piles_along", "is_good_script", "count_in", "weighed", "keeps_facts", "need_house", "need_pile", "need_weights", "need_facts", "need_script", "need_plank", "need_case", "need_known", "is_house", "is_pile", "is_script", "contacts", "keep", "gone_up", "gap_at", "marks_of", "main_contacts", "carried_by", "neat_motion", "first_motions", "joined", "still_marks"]
def loose2 : List Str := ["are_beside", "cut_by", "outermost", "lifts", "sunk", "middle_of", "equation_rows", "sign_of", "bearing_rows", "forces_of", "motion_of", "does_stand", "need_standing", "is_force", "are_forces", "is_whole", "is_motion", "row_is_so", "do_bear", "is_toppling", "stands", "forces", "motion", "bears", "topples", "as_row", "opposite", "weight_rows", "fact_rows", "weights_for"]
def loose3 : List Str := ["are_possible", "need_possible", "sums_of", "falling_weights", "standing_rows", "is_sure", "told", "lots_of", "is_enough", "thinned", "can_stand", "can_fall", "always", "least_facts", "conditions", "both_bounds", "pairs_of", "is_pair", "bearing", "borne", "built_orders", "taken_orders", "pile_behind", "first_fall", "lay_orders", "take_orders", "safe_places", "planks_of", "worse_weights", "need_two"]
def loose4 : List Str := ["parted", "alike", "parting", "never_worse", "needless", "is_less", "later", "sooner", "free_spans", "borne_span", "is_free", "spans", "greatest_load", "line_of", "text_of", "number_in", "triple_in", "pile_in", "pile_text", "read_pile", "need_good", "in_order", "with_plank", "without_plank", "turned", "need_like", "_law_source", "_law_draw", "_law_some", "_law_first_right"]
def loose5 : List Str := ["_law_second_right", "_law_third_right", "_law_fourth_right", "PlankError", "InvalidHouse", "InvalidPile", "InvalidWeights", "InvalidFacts", "InvalidScript", "InvalidPlank", "InvalidPlace", "InvalidPaper", "InvalidStep", "Impossible", "Fallen", "Unlike", "NothingToUndo", "TooMany", "InvalidText", "Yard", "Pile", "LOW", "HIGH", "TABLE", "LARGEST", "LIMIT", "DIGITS"]
def loose : List Str := loose0 ++ (loose1 ++ (loose2 ++ (loose3 ++ (loose4 ++ (loose5)))))
abbrev vw : Program := PySem.W.view R.prog [191]
theorem runb (w : World) : HK.RunB R vw loose 20000 w := by
  intro os
  kernel_rfl
theorem runo (w : World) : HK.RunO R sp 20000 w := by
  intro os
  kernel_rfl
theorem runa (w : World) : HK.RunA R 20000 w := by
  intro os
  kernel_rfl
theorem run (w : World) : HandSHeadRun.RunEq R vw hk ob 20000 loose w := HK.run_join (runa w) (runo w) (runb w)
end Hd

set_option Elab.async false
set_option linter.all false
set_option maxRecDepth 100000
set_option maxHeartbeats 4000000
/-! the small domain: data D, a store of changing objects, what runs (R), how they lie in the abstract heap -/
namespace PL
open PySem PySem.Spec PyProof.Rows L2

/-- the built-in classes that are asked for -/
inductive Tn where
  | int | bool | str | tuple | list
  deriving DecidableEq
def Tn.name : Tn → String
  | .int => "int"
  | .bool => "bool"
  | .str => "str"
  | .tuple => "tuple"
  | .list => "list"
inductive D where
  | non | bl (b : Bool) | int (i : Int) | str (x : Str) | lst (xs : List D) | tup (xs : List D)
  /-- the n-th changing object -/
  | ref (n : Nat)
  /-- the script: a list of ints that is only read -/
  | frz (ns : List Int)
  /-- a dict with int keys that is only read -/
  | dct (ks : List Int) (vs : List D)
  /-- a built-in class -/
  | ty (n : Tn)
  /-- a class of the text -/
  | cls (C : Str)
inductive Cell where
  | lst (xs : List D)
  | ins (C : Str) (fs : List (Str × D))
/-- where a class of the text stands -/
def clsK (K : PySem.W.Frag) (x : Str) : Option Addr := match PySem.W.nsIn K mainGlobals x with
  | some (some (.ref a)) => some a
  | _ => none
abbrev Store := List (Option Cell)
abbrev Rho := List (Option D)
inductive R (α : Type) where
  | ok (a : α) (S : Store)
  | ex (c : Str) (p : Option D) (ρ : Rho) (S : Store)
  | no
def R.bind {α β : Type} (r : R α) (f : α → Store → R β) : R β := match r with
  | .ok a S => f a S
  | .ex c p ρ S => .ex c p ρ S
  | .no => .no
def R.sat {α : Type} (r : R α) (P : α → Store → Prop) (E : Str → Option D → Rho → Store → Prop) : Prop := match r with
  | .ok a S => P a S
  | .ex c p ρ S => E c p ρ S
  | .no => False
theorem R.sat_bind {α β : Type} {r : R α} {f : α → Store → R β} {P : β → Store → Prop} {E : Str → Option D → Rho → Store → Prop} (h : (r.bind f).sat P E) : r.sat (fun a S => (f a S).sat P E) E := by
  cases r with
  | ok a S => exact h
  | ex c p ρ S => exact h
  | no => exact h
theorem R.sat_mono {α : Type} {r : R α} {P P' : α → Store → Prop} {E E' : Str → Option D → Rho → Store → Prop} (h : r.sat P E) (hP : ∀ a S, P a S → P' a S) (hE : ∀ c p ρ S, E c p ρ S → E' c p ρ S) : r.sat P' E' := by
  cases r with
  | ok a S => exact hP _ _ h
  | ex c p ρ S => exact hE _ _ _ _ h
  | no => exact h

/-! ### in the heap -/
mutual
inductive Rp (K : PySem.W.Frag) (as : List Addr) (H : Hp) : V → D → Prop where
  | non : Rp K as H .non .non
  | bl (b : Bool) : Rp K as H (.bl b) (.bl b)
  | int (i : Int) : Rp K as H (.int i) (.int i)
  | str (x : Str) : Rp K as H (.str x) (.str x)
  | ty (n : Tn) : Rp K as H (.ty n.name) (.ty n)
  | cls {a : Addr} {C : Str} : clsK K C = some a → Rp K as H (.ref a) (.cls C)
  | lst {a : Addr} {vs : List V} {ds : List D} : H a = some (.lst vs) → RpA K as H vs ds → Rp K as H (.ref a) (.lst ds)
  | tup {a : Addr} {vs : List V} {ds : List D} : H a = some (.tup vs) → RpA K as H vs ds → Rp K as H (.ref a) (.tup ds)
  | ref {a : Addr} {n : Nat} : as[n]? = some a → Rp K as H (.ref a) (.ref n)
  | frz {a : Addr} {ns : List Int} : SqL K H a (ns.map V.int) → Rp K as H (.ref a) (.frz ns)
  | dct {a : Addr} {kvs : List (Key × V)} {ks : List Int} {ds : List D} : H a = some (.dK kvs) → kvs.map (·.1) = ks.map Sum.inl → RpA K as H (kvs.map (·.2)) ds → Rp K as H (.ref a) (.dct ks ds)
inductive RpA (K : PySem.W.Frag) (as : List Addr) (H : Hp) : List V → List D → Prop where
  | nil : RpA K as H [] []
  | cons {v : V} {vs : List V} {d : D} {ds : List D} : Rp K as H v d → RpA K as H vs ds → RpA K as H (v :: vs) (d :: ds)
end
/-- all that is known stays -/
def Ex (H H' : Hp) : Prop := ∀ a o, H a = some o → H' a = some o
theorem Ex.refl (H : Hp) : Ex H H := fun _ _ h => h
theorem Ex.trans {H H1 H2 : Hp} (a : Ex H H1) (b : Ex H1 H2) : Ex H H2 := fun x o h => b x o (a x o h)
theorem Ex.new {H : Hp} {p : Addr} {o : HO} (h : H p = none) : Ex H (upd H p o) := fun a u e => by
  rw [upd_ne (ne_of_none e h)]
  exact e
theorem Ex.mut {H H' : Hp} {p : Addr} {o : HO} (e : Ex H H') (h : H p = none) : Ex H (upd H' p o) := fun a u ha => by
  rw [upd_ne (ne_of_none ha h)]
  exact e a u ha
theorem Ex.back {H H' : Hp} {p : Addr} (e : Ex H H') (h : H' p = none) : H p = none := by
  cases h1 : H p with
  | none => rfl
  | some o => rw [e p o h1] at h; cases h
theorem ex_rd {H H' : Hp} {a : Addr} {u : HO} (e : Ex H H') (h : Rd H a u) : Rd H' a u := by
  rcases h with h | ⟨o, h⟩
  · exact .inl (e a _ h)
  · exact .inr ⟨o, e a _ h⟩
theorem ex_l {K : PySem.W.Frag} {H H' : Hp} {a : Addr} {xs : List V} (e : Ex H H') (h : SqL K H a xs) : SqL K H' a xs := by
  rcases h with h | h
  · exact .inl (ex_rd e h)
  · exact .inr h
theorem ex_t {K : PySem.W.Frag} {H H' : Hp} {a : Addr} {xs : List V} (e : Ex H H') (h : SqT K H a xs) : SqT K H' a xs := by
  rcases h with h | h
  · exact .inl (ex_rd e h)
  · exact .inr h
def Pre (as as' : List Addr) : Prop := ∀ (n : Nat) (a : Addr), as[n]? = some a → as'[n]? = some a
theorem Pre.refl (as : List Addr) : Pre as as := fun _ _ h => h
theorem Pre.trans {a b c : List Addr} (h : Pre a b) (h' : Pre b c) : Pre a c := fun n x e => h' n x (h n x e)
theorem Pre.snoc (as : List Addr) (p : Addr) : Pre as (as ++ [p]) := fun n a h => by
  rw [List.getElem?_append_left (List.getElem?_eq_some_iff.mp h).1]
  exact h
section
variable {K : PySem.W.Frag} {as as' : List Addr} {H H' : Hp}
mutual
theorem Rp.mono (e : Ex H H') (p : Pre as as') : ∀ {v : V} {d : D}, Rp K as H v d → Rp K as' H' v d
  | _, _, .non => .non
  | _, _, .bl b => .bl b
  | _, _, .int i => .int i
  | _, _, .str x => .str x
  | _, _, .ty x => .ty x
  | _, _, .cls h => .cls h
  | _, _, .lst h r => .lst (e _ _ h) (RpA.mono e p r)
  | _, _, .tup h r => .tup (e _ _ h) (RpA.mono e p r)
  | _, _, .ref h => .ref (p _ _ h)
  | _, _, .frz h => .frz (ex_l e h)
  | _, _, .dct h k r => .dct (e _ _ h) k (RpA.mono e p r)
theorem RpA.mono (e : Ex H H') (p : Pre as as') : ∀ {vs : List V} {ds : List D}, RpA K as H vs ds → RpA K as' H' vs ds
  | _, _, .nil => .nil
  | _, _, .cons r t => .cons (Rp.mono e p r) (RpA.mono e p t)
end
theorem RpA.length : ∀ {vs : List V} {ds : List D}, RpA K as H vs ds → vs.length = ds.length
  | _, _, .nil => rfl
  | _, _, .cons _ t => by rw [List.length_cons, List.length_cons, RpA.length t]
theorem RpA.get : ∀ {vs : List V} {ds : List D} {i : Nat} {d : D}, RpA K as H vs ds → ds[i]? = some d → ∃ v, vs[i]? = some v ∧ Rp K as H v d
  | _, _, _, _, .nil, e => by simp at e
  | _, _, 0, _, .cons r _, e => by simp at e; subst e; exact ⟨_, rfl, r⟩
  | _, _, i + 1, d, .cons _ t, e => by
    obtain ⟨v, h1, h2⟩ := RpA.get (i := i) (d := d) t (by simpa using e)
    exact ⟨v, by simpa using h1, h2⟩
theorem RpA.get' : ∀ {vs : List V} {ds : List D} {i : Nat} {v : V}, RpA K as H vs ds → vs[i]? = some v → ∃ d, ds[i]? = some d ∧ Rp K as H v d
  | _, _, _, _, .nil, e => by simp at e
  | _, _, 0, _, .cons r _, e => by simp at e; subst e; exact ⟨_, rfl, r⟩
  | _, _, i + 1, d, .cons _ t, e => by
    obtain ⟨v, h1, h2⟩ := RpA.get' (i := i) (v := d) t (by simpa using e)
    exact ⟨v, by simpa using h1, h2⟩
theorem RpA.append : ∀ {xs ys : List V} {us ws : List D}, RpA K as H xs us → RpA K as H ys ws → RpA K as H (xs ++ ys) (us ++ ws)
  | _, _, _, _, .nil, s => s
  | _, _, _, _, .cons r t, s => .cons r (RpA.append t s)
theorem RpA.take : ∀ {xs : List V} {us : List D} (n : Nat), RpA K as H xs us → RpA K as H (xs.take n) (us.take n)
  | _, _, 0, _ => .nil
  | _, _, _ + 1, .nil => .nil
  | _, _, n + 1, .cons r t => .cons r (RpA.take n t)
theorem RpA.drop : ∀ {xs : List V} {us : List D} (n : Nat), RpA K as H xs us → RpA K as H (xs.drop n) (us.drop n)
  | _, _, 0, r => r
  | _, _, _ + 1, .nil => .nil
  | _, _, n + 1, .cons _ t => RpA.drop n t
theorem RpA.set {v : V} {d : D} (r : Rp K as H v d) : ∀ {vs : List V} {ds : List D} (i : Nat), RpA K as H vs ds → RpA K as H (vs.set i v) (ds.set i d)
  | _, _, _, .nil => .nil
  | _, _, 0, .cons _ t => .cons r t
  | _, _, i + 1, .cons q t => .cons q (RpA.set r i t)
theorem RpA.eraseIdx : ∀ {vs : List V} {ds : List D} (i : Nat), RpA K as H vs ds → RpA K as H (vs.eraseIdx i) (ds.eraseIdx i)
  | _, _, _, .nil => .nil
  | _, _, 0, .cons _ t => t
  | _, _, i + 1, .cons q t => .cons q (RpA.eraseIdx i t)
theorem RpA.rep {vs : List V} {ds : List D} (r : RpA K as H vs ds) : ∀ n : Nat, RpA K as H (List.replicate n vs).flatten (List.replicate n ds).flatten
  | 0 => .nil
  | n + 1 => by
    rw [List.replicate_succ, List.replicate_succ, List.flatten_cons, List.flatten_cons]
    exact r.append (RpA.rep r n)
theorem RpA.nil_iff {vs : List V} {ds : List D} (r : RpA K as H vs ds) : vs = [] ↔ ds = [] := by
  cases r with
  | nil => simp
  | cons _ _ => simp
end

/-! ### the store -/
def CellOk (K : PySem.W.Frag) (as : List Addr) (H0 H : Hp) (a : Addr) : Cell → Prop
  | .lst xs => ∃ vs, H a = some (.lst vs) ∧ RpA K as H0 vs xs
  | .ins C fs => ∃ Ca dx gs, clsK K C = some Ca ∧ H a = some (.ins Ca dx gs) ∧ gs.map (·.1) = fs.map (·.1) ∧ RpA K as H0 (gs.map (·.2)) (fs.map (·.2))
structure Sr0 (K : PySem.W.Frag) (as : List Addr) (H0 H : Hp) (S : Store) : Prop where
  ex : Ex H0 H
  len : as.length = S.length
  cell : ∀ (n : Nat) (c : Cell) (a : Addr), S[n]? = some (some c) → as[n]? = some a → H0 a = none ∧ CellOk K as H0 H a c
  inj : ∀ (n m : Nat) (c c' : Cell) (a : Addr), S[n]? = some (some c) → S[m]? = some (some c') → as[n]? = some a → as[m]? = some a → n = m
  there : ∀ a, a ∈ as → ∃ o, H a = some o
/-- from one state to a later one -/
structure Nx (as : List Addr) (H0 H : Hp) (as' : List Addr) (H0' H' : Hp) : Prop where
  pre : Pre as as'
  h0 : Ex H0 H0'
  keep : ∀ a o, H a = some o → a ∉ as → H' a = some o
  new : ∀ a, a ∈ as' → a ∉ as → H a = none
  out : ∀ a o, H a = some o → H0 a = none → a ∉ as → H0' a = none
theorem Nx.refl {as : List Addr} {H0 H : Hp} : Nx as H0 H as H0 H := ⟨Pre.refl _, Ex.refl _, fun _ _ h _ => h, fun _ h h' => absurd h h', fun _ _ _ h _ => h⟩
theorem Nx.trans {as as1 as2 : List Addr} {H0 H01 H02 H H1 H2 : Hp} (a : Nx as H0 H as1 H01 H1) (b : Nx as1 H01 H1 as2 H02 H2) : Nx as H0 H as2 H02 H2 where
  pre := a.pre.trans b.pre
  h0 := a.h0.trans b.h0
  keep := fun x o h hx => b.keep x o (a.keep x o h hx) fun z => by
    have := a.new x z hx
    rw [h] at this; cases this
  new := fun x h hx => by
    by_cases z : x ∈ as1
    · exact a.new x z hx
    · have := b.new x h z
      cases q : H x with
      | none => rfl
      | some o => rw [a.keep x o q hx] at this; cases this
  out := fun x o h h0 hx => b.out x o (a.keep x o h hx) (a.out x o h h0 hx) fun z => by
    have := a.new x z hx
    rw [h] at this; cases this
theorem CellOk.lift {K : PySem.W.Frag} {as as' : List Addr} {H0 H0' H H' : Hp} {a : Addr} {c : Cell} (h : CellOk K as H0 H a c) (e : Ex H0 H0') (p : Pre as as') (k : ∀ o, H a = some o → H' a = some o) : CellOk K as' H0' H' a c := by
  cases c with
  | lst xs =>
    obtain ⟨vs, h1, h2⟩ := h
    exact ⟨vs, k _ h1, h2.mono e p⟩
  | ins C fs =>
    obtain ⟨Ca, dx, gs, h0, h1, hk, h2⟩ := h
    exact ⟨Ca, dx, gs, h0, k _ h1, hk, h2.mono e p⟩
theorem CellOk.some {K : PySem.W.Frag} {as : List Addr} {H0 H : Hp} {a : Addr} {c : Cell} (h : CellOk K as H0 H a c) : ∃ o, H a = some o := by
  cases c with
  | lst xs => obtain ⟨vs, h1, _⟩ := h; exact ⟨_, h1⟩
  | ins C fs => obtain ⟨Ca, dx, gs, _, h1, _⟩ := h; exact ⟨_, h1⟩
section
variable {K : PySem.W.Frag} {as : List Addr} {H0 H : Hp} {S : Store}
/-- a new object that never changes -/
theorem Sr0.imm {p : Addr} {o : HO} (r : Sr0 K as H0 H S) (hp : H p = none) : Sr0 K as (upd H0 p o) (upd H p o) S ∧ Nx as H0 H as (upd H0 p o) (upd H p o) := by
  have hp0 : H0 p = none := r.ex.back hp
  have e0 : Ex H0 (upd H0 p o) := Ex.new hp0
  refine ⟨⟨fun a u h => ?_, r.len, fun n c a h1 h2 => ?_, r.inj, fun a ha => ?_⟩, ⟨Pre.refl _, e0, fun a u h _ => (Ex.new hp) a u h, fun a h h' => absurd h h', fun a u h h0 _ => by rw [upd_ne (ne_of_none h hp)]; exact h0⟩⟩
  · by_cases q : a = p
    · subst q; rw [upd_same] at h ⊢; exact h
    · rw [upd_ne q] at h ⊢; exact r.ex a u h
  · obtain ⟨z1, z2⟩ := r.cell n c a h1 h2
    obtain ⟨u, hu⟩ := z2.some
    have ne : a ≠ p := ne_of_none hu hp
    exact ⟨by rw [upd_ne ne]; exact z1, z2.lift e0 (Pre.refl _) fun o h => by rw [upd_ne ne]; exact h⟩
  · obtain ⟨u, hu⟩ := r.there a ha
    exact ⟨u, (Ex.new hp) a u hu⟩
theorem Sr0.apart {p : Addr} (r : Sr0 K as H0 H S) (hp : H p = none) : p ∉ as := fun z => by
  obtain ⟨u, hu⟩ := r.there p z
  rw [hp] at hu; cases hu
/-- a new object, as yet of no kind -/
theorem Sr0.fresh {p : Addr} {o : HO} (r : Sr0 K as H0 H S) (hp : H p = none) : Sr0 K as H0 (upd H p o) S ∧ Nx as H0 H as H0 (upd H p o) := by
  refine ⟨⟨Ex.mut r.ex (r.ex.back hp), r.len, fun n c a h1 h2 => ?_, r.inj, fun a ha => ?_⟩, ⟨Pre.refl _, Ex.refl _, fun a u h _ => (Ex.new hp) a u h, fun a h h' => absurd h h', fun a u h h0 _ => h0⟩⟩
  · obtain ⟨z1, z2⟩ := r.cell n c a h1 h2
    obtain ⟨u, hu⟩ := z2.some
    exact ⟨z1, z2.lift (Ex.refl _) (Pre.refl _) fun o h => by rw [upd_ne (ne_of_none hu hp)]; exact h⟩
  · obtain ⟨u, hu⟩ := r.there a ha
    exact ⟨u, (Ex.new hp) a u hu⟩
/-- an object of no kind changed -/
theorem Sr0.turn {p : Addr} {o : HO} (r : Sr0 K as H0 H S) (h0 : H0 p = none) (hm : p ∉ as) : Sr0 K as H0 (upd H p o) S := by
  refine ⟨Ex.mut r.ex h0, r.len, fun n c a h1 h2 => ?_, r.inj, fun a ha => ?_⟩
  · obtain ⟨z1, z2⟩ := r.cell n c a h1 h2
    have ne : a ≠ p := fun z => hm (by rw [← z]; exact List.mem_of_getElem? h2)
    exact ⟨z1, z2.lift (Ex.refl _) (Pre.refl _) fun o h => by rw [upd_ne ne]; exact h⟩
  · obtain ⟨u, hu⟩ := r.there a ha
    by_cases q : a = p
    · subst q; exact ⟨_, upd_same⟩
    · exact ⟨u, by rw [upd_ne q]; exact hu⟩
/-- .. seen from ahead of it -/
theorem Nx.turn {as1 : List Addr} {H01 H1 : Hp} {p : Addr} {o : HO} (n : Nx as1 H01 H1 as H0 H) (hp : H1 p = none) : Nx as1 H01 H1 as H0 (upd H p o) :=
  ⟨n.pre, n.h0, fun a u h hx => by rw [upd_ne (ne_of_none h hp)]; exact n.keep a u h hx, n.new, n.out⟩
/-- an object of no kind never changes from here on -/
theorem Sr0.adopt {p : Addr} {o : HO} (r : Sr0 K as H0 H S) (h : H p = some o) (h0 : H0 p = none) (hm : p ∉ as) : Sr0 K as (upd H0 p o) H S := by
  have e0 : Ex H0 (upd H0 p o) := Ex.new h0
  refine ⟨fun a u q => ?_, r.len, fun n c a h1 h2 => ?_, r.inj, r.there⟩
  · by_cases z : a = p
    · subst z; rw [upd_same] at q; rw [← q]; exact h
    · rw [upd_ne z] at q; exact r.ex a u q
  · obtain ⟨z1, z2⟩ := r.cell n c a h1 h2
    have ne : a ≠ p := fun z => hm (by rw [← z]; exact List.mem_of_getElem? h2)
    exact ⟨by rw [upd_ne ne]; exact z1, z2.lift e0 (Pre.refl _) fun o h => h⟩
theorem Nx.adopt {as1 : List Addr} {H01 H1 : Hp} {p : Addr} {o : HO} (n : Nx as1 H01 H1 as H0 H) (hp : H1 p = none) (h0 : H0 p = none) : Nx as1 H01 H1 as (upd H0 p o) H :=
  ⟨n.pre, n.h0.trans (Ex.new h0), n.keep, n.new, fun a u h h0 hx => by rw [upd_ne (ne_of_none h hp)]; exact n.out a u h h0 hx⟩
/-- a new object that may change -/
theorem Sr0.alloc {p : Addr} {c : Cell} {o : HO} (r : Sr0 K as H0 H S) (hp : H p = none) (hc : CellOk K as H0 (upd H p o) p c) :
    Sr0 K (as ++ [p]) H0 (upd H p o) (S ++ [some c]) ∧ Nx as H0 H (as ++ [p]) H0 (upd H p o) ∧ (as ++ [p])[S.length]? = some p := by
  have hp0 : H0 p = none := r.ex.back hp
  have hm : p ∉ as := r.apart hp
  have hlast : (as ++ [p])[S.length]? = some p := by
    rw [← r.len, List.getElem?_append_right (Nat.le_refl _), Nat.sub_self]
    rfl
  have back : ∀ (n : Nat) (a : Addr), (as ++ [p])[n]? = some a → as[n]? = some a ∨ (n = S.length ∧ a = p) := fun n a h => by
    by_cases q : n < as.length
    · rw [List.getElem?_append_left q] at h; exact .inl h
    · have hn : n < (as ++ [p]).length := (List.getElem?_eq_some_iff.mp h).1
      rw [List.length_append, List.length_singleton] at hn
      have e : n = S.length := by rw [← r.len]; omega
      subst e
      rw [hlast] at h
      exact .inr ⟨rfl, (Option.some.inj h).symm⟩
  have backS : ∀ (n : Nat) (c' : Cell), n ≠ S.length → (S ++ [some c])[n]? = some (some c') → S[n]? = some (some c') := fun n c' ne h => by
    by_cases q : n < S.length
    · rw [List.getElem?_append_left q] at h; exact h
    · have hn : n < (S ++ [some c]).length := (List.getElem?_eq_some_iff.mp h).1
      rw [List.length_append, List.length_singleton] at hn
      exact absurd (by omega) ne
  have lt_as : ∀ (n : Nat) (a : Addr), as[n]? = some a → n ≠ S.length := fun n a h z => by
    have := (List.getElem?_eq_some_iff.mp h).1
    rw [r.len] at this
    omega
  refine ⟨⟨Ex.mut r.ex hp0, by rw [List.length_append, List.length_append, r.len]; rfl, fun n c' a h1 h2 => ?_, fun n m c1 c2 a h1 h2 h3 h4 => ?_, fun a ha => ?_⟩, ⟨Pre.snoc _ _, Ex.refl _, fun a u h _ => (Ex.new hp) a u h, fun a h h' => ?_, fun a u h h0 _ => h0⟩, hlast⟩
  · rcases back n a h2 with q | ⟨q1, q2⟩
    · obtain ⟨z1, z2⟩ := r.cell n c' a (backS n c' (lt_as n a q) h1) q
      obtain ⟨u, hu⟩ := z2.some
      exact ⟨z1, z2.lift (Ex.refl _) (Pre.snoc _ _) fun o h => by rw [upd_ne (ne_of_none hu hp)]; exact h⟩
    · subst q1 q2
      rw [List.getElem?_append_right (Nat.le_refl _), Nat.sub_self] at h1
      have e : c = c' := by simpa using h1
      subst e
      exact ⟨hp0, hc.lift (Ex.refl _) (Pre.snoc _ _) fun _ h => h⟩
  · rcases back n a h3 with q | ⟨q1, q2⟩
    · rcases back m a h4 with q' | ⟨q1', q2'⟩
      · exact r.inj n m c1 c2 a (backS n c1 (lt_as n a q) h1) (backS m c2 (lt_as m a q') h2) q q'
      · subst q2'
        exact absurd (List.mem_of_getElem? q) hm
    · rcases back m a h4 with q' | ⟨q1', q2'⟩
      · subst q2
        exact absurd (List.mem_of_getElem? q') hm
      · rw [q1, q1']
  · rcases List.mem_append.mp ha with z | z
    · obtain ⟨u, hu⟩ := r.there a z
      exact ⟨u, (Ex.new hp) a u hu⟩
    · have : a = p := by simpa using z
      subst this
      exact ⟨_, upd_same⟩
  · rcases List.mem_append.mp h with z | z
    · exact absurd z h'
    · have : a = p := by simpa using z
      subst this
      exact hp
/-- an object changed -/
theorem Sr0.put {n : Nat} {a : Addr} {c c' : Cell} {o : HO} (r : Sr0 K as H0 H S) (hS : S[n]? = some (some c)) (ha : as[n]? = some a) (hc : CellOk K as H0 (upd H a o) a c') :
    Sr0 K as H0 (upd H a o) (S.set n (some c')) ∧ Nx as H0 H as H0 (upd H a o) := by
  obtain ⟨h0, hk⟩ := r.cell n c a hS ha
  refine ⟨⟨Ex.mut r.ex h0, by rw [List.length_set]; exact r.len, fun m d b h1 h2 => ?_, fun m m' d d' b h1 h2 h3 h4 => ?_, fun b hb => ?_⟩, ⟨Pre.refl _, Ex.refl _, fun b u h hb => ?_, fun b h h' => absurd h h', fun b u h h0 _ => h0⟩⟩
  · by_cases q : n = m
    · subst q
      rw [List.getElem?_set_self (List.getElem?_eq_some_iff.mp hS).1] at h1
      have e : c' = d := by simpa using h1
      subst e
      rw [ha] at h2
      have e2 : a = b := Option.some.inj h2
      subst e2
      exact ⟨h0, hc⟩
    · rw [List.getElem?_set_ne q] at h1
      obtain ⟨z1, z2⟩ := r.cell m d b h1 h2
      have ne : b ≠ a := fun z => by
        subst z
        exact q (r.inj n m c d b hS h1 ha h2)
      exact ⟨z1, z2.lift (Ex.refl _) (Pre.refl _) fun o h => by rw [upd_ne ne]; exact h⟩
  · have old : ∀ (m : Nat) (d : Cell), (S.set n (some c'))[m]? = some (some d) → ∃ d', S[m]? = some (some d') := fun m d h => by
      by_cases q : n = m
      · subst q; exact ⟨c, hS⟩
      · rw [List.getElem?_set_ne q] at h; exact ⟨d, h⟩
    obtain ⟨e1, h1'⟩ := old m d h1
    obtain ⟨e2, h2'⟩ := old m' d' h2
    exact r.inj m m' e1 e2 b h1' h2' h3 h4
  · obtain ⟨u, hu⟩ := r.there b hb
    by_cases q : b = a
    · subst q; exact ⟨_, upd_same⟩
    · exact ⟨u, by rw [upd_ne q]; exact hu⟩
  · rw [upd_ne (fun z => hb (by rw [z]; exact List.mem_of_getElem? ha))]
    exact h
/-- a changing list is closed: it never changes any more -/
theorem Sr0.close {n : Nat} {a : Addr} {xs : List D} (r : Sr0 K as H0 H S) (hS : S[n]? = some (some (.lst xs))) (ha : as[n]? = some a) :
    ∃ H0', Sr0 K as H0' H (S.set n none) ∧ Nx as H0 H as H0' H ∧ Rp K as H0' (.ref a) (.lst xs) := by
  obtain ⟨h0, vs, hv, rv⟩ := r.cell n _ a hS ha
  have e0 : Ex H0 (upd H0 a (.lst vs)) := Ex.new h0
  refine ⟨upd H0 a (.lst vs), ⟨fun b u h => ?_, by rw [List.length_set]; exact r.len, fun m d b h1 h2 => ?_, fun m m' d d' b h1 h2 h3 h4 => ?_, r.there⟩, ⟨Pre.refl _, e0, fun b u h _ => h, fun b h h' => absurd h h', fun b u h h0 hb => by rw [upd_ne (fun z => hb (by rw [z]; exact List.mem_of_getElem? ha))]; exact h0⟩, .lst upd_same (rv.mono e0 (Pre.refl _))⟩
  · by_cases q : b = a
    · subst q; rw [upd_same] at h; rw [← h]; exact hv
    · rw [upd_ne q] at h; exact r.ex b u h
  · by_cases q : n = m
    · subst q
      rw [List.getElem?_set_self (List.getElem?_eq_some_iff.mp hS).1] at h1
      cases h1
    · rw [List.getElem?_set_ne q] at h1
      obtain ⟨z1, z2⟩ := r.cell m d b h1 h2
      have ne : b ≠ a := fun z => by
        subst z
        exact q (r.inj n m _ d b hS h1 ha h2)
      exact ⟨by rw [upd_ne ne]; exact z1, z2.lift e0 (Pre.refl _) fun o h => h⟩
  · have old : ∀ (m : Nat) (d : Cell), (S.set n none)[m]? = some (some d) → S[m]? = some (some d) := fun m d h => by
      by_cases q : n = m
      · subst q
        rw [List.getElem?_set_self (List.getElem?_eq_some_iff.mp hS).1] at h
        cases h
      · rw [List.getElem?_set_ne q] at h; exact h
    exact r.inj m m' d d' b (old m d h1) (old m' d' h2) h3 h4
end

/-! ### a def's start, and what is wished of an exception -/
class Bs where
  /-- what is written -/
  K : PySem.W.Frag
  as : List Addr
  H0 : Hp
  H : Hp
  /-- the kit's wish -/
  wx : WX
  /-- own exception classes by name -/
  cls : Str → Option Addr
/-- the store, and that all comes from the start -/
structure Sr [B : Bs] (K : PySem.W.Frag) (as : List Addr) (H0 H : Hp) (S : Store) : Prop extends Sr0 K as H0 H S where
  nb : Nx B.as B.H0 B.H as H0 H
section
variable [B : Bs] {K : PySem.W.Frag} {as : List Addr} {H0 H : Hp} {S : Store}
theorem Sr.imm {p : Addr} {o : HO} (r : Sr K as H0 H S) (hp : H p = none) : Sr K as (upd H0 p o) (upd H p o) S ∧ Nx as H0 H as (upd H0 p o) (upd H p o) :=
  let ⟨a, n⟩ := r.toSr0.imm (o := o) hp
  ⟨⟨a, r.nb.trans n⟩, n⟩
theorem Sr.apart {p : Addr} (r : Sr K as H0 H S) (hp : H p = none) : p ∉ as := r.toSr0.apart hp
theorem Sr.fresh {p : Addr} {o : HO} (r : Sr K as H0 H S) (hp : H p = none) : Sr K as H0 (upd H p o) S ∧ Nx as H0 H as H0 (upd H p o) :=
  let ⟨a, n⟩ := r.toSr0.fresh (o := o) hp
  ⟨⟨a, r.nb.trans n⟩, n⟩
/-- what is new now was not there at the start -/
theorem Sr.unborn {p : Addr} (r : Sr K as H0 H S) (hp : H p = none) : B.H p = none := by
  cases q : B.H p with
  | none => rfl
  | some o =>
    by_cases z : p ∈ B.as
    · obtain ⟨n, hn⟩ := List.getElem?_of_mem z
      obtain ⟨o', ho'⟩ := r.there p (List.mem_of_getElem? (r.nb.pre n p hn))
      rw [hp] at ho'; cases ho'
    · have := r.nb.keep p o q z
      rw [hp] at this; cases this
theorem Sr.turn {p : Addr} {o : HO} (r : Sr K as H0 H S) (h0 : H0 p = none) (hm : p ∉ as) (hB : B.H p = none) : Sr K as H0 (upd H p o) S := ⟨r.toSr0.turn h0 hm, r.nb.turn hB⟩
theorem Sr.adopt {p : Addr} {o : HO} (r : Sr K as H0 H S) (h : H p = some o) (h0 : H0 p = none) (hm : p ∉ as) (hB : B.H p = none) : Sr K as (upd H0 p o) H S := ⟨r.toSr0.adopt h h0 hm, r.nb.adopt hB h0⟩
theorem Sr.alloc {p : Addr} {c : Cell} {o : HO} (r : Sr K as H0 H S) (hp : H p = none) (hc : CellOk K as H0 (upd H p o) p c) :
    Sr K (as ++ [p]) H0 (upd H p o) (S ++ [some c]) ∧ Nx as H0 H (as ++ [p]) H0 (upd H p o) ∧ (as ++ [p])[S.length]? = some p :=
  let ⟨a, n, e⟩ := r.toSr0.alloc hp hc
  ⟨⟨a, r.nb.trans n⟩, n, e⟩
theorem Sr.put {n : Nat} {a : Addr} {c c' : Cell} {o : HO} (r : Sr K as H0 H S) (hS : S[n]? = some (some c)) (ha : as[n]? = some a) (hc : CellOk K as H0 (upd H a o) a c') :
    Sr K as H0 (upd H a o) (S.set n (some c')) ∧ Nx as H0 H as H0 (upd H a o) :=
  let ⟨b, m⟩ := r.toSr0.put hS ha hc
  ⟨⟨b, r.nb.trans m⟩, m⟩
theorem Sr.close {n : Nat} {a : Addr} {xs : List D} (r : Sr K as H0 H S) (hS : S[n]? = some (some (.lst xs))) (ha : as[n]? = some a) :
    ∃ H0', Sr K as H0' H (S.set n none) ∧ Nx as H0 H as H0' H ∧ Rp K as H0' (.ref a) (.lst xs) :=
  let ⟨h, b, m, p⟩ := r.toSr0.close hS ha
  ⟨h, ⟨b, r.nb.trans m⟩, m, p⟩
end
end PL

set_option Elab.async false
set_option linter.all false
set_option maxRecDepth 100000
set_option maxHeartbeats 4000000
/-! the shallow forms (Ev, Tv, Av, Sv, ..) and their soundness, construct by construct -/
namespace PL
open PySem PySem.Spec PyProof.Rows L2
variable [B : Bs]

omit [B : Bs] in
abbrev Ev := Rho → Store → R D
omit [B : Bs] in
abbrev Tv := Rho → Store → R Bool
omit [B : Bs] in
abbrev Av := Rho → Store → R (List D)
omit [B : Bs] in
abbrev Gv := D → Rho → Store → R Rho
omit [B : Bs] in
inductive Fl where
  | nx (ρ : Rho) | rt (d : D) | bk (ρ : Rho) | ct (ρ : Rho)
omit [B : Bs] in
abbrev Sv := Rho → Store → R Fl
omit [B : Bs] in
abbrev Fn := List D → Store → R D

omit [B : Bs] in
/-- what is fixed while a def's body runs -/
structure G where
  P : Program
  w : World
  K : PySem.W.Frag
  mg : Str → Option Value
  base : Heap
  A : Around
  N : List Str
  L : Nat
  room : Room L A
  nd : N.Nodup
  /-- may an exception leave an expression here -/
  mr : Bool
/-- a context of that body: og: the scope as it is written, sc: as it runs -/
structure Cxt (g : G) (og sc : Scope) (X : Cx) : Prop where
  prog : X.prog = g.P
  w : X.w = g.w
  K : X.K = g.K
  mg : X.mg = g.mg
  base : X.base = g.base
  A : X.A = g.A
  N : X.N = g.N
  scq : X.env.scope = sc
  kind : sc.kind = .function
  calm : X.calm = true
  st : ∀ x, (og.names.lookup x = some .local ∨ og.names.lookup x = some .cell) → L2.Loc sc x ∧ (X.fn x = true ∨ sc.names.lookup x = some .local)
  ps : PassesOwn (model X.prog X.w) X.A X.env X.xe
  tk : g.mr = true → Takes X B.wx
theorem Cxt.room {g : G} {og sc : Scope} {X : Cx} (c : Cxt g og sc X) : Room g.L X.A := by rw [c.A]; exact g.room
theorem Cxt.ndX {g : G} {og sc : Scope} {X : Cx} (c : Cxt g og sc X) : X.N.Nodup := by rw [c.N]; exact g.nd

omit [B : Bs] in
structure Er (K : PySem.W.Frag) (as : List Addr) (H0 : Hp) (σ : L2.St) (ρ : Rho) : Prop where
  len : ρ.length = σ.length
  at_ : ∀ (i : Nat) (d : D), ρ[i]? = some (some d) → ∃ v, σ[i]? = some (some v) ∧ Rp K as H0 v d
omit [B : Bs] in
theorem Er.mono {K : PySem.W.Frag} {as as' : List Addr} {H0 H0' : Hp} {σ : L2.St} {ρ : Rho} (e : Er K as H0 σ ρ) (x : Ex H0 H0') (p : Pre as as') : Er K as' H0' σ ρ :=
  ⟨e.len, fun i d h => let ⟨v, h1, h2⟩ := e.at_ i d h; ⟨v, h1, h2.mono x p⟩⟩
omit [B : Bs] in
theorem Er.set {K : PySem.W.Frag} {as : List Addr} {H0 : Hp} {σ : L2.St} {ρ : Rho} (e : Er K as H0 σ ρ) (i : Nat) {v : V} {d : D} (r : Rp K as H0 v d) : Er K as H0 (σ.set i (some v)) (ρ.set i (some d)) := by
  refine ⟨by rw [List.length_set, List.length_set]; exact e.len, fun j d' h => ?_⟩
  by_cases q : i = j
  · subst q
    by_cases hl : i < ρ.length
    · rw [List.getElem?_set_self hl] at h
      have : d = d' := by simpa using h
      subst this
      exact ⟨v, List.getElem?_set_self (by rw [← e.len]; exact hl), r⟩
    · rw [List.getElem?_eq_none (by rw [List.length_set]; omega)] at h
      cases h
  · rw [List.getElem?_set_ne q] at h ⊢
    exact e.at_ j d' h
omit [B : Bs] in
/-- slots forgotten -/
def wipeR (ρ : Rho) : List Nat → Rho
  | [] => ρ
  | v :: vs => (wipeR ρ vs).set v none
omit [B : Bs] in
theorem Er.wipe {K : PySem.W.Frag} {as : List Addr} {H0 : Hp} {σ : L2.St} {ρ : Rho} (e : Er K as H0 σ ρ) : ∀ vs : List Nat, Er K as H0 (L2.wipe σ vs) (wipeR ρ vs)
  | [] => e
  | v :: vs => by
    have ih := Er.wipe e vs
    refine ⟨by show ((wipeR ρ vs).set v none).length = ((L2.wipe σ vs).set v none).length; rw [List.length_set, List.length_set]; exact ih.len, fun j d' h => ?_⟩
    have h' : ((wipeR ρ vs).set v none)[j]? = some (some d') := h
    show ∃ x, ((L2.wipe σ vs).set v none)[j]? = some (some x) ∧ _
    by_cases q : v = j
    · subst q
      by_cases hl : v < (wipeR ρ vs).length
      · rw [List.getElem?_set_self hl] at h'; cases h'
      · rw [List.getElem?_eq_none (by rw [List.length_set]; omega)] at h'; cases h'
    · rw [List.getElem?_set_ne q] at h' ⊢
      exact ih.at_ j d' h'

/-- what an own exception must meet -/
def NoX : Str → Option D → Rho → Store → Prop := fun c p ρ S' => ∀ as' H0' H' σ', Sr B.K as' H0' H' S' → Er B.K as' H0' σ' ρ → ∃ C, B.cls c = some C ∧ p = none ∧ B.wx (.ref C) none σ' H'
section
variable (K : PySem.W.Frag)
/-- what is wanted of a value, of a truth, of values, behind the state (as, H0, H) -/
def QE (as : List Addr) (H0 H : Hp) (Q : VK) : D → Store → Prop := fun d S' => ∀ v as' H0' H', Nx as H0 H as' H0' H' → Sr K as' H0' H' S' → Rp K as' H0' v d → Q v H'
def QT (as : List Addr) (H0 H : Hp) (Q : Bool → Hp → Prop) : Bool → Store → Prop := fun b S' => ∀ as' H0' H', Nx as H0 H as' H0' H' → Sr K as' H0' H' S' → Q b H'
def QA (as : List Addr) (H0 H : Hp) (Q : List V → Hp → Prop) : List D → Store → Prop := fun ds S' => ∀ vs as' H0' H', Nx as H0 H as' H0' H' → Sr K as' H0' H' S' → RpA K as' H0' vs ds → Q vs H'
def QG (as : List Addr) (H0 H : Hp) (Q : L2.St → Hp → Prop) : Rho → Store → Prop := fun ρ' S' => ∀ σ' as' H0' H', Nx as H0 H as' H0' H' → Sr K as' H0' H' S' → Er K as' H0' σ' ρ' → Q σ' H'
def QS (as : List Addr) (H0 H : Hp) (D : Ends) : Fl → Store → Prop := fun f S' => match f with
  | .nx ρ' => QG K as H0 H D.nx ρ' S'
  | .bk ρ' => QG K as H0 H D.bk ρ' S'
  | .ct ρ' => QG K as H0 H D.ct ρ' S'
  | .rt d => QE K as H0 H D.rt d S'
def SaysE (t : TE) (f : Ev) : Prop := ∀ as H0 H ρ S σ Q, Sr K as H0 H S → Er K as H0 σ ρ → (f ρ S).sat (QE K as H0 H Q) NoX → t σ H Q
def SaysT (t : TT) (f : Tv) : Prop := ∀ as H0 H ρ S σ Q, Sr K as H0 H S → Er K as H0 σ ρ → (f ρ S).sat (QT K as H0 H Q) NoX → t σ H Q
def SaysA (t : TA) (f : Av) : Prop := ∀ as H0 H ρ S σ Q, Sr K as H0 H S → Er K as H0 σ ρ → (f ρ S).sat (QA K as H0 H Q) NoX → t σ H Q
def SaysG (t : TG) (f : Gv) : Prop := ∀ as H0 H ρ S σ v d Q, Sr K as H0 H S → Er K as H0 σ ρ → Rp K as H0 v d → (f d ρ S).sat (QG K as H0 H Q) NoX → t v σ H Q
def SaysGs (t : TGs) (f : List D → Rho → Store → R Rho) : Prop := ∀ as H0 H ρ S σ vs ds Q, Sr K as H0 H S → Er K as H0 σ ρ → RpA K as H0 vs ds → (f ds ρ S).sat (QG K as H0 H Q) NoX → t vs σ H Q
def SaysS (t : TS) (f : Sv) : Prop := ∀ as H0 H ρ S σ D, Sr K as H0 H S → Er K as H0 σ ρ → (f ρ S).sat (QS K as H0 H D) NoX → t D σ H
omit [B : Bs] in
/-- what stays of values -/
structure Nh (as : List Addr) (H0 : Hp) (as' : List Addr) (H0' : Hp) : Prop where
  pre : Pre as as'
  h0 : Ex H0 H0'
omit [B : Bs] in
theorem _root_.PL.Nx.nh {as as' : List Addr} {H0 H H0' H' : Hp} (n : Nx as H0 H as' H0' H') : Nh as H0 as' H0' := ⟨n.pre, n.h0⟩
omit [B : Bs] in
theorem Nh.trans {as as1 as2 : List Addr} {H0 H1 H2 : Hp} (a : Nh as H0 as1 H1) (b : Nh as1 H1 as2 H2) : Nh as H0 as2 H2 := ⟨a.pre.trans b.pre, a.h0.trans b.h0⟩
def Dlv (J : It) (as : List Addr) (H0 H : Hp) (ds : List D) : Prop := ∀ (i : Nat) as' H0' H' S', Nh as H0 as' H0' → Sr K as' H0' H' S' →
  (∀ d, ds[i]? = some d → J.go i H' ∧ ∀ x H'', J.yld i H' x H'' → ∃ H0'', Nx as' H0' H' as' H0'' H'' ∧ Sr K as' H0'' H'' S' ∧ Rp K as' H0'' x d) ∧ (ds.length = i → J.stop i H')
def QI (as : List Addr) (H0 H : Hp) (R : It → Hp → Prop) : List D → Store → Prop := fun ds S' => ∀ J as' H0' H', Nx as H0 H as' H0' H' → Sr K as' H0' H' S' → Dlv K J as' H0' H' ds → R J H'
def SaysI (t : TI) (f : Av) : Prop := ∀ as H0 H ρ S σ R, Sr K as H0 H S → Er K as H0 σ ρ → (f ρ S).sat (QI K as H0 H R) NoX → t σ H R
end
section
variable (g : G) (og sc : Scope)
def SE (e : Expr) (f : Ev) : Prop := ∃ t, (∀ X, Cxt g og sc X → PE X e t) ∧ SaysE g.K t f
def ST (e : Expr) (f : Tv) : Prop := ∃ t, (∀ X, Cxt g og sc X → PT X e t) ∧ SaysT g.K t f
def SA (es : List Expr) (f : Av) : Prop := ∃ t, (∀ X, Cxt g og sc X → PA X es t ∧ ∀ e ∈ es, ∀ z p, e ≠ .Starred z p) ∧ SaysA g.K t f
def SG (e : Expr) (f : Gv) : Prop := ∃ t, (∀ X, Cxt g og sc X → PG X e t) ∧ SaysG g.K t f
def SS (s : Stmt) (f : Sv) : Prop := ∃ t, (∀ X, Cxt g og sc X → PS X s t) ∧ SaysS g.K t f
def SSs (s : List Stmt) (f : Sv) : Prop := ∃ t, (∀ X, Cxt g og sc X → PSs X s t) ∧ SaysS g.K t f
def SI (tg e : Expr) (f : Av) : Prop := ∃ t, (∀ X, Cxt g og sc X → PI X tg e t) ∧ SaysI g.K t f
end

/-! ### going on from a later state -/
section
variable {K : PySem.W.Frag} {as as' : List Addr} {H0 H H0' H' : Hp}
theorem QE.next {Q : VK} {d : D} {S : Store} (n : Nx as H0 H as' H0' H') (q : QE K as H0 H Q d S) : QE K as' H0' H' Q d S := fun v as2 H02 H2 n2 => q v as2 H02 H2 (n.trans n2)
theorem QT.next {Q : Bool → Hp → Prop} {d : Bool} {S : Store} (n : Nx as H0 H as' H0' H') (q : QT K as H0 H Q d S) : QT K as' H0' H' Q d S := fun as2 H02 H2 n2 => q as2 H02 H2 (n.trans n2)
theorem QA.next {Q : List V → Hp → Prop} {d : List D} {S : Store} (n : Nx as H0 H as' H0' H') (q : QA K as H0 H Q d S) : QA K as' H0' H' Q d S := fun v as2 H02 H2 n2 => q v as2 H02 H2 (n.trans n2)
theorem QG.next {Q : L2.St → Hp → Prop} {d : Rho} {S : Store} (n : Nx as H0 H as' H0' H') (q : QG K as H0 H Q d S) : QG K as' H0' H' Q d S := fun v as2 H02 H2 n2 => q v as2 H02 H2 (n.trans n2)
theorem QS.next {D : Ends} {d : Fl} {S : Store} (n : Nx as H0 H as' H0' H') (q : QS K as H0 H D d S) : QS K as' H0' H' D d S := by
  cases d with
  | nx ρ => exact QG.next n q
  | bk ρ => exact QG.next n q
  | ct ρ => exact QG.next n q
  | rt d => exact QE.next n q
theorem QI.next {R : It → Hp → Prop} {d : List D} {S : Store} (n : Nx as H0 H as' H0' H') (q : QI K as H0 H R d S) : QI K as' H0' H' R d S := fun J as2 H02 H2 n2 => q J as2 H02 H2 (n.trans n2)
end

/-! ### names, constants -/
omit [B : Bs] in
def eVar (i : Nat) : Ev := fun ρ S => match ρ[i]? with
  | some (some d) => .ok d S
  | _ => .no
omit [B : Bs] in
def eC (d : D) : Ev := fun _ S => .ok d S
section
variable {g : G} {og sc : Scope}
theorem says_var (K : PySem.W.Frag) (i : Nat) : SaysE K (tVar i) (eVar i) := by
  intro as H0 H ρ S σ Q r e h
  unfold eVar at h
  split at h
  · rename_i d q
    obtain ⟨v, h1, h2⟩ := e.at_ i d q
    exact ⟨v, h1, h v as H0 H Nx.refl r h2⟩
  · exact h.elim
theorem says_c (K : PySem.W.Frag) {v : V} {d : D} (hr : ∀ as H0, Rp K as H0 v d) : SaysE K (tC v) (eC d) := fun as H0 H ρ S σ Q r e h => h v as H0 H Nx.refl r (hr as H0)
omit [B : Bs] in
def visB (sc : Scope) (x : Str) : Bool := match sc.names.lookup x with
  | some .local => true
  | some .cell => true
  | some .free => true
  | _ => false
omit [B : Bs] in
theorem vis_of {sc : Scope} {x : Str} (h : visB sc x = true) : Vis sc x := by
  unfold visB at h
  unfold Vis
  split at h
  · rename_i q; exact .inl q
  · rename_i q; exact .inr (.inl q)
  · rename_i q; exact .inr (.inr q)
  · cases h
omit [B : Bs] in
/-- a name of one's own that is no word of the machine -/
def plainName (x : Str) : Bool := !(x == ("__debug__" : Str)) && !(x == ("__classdict__" : Str))
theorem se_var {i : Nat} {x : Str} {pos : Pos} (hN : g.N[i]? = some x) (hv : visB sc x = true) (hp : plainName x = true) : SE g og sc (.Name x pos) (eVar i) := by
  unfold plainName at hp
  simp only [Bool.and_eq_true, Bool.not_eq_true'] at hp
  exact ⟨tVar i, fun X c => pe_var (by rw [c.N]; exact hN) (by rw [c.scq]; exact vis_of hv) hp.1 hp.2, says_var _ _⟩
theorem se_int {i : Int} {j pos} : SE g og sc (.Constant (.int i) j pos) (eC (.int i)) := ⟨_, fun _ _ => pe_int, says_c _ fun _ _ => .int i⟩
theorem se_bl {b : Bool} {j pos} : SE g og sc (.Constant (.bool b) j pos) (eC (.bl b)) := ⟨_, fun _ _ => pe_bl, says_c _ fun _ _ => .bl b⟩
theorem se_non {j pos} : SE g og sc (.Constant .none j pos) (eC .non) := ⟨_, fun _ _ => pe_non, says_c _ fun _ _ => .non⟩
theorem se_str {x : Str} {j pos} : SE g og sc (.Constant (.str x) j pos) (eC (.str x)) := ⟨_, fun _ _ => pe_str, says_c _ fun _ _ => .str x⟩

/-! ### operators -/
omit [B : Bs] in
abbrev Op2 := Store → D → D → Option D
omit [B : Bs] in
abbrev Op1 := Store → D → Option D
omit [B : Bs] in
abbrev OpN := Store → List D → Option D
def OpS (K : PySem.W.Frag) (r : R2) (o : Op2) : Prop := ∀ as H0 H S v u d e z Q, Sr K as H0 H S → Rp K as H0 v d → Rp K as H0 u e → o S d e = some z → QE K as H0 H Q z S → r v u H Q
def UnS (K : PySem.W.Frag) (r : V → Hp → VK → Prop) (o : Op1) : Prop := ∀ as H0 H S v d z Q, Sr K as H0 H S → Rp K as H0 v d → o S d = some z → QE K as H0 H Q z S → r v H Q
def CaS (K : PySem.W.Frag) (r : List V → Hp → VK → Prop) (o : OpN) : Prop := ∀ as H0 H S vs ds z Q, Sr K as H0 H S → RpA K as H0 vs ds → o S ds = some z → QE K as H0 H Q z S → r vs H Q
omit [B : Bs] in
def ofO (o : Option D) (S : Store) : R D := match o with
  | some d => .ok d S
  | none => .no
omit [B : Bs] in
theorem sat_ofO {o : Option D} {S : Store} {P : D → Store → Prop} {E} (h : (ofO o S).sat P E) : ∃ d, o = some d ∧ P d S := by
  cases o with
  | none => exact h.elim
  | some d => exact ⟨d, rfl, h⟩
omit [B : Bs] in
def eOp (o : Op2) (a b : Ev) : Ev := fun ρ S => (a ρ S).bind fun x S1 => (b ρ S1).bind fun y S2 => ofO (o S2 x y) S2
omit [B : Bs] in
def eUn (o : Op1) (a : Ev) : Ev := fun ρ S => (a ρ S).bind fun x S1 => ofO (o S1 x) S1
theorem says_op {K : PySem.W.Frag} {r : R2} {o : Op2} {ta tb : TE} {a b : Ev} (ho : OpS K r o) (ha : SaysE K ta a) (hb : SaysE K tb b) : SaysE K (tOp r ta tb) (eOp o a b) := by
  intro as H0 H ρ S σ Q r e h
  refine ha as H0 H ρ S σ _ r e (R.sat_mono (R.sat_bind h) (fun x S1 h1 => ?_) fun _ _ _ _ z => z)
  intro v as1 H01 H1 n1 r1 p1
  refine hb as1 H01 H1 ρ S1 σ _ r1 (e.mono n1.h0 n1.pre) (R.sat_mono (R.sat_bind h1) (fun y S2 h2 => ?_) fun _ _ _ _ z => z)
  intro u as2 H02 H2 n2 r2 p2
  obtain ⟨z, ez, q⟩ := sat_ofO h2
  exact ho as2 H02 H2 S2 v u x y z Q r2 (p1.mono n2.h0 n2.pre) p2 ez (QE.next (n1.trans n2) q)
theorem says_un {K : PySem.W.Frag} {r : V → Hp → VK → Prop} {o : Op1} {ta : TE} {a : Ev} (ho : UnS K r o) (ha : SaysE K ta a) : SaysE K (tUn r ta) (eUn o a) := by
  intro as H0 H ρ S σ Q r e h
  refine ha as H0 H ρ S σ _ r e (R.sat_mono (R.sat_bind h) (fun x S1 h1 => ?_) fun _ _ _ _ z => z)
  intro v as1 H01 H1 n1 r1 p1
  obtain ⟨z, ez, q⟩ := sat_ofO h1
  exact ho as1 H01 H1 S1 v x z Q r1 p1 ez (QE.next n1 q)
theorem se_bin {op : Operator} {r : R2} {o : Op2} {ea eb : Expr} {a b : Ev} {pos : Pos} (hr : ∀ X, Cxt g og sc X → OpR X (binaryOp op) r) (ho : OpS g.K r o) (ha : SE g og sc ea a) (hb : SE g og sc eb b) : SE g og sc (.BinOp ea op eb pos) (eOp o a b) := by
  obtain ⟨ta, pa, sa⟩ := ha
  obtain ⟨tb, pb, sb⟩ := hb
  exact ⟨_, fun X c => pe_op (hr X c) (pa X c) (pb X c), says_op ho sa sb⟩
theorem se_un {op : UnaryOp} {r : V → Hp → VK → Prop} {o : Op1} {ea : Expr} {a : Ev} {pos : Pos} (hr : ∀ X, Cxt g og sc X → UnR X (unaryOp op) r) (ho : UnS g.K r o) (ha : SE g og sc ea a) : SE g og sc (.UnaryOp op ea pos) (eUn o a) := by
  obtain ⟨ta, pa, sa⟩ := ha
  exact ⟨_, fun X c => pe_un (hr X c) (pa X c), says_un ho sa⟩
omit [B : Bs] in
def isSetE : Expr → Bool
  | .Set _ _ _ => true
  | _ => false
omit [B : Bs] in
theorem noMark {op : CmpOp} {b : Expr} (h : isSetE b = false) : behindInMarks op b = false := by
  cases b <;> first | rfl | cases h
theorem se_cmp {op : CmpOp} {r : R2} {o : Op2} {ea eb : Expr} {a b : Ev} {pos : Pos} (hm : isSetE eb = false) (hr : ∀ X, Cxt g og sc X → OpR X (compareOp op) r) (ho : OpS g.K r o) (ha : SE g og sc ea a) (hb : SE g og sc eb b) : SE g og sc (.Compare ea [op] [eb] pos) (eOp o a b) := by
  obtain ⟨ta, pa, sa⟩ := ha
  obtain ⟨tb, pb, sb⟩ := hb
  exact ⟨_, fun X c => pe_cmpR (hr X c) (pa X c) (pb X c) (noMark hm), says_op ho sa sb⟩
omit [B : Bs] in
/-- a value that must be a truth -/
def asT (f : Ev) : Tv := fun ρ S => (f ρ S).bind fun x S1 => match x with
  | .bl b => .ok b S1
  | _ => .no
theorem says_asT {K : PySem.W.Frag} {t : TE} {f : Ev} (h : SaysE K t f) : SaysT K (tTest t) (asT f) := by
  intro as H0 H ρ S σ Q r e hh
  refine h as H0 H ρ S σ _ r e (R.sat_mono (R.sat_bind hh) (fun x S1 h1 => ?_) fun _ _ _ _ z => z)
  intro v as1 H01 H1 n1 r1 p1
  cases x with
  | bl b =>
    cases p1
    exact ⟨b, rfl, h1 as1 H01 H1 n1 r1⟩
  | _ => exact h1.elim
theorem st_cmp {op : CmpOp} {r : R2} {o : Op2} {ea eb : Expr} {a b : Ev} {pos : Pos} (hm : isSetE eb = false) (hr : ∀ X, Cxt g og sc X → OpR X (compareOp op) r) (ho : OpS g.K r o) (ha : SE g og sc ea a) (hb : SE g og sc eb b) : ST g og sc (.Compare ea [op] [eb] pos) (asT (eOp o a b)) := by
  obtain ⟨ta, pa, sa⟩ := ha
  obtain ⟨tb, pb, sb⟩ := hb
  exact ⟨_, fun X c => pt_cmpR (hr X c) (pa X c) (pb X c) (noMark hm), says_asT (says_op ho sa sb)⟩
omit [B : Bs] in
/-- any other expression that gives True or False -/
def plainTest : Expr → Bool
  | .UnaryOp .Not _ _ => false
  | .BoolOp _ _ _ => false
  | .IfExp _ _ _ _ => false
  | .Compare _ _ _ _ => false
  | _ => true
theorem st_val {e : Expr} {f : Ev} (hp : plainTest e = true) (h : SE g og sc e f) : ST g og sc e (asT f) := by
  obtain ⟨t, p, s⟩ := h
  refine ⟨tB t, fun X c => pt_val (p X c) fun whole => ?_, says_asT s⟩
  cases e with
  | UnaryOp op a pos => cases op <;> first | rfl | cases hp
  | BoolOp _ _ _ => cases hp
  | IfExp _ _ _ _ => cases hp
  | Compare _ _ _ _ => cases hp
  | _ => rfl

/-! ### and, or, not, if -/
omit [B : Bs] in
def tAndF (a b : Tv) : Tv := fun ρ S => (a ρ S).bind fun x S1 => if x = true then b ρ S1 else .ok false S1
omit [B : Bs] in
def tOrF (a b : Tv) : Tv := fun ρ S => (a ρ S).bind fun x S1 => if x = true then .ok true S1 else b ρ S1
omit [B : Bs] in
def tNotF (a : Tv) : Tv := fun ρ S => (a ρ S).bind fun x S1 => .ok (!x) S1
theorem says_and {K : PySem.W.Frag} {ta tb : TT} {a b : Tv} (ha : SaysT K ta a) (hb : SaysT K tb b) : SaysT K (tAnd ta tb) (tAndF a b) := by
  intro as H0 H ρ S σ Q r e hh
  refine ha as H0 H ρ S σ _ r e (R.sat_mono (R.sat_bind hh) (fun x S1 h1 => ?_) fun _ _ _ _ z => z)
  intro as1 H01 H1 n1 r1
  cases x with
  | true => exact hb as1 H01 H1 ρ S1 σ Q r1 (e.mono n1.h0 n1.pre) (R.sat_mono h1 (fun _ _ q => QT.next n1 q) fun _ _ _ _ z => z)
  | false => exact h1 as1 H01 H1 n1 r1
theorem says_or {K : PySem.W.Frag} {ta tb : TT} {a b : Tv} (ha : SaysT K ta a) (hb : SaysT K tb b) : SaysT K (tOr ta tb) (tOrF a b) := by
  intro as H0 H ρ S σ Q r e hh
  refine ha as H0 H ρ S σ _ r e (R.sat_mono (R.sat_bind hh) (fun x S1 h1 => ?_) fun _ _ _ _ z => z)
  intro as1 H01 H1 n1 r1
  cases x with
  | false => exact hb as1 H01 H1 ρ S1 σ Q r1 (e.mono n1.h0 n1.pre) (R.sat_mono h1 (fun _ _ q => QT.next n1 q) fun _ _ _ _ z => z)
  | true => exact h1 as1 H01 H1 n1 r1
theorem says_not {K : PySem.W.Frag} {ta : TT} {a : Tv} (ha : SaysT K ta a) : SaysT K (tNot ta) (tNotF a) := by
  intro as H0 H ρ S σ Q r e hh
  refine ha as H0 H ρ S σ _ r e (R.sat_mono (R.sat_bind hh) (fun x S1 h1 => ?_) fun _ _ _ _ z => z)
  intro as1 H01 H1 n1 r1
  exact h1 as1 H01 H1 n1 r1
/-- a chain of and, of or, as a test: its whole is not asked -/
def SW (g : G) (og sc : Scope) (e : Expr) (f : Tv) : Prop := ∃ t, (∀ X, Cxt g og sc X → PW X e t) ∧ SaysT g.K t f
theorem SW.st {e : Expr} {f : Tv} (h : SW g og sc e f) : ST g og sc e f := by
  obtain ⟨t, p, s⟩ := h
  exact ⟨t, fun X c => (p X c).pt, s⟩
theorem sw_one {op : BoolOp} {e : Expr} {f : Tv} {pos : Pos} (h : ST g og sc e f) : SW g og sc (.BoolOp op [e] pos) f := by
  obtain ⟨t, p, s⟩ := h
  cases op with
  | And => exact ⟨t, fun X c => pw_and1 (p X c), s⟩
  | Or => exact ⟨t, fun X c => pw_or1 (p X c), s⟩
theorem sw_and {e e2 : Expr} {es : List Expr} {a b : Tv} {pos : Pos} (ha : ST g og sc e a) (hb : SW g og sc (.BoolOp .And (e2 :: es) pos) b) : SW g og sc (.BoolOp .And (e :: e2 :: es) pos) (tAndF a b) := by
  obtain ⟨t, p, s⟩ := ha
  obtain ⟨t', p', s'⟩ := hb
  exact ⟨_, fun X c => pw_and (p X c) (p' X c), says_and s s'⟩
theorem sw_or {e e2 : Expr} {es : List Expr} {a b : Tv} {pos : Pos} (ha : ST g og sc e a) (hb : SW g og sc (.BoolOp .Or (e2 :: es) pos) b) : SW g og sc (.BoolOp .Or (e :: e2 :: es) pos) (tOrF a b) := by
  obtain ⟨t, p, s⟩ := ha
  obtain ⟨t', p', s'⟩ := hb
  exact ⟨_, fun X c => pw_or (p X c) (p' X c), says_or s s'⟩
theorem st_not {e : Expr} {a : Tv} {pos : Pos} (ha : ST g og sc e a) : ST g og sc (.UnaryOp .Not e pos) (tNotF a) := by
  obtain ⟨t, p, s⟩ := ha
  exact ⟨_, fun X c => pt_not (p X c), says_not s⟩
omit [B : Bs] in
/-- the same as values: all but the last one give True or False -/
def eAndF (a b : Ev) : Ev := fun ρ S => (a ρ S).bind fun x S1 => match x with
  | .bl true => b ρ S1
  | .bl false => .ok (.bl false) S1
  | _ => .no
omit [B : Bs] in
def eOrF (a b : Ev) : Ev := fun ρ S => (a ρ S).bind fun x S1 => match x with
  | .bl true => .ok (.bl true) S1
  | .bl false => b ρ S1
  | _ => .no
omit [B : Bs] in
def eNotF (a : Ev) : Ev := fun ρ S => (a ρ S).bind fun x S1 => match x with
  | .bl b => .ok (.bl (!b)) S1
  | _ => .no
theorem says_andV {K : PySem.W.Frag} {ta tb : TE} {a b : Ev} (ha : SaysE K ta a) (hb : SaysE K tb b) : SaysE K (tAndV ta tb) (eAndF a b) := by
  intro as H0 H ρ S σ Q r e hh
  refine ha as H0 H ρ S σ _ r e (R.sat_mono (R.sat_bind hh) (fun x S1 h1 => ?_) fun _ _ _ _ z => z)
  intro v as1 H01 H1 n1 r1 p1
  cases x with
  | bl c =>
    cases p1
    refine ⟨c, rfl, ?_⟩
    cases c with
    | true => exact hb as1 H01 H1 ρ S1 σ Q r1 (e.mono n1.h0 n1.pre) (R.sat_mono h1 (fun _ _ q => QE.next n1 q) fun _ _ _ _ z => z)
    | false => exact h1 _ as1 H01 H1 n1 r1 (.bl false)
  | _ => exact h1.elim
theorem says_orV {K : PySem.W.Frag} {ta tb : TE} {a b : Ev} (ha : SaysE K ta a) (hb : SaysE K tb b) : SaysE K (tOrV ta tb) (eOrF a b) := by
  intro as H0 H ρ S σ Q r e hh
  refine ha as H0 H ρ S σ _ r e (R.sat_mono (R.sat_bind hh) (fun x S1 h1 => ?_) fun _ _ _ _ z => z)
  intro v as1 H01 H1 n1 r1 p1
  cases x with
  | bl c =>
    cases p1
    refine ⟨c, rfl, ?_⟩
    cases c with
    | false => exact hb as1 H01 H1 ρ S1 σ Q r1 (e.mono n1.h0 n1.pre) (R.sat_mono h1 (fun _ _ q => QE.next n1 q) fun _ _ _ _ z => z)
    | true => exact h1 _ as1 H01 H1 n1 r1 (.bl true)
  | _ => exact h1.elim
theorem says_notV {K : PySem.W.Frag} {ta : TE} {a : Ev} (ha : SaysE K ta a) : SaysE K (tNotV ta) (eNotF a) := by
  intro as H0 H ρ S σ Q r e hh
  refine ha as H0 H ρ S σ _ r e (R.sat_mono (R.sat_bind hh) (fun x S1 h1 => ?_) fun _ _ _ _ z => z)
  intro v as1 H01 H1 n1 r1 p1
  cases x with
  | bl c =>
    cases p1
    exact ⟨c, rfl, h1 _ as1 H01 H1 n1 r1 (.bl _)⟩
  | _ => exact h1.elim
theorem se_one {op : BoolOp} {e : Expr} {f : Ev} {pos : Pos} (h : SE g og sc e f) : SE g og sc (.BoolOp op [e] pos) f := by
  obtain ⟨t, p, s⟩ := h
  exact ⟨t, fun X c => pe_one (p X c), s⟩
theorem se_and {e e2 : Expr} {es : List Expr} {a b : Ev} {pos : Pos} (ha : SE g og sc e a) (hb : SE g og sc (.BoolOp .And (e2 :: es) pos) b) : SE g og sc (.BoolOp .And (e :: e2 :: es) pos) (eAndF a b) := by
  obtain ⟨t, p, s⟩ := ha
  obtain ⟨t', p', s'⟩ := hb
  exact ⟨_, fun X c => pe_and (p X c) (p' X c), says_andV s s'⟩
theorem se_or {e e2 : Expr} {es : List Expr} {a b : Ev} {pos : Pos} (ha : SE g og sc e a) (hb : SE g og sc (.BoolOp .Or (e2 :: es) pos) b) : SE g og sc (.BoolOp .Or (e :: e2 :: es) pos) (eOrF a b) := by
  obtain ⟨t, p, s⟩ := ha
  obtain ⟨t', p', s'⟩ := hb
  exact ⟨_, fun X c => pe_or (p X c) (p' X c), says_orV s s'⟩
theorem se_not {e : Expr} {a : Ev} {pos : Pos} (ha : SE g og sc e a) : SE g og sc (.UnaryOp .Not e pos) (eNotF a) := by
  obtain ⟨t, p, s⟩ := ha
  exact ⟨_, fun X c => pe_not (p X c), says_notV s⟩
omit [B : Bs] in
def eIf (c : Tv) (a b : Ev) : Ev := fun ρ S => (c ρ S).bind fun x S1 => if x = true then a ρ S1 else b ρ S1
theorem says_if {K : PySem.W.Frag} {tc : TT} {ta tb : TE} {c : Tv} {a b : Ev} (hc : SaysT K tc c) (ha : SaysE K ta a) (hb : SaysE K tb b) : SaysE K (tIf tc ta tb) (eIf c a b) := by
  intro as H0 H ρ S σ Q r e hh
  refine hc as H0 H ρ S σ _ r e (R.sat_mono (R.sat_bind hh) (fun x S1 h1 => ?_) fun _ _ _ _ z => z)
  intro as1 H01 H1 n1 r1
  cases x with
  | true => exact ha as1 H01 H1 ρ S1 σ Q r1 (e.mono n1.h0 n1.pre) (R.sat_mono h1 (fun _ _ q => QE.next n1 q) fun _ _ _ _ z => z)
  | false => exact hb as1 H01 H1 ρ S1 σ Q r1 (e.mono n1.h0 n1.pre) (R.sat_mono h1 (fun _ _ q => QE.next n1 q) fun _ _ _ _ z => z)
theorem se_if {ec ea eb : Expr} {c : Tv} {a b : Ev} {pos : Pos} (hc : ST g og sc ec c) (ha : SE g og sc ea a) (hb : SE g og sc eb b) : SE g og sc (.IfExp ec ea eb pos) (eIf c a b) := by
  obtain ⟨tc, pc, sc'⟩ := hc
  obtain ⟨ta, pa, sa⟩ := ha
  obtain ⟨tb, pb, sb⟩ := hb
  exact ⟨_, fun X c => pe_ifExp (pc X c) (pa X c) (pb X c), says_if sc' sa sb⟩

/-! ### argument lists, displays -/
omit [B : Bs] in
def aNil : Av := fun _ S => .ok [] S
omit [B : Bs] in
def aCons (a : Ev) (b : Av) : Av := fun ρ S => (a ρ S).bind fun x S1 => (b ρ S1).bind fun xs S2 => .ok (x :: xs) S2
theorem sa_nil : SA g og sc [] aNil := ⟨tNil, fun X c => ⟨pa_nil, fun e h => absurd h (by simp)⟩, fun as H0 H ρ S σ Q r e h => h [] as H0 H Nx.refl r .nil⟩
theorem says_acons {K : PySem.W.Frag} {ta : TE} {tb : TA} {a : Ev} {b : Av} (ha : SaysE K ta a) (hb : SaysA K tb b) : SaysA K (tCons ta tb) (aCons a b) := by
  intro as H0 H ρ S σ Q r e h
  refine ha as H0 H ρ S σ _ r e (R.sat_mono (R.sat_bind h) (fun x S1 h1 => ?_) fun _ _ _ _ z => z)
  intro v as1 H01 H1 n1 r1 p1
  refine hb as1 H01 H1 ρ S1 σ _ r1 (e.mono n1.h0 n1.pre) (R.sat_mono (R.sat_bind h1) (fun y S2 h2 => ?_) fun _ _ _ _ z => z)
  intro u as2 H02 H2 n2 r2 p2
  exact h2 (v :: u) as2 H02 H2 (n1.trans n2) r2 (.cons (p1.mono n2.h0 n2.pre) p2)
omit [B : Bs] in
def isStar : Expr → Bool
  | .Starred _ _ => true
  | _ => false
omit [B : Bs] in
theorem starEach_plain {e : Expr} {es : List Expr} {env : Env} (h : isStar e = false) : starEach (e :: es) env = (false, eval e env) :: starEach es env := by
  cases e <;> first | rfl | cases h
theorem sa_cons {e : Expr} {es : List Expr} {a : Ev} {b : Av} (hs : isStar e = false) (ha : SE g og sc e a) (hb : SA g og sc es b) : SA g og sc (e :: es) (aCons a b) := by
  obtain ⟨ta, pa, sa⟩ := ha
  obtain ⟨tb, pb, sb⟩ := hb
  refine ⟨_, fun X c => ⟨pa_cons (pa X c) (pb X c).1 (starEach_plain hs), fun x hx z p q => ?_⟩, says_acons sa sb⟩
  rcases List.mem_cons.mp hx with k | k
  · subst k; subst q; cases hs
  · exact (pb X c).2 x k z p q
omit [B : Bs] in
theorem star_none {es : List Expr} {env : Env} (h : ∀ e ∈ es, ∀ z p, e ≠ .Starred z p) (pos : Pos) : (backTo pos (starEach es env)).any (·.1) = false := by
  have h2 : ∀ es : List Expr, (∀ e ∈ es, ∀ z p, e ≠ .Starred z p) → ∀ x ∈ starEach es env, x.1 = false := by
    intro es
    induction es with
    | nil => intro _ x hx; simp [starEach] at hx
    | cons e r ih =>
      intro h x hx
      have hs : isStar e = false := by
        cases e <;> first | rfl | exact absurd rfl (h _ List.mem_cons_self _ _)
      rw [starEach_plain hs] at hx
      rcases List.mem_cons.mp hx with k | k
      · rw [k]
      · exact ih (fun e he => h e (List.mem_cons_of_mem _ he)) x k
  rw [List.any_eq_false]
  intro x hx
  have hm : ∃ y ∈ starEach es env, y.1 = x.1 := by
    unfold backTo at hx
    first
      | (obtain ⟨y, hy, e⟩ := List.mem_map.mp hx; exact ⟨y, hy, by rw [← e]⟩)
      | (simp only [List.mem_map] at hx; obtain ⟨y, hy, e⟩ := hx; exact ⟨y, hy, by rw [← e]⟩)
  obtain ⟨y, hy, e⟩ := hm
  rw [← e, h2 es h y hy]
  simp
omit [B : Bs] in
def eTup (b : Av) : Ev := fun ρ S => (b ρ S).bind fun xs S1 => if xs.length ≤ 1000 then .ok (.tup xs) S1 else .no
omit [B : Bs] in
def eLst (b : Av) : Ev := fun ρ S => (b ρ S).bind fun xs S1 => if xs.length ≤ 1000 then .ok (.lst xs) S1 else .no
omit [B : Bs] in
/-- a list that may change -/
def eNew (b : Av) : Ev := fun ρ S => (b ρ S).bind fun xs S1 => if xs.length ≤ 1000 then .ok (.ref S1.length) (S1 ++ [some (.lst xs)]) else .no
omit [B : Bs] in
theorem le_line {n : Nat} (h : n ≤ 1000) : n ≤ sizeLine := Nat.le_trans h (by decide)
theorem se_tup {es : List Expr} {b : Av} {k : Nat} {pos : Pos} (hb : SA g og sc es b) : SE g og sc (.Tuple es k pos) (eTup b) := by
  obtain ⟨tb, pb, sb⟩ := hb
  refine ⟨_, fun X c => pe_tup (pb X c).1, fun as H0 H ρ S σ Q r e h => ?_⟩
  refine sb as H0 H ρ S σ _ r e (R.sat_mono (R.sat_bind h) (fun xs S1 h1 => ?_) fun _ _ _ _ z => z)
  intro vs as1 H01 H1 n1 r1 p1
  split at h1
  · rename_i hl
    refine ⟨by rw [p1.length]; exact le_line hl, fun p hp => ?_⟩
    obtain ⟨r2, n2⟩ := r1.imm (o := .tup vs) hp
    exact h1 _ as1 _ _ (n1.trans n2) r2 (.tup upd_same (p1.mono n2.h0 n2.pre))
  · exact h1.elim
theorem se_lst {es : List Expr} {b : Av} {pos : Pos} (hb : SA g og sc es b) : SE g og sc (.List es pos) (eLst b) := by
  obtain ⟨tb, pb, sb⟩ := hb
  refine ⟨_, fun X c => pe_lst (pb X c).1, fun as H0 H ρ S σ Q r e h => ?_⟩
  refine sb as H0 H ρ S σ _ r e (R.sat_mono (R.sat_bind h) (fun xs S1 h1 => ?_) fun _ _ _ _ z => z)
  intro vs as1 H01 H1 n1 r1 p1
  split at h1
  · rename_i hl
    refine ⟨by rw [p1.length]; exact le_line hl, fun p hp => ?_⟩
    obtain ⟨r2, n2⟩ := r1.imm (o := .lst vs) hp
    exact h1 _ as1 _ _ (n1.trans n2) r2 (.lst upd_same (p1.mono n2.h0 n2.pre))
  · exact h1.elim
theorem se_new {es : List Expr} {b : Av} {pos : Pos} (hb : SA g og sc es b) : SE g og sc (.List es pos) (eNew b) := by
  obtain ⟨tb, pb, sb⟩ := hb
  refine ⟨_, fun X c => pe_lst (pb X c).1, fun as H0 H ρ S σ Q r e h => ?_⟩
  refine sb as H0 H ρ S σ _ r e (R.sat_mono (R.sat_bind h) (fun xs S1 h1 => ?_) fun _ _ _ _ z => z)
  intro vs as1 H01 H1 n1 r1 p1
  split at h1
  · rename_i hl
    refine ⟨by rw [p1.length]; exact le_line hl, fun p hp => ?_⟩
    obtain ⟨r2, n2, hl2⟩ := r1.alloc (c := .lst xs) (o := .lst vs) hp ⟨vs, upd_same, p1⟩
    exact h1 _ _ _ _ (n1.trans n2) r2 (.ref hl2)
  · exact h1.elim
omit [B : Bs] in
/-- a changing list is closed -/
def eFrz (f : Ev) : Ev := fun ρ S => (f ρ S).bind fun x S1 => match x with
  | .ref n => (match S1[n]? with
    | some (some (.lst xs)) => .ok (.lst xs) (S1.set n none)
    | _ => .no)
  | _ => .no
theorem se_frz {e : Expr} {f : Ev} (h : SE g og sc e f) : SE g og sc e (eFrz f) := by
  obtain ⟨t, p, s⟩ := h
  refine ⟨t, p, fun as H0 H ρ S σ Q r e h => ?_⟩
  refine s as H0 H ρ S σ _ r e (R.sat_mono (R.sat_bind h) (fun x S1 h1 => ?_) fun _ _ _ _ z => z)
  intro v as1 H01 H1 n1 r1 p1
  cases x with
  | ref n =>
    dsimp only at h1
    split at h1
    · rename_i xs q
      cases p1 with
      | ref ha =>
        obtain ⟨H02, r2, n2, p2⟩ := r1.close q ha
        exact h1 _ _ _ _ (n1.trans n2) r2 p2
    · exact h1.elim
  | _ => exact h1.elim
omit [B : Bs] in
/-- a call of a built-in by values -/
def eCaN (o : OpN) (b : Av) : Ev := fun ρ S => (b ρ S).bind fun xs S1 => ofO (o S1 xs) S1
theorem says_cb {K : PySem.W.Frag} {r : List V → Hp → VK → Prop} {o : OpN} {tb : TA} {b : Av} (ho : CaS K r o) (hb : SaysA K tb b) : SaysE K (tCB r tb) (eCaN o b) := by
  intro as H0 H ρ S σ Q r e h
  refine hb as H0 H ρ S σ _ r e (R.sat_mono (R.sat_bind h) (fun xs S1 h1 => ?_) fun _ _ _ _ z => z)
  intro vs as1 H01 H1 n1 r1 p1
  obtain ⟨z, ez, q⟩ := sat_ofO h1
  exact ho as1 H01 H1 S1 vs xs z Q r1 p1 ez (QE.next n1 q)
/-- a name that only the built-ins have -/
def Blt (g : G) (sc : Scope) (x : Str) : Prop := g.mg x = none ∧ sc.names.lookup x = some .globalImplicit ∧ x ≠ "__name__" ∧ (x == ("__debug__" : Str)) = false
theorem gl_of {X : Cx} {x : Str} (c : Cxt g og sc X) (h : sc.names.lookup x = some .globalImplicit) : Gl X x := by
  show X.env.scope.names.lookup x = _
  rw [c.scq]; exact h
theorem se_callB {x : Str} {id : String} {r : List V → Hp → VK → Prop} {o : OpN} {e : Expr} {es : List Expr} {b : Av} {p pos : Pos} (hx : Blt g sc x) (hv : bootBuiltins x = some (.builtin id)) (hr : ∀ X, Cxt g og sc X → CallR X (.builtin id) r) (ho : CaS g.K r o) (hb : SA g og sc (e :: es) b) :
    SE g og sc (.Call (.Name x p) (e :: es) [] pos) (eCaN o b) := by
  obtain ⟨tb, pb, sb⟩ := hb
  obtain ⟨h1, h2, h3, h4⟩ := hx
  refine ⟨_, fun X c => ?_, says_cb ho sb⟩
  obtain ⟨q1, q2⟩ := pb X c
  exact pe_callB (hr X c) (gl_of c h2) (by rw [c.mg]; exact h1) hv q1 h3 h4 (starEach_plain (by cases e <;> first | rfl | exact absurd rfl (q2 _ List.mem_cons_self _ _))) (star_none (fun e he => q2 e (List.mem_cons_of_mem _ he)) pos)
theorem se_callTy {x : Str} {T : String} {r : List V → Hp → VK → Prop} {o : OpN} {e : Expr} {es : List Expr} {b : Av} {p pos : Pos} (hx : Blt g sc x) (hv : bootBuiltins x = some (.type T)) (hr : ∀ X, Cxt g og sc X → CallR X (.type T) r) (ho : CaS g.K r o) (hb : SA g og sc (e :: es) b) :
    SE g og sc (.Call (.Name x p) (e :: es) [] pos) (eCaN o b) := by
  obtain ⟨tb, pb, sb⟩ := hb
  obtain ⟨h1, h2, h3, h4⟩ := hx
  refine ⟨_, fun X c => ?_, says_cb ho sb⟩
  obtain ⟨q1, q2⟩ := pb X c
  exact pe_callTy (hr X c) (gl_of c h2) (by rw [c.mg]; exact h1) hv q1 h3 h4 (starEach_plain (by cases e <;> first | rfl | exact absurd rfl (q2 _ List.mem_cons_self _ _))) (star_none (fun e he => q2 e (List.mem_cons_of_mem _ he)) pos)
/-- a built-in class as a value -/
theorem se_ty {x : Str} {T : Tn} {pos : Pos} (hx : Blt g sc x) (hv : bootBuiltins x = some (.type T.name)) : SE g og sc (.Name x pos) (eC (.ty T)) := by
  obtain ⟨h1, h2, h3, h4⟩ := hx
  exact ⟨_, fun X c => pe_bltn (gl_of c h2) (by rw [c.mg]; exact h1) hv (v := .ty T.name) rfl h3 h4, says_c _ fun _ _ => .ty T⟩
/-- a module's whole number -/
theorem se_glob {x : Str} {i : Int} {t : Tok} {pos : Pos} (hg : sc.names.lookup x = some .globalImplicit) (hm : g.mg x = some (.int i t)) (hd : (x == ("__debug__" : Str)) = false) : SE g og sc (.Name x pos) (eC (.int i)) :=
  ⟨_, fun X c => pe_glob (gl_of c hg) (by rw [c.mg]; exact hm) (v := .int i) ⟨t, rfl⟩ hd, says_c _ fun _ _ => .int i⟩
/-! ### subscripts, slices -/
theorem se_ix {r : R2} {o : Op2} {ea eb : Expr} {a b : Ev} {pos : Pos} (hp : PlainIx eb) (hr : ∀ X, Cxt g og sc X → IxR X r) (ho : OpS g.K r o) (ha : SE g og sc ea a) (hb : SE g og sc eb b) : SE g og sc (.Subscript ea eb pos) (eOp o a b) := by
  obtain ⟨ta, pa, sa⟩ := ha
  obtain ⟨tb, pb, sb⟩ := hb
  exact ⟨_, fun X c => pe_ix (hr X c) (pa X c) (pb X c) hp, says_op ho sa sb⟩
omit [B : Bs] in
abbrev Pv := Rho → Store → R (Option Int)
def SaysO (K : PySem.W.Frag) (t : TO) (f : Pv) : Prop := ∀ as H0 H ρ S σ Q, Sr K as H0 H S → Er K as H0 σ ρ → (f ρ S).sat (fun o S' => ∀ as' H0' H', Nx as H0 H as' H0' H' → Sr K as' H0' H' S' → Q o H') NoX → t σ H Q
def SO (g : G) (og sc : Scope) (e : Option Expr) (f : Pv) : Prop := ∃ t, (∀ X, Cxt g og sc X → PO X e t) ∧ SaysO g.K t f
omit [B : Bs] in
def oNone : Pv := fun _ S => .ok none S
omit [B : Bs] in
def oSome (a : Ev) : Pv := fun ρ S => (a ρ S).bind fun x S1 => match x with
  | .int i => .ok (some i) S1
  | _ => .no
theorem so_none : SO g og sc none oNone := ⟨tNoPart, fun X c => po_none, fun as H0 H ρ S σ Q r e h => h as H0 H Nx.refl r⟩
theorem so_some {e : Expr} {a : Ev} (ha : SE g og sc e a) : SO g og sc (some e) (oSome a) := by
  obtain ⟨ta, pa, sa⟩ := ha
  refine ⟨tPart ta, fun X c => po_some (pa X c), fun as H0 H ρ S σ Q r e h => ?_⟩
  refine sa as H0 H ρ S σ _ r e (R.sat_mono (R.sat_bind h) (fun x S1 h1 => ?_) fun _ _ _ _ z => z)
  intro v as1 H01 H1 n1 r1 p1
  cases x with
  | int i =>
    cases p1
    exact ⟨i, rfl, h1 as1 H01 H1 n1 r1⟩
  | _ => exact h1.elim
omit [B : Bs] in
abbrev OpSl := Store → D → Option Int → Option Int → Option D
def SlS (K : PySem.W.Frag) (r : V → Option Int → Option Int → Hp → VK → Prop) (o : OpSl) : Prop := ∀ as H0 H S v d lo hi z Q, Sr K as H0 H S → Rp K as H0 v d → o S d lo hi = some z → QE K as H0 H Q z S → r v lo hi H Q
omit [B : Bs] in
def eSl (o : OpSl) (a : Ev) (lo hi : Pv) : Ev := fun ρ S => (a ρ S).bind fun x S1 => (lo ρ S1).bind fun l S2 => (hi ρ S2).bind fun h S3 => ofO (o S3 x l h) S3
theorem se_slice {r : V → Option Int → Option Int → Hp → VK → Prop} {o : OpSl} {ea : Expr} {el eh : Option Expr} {a : Ev} {lo hi : Pv} {p2 pos : Pos} (hr : ∀ X, Cxt g og sc X → SlR X r) (ho : SlS g.K r o) (ha : SE g og sc ea a) (hl : SO g og sc el lo) (hh : SO g og sc eh hi) :
    SE g og sc (.Subscript ea (.Slice el eh none p2) pos) (eSl o a lo hi) := by
  obtain ⟨ta, pa, sa⟩ := ha
  obtain ⟨tl, pl, sl⟩ := hl
  obtain ⟨th, ph, sh⟩ := hh
  refine ⟨_, fun X c => pe_slice (hr X c) (pa X c) (pl X c) (ph X c), fun as H0 H ρ S σ Q r e h => ?_⟩
  refine sa as H0 H ρ S σ _ r e (R.sat_mono (R.sat_bind h) (fun x S1 h1 => ?_) fun _ _ _ _ z => z)
  intro v as1 H01 H1 n1 r1 p1
  refine sl as1 H01 H1 ρ S1 σ _ r1 (e.mono n1.h0 n1.pre) (R.sat_mono (R.sat_bind h1) (fun l S2 h2 => ?_) fun _ _ _ _ z => z)
  intro as2 H02 H2 n2 r2
  refine sh as2 H02 H2 ρ S2 σ _ r2 ((e.mono n1.h0 n1.pre).mono n2.h0 n2.pre) (R.sat_mono (R.sat_bind h2) (fun l2 S3 h3 => ?_) fun _ _ _ _ z => z)
  intro as3 H03 H3 n3 r3
  obtain ⟨z, ez, q⟩ := sat_ofO h3
  exact ho as3 H03 H3 S3 v x l l2 z Q r3 ((p1.mono n2.h0 n2.pre).mono n3.h0 n3.pre) ez (QE.next ((n1.trans n2).trans n3) q)
end
end PL

set_option Elab.async false
set_option linter.all false
set_option maxRecDepth 100000
set_option maxHeartbeats 4000000
/-! calls of defs, methods of built-in types, targets, statements, loops, comprehensions -/
namespace PL
open PySem PySem.Spec PyProof.Rows L2
variable [B : Bs]

/-! ### what a def promises: it runs as F -/
omit [B : Bs] in
/-- the start of a callee -/
def bsOf (K : PySem.W.Frag) (cls : Str → Option Addr) (as : List Addr) (H0 H : Hp) (E : XK) : Bs := ⟨K, as, H0, H, fun c d _ H' => E c d H', cls⟩
def spF (K : PySem.W.Frag) (cls : Str → Option Addr) (n : Nat) (F : Fn) : Sp := fun vs H Q E => vs.length = n ∧ ∃ as H0 S ds, Sr0 K as H0 H S ∧ RpA K as H0 vs ds ∧ (F ds S).sat (@QE (bsOf K cls as H0 H E) K as H0 H Q) (@NoX (bsOf K cls as H0 H E))
omit [B : Bs] in
/-- an exception out of a callee comes at the caller's slots -/
def R.at {α : Type} (r : R α) (ρ : Rho) : R α := match r with
  | .ok a S => .ok a S
  | .ex c p _ S => .ex c p ρ S
  | .no => .no
omit [B : Bs] in
def eCall (F : Fn) (n : Nat) (b : Av) : Ev := fun ρ S => (b ρ S).bind fun xs S1 => if xs.length = n then (F xs S1).at ρ else .no
omit [B : Bs] in
/-- .. that may not raise -/
def R.calm {α : Type} (r : R α) : R α := match r with
  | .ok a S => .ok a S
  | _ => .no
omit [B : Bs] in
def eCallN (F : Fn) (n : Nat) (b : Av) : Ev := fun ρ S => (b ρ S).bind fun xs S1 => if xs.length = n then (F xs S1).calm else .no
structure FnA (g : G) (x : Str) (n : Nat) (F : Fn) : Prop where
  K : g.K = B.K
  ex : ∃ (k : Nat) (f : Addr) (fd : FuncData) (ps : List Str), k ≤ g.L ∧ g.mg x = some (.ref f) ∧ PySem.W.keepIn g.K (.ref f) = true ∧ Binds g.K fd ps [] ∧ FnOk g.P g.w g.K g.mg g.base (L2.CX g.P g.w) k f fd ps (spF g.K B.cls n F)
section
variable {g : G} {og sc : Scope}
theorem sr_parts {B' : Bs} {K : PySem.W.Frag} {as : List Addr} {H0 H : Hp} {S : Store} (r : @Sr B' K as H0 H S) : Sr0 K as H0 H S ∧ Nx B'.as B'.H0 B'.H as H0 H := ⟨@Sr.toSr0 B' _ _ _ _ _ r, @Sr.nb B' _ _ _ _ _ r⟩
theorem spf_at {K : PySem.W.Frag} (hK : K = B.K) {F : Fn} {n : Nat} {as as1 : List Addr} {H0 H H01 H1 : Hp} {ρ : Rho} {σ : L2.St} {S1 : Store} {vs : List V} {xs : List D} {Q : VK} (e : Er K as H0 σ ρ) (n1 : Nx as H0 H as1 H01 H1) (r1 : Sr K as1 H01 H1 S1) (p1 : RpA K as1 H01 vs xs) (hl : xs.length = n)
    (h : ((F xs S1).at ρ).sat (QE K as H0 H Q) NoX) : spF K B.cls n F vs H1 Q (WE B.wx σ) := by
  subst hK
  refine ⟨by rw [p1.length]; exact hl, as1, H01, S1, xs, r1.toSr0, p1, ?_⟩
  cases q : F xs S1 with
  | ok d S2 =>
    rw [q] at h
    have h : QE B.K as H0 H Q d S2 := h
    intro v as' H0' H' n' r' p
    exact h v as' H0' H' (n1.trans n') ⟨(sr_parts r').1, r1.nb.trans n'⟩ p
  | ex c p ρ' S2 =>
    rw [q] at h
    have h : NoX c p ρ S2 := h
    intro as' H0' H' σ' r' e'
    have nb : Nx as1 H01 H1 as' H0' H' := (sr_parts r').2
    exact h as' H0' H' σ ⟨(sr_parts r').1, r1.nb.trans nb⟩ (e.mono (n1.trans nb).h0 (n1.trans nb).pre)
  | no => rw [q] at h; exact h.elim
theorem spf_calm {K : PySem.W.Frag} {F : Fn} {n : Nat} {as as1 : List Addr} {H0 H H01 H1 : Hp} {S1 : Store} {vs : List V} {xs : List D} {Q : VK} {E : XK} (n1 : Nx as H0 H as1 H01 H1) (r1 : Sr K as1 H01 H1 S1) (p1 : RpA K as1 H01 vs xs) (hl : xs.length = n)
    (h : ((F xs S1).calm).sat (QE K as H0 H Q) NoX) : spF K B.cls n F vs H1 Q E := by
  refine ⟨by rw [p1.length]; exact hl, as1, H01, S1, xs, r1.toSr0, p1, ?_⟩
  cases q : F xs S1 with
  | ok d S2 =>
    rw [q] at h
    have h : QE K as H0 H Q d S2 := h
    intro v as' H0' H' n' r' p
    exact h v as' H0' H' (n1.trans n') ⟨(sr_parts r').1, r1.nb.trans n'⟩ p
  | ex c p ρ' S2 => rw [q] at h; exact h.elim
  | no => rw [q] at h; exact h.elim
theorem says_call {K : PySem.W.Frag} (hK : K = B.K) {F : Fn} {n : Nat} {tb : TA} {b : Av} (hb : SaysA K tb b) : SaysE K (tCallS (spF K B.cls n F) (WE B.wx) tb) (eCall F n b) := by
  intro as H0 H ρ S σ Q r e h
  refine hb as H0 H ρ S σ _ r e (R.sat_mono (R.sat_bind h) (fun xs S1 h1 => ?_) fun _ _ _ _ z => z)
  intro vs as1 H01 H1 n1 r1 p1
  split at h1
  · rename_i hl
    exact spf_at hK e n1 r1 p1 hl h1
  · exact h1.elim
theorem says_callN {K : PySem.W.Frag} {F : Fn} {n : Nat} {tb : TA} {b : Av} (hb : SaysA K tb b) : SaysE K (tCall (spF K B.cls n F) [] E0 tb) (eCallN F n b) := by
  intro as H0 H ρ S σ Q r e h
  refine hb as H0 H ρ S σ _ r e (R.sat_mono (R.sat_bind h) (fun xs S1 h1 => ?_) fun _ _ _ _ z => z)
  intro vs as1 H01 H1 n1 r1 p1
  split at h1
  · rename_i hl
    exact spf_calm n1 r1 (by rw [List.append_nil]; exact p1) hl h1
  · exact h1.elim
omit [B : Bs] in
theorem passN {X : Cx} : Passes (L2.CX X.prog X.w) X E0 := fun _ _ _ _ _ _ _ h => by
  obtain ⟨_, _, _, _, _, _, _, _, _, _, _, _, z⟩ := h
  exact z.elim
theorem se_call {x : Str} {n : Nat} {F : Fn} {e : Expr} {es : List Expr} {b : Av} {p pos : Pos} (hr : g.mr = true) (hF : FnA g x n F) (hg : sc.names.lookup x = some .globalImplicit) (hd : (x == ("__debug__" : Str)) = false) (hb : SA g og sc (e :: es) b) :
    SE g og sc (.Call (.Name x p) (e :: es) [] pos) (eCall F n b) := by
  obtain ⟨tb, pb, sb⟩ := hb
  obtain ⟨k, f, fd, ps, hk, hm, kp, bi, ok⟩ := hF.ex
  refine ⟨_, fun X c => ?_, says_call hF.K (F := F) (n := n) sb⟩
  obtain ⟨q1, q2⟩ := pb X c
  have ok' : FnOk X.prog X.w X.K X.mg X.base (L2.CX X.prog X.w) k f fd ps (spF g.K B.cls n F) := by rw [c.prog, c.w, c.K, c.mg, c.base]; exact ok
  exact pe_callS ok' (c.room.mono hk) (gl_of c hg) (by rw [c.mg]; exact hm) (by rw [c.K]; exact kp) (by rw [c.K]; exact bi) (fun σ => passAt (c.tk hr) σ) q1 hd (starEach_plain (by cases e <;> first | rfl | exact absurd rfl (q2 _ List.mem_cons_self _ _))) (star_none (fun e he => q2 e (List.mem_cons_of_mem _ he)) pos)
theorem se_callN {x : Str} {n : Nat} {F : Fn} {e : Expr} {es : List Expr} {b : Av} {p pos : Pos} (hF : FnA g x n F) (hg : sc.names.lookup x = some .globalImplicit) (hd : (x == ("__debug__" : Str)) = false) (hb : SA g og sc (e :: es) b) :
    SE g og sc (.Call (.Name x p) (e :: es) [] pos) (eCallN F n b) := by
  obtain ⟨tb, pb, sb⟩ := hb
  obtain ⟨k, f, fd, ps, hk, hm, kp, bi, ok⟩ := hF.ex
  refine ⟨_, fun X c => ?_, says_callN (F := F) (n := n) sb⟩
  obtain ⟨q1, q2⟩ := pb X c
  have ok' : FnOk X.prog X.w X.K X.mg X.base (L2.CX X.prog X.w) k f fd ps (spF g.K B.cls n F) := by rw [c.prog, c.w, c.K, c.mg, c.base]; exact ok
  exact pe_call ok' (c.room.mono hk) (gl_of c hg) (by rw [c.mg]; exact hm) (by rw [c.K]; exact kp) (by rw [c.K]; exact bi) .nil passN q1 hd (starEach_plain (by cases e <;> first | rfl | exact absurd rfl (q2 _ List.mem_cons_self _ _))) (star_none (fun e he => q2 e (List.mem_cons_of_mem _ he)) pos)
theorem se_call0 {x : Str} {F : Fn} {p pos : Pos} (hF : FnA g x 0 F) (hg : sc.names.lookup x = some .globalImplicit) (hd : (x == ("__debug__" : Str)) = false) :
    SE g og sc (.Call (.Name x p) [] [] pos) (eCallN F 0 aNil) := by
  obtain ⟨k, f, fd, ps, hk, hm, kp, bi, ok⟩ := hF.ex
  refine ⟨_, fun X c => ?_, says_callN (F := F) (n := 0) (fun as H0 H ρ S σ Q r e h => h [] as H0 H Nx.refl r .nil : SaysA g.K tNil aNil)⟩
  have ok' : FnOk X.prog X.w X.K X.mg X.base (L2.CX X.prog X.w) k f fd ps (spF g.K B.cls 0 F) := by rw [c.prog, c.w, c.K, c.mg, c.base]; exact ok
  exact pe_call0 ok' (c.room.mono hk) (gl_of c hg) (by rw [c.mg]; exact hm) (by rw [c.K]; exact kp) (by rw [c.K]; exact bi) .nil passN hd

/-! ### methods of built-in types -/
omit [B : Bs] in
def isCallE : Expr → Bool
  | .Call _ [] [] _ => true
  | _ => false
omit [B : Bs] in
theorem base_plain {o : Expr} {m : Str} {env : Env} {whole : Sem Value} (h : isCallE o = false) : attributeBase o m env whole = whole := by
  unfold attributeBase
  split
  · cases h
  · rfl
omit [B : Bs] in
/-- a method by values: the store may change -/
abbrev OpM := D → List D → Store → R D
omit [B : Bs] in
/-- what type the receiver has -/
def tyD (T : String) (S : Store) : D → Bool
  | .str _ => T == "str"
  | .lst _ => T == "list"
  | .ref n => (match S[n]? with
    | some (some (.lst _)) => T == "list"
    | _ => false)
  | .dct _ _ => T == "dict"
  | _ => false
theorem tyV_of {K : PySem.W.Frag} {as : List Addr} {H0 H : Hp} {S : Store} {T : String} {v : V} {d : D} (r : Sr K as H0 H S) (p : Rp K as H0 v d) (h : tyD T S d = true) : tyV K T v H := by
  cases p with
  | str x => exact beq_iff_eq.mp h
  | lst h1 h2 => exact .inl ⟨beq_iff_eq.mp h, _, SqL.of (r.ex _ _ h1)⟩
  | ref ha =>
    rename_i a n
    unfold tyD at h
    dsimp only at h
    split at h
    · rename_i xs q
      obtain ⟨_, vs, h1, _⟩ := r.cell n _ a q ha
      exact .inl ⟨beq_iff_eq.mp h, vs, SqL.of h1⟩
    · cases h
  | dct h1 h2 h3 => exact .inr (.inr (.inl ⟨beq_iff_eq.mp h, .inl ⟨_, r.ex _ _ h1⟩⟩))
  | _ => cases h
def MtS' (K : PySem.W.Frag) (r : V → List V → Hp → VK → Prop) (o : OpM) : Prop :=
  ∀ as H0 H S v d vs ds Q, Sr K as H0 H S → Rp K as H0 v d → RpA K as H0 vs ds → (o d ds S).sat (QE K as H0 H Q) NoX → r v vs H Q
omit [B : Bs] in
def eMt (T : String) (o : OpM) (a : Ev) (b : Av) : Ev := fun ρ S => (a ρ S).bind fun x S1 => if tyD T S1 x = true then (b ρ S1).bind fun xs S2 => o x xs S2 else .no
theorem se_mt {T id : String} {name : Str} {r : V → List V → Hp → VK → Prop} {o : OpM} {ea e : Expr} {es : List Expr} {a : Ev} {b : Av} {apos cpos : Pos} (pa : PlainAttrs T) (slot : Slot T name id) (hty : typeOf (.builtin id) = pure (.type "method_descriptor"))
    (hr : ∀ X, Cxt g og sc X → MtR X id r) (ho : MtS' g.K r o) (hcall : isCallE ea = false) (hline : (apos.endLine == cpos.line) = true) (hfew : (e :: es).length < 30) (ha : SE g og sc ea a) (hb : SA g og sc (e :: es) b) :
    SE g og sc (.Call (.Attribute ea name apos) (e :: es) [] cpos) (eMt T o a b) := by
  obtain ⟨ta, pa', sa⟩ := ha
  obtain ⟨tb, pb, sb⟩ := hb
  refine ⟨tBM g.K T r ta tb, fun X c => ?_, fun as H0 H ρ S σ Q r e h => ?_⟩
  · rw [← c.K]
    obtain ⟨q1, q2⟩ := pb X c
    have hs := starEach_plain (es := es) (env := X.env) (e := e) (by cases e <;> first | rfl | exact absurd rfl (q2 _ List.mem_cons_self _ _))
    refine pe_bm pa slot hty (hr X c) (pa' X c) q1 (base_plain hcall) ?_ hline hs (star_none (fun e he => q2 e (List.mem_cons_of_mem _ he)) cpos)
    have z : (backTo cpos (starEach (e :: es) X.env)).all (fun x => !x.1) = true := by
      have := star_none (env := X.env) q2 cpos
      rw [List.any_eq_false] at this
      rw [List.all_eq_true]
      intro x hx
      have := this x hx
      simpa using this
    rw [z]
    have z2 : (e :: es).length + 0 + 0 < 30 := hfew
    simp only [keywordEach, backToKw, List.map_nil, List.all_nil, List.isEmpty_nil, List.length_nil, if_true, Bool.true_and, decide_eq_true_eq]
    exact z2
  · refine sa as H0 H ρ S σ _ r e (R.sat_mono (R.sat_bind h) (fun x S1 h1 => ?_) fun _ _ _ _ z => z)
    intro v as1 H01 H1 n1 r1 p1
    split at h1
    · rename_i ht
      refine ⟨tyV_of r1 p1 ht, ?_⟩
      refine sb as1 H01 H1 ρ S1 σ _ r1 (e.mono n1.h0 n1.pre) (R.sat_mono (R.sat_bind h1) (fun y S2 h2 => ?_) fun _ _ _ _ z => z)
      intro u as2 H02 H2 n2 r2 p2
      exact ho as2 H02 H2 S2 v x u y Q r2 (p1.mono n2.h0 n2.pre) p2 (R.sat_mono h2 (fun _ _ q => QE.next (n1.trans n2) q) fun _ _ _ _ z => z)
    · exact h1.elim
end
end PL

set_option Elab.async false
set_option linter.all false
set_option maxRecDepth 100000
set_option maxHeartbeats 4000000
/-! targets, statements, loops, comprehensions -/
namespace PL
open PySem PySem.Spec PyProof.Rows L2
variable [B : Bs]
section
variable {g : G} {og sc : Scope}

/-! ### targets -/
omit [B : Bs] in
/-- a name may be stored here -/
def stB (og : Scope) (x : Str) : Bool := match og.names.lookup x with
  | some .local => true
  | some .cell => true
  | _ => false
omit [B : Bs] in
theorem stB_of {og : Scope} {x : Str} (h : stB og x = true) : og.names.lookup x = some .local ∨ og.names.lookup x = some .cell := by
  unfold stB at h
  split at h
  · rename_i q; exact .inl q
  · rename_i q; exact .inr q
  · cases h
omit [B : Bs] in
def gVar (i : Nat) : Gv := fun d ρ S => .ok (ρ.set i (some d)) S
theorem sg_var {i : Nat} {x : Str} {pos : Pos} (hN : g.N[i]? = some x) (hv : stB og x = true) : SG g og sc (.Name x pos) (gVar i) := by
  refine ⟨gName i, fun X c => ?_, fun as H0 H ρ S σ v d Q r e p h => h _ as H0 H Nx.refl r (e.set i p)⟩
  obtain ⟨h1, h2⟩ := c.st x (stB_of hv)
  exact pg_name c.ndX (by rw [c.N]; exact hN) (by rw [c.scq]; exact h1) (by rw [c.scq]; exact h2)
omit [B : Bs] in
abbrev Gvs := List D → Rho → Store → R Rho
omit [B : Bs] in
def gsNil : Gvs := fun ds ρ S => match ds with
  | [] => .ok ρ S
  | _ => .no
omit [B : Bs] in
def gsCons (a : Gv) (b : Gvs) : Gvs := fun ds ρ S => match ds with
  | d :: r => (a d ρ S).bind fun ρ1 S1 => b r ρ1 S1
  | [] => .no
def SGs (g : G) (og sc : Scope) (es : List Expr) (f : Gvs) : Prop := ∃ t, (∀ X, Cxt g og sc X → PGs X es t ∧ ∀ e ∈ es, ∀ z p, e ≠ .Starred z p) ∧ SaysGs g.K t f
theorem sgs_nil : SGs g og sc [] gsNil := by
  refine ⟨gNil, fun X c => ⟨pgs_nil, fun e h => absurd h (by simp)⟩, fun as H0 H ρ S σ vs ds Q r e p h => ?_⟩
  cases p with
  | nil => exact ⟨rfl, h σ as H0 H Nx.refl r e⟩
  | cons _ _ => exact h.elim
omit [B : Bs] in
theorem assignEach_plain {e : Expr} {es : List Expr} {env : Env} (h : isStar e = false) : assignEach (e :: es) env = (false, assign e env) :: assignEach es env := by
  cases e <;> first | rfl | cases h
theorem sgs_cons {e : Expr} {es : List Expr} {a : Gv} {b : Gvs} (hs : isStar e = false) (ha : SG g og sc e a) (hb : SGs g og sc es b) : SGs g og sc (e :: es) (gsCons a b) := by
  obtain ⟨ta, pa, sa⟩ := ha
  obtain ⟨tb, pb, sb⟩ := hb
  refine ⟨gCons ta tb, fun X c => ⟨pgs_cons (pa X c) (pb X c).1 (by rw [assignEach_plain hs]; rfl), fun x hx z p q => ?_⟩, fun as H0 H ρ S σ vs ds Q r e p h => ?_⟩
  · rcases List.mem_cons.mp hx with k | k
    · subst k; subst q; cases hs
    · exact (pb X c).2 x k z p q
  · cases p with
    | nil => exact h.elim
    | cons p1 p2 =>
      refine ⟨_, _, rfl, sa as H0 H ρ S σ _ _ _ r e p1 (R.sat_mono (R.sat_bind h) (fun ρ1 S1 h1 => ?_) fun _ _ _ _ z => z)⟩
      intro σ' as1 H01 H1 n1 r1 e1
      exact sb as1 H01 H1 ρ1 S1 σ' _ _ _ r1 e1 (p2.mono n1.h0 n1.pre) (R.sat_mono h1 (fun _ _ q => QG.next n1 q) fun _ _ _ _ z => z)
omit [B : Bs] in
theorem assignEach_len : ∀ {es : List Expr} {env : Env}, (assignEach es env).length = es.length
  | [], _ => rfl
  | e :: es, env => by
    have ih := assignEach_len (es := es) (env := env)
    cases e <;> simp [assignEach, ih]
omit [B : Bs] in
theorem assignEach_none : ∀ {es : List Expr} {env : Env}, (∀ e ∈ es, ∀ z p, e ≠ .Starred z p) → (assignEach es env).findIdx? (·.1) = none
  | [], _, _ => rfl
  | e :: es, env, h => by
    have hs : isStar e = false := by cases e <;> first | rfl | exact absurd rfl (h _ List.mem_cons_self _ _)
    have ih := assignEach_none (es := es) (env := env) fun e he => h e (List.mem_cons_of_mem _ he)
    rw [assignEach_plain hs, List.findIdx?_cons]
    simp [ih]
omit [B : Bs] in
/-- a, b, .. = a tuple -/
def gTupF (b : Gvs) : Gv := fun d ρ S => match d with
  | .tup ds => b ds ρ S
  | _ => .no
theorem sg_tup {es : List Expr} {b : Gvs} {k : Nat} {pos : Pos} (hb : SGs g og sc es b) (hn : ∀ ds ρ S, ds.length ≠ es.length → b ds ρ S = .no) : SG g og sc (.Tuple es k pos) (gTupF b) := by
  obtain ⟨tb, pb, sb⟩ := hb
  refine ⟨gTup g.K es.length tb, fun X c => ?_, fun as H0 H ρ S σ v d Q r e p h => ?_⟩
  · rw [← c.K]
    exact pg_tup c.calm (pb X c).1 assignEach_len (assignEach_none (pb X c).2)
  · cases d with
    | tup ds =>
      cases p with
      | tup hq pa =>
        rename_i a vs
        have hl : ds.length = es.length := by
          by_cases q : ds.length = es.length
          · exact q
          · have h' : (b ds ρ S).sat (QG g.K as H0 H Q) NoX := h
            rw [hn ds ρ S q] at h'
            exact h'.elim
        exact ⟨a, vs, rfl, SqT.of (r.ex _ _ hq), by rw [pa.length, hl], sb as H0 H ρ S σ vs ds Q r e pa h⟩
    | _ => exact h.elim
omit [B : Bs] in
theorem gsNil_len : ∀ ds ρ S, ds.length ≠ ([] : List Expr).length → gsNil ds ρ S = .no := fun ds ρ S h => by
  cases ds with
  | nil => exact absurd rfl h
  | cons _ _ => rfl
omit [B : Bs] in
theorem gsCons_len {a : Gv} {b : Gvs} {e : Expr} {es : List Expr} (hb : ∀ ds ρ S, ds.length ≠ es.length → b ds ρ S = .no) : ∀ ds ρ S, ds.length ≠ (e :: es).length → (∀ d ρ S, ∃ r, a d ρ S = r) → gsCons a b ds ρ S = .no ∨ True := fun _ _ _ _ _ => .inr trivial

/-! ### statements -/
omit [B : Bs] in
def sNext : Sv := fun ρ S => .ok (.nx ρ) S
omit [B : Bs] in
def sSeq (a b : Sv) : Sv := fun ρ S => (a ρ S).bind fun f S1 => match f with
  | .nx ρ1 => b ρ1 S1
  | f => .ok f S1
theorem says_seq {K : PySem.W.Frag} {ta tb : TS} {a b : Sv} (ha : SaysS K ta a) (hb : SaysS K tb b) : SaysS K (tSeq ta tb) (sSeq a b) := by
  intro as H0 H ρ S σ D r e h
  refine ha as H0 H ρ S σ _ r e (R.sat_mono (R.sat_bind h) (fun f S1 h1 => ?_) fun _ _ _ _ z => z)
  cases f with
  | nx ρ1 =>
    intro σ' as1 H01 H1 n1 r1 e1
    exact hb as1 H01 H1 ρ1 S1 σ' D r1 e1 (R.sat_mono h1 (fun _ _ q => QS.next n1 q) fun _ _ _ _ z => z)
  | rt d => exact h1
  | bk ρ1 => exact h1
  | ct ρ1 => exact h1
theorem sss_nil : SSs g og sc [] sNext := ⟨tNext, fun X c => pss_nil, fun as H0 H ρ S σ D r e h => h σ as H0 H Nx.refl r e⟩
theorem sss_cons {s : Stmt} {ss : List Stmt} {a b : Sv} (ha : SS g og sc s a) (hb : SSs g og sc ss b) : SSs g og sc (s :: ss) (sSeq a b) := by
  obtain ⟨ta, pa, sa⟩ := ha
  obtain ⟨tb, pb, sb⟩ := hb
  exact ⟨_, fun X c => pss_cons (pa X c) (pb X c), says_seq sa sb⟩
theorem sss_one {s : Stmt} {a : Sv} (ha : SS g og sc s a) : SSs g og sc [s] a := by
  obtain ⟨ta, pa, sa⟩ := ha
  exact ⟨_, fun X c => pss_one (pa X c), sa⟩
theorem ss_pass {pos : Pos} : SS g og sc (.Pass pos) sNext := ⟨tNext, fun X c => ps_pass, fun as H0 H ρ S σ D r e h => h σ as H0 H Nx.refl r e⟩
omit [B : Bs] in
def sBreak : Sv := fun ρ S => .ok (.bk ρ) S
omit [B : Bs] in
def sCont : Sv := fun ρ S => .ok (.ct ρ) S
theorem ss_break {pos : Pos} : SS g og sc (.Break pos) sBreak := ⟨tBreak, fun X c => ps_break, fun as H0 H ρ S σ D r e h => h σ as H0 H Nx.refl r e⟩
theorem ss_cont {pos : Pos} : SS g og sc (.Continue pos) sCont := ⟨tCont, fun X c => ps_continue, fun as H0 H ρ S σ D r e h => h σ as H0 H Nx.refl r e⟩
omit [B : Bs] in
/-- what the run never comes to -/
def sNever : Sv := fun _ _ => .no
theorem ss_never {s : Stmt} : SS g og sc s sNever := ⟨tNever, fun X c => ps_never, fun as H0 H ρ S σ D r e h => h.elim⟩
omit [B : Bs] in
def isCompE : Expr → Bool
  | .ListComp _ _ _ _ => true
  | .SetComp _ _ _ _ => true
  | .DictComp _ _ _ _ _ => true
  | _ => false
omit [B : Bs] in
theorem swaps_plain {e : Expr} {t : Option Expr} {l : Nat} {env : Env} (h : isCompE e = false) : swapsWith e t l env = pure false := by
  cases e <;> first | rfl | cases h
omit [B : Bs] in
def sExpr (a : Ev) : Sv := fun ρ S => (a ρ S).bind fun _ S1 => .ok (.nx ρ) S1
theorem ss_expr {e : Expr} {a : Ev} {pos : Pos} (hc : isCompE e = false) (ha : SE g og sc e a) : SS g og sc (.Expr e pos) (sExpr a) := by
  obtain ⟨ta, pa, sa⟩ := ha
  refine ⟨tDrop ta, fun X c => ps_expr (pa X c) (swaps_plain hc), fun as H0 H ρ S σ D r e h => ?_⟩
  refine sa as H0 H ρ S σ _ r e (R.sat_mono (R.sat_bind h) (fun f S1 h1 => ?_) fun _ _ _ _ z => z)
  intro v as1 H01 H1 n1 r1 p1
  exact h1 σ as1 H01 H1 n1 r1 (e.mono n1.h0 n1.pre)
omit [B : Bs] in
def sRet (a : Ev) : Sv := fun ρ S => (a ρ S).bind fun d S1 => .ok (.rt d) S1
theorem ss_ret {e : Expr} {a : Ev} {pos : Pos} (ha : SE g og sc e a) : SS g og sc (.Return (some e) pos) (sRet a) := by
  obtain ⟨ta, pa, sa⟩ := ha
  exact ⟨tRet ta, fun X c => ps_ret (pa X c), fun as H0 H ρ S σ D r e h => sa as H0 H ρ S σ _ r e (R.sat_mono (R.sat_bind h) (fun f S1 h1 => h1) fun _ _ _ _ z => z)⟩
theorem ss_retN {pos : Pos} : SS g og sc (.Return none pos) (sRet (eC .non)) := ⟨tRetN, fun X c => ps_retN, fun as H0 H ρ S σ D r e h => h .non as H0 H Nx.refl r .non⟩
omit [B : Bs] in
def sIf (c : Tv) (a b : Sv) : Sv := fun ρ S => (c ρ S).bind fun x S1 => if x = true then a ρ S1 else b ρ S1
theorem ss_if {ec : Expr} {sa sb : List Stmt} {c : Tv} {a b : Sv} {pos : Pos} (hc : ST g og sc ec c) (ha : SSs g og sc sa a) (hb : SSs g og sc sb b) : SS g og sc (.If ec sa sb pos) (sIf c a b) := by
  obtain ⟨tc, pc, sc'⟩ := hc
  obtain ⟨ta, pa, sa'⟩ := ha
  obtain ⟨tb, pb, sb'⟩ := hb
  refine ⟨tIfS tc ta tb, fun X c => ps_if (pc X c) (pa X c) (pb X c), fun as H0 H ρ S σ D r e h => ?_⟩
  refine sc' as H0 H ρ S σ _ r e (R.sat_mono (R.sat_bind h) (fun x S1 h1 => ?_) fun _ _ _ _ z => z)
  intro as1 H01 H1 n1 r1
  cases x with
  | true => exact sa' as1 H01 H1 ρ S1 σ D r1 (e.mono n1.h0 n1.pre) (R.sat_mono h1 (fun _ _ q => QS.next n1 q) fun _ _ _ _ z => z)
  | false => exact sb' as1 H01 H1 ρ S1 σ D r1 (e.mono n1.h0 n1.pre) (R.sat_mono h1 (fun _ _ q => QS.next n1 q) fun _ _ _ _ z => z)
omit [B : Bs] in
/-- target = value -/
def sAsg (tg : Gv) (a : Ev) : Sv := fun ρ S => (a ρ S).bind fun d S1 => (tg d ρ S1).bind fun ρ1 S2 => .ok (.nx ρ1) S2
theorem says_asg {K : PySem.W.Frag} {ta : TE} {gt : TG} {a : Ev} {tg : Gv} (ha : SaysE K ta a) (hg : SaysG K gt tg) : SaysS K (tAsg ta gt) (sAsg tg a) := by
  intro as H0 H ρ S σ D r e h
  refine ha as H0 H ρ S σ _ r e (R.sat_mono (R.sat_bind h) (fun d S1 h1 => ?_) fun _ _ _ _ z => z)
  intro v as1 H01 H1 n1 r1 p1
  refine hg as1 H01 H1 ρ S1 σ v d _ r1 (e.mono n1.h0 n1.pre) p1 (R.sat_mono (R.sat_bind h1) (fun ρ1 S2 h2 => ?_) fun _ _ _ _ z => z)
  intro σ' as2 H02 H2 n2 r2 e2
  exact h2 σ' as2 H02 H2 (n1.trans n2) r2 e2
theorem ss_set {i : Nat} {x : Str} {e : Expr} {a : Ev} {pos pos' : Pos} (hN : g.N[i]? = some x) (hv : stB og x = true) (hc : isCompE e = false) (ha : SE g og sc e a) : SS g og sc (.Assign [.Name x pos'] e pos) (sAsg (gVar i) a) := by
  obtain ⟨ta, pa, sa⟩ := ha
  refine ⟨tAsg ta (gName i), fun X c => ?_, says_asg sa fun as H0 H ρ S σ v d Q r e p h => h _ as H0 H Nx.refl r (e.set i p)⟩
  obtain ⟨h1, h2⟩ := c.st x (stB_of hv)
  exact ps_set c.ndX (by rw [c.N]; exact hN) (by rw [c.scq]; exact h1) (pa X c) (swaps_plain hc) (by rw [c.scq]; exact h2)
omit [B : Bs] in
/-- one target that is no plain name -/
def isNameE : Expr → Bool
  | .Name _ _ => true
  | _ => false
omit [B : Bs] in
def isTupE : Expr → Bool
  | .Tuple _ _ _ => true
  | .List _ _ => true
  | _ => false
omit [B : Bs] in
theorem swapsSole_of {t e : Expr} {l : Nat} {env : Env} (h : isNameE t = false) : swapsWithSole [t] e l env = pure false := by
  show swapsWith e (some t) l env = pure false
  cases e <;> first | rfl | (cases t <;> first | rfl | cases h)
omit [B : Bs] in
theorem swapped_plain {t e : Expr} {env : Env} (h : isTupE e = false) : swappedStores [t] e env = pure none := by
  cases e <;> first | (cases t <;> rfl) | cases h
omit [B : Bs] in
theorem swapped_sub {t e : Expr} {env : Env} (h : isTupE t = false) : swappedStores [t] e env = pure none := by
  cases t <;> first | (cases e <;> rfl) | cases h
omit [B : Bs] in
/-- the names of a parallel store -/
def swNames (sc : Scope) (ts : List Expr) : List Str :=
  let line := (ts.head?.map (·.pos.line)).getD 0
  ts.filterMap fun
    | .Name id pos => if sc.names.lookup id == some .local && pos.line == line then some id else none
    | _ => none
omit [B : Bs] in
def swNone (sc : Scope) (ts vs : List Expr) : Bool := !(ts.length == 2 || ts.length == 3) || vs.length != ts.length || (vs.any fun | .Starred .. => true | _ => false) ||
  ((swNames sc ts).length != ts.length || (swNames sc ts).eraseDups.length != (swNames sc ts).length) || vs.all (foldedForSure 8)
omit [B : Bs] in
theorem swapped_none {env : Env} {ts vs : List Expr} {k k2 : Nat} {p p2 : Pos} (hk : env.scope.kind = .function) (h : swNone env.scope ts vs = true) : swappedStores [.Tuple ts k p] (.Tuple vs k2 p2) env = pure none := by
  have hb : env.blockKind = .function := by unfold Env.blockKind; rw [hk]; rfl
  unfold swNone at h
  unfold swappedStores
  simp only [hb]
  by_cases h1 : (!(ts.length == 2 || ts.length == 3) || vs.length != ts.length || (ScopeKind.function != ScopeKind.function)) = true
  · rw [if_pos h1] <;> rfl
  · rw [if_neg h1]
    have h1' : (!(ts.length == 2 || ts.length == 3) || vs.length != ts.length) = false := by
      have z : ((ScopeKind.function != ScopeKind.function)) = false := by decide
      rw [z, Bool.or_false] at h1
      simpa using h1
    rw [h1', Bool.false_or] at h
    by_cases h2 : (vs.any fun | .Starred .. => true | _ => false) = true
    · exact if_pos h2
    · refine (if_neg h2).trans ?_
      have h2' : (vs.any fun | .Starred .. => true | _ => false) = false := by simpa using h2
      rw [h2', Bool.false_or] at h
      by_cases h3 : ((swNames env.scope ts).length != ts.length || (swNames env.scope ts).eraseDups.length != (swNames env.scope ts).length) = true
      · exact if_pos h3
      · have h3' : ((swNames env.scope ts).length != ts.length || (swNames env.scope ts).eraseDups.length != (swNames env.scope ts).length) = false := by simpa using h3
        rw [h3', Bool.false_or] at h
        refine (if_neg h3).trans ?_
        exact if_pos h
omit [B : Bs] in
def swSome (sc : Scope) (ts vs : List Expr) : Bool := (ts.length == 2 || ts.length == 3) && vs.length == ts.length && !(vs.any fun | .Starred .. => true | _ => false) &&
  ((swNames sc ts).length == ts.length && (swNames sc ts).eraseDups.length == (swNames sc ts).length) && !(vs.all (foldedForSure 8)) && !(vs.all (constantsAlone 8))
omit [B : Bs] in
theorem swapped_some {env : Env} {ts vs : List Expr} {k k2 : Nat} {p p2 : Pos} (hk : env.scope.kind = .function) (h : swSome env.scope ts vs = true) : swappedStores [.Tuple ts k p] (.Tuple vs k2 p2) env = pure (some (swNames env.scope ts)) := by
  have hb : env.blockKind = .function := by unfold Env.blockKind; rw [hk]; rfl
  unfold swSome at h
  simp only [Bool.and_eq_true, Bool.not_eq_true'] at h
  obtain ⟨⟨⟨⟨⟨h1, h2⟩, h3⟩, h4, h5⟩, h6⟩, h7⟩ := h
  unfold swappedStores
  simp only [hb]
  have e1 : (!(ts.length == 2 || ts.length == 3) || vs.length != ts.length || (ScopeKind.function != ScopeKind.function)) = false := by
    have z : ((ScopeKind.function != ScopeKind.function)) = false := by decide
    rw [z, h1]
    have : (vs.length != ts.length) = false := by
      rw [bne, h2]; rfl
    rw [this] <;> rfl
  have h3' : ¬ (vs.any fun | .Starred .. => true | _ => false) = true := by rw [h3]; simp
  rw [if_neg (by rw [e1]; simp)]
  refine (if_neg h3').trans ?_
  have e4 : ((swNames env.scope ts).length != ts.length || (swNames env.scope ts).eraseDups.length != (swNames env.scope ts).length) = false := by
    rw [bne, h4, bne, h5] <;> rfl
  refine (if_neg (show ¬ ((swNames env.scope ts).length != ts.length || (swNames env.scope ts).eraseDups.length != (swNames env.scope ts).length) = true by rw [e4]; simp)).trans ?_
  refine (if_neg (by rw [h6]; simp)).trans ?_
  exact if_neg (by rw [h7]; simp)
theorem ss_asg {t e : Expr} {tg : Gv} {a : Ev} {pos : Pos} (hn : isNameE t = false) (hs : isStar t = false) (hsw : ∀ env : Env, env.scope = sc → env.scope.kind = .function → swappedStores [t] e env = pure none) (hg : SG g og sc t tg) (ha : SE g og sc e a) :
    SS g og sc (.Assign [t] e pos) (sAsg tg a) := by
  obtain ⟨ta, pa, sa⟩ := ha
  obtain ⟨tt, pt, st⟩ := hg
  refine ⟨tAsg ta tt, fun X c => ps_asg (pa X c) (pt X c) (swapsSole_of hn) (hsw X.env c.scq (by rw [c.scq]; exact c.kind)) ?_, says_asg sa st⟩
  rw [assignEach_plain hs]
  rfl
omit [B : Bs] in
/-- a, b = x, y by plain local names -/
def sPar2 (i j : Nat) (b : Av) : Sv := fun ρ S => (b ρ S).bind fun ds S1 => match ds with
  | [x, y] => .ok (.nx ((ρ.set i (some x)).set j (some y))) S1
  | _ => .no
theorem ss_par2 {i j : Nat} {x y : Str} {e1 e2 : Expr} {b : Av} {px py pt pos : Pos} {kt k2 pt2} (hi : g.N[i]? = some x) (hj : g.N[j]? = some y) (hij : i ≠ j) (hx : sc.names.lookup x = some .local) (hy : sc.names.lookup y = some .local)
    (hw : swSome sc [.Name x px, .Name y py] [e1, e2] = true) (hwn : swNames sc [.Name x px, .Name y py] = [x, y]) (hb : SA g og sc [e1, e2] b) :
    SS g og sc (.Assign [.Tuple [.Name x px, .Name y py] kt pt] (.Tuple [e1, e2] k2 pt2) pos) (sPar2 i j b) := by
  obtain ⟨tb, pb, sb⟩ := hb
  refine ⟨tPar i j tb, fun X c => ?_, fun as H0 H ρ S σ D r e h => ?_⟩
  · refine ps_par c.calm c.ndX (by rw [c.N]; exact hi) (by rw [c.N]; exact hj) hij (by rw [c.scq]; exact hx) (by rw [c.scq]; exact hy) (pb X c).1 ?_
    rw [swapped_some (by rw [c.scq]; exact c.kind) (by rw [c.scq]; exact hw), c.scq, hwn]
  · refine sb as H0 H ρ S σ _ r e (R.sat_mono (R.sat_bind h) (fun ds S1 h1 => ?_) fun _ _ _ _ z => z)
    intro vs as1 H01 H1 n1 r1 p1
    cases p1 with
    | nil => exact h1.elim
    | cons q1 p2 =>
      cases p2 with
      | nil => exact h1.elim
      | cons q2 p3 =>
        cases p3 with
        | nil => exact ⟨_, _, rfl, h1 _ as1 H01 H1 n1 r1 (((e.mono n1.h0 n1.pre).set i q1).set j q2)⟩
        | cons _ _ => exact h1.elim
omit [B : Bs] in
def sPar3 (i j l : Nat) (b : Av) : Sv := fun ρ S => (b ρ S).bind fun ds S1 => match ds with
  | [x, y, z] => .ok (.nx (((ρ.set i (some x)).set j (some y)).set l (some z))) S1
  | _ => .no
theorem ss_par3 {i j l : Nat} {x y z : Str} {e1 e2 e3 : Expr} {b : Av} {px py pz pt pos : Pos} {kt k2 pt2} (hi : g.N[i]? = some x) (hj : g.N[j]? = some y) (hl : g.N[l]? = some z) (hij : i ≠ j) (hil : i ≠ l) (hjl : j ≠ l)
    (hx : sc.names.lookup x = some .local) (hy : sc.names.lookup y = some .local) (hz : sc.names.lookup z = some .local)
    (hw : swSome sc [.Name x px, .Name y py, .Name z pz] [e1, e2, e3] = true) (hwn : swNames sc [.Name x px, .Name y py, .Name z pz] = [x, y, z]) (hb : SA g og sc [e1, e2, e3] b) :
    SS g og sc (.Assign [.Tuple [.Name x px, .Name y py, .Name z pz] kt pt] (.Tuple [e1, e2, e3] k2 pt2) pos) (sPar3 i j l b) := by
  obtain ⟨tb, pb, sb⟩ := hb
  refine ⟨tPar3 i j l tb, fun X c => ?_, fun as H0 H ρ S σ D r e h => ?_⟩
  · refine ps_par3 c.calm c.ndX (by rw [c.N]; exact hi) (by rw [c.N]; exact hj) (by rw [c.N]; exact hl) hij hil hjl (by rw [c.scq]; exact hx) (by rw [c.scq]; exact hy) (by rw [c.scq]; exact hz) (pb X c).1 ?_
    rw [swapped_some (by rw [c.scq]; exact c.kind) (by rw [c.scq]; exact hw), c.scq, hwn]
  · refine sb as H0 H ρ S σ _ r e (R.sat_mono (R.sat_bind h) (fun ds S1 h1 => ?_) fun _ _ _ _ z => z)
    intro vs as1 H01 H1 n1 r1 p1
    cases p1 with
    | nil => exact h1.elim
    | cons q1 p2 =>
      cases p2 with
      | nil => exact h1.elim
      | cons q2 p3 =>
        cases p3 with
        | nil => exact h1.elim
        | cons q3 p4 =>
          cases p4 with
          | nil => exact ⟨_, _, _, rfl, h1 _ as1 H01 H1 n1 r1 ((((e.mono n1.h0 n1.pre).set i q1).set j q2).set l q3)⟩
          | cons _ _ => exact h1.elim
omit [B : Bs] in
/-- source[i] = .. on a changing list -/
def gSubF (o i : Ev) : Gv := fun d ρ S => (o ρ S).bind fun x S1 => (i ρ S1).bind fun y S2 => match x, y with
  | .ref n, .int k => (match S2[n]? with
    | some (some (.lst xs)) => (match ixN xs.length k with
      | some j => .ok ρ (S2.set n (some (.lst (xs.set j d))))
      | none => .no)
    | _ => .no)
  | _, _ => .no
omit [B : Bs] in
def isSliceE : Expr → Bool
  | .Slice _ _ _ _ => true
  | _ => false
theorem sg_sub {eo ei : Expr} {o i : Ev} {pos : Pos} (hsl : isSliceE ei = false) (ho : SE g og sc eo o) (hi : SE g og sc ei i) : SG g og sc (.Subscript eo ei pos) (gSubF o i) := by
  obtain ⟨to, po, so⟩ := ho
  obtain ⟨ti, pi, si⟩ := hi
  refine ⟨gSub to ti rSetL, fun X c => pg_sub (po X c) (pi X c) set_list (fun v => by cases ei <;> first | rfl | cases hsl), fun as H0 H ρ S σ v d Q r e p h => ?_⟩
  refine so as H0 H ρ S σ _ r e (R.sat_mono (R.sat_bind h) (fun x S1 h1 => ?_) fun _ _ _ _ z => z)
  intro xv as1 H01 H1 n1 r1 p1
  refine si as1 H01 H1 ρ S1 σ _ r1 (e.mono n1.h0 n1.pre) (R.sat_mono (R.sat_bind h1) (fun y S2 h2 => ?_) fun _ _ _ _ z => z)
  intro yv as2 H02 H2 n2 r2 p2
  have n12 := n1.trans n2
  cases x with
  | ref n =>
    cases y with
    | int k =>
      dsimp only at h2
      split at h2
      · rename_i xs q
        split at h2
        · rename_i j hj
          cases p1 with
          | ref ha =>
            rename_i ad
            cases p2
            have ha2 := n2.pre _ _ ha
            obtain ⟨h0, vs, hv, rv⟩ := r2.cell n _ ad q ha2
            refine ⟨ad, vs, k, j, rfl, rfl, hv, by rw [rv.length]; exact hj, ?_⟩
            obtain ⟨r3, n3⟩ := r2.put (c' := .lst (xs.set j d)) (o := .lst (vs.set j v)) q ha2 ⟨_, upd_same, RpA.set (p.mono n12.h0 n12.pre) j rv⟩
            exact h2 σ _ _ _ (n12.trans n3) r3 ((e.mono n12.h0 n12.pre).mono n3.h0 n3.pre)
        · exact h2.elim
      · exact h2.elim
    | _ => exact h2.elim
  | _ => exact h2.elim

/-! ### loops -/
omit [B : Bs] in
def forL (body : D → Rho → Store → R Fl) : List D → Rho → Store → R Fl
  | [], ρ, S => .ok (.nx ρ) S
  | d :: ds, ρ, S => (body d ρ S).bind fun f S1 => match f with
    | .nx ρ1 => forL body ds ρ1 S1
    | .ct ρ1 => forL body ds ρ1 S1
    | .bk ρ1 => .ok (.nx ρ1) S1
    | .rt d => .ok (.rt d) S1
omit [B : Bs] in
def sFor (it : Av) (tg : Gv) (body : Sv) : Sv := fun ρ S => (it ρ S).bind fun ds S1 => forL (fun d ρ S => (tg d ρ S).bind body) ds ρ S1
theorem says_for {K : PySem.W.Frag} {wi : TI} {gt : TG} {tb : TS} {it : Av} {tg : Gv} {body : Sv} (hi : SaysI K wi it) (hg : SaysG K gt tg) (hb : SaysS K tb body) : SaysS K (tFor wi gt tb) (sFor it tg body) := by
  intro as H0 H ρ S σ D r e h
  refine hi as H0 H ρ S σ _ r e (R.sat_mono (R.sat_bind h) (fun ds S1 h1 => ?_) fun _ _ _ _ z => z)
  intro J as1 H01 H1 n1 r1 dl
  have h1 := R.sat_mono h1 (fun _ _ q => QS.next n1 q) fun _ _ _ _ z => z
  refine ⟨fun i m σ' H' => m = ds.length - i ∧ i ≤ ds.length ∧ ∃ as' H0' ρ' S', Nx as1 H01 H1 as' H0' H' ∧ Sr K as' H0' H' S' ∧ Er K as' H0' σ' ρ' ∧ (forL (fun d ρ S => (tg d ρ S).bind body) (ds.drop i) ρ' S').sat (QS K as' H0' H' D) NoX, ⟨ds.length, by simp, Nat.zero_le _, as1, H01, ρ, S1, Nx.refl, r1, e.mono n1.h0 n1.pre, h1⟩, ?_⟩
  rintro i m σ' H' ⟨rfl, hi, as', H0', ρ', S', n', r', e', h'⟩
  obtain ⟨d1, d2⟩ := dl i as' H0' H' S' n'.nh r'
  by_cases hlt : i < ds.length
  · have hd : ds[i]? = some ds[i] := List.getElem?_eq_getElem hlt
    obtain ⟨g1, g2⟩ := d1 _ hd
    rw [List.drop_eq_getElem_cons hlt] at h'
    refine .inr ⟨g1, fun σ2 H2 => ∃ as2 H02 ρ2 S2, Nx as1 H01 H1 as2 H02 H2 ∧ Sr K as2 H02 H2 S2 ∧ Er K as2 H02 σ2 ρ2 ∧ (forL (fun d ρ S => (tg d ρ S).bind body) (ds.drop (i + 1)) ρ2 S2).sat (QS K as2 H02 H2 D) NoX,
      fun σ2 H2 q => ⟨ds.length - (i + 1), by omega, rfl, hlt, q⟩, fun x H'' y => ?_⟩
    obtain ⟨H0'', n2, r2, p2⟩ := g2 x H'' y
    have h2 : ((tg ds[i] ρ' S').bind body).sat (fun f S1 => R.sat (match f with
      | .nx ρ1 => forL (fun d ρ S => (tg d ρ S).bind body) (ds.drop (i + 1)) ρ1 S1
      | .ct ρ1 => forL (fun d ρ S => (tg d ρ S).bind body) (ds.drop (i + 1)) ρ1 S1
      | .bk ρ1 => .ok (.nx ρ1) S1
      | .rt d => .ok (.rt d) S1) (QS K as' H0' H' D) NoX) NoX := R.sat_bind h'
    refine hg as' H0'' H'' ρ' S' σ' x _ _ r2 (e'.mono n2.h0 n2.pre) p2 (R.sat_mono (R.sat_bind h2) (fun ρ3 S3 h3 => ?_) fun _ _ _ _ z => z)
    intro σ3 as3 H03 H3 n3 r3 e3
    refine hb as3 H03 H3 ρ3 S3 σ3 _ r3 e3 (R.sat_mono h3 (fun f S4 h4 => ?_) fun _ _ _ _ z => z)
    cases f with
    | nx ρ4 =>
      intro σ4 as4 H04 H4 n4 r4 e4
      exact ⟨as4, H04, ρ4, S4, ((n'.trans n2).trans n3).trans n4, r4, e4, R.sat_mono h4 (fun _ _ q => QS.next ((n2.trans n3).trans n4) q) fun _ _ _ _ z => z⟩
    | ct ρ4 =>
      intro σ4 as4 H04 H4 n4 r4 e4
      exact ⟨as4, H04, ρ4, S4, ((n'.trans n2).trans n3).trans n4, r4, e4, R.sat_mono h4 (fun _ _ q => QS.next ((n2.trans n3).trans n4) q) fun _ _ _ _ z => z⟩
    | bk ρ4 =>
      intro σ4 as4 H04 H4 n4 r4 e4
      exact h4 σ4 as4 H04 H4 ((n2.trans n3).trans n4) r4 e4
    | rt d =>
      intro v as4 H04 H4 n4 r4 p4
      exact h4 v as4 H04 H4 ((n2.trans n3).trans n4) r4 p4
  · have hn : ds.length ≤ i := by omega
    rw [List.drop_eq_nil_of_le hn] at h'
    exact .inl ⟨d2 (by omega), h' σ' as' H0' H' Nx.refl r' e'⟩
omit [B : Bs] in
theorem folded_plain {e : Expr} {env : Env} (h : isSetE e = false) : ∀ x, foldedSetIterable e env x = pure x := by
  intro x
  cases e <;> first | rfl | cases h
theorem ss_for {et ei : Expr} {sb : List Stmt} {it : Av} {tg : Gv} {body : Sv} {pos : Pos} (hs : isSetE ei = false) (hi : SI g og sc et ei it) (hg : SG g og sc et tg) (hb : SSs g og sc sb body) : SS g og sc (.For et ei sb [] pos) (sFor it tg body) := by
  obtain ⟨ti, pi, si⟩ := hi
  obtain ⟨tt, pt, st⟩ := hg
  obtain ⟨tb, pb, sb⟩ := hb
  exact ⟨_, fun X c => ps_for c.ps c.calm (pi X c) (pt X c) (pb X c) (folded_plain hs), says_for si st sb⟩
omit [B : Bs] in
def whileL (c : Tv) (body : Sv) : Nat → Rho → Store → R Fl
  | 0, _, _ => .no
  | n + 1, ρ, S => (c ρ S).bind fun b S1 => if b = true then (body ρ S1).bind fun f S2 => (match f with
    | .nx ρ1 => whileL c body n ρ1 S2
    | .ct ρ1 => whileL c body n ρ1 S2
    | .bk ρ1 => .ok (.nx ρ1) S2
    | .rt d => .ok (.rt d) S2) else .ok (.nx ρ) S1
omit [B : Bs] in
def sWhile (fuel : Nat) (c : Tv) (body : Sv) : Sv := whileL c body fuel
theorem says_while {K : PySem.W.Frag} {tc : TT} {tb : TS} {n : Nat} {c : Tv} {body : Sv} (hc : SaysT K tc c) (hb : SaysS K tb body) : SaysS K (tWhile tc tb) (sWhile n c body) := by
  intro as H0 H ρ S σ D r e h
  refine ⟨fun m σ' H' => ∃ as' H0' ρ' S', Nx as H0 H as' H0' H' ∧ Sr K as' H0' H' S' ∧ Er K as' H0' σ' ρ' ∧ (whileL c body m ρ' S').sat (QS K as' H0' H' D) NoX, ⟨n, as, H0, ρ, S, Nx.refl, r, e, h⟩, ?_⟩
  rintro m σ' H' ⟨as', H0', ρ', S', n', r', e', h'⟩
  cases m with
  | zero => exact h'.elim
  | succ m =>
    refine hc as' H0' H' ρ' S' σ' _ r' e' (R.sat_mono (R.sat_bind h') (fun b S1 h1 => ?_) fun _ _ _ _ z => z)
    intro as1 H01 H1 n1 r1
    cases b with
    | false => exact h1 σ' as1 H01 H1 n1 r1 (e'.mono n1.h0 n1.pre)
    | true =>
      refine ⟨fun σ2 H2 => ∃ as2 H02 ρ2 S2, Nx as H0 H as2 H02 H2 ∧ Sr K as2 H02 H2 S2 ∧ Er K as2 H02 σ2 ρ2 ∧ (whileL c body m ρ2 S2).sat (QS K as2 H02 H2 D) NoX, fun σ2 H2 q => ⟨m, Nat.lt_succ_self _, q⟩, ?_⟩
      refine hb as1 H01 H1 ρ' S1 σ' _ r1 (e'.mono n1.h0 n1.pre) (R.sat_mono (R.sat_bind h1) (fun f S4 h4 => ?_) fun _ _ _ _ z => z)
      cases f with
      | nx ρ4 =>
        intro σ4 as4 H04 H4 n4 r4 e4
        exact ⟨as4, H04, ρ4, S4, (n'.trans n1).trans n4, r4, e4, R.sat_mono h4 (fun _ _ q => QS.next (n1.trans n4) q) fun _ _ _ _ z => z⟩
      | ct ρ4 =>
        intro σ4 as4 H04 H4 n4 r4 e4
        exact ⟨as4, H04, ρ4, S4, (n'.trans n1).trans n4, r4, e4, R.sat_mono h4 (fun _ _ q => QS.next (n1.trans n4) q) fun _ _ _ _ z => z⟩
      | bk ρ4 =>
        intro σ4 as4 H04 H4 n4 r4 e4
        exact h4 σ4 as4 H04 H4 (n1.trans n4) r4 e4
      | rt d =>
        intro v as4 H04 H4 n4 r4 p4
        exact h4 v as4 H04 H4 (n1.trans n4) r4 p4
theorem ss_while {ec : Expr} {sb : List Stmt} {n : Nat} {c : Tv} {body : Sv} {pos : Pos} (hc : ST g og sc ec c) (hb : SSs g og sc sb body) : SS g og sc (.While ec sb [] pos) (sWhile n c body) := by
  obtain ⟨tc, pc, sc'⟩ := hc
  obtain ⟨tb, pb, sb⟩ := hb
  exact ⟨_, fun X c => ps_while c.ps (pc X c) (pb X c), says_while sc' sb⟩

/-! ### comprehensions -/
omit [B : Bs] in
/-- one turn: a value, or none where a test says no -/
def compL (f : D → Store → R (Option D)) : List D → Store → R (List D)
  | [], S => .ok [] S
  | d :: ds, S => (f d S).bind fun o S1 => (compL f ds S1).bind fun xs S2 => .ok (match o with
    | some x => x :: xs
    | none => xs) S2
omit [B : Bs] in
/-- an own exception does not leave a comprehension here -/
def compT (tg : Gv) (t : Tv) (elt : Ev) (ρ : Rho) : D → Store → R (Option D) := fun d S => (tg d ρ S).bind fun ρ1 S1 => (t ρ1 S1).bind fun b S2 => if b = true then (elt ρ1 S2).bind fun x S3 => .ok (some x) S3 else .ok none S2
omit [B : Bs] in
def eComp (it : Av) (tg : Gv) (t : Tv) (elt : Ev) (vs : List Nat) : Ev := fun ρ S => (it ρ S).bind fun ds S1 => if ds.length ≤ 1000000 then (compL (compT tg t elt (wipeR ρ vs)) ds S1).bind fun xs S2 => .ok (.lst xs) S2 else .no
omit [B : Bs] in
/-- .. that may change -/
def eCompN (it : Av) (tg : Gv) (t : Tv) (elt : Ev) (vs : List Nat) : Ev := fun ρ S => (it ρ S).bind fun ds S1 => if ds.length ≤ 1000000 then (compL (compT tg t elt (wipeR ρ vs)) ds S1).bind fun xs S2 => .ok (.ref S2.length) (S2 ++ [some (.lst xs)]) else .no
omit [B : Bs] in
/-- a target that only writes these places -/
def Within (vs : List Nat) (gt : TG) : Prop := ∀ x σ H Q, gt x σ H Q → gt x σ H fun σ2 H2 => L2.wipe σ2 vs = L2.wipe σ vs ∧ Q σ2 H2
omit [B : Bs] in
theorem wipe_set {σ : L2.St} {o : Option V} : ∀ {vs : List Nat} {i : Nat}, i ∈ vs → L2.wipe (σ.set i o) vs = L2.wipe σ vs
  | v :: vs, i, h => by
    by_cases q : i ∈ vs
    · show (L2.wipe (σ.set i o) vs).set v none = (L2.wipe σ vs).set v none
      rw [wipe_set q]
    · have e : i = v := by
        rcases List.mem_cons.mp h with z | z
        · exact z
        · exact absurd z q
      subst e
      have comm : ∀ {vs : List Nat} {σ : L2.St}, i ∉ vs → L2.wipe (σ.set i o) vs = (L2.wipe σ vs).set i o := by
        intro vs
        induction vs with
        | nil => intro σ _; rfl
        | cons w ws ih =>
          intro σ hn
          show (L2.wipe (σ.set i o) ws).set w none = ((L2.wipe σ ws).set w none).set i o
          rw [ih (fun z => hn (List.mem_cons_of_mem _ z)), List.set_comm]
          intro z
          exact hn (by rw [z]; exact List.mem_cons_self)
      show (L2.wipe (σ.set i o) vs).set i none = (L2.wipe σ vs).set i none
      rw [comm q, List.set_set]
omit [B : Bs] in
theorem wipe_none {σ : L2.St} {i : Nat} : ∀ {vs : List Nat}, L2.wipe (σ.set i none) vs = (L2.wipe σ vs).set i none
  | [] => rfl
  | v :: vs => by
    show (L2.wipe (σ.set i none) vs).set v none = ((L2.wipe σ vs).set v none).set i none
    rw [wipe_none]
    by_cases q : i = v
    · subst q; rfl
    · rw [List.set_comm _ _ q]
omit [B : Bs] in
theorem wipe_idem {σ : L2.St} : ∀ {vs : List Nat}, L2.wipe (L2.wipe σ vs) vs = L2.wipe σ vs
  | [] => rfl
  | v :: vs => by
    show (L2.wipe ((L2.wipe σ vs).set v none) vs).set v none = (L2.wipe σ vs).set v none
    rw [wipe_none, wipe_idem, List.set_set]
/-- the end of a comprehension: the new list at p -/
def QC (K : PySem.W.Frag) (as : List Addr) (H0 H : Hp) (Q : VK) (ys : List D) : List D → Store → Prop := fun xs S' =>
  ∀ p ws as' H0' H', Nx as H0 H as' H0' H' → Sr K as' H0' H' S' → H p = none → H0' p = none → p ∉ as' → H' p = some (.lst ws) → RpA K as' H0' ws (ys ++ xs) → Q (.ref p) H'
/-- ahead of the i-th turn -/
def CW (K : PySem.W.Frag) (as1 : List Addr) (H01 H1 : Hp) (p : Addr) (f : D → Store → R (Option D)) (ds : List D) (P : List D → List D → Store → Prop) (i : Nat) (H' : Hp) : Prop :=
  ∃ as' H0' S' ws ys, Nx as1 H01 H1 as' H0' H' ∧ Sr K as' H0' H' S' ∧ H0' p = none ∧ p ∉ as' ∧ H' p = some (.lst ws) ∧ RpA K as' H0' ws ys ∧ ys.length ≤ i ∧ (compL f (ds.drop i) S').sat (P ys) NoX
theorem says_comp {K : PySem.W.Frag} {wi : TI} {gt : TG} {tt : TT} {te : TE} {it : Av} {tg : Gv} {t : Tv} {elt : Ev} {vs : List Nat} (hi : SaysI K wi it) (hg : SaysG K gt tg) (ht : SaysT K tt t) (he : SaysE K te elt) (hw : Within vs gt)
    {as : List Addr} {H0 H : Hp} {ρ : Rho} {S : Store} {σ : L2.St} {Q : VK} (r : Sr K as H0 H S) (e : Er K as H0 σ ρ)
    (h : ((it ρ S).bind fun ds S1 => if ds.length ≤ 1000000 then compL (compT tg t elt (wipeR ρ vs)) ds S1 else .no).sat (QC K as H0 H Q []) NoX) :
    tLc wi gt tt te vs σ H Q := by
  refine hi as H0 H ρ S σ _ r e (R.sat_mono (R.sat_bind h) (fun ds S1 h1 => ?_) fun _ _ _ _ z => z)
  intro J as1 H01 H1 n1 r1 dl
  split at h1
  case isFalse => exact h1.elim
  rename_i hlen
  intro Dl hD
  have hDH : H Dl = none := by
    cases q : H Dl with
    | none => rfl
    | some o =>
      by_cases z : Dl ∈ as
      · obtain ⟨n, hn⟩ := List.getElem?_of_mem z
        obtain ⟨o', ho'⟩ := r1.there Dl (List.mem_of_getElem? (n1.pre n Dl hn))
        rw [hD] at ho'; cases ho'
      · have := n1.keep Dl o q z
        rw [hD] at this; cases this
  obtain ⟨r2, n2⟩ := r1.fresh (o := .lst []) hD
  refine ⟨fun i m H' => m = ds.length - i ∧ i ≤ ds.length ∧ CW K as1 H01 H1 Dl (compT tg t elt (wipeR ρ vs)) ds (QC K as H0 H Q) i H', ⟨ds.length, by simp, Nat.zero_le _, as1, H01, S1, [], [], n2, r2, r1.ex.back hD, r1.apart hD, upd_same, .nil, Nat.le_refl _, h1⟩, ?_⟩
  rintro i m H' ⟨rfl, hi', as', H0', S', ws, ys, n', r', h0', hm', hD', rp', hys, h'⟩
  obtain ⟨d1, d2⟩ := dl i as' H0' H' S' n'.nh r'
  by_cases hlt : i < ds.length
  · have hd : ds[i]? = some ds[i] := List.getElem?_eq_getElem hlt
    obtain ⟨g1, g2⟩ := d1 _ hd
    rw [List.drop_eq_getElem_cons hlt] at h'
    refine .inr ⟨g1, CW K as1 H01 H1 Dl (compT tg t elt (wipeR ρ vs)) ds (QC K as H0 H Q) (i + 1), fun H2 q => ⟨ds.length - (i + 1), by omega, rfl, hlt, q⟩, fun x H'' y => ?_⟩
    obtain ⟨H0'', n3, r3, p3⟩ := g2 x H'' y
    have keepD : ∀ {as3 : List Addr} {H03 H3 : Hp}, Nx as' H0' H' as3 H03 H3 → H3 Dl = some (.lst ws) ∧ H03 Dl = none ∧ Dl ∉ as3 := fun {as3 H03 H3} n => by
      refine ⟨n.keep Dl _ hD' hm', n.out Dl _ hD' h0' hm', fun z => ?_⟩
      have := n.new Dl z hm'
      rw [hD'] at this; cases this
    have e4 : Er K as' H0'' (L2.wipe σ vs) (wipeR ρ vs) := (((e.mono n1.h0 n1.pre).mono (n'.trans n3).h0 (n'.trans n3).pre)).wipe vs
    have h2 := R.sat_bind h'
    have h3 := R.sat_bind (show ((tg ds[i] (wipeR ρ vs) S').bind fun ρ1 S1 => (t ρ1 S1).bind fun b S2 => if b = true then (elt ρ1 S2).bind fun x S3 => .ok (some x) S3 else .ok none S2).sat _ NoX from h2)
    have fin : gt x (L2.wipe σ vs) H'' fun σ2 H2 => tt σ2 H2 fun b H3 => if b = true then te σ2 H3 fun y H4 => ∃ acc, H4 Dl = some (.lst acc) ∧ acc.length < sizeLine ∧ CW K as1 H01 H1 Dl (compT tg t elt (wipeR ρ vs)) ds (QC K as H0 H Q) (i + 1) (upd H4 Dl (.lst (acc ++ [y])))
        else CW K as1 H01 H1 Dl (compT tg t elt (wipeR ρ vs)) ds (QC K as H0 H Q) (i + 1) H3 := by
      refine hg as' H0'' H'' (wipeR ρ vs) S' (L2.wipe σ vs) x _ _ r3 e4 p3 (R.sat_mono h3 (fun ρ4 S4 h4 => ?_) fun _ _ _ _ z => z)
      intro σ4 as4 H04 H4 n4 r4 e4'
      refine ht as4 H04 H4 ρ4 S4 σ4 _ r4 e4' (R.sat_mono (R.sat_bind h4) (fun b S5 h5 => ?_) fun _ _ _ _ z => z)
      intro as5 H05 H5 n5 r5
      have n35 := (n3.trans n4).trans n5
      cases b with
      | false =>
        obtain ⟨k1, k2, k3⟩ := keepD n35
        refine ⟨as5, H05, S5, ws, ys, n'.trans n35, r5, k2, k3, k1, rp'.mono n35.h0 n35.pre, Nat.le_succ_of_le hys, ?_⟩
        exact R.sat_mono (R.sat_bind (show ((compL (compT tg t elt (wipeR ρ vs)) (ds.drop (i + 1)) S5).bind fun xs S2 => .ok xs S2).sat _ NoX from h5)) (fun _ _ q => q) fun _ _ _ _ z => z
      | true =>
        refine he as5 H05 H5 ρ4 S5 σ4 _ r5 (e4'.mono n5.h0 n5.pre) (R.sat_mono (R.sat_bind h5) (fun z S6 h6 => ?_) fun _ _ _ _ z => z)
        intro v as6 H06 H6 n6 r6 p6
        have n36 := n35.trans n6
        obtain ⟨k1, k2, k3⟩ := keepD n36
        have rw' := rp'.mono n36.h0 n36.pre
        refine ⟨ws, k1, ?_, as6, H06, S6, ws ++ [v], ys ++ [z], (n'.trans n36).turn hD, r6.turn k2 k3 (r1.unborn hD), k2, k3, upd_same, rw'.append (.cons p6 .nil), by rw [List.length_append]; exact Nat.add_le_add_right hys 1, ?_⟩
        · rw [rp'.length]
          have : sizeLine = 16777216 := sizeLine_eq
          omega
        · refine R.sat_mono (R.sat_bind (show ((compL (compT tg t elt (wipeR ρ vs)) (ds.drop (i + 1)) S6).bind fun xs S2 => .ok (z :: xs) S2).sat _ NoX from h6)) (fun xs S7 q => ?_) fun _ _ _ _ z => z
          intro p ws7 as7 H07 H7 n7 r7 a1 a2 a3 a4 a5
          exact q p ws7 as7 H07 H7 n7 r7 a1 a2 a3 a4 (by rw [List.append_assoc] at a5; exact a5)
    have fin2 := hw x (L2.wipe σ vs) H'' _ fin
    rw [wipe_idem] at fin2
    exact fin2
  · have hn : ds.length ≤ i := by omega
    rw [List.drop_eq_nil_of_le hn] at h'
    exact .inl ⟨d2 (Nat.le_antisymm hn hi'), h' Dl ws as' H0' H' (n1.trans n') r' hDH h0' hm' hD' (by rw [List.append_nil]; exact rp')⟩
end
end PL

set_option Elab.async false
set_option linter.all false
set_option maxRecDepth 100000
set_option maxHeartbeats 4000000
/-! what is walked; comprehensions as forms -/
namespace PL
open PySem PySem.Spec PyProof.Rows L2
variable [B : Bs]
section
variable {g : G} {og sc : Scope}

/-! ### what is walked: a list or a tuple -/
omit [B : Bs] in
def iSeq (K : PySem.W.Frag) (tl : TE) : TI := fun σ H R => tl σ H fun x H1 => (∃ a, x = .ref a ∧ (∃ xs, SqL K H1 a xs) ∧ R (Itl K a) H1) ∨ (∃ a, x = .ref a ∧ (∃ xs, SqT K H1 a xs) ∧ R (Itt K a) H1) ∨ ∃ z, x = .str z ∧ R (Its z) H1
omit [B : Bs] in
theorem pi_seq {X : Cx} {tg l : Expr} {tl : TE} (hl : PE X l tl) : PI X tg l (iSeq X.K tl) := by
  constructor
  intro pins s σ H R I h
  refine thn (hl.run pins s σ H _ I h) ?_
  rintro v s1 ⟨x, H1, I1, r1, q1⟩
  have place : ∀ b ∈ [s1.heap.objs.size], FpOk X pins H1 b := by
    intro b hb
    obtain rfl : b = s1.heap.objs.size := by simpa using hb
    exact I1.fpOk (Nat.le_refl _) (I1.hok.fresh (Nat.le_refl _))
  rcases q1 with ⟨a, rfl, ⟨xs, hq⟩, q⟩ | ⟨a, rfl, ⟨xs, hq⟩, q⟩ | ⟨z, rfl, q⟩
  · cases r1
    obtain ⟨its, rv, p, hz⟩ := I1.list hq
    exact wpAny_pyIter_list p.isList ⟨_, _, _, _, H1, rfl, I1.kept (t' := s1.toks) fun _ _ e => Heap.get?_push_of_some _ e, turn_list a _, ⟨_, Heap.get?_push_size _ rfl, rfl, rfl⟩, place, q⟩
  · cases r1
    obtain ⟨its, rv, p, hz⟩ := I1.tuple hq
    exact wpAny_pyIter_tuple (show s1.heap.IsTuple a its.toArray from p) ⟨_, _, _, _, H1, rfl, I1.kept (t' := s1.toks) fun _ _ e => Heap.get?_push_of_some _ e, turn_tuple a _, ⟨_, Heap.get?_push_size _ rfl, rfl, rfl⟩, place, q⟩
  · obtain ⟨t, rfl⟩ := r1
    cases ha : z.cps.all (· < 128)
    · exact wpAny_pyIter_wide ha (pi_one (tk := s1.toks) I1 _ (turn_str _ z t "str_iterator" (.inr rfl)) ⟨_, Heap.get?_push_size _ rfl, rfl, rfl⟩ q)
    · exact wpAny_pyIter_ascii ha (pi_one (tk := s1.toks) I1 _ (turn_str _ z t "str_ascii_iterator" (.inl rfl)) ⟨_, Heap.get?_push_size _ rfl, rfl, rfl⟩ q)
omit [B : Bs] in
/-- the items of a list or tuple that never changes -/
def iSeqF (a : Ev) : Av := fun ρ S => (a ρ S).bind fun x S1 => match x with
  | .lst xs => .ok xs S1
  | .tup xs => .ok xs S1
  | .str z => .ok (z.cps.toList.map fun c => .str ⟨#[c]⟩) S1
  | _ => .no
theorem dlv_lst {K : PySem.W.Frag} {as : List Addr} {H0 H : Hp} {a : Addr} {vs : List V} {ds : List D} (h : H0 a = some (.lst vs)) (r : RpA K as H0 vs ds) : Dlv K (Itl K a) as H0 H ds := by
  intro i as' H0' H' S' n r'
  have hq : SqL K H' a vs := SqL.of (r'.ex _ _ (n.h0 _ _ h))
  refine ⟨fun d hd => ?_, fun hl => ⟨vs, hq, by rw [r.length]; exact Nat.le_of_eq hl⟩⟩
  obtain ⟨v, hv, pv⟩ := r.get hd
  refine ⟨⟨vs, v, hq, hv⟩, fun x H'' y => ?_⟩
  obtain ⟨e, y⟩ := y
  subst e
  have ex : x = v := Option.some.inj ((y vs hq).symm.trans hv)
  subst ex
  exact ⟨H0', Nx.refl, r', pv.mono n.h0 n.pre⟩
theorem dlv_tup {K : PySem.W.Frag} {as : List Addr} {H0 H : Hp} {a : Addr} {vs : List V} {ds : List D} (h : H0 a = some (.tup vs)) (r : RpA K as H0 vs ds) : Dlv K (Itt K a) as H0 H ds := by
  intro i as' H0' H' S' n r'
  have hq : SqT K H' a vs := SqT.of (r'.ex _ _ (n.h0 _ _ h))
  refine ⟨fun d hd => ?_, fun hl => ⟨vs, hq, by rw [r.length]; exact Nat.le_of_eq hl⟩⟩
  obtain ⟨v, hv, pv⟩ := r.get hd
  refine ⟨⟨vs, v, hq, hv⟩, fun x H'' y => ?_⟩
  obtain ⟨e, y⟩ := y
  subst e
  have ex : x = v := Option.some.inj ((y vs hq).symm.trans hv)
  subst ex
  exact ⟨H0', Nx.refl, r', pv.mono n.h0 n.pre⟩
theorem dlv_str {K : PySem.W.Frag} {as : List Addr} {H0 H : Hp} {z : Str} : Dlv K (Its z) as H0 H (z.cps.toList.map fun c => .str ⟨#[c]⟩) := by
  intro i as' H0' H' S' nx r'
  refine ⟨fun d hd => ⟨?_, fun x H'' y => ?_⟩, fun hl => by rw [List.length_map, Array.length_toList] at hl; exact Nat.le_of_eq hl⟩
  · have := (List.getElem?_eq_some_iff.mp hd).1
    rw [List.length_map, Array.length_toList] at this
    exact this
  · obtain ⟨e, c, hc, y⟩ := y
    subst e y
    rw [List.getElem?_map, Array.getElem?_toList, hc] at hd
    cases hd
    exact ⟨H0', Nx.refl, r', .str _⟩
theorem si_seq {tg e : Expr} {a : Ev} (ha : SE g og sc e a) : SI g og sc tg e (iSeqF a) := by
  obtain ⟨ta, pa, sa⟩ := ha
  refine ⟨iSeq g.K ta, fun X c => by rw [← c.K]; exact pi_seq (pa X c), fun as H0 H ρ S σ Rq r e h => ?_⟩
  refine sa as H0 H ρ S σ _ r e (R.sat_mono (R.sat_bind h) (fun x S1 h1 => ?_) fun _ _ _ _ z => z)
  intro v as1 H01 H1 n1 r1 p1
  cases x with
  | lst xs =>
    cases p1 with
    | lst hh pp => exact .inl ⟨_, rfl, ⟨_, SqL.of (r1.ex _ _ hh)⟩, h1 _ as1 H01 H1 n1 r1 (dlv_lst hh pp)⟩
  | tup xs =>
    cases p1 with
    | tup hh pp => exact .inr (.inl ⟨_, rfl, ⟨_, SqT.of (r1.ex _ _ hh)⟩, h1 _ as1 H01 H1 n1 r1 (dlv_tup hh pp)⟩)
  | str z =>
    cases p1
    exact .inr (.inr ⟨_, rfl, h1 _ as1 H01 H1 n1 r1 dlv_str⟩)
  | _ => exact h1.elim
/-! ### ranges -/
omit [B : Bs] in
def intsD (lo : Int) : Nat → List D
  | 0 => []
  | n + 1 => .int lo :: intsD (lo + 1) n
omit [B : Bs] in
theorem ints_len : ∀ (n : Nat) (lo : Int), (intsD lo n).length = n
  | 0, _ => rfl
  | n + 1, lo => by rw [intsD, List.length_cons, ints_len n]
omit [B : Bs] in
theorem ints_get : ∀ (n : Nat) (lo : Int) (i : Nat) (d : D), (intsD lo n)[i]? = some d → d = .int (lo + i)
  | 0, _, _, _, h => by simp [intsD] at h
  | n + 1, lo, 0, d, h => by
    simp [intsD] at h
    rw [← h]
    congr 1
    omega
  | n + 1, lo, i + 1, d, h => by
    rw [intsD, List.getElem?_cons_succ] at h
    rw [ints_get n (lo + 1) i d h]
    congr 1
    omega
theorem dlv_rng {K : PySem.W.Frag} {as : List Addr} {H0 H : Hp} {lo : Int} {n : Nat} : Dlv K (Itr lo n) as H0 H (intsD lo n) := by
  intro i as' H0' H' S' nx r'
  refine ⟨fun d hd => ⟨?_, fun x H'' y => ?_⟩, fun hl => by rw [ints_len] at hl; exact Nat.le_of_eq hl⟩
  · have := (List.getElem?_eq_some_iff.mp hd).1
    rw [ints_len] at this
    exact this
  · obtain ⟨e, y⟩ := y
    subst e y
    rw [ints_get n lo i d hd]
    exact ⟨H0', Nx.refl, r', .int _⟩
omit [B : Bs] in
def iRng1F (b : Av) : Av := fun ρ S => (b ρ S).bind fun xs S1 => match xs with
  | [.int j] => if -(2 ^ 62) ≤ j ∧ j < 2 ^ 62 then .ok (intsD 0 j.toNat) S1 else .no
  | _ => .no
omit [B : Bs] in
def iRng2F (b : Av) : Av := fun ρ S => (b ρ S).bind fun xs S1 => match xs with
  | [.int i, .int j] => if -(2 ^ 62) ≤ i ∧ i < 2 ^ 62 ∧ -(2 ^ 62) ≤ j ∧ j < 2 ^ 62 then .ok (intsD i (j - i).toNat) S1 else .no
  | _ => .no
def RgN (g : G) (sc : Scope) : Prop := g.mg ("range" : Str) = none ∧ sc.names.lookup ("range" : Str) = some .globalImplicit
omit [B : Bs] in
theorem starEach_one {e : Expr} {env : Env} (h : isStar e = false) : starEach [e] env = [(false, eval e env)] := by rw [starEach_plain h] <;> rfl
theorem si_rng1 {tg e : Expr} {b : Av} {p pos : Pos} (hs : isStar e = false) (hm : RgN g sc) (hb : SA g og sc [e] b) : SI g og sc tg (.Call (.Name "range" p) [e] [] pos) (iRng1F b) := by
  obtain ⟨tb, pb, sb⟩ := hb
  refine ⟨iRng1 tb, fun X c => pi_range1 (gl_of c hm.2) (by rw [c.mg]; exact hm.1) (pb X c).1 (starEach_one hs), fun as H0 H ρ S σ Rq r e h => ?_⟩
  refine sb as H0 H ρ S σ _ r e (R.sat_mono (R.sat_bind h) (fun xs S1 h1 => ?_) fun _ _ _ _ z => z)
  intro vs as1 H01 H1 n1 r1 p1
  split at h1
  · rename_i j
    cases p1 with
    | cons q1 p2 =>
      cases q1
      cases p2
      split at h1
      · rename_i hj
        exact ⟨j, rfl, hj.1, hj.2, h1 _ as1 H01 H1 n1 r1 dlv_rng⟩
      · exact h1.elim
  · exact h1.elim
omit [B : Bs] in
def stepsD (lo c : Int) : Nat → List D
  | 0 => []
  | n + 1 => .int lo :: stepsD (lo + c) c n
omit [B : Bs] in
theorem steps_len : ∀ (n : Nat) (lo c : Int), (stepsD lo c n).length = n
  | 0, _, _ => rfl
  | n + 1, lo, c => by rw [stepsD, List.length_cons, steps_len n]
omit [B : Bs] in
theorem steps_get : ∀ (n : Nat) (lo c : Int) (i : Nat) (d : D), (stepsD lo c n)[i]? = some d → d = .int (lo + (i : Int) * c)
  | 0, _, _, _, _, h => by simp [stepsD] at h
  | n + 1, lo, c, 0, d, h => by
    simp [stepsD] at h
    rw [← h]
    congr 1
    simp
  | n + 1, lo, c, i + 1, d, h => by
    rw [stepsD, List.getElem?_cons_succ] at h
    rw [steps_get n (lo + c) c i d h]
    congr 1
    have : ((i + 1 : Nat) : Int) * c = (i : Int) * c + c := by rw [Int.natCast_succ, Int.add_mul, Int.one_mul]
    omega
theorem dlv_stp {K : PySem.W.Frag} {as : List Addr} {H0 H : Hp} {lo c : Int} {n : Nat} : Dlv K (Itc lo c n) as H0 H (stepsD lo c n) := by
  intro i as' H0' H' S' nx r'
  refine ⟨fun d hd => ⟨?_, fun x H'' y => ?_⟩, fun hl => by rw [steps_len] at hl; exact Nat.le_of_eq hl⟩
  · have := (List.getElem?_eq_some_iff.mp hd).1
    rw [steps_len] at this
    exact this
  · obtain ⟨e, y⟩ := y
    subst e y
    rw [steps_get n lo c i d hd]
    exact ⟨H0', Nx.refl, r', .int _⟩
omit [B : Bs] in
def rng3 (i j c : Int) (S1 : Store) : R (List D) := match Builtin.Range.small i j c with
  | true => if c ≠ 0 ∧ c.natAbs < 1073741824 ∧ 0 ≤ Builtin.Range.rangeSize i j c then .ok (stepsD i c (Builtin.Range.rangeSize i j c).toNat) S1 else .no
  | false => .no
omit [B : Bs] in
def iRng3F (b : Av) : Av := fun ρ S => (b ρ S).bind fun xs S1 => match xs with
  | [.int i, .int j, .int c] => rng3 i j c S1
  | _ => .no
theorem si_rng3 {tg e1 e2 e3 : Expr} {b : Av} {p pos : Pos} (hs : isStar e1 = false) (hs2 : isStar e2 = false) (hs3 : isStar e3 = false) (hm : RgN g sc) (hb : SA g og sc [e1, e2, e3] b) : SI g og sc tg (.Call (.Name "range" p) [e1, e2, e3] [] pos) (iRng3F b) := by
  obtain ⟨tb, pb, sb⟩ := hb
  refine ⟨iRng3 tb, fun X c => pi_range3 (gl_of c hm.2) (by rw [c.mg]; exact hm.1) (pb X c).1 (by rw [starEach_plain hs]) (by rw [starEach_plain hs2, starEach_one hs3]; rfl), fun as H0 H ρ S σ Rq r e h => ?_⟩
  refine sb as H0 H ρ S σ _ r e (R.sat_mono (R.sat_bind h) (fun xs S1 h1 => ?_) fun _ _ _ _ z => z)
  intro vs as1 H01 H1 n1 r1 p1
  split at h1
  · rename_i i j c
    cases p1 with
    | cons q1 p2 =>
      cases q1
      cases p2 with
      | cons q2 p3 =>
        cases q2
        cases p3 with
        | cons q3 p4 =>
          cases q3
          cases p4
          unfold rng3 at h1
          split at h1
          · rename_i hsm
            split at h1
            · rename_i hc
              exact ⟨i, j, c, _, rfl, ⟨hc.1, hc.2.1, hsm, by rw [Int.toNat_of_nonneg hc.2.2]⟩, h1 _ as1 H01 H1 n1 r1 dlv_stp⟩
            · exact h1.elim
          · exact h1.elim
  · exact h1.elim
theorem si_rng2 {tg e1 e2 : Expr} {b : Av} {p pos : Pos} (hs : isStar e1 = false) (hs2 : isStar e2 = false) (hm : RgN g sc) (hb : SA g og sc [e1, e2] b) : SI g og sc tg (.Call (.Name "range" p) [e1, e2] [] pos) (iRng2F b) := by
  obtain ⟨tb, pb, sb⟩ := hb
  refine ⟨iRng2 tb, fun X c => pi_range2 (gl_of c hm.2) (by rw [c.mg]; exact hm.1) (pb X c).1 (by rw [starEach_plain hs, starEach_one hs2]) (starEach_one hs2), fun as H0 H ρ S σ Rq r e h => ?_⟩
  refine sb as H0 H ρ S σ _ r e (R.sat_mono (R.sat_bind h) (fun xs S1 h1 => ?_) fun _ _ _ _ z => z)
  intro vs as1 H01 H1 n1 r1 p1
  split at h1
  · rename_i i j
    cases p1 with
    | cons q1 p2 =>
      cases q1
      cases p2 with
      | cons q2 p3 =>
        cases q2
        cases p3
        split at h1
        · rename_i hj
          exact ⟨i, j, rfl, hj, h1 _ as1 H01 H1 n1 r1 dlv_rng⟩
        · exact h1.elim
  · exact h1.elim
/-! ### enumerate, zip (of two lists, of two tuples) -/
omit [B : Bs] in
def pairs (xs ys : List D) : List D := (xs.zip ys).map fun p => .tup [p.1, p.2]
omit [B : Bs] in
def enums (i : Int) : List D → List D
  | [] => []
  | d :: ds => .tup [.int i, d] :: enums (i + 1) ds
omit [B : Bs] in
theorem enums_len : ∀ (ds : List D) (i : Int), (enums i ds).length = ds.length
  | [], _ => rfl
  | d :: ds, i => by rw [enums, List.length_cons, List.length_cons, enums_len ds]
omit [B : Bs] in
theorem enums_get : ∀ (ds : List D) (k : Int) (i : Nat) (z : D), (enums k ds)[i]? = some z → ∃ d, ds[i]? = some d ∧ z = .tup [.int (k + i), d]
  | [], _, _, _, h => by simp [enums] at h
  | d :: ds, k, 0, z, h => by
    simp [enums] at h
    refine ⟨d, rfl, ?_⟩
    rw [← h]
    congr 3
    omega
  | d :: ds, k, i + 1, z, h => by
    rw [enums, List.getElem?_cons_succ] at h
    obtain ⟨d', h1, h2⟩ := enums_get ds (k + 1) i z h
    refine ⟨d', by rw [List.getElem?_cons_succ]; exact h1, ?_⟩
    rw [h2]
    congr 3
    omega
theorem dlv_enum {K : PySem.W.Frag} {as : List Addr} {H0 H : Hp} {a : Addr} {vs : List V} {ds : List D} (h : H0 a = some (.lst vs)) (r : RpA K as H0 vs ds) : Dlv K (Ite K a) as H0 H (enums 0 ds) := by
  intro i as' H0' H' S' n r'
  have hq : SqL K H' a vs := SqL.of (r'.ex _ _ (n.h0 _ _ h))
  refine ⟨fun z hz => ?_, fun hl => ⟨vs, hq, by rw [enums_len] at hl; rw [r.length]; exact Nat.le_of_eq hl⟩⟩
  obtain ⟨d, hd, ez⟩ := enums_get ds 0 i z hz
  subst ez
  obtain ⟨v, hv, pv⟩ := r.get hd
  refine ⟨⟨vs, v, hq, hv⟩, fun x H'' y => ?_⟩
  obtain ⟨T, x', e1, hT, e2, fx⟩ := y
  subst e1 e2
  have ex : x' = v := Option.some.inj ((fx vs hq).symm.trans hv)
  subst ex
  obtain ⟨r2, n2⟩ := r'.imm (o := .tup [.int (i : Nat), x']) hT
  refine ⟨_, n2, r2, .tup upd_same (.cons ?_ (.cons ((pv.mono n.h0 n.pre).mono n2.h0 n2.pre) .nil))⟩
  rw [show (0 : Int) + (i : Int) = (i : Int) from Int.zero_add _]
  exact .int _
omit [B : Bs] in
theorem pairs_get {xs ys : List D} {i : Nat} {z : D} (h : (pairs xs ys)[i]? = some z) : ∃ x y, xs[i]? = some x ∧ ys[i]? = some y ∧ z = .tup [x, y] := by
  unfold pairs at h
  rw [List.getElem?_map] at h
  cases q : (xs.zip ys)[i]? with
  | none => rw [q] at h; cases h
  | some p =>
    rw [q] at h
    obtain ⟨h1, h2⟩ := List.getElem?_zip_eq_some.mp q
    exact ⟨p.1, p.2, h1, h2, (Option.some.inj h).symm⟩
omit [B : Bs] in
theorem pairs_len {xs ys : List D} : (pairs xs ys).length = min xs.length ys.length := by
  unfold pairs
  rw [List.length_map, List.length_zip]
theorem dlv_zipL {K : PySem.W.Frag} {as : List Addr} {H0 H : Hp} {a b : Addr} {vs ws : List V} {ds es : List D} (h : H0 a = some (.lst vs)) (r : RpA K as H0 vs ds) (h' : H0 b = some (.lst ws)) (rb : RpA K as H0 ws es) : Dlv K (Itz K a b) as H0 H (pairs ds es) := by
  intro i as' H0' H' S' n r'
  have hq : SqL K H' a vs := SqL.of (r'.ex _ _ (n.h0 _ _ h))
  have hq' : SqL K H' b ws := SqL.of (r'.ex _ _ (n.h0 _ _ h'))
  refine ⟨fun z hz => ?_, fun hl => ⟨vs, ws, hq, hq', by rw [pairs_len] at hl; rw [r.length, rb.length]; omega⟩⟩
  obtain ⟨d, e, hd, he, ez⟩ := pairs_get hz
  subst ez
  obtain ⟨v, hv, pv⟩ := r.get hd
  obtain ⟨w, hw, pw⟩ := rb.get he
  refine ⟨⟨vs, ws, v, w, hq, hq', hv, hw⟩, fun x H'' y => ?_⟩
  obtain ⟨T, x', y', e1, hT, e2, fx, fy⟩ := y
  subst e1 e2
  have ex : x' = v := Option.some.inj ((fx vs hq).symm.trans hv)
  have ey : y' = w := Option.some.inj ((fy ws hq').symm.trans hw)
  subst ex ey
  obtain ⟨r2, n2⟩ := r'.imm (o := .tup [x', y']) hT
  exact ⟨_, n2, r2, .tup upd_same (.cons ((pv.mono n.h0 n.pre).mono n2.h0 n2.pre) (.cons ((pw.mono n.h0 n.pre).mono n2.h0 n2.pre) .nil))⟩
theorem dlv_zipT {K : PySem.W.Frag} {as : List Addr} {H0 H : Hp} {a b : Addr} {vs ws : List V} {ds es : List D} (h : H0 a = some (.tup vs)) (r : RpA K as H0 vs ds) (h' : H0 b = some (.tup ws)) (rb : RpA K as H0 ws es) : Dlv K (RZ.ItzT K a b) as H0 H (pairs ds es) := by
  intro i as' H0' H' S' n r'
  have hq : SqT K H' a vs := SqT.of (r'.ex _ _ (n.h0 _ _ h))
  have hq' : SqT K H' b ws := SqT.of (r'.ex _ _ (n.h0 _ _ h'))
  refine ⟨fun z hz => ?_, fun hl => ⟨vs, ws, hq, hq', by rw [pairs_len] at hl; rw [r.length, rb.length]; omega⟩⟩
  obtain ⟨d, e, hd, he, ez⟩ := pairs_get hz
  subst ez
  obtain ⟨v, hv, pv⟩ := r.get hd
  obtain ⟨w, hw, pw⟩ := rb.get he
  refine ⟨⟨vs, ws, v, w, hq, hq', hv, hw⟩, fun x H'' y => ?_⟩
  obtain ⟨T, x', y', e1, hT, e2, fx, fy⟩ := y
  subst e1 e2
  have ex : x' = v := Option.some.inj ((fx vs hq).symm.trans hv)
  have ey : y' = w := Option.some.inj ((fy ws hq').symm.trans hw)
  subst ex ey
  obtain ⟨r2, n2⟩ := r'.imm (o := .tup [x', y']) hT
  exact ⟨_, n2, r2, .tup upd_same (.cons ((pv.mono n.h0 n.pre).mono n2.h0 n2.pre) (.cons ((pw.mono n.h0 n.pre).mono n2.h0 n2.pre) .nil))⟩
omit [B : Bs] in
def iEnumF (b : Av) : Av := fun ρ S => (b ρ S).bind fun xs S1 => match xs with
  | [.lst ds] => .ok (enums 0 ds) S1
  | _ => .no
omit [B : Bs] in
def iZipF (b : Av) : Av := fun ρ S => (b ρ S).bind fun xs S1 => match xs with
  | [.lst ds, .lst es] => .ok (pairs ds es) S1
  | [.tup ds, .tup es] => .ok (pairs ds es) S1
  | _ => .no
def NmN (g : G) (sc : Scope) (x : Str) : Prop := g.mg x = none ∧ sc.names.lookup x = some .globalImplicit
theorem si_enum {e : Expr} {b : Av} {p pos tpos : Pos} {elts : List Expr} {kk : Nat} (hs : isStar e = false) (hm : NmN g sc "enumerate") (hb : SA g og sc [e] b) : SI g og sc (.Tuple elts kk tpos) (.Call (.Name "enumerate" p) [e] [] pos) (iEnumF b) := by
  obtain ⟨tb, pb, sb⟩ := hb
  refine ⟨iEnum g.K tb, fun X c => by rw [← c.K]; exact pi_enum (gl_of c hm.2) (by rw [c.mg]; exact hm.1) (pb X c).1 (starEach_one hs), fun as H0 H ρ S σ Rq r e h => ?_⟩
  refine sb as H0 H ρ S σ _ r e (R.sat_mono (R.sat_bind h) (fun xs S1 h1 => ?_) fun _ _ _ _ z => z)
  intro vs as1 H01 H1 n1 r1 p1
  split at h1
  · rename_i ds
    cases p1 with
    | cons q1 p2 =>
      cases p2
      cases q1 with
      | lst hh pp => exact ⟨_, _, rfl, SqL.of (r1.ex _ _ hh), h1 _ as1 H01 H1 n1 r1 (dlv_enum hh pp)⟩
  · exact h1.elim
theorem si_zip {e1 e2 : Expr} {b : Av} {p pos tpos : Pos} {elts : List Expr} {kk : Nat} (hs : isStar e1 = false) (hs2 : isStar e2 = false) (hm : NmN g sc "zip") (hb : SA g og sc [e1, e2] b) : SI g og sc (.Tuple elts kk tpos) (.Call (.Name "zip" p) [e1, e2] [] pos) (iZipF b) := by
  obtain ⟨tb, pb, sb⟩ := hb
  refine ⟨RZ.iZipA g.K tb, fun X c => by rw [← c.K]; exact RZ.pi_zipA (gl_of c hm.2) (by rw [c.mg]; exact hm.1) (pb X c).1 (starEach_plain hs) (by rw [starEach_one hs2]; rfl), fun as H0 H ρ S σ Rq r e h => ?_⟩
  refine sb as H0 H ρ S σ _ r e (R.sat_mono (R.sat_bind h) (fun xs S1 h1 => ?_) fun _ _ _ _ z => z)
  intro vs as1 H01 H1 n1 r1 p1
  split at h1
  · rename_i ds es
    cases p1 with
    | cons q1 p2 =>
      cases p2 with
      | cons q2 p3 =>
        cases p3
        cases q1 with
        | lst hh pp =>
          cases q2 with
          | lst hh' pp' => exact ⟨_, _, _, _, rfl, .inl ⟨SqL.of (r1.ex _ _ hh), SqL.of (r1.ex _ _ hh'), h1 _ as1 H01 H1 n1 r1 (dlv_zipL hh pp hh' pp')⟩⟩
  · rename_i ds es
    cases p1 with
    | cons q1 p2 =>
      cases p2 with
      | cons q2 p3 =>
        cases p3
        cases q1 with
        | tup hh pp =>
          cases q2 with
          | tup hh' pp' => exact ⟨_, _, _, _, rfl, .inr ⟨SqT.of (r1.ex _ _ hh), SqT.of (r1.ex _ _ hh'), h1 _ as1 H01 H1 n1 r1 (dlv_zipT hh pp hh' pp')⟩⟩
  · exact h1.elim

/-! ### a comprehension's block -/
omit [B : Bs] in
/-- where no exception may leave -/
def G.quiet (g : G) : G := { g with mr := false }
theorem Cxt.blk {X : Cx} {scope : Scope} (c : Cxt g og sc X) (hk : scope.kind = .function) (s : Shared) (H : Hp) (C : Addr) (cl : List (Str × Addr)) (fp : List Addr) : Cxt g.quiet scope (relS scope sc) (X.blk s H scope (compEnvC scope cl C X.env) fp) where
  prog := c.prog
  w := c.w
  K := c.K
  mg := c.mg
  base := c.base
  A := c.A
  N := c.N
  scq := by
    show relabel scope X.env = relS scope sc
    rw [← c.scq]
    rfl
  kind := hk
  calm := c.calm
  st := fun x h => by
    have z : ∀ k, k ≠ NameKind.free → scope.names.lookup x = some k → (relS scope sc).names.lookup x = some k := fun k hk' hx => lookup_relS_keep hk' hx
    rcases h with h | h
    · exact ⟨.inl (z _ (by decide) h), .inr (z _ (by decide) h)⟩
    · refine ⟨.inr (z _ (by decide) h), .inl ?_⟩
      show (scope.names.lookup x == some .cell) = true
      rw [h]
      decide
  ps := PassesOwn.never
  tk := fun h => by cases h
/-- targets and the places that they write -/
def SGw (g : G) (og sc : Scope) (vs : List Nat) (e : Expr) (f : Gv) : Prop := ∃ t, (∀ X, Cxt g og sc X → PG X e t) ∧ SaysG g.K t f ∧ Within vs t ∧ ∀ x σ H Q Q', (∀ σ H, Q σ H → Q' σ H) → t x σ H Q → t x σ H Q'
theorem SGw.sg {vs : List Nat} {e : Expr} {f : Gv} (h : SGw g og sc vs e f) : SG g og sc e f := let ⟨t, p, s, _⟩ := h; ⟨t, p, s⟩
theorem sgw_var {vs : List Nat} {i : Nat} {x : Str} {pos : Pos} (hi : i ∈ vs) (hN : g.N[i]? = some x) (hv : stB og x = true) : SGw g og sc vs (.Name x pos) (gVar i) := by
  refine ⟨gName i, fun X c => ?_, fun as H0 H ρ S σ v d Q r e p h => h _ as H0 H Nx.refl r (e.set i p), fun x σ H Q h => ⟨wipe_set hi, h⟩, fun x σ H Q Q' k h => k _ _ h⟩
  obtain ⟨h1, h2⟩ := c.st x (stB_of hv)
  exact pg_name c.ndX (by rw [c.N]; exact hN) (by rw [c.scq]; exact h1) (by rw [c.scq]; exact h2)
omit [B : Bs] in
def Withins (vs : List Nat) (gt : TGs) : Prop := ∀ x σ H Q, gt x σ H Q → gt x σ H fun σ2 H2 => L2.wipe σ2 vs = L2.wipe σ vs ∧ Q σ2 H2
def SGsw (g : G) (og sc : Scope) (vs : List Nat) (es : List Expr) (f : Gvs) : Prop := ∃ t, (∀ X, Cxt g og sc X → PGs X es t ∧ ∀ e ∈ es, ∀ z p, e ≠ .Starred z p) ∧ SaysGs g.K t f ∧ Withins vs t ∧ ∀ x σ H Q Q', (∀ σ H, Q σ H → Q' σ H) → t x σ H Q → t x σ H Q'
theorem sgsw_nil {vs : List Nat} : SGsw g og sc vs [] gsNil := by
  refine ⟨gNil, fun X c => ⟨pgs_nil, fun e h => absurd h (by simp)⟩, fun as H0 H ρ S σ vs ds Q r e p h => ?_, fun x σ H Q h => ⟨h.1, rfl, h.2⟩, fun x σ H Q Q' k h => ⟨h.1, k _ _ h.2⟩⟩
  cases p with
  | nil => exact ⟨rfl, h σ as H0 H Nx.refl r e⟩
  | cons _ _ => exact h.elim
theorem sgsw_cons {vs : List Nat} {e : Expr} {es : List Expr} {a : Gv} {b : Gvs} (hs : isStar e = false) (ha : SGw g og sc vs e a) (hb : SGsw g og sc vs es b) : SGsw g og sc vs (e :: es) (gsCons a b) := by
  obtain ⟨ta, pa, sa, wa, ma⟩ := ha
  obtain ⟨tb, pb, sb, wb, mb⟩ := hb
  refine ⟨gCons ta tb, fun X c => ⟨pgs_cons (pa X c) (pb X c).1 (by rw [assignEach_plain hs]; rfl), fun x hx z p q => ?_⟩, fun as H0 H ρ S σ vs ds Q r e p h => ?_, fun x σ H Q h => ?_, fun x σ H Q Q' k h => ?_⟩
  · rcases List.mem_cons.mp hx with k | k
    · subst k; subst q; cases hs
    · exact (pb X c).2 x k z p q
  · cases p with
    | nil => exact h.elim
    | cons p1 p2 =>
      refine ⟨_, _, rfl, sa as H0 H ρ S σ _ _ _ r e p1 (R.sat_mono (R.sat_bind h) (fun ρ1 S1 h1 => ?_) fun _ _ _ _ z => z)⟩
      intro σ' as1 H01 H1 n1 r1 e1
      exact sb as1 H01 H1 ρ1 S1 σ' _ _ _ r1 e1 (p2.mono n1.h0 n1.pre) (R.sat_mono h1 (fun _ _ q => QG.next n1 q) fun _ _ _ _ z => z)
  · obtain ⟨v, r, e1, h⟩ := h
    refine ⟨v, r, e1, ma _ _ _ _ _ (fun σ' H' hq => ?_) (wa _ _ _ _ h)⟩
    obtain ⟨q1, q2⟩ := hq
    refine mb _ _ _ _ _ (fun σ2 H2 q => ?_) (wb _ _ _ _ q2)
    exact ⟨q.1.trans q1, q.2⟩
  · obtain ⟨v, r, e1, h⟩ := h
    exact ⟨v, r, e1, ma _ _ _ _ _ (fun σ' H' hq => mb _ _ _ _ _ k hq) h⟩
theorem sgw_tup {vs : List Nat} {es : List Expr} {b : Gvs} {k : Nat} {pos : Pos} (hb : SGsw g og sc vs es b) (hn : ∀ ds ρ S, ds.length ≠ es.length → b ds ρ S = .no) : SGw g og sc vs (.Tuple es k pos) (gTupF b) := by
  obtain ⟨tb, pb, sb, wb, mb⟩ := hb
  obtain ⟨t, pt, st⟩ := sg_tup (g := g) (og := og) (sc := sc) (k := k) (pos := pos) ⟨tb, pb, sb⟩ hn
  refine ⟨gTup g.K es.length tb, fun X c => ?_, fun as H0 H ρ S σ v d Q r e p h => ?_, fun x σ H Q h => ?_, fun x σ H Q Q' kk h => ?_⟩
  · rw [← c.K]
    exact pg_tup c.calm (pb X c).1 assignEach_len (assignEach_none (pb X c).2)
  · cases d with
    | tup ds =>
      cases p with
      | tup hq pa =>
        rename_i a vs
        have hl : ds.length = es.length := by
          by_cases q : ds.length = es.length
          · exact q
          · have h' : (b ds ρ S).sat (QG g.K as H0 H Q) NoX := h
            rw [hn ds ρ S q] at h'
            exact h'.elim
        exact ⟨a, vs, rfl, SqT.of (r.ex _ _ hq), by rw [pa.length, hl], sb as H0 H ρ S σ vs ds Q r e pa h⟩
    | _ => exact h.elim
  · obtain ⟨a, xs, e1, e2, e3, h⟩ := h
    exact ⟨a, xs, e1, e2, e3, wb _ _ _ _ h⟩
  · obtain ⟨a, xs, e1, e2, e3, h⟩ := h
    exact ⟨a, xs, e1, e2, e3, mb _ _ _ _ _ kk h⟩
/-- tests ahead of the element -/
def SPTs (g : G) (og sc : Scope) (es : List Expr) (f : Tv) : Prop := ∃ t, (∀ X, Cxt g og sc X → PTs X es t) ∧ SaysT g.K t f
omit [B : Bs] in
def tYesF : Tv := fun _ S => .ok true S
theorem spts_nil : SPTs g og sc [] tYesF := ⟨tYes, fun X c => pts_nil, fun as H0 H ρ S σ Q r e h => h as H0 H Nx.refl r⟩
theorem spts_one {e : Expr} {f : Tv} (h : ST g og sc e f) : SPTs g og sc [e] f := by
  obtain ⟨t, p, s⟩ := h
  exact ⟨t, fun X c => pts_one (p X c), s⟩
theorem eComp_sat {it : Av} {tg : Gv} {t : Tv} {elt : Ev} {vs : List Nat} {ρ : Rho} {S : Store} {P : D → Store → Prop} (h : (eComp it tg t elt vs ρ S).sat P NoX) :
    ((it ρ S).bind fun ds S1 => if ds.length ≤ 1000000 then compL (compT tg t elt (wipeR ρ vs)) ds S1 else .no).sat (fun xs S' => P (.lst xs) S') NoX := by
  unfold eComp at h
  cases q : it ρ S with
  | ok ds S1 =>
    rw [q] at h
    show R.sat (if ds.length ≤ 1000000 then compL (compT tg t elt (wipeR ρ vs)) ds S1 else .no) _ _
    have h' : R.sat (if ds.length ≤ 1000000 then (compL (compT tg t elt (wipeR ρ vs)) ds S1).bind fun xs S2 => .ok (.lst xs) S2 else .no) P NoX := h
    split at h'
    · rename_i hl
      rw [if_pos hl]
      exact R.sat_bind h'
    · exact h'.elim
  | ex c p ρ1 S1 => rw [q] at h; exact h
  | no => rw [q] at h; exact h
theorem eCompN_sat {it : Av} {tg : Gv} {t : Tv} {elt : Ev} {vs : List Nat} {ρ : Rho} {S : Store} {P : D → Store → Prop} (h : (eCompN it tg t elt vs ρ S).sat P NoX) :
    ((it ρ S).bind fun ds S1 => if ds.length ≤ 1000000 then compL (compT tg t elt (wipeR ρ vs)) ds S1 else .no).sat (fun xs S' => P (.ref S'.length) (S' ++ [some (.lst xs)])) NoX := by
  unfold eCompN at h
  cases q : it ρ S with
  | ok ds S1 =>
    rw [q] at h
    show R.sat (if ds.length ≤ 1000000 then compL (compT tg t elt (wipeR ρ vs)) ds S1 else .no) _ _
    have h' : R.sat (if ds.length ≤ 1000000 then (compL (compT tg t elt (wipeR ρ vs)) ds S1).bind fun xs S2 => .ok (.ref S2.length) (S2 ++ [some (.lst xs)]) else .no) P NoX := h
    split at h'
    · rename_i hl
      rw [if_pos hl]
      exact R.sat_bind h'
    · exact h'.elim
  | ex c p ρ1 S1 => rw [q] at h; exact h
  | no => rw [q] at h; exact h
theorem says_compE {K : PySem.W.Frag} {wi : TI} {gt : TG} {tt : TT} {te : TE} {it : Av} {tg : Gv} {t : Tv} {elt : Ev} {vs : List Nat} (hi : SaysI K wi it) (hg : SaysG K gt tg) (ht : SaysT K tt t) (he : SaysE K te elt) (hw : Within vs gt) : SaysE K (tLc wi gt tt te vs) (eComp it tg t elt vs) := by
  intro as H0 H ρ S σ Q r e h
  refine says_comp hi hg ht he hw r e (R.sat_mono (eComp_sat h) (fun xs S1 h1 => ?_) fun _ _ _ _ z => z)
  intro p ws as' H0' H' n r' a1 a2 a3 a4 a5
  exact h1 _ as' _ H' (n.adopt a1 a2) (r'.adopt a4 a2 a3 (r.unborn a1)) (.lst upd_same (a5.mono (Ex.new a2) (Pre.refl _)))
omit [B : Bs] in
theorem Sr0.adoptN {K : PySem.W.Frag} {as as1 : List Addr} {H0 H H01 H1 : Hp} {S : Store} {p : Addr} {ws : List V} {xs : List D} (r : Sr0 K as H0 H S) (n : Nx as1 H01 H1 as H0 H) (hp : H1 p = none) (h0 : H0 p = none) (hm : p ∉ as) (h : H p = some (.lst ws)) (hx : RpA K as H0 ws xs) :
    Sr0 K (as ++ [p]) H0 H (S ++ [some (.lst xs)]) ∧ Nx as1 H01 H1 (as ++ [p]) H0 H ∧ (as ++ [p])[S.length]? = some p := by
  have hlast : (as ++ [p])[S.length]? = some p := by
    rw [← r.len, List.getElem?_append_right (Nat.le_refl _), Nat.sub_self]
    rfl
  have back : ∀ (n : Nat) (a : Addr), (as ++ [p])[n]? = some a → as[n]? = some a ∨ (n = S.length ∧ a = p) := fun n a h => by
    by_cases q : n < as.length
    · rw [List.getElem?_append_left q] at h; exact .inl h
    · have hn : n < (as ++ [p]).length := (List.getElem?_eq_some_iff.mp h).1
      rw [List.length_append, List.length_singleton] at hn
      have e : n = S.length := by rw [← r.len]; omega
      subst e
      rw [hlast] at h
      exact .inr ⟨rfl, (Option.some.inj h).symm⟩
  have backS : ∀ (n : Nat) (c' : Cell), n ≠ S.length → (S ++ [some (.lst xs)])[n]? = some (some c') → S[n]? = some (some c') := fun n c' ne h => by
    by_cases q : n < S.length
    · rw [List.getElem?_append_left q] at h; exact h
    · have hn : n < (S ++ [some (Cell.lst xs)]).length := (List.getElem?_eq_some_iff.mp h).1
      rw [List.length_append, List.length_singleton] at hn
      exact absurd (by omega) ne
  have lt_as : ∀ (n : Nat) (a : Addr), as[n]? = some a → n ≠ S.length := fun n a h z => by
    have := (List.getElem?_eq_some_iff.mp h).1
    rw [r.len] at this
    omega
  refine ⟨⟨r.ex, by rw [List.length_append, List.length_append, r.len]; rfl, fun n c' a h1 h2 => ?_, fun n m c1 c2 a h1 h2 h3 h4 => ?_, fun a ha => ?_⟩, ⟨n.pre.trans (Pre.snoc _ _), n.h0, n.keep, fun a h h' => ?_, n.out⟩, hlast⟩
  · rcases back n a h2 with q | ⟨q1, q2⟩
    · obtain ⟨z1, z2⟩ := r.cell n c' a (backS n c' (lt_as n a q) h1) q
      exact ⟨z1, z2.lift (Ex.refl _) (Pre.snoc _ _) fun o h => h⟩
    · subst q1 q2
      rw [List.getElem?_append_right (Nat.le_refl _), Nat.sub_self] at h1
      have e : Cell.lst xs = c' := by simpa using h1
      subst e
      exact ⟨h0, ws, h, hx.mono (Ex.refl _) (Pre.snoc _ _)⟩
  · rcases back n a h3 with q | ⟨q1, q2⟩
    · rcases back m a h4 with q' | ⟨q1', q2'⟩
      · exact r.inj n m c1 c2 a (backS n c1 (lt_as n a q) h1) (backS m c2 (lt_as m a q') h2) q q'
      · subst q2'
        exact absurd (List.mem_of_getElem? q) hm
    · rcases back m a h4 with q' | ⟨q1', q2'⟩
      · subst q2
        exact absurd (List.mem_of_getElem? q') hm
      · rw [q1, q1']
  · rcases List.mem_append.mp ha with z | z
    · exact r.there a z
    · have : a = p := by simpa using z
      subst this
      exact ⟨_, h⟩
  · rcases List.mem_append.mp h with z | z
    · exact n.new a z h'
    · have : a = p := by simpa using z
      subst this
      exact hp
theorem Sr.adoptN {K : PySem.W.Frag} {as as1 : List Addr} {H0 H H01 H1 : Hp} {S : Store} {p : Addr} {ws : List V} {xs : List D} (r : Sr K as H0 H S) (n : Nx as1 H01 H1 as H0 H) (hp : H1 p = none) (h0 : H0 p = none) (hm : p ∉ as) (h : H p = some (.lst ws)) (hx : RpA K as H0 ws xs) (hB : B.H p = none) :
    Sr K (as ++ [p]) H0 H (S ++ [some (.lst xs)]) ∧ Nx as1 H01 H1 (as ++ [p]) H0 H ∧ (as ++ [p])[S.length]? = some p :=
  let ⟨a, b, c⟩ := r.toSr0.adoptN n hp h0 hm h hx
  let ⟨_, b2, _⟩ := r.toSr0.adoptN r.nb hB h0 hm h hx
  ⟨⟨a, b2⟩, b, c⟩
theorem says_compN {K : PySem.W.Frag} {wi : TI} {gt : TG} {tt : TT} {te : TE} {it : Av} {tg : Gv} {t : Tv} {elt : Ev} {vs : List Nat} (hi : SaysI K wi it) (hg : SaysG K gt tg) (ht : SaysT K tt t) (he : SaysE K te elt) (hw : Within vs gt) : SaysE K (tLc wi gt tt te vs) (eCompN it tg t elt vs) := by
  intro as H0 H ρ S σ Q r e h
  refine says_comp hi hg ht he hw r e (R.sat_mono (eCompN_sat h) (fun xs S1 h1 => ?_) fun _ _ _ _ z => z)
  intro p ws as' H0' H' n r' a1 a2 a3 a4 a5
  obtain ⟨r2, n2, hl⟩ := r'.adoptN n a1 a2 a3 a4 a5 (r.unborn a1)
  exact h1 _ _ _ H' n2 r2 (.ref hl)
/-- the comprehension's parts -/
structure CompOk (g : G) (og sc scope : Scope) (own : List (Str × Nat)) (tg iter elt : Expr) (ifs : List Expr) (it : Av) (gv : Gv) (t : Tv) (el : Ev) : Prop where
  blk : BlkOk g.N sc scope own
  set : isSetE iter = false
  hi : SI g og sc tg iter it
  hg : SGw g.quiet scope (relS scope sc) (own.map (·.2)) tg gv
  ht : SPTs g.quiet scope (relS scope sc) ifs t
  he : SE g.quiet scope (relS scope sc) elt el
theorem se_compX {scope : Scope} {own : List (Str × Nat)} {tg iter elt : Expr} {ifs : List Expr} {it : Av} {gv : Gv} {t : Tv} {el : Ev} {pos : Pos} (h : CompOk g og sc scope own tg iter elt ifs it gv t el) :
    ∃ wi gt tt te, (∀ X, Cxt g og sc X → PE X (.ListComp elt [⟨tg, iter, ifs, 0⟩] scope pos) (tLc wi gt tt te (own.map (·.2)))) ∧
      (∀ X, Cxt g og sc X → ∀ (i : Nat) (y : Str) (py spos : Pos), X.N[i]? = some y → sc.names.lookup y = some .local → (py.line == pos.line) = true → (scope.names.any fun (n, k) => n == y && (k == .local || k == .cell)) = false →
        PS X (.Assign [.Name y py] (.ListComp elt [⟨tg, iter, ifs, 0⟩] scope pos) spos) (tAsg (tLc wi gt tt te (own.map (·.2))) (gName i))) ∧
      SaysI g.K wi it ∧ SaysG g.K gt gv ∧ SaysT g.K tt t ∧ SaysE g.K te el ∧ Within (own.map (·.2)) gt := by
  obtain ⟨blk, hset, ⟨wi, pi, si⟩, ⟨gt, pg, sg, wg, mg⟩, ⟨tt, pt, st⟩, ⟨te, pe, se⟩⟩ := h
  refine ⟨wi, gt, tt, te, fun X c => ?_, fun X c i y py spos hN hy hl ha => ?_, si, sg, st, se, wg⟩
  · exact pe_lc c.calm c.ndX (pi X c) (by rw [c.N, c.scq]; exact blk) (fun s H C cl fp => pg _ (c.blk blk.kind s H C cl fp)) (fun s H C cl fp => pt _ (c.blk blk.kind s H C cl fp)) (fun s H C cl fp => pe _ (c.blk blk.kind s H C cl fp)) (folded_plain hset)
  · exact ps_setLc c.calm c.ndX hN (by rw [c.scq]; exact hy) (sw_true (by rw [c.scq]; exact c.kind) (by rw [c.scq]; exact hy) hl ha) (pi X c) (by rw [c.N, c.scq]; exact blk) (fun s H C cl fp => pg _ (c.blk blk.kind s H C cl fp)) (fun s H C cl fp => pt _ (c.blk blk.kind s H C cl fp)) (fun s H C cl fp => pe _ (c.blk blk.kind s H C cl fp)) (folded_plain hset)
theorem se_comp {scope : Scope} {own : List (Str × Nat)} {tg iter elt : Expr} {ifs : List Expr} {it : Av} {gv : Gv} {t : Tv} {el : Ev} {pos : Pos} (h : CompOk g og sc scope own tg iter elt ifs it gv t el) : SE g og sc (.ListComp elt [⟨tg, iter, ifs, 0⟩] scope pos) (eComp it gv t el (own.map (·.2))) := by
  obtain ⟨wi, gt, tt, te, p, _, h1, h2, h3, h4, h5⟩ := se_compX (pos := pos) h
  exact ⟨_, p, says_compE h1 h2 h3 h4 h5⟩
theorem se_compN {scope : Scope} {own : List (Str × Nat)} {tg iter elt : Expr} {ifs : List Expr} {it : Av} {gv : Gv} {t : Tv} {el : Ev} {pos : Pos} (h : CompOk g og sc scope own tg iter elt ifs it gv t el) : SE g og sc (.ListComp elt [⟨tg, iter, ifs, 0⟩] scope pos) (eCompN it gv t el (own.map (·.2))) := by
  obtain ⟨wi, gt, tt, te, p, _, h1, h2, h3, h4, h5⟩ := se_compX (pos := pos) h
  exact ⟨_, p, says_compN h1 h2 h3 h4 h5⟩
omit [B : Bs] in
/-- y = [..]: swapped where y is a local on the same line, otherwise plain -/
def swB (sc scope : Scope) (y : Str) (l l2 : Nat) : Bool := sc.names.lookup y == some .local && l == l2 && !(scope.names.any fun (n, k) => n == y && (k == .local || k == .cell))
omit [B : Bs] in
theorem swaps_comp {elt : Expr} {gs : List Comprehension} {scope : Scope} {pos py : Pos} {y : Str} {l : Nat} {env : Env} (hk : env.scope.kind = .function) (h : swB env.scope scope y py.line pos.line = false) : swapsWith (.ListComp elt gs scope pos) (some (.Name y py)) l env = pure false := by
  have hb : env.blockKind = .function := by unfold Env.blockKind; rw [hk]; rfl
  unfold swapsWith
  unfold swB at h
  show (pure _ : Sem Bool) = pure false
  congr 1
  rw [hb]
  exact h
theorem ss_setComp {i : Nat} {y : Str} {py pos spos : Pos} {scope : Scope} {own : List (Str × Nat)} {tg iter elt : Expr} {ifs : List Expr} {it : Av} {gv : Gv} {t : Tv} {el : Ev} {new : Bool} (hN : g.N[i]? = some y) (hv : stB og y = true) (h : CompOk g og sc scope own tg iter elt ifs it gv t el) :
    SS g og sc (.Assign [.Name y py] (.ListComp elt [⟨tg, iter, ifs, 0⟩] scope pos) spos) (sAsg (gVar i) (if new = true then eCompN it gv t el (own.map (·.2)) else eComp it gv t el (own.map (·.2)))) := by
  obtain ⟨wi, gt, tt, te, p, ps, h1, h2, h3, h4, h5⟩ := se_compX (pos := pos) h
  refine ⟨tAsg (tLc wi gt tt te (own.map (·.2))) (gName i), fun X c => ?_, says_asg (by cases new; exact says_compE h1 h2 h3 h4 h5; exact says_compN h1 h2 h3 h4 h5) fun as H0 H ρ S σ v d Q r e p h => h _ as H0 H Nx.refl r (e.set i p)⟩
  cases q : swB sc scope y py.line pos.line with
  | true =>
    unfold swB at q
    simp only [Bool.and_eq_true, Bool.not_eq_true'] at q
    exact ps X c i y py spos (by rw [c.N]; exact hN) (beq_iff_eq.mp q.1.1) q.1.2 q.2
  | false =>
    obtain ⟨z1, z2⟩ := c.st y (stB_of hv)
    exact ps_set c.ndX (by rw [c.N]; exact hN) (by rw [c.scq]; exact z1) (p X c) (swaps_comp (by rw [c.scq]; exact c.kind) (by rw [c.scq]; exact q)) (by rw [c.scq]; exact z2)
end
end PL

set_option Elab.async false
set_option linter.all false
set_option maxRecDepth 100000
set_option maxHeartbeats 4000000
/-! a comprehension with two for -/
namespace PL
open PySem PySem.Spec PyProof.Rows L2
variable [B : Bs]
omit [B : Bs] in
def catL (f : D → Store → R (List D)) : List D → Store → R (List D)
  | [], S => .ok [] S
  | d :: ds, S => (f d S).bind fun xs S1 => (catL f ds S1).bind fun ys S2 => .ok (xs ++ ys) S2
omit [B : Bs] in
def innL (it1 : Av) (tg1 : Gv) (t1 : Tv) (elt : Ev) (vs1 : List Nat) : Rho → Store → R (List D) := fun ρ S => (it1 ρ S).bind fun es S1 => if es.length ≤ 1000 then compL (compT tg1 t1 elt (wipeR ρ vs1)) es S1 else .no
omit [B : Bs] in
def outT (tg : Gv) (t : Tv) (inn : Rho → Store → R (List D)) (ρ : Rho) : D → Store → R (List D) := fun d S => (tg d ρ S).bind fun ρ1 S1 => (t ρ1 S1).bind fun b S2 => if b = true then inn ρ1 S2 else .ok [] S2
omit [B : Bs] in
def eComp2 (it : Av) (tg : Gv) (t : Tv) (it1 : Av) (tg1 : Gv) (t1 : Tv) (elt : Ev) (vs vs1 : List Nat) : Ev := fun ρ S => (it ρ S).bind fun ds S1 => if ds.length ≤ 1000 then (catL (outT tg t (innL it1 tg1 t1 elt vs1) (wipeR ρ vs)) ds S1).bind fun xs S2 => .ok (.lst xs) S2 else .no
section
variable {g : G} {og sc : Scope}
/-- ahead of a turn: the new list at p holds ys, the rest is X -/
def CW2 (K : PySem.W.Frag) (as1 : List Addr) (H01 H1 : Hp) (as6 : List Addr) (H06 : Hp) (p : Addr) (n : Nat) (X : List D → Store → Prop) (H' : Hp) : Prop :=
  ∃ as' H0' S' ws ys, Nx as1 H01 H1 as' H0' H' ∧ Nh as6 H06 as' H0' ∧ Sr K as' H0' H' S' ∧ H0' p = none ∧ p ∉ as' ∧ H' p = some (.lst ws) ∧ RpA K as' H0' ws ys ∧ ys.length ≤ n ∧ X ys S'
theorem says_comp2 {K : PySem.W.Frag} {wi wi1 : TI} {gt gt1 : TG} {tt tt1 : TT} {te : TE} {it it1 : Av} {tg tg1 : Gv} {t t1 : Tv} {elt : Ev} {vs vs1 : List Nat} (hi : SaysI K wi it) (hg : SaysG K gt tg) (ht : SaysT K tt t) (hi1 : SaysI K wi1 it1) (hg1 : SaysG K gt1 tg1) (ht1 : SaysT K tt1 t1) (he : SaysE K te elt)
    (hw : Within vs gt) (hw1 : Within vs1 gt1) : SaysE K (tLc2 wi gt tt wi1 gt1 tt1 te vs vs1) (eComp2 it tg t it1 tg1 t1 elt vs vs1) := by
  intro as H0 H ρ S σ Q r e h
  refine hi as H0 H ρ S σ _ r e (R.sat_mono (R.sat_bind h) (fun ds S1 h1 => ?_) fun _ _ _ _ z => z)
  intro J as1 H01 H1 n1 r1 dl
  split at h1
  case isFalse => exact h1.elim
  rename_i hlen
  intro Dl hD
  have h1 := R.sat_bind h1
  obtain ⟨r2, n2⟩ := r1.fresh (o := .lst []) hD
  let F := outT tg t (innL it1 tg1 t1 elt vs1) (wipeR ρ vs)
  let X : Nat → List D → Store → Prop := fun i ys S' => (catL F (ds.drop i) S').sat (fun zs S3 => QE K as H0 H Q (.lst (ys ++ zs)) S3) NoX
  refine ⟨fun i m H' => m = ds.length - i ∧ i ≤ ds.length ∧ CW2 K as1 H01 H1 as1 H01 Dl (i * 1000) (X i) H', ⟨ds.length, by simp, Nat.zero_le _, as1, H01, S1, [], [], n2, n2.nh, r2, r1.ex.back hD, r1.apart hD, upd_same, .nil, Nat.zero_le _, h1⟩, ?_⟩
  rintro i m H' ⟨rfl, hi', as', H0', S', ws, ys, n', nh', r', h0', hm', hD', rp', hys, h'⟩
  obtain ⟨d1, d2⟩ := dl i as' H0' H' S' nh' r'
  by_cases hlt : i < ds.length
  · have hd : ds[i]? = some ds[i] := List.getElem?_eq_getElem hlt
    obtain ⟨g1, g2⟩ := d1 _ hd
    have h' : (catL F (ds.drop i) S').sat (fun zs S3 => QE K as H0 H Q (.lst (ys ++ zs)) S3) NoX := h'
    rw [List.drop_eq_getElem_cons hlt] at h'
    refine .inr ⟨g1, CW2 K as1 H01 H1 as1 H01 Dl ((i + 1) * 1000) (X (i + 1)), fun H2 q => ⟨ds.length - (i + 1), by omega, rfl, hlt, q⟩, fun x H'' y => ?_⟩
    obtain ⟨H0'', n3, r3, p3⟩ := g2 x H'' y
    have keepD : ∀ {as3 : List Addr} {H03 H3 : Hp}, Nx as' H0' H' as3 H03 H3 → H3 Dl = some (.lst ws) ∧ H03 Dl = none ∧ Dl ∉ as3 := fun {as3 H03 H3} n => by
      refine ⟨n.keep Dl _ hD' hm', n.out Dl _ hD' h0' hm', fun z => ?_⟩
      have := n.new Dl z hm'
      rw [hD'] at this; cases this
    have e4 : Er K as' H0'' (L2.wipe σ vs) (wipeR ρ vs) := (((e.mono n1.h0 n1.pre).mono (n'.trans n3).h0 (n'.trans n3).pre)).wipe vs
    have h2 := R.sat_bind (show ((F ds[i] S').bind fun xs S1 => (catL F (ds.drop (i + 1)) S1).bind fun ys S2 => .ok (xs ++ ys) S2).sat _ NoX from h')
    have h3 := R.sat_bind (show ((tg ds[i] (wipeR ρ vs) S').bind fun ρ1 S1 => (t ρ1 S1).bind fun b S2 => if b = true then innL it1 tg1 t1 elt vs1 ρ1 S2 else .ok [] S2).sat _ NoX from h2)
    have fin : gt x (L2.wipe σ vs) H'' fun σ2 H2 => tt σ2 H2 fun b H3 => if b = true then wi1 σ2 H3 fun J1 H4 => ∃ W1 : Nat → Nat → Hp → Prop, (∃ m, W1 0 m H4) ∧ ∀ j k H, W1 j k H →
        (J1.stop j H ∧ CW2 K as1 H01 H1 as1 H01 Dl ((i + 1) * 1000) (X (i + 1)) H) ∨ (J1.go j H ∧ ∃ Nx1 : Hp → Prop, (∀ H', Nx1 H' → ∃ k', k' < k ∧ W1 (j + 1) k' H') ∧ ∀ x H', J1.yld j H x H' → gt1 x (L2.wipe σ2 vs1) H' fun σ3 H5 => L2.wipe σ3 vs1 = L2.wipe σ2 vs1 ∧ tt1 σ3 H5 fun b H6 =>
          if b = true then te σ3 H6 fun y H7 => ∃ acc, H7 Dl = some (.lst acc) ∧ acc.length < sizeLine ∧ Nx1 (upd H7 Dl (.lst (acc ++ [y]))) else Nx1 H6)
        else CW2 K as1 H01 H1 as1 H01 Dl ((i + 1) * 1000) (X (i + 1)) H3 := by
      refine hg as' H0'' H'' (wipeR ρ vs) S' (L2.wipe σ vs) x _ _ r3 e4 p3 (R.sat_mono h3 (fun ρ4 S4 h4 => ?_) fun _ _ _ _ z => z)
      intro σ4 as4 H04 H4 n4 r4 e4'
      refine ht as4 H04 H4 ρ4 S4 σ4 _ r4 e4' (R.sat_mono (R.sat_bind h4) (fun b S5 h5 => ?_) fun _ _ _ _ z => z)
      intro as5 H05 H5 n5 r5
      have n35 := (n3.trans n4).trans n5
      cases b with
      | false =>
        obtain ⟨k1, k2, k3⟩ := keepD n35
        refine ⟨as5, H05, S5, ws, ys, n'.trans n35, (n'.trans n35).nh, r5, k2, k3, k1, rp'.mono n35.h0 n35.pre, by omega, ?_⟩
        exact R.sat_mono (R.sat_bind (show ((catL F (ds.drop (i + 1)) S5).bind fun ys S2 => .ok ([] ++ ys) S2).sat _ NoX from h5)) (fun _ _ q => q) fun _ _ _ _ z => z
      | true =>
        have e5 := e4'.mono n5.h0 n5.pre
        have h5 : (innL it1 tg1 t1 elt vs1 ρ4 S5).sat _ NoX := h5
        refine hi1 as5 H05 H5 ρ4 S5 σ4 _ r5 e5 (R.sat_mono (R.sat_bind h5) (fun es S6 h6 => ?_) fun _ _ _ _ z => z)
        intro J1 as6 H06 H6 n6 r6 dl6
        split at h6
        case isFalse => exact h6.elim
        rename_i hlen6
        have n36 := n35.trans n6
        obtain ⟨k1, k2, k3⟩ := keepD n36
        let f1 := compT tg1 t1 elt (wipeR ρ4 vs1)
        let X1 : Nat → List D → Store → Prop := fun j ys' S' => (compL f1 (es.drop j) S').sat (fun xs S'' => (catL F (ds.drop (i + 1)) S'').sat (fun zs S3 => QE K as H0 H Q (.lst (ys' ++ xs ++ zs)) S3) NoX) NoX
        refine ⟨fun j k H' => k = es.length - j ∧ j ≤ es.length ∧ CW2 K as1 H01 H1 as6 H06 Dl (i * 1000 + j) (X1 j) H', ⟨es.length, by simp, Nat.zero_le _, as6, H06, S6, ws, ys, n'.trans n36, Nx.refl.nh (H := H6), r6, k2, k3, k1, rp'.mono n36.h0 n36.pre, hys, ?_⟩, ?_⟩
        · refine R.sat_mono h6 (fun xs S7 q => ?_) fun _ _ _ _ z => z
          refine R.sat_mono (R.sat_bind q) (fun zs S8 q => ?_) fun _ _ _ _ z => z
          have q' : QE K as H0 H Q (.lst (ys ++ (xs ++ zs))) S8 := q
          rw [← List.append_assoc] at q'
          exact q'
        rintro j k HH ⟨rfl, hj, as7, H07, S7, ws7, ys7, n7, nh7, r7, h07, hm7, hD7, rp7, hys7, h7⟩
        obtain ⟨d3, d4⟩ := dl6 j as7 H07 HH S7 nh7 r7
        by_cases hlt7 : j < es.length
        · have hd7 : es[j]? = some es[j] := List.getElem?_eq_getElem hlt7
          obtain ⟨g3, g4⟩ := d3 _ hd7
          have h7 : (compL f1 (es.drop j) S7).sat (fun xs S'' => (catL F (ds.drop (i + 1)) S'').sat (fun zs S3 => QE K as H0 H Q (.lst (ys7 ++ xs ++ zs)) S3) NoX) NoX := h7
          rw [List.drop_eq_getElem_cons hlt7] at h7
          refine .inr ⟨g3, CW2 K as1 H01 H1 as6 H06 Dl (i * 1000 + (j + 1)) (X1 (j + 1)), fun H2 q => ⟨es.length - (j + 1), by omega, rfl, hlt7, q⟩, fun x8 H8 y8 => ?_⟩
          obtain ⟨H08, n8, r8, p8⟩ := g4 x8 H8 y8
          have keep7 : ∀ {as3 : List Addr} {H03 H3 : Hp}, Nx as7 H07 HH as3 H03 H3 → H3 Dl = some (.lst ws7) ∧ H03 Dl = none ∧ Dl ∉ as3 := fun {as3 H03 H3} n => by
            refine ⟨n.keep Dl _ hD7 hm7, n.out Dl _ hD7 h07 hm7, fun z => ?_⟩
            have := n.new Dl z hm7
            rw [hD7] at this; cases this
          have n68 := nh7.trans n8.nh
          have e8 : Er K as7 H08 (L2.wipe σ4 vs1) (wipeR ρ4 vs1) := ((e5.mono n6.h0 n6.pre).mono n68.h0 n68.pre).wipe vs1
          have h8 := R.sat_bind (show ((f1 es[j] S7).bind fun o S1 => (compL f1 (es.drop (j + 1)) S1).bind fun xs S2 => .ok (match o with | some x => x :: xs | none => xs) S2).sat (fun xs S'' => (catL F (ds.drop (i + 1)) S'').sat (fun zs S3 => QE K as H0 H Q (.lst (ys7 ++ xs ++ zs)) S3) NoX) NoX from h7)
          have h9 := R.sat_bind (show ((tg1 es[j] (wipeR ρ4 vs1) S7).bind fun ρ1 S1 => (t1 ρ1 S1).bind fun b S2 => if b = true then (elt ρ1 S2).bind fun x S3 => .ok (some x) S3 else .ok none S2).sat _ NoX from h8)
          have fin7 : gt1 x8 (L2.wipe σ4 vs1) H8 fun σ3 H5 => tt1 σ3 H5 fun b H6' => if b = true then te σ3 H6' fun y H7' => ∃ acc, H7' Dl = some (.lst acc) ∧ acc.length < sizeLine ∧ CW2 K as1 H01 H1 as6 H06 Dl (i * 1000 + (j + 1)) (X1 (j + 1)) (upd H7' Dl (.lst (acc ++ [y]))) else CW2 K as1 H01 H1 as6 H06 Dl (i * 1000 + (j + 1)) (X1 (j + 1)) H6' := by
            refine hg1 as7 H08 H8 (wipeR ρ4 vs1) S7 (L2.wipe σ4 vs1) x8 _ _ r8 e8 p8 (R.sat_mono h9 (fun ρ9 S9 h10 => ?_) fun _ _ _ _ z => z)
            intro σ9 as9 H09 H9 n9 r9 e9
            refine ht1 as9 H09 H9 ρ9 S9 σ9 _ r9 e9 (R.sat_mono (R.sat_bind h10) (fun b S10 h11 => ?_) fun _ _ _ _ z => z)
            intro as10 H010 H10 n10 r10
            have n710 := (n8.trans n9).trans n10
            cases b with
            | false =>
              obtain ⟨c1, c2, c3⟩ := keep7 n710
              refine ⟨as10, H010, S10, ws7, ys7, n7.trans n710, nh7.trans n710.nh, r10, c2, c3, c1, rp7.mono n710.h0 n710.pre, by omega, ?_⟩
              exact R.sat_mono (R.sat_bind (show ((compL f1 (es.drop (j + 1)) S10).bind fun xs S2 => .ok xs S2).sat _ NoX from h11)) (fun _ _ q => q) fun _ _ _ _ z => z
            | true =>
              refine he as10 H010 H10 ρ9 S10 σ9 _ r10 (e9.mono n10.h0 n10.pre) (R.sat_mono (R.sat_bind h11) (fun z S11 h12 => ?_) fun _ _ _ _ z => z)
              intro v as11 H011 H11 n11 r11 p11
              have n711 := n710.trans n11
              obtain ⟨c1, c2, c3⟩ := keep7 n711
              have rw' := rp7.mono n711.h0 n711.pre
              refine ⟨ws7, c1, ?_, as11, H011, S11, ws7 ++ [v], ys7 ++ [z], (n7.trans n711).turn hD, nh7.trans n711.nh, r11.turn c2 c3 (r1.unborn hD), c2, c3, upd_same, rw'.append (.cons p11 .nil), by rw [List.length_append, List.length_singleton]; omega, ?_⟩
              · rw [rp7.length]
                have : sizeLine = 16777216 := sizeLine_eq
                have : i * 1000 ≤ 1000 * 1000 := Nat.mul_le_mul_right _ (by omega)
                omega
              · refine R.sat_mono (R.sat_bind (show ((compL f1 (es.drop (j + 1)) S11).bind fun xs S2 => .ok (z :: xs) S2).sat _ NoX from h12)) (fun xs S12 q => ?_) fun _ _ _ _ z => z
                refine R.sat_mono q (fun zs S13 q => ?_) fun _ _ _ _ z => z
                have e : (ys7 ++ [z]) ++ xs ++ zs = ys7 ++ (z :: xs) ++ zs := by simp
                rw [e]
                exact q
          have fin8 := hw1 x8 (L2.wipe σ4 vs1) H8 _ fin7
          rw [wipe_idem] at fin8
          exact fin8
        · have hn : es.length ≤ j := by omega
          have h7 : (compL f1 (es.drop j) S7).sat (fun xs S'' => (catL F (ds.drop (i + 1)) S'').sat (fun zs S3 => QE K as H0 H Q (.lst (ys7 ++ xs ++ zs)) S3) NoX) NoX := h7
          rw [List.drop_eq_nil_of_le hn] at h7
          refine .inl ⟨d4 (Nat.le_antisymm hn hj), as7, H07, S7, ws7, ys7, n7, n7.nh, r7, h07, hm7, hD7, rp7, by omega, ?_⟩
          have h7 : (catL F (ds.drop (i + 1)) S7).sat (fun zs S3 => QE K as H0 H Q (.lst (ys7 ++ [] ++ zs)) S3) NoX := h7
          rw [List.append_nil] at h7
          exact h7
    have fin2 := hw x (L2.wipe σ vs) H'' _ fin
    rw [wipe_idem] at fin2
    exact fin2
  · have hn : ds.length ≤ i := by omega
    have h' : (catL F (ds.drop i) S').sat (fun zs S3 => QE K as H0 H Q (.lst (ys ++ zs)) S3) NoX := h'
    rw [List.drop_eq_nil_of_le hn] at h'
    have q : QE K as H0 H Q (.lst (ys ++ [])) S' := h'
    rw [List.append_nil] at q
    have hDH : H Dl = none := by
      cases q : H Dl with
      | none => rfl
      | some o =>
        by_cases z : Dl ∈ as
        · obtain ⟨n, hn⟩ := List.getElem?_of_mem z
          obtain ⟨o', ho'⟩ := r1.there Dl (List.mem_of_getElem? (n1.pre n Dl hn))
          rw [hD] at ho'; cases ho'
        · have := n1.keep Dl o q z
          rw [hD] at this; cases this
    exact .inl ⟨d2 (Nat.le_antisymm hn hi'), q _ as' _ H' ((n1.trans n').adopt hDH h0') (r'.adopt hD' h0' hm' (r.unborn hDH)) (.lst upd_same (rp'.mono (Ex.new h0') (Pre.refl _)))⟩
/-- the parts -/
structure Comp2Ok (g : G) (og sc scope : Scope) (own : List (Str × Nat)) (vs1 : List Nat) (tg iter tg1 iter1 elt : Expr) (ifs ifs1 : List Expr) (it : Av) (gv : Gv) (t : Tv) (it1 : Av) (gv1 : Gv) (t1 : Tv) (el : Ev) : Prop where
  blk : BlkOk g.N sc scope own
  set : isSetE iter = false
  set1 : isSetE iter1 = false
  hv : ∀ i ∈ vs1, i ∈ own.map (·.2)
  hi : SI g og sc tg iter it
  hg : SGw g.quiet scope (relS scope sc) (own.map (·.2)) tg gv
  ht : SPTs g.quiet scope (relS scope sc) ifs t
  hi1 : SI g.quiet scope (relS scope sc) tg1 iter1 it1
  hg1 : SGw g.quiet scope (relS scope sc) vs1 tg1 gv1
  ht1 : SPTs g.quiet scope (relS scope sc) ifs1 t1
  he : SE g.quiet scope (relS scope sc) elt el
variable {scope : Scope} {own : List (Str × Nat)} {vs1 : List Nat} {tg iter tg1 iter1 elt : Expr} {ifs ifs1 : List Expr} {it : Av} {gv : Gv} {t : Tv} {it1 : Av} {gv1 : Gv} {t1 : Tv} {el : Ev} {pos : Pos}
theorem se_comp2X (h : Comp2Ok g og sc scope own vs1 tg iter tg1 iter1 elt ifs ifs1 it gv t it1 gv1 t1 el) :
    ∃ te, (∀ X, Cxt g og sc X → PE X (.ListComp elt [⟨tg, iter, ifs, 0⟩, ⟨tg1, iter1, ifs1, 0⟩] scope pos) te) ∧
      (∀ X, Cxt g og sc X → ∀ (i : Nat) (y : Str) (py spos : Pos), X.N[i]? = some y → sc.names.lookup y = some .local → (py.line == pos.line) = true → (scope.names.any fun (n, k) => n == y && (k == .local || k == .cell)) = false →
        PS X (.Assign [.Name y py] (.ListComp elt [⟨tg, iter, ifs, 0⟩, ⟨tg1, iter1, ifs1, 0⟩] scope pos) spos) (tAsg te (gName i))) ∧ SaysE g.K te (eComp2 it gv t it1 gv1 t1 el (own.map (·.2)) vs1) := by
  obtain ⟨blk, hset, hset1, hv, ⟨wi, pi, si⟩, ⟨gt, pg, sg, wg, mg⟩, ⟨tt, pt, st⟩, ⟨wi1, pi1, si1⟩, ⟨gt1, pg1, sg1, wg1, mg1⟩, ⟨tt1, pt1, st1⟩, ⟨te, pe, se⟩⟩ := h
  refine ⟨tLc2 wi gt tt wi1 gt1 tt1 te (own.map (·.2)) vs1, fun X c => ?_, fun X c i y py spos hN hy hl ha => ?_, says_comp2 si sg st si1 sg1 st1 se wg wg1⟩
  · exact pe_lc2 c.calm c.ndX (pi X c) (by rw [c.N, c.scq]; exact blk) hv (fun s H C cl fp => pg _ (c.blk blk.kind s H C cl fp)) (fun s H C cl fp => pt _ (c.blk blk.kind s H C cl fp))
      (fun s H C cl fp => pi1 _ (c.blk blk.kind s H C cl fp)) (fun s H C cl fp => pg1 _ (c.blk blk.kind s H C cl fp)) (fun s H C cl fp => pt1 _ (c.blk blk.kind s H C cl fp)) (fun s H C cl fp => pe _ (c.blk blk.kind s H C cl fp)) (folded_plain hset) (fun env => folded_plain hset1)
  · exact ps_setLc2 c.calm c.ndX hN (by rw [c.scq]; exact hy) (sw_true (by rw [c.scq]; exact c.kind) (by rw [c.scq]; exact hy) hl ha) (pi X c) (by rw [c.N, c.scq]; exact blk) hv (fun s H C cl fp => pg _ (c.blk blk.kind s H C cl fp)) (fun s H C cl fp => pt _ (c.blk blk.kind s H C cl fp))
      (fun s H C cl fp => pi1 _ (c.blk blk.kind s H C cl fp)) (fun s H C cl fp => pg1 _ (c.blk blk.kind s H C cl fp)) (fun s H C cl fp => pt1 _ (c.blk blk.kind s H C cl fp)) (fun s H C cl fp => pe _ (c.blk blk.kind s H C cl fp)) (folded_plain hset) (fun env => folded_plain hset1)
theorem se_comp2 (h : Comp2Ok g og sc scope own vs1 tg iter tg1 iter1 elt ifs ifs1 it gv t it1 gv1 t1 el) : SE g og sc (.ListComp elt [⟨tg, iter, ifs, 0⟩, ⟨tg1, iter1, ifs1, 0⟩] scope pos) (eComp2 it gv t it1 gv1 t1 el (own.map (·.2)) vs1) := by
  obtain ⟨te, p, _, q⟩ := se_comp2X (pos := pos) h
  exact ⟨te, p, q⟩
theorem ss_setComp2 {i : Nat} {y : Str} {py spos : Pos} (hN : g.N[i]? = some y) (hv : stB sc y = true) (h : Comp2Ok g sc sc scope own vs1 tg iter tg1 iter1 elt ifs ifs1 it gv t it1 gv1 t1 el) :
    SS g sc sc (.Assign [.Name y py] (.ListComp elt [⟨tg, iter, ifs, 0⟩, ⟨tg1, iter1, ifs1, 0⟩] scope pos) spos) (sAsg (gVar i) (eComp2 it gv t it1 gv1 t1 el (own.map (·.2)) vs1)) := by
  obtain ⟨te, p, ps, q⟩ := se_comp2X (pos := pos) h
  refine ⟨tAsg te (gName i), fun X c => ?_, says_asg q fun as H0 H ρ S σ v d Q r e p h => h _ as H0 H Nx.refl r (e.set i p)⟩
  cases q : swB sc scope y py.line pos.line with
  | true =>
    unfold swB at q
    simp only [Bool.and_eq_true, Bool.not_eq_true'] at q
    exact ps X c i y py spos (by rw [c.N]; exact hN) (beq_iff_eq.mp q.1.1) q.1.2 q.2
  | false =>
    obtain ⟨z1, z2⟩ := c.st y (stB_of hv)
    exact ps_set c.ndX (by rw [c.N]; exact hN) (by rw [c.scq]; exact z1) (p X c) (swaps_comp (by rw [c.scq]; exact c.kind) (by rw [c.scq]; exact q)) (by rw [c.scq]; exact z2)
end
end PL

set_option Elab.async false
set_option linter.all false
set_option maxRecDepth 100000
set_option maxHeartbeats 4000000
/-! zip of a list and a tuple, in any mix -/
namespace PL
open PySem PySem.Spec PyProof.Rows L2
variable [B : Bs]
omit [B : Bs] in
/-- true: a list, false: a tuple -/
def SqB (K : PySem.W.Frag) (k : Bool) (H : Hp) (a : Addr) (xs : List V) : Prop := match k with
  | true => SqL K H a xs
  | false => SqT K H a xs
omit [B : Bs] in
def SeqB (k : Bool) (h : Heap) (a : Addr) (xs : Array Value) : Prop := match k with
  | true => h.IsList a xs
  | false => h.IsTuple a xs
omit [B : Bs] in
def RunB (k : Bool) (h : Heap) (r a : Addr) (i : Nat) : Prop := match k with
  | true => h.IsListIter r a i
  | false => h.IsTupleIter r a i
omit [B : Bs] in
def newB (k : Bool) (a : Addr) : Obj := match k with
  | true => { cls := .type "list_iterator", data := .fields #[.ref a, .int 0 0] }
  | false => { cls := .type "tuple_iterator", data := .fields #[.ref a, .int 0 0] }
omit [B : Bs] in
theorem drB {prog : Program} {w : World} {A : Around} (k : Bool) (hh : A.handled = none) (r a : Addr) (ne : a ≠ r) (xs : Array Value) : Draws prog w A r [r, a] xs.size (fun i v => xs[i]? = some v) (fun i h => RunB k h r a i ∧ SeqB k h a xs) := by
  cases k
  · exact Draws.tuple hh r a ne xs
  · exact Draws.list hh r a ne xs
omit [B : Bs] in
theorem bgB (k : Bool) (a : Addr) (xs : Array Value) : Begins (.ref a) (newB k a) fun h => SeqB k h a xs := by
  cases k
  · exact begins_tuple a xs
  · exact begins_list a xs
omit [B : Bs] in
theorem runB_of {k : Bool} {h : Heap} {r a : Addr} (e : h.get? r = some (newB k a)) : RunB k h r a 0 := by
  cases k <;> exact ⟨_, e, rfl, rfl⟩
omit [B : Bs] in
theorem RunB.fld {k : Bool} {h : Heap} {r a : Addr} {i : Nat} (x : RunB k h r a i) : ∃ o, h.get? r = some o ∧ ∀ v, o.data ≠ .cell v := by
  cases k <;> exact let ⟨o, e, _, d⟩ := x; ⟨o, e, fun v q => by rw [d] at q; cases q⟩
omit [B : Bs] in
theorem RunB.at {k : Bool} {h h' : Heap} {r a : Addr} {i : Nat} (x : RunB k h r a i) (e : ∀ o, h.get? r = some o → h'.get? r = some o) : RunB k h' r a i := by
  cases k
  · exact Heap.IsTupleIter.at x e
  · exact Heap.IsListIter.at x e
section
variable {X : Cx} {pins : List (Addr × Obj)} {σ : L2.St} {H : Hp} {s : Shared}
omit [B : Bs] in
theorem invB {k : Bool} {a : Addr} {xs : List V} (I : Inv X pins σ H s) (h : SqB X.K k H a xs) : ∃ its : List Value, Vals xs its ∧ SeqB k s.heap a its.toArray ∧ a < s.heap.objs.size := by
  cases k
  · obtain ⟨its, r, p, _⟩ := I.tuple h
    exact ⟨its, r, p, by obtain ⟨o, e, _⟩ := id p; exact Heap.lt_size e⟩
  · obtain ⟨its, r, p, _⟩ := I.list h
    exact ⟨its, r, p.isList, p.lt⟩
omit [B : Bs] in
theorem injB {k : Bool} {a : Addr} {xs ys : List V} (I : Inv X pins σ H s) (h : SqB X.K k H a xs) (h' : SqB X.K k H a ys) : xs = ys := by
  cases k
  · exact I.tuple_inj h h'
  · exact I.list_inj h h'
end
omit [B : Bs] in
/-- pairs of what two sequences hold at each turn -/
def ItB (K : PySem.W.Frag) (k1 k2 : Bool) (a b : Addr) : It :=
  ⟨fun i H => ∃ (us vs : List V) (u v : V), SqB K k1 H a us ∧ SqB K k2 H b vs ∧ us[i]? = some u ∧ vs[i]? = some v,
    fun i H z H' => ∃ T u v, z = .ref T ∧ H T = none ∧ H' = upd H T (.tup [u, v]) ∧ (∀ us, SqB K k1 H a us → us[i]? = some u) ∧ ∀ vs, SqB K k2 H b vs → vs[i]? = some v,
    fun i H => ∃ us vs : List V, SqB K k1 H a us ∧ SqB K k2 H b vs ∧ i ≤ us.length ∧ i ≤ vs.length ∧ (i = us.length ∨ i = vs.length)⟩
omit [B : Bs] in
def TnB (k1 k2 : Bool) (z TI TO r1 r2 a b : Addr) (i : Nat) (h : Heap) : Prop := IsZip h z TI TO .none ∧ IsTupOf2 h TI (.ref r1) (.ref r2) ∧ (∃ u v, IsTupOf2 h TO u v) ∧ RunB k1 h r1 a i ∧ RunB k2 h r2 b i
omit [B : Bs] in
theorem turnB {P : Program} {w : World} {K : PySem.W.Frag} {elts : List Expr} {kk : Nat} {tpos : Pos} {k1 k2 : Bool} {a b z TI TO r1 r2 : Addr} (S : ZipSep2 z TI TO r1 r2 [r1, a] [r2, b]) (ha : a ≠ r1) (hb : b ≠ r2) :
    Turn P w K (.Tuple elts kk tpos) (ItB K k1 k2 a b) [z, TI, TO, r1, r2] z (TnB k1 k2 z TI TO r1 r2 a b) where
  mem := List.mem_cons_self
  obj := by
    intro i h st c hc
    obtain ⟨q1, q2, ⟨u, v, q3⟩, q4, q5⟩ := st
    simp only [List.mem_cons, List.not_mem_nil, or_false] at hc
    rcases hc with e | e | e | e | e <;> subst e
    · exact ⟨_, q1, fun v q => nomatch q⟩
    · exact ⟨_, q2, fun v q => nomatch q⟩
    · exact ⟨_, q3, fun v q => nomatch q⟩
    · exact q4.fld
    · exact q5.fld
  keep := by
    intro i h h' st k
    obtain ⟨q1, q2, ⟨u, v, q3⟩, q4, q5⟩ := st
    exact ⟨k z (by simp) _ q1, k TI (by simp) _ q2, ⟨u, v, k TO (by simp) _ q3⟩, q4.at (k r1 (by simp)), q5.at (k r2 (by simp))⟩
  item := by
    intro X hP hw hK hc i pins s σ H E I hf st hg
    subst hP hw hK
    obtain ⟨q1, q2, ⟨u0, v0, q3⟩, q4, q5⟩ := st
    obtain ⟨us, vs, u, v, hu, hv, eu, ev⟩ := hg
    obtain ⟨is, rs, ps, _⟩ := invB I hu
    obtain ⟨js, rt, pt, _⟩ := invB I hv
    obtain ⟨x, ex, rx⟩ := rs.get eu
    obtain ⟨y, ey, ry⟩ := rt.get ev
    have hh : X.A.in1.handled = none := I.ok.hd hc
    have lz : z < s.heap.objs.size := Heap.lt_size q1
    have l1 : i < is.toArray.size := by simpa using (List.getElem?_eq_some_iff.mp ex).1
    have l2 : i < js.toArray.size := by simpa using (List.getElem?_eq_some_iff.mp ey).1
    refine wpAny_pyNext_zipD2_item S (drB k1 hh r1 a ha is.toArray) (drB k2 hh r2 b hb js.toArray) q1 q2 q3 ⟨q4, ps⟩ ⟨q5, pt⟩ l1 l2 fun x' y' h' tk e1 e2 z1 z2 z3 z4 z5 z6 z7 => ?_
    have e1 : x' = x := Option.some.inj (e1.symm.trans (by simpa using ex))
    have e2 : y' = y := Option.some.inj (e2.symm.trans (by simpa using ey))
    subst e1 e2
    refine ⟨_, rfl, wpAny_letOwnedTupleGo_zip (s := { s with heap := h', toks := tk }) z1 fun h2 w1 sb => ?_⟩
    have wT : h2.get? s.heap.objs.size = some { cls := .type "tuple", data := .seq #[x', y'] } := sb.extBut _ _ (Nat.ne_of_gt lz) z5
    have no : ObjOk X.prog X.w (upd H s.heap.objs.size (.tup [u, v])) h2 s.heap.objs.size (.tup [u, v]) := ⟨by show 2 ≤ sizeLine; decide, [x', y'], .cons rx (.cons ry .nil), _, wT, rfl, _, rfl⟩
    have old : ∀ c o, c ∉ [z, TI, TO, r1, r2] → s.heap.get? c = some o → h2.get? c = some o := fun c o hb q => by
      simp only [List.mem_cons, List.not_mem_nil, or_false, not_or] at hb
      exact sb.extBut _ _ hb.1 (z7 c o hb.1 hb.2.2.1 hb.2.2.2.1 hb.2.2.2.2 q)
    have I2 : Inv X pins σ (upd H s.heap.objs.size (.tup [u, v])) { s with heap := h2, toks := tk } := I.turnedNew old hf (Nat.le_refl _) no
    have live : ∀ c ∈ [z, TI, TO, r1, r2], c < s.heap.objs.size := fun c hcm => by
      simp only [List.mem_cons, List.not_mem_nil, or_false] at hcm
      rcases hcm with e | e | e | e | e <;> subst e
      · exact lz
      · exact Heap.lt_size q2
      · exact Heap.lt_size q3
      · obtain ⟨o, e, _⟩ := q4.fld; exact Heap.lt_size e
      · obtain ⟨o, e, _⟩ := q5.fld; exact Heap.lt_size e
    refine ⟨.ref s.heap.objs.size, _, I2, rfl, ⟨_, u, v, rfl, I.hok.fresh (Nat.le_refl _), rfl, fun l hl => by rw [injB I hl hu]; exact eu, fun l hl => by rw [injB I hl hv]; exact ev⟩, ⟨w1, ?_, ⟨x', y', ?_⟩, ?_, ?_⟩, fun c hcm => ?_⟩
    · exact sb.extBut _ _ S.TIz (z7 _ _ S.TIz S.TITO S.TIi1 S.TIi2 q2)
    · exact sb.extBut _ _ S.TOz z2
    · exact z3.1.at fun o q => sb.extBut _ _ S.zi1.symm q
    · exact z4.1.at fun o q => sb.extBut _ _ S.zi2.symm q
    · rw [upd_ne (Nat.ne_of_lt (live c hcm))]
      exact (hf c hcm).1
  done := by
    intro X hP hw hK hc i pins s σ H E I hf st hg
    subst hP hw hK
    obtain ⟨q1, q2, ⟨u0, v0, q3⟩, q4, q5⟩ := st
    obtain ⟨us, vs, hu, hv, l1, l2, hend⟩ := hg
    obtain ⟨is, rs, ps, _⟩ := invB I hu
    obtain ⟨js, rt, pt, _⟩ := invB I hv
    have hh : X.A.in1.handled = none := I.ok.hd hc
    have n1 : is.toArray.size = us.length := by simpa using rs.length.symm
    have n2 : js.toArray.size = vs.length := by simpa using rt.length.symm
    refine wpAny_pyNext_zipD2_end S (drB k1 hh r1 a ha is.toArray) (drB k2 hh r2 b hb js.toArray) q1 q2 q3 ⟨q4, ps⟩ ⟨q5, pt⟩ (by omega) (by omega) (by omega) fun h' tk hk => ⟨rfl, I.turnedL (t' := tk) (ch := [z, TI, TO, r1, r2]) (fun c o hb q => ?_) hf⟩
    simp only [List.mem_cons, List.not_mem_nil, or_false, not_or] at hb
    exact hk c o hb.1 hb.2.2.1 hb.2.2.2.1 hb.2.2.2.2 q
  self := fun A i s Q E st h => wpAny_pyIter_zip st.1 h
omit [B : Bs] in
/-- zip of two sequences, each a list or a tuple -/
def iZipB (K : PySem.W.Frag) (ta : TA) : TI := fun σ H R => ta σ H fun vs H1 => ∃ k1 k2 a b xs ys, vs = [.ref a, .ref b] ∧ SqB K k1 H1 a xs ∧ SqB K k2 H1 b ys ∧ R (ItB K k1 k2 a b) H1
omit [B : Bs] in
theorem pi_zipB {X : Cx} {e e2 : Expr} {ta : TA} {p pos tpos : Pos} {elts : List Expr} {kk : Nat} (hg : Gl X "zip") (hm : X.mg "zip" = none) (ha : PA X [e, e2] ta)
    (hs : starEach [e, e2] X.env = (false, eval e X.env) :: starEach [e2] X.env) (hpl : (backTo pos (starEach [e2] X.env)).any (·.1) = false) :
    PI X (.Tuple elts kk tpos) (.Call (.Name "zip" p) [e, e2] [] pos) (iZipB X.K ta) := by
  refine ⟨fun pins s σ H R I h => ?_⟩
  refine Call_ (ld_blt I hg hm PyProof.Rows.boot_zip (PyProof.Rows.callWith_type1 (thn (ha.run pos pins s σ H _ I h) fun us s1 ⟨vs, H1, I1, r1, q1⟩ => ?_) hs hpl))
  obtain ⟨k1, k2, a, b, xs, ys, e0, hx, hy, q⟩ := q1
  subst e0
  cases r1 with
  | cons r rr =>
    cases rr with
    | cons r' rr =>
      cases rr
      cases r
      cases r'
      obtain ⟨is, rs, ps, la⟩ := invB I1 hx
      obtain ⟨js, rt, pt, lb⟩ := invB I1 hy
      refine zip_begins2 (bgB k1 a is.toArray) (bgB k2 b js.toArray) ps pt fun h' w1 w2 w3 w4 w5 w6 hk => wpAny_pyIter_zip w1 ?_
      have I2 : Inv X pins σ H1 { s1 with heap := h' } := I1.kept (t' := s1.toks) hk
      have na : a ≠ s1.heap.objs.size := Nat.ne_of_lt la
      have nb : b ≠ s1.heap.objs.size + 1 := Nat.ne_of_lt (Nat.lt_succ_of_lt lb)
      refine ⟨s1.heap.objs.size + 4, [s1.heap.objs.size + 4, s1.heap.objs.size + 2, s1.heap.objs.size + 3, s1.heap.objs.size, s1.heap.objs.size + 1], TnB k1 k2 _ _ _ _ _ a b, ItB X.K k1 k2 a b, H1, rfl, I2,
        turnB ⟨?_, ?_, ?_, ?_, ?_, ?_, ?_, ?_, ?_, ?_, ?_, ?_, ?_⟩ na nb, ⟨w1, w2, ⟨_, _, w3⟩, runB_of w4, runB_of w5⟩, fun c hc => ?_, q⟩
      case refine_14 =>
        simp only [List.mem_cons, List.not_mem_nil, or_false] at hc
        have le : s1.heap.objs.size ≤ c := by
          rcases hc with e | e | e | e | e <;> rw [e] <;> first | exact Nat.le_refl _ | exact Nat.le_add_right _ _
        exact I1.fpOk le (I1.hok.fresh le)
      all_goals simp only [List.mem_cons, List.not_mem_nil, or_false, not_or, ne_eq, true_or]
      all_goals simp only [Addr] at *
      all_goals omega
/-! ### the form -/
theorem dlv_B {K : PySem.W.Frag} {as : List Addr} {H0 H : Hp} {k1 k2 : Bool} {a b : Addr} {vs ws : List V} {ds es : List D} (h : ∀ H', Ex H0 H' → SqB K k1 H' a vs) (r : RpA K as H0 vs ds) (h' : ∀ H', Ex H0 H' → SqB K k2 H' b ws) (rb : RpA K as H0 ws es) : Dlv K (ItB K k1 k2 a b) as H0 H (pairs ds es) := by
  intro i as' H0' H' S' n r'
  have q1 := h H' (n.h0.trans r'.ex)
  have q2 := h' H' (n.h0.trans r'.ex)
  refine ⟨fun z hz => ?_, fun hn => ?_⟩
  · obtain ⟨d, e, hd, he, ez⟩ := pairs_get hz
    subst ez
    obtain ⟨v, hv, pv⟩ := r.get hd
    obtain ⟨u, hu, pu⟩ := rb.get he
    refine ⟨⟨vs, ws, v, u, q1, q2, hv, hu⟩, fun x H'' y => ?_⟩
    obtain ⟨T, v', u', e1, hT, e2, fv, fu⟩ := y
    subst e1 e2
    have e3 : v' = v := Option.some.inj ((fv vs q1).symm.trans hv)
    have e4 : u' = u := Option.some.inj ((fu ws q2).symm.trans hu)
    subst e3 e4
    obtain ⟨r2, n2⟩ := r'.imm (o := .tup [v', u']) hT
    exact ⟨_, n2, r2, .tup upd_same (.cons ((pv.mono n.h0 n.pre).mono n2.h0 n2.pre) (.cons ((pu.mono n.h0 n.pre).mono n2.h0 n2.pre) .nil))⟩
  · rw [pairs_len] at hn
    have l1 := r.length
    have l2 := rb.length
    exact ⟨vs, ws, q1, q2, by omega, by omega, by omega⟩
omit [B : Bs] in
def iZipF2 (b : Av) : Av := fun ρ S => (b ρ S).bind fun xs S1 => match xs with
  | [.lst ds, .lst es] => .ok (pairs ds es) S1
  | [.tup ds, .tup es] => .ok (pairs ds es) S1
  | [.lst ds, .tup es] => .ok (pairs ds es) S1
  | [.tup ds, .lst es] => .ok (pairs ds es) S1
  | _ => .no
variable {g : G} {og sc : Scope}
theorem si_zipB {e1 e2 : Expr} {b : Av} {p pos tpos : Pos} {elts : List Expr} {kk : Nat} (hs : isStar e1 = false) (hs2 : isStar e2 = false) (hm : NmN g sc "zip") (hb : SA g og sc [e1, e2] b) : SI g og sc (.Tuple elts kk tpos) (.Call (.Name "zip" p) [e1, e2] [] pos) (iZipF2 b) := by
  obtain ⟨tb, pb, sb⟩ := hb
  refine ⟨iZipB g.K tb, fun X c => by rw [← c.K]; exact pi_zipB (gl_of c hm.2) (by rw [c.mg]; exact hm.1) (pb X c).1 (starEach_plain hs) (by rw [starEach_one hs2]; rfl), fun as H0 H ρ S σ Rq r e h => ?_⟩
  refine sb as H0 H ρ S σ _ r e (R.sat_mono (R.sat_bind h) (fun xs S1 h1 => ?_) fun _ _ _ _ z => z)
  intro vs as1 H01 H1 n1 r1 p1
  have two : ∀ {d e : D} {ds es : List D}, xs = [d, e] → (d = .lst ds ∨ d = .tup ds) → (e = .lst es ∨ e = .tup es) → QI g.K as H0 H Rq (pairs ds es) S1 → ∃ k1 k2 a b us ws, vs = [.ref a, .ref b] ∧ SqB g.K k1 H1 a us ∧ SqB g.K k2 H1 b ws ∧ Rq (ItB g.K k1 k2 a b) H1 := by
    intro d e ds es ex hd he q
    subst ex
    cases p1 with
    | cons c1 p2 =>
      cases p2 with
      | cons c2 p3 =>
        cases p3
        rcases hd with rfl | rfl <;> rcases he with rfl | rfl
        · cases c1 with
          | lst hh pp => cases c2 with
            | lst hh' pp' => exact ⟨true, true, _, _, _, _, rfl, SqL.of (r1.ex _ _ hh), SqL.of (r1.ex _ _ hh'), q _ as1 H01 H1 n1 r1 (dlv_B (fun H' e => SqL.of (e _ _ hh)) pp (fun H' e => SqL.of (e _ _ hh')) pp')⟩
        · cases c1 with
          | lst hh pp => cases c2 with
            | tup hh' pp' => exact ⟨true, false, _, _, _, _, rfl, SqL.of (r1.ex _ _ hh), SqT.of (r1.ex _ _ hh'), q _ as1 H01 H1 n1 r1 (dlv_B (fun H' e => SqL.of (e _ _ hh)) pp (fun H' e => SqT.of (e _ _ hh')) pp')⟩
        · cases c1 with
          | tup hh pp => cases c2 with
            | lst hh' pp' => exact ⟨false, true, _, _, _, _, rfl, SqT.of (r1.ex _ _ hh), SqL.of (r1.ex _ _ hh'), q _ as1 H01 H1 n1 r1 (dlv_B (fun H' e => SqT.of (e _ _ hh)) pp (fun H' e => SqL.of (e _ _ hh')) pp')⟩
        · cases c1 with
          | tup hh pp => cases c2 with
            | tup hh' pp' => exact ⟨false, false, _, _, _, _, rfl, SqT.of (r1.ex _ _ hh), SqT.of (r1.ex _ _ hh'), q _ as1 H01 H1 n1 r1 (dlv_B (fun H' e => SqT.of (e _ _ hh)) pp (fun H' e => SqT.of (e _ _ hh')) pp')⟩
  split at h1
  · exact two rfl (.inl rfl) (.inl rfl) h1
  · exact two rfl (.inr rfl) (.inr rfl) h1
  · exact two rfl (.inl rfl) (.inr rfl) h1
  · exact two rfl (.inr rfl) (.inl rfl) h1
  · exact h1.elim
end PL

set_option Elab.async false
set_option linter.all false
set_option maxRecDepth 100000
set_option maxHeartbeats 4000000
/-! enumerate of a list or a tuple -/
namespace PLO
open PySem PySem.Spec PyProof.Rows L2
open AutoSeq1 (wpAny_loadPart')
theorem meets_enum1 {v : Value} {o : Obj} {H : Heap → Prop} (B : Begins v o H) :
    Meets (Builtin.«enumerate.__new__» ⟨[.type "enumerate", v], []⟩) (fun _ R s => H s.heap ∧
      R (.ok (.ret (.ref (s.heap.push o).objs.size))) { s with heap := (s.heap.push o).push { cls := .type "enumerate", data := .fields #[.none, .bool false, .ref s.heap.objs.size, rawInt 0, .none, .none] } }) :=
  .of_wp fun prog w A R s h => by
    obtain ⟨hp, g, d, tk, os⟩ := s
    obtain ⟨h1, h⟩ := h
    have hsub := sub_enumerate
    have q1 : ∀ {A' : Around} {E : Value → Shared → Prop} {Q : Value → Shared → Prop}, Q (.ref hp.objs.size) ⟨hp.push o, g, d, tk, os⟩ → wpAny (model prog w) A' (pyIter v) Q E ⟨hp, g, d, tk, os⟩ :=
      fun q => B.iter prog w _ _ ⟨hp, g, d, tk, os⟩ _ h1 q
    wp_walk using q1
    refine wpAny_stack_any fun st => wpAny_pure ?_
    split
    · rename_i c _ _ _ _ _
      cases (c == Value.type "enumerate")
      · wp_walk using q1
        exact ⟨_, rfl, h⟩
      · wp_walk using q1
        exact ⟨_, rfl, h⟩
    · wp_walk using q1
      exact ⟨_, rfl, h⟩
section
variable {prog : Program} {w : World} {A : Around} {E : Value → Shared → Prop} {s : Shared}
theorem enum1_begins {v : Value} {o : Obj} {H : Heap → Prop} {Q : Value → Shared → Prop} (B : Begins v o H) (h1 : H s.heap)
    (h : ∀ h', IsEnum h' (s.heap.objs.size + 1) s.heap.objs.size 0 .none → h'.get? s.heap.objs.size = some o → (∀ b o, s.heap.get? b = some o → h'.get? b = some o) → Q (.ref (s.heap.objs.size + 1)) { s with heap := h' }) :
    wpAny (model prog w) A (call (.type "enumerate") [v]) Q E s := by
  refine callType_new F.called_enumerate (by decide) (F.typeCall_enumerate_1 _) (F.newCall_enumerate_1 _) (fun obj => F.args_object_init_2 obj _) F.entry_enumerate_new (meets_enum1 B) ⟨h1, ?_⟩
  have hz : (s.heap.push o).objs.size = s.heap.objs.size + 1 := Heap.size_push ..
  show _ ∧ _
  rw [hz]
  have he : IsEnum ((s.heap.push o).push { cls := .type "enumerate", data := .fields #[.none, .bool false, .ref s.heap.objs.size, rawInt 0, .none, .none] }) (s.heap.objs.size + 1) s.heap.objs.size 0 .none := by
    have := Heap.get?_push_size (s.heap.push o) (o := { cls := .type "enumerate", data := .fields #[.none, .bool false, .ref s.heap.objs.size, rawInt 0, .none, .none] }) rfl
    rw [hz] at this
    exact this
  exact ⟨⟨_, he, rfl⟩, h _ he (Heap.get?_push_of_some _ (Heap.get?_push_size _ B.free)) fun b o x => Heap.get?_push_of_some _ (Heap.get?_push_of_some _ x)⟩
end
end PLO
namespace PL
open PySem PySem.Spec PyProof.Rows L2
variable [B : Bs]
omit [B : Bs] in
/-- each item of a sequence with its place, in a new pair -/
def IteB (K : PySem.W.Frag) (k : Bool) (a : Addr) : It :=
  ⟨fun i H => ∃ (xs : List V) (x : V), SqB K k H a xs ∧ xs[i]? = some x, fun i H v H' => ∃ T x, v = .ref T ∧ H T = none ∧ H' = upd H T (.tup [.int (i : Nat), x]) ∧ ∀ xs, SqB K k H a xs → xs[i]? = some x,
    fun i H => ∃ xs : List V, SqB K k H a xs ∧ xs.length = i⟩
omit [B : Bs] in
theorem turnEB {P : Program} {w : World} {K : PySem.W.Frag} {elts : List Expr} {kk : Nat} {tpos : Pos} {k : Bool} (a e it : Addr) (hai : a ≠ it) (hea : e ≠ a) :
    Turn P w K (.Tuple elts kk tpos) (IteB K k a) [e, it] e (fun i h => (∃ old, IsEnum h e it ((i : Nat) : Int) old) ∧ RunB k h it a i ∧ e ≠ it) where
  mem := by simp
  obj := fun i h st b hb => by
    obtain ⟨⟨old, he⟩, hi, _⟩ := st
    have e' : b = e ∨ b = it := by simpa using hb
    rcases e' with z | z
    · rw [z]; exact ⟨_, he, fun v q => nomatch q⟩
    · rw [z]; exact hi.fld
  keep := fun i h h' st q => let ⟨⟨old, he⟩, hi, hne⟩ := st; ⟨⟨old, q e (by simp) _ he⟩, hi.at (q it (by simp)), hne⟩
  item := by
    intro X hP hw hK hc i pins s σ H E I hf st hg
    subst hP hw hK
    obtain ⟨⟨old, he⟩, hit, hne⟩ := st
    obtain ⟨xs, x, hq, hx⟩ := hg
    obtain ⟨its, rv, p, _⟩ := invB I hq
    obtain ⟨u, hu, ru⟩ := rv.get hx
    have hel : e < s.heap.objs.size := Heap.lt_size he
    have hl : i < its.toArray.size := by simpa using (List.getElem?_eq_some_iff.mp hu).1
    have hh : X.A.in1.handled = none := I.ok.hd hc
    refine wpAny_pyNext_enum_itemD (drB k hh it a hai its.toArray) he ⟨hit, p⟩ hl hne (by simp only [List.mem_cons, List.not_mem_nil, or_false, not_or]; exact ⟨hne, hea⟩) fun x' h' tk e1 ho st' hT hsz hk => ?_
    have e1 : x' = u := Option.some.inj (e1.symm.trans (by simpa using hu))
    subst e1
    refine ⟨_, rfl, wpAny_letOwnedTupleGo_enum (s := { s with heap := h', toks := tk + 1 }) ho fun h'' he' sb => ?_⟩
    have hT2 : h''.get? s.heap.objs.size = some { cls := .type "tuple", data := .seq #[.int i tk, x'] } := (sb.2 _ (Nat.ne_of_gt hel)).trans hT
    have new : ObjOk X.prog X.w (upd H s.heap.objs.size (.tup [.int (i : Nat), x])) h'' s.heap.objs.size (.tup [.int (i : Nat), x]) :=
      ⟨by show 2 ≤ sizeLine; decide, [.int i tk, x'], .cons ⟨_, rfl⟩ (.cons ru .nil), ⟨_, hT2, rfl, _, rfl⟩⟩
    have I1 : Inv X pins σ (upd H s.heap.objs.size (.tup [.int (i : Nat), x])) { s with heap := h'', toks := tk + 1 } :=
      I.turnedNew (ch := [e, it]) (fun b ob hb q => (sb.2 b (fun z => hb (by simp [z]))).trans (hk b ob (fun z => hb (by simp [z])) (fun z => hb (by simp [z])) q)) hf (Nat.le_refl _) new
    refine ⟨.ref s.heap.objs.size, _, I1, rfl, ⟨_, x, rfl, I.hok.fresh (Nat.le_refl _), rfl, fun ys hy => by rw [injB I hy hq]; exact hx⟩, ⟨⟨x', ?_⟩, st'.1.at fun o q => (sb.2 it (Ne.symm hne)).trans q, hne⟩, fun b hb => ?_⟩
    · have e1 : ((i + 1 : Nat) : Int) = (i : Int) + 1 := by omega
      rw [e1]
      exact he'
    · have hb' : b < s.heap.objs.size := by
        obtain ⟨o, ho', _⟩ := hit.fld
        have e' : b = e ∨ b = it := by simpa using hb
        rcases e' with z | z
        · rw [z]; exact hel
        · rw [z]; exact Heap.lt_size ho'
      rw [upd_ne (Nat.ne_of_lt hb')]
      exact (hf b hb).1
  done := by
    intro X hP hw hK hc i pins s σ H E I hf st hg
    subst hP hw hK
    obtain ⟨⟨old, he⟩, hit, hne⟩ := st
    obtain ⟨xs, hq, hx⟩ := hg
    obtain ⟨its, rv, p, _⟩ := invB I hq
    obtain ⟨f0, f1, f2, f3, f4, f5⟩ := hf it (by simp)
    have hh : X.A.in1.handled = none := I.ok.hd hc
    have hi : its.toArray.size = i := by
      have := rv.length
      simp only [List.size_toArray]
      omega
    exact wpAny_pyNext_enum_endD (drB k hh it a hai its.toArray) he (by rw [hi]; exact ⟨hit, p⟩) fun h' eb => ⟨rfl, I.turned (t' := s.toks) (fun b o hb q => eb b o hb q) f0 f1 f3 f4 f5⟩
  self := fun A i s Q E st h => let ⟨⟨_, he⟩, _⟩ := st; wpAny_pyIter_enum he h
omit [B : Bs] in
def iEnumB (K : PySem.W.Frag) (ta : TA) : TI := fun σ H R => ta σ H fun vs H1 => ∃ k a xs, vs = [.ref a] ∧ SqB K k H1 a xs ∧ R (IteB K k a) H1
omit [B : Bs] in
theorem pi_enumB {X : Cx} {e : Expr} {ta : TA} {p pos tpos : Pos} {elts : List Expr} {kk : Nat} (hg : Gl X "enumerate") (hm : X.mg "enumerate" = none) (ha : PA X [e] ta) (hs : starEach [e] X.env = [(false, eval e X.env)] := by rfl) :
    PI X (.Tuple elts kk tpos) (.Call (.Name "enumerate" p) [e] [] pos) (iEnumB X.K ta) := by
  refine ⟨fun pins s σ H R I h => ?_⟩
  refine Call_ (ld_blt I hg hm boot_enumerate (PyProof.Rows.callWith_type1 (thn (ha.run pos pins s σ H _ I h) fun us s1 ⟨vs, H1, I1, r1, q1⟩ => ?_) hs rfl))
  obtain ⟨k, a, xs, ex, hq, q⟩ := q1
  subst ex
  cases r1 with
  | cons r rr =>
    cases rr
    cases r
    obtain ⟨its, rv, p', hlt⟩ := invB I1 hq
    refine PLO.enum1_begins (bgB k a its.toArray) p' fun h' he hit hk => wpAny_pyIter_enum he ?_
    have I2 : Inv X pins σ H1 { s1 with heap := h' } := I1.kept (t' := s1.toks) hk
    refine ⟨s1.heap.objs.size + 1, [s1.heap.objs.size + 1, s1.heap.objs.size], _, _, H1, rfl, I2, turnEB a (s1.heap.objs.size + 1) s1.heap.objs.size (Nat.ne_of_lt hlt) (Nat.ne_of_gt (Nat.lt_succ_of_lt hlt)), ⟨⟨.none, he⟩, runB_of hit, Nat.succ_ne_self _⟩, fun b hb => ?_, q⟩
    have e' : b = s1.heap.objs.size + 1 ∨ b = s1.heap.objs.size := by simpa using hb
    have hle : s1.heap.objs.size ≤ b := by
      rcases e' with z | z
      · rw [z]; exact Nat.le_add_right _ _
      · rw [z]; exact Nat.le_refl _
    exact I1.fpOk hle (I1.hok.fresh hle)
theorem dlv_enumB {K : PySem.W.Frag} {k : Bool} {as : List Addr} {H0 H : Hp} {a : Addr} {vs : List V} {ds : List D} (h : ∀ H', Ex H0 H' → SqB K k H' a vs) (r : RpA K as H0 vs ds) : Dlv K (IteB K k a) as H0 H (enums 0 ds) := by
  intro i as' H0' H' S' n r'
  have hq : SqB K k H' a vs := h H' (n.h0.trans r'.ex)
  refine ⟨fun z hz => ?_, fun hl => ⟨vs, hq, by rw [enums_len] at hl; rw [r.length]; exact hl⟩⟩
  obtain ⟨d, hd, ez⟩ := enums_get ds 0 i z hz
  subst ez
  obtain ⟨v, hv, pv⟩ := r.get hd
  refine ⟨⟨vs, v, hq, hv⟩, fun x H'' y => ?_⟩
  obtain ⟨T, x', e1, hT, e2, fx⟩ := y
  subst e1 e2
  have ex : x' = v := Option.some.inj ((fx vs hq).symm.trans hv)
  subst ex
  obtain ⟨r2, n2⟩ := r'.imm (o := .tup [.int (i : Nat), x']) hT
  refine ⟨_, n2, r2, .tup upd_same (.cons ?_ (.cons ((pv.mono n.h0 n.pre).mono n2.h0 n2.pre) .nil))⟩
  rw [show (0 : Int) + (i : Int) = (i : Int) from Int.zero_add _]
  exact .int _
omit [B : Bs] in
def iEnumF2 (b : Av) : Av := fun ρ S => (b ρ S).bind fun xs S1 => match xs with
  | [.lst ds] => .ok (enums 0 ds) S1
  | [.tup ds] => .ok (enums 0 ds) S1
  | _ => .no
section
variable {g : G} {og sc : Scope}
theorem si_enum2 {e : Expr} {b : Av} {p pos tpos : Pos} {elts : List Expr} {kk : Nat} (hs : isStar e = false) (hm : NmN g sc "enumerate") (hb : SA g og sc [e] b) : SI g og sc (.Tuple elts kk tpos) (.Call (.Name "enumerate" p) [e] [] pos) (iEnumF2 b) := by
  obtain ⟨tb, pb, sb⟩ := hb
  refine ⟨iEnumB g.K tb, fun X c => by rw [← c.K]; exact pi_enumB (gl_of c hm.2) (by rw [c.mg]; exact hm.1) (pb X c).1 (starEach_one hs), fun as H0 H ρ S σ Rq r e h => ?_⟩
  refine sb as H0 H ρ S σ _ r e (R.sat_mono (R.sat_bind h) (fun xs S1 h1 => ?_) fun _ _ _ _ z => z)
  intro vs as1 H01 H1 n1 r1 p1
  split at h1
  · cases p1 with
    | cons q1 p2 =>
      cases p2
      cases q1 with
      | lst hh pp => exact ⟨true, _, _, rfl, SqL.of (r1.ex _ _ hh), h1 _ as1 H01 H1 n1 r1 (dlv_enumB (k := true) (fun H' x => SqL.of (x _ _ hh)) pp)⟩
  · cases p1 with
    | cons q1 p2 =>
      cases p2
      cases q1 with
      | tup hh pp => exact ⟨false, _, _, rfl, SqT.of (r1.ex _ _ hh), h1 _ as1 H01 H1 n1 r1 (dlv_enumB (k := false) (fun H' x => SqT.of (x _ _ hh)) pp)⟩
  · exact h1.elim
end
end PL

set_option Elab.async false
set_option linter.all false
set_option maxRecDepth 100000
set_option maxHeartbeats 4000000
/-! the operations by values, and their soundness -/
namespace PL
open PySem PySem.Spec PyProof.Rows L2
variable [B : Bs]

/-! ### lists behind a value -/
omit [B : Bs] in
def lstOf (S : Store) : D → Option (List D)
  | .lst xs => some xs
  | .ref n => (match S[n]? with
    | some (some (.lst xs)) => some xs
    | _ => none)
  | _ => none
omit [B : Bs] in
def tupOf : D → Option (List D)
  | .tup xs => some xs
  | _ => none
section
variable {K : PySem.W.Frag} {as : List Addr} {H0 H : Hp} {S : Store}
theorem lst_at {v : V} {d : D} {xs : List D} (r : Sr K as H0 H S) (p : Rp K as H0 v d) (h : lstOf S d = some xs) : ∃ a vs, v = .ref a ∧ H a = some (.lst vs) ∧ RpA K as H0 vs xs := by
  cases p with
  | lst h1 h2 =>
    have e := Option.some.inj (show some _ = some xs from h)
    subst e
    exact ⟨_, _, rfl, r.ex _ _ h1, h2⟩
  | ref ha =>
    rename_i a n
    unfold lstOf at h
    dsimp only at h
    split at h
    · rename_i ys q
      have e := Option.some.inj h
      subst e
      obtain ⟨_, vs, h1, h2⟩ := r.cell n _ a q ha
      exact ⟨a, vs, rfl, h1, h2⟩
    · cases h
  | _ => cases h
theorem tup_at {v : V} {d : D} {xs : List D} (r : Sr K as H0 H S) (p : Rp K as H0 v d) (h : tupOf d = some xs) : ∃ a vs, v = .ref a ∧ H a = some (.tup vs) ∧ RpA K as H0 vs xs := by
  cases p with
  | tup h1 h2 =>
    have e := Option.some.inj (show some _ = some xs from h)
    subst e
    exact ⟨_, _, rfl, r.ex _ _ h1, h2⟩
  | _ => cases h
/-- a new list, a new tuple that never changes -/
theorem qe_lst {Q : VK} {vs : List V} {xs : List D} (r : Sr K as H0 H S) (rp : RpA K as H0 vs xs) (q : QE K as H0 H Q (.lst xs) S) : ∀ p, H p = none → Q (.ref p) (upd H p (.lst vs)) := fun p hp => by
  obtain ⟨r2, n2⟩ := r.imm (o := .lst vs) hp
  exact q _ as _ _ n2 r2 (.lst upd_same (rp.mono n2.h0 n2.pre))
theorem qe_tup {Q : VK} {vs : List V} {xs : List D} (r : Sr K as H0 H S) (rp : RpA K as H0 vs xs) (q : QE K as H0 H Q (.tup xs) S) : ∀ p, H p = none → Q (.ref p) (upd H p (.tup vs)) := fun p hp => by
  obtain ⟨r2, n2⟩ := r.imm (o := .tup vs) hp
  exact q _ as _ _ n2 r2 (.tup upd_same (rp.mono n2.h0 n2.pre))
theorem qe_at {Q : VK} {v : V} {d : D} (r : Sr K as H0 H S) (p : Rp K as H0 v d) (q : QE K as H0 H Q d S) : Q v H := q v as H0 H Nx.refl r p
end

/-! ### + - * // % ** -/
omit [B : Bs] in
def line : Nat := 16777216
omit [B : Bs] in
theorem le_sizeLine {n : Nat} (h : n ≤ line) : n ≤ sizeLine := by rw [sizeLine_eq]; exact h
omit [B : Bs] in
def oAdd : Op2 := fun S x y => match x, y with
  | .int i, .int j => some (.int (i + j))
  | .str a, .str b => if a.length + b.length ≤ line then some (.str (a ++ b)) else none
  | .tup xs, .tup ys => if xs.length + ys.length ≤ line then some (.tup (xs ++ ys)) else none
  | x, y => (match lstOf S x, lstOf S y with
    | some xs, some ys => if xs.length + ys.length ≤ line then some (.lst (xs ++ ys)) else none
    | _, _ => none)
omit [B : Bs] in
def rAddA (K : PySem.W.Frag) : R2 := fun x y H Q => rI0 (fun i j => .int (i + j)) x y H Q ∨ (fun x y H Q => ∃ i j, x = .str i ∧ y = .str j ∧ i.length + j.length ≤ sizeLine ∧ Q (.str (i ++ j)) H : R2) x y H Q ∨ rCatA K x y H Q ∨ rCat x y H Q
omit [B : Bs] in
theorem op_addA {X : Cx} : OpR X (binaryOp .Add) (rAddA X.K) := OpR.or op_add (OpR.or op_add_str (OpR.or op_catA op_cat))
theorem ops_add (K : PySem.W.Frag) : OpS K (rAddA K) oAdd := by
  intro as H0 H S v u d e z Q r p1 p2 h q
  unfold oAdd at h
  split at h
  · rename_i i j
    cases p1; cases p2
    cases h
    exact .inl ⟨i, j, rfl, rfl, qe_at r (.int _) q⟩
  · rename_i a b
    cases p1; cases p2
    split at h
    · rename_i hl
      cases h
      exact .inr (.inl ⟨a, b, rfl, rfl, le_sizeLine hl, qe_at r (.str _) q⟩)
    · cases h
  · rename_i xs ys
    split at h
    · rename_i hl
      cases h
      obtain ⟨a, vs, rfl, ha, ra⟩ := tup_at r p1 rfl
      obtain ⟨b, ws, rfl, hb, rb⟩ := tup_at r p2 rfl
      refine .inr (.inr (.inl ⟨a, b, vs, ws, rfl, rfl, SqT.of ha, SqT.of hb, by rw [ra.length, rb.length]; exact le_sizeLine hl, fun h0 => ?_, fun h0 h1 => ?_, fun h0 h1 => qe_tup r (ra.append rb) q⟩))
      · have e := ra.nil_iff.mp h0
        rw [e] at q
        exact qe_at r p2 q
      · have e := rb.nil_iff.mp h1
        rw [e, List.append_nil] at q
        exact qe_at r p1 q
    · cases h
  · split at h
    · rename_i xs ys h1 h2
      split at h
      · rename_i hl
        cases h
        obtain ⟨a, vs, rfl, ha, ra⟩ := lst_at r p1 h1
        obtain ⟨b, ws, rfl, hb, rb⟩ := lst_at r p2 h2
        exact .inr (.inr (.inr ⟨a, b, vs, ws, rfl, rfl, ha, hb, by rw [ra.length, rb.length]; exact le_sizeLine hl, qe_lst r (ra.append rb) q⟩))
      · cases h
    · cases h
omit [B : Bs] in
def oSub : Op2 := fun _ x y => match x, y with
  | .int i, .int j => some (.int (i - j))
  | _, _ => none
theorem ops_sub (K : PySem.W.Frag) : OpS K (rI0 fun i j => .int (i - j)) oSub := by
  intro as H0 H S v u d e z Q r p1 p2 h q
  unfold oSub at h
  split at h
  · rename_i i j
    cases p1; cases p2; cases h
    exact ⟨i, j, rfl, rfl, qe_at r (.int _) q⟩
  · cases h
omit [B : Bs] in
/-- a list so many times -/
def oMul : Op2 := fun S x y => match x, y with
  | .int i, .int j => if i.natAbs.log2 + j.natAbs.log2 < 1000000 then some (.int (i * j)) else none
  | .tup xs, .int k => if xs ≠ [] ∧ 2 ≤ k ∧ k ≤ 1000 ∧ xs.length ≤ 1000 then some (.tup (List.replicate k.toNat xs).flatten) else none
  | x, .int k => (match lstOf S x with
    | some xs => if -(2 ^ 63) ≤ k ∧ k < 2 ^ 63 ∧ xs.length * k.toNat ≤ line then some (.lst (List.replicate k.toNat xs).flatten) else none
    | none => none)
  | _, _ => none
omit [B : Bs] in
def rMulA (K : PySem.W.Frag) : R2 := fun x y H Q => rI CMulW (fun i j => .int (i * j)) x y H Q ∨ rRepT K x y H Q ∨ rRep x y H Q
omit [B : Bs] in
theorem op_mulA {X : Cx} : OpR X (binaryOp .Mult) (rMulA X.K) := OpR.or op_mulW (OpR.or op_repT op_rep)
theorem ops_mul (K : PySem.W.Frag) : OpS K (rMulA K) oMul := by
  intro as H0 H S v u d e z Q r p1 p2 h q
  unfold oMul at h
  split at h
  · rename_i i j
    cases p1; cases p2
    split at h
    · rename_i hl
      cases h
      exact .inl ⟨i, j, rfl, rfl, hl, qe_at r (.int _) q⟩
    · cases h
  · rename_i xs k
    cases p2
    split at h
    · rename_i hl
      cases h
      obtain ⟨a, vs, rfl, ha, ra⟩ := tup_at r p1 rfl
      exact .inr (.inl ⟨a, k, vs, rfl, rfl, SqT.of ha, fun z => hl.1 (ra.nil_iff.mp z), hl.2.1, hl.2.2.1, by rw [ra.length]; exact hl.2.2.2, qe_tup r (ra.rep _) q⟩)
    · cases h
  · rename_i k _ _
    cases p2
    split at h
    · rename_i xs h1
      split at h
      · rename_i hl
        cases h
        obtain ⟨a, vs, rfl, ha, ra⟩ := lst_at r p1 h1
        exact .inr (.inr ⟨a, k, vs, rfl, rfl, ha, hl.1, hl.2.1, by rw [ra.length]; exact le_sizeLine hl.2.2, qe_lst r (ra.rep _) q⟩)
      · cases h
    · cases h
  · cases h
omit [B : Bs] in
def CDv (_ j : Int) : Prop := j ≠ 0 ∧ j.natAbs.log2 < 9000
omit [B : Bs] in
instance (i j : Int) : Decidable (CDv i j) := inferInstanceAs (Decidable (_ ∧ _))
omit [B : Bs] in
theorem op_fdv {X : Cx} : OpR X (binaryOp .FloorDiv) (rI CDv fun i j => .int (i.fdiv j)) := opI fun _ _ _ _ _ _ _ hc q => floordiv_int hc.1 q (.inl (PyProof.noPylong_of_log2 hc.2))
omit [B : Bs] in
def oDiv : Op2 := fun _ x y => match x, y with
  | .int i, .int j => if CDv i j then some (.int (i.fdiv j)) else none
  | _, _ => none
theorem ops_div (K : PySem.W.Frag) : OpS K (rI CDv fun i j => .int (i.fdiv j)) oDiv := by
  intro as H0 H S v u d e z Q r p1 p2 h q
  unfold oDiv at h
  split at h
  · rename_i i j
    cases p1; cases p2
    split at h
    · rename_i hl
      cases h
      exact ⟨i, j, rfl, rfl, hl, qe_at r (.int _) q⟩
    · cases h
  · cases h
omit [B : Bs] in
def oMod : Op2 := fun _ x y => match x, y with
  | .int i, .int j => if j ≠ 0 then some (.int (i.fmod j)) else none
  | _, _ => none
theorem ops_mod (K : PySem.W.Frag) : OpS K (rI (fun _ j => j ≠ 0) fun i j => .int (i.fmod j)) oMod := by
  intro as H0 H S v u d e z Q r p1 p2 h q
  unfold oMod at h
  split at h
  · rename_i i j
    cases p1; cases p2
    split at h
    · rename_i hl
      cases h
      exact ⟨i, j, rfl, rfl, hl, qe_at r (.int _) q⟩
    · cases h
  · cases h
omit [B : Bs] in
def oPow : Op2 := fun _ x y => match x, y with
  | .int i, .int j => if 0 ≤ j ∧ j ≤ 1000 ∧ i.natAbs < 2 ^ 64 then some (.int (i ^ j.toNat)) else none
  | _, _ => none
theorem ops_pow (K : PySem.W.Frag) : OpS K (rI CPow fun i j => .int (i ^ j.toNat)) oPow := by
  intro as H0 H S v u d e z Q r p1 p2 h q
  unfold oPow at h
  split at h
  · rename_i i j
    cases p1; cases p2
    split at h
    · rename_i hl
      cases h
      exact ⟨i, j, rfl, rfl, ⟨hl.1, by omega, hl.2.2⟩, qe_at r (.int _) q⟩
    · cases h
  · cases h
omit [B : Bs] in
def oNeg : Op1 := fun _ x => match x with
  | .int i => some (.int (-i))
  | _ => none
theorem uns_neg (K : PySem.W.Frag) : UnS K (rU fun i => .int (-i)) oNeg := by
  intro as H0 H S v d z Q r p1 h q
  unfold oNeg at h
  split at h
  · rename_i i
    cases p1; cases h
    exact ⟨i, rfl, qe_at r (.int _) q⟩
  · cases h

/-! ### comparisons -/
omit [B : Bs] in
mutual
def toPy : D → Option PyData
  | .non => some .none
  | .bl b => some (.bool b)
  | .int i => some (.int i)
  | .str x => some (.str x)
  | .lst xs => (match toPys xs with
    | some ps => some (.list ps)
    | none => none)
  | .tup xs => (match toPys xs with
    | some ps => some (.tuple ps)
    | none => none)
  | .ref _ => none
  | .frz _ => none
  | .dct _ _ => none
  | .ty _ => none
  | .cls _ => none
def toPys : List D → Option (List PyData)
  | [] => some []
  | x :: xs => (match toPy x, toPys xs with
    | some p, some ps => some (p :: ps)
    | _, _ => none)
end
section
variable {K : PySem.W.Frag} {as : List Addr} {H : Hp}
omit [B : Bs] in
mutual
theorem dp_of : ∀ {d : D} {v : V} {p : PyData}, Rp K as H v d → toPy d = some p → Dp K H v p
  | .non, _, _, r, h => by cases r; cases (Option.some.inj h); exact .non
  | .bl b, _, _, r, h => by cases r; cases (Option.some.inj h); exact .bl b
  | .int i, _, _, r, h => by cases r; cases (Option.some.inj h); exact .int i
  | .str x, _, _, r, h => by cases r; cases (Option.some.inj h); exact .str x
  | .lst xs, _, _, r, h => by
    unfold toPy at h
    split at h
    · rename_i ps q
      cases (Option.some.inj h)
      cases r with
      | lst h1 h2 => exact .lst (SqL.of h1) (dps_of h2 q)
    · cases h
  | .tup xs, _, _, r, h => by
    unfold toPy at h
    split at h
    · rename_i ps q
      cases (Option.some.inj h)
      cases r with
      | tup h1 h2 => exact .tup (SqT.of h1) (dps_of h2 q)
    · cases h
  | .ref _, _, _, _, h => by cases h
  | .frz _, _, _, _, h => by cases h
  | .dct _ _, _, _, _, h => by cases h
  | .ty _, _, _, _, h => by cases h
  | .cls _, _, _, _, h => by cases h
theorem dps_of : ∀ {ds : List D} {vs : List V} {ps : List PyData}, RpA K as H vs ds → toPys ds = some ps → DpAll K H vs ps
  | [], _, _, r, h => by cases r; cases (Option.some.inj h); exact .nil
  | x :: xs, _, _, r, h => by
    unfold toPys at h
    split at h
    · rename_i p ps q1 q2
      cases (Option.some.inj h)
      cases r with
      | cons r1 r2 => exact .cons (dp_of r1 q1) (dps_of r2 q2)
    · cases h
end
end
omit [B : Bs] in
/-- a changing list as it stands -/
def toPyS (S : Store) (d : D) : Option PyData := match d with
  | .ref n => (match S[n]? with
    | some (some (.lst xs)) => toPy (.lst xs)
    | _ => none)
  | d => toPy d
theorem dp_ofS {K : PySem.W.Frag} {as : List Addr} {H0 H : Hp} {S : Store} {v : V} {d : D} {p : PyData} (r : Sr K as H0 H S) (rp : Rp K as H0 v d) (h : toPyS S d = some p) : Dp K H v p := by
  unfold toPyS at h
  split at h
  · rename_i n
    split at h
    · rename_i xs q
      obtain ⟨a, vs, rfl, h1, h2⟩ := lst_at r rp (show lstOf S (.ref n) = some xs by unfold lstOf; dsimp only; rw [q])
      unfold toPy at h
      split at h
      · rename_i ps q2
        cases (Option.some.inj h)
        exact .lst (SqL.of h1) (dps_of (h2.mono r.ex (Pre.refl _)) q2)
      · cases h
    · cases h
  · exact dp_of (rp.mono r.ex (Pre.refl _)) h
omit [B : Bs] in
def eqD (S : Store) (x y : D) : Option Bool := match toPyS S x, toPyS S y with
  | some p, some q => if SeqAt.shaped p = true ∧ SeqAt.shaped q = true then some (PyData.eqv p q) else none
  | _, _ => none
omit [B : Bs] in
def oEq : Op2 := fun S x y => match eqD S x y with
  | some b => some (.bl b)
  | none => none
omit [B : Bs] in
def oNe : Op2 := fun S x y => match eqD S x y with
  | some b => some (.bl (!b))
  | none => none
theorem ops_eq (K : PySem.W.Frag) : OpS K (rEqD K) oEq := by
  intro as H0 H S v u d e z Q r p1 p2 h q
  unfold oEq eqD at h
  cases h1 : toPyS S d with
  | none => rw [h1] at h; cases h
  | some a =>
    cases h2 : toPyS S e with
    | none => rw [h1, h2] at h; cases h
    | some b =>
      rw [h1, h2] at h
      dsimp only at h
      by_cases hs : SeqAt.shaped a = true ∧ SeqAt.shaped b = true
      · rw [if_pos hs] at h
        cases h
        exact ⟨a, b, dp_ofS r p1 h1, dp_ofS r p2 h2, hs.1, hs.2, qe_at r (.bl _) q⟩
      · rw [if_neg hs] at h; cases h
theorem ops_ne (K : PySem.W.Frag) : OpS K (rNeD K) oNe := by
  intro as H0 H S v u d e z Q r p1 p2 h q
  unfold oNe eqD at h
  cases h1 : toPyS S d with
  | none => rw [h1] at h; cases h
  | some a =>
    cases h2 : toPyS S e with
    | none => rw [h1, h2] at h; cases h
    | some b =>
      rw [h1, h2] at h
      dsimp only at h
      by_cases hs : SeqAt.shaped a = true ∧ SeqAt.shaped b = true
      · rw [if_pos hs] at h
        cases h
        exact ⟨a, b, dp_ofS r p1 h1, dp_ofS r p2 h2, hs.1, hs.2, qe_at r (.bl _) q⟩
      · rw [if_neg hs] at h; cases h
omit [B : Bs] in
/-- whole numbers out of data -/
def intsOf : List D → Option (List Int)
  | [] => some []
  | .int i :: r => (match intsOf r with
    | some ns => some (i :: ns)
    | none => none)
  | _ :: _ => none
omit [B : Bs] in
theorem ints_at {K : PySem.W.Frag} {as : List Addr} {H : Hp} : ∀ {ds : List D} {vs : List V} {ns : List Int}, RpA K as H vs ds → intsOf ds = some ns → vs = ns.map V.int
  | [], _, _, r, h => by cases r; cases (Option.some.inj h); rfl
  | d :: ds, _, _, r, h => by
    cases r with
    | cons r1 r2 =>
      cases d with
      | int i =>
        unfold intsOf at h
        split at h
        · rename_i ns q
          cases (Option.some.inj h)
          cases r1
          rw [ints_at r2 q] <;> rfl
        · cases h
      | _ => cases h
omit [B : Bs] in
theorem rpa_ints {K : PySem.W.Frag} {as : List Addr} {H : Hp} : ∀ (ns : List Int), RpA K as H (ns.map V.int) (ns.map D.int)
  | [] => .nil
  | n :: ns => .cons (.int n) (rpa_ints ns)
omit [B : Bs] in
def oLt : Op2 := fun _ x y => match x, y with
  | .int i, .int j => some (.bl (decide (i < j)))
  | .tup xs, .tup ys => (match intsOf xs, intsOf ys with
    | some ns, some ms => some (.bl (HT.lexLt ns ms))
    | _, _ => none)
  | _, _ => none
omit [B : Bs] in
def rLtA (K : PySem.W.Frag) : R2 := fun x y H Q => rI0 (fun i j => .bl (decide (i < j))) x y H Q ∨ rLtT K x y H Q
theorem ops_lt (K : PySem.W.Frag) : OpS K (rLtA K) oLt := by
  intro as H0 H S v u d e z Q r p1 p2 h q
  unfold oLt at h
  split at h
  · rename_i i j
    cases p1; cases p2; cases h
    exact .inl ⟨i, j, rfl, rfl, qe_at r (.bl _) q⟩
  · split at h
    · rename_i ns ms h1 h2
      cases h
      obtain ⟨a, vs, rfl, ha, ra⟩ := tup_at r p1 rfl
      obtain ⟨b, ws, rfl, hb, rb⟩ := tup_at r p2 rfl
      rw [ints_at ra h1] at ha
      rw [ints_at rb h2] at hb
      exact .inr ⟨a, b, ns, ms, rfl, rfl, SqT.of ha, SqT.of hb, qe_at r (.bl _) q⟩
    · cases h
  · cases h
omit [B : Bs] in
def oIntB (f : Int → Int → Bool) : Op2 := fun _ x y => match x, y with
  | .int i, .int j => some (.bl (f i j))
  | _, _ => none
theorem ops_intB (K : PySem.W.Frag) (f : Int → Int → Bool) : OpS K (rI0 fun i j => .bl (f i j)) (oIntB f) := by
  intro as H0 H S v u d e z Q r p1 p2 h q
  unfold oIntB at h
  split at h
  · rename_i i j
    cases p1; cases p2; cases h
    exact ⟨i, j, rfl, rfl, qe_at r (.bl _) q⟩
  · cases h
omit [B : Bs] in
def oLe : Op2 := oIntB fun i j => decide (i ≤ j)
omit [B : Bs] in
def oGt : Op2 := oIntB fun i j => decide (j < i)
omit [B : Bs] in
def oGe : Op2 := oIntB fun i j => decide (j ≤ i)
omit [B : Bs] in
/-- is None, is True -/
def isNonD : D → Bool
  | .non => true
  | _ => false
omit [B : Bs] in
def oIs : Op2 := fun _ x y => match y with
  | .non => some (.bl (isNonD x))
  | .bl b => (match x with
    | .bl a => some (.bl (decide (a = b)))
    | _ => none)
  | _ => none
omit [B : Bs] in
def oIsNot : Op2 := fun _ x y => match y with
  | .non => some (.bl (!isNonD x))
  | .bl b => (match x with
    | .bl a => some (.bl (!decide (a = b)))
    | _ => none)
  | _ => none
omit [B : Bs] in
def rIsA : R2 := fun x y H Q => (fun x y H Q => y = .non ∧ Q (.bl (decide (x = .non))) H : R2) x y H Q ∨ rIsB x y H Q
omit [B : Bs] in
def rIsNotA : R2 := fun x y H Q => (fun x y H Q => y = .non ∧ Q (.bl (!decide (x = .non))) H : R2) x y H Q ∨ rNotB x y H Q
omit [B : Bs] in
theorem non_dec {K : PySem.W.Frag} {as : List Addr} {H : Hp} {v : V} {d : D} (p : Rp K as H v d) : decide (v = .non) = isNonD d := by
  cases p <;> first | rfl | exact decide_eq_false (fun z => nomatch z)
theorem ops_is (K : PySem.W.Frag) : OpS K rIsA oIs := by
  intro as H0 H S v u d e z Q r p1 p2 h q
  unfold oIs at h
  split at h
  · cases p2; cases h
    refine .inl ⟨rfl, ?_⟩
    rw [non_dec p1]
    exact qe_at r (.bl _) q
  · rename_i b
    split at h
    · rename_i a
      cases p1; cases p2; cases h
      exact .inr ⟨a, b, rfl, rfl, qe_at r (.bl _) q⟩
    · cases h
  · cases h
theorem ops_isNot (K : PySem.W.Frag) : OpS K rIsNotA oIsNot := by
  intro as H0 H S v u d e z Q r p1 p2 h q
  unfold oIsNot at h
  split at h
  · cases p2; cases h
    refine .inl ⟨rfl, ?_⟩
    rw [non_dec p1]
    exact qe_at r (.bl _) q
  · rename_i b
    split at h
    · rename_i a
      cases p1; cases p2; cases h
      exact .inr ⟨a, b, rfl, rfl, qe_at r (.bl _) q⟩
    · cases h
  · cases h
omit [B : Bs] in
/-- in, not in: a list or tuple of data; a sign in a text -/
def inB (S : Store) (x y : D) : Option Bool := match y with
  | .str z => (match x with
    | .str w => (match w.cps.toList with
      | [c] => some (decide (c ∈ z.cps.toList))
      | _ => none)
    | _ => none)
  | y => (match toPyS S x with
    | some p => (match toPyS S y with
      | some (.list ps) => if SeqAt.shaped p = true ∧ SeqAt.shaped (.list ps) = true then some (ps.any fun z => PyData.eqv z p) else none
      | some (.tuple ps) => if SeqAt.shaped p = true ∧ SeqAt.shaped (.tuple ps) = true then some (ps.any fun z => PyData.eqv z p) else none
      | _ => none)
    | none => none)
omit [B : Bs] in
def oIn : Op2 := fun S x y => match inB S x y with
  | some b => some (.bl b)
  | none => none
omit [B : Bs] in
def oNotIn : Op2 := fun S x y => match inB S x y with
  | some b => some (.bl (!b))
  | none => none
omit [B : Bs] in
def rInT (K : PySem.W.Frag) (f : Bool → Bool) : R2 := fun x y H Q => ∃ d ds, Dp K H x d ∧ Dp K H y (.tuple ds) ∧ SeqAt.shaped d = true ∧ SeqAt.shaped (.tuple ds) = true ∧ Q (.bl (f (ds.any fun z => PyData.eqv z d))) H
omit [B : Bs] in
theorem op_inT {X : Cx} (hu : X.A.units + 65 < cLine) : OpR X (compareOp .In) (rInT X.K fun b => b) := by
  rintro pins s σ H x y v u Q I rx ry ⟨d, ds, hd, he, sd, se, q⟩
  obtain ⟨_, r1⟩ := Dp.reads I d x v hd rx
  obtain ⟨_, r2⟩ := Dp.reads I (.tuple ds) y u he ry
  have hc : PyData.canLayAll0 ds = true := by
    have := SeqAt.canLay_of_shaped se
    simpa [PyData.canLay0] using this
  exact SeqAt.in_tuple_reads r2 r1 hc (SeqAt.canLay_of_shaped sd) (room_in_shaped sd hu) ⟨.bl _, H, I, rfl, q⟩
omit [B : Bs] in
theorem op_notInT {X : Cx} (hu : X.A.units + 65 < cLine) : OpR X (compareOp .NotIn) (rInT X.K fun b => !b) := by
  rintro pins s σ H x y v u Q I rx ry ⟨d, ds, hd, he, sd, se, q⟩
  obtain ⟨_, r1⟩ := Dp.reads I d x v hd rx
  obtain ⟨_, r2⟩ := Dp.reads I (.tuple ds) y u he ry
  have hc : PyData.canLayAll0 ds = true := by
    have := SeqAt.canLay_of_shaped se
    simpa [PyData.canLay0] using this
  exact SeqAt.notIn_tuple_reads r2 r1 hc (SeqAt.canLay_of_shaped sd) (room_in_shaped sd hu) ⟨.bl _, H, I, rfl, q⟩
omit [B : Bs] in
def rSign (f : Bool → Bool) : R2 := fun x y H Q => ∃ (c : Nat) (z : Str), x = .str ⟨#[c]⟩ ∧ y = .str z ∧ Q (.bl (f (decide (c ∈ z.cps.toList)))) H
omit [B : Bs] in
def rInA (K : PySem.W.Frag) : R2 := fun x y H Q => rSign (fun b => b) x y H Q ∨ rInD K x y H Q ∨ rInT K (fun b => b) x y H Q
omit [B : Bs] in
def rNotInA (K : PySem.W.Frag) : R2 := fun x y H Q => rSign (fun b => !b) x y H Q ∨ rNotInD K x y H Q ∨ rInT K (fun b => !b) x y H Q
omit [B : Bs] in
theorem op_inA {X : Cx} (hu : X.A.units + 65 < cLine) : OpR X (compareOp .In) (rInA X.K) := OpR.or op_in_sign (OpR.or (op_inD hu) (op_inT hu))
omit [B : Bs] in
theorem op_notInA {X : Cx} (hu : X.A.units + 65 < cLine) : OpR X (compareOp .NotIn) (rNotInA X.K) := OpR.or op_notIn_sign (OpR.or (op_notInD hu) (op_notInT hu))
theorem in_cases {K : PySem.W.Frag} {as : List Addr} {H0 H : Hp} {S : Store} {v u : V} {x y : D} {b : Bool} (r : Sr K as H0 H S) (p1 : Rp K as H0 v x) (p2 : Rp K as H0 u y) (h : inB S x y = some b) :
    (∃ (c : Nat) (z : Str), v = .str ⟨#[c]⟩ ∧ u = .str z ∧ b = decide (c ∈ z.cps.toList)) ∨
    (∃ d ds, Dp K H v d ∧ Dp K H u (.list ds) ∧ SeqAt.shaped d = true ∧ SeqAt.shaped (.list ds) = true ∧ b = ds.any fun z => PyData.eqv z d) ∨
    (∃ d ds, Dp K H v d ∧ Dp K H u (.tuple ds) ∧ SeqAt.shaped d = true ∧ SeqAt.shaped (.tuple ds) = true ∧ b = ds.any fun z => PyData.eqv z d) := by
  unfold inB at h
  split at h
  · rename_i z
    split at h
    · rename_i w
      split at h
      · rename_i c hc
        cases p1; cases p2
        refine .inl ⟨c, z, ?_, rfl, (Option.some.inj h).symm⟩
        congr 1
        cases w with
        | mk a =>
          congr 1
          exact Array.toList_inj.mp hc
      · cases h
    · cases h
  · split at h
    · rename_i p hp
      split at h
      · rename_i ps hps
        split at h
        · rename_i hs
          exact .inr (.inl ⟨p, ps, dp_ofS r p1 hp, dp_ofS r p2 hps, hs.1, hs.2, (Option.some.inj h).symm⟩)
        · cases h
      · rename_i ps hps
        split at h
        · rename_i hs
          exact .inr (.inr ⟨p, ps, dp_ofS r p1 hp, dp_ofS r p2 hps, hs.1, hs.2, (Option.some.inj h).symm⟩)
        · cases h
      · cases h
    · cases h
theorem ops_in (K : PySem.W.Frag) : OpS K (rInA K) oIn := by
  intro as H0 H S v u d e z Q r p1 p2 h q
  unfold oIn at h
  cases hb : inB S d e with
  | none => rw [hb] at h; cases h
  | some b =>
    rw [hb] at h
    cases (Option.some.inj h)
    have q' := qe_at r (.bl b) q
    rcases in_cases r p1 p2 hb with ⟨c, z, e1, e2, e3⟩ | ⟨d, ds, e1, e2, e3, e4, e5⟩ | ⟨d, ds, e1, e2, e3, e4, e5⟩
    · exact .inl ⟨c, z, e1, e2, by rw [← e3]; exact q'⟩
    · exact .inr (.inl ⟨d, ds, e1, e2, e3, e4, by rw [← e5]; exact q'⟩)
    · exact .inr (.inr ⟨d, ds, e1, e2, e3, e4, by rw [← e5]; exact q'⟩)
theorem ops_notIn (K : PySem.W.Frag) : OpS K (rNotInA K) oNotIn := by
  intro as H0 H S v u d e z Q r p1 p2 h q
  unfold oNotIn at h
  cases hb : inB S d e with
  | none => rw [hb] at h; cases h
  | some b =>
    rw [hb] at h
    cases (Option.some.inj h)
    have q' := qe_at r (.bl (!b)) q
    rcases in_cases r p1 p2 hb with ⟨c, z, e1, e2, e3⟩ | ⟨d, ds, e1, e2, e3, e4, e5⟩ | ⟨d, ds, e1, e2, e3, e4, e5⟩
    · exact .inl ⟨c, z, e1, e2, by rw [← e3]; exact q'⟩
    · exact .inr (.inl ⟨d, ds, e1, e2, e3, e4, by rw [← e5]; exact q'⟩)
    · exact .inr (.inr ⟨d, ds, e1, e2, e3, e4, by rw [← e5]; exact q'⟩)

/-! ### subscripts, slices -/
omit [B : Bs] in
def oIx : Op2 := fun S x y => match y with
  | .int i => (match x with
    | .tup xs => atI xs i
    | .str z => if z.length ≤ line then (match atI z.cps.toList i with
      | some c => some (.str ⟨#[c]⟩)
      | none => none) else none
    | .frz ns => (match atI ns i with
      | some n => some (.int n)
      | none => none)
    | x => (match lstOf S x with
      | some xs => atI xs i
      | none => none))
  | _ => none
omit [B : Bs] in
theorem atI_get {α β : Type} {xs : List α} {ys : List β} {P : α → β → Prop} (hl : ys.length = xs.length) (hg : ∀ (j : Nat) (x : α), xs[j]? = some x → ∃ y, ys[j]? = some y ∧ P x y) {i : Int} {x : α} (h : atI xs i = some x) : ∃ y, atI ys i = some y ∧ P x y := by
  unfold atI at h ⊢
  rw [hl]
  cases q : ixN xs.length i with
  | none => rw [q] at h; cases h
  | some j =>
    rw [q] at h
    exact hg j x h
theorem ops_ix (K : PySem.W.Frag) : OpS K (rIx K) oIx := by
  intro as H0 H S v u d e z Q r p1 p2 h q
  unfold oIx at h
  split at h
  · rename_i i
    cases p2
    split at h
    · rename_i xs
      obtain ⟨a, vs, rfl, ha, ra⟩ := tup_at r p1 rfl
      obtain ⟨w, hw, pw⟩ := atI_get (P := fun d w => Rp K as H0 w d) ra.length (fun j x hx => ra.get hx) h
      exact .inr (.inl ⟨a, vs, i, w, rfl, rfl, SqT.of ha, hw, qe_at r pw q⟩)
    · rename_i z
      cases p1
      split at h
      · rename_i hl
        split at h
        · rename_i c hc
          cases h
          exact .inr (.inr ⟨z, i, c, rfl, rfl, le_sizeLine hl, hc, qe_at r (.str _) q⟩)
        · cases h
      · cases h
    · rename_i ns
      cases p1 with
      | frz hq =>
        split at h
        · rename_i n hn
          cases h
          obtain ⟨w, hw, ew⟩ := atI_get (ys := ns.map V.int) (P := fun n w => w = V.int n) (by rw [List.length_map]) (fun j x hx => ⟨V.int x, by rw [List.getElem?_map, hx]; rfl, rfl⟩) hn
          subst ew
          exact .inl ⟨_, _, i, _, rfl, rfl, ex_l r.ex hq, hw, qe_at r (.int _) q⟩
        · cases h
    · split at h
      · rename_i xs h1
        obtain ⟨a, vs, rfl, ha, ra⟩ := lst_at r p1 h1
        obtain ⟨w, hw, pw⟩ := atI_get (P := fun d w => Rp K as H0 w d) ra.length (fun j x hx => ra.get hx) h
        exact .inl ⟨a, vs, i, w, rfl, rfl, SqL.of ha, hw, qe_at r pw q⟩
      · cases h
  · cases h
omit [B : Bs] in
def cutD (xs : List D) (lo hi : Option Int) : List D := (xs.drop (HT.sIx xs.length 0 lo)).take (HT.sIx xs.length xs.length hi - HT.sIx xs.length 0 lo)
omit [B : Bs] in
theorem rpa_cut {K : PySem.W.Frag} {as : List Addr} {H : Hp} {vs : List V} {xs : List D} (r : RpA K as H vs xs) (lo hi : Option Int) : RpA K as H (cutV vs lo hi) (cutD xs lo hi) := by
  unfold cutV cutD
  rw [r.length]
  exact (r.drop _).take _
omit [B : Bs] in
def oSlice : OpSl := fun S x lo hi => match x with
  | .tup xs => some (.tup (cutD xs lo hi))
  | .str z => if z.length ≤ line then some (.str (cutS z lo hi)) else none
  | x => (match lstOf S x with
    | some xs => some (.lst (cutD xs lo hi))
    | none => none)
omit [B : Bs] in
def rSlAll (K : PySem.W.Frag) : V → Option Int → Option Int → Hp → VK → Prop := fun x lo hi H Q => rSlA K x lo hi H Q ∨ rSlL K x lo hi H Q ∨ rSlS x lo hi H Q
omit [B : Bs] in
theorem sl_all {X : Cx} : SlR X (rSlAll X.K) := SlR.or sl_tupA (SlR.or sl_list sl_str)
theorem sls_all (K : PySem.W.Frag) : SlS K (rSlAll K) oSlice := by
  intro as H0 H S v d lo hi z Q r p1 h q
  unfold oSlice at h
  split at h
  · rename_i xs
    cases h
    obtain ⟨a, vs, rfl, ha, ra⟩ := tup_at r p1 rfl
    refine .inl ⟨a, vs, rfl, SqT.of ha, fun hw => ?_, fun hw => qe_tup r (rpa_cut ra lo hi) q⟩
    have e : cutD xs lo hi = xs := by
      unfold cutD
      rw [ra.length] at hw
      rw [hw.1, hw.2, Nat.sub_zero]
      exact List.take_length
    rw [e] at q
    exact qe_at r p1 q
  · rename_i z
    cases p1
    split at h
    · rename_i hl
      cases h
      exact .inr (.inr ⟨z, rfl, le_sizeLine hl, qe_at r (.str _) q⟩)
    · cases h
  · split at h
    · rename_i xs h1
      cases h
      obtain ⟨a, vs, rfl, ha, ra⟩ := lst_at r p1 h1
      exact .inr (.inl ⟨a, vs, rfl, SqL.of ha, qe_lst r (rpa_cut ra lo hi) q⟩)
    · cases h
end PL

set_option Elab.async false
set_option linter.all false
set_option maxRecDepth 100000
set_option maxHeartbeats 4000000
/-! a tuple times 1 is the tuple itself -/
namespace PL
open PySem PySem.Spec PyProof.Rows L2
variable [B : Bs]
omit [B : Bs] in
theorem tupOnce (l : Addr) (items : Array Value) (n : Nat) (dd : Option Addr) (sl : Array (Option Value)) (u : Tok) :
    Meets (Builtin.«tuple.__mul__» ⟨[.ref l, .int 1 u], []⟩) (fun _ R s => s.heap.get? l = some { cls := .type "tuple", dict := dd, data := .seq items n, slots := sl } ∧ R (.ok (.ret (Value.ref l))) s) :=
  .of_wp fun prog w A R s h => by
    obtain ⟨hp, g, d, tk, os⟩ := s
    obtain ⟨hl, h⟩ := h
    have f1 := AutoSeq1.idx_int
    wp_walk using wpAny_loadPart' hl
    exact ⟨_, rfl, h⟩
omit [B : Bs] in
def rOnce (K : PySem.W.Frag) : R2 := fun x y H Q => ∃ l xs, x = .ref l ∧ y = .int 1 ∧ SqT K H l xs ∧ Q (.ref l) H
omit [B : Bs] in
theorem op_once {X : Cx} : OpR X (binaryOp .Mult) (rOnce X.K) := by
  intro pins s σ H x y v u Q I rx ry h
  obtain ⟨l, xs, rfl, rfl, hT, q⟩ := h
  cases rx
  obtain ⟨t, rfl⟩ := ry
  obtain ⟨its, r, ⟨⟨cls, dd, data, sl⟩, ho, hc, n, hd⟩, hs⟩ := I.tuple hT
  simp only at hc hd
  subst hc hd
  exact wpAny_binaryOp_repeat_ref (T := "tuple") (U := "int") (by decide) ⟨_, ho, rfl⟩ (fun s' => typeIs_int s' 1 t) noFill_tuple_mul F.fills_int_mul F.slot_int_rmul repeat_tuple F.slot_int_index.lookup
    (call_meets F.slot_int_rmul (typeIs_int s 1 t) F.entry_int_rmul (F.args_int_rmul_2 _ _) (int_rmul_tuple 1 t l its.toArray n dd sl)
      ⟨ho, rfl, ⟨_, ho, rfl⟩, call_meets F.slot_tuple_mul ⟨_, ho, rfl⟩ F.entry_tuple_mul (F.args_tuple_mul_2 _ _) (tupOnce l its.toArray n dd sl t) ⟨ho, ⟨.ref l, H, I, rfl, q⟩⟩⟩)
omit [B : Bs] in
def rMulB (K : PySem.W.Frag) : R2 := fun x y H Q => rMulA K x y H Q ∨ rOnce K x y H Q
omit [B : Bs] in
theorem op_mulB {X : Cx} : OpR X (binaryOp .Mult) (rMulB X.K) := OpR.or op_mulA op_once
omit [B : Bs] in
def oMulB : Op2 := fun S x y => match x, y with
  | .tup xs, .int 1 => some (.tup xs)
  | x, y => oMul S x y
theorem ops_mulB (K : PySem.W.Frag) : OpS K (rMulB K) oMulB := by
  intro as H0 H S v u d e z Q r p1 p2 h q
  unfold oMulB at h
  split at h
  · cases p2
    cases h
    have p1' := p1
    obtain ⟨a, vs, rfl, ha, ra⟩ := tup_at r p1 rfl
    exact .inr ⟨a, vs, rfl, rfl, SqT.of ha, qe_at r p1' q⟩
  · exact .inl (ops_mul K as H0 H S v u d e z Q r p1 p2 h q)
end PL

set_option Elab.async false
set_option linter.all false
set_option maxRecDepth 100000
set_option maxHeartbeats 4000000
/-! built-in functions and methods by values -/
namespace PL
open PySem PySem.Spec PyProof.Rows L2
variable [B : Bs]

/-! ### calls of built-ins: the store may grow -/
omit [B : Bs] in
abbrev FnB := List D → Store → R D
def CaM (K : PySem.W.Frag) (r : List V → Hp → VK → Prop) (o : FnB) : Prop := ∀ as H0 H S vs ds Q, Sr K as H0 H S → RpA K as H0 vs ds → (o ds S).sat (QE K as H0 H Q) NoX → r vs H Q
omit [B : Bs] in
def eCaM (o : FnB) (b : Av) : Ev := fun ρ S => (b ρ S).bind o
theorem says_cm {K : PySem.W.Frag} {r : List V → Hp → VK → Prop} {o : FnB} {tb : TA} {b : Av} (ho : CaM K r o) (hb : SaysA K tb b) : SaysE K (tCB r tb) (eCaM o b) := by
  intro as H0 H ρ S σ Q r e h
  refine hb as H0 H ρ S σ _ r e (R.sat_mono (R.sat_bind h) (fun xs S1 h1 => ?_) fun _ _ _ _ z => z)
  intro vs as1 H01 H1 n1 r1 p1
  exact ho as1 H01 H1 S1 vs xs Q r1 p1 (R.sat_mono h1 (fun _ _ q => QE.next n1 q) fun _ _ _ _ z => z)
omit [B : Bs] in
/-- one that only reads -/
def puB (f : Store → List D → Option D) : FnB := fun ds S => ofO (f S ds) S
theorem cam_of {K : PySem.W.Frag} {r : List V → Hp → VK → Prop} {f : Store → List D → Option D} (h : CaS K r f) : CaM K r (puB f) := by
  intro as H0 H S vs ds Q r rp q
  obtain ⟨z, ez, q⟩ := sat_ofO q
  exact h as H0 H S vs ds z Q r rp ez q

omit [B : Bs] in
inductive Bl where
  | len | abs | max | min | sum | all | any | sorted | isinst | int | str | tuple | list | listN | dict | bool
  deriving DecidableEq
omit [B : Bs] in
def Bl.val : Bl → Value
  | .len => .builtin "len"
  | .abs => .builtin "abs"
  | .max => .builtin "max"
  | .min => .builtin "min"
  | .sum => .builtin "sum"
  | .all => .builtin "all"
  | .any => .builtin "any"
  | .sorted => .builtin "sorted"
  | .isinst => .builtin "isinstance"
  | .int => .type "int"
  | .str => .type "str"
  | .tuple => .type "tuple"
  | .list => .type "list"
  | .listN => .type "list"
  | .dict => .type "dict"
  | .bool => .type "bool"

omit [B : Bs] in
def bLen (S : Store) : List D → Option D
  | [.str z] => if z.length ≤ line then some (.int z.length) else none
  | [.tup xs] => some (.int xs.length)
  | [.frz ns] => some (.int ns.length)
  | [d] => (match lstOf S d with
    | some xs => some (.int xs.length)
    | none => none)
  | _ => none
omit [B : Bs] in
def rLenA (K : PySem.W.Frag) : List V → Hp → VK → Prop := fun xs H Q => ∃ x n, xs = [x] ∧ LenV K x H n ∧ Q (.int n) H
omit [B : Bs] in
theorem RpA.one {K : PySem.W.Frag} {as : List Addr} {H : Hp} {vs : List V} {d : D} (r : RpA K as H vs [d]) : ∃ v, vs = [v] ∧ Rp K as H v d := by
  cases r with
  | cons r1 r2 => cases r2; exact ⟨_, rfl, r1⟩
omit [B : Bs] in
theorem RpA.two {K : PySem.W.Frag} {as : List Addr} {H : Hp} {vs : List V} {d e : D} (r : RpA K as H vs [d, e]) : ∃ v w, vs = [v, w] ∧ Rp K as H v d ∧ Rp K as H w e := by
  cases r with
  | cons r1 r2 =>
    obtain ⟨w, rfl, r3⟩ := r2.one
    exact ⟨_, w, rfl, r1, r3⟩
theorem cas_len (K : PySem.W.Frag) : CaS K (rLenA K) bLen := by
  intro as H0 H S vs ds z Q r rp h q
  unfold bLen at h
  split at h
  · obtain ⟨v, rfl, p⟩ := rp.one
    cases p
    split at h
    · rename_i hl
      cases h
      exact ⟨_, _, rfl, ⟨le_sizeLine hl, rfl⟩, qe_at r (.int _) q⟩
    · cases h
  · obtain ⟨v, rfl, p⟩ := rp.one
    cases h
    obtain ⟨a, ws, rfl, h1, h2⟩ := tup_at r p rfl
    exact ⟨_, _, rfl, .inr ⟨ws, SqT.of h1, rfl⟩, by rw [h2.length]; exact qe_at r (.int _) q⟩
  · obtain ⟨v, rfl, p⟩ := rp.one
    cases h
    cases p with
    | frz hq => exact ⟨_, _, rfl, .inl ⟨_, ex_l r.ex hq, rfl⟩, by rw [List.length_map]; exact qe_at r (.int _) q⟩
  · obtain ⟨v, rfl, p⟩ := rp.one
    split at h
    · rename_i xs h1
      cases h
      obtain ⟨a, ws, rfl, h1, h2⟩ := lst_at r p h1
      exact ⟨_, _, rfl, .inl ⟨ws, SqL.of h1, rfl⟩, by rw [h2.length]; exact qe_at r (.int _) q⟩
    · cases h
  · cases h
omit [B : Bs] in
def bAbs (_ : Store) : List D → Option D
  | [.int i] => some (.int (if i < 0 then -i else i))
  | _ => none
theorem cas_abs (K : PySem.W.Frag) : CaS K (fun xs H Q => ∃ i, xs = [.int i] ∧ Q (.int (if i < 0 then -i else i)) H) bAbs := by
  intro as H0 H S vs ds z Q r rp h q
  unfold bAbs at h
  split at h
  · obtain ⟨v, rfl, p⟩ := rp.one
    cases p; cases h
    exact ⟨_, rfl, qe_at r (.int _) q⟩
  · cases h
omit [B : Bs] in
/-- the greatest, the least one of some whole numbers -/
def maxL : Int → List Int → Int
  | m, [] => m
  | m, n :: ns => maxL (if n > m then n else m) ns
omit [B : Bs] in
def minL : Int → List Int → Int
  | m, [] => m
  | m, n :: ns => minL (if n < m then n else m) ns
omit [B : Bs] in
theorem maxL_ge : ∀ (ns : List Int) (m : Int), m ≤ maxL m ns ∧ (∀ y ∈ ns, y ≤ maxL m ns) ∧ (maxL m ns = m ∨ maxL m ns ∈ ns)
  | [], m => ⟨Int.le_refl _, fun y h => absurd h (by simp), .inl rfl⟩
  | n :: ns, m => by
    obtain ⟨h1, h2, h3⟩ := maxL_ge ns (if n > m then n else m)
    show m ≤ maxL (if n > m then n else m) ns ∧ (∀ y ∈ n :: ns, y ≤ maxL (if n > m then n else m) ns) ∧ (maxL (if n > m then n else m) ns = m ∨ maxL (if n > m then n else m) ns ∈ n :: ns)
    by_cases q : n > m
    · rw [if_pos q] at h1 h2 h3 ⊢
      refine ⟨by omega, fun y hy => ?_, ?_⟩
      · rcases List.mem_cons.mp hy with z | z
        · rw [z]; exact h1
        · exact h2 y z
      · rcases h3 with z | z
        · exact .inr (by rw [z]; exact List.mem_cons_self)
        · exact .inr (List.mem_cons_of_mem _ z)
    · rw [if_neg q] at h1 h2 h3 ⊢
      refine ⟨h1, fun y hy => ?_, ?_⟩
      · rcases List.mem_cons.mp hy with z | z
        · rw [z]; omega
        · exact h2 y z
      · rcases h3 with z | z
        · exact .inl z
        · exact .inr (List.mem_cons_of_mem _ z)
omit [B : Bs] in
theorem minL_le : ∀ (ns : List Int) (m : Int), minL m ns ≤ m ∧ (∀ y ∈ ns, minL m ns ≤ y) ∧ (minL m ns = m ∨ minL m ns ∈ ns)
  | [], m => ⟨Int.le_refl _, fun y h => absurd h (by simp), .inl rfl⟩
  | n :: ns, m => by
    obtain ⟨h1, h2, h3⟩ := minL_le ns (if n < m then n else m)
    show minL (if n < m then n else m) ns ≤ m ∧ (∀ y ∈ n :: ns, minL (if n < m then n else m) ns ≤ y) ∧ (minL (if n < m then n else m) ns = m ∨ minL (if n < m then n else m) ns ∈ n :: ns)
    by_cases q : n < m
    · rw [if_pos q] at h1 h2 h3 ⊢
      refine ⟨by omega, fun y hy => ?_, ?_⟩
      · rcases List.mem_cons.mp hy with z | z
        · rw [z]; exact h1
        · exact h2 y z
      · rcases h3 with z | z
        · exact .inr (by rw [z]; exact List.mem_cons_self)
        · exact .inr (List.mem_cons_of_mem _ z)
    · rw [if_neg q] at h1 h2 h3 ⊢
      refine ⟨h1, fun y hy => ?_, ?_⟩
      · rcases List.mem_cons.mp hy with z | z
        · rw [z]; omega
        · exact h2 y z
      · rcases h3 with z | z
        · exact .inl z
        · exact .inr (List.mem_cons_of_mem _ z)
omit [B : Bs] in
def intsIn (S : Store) (d : D) : Option (List Int) := match lstOf S d with
  | some xs => intsOf xs
  | none => none
theorem ints_in {K : PySem.W.Frag} {as : List Addr} {H0 H : Hp} {S : Store} {v : V} {d : D} {ns : List Int} (r : Sr K as H0 H S) (p : Rp K as H0 v d) (h : intsIn S d = some ns) : ∃ a, v = .ref a ∧ SqL K H a (ns.map V.int) := by
  unfold intsIn at h
  split at h
  · rename_i xs h1
    obtain ⟨a, ws, rfl, h2, h3⟩ := lst_at r p h1
    rw [ints_at h3 h] at h2
    exact ⟨a, rfl, SqL.of h2⟩
  · cases h
omit [B : Bs] in
def bMax (S : Store) : List D → Option D
  | [.int i, .int j] => some (.int (if j > i then j else i))
  | [d] => (match intsIn S d with
    | some (n :: ns) => some (.int (maxL n ns))
    | _ => none)
  | _ => none
omit [B : Bs] in
def bMin (S : Store) : List D → Option D
  | [.int i, .int j] => some (.int (if j < i then j else i))
  | [d] => (match intsIn S d with
    | some (n :: ns) => some (.int (minL n ns))
    | _ => none)
  | _ => none
omit [B : Bs] in
def rMaxA (K : PySem.W.Frag) : List V → Hp → VK → Prop := fun xs H Q => (fun xs H Q => ∃ i j, xs = [.int i, .int j] ∧ Q (.int (if j > i then j else i)) H : List V → Hp → VK → Prop) xs H Q ∨ rMax K xs H Q
omit [B : Bs] in
def rMinA (K : PySem.W.Frag) : List V → Hp → VK → Prop := fun xs H Q => (fun xs H Q => ∃ i j, xs = [.int i, .int j] ∧ Q (.int (if j < i then j else i)) H : List V → Hp → VK → Prop) xs H Q ∨ rMin K xs H Q
theorem cas_max (K : PySem.W.Frag) : CaS K (rMaxA K) bMax := by
  intro as H0 H S vs ds z Q r rp h q
  unfold bMax at h
  split at h
  · obtain ⟨v, w, rfl, p1, p2⟩ := rp.two
    cases p1; cases p2; cases h
    exact .inl ⟨_, _, rfl, qe_at r (.int _) q⟩
  · obtain ⟨v, rfl, p⟩ := rp.one
    split at h
    · rename_i n ns h1
      cases h
      obtain ⟨a, rfl, hs⟩ := ints_in r p h1
      refine .inr ⟨a, n :: ns, rfl, hs, by rw [List.length_cons]; omega, fun m hm hle => ?_⟩
      obtain ⟨g1, g2, g3⟩ := maxL_ge ns n
      have e : m = maxL n ns := by
        refine Int.le_antisymm ?_ ?_
        · rcases List.mem_cons.mp hm with z | z
          · rw [z]; exact g1
          · exact g2 m z
        · rcases g3 with z | z
          · rw [z]; exact hle n List.mem_cons_self
          · exact hle _ (List.mem_cons_of_mem _ z)
      rw [e]
      exact qe_at r (.int _) q
    · cases h
  · cases h
theorem cas_min (K : PySem.W.Frag) : CaS K (rMinA K) bMin := by
  intro as H0 H S vs ds z Q r rp h q
  unfold bMin at h
  split at h
  · obtain ⟨v, w, rfl, p1, p2⟩ := rp.two
    cases p1; cases p2; cases h
    exact .inl ⟨_, _, rfl, qe_at r (.int _) q⟩
  · obtain ⟨v, rfl, p⟩ := rp.one
    split at h
    · rename_i n ns h1
      cases h
      obtain ⟨a, rfl, hs⟩ := ints_in r p h1
      refine .inr ⟨a, n :: ns, rfl, hs, by rw [List.length_cons]; omega, fun m hm hle => ?_⟩
      obtain ⟨g1, g2, g3⟩ := minL_le ns n
      have e : m = minL n ns := by
        refine Int.le_antisymm ?_ ?_
        · rcases g3 with z | z
          · rw [z]; exact hle n List.mem_cons_self
          · exact hle _ (List.mem_cons_of_mem _ z)
        · rcases List.mem_cons.mp hm with z | z
          · rw [z]; exact g1
          · exact g2 m z
      rw [e]
      exact qe_at r (.int _) q
    · cases h
  · cases h
omit [B : Bs] in
def bSum (S : Store) : List D → Option D
  | [d] => (match intsIn S d with
    | some ns => some (.int ns.sum)
    | none => none)
  | _ => none
theorem cas_sum (K : PySem.W.Frag) : CaS K (rSum K) bSum := by
  intro as H0 H S vs ds z Q r rp h q
  unfold bSum at h
  split at h
  · obtain ⟨v, rfl, p⟩ := rp.one
    split at h
    · rename_i ns h1
      cases h
      obtain ⟨a, rfl, hs⟩ := ints_in r p h1
      exact ⟨a, ns, rfl, hs, qe_at r (.int _) q⟩
    · cases h
  · cases h
omit [B : Bs] in
def blsOf : List D → Option (List Bool)
  | [] => some []
  | .bl i :: r => (match blsOf r with
    | some ns => some (i :: ns)
    | none => none)
  | _ :: _ => none
omit [B : Bs] in
theorem bls_at {K : PySem.W.Frag} {as : List Addr} {H : Hp} : ∀ {ds : List D} {vs : List V} {ns : List Bool}, RpA K as H vs ds → blsOf ds = some ns → vs = ns.map V.bl
  | [], _, _, r, h => by cases r; cases (Option.some.inj h); rfl
  | d :: ds, _, _, r, h => by
    cases r with
    | cons r1 r2 =>
      cases d with
      | bl i =>
        unfold blsOf at h
        split at h
        · rename_i ns q
          cases (Option.some.inj h)
          cases r1
          rw [bls_at r2 q] <;> rfl
        · cases h
      | _ => cases h
omit [B : Bs] in
def blsIn (S : Store) (d : D) : Option (List Bool) := match lstOf S d with
  | some xs => blsOf xs
  | none => none
theorem bls_in {K : PySem.W.Frag} {as : List Addr} {H0 H : Hp} {S : Store} {v : V} {d : D} {ns : List Bool} (r : Sr K as H0 H S) (p : Rp K as H0 v d) (h : blsIn S d = some ns) : ∃ a, v = .ref a ∧ SqL K H a (ns.map V.bl) := by
  unfold blsIn at h
  split at h
  · rename_i xs h1
    obtain ⟨a, ws, rfl, h2, h3⟩ := lst_at r p h1
    rw [bls_at h3 h] at h2
    exact ⟨a, rfl, SqL.of h2⟩
  · cases h
omit [B : Bs] in
def bAll (S : Store) : List D → Option D
  | [d] => (match blsIn S d with
    | some bs => some (.bl (bs.all id))
    | none => none)
  | _ => none
omit [B : Bs] in
def bAny (S : Store) : List D → Option D
  | [d] => (match blsIn S d with
    | some bs => some (.bl (bs.any id))
    | none => none)
  | _ => none
theorem cas_all (K : PySem.W.Frag) : CaS K (rAll K) bAll := by
  intro as H0 H S vs ds z Q r rp h q
  unfold bAll at h
  split at h
  · obtain ⟨v, rfl, p⟩ := rp.one
    split at h
    · rename_i ns h1
      cases h
      obtain ⟨a, rfl, hs⟩ := bls_in r p h1
      exact ⟨a, ns, rfl, hs, qe_at r (.bl _) q⟩
    · cases h
  · cases h
theorem cas_any (K : PySem.W.Frag) : CaS K (rAny K) bAny := by
  intro as H0 H S vs ds z Q r rp h q
  unfold bAny at h
  split at h
  · obtain ⟨v, rfl, p⟩ := rp.one
    split at h
    · rename_i ns h1
      cases h
      obtain ⟨a, rfl, hs⟩ := bls_in r p h1
      exact ⟨a, ns, rfl, hs, qe_at r (.bl _) q⟩
    · cases h
  · cases h
omit [B : Bs] in
/-- whole numbers in order -/
def insI (x : Int) : List Int → List Int
  | [] => [x]
  | y :: ys => if x ≤ y then x :: y :: ys else y :: insI x ys
omit [B : Bs] in
def sortI : List Int → List Int
  | [] => []
  | x :: xs => insI x (sortI xs)
omit [B : Bs] in
theorem insI_perm (x : Int) : ∀ ys : List Int, (insI x ys).Perm (x :: ys)
  | [] => List.Perm.refl _
  | y :: ys => by
    show (if x ≤ y then x :: y :: ys else y :: insI x ys).Perm (x :: y :: ys)
    split
    · exact List.Perm.refl _
    · exact ((insI_perm x ys).cons y).trans (List.Perm.swap x y ys)
omit [B : Bs] in
theorem sortI_perm : ∀ xs : List Int, (sortI xs).Perm xs
  | [] => List.Perm.refl _
  | x :: xs => (insI_perm x (sortI xs)).trans ((sortI_perm xs).cons x)
omit [B : Bs] in
theorem insI_sorted (x : Int) : ∀ ys : List Int, ys.Pairwise (· ≤ ·) → (insI x ys).Pairwise (· ≤ ·)
  | [], _ => by simp [insI]
  | y :: ys, h => by
    show (if x ≤ y then x :: y :: ys else y :: insI x ys).Pairwise (· ≤ ·)
    rw [List.pairwise_cons] at h
    split
    · rename_i hxy
      rw [List.pairwise_cons]
      refine ⟨fun z hz => ?_, List.pairwise_cons.mpr h⟩
      rcases List.mem_cons.mp hz with q | q
      · rw [q]; exact hxy
      · exact Int.le_trans hxy (h.1 z q)
    · rename_i hxy
      rw [List.pairwise_cons]
      refine ⟨fun z hz => ?_, insI_sorted x ys h.2⟩
      rcases List.mem_cons.mp ((insI_perm x ys).mem_iff.mp hz) with q | q
      · rw [q]; omega
      · exact h.1 z q
omit [B : Bs] in
theorem sortI_sorted : ∀ xs : List Int, (sortI xs).Pairwise (· ≤ ·)
  | [] => List.Pairwise.nil
  | x :: xs => insI_sorted x _ (sortI_sorted xs)
omit [B : Bs] in
def bSorted (S : Store) : List D → Option D
  | [d] => (match intsIn S d with
    | some ns => some (.lst ((sortI ns).map D.int))
    | none => none)
  | _ => none
theorem cas_sorted (K : PySem.W.Frag) : CaS K (rSortedI K) bSorted := by
  intro as H0 H S vs ds z Q r rp h q
  unfold bSorted at h
  split at h
  · obtain ⟨v, rfl, p⟩ := rp.one
    split at h
    · rename_i ns h1
      cases h
      obtain ⟨a, rfl, hs⟩ := ints_in r p h1
      refine ⟨a, ns, rfl, hs, fun ns' p hp hsrt hfree => ?_⟩
      have e : ns' = sortI ns := (hp.trans (sortI_perm ns).symm).eq_of_pairwise (fun x y _ _ h1 h2 => Int.le_antisymm h1 h2) hsrt (sortI_sorted ns)
      subst e
      exact qe_lst r (rpa_ints _) q p hfree
    · cases h
  · cases h
omit [B : Bs] in
def isiD (S : Store) (x : D) (t : Tn) : Option Bool := match x with
  | .non => some false
  | .bl _ => some (decide (t = .int) || decide (t = .bool))
  | .int _ => some (decide (t = .int))
  | .str _ => some (decide (t = .str))
  | .lst _ => some (decide (t = .list))
  | .tup _ => some (decide (t = .tuple))
  | .ref n => (match S[n]? with
    | some (some (.lst _)) => some (decide (t = .list))
    | _ => none)
  | _ => none
omit [B : Bs] in
def tyName : D → String
  | .non => "NoneType"
  | .bl _ => "bool"
  | .int _ => "int"
  | .str _ => "str"
  | .tup _ => "tuple"
  | _ => "list"
omit [B : Bs] in
theorem kit_tab (t : Tn) : kitB "NoneType" t.name = some false ∧ kitB "bool" t.name = some (decide (t = .int) || decide (t = .bool)) ∧ kitB "int" t.name = some (decide (t = .int)) ∧ kitB "str" t.name = some (decide (t = .str)) ∧
    kitB "list" t.name = some (decide (t = .list)) ∧ kitB "tuple" t.name = some (decide (t = .tuple)) := by
  cases t <;> decide +kernel
omit [B : Bs] in
def bIsi (S : Store) : List D → Option D
  | [x, .ty t] => (match isiD S x t with
    | some b => some (.bl b)
    | none => none)
  | _ => none
theorem cas_isi (K : PySem.W.Frag) : CaS K (rIsi K) bIsi := by
  intro as H0 H S vs ds z Q r rp h q
  unfold bIsi at h
  split at h
  · rename_i x t
    obtain ⟨v, w, rfl, p1, p2⟩ := rp.two
    cases p2
    obtain ⟨k1, k2, k3, k4, k5, k6⟩ := kit_tab t
    cases hb : isiD S x t with
    | none => rw [hb] at h; cases h
    | some b =>
      rw [hb] at h
      cases (Option.some.inj h)
      have q' := qe_at r (.bl b) q
      have fin : ∀ {T : String}, TyX K H v (.type T) → kitB T t.name = some b → rIsi K [v, .ty t.name] H Q := fun {T} ty k => ⟨v, .ty t.name, .type T, .type t.name, b, rfl, .ty _, ty, kit_ty k, q'⟩
      unfold isiD at hb
      split at hb
      · cases p1; cases hb; exact fin (.base .non) k1
      · cases p1; cases hb; exact fin (.base (.bl _)) k2
      · cases p1; cases hb; exact fin (.base (.int _)) k3
      · cases p1; cases hb; exact fin (.base (.str _)) k4
      · obtain ⟨a, ws, rfl, h1, h2⟩ := lst_at r p1 rfl
        cases hb; exact fin (.base (.lst h1)) k5
      · obtain ⟨a, ws, rfl, h1, h2⟩ := tup_at r p1 rfl
        cases hb; exact fin (.base (.tup h1)) k6
      · rename_i n
        split at hb
        · rename_i xs hx
          obtain ⟨a, ws, rfl, h1, h2⟩ := lst_at (xs := xs) r p1 (by unfold lstOf; dsimp only; rw [hx])
          cases hb; exact fin (.base (.lst h1)) k5
        · cases hb
      · cases hb
  · cases h
omit [B : Bs] in
/-- int(..) of a whole number, a truth, a text -/
def bInt (_ : Store) : List D → Option D
  | [.int i] => some (.int i)
  | [.bl k] => some (.int (if k then 1 else 0))
  | [.str x] => if x.length ≤ 640 then (match PySem.intText? x with
    | some n => some (.int n)
    | none => none) else none
  | _ => none
omit [B : Bs] in
def rIntA : List V → Hp → VK → Prop := fun xs H Q => ((∃ i, xs = [.int i] ∧ Q (.int i) H) ∨ ∃ k, xs = [.bl k] ∧ Q (.int (if k then 1 else 0)) H) ∨ ∃ a n, xs = [.str a] ∧ PySem.intText? a = some n ∧ a.length ≤ 640 ∧ Q (.int n) H
theorem cas_int (K : PySem.W.Frag) : CaS K rIntA bInt := by
  intro as H0 H S vs ds z Q r rp h q
  unfold bInt at h
  split at h
  · obtain ⟨v, rfl, p⟩ := rp.one
    cases p; cases h
    exact .inl (.inl ⟨_, rfl, qe_at r (.int _) q⟩)
  · obtain ⟨v, rfl, p⟩ := rp.one
    cases p; cases h
    exact .inl (.inr ⟨_, rfl, qe_at r (.int _) q⟩)
  · obtain ⟨v, rfl, p⟩ := rp.one
    cases p
    split at h
    · rename_i hl
      split at h
      · rename_i n hn
        cases h
        exact .inr ⟨_, n, rfl, hn, hl, qe_at r (.int _) q⟩
      · cases h
    · cases h
  · cases h
omit [B : Bs] in
def bStr (_ : Store) : List D → Option D
  | [.int i] => if i.natAbs.log2 < 1920 then some (.str (toString i)) else none
  | [.str x] => some (.str x)
  | _ => none
theorem cas_str (K : PySem.W.Frag) : CaS K (fun xs H Q => (∃ i, xs = [.int i] ∧ i.natAbs.log2 < 1920 ∧ Q (.str (toString i)) H) ∨ ∃ a, xs = [.str a] ∧ Q (.str a) H) bStr := by
  intro as H0 H S vs ds z Q r rp h q
  unfold bStr at h
  split at h
  · obtain ⟨v, rfl, p⟩ := rp.one
    cases p
    split at h
    · rename_i hl
      cases h
      exact .inl ⟨_, rfl, hl, qe_at r (.str _) q⟩
    · cases h
  · obtain ⟨v, rfl, p⟩ := rp.one
    cases p
    cases h
    exact .inr ⟨_, rfl, qe_at r (.str _) q⟩
  · cases h
omit [B : Bs] in
def bBool (_ : Store) : List D → Option D
  | [.int i] => some (.bl (i != 0))
  | [.bl b] => some (.bl b)
  | _ => none
theorem cas_bool (K : PySem.W.Frag) : CaS K (fun xs H Q => (∃ i, xs = [.int i] ∧ Q (.bl (i != 0)) H) ∨ ∃ k, xs = [.bl k] ∧ Q (.bl k) H) bBool := by
  intro as H0 H S vs ds z Q r rp h q
  unfold bBool at h
  split at h
  · obtain ⟨v, rfl, p⟩ := rp.one
    cases p
    cases h
    exact .inl ⟨_, rfl, qe_at r (.bl _) q⟩
  · obtain ⟨v, rfl, p⟩ := rp.one
    cases p
    cases h
    exact .inr ⟨_, rfl, qe_at r (.bl _) q⟩
  · cases h
omit [B : Bs] in
def bTuple (S : Store) : List D → Option D
  | [.tup xs] => some (.tup xs)
  | [d] => (match lstOf S d with
    | some xs => some (.tup xs)
    | none => none)
  | _ => none
omit [B : Bs] in
def rTupleA (K : PySem.W.Frag) : List V → Hp → VK → Prop := fun xs H Q => ∃ p ys, xs = [.ref p] ∧ ((SqL K H p ys ∧ ∀ l, H l = none → Q (.ref l) (upd H l (.tup ys))) ∨ (SqT K H p ys ∧ Q (.ref p) H))
theorem cas_tuple (K : PySem.W.Frag) : CaS K (rTupleA K) bTuple := by
  intro as H0 H S vs ds z Q r rp h q
  unfold bTuple at h
  split at h
  · obtain ⟨v, rfl, p⟩ := rp.one
    cases h
    obtain ⟨a, ws, rfl, h1, h2⟩ := tup_at r p rfl
    exact ⟨a, ws, rfl, .inr ⟨SqT.of h1, qe_at r p q⟩⟩
  · obtain ⟨v, rfl, p⟩ := rp.one
    split at h
    · rename_i xs hx
      cases h
      obtain ⟨a, ws, rfl, h1, h2⟩ := lst_at r p hx
      exact ⟨a, ws, rfl, .inl ⟨SqL.of h1, qe_tup r h2 q⟩⟩
    · cases h
  · cases h
omit [B : Bs] in
def seqOf (S : Store) : D → Option (List D)
  | .tup xs => some xs
  | d => lstOf S d
omit [B : Bs] in
def bList (S : Store) : List D → Option D
  | [d] => (match seqOf S d with
    | some xs => some (.lst xs)
    | none => none)
  | _ => none
omit [B : Bs] in
def rListA (K : PySem.W.Frag) : List V → Hp → VK → Prop := fun xs H Q => ∃ p ys, xs = [.ref p] ∧ (SqL K H p ys ∨ SqT K H p ys) ∧ ∀ l, H l = none → Q (.ref l) (upd H l (.lst ys))
theorem seq_at {K : PySem.W.Frag} {as : List Addr} {H0 H : Hp} {S : Store} {v : V} {d : D} {xs : List D} (r : Sr K as H0 H S) (p : Rp K as H0 v d) (h : seqOf S d = some xs) : ∃ a vs, v = .ref a ∧ (SqL K H a vs ∨ SqT K H a vs) ∧ RpA K as H0 vs xs := by
  unfold seqOf at h
  split at h
  · cases h
    obtain ⟨a, ws, rfl, h1, h2⟩ := tup_at r p rfl
    exact ⟨a, ws, rfl, .inr (SqT.of h1), h2⟩
  · obtain ⟨a, ws, rfl, h1, h2⟩ := lst_at r p h
    exact ⟨a, ws, rfl, .inl (SqL.of h1), h2⟩
theorem cas_list (K : PySem.W.Frag) : CaS K (rListA K) bList := by
  intro as H0 H S vs ds z Q r rp h q
  unfold bList at h
  split at h
  · obtain ⟨v, rfl, p⟩ := rp.one
    split at h
    · rename_i xs hx
      cases h
      obtain ⟨a, ws, rfl, h1, h2⟩ := seq_at r p hx
      exact ⟨a, ws, rfl, h1, qe_lst r h2 q⟩
    · cases h
  · cases h
omit [B : Bs] in
def bListN : FnB := fun ds S => match ds with
  | [d] => (match seqOf S d with
    | some xs => .ok (.ref S.length) (S ++ [some (.lst xs)])
    | none => .no)
  | _ => .no
theorem cam_listN (K : PySem.W.Frag) : CaM K (rListA K) bListN := by
  intro as H0 H S vs ds Q r rp q
  unfold bListN at q
  split at q
  · obtain ⟨v, rfl, p⟩ := rp.one
    split at q
    · rename_i xs hx
      obtain ⟨a, ws, rfl, h1, h2⟩ := seq_at r p hx
      refine ⟨a, ws, rfl, h1, fun l hl => ?_⟩
      obtain ⟨r2, n2, hl2⟩ := r.alloc (c := .lst xs) (o := .lst ws) hl ⟨ws, upd_same, h2⟩
      exact q _ _ _ _ n2 r2 (.ref hl2)
    · exact q.elim
  · exact q.elim
omit [B : Bs] in
/-- a dict with int keys out of pairs: later ones win, at the first one's place -/
def putI (k : Int) (v : D) (l : List (Int × D)) : List (Int × D) := if (l.any fun p => decide (p.1 = k)) = true then l.map (fun p => if p.1 = k then (p.1, v) else p) else l ++ [(k, v)]
omit [B : Bs] in
def kvOf : List D → Option (List (Int × D))
  | [] => some []
  | .tup [.int k, v] :: r => (match kvOf r with
    | some l => some ((k, v) :: l)
    | none => none)
  | _ :: _ => none
omit [B : Bs] in
def dctOf (l : List (Int × D)) : List (Int × D) := l.foldl (fun acc p => putI p.1 p.2 acc) []
omit [B : Bs] in
def bDict (S : Store) : List D → Option D
  | [d] => (match lstOf S d with
    | some xs => (match kvOf xs with
      | some l => some (.dct ((dctOf l).map (·.1)) ((dctOf l).map (·.2)))
      | none => none)
    | none => none)
  | _ => none
omit [B : Bs] in
def rDictA (K : PySem.W.Frag) : List V → Hp → VK → Prop := fun xs H Q => ∃ (a : Addr) (ps : List Addr) (kvs : List (Key × V)), xs = [.ref a] ∧ SqL K H a (ps.map V.ref) ∧ Paired (fun p kv => SqT K H p [kV kv.1, kv.2]) ps kvs ∧
    ∀ p, H p = none → Q (.ref p) (upd H p (.dK (mergeK [] kvs)))
omit [B : Bs] in
theorem kv_at {K : PySem.W.Frag} {as : List Addr} {H0 H : Hp} (ex : Ex H0 H) : ∀ {ds : List D} {vs : List V} {l : List (Int × D)}, RpA K as H0 vs ds → kvOf ds = some l →
    ∃ (ps : List Addr) (kvs : List (Key × V)), vs = ps.map V.ref ∧ Paired (fun p kv => SqT K H p [kV kv.1, kv.2]) ps kvs ∧ Paired (fun (kv : Key × V) (p : Int × D) => kv.1 = Sum.inl p.1 ∧ Rp K as H0 kv.2 p.2) kvs l
  | [], _, _, r, h => by cases r; cases (Option.some.inj h); exact ⟨[], [], rfl, .nil, .nil⟩
  | d :: ds, _, _, r, h => by
    unfold kvOf at h
    split at h
    · cases ‹_ = ([] : List D)›
    · rename_i k v rest heq
      cases heq
      split at h
      · rename_i l hl
        cases (Option.some.inj h)
        cases r with
        | cons r1 r2 =>
          obtain ⟨ps, kvs, e1, e2, e3⟩ := kv_at ex r2 hl
          cases r1 with
          | tup h1 h2 =>
            rename_i a ws
            obtain ⟨x, y, rfl, p1, p2⟩ := h2.two
            cases p1
            refine ⟨a :: ps, (Sum.inl k, y) :: kvs, by rw [e1]; rfl, .cons (SqT.of (ex _ _ h1)) e2, .cons ⟨rfl, p2⟩ e3⟩
      · cases h
    · cases h
omit [B : Bs] in
abbrev KD (K : PySem.W.Frag) (as : List Addr) (H0 : Hp) : List (Key × V) → List (Int × D) → Prop := Paired fun kv p => kv.1 = Sum.inl p.1 ∧ Rp K as H0 kv.2 p.2
omit [B : Bs] in
theorem kd_any {K : PySem.W.Frag} {as : List Addr} {H0 : Hp} {k : Int} : ∀ {kvs : List (Key × V)} {l : List (Int × D)}, KD K as H0 kvs l → (kvs.any fun kv => decide (kv.1 = Sum.inl k)) = l.any fun p => decide (p.1 = k)
  | [], [], .nil => rfl
  | (k', x) :: kvs, (i, y) :: l, .cons h t => by
    obtain ⟨h1, h2⟩ := h
    have h1 : k' = Sum.inl i := h1
    subst h1
    rw [List.any_cons, List.any_cons, kd_any t]
    congr 1
    by_cases q : i = k
    · subst q; simp
    · simp [q]
omit [B : Bs] in
theorem kd_map {K : PySem.W.Frag} {as : List Addr} {H0 : Hp} {k : Int} {v : V} {d : D} (r : Rp K as H0 v d) : ∀ {kvs : List (Key × V)} {l : List (Int × D)}, KD K as H0 kvs l →
    KD K as H0 (kvs.map fun kv => if kv.1 = Sum.inl k then (kv.1, v) else kv) (l.map fun p => if p.1 = k then (p.1, d) else p)
  | [], [], .nil => .nil
  | (k', x) :: kvs, (i, y) :: l, .cons h t => by
    obtain ⟨h1, h2⟩ := h
    have h1 : k' = Sum.inl i := h1
    subst h1
    rw [List.map_cons, List.map_cons]
    refine .cons ?_ (kd_map r t)
    by_cases q : i = k
    · subst q; simp [r]
    · have : ¬ (Sum.inl i : Key) = Sum.inl k := fun z => q (Sum.inl.inj z)
      rw [if_neg (show ¬ ((Sum.inl i, x) : Key × V).1 = Sum.inl k from this), if_neg (show ¬ ((i, y) : Int × D).1 = k from q)]
      exact ⟨rfl, h2⟩
omit [B : Bs] in
theorem kd_app {K : PySem.W.Frag} {as : List Addr} {H0 : Hp} {k : Int} {v : V} {d : D} (r : Rp K as H0 v d) : ∀ {kvs : List (Key × V)} {l : List (Int × D)}, KD K as H0 kvs l → KD K as H0 (kvs ++ [(Sum.inl k, v)]) (l ++ [(k, d)])
  | [], [], .nil => .cons ⟨rfl, r⟩ .nil
  | (k', x) :: kvs, (i, y) :: l, .cons h t => .cons h (kd_app r t)
omit [B : Bs] in
theorem kd_put {K : PySem.W.Frag} {as : List Addr} {H0 : Hp} {k : Int} {v : V} {d : D} (r : Rp K as H0 v d) (kvs : List (Key × V)) (l : List (Int × D)) (t : KD K as H0 kvs l) : KD K as H0 (putK kvs (Sum.inl k) v) (putI k d l) := by
  unfold putK putI
  rw [kd_any t]
  split
  · exact kd_map r t
  · exact kd_app r t
omit [B : Bs] in
theorem kd_merge {K : PySem.W.Frag} {as : List Addr} {H0 : Hp} : ∀ (more : List (Key × V)) (l : List (Int × D)) (kvs : List (Key × V)) (acc : List (Int × D)), KD K as H0 more l → KD K as H0 kvs acc → KD K as H0 (mergeK kvs more) (l.foldl (fun acc p => putI p.1 p.2 acc) acc)
  | [], [], _, _, .nil, h => h
  | (k, v) :: more, (i, d) :: l, kvs, acc, .cons h t, h2 => by
    obtain ⟨e, r⟩ := h
    have e : k = Sum.inl i := e
    subst e
    exact kd_merge more l _ _ t (kd_put r kvs acc h2)
omit [B : Bs] in
theorem kd_split {K : PySem.W.Frag} {as : List Addr} {H0 : Hp} : ∀ {kvs : List (Key × V)} {l : List (Int × D)}, KD K as H0 kvs l → kvs.map (·.1) = (l.map (·.1)).map Sum.inl ∧ RpA K as H0 (kvs.map (·.2)) (l.map (·.2))
  | _, _, .nil => ⟨rfl, .nil⟩
  | kv :: kvs, p :: l, .cons h t => by
    obtain ⟨e1, e2⟩ := kd_split t
    refine ⟨?_, .cons h.2 e2⟩
    rw [List.map_cons, List.map_cons, List.map_cons, e1, h.1]
theorem cas_dict (K : PySem.W.Frag) : CaS K (rDictA K) bDict := by
  intro as H0 H S vs ds z Q r rp h q
  unfold bDict at h
  split at h
  · obtain ⟨v, rfl, p⟩ := rp.one
    split at h
    · rename_i xs hx
      split at h
      · rename_i l hl
        cases h
        obtain ⟨a, ws, rfl, h1, h2⟩ := lst_at r p hx
        obtain ⟨ps, kvs, e1, e2, e3⟩ := kv_at r.ex h2 hl
        subst e1
        refine ⟨a, ps, kvs, rfl, SqL.of h1, e2, fun p hp => ?_⟩
        obtain ⟨r2, n2⟩ := r.imm (o := .dK (mergeK [] kvs)) hp
        obtain ⟨k1, k2⟩ := kd_split (kd_merge _ _ _ _ e3 .nil)
        exact q _ as _ _ n2 r2 (.dct upd_same k1 (k2.mono n2.h0 n2.pre))
      · cases h
    · cases h
  · cases h

/-! ### each built-in by its name -/
omit [B : Bs] in
def Bl.op : Bl → FnB
  | .len => puB bLen
  | .abs => puB bAbs
  | .max => puB bMax
  | .min => puB bMin
  | .sum => puB bSum
  | .all => puB bAll
  | .any => puB bAny
  | .sorted => puB bSorted
  | .isinst => puB bIsi
  | .int => puB bInt
  | .str => puB bStr
  | .tuple => puB bTuple
  | .list => puB bList
  | .listN => bListN
  | .dict => puB bDict
  | .bool => puB bBool
theorem Bl.ok (K : PySem.W.Frag) (b : Bl) : ∃ r, (∀ X : Cx, X.K = K → X.calm = true → CallR X b.val r) ∧ CaM K r b.op := by
  cases b with
  | len => exact ⟨_, fun X e c => by rw [← e]; exact call_len, cam_of (cas_len K)⟩
  | abs => exact ⟨_, fun X e c => call_abs, cam_of (cas_abs K)⟩
  | max => exact ⟨_, fun X e c => by rw [← e]; exact CallR.or (call_max2 c) (cr_max c), cam_of (cas_max K)⟩
  | min => exact ⟨_, fun X e c => by rw [← e]; exact CallR.or (call_min2 c) (cr_min c), cam_of (cas_min K)⟩
  | sum => exact ⟨_, fun X e c => by rw [← e]; exact cr_sum c, cam_of (cas_sum K)⟩
  | all => exact ⟨_, fun X e c => by rw [← e]; exact cr_all c, cam_of (cas_all K)⟩
  | any => exact ⟨_, fun X e c => by rw [← e]; exact cr_any c, cam_of (cas_any K)⟩
  | sorted => exact ⟨_, fun X e c => by rw [← e]; exact cr_sortedI, cam_of (cas_sorted K)⟩
  | isinst => exact ⟨_, fun X e c => by rw [← e]; exact call_isi, cam_of (cas_isi K)⟩
  | int => exact ⟨_, fun X e c => CallR.or call_int1 call_int_str, cam_of (cas_int K)⟩
  | str => exact ⟨_, fun X e c => CallR.or call_str_int SkE.call_str_str, cam_of (cas_str K)⟩
  | tuple => exact ⟨_, fun X e c => by rw [← e]; exact call_tuple_of, cam_of (cas_tuple K)⟩
  | list => exact ⟨_, fun X e c => by rw [← e]; exact call_list_of, cam_of (cas_list K)⟩
  | listN => exact ⟨_, fun X e c => by rw [← e]; exact call_list_of, cam_listN K⟩
  | dict => exact ⟨_, fun X e c => by rw [← e]; exact call_dictP c, cam_of (cas_dict K)⟩
  | bool => exact ⟨_, fun X e c => call_bool1, cam_of (cas_bool K)⟩
omit [B : Bs] in
def Bl.isTy : Bl → Bool
  | .int => true
  | .str => true
  | .tuple => true
  | .list => true
  | .listN => true
  | .dict => true
  | .bool => true
  | _ => false
section
variable {g : G} {og sc : Scope}
theorem se_bl_call {x : Str} {b : Bl} {e : Expr} {es : List Expr} {a : Av} {p pos : Pos} (hx : Blt g sc x) (hv : bootBuiltins x = some b.val) (hb : SA g og sc (e :: es) a) : SE g og sc (.Call (.Name x p) (e :: es) [] pos) (eCaM b.op a) := by
  obtain ⟨r, h1, h2⟩ := b.ok g.K
  obtain ⟨tb, pb, sb⟩ := hb
  obtain ⟨hx1, hx2, hx3, hx4⟩ := hx
  refine ⟨tCB r tb, fun X c => ?_, says_cm h2 sb⟩
  obtain ⟨q1, q2⟩ := pb X c
  have st1 := starEach_plain (es := es) (env := X.env) (e := e) (by cases e <;> first | rfl | exact absurd rfl (q2 _ List.mem_cons_self _ _))
  have st2 := star_none (env := X.env) (fun e' he => q2 e' (List.mem_cons_of_mem e he)) pos
  have hr := h1 X c.K c.calm
  have hm : X.mg x = none := by rw [c.mg]; exact hx1
  cases b <;> first | exact pe_callB hr (gl_of c hx2) hm hv q1 hx3 hx4 st1 st2 | exact pe_callTy hr (gl_of c hx2) hm hv q1 hx3 hx4 st1 st2

/-! ### methods -/
omit [B : Bs] in
inductive Mb where
  | append | pop | index | lcount | split | join
  deriving DecidableEq
omit [B : Bs] in
def Mb.ty : Mb → String
  | .append => "list"
  | .pop => "list"
  | .index => "list"
  | .lcount => "list"
  | .split => "str"
  | .join => "str"
omit [B : Bs] in
def Mb.id : Mb → String
  | .append => "list.append"
  | .pop => "list.pop"
  | .index => "list.index"
  | .lcount => "list.count"
  | .split => "str.split"
  | .join => "str.join"
omit [B : Bs] in
def Mb.name : Mb → Str
  | .append => "append"
  | .pop => "pop"
  | .index => "index"
  | .lcount => "count"
  | .split => "split"
  | .join => "join"
omit [B : Bs] in
def mAppend : OpM := fun x ds S => match x, ds with
  | .ref n, [d] => (match S[n]? with
    | some (some (.lst xs)) => if xs.length < line then .ok .non (S.set n (some (.lst (xs ++ [d])))) else .no
    | _ => .no)
  | _, _ => .no
theorem mts_append (K : PySem.W.Frag) : MtS' K rAppend mAppend := by
  intro as H0 H S v d vs ds Q r p rp h
  unfold mAppend at h
  split at h
  · rename_i n d
    obtain ⟨w, rfl, p2⟩ := rp.one
    split at h
    · rename_i xs hx
      split at h
      · rename_i hl
        cases p with
        | ref ha =>
          rename_i a
          obtain ⟨h0, ws, hw, rw'⟩ := r.cell n _ a hx ha
          refine ⟨a, ws, w, rfl, rfl, hw, ?_, ?_⟩
          · rw [rw'.length, sizeLine_eq]; exact hl
          · obtain ⟨r2, n2⟩ := r.put (c' := .lst (xs ++ [d])) (o := .lst (ws ++ [w])) hx ha ⟨_, upd_same, rw'.append (.cons p2 .nil)⟩
            exact h _ _ _ _ n2 r2 .non
      · exact h.elim
    · exact h.elim
  · exact h.elim
omit [B : Bs] in
def mPop : OpM := fun x ds S => match x, ds with
  | .ref n, [.int i] => (match S[n]? with
    | some (some (.lst xs)) => (match ixN xs.length i with
      | some k => (match xs[k]? with
        | some d => if -(2 ^ 63) ≤ i ∧ i < 2 ^ 63 then .ok d (S.set n (some (.lst (xs.eraseIdx k)))) else .no
        | none => .no)
      | none => .no)
    | _ => .no)
  | _, _ => .no
theorem mts_pop (K : PySem.W.Frag) : MtS' K rPopAt mPop := by
  intro as H0 H S v d vs ds Q r p rp h
  unfold mPop at h
  split at h
  · rename_i n i
    obtain ⟨w, rfl, p2⟩ := rp.one
    cases p2
    split at h
    · rename_i xs hx
      split at h
      · rename_i k hk
        split at h
        · rename_i z hz
          split at h
          · rename_i hi
            cases p with
            | ref ha =>
              rename_i a
              obtain ⟨h0, ws, hw, rw'⟩ := r.cell n _ a hx ha
              obtain ⟨y, hy, py⟩ := rw'.get hz
              refine ⟨a, ws, i, k, y, rfl, rfl, hw, hi.1, hi.2, ?_, hy, ?_⟩
              · rw [rw'.length]; exact (ixN_seq hk).1
              · obtain ⟨r2, n2⟩ := r.put (c' := .lst (xs.eraseIdx k)) (o := .lst (ws.eraseIdx k)) hx ha ⟨_, upd_same, rw'.eraseIdx k⟩
                exact h _ _ _ _ n2 r2 (py.mono n2.h0 n2.pre)
          · exact h.elim
        · exact h.elim
      · exact h.elim
    · exact h.elim
  · exact h.elim
omit [B : Bs] in
def findEq (p : PyData) : Nat → List PyData → Option Nat
  | _, [] => none
  | j, z :: zs => if PyData.eqv z p = true then some j else findEq p (j + 1) zs
omit [B : Bs] in
theorem findEq_ok {p : PyData} : ∀ {zs : List PyData} {j k : Nat}, findEq p j zs = some k → j ≤ k ∧ ∃ z, zs[k - j]? = some z ∧ PyData.eqv z p = true ∧ ∀ m z', m < k - j → zs[m]? = some z' → PyData.eqv z' p = false
  | [], _, _, h => by cases h
  | z :: zs, j, k, h => by
    unfold findEq at h
    split at h
    · rename_i hz
      cases h
      refine ⟨Nat.le_refl _, z, by simp, hz, fun m z' hm => by omega⟩
    · rename_i hz
      obtain ⟨h1, y, h2, h3, h4⟩ := findEq_ok h
      have e : k - j = (k - (j + 1)) + 1 := by omega
      refine ⟨by omega, y, by rw [e, List.getElem?_cons_succ]; exact h2, h3, fun m z' hm hz' => ?_⟩
      cases m with
      | zero =>
        simp at hz'
        subst hz'
        simpa using hz
      | succ m => exact h4 m z' (by omega) (by rw [List.getElem?_cons_succ] at hz'; exact hz')
omit [B : Bs] in
def mIndex : OpM := fun x ds S => match ds with
  | [d] => (match toPyS S x, toPyS S d with
    | some (.list ps), some p => if SeqAt.shaped (.list ps) = true ∧ SeqAt.shaped p = true then (match findEq p 0 ps with
      | some j => .ok (.int (j : Nat)) S
      | none => .no) else .no
    | _, _ => .no)
  | _ => .no
theorem mts_index (K : PySem.W.Frag) : MtS' K (rIndexD K) mIndex := by
  intro as H0 H S v d vs ds Q r p rp h
  unfold mIndex at h
  split at h
  · rename_i e
    obtain ⟨w, rfl, p2⟩ := rp.one
    split at h
    · rename_i ps q hps hq
      split at h
      · rename_i hs
        split at h
        · rename_i j hj
          obtain ⟨_, z, h2, h3, h4⟩ := findEq_ok hj
          have d1 := dp_ofS r p hps
          obtain ⟨a, rfl⟩ : ∃ a, v = V.ref a := by cases d1; exact ⟨_, rfl⟩
          exact ⟨a, w, q, ps, j, z, rfl, rfl, d1, dp_ofS r p2 hq, hs.1, hs.2, h2, h3, h4, qe_at r (.int _) h⟩
        · exact h.elim
      · exact h.elim
    · exact h.elim
  · exact h.elim
omit [B : Bs] in
def mLcount : OpM := fun x ds S => match ds with
  | [.int k] => (match intsIn S x with
    | some ns => .ok (.int (ns.count k : Nat)) S
    | none => .no)
  | _ => .no
theorem mts_lcount (K : PySem.W.Frag) : MtS' K (rCntI K) mLcount := by
  intro as H0 H S v d vs ds Q r p rp h
  unfold mLcount at h
  split at h
  · rename_i k
    obtain ⟨w, rfl, p2⟩ := rp.one
    cases p2
    split at h
    · rename_i ns hn
      obtain ⟨a, rfl, hs⟩ := ints_in r p hn
      exact ⟨a, ns, k, rfl, rfl, hs, qe_at r (.int _) h⟩
    · exact h.elim
  · exact h.elim
omit [B : Bs] in
def mSplit : OpM := fun x ds S => match x, ds with
  | .str a, [.str b] => if (b.length == 0) = false ∧ a.length + 2 ≤ line then .ok (.lst ((Txt.split a b).map D.str)) S else .no
  | _, _ => .no
omit [B : Bs] in
theorem rpa_strs {K : PySem.W.Frag} {as : List Addr} {H : Hp} : ∀ (ns : List Str), RpA K as H (ns.map V.str) (ns.map D.str)
  | [] => .nil
  | n :: ns => .cons (.str n) (rpa_strs ns)
theorem mts_split (K : PySem.W.Frag) : MtS' K (fun x xs H Q => ∃ a b, x = .str a ∧ xs = [.str b] ∧ (b.length == 0) = false ∧ a.length + 2 ≤ sizeLine ∧ rNewStrs (Txt.split a b) H Q) mSplit := by
  intro as H0 H S v d vs ds Q r p rp h
  unfold mSplit at h
  split at h
  · rename_i a b
    obtain ⟨w, rfl, p2⟩ := rp.one
    cases p; cases p2
    split at h
    · rename_i hl
      exact ⟨a, b, rfl, rfl, hl.1, le_sizeLine hl.2, qe_lst r (rpa_strs _) h⟩
    · exact h.elim
  · exact h.elim
omit [B : Bs] in
def strsOf : List D → Option (List Str)
  | [] => some []
  | .str i :: r => (match strsOf r with
    | some ns => some (i :: ns)
    | none => none)
  | _ :: _ => none
omit [B : Bs] in
theorem strs_at {K : PySem.W.Frag} {as : List Addr} {H : Hp} : ∀ {ds : List D} {vs : List V} {ns : List Str}, RpA K as H vs ds → strsOf ds = some ns → vs = ns.map V.str
  | [], _, _, r, h => by cases r; cases (Option.some.inj h); rfl
  | d :: ds, _, _, r, h => by
    cases r with
    | cons r1 r2 =>
      cases d with
      | str i =>
        unfold strsOf at h
        split at h
        · rename_i ns q
          cases (Option.some.inj h)
          cases r1
          rw [strs_at r2 q] <;> rfl
        · cases h
      | _ => cases h
omit [B : Bs] in
def mJoin : OpM := fun x ds S => match x, ds with
  | .str a, [d] => (match seqOf S d with
    | some xs => (match strsOf xs with
      | some ys => if (ys.map (·.length)).sum + ys.length * a.length ≤ 16777216 then .ok (.str (Txt.join a ys)) S else .no
      | none => .no)
    | none => .no)
  | _, _ => .no
omit [B : Bs] in
def rJoinA (K : PySem.W.Frag) : V → List V → Hp → VK → Prop := fun x xs H Q => ∃ a p, ∃ ys : List Str, x = .str a ∧ xs = [.ref p] ∧ (SqL K H p (ys.map V.str) ∨ SqT K H p (ys.map V.str)) ∧
    (ys.map (·.length)).sum + ys.length * a.length ≤ 16777216 ∧ Q (.str (Txt.join a ys)) H
theorem mts_join (K : PySem.W.Frag) : MtS' K (rJoinA K) mJoin := by
  intro as H0 H S v d vs ds Q r p rp h
  unfold mJoin at h
  split at h
  · rename_i a e
    obtain ⟨w, rfl, p2⟩ := rp.one
    cases p
    split at h
    · rename_i xs hx
      split at h
      · rename_i ys hy
        split at h
        · rename_i hl
          obtain ⟨b, ws, rfl, h1, h2⟩ := seq_at r p2 hx
          rw [strs_at h2 hy] at h1
          exact ⟨a, b, ys, rfl, rfl, h1, hl, qe_at r (.str _) h⟩
        · exact h.elim
      · exact h.elim
    · exact h.elim
  · exact h.elim
omit [B : Bs] in
def Mb.op : Mb → OpM
  | .append => mAppend
  | .pop => mPop
  | .index => mIndex
  | .lcount => mLcount
  | .split => mSplit
  | .join => mJoin
theorem se_mb {m : Mb} {ea e : Expr} {es : List Expr} {a : Ev} {b : Av} {apos cpos : Pos} (hcall : isCallE ea = false) (hline : (apos.endLine == cpos.line) = true) (hfew : (e :: es).length < 30) (ha : SE g og sc ea a) (hb : SA g og sc (e :: es) b) :
    SE g og sc (.Call (.Attribute ea m.name apos) (e :: es) [] cpos) (eMt m.ty m.op a b) := by
  have hu : ∀ X, Cxt g og sc X → X.A.units + 65 < cLine := fun X c => by have := c.room.un; omega
  cases m with
  | append => exact se_mt PySem.F.plainAttrs_list PySem.F.slot_list_append PySem.F.type_list_append (fun X c => mt_append) (mts_append _) hcall hline hfew ha hb
  | pop => exact se_mt PySem.F.plainAttrs_list PySem.F.slot_list_pop PySem.F.type_list_pop (fun X c => mt_popAt) (mts_pop _) hcall hline hfew ha hb
  | index => exact se_mt PySem.F.plainAttrs_list PySem.F.slot_list_index PySem.F.type_list_index (fun X c => by rw [← c.K]; exact mt_indexD (hu X c)) (mts_index _) hcall hline hfew ha hb
  | lcount => exact se_mt PySem.F.plainAttrs_list PySem.F.slot_list_count PySem.F.type_list_count (fun X c => by rw [← c.K]; exact mt_lcount) (mts_lcount _) hcall hline hfew ha hb
  | split => exact se_mt PySem.F.plainAttrs_str PySem.F.slot_str_split PySem.F.type_str_split (fun X c => mt_split) (mts_split _) hcall hline hfew ha hb
  | join => exact se_mt PySem.F.plainAttrs_str PySem.F.slot_str_join PySem.F.type_str_join (fun X c => by rw [← c.K]; exact mt_join) (mts_join _) hcall hline hfew ha hb
omit [B : Bs] in
/-- d.get(k, x) -/
def getI (k : Int) : List Int → List D → Option D
  | i :: is, d :: ds => if i = k then some d else getI k is ds
  | _, _ => none
omit [B : Bs] in
def eGet (a b c : Ev) : Ev := fun ρ S => (a ρ S).bind fun x S1 => match x with
  | .dct ks vs => (b ρ S1).bind fun y S2 => (c ρ S2).bind fun z S3 => (match y with
    | .int k => .ok ((getI k ks vs).getD z) S3
    | _ => .no)
  | _ => .no
omit [B : Bs] in
theorem valV_get {K : PySem.W.Frag} {as : List Addr} {H0 : Hp} {k : Int} : ∀ {kvs : List (Key × V)} {ks : List Int} {ds : List D}, kvs.map (·.1) = ks.map Sum.inl → RpA K as H0 (kvs.map (·.2)) ds →
    (getI k ks ds = none ∧ valV kvs (Sum.inl k) = none) ∨ ∃ d v, getI k ks ds = some d ∧ valV kvs (Sum.inl k) = some v ∧ Rp K as H0 v d
  | [], [], _, _, r => by cases r; exact .inl ⟨rfl, rfl⟩
  | [], _ :: _, _, h, _ => by cases h
  | _ :: _, [], _, h, _ => by cases h
  | kv :: kvs, i :: is, ds, h, r => by
    cases r with
    | cons r1 r2 =>
      rw [List.map_cons, List.map_cons] at h
      injection h with h1 h2
      obtain ⟨k', v⟩ := kv
      have h1 : k' = Sum.inl i := h1
      subst h1
      have ih := valV_get (k := k) h2 r2
      unfold getI
      by_cases q : i = k
      · subst q
        rw [if_pos rfl]
        refine .inr ⟨_, v, rfl, ?_, r1⟩
        simp [valV]
      · rw [if_neg q]
        have e : valV ((Sum.inl i, v) :: kvs) (Sum.inl k) = valV kvs (Sum.inl k) := by
          simp [valV, q]
        rw [e]
        exact ih
theorem se_get {ea eb ec : Expr} {a b c : Ev} {apos cpos : Pos} (hcall : isCallE ea = false) (hline : (apos.endLine == cpos.line) = true) (hs : isStar eb = false) (hs2 : isStar ec = false) (ha : SE g og sc ea a) (hb : SE g og sc eb b) (hc : SE g og sc ec c) :
    SE g og sc (.Call (.Attribute ea "get" apos) [eb, ec] [] cpos) (eGet a b c) := by
  obtain ⟨ta, pa, sa⟩ := ha
  obtain ⟨tb, pb, sb⟩ := hb
  obtain ⟨tc, pc, sc'⟩ := hc
  refine ⟨tDGet2 ta tb tc, fun X cx => ?_, fun as H0 H ρ S σ Q r e h => ?_⟩
  · have st : starEach [eb, ec] X.env = [(false, eval eb X.env), (false, eval ec X.env)] := by rw [starEach_plain hs, starEach_one hs2]
    refine pe_dget2 (by have := cx.room.un; omega) (pa X cx) (pb X cx) (pc X cx) ⟨base_plain hcall, ?_, hline, ?_⟩
    · rw [st]; rfl
    · rw [st]; rfl
  · refine sa as H0 H ρ S σ _ r e (R.sat_mono (R.sat_bind h) (fun x S1 h1 => ?_) fun _ _ _ _ z => z)
    intro v as1 H01 H1 n1 r1 p1
    have e1 := e.mono n1.h0 n1.pre
    cases x with
    | dct ks ds =>
      cases p1 with
      | dct hk1 hk2 hk3 =>
        rename_i a kvs
        refine ⟨a, rfl, .inl ⟨kvs, .inl (r1.ex _ _ hk1)⟩, ?_⟩
        refine sb as1 H01 H1 ρ S1 σ _ r1 e1 (R.sat_mono (R.sat_bind h1) (fun y S2 h2 => ?_) fun _ _ _ _ z => z)
        intro w as2 H02 H2 n2 r2 p2
        refine sc' as2 H02 H2 ρ S2 σ _ r2 (e1.mono n2.h0 n2.pre) (R.sat_mono (R.sat_bind h2) (fun z S3 h3 => ?_) fun _ _ _ _ z => z)
        intro u as3 H03 H3 n3 r3 p3
        have n23 := n2.trans n3
        cases y with
        | int k =>
          cases p2
          have q3 := n23.h0 _ _ hk1
          have h3' : QE g.K as H0 H Q ((getI k ks ds).getD z) S3 := h3
          rcases valV_get (k := k) hk2 hk3 with ⟨g1, g2⟩ | ⟨d', v', g1, g2, g3⟩
          · refine ⟨none, .inl ⟨kvs, Sum.inl k, .inl (r3.ex _ _ q3), rfl, g2.symm⟩, ?_⟩
            rw [g1] at h3'
            exact h3' _ as3 H03 H3 (n1.trans n23) r3 p3
          · refine ⟨some v', .inl ⟨kvs, Sum.inl k, .inl (r3.ex _ _ q3), rfl, g2.symm⟩, ?_⟩
            rw [g1] at h3'
            exact h3' _ as3 H03 H3 (n1.trans n23) r3 (g3.mono n23.h0 n23.pre)
        | _ => exact h3.elim
    | _ => exact h1.elim
end
end PL

set_option Elab.async false
set_option linter.all false
set_option maxRecDepth 100000
set_option maxHeartbeats 4000000
/-! sorted(xs, key=len): a list of tuples -/
namespace PL
open PySem PySem.Spec PyProof.Rows L2
variable [B : Bs]
/-! ### the order -/
section
variable {α β : Type}
omit [B : Bs] in
def insB (f : α → Int) (x : α) : List α → List α
  | [] => [x]
  | y :: ys => if f x ≤ f y then x :: y :: ys else y :: insB f x ys
omit [B : Bs] in
def sortB (f : α → Int) : List α → List α
  | [] => []
  | x :: xs => insB f x (sortB f xs)
omit [B : Bs] in
def ltB (f : α → Int) (x y : α) : Bool := decide (f x < f y)
omit [B : Bs] in
theorem insB_perm (f : α → Int) (x : α) : ∀ ys : List α, (insB f x ys).Perm (x :: ys)
  | [] => List.Perm.refl _
  | y :: ys => by
    unfold insB
    split
    · exact List.Perm.refl _
    · exact ((insB_perm f x ys).cons y).trans (List.Perm.swap x y ys)
omit [B : Bs] in
theorem sortB_perm (f : α → Int) : ∀ xs : List α, (sortB f xs).Perm xs
  | [] => List.Perm.refl _
  | x :: xs => (insB_perm f x _).trans ((sortB_perm f xs).cons x)
omit [B : Bs] in
theorem insB_srtd (f : α → Int) (x : α) : ∀ ys : List α, SrtO.Srtd (ltB f) ys → SrtO.Srtd (ltB f) (insB f x ys)
  | [], _ => List.pairwise_singleton _ _
  | y :: ys, h => by
    unfold insB
    obtain ⟨h1, h2⟩ := List.pairwise_cons.mp h
    split
    · rename_i q
      refine List.pairwise_cons.mpr ⟨fun z hz => ?_, h⟩
      rcases List.mem_cons.mp hz with e | hz
      · subst e; exact decide_eq_false (by omega)
      · have := of_decide_eq_false (p := f z < f y) (h1 z hz)
        exact decide_eq_false (by omega)
    · rename_i q
      refine List.pairwise_cons.mpr ⟨fun z hz => ?_, insB_srtd f x ys h2⟩
      rcases List.mem_cons.mp ((insB_perm f x ys).mem_iff.mp hz) with e | hz
      · subst e; exact decide_eq_false (by omega)
      · exact h1 z hz
omit [B : Bs] in
theorem sortB_srtd (f : α → Int) : ∀ xs : List α, SrtO.Srtd (ltB f) (sortB f xs)
  | [] => List.Pairwise.nil
  | x :: xs => insB_srtd f x _ (sortB_srtd f xs)
omit [B : Bs] in
theorem eqB {f : α → Int} {x y : α} : SrtO.eqv (ltB f) x y = decide (f x = f y) := by
  unfold SrtO.eqv ltB
  by_cases h : f x = f y
  · rw [decide_eq_true h, decide_eq_false (by omega), decide_eq_false (by omega)]; rfl
  · rw [decide_eq_false h]
    by_cases h2 : f x < f y
    · rw [decide_eq_true h2]; rfl
    · rw [decide_eq_false h2, decide_eq_true (show f y < f x by omega)]; rfl
omit [B : Bs] in
theorem insB_cls (f : α → Int) (x z : α) : ∀ ys : List α, (insB f x ys).filter (SrtO.eqv (ltB f) z) = (x :: ys).filter (SrtO.eqv (ltB f) z)
  | [] => rfl
  | y :: ys => by
    unfold insB
    split
    · rfl
    · rename_i q
      have ih := insB_cls f x z ys
      by_cases e1 : SrtO.eqv (ltB f) z y = true
      · have e2 : SrtO.eqv (ltB f) z x = false := by
          rw [eqB] at e1 ⊢
          have := of_decide_eq_true e1
          exact decide_eq_false (by omega)
        rw [List.filter_cons_of_pos e1, ih, List.filter_cons_of_neg (by rw [e2]; decide), List.filter_cons_of_neg (by rw [e2]; decide), List.filter_cons_of_pos e1]
      · rw [List.filter_cons_of_neg e1, ih]
        by_cases e2 : SrtO.eqv (ltB f) z x = true
        · rw [List.filter_cons_of_pos e2, List.filter_cons_of_pos e2, List.filter_cons_of_neg e1]
        · rw [List.filter_cons_of_neg e2, List.filter_cons_of_neg e2, List.filter_cons_of_neg e1]
omit [B : Bs] in
theorem sortB_stb (f : α → Int) : ∀ xs : List α, SrtO.Stb (ltB f) (sortB f xs) xs
  | [] => SrtO.Stb.refl _
  | x :: xs => ⟨sortB_perm f _, fun z => by
      show (insB f x (sortB f xs)).filter _ = _
      rw [insB_cls]
      have := (sortB_stb f xs).cls z
      by_cases e : SrtO.eqv (ltB f) z x = true
      · rw [List.filter_cons_of_pos e, List.filter_cons_of_pos e, this]
      · rw [List.filter_cons_of_neg e, List.filter_cons_of_neg e, this]⟩
omit [B : Bs] in
theorem swoB (f : α → Int) : SrtO.Swo (ltB f) := by
  refine ⟨fun x y h => ?_, fun x y z h1 h2 => ?_⟩
  · have := of_decide_eq_true (p := f x < f y) h
    exact decide_eq_false (by omega)
  · have a := of_decide_eq_false (p := f y < f x) h1
    have b := of_decide_eq_false (p := f z < f y) h2
    exact decide_eq_false (by omega)
omit [B : Bs] in
theorem sortB_uniq {f : α → Int} {l m : List α} (h1 : SrtO.Srtd (ltB f) l) (h2 : SrtO.Stb (ltB f) l m) : l = sortB f m :=
  SrtO.stb_uniq (swoB f) h1 (sortB_srtd f m) ⟨h2.perm.trans (sortB_perm f m).symm, fun z => (h2.cls z).trans ((sortB_stb f m).cls z).symm⟩
omit [B : Bs] in
theorem insB_map {g : α → β} {f : β → Int} {x : α} : ∀ ys : List α, (insB (fun a => f (g a)) x ys).map g = insB f (g x) (ys.map g)
  | [] => rfl
  | y :: ys => by
    unfold insB
    rw [List.map_cons, apply_ite (List.map g)]
    show _ = if f (g x) ≤ f (g y) then _ else _
    split
    · rfl
    · rw [List.map_cons, insB_map ys]
omit [B : Bs] in
theorem sortB_map {g : α → β} {f : β → Int} : ∀ xs : List α, (sortB (fun a => f (g a)) xs).map g = sortB f (xs.map g)
  | [] => rfl
  | x :: xs => by
    show (insB _ x (sortB _ xs)).map g = insB f (g x) (sortB f (xs.map g))
    rw [insB_map, sortB_map xs]
omit [B : Bs] in
theorem insB_congr {f g : α → Int} {x : α} : ∀ {ys : List α}, f x = g x → (∀ y ∈ ys, f y = g y) → insB f x ys = insB g x ys
  | [], _, _ => rfl
  | y :: ys, h1, h2 => by
    unfold insB
    rw [h1, h2 y List.mem_cons_self, insB_congr h1 fun z hz => h2 z (List.mem_cons_of_mem _ hz)]
omit [B : Bs] in
theorem sortB_congr {f g : α → Int} : ∀ {xs : List α}, (∀ x ∈ xs, f x = g x) → sortB f xs = sortB g xs
  | [], _ => rfl
  | x :: xs, h => by
    show insB f x (sortB f xs) = insB g x (sortB g xs)
    rw [sortB_congr fun z hz => h z (List.mem_cons_of_mem _ hz)]
    exact insB_congr (h x List.mem_cons_self) fun y hy => h y (List.mem_cons_of_mem _ ((sortB_perm g xs).mem_iff.mp hy))
end
/-! ### the model's sort, where the keys are lengths -/
section
variable {prog : Program} {w : World} {A : Around} {E : Value → Shared → Prop} {s : Shared} {vs : List Value} {kz : List Int}
omit [B : Bs] in
/-- the list, its keys gone into a list beside it -/
structure KeyAt (s : Shared) (a kS : Addr) (keys : Array Value) : Prop where
  k : ∃ e, s.heap.get? kS = some (seqObj "list" keys e)
  ne : kS ≠ a
omit [B : Bs] in
/-- what the sort leaves: a holds out, all other old objects stand -/
abbrev Left (s : Shared) (a : Addr) (out : List Value) (s' : Shared) : Prop := ∃ h' tk c, s' = { s with heap := h', toks := tk } ∧ h'.get? a = some (seqObj "list" out.toArray c) ∧ s.heap.objs.size ≤ h'.objs.size ∧ ∀ b o, b ≠ a → s.heap.get? b = some o → h'.get? b = some o
omit [B : Bs] in
def pk (p : Value × Value) : Int := SrtO.iv p.1
omit [B : Bs] in
theorem lt2_eq : (SrtO.lt2 SrtO.ltIv) = ltB pk := by
  funext p q
  rfl
omit [B : Bs] in
theorem lenTail {a kS : Addr} {e0 e1 : Nat} {keys : Array Value} {st : SortSt} {P : PySem.Fin → Shared → Prop} (hk : s.heap.get? kS = some (seqObj "list" keys e0)) (ha : s.heap.get? a = some (seqObj "list" #[] e1)) (ne : kS ≠ a) (hz : keys.size ≤ 1000) (hl : (arrOf st).size ≤ 1000) (hf : failedOf st = none)
    (h : ∀ h' c, h'.get? a = some (seqObj "list" ((arrOf st).map (·.2)) c) → h'.objs.size = s.heap.objs.size → (∀ b o, b ≠ a → b ≠ kS → s.heap.get? b = some o → h'.get? b = some o) → P (.done (.ret .none)) { s with heap := h' }) :
    wpAny (model prog w) A (ksk_tail a false e1 (.ref kS) st) P E s := by
  have u1 := Heap.SameBut.update s.heap kS (Obj.mapSeq fun _ => (#[] : Array Value))
  have ha1 := (u1.2 a ne.symm).trans ha
  have u2 := Heap.SameBut.update (s.heap.update kS (Obj.mapSeq fun _ => (#[] : Array Value))) a (Obj.mapSeq fun _ => (arrOf st).map (·.2))
  obtain ⟨c, hc⟩ : ∃ c, ((s.heap.update kS (Obj.mapSeq fun _ => (#[] : Array Value))).update a (Obj.mapSeq fun _ => (arrOf st).map (·.2))).get? a = some (seqObj "list" ((arrOf st).map (·.2)) c) := ⟨_, get?_update_seq ha1 fun _ => (arrOf st).map (·.2)⟩
  unfold ksk_tail
  try dsimp only
  refine wpAny_bind (listUpdate_at hk rfl ?_ (by rw [sizeLine_eq]; omega) (Nat.zero_le _))
  refine wpAny_bind (wpAny_letGo ?_)
  refine wpAny_bind (seqEpoch_at ha1 rfl ?_)
  refine wpAny_bind (listUpdate_at ha1 rfl ?_ (Nat.zero_le _) (Nat.le_trans (Nat.le_of_eq (by show ((arrOf st).map (·.2)).size = (arrOf st).size; rw [Array.size_map])) (by rw [sizeLine_eq]; omega)))
  rw [hf]
  simp only [bne_self_eq_false, Bool.false_eq_true, if_false]
  exact wpAny_pure (h _ c hc (by rw [Heap.size_update, Heap.size_update]) fun b o b1 b2 q => (u2.2 b b1).trans ((u1.2 b b2).trans q))
omit [B : Bs] in
theorem lenEnd {a kS : Addr} {e0 e1 : Nat} {keys : Array Value} {P : PySem.Fin → Shared → Prop} (hk : s.heap.get? kS = some (seqObj "list" keys e0)) (ha : s.heap.get? a = some (seqObj "list" #[] e1)) (ne : kS ≠ a) (hi : IntsAre keys.toList kz) (hl : kz.length = vs.length) (hz : vs.length ≤ 1000)
    (h : ∀ h' c, h'.get? a = some (seqObj "list" ((sortB pk (keys.toList.zip vs)).map (·.2)).toArray c) → h'.objs.size = s.heap.objs.size → (∀ b o, b ≠ a → b ≠ kS → s.heap.get? b = some o → h'.get? b = some o) → P (.done (.ret .none)) { s with heap := h' }) :
    wpAny (model prog w) A (ksk_end a false vs.toArray e1 (.ref kS) keys) P E s := by
  have hsz : keys.size = vs.length := by
    have h1 := hi.length
    rw [Array.length_toList] at h1
    omega
  have hzs : (keys.zip vs.toArray).size = vs.length := by rw [Array.size_zip, hsz, List.size_toArray, Nat.min_self]
  have hzl : (keys.zip vs.toArray).toList = keys.toList.zip vs := ksk_zip keys vs
  have go : ∀ st : SortSt, SrtO.Srtd (ltB pk) (arrOf st).toList → SrtO.Stb (ltB pk) (arrOf st).toList (keys.zip vs.toArray).toList → failedOf st = none → wpAny (model prog w) A (ksk_tail a false e1 (.ref kS) st) P E s := by
    intro st s1 s2 s3
    have len : (arrOf st).size = vs.length := by
      have := s2.perm.length_eq
      rw [Array.length_toList, Array.length_toList, hzs] at this
      exact this
    have e := sortB_uniq s1 s2
    rw [hzl] at e
    refine lenTail hk ha ne (by omega) (by omega) s3 fun h' c q1 q2 q3 => h h' c ?_ q2 q3
    rw [q1]
    congr 2
    rw [← Array.toArray_toList (xs := (arrOf st).map (·.2)), Array.toList_map, e]
  unfold ksk_end
  try dsimp only
  rw [if_neg Bool.false_ne_true]
  by_cases h2 : vs.toArray.size < 2
  · rw [if_pos h2, if_pos h2]
    refine wpAny_bind (wpAny_pure ?_)
    rw [StateT.run_pure]
    refine wpAny_bind (wpAny_pure ?_)
    try dsimp only
    refine go (SortSt.mk' general' (keys.zip vs.toArray) #[] 7 none) ?_ (SrtO.Stb.refl _) rfl
    have hlen : (keys.zip vs.toArray).toList.length < 2 := by
      rw [Array.length_toList, hzs]
      simpa using h2
    show SrtO.Srtd (ltB pk) (keys.zip vs.toArray).toList
    cases q : (keys.zip vs.toArray).toList with
    | nil => exact List.Pairwise.nil
    | cons x r =>
      cases r with
      | nil => exact List.pairwise_singleton _ _
      | cons y r =>
        rw [q, List.length_cons, List.length_cons] at hlen
        exact absurd hlen (by omega)
  · rw [if_neg h2, if_neg h2]
    rw [List.size_toArray] at h2
    rw [ksk_kind hi (by rw [hsz]; omega)]
    refine wpAny_bind (wpAny_pure ?_)
    have hall : SrtO.AllL (fun p : Keyed => p.1 ∈ keys.toList) (keys.zip vs.toArray).toList := fun p hm => by
      rw [hzl] at hm
      exact (List.of_mem_zip hm).1
    refine wpAny_bind (wpAny_mono (SrtO.wpS_sortO (st0 := SortSt.mk' oneType' (keys.zip vs.toArray) #[] 7 none)
      (Q := fun _ st' => SrtO.Srtd (SrtO.lt2 SrtO.ltIv) (arrOf st').toList ∧ SrtO.Stb (SrtO.lt2 SrtO.ltIv) (arrOf st').toList (keys.zip vs.toArray).toList ∧ failedOf st' = none) (SrtO.swo2 SrtO.swo_int) (SrtO.int_cmp hi) rfl hall rfl rfl fun st' a1 a2 a3 => ⟨a1, a2, a3⟩) ?_ fun _ _ e => e)
    rintro ⟨⟨⟩, st'⟩ s' ⟨rfl, q1, q2, q3⟩
    try dsimp only
    rw [lt2_eq] at q1 q2
    exact go st' q1 q2 q3
omit [B : Bs] in
/-- tuples of known lengths -/
def TupLen (h : Heap) : List Value → List Int → Prop := Paired fun v k => ∃ a items, v = .ref a ∧ IsTup h a items ∧ (items.size : Int) = k ∧ items.size ≤ 1000000
omit [B : Bs] in
theorem TupLen.keep {h h' : Heap} (k : ∀ b o, h.get? b = some o → o.cls = .type "tuple" → h'.get? b = some o) : ∀ {vs : List Value} {kz : List Int}, TupLen h vs kz → TupLen h' vs kz
  | _, _, .nil => .nil
  | _, _, .cons ⟨a, items, e, ⟨o, ho, hc, hd⟩, r⟩ t => .cons ⟨a, items, e, ⟨o, k a o ho hc, hc, hd⟩, r⟩ (TupLen.keep k t)
omit [B : Bs] in
theorem TupLen.length : ∀ {vs : List Value} {kz : List Int} {h : Heap}, TupLen h vs kz → kz.length = vs.length
  | _, _, _, .nil => rfl
  | _, _, _, .cons _ t => by rw [List.length_cons, List.length_cons, t.length]
omit [B : Bs] in
theorem TupLen.at : ∀ {vs : List Value} {kz : List Int} {h : Heap} {j : Nat} {v : Value} {k : Int}, TupLen h vs kz → vs[j]? = some v → kz[j]? = some k → ∃ a items, v = .ref a ∧ IsTup h a items ∧ (items.size : Int) = k ∧ items.size ≤ 1000000
  | _, _, _, 0, v, k, .cons r t, h1, h2 => by
    cases h1; cases h2
    exact r
  | _, _, _, j + 1, v, k, .cons r t, h1, h2 => TupLen.at (j := j) t (by simpa using h1) (by simpa using h2)
omit [B : Bs] in
theorem lenRest {a kS : Addr} {e1 : Nat} {P : PySem.Fin → Shared → Prop} (hk : s.heap.get? kS = some (seqObj "list" #[] 0)) (ha : s.heap.get? a = some (seqObj "list" #[] e1)) (ne : kS ≠ a) (ht : TupLen s.heap vs kz) (hz : vs.length ≤ 1000)
    (h : ∀ h' tk c keys, IntsAre keys kz → h'.get? a = some (seqObj "list" ((sortB pk (keys.zip vs)).map (·.2)).toArray c) → h'.objs.size = s.heap.objs.size → (∀ b o, b ≠ a → b ≠ kS → s.heap.get? b = some o → h'.get? b = some o) → P (.done (.ret .none)) { s with heap := h', toks := tk }) :
    wpAny (model prog w) A (ksk_rest a (.builtin "len") false vs.toArray e1 (.ref kS)) P E s := by
  have hlen := ht.length
  unfold ksk_rest
  refine wpAny_bind (wpAny_rule ?_)
  first
    | rw [List.forIn_toArray]
    | (rw [← Array.forIn_toList]; simp only [List.toList_toArray])
  refine wpAny_bind (ksk_fold (fun i s' => ∃ h' tk kA e, s' = { s with heap := h', toks := tk } ∧ h'.get? kS = some (seqObj "list" kA e) ∧ h'.objs.size = s.heap.objs.size ∧ (∀ b o, b ≠ kS → s.heap.get? b = some o → h'.get? b = some o) ∧ IntsAre kA.toList (kz.take i)) vs 0 s
    ⟨s.heap, s.toks, #[], 0, rfl, hk, rfl, fun _ _ _ q => q, by simpa using IntsAre.nil⟩ ?step ?done)
  case step =>
    rintro j x s' hx ⟨h', tk, kA, e, rfl, q1, q2, q3, q4⟩
    simp only [Nat.zero_add] at q4 ⊢
    have hj : j < vs.length := (List.getElem?_eq_some_iff.mp hx).1
    obtain ⟨k, hkj⟩ : ∃ k, kz[j]? = some k := ⟨_, List.getElem?_eq_getElem (by omega)⟩
    have hzA : kA.size ≤ vs.length := by
      have h1 := q4.length
      rw [Array.length_toList, List.length_take] at h1
      omega
    obtain ⟨t, items, rfl, ⟨o, ho, hc, hd⟩, hsz, hsm⟩ := ht.at hx hkj
    have nt : t ≠ kS := fun z => by
      subst z
      rw [hk] at ho
      cases ho
      simp [seqObj] at hc
    have it : IsTup h' t items := ⟨o, q3 t o nt ho, hc, hd⟩
    refine wpAny_bind (wpAny_attempt (len_tuple (s := { s with heap := h', toks := tk }) it (by omega) ?_))
    try dsimp only
    have ek : kz.take (j + 1) = kz.take j ++ [k] := by rw [List.take_add_one, hkj]; simp
    have ea : (kA.push (Value.int items.size (tk + 1))).toList = kA.toList ++ [Value.int items.size (tk + 1)] := by simp
    have u1 := Heap.SameBut.update h' kS (Obj.mapSeq (·.push (Value.int items.size (tk + 1))))
    obtain ⟨c2, hc2⟩ : ∃ c2, (h'.update kS (Obj.mapSeq (·.push (Value.int items.size (tk + 1))))).get? kS = some (seqObj "list" (kA.push (Value.int items.size (tk + 1))) c2) := ⟨_, get?_update_seq q1 (·.push (Value.int items.size (tk + 1)))⟩
    refine wpAny_bind (listUpdate_at q1 rfl ?_ (by rw [sizeLine_eq]; omega) (Nat.le_trans (Nat.le_of_eq (Array.size_push ..)) (by rw [sizeLine_eq]; omega)))
    refine wpAny_pure ⟨rfl, _, _, _, c2, rfl, hc2, by rw [Heap.size_update]; exact q2, fun b o hb q => (u1.2 b hb).trans (q3 b o hb q), ?_⟩
    rw [ea, ek, hsz]
    exact ksk_snoc q4
  case done =>
    rintro s' ⟨h', tk, kA, e, rfl, q1, q2, q3, q4⟩
    have q5 : IntsAre kA.toList kz := by
      have e3 : kz.take (0 + vs.length) = kz := List.take_of_length_le (by omega)
      rw [e3] at q4
      exact q4
    try dsimp only
    refine wpAny_bind (listItems_at q1 rfl ?_)
    exact lenEnd (s := { s with heap := h', toks := tk }) q1 (q3 a _ ne.symm ha) ne q5 hlen hz fun h3 c z1 z2 z3 => h h3 tk c kA.toList q5 z1 (z2.trans q2) fun b o b1 b2 q => z3 b o b1 b2 (q3 b o b2 q)
omit [B : Bs] in
theorem lenSort {a : Addr} {n : Nat} {P : PySem.Fin → Shared → Prop} (ho : s.heap.get? a = some (seqObj "list" vs.toArray n)) (ht : TupLen s.heap vs kz) (hz : vs.length ≤ 1000)
    (h : ∀ h' tk c keys, IntsAre keys kz → h'.get? a = some (seqObj "list" ((sortB pk (keys.zip vs)).map (·.2)).toArray c) → (∀ b o, b ≠ a → s.heap.get? b = some o → h'.get? b = some o) → P (.done (.ret .none)) { s with heap := h', toks := tk }) :
    wpAny (model prog w) A (ksk_tree a (.builtin "len") false) P E s := by
  have la : a < s.heap.objs.size := Heap.lt_size ho
  have u1 := Heap.SameBut.update s.heap a (Obj.mapSeq fun _ => (#[] : Array Value))
  obtain ⟨e1, ho1⟩ : ∃ e1, (s.heap.update a (Obj.mapSeq fun _ => (#[] : Array Value))).get? a = some (seqObj "list" #[] e1) := ⟨_, get?_update_seq ho fun _ => #[]⟩
  have hkS : ((s.heap.update a (Obj.mapSeq fun _ => (#[] : Array Value))).push (seqObj "tuple" vs.toArray 0)).objs.size = s.heap.objs.size + 1 := by rw [size_push', Heap.size_update]
  have old : ∀ b o, b ≠ a → s.heap.get? b = some o → (((s.heap.update a (Obj.mapSeq fun _ => (#[] : Array Value))).push (seqObj "tuple" vs.toArray 0)).push (seqObj "list" #[] 0)).get? b = some o := fun b o hb q => Heap.get?_push_of_some _ (Heap.get?_push_of_some _ ((u1.2 b hb).trans q))
  unfold ksk_tree
  refine wpAny_bind (listItems_at ho rfl ?_)
  refine wpAny_bind (listUpdate_at ho rfl ?_ (by rw [List.size_toArray, sizeLine_eq]; omega) (Nat.zero_le _))
  refine wpAny_bind (seqEpoch_at ho1 rfl ?_)
  refine wpAny_bind (wpAny_newTuple ?_ (by show vs.length ≤ _; rw [sizeLine_eq]; omega))
  refine wpAny_bind (wpAny_newList ?_ (Nat.zero_le _))
  refine wpAny_holding ?_
  refine lenRest (s := { s with heap := ((s.heap.update a (Obj.mapSeq fun _ => (#[] : Array Value))).push (seqObj "tuple" vs.toArray 0)).push (seqObj "list" #[] 0) }) (kS := ((s.heap.update a (Obj.mapSeq fun _ => (#[] : Array Value))).push (seqObj "tuple" vs.toArray 0)).objs.size)
    (Heap.get?_push_size _ rfl) (Heap.get?_push_of_some _ (Heap.get?_push_of_some _ ho1)) (by rw [hkS]; exact Nat.ne_of_gt (Nat.lt_succ_of_lt la)) (ht.keep fun b o q hc => old b o (fun z => ?_) q) hz fun h' tk c keys z0 z1 z2 z3 => h h' tk c keys z0 z1 fun b o b1 q => z3 b o b1 (by rw [hkS]; exact Nat.ne_of_lt (Nat.lt_succ_of_lt (Heap.lt_size q))) (old b o b1 q)
  subst z
  rw [ho] at q
  cases q
  simp [seqObj] at hc
omit [B : Bs] in
/-- sorted(l, key=len) -/
theorem lenSorted {l : Addr} {Q : Value → Shared → Prop} (hl : s.heap.IsList l vs.toArray) (ht : TupLen s.heap vs kz) (hz : vs.length ≤ 1000)
    (h : ∀ h' tk c keys, IntsAre keys kz → h'.get? (s.heap.objs.size + 1) = some (seqObj "list" ((sortB pk (keys.zip vs)).map (·.2)).toArray c) → (∀ b o, s.heap.get? b = some o → h'.get? b = some o) → Q (.ref (s.heap.objs.size + 1)) { s with heap := h', toks := tk }) :
    wpAny (model prog w) A (call (.builtin "sorted") [.ref l] [(Str.ofString "key", .builtin "len")]) Q E s := by
  refine call_function_entry_kw kind_sorted plain_sorted entry_sorted (ksk_s1 _ _) ?_
  unfold Builtin.«sorted»
  refine wpAny_bind (m := checkCount "sorted" 1 1 _) (wpAny_pure ?_)
  refine wpAny_bind (collect_list hl ?_ (by rw [sizeLine_eq]; omega))
  refine wpAny_bind (wpAny_newList ?_ (by rw [sizeLine_eq]; omega))
  have hsz : ((s.heap.push (seqObj "list" #[] 0)).update s.heap.objs.size (Obj.mapSeq (· ++ vs.toArray))).objs.size = s.heap.objs.size + 1 := by
    rw [Heap.size_update, size_push']
  have hoL : (((s.heap.push (seqObj "list" #[] 0)).update s.heap.objs.size (Obj.mapSeq (· ++ vs.toArray))).push (seqObj "list" vs.toArray 0)).get? (s.heap.objs.size + 1) = some (seqObj "list" vs.toArray 0) := by
    rw [← hsz]; exact Heap.get?_push_size _ rfl
  have old : ∀ b o, s.heap.get? b = some o → b ≠ s.heap.objs.size + 1 ∧ (((s.heap.push (seqObj "list" #[] 0)).update s.heap.objs.size (Obj.mapSeq (· ++ vs.toArray))).push (seqObj "list" vs.toArray 0)).get? b = some o := fun b o q => by
    have lt : b < s.heap.objs.size := Heap.lt_size q
    refine ⟨Nat.ne_of_lt (Nat.lt_succ_of_lt lt), Heap.get?_push_of_some _ ?_⟩
    rw [Heap.get?_update_ne _ _ _ _ (Nat.ne_of_lt lt)]
    exact Heap.get?_push_of_some _ q
  show wpAny _ _ _ _ _ { s with heap := ((s.heap.push (seqObj "list" #[] 0)).update s.heap.objs.size (Obj.mapSeq (· ++ vs.toArray))).push (seqObj "list" vs.toArray 0) }
  rw [hsz]
  refine wpAny_bind (wpAny_holding (wpAny_call_entry_kw slot_list_sort ⟨_, hoL, rfl⟩ entry_list_sort ?body (ksk_l1 _ _)))
  case body =>
    rw [ksk_t4]
    exact lenSort (s := { s with heap := ((s.heap.push (seqObj "list" #[] 0)).update s.heap.objs.size (Obj.mapSeq (· ++ vs.toArray))).push (seqObj "list" vs.toArray 0) }) hoL (ht.keep fun b o q _ => (old b o q).2) hz fun h' tk c keys z0 z1 z2 => ⟨_, rfl, wpAny_pure ⟨_, rfl, h h' tk c keys z0 z1 fun b o q => z2 b o (old b o q).1 (old b o q).2⟩⟩
end
end PL

set_option Elab.async false
set_option linter.all false
set_option maxRecDepth 100000
set_option maxHeartbeats 4000000
/-! sorted(xs, key=len), the expression -/
namespace PL
open PySem PySem.Spec PyProof.Rows L2
variable [B : Bs]
section
variable {α β : Type} {R : α → β → Prop} {f : α → Int} {g : β → Int}
omit [B : Bs] in
theorem insB_rel (h : ∀ a b, R a b → f a = g b) {x : α} {y : β} (r : R x y) : ∀ {as : List α} {bs : List β}, Paired R as bs → Paired R (insB f x as) (insB g y bs)
  | _, _, .nil => .cons r .nil
  | _, _, .cons (a := a) (b := b) r1 t => by
    unfold insB
    rw [h x y r, h a b r1]
    split
    · exact .cons r (.cons r1 t)
    · exact .cons r1 (insB_rel h r t)
omit [B : Bs] in
theorem sortB_rel (h : ∀ a b, R a b → f a = g b) : ∀ {as : List α} {bs : List β}, Paired R as bs → Paired R (sortB f as) (sortB g bs)
  | _, _, .nil => .nil
  | _, _, .cons r t => insB_rel h r (sortB_rel h t)
end
omit [B : Bs] in
theorem paired_map {α β γ δ : Type} {R : α → β → Prop} {S : γ → δ → Prop} {u : α → γ} {v : β → δ} (h : ∀ a b, R a b → S (u a) (v b)) : ∀ {as : List α} {bs : List β}, Paired R as bs → Paired S (as.map u) (bs.map v)
  | _, _, .nil => .nil
  | _, _, .cons r t => .cons (h _ _ r) (paired_map h t)
omit [B : Bs] in
/-- xs are tuples of the lengths ls -/
def LensV (K : PySem.W.Frag) (H : Hp) : List V → List Int → Prop := Paired fun x k => ∃ t ys, x = .ref t ∧ SqT K H t ys ∧ (ys.length : Int) = k ∧ ys.length ≤ 1000000
omit [B : Bs] in
def sortV (ls : List Int) (xs : List V) : List V := (sortB Prod.fst (ls.zip xs)).map Prod.snd
omit [B : Bs] in
def tSL (K : PySem.W.Frag) (ta : TA) : TE := fun σ H Q => ta σ H fun vs H1 => ∃ a xs ls, vs = [.ref a] ∧ SqL K H1 a xs ∧ xs.length ≤ 1000 ∧ LensV K H1 xs ls ∧ ∀ p, H1 p = none → Q (.ref p) (upd H1 p (.lst (sortV ls xs)))
omit [B : Bs] in
theorem zipR {ls : List Int} : ∀ {keys : List Value} {xs : List V} {us : List Value}, IntsAre keys ls → Vals xs us → Paired (fun (p : Int × V) (q : Value × Value) => p.1 = SrtO.iv q.1 ∧ RelV p.2 q.2) (ls.zip xs) (keys.zip us)
  | _, _, _, .nil, _ => by
    rw [List.zip_nil_left, List.zip_nil_left]
    exact .nil
  | _, _, _, .cons n t r, .nil => by
    rw [List.zip_nil_right, List.zip_nil_right]
    exact .nil
  | _, _, _, .cons n t r, .cons r1 t1 => by
    rw [List.zip_cons_cons, List.zip_cons_cons]
    exact .cons ⟨rfl, r1⟩ (zipR r t1)
omit [B : Bs] in
theorem lensR {X : Cx} {pins : List (Addr × Obj)} {σ : L2.St} {H : Hp} {s : Shared} (I : Inv X pins σ H s) : ∀ {xs : List V} {us : List Value} {ls : List Int}, Vals xs us → LensV X.K H xs ls → TupLen s.heap us ls
  | _, _, _, .nil, .nil => .nil
  | _, _, _, .cons r t, .cons ⟨a, ys, e, h1, h2, h3⟩ l => by
    subst e
    cases r
    obtain ⟨its, rv, p, _⟩ := I.tuple h1
    have hl := rv.length
    exact .cons ⟨a, its.toArray, rfl, p, by rw [← h2, List.size_toArray, hl], by rw [List.size_toArray]; omega⟩ (lensR I t l)
omit [B : Bs] in
theorem sortV_len {ls : List Int} {xs : List V} : (sortV ls xs).length ≤ xs.length := by
  unfold sortV
  rw [List.length_map, (sortB_perm _ _).length_eq, List.length_zip]
  exact Nat.min_le_right _ _
section
variable {X : Cx} {e : Expr} {p p2 kp pos : Pos} {ta : TA}
omit [B : Bs] in
theorem pe_sortLen (hg : Gl X "sorted") (hm : X.mg "sorted" = none) (hg2 : Gl X "len") (hm2 : X.mg "len" = none) (hs : isStar e = false) (ha : PA X [e] ta) :
    PE X (.Call (.Name "sorted" p) [e] [⟨some "key", .Name "len" p2, kp⟩] pos) (tSL X.K ta) := by
  refine ⟨fun pins s σ H Q I h => ?_⟩
  refine wpAny_Call_Name_kw (ld_blt I hg hm (u := .builtin "sorted") (by kernel_rfl) ?_ (by decide) (by decide))
  have st : starEach [e] X.env = [(false, eval e X.env)] := starEach_one hs
  refine PyProof.Rows.callWith_kw (thn (ha.run pos pins s σ H _ I h) fun us s1 ⟨vs, H1, I1, r1, q1⟩ => ?_) (by rw [st]; rfl) (by rw [st]; rfl) rfl rfl
  obtain ⟨a, xs, ls, e1, hl, hz, hls, q⟩ := q1
  subst e1
  obtain rfl := Vals.ref1 r1
  show wpAny _ _ (evalAll [do let v ← eval (.Name "len" p2) X.env; standAt pos; pure v]) _ _ s1
  refine wpAny_evalAll_cons (wpAny_bind (ld_blt I1 hg2 hm2 (u := .builtin "len") (by kernel_rfl) (wpAny_bind (wpAny_standAt (wpAny_pure (wpAny_evalAll_nil ?_)))) (by decide) (by decide)))
  show wpAny _ _ (call (.builtin "sorted") [.ref a] [(Str.ofString "key", .builtin "len")]) _ _ s1
  obtain ⟨its, rv, pl, _⟩ := I1.list hl
  have hlen := rv.length
  refine lenSorted pl.isList (lensR I1 rv hls) (by omega) fun h' tk c keys k1 z1 z2 => ?_
  have rel := paired_map (S := RelV) (u := Prod.snd) (v := Prod.snd) (fun _ _ r => r.2) (sortB_rel (f := Prod.fst) (g := pk) (fun _ _ r => r.1) (zipR k1 rv))
  exact ⟨.ref _, upd H1 (s1.heap.objs.size + 1) (.lst (sortV ls xs)), I1.laid (t' := tk) z2 (Nat.le_succ _) ⟨Nat.le_trans sortV_len (by rw [sizeLine_eq]; omega), _, c, rel, z1⟩, rfl, q _ (I1.hok.fresh (Nat.le_succ _))⟩
end
/-! ### the form -/
omit [B : Bs] in
def tupLens : List D → Option (List Int)
  | [] => some []
  | .tup xs :: r => (match tupLens r with
    | some ls => if xs.length ≤ 1000000 then some (.ofNat xs.length :: ls) else none
    | none => none)
  | _ => none
omit [B : Bs] in
def eSortLen (b : Av) : Ev := fun ρ S => (b ρ S).bind fun xs S1 => match xs with
  | [.lst ds] => (match tupLens ds with
    | some ls => if ds.length ≤ 1000 then .ok (.lst ((sortB Prod.fst (ls.zip ds)).map Prod.snd)) S1 else .no
    | none => .no)
  | _ => .no
omit [B : Bs] in
theorem lensD {K : PySem.W.Frag} {as : List Addr} {H0 H : Hp} (ex : Ex H0 H) : ∀ {ds : List D} {vs : List V} {ls : List Int}, RpA K as H0 vs ds → tupLens ds = some ls → LensV K H vs ls
  | [], _, _, .nil, h => by cases h; exact .nil
  | d :: ds, _, ls, .cons r t, h => by
    unfold tupLens at h
    split at h
    · cases ‹_ = []›
    · rename_i heq
      cases heq
      split at h
      · rename_i ls' h'
        split at h
        · rename_i hz
          cases h
          cases r with
          | tup hh pp => exact .cons ⟨_, _, rfl, SqT.of (ex _ _ hh), by rw [pp.length]; rfl, by rw [pp.length]; exact hz⟩ (lensD ex t h')
        · cases h
      · cases h
    · cases h
omit [B : Bs] in
theorem zipD {K : PySem.W.Frag} {as : List Addr} {H0 : Hp} : ∀ {ls : List Int} {vs : List V} {ds : List D}, RpA K as H0 vs ds → Paired (fun (p : Int × V) (q : Int × D) => p.1 = q.1 ∧ Rp K as H0 p.2 q.2) (ls.zip vs) (ls.zip ds)
  | [], _, _, _ => by
    rw [List.zip_nil_left, List.zip_nil_left]
    exact .nil
  | _ :: _, _, _, .nil => by
    rw [List.zip_nil_right, List.zip_nil_right]
    exact .nil
  | l :: ls, _, _, .cons r t => by
    rw [List.zip_cons_cons, List.zip_cons_cons]
    exact .cons ⟨rfl, r⟩ (zipD t)
omit [B : Bs] in
theorem rpa_of {K : PySem.W.Frag} {as : List Addr} {H0 : Hp} : ∀ {vs : List V} {ds : List D}, Paired (fun v d => Rp K as H0 v d) vs ds → RpA K as H0 vs ds
  | _, _, .nil => .nil
  | _, _, .cons r t => .cons r (rpa_of t)
theorem says_sortLen {K : PySem.W.Frag} {tb : TA} {b : Av} (hb : SaysA K tb b) : SaysE K (tSL K tb) (eSortLen b) := by
  intro as H0 H ρ S σ Q r e h
  refine hb as H0 H ρ S σ _ r e (R.sat_mono (R.sat_bind h) (fun xs S1 h1 => ?_) fun _ _ _ _ z => z)
  intro vs as1 H01 H1 n1 r1 p1
  split at h1
  · rename_i ds
    split at h1
    · rename_i ls hls
      split at h1
      · rename_i hz
        cases p1 with
        | cons c1 p2 =>
          cases p2
          cases c1 with
          | lst hh pp =>
            rename_i a ws
            have hq : QE K as H0 H Q (.lst ((sortB Prod.fst (ls.zip ds)).map Prod.snd)) S1 := h1
            have rel := rpa_of (paired_map (u := Prod.snd) (v := Prod.snd) (fun _ _ r => r.2) (sortB_rel (f := Prod.fst) (g := Prod.fst) (fun _ _ r => r.1) (zipD (ls := ls) pp)))
            exact ⟨a, ws, ls, rfl, SqL.of (r1.ex _ _ hh), by rw [pp.length]; exact hz, lensD r1.ex pp hls, qe_lst r1 rel (QE.next n1 hq)⟩
      · exact h1.elim
    · exact h1.elim
  · exact h1.elim
section
variable {g : G} {og sc : Scope}
theorem se_sortLen {e : Expr} {b : Av} {p p2 kp pos : Pos} (hs : isStar e = false) (h1 : NmN g sc "sorted") (h2 : NmN g sc "len") (hb : SA g og sc [e] b) : SE g og sc (.Call (.Name "sorted" p) [e] [⟨some "key", .Name "len" p2, kp⟩] pos) (eSortLen b) := by
  obtain ⟨tb, pb, sb⟩ := hb
  exact ⟨tSL g.K tb, fun X c => by rw [← c.K]; exact pe_sortLen (gl_of c h1.2) (by rw [c.mg]; exact h1.1) (gl_of c h2.2) (by rw [c.mg]; exact h2.1) hs (pb X c).1, says_sortLen sb⟩
end
end PL

set_option Elab.async false
set_option linter.all false
set_option maxRecDepth 100000
set_option maxHeartbeats 4000000
/-! from the text to the forms: a function of the text, and its soundness -/
namespace PL
open PySem PySem.Spec PyProof.Rows L2
variable [B : Bs]

/-! ### small parts -/
omit [B : Bs] in
def gd {α : Type} (b : Bool) (x : Option α) : Option α := match b with
  | true => x
  | false => none
omit [B : Bs] in
def ap1 {α β : Type} (f : α → β) (x : Option α) : Option β := match x with
  | some a => some (f a)
  | none => none
omit [B : Bs] in
def ap2 {α β γ : Type} (f : α → β → γ) (x : Option α) (y : Option β) : Option γ := match x with
  | some a => (match y with
    | some b => some (f a b)
    | none => none)
  | none => none
omit [B : Bs] in
def ap3 {α β γ δ : Type} (f : α → β → γ → δ) (x : Option α) (y : Option β) (z : Option γ) : Option δ := match x with
  | some a => ap2 (f a) y z
  | none => none
omit [B : Bs] in
def bn {α β : Type} (x : Option α) (f : α → Option β) : Option β := match x with
  | some a => f a
  | none => none
omit [B : Bs] in
theorem gd_some {α : Type} {b : Bool} {x : Option α} {y : α} (h : gd b x = some y) : b = true ∧ x = some y := by
  cases b with
  | true => exact ⟨rfl, h⟩
  | false => cases h
omit [B : Bs] in
theorem ap1_some {α β : Type} {f : α → β} {x : Option α} {y : β} (h : ap1 f x = some y) : ∃ a, x = some a ∧ f a = y := by
  cases x with
  | none => cases h
  | some a => exact ⟨a, rfl, Option.some.inj h⟩
omit [B : Bs] in
theorem ap2_some {α β γ : Type} {f : α → β → γ} {x : Option α} {y : Option β} {z : γ} (h : ap2 f x y = some z) : ∃ a b, x = some a ∧ y = some b ∧ f a b = z := by
  cases x with
  | none => cases h
  | some a =>
    cases y with
    | none => cases h
    | some b => exact ⟨a, b, rfl, rfl, Option.some.inj h⟩
omit [B : Bs] in
theorem ap3_some {α β γ δ : Type} {f : α → β → γ → δ} {x : Option α} {y : Option β} {z : Option γ} {w : δ} (h : ap3 f x y z = some w) : ∃ a b c, x = some a ∧ y = some b ∧ z = some c ∧ f a b c = w := by
  cases x with
  | none => cases h
  | some a =>
    obtain ⟨b, c, h1, h2, h3⟩ := ap2_some h
    exact ⟨a, b, c, rfl, h1, h2, h3⟩
omit [B : Bs] in
theorem bn_some {α β : Type} {x : Option α} {f : α → Option β} {y : β} (h : bn x f = some y) : ∃ a, x = some a ∧ f a = some y := by
  cases x with
  | none => cases h
  | some a => exact ⟨a, rfl, h⟩
omit [B : Bs] in
/-- texts by their codes -/
def eqN : List Nat → List Nat → Bool
  | [], [] => true
  | a :: as, b :: bs => (match Nat.beq a b with
    | true => eqN as bs
    | false => false)
  | _, _ => false
omit [B : Bs] in
theorem eqN_ok : ∀ {as bs : List Nat}, eqN as bs = true → as = bs
  | [], [], _ => rfl
  | [], _ :: _, h => by cases h
  | _ :: _, [], h => by cases h
  | a :: as, b :: bs, h => by
    unfold eqN at h
    split at h
    · rename_i q
      rw [Nat.eq_of_beq_eq_true q, eqN_ok h]
    · cases h
omit [B : Bs] in
def eqS (x y : Str) : Bool := eqN x.cps.toList y.cps.toList
omit [B : Bs] in
theorem eqS_ok {x y : Str} (h : eqS x y = true) : x = y := by
  cases x; cases y
  unfold eqS at h
  congr 1
  exact Array.toList_inj.mp (eqN_ok h)
omit [B : Bs] in
def lk {α : Type} : List (Str × α) → Str → Option α
  | [], _ => none
  | (y, a) :: r, x => (match eqS x y with
    | true => some a
    | false => lk r x)
omit [B : Bs] in
theorem lk_mem {α : Type} : ∀ {l : List (Str × α)} {x : Str} {a : α}, lk l x = some a → (x, a) ∈ l
  | [], _, _, h => by cases h
  | (y, b) :: r, x, a, h => by
    unfold lk at h
    split at h
    · rename_i q
      have := eqS_ok q
      subst this
      cases h
      exact List.mem_cons_self
    · exact List.mem_cons_of_mem _ (lk_mem h)
omit [B : Bs] in
/-- the slot of a name -/
def ixS : List Str → Str → Nat → Option Nat
  | [], _, _ => none
  | y :: r, x, i => (match eqS x y with
    | true => some i
    | false => ixS r x (i + 1))
omit [B : Bs] in
theorem ixS_ok : ∀ {l : List Str} {x : Str} {i j : Nat}, ixS l x i = some j → i ≤ j ∧ l[j - i]? = some x
  | [], _, _, _, h => by cases h
  | y :: r, x, i, j, h => by
    unfold ixS at h
    split at h
    · rename_i q
      have := eqS_ok q
      subst this
      cases h
      exact ⟨Nat.le_refl _, by simp⟩
    · obtain ⟨h1, h2⟩ := ixS_ok h
      have e : j - i = (j - (i + 1)) + 1 := by omega
      exact ⟨by omega, by rw [e, List.getElem?_cons_succ]; exact h2⟩
omit [B : Bs] in
/-- a scope's kind of a name -/
def knd (sc : Scope) (x : Str) : Option NameKind := lk sc.names x
omit [B : Bs] in
theorem beq_of_eqS {x y : Str} : (x == y) = eqS x y := by
  cases h : eqS x y with
  | true => rw [eqS_ok h]; simp
  | false =>
    refine beq_eq_false_iff_ne.mpr fun e => ?_
    subst e
    have : ∀ l : List Nat, eqN l l = true := fun l => by
      induction l with
      | nil => rfl
      | cons a as ih =>
        show (match Nat.beq a a with | true => eqN as as | false => false) = true
        rw [show Nat.beq a a = true from Nat.beq_refl a]
        exact ih
    rw [show eqS x x = true from this _] at h
    cases h
omit [B : Bs] in
theorem lk_lookup {α : Type} : ∀ {l : List (Str × α)} {x : Str}, l.lookup x = lk l x
  | [], _ => rfl
  | (y, a) :: r, x => by
    rw [List.lookup_cons, beq_of_eqS]
    show _ = (match eqS x y with | true => some a | false => lk r x)
    cases eqS x y with
    | true => rfl
    | false => exact lk_lookup
omit [B : Bs] in
theorem knd_eq {sc : Scope} {x : Str} : sc.names.lookup x = knd sc x := lk_lookup
omit [B : Bs] in
def visK : Option NameKind → Bool
  | some .local => true
  | some .cell => true
  | some .free => true
  | _ => false
omit [B : Bs] in
def stK : Option NameKind → Bool
  | some .local => true
  | some .cell => true
  | _ => false
omit [B : Bs] in
def glK : Option NameKind → Bool
  | some .globalImplicit => true
  | _ => false
omit [B : Bs] in
theorem vis_eq {sc : Scope} {x : Str} (h : visK (knd sc x) = true) : visB sc x = true := by
  unfold visB
  rw [knd_eq]
  exact h
omit [B : Bs] in
theorem st_eq {sc : Scope} {x : Str} (h : stK (knd sc x) = true) : stB sc x = true := by
  unfold stB
  rw [knd_eq]
  exact h
omit [B : Bs] in
theorem gl_eq {sc : Scope} {x : Str} (h : glK (knd sc x) = true) : sc.names.lookup x = some .globalImplicit := by
  rw [knd_eq]
  unfold glK at h
  split at h
  · rename_i q; exact q
  · cases h
omit [B : Bs] in
theorem lc_eq {sc : Scope} {x : Str} (h : (match knd sc x with | some .local => true | _ => false) = true) : sc.names.lookup x = some .local := by
  rw [knd_eq]
  split at h
  · rename_i q; exact q
  · cases h
omit [B : Bs] in
def isLoc (sc : Scope) (x : Str) : Bool := match knd sc x with
  | some .local => true
  | _ => false

omit [B : Bs] in
/-- places of the text: line, column, end column -/
abbrev Places := List (Nat × Nat × Nat)
omit [B : Bs] in
def inP : Places → Pos → Bool
  | [], _ => false
  | (l, c, e) :: r, p => (match Nat.beq l p.line && (Nat.beq c p.col && Nat.beq e p.endCol) with
    | true => true
    | false => inP r p)
omit [B : Bs] in
structure Cf where
  N : List Str
  fns : List (Str × Nat × Fn)
  bls : List (Str × Bl)
  tys : List (Str × Tn)
  glo : List (Str × Int)
  news : Places
  frz : Places
  fuel : Nat
  /-- own exception classes that the body raises -/
  exs : List Str
  /-- own classes: their methods, properties, plain fields, makings, classmethods, names -/
  mts : List (Str × Str × Fn)
  props : List (Str × Str × Fn)
  flds : List (Str × Str)
  mks : List (Str × Fn)
  cms : List (Str × Str × Fn)
  cls : List Str
  /-- texts by name -/
  gls : List (Str × Str)
  /-- generator methods -/
  gens : List (Str × Str × (List D → Store → R (List D)))
omit [B : Bs] in
/-- an own exception class without an __init__ -/
structure ExF (K : PySem.W.Frag) (mg : Str → Option Value) (cls : Str → Option Addr) (x : Str) : Prop where
  ex : ∃ (C : Addr) (bmB : List Value) (Bn newId initId : String), ExcBaseFacts Bn newId initId bmB ∧ PySem.W.excIn K C bmB newId = true ∧ mg x = some (.ref C) ∧ PySem.W.keepIn K (.ref C) = true ∧ PySem.W.subIn K (.ref C) (.type "BaseException") = some true ∧ PySem.W.typeIn K (.ref C) = some (.type "type") ∧ cls x = some C
  nd : (x == ("__debug__" : Str)) = false
structure ExA (g : G) (x : Str) : Prop where
  K : g.K = B.K
  f : ExF g.K g.mg B.cls x
omit [B : Bs] in
def listN : Bl → Bl
  | .list => .listN
  | b => b
omit [B : Bs] in
def opB : Operator → Option Op2
  | .Add => some oAdd
  | .Sub => some oSub
  | .Mult => some oMulB
  | .FloorDiv => some oDiv
  | .Mod => some oMod
  | .Pow => some oPow
  | _ => none
omit [B : Bs] in
def opC : CmpOp → Op2
  | .Eq => oEq
  | .NotEq => oNe
  | .Lt => oLt
  | .LtE => oLe
  | .Gt => oGt
  | .GtE => oGe
  | .Is => oIs
  | .IsNot => oIsNot
  | .In => oIn
  | .NotIn => oNotIn
omit [B : Bs] in
/-- a chain a op b op c -/
def eChain (o o' : Op2) (a b c : Ev) : Ev := fun ρ S => (a ρ S).bind fun x S1 => (b ρ S1).bind fun y S2 => match o S2 x y with
  | some (.bl true) => (c ρ S2).bind fun z S3 => ofO (o' S3 y z) S3
  | some (.bl false) => .ok (.bl false) S2
  | _ => .no
omit [B : Bs] in
def mbOf (x : Str) : Option Mb := match eqS x "append" with
  | true => some .append
  | false => (match eqS x "pop" with
    | true => some .pop
    | false => (match eqS x "index" with
      | true => some .index
      | false => (match eqS x "count" with
        | true => some .lcount
        | false => (match eqS x "split" with
          | true => some .split
          | false => (match eqS x "join" with
            | true => some .join
            | false => none)))))
omit [B : Bs] in
theorem mbOf_ok {x : Str} {m : Mb} (h : mbOf x = some m) : x = m.name := by
  unfold mbOf at h
  repeat' split at h
  all_goals first
    | cases h
    | skip
  all_goals (rename_i q; exact eqS_ok q)
omit [B : Bs] in
def ownOf (N : List Str) (scope : Scope) : List (Str × Nat) := scope.names.filterMap fun y => match stK (some y.2) with
  | true => ap1 (fun i => (y.1, i)) (ixS N y.1 0)
  | false => none
end PL

set_option Elab.async false
set_option linter.all false
set_option maxRecDepth 100000
set_option maxHeartbeats 4000000
/-! own classes: instances, attributes, methods, operators by an own method -/
namespace PL
open PySem PySem.Spec PyProof.Rows L2
variable [B : Bs]

/-! ### methods by class and name -/
omit [B : Bs] in
def lkM : List (Str × Str × Fn) → Str → Str → Option Fn
  | [], _, _ => none
  | (D, n, F) :: r, C, m => (match eqS n m with
    | true => (match eqS D C with
      | true => some F
      | false => lkM r C m)
    | false => lkM r C m)
omit [B : Bs] in
theorem lkM_mem : ∀ {l : List (Str × Str × Fn)} {C m : Str} {F : Fn}, lkM l C m = some F → (C, m, F) ∈ l
  | [], _, _, _, h => by cases h
  | (D, n, G) :: r, C, m, F, h => by
    unfold lkM at h
    split at h
    · rename_i q
      split at h
      · rename_i q'
        have := eqS_ok q
        have := eqS_ok q'
        subst_vars
        cases h
        exact List.mem_cons_self
      · exact List.mem_cons_of_mem _ (lkM_mem h)
    · exact List.mem_cons_of_mem _ (lkM_mem h)
omit [B : Bs] in
/-- plain fields by class -/
def memF : List (Str × Str) → Str → Str → Bool
  | [], _, _ => false
  | (D, n) :: r, C, f => (match eqS n f with
    | true => (match eqS D C with
      | true => true
      | false => memF r C f)
    | false => memF r C f)
omit [B : Bs] in
theorem memF_mem : ∀ {l : List (Str × Str)} {C f : Str}, memF l C f = true → (C, f) ∈ l
  | [], _, _, h => by cases h
  | (D, n) :: r, C, f, h => by
    unfold memF at h
    split at h
    · rename_i q
      split at h
      · rename_i q'
        have := eqS_ok q
        have := eqS_ok q'
        subst_vars
        exact List.mem_cons_self
      · exact List.mem_cons_of_mem _ (memF_mem h)
    · exact List.mem_cons_of_mem _ (memF_mem h)
omit [B : Bs] in
def insOf (S : Store) (d : D) : Option (Str × List (Str × D)) := match d with
  | .ref n => (match S[n]? with
    | some (some (.ins C fs)) => some (C, fs)
    | _ => none)
  | _ => none
theorem ins_at {K : PySem.W.Frag} {as : List Addr} {H0 H : Hp} {S : Store} {v : V} {d : D} {C : Str} {fs : List (Str × D)} (r : Sr K as H0 H S) (p : Rp K as H0 v d) (h : insOf S d = some (C, fs)) :
    ∃ n a Ca dx gs, d = .ref n ∧ as[n]? = some a ∧ S[n]? = some (some (.ins C fs)) ∧ v = .ref a ∧ clsK K C = some Ca ∧ H a = some (.ins Ca dx gs) ∧ gs.map (·.1) = fs.map (·.1) ∧ RpA K as H0 (gs.map (·.2)) (fs.map (·.2)) := by
  cases d with
  | ref n =>
    unfold insOf at h
    dsimp only at h
    split at h
    · rename_i C' fs' q
      cases h
      cases p with
      | ref ha =>
        rename_i a
        obtain ⟨_, Ca, dx, gs, h0, h1, h2, h3⟩ := r.cell n _ a q ha
        exact ⟨n, a, Ca, dx, gs, rfl, ha, q, rfl, h0, h1, h2, h3⟩
    · cases h
  | _ => cases h
omit [B : Bs] in
theorem fld_none {fs : List (Str × D)} {gs : List (Str × V)} {f : Str} (h : gs.map (·.1) = fs.map (·.1)) (q : lk fs f = none) : gs.lookup f = none := by
  induction fs generalizing gs with
  | nil =>
    cases gs with
    | nil => rfl
    | cons _ _ => simp at h
  | cons p fs ih =>
    cases gs with
    | nil => simp at h
    | cons g gs =>
      obtain ⟨x, d⟩ := p
      obtain ⟨y, v⟩ := g
      simp only [List.map_cons, List.cons.injEq] at h
      obtain ⟨h1, h2⟩ := h
      subst h1
      unfold lk at q
      split at q
      · cases q
      · rename_i e
        rw [List.lookup_cons, beq_of_eqS]
        have e' : eqS f y = false := by
          cases z : eqS f y with
          | false => rfl
          | true =>
            have := eqS_ok z
            subst this
            rw [show eqS f f = true by rw [← beq_of_eqS]; simp] at e
            cases e
        rw [e']
        exact ih h2 q
omit [B : Bs] in
theorem fld_some {K : PySem.W.Frag} {as : List Addr} {H0 : Hp} {fs : List (Str × D)} {gs : List (Str × V)} {f : Str} {d : D} (h : gs.map (·.1) = fs.map (·.1)) (r : RpA K as H0 (gs.map (·.2)) (fs.map (·.2))) (q : lk fs f = some d) : ∃ v, gs.lookup f = some v ∧ Rp K as H0 v d := by
  induction fs generalizing gs with
  | nil => cases q
  | cons p fs ih =>
    cases gs with
    | nil => simp at h
    | cons g gs =>
      obtain ⟨x, e⟩ := p
      obtain ⟨y, v⟩ := g
      simp only [List.map_cons, List.cons.injEq] at h
      obtain ⟨h1, h2⟩ := h
      subst h1
      cases r with
      | cons r1 r2 =>
        unfold lk at q
        split at q
        · rename_i e
          cases q
          have := eqS_ok e
          subst this
          exact ⟨v, by simp [List.lookup], r1⟩
        · rename_i e
          have e' : eqS f y = false := by
            cases z : eqS f y with
            | false => rfl
            | true =>
              have := eqS_ok z
              subst this
              rw [show eqS f f = true by rw [← beq_of_eqS]; simp] at e
              cases e
          rw [List.lookup_cons, beq_of_eqS, e']
          exact ih h2 r2 q
omit [B : Bs] in
def putD (f : Str) (d : D) : List (Str × D) → List (Str × D)
  | [] => [(f, d)]
  | (g, x) :: r => (match eqS g f with
    | true => (g, d) :: r
    | false => (g, x) :: putD f d r)
omit [B : Bs] in
theorem put_ok {K : PySem.W.Frag} {as : List Addr} {H0 : Hp} {f : Str} {d : D} {v : V} (p : Rp K as H0 v d) : ∀ {fs : List (Str × D)} {gs : List (Str × V)}, gs.map (·.1) = fs.map (·.1) → RpA K as H0 (gs.map (·.2)) (fs.map (·.2)) →
    (putF f v gs).map (·.1) = (putD f d fs).map (·.1) ∧ RpA K as H0 ((putF f v gs).map (·.2)) ((putD f d fs).map (·.2))
  | [], [], _, _ => ⟨rfl, .cons p .nil⟩
  | [], _ :: _, h, _ => by simp at h
  | _ :: _, [], h, _ => by simp at h
  | (x, e) :: fs, (y, u) :: gs, h, r => by
    simp only [List.map_cons, List.cons.injEq] at h
    obtain ⟨h1, h2⟩ := h
    subst h1
    cases r with
    | cons r1 r2 =>
      show List.map _ (if y = f then (y, v) :: gs else (y, u) :: putF f v gs) = List.map _ (match eqS y f with | true => (y, d) :: fs | false => (y, e) :: putD f d fs) ∧ RpA K as H0 (List.map _ (if y = f then (y, v) :: gs else (y, u) :: putF f v gs)) (List.map _ (match eqS y f with | true => (y, d) :: fs | false => (y, e) :: putD f d fs))
      cases z : eqS y f with
      | true =>
        rw [if_pos (eqS_ok z)]
        exact ⟨by simp [h2], .cons p r2⟩
      | false =>
        have ne : y ≠ f := fun q => by
          subst q
          rw [show eqS y y = true by rw [← beq_of_eqS]; simp] at z
          cases z
        rw [if_neg ne]
        obtain ⟨i1, i2⟩ := put_ok p h2 r2
        exact ⟨by simp [i1], .cons r1 i2⟩

/-! ### a call of one's own def, wherever it is called from -/
omit [B : Bs] in
/-- an exception goes on where it may -/
def R.am {α : Type} (mr : Bool) (ρ : Rho) (r : R α) : R α := match mr with
  | true => r.at ρ
  | false => r.calm
def WEm (mr : Bool) : L2.St → XK := fun σ c d H => mr = true ∧ B.wx c d σ H
omit [B : Bs] in
def spM (K : PySem.W.Frag) (cls : Str → Option Addr) (F : Fn) : Sp := fun vs H Q E => ∃ as H0 S ds, Sr0 K as H0 H S ∧ RpA K as H0 vs ds ∧ (F ds S).sat (@QE (bsOf K cls as H0 H E) K as H0 H Q) (@NoX (bsOf K cls as H0 H E))
section
variable {g : G} {og sc : Scope}
theorem Cxt.pass {X : Cx} (c : Cxt g og sc X) (σ : L2.St) : PassesAt (L2.CX X.prog X.w) X σ (WEm g.mr σ) := fun pins H s e s' I q => by
  have q0 := q
  obtain ⟨_, _, _, _, _, _, _, _, _, _, _, _, hm, _⟩ := q0
  exact c.tk hm e s' (XE.of_call I (fun _ _ _ h => h.2) q)
theorem spm_gen {K : PySem.W.Frag} (hK : K = B.K) {F : Fn} {mr : Bool} {as1 : List Addr} {H01 H1 : Hp} {ρ : Rho} {σ : L2.St} {S1 : Store} {vs : List V} {xs : List D} {Q : VK} (e : Er K as1 H01 σ ρ) (r1 : Sr K as1 H01 H1 S1) (p1 : RpA K as1 H01 vs xs)
    (hok : ∀ d S2, F xs S1 = .ok d S2 → QE K as1 H01 H1 Q d S2) (hex : ∀ c p ρ' S2, F xs S1 = .ex c p ρ' S2 → mr = true ∧ NoX c p ρ S2) (hno : F xs S1 ≠ .no) : spM K B.cls F vs H1 Q (WEm mr σ) := by
  subst hK
  refine ⟨as1, H01, S1, xs, r1.toSr0, p1, ?_⟩
  cases q : F xs S1 with
  | ok d S2 =>
    have h := hok d S2 q
    intro v as' H0' H' n' r' p
    exact h v as' H0' H' n' ⟨(sr_parts r').1, r1.nb.trans n'⟩ p
  | ex c p ρ' S2 =>
    obtain ⟨hm, h⟩ := hex c p ρ' S2 q
    intro as' H0' H' σ' r' e'
    have nb : Nx as1 H01 H1 as' H0' H' := (sr_parts r').2
    obtain ⟨C, h1, h2, h3⟩ := h as' H0' H' σ ⟨(sr_parts r').1, r1.nb.trans nb⟩ (e.mono nb.h0 nb.pre)
    exact ⟨C, h1, h2, hm, h3⟩
  | no => exact absurd q hno
theorem spm_at {K : PySem.W.Frag} (hK : K = B.K) {F : Fn} {mr : Bool} {as as1 : List Addr} {H0 H H01 H1 : Hp} {ρ : Rho} {σ : L2.St} {S1 : Store} {vs : List V} {xs : List D} {Q : VK} (e : Er K as H0 σ ρ) (n1 : Nx as H0 H as1 H01 H1) (r1 : Sr K as1 H01 H1 S1) (p1 : RpA K as1 H01 vs xs)
    (h : ((F xs S1).am mr ρ).sat (QE K as H0 H Q) NoX) : spM K B.cls F vs H1 Q (WEm mr σ) := by
  refine spm_gen hK (e.mono n1.h0 n1.pre) r1 p1 (fun d S2 q => ?_) (fun c p ρ' S2 q => ?_) fun q => ?_
  · rw [q] at h
    cases mr with
    | true => exact QE.next n1 h
    | false => exact QE.next n1 h
  · rw [q] at h
    cases mr with
    | true => exact ⟨rfl, h⟩
    | false => exact h.elim
  · rw [q] at h
    cases mr with
    | true => exact h.elim
    | false => exact h.elim
/-- the call's own code, in A around -/
theorem code_own {X : Cx} (c : Cxt g og sc X) {A : Around} (hA : A.frames = X.A.frames) {k : Nat} {f : Addr} {F : Fn} (hr : Room k A) (FR : FnR g.P g.w g.K g.mg g.base (L2.CX g.P g.w) k f (spM g.K B.cls F))
    {pins : List (Addr × Obj)} {σ : L2.St} {H : Hp} {s : Shared} {us : List Value} {vs : List V} {Q : VK} (I : Inv X pins σ H s) (r : Vals vs us) (h : spM g.K B.cls F vs H Q (WEm g.mr σ)) :
    codeAny (model X.prog X.w) A (.call (.ref f) ⟨us, []⟩) (fun r s' => match r with | .ok (.ret v) => EP X pins σ Q v s' | .ok _ => False | .error e => X.xe e s') s := by
  have FR' : FnR X.prog X.w X.K X.mg X.base (L2.CX X.prog X.w) k f (spM g.K B.cls F) := by rw [c.prog, c.w, c.K, c.mg, c.base]; exact FR
  have e1 := I.env0
  have e0 : Env0 X.prog X.w X.K X.mg X.base A X.stack s H := ⟨by rw [hA]; exact e1.frames, e1.mod, e1.bs, e1.bsz, e1.funs, e1.frf, e1.hok, e1.bare⟩
  refine codeAny_mono (FR' A X.stack s H us vs Q _ hr e0 r h) fun r s' hq => ?_
  cases r with
  | error e => exact c.pass σ pins H s e s' I hq
  | ok fl =>
    cases fl with
    | ret u => exact I.after hq
    | next => exact hq.elim
    | brk => exact hq.elim
    | cont => exact hq.elim
theorem run_own {X : Cx} (c : Cxt g og sc X) {A : Around} (hA : A.frames = X.A.frames) {k : Nat} {f : Addr} {F : Fn} (hr : Room k A) (FR : FnR g.P g.w g.K g.mg g.base (L2.CX g.P g.w) k f (spM g.K B.cls F))
    {pins : List (Addr × Obj)} {σ : L2.St} {H : Hp} {s : Shared} {us : List Value} {vs : List V} {Q : VK} (I : Inv X pins σ H s) (r : Vals vs us) (h : spM g.K B.cls F vs H Q (WEm g.mr σ)) :
    wpAny (model X.prog X.w) A (call (.ref f) us) (EP X pins σ Q) X.xe s := wpAny_call (code_own c hA hr FR I r h)
end
end PL

set_option Elab.async false
set_option linter.all false
set_option maxRecDepth 100000
set_option maxHeartbeats 4000000
/-! attributes, methods, makings of own classes as forms -/
namespace PL
open PySem PySem.Spec PyProof.Rows L2
variable [B : Bs]

/-- a def of a class: its function keeps the promise of F -/
structure MtA (g : G) (C m : Str) (F : Fn) : Prop where
  K : g.K = B.K
  ex : ∃ (Ca f : Addr) (k : Nat), k + 2 ≤ g.L ∧ clsK g.K C = some Ca ∧ Cls g.K Ca ∧ Meth g.K Ca m f ∧ PySem.W.fnIn g.K f = true ∧ FnR g.P g.w g.K g.mg g.base (L2.CX g.P g.w) k f (spM g.K B.cls F)
/-- a property -/
structure PropA (g : G) (C m : Str) (F : Fn) : Prop where
  K : g.K = B.K
  ex : ∃ (Ca p f : Addr) (fd : FuncData) (ps : List Str) (k : Nat), k + 2 ≤ g.L ∧ clsK g.K C = some Ca ∧ Cls g.K Ca ∧ PropOf g.K Ca m p f ∧ Binds g.K fd ps [] ∧ FnOk g.P g.w g.K g.mg g.base (L2.CX g.P g.w) k f fd ps (spF g.K B.cls 1 F)
/-- a field that no class has -/
structure FldA (g : G) (C f : Str) : Prop where
  ex : ∃ Ca : Addr, clsK g.K C = some Ca ∧ Cls g.K Ca ∧ NoAttr g.K Ca f
/-- a class that is made by its own __init__ -/
structure MkA (g : G) (C : Str) (F : Fn) : Prop where
  K : g.K = B.K
  ex : ∃ (Ca f : Addr) (k : Nat), k + 2 ≤ g.L ∧ clsK g.K C = some Ca ∧ g.mg C = some (.ref Ca) ∧ Mk g.K Ca f ∧ FnR g.P g.w g.K g.mg g.base (L2.CX g.P g.w) k f (spM g.K B.cls F)
  nd : (C == ("__debug__" : Str)) = false
/-- a classmethod -/
structure CmA (g : G) (C m : Str) (F : Fn) : Prop where
  K : g.K = B.K
  ex : ∃ (Ca p f : Addr) (mc : Value) (k : Nat), k + 2 ≤ g.L ∧ clsK g.K C = some Ca ∧ ClX.CRead g.K Ca mc ∧ ClX.CMet g.K Ca mc m p f ∧ FnR g.P g.w g.K g.mg g.base (L2.CX g.P g.w) k f (spM g.K B.cls F)
section
variable {g : G} {og sc : Scope}

/-! ### o.f -/
omit [B : Bs] in
def eAttr (props : List (Str × Str × Fn)) (flds : List (Str × Str)) (f : Str) (a : Ev) : Ev := fun ρ S => (a ρ S).bind fun x S1 => match insOf S1 x with
  | some (C, fs) => (match lkM props C f with
    | some F => (F [x] S1).calm
    | none => (match memF flds C f with
      | true => ofO (lk fs f) S1
      | false => .no))
  | none => .no
def tAttr (g : G) (f : Str) (ta : TE) : TE := fun σ H Q => ta σ H fun x H1 => ∃ a Ca dx gs, x = .ref a ∧ H1 a = some (.ins Ca dx gs) ∧ Cls g.K Ca ∧
  ((NoAttr g.K Ca f ∧ ∃ v, gs.lookup f = some v ∧ Q v H1) ∨
    ∃ (p fa : Addr) (fd : FuncData) (ps : List Str) (k : Nat) (F : Fn), k + 2 ≤ g.L ∧ PropOf g.K Ca f p fa ∧ Binds g.K fd ps [] ∧ FnOk g.P g.w g.K g.mg g.base (L2.CX g.P g.w) k fa fd ps (spF g.K B.cls 1 F) ∧ spF g.K B.cls 1 F [x] H1 Q E0)
theorem se_attr {props : List (Str × Str × Fn)} {flds : List (Str × Str)} {f : Str} {ea : Expr} {a : Ev} {pos : Pos} (hcall : isCallE ea = false) (ha : SE g og sc ea a) (hp : ∀ C F, lkM props C f = some F → PropA g C f F) (hf : ∀ C, memF flds C f = true → FldA g C f) :
    SE g og sc (.Attribute ea f pos) (eAttr props flds f a) := by
  obtain ⟨ta, pa, sa⟩ := ha
  refine ⟨tAttr g f ta, fun X c => ⟨fun pins s σ H Q I h => ?_⟩, fun as H0 H ρ S σ Q r e h => ?_⟩
  · refine attr_of (base_plain hcall) (thn ((pa X c).run pins s σ H _ I h) fun u s1 ⟨x, H1, I1, rx, a', Ca, dx, gs, ex, ea', hc, q⟩ => ?_)
    subst ex
    obtain rfl : u = Value.ref a' := rx
    rw [← c.K] at hc q
    rcases q with ⟨n, v, l, q⟩ | ⟨p, fa, fd, ps, k, F, hk, hpr, hb, ok, q⟩
    · exact getattr_ok I1 ea' hc n l fun u' s2 I2 ru => ⟨v, H1, I2, ru, q⟩
    · have ok' : FnOk X.prog X.w X.K X.mg X.base (L2.CX X.prog X.w) k fa fd ps (spF X.K B.cls 1 F) := by rw [c.prog, c.w, c.mg, c.base]; rw [c.K] at *; exact ok
      exact getprop_ok I1 ea' hc hpr ok' (c.room.mono (by omega)) hb .nil passN q
  · refine sa as H0 H ρ S σ _ r e (R.sat_mono (R.sat_bind h) (fun x S1 h1 => ?_) fun _ _ _ _ z => z)
    intro v as1 H01 H1 n1 r1 p1
    split at h1
    · rename_i C fs hi
      obtain ⟨n, a', Ca, dx, gs, rfl, ha', hS, rfl, hC, hH, hk, hr⟩ := ins_at r1 p1 hi
      split at h1
      · rename_i F hF
        obtain ⟨Ca', p, fa, fd, ps, k, z1, z2, z3, z4, z5, z6⟩ := (hp C F hF).ex
        rw [hC] at z2
        cases z2
        exact ⟨a', Ca, dx, gs, rfl, hH, z3, .inr ⟨p, fa, fd, ps, k, F, z1, z4, z5, z6, spf_calm n1 r1 (.cons p1 .nil) rfl h1⟩⟩
      · split at h1
        · rename_i hm
          obtain ⟨Ca', z1, z2, z3⟩ := (hf C hm).ex
          rw [hC] at z1
          cases z1
          obtain ⟨d, ed, q⟩ := sat_ofO h1
          obtain ⟨w, hw, pw⟩ := fld_some hk hr ed
          exact ⟨a', Ca, dx, gs, rfl, hH, z2, .inl ⟨z3, w, hw, q w as1 H01 H1 n1 r1 pw⟩⟩
        · exact h1.elim
    · exact h1.elim

/-! ### o.f = e -/
omit [B : Bs] in
def sFldF (flds : List (Str × Str)) (f : Str) (o v : Ev) : Sv := fun ρ S => (v ρ S).bind fun d S1 => (o ρ S1).bind fun x S2 => match x with
  | .ref n => (match S2[n]? with
    | some (some (.ins C fs)) => (match memF flds C f && Nat.blt fs.length 1000 with
      | true => .ok (.nx ρ) (S2.set n (some (.ins C (putD f d fs))))
      | false => .no)
    | _ => .no)
  | _ => .no
theorem ss_fld {flds : List (Str × Str)} {f : Str} {eo ev : Expr} {o v : Ev} {pos' pos : Pos} (hc : isCompE ev = false) (ho : SE g og sc eo o) (hv : SE g og sc ev v) (hf : ∀ C, memF flds C f = true → FldA g C f) : SS g og sc (.Assign [.Attribute eo f pos'] ev pos) (sFldF flds f o v) := by
  obtain ⟨to, po, so⟩ := ho
  obtain ⟨tv, pv', sv⟩ := hv
  refine ⟨sFld g.K to tv f, fun X c => by rw [← c.K]; exact ps_fld (po X c) (pv' X c) (swaps_plain hc), fun as H0 H ρ S σ D r e h => ?_⟩
  refine sv as H0 H ρ S σ _ r e (R.sat_mono (R.sat_bind h) (fun d S1 h1 => ?_) fun _ _ _ _ z => z)
  intro u as1 H01 H1 n1 r1 p1
  have e1 := e.mono n1.h0 n1.pre
  refine so as1 H01 H1 ρ S1 σ _ r1 e1 (R.sat_mono (R.sat_bind h1) (fun x S2 h2 => ?_) fun _ _ _ _ z => z)
  intro w as2 H02 H2 n2 r2 p2
  have e2 := e1.mono n2.h0 n2.pre
  have p1' := p1.mono n2.h0 n2.pre
  cases x with
  | ref n =>
    dsimp only at h2
    split at h2
    · rename_i C fs hS
      split at h2
      · rename_i hq
        obtain ⟨hm, hl⟩ := Bool.and_eq_true_iff.mp hq
        cases p2 with
        | ref ha =>
          rename_i a
          obtain ⟨h0, Ca, dx, gs, hC, hH, hk, hr⟩ := r2.cell n _ a hS ha
          obtain ⟨Ca', z1, z2, z3⟩ := (hf C hm).ex
          rw [hC] at z1
          cases z1
          have hlen : gs.length = fs.length := by have := congrArg List.length hk; simpa using this
          obtain ⟨k1, k2⟩ := put_ok (f := f) p1' hk hr
          obtain ⟨r3, n3⟩ := r2.put (c' := .ins C (putD f d fs)) (o := .ins Ca dx (putF f u gs)) hS ha ⟨Ca, dx, putF f u gs, hC, upd_same, k1, k2⟩
          have hl' : fs.length < 1000 := Nat.blt_eq.mp hl
          exact ⟨a, Ca, dx, gs, rfl, hH, z2, z3, by omega, h2 σ as2 H02 _ ((n1.trans n2).trans n3) r3 (e2.mono n3.h0 n3.pre)⟩
      · exact h2.elim
    · exact h2.elim
  | _ => exact h2.elim
end
end PL

set_option Elab.async false
set_option linter.all false
set_option maxRecDepth 100000
set_option maxHeartbeats 4000000
/-! calls of own methods, of own classes, of instances -/
namespace PL
open PySem PySem.Spec PyProof.Rows L2
variable [B : Bs]
section
variable {g : G} {og sc : Scope}
omit [B : Bs] in
theorem form_plain {es : List Expr} {env : Env} {pos : Pos} (h : (backTo pos (starEach es env)).any (·.1) = false) (hn : es.length < 30) : methodCallForm (es.length + ([] : List Keyword).length) (backTo pos (starEach es env)) (backToKw pos (keywordEach [] env)) = true := by
  have z : (backTo pos (starEach es env)).all (fun x => !x.1) = true := by
    rw [List.any_eq_false] at h
    rw [List.all_eq_true]
    intro x hx
    have := h x hx
    simpa using this
  unfold methodCallForm
  rw [z]
  have hn2 : es.length + 0 + 0 < 30 := hn
  simp only [keywordEach, backToKw, List.map_nil, List.all_nil, List.isEmpty_nil, List.length_nil, if_true, Bool.true_and, decide_eq_true_eq]
  exact hn2
omit [B : Bs] in
theorem meth_form {o : Expr} {m : Str} {apos pos : Pos} {es : List Expr} {env : Env} (hbase : attributeBase o m env (eval o env) = eval o env) (hs : (backTo pos (starEach es env)).any (·.1) = false) (hn : es.length < 30) (hline : (apos.endLine == pos.line) = true) :
    eval (.Call (.Attribute o m apos) es [] pos) env = (do
      let ov ← eval o env
      standAt apos.atName
      let (f, first) ← holding [ov] (getMethod ov m (do return (← importBound o env).getD true))
      callWith pos f first (backTo pos (starEach es env)) (backToKw pos (keywordEach [] env))) := by
  have hpos : methodCallPos true o env apos pos = pure pos := by
    unfold methodCallPos
    rw [hline]
    rfl
  rw [arm_eval_Call, hbase]
  unfold methodCall
  rw [form_plain hs hn, hpos]
  rfl
omit [B : Bs] in
theorem any_cons {e : Expr} {es : List Expr} {env : Env} {pos : Pos} (h : ∀ x ∈ e :: es, ∀ z p, x ≠ .Starred z p) : starEach (e :: es) env = (false, eval e env) :: starEach es env ∧ (backTo pos (starEach es env)).any (·.1) = false :=
  ⟨starEach_plain (by cases e <;> first | rfl | exact absurd rfl (h _ List.mem_cons_self _ _)), star_none (fun e he => h e (List.mem_cons_of_mem _ he)) pos⟩

/-! ### o.m(..) -/
omit [B : Bs] in
def eMeth (mr : Bool) (mts : List (Str × Str × Fn)) (m : Str) (a : Ev) (b : Av) : Ev := fun ρ S => (a ρ S).bind fun x S1 => match insOf S1 x with
  | some (C, fs) => (match lkM mts C m, lk fs m with
    | some F, none => (b ρ S1).bind fun xs S2 => (F (x :: xs) S2).am mr ρ
    | _, _ => .no)
  | none => .no
def tMethA (g : G) (m : Str) (ta : TE) (tb : TA) : TE := fun σ H Q => ta σ H fun x H1 => ∃ a Ca dx gs f k F, x = .ref a ∧ H1 a = some (.ins Ca dx gs) ∧ gs.lookup m = none ∧ Cls g.K Ca ∧ Meth g.K Ca m f ∧ k + 2 ≤ g.L ∧ FnR g.P g.w g.K g.mg g.base (L2.CX g.P g.w) k f (spM g.K B.cls F) ∧
  tb σ H1 fun vs H2 => spM g.K B.cls F (x :: vs) H2 Q (WEm g.mr σ)
theorem says_meth {mts : List (Str × Str × Fn)} {m : Str} {ta : TE} {tb : TA} {a : Ev} {b : Av} (ha : SaysE g.K ta a) (hb : SaysA g.K tb b) (hm : ∀ C F, lkM mts C m = some F → MtA g C m F) : SaysE g.K (tMethA g m ta tb) (eMeth g.mr mts m a b) := by
  intro as H0 H ρ S σ Q r e h
  refine ha as H0 H ρ S σ _ r e (R.sat_mono (R.sat_bind h) (fun x S1 h1 => ?_) fun _ _ _ _ z => z)
  intro v as1 H01 H1 n1 r1 p1
  split at h1
  · rename_i C fs hi
    obtain ⟨n, a', Ca, dx, gs, rfl, ha', hS, rfl, hC, hH, hk, hr⟩ := ins_at r1 p1 hi
    split at h1
    · rename_i F hF hl
      have MA := hm C F hF
      obtain ⟨Ca', f, k, z1, z2, z3, z4, z5, z6⟩ := MA.ex
      rw [hC] at z2
      cases z2
      refine ⟨a', Ca, dx, gs, f, k, F, rfl, hH, fld_none hk hl, z3, z4, z1, z6, ?_⟩
      have e1 := e.mono n1.h0 n1.pre
      refine hb as1 H01 H1 ρ S1 σ _ r1 e1 (R.sat_mono (R.sat_bind h1) (fun xs S2 h2 => ?_) fun _ _ _ _ z => z)
      intro vs as2 H02 H2 n2 r2 p2
      exact spm_at MA.K e (n1.trans n2) r2 (.cons (p1.mono n2.h0 n2.pre) p2) h2
    · exact h1.elim
  · exact h1.elim
theorem se_meth {mts : List (Str × Str × Fn)} {m : Str} {ea e : Expr} {es : List Expr} {a : Ev} {b : Av} {apos pos : Pos} (hcall : isCallE ea = false) (hline : (apos.endLine == pos.line) = true) (hn : (e :: es).length < 30) (ha : SE g og sc ea a) (hb : SA g og sc (e :: es) b)
    (hm : ∀ C F, lkM mts C m = some F → MtA g C m F) : SE g og sc (.Call (.Attribute ea m apos) (e :: es) [] pos) (eMeth g.mr mts m a b) := by
  obtain ⟨ta, pa, sa⟩ := ha
  obtain ⟨tb, pb, sb⟩ := hb
  refine ⟨tMethA g m ta tb, fun X c => ⟨fun pins s σ H Q I h => ?_⟩, says_meth sa sb hm⟩
  obtain ⟨q1, q2⟩ := pb X c
  obtain ⟨s1, s2⟩ := any_cons (pos := pos) (env := X.env) q2
  refine PySem.W.methodCall_KW (thn ((pa X c).run pins s σ H _ I h) fun u s1' ⟨x, H1, I1, rx, a', Ca, dx, gs, f, k, F, ex, ea', l, hc, hmt, hk, FR, q⟩ => ?_) (meth_form (base_plain hcall) (star_none q2 pos) hn hline)
  subst ex
  obtain rfl : u = Value.ref a' := rx
  rw [← c.K] at hc hmt
  refine getmeth_ok I1 ea' hc hmt l ?_
  refine PySem.W.callWith_K (first := [.ref a']) (h₀ := X.base) I.ok.mod.kin hmt.kp (thn (q1.run pos pins s1' σ H1 _ I1 q) fun us s2 ⟨vs, H2, I2, r, q2⟩ => ⟨I2.kIn, ?_⟩) s1 s2
  exact run_own c rfl (c.room.mono (by omega)) FR I2 (us := .ref a' :: us) (vs := .ref a' :: vs) (.cons rfl r) q2
theorem se_meth0 {mts : List (Str × Str × Fn)} {m : Str} {ea : Expr} {a : Ev} {apos pos : Pos} (hcall : isCallE ea = false) (hline : (apos.endLine == pos.line) = true) (ha : SE g og sc ea a)
    (hm : ∀ C F, lkM mts C m = some F → MtA g C m F) : SE g og sc (.Call (.Attribute ea m apos) [] [] pos) (eMeth g.mr mts m a aNil) := by
  obtain ⟨ta, pa, sa⟩ := ha
  refine ⟨tMethA g m ta tNil, fun X c => ⟨fun pins s σ H Q I h => ?_⟩, says_meth sa (fun as H0 H ρ S σ Q r e h => h [] as H0 H Nx.refl r .nil) hm⟩
  refine PySem.W.methodCall_KW (thn ((pa X c).run pins s σ H _ I h) fun u s1' ⟨x, H1, I1, rx, a', Ca, dx, gs, f, k, F, ex, ea', l, hc, hmt, hk, FR, q⟩ => ?_) (meth_form (base_plain hcall) rfl (by decide) hline)
  subst ex
  obtain rfl : u = Value.ref a' := rx
  rw [← c.K] at hc hmt
  refine getmeth_ok I1 ea' hc hmt l ?_
  exact PySem.W.callWith_K0 (first := [.ref a']) I1.kIn hmt.kp (run_own c rfl (c.room.mono (by omega)) FR I1 (us := [.ref a']) (vs := [.ref a']) (.cons rfl .nil) q)

/-! ### C(..) -/
omit [B : Bs] in
/-- a new instance: its __init__ runs, and gives None -/
def mkIns (mr : Bool) (C : Str) (F : Fn) (ρ : Rho) (xs : List D) (S : Store) : R D := ((F (.ref S.length :: xs) (S ++ [some (.ins C [])])).am mr ρ).bind fun d S2 => match d with
  | .non => .ok (.ref S.length) S2
  | _ => .no
/-- what the making asks behind the arguments -/
def rMk (g : G) (Ca : Addr) (F : Fn) (σ : L2.St) (vs : List V) (H : Hp) (Q : VK) : Prop := ∀ x dx, H x = none → H dx = none → dx ≠ x → spM g.K B.cls F (.ref x :: vs) (upd (upd H dx (.own x)) x (.ins Ca dx [])) (fun v H2 => v = .non ∧ Q (.ref x) H2) (WEm g.mr σ)
theorem mk_says {C : Str} {Ca : Addr} {F : Fn} {as as1 : List Addr} {H0 H H01 H1 : Hp} {ρ : Rho} {σ : L2.St} {S1 : Store} {vs : List V} {xs : List D} {Q : VK} (hK : g.K = B.K) (hC : clsK g.K C = some Ca) (e : Er g.K as H0 σ ρ) (n1 : Nx as H0 H as1 H01 H1) (r1 : Sr g.K as1 H01 H1 S1) (p1 : RpA g.K as1 H01 vs xs)
    (h : (mkIns g.mr C F ρ xs S1).sat (QE g.K as H0 H Q) NoX) : rMk g Ca F σ vs H1 Q := by
  intro x dx hx hd ne
  obtain ⟨r2, n2⟩ := r1.fresh (o := .own x) hd
  have hx2 : upd H1 dx (.own x) x = none := by rw [upd_ne ne.symm]; exact hx
  obtain ⟨r3, n3, hl⟩ := r2.alloc (c := .ins C []) (o := .ins Ca dx []) hx2 ⟨Ca, dx, [], hC, upd_same, rfl, .nil⟩
  have n123 := (n1.trans n2).trans n3
  have p3 : RpA g.K (as1 ++ [x]) H01 (.ref x :: vs) (.ref S1.length :: xs) := .cons (.ref hl) (p1.mono (n2.trans n3).h0 (n2.trans n3).pre)
  unfold mkIns at h
  refine spm_gen hK (e.mono n123.h0 n123.pre) r3 p3 (fun d S2 q => ?_) (fun c p ρ' S2 q => ?_) fun q => ?_
  · rw [q] at h
    have h' : (match d with
      | .non => R.ok (D.ref S1.length) S2
      | _ => .no).sat (QE g.K as H0 H Q) NoX := by
      cases hm : g.mr <;> rw [hm] at h <;> exact h
    intro v as4 H04 H4 n4 r4 p4
    cases d with
    | non =>
      cases p4
      exact ⟨rfl, h' _ as4 H04 H4 (n123.trans n4) r4 (.ref (n4.pre _ _ hl))⟩
    | _ => exact h'.elim
  · rw [q] at h
    cases hm : g.mr with
    | true => rw [hm] at h; exact ⟨rfl, h⟩
    | false => rw [hm] at h; exact h.elim
  · rw [q] at h
    cases hm : g.mr <;> rw [hm] at h <;> exact h.elim
theorem run_mk {X : Cx} (c : Cxt g og sc X) {k : Nat} {Ca f : Addr} {F : Fn} (hk : k + 2 ≤ g.L) (M : Mk g.K Ca f) (FR : FnR g.P g.w g.K g.mg g.base (L2.CX g.P g.w) k f (spM g.K B.cls F))
    {pins : List (Addr × Obj)} {σ : L2.St} {H : Hp} {s : Shared} {us : List Value} {vs : List V} {Q : VK} (I : Inv X pins σ H s) (r : Vals vs us) (h : rMk g Ca F σ vs H Q) : wpAny (model X.prog X.w) X.A (call (.ref Ca) us) (EP X pins σ Q) X.xe s := by
  rw [← c.K] at M
  have FR' : FnR X.prog X.w X.K X.mg X.base (L2.CX X.prog X.w) k f (spM g.K B.cls F) := by rw [c.prog, c.w, c.K, c.mg, c.base]; exact FR
  have hq := h (s.heap.objs.size + 1) s.heap.objs.size (I.hok.fresh (Nat.le_succ _)) (I.hok.fresh (Nat.le_refl _)) (Nat.ne_of_lt (Nat.lt_succ_self _))
  have I2 := Inv.made (C := Ca) I
  have r2 : Vals (V.ref (s.heap.objs.size + 1) :: vs) (Value.ref (s.heap.objs.size + 1) :: us) := .cons rfl r
  have hr : Room (k + 1) X.A := c.room.mono (by omega)
  refine wpAny_call (make_map (f := f) I.kIn M.makes M.init (beq_iff_eq.mp M.fn) (codeAny_mono (FR' _ X.stack _ _ (Value.ref (s.heap.objs.size + 1) :: us) _ _ (WEm g.mr σ) (hr.make Ca us []) (I2.env0.make Ca us []) r2 hq) fun r s' hq' => ?_))
  cases r with
  | error e => exact c.pass σ pins _ _ e s' I2 hq'
  | ok fl =>
    cases fl with
    | ret u =>
      obtain ⟨v, H', I3, rv, ev, q3⟩ := I2.after hq'
      subst ev
      exact ⟨rv, ⟨V.ref (s.heap.objs.size + 1), H', I3, rfl, q3⟩⟩
    | next => exact hq'.elim
    | brk => exact hq'.elim
    | cont => exact hq'.elim
omit [B : Bs] in
def eMk (mr : Bool) (C : Str) (F : Fn) (b : Av) : Ev := fun ρ S => (b ρ S).bind fun xs S1 => mkIns mr C F ρ xs S1
theorem se_mk {C : Str} {F : Fn} {e : Expr} {es : List Expr} {b : Av} {p pos : Pos} (hM : MkA g C F) (hg : sc.names.lookup C = some .globalImplicit) (hb : SA g og sc (e :: es) b) : SE g og sc (.Call (.Name C p) (e :: es) [] pos) (eMk g.mr C F b) := by
  obtain ⟨tb, pb, sb⟩ := hb
  obtain ⟨Ca, f, k, hk, hC, hm, M, FR⟩ := hM.ex
  refine ⟨fun σ H Q => tb σ H fun vs H1 => rMk g Ca F σ vs H1 Q, fun X c => ⟨fun pins s σ H Q I h => ?_⟩, fun as H0 H ρ S σ Q r e h => ?_⟩
  · obtain ⟨q1, q2⟩ := pb X c
    obtain ⟨s1, s2⟩ := any_cons (pos := pos) (env := X.env) q2
    refine wpAny_Call_Name_kw (ld_glob I (gl_of c hg) (by rw [c.mg]; exact hm) ?_ hM.nd)
    refine PySem.W.callWith_K (h₀ := X.base) I.ok.mod.kin (by rw [c.K]; exact M.kp) (thn (q1.run pos pins s σ H _ I h) fun us s1 ⟨vs, H1, I1, r, q⟩ => ⟨I1.kIn, ?_⟩) s1 s2
    exact run_mk c hk M FR I1 r q
  · refine sb as H0 H ρ S σ _ r e (R.sat_mono (R.sat_bind h) (fun xs S1 h1 => ?_) fun _ _ _ _ z => z)
    intro vs as1 H01 H1 n1 r1 p1
    exact mk_says hM.K hC e n1 r1 p1 h1
/-! ### with *args: C(e, *t) -/
omit [B : Bs] in
/-- the items that *e hands on -/
def starOf (S : Store) (d : D) : Option (List D) := match d with
  | .tup xs => some xs
  | .lst xs => some xs
  | _ => none
omit [B : Bs] in
def aStar (a b : Ev) : Av := fun ρ S => (a ρ S).bind fun x S1 => (b ρ S1).bind fun y S2 => match starOf S2 y with
  | some ys => .ok (x :: ys) S2
  | none => .no
def SAS (g : G) (og sc : Scope) (es : List Expr) (f : Av) : Prop := ∃ t, (∀ X, Cxt g og sc X → PA X es t) ∧ SaysA g.K t f
theorem sas_two {e1 e2 : Expr} {a b : Ev} {p : Pos} (hs : isStar e1 = false) (ha : SE g og sc e1 a) (hb : SE g og sc e2 b) : SAS g og sc [e1, .Starred e2 p] (aStar a b) := by
  obtain ⟨ta, pa, sa⟩ := ha
  obtain ⟨tb, pb, sb⟩ := hb
  refine ⟨tCons ta (StX.tStar g.K tb tNil), fun X c => by rw [← c.K]; exact pa_cons (pa X c) (StX.pa_star (pb X c) pa_nil) (starEach_plain hs), fun as H0 H ρ S σ Q r e h => ?_⟩
  refine sa as H0 H ρ S σ _ r e (R.sat_mono (R.sat_bind h) (fun x S1 h1 => ?_) fun _ _ _ _ z => z)
  intro v as1 H01 H1 n1 r1 p1
  have e1 := e.mono n1.h0 n1.pre
  refine sb as1 H01 H1 ρ S1 σ _ r1 e1 (R.sat_mono (R.sat_bind h1) (fun y S2 h2 => ?_) fun _ _ _ _ z => z)
  intro w as2 H02 H2 n2 r2 p2
  cases y with
  | tup ys =>
    cases p2 with
    | tup hq pq => exact ⟨_, _, rfl, .inl (SqT.of (r2.ex _ _ hq)), h2 _ as2 H02 H2 (n1.trans n2) r2 (.cons (p1.mono n2.h0 n2.pre) (by rw [List.append_nil]; exact pq))⟩
  | lst ys =>
    cases p2 with
    | lst hq pq => exact ⟨_, _, rfl, .inr (SqL.of (r2.ex _ _ hq)), h2 _ as2 H02 H2 (n1.trans n2) r2 (.cons (p1.mono n2.h0 n2.pre) (by rw [List.append_nil]; exact pq))⟩
  | _ => exact h2.elim
theorem se_mkS {C : Str} {F : Fn} {e1 e2 : Expr} {b : Av} {p p2 pos : Pos} (hs : isStar e1 = false) (hM : MkA g C F) (hg : sc.names.lookup C = some .globalImplicit) (hb : SAS g og sc [e1, .Starred e2 p2] b) : SE g og sc (.Call (.Name C p) [e1, .Starred e2 p2] [] pos) (eMk g.mr C F b) := by
  obtain ⟨tb, pb, sb⟩ := hb
  obtain ⟨Ca, f, k, hk, hC, hm, M, FR⟩ := hM.ex
  refine ⟨fun σ H Q => tb σ H fun vs H1 => rMk g Ca F σ vs H1 Q, fun X c => ⟨fun pins s σ H Q I h => ?_⟩, fun as H0 H ρ S σ Q r e h => ?_⟩
  · refine wpAny_Call_Name_kw (ld_glob I (gl_of c hg) (by rw [c.mg]; exact hm) ?_ hM.nd)
    refine PySem.W.callWith_S2 (h₀ := X.base) I.ok.mod.kin (by rw [c.K]; exact M.kp) (thn ((pb X c).run pos pins s σ H _ I h) fun us s1 ⟨vs, H1, I1, r, q⟩ => ⟨I1.kIn, ?_⟩) (starEach_plain hs) rfl
    exact run_mk c hk M FR I1 r q
  · refine sb as H0 H ρ S σ _ r e (R.sat_mono (R.sat_bind h) (fun xs S1 h1 => ?_) fun _ _ _ _ z => z)
    intro vs as1 H01 H1 n1 r1 p1
    exact mk_says hM.K hC e n1 r1 p1 h1
omit [B : Bs] in
/-- the class that a local name holds -/
def eMkL (mr : Bool) (mks : List (Str × Fn)) (i : Nat) (b : Av) : Ev := fun ρ S => match ρ[i]? with
  | some (some (.cls C)) => (match lk mks C with
    | some F => (b ρ S).bind fun xs S1 => mkIns mr C F ρ xs S1
    | none => .no)
  | _ => .no
def tMkL (g : G) (i : Nat) (tb : TA) : TE := fun σ H Q => ∃ Ca f k F, σ[i]? = some (some (.ref Ca)) ∧ k + 2 ≤ g.L ∧ Mk g.K Ca f ∧ FnR g.P g.w g.K g.mg g.base (L2.CX g.P g.w) k f (spM g.K B.cls F) ∧ tb σ H fun vs H1 => rMk g Ca F σ vs H1 Q
theorem se_mkL {mks : List (Str × Fn)} {i : Nat} {x : Str} {e1 e2 : Expr} {b : Av} {p p2 pos : Pos} (hN : g.N[i]? = some x) (hv : visB sc x = true) (hp : plainName x = true) (hs : isStar e1 = false) (hM : ∀ C F, lk mks C = some F → MkA g C F) (hb : SAS g og sc [e1, .Starred e2 p2] b) :
    SE g og sc (.Call (.Name x p) [e1, .Starred e2 p2] [] pos) (eMkL g.mr mks i b) := by
  obtain ⟨tb, pb, sb⟩ := hb
  unfold plainName at hp
  simp only [Bool.and_eq_true, Bool.not_eq_true'] at hp
  refine ⟨tMkL g i tb, fun X c => ⟨fun pins s σ H Q I h => ?_⟩, fun as H0 H ρ S σ Q r e h => ?_⟩
  · obtain ⟨Ca, f, k, F, hσ, hk, M, FR, q⟩ := h
    refine wpAny_Call_Name_kw (thn ((pe_var (pos := p) (i := i) (by rw [c.N]; exact hN) (by rw [c.scq]; exact vis_of hv) hp.1 hp.2).run pins s σ H (fun v H1 => v = .ref Ca ∧ H1 = H) I ⟨_, hσ, rfl, rfl⟩) fun u s1 ⟨v, H1, I1, rv, q1⟩ => ?_)
    obtain ⟨ev, eH⟩ := q1
    subst ev
    rw [eH] at I1
    obtain rfl : u = Value.ref Ca := rv
    refine PySem.W.callWith_S2 (h₀ := X.base) I.ok.mod.kin (by rw [c.K]; exact M.kp) (thn ((pb X c).run pos pins s1 σ H _ I1 q) fun us s2 ⟨vs, H2, I2, r, q2⟩ => ⟨I2.kIn, ?_⟩) (starEach_plain hs) rfl
    exact run_mk c hk M FR I2 r q2
  · unfold eMkL at h
    split at h
    · rename_i C hρ
      split at h
      · rename_i F hF
        have MA := hM C F hF
        obtain ⟨Ca, f, k, hk, hC, hm, M, FR⟩ := MA.ex
        obtain ⟨v, h1, h2⟩ := e.at_ i _ hρ
        cases h2 with
        | cls hC' =>
          rw [hC] at hC'
          cases hC'
          refine ⟨Ca, f, k, F, h1, hk, M, FR, ?_⟩
          refine sb as H0 H ρ S σ _ r e (R.sat_mono (R.sat_bind h) (fun xs S1 h1 => ?_) fun _ _ _ _ z => z)
          intro vs as1 H01 H1 n1 r1 p1
          exact mk_says MA.K hC e n1 r1 p1 h1
      · exact h.elim
    · exact h.elim
end
end PL

set_option Elab.async false
set_option linter.all false
set_option maxRecDepth 100000
set_option maxHeartbeats 4000000
/-! operators and built-ins that an own method serves, at the library's level -/
namespace PLO
open PySem PySem.Spec PySem.Calls PyProof.Rows
open PySem.W
section
variable {prog : Program} {w : World} {M : Model} {A : Around} {E : Value → Shared → Prop} {s : Shared} {K : Frag} {x C L f : Addr} {h₀ : Heap} {m : Str → Option Value} {ox : Obj} {od : Option Obj} {T : String}
/-- bool(o) by the object's truth -/
theorem bool_ref {P : Bool → Shared → Prop} {Q : Value → Shared → Prop} (ht : wpAny (model prog w) A.in1.in1 (truthy (.ref x)) P E s) (hq : ∀ b s', P b s' → Q (.bool b) s') : wpAny (model prog w) A (call (.type "bool") [.ref x]) Q E s := by
  refine callType_codes (T := "bool") (Bi := Builtin.«object.__init__») (Q₁ := fun r s₁ => ∃ b, r = .bool b ∧ P b s₁) PySem.F.called_bool (PySem.F.typeCall_bool_1 _) PySem.F.entry_object_init ?_ ?_
  · refine codeAny_of_tree ?_
    show wpAny _ A.in1.in1 (do checkBuiltinCall "bool.__new__" ⟨[.type "bool", .ref x], []⟩; again (.builtin "bool.__new__" ⟨[.type "bool", .ref x], []⟩)) _ _ s
    refine wpAny_bind (wpAny_of_eq (PySem.F.newCall_bool_1 _) (wpAny_pure ⟨plainId_quiet (by decide +kernel) _, codeAny_builtin PySem.F.entry_bool_new ?_⟩))
    rw [Around.under_plainId (by decide +kernel) _]
    obtain ⟨hp, g, d, tk, os⟩ := s
    have f1 := PySem.F.conv_sub_bool
    repeat (any_goals (first | assumption | (with_reducible refine wpAny_mono ht (fun b s' hb => ?_) fun _ _ z => z) | wp_step))
    all_goals first | exact ⟨_, rfl, by assumption⟩ | skip
  · rintro obj s₁ ⟨b, rfl, hp⟩
    exact ⟨PySem.typeIs_bool _ _, PySem.F.args_object_init_2 _ _, object_init_meets PySem.F.called_bool.init.lookup PySem.F.called_bool.made (by decide) prog w A.in1 _ s₁ ⟨PySem.typeIs_bool _ _, rfl, hq b _ hp⟩⟩
/-- an own number method on the left, a value of a built-in type on the right -/
theorem bin_ref {op : Operator} {b : Value} {fo ro rc : Option Value} {Q : Value → Shared → Prop} (F : Fr h₀ L s.heap m) (X₀ : K.In h₀) (I : InstAt s.heap x ox C od) (hb : Looks (model prog w) s.heap (typeOf b) (.type T)) (hc : selfFirst K C = true)
    (hs : findIn K (.ref C) (PySem.dunder op.info.2) = some (some (.ref f))) (hf : isFn K (.ref f) = true) (hr : findIn K (.ref C) (dunderR op.info.2) = some rc) (hp : rc = none ∨ ∃ g : Addr, rc = some (.ref g))
    (h1 : findIn K (.type T) (PySem.dunder op.info.2) = some fo) (h2 : findIn K (.type T) (dunderR op.info.2) = some ro) (hsub : subIn K (.type T) (.ref C) = some false)
    (h : wpAny (model prog w) A (call (.ref f) [.ref x, b]) (PySem.W.CmpBack Q) E s) : wpAny (model prog w) A (binaryOp op (.ref x) b) Q E s := by
  have Xs := X₀.keeps F.keep
  obtain ⟨cd, more, hcd, hm⟩ := ksp_first hc
  cases hi : op.info with
  | mk sym nm' =>
  rw [hi] at hs hr h1 h2
  have hs' : findIn K (.ref C) (PySem.dunder nm') = some (some (.ref f)) := hs
  have once := ksp_try Xs I hs' hf h
  obtain ⟨hh, g, d, tk, os⟩ := s
  have La : Looks (model prog w) hh (typeOf (.ref x)) (.ref C) := I.type
  have Lc : Looks (model prog w) hh (fillsNumberSlot (.ref C) nm') true := fills_K Xs hcd hm hs
  have Ld : Looks (model prog w) hh (fillsNumberSlot (.type T) nm') ((fo.isSome && !isSeqSlot fo) || (ro.isSome && !isSeqSlot ro)) := ksp_fillsT Xs h1 h2
  have Le : Looks (model prog w) hh (isSubtype (.type T) (.ref C)) false := looks_subIn Xs hsub
  have Lf : Looks (model prog w) hh (numberSlotInPython (.ref C) nm') true := ksp_inPy Xs hs hr hp
  have Lg : Looks (model prog w) hh (numberSlotInPython (.type T) nm') false := Looks.of_pure rfl
  have Lh : Looks (model prog w) hh (typeLookup (.type T) (dunderR nm')) ro := looks_findIn Xs h2
  generalize ((fo.isSome && !isSeqSlot fo) || (ro.isSome && !isSeqSlot ro)) = right at Ld
  have hne : (Value.ref C == Value.type T) = false := Bool.eq_false_iff.mpr fun q => by cases beq_iff_eq.mp q
  simp only [binaryOp, hi]
  refine wpAny_holding (wpAny_bind ?_)
  unfold binaryOp1
  refine wpAny_bind (La.at (wpAny_bind (hb.at (wpAny_bind (Lc.at ?_)))))
  simp only [hne, Bool.false_eq_true, if_false]
  cases right with
  | false =>
    ksp_lk
    refine wpAny_mono once (fun r s' hr' => ?_) fun _ _ e => e
    obtain ⟨v, rfl, hq⟩ := hr'
    ksp_lk
    exact hq
  | true =>
    ksp_lk
    refine wpAny_mono once (fun r s' hr' => ?_) fun _ _ e => e
    obtain ⟨v, rfl, hq⟩ := hr'
    ksp_lk
    exact hq
end
end PLO

set_option Elab.async false
set_option linter.all false
set_option maxRecDepth 100000
set_option maxHeartbeats 4000000
/-! operators and built-ins that an own method serves, as forms -/
namespace PL
open PySem PySem.Spec PyProof.Rows L2
variable [B : Bs]
omit [B : Bs] in
/-- what else is known of an own class -/
structure ClsX (K : PySem.W.Frag) (C : Addr) : Prop where
  sf : PySem.W.selfFirst K C = true
  ns : PySem.W.noSeq K C = true
  ra : PySem.W.findIn K (.ref C) (PySem.dunderR "add") = some none
  rs : PySem.W.findIn K (.ref C) (PySem.dunderR "sub") = some none
  ca : PySem.W.findIn K (.ref C) "__class__" = some (some (.builtin "object.__class__"))
  cn : PySem.W.specialIn K (.builtin "object.__class__") "__get__" = some (some (.builtin "getset_descriptor.__get__"))
  ct : PySem.W.takesIn K (.builtin "object.__class__") = some true
  cm : PySem.W.mroIn K C (.type "object") = some true
  ty : PySem.W.typeIn K (.ref C) = some (.type "type")
omit [B : Bs] in
structure ClsA (g : G) (C : Str) : Prop where
  ex : ∃ Ca : Addr, clsK g.K C = some Ca ∧ Cls g.K Ca ∧ ClsX g.K Ca

/-! ### a value's built-in type -/
omit [B : Bs] in
inductive Tb where
  | non | bl | int | str | lst | tup
omit [B : Bs] in
def Tb.name : Tb → String
  | .non => "NoneType"
  | .bl => "bool"
  | .int => "int"
  | .str => "str"
  | .lst => "list"
  | .tup => "tuple"
omit [B : Bs] in
def tbS (S : Store) : D → Option Tb
  | .non => some .non
  | .bl _ => some .bl
  | .int _ => some .int
  | .str _ => some .str
  | .lst _ => some .lst
  | .tup _ => some .tup
  | .ref n => (match S[n]? with
    | some (some (.lst _)) => some .lst
    | _ => none)
  | _ => none
omit [B : Bs] in
def TbV (H : Hp) (v : V) : Tb → Prop
  | .non => v = .non
  | .bl => ∃ b, v = .bl b
  | .int => ∃ i, v = .int i
  | .str => ∃ x, v = .str x
  | .lst => ∃ a xs, v = .ref a ∧ H a = some (.lst xs)
  | .tup => ∃ a xs, v = .ref a ∧ H a = some (.tup xs)
theorem tb_at {K : PySem.W.Frag} {as : List Addr} {H0 H : Hp} {S : Store} {v : V} {d : D} {T : Tb} (r : Sr K as H0 H S) (p : Rp K as H0 v d) (h : tbS S d = some T) : TbV H v T := by
  cases p with
  | non => cases h; rfl
  | bl b => cases h; exact ⟨b, rfl⟩
  | int b => cases h; exact ⟨b, rfl⟩
  | str b => cases h; exact ⟨b, rfl⟩
  | lst h1 h2 => cases h; exact ⟨_, _, rfl, r.ex _ _ h1⟩
  | tup h1 h2 => cases h; exact ⟨_, _, rfl, r.ex _ _ h1⟩
  | ref ha =>
    rename_i a n
    unfold tbS at h
    dsimp only at h
    split at h
    · rename_i xs q
      cases h
      obtain ⟨_, vs, h1, _⟩ := r.cell n _ a q ha
      exact ⟨a, vs, rfl, h1⟩
    · cases h
  | _ => cases h
omit [B : Bs] in
theorem looks_tb {X : Cx} {pins : List (Addr × Obj)} {σ : L2.St} {H : Hp} {s : Shared} {v : V} {u : Value} {T : Tb} (I : Inv X pins σ H s) (rv : RelV v u) (h : TbV H v T) : PySem.W.Looks (model X.prog X.w) s.heap (typeOf u) (.type T.name) := by
  cases T with
  | non => cases h; cases rv; exact .of_pure rfl
  | bl => obtain ⟨b, rfl⟩ := h; cases rv; exact .of_pure rfl
  | int => obtain ⟨b, rfl⟩ := h; obtain ⟨t, rfl⟩ := rv; exact .of_pure rfl
  | str => obtain ⟨b, rfl⟩ := h; obtain ⟨t, rfl⟩ := rv; exact .of_pure rfl
  | lst =>
    obtain ⟨a, xs, rfl, ha⟩ := h
    cases rv
    obtain ⟨_, its, n, _, e⟩ := I.hok a _ ha
    exact fun A Q E s' k q => wpAny_typeOf_ref (k _ _ e) q
  | tup =>
    obtain ⟨a, xs, rfl, ha⟩ := h
    cases rv
    obtain ⟨_, its, _, o, e, hc, _⟩ := I.hok a _ ha
    exact fun A Q E s' k q => wpAny_typeOf_ref (k _ _ e) (by rw [hc]; exact q)
omit [B : Bs] in
theorem tb_sub (K : PySem.W.Frag) (C : Addr) (T : Tb) : PySem.W.subIn K (.type T.name) (.ref C) = some false := by cases T <;> kernel_rfl
omit [B : Bs] in
theorem tb_bin (K : PySem.W.Frag) (T : Tb) (nm : String) (h : nm = "add" ∨ nm = "sub") : ∃ fo ro, PySem.W.findIn K (.type T.name) (PySem.dunder nm) = some fo ∧ PySem.W.findIn K (.type T.name) (PySem.dunderR nm) = some ro := by
  have z : ∀ y : Str, (fastLookup T.name y).isSome = true → ∃ fo, PySem.W.findIn K (.type T.name) y = some fo := fun y hy => by
    cases q : fastLookup T.name y with
    | none => rw [q] at hy; cases hy
    | some fo => exact ⟨fo, q⟩
  rcases h with rfl | rfl <;> cases T <;>
    (obtain ⟨fo, h1⟩ := z (PySem.dunder _) (by kernel_rfl)
     obtain ⟨ro, h2⟩ := z (PySem.dunderR _) (by kernel_rfl)
     exact ⟨fo, ro, h1, h2⟩)
section
variable {g : G} {og sc : Scope}
/-- a method's facts, ready -/
def OwnM (g : G) (m : Str) (σ : L2.St) (x : V) (vs : List V) (H : Hp) (Q : VK) : Prop := ∃ a Ca dx gs f k F, x = .ref a ∧ H a = some (.ins Ca dx gs) ∧ Cls g.K Ca ∧ ClsX g.K Ca ∧ Meth g.K Ca m f ∧ PySem.W.fnIn g.K f = true ∧ k + 2 ≤ g.L ∧ FnR g.P g.w g.K g.mg g.base (L2.CX g.P g.w) k f (spM g.K B.cls F) ∧ spM g.K B.cls F (x :: vs) H Q (WEm g.mr σ)
omit [B : Bs] in
def ownO (mr : Bool) (mts : List (Str × Str × Fn)) (m : Str) (d : D) (ds : List D) (ρ : Rho) (S : Store) : R D := match insOf S d with
  | some (C, _) => (match lkM mts C m with
    | some F => (F (d :: ds) S).am mr ρ
    | none => .no)
  | none => .no
theorem own_says {mts : List (Str × Str × Fn)} {m : Str} {as : List Addr} {H0 H : Hp} {ρ : Rho} {S : Store} {σ : L2.St} {v : V} {d : D} {vs : List V} {ds : List D} {Q : VK} (hm : ∀ C F, lkM mts C m = some F → MtA g C m F ∧ ClsA g C) (r : Sr g.K as H0 H S) (e : Er g.K as H0 σ ρ)
    (p : Rp g.K as H0 v d) (ps : RpA g.K as H0 vs ds) (h : (ownO g.mr mts m d ds ρ S).sat (QE g.K as H0 H Q) NoX) : OwnM g m σ v vs H Q := by
  unfold ownO at h
  split at h
  · rename_i C fs hi
    obtain ⟨n, a', Ca, dx, gs, rfl, ha', hS, rfl, hC, hH, hk, hr⟩ := ins_at r p hi
    split at h
    · rename_i F hF
      obtain ⟨MA, CA⟩ := hm C F hF
      obtain ⟨Ca', f, k, z1, z2, z3, z4, z5, z6⟩ := MA.ex
      obtain ⟨Cb, y1, y2, y3⟩ := CA.ex
      rw [hC] at z2 y1
      cases z2; cases y1
      exact ⟨a', Ca, dx, gs, f, k, F, rfl, hH, z3, y3, z4, z5, z1, z6, spm_at MA.K e Nx.refl r (.cons p ps) h⟩
    · exact h.elim
  · exact h.elim
theorem cmp_back {X : Cx} {pins : List (Addr × Obj)} {σ : L2.St} {Q : VK} {u : Value} {s : Shared} (h : EP X pins σ Q u s) : PySem.W.CmpBack (EP X pins σ Q) u s := by
  cases u with
  | notImplemented =>
    obtain ⟨v, H', _, rv, _⟩ := h
    cases v <;> first | (obtain ⟨t, e⟩ := rv; cases e; done) | cases rv
  | _ => exact h
/-- the instance as it stands -/
theorem own_inst {X : Cx} {pins : List (Addr × Obj)} {σ : L2.St} {H : Hp} {s : Shared} {a Ca dx : Addr} {gs : List (Str × V)} (I : Inv X pins σ H s) (h : H a = some (.ins Ca dx gs)) : ∃ ox od, PySem.W.InstAt s.heap a ox Ca od ∧ ox.data = .plain :=
  StX.insC_at I (.inr ⟨dx, gs, h⟩)

/-! ### two-place operators with the slots told -/
omit [B : Bs] in
abbrev Op2X := D → D → Rho → Store → R D
def OpRS (X : Cx) (f : Value → Value → Sem Value) (r : L2.St → R2) : Prop :=
  ∀ (pins : List (Addr × Obj)) (s : Shared) (σ : L2.St) (H : Hp) (x y : V) (v u : Value) (Q : VK), Inv X pins σ H s → RelV x v → RelV y u → r σ x y H Q → wpAny (model X.prog X.w) X.A (f v u) (EP X pins σ Q) X.xe s
omit [B : Bs] in
theorem OpRS.or {X : Cx} {f : Value → Value → Sem Value} {r r' : L2.St → R2} (h : OpRS X f r) (h' : OpRS X f r') : OpRS X f (fun σ x y H Q => r σ x y H Q ∨ r' σ x y H Q) := by
  intro pins s σ H x y v u Q I rx ry q
  rcases q with q | q
  · exact h pins s σ H x y v u Q I rx ry q
  · exact h' pins s σ H x y v u Q I rx ry q
omit [B : Bs] in
theorem OpRS.of {X : Cx} {f : Value → Value → Sem Value} {r : R2} (h : OpR X f r) : OpRS X f (fun _ => r) := fun pins s σ H x y v u Q I rx ry q => h pins s σ H x y v u Q I rx ry q
def OpSX (K : PySem.W.Frag) (r : L2.St → R2) (o : Op2X) : Prop := ∀ as H0 H ρ S σ v u d e Q, Sr K as H0 H S → Er K as H0 σ ρ → Rp K as H0 v d → Rp K as H0 u e → (o d e ρ S).sat (QE K as H0 H Q) NoX → r σ v u H Q
omit [B : Bs] in
def tOpS (r : L2.St → R2) (ta tb : TE) : TE := fun σ H Q => ta σ H fun x H1 => tb σ H1 fun y H2 => r σ x y H2 Q
omit [B : Bs] in
def eOpX (o : Op2X) (a b : Ev) : Ev := fun ρ S => (a ρ S).bind fun x S1 => (b ρ S1).bind fun y S2 => o x y ρ S2
theorem says_opX {K : PySem.W.Frag} {r : L2.St → R2} {o : Op2X} {ta tb : TE} {a b : Ev} (ho : OpSX K r o) (ha : SaysE K ta a) (hb : SaysE K tb b) : SaysE K (tOpS r ta tb) (eOpX o a b) := by
  intro as H0 H ρ S σ Q r e h
  refine ha as H0 H ρ S σ _ r e (R.sat_mono (R.sat_bind h) (fun x S1 h1 => ?_) fun _ _ _ _ z => z)
  intro v as1 H01 H1 n1 r1 p1
  have e1 := e.mono n1.h0 n1.pre
  refine hb as1 H01 H1 ρ S1 σ _ r1 e1 (R.sat_mono (R.sat_bind h1) (fun y S2 h2 => ?_) fun _ _ _ _ z => z)
  intro u as2 H02 H2 n2 r2 p2
  exact ho as2 H02 H2 ρ S2 σ v u x y Q r2 (e1.mono n2.h0 n2.pre) (p1.mono n2.h0 n2.pre) p2 (R.sat_mono h2 (fun _ _ q => QE.next (n1.trans n2) q) fun _ _ _ _ z => z)
theorem se_binX {op : Operator} {r : L2.St → R2} {o : Op2X} {ea eb : Expr} {a b : Ev} {pos : Pos} (hr : ∀ X, Cxt g og sc X → OpRS X (binaryOp op) r) (ho : OpSX g.K r o) (ha : SE g og sc ea a) (hb : SE g og sc eb b) : SE g og sc (.BinOp ea op eb pos) (eOpX o a b) := by
  obtain ⟨ta, pa, sa⟩ := ha
  obtain ⟨tb, pb, sb⟩ := hb
  exact ⟨tOpS r ta tb, fun X c => ⟨fun pins s σ H Q I h => wpAny_BinOp (binT (pa X c) (pb X c) I h fun v u s2 x y H2 I2 rx ry q => hr X c pins s2 σ H2 x y v u Q I2 rx ry q)⟩, says_opX ho sa sb⟩
theorem se_cmpX {op : CmpOp} {r : L2.St → R2} {o : Op2X} {ea eb : Expr} {a b : Ev} {pos : Pos} (hm : isSetE eb = false) (hr : ∀ X, Cxt g og sc X → OpRS X (compareOp op) r) (ho : OpSX g.K r o) (ha : SE g og sc ea a) (hb : SE g og sc eb b) : SE g og sc (.Compare ea [op] [eb] pos) (eOpX o a b) := by
  obtain ⟨ta, pa, sa⟩ := ha
  obtain ⟨tb, pb, sb⟩ := hb
  exact ⟨tOpS r ta tb, fun X c => ⟨fun pins s σ H Q I h => wpAny_Compare1 (binT (pa X c) (pb X c) I h fun v u s2 x y H2 I2 rx ry q => hr X c pins s2 σ H2 x y v u Q I2 rx ry q) (noMark hm)⟩, says_opX ho sa sb⟩
theorem st_cmpX {op : CmpOp} {r : L2.St → R2} {o : Op2X} {ea eb : Expr} {a b : Ev} {pos : Pos} (hm : isSetE eb = false) (hr : ∀ X, Cxt g og sc X → OpRS X (compareOp op) r) (ho : OpSX g.K r o) (ha : SE g og sc ea a) (hb : SE g og sc eb b) : ST g og sc (.Compare ea [op] [eb] pos) (asT (eOpX o a b)) := by
  obtain ⟨ta, pa, sa⟩ := ha
  obtain ⟨tb, pb, sb⟩ := hb
  refine ⟨tTest (tOpS r ta tb), fun X c => ⟨fun pins s σ H Q I h => ?_⟩, says_asT (says_opX ho sa sb)⟩
  refine wpAny_isTrue_Compare1 (thn ((pa X c).run pins s σ H _ I h) fun v s1 ⟨x, H1, I1, r1, q1⟩ => thn ((pb X c).run pins s1 σ H1 _ I1 q1) fun u s2 ⟨y, H2, I2, r2, q2⟩ =>
    thn (hr X c pins s2 σ H2 x y v u _ I2 r1 r2 q2) fun c' s3 ⟨z, H3, I3, r3, k, e, q3⟩ => ?_) (noMark hm)
  subst e
  cases r3
  exact wpAny_truthy_bool ⟨H3, I3, q3⟩
/-! ### the own method of the left one -/
omit [B : Bs] in
/-- where there is an instance, its method; else the operator of the built-in types -/
def oLeft (mr : Bool) (mts : List (Str × Str × Fn)) (m : Str) (o : Op2) : Op2X := fun d e ρ S => match insOf S d with
  | some _ => (match tbS S e with
    | some _ => ownO mr mts m d [e] ρ S
    | none => .no)
  | none => ofO (o S d e) S
def rLeft (g : G) (m : Str) (r : R2) : L2.St → R2 := fun σ x y H Q => r x y H Q ∨ (∃ T, TbV H y T) ∧ OwnM g m σ x [y] H Q
theorem opsx_left {mts : List (Str × Str × Fn)} {m : Str} {r : R2} {o : Op2} (hm : ∀ C F, lkM mts C m = some F → MtA g C m F ∧ ClsA g C) (ho : OpS g.K r o) : OpSX g.K (rLeft g m r) (oLeft g.mr mts m o) := by
  intro as H0 H ρ S σ v u d e Q r0 er p1 p2 h
  unfold oLeft at h
  split at h
  · split at h
    · rename_i T hT
      exact .inr ⟨⟨T, tb_at r0 p2 hT⟩, own_says hm r0 er p1 (.cons p2 .nil) h⟩
    · exact h.elim
  · obtain ⟨z, ez, q⟩ := sat_ofO h
    exact .inl (ho as H0 H S v u d e z Q r0 p1 p2 ez q)
theorem opr_left {X : Cx} (c : Cxt g og sc X) {op : Operator} {nm : String} {m : Str} {r : R2} (hop : op.info.2 = nm) (hnm : nm = "add" ∨ nm = "sub") (hm : PySem.dunder nm = m) (hr : OpR X (binaryOp op) r) : OpRS X (binaryOp op) (rLeft g m r) := by
  refine OpRS.or (.of hr) fun pins s σ H x y v u Q I rx ry q => ?_
  obtain ⟨⟨T, hT⟩, a, Ca, dx, gs, f, k, F, rfl, ha, hc, hx, hmt, hfi, hk, FR, q⟩ := q
  obtain rfl : v = Value.ref a := rx
  obtain ⟨ox, od, J, _⟩ := own_inst I ha
  obtain ⟨mm, hF⟩ := I.fr
  obtain ⟨fo, ro, h1, h2⟩ := tb_bin X.K T nm hnm
  rw [← c.K] at hc hx hmt
  have hrr : PySem.W.findIn X.K (.ref Ca) (PySem.dunderR nm) = some none := by
    rcases hnm with e | e
    · rw [e]; exact hx.ra
    · rw [e]; exact hx.rs
  refine PLO.bin_ref hF I.ok.mod.kin J (looks_tb I ry hT) hx.sf (by rw [hop, hm]; exact hmt.at_) hmt.fn (by rw [hop]; exact hrr) (.inl rfl) (by rw [hop]; exact h1) (by rw [hop]; exact h2) (tb_sub _ _ _) ?_
  exact thn (run_own c rfl (c.room.mono (by omega)) FR I (us := [.ref a, u]) (vs := [.ref a, y]) (.cons rfl (.cons ry .nil)) q) fun u' s' z => cmp_back z
/-! comparisons: the left one an instance, the right one of the same class or of a built-in type -/
omit [B : Bs] in
def oCmpL (mr : Bool) (mts : List (Str × Str × Fn)) (m : Str) (o : Op2) : Op2X := fun d e ρ S => match insOf S d with
  | some (C, _) => (match tbS S e, insOf S e with
    | some _, _ => ownO mr mts m d [e] ρ S
    | none, some (C', _) => (match eqS C C' with
      | true => ownO mr mts m d [e] ρ S
      | false => .no)
    | none, none => .no)
  | none => ofO (o S d e) S
def rCmpL (g : G) (m : Str) (r : R2) : L2.St → R2 := fun σ x y H Q => r x y H Q ∨ ((∃ T, TbV H y T) ∨ ∃ a b Ca dx dy gs hs, x = .ref a ∧ y = .ref b ∧ H a = some (.ins Ca dx gs) ∧ H b = some (.ins Ca dy hs)) ∧ OwnM g m σ x [y] H Q
theorem opsx_cmpL {mts : List (Str × Str × Fn)} {m : Str} {r : R2} {o : Op2} (hm : ∀ C F, lkM mts C m = some F → MtA g C m F ∧ ClsA g C) (ho : OpS g.K r o) : OpSX g.K (rCmpL g m r) (oCmpL g.mr mts m o) := by
  intro as H0 H ρ S σ v u d e Q r0 er p1 p2 h
  unfold oCmpL at h
  split at h
  · rename_i C fs hi
    split at h
    · rename_i T hT
      exact .inr ⟨.inl ⟨T, tb_at r0 p2 hT⟩, own_says hm r0 er p1 (.cons p2 .nil) h⟩
    · rename_i C' fs' _ hi'
      split at h
      · rename_i hq
        have := eqS_ok hq
        subst this
        obtain ⟨n, a, Ca, dx, gs, _, _, _, e1, hC, hH, _, _⟩ := ins_at r0 p1 hi
        obtain ⟨n', a', Ca', dx', gs', _, _, _, e1', hC', hH', _, _⟩ := ins_at r0 p2 hi'
        rw [hC] at hC'
        cases hC'
        exact .inr ⟨.inr ⟨a, a', Ca, dx, dx', gs, gs', e1, e1', hH, hH'⟩, own_says hm r0 er p1 (.cons p2 .nil) h⟩
      · exact h.elim
    · exact h.elim
  · obtain ⟨z, ez, q⟩ := sat_ofO h
    exact .inl (ho as H0 H S v u d e z Q r0 p1 p2 ez q)
theorem opr_cmpL {X : Cx} (c : Cxt g og sc X) {op : CmpOp} {m : Str} {r : R2} (hop : compareOp op = richCompare op) (hm : (cmpInfo op).2.1 = m) (hr : OpR X (compareOp op) r) : OpRS X (compareOp op) (rCmpL g m r) := by
  refine OpRS.or (.of hr) fun pins s σ H x y v u Q I rx ry q => ?_
  obtain ⟨hy, a, Ca, dx, gs, f, k, F, rfl, ha, hc, hx, hmt, hfi, hk, FR, q⟩ := q
  obtain rfl : v = Value.ref a := rx
  obtain ⟨ox, od, J, _⟩ := own_inst I ha
  obtain ⟨mm, hF⟩ := I.fr
  rw [← c.K] at hc hx hmt
  rw [hop]
  have run := thn (run_own c rfl (c.room.mono (by omega)) FR I (us := [.ref a, u]) (vs := [.ref a, y]) (.cons rfl (.cons ry .nil)) q) fun u' s' z => cmp_back z
  rcases hy with ⟨T, hT⟩ | ⟨a', b, Cb, dx', dy, gs', hs, e1, e2, h1, h2⟩
  · refine PySem.W.cmp_K (c.room.units0) hF I.ok.mod.kin J (looks_tb I ry hT) ?_ (by rw [hm]; exact hmt.at_) hmt.fn run
    unfold PySem.W.notFirst
    rw [tb_sub]
    simp
  · cases e1
    subst e2
    obtain rfl : u = Value.ref b := ry
    rw [ha] at h1
    cases h1
    obtain ⟨oy, oe, J', _⟩ := own_inst I h2
    exact PySem.W.cmp_K (c.room.units0) hF I.ok.mod.kin J J'.type (by simp [PySem.W.notFirst]) (by rw [hm]; exact hmt.at_) hmt.fn run
/-! x in o -/
omit [B : Bs] in
/-- the answer of __contains__ must be a truth -/
def oInR (mr : Bool) (mts : List (Str × Str × Fn)) (neg : Bool) (o : Op2) : Op2X := fun d e ρ S => match insOf S e with
  | some _ => (ownO mr mts "__contains__" e [d] ρ S).bind fun z S1 => (match z with
    | .bl b => .ok (.bl (xor neg b)) S1
    | _ => .no)
  | none => ofO (o S d e) S
def rInR (g : G) (neg : Bool) (r : R2) : L2.St → R2 := fun σ x y H Q => r x y H Q ∨ OwnM g "__contains__" σ y [x] H fun z H' => ∃ b, z = .bl b ∧ Q (.bl (xor neg b)) H'
theorem own_bind {P : D → Store → Prop} {r : R D} {f : D → Store → R D} (h : (r.bind f).sat P NoX) : r.sat (fun a S => (f a S).sat P NoX) NoX := R.sat_bind h
theorem opsx_inR {mts : List (Str × Str × Fn)} {neg : Bool} {r : R2} {o : Op2} (hm : ∀ C F, lkM mts C "__contains__" = some F → MtA g C "__contains__" F ∧ ClsA g C) (ho : OpS g.K r o) : OpSX g.K (rInR g neg r) (oInR g.mr mts neg o) := by
  intro as H0 H ρ S σ v u d e Q r0 er p1 p2 h
  unfold oInR at h
  split at h
  · refine .inr (own_says hm r0 er p2 (.cons p1 .nil) (R.sat_mono (R.sat_bind h) (fun z S1 h1 => ?_) fun _ _ _ _ z => z))
    intro w as1 H01 H1 n1 r1 p3
    cases z with
    | bl b =>
      cases p3
      exact ⟨b, rfl, h1 _ as1 H01 H1 n1 r1 (.bl _)⟩
    | _ => exact h1.elim
  · obtain ⟨z, ez, q⟩ := sat_ofO h
    exact .inl (ho as H0 H S v u d e z Q r0 p1 p2 ez q)
theorem opr_inR {X : Cx} (c : Cxt g og sc X) {r r' : R2} (hr : OpR X (compareOp .In) r) (hr' : OpR X (compareOp .NotIn) r') : OpRS X (compareOp .In) (rInR g false r) ∧ OpRS X (compareOp .NotIn) (rInR g true r') := by
  refine ⟨OpRS.or (.of hr) fun pins s σ H x y v u Q I rx ry q => ?_, OpRS.or (.of hr') fun pins s σ H x y v u Q I rx ry q => ?_⟩
  all_goals
    obtain ⟨a, Ca, dx, gs, f, k, F, rfl, ha, hc, hx, hmt, hfi, hk, FR, q⟩ := q
    obtain rfl : u = Value.ref a := ry
    obtain ⟨ox, od, J, _⟩ := own_inst I ha
    obtain ⟨mm, hF⟩ := I.fr
    rw [← c.K] at hc hx hmt
    have run := run_own c rfl (c.room.mono (by omega)) FR I (us := [.ref a, v]) (vs := [.ref a, x]) (.cons rfl (.cons rx .nil)) q
  · refine PySem.W.in_K hF I.ok.mod.kin J hmt.at_ hmt.fn (thn run fun w s' ⟨z, H', I', rz, b, ez, qz⟩ => ?_)
    subst ez
    cases rz
    exact wpAny_truthy_bool ⟨.bl _, H', I', rfl, by simpa using qz⟩
  · refine PySem.W.notIn_K hF I.ok.mod.kin J hmt.at_ hmt.fn (thn run fun w s' ⟨z, H', I', rz, b, ez, qz⟩ => ?_)
    subst ez
    cases rz
    exact wpAny_truthy_bool ⟨.bl _, H', I', rfl, by simpa using qz⟩
/-! o[x] -/
omit [B : Bs] in
def oIxL (mr : Bool) (mts : List (Str × Str × Fn)) (o : Op2) : Op2X := fun d e ρ S => match insOf S d with
  | some _ => ownO mr mts "__getitem__" d [e] ρ S
  | none => ofO (o S d e) S
def rIxL' (g : G) (r : R2) : L2.St → R2 := fun σ x y H Q => r x y H Q ∨ OwnM g "__getitem__" σ x [y] H Q
theorem opsx_ixL {mts : List (Str × Str × Fn)} {r : R2} {o : Op2} (hm : ∀ C F, lkM mts C "__getitem__" = some F → MtA g C "__getitem__" F ∧ ClsA g C) (ho : OpS g.K r o) : OpSX g.K (rIxL' g r) (oIxL g.mr mts o) := by
  intro as H0 H ρ S σ v u d e Q r0 er p1 p2 h
  unfold oIxL at h
  split at h
  · exact .inr (own_says hm r0 er p1 (.cons p2 .nil) h)
  · obtain ⟨z, ez, q⟩ := sat_ofO h
    exact .inl (ho as H0 H S v u d e z Q r0 p1 p2 ez q)
end
end PL

set_option Elab.async false
set_option linter.all false
set_option maxRecDepth 100000
set_option maxHeartbeats 4000000
/-! subscripts, one-place operators, len, bool, str, calls of instances, classmethods, isinstance of own classes -/
namespace PL
open PySem PySem.Spec PyProof.Rows L2
variable [B : Bs]
section
variable {g : G} {og sc : Scope}

/-! ### o[x] -/
omit [B : Bs] in
theorem sub_py {e : Expr} (h : isSliceE e = false) (o i : Value) : subscripted e true o i = runValue (.builtin "lifetime.subscript" ⟨[o, i], []⟩) := by
  cases e <;> first | rfl | cases h
theorem se_ixX {mts : List (Str × Str × Fn)} {r : R2} {o : Op2} {ea eb : Expr} {a b : Ev} {pos : Pos} (hm : ∀ C F, lkM mts C "__getitem__" = some F → MtA g C "__getitem__" F ∧ ClsA g C) (hp : PlainIx eb) (hp2 : isSliceE eb = false) (hr : ∀ X, Cxt g og sc X → IxR X r) (ho : OpS g.K r o) (ha : SE g og sc ea a) (hb : SE g og sc eb b) :
    SE g og sc (.Subscript ea eb pos) (eOpX (oIxL g.mr mts o) a b) := by
  obtain ⟨ta, pa, sa⟩ := ha
  obtain ⟨tb, pb, sb⟩ := hb
  refine ⟨tOpS (rIxL' g r) ta tb, fun X c => ⟨fun pins s σ H Q I h => Subscript_ (binT (pa X c) (pb X c) I h fun v u s2 x y H2 I2 rx ry q => ?_)⟩, says_opX (opsx_ixL hm ho) sa sb⟩
  rcases q with q | ⟨a', Ca, dx, gs, f, k, F, rfl, ha, hc, hx, hmt, hfi, hk, FR, q⟩
  · exact hr X c ea eb pins s2 σ H2 x y v u Q I2 rx ry q (hp _ _)
  · obtain rfl : v = Value.ref a' := rx
    obtain ⟨ox, od, J, _⟩ := own_inst I2 ha
    obtain ⟨mm, hF⟩ := I2.fr
    rw [← c.K] at hc hx hmt hfi
    have hr1 : Room (k + 1) X.A := c.room.mono (by omega)
    exact PySem.W.sub_K hF I2.ok.mod.kin J hmt.at_ hfi hmt.fn (run_own c (A := X.A.in1) rfl hr1.in1 FR I2 (us := [.ref a', u]) (vs := [.ref a', y]) (.cons rfl (.cons ry .nil)) q) (sub_py hp2 _ _)

/-! ### ~o -/
omit [B : Bs] in
def eInv (mr : Bool) (mts : List (Str × Str × Fn)) (a : Ev) : Ev := fun ρ S => (a ρ S).bind fun x S1 => ownO mr mts "__invert__" x [] ρ S1
theorem se_inv {mts : List (Str × Str × Fn)} {ea : Expr} {a : Ev} {pos : Pos} (hm : ∀ C F, lkM mts C "__invert__" = some F → MtA g C "__invert__" F ∧ ClsA g C) (ha : SE g og sc ea a) : SE g og sc (.UnaryOp .Invert ea pos) (eInv g.mr mts a) := by
  obtain ⟨ta, pa, sa⟩ := ha
  refine ⟨fun σ H Q => ta σ H fun x H1 => OwnM g "__invert__" σ x [] H1 Q, fun X c => ⟨fun pins s σ H Q I h => UnaryOp_ (thn ((pa X c).run pins s σ H _ I h) fun v s1 ⟨x, H1, I1, r1, q1⟩ => ?_)⟩, fun as H0 H ρ S σ Q r e h => ?_⟩
  · obtain ⟨a', Ca, dx, gs, f, k, F, rfl, ha, hc, hx, hmt, hfi, hk, FR, q⟩ := q1
    obtain rfl : v = Value.ref a' := r1
    obtain ⟨ox, od, J, _⟩ := own_inst I1 ha
    obtain ⟨mm, hF⟩ := I1.fr
    rw [← c.K] at hc hx hmt hfi
    exact PySem.W.ksp_inv hF I1.ok.mod.kin J hmt.at_ hmt.fn (run_own c rfl (c.room.mono (by omega)) FR I1 (us := [.ref a']) (vs := [.ref a']) (.cons rfl .nil) q)
  · refine sa as H0 H ρ S σ _ r e (R.sat_mono (R.sat_bind h) (fun x S1 h1 => ?_) fun _ _ _ _ z => z)
    intro v as1 H01 H1 n1 r1 p1
    exact own_says hm r1 (e.mono n1.h0 n1.pre) p1 .nil (R.sat_mono h1 (fun _ _ q => QE.next n1 q) fun _ _ _ _ z => z)

/-! ### built-ins of one argument -/
def CallRS (X : Cx) (f : Value) (r : L2.St → List V → Hp → VK → Prop) : Prop :=
  ∀ (pins : List (Addr × Obj)) (s : Shared) (σ : L2.St) (H : Hp) (xs : List V) (us : List Value) (Q : VK), Inv X pins σ H s → Vals xs us → r σ xs H Q → wpAny (model X.prog X.w) X.A (call f us) (EP X pins σ Q) X.xe s
omit [B : Bs] in
abbrev FnX := List D → Rho → Store → R D
def CaSX (K : PySem.W.Frag) (r : L2.St → List V → Hp → VK → Prop) (o : FnX) : Prop := ∀ as H0 H ρ S σ vs ds Q, Sr K as H0 H S → Er K as H0 σ ρ → RpA K as H0 vs ds → (o ds ρ S).sat (QE K as H0 H Q) NoX → r σ vs H Q
omit [B : Bs] in
def eCaX (o : FnX) (b : Av) : Ev := fun ρ S => (b ρ S).bind fun xs S1 => o xs ρ S1
theorem se_callX {x : Str} {val : Value} {r : L2.St → List V → Hp → VK → Prop} {o : FnX} {e : Expr} {es : List Expr} {b : Av} {p pos : Pos} (hx : Blt g sc x) (hv : bootBuiltins x = some val) (hk : (∃ id, val = .builtin id) ∨ ∃ T, val = .type T) (hr : ∀ X, Cxt g og sc X → CallRS X val r) (ho : CaSX g.K r o) (hb : SA g og sc (e :: es) b) :
    SE g og sc (.Call (.Name x p) (e :: es) [] pos) (eCaX o b) := by
  obtain ⟨tb, pb, sb⟩ := hb
  obtain ⟨h1, h2, h3, h4⟩ := hx
  refine ⟨fun σ H Q => tb σ H fun vs H1 => r σ vs H1 Q, fun X c => ⟨fun pins s σ H Q I h => ?_⟩, fun as H0 H ρ S σ Q r' e' h => ?_⟩
  · obtain ⟨q1, q2⟩ := pb X c
    obtain ⟨s1, s2⟩ := any_cons (pos := pos) (env := X.env) q2
    refine wpAny_Call_Name_kw (ld_blt I (gl_of c h2) (by rw [c.mg]; exact h1) hv ?_ h3 h4)
    rcases hk with ⟨id, rfl⟩ | ⟨T, rfl⟩
    · exact PyProof.Rows.callWith_builtin1 (thn (q1.run pos pins s σ H _ I h) fun us s1 ⟨vs, H1, I1, r1, q1⟩ => hr X c pins s1 σ H1 vs us Q I1 r1 q1) s1 s2
    · exact PyProof.Rows.callWith_type1 (thn (q1.run pos pins s σ H _ I h) fun us s1 ⟨vs, H1, I1, r1, q1⟩ => hr X c pins s1 σ H1 vs us Q I1 r1 q1) s1 s2
  · refine sb as H0 H ρ S σ _ r' e' (R.sat_mono (R.sat_bind h) (fun xs S1 h1 => ?_) fun _ _ _ _ z => z)
    intro vs as1 H01 H1 n1 r1 p1
    exact ho as1 H01 H1 ρ S1 σ vs xs Q r1 (e'.mono n1.h0 n1.pre) p1 (R.sat_mono h1 (fun _ _ q => QE.next n1 q) fun _ _ _ _ z => z)
omit [B : Bs] in
/-- the one argument, if it is an instance -/
def isIns (S : Store) : List D → Bool
  | [x] => (insOf S x).isSome
  | _ => false
omit [B : Bs] in
/-- .. its method m, and what the answer must be -/
def oBl (mr : Bool) (mts : List (Str × Str × Fn)) (m : Str) (chk : D → Bool) (o : FnB) : FnX := fun ds ρ S => match isIns S ds with
  | true => (match ds with
    | [x] => (ownO mr mts m x [] ρ S).bind fun z S1 => (match chk z with
      | true => .ok z S1
      | false => .no)
    | _ => .no)
  | false => o ds S
def rBl (g : G) (m : Str) (C : V → Prop) (r : List V → Hp → VK → Prop) : L2.St → List V → Hp → VK → Prop := fun σ xs H Q => r xs H Q ∨ ∃ x, xs = [x] ∧ OwnM g m σ x [] H fun z H' => C z ∧ Q z H'
theorem casx_bl {mts : List (Str × Str × Fn)} {m : Str} {chk : D → Bool} {C : V → Prop} {o : FnB} {r : List V → Hp → VK → Prop} (hm : ∀ C F, lkM mts C m = some F → MtA g C m F ∧ ClsA g C) (hc : ∀ as H0 v d, Rp g.K as H0 v d → chk d = true → C v) (ho : CaM g.K r o) : CaSX g.K (rBl g m C r) (oBl g.mr mts m chk o) := by
  intro as H0 H ρ S σ vs ds Q r0 er ps h
  unfold oBl at h
  split at h
  · split at h
    · rename_i x
      cases ps with
      | cons p pn =>
        cases pn
        refine .inr ⟨_, rfl, own_says hm r0 er p .nil (R.sat_mono (R.sat_bind h) (fun z S1 h1 => ?_) fun _ _ _ _ z => z)⟩
        intro w as1 H01 H1 n1 r1 p3
        split at h1
        · rename_i hz
          exact ⟨hc _ _ _ _ p3 hz, h1 w as1 H01 H1 n1 r1 p3⟩
        · exact h1.elim
    · exact h.elim
  · exact .inl (ho as H0 H S vs ds Q r0 ps h)
omit [B : Bs] in
def isBlD : D → Bool
  | .bl _ => true
  | _ => false
omit [B : Bs] in
def isStrD : D → Bool
  | .str _ => true
  | _ => false
omit [B : Bs] in
def isLenD : D → Bool
  | .int (.ofNat n) => Nat.blt n 1000000
  | _ => false
theorem callrs_len {X : Cx} (c : Cxt g og sc X) {r : List V → Hp → VK → Prop} (hr : CallR X (.builtin "len") r) : CallRS X (.builtin "len") (rBl g "__len__" (fun v => ∃ n : Nat, v = .int n ∧ n < 1000000) r) := by
  intro pins s σ H xs us Q I rv q
  rcases q with q | ⟨x, rfl, a', Ca, dx, gs, f, k, F, rfl, ha, hc, hx, hmt, hfi, hk, FR, q⟩
  · exact hr pins s σ H xs us Q I rv q
  · obtain rfl := Vals.ref1 rv
    obtain ⟨ox, od, J, _⟩ := own_inst I ha
    obtain ⟨mm, hF⟩ := I.fr
    rw [← c.K] at hc hx hmt hfi
    have hr1 : Room (k + 1) X.A := c.room.mono (by omega)
    refine PySem.W.len_K hF I.ok.mod.kin J hmt.at_ hmt.fn (thn (run_own c (A := X.A.in1) rfl hr1.in1 FR I (us := [.ref a']) (vs := [.ref a']) (.cons rfl .nil) q) fun w s' ⟨z, H', I', rz, ⟨n, ez, hn⟩, qz⟩ => ?_)
    subst ez
    obtain ⟨t, rfl⟩ := rz
    have h63 : (1000000 : Int) < 2 ^ 63 := by decide
    exact ⟨⟨by omega, by omega⟩, .int n, H', I'.tok _, ⟨_, rfl⟩, qz⟩
theorem callrs_bool {X : Cx} (c : Cxt g og sc X) {r : List V → Hp → VK → Prop} (hr : CallR X (.type "bool") r) : CallRS X (.type "bool") (rBl g "__bool__" (fun v => ∃ b, v = .bl b) r) := by
  intro pins s σ H xs us Q I rv q
  rcases q with q | ⟨x, rfl, a', Ca, dx, gs, f, k, F, rfl, ha, hc, hx, hmt, hfi, hk, FR, q⟩
  · exact hr pins s σ H xs us Q I rv q
  · obtain rfl := Vals.ref1 rv
    obtain ⟨ox, od, J, _⟩ := own_inst I ha
    obtain ⟨mm, hF⟩ := I.fr
    rw [← c.K] at hc hx hmt hfi
    have hr2 : Room (k + 2) X.A := c.room.mono (by omega)
    refine PLO.bool_ref (P := fun b s' => EP X pins σ Q (.bool b) s') (PySem.W.truthy_K hF I.ok.mod.kin J hmt.at_ hmt.fn (thn (run_own c (A := X.A.in1.in1) rfl hr2.in1.in1 FR I (us := [.ref a']) (vs := [.ref a']) (.cons rfl .nil) q) fun w s' ⟨z, H', I', rz, ⟨b, ez⟩, qz⟩ => ?_)) fun b s' h => h
    subst ez
    cases rz
    exact ⟨.bl b, H', I', rfl, qz⟩
theorem callrs_str {X : Cx} (c : Cxt g og sc X) {r : List V → Hp → VK → Prop} (hr : CallR X (.type "str") r) : CallRS X (.type "str") (rBl g "__str__" (fun v => ∃ x, v = .str x) r) := by
  intro pins s σ H xs us Q I rv q
  rcases q with q | ⟨x, rfl, a', Ca, dx, gs, f, k, F, rfl, ha, hc, hx, hmt, hfi, hk, FR, q⟩
  · exact hr pins s σ H xs us Q I rv q
  · obtain rfl := Vals.ref1 rv
    obtain ⟨ox, od, J, _⟩ := own_inst I ha
    rw [← c.K] at hc hx hmt hfi
    have hr2 : Room (k + 2) X.A := c.room.mono (by omega)
    refine PySem.W.kso_call hr2.in1.in1.units0 I.kIn J hmt.at_ hmt.fn (thn (run_own c (A := X.A.in1.in1) rfl hr2.in1.in1 FR I (us := [.ref a']) (vs := [.ref a']) (.cons rfl .nil) q) fun w s' ⟨z, H', I', rz, ⟨b, ez⟩, qz⟩ => ?_)
    subst ez
    obtain ⟨t, rfl⟩ := rz
    exact ⟨.str b, H', I', ⟨_, rfl⟩, qz⟩

/-! ### x(..), x a local name that holds an instance -/
omit [B : Bs] in
def eCallI (mr : Bool) (mts : List (Str × Str × Fn)) (i : Nat) (b : Av) : Ev := fun ρ S => match ρ[i]? with
  | some (some x) => (match insOf S x with
    | some (C, _) => (match lkM mts C "__call__" with
      | some F => (b ρ S).bind fun xs S1 => (match insOf S1 x with
        | some (C', _) => (match eqS C C' with
          | true => (F (x :: xs) S1).am mr ρ
          | false => .no)
        | none => .no)
      | none => .no)
    | none => .no)
  | _ => .no
def tCallI (g : G) (i : Nat) (tb : TA) : TE := fun σ H Q => ∃ a, σ[i]? = some (some (.ref a)) ∧ tb σ H fun vs H1 => OwnM g "__call__" σ (.ref a) vs H1 Q
theorem se_callI {mts : List (Str × Str × Fn)} {i : Nat} {x : Str} {e : Expr} {es : List Expr} {b : Av} {p pos : Pos} (hN : g.N[i]? = some x) (hv : visB sc x = true) (hp : plainName x = true) (hm : ∀ C F, lkM mts C "__call__" = some F → MtA g C "__call__" F ∧ ClsA g C) (hb : SA g og sc (e :: es) b) :
    SE g og sc (.Call (.Name x p) (e :: es) [] pos) (eCallI g.mr mts i b) := by
  obtain ⟨tb, pb, sb⟩ := hb
  unfold plainName at hp
  simp only [Bool.and_eq_true, Bool.not_eq_true'] at hp
  refine ⟨tCallI g i tb, fun X c => ⟨fun pins s σ H Q I h => ?_⟩, fun as H0 H ρ S σ Q r e' h => ?_⟩
  · obtain ⟨a, hσ, q⟩ := h
    obtain ⟨q1, q2⟩ := pb X c
    obtain ⟨s1, s2⟩ := any_cons (pos := pos) (env := X.env) q2
    refine wpAny_Call_Name_kw (thn ((pe_var (pos := p) (i := i) (by rw [c.N]; exact hN) (by rw [c.scq]; exact vis_of hv) hp.1 hp.2).run pins s σ H (fun v H1 => v = .ref a ∧ H1 = H) I ⟨_, hσ, rfl, rfl⟩) fun u s1' ⟨v, H1, I1, rv, z⟩ => ?_)
    obtain ⟨ev, eH⟩ := z
    subst ev
    rw [eH] at I1
    obtain rfl : u = Value.ref a := rv
    refine StX.callO_with (thn (q1.run pos pins s1' σ H _ I1 q) fun us s2 ⟨vs, H2, I2, r, hO⟩ => ?_) s1 s2
    obtain ⟨a', Ca, dx, gs, f, k, F, ea, ha, hc, hx, hmt, hfi, hk, FR, q⟩ := hO
    cases ea
    obtain ⟨ox, od, J, hd⟩ := own_inst I2 ha
    rw [← c.K] at hc hx hmt hfi
    exact ⟨⟨Ca, ox, od, J, hd⟩, wpAny_call (PySem.W.kco_code I2.kIn J hd hmt.at_ hmt.fn hfi (code_own c rfl (c.room.mono (by omega)) FR I2 (us := .ref a :: us) (vs := .ref a :: vs) (.cons rfl r) q))⟩
  · unfold eCallI at h
    split at h
    · rename_i x' hρ
      split at h
      · rename_i C fs hi
        obtain ⟨v, h1, h2⟩ := e'.at_ i _ hρ
        obtain ⟨n, a, Ca, dx, gs, rfl, ha', hS, rfl, hC, hH, hk, hr⟩ := ins_at r h2 hi
        split at h
        · rename_i F hF
          refine ⟨a, h1, ?_⟩
          refine sb as H0 H ρ S σ _ r e' (R.sat_mono (R.sat_bind h) (fun xs S1 h1 => ?_) fun _ _ _ _ z => z)
          intro vs as1 H01 H1 n1 r1 p1
          refine own_says (mts := mts) (ρ := ρ) (d := .ref n) (ds := xs) hm r1 (e'.mono n1.h0 n1.pre) (h2.mono n1.h0 n1.pre) p1 ?_
          unfold ownO
          split at h1
          · rename_i C' fs' hi'
            split at h1
            · rename_i hq
              have := eqS_ok hq
              subst this
              simp only [hi', hF]
              exact R.sat_mono h1 (fun _ _ q => QE.next n1 q) fun _ _ _ _ z => z
            · exact h1.elim
          · exact h1.elim
        · exact h.elim
      · exact h.elim
    · exact h.elim

/-! ### a class's name; classmethods; isinstance -/
theorem se_cls {C : Str} {pos : Pos} (hm : ∃ Ca, clsK g.K C = some Ca ∧ g.mg C = some (.ref Ca)) (hd : (C == ("__debug__" : Str)) = false) (hg : sc.names.lookup C = some .globalImplicit) : SE g og sc (.Name C pos) (eC (.cls C)) := by
  obtain ⟨Ca, h1, h2⟩ := hm
  exact ⟨tC (.ref Ca), fun X c => ⟨fun pins s σ H Q I h => ld_glob I (gl_of c hg) (by rw [c.mg]; exact h2) ⟨.ref Ca, H, I, rfl, h⟩ hd⟩, says_c _ fun _ _ => .cls h1⟩
omit [B : Bs] in
def eCm (mr : Bool) (C : Str) (F : Fn) (b : Av) : Ev := fun ρ S => (b ρ S).bind fun xs S1 => (F (.cls C :: xs) S1).am mr ρ
theorem se_cm {C m : Str} {F : Fn} {e : Expr} {es : List Expr} {b : Av} {p apos pos : Pos} (hM : CmA g C m F) (hgm : ∀ Ca, clsK g.K C = some Ca → g.mg C = some (.ref Ca)) (hd : (C == ("__debug__" : Str)) = false) (hg : sc.names.lookup C = some .globalImplicit) (hline : (apos.endLine == pos.line) = true) (hn : (e :: es).length < 30)
    (hb : SA g og sc (e :: es) b) : SE g og sc (.Call (.Attribute (.Name C p) m apos) (e :: es) [] pos) (eCm g.mr C F b) := by
  obtain ⟨tb, pb, sb⟩ := hb
  obtain ⟨Ca, pr, f, mc, k, hk, hC, hr, hcm, FR⟩ := hM.ex
  refine ⟨fun σ H Q => tb σ H fun vs H1 => spM g.K B.cls F (.ref Ca :: vs) H1 Q (WEm g.mr σ), fun X c => ⟨fun pins s σ H Q I h => ?_⟩, fun as H0 H ρ S σ Q r e' h => ?_⟩
  · obtain ⟨q1, q2⟩ := pb X c
    obtain ⟨s1, s2⟩ := any_cons (pos := pos) (env := X.env) q2
    refine PySem.W.methodCall_KW (ld_glob I (gl_of c hg) (by rw [c.mg]; exact hgm Ca hC) ?_ hd) (meth_form (base_plain rfl) (star_none q2 pos) hn hline)
    rw [← c.K] at hr hcm
    refine ClX.getmethcm_ok I hr hcm fun s3 I3 => ?_
    refine ClX.callwith_cm I3 (ClX.base_none I (Nat.le_refl _)) hcm.fi (thn (q1.run pos _ s3 σ H _ I3 h) fun us s4 ⟨vs, H2, I4, r, q⟩ => ⟨⟨ClX.pin_at I4, I4.kIn⟩, ?_⟩) s1 s2
    refine thn (wpAny_call (PySem.W.method_call (ClX.pin_at I4) (code_own c rfl (c.room.mono (by omega)) FR I4 (us := .ref Ca :: us) (vs := .ref Ca :: vs) (.cons rfl r) q))) fun _ _ y => ClX.unpinE y
  · refine sb as H0 H ρ S σ _ r e' (R.sat_mono (R.sat_bind h) (fun xs S1 h1 => ?_) fun _ _ _ _ z => z)
    intro vs as1 H01 H1 n1 r1 p1
    exact spm_at hM.K e' n1 r1 (.cons (.cls hC) p1) h1
omit [B : Bs] in
/-- isinstance(x, C) -/
def bIsiC (cl : List Str) (S : Store) : List D → Option D
  | [x, .cls C] => (match cl.any fun y => eqS y C with
    | true => (match insOf S x with
      | some (C', _) => (match eqS C' C with
        | true => some (.bl true)
        | false => none)
      | none => (match tbS S x with
        | some _ => some (.bl false)
        | none => none))
    | false => none)
  | _ => none
theorem cas_isiC {cl : List Str} (hX : ∀ C, C ∈ cl → ClsA g C) : CaS g.K (rIsi g.K) (bIsiC cl) := by
  intro as H0 H S vs ds z Q r rp h q
  unfold bIsiC at h
  split at h
  · rename_i x C
    obtain ⟨v, w, rfl, p1, p2⟩ := rp.two
    cases p2 with
    | cls hC =>
      rename_i Ca
      split at h
      case h_2 => cases h
      rename_i hmem
      obtain ⟨y, hy, ey⟩ := List.any_eq_true.mp hmem
      have ey := eqS_ok ey
      subst ey
      obtain ⟨Cb, z1, hc, hx⟩ := (hX _ hy).ex
      rw [hC] at z1
      cases z1
      split at h
      · rename_i C' fs hi
        split at h
        · rename_i hq
          have := eqS_ok hq
          subst this
          cases h
          obtain ⟨n, a, Ca', dx, gs, _, _, _, rfl, hC', hH, _, _⟩ := ins_at r p1 hi
          rw [hC] at hC'
          cases hC'
          exact ⟨_, _, .ref Ca, .ref Ca, true, rfl, .own _, .base (.ins hH hc hx.ca hx.cn hx.ct hx.cm), by unfold PySem.W.kitOne; rw [if_pos (beq_self_eq_true _)], qe_at r (.bl true) q⟩
        · cases h
      · rename_i hi
        split at h
        · rename_i T hT
          cases h
          have hV := tb_at r p1 hT
          have kit : PySem.W.kitOne g.K (.type T.name) (.ref Ca) = some false := by
            unfold PySem.W.kitOne
            rw [if_neg (by simp)]
            unfold PySem.W.kitCls
            dsimp only
            obtain ⟨cd, rest, hcd, _⟩ := PySem.W.ksp_first hx.sf
            rw [hcd, hx.ty]
            simp only [Option.isSome_some, beq_self_eq_true, Bool.and_self, if_true]
            exact tb_sub _ _ _
          have ty : TyX g.K H v (.type T.name) := by
            cases T with
            | non => cases hV; exact .base .non
            | bl => obtain ⟨b, rfl⟩ := hV; exact .base (.bl b)
            | int => obtain ⟨b, rfl⟩ := hV; exact .base (.int b)
            | str => obtain ⟨b, rfl⟩ := hV; exact .base (.str b)
            | lst => obtain ⟨a, xs, rfl, ha⟩ := hV; exact .base (.lst ha)
            | tup => obtain ⟨a, xs, rfl, ha⟩ := hV; exact .base (.tup ha)
          exact ⟨_, _, .type T.name, .ref Ca, false, rfl, .own _, ty, kit, qe_at r (.bl false) q⟩
        · cases h
  · cases h
end
end PL

set_option Elab.async false
set_option linter.all false
set_option maxRecDepth 100000
set_option maxHeartbeats 4000000
/-! list(o.m()) of a generator method, as a form -/
namespace PL
open PySem PySem.Spec PyProof.Rows L2
variable [B : Bs]
omit [B : Bs] in
/-- a generator's function: all that it hands out -/
abbrev FnG := List D → Store → R (List D)
omit [B : Bs] in
def spG (K : PySem.W.Frag) (cls : Str → Option Addr) (n : Nat) (F : FnG) : SpG := fun vs H Q E => vs.length = n ∧ ∃ as H0 S ds, Sr0 K as H0 H S ∧ RpA K as H0 vs ds ∧ (F ds S).sat (@QA (bsOf K cls as H0 H E) K as H0 H Q) (@NoX (bsOf K cls as H0 H E))
structure GnA (g : G) (C m : Str) (F : FnG) : Prop where
  K : g.K = B.K
  ex : ∃ (Ca f : Addr) (fd : FuncData) (ps : List Str) (k : Nat), k + 4 ≤ g.L ∧ clsK g.K C = some Ca ∧ Cls g.K Ca ∧ Meth g.K Ca m f ∧ Binds g.K fd ps [] ∧ GFn g.P g.w g.K g.mg g.base k f fd ps (spG g.K B.cls 1 F)
section
variable {g : G} {og sc : Scope}
omit [B : Bs] in
def eListG (C m : Str) (F : FnG) (a : Ev) : Ev := fun ρ S => (a ρ S).bind fun x S1 => match insOf S1 x with
  | some (C', fs) => (match eqS C' C, lk fs m with
    | true, none => ((F [x] S1).calm).bind fun ys S2 => .ok (.lst ys) S2
    | _, _ => .no)
  | none => .no
theorem se_listG {C m : Str} {F : FnG} {ea : Expr} {a : Ev} {x : Str} {apos cpos p pos : Pos} (hG : GnA g C m F) (hx : Blt g sc x) (hv : bootBuiltins x = some (.type "list")) (hcall : isCallE ea = false) (hline : (apos.endLine == cpos.line) = true) (ha : SE g og sc ea a) :
    SE g og sc (.Call (.Name x p) [.Call (.Attribute ea m apos) [] [] cpos] [] pos) (eListG C m F a) := by
  obtain ⟨ta, pa, sa⟩ := ha
  obtain ⟨Ca, f, fd, ps, k, hk, hC, hc, hmt, hb, GF⟩ := hG.ex
  obtain ⟨x1, x2, x3, x4⟩ := hx
  refine ⟨tListG (tMethG Ca m (spG g.K B.cls 1 F) [] E0 ta tNil), fun X c => ?_, fun as H0 H ρ S σ Q r e h => ?_⟩
  · have GF' : GFn X.prog X.w X.K X.mg X.base k f fd ps (spG g.K B.cls 1 F) := by rw [c.prog, c.w, c.K, c.mg, c.base]; exact GF
    exact pe_listG (k := k) (pgen_meth0 (pa X c) (by rw [c.K]; exact hc) (by rw [c.K]; exact hmt) GF' (c.room.mono (by omega)) (by rw [c.K]; exact hb) .nil (meth_form (base_plain hcall) rfl (by decide) hline)) passN (fun _ _ _ z => z.elim) (c.room.mono (by omega)) (gl_of c x2) (by rw [c.mg]; exact x1) hv x3 x4
  · refine sa as H0 H ρ S σ _ r e (R.sat_mono (R.sat_bind h) (fun x S1 h1 => ?_) fun _ _ _ _ z => z)
    intro v as1 H01 H1 n1 r1 p1
    split at h1
    · rename_i C' fs hi
      obtain ⟨n, a', Ca', dx, gs, rfl, ha', hS, rfl, hC', hH, hk', hr⟩ := ins_at r1 p1 hi
      split at h1
      · rename_i hq hl
        have hq := eqS_ok hq
        subst hq
        rw [hC] at hC'
        cases hC'
        refine ⟨a', dx, gs, rfl, hH, fld_none hk' hl, rfl, as1, H01, S1, [.ref n], r1.toSr0, .cons p1 .nil, ?_⟩
        cases q : F [.ref n] S1 with
        | ok ys S2 =>
          rw [q] at h1
          have h1 : QE g.K as H0 H Q (.lst ys) S2 := h1
          intro vs as' H0' H' n' r' pv p hp
          have sp := @sr_parts B (bsOf g.K B.cls as1 H01 H1 E0) _ _ _ _ _ r'
          have r2 : Sr g.K as' H0' H' S2 := ⟨sp.1, r1.nb.trans sp.2⟩
          obtain ⟨r3, n3⟩ := r2.imm (o := .lst vs) hp
          exact h1 _ as' _ _ ((n1.trans sp.2).trans n3) r3 (.lst upd_same (pv.mono n3.h0 n3.pre))
        | ex c p ρ' S2 => rw [q] at h1; exact h1.elim
        | no => rw [q] at h1; exact h1.elim
      · exact h1.elim
    · exact h1.elim
end
end PL

set_option Elab.async false
set_option linter.all false
set_option maxRecDepth 100000
set_option maxHeartbeats 4000000
/-! what a body may lean on -/
namespace PL
open PySem PySem.Spec PyProof.Rows L2
variable [B : Bs]
structure CfOk (g : G) (cf : Cf) : Prop where
  N : g.N = cf.N
  fns : ∀ x n F, (x, n, F) ∈ cf.fns → FnA g x n F ∧ (x == ("__debug__" : Str)) = false
  bls : ∀ x b, (x, b) ∈ cf.bls → g.mg x = none ∧ bootBuiltins x = some b.val ∧ x ≠ "__name__" ∧ (x == ("__debug__" : Str)) = false
  tys : ∀ x t, (x, t) ∈ cf.tys → g.mg x = none ∧ bootBuiltins x = some (.type (Tn.name t)) ∧ x ≠ "__name__" ∧ (x == ("__debug__" : Str)) = false
  glo : ∀ x i, (x, i) ∈ cf.glo → (∃ t, g.mg x = some (.int i t)) ∧ (x == ("__debug__" : Str)) = false
  rng : g.mg ("range" : Str) = none
  enu : g.mg ("enumerate" : Str) = none
  zip : g.mg ("zip" : Str) = none
  exs : ∀ x, x ∈ cf.exs → ExA g x
  mts : ∀ C m F, (C, m, F) ∈ cf.mts → MtA g C m F ∧ ClsA g C
  props : ∀ C m F, (C, m, F) ∈ cf.props → PropA g C m F
  flds : ∀ C f, (C, f) ∈ cf.flds → FldA g C f
  mks : ∀ C F, (C, F) ∈ cf.mks → MkA g C F
  cms : ∀ C m F, (C, m, F) ∈ cf.cms → CmA g C m F ∧ (∀ Ca, clsK g.K C = some Ca → g.mg C = some (.ref Ca)) ∧ (C == ("__debug__" : Str)) = false
  cls : ∀ C, C ∈ cf.cls → ClsA g C ∧ (∃ Ca, clsK g.K C = some Ca ∧ g.mg C = some (.ref Ca)) ∧ (C == ("__debug__" : Str)) = false
  gls : ∀ x z, (x, z) ∈ cf.gls → (∃ t, g.mg x = some (.str z t)) ∧ (x == ("__debug__" : Str)) = false
  gens : ∀ C m F, (C, m, F) ∈ cf.gens → GnA g C m F

section
variable {g : G} {og sc : Scope}
/-! ### list.pop() -/
omit [B : Bs] in
def mPop0 : OpM := fun x ds S => match x, ds with
  | .ref n, [] => (match S[n]? with
    | some (some (.lst xs)) => (match xs[xs.length - 1]? with
      | some d => .ok d (S.set n (some (.lst xs.dropLast)))
      | none => .no)
    | _ => .no)
  | _, _ => .no
omit [B : Bs] in
theorem rpa_dropLast {K : PySem.W.Frag} {as : List Addr} {H : Hp} {vs : List V} {xs : List D} (r : RpA K as H vs xs) : RpA K as H vs.dropLast xs.dropLast := by
  rw [List.dropLast_eq_take, List.dropLast_eq_take, r.length]
  exact r.take _
theorem mts_pop0 (K : PySem.W.Frag) : MtS' K rPop mPop0 := by
  intro as H0 H S v d vs ds Q r p rp h
  unfold mPop0 at h
  split at h
  · rename_i n
    cases rp
    split at h
    · rename_i xs hx
      split at h
      · rename_i z hz
        cases p with
        | ref ha =>
          rename_i a
          obtain ⟨h0, ws, hw, rw'⟩ := r.cell n _ a hx ha
          obtain ⟨y, hy, py⟩ := rw'.get hz
          refine ⟨a, ws, y, rfl, rfl, hw, by rw [rw'.length]; exact hy, ?_⟩
          obtain ⟨r2, n2⟩ := r.put (c' := .lst xs.dropLast) (o := .lst ws.dropLast) hx ha ⟨_, upd_same, rpa_dropLast rw'⟩
          exact h _ _ _ _ n2 r2 (py.mono n2.h0 n2.pre)
      · exact h.elim
    · exact h.elim
  · exact h.elim
theorem se_mt0 {T id : String} {name : Str} {r : V → List V → Hp → VK → Prop} {o : OpM} {ea : Expr} {a : Ev} {apos cpos : Pos} (pa : PlainAttrs T) (slot : Slot T name id) (hty : typeOf (.builtin id) = pure (.type "method_descriptor"))
    (hr : ∀ X, Cxt g og sc X → MtR X id r) (ho : MtS' g.K r o) (hcall : isCallE ea = false) (hline : (apos.endLine == cpos.line) = true) (ha : SE g og sc ea a) : SE g og sc (.Call (.Attribute ea name apos) [] [] cpos) (eMt T o a aNil) := by
  obtain ⟨ta, pa', sa⟩ := ha
  refine ⟨tBM0 g.K T r ta, fun X c => by rw [← c.K]; exact pe_bm0 pa slot hty (hr X c) (pa' X c) (base_plain hcall) hline, fun as H0 H ρ S σ Q r e h => ?_⟩
  refine sa as H0 H ρ S σ _ r e (R.sat_mono (R.sat_bind h) (fun x S1 h1 => ?_) fun _ _ _ _ z => z)
  intro v as1 H01 H1 n1 r1 p1
  split at h1
  · rename_i ht
    exact ⟨tyV_of r1 p1 ht, ho as1 H01 H1 S1 v x [] [] Q r1 p1 .nil (R.sat_mono h1 (fun _ _ q => QE.next n1 q) fun _ _ _ _ z => z)⟩
  · exact h1.elim
theorem se_globS {x z : Str} {t : Tok} {pos : Pos} (hg : sc.names.lookup x = some .globalImplicit) (hm : g.mg x = some (.str z t)) (hd : (x == ("__debug__" : Str)) = false) : SE g og sc (.Name x pos) (eC (.str z)) :=
  ⟨_, fun X c => pe_glob (gl_of c hg) (by rw [c.mg]; exact hm) (v := .str z) ⟨t, rfl⟩ hd, says_c _ fun _ _ => .str z⟩
omit [B : Bs] in
/-- what the run never comes to -/
def eNever : Ev := fun _ _ => .no
theorem se_never {e : Expr} : SE g og sc e eNever := ⟨fun _ _ _ => False, fun X c => ⟨fun _ _ _ _ _ _ h => h.elim⟩, fun as H0 H ρ S σ Q r e h => h.elim⟩
end
end PL

set_option Elab.async false
set_option linter.all false
set_option maxRecDepth 100000
set_option maxHeartbeats 8000000
/-! the function of the text, and that it is sound -/
namespace PL
open PySem PySem.Spec PyProof.Rows L2
variable [B : Bs]
section
variable {g : G} {og sc : Scope}
theorem opB_ok {op : Operator} {o : Op2} (h : opB op = some o) : ∃ r, (∀ X, Cxt g og sc X → OpR X (binaryOp op) r) ∧ OpS g.K r o := by
  cases op <;> first | cases h | skip
  · exact ⟨_, fun X c => by rw [← c.K]; exact op_addA, ops_add _⟩
  · exact ⟨_, fun X c => op_sub, ops_sub _⟩
  · exact ⟨_, fun X c => by rw [← c.K]; exact op_mulB, ops_mulB _⟩
  · exact ⟨_, fun X c => op_modN, ops_mod _⟩
  · exact ⟨_, fun X c => op_pow, ops_pow _⟩
  · exact ⟨_, fun X c => op_fdv, ops_div _⟩
theorem opC_ok (op : CmpOp) : ∃ r, (∀ X, Cxt g og sc X → OpR X (compareOp op) r) ∧ OpS g.K r (opC op) := by
  have hu : ∀ X, Cxt g og sc X → X.A.units + 65 < cLine := fun X c => by have := c.room.un; omega
  cases op with
  | Eq => exact ⟨_, fun X c => by rw [← c.K]; exact op_eqD c.room.units, ops_eq _⟩
  | NotEq => exact ⟨_, fun X c => by rw [← c.K]; exact op_neD c.room.units, ops_ne _⟩
  | Lt => exact ⟨_, fun X c => by rw [← c.K]; exact OpR.or op_lt (op_ltT c.room.units0), ops_lt _⟩
  | LtE => exact ⟨_, fun X c => op_le, ops_intB _ _⟩
  | Gt => exact ⟨_, fun X c => op_gt, ops_intB _ _⟩
  | GtE => exact ⟨_, fun X c => op_ge, ops_intB _ _⟩
  | Is => exact ⟨_, fun X c => OpR.or op_isN op_isBl, ops_is _⟩
  | IsNot => exact ⟨_, fun X c => OpR.or op_notN op_notBl, ops_isNot _⟩
  | In => exact ⟨_, fun X c => by rw [← c.K]; exact op_inA (hu X c), ops_in _⟩
  | NotIn => exact ⟨_, fun X c => by rw [← c.K]; exact op_notInA (hu X c), ops_notIn _⟩
theorem says_chain {K : PySem.W.Frag} {r r' : R2} {o o' : Op2} {ta tb tc : TE} {a b c : Ev} (ho : OpS K r o) (ho' : OpS K r' o') (ha : SaysE K ta a) (hb : SaysE K tb b) (hc : SaysE K tc c) : SaysE K (tChain r r' ta tb tc) (eChain o o' a b c) := by
  intro as H0 H ρ S σ Q r0 e h
  refine ha as H0 H ρ S σ _ r0 e (R.sat_mono (R.sat_bind h) (fun x S1 h1 => ?_) fun _ _ _ _ z => z)
  intro v as1 H01 H1 n1 r1 p1
  have e1 := e.mono n1.h0 n1.pre
  refine hb as1 H01 H1 ρ S1 σ _ r1 e1 (R.sat_mono (R.sat_bind h1) (fun y S2 h2 => ?_) fun _ _ _ _ z => z)
  intro u as2 H02 H2 n2 r2 p2
  have e2 := e1.mono n2.h0 n2.pre
  have p1' := p1.mono n2.h0 n2.pre
  split at h2
  · rename_i ez
    refine ho as2 H02 H2 S2 v u x y _ _ r2 p1' p2 ez ?_
    intro w as3 H03 H3 n3 r3 p3
    cases p3
    refine ⟨true, rfl, ?_⟩
    show tc σ H3 _
    refine hc as3 H03 H3 ρ S2 σ _ r3 (e2.mono n3.h0 n3.pre) (R.sat_mono (R.sat_bind h2) (fun z S4 h4 => ?_) fun _ _ _ _ z => z)
    intro w4 as4 H04 H4 n4 r4 p4
    obtain ⟨z5, ez5, q5⟩ := sat_ofO h4
    have n34 := n3.trans n4
    exact ho' as4 H04 H4 S4 u w4 y z z5 Q r4 (p2.mono n34.h0 n34.pre) p4 ez5 (QE.next ((n1.trans n2).trans n34) q5)
  · rename_i ez
    refine ho as2 H02 H2 S2 v u x y _ _ r2 p1' p2 ez ?_
    intro w as3 H03 H3 n3 r3 p3
    cases p3
    refine ⟨false, rfl, ?_⟩
    exact h2 _ as3 H03 H3 ((n1.trans n2).trans n3) r3 (.bl false)
  · exact h2.elim
omit [B : Bs] in
theorem lastMarks_plain {op op' : CmpOp} {b c : Expr} (h : isSetE c = false) : lastMarks [op, op'] [b, c] = false := noMark h
theorem se_chain {op op' : CmpOp} {ea eb ec : Expr} {a b c : Ev} {pos : Pos} (hm : isSetE ec = false) (ha : SE g og sc ea a) (hb : SE g og sc eb b) (hc : SE g og sc ec c) : SE g og sc (.Compare ea [op, op'] [eb, ec] pos) (eChain (opC op) (opC op') a b c) := by
  obtain ⟨r, h1, h2⟩ := opC_ok (g := g) (og := og) (sc := sc) op
  obtain ⟨r', h1', h2'⟩ := opC_ok (g := g) (og := og) (sc := sc) op'
  obtain ⟨ta, pa, sa⟩ := ha
  obtain ⟨tb, pb, sb⟩ := hb
  obtain ⟨tc, pc, sc'⟩ := hc
  exact ⟨_, fun X c => pe_chain (h1 X c) (h1' X c) (pa X c) (pb X c) (pc X c) (lastMarks_plain hm), says_chain h2 h2' sa sb sc'⟩
theorem st_chain {op op' : CmpOp} {ea eb ec : Expr} {a b c : Ev} {pos : Pos} (hm : isSetE ec = false) (ha : SE g og sc ea a) (hb : SE g og sc eb b) (hc : SE g og sc ec c) : ST g og sc (.Compare ea [op, op'] [eb, ec] pos) (asT (eChain (opC op) (opC op') a b c)) := by
  obtain ⟨r, h1, h2⟩ := opC_ok (g := g) (og := og) (sc := sc) op
  obtain ⟨r', h1', h2'⟩ := opC_ok (g := g) (og := og) (sc := sc) op'
  obtain ⟨ta, pa, sa⟩ := ha
  obtain ⟨tb, pb, sb⟩ := hb
  obtain ⟨tc, pc, sc'⟩ := hc
  exact ⟨_, fun X c => pt_chain (h1 X c) (h1' X c) (pa X c) (pb X c) (pc X c) (lastMarks_plain hm), says_asT (says_chain h2 h2' sa sb sc')⟩
omit [B : Bs] in
theorem plainIx_of {e : Expr} (h : isSliceE e = false) : PlainIx e := fun o i => by
  cases e <;> first | rfl | cases h
/-- a text's place in a chain of and, or: as values, as tests -/
theorem sa_imp {es : List Expr} {f : Av} (h : SA g og sc es f) : SA g og sc es f := h
omit [B : Bs] in
theorem gsCons_no {a : Gv} {b : Gvs} {n : Nat} (h : ∀ ds ρ S, ds.length ≠ n → b ds ρ S = .no) : True := trivial
end

/-! ### operators, built-ins, subscripts with own classes about -/
omit [B : Bs] in
def binF (cf : Cf) (mr : Bool) (op : Operator) (o : Op2) (a b : Ev) : Ev := match cf.cls with
  | [] => eOp o a b
  | _ => (match op with
    | .Add => eOpX (oLeft mr cf.mts "__add__" o) a b
    | .Sub => eOpX (oLeft mr cf.mts "__sub__" o) a b
    | _ => eOp o a b)
omit [B : Bs] in
def cmpF (cf : Cf) (mr : Bool) (op : CmpOp) (a b : Ev) : Ev := match cf.cls with
  | [] => eOp (opC op) a b
  | _ => (match op with
    | .Eq => eOpX (oCmpL mr cf.mts "__eq__" oEq) a b
    | .Lt => eOpX (oCmpL mr cf.mts "__lt__" oLt) a b
    | .LtE => eOpX (oCmpL mr cf.mts "__le__" oLe) a b
    | .In => eOpX (oInR mr cf.mts false oIn) a b
    | .NotIn => eOpX (oInR mr cf.mts true oNotIn) a b
    | op => eOp (opC op) a b)
omit [B : Bs] in
def ixF (cf : Cf) (mr : Bool) (a b : Ev) : Ev := match cf.cls with
  | [] => eOp oIx a b
  | _ => eOpX (oIxL mr cf.mts oIx) a b
omit [B : Bs] in
def bIsiX (cl : List Str) (S : Store) (ds : List D) : Option D := match ds with
  | [_, .cls _] => bIsiC cl S ds
  | _ => bIsi S ds
omit [B : Bs] in
def blF (cf : Cf) (mr : Bool) (b : Bl) (x : Av) : Ev := match cf.cls with
  | [] => eCaM b.op x
  | _ => (match b with
    | .len => eCaX (oBl mr cf.mts "__len__" isLenD (Bl.op .len)) x
    | .bool => eCaX (oBl mr cf.mts "__bool__" isBlD (Bl.op .bool)) x
    | .str => eCaX (oBl mr cf.mts "__str__" isStrD (Bl.op .str)) x
    | .isinst => eCaM (puB (bIsiX cf.cls)) x
    | b => eCaM b.op x)
section
variable {g : G} {og sc : Scope} {cf : Cf}
theorem mts_at (ok : CfOk g cf) {m : Str} : ∀ C F, lkM cf.mts C m = some F → MtA g C m F ∧ ClsA g C := fun C F h => ok.mts _ _ _ (lkM_mem h)
omit [B : Bs] in
theorem opr_int_or {X : Cx} {f : Value → Value → Sem Value} {r : R2} (h : OpR X f r) : OpR X f r := h
theorem se_binF (ok : CfOk g cf) {op : Operator} {o : Op2} {ea eb : Expr} {a b : Ev} {pos : Pos} (h : opB op = some o) (ha : SE g og sc ea a) (hb : SE g og sc eb b) : SE g og sc (.BinOp ea op eb pos) (binF cf g.mr op o a b) := by
  obtain ⟨r, k1, k2⟩ := opB_ok (g := g) (og := og) (sc := sc) h
  unfold binF
  split
  · exact se_bin k1 k2 ha hb
  · split
    · exact se_binX (fun X c => opr_left c (nm := "add") rfl (.inl rfl) (by kernel_rfl) (k1 X c)) (opsx_left (mts_at ok) k2) ha hb
    · exact se_binX (fun X c => opr_left c (nm := "sub") rfl (.inr rfl) (by kernel_rfl) (k1 X c)) (opsx_left (mts_at ok) k2) ha hb
    · exact se_bin k1 k2 ha hb
theorem cmpF_ok (ok : CfOk g cf) {op : CmpOp} {ea eb : Expr} {a b : Ev} {pos : Pos} (hm : isSetE eb = false) (ha : SE g og sc ea a) (hb : SE g og sc eb b) :
    SE g og sc (.Compare ea [op] [eb] pos) (cmpF cf g.mr op a b) ∧ ST g og sc (.Compare ea [op] [eb] pos) (asT (cmpF cf g.mr op a b)) := by
  have plain : ∀ op, SE g og sc (.Compare ea [op] [eb] pos) (eOp (opC op) a b) ∧ ST g og sc (.Compare ea [op] [eb] pos) (asT (eOp (opC op) a b)) := fun op => by
    obtain ⟨r, k1, k2⟩ := opC_ok (g := g) (og := og) (sc := sc) op
    exact ⟨se_cmp hm k1 k2 ha hb, st_cmp hm k1 k2 ha hb⟩
  have own : ∀ op {r : L2.St → R2} {o : Op2X}, (∀ X, Cxt g og sc X → OpRS X (compareOp op) r) → OpSX g.K r o → SE g og sc (.Compare ea [op] [eb] pos) (eOpX o a b) ∧ ST g og sc (.Compare ea [op] [eb] pos) (asT (eOpX o a b)) := fun op r o h1 h2 =>
    ⟨se_cmpX hm h1 h2 ha hb, st_cmpX hm h1 h2 ha hb⟩
  unfold cmpF
  split
  · exact plain op
  · split
    · obtain ⟨r, k1, k2⟩ := opC_ok (g := g) (og := og) (sc := sc) .Eq
      exact own .Eq (fun X c => opr_cmpL c (m := "__eq__") rfl (by kernel_rfl) (k1 X c)) (opsx_cmpL (mts_at ok) k2)
    · obtain ⟨r, k1, k2⟩ := opC_ok (g := g) (og := og) (sc := sc) .Lt
      exact own .Lt (fun X c => opr_cmpL c (m := "__lt__") rfl (by kernel_rfl) (k1 X c)) (opsx_cmpL (mts_at ok) k2)
    · obtain ⟨r, k1, k2⟩ := opC_ok (g := g) (og := og) (sc := sc) .LtE
      exact own .LtE (fun X c => opr_cmpL c (m := "__le__") rfl (by kernel_rfl) (k1 X c)) (opsx_cmpL (mts_at ok) k2)
    · obtain ⟨r, k1, k2⟩ := opC_ok (g := g) (og := og) (sc := sc) .In
      obtain ⟨r', k1', k2'⟩ := opC_ok (g := g) (og := og) (sc := sc) .NotIn
      exact own .In (fun X c => (opr_inR c (k1 X c) (k1' X c)).1) (opsx_inR (mts_at ok) k2)
    · obtain ⟨r, k1, k2⟩ := opC_ok (g := g) (og := og) (sc := sc) .In
      obtain ⟨r', k1', k2'⟩ := opC_ok (g := g) (og := og) (sc := sc) .NotIn
      exact own .NotIn (fun X c => (opr_inR c (k1 X c) (k1' X c)).2) (opsx_inR (mts_at ok) k2')
    · exact plain _
theorem se_ixF (ok : CfOk g cf) {ea eb : Expr} {a b : Ev} {pos : Pos} (hp : PlainIx eb) (hp2 : isSliceE eb = false) (ha : SE g og sc ea a) (hb : SE g og sc eb b) : SE g og sc (.Subscript ea eb pos) (ixF cf g.mr a b) := by
  unfold ixF
  split
  · exact se_ix hp (fun X c => by rw [← c.K]; exact ix_seq) (ops_ix _) ha hb
  · exact se_ixX (mts_at ok) hp hp2 (fun X c => by rw [← c.K]; exact ix_seq) (ops_ix _) ha hb
theorem cas_isiX (ok : CfOk g cf) : CaS g.K (rIsi g.K) (bIsiX cf.cls) := by
  intro as H0 H S vs ds z Q r rp h q
  unfold bIsiX at h
  split at h
  · exact cas_isiC (fun C hC => (ok.cls C hC).1) as H0 H S vs _ z Q r rp h q
  · exact cas_isi g.K as H0 H S vs _ z Q r rp h q
theorem se_blF (ok : CfOk g cf) {x : Str} {b : Bl} {e : Expr} {es : List Expr} {a : Av} {p pos : Pos} (hx : Blt g sc x) (hv : bootBuiltins x = some b.val) (hb : SA g og sc (e :: es) a) : SE g og sc (.Call (.Name x p) (e :: es) [] pos) (blF cf g.mr b a) := by
  unfold blF
  split
  · exact se_bl_call hx hv hb
  · split
    · obtain ⟨r, h1, h2⟩ := Bl.ok g.K .len
      exact se_callX hx hv (.inl ⟨_, rfl⟩) (fun X c => callrs_len c (h1 X c.K c.calm)) (casx_bl (mts_at ok) (fun as H0 v d p hd => by
        unfold isLenD at hd
        split at hd
        · rename_i n
          cases p
          exact ⟨n, rfl, Nat.blt_eq.mp hd⟩
        · cases hd) h2) hb
    · obtain ⟨r, h1, h2⟩ := Bl.ok g.K .bool
      exact se_callX hx hv (.inr ⟨_, rfl⟩) (fun X c => callrs_bool c (h1 X c.K c.calm)) (casx_bl (mts_at ok) (fun as H0 v d p hd => by
        cases p <;> first | exact ⟨_, rfl⟩ | cases hd) h2) hb
    · obtain ⟨r, h1, h2⟩ := Bl.ok g.K .str
      exact se_callX hx hv (.inr ⟨_, rfl⟩) (fun X c => callrs_str c (h1 X c.K c.calm)) (casx_bl (mts_at ok) (fun as H0 v d p hd => by
        cases p <;> first | exact ⟨_, rfl⟩ | cases hd) h2) hb
    · exact se_callB hx hv (fun X c => by rw [← c.K]; exact call_isi) (cas_isiX ok) hb
    · exact se_bl_call hx hv hb
end

/-! ### targets: how many values they take -/
omit [B : Bs] in
/-- targets that take just so many values -/
def gsLen (n : Nat) (b : Gvs) : Gvs := fun ds ρ S => match Nat.beq ds.length n with
  | true => b ds ρ S
  | false => .no
omit [B : Bs] in
theorem gsLen_no {n : Nat} {b : Gvs} : ∀ ds ρ S, ds.length ≠ n → gsLen n b ds ρ S = .no := fun ds ρ S h => by
  unfold gsLen
  cases q : Nat.beq ds.length n with
  | true => exact absurd (Nat.eq_of_beq_eq_true q) h
  | false => rfl
theorem says_gsLen {K : PySem.W.Frag} {t : TGs} {b : Gvs} {n : Nat} (h : SaysGs K t b) : SaysGs K t (gsLen n b) := by
  intro as H0 H ρ S σ vs ds Q r e p hh
  refine h as H0 H ρ S σ vs ds Q r e p ?_
  unfold gsLen at hh
  split at hh
  · exact hh
  · exact hh.elim
omit [B : Bs] in
/-- f(e): what a call of a name may be -/
inductive Callee where
  | fn (n : Nat) (F : Fn)
  | bl (b : Bl)
  | mk (F : Fn)
omit [B : Bs] in
def callee (cf : Cf) (x : Str) : Option Callee := match lk cf.fns x with
  | some (n, F) => some (.fn n F)
  | none => (match lk cf.bls x with
    | some b => some (.bl b)
    | none => ap1 Callee.mk (lk cf.mks x))
omit [B : Bs] in
/-- an own class's name -/
def clsName (cf : Cf) (sc : Scope) : Expr → Option Str
  | .Name x _ => gd (glK (knd sc x) && (cf.cls.any fun y => eqS y x)) (some x)
  | _ => none
omit [B : Bs] in
def lkG : List (Str × Str × FnG) → Str → Option (Str × FnG)
  | [], _ => none
  | (C, n, F) :: r, m => (match eqS n m with
    | true => some (C, F)
    | false => lkG r m)
omit [B : Bs] in
theorem lkG_mem : ∀ {l : List (Str × Str × FnG)} {m C : Str} {F : FnG}, lkG l m = some (C, F) → (C, m, F) ∈ l
  | [], _, _, _, h => by cases h
  | (C, n, F) :: r, m, C', F', h => by
    unfold lkG at h
    split at h
    · rename_i q
      have q := eqS_ok q
      subst q
      cases h
      exact List.mem_cons_self
    · exact List.mem_cons_of_mem _ (lkG_mem h)
omit [B : Bs] in
/-- list(o.m()) of a generator method -/
def genArg (cf : Cf) (b : Bl) (e : Expr) (es : List Expr) : Option (Str × Str × FnG × Expr) := match b, es, e with
  | .list, [], .Call (.Attribute o m apos) [] [] cpos => gd (!isCallE o && (apos.endLine == cpos.line)) (ap1 (fun p => (p.1, m, p.2, o)) (lkG cf.gens m))
  | _, _, _ => none
omit [B : Bs] in
theorem genArg_ok {cf : Cf} {b : Bl} {e : Expr} {es : List Expr} {C m : Str} {F : FnG} {o : Expr} (h : genArg cf b e es = some (C, m, F, o)) : ∃ apos cpos, b = .list ∧ es = [] ∧ e = .Call (.Attribute o m apos) [] [] cpos ∧ isCallE o = false ∧ (apos.endLine == cpos.line) = true ∧ (C, m, F) ∈ cf.gens := by
  unfold genArg at h
  split at h
  · obtain ⟨h1, h⟩ := gd_some h
    obtain ⟨⟨C', F'⟩, h2, h3⟩ := ap1_some h
    cases h3
    obtain ⟨q1, q2⟩ := Bool.and_eq_true_iff.mp h1
    exact ⟨_, _, rfl, rfl, rfl, by simpa using q1, q2, lkG_mem h2⟩
  · cases h
omit [B : Bs] in
/-- what is one of these built-ins that are walked -/
inductive Wk where
  | range | enu | zip | none
omit [B : Bs] in
def wkOf (x : Str) : Wk := match eqS x "range" with
  | true => .range
  | false => (match eqS x "enumerate" with
    | true => .enu
    | false => (match eqS x "zip" with
      | true => .zip
      | false => .none))
omit [B : Bs] in
/-- the places that a target writes -/
def tgIx (N : List Str) : Expr → List Nat
  | .Name x _ => (match ixS N x 0 with
    | some i => [i]
    | none => [])
  | .Tuple es _ _ => es.filterMap fun e => (match e with
    | .Name x _ => ixS N x 0
    | _ => none)
  | _ => []
omit [B : Bs] in
mutual
def cE (cf : Cf) : Nat → Bool → Scope → Scope → Expr → Option Ev
  | 0, _, _, _, _ => none
  | n + 1, mr, og, sc, e => (match inP cf.frz e.pos with
    | true => ap1 eFrz (cX cf n mr og sc e)
    | false => cX cf n mr og sc e)
def cX (cf : Cf) : Nat → Bool → Scope → Scope → Expr → Option Ev
  | 0, _, _, _, _ => none
  | n + 1, mr, og, sc, .Name x pos => (match visK (knd sc x) with
    | true => gd (plainName x) (ap1 eVar (ixS cf.N x 0))
    | false => gd (glK (knd sc x)) (match lk cf.glo x with
      | some i => some (eC (.int i))
      | none => (match lk cf.tys x with
        | some t => some (eC (.ty t))
        | none => (match cf.cls.any fun y => eqS y x with
          | true => some (eC (.cls x))
          | false => (match lk cf.gls x with
            | some z => some (eC (.str z))
            | none => gd (eqS x "NotImplemented") (some eNever))))))
  | n + 1, mr, og, sc, .Constant c k pos => (match c with
    | .int i => some (eC (.int i))
    | .bool b => some (eC (.bl b))
    | .none => some (eC .non)
    | .str x => some (eC (.str x))
    | _ => none)
  | n + 1, mr, og, sc, .BinOp a op b pos => bn (opB op) fun o => ap2 (binF cf mr op o) (cE cf n mr og sc a) (cE cf n mr og sc b)
  | n + 1, mr, og, sc, .UnaryOp .USub a pos => ap1 (eUn oNeg) (cE cf n mr og sc a)
  | n + 1, mr, og, sc, .UnaryOp .Not a pos => ap1 eNotF (cE cf n mr og sc a)
  | n + 1, mr, og, sc, .UnaryOp .Invert a pos => ap1 (eInv mr cf.mts) (cE cf n mr og sc a)
  | n + 1, mr, og, sc, .Attribute a f pos => gd (!isCallE a) (ap1 (eAttr cf.props cf.flds f) (cE cf n mr og sc a))
  | n + 1, mr, og, sc, .BoolOp op es pos => cV cf n mr og sc op es
  | n + 1, mr, og, sc, .IfExp c a b pos => ap3 eIf (cT cf n mr og sc c) (cE cf n mr og sc a) (cE cf n mr og sc b)
  | n + 1, mr, og, sc, .Compare a [op] [b] pos => gd (!isSetE b) (ap2 (cmpF cf mr op) (cE cf n mr og sc a) (cE cf n mr og sc b))
  | n + 1, mr, og, sc, .Compare a [op, op'] [b, c] pos => gd (!isSetE c) (ap3 (eChain (opC op) (opC op')) (cE cf n mr og sc a) (cE cf n mr og sc b) (cE cf n mr og sc c))
  | n + 1, mr, og, sc, .Tuple es k pos => ap1 eTup (cA cf n mr og sc es)
  | n + 1, mr, og, sc, .List es pos => (match inP cf.news pos with
    | true => ap1 eNew (cA cf n mr og sc es)
    | false => ap1 eLst (cA cf n mr og sc es))
  | n + 1, mr, og, sc, .Subscript a (.Slice lo hi none p2) pos => ap3 (eSl oSlice) (cE cf n mr og sc a) (cO cf n mr og sc lo) (cO cf n mr og sc hi)
  | n + 1, mr, og, sc, .Subscript a b pos => gd (!isSliceE b) (ap2 (ixF cf mr) (cE cf n mr og sc a) (cE cf n mr og sc b))
  | n + 1, mr, og, sc, .Call (.Name x p) [] [] pos => gd (glK (knd sc x)) (match callee cf x with
    | some (.fn 0 F) => some (eCallN F 0 aNil)
    | _ => none)
  | n + 1, mr, og, sc, .Call (.Name x p) [e1, .Starred e2 p2] [] pos => gd (!isStar e1) (match glK (knd sc x) with
    | true => bn (lk cf.mks x) fun F => ap1 (eMk mr x F) (ap2 aStar (cE cf n mr og sc e1) (cE cf n mr og sc e2))
    | false => gd (visK (knd sc x) && plainName x) (bn (ixS cf.N x 0) fun i => ap1 (eMkL mr cf.mks i) (ap2 aStar (cE cf n mr og sc e1) (cE cf n mr og sc e2))))
  | n + 1, mr, og, sc, .Call (.Name x p) (e :: es) [] pos => (match visK (knd sc x) with
    | true => gd (plainName x) (bn (ixS cf.N x 0) fun i => ap1 (eCallI mr cf.mts i) (cA cf n mr og sc (e :: es)))
    | false => gd (glK (knd sc x)) (match callee cf x with
      | some (.fn k F) => (match mr with
        | true => ap1 (eCall F k) (cA cf n mr og sc (e :: es))
        | false => ap1 (eCallN F k) (cA cf n mr og sc (e :: es)))
      | some (.bl b) => (match genArg cf b e es with
        | some (C, m, F, o) => ap1 (eListG C m F) (cE cf n mr og sc o)
        | none => (match inP cf.news pos with
          | true => ap1 (eCaM (listN b).op) (cA cf n mr og sc (e :: es))
          | false => ap1 (blF cf mr b) (cA cf n mr og sc (e :: es))))
      | some (.mk F) => ap1 (eMk mr x F) (cA cf n mr og sc (e :: es))
      | none => none))
  | n + 1, mr, og, sc, .Call (.Attribute o m apos) [] [] pos => gd (!isCallE o && (apos.endLine == pos.line)) (match eqS m "pop" with
    | true => ap1 (fun a => eMt "list" mPop0 a aNil) (cE cf n mr og sc o)
    | false => ap1 (fun a => eMeth mr cf.mts m a aNil) (cE cf n mr og sc o))
  | n + 1, mr, og, sc, .Call (.Name x p) [e] [⟨some k, .Name y p2, kp⟩] pos => gd (eqS x "sorted" && (eqS k "key" && (eqS y "len" && (glK (knd sc x) && (glK (knd sc y) && !isStar e))))) (bn (lk cf.bls x) fun _ => bn (lk cf.bls y) fun _ => ap1 eSortLen (cA cf n mr og sc [e]))
  | n + 1, mr, og, sc, .Call (.Attribute o m apos) [a, b] [] pos => (match eqS m "get" with
    | true => gd (!isCallE o && (apos.endLine == pos.line) && !isStar a && !isStar b) (ap3 eGet (cE cf n mr og sc o) (cE cf n mr og sc a) (cE cf n mr og sc b))
    | false => gd (!isCallE o && (apos.endLine == pos.line) && Nat.blt [a, b].length 30) (match mbOf m with
      | some mb => ap2 (eMt mb.ty mb.op) (cE cf n mr og sc o) (cA cf n mr og sc [a, b])
      | none => (match clsName cf sc o with
        | some C => bn (lkM cf.cms C m) fun F => ap1 (eCm mr C F) (cA cf n mr og sc [a, b])
        | none => ap2 (eMeth mr cf.mts m) (cE cf n mr og sc o) (cA cf n mr og sc [a, b]))))
  | n + 1, mr, og, sc, .Call (.Attribute o m apos) (e :: es) [] pos => gd (!isCallE o && (apos.endLine == pos.line) && Nat.blt (e :: es).length 30) (match mbOf m with
    | some mb => ap2 (eMt mb.ty mb.op) (cE cf n mr og sc o) (cA cf n mr og sc (e :: es))
    | none => (match clsName cf sc o with
      | some C => bn (lkM cf.cms C m) fun F => ap1 (eCm mr C F) (cA cf n mr og sc (e :: es))
      | none => ap2 (eMeth mr cf.mts m) (cE cf n mr og sc o) (cA cf n mr og sc (e :: es))))
  | n + 1, mr, og, sc, .ListComp elt [⟨tg, iter, ifs, isa⟩] scope pos => gd (isa == 0) (cC cf n mr og sc tg iter ifs elt scope (inP cf.news pos))
  | n + 1, mr, og, sc, .ListComp elt [⟨tg, iter, ifs, isa⟩, ⟨tg1, iter1, ifs1, isa1⟩] scope pos => gd (isa == 0 && isa1 == 0) (cD cf n mr og sc tg iter ifs tg1 iter1 ifs1 elt scope)
  | n + 1, mr, og, sc, _ => none
def cO (cf : Cf) : Nat → Bool → Scope → Scope → Option Expr → Option Pv
  | 0, _, _, _, _ => none
  | n + 1, mr, og, sc, none => some oNone
  | n + 1, mr, og, sc, some e => ap1 oSome (cE cf n mr og sc e)
def cA (cf : Cf) : Nat → Bool → Scope → Scope → List Expr → Option Av
  | 0, _, _, _, _ => none
  | n + 1, mr, og, sc, [] => some aNil
  | n + 1, mr, og, sc, e :: es => gd (!isStar e) (ap2 aCons (cE cf n mr og sc e) (cA cf n mr og sc es))
def cV (cf : Cf) : Nat → Bool → Scope → Scope → BoolOp → List Expr → Option Ev
  | 0, _, _, _, _, _ => none
  | n + 1, mr, og, sc, op, [] => none
  | n + 1, mr, og, sc, op, [e] => cE cf n mr og sc e
  | n + 1, mr, og, sc, op, e :: es => ap2 (match op with | .And => eAndF | .Or => eOrF) (cE cf n mr og sc e) (cV cf n mr og sc op es)
def cT (cf : Cf) : Nat → Bool → Scope → Scope → Expr → Option Tv
  | 0, _, _, _, _ => none
  | n + 1, mr, og, sc, .UnaryOp .Not a pos => ap1 tNotF (cT cf n mr og sc a)
  | n + 1, mr, og, sc, .BoolOp op es pos => cW cf n mr og sc op es
  | n + 1, mr, og, sc, .Compare a [op] [b] pos => gd (!isSetE b) (ap1 asT (ap2 (cmpF cf mr op) (cE cf n mr og sc a) (cE cf n mr og sc b)))
  | n + 1, mr, og, sc, .Compare a [op, op'] [b, c] pos => gd (!isSetE c) (ap1 asT (ap3 (eChain (opC op) (opC op')) (cE cf n mr og sc a) (cE cf n mr og sc b) (cE cf n mr og sc c)))
  | n + 1, mr, og, sc, e => gd (plainTest e) (ap1 asT (cE cf n mr og sc e))
def cW (cf : Cf) : Nat → Bool → Scope → Scope → BoolOp → List Expr → Option Tv
  | 0, _, _, _, _, _ => none
  | n + 1, mr, og, sc, op, [] => none
  | n + 1, mr, og, sc, op, [e] => cT cf n mr og sc e
  | n + 1, mr, og, sc, op, e :: es => ap2 (match op with | .And => tAndF | .Or => tOrF) (cT cf n mr og sc e) (cW cf n mr og sc op es)
/-- what is walked -/
def cI (cf : Cf) : Nat → Bool → Scope → Scope → Expr → Expr → Option Av
  | 0, _, _, _, _, _ => none
  | n + 1, mr, og, sc, tg, .Call (.Name x p) args [] pos => (match wkOf x with
    | .none => ap1 iSeqF (cE cf n mr og sc (.Call (.Name x p) args [] pos))
    | .range => gd (glK (knd sc x)) (match args with
      | [a] => gd (!isStar a) (ap1 iRng1F (cA cf n mr og sc [a]))
      | [a, b] => gd (!isStar a && !isStar b) (ap1 iRng2F (cA cf n mr og sc [a, b]))
      | [a, b, c] => gd (!isStar a && !isStar b && !isStar c) (ap1 iRng3F (cA cf n mr og sc [a, b, c]))
      | _ => none)
    | .enu => gd (glK (knd sc x)) (match args, tg with
      | [a], .Tuple _ _ _ => gd (!isStar a) (ap1 iEnumF2 (cA cf n mr og sc [a]))
      | _, _ => none)
    | .zip => gd (glK (knd sc x)) (match args, tg with
      | [a, b], .Tuple _ _ _ => gd (!isStar a && !isStar b) (ap1 iZipF2 (cA cf n mr og sc [a, b]))
      | _, _ => none))
  | n + 1, mr, og, sc, tg, e => ap1 iSeqF (cE cf n mr og sc e)
/-- targets -/
def cG (cf : Cf) : Nat → Bool → Scope → Scope → Expr → Option Gv
  | 0, _, _, _, _ => none
  | n + 1, mr, og, sc, .Name x pos => gd (stK (knd og x)) (ap1 gVar (ixS cf.N x 0))
  | n + 1, mr, og, sc, .Tuple es k pos => ap1 (fun b => gTupF (gsLen es.length b)) (cGs cf n mr og sc es)
  | n + 1, mr, og, sc, .Subscript o i pos => gd (!isSliceE i) (ap2 gSubF (cE cf n mr og sc o) (cE cf n mr og sc i))
  | n + 1, mr, og, sc, _ => none
def cGs (cf : Cf) : Nat → Bool → Scope → Scope → List Expr → Option Gvs
  | 0, _, _, _, _ => none
  | n + 1, mr, og, sc, [] => some gsNil
  | n + 1, mr, og, sc, e :: es => gd (!isStar e) (ap2 gsCons (cG cf n mr og sc e) (cGs cf n mr og sc es))
/-- a comprehension -/
def cC (cf : Cf) : Nat → Bool → Scope → Scope → Expr → Expr → List Expr → Expr → Scope → Bool → Option Ev
  | 0, _, _, _, _, _, _, _, _, _ => none
  | n + 1, mr, og, sc, tg, iter, ifs, elt, scope, new => gd (blkC cf.N sc scope (ownOf cf.N scope) && !isSetE iter) (bn (cI cf n mr og sc tg iter) fun it => bn (cH cf n scope ((ownOf cf.N scope).map (·.2)) tg) fun gv => bn (match ifs with
    | [] => some tYesF
    | [e] => cT cf n false scope (relS scope sc) e
    | _ => none) fun t => ap1 (fun el => match new with
      | true => eCompN it gv t el ((ownOf cf.N scope).map (·.2))
      | false => eComp it gv t el ((ownOf cf.N scope).map (·.2))) (cE cf n false scope (relS scope sc) elt))
/-- a comprehension with two for -/
def cD (cf : Cf) : Nat → Bool → Scope → Scope → Expr → Expr → List Expr → Expr → Expr → List Expr → Expr → Scope → Option Ev
  | 0, _, _, _, _, _, _, _, _, _, _, _ => none
  | n + 1, mr, og, sc, tg, iter, ifs, tg1, iter1, ifs1, elt, scope => gd (blkC cf.N sc scope (ownOf cf.N scope) && (!isSetE iter && (!isSetE iter1 && (tgIx cf.N tg1).all fun i => ((ownOf cf.N scope).map (·.2)).contains i)))
    (bn (cI cf n mr og sc tg iter) fun it => bn (cH cf n scope ((ownOf cf.N scope).map (·.2)) tg) fun gv => bn (cP cf n false scope (relS scope sc) ifs) fun t =>
      bn (cI cf n false scope (relS scope sc) tg1 iter1) fun it1 => bn (cH cf n scope (tgIx cf.N tg1) tg1) fun gv1 => bn (cP cf n false scope (relS scope sc) ifs1) fun t1 =>
        ap1 (fun el => eComp2 it gv t it1 gv1 t1 el ((ownOf cf.N scope).map (·.2)) (tgIx cf.N tg1)) (cE cf n false scope (relS scope sc) elt))
/-- tests ahead of an element -/
def cP (cf : Cf) : Nat → Bool → Scope → Scope → List Expr → Option Tv
  | 0, _, _, _, _ => none
  | n + 1, mr, og, sc, [] => some tYesF
  | n + 1, mr, og, sc, [e] => cT cf n mr og sc e
  | n + 1, mr, og, sc, _ => none
/-- a comprehension's targets -/
def cH (cf : Cf) : Nat → Scope → List Nat → Expr → Option Gv
  | 0, _, _, _ => none
  | n + 1, og, vs, .Name x pos => gd (stK (knd og x)) (bn (ixS cf.N x 0) fun i => gd (vs.contains i) (some (gVar i)))
  | n + 1, og, vs, .Tuple es k pos => ap1 (fun b => gTupF (gsLen es.length b)) (cHs cf n og vs es)
  | n + 1, og, vs, _ => none
def cHs (cf : Cf) : Nat → Scope → List Nat → List Expr → Option Gvs
  | 0, _, _, _ => none
  | n + 1, og, vs, [] => some gsNil
  | n + 1, og, vs, e :: es => gd (!isStar e) (ap2 gsCons (cH cf n og vs e) (cHs cf n og vs es))
end
end PL

set_option Elab.async false
set_option linter.all false
set_option maxRecDepth 100000
set_option maxHeartbeats 8000000
/-! the function of the text is sound -/
namespace PL
open PySem PySem.Spec PyProof.Rows L2
variable [B : Bs]
variable {g : G} {cf : Cf}
structure All (g : G) (cf : Cf) (n : Nat) : Prop where
  E : ∀ og sc e f, cE cf n g.mr og sc e = some f → SE g og sc e f
  X : ∀ og sc e f, cX cf n g.mr og sc e = some f → SE g og sc e f
  O : ∀ og sc e f, cO cf n g.mr og sc e = some f → SO g og sc e f
  A : ∀ og sc es f, cA cf n g.mr og sc es = some f → SA g og sc es f
  V : ∀ og sc op es f pos, cV cf n g.mr og sc op es = some f → SE g og sc (.BoolOp op es pos) f
  T : ∀ og sc e f, cT cf n g.mr og sc e = some f → ST g og sc e f
  W : ∀ og sc op es f pos, cW cf n g.mr og sc op es = some f → SW g og sc (.BoolOp op es pos) f
  I : ∀ og sc tg e f, cI cf n g.mr og sc tg e = some f → SI g og sc tg e f
  Gg : ∀ og sc e f, cG cf n g.mr og sc e = some f → SG g og sc e f
  Gs : ∀ og sc es f, cGs cf n g.mr og sc es = some f → SGs g og sc es f
  C : ∀ og sc tg iter ifs elt scope new f, cC cf n g.mr og sc tg iter ifs elt scope new = some f → ∃ it gv t el, CompOk g og sc scope (ownOf cf.N scope) tg iter elt ifs it gv t el ∧ f = (if new = true then eCompN it gv t el ((ownOf cf.N scope).map (·.2)) else eComp it gv t el ((ownOf cf.N scope).map (·.2)))
  Dd : ∀ og sc tg iter ifs tg1 iter1 ifs1 elt scope f, cD cf n g.mr og sc tg iter ifs tg1 iter1 ifs1 elt scope = some f → ∃ it gv t it1 gv1 t1 el, Comp2Ok g og sc scope (ownOf cf.N scope) (tgIx cf.N tg1) tg iter tg1 iter1 elt ifs ifs1 it gv t it1 gv1 t1 el ∧ f = eComp2 it gv t it1 gv1 t1 el ((ownOf cf.N scope).map (·.2)) (tgIx cf.N tg1)
  Pp : ∀ og sc es f, cP cf n g.mr og sc es = some f → SPTs g og sc es f
  Hh : ∀ og sc vs e f, cH cf n og vs e = some f → SGw g og sc vs e f
  Hs : ∀ og sc vs es f, cHs cf n og vs es = some f → SGsw g og sc vs es f
theorem ix_N (ok : CfOk g cf) {x : Str} {i : Nat} (h : ixS cf.N x 0 = some i) : g.N[i]? = some x := by
  rw [ok.N]
  exact (ixS_ok h).2
omit [B : Bs] in
theorem bnot {b : Bool} (h : (!b) = true) : b = false := by simpa using h
omit [B : Bs] in
theorem band {a b : Bool} (h : (a && b) = true) : a = true ∧ b = true := by simpa using h
theorem all_zero : All g cf 0 := by
  constructor <;> intros <;> first | (rename_i h; cases h) | skip
theorem step_E {n : Nat} (ih : All g cf n) : ∀ og sc e f, cE cf (n + 1) g.mr og sc e = some f → SE g og sc e f := by
  intro og sc e f h
  unfold cE at h
  split at h
  · obtain ⟨a, h1, rfl⟩ := ap1_some h
    exact se_frz (ih.X _ _ _ _ h1)
  · exact ih.X _ _ _ _ h
theorem step_O {n : Nat} (ih : All g cf n) : ∀ og sc e f, cO cf (n + 1) g.mr og sc e = some f → SO g og sc e f := by
  intro og sc e f h
  cases e with
  | none => unfold cO at h; cases h; exact so_none
  | some e =>
    unfold cO at h
    obtain ⟨a, h1, rfl⟩ := ap1_some h
    exact so_some (ih.E _ _ _ _ h1)
theorem step_A {n : Nat} (ih : All g cf n) : ∀ og sc es f, cA cf (n + 1) g.mr og sc es = some f → SA g og sc es f := by
  intro og sc es f h
  cases es with
  | nil => unfold cA at h; cases h; exact sa_nil
  | cons e es =>
    unfold cA at h
    obtain ⟨h0, h⟩ := gd_some h
    obtain ⟨a, b, h1, h2, rfl⟩ := ap2_some h
    exact sa_cons (bnot h0) (ih.E _ _ _ _ h1) (ih.A _ _ _ _ h2)
theorem step_V {n : Nat} (ih : All g cf n) : ∀ og sc op es f pos, cV cf (n + 1) g.mr og sc op es = some f → SE g og sc (.BoolOp op es pos) f := by
  intro og sc op es f pos h
  match es with
  | [] => unfold cV at h; cases h
  | [e] => unfold cV at h; exact se_one (ih.E _ _ _ _ h)
  | e :: e2 :: es =>
    unfold cV at h
    obtain ⟨a, b, h1, h2, rfl⟩ := ap2_some h
    cases op with
    | And => exact se_and (ih.E _ _ _ _ h1) (ih.V _ _ _ _ _ pos h2)
    | Or => exact se_or (ih.E _ _ _ _ h1) (ih.V _ _ _ _ _ pos h2)
theorem step_W {n : Nat} (ih : All g cf n) : ∀ og sc op es f pos, cW cf (n + 1) g.mr og sc op es = some f → SW g og sc (.BoolOp op es pos) f := by
  intro og sc op es f pos h
  match es with
  | [] => unfold cW at h; cases h
  | [e] => unfold cW at h; exact sw_one (ih.T _ _ _ _ h)
  | e :: e2 :: es =>
    unfold cW at h
    obtain ⟨a, b, h1, h2, rfl⟩ := ap2_some h
    cases op with
    | And => exact sw_and (ih.T _ _ _ _ h1) (ih.W _ _ _ _ _ pos h2)
    | Or => exact sw_or (ih.T _ _ _ _ h1) (ih.W _ _ _ _ _ pos h2)
theorem cmp_ok {n : Nat} (ok : CfOk g cf) (ih : All g cf n) {og sc : Scope} {ea eb : Expr} {op : CmpOp} {f : Ev} {pos : Pos} (hm : isSetE eb = false) (h : ap2 (cmpF cf g.mr op) (cE cf n g.mr og sc ea) (cE cf n g.mr og sc eb) = some f) :
    SE g og sc (.Compare ea [op] [eb] pos) f ∧ ST g og sc (.Compare ea [op] [eb] pos) (asT f) := by
  obtain ⟨a, b, h1, h2, rfl⟩ := ap2_some h
  exact cmpF_ok ok hm (ih.E _ _ _ _ h1) (ih.E _ _ _ _ h2)
theorem step_T {n : Nat} (ok : CfOk g cf) (ih : All g cf n) : ∀ og sc e f, cT cf (n + 1) g.mr og sc e = some f → ST g og sc e f := by
  intro og sc e f h
  unfold cT at h
  split at h
  · cases ‹_ = 0›
  · rename_i heq
    cases heq
    obtain ⟨a, h1, rfl⟩ := ap1_some h
    exact st_not (ih.T _ _ _ _ h1)
  · rename_i heq
    cases heq
    exact (ih.W _ _ _ _ _ _ h).st
  · rename_i heq
    cases heq
    obtain ⟨h0, h⟩ := gd_some h
    obtain ⟨a, h1, rfl⟩ := ap1_some h
    exact (cmp_ok ok ih (bnot h0) h1).2
  · rename_i heq
    cases heq
    obtain ⟨h0, h⟩ := gd_some h
    obtain ⟨a, h1, rfl⟩ := ap1_some h
    obtain ⟨x, y, z, k1, k2, k3, rfl⟩ := ap3_some h1
    exact st_chain (bnot h0) (ih.E _ _ _ _ k1) (ih.E _ _ _ _ k2) (ih.E _ _ _ _ k3)
  · rename_i heq _ _ _ _
    cases heq
    obtain ⟨h0, h⟩ := gd_some h
    obtain ⟨a, h1, rfl⟩ := ap1_some h
    exact st_val h0 (ih.E _ _ _ _ h1)
omit [B : Bs] in
theorem wk_range {x : Str} (h : wkOf x = .range) : x = "range" := by
  unfold wkOf at h
  split at h
  · rename_i q; exact eqS_ok q
  · split at h
    · cases h
    · split at h <;> cases h
omit [B : Bs] in
theorem wk_enu {x : Str} (h : wkOf x = .enu) : x = "enumerate" := by
  unfold wkOf at h
  split at h
  · cases h
  · split at h
    · rename_i q; exact eqS_ok q
    · split at h <;> cases h
omit [B : Bs] in
theorem wk_zip {x : Str} (h : wkOf x = .zip) : x = "zip" := by
  unfold wkOf at h
  split at h
  · cases h
  · split at h
    · cases h
    · split at h
      · rename_i q; exact eqS_ok q
      · cases h
theorem step_I {n : Nat} (ok : CfOk g cf) (ih : All g cf n) : ∀ og sc tg e f, cI cf (n + 1) g.mr og sc tg e = some f → SI g og sc tg e f := by
  intro og sc tg e f h
  unfold cI at h
  split at h
  · cases ‹_ = 0›
  · rename_i heq
    cases heq
    split at h
    · obtain ⟨a, h1, rfl⟩ := ap1_some h
      exact si_seq (ih.E _ _ _ _ h1)
    · rename_i hw
      have hx := wk_range hw
      subst hx
      obtain ⟨h0, h⟩ := gd_some h
      have hm : RgN g _ := ⟨ok.rng, gl_eq h0⟩
      split at h
      · obtain ⟨h2, h⟩ := gd_some h
        obtain ⟨a, h1, rfl⟩ := ap1_some h
        exact si_rng1 (bnot h2) hm (ih.A _ _ _ _ h1)
      · obtain ⟨h2, h⟩ := gd_some h
        obtain ⟨a, h1, rfl⟩ := ap1_some h
        exact si_rng2 (bnot (band h2).1) (bnot (band h2).2) hm (ih.A _ _ _ _ h1)
      · obtain ⟨h2, h⟩ := gd_some h
        obtain ⟨a, h1, rfl⟩ := ap1_some h
        obtain ⟨h2, z3⟩ := band h2
        obtain ⟨z1, z2⟩ := band h2
        exact si_rng3 (bnot z1) (bnot z2) (bnot z3) hm (ih.A _ _ _ _ h1)
      · cases h
    · rename_i hw
      have hx := wk_enu hw
      subst hx
      obtain ⟨h0, h⟩ := gd_some h
      split at h
      · obtain ⟨h2, h⟩ := gd_some h
        obtain ⟨a, h1, rfl⟩ := ap1_some h
        exact si_enum2 (bnot h2) ⟨ok.enu, gl_eq h0⟩ (ih.A _ _ _ _ h1)
      · cases h
    · rename_i hw
      have hx := wk_zip hw
      subst hx
      obtain ⟨h0, h⟩ := gd_some h
      split at h
      · obtain ⟨h2, h⟩ := gd_some h
        obtain ⟨a, h1, rfl⟩ := ap1_some h
        exact si_zipB (bnot (band h2).1) (bnot (band h2).2) ⟨ok.zip, gl_eq h0⟩ (ih.A _ _ _ _ h1)
      · cases h
  · rename_i heq _
    cases heq
    obtain ⟨a, h1, rfl⟩ := ap1_some h
    exact si_seq (ih.E _ _ _ _ h1)
theorem step_G {n : Nat} (ok : CfOk g cf) (ih : All g cf n) : ∀ og sc e f, cG cf (n + 1) g.mr og sc e = some f → SG g og sc e f := by
  intro og sc e f h
  unfold cG at h
  split at h
  · cases ‹_ = 0›
  · rename_i heq
    cases heq
    obtain ⟨h0, h⟩ := gd_some h
    obtain ⟨a, h1, rfl⟩ := ap1_some h
    exact sg_var (ix_N ok h1) (st_eq h0)
  · rename_i heq
    cases heq
    obtain ⟨a, h1, rfl⟩ := ap1_some h
    obtain ⟨t, p, s⟩ := ih.Gs _ _ _ _ h1
    exact sg_tup ⟨t, p, says_gsLen s⟩ gsLen_no
  · rename_i heq
    cases heq
    obtain ⟨h0, h⟩ := gd_some h
    obtain ⟨a, b, h1, h2, rfl⟩ := ap2_some h
    exact sg_sub (bnot h0) (ih.E _ _ _ _ h1) (ih.E _ _ _ _ h2)
  · cases h
theorem step_Gs {n : Nat} (ih : All g cf n) : ∀ og sc es f, cGs cf (n + 1) g.mr og sc es = some f → SGs g og sc es f := by
  intro og sc es f h
  cases es with
  | nil => unfold cGs at h; cases h; exact sgs_nil
  | cons e es =>
    unfold cGs at h
    obtain ⟨h0, h⟩ := gd_some h
    obtain ⟨a, b, h1, h2, rfl⟩ := ap2_some h
    exact sgs_cons (bnot h0) (ih.Gg _ _ _ _ h1) (ih.Gs _ _ _ _ h2)
theorem step_H {n : Nat} (ok : CfOk g cf) (ih : All g cf n) : ∀ og sc vs e f, cH cf (n + 1) og vs e = some f → SGw g og sc vs e f := by
  intro og sc vs e f h
  unfold cH at h
  split at h
  · cases ‹_ = 0›
  · rename_i heq
    cases heq
    obtain ⟨h0, h⟩ := gd_some h
    obtain ⟨i, h1, h⟩ := bn_some h
    obtain ⟨h2, h⟩ := gd_some h
    cases h
    exact sgw_var (by simpa using h2) (ix_N ok h1) (st_eq h0)
  · rename_i heq
    cases heq
    obtain ⟨a, h1, rfl⟩ := ap1_some h
    obtain ⟨t, p, s, w⟩ := ih.Hs _ _ _ _ _ h1
    exact sgw_tup ⟨t, p, says_gsLen s, w⟩ gsLen_no
  · cases h
theorem step_Hs {n : Nat} (ih : All g cf n) : ∀ og sc vs es f, cHs cf (n + 1) og vs es = some f → SGsw g og sc vs es f := by
  intro og sc vs es f h
  cases es with
  | nil => unfold cHs at h; cases h; exact sgsw_nil
  | cons e es =>
    unfold cHs at h
    obtain ⟨h0, h⟩ := gd_some h
    obtain ⟨a, b, h1, h2, rfl⟩ := ap2_some h
    exact sgsw_cons (bnot h0) (ih.Hh _ _ _ _ _ h1) (ih.Hs _ _ _ _ _ h2)
theorem step_C {n : Nat} (ok : CfOk g cf) (ih : All g cf n) (ihq : All g.quiet cf n) : ∀ og sc tg iter ifs elt scope new f, cC cf (n + 1) g.mr og sc tg iter ifs elt scope new = some f → ∃ it gv t el, CompOk g og sc scope (ownOf cf.N scope) tg iter elt ifs it gv t el ∧
    f = (if new = true then eCompN it gv t el ((ownOf cf.N scope).map (·.2)) else eComp it gv t el ((ownOf cf.N scope).map (·.2))) := by
  intro og sc tg iter ifs elt scope new f h
  unfold cC at h
  obtain ⟨h0, h⟩ := gd_some h
  obtain ⟨it, h1, h⟩ := bn_some h
  obtain ⟨gv, h2, h⟩ := bn_some h
  obtain ⟨t, h3, h⟩ := bn_some h
  obtain ⟨el, h4, rfl⟩ := ap1_some h
  obtain ⟨z1, z2⟩ := band h0
  refine ⟨it, gv, t, el, ⟨by rw [ok.N]; exact blkOk_by z1, bnot z2, ih.I _ _ _ _ _ h1, ihq.Hh _ _ _ _ _ h2, ?_, ihq.E _ _ _ _ h4⟩, by cases new <;> rfl⟩
  split at h3
  · cases h3; exact spts_nil
  · exact spts_one (ihq.T _ _ _ _ h3)
  · cases h3
theorem step_P {n : Nat} (ih : All g cf n) : ∀ og sc es f, cP cf (n + 1) g.mr og sc es = some f → SPTs g og sc es f := by
  intro og sc es f h
  unfold cP at h
  split at h
  · cases ‹_ = 0›
  · cases h; exact spts_nil
  · rename_i heq
    cases heq
    exact spts_one (ih.T _ _ _ _ h)
  · cases h
theorem step_D {n : Nat} (ok : CfOk g cf) (ih : All g cf n) (ihq : All g.quiet cf n) : ∀ og sc tg iter ifs tg1 iter1 ifs1 elt scope f, cD cf (n + 1) g.mr og sc tg iter ifs tg1 iter1 ifs1 elt scope = some f → ∃ it gv t it1 gv1 t1 el, Comp2Ok g og sc scope (ownOf cf.N scope) (tgIx cf.N tg1) tg iter tg1 iter1 elt ifs ifs1 it gv t it1 gv1 t1 el ∧ f = eComp2 it gv t it1 gv1 t1 el ((ownOf cf.N scope).map (·.2)) (tgIx cf.N tg1) := by
  intro og sc tg iter ifs tg1 iter1 ifs1 elt scope f h
  unfold cD at h
  obtain ⟨h0, h⟩ := gd_some h
  obtain ⟨it, h1, h⟩ := bn_some h
  obtain ⟨gv, h2, h⟩ := bn_some h
  obtain ⟨t, h3, h⟩ := bn_some h
  obtain ⟨it1, k1, h⟩ := bn_some h
  obtain ⟨gv1, k2, h⟩ := bn_some h
  obtain ⟨t1, k3, h⟩ := bn_some h
  obtain ⟨el, h4, rfl⟩ := ap1_some h
  obtain ⟨z1, h0⟩ := band h0
  obtain ⟨z2, h0⟩ := band h0
  obtain ⟨z3, z4⟩ := band h0
  exact ⟨it, gv, t, it1, gv1, t1, el, ⟨by rw [ok.N]; exact blkOk_by z1, bnot z2, bnot z3, fun i hi => by simpa using List.all_eq_true.mp z4 i hi, ih.I _ _ _ _ _ h1, ihq.Hh _ _ _ _ _ h2, ihq.Pp _ _ _ _ h3, ihq.I _ _ _ _ _ k1, ihq.Hh _ _ _ _ _ k2, ihq.Pp _ _ _ _ k3, ihq.E _ _ _ _ h4⟩, rfl⟩
omit [B : Bs] in
theorem callee_fn {x : Str} {n : Nat} {F : Fn} (h : callee cf x = some (.fn n F)) : (x, n, F) ∈ cf.fns := by
  unfold callee at h
  split at h
  · rename_i q
    cases h
    exact lk_mem q
  · split at h
    · cases h
    · obtain ⟨a, _, h2⟩ := ap1_some h
      cases h2
omit [B : Bs] in
theorem callee_bl {x : Str} {b : Bl} (h : callee cf x = some (.bl b)) : (x, b) ∈ cf.bls := by
  unfold callee at h
  split at h
  · cases h
  · split at h
    · rename_i q
      cases h
      exact lk_mem q
    · obtain ⟨a, h1, h2⟩ := ap1_some h
      cases h2
omit [B : Bs] in
theorem callee_mk {x : Str} {F : Fn} (h : callee cf x = some (.mk F)) : (x, F) ∈ cf.mks := by
  unfold callee at h
  split at h
  · cases h
  · split at h
    · cases h
    · obtain ⟨a, h1, h2⟩ := ap1_some h
      cases h2
      exact lk_mem h1
omit [B : Bs] in
theorem clsName_ok {sc : Scope} {o : Expr} {C : Str} (h : clsName cf sc o = some C) : ∃ p, o = .Name C p ∧ glK (knd sc C) = true ∧ (cf.cls.any fun y => eqS y C) = true := by
  unfold clsName at h
  split at h
  · obtain ⟨h0, h⟩ := gd_some h
    cases h
    exact ⟨_, rfl, band h0⟩
  · cases h
omit [B : Bs] in
theorem listN_val (b : Bl) : (listN b).val = b.val := by cases b <;> rfl
theorem step_attr {n : Nat} (ok : CfOk g cf) (ih : All g cf n) {og sc : Scope} {o e : Expr} {m : Str} {apos pos : Pos} {es : List Expr} {f : Ev} (h : gd (!isCallE o && (apos.endLine == pos.line) && Nat.blt (e :: es).length 30) (match mbOf m with
    | some mb => ap2 (eMt mb.ty mb.op) (cE cf n g.mr og sc o) (cA cf n g.mr og sc (e :: es))
    | none => (match clsName cf sc o with
      | some C => bn (lkM cf.cms C m) fun F => ap1 (eCm g.mr C F) (cA cf n g.mr og sc (e :: es))
      | none => ap2 (eMeth g.mr cf.mts m) (cE cf n g.mr og sc o) (cA cf n g.mr og sc (e :: es)))) = some f) : SE g og sc (.Call (.Attribute o m apos) (e :: es) [] pos) f := by
  obtain ⟨hq, hb⟩ := gd_some h
  clear h
  obtain ⟨hq, q3⟩ := band hq
  obtain ⟨q1, q2⟩ := band hq
  split at hb
  · rename_i mb h0
    obtain ⟨a, b, h1, h2, rfl⟩ := ap2_some hb
    have hm := mbOf_ok h0
    subst hm
    exact se_mb (bnot q1) q2 (Nat.le_of_ble_eq_true q3) (ih.E _ _ _ _ h1) (ih.A _ _ _ _ h2)
  · split at hb
    · rename_i C hC
      obtain ⟨F, hF, hb1⟩ := bn_some hb
      obtain ⟨b, h1, rfl⟩ := ap1_some hb1
      obtain ⟨p, rfl, hg, hc⟩ := clsName_ok hC
      obtain ⟨k1, k2, k3⟩ := ok.cms _ _ _ (lkM_mem hF)
      exact se_cm k1 k2 k3 (gl_eq hg) q2 (Nat.le_of_ble_eq_true q3) (ih.A _ _ _ _ h1)
    · obtain ⟨a, b, h1, h2, rfl⟩ := ap2_some hb
      exact se_meth (bnot q1) q2 (Nat.le_of_ble_eq_true q3) (ih.E _ _ _ _ h1) (ih.A _ _ _ _ h2) (fun C F q => (ok.mts _ _ _ (lkM_mem q)).1)
theorem step_X {n : Nat} (ok : CfOk g cf) (ih : All g cf n) : ∀ og sc e f, cX cf (n + 1) g.mr og sc e = some f → SE g og sc e f := by
  intro og sc e f h
  unfold cX at h
  split at h
  · cases ‹_ = 0›
  · -- a name
    rename_i heq
    cases heq
    split at h
    · rename_i hv
      obtain ⟨h0, h⟩ := gd_some h
      obtain ⟨i, h1, rfl⟩ := ap1_some h
      exact se_var (ix_N ok h1) (vis_eq hv) h0
    · obtain ⟨h0, h⟩ := gd_some h
      split at h
      · rename_i i hi
        cases h
        obtain ⟨⟨t, hm⟩, hd⟩ := ok.glo _ _ (lk_mem hi)
        exact se_glob (gl_eq h0) hm hd
      · split at h
        · rename_i t h1
          cases h
          obtain ⟨k1, k2, k3, k4⟩ := ok.tys _ _ (lk_mem h1)
          exact se_ty ⟨k1, gl_eq h0, k3, k4⟩ k2
        · split at h
          · rename_i hc
            cases h
            obtain ⟨y, hy, ey⟩ := List.any_eq_true.mp hc
            have ey := eqS_ok ey
            subst ey
            obtain ⟨_, k1, k2⟩ := ok.cls _ hy
            exact se_cls k1 k2 (gl_eq h0)
          · split at h
            · rename_i z hz
              cases h
              obtain ⟨⟨t, hm⟩, hd⟩ := ok.gls _ _ (lk_mem hz)
              exact se_globS (gl_eq h0) hm hd
            · obtain ⟨_, h⟩ := gd_some h
              cases h
              exact se_never
  · -- a constant
    rename_i heq
    cases heq
    split at h
    · cases h; exact se_int
    · cases h; exact se_bl
    · cases h; exact se_non
    · cases h; exact se_str
    · cases h
  · rename_i heq
    cases heq
    obtain ⟨o, h0, h⟩ := bn_some h
    obtain ⟨a, b, h1, h2, rfl⟩ := ap2_some h
    exact se_binF ok h0 (ih.E _ _ _ _ h1) (ih.E _ _ _ _ h2)
  · rename_i heq
    cases heq
    obtain ⟨a, h1, rfl⟩ := ap1_some h
    exact se_un (fun X c => un_neg) (uns_neg _) (ih.E _ _ _ _ h1)
  · rename_i heq
    cases heq
    obtain ⟨a, h1, rfl⟩ := ap1_some h
    exact se_not (ih.E _ _ _ _ h1)
  · rename_i heq
    cases heq
    obtain ⟨a, h1, rfl⟩ := ap1_some h
    exact se_inv (mts_at ok) (ih.E _ _ _ _ h1)
  · rename_i heq
    cases heq
    obtain ⟨h0, h⟩ := gd_some h
    obtain ⟨a, h1, rfl⟩ := ap1_some h
    exact se_attr (bnot h0) (ih.E _ _ _ _ h1) (fun C F q => ok.props _ _ _ (lkM_mem q)) (fun C q => ok.flds _ _ (memF_mem q))
  · rename_i heq
    cases heq
    exact ih.V _ _ _ _ _ _ h
  · rename_i heq
    cases heq
    obtain ⟨a, b, c, h1, h2, h3, rfl⟩ := ap3_some h
    exact se_if (ih.T _ _ _ _ h1) (ih.E _ _ _ _ h2) (ih.E _ _ _ _ h3)
  · rename_i heq
    cases heq
    obtain ⟨h0, h⟩ := gd_some h
    exact (cmp_ok ok ih (bnot h0) h).1
  · rename_i heq
    cases heq
    obtain ⟨h0, h⟩ := gd_some h
    obtain ⟨x, y, z, k1, k2, k3, rfl⟩ := ap3_some h
    exact se_chain (bnot h0) (ih.E _ _ _ _ k1) (ih.E _ _ _ _ k2) (ih.E _ _ _ _ k3)
  · rename_i heq
    cases heq
    obtain ⟨a, h1, rfl⟩ := ap1_some h
    exact se_tup (ih.A _ _ _ _ h1)
  · rename_i heq
    cases heq
    split at h
    · obtain ⟨a, h1, rfl⟩ := ap1_some h
      exact se_new (ih.A _ _ _ _ h1)
    · obtain ⟨a, h1, rfl⟩ := ap1_some h
      exact se_lst (ih.A _ _ _ _ h1)
  · rename_i heq
    cases heq
    obtain ⟨a, b, c, h1, h2, h3, rfl⟩ := ap3_some h
    exact se_slice (fun X c => by rw [← c.K]; exact sl_all) (sls_all _) (ih.E _ _ _ _ h1) (ih.O _ _ _ _ h2) (ih.O _ _ _ _ h3)
  · rename_i heq
    cases heq
    obtain ⟨h0, h⟩ := gd_some h
    obtain ⟨a, b, h1, h2, rfl⟩ := ap2_some h
    exact se_ixF ok (plainIx_of (bnot h0)) (bnot h0) (ih.E _ _ _ _ h1) (ih.E _ _ _ _ h2)
  · rename_i heq
    cases heq
    obtain ⟨h0, h⟩ := gd_some h
    split at h
    · rename_i hc
      cases h
      obtain ⟨k1, k2⟩ := ok.fns _ _ _ (callee_fn hc)
      exact se_call0 k1 (gl_eq h0) k2
    · cases h
  · rename_i heq
    cases heq
    obtain ⟨hs, h⟩ := gd_some h
    split at h
    · rename_i hg
      obtain ⟨F, hF, h⟩ := bn_some h
      obtain ⟨b, h1, rfl⟩ := ap1_some h
      obtain ⟨x, y, k1, k2, rfl⟩ := ap2_some h1
      exact se_mkS (bnot hs) (ok.mks _ _ (lk_mem hF)) (gl_eq hg) (sas_two (bnot hs) (ih.E _ _ _ _ k1) (ih.E _ _ _ _ k2))
    · obtain ⟨hv, h⟩ := gd_some h
      obtain ⟨v1, v2⟩ := band hv
      obtain ⟨i, hi, h⟩ := bn_some h
      obtain ⟨b, h1, rfl⟩ := ap1_some h
      obtain ⟨x, y, k1, k2, rfl⟩ := ap2_some h1
      exact se_mkL (ix_N ok hi) (vis_eq v1) v2 (bnot hs) (fun C F q => ok.mks _ _ (lk_mem q)) (sas_two (bnot hs) (ih.E _ _ _ _ k1) (ih.E _ _ _ _ k2))
  · rename_i heq
    cases heq
    split at h
    · rename_i hv
      obtain ⟨hp, h⟩ := gd_some h
      obtain ⟨i, hi, h⟩ := bn_some h
      obtain ⟨b, h1, rfl⟩ := ap1_some h
      exact se_callI (ix_N ok hi) (vis_eq hv) hp (mts_at ok) (ih.A _ _ _ _ h1)
    · obtain ⟨h0, h⟩ := gd_some h
      split at h
      · rename_i hc
        obtain ⟨k1, k2⟩ := ok.fns _ _ _ (callee_fn hc)
        split at h
        · rename_i hmr
          obtain ⟨a, h1, rfl⟩ := ap1_some h
          exact se_call hmr k1 (gl_eq h0) k2 (ih.A _ _ _ _ h1)
        · obtain ⟨a, h1, rfl⟩ := ap1_some h
          exact se_callN k1 (gl_eq h0) k2 (ih.A _ _ _ _ h1)
      · rename_i b hc
        obtain ⟨k1, k2, k3, k4⟩ := ok.bls _ _ (callee_bl hc)
        split at h
        · rename_i hga
          obtain ⟨a, h1, rfl⟩ := ap1_some h
          obtain ⟨apos, cpos, rfl, rfl, rfl, g1, g2, g3⟩ := genArg_ok hga
          exact se_listG (ok.gens _ _ _ g3) ⟨k1, gl_eq h0, k3, k4⟩ k2 g1 g2 (ih.E _ _ _ _ h1)
        split at h
        · obtain ⟨a, h1, rfl⟩ := ap1_some h
          exact se_bl_call (b := listN b) ⟨k1, gl_eq h0, k3, k4⟩ (by rw [listN_val]; exact k2) (ih.A _ _ _ _ h1)
        · obtain ⟨a, h1, rfl⟩ := ap1_some h
          exact se_blF ok ⟨k1, gl_eq h0, k3, k4⟩ k2 (ih.A _ _ _ _ h1)
      · rename_i F hc
        obtain ⟨a, h1, rfl⟩ := ap1_some h
        exact se_mk (ok.mks _ _ (callee_mk hc)) (gl_eq h0) (ih.A _ _ _ _ h1)
      · cases h
  · rename_i heq
    cases heq
    obtain ⟨hq, hb⟩ := gd_some h
    clear h
    obtain ⟨q1, q2⟩ := band hq
    split at hb
    · rename_i hm
      obtain ⟨a, h1, rfl⟩ := ap1_some hb
      have hm := eqS_ok hm
      subst hm
      exact se_mt0 PySem.F.plainAttrs_list PySem.F.slot_list_pop PySem.F.type_list_pop (fun X c => mt_pop) (mts_pop0 _) (bnot q1) q2 (ih.E _ _ _ _ h1)
    · obtain ⟨a, h1, rfl⟩ := ap1_some hb
      exact se_meth0 (bnot q1) q2 (ih.E _ _ _ _ h1) (fun C F q => (ok.mts _ _ _ (lkM_mem q)).1)
  · rename_i heq
    cases heq
    obtain ⟨h0, hb⟩ := gd_some h
    obtain ⟨z1, h0⟩ := band h0
    obtain ⟨z2, h0⟩ := band h0
    obtain ⟨z3, h0⟩ := band h0
    obtain ⟨z4, h0⟩ := band h0
    obtain ⟨z5, z6⟩ := band h0
    obtain ⟨b1, k1, hb⟩ := bn_some hb
    obtain ⟨b2, k2, hb⟩ := bn_some hb
    obtain ⟨a, h1, rfl⟩ := ap1_some hb
    have e1 := eqS_ok z1
    have e2 := eqS_ok z2
    have e3 := eqS_ok z3
    subst e1 e2 e3
    exact se_sortLen (bnot z6) ⟨(ok.bls _ _ (lk_mem k1)).1, gl_eq z4⟩ ⟨(ok.bls _ _ (lk_mem k2)).1, gl_eq z5⟩ (ih.A _ _ _ _ h1)
  · rename_i heq
    cases heq
    split at h
    · rename_i h0
      obtain ⟨hq, h⟩ := gd_some h
      obtain ⟨a, b, c, h1, h2, h3, rfl⟩ := ap3_some h
      have hm := eqS_ok h0
      subst hm
      obtain ⟨hq, q4⟩ := band hq
      obtain ⟨hq, q3⟩ := band hq
      obtain ⟨q1, q2⟩ := band hq
      exact se_get (bnot q1) q2 (bnot q3) (bnot q4) (ih.E _ _ _ _ h1) (ih.E _ _ _ _ h2) (ih.E _ _ _ _ h3)
    · exact step_attr ok ih h
  · rename_i heq
    cases heq
    exact step_attr ok ih h
  · rename_i heq
    cases heq
    obtain ⟨h0, h⟩ := gd_some h
    have h0' := beq_iff_eq.mp h0
    subst h0'
    obtain ⟨it, gv, t, el, k, rfl⟩ := ih.C _ _ _ _ _ _ _ _ _ h
    split
    · exact se_compN k
    · exact se_comp k
  · rename_i heq
    cases heq
    obtain ⟨h0, hb⟩ := gd_some h
    obtain ⟨z1, z2⟩ := band h0
    have z1 := beq_iff_eq.mp z1
    have z2 := beq_iff_eq.mp z2
    subst z1 z2
    obtain ⟨it, gv, t, it1, gv1, t1, el, k, rfl⟩ := ih.Dd _ _ _ _ _ _ _ _ _ _ _ hb
    exact se_comp2 k
  · cases h
theorem CfOk.quiet {g : G} (ok : CfOk g cf) : CfOk g.quiet cf := ⟨ok.N, fun x n F h => ⟨⟨(ok.fns x n F h).1.K, (ok.fns x n F h).1.ex⟩, (ok.fns x n F h).2⟩, ok.bls, ok.tys, ok.glo, ok.rng, ok.enu, ok.zip, fun x h => ⟨(ok.exs x h).K, (ok.exs x h).f⟩,
  fun C m F h => ⟨⟨(ok.mts C m F h).1.K, (ok.mts C m F h).1.ex⟩, ⟨(ok.mts C m F h).2.ex⟩⟩, fun C m F h => ⟨(ok.props C m F h).K, (ok.props C m F h).ex⟩, fun C f h => ⟨(ok.flds C f h).ex⟩, fun C F h => ⟨(ok.mks C F h).K, (ok.mks C F h).ex, (ok.mks C F h).nd⟩,
  fun C m F h => ⟨⟨(ok.cms C m F h).1.K, (ok.cms C m F h).1.ex⟩, (ok.cms C m F h).2⟩, fun C h => ⟨⟨(ok.cls C h).1.ex⟩, (ok.cls C h).2⟩, ok.gls, fun C m F h => ⟨(ok.gens C m F h).K, (ok.gens C m F h).ex⟩⟩
theorem all_ok : ∀ (n : Nat) (g : G), CfOk g cf → All g cf n
  | 0, _, _ => all_zero
  | n + 1, g, ok => by
    have ih := all_ok n g ok
    have ihq := all_ok n g.quiet ok.quiet
    exact ⟨step_E ih, step_X ok ih, step_O ih, step_A ih, step_V ih, step_T ok ih, step_W ih, step_I ok ih, step_G ok ih, step_Gs ih, step_C ok ih ihq, step_D ok ih ihq, step_P ih, step_H ok ih, step_Hs ih⟩
end PL

set_option Elab.async false
set_option linter.all false
set_option maxRecDepth 100000
set_option maxHeartbeats 8000000
/-! statements of the text; a def of the text -/
namespace PL
open PySem PySem.Spec PyProof.Rows L2
variable [B : Bs]

omit [B : Bs] in
def eqSs : List Str → List Str → Bool
  | [], [] => true
  | a :: as, b :: bs => (match eqS a b with
    | true => eqSs as bs
    | false => false)
  | _, _ => false
omit [B : Bs] in
theorem eqSs_ok : ∀ {as bs : List Str}, eqSs as bs = true → as = bs
  | [], [], _ => rfl
  | [], _ :: _, h => by cases h
  | _ :: _, [], h => by cases h
  | a :: as, b :: bs, h => by
    unfold eqSs at h
    split at h
    · rename_i q
      rw [eqS_ok q, eqSs_ok h]
    · cases h
omit [B : Bs] in
theorem isLoc_ok {sc : Scope} {x : Str} (h : isLoc sc x = true) : sc.names.lookup x = some .local := lc_eq h
omit [B : Bs] in
def neN (i j : Nat) : Bool := match Nat.beq i j with
  | true => false
  | false => true
omit [B : Bs] in
theorem neN_ok {i j : Nat} (h : neN i j = true) : i ≠ j := fun e => by
  subst e
  unfold neN at h
  rw [show Nat.beq i i = true from Nat.beq_refl i] at h
  cases h
omit [B : Bs] in
def sRaise (x : Str) : Sv := fun ρ S => .ex x none ρ S
theorem ss_raise {g : G} {sc : Scope} {x m : Str} {j : Nat} {p p2 pos pos2 : Pos} (hr : g.mr = true) (h : ExA g x) (hg : sc.names.lookup x = some .globalImplicit) : SS g sc sc (.Raise (some (.Call (.Name x p) [.Constant (.str m) j p2] [] pos2)) none pos) (sRaise x) := by
  obtain ⟨C, bmB, Bn, newId, initId, h1, h2, h3, h4, h5, h6, h7⟩ := h.f.ex
  refine ⟨_, fun X c => ps_raise c.calm (c.tk hr) (pmk_own h1 (by rw [c.K]; exact h2) (by rw [c.mg]; exact h3) (by rw [c.K]; exact h4) (raises_own (by rw [c.K]; exact h5) (by rw [c.K]; exact h6)) (gl_of c hg) h.f.nd), fun as H0 H ρ S σ D r e q => ?_⟩
  have q : NoX x none ρ S := q
  have hK := h.K
  obtain ⟨C', e1, _, e2⟩ := q as H0 H σ (by rw [← hK]; exact r) (by rw [← hK]; exact e)
  rw [h7] at e1
  cases e1
  exact e2
omit [B : Bs] in
mutual
def cS (cf : Cf) : Nat → Bool → Scope → Stmt → Option Sv
  | 0, _, _, _ => none
  | n + 1, mr, sc, .Expr e pos => gd (!isCompE e) (ap1 sExpr (cE cf n mr sc sc e))
  | n + 1, mr, sc, .Return (some e) pos => ap1 sRet (cE cf n mr sc sc e)
  | n + 1, mr, sc, .Return none pos => some (sRet (eC .non))
  | n + 1, mr, sc, .If c a b pos => ap3 sIf (cT cf n mr sc sc c) (cSs cf n mr sc a) (cSs cf n mr sc b)
  | n + 1, mr, sc, .While c b [] pos => ap2 (sWhile cf.fuel) (cT cf n mr sc sc c) (cSs cf n mr sc b)
  | n + 1, mr, sc, .For t e b [] pos => gd (!isSetE e) (ap3 sFor (cI cf n mr sc sc t e) (cG cf n mr sc sc t) (cSs cf n mr sc b))
  | n + 1, mr, sc, .Pass pos => some sNext
  | n + 1, mr, sc, .Break pos => some sBreak
  | n + 1, mr, sc, .Continue pos => some sCont
  | n + 1, mr, sc, .Raise (some (.Call (.Name x p) [.Constant (.str m) j p2] [] pos2)) none pos => (match mr with
    | true => (match glK (knd sc x) && (cf.exs.any fun y => eqS y x) with
      | true => some (sRaise x)
      | false => some sNever)
    | false => some sNever)
  | n + 1, mr, sc, .Raise e c pos => some sNever
  | n + 1, mr, sc, .Assign [.Name x p'] (.ListComp elt [⟨tg, iter, ifs, isa⟩] scope cpos) pos => gd (stK (knd sc x) && isa == 0) (bn (ixS cf.N x 0) fun i => ap1 (sAsg (gVar i)) (cC cf n mr sc sc tg iter ifs elt scope (inP cf.news cpos)))
  | n + 1, mr, sc, .Assign [.Name x p'] (.ListComp elt [⟨tg, iter, ifs, isa⟩, ⟨tg1, iter1, ifs1, isa1⟩] scope cpos) pos => gd (stK (knd sc x) && (isa == 0 && isa1 == 0)) (bn (ixS cf.N x 0) fun i => ap1 (sAsg (gVar i)) (cD cf n mr sc sc tg iter ifs tg1 iter1 ifs1 elt scope))
  | n + 1, mr, sc, .Assign [.Name x p'] e pos => gd (stK (knd sc x) && !isCompE e) (bn (ixS cf.N x 0) fun i => ap1 (sAsg (gVar i)) (cE cf n mr sc sc e))
  | n + 1, mr, sc, .Assign [.Tuple [.Name x px, .Name y py] k p] (.Tuple [e1, e2] k2 p2) pos => (match swSome sc [.Name x px, .Name y py] [e1, e2] with
    | true => gd (isLoc sc x && isLoc sc y && eqSs (swNames sc [.Name x px, .Name y py]) [x, y]) (bn (ixS cf.N x 0) fun i => bn (ixS cf.N y 0) fun j => gd (neN i j) (ap1 (sPar2 i j) (cA cf n mr sc sc [e1, e2])))
    | false => gd (swNone sc [.Name x px, .Name y py] [e1, e2]) (ap2 sAsg (cG cf n mr sc sc (.Tuple [.Name x px, .Name y py] k p)) (cE cf n mr sc sc (.Tuple [e1, e2] k2 p2))))
  | n + 1, mr, sc, .Assign [.Tuple [.Name x px, .Name y py, .Name z pz] k p] (.Tuple [e1, e2, e3] k2 p2) pos => (match swSome sc [.Name x px, .Name y py, .Name z pz] [e1, e2, e3] with
    | true => gd (isLoc sc x && isLoc sc y && isLoc sc z && eqSs (swNames sc [.Name x px, .Name y py, .Name z pz]) [x, y, z]) (bn (ixS cf.N x 0) fun i => bn (ixS cf.N y 0) fun j => bn (ixS cf.N z 0) fun l => gd (neN i j && neN i l && neN j l) (ap1 (sPar3 i j l) (cA cf n mr sc sc [e1, e2, e3])))
    | false => gd (swNone sc [.Name x px, .Name y py, .Name z pz] [e1, e2, e3]) (ap2 sAsg (cG cf n mr sc sc (.Tuple [.Name x px, .Name y py, .Name z pz] k p)) (cE cf n mr sc sc (.Tuple [e1, e2, e3] k2 p2))))
  | n + 1, mr, sc, .Assign [.Tuple ts k p] (.Tuple vs k2 p2) pos => gd (swNone sc ts vs) (ap2 sAsg (cG cf n mr sc sc (.Tuple ts k p)) (cE cf n mr sc sc (.Tuple vs k2 p2)))
  | n + 1, mr, sc, .Assign [.Attribute o f p'] e pos => gd (!isCompE e) (ap2 (sFldF cf.flds f) (cE cf n mr sc sc o) (cE cf n mr sc sc e))
  | n + 1, mr, sc, .Assign [t] e pos => gd (!isNameE t && !isStar t && !(isTupE t && isTupE e)) (ap2 sAsg (cG cf n mr sc sc t) (cE cf n mr sc sc e))
  | n + 1, mr, sc, _ => none
def cSs (cf : Cf) : Nat → Bool → Scope → List Stmt → Option Sv
  | 0, _, _, _ => none
  | n + 1, mr, sc, [] => some sNext
  | n + 1, mr, sc, [s] => cS cf n mr sc s
  | n + 1, mr, sc, s :: s2 :: ss => ap2 sSeq (cS cf n mr sc s) (cSs cf n mr sc (s2 :: ss))
end
section
variable {g : G} {cf : Cf}
structure AllS (g : G) (cf : Cf) (n : Nat) : Prop where
  S : ∀ sc s f, cS cf n g.mr sc s = some f → SS g sc sc s f
  Ss : ∀ sc s f, cSs cf n g.mr sc s = some f → SSs g sc sc s f
theorem step_Ss {n : Nat} (ih : AllS g cf n) : ∀ sc s f, cSs cf (n + 1) g.mr sc s = some f → SSs g sc sc s f := by
  intro sc s f h
  match s with
  | [] => unfold cSs at h; cases h; exact sss_nil
  | [s] => unfold cSs at h; exact sss_one (ih.S _ _ _ h)
  | s :: s2 :: ss =>
    unfold cSs at h
    obtain ⟨a, b, h1, h2, rfl⟩ := ap2_some h
    exact sss_cons (ih.S _ _ _ h1) (ih.Ss _ _ _ h2)
omit [B : Bs] in
theorem swapped_gen {t e : Expr} {env : Env} (h : (!(isTupE t && isTupE e)) = true) : swappedStores [t] e env = pure none := by
  cases q : isTupE t with
  | false => exact swapped_sub q
  | true =>
    cases q' : isTupE e with
    | false => exact swapped_plain q'
    | true => rw [q, q'] at h; cases h
theorem step_S {n : Nat} (ok : CfOk g cf) (ih : AllS g cf n) : ∀ sc s f, cS cf (n + 1) g.mr sc s = some f → SS g sc sc s f := by
  have A := all_ok n g ok
  intro sc s f h
  unfold cS at h
  split at h
  · cases ‹_ = 0›
  · rename_i heq; cases heq
    obtain ⟨h0, h⟩ := gd_some h
    obtain ⟨a, h1, rfl⟩ := ap1_some h
    exact ss_expr (bnot h0) (A.E _ _ _ _ h1)
  · rename_i heq; cases heq
    obtain ⟨a, h1, rfl⟩ := ap1_some h
    exact ss_ret (A.E _ _ _ _ h1)
  · rename_i heq; cases heq
    cases h
    exact ss_retN
  · rename_i heq; cases heq
    obtain ⟨a, b, c, h1, h2, h3, rfl⟩ := ap3_some h
    exact ss_if (A.T _ _ _ _ h1) (ih.Ss _ _ _ h2) (ih.Ss _ _ _ h3)
  · rename_i heq; cases heq
    obtain ⟨a, b, h1, h2, rfl⟩ := ap2_some h
    exact ss_while (A.T _ _ _ _ h1) (ih.Ss _ _ _ h2)
  · rename_i heq; cases heq
    obtain ⟨h0, h⟩ := gd_some h
    obtain ⟨a, b, c, h1, h2, h3, rfl⟩ := ap3_some h
    exact ss_for (bnot h0) (A.I _ _ _ _ _ h1) (A.Gg _ _ _ _ h2) (ih.Ss _ _ _ h3)
  · rename_i heq; cases heq; cases h; exact ss_pass
  · rename_i heq; cases heq; cases h; exact ss_break
  · rename_i heq; cases heq; cases h; exact ss_cont
  · rename_i heq; cases heq
    split at h
    · rename_i hmr
      split at h
      · rename_i h0
        obtain ⟨z1, z2⟩ := band h0
        cases h
        obtain ⟨y, hy, e⟩ := List.any_eq_true.mp z2
        have e := eqS_ok e
        subst e
        exact ss_raise hmr (ok.exs _ hy) (gl_eq z1)
      · cases h; exact ss_never
    · cases h; exact ss_never
  · rename_i heq; cases heq; cases h; exact ss_never
  · rename_i heq; cases heq
    obtain ⟨h0, hb⟩ := gd_some h
    obtain ⟨z1, z2⟩ := band h0
    have z2 := beq_iff_eq.mp z2
    subst z2
    obtain ⟨i, hi, hc⟩ := bn_some hb
    obtain ⟨a, h1, rfl⟩ := ap1_some hc
    obtain ⟨it, gv, t, el, k, rfl⟩ := A.C _ _ _ _ _ _ _ _ _ h1
    exact ss_setComp (ix_N ok hi) (st_eq z1) k
  · rename_i heq; cases heq
    obtain ⟨h0, hb⟩ := gd_some h
    obtain ⟨z1, z2⟩ := band h0
    obtain ⟨z2, z3⟩ := band z2
    have z2 := beq_iff_eq.mp z2
    have z3 := beq_iff_eq.mp z3
    subst z2 z3
    obtain ⟨i, hi, hc⟩ := bn_some hb
    obtain ⟨a, h1, rfl⟩ := ap1_some hc
    obtain ⟨it, gv, t, it1, gv1, t1, el, k, rfl⟩ := A.Dd _ _ _ _ _ _ _ _ _ _ _ h1
    exact ss_setComp2 (ix_N ok hi) (st_eq z1) k
  · rename_i heq; cases heq
    obtain ⟨h0, h⟩ := gd_some h
    obtain ⟨z1, z2⟩ := band h0
    obtain ⟨i, hi, h⟩ := bn_some h
    obtain ⟨a, h1, rfl⟩ := ap1_some h
    exact ss_set (ix_N ok hi) (st_eq z1) (bnot z2) (A.E _ _ _ _ h1)
  · rename_i heq; cases heq
    split at h
    · rename_i hsw
      obtain ⟨h0, h⟩ := gd_some h
      obtain ⟨h0, z3⟩ := band h0
      obtain ⟨z1, z2⟩ := band h0
      obtain ⟨i, hi, h⟩ := bn_some h
      obtain ⟨j, hj, h⟩ := bn_some h
      obtain ⟨hn, h⟩ := gd_some h
      obtain ⟨a, h1, rfl⟩ := ap1_some h
      exact ss_par2 (ix_N ok hi) (ix_N ok hj) (neN_ok hn) (isLoc_ok z1) (isLoc_ok z2) hsw (eqSs_ok z3) (A.A _ _ _ _ h1)
    · obtain ⟨h0, h⟩ := gd_some h
      obtain ⟨a, b, h1, h2, rfl⟩ := ap2_some h
      exact ss_asg rfl rfl (fun env he hk => swapped_none hk (by rw [he]; exact h0)) (A.Gg _ _ _ _ h1) (A.E _ _ _ _ h2)
  · rename_i heq; cases heq
    split at h
    · rename_i hsw
      obtain ⟨h0, h⟩ := gd_some h
      obtain ⟨h0, z4⟩ := band h0
      obtain ⟨h0, z3⟩ := band h0
      obtain ⟨z1, z2⟩ := band h0
      obtain ⟨i, hi, h⟩ := bn_some h
      obtain ⟨j, hj, h⟩ := bn_some h
      obtain ⟨l, hl, h⟩ := bn_some h
      obtain ⟨hn, h⟩ := gd_some h
      obtain ⟨hn, n3⟩ := band hn
      obtain ⟨n1, n2⟩ := band hn
      obtain ⟨a, h1, rfl⟩ := ap1_some h
      exact ss_par3 (ix_N ok hi) (ix_N ok hj) (ix_N ok hl) (neN_ok n1) (neN_ok n2) (neN_ok n3) (isLoc_ok z1) (isLoc_ok z2) (isLoc_ok z3) hsw (eqSs_ok z4) (A.A _ _ _ _ h1)
    · obtain ⟨h0, h⟩ := gd_some h
      obtain ⟨a, b, h1, h2, rfl⟩ := ap2_some h
      exact ss_asg rfl rfl (fun env he hk => swapped_none hk (by rw [he]; exact h0)) (A.Gg _ _ _ _ h1) (A.E _ _ _ _ h2)
  · rename_i heq; cases heq
    obtain ⟨h0, h⟩ := gd_some h
    obtain ⟨a, b, h1, h2, rfl⟩ := ap2_some h
    exact ss_asg rfl rfl (fun env he hk => swapped_none hk (by rw [he]; exact h0)) (A.Gg _ _ _ _ h1) (A.E _ _ _ _ h2)
  · rename_i heq; cases heq
    obtain ⟨h0, hb⟩ := gd_some h
    obtain ⟨a, b, h1, h2, rfl⟩ := ap2_some hb
    exact ss_fld (bnot h0) (A.E _ _ _ _ h1) (A.E _ _ _ _ h2) (fun C hC => ok.flds _ _ (memF_mem hC))
  · rename_i heq; cases heq
    obtain ⟨h0, h⟩ := gd_some h
    obtain ⟨h0, z3⟩ := band h0
    obtain ⟨z1, z2⟩ := band h0
    obtain ⟨a, b, h1, h2, rfl⟩ := ap2_some h
    exact ss_asg (bnot z1) (bnot z2) (fun env he hk => swapped_gen z3) (A.Gg _ _ _ _ h1) (A.E _ _ _ _ h2)
  · cases h
theorem allS_ok (ok : CfOk g cf) : ∀ n, AllS g cf n
  | 0 => { S := fun sc s f h => (by unfold cS at h; cases h), Ss := fun sc s f h => (by unfold cSs at h; cases h) }
  | n + 1 => ⟨step_S ok (allS_ok ok n), step_Ss (allS_ok ok n)⟩
end

/-! ### a def -/
omit [B : Bs] in
def fnOfS (m : Nat) (body : Sv) : Fn := fun ds S => match body (ds.map some ++ List.replicate (m - ds.length) none) S with
  | .ok (.rt d) S1 => .ok d S1
  | .ok (.nx _) S1 => .ok .non S1
  | .ok _ _ => .no
  | .ex c p ρ S1 => .ex c p ρ S1
  | .no => .no
omit [B : Bs] in
def cFnB (cf : Cf) (n : Nat) (mr : Bool) (sc : Scope) (body : List Stmt) : Option Fn := ap1 (fnOfS cf.N.length) (cSs cf n mr sc body)
omit [B : Bs] in
def cFn (cf : Cf) (n : Nat) (mr : Bool) (st : Stmt) : Option Fn := cFnB cf n mr (defScope st) (defBody st)
/-! what is proved of classes, no def's body in sight -/
section
variable (P : Program) (w : World) (K : PySem.W.Frag) (mg : Str → Option Value) (base : Heap) (cls : Str → Option Addr) (L : Nat)
omit [B : Bs] in
def FMt (C m : Str) (F : Fn) : Prop := ∃ (Ca f : Addr) (k : Nat), k + 2 ≤ L ∧ clsK K C = some Ca ∧ Cls K Ca ∧ ClsX K Ca ∧ Meth K Ca m f ∧ PySem.W.fnIn K f = true ∧ FnR P w K mg base (L2.CX P w) k f (spM K cls F)
omit [B : Bs] in
def FProp (C m : Str) (F : Fn) : Prop := ∃ (Ca p f : Addr) (fd : FuncData) (ps : List Str) (k : Nat), k + 2 ≤ L ∧ clsK K C = some Ca ∧ Cls K Ca ∧ PropOf K Ca m p f ∧ Binds K fd ps [] ∧ FnOk P w K mg base (L2.CX P w) k f fd ps (spF K cls 1 F)
omit [B : Bs] in
def FMk (C : Str) (F : Fn) : Prop := (∃ (Ca f : Addr) (k : Nat), k + 2 ≤ L ∧ clsK K C = some Ca ∧ mg C = some (.ref Ca) ∧ Mk K Ca f ∧ FnR P w K mg base (L2.CX P w) k f (spM K cls F)) ∧ (C == ("__debug__" : Str)) = false
omit [B : Bs] in
def FCm (C m : Str) (F : Fn) : Prop := (∃ (Ca p f : Addr) (mc : Value) (k : Nat), k + 2 ≤ L ∧ clsK K C = some Ca ∧ ClX.CRead K Ca mc ∧ ClX.CMet K Ca mc m p f ∧ FnR P w K mg base (L2.CX P w) k f (spM K cls F)) ∧ (∀ Ca, clsK K C = some Ca → mg C = some (.ref Ca)) ∧ (C == ("__debug__" : Str)) = false
omit [B : Bs] in
def FGn (C m : Str) (F : FnG) : Prop := ∃ (Ca f : Addr) (fd : FuncData) (ps : List Str) (k : Nat), k + 4 ≤ L ∧ clsK K C = some Ca ∧ Cls K Ca ∧ Meth K Ca m f ∧ Binds K fd ps [] ∧ GFn P w K mg base k f fd ps (spG K cls 1 F)
omit [B : Bs] in
def FFld (C f : Str) : Prop := ∃ Ca : Addr, clsK K C = some Ca ∧ Cls K Ca ∧ NoAttr K Ca f
omit [B : Bs] in
def FCls (C : Str) : Prop := (∃ Ca : Addr, clsK K C = some Ca ∧ mg C = some (.ref Ca) ∧ Cls K Ca ∧ ClsX K Ca) ∧ (C == ("__debug__" : Str)) = false
end
/-- what the whole program has: as CfOk, no def's body in sight -/
structure PfOk (P : Program) (w : World) (K : PySem.W.Frag) (mg : Str → Option Value) (base : Heap) (cls : Str → Option Addr) (L : Nat) (cf : Cf) : Prop where
  fns : ∀ x n F, (x, n, F) ∈ cf.fns → (∃ (k : Nat) (f : Addr) (fd : FuncData) (ps : List Str), k ≤ L ∧ mg x = some (.ref f) ∧ PySem.W.keepIn K (.ref f) = true ∧ Binds K fd ps [] ∧ FnOk P w K mg base (L2.CX P w) k f fd ps (spF K cls n F)) ∧ (x == ("__debug__" : Str)) = false
  bls : ∀ x b, (x, b) ∈ cf.bls → mg x = none ∧ bootBuiltins x = some b.val ∧ x ≠ "__name__" ∧ (x == ("__debug__" : Str)) = false
  tys : ∀ x t, (x, t) ∈ cf.tys → mg x = none ∧ bootBuiltins x = some (.type (Tn.name t)) ∧ x ≠ "__name__" ∧ (x == ("__debug__" : Str)) = false
  glo : ∀ x i, (x, i) ∈ cf.glo → (∃ t, mg x = some (.int i t)) ∧ (x == ("__debug__" : Str)) = false
  rng : mg ("range" : Str) = none
  enu : mg ("enumerate" : Str) = none
  zip : mg ("zip" : Str) = none
  exs : ∀ x, x ∈ cf.exs → ExF K mg cls x
  mts : ∀ C m F, (C, m, F) ∈ cf.mts → FMt P w K mg base cls L C m F
  props : ∀ C m F, (C, m, F) ∈ cf.props → FProp P w K mg base cls L C m F
  flds : ∀ C f, (C, f) ∈ cf.flds → FFld K C f
  mks : ∀ C F, (C, F) ∈ cf.mks → FMk P w K mg base cls L C F
  cms : ∀ C m F, (C, m, F) ∈ cf.cms → FCm P w K mg base cls L C m F
  gens : ∀ C m F, (C, m, F) ∈ cf.gens → FGn P w K mg base cls L C m F
  cls : ∀ C, C ∈ cf.cls → FCls K mg C
  gls : ∀ x z, (x, z) ∈ cf.gls → (∃ t, mg x = some (.str z t)) ∧ (x == ("__debug__" : Str)) = false
omit [B : Bs] in
theorem start_er {K : PySem.W.Frag} {as : List Addr} {H0 : Hp} {vs : List V} {ds : List D} {N : List Str} (r : RpA K as H0 vs ds) : Er K as H0 (L2.start N vs) (ds.map some ++ List.replicate (N.length - ds.length) none) := by
  refine ⟨?_, fun i d h => ?_⟩
  · unfold L2.start
    rw [List.length_append, List.length_append, List.length_map, List.length_map, List.length_replicate, List.length_replicate, r.length]
  · have hi : i < ds.length := by
      by_cases q : i < ds.length
      · exact q
      · rw [List.getElem?_append_right (by rw [List.length_map]; omega), List.getElem?_replicate] at h
        split at h <;> cases h
    rw [List.getElem?_append_left (by rw [List.length_map]; exact hi), List.getElem?_map] at h
    cases q : ds[i]? with
    | none => rw [q] at h; cases h
    | some e =>
      rw [q] at h
      have e' : e = d := by simpa using h
      subst e'
      obtain ⟨v, hv, pv⟩ := r.get q
      refine ⟨v, ?_, pv⟩
      unfold L2.start
      rw [List.getElem?_append_left (by rw [List.length_map, r.length]; exact hi), List.getElem?_map, hv]
      rfl
omit [B : Bs] in
theorem cf_at {P : Program} {w : World} {K : PySem.W.Frag} {mg : Str → Option Value} {base : Heap} {cls : Str → Option Addr} {L : Nat} {cf : Cf} (pf : PfOk P w K mg base cls L cf) {as : List Addr} {H0 H : Hp} {E : XK} {A : Around} (hr : Room L A) (nd : cf.N.Nodup) (mr : Bool) :
    @CfOk (bsOf K cls as H0 H E) ⟨P, w, K, mg, base, A, cf.N, L, hr, nd, mr⟩ cf :=
  @CfOk.mk (bsOf K cls as H0 H E) _ _ rfl (fun y m F' hm => ⟨@FnA.mk (bsOf K cls as H0 H E) _ _ _ _ rfl (pf.fns y m F' hm).1, (pf.fns y m F' hm).2⟩) pf.bls pf.tys pf.glo pf.rng pf.enu pf.zip (fun y hy => @ExA.mk (bsOf K cls as H0 H E) _ _ rfl (pf.exs y hy))
    (fun C m F h => let ⟨Ca, f, k, a, b, c, d, e⟩ := pf.mts C m F h; ⟨@MtA.mk (bsOf K cls as H0 H E) _ _ _ _ rfl ⟨Ca, f, k, a, b, c, e⟩, ⟨Ca, b, c, d⟩⟩)
    (fun C m F h => @PropA.mk (bsOf K cls as H0 H E) _ _ _ _ rfl (pf.props C m F h)) (fun C f h => ⟨pf.flds C f h⟩)
    (fun C F h => @MkA.mk (bsOf K cls as H0 H E) _ _ _ rfl (pf.mks C F h).1 (pf.mks C F h).2)
    (fun C m F h => ⟨@CmA.mk (bsOf K cls as H0 H E) _ _ _ _ rfl (pf.cms C m F h).1, (pf.cms C m F h).2⟩)
    (fun C h => let ⟨⟨Ca, a, b, c, d⟩, e⟩ := pf.cls C h; ⟨⟨Ca, a, c, d⟩, ⟨Ca, a, b⟩, e⟩) pf.gls (fun C m F h => @GnA.mk (bsOf K cls as H0 H E) _ _ _ _ rfl (pf.gens C m F h))
section
variable {P : Program} {w : World} {K : PySem.W.Frag} {mg : Str → Option Value} {base : Heap} {cls : Str → Option Addr} {L : Nat} {cf : Cf} {x ql : Str} {ar : Arguments} {sc : Scope} {body : List Stmt} {f : Addr} {fd : FuncData} {ps : List Str} {F : Fn} {n : Nat}
omit [B : Bs] in
theorem body_sound (pf : PfOk P w K mg base cls L cf) (S : FnScope cf.N ps sc) (h : cFnB cf n true sc body = some F) (cdv : Value) (A : Around) (outer : List Env) (s : Shared) (H : Hp) (vs : List V) (Q : VK) (E : XK) (hr : Room L (A.deeper (envOfC ql sc s.heap.objs.size f cdv)))
    (hsp : spF K cls ps.length F vs H Q E) : ∃ t, PSs (cxOf (L2.CX P w) P w K mg base cf.N ql sc f cdv A outer s H E) body t ∧ t { nx := fun _ H' => Q .non H', rt := Q } (start cf.N vs) H := by
  obtain ⟨bd, hb, rfl⟩ := ap1_some h
  obtain ⟨hl, as, H0, S0, ds, r, rp, q⟩ := hsp
  let B' : Bs := bsOf K cls as H0 H E
  have ok := cf_at pf (as := as) (H0 := H0) (H := H) (E := E) hr S.nd true
  obtain ⟨t, pt, stt⟩ := (@allS_ok B' _ _ ok n).Ss _ _ _ hb
  have tk : Takes (cxOf (L2.CX P w) P w K mg base cf.N ql sc f cdv A outer s H E) (fun c d _ H' => E c d H') := takes_of rfl rfl rfl rfl
  have cx := @Cxt.mk B' ⟨P, w, K, mg, base, A.deeper (envOfC ql sc s.heap.objs.size f cdv), cf.N, L, hr, S.nd, true⟩ sc sc (cxOf (L2.CX P w) P w K mg base cf.N ql sc f cdv A outer s H E) rfl rfl rfl rfl rfl rfl rfl rfl S.kind rfl (fun y hy => ⟨hy, .inl rfl⟩) (passes_of rfl) (fun _ => tk)
  refine ⟨t, pt _ cx, stt as H0 H _ S0 _ _ (@Sr.mk B' _ _ _ _ _ r Nx.refl) (start_er rp) ?_⟩
  have q' : (fnOfS cf.N.length bd ds S0).sat (@QE B' K as H0 H Q) (@NoX B') := q
  unfold fnOfS at q'
  split at q'
  · rename_i d S1 hq
    rw [hq]
    exact q'
  · rename_i ρ S1 hq
    rw [hq]
    intro σ' as' H0' H' n' r' e'
    exact q' .non as' H0' H' n' r' .non
  · exact q'.elim
  · rename_i c p ρ S1 hq
    rw [hq]
    exact q'
  · exact q'.elim
omit [B : Bs] in
theorem fn_sound (pf : PfOk P w K mg base cls L cf) (FD : FunD K x ql ar body sc [] [] f fd) (S : FnScope cf.N ps sc) (h : cFnB cf n true sc body = some F) : FnOk P w K mg base (L2.CX P w) (L + 1) f fd ps (spF K cls ps.length F) :=
  FD.ok S (fun vs H Q E q => q.1) fun cdv A outer s H vs Q E hr hsp => body_sound pf S h cdv A outer s H vs Q E hr hsp
omit [B : Bs] in
/-- a function of n values -/
def arF (n : Nat) (F : Fn) : Fn := fun ds S => match Nat.beq ds.length n with
  | true => F ds S
  | false => .no
omit [B : Bs] in
theorem arF_sp {n : Nat} {F : Fn} {vs : List V} {H : Hp} {Q : VK} {E : XK} (h : spM K cls (arF n F) vs H Q E) : spF K cls n F vs H Q E := by
  obtain ⟨as, H0, S, ds, r, rp, q⟩ := h
  unfold arF at q
  split at q
  · rename_i e
    exact ⟨by rw [rp.length]; exact Nat.eq_of_beq_eq_true e, as, H0, S, ds, r, rp, q⟩
  · exact q.elim
omit [B : Bs] in
theorem meth_sound (pf : PfOk P w K mg base cls L cf) (FD : FunD K x ql ar body sc [] [] f fd) (S : FnScope cf.N ps sc) (h : cFnB cf n true sc body = some F) (hb : Binds K fd ps []) : FnR P w K mg base (L2.CX P w) (L + 1) f (spM K cls (arF ps.length F)) :=
  ((fn_sound pf FD S h).raw hb .nil).imp fun vs H Q E q => by
    rw [List.append_nil]
    exact arF_sp q
omit [B : Bs] in
/-- def f(a, .., *v) -/
def stF (n : Nat) (F : Fn) : Fn := fun ds S => match Nat.ble n ds.length && Nat.ble ds.length 1000 with
  | true => F (ds.take n ++ [.tup (ds.drop n)]) S
  | false => .no
omit [B : Bs] in
theorem star_sound {pv : Str} (pf : PfOk P w K mg base cls L cf) (FD : FunD K x ql ar body sc [] [] f fd) (S : FnScope cf.N (ps ++ [pv]) sc) (h : cFnB cf n true sc body = some F)
    (hb : ∀ (kV doc pm : Value) (an : Option Addr) (cdv ct : Value) (us rest : List Value), us.length = ps.length → bindArgs (PySem.W.fnOf x ql ar body sc .none kV doc pm an cdv ct) ⟨us ++ rest, []⟩ = (newTuple rest >>= fun t => pure (ps.zip us ++ [(pv, t)]))) :
    FnR P w K mg base (L2.CX P w) (L + 1) f (spM K cls (stF ps.length F)) := by
  obtain ⟨oc, od, dV, kV, doc, pm, an, cdv, ct, osl, rfl, lk, hcd, hD, _⟩ := FD.ex
  obtain ⟨_, rfl⟩ : True ∧ dV = .none := by
    rcases hD with ⟨_, z⟩ | ⟨z, _⟩
    · exact ⟨trivial, z⟩
    · exact absurd rfl z
  refine (StX.fn_star lk hcd S StX.cxUp (hb kV doc pm an cdv ct) (sp := spF K cls (ps ++ [pv]).length F) fun A outer s H vs Q E hr hsp => body_sound pf S h cdv A outer s H vs Q E hr hsp).imp fun vs H Q E q => ?_
  obtain ⟨as, H0, S0, ds, r, rp, q⟩ := q
  unfold stF at q
  split at q
  · rename_i e
    obtain ⟨e1, e2⟩ := Bool.and_eq_true_iff.mp e
    have e1 := Nat.le_of_ble_eq_true e1
    have e2 := Nat.le_of_ble_eq_true e2
    have hl := rp.length
    refine ⟨vs.take ps.length, vs.drop ps.length, (List.take_append_drop _ _).symm, by rw [List.length_take]; omega, by rw [List.length_drop]; exact le_line (by omega), fun p hp => ?_⟩
    obtain ⟨r2, n2⟩ := r.imm (o := .tup (vs.drop ps.length)) hp
    refine ⟨by rw [List.length_append, List.length_append, List.length_take]; simp only [List.length_singleton]; omega, as, _, S0, _, r2, ((rp.take ps.length).mono n2.h0 n2.pre).append (.cons (.tup upd_same ((rp.drop ps.length).mono n2.h0 n2.pre)) .nil), ?_⟩
    refine R.sat_mono q (fun d S2 h1 => ?_) fun c p' ρ' S2 h1 => ?_
    · intro v as' H0' H' n' r' pv
      have sp := @sr_parts (bsOf K cls as H0 H E) (bsOf K cls _ _ _ E) _ _ _ _ _ r'
      exact h1 v as' H0' H' (n2.trans n') (@Sr.mk (bsOf K cls as H0 H E) _ _ _ _ _ sp.1 (n2.trans sp.2)) pv
    · intro as' H0' H' σ' r' e'
      have sp := @sr_parts (bsOf K cls as H0 H E) (bsOf K cls _ _ _ E) _ _ _ _ _ r'
      exact h1 as' H0' H' σ' (@Sr.mk (bsOf K cls as H0 H E) _ _ _ _ _ sp.1 (n2.trans sp.2)) e'
  · exact q.elim
omit [B : Bs] in
/-- .. that lets nothing out -/
theorem fn_sound0 (pf : PfOk P w K mg base cls L cf) (FD : FunD K x ql ar body sc [] [] f fd) (S : FnScope cf.N ps sc) (h : cFnB cf n false sc body = some F) : FnOk P w K mg base CX0 (L + 1) f fd ps (spF K cls ps.length F) := by
  obtain ⟨bd, hb, rfl⟩ := ap1_some h
  refine FD.ok S (fun vs H Q E q => q.1) fun cdv A outer s H vs Q E hr hsp => ?_
  obtain ⟨hl, as, H0, S0, ds, r, rp, q⟩ := hsp
  let B' : Bs := bsOf K cls as H0 H E
  have ok := cf_at pf (as := as) (H0 := H0) (H := H) (E := E) hr S.nd false
  obtain ⟨t, pt, stt⟩ := (@allS_ok B' _ _ ok n).Ss _ _ _ hb
  have cx := @Cxt.mk B' ⟨P, w, K, mg, base, A.deeper (envOfC ql sc s.heap.objs.size f cdv), cf.N, L, hr, S.nd, false⟩ sc sc (cxOf CX0 P w K mg base cf.N ql sc f cdv A outer s H E).nox rfl rfl rfl rfl rfl rfl rfl rfl S.kind rfl (fun y hy => ⟨hy, .inl rfl⟩) PassesOwn.never (fun z => by cases z)
  refine ⟨t, (pt _ cx).nox, stt as H0 H _ S0 _ _ (@Sr.mk B' _ _ _ _ _ r Nx.refl) (start_er rp) ?_⟩
  have q' : (fnOfS cf.N.length bd ds S0).sat (@QE B' K as H0 H Q) (@NoX B') := q
  unfold fnOfS at q'
  split at q'
  · rename_i d S1 hq
    rw [hq]
    exact q'
  · rename_i ρ S1 hq
    rw [hq]
    intro σ' as' H0' H' n' r' e'
    exact q' .non as' H0' H' n' r' .non
  · exact q'.elim
  · rename_i c p ρ S1 hq
    rw [hq]
    exact q'
  · exact q'.elim
end
omit [B : Bs] in
/-- a promise for a function that says less -/
theorem spF_weak {K : PySem.W.Frag} {cls : Str → Option Addr} {n : Nat} {F F' : Fn} (h : ∀ ds S P E, (F' ds S).sat P E → (F ds S).sat P E) {vs : List V} {H : Hp} {Q : VK} {E : XK} (q : spF K cls n F' vs H Q E) : spF K cls n F vs H Q E := by
  obtain ⟨hl, as, H0, S0, ds, r, rp, q⟩ := q
  exact ⟨hl, as, H0, S0, ds, r, rp, h _ _ _ _ q⟩

/-! ### names in a def's scope -/
omit [B : Bs] in
def nodupS : List Str → Bool
  | [] => true
  | x :: r => (match ixS r x 0 with
    | some _ => false
    | none => nodupS r)
omit [B : Bs] in
theorem ixS_none : ∀ {l : List Str} {x : Str} {i : Nat}, ixS l x i = none → x ∉ l
  | [], _, _, _ => by simp
  | y :: r, x, i, h => by
    unfold ixS at h
    split at h
    · cases h
    · rename_i q
      have h1 := ixS_none h
      intro hm
      rcases List.mem_cons.mp hm with z | z
      · subst z
        have : eqS x x = true := by
          rw [← beq_of_eqS]; simp
        rw [this] at q; cases q
      · exact h1 z
omit [B : Bs] in
theorem nodupS_ok : ∀ {l : List Str}, nodupS l = true → l.Nodup
  | [], _ => List.nodup_nil
  | x :: r, h => by
    unfold nodupS at h
    split at h
    · cases h
    · rename_i q
      exact List.nodup_cons.mpr ⟨ixS_none q, nodupS_ok h⟩
omit [B : Bs] in
def scopeB (N ps : List Str) (sc : Scope) : Bool := (match sc.kind with | .function => true | _ => false) && !sc.isCoroutine && !sc.isGenerator && nodupS N && eqSs (N.take ps.length) ps && (ps.all fun x => stK (knd sc x)) && (sc.names.all fun y => match y.2 with | .free => false | _ => true)
omit [B : Bs] in
theorem scopeB_ok {N ps : List Str} {sc : Scope} (h : scopeB N ps sc = true) : FnScope N ps sc := by
  unfold scopeB at h
  obtain ⟨h, h7⟩ := band h
  obtain ⟨h, h6⟩ := band h
  obtain ⟨h, h5⟩ := band h
  obtain ⟨h, h4⟩ := band h
  obtain ⟨h, h3⟩ := band h
  obtain ⟨h1, h2⟩ := band h
  refine ⟨?_, bnot h2, bnot h3, nodupS_ok h4, eqSs_ok h5, fun x hx => stB_of (st_eq (List.all_eq_true.mp h6 x hx)), fun y hy e => ?_⟩
  · split at h1
    · rename_i q; exact q
    · cases h1
  · have := List.all_eq_true.mp h7 y hy
    rw [e] at this
    cases this
end PL

set_option Elab.async false
set_option linter.all false
set_option maxRecDepth 100000
set_option maxHeartbeats 4000000
/-! what the top leaves, as facts -/
namespace HK
open PySem PySem.Spec PyProof.Rows L2 PL
theorem K_in (h : Heap) : (K h).In h := He.frG_in
theorem K_at {h : Heap} {a : Addr} {o : Obj} (e : h.get? a = some o) : (K h).lookup a = some o := HL.frG_mem (List.mem_append_right _ (List.mem_range.mpr (Heap.lt_size e))) e

theorem clsxB_ok {K : PySem.W.Frag} {c : Addr} (h : clsxB K c = true) : ClsX K c := by
  unfold clsxB at h
  obtain ⟨h1, h⟩ := He.ba h
  obtain ⟨h2, h⟩ := He.ba h
  obtain ⟨h3, h⟩ := He.ba h
  obtain ⟨h4, h⟩ := He.ba h
  obtain ⟨h5, h⟩ := He.ba h
  obtain ⟨h6, h⟩ := He.ba h
  obtain ⟨h7, h⟩ := He.ba h
  obtain ⟨h8, h9⟩ := He.ba h
  exact ⟨h1, h2, He.eqO_ok h3, He.eqO_ok h4, He.eqO_ok h5, He.eqO_ok h6, of_decide_eq_true h7, of_decide_eq_true h8, of_decide_eq_true h9⟩
theorem recB_ok {K : PySem.W.Frag} {p : Addr} {T : String} (h : recB K p T = true) : ∃ f rest, PySem.W.recIn K p T = some (.ref f :: rest) := by
  unfold recB at h
  split at h
  · rename_i vs e
    unfold isRef at h
    split at h
    · exact ⟨_, _, e⟩
    · cases h
  · cases h
section
variable {K : PySem.W.Frag}
theorem glo_cls {C : Str} (h : (He.Fa.glo C).ok K = true) : clsK K C = some (He.ga K C) := by
  have e : PySem.W.nsIn K mainGlobals C = some (some (.ref (He.ga K C))) := He.eqO_ok h
  unfold clsK
  rw [e]
theorem own_ok {C : Str} (h : (Fc.own C).ok K = true) : clsK K C = some (He.ga K C) ∧ Cls K (He.ga K C) ∧ ClsX K (He.ga K C) := by
  obtain ⟨h1, h⟩ := He.ba h
  obtain ⟨h2, h3⟩ := He.ba h
  exact ⟨glo_cls h1, He.cls_ok h2, clsxB_ok h3⟩
theorem own_glo {C : Str} (h : (Fc.own C).ok K = true) : (He.Fa.glo C).ok K = true := (He.ba h).1
theorem mth_ok {C m : Str} (h : (Fc.mth C m).ok K = true) : Meth K (He.ga K C) m (mtA K C m) ∧ PySem.W.fnIn K (mtA K C m) = true := ⟨He.meth_ok (He.ba h).1, (He.ba h).2⟩
theorem prp_ok {C m : Str} (h : (Fc.prp C m).ok K = true) : PropOf K (He.ga K C) m (mtA K C m) (pgA K C m) := by
  obtain ⟨h1, h⟩ := He.ba h
  obtain ⟨h2, h⟩ := He.ba h
  obtain ⟨h3, h4⟩ := He.ba h
  obtain ⟨f, rest, e⟩ := recB_ok h4
  refine ⟨He.eqO_ok h1, He.eqO_ok h2, of_decide_eq_true h3, rest, ?_⟩
  have : pgA K C m = f := by
    unfold pgA
    rw [show PySem.W.recIn K (He.ma K (He.ga K C) m) "property" = some (.ref f :: rest) from e]
  rw [this]
  exact e
theorem fld_ok {C f : Str} (h : (Fc.fld C f).ok K = true) : NoAttr K (He.ga K C) f := He.noat_ok h
theorem mkr_ok {C : Str} (h : (Fc.mkr C).ok K = true) : Mk K (He.ga K C) (mtA K C "__init__") := He.mkr_ok h
theorem cmB_ok {c p : Addr} {m : Str} (h : cmB K c p m = true) : PySem.W.findCls K (.ref c) (.type "type") m = some (.get (.builtin "classmethod.__get__") (.ref p) .none (.ref c)) := by
  unfold cmB at h
  split at h
  · rename_i i p' c' e
    obtain ⟨h1, h⟩ := He.ba h
    obtain ⟨h2, h3⟩ := He.ba h
    have h1 := of_decide_eq_true h1
    have h2 := Nat.eq_of_beq_eq_true h2
    have h3 := Nat.eq_of_beq_eq_true h3
    subst h1 h2 h3
    exact e
  · cases h
theorem cmt_ok {C m : Str} (h : (Fc.cmt C m).ok K = true) : ClX.CRead K (He.ga K C) (.type "type") ∧ ClX.CMet K (He.ga K C) (.type "type") m (mtA K C m) (cgA K C m) := by
  obtain ⟨h1, h⟩ := He.ba h
  obtain ⟨h2, h⟩ := He.ba h
  obtain ⟨h3, h⟩ := He.ba h
  obtain ⟨h4, h5⟩ := He.ba h
  obtain ⟨f, rest, e⟩ := recB_ok h4
  have : cgA K C m = f := by
    unfold cgA
    rw [show PySem.W.recIn K (He.ma K (He.ga K C) m) "classmethod" = some (.ref f :: rest) from e]
  exact ⟨⟨h1, He.eqO_ok h2⟩, ⟨cmB_ok h3, ⟨rest, by rw [this]; exact e⟩, h5⟩⟩

/-! ### a def at an address -/
theorem funD_of {g : Addr → Option Obj} (hs : ∀ a o, g a = some o → K.lookup a = some o) {a : Addr} {x q : Str} {ar : Arguments} {body : List Stmt} {sc : Scope} (e : HL.inf g (.ref a) = .fn x q ar (.stmts body) sc mainGlobals [] .none builtinsNs q) :
    ∃ fd, FunD K x q ar body sc [] [] a fd := by
  unfold HL.inf at e
  dsimp only at e
  cases eg : g a with
  | none => rw [eg] at e; cases e
  | some o =>
    rw [eg] at e
    obtain ⟨oc, od, dt, sl⟩ := o
    cases dt with
    | func fd =>
      dsimp only at e
      cases cn : HL.codeName g fd.code with
      | none => rw [cn] at e; cases e
      | some q' =>
        rw [cn] at e
        obtain ⟨n1, n2, n3, n4, n5, n6, n7, n8, n9, n10, n11, n12, n13, n14, n15⟩ := fd
        simp only [HL.Inf.fn.injEq] at e
        obtain ⟨z1, z2, z3, z4, z5, z6, z7, z8, z9, z10⟩ := e
        subst z1 z2 z3 z4 z5 z6 z7 z8 z9
        refine ⟨_, ⟨oc, od, .none, n9, n10, n11, n12, n13, n14, sl, rfl, hs _ _ eg, ?_, .inl ⟨rfl, rfl⟩, .inl rfl⟩, ?_⟩
        · unfold HL.codeName at cn
          cases n13 with
          | ref cc =>
            dsimp only at cn
            unfold PySem.W.codeIn
            dsimp only
            cases ec : g cc with
            | none => rw [ec] at cn; cases cn
            | some oo =>
              rw [ec] at cn
              rw [hs _ _ ec]
              obtain ⟨oc', od', dt', sl'⟩ := oo
              cases dt' with
              | fields vs =>
                dsimp only at cn ⊢
                split at cn
                · rename_i n t r hv
                  have : n = q' := Option.some.inj cn
                  rw [hv]
                  dsimp only
                  rw [this, z10]
                  simp
                · cases cn
              | _ => cases cn
          | _ => cases cn
        · unfold PySem.W.keepIn
          dsimp only
          rw [hs _ _ eg]
    | _ => cases e
end

theorem ns_back {h h0 : Heap} {val : List (Str × HL.Inf)} {mg : Str → Option Value} (k : ∀ a o, h0.get? a = some o → h.get? a = some o) (c : HL.obs h0.get? = HL.want val) (G : h.Ns mainGlobals mg) : h0.Ns mainGlobals mg := by
  unfold HL.obs at c
  cases e : h0.get? mainGlobals with
  | none => rw [e] at c; cases c
  | some o =>
    obtain ⟨o', es, ep, ho, r⟩ := G
    rw [k _ _ e] at ho
    cases ho
    exact ⟨o, es, ep, e, r⟩
end HK

set_option Elab.async false
set_option linter.all false
set_option maxRecDepth 100000
set_option maxHeartbeats 4000000
/-! the chain of defs of a law -/
namespace PL
open PySem PySem.Spec PyProof.Rows L2
def BLS : List (Str × Bl) := [("len", .len), ("abs", .abs), ("max", .max), ("min", .min), ("sum", .sum), ("all", .all), ("any", .any), ("sorted", .sorted), ("isinstance", .isinst), ("int", .int), ("str", .str), ("tuple", .tuple), ("list", .list), ("dict", .dict), ("bool", .bool)]
def TYS : List (Str × Tn) := [("int", .int), ("bool", .bool), ("str", .str), ("tuple", .tuple), ("list", .list)]
theorem bls_ok : ∀ x b, (x, b) ∈ BLS → bootBuiltins x = some b.val ∧ x ≠ "__name__" ∧ (x == ("__debug__" : Str)) = false := by
  intro x b h
  simp only [BLS, List.mem_cons, List.not_mem_nil, or_false, Prod.mk.injEq] at h
  rcases h with ⟨rfl, rfl⟩ | ⟨rfl, rfl⟩ | ⟨rfl, rfl⟩ | ⟨rfl, rfl⟩ | ⟨rfl, rfl⟩ | ⟨rfl, rfl⟩ | ⟨rfl, rfl⟩ | ⟨rfl, rfl⟩ | ⟨rfl, rfl⟩ | ⟨rfl, rfl⟩ | ⟨rfl, rfl⟩ | ⟨rfl, rfl⟩ | ⟨rfl, rfl⟩ | ⟨rfl, rfl⟩ | ⟨rfl, rfl⟩ <;> exact ⟨by kernel_rfl, by decide, by decide⟩
theorem tys_ok : ∀ x t, (x, t) ∈ TYS → bootBuiltins x = some (.type (Tn.name t)) ∧ x ≠ "__name__" ∧ (x == ("__debug__" : Str)) = false := by
  intro x b h
  simp only [TYS, List.mem_cons, List.not_mem_nil, or_false, Prod.mk.injEq] at h
  rcases h with ⟨rfl, rfl⟩ | ⟨rfl, rfl⟩ | ⟨rfl, rfl⟩ | ⟨rfl, rfl⟩ | ⟨rfl, rfl⟩ <;> exact ⟨by kernel_rfl, by decide, by decide⟩
/-- built-in names that the text does not bind -/
def freeB (codes : List Nat) : Bool := (("range" : Str) :: "enumerate" :: "zip" :: (BLS.map (·.1) ++ TYS.map (·.1))).all fun x => !(codes.any fun c => Nat.beq c (HL.scode x))
theorem free_ok {codes : List Nat} (h : freeB codes = true) {x : Str} (hx : x ∈ (("range" : Str) :: "enumerate" :: "zip" :: (BLS.map (·.1) ++ TYS.map (·.1)))) : HL.scode x ∉ codes := by
  have := List.all_eq_true.mp h x hx
  intro hm
  have hb : (codes.any fun c => Nat.beq c (HL.scode x)) = true := List.any_eq_true.mpr ⟨_, hm, Nat.beq_refl _⟩
  rw [hb] at this
  cases this
/-- a proved def -/
def Fact (P : Program) (w : World) (K : PySem.W.Frag) (mg : Str → Option Value) (base : Heap) (cls : Str → Option Addr) (L : Nat) (x : Str) (n : Nat) (F : Fn) : Prop :=
  (∃ (k : Nat) (f : Addr) (fd : FuncData) (ps : List Str), k ≤ L ∧ mg x = some (.ref f) ∧ PySem.W.keepIn K (.ref f) = true ∧ Binds K fd ps [] ∧ FnOk P w K mg base (L2.CX P w) k f fd ps (spF K cls n F)) ∧ (x == ("__debug__" : Str)) = false
theorem Fact.up {P : Program} {w : World} {K : PySem.W.Frag} {mg : Str → Option Value} {base : Heap} {cls : Str → Option Addr} {L L' : Nat} {x : Str} {n : Nat} {F : Fn} (h : Fact P w K mg base cls L x n F) (e : L ≤ L') : Fact P w K mg base cls L' x n F := by
  obtain ⟨⟨k, f, fd, ps, a, b⟩, c⟩ := h
  exact ⟨⟨k, f, fd, ps, Nat.le_trans a e, b⟩, c⟩
theorem Fact.weak {P : Program} {w : World} {K : PySem.W.Frag} {mg : Str → Option Value} {base : Heap} {cls : Str → Option Addr} {L : Nat} {x : Str} {n : Nat} {F F' : Fn} (h : Fact P w K mg base cls L x n F) (e : ∀ ds S P E, (F' ds S).sat P E → (F ds S).sat P E) : Fact P w K mg base cls L x n F' := by
  obtain ⟨⟨k, f, fd, ps, a, b, b1, b2, b3⟩, c⟩ := h
  exact ⟨⟨k, f, fd, ps, a, b, b1, b2, b3.imp fun vs H Q E q => spF_weak e q⟩, c⟩
theorem Fact.same {P : Program} {w : World} {K : PySem.W.Frag} {mg : Str → Option Value} {base : Heap} {cls : Str → Option Addr} {L : Nat} {x : Str} {n : Nat} {F F' : Fn} (h : Fact P w K mg base cls L x n F) (e : ∀ ds S, F' ds S = .no ∨ F ds S = F' ds S) : Fact P w K mg base cls L x n F' :=
  h.weak fun ds S P E q => by
    rcases e ds S with z | z
    · rw [z] at q; exact q.elim
    · rw [z]; exact q
/-- a law's globals -/
structure Glob (p : HK.Sp) (h : Heap) (mg : Str → Option Value) (glo : List (Str × Int)) : Prop where
  c : HK.obs p h.get? h.objs.size = HK.want p
  G : h.Ns mainGlobals mg
  nd : (p.val.map fun p => HL.scode p.1).Nodup
  fr : freeB (p.val.map fun p => HL.scode p.1) = true
  gl : ∀ x i, (x, i) ∈ glo → (∃ t, mg x = some (.int i t)) ∧ (x == ("__debug__" : Str)) = false
/-- what of own classes a def uses -/
structure Own where
  exs : List Str := []
  mts : List (Str × Str × Fn) := []
  props : List (Str × Str × Fn) := []
  flds : List (Str × Str) := []
  mks : List (Str × Fn) := []
  cms : List (Str × Str × Fn) := []
  cls : List Str := []
  gls : List (Str × Str) := []
  gens : List (Str × Str × FnG) := []
structure OwnOk (P : Program) (w : World) (K : PySem.W.Frag) (mg : Str → Option Value) (base : Heap) (cls : Str → Option Addr) (L : Nat) (o : Own) : Prop where
  exs : ∀ x ∈ o.exs, ExF K mg cls x
  mts : ∀ p ∈ o.mts, FMt P w K mg base cls L p.1 p.2.1 p.2.2
  props : ∀ p ∈ o.props, FProp P w K mg base cls L p.1 p.2.1 p.2.2
  flds : ∀ p ∈ o.flds, FFld K p.1 p.2
  mks : ∀ p ∈ o.mks, FMk P w K mg base cls L p.1 p.2
  cms : ∀ p ∈ o.cms, FCm P w K mg base cls L p.1 p.2.1 p.2.2
  gens : ∀ p ∈ o.gens, FGn P w K mg base cls L p.1 p.2.1 p.2.2
  cls : ∀ x ∈ o.cls, FCls K mg x
  gls : ∀ p ∈ o.gls, (∃ t, mg p.1 = some (.str p.2 t)) ∧ (p.1 == ("__debug__" : Str)) = false
theorem all_nil {α : Type} {Q : α → Prop} : ∀ x ∈ ([] : List α), Q x := fun _ h => by cases h
theorem all_cons {α : Type} {Q : α → Prop} {a : α} {l : List α} (h : Q a) (t : ∀ x ∈ l, Q x) : ∀ x ∈ a :: l, Q x := fun x hx => by
  rcases List.mem_cons.mp hx with e | e
  · rw [e]; exact h
  · exact t x e
section
variable {P : Program} {w : World} {K : PySem.W.Frag} {mg : Str → Option Value} {base : Heap} {cls : Str → Option Addr} {L L' : Nat}
theorem OwnOk.none : OwnOk P w K mg base cls L {} := ⟨all_nil, all_nil, all_nil, all_nil, all_nil, all_nil, all_nil, all_nil, all_nil⟩
theorem FMt.up {C m : Str} {F : Fn} (h : FMt P w K mg base cls L C m F) (e : L ≤ L') : FMt P w K mg base cls L' C m F := let ⟨Ca, f, k, a, b⟩ := h; ⟨Ca, f, k, Nat.le_trans a e, b⟩
theorem FProp.up {C m : Str} {F : Fn} (h : FProp P w K mg base cls L C m F) (e : L ≤ L') : FProp P w K mg base cls L' C m F := let ⟨Ca, p, f, fd, ps, k, a, b⟩ := h; ⟨Ca, p, f, fd, ps, k, Nat.le_trans a e, b⟩
theorem FGn.up {C m : Str} {F : FnG} (h : FGn P w K mg base cls L C m F) (e : L ≤ L') : FGn P w K mg base cls L' C m F := let ⟨Ca, f, fd, ps, k, a, b⟩ := h; ⟨Ca, f, fd, ps, k, Nat.le_trans a e, b⟩
theorem FMk.up {C : Str} {F : Fn} (h : FMk P w K mg base cls L C F) (e : L ≤ L') : FMk P w K mg base cls L' C F := let ⟨⟨Ca, f, k, a, b⟩, d⟩ := h; ⟨⟨Ca, f, k, Nat.le_trans a e, b⟩, d⟩
theorem FCm.up {C m : Str} {F : Fn} (h : FCm P w K mg base cls L C m F) (e : L ≤ L') : FCm P w K mg base cls L' C m F := let ⟨⟨Ca, p, f, mc, k, a, b⟩, d⟩ := h; ⟨⟨Ca, p, f, mc, k, Nat.le_trans a e, b⟩, d⟩
end
def mkCf (glo : List (Str × Int)) (N : List Str) (fns : List (Str × Nat × Fn)) (news frz : Places) (fuel : Nat) (o : Own) : Cf := ⟨N, fns, BLS, TYS, glo, news, frz, fuel, o.exs, o.mts, o.props, o.flds, o.mks, o.cms, o.cls, o.gls, o.gens⟩
section
variable {P : Program} {w : World} {mg : Str → Option Value} {base h : Heap} {cls : Str → Option Addr} {sp : HK.Sp} {glo : List (Str × Int)}
theorem mem_free {x : Str} (hx : x ∈ BLS.map (·.1) ++ TYS.map (·.1)) : x ∈ (("range" : Str) :: "enumerate" :: "zip" :: (BLS.map (·.1) ++ TYS.map (·.1))) := List.mem_cons_of_mem _ (List.mem_cons_of_mem _ (List.mem_cons_of_mem _ hx))
theorem Glob.c1 (g : Glob sp h mg glo) : HL.obs h.get? = HL.want sp.val := congrArg (fun z : HK.Al => z.1) g.c
theorem Glob.fact (g : Glob sp h mg glo) {i : Nat} {f : HK.Fc} (hi : sp.fc[i]? = some f) : f.ok (HK.K h) = true :=
  List.all_eq_true.mp (show (sp.fc.all fun f => f.ok (HK.K h)) = true from congrArg (fun z : HK.Al => z.2.1) g.c) f (List.mem_of_getElem? hi)
theorem Glob.def_ (g : Glob sp h mg glo) {i : Nat} {d : HK.Df} (hi : sp.df[i]? = some d) : ∃ fd, FunD (HK.K h) d.m d.qual (defArgs d.st) (defBody d.st) (defScope d.st) [] [] (d.at_.adr (HK.K h) d.C d.m) fd := by
  have e : (sp.df.map fun d => HL.inf (fun a => (HK.K h).lookup a) (.ref (d.at_.adr (HK.K h) d.C d.m))) = sp.df.map HK.Df.want := congrArg (fun z : HK.Al => z.2.2) g.c
  have e2 := congrArg (fun l : List HL.Inf => l[i]?) e
  simp only [List.getElem?_map, hi, Option.map_some] at e2
  exact HK.funD_of (fun _ _ z => z) (Option.some.inj e2)
theorem Glob.gfn (g : Glob sp h mg glo) {i : Nat} {x : Str} {st : Stmt} (hx : sp.val[i]? = some (x, HL.fnI x st)) : ∃ f fd, mg x = some (.ref f) ∧ FunD (HK.K h) x x (defArgs st) (defBody st) (defScope st) [] [] f fd := by
  obtain ⟨v, h1, h2⟩ := HL.mg_at g.c1 g.G g.nd hx
  cases v with
  | ref a =>
    obtain ⟨fd, k⟩ := HK.funD_of (K := HK.K h) (fun _ _ z => HK.K_at z) h2
    exact ⟨a, fd, h1, k⟩
  | _ => cases h2
theorem Glob.cls_ (g : Glob sp h mg glo) {i : Nat} {C : Str} (hi : sp.fc[i]? = some (.own C)) (hd : (C == ("__debug__" : Str)) = false) : FCls (HK.K h) mg C := by
  have f := g.fact hi
  obtain ⟨a, b, c⟩ := HK.own_ok f
  exact ⟨⟨_, a, PySem.W.mg_of (HK.K_in h) g.G (He.eqO_ok (HK.own_glo f)), b, c⟩, hd⟩
theorem Glob.fld (g : Glob sp h mg glo) {i j : Nat} {C f : Str} (hi : sp.fc[i]? = some (.own C)) (hj : sp.fc[j]? = some (.fld C f)) : FFld (HK.K h) C f := by
  obtain ⟨a, b, _⟩ := HK.own_ok (g.fact hi)
  exact ⟨_, a, b, HK.fld_ok (g.fact hj)⟩
theorem Glob.txt (g : Glob sp h mg glo) {i : Nat} {x z : Str} (hi : sp.fc[i]? = some (.txt x z)) (hd : (x == ("__debug__" : Str)) = false) : (∃ t, mg x = some (.str z t)) ∧ (x == ("__debug__" : Str)) = false :=
  ⟨He.str_ok (HK.K_in h) g.G (g.fact hi), hd⟩
theorem Glob.pf (g : Glob sp h mg glo) {L : Nat} {N : List Str} {fns : List (Str × Nat × Fn)} {news frz : Places} {fuel : Nat} {o : Own} (hf : ∀ p ∈ fns, Fact P w (HK.K h) mg base cls L p.1 p.2.1 p.2.2) (ho : OwnOk P w (HK.K h) mg base cls L o) : PfOk P w (HK.K h) mg base cls L (mkCf glo N fns news frz fuel o) where
  exs := ho.exs
  fns := fun x n F hm => hf _ hm
  bls := fun x b hm => ⟨HL.mg_free g.c1 g.G (free_ok g.fr (mem_free (List.mem_append_left _ (List.mem_map.mpr ⟨_, hm, rfl⟩)))), bls_ok x b hm⟩
  tys := fun x b hm => ⟨HL.mg_free g.c1 g.G (free_ok g.fr (mem_free (List.mem_append_right _ (List.mem_map.mpr ⟨_, hm, rfl⟩)))), tys_ok x b hm⟩
  glo := g.gl
  rng := HL.mg_free g.c1 g.G (free_ok g.fr (List.mem_cons_self))
  enu := HL.mg_free g.c1 g.G (free_ok g.fr (List.mem_cons_of_mem _ List.mem_cons_self))
  zip := HL.mg_free g.c1 g.G (free_ok g.fr (List.mem_cons_of_mem _ (List.mem_cons_of_mem _ List.mem_cons_self)))
  mts := fun C m F hm => ho.mts _ hm
  props := fun C m F hm => ho.props _ hm
  flds := fun C f hm => ho.flds _ hm
  mks := fun C F hm => ho.mks _ hm
  cms := fun C m F hm => ho.cms _ hm
  cls := fun C hm => ho.cls _ hm
  gls := fun x z hm => ho.gls _ hm
  gens := fun C m F hm => ho.gens _ hm
section
variable {L i j n m : Nat} {x C q : Str} {st : Stmt} {N ps : List Str} {fns : List (Str × Nat × Fn)} {news frz : Places} {fuel : Nat} {o : Own} {F : Fn}
theorem fact_of (g : Glob sp h mg glo) (hx : sp.val[i]? = some (x, HL.fnI x st)) (S : scopeB N ps (defScope st) = true)
    (hc : cFn (mkCf glo N fns news frz fuel o) m true st = some F) (hl : ps.length = n)
    (hb : ∀ (kV doc pm : Value) (an : Option Addr) (cdv ct : Value) (us : List Value), us.length = ps.length → bindArgs (PySem.W.fnOf x x (defArgs st) (defBody st) (defScope st) .none kV doc pm an cdv ct) ⟨us, []⟩ = pure (ps.zip us))
    (hd : (x == ("__debug__" : Str)) = false) (hf : ∀ p ∈ fns, Fact P w (HK.K h) mg base cls L p.1 p.2.1 p.2.2) (ho : OwnOk P w (HK.K h) mg base cls L o) : Fact P w (HK.K h) mg base cls (L + 1) x n F := by
  obtain ⟨f, fd, h1, h2⟩ := g.gfn hx
  have h3 := h2.kp
  subst hl
  exact ⟨⟨L + 1, f, fd, ps, Nat.le_refl _, h1, h3, FunD.bindsN h2 hb, fn_sound (g.pf hf ho) h2 (scopeB_ok S) hc⟩, hd⟩
theorem meth_of (g : Glob sp h mg glo) (hown : sp.fc[i]? = some (.own C)) (hm : sp.fc[j]? = some (.mth C x)) (hx : sp.df[n]? = some ⟨.mt, C, x, q, st⟩) (S : scopeB N ps (defScope st) = true)
    (hc : cFn (mkCf glo N fns news frz fuel o) m true st = some F)
    (hb : ∀ (kV doc pm : Value) (an : Option Addr) (cdv ct : Value) (us : List Value), us.length = ps.length → bindArgs (PySem.W.fnOf x q (defArgs st) (defBody st) (defScope st) .none kV doc pm an cdv ct) ⟨us, []⟩ = pure (ps.zip us))
    (hf : ∀ p ∈ fns, Fact P w (HK.K h) mg base cls L p.1 p.2.1 p.2.2) (ho : OwnOk P w (HK.K h) mg base cls L o) : FMt P w (HK.K h) mg base cls (L + 3) C x (arF ps.length F) := by
  obtain ⟨a, b, c⟩ := HK.own_ok (g.fact hown)
  obtain ⟨m1, m2⟩ := HK.mth_ok (g.fact hm)
  obtain ⟨fd, h2⟩ := g.def_ hx
  exact ⟨_, _, L + 1, Nat.le_refl _, a, b, c, m1, m2, meth_sound (g.pf hf ho) h2 (scopeB_ok S) hc (FunD.bindsN h2 hb)⟩
theorem prop_of (g : Glob sp h mg glo) (hown : sp.fc[i]? = some (.own C)) (hm : sp.fc[j]? = some (.prp C x)) (hx : sp.df[n]? = some ⟨.pr, C, x, q, st⟩) (S : scopeB N ps (defScope st) = true)
    (hc : cFn (mkCf glo N fns news frz fuel o) m true st = some F) (hl : ps.length = 1)
    (hb : ∀ (kV doc pm : Value) (an : Option Addr) (cdv ct : Value) (us : List Value), us.length = ps.length → bindArgs (PySem.W.fnOf x q (defArgs st) (defBody st) (defScope st) .none kV doc pm an cdv ct) ⟨us, []⟩ = pure (ps.zip us))
    (hf : ∀ p ∈ fns, Fact P w (HK.K h) mg base cls L p.1 p.2.1 p.2.2) (ho : OwnOk P w (HK.K h) mg base cls L o) : FProp P w (HK.K h) mg base cls (L + 3) C x F := by
  obtain ⟨a, b, c⟩ := HK.own_ok (g.fact hown)
  obtain ⟨fd, h2⟩ := g.def_ hx
  exact ⟨_, _, _, fd, ps, L + 1, Nat.le_refl _, a, b, HK.prp_ok (g.fact hm), FunD.bindsN h2 hb, by
    have z := fn_sound (g.pf hf ho) h2 (scopeB_ok S) hc
    rw [hl] at z
    exact z⟩
theorem Glob.mkC (g : Glob sp h mg glo) (hown : sp.fc[i]? = some (.own C)) (hm : sp.fc[j]? = some (.mkr C)) : ∃ Ca, clsK (HK.K h) C = some Ca ∧ mg C = some (.ref Ca) ∧ Mk (HK.K h) Ca (HK.mtA (HK.K h) C "__init__") := by
  have f := g.fact hown
  obtain ⟨a, b, c⟩ := HK.own_ok f
  exact ⟨_, a, PySem.W.mg_of (HK.K_in h) g.G (He.eqO_ok (HK.own_glo f)), HK.mkr_ok (g.fact hm)⟩
theorem mk_of (g : Glob sp h mg glo) (hown : sp.fc[i]? = some (.own C)) (hm : sp.fc[j]? = some (.mkr C)) (hx : sp.df[n]? = some ⟨.mt, C, "__init__", q, st⟩) (S : scopeB N ps (defScope st) = true)
    (hc : cFn (mkCf glo N fns news frz fuel o) m true st = some F) (hd : (C == ("__debug__" : Str)) = false)
    (hb : ∀ (kV doc pm : Value) (an : Option Addr) (cdv ct : Value) (us : List Value), us.length = ps.length → bindArgs (PySem.W.fnOf "__init__" q (defArgs st) (defBody st) (defScope st) .none kV doc pm an cdv ct) ⟨us, []⟩ = pure (ps.zip us))
    (hf : ∀ p ∈ fns, Fact P w (HK.K h) mg base cls L p.1 p.2.1 p.2.2) (ho : OwnOk P w (HK.K h) mg base cls L o) : FMk P w (HK.K h) mg base cls (L + 3) C (arF ps.length F) := by
  obtain ⟨Ca, a, b, c⟩ := g.mkC hown hm
  obtain ⟨fd, h2⟩ := g.def_ hx
  exact ⟨⟨Ca, _, L + 1, Nat.le_refl _, a, b, c, meth_sound (g.pf hf ho) h2 (scopeB_ok S) hc (FunD.bindsN h2 hb)⟩, hd⟩
theorem mkS_of {pv : Str} (g : Glob sp h mg glo) (hown : sp.fc[i]? = some (.own C)) (hm : sp.fc[j]? = some (.mkr C)) (hx : sp.df[n]? = some ⟨.mt, C, "__init__", q, st⟩) (S : scopeB N (ps ++ [pv]) (defScope st) = true)
    (hc : cFn (mkCf glo N fns news frz fuel o) m true st = some F) (hd : (C == ("__debug__" : Str)) = false)
    (hb : ∀ (kV doc pm : Value) (an : Option Addr) (cdv ct : Value) (us rest : List Value), us.length = ps.length → bindArgs (PySem.W.fnOf "__init__" q (defArgs st) (defBody st) (defScope st) .none kV doc pm an cdv ct) ⟨us ++ rest, []⟩ = (newTuple rest >>= fun t => pure (ps.zip us ++ [(pv, t)])))
    (hf : ∀ p ∈ fns, Fact P w (HK.K h) mg base cls L p.1 p.2.1 p.2.2) (ho : OwnOk P w (HK.K h) mg base cls L o) : FMk P w (HK.K h) mg base cls (L + 3) C (stF ps.length F) := by
  obtain ⟨Ca, a, b, c⟩ := g.mkC hown hm
  obtain ⟨fd, h2⟩ := g.def_ hx
  exact ⟨⟨Ca, _, L + 1, Nat.le_refl _, a, b, c, star_sound (g.pf hf ho) h2 (scopeB_ok S) hc hb⟩, hd⟩
theorem cm_of (g : Glob sp h mg glo) (hown : sp.fc[i]? = some (.own C)) (hm : sp.fc[j]? = some (.cmt C x)) (hx : sp.df[n]? = some ⟨.cm, C, x, q, st⟩) (S : scopeB N ps (defScope st) = true)
    (hc : cFn (mkCf glo N fns news frz fuel o) m true st = some F) (hd : (C == ("__debug__" : Str)) = false)
    (hb : ∀ (kV doc pm : Value) (an : Option Addr) (cdv ct : Value) (us : List Value), us.length = ps.length → bindArgs (PySem.W.fnOf x q (defArgs st) (defBody st) (defScope st) .none kV doc pm an cdv ct) ⟨us, []⟩ = pure (ps.zip us))
    (hf : ∀ p ∈ fns, Fact P w (HK.K h) mg base cls L p.1 p.2.1 p.2.2) (ho : OwnOk P w (HK.K h) mg base cls L o) : FCm P w (HK.K h) mg base cls (L + 3) C x (arF ps.length F) := by
  have f := g.fact hown
  obtain ⟨a, b, c⟩ := HK.own_ok f
  obtain ⟨r1, r2⟩ := HK.cmt_ok (g.fact hm)
  obtain ⟨fd, h2⟩ := g.def_ hx
  have hg := PySem.W.mg_of (HK.K_in h) g.G (He.eqO_ok (HK.own_glo f))
  exact ⟨⟨_, _, _, _, L + 1, Nat.le_refl _, a, r1, r2, meth_sound (g.pf hf ho) h2 (scopeB_ok S) hc (FunD.bindsN h2 hb)⟩, fun Ca e => by
    rw [a] at e
    cases e
    exact hg, hd⟩
end
theorem of_isSome {α : Type} {x : Option α} {d : α} (h : x.isSome = true) : x = some (x.getD d) := by
  cases x with
  | none => cases h
  | some a => rfl
def noF : Fn := fun _ _ => .no
end
end PL

set_option Elab.async false
set_option linter.all false
set_option maxRecDepth 100000
set_option maxHeartbeats 4000000
/-! mirrors: what some defs compute, in plain form, quick to run -/
namespace PL
open PySem PySem.Spec PyProof.Rows L2
def intsD1 : List D → Option (List Int)
  | [] => some []
  | .int i :: r => (match intsD1 r with
    | some l => some (i :: l)
    | none => none)
  | _ => none
theorem intsD1_ok : ∀ {xs : List D} {ns : List Int}, intsD1 xs = some ns → xs = ns.map D.int
  | [], ns, h => by cases h; rfl
  | d :: r, ns, h => by
    unfold intsD1 at h
    split at h
    · cases ‹_ = []›
    · rename_i heq
      cases heq
      split at h
      · rename_i l hl
        cases h
        rw [intsD1_ok hl]
        rfl
      · cases h
    · cases h
def big : Nat := 1569275433846670190958947355801916604025588861116008628224
theorem big_eq : big = 2 ^ 190 := by decide +kernel
/-- small enough, and not too many -/
def bndI : List Int → Bool
  | [] => true
  | i :: r => (match Nat.blt i.natAbs big with
    | true => bndI r
    | false => false)
def fewI (ns : List Int) : Bool := match Nat.ble ns.length 1000000 with
  | true => bndI ns
  | false => false
theorem bndI_ok : ∀ {ns : List Int}, bndI ns = true → ∀ i ∈ ns, i.natAbs < 2 ^ 190
  | [], _, _, h => absurd h (by simp)
  | j :: r, hb, i, h => by
    unfold bndI at hb
    split at hb
    · rename_i q
      rcases List.mem_cons.mp h with e | h
      · subst e
        rw [← big_eq]
        exact Nat.le_of_ble_eq_true q
      · exact bndI_ok hb i h
    · cases hb
theorem fewI_ok {ns : List Int} (h : fewI ns = true) : ns.length ≤ 1000000 ∧ ∀ i ∈ ns, i.natAbs < 2 ^ 190 := by
  unfold fewI at h
  split at h
  · rename_i q
    exact ⟨Nat.le_of_ble_eq_true q, bndI_ok h⟩
  · cases h
def gcdL : List Int → Nat → Nat
  | [], g => g
  | i :: r, g => gcdL r (Nat.gcd g i.natAbs)
def one1 (g : Nat) : Int := match g with
  | 0 => 1
  | n + 1 => .ofNat (n + 1)
def M_divisor : Fn := fun ds S => match ds with
  | [.lst xs] => (match intsD1 xs with
    | some ns => (match fewI ns with
      | true => .ok (.int (one1 (gcdL ns 0))) S
      | false => .no)
    | none => .no)
  | [.tup xs] => (match intsD1 xs with
    | some ns => (match fewI ns with
      | true => .ok (.int (one1 (gcdL ns 0))) S
      | false => .no)
    | none => .no)
  | _ => .no

/-- a def's first text -/
def docOf (st : Stmt) : Str := match defBody st with
  | .Expr (.Constant (.str x) _ _) _ :: _ => x
  | _ => ""
/-! ### divisor -/
def gcC : Tv := asT (eOp oGt (eVar 4) (eC (.int 0)))
def gcB : Sv := sPar2 3 4 (aCons (eVar 4) (aCons (eOp oMod (eVar 3) (eVar 4)) aNil))
def dvB : Sv := sSeq (sPar2 3 4 (aCons (eVar 1) (aCons (eCaM Bl.abs.op (aCons (eVar 2) aNil)) aNil))) (sSeq (sWhile 400 gcC gcB) (sAsg (gVar 1) (eVar 3)))
def C_divisor (doc : Str) : Fn := fnOfS 5 (sSeq (sExpr (eC (.str doc))) (sSeq (sAsg (gVar 1) (eC (.int 0))) (sSeq (sFor (iSeqF (eVar 0)) (gVar 2) dvB)
  (sRet (eIf (asT (eOp oGt (eVar 1) (eC (.int 0)))) (eVar 1) (eC (.int 1)))))))
section
variable {n0 n1 n2 : Option D} {S : Store}
theorem gc_end {n : Nat} {x : Int} : whileL gcC gcB (n + 1) [n0, n1, n2, some (.int x), some (.int 0)] S = .ok (.nx [n0, n1, n2, some (.int x), some (.int 0)]) S := rfl
theorem gc_go {n x y : Nat} (hy : 0 < y) : whileL gcC gcB (n + 1) [n0, n1, n2, some (.int (x : Int)), some (.int (y : Int))] S = whileL gcC gcB n [n0, n1, n2, some (.int (y : Int)), some (.int ((x % y : Nat) : Int))] S := by
  have h1 : decide ((0 : Int) < (y : Int)) = true := decide_eq_true (by omega)
  have h2 : (if (y : Int) ≠ 0 then some (D.int (Int.fmod (x : Int) (y : Int))) else none) = some (.int ((x % y : Nat) : Int)) := by
    rw [if_pos (by omega), Int.fmod_eq_emod_of_nonneg _ (by omega)]
    rfl
  have e1 : gcC [n0, n1, n2, some (.int (x : Int)), some (.int (y : Int))] S = .ok true S := by
    show R.ok (decide ((0 : Int) < (y : Int))) S = _
    rw [h1]
  have e2 : gcB [n0, n1, n2, some (.int (x : Int)), some (.int (y : Int))] S = .ok (.nx [n0, n1, n2, some (.int (y : Int)), some (.int ((x % y : Nat) : Int))]) S := by
    show (((R.bind (ofO (if (y : Int) ≠ 0 then some (D.int (Int.fmod (x : Int) (y : Int))) else none) S) fun z S3 => R.ok [z] S3).bind fun xs S2 => R.ok (D.int (y : Int) :: xs) S2).bind fun ds S1 => match ds with
      | [a, b] => R.ok (Fl.nx (([n0, n1, n2, some (.int (x : Int)), some (.int (y : Int))].set 3 (some a)).set 4 (some b))) S1
      | _ => R.no) = _
    rw [h2]
    rfl
  show (gcC [n0, n1, n2, some (.int (x : Int)), some (.int (y : Int))] S).bind _ = _
  rw [e1]
  show (gcB [n0, n1, n2, some (.int (x : Int)), some (.int (y : Int))] S).bind _ = _
  rw [e2]
  rfl
theorem gc_run : ∀ (k n x y : Nat), y < 2 ^ k → 2 * k + 1 ≤ n → whileL gcC gcB n [n0, n1, n2, some (.int (x : Int)), some (.int (y : Int))] S = .ok (.nx [n0, n1, n2, some (.int ((Nat.gcd x y : Nat) : Int)), some (.int 0)]) S
  | 0, n, x, y, h, hn => by
    have e : y = 0 := by simpa using h
    subst e
    obtain ⟨m, rfl⟩ : ∃ m, n = m + 1 := ⟨n - 1, by omega⟩
    rw [Nat.gcd_zero_right]
    exact gc_end
  | k + 1, n, x, y, h, hn => by
    obtain ⟨m, rfl⟩ : ∃ m, n = m + 2 := ⟨n - 2, by omega⟩
    by_cases hy : y = 0
    · subst hy
      rw [Nat.gcd_zero_right]
      exact gc_end
    · rw [gc_go (by omega)]
      have g1 : Nat.gcd y (x % y) = Nat.gcd x y := by rw [Nat.gcd_comm y, Nat.gcd_comm x, ← Nat.gcd_rec]
      by_cases hz : x % y = 0
      · rw [hz] at g1 ⊢
        rw [← g1, Nat.gcd_zero_right]
        exact gc_end
      · rw [gc_go (by omega), gc_run k m _ _ _ (by omega)]
        · have g2 : Nat.gcd (x % y) (y % (x % y)) = Nat.gcd y (x % y) := by rw [Nat.gcd_comm, ← Nat.gcd_rec, Nat.gcd_comm]
          rw [g2, g1]
        · have a1 : x % y < y := Nat.mod_lt _ (by omega)
          have a2 : y % (x % y) < x % y := Nat.mod_lt _ (by omega)
          have a3 : y % (x % y) + (x % y) ≤ y := by
            have := Nat.div_add_mod y (x % y)
            have q : 1 ≤ y / (x % y) := Nat.div_pos (by omega) (by omega)
            have := Nat.mul_le_mul_left (x % y) q
            omega
          have : 2 ^ (k + 1) = 2 * 2 ^ k := by rw [Nat.pow_succ]; omega
          omega
theorem dv_loop : ∀ (ns : List Int) (g : Nat) (n2 n3 n4 : Option D), (∀ i ∈ ns, i.natAbs < 2 ^ 190) →
    ∃ a b c, forL (fun d ρ S => (gVar 2 d ρ S).bind dvB) (ns.map D.int) [n0, some (.int (g : Int)), n2, n3, n4] S = .ok (.nx [n0, some (.int ((gcdL ns g : Nat) : Int)), a, b, c]) S
  | [], g, n2, n3, n4, _ => ⟨_, _, _, rfl⟩
  | i :: r, g, n2, n3, n4, h => by
    obtain ⟨a, b, c, ih⟩ := dv_loop r (Nat.gcd g i.natAbs) (some (.int i)) (some (.int ((Nat.gcd g i.natAbs : Nat) : Int))) (some (.int 0)) fun j hj => h j (List.mem_cons_of_mem _ hj)
    refine ⟨a, b, c, ?_⟩
    have habs : (if i < 0 then -i else i) = ((i.natAbs : Nat) : Int) := by
      split <;> omega
    have hw := gc_run (n0 := n0) (n1 := some (.int (g : Int))) (n2 := some (.int i)) (S := S) 190 400 g i.natAbs (h i List.mem_cons_self) (by decide)
    show ((sWhile 400 gcC gcB [n0, some (.int (g : Int)), some (.int i), some (.int (g : Int)), some (.int (if i < 0 then -i else i))] S).bind fun f S1 => match f with
      | .nx ρ1 => sAsg (gVar 1) (eVar 3) ρ1 S1
      | f => .ok f S1).bind (fun f S1 => match f with
        | .nx ρ1 => forL (fun d ρ S => (gVar 2 d ρ S).bind dvB) (r.map D.int) ρ1 S1
        | .ct ρ1 => forL (fun d ρ S => (gVar 2 d ρ S).bind dvB) (r.map D.int) ρ1 S1
        | .bk ρ1 => .ok (.nx ρ1) S1
        | .rt d => .ok (.rt d) S1) = _
    rw [habs]
    unfold sWhile
    rw [hw]
    exact ih
end
theorem C_div_at {doc : Str} {x : D} {xs : List D} {ns : List Int} {S : Store} (hx : ∀ ρ S1, iSeqF (eVar 0) (some x :: ρ) S1 = .ok xs S1) (he : xs = ns.map D.int) (hb : ∀ i ∈ ns, i.natAbs < 2 ^ 190) : C_divisor doc [x] S = .ok (.int (one1 (gcdL ns 0))) S := by
  obtain ⟨a, b, c, h⟩ := dv_loop (n0 := some x) (S := S) ns 0 none none none hb
  have step : (sFor (iSeqF (eVar 0)) (gVar 2) dvB) [some x, some (.int 0), none, none, none] S = .ok (.nx [some x, some (.int ((gcdL ns 0 : Nat) : Int)), a, b, c]) S := by
    unfold sFor
    rw [hx, he]
    exact h
  have ret : sRet (eIf (asT (eOp oGt (eVar 1) (eC (.int 0)))) (eVar 1) (eC (.int 1))) [some x, some (.int ((gcdL ns 0 : Nat) : Int)), a, b, c] S = .ok (.rt (.int (one1 (gcdL ns 0)))) S := by
    cases gcdL ns 0 with
    | zero => rfl
    | succ n =>
      have q : decide ((0 : Int) < ((n + 1 : Nat) : Int)) = true := decide_eq_true (by omega)
      show (R.bind (R.bind (R.ok (decide ((0 : Int) < ((n + 1 : Nat) : Int))) S) fun b S1 => if b = true then R.ok (D.int ((n + 1 : Nat) : Int)) S1 else R.ok (D.int 1) S1) fun d S1 => R.ok (Fl.rt d) S1) = _
      rw [q]
      rfl
  show (match ((sFor (iSeqF (eVar 0)) (gVar 2) dvB) [some x, some (.int 0), none, none, none] S).bind (fun f S1 => match f with
      | .nx ρ1 => sRet (eIf (asT (eOp oGt (eVar 1) (eC (.int 0)))) (eVar 1) (eC (.int 1))) ρ1 S1
      | f => .ok f S1) with
    | .ok (.rt d) S1 => R.ok d S1
    | .ok (.nx _) S1 => .ok .non S1
    | .ok _ _ => .no
    | .ex c p r S1 => .ex c p r S1
    | .no => .no) = _
  rw [step]
  show (match (sRet (eIf (asT (eOp oGt (eVar 1) (eC (.int 0)))) (eVar 1) (eC (.int 1))) [some x, some (.int ((gcdL ns 0 : Nat) : Int)), a, b, c] S) with
    | .ok (.rt d) S1 => R.ok d S1
    | .ok (.nx _) S1 => .ok .non S1
    | .ok _ _ => .no
    | .ex c p r S1 => .ex c p r S1
    | .no => .no) = _
  rw [ret]
theorem mir_divisor (doc : Str) : ∀ ds S, M_divisor ds S = .no ∨ C_divisor doc ds S = M_divisor ds S := by
  intro ds S
  unfold M_divisor
  split
  · split
    · rename_i ns hn
      split
      · rename_i hb
        exact .inr (C_div_at (fun _ _ => rfl) (intsD1_ok hn) (fewI_ok hb).2)
      · exact .inl rfl
    · exact .inl rfl
  · split
    · rename_i ns hn
      split
      · rename_i hb
        exact .inr (C_div_at (fun _ _ => rfl) (intsD1_ok hn) (fewI_ok hb).2)
      · exact .inl rfl
    · exact .inl rfl
  · exact .inl rfl

/-! ### neat -/
def toInts : List Int → List D
  | [] => []
  | i :: r => .int i :: toInts r
theorem toInts_eq : ∀ ns : List Int, toInts ns = ns.map D.int
  | [] => rfl
  | i :: r => by rw [toInts, toInts_eq r]; rfl
def divNI (i : Int) (g : Nat) : Int := match i with
  | .ofNat a => .ofNat (a / g)
  | .negSucc a => .negSucc (a / g)
theorem divNI_eq (i : Int) (n : Nat) : divNI i (n + 1) = i.fdiv ((n + 1 : Nat) : Int) := by
  cases i with
  | ofNat a =>
    cases a with
    | zero => simp [divNI]
    | succ a => rfl
  | negSucc a => rfl
def divAll (g : Nat) : List Int → List Int
  | [] => []
  | i :: r => divNI i g :: divAll g r
theorem divAll_eq (n : Nat) : ∀ ns : List Int, divAll (n + 1) ns = ns.map fun i => i.fdiv ((n + 1 : Nat) : Int)
  | [] => rfl
  | i :: r => by rw [divAll, divAll_eq n r, divNI_eq]; rfl
def neatI (ns : List Int) : List Int := match gcdL ns 0 with
  | 0 => ns
  | 1 => ns
  | g => divAll g ns
theorem neatI_eq (ns : List Int) : neatI ns = ns.map fun i => i.fdiv (one1 (gcdL ns 0)) := by
  have one : ∀ l : List Int, l = l.map fun i => i.fdiv 1 := fun l => by
    induction l with
    | nil => rfl
    | cons i r ih =>
      rw [List.map_cons, ← ih, Int.fdiv_one]
  unfold neatI
  split
  · rename_i h; rw [h]; exact one ns
  · rename_i h; rw [h]; exact one ns
  · rename_i g h0 h1
    cases hg : gcdL ns 0 with
    | zero => exact absurd hg h0
    | succ n => exact divAll_eq n ns
theorem gcdL_lt {B : Nat} : ∀ {ns : List Int} {g : Nat}, g < B → (∀ i ∈ ns, i.natAbs < B) → gcdL ns g < B
  | [], g, h, _ => h
  | i :: r, g, h, hn => by
    refine gcdL_lt (ns := r) ?_ fun j hj => hn j (List.mem_cons_of_mem _ hj)
    by_cases q : g = 0
    · subst q
      rw [Nat.gcd_zero_left]
      exact hn i List.mem_cons_self
    · exact Nat.lt_of_le_of_lt (Nat.gcd_le_left _ (by omega)) h
theorem one1_ok {g : Nat} (h : g < 2 ^ 190) : one1 g ≠ 0 ∧ (one1 g).natAbs.log2 < 9000 := by
  cases g with
  | zero => exact ⟨by decide, by decide⟩
  | succ n =>
    refine ⟨by show ((n + 1 : Nat) : Int) ≠ 0; omega, ?_⟩
    show (n + 1).log2 < 9000
    have : (n + 1).log2 < 190 := (Nat.log2_lt (by omega)).mpr h
    omega
def M_neat : Fn := fun ds S => match ds with
  | [.lst xs] => (match intsD1 xs with
    | some ns => (match fewI ns with
      | true => .ok (.lst (toInts (neatI ns))) S
      | false => .no)
    | none => .no)
  | _ => .no
def ntE : Ev := eOp oDiv (eVar 2) (eVar 1)
def C_neat (doc : Str) : Fn := fnOfS 3 (sSeq (sExpr (eC (.str doc))) (sSeq (sAsg (gVar 1) (eCall M_divisor 1 (aCons (eVar 0) aNil))) (sRet (eComp (iSeqF (eVar 0)) (gVar 2) tYesF ntE [2]))))
theorem nt_comp {x : D} {p : Int} {S : Store} (hp : p ≠ 0 ∧ p.natAbs.log2 < 9000) : ∀ ns : List Int, compL (compT (gVar 2) tYesF ntE [some x, some (.int p), none]) (ns.map D.int) S = .ok (ns.map fun i => .int (i.fdiv p)) S
  | [] => rfl
  | i :: r => by
    have e : ntE [some x, some (.int p), some (.int i)] S = .ok (.int (i.fdiv p)) S := by
      show ofO (if CDv i p then some (D.int (i.fdiv p)) else none) S = _
      rw [if_pos (show CDv i p from hp)]
      rfl
    show ((ntE [some x, some (.int p), some (.int i)] S).bind fun x S3 => R.ok (some x) S3).bind _ = _
    rw [e]
    show (compL (compT (gVar 2) tYesF ntE [some x, some (.int p), none]) (r.map D.int) S).bind _ = _
    rw [nt_comp hp r]
    rfl
theorem mir_neat (doc : Str) : ∀ ds S, M_neat ds S = .no ∨ C_neat doc ds S = M_neat ds S := by
  intro ds S
  unfold M_neat
  split
  · rename_i xs
    split
    · rename_i ns hn
      split
      · rename_i hb
        right
        obtain ⟨hl, hs⟩ := fewI_ok hb
        have hd : M_divisor [.lst xs] S = .ok (.int (one1 (gcdL ns 0))) S := by
          show (match intsD1 xs with
            | some ns => (match fewI ns with
              | true => R.ok (D.int (one1 (gcdL ns 0))) S
              | false => .no)
            | none => .no) = _
          rw [hn]
          show (match fewI ns with
              | true => R.ok (D.int (one1 (gcdL ns 0))) S
              | false => .no) = _
          rw [hb]
        have s1 : (sAsg (gVar 1) (eCall M_divisor 1 (aCons (eVar 0) aNil))) [some (.lst xs), none, none] S = .ok (.nx [some (.lst xs), some (.int (one1 (gcdL ns 0))), none]) S := by
          show (((M_divisor [.lst xs] S).at [some (.lst xs), none, none]).bind fun d S1 => R.bind (gVar 1 d [some (.lst xs), none, none] S1) fun ρ1 S2 => R.ok (Fl.nx ρ1) S2) = _
          rw [hd]
          rfl
        have s2 : sRet (eComp (iSeqF (eVar 0)) (gVar 2) tYesF ntE [2]) [some (.lst xs), some (.int (one1 (gcdL ns 0))), none] S = .ok (.rt (.lst (toInts (neatI ns)))) S := by
          show ((if xs.length ≤ 1000000 then (compL (compT (gVar 2) tYesF ntE [some (.lst xs), some (.int (one1 (gcdL ns 0))), none]) xs S).bind fun zs S2 => R.ok (D.lst zs) S2 else .no).bind fun d S1 => R.ok (Fl.rt d) S1) = _
          rw [intsD1_ok hn, if_pos (by rw [List.length_map]; exact hl), nt_comp (one1_ok (gcdL_lt (by decide) hs)), toInts_eq, neatI_eq, List.map_map]
          rfl
        show (match ((sAsg (gVar 1) (eCall M_divisor 1 (aCons (eVar 0) aNil))) [some (.lst xs), none, none] S).bind (fun f S1 => match f with
            | .nx ρ1 => sRet (eComp (iSeqF (eVar 0)) (gVar 2) tYesF ntE [2]) ρ1 S1
            | f => .ok f S1) with
          | .ok (.rt d) S1 => R.ok d S1
          | .ok (.nx _) S1 => .ok .non S1
          | .ok _ _ => .no
          | .ex c p r S1 => .ex c p r S1
          | .no => .no) = _
        rw [s1]
        show (match sRet (eComp (iSeqF (eVar 0)) (gVar 2) tYesF ntE [2]) [some (.lst xs), some (.int (one1 (gcdL ns 0))), none] S with
          | .ok (.rt d) S1 => R.ok d S1
          | .ok (.nx _) S1 => .ok .non S1
          | .ok _ _ => .no
          | .ex c p r S1 => .ex c p r S1
          | .no => .no) = _
        rw [s2]
      · exact .inl rfl
    · exact .inl rfl
  · exact .inl rfl

/-! ### cleared -/
def crossI (p q : Int) : List Int → List Int → List Int
  | a :: as, b :: bs => (a * p - b * q) :: crossI p q as bs
  | _, _ => []
def M_cleared : Fn := fun ds S => match ds with
  | [.lst xs, .lst ys, .int (.ofNat k)] => (match intsD1 xs with
    | some ns => (match intsD1 ys with
      | some ms => (match fewI ns && fewI ms with
        | true => (match ns[k]? with
          | some a => (match ms[k]? with
            | some b => (match a with
              | .ofNat 0 => .ok (.lst xs) S
              | a => M_neat [.lst (toInts (crossI b a ns ms))] S)
            | none => .no)
          | none => .no)
        | false => .no)
      | none => .no)
    | none => .no)
  | _ => .no
def clE : Ev := eOp oSub (eOp oMulB (eVar 3) (eOp oIx (eVar 1) (eVar 2))) (eOp oMulB (eVar 4) (eOp oIx (eVar 0) (eVar 2)))
def clG : Gv := gTupF (gsLen 2 (gsCons (gVar 3) (gsCons (gVar 4) gsNil)))
def clC : Ev := eComp (iZipF2 (aCons (eVar 0) (aCons (eVar 1) aNil))) clG tYesF clE [3, 4]
def clT : Tv := asT (eOp oEq (eOp oIx (eVar 0) (eVar 2)) (eC (.int 0)))
def C_cleared (doc : Str) : Fn := fnOfS 5 (sSeq (sExpr (eC (.str doc))) (sSeq (sIf clT (sRet (eVar 0)) sNext) (sRet (eCall M_neat 1 (aCons clC aNil)))))
theorem atI_nat {α : Type} {xs : List α} {k : Nat} {a : α} (h : xs[k]? = some a) : atI xs (.ofNat k) = some a := by
  have hk := (List.getElem?_eq_some_iff.mp h).1
  unfold atI ixN
  rw [if_pos (show (0 : Int) ≤ Int.ofNat k from Int.natCast_nonneg k), if_pos (show Int.ofNat k < (xs.length : Int) from Int.ofNat_lt.mpr hk)]
  exact h
theorem mul_ok {a b : Int} {S : Store} (ha : a.natAbs < 2 ^ 190) (hb : b.natAbs < 2 ^ 190) : oMulB S (.int a) (.int b) = some (.int (a * b)) := by
  have l : ∀ {i : Int}, i.natAbs < 2 ^ 190 → i.natAbs.log2 < 190 := fun {i} h => by
    by_cases q : i.natAbs = 0
    · rw [q]; decide
    · exact (Nat.log2_lt q).mpr h
  show (if a.natAbs.log2 + b.natAbs.log2 < 1000000 then some (D.int (a * b)) else none) = _
  have := l ha
  have := l hb
  rw [if_pos (by omega)]
theorem cl_comp {xs ys : List D} {k : Nat} {a b : Int} {S : Store} (hx : xs[k]? = some (.int a)) (hy : ys[k]? = some (.int b)) (ha : a.natAbs < 2 ^ 190) (hb : b.natAbs < 2 ^ 190) : ∀ ns ms : List Int, (∀ i ∈ ns, i.natAbs < 2 ^ 190) → (∀ i ∈ ms, i.natAbs < 2 ^ 190) →
    compL (compT clG tYesF clE [some (.lst xs), some (.lst ys), some (.int (.ofNat k)), none, none]) (pairs (ns.map D.int) (ms.map D.int)) S = .ok ((crossI b a ns ms).map D.int) S
  | [], ms, _, _ => by cases ms <;> rfl
  | n :: ns, [], _, _ => rfl
  | n :: ns, m :: ms, h1, h2 => by
    have hn := h1 n List.mem_cons_self
    have hm := h2 m List.mem_cons_self
    have i1 : oIx S (.lst ys) (.int (.ofNat k)) = some (.int b) := atI_nat hy
    have i0 : oIx S (.lst xs) (.int (.ofNat k)) = some (.int a) := atI_nat hx
    have e : clE [some (.lst xs), some (.lst ys), some (.int (.ofNat k)), some (.int n), some (.int m)] S = .ok (.int (n * b - m * a)) S := by
      show ((R.bind (ofO (oIx S (.lst ys) (.int (.ofNat k))) S) fun y S2 => ofO (oMulB S2 (.int n) y) S2).bind fun x S1 => ((R.bind (ofO (oIx S1 (.lst xs) (.int (.ofNat k))) S1) fun y S2 => ofO (oMulB S2 (.int m) y) S2)).bind fun y S2 => ofO (oSub S2 x y) S2) = _
      rw [i1]
      show ((ofO (oMulB S (.int n) (.int b)) S).bind fun x S1 => ((R.bind (ofO (oIx S1 (.lst xs) (.int (.ofNat k))) S1) fun y S2 => ofO (oMulB S2 (.int m) y) S2)).bind fun y S2 => ofO (oSub S2 x y) S2) = _
      rw [mul_ok hn hb]
      show (((R.bind (ofO (oIx S (.lst xs) (.int (.ofNat k))) S) fun y S2 => ofO (oMulB S2 (.int m) y) S2)).bind fun y S2 => ofO (oSub S2 (.int (n * b)) y) S2) = _
      rw [i0]
      show ((ofO (oMulB S (.int m) (.int a)) S).bind fun y S2 => ofO (oSub S2 (.int (n * b)) y) S2) = _
      rw [mul_ok hm ha]
      rfl
    show ((clE [some (.lst xs), some (.lst ys), some (.int (.ofNat k)), some (.int n), some (.int m)] S).bind fun x S3 => R.ok (some x) S3).bind _ = _
    rw [e]
    show (compL (compT clG tYesF clE [some (.lst xs), some (.lst ys), some (.int (.ofNat k)), none, none]) (pairs (ns.map D.int) (ms.map D.int)) S).bind _ = _
    rw [cl_comp hx hy ha hb ns ms (fun i hi => h1 i (List.mem_cons_of_mem _ hi)) fun i hi => h2 i (List.mem_cons_of_mem _ hi)]
    rfl
theorem cl_test {xs ys : List D} {k : Nat} {a : Int} {S : Store} (hx : xs[k]? = some (.int a)) : clT [some (.lst xs), some (.lst ys), some (.int (.ofNat k)), none, none] S = .ok (decide (a = 0)) S := by
  have i0 : oIx S (.lst xs) (.int (.ofNat k)) = some (.int a) := atI_nat hx
  have e : oEq S (.int a) (.int 0) = some (.bl (decide (a = 0))) := by
    unfold oEq eqD
    simp [toPyS, toPy, SeqAt.shaped, PyData.eqv, PyData.canLay0, PyData.depth]
    try rfl
  show (((ofO (oIx S (.lst xs) (.int (.ofNat k))) S).bind fun x S1 => ofO (oEq S1 x (.int 0)) S1).bind fun x S1 => match x with
    | .bl b => R.ok b S1
    | _ => .no) = _
  rw [i0]
  show ((ofO (oEq S (.int a) (.int 0)) S).bind fun x S1 => match x with
    | .bl b => R.ok b S1
    | _ => .no) = _
  rw [e]
  rfl
theorem intsD1_map : ∀ ns : List Int, intsD1 (ns.map D.int) = some ns
  | [] => rfl
  | i :: r => by
    show (match intsD1 (r.map D.int) with
      | some l => some (i :: l)
      | none => none) = _
    rw [intsD1_map r]
theorem clC_at {xs ys : List D} {k : Nat} {S : Store} {zs : List D} (h : compL (compT clG tYesF clE [some (.lst xs), some (.lst ys), some (.int (.ofNat k)), none, none]) (pairs xs ys) S = .ok zs S) (hl : (pairs xs ys).length ≤ 1000000) : clC [some (.lst xs), some (.lst ys), some (.int (.ofNat k)), none, none] S = .ok (.lst zs) S := by
  show (if (pairs xs ys).length ≤ 1000000 then (compL (compT clG tYesF clE [some (.lst xs), some (.lst ys), some (.int (.ofNat k)), none, none]) (pairs xs ys) S).bind fun xs S2 => R.ok (D.lst xs) S2 else .no) = _
  rw [if_pos hl, h]
  rfl
theorem neat_ex (ds : List D) (S : Store) (c : Str) (p : Option D) (r : Rho) (S1 : Store) : M_neat ds S ≠ .ex c p r S1 := by
  intro h
  unfold M_neat at h
  split at h
  · split at h
    · split at h
      · cases h
      · cases h
    · cases h
  · cases h
theorem call1 {F : Fn} {a : Ev} {ρ : Rho} {S S1 : Store} {d : D} (h : a ρ S = .ok d S1) : eCall F 1 (aCons a aNil) ρ S = (F [d] S1).at ρ := by
  unfold eCall aCons
  rw [h]
  rfl
theorem mir_cleared (doc : Str) : ∀ ds S, M_cleared ds S = .no ∨ C_cleared doc ds S = M_cleared ds S := by
  intro ds S
  unfold M_cleared
  split
  · rename_i xs ys k
    split
    · rename_i ns hn
      split
      · rename_i ms hm
        split
        · rename_i hf
          obtain ⟨f1, f2⟩ := Bool.and_eq_true_iff.mp hf
          obtain ⟨l1, b1⟩ := fewI_ok f1
          obtain ⟨l2, b2⟩ := fewI_ok f2
          split
          · rename_i a ha
            split
            · rename_i b hb
              have ex := intsD1_ok hn
              have ey := intsD1_ok hm
              have hx : xs[k]? = some (.int a) := by rw [ex, List.getElem?_map, ha]; rfl
              have hy : ys[k]? = some (.int b) := by rw [ey, List.getElem?_map, hb]; rfl
              have ba := b1 a (List.mem_of_getElem? ha)
              have bb := b2 b (List.mem_of_getElem? hb)
              have ht := cl_test (ys := ys) (S := S) hx
              have head : C_cleared doc [.lst xs, .lst ys, .int (.ofNat k)] S = (match ((clT [some (.lst xs), some (.lst ys), some (.int (.ofNat k)), none, none] S).bind fun x S1 => if x = true then sRet (eVar 0) [some (.lst xs), some (.lst ys), some (.int (.ofNat k)), none, none] S1 else sNext [some (.lst xs), some (.lst ys), some (.int (.ofNat k)), none, none] S1).bind (fun f S1 => match f with
                  | .nx ρ1 => sRet (eCall M_neat 1 (aCons clC aNil)) ρ1 S1
                  | f => .ok f S1) with
                | .ok (.rt d) S1 => R.ok d S1
                | .ok (.nx _) S1 => .ok .non S1
                | .ok _ _ => .no
                | .ex c p r S1 => .ex c p r S1
                | .no => .no) := rfl
              rw [ht] at head
              have other : a ≠ 0 → C_cleared doc [.lst xs, .lst ys, .int (.ofNat k)] S = M_neat [.lst (toInts (crossI b a ns ms))] S := by
                intro na
                rw [decide_eq_false na] at head
                rw [head]
                have q := cl_comp (S := S) hx hy ba bb ns ms b1 b2
                rw [← ex, ← ey] at q
                have lx : xs.length = ns.length := by rw [ex, List.length_map]
                have hc := clC_at q (by rw [pairs_len]; omega)
                show (match (eCall M_neat 1 (aCons clC aNil) [some (.lst xs), some (.lst ys), some (.int (.ofNat k)), none, none] S).bind (fun d S1 => R.ok (Fl.rt d) S1) with
                  | .ok (.rt d) S1 => R.ok d S1
                  | .ok (.nx _) S1 => .ok .non S1
                  | .ok _ _ => .no
                  | .ex c p r S1 => .ex c p r S1
                  | .no => .no) = _
                rw [call1 hc, ← toInts_eq]
                show (match ((M_neat [.lst (toInts (crossI b a ns ms))] S).at _).bind (fun d S1 => R.ok (Fl.rt d) S1) with
                  | .ok (.rt d) S1 => R.ok d S1
                  | .ok (.nx _) S1 => .ok .non S1
                  | .ok _ _ => .no
                  | .ex c p r S1 => .ex c p r S1
                  | .no => .no) = _
                cases q2 : M_neat [.lst (toInts (crossI b a ns ms))] S with
                | ok d S1 => rfl
                | ex c p r S1 => exact absurd q2 (neat_ex _ _ _ _ _ _)
                | no => rfl
              right
              cases a with
              | ofNat n =>
                cases n with
                | zero =>
                  rw [head]
                  rfl
                | succ n => exact other (by show ((n + 1 : Nat) : Int) ≠ 0; omega)
              | negSucc n => exact other (by omega)
            · exact .inl rfl
          · exact .inl rfl
        · exact .inl rfl
      · exact .inl rfl
    · exact .inl rfl
  · exact .inl rfl
end PL

set_option Elab.async false
set_option linter.all false
set_option maxRecDepth 100000
set_option maxHeartbeats 4000000
/-! a call that knows nothing of the changing objects; a call's answers laid in a table -/
namespace PL
open PySem PySem.Spec PyProof.Rows L2
mutual
def noRef : D → Bool
  | .ref _ => false
  | .lst xs => noRefs xs
  | .tup xs => noRefs xs
  | .dct _ xs => noRefs xs
  | _ => true
def noRefs : List D → Bool
  | [] => true
  | x :: xs => (match noRef x with
    | true => noRefs xs
    | false => false)
end
section
variable {K : PySem.W.Frag} {as as' : List Addr} {H : Hp}
mutual
theorem rp_noRef : ∀ {d : D} {v : V}, Rp K as H v d → noRef d = true → Rp K as' H v d
  | .non, _, r, _ => by cases r; exact .non
  | .bl b, _, r, _ => by cases r; exact .bl b
  | .int i, _, r, _ => by cases r; exact .int i
  | .str x, _, r, _ => by cases r; exact .str x
  | .ty x, _, r, _ => by cases r; exact .ty x
  | .cls x, _, r, _ => by cases r with | cls h => exact .cls h
  | .frz ns, _, r, _ => by cases r with | frz h => exact .frz h
  | .ref n, _, _, h => by cases h
  | .lst xs, _, r, h => by
    cases r with
    | lst h1 h2 => exact .lst h1 (rpa_noRef h2 h)
  | .tup xs, _, r, h => by
    cases r with
    | tup h1 h2 => exact .tup h1 (rpa_noRef h2 h)
  | .dct ks xs, _, r, h => by
    cases r with
    | dct h1 h2 h3 => exact .dct h1 h2 (rpa_noRef h3 h)
theorem rpa_noRef : ∀ {ds : List D} {vs : List V}, RpA K as H vs ds → noRefs ds = true → RpA K as' H vs ds
  | [], _, r, _ => by cases r; exact .nil
  | x :: xs, _, r, h => by
    cases r with
    | cons r1 r2 =>
      unfold noRefs at h
      split at h
      · rename_i q
        exact .cons (rp_noRef r1 q) (rpa_noRef r2 h)
      · cases h
end
end
/-- the answer without the changing objects -/
def pureF (F : Fn) : Fn := fun ds S => match noRefs ds with
  | true => (match F ds [] with
    | .ok d _ => (match noRef d with
      | true => .ok d S
      | false => .no)
    | _ => .no)
  | false => .no
theorem sr_none {K : PySem.W.Frag} {H0 H : Hp} (e : Ex H0 H) : Sr0 K [] H0 H [] := ⟨e, rfl, fun n c a h => by simp at h, fun n m c c' a h => by simp at h, fun a h => absurd h (by simp)⟩
theorem sr_of {B' : Bs} {K : PySem.W.Frag} {as : List Addr} {H0 H : Hp} {S : Store} (r : @Sr B' K as H0 H S) : Sr0 K as H0 H S := @Sr.toSr0 B' _ _ _ _ _ r
theorem spF_pure {K : PySem.W.Frag} {cls : Str → Option Addr} {n : Nat} {F : Fn} {vs : List V} {H : Hp} {Q : VK} {E : XK} (q : spF K cls n (pureF F) vs H Q E) : spF K cls n F vs H Q E := by
  obtain ⟨hl, as, H0, S, ds, r, rp, q⟩ := q
  unfold pureF at q
  split at q
  case h_2 => exact q.elim
  rename_i h1
  refine ⟨hl, [], H0, [], ds, sr_none r.ex, rpa_noRef rp h1, ?_⟩
  split at q
  case h_2 => exact q.elim
  rename_i d S' h2
  rw [h2]
  split at q
  case h_2 => exact q.elim
  rename_i h3
  have q : @QE (bsOf K cls as H0 H E) K as H0 H Q d S := q
  show @QE (bsOf K cls [] H0 H E) K [] H0 H Q d S'
  intro v as' H0' H' nx r1 p
  have r' := sr_of r1
  have kp : ∀ a o, H a = some o → H' a = some o := fun a o h => nx.keep a o h (by simp)
  have nx' : Nx as H0 H as H0' H' := ⟨Pre.refl _, nx.h0, fun a o h _ => kp a o h, fun a h h' => absurd h h', fun a o h h0 _ => nx.out a o h h0 (by simp)⟩
  have s0 : Sr0 K as H0' H' S := by
    refine ⟨r'.ex, r.len, fun n c a z1 z2 => ?_, r.inj, fun a ha => ?_⟩
    · obtain ⟨c1, c2⟩ := r.cell n c a z1 z2
      obtain ⟨o, ho⟩ := c2.some
      exact ⟨nx.out a o ho c1 (by simp), c2.lift nx.h0 (Pre.refl _) fun o h => kp a o h⟩
    · obtain ⟨o, ho⟩ := r.there a ha
      exact ⟨o, kp a o ho⟩
  exact q v as H0' H' nx' (@Sr.mk (bsOf K cls as H0 H E) _ _ _ _ _ s0 nx') (rp_noRef p h3)
theorem Fact.pure {P : Program} {w : World} {K : PySem.W.Frag} {mg : Str → Option Value} {base : Heap} {cls : Str → Option Addr} {L : Nat} {x : Str} {n : Nat} {F : Fn} (h : Fact P w K mg base cls L x n F) : Fact P w K mg base cls L x n (pureF F) := by
  obtain ⟨⟨k, f, fd, ps, a, b, b1, b2, b3⟩, c⟩ := h
  exact ⟨⟨k, f, fd, ps, a, b, b1, b2, b3.imp fun vs H Q E q => spF_pure q⟩, c⟩
/-- True, so many times -/
def allT : Nat → List D → Bool
  | 0, [] => true
  | n + 1, .bl true :: r => allT n r
  | _, _ => false
theorem allT_ok : ∀ {n : Nat} {ds : List D}, allT n ds = true → ds = List.replicate n (.bl true)
  | 0, [], _ => rfl
  | 0, _ :: _, h => by cases h
  | n + 1, [], h => by cases h
  | n + 1, d :: r, h => by
    unfold allT at h
    split at h
    · cases ‹_ = 0›
    · rename_i heq1 heq2
      cases heq1; cases heq2
      rw [allT_ok h]
      rfl
    · cases h
def okT (n : Nat) : R D → Bool
  | .ok (.lst ds) _ => allT n ds
  | _ => false
theorem okT_ok {n : Nat} {r : R D} (h : okT n r = true) : ∃ S, r = .ok (.lst (List.replicate n (.bl true))) S := by
  unfold okT at h
  split at h
  · rw [allT_ok h]
    exact ⟨_, rfl⟩
  · cases h
theorem noRefs_rep {b : Bool} : ∀ n : Nat, noRefs (List.replicate n (.bl b)) = true
  | 0 => rfl
  | n + 1 => by
    rw [List.replicate_succ]
    unfold noRefs
    exact noRefs_rep n
/-- a row of True at each of these ints -/
def rowT (n : Nat) (l : List Nat) : Fn := fun ds S => match ds with
  | [.int (.ofNat k)] => (match l.any fun i => Nat.beq i k with
    | true => .ok (.lst (List.replicate n (.bl true))) S
    | false => .no)
  | _ => .no
theorem rowT_of {F : Fn} {n : Nat} {l : List Nat} (h : ∀ k ∈ l, okT n (F [.int (.ofNat k)] []) = true) : ∀ ds S, rowT n l ds S = .no ∨ pureF F ds S = rowT n l ds S := by
  intro ds S
  unfold rowT
  split
  · rename_i k
    split
    · rename_i q
      right
      obtain ⟨i, hi, hb⟩ := List.any_eq_true.mp q
      have e : i = k := Nat.eq_of_beq_eq_true hb
      subst e
      obtain ⟨S', e⟩ := okT_ok (h i hi)
      have nr : noRef (D.lst (List.replicate n (.bl true))) = true := by
        unfold noRef
        exact noRefs_rep n
      show (match F [.int (.ofNat i)] [] with
        | .ok d _ => (match noRef d with
          | true => R.ok d S
          | false => .no)
        | _ => .no) = _
      rw [e]
      show (match noRef (D.lst (List.replicate n (.bl true))) with
          | true => R.ok (D.lst (List.replicate n (.bl true))) S
          | false => .no) = _
      rw [nr]
    · exact .inl rfl
  · exact .inl rfl
end PL

set_option Elab.async false
set_option linter.all false
set_option maxRecDepth 100000
set_option maxHeartbeats 4000000
namespace PL
open PySem PySem.Spec PyProof.Rows L2
/-- a row of True, asked with nothing -/
def rowZ (n : Nat) : Fn := fun ds S => match ds with
  | [] => .ok (.lst (List.replicate n (.bl true))) S
  | _ => .no
theorem rowZ_of {F : Fn} {n : Nat} (h : okT n (F [] []) = true) : ∀ ds S, rowZ n ds S = .no ∨ pureF F ds S = rowZ n ds S := by
  intro ds S
  unfold rowZ
  split
  · right
    obtain ⟨S', e⟩ := okT_ok h
    have nr : noRef (D.lst (List.replicate n (.bl true))) = true := by
      unfold noRef
      exact noRefs_rep n
    show (match F [] [] with
      | .ok d _ => (match noRef d with
        | true => R.ok d S
        | false => .no)
      | _ => .no) = _
    rw [e]
    show (match noRef (D.lst (List.replicate n (.bl true))) with
        | true => R.ok (D.lst (List.replicate n (.bl true))) S
        | false => .no) = _
    rw [nr]
  · exact .inl rfl
end PL

set_option Elab.async false
set_option linter.all false
set_option maxRecDepth 100000
set_option maxHeartbeats 4000000
namespace PL
open PySem PySem.Spec PyProof.Rows L2
/-! ### answers laid in a table -/
mutual
def sameD : D → D → Bool
  | .non, .non => true
  | .bl a, .bl b => (match a, b with
    | true, true => true
    | false, false => true
    | _, _ => false)
  | .int i, .int j => (match i, j with
    | .ofNat a, .ofNat b => Nat.beq a b
    | .negSucc a, .negSucc b => Nat.beq a b
    | _, _ => false)
  | .str a, .str b => eqS a b
  | .tup a, .tup b => sameDs a b
  | .lst a, .lst b => sameDs a b
  | _, _ => false
def sameDs : List D → List D → Bool
  | [], [] => true
  | a :: as, b :: bs => (match sameD a b with
    | true => sameDs as bs
    | false => false)
  | _, _ => false
end
mutual
theorem sameD_ok : ∀ {x y : D}, sameD x y = true → x = y
  | .non, y, h => by
    cases y <;> first | rfl | (unfold sameD at h; cases h)
  | .bl a, y, h => by
    cases y with
    | bl b => cases a <;> cases b <;> first | rfl | (unfold sameD at h; cases h)
    | _ => unfold sameD at h; cases h
  | .int i, y, h => by
    cases y with
    | int j =>
      unfold sameD at h
      cases i with
      | ofNat a =>
        cases j with
        | ofNat b =>
          have h : Nat.beq a b = true := h
          rw [Nat.eq_of_beq_eq_true h]
        | negSucc b => cases h
      | negSucc a =>
        cases j with
        | ofNat b => cases h
        | negSucc b =>
          have h : Nat.beq a b = true := h
          rw [Nat.eq_of_beq_eq_true h]
    | _ => unfold sameD at h; cases h
  | .str a, y, h => by
    cases y with
    | str b =>
      unfold sameD at h
      rw [eqS_ok h]
    | _ => unfold sameD at h; cases h
  | .tup a, y, h => by
    cases y with
    | tup b =>
      unfold sameD at h
      rw [sameDs_ok h]
    | _ => unfold sameD at h; cases h
  | .lst a, y, h => by
    cases y with
    | lst b =>
      unfold sameD at h
      rw [sameDs_ok h]
    | _ => unfold sameD at h; cases h
  | .ref _, y, h => by
    unfold sameD at h; cases h
  | .frz _, y, h => by
    unfold sameD at h; cases h
  | .dct _ _, y, h => by
    unfold sameD at h; cases h
  | .ty _, y, h => by
    unfold sameD at h; cases h
  | .cls _, y, h => by
    unfold sameD at h; cases h
theorem sameDs_ok : ∀ {xs ys : List D}, sameDs xs ys = true → xs = ys
  | [], [], _ => rfl
  | [], _ :: _, h => by unfold sameDs at h; cases h
  | _ :: _, [], h => by unfold sameDs at h; cases h
  | a :: as, b :: bs, h => by
    unfold sameDs at h
    split at h
    · rename_i q
      rw [sameD_ok q, sameDs_ok h]
    · cases h
end
def lkT : List (List D × D) → List D → Option D
  | [], _ => none
  | (a, d) :: r, ds => (match sameDs ds a with
    | true => some d
    | false => lkT r ds)
theorem lkT_ok : ∀ {l : List (List D × D)} {ds : List D} {d : D}, lkT l ds = some d → (ds, d) ∈ l
  | [], _, _, h => by cases h
  | (a, x) :: r, ds, d, h => by
    unfold lkT at h
    split at h
    · rename_i q
      have q := sameDs_ok q
      subst q
      cases h
      exact List.mem_cons_self
    · exact List.mem_cons_of_mem _ (lkT_ok h)
def tabF (l : List (List D × D)) : Fn := fun ds S => match lkT l ds with
  | some d => .ok d S
  | none => .no
/-- one line of a table -/
def okL (F : Fn) (p : List D × D) : Bool := noRefs p.1 && (noRef p.2 && (match F p.1 [] with
  | .ok d _ => sameD d p.2
  | _ => false))
theorem tabF_of {F : Fn} {l : List (List D × D)} (h : ∀ p ∈ l, okL F p = true) : ∀ ds S, tabF l ds S = .no ∨ pureF F ds S = tabF l ds S := by
  intro ds S
  unfold tabF
  cases q : lkT l ds with
  | none => exact .inl rfl
  | some d =>
    right
    have z := h _ (lkT_ok q)
    unfold okL at z
    obtain ⟨z1, z⟩ := Bool.and_eq_true_iff.mp z
    obtain ⟨z2, z3⟩ := Bool.and_eq_true_iff.mp z
    dsimp only at z1 z2 z3
    unfold pureF
    rw [z1]
    dsimp only
    cases e : F ds [] with
    | ok d' S' =>
      rw [e] at z3
      have z3 := sameD_ok z3
      subst z3
      dsimp only
      rw [z2]
    | ex c p ρ S' => rw [e] at z3; cases z3
    | no => rw [e] at z3; cases z3
/-- all of these -/
def andB : List Bool → Bool
  | [] => true
  | b :: r => (match b with
    | true => andB r
    | false => false)
theorem and_at : ∀ {l : List Bool} (i : Nat) {b : Bool}, andB l = true → l[i]? = some b → b = true
  | [], _, _, _, h => by simp at h
  | b :: r, 0, c, h, e => by
    simp at e
    subst e
    unfold andB at h
    split at h
    · rfl
    · cases h
  | b :: r, i + 1, c, h, e => by
    unfold andB at h
    split at h
    · exact and_at i h (by simpa using e)
    · cases h
end PL

set_option Elab.async false
set_option linter.all false
set_option maxRecDepth 100000
set_option maxHeartbeats 4000000
/-! small steps of the forms -/
namespace PL
open PySem PySem.Spec PyProof.Rows L2
section
variable {ρ ρ1 ρ2 : Rho} {S S1 S2 S3 : Store} {x y z : D} {a b c : Ev} {o : Op2} {f : FnB} {s t u : Sv} {fl : Fl} {k : Bool} {v : Tv}
theorem op_ok (ha : a ρ S = .ok x S1) (hb : b ρ S1 = .ok y S2) (ho : o S2 x y = some z) : eOp o a b ρ S = .ok z S2 := by
  unfold eOp
  rw [ha]
  show ((b ρ S1).bind fun y S2 => ofO (o S2 x y) S2) = _
  rw [hb]
  show ofO (o S2 x y) S2 = _
  rw [ho]
  rfl
theorem ca1_ok (ha : a ρ S = .ok x S1) (hf : f [x] S1 = .ok z S2) : eCaM f (aCons a aNil) ρ S = .ok z S2 := by
  unfold eCaM aCons
  rw [ha]
  exact hf
theorem ca2_ok (ha : a ρ S = .ok x S1) (hb : b ρ S1 = .ok y S2) (hf : f [x, y] S2 = .ok z S3) : eCaM f (aCons a (aCons b aNil)) ρ S = .ok z S3 := by
  unfold eCaM aCons
  rw [ha]
  show (((b ρ S1).bind fun x S1 => (aNil ρ S1).bind fun xs S2 => .ok (x :: xs) S2).bind fun xs S2 => .ok (x :: xs) S2).bind f = _
  rw [hb]
  exact hf
theorem call2_ok {F : Fn} (ha : a ρ S = .ok x S1) (hb : b ρ S1 = .ok y S2) : eCall F 2 (aCons a (aCons b aNil)) ρ S = (F [x, y] S2).at ρ := by
  unfold eCall aCons
  rw [ha]
  show ((((b ρ S1).bind fun x S1 => (aNil ρ S1).bind fun xs S2 => .ok (x :: xs) S2).bind fun xs S2 => .ok (x :: xs) S2).bind fun xs S1 => if xs.length = 2 then (F xs S1).at ρ else .no) = _
  rw [hb]
  rfl
theorem asg_ok {g : Gv} (ha : a ρ S = .ok x S1) (hg : g x ρ S1 = .ok ρ1 S2) : sAsg g a ρ S = .ok (.nx ρ1) S2 := by
  unfold sAsg
  rw [ha]
  show ((g x ρ S1).bind fun ρ1 S2 => R.ok (Fl.nx ρ1) S2) = _
  rw [hg]
  rfl
theorem asgV_ok {i : Nat} (ha : a ρ S = .ok x S1) : sAsg (gVar i) a ρ S = .ok (.nx (ρ.set i (some x))) S1 := asg_ok ha rfl
theorem seq_nx (hs : s ρ S = .ok (.nx ρ1) S1) : sSeq s t ρ S = t ρ1 S1 := by
  unfold sSeq
  rw [hs]
  rfl
theorem seq_rt {d : D} (hs : s ρ S = .ok (.rt d) S1) : sSeq s t ρ S = .ok (.rt d) S1 := by
  unfold sSeq
  rw [hs]
  rfl
theorem seq_ct (hs : s ρ S = .ok (.ct ρ1) S1) : sSeq s t ρ S = .ok (.ct ρ1) S1 := by
  unfold sSeq
  rw [hs]
  rfl
theorem if_t (hv : v ρ S = .ok true S1) : sIf v s t ρ S = s ρ S1 := by
  unfold sIf
  rw [hv]
  rfl
theorem if_f (hv : v ρ S = .ok false S1) : sIf v s t ρ S = t ρ S1 := by
  unfold sIf
  rw [hv]
  rfl
theorem ret_ok (ha : a ρ S = .ok x S1) : sRet a ρ S = .ok (.rt x) S1 := by
  unfold sRet
  rw [ha]
  rfl
theorem asT_ok (ha : a ρ S = .ok (.bl k) S1) : asT a ρ S = .ok k S1 := by
  unfold asT
  rw [ha]
  rfl
theorem fn_rt {m : Nat} {ds : List D} {d : D} (h : s (ds.map some ++ List.replicate (m - ds.length) none) S = .ok (.rt d) S1) : fnOfS m s ds S = .ok d S1 := by
  unfold fnOfS
  rw [h]
theorem for_ok {it : Av} {g : Gv} {ds : List D} (h : it ρ S = .ok ds S1) : sFor it g s ρ S = forL (fun d ρ S => (g d ρ S).bind s) ds ρ S1 := by
  unfold sFor
  rw [h]
  rfl
/-- a loop that never leaves -/
theorem forL_inv {f : D → Rho → Store → R Fl} {P : Rho → Store → Prop} : ∀ {ds : List D} {ρ : Rho} {S : Store}, (∀ d ∈ ds, ∀ ρ S, P ρ S → ∃ ρ1 S1, P ρ1 S1 ∧ (f d ρ S = .ok (.nx ρ1) S1 ∨ f d ρ S = .ok (.ct ρ1) S1)) → P ρ S → ∃ ρ1 S1, P ρ1 S1 ∧ forL f ds ρ S = .ok (.nx ρ1) S1
  | [], ρ, S, _, p => ⟨ρ, S, p, rfl⟩
  | d :: ds, ρ, S, h, p => by
    obtain ⟨ρ1, S1, p1, e⟩ := h d List.mem_cons_self ρ S p
    obtain ⟨ρ2, S2, p2, e2⟩ := forL_inv (f := f) (fun d hd => h d (List.mem_cons_of_mem _ hd)) p1
    refine ⟨ρ2, S2, p2, ?_⟩
    rcases e with e | e
    · show (f d ρ S).bind _ = _
      rw [e]
      exact e2
    · show (f d ρ S).bind _ = _
      rw [e]
      exact e2
theorem ix_ref {n : Nat} {xs : List D} {i : Int} (h : S[n]? = some (some (.lst xs))) : oIx S (.ref n) (.int i) = atI xs i := by
  show (match lstOf S (.ref n) with
      | some xs => atI xs i
      | none => none) = _
  have e : lstOf S (.ref n) = some xs := by
    unfold lstOf
    dsimp only
    rw [h]
  rw [e]
theorem set_get {n : Nat} {c : Option Cell} (h : n < S.length) : (S.set n c)[n]? = some c := by
  rw [List.getElem?_set_self h]
end
end PL

set_option Elab.async false
set_option linter.all false
set_option maxRecDepth 100000
set_option maxHeartbeats 4000000
/-! _law_source, _law_draw: every law's own two -/
namespace PL
open PySem PySem.Spec PyProof.Rows L2
def srcC : Ev := eCaM Bl.abs.op (aCons (eCaM Bl.int.op (aCons (eOp oIx (eVar 0) (eVar 1)) aNil)) aNil)
def srcL : Ev := eOp oAdd (eC (.int 1)) (eOp oMod (eCaM Bl.int.op (aCons (eOp oAdd (eOp oMulB (eVar 2) (eC (.int 7919))) (eOp oMulB (eC (.int 104729)) (eVar 1))) aNil)) (eC (.int 2147483646)))
def srcH : Ev := eOp oAdd (eC (.int 1)) (eOp oMod (eCaM Bl.int.op (aCons (eOp oAdd (eVar 2) (eVar 1)) aNil)) (eC (.int 2147483646)))
def srcT : Tv := asT (eOp oLt (eVar 2) (eOp oPow (eC (.int 10)) (eC (.int 18))))
def srcQ : Tv := asT (eOp oLt (eVar 1) (eCaM Bl.len.op (aCons (eVar 0) aNil)))
def srcE : Sv := sSeq (sIf srcT (sRet (eNew (aCons (eC (.int 0)) (aCons srcL aNil)))) sNext) (sRet (eNew (aCons (eVar 2) (aCons srcH aNil))))
def srcB : Sv := sSeq (sAsg (gVar 2) (eC (.int 0))) (sSeq (sIf srcQ (sAsg (gVar 2) srcC) sNext) srcE)
def C_source : Fn := fnOfS 3 srcB
def drT : Tv := asT (eOp oGt (eOp oIx (eVar 0) (eC (.int 0))) (eC (.int 0)))
def drA : Sv := sSeq (sAsg (gVar 2) (eOp oMod (eCaM Bl.int.op (aCons (eOp oIx (eVar 0) (eC (.int 0))) aNil)) (eVar 1))) (sSeq (sAsg (gSubF (eVar 0) (eC (.int 0))) (eOp oDiv (eOp oIx (eVar 0) (eC (.int 0))) (eVar 1))) (sRet (eVar 2)))
def drM : Ev := eOp oMod (eCaM Bl.int.op (aCons (eOp oMulB (eOp oIx (eVar 0) (eC (.int 1))) (eC (.int 48271))) aNil)) (eC (.int 2147483647))
def drR : Ev := eOp oMod (eCaM Bl.int.op (aCons (eOp oDiv (eOp oMod (eCaM Bl.int.op (aCons (eOp oMulB (eOp oIx (eVar 0) (eC (.int 1))) (eOp oIx (eVar 0) (eC (.int 1)))) aNil)) (eC (.int 2147483629))) (eC (.int 64))) aNil)) (eVar 1)
def dwB : Sv := sSeq (sIf drT drA sNext) (sSeq (sAsg (gSubF (eVar 0) (eC (.int 1))) drM) (sRet drR))
def C_draw : Fn := fnOfS 3 dwB
theorem fmod_bd {a m : Int} (hm : 0 < m) : 0 ≤ a.fmod m ∧ a.fmod m < m := ⟨Int.fmod_nonneg_of_pos _ hm, Int.fmod_lt_of_pos _ hm⟩
theorem mod_ok {a m : Int} {S : Store} (hm : m ≠ 0) : oMod S (.int a) (.int m) = some (.int (a.fmod m)) := by
  show (if m ≠ 0 then some (D.int (a.fmod m)) else none) = _
  rw [if_pos hm]
theorem div_ok {a m : Int} {S : Store} (hm : m ≠ 0) (hl : m.natAbs < 2 ^ 190) : oDiv S (.int a) (.int m) = some (.int (a.fdiv m)) := by
  show (if CDv a m then some (D.int (a.fdiv m)) else none) = _
  have : m.natAbs.log2 < 190 := (Nat.log2_lt (by omega)).mpr hl
  rw [if_pos ⟨hm, by omega⟩]
theorem gt_ok {a b : Int} {S : Store} : oGt S (.int a) (.int b) = some (.bl (decide (b < a))) := rfl
/-- a source of draws at n -/
def SrcAt (S : Store) (n : Nat) : Prop := ∃ a b : Int, S[n]? = some (some (.lst [.int a, .int b])) ∧ 0 ≤ b ∧ b < 2147483647
theorem small190 {b : Int} (h0 : 0 ≤ b) (h1 : b < 2147483648) : b.natAbs < 2 ^ 190 := by
  have : (2147483648 : Nat) ≤ 2 ^ 190 := by decide +kernel
  omega
theorem sub_set {ρ : Rho} {S : Store} {n : Nat} {a b v : D} {k : Int} {j : Nat} (h : S[n]? = some (some (.lst [a, b]))) (h0 : eVar 0 ρ S = .ok (.ref n) S) (hk : ixN 2 k = some j) : gSubF (eVar 0) (eC (.int k)) v ρ S = .ok ρ (S.set n (some (.lst ([a, b].set j v)))) := by
  unfold gSubF
  rw [h0]
  show (match S[n]? with
    | some (some (.lst xs)) => (match ixN xs.length k with
      | some j => R.ok ρ (S.set n (some (.lst (xs.set j v))))
      | none => .no)
    | _ => .no) = _
  rw [h]
  show (match ixN 2 k with
      | some j => R.ok ρ (S.set n (some (.lst ([a, b].set j v))))
      | none => .no) = _
  rw [hk]
theorem draw_ok {S : Store} {n : Nat} {m : Int} (h : SrcAt S n) (hm : 0 < m) (hm2 : m < 2147483648) : ∃ (r : Int) (c : Cell), C_draw [.ref n, .int m] S = .ok (.int r) (S.set n (some c)) ∧ 0 ≤ r ∧ r < m ∧ SrcAt (S.set n (some c)) n := by
  obtain ⟨a, b, hS, b0, b1⟩ := h
  have hn : n < S.length := (List.getElem?_eq_some_iff.mp hS).1
  have mb := small190 (by omega) hm2
  have i0 : ∀ z : Option D, eOp oIx (eVar 0) (eC (.int 0)) [some (.ref n), some (.int m), z] S = .ok (.int a) S := fun z => op_ok (x := .ref n) (y := .int 0) rfl rfl ((ix_ref hS).trans rfl)
  have i1 : eOp oIx (eVar 0) (eC (.int 1)) [some (.ref n), some (.int m), none] S = .ok (.int b) S := op_ok (x := .ref n) (y := .int 1) rfl rfl ((ix_ref hS).trans rfl)
  have t : drT [some (.ref n), some (.int m), none] S = .ok (decide (0 < a)) S := asT_ok (op_ok (i0 _) rfl gt_ok)
  by_cases ha : 0 < a
  · refine ⟨a.fmod m, .lst [.int (a.fdiv m), .int b], fn_rt ?_, (fmod_bd hm).1, (fmod_bd hm).2, ⟨_, _, set_get hn, b0, b1⟩⟩
    show dwB [some (.ref n), some (.int m), none] S = _
    refine seq_rt ((if_t (t.trans (by rw [decide_eq_true ha]))).trans ?_)
    refine (seq_nx (asgV_ok (op_ok (ca1_ok (f := Bl.int.op) (i0 _) (z := .int a) rfl) rfl (mod_ok (by omega))))).trans ?_
    refine (seq_nx (asg_ok (op_ok (i0 _) rfl (div_ok (by omega) mb)) (sub_set (j := 0) hS rfl rfl))).trans ?_
    rfl
  · have k1 : (b * 48271).fmod 2147483647 < 2147483647 ∧ 0 ≤ (b * 48271).fmod 2147483647 := ⟨(fmod_bd (by decide)).2, (fmod_bd (by decide)).1⟩
    refine ⟨((((((b * 48271).fmod 2147483647) * ((b * 48271).fmod 2147483647)).fmod 2147483629).fdiv 64)).fmod m, .lst [.int a, .int ((b * 48271).fmod 2147483647)], fn_rt ?_, (fmod_bd hm).1, (fmod_bd hm).2, ⟨_, _, set_get hn, k1.2, k1.1⟩⟩
    show dwB [some (.ref n), some (.int m), none] S = _
    refine (seq_nx ((if_f (t.trans (by rw [decide_eq_false ha]))).trans rfl)).trans ?_
    refine (seq_nx (asg_ok (op_ok (ca1_ok (f := Bl.int.op) (op_ok i1 rfl (mul_ok (small190 b0 (by omega)) (by decide))) (z := .int (b * 48271)) rfl) rfl (mod_ok (by decide))) (sub_set (j := 1) hS rfl rfl))).trans ?_
    have j1 : eOp oIx (eVar 0) (eC (.int 1)) [some (.ref n), some (.int m), none] (S.set n (some (.lst [.int a, .int ((b * 48271).fmod 2147483647)]))) = .ok (.int ((b * 48271).fmod 2147483647)) (S.set n (some (.lst [.int a, .int ((b * 48271).fmod 2147483647)]))) :=
      op_ok (x := .ref n) (y := .int 1) rfl rfl ((ix_ref (set_get hn)).trans rfl)
    have q := small190 k1.2 (by omega)
    exact ret_ok (op_ok (ca1_ok (f := Bl.int.op) (op_ok (op_ok (ca1_ok (f := Bl.int.op) (op_ok j1 j1 (mul_ok q q)) (z := .int _) rfl) rfl (mod_ok (by decide))) rfl (div_ok (by decide) (by decide))) (z := .int _) rfl) rfl (mod_ok (by omega)))
theorem pow18 {S : Store} : oPow S (.int 10) (.int 18) = some (.int 1000000000000000000) := by rfl
theorem source_ok {S : Store} {ns : List Int} {k : Nat} (hk : k ≤ 1000) : ∃ c, C_source [.frz ns, .int (k : Int)] S = .ok (.ref S.length) (S ++ [some c]) ∧ SrcAt (S ++ [some c]) S.length := by
  have last : ∀ c : Option Cell, (S ++ [c])[S.length]? = some c := fun c => by
    rw [List.getElem?_append_right (Nat.le_refl _), Nat.sub_self]
    rfl
  have fin : ∀ cell : Int, 0 ≤ cell → ∃ c, srcE [some (.frz ns), some (.int (k : Int)), some (.int cell)] S = .ok (.rt (.ref S.length)) (S ++ [some c]) ∧ SrcAt (S ++ [some c]) S.length := by
    intro cell h0
    have bd : ∀ z : Int, 0 ≤ 1 + z.fmod 2147483646 ∧ 1 + z.fmod 2147483646 < 2147483647 := fun z => by
      have := fmod_bd (a := z) (m := 2147483646) (by decide)
      omega
    have t : srcT [some (.frz ns), some (.int (k : Int)), some (.int cell)] S = .ok (decide (cell < 1000000000000000000)) S := asT_ok (op_ok rfl (op_ok rfl rfl pow18) rfl)
    by_cases hc : cell < 1000000000000000000
    · refine ⟨.lst [.int 0, .int (1 + (cell * 7919 + 104729 * (k : Int)).fmod 2147483646)], ?_, ⟨_, _, last _, bd _⟩⟩
      refine seq_rt ((if_t (t.trans (by rw [decide_eq_true hc]))).trans ?_)
      have w1 : cell.natAbs < 2 ^ 190 := by
        have : (1000000000000000000 : Nat) ≤ 2 ^ 190 := by decide +kernel
        omega
      have w2 : ((k : Int)).natAbs < 2 ^ 190 := by
        have : (1001 : Nat) ≤ 2 ^ 190 := by decide +kernel
        omega
      have e : srcL [some (.frz ns), some (.int (k : Int)), some (.int cell)] S = .ok (.int (1 + (cell * 7919 + 104729 * (k : Int)).fmod 2147483646)) S :=
        op_ok rfl (op_ok (ca1_ok (f := Bl.int.op) (op_ok (op_ok rfl rfl (mul_ok w1 (by decide))) (op_ok rfl rfl (mul_ok (by decide) w2)) rfl) (z := .int _) rfl) rfl (mod_ok (by decide))) rfl
      refine ret_ok ?_
      show ((((srcL [some (.frz ns), some (.int (k : Int)), some (.int cell)] S).bind fun x S1 => (aNil [some (.frz ns), some (.int (k : Int)), some (.int cell)] S1).bind fun xs S2 => R.ok (x :: xs) S2).bind fun xs S2 => R.ok (D.int 0 :: xs) S2).bind fun xs S1 => if xs.length ≤ 1000 then R.ok (D.ref S1.length) (S1 ++ [some (.lst xs)]) else .no) = _
      rw [e]
      rfl
    · refine ⟨.lst [.int cell, .int (1 + (cell + (k : Int)).fmod 2147483646)], ?_, ⟨_, _, last _, bd _⟩⟩
      refine (seq_nx ((if_f (t.trans (by rw [decide_eq_false hc]))).trans rfl)).trans ?_
      have e : srcH [some (.frz ns), some (.int (k : Int)), some (.int cell)] S = .ok (.int (1 + (cell + (k : Int)).fmod 2147483646)) S :=
        op_ok rfl (op_ok (ca1_ok (f := Bl.int.op) (op_ok rfl rfl rfl) (z := .int _) rfl) rfl (mod_ok (by decide))) rfl
      refine ret_ok ?_
      show ((((srcH [some (.frz ns), some (.int (k : Int)), some (.int cell)] S).bind fun x S1 => (aNil [some (.frz ns), some (.int (k : Int)), some (.int cell)] S1).bind fun xs S2 => R.ok (x :: xs) S2).bind fun xs S2 => R.ok (D.int cell :: xs) S2).bind fun xs S1 => if xs.length ≤ 1000 then R.ok (D.ref S1.length) (S1 ++ [some (.lst xs)]) else .no) = _
      rw [e]
      rfl
  have q : srcQ [some (.frz ns), some (.int (k : Int)), some (.int 0)] S = .ok (decide ((k : Int) < (ns.length : Int))) S := asT_ok (op_ok rfl (ca1_ok (f := Bl.len.op) rfl (z := .int ns.length) rfl) rfl)
  by_cases hl : (k : Int) < (ns.length : Int)
  · have hl' : k < ns.length := by omega
    have hg : ns[k]? = some ns[k] := List.getElem?_eq_getElem hl'
    obtain ⟨c, e, s⟩ := fin (if ns[k] < 0 then -ns[k] else ns[k]) (by split <;> omega)
    refine ⟨c, fn_rt ?_, s⟩
    show srcB [some (.frz ns), some (.int (k : Int)), none] S = _
    refine (seq_nx (asgV_ok rfl)).trans ((seq_nx ((if_t (q.trans (by rw [decide_eq_true hl]))).trans (asgV_ok (x := .int (if ns[k] < 0 then -ns[k] else ns[k])) ?_))).trans e)
    refine ca1_ok (f := Bl.abs.op) (ca1_ok (f := Bl.int.op) (op_ok (x := .frz ns) (y := .int (k : Int)) (z := .int ns[k]) rfl rfl ?_) (z := .int ns[k]) rfl) rfl
    show (match atI ns (k : Int) with
      | some n => some (D.int n)
      | none => none) = _
    rw [show atI ns (k : Int) = some ns[k] from atI_nat hg]
  · obtain ⟨c, e, s⟩ := fin 0 (by decide)
    refine ⟨c, fn_rt ?_, s⟩
    show srcB [some (.frz ns), some (.int (k : Int)), none] S = _
    exact (seq_nx (asgV_ok rfl)).trans ((seq_nx ((if_f (q.trans (by rw [decide_eq_false hl]))).trans rfl)).trans e)
end PL

set_option Elab.async false
set_option linter.all false
set_option maxRecDepth 100000
set_option maxHeartbeats 4000000
/-! a generator's for -/
namespace PLO
open PySem PySem.Spec PyProof.Rows L2 GenW
section
variable {M : Model} {A : Around} {R : GenEnd} {Y : Protocol} {n : Nat} {s₀ : Shared} {c : Code} {fs : List Frame} {s : Shared} {env : Env} {K : Flow → Sem PySem.Fin} {J : Value → Sem PySem.Fin} {gd : Bool → Bool} {lv : List Value → List Value}
theorem seg_runOwn {c' : Code}
    (h : ∀ p, Seg M A R Y n s₀ c' (M.den c') (.ret (fun r => ((match r with | .ok f => (.pure f : Sem Flow) | .error e => .raise e).onRaise (cameBack env)).wrap K J gd lv) none (gd false) (lv []) c p [] :: fs) s) :
    Seg M A R Y n s₀ c ((runOwn c' env).wrap K J gd lv) fs s := seg_call h
end
/-- the code that a loop's exception runs -/
abbrev offJ (env : Env) : Value → Sem PySem.Fin := fun e => (do noteFrame e env; theTreesLotGoes e : Sem Unit).wrap (fun _ => .raise e) .raise id id
section
variable {prog : Program} {w : World} {A : Around} {R : GenEnd} {Y : Protocol} {n : Nat} {s₀ : Shared} {fs : List Frame} {s : Shared} {env : Env}
theorem seg_forLoop {tg : Expr} {it : Value} {body : List Stmt}
    (h : wpAny (model prog w) (A.over (.forLoop tg it body [] env) fs) (pyNext it) (fun r s1 => match r with
      | none => Seg (model prog w) A R Y n s₀ (.block [] env) (.pure (.done .next)) fs s1
      | some v => wpAny (model prog w) (A.over (.forLoop tg it body [] env) fs) (letOwnedTupleGo tg it v) (fun _ s2 =>
          wpAny (model prog w) (A.over (.forLoop tg it body [] env) fs) (assign tg env v) (fun _ s3 =>
            Seg (model prog w) A R Y n s₀ (.forLoop tg it body [] env) ((execs body env).wrap (fun f => match f with
              | .next | .cont => .pure (.again (.forLoop tg it body [] env))
              | .brk => .pure (.done .next)
              | .ret v => .pure (.done (.ret v))) (offJ env) id id) fs s3)
            (fun x s' => Seg (model prog w) A R Y n s₀ (.forLoop tg it body [] env) (offJ env x) fs s') s2)
          (fun x s' => Seg (model prog w) A R Y n s₀ (.forLoop tg it body [] env) (offJ env x) fs s') s1)
      (fun x s' => Seg (model prog w) A R Y n s₀ (.forLoop tg it body [] env) (offJ env x) fs s') s) :
    Seg (model prog w) A R Y n s₀ (.forLoop tg it body [] env) ((model prog w).den (.forLoop tg it body [] env)) fs s := by
  show Seg _ A R Y n s₀ _ ((forTurn tg it body [] env).onRaise (fun x => do noteFrame x env; theTreesLotGoes x)) fs s
  have off : ∀ x : Value, ((do noteFrame x env; theTreesLotGoes x : Sem Unit).bind fun _ => (Sem.raise x : Sem PySem.Fin)) = offJ env x := fun x => by rw [Sem.bind_eq_wrap]
  rw [Sem.onRaise_eq_wrap, Sem.wrap_congr _ _ _ (K' := .pure) (H' := offJ env) (fun _ => rfl) off]
  unfold forTurn
  refine seg_bind_wrap (wpAny_standAt (seg_bind_wrap (wpAny_onRaise (wpAny_mono h (fun r s1 h1 => ?_) fun x s1 h1 => wpAny_standAt h1))))
  cases r with
  | none =>
    show Seg _ A R Y n s₀ _ (.pure (.again (.block [] env))) fs s1
    exact seg_again rfl h1
  | some v =>
    refine seg_bind_wrap (wpAny_mono h1 (fun _ s2 h2 => ?_) fun _ _ z => z)
    refine seg_bind_wrap (wpAny_mono h2 (fun _ s3 h3 => ?_) fun _ _ z => z)
    rw [Sem.bind_eq_wrap', Sem.wrap_wrap]
    refine Eq.mpr (congrArg (fun t => Seg (model prog w) A R Y n s₀ (.forLoop tg it body [] env) t fs s3) (Sem.wrap_congr (execs body env) _ _ (fun f => ?_) (fun e => ?_))) h3
    · cases f <;> rfl
    · rfl
end
section
variable {X : Cx}
/-- for, in a generator -/
def tGFor (wi : TI) (g : TG) (tb : TGn) : TGn := fun D ys σ H => wi σ H fun J H1 => ∃ W : Nat → Nat → List V → L2.St → Hp → Prop, (∃ m, W 0 m ys σ H1) ∧ ∀ i m ys σ H, W i m ys σ H →
  (J.stop i H ∧ D.nx ys σ H) ∨ (J.go i H ∧ ∃ N : List V → L2.St → Hp → Prop, (∀ ys' σ' H', N ys' σ' H' → ∃ m', m' < m ∧ W (i + 1) m' ys' σ' H') ∧ ∀ x H', J.yld i H x H' → g x σ H' fun σ2 H2 => tb { D with nx := N, ct := N, bk := D.nx } ys σ2 H2)
theorem gs_for {tg iter : Expr} {body : List Stmt} {wi : TI} {g : TG} {tb : TGn} {pos : Pos} (hp : PassesOwn (model X.prog X.w) X.A X.env X.xe) (hc : X.calm = true) (hi : PI X tg iter wi) (hg : PG X tg g) (hb : GSs X body tb)
    (hs : ∀ x, foldedSetIterable iter X.env x = pure x := by intro _; rfl) : GS X (.For tg iter body [] pos) (tGFor wi g tb) := by
  refine ⟨fun A S ip R n ys s₀ c fs K J gd lv s σ H D gc hn k hI ht => ?_⟩
  obtain ⟨acc, cc, r, I⟩ := hI
  rw [exec_For]
  refine seg_bind_wrap (wpAny_standAt (seg_bind_wrap ?_))
  rw [gc.over]
  refine wpAny_mono (hi.run _ s σ H _ I ht) (fun v s1 h1 => ?_) fun x s' hx => k.exc n s₀ x s' hx
  refine seg_bind_wrap (wpAny_of_eq (hs v) (seg_bind_wrap (wpAny_standAt (seg_bind_wrap (wpAny_holding ?_)))))
  rw [gc.over]
  refine wpAny_mono h1 (fun itv s2 h2 => ?_) fun x s' hx => k.exc n s₀ x s' hx
  obtain ⟨it, fp, tn, Jt, H2, e, I2, T, st2, f2, W, ⟨m0, w0⟩, turn⟩ := h2
  subst e
  refine seg_runOwn fun p => ?_
  have gl := fun (kk : Result → Sem PySem.Fin) => gc_loop (k := kk) (c' := .forLoop tg (.ref it) body [] X.env) (l := lv []) (kp := []) (p := p) gc rfl rfl
  have SnF : ∀ b ∈ fp, b ≠ S := fun b hb z => (f2 b hb).2.2.2.2.2 (S, lstObj acc cc) (List.mem_append_right _ List.mem_cons_self) z.symm
  have stat : ∀ {H' : Hp} {acc' : Array Value} {c' : Nat}, (∀ b ∈ fp, H' b = none) → ∀ b ∈ fp, FpOk X ((S, lstObj acc' c') :: ip) H' b := fun hn b hb => by
    obtain ⟨f0, f1, f2', f3, f4, f5⟩ := f2 b hb
    refine ⟨hn b hb, f1, f2', f3, f4, fun q hq => ?_⟩
    rcases List.mem_append.mp hq with z | z
    · exact f5 q (List.mem_append_left _ z)
    · rcases List.mem_cons.mp z with z | z
      · rw [z]; exact f5 (S, lstObj acc cc) (List.mem_append_right _ List.mem_cons_self)
      · exact f5 q (List.mem_append_right _ (List.mem_cons_of_mem _ z))
  have loop : ∀ (m i n : Nat) (ys : List V) (s₀ s : Shared) (σ : L2.St) (H : Hp), n + ys.length = sizeLine → W i m ys σ H → GI X S ip ys σ H s → tn i s.heap → (∀ b ∈ fp, H b = none) →
      Seg (model X.prog X.w) A R (GY X S) n s₀ (.forLoop tg (.ref it) body [] X.env) ((model X.prog X.w).den (.forLoop tg (.ref it) body [] X.env))
        (.ret (fun r => ((match r with | .ok f => (.pure f : Sem Flow) | .error e => .raise e).onRaise (cameBack X.env)).wrap K J gd lv) none (gd false) (lv []) c p [] :: fs) s := by
    intro m
    induction m using Nat.strongRecOn with
    | ind m ih =>
      intro i n ys s₀ s σ H hn w hI hst hfr
      have ee : ∀ (n : Nat) (s₀ : Shared) (x : Value) (s' : Shared), X.xe x s' → Seg (model X.prog X.w) A R (GY X S) n s₀ (.forLoop tg (.ref it) body [] X.env) (offJ X.env x)
          (.ret (fun r => ((match r with | .ok f => (.pure f : Sem Flow) | .error e => .raise e).onRaise (cameBack X.env)).wrap K J gd lv) none (gd false) (lv []) c p [] :: fs) s' := fun n s₀ x s' hx => by
        refine seg_wrap ?_
        rw [(gl _).over]
        refine wpAny_bind (wpAny_mono (hp x s' hx) (fun _ s'' hcb => wpAny_theTreesLotGoes ?_) fun y s'' hcb => ?_)
        · exact seg_leaf (.error x) (seg_cameBack gc k hcb)
        · exact seg_leaf (.error y) (seg_cameBack gc k hcb)
      refine seg_forLoop ?_
      rw [(gl _).over]
      obtain ⟨acc, cc, r, I⟩ := hI
      rcases turn i m ys σ H w with ⟨stop, qn⟩ | ⟨go, N, hN, step⟩
      · refine wpAny_mono (T.done X rfl rfl rfl hc i _ s σ H X.xe I (stat hfr) hst stop) (fun r1 s4 ⟨hr, I4⟩ => ?_) fun x s' hx => ee n s₀ x s' hx
        subst hr
        exact seg_leaf (.ok .next) (k.ok n ys s₀ s4 .next hn ⟨σ, H, ⟨acc, cc, r, I4⟩, qn⟩)
      · refine wpAny_mono (T.item X rfl rfl rfl hc i _ s σ H X.xe I (stat hfr) hst go) (fun r1 s4 ⟨u, hr, h4⟩ => ?_) fun x s' hx => ee n s₀ x s' hx
        subst hr
        refine wpAny_mono h4 (fun _ s5 ⟨x, H5, I5, r5, y5, st5, fr5⟩ => ?_) fun x s' hx => ee n s₀ x s' hx
        have I5' : Inv X (((S, lstObj acc cc) :: ip) ++ pinsAt fp s5.heap) σ H5 s5 := I5.pinned (stat fr5) (T.obj _ _ st5)
        refine wpAny_mono (hg.run _ s5 σ H5 x u _ I5' r5 (step x H5 y5)) (fun _ s6 ⟨σ6, H6, I6, q6⟩ => ?_) fun x s' hx => ee n s₀ x s' hx
        have gb : GC X S (ip ++ pinsAt fp s5.heap) A (.forLoop tg (.ref it) body [] X.env) (.ret (fun r => ((match r with | .ok f => (.pure f : Sem Flow) | .error e => .raise e).onRaise (cameBack X.env)).wrap K J gd lv) none (gd false) (lv []) c p [] :: fs) id := by
          obtain ⟨a1, a2, a3, a4, a5, a6, a7⟩ := gl (fun r => ((match r with | .ok f => (.pure f : Sem Flow) | .error e => .raise e).onRaise (cameBack X.env)).wrap K J gd lv)
          refine ⟨a1, fun q hq => ?_, a3, a4, a5, a6, a7⟩
          rcases List.mem_append.mp hq with z | z
          · exact a2 q z
          · exact SnF q.1 (of_pinsAt z).1
        have drop : ∀ {ys : List V} {σ : L2.St} {H : Hp} {s : Shared}, GI X S (ip ++ pinsAt fp s5.heap) ys σ H s → GI X S ip ys σ H s := fun {ys σ H s} ⟨a, b, r, I⟩ => ⟨a, b, r, Inv.unpinned (pl := pinsAt fp s5.heap) (by rw [List.cons_append]; exact I)⟩
        have pinned : ∀ {ys : List V} {σ : L2.St} {H : Hp} {s : Shared}, GI X S (ip ++ pinsAt fp s5.heap) ys σ H s → ∀ q ∈ pinsAt fp s5.heap, s.heap.get? q.1 = some q.2 ∧ H q.1 = none := fun {ys σ H s} ⟨a, b, r, I⟩ q hq =>
          let z := I.pin q (List.mem_append_right _ (List.mem_cons_of_mem _ (List.mem_append_right _ hq)))
          ⟨z.1, z.2.1⟩
        have again : ∀ {n' : Nat} {s₀' : Shared} {ys7 : List V} {σ7 : L2.St} {H7 : Hp} {s7 : Shared}, n' + ys7.length = sizeLine → GI X S (ip ++ pinsAt fp s5.heap) ys7 σ7 H7 s7 → N ys7 σ7 H7 →
            Seg (model X.prog X.w) A R (GY X S) n' s₀' (.forLoop tg (.ref it) body [] X.env) (.pure (.again (.forLoop tg (.ref it) body [] X.env)))
              (.ret (fun r => ((match r with | .ok f => (.pure f : Sem Flow) | .error e => .raise e).onRaise (cameBack X.env)).wrap K J gd lv) none (gd false) (lv []) c p [] :: fs) s7 := fun {n' s₀' ys7 σ7 H7 s7} hn7 I7 n7 => by
          obtain ⟨m', hm, w7⟩ := hN ys7 σ7 H7 n7
          refine seg_again rfl (ih m' hm (i + 1) n' ys7 s₀' s7 σ7 H7 hn7 w7 (drop I7) (T.keep _ _ _ st5 fun b hb o e => (pinned I7 (b, o) (mem_pinsAt hb e)).1) fun b hb => ?_)
          obtain ⟨o, e, d⟩ := T.obj _ _ st5 b hb
          exact (pinned I7 (b, o) (mem_pinsAt hb e)).2
        refine hb.run A S (ip ++ pinsAt fp s5.heap) R n ys s₀ _ _ _ _ id id s6 σ6 H6 { D with nx := N, ct := N, bk := D.nx } gb hn ⟨fun n' ys' s₀' s7 f hn' hs => ?_, fun n' s₀' x s7 hx => ee n' s₀' x s7 hx⟩ ⟨acc, cc, r, by rw [List.cons_append] at I6; exact I6⟩ q6
        cases f with
        | next => obtain ⟨σ7, H7, I7, n7⟩ := hs; exact again hn' I7 n7
        | cont => obtain ⟨σ7, H7, I7, n7⟩ := hs; exact again hn' I7 n7
        | brk =>
          obtain ⟨σ7, H7, I7, q7⟩ := hs
          exact seg_leaf (.ok .next) (k.ok n' ys' s₀' s7 .next hn' ⟨σ7, H7, drop I7, q7⟩)
        | ret v =>
          obtain ⟨x7, σ7, H7, I7, r7, q7⟩ := hs
          exact seg_leaf (.ok (.ret v)) (k.ok n' ys' s₀' s7 (.ret v) hn' ⟨x7, σ7, H7, drop I7, r7, q7⟩)
  exact loop m0 0 n ys s₀ s2 σ H2 hn w0 ⟨acc, cc, r, I2⟩ st2 fun b hb => (f2 b hb).1
end
end PLO

set_option Elab.async false
set_option linter.all false
set_option maxRecDepth 100000
set_option maxHeartbeats 4000000
/-! generators of own classes, taken whole by list(..) -/
namespace PL
open PySem PySem.Spec PyProof.Rows L2
variable [B : Bs]
omit [B : Bs] in
/-- what is out, and the slots -/
abbrev Gsv := List D → Rho → Store → R (List D × Rho)
section
variable (K : PySem.W.Frag)
def QGn (as : List Addr) (H0 H : Hp) (Q : List V → L2.St → Hp → Prop) : List D × Rho → Store → Prop := fun p S' => ∀ ys σ' as' H0' H', Nx as H0 H as' H0' H' → Sr K as' H0' H' S' → RpA K as' H0' ys p.1 → Er K as' H0' σ' p.2 → Q ys σ' H'
def SaysGn (t : TGn) (f : Gsv) : Prop := ∀ as H0 H ρ S σ ys ds (D : GEnds), Sr K as H0 H S → Er K as H0 σ ρ → RpA K as H0 ys ds → (f ds ρ S).sat (QGn K as H0 H D.nx) NoX → t D ys σ H
end
theorem QGn.next {K : PySem.W.Frag} {as as' : List Addr} {H0 H0' H H' : Hp} {Q : List V → L2.St → Hp → Prop} {p : List D × Rho} {S : Store} (n : Nx as H0 H as' H0' H') (q : QGn K as H0 H Q p S) : QGn K as' H0' H' Q p S := fun ys σ as2 H02 H2 n2 => q ys σ as2 H02 H2 (n.trans n2)
def SGn (g : G) (og sc : Scope) (s : Stmt) (f : Gsv) : Prop := ∃ t, (∀ X, Cxt g og sc X → GS X s t) ∧ SaysGn g.K t f
def SGns (g : G) (og sc : Scope) (s : List Stmt) (f : Gsv) : Prop := ∃ t, (∀ X, Cxt g og sc X → GSs X s t) ∧ SaysGn g.K t f
section
variable {g : G} {og sc : Scope}
omit [B : Bs] in
def gPlain (s : Sv) : Gsv := fun ds ρ S => (s ρ S).bind fun f S1 => match f with
  | .nx ρ1 => .ok (ds, ρ1) S1
  | _ => .no
theorem sgn_plain {st : Stmt} {s : Sv} (h : SS g og sc st s) : SGn g og sc st (gPlain s) := by
  obtain ⟨t, p, q⟩ := h
  refine ⟨tPlain t, fun X c => gs_ps (p X c), fun as H0 H ρ S σ ys ds D r e py hh => ?_⟩
  refine q as H0 H ρ S σ (D.at ys) r e (R.sat_mono (R.sat_bind hh) (fun f S1 h1 => ?_) fun _ _ _ _ z => z)
  cases f with
  | nx ρ1 =>
    intro σ' as' H0' H' n' r' e'
    exact h1 ys σ' as' H0' H' n' r' (py.mono n'.h0 n'.pre) e'
  | bk _ => exact h1.elim
  | ct _ => exact h1.elim
  | rt _ => exact h1.elim
omit [B : Bs] in
def gYield (e : Ev) : Gsv := fun ds ρ S => if ds.length < 1000 then (e ρ S).bind fun x S1 => .ok (ds ++ [x], ρ) S1 else .no
theorem sgn_yield {e : Expr} {a : Ev} {yp pos : Pos} (hco : sc.isCoroutine = false) (ha : SE g og sc e a) : SGn g og sc (.Expr (.Yield (some e) yp) pos) (gYield a) := by
  obtain ⟨t, p, q⟩ := ha
  refine ⟨tGYield t, fun X c => gs_yield (p X c) (by rw [c.scq]; exact hco) (by unfold interactive; rw [c.scq, c.kind]; rfl), fun as H0 H ρ S σ ys ds D r e py hh => ?_⟩
  unfold gYield at hh
  split at hh
  · rename_i hl
    refine ⟨by rw [py.length]; exact Nat.lt_of_lt_of_le hl (le_line (Nat.le_refl _)), ?_⟩
    refine q as H0 H ρ S σ _ r e (R.sat_mono (R.sat_bind hh) (fun x S1 h1 => ?_) fun _ _ _ _ z => z)
    intro v as' H0' H' n' r' p'
    exact h1 _ σ as' H0' H' n' r' ((py.mono n'.h0 n'.pre).append (.cons p' .nil)) (e.mono n'.h0 n'.pre)
  · exact hh.elim
omit [B : Bs] in
def gNil : Gsv := fun ds ρ S => .ok (ds, ρ) S
theorem sgns_nil : SGns g og sc [] gNil := ⟨tG0, fun X c => gss_nil, fun as H0 H ρ S σ ys ds D r e py hh => hh ys σ as H0 H Nx.refl r py e⟩
omit [B : Bs] in
def gSeq (a b : Gsv) : Gsv := fun ds ρ S => (a ds ρ S).bind fun p S1 => b p.1 p.2 S1
theorem sgns_cons {s : Stmt} {ss : List Stmt} {a b : Gsv} (ha : SGn g og sc s a) (hb : SGns g og sc ss b) : SGns g og sc (s :: ss) (gSeq a b) := by
  obtain ⟨t, p, q⟩ := ha
  obtain ⟨u, p', q'⟩ := hb
  refine ⟨tGThen t u, fun X c => gss_cons (p X c) (p' X c), fun as H0 H ρ S σ ys ds D r e py hh => ?_⟩
  refine q as H0 H ρ S σ ys ds _ r e py (R.sat_mono (R.sat_bind hh) (fun z S1 h1 => ?_) fun _ _ _ _ z => z)
  intro ys' σ' as' H0' H' n' r' py' e'
  exact q' as' H0' H' z.2 S1 σ' ys' z.1 D r' e' py' (R.sat_mono h1 (fun _ _ w => QGn.next n' w) fun _ _ _ _ z => z)
omit [B : Bs] in
def gForL (body : D → List D → Rho → Store → R (List D × Rho)) : List D → List D → Rho → Store → R (List D × Rho)
  | [], ds, ρ, S => .ok (ds, ρ) S
  | x :: xs, ds, ρ, S => (body x ds ρ S).bind fun p S1 => gForL body xs p.1 p.2 S1
omit [B : Bs] in
def gBody (tg : Gv) (body : Gsv) : D → List D → Rho → Store → R (List D × Rho) := fun d ds ρ S => (tg d ρ S).bind fun ρ1 S1 => body ds ρ1 S1
omit [B : Bs] in
def gFor (it : Av) (tg : Gv) (body : Gsv) : Gsv := fun ds ρ S => (it ρ S).bind fun xs S1 => gForL (gBody tg body) xs ds ρ S1
theorem says_gfor {K : PySem.W.Frag} {wi : TI} {gt : TG} {tb : TGn} {it : Av} {tg : Gv} {body : Gsv} (hi : SaysI K wi it) (hg : SaysG K gt tg) (hb : SaysGn K tb body) : SaysGn K (PLO.tGFor wi gt tb) (gFor it tg body) := by
  intro as H0 H ρ S σ ys0 ds0 D r e py h
  refine hi as H0 H ρ S σ _ r e (R.sat_mono (R.sat_bind h) (fun xs S1 h1 => ?_) fun _ _ _ _ z => z)
  intro J as1 H01 H1 n1 r1 dl
  have h1 := R.sat_mono h1 (fun _ _ q => QGn.next n1 q) fun _ _ _ _ z => z
  refine ⟨fun i m ys' σ' H' => m = xs.length - i ∧ i ≤ xs.length ∧ ∃ as' H0' ρ' S' ds', Nx as1 H01 H1 as' H0' H' ∧ Sr K as' H0' H' S' ∧ Er K as' H0' σ' ρ' ∧ RpA K as' H0' ys' ds' ∧ (gForL (gBody tg body) (xs.drop i) ds' ρ' S').sat (QGn K as' H0' H' D.nx) NoX,
    ⟨xs.length, by simp, Nat.zero_le _, as1, H01, ρ, S1, ds0, Nx.refl, r1, e.mono n1.h0 n1.pre, py.mono n1.h0 n1.pre, h1⟩, ?_⟩
  rintro i m ys' σ' H' ⟨rfl, hi, as', H0', ρ', S', ds', n', r', e', py', h'⟩
  obtain ⟨d1, d2⟩ := dl i as' H0' H' S' n'.nh r'
  by_cases hlt : i < xs.length
  · have hd : xs[i]? = some xs[i] := List.getElem?_eq_getElem hlt
    obtain ⟨g1, g2⟩ := d1 _ hd
    rw [List.drop_eq_getElem_cons hlt] at h'
    refine .inr ⟨g1, fun ys2 σ2 H2 => ∃ as2 H02 ρ2 S2 ds2, Nx as1 H01 H1 as2 H02 H2 ∧ Sr K as2 H02 H2 S2 ∧ Er K as2 H02 σ2 ρ2 ∧ RpA K as2 H02 ys2 ds2 ∧ (gForL (gBody tg body) (xs.drop (i + 1)) ds2 ρ2 S2).sat (QGn K as2 H02 H2 D.nx) NoX,
      fun ys2 σ2 H2 q => ⟨xs.length - (i + 1), by omega, rfl, hlt, q⟩, fun x H'' y => ?_⟩
    obtain ⟨H0'', n2, r2, p2⟩ := g2 x H'' y
    have h2 : (gBody tg body xs[i] ds' ρ' S').sat (fun p S1 => R.sat (gForL (gBody tg body) (xs.drop (i + 1)) p.1 p.2 S1) (QGn K as' H0' H' D.nx) NoX) NoX := R.sat_bind h'
    unfold gBody at h2
    refine hg as' H0'' H'' ρ' S' σ' x _ _ r2 (e'.mono n2.h0 n2.pre) p2 (R.sat_mono (R.sat_bind h2) (fun ρ3 S3 h3 => ?_) fun _ _ _ _ z => z)
    intro σ3 as3 H03 H3 n3 r3 e3
    refine hb as3 H03 H3 ρ3 S3 σ3 ys' ds' _ r3 e3 (py'.mono (n2.trans n3).h0 (n2.trans n3).pre) (R.sat_mono h3 (fun p S4 h4 => ?_) fun _ _ _ _ z => z)
    intro ys4 σ4 as4 H04 H4 n4 r4 py4 e4
    exact ⟨as4, H04, p.2, S4, p.1, ((n'.trans n2).trans n3).trans n4, r4, e4, py4, R.sat_mono h4 (fun _ _ q => QGn.next ((n2.trans n3).trans n4) q) fun _ _ _ _ z => z⟩
  · have hn : xs.length ≤ i := by omega
    rw [List.drop_eq_nil_of_le hn] at h'
    exact .inl ⟨d2 (by omega), h' ys' σ' as' H0' H' Nx.refl r' py' e'⟩
theorem sgn_for {et ei : Expr} {sb : List Stmt} {it : Av} {tg : Gv} {body : Gsv} {pos : Pos} (hs : isSetE ei = false) (hi : SI g og sc et ei it) (hg : SG g og sc et tg) (hb : SGns g og sc sb body) : SGn g og sc (.For et ei sb [] pos) (gFor it tg body) := by
  obtain ⟨ti, pi, si⟩ := hi
  obtain ⟨tt, pt, st⟩ := hg
  obtain ⟨tb, pb, sb⟩ := hb
  exact ⟨_, fun X c => PLO.gs_for c.ps c.calm (pi X c) (pt X c) (pb X c) (folded_plain hs), says_gfor si st sb⟩
end

/-! ### from the text -/
omit [B : Bs] in
mutual
def cGn (cf : Cf) : Nat → Scope → Stmt → Option Gsv
  | 0, _, _ => none
  | n + 1, sc, .Expr (.Yield (some e) yp) pos => ap1 gYield (cE cf n false sc sc e)
  | n + 1, sc, .For t e b [] pos => gd (!isSetE e) (ap3 gFor (cI cf n false sc sc t e) (cG cf n false sc sc t) (cGns cf n sc b))
  | n + 1, sc, s => ap1 gPlain (cS cf n false sc s)
def cGns (cf : Cf) : Nat → Scope → List Stmt → Option Gsv
  | 0, _, _ => none
  | n + 1, sc, [] => some gNil
  | n + 1, sc, s :: ss => ap2 gSeq (cGn cf n sc s) (cGns cf n sc ss)
end
section
variable {g : G} {cf : Cf}
theorem gns_ok (ok : CfOk g cf) (hm : g.mr = false) : ∀ (n : Nat), (∀ sc s f, sc.isCoroutine = false → cGn cf n sc s = some f → SGn g sc sc s f) ∧ ∀ sc s f, sc.isCoroutine = false → cGns cf n sc s = some f → SGns g sc sc s f
  | 0 => ⟨fun sc s f _ h => (by unfold cGn at h; cases h), fun sc s f _ h => (by unfold cGns at h; cases h)⟩
  | n + 1 => by
    have A := all_ok n g ok
    have S := (allS_ok ok n).S
    obtain ⟨i1, i2⟩ := gns_ok ok hm n
    refine ⟨fun sc s f hco h => ?_, fun sc s f hco h => ?_⟩
    · unfold cGn at h
      split at h
      · cases ‹_ = 0›
      · rename_i heq
        cases heq
        obtain ⟨a, h1, rfl⟩ := ap1_some h
        exact sgn_yield hco (A.E _ _ _ _ (by rw [hm]; exact h1))
      · rename_i heq
        cases heq
        obtain ⟨h0, h⟩ := gd_some h
        obtain ⟨a, b, c, h1, h2, h3, rfl⟩ := ap3_some h
        exact sgn_for (bnot h0) (A.I _ _ _ _ _ (by rw [hm]; exact h1)) (A.Gg _ _ _ _ (by rw [hm]; exact h2)) (i2 _ _ _ hco h3)
      · rename_i heq _ _
        cases heq
        obtain ⟨a, h1, rfl⟩ := ap1_some h
        exact sgn_plain (S _ _ _ (by rw [hm]; exact h1))
    · match s with
      | [] => unfold cGns at h; cases h; exact sgns_nil
      | s :: ss =>
        unfold cGns at h
        obtain ⟨a, b, h1, h2, rfl⟩ := ap2_some h
        exact sgns_cons (i1 _ _ _ hco h1) (i2 _ _ _ hco h2)
end
/-! ### a generator def -/
omit [B : Bs] in
def gfnOfS (m : Nat) (body : Gsv) : FnG := fun ds S => (body [] (ds.map some ++ List.replicate (m - ds.length) none) S).bind fun p S1 => .ok p.1 S1
omit [B : Bs] in
def cGFn (cf : Cf) (n : Nat) (st : Stmt) : Option FnG := ap1 (gfnOfS cf.N.length) (cGns cf n (defScope st) (defBody st))
omit [B : Bs] in
def gscopeB (N ps : List Str) (sc : Scope) : Bool := (match sc.kind with | .function => true | _ => false) && !sc.isCoroutine && sc.isGenerator && nodupS N && eqSs (N.take ps.length) ps && (ps.all fun x => stK (knd sc x)) && (sc.names.all fun y => match y.2 with | .free => false | _ => true)
omit [B : Bs] in
theorem gscopeB_ok {N ps : List Str} {sc : Scope} (h : gscopeB N ps sc = true) : GScope N ps sc := by
  unfold gscopeB at h
  obtain ⟨h, h7⟩ := band h
  obtain ⟨h, h6⟩ := band h
  obtain ⟨h, h5⟩ := band h
  obtain ⟨h, h4⟩ := band h
  obtain ⟨h, h3⟩ := band h
  obtain ⟨h1, h2⟩ := band h
  refine ⟨?_, bnot h2, h3, nodupS_ok h4, eqSs_ok h5, fun x hx => stB_of (st_eq (List.all_eq_true.mp h6 x hx)), fun y hy e => ?_⟩
  · split at h1
    · rename_i q; exact q
    · cases h1
  · have := List.all_eq_true.mp h7 y hy
    rw [e] at this
    cases this
section
variable {P : Program} {w : World} {K : PySem.W.Frag} {mg : Str → Option Value} {base : Heap} {cls : Str → Option Addr} {L : Nat} {cf : Cf} {x ql : Str} {ar : Arguments} {st : Stmt} {f : Addr} {fd : FuncData} {ps : List Str} {F : FnG} {n : Nat}
omit [B : Bs] in
theorem gfn_sound (pf : PfOk P w K mg base cls L cf) (FD : FunD K x ql ar (defBody st) (defScope st) [] [] f fd) (S : GScope cf.N ps (defScope st)) (h : cGFn cf n st = some F) : GFn P w K mg base (L + 1) f fd ps (spG K cls ps.length F) := by
  obtain ⟨bd, hb, rfl⟩ := ap1_some h
  obtain ⟨oc, od, dV, kV, doc, pm, an, cdv, ct, osl, rfl, lk, hcd, hD, _⟩ := FD.ex
  refine gfn_of lk hcd S (fun vs H Q E q => q.1) fun A outer s H vs Q E pn hr hsp => ?_
  obtain ⟨hl, as, H0, S0, ds, r, rp, q⟩ := hsp
  let B' : Bs := bsOf K cls as H0 H E
  have ok := cf_at pf (as := as) (H0 := H0) (H := H) (E := E) hr S.nd false
  obtain ⟨t, pt, stt⟩ := (@gns_ok B' _ _ ok rfl n).2 _ _ _ S.co hb
  have cx := @Cxt.mk B' ⟨P, w, K, mg, base, A.deeper (envOfC ql (defScope st) s.heap.objs.size f cdv), cf.N, L, hr, S.nd, false⟩ (defScope st) (defScope st) (gcxOf P w K mg base cf.N ql (defScope st) f cdv A outer s H E pn) rfl rfl rfl rfl rfl rfl rfl rfl S.kind rfl (fun y hy => ⟨hy, .inl rfl⟩) owns_gcx (fun z => by cases z)
  refine ⟨t, pt _ cx, stt as H0 H _ S0 _ [] [] _ (@Sr.mk B' _ _ _ _ _ r Nx.refl) (start_er rp) .nil ?_⟩
  have q' : (gfnOfS cf.N.length bd ds S0).sat (@QA B' K as H0 H Q) (@NoX B') := q
  unfold gfnOfS at q'
  refine R.sat_mono (R.sat_bind q') (fun p S1 h1 => ?_) fun _ _ _ _ z => z
  intro ys σ' as' H0' H' n' r' py e'
  exact h1 ys as' H0' H' n' r' py
end
section
variable {P : Program} {w : World} {mg : Str → Option Value} {base h : Heap} {cls : Str → Option Addr} {sp : HK.Sp} {glo : List (Str × Int)} {L i j n m : Nat} {x C q : Str} {st : Stmt} {N ps : List Str} {fns : List (Str × Nat × Fn)} {news frz : Places} {fuel : Nat} {o : Own} {F : FnG}
omit [B : Bs] in
theorem gen_of (g : Glob sp h mg glo) (hown : sp.fc[i]? = some (.own C)) (hm : sp.fc[j]? = some (.mth C x)) (hx : sp.df[n]? = some ⟨.mt, C, x, q, st⟩) (S : gscopeB N ps (defScope st) = true)
    (hc : cGFn (mkCf glo N fns news frz fuel o) m st = some F) (hl : ps.length = 1)
    (hb : ∀ (kV doc pm : Value) (an : Option Addr) (cdv ct : Value) (us : List Value), us.length = ps.length → bindArgs (PySem.W.fnOf x q (defArgs st) (defBody st) (defScope st) .none kV doc pm an cdv ct) ⟨us, []⟩ = pure (ps.zip us))
    (hf : ∀ p ∈ fns, Fact P w (HK.K h) mg base cls L p.1 p.2.1 p.2.2) (ho : OwnOk P w (HK.K h) mg base cls L o) : FGn P w (HK.K h) mg base cls (L + 5) C x F := by
  obtain ⟨a, b, c⟩ := HK.own_ok (g.fact hown)
  obtain ⟨m1, m2⟩ := HK.mth_ok (g.fact hm)
  obtain ⟨fd, h2⟩ := g.def_ hx
  have z := gfn_sound (g.pf (news := news) (frz := frz) (fuel := fuel) hf ho) h2 (gscopeB_ok S) hc
  rw [hl] at z
  exact ⟨_, _, fd, ps, L + 1, Nat.le_refl _, a, b, m1, FunD.bindsN h2 hb, z⟩
omit [B : Bs] in
def noG : FnG := fun _ _ => .no
end
end PL

set_option Elab.async false
set_option linter.all false
set_option maxRecDepth 100000
set_option maxHeartbeats 0
namespace Ch29
open PySem PySem.Spec PyProof.Rows L2 PL
def GLO : List (Str × Int) := [("LOW", -12), ("HIGH", 20), ("TABLE", -1), ("LARGEST", 1000000000000000000000000000000), ("LIMIT", 60)]
def N_wall : List Str := ["k"]
def fns_wall : List (Str × Nat × Fn) := []
def o_wall : Own := {}
def cf_wall : Cf := mkCf GLO N_wall fns_wall [] [] 400 o_wall
def F_wall : Fn := (cFn cf_wall 60 true (Hd.top 0)).getD noF
def N_divisor : List Str := ["numbers", "found", "number", "one", "other"]
def fns_divisor : List (Str × Nat × Fn) := []
def o_divisor : Own := {}
def cf_divisor : Cf := mkCf GLO N_divisor fns_divisor [] [] 400 o_divisor
def F_divisor : Fn := (cFn cf_divisor 60 true (Hd.top 19)).getD noF
def N_lowest : List Str := ["top", "below", "part"]
def fns_lowest : List (Str × Nat × Fn) := [("divisor", 1, M_divisor)]
def o_lowest : Own := {}
def cf_lowest : Cf := mkCf GLO N_lowest fns_lowest [] [] 400 o_lowest
def F_lowest : Fn := (cFn cf_lowest 60 true (Hd.top 20)).getD noF
def N_neat : List Str := ["numbers", "part", "number"]
def fns_neat : List (Str × Nat × Fn) := [("divisor", 1, M_divisor)]
def o_neat : Own := {}
def cf_neat : Cf := mkCf GLO N_neat fns_neat [] [] 400 o_neat
def F_neat : Fn := (cFn cf_neat 60 true (Hd.top 21)).getD noF
def N_table_of : List Str := ["lines", "many", "table", "at", "line", "factors", "bound", "slacks", "place"]
def fns_table_of : List (Str × Nat × Fn) := []
def o_table_of : Own := {}
def cf_table_of : Cf := mkCf GLO N_table_of fns_table_of [] [] 400 o_table_of
def F_table_of : Fn := (cFn cf_table_of 60 true (Hd.top 22)).getD noF
def N_cleared : List Str := ["line", "pivot", "at", "one", "other"]
def fns_cleared : List (Str × Nat × Fn) := [("neat", 1, M_neat)]
def o_cleared : Own := {}
def cf_cleared : Cf := mkCf GLO N_cleared fns_cleared [] [] 400 o_cleared
def F_cleared : Fn := (cFn cf_cleared 60 true (Hd.top 23)).getD noF
def N_leaving : List Str := ["table", "basis", "at", "found", "index", "line", "mine", "best"]
def fns_leaving : List (Str × Nat × Fn) := []
def o_leaving : Own := {}
def cf_leaving : Cf := mkCf GLO N_leaving fns_leaving [] [] 400 o_leaving
def F_leaving : Fn := (cFn cf_leaving 60 true (Hd.top 24)).getD noF
def N_numbers_of : List Str := ["table", "basis", "many", "common", "line", "at", "values"]
def fns_numbers_of : List (Str × Nat × Fn) := [("divisor", 1, M_divisor)]
def o_numbers_of : Own := {}
def cf_numbers_of : Cf := mkCf GLO N_numbers_of fns_numbers_of [] [] 400 o_numbers_of
def F_numbers_of : Fn := (cFn cf_numbers_of 60 true (Hd.top 25)).getD noF
def N_greatest : List Str := ["lines", "goal", "watched", "many", "table", "basis", "some", "index", "pivot", "at", "place", "line"]
def fns_greatest : List (Str × Nat × Fn) := [("table_of", 1, F_table_of), ("leaving", 3, F_leaving), ("cleared", 3, M_cleared), ("numbers_of", 3, F_numbers_of)]
def o_greatest : Own := {}
def cf_greatest : Cf := mkCf GLO N_greatest fns_greatest [] [] 400 o_greatest
def F_greatest : Fn := (cFn cf_greatest 60 true (Hd.top 26)).getD noF
def N_solution : List Str := ["rows", "many", "lines", "found", "below", "line", "strict", "factor", "number"]
def fns_solution : List (Str × Nat × Fn) := [("greatest", 3, F_greatest), ("lowest", 2, F_lowest)]
def o_solution : Own := {}
def cf_solution : Cf := mkCf GLO N_solution fns_solution [] [] 400 o_solution
def F_solution : Fn := (cFn cf_solution 60 true (Hd.top 27)).getD noF
def N_greatest_worth : List Str := ["rows", "line", "many", "high", "more", "lines", "goal", "numbers", "below", "top", "number", "factors", "strict", "factor"]
def fns_greatest_worth : List (Str × Nat × Fn) := [("greatest", 3, F_greatest), ("lowest", 2, F_lowest)]
def o_greatest_worth : Own := {}
def cf_greatest_worth : Cf := mkCf GLO N_greatest_worth fns_greatest_worth [] [] 400 o_greatest_worth
def F_greatest_worth : Fn := (cFn cf_greatest_worth 60 true (Hd.top 28)).getD noF
def N_is_number : List Str := ["value", "least", "most"]
def fns_is_number : List (Str × Nat × Fn) := []
def o_is_number : Own := {}
def cf_is_number : Cf := mkCf GLO N_is_number fns_is_number [] [] 400 o_is_number
def F_is_number : Fn := (cFn cf_is_number 60 true (Hd.top 33)).getD noF
def N_is_tuple : List Str := ["value", "least", "most"]
def fns_is_tuple : List (Str × Nat × Fn) := []
def o_is_tuple : Own := {}
def cf_is_tuple : Cf := mkCf GLO N_is_tuple fns_is_tuple [] [] 400 o_is_tuple
def F_is_tuple : Fn := (cFn cf_is_tuple 60 true (Hd.top 34)).getD noF
def N_is_fraction : List Str := ["value", "part"]
def fns_is_fraction : List (Str × Nat × Fn) := [("is_tuple", 3, F_is_tuple), ("divisor", 1, M_divisor)]
def o_is_fraction : Own := {}
def cf_is_fraction : Cf := mkCf GLO N_is_fraction fns_is_fraction [] [] 400 o_is_fraction
def F_is_fraction : Fn := (cFn cf_is_fraction 60 true (Hd.top 35)).getD noF
def N_is_good_house : List Str := ["value", "length"]
def fns_is_good_house : List (Str × Nat × Fn) := [("is_tuple", 3, F_is_tuple), ("is_number", 3, F_is_number)]
def o_is_good_house : Own := {}
def cf_is_good_house : Cf := mkCf GLO N_is_good_house fns_is_good_house [] [] 400 o_is_good_house
def F_is_good_house : Fn := (cFn cf_is_good_house 60 true (Hd.top 36)).getD noF
def N_is_triple : List Str := ["house", "value"]
def fns_is_triple : List (Str × Nat × Fn) := [("is_number", 3, F_is_number), ("is_tuple", 3, F_is_tuple)]
def o_is_triple : Own := {}
def cf_is_triple : Cf := mkCf GLO N_is_triple fns_is_triple [] [] 400 o_is_triple
def F_is_triple : Fn := (cFn cf_is_triple 60 true (Hd.top 37)).getD noF
def N_ends_of : List Str := ["house", "triple"]
def fns_ends_of : List (Str × Nat × Fn) := []
def o_ends_of : Own := {}
def cf_ends_of : Cf := mkCf GLO N_ends_of fns_ends_of [] [] 400 o_ends_of
def F_ends_of : Fn := (cFn cf_ends_of 60 true (Hd.top 38)).getD noF
def N_ascending : List Str := ["values", "found", "value", "at", "one"]
def fns_ascending : List (Str × Nat × Fn) := []
def o_ascending : Own := {}
def cf_ascending : Cf := mkCf GLO N_ascending fns_ascending [] [] 400 o_ascending
def F_ascending : Fn := (cFn cf_ascending 60 true (Hd.top 39)).getD noF
def N_do_overlap : List Str := ["one", "other"]
def fns_do_overlap : List (Str × Nat × Fn) := []
def o_do_overlap : Own := {}
def cf_do_overlap : Cf := mkCf GLO N_do_overlap fns_do_overlap [] [] 400 o_do_overlap
def F_do_overlap : Fn := (cFn cf_do_overlap 60 true (Hd.top 40)).getD noF
def N_on_table : List Str := ["house", "triple"]
def fns_on_table : List (Str × Nat × Fn) := [("do_overlap", 2, F_do_overlap), ("ends_of", 2, F_ends_of)]
def o_on_table : Own := {}
def cf_on_table : Cf := mkCf GLO N_on_table fns_on_table [] [] 400 o_on_table
def F_on_table : Fn := (cFn cf_on_table 60 true (Hd.top 41)).getD noF
def N_held_by : List Str := ["house", "pile", "triple", "ends", "one"]
def fns_held_by : List (Str × Nat × Fn) := [("ends_of", 2, F_ends_of), ("do_overlap", 2, F_do_overlap)]
def o_held_by : Own := {}
def cf_held_by : Cf := mkCf GLO N_held_by fns_held_by [] [] 400 o_held_by
def F_held_by : Fn := (cFn cf_held_by 60 true (Hd.top 42)).getD noF
def N_lies_well : List Str := ["house", "pile", "triple", "ends", "one"]
def fns_lies_well : List (Str × Nat × Fn) := [("ends_of", 2, F_ends_of), ("on_table", 2, F_on_table), ("do_overlap", 2, F_do_overlap), ("held_by", 3, F_held_by)]
def o_lies_well : Own := {}
def cf_lies_well : Cf := mkCf GLO N_lies_well fns_lies_well [] [] 400 o_lies_well
def F_lies_well : Fn := (cFn cf_lies_well 60 true (Hd.top 43)).getD noF
def N_is_good_pile : List Str := ["house", "value", "one", "other"]
def fns_is_good_pile : List (Str × Nat × Fn) := [("is_tuple", 3, F_is_tuple), ("lies_well", 3, F_lies_well), ("is_triple", 2, F_is_triple)]
def o_is_good_pile : Own := {}
def cf_is_good_pile : Cf := mkCf GLO N_is_good_pile fns_is_good_pile [] [] 400 o_is_good_pile
def F_is_good_pile : Fn := (cFn cf_is_good_pile 60 true (Hd.top 44)).getD noF
def N_contacts_of : List Str := ["house", "pile", "found", "triple", "ends", "some", "below", "other", "left", "right", "one"]
def fns_contacts_of : List (Str × Nat × Fn) := [("ends_of", 2, F_ends_of), ("held_by", 3, F_held_by)]
def o_contacts_of : Own := {}
def cf_contacts_of : Cf := mkCf GLO N_contacts_of fns_contacts_of [] [] 400 o_contacts_of
def F_contacts_of : Fn := (cFn cf_contacts_of 60 true (Hd.top 45)).getD noF
def N_are_good_weights : List Str := ["house", "value", "many", "one"]
def fns_are_good_weights : List (Str × Nat × Fn) := [("is_tuple", 3, F_is_tuple), ("is_number", 3, F_is_number)]
def o_are_good_weights : Own := {}
def cf_are_good_weights : Cf := mkCf GLO N_are_good_weights fns_are_good_weights [] [] 400 o_are_good_weights
def F_are_good_weights : Fn := (cFn cf_are_good_weights 60 true (Hd.top 46)).getD noF
def N_is_lot : List Str := ["house", "value", "one", "other"]
def fns_is_lot : List (Str × Nat × Fn) := [("is_tuple", 3, F_is_tuple), ("is_number", 3, F_is_number)]
def o_is_lot : Own := {}
def cf_is_lot : Cf := mkCf GLO N_is_lot fns_is_lot [] [] 400 o_is_lot
def F_is_lot : Fn := (cFn cf_is_lot 60 true (Hd.top 47)).getD noF
def N_are_good_facts : List Str := ["house", "value", "fact"]
def fns_are_good_facts : List (Str × Nat × Fn) := [("is_tuple", 3, F_is_tuple), ("is_lot", 2, F_is_lot)]
def o_are_good_facts : Own := {}
def cf_are_good_facts : Cf := mkCf GLO N_are_good_facts fns_are_good_facts [] [] 400 o_are_good_facts
def F_are_good_facts : Fn := (cFn cf_are_good_facts 60 true (Hd.top 48)).getD noF
def N_triple_of : List Str := ["pile", "plank", "found", "one"]
def fns_triple_of : List (Str × Nat × Fn) := []
def o_triple_of : Own := {}
def cf_triple_of : Cf := mkCf GLO N_triple_of fns_triple_of [] [] 400 o_triple_of
def F_triple_of : Fn := (cFn cf_triple_of 60 true (Hd.top 49)).getD noF
def N_is_bare : List Str := ["house", "pile", "plank", "upper", "below", "left", "right"]
def fns_is_bare : List (Str × Nat × Fn) := [("contacts_of", 2, F_contacts_of)]
def o_is_bare : Own := {}
def cf_is_bare : Cf := mkCf GLO N_is_bare fns_is_bare [] [] 400 o_is_bare
def F_is_bare : Fn := (cFn cf_is_bare 60 true (Hd.top 50)).getD noF
def N_less : List Str := ["pile", "plank", "one"]
def fns_less : List (Str × Nat × Fn) := []
def o_less : Own := {}
def cf_less : Cf := mkCf GLO N_less fns_less [] [] 400 o_less
def F_less : Fn := (cFn cf_less 60 true (Hd.top 51)).getD noF
def N_laid : List Str := ["house", "pile", "plank", "left", "ends", "level", "one", "before"]
def fns_laid : List (Str × Nat × Fn) := [("ends_of", 2, F_ends_of), ("do_overlap", 2, F_do_overlap), ("on_table", 2, F_on_table)]
def o_laid : Own := {}
def cf_laid : Cf := mkCf GLO N_laid fns_laid [] [] 400 o_laid
def F_laid : Fn := (cFn cf_laid 60 true (Hd.top 52)).getD noF
def N_is_step : List Str := ["house", "value"]
def fns_is_step : List (Str × Nat × Fn) := [("is_number", 3, F_is_number), ("is_tuple", 3, F_is_tuple)]
def o_is_step : Own := {}
def cf_is_step : Cf := mkCf GLO N_is_step fns_is_step [] [] 400 o_is_step
def F_is_step : Fn := (cFn cf_is_step 60 true (Hd.top 53)).getD noF
def N_stepped : List Str := ["house", "pile", "step", "triple", "rest", "left"]
def fns_stepped : List (Str × Nat × Fn) := [("triple_of", 2, F_triple_of), ("less", 2, F_less), ("laid", 4, F_laid), ("is_bare", 3, F_is_bare)]
def o_stepped : Own := {}
def cf_stepped : Cf := mkCf GLO N_stepped fns_stepped [] [] 400 o_stepped
def F_stepped : Fn := (cFn cf_stepped 60 true (Hd.top 54)).getD noF
def N_piles_along : List Str := ["house", "script", "pile", "found", "step"]
def fns_piles_along : List (Str × Nat × Fn) := [("is_step", 2, F_is_step), ("stepped", 3, F_stepped)]
def o_piles_along : Own := {}
def cf_piles_along : Cf := mkCf GLO N_piles_along fns_piles_along [] [] 400 o_piles_along
def F_piles_along : Fn := (cFn cf_piles_along 60 true (Hd.top 55)).getD noF
def N_is_good_script : List Str := ["house", "value"]
def fns_is_good_script : List (Str × Nat × Fn) := [("is_tuple", 3, F_is_tuple), ("piles_along", 2, F_piles_along)]
def o_is_good_script : Own := {}
def cf_is_good_script : Cf := mkCf GLO N_is_good_script fns_is_good_script [] [] 400 o_is_good_script
def F_is_good_script : Fn := (cFn cf_is_good_script 60 true (Hd.top 56)).getD noF
def N_count_in : List Str := ["lot", "plank", "one"]
def fns_count_in : List (Str × Nat × Fn) := []
def o_count_in : Own := {}
def cf_count_in : Cf := mkCf GLO N_count_in fns_count_in [] [] 400 o_count_in
def F_count_in : Fn := (cFn cf_count_in 60 true (Hd.top 57)).getD noF
def N_weighed : List Str := ["lot", "weights", "plank"]
def fns_weighed : List (Str × Nat × Fn) := []
def o_weighed : Own := {}
def cf_weighed : Cf := mkCf GLO N_weighed fns_weighed [] [] 400 o_weighed
def F_weighed : Fn := (cFn cf_weighed 60 true (Hd.top 58)).getD noF
def N_keeps_facts : List Str := ["facts", "weights", "word", "one", "other", "gap"]
def fns_keeps_facts : List (Str × Nat × Fn) := [("weighed", 2, F_weighed)]
def o_keeps_facts : Own := {}
def cf_keeps_facts : Cf := mkCf GLO N_keeps_facts fns_keeps_facts [] [] 400 o_keeps_facts
def F_keeps_facts : Fn := (cFn cf_keeps_facts 60 true (Hd.top 59)).getD noF
def N_need_house : List Str := ["value"]
def fns_need_house : List (Str × Nat × Fn) := [("is_good_house", 1, F_is_good_house)]
def o_need_house : Own := {}
def cf_need_house : Cf := mkCf GLO N_need_house fns_need_house [] [] 400 o_need_house
def F_need_house : Fn := (cFn cf_need_house 60 true (Hd.top 60)).getD noF
def N_need_pile : List Str := ["house", "value"]
def fns_need_pile : List (Str × Nat × Fn) := [("is_good_pile", 2, F_is_good_pile)]
def o_need_pile : Own := {}
def cf_need_pile : Cf := mkCf GLO N_need_pile fns_need_pile [] [] 400 o_need_pile
def F_need_pile : Fn := (cFn cf_need_pile 60 true (Hd.top 61)).getD noF
def N_need_weights : List Str := ["house", "value"]
def fns_need_weights : List (Str × Nat × Fn) := [("are_good_weights", 2, F_are_good_weights)]
def o_need_weights : Own := {}
def cf_need_weights : Cf := mkCf GLO N_need_weights fns_need_weights [] [] 400 o_need_weights
def F_need_weights : Fn := (cFn cf_need_weights 60 true (Hd.top 62)).getD noF
def N_need_facts : List Str := ["house", "value"]
def fns_need_facts : List (Str × Nat × Fn) := [("are_good_facts", 2, F_are_good_facts)]
def o_need_facts : Own := {}
def cf_need_facts : Cf := mkCf GLO N_need_facts fns_need_facts [] [] 400 o_need_facts
def F_need_facts : Fn := (cFn cf_need_facts 60 true (Hd.top 63)).getD noF
def N_need_script : List Str := ["house", "value"]
def fns_need_script : List (Str × Nat × Fn) := [("is_good_script", 2, F_is_good_script)]
def o_need_script : Own := {}
def cf_need_script : Cf := mkCf GLO N_need_script fns_need_script [] [] 400 o_need_script
def F_need_script : Fn := (cFn cf_need_script 60 true (Hd.top 64)).getD noF
def N_need_plank : List Str := ["pile", "value"]
def fns_need_plank : List (Str × Nat × Fn) := [("is_number", 3, F_is_number), ("triple_of", 2, F_triple_of)]
def o_need_plank : Own := {}
def cf_need_plank : Cf := mkCf GLO N_need_plank fns_need_plank [] [] 400 o_need_plank
def F_need_plank : Fn := (cFn cf_need_plank 60 true (Hd.top 65)).getD noF
def N_need_case : List Str := ["house", "pile", "facts"]
def fns_need_case : List (Str × Nat × Fn) := [("need_house", 1, F_need_house), ("need_pile", 2, F_need_pile), ("need_facts", 2, F_need_facts)]
def o_need_case : Own := {}
def cf_need_case : Cf := mkCf GLO N_need_case fns_need_case [] [] 400 o_need_case
def F_need_case : Fn := (cFn cf_need_case 60 true (Hd.top 66)).getD noF
def N_need_known : List Str := ["house", "pile", "weights"]
def fns_need_known : List (Str × Nat × Fn) := [("need_house", 1, F_need_house), ("need_pile", 2, F_need_pile), ("need_weights", 2, F_need_weights)]
def o_need_known : Own := {}
def cf_need_known : Cf := mkCf GLO N_need_known fns_need_known [] [] 400 o_need_known
def F_need_known : Fn := (cFn cf_need_known 60 true (Hd.top 67)).getD noF
def N_is_house : List Str := ["value"]
def fns_is_house : List (Str × Nat × Fn) := [("is_good_house", 1, F_is_good_house)]
def o_is_house : Own := {}
def cf_is_house : Cf := mkCf GLO N_is_house fns_is_house [] [] 400 o_is_house
def F_is_house : Fn := (cFn cf_is_house 60 true (Hd.top 68)).getD noF
def N_is_pile : List Str := ["house", "value"]
def fns_is_pile : List (Str × Nat × Fn) := [("need_house", 1, F_need_house), ("is_good_pile", 2, F_is_good_pile)]
def o_is_pile : Own := {}
def cf_is_pile : Cf := mkCf GLO N_is_pile fns_is_pile [] [] 400 o_is_pile
def F_is_pile : Fn := (cFn cf_is_pile 60 true (Hd.top 69)).getD noF
def N_is_script : List Str := ["house", "value"]
def fns_is_script : List (Str × Nat × Fn) := [("need_house", 1, F_need_house), ("is_good_script", 2, F_is_good_script)]
def o_is_script : Own := {}
def cf_is_script : Cf := mkCf GLO N_is_script fns_is_script [] [] 400 o_is_script
def F_is_script : Fn := (cFn cf_is_script 60 true (Hd.top 70)).getD noF
def N_contacts : List Str := ["house", "pile"]
def fns_contacts : List (Str × Nat × Fn) := [("need_house", 1, F_need_house), ("need_pile", 2, F_need_pile), ("contacts_of", 2, F_contacts_of)]
def o_contacts : Own := {}
def cf_contacts : Cf := mkCf GLO N_contacts fns_contacts [] [] 400 o_contacts
def F_contacts : Fn := (cFn cf_contacts 60 true (Hd.top 71)).getD noF
def N_keep : List Str := ["house", "facts", "weights"]
def fns_keep : List (Str × Nat × Fn) := [("need_house", 1, F_need_house), ("need_facts", 2, F_need_facts), ("need_weights", 2, F_need_weights), ("keeps_facts", 2, F_keeps_facts)]
def o_keep : Own := {}
def cf_keep : Cf := mkCf GLO N_keep fns_keep [] [] 400 o_keep
def F_keep : Fn := (cFn cf_keep 60 true (Hd.top 72)).getD noF
def N_gone_up : List Str := ["motion", "order", "plank", "place", "rise", "turn"]
def fns_gone_up : List (Str × Nat × Fn) := []
def o_gone_up : Own := {}
def cf_gone_up : Cf := mkCf GLO N_gone_up fns_gone_up [] [] 400 o_gone_up
def F_gone_up : Fn := (cFn cf_gone_up 60 true (Hd.top 74)).getD noF
def N_gap_at : List Str := ["motion", "order", "contact", "place"]
def fns_gap_at : List (Str × Nat × Fn) := [("gone_up", 4, F_gone_up)]
def o_gap_at : Own := {}
def cf_gap_at : Cf := mkCf GLO N_gap_at fns_gap_at [] [] 400 o_gap_at
def F_gap_at : Fn := (cFn cf_gap_at 60 true (Hd.top 75)).getD noF
def N_marks_of : List Str := ["contacts", "found", "contact"]
def fns_marks_of : List (Str × Nat × Fn) := []
def o_marks_of : Own := {}
def cf_marks_of : Cf := mkCf GLO N_marks_of fns_marks_of [] [] 400 o_marks_of
def F_marks_of : Fn := (cFn cf_marks_of 60 true (Hd.top 76)).getD noF
def N_main_contacts : List Str := ["contacts", "found", "contact", "one"]
def fns_main_contacts : List (Str × Nat × Fn) := []
def o_main_contacts : Own := {}
def cf_main_contacts : Cf := mkCf GLO N_main_contacts fns_main_contacts [] [] 400 o_main_contacts
def F_main_contacts : Fn := (cFn cf_main_contacts 60 true (Hd.top 77)).getD noF
def N_carried_by : List Str := ["mains", "plank", "found", "turn", "one"]
def fns_carried_by : List (Str × Nat × Fn) := []
def o_carried_by : Own := {}
def cf_carried_by : Cf := mkCf GLO N_carried_by fns_carried_by [] [] 400 o_carried_by
def F_carried_by : Fn := (cFn cf_carried_by 60 true (Hd.top 78)).getD noF
def N_neat_motion : List Str := ["motion", "part", "pair", "number", "rise", "turn"]
def fns_neat_motion : List (Str × Nat × Fn) := [("divisor", 1, M_divisor)]
def o_neat_motion : Own := {}
def cf_neat_motion : Cf := mkCf GLO N_neat_motion fns_neat_motion [] [] 400 o_neat_motion
def F_neat_motion : Fn := (cFn cf_neat_motion 60 true (Hd.top 79)).getD noF
def N_first_motions : List Str := ["mains", "order", "found", "plank", "below", "left", "right", "some", "pair", "one"]
def fns_first_motions : List (Str × Nat × Fn) := [("carried_by", 2, F_carried_by)]
def o_first_motions : Own := {}
def cf_first_motions : Cf := mkCf GLO N_first_motions fns_first_motions [] [] 400 o_first_motions
def F_first_motions : Fn := (cFn cf_first_motions 60 true (Hd.top 80)).getD noF
def N_joined : List Str := ["one", "more", "other", "less", "found", "mine", "yours"]
def fns_joined : List (Str × Nat × Fn) := [("neat_motion", 1, F_neat_motion)]
def o_joined : Own := {}
def cf_joined : Cf := mkCf GLO N_joined fns_joined [] [] 400 o_joined
def F_joined : Fn := (cFn cf_joined 60 true (Hd.top 81)).getD noF
def N_still_marks : List Str := ["motion", "order", "marks", "at", "mark"]
def fns_still_marks : List (Str × Nat × Fn) := [("gap_at", 4, F_gap_at)]
def o_still_marks : Own := {}
def cf_still_marks : Cf := mkCf GLO N_still_marks fns_still_marks [] [] 400 o_still_marks
def F_still_marks : Fn := (cFn cf_still_marks 60 true (Hd.top 82)).getD noF
def N_are_beside : List Str := ["one", "other", "stills", "common", "third", "still", "at"]
def fns_are_beside : List (Str × Nat × Fn) := []
def o_are_beside : Own := {}
def cf_are_beside : Cf := mkCf GLO N_are_beside fns_are_beside [] [] 400 o_are_beside
def F_are_beside : Fn := (cFn cf_are_beside 60 true (Hd.top 83)).getD noF
def N_cut_by : List Str := ["motions", "order", "marks", "mark", "gaps", "stills", "found", "one", "up", "other", "down", "motion", "gap"]
def fns_cut_by : List (Str × Nat × Fn) := [("gap_at", 4, F_gap_at), ("still_marks", 3, F_still_marks), ("are_beside", 3, F_are_beside), ("joined", 4, F_joined)]
def o_cut_by : Own := {}
def cf_cut_by : Cf := mkCf GLO N_cut_by fns_cut_by [] [] 400 o_cut_by
def F_cut_by : Fn := (cFn cf_cut_by 60 true (Hd.top 84)).getD noF
def N_outermost : List Str := ["house", "pile", "contacts", "order", "mains", "found", "marks", "mark", "triple", "contact"]
def fns_outermost : List (Str × Nat × Fn) := [("main_contacts", 1, F_main_contacts), ("marks_of", 1, F_marks_of), ("contacts_of", 2, F_contacts_of), ("first_motions", 2, F_first_motions), ("cut_by", 4, F_cut_by)]
def o_outermost : Own := {}
def cf_outermost : Cf := mkCf GLO N_outermost fns_outermost [] [] 400 o_outermost
def F_outermost : Fn := (cFn cf_outermost 60 true (Hd.top 85)).getD noF
def N_lifts : List Str := ["house", "pile", "motion", "found", "triple", "pair", "plank", "left", "level", "number"]
def fns_lifts : List (Str × Nat × Fn) := []
def o_lifts : Own := {}
def cf_lifts : Cf := mkCf GLO N_lifts fns_lifts [] [] 400 o_lifts
def F_lifts : Fn := (cFn cf_lifts 60 true (Hd.top 86)).getD noF
def N_sunk : List Str := ["house", "pile", "motion", "weights", "number", "weight"]
def fns_sunk : List (Str × Nat × Fn) := [("lifts", 3, F_lifts)]
def o_sunk : Own := {}
def cf_sunk : Cf := mkCf GLO N_sunk fns_sunk [] [] 400 o_sunk
def F_sunk : Fn := (cFn cf_sunk 60 true (Hd.top 87)).getD noF
def N_middle_of : List Str := ["house", "triple"]
def fns_middle_of : List (Str × Nat × Fn) := []
def o_middle_of : Own := {}
def cf_middle_of : Cf := mkCf GLO N_middle_of fns_middle_of [] [] 400 o_middle_of
def F_middle_of : Fn := (cFn cf_middle_of 60 true (Hd.top 90)).getD noF
def N_equation_rows : List Str := ["line", "number", "found", "factor"]
def fns_equation_rows : List (Str × Nat × Fn) := []
def o_equation_rows : Own := {}
def cf_equation_rows : Cf := mkCf GLO N_equation_rows fns_equation_rows [] [] 400 o_equation_rows
def F_equation_rows : Fn := (cFn cf_equation_rows 60 true (Hd.top 91)).getD noF
def N_sign_of : List Str := ["contact", "plank"]
def fns_sign_of : List (Str × Nat × Fn) := []
def o_sign_of : Own := {}
def cf_sign_of : Cf := mkCf GLO N_sign_of fns_sign_of [] [] 400 o_sign_of
def F_sign_of : Fn := (cFn cf_sign_of 60 true (Hd.top 92)).getD noF
def N_bearing_rows : List Str := ["house", "pile", "weights", "some", "found", "triple", "plank", "plain", "placed", "contact", "sign"]
def fns_bearing_rows : List (Str × Nat × Fn) := [("contacts_of", 2, F_contacts_of), ("sign_of", 2, F_sign_of), ("equation_rows", 2, F_equation_rows), ("middle_of", 2, F_middle_of)]
def o_bearing_rows : Own := {}
def cf_bearing_rows : Cf := mkCf GLO N_bearing_rows fns_bearing_rows [] [] 400 o_bearing_rows
def F_bearing_rows : Fn := (cFn cf_bearing_rows 60 true (Hd.top 93)).getD noF
def N_forces_of : List Str := ["house", "pile", "weights", "many", "found", "at"]
def fns_forces_of : List (Str × Nat × Fn) := [("solution", 2, F_solution), ("bearing_rows", 3, F_bearing_rows), ("contacts_of", 2, F_contacts_of)]
def o_forces_of : Own := {}
def cf_forces_of : Cf := mkCf GLO N_forces_of fns_forces_of [] [] 400 o_forces_of
def F_forces_of : Fn := (cFn cf_forces_of 60 true (Hd.top 94)).getD noF
def N_motion_of : List Str := ["house", "pile", "weights", "found", "motion"]
def fns_motion_of : List (Str × Nat × Fn) := [("outermost", 2, F_outermost), ("sunk", 4, F_sunk)]
def o_motion_of : Own := {}
def cf_motion_of : Cf := mkCf GLO N_motion_of fns_motion_of [] [] 400 o_motion_of
def F_motion_of : Fn := (cFn cf_motion_of 60 true (Hd.top 95)).getD noF
def N_does_stand : List Str := ["house", "pile", "weights"]
def fns_does_stand : List (Str × Nat × Fn) := [("motion_of", 3, F_motion_of)]
def o_does_stand : Own := {}
def cf_does_stand : Cf := mkCf GLO N_does_stand fns_does_stand [] [] 400 o_does_stand
def F_does_stand : Fn := (cFn cf_does_stand 60 true (Hd.top 96)).getD noF
def N_need_standing : List Str := ["house", "pile", "weights"]
def fns_need_standing : List (Str × Nat × Fn) := [("does_stand", 3, F_does_stand)]
def o_need_standing : Own := {}
def cf_need_standing : Cf := mkCf GLO N_need_standing fns_need_standing [] [] 400 o_need_standing
def F_need_standing : Fn := (cFn cf_need_standing 60 true (Hd.top 97)).getD noF
def N_is_force : List Str := ["value"]
def fns_is_force : List (Str × Nat × Fn) := [("is_fraction", 1, F_is_fraction)]
def o_is_force : Own := {}
def cf_is_force : Cf := mkCf GLO N_is_force fns_is_force [] [] 400 o_is_force
def F_is_force : Fn := (cFn cf_is_force 60 true (Hd.top 98)).getD noF
def N_are_forces : List Str := ["house", "pile", "value", "many", "pair"]
def fns_are_forces : List (Str × Nat × Fn) := [("contacts_of", 2, F_contacts_of), ("is_tuple", 3, F_is_tuple), ("is_force", 1, F_is_force)]
def o_are_forces : Own := {}
def cf_are_forces : Cf := mkCf GLO N_are_forces fns_are_forces [] [] 400 o_are_forces
def F_are_forces : Fn := (cFn cf_are_forces 60 true (Hd.top 99)).getD noF
def N_is_whole : List Str := ["value"]
def fns_is_whole : List (Str × Nat × Fn) := []
def o_is_whole : Own := {}
def cf_is_whole : Cf := mkCf GLO N_is_whole fns_is_whole [] [] 400 o_is_whole
def F_is_whole : Fn := (cFn cf_is_whole 60 true (Hd.top 100)).getD noF
def N_is_motion : List Str := ["pile", "value", "pair"]
def fns_is_motion : List (Str × Nat × Fn) := [("is_tuple", 3, F_is_tuple), ("is_whole", 1, F_is_whole)]
def o_is_motion : Own := {}
def cf_is_motion : Cf := mkCf GLO N_is_motion fns_is_motion [] [] 400 o_is_motion
def F_is_motion : Fn := (cFn cf_is_motion 60 true (Hd.top 101)).getD noF
def N_row_is_so : List Str := ["line", "numbers", "found", "factor", "number"]
def fns_row_is_so : List (Str × Nat × Fn) := [("lowest", 2, F_lowest)]
def o_row_is_so : Own := {}
def cf_row_is_so : Cf := mkCf GLO N_row_is_so fns_row_is_so [] [] 400 o_row_is_so
def F_row_is_so : Fn := (cFn cf_row_is_so 60 true (Hd.top 102)).getD noF
def N_do_bear : List Str := ["house", "pile", "weights", "value", "numbers", "pair", "number", "line", "strict"]
def fns_do_bear : List (Str × Nat × Fn) := [("row_is_so", 2, F_row_is_so), ("bearing_rows", 3, F_bearing_rows)]
def o_do_bear : Own := {}
def cf_do_bear : Cf := mkCf GLO N_do_bear fns_do_bear [] [] 400 o_do_bear
def F_do_bear : Fn := (cFn cf_do_bear 60 true (Hd.top 103)).getD noF
def N_is_toppling : List Str := ["house", "pile", "weights", "value", "order", "marks", "triple", "contact", "place"]
def fns_is_toppling : List (Str × Nat × Fn) := [("marks_of", 1, F_marks_of), ("contacts_of", 2, F_contacts_of), ("sunk", 4, F_sunk), ("gap_at", 4, F_gap_at)]
def o_is_toppling : Own := {}
def cf_is_toppling : Cf := mkCf GLO N_is_toppling fns_is_toppling [] [] 400 o_is_toppling
def F_is_toppling : Fn := (cFn cf_is_toppling 60 true (Hd.top 104)).getD noF
def N_stands : List Str := ["house", "pile", "weights"]
def fns_stands : List (Str × Nat × Fn) := [("need_known", 3, F_need_known), ("does_stand", 3, F_does_stand)]
def o_stands : Own := {}
def cf_stands : Cf := mkCf GLO N_stands fns_stands [] [] 400 o_stands
def F_stands : Fn := (cFn cf_stands 60 true (Hd.top 105)).getD noF
def N_forces : List Str := ["house", "pile", "weights"]
def fns_forces : List (Str × Nat × Fn) := [("need_known", 3, F_need_known), ("forces_of", 3, F_forces_of)]
def o_forces : Own := {}
def cf_forces : Cf := mkCf GLO N_forces fns_forces [] [] 400 o_forces
def F_forces : Fn := (cFn cf_forces 60 true (Hd.top 106)).getD noF
def N_motion : List Str := ["house", "pile", "weights"]
def fns_motion : List (Str × Nat × Fn) := [("need_known", 3, F_need_known), ("motion_of", 3, F_motion_of)]
def o_motion : Own := {}
def cf_motion : Cf := mkCf GLO N_motion fns_motion [] [] 400 o_motion
def F_motion : Fn := (cFn cf_motion 60 true (Hd.top 107)).getD noF
def N_bears : List Str := ["house", "pile", "weights", "value"]
def fns_bears : List (Str × Nat × Fn) := [("need_known", 3, F_need_known), ("do_bear", 4, F_do_bear), ("are_forces", 3, F_are_forces)]
def o_bears : Own := {}
def cf_bears : Cf := mkCf GLO N_bears fns_bears [] [] 400 o_bears
def F_bears : Fn := (cFn cf_bears 60 true (Hd.top 108)).getD noF
def N_topples : List Str := ["house", "pile", "weights", "value"]
def fns_topples : List (Str × Nat × Fn) := [("need_known", 3, F_need_known), ("is_toppling", 4, F_is_toppling), ("is_motion", 2, F_is_motion)]
def o_topples : Own := {}
def cf_topples : Cf := mkCf GLO N_topples fns_topples [] [] 400 o_topples
def F_topples : Fn := (cFn cf_topples 60 true (Hd.top 109)).getD noF
def N_Yard_init : List Str := ["self", "house", "weights"]
def fns_Yard_init : List (Str × Nat × Fn) := [("need_house", 1, F_need_house), ("need_weights", 2, F_need_weights)]
def o_Yard_init : Own := { flds := [("Yard", "home"), ("Yard", "masses"), ("Yard", "now"), ("Yard", "past")] }
def cf_Yard_init : Cf := mkCf GLO N_Yard_init fns_Yard_init [(459, 20, 22)] [] 400 o_Yard_init
def F_Yard_init : Fn := (cFn cf_Yard_init 60 true (Hd.mt 112 1)).getD noF
def N_Yard_house : List Str := ["self"]
def fns_Yard_house : List (Str × Nat × Fn) := []
def o_Yard_house : Own := { flds := [("Yard", "home")] }
def cf_Yard_house : Cf := mkCf GLO N_Yard_house fns_Yard_house [] [] 400 o_Yard_house
def F_Yard_house : Fn := (cFn cf_Yard_house 60 true (Hd.mt 112 2)).getD noF
def N_Yard_weights : List Str := ["self"]
def fns_Yard_weights : List (Str × Nat × Fn) := []
def o_Yard_weights : Own := { flds := [("Yard", "masses")] }
def cf_Yard_weights : Cf := mkCf GLO N_Yard_weights fns_Yard_weights [] [] 400 o_Yard_weights
def F_Yard_weights : Fn := (cFn cf_Yard_weights 60 true (Hd.mt 112 3)).getD noF
def N_Yard_pile : List Str := ["self"]
def fns_Yard_pile : List (Str × Nat × Fn) := []
def o_Yard_pile : Own := { flds := [("Yard", "now")] }
def cf_Yard_pile : Cf := mkCf GLO N_Yard_pile fns_Yard_pile [] [] 400 o_Yard_pile
def F_Yard_pile : Fn := (cFn cf_Yard_pile 60 true (Hd.mt 112 4)).getD noF
def N_Yard_steps : List Str := ["self"]
def fns_Yard_steps : List (Str × Nat × Fn) := []
def o_Yard_steps : Own := { flds := [("Yard", "now")] }
def cf_Yard_steps : Cf := mkCf GLO N_Yard_steps fns_Yard_steps [] [] 400 o_Yard_steps
def F_Yard_steps : Fn := (cFn cf_Yard_steps 60 true (Hd.mt 112 5)).getD noF
def N_Yard_go_on : List Str := ["self", "steps", "pile", "step"]
def fns_Yard_go_on : List (Str × Nat × Fn) := [("is_step", 2, F_is_step), ("stepped", 3, F_stepped), ("does_stand", 3, F_does_stand)]
def o_Yard_go_on : Own := { flds := [("Yard", "now"), ("Yard", "past"), ("Yard", "home"), ("Yard", "masses")] }
def cf_Yard_go_on : Cf := mkCf GLO N_Yard_go_on fns_Yard_go_on [] [] 400 o_Yard_go_on
def F_Yard_go_on : Fn := (cFn cf_Yard_go_on 60 true (Hd.mt 112 6)).getD noF
def N_Yard_lay : List Str := ["self", "plank", "left"]
def fns_Yard_lay : List (Str × Nat × Fn) := [("triple_of", 2, F_triple_of)]
def o_Yard_lay : Own := { mts := [("Yard", "go_on", (arF 2 F_Yard_go_on))], flds := [("Yard", "now")] }
def cf_Yard_lay : Cf := mkCf GLO N_Yard_lay fns_Yard_lay [] [] 400 o_Yard_lay
def F_Yard_lay : Fn := (cFn cf_Yard_lay 60 true (Hd.mt 112 7)).getD noF
def N_Yard_take : List Str := ["self", "plank", "before"]
def fns_Yard_take : List (Str × Nat × Fn) := [("triple_of", 2, F_triple_of)]
def o_Yard_take : Own := { mts := [("Yard", "go_on", (arF 2 F_Yard_go_on))], flds := [("Yard", "now")] }
def cf_Yard_take : Cf := mkCf GLO N_Yard_take fns_Yard_take [] [] 400 o_Yard_take
def F_Yard_take : Fn := (cFn cf_Yard_take 60 true (Hd.mt 112 8)).getD noF
def N_Yard_slide : List Str := ["self", "plank", "by"]
def fns_Yard_slide : List (Str × Nat × Fn) := [("triple_of", 2, F_triple_of)]
def o_Yard_slide : Own := { mts := [("Yard", "go_on", (arF 2 F_Yard_go_on))], flds := [("Yard", "now")] }
def cf_Yard_slide : Cf := mkCf GLO N_Yard_slide fns_Yard_slide [] [] 400 o_Yard_slide
def F_Yard_slide : Fn := (cFn cf_Yard_slide 60 true (Hd.mt 112 9)).getD noF
def N_Yard_iadd : List Str := ["self", "steps"]
def fns_Yard_iadd : List (Str × Nat × Fn) := [("is_tuple", 3, F_is_tuple)]
def o_Yard_iadd : Own := { mts := [("Yard", "go_on", (arF 2 F_Yard_go_on))] }
def cf_Yard_iadd : Cf := mkCf GLO N_Yard_iadd fns_Yard_iadd [] [] 400 o_Yard_iadd
def F_Yard_iadd : Fn := (cFn cf_Yard_iadd 60 true (Hd.mt 112 10)).getD noF
def N_Yard_forces : List Str := ["self"]
def fns_Yard_forces : List (Str × Nat × Fn) := [("forces_of", 3, F_forces_of)]
def o_Yard_forces : Own := { flds := [("Yard", "home"), ("Yard", "masses"), ("Yard", "now")] }
def cf_Yard_forces : Cf := mkCf GLO N_Yard_forces fns_Yard_forces [] [] 400 o_Yard_forces
def F_Yard_forces : Fn := (cFn cf_Yard_forces 60 true (Hd.mt 112 11)).getD noF
def N_Yard_heavy : List Str := ["self", "triple"]
def fns_Yard_heavy : List (Str × Nat × Fn) := []
def o_Yard_heavy : Own := { flds := [("Yard", "masses"), ("Yard", "now")] }
def cf_Yard_heavy : Cf := mkCf GLO N_Yard_heavy fns_Yard_heavy [] [] 400 o_Yard_heavy
def F_Yard_heavy : Fn := (cFn cf_Yard_heavy 60 true (Hd.mt 112 12)).getD noF
def N_Yard_undo : List Str := ["self"]
def fns_Yard_undo : List (Str × Nat × Fn) := []
def o_Yard_undo : Own := { flds := [("Yard", "now"), ("Yard", "past")] }
def cf_Yard_undo : Cf := mkCf GLO N_Yard_undo fns_Yard_undo [] [] 400 o_Yard_undo
def F_Yard_undo : Fn := (cFn cf_Yard_undo 60 true (Hd.mt 112 13)).getD noF
def N_Yard_getitem : List Str := ["self", "plank"]
def fns_Yard_getitem : List (Str × Nat × Fn) := [("need_plank", 2, F_need_plank), ("triple_of", 2, F_triple_of)]
def o_Yard_getitem : Own := { flds := [("Yard", "now")] }
def cf_Yard_getitem : Cf := mkCf GLO N_Yard_getitem fns_Yard_getitem [] [] 400 o_Yard_getitem
def F_Yard_getitem : Fn := (cFn cf_Yard_getitem 60 true (Hd.mt 112 15)).getD noF
def N_Yard_contains : List Str := ["self", "value"]
def fns_Yard_contains : List (Str × Nat × Fn) := [("is_number", 3, F_is_number), ("triple_of", 2, F_triple_of)]
def o_Yard_contains : Own := { flds := [("Yard", "now")] }
def cf_Yard_contains : Cf := mkCf GLO N_Yard_contains fns_Yard_contains [] [] 400 o_Yard_contains
def F_Yard_contains : Fn := (cFn cf_Yard_contains 60 true (Hd.mt 112 16)).getD noF
def N_Yard_len : List Str := ["self"]
def fns_Yard_len : List (Str × Nat × Fn) := []
def o_Yard_len : Own := { flds := [("Yard", "now")] }
def cf_Yard_len : Cf := mkCf GLO N_Yard_len fns_Yard_len [] [] 400 o_Yard_len
def F_Yard_len : Fn := (cFn cf_Yard_len 60 true (Hd.mt 112 17)).getD noF
def N_Yard_bool : List Str := ["self", "some", "triple", "left", "right"]
def fns_Yard_bool : List (Str × Nat × Fn) := [("ends_of", 2, F_ends_of)]
def o_Yard_bool : Own := { flds := [("Yard", "home"), ("Yard", "now")] }
def cf_Yard_bool : Cf := mkCf GLO N_Yard_bool fns_Yard_bool [] [] 400 o_Yard_bool
def F_Yard_bool : Fn := (cFn cf_Yard_bool 60 true (Hd.mt 112 18)).getD noF
def N_Yard_eq : List Str := ["self", "other"]
def fns_Yard_eq : List (Str × Nat × Fn) := []
def o_Yard_eq : Own := { flds := [("Yard", "home"), ("Pile", "home"), ("Yard", "masses"), ("Yard", "now")], cls := ["Yard"] }
def cf_Yard_eq : Cf := mkCf GLO N_Yard_eq fns_Yard_eq [] [] 400 o_Yard_eq
def F_Yard_eq : Fn := (cFn cf_Yard_eq 60 true (Hd.mt 112 20)).getD noF
def N_Yard_log : List Str := ["self", "step", "part"]
def fns_Yard_log : List (Str × Nat × Fn) := []
def o_Yard_log : Own := { flds := [("Yard", "now")] }
def cf_Yard_log : Cf := mkCf GLO N_Yard_log fns_Yard_log [] [] 400 o_Yard_log
def F_Yard_log : FnG := (cGFn cf_Yard_log 60 (Hd.mt 112 21)).getD noG
def N_as_row : List Str := ["factors", "strict"]
def fns_as_row : List (Str × Nat × Fn) := []
def o_as_row : Own := {}
def cf_as_row : Cf := mkCf GLO N_as_row fns_as_row [] [] 400 o_as_row
def F_as_row : Fn := (cFn cf_as_row 60 true (Hd.top 114)).getD noF
def N_opposite : List Str := ["factors", "factor"]
def fns_opposite : List (Str × Nat × Fn) := []
def o_opposite : Own := {}
def cf_opposite : Cf := mkCf GLO N_opposite fns_opposite [] [] 400 o_opposite
def F_opposite : Fn := (cFn cf_opposite 60 true (Hd.top 115)).getD noF
def N_weight_rows : List Str := ["many", "at", "place"]
def fns_weight_rows : List (Str × Nat × Fn) := [("as_row", 2, F_as_row)]
def o_weight_rows : Own := {}
def cf_weight_rows : Cf := mkCf GLO N_weight_rows fns_weight_rows [] [] 400 o_weight_rows
def F_weight_rows : Fn := (cFn cf_weight_rows 60 true (Hd.top 116)).getD noF
def N_fact_rows : List Str := ["house", "facts", "many", "found", "word", "one", "other", "line", "plank"]
def fns_fact_rows : List (Str × Nat × Fn) := [("weight_rows", 1, F_weight_rows), ("count_in", 2, F_count_in), ("as_row", 2, F_as_row), ("opposite", 1, F_opposite)]
def o_fact_rows : Own := {}
def cf_fact_rows : Cf := mkCf GLO N_fact_rows fns_fact_rows [] [] 400 o_fact_rows
def F_fact_rows : Fn := (cFn cf_fact_rows 60 true (Hd.top 117)).getD noF
def N_weights_for : List Str := ["rows", "many", "found", "common", "top", "below"]
def fns_weights_for : List (Str × Nat × Fn) := [("solution", 2, F_solution), ("neat", 1, M_neat), ("divisor", 1, M_divisor)]
def o_weights_for : Own := {}
def cf_weights_for : Cf := mkCf GLO N_weights_for fns_weights_for [] [] 400 o_weights_for
def F_weights_for : Fn := (cFn cf_weights_for 60 true (Hd.top 118)).getD noF
def N_are_possible : List Str := ["house", "facts"]
def fns_are_possible : List (Str × Nat × Fn) := [("weights_for", 2, F_weights_for), ("fact_rows", 2, F_fact_rows)]
def o_are_possible : Own := {}
def cf_are_possible : Cf := mkCf GLO N_are_possible fns_are_possible [] [] 400 o_are_possible
def F_are_possible : Fn := (cFn cf_are_possible 60 true (Hd.top 119)).getD noF
def N_need_possible : List Str := ["house", "facts"]
def fns_need_possible : List (Str × Nat × Fn) := [("are_possible", 2, F_are_possible)]
def o_need_possible : Own := {}
def cf_need_possible : Cf := mkCf GLO N_need_possible fns_need_possible [] [] 400 o_need_possible
def F_need_possible : Fn := (cFn cf_need_possible 60 true (Hd.top 120)).getD noF
def N_sums_of : List Str := ["house", "pile", "found", "motion", "line", "factor"]
def fns_sums_of : List (Str × Nat × Fn) := [("outermost", 2, F_outermost), ("neat", 1, M_neat), ("lifts", 3, F_lifts)]
def o_sums_of : Own := {}
def cf_sums_of : Cf := mkCf GLO N_sums_of fns_sums_of [] [] 400 o_sums_of
def F_sums_of : Fn := (cFn cf_sums_of 60 true (Hd.top 121)).getD noF
def N_falling_weights : List Str := ["house", "pile", "rows", "line", "found"]
def fns_falling_weights : List (Str × Nat × Fn) := [("sums_of", 2, F_sums_of), ("weights_for", 2, F_weights_for), ("as_row", 2, F_as_row), ("opposite", 1, F_opposite)]
def o_falling_weights : Own := {}
def cf_falling_weights : Cf := mkCf GLO N_falling_weights fns_falling_weights [] [] 400 o_falling_weights
def F_falling_weights : Fn := (cFn cf_falling_weights 60 true (Hd.top 122)).getD noF
def N_standing_rows : List Str := ["house", "pile", "line"]
def fns_standing_rows : List (Str × Nat × Fn) := [("as_row", 2, F_as_row), ("sums_of", 2, F_sums_of)]
def o_standing_rows : Own := {}
def cf_standing_rows : Cf := mkCf GLO N_standing_rows fns_standing_rows [] [] 400 o_standing_rows
def F_standing_rows : Fn := (cFn cf_standing_rows 60 true (Hd.top 123)).getD noF
def N_is_sure : List Str := ["house", "pile", "facts"]
def fns_is_sure : List (Str × Nat × Fn) := [("falling_weights", 3, F_falling_weights), ("fact_rows", 2, F_fact_rows)]
def o_is_sure : Own := {}
def cf_is_sure : Cf := mkCf GLO N_is_sure fns_is_sure [] [] 400 o_is_sure
def F_is_sure : Fn := (cFn cf_is_sure 60 true (Hd.top 124)).getD noF
def N_told : List Str := ["house", "pile", "facts", "found"]
def fns_told : List (Str × Nat × Fn) := [("is_sure", 3, F_is_sure), ("weights_for", 2, F_weights_for), ("fact_rows", 2, F_fact_rows), ("standing_rows", 2, F_standing_rows)]
def o_told : Own := {}
def cf_told : Cf := mkCf GLO N_told fns_told [] [] 400 o_told
def F_told : Fn := (cFn cf_told 60 true (Hd.top 125)).getD noF
def N_lots_of : List Str := ["many", "found", "number", "lot"]
def fns_lots_of : List (Str × Nat × Fn) := []
def o_lots_of : Own := {}
def cf_lots_of : Cf := mkCf GLO N_lots_of fns_lots_of [] [] 400 o_lots_of
def F_lots_of : Fn := (cFn cf_lots_of 60 true (Hd.top 126)).getD noF
def N_is_enough : List Str := ["house", "pile", "facts"]
def fns_is_enough : List (Str × Nat × Fn) := [("are_possible", 2, F_are_possible), ("is_sure", 3, F_is_sure)]
def o_is_enough : Own := {}
def cf_is_enough : Cf := mkCf GLO N_is_enough fns_is_enough [] [] 400 o_is_enough
def F_is_enough : Fn := (cFn cf_is_enough 60 true (Hd.top 127)).getD noF
def N_thinned : List Str := ["house", "pile", "kept", "rows", "many", "line", "rest", "more", "other"]
def fns_thinned : List (Str × Nat × Fn) := [("sums_of", 2, F_sums_of), ("weight_rows", 1, F_weight_rows), ("as_row", 2, F_as_row), ("weights_for", 2, F_weights_for), ("opposite", 1, F_opposite)]
def o_thinned : Own := {}
def cf_thinned : Cf := mkCf GLO N_thinned fns_thinned [] [] 400 o_thinned
def F_thinned : Fn := (cFn cf_thinned 60 true (Hd.top 128)).getD noF
def N_can_stand : List Str := ["house", "pile", "facts"]
def fns_can_stand : List (Str × Nat × Fn) := [("need_case", 3, F_need_case), ("weights_for", 2, F_weights_for), ("fact_rows", 2, F_fact_rows), ("standing_rows", 2, F_standing_rows)]
def o_can_stand : Own := {}
def cf_can_stand : Cf := mkCf GLO N_can_stand fns_can_stand [] [] 400 o_can_stand
def F_can_stand : Fn := (cFn cf_can_stand 60 true (Hd.top 129)).getD noF
def N_can_fall : List Str := ["house", "pile", "facts"]
def fns_can_fall : List (Str × Nat × Fn) := [("need_case", 3, F_need_case), ("falling_weights", 3, F_falling_weights), ("fact_rows", 2, F_fact_rows)]
def o_can_fall : Own := {}
def cf_can_fall : Cf := mkCf GLO N_can_fall fns_can_fall [] [] 400 o_can_fall
def F_can_fall : Fn := (cFn cf_can_fall 60 true (Hd.top 130)).getD noF
def N_always : List Str := ["house", "pile", "facts"]
def fns_always : List (Str × Nat × Fn) := [("need_case", 3, F_need_case), ("need_possible", 2, F_need_possible), ("told", 3, F_told)]
def o_always : Own := {}
def cf_always : Cf := mkCf GLO N_always fns_always [] [] 400 o_always
def F_always : Fn := (cFn cf_always 60 true (Hd.top 131)).getD noF
def N_least_facts : List Str := ["house", "pile", "facts", "found", "lot", "inner", "one", "index"]
def fns_least_facts : List (Str × Nat × Fn) := [("need_case", 3, F_need_case), ("lots_of", 1, F_lots_of), ("ascending", 1, F_ascending), ("is_enough", 3, F_is_enough)]
def o_least_facts : Own := {}
def cf_least_facts : Cf := mkCf GLO N_least_facts fns_least_facts [] [] 400 o_least_facts
def F_least_facts : Fn := (cFn cf_least_facts 60 true (Hd.top 132)).getD noF
def N_conditions : List Str := ["house", "pile", "line"]
def fns_conditions : List (Str × Nat × Fn) := [("need_house", 1, F_need_house), ("need_pile", 2, F_need_pile), ("thinned", 2, F_thinned)]
def o_conditions : Own := {}
def cf_conditions : Cf := mkCf GLO N_conditions fns_conditions [] [] 400 o_conditions
def F_conditions : Fn := (cFn cf_conditions 60 true (Hd.top 133)).getD noF
def N_both_bounds : List Str := ["house", "pile", "weights", "at", "rows", "many", "line", "high", "top", "low", "place", "triple", "factor"]
def fns_both_bounds : List (Str × Nat × Fn) := [("greatest_worth", 4, F_greatest_worth), ("bearing_rows", 3, F_bearing_rows), ("lowest", 2, F_lowest), ("contacts_of", 2, F_contacts_of)]
def o_both_bounds : Own := {}
def cf_both_bounds : Cf := mkCf GLO N_both_bounds fns_both_bounds [] [] 400 o_both_bounds
def F_both_bounds : Fn := (cFn cf_both_bounds 60 true (Hd.top 135)).getD noF
def N_pairs_of : List Str := ["house", "pile", "contact"]
def fns_pairs_of : List (Str × Nat × Fn) := [("contacts_of", 2, F_contacts_of)]
def o_pairs_of : Own := {}
def cf_pairs_of : Cf := mkCf GLO N_pairs_of fns_pairs_of [] [] 400 o_pairs_of
def F_pairs_of : Fn := (cFn cf_pairs_of 60 true (Hd.top 136)).getD noF
def N_is_pair : List Str := ["value", "one"]
def fns_is_pair : List (Str × Nat × Fn) := [("is_tuple", 3, F_is_tuple), ("is_number", 3, F_is_number)]
def o_is_pair : Own := {}
def cf_is_pair : Cf := mkCf GLO N_is_pair fns_is_pair [] [] 400 o_is_pair
def F_is_pair : Fn := (cFn cf_is_pair 60 true (Hd.top 137)).getD noF
def N_bearing : List Str := ["house", "pile", "weights", "contact"]
def fns_bearing : List (Str × Nat × Fn) := [("need_known", 3, F_need_known), ("need_standing", 3, F_need_standing), ("both_bounds", 4, F_both_bounds), ("is_pair", 1, F_is_pair), ("pairs_of", 2, F_pairs_of)]
def o_bearing : Own := {}
def cf_bearing : Cf := mkCf GLO N_bearing fns_bearing [] [] 400 o_bearing
def F_bearing : Fn := (cFn cf_bearing 60 true (Hd.top 138)).getD noF
def N_borne : List Str := ["house", "pile", "weights", "plank", "found", "at", "pair"]
def fns_borne : List (Str × Nat × Fn) := [("need_known", 3, F_need_known), ("need_plank", 2, F_need_plank), ("need_standing", 3, F_need_standing), ("pairs_of", 2, F_pairs_of), ("both_bounds", 4, F_both_bounds)]
def o_borne : Own := {}
def cf_borne : Cf := mkCf GLO N_borne fns_borne [] [] 400 o_borne
def F_borne : Fn := (cFn cf_borne 60 true (Hd.top 139)).getD noF
def N_built_orders : List Str := ["house", "pile", "facts", "found", "turn", "later", "order", "here", "triple", "more"]
def fns_built_orders : List (Str × Nat × Fn) := [("ascending", 1, F_ascending), ("laid", 4, F_laid), ("is_sure", 3, F_is_sure)]
def o_built_orders : Own := {}
def cf_built_orders : Cf := mkCf GLO N_built_orders fns_built_orders [] [] 400 o_built_orders
def F_built_orders : Fn := (cFn cf_built_orders 60 true (Hd.top 141)).getD noF
def N_taken_orders : List Str := ["house", "pile", "facts", "found", "turn", "later", "order", "here", "triple", "rest"]
def fns_taken_orders : List (Str × Nat × Fn) := [("ascending", 1, F_ascending), ("is_sure", 3, F_is_sure), ("less", 2, F_less), ("is_bare", 3, F_is_bare)]
def o_taken_orders : Own := {}
def cf_taken_orders : Cf := mkCf GLO N_taken_orders fns_taken_orders [] [] 400 o_taken_orders
def F_taken_orders : Fn := (cFn cf_taken_orders 60 true (Hd.top 142)).getD noF
def N_pile_behind : List Str := ["house", "script"]
def fns_pile_behind : List (Str × Nat × Fn) := [("need_house", 1, F_need_house), ("need_script", 2, F_need_script), ("piles_along", 2, F_piles_along)]
def o_pile_behind : Own := {}
def cf_pile_behind : Cf := mkCf GLO N_pile_behind fns_pile_behind [] [] 400 o_pile_behind
def F_pile_behind : Fn := (cFn cf_pile_behind 60 true (Hd.top 143)).getD noF
def N_first_fall : List Str := ["house", "script", "facts", "index", "pile"]
def fns_first_fall : List (Str × Nat × Fn) := [("need_house", 1, F_need_house), ("need_script", 2, F_need_script), ("need_facts", 2, F_need_facts), ("need_possible", 2, F_need_possible), ("piles_along", 2, F_piles_along), ("is_sure", 3, F_is_sure)]
def o_first_fall : Own := {}
def cf_first_fall : Cf := mkCf GLO N_first_fall fns_first_fall [] [] 400 o_first_fall
def F_first_fall : Fn := (cFn cf_first_fall 60 true (Hd.top 144)).getD noF
def N_lay_orders : List Str := ["house", "pile", "facts"]
def fns_lay_orders : List (Str × Nat × Fn) := [("need_case", 3, F_need_case), ("need_possible", 2, F_need_possible), ("built_orders", 3, F_built_orders)]
def o_lay_orders : Own := {}
def cf_lay_orders : Cf := mkCf GLO N_lay_orders fns_lay_orders [] [] 400 o_lay_orders
def F_lay_orders : Fn := (cFn cf_lay_orders 60 true (Hd.top 145)).getD noF
def N_take_orders : List Str := ["house", "pile", "facts"]
def fns_take_orders : List (Str × Nat × Fn) := [("need_case", 3, F_need_case), ("need_possible", 2, F_need_possible), ("taken_orders", 3, F_taken_orders)]
def o_take_orders : Own := {}
def cf_take_orders : Cf := mkCf GLO N_take_orders fns_take_orders [] [] 400 o_take_orders
def F_take_orders : Fn := (cFn cf_take_orders 60 true (Hd.top 146)).getD noF
def N_safe_places : List Str := ["house", "pile", "facts", "plank", "found", "left", "more"]
def fns_safe_places : List (Str × Nat × Fn) := [("need_case", 3, F_need_case), ("need_possible", 2, F_need_possible), ("laid", 4, F_laid), ("is_number", 3, F_is_number), ("triple_of", 2, F_triple_of), ("is_sure", 3, F_is_sure)]
def o_safe_places : Own := {}
def cf_safe_places : Cf := mkCf GLO N_safe_places fns_safe_places [] [] 400 o_safe_places
def F_safe_places : Fn := (cFn cf_safe_places 60 true (Hd.top 147)).getD noF
def N_planks_of : List Str := ["pile", "triple"]
def fns_planks_of : List (Str × Nat × Fn) := []
def o_planks_of : Own := {}
def cf_planks_of : Cf := mkCf GLO N_planks_of fns_planks_of [] [] 400 o_planks_of
def F_planks_of : Fn := (cFn cf_planks_of 60 true (Hd.top 149)).getD noF
def N_worse_weights : List Str := ["house", "one", "other", "facts"]
def fns_worse_weights : List (Str × Nat × Fn) := [("falling_weights", 3, F_falling_weights), ("fact_rows", 2, F_fact_rows), ("standing_rows", 2, F_standing_rows)]
def o_worse_weights : Own := {}
def cf_worse_weights : Cf := mkCf GLO N_worse_weights fns_worse_weights [] [] 400 o_worse_weights
def F_worse_weights : Fn := (cFn cf_worse_weights 60 true (Hd.top 150)).getD noF
def N_need_two : List Str := ["house", "one", "other", "facts"]
def fns_need_two : List (Str × Nat × Fn) := [("need_case", 3, F_need_case), ("need_pile", 2, F_need_pile), ("need_facts", 2, F_need_facts), ("planks_of", 1, F_planks_of)]
def o_need_two : Own := {}
def cf_need_two : Cf := mkCf GLO N_need_two fns_need_two [] [] 400 o_need_two
def F_need_two : Fn := (cFn cf_need_two 60 true (Hd.top 151)).getD noF
def N_parted : List Str := ["house", "one", "other", "facts", "found"]
def fns_parted : List (Str × Nat × Fn) := [("worse_weights", 4, F_worse_weights)]
def o_parted : Own := {}
def cf_parted : Cf := mkCf GLO N_parted fns_parted [] [] 400 o_parted
def F_parted : Fn := (cFn cf_parted 60 true (Hd.top 152)).getD noF
def N_alike : List Str := ["house", "one", "other", "facts"]
def fns_alike : List (Str × Nat × Fn) := [("need_two", 4, F_need_two), ("parted", 4, F_parted)]
def o_alike : Own := {}
def cf_alike : Cf := mkCf GLO N_alike fns_alike [] [] 400 o_alike
def F_alike : Fn := (cFn cf_alike 60 true (Hd.top 153)).getD noF
def N_parting : List Str := ["house", "one", "other", "facts"]
def fns_parting : List (Str × Nat × Fn) := [("need_two", 4, F_need_two), ("parted", 4, F_parted)]
def o_parting : Own := {}
def cf_parting : Cf := mkCf GLO N_parting fns_parting [] [] 400 o_parting
def F_parting : Fn := (cFn cf_parting 60 true (Hd.top 154)).getD noF
def N_never_worse : List Str := ["house", "one", "other", "facts"]
def fns_never_worse : List (Str × Nat × Fn) := [("need_two", 4, F_need_two), ("worse_weights", 4, F_worse_weights)]
def o_never_worse : Own := {}
def cf_never_worse : Cf := mkCf GLO N_never_worse fns_never_worse [] [] 400 o_never_worse
def F_never_worse : Fn := (cFn cf_never_worse 60 true (Hd.top 155)).getD noF
def N_needless : List Str := ["house", "pile", "facts", "bare", "plank"]
def fns_needless : List (Str × Nat × Fn) := [("need_case", 3, F_need_case), ("need_possible", 2, F_need_possible), ("planks_of", 1, F_planks_of), ("is_bare", 3, F_is_bare), ("is_sure", 3, F_is_sure), ("less", 2, F_less)]
def o_needless : Own := {}
def cf_needless : Cf := mkCf GLO N_needless fns_needless [] [] 400 o_needless
def F_needless : Fn := (cFn cf_needless 60 true (Hd.top 156)).getD noF
def N_is_less : List Str := ["one", "other"]
def fns_is_less : List (Str × Nat × Fn) := []
def o_is_less : Own := {}
def cf_is_less : Cf := mkCf GLO N_is_less fns_is_less [] [] 400 o_is_less
def F_is_less : Fn := (cFn cf_is_less 60 true (Hd.top 158)).getD noF
def N_later : List Str := ["one", "other"]
def fns_later : List (Str × Nat × Fn) := [("is_less", 2, F_is_less)]
def o_later : Own := {}
def cf_later : Cf := mkCf GLO N_later fns_later [] [] 400 o_later
def F_later : Fn := (cFn cf_later 60 true (Hd.top 159)).getD noF
def N_sooner : List Str := ["one", "other"]
def fns_sooner : List (Str × Nat × Fn) := [("is_less", 2, F_is_less)]
def o_sooner : Own := {}
def cf_sooner : Cf := mkCf GLO N_sooner fns_sooner [] [] 400 o_sooner
def F_sooner : Fn := (cFn cf_sooner 60 true (Hd.top 160)).getD noF
def N_free_spans : List Str := ["house", "pile", "plank", "left", "right", "some", "found", "low", "first", "last", "contact"]
def fns_free_spans : List (Str × Nat × Fn) := [("ends_of", 2, F_ends_of), ("ascending", 1, F_ascending), ("triple_of", 2, F_triple_of), ("contacts_of", 2, F_contacts_of)]
def o_free_spans : Own := {}
def cf_free_spans : Cf := mkCf GLO N_free_spans fns_free_spans [] [] 400 o_free_spans
def F_free_spans : Fn := (cFn cf_free_spans 60 true (Hd.top 161)).getD noF
def N_borne_span : List Str := ["house", "pile", "plank", "order", "left", "right", "low", "high", "motion", "rise", "turn", "triple"]
def fns_borne_span : List (Str × Nat × Fn) := [("ends_of", 2, F_ends_of), ("outermost", 2, F_outermost), ("triple_of", 2, F_triple_of), ("is_less", 2, F_is_less), ("later", 2, F_later), ("lowest", 2, F_lowest), ("sooner", 2, F_sooner)]
def o_borne_span : Own := {}
def cf_borne_span : Cf := mkCf GLO N_borne_span fns_borne_span [] [] 400 o_borne_span
def F_borne_span : Fn := (cFn cf_borne_span 60 true (Hd.top 162)).getD noF
def N_is_free : List Str := ["house", "pile", "place", "triple", "some", "low", "high"]
def fns_is_free : List (Str × Nat × Fn) := [("triple_of", 2, F_triple_of), ("free_spans", 3, F_free_spans), ("is_tuple", 3, F_is_tuple), ("is_fraction", 1, F_is_fraction), ("is_less", 2, F_is_less)]
def o_is_free : Own := {}
def cf_is_free : Cf := mkCf GLO N_is_free fns_is_free [] [] 400 o_is_free
def F_is_free : Fn := (cFn cf_is_free 60 true (Hd.top 163)).getD noF
def N_spans : List Str := ["house", "pile", "facts", "plank", "borne", "found", "first", "last", "low", "high"]
def fns_spans : List (Str × Nat × Fn) := [("need_case", 3, F_need_case), ("need_plank", 2, F_need_plank), ("need_possible", 2, F_need_possible), ("free_spans", 3, F_free_spans), ("is_sure", 3, F_is_sure), ("borne_span", 3, F_borne_span), ("later", 2, F_later), ("sooner", 2, F_sooner), ("is_less", 2, F_is_less)]
def o_spans : Own := {}
def cf_spans : Cf := mkCf GLO N_spans fns_spans [] [] 400 o_spans
def F_spans : Fn := (cFn cf_spans 60 true (Hd.top 164)).getD noF
def N_greatest_load : List Str := ["house", "pile", "weights", "place", "order", "best", "motion", "rise", "turn", "top", "found", "triple"]
def fns_greatest_load : List (Str × Nat × Fn) := [("need_known", 3, F_need_known), ("need_standing", 3, F_need_standing), ("outermost", 2, F_outermost), ("is_free", 3, F_is_free), ("lowest", 2, F_lowest), ("sooner", 2, F_sooner), ("sunk", 4, F_sunk)]
def o_greatest_load : Own := {}
def cf_greatest_load : Cf := mkCf GLO N_greatest_load fns_greatest_load [] [] 400 o_greatest_load
def F_greatest_load : Fn := (cFn cf_greatest_load 60 true (Hd.top 165)).getD noF
def N_line_of : List Str := ["triple", "part"]
def fns_line_of : List (Str × Nat × Fn) := []
def o_line_of : Own := {}
def cf_line_of : Cf := mkCf GLO N_line_of fns_line_of [] [] 400 o_line_of
def F_line_of : Fn := (cFn cf_line_of 60 true (Hd.top 168)).getD noF
def N_text_of : List Str := ["pile", "triple"]
def fns_text_of : List (Str × Nat × Fn) := [("line_of", 1, F_line_of)]
def o_text_of : Own := {}
def cf_text_of : Cf := mkCf GLO N_text_of fns_text_of [] [] 400 o_text_of
def F_text_of : Fn := (cFn cf_text_of 60 true (Hd.top 169)).getD noF
def N_number_in : List Str := ["word", "rest", "sign"]
def fns_number_in : List (Str × Nat × Fn) := []
def o_number_in : Own := { gls := [("DIGITS", "0123456789")] }
def cf_number_in : Cf := mkCf GLO N_number_in fns_number_in [] [] 400 o_number_in
def F_number_in : Fn := (cFn cf_number_in 60 true (Hd.top 170)).getD noF
def N_triple_in : List Str := ["line", "word"]
def fns_triple_in : List (Str × Nat × Fn) := [("number_in", 1, F_number_in)]
def o_triple_in : Own := {}
def cf_triple_in : Cf := mkCf GLO N_triple_in fns_triple_in [] [] 400 o_triple_in
def F_triple_in : Fn := (cFn cf_triple_in 60 true (Hd.top 171)).getD noF
def N_pile_in : List Str := ["house", "value", "lines", "found", "bad", "line", "at", "one"]
def fns_pile_in : List (Str × Nat × Fn) := [("is_good_pile", 2, F_is_good_pile), ("triple_in", 1, F_triple_in), ("is_triple", 2, F_is_triple)]
def o_pile_in : Own := {}
def cf_pile_in : Cf := mkCf GLO N_pile_in fns_pile_in [] [] 400 o_pile_in
def F_pile_in : Fn := (cFn cf_pile_in 60 true (Hd.top 172)).getD noF
def N_pile_text : List Str := ["house", "pile"]
def fns_pile_text : List (Str × Nat × Fn) := [("need_house", 1, F_need_house), ("need_pile", 2, F_need_pile), ("text_of", 1, F_text_of)]
def o_pile_text : Own := {}
def cf_pile_text : Cf := mkCf GLO N_pile_text fns_pile_text [] [] 400 o_pile_text
def F_pile_text : Fn := (cFn cf_pile_text 60 true (Hd.top 173)).getD noF
def N_read_pile : List Str := ["house", "value"]
def fns_read_pile : List (Str × Nat × Fn) := [("need_house", 1, F_need_house), ("pile_in", 2, F_pile_in)]
def o_read_pile : Own := {}
def cf_read_pile : Cf := mkCf GLO N_read_pile fns_read_pile [] [] 400 o_read_pile
def F_read_pile : Fn := (cFn cf_read_pile 60 true (Hd.top 174)).getD noF
def N_need_good : List Str := ["house", "pile"]
def fns_need_good : List (Str × Nat × Fn) := [("is_good_pile", 2, F_is_good_pile)]
def o_need_good : Own := {}
def cf_need_good : Cf := mkCf GLO N_need_good fns_need_good [] [] 400 o_need_good
def F_need_good : Fn := (cFn cf_need_good 60 true (Hd.top 176)).getD noF
def N_in_order : List Str := ["house", "triples", "found", "triple", "before", "one"]
def fns_in_order : List (Str × Nat × Fn) := [("is_triple", 2, F_is_triple)]
def o_in_order : Own := {}
def cf_in_order : Cf := mkCf GLO N_in_order fns_in_order [] [] 400 o_in_order
def F_in_order : Fn := (cFn cf_in_order 60 true (Hd.top 177)).getD noF
def N_with_plank : List Str := ["house", "pile", "pair", "step", "found"]
def fns_with_plank : List (Str × Nat × Fn) := [("is_step", 2, F_is_step), ("stepped", 3, F_stepped)]
def o_with_plank : Own := {}
def cf_with_plank : Cf := mkCf GLO N_with_plank fns_with_plank [] [] 400 o_with_plank
def F_with_plank : Fn := (cFn cf_with_plank 60 true (Hd.top 178)).getD noF
def N_without_plank : List Str := ["house", "pile", "plank", "found"]
def fns_without_plank : List (Str × Nat × Fn) := [("is_step", 2, F_is_step), ("stepped", 3, F_stepped)]
def o_without_plank : Own := {}
def cf_without_plank : Cf := mkCf GLO N_without_plank fns_without_plank [] [] 400 o_without_plank
def F_without_plank : Fn := (cFn cf_without_plank 60 true (Hd.top 179)).getD noF
def N_turned : List Str := ["house", "pile", "plank", "left", "level"]
def fns_turned : List (Str × Nat × Fn) := []
def o_turned : Own := {}
def cf_turned : Cf := mkCf GLO N_turned fns_turned [] [] 400 o_turned
def F_turned : Fn := (cFn cf_turned 60 true (Hd.top 180)).getD noF
def N_Pile_house : List Str := ["self"]
def fns_Pile_house : List (Str × Nat × Fn) := []
def o_Pile_house : Own := { flds := [("Pile", "home")] }
def cf_Pile_house : Cf := mkCf GLO N_Pile_house fns_Pile_house [] [] 400 o_Pile_house
def F_Pile_house : Fn := (cFn cf_Pile_house 60 true (Hd.mt 182 3)).getD noF
def N_Pile_source : List Str := ["self"]
def fns_Pile_source : List (Str × Nat × Fn) := []
def o_Pile_source : Own := { flds := [("Pile", "base")] }
def cf_Pile_source : Cf := mkCf GLO N_Pile_source fns_Pile_source [] [] 400 o_Pile_source
def F_Pile_source : Fn := (cFn cf_Pile_source 60 true (Hd.mt 182 4)).getD noF
def N_need_like : List Str := ["one", "other"]
def fns_need_like : List (Str × Nat × Fn) := [("planks_of", 1, F_planks_of)]
def o_need_like : Own := { props := [("Yard", "house", F_Yard_house), ("Pile", "house", F_Pile_house), ("Pile", "source", F_Pile_source)] }
def cf_need_like : Cf := mkCf GLO N_need_like fns_need_like [] [] 400 o_need_like
def F_need_like : Fn := (cFn cf_need_like 60 true (Hd.top 181)).getD noF
def N_Pile_init : List Str := ["self", "house", "triples"]
def fns_Pile_init : List (Str × Nat × Fn) := [("need_house", 1, F_need_house), ("need_good", 2, F_need_good), ("in_order", 2, F_in_order)]
def o_Pile_init : Own := { flds := [("Pile", "home"), ("Pile", "base")] }
def cf_Pile_init : Cf := mkCf GLO N_Pile_init fns_Pile_init [] [] 400 o_Pile_init
def F_Pile_init : Fn := (cFn cf_Pile_init 60 true (Hd.mt 182 1)).getD noF
def N_Pile_read : List Str := ["cls", "house", "value", "found"]
def fns_Pile_read : List (Str × Nat × Fn) := [("need_house", 1, F_need_house), ("pile_in", 2, F_pile_in)]
def o_Pile_read : Own := { mks := [("Pile", (stF 2 F_Pile_init))] }
def cf_Pile_read : Cf := mkCf GLO N_Pile_read fns_Pile_read [] [] 400 o_Pile_read
def F_Pile_read : Fn := (cFn cf_Pile_read 60 true (Hd.mt 182 2)).getD noF
def N_Pile_add : List Str := ["self", "pair", "found"]
def fns_Pile_add : List (Str × Nat × Fn) := [("with_plank", 3, F_with_plank)]
def o_Pile_add : Own := { flds := [("Pile", "home"), ("Pile", "base")], mks := [("Pile", (stF 2 F_Pile_init))] }
def cf_Pile_add : Cf := mkCf GLO N_Pile_add fns_Pile_add [] [] 400 o_Pile_add
def F_Pile_add : Fn := (cFn cf_Pile_add 60 true (Hd.mt 182 5)).getD noF
def N_Pile_sub : List Str := ["self", "plank", "found"]
def fns_Pile_sub : List (Str × Nat × Fn) := [("without_plank", 3, F_without_plank)]
def o_Pile_sub : Own := { flds := [("Pile", "home"), ("Pile", "base")], mks := [("Pile", (stF 2 F_Pile_init))] }
def cf_Pile_sub : Cf := mkCf GLO N_Pile_sub fns_Pile_sub [] [] 400 o_Pile_sub
def F_Pile_sub : Fn := (cFn cf_Pile_sub 60 true (Hd.mt 182 6)).getD noF
def N_Pile_invert : List Str := ["self", "found"]
def fns_Pile_invert : List (Str × Nat × Fn) := [("need_good", 2, F_need_good), ("turned", 2, F_turned)]
def o_Pile_invert : Own := { flds := [("Pile", "home"), ("Pile", "base")], mks := [("Pile", (stF 2 F_Pile_init))] }
def cf_Pile_invert : Cf := mkCf GLO N_Pile_invert fns_Pile_invert [] [] 400 o_Pile_invert
def F_Pile_invert : Fn := (cFn cf_Pile_invert 60 true (Hd.mt 182 7)).getD noF
def N_Pile_iadd : List Str := ["self", "pair"]
def fns_Pile_iadd : List (Str × Nat × Fn) := [("with_plank", 3, F_with_plank)]
def o_Pile_iadd : Own := { flds := [("Pile", "base"), ("Pile", "home")] }
def cf_Pile_iadd : Cf := mkCf GLO N_Pile_iadd fns_Pile_iadd [] [] 400 o_Pile_iadd
def F_Pile_iadd : Fn := (cFn cf_Pile_iadd 60 true (Hd.mt 182 8)).getD noF
def N_Pile_isub : List Str := ["self", "plank"]
def fns_Pile_isub : List (Str × Nat × Fn) := [("without_plank", 3, F_without_plank)]
def o_Pile_isub : Own := { flds := [("Pile", "base"), ("Pile", "home")] }
def cf_Pile_isub : Cf := mkCf GLO N_Pile_isub fns_Pile_isub [] [] 400 o_Pile_isub
def F_Pile_isub : Fn := (cFn cf_Pile_isub 60 true (Hd.mt 182 9)).getD noF
def N_Pile_call : List Str := ["self", "weights"]
def fns_Pile_call : List (Str × Nat × Fn) := [("need_weights", 2, F_need_weights), ("does_stand", 3, F_does_stand)]
def o_Pile_call : Own := { flds := [("Pile", "home"), ("Pile", "base")] }
def cf_Pile_call : Cf := mkCf GLO N_Pile_call fns_Pile_call [] [] 400 o_Pile_call
def F_Pile_call : Fn := (cFn cf_Pile_call 60 true (Hd.mt 182 10)).getD noF
def N_Pile_getitem : List Str := ["self", "plank"]
def fns_Pile_getitem : List (Str × Nat × Fn) := [("need_plank", 2, F_need_plank), ("triple_of", 2, F_triple_of)]
def o_Pile_getitem : Own := { flds := [("Pile", "base")] }
def cf_Pile_getitem : Cf := mkCf GLO N_Pile_getitem fns_Pile_getitem [] [] 400 o_Pile_getitem
def F_Pile_getitem : Fn := (cFn cf_Pile_getitem 60 true (Hd.mt 182 11)).getD noF
def N_Pile_contains : List Str := ["self", "value"]
def fns_Pile_contains : List (Str × Nat × Fn) := [("is_number", 3, F_is_number), ("triple_of", 2, F_triple_of)]
def o_Pile_contains : Own := { flds := [("Pile", "base")] }
def cf_Pile_contains : Cf := mkCf GLO N_Pile_contains fns_Pile_contains [] [] 400 o_Pile_contains
def F_Pile_contains : Fn := (cFn cf_Pile_contains 60 true (Hd.mt 182 12)).getD noF
def N_Pile_len : List Str := ["self"]
def fns_Pile_len : List (Str × Nat × Fn) := []
def o_Pile_len : Own := { flds := [("Pile", "base")] }
def cf_Pile_len : Cf := mkCf GLO N_Pile_len fns_Pile_len [] [] 400 o_Pile_len
def F_Pile_len : Fn := (cFn cf_Pile_len 60 true (Hd.mt 182 13)).getD noF
def N_Pile_bool : List Str := ["self"]
def fns_Pile_bool : List (Str × Nat × Fn) := [("is_sure", 3, F_is_sure)]
def o_Pile_bool : Own := { flds := [("Pile", "home"), ("Pile", "base")] }
def cf_Pile_bool : Cf := mkCf GLO N_Pile_bool fns_Pile_bool [] [] 400 o_Pile_bool
def F_Pile_bool : Fn := (cFn cf_Pile_bool 60 true (Hd.mt 182 14)).getD noF
def N_Pile_le : List Str := ["self", "other"]
def fns_Pile_le : List (Str × Nat × Fn) := [("need_like", 2, F_need_like), ("worse_weights", 4, F_worse_weights)]
def o_Pile_le : Own := { flds := [("Pile", "home"), ("Pile", "base")], cls := ["Pile"] }
def cf_Pile_le : Cf := mkCf GLO N_Pile_le fns_Pile_le [] [] 400 o_Pile_le
def F_Pile_le : Fn := (cFn cf_Pile_le 60 true (Hd.mt 182 16)).getD noF
def N_Pile_lt : List Str := ["self", "other"]
def fns_Pile_lt : List (Str × Nat × Fn) := [("need_like", 2, F_need_like), ("worse_weights", 4, F_worse_weights)]
def o_Pile_lt : Own := { flds := [("Pile", "home"), ("Pile", "base")], cls := ["Pile"] }
def cf_Pile_lt : Cf := mkCf GLO N_Pile_lt fns_Pile_lt [] [] 400 o_Pile_lt
def F_Pile_lt : Fn := (cFn cf_Pile_lt 60 true (Hd.mt 182 17)).getD noF
def N_Pile_eq : List Str := ["self", "other"]
def fns_Pile_eq : List (Str × Nat × Fn) := []
def o_Pile_eq : Own := { flds := [("Pile", "home"), ("Yard", "home"), ("Pile", "base")], cls := ["Pile"] }
def cf_Pile_eq : Cf := mkCf GLO N_Pile_eq fns_Pile_eq [] [] 400 o_Pile_eq
def F_Pile_eq : Fn := (cFn cf_Pile_eq 60 true (Hd.mt 182 18)).getD noF
def N_Pile_str : List Str := ["self", "triple"]
def fns_Pile_str : List (Str × Nat × Fn) := [("line_of", 1, F_line_of)]
def o_Pile_str : Own := { flds := [("Pile", "base")] }
def cf_Pile_str : Cf := mkCf GLO N_Pile_str fns_Pile_str [] [] 400 o_Pile_str
def F_Pile_str : Fn := (cFn cf_Pile_str 60 true (Hd.mt 182 19)).getD noF
def N_L_source : List Str := ["script", "k", "cell"]
def fns_L_source : List (Str × Nat × Fn) := []
def o_L_source : Own := {}
def cf_L_source : Cf := mkCf GLO N_L_source fns_L_source [(950, 11, 49), (949, 15, 66)] [] 400 o_L_source
def F_L_source : Fn := (cFn cf_L_source 60 true (Hd.top 184)).getD noF
def N_L_draw : List Str := ["source", "many", "found"]
def fns_L_draw : List (Str × Nat × Fn) := []
def o_L_draw : Own := {}
def cf_L_draw : Cf := mkCf GLO N_L_draw fns_L_draw [] [] 400 o_L_draw
def F_L_draw : Fn := (cFn cf_L_draw 60 true (Hd.top 185)).getD noF
def N_L_some : List Str := ["edge", "over", "held", "arch"]
def fns_L_some : List (Str × Nat × Fn) := []
def o_L_some : Own := {}
def cf_L_some : Cf := mkCf GLO N_L_some fns_L_some [] [] 400 o_L_some
def F_L_some : Fn := (cFn cf_L_some 60 true (Hd.top 186)).getD noF
def N_L_first_right : List Str := ["house", "other", "edge", "over", "held", "arch", "weights", "light", "found", "due", "both", "pile"]
def fns_L_first_right : List (Str × Nat × Fn) := [("_law_some", 0, F_L_some), ("is_script", 2, F_is_script), ("bears", 4, F_bears), ("is_house", 1, F_is_house), ("is_pile", 2, F_is_pile), ("keep", 3, F_keep), ("contacts", 2, F_contacts), ("topples", 4, F_topples), ("stands", 3, F_stands), ("forces", 3, F_forces), ("motion", 3, F_motion)]
def o_L_first_right : Own := {}
def cf_L_first_right : Cf := mkCf GLO N_L_first_right fns_L_first_right [(965, 12, 84)] [] 400 o_L_first_right
def F_L_first_right : Fn := (cFn cf_L_first_right 60 true (Hd.top 187)).getD noF
def T_spans : List (List D × D) := [([.tup [.int (4), .tup [.int (4), .int (4), .int (2)]], .tup [.tup [.int (0), .int (3), .int (0)], .tup [.int (2), .int (2), .int (1)]], .tup [.tup [.str "upto", .tup [.int (0)], .tup [.int (2)]]], .int (0)], .lst [.tup [.tup [.int (3), .int (1)], .tup [.int (3), .int (1)]], .tup [.tup [.int (4), .int (1)], .tup [.int (4), .int (1)]]]), ([.tup [.int (4), .tup [.int (4), .int (4), .int (2)]], .tup [.tup [.int (0), .int (3), .int (0)], .tup [.int (2), .int (2), .int (1)]], .tup [.tup [.str "upto", .tup [.int (0)], .tup [.int (2)]]], .int (2)], .lst [.tup [.tup [.int (3), .int (1)], .tup [.int (4), .int (1)]]]), ([.tup [.int (4), .tup [.int (4), .int (4), .int (2)]], .tup [.tup [.int (0), .int (3), .int (0)], .tup [.int (2), .int (2), .int (1)]], .tup [], .int (2)], .lst []), ([.tup [.int (4), .tup [.int (4), .int (4), .int (2)]], .tup [.tup [.int (0), .int (2), .int (0)]], .tup [], .int (0)], .lst [.tup [.tup [.int (2), .int (1)], .tup [.int (4), .int (1)]]]), ([.tup [.int (8), .tup [.int (2), .int (2), .int (6)]], .tup [.tup [.int (0), .int (0), .int (0)], .tup [.int (1), .int (6), .int (0)], .tup [.int (2), .int (1), .int (1)]], .tup [], .int (2)], .lst [.tup [.tup [.int (1), .int (1)], .tup [.int (7), .int (1)]]])]
def T_borne : List (List D × D) := [([.tup [.int (8), .tup [.int (2), .int (2), .int (6)]], .tup [.tup [.int (0), .int (0), .int (0)], .tup [.int (1), .int (6), .int (0)], .tup [.int (2), .int (1), .int (1)]], .tup [.int (1), .int (1), .int (4)], .int (2)], .lst [.tup [.tup [.int (2), .int (0)], .tup [.tup [.int (8), .int (5)], .tup [.int (12), .int (5)]]], .tup [.tup [.int (2), .int (1)], .tup [.tup [.int (8), .int (5)], .tup [.int (12), .int (5)]]]])]
def T_bearing : List (List D × D) := [([.tup [.int (4), .tup [.int (4), .int (4), .int (2)]], .tup [.tup [.int (0), .int (3), .int (0)], .tup [.int (2), .int (2), .int (1)]], .tup [.int (1), .int (1), .int (2)], .tup [.int (0), .int (-1)]], .tup [.tup [.int (3), .int (1)], .tup [.int (3), .int (1)]]), ([.tup [.int (4), .tup [.int (4), .int (4), .int (2)]], .tup [.tup [.int (0), .int (3), .int (0)], .tup [.int (2), .int (2), .int (1)]], .tup [.int (1), .int (1), .int (2)], .tup [.int (2), .int (0)]], .tup [.tup [.int (2), .int (1)], .tup [.int (2), .int (1)]])]
def T_greatest_load : List (List D × D) := [([.tup [.int (4), .tup [.int (4), .int (4), .int (2)]], .tup [.tup [.int (0), .int (3), .int (0)], .tup [.int (2), .int (2), .int (1)]], .tup [.int (1), .int (1), .int (2)], .tup [.int (0), .tup [.int (5), .int (1)]]], .tup [.int (1), .int (1)]), ([.tup [.int (4), .tup [.int (4), .int (4), .int (2)]], .tup [.tup [.int (0), .int (3), .int (0)], .tup [.int (2), .int (2), .int (1)]], .tup [.int (1), .int (1), .int (2)], .tup [.int (0), .tup [.int (4), .int (1)]]], .non), ([.tup [.int (4), .tup [.int (4), .int (4), .int (2)]], .tup [.tup [.int (0), .int (2), .int (0)]], .tup [.int (1), .int (1), .int (2)], .tup [.int (0), .tup [.int (9), .int (2)]]], .tup [.int (0), .int (1)])]
def T_least_facts : List (List D × D) := [([.tup [.int (4), .tup [.int (4), .int (4), .int (2)]], .tup [.tup [.int (0), .int (3), .int (0)], .tup [.int (2), .int (2), .int (1)]], .tup [.tup [.str "upto", .tup [.int (0)], .tup [.int (2)]], .tup [.str "upto", .tup [.int (0), .int (1)], .tup [.int (2)]]]], .lst [.tup [.int (0)], .tup [.int (1)]]), ([.tup [.int (4), .tup [.int (4), .int (4), .int (2)]], .tup [.tup [.int (0), .int (2), .int (0)]], .tup [.tup [.str "upto", .tup [.int (0)], .tup [.int (2)]]]], .lst [.tup []]), ([.tup [.int (4), .tup [.int (4), .int (4), .int (2)]], .tup [.tup [.int (0), .int (3), .int (0)]], .tup [.tup [.str "upto", .tup [.int (0)], .tup [.int (2)]]]], .lst [])]
def N_L_second_right : List Str := ["house", "other", "edge", "over", "held", "arch", "weights", "light", "found", "due", "pile"]
def fns_L_second_right : List (Str × Nat × Fn) := [("_law_some", 0, F_L_some), ("stands", 3, F_stands), ("can_fall", 3, F_can_fall), ("always", 3, F_always), ("can_stand", 3, F_can_stand), ("least_facts", 3, (tabF T_least_facts)), ("spans", 4, (tabF T_spans)), ("greatest_load", 4, (tabF T_greatest_load)), ("bearing", 4, (tabF T_bearing)), ("conditions", 2, F_conditions), ("borne", 4, (tabF T_borne))]
def o_L_second_right : Own := {}
def cf_L_second_right : Cf := mkCf GLO N_L_second_right fns_L_second_right [(983, 12, 93)] [] 400 o_L_second_right
def F_L_second_right : Fn := (cFn cf_L_second_right 60 true (Hd.top 188)).getD noF
def N_L_third_right : List Str := ["house", "other", "edge", "over", "held", "arch", "light", "near", "found"]
def fns_L_third_right : List (Str × Nat × Fn) := [("_law_some", 0, F_L_some), ("pile_behind", 2, F_pile_behind), ("first_fall", 3, F_first_fall), ("lay_orders", 3, F_lay_orders), ("take_orders", 3, F_take_orders), ("safe_places", 4, F_safe_places), ("alike", 4, F_alike), ("stands", 3, F_stands), ("never_worse", 4, F_never_worse), ("parting", 4, F_parting), ("needless", 3, F_needless), ("pile_text", 2, F_pile_text), ("read_pile", 2, F_read_pile)]
def o_L_third_right : Own := {}
def cf_L_third_right : Cf := mkCf GLO N_L_third_right fns_L_third_right [(1006, 12, 72)] [] 400 o_L_third_right
def F_L_third_right : Fn := (cFn cf_L_third_right 60 true (Hd.top 189)).getD noF
def N_L_fourth_right : List Str := ["house", "other", "edge", "over", "held", "arch", "value", "near", "found", "yard"]
def fns_L_fourth_right : List (Str × Nat × Fn) := [("_law_some", 0, F_L_some)]
def o_L_fourth_right : Own := { mts := [("Yard", "heavy", (arF 1 F_Yard_heavy)), ("Yard", "take", (arF 2 F_Yard_take)), ("Yard", "undo", (arF 1 F_Yard_undo)), ("Yard", "slide", (arF 3 F_Yard_slide)), ("Yard", "lay", (arF 3 F_Yard_lay)), ("Yard", "__iadd__", (arF 2 F_Yard_iadd)), ("Yard", "__getitem__", (arF 2 F_Yard_getitem)), ("Yard", "__contains__", (arF 2 F_Yard_contains)), ("Yard", "__len__", (arF 1 F_Yard_len)), ("Yard", "__bool__", (arF 1 F_Yard_bool)), ("Yard", "__eq__", (arF 2 F_Yard_eq)), ("Pile", "__add__", (arF 2 F_Pile_add)), ("Pile", "__sub__", (arF 2 F_Pile_sub)), ("Pile", "__invert__", (arF 1 F_Pile_invert)), ("Pile", "__iadd__", (arF 2 F_Pile_iadd)), ("Pile", "__isub__", (arF 2 F_Pile_isub)), ("Pile", "__call__", (arF 2 F_Pile_call)), ("Pile", "__getitem__", (arF 2 F_Pile_getitem)), ("Pile", "__contains__", (arF 2 F_Pile_contains)), ("Pile", "__len__", (arF 1 F_Pile_len)), ("Pile", "__bool__", (arF 1 F_Pile_bool)), ("Pile", "__le__", (arF 2 F_Pile_le)), ("Pile", "__lt__", (arF 2 F_Pile_lt)), ("Pile", "__eq__", (arF 2 F_Pile_eq)), ("Pile", "__str__", (arF 1 F_Pile_str))], props := [("Pile", "source", F_Pile_source), ("Yard", "pile", F_Yard_pile), ("Yard", "steps", F_Yard_steps)], mks := [("Yard", (arF 3 F_Yard_init)), ("Pile", (stF 2 F_Pile_init))], cms := [("Pile", "read", (arF 3 F_Pile_read))], gens := [("Yard", "log", F_Yard_log)], cls := ["Pile", "Yard"] }
def cf_L_fourth_right : Cf := mkCf GLO N_L_fourth_right fns_L_fourth_right [(1025, 12, 80)] [] 400 o_L_fourth_right
def F_L_fourth_right : Fn := (cFn cf_L_fourth_right 60 true (Hd.top 190)).getD noF
def N_law : List Str := ["script", "k", "source"]
def fns_law : List (Str × Nat × Fn) := [("_law_source", 2, C_source), ("_law_first_right", 0, (rowZ 12)), ("_law_draw", 2, C_draw), ("_law_fourth_right", 0, (rowZ 11)), ("_law_second_right", 0, (rowZ 19)), ("_law_third_right", 0, (rowZ 16))]
def o_law : Own := {}
def cf_law : Cf := mkCf GLO N_law fns_law [] [] 400 o_law
def F_law : Fn := (cFn cf_law 60 false (Hd.top 191)).getD noF
theorem s_wall : scopeB N_wall ["k"] (defScope (Hd.top 0)) = true := by kernel_rfl
theorem c_wall : (cFn cf_wall 60 true (Hd.top 0)).isSome = true := by kernel_rfl
theorem s_divisor : scopeB N_divisor ["numbers"] (defScope (Hd.top 19)) = true := by kernel_rfl
theorem c_divisor : (cFn cf_divisor 60 true (Hd.top 19)).isSome = true := by kernel_rfl
theorem s_lowest : scopeB N_lowest ["top", "below"] (defScope (Hd.top 20)) = true := by kernel_rfl
theorem c_lowest : (cFn cf_lowest 60 true (Hd.top 20)).isSome = true := by kernel_rfl
theorem s_neat : scopeB N_neat ["numbers"] (defScope (Hd.top 21)) = true := by kernel_rfl
theorem c_neat : (cFn cf_neat 60 true (Hd.top 21)).isSome = true := by kernel_rfl
theorem s_table_of : scopeB N_table_of ["lines"] (defScope (Hd.top 22)) = true := by kernel_rfl
theorem c_table_of : (cFn cf_table_of 60 true (Hd.top 22)).isSome = true := by kernel_rfl
theorem s_cleared : scopeB N_cleared ["line", "pivot", "at"] (defScope (Hd.top 23)) = true := by kernel_rfl
theorem c_cleared : (cFn cf_cleared 60 true (Hd.top 23)).isSome = true := by kernel_rfl
theorem s_leaving : scopeB N_leaving ["table", "basis", "at"] (defScope (Hd.top 24)) = true := by kernel_rfl
theorem c_leaving : (cFn cf_leaving 60 true (Hd.top 24)).isSome = true := by kernel_rfl
theorem s_numbers_of : scopeB N_numbers_of ["table", "basis", "many"] (defScope (Hd.top 25)) = true := by kernel_rfl
theorem c_numbers_of : (cFn cf_numbers_of 60 true (Hd.top 25)).isSome = true := by kernel_rfl
theorem s_greatest : scopeB N_greatest ["lines", "goal", "watched"] (defScope (Hd.top 26)) = true := by kernel_rfl
theorem c_greatest : (cFn cf_greatest 60 true (Hd.top 26)).isSome = true := by kernel_rfl
theorem s_solution : scopeB N_solution ["rows", "many"] (defScope (Hd.top 27)) = true := by kernel_rfl
theorem c_solution : (cFn cf_solution 60 true (Hd.top 27)).isSome = true := by kernel_rfl
theorem s_greatest_worth : scopeB N_greatest_worth ["rows", "line", "many", "high"] (defScope (Hd.top 28)) = true := by kernel_rfl
theorem c_greatest_worth : (cFn cf_greatest_worth 60 true (Hd.top 28)).isSome = true := by kernel_rfl
theorem s_is_number : scopeB N_is_number ["value", "least", "most"] (defScope (Hd.top 33)) = true := by kernel_rfl
theorem c_is_number : (cFn cf_is_number 60 true (Hd.top 33)).isSome = true := by kernel_rfl
theorem s_is_tuple : scopeB N_is_tuple ["value", "least", "most"] (defScope (Hd.top 34)) = true := by kernel_rfl
theorem c_is_tuple : (cFn cf_is_tuple 60 true (Hd.top 34)).isSome = true := by kernel_rfl
theorem s_is_fraction : scopeB N_is_fraction ["value"] (defScope (Hd.top 35)) = true := by kernel_rfl
theorem c_is_fraction : (cFn cf_is_fraction 60 true (Hd.top 35)).isSome = true := by kernel_rfl
theorem s_is_good_house : scopeB N_is_good_house ["value"] (defScope (Hd.top 36)) = true := by kernel_rfl
theorem c_is_good_house : (cFn cf_is_good_house 60 true (Hd.top 36)).isSome = true := by kernel_rfl
theorem s_is_triple : scopeB N_is_triple ["house", "value"] (defScope (Hd.top 37)) = true := by kernel_rfl
theorem c_is_triple : (cFn cf_is_triple 60 true (Hd.top 37)).isSome = true := by kernel_rfl
theorem s_ends_of : scopeB N_ends_of ["house", "triple"] (defScope (Hd.top 38)) = true := by kernel_rfl
theorem c_ends_of : (cFn cf_ends_of 60 true (Hd.top 38)).isSome = true := by kernel_rfl
theorem s_ascending : scopeB N_ascending ["values"] (defScope (Hd.top 39)) = true := by kernel_rfl
theorem c_ascending : (cFn cf_ascending 60 true (Hd.top 39)).isSome = true := by kernel_rfl
theorem s_do_overlap : scopeB N_do_overlap ["one", "other"] (defScope (Hd.top 40)) = true := by kernel_rfl
theorem c_do_overlap : (cFn cf_do_overlap 60 true (Hd.top 40)).isSome = true := by kernel_rfl
theorem s_on_table : scopeB N_on_table ["house", "triple"] (defScope (Hd.top 41)) = true := by kernel_rfl
theorem c_on_table : (cFn cf_on_table 60 true (Hd.top 41)).isSome = true := by kernel_rfl
theorem s_held_by : scopeB N_held_by ["house", "pile", "triple"] (defScope (Hd.top 42)) = true := by kernel_rfl
theorem c_held_by : (cFn cf_held_by 60 true (Hd.top 42)).isSome = true := by kernel_rfl
theorem s_lies_well : scopeB N_lies_well ["house", "pile", "triple"] (defScope (Hd.top 43)) = true := by kernel_rfl
theorem c_lies_well : (cFn cf_lies_well 60 true (Hd.top 43)).isSome = true := by kernel_rfl
theorem s_is_good_pile : scopeB N_is_good_pile ["house", "value"] (defScope (Hd.top 44)) = true := by kernel_rfl
theorem c_is_good_pile : (cFn cf_is_good_pile 60 true (Hd.top 44)).isSome = true := by kernel_rfl
theorem s_contacts_of : scopeB N_contacts_of ["house", "pile"] (defScope (Hd.top 45)) = true := by kernel_rfl
theorem c_contacts_of : (cFn cf_contacts_of 60 true (Hd.top 45)).isSome = true := by kernel_rfl
theorem s_are_good_weights : scopeB N_are_good_weights ["house", "value"] (defScope (Hd.top 46)) = true := by kernel_rfl
theorem c_are_good_weights : (cFn cf_are_good_weights 60 true (Hd.top 46)).isSome = true := by kernel_rfl
theorem s_is_lot : scopeB N_is_lot ["house", "value"] (defScope (Hd.top 47)) = true := by kernel_rfl
theorem c_is_lot : (cFn cf_is_lot 60 true (Hd.top 47)).isSome = true := by kernel_rfl
theorem s_are_good_facts : scopeB N_are_good_facts ["house", "value"] (defScope (Hd.top 48)) = true := by kernel_rfl
theorem c_are_good_facts : (cFn cf_are_good_facts 60 true (Hd.top 48)).isSome = true := by kernel_rfl
theorem s_triple_of : scopeB N_triple_of ["pile", "plank"] (defScope (Hd.top 49)) = true := by kernel_rfl
theorem c_triple_of : (cFn cf_triple_of 60 true (Hd.top 49)).isSome = true := by kernel_rfl
theorem s_is_bare : scopeB N_is_bare ["house", "pile", "plank"] (defScope (Hd.top 50)) = true := by kernel_rfl
theorem c_is_bare : (cFn cf_is_bare 60 true (Hd.top 50)).isSome = true := by kernel_rfl
theorem s_less : scopeB N_less ["pile", "plank"] (defScope (Hd.top 51)) = true := by kernel_rfl
theorem c_less : (cFn cf_less 60 true (Hd.top 51)).isSome = true := by kernel_rfl
theorem s_laid : scopeB N_laid ["house", "pile", "plank", "left"] (defScope (Hd.top 52)) = true := by kernel_rfl
theorem c_laid : (cFn cf_laid 60 true (Hd.top 52)).isSome = true := by kernel_rfl
theorem s_is_step : scopeB N_is_step ["house", "value"] (defScope (Hd.top 53)) = true := by kernel_rfl
theorem c_is_step : (cFn cf_is_step 60 true (Hd.top 53)).isSome = true := by kernel_rfl
theorem s_stepped : scopeB N_stepped ["house", "pile", "step"] (defScope (Hd.top 54)) = true := by kernel_rfl
theorem c_stepped : (cFn cf_stepped 60 true (Hd.top 54)).isSome = true := by kernel_rfl
theorem s_piles_along : scopeB N_piles_along ["house", "script"] (defScope (Hd.top 55)) = true := by kernel_rfl
theorem c_piles_along : (cFn cf_piles_along 60 true (Hd.top 55)).isSome = true := by kernel_rfl
theorem s_is_good_script : scopeB N_is_good_script ["house", "value"] (defScope (Hd.top 56)) = true := by kernel_rfl
theorem c_is_good_script : (cFn cf_is_good_script 60 true (Hd.top 56)).isSome = true := by kernel_rfl
theorem s_count_in : scopeB N_count_in ["lot", "plank"] (defScope (Hd.top 57)) = true := by kernel_rfl
theorem c_count_in : (cFn cf_count_in 60 true (Hd.top 57)).isSome = true := by kernel_rfl
theorem s_weighed : scopeB N_weighed ["lot", "weights"] (defScope (Hd.top 58)) = true := by kernel_rfl
theorem c_weighed : (cFn cf_weighed 60 true (Hd.top 58)).isSome = true := by kernel_rfl
theorem s_keeps_facts : scopeB N_keeps_facts ["facts", "weights"] (defScope (Hd.top 59)) = true := by kernel_rfl
theorem c_keeps_facts : (cFn cf_keeps_facts 60 true (Hd.top 59)).isSome = true := by kernel_rfl
theorem s_need_house : scopeB N_need_house ["value"] (defScope (Hd.top 60)) = true := by kernel_rfl
theorem c_need_house : (cFn cf_need_house 60 true (Hd.top 60)).isSome = true := by kernel_rfl
theorem s_need_pile : scopeB N_need_pile ["house", "value"] (defScope (Hd.top 61)) = true := by kernel_rfl
theorem c_need_pile : (cFn cf_need_pile 60 true (Hd.top 61)).isSome = true := by kernel_rfl
theorem s_need_weights : scopeB N_need_weights ["house", "value"] (defScope (Hd.top 62)) = true := by kernel_rfl
theorem c_need_weights : (cFn cf_need_weights 60 true (Hd.top 62)).isSome = true := by kernel_rfl
theorem s_need_facts : scopeB N_need_facts ["house", "value"] (defScope (Hd.top 63)) = true := by kernel_rfl
theorem c_need_facts : (cFn cf_need_facts 60 true (Hd.top 63)).isSome = true := by kernel_rfl
theorem s_need_script : scopeB N_need_script ["house", "value"] (defScope (Hd.top 64)) = true := by kernel_rfl
theorem c_need_script : (cFn cf_need_script 60 true (Hd.top 64)).isSome = true := by kernel_rfl
theorem s_need_plank : scopeB N_need_plank ["pile", "value"] (defScope (Hd.top 65)) = true := by kernel_rfl
theorem c_need_plank : (cFn cf_need_plank 60 true (Hd.top 65)).isSome = true := by kernel_rfl
theorem s_need_case : scopeB N_need_case ["house", "pile", "facts"] (defScope (Hd.top 66)) = true := by kernel_rfl
theorem c_need_case : (cFn cf_need_case 60 true (Hd.top 66)).isSome = true := by kernel_rfl
theorem s_need_known : scopeB N_need_known ["house", "pile", "weights"] (defScope (Hd.top 67)) = true := by kernel_rfl
theorem c_need_known : (cFn cf_need_known 60 true (Hd.top 67)).isSome = true := by kernel_rfl
theorem s_is_house : scopeB N_is_house ["value"] (defScope (Hd.top 68)) = true := by kernel_rfl
theorem c_is_house : (cFn cf_is_house 60 true (Hd.top 68)).isSome = true := by kernel_rfl
theorem s_is_pile : scopeB N_is_pile ["house", "value"] (defScope (Hd.top 69)) = true := by kernel_rfl
theorem c_is_pile : (cFn cf_is_pile 60 true (Hd.top 69)).isSome = true := by kernel_rfl
theorem s_is_script : scopeB N_is_script ["house", "value"] (defScope (Hd.top 70)) = true := by kernel_rfl
theorem c_is_script : (cFn cf_is_script 60 true (Hd.top 70)).isSome = true := by kernel_rfl
theorem s_contacts : scopeB N_contacts ["house", "pile"] (defScope (Hd.top 71)) = true := by kernel_rfl
theorem c_contacts : (cFn cf_contacts 60 true (Hd.top 71)).isSome = true := by kernel_rfl
theorem s_keep : scopeB N_keep ["house", "facts", "weights"] (defScope (Hd.top 72)) = true := by kernel_rfl
theorem c_keep : (cFn cf_keep 60 true (Hd.top 72)).isSome = true := by kernel_rfl
theorem s_gone_up : scopeB N_gone_up ["motion", "order", "plank", "place"] (defScope (Hd.top 74)) = true := by kernel_rfl
theorem c_gone_up : (cFn cf_gone_up 60 true (Hd.top 74)).isSome = true := by kernel_rfl
theorem s_gap_at : scopeB N_gap_at ["motion", "order", "contact", "place"] (defScope (Hd.top 75)) = true := by kernel_rfl
theorem c_gap_at : (cFn cf_gap_at 60 true (Hd.top 75)).isSome = true := by kernel_rfl
theorem s_marks_of : scopeB N_marks_of ["contacts"] (defScope (Hd.top 76)) = true := by kernel_rfl
theorem c_marks_of : (cFn cf_marks_of 60 true (Hd.top 76)).isSome = true := by kernel_rfl
theorem s_main_contacts : scopeB N_main_contacts ["contacts"] (defScope (Hd.top 77)) = true := by kernel_rfl
theorem c_main_contacts : (cFn cf_main_contacts 60 true (Hd.top 77)).isSome = true := by kernel_rfl
theorem s_carried_by : scopeB N_carried_by ["mains", "plank"] (defScope (Hd.top 78)) = true := by kernel_rfl
theorem c_carried_by : (cFn cf_carried_by 60 true (Hd.top 78)).isSome = true := by kernel_rfl
theorem s_neat_motion : scopeB N_neat_motion ["motion"] (defScope (Hd.top 79)) = true := by kernel_rfl
theorem c_neat_motion : (cFn cf_neat_motion 60 true (Hd.top 79)).isSome = true := by kernel_rfl
theorem s_first_motions : scopeB N_first_motions ["mains", "order"] (defScope (Hd.top 80)) = true := by kernel_rfl
theorem c_first_motions : (cFn cf_first_motions 60 true (Hd.top 80)).isSome = true := by kernel_rfl
theorem s_joined : scopeB N_joined ["one", "more", "other", "less"] (defScope (Hd.top 81)) = true := by kernel_rfl
theorem c_joined : (cFn cf_joined 60 true (Hd.top 81)).isSome = true := by kernel_rfl
theorem s_still_marks : scopeB N_still_marks ["motion", "order", "marks"] (defScope (Hd.top 82)) = true := by kernel_rfl
theorem c_still_marks : (cFn cf_still_marks 60 true (Hd.top 82)).isSome = true := by kernel_rfl
theorem s_are_beside : scopeB N_are_beside ["one", "other", "stills"] (defScope (Hd.top 83)) = true := by kernel_rfl
theorem c_are_beside : (cFn cf_are_beside 60 true (Hd.top 83)).isSome = true := by kernel_rfl
theorem s_cut_by : scopeB N_cut_by ["motions", "order", "marks", "mark"] (defScope (Hd.top 84)) = true := by kernel_rfl
theorem c_cut_by : (cFn cf_cut_by 60 true (Hd.top 84)).isSome = true := by kernel_rfl
theorem s_outermost : scopeB N_outermost ["house", "pile"] (defScope (Hd.top 85)) = true := by kernel_rfl
theorem c_outermost : (cFn cf_outermost 60 true (Hd.top 85)).isSome = true := by kernel_rfl
theorem s_lifts : scopeB N_lifts ["house", "pile", "motion"] (defScope (Hd.top 86)) = true := by kernel_rfl
theorem c_lifts : (cFn cf_lifts 60 true (Hd.top 86)).isSome = true := by kernel_rfl
theorem s_sunk : scopeB N_sunk ["house", "pile", "motion", "weights"] (defScope (Hd.top 87)) = true := by kernel_rfl
theorem c_sunk : (cFn cf_sunk 60 true (Hd.top 87)).isSome = true := by kernel_rfl
theorem s_middle_of : scopeB N_middle_of ["house", "triple"] (defScope (Hd.top 90)) = true := by kernel_rfl
theorem c_middle_of : (cFn cf_middle_of 60 true (Hd.top 90)).isSome = true := by kernel_rfl
theorem s_equation_rows : scopeB N_equation_rows ["line", "number"] (defScope (Hd.top 91)) = true := by kernel_rfl
theorem c_equation_rows : (cFn cf_equation_rows 60 true (Hd.top 91)).isSome = true := by kernel_rfl
theorem s_sign_of : scopeB N_sign_of ["contact", "plank"] (defScope (Hd.top 92)) = true := by kernel_rfl
theorem c_sign_of : (cFn cf_sign_of 60 true (Hd.top 92)).isSome = true := by kernel_rfl
theorem s_bearing_rows : scopeB N_bearing_rows ["house", "pile", "weights"] (defScope (Hd.top 93)) = true := by kernel_rfl
theorem c_bearing_rows : (cFn cf_bearing_rows 60 true (Hd.top 93)).isSome = true := by kernel_rfl
theorem s_forces_of : scopeB N_forces_of ["house", "pile", "weights"] (defScope (Hd.top 94)) = true := by kernel_rfl
theorem c_forces_of : (cFn cf_forces_of 60 true (Hd.top 94)).isSome = true := by kernel_rfl
theorem s_motion_of : scopeB N_motion_of ["house", "pile", "weights"] (defScope (Hd.top 95)) = true := by kernel_rfl
theorem c_motion_of : (cFn cf_motion_of 60 true (Hd.top 95)).isSome = true := by kernel_rfl
theorem s_does_stand : scopeB N_does_stand ["house", "pile", "weights"] (defScope (Hd.top 96)) = true := by kernel_rfl
theorem c_does_stand : (cFn cf_does_stand 60 true (Hd.top 96)).isSome = true := by kernel_rfl
theorem s_need_standing : scopeB N_need_standing ["house", "pile", "weights"] (defScope (Hd.top 97)) = true := by kernel_rfl
theorem c_need_standing : (cFn cf_need_standing 60 true (Hd.top 97)).isSome = true := by kernel_rfl
theorem s_is_force : scopeB N_is_force ["value"] (defScope (Hd.top 98)) = true := by kernel_rfl
theorem c_is_force : (cFn cf_is_force 60 true (Hd.top 98)).isSome = true := by kernel_rfl
theorem s_are_forces : scopeB N_are_forces ["house", "pile", "value"] (defScope (Hd.top 99)) = true := by kernel_rfl
theorem c_are_forces : (cFn cf_are_forces 60 true (Hd.top 99)).isSome = true := by kernel_rfl
theorem s_is_whole : scopeB N_is_whole ["value"] (defScope (Hd.top 100)) = true := by kernel_rfl
theorem c_is_whole : (cFn cf_is_whole 60 true (Hd.top 100)).isSome = true := by kernel_rfl
theorem s_is_motion : scopeB N_is_motion ["pile", "value"] (defScope (Hd.top 101)) = true := by kernel_rfl
theorem c_is_motion : (cFn cf_is_motion 60 true (Hd.top 101)).isSome = true := by kernel_rfl
theorem s_row_is_so : scopeB N_row_is_so ["line", "numbers"] (defScope (Hd.top 102)) = true := by kernel_rfl
theorem c_row_is_so : (cFn cf_row_is_so 60 true (Hd.top 102)).isSome = true := by kernel_rfl
theorem s_do_bear : scopeB N_do_bear ["house", "pile", "weights", "value"] (defScope (Hd.top 103)) = true := by kernel_rfl
theorem c_do_bear : (cFn cf_do_bear 60 true (Hd.top 103)).isSome = true := by kernel_rfl
theorem s_is_toppling : scopeB N_is_toppling ["house", "pile", "weights", "value"] (defScope (Hd.top 104)) = true := by kernel_rfl
theorem c_is_toppling : (cFn cf_is_toppling 60 true (Hd.top 104)).isSome = true := by kernel_rfl
theorem s_stands : scopeB N_stands ["house", "pile", "weights"] (defScope (Hd.top 105)) = true := by kernel_rfl
theorem c_stands : (cFn cf_stands 60 true (Hd.top 105)).isSome = true := by kernel_rfl
theorem s_forces : scopeB N_forces ["house", "pile", "weights"] (defScope (Hd.top 106)) = true := by kernel_rfl
theorem c_forces : (cFn cf_forces 60 true (Hd.top 106)).isSome = true := by kernel_rfl
theorem s_motion : scopeB N_motion ["house", "pile", "weights"] (defScope (Hd.top 107)) = true := by kernel_rfl
theorem c_motion : (cFn cf_motion 60 true (Hd.top 107)).isSome = true := by kernel_rfl
theorem s_bears : scopeB N_bears ["house", "pile", "weights", "value"] (defScope (Hd.top 108)) = true := by kernel_rfl
theorem c_bears : (cFn cf_bears 60 true (Hd.top 108)).isSome = true := by kernel_rfl
theorem s_topples : scopeB N_topples ["house", "pile", "weights", "value"] (defScope (Hd.top 109)) = true := by kernel_rfl
theorem c_topples : (cFn cf_topples 60 true (Hd.top 109)).isSome = true := by kernel_rfl
theorem s_Yard_init : scopeB N_Yard_init ["self", "house", "weights"] (defScope (Hd.mt 112 1)) = true := by kernel_rfl
theorem c_Yard_init : (cFn cf_Yard_init 60 true (Hd.mt 112 1)).isSome = true := by kernel_rfl
theorem s_Yard_house : scopeB N_Yard_house ["self"] (defScope (Hd.mt 112 2)) = true := by kernel_rfl
theorem c_Yard_house : (cFn cf_Yard_house 60 true (Hd.mt 112 2)).isSome = true := by kernel_rfl
theorem s_Yard_weights : scopeB N_Yard_weights ["self"] (defScope (Hd.mt 112 3)) = true := by kernel_rfl
theorem c_Yard_weights : (cFn cf_Yard_weights 60 true (Hd.mt 112 3)).isSome = true := by kernel_rfl
theorem s_Yard_pile : scopeB N_Yard_pile ["self"] (defScope (Hd.mt 112 4)) = true := by kernel_rfl
theorem c_Yard_pile : (cFn cf_Yard_pile 60 true (Hd.mt 112 4)).isSome = true := by kernel_rfl
theorem s_Yard_steps : scopeB N_Yard_steps ["self"] (defScope (Hd.mt 112 5)) = true := by kernel_rfl
theorem c_Yard_steps : (cFn cf_Yard_steps 60 true (Hd.mt 112 5)).isSome = true := by kernel_rfl
theorem s_Yard_go_on : scopeB N_Yard_go_on ["self", "steps"] (defScope (Hd.mt 112 6)) = true := by kernel_rfl
theorem c_Yard_go_on : (cFn cf_Yard_go_on 60 true (Hd.mt 112 6)).isSome = true := by kernel_rfl
theorem s_Yard_lay : scopeB N_Yard_lay ["self", "plank", "left"] (defScope (Hd.mt 112 7)) = true := by kernel_rfl
theorem c_Yard_lay : (cFn cf_Yard_lay 60 true (Hd.mt 112 7)).isSome = true := by kernel_rfl
theorem s_Yard_take : scopeB N_Yard_take ["self", "plank"] (defScope (Hd.mt 112 8)) = true := by kernel_rfl
theorem c_Yard_take : (cFn cf_Yard_take 60 true (Hd.mt 112 8)).isSome = true := by kernel_rfl
theorem s_Yard_slide : scopeB N_Yard_slide ["self", "plank", "by"] (defScope (Hd.mt 112 9)) = true := by kernel_rfl
theorem c_Yard_slide : (cFn cf_Yard_slide 60 true (Hd.mt 112 9)).isSome = true := by kernel_rfl
theorem s_Yard_iadd : scopeB N_Yard_iadd ["self", "steps"] (defScope (Hd.mt 112 10)) = true := by kernel_rfl
theorem c_Yard_iadd : (cFn cf_Yard_iadd 60 true (Hd.mt 112 10)).isSome = true := by kernel_rfl
theorem s_Yard_forces : scopeB N_Yard_forces ["self"] (defScope (Hd.mt 112 11)) = true := by kernel_rfl
theorem c_Yard_forces : (cFn cf_Yard_forces 60 true (Hd.mt 112 11)).isSome = true := by kernel_rfl
theorem s_Yard_heavy : scopeB N_Yard_heavy ["self"] (defScope (Hd.mt 112 12)) = true := by kernel_rfl
theorem c_Yard_heavy : (cFn cf_Yard_heavy 60 true (Hd.mt 112 12)).isSome = true := by kernel_rfl
theorem s_Yard_undo : scopeB N_Yard_undo ["self"] (defScope (Hd.mt 112 13)) = true := by kernel_rfl
theorem c_Yard_undo : (cFn cf_Yard_undo 60 true (Hd.mt 112 13)).isSome = true := by kernel_rfl
theorem s_Yard_getitem : scopeB N_Yard_getitem ["self", "plank"] (defScope (Hd.mt 112 15)) = true := by kernel_rfl
theorem c_Yard_getitem : (cFn cf_Yard_getitem 60 true (Hd.mt 112 15)).isSome = true := by kernel_rfl
theorem s_Yard_contains : scopeB N_Yard_contains ["self", "value"] (defScope (Hd.mt 112 16)) = true := by kernel_rfl
theorem c_Yard_contains : (cFn cf_Yard_contains 60 true (Hd.mt 112 16)).isSome = true := by kernel_rfl
theorem s_Yard_len : scopeB N_Yard_len ["self"] (defScope (Hd.mt 112 17)) = true := by kernel_rfl
theorem c_Yard_len : (cFn cf_Yard_len 60 true (Hd.mt 112 17)).isSome = true := by kernel_rfl
theorem s_Yard_bool : scopeB N_Yard_bool ["self"] (defScope (Hd.mt 112 18)) = true := by kernel_rfl
theorem c_Yard_bool : (cFn cf_Yard_bool 60 true (Hd.mt 112 18)).isSome = true := by kernel_rfl
theorem s_Yard_eq : scopeB N_Yard_eq ["self", "other"] (defScope (Hd.mt 112 20)) = true := by kernel_rfl
theorem c_Yard_eq : (cFn cf_Yard_eq 60 true (Hd.mt 112 20)).isSome = true := by kernel_rfl
theorem s_Yard_log : gscopeB N_Yard_log ["self"] (defScope (Hd.mt 112 21)) = true := by kernel_rfl
theorem c_Yard_log : (cGFn cf_Yard_log 60 (Hd.mt 112 21)).isSome = true := by kernel_rfl
theorem s_as_row : scopeB N_as_row ["factors", "strict"] (defScope (Hd.top 114)) = true := by kernel_rfl
theorem c_as_row : (cFn cf_as_row 60 true (Hd.top 114)).isSome = true := by kernel_rfl
theorem s_opposite : scopeB N_opposite ["factors"] (defScope (Hd.top 115)) = true := by kernel_rfl
theorem c_opposite : (cFn cf_opposite 60 true (Hd.top 115)).isSome = true := by kernel_rfl
theorem s_weight_rows : scopeB N_weight_rows ["many"] (defScope (Hd.top 116)) = true := by kernel_rfl
theorem c_weight_rows : (cFn cf_weight_rows 60 true (Hd.top 116)).isSome = true := by kernel_rfl
theorem s_fact_rows : scopeB N_fact_rows ["house", "facts"] (defScope (Hd.top 117)) = true := by kernel_rfl
theorem c_fact_rows : (cFn cf_fact_rows 60 true (Hd.top 117)).isSome = true := by kernel_rfl
theorem s_weights_for : scopeB N_weights_for ["rows", "many"] (defScope (Hd.top 118)) = true := by kernel_rfl
theorem c_weights_for : (cFn cf_weights_for 60 true (Hd.top 118)).isSome = true := by kernel_rfl
theorem s_are_possible : scopeB N_are_possible ["house", "facts"] (defScope (Hd.top 119)) = true := by kernel_rfl
theorem c_are_possible : (cFn cf_are_possible 60 true (Hd.top 119)).isSome = true := by kernel_rfl
theorem s_need_possible : scopeB N_need_possible ["house", "facts"] (defScope (Hd.top 120)) = true := by kernel_rfl
theorem c_need_possible : (cFn cf_need_possible 60 true (Hd.top 120)).isSome = true := by kernel_rfl
theorem s_sums_of : scopeB N_sums_of ["house", "pile"] (defScope (Hd.top 121)) = true := by kernel_rfl
theorem c_sums_of : (cFn cf_sums_of 60 true (Hd.top 121)).isSome = true := by kernel_rfl
theorem s_falling_weights : scopeB N_falling_weights ["house", "pile", "rows"] (defScope (Hd.top 122)) = true := by kernel_rfl
theorem c_falling_weights : (cFn cf_falling_weights 60 true (Hd.top 122)).isSome = true := by kernel_rfl
theorem s_standing_rows : scopeB N_standing_rows ["house", "pile"] (defScope (Hd.top 123)) = true := by kernel_rfl
theorem c_standing_rows : (cFn cf_standing_rows 60 true (Hd.top 123)).isSome = true := by kernel_rfl
theorem s_is_sure : scopeB N_is_sure ["house", "pile", "facts"] (defScope (Hd.top 124)) = true := by kernel_rfl
theorem c_is_sure : (cFn cf_is_sure 60 true (Hd.top 124)).isSome = true := by kernel_rfl
theorem s_told : scopeB N_told ["house", "pile", "facts"] (defScope (Hd.top 125)) = true := by kernel_rfl
theorem c_told : (cFn cf_told 60 true (Hd.top 125)).isSome = true := by kernel_rfl
theorem s_lots_of : scopeB N_lots_of ["many"] (defScope (Hd.top 126)) = true := by kernel_rfl
theorem c_lots_of : (cFn cf_lots_of 60 true (Hd.top 126)).isSome = true := by kernel_rfl
theorem s_is_enough : scopeB N_is_enough ["house", "pile", "facts"] (defScope (Hd.top 127)) = true := by kernel_rfl
theorem c_is_enough : (cFn cf_is_enough 60 true (Hd.top 127)).isSome = true := by kernel_rfl
theorem s_thinned : scopeB N_thinned ["house", "pile"] (defScope (Hd.top 128)) = true := by kernel_rfl
theorem c_thinned : (cFn cf_thinned 60 true (Hd.top 128)).isSome = true := by kernel_rfl
theorem s_can_stand : scopeB N_can_stand ["house", "pile", "facts"] (defScope (Hd.top 129)) = true := by kernel_rfl
theorem c_can_stand : (cFn cf_can_stand 60 true (Hd.top 129)).isSome = true := by kernel_rfl
theorem s_can_fall : scopeB N_can_fall ["house", "pile", "facts"] (defScope (Hd.top 130)) = true := by kernel_rfl
theorem c_can_fall : (cFn cf_can_fall 60 true (Hd.top 130)).isSome = true := by kernel_rfl
theorem s_always : scopeB N_always ["house", "pile", "facts"] (defScope (Hd.top 131)) = true := by kernel_rfl
theorem c_always : (cFn cf_always 60 true (Hd.top 131)).isSome = true := by kernel_rfl
theorem s_least_facts : scopeB N_least_facts ["house", "pile", "facts"] (defScope (Hd.top 132)) = true := by kernel_rfl
theorem c_least_facts : (cFn cf_least_facts 60 true (Hd.top 132)).isSome = true := by kernel_rfl
theorem s_conditions : scopeB N_conditions ["house", "pile"] (defScope (Hd.top 133)) = true := by kernel_rfl
theorem c_conditions : (cFn cf_conditions 60 true (Hd.top 133)).isSome = true := by kernel_rfl
theorem s_both_bounds : scopeB N_both_bounds ["house", "pile", "weights", "at"] (defScope (Hd.top 135)) = true := by kernel_rfl
theorem c_both_bounds : (cFn cf_both_bounds 60 true (Hd.top 135)).isSome = true := by kernel_rfl
theorem s_pairs_of : scopeB N_pairs_of ["house", "pile"] (defScope (Hd.top 136)) = true := by kernel_rfl
theorem c_pairs_of : (cFn cf_pairs_of 60 true (Hd.top 136)).isSome = true := by kernel_rfl
theorem s_is_pair : scopeB N_is_pair ["value"] (defScope (Hd.top 137)) = true := by kernel_rfl
theorem c_is_pair : (cFn cf_is_pair 60 true (Hd.top 137)).isSome = true := by kernel_rfl
theorem s_bearing : scopeB N_bearing ["house", "pile", "weights", "contact"] (defScope (Hd.top 138)) = true := by kernel_rfl
theorem c_bearing : (cFn cf_bearing 60 true (Hd.top 138)).isSome = true := by kernel_rfl
theorem s_borne : scopeB N_borne ["house", "pile", "weights", "plank"] (defScope (Hd.top 139)) = true := by kernel_rfl
theorem c_borne : (cFn cf_borne 60 true (Hd.top 139)).isSome = true := by kernel_rfl
theorem s_built_orders : scopeB N_built_orders ["house", "pile", "facts"] (defScope (Hd.top 141)) = true := by kernel_rfl
theorem c_built_orders : (cFn cf_built_orders 60 true (Hd.top 141)).isSome = true := by kernel_rfl
theorem s_taken_orders : scopeB N_taken_orders ["house", "pile", "facts"] (defScope (Hd.top 142)) = true := by kernel_rfl
theorem c_taken_orders : (cFn cf_taken_orders 60 true (Hd.top 142)).isSome = true := by kernel_rfl
theorem s_pile_behind : scopeB N_pile_behind ["house", "script"] (defScope (Hd.top 143)) = true := by kernel_rfl
theorem c_pile_behind : (cFn cf_pile_behind 60 true (Hd.top 143)).isSome = true := by kernel_rfl
theorem s_first_fall : scopeB N_first_fall ["house", "script", "facts"] (defScope (Hd.top 144)) = true := by kernel_rfl
theorem c_first_fall : (cFn cf_first_fall 60 true (Hd.top 144)).isSome = true := by kernel_rfl
theorem s_lay_orders : scopeB N_lay_orders ["house", "pile", "facts"] (defScope (Hd.top 145)) = true := by kernel_rfl
theorem c_lay_orders : (cFn cf_lay_orders 60 true (Hd.top 145)).isSome = true := by kernel_rfl
theorem s_take_orders : scopeB N_take_orders ["house", "pile", "facts"] (defScope (Hd.top 146)) = true := by kernel_rfl
theorem c_take_orders : (cFn cf_take_orders 60 true (Hd.top 146)).isSome = true := by kernel_rfl
theorem s_safe_places : scopeB N_safe_places ["house", "pile", "facts", "plank"] (defScope (Hd.top 147)) = true := by kernel_rfl
theorem c_safe_places : (cFn cf_safe_places 60 true (Hd.top 147)).isSome = true := by kernel_rfl
theorem s_planks_of : scopeB N_planks_of ["pile"] (defScope (Hd.top 149)) = true := by kernel_rfl
theorem c_planks_of : (cFn cf_planks_of 60 true (Hd.top 149)).isSome = true := by kernel_rfl
theorem s_worse_weights : scopeB N_worse_weights ["house", "one", "other", "facts"] (defScope (Hd.top 150)) = true := by kernel_rfl
theorem c_worse_weights : (cFn cf_worse_weights 60 true (Hd.top 150)).isSome = true := by kernel_rfl
theorem s_need_two : scopeB N_need_two ["house", "one", "other", "facts"] (defScope (Hd.top 151)) = true := by kernel_rfl
theorem c_need_two : (cFn cf_need_two 60 true (Hd.top 151)).isSome = true := by kernel_rfl
theorem s_parted : scopeB N_parted ["house", "one", "other", "facts"] (defScope (Hd.top 152)) = true := by kernel_rfl
theorem c_parted : (cFn cf_parted 60 true (Hd.top 152)).isSome = true := by kernel_rfl
theorem s_alike : scopeB N_alike ["house", "one", "other", "facts"] (defScope (Hd.top 153)) = true := by kernel_rfl
theorem c_alike : (cFn cf_alike 60 true (Hd.top 153)).isSome = true := by kernel_rfl
theorem s_parting : scopeB N_parting ["house", "one", "other", "facts"] (defScope (Hd.top 154)) = true := by kernel_rfl
theorem c_parting : (cFn cf_parting 60 true (Hd.top 154)).isSome = true := by kernel_rfl
theorem s_never_worse : scopeB N_never_worse ["house", "one", "other", "facts"] (defScope (Hd.top 155)) = true := by kernel_rfl
theorem c_never_worse : (cFn cf_never_worse 60 true (Hd.top 155)).isSome = true := by kernel_rfl
theorem s_needless : scopeB N_needless ["house", "pile", "facts"] (defScope (Hd.top 156)) = true := by kernel_rfl
theorem c_needless : (cFn cf_needless 60 true (Hd.top 156)).isSome = true := by kernel_rfl
theorem s_is_less : scopeB N_is_less ["one", "other"] (defScope (Hd.top 158)) = true := by kernel_rfl
theorem c_is_less : (cFn cf_is_less 60 true (Hd.top 158)).isSome = true := by kernel_rfl
theorem s_later : scopeB N_later ["one", "other"] (defScope (Hd.top 159)) = true := by kernel_rfl
theorem c_later : (cFn cf_later 60 true (Hd.top 159)).isSome = true := by kernel_rfl
theorem s_sooner : scopeB N_sooner ["one", "other"] (defScope (Hd.top 160)) = true := by kernel_rfl
theorem c_sooner : (cFn cf_sooner 60 true (Hd.top 160)).isSome = true := by kernel_rfl
theorem s_free_spans : scopeB N_free_spans ["house", "pile", "plank"] (defScope (Hd.top 161)) = true := by kernel_rfl
theorem c_free_spans : (cFn cf_free_spans 60 true (Hd.top 161)).isSome = true := by kernel_rfl
theorem s_borne_span : scopeB N_borne_span ["house", "pile", "plank"] (defScope (Hd.top 162)) = true := by kernel_rfl
theorem c_borne_span : (cFn cf_borne_span 60 true (Hd.top 162)).isSome = true := by kernel_rfl
theorem s_is_free : scopeB N_is_free ["house", "pile", "place"] (defScope (Hd.top 163)) = true := by kernel_rfl
theorem c_is_free : (cFn cf_is_free 60 true (Hd.top 163)).isSome = true := by kernel_rfl
theorem s_spans : scopeB N_spans ["house", "pile", "facts", "plank"] (defScope (Hd.top 164)) = true := by kernel_rfl
theorem c_spans : (cFn cf_spans 60 true (Hd.top 164)).isSome = true := by kernel_rfl
theorem s_greatest_load : scopeB N_greatest_load ["house", "pile", "weights", "place"] (defScope (Hd.top 165)) = true := by kernel_rfl
theorem c_greatest_load : (cFn cf_greatest_load 60 true (Hd.top 165)).isSome = true := by kernel_rfl
theorem s_line_of : scopeB N_line_of ["triple"] (defScope (Hd.top 168)) = true := by kernel_rfl
theorem c_line_of : (cFn cf_line_of 60 true (Hd.top 168)).isSome = true := by kernel_rfl
theorem s_text_of : scopeB N_text_of ["pile"] (defScope (Hd.top 169)) = true := by kernel_rfl
theorem c_text_of : (cFn cf_text_of 60 true (Hd.top 169)).isSome = true := by kernel_rfl
theorem s_number_in : scopeB N_number_in ["word"] (defScope (Hd.top 170)) = true := by kernel_rfl
theorem c_number_in : (cFn cf_number_in 60 true (Hd.top 170)).isSome = true := by kernel_rfl
theorem s_triple_in : scopeB N_triple_in ["line"] (defScope (Hd.top 171)) = true := by kernel_rfl
theorem c_triple_in : (cFn cf_triple_in 60 true (Hd.top 171)).isSome = true := by kernel_rfl
theorem s_pile_in : scopeB N_pile_in ["house", "value"] (defScope (Hd.top 172)) = true := by kernel_rfl
theorem c_pile_in : (cFn cf_pile_in 60 true (Hd.top 172)).isSome = true := by kernel_rfl
theorem s_pile_text : scopeB N_pile_text ["house", "pile"] (defScope (Hd.top 173)) = true := by kernel_rfl
theorem c_pile_text : (cFn cf_pile_text 60 true (Hd.top 173)).isSome = true := by kernel_rfl
theorem s_read_pile : scopeB N_read_pile ["house", "value"] (defScope (Hd.top 174)) = true := by kernel_rfl
theorem c_read_pile : (cFn cf_read_pile 60 true (Hd.top 174)).isSome = true := by kernel_rfl
theorem s_need_good : scopeB N_need_good ["house", "pile"] (defScope (Hd.top 176)) = true := by kernel_rfl
theorem c_need_good : (cFn cf_need_good 60 true (Hd.top 176)).isSome = true := by kernel_rfl
theorem s_in_order : scopeB N_in_order ["house", "triples"] (defScope (Hd.top 177)) = true := by kernel_rfl
theorem c_in_order : (cFn cf_in_order 60 true (Hd.top 177)).isSome = true := by kernel_rfl
theorem s_with_plank : scopeB N_with_plank ["house", "pile", "pair"] (defScope (Hd.top 178)) = true := by kernel_rfl
theorem c_with_plank : (cFn cf_with_plank 60 true (Hd.top 178)).isSome = true := by kernel_rfl
theorem s_without_plank : scopeB N_without_plank ["house", "pile", "plank"] (defScope (Hd.top 179)) = true := by kernel_rfl
theorem c_without_plank : (cFn cf_without_plank 60 true (Hd.top 179)).isSome = true := by kernel_rfl
theorem s_turned : scopeB N_turned ["house", "pile"] (defScope (Hd.top 180)) = true := by kernel_rfl
theorem c_turned : (cFn cf_turned 60 true (Hd.top 180)).isSome = true := by kernel_rfl
theorem s_Pile_house : scopeB N_Pile_house ["self"] (defScope (Hd.mt 182 3)) = true := by kernel_rfl
theorem c_Pile_house : (cFn cf_Pile_house 60 true (Hd.mt 182 3)).isSome = true := by kernel_rfl
theorem s_Pile_source : scopeB N_Pile_source ["self"] (defScope (Hd.mt 182 4)) = true := by kernel_rfl
theorem c_Pile_source : (cFn cf_Pile_source 60 true (Hd.mt 182 4)).isSome = true := by kernel_rfl
theorem s_need_like : scopeB N_need_like ["one", "other"] (defScope (Hd.top 181)) = true := by kernel_rfl
theorem c_need_like : (cFn cf_need_like 60 true (Hd.top 181)).isSome = true := by kernel_rfl
theorem s_Pile_init : scopeB N_Pile_init ["self", "house", "triples"] (defScope (Hd.mt 182 1)) = true := by kernel_rfl
theorem c_Pile_init : (cFn cf_Pile_init 60 true (Hd.mt 182 1)).isSome = true := by kernel_rfl
theorem s_Pile_read : scopeB N_Pile_read ["cls", "house", "value"] (defScope (Hd.mt 182 2)) = true := by kernel_rfl
theorem c_Pile_read : (cFn cf_Pile_read 60 true (Hd.mt 182 2)).isSome = true := by kernel_rfl
theorem s_Pile_add : scopeB N_Pile_add ["self", "pair"] (defScope (Hd.mt 182 5)) = true := by kernel_rfl
theorem c_Pile_add : (cFn cf_Pile_add 60 true (Hd.mt 182 5)).isSome = true := by kernel_rfl
theorem s_Pile_sub : scopeB N_Pile_sub ["self", "plank"] (defScope (Hd.mt 182 6)) = true := by kernel_rfl
theorem c_Pile_sub : (cFn cf_Pile_sub 60 true (Hd.mt 182 6)).isSome = true := by kernel_rfl
theorem s_Pile_invert : scopeB N_Pile_invert ["self"] (defScope (Hd.mt 182 7)) = true := by kernel_rfl
theorem c_Pile_invert : (cFn cf_Pile_invert 60 true (Hd.mt 182 7)).isSome = true := by kernel_rfl
theorem s_Pile_iadd : scopeB N_Pile_iadd ["self", "pair"] (defScope (Hd.mt 182 8)) = true := by kernel_rfl
theorem c_Pile_iadd : (cFn cf_Pile_iadd 60 true (Hd.mt 182 8)).isSome = true := by kernel_rfl
theorem s_Pile_isub : scopeB N_Pile_isub ["self", "plank"] (defScope (Hd.mt 182 9)) = true := by kernel_rfl
theorem c_Pile_isub : (cFn cf_Pile_isub 60 true (Hd.mt 182 9)).isSome = true := by kernel_rfl
theorem s_Pile_call : scopeB N_Pile_call ["self", "weights"] (defScope (Hd.mt 182 10)) = true := by kernel_rfl
theorem c_Pile_call : (cFn cf_Pile_call 60 true (Hd.mt 182 10)).isSome = true := by kernel_rfl
theorem s_Pile_getitem : scopeB N_Pile_getitem ["self", "plank"] (defScope (Hd.mt 182 11)) = true := by kernel_rfl
theorem c_Pile_getitem : (cFn cf_Pile_getitem 60 true (Hd.mt 182 11)).isSome = true := by kernel_rfl
theorem s_Pile_contains : scopeB N_Pile_contains ["self", "value"] (defScope (Hd.mt 182 12)) = true := by kernel_rfl
theorem c_Pile_contains : (cFn cf_Pile_contains 60 true (Hd.mt 182 12)).isSome = true := by kernel_rfl
theorem s_Pile_len : scopeB N_Pile_len ["self"] (defScope (Hd.mt 182 13)) = true := by kernel_rfl
theorem c_Pile_len : (cFn cf_Pile_len 60 true (Hd.mt 182 13)).isSome = true := by kernel_rfl
theorem s_Pile_bool : scopeB N_Pile_bool ["self"] (defScope (Hd.mt 182 14)) = true := by kernel_rfl
theorem c_Pile_bool : (cFn cf_Pile_bool 60 true (Hd.mt 182 14)).isSome = true := by kernel_rfl
theorem s_Pile_le : scopeB N_Pile_le ["self", "other"] (defScope (Hd.mt 182 16)) = true := by kernel_rfl
theorem c_Pile_le : (cFn cf_Pile_le 60 true (Hd.mt 182 16)).isSome = true := by kernel_rfl
theorem s_Pile_lt : scopeB N_Pile_lt ["self", "other"] (defScope (Hd.mt 182 17)) = true := by kernel_rfl
theorem c_Pile_lt : (cFn cf_Pile_lt 60 true (Hd.mt 182 17)).isSome = true := by kernel_rfl
theorem s_Pile_eq : scopeB N_Pile_eq ["self", "other"] (defScope (Hd.mt 182 18)) = true := by kernel_rfl
theorem c_Pile_eq : (cFn cf_Pile_eq 60 true (Hd.mt 182 18)).isSome = true := by kernel_rfl
theorem s_Pile_str : scopeB N_Pile_str ["self"] (defScope (Hd.mt 182 19)) = true := by kernel_rfl
theorem c_Pile_str : (cFn cf_Pile_str 60 true (Hd.mt 182 19)).isSome = true := by kernel_rfl
theorem s_L_source : scopeB N_L_source ["script", "k"] (defScope (Hd.top 184)) = true := by kernel_rfl
theorem c_L_source : (cFn cf_L_source 60 true (Hd.top 184)).isSome = true := by kernel_rfl
theorem s_L_draw : scopeB N_L_draw ["source", "many"] (defScope (Hd.top 185)) = true := by kernel_rfl
theorem c_L_draw : (cFn cf_L_draw 60 true (Hd.top 185)).isSome = true := by kernel_rfl
theorem s_L_some : scopeB N_L_some [] (defScope (Hd.top 186)) = true := by kernel_rfl
theorem c_L_some : (cFn cf_L_some 60 true (Hd.top 186)).isSome = true := by kernel_rfl
theorem s_L_first_right : scopeB N_L_first_right [] (defScope (Hd.top 187)) = true := by kernel_rfl
theorem c_L_first_right : (cFn cf_L_first_right 60 true (Hd.top 187)).isSome = true := by kernel_rfl
theorem s_L_second_right : scopeB N_L_second_right [] (defScope (Hd.top 188)) = true := by kernel_rfl
theorem c_L_second_right : (cFn cf_L_second_right 60 true (Hd.top 188)).isSome = true := by kernel_rfl
theorem s_L_third_right : scopeB N_L_third_right [] (defScope (Hd.top 189)) = true := by kernel_rfl
theorem c_L_third_right : (cFn cf_L_third_right 60 true (Hd.top 189)).isSome = true := by kernel_rfl
theorem s_L_fourth_right : scopeB N_L_fourth_right [] (defScope (Hd.top 190)) = true := by kernel_rfl
theorem c_L_fourth_right : (cFn cf_L_fourth_right 60 true (Hd.top 190)).isSome = true := by kernel_rfl
theorem s_law : scopeB N_law ["script"] (defScope (Hd.top 191)) = true := by kernel_rfl
theorem c_law : (cFn cf_law 60 false (Hd.top 191)).isSome = true := by kernel_rfl
theorem tk_L_second_right : andB [(T_spans.all (okL F_spans)), (T_borne.all (okL F_borne)), (T_bearing.all (okL F_bearing)), (T_greatest_load.all (okL F_greatest_load)), (T_least_facts.all (okL F_least_facts))] = true := by kernel_rfl
section
variable {P : Program} {w : World} {mg : Str → Option Value} {base h : Heap} {cls : Str → Option Addr}
theorem glob (c : HK.obs Hd.sp h.get? h.objs.size = HK.want Hd.sp) (G : h.Ns mainGlobals mg) : Glob Hd.sp h mg GLO where
  c := c
  G := G
  nd := Hd.val_nd
  fr := by decide +kernel
  gl := by
    intro x i hm
    have c1 : HL.obs h.get? = HL.want Hd.val := congrArg (fun z : HK.Al => z.1) c
    simp only [GLO, List.mem_cons, List.not_mem_nil, or_false, Prod.mk.injEq] at hm
    rcases hm with ⟨rfl, rfl⟩ | ⟨rfl, rfl⟩ | ⟨rfl, rfl⟩ | ⟨rfl, rfl⟩ | ⟨rfl, rfl⟩
    · exact ⟨HL.mg_int c1 G Hd.val_nd (i := 36) (by kernel_rfl), by decide⟩
    · exact ⟨HL.mg_int c1 G Hd.val_nd (i := 37) (by kernel_rfl), by decide⟩
    · exact ⟨HL.mg_int c1 G Hd.val_nd (i := 38) (by kernel_rfl), by decide⟩
    · exact ⟨HL.mg_int c1 G Hd.val_nd (i := 93) (by kernel_rfl), by decide⟩
    · exact ⟨HL.mg_int c1 G Hd.val_nd (i := 114) (by kernel_rfl), by decide⟩
theorem f_wall (g : Glob Hd.sp h mg GLO) : Fact P w (HK.K h) mg base cls 1 "_wall" 1 F_wall :=
  fact_of (ps := ["k"]) g (i := 9) (by kernel_rfl) s_wall (of_isSome c_wall) rfl (fun _ _ _ _ _ _ us hl => match us, hl with | [_], _ => rfl) (by decide) (all_nil) (.none)
theorem f_divisor (g : Glob Hd.sp h mg GLO) : Fact P w (HK.K h) mg base cls 1 "divisor" 1 F_divisor :=
  fact_of (ps := ["numbers"]) g (i := 26) (by kernel_rfl) s_divisor (of_isSome c_divisor) rfl (fun _ _ _ _ _ _ us hl => match us, hl with | [_], _ => rfl) (by decide) (all_nil) (.none)
theorem e_divisor : F_divisor = C_divisor (docOf (Hd.top 19)) := by kernel_rfl
theorem f_divisor' (g : Glob Hd.sp h mg GLO) : Fact P w (HK.K h) mg base cls 1 "divisor" 1 M_divisor := (f_divisor g).same (by rw [e_divisor]; exact mir_divisor _)
theorem f_lowest (g : Glob Hd.sp h mg GLO) : Fact P w (HK.K h) mg base cls 2 "lowest" 2 F_lowest :=
  fact_of (ps := ["top", "below"]) g (i := 27) (by kernel_rfl) s_lowest (of_isSome c_lowest) rfl (fun _ _ _ _ _ _ us hl => match us, hl with | [_, _], _ => rfl) (by decide) (all_cons ((f_divisor' g).up (by decide)) all_nil) (.none)
theorem f_neat (g : Glob Hd.sp h mg GLO) : Fact P w (HK.K h) mg base cls 2 "neat" 1 F_neat :=
  fact_of (ps := ["numbers"]) g (i := 28) (by kernel_rfl) s_neat (of_isSome c_neat) rfl (fun _ _ _ _ _ _ us hl => match us, hl with | [_], _ => rfl) (by decide) (all_cons ((f_divisor' g).up (by decide)) all_nil) (.none)
theorem e_neat : F_neat = C_neat (docOf (Hd.top 21)) := by kernel_rfl
theorem f_neat' (g : Glob Hd.sp h mg GLO) : Fact P w (HK.K h) mg base cls 2 "neat" 1 M_neat := (f_neat g).same (by rw [e_neat]; exact mir_neat _)
theorem f_table_of (g : Glob Hd.sp h mg GLO) : Fact P w (HK.K h) mg base cls 1 "table_of" 1 F_table_of :=
  fact_of (ps := ["lines"]) g (i := 29) (by kernel_rfl) s_table_of (of_isSome c_table_of) rfl (fun _ _ _ _ _ _ us hl => match us, hl with | [_], _ => rfl) (by decide) (all_nil) (.none)
theorem f_cleared (g : Glob Hd.sp h mg GLO) : Fact P w (HK.K h) mg base cls 3 "cleared" 3 F_cleared :=
  fact_of (ps := ["line", "pivot", "at"]) g (i := 30) (by kernel_rfl) s_cleared (of_isSome c_cleared) rfl (fun _ _ _ _ _ _ us hl => match us, hl with | [_, _, _], _ => rfl) (by decide) (all_cons ((f_neat' g).up (by decide)) all_nil) (.none)
theorem e_cleared : F_cleared = C_cleared (docOf (Hd.top 23)) := by kernel_rfl
theorem f_cleared' (g : Glob Hd.sp h mg GLO) : Fact P w (HK.K h) mg base cls 3 "cleared" 3 M_cleared := (f_cleared g).same (by rw [e_cleared]; exact mir_cleared _)
theorem f_leaving (g : Glob Hd.sp h mg GLO) : Fact P w (HK.K h) mg base cls 1 "leaving" 3 F_leaving :=
  fact_of (ps := ["table", "basis", "at"]) g (i := 31) (by kernel_rfl) s_leaving (of_isSome c_leaving) rfl (fun _ _ _ _ _ _ us hl => match us, hl with | [_, _, _], _ => rfl) (by decide) (all_nil) (.none)
theorem f_numbers_of (g : Glob Hd.sp h mg GLO) : Fact P w (HK.K h) mg base cls 2 "numbers_of" 3 F_numbers_of :=
  fact_of (ps := ["table", "basis", "many"]) g (i := 32) (by kernel_rfl) s_numbers_of (of_isSome c_numbers_of) rfl (fun _ _ _ _ _ _ us hl => match us, hl with | [_, _, _], _ => rfl) (by decide) (all_cons ((f_divisor' g).up (by decide)) all_nil) (.none)
theorem f_greatest (g : Glob Hd.sp h mg GLO) : Fact P w (HK.K h) mg base cls 4 "greatest" 3 F_greatest :=
  fact_of (ps := ["lines", "goal", "watched"]) g (i := 33) (by kernel_rfl) s_greatest (of_isSome c_greatest) rfl (fun _ _ _ _ _ _ us hl => match us, hl with | [_, _, _], _ => rfl) (by decide) (all_cons ((f_table_of g).up (by decide)) (all_cons ((f_leaving g).up (by decide)) (all_cons ((f_cleared' g).up (by decide)) (all_cons ((f_numbers_of g).up (by decide)) all_nil)))) (.none)
theorem f_solution (g : Glob Hd.sp h mg GLO) : Fact P w (HK.K h) mg base cls 5 "solution" 2 F_solution :=
  fact_of (ps := ["rows", "many"]) g (i := 34) (by kernel_rfl) s_solution (of_isSome c_solution) rfl (fun _ _ _ _ _ _ us hl => match us, hl with | [_, _], _ => rfl) (by decide) (all_cons ((f_greatest g).up (by decide)) (all_cons ((f_lowest g).up (by decide)) all_nil)) (.none)
theorem f_greatest_worth (g : Glob Hd.sp h mg GLO) : Fact P w (HK.K h) mg base cls 5 "greatest_worth" 4 F_greatest_worth :=
  fact_of (ps := ["rows", "line", "many", "high"]) g (i := 35) (by kernel_rfl) s_greatest_worth (of_isSome c_greatest_worth) rfl (fun _ _ _ _ _ _ us hl => match us, hl with | [_, _, _, _], _ => rfl) (by decide) (all_cons ((f_greatest g).up (by decide)) (all_cons ((f_lowest g).up (by decide)) all_nil)) (.none)
theorem f_is_number (g : Glob Hd.sp h mg GLO) : Fact P w (HK.K h) mg base cls 1 "is_number" 3 F_is_number :=
  fact_of (ps := ["value", "least", "most"]) g (i := 39) (by kernel_rfl) s_is_number (of_isSome c_is_number) rfl (fun _ _ _ _ _ _ us hl => match us, hl with | [_, _, _], _ => rfl) (by decide) (all_nil) (.none)
theorem f_is_tuple (g : Glob Hd.sp h mg GLO) : Fact P w (HK.K h) mg base cls 1 "is_tuple" 3 F_is_tuple :=
  fact_of (ps := ["value", "least", "most"]) g (i := 40) (by kernel_rfl) s_is_tuple (of_isSome c_is_tuple) rfl (fun _ _ _ _ _ _ us hl => match us, hl with | [_, _, _], _ => rfl) (by decide) (all_nil) (.none)
theorem f_is_fraction (g : Glob Hd.sp h mg GLO) : Fact P w (HK.K h) mg base cls 2 "is_fraction" 1 F_is_fraction :=
  fact_of (ps := ["value"]) g (i := 41) (by kernel_rfl) s_is_fraction (of_isSome c_is_fraction) rfl (fun _ _ _ _ _ _ us hl => match us, hl with | [_], _ => rfl) (by decide) (all_cons ((f_is_tuple g).up (by decide)) (all_cons ((f_divisor' g).up (by decide)) all_nil)) (.none)
theorem f_is_good_house (g : Glob Hd.sp h mg GLO) : Fact P w (HK.K h) mg base cls 2 "is_good_house" 1 F_is_good_house :=
  fact_of (ps := ["value"]) g (i := 42) (by kernel_rfl) s_is_good_house (of_isSome c_is_good_house) rfl (fun _ _ _ _ _ _ us hl => match us, hl with | [_], _ => rfl) (by decide) (all_cons ((f_is_tuple g).up (by decide)) (all_cons ((f_is_number g).up (by decide)) all_nil)) (.none)
theorem f_is_triple (g : Glob Hd.sp h mg GLO) : Fact P w (HK.K h) mg base cls 2 "is_triple" 2 F_is_triple :=
  fact_of (ps := ["house", "value"]) g (i := 43) (by kernel_rfl) s_is_triple (of_isSome c_is_triple) rfl (fun _ _ _ _ _ _ us hl => match us, hl with | [_, _], _ => rfl) (by decide) (all_cons ((f_is_number g).up (by decide)) (all_cons ((f_is_tuple g).up (by decide)) all_nil)) (.none)
theorem f_ends_of (g : Glob Hd.sp h mg GLO) : Fact P w (HK.K h) mg base cls 1 "ends_of" 2 F_ends_of :=
  fact_of (ps := ["house", "triple"]) g (i := 44) (by kernel_rfl) s_ends_of (of_isSome c_ends_of) rfl (fun _ _ _ _ _ _ us hl => match us, hl with | [_, _], _ => rfl) (by decide) (all_nil) (.none)
theorem f_ascending (g : Glob Hd.sp h mg GLO) : Fact P w (HK.K h) mg base cls 1 "ascending" 1 F_ascending :=
  fact_of (ps := ["values"]) g (i := 45) (by kernel_rfl) s_ascending (of_isSome c_ascending) rfl (fun _ _ _ _ _ _ us hl => match us, hl with | [_], _ => rfl) (by decide) (all_nil) (.none)
theorem f_do_overlap (g : Glob Hd.sp h mg GLO) : Fact P w (HK.K h) mg base cls 1 "do_overlap" 2 F_do_overlap :=
  fact_of (ps := ["one", "other"]) g (i := 46) (by kernel_rfl) s_do_overlap (of_isSome c_do_overlap) rfl (fun _ _ _ _ _ _ us hl => match us, hl with | [_, _], _ => rfl) (by decide) (all_nil) (.none)
theorem f_on_table (g : Glob Hd.sp h mg GLO) : Fact P w (HK.K h) mg base cls 2 "on_table" 2 F_on_table :=
  fact_of (ps := ["house", "triple"]) g (i := 47) (by kernel_rfl) s_on_table (of_isSome c_on_table) rfl (fun _ _ _ _ _ _ us hl => match us, hl with | [_, _], _ => rfl) (by decide) (all_cons ((f_do_overlap g).up (by decide)) (all_cons ((f_ends_of g).up (by decide)) all_nil)) (.none)
theorem f_held_by (g : Glob Hd.sp h mg GLO) : Fact P w (HK.K h) mg base cls 2 "held_by" 3 F_held_by :=
  fact_of (ps := ["house", "pile", "triple"]) g (i := 48) (by kernel_rfl) s_held_by (of_isSome c_held_by) rfl (fun _ _ _ _ _ _ us hl => match us, hl with | [_, _, _], _ => rfl) (by decide) (all_cons ((f_ends_of g).up (by decide)) (all_cons ((f_do_overlap g).up (by decide)) all_nil)) (.none)
theorem f_lies_well (g : Glob Hd.sp h mg GLO) : Fact P w (HK.K h) mg base cls 3 "lies_well" 3 F_lies_well :=
  fact_of (ps := ["house", "pile", "triple"]) g (i := 49) (by kernel_rfl) s_lies_well (of_isSome c_lies_well) rfl (fun _ _ _ _ _ _ us hl => match us, hl with | [_, _, _], _ => rfl) (by decide) (all_cons ((f_ends_of g).up (by decide)) (all_cons ((f_on_table g).up (by decide)) (all_cons ((f_do_overlap g).up (by decide)) (all_cons ((f_held_by g).up (by decide)) all_nil)))) (.none)
theorem f_is_good_pile (g : Glob Hd.sp h mg GLO) : Fact P w (HK.K h) mg base cls 4 "is_good_pile" 2 F_is_good_pile :=
  fact_of (ps := ["house", "value"]) g (i := 50) (by kernel_rfl) s_is_good_pile (of_isSome c_is_good_pile) rfl (fun _ _ _ _ _ _ us hl => match us, hl with | [_, _], _ => rfl) (by decide) (all_cons ((f_is_tuple g).up (by decide)) (all_cons ((f_lies_well g).up (by decide)) (all_cons ((f_is_triple g).up (by decide)) all_nil))) (.none)
theorem f_contacts_of (g : Glob Hd.sp h mg GLO) : Fact P w (HK.K h) mg base cls 3 "contacts_of" 2 F_contacts_of :=
  fact_of (ps := ["house", "pile"]) g (i := 51) (by kernel_rfl) s_contacts_of (of_isSome c_contacts_of) rfl (fun _ _ _ _ _ _ us hl => match us, hl with | [_, _], _ => rfl) (by decide) (all_cons ((f_ends_of g).up (by decide)) (all_cons ((f_held_by g).up (by decide)) all_nil)) (.none)
theorem f_are_good_weights (g : Glob Hd.sp h mg GLO) : Fact P w (HK.K h) mg base cls 2 "are_good_weights" 2 F_are_good_weights :=
  fact_of (ps := ["house", "value"]) g (i := 52) (by kernel_rfl) s_are_good_weights (of_isSome c_are_good_weights) rfl (fun _ _ _ _ _ _ us hl => match us, hl with | [_, _], _ => rfl) (by decide) (all_cons ((f_is_tuple g).up (by decide)) (all_cons ((f_is_number g).up (by decide)) all_nil)) (.none)
theorem f_is_lot (g : Glob Hd.sp h mg GLO) : Fact P w (HK.K h) mg base cls 2 "is_lot" 2 F_is_lot :=
  fact_of (ps := ["house", "value"]) g (i := 53) (by kernel_rfl) s_is_lot (of_isSome c_is_lot) rfl (fun _ _ _ _ _ _ us hl => match us, hl with | [_, _], _ => rfl) (by decide) (all_cons ((f_is_tuple g).up (by decide)) (all_cons ((f_is_number g).up (by decide)) all_nil)) (.none)
theorem f_are_good_facts (g : Glob Hd.sp h mg GLO) : Fact P w (HK.K h) mg base cls 3 "are_good_facts" 2 F_are_good_facts :=
  fact_of (ps := ["house", "value"]) g (i := 54) (by kernel_rfl) s_are_good_facts (of_isSome c_are_good_facts) rfl (fun _ _ _ _ _ _ us hl => match us, hl with | [_, _], _ => rfl) (by decide) (all_cons ((f_is_tuple g).up (by decide)) (all_cons ((f_is_lot g).up (by decide)) all_nil)) (.none)
theorem f_triple_of (g : Glob Hd.sp h mg GLO) : Fact P w (HK.K h) mg base cls 1 "triple_of" 2 F_triple_of :=
  fact_of (ps := ["pile", "plank"]) g (i := 55) (by kernel_rfl) s_triple_of (of_isSome c_triple_of) rfl (fun _ _ _ _ _ _ us hl => match us, hl with | [_, _], _ => rfl) (by decide) (all_nil) (.none)
theorem f_is_bare (g : Glob Hd.sp h mg GLO) : Fact P w (HK.K h) mg base cls 4 "is_bare" 3 F_is_bare :=
  fact_of (ps := ["house", "pile", "plank"]) g (i := 56) (by kernel_rfl) s_is_bare (of_isSome c_is_bare) rfl (fun _ _ _ _ _ _ us hl => match us, hl with | [_, _, _], _ => rfl) (by decide) (all_cons ((f_contacts_of g).up (by decide)) all_nil) (.none)
theorem f_less (g : Glob Hd.sp h mg GLO) : Fact P w (HK.K h) mg base cls 1 "less" 2 F_less :=
  fact_of (ps := ["pile", "plank"]) g (i := 57) (by kernel_rfl) s_less (of_isSome c_less) rfl (fun _ _ _ _ _ _ us hl => match us, hl with | [_, _], _ => rfl) (by decide) (all_nil) (.none)
theorem f_laid (g : Glob Hd.sp h mg GLO) : Fact P w (HK.K h) mg base cls 3 "laid" 4 F_laid :=
  fact_of (ps := ["house", "pile", "plank", "left"]) g (i := 58) (by kernel_rfl) s_laid (of_isSome c_laid) rfl (fun _ _ _ _ _ _ us hl => match us, hl with | [_, _, _, _], _ => rfl) (by decide) (all_cons ((f_ends_of g).up (by decide)) (all_cons ((f_do_overlap g).up (by decide)) (all_cons ((f_on_table g).up (by decide)) all_nil))) (.none)
theorem f_is_step (g : Glob Hd.sp h mg GLO) : Fact P w (HK.K h) mg base cls 2 "is_step" 2 F_is_step :=
  fact_of (ps := ["house", "value"]) g (i := 59) (by kernel_rfl) s_is_step (of_isSome c_is_step) rfl (fun _ _ _ _ _ _ us hl => match us, hl with | [_, _], _ => rfl) (by decide) (all_cons ((f_is_number g).up (by decide)) (all_cons ((f_is_tuple g).up (by decide)) all_nil)) (.none)
theorem f_stepped (g : Glob Hd.sp h mg GLO) : Fact P w (HK.K h) mg base cls 5 "stepped" 3 F_stepped :=
  fact_of (ps := ["house", "pile", "step"]) g (i := 60) (by kernel_rfl) s_stepped (of_isSome c_stepped) rfl (fun _ _ _ _ _ _ us hl => match us, hl with | [_, _, _], _ => rfl) (by decide) (all_cons ((f_triple_of g).up (by decide)) (all_cons ((f_less g).up (by decide)) (all_cons ((f_laid g).up (by decide)) (all_cons ((f_is_bare g).up (by decide)) all_nil)))) (.none)
theorem f_piles_along (g : Glob Hd.sp h mg GLO) : Fact P w (HK.K h) mg base cls 6 "piles_along" 2 F_piles_along :=
  fact_of (ps := ["house", "script"]) g (i := 61) (by kernel_rfl) s_piles_along (of_isSome c_piles_along) rfl (fun _ _ _ _ _ _ us hl => match us, hl with | [_, _], _ => rfl) (by decide) (all_cons ((f_is_step g).up (by decide)) (all_cons ((f_stepped g).up (by decide)) all_nil)) (.none)
theorem f_is_good_script (g : Glob Hd.sp h mg GLO) : Fact P w (HK.K h) mg base cls 7 "is_good_script" 2 F_is_good_script :=
  fact_of (ps := ["house", "value"]) g (i := 62) (by kernel_rfl) s_is_good_script (of_isSome c_is_good_script) rfl (fun _ _ _ _ _ _ us hl => match us, hl with | [_, _], _ => rfl) (by decide) (all_cons ((f_is_tuple g).up (by decide)) (all_cons ((f_piles_along g).up (by decide)) all_nil)) (.none)
theorem f_count_in (g : Glob Hd.sp h mg GLO) : Fact P w (HK.K h) mg base cls 1 "count_in" 2 F_count_in :=
  fact_of (ps := ["lot", "plank"]) g (i := 63) (by kernel_rfl) s_count_in (of_isSome c_count_in) rfl (fun _ _ _ _ _ _ us hl => match us, hl with | [_, _], _ => rfl) (by decide) (all_nil) (.none)
theorem f_weighed (g : Glob Hd.sp h mg GLO) : Fact P w (HK.K h) mg base cls 1 "weighed" 2 F_weighed :=
  fact_of (ps := ["lot", "weights"]) g (i := 64) (by kernel_rfl) s_weighed (of_isSome c_weighed) rfl (fun _ _ _ _ _ _ us hl => match us, hl with | [_, _], _ => rfl) (by decide) (all_nil) (.none)
theorem f_keeps_facts (g : Glob Hd.sp h mg GLO) : Fact P w (HK.K h) mg base cls 2 "keeps_facts" 2 F_keeps_facts :=
  fact_of (ps := ["facts", "weights"]) g (i := 65) (by kernel_rfl) s_keeps_facts (of_isSome c_keeps_facts) rfl (fun _ _ _ _ _ _ us hl => match us, hl with | [_, _], _ => rfl) (by decide) (all_cons ((f_weighed g).up (by decide)) all_nil) (.none)
theorem f_need_house (g : Glob Hd.sp h mg GLO) : Fact P w (HK.K h) mg base cls 3 "need_house" 1 F_need_house :=
  fact_of (ps := ["value"]) g (i := 66) (by kernel_rfl) s_need_house (of_isSome c_need_house) rfl (fun _ _ _ _ _ _ us hl => match us, hl with | [_], _ => rfl) (by decide) (all_cons ((f_is_good_house g).up (by decide)) all_nil) (.none)
theorem f_need_pile (g : Glob Hd.sp h mg GLO) : Fact P w (HK.K h) mg base cls 5 "need_pile" 2 F_need_pile :=
  fact_of (ps := ["house", "value"]) g (i := 67) (by kernel_rfl) s_need_pile (of_isSome c_need_pile) rfl (fun _ _ _ _ _ _ us hl => match us, hl with | [_, _], _ => rfl) (by decide) (all_cons ((f_is_good_pile g).up (by decide)) all_nil) (.none)
theorem f_need_weights (g : Glob Hd.sp h mg GLO) : Fact P w (HK.K h) mg base cls 3 "need_weights" 2 F_need_weights :=
  fact_of (ps := ["house", "value"]) g (i := 68) (by kernel_rfl) s_need_weights (of_isSome c_need_weights) rfl (fun _ _ _ _ _ _ us hl => match us, hl with | [_, _], _ => rfl) (by decide) (all_cons ((f_are_good_weights g).up (by decide)) all_nil) (.none)
theorem f_need_facts (g : Glob Hd.sp h mg GLO) : Fact P w (HK.K h) mg base cls 4 "need_facts" 2 F_need_facts :=
  fact_of (ps := ["house", "value"]) g (i := 69) (by kernel_rfl) s_need_facts (of_isSome c_need_facts) rfl (fun _ _ _ _ _ _ us hl => match us, hl with | [_, _], _ => rfl) (by decide) (all_cons ((f_are_good_facts g).up (by decide)) all_nil) (.none)
theorem f_need_script (g : Glob Hd.sp h mg GLO) : Fact P w (HK.K h) mg base cls 8 "need_script" 2 F_need_script :=
  fact_of (ps := ["house", "value"]) g (i := 70) (by kernel_rfl) s_need_script (of_isSome c_need_script) rfl (fun _ _ _ _ _ _ us hl => match us, hl with | [_, _], _ => rfl) (by decide) (all_cons ((f_is_good_script g).up (by decide)) all_nil) (.none)
theorem f_need_plank (g : Glob Hd.sp h mg GLO) : Fact P w (HK.K h) mg base cls 2 "need_plank" 2 F_need_plank :=
  fact_of (ps := ["pile", "value"]) g (i := 71) (by kernel_rfl) s_need_plank (of_isSome c_need_plank) rfl (fun _ _ _ _ _ _ us hl => match us, hl with | [_, _], _ => rfl) (by decide) (all_cons ((f_is_number g).up (by decide)) (all_cons ((f_triple_of g).up (by decide)) all_nil)) (.none)
theorem f_need_case (g : Glob Hd.sp h mg GLO) : Fact P w (HK.K h) mg base cls 6 "need_case" 3 F_need_case :=
  fact_of (ps := ["house", "pile", "facts"]) g (i := 72) (by kernel_rfl) s_need_case (of_isSome c_need_case) rfl (fun _ _ _ _ _ _ us hl => match us, hl with | [_, _, _], _ => rfl) (by decide) (all_cons ((f_need_house g).up (by decide)) (all_cons ((f_need_pile g).up (by decide)) (all_cons ((f_need_facts g).up (by decide)) all_nil))) (.none)
theorem f_need_known (g : Glob Hd.sp h mg GLO) : Fact P w (HK.K h) mg base cls 6 "need_known" 3 F_need_known :=
  fact_of (ps := ["house", "pile", "weights"]) g (i := 73) (by kernel_rfl) s_need_known (of_isSome c_need_known) rfl (fun _ _ _ _ _ _ us hl => match us, hl with | [_, _, _], _ => rfl) (by decide) (all_cons ((f_need_house g).up (by decide)) (all_cons ((f_need_pile g).up (by decide)) (all_cons ((f_need_weights g).up (by decide)) all_nil))) (.none)
theorem f_is_house (g : Glob Hd.sp h mg GLO) : Fact P w (HK.K h) mg base cls 3 "is_house" 1 F_is_house :=
  fact_of (ps := ["value"]) g (i := 74) (by kernel_rfl) s_is_house (of_isSome c_is_house) rfl (fun _ _ _ _ _ _ us hl => match us, hl with | [_], _ => rfl) (by decide) (all_cons ((f_is_good_house g).up (by decide)) all_nil) (.none)
theorem f_is_pile (g : Glob Hd.sp h mg GLO) : Fact P w (HK.K h) mg base cls 5 "is_pile" 2 F_is_pile :=
  fact_of (ps := ["house", "value"]) g (i := 75) (by kernel_rfl) s_is_pile (of_isSome c_is_pile) rfl (fun _ _ _ _ _ _ us hl => match us, hl with | [_, _], _ => rfl) (by decide) (all_cons ((f_need_house g).up (by decide)) (all_cons ((f_is_good_pile g).up (by decide)) all_nil)) (.none)
theorem f_is_script (g : Glob Hd.sp h mg GLO) : Fact P w (HK.K h) mg base cls 8 "is_script" 2 F_is_script :=
  fact_of (ps := ["house", "value"]) g (i := 76) (by kernel_rfl) s_is_script (of_isSome c_is_script) rfl (fun _ _ _ _ _ _ us hl => match us, hl with | [_, _], _ => rfl) (by decide) (all_cons ((f_need_house g).up (by decide)) (all_cons ((f_is_good_script g).up (by decide)) all_nil)) (.none)
theorem f_contacts (g : Glob Hd.sp h mg GLO) : Fact P w (HK.K h) mg base cls 6 "contacts" 2 F_contacts :=
  fact_of (ps := ["house", "pile"]) g (i := 77) (by kernel_rfl) s_contacts (of_isSome c_contacts) rfl (fun _ _ _ _ _ _ us hl => match us, hl with | [_, _], _ => rfl) (by decide) (all_cons ((f_need_house g).up (by decide)) (all_cons ((f_need_pile g).up (by decide)) (all_cons ((f_contacts_of g).up (by decide)) all_nil))) (.none)
theorem f_keep (g : Glob Hd.sp h mg GLO) : Fact P w (HK.K h) mg base cls 5 "keep" 3 F_keep :=
  fact_of (ps := ["house", "facts", "weights"]) g (i := 78) (by kernel_rfl) s_keep (of_isSome c_keep) rfl (fun _ _ _ _ _ _ us hl => match us, hl with | [_, _, _], _ => rfl) (by decide) (all_cons ((f_need_house g).up (by decide)) (all_cons ((f_need_facts g).up (by decide)) (all_cons ((f_need_weights g).up (by decide)) (all_cons ((f_keeps_facts g).up (by decide)) all_nil)))) (.none)
theorem f_gone_up (g : Glob Hd.sp h mg GLO) : Fact P w (HK.K h) mg base cls 1 "gone_up" 4 F_gone_up :=
  fact_of (ps := ["motion", "order", "plank", "place"]) g (i := 79) (by kernel_rfl) s_gone_up (of_isSome c_gone_up) rfl (fun _ _ _ _ _ _ us hl => match us, hl with | [_, _, _, _], _ => rfl) (by decide) (all_nil) (.none)
theorem f_gap_at (g : Glob Hd.sp h mg GLO) : Fact P w (HK.K h) mg base cls 2 "gap_at" 4 F_gap_at :=
  fact_of (ps := ["motion", "order", "contact", "place"]) g (i := 80) (by kernel_rfl) s_gap_at (of_isSome c_gap_at) rfl (fun _ _ _ _ _ _ us hl => match us, hl with | [_, _, _, _], _ => rfl) (by decide) (all_cons ((f_gone_up g).up (by decide)) all_nil) (.none)
theorem f_marks_of (g : Glob Hd.sp h mg GLO) : Fact P w (HK.K h) mg base cls 1 "marks_of" 1 F_marks_of :=
  fact_of (ps := ["contacts"]) g (i := 81) (by kernel_rfl) s_marks_of (of_isSome c_marks_of) rfl (fun _ _ _ _ _ _ us hl => match us, hl with | [_], _ => rfl) (by decide) (all_nil) (.none)
theorem f_main_contacts (g : Glob Hd.sp h mg GLO) : Fact P w (HK.K h) mg base cls 1 "main_contacts" 1 F_main_contacts :=
  fact_of (ps := ["contacts"]) g (i := 82) (by kernel_rfl) s_main_contacts (of_isSome c_main_contacts) rfl (fun _ _ _ _ _ _ us hl => match us, hl with | [_], _ => rfl) (by decide) (all_nil) (.none)
theorem f_carried_by (g : Glob Hd.sp h mg GLO) : Fact P w (HK.K h) mg base cls 1 "carried_by" 2 F_carried_by :=
  fact_of (ps := ["mains", "plank"]) g (i := 83) (by kernel_rfl) s_carried_by (of_isSome c_carried_by) rfl (fun _ _ _ _ _ _ us hl => match us, hl with | [_, _], _ => rfl) (by decide) (all_nil) (.none)
theorem f_neat_motion (g : Glob Hd.sp h mg GLO) : Fact P w (HK.K h) mg base cls 2 "neat_motion" 1 F_neat_motion :=
  fact_of (ps := ["motion"]) g (i := 84) (by kernel_rfl) s_neat_motion (of_isSome c_neat_motion) rfl (fun _ _ _ _ _ _ us hl => match us, hl with | [_], _ => rfl) (by decide) (all_cons ((f_divisor' g).up (by decide)) all_nil) (.none)
theorem f_first_motions (g : Glob Hd.sp h mg GLO) : Fact P w (HK.K h) mg base cls 2 "first_motions" 2 F_first_motions :=
  fact_of (ps := ["mains", "order"]) g (i := 85) (by kernel_rfl) s_first_motions (of_isSome c_first_motions) rfl (fun _ _ _ _ _ _ us hl => match us, hl with | [_, _], _ => rfl) (by decide) (all_cons ((f_carried_by g).up (by decide)) all_nil) (.none)
theorem f_joined (g : Glob Hd.sp h mg GLO) : Fact P w (HK.K h) mg base cls 3 "joined" 4 F_joined :=
  fact_of (ps := ["one", "more", "other", "less"]) g (i := 86) (by kernel_rfl) s_joined (of_isSome c_joined) rfl (fun _ _ _ _ _ _ us hl => match us, hl with | [_, _, _, _], _ => rfl) (by decide) (all_cons ((f_neat_motion g).up (by decide)) all_nil) (.none)
theorem f_still_marks (g : Glob Hd.sp h mg GLO) : Fact P w (HK.K h) mg base cls 3 "still_marks" 3 F_still_marks :=
  fact_of (ps := ["motion", "order", "marks"]) g (i := 87) (by kernel_rfl) s_still_marks (of_isSome c_still_marks) rfl (fun _ _ _ _ _ _ us hl => match us, hl with | [_, _, _], _ => rfl) (by decide) (all_cons ((f_gap_at g).up (by decide)) all_nil) (.none)
theorem f_are_beside (g : Glob Hd.sp h mg GLO) : Fact P w (HK.K h) mg base cls 1 "are_beside" 3 F_are_beside :=
  fact_of (ps := ["one", "other", "stills"]) g (i := 88) (by kernel_rfl) s_are_beside (of_isSome c_are_beside) rfl (fun _ _ _ _ _ _ us hl => match us, hl with | [_, _, _], _ => rfl) (by decide) (all_nil) (.none)
theorem f_cut_by (g : Glob Hd.sp h mg GLO) : Fact P w (HK.K h) mg base cls 4 "cut_by" 4 F_cut_by :=
  fact_of (ps := ["motions", "order", "marks", "mark"]) g (i := 89) (by kernel_rfl) s_cut_by (of_isSome c_cut_by) rfl (fun _ _ _ _ _ _ us hl => match us, hl with | [_, _, _, _], _ => rfl) (by decide) (all_cons ((f_gap_at g).up (by decide)) (all_cons ((f_still_marks g).up (by decide)) (all_cons ((f_are_beside g).up (by decide)) (all_cons ((f_joined g).up (by decide)) all_nil)))) (.none)
theorem f_outermost (g : Glob Hd.sp h mg GLO) : Fact P w (HK.K h) mg base cls 5 "outermost" 2 F_outermost :=
  fact_of (ps := ["house", "pile"]) g (i := 90) (by kernel_rfl) s_outermost (of_isSome c_outermost) rfl (fun _ _ _ _ _ _ us hl => match us, hl with | [_, _], _ => rfl) (by decide) (all_cons ((f_main_contacts g).up (by decide)) (all_cons ((f_marks_of g).up (by decide)) (all_cons ((f_contacts_of g).up (by decide)) (all_cons ((f_first_motions g).up (by decide)) (all_cons ((f_cut_by g).up (by decide)) all_nil))))) (.none)
theorem f_lifts (g : Glob Hd.sp h mg GLO) : Fact P w (HK.K h) mg base cls 1 "lifts" 3 F_lifts :=
  fact_of (ps := ["house", "pile", "motion"]) g (i := 91) (by kernel_rfl) s_lifts (of_isSome c_lifts) rfl (fun _ _ _ _ _ _ us hl => match us, hl with | [_, _, _], _ => rfl) (by decide) (all_nil) (.none)
theorem f_sunk (g : Glob Hd.sp h mg GLO) : Fact P w (HK.K h) mg base cls 2 "sunk" 4 F_sunk :=
  fact_of (ps := ["house", "pile", "motion", "weights"]) g (i := 92) (by kernel_rfl) s_sunk (of_isSome c_sunk) rfl (fun _ _ _ _ _ _ us hl => match us, hl with | [_, _, _, _], _ => rfl) (by decide) (all_cons ((f_lifts g).up (by decide)) all_nil) (.none)
theorem f_middle_of (g : Glob Hd.sp h mg GLO) : Fact P w (HK.K h) mg base cls 1 "middle_of" 2 F_middle_of :=
  fact_of (ps := ["house", "triple"]) g (i := 94) (by kernel_rfl) s_middle_of (of_isSome c_middle_of) rfl (fun _ _ _ _ _ _ us hl => match us, hl with | [_, _], _ => rfl) (by decide) (all_nil) (.none)
theorem f_equation_rows (g : Glob Hd.sp h mg GLO) : Fact P w (HK.K h) mg base cls 1 "equation_rows" 2 F_equation_rows :=
  fact_of (ps := ["line", "number"]) g (i := 95) (by kernel_rfl) s_equation_rows (of_isSome c_equation_rows) rfl (fun _ _ _ _ _ _ us hl => match us, hl with | [_, _], _ => rfl) (by decide) (all_nil) (.none)
theorem f_sign_of (g : Glob Hd.sp h mg GLO) : Fact P w (HK.K h) mg base cls 1 "sign_of" 2 F_sign_of :=
  fact_of (ps := ["contact", "plank"]) g (i := 96) (by kernel_rfl) s_sign_of (of_isSome c_sign_of) rfl (fun _ _ _ _ _ _ us hl => match us, hl with | [_, _], _ => rfl) (by decide) (all_nil) (.none)
theorem f_bearing_rows (g : Glob Hd.sp h mg GLO) : Fact P w (HK.K h) mg base cls 4 "bearing_rows" 3 F_bearing_rows :=
  fact_of (ps := ["house", "pile", "weights"]) g (i := 97) (by kernel_rfl) s_bearing_rows (of_isSome c_bearing_rows) rfl (fun _ _ _ _ _ _ us hl => match us, hl with | [_, _, _], _ => rfl) (by decide) (all_cons ((f_contacts_of g).up (by decide)) (all_cons ((f_sign_of g).up (by decide)) (all_cons ((f_equation_rows g).up (by decide)) (all_cons ((f_middle_of g).up (by decide)) all_nil)))) (.none)
theorem f_forces_of (g : Glob Hd.sp h mg GLO) : Fact P w (HK.K h) mg base cls 6 "forces_of" 3 F_forces_of :=
  fact_of (ps := ["house", "pile", "weights"]) g (i := 98) (by kernel_rfl) s_forces_of (of_isSome c_forces_of) rfl (fun _ _ _ _ _ _ us hl => match us, hl with | [_, _, _], _ => rfl) (by decide) (all_cons ((f_solution g).up (by decide)) (all_cons ((f_bearing_rows g).up (by decide)) (all_cons ((f_contacts_of g).up (by decide)) all_nil))) (.none)
theorem f_motion_of (g : Glob Hd.sp h mg GLO) : Fact P w (HK.K h) mg base cls 6 "motion_of" 3 F_motion_of :=
  fact_of (ps := ["house", "pile", "weights"]) g (i := 99) (by kernel_rfl) s_motion_of (of_isSome c_motion_of) rfl (fun _ _ _ _ _ _ us hl => match us, hl with | [_, _, _], _ => rfl) (by decide) (all_cons ((f_outermost g).up (by decide)) (all_cons ((f_sunk g).up (by decide)) all_nil)) (.none)
theorem f_does_stand (g : Glob Hd.sp h mg GLO) : Fact P w (HK.K h) mg base cls 7 "does_stand" 3 F_does_stand :=
  fact_of (ps := ["house", "pile", "weights"]) g (i := 100) (by kernel_rfl) s_does_stand (of_isSome c_does_stand) rfl (fun _ _ _ _ _ _ us hl => match us, hl with | [_, _, _], _ => rfl) (by decide) (all_cons ((f_motion_of g).up (by decide)) all_nil) (.none)
theorem f_need_standing (g : Glob Hd.sp h mg GLO) : Fact P w (HK.K h) mg base cls 8 "need_standing" 3 F_need_standing :=
  fact_of (ps := ["house", "pile", "weights"]) g (i := 101) (by kernel_rfl) s_need_standing (of_isSome c_need_standing) rfl (fun _ _ _ _ _ _ us hl => match us, hl with | [_, _, _], _ => rfl) (by decide) (all_cons ((f_does_stand g).up (by decide)) all_nil) (.none)
theorem f_is_force (g : Glob Hd.sp h mg GLO) : Fact P w (HK.K h) mg base cls 3 "is_force" 1 F_is_force :=
  fact_of (ps := ["value"]) g (i := 102) (by kernel_rfl) s_is_force (of_isSome c_is_force) rfl (fun _ _ _ _ _ _ us hl => match us, hl with | [_], _ => rfl) (by decide) (all_cons ((f_is_fraction g).up (by decide)) all_nil) (.none)
theorem f_are_forces (g : Glob Hd.sp h mg GLO) : Fact P w (HK.K h) mg base cls 4 "are_forces" 3 F_are_forces :=
  fact_of (ps := ["house", "pile", "value"]) g (i := 103) (by kernel_rfl) s_are_forces (of_isSome c_are_forces) rfl (fun _ _ _ _ _ _ us hl => match us, hl with | [_, _, _], _ => rfl) (by decide) (all_cons ((f_contacts_of g).up (by decide)) (all_cons ((f_is_tuple g).up (by decide)) (all_cons ((f_is_force g).up (by decide)) all_nil))) (.none)
theorem f_is_whole (g : Glob Hd.sp h mg GLO) : Fact P w (HK.K h) mg base cls 1 "is_whole" 1 F_is_whole :=
  fact_of (ps := ["value"]) g (i := 104) (by kernel_rfl) s_is_whole (of_isSome c_is_whole) rfl (fun _ _ _ _ _ _ us hl => match us, hl with | [_], _ => rfl) (by decide) (all_nil) (.none)
theorem f_is_motion (g : Glob Hd.sp h mg GLO) : Fact P w (HK.K h) mg base cls 2 "is_motion" 2 F_is_motion :=
  fact_of (ps := ["pile", "value"]) g (i := 105) (by kernel_rfl) s_is_motion (of_isSome c_is_motion) rfl (fun _ _ _ _ _ _ us hl => match us, hl with | [_, _], _ => rfl) (by decide) (all_cons ((f_is_tuple g).up (by decide)) (all_cons ((f_is_whole g).up (by decide)) all_nil)) (.none)
theorem f_row_is_so (g : Glob Hd.sp h mg GLO) : Fact P w (HK.K h) mg base cls 3 "row_is_so" 2 F_row_is_so :=
  fact_of (ps := ["line", "numbers"]) g (i := 106) (by kernel_rfl) s_row_is_so (of_isSome c_row_is_so) rfl (fun _ _ _ _ _ _ us hl => match us, hl with | [_, _], _ => rfl) (by decide) (all_cons ((f_lowest g).up (by decide)) all_nil) (.none)
theorem f_do_bear (g : Glob Hd.sp h mg GLO) : Fact P w (HK.K h) mg base cls 5 "do_bear" 4 F_do_bear :=
  fact_of (ps := ["house", "pile", "weights", "value"]) g (i := 107) (by kernel_rfl) s_do_bear (of_isSome c_do_bear) rfl (fun _ _ _ _ _ _ us hl => match us, hl with | [_, _, _, _], _ => rfl) (by decide) (all_cons ((f_row_is_so g).up (by decide)) (all_cons ((f_bearing_rows g).up (by decide)) all_nil)) (.none)
theorem f_is_toppling (g : Glob Hd.sp h mg GLO) : Fact P w (HK.K h) mg base cls 4 "is_toppling" 4 F_is_toppling :=
  fact_of (ps := ["house", "pile", "weights", "value"]) g (i := 108) (by kernel_rfl) s_is_toppling (of_isSome c_is_toppling) rfl (fun _ _ _ _ _ _ us hl => match us, hl with | [_, _, _, _], _ => rfl) (by decide) (all_cons ((f_marks_of g).up (by decide)) (all_cons ((f_contacts_of g).up (by decide)) (all_cons ((f_sunk g).up (by decide)) (all_cons ((f_gap_at g).up (by decide)) all_nil)))) (.none)
theorem f_stands (g : Glob Hd.sp h mg GLO) : Fact P w (HK.K h) mg base cls 8 "stands" 3 F_stands :=
  fact_of (ps := ["house", "pile", "weights"]) g (i := 109) (by kernel_rfl) s_stands (of_isSome c_stands) rfl (fun _ _ _ _ _ _ us hl => match us, hl with | [_, _, _], _ => rfl) (by decide) (all_cons ((f_need_known g).up (by decide)) (all_cons ((f_does_stand g).up (by decide)) all_nil)) (.none)
theorem f_forces (g : Glob Hd.sp h mg GLO) : Fact P w (HK.K h) mg base cls 7 "forces" 3 F_forces :=
  fact_of (ps := ["house", "pile", "weights"]) g (i := 110) (by kernel_rfl) s_forces (of_isSome c_forces) rfl (fun _ _ _ _ _ _ us hl => match us, hl with | [_, _, _], _ => rfl) (by decide) (all_cons ((f_need_known g).up (by decide)) (all_cons ((f_forces_of g).up (by decide)) all_nil)) (.none)
theorem f_motion (g : Glob Hd.sp h mg GLO) : Fact P w (HK.K h) mg base cls 7 "motion" 3 F_motion :=
  fact_of (ps := ["house", "pile", "weights"]) g (i := 111) (by kernel_rfl) s_motion (of_isSome c_motion) rfl (fun _ _ _ _ _ _ us hl => match us, hl with | [_, _, _], _ => rfl) (by decide) (all_cons ((f_need_known g).up (by decide)) (all_cons ((f_motion_of g).up (by decide)) all_nil)) (.none)
theorem f_bears (g : Glob Hd.sp h mg GLO) : Fact P w (HK.K h) mg base cls 7 "bears" 4 F_bears :=
  fact_of (ps := ["house", "pile", "weights", "value"]) g (i := 112) (by kernel_rfl) s_bears (of_isSome c_bears) rfl (fun _ _ _ _ _ _ us hl => match us, hl with | [_, _, _, _], _ => rfl) (by decide) (all_cons ((f_need_known g).up (by decide)) (all_cons ((f_do_bear g).up (by decide)) (all_cons ((f_are_forces g).up (by decide)) all_nil))) (.none)
theorem f_topples (g : Glob Hd.sp h mg GLO) : Fact P w (HK.K h) mg base cls 7 "topples" 4 F_topples :=
  fact_of (ps := ["house", "pile", "weights", "value"]) g (i := 113) (by kernel_rfl) s_topples (of_isSome c_topples) rfl (fun _ _ _ _ _ _ us hl => match us, hl with | [_, _, _, _], _ => rfl) (by decide) (all_cons ((f_need_known g).up (by decide)) (all_cons ((f_is_toppling g).up (by decide)) (all_cons ((f_is_motion g).up (by decide)) all_nil))) (.none)
theorem f_Yard_init (g : Glob Hd.sp h mg GLO) : FMk P w (HK.K h) mg base cls 6 "Yard" (arF 3 F_Yard_init) :=
  mk_of (ps := ["self", "house", "weights"]) g (i := 0) (j := 5) (n := 0) rfl rfl rfl s_Yard_init (of_isSome c_Yard_init) (by decide) (fun _ _ _ _ _ _ us hl => match us, hl with | [_, _, _], _ => rfl) (all_cons ((f_need_house g).up (by decide)) (all_cons ((f_need_weights g).up (by decide)) all_nil)) (⟨all_nil, all_nil, all_nil, all_cons (g.fld (i := 0) (j := 1) rfl rfl) (all_cons (g.fld (i := 0) (j := 2) rfl rfl) (all_cons (g.fld (i := 0) (j := 3) rfl rfl) (all_cons (g.fld (i := 0) (j := 4) rfl rfl) all_nil))), all_nil, all_nil, all_nil, all_nil, all_nil⟩)
theorem f_Yard_house (g : Glob Hd.sp h mg GLO) : FProp P w (HK.K h) mg base cls 3 "Yard" "house" F_Yard_house :=
  prop_of (ps := ["self"]) g (i := 0) (j := 7) (n := 1) rfl rfl rfl s_Yard_house (of_isSome c_Yard_house) rfl (fun _ _ _ _ _ _ us hl => match us, hl with | [_], _ => rfl) (all_nil) (⟨all_nil, all_nil, all_nil, all_cons (g.fld (i := 0) (j := 1) rfl rfl) all_nil, all_nil, all_nil, all_nil, all_nil, all_nil⟩)
theorem f_Yard_weights (g : Glob Hd.sp h mg GLO) : FProp P w (HK.K h) mg base cls 3 "Yard" "weights" F_Yard_weights :=
  prop_of (ps := ["self"]) g (i := 0) (j := 8) (n := 2) rfl rfl rfl s_Yard_weights (of_isSome c_Yard_weights) rfl (fun _ _ _ _ _ _ us hl => match us, hl with | [_], _ => rfl) (all_nil) (⟨all_nil, all_nil, all_nil, all_cons (g.fld (i := 0) (j := 2) rfl rfl) all_nil, all_nil, all_nil, all_nil, all_nil, all_nil⟩)
theorem f_Yard_pile (g : Glob Hd.sp h mg GLO) : FProp P w (HK.K h) mg base cls 3 "Yard" "pile" F_Yard_pile :=
  prop_of (ps := ["self"]) g (i := 0) (j := 9) (n := 3) rfl rfl rfl s_Yard_pile (of_isSome c_Yard_pile) rfl (fun _ _ _ _ _ _ us hl => match us, hl with | [_], _ => rfl) (all_nil) (⟨all_nil, all_nil, all_nil, all_cons (g.fld (i := 0) (j := 3) rfl rfl) all_nil, all_nil, all_nil, all_nil, all_nil, all_nil⟩)
theorem f_Yard_steps (g : Glob Hd.sp h mg GLO) : FProp P w (HK.K h) mg base cls 3 "Yard" "steps" F_Yard_steps :=
  prop_of (ps := ["self"]) g (i := 0) (j := 10) (n := 4) rfl rfl rfl s_Yard_steps (of_isSome c_Yard_steps) rfl (fun _ _ _ _ _ _ us hl => match us, hl with | [_], _ => rfl) (all_nil) (⟨all_nil, all_nil, all_nil, all_cons (g.fld (i := 0) (j := 3) rfl rfl) all_nil, all_nil, all_nil, all_nil, all_nil, all_nil⟩)
theorem f_Yard_go_on (g : Glob Hd.sp h mg GLO) : FMt P w (HK.K h) mg base cls 10 "Yard" "go_on" (arF 2 F_Yard_go_on) :=
  meth_of (ps := ["self", "steps"]) g (i := 0) (j := 11) (n := 5) rfl rfl rfl s_Yard_go_on (of_isSome c_Yard_go_on) (fun _ _ _ _ _ _ us hl => match us, hl with | [_, _], _ => rfl) (all_cons ((f_is_step g).up (by decide)) (all_cons ((f_stepped g).up (by decide)) (all_cons ((f_does_stand g).up (by decide)) all_nil))) (⟨all_nil, all_nil, all_nil, all_cons (g.fld (i := 0) (j := 3) rfl rfl) (all_cons (g.fld (i := 0) (j := 4) rfl rfl) (all_cons (g.fld (i := 0) (j := 1) rfl rfl) (all_cons (g.fld (i := 0) (j := 2) rfl rfl) all_nil))), all_nil, all_nil, all_nil, all_nil, all_nil⟩)
theorem f_Yard_lay (g : Glob Hd.sp h mg GLO) : FMt P w (HK.K h) mg base cls 13 "Yard" "lay" (arF 3 F_Yard_lay) :=
  meth_of (ps := ["self", "plank", "left"]) g (i := 0) (j := 12) (n := 6) rfl rfl rfl s_Yard_lay (of_isSome c_Yard_lay) (fun _ _ _ _ _ _ us hl => match us, hl with | [_, _, _], _ => rfl) (all_cons ((f_triple_of g).up (by decide)) all_nil) (⟨all_nil, all_cons ((f_Yard_go_on g).up (by decide)) all_nil, all_nil, all_cons (g.fld (i := 0) (j := 3) rfl rfl) all_nil, all_nil, all_nil, all_nil, all_nil, all_nil⟩)
theorem f_Yard_take (g : Glob Hd.sp h mg GLO) : FMt P w (HK.K h) mg base cls 13 "Yard" "take" (arF 2 F_Yard_take) :=
  meth_of (ps := ["self", "plank"]) g (i := 0) (j := 13) (n := 7) rfl rfl rfl s_Yard_take (of_isSome c_Yard_take) (fun _ _ _ _ _ _ us hl => match us, hl with | [_, _], _ => rfl) (all_cons ((f_triple_of g).up (by decide)) all_nil) (⟨all_nil, all_cons ((f_Yard_go_on g).up (by decide)) all_nil, all_nil, all_cons (g.fld (i := 0) (j := 3) rfl rfl) all_nil, all_nil, all_nil, all_nil, all_nil, all_nil⟩)
theorem f_Yard_slide (g : Glob Hd.sp h mg GLO) : FMt P w (HK.K h) mg base cls 13 "Yard" "slide" (arF 3 F_Yard_slide) :=
  meth_of (ps := ["self", "plank", "by"]) g (i := 0) (j := 14) (n := 8) rfl rfl rfl s_Yard_slide (of_isSome c_Yard_slide) (fun _ _ _ _ _ _ us hl => match us, hl with | [_, _, _], _ => rfl) (all_cons ((f_triple_of g).up (by decide)) all_nil) (⟨all_nil, all_cons ((f_Yard_go_on g).up (by decide)) all_nil, all_nil, all_cons (g.fld (i := 0) (j := 3) rfl rfl) all_nil, all_nil, all_nil, all_nil, all_nil, all_nil⟩)
theorem f_Yard_iadd (g : Glob Hd.sp h mg GLO) : FMt P w (HK.K h) mg base cls 13 "Yard" "__iadd__" (arF 2 F_Yard_iadd) :=
  meth_of (ps := ["self", "steps"]) g (i := 0) (j := 15) (n := 9) rfl rfl rfl s_Yard_iadd (of_isSome c_Yard_iadd) (fun _ _ _ _ _ _ us hl => match us, hl with | [_, _], _ => rfl) (all_cons ((f_is_tuple g).up (by decide)) all_nil) (⟨all_nil, all_cons ((f_Yard_go_on g).up (by decide)) all_nil, all_nil, all_nil, all_nil, all_nil, all_nil, all_nil, all_nil⟩)
theorem f_Yard_forces (g : Glob Hd.sp h mg GLO) : FMt P w (HK.K h) mg base cls 9 "Yard" "forces" (arF 1 F_Yard_forces) :=
  meth_of (ps := ["self"]) g (i := 0) (j := 16) (n := 10) rfl rfl rfl s_Yard_forces (of_isSome c_Yard_forces) (fun _ _ _ _ _ _ us hl => match us, hl with | [_], _ => rfl) (all_cons ((f_forces_of g).up (by decide)) all_nil) (⟨all_nil, all_nil, all_nil, all_cons (g.fld (i := 0) (j := 1) rfl rfl) (all_cons (g.fld (i := 0) (j := 2) rfl rfl) (all_cons (g.fld (i := 0) (j := 3) rfl rfl) all_nil)), all_nil, all_nil, all_nil, all_nil, all_nil⟩)
theorem f_Yard_heavy (g : Glob Hd.sp h mg GLO) : FMt P w (HK.K h) mg base cls 3 "Yard" "heavy" (arF 1 F_Yard_heavy) :=
  meth_of (ps := ["self"]) g (i := 0) (j := 17) (n := 11) rfl rfl rfl s_Yard_heavy (of_isSome c_Yard_heavy) (fun _ _ _ _ _ _ us hl => match us, hl with | [_], _ => rfl) (all_nil) (⟨all_nil, all_nil, all_nil, all_cons (g.fld (i := 0) (j := 2) rfl rfl) (all_cons (g.fld (i := 0) (j := 3) rfl rfl) all_nil), all_nil, all_nil, all_nil, all_nil, all_nil⟩)
theorem f_Yard_undo (g : Glob Hd.sp h mg GLO) : FMt P w (HK.K h) mg base cls 3 "Yard" "undo" (arF 1 F_Yard_undo) :=
  meth_of (ps := ["self"]) g (i := 0) (j := 18) (n := 12) rfl rfl rfl s_Yard_undo (of_isSome c_Yard_undo) (fun _ _ _ _ _ _ us hl => match us, hl with | [_], _ => rfl) (all_nil) (⟨all_nil, all_nil, all_nil, all_cons (g.fld (i := 0) (j := 3) rfl rfl) (all_cons (g.fld (i := 0) (j := 4) rfl rfl) all_nil), all_nil, all_nil, all_nil, all_nil, all_nil⟩)
theorem f_Yard_getitem (g : Glob Hd.sp h mg GLO) : FMt P w (HK.K h) mg base cls 5 "Yard" "__getitem__" (arF 2 F_Yard_getitem) :=
  meth_of (ps := ["self", "plank"]) g (i := 0) (j := 20) (n := 14) rfl rfl rfl s_Yard_getitem (of_isSome c_Yard_getitem) (fun _ _ _ _ _ _ us hl => match us, hl with | [_, _], _ => rfl) (all_cons ((f_need_plank g).up (by decide)) (all_cons ((f_triple_of g).up (by decide)) all_nil)) (⟨all_nil, all_nil, all_nil, all_cons (g.fld (i := 0) (j := 3) rfl rfl) all_nil, all_nil, all_nil, all_nil, all_nil, all_nil⟩)
theorem f_Yard_contains (g : Glob Hd.sp h mg GLO) : FMt P w (HK.K h) mg base cls 4 "Yard" "__contains__" (arF 2 F_Yard_contains) :=
  meth_of (ps := ["self", "value"]) g (i := 0) (j := 21) (n := 15) rfl rfl rfl s_Yard_contains (of_isSome c_Yard_contains) (fun _ _ _ _ _ _ us hl => match us, hl with | [_, _], _ => rfl) (all_cons ((f_is_number g).up (by decide)) (all_cons ((f_triple_of g).up (by decide)) all_nil)) (⟨all_nil, all_nil, all_nil, all_cons (g.fld (i := 0) (j := 3) rfl rfl) all_nil, all_nil, all_nil, all_nil, all_nil, all_nil⟩)
theorem f_Yard_len (g : Glob Hd.sp h mg GLO) : FMt P w (HK.K h) mg base cls 3 "Yard" "__len__" (arF 1 F_Yard_len) :=
  meth_of (ps := ["self"]) g (i := 0) (j := 22) (n := 16) rfl rfl rfl s_Yard_len (of_isSome c_Yard_len) (fun _ _ _ _ _ _ us hl => match us, hl with | [_], _ => rfl) (all_nil) (⟨all_nil, all_nil, all_nil, all_cons (g.fld (i := 0) (j := 3) rfl rfl) all_nil, all_nil, all_nil, all_nil, all_nil, all_nil⟩)
theorem f_Yard_bool (g : Glob Hd.sp h mg GLO) : FMt P w (HK.K h) mg base cls 4 "Yard" "__bool__" (arF 1 F_Yard_bool) :=
  meth_of (ps := ["self"]) g (i := 0) (j := 23) (n := 17) rfl rfl rfl s_Yard_bool (of_isSome c_Yard_bool) (fun _ _ _ _ _ _ us hl => match us, hl with | [_], _ => rfl) (all_cons ((f_ends_of g).up (by decide)) all_nil) (⟨all_nil, all_nil, all_nil, all_cons (g.fld (i := 0) (j := 1) rfl rfl) (all_cons (g.fld (i := 0) (j := 3) rfl rfl) all_nil), all_nil, all_nil, all_nil, all_nil, all_nil⟩)
theorem f_Yard_eq (g : Glob Hd.sp h mg GLO) : FMt P w (HK.K h) mg base cls 3 "Yard" "__eq__" (arF 2 F_Yard_eq) :=
  meth_of (ps := ["self", "other"]) g (i := 0) (j := 25) (n := 19) rfl rfl rfl s_Yard_eq (of_isSome c_Yard_eq) (fun _ _ _ _ _ _ us hl => match us, hl with | [_, _], _ => rfl) (all_nil) (⟨all_nil, all_nil, all_nil, all_cons (g.fld (i := 0) (j := 1) rfl rfl) (all_cons (g.fld (i := 27) (j := 28) rfl rfl) (all_cons (g.fld (i := 0) (j := 2) rfl rfl) (all_cons (g.fld (i := 0) (j := 3) rfl rfl) all_nil))), all_nil, all_nil, all_nil, all_cons (g.cls_ (i := 0) rfl (by decide)) all_nil, all_nil⟩)
theorem f_Yard_log (g : Glob Hd.sp h mg GLO) : FGn P w (HK.K h) mg base cls 5 "Yard" "log" F_Yard_log :=
  gen_of (ps := ["self"]) g (i := 0) (j := 26) (n := 20) rfl rfl rfl s_Yard_log (of_isSome c_Yard_log) rfl (fun _ _ _ _ _ _ us hl => match us, hl with | [_], _ => rfl) (all_nil) (⟨all_nil, all_nil, all_nil, all_cons (g.fld (i := 0) (j := 3) rfl rfl) all_nil, all_nil, all_nil, all_nil, all_nil, all_nil⟩)
theorem f_as_row (g : Glob Hd.sp h mg GLO) : Fact P w (HK.K h) mg base cls 1 "as_row" 2 F_as_row :=
  fact_of (ps := ["factors", "strict"]) g (i := 116) (by kernel_rfl) s_as_row (of_isSome c_as_row) rfl (fun _ _ _ _ _ _ us hl => match us, hl with | [_, _], _ => rfl) (by decide) (all_nil) (.none)
theorem f_opposite (g : Glob Hd.sp h mg GLO) : Fact P w (HK.K h) mg base cls 1 "opposite" 1 F_opposite :=
  fact_of (ps := ["factors"]) g (i := 117) (by kernel_rfl) s_opposite (of_isSome c_opposite) rfl (fun _ _ _ _ _ _ us hl => match us, hl with | [_], _ => rfl) (by decide) (all_nil) (.none)
theorem f_weight_rows (g : Glob Hd.sp h mg GLO) : Fact P w (HK.K h) mg base cls 2 "weight_rows" 1 F_weight_rows :=
  fact_of (ps := ["many"]) g (i := 118) (by kernel_rfl) s_weight_rows (of_isSome c_weight_rows) rfl (fun _ _ _ _ _ _ us hl => match us, hl with | [_], _ => rfl) (by decide) (all_cons ((f_as_row g).up (by decide)) all_nil) (.none)
theorem f_fact_rows (g : Glob Hd.sp h mg GLO) : Fact P w (HK.K h) mg base cls 3 "fact_rows" 2 F_fact_rows :=
  fact_of (ps := ["house", "facts"]) g (i := 119) (by kernel_rfl) s_fact_rows (of_isSome c_fact_rows) rfl (fun _ _ _ _ _ _ us hl => match us, hl with | [_, _], _ => rfl) (by decide) (all_cons ((f_weight_rows g).up (by decide)) (all_cons ((f_count_in g).up (by decide)) (all_cons ((f_as_row g).up (by decide)) (all_cons ((f_opposite g).up (by decide)) all_nil)))) (.none)
theorem f_weights_for (g : Glob Hd.sp h mg GLO) : Fact P w (HK.K h) mg base cls 6 "weights_for" 2 F_weights_for :=
  fact_of (ps := ["rows", "many"]) g (i := 120) (by kernel_rfl) s_weights_for (of_isSome c_weights_for) rfl (fun _ _ _ _ _ _ us hl => match us, hl with | [_, _], _ => rfl) (by decide) (all_cons ((f_solution g).up (by decide)) (all_cons ((f_neat' g).up (by decide)) (all_cons ((f_divisor' g).up (by decide)) all_nil))) (.none)
theorem f_are_possible (g : Glob Hd.sp h mg GLO) : Fact P w (HK.K h) mg base cls 7 "are_possible" 2 F_are_possible :=
  fact_of (ps := ["house", "facts"]) g (i := 121) (by kernel_rfl) s_are_possible (of_isSome c_are_possible) rfl (fun _ _ _ _ _ _ us hl => match us, hl with | [_, _], _ => rfl) (by decide) (all_cons ((f_weights_for g).up (by decide)) (all_cons ((f_fact_rows g).up (by decide)) all_nil)) (.none)
theorem f_need_possible (g : Glob Hd.sp h mg GLO) : Fact P w (HK.K h) mg base cls 8 "need_possible" 2 F_need_possible :=
  fact_of (ps := ["house", "facts"]) g (i := 122) (by kernel_rfl) s_need_possible (of_isSome c_need_possible) rfl (fun _ _ _ _ _ _ us hl => match us, hl with | [_, _], _ => rfl) (by decide) (all_cons ((f_are_possible g).up (by decide)) all_nil) (.none)
theorem f_sums_of (g : Glob Hd.sp h mg GLO) : Fact P w (HK.K h) mg base cls 6 "sums_of" 2 F_sums_of :=
  fact_of (ps := ["house", "pile"]) g (i := 123) (by kernel_rfl) s_sums_of (of_isSome c_sums_of) rfl (fun _ _ _ _ _ _ us hl => match us, hl with | [_, _], _ => rfl) (by decide) (all_cons ((f_outermost g).up (by decide)) (all_cons ((f_neat' g).up (by decide)) (all_cons ((f_lifts g).up (by decide)) all_nil))) (.none)
theorem f_falling_weights (g : Glob Hd.sp h mg GLO) : Fact P w (HK.K h) mg base cls 7 "falling_weights" 3 F_falling_weights :=
  fact_of (ps := ["house", "pile", "rows"]) g (i := 124) (by kernel_rfl) s_falling_weights (of_isSome c_falling_weights) rfl (fun _ _ _ _ _ _ us hl => match us, hl with | [_, _, _], _ => rfl) (by decide) (all_cons ((f_sums_of g).up (by decide)) (all_cons ((f_weights_for g).up (by decide)) (all_cons ((f_as_row g).up (by decide)) (all_cons ((f_opposite g).up (by decide)) all_nil)))) (.none)
theorem f_standing_rows (g : Glob Hd.sp h mg GLO) : Fact P w (HK.K h) mg base cls 7 "standing_rows" 2 F_standing_rows :=
  fact_of (ps := ["house", "pile"]) g (i := 125) (by kernel_rfl) s_standing_rows (of_isSome c_standing_rows) rfl (fun _ _ _ _ _ _ us hl => match us, hl with | [_, _], _ => rfl) (by decide) (all_cons ((f_as_row g).up (by decide)) (all_cons ((f_sums_of g).up (by decide)) all_nil)) (.none)
theorem f_is_sure (g : Glob Hd.sp h mg GLO) : Fact P w (HK.K h) mg base cls 8 "is_sure" 3 F_is_sure :=
  fact_of (ps := ["house", "pile", "facts"]) g (i := 126) (by kernel_rfl) s_is_sure (of_isSome c_is_sure) rfl (fun _ _ _ _ _ _ us hl => match us, hl with | [_, _, _], _ => rfl) (by decide) (all_cons ((f_falling_weights g).up (by decide)) (all_cons ((f_fact_rows g).up (by decide)) all_nil)) (.none)
theorem f_told (g : Glob Hd.sp h mg GLO) : Fact P w (HK.K h) mg base cls 9 "told" 3 F_told :=
  fact_of (ps := ["house", "pile", "facts"]) g (i := 127) (by kernel_rfl) s_told (of_isSome c_told) rfl (fun _ _ _ _ _ _ us hl => match us, hl with | [_, _, _], _ => rfl) (by decide) (all_cons ((f_is_sure g).up (by decide)) (all_cons ((f_weights_for g).up (by decide)) (all_cons ((f_fact_rows g).up (by decide)) (all_cons ((f_standing_rows g).up (by decide)) all_nil)))) (.none)
theorem f_lots_of (g : Glob Hd.sp h mg GLO) : Fact P w (HK.K h) mg base cls 1 "lots_of" 1 F_lots_of :=
  fact_of (ps := ["many"]) g (i := 128) (by kernel_rfl) s_lots_of (of_isSome c_lots_of) rfl (fun _ _ _ _ _ _ us hl => match us, hl with | [_], _ => rfl) (by decide) (all_nil) (.none)
theorem f_is_enough (g : Glob Hd.sp h mg GLO) : Fact P w (HK.K h) mg base cls 9 "is_enough" 3 F_is_enough :=
  fact_of (ps := ["house", "pile", "facts"]) g (i := 129) (by kernel_rfl) s_is_enough (of_isSome c_is_enough) rfl (fun _ _ _ _ _ _ us hl => match us, hl with | [_, _, _], _ => rfl) (by decide) (all_cons ((f_are_possible g).up (by decide)) (all_cons ((f_is_sure g).up (by decide)) all_nil)) (.none)
theorem f_thinned (g : Glob Hd.sp h mg GLO) : Fact P w (HK.K h) mg base cls 7 "thinned" 2 F_thinned :=
  fact_of (ps := ["house", "pile"]) g (i := 130) (by kernel_rfl) s_thinned (of_isSome c_thinned) rfl (fun _ _ _ _ _ _ us hl => match us, hl with | [_, _], _ => rfl) (by decide) (all_cons ((f_sums_of g).up (by decide)) (all_cons ((f_weight_rows g).up (by decide)) (all_cons ((f_as_row g).up (by decide)) (all_cons ((f_weights_for g).up (by decide)) (all_cons ((f_opposite g).up (by decide)) all_nil))))) (.none)
theorem f_can_stand (g : Glob Hd.sp h mg GLO) : Fact P w (HK.K h) mg base cls 8 "can_stand" 3 F_can_stand :=
  fact_of (ps := ["house", "pile", "facts"]) g (i := 131) (by kernel_rfl) s_can_stand (of_isSome c_can_stand) rfl (fun _ _ _ _ _ _ us hl => match us, hl with | [_, _, _], _ => rfl) (by decide) (all_cons ((f_need_case g).up (by decide)) (all_cons ((f_weights_for g).up (by decide)) (all_cons ((f_fact_rows g).up (by decide)) (all_cons ((f_standing_rows g).up (by decide)) all_nil)))) (.none)
theorem f_can_fall (g : Glob Hd.sp h mg GLO) : Fact P w (HK.K h) mg base cls 8 "can_fall" 3 F_can_fall :=
  fact_of (ps := ["house", "pile", "facts"]) g (i := 132) (by kernel_rfl) s_can_fall (of_isSome c_can_fall) rfl (fun _ _ _ _ _ _ us hl => match us, hl with | [_, _, _], _ => rfl) (by decide) (all_cons ((f_need_case g).up (by decide)) (all_cons ((f_falling_weights g).up (by decide)) (all_cons ((f_fact_rows g).up (by decide)) all_nil))) (.none)
theorem f_always (g : Glob Hd.sp h mg GLO) : Fact P w (HK.K h) mg base cls 10 "always" 3 F_always :=
  fact_of (ps := ["house", "pile", "facts"]) g (i := 133) (by kernel_rfl) s_always (of_isSome c_always) rfl (fun _ _ _ _ _ _ us hl => match us, hl with | [_, _, _], _ => rfl) (by decide) (all_cons ((f_need_case g).up (by decide)) (all_cons ((f_need_possible g).up (by decide)) (all_cons ((f_told g).up (by decide)) all_nil))) (.none)
theorem f_least_facts (g : Glob Hd.sp h mg GLO) : Fact P w (HK.K h) mg base cls 10 "least_facts" 3 F_least_facts :=
  fact_of (ps := ["house", "pile", "facts"]) g (i := 134) (by kernel_rfl) s_least_facts (of_isSome c_least_facts) rfl (fun _ _ _ _ _ _ us hl => match us, hl with | [_, _, _], _ => rfl) (by decide) (all_cons ((f_need_case g).up (by decide)) (all_cons ((f_lots_of g).up (by decide)) (all_cons ((f_ascending g).up (by decide)) (all_cons ((f_is_enough g).up (by decide)) all_nil)))) (.none)
theorem t_least_facts (g : Glob Hd.sp h mg GLO) : Fact P w (HK.K h) mg base cls 10 "least_facts" 3 (tabF T_least_facts) := (f_least_facts g).pure.same (tabF_of (List.all_eq_true.mp (and_at 4 tk_L_second_right rfl)))
theorem f_conditions (g : Glob Hd.sp h mg GLO) : Fact P w (HK.K h) mg base cls 8 "conditions" 2 F_conditions :=
  fact_of (ps := ["house", "pile"]) g (i := 135) (by kernel_rfl) s_conditions (of_isSome c_conditions) rfl (fun _ _ _ _ _ _ us hl => match us, hl with | [_, _], _ => rfl) (by decide) (all_cons ((f_need_house g).up (by decide)) (all_cons ((f_need_pile g).up (by decide)) (all_cons ((f_thinned g).up (by decide)) all_nil))) (.none)
theorem f_both_bounds (g : Glob Hd.sp h mg GLO) : Fact P w (HK.K h) mg base cls 6 "both_bounds" 4 F_both_bounds :=
  fact_of (ps := ["house", "pile", "weights", "at"]) g (i := 136) (by kernel_rfl) s_both_bounds (of_isSome c_both_bounds) rfl (fun _ _ _ _ _ _ us hl => match us, hl with | [_, _, _, _], _ => rfl) (by decide) (all_cons ((f_greatest_worth g).up (by decide)) (all_cons ((f_bearing_rows g).up (by decide)) (all_cons ((f_lowest g).up (by decide)) (all_cons ((f_contacts_of g).up (by decide)) all_nil)))) (.none)
theorem f_pairs_of (g : Glob Hd.sp h mg GLO) : Fact P w (HK.K h) mg base cls 4 "pairs_of" 2 F_pairs_of :=
  fact_of (ps := ["house", "pile"]) g (i := 137) (by kernel_rfl) s_pairs_of (of_isSome c_pairs_of) rfl (fun _ _ _ _ _ _ us hl => match us, hl with | [_, _], _ => rfl) (by decide) (all_cons ((f_contacts_of g).up (by decide)) all_nil) (.none)
theorem f_is_pair (g : Glob Hd.sp h mg GLO) : Fact P w (HK.K h) mg base cls 2 "is_pair" 1 F_is_pair :=
  fact_of (ps := ["value"]) g (i := 138) (by kernel_rfl) s_is_pair (of_isSome c_is_pair) rfl (fun _ _ _ _ _ _ us hl => match us, hl with | [_], _ => rfl) (by decide) (all_cons ((f_is_tuple g).up (by decide)) (all_cons ((f_is_number g).up (by decide)) all_nil)) (.none)
theorem f_bearing (g : Glob Hd.sp h mg GLO) : Fact P w (HK.K h) mg base cls 9 "bearing" 4 F_bearing :=
  fact_of (ps := ["house", "pile", "weights", "contact"]) g (i := 139) (by kernel_rfl) s_bearing (of_isSome c_bearing) rfl (fun _ _ _ _ _ _ us hl => match us, hl with | [_, _, _, _], _ => rfl) (by decide) (all_cons ((f_need_known g).up (by decide)) (all_cons ((f_need_standing g).up (by decide)) (all_cons ((f_both_bounds g).up (by decide)) (all_cons ((f_is_pair g).up (by decide)) (all_cons ((f_pairs_of g).up (by decide)) all_nil))))) (.none)
theorem t_bearing (g : Glob Hd.sp h mg GLO) : Fact P w (HK.K h) mg base cls 9 "bearing" 4 (tabF T_bearing) := (f_bearing g).pure.same (tabF_of (List.all_eq_true.mp (and_at 2 tk_L_second_right rfl)))
theorem f_borne (g : Glob Hd.sp h mg GLO) : Fact P w (HK.K h) mg base cls 9 "borne" 4 F_borne :=
  fact_of (ps := ["house", "pile", "weights", "plank"]) g (i := 140) (by kernel_rfl) s_borne (of_isSome c_borne) rfl (fun _ _ _ _ _ _ us hl => match us, hl with | [_, _, _, _], _ => rfl) (by decide) (all_cons ((f_need_known g).up (by decide)) (all_cons ((f_need_plank g).up (by decide)) (all_cons ((f_need_standing g).up (by decide)) (all_cons ((f_pairs_of g).up (by decide)) (all_cons ((f_both_bounds g).up (by decide)) all_nil))))) (.none)
theorem t_borne (g : Glob Hd.sp h mg GLO) : Fact P w (HK.K h) mg base cls 9 "borne" 4 (tabF T_borne) := (f_borne g).pure.same (tabF_of (List.all_eq_true.mp (and_at 1 tk_L_second_right rfl)))
theorem f_built_orders (g : Glob Hd.sp h mg GLO) : Fact P w (HK.K h) mg base cls 9 "built_orders" 3 F_built_orders :=
  fact_of (ps := ["house", "pile", "facts"]) g (i := 141) (by kernel_rfl) s_built_orders (of_isSome c_built_orders) rfl (fun _ _ _ _ _ _ us hl => match us, hl with | [_, _, _], _ => rfl) (by decide) (all_cons ((f_ascending g).up (by decide)) (all_cons ((f_laid g).up (by decide)) (all_cons ((f_is_sure g).up (by decide)) all_nil))) (.none)
theorem f_taken_orders (g : Glob Hd.sp h mg GLO) : Fact P w (HK.K h) mg base cls 9 "taken_orders" 3 F_taken_orders :=
  fact_of (ps := ["house", "pile", "facts"]) g (i := 142) (by kernel_rfl) s_taken_orders (of_isSome c_taken_orders) rfl (fun _ _ _ _ _ _ us hl => match us, hl with | [_, _, _], _ => rfl) (by decide) (all_cons ((f_ascending g).up (by decide)) (all_cons ((f_is_sure g).up (by decide)) (all_cons ((f_less g).up (by decide)) (all_cons ((f_is_bare g).up (by decide)) all_nil)))) (.none)
theorem f_pile_behind (g : Glob Hd.sp h mg GLO) : Fact P w (HK.K h) mg base cls 9 "pile_behind" 2 F_pile_behind :=
  fact_of (ps := ["house", "script"]) g (i := 143) (by kernel_rfl) s_pile_behind (of_isSome c_pile_behind) rfl (fun _ _ _ _ _ _ us hl => match us, hl with | [_, _], _ => rfl) (by decide) (all_cons ((f_need_house g).up (by decide)) (all_cons ((f_need_script g).up (by decide)) (all_cons ((f_piles_along g).up (by decide)) all_nil))) (.none)
theorem f_first_fall (g : Glob Hd.sp h mg GLO) : Fact P w (HK.K h) mg base cls 9 "first_fall" 3 F_first_fall :=
  fact_of (ps := ["house", "script", "facts"]) g (i := 144) (by kernel_rfl) s_first_fall (of_isSome c_first_fall) rfl (fun _ _ _ _ _ _ us hl => match us, hl with | [_, _, _], _ => rfl) (by decide) (all_cons ((f_need_house g).up (by decide)) (all_cons ((f_need_script g).up (by decide)) (all_cons ((f_need_facts g).up (by decide)) (all_cons ((f_need_possible g).up (by decide)) (all_cons ((f_piles_along g).up (by decide)) (all_cons ((f_is_sure g).up (by decide)) all_nil)))))) (.none)
theorem f_lay_orders (g : Glob Hd.sp h mg GLO) : Fact P w (HK.K h) mg base cls 10 "lay_orders" 3 F_lay_orders :=
  fact_of (ps := ["house", "pile", "facts"]) g (i := 145) (by kernel_rfl) s_lay_orders (of_isSome c_lay_orders) rfl (fun _ _ _ _ _ _ us hl => match us, hl with | [_, _, _], _ => rfl) (by decide) (all_cons ((f_need_case g).up (by decide)) (all_cons ((f_need_possible g).up (by decide)) (all_cons ((f_built_orders g).up (by decide)) all_nil))) (.none)
theorem f_take_orders (g : Glob Hd.sp h mg GLO) : Fact P w (HK.K h) mg base cls 10 "take_orders" 3 F_take_orders :=
  fact_of (ps := ["house", "pile", "facts"]) g (i := 146) (by kernel_rfl) s_take_orders (of_isSome c_take_orders) rfl (fun _ _ _ _ _ _ us hl => match us, hl with | [_, _, _], _ => rfl) (by decide) (all_cons ((f_need_case g).up (by decide)) (all_cons ((f_need_possible g).up (by decide)) (all_cons ((f_taken_orders g).up (by decide)) all_nil))) (.none)
theorem f_safe_places (g : Glob Hd.sp h mg GLO) : Fact P w (HK.K h) mg base cls 9 "safe_places" 4 F_safe_places :=
  fact_of (ps := ["house", "pile", "facts", "plank"]) g (i := 147) (by kernel_rfl) s_safe_places (of_isSome c_safe_places) rfl (fun _ _ _ _ _ _ us hl => match us, hl with | [_, _, _, _], _ => rfl) (by decide) (all_cons ((f_need_case g).up (by decide)) (all_cons ((f_need_possible g).up (by decide)) (all_cons ((f_laid g).up (by decide)) (all_cons ((f_is_number g).up (by decide)) (all_cons ((f_triple_of g).up (by decide)) (all_cons ((f_is_sure g).up (by decide)) all_nil)))))) (.none)
theorem f_planks_of (g : Glob Hd.sp h mg GLO) : Fact P w (HK.K h) mg base cls 1 "planks_of" 1 F_planks_of :=
  fact_of (ps := ["pile"]) g (i := 148) (by kernel_rfl) s_planks_of (of_isSome c_planks_of) rfl (fun _ _ _ _ _ _ us hl => match us, hl with | [_], _ => rfl) (by decide) (all_nil) (.none)
theorem f_worse_weights (g : Glob Hd.sp h mg GLO) : Fact P w (HK.K h) mg base cls 8 "worse_weights" 4 F_worse_weights :=
  fact_of (ps := ["house", "one", "other", "facts"]) g (i := 149) (by kernel_rfl) s_worse_weights (of_isSome c_worse_weights) rfl (fun _ _ _ _ _ _ us hl => match us, hl with | [_, _, _, _], _ => rfl) (by decide) (all_cons ((f_falling_weights g).up (by decide)) (all_cons ((f_fact_rows g).up (by decide)) (all_cons ((f_standing_rows g).up (by decide)) all_nil))) (.none)
theorem f_need_two (g : Glob Hd.sp h mg GLO) : Fact P w (HK.K h) mg base cls 7 "need_two" 4 F_need_two :=
  fact_of (ps := ["house", "one", "other", "facts"]) g (i := 150) (by kernel_rfl) s_need_two (of_isSome c_need_two) rfl (fun _ _ _ _ _ _ us hl => match us, hl with | [_, _, _, _], _ => rfl) (by decide) (all_cons ((f_need_case g).up (by decide)) (all_cons ((f_need_pile g).up (by decide)) (all_cons ((f_need_facts g).up (by decide)) (all_cons ((f_planks_of g).up (by decide)) all_nil)))) (.none)
theorem f_parted (g : Glob Hd.sp h mg GLO) : Fact P w (HK.K h) mg base cls 9 "parted" 4 F_parted :=
  fact_of (ps := ["house", "one", "other", "facts"]) g (i := 151) (by kernel_rfl) s_parted (of_isSome c_parted) rfl (fun _ _ _ _ _ _ us hl => match us, hl with | [_, _, _, _], _ => rfl) (by decide) (all_cons ((f_worse_weights g).up (by decide)) all_nil) (.none)
theorem f_alike (g : Glob Hd.sp h mg GLO) : Fact P w (HK.K h) mg base cls 10 "alike" 4 F_alike :=
  fact_of (ps := ["house", "one", "other", "facts"]) g (i := 152) (by kernel_rfl) s_alike (of_isSome c_alike) rfl (fun _ _ _ _ _ _ us hl => match us, hl with | [_, _, _, _], _ => rfl) (by decide) (all_cons ((f_need_two g).up (by decide)) (all_cons ((f_parted g).up (by decide)) all_nil)) (.none)
theorem f_parting (g : Glob Hd.sp h mg GLO) : Fact P w (HK.K h) mg base cls 10 "parting" 4 F_parting :=
  fact_of (ps := ["house", "one", "other", "facts"]) g (i := 153) (by kernel_rfl) s_parting (of_isSome c_parting) rfl (fun _ _ _ _ _ _ us hl => match us, hl with | [_, _, _, _], _ => rfl) (by decide) (all_cons ((f_need_two g).up (by decide)) (all_cons ((f_parted g).up (by decide)) all_nil)) (.none)
theorem f_never_worse (g : Glob Hd.sp h mg GLO) : Fact P w (HK.K h) mg base cls 9 "never_worse" 4 F_never_worse :=
  fact_of (ps := ["house", "one", "other", "facts"]) g (i := 154) (by kernel_rfl) s_never_worse (of_isSome c_never_worse) rfl (fun _ _ _ _ _ _ us hl => match us, hl with | [_, _, _, _], _ => rfl) (by decide) (all_cons ((f_need_two g).up (by decide)) (all_cons ((f_worse_weights g).up (by decide)) all_nil)) (.none)
theorem f_needless (g : Glob Hd.sp h mg GLO) : Fact P w (HK.K h) mg base cls 9 "needless" 3 F_needless :=
  fact_of (ps := ["house", "pile", "facts"]) g (i := 155) (by kernel_rfl) s_needless (of_isSome c_needless) rfl (fun _ _ _ _ _ _ us hl => match us, hl with | [_, _, _], _ => rfl) (by decide) (all_cons ((f_need_case g).up (by decide)) (all_cons ((f_need_possible g).up (by decide)) (all_cons ((f_planks_of g).up (by decide)) (all_cons ((f_is_bare g).up (by decide)) (all_cons ((f_is_sure g).up (by decide)) (all_cons ((f_less g).up (by decide)) all_nil)))))) (.none)
theorem f_is_less (g : Glob Hd.sp h mg GLO) : Fact P w (HK.K h) mg base cls 1 "is_less" 2 F_is_less :=
  fact_of (ps := ["one", "other"]) g (i := 156) (by kernel_rfl) s_is_less (of_isSome c_is_less) rfl (fun _ _ _ _ _ _ us hl => match us, hl with | [_, _], _ => rfl) (by decide) (all_nil) (.none)
theorem f_later (g : Glob Hd.sp h mg GLO) : Fact P w (HK.K h) mg base cls 2 "later" 2 F_later :=
  fact_of (ps := ["one", "other"]) g (i := 157) (by kernel_rfl) s_later (of_isSome c_later) rfl (fun _ _ _ _ _ _ us hl => match us, hl with | [_, _], _ => rfl) (by decide) (all_cons ((f_is_less g).up (by decide)) all_nil) (.none)
theorem f_sooner (g : Glob Hd.sp h mg GLO) : Fact P w (HK.K h) mg base cls 2 "sooner" 2 F_sooner :=
  fact_of (ps := ["one", "other"]) g (i := 158) (by kernel_rfl) s_sooner (of_isSome c_sooner) rfl (fun _ _ _ _ _ _ us hl => match us, hl with | [_, _], _ => rfl) (by decide) (all_cons ((f_is_less g).up (by decide)) all_nil) (.none)
theorem f_free_spans (g : Glob Hd.sp h mg GLO) : Fact P w (HK.K h) mg base cls 4 "free_spans" 3 F_free_spans :=
  fact_of (ps := ["house", "pile", "plank"]) g (i := 159) (by kernel_rfl) s_free_spans (of_isSome c_free_spans) rfl (fun _ _ _ _ _ _ us hl => match us, hl with | [_, _, _], _ => rfl) (by decide) (all_cons ((f_ends_of g).up (by decide)) (all_cons ((f_ascending g).up (by decide)) (all_cons ((f_triple_of g).up (by decide)) (all_cons ((f_contacts_of g).up (by decide)) all_nil)))) (.none)
theorem f_borne_span (g : Glob Hd.sp h mg GLO) : Fact P w (HK.K h) mg base cls 6 "borne_span" 3 F_borne_span :=
  fact_of (ps := ["house", "pile", "plank"]) g (i := 160) (by kernel_rfl) s_borne_span (of_isSome c_borne_span) rfl (fun _ _ _ _ _ _ us hl => match us, hl with | [_, _, _], _ => rfl) (by decide) (all_cons ((f_ends_of g).up (by decide)) (all_cons ((f_outermost g).up (by decide)) (all_cons ((f_triple_of g).up (by decide)) (all_cons ((f_is_less g).up (by decide)) (all_cons ((f_later g).up (by decide)) (all_cons ((f_lowest g).up (by decide)) (all_cons ((f_sooner g).up (by decide)) all_nil))))))) (.none)
theorem f_is_free (g : Glob Hd.sp h mg GLO) : Fact P w (HK.K h) mg base cls 5 "is_free" 3 F_is_free :=
  fact_of (ps := ["house", "pile", "place"]) g (i := 161) (by kernel_rfl) s_is_free (of_isSome c_is_free) rfl (fun _ _ _ _ _ _ us hl => match us, hl with | [_, _, _], _ => rfl) (by decide) (all_cons ((f_triple_of g).up (by decide)) (all_cons ((f_free_spans g).up (by decide)) (all_cons ((f_is_tuple g).up (by decide)) (all_cons ((f_is_fraction g).up (by decide)) (all_cons ((f_is_less g).up (by decide)) all_nil))))) (.none)
theorem f_spans (g : Glob Hd.sp h mg GLO) : Fact P w (HK.K h) mg base cls 9 "spans" 4 F_spans :=
  fact_of (ps := ["house", "pile", "facts", "plank"]) g (i := 162) (by kernel_rfl) s_spans (of_isSome c_spans) rfl (fun _ _ _ _ _ _ us hl => match us, hl with | [_, _, _, _], _ => rfl) (by decide) (all_cons ((f_need_case g).up (by decide)) (all_cons ((f_need_plank g).up (by decide)) (all_cons ((f_need_possible g).up (by decide)) (all_cons ((f_free_spans g).up (by decide)) (all_cons ((f_is_sure g).up (by decide)) (all_cons ((f_borne_span g).up (by decide)) (all_cons ((f_later g).up (by decide)) (all_cons ((f_sooner g).up (by decide)) (all_cons ((f_is_less g).up (by decide)) all_nil))))))))) (.none)
theorem t_spans (g : Glob Hd.sp h mg GLO) : Fact P w (HK.K h) mg base cls 9 "spans" 4 (tabF T_spans) := (f_spans g).pure.same (tabF_of (List.all_eq_true.mp (and_at 0 tk_L_second_right rfl)))
theorem f_greatest_load (g : Glob Hd.sp h mg GLO) : Fact P w (HK.K h) mg base cls 9 "greatest_load" 4 F_greatest_load :=
  fact_of (ps := ["house", "pile", "weights", "place"]) g (i := 163) (by kernel_rfl) s_greatest_load (of_isSome c_greatest_load) rfl (fun _ _ _ _ _ _ us hl => match us, hl with | [_, _, _, _], _ => rfl) (by decide) (all_cons ((f_need_known g).up (by decide)) (all_cons ((f_need_standing g).up (by decide)) (all_cons ((f_outermost g).up (by decide)) (all_cons ((f_is_free g).up (by decide)) (all_cons ((f_lowest g).up (by decide)) (all_cons ((f_sooner g).up (by decide)) (all_cons ((f_sunk g).up (by decide)) all_nil))))))) (.none)
theorem t_greatest_load (g : Glob Hd.sp h mg GLO) : Fact P w (HK.K h) mg base cls 9 "greatest_load" 4 (tabF T_greatest_load) := (f_greatest_load g).pure.same (tabF_of (List.all_eq_true.mp (and_at 3 tk_L_second_right rfl)))
theorem f_line_of (g : Glob Hd.sp h mg GLO) : Fact P w (HK.K h) mg base cls 1 "line_of" 1 F_line_of :=
  fact_of (ps := ["triple"]) g (i := 165) (by kernel_rfl) s_line_of (of_isSome c_line_of) rfl (fun _ _ _ _ _ _ us hl => match us, hl with | [_], _ => rfl) (by decide) (all_nil) (.none)
theorem f_text_of (g : Glob Hd.sp h mg GLO) : Fact P w (HK.K h) mg base cls 2 "text_of" 1 F_text_of :=
  fact_of (ps := ["pile"]) g (i := 166) (by kernel_rfl) s_text_of (of_isSome c_text_of) rfl (fun _ _ _ _ _ _ us hl => match us, hl with | [_], _ => rfl) (by decide) (all_cons ((f_line_of g).up (by decide)) all_nil) (.none)
theorem f_number_in (g : Glob Hd.sp h mg GLO) : Fact P w (HK.K h) mg base cls 1 "number_in" 1 F_number_in :=
  fact_of (ps := ["word"]) g (i := 167) (by kernel_rfl) s_number_in (of_isSome c_number_in) rfl (fun _ _ _ _ _ _ us hl => match us, hl with | [_], _ => rfl) (by decide) (all_nil) (⟨all_nil, all_nil, all_nil, all_nil, all_nil, all_nil, all_nil, all_nil, all_cons (g.txt (i := 50) rfl (by decide)) all_nil⟩)
theorem f_triple_in (g : Glob Hd.sp h mg GLO) : Fact P w (HK.K h) mg base cls 2 "triple_in" 1 F_triple_in :=
  fact_of (ps := ["line"]) g (i := 168) (by kernel_rfl) s_triple_in (of_isSome c_triple_in) rfl (fun _ _ _ _ _ _ us hl => match us, hl with | [_], _ => rfl) (by decide) (all_cons ((f_number_in g).up (by decide)) all_nil) (.none)
theorem f_pile_in (g : Glob Hd.sp h mg GLO) : Fact P w (HK.K h) mg base cls 5 "pile_in" 2 F_pile_in :=
  fact_of (ps := ["house", "value"]) g (i := 169) (by kernel_rfl) s_pile_in (of_isSome c_pile_in) rfl (fun _ _ _ _ _ _ us hl => match us, hl with | [_, _], _ => rfl) (by decide) (all_cons ((f_is_good_pile g).up (by decide)) (all_cons ((f_triple_in g).up (by decide)) (all_cons ((f_is_triple g).up (by decide)) all_nil))) (.none)
theorem f_pile_text (g : Glob Hd.sp h mg GLO) : Fact P w (HK.K h) mg base cls 6 "pile_text" 2 F_pile_text :=
  fact_of (ps := ["house", "pile"]) g (i := 170) (by kernel_rfl) s_pile_text (of_isSome c_pile_text) rfl (fun _ _ _ _ _ _ us hl => match us, hl with | [_, _], _ => rfl) (by decide) (all_cons ((f_need_house g).up (by decide)) (all_cons ((f_need_pile g).up (by decide)) (all_cons ((f_text_of g).up (by decide)) all_nil))) (.none)
theorem f_read_pile (g : Glob Hd.sp h mg GLO) : Fact P w (HK.K h) mg base cls 6 "read_pile" 2 F_read_pile :=
  fact_of (ps := ["house", "value"]) g (i := 171) (by kernel_rfl) s_read_pile (of_isSome c_read_pile) rfl (fun _ _ _ _ _ _ us hl => match us, hl with | [_, _], _ => rfl) (by decide) (all_cons ((f_need_house g).up (by decide)) (all_cons ((f_pile_in g).up (by decide)) all_nil)) (.none)
theorem f_need_good (g : Glob Hd.sp h mg GLO) : Fact P w (HK.K h) mg base cls 5 "need_good" 2 F_need_good :=
  fact_of (ps := ["house", "pile"]) g (i := 172) (by kernel_rfl) s_need_good (of_isSome c_need_good) rfl (fun _ _ _ _ _ _ us hl => match us, hl with | [_, _], _ => rfl) (by decide) (all_cons ((f_is_good_pile g).up (by decide)) all_nil) (.none)
theorem f_in_order (g : Glob Hd.sp h mg GLO) : Fact P w (HK.K h) mg base cls 3 "in_order" 2 F_in_order :=
  fact_of (ps := ["house", "triples"]) g (i := 173) (by kernel_rfl) s_in_order (of_isSome c_in_order) rfl (fun _ _ _ _ _ _ us hl => match us, hl with | [_, _], _ => rfl) (by decide) (all_cons ((f_is_triple g).up (by decide)) all_nil) (.none)
theorem f_with_plank (g : Glob Hd.sp h mg GLO) : Fact P w (HK.K h) mg base cls 6 "with_plank" 3 F_with_plank :=
  fact_of (ps := ["house", "pile", "pair"]) g (i := 174) (by kernel_rfl) s_with_plank (of_isSome c_with_plank) rfl (fun _ _ _ _ _ _ us hl => match us, hl with | [_, _, _], _ => rfl) (by decide) (all_cons ((f_is_step g).up (by decide)) (all_cons ((f_stepped g).up (by decide)) all_nil)) (.none)
theorem f_without_plank (g : Glob Hd.sp h mg GLO) : Fact P w (HK.K h) mg base cls 6 "without_plank" 3 F_without_plank :=
  fact_of (ps := ["house", "pile", "plank"]) g (i := 175) (by kernel_rfl) s_without_plank (of_isSome c_without_plank) rfl (fun _ _ _ _ _ _ us hl => match us, hl with | [_, _, _], _ => rfl) (by decide) (all_cons ((f_is_step g).up (by decide)) (all_cons ((f_stepped g).up (by decide)) all_nil)) (.none)
theorem f_turned (g : Glob Hd.sp h mg GLO) : Fact P w (HK.K h) mg base cls 1 "turned" 2 F_turned :=
  fact_of (ps := ["house", "pile"]) g (i := 176) (by kernel_rfl) s_turned (of_isSome c_turned) rfl (fun _ _ _ _ _ _ us hl => match us, hl with | [_, _], _ => rfl) (by decide) (all_nil) (.none)
theorem f_Pile_house (g : Glob Hd.sp h mg GLO) : FProp P w (HK.K h) mg base cls 3 "Pile" "house" F_Pile_house :=
  prop_of (ps := ["self"]) g (i := 27) (j := 33) (n := 23) rfl rfl rfl s_Pile_house (of_isSome c_Pile_house) rfl (fun _ _ _ _ _ _ us hl => match us, hl with | [_], _ => rfl) (all_nil) (⟨all_nil, all_nil, all_nil, all_cons (g.fld (i := 27) (j := 28) rfl rfl) all_nil, all_nil, all_nil, all_nil, all_nil, all_nil⟩)
theorem f_Pile_source (g : Glob Hd.sp h mg GLO) : FProp P w (HK.K h) mg base cls 3 "Pile" "source" F_Pile_source :=
  prop_of (ps := ["self"]) g (i := 27) (j := 34) (n := 24) rfl rfl rfl s_Pile_source (of_isSome c_Pile_source) rfl (fun _ _ _ _ _ _ us hl => match us, hl with | [_], _ => rfl) (all_nil) (⟨all_nil, all_nil, all_nil, all_cons (g.fld (i := 27) (j := 29) rfl rfl) all_nil, all_nil, all_nil, all_nil, all_nil, all_nil⟩)
theorem f_need_like (g : Glob Hd.sp h mg GLO) : Fact P w (HK.K h) mg base cls 4 "need_like" 2 F_need_like :=
  fact_of (ps := ["one", "other"]) g (i := 177) (by kernel_rfl) s_need_like (of_isSome c_need_like) rfl (fun _ _ _ _ _ _ us hl => match us, hl with | [_, _], _ => rfl) (by decide) (all_cons ((f_planks_of g).up (by decide)) all_nil) (⟨all_nil, all_nil, all_cons ((f_Yard_house g).up (by decide)) (all_cons ((f_Pile_house g).up (by decide)) (all_cons ((f_Pile_source g).up (by decide)) all_nil)), all_nil, all_nil, all_nil, all_nil, all_nil, all_nil⟩)
theorem f_Pile_init (g : Glob Hd.sp h mg GLO) : FMk P w (HK.K h) mg base cls 8 "Pile" (stF 2 F_Pile_init) :=
  mkS_of (ps := ["self", "house"]) (pv := "triples") g (i := 27) (j := 30) (n := 21) rfl rfl rfl s_Pile_init (of_isSome c_Pile_init) (by decide) (fun a b c d e f => StX.bind_star2 (B := fun us => bindArgs (PySem.W.fnOf "__init__" "Pile.__init__" (defArgs (Hd.mt 182 1)) (defBody (Hd.mt 182 1)) (defScope (Hd.mt 182 1)) .none a b c d e f) ⟨us, []⟩) (fun _ _ => rfl) (fun _ _ _ _ => rfl)) (all_cons ((f_need_house g).up (by decide)) (all_cons ((f_need_good g).up (by decide)) (all_cons ((f_in_order g).up (by decide)) all_nil))) (⟨all_nil, all_nil, all_nil, all_cons (g.fld (i := 27) (j := 28) rfl rfl) (all_cons (g.fld (i := 27) (j := 29) rfl rfl) all_nil), all_nil, all_nil, all_nil, all_nil, all_nil⟩)
theorem f_Pile_read (g : Glob Hd.sp h mg GLO) : FCm P w (HK.K h) mg base cls 11 "Pile" "read" (arF 3 F_Pile_read) :=
  cm_of (ps := ["cls", "house", "value"]) g (i := 27) (j := 32) (n := 22) rfl rfl rfl s_Pile_read (of_isSome c_Pile_read) (by decide) (fun _ _ _ _ _ _ us hl => match us, hl with | [_, _, _], _ => rfl) (all_cons ((f_need_house g).up (by decide)) (all_cons ((f_pile_in g).up (by decide)) all_nil)) (⟨all_nil, all_nil, all_nil, all_nil, all_cons ((f_Pile_init g).up (by decide)) all_nil, all_nil, all_nil, all_nil, all_nil⟩)
theorem f_Pile_add (g : Glob Hd.sp h mg GLO) : FMt P w (HK.K h) mg base cls 11 "Pile" "__add__" (arF 2 F_Pile_add) :=
  meth_of (ps := ["self", "pair"]) g (i := 27) (j := 35) (n := 25) rfl rfl rfl s_Pile_add (of_isSome c_Pile_add) (fun _ _ _ _ _ _ us hl => match us, hl with | [_, _], _ => rfl) (all_cons ((f_with_plank g).up (by decide)) all_nil) (⟨all_nil, all_nil, all_nil, all_cons (g.fld (i := 27) (j := 28) rfl rfl) (all_cons (g.fld (i := 27) (j := 29) rfl rfl) all_nil), all_cons ((f_Pile_init g).up (by decide)) all_nil, all_nil, all_nil, all_nil, all_nil⟩)
theorem f_Pile_sub (g : Glob Hd.sp h mg GLO) : FMt P w (HK.K h) mg base cls 11 "Pile" "__sub__" (arF 2 F_Pile_sub) :=
  meth_of (ps := ["self", "plank"]) g (i := 27) (j := 36) (n := 26) rfl rfl rfl s_Pile_sub (of_isSome c_Pile_sub) (fun _ _ _ _ _ _ us hl => match us, hl with | [_, _], _ => rfl) (all_cons ((f_without_plank g).up (by decide)) all_nil) (⟨all_nil, all_nil, all_nil, all_cons (g.fld (i := 27) (j := 28) rfl rfl) (all_cons (g.fld (i := 27) (j := 29) rfl rfl) all_nil), all_cons ((f_Pile_init g).up (by decide)) all_nil, all_nil, all_nil, all_nil, all_nil⟩)
theorem f_Pile_invert (g : Glob Hd.sp h mg GLO) : FMt P w (HK.K h) mg base cls 11 "Pile" "__invert__" (arF 1 F_Pile_invert) :=
  meth_of (ps := ["self"]) g (i := 27) (j := 37) (n := 27) rfl rfl rfl s_Pile_invert (of_isSome c_Pile_invert) (fun _ _ _ _ _ _ us hl => match us, hl with | [_], _ => rfl) (all_cons ((f_need_good g).up (by decide)) (all_cons ((f_turned g).up (by decide)) all_nil)) (⟨all_nil, all_nil, all_nil, all_cons (g.fld (i := 27) (j := 28) rfl rfl) (all_cons (g.fld (i := 27) (j := 29) rfl rfl) all_nil), all_cons ((f_Pile_init g).up (by decide)) all_nil, all_nil, all_nil, all_nil, all_nil⟩)
theorem f_Pile_iadd (g : Glob Hd.sp h mg GLO) : FMt P w (HK.K h) mg base cls 9 "Pile" "__iadd__" (arF 2 F_Pile_iadd) :=
  meth_of (ps := ["self", "pair"]) g (i := 27) (j := 38) (n := 28) rfl rfl rfl s_Pile_iadd (of_isSome c_Pile_iadd) (fun _ _ _ _ _ _ us hl => match us, hl with | [_, _], _ => rfl) (all_cons ((f_with_plank g).up (by decide)) all_nil) (⟨all_nil, all_nil, all_nil, all_cons (g.fld (i := 27) (j := 29) rfl rfl) (all_cons (g.fld (i := 27) (j := 28) rfl rfl) all_nil), all_nil, all_nil, all_nil, all_nil, all_nil⟩)
theorem f_Pile_isub (g : Glob Hd.sp h mg GLO) : FMt P w (HK.K h) mg base cls 9 "Pile" "__isub__" (arF 2 F_Pile_isub) :=
  meth_of (ps := ["self", "plank"]) g (i := 27) (j := 39) (n := 29) rfl rfl rfl s_Pile_isub (of_isSome c_Pile_isub) (fun _ _ _ _ _ _ us hl => match us, hl with | [_, _], _ => rfl) (all_cons ((f_without_plank g).up (by decide)) all_nil) (⟨all_nil, all_nil, all_nil, all_cons (g.fld (i := 27) (j := 29) rfl rfl) (all_cons (g.fld (i := 27) (j := 28) rfl rfl) all_nil), all_nil, all_nil, all_nil, all_nil, all_nil⟩)
theorem f_Pile_call (g : Glob Hd.sp h mg GLO) : FMt P w (HK.K h) mg base cls 10 "Pile" "__call__" (arF 2 F_Pile_call) :=
  meth_of (ps := ["self", "weights"]) g (i := 27) (j := 40) (n := 30) rfl rfl rfl s_Pile_call (of_isSome c_Pile_call) (fun _ _ _ _ _ _ us hl => match us, hl with | [_, _], _ => rfl) (all_cons ((f_need_weights g).up (by decide)) (all_cons ((f_does_stand g).up (by decide)) all_nil)) (⟨all_nil, all_nil, all_nil, all_cons (g.fld (i := 27) (j := 28) rfl rfl) (all_cons (g.fld (i := 27) (j := 29) rfl rfl) all_nil), all_nil, all_nil, all_nil, all_nil, all_nil⟩)
theorem f_Pile_getitem (g : Glob Hd.sp h mg GLO) : FMt P w (HK.K h) mg base cls 5 "Pile" "__getitem__" (arF 2 F_Pile_getitem) :=
  meth_of (ps := ["self", "plank"]) g (i := 27) (j := 41) (n := 31) rfl rfl rfl s_Pile_getitem (of_isSome c_Pile_getitem) (fun _ _ _ _ _ _ us hl => match us, hl with | [_, _], _ => rfl) (all_cons ((f_need_plank g).up (by decide)) (all_cons ((f_triple_of g).up (by decide)) all_nil)) (⟨all_nil, all_nil, all_nil, all_cons (g.fld (i := 27) (j := 29) rfl rfl) all_nil, all_nil, all_nil, all_nil, all_nil, all_nil⟩)
theorem f_Pile_contains (g : Glob Hd.sp h mg GLO) : FMt P w (HK.K h) mg base cls 4 "Pile" "__contains__" (arF 2 F_Pile_contains) :=
  meth_of (ps := ["self", "value"]) g (i := 27) (j := 42) (n := 32) rfl rfl rfl s_Pile_contains (of_isSome c_Pile_contains) (fun _ _ _ _ _ _ us hl => match us, hl with | [_, _], _ => rfl) (all_cons ((f_is_number g).up (by decide)) (all_cons ((f_triple_of g).up (by decide)) all_nil)) (⟨all_nil, all_nil, all_nil, all_cons (g.fld (i := 27) (j := 29) rfl rfl) all_nil, all_nil, all_nil, all_nil, all_nil, all_nil⟩)
theorem f_Pile_len (g : Glob Hd.sp h mg GLO) : FMt P w (HK.K h) mg base cls 3 "Pile" "__len__" (arF 1 F_Pile_len) :=
  meth_of (ps := ["self"]) g (i := 27) (j := 43) (n := 33) rfl rfl rfl s_Pile_len (of_isSome c_Pile_len) (fun _ _ _ _ _ _ us hl => match us, hl with | [_], _ => rfl) (all_nil) (⟨all_nil, all_nil, all_nil, all_cons (g.fld (i := 27) (j := 29) rfl rfl) all_nil, all_nil, all_nil, all_nil, all_nil, all_nil⟩)
theorem f_Pile_bool (g : Glob Hd.sp h mg GLO) : FMt P w (HK.K h) mg base cls 11 "Pile" "__bool__" (arF 1 F_Pile_bool) :=
  meth_of (ps := ["self"]) g (i := 27) (j := 44) (n := 34) rfl rfl rfl s_Pile_bool (of_isSome c_Pile_bool) (fun _ _ _ _ _ _ us hl => match us, hl with | [_], _ => rfl) (all_cons ((f_is_sure g).up (by decide)) all_nil) (⟨all_nil, all_nil, all_nil, all_cons (g.fld (i := 27) (j := 28) rfl rfl) (all_cons (g.fld (i := 27) (j := 29) rfl rfl) all_nil), all_nil, all_nil, all_nil, all_nil, all_nil⟩)
theorem f_Pile_le (g : Glob Hd.sp h mg GLO) : FMt P w (HK.K h) mg base cls 11 "Pile" "__le__" (arF 2 F_Pile_le) :=
  meth_of (ps := ["self", "other"]) g (i := 27) (j := 46) (n := 36) rfl rfl rfl s_Pile_le (of_isSome c_Pile_le) (fun _ _ _ _ _ _ us hl => match us, hl with | [_, _], _ => rfl) (all_cons ((f_need_like g).up (by decide)) (all_cons ((f_worse_weights g).up (by decide)) all_nil)) (⟨all_nil, all_nil, all_nil, all_cons (g.fld (i := 27) (j := 28) rfl rfl) (all_cons (g.fld (i := 27) (j := 29) rfl rfl) all_nil), all_nil, all_nil, all_nil, all_cons (g.cls_ (i := 27) rfl (by decide)) all_nil, all_nil⟩)
theorem f_Pile_lt (g : Glob Hd.sp h mg GLO) : FMt P w (HK.K h) mg base cls 11 "Pile" "__lt__" (arF 2 F_Pile_lt) :=
  meth_of (ps := ["self", "other"]) g (i := 27) (j := 47) (n := 37) rfl rfl rfl s_Pile_lt (of_isSome c_Pile_lt) (fun _ _ _ _ _ _ us hl => match us, hl with | [_, _], _ => rfl) (all_cons ((f_need_like g).up (by decide)) (all_cons ((f_worse_weights g).up (by decide)) all_nil)) (⟨all_nil, all_nil, all_nil, all_cons (g.fld (i := 27) (j := 28) rfl rfl) (all_cons (g.fld (i := 27) (j := 29) rfl rfl) all_nil), all_nil, all_nil, all_nil, all_cons (g.cls_ (i := 27) rfl (by decide)) all_nil, all_nil⟩)
theorem f_Pile_eq (g : Glob Hd.sp h mg GLO) : FMt P w (HK.K h) mg base cls 3 "Pile" "__eq__" (arF 2 F_Pile_eq) :=
  meth_of (ps := ["self", "other"]) g (i := 27) (j := 48) (n := 38) rfl rfl rfl s_Pile_eq (of_isSome c_Pile_eq) (fun _ _ _ _ _ _ us hl => match us, hl with | [_, _], _ => rfl) (all_nil) (⟨all_nil, all_nil, all_nil, all_cons (g.fld (i := 27) (j := 28) rfl rfl) (all_cons (g.fld (i := 0) (j := 1) rfl rfl) (all_cons (g.fld (i := 27) (j := 29) rfl rfl) all_nil)), all_nil, all_nil, all_nil, all_cons (g.cls_ (i := 27) rfl (by decide)) all_nil, all_nil⟩)
theorem f_Pile_str (g : Glob Hd.sp h mg GLO) : FMt P w (HK.K h) mg base cls 4 "Pile" "__str__" (arF 1 F_Pile_str) :=
  meth_of (ps := ["self"]) g (i := 27) (j := 49) (n := 39) rfl rfl rfl s_Pile_str (of_isSome c_Pile_str) (fun _ _ _ _ _ _ us hl => match us, hl with | [_], _ => rfl) (all_cons ((f_line_of g).up (by decide)) all_nil) (⟨all_nil, all_nil, all_nil, all_cons (g.fld (i := 27) (j := 29) rfl rfl) all_nil, all_nil, all_nil, all_nil, all_nil, all_nil⟩)
theorem f_L_source (g : Glob Hd.sp h mg GLO) : Fact P w (HK.K h) mg base cls 1 "_law_source" 2 F_L_source :=
  fact_of (ps := ["script", "k"]) g (i := 179) (by kernel_rfl) s_L_source (of_isSome c_L_source) rfl (fun _ _ _ _ _ _ us hl => match us, hl with | [_, _], _ => rfl) (by decide) (all_nil) (.none)
theorem e_L_source : F_L_source = C_source := by kernel_rfl
theorem f_L_source' (g : Glob Hd.sp h mg GLO) : Fact P w (HK.K h) mg base cls 1 "_law_source" 2 C_source := (f_L_source g).same (by rw [e_L_source]; exact fun _ _ => .inr rfl)
theorem f_L_draw (g : Glob Hd.sp h mg GLO) : Fact P w (HK.K h) mg base cls 1 "_law_draw" 2 F_L_draw :=
  fact_of (ps := ["source", "many"]) g (i := 180) (by kernel_rfl) s_L_draw (of_isSome c_L_draw) rfl (fun _ _ _ _ _ _ us hl => match us, hl with | [_, _], _ => rfl) (by decide) (all_nil) (.none)
theorem e_L_draw : F_L_draw = C_draw := by kernel_rfl
theorem f_L_draw' (g : Glob Hd.sp h mg GLO) : Fact P w (HK.K h) mg base cls 1 "_law_draw" 2 C_draw := (f_L_draw g).same (by rw [e_L_draw]; exact fun _ _ => .inr rfl)
theorem f_L_some (g : Glob Hd.sp h mg GLO) : Fact P w (HK.K h) mg base cls 1 "_law_some" 0 F_L_some :=
  fact_of (ps := []) g (i := 181) (by kernel_rfl) s_L_some (of_isSome c_L_some) rfl (fun _ _ _ _ _ _ us hl => match us, hl with | [], _ => rfl) (by decide) (all_nil) (.none)
theorem f_L_first_right (g : Glob Hd.sp h mg GLO) : Fact P w (HK.K h) mg base cls 9 "_law_first_right" 0 F_L_first_right :=
  fact_of (ps := []) g (i := 182) (by kernel_rfl) s_L_first_right (of_isSome c_L_first_right) rfl (fun _ _ _ _ _ _ us hl => match us, hl with | [], _ => rfl) (by decide) (all_cons ((f_L_some g).up (by decide)) (all_cons ((f_is_script g).up (by decide)) (all_cons ((f_bears g).up (by decide)) (all_cons ((f_is_house g).up (by decide)) (all_cons ((f_is_pile g).up (by decide)) (all_cons ((f_keep g).up (by decide)) (all_cons ((f_contacts g).up (by decide)) (all_cons ((f_topples g).up (by decide)) (all_cons ((f_stands g).up (by decide)) (all_cons ((f_forces g).up (by decide)) (all_cons ((f_motion g).up (by decide)) all_nil))))))))))) (.none)
theorem k_L_first_right : okT 12 (F_L_first_right [] []) = true := by kernel_rfl
theorem f_L_first_right' (g : Glob Hd.sp h mg GLO) : Fact P w (HK.K h) mg base cls 9 "_law_first_right" 0 (rowZ 12) := (f_L_first_right g).pure.same (rowZ_of k_L_first_right)
theorem f_L_second_right (g : Glob Hd.sp h mg GLO) : Fact P w (HK.K h) mg base cls 11 "_law_second_right" 0 F_L_second_right :=
  fact_of (ps := []) g (i := 183) (by kernel_rfl) s_L_second_right (of_isSome c_L_second_right) rfl (fun _ _ _ _ _ _ us hl => match us, hl with | [], _ => rfl) (by decide) (all_cons ((f_L_some g).up (by decide)) (all_cons ((f_stands g).up (by decide)) (all_cons ((f_can_fall g).up (by decide)) (all_cons ((f_always g).up (by decide)) (all_cons ((f_can_stand g).up (by decide)) (all_cons ((t_least_facts g).up (by decide)) (all_cons ((t_spans g).up (by decide)) (all_cons ((t_greatest_load g).up (by decide)) (all_cons ((t_bearing g).up (by decide)) (all_cons ((f_conditions g).up (by decide)) (all_cons ((t_borne g).up (by decide)) all_nil))))))))))) (.none)
theorem k_L_second_right : okT 19 (F_L_second_right [] []) = true := by kernel_rfl
theorem f_L_second_right' (g : Glob Hd.sp h mg GLO) : Fact P w (HK.K h) mg base cls 11 "_law_second_right" 0 (rowZ 19) := (f_L_second_right g).pure.same (rowZ_of k_L_second_right)
theorem f_L_third_right (g : Glob Hd.sp h mg GLO) : Fact P w (HK.K h) mg base cls 11 "_law_third_right" 0 F_L_third_right :=
  fact_of (ps := []) g (i := 184) (by kernel_rfl) s_L_third_right (of_isSome c_L_third_right) rfl (fun _ _ _ _ _ _ us hl => match us, hl with | [], _ => rfl) (by decide) (all_cons ((f_L_some g).up (by decide)) (all_cons ((f_pile_behind g).up (by decide)) (all_cons ((f_first_fall g).up (by decide)) (all_cons ((f_lay_orders g).up (by decide)) (all_cons ((f_take_orders g).up (by decide)) (all_cons ((f_safe_places g).up (by decide)) (all_cons ((f_alike g).up (by decide)) (all_cons ((f_stands g).up (by decide)) (all_cons ((f_never_worse g).up (by decide)) (all_cons ((f_parting g).up (by decide)) (all_cons ((f_needless g).up (by decide)) (all_cons ((f_pile_text g).up (by decide)) (all_cons ((f_read_pile g).up (by decide)) all_nil))))))))))))) (.none)
theorem k_L_third_right : okT 16 (F_L_third_right [] []) = true := by kernel_rfl
theorem f_L_third_right' (g : Glob Hd.sp h mg GLO) : Fact P w (HK.K h) mg base cls 11 "_law_third_right" 0 (rowZ 16) := (f_L_third_right g).pure.same (rowZ_of k_L_third_right)
theorem f_L_fourth_right (g : Glob Hd.sp h mg GLO) : Fact P w (HK.K h) mg base cls 14 "_law_fourth_right" 0 F_L_fourth_right :=
  fact_of (ps := []) g (i := 185) (by kernel_rfl) s_L_fourth_right (of_isSome c_L_fourth_right) rfl (fun _ _ _ _ _ _ us hl => match us, hl with | [], _ => rfl) (by decide) (all_cons ((f_L_some g).up (by decide)) all_nil) (⟨all_nil, all_cons ((f_Yard_heavy g).up (by decide)) (all_cons ((f_Yard_take g).up (by decide)) (all_cons ((f_Yard_undo g).up (by decide)) (all_cons ((f_Yard_slide g).up (by decide)) (all_cons ((f_Yard_lay g).up (by decide)) (all_cons ((f_Yard_iadd g).up (by decide)) (all_cons ((f_Yard_getitem g).up (by decide)) (all_cons ((f_Yard_contains g).up (by decide)) (all_cons ((f_Yard_len g).up (by decide)) (all_cons ((f_Yard_bool g).up (by decide)) (all_cons ((f_Yard_eq g).up (by decide)) (all_cons ((f_Pile_add g).up (by decide)) (all_cons ((f_Pile_sub g).up (by decide)) (all_cons ((f_Pile_invert g).up (by decide)) (all_cons ((f_Pile_iadd g).up (by decide)) (all_cons ((f_Pile_isub g).up (by decide)) (all_cons ((f_Pile_call g).up (by decide)) (all_cons ((f_Pile_getitem g).up (by decide)) (all_cons ((f_Pile_contains g).up (by decide)) (all_cons ((f_Pile_len g).up (by decide)) (all_cons ((f_Pile_bool g).up (by decide)) (all_cons ((f_Pile_le g).up (by decide)) (all_cons ((f_Pile_lt g).up (by decide)) (all_cons ((f_Pile_eq g).up (by decide)) (all_cons ((f_Pile_str g).up (by decide)) all_nil)))))))))))))))))))))))), all_cons ((f_Pile_source g).up (by decide)) (all_cons ((f_Yard_pile g).up (by decide)) (all_cons ((f_Yard_steps g).up (by decide)) all_nil)), all_nil, all_cons ((f_Yard_init g).up (by decide)) (all_cons ((f_Pile_init g).up (by decide)) all_nil), all_cons ((f_Pile_read g).up (by decide)) all_nil, all_cons ((f_Yard_log g).up (by decide)) all_nil, all_cons (g.cls_ (i := 27) rfl (by decide)) (all_cons (g.cls_ (i := 0) rfl (by decide)) all_nil), all_nil⟩)
theorem k_L_fourth_right : okT 11 (F_L_fourth_right [] []) = true := by kernel_rfl
theorem f_L_fourth_right' (g : Glob Hd.sp h mg GLO) : Fact P w (HK.K h) mg base cls 14 "_law_fourth_right" 0 (rowZ 11) := (f_L_fourth_right g).pure.same (rowZ_of k_L_fourth_right)
theorem pf_law (g : Glob Hd.sp h mg GLO) : PfOk P w (HK.K h) mg base cls 14 cf_law := g.pf (all_cons ((f_L_source' g).up (by decide)) (all_cons ((f_L_first_right' g).up (by decide)) (all_cons ((f_L_draw' g).up (by decide)) (all_cons ((f_L_fourth_right' g).up (by decide)) (all_cons ((f_L_second_right' g).up (by decide)) (all_cons ((f_L_third_right' g).up (by decide)) all_nil)))))) (.none)
theorem sc_law : FnScope N_law ["script"] (defScope (Hd.top 191)) := scopeB_ok s_law
theorem ev_law : cFnB cf_law 60 false (defScope (Hd.top 191)) (defBody (Hd.top 191)) = some F_law := of_isSome c_law
theorem ok_law (g : Glob Hd.sp h mg GLO) {f : Addr} (hfa : mg ("law" : Str) = some (.ref f)) : ∃ fd : FuncData, (∀ (s : Shared) (v : Value), BindsTo s fd ⟨[v], []⟩ [("script", v)]) ∧ ∀ base : Heap, FnOk P w (HK.K h) mg base CX0 15 f fd ["script"] (spF (HK.K h) cls 1 F_law) := by
  obtain ⟨f', fd, h1, h2⟩ := g.gfn (i := 186) (x := "law") (st := Hd.top 191) (by kernel_rfl)
  rw [hfa] at h1
  cases h1
  have b := FunD.bindsA (ps := ["script"]) h2 fun _ _ _ _ _ _ us hl => match us, hl with | [_], _ => rfl
  exact ⟨fd, fun s v => b s [v] rfl, fun base => fn_sound0 (pf_law g) h2 sc_law ev_law⟩
end
end Ch29

set_option Elab.async false
set_option linter.all false
set_option maxRecDepth 100000
set_option maxHeartbeats 4000000
/-! the law's own loop -/
namespace PL
open PySem PySem.Spec PyProof.Rows L2
def lwIn (e : Ev) : Tv := asT (eOp oIn (eC (.bl false)) e)
def lw29Q : Tv := asT (eOp oEq (eCallN C_draw 2 (aCons (eVar 2) (aCons (eC (.int 2)) aNil))) (eC (.int 0)))
def lw29K : Tv := asT (eOp oEq (eVar 1) (eC (.int 0)))
def lw29S (B2 B3 B4 : Fn) : Ev := eOp oAdd (eOp oAdd (eCallN B2 0 aNil) (eCallN B3 0 aNil)) (eCallN B4 0 aNil)
def lwNo : Sv := sRet (eC (.bl false))
def lw29B (B1 B2 B3 B4 : Fn) : Sv := sSeq (sAsg (gVar 2) (eCallN C_source 2 (aCons (eVar 0) (aCons (eVar 1) aNil)))) (sSeq (sIf (tAndF lw29Q (lwIn (eCallN B4 0 aNil))) lwNo sNext) (sSeq (sIf (lwIn (eCallN B1 0 aNil)) lwNo sNext) (sIf (tAndF lw29K (lwIn (lw29S B2 B3 B4))) lwNo sNext)))
def lw29N : Ev := eOp oAdd (eC (.int 1)) (eCaM Bl.min.op (aCons (eCaM Bl.len.op (aCons (eVar 0) aNil)) (aCons (eC (.int 3)) aNil)))
def lw29R : Av := aCons lw29N aNil
def C_law29 (B1 B2 B3 B4 : Fn) : Fn := fnOfS 3 (sSeq (sFor (iRng1F lw29R) (gVar 1) (lw29B B1 B2 B3 B4)) (sRet (eC (.bl true))))
theorem rng1_ok {a : Ev} {ρ : Rho} {S S1 : Store} {j : Int} (ha : a ρ S = .ok (.int j) S1) (h1 : -(2 ^ 62) ≤ j) (h2 : j < 2 ^ 62) : iRng1F (aCons a aNil) ρ S = .ok (intsD 0 j.toNat) S1 := by
  unfold iRng1F aCons
  rw [ha]
  show (if -(2 ^ 62) ≤ j ∧ j < 2 ^ 62 then R.ok (intsD 0 j.toNat) S1 else .no) = _
  rw [if_pos ⟨h1, h2⟩]
theorem mem_intsD : ∀ {n : Nat} {lo : Nat} {d : D}, d ∈ intsD (lo : Int) n → ∃ k : Nat, d = .int (k : Int) ∧ k < lo + n
  | 0, _, _, h => absurd h (by simp [intsD])
  | n + 1, lo, d, h => by
    unfold intsD at h
    rcases List.mem_cons.mp h with e | h
    · exact ⟨lo, e, by omega⟩
    · have h : d ∈ intsD ((lo + 1 : Nat) : Int) n := h
      obtain ⟨k, e, hk⟩ := mem_intsD h
      exact ⟨k, e, by omega⟩
section
variable {ρ : Rho} {S S1 S2 S3 : Store} {x y z : D} {a b : Ev}
theorem callN0_ok {F : Fn} (h : F [] S = .ok x S1) : eCallN F 0 aNil ρ S = .ok x S1 := by
  show (F [] S).calm = _
  rw [h]
  rfl
theorem callN2_ok {F : Fn} (ha : a ρ S = .ok x S1) (hb : b ρ S1 = .ok y S2) (h : F [x, y] S2 = .ok z S3) : eCallN F 2 (aCons a (aCons b aNil)) ρ S = .ok z S3 := by
  unfold eCallN aCons
  rw [ha]
  show ((((b ρ S1).bind fun x S1 => (aNil ρ S1).bind fun xs S2 => .ok (x :: xs) S2).bind fun xs S2 => .ok (x :: xs) S2).bind fun xs S1 => if xs.length = 2 then (F xs S1).calm else .no) = _
  rw [hb]
  show (F [x, y] S2).calm = _
  rw [h]
  rfl
theorem andF_no {u v : Tv} {k : Bool} (hu : u ρ S = .ok k S1) (hv : v ρ S1 = .ok false S2) : ∃ S', tAndF u v ρ S = .ok false S' ∧ (S' = S1 ∨ S' = S2) := by
  unfold tAndF
  rw [hu]
  cases k with
  | true => exact ⟨S2, hv, .inr rfl⟩
  | false => exact ⟨S1, rfl, .inl rfl⟩
end
theorem eq_int {S : Store} {i j : Int} : ∃ b, oEq S (.int i) (.int j) = some (.bl b) := ⟨_, rfl⟩
theorem in_row11 {S : Store} : oIn S (.bl false) (.lst (List.replicate 11 (.bl true))) = some (.bl false) := by rfl
theorem in_row12 {S : Store} : oIn S (.bl false) (.lst (List.replicate 12 (.bl true))) = some (.bl false) := by rfl
theorem in_row46 {S : Store} : oIn S (.bl false) (.lst ((List.replicate 19 (.bl true) ++ List.replicate 16 (.bl true)) ++ List.replicate 11 (.bl true))) = some (.bl false) := by rfl
theorem add_row1 {S : Store} : oAdd S (.lst (List.replicate 19 (.bl true))) (.lst (List.replicate 16 (.bl true))) = some (.lst (List.replicate 19 (.bl true) ++ List.replicate 16 (.bl true))) := by rfl
theorem add_row2 {S : Store} : oAdd S (.lst (List.replicate 19 (.bl true) ++ List.replicate 16 (.bl true))) (.lst (List.replicate 11 (.bl true))) = some (.lst ((List.replicate 19 (.bl true) ++ List.replicate 16 (.bl true)) ++ List.replicate 11 (.bl true))) := by rfl
theorem law29_ok (ns : List Int) (hn : ns.length ≤ 100) (S : Store) : ∃ S1, C_law29 (rowZ 12) (rowZ 19) (rowZ 16) (rowZ 11) [.frz ns] S = .ok (.bl true) S1 := by
  have bad : ∀ i : Int, (if (3 : Int) < i then 3 else i) ≤ 3 := fun i => by split <;> omega
  let n : Nat := (1 + (if (3 : Int) < (ns.length : Int) then 3 else (ns.length : Int))).toNat
  have hn9 : n ≤ 4 := by
    show (1 + (if (3 : Int) < (ns.length : Int) then 3 else (ns.length : Int))).toNat ≤ 4
    have := bad ns.length
    omega
  have rg : iRng1F lw29R [some (.frz ns), none, none] S = .ok (intsD 0 n) S := by
    have e : lw29N [some (.frz ns), none, none] S = .ok (.int (1 + (if (3 : Int) < (ns.length : Int) then 3 else (ns.length : Int)))) S :=
      op_ok rfl (ca2_ok (f := Bl.min.op) (ca1_ok (f := Bl.len.op) rfl (z := .int ns.length) rfl) rfl (z := .int (if (3 : Int) < (ns.length : Int) then 3 else (ns.length : Int))) rfl) rfl
    have := bad ns.length
    have h0 : (0 : Int) ≤ (if (3 : Int) < (ns.length : Int) then 3 else (ns.length : Int)) := by split <;> omega
    exact rng1_ok e (by omega) (by omega)
  have loop : ∀ d ∈ intsD 0 n, ∀ ρ S, (∃ a b, ρ = [some (.frz ns), a, b]) → ∃ ρ1 S1, (∃ a b, ρ1 = [some (.frz ns), a, b]) ∧ ((gVar 1 d ρ S).bind (lw29B (rowZ 12) (rowZ 19) (rowZ 16) (rowZ 11)) = .ok (.nx ρ1) S1 ∨ (gVar 1 d ρ S).bind (lw29B (rowZ 12) (rowZ 19) (rowZ 16) (rowZ 11)) = .ok (.ct ρ1) S1) := by
    intro d hd ρ S hp
    obtain ⟨a, b, rfl⟩ := hp
    obtain ⟨k, rfl, hk⟩ := mem_intsD (lo := 0) hd
    obtain ⟨c, e1, s1⟩ := source_ok (S := S) (ns := ns) (k := k) (by omega)
    obtain ⟨r, c2, e2, r0, r4, s2⟩ := draw_ok (m := 2) s1 (by decide) (by decide)
    have w1 : (sAsg (gVar 2) (eCallN C_source 2 (aCons (eVar 0) (aCons (eVar 1) aNil)))) [some (.frz ns), some (.int (k : Int)), b] S = .ok (.nx [some (.frz ns), some (.int (k : Int)), some (.ref S.length)]) (S ++ [some c]) := asgV_ok (callN2_ok rfl rfl e1)
    obtain ⟨q, hq⟩ := eq_int (S := (S ++ [some c]).set S.length (some c2)) (i := r) (j := 0)
    have w2 : lw29Q [some (.frz ns), some (.int (k : Int)), some (.ref S.length)] (S ++ [some c]) = .ok q ((S ++ [some c]).set S.length (some c2)) := asT_ok (op_ok (callN2_ok rfl rfl e2) rfl hq)
    have w3 : ∀ ρ S, lwIn (eCallN (rowZ 11) 0 aNil) ρ S = .ok false S := fun ρ S => asT_ok (op_ok rfl (callN0_ok rfl) in_row11)
    have w4 : ∀ ρ S, lwIn (eCallN (rowZ 12) 0 aNil) ρ S = .ok false S := fun ρ S => asT_ok (op_ok rfl (callN0_ok rfl) in_row12)
    have w5 : ∀ ρ S, lwIn (lw29S (rowZ 19) (rowZ 16) (rowZ 11)) ρ S = .ok false S := fun ρ S => asT_ok (op_ok rfl (op_ok (op_ok (callN0_ok rfl) (callN0_ok rfl) add_row1) (callN0_ok rfl) add_row2) in_row46)
    obtain ⟨S2, a1, _⟩ := andF_no w2 (w3 _ _)
    obtain ⟨q', hq'⟩ := eq_int (S := S2) (i := (k : Int)) (j := 0)
    have w6 : lw29K [some (.frz ns), some (.int (k : Int)), some (.ref S.length)] S2 = .ok q' S2 := asT_ok (op_ok rfl rfl hq')
    obtain ⟨S3, a2, _⟩ := andF_no w6 (w5 _ _)
    refine ⟨[some (.frz ns), some (.int (k : Int)), some (.ref S.length)], S3, ⟨_, _, rfl⟩, .inl ?_⟩
    show lw29B (rowZ 12) (rowZ 19) (rowZ 16) (rowZ 11) [some (.frz ns), some (.int (k : Int)), b] S = _
    exact (seq_nx w1).trans ((seq_nx ((if_f a1).trans rfl)).trans ((seq_nx ((if_f (w4 _ _)).trans rfl)).trans ((if_f a2).trans rfl)))
  obtain ⟨ρ1, S1, ⟨a, b, rfl⟩, e⟩ := forL_inv (f := fun d ρ S => (gVar 1 d ρ S).bind (lw29B (rowZ 12) (rowZ 19) (rowZ 16) (rowZ 11))) (P := fun ρ _ => ∃ a b, ρ = [some (.frz ns), a, b]) (ds := intsD 0 n) (ρ := [some (.frz ns), none, none]) (S := S) loop ⟨_, _, rfl⟩
  exact ⟨S1, fn_rt ((seq_nx ((for_ok rg).trans e)).trans rfl)⟩
end PL

set_option Elab.async false
set_option linter.all false
set_option maxRecDepth 100000
set_option maxHeartbeats 0
namespace Fin29
open PySem PySem.Spec PyProof.Rows L2 PL
theorem e_law : Ch29.F_law = C_law29 (rowZ 12) (rowZ 19) (rowZ 16) (rowZ 11) := by kernel_rfl
theorem say {K : PySem.W.Frag} {cls : Str → Option Addr} {F : Fn} (hF : ∀ ns : List Int, ns.length ≤ 100 → ∀ S, ∃ S1, F [.frz ns] S = .ok (.bl true) S1) (H : Hp) (a : Addr) (ns : List Int) (hl : ns.length ≤ 63) (hS : SqL K H a (ns.map V.int)) : spF K cls 1 F [.ref a] H (fun v _ => v = .bl true) fun _ _ _ => False := by
  obtain ⟨S1, e⟩ := hF ns (by omega) []
  refine ⟨rfl, [], H, [], [.frz ns], sr_none (Ex.refl H), .cons (.frz hS) .nil, ?_⟩
  rw [e]
  intro v as' H0' H' _ _ p
  cases p
  rfl
end Fin29
open PySem PySem.W PySem.Calls PyProof.Rows
theorem PySem.Challenge.cw_stillplanks_k29_examples_of_the_document_holds : PySem.Challenge.rw_stillplanks_k29_examples_of_the_document.Holds := by
  w_on; o_law
  refine HandSHeadRun.head_any (r := OpenLaw.row PySem.Challenge.rw_stillplanks_k29_examples_of_the_document) (q := Hd.vw) (H := Hd.hk) (ob := Hd.ob) (M := 20000) (loose := Hd.loose)
    (d := HandSHeadRun.topDef (OpenLaw.row PySem.Challenge.rw_stillplanks_k29_examples_of_the_document).prog 191) (kwd := []) Hd.ob_eq
    (by kernel_rfl) (fun s => by kernel_rfl) Hd.run (by kernel_rfl) (by kernel_rfl) (by kernel_rfl) (by rfl) (by first | assumption | decide +kernel) (by decide +kernel) ⟨rfl, rfl, rfl, rfl, rfl, by decide +kernel⟩ ?hw ?hc
  case hw => w_witness2
  case hc =>
    refine L2.walk_ofE (l := PySem.Challenge.rw_stillplanks_k29_examples_of_the_document) (n := 63) (k := 15) (x := "script") (CX := L2.CX0) rfl (by decide) (by kernel_rfl) ⟨rfl, by decide, by decide⟩ ?F (fun _ _ _ _ z => z)
    intro w mg fa h Y G hmg0
    have hmg : mg ("law" : PySem.Str) = some (.ref fa) := by
      have e : (HandSHeadRun.topDef (OpenLaw.row PySem.Challenge.rw_stillplanks_k29_examples_of_the_document).prog 191).name = ("law" : PySem.Str) := by kernel_rfl
      rw [← e]
      exact hmg0
    obtain ⟨h0, k0, c⟩ := Y
    have G0 := HK.ns_back k0 (congrArg (fun z : HK.Al => z.1) c) G
    obtain ⟨fd, hb, hF⟩ := Ch29.ok_law (P := (PySem.Challenge.rw_stillplanks_k29_examples_of_the_document).prog) (w := w) (cls := fun _ => none) (Ch29.glob c G0) hmg
    rw [Fin29.e_law] at hF
    exact ⟨HK.K h0, fd, _, PySem.W.Frag.In.keeps (HK.K_in h0) k0, hb, fun H a ns hl _ hS => Fin29.say PL.law29_ok H a ns hl hS, fun base _ _ => hF base⟩
