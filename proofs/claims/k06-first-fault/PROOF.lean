import PyProof.Rows.All
import Wide.All
import OpenK.AllK
import Wide.FinOn
import HandS.ForMost
import HandS.EndTab
import HandS.IsInst
import HandS.TupAny
import HandS.Strs
import HandS.Evl
import PySem.Challenge.RW_sameasnew_k06_first_fault_of_names
set_option Elab.async false
set_option linter.unusedVariables false
set_option maxRecDepth 100000
set_option maxHeartbeats 4000000
/-! The data of modules, and what both checkers answer, as plain functions. -/
namespace K6
open PySem L2

/-- a tree of the little language; its parts -/
inductive Tree where
  | lit (num : Bool) (x : V)
  | name (n : Str)
  | set (n : Str) (t : Tree)
  | call (n : Str) (ts : List Tree)
  | op (k : Str) (ts : List Tree)

/-- a line: import or export; let or keep; fn; do or hold -/
inductive Line where
  | imp (ex : Bool) (ps : List (Str × Str)) (m : Str)
  | own (kp : Bool) (n : Str) (t : Tree)
  | fn (n : Str) (ps : List Str) (t : Tree)
  | act (hd : Bool) (t : Tree)

abbrev Mods := Str → Option (List Line)
abbrev Fault := Str × Str × Str

def Line.owns (n : Str) : Line → Bool
  | .own _ x _ => decide (x = n)
  | .fn x _ _ => decide (x = n)
  | _ => false
def own (ls : List Line) (n : Str) : Option Line := ls.find? (Line.owns n)
def pairIn (ps : List (Str × Str)) (n : Str) : Option Str := (ps.find? fun p => decide (p.2 = n)).map (·.1)
def Line.gives (ex : Bool) (n : Str) : Line → Option (Str × Str)
  | .imp e ps m => if e = ex then (pairIn ps n).map fun t => (m, t) else none
  | _ => none
theorem gives_imp (ex : Bool) (n : Str) (e : Bool) (ps : List (Str × Str)) (m : Str) : (Line.imp e ps m).gives ex n = if e = ex then (pairIn ps n).map fun t => (m, t) else none := rfl
def other (ls : List Line) (ex : Bool) (n : Str) : Option (Str × Str) := ls.findSome? (Line.gives ex n)
def linesOf (ms : Mods) (m : Str) : List Line := (ms m).getD []
/-- what an exported name leads to: an own name, or nothing (the exports of these modules lead nowhere) -/
def follow (ms : Mods) (m n : Str) : Option (Str × Str) := if (own (linesOf ms m) n).isSome = true then some (m, n) else none
def avail (ms : Mods) (m n : Str) : Option (Str × Str) :=
  if (own (linesOf ms m) n).isSome = true then some (m, n) else match other (linesOf ms m) false n with
    | none => none
    | some b => follow ms b.1 b.2
def useF (ms : Mods) (m : Str) (ps : List Str) (st : Bool) (n : Str) : Option Fault :=
  if n ∈ ps then (if st = true then some ("variable", m, n) else none) else match avail ms m n with
    | none => some ("name", m, n)
    | some b => match own (linesOf ms b.1) b.2 with
      | some (.fn _ _ _) => some ("variable", m, n)
      | _ => none
def callF (ms : Mods) (m : Str) (ps : List Str) (n : Str) (many : Nat) : Option Fault :=
  if n ∈ ps then some ("function", m, n) else match avail ms m n with
    | none => some ("name", m, n)
    | some b => match own (linesOf ms b.1) b.2 with
      | some (.fn _ qs _) => if qs.length = many then none else some ("count", m, n)
      | _ => some ("function", m, n)
mutual
def treeF (ms : Mods) (m : Str) (ps : List Str) : Tree → Option Fault
  | .lit _ _ => none
  | .name n => useF ms m ps false n
  | .set n t => match useF ms m ps true n with
    | some f => some f
    | none => treeF ms m ps t
  | .call n ts => match callF ms m ps n ts.length with
    | some f => some f
    | none => treesF ms m ps ts
  | .op _ ts => treesF ms m ps ts
def treesF (ms : Mods) (m : Str) (ps : List Str) : List Tree → Option Fault
  | [] => none
  | t :: ts => match treeF ms m ps t with
    | some f => some f
    | none => treesF ms m ps ts
end
mutual
def Tree.depth : Tree → Nat
  | .lit _ _ => 1
  | .name _ => 1
  | .set _ t => t.depth + 1
  | .call _ ts => depths ts + 1
  | .op _ ts => depths ts + 1
def depths : List Tree → Nat
  | [] => 0
  | t :: ts => max t.depth (depths ts)
end
def lineF (ms : Mods) (m : Str) : Line → Option Fault
  | .imp _ ps t => (ps.find? fun p => (follow ms t p.1).isNone).map fun p => ("name", t, p.1)
  | .own _ _ t => treeF ms m [] t
  | .fn _ ps t => treeF ms m ps t
  | .act _ t => treeF ms m [] t
def linesF (ms : Mods) (m : Str) (ls : List Line) : Option Fault := ls.findSome? (lineF ms m)
def namesF (ms : Mods) (order : List Str) : Option Fault := order.findSome? fun m => linesF ms m (linesOf ms m)

theorem depth_mem : ∀ {ts : List Tree} {t : Tree}, t ∈ ts → t.depth ≤ depths ts
  | _ :: ts, t, h => by
    rw [depths]
    rcases List.mem_cons.mp h with e | e
    · subst e; exact Nat.le_max_left _ _
    · exact Nat.le_trans (depth_mem e) (Nat.le_max_right _ _)

/-! ### names that are short -/
def NmOk (n : Str) : Prop := n.length ≤ 30 ∧ PySem.PyData.strOk n = true
mutual
inductive TreeOk : Tree → Prop
  | lit {b x} : TreeOk (.lit b x)
  | name {n} : NmOk n → TreeOk (.name n)
  | set {n t} : NmOk n → TreeOk t → TreeOk (.set n t)
  | call {n ts} : NmOk n → TreesOk ts → TreeOk (.call n ts)
  | op {k ts} : TreesOk ts → TreeOk (.op k ts)
inductive TreesOk : List Tree → Prop
  | nil : TreesOk []
  | cons {t ts} : TreeOk t → TreesOk ts → TreesOk (t :: ts)
end
def FaultOk (f : Fault) : Prop := NmOk f.1 ∧ NmOk f.2.1 ∧ NmOk f.2.2
instance (n : Str) : Decidable (NmOk n) := inferInstanceAs (Decidable (_ ∧ _))
theorem useF_ok {ms : Mods} {m n : Str} {ps : List Str} {st : Bool} {f : Fault} (hm : NmOk m) (hn : NmOk n) (h : useF ms m ps st n = some f) : FaultOk f := by
  unfold useF at h
  have k1 : NmOk ("variable" : Str) := by decide +kernel
  have k2 : NmOk ("name" : Str) := by decide +kernel
  split at h
  · split at h
    · cases h; exact ⟨k1, hm, hn⟩
    · cases h
  · split at h
    · cases h; exact ⟨k2, hm, hn⟩
    · split at h
      · cases h; exact ⟨k1, hm, hn⟩
      · cases h
theorem callF_ok {ms : Mods} {m n : Str} {ps : List Str} {many : Nat} {f : Fault} (hm : NmOk m) (hn : NmOk n) (h : callF ms m ps n many = some f) : FaultOk f := by
  unfold callF at h
  have k1 : NmOk ("function" : Str) := by decide +kernel
  have k2 : NmOk ("name" : Str) := by decide +kernel
  have k3 : NmOk ("count" : Str) := by decide +kernel
  split at h
  · cases h; exact ⟨k1, hm, hn⟩
  · split at h
    · cases h; exact ⟨k2, hm, hn⟩
    · split at h
      · split at h
        · cases h
        · cases h; exact ⟨k3, hm, hn⟩
      · cases h; exact ⟨k1, hm, hn⟩
mutual
theorem treeF_ok {ms : Mods} {m : Str} {ps : List Str} (hm : NmOk m) : ∀ {t : Tree} {f : Fault}, TreeOk t → treeF ms m ps t = some f → FaultOk f
  | .lit _ _, f, _, h => by rw [treeF] at h; cases h
  | .name n, f, o, h => by cases o with | name o => rw [treeF] at h; exact useF_ok hm o h
  | .set n t, f, o, h => by
    cases o with
    | set o1 o2 =>
      rw [treeF] at h
      split at h
      · rename_i e; cases h; exact useF_ok hm o1 e
      · exact treeF_ok hm o2 h
  | .call n ts, f, o, h => by
    cases o with
    | call o1 o2 =>
      rw [treeF] at h
      split at h
      · rename_i e; cases h; exact callF_ok hm o1 e
      · exact treesF_ok hm o2 h
  | .op k ts, f, o, h => by cases o with | op o => rw [treeF] at h; exact treesF_ok hm o h
theorem treesF_ok {ms : Mods} {m : Str} {ps : List Str} (hm : NmOk m) : ∀ {ts : List Tree} {f : Fault}, TreesOk ts → treesF ms m ps ts = some f → FaultOk f
  | [], f, _, h => by rw [treesF] at h; cases h
  | t :: ts, f, o, h => by
    cases o with
    | cons o1 o2 =>
      rw [treesF] at h
      split at h
      · rename_i e; cases h; exact treeF_ok hm o1 e
      · exact treesF_ok hm o2 h
end

/-- what is known of each line -/
def LineOk : Line → Prop
  | .imp _ ps m => NmOk m ∧ (∀ p ∈ ps, NmOk p.1) ∧ ps.length ≤ 10
  | .own _ _ t => TreeOk t ∧ t.depth ≤ 8
  | .fn _ _ t => TreeOk t ∧ t.depth ≤ 8
  | .act _ t => TreeOk t ∧ t.depth ≤ 8
theorem lineF_ok {ms : Mods} {m : Str} {l : Line} {f : Fault} (hm : NmOk m) (o : LineOk l) (h : lineF ms m l = some f) : FaultOk f := by
  cases l with
  | imp e ps t =>
    replace h : (ps.find? fun p => (follow ms t p.1).isNone).map (fun p => (("name" : Str), t, p.1)) = some f := h
    cases q : ps.find? fun p => (follow ms t p.1).isNone with
    | none => rw [q] at h; cases h
    | some p =>
      rw [q] at h
      cases h
      exact ⟨show NmOk ("name" : Str) by decide +kernel, o.1, o.2.1 p (List.mem_of_find?_eq_some q)⟩
  | own k n t => exact treeF_ok hm o.1 h
  | fn n ps t => exact treeF_ok hm o.1 h
  | act k t => exact treeF_ok hm o.1 h

/-- a module that is good: what the two checkers lean on -/
structure ModOk (ms : Mods) (m : Str) (ls : List Line) : Prop where
  nm : NmOk m
  few : ls.length ≤ 50
  line : ∀ l ∈ ls, LineOk l
  expo : ∀ ps t, Line.imp true ps t ∈ ls → t = m ∧ (∀ p ∈ ps, p.1 = "none" ∧ p.2 = "nn") ∧ own ls "nn" = none
  none_ : own ls "none" = none
  imps : ∀ e ps t, Line.imp e ps t ∈ ls → (ms t).isSome = true
  apart : ∀ ps t, Line.imp false ps t ∈ ls → ∀ p ∈ ps, own ls p.2 = none
def MsOk (ms : Mods) : Prop := ∀ m ls, ms m = some ls → ModOk ms m ls

theorem namesF_ok {ms : Mods} (o : MsOk ms) {order : List Str} {f : Fault} (h : namesF ms order = some f) : FaultOk f := by
  obtain ⟨m, _, h1⟩ := List.exists_of_findSome?_eq_some h
  obtain ⟨l, hl, h2⟩ := List.exists_of_findSome?_eq_some h1
  unfold linesOf at hl
  cases e : ms m with
  | none => rw [e] at hl; simp at hl
  | some ls =>
    rw [e] at hl
    have mo := o m ls e
    exact lineF_ok mo.nm (mo.line l hl) h2

/-- an exported name of a good module that is no own name: it is nn, and stands for none of the same module -/
theorem other_true {ms : Mods} {m n : Str} {ls : List Line} {b : Str × Str} (o : ModOk ms m ls) (h : other ls true n = some b) : b = (m, ("none" : Str)) ∧ n = "nn" ∧ own ls n = none := by
  obtain ⟨l, hl, h2⟩ := List.exists_of_findSome?_eq_some h
  cases l with
  | imp e ps t =>
    replace h2 := (gives_imp ..).symm.trans h2
    split at h2
    · rename_i he
      subst he
      obtain ⟨e1, e2, e3⟩ := o.expo ps t hl
      unfold pairIn at h2
      cases q : ps.find? fun p => decide (p.2 = n) with
      | none => rw [q] at h2; cases h2
      | some p =>
        rw [q] at h2
        cases h2
        obtain ⟨a1, a2⟩ := e2 p (List.mem_of_find?_eq_some q)
        have hn : p.2 = n := by simpa using List.find?_some q
        subst e1
        refine ⟨by rw [← a1], by rw [← hn, a2], by rw [← hn, a2]; exact e3⟩
    · cases h2
  | own k x t => cases h2
  | fn x ps t => cases h2
  | act k t => cases h2
theorem other_none {ms : Mods} {m : Str} {ls : List Line} (o : ModOk ms m ls) : other ls true "none" = none := by
  cases h : other ls true "none" with
  | none => rfl
  | some b =>
    obtain ⟨_, e, _⟩ := other_true o h
    exact absurd e (by decide +kernel)
/-- the imported name of a good module is no own one -/
theorem other_false {ms : Mods} {m n : Str} {ls : List Line} {b : Str × Str} (o : ModOk ms m ls) (h : other ls false n = some b) : own ls n = none ∧ (ms b.1).isSome = true := by
  obtain ⟨l, hl, h2⟩ := List.exists_of_findSome?_eq_some h
  cases l with
  | imp e ps t =>
    replace h2 := (gives_imp ..).symm.trans h2
    split at h2
    · rename_i he
      subst he
      unfold pairIn at h2
      cases q : ps.find? fun p => decide (p.2 = n) with
      | none => rw [q] at h2; cases h2
      | some p =>
        rw [q] at h2
        cases h2
        have hn : p.2 = n := by simpa using List.find?_some q
        exact ⟨by rw [← hn]; exact o.apart ps t hl p (List.mem_of_find?_eq_some q), o.imps _ ps t hl⟩
    · cases h2
  | own k x t => cases h2
  | fn x ps t => cases h2
  | act k t => cases h2
theorem owns_name {n : Str} {l : Line} (h : l.owns n = true) : (∃ k t, l = .own k n t) ∨ ∃ ps t, l = .fn n ps t := by
  cases l with
  | imp e ps t => cases h
  | own k x t => have e : x = n := of_decide_eq_true h; subst e; exact .inl ⟨k, t, rfl⟩
  | fn x ps t => have e : x = n := of_decide_eq_true h; subst e; exact .inr ⟨ps, t, rfl⟩
  | act k t => cases h
theorem avail_own {ms : Mods} {m n : Str} {b : Str × Str} (h : avail ms m n = some b) : (own (linesOf ms b.1) b.2).isSome = true := by
  unfold avail at h
  split at h
  · rename_i e; cases h; exact e
  · split at h
    · cases h
    · unfold follow at h
      split at h
      · rename_i e; cases h; exact e
      · cases h
end K6
/-! The text by places; a def that can be called; how the data lie in the abstract heap. -/
namespace K6
open PySem PySem.Spec PyProof.Rows L2 Evl

def topS (i : Nat) : Stmt := PySem.Challenge.pw_sameasnew_k06_first_fault_of_names.main.body.getD i (.Pass ⟨0, 0, 0, 0⟩)

/-! ### defs and methods by name -/
/-- the def st stands behind the name x -/
def Def (K : PySem.W.Frag) (mg : Str → Option Value) (x : Str) (st : Stmt) : Prop := ∃ f fd, Fun K x x st f fd ∧ mg x = some (.ref f)
/-- the method st stands in the class at C -/
def MDef (K : PySem.W.Frag) (C : Addr) (m q : Str) (st : Stmt) : Prop := ∃ f fd, Fun K m q st f fd ∧ Meth K C m f
/-- a def that keeps the promise sp -/
def Cal (P : Program) (w : World) (K : PySem.W.Frag) (mg : Str → Option Value) (base : Heap) (x : Str) (k : Nat) (ps : List Str) (sp : Sp) : Prop :=
  ∃ (f : Addr) (fd : FuncData), FnOk P w K mg base CX0 k f fd ps sp ∧ mg x = some (.ref f) ∧ PySem.W.keepIn K (.ref f) = true ∧ Binds K fd ps []
def MCal (P : Program) (w : World) (K : PySem.W.Frag) (mg : Str → Option Value) (base : Heap) (C : Addr) (m : Str) (k : Nat) (ps : List Str) (sp : Sp) : Prop :=
  ∃ (f : Addr) (fd : FuncData), FnOk P w K mg base CX0 k f fd ps sp ∧ Meth K C m f ∧ Binds K fd ps []
section
variable {P : Program} {w : World} {K : PySem.W.Frag} {mg : Str → Option Value} {base : Heap} {x q : Str} {k j : Nat} {N ps : List Str} {sp sp' : Sp} {st : Stmt} {C : Addr}
theorem Cal.mono (c : Cal P w K mg base x j ps sp) (h : j ≤ k) : Cal P w K mg base x k ps sp := by
  obtain ⟨f, fd, F, r⟩ := c
  exact ⟨f, fd, F.mono h, r⟩
theorem Cal.imp (c : Cal P w K mg base x k ps sp) (h : ∀ vs H Q E, sp' vs H Q E → sp vs H Q E) : Cal P w K mg base x k ps sp' := by
  obtain ⟨f, fd, F, r⟩ := c
  exact ⟨f, fd, F.imp h, r⟩
theorem MCal.mono (c : MCal P w K mg base C x j ps sp) (h : j ≤ k) : MCal P w K mg base C x k ps sp := by
  obtain ⟨f, fd, F, r⟩ := c
  exact ⟨f, fd, F.mono h, r⟩
/-- a def by its body -/
theorem Cal.of (D : Def K mg x st) (S : FnScope N ps (defScope st))
    (bd : ∀ (kV doc pm : Value) (an : Option Addr) (cdv ct : Value) (us : List Value), us.length = ps.length → bindArgs (PySem.W.fnOf x x (defArgs st) (defBody st) (defScope st) .none kV doc pm an cdv ct) ⟨us, []⟩ = pure (ps.zip us))
    (len : ∀ vs H Q E, sp vs H Q E → vs.length = ps.length)
    (body : ∀ (f : Addr) (cdv : Value) (A : Around) (outer : List Env) (s : Shared) (H : Hp) (vs : List V) (Q : VK) (E : XK), Room k (A.deeper (envOfC x (defScope st) s.heap.objs.size f cdv)) → sp vs H Q E →
      ∃ t, PSs (cxOf CX0 P w K mg base N x (defScope st) f cdv A outer s H E).nox (defBody st) t ∧ t { nx := fun _ H' => Q .non H', rt := Q } (start N vs) H) : Cal P w K mg base x (k + 1) ps sp := by
  obtain ⟨f, fd, F, hm⟩ := D
  exact ⟨f, fd, F.ok S len (body f), hm, F.kp, F.binds bd⟩
/-- a method by its body -/
theorem MCal.of (D : MDef K C x q st) (S : FnScope N ps (defScope st))
    (bd : ∀ (kV doc pm : Value) (an : Option Addr) (cdv ct : Value) (us : List Value), us.length = ps.length → bindArgs (PySem.W.fnOf x q (defArgs st) (defBody st) (defScope st) .none kV doc pm an cdv ct) ⟨us, []⟩ = pure (ps.zip us))
    (len : ∀ vs H Q E, sp vs H Q E → vs.length = ps.length)
    (body : ∀ (f : Addr) (cdv : Value) (A : Around) (outer : List Env) (s : Shared) (H : Hp) (vs : List V) (Q : VK) (E : XK), Room k (A.deeper (envOfC q (defScope st) s.heap.objs.size f cdv)) → sp vs H Q E →
      ∃ t, PSs (cxOf CX0 P w K mg base N q (defScope st) f cdv A outer s H E).nox (defBody st) t ∧ t { nx := fun _ H' => Q .non H', rt := Q } (start N vs) H) : MCal P w K mg base C x (k + 1) ps sp := by
  obtain ⟨f, fd, F, hm⟩ := D
  exact ⟨f, fd, F.ok S len (body f), hm, F.binds bd⟩
end
section
variable {X : Cx} {x m z : Str} {k : Nat} {ps : List Str} {sp : Sp} {e o : Expr} {es : List Expr} {t : TA} {ta : TE} {p pos apos : Pos} {C : Addr}
theorem pe_cal (c : Cal X.prog X.w X.K X.mg X.base x k ps sp) (hr : Room k X.A) (hg : Gl X x) (ha : PA X (e :: es) t) (hdb : (x == ("__debug__" : Str)) = false := by decide)
    (he : starEach (e :: es) X.env = (false, eval e X.env) :: starEach es X.env := by rfl) (hpl : (backTo pos (starEach es X.env)).any (·.1) = false := by rfl) :
    PE X (.Call (.Name x p) (e :: es) [] pos) (tCall sp [] E0 t) := by
  obtain ⟨f, fd, F, hm, hk, hb⟩ := c
  exact pe_call F hr hg hm hk hb .nil pass0 ha hdb he hpl
theorem pe_mcal {pl : Sem Bool} (he : PE X o ta) (c : Cls X.K C) (mc : MCal X.prog X.w X.K X.mg X.base C m k ps sp) (hr : Room k X.A) (ha : PA X (e :: es) t)
    (hst : starEach (e :: es) X.env = (false, eval e X.env) :: starEach es X.env := by rfl) (hpl : (backTo pos (starEach es X.env)).any (·.1) = false := by rfl)
    (ht : eval (.Call (.Attribute o m apos) (e :: es) [] pos) X.env = (do
      let ov ← eval o X.env
      standAt apos.atName
      let (f, first) ← holding [ov] (getMethod ov m pl)
      callWith pos f first (backTo pos (starEach (e :: es) X.env)) (backToKw pos (keywordEach [] X.env))) := by rfl) :
    PE X (.Call (.Attribute o m apos) (e :: es) [] pos) (tMeth C m sp [] E0 ta t) := by
  obtain ⟨f, fd, F, hm, hb⟩ := mc
  exact pe_meth he c hm F hr hb .nil pass0 ha hst hpl ht
/-- a class with its __init__ -/
def KCal (P : Program) (w : World) (K : PySem.W.Frag) (mg : Str → Option Value) (base : Heap) (x : Str) (C : Addr) (k : Nat) (ps : List Str) (sp : Sp) : Prop :=
  ∃ (f : Addr) (fd : FuncData), FnOk P w K mg base CX0 k f fd ps sp ∧ Mk K C f ∧ Binds K fd ps [] ∧ mg x = some (.ref C)
theorem pe_kcal (c : KCal X.prog X.w X.K X.mg X.base x C k ps sp) (hr : Room (k + 1) X.A) (hg : Gl X x) (ha : PA X (e :: es) t) (hdb : (x == ("__debug__" : Str)) = false := by decide)
    (he : starEach (e :: es) X.env = (false, eval e X.env) :: starEach es X.env := by rfl) (hpl : (backTo pos (starEach es X.env)).any (·.1) = false := by rfl) :
    PE X (.Call (.Name x p) (e :: es) [] pos) (tMake C sp [] E0 t) := by
  obtain ⟨f, fd, F, hk, hb, hm⟩ := c
  exact pe_make hk F hr hg hm hb .nil pass0 ha hdb he hpl
/-- a module's constant, a text -/
theorem pe_gstr (h : ∃ t, X.mg x = some (.str z t)) (hg : Gl X x) (hd : (x == ("__debug__" : Str)) = false := by decide) : PE X (.Name x pos) (tC (.str z)) := by
  obtain ⟨t, h⟩ := h
  exact pe_glob hg h ⟨t, rfl⟩ hd
end

/-! ### repr of None and of data, where no repr is under way -/
section
variable {X : Cx}
theorem call_reprG (hg : X.A.guards = some []) (hu : X.A.units + 64 < cLine) : CallR X (.builtin "repr") (fun xs H Q => (xs = [.non] ∧ Q (.str "None") H) ∨
    ∃ (a : Addr) (d : PyData), xs = [.ref a] ∧ Dp X.K H (.ref a) d ∧ d.showable = true ∧ d.hasDict = false ∧ d.depth ≤ 20 ∧ d.shown.length ≤ sizeLine ∧ Q (.str d.shown) H) := by
  intro pins s σ H xs us Q I r h
  rcases h with ⟨rfl, q⟩ | ⟨a, d, rfl, hd, h1, h2, h3, h4, q⟩
  · obtain ⟨u, rfl, ru⟩ := vals1 r
    cases ru
    exact PySem.P.repr_of_none ⟨.str "None", H, I.tok _, ⟨_, rfl⟩, q⟩
  · obtain ⟨u, rfl, ru⟩ := vals1 r
    obtain ⟨as, rd⟩ := Dp.reads I d _ _ hd ru
    cases ru
    refine repr_of_reads' rd h1 (fun z => ?_) hg (by omega) (fun _ _ e => e) (fun h' u tk hk => ⟨.str d.shown, H, I.kept hk, ⟨u, rfl⟩, q⟩) h4
    rw [h2] at z
    cases z
end

/-! ### the data in the abstract heap -/
abbrev Frag := PySem.W.Frag
/-- items and what they stand for, one by one -/
def All2 {α β : Type} (R : α → β → Prop) : List α → List β → Prop
  | [], [] => True
  | a :: as, b :: bs => R a b ∧ All2 R as bs
  | _, _ => False
section
variable {α β : Type} {R R' : α → β → Prop}
theorem All2.len : ∀ {as : List α} {bs : List β}, All2 R as bs → as.length = bs.length
  | [], [], _ => rfl
  | _ :: _, _ :: _, h => by rw [List.length_cons, List.length_cons, All2.len h.2]
  | [], _ :: _, h => False.elim h
  | _ :: _, [], h => False.elim h
theorem All2.get : ∀ {as : List α} {bs : List β} {i : Nat} {a : α}, All2 R as bs → as[i]? = some a → ∃ b, bs[i]? = some b ∧ R a b
  | [], _, i, a, _, e => by simp at e
  | _ :: _, b :: _, 0, a, h, e => by simp at e; subst e; exact ⟨b, by simp, h.1⟩
  | _ :: as, _ :: bs, i + 1, a, h, e => by
    obtain ⟨b, h1, h2⟩ := All2.get (i := i) (a := a) h.2 (by simpa using e)
    exact ⟨b, by simpa using h1, h2⟩
  | _ :: _, [], _, _, h, _ => False.elim h
theorem All2.imp (f : ∀ a b, R a b → R' a b) : ∀ {as : List α} {bs : List β}, All2 R as bs → All2 R' as bs
  | [], [], _ => True.intro
  | _ :: _, _ :: _, h => ⟨f _ _ h.1, All2.imp f h.2⟩
  | [], _ :: _, h => False.elim h
  | _ :: _, [], h => False.elim h
theorem All2.append : ∀ {as as' : List α} {bs bs' : List β}, All2 R as bs → All2 R as' bs' → All2 R (as ++ as') (bs ++ bs')
  | [], _, [], _, _, h => h
  | _ :: _, _, _ :: _, _, h, h' => ⟨h.1, All2.append h.2 h'⟩
  | [], _, _ :: _, _, h, _ => False.elim h
  | _ :: _, _, [], _, h, _ => False.elim h
theorem All2.take : ∀ {as : List α} {bs : List β} (n : Nat), All2 R as bs → All2 R (as.take n) (bs.take n)
  | [], [], n, _ => by simp [All2]
  | _ :: _, _ :: _, 0, _ => True.intro
  | _ :: _, _ :: _, n + 1, h => ⟨h.1, All2.take n h.2⟩
  | [], _ :: _, _, h => False.elim h
  | _ :: _, [], _, h => False.elim h
theorem All2.drop : ∀ {as : List α} {bs : List β} (n : Nat), All2 R as bs → All2 R (as.drop n) (bs.drop n)
  | [], [], n, _ => by simp [All2]
  | _ :: _, _ :: _, 0, h => h
  | _ :: _, _ :: _, n + 1, h => All2.drop n h.2
  | [], _ :: _, _, h => False.elim h
  | _ :: _, [], _, h => False.elim h
end

def litW : Bool → Str | true => "number" | false => "string"
def impW : Bool → Str | true => "export" | false => "import"
def ownW : Bool → Str | true => "keep" | false => "let"
def actW : Bool → Str | true => "hold" | false => "do"
def treeOps0 : List Str := ["+", "-", "*", "<", "=", "if", "then"]
/-- a tree at a value -/
inductive TreeAt (K : Frag) (H : Hp) : V → Tree → Prop
  | lit {a : Addr} {b : Bool} {x : V} : SqT K H a [.str (litW b), x] → TreeAt K H (.ref a) (.lit b x)
  | name {a : Addr} {n : Str} : SqT K H a [.str "name", .str n] → TreeAt K H (.ref a) (.name n)
  | set {a : Addr} {n : Str} {u : V} {t : Tree} : SqT K H a [.str "set", .str n, u] → TreeAt K H u t → TreeAt K H (.ref a) (.set n t)
  | call {a b : Addr} {n : Str} {us : List V} {ts : List Tree} : SqT K H a [.str "call", .str n, .ref b] → SqT K H b us → us.length = ts.length → (∀ (i : Nat) u t, us[i]? = some u → ts[i]? = some t → TreeAt K H u t) → TreeAt K H (.ref a) (.call n ts)
  | op {a : Addr} {k : Str} {us : List V} {ts : List Tree} : SqT K H a (.str k :: us) → k ∈ treeOps0 → us.length = ts.length → (∀ (i : Nat) u t, us[i]? = some u → ts[i]? = some t → TreeAt K H u t) → TreeAt K H (.ref a) (.op k ts)

def PairAt (K : Frag) (H : Hp) (v : V) (p : Str × Str) : Prop := ∃ a, v = .ref a ∧ SqT K H a [.str p.1, .str p.2]
inductive LineAt (K : Frag) (H : Hp) : V → Line → Prop
  | imp {a b : Addr} {us : List V} {e : Bool} {ps : List (Str × Str)} {m : Str} : SqT K H a [.str (impW e), .ref b, .str m] → SqT K H b us → All2 (PairAt K H) us ps → LineAt K H (.ref a) (.imp e ps m)
  | own {a : Addr} {u : V} {k : Bool} {n : Str} {t : Tree} : SqT K H a [.str (ownW k), .str n, u] → TreeAt K H u t → LineAt K H (.ref a) (.own k n t)
  | fn {a b : Addr} {u : V} {n : Str} {ps : List Str} {t : Tree} : SqT K H a [.str "fn", .str n, .ref b, u] → SqT K H b (ps.map V.str) → TreeAt K H u t → LineAt K H (.ref a) (.fn n ps t)
  | act {a : Addr} {u : V} {k : Bool} {t : Tree} : SqT K H a [.str (actW k), u] → TreeAt K H u t → LineAt K H (.ref a) (.act k t)
def ModAt (K : Frag) (H : Hp) (v : V) (ls : List Line) : Prop := ∃ a us, v = .ref a ∧ SqT K H a us ∧ All2 (LineAt K H) us ls
/-- a dict with text keys tells ms -/
def Tells (K : Frag) (H : Hp) (kvs : List (Key × V)) (ms : Mods) : Prop := ∀ n : Str, (ms n = none ∧ valV kvs (Sum.inr n : Key) = none) ∨ ∃ ls v, ms n = some ls ∧ valV kvs (Sum.inr n : Key) = some v ∧ ModAt K H v ls
def ModsAt (K : Frag) (H : Hp) (d : Addr) (ms : Mods) : Prop := ∃ kvs, H d = some (.dK kvs) ∧ Tells K H kvs ms
/-- a value that is None, or stands for what the option holds -/
def Opt {α : Type} (R : V → α → Prop) (v : V) : Option α → Prop
  | none => v = .non
  | some x => R v x
def FaultAt (K : Frag) (H : Hp) (v : V) (f : Fault) : Prop := ∃ a, v = .ref a ∧ SqT K H a [.str f.1, .str f.2.1, .str f.2.2]

/-! ### what grows keeps -/
section
variable {K : Frag} {H H' : Hp}
/-- all tuples stay -/
def Tups (K : Frag) (H H' : Hp) : Prop := ∀ a xs, SqT K H a xs → SqT K H' a xs
theorem Tups.refl : Tups K H H := fun _ _ h => h
theorem Tups.trans {H2 : Hp} (a : Tups K H H') (b : Tups K H' H2) : Tups K H H2 := fun x y h => b x y (a x y h)
theorem Tups.ex (e : Ex H H') : Tups K H H' := fun _ _ h => ex_t e h
theorem TreeAt.on (e : Tups K H H') {v : V} {t : Tree} (h : TreeAt K H v t) : TreeAt K H' v t := by
  induction h with
  | lit h => exact .lit (e _ _ h)
  | name h => exact .name (e _ _ h)
  | set h _ ih => exact .set (e _ _ h) ih
  | call h h2 hl _ ih => exact .call (e _ _ h) (e _ _ h2) hl ih
  | op h hk hl _ ih => exact .op (e _ _ h) hk hl ih
theorem PairAt.on (e : Tups K H H') {v : V} {p : Str × Str} (h : PairAt K H v p) : PairAt K H' v p := by
  obtain ⟨a, h1, h2⟩ := h
  exact ⟨a, h1, e _ _ h2⟩
theorem LineAt.on (e : Tups K H H') {v : V} {l : Line} (h : LineAt K H v l) : LineAt K H' v l := by
  cases h with
  | imp h1 h2 h3 => exact .imp (e _ _ h1) (e _ _ h2) (h3.imp fun _ _ z => z.on e)
  | own h1 h2 => exact .own (e _ _ h1) (h2.on e)
  | fn h1 h2 h3 => exact .fn (e _ _ h1) (e _ _ h2) (h3.on e)
  | act h1 h2 => exact .act (e _ _ h1) (h2.on e)
theorem ModAt.on (e : Tups K H H') {v : V} {ls : List Line} (h : ModAt K H v ls) : ModAt K H' v ls := by
  obtain ⟨a, us, h1, h2, h3⟩ := h
  exact ⟨a, us, h1, e _ _ h2, h3.imp fun _ _ z => z.on e⟩
theorem FaultAt.on (e : Tups K H H') {v : V} {f : Fault} (h : FaultAt K H v f) : FaultAt K H' v f := by
  obtain ⟨a, h1, h2⟩ := h
  exact ⟨a, h1, e _ _ h2⟩
theorem Opt.imp {α : Type} {R R' : V → α → Prop} {v : V} {o : Option α} (h : Opt R v o) (f : ∀ x, R v x → R' v x) : Opt R' v o := by
  cases o with
  | none => exact h
  | some x => exact f x h
theorem Tells.on (e : Tups K H H') {kvs : List (Key × V)} {ms : Mods} (h : Tells K H kvs ms) : Tells K H' kvs ms := fun n => by
  rcases h n with z | ⟨ls, v, h1, h2, h3⟩
  · exact .inl z
  · exact .inr ⟨ls, v, h1, h2, h3.on e⟩
theorem ModsAt.ex (e : Ex H H') {d : Addr} {ms : Mods} (h : ModsAt K H d ms) : ModsAt K H' d ms := by
  obtain ⟨kvs, h1, h2⟩ := h
  exact ⟨kvs, e _ _ h1, h2.on (Tups.ex e)⟩
end
theorem at0 {α : Type} {x : α} {r : List α} : atI (x :: r) (0 : Int) = some x := atI_nat (xs := x :: r) (j := 0) rfl
theorem at1 {α : Type} {x y : α} {r : List α} : atI (x :: y :: r) (1 : Int) = some y := atI_nat (xs := x :: y :: r) (j := 1) rfl
theorem at2 {α : Type} {x y z : α} {r : List α} : atI (x :: y :: z :: r) (2 : Int) = some z := atI_nat (xs := x :: y :: z :: r) (j := 2) rfl
theorem at3 {α : Type} {x y z u : α} {r : List α} : atI (x :: y :: z :: u :: r) (3 : Int) = some u := atI_nat (xs := x :: y :: z :: u :: r) (j := 3) rfl
/-- what a text of the module's own is -/
theorem str_dec {a b : Str} : decide (V.str a = V.str b) = decide (a = b) := by
  by_cases e : a = b
  · subst e; simp
  · rw [decide_eq_false e, decide_eq_false (fun q => e (V.str.inj q))]
theorem str_tt {a b : Str} (h : a = b) : decide (V.str a = V.str b) = true := by rw [str_dec, decide_eq_true h]
theorem str_ff {a b : Str} (h : a ≠ b) : decide (V.str a = V.str b) = false := by rw [str_dec, decide_eq_false h]
theorem inV_str (a : Str) : ∀ l : List Str, inV (.str a) (l.map V.str) = decide (a ∈ l)
  | [] => by simp [inV]
  | b :: l => by
    have ih := inV_str a l
    unfold inV at ih ⊢
    rw [List.map_cons, List.any_cons, ih]
    by_cases e : b = a
    · subst e
      have q : eqV (V.str b) (V.str b) = true := by show (b == b) = true; simp
      simp [q]
    · have q : eqV (V.str b) (V.str a) = false := by show (b == a) = false; simpa using e
      have e' : ¬ a = b := fun z => e z.symm
      simp [q, e']
theorem flat_strs (l : List Str) : (l.map V.str).all flatV = true := by
  rw [List.all_eq_true]
  intro v hv
  obtain ⟨s, _, rfl⟩ := List.mem_map.mp hv
  rfl
end K6
/-! The statements by their places, the names of each def, what the top has written. -/
namespace K6
open PySem PySem.Spec PyProof.Rows L2 Evl

abbrev s__own : Stmt := topS 12
theorem sc__own : FnScope ["lines", "name", "line"] ["lines", "name"] (defScope s__own) := ⟨rfl, rfl, rfl, by decide +kernel, rfl, by decide +kernel, by decide +kernel⟩
abbrev s__other : Stmt := topS 13
theorem sc__other : FnScope ["lines", "word", "name", "line", "there", "here"] ["lines", "word", "name"] (defScope s__other) := ⟨rfl, rfl, rfl, by decide +kernel, rfl, by decide +kernel, by decide +kernel⟩
abbrev s_follow : Stmt := topS 14
theorem sc_follow : FnScope ["modules", "module", "name", "known", "lines", "found"] ["modules", "module", "name"] (defScope s_follow) := ⟨rfl, rfl, rfl, by decide +kernel, rfl, by decide +kernel, by decide +kernel⟩
abbrev s_available : Stmt := topS 15
theorem sc_available : FnScope ["modules", "module", "name", "lines", "found"] ["modules", "module", "name"] (defScope s_available) := ⟨rfl, rfl, rfl, by decide +kernel, rfl, by decide +kernel, by decide +kernel⟩
abbrev s_declaration : Stmt := topS 16
theorem sc_declaration : FnScope ["modules", "binding"] ["modules", "binding"] (defScope s_declaration) := ⟨rfl, rfl, rfl, by decide +kernel, rfl, by decide +kernel, by decide +kernel⟩
abbrev s_Reach_init : Stmt := inClass (topS 17) 0
theorem sc_Reach_init : FnScope ["self", "lines_of"] ["self", "lines_of"] (defScope s_Reach_init) := ⟨rfl, rfl, rfl, by decide +kernel, rfl, by decide +kernel, by decide +kernel⟩
abbrev s_Reach_visit : Stmt := inClass (topS 17) 1
theorem sc_Reach_visit : FnScope ["self", "module", "found", "line", "fault"] ["self", "module"] (defScope s_Reach_visit) := ⟨rfl, rfl, rfl, by decide +kernel, rfl, by decide +kernel, by decide +kernel⟩
abbrev s_reach : Stmt := topS 18
theorem sc_reach : FnScope ["modules", "entries", "course", "module", "fault"] ["modules", "entries"] (defScope s_reach) := ⟨rfl, rfl, rfl, by decide +kernel, rfl, by decide +kernel, by decide +kernel⟩
abbrev s_Names_init : Stmt := inClass (topS 19) 0
theorem sc_Names_init : FnScope ["self", "modules", "module"] ["self", "modules", "module"] (defScope s_Names_init) := ⟨rfl, rfl, rfl, by decide +kernel, rfl, by decide +kernel, by decide +kernel⟩
abbrev s_Namesfault : Stmt := inClass (topS 19) 1
theorem sc_Namesfault : FnScope ["self", "kind", "name"] ["self", "kind", "name"] (defScope s_Namesfault) := ⟨rfl, rfl, rfl, by decide +kernel, rfl, by decide +kernel, by decide +kernel⟩
abbrev s_Namescalled : Stmt := inClass (topS 19) 2
theorem sc_Namescalled : FnScope ["self", "name", "parameters", "many", "binding", "line"] ["self", "name", "parameters", "many"] (defScope s_Namescalled) := ⟨rfl, rfl, rfl, by decide +kernel, rfl, by decide +kernel, by decide +kernel⟩
abbrev s_Namesused : Stmt := inClass (topS 19) 3
theorem sc_Namesused : FnScope ["self", "name", "parameters", "is_set", "binding"] ["self", "name", "parameters", "is_set"] (defScope s_Namesused) := ⟨rfl, rfl, rfl, by decide +kernel, rfl, by decide +kernel, by decide +kernel⟩
abbrev s_Names_fault_of : Stmt := inClass (topS 19) 4
theorem sc_Names_fault_of : FnScope ["self", "tree", "parameters", "kind", "parts", "fault", "part"] ["self", "tree", "parameters"] (defScope s_Names_fault_of) := ⟨rfl, rfl, rfl, by decide +kernel, rfl, by decide +kernel, by decide +kernel⟩
abbrev s_Names_fault_of_line : Stmt := inClass (topS 19) 5
theorem sc_Names_fault_of_line : FnScope ["self", "line", "there", "_"] ["self", "line"] (defScope s_Names_fault_of_line) := ⟨rfl, rfl, rfl, by decide +kernel, rfl, by decide +kernel, by decide +kernel⟩
abbrev s_check_names : Stmt := topS 20
theorem sc_check_names : FnScope ["modules", "order", "module", "names", "line", "fault"] ["modules", "order"] (defScope s_check_names) := ⟨rfl, rfl, rfl, by decide +kernel, rfl, by decide +kernel, by decide +kernel⟩
abbrev s__law_cell : Stmt := topS 22
theorem sc__law_cell : FnScope ["_law_script", "_law_k"] ["_law_script", "_law_k"] (defScope s__law_cell) := ⟨rfl, rfl, rfl, by decide +kernel, rfl, by decide +kernel, by decide +kernel⟩
abbrev s__law_digits : Stmt := topS 23
theorem sc__law_digits : FnScope ["_law_script", "_law_first", "_law_last", "_law_digits_here", "_law_k", "_law_cell_here", "_law_turn", "_law_seed"] ["_law_script", "_law_first", "_law_last"] (defScope s__law_digits) := ⟨rfl, rfl, rfl, by decide +kernel, rfl, by decide +kernel, by decide +kernel⟩
abbrev s__law_draw : Stmt := topS 24
theorem sc__law_draw : FnScope ["_law_box", "_law_many", "_law_at"] ["_law_box", "_law_many"] (defScope s__law_draw) := ⟨rfl, rfl, rfl, by decide +kernel, rfl, by decide +kernel, by decide +kernel⟩
abbrev s__law_atom : Stmt := topS 25
theorem sc__law_atom : FnScope ["_law_box", "_law_names", "_law_kind"] ["_law_box", "_law_names"] (defScope s__law_atom) := ⟨rfl, rfl, rfl, by decide +kernel, rfl, by decide +kernel, by decide +kernel⟩
abbrev s__law_tree : Stmt := topS 26
theorem sc__law_tree : FnScope ["_law_box", "_law_names", "_law_calls_here", "_law_depth", "_law_kind", "_law_plain", "_law_first", "_law_second", "_law_name", "_law_many", "_law_k"] ["_law_box", "_law_names", "_law_calls_here", "_law_depth"] (defScope s__law_tree) := ⟨rfl, rfl, rfl, by decide +kernel, rfl, by decide +kernel, by decide +kernel⟩
abbrev s__law_own : Stmt := topS 27
theorem sc__law_own : FnScope ["_law_name"] ["_law_name"] (defScope s__law_own) := ⟨rfl, rfl, rfl, by decide +kernel, rfl, by decide +kernel, by decide +kernel⟩
abbrev s__law_imports : Stmt := topS 28
theorem sc__law_imports : FnScope ["_law_box", "_law_name", "_law_others", "_law_lines", "_law_taken", "_law_other", "_law_wanted", "_law_pairs", "_law_own_here", "_law_kind", "_law_called"] ["_law_box", "_law_name", "_law_others"] (defScope s__law_imports) := ⟨rfl, rfl, rfl, by decide +kernel, rfl, by decide +kernel, by decide +kernel⟩
abbrev s__law_usable : Stmt := topS 29
theorem sc__law_usable : FnScope ["_law_lines", "_law_name", "_law_wanted", "_law_found", "_law_line", "_law_own_here", "_law_kind", "_law_called"] ["_law_lines", "_law_name", "_law_wanted"] (defScope s__law_usable) := ⟨rfl, rfl, rfl, by decide +kernel, rfl, by decide +kernel, by decide +kernel⟩
abbrev s__law_calls : Stmt := topS 30
theorem sc__law_calls : FnScope ["_law_lines", "_law_name", "_law_rows", "_law_line", "_law_own_here", "_law_called"] ["_law_lines", "_law_name"] (defScope s__law_calls) := ⟨rfl, rfl, rfl, by decide +kernel, rfl, by decide +kernel, by decide +kernel⟩
abbrev s__law_module : Stmt := topS 31
theorem sc__law_module : FnScope ["_law_box", "_law_name", "_law_others", "_law_lines", "_law_names", "_law_calls_here", "_law_mine", "_law_own_here", "_law_every", "_law_kind", "_law_row"] ["_law_box", "_law_name", "_law_others"] (defScope s__law_module) := ⟨rfl, rfl, rfl, by decide +kernel, rfl, by decide +kernel, by decide +kernel⟩
abbrev s__law_modules : Stmt := topS 32
theorem sc__law_modules : FnScope ["_law_box", "_law_names", "_law_modules_here", "_law_name"] ["_law_box", "_law_names"] (defScope s__law_modules) := ⟨rfl, rfl, rfl, by decide +kernel, rfl, by decide +kernel, by decide +kernel⟩
abbrev s__law_exports : Stmt := topS 33
theorem sc__law_exports : FnScope ["_law_lines", "_law_found", "_law_line", "_law_name", "_law_called"] ["_law_lines"] (defScope s__law_exports) := ⟨rfl, rfl, rfl, by decide +kernel, rfl, by decide +kernel, by decide +kernel⟩
abbrev s__law_follow : Stmt := topS 34
theorem sc__law_follow : FnScope ["_law_modules_here", "_law_module_here", "_law_name", "_law_turn", "_law_found"] ["_law_modules_here", "_law_module_here", "_law_name"] (defScope s__law_follow) := ⟨rfl, rfl, rfl, by decide +kernel, rfl, by decide +kernel, by decide +kernel⟩
abbrev s__law_leads : Stmt := topS 35
theorem sc__law_leads : FnScope ["_law_modules_here", "_law_module_here", "_law_name", "_law_line", "_law_other", "_law_called"] ["_law_modules_here", "_law_module_here", "_law_name"] (defScope s__law_leads) := ⟨rfl, rfl, rfl, by decide +kernel, rfl, by decide +kernel, by decide +kernel⟩
abbrev s__law_declared : Stmt := topS 36
theorem sc__law_declared : FnScope ["_law_modules_here", "_law_binding", "_law_line"] ["_law_modules_here", "_law_binding"] (defScope s__law_declared) := ⟨rfl, rfl, rfl, by decide +kernel, rfl, by decide +kernel, by decide +kernel⟩
abbrev s__law_tree_fault : Stmt := topS 39
theorem sc__law_tree_fault : FnScope ["_law_modules_here", "_law_module_here", "_law_tree_here", "_law_inner", "_law_word", "_law_parts", "_law_part", "_law_fault"] ["_law_modules_here", "_law_module_here", "_law_tree_here", "_law_inner"] (defScope s__law_tree_fault) := ⟨rfl, rfl, rfl, by decide +kernel, rfl, by decide +kernel, by decide +kernel⟩
abbrev s__law_use_fault : Stmt := topS 40
theorem sc__law_use_fault : FnScope ["_law_modules_here", "_law_module_here", "_law_tree_here", "_law_inner", "_law_word", "_law_name", "_law_binding", "_law_line"] ["_law_modules_here", "_law_module_here", "_law_tree_here", "_law_inner"] (defScope s__law_use_fault) := ⟨rfl, rfl, rfl, by decide +kernel, rfl, by decide +kernel, by decide +kernel⟩
abbrev s__law_line_fault : Stmt := topS 41
theorem sc__law_line_fault : FnScope ["_law_modules_here", "_law_module_here", "_law_line", "_law_inner", "_law_name", "_law_called"] ["_law_modules_here", "_law_module_here", "_law_line"] (defScope s__law_line_fault) := ⟨rfl, rfl, rfl, by decide +kernel, rfl, by decide +kernel, by decide +kernel⟩
abbrev s__law_names_fault : Stmt := topS 42
theorem sc__law_names_fault : FnScope ["_law_modules_here", "_law_order_here", "_law_module_here", "_law_line", "_law_fault"] ["_law_modules_here", "_law_order_here"] (defScope s__law_names_fault) := ⟨rfl, rfl, rfl, by decide +kernel, rfl, by decide +kernel, by decide +kernel⟩
abbrev s__law_alike : Stmt := topS 43
theorem sc__law_alike : FnScope ["_law_one", "_law_two"] ["_law_one", "_law_two"] (defScope s__law_alike) := ⟨rfl, rfl, rfl, by decide +kernel, rfl, by decide +kernel, by decide +kernel⟩
abbrev s__law_wrong_tree : Stmt := topS 44
theorem sc__law_wrong_tree : FnScope ["_law_box", "_law_name", "_law_x", "_law_menu", "_law_tree_here", "_law_kind"] ["_law_box", "_law_name"] (defScope s__law_wrong_tree) := ⟨rfl, rfl, rfl, by decide +kernel, rfl, by decide +kernel, by decide +kernel⟩
abbrev s__law_wrong_line : Stmt := topS 45
theorem sc__law_wrong_line : FnScope ["_law_box", "_law_name", "_law_kind"] ["_law_box", "_law_name"] (defScope s__law_wrong_line) := ⟨rfl, rfl, rfl, by decide +kernel, rfl, by decide +kernel, by decide +kernel⟩
abbrev s_law : Stmt := topS 46
theorem sc_law : FnScope ["_law_script", "_law_box", "_law_turn", "_law_names", "_law_modules_here", "_law_name", "_law_told", "_law_lines", "_law_at"] ["_law_script"] (defScope s_law) := ⟨rfl, rfl, rfl, by decide +kernel, rfl, by decide +kernel, by decide +kernel⟩
/-- what the top has written: O the tuple OWN, CR and CN the two classes -/
structure Txt (K : Frag) (mg : Str → Option Value) (O CR CN : Addr) : Prop where
  gNUMBER : ∃ t, mg "NUMBER" = some (.str "number" t)
  gSTRING : ∃ t, mg "STRING" = some (.str "string" t)
  gNAME : ∃ t, mg "NAME" = some (.str "name" t)
  gCALL : ∃ t, mg "CALL" = some (.str "call" t)
  gSET : ∃ t, mg "SET" = some (.str "set" t)
  gIMPORT : ∃ t, mg "IMPORT" = some (.str "import" t)
  gEXPORT : ∃ t, mg "EXPORT" = some (.str "export" t)
  gFN : ∃ t, mg "FN" = some (.str "fn" t)
  gOWN : mg "OWN" = some (.ref O)
  sOWN : ∀ H, SqT K H O [.str "let", .str "keep", .str "fn"]
  zlen : mg "len" = none
  zint : mg "int" = none
  ztuple : mg "tuple" = none
  zlist : mg "list" = none
  zrepr : mg "repr" = none
  zisi : mg "isinstance" = none
  zrange : mg "range" = none
  d_own : Def K mg "_own" s__own
  d_other : Def K mg "_other" s__other
  d_follow : Def K mg "follow" s_follow
  d_available : Def K mg "available" s_available
  d_declaration : Def K mg "declaration" s_declaration
  d_reach : Def K mg "reach" s_reach
  d_check_names : Def K mg "check_names" s_check_names
  d_law_cell : Def K mg "_law_cell" s__law_cell
  d_law_digits : Def K mg "_law_digits" s__law_digits
  d_law_draw : Def K mg "_law_draw" s__law_draw
  d_law_atom : Def K mg "_law_atom" s__law_atom
  d_law_tree : Def K mg "_law_tree" s__law_tree
  d_law_own : Def K mg "_law_own" s__law_own
  d_law_imports : Def K mg "_law_imports" s__law_imports
  d_law_usable : Def K mg "_law_usable" s__law_usable
  d_law_calls : Def K mg "_law_calls" s__law_calls
  d_law_module : Def K mg "_law_module" s__law_module
  d_law_modules : Def K mg "_law_modules" s__law_modules
  d_law_exports : Def K mg "_law_exports" s__law_exports
  d_law_follow : Def K mg "_law_follow" s__law_follow
  d_law_leads : Def K mg "_law_leads" s__law_leads
  d_law_declared : Def K mg "_law_declared" s__law_declared
  d_law_tree_fault : Def K mg "_law_tree_fault" s__law_tree_fault
  d_law_use_fault : Def K mg "_law_use_fault" s__law_use_fault
  d_law_line_fault : Def K mg "_law_line_fault" s__law_line_fault
  d_law_names_fault : Def K mg "_law_names_fault" s__law_names_fault
  d_law_alike : Def K mg "_law_alike" s__law_alike
  d_law_wrong_tree : Def K mg "_law_wrong_tree" s__law_wrong_tree
  d_law_wrong_line : Def K mg "_law_wrong_line" s__law_wrong_line
  d_law : Def K mg "law" s_law
  clR : Cls K CR
  clN : Cls K CN
  gR : mg "Reach" = some (.ref CR)
  gN : mg "Names" = some (.ref CN)
  nR_lines_of : NoAttr K CR "_lines_of"
  nR_visited : NoAttr K CR "_visited"
  nR_order : NoAttr K CR "order"
  nN_modules : NoAttr K CN "_modules"
  nN_module : NoAttr K CN "_module"
  mR_init : ∃ f fd, Fun K "__init__" "Reach.__init__" s_Reach_init f fd ∧ Mk K CR f
  mR_visit : MDef K CR "visit" "Reach.visit" s_Reach_visit
  mN_init : ∃ f fd, Fun K "__init__" "Names.__init__" s_Names_init f fd ∧ Mk K CN f
  mN_fault : MDef K CN "_fault" "Names._fault" s_Namesfault
  mN_called : MDef K CN "_called" "Names._called" s_Namescalled
  mN_used : MDef K CN "_used" "Names._used" s_Namesused
  mN_fault_of : MDef K CN "fault_of" "Names.fault_of" s_Names_fault_of
  mN_fault_of_line : MDef K CN "fault_of_line" "Names.fault_of_line" s_Names_fault_of_line
end K6
/-! The program's defs about names: _own, _other, follow, available, declaration. -/
namespace K6
open PySem PySem.Spec PyProof.Rows L2 Evl

/-! ### a line by its first items -/
theorem LineAt.ownC {K : Frag} {H : Hp} {v : V} {l : Line} (h : LineAt K H v l) : ∃ a k r, v = .ref a ∧ SqT K H a (.str k :: r) ∧
    ((k ∈ (["let", "keep", "fn"] : List Str) ∧ ∃ x r', r = .str x :: r' ∧ ∀ n, l.owns n = decide (x = n)) ∨ (k ∉ (["let", "keep", "fn"] : List Str) ∧ ∀ n, l.owns n = false)) := by
  cases h with
  | imp h1 h2 h3 => exact ⟨_, _, _, rfl, h1, .inr ⟨by rename_i e _ _; cases e <;> decide +kernel, fun n => rfl⟩⟩
  | own h1 h2 => exact ⟨_, _, _, rfl, h1, .inl ⟨by rename_i k _ _; cases k <;> decide +kernel, _, _, rfl, fun n => rfl⟩⟩
  | fn h1 h2 h3 => exact ⟨_, _, _, rfl, h1, .inl ⟨by decide +kernel, _, _, rfl, fun n => rfl⟩⟩
  | act h1 h2 => exact ⟨_, _, _, rfl, h1, .inr ⟨by rename_i k _; cases k <;> decide +kernel, fun n => rfl⟩⟩
theorem LineAt.impC {K : Frag} {H : Hp} {v : V} {l : Line} (h : LineAt K H v l) : ∃ a k r, v = .ref a ∧ SqT K H a (.str k :: r) ∧
    ((∃ (e : Bool) (ps : List (Str × Str)) (m : Str) (b : Addr) (us : List V), l = .imp e ps m ∧ k = impW e ∧ r = [.ref b, .str m] ∧ SqT K H b us ∧ All2 (PairAt K H) us ps) ∨ (k ≠ "import" ∧ k ≠ "export" ∧ ∀ ex n, l.gives ex n = none)) := by
  cases h with
  | imp h1 h2 h3 => exact ⟨_, _, _, rfl, h1, .inl ⟨_, _, _, _, _, rfl, rfl, rfl, h2, h3⟩⟩
  | own h1 h2 => exact ⟨_, _, _, rfl, h1, .inr ⟨by rename_i k _ _; cases k <;> decide +kernel, by rename_i k _ _; cases k <;> decide +kernel, fun _ _ => rfl⟩⟩
  | fn h1 h2 h3 => exact ⟨_, _, _, rfl, h1, .inr ⟨by decide +kernel, by decide +kernel, fun _ _ => rfl⟩⟩
  | act h1 h2 => exact ⟨_, _, _, rfl, h1, .inr ⟨by rename_i k _; cases k <;> decide +kernel, by rename_i k _; cases k <;> decide +kernel, fun _ _ => rfl⟩⟩
section
variable {α β : Type}
theorem take_more (ls : List α) (i : Nat) (l : α) (hi : ls[i]? = some l) : ls.take (i + 1) = ls.take i ++ [l] ∧ ls = ls.take i ++ (l :: ls.drop (i + 1)) := by
  have hlt : i < ls.length := (List.getElem?_eq_some_iff.mp hi).1
  have q : ls[i] = l := by rw [List.getElem?_eq_getElem hlt] at hi; exact Option.some.inj hi
  refine ⟨by rw [List.take_add_one, hi]; rfl, ?_⟩
  rw [← q, ← List.drop_eq_getElem_cons hlt, List.take_append_drop]
theorem find_step (g : α → Bool) (ls : List α) (i : Nat) (l : α) (hi : ls[i]? = some l) (h : (ls.take i).find? g = none) :
    (g l = true → ls.find? g = some l) ∧ (g l = false → (ls.take (i + 1)).find? g = none) := by
  obtain ⟨e1, e2⟩ := take_more ls i l hi
  refine ⟨fun z => ?_, fun z => ?_⟩
  · rw [e2, List.find?_append, h, List.find?_cons, z]; rfl
  · rw [e1, List.find?_append, h, List.find?_cons, z]; rfl
theorem some_step (g : α → Option β) (ls : List α) (i : Nat) (l : α) (hi : ls[i]? = some l) (h : (ls.take i).findSome? g = none) :
    (∀ b, g l = some b → ls.findSome? g = some b) ∧ (g l = none → (ls.take (i + 1)).findSome? g = none) := by
  obtain ⟨e1, e2⟩ := take_more ls i l hi
  refine ⟨fun b z => ?_, fun z => ?_⟩
  · rw [e2, List.findSome?_append, h, List.findSome?_cons, z]; rfl
  · rw [e1, List.findSome?_append, h, List.findSome?_cons, z]; rfl
end
theorem own_step (ls : List Line) (n : Str) (i : Nat) (l : Line) (hi : ls[i]? = some l) (h : own (ls.take i) n = none) :
    (l.owns n = true → own ls n = some l) ∧ (l.owns n = false → own (ls.take (i + 1)) n = none) := find_step _ ls i l hi h

section
variable {P : Program} {w : World} {K : Frag} {mg : Str → Option Value} {base : Heap} {O CR CN : Addr}
/-- lines, name: the line that owns the name, or None -/
def spOwn (K : Frag) : Sp := fun vs H Q _ => ∃ (a : Addr) (us : List V) (ls : List Line) (n : Str), vs = [.ref a, .str n] ∧ SqT K H a us ∧ All2 (LineAt K H) us ls ∧ ∀ v, Opt (LineAt K H) v (own ls n) → Q v H
theorem ok_own (T : Txt K mg O CR CN) : Cal P w K mg base "_own" 1 ["lines", "name"] (spOwn K) := by
  refine Cal.of T.d_own sc__own (fun _ _ _ _ _ _ us hl => match us, hl with | [_, _], _ => rfl) (fun vs H Q E h => ?_) (fun f cdv A outer s H vs Q E hr h => ?_)
  · obtain ⟨a, us, ls, n, rfl, _⟩ := h
    rfl
  obtain ⟨a, us, ls, n, rfl, hS, hA, q⟩ := h
  refine ⟨_, (pss_cons (ps_for PassesOwn.never rfl (pi_tup (pv 0)) (pg_name (i := 2) sc__own.nd rfl (Or.inl rfl)) (pss_one (ps_if (PW.pt (pw_and (pt_cmpR op_in_seq (pe_ix ix_tup (pv 2) (pe_int) (fun _ _ => rfl)) (pe_glob (v := .ref O) rfl T.gOWN rfl) rfl) (pw_and1 (pt_cmpR op_eq (pe_ix ix_tup (pv 2) (pe_int) (fun _ _ => rfl)) (pv 1) (nomark _))))) (pss_one (ps_ret (pv 2))) pss_nil)))
    (pss_one (ps_ret (pe_non)))), ?_⟩
  refine ⟨_, rfl, a, rfl, ⟨_, hS⟩, for_tup (K := K) (a := a) (xs := us) (fun i σ H' => H' = H ∧ (∃ o, σ = [some (.ref a), some (.str n), o]) ∧ own (ls.take i) n = none) ⟨rfl, ⟨_, rfl⟩, rfl⟩ (fun i σ H' _ z => by rw [z.1]; exact hS) ?_ ?_⟩
  · rintro i x σ H' hi ⟨rfl, ⟨o, rfl⟩, hn⟩
    obtain ⟨l, hl, hx⟩ := hA.get hi
    obtain ⟨s1, s2⟩ := own_step ls n i l hl hn
    obtain ⟨p, k, r, rfl, hp, hk⟩ := hx.ownC
    refine ⟨_, rfl, p, _, 0, _, rfl, rfl, hp, at0, O, [.str "let", .str "keep", .str "fn"], rfl, .inr (T.sOWN _), rfl, rfl, _, rfl, ?_⟩
    have e : inV (.str k) [.str "let", .str "keep", .str "fn"] = decide (k ∈ (["let", "keep", "fn"] : List Str)) := inV_str k ["let", "keep", "fn"]
    rcases hk with ⟨hk, y, r', rfl, ho⟩ | ⟨hk, ho⟩
    · show if inV (.str k) [.str "let", .str "keep", .str "fn"] = true then _ else _
      rw [e, decide_eq_true hk]
      refine iteT ?_
      refine ⟨_, rfl, p, _, 1, _, rfl, rfl, hp, at1, _, rfl, rfl, _, rfl, ?_⟩
      rw [str_dec]
      refine ite2 (fun c => ?_) (fun c => ?_)
      · refine ⟨_, rfl, q _ ?_⟩
        rw [s1 (by rw [ho]; exact c)]
        exact hx
      · refine ⟨rfl, ⟨_, rfl⟩, s2 ?_⟩
        rw [ho]
        exact Bool.eq_false_iff.mpr c
    · show if inV (.str k) [.str "let", .str "keep", .str "fn"] = true then _ else _
      rw [e, decide_eq_false hk]
      refine iteF ?_
      exact ⟨rfl, ⟨_, rfl⟩, s2 (ho n)⟩
  · rintro σ H' ⟨rfl, ⟨o, rfl⟩, hn⟩
    rw [hA.len, List.take_length] at hn
    refine q _ ?_
    rw [hn]
    exact rfl
/-- lines, word, name: the module and the name there of a name in import or export lines, or None -/
def spOther (K : Frag) : Sp := fun vs H Q _ => ∃ (a : Addr) (us : List V) (ls : List Line) (ex : Bool) (n : Str), vs = [.ref a, .str (impW ex), .str n] ∧ SqT K H a us ∧ All2 (LineAt K H) us ls ∧
  ∀ v H', Ex H H' → Opt (PairAt K H') v (other ls ex n) → Q v H'
theorem ok_other (T : Txt K mg O CR CN) : Cal P w K mg base "_other" 1 ["lines", "word", "name"] (spOther K) := by
  refine Cal.of T.d_other sc__other (fun _ _ _ _ _ _ us hl => match us, hl with | [_, _, _], _ => rfl) (fun vs H Q E h => ?_) (fun f cdv A outer s H vs Q E hr h => ?_)
  · obtain ⟨a, us, ls, ex, n, rfl, _⟩ := h
    rfl
  obtain ⟨a, us, ls, ex, n, rfl, hS, hA, q⟩ := h
  refine ⟨_, (pss_cons (ps_for PassesOwn.never rfl (pi_tup (pv 0)) (pg_name (i := 3) sc__other.nd rfl (Or.inl rfl)) (pss_one (ps_if (pt_cmpR op_eq (pe_ix ix_tup (pv 3) (pe_int) (fun _ _ => rfl)) (pv 1) (nomark _)) (pss_one (ps_for PassesOwn.never rfl (pi_tup (pe_ix ix_tup (pv 3) (pe_int) (fun _ _ => rfl))) (pg_tup rfl (pgs_cons (pg_name (i := 4) sc__other.nd rfl (Or.inl rfl)) (pgs_cons (pg_name (i := 5) sc__other.nd rfl (Or.inl rfl)) pgs_nil))) (pss_one (ps_if (pt_cmpR op_eq (pv 5) (pv 2) (nomark _)) (pss_one (ps_ret (pe_tup (pa_cons (pe_ix ix_tup (pv 3) (pe_int) (fun _ _ => rfl)) (pa_cons (pv 4) pa_nil))))) pss_nil)))) pss_nil)))
    (pss_one (ps_ret (pe_non)))), ?_⟩
  refine ⟨_, rfl, a, rfl, ⟨_, hS⟩, for_tup (K := K) (a := a) (xs := us) (fun i σ H' => H' = H ∧ (∃ o o1 o2, σ = [some (.ref a), some (.str (impW ex)), some (.str n), o, o1, o2]) ∧ other (ls.take i) ex n = none) ⟨rfl, ⟨_, _, _, rfl⟩, rfl⟩ (fun i σ H' _ z => by rw [z.1]; exact hS) ?_ ?_⟩
  · rintro i x σ H' hi ⟨rfl, ⟨o, o1, o2, rfl⟩, hn⟩
    obtain ⟨l, hl, hx⟩ := hA.get hi
    obtain ⟨s1, s2⟩ := some_step _ ls i l hl hn
    obtain ⟨p, k, r, rfl, hp, hk⟩ := hx.impC
    refine ⟨_, rfl, p, _, 0, _, rfl, rfl, hp, at0, _, rfl, rfl, _, rfl, ?_⟩
    rw [str_dec]
    rcases hk with ⟨e, ps, m, b, ws, rfl, rfl, rfl, hb, hP⟩ | ⟨k1, k2, hg⟩
    · refine ite2 (fun c => ?_) (fun c => ?_)
      · have ee : e = ex := by
          have c := of_decide_eq_true c
          cases e <;> cases ex <;> first | rfl | exact absurd c (by decide +kernel)
        subst ee
        refine ⟨_, rfl, p, _, 1, _, rfl, rfl, hp, at1, b, rfl, ⟨_, hb⟩, for_tup (K := K) (a := b) (xs := ws) (fun j σ H2 => H2 = H' ∧ (∃ o1 o2, σ = [some (.ref a), some (.str (impW e)), some (.str n), some (.ref p), o1, o2]) ∧ (ps.take j).find? (fun p => decide (p.2 = n)) = none) ⟨rfl, ⟨_, _, rfl⟩, rfl⟩ (fun i σ H' _ z => by rw [z.1]; exact hb) ?_ ?_⟩
        · rintro j y σ H2 hj ⟨rfl, ⟨o1, o2, rfl⟩, hm⟩
          obtain ⟨pr, hpr, c1, rfl, hc⟩ := hP.get hj
          obtain ⟨t1, t2⟩ := find_step _ ps j pr hpr hm
          refine ⟨c1, _, rfl, hc, rfl, _, _, rfl, _, _, rfl, rfl, ?_⟩
          refine ⟨_, rfl, _, rfl, rfl, _, rfl, ?_⟩
          rw [str_dec]
          refine ite2 (fun c => ?_) (fun c => ?_)
          · refine ⟨_, rfl, p, _, 2, _, rfl, rfl, hp, at2, _, rfl, (by show 2 ≤ sizeLine; decide), fun z hz => ?_⟩
            refine q _ _ (Ex.new hz) ?_
            have g1 : Line.gives e n (.imp e ps m) = some (m, pr.1) := by
              rw [gives_imp, if_pos rfl]
              unfold pairIn
              rw [t1 c]
              rfl
            have g2 : other ls e n = some (m, pr.1) := s1 _ g1
            rw [g2]
            exact ⟨z, rfl, SqT.of upd_same⟩
          · exact ⟨rfl, ⟨_, _, rfl⟩, t2 (Bool.eq_false_iff.mpr c)⟩
        · rintro σ H2 ⟨rfl, ⟨o1, o2, rfl⟩, hm⟩
          refine ⟨rfl, ⟨_, _, _, rfl⟩, s2 ?_⟩
          rw [gives_imp, if_pos rfl]
          rw [hP.len, List.take_length] at hm
          unfold pairIn
          rw [hm]
          rfl
      · refine ⟨rfl, ⟨_, _, _, rfl⟩, s2 ?_⟩
        rw [gives_imp, if_neg]
        intro z
        subst z
        exact c (decide_eq_true rfl)
    · have c : ¬ k = impW ex := by cases ex <;> assumption
      rw [decide_eq_false c]
      exact iteF ⟨rfl, ⟨_, _, _, rfl⟩, s2 (hg ex n)⟩
  · rintro σ H' ⟨rfl, ⟨o, o1, o2, rfl⟩, hn⟩
    rw [hA.len, List.take_length] at hn
    refine q _ _ (Ex.refl _) ?_
    rw [hn]
    exact rfl
end
end K6
/-! follow, available, declaration. -/
namespace K6
open PySem PySem.Spec PyProof.Rows L2 Evl

theorem LineAt.ref {K : Frag} {H : Hp} {v : V} {l : Line} (h : LineAt K H v l) : v ≠ .non := by
  cases h <;> exact fun z => nomatch z
theorem PairAt.ref {K : Frag} {H : Hp} {v : V} {p : Str × Str} (h : PairAt K H v p) : v ≠ .non := by
  obtain ⟨a, rfl, _⟩ := h
  exact fun z => nomatch z
theorem FaultAt.ref {K : Frag} {H : Hp} {v : V} {p : Fault} (h : FaultAt K H v p) : v ≠ .non := by
  obtain ⟨a, rfl, _⟩ := h
  exact fun z => nomatch z
theorem Opt.dec {α : Type} {R : V → α → Prop} {v : V} {o : Option α} (h : Opt R v o) (hR : ∀ x, R v x → v ≠ .non) : decide (v = .non) = o.isNone := by
  cases o with
  | none => exact decide_eq_true h
  | some x => exact decide_eq_false (hR x h)
/-- modules.get(m, ()) -/
theorem Tells.get {K : Frag} {H H' : Hp} {kvs : List (Key × V)} {ms : Mods} (h : Tells K H kvs ms) (e : Ex H H') {p : Addr} (hp : H' p = some (.tup [])) (m : Str) : ModAt K H' ((valV kvs (Sum.inr m : Key)).getD (.ref p)) (linesOf ms m) := by
  rcases h m with ⟨h1, h2⟩ | ⟨ls, v, h1, h2, h3⟩
  · rw [h2]
    unfold linesOf
    rw [h1]
    exact ⟨p, [], rfl, SqT.of hp, True.intro⟩
  · rw [h2]
    unfold linesOf
    rw [h1]
    exact h3.on (Tups.ex e)
theorem two_le : 2 ≤ sizeLine := by decide
theorem three_le : 3 ≤ sizeLine := by decide
theorem four_le : 4 ≤ sizeLine := by decide
theorem five_le : 5 ≤ sizeLine := by decide
theorem one_le : 1 ≤ sizeLine := by decide

section
variable {P : Program} {w : World} {K : Frag} {mg : Str → Option Value} {base : Heap} {O CR CN : Addr}
/-- modules, module, name: the binding to which a name leads, by the function g -/
def spLeads (K : Frag) (g : Mods → Str → Str → Option (Str × Str)) : Sp := fun vs H Q _ => ∃ (d : Addr) (ms : Mods) (m n : Str), vs = [.ref d, .str m, .str n] ∧ ModsAt K H d ms ∧ MsOk ms ∧ ∀ v H', Ex H H' → Opt (PairAt K H') v (g ms m n) → Q v H'
theorem ok_follow (T : Txt K mg O CR CN) : Cal P w K mg base "follow" 2 ["modules", "module", "name"] (spLeads K follow) := by
  have C_own := ok_own (P := P) (w := w) (base := base) T
  have C_other := ok_other (P := P) (w := w) (base := base) T
  refine Cal.of T.d_follow sc_follow (fun _ _ _ _ _ _ us hl => match us, hl with | [_, _, _], _ => rfl) (fun vs H Q E h => ?_) (fun f cdv A outer s H vs Q E hr h => ?_)
  · obtain ⟨d, ms, m, n, rfl, _⟩ := h
    rfl
  obtain ⟨d, ms, m, n, rfl, ⟨kvs, hd, hT⟩, hM, q⟩ := h
  refine ⟨_, (pss_cons (ps_set (i := 3) sc_follow.nd rfl (Or.inl rfl) (pe_dnewT))
    (pss_cons (ps_while PassesOwn.never (pt_cmp (pc_dnotin (hu_of hr) (pe_tup (pa_cons (pv 1) (pa_cons (pv 2) pa_nil))) (pv 3))) (pss_cons (ps_dput (hu_of hr) (pv 3) (pe_tup (pa_cons (pv 1) (pa_cons (pv 2) pa_nil))) (pe_bl) rfl)
    (pss_cons (ps_set (i := 4) sc_follow.nd rfl (Or.inl rfl) (pe_dget2 (hu_of hr) (pv 0) (pv 1) (pe_tup pa_nil) ⟨rfl, rfl, rfl, rfl⟩))
    (pss_cons (ps_if (pt_cmpR op_notN (pe_cal C_own (hr.mono (by omega)) rfl (pa_cons (pv 4) (pa_cons (pv 2) pa_nil))) (pe_non) (nomark _)) (pss_one (ps_ret (pe_tup (pa_cons (pv 1) (pa_cons (pv 2) pa_nil))))) pss_nil)
    (pss_cons (ps_set (i := 5) sc_follow.nd rfl (Or.inl rfl) (pe_cal C_other (hr.mono (by omega)) rfl (pa_cons (pv 4) (pa_cons (pe_gstr T.gEXPORT rfl) (pa_cons (pv 2) pa_nil)))))
    (pss_cons (ps_if (pt_cmpR op_isN (pv 5) (pe_non) (nomark _)) (pss_one (ps_ret (pe_non))) pss_nil)
    (pss_one (ps_asg (pv 5) (pg_tup rfl (pgs_cons (pg_name (i := 1) sc_follow.nd rfl (Or.inl rfl)) (pgs_cons (pg_name (i := 2) sc_follow.nd rfl (Or.inl rfl)) pgs_nil)))))))))))
    (pss_one (ps_ret (pe_non))))), ?_⟩
  intro p np
  refine ⟨fun k σ H' => Ex H H' ∧ ∃ n1 kn o1 o2, σ = [some (.ref d), some (.str m), some (.str n1), some (.ref p), o1, o2] ∧ H' p = some (.dT kn) ∧ valV kn ([Sum.inr m, Sum.inr n1] : List Key) = none ∧ kn.length + k ≤ 1 ∧
    ((k = 1 ∧ n1 = n) ∨ (k = 0 ∧ n1 = "none" ∧ own (linesOf ms m) n = none ∧ other (linesOf ms m) true "none" = none ∧ own (linesOf ms m) "none" = none)), ⟨1, Ex.new np, n, [], _, _, rfl, upd_same, rfl, Nat.le_refl _, .inl ⟨rfl, rfl⟩⟩, ?_⟩
  rintro k σ H1 ⟨e1, n1, kn, o1, o2, rfl, hk, hv, hl, hc⟩
  -- (module, name) not in known
  refine ⟨_, rfl, _, rfl, two_le, fun t1 nt1 => ⟨_, rfl, p, _, rfl, DGet.t (k := [Sum.inr m, Sum.inr n1]) (by rw [upd_ne (ne_of_none hk nt1)]; exact hk) upd_same, _, rfl, ?_⟩⟩
  rw [hv]
  refine iteT ?_
  have e2 : Ex H (upd H1 t1 (.tup [.str m, .str n1])) := e1.trans (Ex.new nt1)
  have hk2 : (upd H1 t1 (.tup [.str m, .str n1])) p = some (.dT kn) := by rw [upd_ne (ne_of_none hk nt1)]; exact hk
  generalize upd H1 t1 (.tup [.str m, .str n1]) = H2 at *
  refine ⟨fun σ H' => ∃ j, j < k ∧ Ex H H' ∧ ∃ n1 kn o1 o2, σ = [some (.ref d), some (.str m), some (.str n1), some (.ref p), o1, o2] ∧ H' p = some (.dT kn) ∧ valV kn ([Sum.inr m, Sum.inr n1] : List Key) = none ∧ kn.length + j ≤ 1 ∧
    ((j = 1 ∧ n1 = n) ∨ (j = 0 ∧ n1 = "none" ∧ own (linesOf ms m) n = none ∧ other (linesOf ms m) true "none" = none ∧ own (linesOf ms m) "none" = none)), fun σ' H' z => z, ?_⟩
  -- known[module, name] = True
  refine ⟨_, rfl, _, rfl, _, rfl, two_le, fun t2 nt2 => ⟨p, _, rfl, DPut.t (k := [Sum.inr m, Sum.inr n1]) (by rw [upd_ne (ne_of_none hk2 nt2)]; exact hk2) upd_same (small1000 (by omega)), ?_⟩⟩
  have e3 : Ex H (upd (upd H2 t2 (.tup [.str m, .str n1])) p (.dT (putK kn ([Sum.inr m, Sum.inr n1] : List Key) (.bl true)))) := (e2.trans (Ex.new nt2)).mut np
  have hk3 : (upd (upd H2 t2 (.tup [.str m, .str n1])) p (.dT (putK kn ([Sum.inr m, Sum.inr n1] : List Key) (.bl true)))) p = some (.dT (putK kn ([Sum.inr m, Sum.inr n1] : List Key) (.bl true))) := upd_same
  generalize upd (upd H2 t2 (.tup [.str m, .str n1])) p (.dT (putK kn ([Sum.inr m, Sum.inr n1] : List Key) (.bl true))) = H3 at *
  -- lines = modules.get(module, ())
  refine ⟨_, rfl, d, rfl, .inl ⟨kvs, .inl (e3 _ _ hd)⟩, _, rfl, Nat.zero_le _, fun t4 nt4 => ⟨_, DGet.k (k := Sum.inr m) ((Ex.new nt4) _ _ (e3 _ _ hd)), ?_⟩⟩
  have e4 : Ex H (upd H3 t4 (.tup [])) := e3.trans (Ex.new nt4)
  have hk4 : (upd H3 t4 (.tup [])) p = _ := (Ex.new nt4) _ _ hk3
  obtain ⟨la, us, ev, hS, hA⟩ := hT.get e4 upd_same m
  rw [ev]
  generalize upd H3 t4 (.tup []) = H4 at *
  -- _own(lines, name) is not None
  refine ⟨_, rfl, _, rfl, la, us, _, n1, rfl, hS, hA, fun v hvo => ⟨rfl, _, rfl, ?_⟩⟩
  rw [hvo.dec fun _ z => z.ref]
  cases eo : own (linesOf ms m) n1 with
  | some l =>
    refine iteT ?_
    refine ⟨_, rfl, _, rfl, two_le, fun z nz => q _ _ (e4.trans (Ex.new nz)) ?_⟩
    rcases hc with ⟨_, rfl⟩ | ⟨_, rfl, _, _, z⟩
    · unfold follow
      rw [eo]
      exact ⟨z, rfl, SqT.of upd_same⟩
    · rw [z] at eo
      cases eo
  | none =>
    refine iteF ?_
    -- found = _other(lines, EXPORT, name)
    refine ⟨_, rfl, _, rfl, la, us, _, true, n1, rfl, hS, hA, fun v H5 e5 hv5 => ?_⟩
    refine ⟨_, rfl, rfl, _, rfl, ?_⟩
    rw [hv5.dec fun _ z => z.ref]
    have fn : own (linesOf ms m) n = none := by
      rcases hc with ⟨_, rfl⟩ | ⟨_, rfl, z, _, _⟩
      · exact eo
      · exact z
    cases ex : other (linesOf ms m) true n1 with
    | none =>
      refine iteT ?_
      refine q _ _ (e4.trans e5) ?_
      unfold follow
      rw [fn]
      exact rfl
    | some b =>
      refine iteF ?_
      rcases hc with ⟨rfl, rfl⟩ | ⟨_, rfl, _, z, _⟩
      · cases em : ms m with
        | none =>
          unfold linesOf at ex
          rw [em] at ex
          cases ex
        | some ls =>
          have hm := hM m ls em
          have el : linesOf ms m = ls := by unfold linesOf; rw [em]; rfl
          rw [el] at ex
          obtain ⟨rfl, rfl, _⟩ := other_true hm ex
          rw [el, ex] at hv5
          obtain ⟨c, rfl, hcs⟩ := hv5
          obtain rfl : kn = [] := List.length_eq_zero_iff.mp (by omega)
          refine ⟨_, rfl, c, _, rfl, hcs, rfl, _, _, rfl, _, _, rfl, rfl, 0, by decide, e4.trans e5, "none", _, _, _, rfl, e5 _ _ hk4, ?_, ?_, .inr ⟨rfl, rfl, fn, by rw [el]; exact other_none hm, by rw [el]; exact hm.none_⟩⟩
          · rw [valV_put, if_neg]
            · exact rfl
            · intro z
              have z' : ("none" : Str) = "nn" := by
                have q1 := List.cons.inj (List.cons.inj z).2
                exact Sum.inr.inj q1.1
              exact absurd z' (by decide +kernel)
          · exact Nat.le_trans (length_putK _ _ _) (Nat.le_refl 1)
      · rw [z] at ex
        cases ex
theorem ok_available (T : Txt K mg O CR CN) : Cal P w K mg base "available" 3 ["modules", "module", "name"] (spLeads K avail) := by
  have C_own := ok_own (P := P) (w := w) (base := base) T
  have C_other := ok_other (P := P) (w := w) (base := base) T
  have C_follow := ok_follow (P := P) (w := w) (base := base) T
  refine Cal.of T.d_available sc_available (fun _ _ _ _ _ _ us hl => match us, hl with | [_, _, _], _ => rfl) (fun vs H Q E h => ?_) (fun f cdv A outer s H vs Q E hr h => ?_)
  · obtain ⟨d, ms, m, n, rfl, _⟩ := h
    rfl
  obtain ⟨d, ms, m, n, rfl, ⟨kvs, hd, hT⟩, hM, q⟩ := h
  refine ⟨_, (pss_cons (ps_set (i := 3) sc_available.nd rfl (Or.inl rfl) (pe_dget2 (hu_of hr) (pv 0) (pv 1) (pe_tup pa_nil) ⟨rfl, rfl, rfl, rfl⟩))
    (pss_cons (ps_if (pt_cmpR op_notN (pe_cal C_own (hr.mono (by omega)) rfl (pa_cons (pv 3) (pa_cons (pv 2) pa_nil))) (pe_non) (nomark _)) (pss_one (ps_ret (pe_tup (pa_cons (pv 1) (pa_cons (pv 2) pa_nil))))) pss_nil)
    (pss_cons (ps_set (i := 4) sc_available.nd rfl (Or.inl rfl) (pe_cal C_other (hr.mono (by omega)) rfl (pa_cons (pv 3) (pa_cons (pe_gstr T.gIMPORT rfl) (pa_cons (pv 2) pa_nil)))))
    (pss_one (ps_ret (pe_ifExp (pt_cmpR op_isN (pv 4) (pe_non) (nomark _)) (pe_non) (pe_cal C_follow (hr.mono (by omega)) rfl (pa_cons (pv 0) (pa_cons (pe_ix ix_tup (pv 4) (pe_int) (fun _ _ => rfl)) (pa_cons (pe_ix ix_tup (pv 4) (pe_int) (fun _ _ => rfl)) pa_nil)))))))))), ?_⟩
  refine ⟨_, rfl, d, rfl, .inl ⟨kvs, .inl hd⟩, _, rfl, Nat.zero_le _, fun t4 nt4 => ⟨_, DGet.k (k := Sum.inr m) ((Ex.new nt4) _ _ hd), ?_⟩⟩
  have e4 : Ex H (upd H t4 (.tup [])) := Ex.new nt4
  obtain ⟨la, us, ev, hS, hA⟩ := hT.get e4 upd_same m
  rw [ev]
  generalize upd H t4 (.tup []) = H4 at *
  refine ⟨_, rfl, _, rfl, la, us, _, n, rfl, hS, hA, fun v hvo => ⟨rfl, _, rfl, ?_⟩⟩
  rw [hvo.dec fun _ z => z.ref]
  unfold avail at q
  cases eo : own (linesOf ms m) n with
  | some l =>
    refine iteT ?_
    rw [eo] at q
    exact ⟨_, rfl, _, rfl, two_le, fun z nz => q _ _ (e4.trans (Ex.new nz)) ⟨z, rfl, SqT.of upd_same⟩⟩
  | none =>
    refine iteF ?_
    rw [eo] at q
    refine ⟨_, rfl, _, rfl, la, us, _, false, n, rfl, hS, hA, fun v H5 e5 hv5 => ?_⟩
    refine ⟨_, rfl, rfl, _, rfl, ?_⟩
    rw [hv5.dec fun _ z => z.ref]
    cases ex : other (linesOf ms m) false n with
    | none =>
      refine iteT ?_
      rw [ex] at q
      exact q _ _ (e4.trans e5) rfl
    | some b =>
      refine iteF ?_
      rw [ex] at q hv5
      obtain ⟨c, rfl, hcs⟩ := hv5
      refine ⟨_, rfl, _, rfl, c, _, 0, _, rfl, rfl, hcs, at0, _, rfl, c, _, 1, _, rfl, rfl, hcs, at1, ?_⟩
      exact ⟨d, ms, b.1, b.2, rfl, ModsAt.ex (e4.trans e5) ⟨kvs, hd, hT⟩, hM, fun v H' e6 hv => q _ _ ((e4.trans e5).trans e6) hv⟩
/-- modules, binding: its declaration -/
def spDecl (K : Frag) : Sp := fun vs H Q _ => ∃ (d c : Addr) (ms : Mods) (b : Str × Str), vs = [.ref d, .ref c] ∧ ModsAt K H d ms ∧ SqT K H c [.str b.1, .str b.2] ∧ (ms b.1).isSome = true ∧ ∀ v, Opt (LineAt K H) v (own (linesOf ms b.1) b.2) → Q v H
theorem ok_declaration (T : Txt K mg O CR CN) : Cal P w K mg base "declaration" 2 ["modules", "binding"] (spDecl K) := by
  have C_own := ok_own (P := P) (w := w) (base := base) T
  refine Cal.of T.d_declaration sc_declaration (fun _ _ _ _ _ _ us hl => match us, hl with | [_, _], _ => rfl) (fun vs H Q E h => ?_) (fun f cdv A outer s H vs Q E hr h => ?_)
  · obtain ⟨d, c, ms, b, rfl, _⟩ := h
    rfl
  obtain ⟨d, c, ms, b, rfl, ⟨kvs, hd, hT⟩, hc, hs, q⟩ := h
  refine ⟨_, (pss_one (ps_ret (pe_cal C_own (hr.mono (by omega)) rfl (pa_cons (pe_dget (hu_of hr) (pv 0) (pe_ix ix_tup (pv 1) (pe_int) (fun _ _ => rfl)) (fun _ _ => rfl)) (pa_cons (pe_ix ix_tup (pv 1) (pe_int) (fun _ _ => rfl)) pa_nil))))), ?_⟩
  rcases hT b.1 with ⟨z, _⟩ | ⟨ls, v, h1, h2, la, us, rfl, hS, hA⟩
  · rw [z] at hs
    cases hs
  have el : linesOf ms b.1 = ls := by unfold linesOf; rw [h1]; rfl
  rw [el] at q
  refine ⟨_, rfl, _, rfl, c, _, 0, _, rfl, rfl, hc, at0, d, .ref la, rfl, ?_, ?_⟩
  · rw [← h2]
    exact DGet.k (k := Sum.inr b.1) hd
  · exact ⟨_, rfl, c, _, 1, _, rfl, rfl, hc, at1, la, us, ls, b.2, rfl, hS, hA, q⟩
end
end K6
/-! The class Names: __init__, _fault, _called, _used. -/
namespace K6
open PySem PySem.Spec PyProof.Rows L2 Evl

def nmF (d : Addr) (m : Str) : List (Str × V) := putF "_module" (.str m) (putF "_modules" (.ref d) [])
theorem nmF_modules (d : Addr) (m : Str) : (nmF d m).lookup ("_modules" : Str) = some (.ref d) := by
  unfold nmF
  rw [lookup_putF, if_neg (by decide +kernel), lookup_putF, if_pos rfl]
theorem nmF_module (d : Addr) (m : Str) : (nmF d m).lookup ("_module" : Str) = some (.str m) := by
  unfold nmF
  rw [lookup_putF, if_pos rfl]
theorem nmF_no (d : Addr) (m : Str) {x : Str} (h1 : ¬ x = "_module") (h2 : ¬ x = "_modules") : (nmF d m).lookup x = none := by
  unfold nmF
  rw [lookup_putF, if_neg h1, lookup_putF, if_neg h2]
  rfl
theorem nmF_len (d : Addr) : (putF "_modules" (.ref d) []).length < 1000 := by show 1 < 1000; decide
/-- an instance of Names -/
def NamesAt (CN : Addr) (H : Hp) (p d : Addr) (m : Str) : Prop := ∃ dx, H p = some (.ins CN dx (nmF d m))
theorem NamesAt.ex {CN : Addr} {H H' : Hp} {p d : Addr} {m : Str} (e : Ex H H') (h : NamesAt CN H p d m) : NamesAt CN H' p d m := by
  obtain ⟨dx, h⟩ := h
  exact ⟨dx, e _ _ h⟩
/-- the line that owns a name -/
theorem LineAt.fnC {K : Frag} {H : Hp} {v : V} {l : Line} {n : Str} (h : LineAt K H v l) (ho : l.owns n = true) : ∃ a k r, v = .ref a ∧ SqT K H a (.str k :: r) ∧
    ((∃ ps t b u, l = .fn n ps t ∧ k = "fn" ∧ r = [.str n, .ref b, u] ∧ SqT K H b (ps.map V.str)) ∨ (∃ k' t, l = .own k' n t ∧ k ≠ "fn")) := by
  rcases owns_name ho with ⟨k', t, rfl⟩ | ⟨ps, t, rfl⟩
  · cases h with
    | own h1 h2 => exact ⟨_, _, _, rfl, h1, .inr ⟨_, _, rfl, by cases k' <;> decide +kernel⟩⟩
  · cases h with
    | fn h1 h2 h3 => exact ⟨_, _, _, rfl, h1, .inl ⟨_, _, _, _, rfl, rfl, rfl, h2⟩⟩
theorem own_owns {ls : List Line} {n : Str} {l : Line} (h : own ls n = some l) : l.owns n = true := List.find?_some h
theorem ms_some {ms : Mods} {m n : Str} (h : (own (linesOf ms m) n).isSome = true) : (ms m).isSome = true := by
  cases e : ms m with
  | none =>
    unfold linesOf at h
    rw [e] at h
    cases h
  | some ls => rfl
theorem strs_in (n : Str) (ps : List Str) : (V.bl (if false = true then !inV (.str n) (ps.map V.str) else inV (.str n) (ps.map V.str))) = V.bl (decide (n ∈ ps)) := by
  rw [if_neg Bool.false_ne_true, inV_str]

section
variable {P : Program} {w : World} {K : Frag} {mg : Str → Option Value} {base : Heap} {O CR CN : Addr}
def spNInit (CN : Addr) : Sp := fun vs H Q _ => ∃ (p dx d : Addr) (m : Str), vs = [.ref p, .ref d, .str m] ∧ H p = some (.ins CN dx []) ∧ Q .non (upd H p (.ins CN dx (nmF d m)))
theorem ok_ninit (T : Txt K mg O CR CN) : KCal P w K mg base "Names" CN 1 ["self", "modules", "module"] (spNInit CN) := by
  obtain ⟨f, fd, F, M⟩ := T.mN_init
  refine ⟨f, fd, F.ok sc_Names_init (fun vs H Q E h => ?_) (fun cdv A outer s H vs Q E hr h => ?_), M, F.binds (fun _ _ _ _ _ _ us hl => match us, hl with | [_, _, _], _ => rfl), T.gN⟩
  · obtain ⟨p, dx, d, m, rfl, _⟩ := h
    rfl
  obtain ⟨p, dx, d, m, rfl, hp, q⟩ := h
  refine ⟨_, (pss_cons (ps_fld (pv 0) (pv 1) rfl)
    (pss_one (ps_fld (pv 0) (pv 2) rfl))), ?_⟩
  refine ⟨_, rfl, _, rfl, p, CN, dx, [], rfl, hp, T.clN, T.nN_modules, (by show 0 < 1000; decide), ?_⟩
  refine ⟨_, rfl, _, rfl, p, CN, dx, _, rfl, upd_same, T.clN, T.nN_module, nmF_len d, ?_⟩
  show Q .non (upd (upd H p _) p _)
  rw [upd_upd]
  exact q
/-- kind, name -/
def spNFault (K : Frag) (CN : Addr) : Sp := fun vs H Q _ => ∃ (p d : Addr) (m k n : Str), vs = [.ref p, .str k, .str n] ∧ NamesAt CN H p d m ∧ ∀ v H', Ex H H' → FaultAt K H' v (k, m, n) → Q v H'
theorem ok_nfault (T : Txt K mg O CR CN) : MCal P w K mg base CN "_fault" 1 ["self", "kind", "name"] (spNFault K CN) := by
  refine MCal.of T.mN_fault sc_Namesfault (fun _ _ _ _ _ _ us hl => match us, hl with | [_, _, _], _ => rfl) (fun vs H Q E h => ?_) (fun f cdv A outer s H vs Q E hr h => ?_)
  · obtain ⟨p, d, m, k, n, rfl, _⟩ := h
    rfl
  obtain ⟨p, d, m, k, n, rfl, ⟨dx, hp⟩, q⟩ := h
  refine ⟨_, (pss_one (ps_ret (pe_tup (pa_cons (pv 1) (pa_cons (pe_fld (pv 0) rfl) (pa_cons (pv 2) pa_nil)))))), ?_⟩
  refine ⟨_, rfl, _, rfl, p, CN, dx, _, _, rfl, hp, T.clN, T.nN_module, nmF_module _ _, _, rfl, three_le, fun z nz => q _ _ (Ex.new nz) ⟨z, rfl, SqT.of upd_same⟩⟩
/-- name, parameters, many -/
def spNCalled (K : Frag) (CN : Addr) : Sp := fun vs H Q _ => ∃ (p d a : Addr) (ms : Mods) (m n : Str) (ps : List Str) (many : Nat), vs = [.ref p, .str n, .ref a, .int many] ∧ NamesAt CN H p d m ∧ ModsAt K H d ms ∧ MsOk ms ∧ SqT K H a (ps.map V.str) ∧
  ∀ v H', Ex H H' → Opt (FaultAt K H') v (callF ms m ps n many) → Q v H'
theorem ok_ncalled (T : Txt K mg O CR CN) : MCal P w K mg base CN "_called" 4 ["self", "name", "parameters", "many"] (spNCalled K CN) := by
  have C_fault := ok_nfault (P := P) (w := w) (base := base) T
  have C_available := ok_available (P := P) (w := w) (base := base) T
  have C_declaration := ok_declaration (P := P) (w := w) (base := base) T
  refine MCal.of T.mN_called sc_Namescalled (fun _ _ _ _ _ _ us hl => match us, hl with | [_, _, _, _], _ => rfl) (fun vs H Q E h => ?_) (fun f cdv A outer s H vs Q E hr h => ?_)
  · obtain ⟨p, d, a, ms, m, n, ps, many, rfl, _⟩ := h
    rfl
  obtain ⟨p, d, a, ms, m, n, ps, many, rfl, hN, hD, hM, ha, q⟩ := h
  obtain ⟨dx, hp⟩ := id hN
  refine ⟨_, (pss_cons (ps_if (pt_cmpR op_in_seq (pv 1) (pv 2) rfl) (pss_one (ps_ret (pe_mcal (pv 0) T.clN C_fault (hr.mono (by omega)) (pa_cons (pe_str) (pa_cons (pv 1) pa_nil))))) pss_nil)
    (pss_cons (ps_set (i := 4) sc_Namescalled.nd rfl (Or.inl rfl) (pe_cal C_available (hr.mono (by omega)) rfl (pa_cons (pe_fld (pv 0) rfl) (pa_cons (pe_fld (pv 0) rfl) (pa_cons (pv 1) pa_nil)))))
    (pss_cons (ps_if (pt_cmpR op_isN (pv 4) (pe_non) (nomark _)) (pss_one (ps_ret (pe_mcal (pv 0) T.clN C_fault (hr.mono (by omega)) (pa_cons (pe_str) (pa_cons (pv 1) pa_nil))))) pss_nil)
    (pss_cons (ps_set (i := 5) sc_Namescalled.nd rfl (Or.inl rfl) (pe_cal C_declaration (hr.mono (by omega)) rfl (pa_cons (pe_fld (pv 0) rfl) (pa_cons (pv 4) pa_nil))))
    (pss_cons (ps_if (pt_cmpR op_ne (pe_ix ix_tup (pv 5) (pe_int) (fun _ _ => rfl)) (pe_gstr T.gFN rfl) (nomark _)) (pss_one (ps_ret (pe_mcal (pv 0) T.clN C_fault (hr.mono (by omega)) (pa_cons (pe_str) (pa_cons (pv 1) pa_nil))))) pss_nil)
    (pss_one (ps_ret (pe_ifExp (pt_cmpR op_eq (pe_callB call_len_seq rfl T.zlen PySem.boot_len (pa_cons (pe_ix ix_tup (pv 5) (pe_int) (fun _ _ => rfl)) pa_nil)) (pv 3) (nomark _)) (pe_non) (pe_mcal (pv 0) T.clN C_fault (hr.mono (by omega)) (pa_cons (pe_str) (pa_cons (pv 1) pa_nil))))))))))), ?_⟩
  unfold callF at q
  refine ⟨_, rfl, _, rfl, a, _, rfl, .inr ha, rfl, flat_strs ps, _, strs_in n ps, ?_⟩
  by_cases hi : n ∈ ps
  · rw [decide_eq_true hi]
    rw [if_pos hi] at q
    refine iteT ?_
    exact ⟨_, rfl, p, dx, _, rfl, hp, nmF_no _ _ (by decide +kernel) (by decide +kernel), _, rfl, p, d, m, _, n, rfl, hN, fun v H' e h => q v H' e h⟩
  rw [decide_eq_false hi]
  rw [if_neg hi] at q
  refine iteF ?_
  refine ⟨_, rfl, p, CN, dx, _, _, rfl, hp, T.clN, T.nN_modules, nmF_modules _ _, _, rfl, p, CN, dx, _, _, rfl, hp, T.clN, T.nN_module, nmF_module _ _, _, rfl, d, ms, m, n, rfl, hD, hM, fun v H1 e1 hv => ?_⟩
  refine ⟨_, rfl, rfl, _, rfl, ?_⟩
  rw [hv.dec fun _ z => z.ref]
  cases ea : avail ms m n with
  | none =>
    rw [ea] at q
    refine iteT ?_
    exact ⟨_, rfl, p, dx, _, rfl, e1 _ _ hp, nmF_no _ _ (by decide +kernel) (by decide +kernel), _, rfl, p, d, m, _, n, rfl, hN.ex e1, fun v H' e h => q v H' (e1.trans e) h⟩
  | some b =>
    rw [ea] at q hv
    refine iteF ?_
    obtain ⟨c, rfl, hc⟩ := hv
    have hs := avail_own ea
    refine ⟨_, rfl, p, CN, dx, _, _, rfl, e1 _ _ hp, T.clN, T.nN_modules, nmF_modules _ _, _, rfl, d, c, ms, b, rfl, hD.ex e1, hc, ms_some hs, fun v hv => ?_⟩
    cases eo : own (linesOf ms b.1) b.2 with
    | none =>
      rw [eo] at hs
      cases hs
    | some l =>
      rw [eo] at hv
      have q : ∀ v H', Ex H H' → Opt (FaultAt K H') v (match (some l : Option Line) with
        | some (.fn _ qs _) => if qs.length = many then none else some ("count", m, n)
        | _ => some ("function", m, n)) → Q v H' := by rw [← eo]; exact q
      obtain ⟨la, k, r, rfl, hla, hk⟩ := (show LineAt K H1 v l from hv).fnC (own_owns eo)
      refine ⟨_, rfl, la, _, 0, _, rfl, rfl, hla, at0, rfl, _, rfl, ?_⟩
      rw [str_dec]
      rcases hk with ⟨qs, t, bq, u, rfl, rfl, rfl, hb⟩ | ⟨k', t, rfl, hk⟩
      · refine iteNS rfl ?_
        refine ⟨_, rfl, la, _, 2, _, rfl, rfl, hla, at2, bq, _, rfl, .inr hb, _, rfl, rfl, _, rfl, ?_⟩
        rw [dec_int, List.length_map]
        by_cases hl : qs.length = many
        · rw [show (((qs.length : Nat) : Int) == ((many : Nat) : Int)) = true from beq_iff_eq.mpr (congrArg _ hl)]
          refine iteT ?_
          refine q _ _ e1 ?_
          show Opt _ _ (if qs.length = many then _ else _)
          rw [if_pos hl]
          exact rfl
        · rw [show (((qs.length : Nat) : Int) == ((many : Nat) : Int)) = false from beq_eq_false_iff_ne.mpr fun z => hl (Int.ofNat_inj.mp z)]
          refine iteF ?_
          refine ⟨_, rfl, p, dx, _, rfl, e1 _ _ hp, nmF_no _ _ (by decide +kernel) (by decide +kernel), _, rfl, p, d, m, _, n, rfl, hN.ex e1, fun v H' e h => q v H' (e1.trans e) ?_⟩
          show Opt _ _ (if qs.length = many then _ else _)
          rw [if_neg hl]
          exact h
      · rw [decide_eq_false hk]
        refine iteT ?_
        exact ⟨_, rfl, p, dx, _, rfl, e1 _ _ hp, nmF_no _ _ (by decide +kernel) (by decide +kernel), _, rfl, p, d, m, _, n, rfl, hN.ex e1, fun v H' e h => q v H' (e1.trans e) h⟩
/-- name, parameters, is_set -/
def spNUsed (K : Frag) (CN : Addr) : Sp := fun vs H Q _ => ∃ (p d a : Addr) (ms : Mods) (m n : Str) (ps : List Str) (st : Bool), vs = [.ref p, .str n, .ref a, .bl st] ∧ NamesAt CN H p d m ∧ ModsAt K H d ms ∧ MsOk ms ∧ SqT K H a (ps.map V.str) ∧
  ∀ v H', Ex H H' → Opt (FaultAt K H') v (useF ms m ps st n) → Q v H'
theorem ok_nused (T : Txt K mg O CR CN) : MCal P w K mg base CN "_used" 4 ["self", "name", "parameters", "is_set"] (spNUsed K CN) := by
  have C_fault := ok_nfault (P := P) (w := w) (base := base) T
  have C_available := ok_available (P := P) (w := w) (base := base) T
  have C_declaration := ok_declaration (P := P) (w := w) (base := base) T
  refine MCal.of T.mN_used sc_Namesused (fun _ _ _ _ _ _ us hl => match us, hl with | [_, _, _, _], _ => rfl) (fun vs H Q E h => ?_) (fun f cdv A outer s H vs Q E hr h => ?_)
  · obtain ⟨p, d, a, ms, m, n, ps, st, rfl, _⟩ := h
    rfl
  obtain ⟨p, d, a, ms, m, n, ps, st, rfl, hN, hD, hM, ha, q⟩ := h
  obtain ⟨dx, hp⟩ := id hN
  refine ⟨_, (pss_cons (ps_if (pt_cmpR op_in_seq (pv 1) (pv 2) rfl) (pss_one (ps_ret (pe_ifExp (pt_val (pv 3)) (pe_mcal (pv 0) T.clN C_fault (hr.mono (by omega)) (pa_cons (pe_str) (pa_cons (pv 1) pa_nil))) (pe_non)))) pss_nil)
    (pss_cons (ps_set (i := 4) sc_Namesused.nd rfl (Or.inl rfl) (pe_cal C_available (hr.mono (by omega)) rfl (pa_cons (pe_fld (pv 0) rfl) (pa_cons (pe_fld (pv 0) rfl) (pa_cons (pv 1) pa_nil)))))
    (pss_cons (ps_if (pt_cmpR op_isN (pv 4) (pe_non) (nomark _)) (pss_one (ps_ret (pe_mcal (pv 0) T.clN C_fault (hr.mono (by omega)) (pa_cons (pe_str) (pa_cons (pv 1) pa_nil))))) pss_nil)
    (pss_one (ps_ret (pe_ifExp (pt_cmpR op_eq (pe_ix ix_tup (pe_cal C_declaration (hr.mono (by omega)) rfl (pa_cons (pe_fld (pv 0) rfl) (pa_cons (pv 4) pa_nil))) (pe_int) (fun _ _ => rfl)) (pe_gstr T.gFN rfl) (nomark _)) (pe_mcal (pv 0) T.clN C_fault (hr.mono (by omega)) (pa_cons (pe_str) (pa_cons (pv 1) pa_nil))) (pe_non))))))), ?_⟩
  unfold useF at q
  refine ⟨_, rfl, _, rfl, a, _, rfl, .inr ha, rfl, flat_strs ps, _, strs_in n ps, ?_⟩
  by_cases hi : n ∈ ps
  · rw [decide_eq_true hi]
    rw [if_pos hi] at q
    refine iteT ?_
    refine ⟨_, rfl, st, rfl, ?_⟩
    cases st with
    | true =>
      refine iteT ?_
      exact ⟨_, rfl, p, dx, _, rfl, hp, nmF_no _ _ (by decide +kernel) (by decide +kernel), _, rfl, p, d, m, _, n, rfl, hN, fun v H' e h => q v H' e h⟩
    | false =>
      refine iteF ?_
      exact q _ _ (Ex.refl _) rfl
  rw [decide_eq_false hi]
  rw [if_neg hi] at q
  refine iteF ?_
  refine ⟨_, rfl, p, CN, dx, _, _, rfl, hp, T.clN, T.nN_modules, nmF_modules _ _, _, rfl, p, CN, dx, _, _, rfl, hp, T.clN, T.nN_module, nmF_module _ _, _, rfl, d, ms, m, n, rfl, hD, hM, fun v H1 e1 hv => ?_⟩
  refine ⟨_, rfl, rfl, _, rfl, ?_⟩
  rw [hv.dec fun _ z => z.ref]
  cases ea : avail ms m n with
  | none =>
    rw [ea] at q
    refine iteT ?_
    exact ⟨_, rfl, p, dx, _, rfl, e1 _ _ hp, nmF_no _ _ (by decide +kernel) (by decide +kernel), _, rfl, p, d, m, _, n, rfl, hN.ex e1, fun v H' e h => q v H' (e1.trans e) h⟩
  | some b =>
    rw [ea] at q hv
    refine iteF ?_
    obtain ⟨c, rfl, hc⟩ := hv
    have hs := avail_own ea
    refine ⟨_, rfl, p, CN, dx, _, _, rfl, e1 _ _ hp, T.clN, T.nN_modules, nmF_modules _ _, _, rfl, d, c, ms, b, rfl, hD.ex e1, hc, ms_some hs, fun v hv => ?_⟩
    cases eo : own (linesOf ms b.1) b.2 with
    | none =>
      rw [eo] at hs
      cases hs
    | some l =>
      rw [eo] at hv
      have q : ∀ v H', Ex H H' → Opt (FaultAt K H') v (match (some l : Option Line) with
        | some (.fn _ _ _) => some ("variable", m, n)
        | _ => none) → Q v H' := by rw [← eo]; exact q
      obtain ⟨la, k, r, rfl, hla, hk⟩ := (show LineAt K H1 v l from hv).fnC (own_owns eo)
      refine ⟨la, _, 0, _, rfl, rfl, hla, at0, rfl, _, rfl, ?_⟩
      rw [str_dec]
      rcases hk with ⟨qs, t, bq, u, rfl, rfl, rfl, hb⟩ | ⟨k', t, rfl, hk⟩
      · rw [decide_eq_true rfl]
        refine iteT ?_
        exact ⟨_, rfl, p, dx, _, rfl, e1 _ _ hp, nmF_no _ _ (by decide +kernel) (by decide +kernel), _, rfl, p, d, m, _, n, rfl, hN.ex e1, fun v H' e h => q v H' (e1.trans e) h⟩
      · rw [decide_eq_false hk]
        refine iteF ?_
        exact q _ _ e1 rfl
end
end K6
/-! Names.fault_of, fault_of_line, check_names. -/
namespace K6
open PySem PySem.Spec PyProof.Rows L2 Evl

theorem treesF_eq (ms : Mods) (m : Str) (ps : List Str) : ∀ ts : List Tree, treesF ms m ps ts = ts.findSome? (treeF ms m ps)
  | [] => by rw [treesF]; rfl
  | t :: ts => by
    rw [treesF, treesF_eq ms m ps ts, List.findSome?_cons]
    cases treeF ms m ps t <;> rfl
theorem all2_of {K : Frag} {H : Hp} : ∀ {us : List V} {ts : List Tree}, us.length = ts.length → (∀ (i : Nat) u t, us[i]? = some u → ts[i]? = some t → TreeAt K H u t) → All2 (TreeAt K H) us ts
  | [], [], _, _ => True.intro
  | [], _ :: _, h, _ => by simp at h
  | _ :: _, [], h, _ => by simp at h
  | u :: us, t :: ts, h, f => ⟨f 0 u t (by simp) (by simp), all2_of (by simpa using h) fun i u t h1 h2 => f (i + 1) u t (by simpa using h1) (by simpa using h2)⟩
def treeOps : List Str := ["+", "-", "*", "<", "=", "if", "then"]
/-- a tree by its word -/
theorem TreeAt.head {K : Frag} {H : Hp} {v : V} {t : Tree} (h : TreeAt K H v t) : ∃ a k r, v = .ref a ∧ SqT K H a (.str k :: r) ∧
    ((∃ b x, t = .lit b x ∧ k = litW b) ∨ (∃ n, t = .name n ∧ k = "name" ∧ r = [.str n]) ∨ (∃ n u t', t = .set n t' ∧ k = "set" ∧ r = [.str n, u] ∧ TreeAt K H u t') ∨
      (∃ n b us ts, t = .call n ts ∧ k = "call" ∧ r = [.str n, .ref b] ∧ SqT K H b us ∧ All2 (TreeAt K H) us ts) ∨ (∃ ts, t = .op k ts ∧ k ∈ treeOps ∧ All2 (TreeAt K H) r ts)) := by
  cases h with
  | lit h => exact ⟨_, _, _, rfl, h, .inl ⟨_, _, rfl, rfl⟩⟩
  | name h => exact ⟨_, _, _, rfl, h, .inr (.inl ⟨_, rfl, rfl, rfl⟩)⟩
  | set h h2 => exact ⟨_, _, _, rfl, h, .inr (.inr (.inl ⟨_, _, _, rfl, rfl, rfl, h2⟩))⟩
  | call h h2 hl ha => exact ⟨_, _, _, rfl, h, .inr (.inr (.inr (.inl ⟨_, _, _, _, rfl, rfl, rfl, h2, all2_of hl ha⟩)))⟩
  | op h hk hl ha => exact ⟨_, _, _, rfl, h, .inr (.inr (.inr (.inr ⟨_, rfl, hk, all2_of hl ha⟩)))⟩
theorem ops_ne {k : Str} (h : k ∈ treeOps) : k ≠ "number" ∧ k ≠ "string" ∧ k ≠ "name" ∧ k ≠ "set" ∧ k ≠ "call" := by
  refine ⟨?_, ?_, ?_, ?_, ?_⟩ <;> (rintro rfl; exact absurd h (by decide +kernel))
theorem cut1 (x : V) (r : List V) : cutV (x :: r) (some 1) none = r := by
  have e : HT.sIx (x :: r).length 0 (some (1 : Int)) = 1 := by
    show HT.sIx (x :: r).length 0 (some ((1 : Nat) : Int)) = 1
    rw [HT.sIx_nat, List.length_cons]
    omega
  unfold cutV
  rw [e, HT.sIx_none, List.length_cons, List.drop_succ_cons, List.drop_zero, Nat.add_sub_cancel, List.take_length]
theorem sIx1 (x : V) (r : List V) : HT.sIx (x :: r).length 0 (some (1 : Int)) = 1 := by
  show HT.sIx (x :: r).length 0 (some ((1 : Nat) : Int)) = 1
  rw [HT.sIx_nat, List.length_cons]
  omega
def first (a b : Option Fault) : Option Fault := match a with
  | some f => some f
  | none => b

section
variable {P : Program} {w : World} {K : Frag} {mg : Str → Option Value} {base : Heap} {O CR CN : Addr}
/-- tree, parameters -/
def spNTree (K : Frag) (CN : Addr) (k : Nat) : Sp := fun vs H Q _ => ∃ (p d a : Addr) (ms : Mods) (m : Str) (ps : List Str) (v : V) (t : Tree), vs = [.ref p, v, .ref a] ∧ NamesAt CN H p d m ∧ ModsAt K H d ms ∧ MsOk ms ∧ SqT K H a (ps.map V.str) ∧ TreeAt K H v t ∧ t.depth ≤ k ∧
  ∀ v H', Ex H H' → Opt (FaultAt K H') v (treeF ms m ps t) → Q v H'
theorem depth_pos (t : Tree) : 0 < t.depth := by
  cases t <;> rw [Tree.depth] <;> omega
/-- the loop over the parts -/
theorem ok_nfault_of (T : Txt K mg O CR CN) : ∀ k : Nat, MCal P w K mg base CN "fault_of" (k + 4) ["self", "tree", "parameters"] (spNTree K CN k)
  | 0 => by
    refine (MCal.of T.mN_fault_of sc_Names_fault_of (fun _ _ _ _ _ _ us hl => match us, hl with | [_, _, _], _ => rfl) (fun vs H Q E h => ?_) (fun f cdv A outer s H vs Q E hr h => ?_) : MCal P w K mg base CN "fault_of" 1 _ _).mono (by decide)
    · obtain ⟨p, d, a, ms, m, ps, v, t, rfl, _⟩ := h
      rfl
    · obtain ⟨p, d, a, ms, m, ps, v, t, rfl, _, _, _, _, _, z, _⟩ := h
      have := depth_pos t
      omega
  | k + 1 => by
    have C_used := ok_nused (P := P) (w := w) (base := base) T
    have C_called := ok_ncalled (P := P) (w := w) (base := base) T
    have C_fault_of := ok_nfault_of T k
    refine MCal.of (k := k + 4) T.mN_fault_of sc_Names_fault_of (fun _ _ _ _ _ _ us hl => match us, hl with | [_, _, _], _ => rfl) (fun vs H Q E h => ?_) (fun f cdv A outer s H vs Q E hr h => ?_)
    · obtain ⟨p, d, a, ms, m, ps, v, t, rfl, _⟩ := h
      rfl
    obtain ⟨p, d, a, ms, m, ps, v, t, rfl, hN, hD, hM, ha, hT, hk, q⟩ := h
    obtain ⟨dx, hp⟩ := id hN
    obtain ⟨ta, kw, r, rfl, hta, hc⟩ := hT.head
    refine ⟨_, (pss_cons (ps_set (i := 3) sc_Names_fault_of.nd rfl (Or.inl rfl) (pe_ix ix_tup (pv 1) (pe_int) (fun _ _ => rfl)))
    (pss_cons (ps_set (i := 4) sc_Names_fault_of.nd rfl (Or.inl rfl) (pe_slice sl_tupA (pv 1) (po_some (pe_int)) po_none))
    (pss_cons (ps_set (i := 5) sc_Names_fault_of.nd rfl (Or.inl rfl) (pe_non))
    (pss_cons (ps_if (PW.pt (pw_or (pt_cmpR op_eq (pv 3) (pe_gstr T.gNUMBER rfl) (nomark _)) (pw_or1 (pt_cmpR op_eq (pv 3) (pe_gstr T.gSTRING rfl) (nomark _))))) (pss_one (ps_ret (pe_non))) pss_nil)
    (pss_cons (ps_if (pt_cmpR op_eq (pv 3) (pe_gstr T.gNAME rfl) (nomark _)) (pss_one (ps_ret (pe_mcal (pv 0) T.clN C_used (hr.mono (by omega)) (pa_cons (pe_ix ix_tup (pv 1) (pe_int) (fun _ _ => rfl)) (pa_cons (pv 2) (pa_cons (pe_bl) pa_nil)))))) pss_nil)
    (pss_cons (ps_if (pt_cmpR op_eq (pv 3) (pe_gstr T.gSET rfl) (nomark _)) (pss_cons (ps_set (i := 5) sc_Names_fault_of.nd rfl (Or.inl rfl) (pe_mcal (pv 0) T.clN C_used (hr.mono (by omega)) (pa_cons (pe_ix ix_tup (pv 1) (pe_int) (fun _ _ => rfl)) (pa_cons (pv 2) (pa_cons (pe_bl) pa_nil)))))
    (pss_one (ps_set (i := 4) sc_Names_fault_of.nd rfl (Or.inl rfl) (pe_slice sl_tupA (pv 1) (po_some (pe_int)) po_none)))) (pss_one (ps_if (pt_cmpR op_eq (pv 3) (pe_gstr T.gCALL rfl) (nomark _)) (pss_cons (ps_set (i := 5) sc_Names_fault_of.nd rfl (Or.inl rfl) (pe_mcal (pv 0) T.clN C_called (hr.mono (by omega)) (pa_cons (pe_ix ix_tup (pv 1) (pe_int) (fun _ _ => rfl)) (pa_cons (pv 2) (pa_cons (pe_callB call_len_seq rfl T.zlen PySem.boot_len (pa_cons (pe_ix ix_tup (pv 1) (pe_int) (fun _ _ => rfl)) pa_nil)) pa_nil)))))
    (pss_one (ps_set (i := 4) sc_Names_fault_of.nd rfl (Or.inl rfl) (pe_ix ix_tup (pv 1) (pe_int) (fun _ _ => rfl))))) pss_nil)))
    (pss_cons (ps_for PassesOwn.never rfl (pi_tup (pv 4)) (pg_name (i := 6) sc_Names_fault_of.nd rfl (Or.inl rfl)) (pss_one (ps_if (pt_cmpR op_isN (pv 5) (pe_non) (nomark _)) (pss_one (ps_set (i := 5) sc_Names_fault_of.nd rfl (Or.inl rfl) (pe_mcal (pv 0) T.clN C_fault_of (hr.mono (by omega)) (pa_cons (pv 6) (pa_cons (pv 2) pa_nil))))) pss_nil)))
    (pss_one (ps_ret (pv 5)))))))))), ?_⟩
    -- kind = tree[0]; parts = tree[1:]; fault = None
    refine ⟨_, rfl, ta, _, 0, _, rfl, rfl, hta, at0, _, rfl, _, rfl, ta, _, rfl, hta, fun z => absurd z.1 (by rw [sIx1]; decide), fun _ b1 nb1 => ?_⟩
    rw [cut1]
    have e1 : Ex H (upd H b1 (.tup r)) := Ex.new nb1
    have hb1 : SqT K (upd H b1 (.tup r)) b1 r := SqT.of upd_same
    generalize upd H b1 (.tup r) = H1 at *
    -- the loop over the parts us, from the fault f0 on
    have loop : ∀ (H2 : Hp) (b2 : Addr) (us : List V) (ts : List Tree) (f0 : Option Fault) (fv : V) (D : Ends), Ex H H2 → SqT K H2 b2 us → All2 (TreeAt K H2) us ts → (∀ t ∈ ts, t.depth ≤ k) → Opt (FaultAt K H2) fv f0 →
        (∀ σ v H', Ex H H' → σ[5]? = some (some v) → Opt (FaultAt K H') v (first f0 (treesF ms m ps ts)) → D.nx σ H') →
        tFor (iTup K (tVar 4)) (gName 6) (tIfS (tTest (tOp (fun x y H Q => y = .non ∧ Q (.bl (decide (x = .non))) H) (tVar 5) (tC .non))) (tAsg (tMeth CN "fault_of" (spNTree K CN k) [] E0 (tVar 0) (tCons (tVar 6) (tCons (tVar 2) tNil))) (gName 5)) tNext) D
          [some (.ref p), some (.ref ta), some (.ref a), some (.str kw), some (.ref b2), some fv, none] H2 := by
      intro H2 b2 us ts f0 fv D e2 hb2 hU hd hfv fin
      refine ⟨_, rfl, b2, rfl, ⟨_, hb2⟩, for_tup (K := K) (a := b2) (xs := us) (fun i σ H' => Ex H2 H' ∧ ∃ fv o, σ = [some (.ref p), some (.ref ta), some (.ref a), some (.str kw), some (.ref b2), some fv, o] ∧ Opt (FaultAt K H') fv (first f0 ((ts.take i).findSome? (treeF ms m ps)))) ⟨Ex.refl _, fv, _, rfl, ?_⟩ (fun i σ H' _ z => ex_t z.1 hb2) ?_ ?_⟩
      · rw [List.take_zero, List.findSome?_nil]
        cases f0 <;> exact hfv
      · rintro i x σ H3 hi ⟨e3, fv, o, rfl, hfv⟩
        obtain ⟨t', ht', hx⟩ := hU.get hi
        refine ⟨_, rfl, rfl, _, rfl, ?_⟩
        rw [hfv.dec fun _ z => z.ref]
        cases ef : first f0 ((ts.take i).findSome? (treeF ms m ps)) with
        | some f =>
          rw [ef] at hfv
          refine iteF ?_
          refine ⟨e3, fv, _, rfl, ?_⟩
          have e4 : first f0 ((ts.take (i + 1)).findSome? (treeF ms m ps)) = some f := by
            cases f0 with
            | some g => exact ef
            | none =>
              have ef : (ts.take i).findSome? (treeF ms m ps) = some f := ef
              show (ts.take (i + 1)).findSome? (treeF ms m ps) = some f
              rw [(take_more ts i t' ht').1, List.findSome?_append, ef]
              rfl
          rw [e4]
          exact hfv
        | none =>
          refine iteT ?_
          have h0 : f0 = none := by
            cases f0 with
            | some g => cases ef
            | none => rfl
          subst h0
          have ef : (ts.take i).findSome? (treeF ms m ps) = none := ef
          have e23 := e2.trans e3
          refine ⟨_, rfl, p, dx, _, rfl, e23 _ _ hp, nmF_no _ _ (by decide +kernel) (by decide +kernel), _, rfl, _, rfl, p, d, a, ms, m, ps, x, t', rfl, hN.ex e23, hD.ex e23, hM, ex_t e23 ha, hx.on (Tups.ex e3), hd t' (List.mem_of_getElem? ht'), fun v H4 e4 hv => ?_⟩
          refine ⟨e3.trans e4, v, _, rfl, ?_⟩
          have e5 : first none ((ts.take (i + 1)).findSome? (treeF ms m ps)) = treeF ms m ps t' := by
            show (ts.take (i + 1)).findSome? (treeF ms m ps) = _
            rw [(take_more ts i t' ht').1, List.findSome?_append, ef, List.findSome?_cons]
            cases treeF ms m ps t' <;> rfl
          rw [e5]
          exact hv
      · rintro σ H3 ⟨e3, fv, o, rfl, hfv⟩
        rw [hU.len, List.take_length, ← treesF_eq] at hfv
        exact fin _ fv H3 (e2.trans e3) rfl hfv
    have hta1 := ex_t e1 hta
    have fin : ∀ {g : Option Fault} {σ : L2.St} {v : V} {H' : Hp}, treeF ms m ps t = g → Ex H H' → σ[5]? = some (some v) → Opt (FaultAt K H') v g → ∃ v, σ[5]? = some (some v) ∧ Q v H' := by
      intro g σ v H' eg e h5 hv
      exact ⟨v, h5, q v H' e (by rw [eg]; exact hv)⟩
    refine ⟨_, rfl, rfl, _, rfl, ?_⟩
    rw [str_dec]
    rcases hc with ⟨b, x, rfl, rfl⟩ | ⟨n, rfl, rfl, rfl⟩ | ⟨n, u, t', rfl, rfl, rfl, hu⟩ | ⟨n, b, us, ts, rfl, rfl, rfl, hb, hU⟩ | ⟨ts, rfl, hops, hU⟩
    · -- a number, a text
      have e0 : treeF ms m ps (.lit b x) = none := by rw [treeF]
      cases b with
      | true =>
        rw [decide_eq_true (show litW true = ("number" : Str) from rfl)]
        refine iteT (iteT ?_)
        exact q _ _ e1 (by rw [e0]; exact rfl)
      | false =>
        rw [decide_eq_false (show litW false ≠ ("number" : Str) by decide +kernel)]
        refine iteF ⟨_, rfl, rfl, _, rfl, ?_⟩
        rw [str_dec, decide_eq_true (show litW false = ("string" : Str) from rfl)]
        exact iteT (q _ _ e1 (by rw [e0]; exact rfl))
    · -- a name
      rw [decide_eq_false (by decide +kernel)]
      refine iteF ⟨_, rfl, rfl, _, rfl, ?_⟩
      rw [str_dec, decide_eq_false (by decide +kernel)]
      refine iteF ⟨_, rfl, rfl, _, rfl, ?_⟩
      rw [str_dec, decide_eq_true rfl]
      refine iteT ⟨_, rfl, p, dx, _, rfl, e1 _ _ hp, nmF_no _ _ (by decide +kernel) (by decide +kernel), _, rfl, ta, _, 1, _, rfl, rfl, hta1, at1, _, rfl, p, d, a, ms, m, n, ps, false, rfl, hN.ex e1, hD.ex e1, hM, ex_t e1 ha, fun v H' e h => q v H' (e1.trans e) ?_⟩
      rw [treeF]
      exact h
    · -- a set
      rw [decide_eq_false (by decide +kernel)]
      refine iteF ⟨_, rfl, rfl, _, rfl, ?_⟩
      rw [str_dec, decide_eq_false (by decide +kernel)]
      refine iteF ⟨_, rfl, rfl, _, rfl, ?_⟩
      rw [str_dec, decide_eq_false (by decide +kernel)]
      refine iteF ⟨_, rfl, rfl, _, rfl, ?_⟩
      rw [str_dec, decide_eq_true rfl]
      refine iteT ⟨_, rfl, p, dx, _, rfl, e1 _ _ hp, nmF_no _ _ (by decide +kernel) (by decide +kernel), _, rfl, ta, _, 1, _, rfl, rfl, hta1, at1, _, rfl, p, d, a, ms, m, n, ps, true, rfl, hN.ex e1, hD.ex e1, hM, ex_t e1 ha, fun v H2 e2 hv => ?_⟩
      have e12 := e1.trans e2
      refine ⟨_, rfl, _, rfl, ta, _, rfl, ex_t e2 hta1, fun z => absurd z.1 (by show ¬ HT.sIx 3 0 (some 2) = 0; decide), fun _ b2 nb2 => ?_⟩
      refine loop _ b2 [u] [t'] (useF ms m ps true n) v _ (e12.trans (Ex.new nb2)) (SqT.of upd_same) ⟨hu.on (Tups.ex (e12.trans (Ex.new nb2))), True.intro⟩ (fun z hz => ?_) (hv.imp fun _ z => z.on (Tups.ex (Ex.new nb2))) fun σ v H' e h5 h => fin ?_ e h5 h
      · rw [List.mem_singleton.mp hz]
        rw [Tree.depth] at hk
        omega
      · rw [treeF, treesF, treesF]
        unfold first
        cases useF ms m ps true n with
        | some f => rfl
        | none => cases treeF ms m ps t' <;> rfl
    · -- a call
      rw [decide_eq_false (by decide +kernel)]
      refine iteF ⟨_, rfl, rfl, _, rfl, ?_⟩
      rw [str_dec, decide_eq_false (by decide +kernel)]
      refine iteF ⟨_, rfl, rfl, _, rfl, ?_⟩
      rw [str_dec, decide_eq_false (by decide +kernel)]
      refine iteF ⟨_, rfl, rfl, _, rfl, ?_⟩
      rw [str_dec, decide_eq_false (by decide +kernel)]
      refine iteF ⟨_, rfl, rfl, _, rfl, ?_⟩
      rw [str_dec, decide_eq_true rfl]
      refine iteT ⟨_, rfl, p, dx, _, rfl, e1 _ _ hp, nmF_no _ _ (by decide +kernel) (by decide +kernel), _, rfl, ta, _, 1, _, rfl, rfl, hta1, at1, _, rfl, _, rfl, ta, _, 2, _, rfl, rfl, hta1, at2, b, us, rfl, .inr (ex_t e1 hb), p, d, a, ms, m, n, ps, us.length, rfl, hN.ex e1, hD.ex e1, hM, ex_t e1 ha, fun v H2 e2 hv => ?_⟩
      have e12 := e1.trans e2
      refine ⟨_, rfl, ta, _, 2, _, rfl, rfl, ex_t e2 hta1, at2, ?_⟩
      refine loop H2 b us ts (callF ms m ps n us.length) v _ e12 (ex_t e12 hb) (hU.imp fun _ _ z => z.on (Tups.ex e12)) (fun z hz => ?_) hv fun σ v H' e h5 h => fin ?_ e h5 h
      · have := depth_mem hz
        rw [Tree.depth] at hk
        omega
      · rw [treeF, hU.len]
        unfold first
        cases callF ms m ps n ts.length <;> rfl
    · -- the other ones
      obtain ⟨n1, n2, n3, n4, n5⟩ := ops_ne hops
      rw [decide_eq_false n1]
      refine iteF ⟨_, rfl, rfl, _, rfl, ?_⟩
      rw [str_dec, decide_eq_false n2]
      refine iteF ⟨_, rfl, rfl, _, rfl, ?_⟩
      rw [str_dec, decide_eq_false n3]
      refine iteF ⟨_, rfl, rfl, _, rfl, ?_⟩
      rw [str_dec, decide_eq_false n4]
      refine iteF ⟨_, rfl, rfl, _, rfl, ?_⟩
      rw [str_dec, decide_eq_false n5]
      refine iteF ?_
      refine loop H1 b1 r ts none .non _ e1 hb1 (hU.imp fun _ _ z => z.on (Tups.ex e1)) (fun z hz => ?_) rfl fun σ v H' e h5 h => fin ?_ e h5 h
      · have := depth_mem hz
        rw [Tree.depth] at hk
        omega
      · rw [treeF]
        rfl
end
end K6
/-! Names.fault_of_line, check_names. -/
namespace K6
open PySem PySem.Spec PyProof.Rows L2 Evl

section
variable {P : Program} {w : World} {K : Frag} {mg : Str → Option Value} {base : Heap} {O CR CN : Addr}
/-- line -/
def spNLine (K : Frag) (CN : Addr) : Sp := fun vs H Q _ => ∃ (p d : Addr) (ms : Mods) (m : Str) (v : V) (l : Line), vs = [.ref p, v] ∧ NamesAt CN H p d m ∧ ModsAt K H d ms ∧ MsOk ms ∧ LineAt K H v l ∧ LineOk l ∧
  ∀ v H', Ex H H' → Opt (FaultAt K H') v (lineF ms m l) → Q v H'
theorem ok_nfault_of_line (T : Txt K mg O CR CN) : MCal P w K mg base CN "fault_of_line" 13 ["self", "line"] (spNLine K CN) := by
  have C_follow := ok_follow (P := P) (w := w) (base := base) T
  have C_fault_of := ok_nfault_of (P := P) (w := w) (base := base) T 8
  refine MCal.of T.mN_fault_of_line sc_Names_fault_of_line (fun _ _ _ _ _ _ us hl => match us, hl with | [_, _], _ => rfl) (fun vs H Q E h => ?_) (fun f cdv A outer s H vs Q E hr h => ?_)
  · obtain ⟨p, d, ms, m, v, l, rfl, _⟩ := h
    rfl
  obtain ⟨p, d, ms, m, v, l, rfl, hN, hD, hM, hL, hO, q⟩ := h
  obtain ⟨dx, hp⟩ := id hN
  refine ⟨_, (pss_cons (ps_if (PW.pt (pw_or (pt_cmpR op_eq (pe_ix ix_tup (pv 1) (pe_int) (fun _ _ => rfl)) (pe_gstr T.gIMPORT rfl) (nomark _)) (pw_or1 (pt_cmpR op_eq (pe_ix ix_tup (pv 1) (pe_int) (fun _ _ => rfl)) (pe_gstr T.gEXPORT rfl) (nomark _))))) (pss_cons (ps_for PassesOwn.never rfl (pi_tup (pe_ix ix_tup (pv 1) (pe_int) (fun _ _ => rfl))) (pg_tup rfl (pgs_cons (pg_name (i := 2) sc_Names_fault_of_line.nd rfl (Or.inl rfl)) (pgs_cons (pg_name (i := 3) sc_Names_fault_of_line.nd rfl (Or.inl rfl)) pgs_nil))) (pss_one (ps_if (pt_cmpR op_isN (pe_cal C_follow (hr.mono (by omega)) rfl (pa_cons (pe_fld (pv 0) rfl) (pa_cons (pe_ix ix_tup (pv 1) (pe_int) (fun _ _ => rfl)) (pa_cons (pv 2) pa_nil)))) (pe_non) (nomark _)) (pss_one (ps_ret (pe_tup (pa_cons (pe_str) (pa_cons (pe_ix ix_tup (pv 1) (pe_int) (fun _ _ => rfl)) (pa_cons (pv 2) pa_nil)))))) pss_nil)))
    (pss_one (ps_ret (pe_non)))) pss_nil)
    (pss_cons (ps_if (pt_cmpR op_eq (pe_ix ix_tup (pv 1) (pe_int) (fun _ _ => rfl)) (pe_gstr T.gFN rfl) (nomark _)) (pss_one (ps_ret (pe_mcal (pv 0) T.clN C_fault_of (hr.mono (by omega)) (pa_cons (pe_ix ix_tup (pv 1) (pe_int) (fun _ _ => rfl)) (pa_cons (pe_ix ix_tup (pv 1) (pe_int) (fun _ _ => rfl)) pa_nil))))) pss_nil)
    (pss_one (ps_ret (pe_mcal (pv 0) T.clN C_fault_of (hr.mono (by omega)) (pa_cons (pe_ix ix_tup (pv 1) (pe_un un_neg (pe_int)) (fun _ _ => rfl)) (pa_cons (pe_tup pa_nil) pa_nil))))))), ?_⟩
  cases hL with
  | @imp a b us e ps t h1 h2 h3 =>
    have e0 : lineF ms m (.imp e ps t) = (ps.find? fun p => (follow ms t p.1).isNone).map fun p => (("name" : Str), t, p.1) := rfl
    rw [e0] at q
    have loop : ∀ D : Ends, (∀ v H', D.rt v H' = Q v H') → (∀ σ H', Ex H H' → (ps.find? fun p => (follow ms t p.1).isNone) = none → D.nx σ H') →
        tFor (iTup K (tOp (rIxT K) (tVar 1) (tC (.int 1)))) (gTup K 2 (gCons (gName 2) (gCons (gName 3) gNil)))
          (tIfS (tTest (tOp (fun x y H Q => y = .non ∧ Q (.bl (decide (x = .non))) H) (tCall (spLeads K follow) [] E0 (tCons (tFld K (tVar 0) "_modules") (tCons (tOp (rIxT K) (tVar 1) (tC (.int 2))) (tCons (tVar 2) tNil)))) (tC .non)))
            (tRet (tTup (tCons (tC (.str "name")) (tCons (tOp (rIxT K) (tVar 1) (tC (.int 2))) (tCons (tVar 2) tNil))))) tNext) D
          [some (.ref p), some (.ref a), none, none] H := by
      intro D hrt hnx
      refine ⟨_, rfl, a, _, 1, _, rfl, rfl, h1, at1, b, rfl, ⟨_, h2⟩, for_tup (K := K) (a := b) (xs := us) (fun j σ H' => Ex H H' ∧ (∃ o1 o2, σ = [some (.ref p), some (.ref a), o1, o2]) ∧ ((ps.take j).find? fun p => (follow ms t p.1).isNone) = none) ⟨Ex.refl _, ⟨_, _, rfl⟩, rfl⟩ (fun j σ H' _ z => ex_t z.1 h2) ?_ ?_⟩
      · rintro j y σ H1 hj ⟨e1, ⟨o1, o2, rfl⟩, hn⟩
        obtain ⟨pr, hpr, c, rfl, hc⟩ := h3.get hj
        obtain ⟨s1, s2⟩ := find_step _ ps j pr hpr hn
        refine ⟨c, _, rfl, ex_t e1 hc, rfl, _, _, rfl, _, _, rfl, rfl, ?_⟩
        refine ⟨_, rfl, p, CN, dx, _, _, rfl, e1 _ _ hp, T.clN, T.nN_modules, nmF_modules _ _, _, rfl, a, _, 2, _, rfl, rfl, ex_t e1 h1, at2, _, rfl, d, ms, t, pr.1, rfl, hD.ex e1, hM, fun v H2 e2 hv => ⟨rfl, _, rfl, ?_⟩⟩
        rw [hv.dec fun _ z => z.ref]
        have e12 := e1.trans e2
        cases ef : (follow ms t pr.1).isNone with
        | true =>
          refine iteT ?_
          refine ⟨_, rfl, a, _, 2, _, rfl, rfl, ex_t e12 h1, at2, _, rfl, three_le, fun z nz => ?_⟩
          rw [hrt _ _]
          refine q _ _ (e12.trans (Ex.new nz)) ?_
          rw [s1 ef]
          exact ⟨z, rfl, SqT.of upd_same⟩
        | false =>
          refine iteF ?_
          exact ⟨e12, ⟨_, _, rfl⟩, s2 ef⟩
      · rintro σ H1 ⟨e1, ⟨o1, o2, rfl⟩, hn⟩
        rw [h3.len, List.take_length] at hn
        exact hnx _ _ e1 hn
    refine ⟨_, rfl, a, _, 0, _, rfl, rfl, h1, at0, rfl, _, rfl, ?_⟩
    rw [str_dec]
    cases e with
    | false =>
      rw [decide_eq_true (show impW false = ("import" : Str) from rfl)]
      refine iteT (iteT ?_)
      exact loop _ (fun _ _ => rfl) fun σ H' e1 hn => q _ _ e1 (by rw [hn]; exact rfl)
    | true =>
      rw [decide_eq_false (by decide +kernel)]
      refine iteF ⟨_, rfl, a, _, 0, _, rfl, rfl, h1, at0, rfl, _, rfl, ?_⟩
      rw [str_dec, decide_eq_true (show impW true = ("export" : Str) from rfl)]
      refine iteT ?_
      exact loop _ (fun _ _ => rfl) fun σ H' e1 hn => q _ _ e1 (by rw [hn]; exact rfl)
  | @own a u k n t h1 h2 =>
    refine ⟨_, rfl, a, _, 0, _, rfl, rfl, h1, at0, rfl, _, rfl, ?_⟩
    rw [str_dec, decide_eq_false (by cases k <;> decide +kernel)]
    refine iteF ⟨_, rfl, a, _, 0, _, rfl, rfl, h1, at0, rfl, _, rfl, ?_⟩
    rw [str_dec, decide_eq_false (by cases k <;> decide +kernel)]
    refine iteF ⟨_, rfl, a, _, 0, _, rfl, rfl, h1, at0, rfl, _, rfl, ?_⟩
    rw [str_dec, decide_eq_false (by cases k <;> decide +kernel)]
    refine iteF ⟨_, rfl, p, dx, _, rfl, hp, nmF_no _ _ (by decide +kernel) (by decide +kernel), _, rfl, _, rfl, a, _, -1, _, rfl, rfl, h1, rfl, Nat.zero_le _, fun z nz => ?_⟩
    exact ⟨p, d, z, ms, m, [], u, t, rfl, hN.ex (Ex.new nz), hD.ex (Ex.new nz), hM, SqT.of upd_same, h2.on (Tups.ex (Ex.new nz)), hO.2, fun v H' e hv => q v H' ((Ex.new nz).trans e) hv⟩
  | @act a u k t h1 h2 =>
    refine ⟨_, rfl, a, _, 0, _, rfl, rfl, h1, at0, rfl, _, rfl, ?_⟩
    rw [str_dec, decide_eq_false (by cases k <;> decide +kernel)]
    refine iteF ⟨_, rfl, a, _, 0, _, rfl, rfl, h1, at0, rfl, _, rfl, ?_⟩
    rw [str_dec, decide_eq_false (by cases k <;> decide +kernel)]
    refine iteF ⟨_, rfl, a, _, 0, _, rfl, rfl, h1, at0, rfl, _, rfl, ?_⟩
    rw [str_dec, decide_eq_false (by cases k <;> decide +kernel)]
    refine iteF ⟨_, rfl, p, dx, _, rfl, hp, nmF_no _ _ (by decide +kernel) (by decide +kernel), _, rfl, _, rfl, a, _, -1, _, rfl, rfl, h1, rfl, Nat.zero_le _, fun z nz => ?_⟩
    exact ⟨p, d, z, ms, m, [], u, t, rfl, hN.ex (Ex.new nz), hD.ex (Ex.new nz), hM, SqT.of upd_same, h2.on (Tups.ex (Ex.new nz)), hO.2, fun v H' e hv => q v H' ((Ex.new nz).trans e) hv⟩
  | @fn a b u n ps t h1 h2 h3 =>
    refine ⟨_, rfl, a, _, 0, _, rfl, rfl, h1, at0, rfl, _, rfl, ?_⟩
    rw [str_dec, decide_eq_false (by decide +kernel)]
    refine iteF ⟨_, rfl, a, _, 0, _, rfl, rfl, h1, at0, rfl, _, rfl, ?_⟩
    rw [str_dec, decide_eq_false (by decide +kernel)]
    refine iteF ⟨_, rfl, a, _, 0, _, rfl, rfl, h1, at0, rfl, _, rfl, ?_⟩
    rw [str_dec, decide_eq_true rfl]
    refine iteT ⟨_, rfl, p, dx, _, rfl, hp, nmF_no _ _ (by decide +kernel) (by decide +kernel), _, rfl, a, _, 3, _, rfl, rfl, h1, at3, _, rfl, a, _, 2, _, rfl, rfl, h1, at2, ?_⟩
    exact ⟨p, d, b, ms, m, ps, u, t, rfl, hN, hD, hM, h2, h3, hO.2, fun v H' e hv => q v H' e hv⟩
/-- modules, order -/
def spCheck (K : Frag) : Sp := fun vs H Q _ => ∃ (d o : Addr) (ms : Mods) (order : List Str), vs = [.ref d, .ref o] ∧ ModsAt K H d ms ∧ MsOk ms ∧ SqT K H o (order.map V.str) ∧ (∀ m ∈ order, (ms m).isSome = true) ∧
  ∀ v H', Ex H H' → Opt (FaultAt K H') v (namesF ms order) → Q v H'
theorem ok_check_names (T : Txt K mg O CR CN) : Cal P w K mg base "check_names" 14 ["modules", "order"] (spCheck K) := by
  have C_Names := ok_ninit (P := P) (w := w) (base := base) T
  have C_fault_of_line := ok_nfault_of_line (P := P) (w := w) (base := base) T
  refine Cal.of T.d_check_names sc_check_names (fun _ _ _ _ _ _ us hl => match us, hl with | [_, _], _ => rfl) (fun vs H Q E h => ?_) (fun f cdv A outer s H vs Q E hr h => ?_)
  · obtain ⟨d, o, ms, order, rfl, _⟩ := h
    rfl
  obtain ⟨d, o, ms, order, rfl, hD, hM, ho, hs, q⟩ := h
  refine ⟨_, (pss_cons (ps_for PassesOwn.never rfl (pi_tup (pv 1)) (pg_name (i := 2) sc_check_names.nd rfl (Or.inl rfl)) (pss_cons (ps_set (i := 3) sc_check_names.nd rfl (Or.inl rfl) (pe_kcal C_Names (hr.mono (by omega)) rfl (pa_cons (pv 0) (pa_cons (pv 2) pa_nil))))
    (pss_one (ps_for PassesOwn.never rfl (pi_tup (pe_dget (hu_of hr) (pv 0) (pv 2) (fun _ _ => rfl))) (pg_name (i := 4) sc_check_names.nd rfl (Or.inl rfl)) (pss_cons (ps_set (i := 5) sc_check_names.nd rfl (Or.inl rfl) (pe_mcal (pv 3) T.clN C_fault_of_line (hr.mono (by omega)) (pa_cons (pv 4) pa_nil)))
    (pss_one (ps_if (pt_cmpR op_notN (pv 5) (pe_non) (nomark _)) (pss_one (ps_ret (pv 5))) pss_nil)))))))
    (pss_one (ps_ret (pe_non)))), ?_⟩
  refine ⟨_, rfl, o, rfl, ⟨_, ho⟩, for_tup (K := K) (a := o) (xs := order.map V.str) (fun i σ H' => Ex H H' ∧ (∃ o1 o2 o3 o4, σ = [some (.ref d), some (.ref o), o1, o2, o3, o4]) ∧ namesF ms (order.take i) = none) ⟨Ex.refl _, ⟨_, _, _, _, rfl⟩, rfl⟩ (fun i σ H' _ z => ex_t z.1 ho) ?_ ?_⟩
  · rintro i x σ H1 hi ⟨e1, ⟨o1, o2, o3, o4, rfl⟩, hn⟩
    rw [List.getElem?_map] at hi
    cases em : order[i]? with
    | none =>
      rw [em] at hi
      cases hi
    | some m =>
      rw [em] at hi
      obtain rfl : V.str m = x := Option.some.inj hi
      obtain ⟨s1, s2⟩ := some_step _ order i m em hn
      have hm := hs m (List.mem_of_getElem? em)
      cases el : ms m with
      | none =>
        rw [el] at hm
        cases hm
      | some ls =>
        have ell : linesOf ms m = ls := by unfold linesOf; rw [el]; rfl
        have mo := hM m ls el
        refine ⟨_, rfl, _, rfl, fun x dx nx ndx nex => ⟨x, dx, d, m, rfl, upd_same, rfl, ?_⟩⟩
        rw [upd_upd]
        have e2 : Ex H1 (upd (upd H1 dx (.own x)) x (.ins CN dx (nmF d m))) := (Ex.new ndx).mut nx
        have hx : NamesAt CN (upd (upd H1 dx (.own x)) x (.ins CN dx (nmF d m))) x d m := ⟨dx, upd_same⟩
        generalize upd (upd H1 dx (.own x)) x (.ins CN dx (nmF d m)) = H2 at *
        have e12 := e1.trans e2
        obtain ⟨kvs, hd, hT⟩ := hD.ex e12
        rcases hT m with ⟨z, _⟩ | ⟨ls', v, h1, h2, la, us, rfl, hS, hA⟩
        · rw [el] at z
          cases z
        rw [el] at h1
        cases h1
        refine ⟨_, rfl, _, rfl, d, .ref la, rfl, ?_, la, rfl, ⟨_, hS⟩, for_tup (K := K) (a := la) (xs := us) (fun j σ H' => Ex H2 H' ∧ (∃ o3 o4, σ = [some (.ref d), some (.ref o), some (.str m), some (.ref x), o3, o4]) ∧ linesF ms m (ls.take j) = none) ⟨Ex.refl _, ⟨_, _, rfl⟩, rfl⟩ (fun j σ H' _ z => ex_t z.1 hS) ?_ ?_⟩
        · rw [← h2]
          exact DGet.k (k := Sum.inr m) hd
        · rintro j y σ H3 hj ⟨e3, ⟨o3, o4, rfl⟩, hl⟩
          obtain ⟨l, hlj, hL⟩ := hA.get hj
          obtain ⟨t1, t2⟩ := some_step _ ls j l hlj hl
          obtain ⟨dy, hy⟩ := hx.ex e3
          refine ⟨_, rfl, x, dy, _, rfl, hy, nmF_no _ _ (by decide +kernel) (by decide +kernel), _, rfl, x, d, ms, m, y, l, rfl, ⟨dy, hy⟩, hD.ex (e12.trans e3), hM, hL.on (Tups.ex e3), mo.line l (List.mem_of_getElem? hlj), fun v H4 e4 hv => ?_⟩
          refine ⟨_, rfl, rfl, _, rfl, ?_⟩
          rw [hv.dec fun _ z => z.ref]
          cases ef : lineF ms m l with
          | none =>
            refine iteF ?_
            exact ⟨e3.trans e4, ⟨_, _, rfl⟩, t2 ef⟩
          | some g =>
            rw [ef] at hv
            refine iteT ?_
            refine ⟨_, rfl, q _ _ (e12.trans (e3.trans e4)) ?_⟩
            have eg : namesF ms order = some g := s1 g (by show linesF ms m (linesOf ms m) = some g; rw [ell]; exact t1 g ef)
            rw [eg]
            exact hv
        · rintro σ H3 ⟨e3, ⟨o3, o4, rfl⟩, hl⟩
          rw [hA.len, List.take_length] at hl
          exact ⟨e12.trans e3, ⟨_, _, _, _, rfl⟩, s2 (by show linesF ms m (linesOf ms m) = none; rw [ell]; exact hl)⟩
  · rintro σ H1 ⟨e1, ⟨o1, o2, o3, o4, rfl⟩, hn⟩
    rw [List.length_map, List.take_length] at hn
    refine q _ _ e1 ?_
    rw [hn]
    exact rfl
end
end K6
/-! A method of a tuple that is written out. -/
namespace K6
open PySem PySem.Spec PyProof.Rows L2 Evl
section
variable {X : Cx} {e : Expr} {es els : List Expr} {t tp : TA} {name : Str} {id : String} {r : V → List V → Hp → VK → Prop} {apos cpos tpos : Pos}
def tTupM (tp t : TA) (r : V → List V → Hp → VK → Prop) : TE := fun σ H Q => tp σ H fun ys H1 => ys.length ≤ sizeLine ∧ ∀ p, H1 p = none → t σ (upd H1 p (.tup ys)) fun xs H2 => r (.ref p) xs H2 Q
theorem pe_tupm {x1} (hp : PA X els tp) (slot : Slot "tuple" name id) (hty : typeOf (.builtin id) = pure (.type "method_descriptor")) (hm : MtR X id r) (ha : PA X (e :: es) t)
    (hbase : attributeBase (.Tuple els x1 tpos) name X.env (eval (.Tuple els x1 tpos) X.env) = eval (.Tuple els x1 tpos) X.env := by rfl)
    (few : ((backTo cpos (starEach (e :: es) X.env)).all (fun x => !x.1) && (backToKw cpos (keywordEach [] X.env)).all (fun x => x.1.isSome)
      && decide ((e :: es).length + ([] : List Keyword).length + (if ([] : List Keyword).isEmpty then 0 else 1) < 30)) = true := by rfl)
    (line : (apos.endLine == cpos.line) = true := by rfl) (star : starEach (e :: es) X.env = (false, eval e X.env) :: starEach es X.env := by rfl) (plain : (backTo cpos (starEach es X.env)).any (·.1) = false := by rfl) :
    PE X (.Call (.Attribute (.Tuple els x1 tpos) name apos) (e :: es) [] cpos) (tTupM tp t r) := by
  refine ⟨fun pins s σ H Q I h => ?_⟩
  refine wpAny_Call_method_late hbase few line rfl (wpAny_Tuple_spliced (thn (hp.run tpos pins s σ H _ I h) fun us s1 ⟨ys, H1, I1, r1, z, q⟩ => ⟨by rw [← r1.length]; exact z, ?_⟩))
  have fresh : H1 s1.heap.objs.size = none := I1.hok.fresh (Nat.le_refl _)
  have I2 := I1.laid (a := s1.heap.objs.size) (o := .tup ys) (h' := s1.heap.push { cls := .type "tuple", data := .seq us.toArray }) (t' := s1.toks) (fun b u w => Heap.get?_push_of_some _ w) (Nat.le_refl _) ⟨z, us, r1, ⟨_, Heap.get?_push_size _ rfl, rfl, _, rfl⟩⟩
  have q2 := q _ fresh
  have at_ : (s1.heap.push { cls := .type "tuple", data := .seq us.toArray }).get? s1.heap.objs.size = some { cls := .type "tuple", data := .seq us.toArray } := Heap.get?_push_size _ rfl
  refine ⟨"tuple", id, PySem.F.plainAttrs_tuple, slot, hty, ⟨_, at_, rfl⟩, fun a ea => ?_, ?_⟩
  · cases ea
    exact ⟨_, at_, rfl⟩
  have run := ha.run cpos pins _ σ _ _ I2 q2
  rw [star] at run ⊢
  refine Calls.callWith_builtin (by show (false || (backTo cpos (starEach es X.env)).any (·.1)) = false; rw [plain]; rfl) (Calls.evalArgs_plain ?_)
  exact thn run fun ws s2 ⟨vs, H2, I3, r3, q3⟩ => hm pins s2 σ H2 (.ref s1.heap.objs.size) vs _ ws Q I3 rfl r3 q3
end
end K6
/-! The law's own defs about names: exports, follow, leads, declared. -/
namespace K6
open PySem PySem.Spec PyProof.Rows L2 Evl

/-- what _law_exports tells of a good module -/
def Exps (K : Frag) (H : Hp) (kvs : List (Key × V)) (m : Str) (ls : List Line) (ls' : List Line) : Prop := ∀ n : Str, (own ls' n ≠ none → valV kvs (Sum.inr n : Key) = some .non) ∧
  (own ls' n = none → valV kvs (Sum.inr n : Key) = none ∨ (n = "nn" ∧ own ls "nn" = none ∧ ∃ c, valV kvs (Sum.inr n : Key) = some (.ref c) ∧ SqT K H c [.str m, .str "none"]))
theorem Exps.on {K : Frag} {H H' : Hp} {kvs : List (Key × V)} {m : Str} {ls ls' : List Line} (e : Tups K H H') (h : Exps K H kvs m ls ls') : Exps K H' kvs m ls ls' := fun n => by
  refine ⟨(h n).1, fun z => ?_⟩
  rcases (h n).2 z with y | ⟨h1, h2, c, h3, h4⟩
  · exact .inl y
  · exact .inr ⟨h1, h2, c, h3, e _ _ h4⟩
theorem own_prefix {ls : List Line} {n : Str} (i : Nat) (h : own ls n = none) : own (ls.take i) n = none := by
  unfold own at h ⊢
  rw [List.find?_eq_none] at h ⊢
  exact fun x hx => h x (List.mem_of_mem_take hx)
theorem own_next {ls : List Line} {i : Nat} {l : Line} (hi : ls[i]? = some l) (n : Str) : own (ls.take (i + 1)) n = match own (ls.take i) n with
    | some x => some x
    | none => if l.owns n = true then some l else none := by
  unfold own
  rw [(take_more ls i l hi).1, List.find?_append, List.find?_cons]
  cases (ls.take i).find? (Line.owns n) with
  | some x => rfl
  | none => cases l.owns n <;> rfl
theorem inr_ne {a b : Str} (h : a ≠ b) : ¬ (Sum.inr a : Key) = Sum.inr b := fun z => h (Sum.inr.inj z)

/-- a line by its word -/
theorem LineAt.both {K : Frag} {H : Hp} {v : V} {l : Line} (h : LineAt K H v l) : ∃ a k r, v = .ref a ∧ SqT K H a (.str k :: r) ∧
    ((k ∈ (["let", "keep", "fn"] : List Str) ∧ (∃ x r', r = .str x :: r' ∧ ∀ n, l.owns n = decide (x = n)) ∧ ∀ ex n, l.gives ex n = none) ∨
     (k ∉ (["let", "keep", "fn"] : List Str) ∧ (∀ n, l.owns n = false) ∧ ((∃ (e : Bool) (ps : List (Str × Str)) (m : Str) (b : Addr) (us : List V), l = .imp e ps m ∧ k = impW e ∧ r = [.ref b, .str m] ∧ SqT K H b us ∧ All2 (PairAt K H) us ps) ∨
       (k ≠ "import" ∧ k ≠ "export" ∧ ∀ ex n, l.gives ex n = none)))) := by
  cases h with
  | imp h1 h2 h3 => exact ⟨_, _, _, rfl, h1, .inr ⟨by rename_i e _ _; cases e <;> decide +kernel, fun n => rfl, .inl ⟨_, _, _, _, _, rfl, rfl, rfl, h2, h3⟩⟩⟩
  | own h1 h2 => exact ⟨_, _, _, rfl, h1, .inl ⟨by rename_i k _ _; cases k <;> decide +kernel, ⟨_, _, rfl, fun n => rfl⟩, fun _ _ => rfl⟩⟩
  | fn h1 h2 h3 => exact ⟨_, _, _, rfl, h1, .inl ⟨by decide +kernel, ⟨_, _, rfl, fun n => rfl⟩, fun _ _ => rfl⟩⟩
  | act h1 h2 => exact ⟨_, _, _, rfl, h1, .inr ⟨by rename_i k _; cases k <;> decide +kernel, fun n => rfl, .inr ⟨by rename_i k _; cases k <;> decide +kernel, by rename_i k _; cases k <;> decide +kernel, fun _ _ => rfl⟩⟩⟩
/-- a dict at D changes: the tuples stay -/
theorem Tups.dict {K : Frag} {H : Hp} {D : Addr} {kvs kvs' : List (Key × V)} (hD : H D = some (.dK kvs)) : Tups K H (upd H D (.dK kvs')) := fun b ys hb => by
  rcases hb with (hb | ⟨o, hb⟩) | hb
  · exact .inl (.inl (by rw [upd_ne (fun z => by rw [z, hD] at hb; cases hb)]; exact hb))
  · exact .inl (.inr ⟨o, by rw [upd_ne (fun z => by rw [z, hD] at hb; cases hb)]; exact hb⟩)
  · exact .inr hb

section
variable {P : Program} {w : World} {K : Frag} {mg : Str → Option Value} {base : Heap} {O CR CN : Addr}
/-- lines of a good module -/
def spExports (K : Frag) : Sp := fun vs H Q _ => ∃ (a : Addr) (us : List V) (ls : List Line) (ms : Mods) (m : Str), vs = [.ref a] ∧ SqT K H a us ∧ All2 (LineAt K H) us ls ∧ ModOk ms m ls ∧
  ∀ D kvs H', Ex H H' → H' D = some (.dK kvs) → Exps K H' kvs m ls ls → Q (.ref D) H'
theorem ok_law_exports (T : Txt K mg O CR CN) : Cal P w K mg base "_law_exports" 1 ["_law_lines"] (spExports K) := by
  refine Cal.of T.d_law_exports sc__law_exports (fun _ _ _ _ _ _ us hl => match us, hl with | [_], _ => rfl) (fun vs H Q E h => ?_) (fun f cdv A outer s H vs Q E hr h => ?_)
  · obtain ⟨a, us, ls, ms, m, rfl, _⟩ := h
    rfl
  obtain ⟨a, us, ls, ms, m, rfl, hS, hA, hM, q⟩ := h
  refine ⟨_, (pss_cons (ps_set (i := 1) sc__law_exports.nd rfl (Or.inl rfl) (pe_dnewK))
    (pss_cons (ps_for PassesOwn.never rfl (pi_tup (pv 0)) (pg_name (i := 2) sc__law_exports.nd rfl (Or.inl rfl)) (pss_cons (ps_if (pt_cmpR op_in_seq (pe_ix ix_tup (pv 2) (pe_int) (fun _ _ => rfl)) (pe_tup (pa_cons (pe_str) (pa_cons (pe_str) (pa_cons (pe_str) pa_nil)))) rfl) (pss_one (ps_dput (hu_of hr) (pv 1) (pe_ix ix_tup (pv 2) (pe_int) (fun _ _ => rfl)) (pe_non) rfl)) pss_nil)
    (pss_one (ps_if (pt_cmpR op_eq (pe_ix ix_tup (pv 2) (pe_int) (fun _ _ => rfl)) (pe_str) (nomark _)) (pss_one (ps_for PassesOwn.never rfl (pi_tup (pe_ix ix_tup (pv 2) (pe_int) (fun _ _ => rfl))) (pg_tup rfl (pgs_cons (pg_name (i := 3) sc__law_exports.nd rfl (Or.inl rfl)) (pgs_cons (pg_name (i := 4) sc__law_exports.nd rfl (Or.inl rfl)) pgs_nil))) (pss_one (ps_dput (hu_of hr) (pv 1) (pv 4) (pe_tup (pa_cons (pe_ix ix_tup (pv 2) (pe_int) (fun _ _ => rfl)) (pa_cons (pv 3) pa_nil))) rfl)))) pss_nil))))
    (pss_one (ps_ret (pv 1))))), ?_⟩
  intro D nD
  have few := hM.few
  refine ⟨_, rfl, a, rfl, ⟨_, ex_t (Ex.new nD) hS⟩, for_tup (K := K) (a := a) (xs := us) (fun i σ H' => Ex H H' ∧ i ≤ us.length ∧ ∃ kvs o1 o2 o3, σ = [some (.ref a), some (.ref D), o1, o2, o3] ∧ H' D = some (.dK kvs) ∧ kvs.length ≤ 20 * i ∧ Exps K H' kvs m ls (ls.take i))
    ⟨Ex.new nD, Nat.zero_le _, [], _, _, _, rfl, upd_same, Nat.zero_le _, fun n => ⟨fun z => absurd rfl z, fun _ => .inl rfl⟩⟩ (fun i σ H' _ z => ex_t z.1 hS) ?_ ?_⟩
  · rintro i x σ H1 hi ⟨e1, _, kvs, o1, o2, o3, rfl, hD, hlen, hE⟩
    obtain ⟨l, hl, hx⟩ := hA.get hi
    have hil : i < us.length := (List.getElem?_eq_some_iff.mp hi).1
    have hul := hA.len
    have hx1 := (hx.on (Tups.ex e1)).both
    obtain ⟨p, k, r, rfl, hp, hk⟩ := hx1
    -- line[0] in ("let", "keep", "fn")
    refine ⟨_, rfl, p, _, 0, _, rfl, rfl, hp, at0, three_le, fun t1 nt1 => ⟨t1, _, rfl, .inr (SqT.of upd_same), rfl, rfl, _, rfl, ?_⟩⟩
    show if inV (.str k) [.str "let", .str "keep", .str "fn"] = true then _ else _
    rw [show inV (.str k) [.str "let", .str "keep", .str "fn"] = decide (k ∈ (["let", "keep", "fn"] : List Str)) from inV_str k ["let", "keep", "fn"]]
    have e2 : Ex H1 (upd H1 t1 (.tup [.str "let", .str "keep", .str "fn"])) := Ex.new nt1
    have hD2 := e2 _ _ hD
    have hE2 := hE.on (Tups.ex e2)
    have hp2 := ex_t e2 hp
    generalize upd H1 t1 (.tup [.str "let", .str "keep", .str "fn"]) = H2 at *
    have e12 := e1.trans e2
    rcases hk with ⟨hk, ⟨y, r', rfl, ho⟩, _⟩ | ⟨hk, ho, hk'⟩
    · rw [decide_eq_true hk]
      refine iteT ?_
      refine ⟨_, rfl, _, rfl, p, _, 1, _, rfl, rfl, hp2, at1, D, _, rfl, DPut.k (k := Sum.inr y) hD2 (small1000 (by omega)), ?_⟩
      have e3 : Ex H (upd H2 D (.dK (putK kvs (Sum.inr y : Key) V.non))) := e12.mut nD
      have t3 : Tups K H2 (upd H2 D (.dK (putK kvs (Sum.inr y : Key) V.non))) := Tups.dict hD2
      have hp3 := t3 _ _ hp2
      refine ⟨_, rfl, p, _, 0, _, rfl, rfl, hp3, at0, rfl, _, rfl, ?_⟩
      rw [str_dec, decide_eq_false (by rintro rfl; exact absurd hk (by decide +kernel))]
      refine iteF ⟨e3, hil, _, _, _, _, rfl, upd_same, ?_, fun n => ?_⟩
      · have := length_putK kvs (Sum.inr y : Key) V.non
        omega
      rw [own_next hl, valV_put]
      have q2 := (hE2.on t3) n
      by_cases hn : n = y
      · subst hn
        rw [if_pos rfl]
        refine ⟨fun _ => rfl, fun z => ?_⟩
        cases eo : own (ls.take i) n with
        | some x => rw [eo] at z; cases z
        | none =>
          rw [eo] at z
          have z : (if l.owns n = true then some l else none) = none := z
          rw [ho, decide_eq_true rfl, if_pos rfl] at z
          cases z
      · rw [if_neg (inr_ne hn)]
        cases eo : own (ls.take i) n with
        | some x =>
          rw [eo] at q2
          exact ⟨fun _ => q2.1 (by simp), fun z => by cases z⟩
        | none =>
          rw [eo] at q2
          have hf : l.owns n = false := by rw [ho]; exact decide_eq_false fun z => hn z.symm
          refine ⟨fun z => absurd (by show (if l.owns n = true then some l else none) = none; rw [hf]; rfl) z, fun _ => q2.2 rfl⟩
    · rw [decide_eq_false hk]
      refine iteF ?_
      have hnext : ∀ n, own (ls.take (i + 1)) n = own (ls.take i) n := fun n => by
        rw [own_next hl, ho]
        cases own (ls.take i) n <;> rfl
      refine ⟨_, rfl, p, _, 0, _, rfl, rfl, hp2, at0, rfl, _, rfl, ?_⟩
      rw [str_dec]
      rcases hk' with ⟨e, ps, t, b, ws, rfl, rfl, rfl, hb, hP⟩ | ⟨k1, k2, _⟩
      · cases e with
        | false =>
          rw [decide_eq_false (by decide +kernel)]
          refine iteF ⟨e12, hil, kvs, _, _, _, rfl, hD2, by omega, fun n => ?_⟩
          rw [hnext]
          exact hE2 n
        | true =>
          rw [decide_eq_true (show impW true = ("export" : Str) from rfl)]
          refine iteT ?_
          obtain ⟨rfl, hps, hnn⟩ := hM.expo ps t (List.mem_of_getElem? hl)
          have fewp := (hM.line _ (List.mem_of_getElem? hl)).2.2
          have hwl := hP.len
          have hb2 := ex_t e2 hb
          refine ⟨_, rfl, p, _, 1, _, rfl, rfl, hp2, at1, b, rfl, ⟨_, hb2⟩, for_tup (K := K) (a := b) (xs := ws) (fun j σ H' => Ex H H' ∧ Tups K H2 H' ∧ ∃ kvs o1 o2, σ = [some (.ref a), some (.ref D), some (.ref p), o1, o2] ∧ H' D = some (.dK kvs) ∧ kvs.length ≤ 20 * i + j ∧ Exps K H' kvs t ls (ls.take i))
            ⟨e12, Tups.refl, kvs, _, _, rfl, hD2, hlen, hE2⟩ (fun j σ H' _ z => z.2.1 _ _ hb2) ?_ ?_⟩
          · rintro j y σ H3 hj ⟨e3, t3, kvs3, o1, o2, rfl, hD3, hlen3, hE3⟩
            obtain ⟨pr, hpr, hc⟩ := hP.get hj
            have hjl : j < ws.length := (List.getElem?_eq_some_iff.mp hj).1
            obtain ⟨c, rfl, hc2⟩ := (hc.on (Tups.ex e2)).on t3
            obtain ⟨x1, x2⟩ := hps pr (List.mem_of_getElem? hpr)
            refine ⟨c, _, rfl, hc2, rfl, _, _, rfl, _, _, rfl, rfl, ?_⟩
            refine ⟨_, rfl, p, _, 2, _, rfl, rfl, t3 _ _ hp2, at2, _, rfl, two_le, fun t4 nt4 => ⟨_, rfl, _, rfl, D, _, rfl, DPut.k (k := Sum.inr pr.2) ((Ex.new nt4) _ _ hD3) (small1000 (by omega)), ?_⟩⟩
            have e4 : Ex H (upd H3 t4 (.tup [.str t, .str pr.1])) := e3.trans (Ex.new nt4)
            have hD4 : (upd H3 t4 (.tup [.str t, .str pr.1])) D = some (.dK kvs3) := (Ex.new nt4) _ _ hD3
            have ht4 : SqT K (upd H3 t4 (.tup [.str t, .str pr.1])) t4 [.str t, .str pr.1] := SqT.of upd_same
            have t34 : Tups K H2 (upd H3 t4 (.tup [.str t, .str pr.1])) := t3.trans (Tups.ex (Ex.new nt4))
            have hE4 := hE3.on (Tups.ex (Ex.new (o := .tup [.str t, .str pr.1]) nt4))
            generalize upd H3 t4 (.tup [.str t, .str pr.1]) = H4 at *
            refine ⟨e4.mut nD, t34.trans (Tups.dict hD4), _, _, _, rfl, upd_same, ?_, fun n => ?_⟩
            · have := length_putK kvs3 (Sum.inr pr.2 : Key) (V.ref t4)
              omega
            have q2 := (hE4.on (Tups.dict (kvs' := putK kvs3 (Sum.inr pr.2 : Key) (V.ref t4)) hD4)) n
            rw [valV_put]
            by_cases hn : n = pr.2
            · rw [if_pos (by rw [hn])]
              have hn' : n = "nn" := hn.trans x2
              refine ⟨fun z => absurd (by rw [hn']; exact own_prefix i hnn) z, fun _ => .inr ⟨hn', hnn, t4, rfl, ?_⟩⟩
              rw [← x1]
              exact Tups.dict hD4 _ _ ht4
            · rw [if_neg (inr_ne hn)]
              exact q2
          · rintro σ H3 ⟨e3, t3, kvs3, o1, o2, rfl, hD3, hlen3, hE3⟩
            refine ⟨e3, hil, kvs3, _, _, _, rfl, hD3, by omega, fun n => ?_⟩
            rw [hnext]
            exact hE3 n
      · rw [decide_eq_false k2]
        refine iteF ⟨e12, hil, kvs, _, _, _, rfl, hD2, by omega, fun n => ?_⟩
        rw [hnext]
        exact hE2 n
  · rintro σ H1 ⟨e1, _, kvs, o1, o2, o3, rfl, hD, hlen, hE⟩
    rw [hA.len, List.take_length] at hE
    exact ⟨_, rfl, q _ _ _ e1 hD hE⟩
end
end K6
/-! _law_follow, _law_leads, _law_declared. -/
namespace K6
open PySem PySem.Spec PyProof.Rows L2 Evl

theorem linesOf_some {ms : Mods} {m : Str} {ls : List Line} (h : ms m = some ls) : linesOf ms m = ls := by unfold linesOf; rw [h]; rfl
theorem linesOf_none {ms : Mods} {m : Str} (h : ms m = none) : linesOf ms m = [] := by unfold linesOf; rw [h]; rfl

section
variable {P : Program} {w : World} {K : Frag} {mg : Str → Option Value} {base : Heap} {O CR CN : Addr}
theorem ok_law_follow (T : Txt K mg O CR CN) : Cal P w K mg base "_law_follow" 2 ["_law_modules_here", "_law_module_here", "_law_name"] (spLeads K follow) := by
  have C_law_exports := ok_law_exports (P := P) (w := w) (base := base) T
  refine Cal.of T.d_law_follow sc__law_follow (fun _ _ _ _ _ _ us hl => match us, hl with | [_, _, _], _ => rfl) (fun vs H Q E h => ?_) (fun f cdv A outer s H vs Q E hr h => ?_)
  · obtain ⟨d, ms, m, n, rfl, _⟩ := h
    rfl
  obtain ⟨d, ms, m, n, rfl, ⟨kvs, hd, hT⟩, hM, q⟩ := h
  refine ⟨_, (pss_cons (ps_for PassesOwn.never rfl (pi_range1 rfl T.zrange (pa_cons (pe_int) pa_nil)) (pg_name (i := 3) sc__law_follow.nd rfl (Or.inl rfl)) (pss_cons (ps_if (pt_cmp (pc_dnotin (hu_of hr) (pv 1) (pv 0))) (pss_one (ps_ret (pe_non))) pss_nil)
    (pss_cons (ps_set (i := 4) sc__law_follow.nd rfl (Or.inl rfl) (pe_cal C_law_exports (hr.mono (by omega)) rfl (pa_cons (pe_dget (hu_of hr) (pv 0) (pv 1) (fun _ _ => rfl)) pa_nil)))
    (pss_cons (ps_if (pt_cmp (pc_dnotin (hu_of hr) (pv 2) (pv 4))) (pss_one (ps_ret (pe_non))) pss_nil)
    (pss_cons (ps_if (pt_cmpR op_isN (pe_dget (hu_of hr) (pv 4) (pv 2) (fun _ _ => rfl)) (pe_non) (nomark _)) (pss_one (ps_ret (pe_tup (pa_cons (pv 1) (pa_cons (pv 2) pa_nil))))) pss_nil)
    (pss_one (ps_asg (pe_dget (hu_of hr) (pv 4) (pv 2) (fun _ _ => rfl)) (pg_tup rfl (pgs_cons (pg_name (i := 1) sc__law_follow.nd rfl (Or.inl rfl)) (pgs_cons (pg_name (i := 2) sc__law_follow.nd rfl (Or.inl rfl)) pgs_nil))))))))))
    (pss_one (ps_ret (pe_non)))), ?_⟩
  refine ⟨100, rfl, by decide, by decide, for_range (n := 100) (fun i σ H' => Ex H H' ∧ ∃ n1 o1 o2, σ = [some (.ref d), some (.str m), some (.str n1), o1, o2] ∧ ((i = 0 ∧ n1 = n) ∨ (i = 1 ∧ n1 = "none" ∧ own (linesOf ms m) n = none)))
    ⟨Ex.refl _, n, _, _, rfl, .inl ⟨rfl, rfl⟩⟩ ?_ ?_⟩
  · rintro i σ H1 hi ⟨e1, n1, o1, o2, rfl, hc⟩
    refine ⟨_, rfl, _, rfl, d, _, rfl, DGet.k (k := Sum.inr m) (e1 _ _ hd), _, rfl, ?_⟩
    rcases hT m with ⟨h1, h2⟩ | ⟨ls, v, h1, h2, la, us, rfl, hS, hA⟩
    · -- no such module
      rw [h2]
      refine iteT (q _ _ e1 ?_)
      unfold follow
      rw [linesOf_none h1]
      exact rfl
    rw [h2]
    refine iteF ?_
    have mo := hM m ls h1
    have el := linesOf_some h1
    rw [el] at hc
    have fol : follow ms m n = if (own ls n).isSome = true then some (m, n) else none := by unfold follow; rw [el]
    refine ⟨_, rfl, _, rfl, d, .ref la, rfl, ?_, la, us, ls, ms, m, rfl, ex_t e1 hS, hA.imp fun _ _ z => z.on (Tups.ex e1), mo, fun D kv H2 e2 hD hE => ?_⟩
    · rw [← h2]
      exact DGet.k (k := Sum.inr m) (e1 _ _ hd)
    have e12 := e1.trans e2
    refine ⟨_, rfl, _, rfl, D, _, rfl, DGet.k (k := Sum.inr n1) hD, _, rfl, ?_⟩
    cases eo : own ls n1 with
    | some l =>
      have hv : valV kv (Sum.inr n1 : Key) = some .non := (hE n1).1 (by rw [eo]; exact fun z => nomatch z)
      rw [hv]
      refine iteF ?_
      refine ⟨_, rfl, _, rfl, D, .non, rfl, by rw [← hv]; exact DGet.k (k := Sum.inr n1) hD, rfl, _, rfl, ?_⟩
      rw [decide_eq_true rfl]
      refine iteT ?_
      refine ⟨_, rfl, _, rfl, two_le, fun z nz => q _ _ (e12.trans (Ex.new nz)) ?_⟩
      rcases hc with ⟨_, rfl⟩ | ⟨_, rfl, _⟩
      · rw [fol, eo]
        exact ⟨z, rfl, SqT.of upd_same⟩
      · rw [mo.none_] at eo
        cases eo
    | none =>
      have fn : own ls n = none := by
        rcases hc with ⟨_, rfl⟩ | ⟨_, _, z⟩
        · exact eo
        · exact z
      rcases (hE n1).2 eo with hv | ⟨hnn, hno, c, hv, hcs⟩
      · rw [hv]
        refine iteT (q _ _ e12 ?_)
        rw [fol, fn]
        exact rfl
      · rw [hv]
        refine iteF ?_
        refine ⟨_, rfl, _, rfl, D, .ref c, rfl, by rw [← hv]; exact DGet.k (k := Sum.inr n1) hD, rfl, _, rfl, ?_⟩
        rw [decide_eq_false (fun z => nomatch z)]
        refine iteF ?_
        refine ⟨_, rfl, _, rfl, D, .ref c, rfl, by rw [← hv]; exact DGet.k (k := Sum.inr n1) hD, c, _, rfl, hcs, rfl, _, _, rfl, _, _, rfl, rfl, e12, "none", _, _, rfl, .inr ⟨?_, rfl, by rw [el]; exact fn⟩⟩
        rcases hc with ⟨rfl, _⟩ | ⟨_, z, _⟩
        · rfl
        · exact absurd (z.symm.trans hnn) (by decide +kernel)
  · rintro σ H1 ⟨e1, n1, o1, o2, rfl, hc⟩
    rcases hc with ⟨z, _⟩ | ⟨z, _⟩ <;> cases z
theorem ok_law_leads (T : Txt K mg O CR CN) : Cal P w K mg base "_law_leads" 3 ["_law_modules_here", "_law_module_here", "_law_name"] (spLeads K avail) := by
  have C_law_follow := ok_law_follow (P := P) (w := w) (base := base) T
  refine Cal.of T.d_law_leads sc__law_leads (fun _ _ _ _ _ _ us hl => match us, hl with | [_, _, _], _ => rfl) (fun vs H Q E h => ?_) (fun f cdv A outer s H vs Q E hr h => ?_)
  · obtain ⟨d, ms, m, n, rfl, _⟩ := h
    rfl
  obtain ⟨d, ms, m, n, rfl, ⟨kvs, hd, hT⟩, hM, q⟩ := h
  refine ⟨_, (pss_cons (ps_if (pt_cmp (pc_dnotin (hu_of hr) (pv 1) (pv 0))) (pss_one (ps_ret (pe_non))) pss_nil)
    (pss_cons (ps_for PassesOwn.never rfl (pi_tup (pe_dget (hu_of hr) (pv 0) (pv 1) (fun _ _ => rfl))) (pg_name (i := 3) sc__law_leads.nd rfl (Or.inl rfl)) (pss_cons (ps_if (PW.pt (pw_and (pt_cmpR op_in_seq (pe_ix ix_tup (pv 3) (pe_int) (fun _ _ => rfl)) (pe_tup (pa_cons (pe_str) (pa_cons (pe_str) (pa_cons (pe_str) pa_nil)))) rfl) (pw_and1 (pt_cmpR op_eq (pe_ix ix_tup (pv 3) (pe_int) (fun _ _ => rfl)) (pv 2) (nomark _))))) (pss_one (ps_ret (pe_tup (pa_cons (pv 1) (pa_cons (pv 2) pa_nil))))) pss_nil)
    (pss_one (ps_if (pt_cmpR op_eq (pe_ix ix_tup (pv 3) (pe_int) (fun _ _ => rfl)) (pe_str) (nomark _)) (pss_one (ps_for PassesOwn.never rfl (pi_tup (pe_ix ix_tup (pv 3) (pe_int) (fun _ _ => rfl))) (pg_tup rfl (pgs_cons (pg_name (i := 4) sc__law_leads.nd rfl (Or.inl rfl)) (pgs_cons (pg_name (i := 5) sc__law_leads.nd rfl (Or.inl rfl)) pgs_nil))) (pss_one (ps_if (pt_cmpR op_eq (pv 5) (pv 2) (nomark _)) (pss_one (ps_ret (pe_cal C_law_follow (hr.mono (by omega)) rfl (pa_cons (pv 0) (pa_cons (pe_ix ix_tup (pv 3) (pe_int) (fun _ _ => rfl)) (pa_cons (pv 4) pa_nil)))))) pss_nil)))) pss_nil))))
    (pss_one (ps_ret (pe_non))))), ?_⟩
  refine ⟨_, rfl, _, rfl, d, _, rfl, DGet.k (k := Sum.inr m) hd, _, rfl, ?_⟩
  rcases hT m with ⟨h1, h2⟩ | ⟨ls, v, h1, h2, la, us, rfl, hS, hA⟩
  · rw [h2]
    refine iteT (q _ _ (Ex.refl _) ?_)
    unfold avail
    rw [linesOf_none h1]
    exact rfl
  rw [h2]
  refine iteF ?_
  have mo := hM m ls h1
  have el := linesOf_some h1
  have av : avail ms m n = if (own ls n).isSome = true then some (m, n) else match other ls false n with
      | none => none
      | some b => follow ms b.1 b.2 := by unfold avail; rw [el] <;> rfl
  refine ⟨_, rfl, _, rfl, d, .ref la, rfl, by rw [← h2]; exact DGet.k (k := Sum.inr m) hd, la, rfl, ⟨_, hS⟩, for_tup (K := K) (a := la) (xs := us) (fun i σ H' => Ex H H' ∧ (∃ o1 o2 o3, σ = [some (.ref d), some (.str m), some (.str n), o1, o2, o3]) ∧ own (ls.take i) n = none ∧ other (ls.take i) false n = none)
    ⟨Ex.refl _, ⟨_, _, _, rfl⟩, rfl, rfl⟩ (fun i σ H' _ z => ex_t z.1 hS) ?_ ?_⟩
  · rintro i x σ H1 hi ⟨e1, ⟨o1, o2, o3, rfl⟩, hn, hg⟩
    obtain ⟨l, hl, hx⟩ := hA.get hi
    obtain ⟨s1, s2⟩ := own_step ls n i l hl hn
    obtain ⟨g1, g2⟩ := some_step _ ls i l hl hg
    obtain ⟨p, k, r, rfl, hp, hk⟩ := (hx.on (Tups.ex e1)).both
    refine ⟨_, rfl, p, _, 0, _, rfl, rfl, hp, at0, three_le, fun t1 nt1 => ⟨t1, _, rfl, .inr (SqT.of upd_same), rfl, rfl, _, rfl, ?_⟩⟩
    show if inV (.str k) [.str "let", .str "keep", .str "fn"] = true then _ else _
    rw [show inV (.str k) [.str "let", .str "keep", .str "fn"] = decide (k ∈ (["let", "keep", "fn"] : List Str)) from inV_str k ["let", "keep", "fn"]]
    have e2 : Ex H1 (upd H1 t1 (.tup [.str "let", .str "keep", .str "fn"])) := Ex.new nt1
    have hp2 := ex_t e2 hp
    generalize upd H1 t1 (.tup [.str "let", .str "keep", .str "fn"]) = H2 at *
    have e12 := e1.trans e2
    rcases hk with ⟨hk, ⟨y, r', rfl, ho⟩, hgn⟩ | ⟨hk, ho, hk'⟩
    · rw [decide_eq_true hk]
      refine iteT ?_
      refine ⟨_, rfl, p, _, 1, _, rfl, rfl, hp2, at1, _, rfl, rfl, _, rfl, ?_⟩
      rw [str_dec]
      refine ite2 (fun c => ?_) (fun c => ?_)
      · refine ⟨_, rfl, _, rfl, two_le, fun z nz => q _ _ (e12.trans (Ex.new nz)) ?_⟩
        rw [av, s1 (by rw [ho]; exact c)]
        exact ⟨z, rfl, SqT.of upd_same⟩
      · refine ⟨_, rfl, p, _, 0, _, rfl, rfl, hp2, at0, rfl, _, rfl, ?_⟩
        rw [str_dec, decide_eq_false (by rintro rfl; exact absurd hk (by decide +kernel))]
        exact iteF ⟨e12, ⟨_, _, _, rfl⟩, s2 (by rw [ho]; exact Bool.eq_false_iff.mpr c), g2 (hgn _ _)⟩
    · rw [decide_eq_false hk]
      refine iteF ?_
      refine ⟨_, rfl, p, _, 0, _, rfl, rfl, hp2, at0, rfl, _, rfl, ?_⟩
      rw [str_dec]
      rcases hk' with ⟨e, ps, t, b, ws, rfl, rfl, rfl, hb, hP⟩ | ⟨k1, k2, hgn⟩
      · cases e with
        | true =>
          rw [decide_eq_false (by decide +kernel)]
          exact iteF ⟨e12, ⟨_, _, _, rfl⟩, s2 (ho n), g2 rfl⟩
        | false =>
          rw [decide_eq_true (show impW false = ("import" : Str) from rfl)]
          refine iteT ?_
          have hb2 := ex_t e2 hb
          refine ⟨_, rfl, p, _, 1, _, rfl, rfl, hp2, at1, b, rfl, ⟨_, hb2⟩, for_tup (K := K) (a := b) (xs := ws) (fun j σ H' => H' = H2 ∧ (∃ o1 o2, σ = [some (.ref d), some (.str m), some (.str n), some (.ref p), o1, o2]) ∧ (ps.take j).find? (fun p => decide (p.2 = n)) = none)
            ⟨rfl, ⟨_, _, rfl⟩, rfl⟩ (fun j σ H' _ z => by rw [z.1]; exact hb2) ?_ ?_⟩
          · rintro j y σ H3 hj ⟨rfl, ⟨o1, o2, rfl⟩, hm⟩
            obtain ⟨pr, hpr, hc⟩ := hP.get hj
            obtain ⟨t1, t2⟩ := find_step _ ps j pr hpr hm
            obtain ⟨c, rfl, hc2⟩ := hc.on (Tups.ex e2)
            refine ⟨c, _, rfl, hc2, rfl, _, _, rfl, _, _, rfl, rfl, ?_⟩
            refine ⟨_, rfl, _, rfl, rfl, _, rfl, ?_⟩
            rw [str_dec]
            refine ite2 (fun c => ?_) (fun c => ?_)
            · refine ⟨_, rfl, _, rfl, p, _, 2, _, rfl, rfl, hp2, at2, _, rfl, d, ms, t, pr.1, rfl, ModsAt.ex e12 ⟨kvs, hd, hT⟩, hM, fun v H4 e4 hv => q _ _ (e12.trans e4) ?_⟩
              have gg : other ls false n = some (t, pr.1) := g1 _ (by
                show (pairIn ps n).map (fun z => (t, z)) = some (t, pr.1)
                unfold pairIn
                rw [t1 c]
                rfl)
              rw [av, (other_false mo gg).1, gg]
              exact hv
            · exact ⟨rfl, ⟨_, _, rfl⟩, t2 (Bool.eq_false_iff.mpr c)⟩
          · rintro σ H3 ⟨rfl, ⟨o1, o2, rfl⟩, hm⟩
            rw [hP.len, List.take_length] at hm
            refine ⟨e12, ⟨_, _, _, rfl⟩, s2 (ho n), g2 ?_⟩
            show (pairIn ps n).map (fun z => (t, z)) = none
            unfold pairIn
            rw [hm]
            rfl
      · rw [decide_eq_false k1]
        exact iteF ⟨e12, ⟨_, _, _, rfl⟩, s2 (ho n), g2 (hgn _ _)⟩
  · rintro σ H1 ⟨e1, ⟨o1, o2, o3, rfl⟩, hn, hg⟩
    rw [hA.len, List.take_length] at hn hg
    refine q _ _ e1 ?_
    rw [av, hn, hg]
    exact rfl
/-- modules, binding: its declaration; the heap may grow -/
def spDeclX (K : Frag) : Sp := fun vs H Q _ => ∃ (d c : Addr) (ms : Mods) (b : Str × Str), vs = [.ref d, .ref c] ∧ ModsAt K H d ms ∧ SqT K H c [.str b.1, .str b.2] ∧ (ms b.1).isSome = true ∧ ∀ v H', Ex H H' → Opt (LineAt K H') v (own (linesOf ms b.1) b.2) → Q v H'
theorem ok_law_declared (T : Txt K mg O CR CN) : Cal P w K mg base "_law_declared" 1 ["_law_modules_here", "_law_binding"] (spDeclX K) := by
  refine Cal.of T.d_law_declared sc__law_declared (fun _ _ _ _ _ _ us hl => match us, hl with | [_, _], _ => rfl) (fun vs H Q E h => ?_) (fun f cdv A outer s H vs Q E hr h => ?_)
  · obtain ⟨d, c, ms, b, rfl, _⟩ := h
    rfl
  obtain ⟨d, c, ms, b, rfl, ⟨kvs, hd, hT⟩, hc, hs, q⟩ := h
  refine ⟨_, (pss_cons (ps_for PassesOwn.never rfl (pi_tup (pe_dget (hu_of hr) (pv 0) (pe_ix ix_tup (pv 1) (pe_int) (fun _ _ => rfl)) (fun _ _ => rfl))) (pg_name (i := 2) sc__law_declared.nd rfl (Or.inl rfl)) (pss_one (ps_if (PW.pt (pw_and (pt_cmpR op_in_seq (pe_ix ix_tup (pv 2) (pe_int) (fun _ _ => rfl)) (pe_tup (pa_cons (pe_str) (pa_cons (pe_str) (pa_cons (pe_str) pa_nil)))) rfl) (pw_and1 (pt_cmpR op_eq (pe_ix ix_tup (pv 2) (pe_int) (fun _ _ => rfl)) (pe_ix ix_tup (pv 1) (pe_int) (fun _ _ => rfl)) (nomark _))))) (pss_one (ps_ret (pv 2))) pss_nil)))
    (pss_one (ps_ret (pe_non)))), ?_⟩
  rcases hT b.1 with ⟨z, _⟩ | ⟨ls, v, h1, h2, la, us, rfl, hS, hA⟩
  · rw [z] at hs
    cases hs
  rw [linesOf_some h1] at q
  refine ⟨_, rfl, _, rfl, c, _, 0, _, rfl, rfl, hc, at0, d, .ref la, rfl, by rw [← h2]; exact DGet.k (k := Sum.inr b.1) hd, la, rfl, ⟨_, hS⟩, for_tup (K := K) (a := la) (xs := us) (fun i σ H' => Ex H H' ∧ (∃ o1, σ = [some (.ref d), some (.ref c), o1]) ∧ own (ls.take i) b.2 = none)
    ⟨Ex.refl _, ⟨_, rfl⟩, rfl⟩ (fun i σ H' _ z => ex_t z.1 hS) ?_ ?_⟩
  · rintro i x σ H1 hi ⟨e1, ⟨o1, rfl⟩, hn⟩
    obtain ⟨l, hl, hx⟩ := hA.get hi
    obtain ⟨s1, s2⟩ := own_step ls b.2 i l hl hn
    have hx1 := hx.on (Tups.ex e1)
    obtain ⟨p, k, r, rfl, hp, hk⟩ := hx1.ownC
    refine ⟨_, rfl, p, _, 0, _, rfl, rfl, hp, at0, three_le, fun t1 nt1 => ⟨t1, _, rfl, .inr (SqT.of upd_same), rfl, rfl, _, rfl, ?_⟩⟩
    show if inV (.str k) [.str "let", .str "keep", .str "fn"] = true then _ else _
    rw [show inV (.str k) [.str "let", .str "keep", .str "fn"] = decide (k ∈ (["let", "keep", "fn"] : List Str)) from inV_str k ["let", "keep", "fn"]]
    have e2 : Ex H1 (upd H1 t1 (.tup [.str "let", .str "keep", .str "fn"])) := Ex.new nt1
    have hp2 := ex_t e2 hp
    have hx2 := hx1.on (Tups.ex e2)
    generalize upd H1 t1 (.tup [.str "let", .str "keep", .str "fn"]) = H2 at *
    have e12 := e1.trans e2
    rcases hk with ⟨hk, y, r', rfl, ho⟩ | ⟨hk, ho⟩
    · rw [decide_eq_true hk]
      refine iteT ?_
      refine ⟨_, rfl, p, _, 1, _, rfl, rfl, hp2, at1, _, rfl, c, _, 1, _, rfl, rfl, ex_t e12 hc, at1, rfl, _, rfl, ?_⟩
      rw [str_dec]
      refine ite2 (fun c => ?_) (fun c => ?_)
      · refine ⟨_, rfl, q _ _ e12 ?_⟩
        rw [s1 (by rw [ho]; exact c)]
        exact hx2
      · exact ⟨e12, ⟨_, rfl⟩, s2 (by rw [ho]; exact Bool.eq_false_iff.mpr c)⟩
    · rw [decide_eq_false hk]
      exact iteF ⟨e12, ⟨_, rfl⟩, s2 (ho _)⟩
  · rintro σ H1 ⟨e1, ⟨o1, rfl⟩, hn⟩
    rw [hA.len, List.take_length] at hn
    refine q _ _ e1 ?_
    rw [hn]
    exact rfl
end
end K6
/-! _law_use_fault, _law_tree_fault. -/
namespace K6
open PySem PySem.Spec PyProof.Rows L2 Evl

section
variable {P : Program} {w : World} {K : Frag} {mg : Str → Option Value} {base : Heap} {O CR CN : Addr}
/-- what a name's use is, by the tree's word -/
def UseAt (K : Frag) (H : Hp) (ms : Mods) (m : Str) (ps : List Str) (k n : Str) (r : List V) (g : Option Fault) : Prop :=
  (k = "name" ∧ g = useF ms m ps false n) ∨ (k = "set" ∧ g = useF ms m ps true n) ∨ (k = "call" ∧ ∃ b us, r = [.ref b] ∧ SqT K H b us ∧ g = callF ms m ps n us.length)
def spUse (K : Frag) : Sp := fun vs H Q _ => ∃ (d ta a : Addr) (ms : Mods) (m k n : Str) (r : List V) (ps : List Str) (g : Option Fault), vs = [.ref d, .str m, .ref ta, .ref a] ∧ ModsAt K H d ms ∧ MsOk ms ∧ SqT K H ta (.str k :: .str n :: r) ∧ SqT K H a (ps.map V.str) ∧ UseAt K H ms m ps k n r g ∧
  ∀ v H', Ex H H' → Opt (FaultAt K H') v g → Q v H'
theorem ok_law_use_fault (T : Txt K mg O CR CN) : Cal P w K mg base "_law_use_fault" 4 ["_law_modules_here", "_law_module_here", "_law_tree_here", "_law_inner"] (spUse K) := by
  have C_law_leads := ok_law_leads (P := P) (w := w) (base := base) T
  have C_law_declared := ok_law_declared (P := P) (w := w) (base := base) T
  refine Cal.of T.d_law_use_fault sc__law_use_fault (fun _ _ _ _ _ _ us hl => match us, hl with | [_, _, _, _], _ => rfl) (fun vs H Q E h => ?_) (fun f cdv A outer s H vs Q E hr h => ?_)
  · obtain ⟨d, ta, a, ms, m, k, n, r, ps, g, rfl, _⟩ := h
    rfl
  obtain ⟨d, ta, a, ms, m, k, n, r, ps, g, rfl, hD, hM, hta, ha, hU, q⟩ := h
  refine ⟨_, (pss_cons (ps_set (i := 4) sc__law_use_fault.nd rfl (Or.inl rfl) (pe_ix ix_tup (pv 2) (pe_int) (fun _ _ => rfl)))
    (pss_cons (ps_set (i := 5) sc__law_use_fault.nd rfl (Or.inl rfl) (pe_ix ix_tup (pv 2) (pe_int) (fun _ _ => rfl)))
    (pss_cons (ps_if (pt_cmpR op_in_seq (pv 5) (pv 3) rfl) (pss_one (ps_ret (pe_ix ix_list (pe_lst (pa_cons (pe_non) (pa_cons (pe_tup (pa_cons (pe_str) (pa_cons (pv 1) (pa_cons (pv 5) pa_nil)))) (pa_cons (pe_tup (pa_cons (pe_str) (pa_cons (pv 1) (pa_cons (pv 5) pa_nil)))) pa_nil)))) (pe_tupm (pa_cons (pe_str) (pa_cons (pe_str) (pa_cons (pe_str) pa_nil))) PySem.F.slot_tuple_index PySem.F.type_tuple_index mt_tup_index (pa_cons (pv 4) pa_nil)) (fun _ _ => rfl)))) pss_nil)
    (pss_cons (ps_set (i := 6) sc__law_use_fault.nd rfl (Or.inl rfl) (pe_cal C_law_leads (hr.mono (by omega)) rfl (pa_cons (pv 0) (pa_cons (pv 1) (pa_cons (pv 5) pa_nil)))))
    (pss_cons (ps_if (pt_cmpR op_isN (pv 6) (pe_non) (nomark _)) (pss_one (ps_ret (pe_tup (pa_cons (pe_str) (pa_cons (pv 1) (pa_cons (pv 5) pa_nil)))))) pss_nil)
    (pss_cons (ps_set (i := 7) sc__law_use_fault.nd rfl (Or.inl rfl) (pe_cal C_law_declared (hr.mono (by omega)) rfl (pa_cons (pv 0) (pa_cons (pv 6) pa_nil))))
    (pss_cons (ps_if (pt_cmpR op_eq (pv 4) (pe_str) (nomark _)) (pss_cons (ps_if (pt_cmpR op_ne (pe_ix ix_tup (pv 7) (pe_int) (fun _ _ => rfl)) (pe_str) (nomark _)) (pss_one (ps_ret (pe_tup (pa_cons (pe_str) (pa_cons (pv 1) (pa_cons (pv 5) pa_nil)))))) pss_nil)
    (pss_cons (ps_if (pt_cmpR op_ne (pe_callB call_len_seq rfl T.zlen PySem.boot_len (pa_cons (pe_ix ix_tup (pv 7) (pe_int) (fun _ _ => rfl)) pa_nil)) (pe_callB call_len_seq rfl T.zlen PySem.boot_len (pa_cons (pe_ix ix_tup (pv 2) (pe_int) (fun _ _ => rfl)) pa_nil)) (nomark _)) (pss_one (ps_ret (pe_tup (pa_cons (pe_str) (pa_cons (pv 1) (pa_cons (pv 5) pa_nil)))))) pss_nil)
    (pss_one (ps_ret (pe_non))))) pss_nil)
    (pss_cons (ps_if (pt_cmpR op_eq (pe_ix ix_tup (pv 7) (pe_int) (fun _ _ => rfl)) (pe_str) (nomark _)) (pss_one (ps_ret (pe_tup (pa_cons (pe_str) (pa_cons (pv 1) (pa_cons (pv 5) pa_nil)))))) pss_nil)
    (pss_one (ps_ret (pe_non))))))))))), ?_⟩
  refine ⟨_, rfl, ta, _, 0, _, rfl, rfl, hta, at0, _, rfl, ta, _, 1, _, rfl, rfl, hta, at1, ?_⟩
  refine ⟨_, rfl, _, rfl, a, _, rfl, .inr ha, rfl, K6.flat_strs ps, _, strs_in n ps, ?_⟩
  by_cases hi : n ∈ ps
  · rw [decide_eq_true hi]
    refine iteT ?_
    refine ⟨_, rfl, _, rfl, three_le, fun p1 n1 => ⟨_, rfl, _, rfl, three_le, fun p2 n2 => ⟨three_le, fun l nl => ⟨three_le, fun t nt => ⟨_, rfl, ?_⟩⟩⟩⟩⟩
    have h1 : (upd H p1 (.tup [.str "variable", .str m, .str n])) p1 = _ := upd_same
    generalize hH1 : upd H p1 (.tup [.str "variable", .str m, .str n]) = H1 at *
    have e1 : Ex H H1 := by rw [← hH1]; exact Ex.new n1
    have h2 : (upd H1 p2 (.tup [.str "function", .str m, .str n])) p2 = _ := upd_same
    generalize hH2 : upd H1 p2 (.tup [.str "function", .str m, .str n]) = H2 at *
    have e2 : Ex H1 H2 := by rw [← hH2]; exact Ex.new n2
    have h3 : (upd H2 l (.lst [.non, .ref p1, .ref p2])) l = _ := upd_same
    generalize hH3 : upd H2 l (.lst [.non, .ref p1, .ref p2]) = H3 at *
    have e3 : Ex H2 H3 := by rw [← hH3]; exact Ex.new nl
    have e4 : Ex H3 (upd H3 t (.tup [.str "name", .str "set", .str "call"])) := Ex.new nt
    have e : Ex H (upd H3 t (.tup [.str "name", .str "set", .str "call"])) := e1.trans (e2.trans (e3.trans e4))
    have b1 := e4 _ _ (e3 _ _ (e2 _ _ h1))
    have b2 := e4 _ _ (e3 _ _ h2)
    have b3 := e4 _ _ h3
    have b4 : SqT K (upd H3 t (.tup [.str "name", .str "set", .str "call"])) t (([("name" : Str), "set", "call"] : List Str).map V.str) := SqT.of upd_same
    generalize upd H3 t (.tup [.str "name", .str "set", .str "call"]) = H4 at *
    rcases hU with ⟨rfl, rfl⟩ | ⟨rfl, rfl⟩ | ⟨rfl, b, us, rfl, hb, rfl⟩
    · refine ⟨t, _, _, 0, rfl, rfl, b4, rfl, fun j hj => by omega, l, _, 0, _, rfl, rfl, SqL.of b3, at0, q _ _ e ?_⟩
      unfold useF
      rw [if_pos hi]
      exact rfl
    · refine ⟨t, _, _, 1, rfl, rfl, b4, rfl, fun j hj => ?_, l, _, 1, _, rfl, rfl, SqL.of b3, at1, q _ _ e ?_⟩
      · obtain rfl : j = 0 := by omega
        exact fun z => absurd (Option.some.inj z) (by decide +kernel)
      · unfold useF
        rw [if_pos hi]
        exact ⟨p1, rfl, SqT.of b1⟩
    · refine ⟨t, _, _, 2, rfl, rfl, b4, rfl, fun j hj => ?_, l, _, 2, _, rfl, rfl, SqL.of b3, at2, q _ _ e ?_⟩
      · have : j = 0 ∨ j = 1 := by omega
        rcases this with rfl | rfl <;> exact fun z => absurd (Option.some.inj z) (by decide +kernel)
      · unfold callF
        rw [if_pos hi]
        exact ⟨p2, rfl, SqT.of b2⟩
  rw [decide_eq_false hi]
  refine iteF ?_
  refine ⟨_, rfl, _, rfl, _, rfl, d, ms, m, n, rfl, hD, hM, fun v H1 e1 hv => ?_⟩
  refine ⟨_, rfl, rfl, _, rfl, ?_⟩
  rw [hv.dec fun _ z => z.ref]
  cases ea : avail ms m n with
  | none =>
    refine iteT ?_
    refine ⟨_, rfl, _, rfl, three_le, fun z nz => q _ _ (e1.trans (Ex.new nz)) ?_⟩
    have eg : g = some (("name" : Str), m, n) := by
      rcases hU with ⟨_, rfl⟩ | ⟨_, rfl⟩ | ⟨_, b, us, _, _, rfl⟩
      · unfold useF; rw [if_neg hi, ea]
      · unfold useF; rw [if_neg hi, ea]
      · unfold callF; rw [if_neg hi, ea]
    rw [eg]
    exact ⟨z, rfl, SqT.of upd_same⟩
  | some b =>
    rw [ea] at hv
    refine iteF ?_
    obtain ⟨c, rfl, hc⟩ := hv
    have hs := avail_own ea
    refine ⟨_, rfl, _, rfl, d, c, ms, b, rfl, hD.ex e1, hc, ms_some hs, fun v H2 e2 hv => ?_⟩
    have e12 := e1.trans e2
    cases eo : own (linesOf ms b.1) b.2 with
    | none =>
      rw [eo] at hs
      cases hs
    | some l =>
      rw [eo] at hv
      obtain ⟨la, kl, rl, rfl, hla, hk⟩ := (show LineAt K H2 v l from hv).fnC (own_owns eo)
      refine ⟨_, rfl, rfl, _, rfl, ?_⟩
      rw [str_dec]
      rcases hU with ⟨rfl, rfl⟩ | ⟨rfl, rfl⟩ | ⟨rfl, bt, us, rfl, hbt, rfl⟩
      · rw [decide_eq_false (by decide +kernel)]
        refine iteF ⟨_, rfl, la, _, 0, _, rfl, rfl, hla, at0, rfl, _, rfl, ?_⟩
        rw [str_dec]
        unfold useF at q
        rw [if_neg hi, ea] at q
        rcases hk with ⟨qs, t, bq, u, rfl, rfl, rfl, hb⟩ | ⟨k', t, rfl, hk⟩
        · rw [decide_eq_true rfl]
          refine iteT ⟨_, rfl, _, rfl, three_le, fun z nz => q _ _ (e12.trans (Ex.new nz)) ?_⟩
          simp only [eo]
          exact ⟨z, rfl, SqT.of upd_same⟩
        · rw [decide_eq_false hk]
          refine iteF (q _ _ e12 ?_)
          simp only [eo]
          exact rfl
      · rw [decide_eq_false (by decide +kernel)]
        refine iteF ⟨_, rfl, la, _, 0, _, rfl, rfl, hla, at0, rfl, _, rfl, ?_⟩
        rw [str_dec]
        unfold useF at q
        rw [if_neg hi, ea] at q
        rcases hk with ⟨qs, t, bq, u, rfl, rfl, rfl, hb⟩ | ⟨k', t, rfl, hk⟩
        · rw [decide_eq_true rfl]
          refine iteT ⟨_, rfl, _, rfl, three_le, fun z nz => q _ _ (e12.trans (Ex.new nz)) ?_⟩
          simp only [eo]
          exact ⟨z, rfl, SqT.of upd_same⟩
        · rw [decide_eq_false hk]
          refine iteF (q _ _ e12 ?_)
          simp only [eo]
          exact rfl
      · rw [decide_eq_true rfl]
        refine iteT ⟨_, rfl, la, _, 0, _, rfl, rfl, hla, at0, rfl, _, rfl, ?_⟩
        rw [str_dec]
        unfold callF at q
        rw [if_neg hi, ea] at q
        rcases hk with ⟨qs, t, bq, u, rfl, rfl, rfl, hb⟩ | ⟨k', t, rfl, hk⟩
        · refine iteNS rfl ?_
          refine ⟨_, rfl, la, _, 2, _, rfl, rfl, hla, at2, bq, _, rfl, .inr hb, _, rfl, ta, _, 2, _, rfl, rfl, ex_t e12 hta, at2, bt, _, rfl, .inr (ex_t e12 hbt), rfl, _, rfl, ?_⟩
          rw [dec_int, List.length_map]
          by_cases hl : qs.length = us.length
          · rw [show (((qs.length : Nat) : Int) == ((us.length : Nat) : Int)) = true from beq_iff_eq.mpr (congrArg _ hl)]
            refine iteF (q _ _ e12 ?_)
            simp only [eo]
            rw [if_pos hl]
            exact rfl
          · rw [show (((qs.length : Nat) : Int) == ((us.length : Nat) : Int)) = false from beq_eq_false_iff_ne.mpr fun z => hl (Int.ofNat_inj.mp z)]
            refine iteT ⟨_, rfl, _, rfl, three_le, fun z nz => q _ _ (e12.trans (Ex.new nz)) ?_⟩
            simp only [eo]
            rw [if_neg hl]
            exact ⟨z, rfl, SqT.of upd_same⟩
        · rw [decide_eq_false hk]
          refine iteT ⟨_, rfl, _, rfl, three_le, fun z nz => q _ _ (e12.trans (Ex.new nz)) ?_⟩
          simp only [eo]
          exact ⟨z, rfl, SqT.of upd_same⟩
end
end K6
/-! _law_tree_fault, _law_line_fault, _law_names_fault. -/
namespace K6
open PySem PySem.Spec PyProof.Rows L2 Evl

section
variable {P : Program} {w : World} {K : Frag} {mg : Str → Option Value} {base : Heap} {O CR CN : Addr}
def spLTree (K : Frag) (k : Nat) : Sp := fun vs H Q _ => ∃ (d a : Addr) (ms : Mods) (m : Str) (ps : List Str) (v : V) (t : Tree), vs = [.ref d, .str m, v, .ref a] ∧ ModsAt K H d ms ∧ MsOk ms ∧ SqT K H a (ps.map V.str) ∧ TreeAt K H v t ∧ t.depth ≤ k ∧
  ∀ v H', Ex H H' → Opt (FaultAt K H') v (treeF ms m ps t) → Q v H'
theorem ok_law_tree_fault (T : Txt K mg O CR CN) : ∀ k : Nat, Cal P w K mg base "_law_tree_fault" (k + 5) ["_law_modules_here", "_law_module_here", "_law_tree_here", "_law_inner"] (spLTree K k)
  | 0 => by
    refine (Cal.of T.d_law_tree_fault sc__law_tree_fault (fun _ _ _ _ _ _ us hl => match us, hl with | [_, _, _, _], _ => rfl) (fun vs H Q E h => ?_) (fun f cdv A outer s H vs Q E hr h => ?_) : Cal P w K mg base "_law_tree_fault" 1 _ _).mono (by decide)
    · obtain ⟨d, a, ms, m, ps, v, t, rfl, _⟩ := h
      rfl
    · obtain ⟨d, a, ms, m, ps, v, t, rfl, _, _, _, _, z, _⟩ := h
      have := depth_pos t
      omega
  | k + 1 => by
    have C_law_use_fault := ok_law_use_fault (P := P) (w := w) (base := base) T
    have C_law_tree_fault := ok_law_tree_fault T k
    refine Cal.of (k := k + 5) T.d_law_tree_fault sc__law_tree_fault (fun _ _ _ _ _ _ us hl => match us, hl with | [_, _, _, _], _ => rfl) (fun vs H Q E h => ?_) (fun f cdv A outer s H vs Q E hr h => ?_)
    · obtain ⟨d, a, ms, m, ps, v, t, rfl, _⟩ := h
      rfl
    obtain ⟨d, a, ms, m, ps, v, t, rfl, hD, hM, ha, hT, hk, q⟩ := h
    obtain ⟨ta, kw, r, rfl, hta, hc⟩ := hT.head
    refine ⟨_, (pss_cons (ps_set (i := 4) sc__law_tree_fault.nd rfl (Or.inl rfl) (pe_ix ix_tup (pv 2) (pe_int) (fun _ _ => rfl)))
    (pss_cons (ps_if (pt_cmpR op_in_seq (pv 4) (pe_tup (pa_cons (pe_str) (pa_cons (pe_str) pa_nil))) rfl) (pss_one (ps_ret (pe_non))) pss_nil)
    (pss_cons (ps_if (pt_cmpR op_in_seq (pv 4) (pe_tup (pa_cons (pe_str) (pa_cons (pe_str) (pa_cons (pe_str) pa_nil)))) rfl) (pss_cons (ps_set (i := 7) sc__law_tree_fault.nd rfl (Or.inl rfl) (pe_cal C_law_use_fault (hr.mono (by omega)) rfl (pa_cons (pv 0) (pa_cons (pv 1) (pa_cons (pv 2) (pa_cons (pv 3) pa_nil))))))
    (pss_one (ps_if (PW.pt (pw_or (pt_cmpR op_notN (pv 7) (pe_non) (nomark _)) (pw_or1 (pt_cmpR op_eq (pv 4) (pe_str) (nomark _))))) (pss_one (ps_ret (pv 7))) pss_nil))) pss_nil)
    (pss_cons (ps_set (i := 5) sc__law_tree_fault.nd rfl (Or.inl rfl) (pe_callTy call_list_of rfl T.zlist (by decide +kernel) (pa_cons (pe_slice sl_tupA (pv 2) (po_some (pe_int)) po_none) pa_nil)))
    (pss_cons (ps_if (pt_cmpR op_eq (pv 4) (pe_str) (nomark _)) (pss_one (ps_set (i := 5) sc__law_tree_fault.nd rfl (Or.inl rfl) (pe_lst (pa_cons (pe_ix ix_tup (pv 2) (pe_int) (fun _ _ => rfl)) pa_nil)))) pss_nil)
    (pss_cons (ps_if (pt_cmpR op_eq (pv 4) (pe_str) (nomark _)) (pss_one (ps_set (i := 5) sc__law_tree_fault.nd rfl (Or.inl rfl) (pe_callTy call_list_of rfl T.zlist (by decide +kernel) (pa_cons (pe_ix ix_tup (pv 2) (pe_int) (fun _ _ => rfl)) pa_nil)))) pss_nil)
    (pss_cons (ps_for PassesOwn.never rfl (pi_list (pv 5)) (pg_name (i := 6) sc__law_tree_fault.nd rfl (Or.inl rfl)) (pss_cons (ps_set (i := 7) sc__law_tree_fault.nd rfl (Or.inl rfl) (pe_cal C_law_tree_fault (hr.mono (by omega)) rfl (pa_cons (pv 0) (pa_cons (pv 1) (pa_cons (pv 6) (pa_cons (pv 3) pa_nil))))))
    (pss_one (ps_if (pt_cmpR op_notN (pv 7) (pe_non) (nomark _)) (pss_one (ps_ret (pv 7))) pss_nil))))
    (pss_one (ps_ret (pe_non)))))))))), ?_⟩
    have loop : ∀ (H2 : Hp) (l : Addr) (us : List V) (ts : List Tree) (o7 : Option V) (D : Ends), Ex H H2 → H2 l = some (.lst us) → All2 (TreeAt K H2) us ts → (∀ t ∈ ts, t.depth ≤ k) →
        (∀ v H' f, Ex H H' → Opt (FaultAt K H') v (some f) → treesF ms m ps ts = some f → D.rt v H') → (∀ σ H', Ex H H' → treesF ms m ps ts = none → D.nx σ H') →
        tFor (iList K (tVar 5)) (gName 6) (tSeq (tAsg (tCall (spLTree K k) [] E0 (tCons (tVar 0) (tCons (tVar 1) (tCons (tVar 6) (tCons (tVar 3) tNil))))) (gName 7))
          (tIfS (tTest (tOp (fun x y H Q => y = .non ∧ Q (.bl (!decide (x = .non))) H) (tVar 7) (tC .non))) (tRet (tVar 7)) tNext)) D
          [some (.ref d), some (.str m), some (.ref ta), some (.ref a), some (.str kw), some (.ref l), none, o7] H2 := by
      intro H2 l us ts o7 D e2 hl hU hd hrt hnx
      refine ⟨_, rfl, l, rfl, ⟨_, SqL.of hl⟩, for_list (K := K) (a := l) (xs := us) (fun i σ H' => Ex H2 H' ∧ (∃ o6 o7, σ = [some (.ref d), some (.str m), some (.ref ta), some (.ref a), some (.str kw), some (.ref l), o6, o7]) ∧ (ts.take i).findSome? (treeF ms m ps) = none) ⟨Ex.refl _, ⟨_, _, rfl⟩, rfl⟩ (fun i σ H' _ z => SqL.of (z.1 _ _ hl)) ?_ ?_⟩
      · rintro i x σ H3 hi ⟨e3, ⟨o6, o7, rfl⟩, hn⟩
        obtain ⟨t', ht', hx⟩ := hU.get hi
        obtain ⟨s1, s2⟩ := some_step _ ts i t' ht' hn
        have e23 := e2.trans e3
        refine ⟨_, rfl, _, rfl, _, rfl, _, rfl, d, a, ms, m, ps, x, t', rfl, hD.ex e23, hM, ex_t e23 ha, hx.on (Tups.ex e3), hd t' (List.mem_of_getElem? ht'), fun v H4 e4 hv => ?_⟩
        refine ⟨_, rfl, rfl, _, rfl, ?_⟩
        rw [hv.dec fun _ z => z.ref]
        cases ef : treeF ms m ps t' with
        | none =>
          refine iteF ?_
          exact ⟨e3.trans e4, ⟨_, _, rfl⟩, s2 ef⟩
        | some g =>
          rw [ef] at hv
          refine iteT ?_
          exact ⟨_, rfl, hrt _ _ g (e23.trans e4) hv (by rw [treesF_eq]; exact s1 g ef)⟩
      · rintro σ H3 ⟨e3, ⟨o6, o7, rfl⟩, hn⟩
        rw [hU.len, List.take_length, ← treesF_eq] at hn
        exact hnx _ _ (e2.trans e3) hn
    -- word = tree[0]; word in ("number", "string")
    refine ⟨_, rfl, ta, _, 0, _, rfl, rfl, hta, at0, _, rfl, two_le, fun t1 n1 => ⟨t1, _, rfl, .inr (SqT.of upd_same), rfl, rfl, _, rfl, ?_⟩⟩
    show if inV (.str kw) [.str "number", .str "string"] = true then _ else _
    rw [show inV (.str kw) [.str "number", .str "string"] = decide (kw ∈ (["number", "string"] : List Str)) from inV_str kw ["number", "string"]]
    have e1 : Ex H (upd H t1 (.tup [.str "number", .str "string"])) := Ex.new n1
    generalize upd H t1 (.tup [.str "number", .str "string"]) = H1 at *
    rcases hc with ⟨b, x, rfl, rfl⟩ | hc
    · rw [decide_eq_true (by cases b <;> decide +kernel)]
      refine iteT (q _ _ e1 ?_)
      rw [treeF]
      exact rfl
    have hno : kw ∉ (["number", "string"] : List Str) := by
      rcases hc with ⟨n, _, rfl, _⟩ | ⟨n, u, t', _, rfl, _⟩ | ⟨n, b, us, ts, _, rfl, _⟩ | ⟨ts, _, hops, _⟩
      · decide +kernel
      · decide +kernel
      · decide +kernel
      · intro z
        obtain ⟨n1, n2, _⟩ := ops_ne hops
        rcases List.mem_cons.mp z with z | z
        · exact n1 z
        · exact n2 (List.mem_singleton.mp z)
    rw [decide_eq_false hno]
    refine iteF ⟨_, rfl, three_le, fun t2 n2 => ⟨t2, _, rfl, .inr (SqT.of upd_same), rfl, rfl, _, rfl, ?_⟩⟩
    show if inV (.str kw) [.str "name", .str "set", .str "call"] = true then _ else _
    rw [show inV (.str kw) [.str "name", .str "set", .str "call"] = decide (kw ∈ (["name", "set", "call"] : List Str)) from inV_str kw ["name", "set", "call"]]
    have e2 : Ex H (upd H1 t2 (.tup [.str "name", .str "set", .str "call"])) := e1.trans (Ex.new n2)
    generalize upd H1 t2 (.tup [.str "name", .str "set", .str "call"]) = H2 at *
    have hta2 := ex_t e2 hta
    rcases hc with ⟨n, rfl, rfl, rfl⟩ | ⟨n, u, t', rfl, rfl, rfl, hu⟩ | ⟨n, b, us, ts, rfl, rfl, rfl, hb, hU⟩ | ⟨ts, rfl, hops, hU⟩
    · -- a name
      rw [decide_eq_true (by decide +kernel)]
      refine iteT ⟨_, rfl, _, rfl, _, rfl, _, rfl, d, ta, a, ms, m, "name", n, [], ps, useF ms m ps false n, rfl, hD.ex e2, hM, hta2, ex_t e2 ha, .inl ⟨rfl, rfl⟩, fun v H3 e3 hv => ?_⟩
      have fin : ∃ w, ([some (V.ref d), some (V.str m), some (V.ref ta), some (V.ref a), some (V.str "name"), none, none, some v] : L2.St)[7]? = some (some w) ∧ Q w H3 := ⟨v, rfl, q _ _ (e2.trans e3) (by rw [treeF]; exact hv)⟩
      refine ⟨_, rfl, rfl, _, rfl, ?_⟩
      refine ite2 (fun _ => iteT fin) (fun _ => ⟨_, rfl, rfl, _, rfl, ?_⟩)
      rw [str_dec, decide_eq_true rfl]
      exact iteT fin
    · -- a set
      rw [decide_eq_true (by decide +kernel)]
      refine iteT ⟨_, rfl, _, rfl, _, rfl, _, rfl, d, ta, a, ms, m, "set", n, [u], ps, useF ms m ps true n, rfl, hD.ex e2, hM, hta2, ex_t e2 ha, .inr (.inl ⟨rfl, rfl⟩), fun v H3 e3 hv => ?_⟩
      have e23 := e2.trans e3
      refine ⟨_, rfl, rfl, _, rfl, ?_⟩
      rw [hv.dec fun _ z => z.ref]
      cases eu : useF ms m ps true n with
      | some g =>
        rw [eu] at hv
        refine iteT (iteT ⟨_, rfl, q _ _ e23 ?_⟩)
        rw [treeF, eu]
        exact hv
      | none =>
        refine iteF ⟨_, rfl, rfl, _, rfl, ?_⟩
        rw [str_dec, decide_eq_false (by decide +kernel)]
        refine iteF ?_
        have hta3 := ex_t e3 hta2
        -- parts = list(tree[1:]); parts = [tree[2]]
        refine ⟨_, rfl, _, rfl, ta, _, rfl, hta3, fun z => absurd z.1 (by rw [sIx1]; decide), fun _ b1 nb1 => ⟨b1, _, rfl, .inr (SqT.of upd_same), fun l1 nl1 => ?_⟩⟩
        rw [cut1]
        have e4 : Ex H (upd (upd H3 b1 (.tup [.str n, u])) l1 (.lst [.str n, u])) := e23.trans ((Ex.new nb1).trans (Ex.new (by rw [cut1] at nl1; exact nl1)))
        generalize upd (upd H3 b1 (.tup [.str n, u])) l1 (.lst [.str n, u]) = H4 at e4 ⊢
        have hta4 := ex_t e4 hta
        refine ⟨_, rfl, rfl, _, rfl, ?_⟩
        rw [str_dec, decide_eq_true rfl]
        refine iteT ⟨_, rfl, ta, _, 2, _, rfl, rfl, hta4, at2, Nat.succ_le_succ (Nat.zero_le _), fun l2 nl2 => ?_⟩
        have e5 := e4.trans (Ex.new (o := .lst [u]) nl2)
        refine ⟨_, rfl, rfl, _, rfl, ?_⟩
        rw [str_dec, decide_eq_false (by decide +kernel)]
        refine iteF ?_
        refine loop _ l2 [u] [t'] _ _ e5 upd_same ⟨hu.on (Tups.ex e5), True.intro⟩ (fun z hz => ?_) (fun v H' f e h1 h2 => q _ _ e ?_) (fun σ H' e h1 => q _ _ e ?_)
        · rw [List.mem_singleton.mp hz]
          rw [Tree.depth] at hk
          omega
        · rw [treesF, treesF] at h2
          rw [treeF, eu]
          cases et : treeF ms m ps t' with
          | some g => rw [et] at h2; cases h2; exact h1
          | none => rw [et] at h2; cases h2
        · rw [treesF, treesF] at h1
          rw [treeF, eu]
          cases et : treeF ms m ps t' with
          | some g => rw [et] at h1; cases h1
          | none => exact rfl
    · -- a call
      rw [decide_eq_true (by decide +kernel)]
      refine iteT ⟨_, rfl, _, rfl, _, rfl, _, rfl, d, ta, a, ms, m, "call", n, [.ref b], ps, callF ms m ps n us.length, rfl, hD.ex e2, hM, hta2, ex_t e2 ha, .inr (.inr ⟨rfl, b, us, rfl, ex_t e2 hb, rfl⟩), fun v H3 e3 hv => ?_⟩
      have e23 := e2.trans e3
      refine ⟨_, rfl, rfl, _, rfl, ?_⟩
      rw [hv.dec fun _ z => z.ref]
      have hlen := hU.len
      cases eu : callF ms m ps n us.length with
      | some g =>
        rw [eu] at hv
        refine iteT (iteT ⟨_, rfl, q _ _ e23 ?_⟩)
        rw [treeF, ← hlen, eu]
        exact hv
      | none =>
        refine iteF ⟨_, rfl, rfl, _, rfl, ?_⟩
        rw [str_dec, decide_eq_false (by decide +kernel)]
        refine iteF ?_
        have hta3 := ex_t e3 hta2
        refine ⟨_, rfl, _, rfl, ta, _, rfl, hta3, fun z => absurd z.1 (by rw [sIx1]; decide), fun _ b1 nb1 => ⟨b1, _, rfl, .inr (SqT.of upd_same), fun l1 nl1 => ?_⟩⟩
        rw [cut1]
        have e4 : Ex H (upd (upd H3 b1 (.tup [.str n, .ref b])) l1 (.lst [.str n, .ref b])) := e23.trans ((Ex.new nb1).trans (Ex.new (by rw [cut1] at nl1; exact nl1)))
        generalize upd (upd H3 b1 (.tup [.str n, .ref b])) l1 (.lst [.str n, .ref b]) = H4 at e4 ⊢
        have hta4 := ex_t e4 hta
        refine ⟨_, rfl, rfl, _, rfl, ?_⟩
        rw [str_dec, decide_eq_false (by decide +kernel)]
        refine iteF ⟨_, rfl, rfl, _, rfl, ?_⟩
        rw [str_dec, decide_eq_true rfl]
        refine iteT ⟨_, rfl, ta, _, 2, _, rfl, rfl, hta4, at2, b, us, rfl, .inr (ex_t e4 hb), fun l2 nl2 => ?_⟩
        have e5 := e4.trans (Ex.new (o := .lst us) nl2)
        refine loop _ l2 us ts _ _ e5 upd_same (hU.imp fun _ _ z => z.on (Tups.ex e5)) (fun z hz => ?_) (fun v H' f e h1 h2 => q _ _ e ?_) (fun σ H' e h1 => q _ _ e ?_)
        · have := depth_mem hz
          rw [Tree.depth] at hk
          omega
        · rw [treeF, ← hlen, eu]
          show Opt _ v (treesF ms m ps ts)
          rw [h2]
          exact h1
        · rw [treeF, ← hlen, eu]
          show Opt _ _ (treesF ms m ps ts)
          rw [h1]
          exact rfl
    · -- the other ones
      obtain ⟨n1, n2, n3, n4, n5⟩ := ops_ne hops
      rw [decide_eq_false (by
        intro z
        rcases List.mem_cons.mp z with z | z
        · exact n3 z
        · rcases List.mem_cons.mp z with z | z
          · exact n4 z
          · exact n5 (List.mem_singleton.mp z))]
      refine iteF ⟨_, rfl, _, rfl, ta, _, rfl, hta2, fun z => absurd z.1 (by rw [sIx1]; decide), fun _ b1 nb1 => ⟨b1, _, rfl, .inr (SqT.of upd_same), fun l1 nl1 => ?_⟩⟩
      rw [cut1]
      have e4 : Ex H (upd (upd H2 b1 (.tup r)) l1 (.lst r)) := e2.trans ((Ex.new nb1).trans (Ex.new (by rw [cut1] at nl1; exact nl1)))
      refine ⟨_, rfl, rfl, _, rfl, ?_⟩
      rw [str_dec, decide_eq_false n4]
      refine iteF ⟨_, rfl, rfl, _, rfl, ?_⟩
      rw [str_dec, decide_eq_false n5]
      refine iteF ?_
      refine loop _ l1 r ts _ _ e4 upd_same (hU.imp fun _ _ z => z.on (Tups.ex e4)) (fun z hz => ?_) (fun v H' f e h1 h2 => q _ _ e ?_) (fun σ H' e h1 => q _ _ e ?_)
      · have := depth_mem hz
        rw [Tree.depth] at hk
        omega
      · rw [treeF, h2]
        exact h1
      · rw [treeF, h1]
        exact rfl
end
end K6
/-! _law_line_fault, _law_names_fault. -/
namespace K6
open PySem PySem.Spec PyProof.Rows L2 Evl

section
variable {P : Program} {w : World} {K : Frag} {mg : Str → Option Value} {base : Heap} {O CR CN : Addr}
def spLLine (K : Frag) : Sp := fun vs H Q _ => ∃ (d : Addr) (ms : Mods) (m : Str) (v : V) (l : Line), vs = [.ref d, .str m, v] ∧ ModsAt K H d ms ∧ MsOk ms ∧ LineAt K H v l ∧ LineOk l ∧
  ∀ v H', Ex H H' → Opt (FaultAt K H') v (lineF ms m l) → Q v H'
theorem ok_law_line_fault (T : Txt K mg O CR CN) : Cal P w K mg base "_law_line_fault" 14 ["_law_modules_here", "_law_module_here", "_law_line"] (spLLine K) := by
  have C_law_follow := ok_law_follow (P := P) (w := w) (base := base) T
  have C_law_tree_fault := ok_law_tree_fault (P := P) (w := w) (base := base) T 8
  refine Cal.of T.d_law_line_fault sc__law_line_fault (fun _ _ _ _ _ _ us hl => match us, hl with | [_, _, _], _ => rfl) (fun vs H Q E h => ?_) (fun f cdv A outer s H vs Q E hr h => ?_)
  · obtain ⟨d, ms, m, v, l, rfl, _⟩ := h
    rfl
  obtain ⟨d, ms, m, v, l, rfl, hD, hM, hL, hO, q⟩ := h
  refine ⟨_, (pss_cons (ps_if (pt_cmpR op_in_seq (pe_ix ix_tup (pv 2) (pe_int) (fun _ _ => rfl)) (pe_tup (pa_cons (pe_str) (pa_cons (pe_str) pa_nil))) rfl) (pss_cons (ps_for PassesOwn.never rfl (pi_tup (pe_ix ix_tup (pv 2) (pe_int) (fun _ _ => rfl))) (pg_tup rfl (pgs_cons (pg_name (i := 4) sc__law_line_fault.nd rfl (Or.inl rfl)) (pgs_cons (pg_name (i := 5) sc__law_line_fault.nd rfl (Or.inl rfl)) pgs_nil))) (pss_one (ps_if (pt_cmpR op_isN (pe_cal C_law_follow (hr.mono (by omega)) rfl (pa_cons (pv 0) (pa_cons (pe_ix ix_tup (pv 2) (pe_int) (fun _ _ => rfl)) (pa_cons (pv 4) pa_nil)))) (pe_non) (nomark _)) (pss_one (ps_ret (pe_tup (pa_cons (pe_str) (pa_cons (pe_ix ix_tup (pv 2) (pe_int) (fun _ _ => rfl)) (pa_cons (pv 4) pa_nil)))))) pss_nil)))
    (pss_one (ps_ret (pe_non)))) pss_nil)
    (pss_cons (ps_set (i := 3) sc__law_line_fault.nd rfl (Or.inl rfl) (pe_tup pa_nil))
    (pss_cons (ps_if (pt_cmpR op_eq (pe_ix ix_tup (pv 2) (pe_int) (fun _ _ => rfl)) (pe_str) (nomark _)) (pss_one (ps_set (i := 3) sc__law_line_fault.nd rfl (Or.inl rfl) (pe_ix ix_tup (pv 2) (pe_int) (fun _ _ => rfl)))) pss_nil)
    (pss_one (ps_ret (pe_cal C_law_tree_fault (hr.mono (by omega)) rfl (pa_cons (pv 0) (pa_cons (pv 1) (pa_cons (pe_ix ix_tup (pv 2) (pe_un un_neg (pe_int)) (fun _ _ => rfl)) (pa_cons (pv 3) pa_nil)))))))))), ?_⟩
  -- line[0] in ("import", "export")
  have start : ∀ {a : Addr} {k : Str} {r : List V} {t : TS} {u : TS} {D : Ends}, v = .ref a → SqT K H a (.str k :: r) →
      (∀ H1, Ex H H1 → if decide (k ∈ (["import", "export"] : List Str)) = true then t D [some (.ref d), some (.str m), some (.ref a), none, none, none] H1 else u D [some (.ref d), some (.str m), some (.ref a), none, none, none] H1) →
      tIfS (tTest (tOp (rIn K false) (tOp (rIxT K) (tVar 2) (tC (.int 0))) (tTup (tCons (tC (.str "import")) (tCons (tC (.str "export")) tNil))))) t u D [some (.ref d), some (.str m), some v, none, none, none] H := by
    rintro a k r t u D rfl ha hh
    refine ⟨_, rfl, a, _, 0, _, rfl, rfl, ha, at0, two_le, fun t1 n1 => ⟨t1, _, rfl, .inr (SqT.of upd_same), rfl, rfl, _, rfl, ?_⟩⟩
    show if inV (.str k) [.str "import", .str "export"] = true then _ else _
    rw [show inV (.str k) [.str "import", .str "export"] = decide (k ∈ (["import", "export"] : List Str)) from inV_str k ["import", "export"]]
    exact hh _ (Ex.new n1)
  cases hL with
  | @imp a b us e ps t h1 h2 h3 =>
    have e0 : lineF ms m (.imp e ps t) = (ps.find? fun p => (follow ms t p.1).isNone).map fun p => (("name" : Str), t, p.1) := rfl
    rw [e0] at q
    refine start rfl h1 fun H1 e1 => ?_
    rw [decide_eq_true (by cases e <;> decide +kernel)]
    refine iteT ?_
    have h11 := ex_t e1 h1
    have h21 := ex_t e1 h2
    refine ⟨_, rfl, a, _, 1, _, rfl, rfl, h11, at1, b, rfl, ⟨_, h21⟩, for_tup (K := K) (a := b) (xs := us) (fun j σ H' => Ex H1 H' ∧ (∃ o1 o2, σ = [some (.ref d), some (.str m), some (.ref a), none, o1, o2]) ∧ ((ps.take j).find? fun p => (follow ms t p.1).isNone) = none) ⟨Ex.refl _, ⟨_, _, rfl⟩, rfl⟩ (fun j σ H' _ z => ex_t z.1 h21) ?_ ?_⟩
    · rintro j y σ H2 hj ⟨e2, ⟨o1, o2, rfl⟩, hn⟩
      obtain ⟨pr, hpr, c, rfl, hc⟩ := h3.get hj
      obtain ⟨s1, s2⟩ := find_step _ ps j pr hpr hn
      have e12 := e1.trans e2
      refine ⟨c, _, rfl, ex_t e12 hc, rfl, _, _, rfl, _, _, rfl, rfl, ?_⟩
      refine ⟨_, rfl, _, rfl, a, _, 2, _, rfl, rfl, ex_t e12 h1, at2, _, rfl, d, ms, t, pr.1, rfl, hD.ex e12, hM, fun v H3 e3 hv => ⟨rfl, _, rfl, ?_⟩⟩
      rw [hv.dec fun _ z => z.ref]
      have e123 := e12.trans e3
      cases ef : (follow ms t pr.1).isNone with
      | true =>
        refine iteT ⟨_, rfl, a, _, 2, _, rfl, rfl, ex_t e123 h1, at2, _, rfl, three_le, fun z nz => q _ _ (e123.trans (Ex.new nz)) ?_⟩
        rw [s1 ef]
        exact ⟨z, rfl, SqT.of upd_same⟩
      | false =>
        exact iteF ⟨e2.trans e3, ⟨_, _, rfl⟩, s2 ef⟩
    · rintro σ H2 ⟨e2, ⟨o1, o2, rfl⟩, hn⟩
      rw [h3.len, List.take_length] at hn
      exact q _ _ (e1.trans e2) (by rw [hn]; exact rfl)
  | @own a u k n t h1 h2 =>
    refine start rfl h1 fun H1 e1 => ?_
    rw [decide_eq_false (by cases k <;> decide +kernel)]
    refine iteF ⟨Nat.zero_le _, fun z nz => ?_⟩
    have e2 := e1.trans (Ex.new (o := .tup []) nz)
    refine ⟨_, rfl, a, _, 0, _, rfl, rfl, ex_t e2 h1, at0, rfl, _, rfl, ?_⟩
    rw [str_dec, decide_eq_false (by cases k <;> decide +kernel)]
    refine iteF ⟨_, rfl, _, rfl, _, rfl, _, rfl, a, _, -1, _, rfl, rfl, ex_t e2 h1, rfl, _, rfl, ?_⟩
    exact ⟨d, z, ms, m, [], u, t, rfl, hD.ex e2, hM, SqT.of upd_same, h2.on (Tups.ex e2), hO.2, fun v H' e hv => q v H' (e2.trans e) hv⟩
  | @act a u k t h1 h2 =>
    refine start rfl h1 fun H1 e1 => ?_
    rw [decide_eq_false (by cases k <;> decide +kernel)]
    refine iteF ⟨Nat.zero_le _, fun z nz => ?_⟩
    have e2 := e1.trans (Ex.new (o := .tup []) nz)
    refine ⟨_, rfl, a, _, 0, _, rfl, rfl, ex_t e2 h1, at0, rfl, _, rfl, ?_⟩
    rw [str_dec, decide_eq_false (by cases k <;> decide +kernel)]
    refine iteF ⟨_, rfl, _, rfl, _, rfl, _, rfl, a, _, -1, _, rfl, rfl, ex_t e2 h1, rfl, _, rfl, ?_⟩
    exact ⟨d, z, ms, m, [], u, t, rfl, hD.ex e2, hM, SqT.of upd_same, h2.on (Tups.ex e2), hO.2, fun v H' e hv => q v H' (e2.trans e) hv⟩
  | @fn a b u n ps t h1 h2 h3 =>
    refine start rfl h1 fun H1 e1 => ?_
    rw [decide_eq_false (by decide +kernel)]
    refine iteF ⟨Nat.zero_le _, fun z nz => ?_⟩
    have e2 := e1.trans (Ex.new (o := .tup []) nz)
    refine ⟨_, rfl, a, _, 0, _, rfl, rfl, ex_t e2 h1, at0, rfl, _, rfl, ?_⟩
    rw [str_dec, decide_eq_true rfl]
    refine iteT ⟨_, rfl, a, _, 2, _, rfl, rfl, ex_t e2 h1, at2, ?_⟩
    refine ⟨_, rfl, _, rfl, _, rfl, _, rfl, a, _, -1, _, rfl, rfl, ex_t e2 h1, rfl, _, rfl, ?_⟩
    exact ⟨d, b, ms, m, ps, u, t, rfl, hD.ex e2, hM, ex_t e2 h2, h3.on (Tups.ex e2), hO.2, fun v H' e hv => q v H' (e2.trans e) hv⟩
theorem ok_law_names_fault (T : Txt K mg O CR CN) : Cal P w K mg base "_law_names_fault" 15 ["_law_modules_here", "_law_order_here"] (spCheck K) := by
  have C_law_line_fault := ok_law_line_fault (P := P) (w := w) (base := base) T
  refine Cal.of T.d_law_names_fault sc__law_names_fault (fun _ _ _ _ _ _ us hl => match us, hl with | [_, _], _ => rfl) (fun vs H Q E h => ?_) (fun f cdv A outer s H vs Q E hr h => ?_)
  · obtain ⟨d, o, ms, order, rfl, _⟩ := h
    rfl
  obtain ⟨d, o, ms, order, rfl, hD, hM, ho, hs, q⟩ := h
  refine ⟨_, (pss_cons (ps_for PassesOwn.never rfl (pi_tup (pv 1)) (pg_name (i := 2) sc__law_names_fault.nd rfl (Or.inl rfl)) (pss_one (ps_for PassesOwn.never rfl (pi_tup (pe_dget (hu_of hr) (pv 0) (pv 2) (fun _ _ => rfl))) (pg_name (i := 3) sc__law_names_fault.nd rfl (Or.inl rfl)) (pss_cons (ps_set (i := 4) sc__law_names_fault.nd rfl (Or.inl rfl) (pe_cal C_law_line_fault (hr.mono (by omega)) rfl (pa_cons (pv 0) (pa_cons (pv 2) (pa_cons (pv 3) pa_nil)))))
    (pss_one (ps_if (pt_cmpR op_notN (pv 4) (pe_non) (nomark _)) (pss_one (ps_ret (pv 4))) pss_nil))))))
    (pss_one (ps_ret (pe_non)))), ?_⟩
  refine ⟨_, rfl, o, rfl, ⟨_, ho⟩, for_tup (K := K) (a := o) (xs := order.map V.str) (fun i σ H' => Ex H H' ∧ (∃ o1 o2 o3, σ = [some (.ref d), some (.ref o), o1, o2, o3]) ∧ namesF ms (order.take i) = none) ⟨Ex.refl _, ⟨_, _, _, rfl⟩, rfl⟩ (fun i σ H' _ z => ex_t z.1 ho) ?_ ?_⟩
  · rintro i x σ H1 hi ⟨e1, ⟨o1, o2, o3, rfl⟩, hn⟩
    rw [List.getElem?_map] at hi
    cases em : order[i]? with
    | none =>
      rw [em] at hi
      cases hi
    | some m =>
      rw [em] at hi
      obtain rfl : V.str m = x := Option.some.inj hi
      obtain ⟨s1, s2⟩ := some_step _ order i m em hn
      have hm := hs m (List.mem_of_getElem? em)
      cases el : ms m with
      | none =>
        rw [el] at hm
        cases hm
      | some ls =>
        have ell := linesOf_some el
        have mo := hM m ls el
        obtain ⟨kvs, hd, hT⟩ := hD.ex e1
        rcases hT m with ⟨z, _⟩ | ⟨ls', v, h1, h2, la, us, rfl, hS, hA⟩
        · rw [el] at z
          cases z
        rw [el] at h1
        cases h1
        refine ⟨_, rfl, _, rfl, d, .ref la, rfl, by rw [← h2]; exact DGet.k (k := Sum.inr m) hd, la, rfl, ⟨_, hS⟩, for_tup (K := K) (a := la) (xs := us) (fun j σ H' => Ex H1 H' ∧ (∃ o3 o4, σ = [some (.ref d), some (.ref o), some (.str m), o3, o4]) ∧ linesF ms m (ls.take j) = none) ⟨Ex.refl _, ⟨_, _, rfl⟩, rfl⟩ (fun j σ H' _ z => ex_t z.1 hS) ?_ ?_⟩
        · rintro j y σ H3 hj ⟨e3, ⟨o3, o4, rfl⟩, hl⟩
          obtain ⟨l, hlj, hL⟩ := hA.get hj
          obtain ⟨t1, t2⟩ := some_step _ ls j l hlj hl
          refine ⟨_, rfl, _, rfl, _, rfl, d, ms, m, y, l, rfl, hD.ex (e1.trans e3), hM, hL.on (Tups.ex e3), mo.line l (List.mem_of_getElem? hlj), fun v H4 e4 hv => ?_⟩
          refine ⟨_, rfl, rfl, _, rfl, ?_⟩
          rw [hv.dec fun _ z => z.ref]
          cases ef : lineF ms m l with
          | none =>
            exact iteF ⟨e3.trans e4, ⟨_, _, rfl⟩, t2 ef⟩
          | some g =>
            rw [ef] at hv
            refine iteT ⟨_, rfl, q _ _ (e1.trans (e3.trans e4)) ?_⟩
            have eg : namesF ms order = some g := s1 g (by show linesF ms m (linesOf ms m) = some g; rw [ell]; exact t1 g ef)
            rw [eg]
            exact hv
        · rintro σ H3 ⟨e3, ⟨o3, o4, rfl⟩, hl⟩
          rw [hA.len, List.take_length] at hl
          exact ⟨e1.trans e3, ⟨_, _, _, rfl⟩, s2 (by show linesF ms m (linesOf ms m) = none; rw [ell]; exact hl)⟩
  · rintro σ H1 ⟨e1, ⟨o1, o2, o3, rfl⟩, hn⟩
    rw [List.length_map, List.take_length] at hn
    refine q _ _ e1 ?_
    rw [hn]
    exact rfl
end
end K6
/-! The law's drawing: the box, cell, digits, draw. -/
namespace K6
open PySem PySem.Spec PyProof.Rows L2 Evl

/-- the box of digits at b -/
def BoxAt (H : Hp) (b : Addr) : Prop := ∃ (d : Addr) (ds : List Int) (n : Int), H b = some (.lst [.ref d, .int n]) ∧ 0 ≤ n ∧ H d = some (.lst (ds.map V.int))
/-- all but the box stays as it was -/
structure Gr (b : Addr) (H H' : Hp) : Prop where
  box : BoxAt H' b
  same : ∀ a o, a ≠ b → H a = some o → H' a = some o
  ad : ∀ (d : Addr) (n : Int), H b = some (.lst [.ref d, .int n]) → ∃ n', H' b = some (.lst [.ref d, .int n'])
theorem box_ne {d' : Addr} {n : Int} {ds : List Int} : ([V.ref d', .int n] : List V) ≠ ds.map V.int := by
  cases ds with
  | nil => exact fun z => nomatch z
  | cons x r => exact fun z => nomatch (List.cons.inj z).1
theorem BoxAt.ex {H H' : Hp} {b : Addr} (e : Ex H H') (h : BoxAt H b) : BoxAt H' b := by
  obtain ⟨d, ds, n, h1, h2, h3⟩ := h
  exact ⟨d, ds, n, e _ _ h1, h2, e _ _ h3⟩
theorem BoxAt.some {H : Hp} {b : Addr} (h : BoxAt H b) : H b ≠ none := by
  obtain ⟨d, ds, n, h1, _⟩ := h
  rw [h1]
  exact fun z => nomatch z
theorem Gr.refl {H : Hp} {b : Addr} (h : BoxAt H b) : Gr b H H := ⟨h, fun _ _ _ e => e, fun _ n e => ⟨n, e⟩⟩
theorem Gr.trans {H H1 H2 : Hp} {b : Addr} (a : Gr b H H1) (c : Gr b H1 H2) : Gr b H H2 := ⟨c.1, fun x o n e => c.2 x o n (a.2 x o n e), fun d n e => let ⟨n1, e1⟩ := a.3 d n e; c.3 d n1 e1⟩
theorem Gr.ex {H H' : Hp} {b : Addr} (h : BoxAt H b) (e : Ex H H') : Gr b H H' := ⟨h.ex e, fun a o _ z => e a o z, fun _ n z => ⟨n, e _ _ z⟩⟩
theorem Gr.thn {H H1 H2 : Hp} {b : Addr} (a : Gr b H H1) (e : Ex H1 H2) : Gr b H H2 := a.trans (Gr.ex a.1 e)
/-- an object made meanwhile may change -/
theorem Gr.mut {H H1 : Hp} {b D : Addr} {o : HO} (h : BoxAt H b) (g : Gr b H H1) (hD : H D = none) : Gr b H (upd H1 D o) := by
  obtain ⟨d, ds, n, h1, h2, h3⟩ := h
  have nb : b ≠ D := ne_of_none h1 hD
  have nd : d ≠ D := ne_of_none h3 hD
  have db : d ≠ b := fun z => by
    rw [z, h1] at h3
    exact box_ne (HO.lst.inj (Option.some.inj h3))
  obtain ⟨n', e'⟩ := g.ad d n h1
  obtain ⟨d2, ds2, n2, k1, k2, k3⟩ := g.box
  have en : n' = n2 := by
    rw [e'] at k1
    have := (List.cons.inj (List.cons.inj (HO.lst.inj (Option.some.inj k1))).2).1
    exact V.int.inj this
  refine ⟨⟨d, ds, n', by rw [upd_ne nb]; exact e', by omega, by rw [upd_ne nd]; exact g.same d _ db h3⟩, fun a u na e => ?_, fun d0 n0 e0 => ?_⟩
  · rw [upd_ne (ne_of_none e hD)]
    exact g.same a u na e
  · obtain ⟨n1, e1⟩ := g.ad d0 n0 e0
    exact ⟨n1, by rw [upd_ne nb]; exact e1⟩
theorem Gr.free {H H' : Hp} {b p : Addr} (g : Gr b H H') (h : H' p = none) : H p = none := by
  cases e : H p with
  | none => rfl
  | some o =>
    by_cases hp : p = b
    · rw [hp] at h
      exact absurd h g.1.some
    · rw [g.2 p o hp e] at h
      cases h
theorem Gr.tups {K : Frag} {H H' : Hp} {b : Addr} (h : BoxAt H b) (g : Gr b H H') : Tups K H H' := fun a xs hs => by
  obtain ⟨d, ds, n, h1, _⟩ := h
  rcases hs with (hs | ⟨o, hs⟩) | hs
  · exact .inl (.inl (g.2 _ _ (fun z => by rw [z, h1] at hs; cases hs) hs))
  · exact .inl (.inr ⟨o, g.2 _ _ (fun z => by rw [z, h1] at hs; cases hs) hs⟩)
  · exact .inr hs
/-- a list of texts is no box -/
theorem Gr.strs {H H' : Hp} {b a : Addr} {ns : List Str} (h : BoxAt H b) (g : Gr b H H') (hs : H a = some (.lst (ns.map V.str))) : H' a = some (.lst (ns.map V.str)) := by
  obtain ⟨d, ds, n, h1, _⟩ := h
  refine g.2 _ _ (fun z => ?_) hs
  rw [z, h1] at hs
  have e := HO.lst.inj (Option.some.inj hs)
  cases ns with
  | nil => cases e
  | cons x r => exact nomatch (List.cons.inj e).1
/-- a list whose items are all objects is no box -/
theorem Gr.refs {H H' : Hp} {b a : Addr} {us : List V} (h : BoxAt H b) (g : Gr b H H') (hs : H a = some (.lst us)) (hr : ∀ u ∈ us, ∃ c, u = .ref c) : H' a = some (.lst us) := by
  obtain ⟨d, ds, n, h1, _⟩ := h
  refine g.2 _ _ (fun z => ?_) hs
  rw [z, h1] at hs
  have e := HO.lst.inj (Option.some.inj hs)
  obtain ⟨c, ec⟩ := hr (.int n) (by rw [← e]; simp)
  cases ec

section
variable {P : Program} {w : World} {K : Frag} {mg : Str → Option Value} {base : Heap} {O CR CN : Addr}
/-- box, many -/
def spDraw : Sp := fun vs H Q _ => ∃ (b : Addr) (many : Int), vs = [.ref b, .int many] ∧ BoxAt H b ∧ 0 < many ∧ ∀ r H', 0 ≤ r → r < many → Gr b H H' → Q (.int r) H'
theorem ok_law_draw (T : Txt K mg O CR CN) : Cal P w K mg base "_law_draw" 1 ["_law_box", "_law_many"] spDraw := by
  refine Cal.of T.d_law_draw sc__law_draw (fun _ _ _ _ _ _ us hl => match us, hl with | [_, _], _ => rfl) (fun vs H Q E h => ?_) (fun f cdv A outer s H vs Q E hr h => ?_)
  · obtain ⟨b, many, rfl, _⟩ := h
    rfl
  obtain ⟨b, many, rfl, ⟨d, ds, n, hb, hn, hd⟩, hm, q⟩ := h
  refine ⟨_, (pss_cons (ps_set (i := 2) sc__law_draw.nd rfl (Or.inl rfl) (pe_ix ix_list (pv 0) (pe_int) (fun _ _ => rfl)))
    (pss_cons (ps_asg (pe_op op_add (pv 2) (pe_int)) (pg_sub (pv 0) (pe_int) set_list))
    (pss_cons (ps_if (pt_cmpR op_lt (pv 2) (pe_callB call_len_seq rfl T.zlen PySem.boot_len (pa_cons (pe_ix ix_list (pv 0) (pe_int) (fun _ _ => rfl)) pa_nil)) (nomark _)) (pss_one (ps_ret (pe_op op_modN (pe_callTy call_int1 rfl T.zint (by decide +kernel) (pa_cons (pe_ix ix_list (pe_ix ix_list (pv 0) (pe_int) (fun _ _ => rfl)) (pv 2) (fun _ _ => rfl)) pa_nil)) (pv 1)))) pss_nil)
    (pss_one (ps_ret (pe_op op_modN (pe_callTy call_int1 rfl T.zint (by decide +kernel) (pa_cons (pe_op op_add (pe_op op_mul (pv 2) (pe_int)) (pe_int)) pa_nil)) (pv 1))))))), ?_⟩
  have hdb : d ≠ b := fun z => by
    rw [z, hb] at hd
    exact box_ne (HO.lst.inj (Option.some.inj hd))
  refine ⟨_, rfl, b, _, 1, _, rfl, rfl, SqL.of hb, at1, ?_⟩
  refine ⟨_, rfl, _, _, rfl, rfl, _, rfl, b, _, 1, 1, rfl, rfl, hb, rfl, ?_⟩
  have hb1 : (upd H b (.lst [.ref d, .int (n + 1)])) b = some (.lst [.ref d, .int (n + 1)]) := upd_same
  have hd1 : (upd H b (.lst [.ref d, .int (n + 1)])) d = some (.lst (ds.map V.int)) := by rw [upd_ne hdb]; exact hd
  have g : Gr b H (upd H b (.lst [.ref d, .int (n + 1)])) := ⟨⟨d, ds, n + 1, hb1, by omega, hd1⟩, fun a o na e => by rw [upd_ne na]; exact e, fun d' n' e => by
    rw [hb] at e
    cases HO.lst.inj (Option.some.inj e)
    exact ⟨_, hb1⟩⟩
  refine ⟨_, rfl, _, rfl, b, _, 0, _, rfl, rfl, SqL.of hb1, at0, d, _, rfl, .inl (SqL.of hd1), _, _, rfl, rfl, _, rfl, ?_⟩
  refine ite2 (fun c => ?_) (fun c => ?_)
  · have c : n < ((ds.map V.int).length : Int) := of_decide_eq_true c
    rw [List.length_map] at c
    have hk : n.toNat < ds.length := by omega
    have ek : n = ((n.toNat : Nat) : Int) := by omega
    have ha : atI (ds.map V.int) n = some (.int ds[n.toNat]) := by
      have z : atI (ds.map V.int) ((n.toNat : Nat) : Int) = some (.int ds[n.toNat]) := atI_nat (by rw [List.getElem?_map, List.getElem?_eq_getElem hk]; rfl)
      rw [← ek] at z
      exact z
    refine ⟨_, rfl, b, _, 0, _, rfl, rfl, SqL.of hb1, at0, _, rfl, d, _, n, _, rfl, rfl, SqL.of hd1, ha, .inl ⟨_, rfl, _, rfl, _, _, rfl, rfl, by omega, ?_⟩⟩
    exact q _ _ (Int.fmod_nonneg_of_pos _ hm) (Int.fmod_lt_of_pos _ hm) g
  · refine ⟨_, rfl, _, _, rfl, rfl, .inr ⟨by decide, by decide⟩, _, _, rfl, rfl, .inl ⟨_, rfl, _, rfl, _, _, rfl, rfl, by omega, ?_⟩⟩
    exact q _ _ (Int.fmod_nonneg_of_pos _ hm) (Int.fmod_lt_of_pos _ hm) g
/-- script, k -/
def spCell (K : Frag) : Sp := fun vs H Q _ => ∃ (a : Addr) (ns : List Int) (k : Int), vs = [.ref a, .int k] ∧ SqL K H a (ns.map V.int) ∧ 0 ≤ k ∧ ∀ c : Int, Q (.int c) H
theorem ok_law_cell (T : Txt K mg O CR CN) : Cal P w K mg base "_law_cell" 1 ["_law_script", "_law_k"] (spCell K) := by
  refine Cal.of T.d_law_cell sc__law_cell (fun _ _ _ _ _ _ us hl => match us, hl with | [_, _], _ => rfl) (fun vs H Q E h => ?_) (fun f cdv A outer s H vs Q E hr h => ?_)
  · obtain ⟨a, ns, k, rfl, _⟩ := h
    rfl
  obtain ⟨a, ns, k, rfl, hS, hk, q⟩ := h
  refine ⟨_, (pss_cons (ps_if (pt_cmpR op_lt (pv 1) (pe_callB call_len_seq rfl T.zlen PySem.boot_len (pa_cons (pv 0) pa_nil)) (nomark _)) (pss_one (ps_ret (pe_ix ix_list (pv 0) (pv 1) (fun _ _ => rfl)))) pss_nil)
    (pss_one (ps_ret (pe_int)))), ?_⟩
  refine ⟨_, rfl, _, rfl, a, _, rfl, .inl hS, _, _, rfl, rfl, _, rfl, ?_⟩
  refine ite2 (fun c => ?_) (fun c => ?_)
  · have c : k < ((ns.map V.int).length : Int) := of_decide_eq_true c
    rw [List.length_map] at c
    have hk' : k.toNat < ns.length := by omega
    have ek : k = ((k.toNat : Nat) : Int) := by omega
    have ha : atI (ns.map V.int) k = some (.int ns[k.toNat]) := by
      have z : atI (ns.map V.int) ((k.toNat : Nat) : Int) = some (.int ns[k.toNat]) := atI_nat (by rw [List.getElem?_map, List.getElem?_eq_getElem hk']; rfl)
      rw [← ek] at z
      exact z
    exact ⟨_, rfl, _, rfl, a, _, k, _, rfl, rfl, hS, ha, q _⟩
  · exact q 0
/-- script, 0, 63: a new list of whole numbers -/
def spDigits (K : Frag) : Sp := fun vs H Q _ => ∃ (a : Addr) (ns : List Int), vs = [.ref a, .int 0, .int 63] ∧ SqL K H a (ns.map V.int) ∧ ∀ (D : Addr) (ds : List Int) (H' : Hp), Ex H H' → H D = none → H' D = some (.lst (ds.map V.int)) → Q (.ref D) H'
theorem ints_snoc (ds : List Int) (x : Int) : (HO.lst (ds.map V.int ++ [V.int x])) = HO.lst ((ds ++ [x]).map V.int) := by rw [List.map_append]; rfl
/-- if cell < 0: cell = 1 - 2 * cell: some whole number behind it -/
theorem sign_join {u : TS} {D : Ends} {σ : L2.St} {H : Hp} {c0 : Int} (h5 : σ[5]? = some (some (.int c0))) (h : ∀ c : Int, u D (σ.set 5 (some (.int c))) H) (hs : σ.set 5 (some (.int c0)) = σ) :
    tSeq (tIfS (tTest (tOp (rI0 fun i j => .bl (decide (i < j))) (tVar 5) (tC (.int 0)))) (tAsg (tOp (rI0 fun i j => .int (i - j)) (tC (.int 1)) (tOp (rI CMul fun i j => .int (i * j)) (tC (.int 2)) (tVar 5))) (gName 5)) tNext) u D σ H := by
  refine ⟨_, h5, _, _, rfl, rfl, _, rfl, ?_⟩
  refine ite2 (fun _ => ?_) (fun _ => ?_)
  · exact ⟨_, h5, _, _, rfl, rfl, .inl ⟨by decide, by decide⟩, _, _, rfl, rfl, h _⟩
  · have q := h c0
    rw [hs] at q
    exact q
theorem ok_law_digits (T : Txt K mg O CR CN) : Cal P w K mg base "_law_digits" 2 ["_law_script", "_law_first", "_law_last"] (spDigits K) := by
  have C_law_cell := ok_law_cell (P := P) (w := w) (base := base) T
  refine Cal.of T.d_law_digits sc__law_digits (fun _ _ _ _ _ _ us hl => match us, hl with | [_, _, _], _ => rfl) (fun vs H Q E h => ?_) (fun f cdv A outer s H vs Q E hr h => ?_)
  · obtain ⟨a, ns, rfl, _⟩ := h
    rfl
  obtain ⟨a, ns, rfl, hS, q⟩ := h
  refine ⟨_, (pss_cons (ps_set (i := 3) sc__law_digits.nd rfl (Or.inl rfl) (pe_lst pa_nil))
    (pss_cons (ps_for PassesOwn.never rfl (pi_range2 rfl T.zrange (pa_cons (pv 1) (pa_cons (pv 2) pa_nil))) (pg_name (i := 4) sc__law_digits.nd rfl (Or.inl rfl)) (pss_cons (ps_set (i := 5) sc__law_digits.nd rfl (Or.inl rfl) (pe_cal C_law_cell (hr.mono (by omega)) rfl (pa_cons (pv 0) (pa_cons (pv 4) pa_nil))))
    (pss_cons (ps_if (pt_cmpR op_lt (pv 5) (pe_int) (nomark _)) (pss_one (ps_set (i := 5) sc__law_digits.nd rfl (Or.inl rfl) (pe_op op_sub (pe_int) (pe_op op_mul (pe_int) (pv 5))))) pss_nil)
    (pss_one (ps_if (pt_cmpR op_ge (pv 5) (pe_int) (nomark _)) (pss_one (ps_for PassesOwn.never rfl (pi_range1 rfl T.zrange (pa_cons (pe_int) pa_nil)) (pg_name (i := 6) sc__law_digits.nd rfl (Or.inl rfl)) (pss_one (ps_if (pt_cmpR op_gt (pv 5) (pe_int) (nomark _)) (pss_cons (ps_expr (pe_bm PySem.F.plainAttrs_list PySem.F.slot_list_append PySem.F.type_list_append mt_append (pv 3) (pa_cons (pe_op op_mod (pe_callTy call_int1 rfl T.zint (by decide +kernel) (pa_cons (pv 5) pa_nil)) (pe_int)) pa_nil)))
    (pss_one (ps_set (i := 5) sc__law_digits.nd rfl (Or.inl rfl) (pe_op op_fdiv (pv 5) (pe_int))))) pss_nil)))) (pss_cons (ps_set (i := 7) sc__law_digits.nd rfl (Or.inl rfl) (pe_op op_mod (pe_callTy call_int1 rfl T.zint (by decide +kernel) (pa_cons (pe_op op_add (pe_op op_add (pe_op op_mul (pv 5) (pe_int)) (pe_op op_mul (pv 4) (pe_int))) (pe_int)) pa_nil)) (pe_int)))
    (pss_one (ps_for PassesOwn.never rfl (pi_range1 rfl T.zrange (pa_cons (pe_int) pa_nil)) (pg_name (i := 6) sc__law_digits.nd rfl (Or.inl rfl)) (pss_cons (ps_set (i := 7) sc__law_digits.nd rfl (Or.inl rfl) (pe_op op_mod (pe_callTy call_int1 rfl T.zint (by decide +kernel) (pa_cons (pe_op op_add (pe_op op_add (pe_op op_mul (pv 7) (pe_int)) (pe_op op_mul (pe_int) (pv 6))) (pe_int)) pa_nil)) (pe_int)))
    (pss_one (ps_expr (pe_bm PySem.F.plainAttrs_list PySem.F.slot_list_append PySem.F.type_list_append mt_append (pv 3) (pa_cons (pe_op op_mod (pe_callTy call_int1 rfl T.zint (by decide +kernel) (pa_cons (pe_op op_fdiv (pv 7) (pe_int)) pa_nil)) (pe_int)) pa_nil)))))))))))))
    (pss_one (ps_ret (pv 3))))), ?_⟩
  refine ⟨Nat.zero_le _, fun D nD => ?_⟩
  refine ⟨_, rfl, _, rfl, 0, 63, rfl, by decide, for_range (lo := 0) (n := 63) (fun i σ H' => Ex H H' ∧ ∃ (ds : List Int) (o1 o2 o3 o4 : Option V), σ = [some (.ref a), some (.int 0), some (.int 63), some (.ref D), o1, o2, o3, o4] ∧ H' D = some (.lst (ds.map V.int)) ∧ ds.length ≤ 60 * i)
    ⟨Ex.new nD, [], _, _, _, _, rfl, upd_same, Nat.zero_le _⟩ ?_ ?_⟩
  · rintro i σ H1 hi ⟨e1, ds, o1, o2, o3, o4, rfl, hD, hl⟩
    refine ⟨_, rfl, _, rfl, a, ns, _, rfl, ex_l e1 hS, by omega, fun c => ?_⟩
    refine sign_join rfl (fun c => ?_) rfl
    refine ⟨_, rfl, _, _, rfl, rfl, _, rfl, ?_⟩
    refine ite2 (fun _ => ?_) (fun _ => ?_)
    · refine ⟨60, rfl, by decide, by decide, for_range (n := 60) (fun j σ H' => Ex H H' ∧ ∃ (ds : List Int) (o1 : Option V) (c : Int) (o4 o5 : Option V), σ = [some (.ref a), some (.int 0), some (.int 63), some (.ref D), o1, some (.int c), o4, o5] ∧ H' D = some (.lst (ds.map V.int)) ∧ ds.length ≤ 60 * i + j)
        ⟨e1, ds, _, c, _, _, rfl, hD, hl⟩ ?_ ?_⟩
      · rintro j σ H2 hj ⟨e2, ds2, o1, c, o4, o5, rfl, hD2, hl2⟩
        refine ⟨_, rfl, _, _, rfl, rfl, _, rfl, ?_⟩
        refine ite2 (fun _ => ?_) (fun _ => ?_)
        · refine ⟨_, rfl, .inl ⟨rfl, _, SqL.of hD2⟩, _, rfl, .inl ⟨_, rfl, _, _, rfl, rfl, by show (0 : Int) < 1000; decide, D, _, _, rfl, rfl, hD2, sz_lt (by rw [List.length_map]; omega), ?_⟩⟩
          refine ⟨_, rfl, _, _, rfl, rfl, ⟨by decide, by decide⟩, e2.mut nD, ds2 ++ [c % 1000], _, _, _, _, rfl, ?_, ?_⟩
          · rw [upd_same, ints_snoc]
          · rw [List.length_append, List.length_singleton]
            omega
        · exact ⟨e2, ds2, _, c, _, _, rfl, hD2, by omega⟩
      · rintro σ H2 ⟨e2, ds2, o1, c, o4, o5, rfl, hD2, hl2⟩
        exact ⟨e2, ds2, _, _, _, _, rfl, hD2, by omega⟩
    · refine ⟨_, rfl, _, _, rfl, rfl, .inr ⟨by decide, by decide⟩, _, rfl, _, _, rfl, rfl, .inr ⟨by decide, by decide⟩, _, _, rfl, rfl, _, _, rfl, rfl, .inl ⟨_, rfl, _, _, rfl, rfl, by show (0 : Int) < 2147483399; decide, ?_⟩⟩
      refine ⟨12, rfl, by decide, by decide, for_range (n := 12) (fun j σ H' => Ex H H' ∧ ∃ (ds : List Int) (o1 o2 o4 : Option V) (c : Int), σ = [some (.ref a), some (.int 0), some (.int 63), some (.ref D), o1, o2, o4, some (.int c)] ∧ H' D = some (.lst (ds.map V.int)) ∧ ds.length ≤ 60 * i + j)
        ⟨e1, ds, _, _, _, _, rfl, hD, hl⟩ ?_ ?_⟩
      · rintro j σ H2 hj ⟨e2, ds2, o1, o2, o4, c, rfl, hD2, hl2⟩
        refine ⟨_, rfl, _, _, rfl, rfl, .inr ⟨by decide, by decide⟩, _, rfl, _, _, rfl, rfl, .inl ⟨by decide, by decide⟩, _, _, rfl, rfl, _, _, rfl, rfl, .inl ⟨_, rfl, _, _, rfl, rfl, by show (0 : Int) < 2147483563; decide, ?_⟩⟩
        refine ⟨_, rfl, .inl ⟨rfl, _, SqL.of hD2⟩, _, rfl, _, _, rfl, rfl, ⟨by decide, by decide⟩, .inl ⟨_, rfl, _, _, rfl, rfl, by show (0 : Int) < 1000; decide, D, _, _, rfl, rfl, hD2, sz_lt (by rw [List.length_map]; omega), ?_⟩⟩
        refine ⟨e2.mut nD, ds2 ++ [(c * 40014 + 5 * (0 + (j : Int)) + 3) % 2147483563 / 1009 % 1000], _, _, _, _, rfl, ?_, ?_⟩
        · rw [upd_same, ints_snoc]
        · rw [List.length_append, List.length_singleton]
          omega
      · rintro σ H2 ⟨e2, ds2, o1, o2, o4, c, rfl, hD2, hl2⟩
        exact ⟨e2, ds2, _, _, _, _, rfl, hD2, by omega⟩
  · rintro σ H1 ⟨e1, ds, o1, o2, o3, o4, rfl, hD, hl⟩
    exact ⟨_, rfl, q _ _ _ e1 nD hD⟩
end
end K6
/-! The law's trees: atom, tree. -/
namespace K6
open PySem PySem.Spec PyProof.Rows L2 Evl

/-- an item at a place -/
theorem pick (xs : List V) (r : Int) (h0 : 0 ≤ r) (h : r < (xs.length : Int)) : ∃ v, v ∈ xs ∧ atI xs r = some v := by
  have hk : r.toNat < xs.length := by omega
  have ek : r = ((r.toNat : Nat) : Int) := by omega
  have z : atI xs ((r.toNat : Nat) : Int) = some xs[r.toNat] := atI_nat (List.getElem?_eq_getElem hk)
  rw [← ek] at z
  exact ⟨_, List.getElem_mem hk, z⟩
theorem dp_strs {K : Frag} {H : Hp} : ∀ ns : List Str, DpAll K H (ns.map V.str) (ns.map PyData.str)
  | [] => .nil
  | n :: ns => .cons (.str n) (dp_strs ns)
theorem lay_strs : ∀ ns : List Str, (∀ n ∈ ns, NmOk n) → PyData.canLayAll0 (ns.map PyData.str) = true ∧ PyData.depthAll (ns.map PyData.str) = 0
  | [], _ => ⟨by simp [PyData.canLayAll0], by simp [PyData.depthAll]⟩
  | n :: ns, h => by
    obtain ⟨h1, h2⟩ := lay_strs ns fun m hm => h m (List.mem_cons_of_mem _ hm)
    refine ⟨?_, ?_⟩
    · rw [List.map_cons, PyData.canLayAll0, h1, PyData.canLay0, (h n List.mem_cons_self).2]
      rfl
    · rw [List.map_cons, PyData.depthAll, h2, PyData.depth]
      rfl
theorem shaped_strs {ns : List Str} (h : ∀ n ∈ ns, NmOk n) : SeqAt.shaped (.list (ns.map PyData.str)) = true := by
  obtain ⟨h1, h2⟩ := lay_strs ns h
  unfold SeqAt.shaped
  rw [PyData.canLay0, h1, PyData.depth, h2]
  rfl
theorem shaped_nil : SeqAt.shaped (.list []) = true := by
  unfold SeqAt.shaped
  rw [PyData.canLay0, PyData.canLayAll0, PyData.depth, PyData.depthAll]
  rfl
theorem eqv_nil (ds : List PyData) : PyData.eqv (.list ds) (.list []) = ds.isEmpty := by
  cases ds with
  | nil => rw [PyData.eqv, PyData.eqvAll]; rfl
  | cons d ds => rw [PyData.eqv, PyData.eqvAll]; rfl
theorem TreeAt.callA {K : Frag} {H : Hp} {a b : Addr} {n : Str} {us : List V} {ts : List Tree} (h1 : SqT K H a [.str "call", .str n, .ref b]) (h2 : SqT K H b us) (hA : All2 (TreeAt K H) us ts) : TreeAt K H (.ref a) (.call n ts) :=
  .call h1 h2 hA.len fun i u t hu ht => by
    obtain ⟨t', ht', h⟩ := hA.get hu
    rw [ht] at ht'
    cases ht'
    exact h
theorem TreeAt.opA {K : Frag} {H : Hp} {a : Addr} {k : Str} {us : List V} {ts : List Tree} (h1 : SqT K H a (.str k :: us)) (hk : k ∈ treeOps0) (hA : All2 (TreeAt K H) us ts) : TreeAt K H (.ref a) (.op k ts) :=
  .op h1 hk hA.len fun i u t hu ht => by
    obtain ⟨t', ht', h⟩ := hA.get hu
    rw [ht] at ht'
    cases ht'
    exact h
theorem depths_le {k : Nat} : ∀ {ts : List Tree}, (∀ t ∈ ts, t.depth ≤ k) → depths ts ≤ k
  | [], _ => by rw [depths]; omega
  | t :: ts, h => by
    rw [depths]
    exact Nat.max_le.mpr ⟨h t List.mem_cons_self, depths_le fun u hu => h u (List.mem_cons_of_mem _ hu)⟩

section
variable {P : Program} {w : World} {K : Frag} {mg : Str → Option Value} {base : Heap} {O CR CN : Addr}
/-- box, names: some atom -/
def spAtom (K : Frag) : Sp := fun vs H Q _ => ∃ (b l : Addr) (ns : List Str), vs = [.ref b, .ref l] ∧ BoxAt H b ∧ H l = some (.lst (ns.map V.str)) ∧ (∀ n ∈ ns, NmOk n) ∧
  ∀ v t H', Gr b H H' → TreeAt K H' v t → TreeOk t → t.depth ≤ 1 → Q v H'
theorem ok_law_atom (T : Txt K mg O CR CN) : Cal P w K mg base "_law_atom" 2 ["_law_box", "_law_names"] (spAtom K) := by
  have C_law_draw := ok_law_draw (P := P) (w := w) (base := base) T
  refine Cal.of T.d_law_atom sc__law_atom (fun _ _ _ _ _ _ us hl => match us, hl with | [_, _], _ => rfl) (fun vs H Q E h => ?_) (fun f cdv A outer s H vs Q E hr h => ?_)
  · obtain ⟨b, l, ns, rfl, _⟩ := h
    rfl
  obtain ⟨b, l, ns, rfl, hB, hl, hn, q⟩ := h
  refine ⟨_, (pss_cons (ps_set (i := 2) sc__law_atom.nd rfl (Or.inl rfl) (pe_cal C_law_draw (hr.mono (by omega)) rfl (pa_cons (pv 0) (pa_cons (pe_int) pa_nil))))
    (pss_cons (ps_if (PW.pt (pw_and (pt_cmpR op_le (pv 2) (pe_int) (nomark _)) (pw_and1 (pt_cmpR (op_neD hr.units) (pv 1) (pe_lst pa_nil) (nomark _))))) (pss_one (ps_ret (pe_tup (pa_cons (pe_str) (pa_cons (pe_ix ix_list (pv 1) (pe_cal C_law_draw (hr.mono (by omega)) rfl (pa_cons (pv 0) (pa_cons (pe_callB call_len_seq rfl T.zlen PySem.boot_len (pa_cons (pv 1) pa_nil)) pa_nil))) (fun _ _ => rfl)) pa_nil))))) pss_nil)
    (pss_cons (ps_if (pt_cmpR op_eq (pv 2) (pe_int) (nomark _)) (pss_one (ps_ret (pe_tup (pa_cons (pe_str) (pa_cons (pe_ix ix_list (pe_lst (pa_cons (pe_str) (pa_cons (pe_str) (pa_cons (pe_str) (pa_cons (pe_str) (pa_cons (pe_str) (pa_cons (pe_str) pa_nil))))))) (pe_cal C_law_draw (hr.mono (by omega)) rfl (pa_cons (pv 0) (pa_cons (pe_int) pa_nil))) (fun _ _ => rfl)) pa_nil))))) pss_nil)
    (pss_one (ps_ret (pe_tup (pa_cons (pe_str) (pa_cons (pe_ix ix_list (pe_lst (pa_cons (pe_int) (pa_cons (pe_int) (pa_cons (pe_int) (pa_cons (pe_int) (pa_cons (pe_int) (pa_cons (pe_int) (pa_cons (pe_int) (pa_cons (pe_int) (pa_cons (pe_int) (pa_cons (pe_int) pa_nil))))))))))) (pe_cal C_law_draw (hr.mono (by omega)) rfl (pa_cons (pv 0) (pa_cons (pe_int) pa_nil))) (fun _ _ => rfl)) pa_nil)))))))), ?_⟩
  refine ⟨_, rfl, b, 20, rfl, hB, by decide, fun r H1 h0 h1 g1 => ?_⟩
  have hl1 := g1.strs hB hl
  -- the text | the number
  have rest : ∀ H2, Gr b H H2 → tSeq (tIfS (tTest (tOp rEq (tVar 2) (tC (.int 10)))) (tRet (tTup (tCons (tC (.str "string")) (tCons (tOp (rIxL K) (tLst (tCons (tC (.str "")) (tCons (tC (.str "s")) (tCons (tC (.str "t")) (tCons (tC (.str "ab")) (tCons (tC (.str "x y")) (tCons (tC (.str "twelve signs")) tNil))))))) (tCall spDraw [] E0 (tCons (tVar 0) (tCons (tC (.int 6)) tNil)))) tNil)))) tNext)
      (tRet (tTup (tCons (tC (.str "number")) (tCons (tOp (rIxL K) (tLst (tCons (tC (.int 0)) (tCons (tC (.int 1)) (tCons (tC (.int 2)) (tCons (tC (.int 7)) (tCons (tC (.int 12)) (tCons (tC (.int 3)) (tCons (tC (.int 1)) (tCons (tC (.int 0)) (tCons (tC (.int 5)) (tCons (tC (.int 99999)) tNil))))))))))) (tCall spDraw [] E0 (tCons (tVar 0) (tCons (tC (.int 10)) tNil)))) tNil)))) { nx := fun _ H' => Q .non H', rt := Q }
      [some (.ref b), some (.ref l), some (.int r)] H2 := by
    intro H2 g2
    refine ⟨_, rfl, rfl, _, rfl, ?_⟩
    refine ite2 (fun _ => ?_) (fun _ => ?_)
    · refine ⟨Nat.le_of_lt (small1000 (by decide)), fun p np => ⟨_, rfl, b, 6, rfl, g2.1.ex (Ex.new np), by decide, fun i H3 i0 i1 g3 => ?_⟩⟩
      obtain ⟨v, _, hv⟩ := pick [.str "", .str "s", .str "t", .str "ab", .str "x y", .str "twelve signs"] i i0 i1
      have hp := g3.2 p _ (fun z => g2.1.some (by rw [← z]; exact np)) upd_same
      refine ⟨p, _, i, v, rfl, rfl, SqL.of hp, hv, two_le, fun z nz => ?_⟩
      exact q _ (.lit false v) _ ((g2.thn (Ex.new np)).trans (g3.thn (Ex.new nz))) (.lit (SqT.of upd_same)) .lit (by rw [Tree.depth]; omega)
    · refine ⟨Nat.le_of_lt (small1000 (by decide)), fun p np => ⟨_, rfl, b, 10, rfl, g2.1.ex (Ex.new np), by decide, fun i H3 i0 i1 g3 => ?_⟩⟩
      obtain ⟨v, _, hv⟩ := pick [.int 0, .int 1, .int 2, .int 7, .int 12, .int 3, .int 1, .int 0, .int 5, .int 99999] i i0 i1
      have hp := g3.2 p _ (fun z => g2.1.some (by rw [← z]; exact np)) upd_same
      refine ⟨p, _, i, v, rfl, rfl, SqL.of hp, hv, two_le, fun z nz => ?_⟩
      exact q _ (.lit true v) _ ((g2.thn (Ex.new np)).trans (g3.thn (Ex.new nz))) (.lit (SqT.of upd_same)) .lit (by rw [Tree.depth]; omega)
  refine ⟨_, rfl, _, _, rfl, rfl, _, rfl, ?_⟩
  refine ite2 (fun _ => ?_) (fun _ => rest H1 g1)
  refine ⟨_, rfl, Nat.zero_le _, fun z nz => ?_⟩
  refine ⟨_, _, .lst (SqL.of ((Ex.new nz) _ _ hl1)) (dp_strs ns), .lst (SqL.of upd_same) .nil, shaped_strs hn, shaped_nil, _, rfl, ?_⟩
  rw [eqv_nil]
  have g2 := g1.thn (Ex.new (o := .lst []) nz)
  have hl2 := (Ex.new (o := .lst []) nz) _ _ hl1
  cases ns with
  | nil => exact iteF (rest _ g2)
  | cons n0 ns =>
    refine iteT ?_
    refine ⟨_, rfl, _, rfl, _, rfl, l, _, rfl, .inl (SqL.of hl2), b, _, rfl, g2.1, by rw [List.length_map, List.length_cons]; omega, fun i H3 i0 i1 g3 => ?_⟩
    obtain ⟨v, hm, hv⟩ := pick _ i i0 i1
    obtain ⟨n, hn1, rfl⟩ := List.mem_map.mp hm
    refine ⟨l, _, i, _, rfl, rfl, SqL.of (g3.strs g2.1 hl2), hv, two_le, fun z nz => ?_⟩
    exact q _ (.name n) _ (g2.trans (g3.thn (Ex.new nz))) (.name (SqT.of upd_same)) (.name (hn n hn1)) (by rw [Tree.depth]; omega)
end
end K6
/-! The law's tree. -/
namespace K6
open PySem PySem.Spec PyProof.Rows L2 Evl

/-- a row: a function's name and how many arguments -/
def CallAt (K : Frag) (H : Hp) (v : V) (p : Str × Int) : Prop := ∃ a, v = .ref a ∧ SqT K H a [.str p.1, .int p.2]
theorem CallAt.on {K : Frag} {H H' : Hp} (e : Tups K H H') {v : V} {p : Str × Int} (h : CallAt K H v p) : CallAt K H' v p := by
  obtain ⟨a, h1, h2⟩ := h
  exact ⟨a, h1, e _ _ h2⟩
theorem refs_of {K : Frag} {H : Hp} {us : List V} {cs : List (Str × Int)} (h : All2 (CallAt K H) us cs) : ∀ u ∈ us, ∃ c, u = .ref c := fun u hu => by
  obtain ⟨i, hi⟩ := List.mem_iff_getElem?.mp hu
  obtain ⟨p, _, a, h1, _⟩ := h.get hi
  exact ⟨a, h1⟩
def CallOk (p : Str × Int) : Prop := NmOk p.1 ∧ (p.2 = 1 ∨ p.2 = 2)
/-- the box, the names, the rows -/
structure TrPre (K : Frag) (H : Hp) (b l c : Addr) (ns : List Str) (us : List V) (cs : List (Str × Int)) : Prop where
  box : BoxAt H b
  nl : H l = some (.lst (ns.map V.str))
  nn : ∀ n ∈ ns, NmOk n
  few : ns.length ≤ 1000
  cl : H c = some (.lst us)
  ca : All2 (CallAt K H) us cs
  ck : ∀ p ∈ cs, CallOk p
theorem TrPre.gr {K : Frag} {H H' : Hp} {b l c : Addr} {ns : List Str} {us : List V} {cs : List (Str × Int)} (p : TrPre K H b l c ns us cs) (g : Gr b H H') : TrPre K H' b l c ns us cs :=
  ⟨g.1, g.strs p.box p.nl, p.nn, p.few, g.refs p.box p.cl (refs_of p.ca), p.ca.imp fun _ _ z => z.on (g.tups p.box), p.ck⟩
theorem dp_calls {K : Frag} {H : Hp} : ∀ {us : List V} {cs : List (Str × Int)}, All2 (CallAt K H) us cs → DpAll K H us (cs.map fun p => .tuple [.str p.1, .int p.2])
  | [], [], _ => .nil
  | _ :: _, _ :: _, h => by
    obtain ⟨⟨a, rfl, h1⟩, h2⟩ := h
    exact .cons (.tup h1 (.cons (.str _) (.cons (.int _) .nil))) (dp_calls h2)
  | [], _ :: _, h => False.elim h
  | _ :: _, [], h => False.elim h
theorem lay_calls : ∀ cs : List (Str × Int), (∀ p ∈ cs, NmOk p.1) → PyData.canLayAll0 (cs.map fun p => PyData.tuple [.str p.1, .int p.2]) = true ∧ PyData.depthAll (cs.map fun p => PyData.tuple [.str p.1, .int p.2]) ≤ 1
  | [], _ => ⟨by simp [PyData.canLayAll0], by simp [PyData.depthAll]⟩
  | p :: cs, h => by
    obtain ⟨h1, h2⟩ := lay_calls cs fun m hm => h m (List.mem_cons_of_mem _ hm)
    have h3 := (h p List.mem_cons_self).2
    refine ⟨?_, ?_⟩
    · rw [List.map_cons, PyData.canLayAll0, h1]
      simp [PyData.canLay0, PyData.canLayAll0, h3]
    · rw [List.map_cons, PyData.depthAll]
      have e : PyData.depth (PyData.tuple [.str p.1, .int p.2]) = 1 := by simp [PyData.depth, PyData.depthAll]
      rw [e]
      omega
theorem shaped_calls {cs : List (Str × Int)} (h : ∀ p ∈ cs, NmOk p.1) : SeqAt.shaped (.list (cs.map fun p => PyData.tuple [.str p.1, .int p.2])) = true := by
  obtain ⟨h1, h2⟩ := lay_calls cs h
  unfold SeqAt.shaped
  rw [PyData.canLay0, h1, PyData.depth]
  simp only [Bool.true_and, decide_eq_true_eq]
  omega

theorem treesOk_app : ∀ {ts us : List Tree}, TreesOk ts → TreesOk us → TreesOk (ts ++ us)
  | [], _, _, h => h
  | _ :: _, _, .cons h1 h2, h => .cons h1 (treesOk_app h2 h)
section
variable {P : Program} {w : World} {K : Frag} {mg : Str → Option Value} {base : Heap} {O CR CN : Addr}
/-- box, names, calls, depth: some tree -/
def spTree (K : Frag) (k : Nat) : Sp := fun vs H Q _ => ∃ (b l c : Addr) (ns : List Str) (us : List V) (cs : List (Str × Int)) (i : Int), vs = [.ref b, .ref l, .ref c, .int i] ∧ i = (k : Int) ∧ TrPre K H b l c ns us cs ∧
  ∀ v t H', Gr b H H' → TreeAt K H' v t → TreeOk t → t.depth ≤ k + 1 → Q v H'
theorem ok_law_tree (T : Txt K mg O CR CN) : ∀ k : Nat, Cal P w K mg base "_law_tree" (k + 3) ["_law_box", "_law_names", "_law_calls_here", "_law_depth"] (spTree K k)
  | 0 => by
    have C_law_draw := ok_law_draw (P := P) (w := w) (base := base) T
    have C_law_atom := ok_law_atom (P := P) (w := w) (base := base) T
    refine Cal.of T.d_law_tree sc__law_tree (fun _ _ _ _ _ _ us hl => match us, hl with | [_, _, _, _], _ => rfl) (fun vs H Q E h => ?_) (fun f cdv A outer s H vs Q E hr h => ?_)
    · obtain ⟨b, l, c, ns, us, cs, i, rfl, _⟩ := h
      rfl
    obtain ⟨b, l, c, ns, us, cs, i, rfl, hi, hP, q⟩ := h
    refine ⟨_, pss_cons (ps_set (i := 4) sc__law_tree.nd rfl (Or.inl rfl) (pe_cal C_law_draw (hr.mono (by omega)) rfl (pa_cons (pv 0) (pa_cons (pe_int) pa_nil))))
      (pss_cons (ps_if (PW.pt (pw_or (pt_cmpR op_le (pv 3) (pe_int) (nomark _)) (pw_or1 (pt_cmpR op_le (pv 4) (pe_int) (nomark _))))) (pss_one (ps_ret (pe_cal C_law_atom (hr.mono (by omega)) rfl (pa_cons (pv 0) (pa_cons (pv 1) pa_nil))))) pss_nil) pss_never), ?_⟩
    refine ⟨_, rfl, b, 14, rfl, hP.box, by decide, fun r H1 h0 h1 g1 => ?_⟩
    have hP1 := hP.gr g1
    refine ⟨_, rfl, _, _, rfl, rfl, _, rfl, ?_⟩
    rw [decide_eq_true (show i ≤ 0 by omega)]
    refine iteT (iteT ?_)
    exact ⟨_, rfl, _, rfl, b, l, ns, rfl, hP1.box, hP1.nl, hP1.nn, fun v t H' g hv ht hd => q v t H' (g1.trans g) hv ht (by omega)⟩
  | k + 1 => by
    have C_law_draw := ok_law_draw (P := P) (w := w) (base := base) T
    have C_law_atom := ok_law_atom (P := P) (w := w) (base := base) T
    have C_law_tree := ok_law_tree T k
    refine Cal.of (k := k + 3) T.d_law_tree sc__law_tree (fun _ _ _ _ _ _ us hl => match us, hl with | [_, _, _, _], _ => rfl) (fun vs H Q E h => ?_) (fun f cdv A outer s H vs Q E hr h => ?_)
    · obtain ⟨b, l, c, ns, us, cs, i, rfl, _⟩ := h
      rfl
    obtain ⟨b, l, c, ns, us, cs, i, rfl, hi, hP, q⟩ := h
    refine ⟨_, (pss_cons (ps_set (i := 4) sc__law_tree.nd rfl (Or.inl rfl) (pe_cal C_law_draw (hr.mono (by omega)) rfl (pa_cons (pv 0) (pa_cons (pe_int) pa_nil))))
    (pss_cons (ps_if (PW.pt (pw_or (pt_cmpR op_le (pv 3) (pe_int) (nomark _)) (pw_or1 (pt_cmpR op_le (pv 4) (pe_int) (nomark _))))) (pss_one (ps_ret (pe_cal C_law_atom (hr.mono (by omega)) rfl (pa_cons (pv 0) (pa_cons (pv 1) pa_nil))))) pss_nil)
    (pss_cons (ps_if (pt_cmpR op_le (pv 4) (pe_int) (nomark _)) (pss_cons (ps_set (i := 6) sc__law_tree.nd rfl (Or.inl rfl) (pe_cal C_law_tree (hr.mono (by omega)) rfl (pa_cons (pv 0) (pa_cons (pv 1) (pa_cons (pv 2) (pa_cons (pe_op op_sub (pv 3) (pe_int)) pa_nil))))))
    (pss_one (ps_ret (pe_tup (pa_cons (pe_ix ix_list (pe_lst (pa_cons (pe_str) (pa_cons (pe_str) (pa_cons (pe_str) (pa_cons (pe_str) (pa_cons (pe_str) (pa_cons (pe_str) pa_nil))))))) (pe_cal C_law_draw (hr.mono (by omega)) rfl (pa_cons (pv 0) (pa_cons (pe_int) pa_nil))) (fun _ _ => rfl)) (pa_cons (pv 6) (pa_cons (pe_cal C_law_tree (hr.mono (by omega)) rfl (pa_cons (pv 0) (pa_cons (pv 1) (pa_cons (pv 2) (pa_cons (pe_op op_sub (pv 3) (pe_int)) pa_nil))))) pa_nil))))))) pss_nil)
    (pss_cons (ps_if (pt_cmpR op_eq (pv 4) (pe_int) (nomark _)) (pss_cons (ps_set (i := 6) sc__law_tree.nd rfl (Or.inl rfl) (pe_cal C_law_tree (hr.mono (by omega)) rfl (pa_cons (pv 0) (pa_cons (pv 1) (pa_cons (pv 2) (pa_cons (pe_op op_sub (pv 3) (pe_int)) pa_nil))))))
    (pss_cons (ps_set (i := 7) sc__law_tree.nd rfl (Or.inl rfl) (pe_cal C_law_tree (hr.mono (by omega)) rfl (pa_cons (pv 0) (pa_cons (pv 1) (pa_cons (pv 2) (pa_cons (pe_op op_sub (pv 3) (pe_int)) pa_nil))))))
    (pss_one (ps_ret (pe_tup (pa_cons (pe_str) (pa_cons (pv 6) (pa_cons (pv 7) (pa_cons (pe_cal C_law_tree (hr.mono (by omega)) rfl (pa_cons (pv 0) (pa_cons (pv 1) (pa_cons (pv 2) (pa_cons (pe_op op_sub (pv 3) (pe_int)) pa_nil))))) pa_nil))))))))) pss_nil)
    (pss_cons (ps_setLc (i := 5) (own := [("_law_name", 8)]) rfl sc__law_tree.nd rfl rfl (sw_true rfl rfl rfl (by decide +kernel)) (pi_list (pv 1)) (blkOk_by (own := [("_law_name", 8)]) (N := ["_law_box", "_law_names", "_law_calls_here", "_law_depth", "_law_kind", "_law_plain", "_law_first", "_law_second", "_law_name", "_law_many", "_law_k"]) (sc := defScope s__law_tree) (by decide +kernel)) (fun _ _ _ _ _ => pg_name (i := 8) sc__law_tree.nd rfl (Or.inl rfl)) (fun _ _ _ _ _ => pts_one (pt_cmpR (show OpR _ _ (rIn K true) from op_notIn_seq) (pv 8) (pe_tup (pa_cons (pe_str) (pa_cons (pe_str) pa_nil))) rfl)) (fun _ _ _ _ _ => pv 8))
    (pss_cons (ps_if (PW.pt (pw_and (pt_cmpR op_eq (pv 4) (pe_int) (nomark _)) (pw_and1 (pt_cmpR (op_neD hr.units) (pv 5) (pe_lst pa_nil) (nomark _))))) (pss_one (ps_ret (pe_tup (pa_cons (pe_str) (pa_cons (pe_ix ix_list (pv 5) (pe_cal C_law_draw (hr.mono (by omega)) rfl (pa_cons (pv 0) (pa_cons (pe_callB call_len_seq rfl T.zlen PySem.boot_len (pa_cons (pv 5) pa_nil)) pa_nil))) (fun _ _ => rfl)) (pa_cons (pe_cal C_law_tree (hr.mono (by omega)) rfl (pa_cons (pv 0) (pa_cons (pv 1) (pa_cons (pv 2) (pa_cons (pe_op op_sub (pv 3) (pe_int)) pa_nil))))) pa_nil)))))) pss_nil)
    (pss_cons (ps_if (pt_cmpR op_eq (pv 4) (pe_int) (nomark _)) (pss_cons (ps_set (i := 6) sc__law_tree.nd rfl (Or.inl rfl) (pe_cal C_law_tree (hr.mono (by omega)) rfl (pa_cons (pv 0) (pa_cons (pv 1) (pa_cons (pv 2) (pa_cons (pe_op op_sub (pv 3) (pe_int)) pa_nil))))))
    (pss_one (ps_ret (pe_tup (pa_cons (pe_str) (pa_cons (pv 6) (pa_cons (pe_cal C_law_tree (hr.mono (by omega)) rfl (pa_cons (pv 0) (pa_cons (pv 1) (pa_cons (pv 2) (pa_cons (pe_op op_sub (pv 3) (pe_int)) pa_nil))))) pa_nil))))))) pss_nil)
    (pss_cons (ps_if (pt_cmpR (op_eqD hr.units) (pv 2) (pe_lst pa_nil) (nomark _)) (pss_one (ps_ret (pe_cal C_law_atom (hr.mono (by omega)) rfl (pa_cons (pv 0) (pa_cons (pv 1) pa_nil))))) pss_nil)
    (pss_cons (ps_asg (pe_ix ix_list (pv 2) (pe_cal C_law_draw (hr.mono (by omega)) rfl (pa_cons (pv 0) (pa_cons (pe_callB call_len_seq rfl T.zlen PySem.boot_len (pa_cons (pv 2) pa_nil)) pa_nil))) (fun _ _ => rfl)) (pg_tup rfl (pgs_cons (pg_name (i := 8) sc__law_tree.nd rfl (Or.inl rfl)) (pgs_cons (pg_name (i := 9) sc__law_tree.nd rfl (Or.inl rfl)) pgs_nil))))
    (pss_one (ps_ret (pe_tup (pa_cons (pe_str) (pa_cons (pv 8) (pa_cons (pe_callTy call_tuple_of rfl T.ztuple (by decide +kernel) (pa_cons (pe_lc (own := [("_law_k", 10)]) rfl sc__law_tree.nd (pi_range1 rfl T.zrange (pa_cons (pv 9) pa_nil)) (blkOk_by (own := [("_law_k", 10)]) (N := ["_law_box", "_law_names", "_law_calls_here", "_law_depth", "_law_kind", "_law_plain", "_law_first", "_law_second", "_law_name", "_law_many", "_law_k"]) (sc := defScope s__law_tree) (by decide +kernel)) (fun _ _ _ _ _ => pg_name (i := 10) sc__law_tree.nd rfl (Or.inl rfl)) (fun _ _ _ _ _ => pts_nil) (fun _ _ _ _ _ => pe_cal C_law_tree (hr.mono (by omega)) rfl (pa_cons (pv 0) (pa_cons (pv 1) (pa_cons (pv 2) (pa_cons (pe_op op_sub (pv 3) (pe_int)) pa_nil)))))) pa_nil)) pa_nil))))))))))))))), ?_⟩
    refine ⟨_, rfl, b, 14, rfl, hP.box, by decide, fun r H1 h0 h1 g1 => ?_⟩
    have hP1 := hP.gr g1
    refine ⟨_, rfl, _, _, rfl, rfl, _, rfl, ?_⟩
    rw [decide_eq_false (show ¬ i ≤ 0 by omega)]
    refine iteF ⟨_, rfl, _, _, rfl, rfl, _, rfl, ?_⟩
    refine ite2 (fun _ => ?_) (fun _ => ?_)
    · exact ⟨_, rfl, _, rfl, b, l, ns, rfl, hP1.box, hP1.nl, hP1.nn, fun v t H' g hv ht hd => q v t H' (g1.trans g) hv ht (by omega)⟩
    refine ⟨_, rfl, _, _, rfl, rfl, _, rfl, ?_⟩
    refine ite2 (fun _ => ?_) (fun _ => ?_)
    · -- first, second: a sign
      refine ⟨_, rfl, _, rfl, _, rfl, _, rfl, _, _, rfl, rfl, b, l, c, ns, us, cs, _, rfl, by omega, hP1, fun v1 t1 H2 g2 hv1 ht1 hd1 => ?_⟩
      have hP2 := hP1.gr g2
      refine ⟨Nat.le_of_lt (small1000 (by decide)), fun p np => ⟨_, rfl, b, 6, rfl, hP2.box.ex (Ex.new np), by decide, fun j H3 j0 j1 g3 => ?_⟩⟩
      obtain ⟨sv, hsm, hsv⟩ := pick ((["+", "-", "*", "<", "=", "+"] : List Str).map V.str) j j0 j1
      obtain ⟨sg, hsg, rfl⟩ := List.mem_map.mp hsm
      have hp := g3.2 p _ (fun z => hP2.box.some (by rw [← z]; exact np)) upd_same
      refine ⟨p, _, j, _, rfl, rfl, SqL.of hp, hsv, _, rfl, ?_⟩
      have g13 := g1.trans (g2.trans ((Gr.ex hP2.box (Ex.new (o := .lst [.str "+", .str "-", .str "*", .str "<", .str "=", .str "+"]) np)).trans g3))
      have hP3 := hP.gr g13
      refine ⟨_, rfl, _, rfl, _, rfl, _, rfl, _, _, rfl, rfl, b, l, c, ns, us, cs, _, rfl, by omega, hP3, fun v2 t2 H4 g4 hv2 ht2 hd2 => ⟨three_le, fun z nz => ?_⟩⟩
      have g24 : Gr b H2 H4 := (Gr.ex hP2.box (Ex.new (o := .lst [.str "+", .str "-", .str "*", .str "<", .str "=", .str "+"]) np)).trans (g3.trans g4)
      refine q _ (.op sg [t1, t2]) _ (g13.trans (g4.thn (Ex.new nz))) (.opA (us := [v1, v2]) (SqT.of upd_same) ?_ ⟨(hv1.on (g24.tups hP2.box)).on (Tups.ex (Ex.new nz)), hv2.on (Tups.ex (Ex.new nz)), True.intro⟩) (.op (.cons ht1 (.cons ht2 .nil))) ?_
      · simp only [List.mem_cons, List.not_mem_nil, or_false] at hsg
        rcases hsg with rfl | rfl | rfl | rfl | rfl | rfl <;> decide +kernel
      · rw [Tree.depth, depths, depths, depths]
        omega
    refine ⟨_, rfl, rfl, _, rfl, ?_⟩
    refine ite2 (fun _ => ?_) (fun _ => ?_)
    · -- if
      refine ⟨_, rfl, _, rfl, _, rfl, _, rfl, _, _, rfl, rfl, b, l, c, ns, us, cs, _, rfl, by omega, hP1, fun v1 t1 H2 g2 hv1 ht1 hd1 => ?_⟩
      have hP2 := hP1.gr g2
      refine ⟨_, rfl, _, rfl, _, rfl, _, rfl, _, _, rfl, rfl, b, l, c, ns, us, cs, _, rfl, by omega, hP2, fun v2 t2 H3 g3 hv2 ht2 hd2 => ?_⟩
      have hP3 := hP2.gr g3
      refine ⟨_, rfl, _, rfl, _, rfl, _, rfl, _, rfl, _, rfl, _, _, rfl, rfl, b, l, c, ns, us, cs, _, rfl, by omega, hP3, fun v3 t3 H4 g4 hv3 ht3 hd3 => ⟨four_le, fun z nz => ?_⟩⟩
      have eZ := Tups.ex (K := K) (Ex.new (o := .tup [.str "if", v1, v2, v3]) nz)
      refine q _ (.op "if" [t1, t2, t3]) _ (g1.trans (g2.trans (g3.trans (g4.thn (Ex.new nz))))) (.opA (us := [v1, v2, v3]) (SqT.of upd_same) (by decide +kernel) ⟨(hv1.on ((g3.trans g4).tups hP2.box)).on eZ, (hv2.on (g4.tups hP3.box)).on eZ, hv3.on eZ, True.intro⟩) (.op (.cons ht1 (.cons ht2 (.cons ht3 .nil)))) ?_
      rw [Tree.depth, depths, depths, depths, depths]
      omega
    -- plain = [name for name in names if name not in ("p", "q")]
    refine ⟨_, rfl, l, rfl, ⟨_, SqL.of hP1.nl⟩, fun D nD => ?_⟩
    refine lc_list (K := K) (a := l) (xs := ns.map V.str) (fun i H' => Ex H1 H' ∧ ∃ ps : List Str, H' D = some (.lst (ps.map V.str)) ∧ (∀ n ∈ ps, n ∈ ns) ∧ ps.length ≤ i) ⟨Ex.new nD, [], upd_same, fun _ z => absurd z List.not_mem_nil, Nat.le_refl _⟩ (fun i H' _ z => SqL.of (z.1 _ _ hP1.nl)) ?_ ?_
    · rintro j x H2 hj ⟨e2, ps, hD, hps, hlen⟩
      have hjl : j < ns.length := by
        have := (List.getElem?_eq_some_iff.mp hj).1
        rw [List.length_map] at this
        exact this
      have few := hP.few
      obtain ⟨n, hn, rfl⟩ := List.mem_map.mp (List.mem_of_getElem? hj)
      refine ⟨rfl, _, rfl, two_le, fun t nt => ⟨t, _, rfl, .inr (SqT.of upd_same), rfl, rfl, _, rfl, ?_⟩⟩
      have e3 := e2.trans (Ex.new (o := .tup [.str "p", .str "q"]) nt)
      have hD3 := (Ex.new (o := .tup [.str "p", .str "q"]) nt) _ _ hD
      refine ite2 (fun _ => ?_) (fun _ => ?_)
      · refine ⟨_, rfl, _, hD3, small1000 (by rw [List.length_map]; omega), e3.mut nD, ps ++ [n], ?_, fun m hm => ?_, ?_⟩
        · rw [upd_same, List.map_append]
          rfl
        · rcases List.mem_append.mp hm with z | z
          · exact hps m z
          · rw [List.mem_singleton.mp z]
            exact hn
        · rw [List.length_append, List.length_singleton]
          omega
      · exact ⟨e3, ps, hD3, hps, by omega⟩
    rintro H2 ⟨e2, ps, hD, hps, hpl⟩
    rw [List.length_map] at hpl
    have hP2 := hP1.gr (Gr.ex hP1.box e2)
    have g2 := g1.thn e2
    -- behind «set»: then | call
    have rest : ∀ H3, Ex H2 H3 → tSeq (tIfS (tTest (tOp rEq (tVar 4) (tC (.int 11)))) (tSeq (tAsg (tCall (spTree K k) [] E0 (tCons (tVar 0) (tCons (tVar 1) (tCons (tVar 2) (tCons (tOp (rI0 fun i j => .int (i - j)) (tVar 3) (tC (.int 1))) tNil))))) (gName 6))
        (tRet (tTup (tCons (tC (.str "then")) (tCons (tVar 6) (tCons (tCall (spTree K k) [] E0 (tCons (tVar 0) (tCons (tVar 1) (tCons (tVar 2) (tCons (tOp (rI0 fun i j => .int (i - j)) (tVar 3) (tC (.int 1))) tNil))))) tNil)))))) tNext)
        (tSeq (tIfS (tTest (tOp (rEqD K) (tVar 2) (tLst tNil))) (tRet (tCall (spAtom K) [] E0 (tCons (tVar 0) (tCons (tVar 1) tNil)))) tNext)
        (tSeq (tAsg (tOp (rIxL K) (tVar 2) (tCall spDraw [] E0 (tCons (tVar 0) (tCons (tCB (fun xs H Q => ∃ p ys, xs = [.ref p] ∧ (SqL K H p ys ∨ SqT K H p ys) ∧ Q (.int ys.length) H) (tCons (tVar 2) tNil)) tNil)))) (gTup K 2 (gCons (gName 8) (gCons (gName 9) gNil))))
        (tRet (tTup (tCons (tC (.str "call")) (tCons (tVar 8) (tCons (tCB (fun xs H Q => ∃ p ys, xs = [.ref p] ∧ ((SqL K H p ys ∧ ∀ l, H l = none → Q (.ref l) (upd H l (.tup ys))) ∨ (SqT K H p ys ∧ Q (.ref p) H)))
          (tCons (tLc (iRng1 (tCons (tVar 9) tNil)) (gName 10) tYes (tCall (spTree K k) [] E0 (tCons (tVar 0) (tCons (tVar 1) (tCons (tVar 2) (tCons (tOp (rI0 fun i j => .int (i - j)) (tVar 3) (tC (.int 1))) tNil))))) [10]) tNil)) tNil)))))))
        { nx := fun _ H' => Q .non H', rt := Q } [some (.ref b), some (.ref l), some (.ref c), some (.int i), some (.int r), some (.ref D), none, none, none, none, none] H3 := by
      intro H3 e3
      have hP3 := hP2.gr (Gr.ex hP2.box e3)
      have g3 := g2.thn e3
      refine ⟨_, rfl, rfl, _, rfl, ?_⟩
      refine ite2 (fun _ => ?_) (fun _ => ?_)
      · refine ⟨_, rfl, _, rfl, _, rfl, _, rfl, _, _, rfl, rfl, b, l, c, ns, us, cs, _, rfl, by omega, hP3, fun v1 t1 H4 g4 hv1 ht1 hd1 => ?_⟩
        have hP4 := hP3.gr g4
        refine ⟨_, rfl, _, rfl, _, rfl, _, rfl, _, rfl, _, _, rfl, rfl, b, l, c, ns, us, cs, _, rfl, by omega, hP4, fun v2 t2 H5 g5 hv2 ht2 hd2 => ⟨three_le, fun z nz => ?_⟩⟩
        have eZ := Tups.ex (K := K) (Ex.new (o := .tup [.str "then", v1, v2]) nz)
        refine q _ (.op "then" [t1, t2]) _ (g3.trans (g4.trans (g5.thn (Ex.new nz)))) (.opA (us := [v1, v2]) (SqT.of upd_same) (by decide +kernel) ⟨(hv1.on (g5.tups hP4.box)).on eZ, hv2.on eZ, True.intro⟩) (.op (.cons ht1 (.cons ht2 .nil))) ?_
        rw [Tree.depth, depths, depths, depths]
        omega
      refine ⟨_, rfl, Nat.zero_le _, fun z nz => ?_⟩
      have e4 := Ex.new (o := .lst []) nz
      have hP4 := hP3.gr (Gr.ex hP3.box e4)
      have g4 := g3.thn e4
      refine ⟨_, _, .lst (SqL.of hP4.cl) (dp_calls hP4.ca), .lst (SqL.of upd_same) .nil, shaped_calls fun p hp => (hP.ck p hp).1, shaped_nil, _, rfl, ?_⟩
      rw [eqv_nil]
      by_cases hne : cs = []
      · rw [hne]
        exact iteT ⟨_, rfl, _, rfl, b, l, ns, rfl, hP4.box, hP4.nl, hP4.nn, fun v t H' g hv ht hd => q v t H' (g4.trans g) hv ht (by omega)⟩
      have hpos : 0 < cs.length := List.length_pos_iff.mpr hne
      have hlen := hP.ca.len
      rw [show (cs.map fun p => PyData.tuple [.str p.1, .int p.2]).isEmpty = false by cases cs with | nil => exact absurd rfl hne | cons x r => rfl]
      refine iteF ?_
      refine ⟨_, rfl, _, rfl, _, rfl, c, us, rfl, .inl (SqL.of hP4.cl), b, _, rfl, hP4.box, by omega, fun j H5 j0 j1 g5 => ?_⟩
      have hP5 := hP4.gr g5
      obtain ⟨v, hm, hv⟩ := pick _ j j0 j1
      obtain ⟨ix, hix⟩ := List.mem_iff_getElem?.mp hm
      obtain ⟨p, hp, pa, rfl, hpa⟩ := hP5.ca.get hix
      have pok := hP.ck p (List.mem_of_getElem? hp)
      refine ⟨c, us, j, _, rfl, rfl, SqL.of hP5.cl, hv, pa, _, rfl, hpa, rfl, _, _, rfl, _, _, rfl, rfl, ?_⟩
      refine ⟨_, rfl, _, rfl, p.2, rfl, by rcases pok.2 with z | z <;> rw [z] <;> decide, by rcases pok.2 with z | z <;> rw [z] <;> decide, fun D2 nD2 => ?_⟩
      have hDb : D2 ≠ b := fun z => hP5.box.some (by rw [← z]; exact nD2)
      have h2 : p.2.toNat ≤ 2 := by rcases pok.2 with z | z <;> rw [z] <;> decide
      refine lc_range (lo := 0) (n := p.2.toNat) (fun m H' => Gr b H5 H' ∧ ∃ (vs : List V) (ts : List Tree), H' D2 = some (.lst vs) ∧ vs.length = m ∧ All2 (TreeAt K H') vs ts ∧ TreesOk ts ∧ ∀ t ∈ ts, t.depth ≤ k + 1)
        ⟨Gr.ex hP5.box (Ex.new nD2), [], [], upd_same, rfl, True.intro, .nil, fun _ z => absurd z List.not_mem_nil⟩ ?_ ?_
      · rintro m H6 hm2 ⟨g6, vs, ts, hD6, hl6, hA, hok, hdp⟩
        have hP6 := hP5.gr g6
        refine ⟨rfl, _, rfl, _, rfl, _, rfl, _, rfl, _, _, rfl, rfl, b, l, c, ns, us, cs, _, rfl, by omega, hP6, fun v1 t1 H7 g7 hv1 ht1 hd1 => ?_⟩
        refine ⟨vs, g7.same D2 _ hDb hD6, small1000 (by omega), ?_⟩
        have t78 : Tups K H7 (upd H7 D2 (.lst (vs ++ [v1]))) := fun a ys ha => by
          have hD7 := g7.same D2 _ hDb hD6
          rcases ha with (ha | ⟨o, ha⟩) | ha
          · exact .inl (.inl (by rw [upd_ne (fun z => by rw [z, hD7] at ha; cases ha)]; exact ha))
          · exact .inl (.inr ⟨o, by rw [upd_ne (fun z => by rw [z, hD7] at ha; cases ha)]; exact ha⟩)
          · exact .inr ha
        refine ⟨Gr.mut hP5.box (g6.trans g7) nD2, vs ++ [v1], ts ++ [t1], upd_same, by rw [List.length_append, List.length_singleton, hl6], ?_, ?_, fun t ht => ?_⟩
        · exact All2.append (hA.imp fun _ _ z => (z.on (g7.tups hP6.box)).on t78) ⟨hv1.on t78, True.intro⟩
        · exact treesOk_app hok (.cons ht1 .nil)
        · rcases List.mem_append.mp ht with z | z
          · exact hdp t z
          · rw [List.mem_singleton.mp z]
            exact hd1
      · rintro H6 ⟨g6, vs, ts, hD6, hl6, hA, hok, hdp⟩
        refine ⟨D2, vs, rfl, .inl ⟨SqL.of hD6, fun tl ntl => ⟨three_le, fun z nz => ?_⟩⟩⟩
        have eT := Ex.new (o := .tup vs) ntl
        have eZ := Ex.new (o := .tup [.str "call", .str p.1, .ref tl]) nz
        refine q _ (.call p.1 ts) _ (g4.trans (g5.trans ((g6.thn eT).thn eZ))) (.callA (b := tl) (us := vs) (SqT.of upd_same) (SqT.of (eZ _ _ upd_same)) (hA.imp fun _ _ y => y.on (Tups.ex (eT.trans eZ)))) (.call pok.1 hok) ?_
        have := depths_le hdp
        rw [Tree.depth]
        omega
    refine ⟨_, rfl, rfl, _, rfl, ?_⟩
    refine ite2 (fun _ => ?_) (fun _ => rest H2 (Ex.refl _))
    refine ⟨_, rfl, Nat.zero_le _, fun z nz => ?_⟩
    have e3 := Ex.new (o := .lst []) nz
    have hP3 := hP2.gr (Gr.ex hP2.box e3)
    have hD3 := e3 _ _ hD
    refine ⟨_, _, .lst (SqL.of hD3) (dp_strs ps), .lst (SqL.of upd_same) .nil, shaped_strs (fun n hn => hP.nn n (hps n hn)), shaped_nil, _, rfl, ?_⟩
    rw [eqv_nil]
    by_cases hne : ps = []
    · rw [hne]
      exact iteF (rest _ e3)
    have hpos : 0 < ps.length := List.length_pos_iff.mpr hne
    rw [show (ps.map PyData.str).isEmpty = false by cases ps with | nil => exact absurd rfl hne | cons x r => rfl]
    refine iteT ?_
    refine ⟨_, rfl, _, rfl, _, rfl, D, _, rfl, .inl (SqL.of hD3), b, _, rfl, hP3.box, by rw [List.length_map]; omega, fun j H4 j0 j1 g4 => ?_⟩
    obtain ⟨v, hm, hv⟩ := pick _ j j0 j1
    obtain ⟨n, hn1, rfl⟩ := List.mem_map.mp hm
    have hP4 := hP3.gr g4
    refine ⟨D, _, j, _, rfl, rfl, SqL.of (g4.strs hP3.box hD3), hv, _, rfl, _, rfl, _, rfl, _, rfl, _, _, rfl, rfl, b, l, c, ns, us, cs, _, rfl, by omega, hP4, fun v1 t1 H5 g5 hv1 ht1 hd1 => ⟨three_le, fun z nz => ?_⟩⟩
    refine q _ (.set n t1) _ ((g2.thn e3).trans (g4.trans (g5.thn (Ex.new nz)))) (.set (SqT.of upd_same) (hv1.on (Tups.ex (Ex.new nz)))) (.set (hP.nn n (hps n hn1)) ht1) ?_
    rw [Tree.depth]
    omega
end
end K6
/-! The law's own names and import lines. -/
namespace K6
open PySem PySem.Spec PyProof.Rows L2 Evl

def abc : List Str := ["a", "b", "c"]
def ownNms (o : Str) : List Str := ["x" ++ o, "y" ++ o, "k" ++ o, "f" ++ o, "g" ++ o]
def ownPs (o : Str) : List (Str × Str) := [("x" ++ o, "let"), ("y" ++ o, "let"), ("k" ++ o, "keep"), ("f" ++ o, "fn"), ("g" ++ o, "fn")]
theorem own_nm {o n : Str} (ho : o ∈ abc) (hn : n ∈ ownNms o) : NmOk n ∧ NmOk ("z" ++ n) ∧ n.cps.toList ≠ [] ∧ n.length ≤ 10 := by
  have h : ∀ o ∈ abc, ∀ n ∈ ownNms o, NmOk n ∧ NmOk ("z" ++ n) ∧ n.cps.toList ≠ [] ∧ n.length ≤ 10 := by decide +kernel
  exact h o ho n hn
theorem abc_len {o : Str} (ho : o ∈ abc) : o.length ≤ 10 ∧ NmOk o := by
  have h : ∀ o ∈ abc, o.length ≤ 10 ∧ NmOk o := by decide +kernel
  exact h o ho
theorem ownPs_mem {o : Str} {p : Str × Str} (h : p ∈ ownPs o) : p.1 ∈ ownNms o := by
  unfold ownPs at h
  unfold ownNms
  simp only [List.mem_cons, List.not_mem_nil, or_false] at h ⊢
  rcases h with rfl | rfl | rfl | rfl | rfl <;> simp
/-- an import line of the module nm, from one of os -/
def ImpOk (os : List Str) (nm : Str) (l : Line) : Prop := ∃ (o : Str) (ps : List (Str × Str)), l = .imp false ps o ∧ o ∈ os ∧ o ≠ nm ∧ ps.length ≤ 5 ∧ ∀ p ∈ ps, p.1 ∈ ownNms o ∧ (p.2 = p.1 ∨ p.2 = "z" ++ p.1)
theorem Tups.lst {K : Frag} {H : Hp} {D : Addr} {xs ys : List V} (hD : H D = some (.lst xs)) : Tups K H (upd H D (.lst ys)) := fun b zs hb => by
  rcases hb with (hb | ⟨o, hb⟩) | hb
  · exact .inl (.inl (by rw [upd_ne (fun z => by rw [z, hD] at hb; cases hb)]; exact hb))
  · exact .inl (.inr ⟨o, by rw [upd_ne (fun z => by rw [z, hD] at hb; cases hb)]; exact hb⟩)
  · exact .inr hb
theorem dp_pairs {K : Frag} {H : Hp} : ∀ {us : List V} {ps : List (Str × Str)}, All2 (PairAt K H) us ps → DpAll K H us (ps.map fun p => .tuple [.str p.1, .str p.2])
  | [], [], _ => .nil
  | _ :: _, _ :: _, h => by
    obtain ⟨⟨a, rfl, h1⟩, h2⟩ := h
    exact .cons (.tup h1 (.cons (.str _) (.cons (.str _) .nil))) (dp_pairs h2)
  | [], _ :: _, h => False.elim h
  | _ :: _, [], h => False.elim h
theorem lay_pairs : ∀ ps : List (Str × Str), (∀ p ∈ ps, NmOk p.1 ∧ NmOk p.2) → PyData.canLayAll0 (ps.map fun p => PyData.tuple [.str p.1, .str p.2]) = true ∧ PyData.depthAll (ps.map fun p => PyData.tuple [.str p.1, .str p.2]) ≤ 1
  | [], _ => ⟨by simp [PyData.canLayAll0], by simp [PyData.depthAll]⟩
  | p :: ps, h => by
    obtain ⟨h1, h2⟩ := lay_pairs ps fun m hm => h m (List.mem_cons_of_mem _ hm)
    have h3 := (h p List.mem_cons_self).1.2
    have h4 := (h p List.mem_cons_self).2.2
    refine ⟨?_, ?_⟩
    · rw [List.map_cons, PyData.canLayAll0, h1]
      simp [PyData.canLay0, PyData.canLayAll0, h3, h4]
    · rw [List.map_cons, PyData.depthAll]
      have e : PyData.depth (PyData.tuple [.str p.1, .str p.2]) = 1 := by simp [PyData.depth, PyData.depthAll]
      rw [e]
      omega
theorem shaped_pairs {ps : List (Str × Str)} (h : ∀ p ∈ ps, NmOk p.1 ∧ NmOk p.2) : SeqAt.shaped (.list (ps.map fun p => PyData.tuple [.str p.1, .str p.2])) = true := by
  obtain ⟨h1, h2⟩ := lay_pairs ps h
  unfold SeqAt.shaped
  rw [PyData.canLay0, h1, PyData.depth]
  simp only [Bool.true_and, decide_eq_true_eq]
  omega
theorem add_le {a b : Str} (h : a.length + b.length ≤ 1000) : a.length + b.length ≤ sizeLine := Nat.le_of_lt (small1000 h)

section
variable {P : Program} {w : World} {K : Frag} {mg : Str → Option Value} {base : Heap} {O CR CN : Addr}
/-- name: the five own names with their kinds -/
def spOwnL (K : Frag) : Sp := fun vs H Q _ => ∃ (o : Str), vs = [.str o] ∧ o.length ≤ 10 ∧ ∀ D us H', Ex H H' → H D = none → H' D = some (.lst us) → All2 (PairAt K H') us (ownPs o) → Q (.ref D) H'
theorem ok_law_own (T : Txt K mg O CR CN) : Cal P w K mg base "_law_own" 1 ["_law_name"] (spOwnL K) := by
  refine Cal.of T.d_law_own sc__law_own (fun _ _ _ _ _ _ us hl => match us, hl with | [_], _ => rfl) (fun vs H Q E h => ?_) (fun f cdv A outer s H vs Q E hr h => ?_)
  · obtain ⟨o, rfl, _⟩ := h
    rfl
  obtain ⟨o, rfl, ho, q⟩ := h
  refine ⟨_, (pss_one (ps_ret (pe_lst (pa_cons (pe_tup (pa_cons (pe_op op_add_str (pe_str) (pv 0)) (pa_cons (pe_str) pa_nil))) (pa_cons (pe_tup (pa_cons (pe_op op_add_str (pe_str) (pv 0)) (pa_cons (pe_str) pa_nil))) (pa_cons (pe_tup (pa_cons (pe_op op_add_str (pe_str) (pv 0)) (pa_cons (pe_str) pa_nil))) (pa_cons (pe_tup (pa_cons (pe_op op_add_str (pe_str) (pv 0)) (pa_cons (pe_str) pa_nil))) (pa_cons (pe_tup (pa_cons (pe_op op_add_str (pe_str) (pv 0)) (pa_cons (pe_str) pa_nil))) pa_nil)))))))), ?_⟩
  have one : ∀ z : Str, z.length = 1 → z.length + o.length ≤ sizeLine := fun z hz => add_le (by omega)
  refine ⟨_, rfl, _, _, rfl, rfl, one _ rfl, two_le, fun p1 n1 => ⟨_, rfl, _, _, rfl, rfl, one _ rfl, two_le, fun p2 n2 => ⟨_, rfl, _, _, rfl, rfl, one _ rfl, two_le, fun p3 n3 => ⟨_, rfl, _, _, rfl, rfl, one _ rfl, two_le, fun p4 n4 => ⟨_, rfl, _, _, rfl, rfl, one _ rfl, two_le, fun p5 n5 => ⟨five_le, fun D nD => ?_⟩⟩⟩⟩⟩⟩
  have e1 := Ex.new (o := .tup [.str ("x" ++ o), .str "let"]) n1
  have e2 := Ex.new (o := .tup [.str ("y" ++ o), .str "let"]) n2
  have e3 := Ex.new (o := .tup [.str ("k" ++ o), .str "keep"]) n3
  have e4 := Ex.new (o := .tup [.str ("f" ++ o), .str "fn"]) n4
  have e5 := Ex.new (o := .tup [.str ("g" ++ o), .str "fn"]) n5
  have e6 := Ex.new (o := .lst [.ref p1, .ref p2, .ref p3, .ref p4, .ref p5]) nD
  have eD := e1.trans (e2.trans (e3.trans (e4.trans e5)))
  refine q D [.ref p1, .ref p2, .ref p3, .ref p4, .ref p5] _ (eD.trans e6) (fresh_back eD nD) upd_same ⟨⟨p1, rfl, SqT.of (e6 _ _ (e5 _ _ (e4 _ _ (e3 _ _ (e2 _ _ upd_same)))))⟩, ⟨p2, rfl, SqT.of (e6 _ _ (e5 _ _ (e4 _ _ (e3 _ _ upd_same))))⟩, ⟨p3, rfl, SqT.of (e6 _ _ (e5 _ _ (e4 _ _ upd_same)))⟩, ⟨p4, rfl, SqT.of (e6 _ _ (e5 _ _ upd_same))⟩, ⟨p5, rfl, SqT.of (e6 _ _ upd_same)⟩, True.intro⟩
/-- box, name, others: import lines -/
def spImports (K : Frag) : Sp := fun vs H Q _ => ∃ (b o : Addr) (nm : Str) (os : List Str), vs = [.ref b, .str nm, .ref o] ∧ BoxAt H b ∧ H o = some (.lst (os.map V.str)) ∧ (∀ x ∈ os, x ∈ abc) ∧ os.length ≤ 3 ∧ nm ∈ abc ∧
  ∀ D us ls H', Gr b H H' → H D = none → H' D = some (.lst us) → All2 (LineAt K H') us ls → (∀ l ∈ ls, ImpOk os nm l) → ls.length ≤ 3 → Q (.ref D) H'
/-- wanted = other > name or draw(box, 12) == 0 -/
theorem or_draw {u : TS} {D : Ends} {σ : L2.St} {H : Hp} {b : Addr} {x y : Str} (hB : BoxAt H b) (h0 : σ[0]? = some (some (.ref b))) (h5 : σ[5]? = some (some (.str x))) (h1 : σ[1]? = some (some (.str y))) (h : ∀ (H2 : Hp) (wv : Bool), Gr b H H2 → u D (σ.set 6 (some (.bl wv))) H2) :
    tSeq (tAsg (tOrV (tOp (fun x y H Q => ∃ i j, x = .str i ∧ y = .str j ∧ Q (.bl (decide (j.cps.toList < i.cps.toList))) H) (tVar 5) (tVar 1)) (tOp rEq (tCall spDraw [] E0 (tCons (tVar 0) (tCons (tC (.int 12)) tNil))) (tC (.int 0)))) (gName 6)) u D σ H := by
  refine ⟨_, h5, _, h1, _, _, rfl, rfl, _, rfl, ?_⟩
  refine ite2 (fun _ => h H true (Gr.refl hB)) (fun _ => ?_)
  exact ⟨_, h0, b, 12, rfl, hB, by decide, fun r H2 _ _ g => ⟨rfl, h H2 _ g⟩⟩
theorem ok_law_imports (T : Txt K mg O CR CN) : Cal P w K mg base "_law_imports" 2 ["_law_box", "_law_name", "_law_others"] (spImports K) := by
  have C_law_draw := ok_law_draw (P := P) (w := w) (base := base) T
  have C_law_own := ok_law_own (P := P) (w := w) (base := base) T
  refine Cal.of T.d_law_imports sc__law_imports (fun _ _ _ _ _ _ us hl => match us, hl with | [_, _, _], _ => rfl) (fun vs H Q E h => ?_) (fun f cdv A outer s H vs Q E hr h => ?_)
  · obtain ⟨b, o, nm, os, rfl, _⟩ := h
    rfl
  obtain ⟨b, o, nm, os, rfl, hB, ho, habc, hos, hnm, q⟩ := h
  refine ⟨_, (pss_cons (ps_set (i := 3) sc__law_imports.nd rfl (Or.inl rfl) (pe_lst pa_nil))
    (pss_cons (ps_set (i := 4) sc__law_imports.nd rfl (Or.inl rfl) (pe_lst pa_nil))
    (pss_cons (ps_for PassesOwn.never rfl (pi_list (pv 2)) (pg_name (i := 5) sc__law_imports.nd rfl (Or.inl rfl)) (pss_cons (ps_set (i := 6) sc__law_imports.nd rfl (Or.inl rfl) (pe_or (pe_cmpR op_gt_str (pv 5) (pv 1) (nomark _)) (pe_one (pe_cmpR op_eq (pe_cal C_law_draw (hr.mono (by omega)) rfl (pa_cons (pv 0) (pa_cons (pe_int) pa_nil))) (pe_int) (nomark _)))))
    (pss_one (ps_if (PW.pt (pw_and (pt_cmpR op_ne (pv 5) (pv 1) (nomark _)) (pw_and (pt_val (pv 6)) (pw_and1 (pt_cmpR op_gt (pe_cal C_law_draw (hr.mono (by omega)) rfl (pa_cons (pv 0) (pa_cons (pe_int) pa_nil))) (pe_int) (nomark _)))))) (pss_cons (ps_set (i := 7) sc__law_imports.nd rfl (Or.inl rfl) (pe_lst pa_nil))
    (pss_cons (ps_for PassesOwn.never rfl (pi_list (pe_cal C_law_own (hr.mono (by omega)) rfl (pa_cons (pv 5) pa_nil))) (pg_tup rfl (pgs_cons (pg_name (i := 8) sc__law_imports.nd rfl (Or.inl rfl)) (pgs_cons (pg_name (i := 9) sc__law_imports.nd rfl (Or.inl rfl)) pgs_nil))) (pss_cons (ps_set (i := 10) sc__law_imports.nd rfl (Or.inl rfl) (pe_ix ix_list (pe_lst (pa_cons (pv 8) (pa_cons (pv 8) (pa_cons (pe_op op_add_str (pe_str) (pv 8)) pa_nil)))) (pe_cal C_law_draw (hr.mono (by omega)) rfl (pa_cons (pv 0) (pa_cons (pe_int) pa_nil))) (fun _ _ => rfl)))
    (pss_one (ps_if (PW.pt (pw_and (pt_cmpR op_eq (pe_cal C_law_draw (hr.mono (by omega)) rfl (pa_cons (pv 0) (pa_cons (pe_int) pa_nil))) (pe_int) (nomark _)) (pw_and (pt_cmpR op_notIn_seq (pv 10) (pv 4) rfl) (pw_and1 (pt_cmpR op_lt (pe_callB call_len_seq rfl T.zlen PySem.boot_len (pa_cons (pv 7) pa_nil)) (pe_int) (nomark _)))))) (pss_cons (ps_expr (pe_bm PySem.F.plainAttrs_list PySem.F.slot_list_append PySem.F.type_list_append mt_append (pv 7) (pa_cons (pe_tup (pa_cons (pv 8) (pa_cons (pv 10) pa_nil))) pa_nil)))
    (pss_one (ps_expr (pe_bm PySem.F.plainAttrs_list PySem.F.slot_list_append PySem.F.type_list_append mt_append (pv 4) (pa_cons (pv 10) pa_nil))))) pss_nil))))
    (pss_one (ps_if (pt_cmpR (op_neD hr.units) (pv 7) (pe_lst pa_nil) (nomark _)) (pss_one (ps_expr (pe_bm PySem.F.plainAttrs_list PySem.F.slot_list_append PySem.F.type_list_append mt_append (pv 3) (pa_cons (pe_tup (pa_cons (pe_str) (pa_cons (pe_callTy call_tuple_of rfl T.ztuple (by decide +kernel) (pa_cons (pv 7) pa_nil)) (pa_cons (pv 5) pa_nil)))) pa_nil)))) pss_nil)))) pss_nil))))
    (pss_one (ps_ret (pv 3)))))), ?_⟩
  refine ⟨Nat.zero_le _, fun L nL => ⟨Nat.zero_le _, fun Tk nT => ?_⟩⟩
  have hTL : Tk ≠ L := fun z => by rw [z, upd_same] at nT; cases nT
  have nT0 : H Tk = none := by rw [upd_ne hTL] at nT; exact nT
  have hLb : L ≠ b := fun z => hB.some (by rw [← z]; exact nL)
  have hTb : Tk ≠ b := fun z => hB.some (by rw [← z]; exact nT0)
  have e0 : Ex H (upd (upd H L (.lst [])) Tk (.lst [])) := (Ex.new nL).trans (Ex.new nT)
  refine ⟨_, rfl, o, rfl, ⟨_, SqL.of (e0 _ _ ho)⟩, for_list (K := K) (a := o) (xs := os.map V.str) (fun i σ H' => Gr b H H' ∧ ∃ (us : List V) (ls : List Line) (tk : List Str) (o5 o6 o7 o8 o9 o10 : Option V), σ = [some (.ref b), some (.str nm), some (.ref o), some (.ref L), some (.ref Tk), o5, o6, o7, o8, o9, o10] ∧
      H' L = some (.lst us) ∧ H' Tk = some (.lst (tk.map V.str)) ∧ tk.length ≤ 5 * i ∧ All2 (LineAt K H') us ls ∧ (∀ l ∈ ls, ImpOk os nm l) ∧ ls.length ≤ i)
    ⟨Gr.ex hB e0, [], [], [], _, _, _, _, _, _, rfl, by rw [upd_ne hTL.symm]; exact upd_same, upd_same, Nat.le_refl _, True.intro, fun _ z => absurd z List.not_mem_nil, Nat.le_refl _⟩ (fun i σ H' _ z => SqL.of (z.1.strs hB ho)) ?_ ?_⟩
  · rintro i x σ H1 hi ⟨g1, us, ls, tk, o5, o6, o7, o8, o9, o10, rfl, hL, hT, htk, hA, hI, hll⟩
    have hil : i < os.length := by
      have := (List.getElem?_eq_some_iff.mp hi).1
      rw [List.length_map] at this
      exact this
    obtain ⟨ot, hot, rfl⟩ := List.mem_map.mp (List.mem_of_getElem? hi)
    have hoa := habc ot hot
    -- the turn's end
    have fin : ∀ {H' : Hp} {us' : List V} {ls' : List Line} {tk' : List Str} {o5 o6 o7 o8 o9 o10 : Option V}, Gr b H H' → H' L = some (.lst us') → H' Tk = some (.lst (tk'.map V.str)) → tk'.length ≤ 5 * (i + 1) → All2 (LineAt K H') us' ls' → (∀ l ∈ ls', ImpOk os nm l) → ls'.length ≤ i + 1 →
        Gr b H H' ∧ ∃ (us : List V) (ls : List Line) (tk : List Str) (p5 p6 p7 p8 p9 p10 : Option V), ([some (.ref b), some (.str nm), some (.ref o), some (.ref L), some (.ref Tk), o5, o6, o7, o8, o9, o10] : L2.St) = [some (.ref b), some (.str nm), some (.ref o), some (.ref L), some (.ref Tk), p5, p6, p7, p8, p9, p10] ∧
          H' L = some (.lst us) ∧ H' Tk = some (.lst (tk.map V.str)) ∧ tk.length ≤ 5 * (i + 1) ∧ All2 (LineAt K H') us ls ∧ (∀ l ∈ ls, ImpOk os nm l) ∧ ls.length ≤ i + 1 :=
      fun a1 a2 a3 a4 a5 a6 a7 => ⟨a1, _, _, _, _, _, _, _, _, _, rfl, a2, a3, a4, a5, a6, a7⟩
    refine or_draw g1.box rfl rfl rfl fun H2 wv g2 => ?_
    have g12 := g1.trans g2
    have hL2 := g2.same L _ hLb hL
    have hT2 := g2.same Tk _ hTb hT
    have hA2 := hA.imp fun _ _ z => z.on (g2.tups g1.box)
    have hnn : nm.length ≤ 10 := (abc_len hnm).1
    -- other != name and wanted and draw(box, 4) > 0
    refine ⟨_, rfl, _, rfl, rfl, _, rfl, ?_⟩
    rw [str_dec]
    refine ite2 (fun cne => ?_) (fun _ => iteF (fin g12 hL2 hT2 (by omega) hA2 hI (by omega)))
    have hne : ot ≠ nm := by
      intro z
      rw [z, decide_eq_true rfl] at cne
      exact absurd cne (by decide)
    refine ⟨_, rfl, wv, rfl, ?_⟩
    refine ite2 (fun _ => ?_) (fun _ => iteF (fin g12 hL2 hT2 (by omega) hA2 hI (by omega)))
    refine ⟨_, rfl, b, 4, rfl, g12.box, by decide, fun r H3 _ _ g3 => ⟨_, _, rfl, rfl, _, rfl, ?_⟩⟩
    have g13 := g12.trans g3
    have hL3 := g3.same L _ hLb hL2
    have hT3 := g3.same Tk _ hTb hT2
    have hA3 := hA2.imp fun _ _ z => z.on (g3.tups g12.box)
    refine ite2 (fun _ => ?_) (fun _ => fin g13 hL3 hT3 (by omega) hA3 hI (by omega))
    -- pairs = []
    refine ⟨Nat.zero_le _, fun Pr nP => ?_⟩
    have nP0 : H Pr = none := g13.free nP
    have hPL : Pr ≠ L := fun z => by rw [z, hL3] at nP; cases nP
    have hPT : Pr ≠ Tk := fun z => by rw [z, hT3] at nP; cases nP
    have hPb : Pr ≠ b := fun z => hB.some (by rw [← z]; exact nP0)
    have e4 := Ex.new (o := .lst []) nP
    have g14 := g13.thn e4
    have hL4 := e4 _ _ hL3
    have hT4 := e4 _ _ hT3
    have hP4 : (upd H3 Pr (.lst [])) Pr = some (.lst []) := upd_same
    have hA4 := hA3.imp fun _ _ z => z.on (Tups.ex e4)
    generalize upd H3 Pr (.lst []) = H4 at *
    refine ⟨_, rfl, ot, rfl, (abc_len hoa).1, fun D0 ous H5 e5 nD hD0 hO => ?_⟩
    have hDL : D0 ≠ L := fun z => by rw [z, hL4] at nD; cases nD
    have hDT : D0 ≠ Tk := fun z => by rw [z, hT4] at nD; cases nD
    have hDP : D0 ≠ Pr := fun z => by rw [z, hP4] at nD; cases nD
    have hDb : D0 ≠ b := fun z => g14.box.some (by rw [← z]; exact nD)
    have nD00 : H D0 = none := g14.free nD
    refine ⟨D0, rfl, ⟨_, SqL.of hD0⟩, for_list (K := K) (a := D0) (xs := ous) (fun j σ H' => Gr b H H' ∧ H' L = some (.lst us) ∧ H' D0 = some (.lst ous) ∧ All2 (LineAt K H') us ls ∧ All2 (PairAt K H') ous (ownPs ot) ∧ ∃ (prs : List V) (ps : List (Str × Str)) (tk : List Str) (o8 o9 o10 : Option V),
        σ = [some (.ref b), some (.str nm), some (.ref o), some (.ref L), some (.ref Tk), some (.str ot), some (.bl wv), some (.ref Pr), o8, o9, o10] ∧ H' Pr = some (.lst prs) ∧ All2 (PairAt K H') prs ps ∧ (∀ p ∈ ps, p.1 ∈ ownNms ot ∧ (p.2 = p.1 ∨ p.2 = "z" ++ p.1)) ∧ ps.length ≤ j ∧ H' Tk = some (.lst (tk.map V.str)) ∧ tk.length ≤ 5 * i + j)
      ⟨g14.thn e5, e5 _ _ hL4, hD0, hA4.imp fun _ _ z => z.on (Tups.ex e5), hO, [], [], tk, _, _, _, rfl, e5 _ _ hP4, True.intro, fun _ z => absurd z List.not_mem_nil, Nat.le_refl _, e5 _ _ hT4, htk⟩ (fun j σ H' _ z => SqL.of z.2.2.1) ?_ ?_⟩
    · rintro j y σ H6 hj ⟨g6, hL6, hD6, hA6, hO6, prs, ps, tk6, o8, o9, o10, rfl, hP6, hPs, hok, hpl, hT6, htl⟩
      obtain ⟨pr, hpr, c, rfl, hc⟩ := hO6.get hj
      have hj5 : j < 5 := by
        have h1 := (List.getElem?_eq_some_iff.mp hpr).1
        exact h1
      have hon := ownPs_mem (List.mem_of_getElem? hpr)
      obtain ⟨nk1, nk2, _, nk3⟩ := own_nm hoa hon
      refine ⟨c, _, rfl, hc, rfl, _, _, rfl, _, _, rfl, rfl, ?_⟩
      -- called = [own, own, "z" + own][draw(box, 3)]
      refine ⟨_, rfl, _, rfl, _, rfl, _, _, rfl, rfl, add_le (by show 1 + pr.1.length ≤ 1000; omega), three_le, fun m nm_ => ⟨_, rfl, b, 3, rfl, g6.box.ex (Ex.new nm_), by decide, fun r2 H7 r0 r1 g7 => ?_⟩⟩
      have e67 := Ex.new (o := .lst [.str pr.1, .str pr.1, .str ("z" ++ pr.1)]) nm_
      have g67 : Gr b H6 H7 := (Gr.ex g6.box e67).trans g7
      obtain ⟨cv, hcm, hcv⟩ := pick (([pr.1, pr.1, "z" ++ pr.1] : List Str).map V.str) r2 r0 r1
      obtain ⟨cn, hcn, rfl⟩ := List.mem_map.mp hcm
      have hcn' : cn = pr.1 ∨ cn = "z" ++ pr.1 := by
        simp only [List.mem_cons, List.not_mem_nil, or_false] at hcn
        rcases hcn with h | h | h
        · exact .inl h
        · exact .inl h
        · exact .inr h
      have hm7 := g7.same m _ (fun z => g6.box.some (by rw [← z]; exact nm_)) upd_same
      refine ⟨m, _, r2, _, rfl, rfl, SqL.of hm7, hcv, ?_⟩
      -- draw(box, 2) == 0 and called not in taken and len(pairs) < 3
      refine ⟨_, rfl, b, 2, rfl, (g6.trans g67).box, by decide, fun r3 H8 _ _ g8 => ⟨rfl, _, rfl, ?_⟩⟩
      have g68 := g67.trans g8
      have g08 := g6.trans g68
      have tu := g68.tups (K := K) g6.box
      have hL8 := g68.same L _ hLb hL6
      have hD8 := g68.same D0 _ hDb hD6
      have hP8 := g68.same Pr _ hPb hP6
      have hT8 := g68.same Tk _ hTb hT6
      have hA8 := hA6.imp fun _ _ z => z.on tu
      have hO8 := hO6.imp fun _ _ z => z.on tu
      have hPs8 := hPs.imp fun _ _ z => z.on tu
      have skip : ∀ {o8 o9 o10 : Option V}, Gr b H H8 ∧ H8 L = some (.lst us) ∧ H8 D0 = some (.lst ous) ∧ All2 (LineAt K H8) us ls ∧ All2 (PairAt K H8) ous (ownPs ot) ∧ ∃ (prs : List V) (ps : List (Str × Str)) (tk : List Str) (p8 p9 p10 : Option V),
          ([some (.ref b), some (.str nm), some (.ref o), some (.ref L), some (.ref Tk), some (.str ot), some (.bl wv), some (.ref Pr), o8, o9, o10] : L2.St) = [some (.ref b), some (.str nm), some (.ref o), some (.ref L), some (.ref Tk), some (.str ot), some (.bl wv), some (.ref Pr), p8, p9, p10] ∧ H8 Pr = some (.lst prs) ∧ All2 (PairAt K H8) prs ps ∧ (∀ p ∈ ps, p.1 ∈ ownNms ot ∧ (p.2 = p.1 ∨ p.2 = "z" ++ p.1)) ∧ ps.length ≤ j + 1 ∧ H8 Tk = some (.lst (tk.map V.str)) ∧ tk.length ≤ 5 * i + (j + 1) :=
        ⟨g08, hL8, hD8, hA8, hO8, prs, ps, tk6, _, _, _, rfl, hP8, hPs8, hok, by omega, hT8, by omega⟩
      refine ite2 (fun _ => ?_) (fun _ => iteF skip)
      refine ⟨_, rfl, _, rfl, Tk, _, rfl, .inl (SqL.of hT8), rfl, K6.flat_strs tk6, _, rfl, ?_⟩
      refine ite2 (fun _ => ?_) (fun _ => iteF skip)
      refine ⟨_, rfl, Pr, _, rfl, .inl (SqL.of hP8), _, _, rfl, rfl, _, rfl, ?_⟩
      refine ite2 (fun _ => ?_) (fun _ => skip)
      -- pairs.append((own, called)); taken.append(called)
      have hpsl := hPs.len
      refine ⟨_, rfl, .inl ⟨rfl, _, SqL.of hP8⟩, _, rfl, _, rfl, two_le, fun t nt => ?_⟩
      have e9 := Ex.new (o := .tup [.str pr.1, .str cn]) nt
      refine ⟨Pr, _, _, rfl, rfl, e9 _ _ hP8, small1000 (by omega), ?_⟩
      refine ⟨_, rfl, .inl ⟨rfl, _, SqL.of (by rw [upd_ne hPT.symm]; exact e9 _ _ hT8)⟩, _, rfl, Tk, _, _, rfl, rfl, (by rw [upd_ne hPT.symm]; exact e9 _ _ hT8), small1000 (by rw [List.length_map]; omega), ?_⟩
      have g9 : Gr b H (upd (upd H8 t (.tup [.str pr.1, .str cn])) Pr (.lst (prs ++ [.ref t]))) := Gr.mut hB (g08.thn e9) nP0
      have g10 : Gr b H (upd (upd (upd H8 t (.tup [.str pr.1, .str cn])) Pr (.lst (prs ++ [.ref t]))) Tk (.lst (tk6.map V.str ++ [.str cn]))) := Gr.mut hB g9 nT0
      have t9 : Tups K H8 (upd (upd (upd H8 t (.tup [.str pr.1, .str cn])) Pr (.lst (prs ++ [.ref t]))) Tk (.lst (tk6.map V.str ++ [.str cn]))) :=
        (Tups.ex e9).trans ((Tups.lst (e9 _ _ hP8)).trans (Tups.lst (xs := tk6.map V.str) (by rw [upd_ne hPT.symm]; exact e9 _ _ hT8)))
      have ht9 : SqT K (upd (upd (upd H8 t (.tup [.str pr.1, .str cn])) Pr (.lst (prs ++ [.ref t]))) Tk (.lst (tk6.map V.str ++ [.str cn]))) t [.str pr.1, .str cn] :=
        ((Tups.lst (e9 _ _ hP8)).trans (Tups.lst (xs := tk6.map V.str) (by rw [upd_ne hPT.symm]; exact e9 _ _ hT8))) _ _ (SqT.of upd_same)
      refine ⟨g10, by rw [upd_ne hTL.symm, upd_ne hPL.symm]; exact e9 _ _ hL8, by rw [upd_ne hDT, upd_ne hDP]; exact e9 _ _ hD8, hA8.imp fun _ _ z => z.on t9, hO8.imp fun _ _ z => z.on t9, prs ++ [.ref t], ps ++ [(pr.1, cn)], tk6 ++ [cn], _, _, _, rfl, ?_, ?_, ?_, ?_, ?_, ?_⟩
      · rw [upd_ne hPT]
        exact upd_same
      · exact All2.append (hPs8.imp fun _ _ z => z.on t9) ⟨⟨t, rfl, ht9⟩, True.intro⟩
      · intro p hp
        rcases List.mem_append.mp hp with z | z
        · exact hok p z
        · rw [List.mem_singleton.mp z]
          exact ⟨hon, hcn'⟩
      · rw [List.length_append, List.length_singleton]
        omega
      · rw [upd_same, List.map_append]
        rfl
      · rw [List.length_append, List.length_singleton]
        omega
    · rintro σ H6 ⟨g6, hL6, hD6, hA6, hO6, prs, ps, tk6, o8, o9, o10, rfl, hP6, hPs, hok, hpl, hT6, htl⟩
      have h5 : ous.length = 5 := hO.len
      -- if pairs != []
      refine ⟨_, rfl, Nat.zero_le _, fun z nz => ?_⟩
      have e7 := Ex.new (o := .lst []) nz
      have hok2 : ∀ p ∈ ps, NmOk p.1 ∧ NmOk p.2 := fun p hp => by
        obtain ⟨h1, h2⟩ := hok p hp
        obtain ⟨k1, k2, _⟩ := own_nm hoa h1
        rcases h2 with h2 | h2 <;> rw [h2]
        · exact ⟨k1, k1⟩
        · exact ⟨k1, k2⟩
      refine ⟨_, _, .lst (SqL.of (e7 _ _ hP6)) (dp_pairs (hPs.imp fun _ _ z => z.on (Tups.ex e7))), .lst (SqL.of upd_same) .nil, shaped_pairs hok2, shaped_nil, _, rfl, ?_⟩
      refine ite2 (fun _ => ?_) (fun _ => fin (g6.thn e7) (e7 _ _ hL6) (e7 _ _ hT6) (by omega) (hA6.imp fun _ _ z => z.on (Tups.ex e7)) hI (by omega))
      -- lines.append(("import", tuple(pairs), other))
      refine ⟨_, rfl, .inl ⟨rfl, _, SqL.of (e7 _ _ hL6)⟩, _, rfl, Pr, prs, rfl, .inl ⟨SqL.of (e7 _ _ hP6), fun tp ntp => ⟨_, rfl, three_le, fun tl ntl => ?_⟩⟩⟩
      have e8 := Ex.new (o := .tup prs) ntp
      have e9 := Ex.new (o := .tup [.str "import", .ref tp, .str ot]) ntl
      have eA := e7.trans (e8.trans e9)
      have hLA := eA _ _ hL6
      have hul := hA.len
      refine ⟨L, _, _, rfl, rfl, hLA, small1000 (by omega), ?_⟩
      have tA : Tups K H6 _ := (Tups.ex eA).trans (Tups.lst (ys := us ++ [.ref tl]) hLA)
      have htp : SqT K _ tp prs := (Tups.lst (ys := us ++ [.ref tl]) hLA) _ _ (SqT.of (e9 _ _ upd_same))
      have htl2 : SqT K _ tl [.str "import", .ref tp, .str ot] := (Tups.lst (ys := us ++ [.ref tl]) hLA) _ _ (SqT.of upd_same)
      refine fin (ls' := ls ++ [.imp false ps ot]) (tk' := tk6) (Gr.mut hB (g6.thn eA) nL) upd_same ?_ (by omega) ?_ ?_ ?_
      · rw [upd_ne hTL]
        exact eA _ _ hT6
      · exact All2.append (hA6.imp fun _ _ z => z.on tA) ⟨.imp htl2 htp (hPs.imp fun _ _ z => z.on tA), True.intro⟩
      · intro l hl
        rcases List.mem_append.mp hl with z | z
        · exact hI l z
        · rw [List.mem_singleton.mp z]
          exact ⟨ot, ps, rfl, hot, hne, by omega, hok⟩
      · rw [List.length_append, List.length_singleton]
        omega
  · rintro σ H1 ⟨g1, us, ls, tk, o5, o6, o7, o8, o9, o10, rfl, hL, hT, htk, hA, hI, hll⟩
    rw [List.length_map] at hll
    exact ⟨_, rfl, q L us ls _ g1 nL hL hA hI (by omega)⟩
end
end K6
/-! The law's usable names and rows of functions. -/
namespace K6
open PySem PySem.Spec PyProof.Rows L2 Evl

theorem first_sign {n : Str} (h : n.cps.toList ≠ []) : ∃ c, atI n.cps.toList (0 : Int) = some c := by
  cases e : n.cps.toList with
  | nil => exact absurd e h
  | cons c r => exact ⟨c, at0⟩
theorem sz_nm {n : Str} (h : NmOk n) : n.length ≤ sizeLine := Nat.le_of_lt (small1000 (Nat.le_trans h.1 (by decide)))

section
variable {P : Program} {w : World} {K : Frag} {mg : Str → Option Value} {base : Heap} {O CR CN : Addr}
/-- lines (imports), name, wanted: some names -/
def spUsable (K : Frag) : Sp := fun vs H Q _ => ∃ (a : Addr) (us : List V) (ls : List Line) (os : List Str) (nm wt : Str), vs = [.ref a, .str nm, .str wt] ∧ H a = some (.lst us) ∧ All2 (LineAt K H) us ls ∧ (∀ l ∈ ls, ImpOk os nm l) ∧ (∀ x ∈ os, x ∈ abc) ∧ nm ∈ abc ∧ ls.length ≤ 3 ∧
  ∀ (D : Addr) (rs : List Str) (H' : Hp), Ex H H' → H' D = some (.lst (rs.map V.str)) → (∀ n ∈ rs, NmOk n) → rs.length ≤ 100 → Q (.ref D) H'
theorem ok_law_usable (T : Txt K mg O CR CN) : Cal P w K mg base "_law_usable" 2 ["_law_lines", "_law_name", "_law_wanted"] (spUsable K) := by
  have C_law_own := ok_law_own (P := P) (w := w) (base := base) T
  refine Cal.of T.d_law_usable sc__law_usable (fun _ _ _ _ _ _ us hl => match us, hl with | [_, _, _], _ => rfl) (fun vs H Q E h => ?_) (fun f cdv A outer s H vs Q E hr h => ?_)
  · obtain ⟨a, us, ls, os, nm, wt, rfl, _⟩ := h
    rfl
  obtain ⟨a, us, ls, os, nm, wt, rfl, ha, hA, hI, hos, hnm, hll, q⟩ := h
  refine ⟨_, (pss_cons (ps_set (i := 3) sc__law_usable.nd rfl (Or.inl rfl) (pe_lst pa_nil))
    (pss_cons (ps_for PassesOwn.never rfl (pi_list (pv 0)) (pg_name (i := 4) sc__law_usable.nd rfl (Or.inl rfl)) (pss_one (ps_if (pt_cmpR op_eq (pe_ix ix_tup (pv 4) (pe_int) (fun _ _ => rfl)) (pe_str) (nomark _)) (pss_one (ps_set (i := 3) sc__law_usable.nd rfl (Or.inl rfl) (pe_op op_cat (pv 3) (pe_lc (own := [("_law_own_here", 5), ("_law_called", 7)]) rfl sc__law_usable.nd (pi_tup (pe_ix ix_tup (pv 4) (pe_int) (fun _ _ => rfl))) (blkOk_by (own := [("_law_own_here", 5), ("_law_called", 7)]) (N := ["_law_lines", "_law_name", "_law_wanted", "_law_found", "_law_line", "_law_own_here", "_law_kind", "_law_called"]) (sc := defScope s__law_usable) (by decide +kernel)) (fun _ _ _ _ _ => (show PG _ _ (gTup K 2 (gCons (gName 5) (gCons (gName 7) gNil))) from pg_tup rfl (pgs_cons (pg_name (i := 5) sc__law_usable.nd rfl (Or.inl rfl)) (pgs_cons (pg_name (i := 7) sc__law_usable.nd rfl (Or.inl rfl)) pgs_nil)))) (fun _ _ _ _ _ => pts_one (pt_cmpR op_in_str (pe_ix ix_str (pv 5) (pe_int) (fun _ _ => rfl)) (pv 2) rfl)) (fun _ _ _ _ _ => pv 7))))) pss_nil)))
    (pss_one (ps_ret (pe_op op_cat (pv 3) (pe_lc (own := [("_law_own_here", 5), ("_law_kind", 6)]) rfl sc__law_usable.nd (pi_list (pe_cal C_law_own (hr.mono (by omega)) rfl (pa_cons (pv 1) pa_nil))) (blkOk_by (own := [("_law_own_here", 5), ("_law_kind", 6)]) (N := ["_law_lines", "_law_name", "_law_wanted", "_law_found", "_law_line", "_law_own_here", "_law_kind", "_law_called"]) (sc := defScope s__law_usable) (by decide +kernel)) (fun _ _ _ _ _ => (show PG _ _ (gTup K 2 (gCons (gName 5) (gCons (gName 6) gNil))) from pg_tup rfl (pgs_cons (pg_name (i := 5) sc__law_usable.nd rfl (Or.inl rfl)) (pgs_cons (pg_name (i := 6) sc__law_usable.nd rfl (Or.inl rfl)) pgs_nil)))) (fun _ _ _ _ _ => pts_one (pt_cmpR op_in_str (pe_ix ix_str (pv 5) (pe_int) (fun _ _ => rfl)) (pv 2) rfl)) (fun _ _ _ _ _ => pv 5))))))), ?_⟩
  refine ⟨Nat.zero_le _, fun F0 nF => ?_⟩
  refine ⟨_, rfl, a, rfl, ⟨_, SqL.of ((Ex.new nF) _ _ ha)⟩, for_list (K := K) (a := a) (xs := us) (fun i σ H' => Ex H H' ∧ ∃ (F : Addr) (rs : List Str) (o4 : Option V), σ = [some (.ref a), some (.str nm), some (.str wt), some (.ref F), o4, none, none, none] ∧ H' F = some (.lst (rs.map V.str)) ∧ (∀ n ∈ rs, NmOk n) ∧ rs.length ≤ 5 * i)
    ⟨Ex.new nF, F0, [], _, rfl, upd_same, fun _ z => absurd z List.not_mem_nil, Nat.le_refl _⟩ (fun i σ H' _ z => SqL.of (z.1 _ _ ha)) ?_ ?_⟩
  · rintro i x σ H1 hi ⟨e1, F, rs, o4, rfl, hF, hn, hrl⟩
    obtain ⟨l, hl, hx⟩ := hA.get hi
    have hil : i < us.length := (List.getElem?_eq_some_iff.mp hi).1
    have hul := hA.len
    obtain ⟨o, ps, rfl, ho, hne, hpl, hps⟩ := hI l (List.mem_of_getElem? hl)
    cases hx.on (Tups.ex e1) with
    | @imp p bt ws e ps m hp hbt hP =>
      refine ⟨_, rfl, p, _, 0, _, rfl, rfl, hp, at0, rfl, _, rfl, ?_⟩
      rw [str_dec, decide_eq_true (show impW false = ("import" : Str) from rfl)]
      refine iteT ?_
      refine ⟨_, rfl, _, rfl, p, _, 1, _, rfl, rfl, hp, at1, bt, rfl, ⟨_, hbt⟩, fun D nD => ?_⟩
      refine lc_tup (K := K) (a := bt) (xs := ws) (fun j H' => Ex H1 H' ∧ ∃ cs : List Str, H' D = some (.lst (cs.map V.str)) ∧ (∀ n ∈ cs, NmOk n) ∧ cs.length ≤ j) ⟨Ex.new nD, [], upd_same, fun _ z => absurd z List.not_mem_nil, Nat.le_refl _⟩ (fun j H' _ z => ex_t z.1 hbt) ?_ ?_
      · rintro j y H2 hj ⟨e2, cs, hD, hcn, hcl⟩
        obtain ⟨pr, hpr, c, rfl, hc⟩ := hP.get hj
        have hjl : j < ws.length := (List.getElem?_eq_some_iff.mp hj).1
        have hwl := hP.len
        obtain ⟨k1, k2⟩ := hps pr (List.mem_of_getElem? hpr)
        obtain ⟨n1, n2, n3, n4⟩ := own_nm (hos o ho) k1
        obtain ⟨ch, hch⟩ := first_sign n3
        refine ⟨c, _, rfl, ex_t e2 hc, rfl, _, _, rfl, _, _, rfl, rfl, rfl, ?_⟩
        refine ⟨_, rfl, _, 0, ch, rfl, rfl, sz_nm n1, hch, _, rfl, _, _, rfl, rfl, _, rfl, ?_⟩
        refine ite2 (fun _ => ?_) (fun _ => ⟨e2, cs, hD, hcn, by omega⟩)
        refine ⟨_, rfl, _, hD, small1000 (by rw [List.length_map]; omega), e2.mut nD, cs ++ [pr.2], ?_, fun n hn' => ?_, ?_⟩
        · rw [upd_same, List.map_append]
          rfl
        · rcases List.mem_append.mp hn' with z | z
          · exact hcn n z
          · rw [List.mem_singleton.mp z]
            rcases k2 with k2 | k2 <;> rw [k2]
            · exact n1
            · exact n2
        · rw [List.length_append, List.length_singleton]
          omega
      · rintro H2 ⟨e2, cs, hD, hcn, hcl⟩
        have hwl := hP.len
        refine ⟨F, D, _, _, rfl, rfl, e2 _ _ hF, hD, Nat.le_of_lt (small1000 (by rw [List.length_map, List.length_map]; omega)), fun G nG => ?_⟩
        refine ⟨(e1.trans e2).trans (Ex.new nG), G, rs ++ cs, _, rfl, ?_, fun n hn' => ?_, ?_⟩
        · rw [upd_same, List.map_append]
        · rcases List.mem_append.mp hn' with z | z
          · exact hn n z
          · exact hcn n z
        · rw [List.length_append]
          omega
  · rintro σ H1 ⟨e1, F, rs, o4, rfl, hF, hn, hrl⟩
    have hul := hA.len
    refine ⟨_, rfl, _, rfl, nm, rfl, (abc_len hnm).1, fun D0 ous H2 e2 nD0 hD0 hO => ?_⟩
    refine ⟨D0, rfl, ⟨_, SqL.of hD0⟩, fun D nD => ?_⟩
    refine lc_list (K := K) (a := D0) (xs := ous) (fun j H' => Ex H2 H' ∧ ∃ cs : List Str, H' D = some (.lst (cs.map V.str)) ∧ (∀ n ∈ cs, NmOk n) ∧ cs.length ≤ j) ⟨Ex.new nD, [], upd_same, fun _ z => absurd z List.not_mem_nil, Nat.le_refl _⟩ (fun j H' _ z => SqL.of (z.1 _ _ hD0)) ?_ ?_
    · rintro j y H3 hj ⟨e3, cs, hD, hcn, hcl⟩
      obtain ⟨pr, hpr, c, rfl, hc⟩ := hO.get hj
      have hj5 : j < 5 := (List.getElem?_eq_some_iff.mp hpr).1
      obtain ⟨n1, n2, n3, n4⟩ := own_nm hnm (ownPs_mem (List.mem_of_getElem? hpr))
      obtain ⟨ch, hch⟩ := first_sign n3
      refine ⟨c, _, rfl, ex_t e3 hc, rfl, _, _, rfl, _, _, rfl, rfl, rfl, ?_⟩
      refine ⟨_, rfl, _, 0, ch, rfl, rfl, sz_nm n1, hch, _, rfl, _, _, rfl, rfl, _, rfl, ?_⟩
      refine ite2 (fun _ => ?_) (fun _ => ⟨e3, cs, hD, hcn, by omega⟩)
      refine ⟨_, rfl, _, hD, small1000 (by rw [List.length_map]; omega), e3.mut nD, cs ++ [pr.1], ?_, fun n hn' => ?_, ?_⟩
      · rw [upd_same, List.map_append]
        rfl
      · rcases List.mem_append.mp hn' with z | z
        · exact hcn n z
        · rw [List.mem_singleton.mp z]
          exact n1
      · rw [List.length_append, List.length_singleton]
        omega
    · rintro H3 ⟨e3, cs, hD, hcn, hcl⟩
      have h5 : ous.length = 5 := hO.len
      refine ⟨F, D, _, _, rfl, rfl, e3 _ _ (e2 _ _ hF), hD, Nat.le_of_lt (small1000 (by rw [List.length_map, List.length_map]; omega)), fun G nG => ?_⟩
      refine q G (rs ++ cs) _ (e1.trans (e2.trans (e3.trans (Ex.new nG)))) ?_ (fun n hn' => ?_) ?_
      · rw [upd_same, List.map_append]
      · rcases List.mem_append.mp hn' with z | z
        · exact hn n z
        · exact hcn n z
      · rw [List.length_append]
        omega
/-- lines (imports), name: rows of functions -/
def spCalls (K : Frag) : Sp := fun vs H Q _ => ∃ (a : Addr) (us : List V) (ls : List Line) (os : List Str) (nm : Str), vs = [.ref a, .str nm] ∧ H a = some (.lst us) ∧ All2 (LineAt K H) us ls ∧ (∀ l ∈ ls, ImpOk os nm l) ∧ (∀ x ∈ os, x ∈ abc) ∧ nm ∈ abc ∧ ls.length ≤ 3 ∧
  ∀ (D : Addr) (rs : List V) (cs : List (Str × Int)) (H' : Hp), Ex H H' → H' D = some (.lst rs) → All2 (CallAt K H') rs cs → (∀ p ∈ cs, CallOk p) → cs.length ≤ 100 → Q (.ref D) H'
theorem ok_law_calls (T : Txt K mg O CR CN) : Cal P w K mg base "_law_calls" 1 ["_law_lines", "_law_name"] (spCalls K) := by
  refine Cal.of T.d_law_calls sc__law_calls (fun _ _ _ _ _ _ us hl => match us, hl with | [_, _], _ => rfl) (fun vs H Q E h => ?_) (fun f cdv A outer s H vs Q E hr h => ?_)
  · obtain ⟨a, us, ls, os, nm, rfl, _⟩ := h
    rfl
  obtain ⟨a, us, ls, os, nm, rfl, ha, hA, hI, hos, hnm, hll, q⟩ := h
  refine ⟨_, (pss_cons (ps_set (i := 2) sc__law_calls.nd rfl (Or.inl rfl) (pe_lst pa_nil))
    (pss_cons (ps_for PassesOwn.never rfl (pi_list (pv 0)) (pg_name (i := 3) sc__law_calls.nd rfl (Or.inl rfl)) (pss_one (ps_if (pt_cmpR op_eq (pe_ix ix_tup (pv 3) (pe_int) (fun _ _ => rfl)) (pe_str) (nomark _)) (pss_one (ps_set (i := 2) sc__law_calls.nd rfl (Or.inl rfl) (pe_op op_cat (pv 2) (pe_lc (own := [("_law_own_here", 4), ("_law_called", 5)]) rfl sc__law_calls.nd (pi_tup (pe_ix ix_tup (pv 3) (pe_int) (fun _ _ => rfl))) (blkOk_by (own := [("_law_own_here", 4), ("_law_called", 5)]) (N := ["_law_lines", "_law_name", "_law_rows", "_law_line", "_law_own_here", "_law_called"]) (sc := defScope s__law_calls) (by decide +kernel)) (fun _ _ _ _ _ => (show PG _ _ (gTup K 2 (gCons (gName 4) (gCons (gName 5) gNil))) from pg_tup rfl (pgs_cons (pg_name (i := 4) sc__law_calls.nd rfl (Or.inl rfl)) (pgs_cons (pg_name (i := 5) sc__law_calls.nd rfl (Or.inl rfl)) pgs_nil)))) (fun _ _ _ _ _ => pts_one (pt_cmpR op_in_str (pe_ix ix_str (pv 4) (pe_int) (fun _ _ => rfl)) (pe_str) rfl)) (fun _ _ _ _ _ => pe_tup (pa_cons (pv 5) (pa_cons (pe_ix (show IxR _ (rIxL K) from ix_list) (pe_lst (pa_cons (pe_int) (pa_cons (pe_int) pa_nil))) (pe_callTy call_int1 rfl T.zint (by decide +kernel) (pa_cons (pe_cmpR op_eq (pe_ix ix_str (pv 4) (pe_int) (fun _ _ => rfl)) (pe_str) (nomark _)) pa_nil)) (fun _ _ => rfl)) pa_nil))))))) pss_nil)))
    (pss_one (ps_ret (pe_op op_cat (pv 2) (pe_lst (pa_cons (pe_tup (pa_cons (pe_op op_add_str (pe_str) (pv 1)) (pa_cons (pe_int) pa_nil))) (pa_cons (pe_tup (pa_cons (pe_op op_add_str (pe_str) (pv 1)) (pa_cons (pe_int) pa_nil))) pa_nil)))))))), ?_⟩
  refine ⟨Nat.zero_le _, fun F0 nF => ?_⟩
  refine ⟨_, rfl, a, rfl, ⟨_, SqL.of ((Ex.new nF) _ _ ha)⟩, for_list (K := K) (a := a) (xs := us) (fun i σ H' => Ex H H' ∧ ∃ (F : Addr) (rs : List V) (cs : List (Str × Int)) (o4 : Option V), σ = [some (.ref a), some (.str nm), some (.ref F), o4, none, none] ∧ H' F = some (.lst rs) ∧ All2 (CallAt K H') rs cs ∧ (∀ p ∈ cs, CallOk p) ∧ cs.length ≤ 5 * i)
    ⟨Ex.new nF, F0, [], [], _, rfl, upd_same, True.intro, fun _ z => absurd z List.not_mem_nil, Nat.le_refl _⟩ (fun i σ H' _ z => SqL.of (z.1 _ _ ha)) ?_ ?_⟩
  · rintro i x σ H1 hi ⟨e1, F, rs, cs, o4, rfl, hF, hR, hn, hrl⟩
    obtain ⟨l, hl, hx⟩ := hA.get hi
    have hil : i < us.length := (List.getElem?_eq_some_iff.mp hi).1
    have hul := hA.len
    obtain ⟨o, ps, rfl, ho, hne, hpl, hps⟩ := hI l (List.mem_of_getElem? hl)
    cases hx.on (Tups.ex e1) with
    | @imp p bt ws e ps m hp hbt hP =>
      refine ⟨_, rfl, p, _, 0, _, rfl, rfl, hp, at0, rfl, _, rfl, ?_⟩
      rw [str_dec, decide_eq_true (show impW false = ("import" : Str) from rfl)]
      refine iteT ?_
      refine ⟨_, rfl, _, rfl, p, _, 1, _, rfl, rfl, hp, at1, bt, rfl, ⟨_, hbt⟩, fun D nD => ?_⟩
      refine lc_tup (K := K) (a := bt) (xs := ws) (fun j H' => Ex H1 H' ∧ ∃ (ds : List V) (cs : List (Str × Int)), H' D = some (.lst ds) ∧ All2 (CallAt K H') ds cs ∧ (∀ p ∈ cs, CallOk p) ∧ cs.length ≤ j) ⟨Ex.new nD, [], [], upd_same, True.intro, fun _ z => absurd z List.not_mem_nil, Nat.le_refl _⟩ (fun j H' _ z => ex_t z.1 hbt) ?_ ?_
      · rintro j y H2 hj ⟨e2, ds, cs2, hD, hC, hcn, hcl⟩
        obtain ⟨pr, hpr, c, rfl, hc⟩ := hP.get hj
        have hjl : j < ws.length := (List.getElem?_eq_some_iff.mp hj).1
        have hwl := hP.len
        obtain ⟨k1, k2⟩ := hps pr (List.mem_of_getElem? hpr)
        obtain ⟨n1, n2, n3, n4⟩ := own_nm (hos o ho) k1
        have hdl := hC.len
        obtain ⟨ch, hch⟩ := first_sign n3
        refine ⟨c, _, rfl, ex_t e2 hc, rfl, _, _, rfl, _, _, rfl, rfl, rfl, ?_⟩
        refine ⟨_, rfl, _, 0, ch, rfl, rfl, sz_nm n1, hch, _, _, rfl, rfl, _, rfl, ?_⟩
        refine ite2 (fun _ => ?_) (fun _ => ⟨e2, ds, cs2, hD, hC, hcn, by omega⟩)
        -- (called, [1, 2][int(own[0] == "g")])
        have fin : ∀ (H3 : Hp) (t : Addr) (m : Int), Ex H2 H3 → H3 t = none → (m = 1 ∨ m = 2) → ∃ acc, (upd H3 t (.tup [.str pr.2, .int m])) D = some (.lst acc) ∧ acc.length < sizeLine ∧ Ex H1 (upd (upd H3 t (.tup [.str pr.2, .int m])) D (.lst (acc ++ [.ref t]))) ∧
            ∃ (ds : List V) (cs : List (Str × Int)), (upd (upd H3 t (.tup [.str pr.2, .int m])) D (.lst (acc ++ [.ref t]))) D = some (.lst ds) ∧ All2 (CallAt K (upd (upd H3 t (.tup [.str pr.2, .int m])) D (.lst (acc ++ [.ref t])))) ds cs ∧ (∀ p ∈ cs, CallOk p) ∧ cs.length ≤ j + 1 := by
          intro H3 t m e3 nt hm
          have e4 := e3.trans (Ex.new (o := .tup [.str pr.2, .int m]) nt)
          have hD4 := e4 _ _ hD
          have tD := Tups.lst (K := K) (ys := ds ++ [.ref t]) hD4
          refine ⟨ds, hD4, small1000 (by omega), (e2.trans e4).mut nD, ds ++ [.ref t], cs2 ++ [(pr.2, m)], upd_same, All2.append (hC.imp fun _ _ z => z.on ((Tups.ex e4).trans tD)) ⟨⟨t, rfl, tD _ _ (SqT.of upd_same)⟩, True.intro⟩, fun p hp => ?_, ?_⟩
          · rcases List.mem_append.mp hp with z | z
            · exact hcn p z
            · rw [List.mem_singleton.mp z]
              refine ⟨?_, hm⟩
              show NmOk pr.2
              rcases k2 with k2 | k2 <;> rw [k2]
              · exact n1
              · exact n2
          · rw [List.length_append, List.length_singleton]
            omega
        refine ⟨_, rfl, two_le, fun z nz => ⟨_, rfl, _, 0, ch, rfl, rfl, sz_nm n1, hch, rfl, .inr ⟨_, rfl, ?_⟩⟩⟩
        have ez := Ex.new (o := .lst [.int 1, .int 2]) nz
        by_cases hg : (V.str (⟨#[ch]⟩ : Str)) = V.str "g"
        · refine ⟨z, [.int 1, .int 2], _, .int 2, rfl, rfl, SqL.of upd_same, by rw [decide_eq_true hg]; exact at1, two_le, fun t nt => ?_⟩
          exact fin _ t 2 ez nt (.inr rfl)
        · refine ⟨z, [.int 1, .int 2], _, .int 1, rfl, rfl, SqL.of upd_same, by rw [decide_eq_false hg]; exact at0, two_le, fun t nt => ?_⟩
          exact fin _ t 1 ez nt (.inl rfl)
      · rintro H2 ⟨e2, ds, cs2, hD, hC, hcn, hcl⟩
        have hwl := hP.len
        have hdl := hC.len
        have hrl2 := hR.len
        refine ⟨F, D, _, _, rfl, rfl, e2 _ _ hF, hD, Nat.le_of_lt (small1000 (by omega)), fun G nG => ?_⟩
        have eG := Ex.new (o := .lst (rs ++ ds)) nG
        refine ⟨(e1.trans e2).trans eG, G, rs ++ ds, cs ++ cs2, _, rfl, upd_same, All2.append (hR.imp fun _ _ z => z.on (Tups.ex (e2.trans eG))) (hC.imp fun _ _ z => z.on (Tups.ex eG)), fun p hp => ?_, ?_⟩
        · rcases List.mem_append.mp hp with z | z
          · exact hn p z
          · exact hcn p z
        · rw [List.length_append]
          omega
  · rintro σ H1 ⟨e1, F, rs, cs, o4, rfl, hF, hR, hn, hrl⟩
    have hul := hA.len
    have hrl2 := hR.len
    have hnl := (abc_len hnm).1
    have one : ∀ z : Str, z.length = 1 → z.length + nm.length ≤ sizeLine := fun z hz => add_le (by omega)
    refine ⟨_, rfl, _, rfl, _, _, rfl, rfl, one _ rfl, two_le, fun p1 n1 => ⟨_, rfl, _, _, rfl, rfl, one _ rfl, two_le, fun p2 n2 => ⟨two_le, fun D nD => ?_⟩⟩⟩
    have e2 := Ex.new (o := .tup [.str ("f" ++ nm), .int 1]) n1
    have e3 := Ex.new (o := .tup [.str ("g" ++ nm), .int 2]) n2
    have e4 := Ex.new (o := .lst [.ref p1, .ref p2]) nD
    refine ⟨F, D, _, _, rfl, rfl, e4 _ _ (e3 _ _ (e2 _ _ hF)), upd_same, Nat.le_of_lt (small1000 (by show rs.length + 2 ≤ 1000; omega)), fun G nG => ?_⟩
    have e5 := Ex.new (o := .lst (rs ++ [.ref p1, .ref p2])) nG
    have e25 := e2.trans (e3.trans (e4.trans e5))
    refine q G (rs ++ [.ref p1, .ref p2]) (cs ++ [("f" ++ nm, 1), ("g" ++ nm, 2)]) _ (e1.trans e25) upd_same (All2.append (hR.imp fun _ _ z => z.on (Tups.ex e25)) ⟨⟨p1, rfl, SqT.of (e5 _ _ (e4 _ _ (e3 _ _ upd_same)))⟩, ⟨p2, rfl, SqT.of (e5 _ _ (e4 _ _ upd_same))⟩, True.intro⟩) (fun p hp => ?_) ?_
    · rcases List.mem_append.mp hp with z | z
      · exact hn p z
      · simp only [List.mem_cons, List.not_mem_nil, or_false] at z
        rcases z with rfl | rfl
        · exact ⟨(own_nm hnm (by unfold ownNms; simp)).1, .inl rfl⟩
        · exact ⟨(own_nm hnm (by unfold ownNms; simp)).1, .inr rfl⟩
    · rw [List.length_append]
      show cs.length + 2 ≤ 100
      omega
end
end K6
/-! The law's modules. -/
namespace K6
open PySem PySem.Spec PyProof.Rows L2 Evl

theorem Ex.free {H H' : Hp} {p : Addr} (e : Ex H H') (h : H' p = none) : H p = none := by
  cases k : H p with
  | none => rfl
  | some o =>
    rw [e _ _ k] at h
    cases h
/-- two ways meet again -/
theorem iteJ {c : Prop} [Decidable c] {A : Prop} {G : Hp → Prop} {H : Hp} (PP : Hp → Prop) (hp : ¬ c → PP H) (rest : ∀ H', PP H' → G H') (thn : c → (∀ H', PP H' → G H') → A) : if c then A else G H := by
  by_cases h : c
  · rw [if_pos h]
    exact thn h rest
  · rw [if_neg h]
    exact rest H (hp h)
theorem cut_map {α : Type} (f : α → V) (rs : List α) (lo hi : Option Int) : ∃ ns : List α, cutV (rs.map f) lo hi = ns.map f ∧ (∀ n ∈ ns, n ∈ rs) ∧ ns.length ≤ rs.length := by
  unfold cutV
  refine ⟨(rs.drop (HT.sIx (rs.map f).length 0 lo)).take (HT.sIx (rs.map f).length (rs.map f).length hi - HT.sIx (rs.map f).length 0 lo), ?_, fun n hn => List.mem_of_mem_drop (List.mem_of_mem_take hn), ?_⟩
  · rw [List.map_take, List.map_drop]
  · rw [List.length_take, List.length_drop]
    omega
theorem cut_all {β : Type} {R : V → β → Prop} {us : List V} {cs : List β} (h : All2 R us cs) (lo hi : Option Int) : ∃ ds, All2 R (cutV us lo hi) ds ∧ (∀ d ∈ ds, d ∈ cs) ∧ ds.length ≤ cs.length := by
  unfold cutV
  refine ⟨_, (h.drop _).take _, fun n hn => List.mem_of_mem_drop (List.mem_of_mem_take hn), ?_⟩
  rw [List.length_take, List.length_drop]
  omega
/-- a line of the module nm's own -/
def OwnOk (nm : Str) (l : Line) : Prop := (∃ k n t, l = .own k n t ∧ n ∈ ownNms nm ∧ TreeOk t ∧ t.depth ≤ 8) ∨ (∃ n ps t, l = .fn n ps t ∧ n ∈ ownNms nm ∧ TreeOk t ∧ t.depth ≤ 8) ∨ ∃ k t, l = .act k t ∧ TreeOk t ∧ t.depth ≤ 8
/-- the list of own lines as it grows -/
structure MSt (K : Frag) (nm : Str) (b L : Addr) (H0 H : Hp) (n : Nat) (us : List V) (ls : List Line) : Prop where
  hb : BoxAt H0 b
  nL : H0 L = none
  g : Gr b H0 H
  hL : H L = some (.lst us)
  hA : All2 (LineAt K H) us ls
  ok : ∀ l ∈ ls, OwnOk nm l
  few : us.length ≤ n
section
variable {K : Frag} {nm : Str} {b L : Addr} {H0 H H1 : Hp} {n : Nat} {us : List V} {ls : List Line}
theorem MSt.gr (m : MSt K nm b L H0 H n us ls) (g : Gr b H H1) : MSt K nm b L H0 H1 n us ls :=
  ⟨m.hb, m.nL, m.g.trans g, g.same _ _ (fun z => m.hb.some (by rw [← z]; exact m.nL)) m.hL, m.hA.imp fun _ _ z => z.on (g.tups m.g.box), m.ok, m.few⟩
theorem MSt.ex (m : MSt K nm b L H0 H n us ls) (e : Ex H H1) : MSt K nm b L H0 H1 n us ls := m.gr (Gr.ex m.g.box e)
theorem MSt.push (m : MSt K nm b L H0 H n us ls) {v : V} {l : Line} (hx : LineAt K H v l) (ho : OwnOk nm l) : MSt K nm b L H0 (upd H L (.lst (us ++ [v]))) (n + 1) (us ++ [v]) (ls ++ [l]) := by
  have t : Tups K H (upd H L (.lst (us ++ [v]))) := Tups.lst m.hL
  refine ⟨m.hb, m.nL, Gr.mut m.hb m.g m.nL, upd_same, All2.append (m.hA.imp fun _ _ z => z.on t) ⟨hx.on t, True.intro⟩, fun l' hl => ?_, ?_⟩
  · rcases List.mem_append.mp hl with z | z
    · exact m.ok l' z
    · rw [List.mem_singleton.mp z]
      exact ho
  · rw [List.length_append, List.length_singleton]
    have := m.few
    omega
theorem MSt.sz (m : MSt K nm b L H0 H n us ls) (h : n ≤ 1000) : us.length < sizeLine := small1000 (Nat.le_trans m.few h)
end
theorem MSt.more {K : Frag} {nm : Str} {b L : Addr} {H0 H : Hp} {n k : Nat} {us : List V} {ls : List Line} (m : MSt K nm b L H0 H n us ls) (h : n ≤ k) : MSt K nm b L H0 H k us ls := ⟨m.hb, m.nL, m.g, m.hL, m.hA, m.ok, Nat.le_trans m.few h⟩
theorem MSt.put {K : Frag} {nm : Str} {b L : Addr} {H0 H : Hp} {n : Nat} {us : List V} {ls : List Line} (m : MSt K nm b L H0 H n us ls) {v : V} {l : Line} (hx : LineAt K H v l) (ho : OwnOk nm l) : ∃ H9 us9 ls9, upd H L (.lst (us ++ [v])) = H9 ∧ MSt K nm b L H0 H9 (n + 1) us9 ls9 := ⟨_, _, _, rfl, m.push hx ho⟩
theorem refs_line {K : Frag} {H : Hp} {us : List V} {ls : List Line} (h : All2 (LineAt K H) us ls) : ∀ u ∈ us, ∃ c, u = .ref c := fun u hu => by
  obtain ⟨i, hi⟩ := List.mem_iff_getElem?.mp hu
  obtain ⟨l, _, hl⟩ := h.get hi
  cases hl <;> exact ⟨_, rfl⟩
theorem TrPre.lists {K : Frag} {H H' : Hp} {b l c l' c' : Addr} {ns ns' : List Str} {us us' : List V} {cs cs' : List (Str × Int)} (p : TrPre K H b l c ns us cs) (g : Gr b H H') (h1 : H' l' = some (.lst (ns'.map V.str))) (h2 : ∀ n ∈ ns', NmOk n) (h3 : ns'.length ≤ 1000) (h4 : H' c' = some (.lst us')) (h5 : All2 (CallAt K H') us' cs') (h6 : ∀ p ∈ cs', CallOk p) : TrPre K H' b l' c' ns' us' cs' :=
  ⟨g.1, h1, h2, h3, h4, h5, h6⟩
theorem nm_own {o n : Str} (ho : o ∈ abc) (hn : n ∈ ownNms o) : NmOk n := (own_nm ho hn).1
theorem lst_snoc (ns : List Str) (x : Str) : (ns.map V.str ++ [V.str x]) = (ns ++ [x]).map V.str := by rw [List.map_append]; rfl
theorem lst_app (ns ms : List Str) : (ns.map V.str ++ ms.map V.str) = (ns ++ ms).map V.str := by rw [List.map_append]
theorem nm_p : NmOk ("p" : Str) ∧ NmOk ("q" : Str) := by decide +kernel

section
variable {P : Program} {w : World} {K : Frag} {mg : Str → Option Value} {base : Heap} {O CR CN : Addr}
/-- box, name, others: a module -/
def spModule (K : Frag) : Sp := fun vs H Q _ => ∃ (b o : Addr) (nm : Str) (os : List Str), vs = [.ref b, .str nm, .ref o] ∧ BoxAt H b ∧ H o = some (.lst (os.map V.str)) ∧ (∀ x ∈ os, x ∈ abc) ∧ os.length ≤ 3 ∧ nm ∈ abc ∧
  ∀ p us ls H', Gr b H H' → SqT K H' p us → All2 (LineAt K H') us ls → (∀ l ∈ ls, ImpOk os nm l ∨ OwnOk nm l) → ls.length ≤ 20 → Q (.ref p) H'
theorem ok_law_module (T : Txt K mg O CR CN) : Cal P w K mg base "_law_module" 6 ["_law_box", "_law_name", "_law_others"] (spModule K) := by
  have C_law_draw := ok_law_draw (P := P) (w := w) (base := base) T
  have C_law_imports := ok_law_imports (P := P) (w := w) (base := base) T
  have C_law_usable := ok_law_usable (P := P) (w := w) (base := base) T
  have C_law_calls := ok_law_calls (P := P) (w := w) (base := base) T
  have C_law_tree1 := ok_law_tree (P := P) (w := w) (base := base) T 1
  have C_law_tree2 := ok_law_tree (P := P) (w := w) (base := base) T 2
  refine Cal.of T.d_law_module sc__law_module (fun _ _ _ _ _ _ us hl => match us, hl with | [_, _, _], _ => rfl) (fun vs H Q E h => ?_) (fun f cdv A outer s H vs Q E hr h => ?_)
  · obtain ⟨b, o, nm, os, rfl, _⟩ := h
    rfl
  obtain ⟨b, o, nm, os, rfl, hB, ho, habc, hos, hnm, q⟩ := h
  refine ⟨_, (pss_cons (ps_set (i := 3) sc__law_module.nd rfl (Or.inl rfl) (pe_cal C_law_imports (hr.mono (by omega)) rfl (pa_cons (pv 0) (pa_cons (pv 1) (pa_cons (pv 2) pa_nil)))))
    (pss_cons (ps_set (i := 4) sc__law_module.nd rfl (Or.inl rfl) (pe_slice sl_list (pe_cal C_law_usable (hr.mono (by omega)) rfl (pa_cons (pv 3) (pa_cons (pv 1) (pa_cons (pe_str) pa_nil)))) po_none (po_some (pe_un un_neg (pe_int)))))
    (pss_cons (ps_setLc (i := 5) (own := [("_law_row", 10)]) rfl sc__law_module.nd rfl rfl (sw_true rfl rfl rfl (by decide +kernel)) (pi_list (pe_slice sl_list (pe_cal C_law_calls (hr.mono (by omega)) rfl (pa_cons (pv 3) (pa_cons (pv 1) pa_nil))) po_none (po_some (pe_un un_neg (pe_int))))) (blkOk_by (own := [("_law_row", 10)]) (N := ["_law_box", "_law_name", "_law_others", "_law_lines", "_law_names", "_law_calls_here", "_law_mine", "_law_own_here", "_law_every", "_law_kind", "_law_row"]) (sc := defScope s__law_module) (by decide +kernel)) (fun _ _ _ _ _ => pg_name (i := 10) sc__law_module.nd rfl (Or.inl rfl)) (fun _ _ _ _ _ => pts_one (pt_cmpR op_eq (pe_ix (show IxR _ (rIxT K) from ix_tup) (pv 10) (pe_int) (fun _ _ => rfl)) (pe_int) (nomark _))) (fun _ _ _ _ _ => pv 10))
    (pss_cons (ps_set (i := 6) sc__law_module.nd rfl (Or.inl rfl) (pe_op op_cat (pv 4) (pe_lst (pa_cons (pe_op op_add_str (pe_str) (pv 1)) pa_nil))))
    (pss_cons (ps_set (i := 7) sc__law_module.nd rfl (Or.inl rfl) (pe_lst pa_nil))
    (pss_cons (ps_expr (pe_bm PySem.F.plainAttrs_list PySem.F.slot_list_append PySem.F.type_list_append mt_append (pv 7) (pa_cons (pe_tup (pa_cons (pe_str) (pa_cons (pe_op op_add_str (pe_str) (pv 1)) (pa_cons (pe_cal C_law_tree1 (hr.mono (by omega)) rfl (pa_cons (pv 0) (pa_cons (pv 4) (pa_cons (pv 5) (pa_cons (pe_int) pa_nil))))) pa_nil)))) pa_nil)))
    (pss_cons (ps_expr (pe_bm PySem.F.plainAttrs_list PySem.F.slot_list_append PySem.F.type_list_append mt_append (pv 7) (pa_cons (pe_tup (pa_cons (pe_str) (pa_cons (pe_op op_add_str (pe_str) (pv 1)) (pa_cons (pe_tup (pa_cons (pe_str) pa_nil)) (pa_cons (pe_cal C_law_tree2 (hr.mono (by omega)) rfl (pa_cons (pv 0) (pa_cons (pe_op op_cat (pv 6) (pe_lst (pa_cons (pe_str) pa_nil))) (pa_cons (pe_lst pa_nil) (pa_cons (pe_int) pa_nil))))) pa_nil))))) pa_nil)))
    (pss_cons (ps_expr (pe_bm PySem.F.plainAttrs_list PySem.F.slot_list_append PySem.F.type_list_append mt_append (pv 7) (pa_cons (pe_tup (pa_cons (pe_str) (pa_cons (pe_op op_add_str (pe_str) (pv 1)) (pa_cons (pe_cal C_law_tree2 (hr.mono (by omega)) rfl (pa_cons (pv 0) (pa_cons (pv 6) (pa_cons (pe_op op_cat (pv 5) (pe_lst (pa_cons (pe_tup (pa_cons (pe_op op_add_str (pe_str) (pv 1)) (pa_cons (pe_int) pa_nil))) pa_nil))) (pa_cons (pe_int) pa_nil))))) pa_nil)))) pa_nil)))
    (pss_cons (ps_expr (pe_bm PySem.F.plainAttrs_list PySem.F.slot_list_append PySem.F.type_list_append mt_append (pv 7) (pa_cons (pe_tup (pa_cons (pe_str) (pa_cons (pe_op op_add_str (pe_str) (pv 1)) (pa_cons (pe_cal C_law_tree1 (hr.mono (by omega)) rfl (pa_cons (pv 0) (pa_cons (pv 6) (pa_cons (pe_lst pa_nil) (pa_cons (pe_int) pa_nil))))) pa_nil)))) pa_nil)))
    (pss_cons (ps_set (i := 8) sc__law_module.nd rfl (Or.inl rfl) (pe_cal C_law_usable (hr.mono (by omega)) rfl (pa_cons (pv 3) (pa_cons (pv 1) (pa_cons (pe_str) pa_nil)))))
    (pss_cons (ps_expr (pe_bm PySem.F.plainAttrs_list PySem.F.slot_list_append PySem.F.type_list_append mt_append (pv 7) (pa_cons (pe_tup (pa_cons (pe_str) (pa_cons (pe_op op_add_str (pe_str) (pv 1)) (pa_cons (pe_tup (pa_cons (pe_str) (pa_cons (pe_str) pa_nil))) (pa_cons (pe_cal C_law_tree2 (hr.mono (by omega)) rfl (pa_cons (pv 0) (pa_cons (pe_op op_cat (pv 8) (pe_lst (pa_cons (pe_str) (pa_cons (pe_str) pa_nil)))) (pa_cons (pv 5) (pa_cons (pe_int) pa_nil))))) pa_nil))))) pa_nil)))
    (pss_cons (ps_set (i := 9) sc__law_module.nd rfl (Or.inl rfl) (pe_cal C_law_draw (hr.mono (by omega)) rfl (pa_cons (pv 0) (pa_cons (pe_int) pa_nil))))
    (pss_cons (ps_if (pt_cmpR op_le (pv 9) (pe_int) (nomark _)) (pss_one (ps_expr (pe_bm PySem.F.plainAttrs_list PySem.F.slot_list_append PySem.F.type_list_append mt_append (pv 7) (pa_cons (pe_tup (pa_cons (pe_str) (pa_cons (pe_cal C_law_tree2 (hr.mono (by omega)) rfl (pa_cons (pv 0) (pa_cons (pe_op op_cat (pv 6) (pe_lst (pa_cons (pe_op op_add_str (pe_str) (pv 1)) pa_nil))) (pa_cons (pe_ix ix_list (pe_lst (pa_cons (pv 5) (pa_cons (pe_cal C_law_calls (hr.mono (by omega)) rfl (pa_cons (pv 3) (pa_cons (pv 1) pa_nil))) pa_nil))) (pv 9) (fun _ _ => rfl)) (pa_cons (pe_int) pa_nil))))) pa_nil))) pa_nil)))) pss_nil)
    (pss_cons (ps_if (pt_cmpR op_le (pv 9) (pe_int) (nomark _)) (pss_one (ps_expr (pe_bm PySem.F.plainAttrs_list PySem.F.slot_list_append PySem.F.type_list_append mt_append (pv 7) (pa_cons (pe_tup (pa_cons (pe_str) (pa_cons (pe_ix ix_list (pe_lst (pa_cons (pe_tup (pa_cons (pe_str) (pa_cons (pe_op op_add_str (pe_str) (pv 1)) pa_nil))) (pa_cons (pe_tup (pa_cons (pe_str) (pa_cons (pe_str) pa_nil))) (pa_cons (pe_tup (pa_cons (pe_str) (pa_cons (pe_tup (pa_cons (pe_str) (pa_cons (pe_str) pa_nil))) (pa_cons (pe_tup (pa_cons (pe_str) (pa_cons (pv 1) pa_nil))) pa_nil)))) pa_nil)))) (pe_cal C_law_draw (hr.mono (by omega)) rfl (pa_cons (pv 0) (pa_cons (pe_int) pa_nil))) (fun _ _ => rfl)) pa_nil))) pa_nil)))) pss_nil)
    (pss_cons (ps_if (pt_cmpR op_eq (pe_cal C_law_draw (hr.mono (by omega)) rfl (pa_cons (pv 0) (pa_cons (pe_int) pa_nil))) (pe_int) (nomark _)) (pss_one (ps_set (i := 7) sc__law_module.nd rfl (Or.inl rfl) (pe_op op_cat (pe_slice sl_list (pv 7) (po_some (pe_int)) po_none) (pe_slice sl_list (pv 7) po_none (po_some (pe_int)))))) pss_nil)
    (pss_one (ps_ret (pe_callTy call_tuple_of rfl T.ztuple (by decide +kernel) (pa_cons (pe_op op_cat (pv 3) (pv 7)) pa_nil))))))))))))))))))), ?_⟩
  have hnn : nm.length ≤ 10 := (abc_len hnm).1
  have one : ∀ z : Str, z.length = 1 → z.length + nm.length ≤ sizeLine := fun z hz => add_le (by omega)
  -- lines
  refine ⟨_, rfl, _, rfl, _, rfl, b, o, nm, os, rfl, hB, ho, habc, hos, hnm, fun IL ius ils H1 g1 nI hI1 hA1 hI hil => ?_⟩
  have nIb : IL ≠ b := fun z => hB.some (by rw [← z]; exact nI)
  have hiul := hA1.len
  -- names
  refine ⟨_, rfl, _, rfl, IL, ius, ils, os, nm, "xy", rfl, hI1, hA1, hI, habc, hnm, hil, fun D1 rs H2 e2 hD1 hrs hrl => ?_⟩
  refine ⟨_, rfl, _, rfl, D1, _, rfl, SqL.of hD1, fun D2 n2 => ?_⟩
  obtain ⟨ns, ens, hns, hnl⟩ := cut_map V.str rs none (some (-2))
  have e3 := Ex.new (o := .lst (cutV (rs.map V.str) none (some (-2)))) n2
  have hN : (upd H2 D2 (.lst (cutV (rs.map V.str) none (some (-2))))) D2 = some (.lst (ns.map V.str)) := by rw [upd_same, ens]
  have hnk : ∀ n ∈ ns, NmOk n := fun n hn => hrs n (hns n hn)
  have hI3 := e3 _ _ (e2 _ _ hI1)
  have hA3 := hA1.imp fun _ _ z => z.on (Tups.ex (e2.trans e3))
  have g3 := g1.thn (e2.trans e3)
  generalize upd H2 D2 (.lst (cutV (rs.map V.str) none (some (-2)))) = H3 at *
  -- calls
  refine ⟨_, rfl, _, rfl, IL, ius, ils, os, nm, rfl, hI3, hA3, hI, habc, hnm, hil, fun D4 ks cs H4 e4 hD4 hC4 hck hcl => ?_⟩
  refine ⟨_, rfl, _, rfl, D4, _, rfl, SqL.of hD4, fun D5 n5 => ?_⟩
  obtain ⟨ds, hds, hdm, hdl⟩ := cut_all hC4 none (some (-2))
  have e5 := Ex.new (o := .lst (cutV ks none (some (-2)))) n5
  refine ⟨D5, rfl, ⟨_, SqL.of upd_same⟩, fun C nC => ?_⟩
  have eC := Ex.new (o := .lst []) nC
  have e35 := e4.trans (e5.trans eC)
  refine lc_list (K := K) (a := D5) (xs := cutV ks none (some (-2))) (fun j H' => Ex H3 H' ∧ Ex (upd H4 D5 (.lst (cutV ks none (some (-2))))) H' ∧ ∃ (cu : List V) (cc : List (Str × Int)), H' C = some (.lst cu) ∧ All2 (CallAt K H') cu cc ∧ (∀ p ∈ cc, CallOk p) ∧ cc.length ≤ j)
    ⟨e35, eC, [], [], upd_same, True.intro, fun _ z => absurd z List.not_mem_nil, Nat.le_refl _⟩ (fun j H' _ z => SqL.of (z.2.1 _ _ upd_same)) ?_ ?_
  · rintro j y H6 hj ⟨e6, e6', cu, cc, hC, hcu, hcc, hjl⟩
    obtain ⟨p, hp, a, rfl, ha⟩ := hds.get hj
    have hjj : j < (cutV ks none (some (-2))).length := (List.getElem?_eq_some_iff.mp hj).1
    have hkk := cutV_length ks none (some (-2))
    have hkl := hC4.len
    have hul := hcu.len
    have ha6 := ex_t ((e5.trans e6')) ha
    refine ⟨rfl, _, rfl, a, _, 1, _, rfl, rfl, ha6, at1, rfl, _, rfl, ?_⟩
    refine ite2 (fun _ => ?_) (fun _ => ⟨e6, e6', cu, cc, hC, hcu, hcc, by omega⟩)
    have t6 : Tups K H6 (upd H6 C (.lst (cu ++ [.ref a]))) := Tups.lst hC
    refine ⟨_, rfl, _, hC, small1000 (by omega), e6.mut (Ex.free e4 (Ex.free e5 nC)), e6'.mut nC, cu ++ [.ref a], cc ++ [p], upd_same, All2.append (hcu.imp fun _ _ z => z.on t6) ⟨⟨a, rfl, t6 _ _ ha6⟩, True.intro⟩, fun p' hp' => ?_, ?_⟩
    · rcases List.mem_append.mp hp' with z | z
      · exact hcc p' z
      · rw [List.mem_singleton.mp z]
        exact hck p (hdm p (List.mem_of_getElem? hp))
    · rw [List.length_append, List.length_singleton]
      omega
  rintro H6 ⟨e6, _, cu, cc, hC, hcu, hcc, hjl⟩
  have hul := hcu.len
  have hkk := cutV_length ks none (some (-2))
  have hkl := hC4.len
  -- mine
  have hN6 := e6 _ _ hN
  have hI6 := e6 _ _ hI3
  have hA6 := hA3.imp fun _ _ z => z.on (Tups.ex e6)
  have g6 := g3.thn e6
  refine ⟨_, rfl, _, rfl, _, _, rfl, rfl, one _ rfl, one_le, fun p np => ⟨D2, p, _, _, rfl, rfl, (Ex.new np) _ _ hN6, upd_same, Nat.le_of_lt (small1000 (by rw [List.length_map]; show ns.length + 1 ≤ 1000; omega)), fun M nM => ?_⟩⟩
  have e7 := (Ex.new (o := .lst [.str ("x" ++ nm)]) np).trans (Ex.new (o := .lst (ns.map V.str ++ [.str ("x" ++ nm)])) nM)
  have hM7 : (upd (upd H6 p (.lst [.str ("x" ++ nm)])) M (.lst (ns.map V.str ++ [.str ("x" ++ nm)]))) M = some (.lst ((ns ++ ["x" ++ nm]).map V.str)) := by rw [upd_same, lst_snoc]
  have hN7 := e7 _ _ hN6
  have hI7 := e7 _ _ hI6
  have hC7 := e7 _ _ hC
  have hA7 := hA6.imp fun _ _ z => z.on (Tups.ex e7)
  have hcu7 := hcu.imp fun _ _ z => z.on (Tups.ex e7)
  have g7 := g6.thn e7
  have hxn : NmOk ("x" ++ nm) := nm_own hnm (by unfold ownNms; simp)
  have hyn : NmOk ("y" ++ nm) := nm_own hnm (by unfold ownNms; simp)
  have hfn : NmOk ("f" ++ nm) := nm_own hnm (by unfold ownNms; simp)
  have hmk : ∀ n ∈ ns ++ ["x" ++ nm], NmOk n := fun n hn => by
    rcases List.mem_append.mp hn with z | z
    · exact hnk n z
    · rw [List.mem_singleton.mp z]
      exact hxn
  have hml : (ns ++ ["x" ++ nm]).length ≤ 101 := by rw [List.length_append, List.length_singleton]; omega
  generalize upd (upd H6 p (.lst [.str ("x" ++ nm)])) M (.lst (ns.map V.str ++ [.str ("x" ++ nm)])) = H7 at *
  generalize ns ++ ["x" ++ nm] = ms at *
  have hB7 := g7.box
  have P0 : TrPre K H7 b D2 C ns cu cc := ⟨hB7, hN7, hnk, by omega, hC7, hcu7, hcc⟩
  have PM : TrPre K H7 b M C ms cu cc := ⟨hB7, hM7, hmk, by omega, hC7, hcu7, hcc⟩
  -- own
  refine ⟨Nat.zero_le _, fun L nL => ?_⟩
  have m0 : MSt K nm b L H7 (upd H7 L (.lst [])) 0 [] [] := ⟨hB7, nL, Gr.ex hB7 (Ex.new nL), upd_same, True.intro, fun _ z => absurd z List.not_mem_nil, Nat.le_refl _⟩
  generalize upd H7 L (.lst []) = H8 at *
  -- let x
  refine ⟨_, rfl, .inl ⟨rfl, _, SqL.of m0.hL⟩, _, rfl, _, _, rfl, rfl, one _ rfl, _, rfl, _, rfl, _, rfl, b, D2, C, ns, cu, cc, 1, rfl, rfl, P0.gr m0.g, fun v t H' g hv ht hd => ⟨three_le, fun p np => ?_⟩⟩
  have q0 := (m0.gr g).ex (Ex.new (o := .tup [.str "let", .str ("x" ++ nm), v]) np)
  refine ⟨L, _, _, rfl, rfl, q0.hL, q0.sz (by decide), ?_⟩
  obtain ⟨H9, us9, ls9, e9, m1⟩ := q0.put (v := .ref p) (.own (k := false) (SqT.of upd_same) (hv.on (Tups.ex (Ex.new np)))) (.inl ⟨_, _, _, rfl, by unfold ownNms; simp, ht, by omega⟩)
  rw [e9]
  clear e9 q0 hv ht g
  -- fn f
  refine ⟨_, rfl, .inl ⟨rfl, _, SqL.of m1.hL⟩, _, rfl, _, _, rfl, rfl, one _ rfl, one_le, fun p1 n1 => ?_⟩
  have i1 := Ex.new (o := .tup [.str "p"]) n1
  refine ⟨_, rfl, _, rfl, one_le, fun p2 n2 => ?_⟩
  have i2 := Ex.new (o := .lst [.str "p"]) n2
  have r2 := (m1.ex i1).ex i2
  refine ⟨M, p2, _, _, rfl, rfl, r2.g.strs hB7 hM7, upd_same, Nat.le_of_lt (small1000 (by rw [List.length_map]; show ms.length + 1 ≤ 1000; omega)), fun p3 n3 => ⟨Nat.zero_le _, fun p4 n4 => ?_⟩⟩
  have i34 := (Ex.new (o := .lst (ms.map V.str ++ [.str "p"])) n3).trans (Ex.new (o := .lst []) n4)
  have r4 := r2.ex i34
  have mkp : ∀ n ∈ ms ++ (["p"] : List Str), NmOk n := fun n hn => by
    rcases List.mem_append.mp hn with z | z
    · exact hmk n z
    · rw [List.mem_singleton.mp z]
      exact nm_p.1
  refine ⟨b, p3, p4, ms ++ (["p"] : List Str), [], [], 2, rfl, rfl, ⟨r4.g.box, (Ex.new n4) _ _ (by rw [upd_same, lst_snoc]), mkp, by rw [List.length_append, List.length_singleton]; omega, upd_same, True.intro, fun _ z => absurd z List.not_mem_nil⟩, fun v t H' g hv ht hd => ⟨four_le, fun p np => ?_⟩⟩
  have q1 := (r4.gr g).ex (Ex.new (o := .tup [.str "fn", .str ("f" ++ nm), .ref p1, v]) np)
  refine ⟨L, _, _, rfl, rfl, q1.hL, q1.sz (by decide), ?_⟩
  obtain ⟨HA, usA, lsA, eA, m2⟩ := q1.put (v := .ref p) (.fn (ps := ["p"]) (SqT.of upd_same) (Tups.ex (Ex.new np) _ _ (g.tups r4.g.box _ _ (Tups.ex (i2.trans i34) _ _ (SqT.of upd_same)))) (hv.on (Tups.ex (Ex.new np)))) (.inr (.inl ⟨_, _, _, rfl, by unfold ownNms; simp, ht, by omega⟩))
  rw [eA]
  clear eA q1 hv ht g r4 r2 i34 i2 i1
  -- let y
  refine ⟨_, rfl, .inl ⟨rfl, _, SqL.of m2.hL⟩, _, rfl, _, _, rfl, rfl, one _ rfl, _, rfl, _, rfl, _, rfl, _, rfl, _, _, rfl, rfl, one _ rfl, two_le, fun p5 n5 => ⟨one_le, fun p6 n6 => ?_⟩⟩
  have i5 := Ex.new (o := .tup [.str ("f" ++ nm), .int 1]) n5
  have i6 := Ex.new (o := .lst [.ref p5]) n6
  have r6 := (m2.ex i5).ex i6
  refine ⟨C, p6, _, _, rfl, rfl, r6.g.refs hB7 hC7 (refs_of hcu7), upd_same, Nat.le_of_lt (small1000 (by show cu.length + 1 ≤ 1000; omega)), fun p7 n7 => ?_⟩
  have i7 := Ex.new (o := .lst (cu ++ [.ref p5])) n7
  have r7 := r6.ex i7
  refine ⟨b, M, p7, ms, _, cc ++ [("f" ++ nm, 1)], 2, rfl, rfl, ⟨r7.g.box, r7.g.strs hB7 hM7, hmk, by omega, upd_same, All2.append (hcu7.imp fun _ _ z => z.on (r7.g.tups hB7)) ⟨⟨p5, rfl, Tups.ex (i6.trans i7) _ _ (SqT.of upd_same)⟩, True.intro⟩, fun p' hp' => ?_⟩, fun v t H' g hv ht hd => ⟨three_le, fun p np => ?_⟩⟩
  · rcases List.mem_append.mp hp' with z | z
    · exact hcc p' z
    · rw [List.mem_singleton.mp z]
      exact ⟨hfn, .inl rfl⟩
  have q2 := (r7.gr g).ex (Ex.new (o := .tup [.str "let", .str ("y" ++ nm), v]) np)
  refine ⟨L, _, _, rfl, rfl, q2.hL, q2.sz (by decide), ?_⟩
  obtain ⟨HB, usB, lsB, eB, m3⟩ := q2.put (v := .ref p) (.own (k := false) (SqT.of upd_same) (hv.on (Tups.ex (Ex.new np)))) (.inl ⟨_, _, _, rfl, by unfold ownNms; simp, ht, by omega⟩)
  rw [eB]
  clear eB q2 hv ht g r7 r6 i7 i6 i5
  -- keep k
  refine ⟨_, rfl, .inl ⟨rfl, _, SqL.of m3.hL⟩, _, rfl, _, _, rfl, rfl, one _ rfl, _, rfl, _, rfl, Nat.zero_le _, fun p8 n8 => ?_⟩
  have r8 := m3.ex (Ex.new (o := .lst []) n8)
  refine ⟨b, M, p8, ms, [], [], 1, rfl, rfl, ⟨r8.g.box, r8.g.strs hB7 hM7, hmk, by omega, upd_same, True.intro, fun _ z => absurd z List.not_mem_nil⟩, fun v t H' g hv ht hd => ⟨three_le, fun p np => ?_⟩⟩
  have q3 := (r8.gr g).ex (Ex.new (o := .tup [.str "keep", .str ("k" ++ nm), v]) np)
  refine ⟨L, _, _, rfl, rfl, q3.hL, q3.sz (by decide), ?_⟩
  obtain ⟨HC, usC, lsC, eC9, m4⟩ := q3.put (v := .ref p) (.own (k := true) (SqT.of upd_same) (hv.on (Tups.ex (Ex.new np)))) (.inl ⟨_, _, _, rfl, by unfold ownNms; simp, ht, by omega⟩)
  rw [eC9]
  clear eC9 q3 hv ht g r8
  -- every
  have hIc := m4.g.refs hB7 hI7 (refs_line hA7)
  refine ⟨_, rfl, _, rfl, IL, ius, ils, os, nm, "xyk", rfl, hIc, hA7.imp fun _ _ z => z.on (m4.g.tups hB7), hI, habc, hnm, hil, fun E1 rs2 HD e9 hE hrs2 hrl2 => ?_⟩
  have m5 := m4.ex e9
  -- fn g
  refine ⟨_, rfl, .inl ⟨rfl, _, SqL.of m5.hL⟩, _, rfl, _, _, rfl, rfl, one _ rfl, two_le, fun p9 n9 => ?_⟩
  have i9 := Ex.new (o := .tup [.str "p", .str "q"]) n9
  refine ⟨_, rfl, _, rfl, two_le, fun pA nA => ?_⟩
  have iA := Ex.new (o := .lst [.str "p", .str "q"]) nA
  refine ⟨E1, pA, _, _, rfl, rfl, (i9.trans iA) _ _ hE, upd_same, Nat.le_of_lt (small1000 (by rw [List.length_map]; show rs2.length + 2 ≤ 1000; omega)), fun pB nB => ?_⟩
  have iB := Ex.new (o := .lst (rs2.map V.str ++ [.str "p", .str "q"])) nB
  have rB := ((m5.ex i9).ex iA).ex iB
  refine ⟨_, rfl, b, pB, C, rs2 ++ (["p", "q"] : List Str), cu, cc, 2, rfl, rfl, ⟨rB.g.box, by rw [upd_same]; exact congrArg (fun z => some (HO.lst z)) (lst_app rs2 ["p", "q"]), fun n hn => ?_, by rw [List.length_append]; show rs2.length + 2 ≤ 1000; omega, rB.g.refs hB7 hC7 (refs_of hcu7), hcu7.imp fun _ _ z => z.on (rB.g.tups hB7), hcc⟩, fun v t H' g hv ht hd => ⟨four_le, fun p np => ?_⟩⟩
  · rcases List.mem_append.mp hn with z | z
    · exact hrs2 n z
    · simp only [List.mem_cons, List.not_mem_nil, or_false] at z
      rcases z with rfl | rfl
      · exact nm_p.1
      · exact nm_p.2
  have q4 := (rB.gr g).ex (Ex.new (o := .tup [.str "fn", .str ("g" ++ nm), .ref p9, v]) np)
  refine ⟨L, _, _, rfl, rfl, q4.hL, q4.sz (by decide), ?_⟩
  obtain ⟨HE, usE, lsE, eE, m6⟩ := q4.put (v := .ref p) (.fn (ps := ["p", "q"]) (SqT.of upd_same) (Tups.ex (Ex.new np) _ _ (g.tups rB.g.box _ _ (Tups.ex (iA.trans iB) _ _ (SqT.of upd_same)))) (hv.on (Tups.ex (Ex.new np)))) (.inr (.inl ⟨_, _, _, rfl, by unfold ownNms; simp, ht, by omega⟩))
  rw [eE]
  clear eE q4 hv ht g rB iB iA i9
  -- kind
  refine ⟨_, rfl, b, 9, rfl, m6.g.box, by decide, fun kd HF k0 k1 g => ?_⟩
  have m7 := m6.gr g
  clear g
  refine ⟨_, rfl, _, _, rfl, rfl, _, rfl, ?_⟩
  refine iteJ (fun H' => ∃ us ls, MSt K nm b L H7 H' 6 us ls) (fun _ => ⟨_, _, m7.more (by decide)⟩) ?_ ?_
  · rintro HG ⟨usG, lsG, m8⟩
    refine ⟨_, rfl, _, _, rfl, rfl, _, rfl, ?_⟩
    refine iteJ (fun H' => ∃ us ls, MSt K nm b L H7 H' 7 us ls) (fun _ => ⟨_, _, m8.more (by decide)⟩) ?_ ?_
    · rintro HI ⟨usI, lsI, m9⟩
      -- draw(box, 20) == 0
      refine ⟨_, rfl, b, 20, rfl, m9.g.box, by decide, fun r HJ _ _ g => ⟨rfl, _, rfl, ?_⟩⟩
      have m10 := m9.gr g
      have fin : ∀ (L2 : Addr) (HK : Hp) (usK : List V) (lsK : List Line), Gr b H7 HK → HK L2 = some (.lst usK) → All2 (LineAt K HK) usK lsK → (∀ l ∈ lsK, OwnOk nm l) → usK.length ≤ 14 →
          HK IL = some (.lst ius) ∧ ius.length + usK.length ≤ sizeLine ∧ ∀ (p1 p2 : Addr), HK p1 = none → (upd HK p1 (.lst (ius ++ usK))) p2 = none → Q (.ref p2) (upd (upd HK p1 (.lst (ius ++ usK))) p2 (.tup (ius ++ usK))) := by
        intro L2 HK usK lsK gK hL2 hAK hokK hfK
        have hAI := hA7.imp fun _ _ z => z.on (gK.tups hB7)
        have hkl := hAK.len
        refine ⟨gK.refs hB7 hI7 (refs_line hA7), Nat.le_of_lt (small1000 (by omega)), fun p1 p2 n1 n2 => ?_⟩
        have i12 := (Ex.new (o := .lst (ius ++ usK)) n1).trans (Ex.new (o := .tup (ius ++ usK)) n2)
        refine q p2 (ius ++ usK) (ils ++ lsK) _ ((g7.trans gK).thn i12) (SqT.of upd_same) (All2.append (hAI.imp fun _ _ z => z.on (Tups.ex i12)) (hAK.imp fun _ _ z => z.on (Tups.ex i12))) (fun l hl => ?_) (by rw [List.length_append]; omega)
        rcases List.mem_append.mp hl with z | z
        · exact .inl (hI l z)
        · exact .inr (hokK l z)
      have hfew := m10.few
      refine ite2 (fun _ => ?_) (fun _ => ?_)
      · obtain ⟨dA, hdA, hmA, hlA⟩ := cut_all m10.hA (some 2) none
        obtain ⟨dB, hdB, hmB, hlB⟩ := cut_all m10.hA none (some 2)
        have hcA := cutV_length usI (some 2) none
        have hcB := cutV_length usI none (some 2)
        refine ⟨_, rfl, _, rfl, L, _, rfl, SqL.of m10.hL, fun p1 n1 => ?_⟩
        have i1 := Ex.new (o := .lst (cutV usI (some 2) none)) n1
        refine ⟨_, rfl, _, rfl, L, _, rfl, SqL.of (i1 _ _ m10.hL), fun p2 n2 => ?_⟩
        have i2 := Ex.new (o := .lst (cutV usI none (some 2))) n2
        refine ⟨p1, p2, _, _, rfl, rfl, i2 _ _ upd_same, upd_same, Nat.le_of_lt (small1000 (by omega)), fun p3 n3 => ?_⟩
        have i3 := Ex.new (o := .lst (cutV usI (some 2) none ++ cutV usI none (some 2))) n3
        have i13 := i1.trans (i2.trans i3)
        obtain ⟨f1, f2, f3⟩ := fin p3 _ _ (dA ++ dB) (m10.g.thn i13) upd_same (All2.append (hdA.imp fun _ _ z => z.on (Tups.ex i13)) (hdB.imp fun _ _ z => z.on (Tups.ex i13))) (fun l hl => by
          rcases List.mem_append.mp hl with z | z
          · exact m10.ok l (hmA l z)
          · exact m10.ok l (hmB l z)) (by rw [List.length_append]; omega)
        exact ⟨_, rfl, _, rfl, IL, p3, _, _, rfl, rfl, f1, upd_same, f2, fun p4 n4 => ⟨p4, _, rfl, .inl ⟨SqL.of upd_same, fun p5 n5 => f3 p4 p5 n4 n5⟩⟩⟩
      · obtain ⟨f1, f2, f3⟩ := fin L _ _ _ m10.g m10.hL m10.hA m10.ok (by omega)
        exact ⟨_, rfl, _, rfl, IL, L, _, _, rfl, rfl, f1, m10.hL, f2, fun p4 n4 => ⟨p4, _, rfl, .inl ⟨SqL.of upd_same, fun p5 n5 => f3 p4 p5 n4 n5⟩⟩⟩
    · intro _ J
      -- hold
      refine ⟨_, rfl, .inl ⟨rfl, _, SqL.of m8.hL⟩, _, rfl, _, _, rfl, rfl, one _ rfl, two_le, fun p1 n1 => ⟨two_le, fun p2 n2 => ⟨two_le, fun p3 n3 => ⟨_, rfl, two_le, fun p4 n4 => ⟨three_le, fun p5 n5 => ⟨three_le, fun z nz => ?_⟩⟩⟩⟩⟩⟩
      have i1 := Ex.new (o := .tup [.str "string", .str ("r" ++ nm)]) n1
      have i2 := Ex.new (o := .tup [.str "string", .str "common"]) n2
      have i3 := Ex.new (o := .tup [.str "string", .str "r"]) n3
      have i4 := Ex.new (o := .tup [.str "string", .str nm]) n4
      have i5 := Ex.new (o := .tup [.str "+", .ref p3, .ref p4]) n5
      have iz := Ex.new (o := .lst [.ref p1, .ref p2, .ref p5]) nz
      have i25 := i2.trans (i3.trans (i4.trans (i5.trans iz)))
      have r0 := m8.ex (i1.trans i25)
      refine ⟨_, rfl, b, 3, rfl, r0.g.box, by decide, fun i H' i0 i9 g => ?_⟩
      have hz := g.same z _ (fun y => r0.hb.some (by rw [← y]; exact Gr.free (m8.g.thn (i1.trans (i2.trans (i3.trans (i4.trans i5))))) nz)) upd_same
      have T1 : TreeAt K _ (.ref p1) (.lit false (.str ("r" ++ nm))) := .lit (Tups.ex i25 _ _ (SqT.of upd_same))
      have T2 : TreeAt K _ (.ref p2) (.lit false (.str "common")) := .lit (Tups.ex (i3.trans (i4.trans (i5.trans iz))) _ _ (SqT.of upd_same))
      have T3 : TreeAt K _ (.ref p3) (.lit false (.str "r")) := .lit (Tups.ex (i4.trans (i5.trans iz)) _ _ (SqT.of upd_same))
      have T4 : TreeAt K _ (.ref p4) (.lit false (.str nm)) := .lit (Tups.ex (i5.trans iz) _ _ (SqT.of upd_same))
      have T5 : TreeAt K _ (.ref p5) (.op "+" [.lit false (.str "r"), .lit false (.str nm)]) := .opA (us := [.ref p3, .ref p4]) (Tups.ex iz _ _ (SqT.of upd_same)) (by decide +kernel) ⟨T3, T4, True.intro⟩
      obtain ⟨v, hv, hat⟩ := pick [.ref p1, .ref p2, .ref p5] i i0 i9
      obtain ⟨t, hvt, ht, hd⟩ : ∃ t, TreeAt K _ v t ∧ TreeOk t ∧ t.depth ≤ 2 := by
        simp only [List.mem_cons, List.not_mem_nil, or_false] at hv
        rcases hv with rfl | rfl | rfl
        · exact ⟨_, T1, .lit, by simp [Tree.depth]⟩
        · exact ⟨_, T2, .lit, by simp [Tree.depth]⟩
        · exact ⟨_, T5, .op (.cons .lit (.cons .lit .nil)), by simp [Tree.depth, depths]⟩
      refine ⟨z, _, i, _, rfl, rfl, SqL.of hz, hat, two_le, fun p np => ?_⟩
      have q6 := (r0.gr g).ex (Ex.new (o := .tup [.str "hold", v]) np)
      refine ⟨L, _, _, rfl, rfl, q6.hL, q6.sz (by decide), ?_⟩
      exact J _ ⟨_, _, q6.push (v := .ref p) (.act (k := true) (SqT.of upd_same) ((hvt.on (g.tups r0.g.box)).on (Tups.ex (Ex.new np)))) (.inr (.inr ⟨_, _, rfl, ht, by omega⟩))⟩
  · intro c J
    have c1 : kd ≤ 1 := of_decide_eq_true c
    refine ⟨_, rfl, .inl ⟨rfl, _, SqL.of m7.hL⟩, _, rfl, _, rfl, _, rfl, _, _, rfl, rfl, one _ rfl, one_le, fun p1 n1 => ?_⟩
    have i1 := Ex.new (o := .lst [.str ("y" ++ nm)]) n1
    have r1 := m7.ex i1
    refine ⟨M, p1, _, _, rfl, rfl, r1.g.strs hB7 hM7, upd_same, Nat.le_of_lt (small1000 (by rw [List.length_map]; show ms.length + 1 ≤ 1000; omega)), fun p2 n2 => ?_⟩
    have i2 := Ex.new (o := .lst (ms.map V.str ++ [.str ("y" ++ nm)])) n2
    have r2 := r1.ex i2
    refine ⟨_, rfl, _, rfl, _, rfl, IL, ius, ils, os, nm, rfl, r2.g.refs hB7 hI7 (refs_line hA7), hA7.imp fun _ _ z => z.on (r2.g.tups hB7), hI, habc, hnm, hil, fun D ks2 cs2 HG eG hD hC2 hck2 hcl2 => ⟨two_le, fun z nz => ?_⟩⟩
    have iz := Ex.new (o := .lst [.ref C, .ref D]) nz
    have r3 := (r2.ex eG).ex iz
    have hCz := r3.g.refs hB7 hC7 (refs_of hcu7)
    obtain ⟨cA, uA, csA, hat, hlA, haA, hkA⟩ : ∃ cA uA csA, atI [V.ref C, V.ref D] kd = some (.ref cA) ∧ (upd HG z (.lst [.ref C, .ref D])) cA = some (.lst uA) ∧ All2 (CallAt K (upd HG z (.lst [.ref C, .ref D]))) uA csA ∧ ∀ p ∈ csA, CallOk p := by
      rcases (by omega : kd = 0 ∨ kd = 1) with rfl | rfl
      · exact ⟨C, cu, cc, at0, hCz, hcu7.imp fun _ _ z => z.on (r3.g.tups hB7), hcc⟩
      · exact ⟨D, ks2, cs2, at1, iz _ _ hD, hC2.imp fun _ _ y => y.on (Tups.ex iz), hck2⟩
    have mky : ∀ n ∈ ms ++ ["y" ++ nm], NmOk n := fun n hn => by
      rcases List.mem_append.mp hn with z | z
      · exact hmk n z
      · rw [List.mem_singleton.mp z]
        exact hyn
    refine ⟨_, rfl, z, _, kd, _, rfl, rfl, SqL.of upd_same, hat, b, p2, cA, ms ++ ["y" ++ nm], uA, csA, 2, rfl, rfl, ⟨r3.g.box, (eG.trans iz) _ _ (by rw [upd_same, lst_snoc]), mky, by rw [List.length_append, List.length_singleton]; omega, hlA, haA, hkA⟩, fun v t H' g hv ht hd => ⟨two_le, fun p np => ?_⟩⟩
    have q5 := (r3.gr g).ex (Ex.new (o := .tup [.str "do", v]) np)
    refine ⟨L, _, _, rfl, rfl, q5.hL, q5.sz (by decide), ?_⟩
    exact J _ ⟨_, _, q5.push (v := .ref p) (.act (k := false) (SqT.of upd_same) (hv.on (Tups.ex (Ex.new np)))) (.inr (.inr ⟨_, _, rfl, ht, by omega⟩))⟩
end
end K6
/-! The law's dict of modules; the wrong trees and lines. -/
namespace K6
open PySem PySem.Spec PyProof.Rows L2 Evl

/-! ### displays of trees -/
/-- a term gives a text and makes nothing -/
def Ts (σ : L2.St) (te : TE) (n : Str) : Prop := ∀ (H : Hp) (Q : VK), Q (.str n) H → te σ H Q
/-- a term makes a tree -/
def Bu (K : Frag) (σ : L2.St) (H0 : Hp) (te : TE) (t : Tree) : Prop := ∀ (H : Hp), Ex H0 H → ∀ Q : VK, (∀ v H', Ex H H' → TreeAt K H' v t → Q v H') → te σ H Q
def BuL (K : Frag) (σ : L2.St) (H0 : Hp) (ta : TA) (ts : List Tree) : Prop := ∀ (H : Hp), Ex H0 H → ∀ Q : List V → Hp → Prop, (∀ us H', Ex H H' → All2 (TreeAt K H') us ts → Q us H') → ta σ H Q
section
variable {K : Frag} {σ : L2.St} {H0 : Hp} {te tf tg tn : TE} {ta : TA} {n : Str} {t t1 t2 t3 : Tree} {ts : List Tree}
theorem Ts.c : Ts σ (tC (.str n)) n := fun _ _ q => q
theorem Ts.v {i : Nat} (h : σ[i]? = some (some (.str n))) : Ts σ (tVar i) n := fun _ _ q => ⟨_, h, q⟩
theorem Ts.add {x : Str} (h1 : Ts σ te x) (h2 : Ts σ tf n) (h : x.length + n.length ≤ sizeLine) : Ts σ (tOp (fun x y H Q => ∃ i j, x = .str i ∧ y = .str j ∧ i.length + j.length ≤ sizeLine ∧ Q (.str (i ++ j)) H) te tf) (x ++ n) := fun _ _ q => h1 _ _ (h2 _ _ ⟨_, _, rfl, rfl, h, q⟩)
theorem Bu.v {i : Nat} {v : V} (h : σ[i]? = some (some v)) (ht : TreeAt K H0 v t) : Bu K σ H0 (tVar i) t := fun _ e _ q => ⟨_, h, q _ _ (Ex.refl _) (ht.on (Tups.ex e))⟩
theorem BuL.nil : BuL K σ H0 tNil [] := fun _ _ _ q => q _ _ (Ex.refl _) True.intro
theorem BuL.cons (h : Bu K σ H0 te t) (h2 : BuL K σ H0 ta ts) : BuL K σ H0 (tCons te ta) (t :: ts) := fun H e Q q => h H e _ fun v H1 e1 hv => h2 H1 (e.trans e1) _ fun us H2 e2 hs => q _ _ (e1.trans e2) ⟨hv.on (Tups.ex e2), hs⟩
theorem Bu.name (h : Ts σ tn n) : Bu K σ H0 (tTup (tCons (tC (.str "name")) (tCons tn tNil))) (.name n) := fun H _ Q q => h _ _ ⟨two_le, fun p np => q _ _ (Ex.new np) (.name (SqT.of upd_same))⟩
theorem Bu.lit {x : V} : Bu K σ H0 (tTup (tCons (tC (.str "number")) (tCons (tC x) tNil))) (.lit true x) := fun H _ Q q => ⟨two_le, fun p np => q _ _ (Ex.new np) (.lit (SqT.of upd_same))⟩
theorem Bu.set (h : Ts σ tn n) (h1 : Bu K σ H0 te t) : Bu K σ H0 (tTup (tCons (tC (.str "set")) (tCons tn (tCons te tNil)))) (.set n t) := fun H e Q q => h _ _ (h1 _ e _ fun v H1 e1 hv => ⟨three_le, fun p np => q _ _ (e1.trans (Ex.new np)) (.set (SqT.of upd_same) (hv.on (Tups.ex (Ex.new np))))⟩)
theorem Bu.call (h : Ts σ tn n) (h1 : BuL K σ H0 ta ts) (hl : ts.length ≤ 5) : Bu K σ H0 (tTup (tCons (tC (.str "call")) (tCons tn (tCons (tTup ta) tNil)))) (.call n ts) := fun H e Q q => h _ _ (h1 _ e _ fun us H1 e1 hv => ⟨by rw [hv.len]; exact Nat.le_trans hl five_le, fun b nb => ⟨three_le, fun p np => q _ _ (e1.trans ((Ex.new nb).trans (Ex.new np))) (.callA (SqT.of upd_same) (Tups.ex (Ex.new np) _ _ (SqT.of upd_same)) (hv.imp fun _ _ z => z.on (Tups.ex ((Ex.new nb).trans (Ex.new np)))))⟩⟩)
theorem Bu.op {k : Str} (hk : k ∈ treeOps0) (h1 : BuL K σ H0 ta ts) (hl : ts.length ≤ 4) : Bu K σ H0 (tTup (tCons (tC (.str k)) ta)) (.op k ts) := fun H e Q q => h1 _ e _ fun us H1 e1 hv => ⟨by rw [List.length_cons, hv.len]; exact Nat.le_trans (by omega) five_le, fun p np => q _ _ (e1.trans (Ex.new np)) (.opA (SqT.of upd_same) hk (hv.imp fun _ _ z => z.on (Tups.ex (Ex.new np))))⟩
end

section
variable {K : Frag} {σ : L2.St} {H : Hp} {te : TE} {ta : TA} {t : Tree} {ts : List Tree} {D : Ends} {g : TG} {u : TS}
theorem BuL.lst (h : BuL K σ H ta ts) (hl : ts.length ≤ 5) (hk : ∀ us H1, Ex H H1 → All2 (TreeAt K H1) us ts → ∀ p, H1 p = none → g (.ref p) σ (upd H1 p (.lst us)) (u D)) : tSeq (tAsg (tLst ta) g) u D σ H :=
  h H (Ex.refl _) _ fun us H1 e hA => ⟨by rw [hA.len]; exact Nat.le_trans hl five_le, hk us H1 e hA⟩
theorem BuL.cat {i : Nat} {q : Addr} {xs : List V} (h : BuL K σ H ta ts) (hl : ts.length ≤ 5) (hi : σ[i]? = some (some (.ref q))) (hq : H q = some (.lst xs)) (hx : xs.length ≤ 5)
    (hk : ∀ us H1, Ex H H1 → All2 (TreeAt K H1) us ts → ∀ p, H1 p = none → g (.ref p) σ (upd H1 p (.lst (xs ++ us))) (u D)) : tSeq (tAsg (tOp rCat (tVar i) (tLst ta)) g) u D σ H :=
  ⟨_, hi, h H (Ex.refl _) _ fun us H1 e hA => ⟨by rw [hA.len]; exact Nat.le_trans hl five_le, fun z nz => ⟨q, z, xs, us, rfl, rfl, (Ex.new nz) _ _ (e _ _ hq), upd_same, Nat.le_of_lt (small1000 (by have := hA.len; omega)), fun p np => hk us (upd H1 z (.lst us)) (e.trans (Ex.new nz)) (hA.imp fun _ _ y => y.on (Tups.ex (Ex.new nz))) p np⟩⟩⟩
theorem BuL.at {b : Addr} {many : Int} {Q : VK} (h : BuL K σ H ta ts) (hl : ts.length ≤ 5) (hm : many = ts.length) (h0 : 0 < ts.length) (hb : σ[0]? = some (some (.ref b))) (hB : BoxAt H b)
    (hk : ∀ v t H', Gr b H H' → t ∈ ts → TreeAt K H' v t → Q v H') : tOp (rIxL K) (tLst ta) (tCall spDraw [] E0 (tCons (tVar 0) (tCons (tC (.int many)) tNil))) σ H Q :=
  h H (Ex.refl _) _ fun us H1 e hA => ⟨by rw [hA.len]; exact Nat.le_trans hl five_le, fun z nz => ⟨_, hb, b, many, rfl, (hB.ex e).ex (Ex.new nz), by omega, fun i H2 i0 i9 g => by
    obtain ⟨v, hv, hat⟩ := pick us i i0 (by rw [hA.len, ← hm]; exact i9)
    obtain ⟨j, hj⟩ := List.mem_iff_getElem?.mp hv
    obtain ⟨t, htm, hvt⟩ := hA.get hj
    have hz := g.same z _ (fun y => (hB.ex e).some (by rw [← y]; exact nz)) upd_same
    exact ⟨z, us, i, v, rfl, rfl, SqL.of hz, hat, hk v t H2 ((Gr.ex hB (e.trans (Ex.new nz))).trans g) (List.mem_of_getElem? htm) (hvt.on ((Gr.ex (hB.ex e) (Ex.new nz)).trans g |>.tups (hB.ex e)))⟩⟩⟩
theorem Bu.ret (h : Bu K σ H te t) (hk : ∀ v H', Ex H H' → TreeAt K H' v t → D.rt v H') : tRet te D σ H := h H (Ex.refl _) _ hk
end
/-- a wrong line -/
def WrongOk (nm : Str) (l : Line) : Prop := (∃ k t, l = .own k "nn" t ∧ TreeOk t ∧ t.depth ≤ 8) ∨ (∃ k t, l = .act k t ∧ TreeOk t ∧ t.depth ≤ 8) ∨ l = .imp false [("x" ++ nm, "mm"), ("none", "nn")] nm ∨ l = .imp true [("none", "nn")] nm ∨ ∃ ps t, l = .fn "h" ps t ∧ TreeOk t ∧ t.depth ≤ 8
theorem nm_some : NmOk ("none" : Str) ∧ NmOk ("nine" : Str) ∧ NmOk ("nn" : Str) ∧ NmOk ("mm" : Str) := by decide +kernel

section
variable {P : Program} {w : World} {K : Frag} {mg : Str → Option Value} {base : Heap} {O CR CN : Addr}
/-- box, name: a wrong tree -/
def spWrongTree (K : Frag) : Sp := fun vs H Q _ => ∃ (b : Addr) (nm : Str), vs = [.ref b, .str nm] ∧ BoxAt H b ∧ nm ∈ abc ∧ ∀ v t H', Gr b H H' → TreeAt K H' v t → TreeOk t → t.depth ≤ 6 → Q v H'
def menuT (nm : Str) : List Tree := [.name "none", .name ("f" ++ nm), .set ("g" ++ nm) (.name ("x" ++ nm)), .call ("x" ++ nm) [], .call ("f" ++ nm) []] ++ [.call ("g" ++ nm) [.name ("x" ++ nm)], .set "none" (.name "nine"), .call "none" [.name "nine"]]
theorem menu_ok {nm : Str} (hnm : nm ∈ abc) : ∀ t ∈ menuT nm, TreeOk t ∧ t.depth ≤ 3 := by
  have hx : NmOk ("x" ++ nm) := nm_own hnm (by unfold ownNms; simp)
  have hf : NmOk ("f" ++ nm) := nm_own hnm (by unfold ownNms; simp)
  have hg : NmOk ("g" ++ nm) := nm_own hnm (by unfold ownNms; simp)
  obtain ⟨n1, n2, _⟩ := nm_some
  intro t ht
  simp only [menuT, List.cons_append, List.nil_append, List.mem_cons, List.not_mem_nil, or_false] at ht
  rcases ht with rfl | rfl | rfl | rfl | rfl | rfl | rfl | rfl
  · exact ⟨.name n1, by simp [Tree.depth]⟩
  · exact ⟨.name hf, by simp [Tree.depth]⟩
  · exact ⟨.set hg (.name hx), by simp [Tree.depth]⟩
  · exact ⟨.call hx .nil, by simp [Tree.depth, depths]⟩
  · exact ⟨.call hf .nil, by simp [Tree.depth, depths]⟩
  · exact ⟨.call hg (.cons (.name hx) .nil), by simp [Tree.depth, depths]⟩
  · exact ⟨.set n1 (.name n2), by simp [Tree.depth]⟩
  · exact ⟨.call n1 (.cons (.name n2) .nil), by simp [Tree.depth, depths]⟩
theorem ok_law_wrong_tree (T : Txt K mg O CR CN) : Cal P w K mg base "_law_wrong_tree" 2 ["_law_box", "_law_name"] (spWrongTree K) := by
  have C_law_draw := ok_law_draw (P := P) (w := w) (base := base) T
  refine Cal.of T.d_law_wrong_tree sc__law_wrong_tree (fun _ _ _ _ _ _ us hl => match us, hl with | [_, _], _ => rfl) (fun vs H Q E h => ?_) (fun f cdv A outer s H vs Q E hr h => ?_)
  · obtain ⟨b, nm, rfl, _⟩ := h
    rfl
  obtain ⟨b, nm, rfl, hB, hnm, q⟩ := h
  refine ⟨_, (pss_cons (ps_set (i := 2) sc__law_wrong_tree.nd rfl (Or.inl rfl) (pe_tup (pa_cons (pe_str) (pa_cons (pe_op op_add_str (pe_str) (pv 1)) pa_nil))))
    (pss_cons (ps_set (i := 3) sc__law_wrong_tree.nd rfl (Or.inl rfl) (pe_lst (pa_cons (pe_tup (pa_cons (pe_str) (pa_cons (pe_str) pa_nil))) (pa_cons (pe_tup (pa_cons (pe_str) (pa_cons (pe_op op_add_str (pe_str) (pv 1)) pa_nil))) (pa_cons (pe_tup (pa_cons (pe_str) (pa_cons (pe_op op_add_str (pe_str) (pv 1)) (pa_cons (pv 2) pa_nil)))) (pa_cons (pe_tup (pa_cons (pe_str) (pa_cons (pe_op op_add_str (pe_str) (pv 1)) (pa_cons (pe_tup pa_nil) pa_nil)))) (pa_cons (pe_tup (pa_cons (pe_str) (pa_cons (pe_op op_add_str (pe_str) (pv 1)) (pa_cons (pe_tup pa_nil) pa_nil)))) pa_nil)))))))
    (pss_cons (ps_set (i := 3) sc__law_wrong_tree.nd rfl (Or.inl rfl) (pe_op op_cat (pv 3) (pe_lst (pa_cons (pe_tup (pa_cons (pe_str) (pa_cons (pe_op op_add_str (pe_str) (pv 1)) (pa_cons (pe_tup (pa_cons (pv 2) pa_nil)) pa_nil)))) (pa_cons (pe_tup (pa_cons (pe_str) (pa_cons (pe_str) (pa_cons (pe_tup (pa_cons (pe_str) (pa_cons (pe_str) pa_nil))) pa_nil)))) (pa_cons (pe_tup (pa_cons (pe_str) (pa_cons (pe_str) (pa_cons (pe_tup (pa_cons (pe_tup (pa_cons (pe_str) (pa_cons (pe_str) pa_nil))) pa_nil)) pa_nil)))) pa_nil))))))
    (pss_cons (ps_set (i := 4) sc__law_wrong_tree.nd rfl (Or.inl rfl) (pe_ix ix_list (pv 3) (pe_cal C_law_draw (hr.mono (by omega)) rfl (pa_cons (pv 0) (pa_cons (pe_int) pa_nil))) (fun _ _ => rfl)))
    (pss_cons (ps_set (i := 5) sc__law_wrong_tree.nd rfl (Or.inl rfl) (pe_cal C_law_draw (hr.mono (by omega)) rfl (pa_cons (pv 0) (pa_cons (pe_int) pa_nil))))
    (pss_cons (ps_if (pt_cmpR op_eq (pv 5) (pe_int) (nomark _)) (pss_one (ps_ret (pe_tup (pa_cons (pe_str) (pa_cons (pv 2) (pa_cons (pv 4) pa_nil)))))) pss_nil)
    (pss_cons (ps_if (pt_cmpR op_eq (pv 5) (pe_int) (nomark _)) (pss_one (ps_ret (pe_tup (pa_cons (pe_str) (pa_cons (pv 2) (pa_cons (pv 2) (pa_cons (pv 4) pa_nil))))))) pss_nil)
    (pss_cons (ps_if (pt_cmpR op_eq (pv 5) (pe_int) (nomark _)) (pss_one (ps_ret (pe_tup (pa_cons (pe_str) (pa_cons (pv 2) (pa_cons (pv 4) pa_nil)))))) pss_nil)
    (pss_cons (ps_if (pt_cmpR op_eq (pv 5) (pe_int) (nomark _)) (pss_one (ps_ret (pe_tup (pa_cons (pe_str) (pa_cons (pe_op op_add_str (pe_str) (pv 1)) (pa_cons (pv 4) pa_nil)))))) pss_nil)
    (pss_cons (ps_if (pt_cmpR op_eq (pv 5) (pe_int) (nomark _)) (pss_one (ps_ret (pe_tup (pa_cons (pe_str) (pa_cons (pv 2) (pa_cons (pv 4) (pa_cons (pe_tup (pa_cons (pe_str) (pa_cons (pe_str) pa_nil))) pa_nil))))))) pss_nil)
    (pss_cons (ps_if (pt_cmpR op_eq (pv 5) (pe_int) (nomark _)) (pss_one (ps_ret (pe_tup (pa_cons (pe_str) (pa_cons (pe_op op_add_str (pe_str) (pv 1)) (pa_cons (pe_tup (pa_cons (pv 4) pa_nil)) pa_nil)))))) pss_nil)
    (pss_cons (ps_if (pt_cmpR op_eq (pv 5) (pe_int) (nomark _)) (pss_one (ps_ret (pe_tup (pa_cons (pe_str) (pa_cons (pe_tup (pa_cons (pe_str) (pa_cons (pe_op op_add_str (pe_str) (pv 1)) (pa_cons (pv 4) pa_nil)))) (pa_cons (pe_tup (pa_cons (pe_str) (pa_cons (pe_str) pa_nil))) pa_nil)))))) pss_nil)
    (pss_one (ps_ret (pv 4))))))))))))))), ?_⟩
  have hnn : nm.length ≤ 10 := (abc_len hnm).1
  have one : ∀ z : Str, z.length = 1 → z.length + nm.length ≤ sizeLine := fun z hz => add_le (by omega)
  have hx : NmOk ("x" ++ nm) := nm_own hnm (by unfold ownNms; simp)
  have hf : NmOk ("f" ++ nm) := nm_own hnm (by unfold ownNms; simp)
  obtain ⟨n1, n2, _⟩ := nm_some
  -- x
  refine ⟨_, rfl, _, _, rfl, rfl, one _ rfl, two_le, fun p np => ?_⟩
  have e1 := Ex.new (o := .tup [.str "name", .str ("x" ++ nm)]) np
  have hX : TreeAt K (upd H p (.tup [.str "name", .str ("x" ++ nm)])) (.ref p) (.name ("x" ++ nm)) := .name (SqT.of upd_same)
  generalize upd H p (.tup [.str "name", .str ("x" ++ nm)]) = H1 at *
  -- menu
  dsimp only [gName]
  refine BuL.lst (K := K) (ts := [.name "none", .name ("f" ++ nm), .set ("g" ++ nm) (.name ("x" ++ nm)), .call ("x" ++ nm) [], .call ("f" ++ nm) []]) ?_ (Nat.le_of_ble_eq_true rfl) fun us H2 e2 hA p np => ?_
  · exact BuL.cons (Bu.name Ts.c) (BuL.cons (Bu.name (Ts.add Ts.c (Ts.v rfl) (one _ rfl))) (BuL.cons (Bu.set (Ts.add Ts.c (Ts.v rfl) (one _ rfl)) (Bu.v rfl hX)) (BuL.cons (Bu.call (Ts.add Ts.c (Ts.v rfl) (one _ rfl)) BuL.nil (Nat.le_of_ble_eq_true rfl)) (BuL.cons (Bu.call (Ts.add Ts.c (Ts.v rfl) (one _ rfl)) BuL.nil (Nat.le_of_ble_eq_true rfl)) BuL.nil))))
  have hB2 := hB.ex (e1.trans e2)
  have hul := hA.len
  have i1 := Ex.new (o := .lst us) np
  have hX3 := hX.on (Tups.ex (e2.trans i1))
  have hp3 : (upd H2 p (.lst us)) p = some (.lst us) := upd_same
  dsimp only [gName]
  refine BuL.cat (K := K) (ts := [.call ("g" ++ nm) [.name ("x" ++ nm)], .set "none" (.name "nine"), .call "none" [.name "nine"]]) (xs := us) (q := p) ?_ (Nat.le_of_ble_eq_true rfl) rfl hp3 (by rw [hul]; exact Nat.le_of_ble_eq_true rfl) fun us2 H3 e3 hA2 p2 np2 => ?_
  · exact BuL.cons (Bu.call (Ts.add Ts.c (Ts.v rfl) (one _ rfl)) (BuL.cons (Bu.v rfl hX3) BuL.nil) (Nat.le_of_ble_eq_true rfl)) (BuL.cons (Bu.set Ts.c (Bu.name Ts.c)) (BuL.cons (Bu.call Ts.c (BuL.cons (Bu.name Ts.c) BuL.nil) (Nat.le_of_ble_eq_true rfl)) BuL.nil))
  have i2 := Ex.new (o := .lst (us ++ us2)) np2
  have e24 := i1.trans (e3.trans i2)
  have hM : All2 (TreeAt K (upd H3 p2 (.lst (us ++ us2)))) (us ++ us2) (menuT nm) := All2.append (hA.imp fun _ _ z => z.on (Tups.ex e24)) (hA2.imp fun _ _ z => z.on (Tups.ex i2))
  have hX4 := hX.on (Tups.ex (e2.trans e24))
  have hB4 := hB2.ex e24
  have hp4 : (upd H3 p2 (.lst (us ++ us2))) p2 = some (.lst (us ++ us2)) := upd_same
  have e14 := e1.trans (e2.trans e24)
  generalize upd H3 p2 (.lst (us ++ us2)) = H4 at *
  -- the tree
  have hml : (us ++ us2).length = 8 := hM.len
  refine ⟨_, rfl, _, rfl, b, 8, rfl, hB4, by decide, fun i H5 i0 i9 g5 => ?_⟩
  obtain ⟨v, hv, hat⟩ := pick (us ++ us2) i i0 (by rw [hml]; exact i9)
  obtain ⟨j, hj⟩ := List.mem_iff_getElem?.mp hv
  obtain ⟨t, htm, hvt⟩ := hM.get hj
  obtain ⟨ht, hd⟩ := menu_ok hnm t (List.mem_of_getElem? htm)
  refine ⟨p2, _, i, v, rfl, rfl, SqL.of (g5.same p2 _ (fun z => ?_) hp4), hat, ?_⟩
  · obtain ⟨d, ds, n, hb, _⟩ := hB4
    rw [z, hb] at hp4
    have : (us ++ us2).length = 2 := by rw [← HO.lst.inj (Option.some.inj hp4)]; rfl
    omega
  refine ⟨_, rfl, b, 8, rfl, g5.box, by decide, fun kd H6 k0 k1 g6 => ?_⟩
  have hT6 := hvt.on ((g5.trans g6).tups hB4)
  have hX6 := hX4.on ((g5.trans g6).tups hB4)
  have g16 : Gr b H H6 := (Gr.ex hB e14).trans (g5.trans g6)
  have fin : ∀ {u : Tree} {v' : V} {H' : Hp}, TreeOk u → u.depth ≤ 6 → Ex H6 H' → TreeAt K H' v' u → Q v' H' := fun a1 a2 a3 a4 => q _ _ _ (g16.thn a3) a4 a1 a2
  -- kinds
  refine ⟨_, rfl, rfl, _, rfl, ?_⟩
  refine ite2 (fun _ => ?_) (fun _ => ?_)
  · exact Bu.ret (K := K) (Bu.op (by decide +kernel) (BuL.cons (Bu.v rfl hX6) (BuL.cons (Bu.v rfl hT6) BuL.nil)) (Nat.le_of_ble_eq_true rfl)) fun v' H' e' h' => fin (.op (.cons (.name hx) (.cons ht .nil))) (by simp [Tree.depth, depths]; omega) e' h'
  refine ⟨_, rfl, rfl, _, rfl, ?_⟩
  refine ite2 (fun _ => ?_) (fun _ => ?_)
  · exact Bu.ret (K := K) (Bu.op (by decide +kernel) (BuL.cons (Bu.v rfl hX6) (BuL.cons (Bu.v rfl hX6) (BuL.cons (Bu.v rfl hT6) BuL.nil))) (Nat.le_of_ble_eq_true rfl)) fun v' H' e' h' => fin (.op (.cons (.name hx) (.cons (.name hx) (.cons ht .nil)))) (by simp [Tree.depth, depths]; omega) e' h'
  refine ⟨_, rfl, rfl, _, rfl, ?_⟩
  refine ite2 (fun _ => ?_) (fun _ => ?_)
  · exact Bu.ret (K := K) (Bu.op (by decide +kernel) (BuL.cons (Bu.v rfl hX6) (BuL.cons (Bu.v rfl hT6) BuL.nil)) (Nat.le_of_ble_eq_true rfl)) fun v' H' e' h' => fin (.op (.cons (.name hx) (.cons ht .nil))) (by simp [Tree.depth, depths]; omega) e' h'
  refine ⟨_, rfl, rfl, _, rfl, ?_⟩
  refine ite2 (fun _ => ?_) (fun _ => ?_)
  · exact Bu.ret (K := K) (Bu.set (Ts.add Ts.c (Ts.v rfl) (one _ rfl)) (Bu.v rfl hT6)) fun v' H' e' h' => fin (.set hx ht) (by simp [Tree.depth]; omega) e' h'
  refine ⟨_, rfl, rfl, _, rfl, ?_⟩
  refine ite2 (fun _ => ?_) (fun _ => ?_)
  · exact Bu.ret (K := K) (Bu.op (by decide +kernel) (BuL.cons (Bu.v rfl hX6) (BuL.cons (Bu.v rfl hT6) (BuL.cons (Bu.name Ts.c) BuL.nil))) (Nat.le_of_ble_eq_true rfl)) fun v' H' e' h' => fin (.op (.cons (.name hx) (.cons ht (.cons (.name n2) .nil)))) (by simp [Tree.depth, depths]; omega) e' h'
  refine ⟨_, rfl, rfl, _, rfl, ?_⟩
  refine ite2 (fun _ => ?_) (fun _ => ?_)
  · exact Bu.ret (K := K) (Bu.call (Ts.add Ts.c (Ts.v rfl) (one _ rfl)) (BuL.cons (Bu.v rfl hT6) BuL.nil) (Nat.le_of_ble_eq_true rfl)) fun v' H' e' h' => fin (.call hf (.cons ht .nil)) (by simp [Tree.depth, depths]; omega) e' h'
  refine ⟨_, rfl, rfl, _, rfl, ?_⟩
  refine ite2 (fun _ => ?_) (fun _ => ?_)
  · exact Bu.ret (K := K) (Bu.op (by decide +kernel) (BuL.cons (Bu.set (Ts.add Ts.c (Ts.v rfl) (one _ rfl)) (Bu.v rfl hT6)) (BuL.cons (Bu.name Ts.c) BuL.nil)) (Nat.le_of_ble_eq_true rfl)) fun v' H' e' h' => fin (.op (.cons (.set hx ht) (.cons (.name n2) .nil))) (by simp [Tree.depth, depths]; omega) e' h'
  exact ⟨_, rfl, fin ht (by omega) (Ex.refl _) hT6⟩
/-- box, name: a wrong line -/
def spWrongLine (K : Frag) : Sp := fun vs H Q _ => ∃ (b : Addr) (nm : Str), vs = [.ref b, .str nm] ∧ BoxAt H b ∧ nm ∈ abc ∧ ∀ v l H', Gr b H H' → LineAt K H' v l → WrongOk nm l → Q v H'
def menuH : List Tree := [.set "p" (.lit true (.int 1)), .call "p" [], .op "+" [.name "p", .name "q"]]
theorem menuH_ok : ∀ t ∈ menuH, TreeOk t ∧ t.depth ≤ 3 := by
  intro t ht
  simp only [menuH, List.mem_cons, List.not_mem_nil, or_false] at ht
  rcases ht with rfl | rfl | rfl
  · exact ⟨.set nm_p.1 .lit, by simp [Tree.depth]⟩
  · exact ⟨.call nm_p.1 .nil, by simp [Tree.depth, depths]⟩
  · exact ⟨.op (.cons (.name nm_p.1) (.cons (.name nm_p.2) .nil)), by simp [Tree.depth, depths]⟩
theorem ok_law_wrong_line (T : Txt K mg O CR CN) : Cal P w K mg base "_law_wrong_line" 3 ["_law_box", "_law_name"] (spWrongLine K) := by
  have C_law_draw := ok_law_draw (P := P) (w := w) (base := base) T
  have C_law_wrong_tree := ok_law_wrong_tree (P := P) (w := w) (base := base) T
  refine Cal.of T.d_law_wrong_line sc__law_wrong_line (fun _ _ _ _ _ _ us hl => match us, hl with | [_, _], _ => rfl) (fun vs H Q E h => ?_) (fun f cdv A outer s H vs Q E hr h => ?_)
  · obtain ⟨b, nm, rfl, _⟩ := h
    rfl
  obtain ⟨b, nm, rfl, hB, hnm, q⟩ := h
  refine ⟨_, (pss_cons (ps_set (i := 2) sc__law_wrong_line.nd rfl (Or.inl rfl) (pe_cal C_law_draw (hr.mono (by omega)) rfl (pa_cons (pv 0) (pa_cons (pe_int) pa_nil))))
    (pss_cons (ps_if (pt_cmpR op_eq (pv 2) (pe_int) (nomark _)) (pss_one (ps_ret (pe_ix ix_list (pe_lst (pa_cons (pe_tup (pa_cons (pe_str) (pa_cons (pe_str) (pa_cons (pe_cal C_law_wrong_tree (hr.mono (by omega)) rfl (pa_cons (pv 0) (pa_cons (pv 1) pa_nil))) pa_nil)))) (pa_cons (pe_tup (pa_cons (pe_str) (pa_cons (pe_str) (pa_cons (pe_cal C_law_wrong_tree (hr.mono (by omega)) rfl (pa_cons (pv 0) (pa_cons (pv 1) pa_nil))) pa_nil)))) pa_nil))) (pe_cal C_law_draw (hr.mono (by omega)) rfl (pa_cons (pv 0) (pa_cons (pe_int) pa_nil))) (fun _ _ => rfl)))) pss_nil)
    (pss_cons (ps_if (pt_cmpR op_eq (pv 2) (pe_int) (nomark _)) (pss_one (ps_ret (pe_tup (pa_cons (pe_str) (pa_cons (pe_cal C_law_wrong_tree (hr.mono (by omega)) rfl (pa_cons (pv 0) (pa_cons (pv 1) pa_nil))) pa_nil))))) pss_nil)
    (pss_cons (ps_if (pt_cmpR op_eq (pv 2) (pe_int) (nomark _)) (pss_one (ps_ret (pe_tup (pa_cons (pe_str) (pa_cons (pe_tup (pa_cons (pe_tup (pa_cons (pe_op op_add_str (pe_str) (pv 1)) (pa_cons (pe_str) pa_nil))) (pa_cons (pe_tup (pa_cons (pe_str) (pa_cons (pe_str) pa_nil))) pa_nil))) (pa_cons (pv 1) pa_nil)))))) pss_nil)
    (pss_cons (ps_if (pt_cmpR op_eq (pv 2) (pe_int) (nomark _)) (pss_one (ps_ret (pe_tup (pa_cons (pe_str) (pa_cons (pe_tup (pa_cons (pe_tup (pa_cons (pe_str) (pa_cons (pe_str) pa_nil))) pa_nil)) (pa_cons (pv 1) pa_nil)))))) pss_nil)
    (pss_cons (ps_if (pt_cmpR op_eq (pv 2) (pe_int) (nomark _)) (pss_one (ps_ret (pe_tup (pa_cons (pe_str) (pa_cons (pe_str) (pa_cons (pe_tup (pa_cons (pe_str) pa_nil)) (pa_cons (pe_ix ix_list (pe_lst (pa_cons (pe_tup (pa_cons (pe_str) (pa_cons (pe_str) (pa_cons (pe_tup (pa_cons (pe_str) (pa_cons (pe_int) pa_nil))) pa_nil)))) (pa_cons (pe_tup (pa_cons (pe_str) (pa_cons (pe_str) (pa_cons (pe_tup pa_nil) pa_nil)))) (pa_cons (pe_tup (pa_cons (pe_str) (pa_cons (pe_tup (pa_cons (pe_str) (pa_cons (pe_str) pa_nil))) (pa_cons (pe_tup (pa_cons (pe_str) (pa_cons (pe_str) pa_nil))) pa_nil)))) pa_nil)))) (pe_cal C_law_draw (hr.mono (by omega)) rfl (pa_cons (pv 0) (pa_cons (pe_int) pa_nil))) (fun _ _ => rfl)) pa_nil))))))) pss_nil)
    (pss_one (ps_ret (pe_tup (pa_cons (pe_str) (pa_cons (pe_cal C_law_wrong_tree (hr.mono (by omega)) rfl (pa_cons (pv 0) (pa_cons (pv 1) pa_nil))) pa_nil))))))))))), ?_⟩
  have hnn : nm.length ≤ 10 := (abc_len hnm).1
  have one : ∀ z : Str, z.length = 1 → z.length + nm.length ≤ sizeLine := fun z hz => add_le (by omega)
  refine ⟨_, rfl, b, 8, rfl, hB, by decide, fun kd H1 k0 k1 g1 => ?_⟩
  have hB1 := g1.box
  -- 5
  refine ⟨_, rfl, rfl, _, rfl, ?_⟩
  refine ite2 (fun _ => ?_) (fun _ => ?_)
  · refine ⟨_, rfl, _, rfl, b, nm, rfl, hB1, hnm, fun v1 t1 H2 g2 hv1 ht1 hd1 => ⟨three_le, fun p1 n1 => ?_⟩⟩
    have i1 := Ex.new (o := .tup [.str "let", .str "nn", v1]) n1
    refine ⟨_, rfl, _, rfl, b, nm, rfl, g2.box.ex i1, hnm, fun v2 t2 H3 g3 hv2 ht2 hd2 => ⟨three_le, fun p2 n2 => ⟨two_le, fun z nz => ?_⟩⟩⟩
    have i2 := Ex.new (o := .tup [.str "keep", .str "nn", v2]) n2
    have iz := Ex.new (o := .lst [.ref p1, .ref p2]) nz
    have hB3 := (g3.box.ex i2).ex iz
    refine ⟨_, rfl, b, 2, rfl, hB3, by decide, fun i H4 i0 i9 g4 => ?_⟩
    have g13 : Gr b H2 H3 := (Gr.ex g2.box i1).trans g3
    have L1 : LineAt K H4 (.ref p1) (.own false "nn" t1) := .own ((g3.thn (i2.trans iz)).trans g4 |>.tups (g2.box.ex i1) _ _ (SqT.of upd_same)) (hv1.on (((g13.thn (i2.trans iz)).trans g4).tups g2.box))
    have L2 : LineAt K H4 (.ref p2) (.own true "nn" t2) := .own (((Gr.ex (g3.box.ex i2) iz).trans g4).tups (g3.box.ex i2) _ _ (SqT.of upd_same)) (hv2.on (((Gr.ex g3.box (i2.trans iz)).trans g4).tups g3.box))
    have hz := g4.same z _ (fun y => (g3.box.ex i2).some (by rw [← y]; exact nz)) upd_same
    have gg := g1.trans ((g2.trans (g13.thn (i2.trans iz))).trans g4)
    rcases (by omega : i = 0 ∨ i = 1) with rfl | rfl
    · exact ⟨z, _, 0, _, rfl, rfl, SqL.of hz, at0, q _ _ _ gg L1 (.inl ⟨_, _, rfl, ht1, by omega⟩)⟩
    · exact ⟨z, _, 1, _, rfl, rfl, SqL.of hz, at1, q _ _ _ gg L2 (.inl ⟨_, _, rfl, ht2, by omega⟩)⟩
  -- 6
  refine ⟨_, rfl, rfl, _, rfl, ?_⟩
  refine ite2 (fun _ => ?_) (fun _ => ?_)
  · refine ⟨_, rfl, _, rfl, b, nm, rfl, hB1, hnm, fun v1 t1 H2 g2 hv1 ht1 hd1 => ⟨two_le, fun p1 n1 => ?_⟩⟩
    exact q _ _ _ (g1.trans (g2.thn (Ex.new n1))) (.act (k := true) (SqT.of upd_same) (hv1.on (Tups.ex (Ex.new n1)))) (.inr (.inl ⟨_, _, rfl, ht1, by omega⟩))
  -- 0
  refine ⟨_, rfl, rfl, _, rfl, ?_⟩
  refine ite2 (fun _ => ?_) (fun _ => ?_)
  · refine ⟨_, rfl, _, _, rfl, rfl, one _ rfl, two_le, fun p1 n1 => ⟨two_le, fun p2 n2 => ⟨two_le, fun p3 n3 => ⟨_, rfl, three_le, fun p4 n4 => ?_⟩⟩⟩⟩
    have i1 := Ex.new (o := .tup [.str ("x" ++ nm), .str "mm"]) n1
    have i2 := Ex.new (o := .tup [.str "none", .str "nn"]) n2
    have i3 := Ex.new (o := .tup [.ref p1, .ref p2]) n3
    have i4 := Ex.new (o := .tup [.str "import", .ref p3, .str nm]) n4
    exact q _ (.imp false [("x" ++ nm, "mm"), ("none", "nn")] nm) _ (g1.thn (i1.trans (i2.trans (i3.trans i4)))) (.imp (SqT.of upd_same) (Tups.ex i4 _ _ (SqT.of upd_same)) ⟨⟨p1, rfl, Tups.ex (i2.trans (i3.trans i4)) _ _ (SqT.of upd_same)⟩, ⟨p2, rfl, Tups.ex (i3.trans i4) _ _ (SqT.of upd_same)⟩, True.intro⟩) (.inr (.inr (.inl rfl)))
  -- 1
  refine ⟨_, rfl, rfl, _, rfl, ?_⟩
  refine ite2 (fun _ => ?_) (fun _ => ?_)
  · refine ⟨two_le, fun p2 n2 => ⟨one_le, fun p3 n3 => ⟨_, rfl, three_le, fun p4 n4 => ?_⟩⟩⟩
    have i2 := Ex.new (o := .tup [.str "none", .str "nn"]) n2
    have i3 := Ex.new (o := .tup [.ref p2]) n3
    have i4 := Ex.new (o := .tup [.str "export", .ref p3, .str nm]) n4
    exact q _ (.imp true [("none", "nn")] nm) _ (g1.thn (i2.trans (i3.trans i4))) (.imp (SqT.of upd_same) (Tups.ex i4 _ _ (SqT.of upd_same)) ⟨⟨p2, rfl, Tups.ex (i3.trans i4) _ _ (SqT.of upd_same)⟩, True.intro⟩) (.inr (.inr (.inr (.inl rfl))))
  -- 2
  refine ⟨_, rfl, rfl, _, rfl, ?_⟩
  refine ite2 (fun _ => ?_) (fun _ => ?_)
  · refine ⟨one_le, fun p1 n1 => ?_⟩
    have i1 := Ex.new (o := .tup [.str "p"]) n1
    dsimp only [tCons]
    refine BuL.at (ts := menuH) (b := b) ?_ (by decide) (by decide) (by decide) rfl (hB1.ex i1) fun v t H2 g2 htm hvt => ⟨four_le, fun p2 n2 => ?_⟩
    · exact BuL.cons (Bu.set Ts.c Bu.lit) (BuL.cons (Bu.call Ts.c BuL.nil (Nat.le_of_ble_eq_true rfl)) (BuL.cons (Bu.op (by decide +kernel) (BuL.cons (Bu.name Ts.c) (BuL.cons (Bu.name Ts.c) BuL.nil)) (Nat.le_of_ble_eq_true rfl)) BuL.nil))
    obtain ⟨ht, hd⟩ := menuH_ok t htm
    have i2 := Ex.new (o := .tup [.str "fn", .str "h", .ref p1, v]) n2
    exact q _ (.fn "h" ["p"] t) _ ((g1.thn i1).trans (g2.thn i2)) (.fn (SqT.of upd_same) (Tups.ex i2 _ _ (g2.tups (hB1.ex i1) _ _ (SqT.of upd_same))) (hvt.on (Tups.ex i2))) (.inr (.inr (.inr (.inr ⟨_, _, rfl, ht, by omega⟩))))
  -- else
  refine ⟨_, rfl, _, rfl, b, nm, rfl, hB1, hnm, fun v1 t1 H2 g2 hv1 ht1 hd1 => ⟨two_le, fun p1 n1 => ?_⟩⟩
  exact q _ _ _ (g1.trans (g2.thn (Ex.new n1))) (.act (k := false) (SqT.of upd_same) (hv1.on (Tups.ex (Ex.new n1)))) (.inr (.inl ⟨_, _, rfl, ht1, by omega⟩))
end
end K6
/-! The law's dict of modules; its modules are good. -/
namespace K6
open PySem PySem.Spec PyProof.Rows L2 Evl

theorem own_none {ls : List Line} {n : Str} (h : ∀ l ∈ ls, l.owns n = false) : own ls n = none := by
  unfold own
  rw [List.find?_eq_none]
  intro l hl
  rw [h l hl]
  exact Bool.noConfusion
theorem nms_apart {nm n : Str} (hn : nm ∈ abc) (h : n ∈ ownNms nm) : n ≠ "none" ∧ n ≠ "nn" ∧ n ≠ "mm" := by
  have k : ∀ nm ∈ abc, ∀ n ∈ ownNms nm, n ≠ "none" ∧ n ≠ "nn" ∧ n ≠ "mm" := by decide +kernel
  exact k nm hn n h
theorem nms_cross {nm o n x : Str} (hn : nm ∈ abc) (ho : o ∈ abc) (hne : o ≠ nm) (h : n ∈ ownNms nm) (hx : x ∈ ownNms o) : n ≠ x ∧ n ≠ "z" ++ x ∧ "h" ≠ x ∧ "h" ≠ "z" ++ x ∧ "nn" ≠ x ∧ "nn" ≠ "z" ++ x := by
  have k : ∀ nm ∈ abc, ∀ o ∈ abc, o ≠ nm → ∀ n ∈ ownNms nm, ∀ x ∈ ownNms o, n ≠ x ∧ n ≠ "z" ++ x ∧ "h" ≠ x ∧ "h" ≠ "z" ++ x ∧ "nn" ≠ x ∧ "nn" ≠ "z" ++ x := by decide +kernel
  exact k nm hn o ho hne n h x hx
def GoodL (os : List Str) (nm : Str) (l : Line) : Prop := ImpOk os nm l ∨ OwnOk nm l
theorem ownOk_owns {nm n : Str} {l : Line} (h : OwnOk nm l) (hn : n ∉ ownNms nm) : l.owns n = false := by
  rcases h with ⟨k, x, t, rfl, hx, _⟩ | ⟨x, ps, t, rfl, hx, _⟩ | ⟨k, t, rfl, _⟩
  · exact decide_eq_false fun z => hn (z ▸ hx)
  · exact decide_eq_false fun z => hn (z ▸ hx)
  · rfl
theorem good_owns {os : List Str} {nm n : Str} {l : Line} (h : GoodL os nm l) (hn : n ∉ ownNms nm) : l.owns n = false := by
  rcases h with ⟨o, ps, rfl, _⟩ | h
  · rfl
  · exact ownOk_owns h hn
theorem wrong_owns {nm n : Str} {l : Line} (h : WrongOk nm l) (h1 : n ≠ "nn") (h2 : n ≠ "h") : l.owns n = false := by
  rcases h with ⟨k, t, rfl, _⟩ | ⟨k, t, rfl, _⟩ | rfl | rfl | ⟨ps, t, rfl, _⟩
  · exact decide_eq_false fun z => h1 z.symm
  · rfl
  · rfl
  · rfl
  · exact decide_eq_false fun z => h2 z.symm
/-- a module of good lines, and one wrong line at most -/
theorem modOk {ms : Mods} {os : List Str} {nm : Str} {bs ls : List Line} {wl : Option Line} (hnm : nm ∈ abc) (hos : ∀ x ∈ os, x ∈ abc) (hms : ∀ n ∈ os, (ms n).isSome = true) (hno : nm ∈ os)
    (hb : ∀ l ∈ bs, GoodL os nm l) (hw : ∀ l, wl = some l → WrongOk nm l) (hl : ∀ l, l ∈ ls → l ∈ bs ∨ wl = some l) (hf : ls.length ≤ 50) : ModOk ms nm ls := by
  have hnn : NmOk nm := (abc_len hnm).2
  have noown : ∀ n : Str, n ∉ ownNms nm → n ≠ "nn" → n ≠ "h" → own ls n = none := fun n h1 h2 h3 => own_none fun l hl' => by
    rcases hl l hl' with z | z
    · exact good_owns (hb l z) h1
    · exact wrong_owns (hw l z) h2 h3
  -- where the wrong line owns nothing
  have nnone : ∀ l : Line, wl = some l → (∀ n, l.owns n = false) → own ls "nn" = none := fun l e h => own_none fun l' hl' => by
    rcases hl l' hl' with z | z
    · exact good_owns (hb l' z) fun y => (nms_apart hnm y).2.1 rfl
    · rw [e] at z
      cases z
      exact h _
  refine ⟨hnn, hf, fun l hl' => ?_, fun ps t ht => ?_, noown _ (fun y => (nms_apart hnm y).1 rfl) (by decide +kernel) (by decide +kernel), fun e ps t ht => ?_, fun ps t ht p hp => ?_⟩
  · rcases hl l hl' with z | z
    · rcases hb l z with ⟨o, ps, rfl, ho, hne, hps, hp⟩ | ⟨k, x, t, rfl, hx, h1, h2⟩ | ⟨x, ps, t, rfl, hx, h1, h2⟩ | ⟨k, t, rfl, h1, h2⟩
      · exact ⟨(abc_len (hos o ho)).2, fun p hp' => (own_nm (hos o ho) (hp p hp').1).1, by omega⟩
      · exact ⟨h1, h2⟩
      · exact ⟨h1, h2⟩
      · exact ⟨h1, h2⟩
    · rcases hw l z with ⟨k, t, rfl, h1, h2⟩ | ⟨k, t, rfl, h1, h2⟩ | rfl | rfl | ⟨ps, t, rfl, h1, h2⟩
      · exact ⟨h1, h2⟩
      · exact ⟨h1, h2⟩
      · refine ⟨hnn, fun p hp => ?_, by simp⟩
        simp only [List.mem_cons, List.not_mem_nil, or_false] at hp
        rcases hp with rfl | rfl
        · exact nm_own hnm (by unfold ownNms; simp)
        · exact nm_some.1
      · refine ⟨hnn, fun p hp => ?_, by simp⟩
        simp only [List.mem_cons, List.not_mem_nil, or_false] at hp
        rw [hp]
        exact nm_some.1
      · exact ⟨h1, h2⟩
  · rcases hl _ ht with z | z
    · rcases hb _ z with ⟨o, ps', e, _⟩ | ⟨k, x, t, e, _⟩ | ⟨x, ps, t, e, _⟩ | ⟨k, t, e, _⟩ <;> cases e
    · have q := hw _ z
      rcases q with ⟨k, t, e, _⟩ | ⟨k, t, e, _⟩ | e | e | ⟨ps, t, e, _⟩
      · cases e
      · cases e
      · cases e
      · cases e
        refine ⟨rfl, fun p hp => ?_, nnone _ z fun _ => rfl⟩
        rw [List.mem_singleton.mp hp]
        exact ⟨rfl, rfl⟩
      · cases e
  · rcases hl _ ht with z | z
    · rcases hb _ z with ⟨o, ps', e, ho, _⟩ | ⟨k, x, t, e, _⟩ | ⟨x, ps, t, e, _⟩ | ⟨k, t, e, _⟩ <;> cases e
      exact hms _ ho
    · rcases hw _ z with ⟨k, t, e, _⟩ | ⟨k, t, e, _⟩ | e | e | ⟨ps, t, e, _⟩ <;> cases e <;> exact hms _ hno
  · rcases hl _ ht with z | z
    · rcases hb _ z with ⟨o, ps', e, ho, hne, _, hp'⟩ | ⟨k, x, t, e, _⟩ | ⟨x, ps, t, e, _⟩ | ⟨k, t, e, _⟩ <;> cases e
      obtain ⟨a1, a2⟩ := hp' p hp
      have a3 : p.2 ∉ ownNms nm := fun y => by
        obtain ⟨k1, k2, _⟩ := nms_cross hnm (hos _ ho) hne y a1
        rcases a2 with a2 | a2
        · exact k1 a2
        · exact k2 a2
      obtain ⟨_, _, k3, k4, k5, k6⟩ := nms_cross (n := "x" ++ nm) hnm (hos _ ho) hne (by unfold ownNms; simp) a1
      refine noown _ a3 (fun y => ?_) (fun y => ?_)
      · rcases a2 with a2 | a2
        · exact k5 (y.symm.trans a2)
        · exact k6 (y.symm.trans a2)
      · rcases a2 with a2 | a2
        · exact k3 (y.symm.trans a2)
        · exact k4 (y.symm.trans a2)
    · have q := hw _ z
      rcases q with ⟨k, t, e, _⟩ | ⟨k, t, e, _⟩ | e | e | ⟨ps, t, e, _⟩
      · cases e
      · cases e
      · cases e
        simp only [List.mem_cons, List.not_mem_nil, or_false] at hp
        rcases hp with rfl | rfl
        · exact noown "mm" (fun y => (nms_apart hnm y).2.2 rfl) (by decide +kernel) (by decide +kernel)
        · exact nnone _ z fun _ => rfl
      · cases e
      · cases e

/-- a dict that tells ms, k keys at most -/
def DictAt (K : Frag) (H : Hp) (D : Addr) (ms : Mods) (k : Nat) : Prop := ∃ kvs, H D = some (.dK kvs) ∧ kvs.length ≤ k ∧ Tells K H kvs ms
def setM (ms : Mods) (n : Str) (ls : List Line) : Mods := fun m => if m = n then some ls else ms m
theorem Tells.put {K : Frag} {H : Hp} {kvs : List (Key × V)} {ms : Mods} (h : Tells K H kvs ms) {n : Str} {v : V} {ls : List Line} (hv : ModAt K H v ls) : Tells K H (putK kvs (Sum.inr n : Key) v) (setM ms n ls) := fun m => by
  rw [valV_put]
  unfold setM
  by_cases e : m = n
  · rw [if_pos e, if_pos (by rw [e])]
    exact .inr ⟨ls, v, rfl, rfl, hv⟩
  · rw [if_neg e, if_neg (inr_ne e)]
    exact h m
theorem DictAt.gr {K : Frag} {H H' : Hp} {b D : Addr} {ms : Mods} {k : Nat} (hB : BoxAt H b) (g : Gr b H H') (h : DictAt K H D ms k) : DictAt K H' D ms k := by
  obtain ⟨kvs, h1, h2, h3⟩ := h
  obtain ⟨d, ds, n, hb, _⟩ := id hB
  exact ⟨kvs, g.same _ _ (fun z => by rw [z, hb] at h1; cases h1) h1, h2, h3.on (g.tups hB)⟩
theorem DictAt.put {K : Frag} {H : Hp} {D : Addr} {ms : Mods} {k : Nat} (h : DictAt K H D ms k) (hk : k ≤ 1000) {n : Str} {v : V} {ls : List Line} (hv : ModAt K H v ls) :
    ∃ kvs, H D = some (.dK kvs) ∧ kvs.length < sizeLine ∧ DictAt K (upd H D (.dK (putK kvs (Sum.inr n : Key) v))) D (setM ms n ls) (k + 1) ∧ Tups K H (upd H D (.dK (putK kvs (Sum.inr n : Key) v))) := by
  obtain ⟨kvs, h1, h2, h3⟩ := h
  have t : Tups K H (upd H D (.dK (putK kvs (Sum.inr n : Key) v))) := Tups.dict h1
  refine ⟨kvs, h1, small1000 (by omega), ⟨_, upd_same, ?_, (h3.on t).put (hv.on t)⟩, t⟩
  have := length_putK kvs (Sum.inr n : Key) v
  omega
/-- the modules are as the law makes them -/
def MsPre (os : List Str) (ms : Mods) : Prop := ∀ n ls, ms n = some ls → n ∈ os ∧ ls.length ≤ 20 ∧ ∀ l ∈ ls, GoodL os n l
section
variable {P : Program} {w : World} {K : Frag} {mg : Str → Option Value} {base : Heap} {O CR CN : Addr}
/-- box, names: a dict of modules -/
def spModules (K : Frag) : Sp := fun vs H Q _ => ∃ (b o : Addr) (os : List Str), vs = [.ref b, .ref o] ∧ BoxAt H b ∧ H o = some (.lst (os.map V.str)) ∧ (∀ x ∈ os, x ∈ abc) ∧ os.length ≤ 3 ∧
  ∀ D ms H', Gr b H H' → H D = none → DictAt K H' D ms 3 → MsPre os ms → (∀ n ∈ os, (ms n).isSome = true) → Q (.ref D) H'
theorem ok_law_modules (T : Txt K mg O CR CN) : Cal P w K mg base "_law_modules" 7 ["_law_box", "_law_names"] (spModules K) := by
  have C_law_module := ok_law_module (P := P) (w := w) (base := base) T
  refine Cal.of T.d_law_modules sc__law_modules (fun _ _ _ _ _ _ us hl => match us, hl with | [_, _], _ => rfl) (fun vs H Q E h => ?_) (fun f cdv A outer s H vs Q E hr h => ?_)
  · obtain ⟨b, o, os, rfl, _⟩ := h
    rfl
  obtain ⟨b, o, os, rfl, hB, ho, habc, hos, q⟩ := h
  refine ⟨_, (pss_cons (ps_set (i := 2) sc__law_modules.nd rfl (Or.inl rfl) (pe_dnewK))
    (pss_cons (ps_for PassesOwn.never rfl (pi_list (pv 1)) (pg_name (i := 3) sc__law_modules.nd rfl (Or.inl rfl)) (pss_one (ps_dput (hu_of hr) (pv 2) (pv 3) (pe_cal C_law_module (hr.mono (by omega)) rfl (pa_cons (pv 0) (pa_cons (pv 3) (pa_cons (pv 1) pa_nil)))) rfl)))
    (pss_one (ps_ret (pv 2))))), ?_⟩
  have no0 : MsPre os fun _ => none := fun n ls z => by cases z
  intro D nD
  have e0 := Ex.new (o := .dK []) nD
  have nDb : D ≠ b := fun z => hB.some (by rw [← z]; exact nD)
  refine ⟨_, rfl, o, rfl, ⟨_, SqL.of (e0 _ _ ho)⟩, for_list (K := K) (a := o) (xs := os.map V.str) (fun i σ H' => Gr b H H' ∧ ∃ (ms : Mods) (o3 : Option V), σ = [some (.ref b), some (.ref o), some (.ref D), o3] ∧ DictAt K H' D ms i ∧ MsPre os ms ∧ i ≤ os.length ∧ ∀ n ∈ os.take i, (ms n).isSome = true)
    ⟨Gr.ex hB e0, fun _ => none, _, rfl, ⟨[], upd_same, Nat.le_refl _, fun n => .inl ⟨rfl, rfl⟩⟩, no0, Nat.zero_le _, fun n hn => absurd hn List.not_mem_nil⟩ (fun i σ H' _ z => SqL.of (z.1.strs hB ho)) ?_ ?_⟩
  · rintro i x σ H1 hi ⟨g1, ms, o3, rfl, hD, hM, hil, hS⟩
    have hi' := hi
    rw [List.getElem?_map] at hi'
    cases hn : os[i]? with
    | none => rw [hn] at hi'; cases hi'
    | some n =>
      rw [hn] at hi'
      cases hi'
      have hio : i < os.length := (List.getElem?_eq_some_iff.mp hn).1
      have hno := List.mem_of_getElem? hn
      refine ⟨_, rfl, _, rfl, _, rfl, b, o, n, os, rfl, g1.box, g1.strs hB ho, habc, hos, habc n hno, fun p us ls H2 g2 hSq hA hG hll => ?_⟩
      have hD2 := hD.gr g1.box g2
      obtain ⟨kvs, hk1, hk2, hk3, hk4⟩ := hD2.put (by omega) (n := n) (v := .ref p) (ls := ls) ⟨p, us, rfl, hSq, hA⟩
      refine ⟨_, rfl, _, rfl, D, _, rfl, DPut.k (k := Sum.inr n) hk1 hk2, ?_⟩
      refine ⟨Gr.mut hB (g1.trans g2) nD, _, _, rfl, hk3, fun m ls' hm => ?_, hio, fun m hm => ?_⟩
      · unfold setM at hm
        by_cases e : m = n
        · rw [if_pos e] at hm
          cases hm
          rw [e]
          exact ⟨hno, hll, hG⟩
        · rw [if_neg e] at hm
          exact hM m ls' hm
      · unfold setM
        by_cases e : m = n
        · rw [if_pos e]
          rfl
        · rw [if_neg e]
          rw [List.take_add_one, hn] at hm
          rcases List.mem_append.mp hm with z | z
          · exact hS m z
          · simp at z
            exact absurd z e
  · rintro σ H1 ⟨g1, ms, o3, rfl, hD, hM, hil, hS⟩
    rw [List.length_map] at hD hS
    rw [List.take_length] at hS
    refine ⟨_, rfl, q D ms H1 g1 nD ?_ hM hS⟩
    obtain ⟨kvs, h1, h2, h3⟩ := hD
    exact ⟨kvs, h1, by omega, h3⟩
end
end K6
/-! A lambda with one parameter and one captured name: made, kept in a field, called. -/
namespace K6
open PySem PySem.Spec PyProof.Rows L2 Evl

/-- the object at f is ob -/
def FunO (f : Addr) (ob : Obj) : HO := .ext fun h => h.get? f = some ob
theorem funO_ok {P : Program} {w : World} {H : Hp} {h : Heap} {f : Addr} {ob : Obj} (e : h.get? f = some ob) : ObjOk P w H h f (FunO f ob) := ⟨e, ⟨ob, e⟩, fun _ _ a st => st _ a⟩
theorem funO_get {P : Program} {w : World} {H : Hp} {h : Heap} {f : Addr} {ob : Obj} (ok : HOk P w H h) (e : H f = some (FunO f ob)) : h.get? f = some ob := (ok f _ e).1
theorem funO_ne {f : Addr} {ob : Obj} (ps : Array Value) : FunO f ob ≠ .tbl ps := fun z => by
  unfold FunO at z
  cases z
section
variable {X : Cx} {pins : List (Addr × Obj)} {σ : L2.St} {H : Hp} {s : Shared}
/-- the lambda is made, and its object is known from now on -/
theorem lam_make3 {T : List (Addr × Str)} {c P : Addr} {params : Arguments} {body : Expr} {scope : Scope} {pos : Pos} {E : Value → Shared → Prop} {Q : Value → Shared → Prop} (I : Inv X pins σ H s) (TB : LamX.TabB X.base X.mg c P) (codeEq : X.env.code = .ref c)
    (isIn : (P, X.env.qual ++ "<lambda>") ∈ T) (sole : ∀ p ∈ T, p.1 = P → p.2 = X.env.qual ++ "<lambda>") (hT : LamX.Tabs T H) (noDef : defaultsOf params X.env = ([], [])) (caught : ∀ y ∈ scope.names, y.2 = .free → ∃ c, X.env.cells.lookup y.1 = some c)
    (h : ∀ (f c' : Addr) (pm ctv : Value) (H1 : Hp) (s' : Shared), Inv X pins σ H1 s' → LamX.ExtN H H1 → LamX.Tabs T H1 → H f = none →
      H1 f = some (FunO f (PySem.W.kla_obj "<lambda>" (X.env.qual ++ "<lambda>") params body scope (cloFrom X.env.cells scope.names []) pm c' ctv)) → H1 c' = some (LamX.CodeO c' (X.env.qual ++ "<lambda>")) → Q (.ref f) s') :
    wpAny (model X.prog X.w) X.A (eval (.Lambda params body scope pos) X.env) Q E s := by
  obtain ⟨ps, atP, trip, told⟩ := hT _ isIn
  refine PySem.W.kla_eval noDef ?_
  have bltP : s.heap.BuiltinsAt X.mg P := TB.bm.keeps I.bk
  have getP : s.heap.get? P = some { cls := .none, data := .fields ps } := I.hok P _ atP
  cases hc : codeAmong pos ps.toList with
  | none =>
    refine PySem.W.kla_makeFunction (mg := X.mg) (c := c) (P := P) (ps := ps) (closure_ok caught) I.ok.glob (I.mod.glob.keeps I.bk) codeEq (TB.code.keeps I.bk) getP trip hc TB.gP bltP fun c' ctv h' tk stays above below isRec tbAt => ?_
    obtain ⟨c2, oc, vs, t, e2, ocAt, hd, hv⟩ := isRec
    cases e2
    have grew : s.heap.objs.size ≤ h'.objs.size := Nat.le_trans above (Nat.le_of_lt below)
    have newC : H c' = none := I.hok.fresh above
    have I1 := LamX.inv_table (t' := tk) (more := #[rawInt pos.line, rawInt pos.col, .ref c']) (h' := h') I atP (fun b o hb e => stays b o hb e) tbAt above ⟨oc, vs, t, ocAt, hd, hv⟩
    have kepE : LamX.ExtN H (upd (upd H P (.tbl (ps ++ #[rawInt pos.line, rawInt pos.col, .ref c']))) c' (LamX.CodeO c' (X.env.qual ++ "<lambda>"))) := fun b o e n => by
      rw [upd_ne (ne_of_none e newC), upd_ne (fun z => n ps (Option.some.inj (e.symm.trans (by rw [z]; exact atP))))]
      exact e
    have asL : (ps ++ #[rawInt pos.line, rawInt pos.col, .ref c']).toList = ps.toList ++ [rawInt pos.line, rawInt pos.col, .ref c'] := by simp
    have T1 : LamX.Tabs T (upd (upd H P (.tbl (ps ++ #[rawInt pos.line, rawInt pos.col, .ref c']))) c' (LamX.CodeO c' (X.env.qual ++ "<lambda>"))) := fun p hp => by
      by_cases hb : p.1 = P
      · rw [sole p hp hb, hb]
        refine ⟨_, by rw [upd_ne (ne_of_none atP newC), upd_same], by rw [asL]; exact PySem.TriplesOk_snoc _ _ _ _ trip, fun p' cv among => ?_⟩
        rw [asL] at among
        rcases LamX.among_app _ trip among with z | z
        · obtain ⟨c0, e1, e2⟩ := told p' cv z
          exact ⟨c0, e1, kepE _ _ e2 LamX.codeO_ne⟩
        · exact ⟨c', z, upd_same⟩
      · obtain ⟨ps', a1, a2, a3⟩ := hT p hp
        refine ⟨ps', by rw [upd_ne (ne_of_none a1 newC), upd_ne hb]; exact a1, a2, fun p' cv among => ?_⟩
        obtain ⟨c0, e1, e2⟩ := a3 p' cv among
        exact ⟨c0, e1, kepE _ _ e2 LamX.codeO_ne⟩
    have nf : upd (upd H P (.tbl (ps ++ #[rawInt pos.line, rawInt pos.col, .ref c']))) c' (LamX.CodeO c' (X.env.qual ++ "<lambda>")) h'.objs.size = none := I1.hok.fresh (Nat.le_refl _)
    have I2 := I1.laid (a := h'.objs.size) (o := FunO h'.objs.size (PySem.W.kla_obj "<lambda>" (X.env.qual ++ "<lambda>") params body scope (cloFrom X.env.cells scope.names []) ((X.mg "__name__").getD .none) c' ctv)) (t' := tk)
      (h' := h'.push (PySem.W.kla_obj "<lambda>" (X.env.qual ++ "<lambda>") params body scope (cloFrom X.env.cells scope.names []) ((X.mg "__name__").getD .none) c' ctv)) (fun b o e => Heap.get?_push_of_some _ e) (Nat.le_refl _) (funO_ok (Heap.get?_push_size _ rfl))
    refine h h'.objs.size c' ((X.mg "__name__").getD .none) ctv _ _ I2 (kepE.trans (LamX.ExtN.of (Ex.new nf))) (T1.ext (Ex.new nf)) (I.hok.fresh grew) upd_same ?_
    exact (Ex.new nf) _ _ upd_same
  | some cv =>
    obtain ⟨c', e, hco⟩ := told pos cv hc
    subst e
    refine PySem.W.kla_makeFunctionHit (mg := X.mg) (c := c) (P := P) (ps := ps) (closure_ok caught) I.ok.glob (I.mod.glob.keeps I.bk) codeEq (TB.code.keeps I.bk) getP trip hc bltP fun ctv h' tk stays grew => ?_
    have nf : H h'.objs.size = none := I.hok.fresh grew
    have I1 := I.laid (a := h'.objs.size) (o := FunO h'.objs.size (PySem.W.kla_obj "<lambda>" (X.env.qual ++ "<lambda>") params body scope (cloFrom X.env.cells scope.names []) ((X.mg "__name__").getD .none) c' ctv)) (t' := tk)
      (h' := h'.push (PySem.W.kla_obj "<lambda>" (X.env.qual ++ "<lambda>") params body scope (cloFrom X.env.cells scope.names []) ((X.mg "__name__").getD .none) c' ctv)) (fun b o e => Heap.get?_push_of_some _ (stays b o e)) grew (funO_ok (Heap.get?_push_size _ rfl))
    exact h h'.objs.size c' ((X.mg "__name__").getD .none) ctv _ _ I1 (LamX.ExtN.of (Ex.new nf)) (hT.ext (Ex.new nf)) nf upd_same ((Ex.new nf) _ _ hco)
end
/-- the lambda's scope: its parameter x, a captured y -/
structure LamP (x y : Str) (scope : Scope) : Prop where
  kind : scope.kind = .function
  co : (scope.isCoroutine = false)
  gen : (scope.isGenerator = false)
  names : scope.names = [(x, .local), (y, .free)]
  ne : x ≠ y
theorem LamP.clo {x y : Str} {scope : Scope} (L : LamP x y scope) {cells : List (Str × Addr)} {c : Addr} (h : cells.lookup y = some c) : cloFrom cells scope.names [] = [(y, c)] := by
  rw [L.names]
  simp [cloFrom, h]
abbrev lamEnvV (q : Str) (scope : Scope) (L f c' : Addr) (y : Str) (c : Addr) : Env := PySem.W.envX q scope L f (.ref c') [(y, c)]
/-- in the lambda's body, when s is the state at its entry -/
def lamCxV (P : Program) (w : World) (K : Frag) (mg : Str → Option Value) (base : Heap) (A : Around) (outer : List Env) (s : Shared) (H : Hp) (E : XK) (q : Str) (scope : Scope) (f c' : Addr) (x y : Str) (c : Addr) : Cx where
  prog := P
  w := w
  K := K
  mg := mg
  base := base
  A := A.deeper (lamEnvV q scope s.heap.objs.size f c' y c)
  N := [x, y]
  s_0 := s
  H_0 := H
  env := lamEnvV q scope s.heap.objs.size f c' y c
  outer := outer
  stack := lamEnvV q scope s.heap.objs.size f c' y c :: outer
  ex := []
  fn := fun _ => false
  calm := true
  pn := []
  xe := fun e s' => wpAny (model P w) (A.deeper (lamEnvV q scope s.heap.objs.size f c' y c)) (leaving (lamEnvV q scope s.heap.objs.size f c' y c) e) (fun _ s'' => CX0 outer H s E e s'') (fun e' s'' => CX0 outer H s E e' s'') s'
theorem lookup2 {x y : Str} {k l : NameKind} {z : Str} {m : NameKind} (h : ([(x, k), (y, l)] : List (Str × NameKind)).lookup z = some m) : (z = x ∧ m = k) ∨ (z = y ∧ m = l) := by
  by_cases e : z = x
  · subst e
    rw [List.lookup_cons_self] at h
    exact .inl ⟨rfl, (Option.some.inj h).symm⟩
  · have hb : (z == x) = false := beq_eq_false_iff_ne.mpr e
    rw [List.lookup_cons, hb] at h
    by_cases e2 : z = y
    · subst e2
      rw [List.lookup_cons_self] at h
      exact .inr ⟨rfl, (Option.some.inj h).symm⟩
    · have hb2 : (z == y) = false := beq_eq_false_iff_ne.mpr e2
      rw [List.lookup_cons, hb2] at h
      cases h
theorem lookup1 {y z : Str} {c m : Addr} (h : ([(y, c)] : List (Str × Addr)).lookup z = some m) : z = y ∧ m = c := by
  by_cases e : z = y
  · subst e
    rw [List.lookup_cons_self] at h
    exact ⟨rfl, (Option.some.inj h).symm⟩
  · have hb : (z == y) = false := beq_eq_false_iff_ne.mpr e
    rw [List.lookup_cons, hb] at h
    cases h
section
variable {P : Program} {w : World} {K : Frag} {mg : Str → Option Value} {base : Heap}
/-- the lambda is entered -/
theorem lam_startV {A : Around} {outer : List Env} {E : XK} {q : Str} {scope : Scope} {f c' c : Addr} {x y : Str} {oc : Obj} {d : V} {vd u : Value} {v : V} {s : Shared} {H : Hp} {h₁ : Heap} {tk : Nat} (L : LamP x y scope) (e0 : Env0 P w K mg base A outer s H) (hd : A.handled = none)
    (hc : base.get? c = some oc) (hcd : oc.data = .cell (some vd)) (rd : RelV d vd) (rv : RelV v u)
    (nsNew : h₁.Ns s.heap.objs.size fun z => ([(x, u)] : List (Str × Value)).reverse.lookup z) (kept : ∀ b o, s.heap.get? b = some o → h₁.get? b = some o) :
    Inv (lamCxV P w K mg base A outer s H E q scope f c' x y c) [] [some v, some d] H { s with heap := h₁, toks := tk } := by
  have exNil : ∀ b : Addr, b ∉ (lamCxV P w K mg base A outer s H E q scope f c' x y c).ex := fun b z => absurd (show b ∈ ([] : List Addr) from z) (by simp)
  have hcell : h₁.IsCell c (some vd) := ⟨oc, kept _ _ (e0.bs c oc hc).1, hcd⟩
  have ly : ([(y, c)] : List (Str × Addr)).lookup y = some c := List.lookup_cons_self
  have kx : scope.names.lookup x = some .local := by rw [L.names]; exact List.lookup_cons_self
  have ky : scope.names.lookup y = some .free := by
    rw [L.names, List.lookup_cons, show (y == x) = false from beq_eq_false_iff_ne.mpr fun z => L.ne z.symm]
    exact List.lookup_cons_self
  refine ⟨⟨e0.mod, L.kind, rfl, rfl, Nat.le_refl _, fun a b z e1 e2 => (lookup1 e1).1.trans (lookup1 e2).1.symm, fun z hz => ?_, fun z c z2 _ => ?_, fun _ => hd, Around.frames_deeper e0.frames, .inr ⟨rfl, rfl⟩, fun b z => absurd z (exNil b), e0.bs, e0.bsz, fun b _ _ => exNil b,
      fun b z => absurd z (exNil b), e0.funs, e0.frf⟩,
    rfl, e0.bare, Un.kept kept, ⟨_, nsNew, fun i z v' e1 e2 e3 => ?_⟩, fun z c1 e => ?_, e0.hok.fresh (Nat.le_refl _), fun z c1 e => ?_, fun p hp => absurd (show p ∈ ([] : List (Addr × Obj)) ++ [] from hp) (by simp), e0.hok.kept kept, rfl⟩
  · have hz : scope.names.lookup z = some .cell ∨ scope.names.lookup z = some .free := hz
    rw [L.names] at hz
    rcases hz with hz | hz <;> rcases lookup2 hz with ⟨a1, a2⟩ | ⟨a1, a2⟩
    · cases a2
    · cases a2
    · cases a2
    · exact ⟨c, by rw [a1]; exact ly⟩
  · have z2 : false = true := z2
    cases z2
  · match i, e1, e2 with
    | 0, e1, e2 =>
      cases e1
      cases e2
      exact ⟨u, rv, .inl ⟨kx, by simp⟩⟩
    | 1, e1, e2 =>
      cases e1
      cases e2
      exact ⟨vd, rd, .inr ⟨.inr ky, c, ly, hcell⟩⟩
  · obtain ⟨_, rfl⟩ := lookup1 e
    exact ⟨_, hcell⟩
  · obtain ⟨_, rfl⟩ := lookup1 e
    exact (e0.bs _ oc hc).2
/-- the lambda runs -/
theorem lam_runV {A : Around} {outer : List Env} {E : XK} {q : Str} {params : Arguments} {body : Expr} {scope : Scope} {f c' c : Addr} {x y : Str} {oc : Obj} {d : V} {vd u pm ctv : Value} {v : V} {s : Shared} {H : Hp} {k : Nat} {tb : TE} {Q : VK} (L : LamP x y scope) (hr : Room (k + 1) A) (e0 : Env0 P w K mg base A outer s H)
    (hc : base.get? c = some oc) (hcd : oc.data = .cell (some vd)) (rd : RelV d vd) (rv : RelV v u)
    (hf : H f = some (FunO f (PySem.W.kla_obj "<lambda>" q params body scope [(y, c)] pm c' ctv))) (hco : H c' = some (LamX.CodeO c' q))
    (hbind : bindArgs (PySem.W.kla_fn "<lambda>" q params body scope [(y, c)] pm (.ref c') ctv) ⟨[u], []⟩ = pure [(x, u)])
    (hbody : Room k (A.deeper (lamEnvV q scope s.heap.objs.size f c' y c)) → PE (lamCxV P w K mg base A outer s H E q scope f c' x y c) body tb) (h : tb [some v, some d] H Q) :
    codeAny (model P w) A (.call (.ref f) ⟨[u], []⟩) (CR CX0 outer P w H s Q E) s := by
  have of := funO_get e0.hok hf
  obtain ⟨⟨oc2, vs, t, ocAt, hdc, hvc⟩, _, _⟩ := e0.hok c' _ hco
  have noLim : s.heap.NoLimit := e0.mod.nolimit.keeps fun b o e => (e0.bs b o e).1
  have kx : scope.names.lookup x = some .local := by rw [L.names]; exact List.lookup_cons_self
  refine PySem.W.kla_callFunE hr.depth of rfl L.co L.gen rfl ⟨c', oc2, vs, t, rfl, ocAt, hdc, hvc⟩ ?_
  rw [hbind]
  refine wpAny_pure (wpAny_newFunctionEnv (fun z hz e => ?_) (fun z hz => ?_) (fun h₁ nsNew hsb => ⟨noLim.fresh _ hsb, ?_⟩) L.kind)
  · rw [L.names] at hz
    simp only [List.mem_cons, List.not_mem_nil, or_false] at hz
    rcases hz with rfl | rfl <;> cases e
  · rw [List.mem_singleton.mp hz]
    exact kx
  show codeAny _ _ (.expr body (lamEnvV q scope s.heap.objs.size f c' y c)) _ _
  have kept : ∀ b o, s.heap.get? b = some o → h₁.get? b = some o := fun b o e => hsb.extBut b o (Nat.ne_of_lt (Heap.lt_size e)) (Heap.get?_push_of_some _ e)
  have J := lam_startV (E := E) (q := q) (f := f) (c' := c') (tk := s.toks + ([(x, u)] : List (Str × Value)).length) L e0 hr.hd hc hcd rd rv nsNew kept
  refine PySem.W.kla_codeExpr (wpAny_mono ((hbody (hr.deeper _)).run [] _ _ H Q J h) (fun v s' hq => ?_) fun e s' hq => hq)
  obtain ⟨vz, HZ, JZ, rz, qz⟩ := hq
  exact ⟨vz, HZ, JZ.os, JZ.bare, JZ.base, JZ.hok, rz, qz⟩
end
end K6
/-! The lambda as an expression; a field's lambda called; a method called that leans on a captured name. -/
namespace K6
open PySem PySem.Spec PyProof.Rows L2 Evl

section
variable {X : Cx}
def tLamE (T : List (Addr × Str)) (q : Str) (params : Arguments) (body : Expr) (scope : Scope) (y : Str) (c : Addr) : TE := fun _ H Q => LamX.Tabs T H ∧ ∀ (f c' : Addr) (pm ctv : Value) (H1 : Hp), LamX.ExtN H H1 → LamX.Tabs T H1 → H f = none →
  H1 f = some (FunO f (PySem.W.kla_obj "<lambda>" q params body scope [(y, c)] pm c' ctv)) → H1 c' = some (LamX.CodeO c' q) → Q (.ref f) H1
theorem pe_lam {T : List (Addr × Str)} {c0 P c : Addr} {x y q : Str} {params : Arguments} {body : Expr} {scope : Scope} {pos : Pos} (L : LamP x y scope) (TB : LamX.TabB X.base X.mg c0 P) (hcode : X.env.code = .ref c0) (hq : X.env.qual ++ "<lambda>" = q)
    (hm : (P, q) ∈ T) (hu : ∀ p ∈ T, p.1 = P → p.2 = q) (hdef : defaultsOf params X.env = ([], [])) (hy : X.env.cells.lookup y = some c) : PE X (.Lambda params body scope pos) (tLamE T q params body scope y c) := by
  subst hq
  refine ⟨fun pins s σ H Q I h => ?_⟩
  obtain ⟨hT, h⟩ := h
  refine lam_make3 I TB hcode hm hu hT hdef (fun z hz e => ?_) fun f c' pm ctv H1 s' I1 eN T1 hf hf1 hc' => ?_
  · rw [L.names] at hz
    simp only [List.mem_cons, List.not_mem_nil, or_false] at hz
    rcases hz with rfl | rfl
    · cases e
    · exact ⟨c, hy⟩
  · rw [L.clo hy] at hf1
    exact ⟨.ref f, H1, I1, rfl, h f c' pm ctv H1 eN T1 hf hf1 hc'⟩
/-- o.m(e), m a field that holds the lambda -/
def tFldLam (C : Addr) (m q : Str) (params : Arguments) (body : Expr) (scope : Scope) (y : Str) (c : Addr) (d : V) (ta : TE) (t : TA) (tb : TE) : TE := fun σ H Q => ta σ H fun v H1 => ∃ (a dx : Addr) (fs : List (Str × V)) (f c' : Addr) (pm ctv : Value), v = .ref a ∧ H1 a = some (.ins C dx fs) ∧ fs.lookup m = some (.ref f) ∧
  H1 f = some (FunO f (PySem.W.kla_obj "<lambda>" q params body scope [(y, c)] pm c' ctv)) ∧
  t σ H1 fun vs H2 => ∃ n, vs = [n] ∧ H2 f = some (FunO f (PySem.W.kla_obj "<lambda>" q params body scope [(y, c)] pm c' ctv)) ∧ H2 c' = some (LamX.CodeO c' q) ∧ tb [some n, some d] H2 Q
theorem pe_fldlam {o e1 : Expr} {ta tb : TE} {t : TA} {C c : Addr} {m q x y : Str} {params : Arguments} {body : Expr} {scope : Scope} {oc : Obj} {d : V} {vd : Value} {k : Nat} {apos pos : Pos} {pl : Sem Bool} (he : PE X o ta) (cl : Cls X.K C) (n : NoAttr X.K C m) (h1 : PA X [e1] t) (hr : Room (k + 1) X.A) (L : LamP x y scope)
    (hc : X.base.get? c = some oc) (hcd : oc.data = .cell (some vd)) (rd : RelV d vd)
    (hbind : ∀ (pm cv ctv u : Value), bindArgs (PySem.W.kla_fn "<lambda>" q params body scope [(y, c)] pm cv ctv) ⟨[u], []⟩ = pure [(x, u)])
    (hbody : ∀ (A : Around) (outer : List Env) (s : Shared) (H : Hp) (f c' : Addr), Room k (A.deeper (lamEnvV q scope s.heap.objs.size f c' y c)) → PE (lamCxV X.prog X.w X.K X.mg X.base A outer s H E0 q scope f c' x y c) body tb)
    (hst : starEach [e1] X.env = (false, eval e1 X.env) :: starEach [] X.env := by rfl) (hpl : (backTo pos (starEach [] X.env)).any (·.1) = false := by rfl)
    (ht : eval (.Call (.Attribute o m apos) [e1] [] pos) X.env = (do
      let ov ← eval o X.env
      standAt apos.atName
      let (f, first) ← holding [ov] (getMethod ov m pl)
      callWith pos f first (backTo pos (starEach [e1] X.env)) (backToKw pos (keywordEach [] X.env))) := by rfl) :
    PE X (.Call (.Attribute o m apos) [e1] [] pos) (tFldLam C m q params body scope y c d ta t tb) := by
  refine ⟨fun pins s σ H Q I h => ?_⟩
  refine PySem.W.methodCall_KW (pl := pl) (thn (he.run pins s σ H _ I h) fun u s1 ⟨v, H1, I1, rx, a, dx, fs, f, c', pm, ctv, ev, ea, l, hf1, q1⟩ => ?_) ht
  subst ev
  obtain rfl : u = Value.ref a := rx
  obtain ⟨mA, O, _⟩ := ins_get I1.hok ea
  obtain ⟨od, J, _⟩ := O.look
  refine PySem.W.method_usual I1.kIn J (PySem.W.plainGet_of (cl.get m)).1 (PySem.W.plainGet_of (cl.get m)).2 n rfl (getattr_ok I1 ea cl n l fun u' s2 I2 ru => ?_)
  obtain rfl : u' = Value.ref f := ru
  have of2 := funO_get I2.hok hf1
  refine PySem.W.callWith_F (first := []) ⟨_, _, _, _, of2⟩ (thn (h1.run pos pins s2 σ H1 _ I2 q1) fun us s3 ⟨vs, H3, I3, r, n, ev, hf3, hc3, hb⟩ => ?_) hst hpl
  subst ev
  obtain ⟨u1, rfl, r1⟩ := vals1 r
  refine ⟨⟨_, _, _, _, funO_get I3.hok hf3⟩, ?_⟩
  refine wpAny_call (codeAny_mono (lam_runV (P := X.prog) (Q := Q) L hr I3.env0 hc hcd rd r1 hf3 hc3 (hbind _ _ _ _) (hbody _ _ _ _ _ _) hb) fun r s' hq => ?_)
  cases r with
  | error e => exact pass0 pins σ H3 s3 e s' I3 hq
  | ok fl =>
    cases fl with
    | ret u => exact I3.after hq
    | next => exact False.elim hq
    | brk => exact False.elim hq
    | cont => exact False.elim hq
end
/-! ### a method that leans on a cell of the caller's -/
/-- of h: what base holds, and the cell at c -/
def bigBase (h base : Heap) (c : Addr) : Heap := PySem.W.hideAll h ((List.range h.objs.size).filter fun a => (base.get? a).isNone && decide (a ≠ c))
section
variable {h base : Heap} {c b : Addr} {o : Obj}
theorem big_size : (bigBase h base c).objs.size = h.objs.size := PySem.W.hideAll_size _ _
theorem big_of (e : h.get? b = some o) (hb : base.get? b ≠ none ∨ b = c) : (bigBase h base c).get? b = some o := PySem.W.hideAll_get _ e fun hm => by
  have q := (List.mem_filter.mp hm).2
  simp only [Bool.and_eq_true, Option.isNone_iff_eq_none, decide_eq_true_eq] at q
  rcases hb with z | z
  · exact z q.1
  · exact q.2 z
theorem big_get (e : (bigBase h base c).get? b = some o) : h.get? b = some o ∧ (base.get? b ≠ none ∨ b = c) := by
  have e' : h.get? b = some o := PySem.W.of_hideAll _ e
  refine ⟨e', ?_⟩
  by_cases hc : b = c
  · exact .inr hc
  · refine .inl fun z => ?_
    have hm : b ∈ (List.range h.objs.size).filter fun a => (base.get? a).isNone && decide (a ≠ c) := List.mem_filter.mpr ⟨List.mem_range.mpr (Heap.lt_size e'), by simp [z, hc]⟩
    have q := PySem.W.hideAll_none _ (h := h) hm
    unfold bigBase at e
    rw [q] at e
    cases e
end
section
variable {X : Cx}
theorem big_env0 {pins : List (Addr × Obj)} {σ : L2.St} {H : Hp} {s : Shared} {y : Str} {c : Addr} (I : Inv X pins σ H s) (hc : X.env.cells.lookup y = some c) (hfn : X.fn y = true) :
    Env0 X.prog X.w X.K X.mg (bigBase s.heap X.base c) X.A X.stack s H := by
  have kp : ∀ b o, X.base.get? b = some o → (bigBase s.heap X.base c).get? b = some o := fun b o e => big_of (I.bk b o e) (.inl (by rw [e]; exact fun z => nomatch z))
  have M := I.ok.mod
  refine ⟨I.ok.frames, ⟨M.kin.keeps kp, M.glob.keeps kp, let ⟨mb, h1, h2⟩ := M.blt; ⟨mb, h1.keeps kp, h2⟩, M.nolimit.keeps kp⟩, fun b o e => ?_, Nat.le_of_eq big_size, funFrames_none I.stack fun L hL => ?_, I.stkFree, I.hok, I.bare⟩
  · obtain ⟨e1, e2⟩ := big_get e
    refine ⟨e1, ?_⟩
    rcases e2 with z | rfl
    · cases k : X.base.get? b with
      | none => exact absurd k z
      | some o' => exact (I.bs b o' k).2
    · exact I.freeC y _ hc
  · cases k : (bigBase s.heap X.base c).get? L with
    | none => rfl
    | some o =>
      obtain ⟨e1, e2⟩ := big_get k
      rcases e2 with z | rfl
      · exact absurd ((I.stack.mem hL).1) z
      · rcases List.mem_cons.mp (I.stkSub _ hL) with z | z
        · exact absurd z (I.cne y _ hc)
        · obtain ⟨_, o2, ho2, _⟩ := I.ok.funs.mem z
          exact absurd (Heap.lt_size ho2) (Nat.not_lt.mpr (I.ok.cab y _ hfn hc))
/-- o.m(e, ..), where m leans on the captured name y -/
def tMethB (C : Addr) (m : Str) (sp : Addr → Sp) (i : Nat) (ta : TE) (t : TA) : TE := fun σ H Q => ta σ H fun x H1 => ∃ (a dx : Addr) (fs : List (Str × V)) (d : Addr), x = .ref a ∧ H1 a = some (.ins C dx fs) ∧ fs.lookup m = none ∧ σ[i]? = some (some (.ref d)) ∧
  t σ H1 fun vs H2 => sp d (x :: vs) H2 Q E0
theorem pe_methB {pl : Sem Bool} {o e : Expr} {es : List Expr} {ta : TE} {t : TA} {C f c : Addr} {m y : Str} {i k : Nat} {ps : List Str} {sp : Addr → Sp} {apos pos : Pos} (he : PE X o ta) (cl : Cls X.K C) (hm : Meth X.K C m f) (hr : Room k X.A) (ha : PA X (e :: es) t)
    (mc : ∀ (d : Addr) (base' : Heap) (oc : Obj), base'.get? c = some oc → oc.data = .cell (some (.ref d)) → MCal X.prog X.w X.K X.mg base' C m k ps (sp d))
    (hN : X.N[i]? = some y) (hk : X.env.scope.names.lookup y = some .cell) (hc : X.env.cells.lookup y = some c) (hfn : X.fn y = true)
    (hst : starEach (e :: es) X.env = (false, eval e X.env) :: starEach es X.env := by rfl) (hpl : (backTo pos (starEach es X.env)).any (·.1) = false := by rfl)
    (ht : eval (.Call (.Attribute o m apos) (e :: es) [] pos) X.env = (do
      let ov ← eval o X.env
      standAt apos.atName
      let (f, first) ← holding [ov] (getMethod ov m pl)
      callWith pos f first (backTo pos (starEach (e :: es) X.env)) (backToKw pos (keywordEach [] X.env))) := by rfl) :
    PE X (.Call (.Attribute o m apos) (e :: es) [] pos) (tMethB C m sp i ta t) := by
  refine ⟨fun pins s σ H Q I h => ?_⟩
  refine PySem.W.methodCall_KW (pl := pl) (thn (he.run pins s σ H _ I h) fun u s1 ⟨x, H1, I1, rx, a, dx, fs, d, ex, ea, l, hd, q⟩ => ?_) ht
  subst ex
  obtain rfl : u = Value.ref a := rx
  refine getmeth_ok I1 ea cl hm l ?_
  refine PySem.W.callWith_K (first := [.ref a]) (h₀ := X.base) I.ok.mod.kin hm.kp (thn (ha.run pos pins s1 σ H1 _ I1 q) fun us s2 ⟨vs, H2, I2, r, q2⟩ => ⟨I2.kIn, ?_⟩) hst hpl
  obtain ⟨mm, hn, hl⟩ := I2.loc
  obtain ⟨ud, rd, lk⟩ := hl i y _ hN hd (.inr (.inl hk))
  obtain rfl : ud = Value.ref d := rd
  obtain ⟨oc, ho, hcd⟩ : s2.heap.IsCell c (some (.ref d)) := by
    rcases lk with ⟨k', _⟩ | ⟨_, c2, e2, z⟩
    · rw [show X.env.scope.names.lookup y = some .local from k'] at hk
      cases hk
    · rw [hc] at e2
      cases e2
      exact z
  obtain ⟨f2, fd, F, hm2, hb⟩ := mc d (bigBase s2.heap X.base c) oc (big_of ho (.inr rfl)) hcd
  have ef : f = f2 := by
    have h1 := hm.at_
    rw [hm2.at_] at h1
    cases h1
    rfl
  subst ef
  have hlen : (Value.ref a :: us).length = ps.length := by
    have z : Vals (V.ref a :: vs) (Value.ref a :: us) := .cons rfl r
    rw [← z.length]
    exact F.len _ _ _ _ q2
  have hb' := hb s2 (Value.ref a :: us) I2.kIn (by simpa using hlen)
  rw [List.append_nil] at hb'
  refine wpAny_call (codeAny_mono (F.run X.A X.stack s2 H2 ⟨.ref a :: us, []⟩ (.ref a :: us) (.ref a :: vs) Q E0 hr (big_env0 I2 hc hfn) hb' (.cons rfl r) q2) fun r s' hq => ?_)
  cases r with
  | error e => exact pass0 pins σ H2 s2 e s' I2 hq
  | ok fl =>
    cases fl with
    | ret u => exact I2.after hq
    | next => exact False.elim hq
    | brk => exact False.elim hq
    | cont => exact False.elim hq
end
end K6
/-! The class Reach: __init__, visit. -/
namespace K6
open PySem PySem.Spec PyProof.Rows L2 Evl

def rcF (f vd od : Addr) : List (Str × V) := putF "order" (.ref od) (putF "_visited" (.ref vd) (putF "_lines_of" (.ref f) []))
theorem rcF_lines (f vd od : Addr) : (rcF f vd od).lookup ("_lines_of" : Str) = some (.ref f) := by
  unfold rcF
  rw [lookup_putF, if_neg (by decide +kernel), lookup_putF, if_neg (by decide +kernel), lookup_putF, if_pos rfl]
theorem rcF_vis (f vd od : Addr) : (rcF f vd od).lookup ("_visited" : Str) = some (.ref vd) := by
  unfold rcF
  rw [lookup_putF, if_neg (by decide +kernel), lookup_putF, if_pos rfl]
theorem rcF_ord (f vd od : Addr) : (rcF f vd od).lookup ("order" : Str) = some (.ref od) := by
  unfold rcF
  rw [lookup_putF, if_pos rfl]
theorem rcF_no (f vd od : Addr) {x : Str} (h1 : ¬ x = "order") (h2 : ¬ x = "_visited") (h3 : ¬ x = "_lines_of") : (rcF f vd od).lookup x = none := by
  unfold rcF
  rw [lookup_putF, if_neg h1, lookup_putF, if_neg h2, lookup_putF, if_neg h3]
  rfl
/-- a Reach at p: what it has seen, its order -/
structure RcSt (CR : Addr) (H : Hp) (p dx f vd od : Addr) (dom seen ord : List Str) : Prop where
  ob : H p = some (.ins CR dx (rcF f vd od))
  vis : ∃ kvs : List (Key × V), H vd = some (.dK kvs) ∧ kvs.length ≤ seen.length ∧ ∀ s : Str, valV kvs (Sum.inr s : Key) = none ↔ s ∉ seen
  lst : H od = some (.lst (ord.map V.str))
  ol : ord.length ≤ seen.length
  nd : seen.Nodup
  sub : ∀ x ∈ seen, x ∈ dom
  osub : ∀ x ∈ ord, x ∈ dom
/-- all but the seen and the order stay -/
def KeepV (vd od : Addr) (H H' : Hp) : Prop := ∀ a o, a ≠ vd → a ≠ od → H a = some o → H' a = some o
theorem KeepV.refl {vd od : Addr} {H : Hp} : KeepV vd od H H := fun _ _ _ _ e => e
theorem KeepV.trans {vd od : Addr} {H H1 H2 : Hp} (a : KeepV vd od H H1) (b : KeepV vd od H1 H2) : KeepV vd od H H2 := fun x o h1 h2 e => b x o h1 h2 (a x o h1 h2 e)
theorem KeepV.ex {vd od : Addr} {H H' : Hp} (e : Ex H H') : KeepV vd od H H' := fun a o _ _ z => e a o z
theorem nodup_le {seen : List Str} : ∀ {dom : List Str}, seen.Nodup → (∀ x ∈ seen, x ∈ dom) → seen.length ≤ dom.length := by
  induction seen with
  | nil => intro _ _ _; exact Nat.zero_le _
  | cons x r ih =>
    intro dom hn hs
    have hx := hs x List.mem_cons_self
    have h1 := List.nodup_cons.mp hn
    have h2 := ih (dom := dom.erase x) h1.2 fun y hy => (List.mem_erase_of_ne (by rintro rfl; exact h1.1 hy)).mpr (hs y (List.mem_cons_of_mem _ hy))
    rw [List.length_erase_of_mem hx] at h2
    have h3 := List.length_pos_of_mem hx
    rw [List.length_cons]
    omega
/-- what does not change while it visits: the modules at d, the lambda at f -/
structure RcD (K : Frag) (H : Hp) (q : Str) (params : Arguments) (body : Expr) (scope : Scope) (c d f : Addr) (ms : Mods) : Prop where
  mods : ∃ kvs, H d = some (.dK kvs) ∧ Tells K H kvs ms
  lam : ∃ (c' : Addr) (pm ctv : Value), H f = some (FunO f (PySem.W.kla_obj "<lambda>" q params body scope [("modules", c)] pm c' ctv)) ∧ H c' = some (LamX.CodeO c' q)
section
variable {K : Frag} {CR : Addr} {H H' : Hp} {p dx f vd od c d : Addr} {dom seen ord : List Str} {q : Str} {params : Arguments} {body : Expr} {scope : Scope} {ms : Mods}
theorem RcSt.tups (R : RcSt CR H p dx f vd od dom seen ord) (k : KeepV vd od H H') : Tups K H H' := fun a xs hs => by
  obtain ⟨kvs, hv, _⟩ := R.vis
  have hl := R.lst
  rcases hs with (hs | ⟨o, hs⟩) | hs
  · exact .inl (.inl (k a _ (fun z => by rw [z, hv] at hs; cases hs) (fun z => by rw [z, hl] at hs; cases hs) hs))
  · exact .inl (.inr ⟨o, k a _ (fun z => by rw [z, hv] at hs; cases hs) (fun z => by rw [z, hl] at hs; cases hs) hs⟩)
  · exact .inr hs
theorem RcD.keep (D : RcD K H q params body scope c d f ms) (R : RcSt CR H p dx f vd od dom seen ord) (hd : d ≠ vd) (k : KeepV vd od H H') : RcD K H' q params body scope c d f ms := by
  obtain ⟨kvs, hv, _⟩ := R.vis
  have hl := R.lst
  obtain ⟨⟨kd, h1, h2⟩, c', pm, ctv, h3, h4⟩ := D
  refine ⟨⟨kd, k d _ hd (fun z => by rw [z, hl] at h1; cases h1) h1, h2.on (R.tups k)⟩, c', pm, ctv, k f _ (fun z => ?_) (fun z => ?_) h3, k c' _ (fun z => ?_) (fun z => ?_) h4⟩
  · rw [z, hv] at h3
    unfold FunO at h3
    cases h3
  · rw [z, hl] at h3
    unfold FunO at h3
    cases h3
  · rw [z, hv] at h4
    unfold LamX.CodeO at h4
    cases h4
  · rw [z, hl] at h4
    unfold LamX.CodeO at h4
    cases h4
theorem RcSt.ne (R : RcSt CR H p dx f vd od dom seen ord) : vd ≠ od := fun z => by
  obtain ⟨kvs, hv, _⟩ := R.vis
  rw [z, R.lst] at hv
  cases hv
theorem RcSt.np (R : RcSt CR H p dx f vd od dom seen ord) : p ≠ vd ∧ p ≠ od := by
  obtain ⟨kvs, hv, _⟩ := R.vis
  refine ⟨fun z => ?_, fun z => ?_⟩
  · rw [← z, R.ob] at hv
    cases hv
  · have hl := R.lst
    rw [← z, R.ob] at hl
    cases hl
theorem RcSt.ex (R : RcSt CR H p dx f vd od dom seen ord) (e : Ex H H') : RcSt CR H' p dx f vd od dom seen ord := by
  obtain ⟨kvs, hv, h2⟩ := R.vis
  exact ⟨e _ _ R.ob, ⟨kvs, e _ _ hv, h2⟩, e _ _ R.lst, R.ol, R.nd, R.sub, R.osub⟩
end
def KeepP (p : Addr) (H H' : Hp) : Prop := ∀ a o, a ≠ p → H a = some o → H' a = some o
/-- what the lambda's body reads -/
def tLamB (K : Frag) : TE := tIf (tB (tDIn (tVar 0) (tVar 1))) (tTup (tCons (tC (.str "module")) (tCons (tDGet (tVar 1) (tVar 0)) tNil))) (tTup (tCons (tC (.str "module")) (tCons (tVar 0) tNil)))
/-- what is asked of the lambda -/
structure LamIs (P : Program) (w : World) (K : Frag) (mg : Str → Option Value) (q : Str) (params : Arguments) (body : Expr) (scope : Scope) : Prop where
  L : LamP "name" "modules" scope
  bind : ∀ (c : Addr) (pm cv ctv u : Value), bindArgs (PySem.W.kla_fn "<lambda>" q params body scope [("modules", c)] pm cv ctv) ⟨[u], []⟩ = pure [(("name" : Str), u)]
  body : ∀ (base : Heap) (c : Addr) (A : Around) (outer : List Env) (s : Shared) (H : Hp) (f c' : Addr), Room 0 (A.deeper (lamEnvV q scope s.heap.objs.size f c' "modules" c)) → PE (lamCxV P w K mg base A outer s H E0 q scope f c' "name" "modules" c) body (tLamB K)
/-- the names lead to names of dom -/
structure DomOk (ms : Mods) (dom : List Str) : Prop where
  few : dom.length ≤ 3
  has : ∀ x ∈ dom, (ms x).isSome = true
  imps : ∀ x ∈ dom, ∀ ls, ms x = some ls → ∀ e ps t, Line.imp e ps t ∈ ls → t ∈ dom

section
variable {P : Program} {w : World} {K : Frag} {mg : Str → Option Value} {base : Heap} {O CR CN : Addr}
def spRInit (CR : Addr) : Sp := fun vs H Q _ => ∃ (p dx f : Addr), vs = [.ref p, .ref f] ∧ H p = some (.ins CR dx []) ∧ (∀ vd od H', H vd = none → (upd H vd (.dK [])) od = none → KeepP p H H' → H' p = some (.ins CR dx (rcF f vd od)) → H' vd = some (.dK []) → H' od = some (.lst []) → Q .non H')
theorem ok_rinit (T : Txt K mg O CR CN) : KCal P w K mg base "Reach" CR 1 ["self", "lines_of"] (spRInit CR) := by
  obtain ⟨f, fd, F, M⟩ := T.mR_init
  refine ⟨f, fd, F.ok sc_Reach_init (fun vs H Q E h => ?_) (fun cdv A outer s H vs Q E hr h => ?_), M, F.binds (fun _ _ _ _ _ _ us hl => match us, hl with | [_, _], _ => rfl), T.gR⟩
  · obtain ⟨p, dx, f, rfl, _⟩ := h
    rfl
  obtain ⟨p, dx, f, rfl, hp, q⟩ := h
  refine ⟨_, (pss_cons (ps_fld (pv 0) (pv 1) rfl)
    (pss_cons (ps_fld (pv 0) (pe_dnewK) rfl)
    (pss_one (ps_fld (pv 0) (pe_lst pa_nil) rfl)))), ?_⟩
  refine ⟨_, rfl, _, rfl, p, CR, dx, [], rfl, hp, T.clR, T.nR_lines_of, (by show 0 < 1000; decide), ?_⟩
  intro vd nvd
  have hpv : p ≠ vd := fun z => by rw [← z, upd_same] at nvd; cases nvd
  have nvd0 : H vd = none := by rw [upd_ne hpv.symm] at nvd; exact nvd
  refine ⟨_, rfl, p, CR, dx, _, rfl, (by rw [upd_ne hpv]; exact upd_same), T.clR, T.nR_visited, (by show 1 < 1000; decide), ?_⟩
  refine ⟨Nat.zero_le _, fun od nod => ?_⟩
  have hpo : p ≠ od := fun z => by rw [← z, upd_same] at nod; cases nod
  have hvo : vd ≠ od := fun z => by rw [← z, upd_ne hpv.symm, upd_same] at nod; cases nod
  refine ⟨_, rfl, p, CR, dx, _, rfl, (by rw [upd_ne hpo]; exact upd_same), T.clR, T.nR_order, (by show 2 < 1000; decide), ?_⟩
  refine q vd od _ nvd0 ?_ (fun a o ha e => ?_) upd_same ?_ ?_
  · rw [upd_ne hvo.symm]
    rw [upd_ne hpo.symm, upd_ne hvo.symm, upd_ne hpo.symm] at nod
    exact nod
  · have n1 : a ≠ vd := fun z => by rw [z, nvd0] at e; cases e
    have n2 : a ≠ od := fun z => by
      rw [upd_ne hpo.symm, upd_ne hvo.symm, upd_ne hpo.symm] at nod
      rw [z, nod] at e
      cases e
    rw [upd_ne ha, upd_ne n2, upd_ne ha, upd_ne n1, upd_ne ha]
    exact e
  · rw [upd_ne hpv.symm, upd_ne hvo, upd_ne hpv.symm]
    exact upd_same
  · rw [upd_ne hpo.symm]
    exact upd_same
theorem tyx_tup {K : Frag} {H : Hp} {a : Addr} {xs : List V} (h : SqT K H a xs) : TyX K H (.ref a) (.type "tuple") := by
  rcases h with (h | ⟨o, h⟩) | ⟨o, its, n, h1, h2, _⟩
  · exact .base (.tup h)
  · exact .fTuple h
  · exact .kTuple h1 h2
/-- self, module: d holds ms; n: how many steps may be left -/
def spVisit (K : Frag) (CR : Addr) (q : Str) (params : Arguments) (body : Expr) (scope : Scope) (c : Addr) (n : Nat) (d : Addr) : Sp := fun vs H Q _ => ∃ (p dx f vd od : Addr) (m : Str) (dom seen ord : List Str) (ms : Mods), vs = [.ref p, .str m] ∧
  RcSt CR H p dx f vd od dom seen ord ∧ RcD K H q params body scope c d f ms ∧ d ≠ vd ∧ DomOk ms dom ∧ (∀ x ls, ms x = some ls → ls.length ≤ 1000) ∧ m ∈ dom ∧ dom.length < n + seen.length ∧
  ∀ seen' ord' H', KeepV vd od H H' → RcSt CR H' p dx f vd od dom seen' ord' → seen.length ≤ seen'.length → ord'.length + seen.length ≤ ord.length + seen'.length → Q .non H'
theorem ok_visit (T : Txt K mg O CR CN) {qn : Str} {params : Arguments} {body : Expr} {scope : Scope} (LI : LamIs P w K mg qn params body scope) {c : Addr} {oc : Obj} {d : Addr} (hc : base.get? c = some oc) (hcd : oc.data = .cell (some (.ref d))) :
    ∀ n : Nat, MCal P w K mg base CR "visit" (n + 1) ["self", "module"] (spVisit K CR qn params body scope c n d)
  | 0 => by
    have no : ∀ vs H Q E, spVisit K CR qn params body scope c 0 d vs H Q E → False := fun vs H Q E h => by
      obtain ⟨p, dx, f, vd, od, m, dom, seen, ord, ms, rfl, R, D, hdv, DO, hls, hm, hn, q⟩ := h
      have := nodup_le R.nd R.sub
      omega
    obtain ⟨f, fd, F, M⟩ := T.mR_visit
    exact ⟨f, fd, ⟨fun vs H Q E h => (no vs H Q E h).elim, fun A outer s H args us vs Q E _ _ _ _ h => (no vs H Q E h).elim⟩, M, F.binds (fun _ _ _ _ _ _ us hl => match us, hl with | [_, _], _ => rfl)⟩
  | n + 1 => by
    have C_visit := ok_visit T LI hc hcd n
    refine MCal.of T.mR_visit sc_Reach_visit (fun _ _ _ _ _ _ us hl => match us, hl with | [_, _], _ => rfl) (fun vs H Q E h => ?_) (fun f cdv A outer s H vs Q E hr h => ?_)
    · obtain ⟨p, dx, f, vd, od, m, dom, seen, ord, ms, rfl, _⟩ := h
      rfl
    obtain ⟨p, dx, f, vd, od, m, dom, seen, ord, ms, rfl, R, D, hdv, DO, hls, hm, hn, q⟩ := h
    refine ⟨_, (pss_cons (ps_if (pt_cmp (pc_din (hu_of hr) (pv 1) (pe_fld (pv 0) rfl))) (pss_one (ps_ret (pe_non))) pss_nil)
    (pss_cons (ps_dput (hu_of hr) (pe_fld (pv 0) rfl) (pv 1) (pe_bl) rfl)
    (pss_cons (ps_set (i := 2) sc_Reach_visit.nd rfl (Or.inl rfl) (pe_fldlam (k := 0) (d := V.ref d) (q := qn) (params := params) (body := body) (scope := scope) (pv 0) T.clR T.nR_lines_of (pa_cons (pv 1) pa_nil) (hr.mono (by omega)) LI.L hc hcd rfl (LI.bind c) (fun A outer s H f c1 h => LI.body _ c A outer s H f c1 h)))
    (pss_cons (ps_if (PW.pt (pw_or (pt_cmpR op_ne (pe_ix ix_tup (pv 2) (pe_int) (fun _ _ => rfl)) (pe_str) (nomark _)) (pw_or (pt_cmpR op_ne (pe_callB call_len_seq rfl T.zlen PySem.boot_len (pa_cons (pv 2) pa_nil)) (pe_int) (nomark _)) (pw_or1 (pt_not (pt_val (pe_callB call_isi rfl T.zisi (by decide +kernel) (pa_cons (pe_ix ix_tup (pv 2) (pe_int) (fun _ _ => rfl)) (pa_cons (pe_bltn (v := .ty "tuple") rfl T.ztuple PyProof.Rows.boot_tuple rfl) pa_nil))))))))) (pss_one (ps_ret (pv 2))) pss_nil)
    (pss_cons (ps_for PassesOwn.never rfl (pi_tup (pe_ix ix_tup (pv 2) (pe_int) (fun _ _ => rfl))) (pg_name (i := 3) sc_Reach_visit.nd rfl (Or.inl rfl)) (pss_one (ps_if (PW.pt (pw_or (pt_cmpR op_eq (pe_ix ix_tup (pv 3) (pe_int) (fun _ _ => rfl)) (pe_gstr T.gIMPORT rfl) (nomark _)) (pw_or1 (pt_cmpR op_eq (pe_ix ix_tup (pv 3) (pe_int) (fun _ _ => rfl)) (pe_gstr T.gEXPORT rfl) (nomark _))))) (pss_cons (ps_set (i := 4) sc_Reach_visit.nd rfl (Or.inl rfl) (pe_mcal (pv 0) T.clR C_visit (hr.mono (by omega)) (pa_cons (pe_ix ix_tup (pv 3) (pe_int) (fun _ _ => rfl)) pa_nil)))
    (pss_one (ps_if (pt_cmpR op_notN (pv 4) (pe_non) (nomark _)) (pss_one (ps_ret (pv 4))) pss_nil))) pss_nil)))
    (pss_cons (ps_expr (pe_bm PySem.F.plainAttrs_list PySem.F.slot_list_append PySem.F.type_list_append mt_append (pe_fld (pv 0) rfl) (pa_cons (pv 1) pa_nil)))
    (pss_one (ps_ret (pe_non))))))))), ?_⟩
    obtain ⟨kvs, hvd, hkl, hkv⟩ := R.vis
    have hlen := nodup_le R.nd R.sub
    have few := DO.few
    -- if module in self._visited
    refine ⟨_, rfl, _, rfl, p, CR, dx, _, _, rfl, R.ob, T.clR, T.nR_visited, rcF_vis f vd od, vd, _, rfl, DGet.k (k := Sum.inr m) hvd, _, rfl, ?_⟩
    refine ite2 (fun _ => q seen ord H KeepV.refl R (Nat.le_refl _) (by omega)) (fun hno => ?_)
    have hns : m ∉ seen := (hkv m).mp (by
      cases e : valV kvs (Sum.inr m : Key) with
      | none => rfl
      | some v => rw [e] at hno; exact absurd rfl hno)
    -- self._visited[module] = True
    refine ⟨_, rfl, p, CR, dx, _, _, rfl, R.ob, T.clR, T.nR_visited, rcF_vis f vd od, _, rfl, vd, _, rfl, DPut.k (k := Sum.inr m) hvd (small1000 (by omega)), ?_⟩
    have k1 : KeepV vd od H (upd H vd (.dK (putK kvs (Sum.inr m : Key) (.bl true)))) := fun a o h1 h2 e => by rw [upd_ne h1]; exact e
    have R1 : RcSt CR (upd H vd (.dK (putK kvs (Sum.inr m : Key) (.bl true)))) p dx f vd od dom (m :: seen) ord := by
      refine ⟨by rw [upd_ne R.np.1]; exact R.ob, ⟨_, upd_same, ?_, fun z => ?_⟩, by rw [upd_ne R.ne.symm]; exact R.lst, ?_, List.nodup_cons.mpr ⟨hns, R.nd⟩, fun x hx => ?_, R.osub⟩
      · have := length_putK kvs (Sum.inr m : Key) (V.bl true)
        rw [List.length_cons]
        omega
      · rw [valV_put]
        by_cases e : z = m
        · rw [if_pos (by rw [e])]
          exact ⟨(fun y => by cases y), fun y => absurd (by rw [e]; exact List.mem_cons_self) y⟩
        · rw [if_neg (inr_ne e), hkv z, List.mem_cons]
          exact ⟨fun y y' => y'.elim e y, fun y y' => y (.inr y')⟩
      · have := R.ol
        rw [List.length_cons]
        omega
      · rcases List.mem_cons.mp hx with z | z
        · rw [z]
          exact hm
        · exact R.sub x z
    have D1 := D.keep R hdv k1
    generalize upd H vd (.dK (putK kvs (Sum.inr m : Key) (.bl true))) = H1 at *
    -- found = self._lines_of(module)
    obtain ⟨⟨kd, hd, tl⟩, c', pm, ctv, hf, hc'⟩ := id D1
    obtain ⟨ls, v, hms, hv, am⟩ : ∃ ls v, ms m = some ls ∧ valV kd (Sum.inr m : Key) = some v ∧ ModAt K H1 v ls := by
      rcases tl m with ⟨z, _⟩ | z
      · have := DO.has m hm
        rw [z] at this
        cases this
      · exact z
    refine ⟨_, rfl, p, dx, _, f, c', pm, ctv, rfl, R1.ob, rcF_lines f vd od, hf, _, rfl, _, rfl, hf, hc', _, rfl, _, rfl, d, _, rfl, DGet.k (k := Sum.inr m) hd, _, rfl, ?_⟩
    rw [hv]
    refine iteT ?_
    refine ⟨_, rfl, _, rfl, d, v, rfl, by rw [← hv]; exact DGet.k (k := Sum.inr m) hd, two_le, fun t nt => ?_⟩
    obtain ⟨ta, us, rfl, hS, hA⟩ := am
    have e2 := Ex.new (o := .tup [.str "module", .ref ta]) nt
    have ht : SqT K (upd H1 t (.tup [.str "module", .ref ta])) t [.str "module", .ref ta] := SqT.of upd_same
    have R2 := R1.ex e2
    have D2 := D1.keep R1 hdv (KeepV.ex e2)
    have hS2 := ex_t e2 hS
    have hA2 := hA.imp fun _ _ z => z.on (Tups.ex e2)
    have k2 := k1.trans (KeepV.ex e2)
    generalize upd H1 t (.tup [.str "module", .ref ta]) = H2 at *
    -- the test of what was found
    refine ⟨_, rfl, t, _, 0, _, rfl, rfl, ht, at0, rfl, _, rfl, ?_⟩
    refine ite2 (fun z => absurd z (by rw [str_dec]; decide)) (fun _ => ?_)
    refine ⟨_, rfl, t, _, rfl, .inr ht, rfl, _, rfl, ?_⟩
    refine ite2 (fun z => absurd z (by show ¬ (!decide (V.int 2 = V.int 2)) = true; decide)) (fun _ => ?_)
    refine ⟨_, rfl, t, _, 1, _, rfl, rfl, ht, at1, V.ref ta, .ty "tuple", .type "tuple", .type "tuple", true, rfl, .ty "tuple", tyx_tup hS2, kit_ty (by decide +kernel), ?_⟩
    refine ⟨_, rfl, ?_⟩
    refine ite2 (fun z => absurd z (by decide)) (fun _ => ?_)
    -- for line in found[1]
    refine ⟨_, rfl, t, _, 1, _, rfl, rfl, ht, at1, ta, rfl, ⟨_, hS2⟩, for_tup (K := K) (a := ta) (xs := us) (fun i σ H' => ∃ (seen' ord' : List Str) (o3 o4 : Option V), σ = [some (.ref p), some (.str m), some (.ref t), o3, o4] ∧ KeepV vd od H2 H' ∧ RcSt CR H' p dx f vd od dom seen' ord' ∧ seen.length + 1 ≤ seen'.length ∧ ord'.length + (seen.length + 1) ≤ ord.length + seen'.length)
      ⟨m :: seen, ord, _, _, rfl, KeepV.refl, R2, Nat.le_refl _, Nat.le_refl _⟩ (fun i σ H' _ z => by
        obtain ⟨_, _, _, _, _, k, _⟩ := z
        exact R2.tups k _ _ hS2) ?_ ?_⟩
    · rintro i x σ H3 hi ⟨seen', ord', o3, o4, rfl, k3, R3, h1, h2⟩
      obtain ⟨l, hl, hx⟩ := hA2.get hi
      have hlm := List.mem_of_getElem? hl
      obtain ⟨a', k, r, rfl, ha', hk⟩ := (hx.on (R2.tups k3)).both
      have D3 := D2.keep R2 hdv k3
      have skip : ∀ {o3 o4 : Option V}, ∃ (seen' ord' : List Str) (p3 p4 : Option V), ([some (.ref p), some (.str m), some (.ref t), o3, o4] : L2.St) = [some (.ref p), some (.str m), some (.ref t), p3, p4] ∧ KeepV vd od H2 H3 ∧ RcSt CR H3 p dx f vd od dom seen' ord' ∧ seen.length + 1 ≤ seen'.length ∧ ord'.length + (seen.length + 1) ≤ ord.length + seen'.length :=
        ⟨seen', ord', _, _, rfl, k3, R3, h1, h2⟩
      refine ⟨_, rfl, a', _, 0, _, rfl, rfl, ha', at0, rfl, _, rfl, ?_⟩
      rcases hk with ⟨hk, _⟩ | ⟨_, _, hk⟩
      · refine ite2 (fun z => ?_) (fun _ => ?_)
        · rw [str_dec] at z
          have z := of_decide_eq_true z
          rw [z] at hk
          exact absurd hk (by decide +kernel)
        refine ⟨_, rfl, a', _, 0, _, rfl, rfl, ha', at0, rfl, _, rfl, ?_⟩
        refine ite2 (fun z => ?_) (fun _ => skip)
        rw [str_dec] at z
        have z := of_decide_eq_true z
        rw [z] at hk
        exact absurd hk (by decide +kernel)
      · rcases hk with ⟨e, ps, m2, bt, ws, rfl, rfl, rfl, hb, hP⟩ | ⟨n1, n2, _⟩
        · have hm2 : m2 ∈ dom := DO.imps m hm ls hms e ps m2 hlm
          cases e with
          | false =>
          refine ite2 (fun _ => ?_) (fun z => absurd (by rw [str_dec]; exact decide_eq_true rfl) z)
          refine iteT ?_
          refine ⟨_, rfl, p, dx, _, rfl, R3.ob, rcF_no f vd od (by decide +kernel) (by decide +kernel) (by decide +kernel), _, rfl, a', _, 2, _, rfl, rfl, ha', at2, p, dx, f, vd, od, m2, dom, seen', ord', ms, rfl, R3, D3, hdv, DO, hls, hm2, by omega, fun seen4 ord4 H4 k4 R4 l1 l2 => ?_⟩
          refine ⟨_, rfl, rfl, _, rfl, ?_⟩
          refine ite2 (fun z => absurd z (by decide)) (fun _ => ?_)
          exact ⟨seen4, ord4, _, _, rfl, k3.trans k4, R4, by omega, by omega⟩
          | true =>
          refine ite2 (fun z => ?_) (fun _ => ?_)
          · rw [str_dec] at z
            exact absurd (of_decide_eq_true z) (by decide +kernel)
          refine ⟨_, rfl, a', _, 0, _, rfl, rfl, ha', at0, rfl, _, rfl, ?_⟩
          refine ite2 (fun _ => ?_) (fun z => absurd (by rw [str_dec]; exact decide_eq_true rfl) z)
          refine ⟨_, rfl, p, dx, _, rfl, R3.ob, rcF_no f vd od (by decide +kernel) (by decide +kernel) (by decide +kernel), _, rfl, a', _, 2, _, rfl, rfl, ha', at2, p, dx, f, vd, od, m2, dom, seen', ord', ms, rfl, R3, D3, hdv, DO, hls, hm2, by omega, fun seen4 ord4 H4 k4 R4 l1 l2 => ?_⟩
          refine ⟨_, rfl, rfl, _, rfl, ?_⟩
          refine ite2 (fun z => absurd z (by decide)) (fun _ => ?_)
          exact ⟨seen4, ord4, _, _, rfl, k3.trans k4, R4, by omega, by omega⟩
        · refine ite2 (fun z => ?_) (fun _ => ?_)
          · rw [str_dec] at z
            exact absurd (of_decide_eq_true z) n1
          refine ⟨_, rfl, a', _, 0, _, rfl, rfl, ha', at0, rfl, _, rfl, ?_⟩
          refine ite2 (fun z => ?_) (fun _ => skip)
          rw [str_dec] at z
          exact absurd (of_decide_eq_true z) n2
    · rintro σ H3 ⟨seen', ord', o3, o4, rfl, k3, R3, h1, h2⟩
      have hol := R.ol
      have ho3 := R3.ol
      have hn3 := nodup_le R3.nd R3.sub
      obtain ⟨kv3, hv3, hv3l, hv3k⟩ := R3.vis
      refine ⟨_, rfl, p, CR, dx, _, _, rfl, R3.ob, T.clR, T.nR_order, rcF_ord f vd od, .inl ⟨rfl, _, SqL.of R3.lst⟩, _, rfl, od, _, _, rfl, rfl, R3.lst, small1000 (by rw [List.length_map]; omega), ?_⟩
      refine q seen' (ord' ++ [m]) _ ((k2.trans k3).trans fun a o n1 n2 e => by rw [upd_ne n2]; exact e) ⟨by rw [upd_ne R3.np.2]; exact R3.ob, ⟨kv3, by rw [upd_ne R3.ne]; exact hv3, hv3l, hv3k⟩, by rw [upd_same, lst_snoc], ?_, R3.nd, R3.sub, fun x hx => ?_⟩ (by omega) ?_
      · rw [List.length_append, List.length_singleton]
        omega
      · rcases List.mem_append.mp hx with z | z
        · exact R3.osub x z
        · rw [List.mem_singleton.mp z]
          exact hm
      · rw [List.length_append, List.length_singleton]
        omega
end
end K6
/-! reach. -/
namespace K6
open PySem PySem.Spec PyProof.Rows L2 Evl

/-- the lambda of reach -/
def lamP : Option (Arguments × Expr × Scope) := match defBody s_reach with
  | .Assign _ (.Call _ [.Lambda a b sc _] _ _) _ :: _ => some (a, b, sc)
  | _ => none
theorem lamP_some : lamP.isSome = true := rfl
abbrev lamA : Arguments := (lamP.get lamP_some).1
abbrev lamE : Expr := (lamP.get lamP_some).2.1
abbrev lamS : Scope := (lamP.get lamP_some).2.2
def lamQ : Str := "reach.<locals>.<lambda>"
theorem lam_is {P : Program} {w : World} {K : Frag} {mg : Str → Option Value} : LamIs P w K mg lamQ lamA lamE lamS := by
  refine ⟨⟨rfl, rfl, rfl, rfl, by decide +kernel⟩, fun c pm cv ctv u => rfl, fun base c A outer s H f c' hr => ?_⟩
  exact pe_ifExp (pt_cmp (pc_din (hu_of hr) (pv 0) (pv 1))) (pe_tup (pa_cons (pe_str) (pa_cons (pe_dget (hu_of hr) (pv 1) (pv 0) (fun _ _ => rfl)) pa_nil))) (pe_tup (pa_cons (pe_str) (pa_cons (pv 0) pa_nil)))
/-- a def whose code object stands at c0 -/
def DefC (K : Frag) (mg : Str → Option Value) (x : Str) (st : Stmt) (c0 : Addr) : Prop := ∃ (f : Addr) (oc : Value) (od : Option Addr) (kV doc pm : Value) (an : Option Addr) (ct : Value) (osl : Array (Option Value)),
  K.lookup f = some ⟨oc, od, .func (PySem.W.fnOf x x (defArgs st) (defBody st) (defScope st) .none kV doc pm an (.ref c0) ct), osl⟩ ∧ PySem.W.codeIn K (.ref c0) x = true ∧ PySem.W.keepIn K (.ref f) = true ∧ mg x = some (.ref f)
section
variable {P : Program} {w : World} {K : Frag} {mg : Str → Option Value} {base : Heap} {O CR CN : Addr}
/-- modules, entries -/
def spReach (K : Frag) (T : List (Addr × Str)) : Sp := fun vs H Q _ => ∃ (d en : Addr) (ms : Mods) (dom es : List Str), vs = [.ref d, .ref en] ∧ (∃ kvs, H d = some (.dK kvs) ∧ Tells K H kvs ms) ∧ SqT K H en (es.map V.str) ∧ (∀ x ∈ es, x ∈ dom) ∧ DomOk ms dom ∧ (∀ x ls, ms x = some ls → ls.length ≤ 1000) ∧ LamX.Tabs T H ∧
  ∀ (t a : Addr) (ord : List Str) (H' : Hp), LamX.ExtN H H' → LamX.Tabs T H' → SqT K H' t [.str "order", .ref a] → SqT K H' a (ord.map V.str) → (∀ x ∈ ord, x ∈ dom) → Q (.ref t) H'
theorem ok_reach (T : Txt K mg O CR CN) {c0 Pt : Addr} (DC : DefC K mg "reach" s_reach c0) (TB : LamX.TabB base mg c0 Pt) : Cal P w K mg base "reach" 6 ["modules", "entries"] (spReach K [(Pt, lamQ)]) := by
  have LI : LamIs P w K mg lamQ lamA lamE lamS := lam_is
  have C_Reach := ok_rinit (P := P) (w := w) (base := base) T
  obtain ⟨f, oc, od, kV, doc, pm, an, ct, osl, lk, hcd, kp, hm⟩ := DC
  have bd : ∀ (kV doc pm : Value) (an : Option Addr) (cdv ct : Value) (us : List Value), us.length = 2 → bindArgs (PySem.W.fnOf "reach" "reach" (defArgs s_reach) (defBody s_reach) (defScope s_reach) .none kV doc pm an cdv ct) ⟨us, []⟩ = pure ((["modules", "entries"] : List Str).zip us) := fun _ _ _ _ _ _ us hl => match us, hl with | [_, _], _ => rfl
  refine ⟨f, _, fn_of lk hcd sc_reach (fun vs H Q E h => ?_) (fun A outer s H vs Q E hr h => ?_), hm, kp, .all (bd kV doc pm an (.ref c0) ct)⟩
  · obtain ⟨d, en, ms, dom, es, rfl, _⟩ := h
    rfl
  obtain ⟨d, en, ms, dom, es, rfl, ⟨kvs, hd, tl⟩, hes, hsub, DO, hls, hT, q⟩ := h
  obtain ⟨cc, hcell⟩ := cell_has (n := s.heap.objs.size + 1) (show (defScope s_reach).names.lookup ("modules" : Str) = some NameKind.cell from rfl)
  obtain ⟨fv, fdv, Fv, hmV⟩ := T.mR_visit
  have C_visit := fun (d : Addr) (base' : Heap) (oc : Obj) (h1 : base'.get? cc = some oc) (h2 : oc.data = .cell (some (.ref d))) => ok_visit (P := P) (w := w) T LI h1 h2 4
  have hmT : (Pt, lamQ) ∈ [(Pt, lamQ)] := List.mem_singleton.mpr rfl
  have huT : ∀ p ∈ [(Pt, lamQ)], p.1 = Pt → p.2 = lamQ := fun p hp _ => by rw [List.mem_singleton.mp hp]
  suffices hh : ∃ t, PSs (cxOf CX0 P w K mg base ["modules", "entries", "course", "module", "fault"] "reach" (defScope s_reach) f (.ref c0) A outer s H E).nox (defBody s_reach) t ∧ t { nx := fun _ H' => Q .non H', rt := Q } (start ["modules", "entries", "course", "module", "fault"] [.ref d, .ref en]) H by
    obtain ⟨t, h1, h2⟩ := hh
    exact ⟨t, h1.nox, h2⟩
  refine ⟨_, (pss_cons (ps_set (i := 2) sc_reach.nd rfl (Or.inl rfl) (pe_kcal C_Reach (hr.mono (by omega)) rfl (pa_cons (pe_lam LI.L TB rfl rfl hmT huT rfl hcell) pa_nil)))
    (pss_cons (ps_for PassesOwn.never rfl (pi_tup (pv 1)) (pg_name (i := 3) sc_reach.nd rfl (Or.inl rfl)) (pss_cons (ps_set (i := 4) sc_reach.nd rfl (Or.inl rfl) (pe_methB (i := 0) (pv 2) T.clR hmV (hr.mono (by omega)) (pa_cons (pv 3) pa_nil) C_visit rfl rfl hcell rfl))
    (pss_one (ps_if (pt_cmpR op_notN (pv 4) (pe_non) (nomark _)) (pss_one (ps_ret (pv 4))) pss_nil))))
    (pss_one (ps_ret (pe_tup (pa_cons (pe_str) (pa_cons (pe_callTy call_tuple_of rfl T.ztuple (by decide +kernel) (pa_cons (pe_fld (pv 2) rfl) pa_nil)) pa_nil))))))), ?_⟩
  -- course = Reach(lambda ..)
  refine ⟨hT, fun g c' pm' ctv H1 eN T1 ng hg hc' => ?_⟩
  intro x dx nx ndx hne
  refine ⟨x, dx, g, rfl, upd_same, fun vd od H2 nvd nod kp hob hvd hod => ⟨rfl, ?_⟩⟩
  have eA : Ex H1 (upd (upd H1 dx (.own x)) x (.ins CR dx [])) := (Ex.new ndx).trans (Ex.new (by rw [upd_ne hne.symm]; exact nx))
  have e2 : Ex H1 H2 := fun b o e => kp b o (fun z => by rw [z, nx] at e; cases e) (eA _ _ e)
  have nvd1 : H1 vd = none := Ex.free eA nvd
  have nod1 : H1 od = none := Ex.free (eA.trans (Ex.new (o := .dK []) nvd)) nod
  have hd1 : H1 d = some (.dK kvs) := eN d _ hd (fun ps z => by cases z)
  have tu1 : Tups K H H1 := fun a xs hs => by
    rcases hs with (hs | ⟨o, hs⟩) | hs
    · exact .inl (.inl (eN _ _ hs fun ps z => by cases z))
    · exact .inl (.inr ⟨o, eN _ _ hs fun ps z => by cases z⟩)
    · exact .inr hs
  have hdv : d ≠ vd := fun z => by rw [z, nvd1] at hd1; cases hd1
  have R2 : RcSt CR H2 x dx g vd od dom [] [] := ⟨hob, ⟨[], hvd, Nat.le_refl _, fun z => ⟨fun _ => List.not_mem_nil, fun _ => rfl⟩⟩, hod, Nat.le_refl _, List.nodup_nil, fun y hy => absurd hy List.not_mem_nil, fun y hy => absurd hy List.not_mem_nil⟩
  have D2 : RcD K H2 lamQ lamA lamE lamS cc d g ms := ⟨⟨kvs, e2 _ _ hd1, (tl.on tu1).on (Tups.ex e2)⟩, c', pm', ctv, e2 _ _ hg, e2 _ _ hc'⟩
  have hes2 : SqT K H2 en (es.map V.str) := Tups.ex e2 _ _ (tu1 _ _ hes)
  have few := DO.few
  -- for module in entries
  refine ⟨_, rfl, en, rfl, ⟨_, hes2⟩, for_tup (K := K) (a := en) (xs := es.map V.str) (fun i σ H' => KeepV vd od H2 H' ∧ ∃ (seen ord : List Str) (o3 o4 : Option V), σ = [some (.ref d), some (.ref en), some (.ref x), o3, o4] ∧ RcSt CR H' x dx g vd od dom seen ord)
    ⟨KeepV.refl, [], [], _, _, rfl, R2⟩ (fun i σ H' _ z => R2.tups z.1 _ _ hes2) ?_ ?_⟩
  · rintro i y σ H3 hi ⟨k3, seen, ord, o3, o4, rfl, R3⟩
    obtain ⟨m, hm', rfl⟩ := List.mem_map.mp (List.mem_of_getElem? hi)
    have D3 := D2.keep R2 hdv k3
    refine ⟨_, rfl, x, dx, _, d, rfl, R3.ob, rcF_no g vd od (by decide +kernel) (by decide +kernel) (by decide +kernel), rfl, _, rfl, x, dx, g, vd, od, m, dom, seen, ord, ms, rfl, R3, D3, hdv, DO, hls, hsub m hm', by omega, fun seen4 ord4 H4 k4 R4 l1 l2 => ?_⟩
    refine ⟨_, rfl, rfl, _, rfl, ?_⟩
    refine ite2 (fun z => absurd z (by decide)) (fun _ => ?_)
    exact ⟨k3.trans k4, seen4, ord4, _, _, rfl, R4⟩
  · rintro σ H3 ⟨k3, seen, ord, o3, o4, rfl, R3⟩
    refine ⟨_, rfl, x, CR, dx, _, _, rfl, R3.ob, T.clR, T.nR_order, rcF_ord g vd od, od, _, rfl, .inl ⟨SqL.of R3.lst, fun a na => ⟨two_le, fun t nt => ?_⟩⟩⟩
    have e4 := Ex.new (o := .tup (ord.map V.str)) na
    have e5 := Ex.new (o := .tup [.str "order", .ref a]) nt
    have eF : Ex H1 (upd (upd H3 a (.tup (ord.map V.str))) t (.tup [.str "order", .ref a])) := fun b o e => e5 _ _ (e4 _ _ (k3 b o (fun z => by rw [z, nvd1] at e; cases e) (fun z => by rw [z, nod1] at e; cases e) (e2 _ _ e)))
    exact q t a ord _ (eN.trans (LamX.ExtN.of eF)) (T1.ext eF) (SqT.of upd_same) (Tups.ex e5 _ _ (SqT.of upd_same)) R3.osub
end
end K6
/-! Defs that are called where no repr is under way; _law_alike. -/
namespace K6
open PySem PySem.Spec PyProof.Rows L2 Evl

/-- a def's promise, where no repr is under way -/
structure FnOkG (P : Program) (w : World) (K : Frag) (mg : Str → Option Value) (base : Heap) (k : Nat) (f : Addr) (fd : FuncData) (ps : List Str) (sp : Sp) : Prop where
  len : ∀ vs H Q E, sp vs H Q E → vs.length = ps.length
  run : ∀ (A : Around) (outer : List Env) (s : Shared) (H : Hp) (args : Args) (us : List Value) (vs : List V) (Q : VK) (E : XK), A.guards = some [] → Room k A → Env0 P w K mg base A outer s H → BindsTo s fd args (ps.zip us) → Vals vs us → sp vs H Q E →
    codeAny (model P w) A (.call (.ref f) args) (CR CX0 outer P w H s Q E) s
def CalG (P : Program) (w : World) (K : Frag) (mg : Str → Option Value) (base : Heap) (x : Str) (k : Nat) (ps : List Str) (sp : Sp) : Prop :=
  ∃ (f : Addr) (fd : FuncData), FnOkG P w K mg base k f fd ps sp ∧ mg x = some (.ref f) ∧ PySem.W.keepIn K (.ref f) = true ∧ Binds K fd ps []
section
variable {P : Program} {w : World} {K : Frag} {mg : Str → Option Value} {base : Heap} {x : Str} {k : Nat} {N ps : List Str} {sp : Sp} {st : Stmt}
theorem CalG.of (D : Def K mg x st) (S : FnScope N ps (defScope st))
    (bd : ∀ (kV doc pm : Value) (an : Option Addr) (cdv ct : Value) (us : List Value), us.length = ps.length → bindArgs (PySem.W.fnOf x x (defArgs st) (defBody st) (defScope st) .none kV doc pm an cdv ct) ⟨us, []⟩ = pure (ps.zip us))
    (len : ∀ vs H Q E, sp vs H Q E → vs.length = ps.length)
    (body : ∀ (f : Addr) (cdv : Value) (A : Around) (outer : List Env) (s : Shared) (H : Hp) (vs : List V) (Q : VK) (E : XK), A.guards = some [] → Room k (A.deeper (envOfC x (defScope st) s.heap.objs.size f cdv)) → sp vs H Q E →
      ∃ t, PSs (cxOf CX0 P w K mg base N x (defScope st) f cdv A outer s H E).nox (defBody st) t ∧ t { nx := fun _ H' => Q .non H', rt := Q } (start N vs) H) : CalG P w K mg base x (k + 1) ps sp := by
  obtain ⟨f, fd, F, hm⟩ := D
  have hb := F.binds bd
  obtain ⟨oc, od, kV, doc, pm, an, cdv, ct, osl, rfl, lk, hcd⟩ := F.ex
  refine ⟨f, _, ⟨len, fun A outer s H args us vs Q E hg hr e0 ha r h => ?_⟩, hm, F.kp, hb⟩
  refine LamX.run_ofS lk hcd S hr e0 ha r (len _ _ _ _ h) fun hr' => ?_
  obtain ⟨t, h1, h2⟩ := body f cdv A outer s H vs Q E hg hr' h
  exact ⟨t, h1.nox, h2⟩
end
section
variable {X : Cx} {x : Str} {k : Nat} {ps : List Str} {sp : Sp} {e : Expr} {es : List Expr} {t : TA} {p pos : Pos}
theorem pe_calG (hG : X.A.guards = some []) (c : CalG X.prog X.w X.K X.mg X.base x k ps sp) (hr : Room k X.A) (hg : Gl X x) (ha : PA X (e :: es) t) (hdb : (x == ("__debug__" : Str)) = false := by decide)
    (he : starEach (e :: es) X.env = (false, eval e X.env) :: starEach es X.env := by rfl) (hpl : (backTo pos (starEach es X.env)).any (·.1) = false := by rfl) :
    PE X (.Call (.Name x p) (e :: es) [] pos) (tCall sp [] E0 t) := by
  obtain ⟨f, fd, F, hm, hk, hb⟩ := c
  refine ⟨fun pins s σ H Q I h => ?_⟩
  refine wpAny_Call_Name_kw (ld_glob I hg hm ?_ hdb)
  refine PySem.W.callWith_K (h₀ := X.base) I.ok.mod.kin hk (thn (ha.run pos pins s σ H _ I h) fun us s1 ⟨vs, H1, I1, r, q⟩ => ⟨I1.kIn, ?_⟩) he hpl
  have q : sp (vs ++ []) H1 Q E0 := q
  rw [List.append_nil] at q
  have hlen : us.length = ps.length := by
    rw [← r.length]
    exact F.len _ _ _ _ q
  have hb' := hb s1 us I1.kIn (by rw [List.append_nil]; exact hlen)
  rw [List.append_nil] at hb'
  refine wpAny_call (codeAny_mono (F.run X.A X.stack s1 H1 ⟨us, []⟩ us vs Q E0 hG hr I1.env0 hb' r q) fun r' s' hq => ?_)
  cases r' with
  | error e => exact pass0 pins σ H1 s1 e s' I1 hq
  | ok fl =>
    cases fl with
    | ret u => exact I1.after hq
    | next => exact False.elim hq
    | brk => exact False.elim hq
    | cont => exact False.elim hq
end
/-- a fault as data -/
def faultD (f : Fault) : PyData := .tuple [.str f.1, .str f.2.1, .str f.2.2]
theorem nm_signs {n : Str} (h : NmOk n) : ∀ c ∈ n.cps.toList, c < 16 ^ 8 := by
  have h2 := h.2
  unfold PyData.strOk at h2
  rw [← Array.all_toList, List.all_eq_true] at h2
  intro c hc
  have h3 := of_decide_eq_true (h2 c hc)
  exact Nat.lt_of_lt_of_le h3 (by decide)
theorem nm_repr {n : Str} (h : NmOk n) : (reprText n).length ≤ 302 := by
  have h1 := StrLaws.reprText_len n (nm_signs h)
  have h2 := h.1
  omega
theorem faultD_facts {f : Fault} (h : FaultOk f) : (faultD f).showable = true ∧ (faultD f).hasDict = false ∧ (faultD f).depth ≤ 20 ∧ (faultD f).shown.length ≤ sizeLine := by
  refine ⟨by simp [faultD, PyData.showable, PyData.showableAll], by simp [faultD, PyData.hasDict, PyData.hasDictAll], by simp [faultD, PyData.depth, PyData.depthAll], ?_⟩
  obtain ⟨h1, h2, h3⟩ := h
  have r1 := nm_repr h1
  have r2 := nm_repr h2
  have r3 := nm_repr h3
  have e : (faultD f).shown = tupleText [reprText f.1, reprText f.2.1, reprText f.2.2] := by simp [faultD, PyData.shown, PyData.shownAll]
  have e2 := join_length_add [reprText f.1, reprText f.2.1, reprText f.2.2] (by simp)
  have e3 : piled [reprText f.1, reprText f.2.1, reprText f.2.2] = (reprText f.1).length + 2 + ((reprText f.2.1).length + 2 + ((reprText f.2.2).length + 2 + 0)) := by rw [piled_cons, piled_cons, piled_cons, piled_nil]
  have e4 : (("(" : Str)).length = 1 := rfl
  have e5 : ((")" : Str)).length = 1 := rfl
  refine Nat.le_of_lt (small1000 ?_)
  rw [e]
  unfold tupleText
  rw [if_neg (by simp), strLen_append, strLen_append, e4, e5]
  omega
section
variable {P : Program} {w : World} {K : Frag} {mg : Str → Option Value} {base : Heap} {O CR CN : Addr}
/-- two faults, the same -/
def spAlike (K : Frag) : Sp := fun vs H Q _ => ∃ (x y : V) (o : Option Fault), vs = [x, y] ∧ Opt (FaultAt K H) x o ∧ Opt (FaultAt K H) y o ∧ (∀ f, o = some f → FaultOk f) ∧ Q (.bl true) H
theorem ok_law_alike (T : Txt K mg O CR CN) : CalG P w K mg base "_law_alike" 1 ["_law_one", "_law_two"] (spAlike K) := by
  refine CalG.of T.d_law_alike sc__law_alike (fun _ _ _ _ _ _ us hl => match us, hl with | [_, _], _ => rfl) (fun vs H Q E h => ?_) (fun f cdv A outer s H vs Q E hg hr h => ?_)
  · obtain ⟨x, y, o, rfl, _⟩ := h
    rfl
  obtain ⟨x, y, o, rfl, hx, hy, ho, q⟩ := h
  have hg : (A.deeper (envOfC "_law_alike" (defScope s__law_alike) s.heap.objs.size f cdv)).guards = some [] := hg
  refine ⟨_, (pss_one (ps_ret (pe_cmpR op_eq (pe_callB (call_reprG hg hr.units) rfl T.zrepr (by decide +kernel) (pa_cons (pv 0) pa_nil)) (pe_callB (call_reprG hg hr.units) rfl T.zrepr (by decide +kernel) (pa_cons (pv 1) pa_nil)) (nomark _)))), ?_⟩
  cases o with
  | none =>
    obtain rfl : x = .non := hx
    obtain rfl : y = .non := hy
    refine ⟨_, rfl, .inl ⟨rfl, _, rfl, .inl ⟨rfl, rfl, ?_⟩⟩⟩
    rw [decide_eq_true rfl]
    exact q
  | some f =>
    obtain ⟨a, rfl, ha⟩ := hx
    obtain ⟨a2, rfl, ha2⟩ := hy
    obtain ⟨h1, h2, h3, h4⟩ := faultD_facts (ho f rfl)
    refine ⟨_, rfl, .inr ⟨a, faultD f, rfl, .tup ha (.cons (.str _) (.cons (.str _) (.cons (.str _) .nil))), h1, h2, h3, h4, _, rfl, .inr ⟨a2, faultD f, rfl, .tup ha2 (.cons (.str _) (.cons (.str _) (.cons (.str _) .nil))), h1, h2, h3, h4, rfl, ?_⟩⟩⟩
    rw [decide_eq_true rfl]
    exact q
end
end K6
/-! law. -/
namespace K6
open PySem PySem.Spec PyProof.Rows L2 Evl

theorem slA {K : Frag} {H : Hp} {a : Addr} {xs : List V} {lo hi : Option Int} {Q : VK} (h : SqT K H a xs) (k : ∀ p H', Ex H H' → SqT K H' p (cutV xs lo hi) → Q (.ref p) H') : rSlA K (.ref a) lo hi H Q := by
  refine ⟨a, xs, rfl, h, fun z => k a H (Ex.refl _) ?_, fun _ p np => k p _ (Ex.new np) (SqT.of upd_same)⟩
  have e : cutV xs lo hi = xs := by
    unfold cutV
    rw [z.1, z.2, List.drop_zero, Nat.sub_zero, List.take_length]
  rw [e]
  exact h
theorem catA {K : Frag} {H : Hp} {a b : Addr} {xs ys : List V} {Q : VK} (ha : SqT K H a xs) (hb : SqT K H b ys) (hl : xs.length + ys.length ≤ 1000) (k : ∀ p H', Ex H H' → SqT K H' p (xs ++ ys) → Q (.ref p) H') : rCatA K (.ref a) (.ref b) H Q := by
  refine ⟨a, b, xs, ys, rfl, rfl, ha, hb, Nat.le_of_lt (small1000 hl), fun z => k b H (Ex.refl _) ?_, fun _ z => k a H (Ex.refl _) ?_, fun _ _ p np => k p _ (Ex.new np) (SqT.of upd_same)⟩
  · rw [z]
    exact hb
  · rw [z, List.append_nil]
    exact ha
theorem BoxAt.extN {H H' : Hp} {b : Addr} (e : LamX.ExtN H H') (h : BoxAt H b) : BoxAt H' b := by
  obtain ⟨d, ds, n, h1, h2, h3⟩ := h
  exact ⟨d, ds, n, e _ _ h1 fun ps z => (by cases z), h2, e _ _ h3 fun ps z => (by cases z)⟩
theorem Tups.extN {K : Frag} {H H' : Hp} (e : LamX.ExtN H H') : Tups K H H' := fun a xs hs => by
  rcases hs with (hs | ⟨o, hs⟩) | hs
  · exact .inl (.inl (e _ _ hs fun ps z => (by cases z)))
  · exact .inl (.inr ⟨o, e _ _ hs fun ps z => (by cases z)⟩)
  · exact .inr hs
theorem tabs_same {T : List (Addr × Str)} {H H' : Hp} {b : Addr} {o : HO} (hb : H b = some o) (n1 : ∀ ps, o ≠ .tbl ps) (n2 : ∀ φ, o ≠ .ext φ) (k : ∀ a u, a ≠ b → H a = some u → H' a = some u) (h : LamX.Tabs T H) : LamX.Tabs T H' := fun p hp => by
  obtain ⟨ps, h1, h2, h3⟩ := h p hp
  refine ⟨ps, k _ _ (fun z => ?_) h1, h2, fun pos cv hc => ?_⟩
  · rw [z, hb] at h1
    exact n1 ps (Option.some.inj h1)
  · obtain ⟨c, e1, e2⟩ := h3 pos cv hc
    refine ⟨c, e1, k _ _ (fun z => ?_) e2⟩
    rw [z, hb] at e2
    exact n2 _ (Option.some.inj e2)
theorem tabs_gr {T : List (Addr × Str)} {H H' : Hp} {b : Addr} (hB : BoxAt H b) (g : Gr b H H') (h : LamX.Tabs T H) : LamX.Tabs T H' := by
  obtain ⟨d, ds, n, h1, _⟩ := hB
  exact tabs_same h1 (fun ps z => (by cases z)) (fun φ z => (by cases z)) g.same h
/-- the modules while the law spoils them: those of seen may have a wrong line -/
def WPre (os : List Str) (ms : Mods) (seen : List Str) : Prop := ∀ n ls, ms n = some ls → n ∈ os ∧ ls.length ≤ 41 ∧ ∃ (bs : List Line) (wl : Option Line), (∀ l ∈ bs, GoodL os n l) ∧ (∀ l, wl = some l → WrongOk n l) ∧ (∀ l ∈ ls, l ∈ bs ∨ wl = some l) ∧ (n ∉ seen → ls.length ≤ 20 ∧ wl = none)
theorem wpre_of {os : List Str} {ms : Mods} (h : MsPre os ms) : WPre os ms [] := fun n ls e => by
  obtain ⟨h1, h2, h3⟩ := h n ls e
  exact ⟨h1, by omega, ls, none, h3, fun l z => (by cases z), fun l hl => .inl hl, fun _ => ⟨h2, rfl⟩⟩
theorem wpre_more {os : List Str} {ms : Mods} {seen seen' : List Str} (h : WPre os ms seen) (hs : ∀ x ∈ seen, x ∈ seen') : WPre os ms seen' := fun n ls e => by
  obtain ⟨h1, h2, bs, wl, h3, h4, h5, h6⟩ := h n ls e
  exact ⟨h1, h2, bs, wl, h3, h4, h5, fun z => h6 fun y => z (hs n y)⟩
theorem wpre_ok {os : List Str} {ms : Mods} {seen : List Str} (h : WPre os ms seen) (ho : ∀ x ∈ os, x ∈ abc) (hS : ∀ n ∈ os, (ms n).isSome = true) : MsOk ms := fun n ls e => by
  obtain ⟨h1, h2, bs, wl, h3, h4, h5, _⟩ := h n ls e
  exact modOk (ho n h1) ho hS h1 h3 h4 h5 (by omega)
theorem wpre_dom {os : List Str} {ms : Mods} {seen : List Str} (h : WPre os ms seen) (hl : os.length ≤ 3) (hS : ∀ n ∈ os, (ms n).isSome = true) : DomOk ms os := by
  refine ⟨hl, hS, fun x hx ls e ex ps t ht => ?_⟩
  obtain ⟨h1, h2, bs, wl, h3, h4, h5, _⟩ := h x ls e
  rcases h5 _ ht with z | z
  · rcases h3 _ z with ⟨o, ps', e', ho, _⟩ | ⟨k, n, t, e', _⟩ | ⟨n, ps, t, e', _⟩ | ⟨k, t, e', _⟩ <;> cases e'
    exact ho
  · rcases h4 _ z with ⟨k, t, e', _⟩ | ⟨k, t, e', _⟩ | e' | e' | ⟨ps, t, e', _⟩ <;> cases e' <;> exact hx
section
variable {P : Program} {w : World} {K : Frag} {mg : Str → Option Value} {base : Heap} {O CR CN : Addr}
/-- the script -/
def spLaw (K : Frag) (T : List (Addr × Str)) : Sp := fun vs H Q _ => ∃ (a : Addr) (ns : List Int), vs = [.ref a] ∧ SqL K H a (ns.map V.int) ∧ LamX.Tabs T H ∧ ∀ H', Q (.bl true) H'
theorem ok_law (T : Txt K mg O CR CN) {c0 Pt : Addr} (DC : DefC K mg "reach" s_reach c0) (TB : LamX.TabB base mg c0 Pt) : CalG P w K mg base "law" 16 ["_law_script"] (spLaw K [(Pt, lamQ)]) := by
  have C_law_digits := ok_law_digits (P := P) (w := w) (base := base) T
  have C_law_draw := ok_law_draw (P := P) (w := w) (base := base) T
  have C_law_modules := ok_law_modules (P := P) (w := w) (base := base) T
  have C_law_wrong_line := ok_law_wrong_line (P := P) (w := w) (base := base) T
  have C_reach := ok_reach (P := P) (w := w) (base := base) T DC TB
  have C_check_names := ok_check_names (P := P) (w := w) (base := base) T
  have C_law_names_fault := ok_law_names_fault (P := P) (w := w) (base := base) T
  have C_law_alike := ok_law_alike (P := P) (w := w) (base := base) T
  refine CalG.of T.d_law sc_law (fun _ _ _ _ _ _ us hl => match us, hl with | [_], _ => rfl) (fun vs H Q E h => ?_) (fun f cdv A outer s H vs Q E hg hr h => ?_)
  · obtain ⟨a, ns, rfl, _⟩ := h
    rfl
  obtain ⟨a, ns, rfl, hS, hT, q⟩ := h
  have hg : (A.deeper (envOfC "law" (defScope s_law) s.heap.objs.size f cdv)).guards = some [] := hg
  refine ⟨_, (pss_cons (ps_set (i := 1) sc_law.nd rfl (Or.inl rfl) (pe_lst (pa_cons (pe_cal C_law_digits (hr.mono (by omega)) rfl (pa_cons (pv 0) (pa_cons (pe_int) (pa_cons (pe_int) pa_nil)))) (pa_cons (pe_int) pa_nil))))
    (pss_cons (ps_for PassesOwn.never rfl (pi_range1 rfl T.zrange (pa_cons (pe_int) pa_nil)) (pg_name (i := 2) sc_law.nd rfl (Or.inl rfl)) (pss_cons (ps_set (i := 3) sc_law.nd rfl (Or.inl rfl) (pe_slice sl_list (pe_lst (pa_cons (pe_str) (pa_cons (pe_str) (pa_cons (pe_str) pa_nil)))) po_none (po_some (pe_op op_add (pe_int) (pe_cal C_law_draw (hr.mono (by omega)) rfl (pa_cons (pv 1) (pa_cons (pe_int) pa_nil)))))))
    (pss_cons (ps_set (i := 4) sc_law.nd rfl (Or.inl rfl) (pe_cal C_law_modules (hr.mono (by omega)) rfl (pa_cons (pv 1) (pa_cons (pv 3) pa_nil))))
    (pss_cons (ps_for PassesOwn.never rfl (pi_list (pv 3)) (pg_name (i := 5) sc_law.nd rfl (Or.inl rfl)) (pss_one (ps_if (pt_cmpR op_eq (pe_cal C_law_draw (hr.mono (by omega)) rfl (pa_cons (pv 1) (pa_cons (pe_int) pa_nil))) (pe_int) (nomark _)) (pss_cons (ps_set (i := 7) sc_law.nd rfl (Or.inl rfl) (pe_dget (hu_of hr) (pv 4) (pv 5) (fun _ _ => rfl)))
    (pss_cons (ps_set (i := 8) sc_law.nd rfl (Or.inl rfl) (pe_cal C_law_draw (hr.mono (by omega)) rfl (pa_cons (pv 1) (pa_cons (pe_op op_add (pe_callB call_len_seq rfl T.zlen PySem.boot_len (pa_cons (pv 7) pa_nil)) (pe_int)) pa_nil))))
    (pss_one (ps_dput (hu_of hr) (pv 4) (pv 5) (pe_op op_catA (pe_op op_catA (pe_slice sl_tupA (pv 7) po_none (po_some (pv 8))) (pe_tup (pa_cons (pe_cal C_law_wrong_line (hr.mono (by omega)) rfl (pa_cons (pv 1) (pa_cons (pv 5) pa_nil))) pa_nil))) (pe_slice sl_tupA (pv 7) (po_some (pv 8)) po_none)) rfl)))) pss_nil)))
    (pss_cons (ps_set (i := 6) sc_law.nd rfl (Or.inl rfl) (pe_cal C_reach (hr.mono (by omega)) rfl (pa_cons (pv 4) (pa_cons (pe_callTy call_tuple_of rfl T.ztuple (by decide +kernel) (pa_cons (pv 3) pa_nil)) pa_nil))))
    (pss_cons (ps_if (pt_cmpR op_ne (pe_ix ix_tup (pv 6) (pe_int) (fun _ _ => rfl)) (pe_str) (nomark _)) (pss_one (ps_ret (pe_bl))) pss_nil)
    (pss_one (ps_if (pt_not (pt_val (pe_calG hg C_law_alike (hr.mono (by omega)) rfl (pa_cons (pe_cal C_check_names (hr.mono (by omega)) rfl (pa_cons (pv 4) (pa_cons (pe_ix ix_tup (pv 6) (pe_int) (fun _ _ => rfl)) pa_nil))) (pa_cons (pe_cal C_law_names_fault (hr.mono (by omega)) rfl (pa_cons (pv 4) (pa_cons (pe_ix ix_tup (pv 6) (pe_int) (fun _ _ => rfl)) pa_nil))) pa_nil))))) (pss_one (ps_ret (pe_bl))) pss_nil))))))))
    (pss_one (ps_ret (pe_bl))))), ?_⟩
  -- box
  refine ⟨_, rfl, a, ns, rfl, hS, fun D0 ds H1 e1 nD0 hD0 => ⟨two_le, fun b nb => ?_⟩⟩
  have i1 := Ex.new (o := .lst [.ref D0, .int 0]) nb
  have hB : BoxAt (upd H1 b (.lst [.ref D0, .int 0])) b := ⟨D0, ds, 0, upd_same, Int.le_refl _, i1 _ _ hD0⟩
  have hT1 := hT.ext (e1.trans i1)
  generalize upd H1 b (.lst [.ref D0, .int 0]) = H2 at *
  refine ⟨5, rfl, by decide, by decide, for_range (n := 5) (fun i σ H' => BoxAt H' b ∧ LamX.Tabs [(Pt, lamQ)] H' ∧ ∃ (o2 o3 o4 o5 o6 o7 o8 : Option V), σ = [some (.ref a), some (.ref b), o2, o3, o4, o5, o6, o7, o8])
    ⟨hB, hT1, _, _, _, _, _, _, _, rfl⟩ ?_ (fun σ H3 _ => q H3)⟩
  rintro i σ H3 hi ⟨hB3, hT3, o2, o3, o4, o5, o6, o7, o8, rfl⟩
  -- names
  refine ⟨three_le, fun z nz => ?_⟩
  have iz := Ex.new (o := .lst [.str "a", .str "b", .str "c"]) nz
  refine ⟨_, rfl, b, 2, rfl, hB3.ex iz, by decide, fun r H4 r0 r1 g4 => ?_⟩
  have hz := g4.same z _ (fun y => hB3.some (by rw [← y]; exact nz)) upd_same
  refine ⟨_, _, rfl, rfl, _, rfl, z, _, rfl, SqL.of hz, fun nL nnL => ?_⟩
  have iL := Ex.new (o := .lst (cutV [.str "a", .str "b", .str "c"] none (some (2 + r)))) nnL
  obtain ⟨os, eos, habc, hos, hnd⟩ : ∃ os : List Str, cutV [.str "a", .str "b", .str "c"] none (some (2 + r)) = os.map V.str ∧ (∀ x ∈ os, x ∈ abc) ∧ os.length ≤ 3 ∧ os.Nodup := by
    rcases (by omega : r = 0 ∨ r = 1) with rfl | rfl
    · exact ⟨["a", "b"], rfl, by decide +kernel, by decide, by decide +kernel⟩
    · exact ⟨["a", "b", "c"], rfl, by decide +kernel, by decide, by decide +kernel⟩
  have hL : (upd H4 nL (.lst (cutV [.str "a", .str "b", .str "c"] none (some (2 + r))))) nL = some (.lst (os.map V.str)) := by rw [upd_same, eos]
  have gN : Gr b H3 (upd H4 nL (.lst (cutV [.str "a", .str "b", .str "c"] none (some (2 + r))))) := ((Gr.ex hB3 iz).trans g4).thn iL
  have hTN := tabs_gr hB3 gN hT3
  have hBN := gN.box
  generalize upd H4 nL (.lst (cutV [.str "a", .str "b", .str "c"] none (some (2 + r)))) = HN at *
  -- modules
  refine ⟨_, rfl, _, rfl, b, nL, os, rfl, hBN, hL, habc, hos, fun D ms0 H5 g5 nD hD5 hM5 hS5 => ?_⟩
  have nDb : D ≠ b := fun y => hBN.some (by rw [← y]; exact nD)
  -- for name in names
  refine ⟨_, rfl, nL, rfl, ⟨_, SqL.of (g5.strs hBN hL)⟩, for_list (K := K) (a := nL) (xs := os.map V.str) (fun j σ H' => Gr b HN H' ∧ ∃ (ms : Mods) (o2 o5 o6 o7 o8 : Option V), σ = [some (.ref a), some (.ref b), o2, some (.ref nL), some (.ref D), o5, o6, o7, o8] ∧ DictAt K H' D ms (3 + j) ∧ WPre os ms (os.take j) ∧ j ≤ os.length ∧ ∀ n ∈ os, (ms n).isSome = true)
    ⟨g5, ms0, _, _, _, _, _, rfl, hD5, wpre_more (wpre_of hM5) fun x hx => absurd hx List.not_mem_nil, Nat.zero_le _, hS5⟩ (fun j σ H' _ y => SqL.of (y.1.strs hBN hL)) ?_ ?_⟩
  · rintro j y σ H6 hj ⟨g6, ms, o2, o5, o6, o7, o8, rfl, hD6, hW, hjl, hS6⟩
    have hj' := hj
    rw [List.getElem?_map] at hj'
    cases hn : os[j]? with
    | none => rw [hn] at hj'; cases hj'
    | some n =>
      rw [hn] at hj'
      cases hj'
      have hjo : j < os.length := (List.getElem?_eq_some_iff.mp hn).1
      have hno := List.mem_of_getElem? hn
      have hnew : n ∉ os.take j := fun hm => by
        obtain ⟨k, hk⟩ := List.mem_iff_getElem?.mp hm
        rw [List.getElem?_take] at hk
        split at hk
        · rename_i hkj
          have hk2 := (List.getElem?_eq_some_iff.mp hk).2
          have hj2 := (List.getElem?_eq_some_iff.mp hn).2
          have := (List.getElem_inj hnd).mp (hk2.trans hj2.symm)
          omega
        · cases hk
      have hsub : ∀ x ∈ os.take j, x ∈ os.take (j + 1) := fun x hx => by
        rw [List.take_add_one]
        exact List.mem_append_left _ hx
      -- draw(box, 3) == 0
      refine ⟨_, rfl, b, 3, rfl, g6.box, by decide, fun r3 H7 _ _ g7 => ⟨rfl, _, rfl, ?_⟩⟩
      have hD7 := hD6.gr g6.box g7
      have g67 := g6.trans g7
      refine ite2 (fun _ => ?_) (fun _ => ?_)
      · obtain ⟨kvs, hk1, hk2, tl⟩ := id hD7
        obtain ⟨ls, v, hms, hv, ta, us, rfl, hta, hA⟩ : ∃ ls v, ms n = some ls ∧ valV kvs (Sum.inr n : Key) = some v ∧ ModAt K H7 v ls := by
          rcases tl n with ⟨y, _⟩ | y
          · have := hS6 n hno
            rw [y] at this
            cases this
          · exact y
        obtain ⟨_, _, bs, wl, w1, w2, w3, w4⟩ := hW n ls hms
        obtain ⟨w5, rfl⟩ := w4 hnew
        have hul := hA.len
        -- lines = modules[name]
        refine ⟨_, rfl, _, rfl, D, .ref ta, rfl, by rw [← hv]; exact DGet.k (k := Sum.inr n) hk1, ?_⟩
        -- at
        refine ⟨_, rfl, _, rfl, ta, _, rfl, .inr hta, _, _, rfl, rfl, b, _, rfl, g7.box, by omega, fun at_ H8 _ _ g8 => ?_⟩
        have hta8 := g8.tups g7.box _ _ hta
        have hA8 := hA.imp fun _ _ z => z.on (g8.tups g7.box)
        -- lines[:at] + (wrong_line,) + lines[at:]
        refine ⟨_, rfl, _, rfl, _, rfl, slA hta8 fun p1 H9 e9 h9 => ?_⟩
        refine ⟨_, rfl, _, rfl, b, n, rfl, g8.box.ex e9, habc n hno, fun vl l HA gA hvl hwl => ⟨one_le, fun p2 n2 => ?_⟩⟩
        have e10 := Ex.new (o := .tup [vl]) n2
        have gB := (Gr.ex g8.box e9).trans (gA.thn e10)
        have c1 := cutV_length us none (some at_)
        have c2 := cutV_length us (some at_) none
        refine catA (Tups.ex e10 _ _ (gA.tups (g8.box.ex e9) _ _ h9)) (SqT.of upd_same) (by show (cutV us none (some at_)).length + 1 ≤ 1000; omega) fun p3 HC eC hC => ?_
        refine ⟨_, rfl, _, rfl, _, rfl, ?_⟩
        dsimp only [tNoPart]
        refine slA (Tups.ex eC _ _ (gB.tups g8.box _ _ hta8)) fun p4 HD eD hD => ?_
        refine catA (Tups.ex eD _ _ hC) hD (by rw [List.length_append]; show (cutV us none (some at_)).length + 1 + _ ≤ 1000; omega) fun p5 HE eE hE => ?_
        have gE := (gB.thn eC).thn (eD.trans eE)
        have g7E := g8.trans gE
        have tE := gE.tups (K := K) g8.box
        obtain ⟨d1, hd1, m1, l1⟩ := cut_all hA8 none (some at_)
        obtain ⟨d2, hd2, m2, l2⟩ := cut_all hA8 (some at_) none
        have hmod : ModAt K HE (.ref p5) (d1 ++ [l] ++ d2) := ⟨p5, _, rfl, hE, All2.append (All2.append (hd1.imp fun _ _ z => z.on tE) ⟨hvl.on (Tups.ex (e10.trans (eC.trans (eD.trans eE)))), True.intro⟩) (hd2.imp fun _ _ z => z.on tE)⟩
        obtain ⟨kv2, k1, k2, k3, _⟩ := (hD7.gr g7.box g7E).put (by omega) (n := n) hmod
        refine ⟨_, rfl, _, rfl, D, _, rfl, DPut.k (k := Sum.inr n) k1 k2, ?_⟩
        refine ⟨Gr.mut hBN (g67.trans g7E) nD, setM ms n (d1 ++ [l] ++ d2), _, _, _, _, _, rfl, k3, fun m ls' hm => ?_, hjo, fun m hm => ?_⟩
        · unfold setM at hm
          by_cases e : m = n
          · rw [if_pos e] at hm
            cases hm
            rw [e]
            refine ⟨hno, ?_, ls, some l, fun l' hl' => ?_, fun l' e' => ?_, fun l' hl' => ?_, fun y => absurd ?_ y⟩
            · rw [List.length_append, List.length_append, List.length_singleton]
              omega
            · rcases w3 l' hl' with z | z
              · exact w1 l' z
              · cases z
            · cases e'
              exact hwl
            · rcases List.mem_append.mp hl' with z | z
              · rcases List.mem_append.mp z with z | z
                · exact .inl (m1 l' z)
                · rw [List.mem_singleton.mp z]
                  exact .inr rfl
              · exact .inl (m2 l' z)
            · rw [List.take_add_one, hn]
              exact List.mem_append_right _ (by simp)
          · rw [if_neg e] at hm
            exact wpre_more hW hsub m ls' hm
        · unfold setM
          by_cases e : m = n
          · rw [if_pos e]
            rfl
          · rw [if_neg e]
            exact hS6 m hm
      · refine ⟨g67, ms, _, _, _, _, _, rfl, ?_, wpre_more hW hsub, hjo, hS6⟩
        obtain ⟨kvs, h1, h2, h3⟩ := hD7
        exact ⟨kvs, h1, by omega, h3⟩
  · rintro σ H6 ⟨g6, ms, o2, o5, o6, o7, o8, rfl, hD6, hW, hjl, hS6⟩
    have hB6 := g6.box
    have hT6 := tabs_gr hBN g6 hTN
    obtain ⟨kvs, hk1, hk2, tl⟩ := id hD6
    have ok6 := wpre_ok hW habc hS6
    -- told = reach(modules, tuple(names))
    refine ⟨_, rfl, _, rfl, nL, _, rfl, .inl ⟨SqL.of (g6.strs hBN hL), fun en nen => ?_⟩⟩
    have e7 := Ex.new (o := .tup (os.map V.str)) nen
    refine ⟨D, en, ms, os, os, rfl, ⟨kvs, e7 _ _ hk1, tl.on (Tups.ex e7)⟩, SqT.of upd_same, fun x hx => hx, wpre_dom hW hos hS6, fun x ls e => ?_, hT6.ext e7, fun t ao ord H8 eN hT8 ht hao hsub => ?_⟩
    · have := (hW x ls e).2.1
      omega
    have hB8 := (hB6.ex e7).extN eN
    have hmods : ModsAt K H8 D ms := ⟨kvs, eN _ _ (e7 _ _ hk1) (fun ps z => by cases z), (tl.on (Tups.ex e7)).on (Tups.extN eN)⟩
    have hordS : ∀ m ∈ ord, (ms m).isSome = true := fun m hm => hS6 m (hsub m hm)
    -- told[0] != "order"
    refine ⟨_, rfl, t, _, 0, _, rfl, rfl, ht, at0, rfl, _, rfl, ?_⟩
    refine ite2 (fun z => absurd z (by rw [str_dec]; decide)) (fun _ => ?_)
    -- alike
    refine ⟨_, rfl, _, rfl, t, _, 1, _, rfl, rfl, ht, at1, D, ao, ms, ord, rfl, hmods, ok6, hao, hordS, fun v1 H9 e9 hv1 => ?_⟩
    refine ⟨_, rfl, _, rfl, t, _, 1, _, rfl, rfl, ex_t e9 ht, at1, D, ao, ms, ord, rfl, hmods.ex e9, ok6, ex_t e9 hao, hordS, fun v2 H10 e10 hv2 => ?_⟩
    refine ⟨v1, v2, namesF ms ord, rfl, hv1.imp fun _ z => z.on (Tups.ex e10), hv2, fun f e => namesF_ok ok6 e, _, rfl, ?_⟩
    refine ite2 (fun z => absurd z (by decide)) (fun _ => ?_)
    exact ⟨(hB8.ex e9).ex e10, (hT8.ext e9).ext e10, _, _, _, _, _, _, _, rfl⟩
end
end K6
/-! The end: law is called at the row's head. -/
namespace K6
open PySem PySem.Spec PyProof.Rows L2 Evl

abbrev scriptO (vs : List Value) : Obj := { cls := .type "list", data := .seq vs.toArray }
/-- what is told at the head: the table of reach, the script (where it does not stand in K) -/
def headH (K : Frag) (Pt a : Addr) (vs : List Value) (ns : List Int) : Hp := fun b => if b = Pt then some (.tbl #[]) else if b = a ∧ K.lookup a = none then some (.frz (scriptO vs) (.lst (ns.map V.int))) else none
section
variable {K : Frag} {Pt a b : Addr} {vs : List Value} {ns : List Int} {u : HO}
theorem headH_some (h : headH K Pt a vs ns b = some u) : (b = Pt ∧ u = .tbl #[]) ∨ (b = a ∧ K.lookup a = none ∧ u = .frz (scriptO vs) (.lst (ns.map V.int))) := by
  unfold headH at h
  by_cases h1 : b = Pt
  · rw [if_pos h1] at h
    exact .inl ⟨h1, (Option.some.inj h).symm⟩
  · rw [if_neg h1] at h
    by_cases h2 : b = a ∧ K.lookup a = none
    · rw [if_pos h2] at h
      exact .inr ⟨h2.1, h2.2, (Option.some.inj h).symm⟩
    · rw [if_neg h2] at h
      cases h
theorem headH_tab : headH K Pt a vs ns Pt = some (.tbl #[]) := if_pos rfl
end
theorem end_run {P q : Program} {w : World} {K : Frag} {mg mb : Str → Option Value} {loose : List Str} {mean : ExcName → Option Value} {k : Nat} {fa a c0 Pt : Addr} {x : Str} {s₁ : Shared} {vs : List Value} {ns : List Int}
    (T : Top q loose mean mg mb s₁.heap) (KX : K.In s₁.heap) (hg : s₁.gens = #[]) (C : PySem.W.CodeHd s₁.heap c0 Pt) (hP : s₁.heap.get? Pt = some ({ cls := .none, data := .fields #[] } : Obj)) (nP : K.lookup Pt = none)
    (ha : s₁.heap.get? a = some (scriptO vs)) (hi : IntsAre vs ns) (hl : ns.length ≤ sizeLine) (hr : Room k callerA)
    (F : ∀ base : Heap, LamX.TabB base mg c0 Pt → CalG P w K mg base "law" k [x] (spLaw K [(Pt, lamQ)])) (hmg : mg "law" = some (.ref fa)) :
    codeAny (model P w) callerA (.call (.ref fa) ⟨[.ref a], []⟩) (fun r s' => r = .ok (.ret (.bool true)) ∧ OldK s₁.heap s'.heap ∧ s'.os = s₁.os ∧ AllBare s'.gens) s₁ := by
  have rv := vals_ints hi
  have lenV := hi.length
  have aP : a ≠ Pt := fun z => by
    rw [z, hP] at ha
    have y := congrArg Obj.cls (Option.some.inj ha)
    cases y
  have hS : SqL K (headH K Pt a vs ns) a (ns.map V.int) := by
    cases e : K.lookup a with
    | none => exact .inl (.inr ⟨scriptO vs, by unfold headH; rw [if_neg aP, if_pos ⟨rfl, e⟩]⟩)
    | some o =>
      have e1 := KX a o e
      rw [ha] at e1
      cases e1
      exact .inr ⟨_, vs.toArray, _, e, rfl, rfl, rfl, by rw [List.size_toArray, lenV]; exact hl, by simpa using rv⟩
  have hok : HOk P w (headH K Pt a vs ns) s₁.heap := fun b u e => by
    rcases headH_some e with ⟨rfl, rfl⟩ | ⟨rfl, _, rfl⟩
    · exact hP
    · exact ⟨ha, by rw [List.length_map]; exact hl, vs, _, rv, ha⟩
  generalize hH : headH K Pt a vs ns = H at *
  have some_ : ∀ {b u}, H b = some u → (b = Pt ∧ u = .tbl #[]) ∨ (b = a ∧ K.lookup a = none ∧ u = .frz (scriptO vs) (.lst (ns.map V.int))) := fun {b u} e => headH_some (by rw [hH]; exact e)
  have tabH : H Pt = some (.tbl #[]) := by rw [← hH]; exact headH_tab
  -- an object of another kind is not told
  have free : ∀ {b : Addr} {o : Obj}, s₁.heap.get? b = some o → o.data ≠ .fields #[] → (∀ its n, o.data ≠ .seq its n) → H b = none := fun {b o} e h1 h2 => by
    cases z : H b with
    | none => rfl
    | some u =>
      rcases some_ z with ⟨rfl, _⟩ | ⟨rfl, _⟩
      · rw [hP] at e
        cases e
        exact absurd rfl h1
      · rw [ha] at e
        cases e
        exact absurd rfl (h2 _ _)
  have freeD : ∀ {b : Addr} {o : Obj} {es : Array DictEntry} {ep : Nat}, s₁.heap.get? b = some o → o.data = .dict es ep → H b = none := fun e d => free e (fun z => by rw [d] at z; cases z) fun _ _ z => by rw [d] at z; cases z
  have ns_ : ∀ {b : Addr} {m : Str → Option Value}, s₁.heap.Ns b m → (hidT s₁.heap H).Ns b m := fun {b m} ⟨o, es, ep, e, d, r⟩ => ⟨o, es, ep, hidT_get e (freeD e d), d, r⟩
  have hKb : K.In (hidT s₁.heap H) := fun b o e => hidT_get (KX b o e) (by
    cases z : H b with
    | none => rfl
    | some u =>
      rcases some_ z with ⟨rfl, _⟩ | ⟨rfl, y, _⟩
      · rw [nP] at e
        cases e
      · rw [y] at e
        cases e)
  have hM : L2.Mod K mg (hidT s₁.heap H) := ⟨hKb, ns_ T.g, ⟨mb, ns_ T.b, T.builtins⟩, let ⟨mc, h1, h2⟩ := T.nolimit; ⟨mc, ns_ h1, h2⟩⟩
  have TB : LamX.TabB (hidT s₁.heap H) mg c0 Pt := by
    refine ⟨?_, ?_, ?_⟩
    · obtain ⟨o, us, f1, f2, f3, f4, f5, f6, f7, e1, e2, e3, e4, er⟩ := C
      exact ⟨o, us, f1, f2, f3, f4, f5, f6, f7, hidT_get e1 (free e1 (fun z => by rw [e3] at z; cases z; cases e4) fun _ _ z => by rw [e3] at z; cases z), e2, e3, e4, er⟩
    · obtain ⟨bm, ob, b1, b2, b3, b4, b5, b6⟩ := T.bmain
      refine ⟨bm, ob, b1, b2, fun z => ?_, fun z => ?_, hidT_get b3 (free b3 (fun z => by rw [b6] at z; cases z) fun _ _ z => by rw [b6] at z; cases z), b4, b5, b6⟩
      · obtain ⟨o, es, ep, e, d, _⟩ := T.g
        rw [z, e] at b3
        cases b3
        rw [d] at b6
        cases b6
      · rw [z, hP] at b3
        cases b3
        cases b6
    · intro z
      obtain ⟨o, es, ep, e, d, _⟩ := T.g
      rw [z, hP] at e
      cases e
      cases d
  have e0 : Env0 P w K mg (hidT s₁.heap H) callerA [] s₁ H := ⟨rfl, hM, fun b o e => of_hidT e, Nat.le_of_eq (hidT_size _ _), trivial, fun b hb => absurd (show b ∈ ([] : List Addr) from hb) List.not_mem_nil, hok, .of_eq hg⟩
  have hT : LamX.Tabs [(Pt, lamQ)] H := fun p hp => by
    rw [List.mem_singleton.mp hp]
    exact .nil tabH
  obtain ⟨fa', fd, Fg, hm', _, hb⟩ := F _ TB
  rw [hmg] at hm'
  cases hm'
  have hbind := hb s₁ [.ref a] KX rfl
  have run := Fg.run callerA [] s₁ H ⟨[.ref a], []⟩ [.ref a] [.ref a] (fun v _ => v = .bl true) E0 rfl hr e0 hbind (.cons rfl .nil) ⟨a, ns, rfl, hS, hT, fun _ => rfl⟩
  refine codeAny_mono run fun r s' h => ?_
  match r, h with
  | .error e, h => exact False.elim h
  | .ok .next, h => exact False.elim h
  | .ok .brk, h => exact False.elim h
  | .ok .cont, h => exact False.elim h
  | .ok (.ret u), h =>
    obtain ⟨v, H', os, bare, un, hok', r', rfl⟩ := h
    obtain rfl : u = Value.bool true := r'
    obtain ⟨more, hmore⟩ := un.tbls Pt #[] tabH
    have hP' := hok' Pt _ hmore
    have kept : ∀ b o, b ≠ Pt → s₁.heap.get? b = some o → s'.heap.get? b = some o := fun b o nb e => by
      cases z : H b with
      | none => exact un.keep b o e z (fun y => absurd (show b ∈ ([] : List Addr) from y) List.not_mem_nil) List.not_mem_nil
      | some u =>
        rcases some_ z with ⟨y, _⟩ | ⟨rfl, _, rfl⟩
        · exact absurd y nb
        · have z2 := (hok' b _ (un.frzs b _ _ z)).1
          rw [ha] at e
          cases e
          exact z2
    refine ⟨rfl, ⟨fun b o e => ?_, fun b o e => ?_⟩, os, bare⟩
    · by_cases hb : b = Pt
      · rw [hb, hP] at e
        cases e
        rw [hb]
        exact .inr (.inl ⟨(C.tab hP).isCodeTable, rfl, #[], more, rfl, by rw [Array.empty_append]; rw [Array.empty_append] at hP'; exact hP'⟩)
      · exact .inl (kept b o hb e)
    · by_cases hb : b = Pt
      · rw [hb]
        exact ⟨_, hP'⟩
      · exact ⟨o, kept b o hb e⟩
end K6
/-! What the top has written; the walk of the row. -/
namespace K6
open PySem PySem.Spec PyProof.Rows L2 Evl

/-- what is wanted of the written part K -/
def AllIs (K : Frag) (mg : Str → Option Value) : Prop := ∃ O CR CN c0 Pt : Addr, Txt K mg O CR CN ∧ DefC K mg "reach" s_reach c0 ∧ PySem.W.tabIn K "reach" = some (c0, Pt) ∧ K.lookup Pt = none
theorem all_mk {K : Frag} {h : Heap} {mg : Str → Option Value} (X : K.In h) (G : h.Ns mainGlobals mg)
    {O CR CN cRe Pt : Addr}
    {t1 t2 t3 : Tok}
    {odO : Option Addr} {nO : Nat} {slO : Array (Option Value)}
    {ocC : Value} {odC : Option Addr} {vsC : Array Value} {slC : Array (Option Value)}
    {tkNUMBER : Tok}
    {tkSTRING : Tok}
    {tkNAME : Tok}
    {tkCALL : Tok}
    {tkSET : Tok}
    {tkIMPORT : Tok}
    {tkEXPORT : Tok}
    {tkFN : Tok}
    {f0 : Addr} {oc0 kV0 dc0 pm0 cd0 ct0 : Value} {od0 an0 : Option Addr} {sl0 : Array (Option Value)}
    {f1 : Addr} {oc1 kV1 dc1 pm1 cd1 ct1 : Value} {od1 an1 : Option Addr} {sl1 : Array (Option Value)}
    {f2 : Addr} {oc2 kV2 dc2 pm2 cd2 ct2 : Value} {od2 an2 : Option Addr} {sl2 : Array (Option Value)}
    {f3 : Addr} {oc3 kV3 dc3 pm3 cd3 ct3 : Value} {od3 an3 : Option Addr} {sl3 : Array (Option Value)}
    {f4 : Addr} {oc4 kV4 dc4 pm4 cd4 ct4 : Value} {od4 an4 : Option Addr} {sl4 : Array (Option Value)}
    {f5 : Addr} {oc5 kV5 dc5 pm5 ct5 : Value} {od5 an5 : Option Addr} {sl5 : Array (Option Value)}
    {f6 : Addr} {oc6 kV6 dc6 pm6 cd6 ct6 : Value} {od6 an6 : Option Addr} {sl6 : Array (Option Value)}
    {f7 : Addr} {oc7 kV7 dc7 pm7 cd7 ct7 : Value} {od7 an7 : Option Addr} {sl7 : Array (Option Value)}
    {f8 : Addr} {oc8 kV8 dc8 pm8 cd8 ct8 : Value} {od8 an8 : Option Addr} {sl8 : Array (Option Value)}
    {f9 : Addr} {oc9 kV9 dc9 pm9 cd9 ct9 : Value} {od9 an9 : Option Addr} {sl9 : Array (Option Value)}
    {f10 : Addr} {oc10 kV10 dc10 pm10 cd10 ct10 : Value} {od10 an10 : Option Addr} {sl10 : Array (Option Value)}
    {f11 : Addr} {oc11 kV11 dc11 pm11 cd11 ct11 : Value} {od11 an11 : Option Addr} {sl11 : Array (Option Value)}
    {f12 : Addr} {oc12 kV12 dc12 pm12 cd12 ct12 : Value} {od12 an12 : Option Addr} {sl12 : Array (Option Value)}
    {f13 : Addr} {oc13 kV13 dc13 pm13 cd13 ct13 : Value} {od13 an13 : Option Addr} {sl13 : Array (Option Value)}
    {f14 : Addr} {oc14 kV14 dc14 pm14 cd14 ct14 : Value} {od14 an14 : Option Addr} {sl14 : Array (Option Value)}
    {f15 : Addr} {oc15 kV15 dc15 pm15 cd15 ct15 : Value} {od15 an15 : Option Addr} {sl15 : Array (Option Value)}
    {f16 : Addr} {oc16 kV16 dc16 pm16 cd16 ct16 : Value} {od16 an16 : Option Addr} {sl16 : Array (Option Value)}
    {f17 : Addr} {oc17 kV17 dc17 pm17 cd17 ct17 : Value} {od17 an17 : Option Addr} {sl17 : Array (Option Value)}
    {f18 : Addr} {oc18 kV18 dc18 pm18 cd18 ct18 : Value} {od18 an18 : Option Addr} {sl18 : Array (Option Value)}
    {f19 : Addr} {oc19 kV19 dc19 pm19 cd19 ct19 : Value} {od19 an19 : Option Addr} {sl19 : Array (Option Value)}
    {f20 : Addr} {oc20 kV20 dc20 pm20 cd20 ct20 : Value} {od20 an20 : Option Addr} {sl20 : Array (Option Value)}
    {f21 : Addr} {oc21 kV21 dc21 pm21 cd21 ct21 : Value} {od21 an21 : Option Addr} {sl21 : Array (Option Value)}
    {f22 : Addr} {oc22 kV22 dc22 pm22 cd22 ct22 : Value} {od22 an22 : Option Addr} {sl22 : Array (Option Value)}
    {f23 : Addr} {oc23 kV23 dc23 pm23 cd23 ct23 : Value} {od23 an23 : Option Addr} {sl23 : Array (Option Value)}
    {f24 : Addr} {oc24 kV24 dc24 pm24 cd24 ct24 : Value} {od24 an24 : Option Addr} {sl24 : Array (Option Value)}
    {f25 : Addr} {oc25 kV25 dc25 pm25 cd25 ct25 : Value} {od25 an25 : Option Addr} {sl25 : Array (Option Value)}
    {f26 : Addr} {oc26 kV26 dc26 pm26 cd26 ct26 : Value} {od26 an26 : Option Addr} {sl26 : Array (Option Value)}
    {f27 : Addr} {oc27 kV27 dc27 pm27 cd27 ct27 : Value} {od27 an27 : Option Addr} {sl27 : Array (Option Value)}
    {f28 : Addr} {oc28 kV28 dc28 pm28 cd28 ct28 : Value} {od28 an28 : Option Addr} {sl28 : Array (Option Value)}
    {f29 : Addr} {oc29 kV29 dc29 pm29 cd29 ct29 : Value} {od29 an29 : Option Addr} {sl29 : Array (Option Value)}
    {fmR_init : Addr} {ocmR_init kVmR_init dcmR_init pmmR_init cdmR_init ctmR_init : Value} {odmR_init anmR_init : Option Addr} {slmR_init : Array (Option Value)}
    {fmR_visit : Addr} {ocmR_visit kVmR_visit dcmR_visit pmmR_visit cdmR_visit ctmR_visit : Value} {odmR_visit anmR_visit : Option Addr} {slmR_visit : Array (Option Value)}
    {fmN_init : Addr} {ocmN_init kVmN_init dcmN_init pmmN_init cdmN_init ctmN_init : Value} {odmN_init anmN_init : Option Addr} {slmN_init : Array (Option Value)}
    {fmN_fault : Addr} {ocmN_fault kVmN_fault dcmN_fault pmmN_fault cdmN_fault ctmN_fault : Value} {odmN_fault anmN_fault : Option Addr} {slmN_fault : Array (Option Value)}
    {fmN_called : Addr} {ocmN_called kVmN_called dcmN_called pmmN_called cdmN_called ctmN_called : Value} {odmN_called anmN_called : Option Addr} {slmN_called : Array (Option Value)}
    {fmN_used : Addr} {ocmN_used kVmN_used dcmN_used pmmN_used cdmN_used ctmN_used : Value} {odmN_used anmN_used : Option Addr} {slmN_used : Array (Option Value)}
    {fmN_fault_of : Addr} {ocmN_fault_of kVmN_fault_of dcmN_fault_of pmmN_fault_of cdmN_fault_of ctmN_fault_of : Value} {odmN_fault_of anmN_fault_of : Option Addr} {slmN_fault_of : Array (Option Value)}
    {fmN_fault_of_line : Addr} {ocmN_fault_of_line kVmN_fault_of_line dcmN_fault_of_line pmmN_fault_of_line cdmN_fault_of_line ctmN_fault_of_line : Value} {odmN_fault_of_line anmN_fault_of_line : Option Addr} {slmN_fault_of_line : Array (Option Value)}
    (gNUMBER : PySem.W.nsIn K mainGlobals "NUMBER" = some (some (.str "number" tkNUMBER)))
    (gSTRING : PySem.W.nsIn K mainGlobals "STRING" = some (some (.str "string" tkSTRING)))
    (gNAME : PySem.W.nsIn K mainGlobals "NAME" = some (some (.str "name" tkNAME)))
    (gCALL : PySem.W.nsIn K mainGlobals "CALL" = some (some (.str "call" tkCALL)))
    (gSET : PySem.W.nsIn K mainGlobals "SET" = some (some (.str "set" tkSET)))
    (gIMPORT : PySem.W.nsIn K mainGlobals "IMPORT" = some (some (.str "import" tkIMPORT)))
    (gEXPORT : PySem.W.nsIn K mainGlobals "EXPORT" = some (some (.str "export" tkEXPORT)))
    (gFN : PySem.W.nsIn K mainGlobals "FN" = some (some (.str "fn" tkFN)))
    (gOWN : PySem.W.nsIn K mainGlobals "OWN" = some (some (.ref O)))
    (lO : K.lookup O = some ⟨.type "tuple", odO, .seq #[.str "let" t1, .str "keep" t2, .str "fn" t3] nO, slO⟩)
    (zlen : PySem.W.nsIn K mainGlobals "len" = some none)
    (zint : PySem.W.nsIn K mainGlobals "int" = some none)
    (ztuple : PySem.W.nsIn K mainGlobals "tuple" = some none)
    (zlist : PySem.W.nsIn K mainGlobals "list" = some none)
    (zrepr : PySem.W.nsIn K mainGlobals "repr" = some none)
    (zisi : PySem.W.nsIn K mainGlobals "isinstance" = some none)
    (zrange : PySem.W.nsIn K mainGlobals "range" = some none)
    (a0 : PySem.W.nsIn K mainGlobals "_own" = some (some (.ref f0)))
    (l0 : K.lookup f0 = some ⟨oc0, od0, .func (PySem.W.fnOf "_own" "_own" (defArgs s__own) (defBody s__own) (defScope s__own) .none kV0 dc0 pm0 an0 cd0 ct0), sl0⟩)
    (c0 : PySem.W.codeIn K cd0 "_own" = true)
    (k0 : PySem.W.keepIn K (.ref f0) = true)
    (a1 : PySem.W.nsIn K mainGlobals "_other" = some (some (.ref f1)))
    (l1 : K.lookup f1 = some ⟨oc1, od1, .func (PySem.W.fnOf "_other" "_other" (defArgs s__other) (defBody s__other) (defScope s__other) .none kV1 dc1 pm1 an1 cd1 ct1), sl1⟩)
    (c1 : PySem.W.codeIn K cd1 "_other" = true)
    (k1 : PySem.W.keepIn K (.ref f1) = true)
    (a2 : PySem.W.nsIn K mainGlobals "follow" = some (some (.ref f2)))
    (l2 : K.lookup f2 = some ⟨oc2, od2, .func (PySem.W.fnOf "follow" "follow" (defArgs s_follow) (defBody s_follow) (defScope s_follow) .none kV2 dc2 pm2 an2 cd2 ct2), sl2⟩)
    (c2 : PySem.W.codeIn K cd2 "follow" = true)
    (k2 : PySem.W.keepIn K (.ref f2) = true)
    (a3 : PySem.W.nsIn K mainGlobals "available" = some (some (.ref f3)))
    (l3 : K.lookup f3 = some ⟨oc3, od3, .func (PySem.W.fnOf "available" "available" (defArgs s_available) (defBody s_available) (defScope s_available) .none kV3 dc3 pm3 an3 cd3 ct3), sl3⟩)
    (c3 : PySem.W.codeIn K cd3 "available" = true)
    (k3 : PySem.W.keepIn K (.ref f3) = true)
    (a4 : PySem.W.nsIn K mainGlobals "declaration" = some (some (.ref f4)))
    (l4 : K.lookup f4 = some ⟨oc4, od4, .func (PySem.W.fnOf "declaration" "declaration" (defArgs s_declaration) (defBody s_declaration) (defScope s_declaration) .none kV4 dc4 pm4 an4 cd4 ct4), sl4⟩)
    (c4 : PySem.W.codeIn K cd4 "declaration" = true)
    (k4 : PySem.W.keepIn K (.ref f4) = true)
    (a5 : PySem.W.nsIn K mainGlobals "reach" = some (some (.ref f5)))
    (l5 : K.lookup f5 = some ⟨oc5, od5, .func (PySem.W.fnOf "reach" "reach" (defArgs s_reach) (defBody s_reach) (defScope s_reach) .none kV5 dc5 pm5 an5 (.ref cRe) ct5), sl5⟩)
    (c5 : PySem.W.codeIn K (.ref cRe) "reach" = true)
    (k5 : PySem.W.keepIn K (.ref f5) = true)
    (a6 : PySem.W.nsIn K mainGlobals "check_names" = some (some (.ref f6)))
    (l6 : K.lookup f6 = some ⟨oc6, od6, .func (PySem.W.fnOf "check_names" "check_names" (defArgs s_check_names) (defBody s_check_names) (defScope s_check_names) .none kV6 dc6 pm6 an6 cd6 ct6), sl6⟩)
    (c6 : PySem.W.codeIn K cd6 "check_names" = true)
    (k6 : PySem.W.keepIn K (.ref f6) = true)
    (a7 : PySem.W.nsIn K mainGlobals "_law_cell" = some (some (.ref f7)))
    (l7 : K.lookup f7 = some ⟨oc7, od7, .func (PySem.W.fnOf "_law_cell" "_law_cell" (defArgs s__law_cell) (defBody s__law_cell) (defScope s__law_cell) .none kV7 dc7 pm7 an7 cd7 ct7), sl7⟩)
    (c7 : PySem.W.codeIn K cd7 "_law_cell" = true)
    (k7 : PySem.W.keepIn K (.ref f7) = true)
    (a8 : PySem.W.nsIn K mainGlobals "_law_digits" = some (some (.ref f8)))
    (l8 : K.lookup f8 = some ⟨oc8, od8, .func (PySem.W.fnOf "_law_digits" "_law_digits" (defArgs s__law_digits) (defBody s__law_digits) (defScope s__law_digits) .none kV8 dc8 pm8 an8 cd8 ct8), sl8⟩)
    (c8 : PySem.W.codeIn K cd8 "_law_digits" = true)
    (k8 : PySem.W.keepIn K (.ref f8) = true)
    (a9 : PySem.W.nsIn K mainGlobals "_law_draw" = some (some (.ref f9)))
    (l9 : K.lookup f9 = some ⟨oc9, od9, .func (PySem.W.fnOf "_law_draw" "_law_draw" (defArgs s__law_draw) (defBody s__law_draw) (defScope s__law_draw) .none kV9 dc9 pm9 an9 cd9 ct9), sl9⟩)
    (c9 : PySem.W.codeIn K cd9 "_law_draw" = true)
    (k9 : PySem.W.keepIn K (.ref f9) = true)
    (a10 : PySem.W.nsIn K mainGlobals "_law_atom" = some (some (.ref f10)))
    (l10 : K.lookup f10 = some ⟨oc10, od10, .func (PySem.W.fnOf "_law_atom" "_law_atom" (defArgs s__law_atom) (defBody s__law_atom) (defScope s__law_atom) .none kV10 dc10 pm10 an10 cd10 ct10), sl10⟩)
    (c10 : PySem.W.codeIn K cd10 "_law_atom" = true)
    (k10 : PySem.W.keepIn K (.ref f10) = true)
    (a11 : PySem.W.nsIn K mainGlobals "_law_tree" = some (some (.ref f11)))
    (l11 : K.lookup f11 = some ⟨oc11, od11, .func (PySem.W.fnOf "_law_tree" "_law_tree" (defArgs s__law_tree) (defBody s__law_tree) (defScope s__law_tree) .none kV11 dc11 pm11 an11 cd11 ct11), sl11⟩)
    (c11 : PySem.W.codeIn K cd11 "_law_tree" = true)
    (k11 : PySem.W.keepIn K (.ref f11) = true)
    (a12 : PySem.W.nsIn K mainGlobals "_law_own" = some (some (.ref f12)))
    (l12 : K.lookup f12 = some ⟨oc12, od12, .func (PySem.W.fnOf "_law_own" "_law_own" (defArgs s__law_own) (defBody s__law_own) (defScope s__law_own) .none kV12 dc12 pm12 an12 cd12 ct12), sl12⟩)
    (c12 : PySem.W.codeIn K cd12 "_law_own" = true)
    (k12 : PySem.W.keepIn K (.ref f12) = true)
    (a13 : PySem.W.nsIn K mainGlobals "_law_imports" = some (some (.ref f13)))
    (l13 : K.lookup f13 = some ⟨oc13, od13, .func (PySem.W.fnOf "_law_imports" "_law_imports" (defArgs s__law_imports) (defBody s__law_imports) (defScope s__law_imports) .none kV13 dc13 pm13 an13 cd13 ct13), sl13⟩)
    (c13 : PySem.W.codeIn K cd13 "_law_imports" = true)
    (k13 : PySem.W.keepIn K (.ref f13) = true)
    (a14 : PySem.W.nsIn K mainGlobals "_law_usable" = some (some (.ref f14)))
    (l14 : K.lookup f14 = some ⟨oc14, od14, .func (PySem.W.fnOf "_law_usable" "_law_usable" (defArgs s__law_usable) (defBody s__law_usable) (defScope s__law_usable) .none kV14 dc14 pm14 an14 cd14 ct14), sl14⟩)
    (c14 : PySem.W.codeIn K cd14 "_law_usable" = true)
    (k14 : PySem.W.keepIn K (.ref f14) = true)
    (a15 : PySem.W.nsIn K mainGlobals "_law_calls" = some (some (.ref f15)))
    (l15 : K.lookup f15 = some ⟨oc15, od15, .func (PySem.W.fnOf "_law_calls" "_law_calls" (defArgs s__law_calls) (defBody s__law_calls) (defScope s__law_calls) .none kV15 dc15 pm15 an15 cd15 ct15), sl15⟩)
    (c15 : PySem.W.codeIn K cd15 "_law_calls" = true)
    (k15 : PySem.W.keepIn K (.ref f15) = true)
    (a16 : PySem.W.nsIn K mainGlobals "_law_module" = some (some (.ref f16)))
    (l16 : K.lookup f16 = some ⟨oc16, od16, .func (PySem.W.fnOf "_law_module" "_law_module" (defArgs s__law_module) (defBody s__law_module) (defScope s__law_module) .none kV16 dc16 pm16 an16 cd16 ct16), sl16⟩)
    (c16 : PySem.W.codeIn K cd16 "_law_module" = true)
    (k16 : PySem.W.keepIn K (.ref f16) = true)
    (a17 : PySem.W.nsIn K mainGlobals "_law_modules" = some (some (.ref f17)))
    (l17 : K.lookup f17 = some ⟨oc17, od17, .func (PySem.W.fnOf "_law_modules" "_law_modules" (defArgs s__law_modules) (defBody s__law_modules) (defScope s__law_modules) .none kV17 dc17 pm17 an17 cd17 ct17), sl17⟩)
    (c17 : PySem.W.codeIn K cd17 "_law_modules" = true)
    (k17 : PySem.W.keepIn K (.ref f17) = true)
    (a18 : PySem.W.nsIn K mainGlobals "_law_exports" = some (some (.ref f18)))
    (l18 : K.lookup f18 = some ⟨oc18, od18, .func (PySem.W.fnOf "_law_exports" "_law_exports" (defArgs s__law_exports) (defBody s__law_exports) (defScope s__law_exports) .none kV18 dc18 pm18 an18 cd18 ct18), sl18⟩)
    (c18 : PySem.W.codeIn K cd18 "_law_exports" = true)
    (k18 : PySem.W.keepIn K (.ref f18) = true)
    (a19 : PySem.W.nsIn K mainGlobals "_law_follow" = some (some (.ref f19)))
    (l19 : K.lookup f19 = some ⟨oc19, od19, .func (PySem.W.fnOf "_law_follow" "_law_follow" (defArgs s__law_follow) (defBody s__law_follow) (defScope s__law_follow) .none kV19 dc19 pm19 an19 cd19 ct19), sl19⟩)
    (c19 : PySem.W.codeIn K cd19 "_law_follow" = true)
    (k19 : PySem.W.keepIn K (.ref f19) = true)
    (a20 : PySem.W.nsIn K mainGlobals "_law_leads" = some (some (.ref f20)))
    (l20 : K.lookup f20 = some ⟨oc20, od20, .func (PySem.W.fnOf "_law_leads" "_law_leads" (defArgs s__law_leads) (defBody s__law_leads) (defScope s__law_leads) .none kV20 dc20 pm20 an20 cd20 ct20), sl20⟩)
    (c20 : PySem.W.codeIn K cd20 "_law_leads" = true)
    (k20 : PySem.W.keepIn K (.ref f20) = true)
    (a21 : PySem.W.nsIn K mainGlobals "_law_declared" = some (some (.ref f21)))
    (l21 : K.lookup f21 = some ⟨oc21, od21, .func (PySem.W.fnOf "_law_declared" "_law_declared" (defArgs s__law_declared) (defBody s__law_declared) (defScope s__law_declared) .none kV21 dc21 pm21 an21 cd21 ct21), sl21⟩)
    (c21 : PySem.W.codeIn K cd21 "_law_declared" = true)
    (k21 : PySem.W.keepIn K (.ref f21) = true)
    (a22 : PySem.W.nsIn K mainGlobals "_law_tree_fault" = some (some (.ref f22)))
    (l22 : K.lookup f22 = some ⟨oc22, od22, .func (PySem.W.fnOf "_law_tree_fault" "_law_tree_fault" (defArgs s__law_tree_fault) (defBody s__law_tree_fault) (defScope s__law_tree_fault) .none kV22 dc22 pm22 an22 cd22 ct22), sl22⟩)
    (c22 : PySem.W.codeIn K cd22 "_law_tree_fault" = true)
    (k22 : PySem.W.keepIn K (.ref f22) = true)
    (a23 : PySem.W.nsIn K mainGlobals "_law_use_fault" = some (some (.ref f23)))
    (l23 : K.lookup f23 = some ⟨oc23, od23, .func (PySem.W.fnOf "_law_use_fault" "_law_use_fault" (defArgs s__law_use_fault) (defBody s__law_use_fault) (defScope s__law_use_fault) .none kV23 dc23 pm23 an23 cd23 ct23), sl23⟩)
    (c23 : PySem.W.codeIn K cd23 "_law_use_fault" = true)
    (k23 : PySem.W.keepIn K (.ref f23) = true)
    (a24 : PySem.W.nsIn K mainGlobals "_law_line_fault" = some (some (.ref f24)))
    (l24 : K.lookup f24 = some ⟨oc24, od24, .func (PySem.W.fnOf "_law_line_fault" "_law_line_fault" (defArgs s__law_line_fault) (defBody s__law_line_fault) (defScope s__law_line_fault) .none kV24 dc24 pm24 an24 cd24 ct24), sl24⟩)
    (c24 : PySem.W.codeIn K cd24 "_law_line_fault" = true)
    (k24 : PySem.W.keepIn K (.ref f24) = true)
    (a25 : PySem.W.nsIn K mainGlobals "_law_names_fault" = some (some (.ref f25)))
    (l25 : K.lookup f25 = some ⟨oc25, od25, .func (PySem.W.fnOf "_law_names_fault" "_law_names_fault" (defArgs s__law_names_fault) (defBody s__law_names_fault) (defScope s__law_names_fault) .none kV25 dc25 pm25 an25 cd25 ct25), sl25⟩)
    (c25 : PySem.W.codeIn K cd25 "_law_names_fault" = true)
    (k25 : PySem.W.keepIn K (.ref f25) = true)
    (a26 : PySem.W.nsIn K mainGlobals "_law_alike" = some (some (.ref f26)))
    (l26 : K.lookup f26 = some ⟨oc26, od26, .func (PySem.W.fnOf "_law_alike" "_law_alike" (defArgs s__law_alike) (defBody s__law_alike) (defScope s__law_alike) .none kV26 dc26 pm26 an26 cd26 ct26), sl26⟩)
    (c26 : PySem.W.codeIn K cd26 "_law_alike" = true)
    (k26 : PySem.W.keepIn K (.ref f26) = true)
    (a27 : PySem.W.nsIn K mainGlobals "_law_wrong_tree" = some (some (.ref f27)))
    (l27 : K.lookup f27 = some ⟨oc27, od27, .func (PySem.W.fnOf "_law_wrong_tree" "_law_wrong_tree" (defArgs s__law_wrong_tree) (defBody s__law_wrong_tree) (defScope s__law_wrong_tree) .none kV27 dc27 pm27 an27 cd27 ct27), sl27⟩)
    (c27 : PySem.W.codeIn K cd27 "_law_wrong_tree" = true)
    (k27 : PySem.W.keepIn K (.ref f27) = true)
    (a28 : PySem.W.nsIn K mainGlobals "_law_wrong_line" = some (some (.ref f28)))
    (l28 : K.lookup f28 = some ⟨oc28, od28, .func (PySem.W.fnOf "_law_wrong_line" "_law_wrong_line" (defArgs s__law_wrong_line) (defBody s__law_wrong_line) (defScope s__law_wrong_line) .none kV28 dc28 pm28 an28 cd28 ct28), sl28⟩)
    (c28 : PySem.W.codeIn K cd28 "_law_wrong_line" = true)
    (k28 : PySem.W.keepIn K (.ref f28) = true)
    (a29 : PySem.W.nsIn K mainGlobals "law" = some (some (.ref f29)))
    (l29 : K.lookup f29 = some ⟨oc29, od29, .func (PySem.W.fnOf "law" "law" (defArgs s_law) (defBody s_law) (defScope s_law) .none kV29 dc29 pm29 an29 cd29 ct29), sl29⟩)
    (c29 : PySem.W.codeIn K cd29 "law" = true)
    (k29 : PySem.W.keepIn K (.ref f29) = true)
    (eR : PySem.W.nsIn K mainGlobals "Reach" = some (some (.ref CR)))
    (eN : PySem.W.nsIn K mainGlobals "Names" = some (some (.ref CN)))
    (pgR : PySem.W.plainGet K CR Str.empty = true)
    (hdR : PySem.W.hasDictIn K CR = true)
    (poR : PySem.W.plainOver K CR = true)
    (saR : PySem.W.findIn K (.ref CR) "__setattr__" = some (some (.builtin "object.__setattr__")))
    (mkR : PySem.W.makesIn K CR = true)
    (kcR : PySem.W.keepIn K (.ref CR) = true)
    (pgN : PySem.W.plainGet K CN Str.empty = true)
    (hdN : PySem.W.hasDictIn K CN = true)
    (poN : PySem.W.plainOver K CN = true)
    (saN : PySem.W.findIn K (.ref CN) "__setattr__" = some (some (.builtin "object.__setattr__")))
    (mkN : PySem.W.makesIn K CN = true)
    (kcN : PySem.W.keepIn K (.ref CN) = true)
    (nR_lines_of : PySem.W.findIn K (.ref CR) "_lines_of" = some none)
    (nR_visited : PySem.W.findIn K (.ref CR) "_visited" = some none)
    (nR_order : PySem.W.findIn K (.ref CR) "order" = some none)
    (nN_modules : PySem.W.findIn K (.ref CN) "_modules" = some none)
    (nN_module : PySem.W.findIn K (.ref CN) "_module" = some none)
    (amR_init : PySem.W.findIn K (.ref CR) "__init__" = some (some (.ref fmR_init)))
    (imR_init : PySem.W.isFn K (.ref fmR_init) = true)
    (lmR_init : K.lookup fmR_init = some ⟨ocmR_init, odmR_init, .func (PySem.W.fnOf "__init__" "Reach.__init__" (defArgs s_Reach_init) (defBody s_Reach_init) (defScope s_Reach_init) .none kVmR_init dcmR_init pmmR_init anmR_init cdmR_init ctmR_init), slmR_init⟩)
    (cmR_init : PySem.W.codeIn K cdmR_init "Reach.__init__" = true)
    (kmR_init : PySem.W.keepIn K (.ref fmR_init) = true)
    (amR_visit : PySem.W.findIn K (.ref CR) "visit" = some (some (.ref fmR_visit)))
    (imR_visit : PySem.W.isFn K (.ref fmR_visit) = true)
    (lmR_visit : K.lookup fmR_visit = some ⟨ocmR_visit, odmR_visit, .func (PySem.W.fnOf "visit" "Reach.visit" (defArgs s_Reach_visit) (defBody s_Reach_visit) (defScope s_Reach_visit) .none kVmR_visit dcmR_visit pmmR_visit anmR_visit cdmR_visit ctmR_visit), slmR_visit⟩)
    (cmR_visit : PySem.W.codeIn K cdmR_visit "Reach.visit" = true)
    (kmR_visit : PySem.W.keepIn K (.ref fmR_visit) = true)
    (amN_init : PySem.W.findIn K (.ref CN) "__init__" = some (some (.ref fmN_init)))
    (imN_init : PySem.W.isFn K (.ref fmN_init) = true)
    (lmN_init : K.lookup fmN_init = some ⟨ocmN_init, odmN_init, .func (PySem.W.fnOf "__init__" "Names.__init__" (defArgs s_Names_init) (defBody s_Names_init) (defScope s_Names_init) .none kVmN_init dcmN_init pmmN_init anmN_init cdmN_init ctmN_init), slmN_init⟩)
    (cmN_init : PySem.W.codeIn K cdmN_init "Names.__init__" = true)
    (kmN_init : PySem.W.keepIn K (.ref fmN_init) = true)
    (amN_fault : PySem.W.findIn K (.ref CN) "_fault" = some (some (.ref fmN_fault)))
    (imN_fault : PySem.W.isFn K (.ref fmN_fault) = true)
    (lmN_fault : K.lookup fmN_fault = some ⟨ocmN_fault, odmN_fault, .func (PySem.W.fnOf "_fault" "Names._fault" (defArgs s_Namesfault) (defBody s_Namesfault) (defScope s_Namesfault) .none kVmN_fault dcmN_fault pmmN_fault anmN_fault cdmN_fault ctmN_fault), slmN_fault⟩)
    (cmN_fault : PySem.W.codeIn K cdmN_fault "Names._fault" = true)
    (kmN_fault : PySem.W.keepIn K (.ref fmN_fault) = true)
    (amN_called : PySem.W.findIn K (.ref CN) "_called" = some (some (.ref fmN_called)))
    (imN_called : PySem.W.isFn K (.ref fmN_called) = true)
    (lmN_called : K.lookup fmN_called = some ⟨ocmN_called, odmN_called, .func (PySem.W.fnOf "_called" "Names._called" (defArgs s_Namescalled) (defBody s_Namescalled) (defScope s_Namescalled) .none kVmN_called dcmN_called pmmN_called anmN_called cdmN_called ctmN_called), slmN_called⟩)
    (cmN_called : PySem.W.codeIn K cdmN_called "Names._called" = true)
    (kmN_called : PySem.W.keepIn K (.ref fmN_called) = true)
    (amN_used : PySem.W.findIn K (.ref CN) "_used" = some (some (.ref fmN_used)))
    (imN_used : PySem.W.isFn K (.ref fmN_used) = true)
    (lmN_used : K.lookup fmN_used = some ⟨ocmN_used, odmN_used, .func (PySem.W.fnOf "_used" "Names._used" (defArgs s_Namesused) (defBody s_Namesused) (defScope s_Namesused) .none kVmN_used dcmN_used pmmN_used anmN_used cdmN_used ctmN_used), slmN_used⟩)
    (cmN_used : PySem.W.codeIn K cdmN_used "Names._used" = true)
    (kmN_used : PySem.W.keepIn K (.ref fmN_used) = true)
    (amN_fault_of : PySem.W.findIn K (.ref CN) "fault_of" = some (some (.ref fmN_fault_of)))
    (imN_fault_of : PySem.W.isFn K (.ref fmN_fault_of) = true)
    (lmN_fault_of : K.lookup fmN_fault_of = some ⟨ocmN_fault_of, odmN_fault_of, .func (PySem.W.fnOf "fault_of" "Names.fault_of" (defArgs s_Names_fault_of) (defBody s_Names_fault_of) (defScope s_Names_fault_of) .none kVmN_fault_of dcmN_fault_of pmmN_fault_of anmN_fault_of cdmN_fault_of ctmN_fault_of), slmN_fault_of⟩)
    (cmN_fault_of : PySem.W.codeIn K cdmN_fault_of "Names.fault_of" = true)
    (kmN_fault_of : PySem.W.keepIn K (.ref fmN_fault_of) = true)
    (amN_fault_of_line : PySem.W.findIn K (.ref CN) "fault_of_line" = some (some (.ref fmN_fault_of_line)))
    (imN_fault_of_line : PySem.W.isFn K (.ref fmN_fault_of_line) = true)
    (lmN_fault_of_line : K.lookup fmN_fault_of_line = some ⟨ocmN_fault_of_line, odmN_fault_of_line, .func (PySem.W.fnOf "fault_of_line" "Names.fault_of_line" (defArgs s_Names_fault_of_line) (defBody s_Names_fault_of_line) (defScope s_Names_fault_of_line) .none kVmN_fault_of_line dcmN_fault_of_line pmmN_fault_of_line anmN_fault_of_line cdmN_fault_of_line ctmN_fault_of_line), slmN_fault_of_line⟩)
    (cmN_fault_of_line : PySem.W.codeIn K cdmN_fault_of_line "Names.fault_of_line" = true)
    (kmN_fault_of_line : PySem.W.keepIn K (.ref fmN_fault_of_line) = true)
    (lC : K.lookup cRe = some ⟨ocC, odC, .fields vsC, slC⟩)
    (vC : vsC[11]? = some (.ref Pt))
    (nP : K.lookup Pt = none) : AllIs K mg := by
  refine ⟨O, CR, CN, cRe, Pt, ⟨⟨_, PySem.W.mg_of X G gNUMBER⟩, ⟨_, PySem.W.mg_of X G gSTRING⟩, ⟨_, PySem.W.mg_of X G gNAME⟩, ⟨_, PySem.W.mg_of X G gCALL⟩, ⟨_, PySem.W.mg_of X G gSET⟩, ⟨_, PySem.W.mg_of X G gIMPORT⟩, ⟨_, PySem.W.mg_of X G gEXPORT⟩, ⟨_, PySem.W.mg_of X G gFN⟩, PySem.W.mg_of X G gOWN, fun H => .inr ⟨_, _, _, lO, rfl, rfl, three_le, .cons ⟨_, rfl⟩ (.cons ⟨_, rfl⟩ (.cons ⟨_, rfl⟩ .nil))⟩, PySem.W.mg_none_of X G zlen, PySem.W.mg_none_of X G zint, PySem.W.mg_none_of X G ztuple, PySem.W.mg_none_of X G zlist, PySem.W.mg_none_of X G zrepr, PySem.W.mg_none_of X G zisi, PySem.W.mg_none_of X G zrange, ⟨_, _, fun_mk (st := s__own) l0 c0 k0, PySem.W.mg_of X G a0⟩, ⟨_, _, fun_mk (st := s__other) l1 c1 k1, PySem.W.mg_of X G a1⟩, ⟨_, _, fun_mk (st := s_follow) l2 c2 k2, PySem.W.mg_of X G a2⟩, ⟨_, _, fun_mk (st := s_available) l3 c3 k3, PySem.W.mg_of X G a3⟩, ⟨_, _, fun_mk (st := s_declaration) l4 c4 k4, PySem.W.mg_of X G a4⟩, ⟨_, _, fun_mk (st := s_reach) l5 c5 k5, PySem.W.mg_of X G a5⟩, ⟨_, _, fun_mk (st := s_check_names) l6 c6 k6, PySem.W.mg_of X G a6⟩, ⟨_, _, fun_mk (st := s__law_cell) l7 c7 k7, PySem.W.mg_of X G a7⟩, ⟨_, _, fun_mk (st := s__law_digits) l8 c8 k8, PySem.W.mg_of X G a8⟩, ⟨_, _, fun_mk (st := s__law_draw) l9 c9 k9, PySem.W.mg_of X G a9⟩, ⟨_, _, fun_mk (st := s__law_atom) l10 c10 k10, PySem.W.mg_of X G a10⟩, ⟨_, _, fun_mk (st := s__law_tree) l11 c11 k11, PySem.W.mg_of X G a11⟩, ⟨_, _, fun_mk (st := s__law_own) l12 c12 k12, PySem.W.mg_of X G a12⟩, ⟨_, _, fun_mk (st := s__law_imports) l13 c13 k13, PySem.W.mg_of X G a13⟩, ⟨_, _, fun_mk (st := s__law_usable) l14 c14 k14, PySem.W.mg_of X G a14⟩, ⟨_, _, fun_mk (st := s__law_calls) l15 c15 k15, PySem.W.mg_of X G a15⟩, ⟨_, _, fun_mk (st := s__law_module) l16 c16 k16, PySem.W.mg_of X G a16⟩, ⟨_, _, fun_mk (st := s__law_modules) l17 c17 k17, PySem.W.mg_of X G a17⟩, ⟨_, _, fun_mk (st := s__law_exports) l18 c18 k18, PySem.W.mg_of X G a18⟩, ⟨_, _, fun_mk (st := s__law_follow) l19 c19 k19, PySem.W.mg_of X G a19⟩, ⟨_, _, fun_mk (st := s__law_leads) l20 c20 k20, PySem.W.mg_of X G a20⟩, ⟨_, _, fun_mk (st := s__law_declared) l21 c21 k21, PySem.W.mg_of X G a21⟩, ⟨_, _, fun_mk (st := s__law_tree_fault) l22 c22 k22, PySem.W.mg_of X G a22⟩, ⟨_, _, fun_mk (st := s__law_use_fault) l23 c23 k23, PySem.W.mg_of X G a23⟩, ⟨_, _, fun_mk (st := s__law_line_fault) l24 c24 k24, PySem.W.mg_of X G a24⟩, ⟨_, _, fun_mk (st := s__law_names_fault) l25 c25 k25, PySem.W.mg_of X G a25⟩, ⟨_, _, fun_mk (st := s__law_alike) l26 c26 k26, PySem.W.mg_of X G a26⟩, ⟨_, _, fun_mk (st := s__law_wrong_tree) l27 c27 k27, PySem.W.mg_of X G a27⟩, ⟨_, _, fun_mk (st := s__law_wrong_line) l28 c28 k28, PySem.W.mg_of X G a28⟩, ⟨_, _, fun_mk (st := s_law) l29 c29 k29, PySem.W.mg_of X G a29⟩, ⟨pgR, hdR, poR, saR⟩, ⟨pgN, hdN, poN, saN⟩, PySem.W.mg_of X G eR, PySem.W.mg_of X G eN, nR_lines_of, nR_visited, nR_order, nN_modules, nN_module, ⟨_, _, fun_mk (st := s_Reach_init) lmR_init cmR_init kmR_init, ⟨mkR, amR_init, imR_init, kcR⟩⟩, ⟨_, _, fun_mk (st := s_Reach_visit) lmR_visit cmR_visit kmR_visit, ⟨amR_visit, imR_visit, kmR_visit⟩⟩, ⟨_, _, fun_mk (st := s_Names_init) lmN_init cmN_init kmN_init, ⟨mkN, amN_init, imN_init, kcN⟩⟩, ⟨_, _, fun_mk (st := s_Namesfault) lmN_fault cmN_fault kmN_fault, ⟨amN_fault, imN_fault, kmN_fault⟩⟩, ⟨_, _, fun_mk (st := s_Namescalled) lmN_called cmN_called kmN_called, ⟨amN_called, imN_called, kmN_called⟩⟩, ⟨_, _, fun_mk (st := s_Namesused) lmN_used cmN_used kmN_used, ⟨amN_used, imN_used, kmN_used⟩⟩, ⟨_, _, fun_mk (st := s_Names_fault_of) lmN_fault_of cmN_fault_of kmN_fault_of, ⟨amN_fault_of, imN_fault_of, kmN_fault_of⟩⟩, ⟨_, _, fun_mk (st := s_Names_fault_of_line) lmN_fault_of_line cmN_fault_of_line kmN_fault_of_line, ⟨amN_fault_of_line, imN_fault_of_line, kmN_fault_of_line⟩⟩⟩, ⟨f5, _, _, _, _, _, _, _, _, l5, c5, k5, PySem.W.mg_of X G a5⟩, ?_, nP⟩
  unfold PySem.W.tabIn
  rw [a5]
  dsimp only
  rw [l5]
  dsimp only
  rw [lC]
  dsimp only
  rw [vC]
theorem walk {l : PySem.W.OpenLaw} {q : Program} {loose : List Str} {XP : (Str → Option Value) → Heap → Prop} {YP : World → Heap → Prop} {d dr : DefRec} {K : Params → PySem.W.Frag} (hn : l.most = some 63) (hdf : d.params.defaults = []) (hd : d.name = "law")
    (hrec : (recsOf q).find? (fun e => e.name == ("reach" : Str)) = some dr) (hY : ∀ (w : World) (h : Heap), YP w h → (K w.params).In h) (F : ∀ (w : World) (mg : Str → Option Value) (h : Heap), (K w.params).In h → h.Ns mainGlobals mg → AllIs (K w.params) mg) :
    PySem.W.WalkO q loose XP YP l.row.toRowW d [] (fun f vs => PySem.call f vs) := by
  refine Att.attach_callB hn hdf fun w s₀ s₁ mg mb fa o pm cd doc a vs ns G Y ho hdo hcd hmg hobj hints hlen hbits hg => ?_
  have KX := hY w _ Y
  obtain ⟨O, CR, CN, c0, Pt, T, DC, tab, nP⟩ := F w mg _ KX G.T.g
  obtain ⟨C, hP⟩ := PySem.W.tab_of G.T KX hrec tab
  rw [hd] at hmg
  exact end_run (P := l.prog) G.T KX hg C hP nP hobj hints (Nat.le_trans hlen (by decide)) ⟨rfl, by decide, by decide⟩ (fun base TB => ok_law (P := l.prog) T DC TB) hmg
end K6
open PySem PySem.W PyProof.Rows
set_option maxRecDepth 100000 in
set_option maxHeartbeats 0 in
theorem PySem.Challenge.cw_sameasnew_k06_first_fault_of_names_holds : PySem.Challenge.rw_sameasnew_k06_first_fault_of_names.Holds := by
  w_on; o_law; k_head; (case hw => w_witness2)
  k_fill
  refine K6.walk (l := PySem.Challenge.rw_sameasnew_k06_first_fault_of_names) rfl rfl rfl rfl (fun w h Y => PySem.W.km_in_of Y) ?F
  case F =>
    intro w mg h KX G
    refine' K6.all_mk KX G ?gNUMBER ?gSTRING ?gNAME ?gCALL ?gSET ?gIMPORT ?gEXPORT ?gFN ?gOWN ?lO ?zlen ?zint ?ztuple ?zlist ?zrepr ?zisi ?zrange ?a0 ?l0 ?c0 ?k0 ?a1 ?l1 ?c1 ?k1 ?a2 ?l2 ?c2 ?k2 ?a3 ?l3 ?c3 ?k3 ?a4 ?l4 ?c4 ?k4 ?a5 ?l5 ?c5 ?k5 ?a6 ?l6 ?c6 ?k6 ?a7 ?l7 ?c7 ?k7 ?a8 ?l8 ?c8 ?k8 ?a9 ?l9 ?c9 ?k9 ?a10 ?l10 ?c10 ?k10 ?a11 ?l11 ?c11 ?k11 ?a12 ?l12 ?c12 ?k12 ?a13 ?l13 ?c13 ?k13 ?a14 ?l14 ?c14 ?k14 ?a15 ?l15 ?c15 ?k15 ?a16 ?l16 ?c16 ?k16 ?a17 ?l17 ?c17 ?k17 ?a18 ?l18 ?c18 ?k18 ?a19 ?l19 ?c19 ?k19 ?a20 ?l20 ?c20 ?k20 ?a21 ?l21 ?c21 ?k21 ?a22 ?l22 ?c22 ?k22 ?a23 ?l23 ?c23 ?k23 ?a24 ?l24 ?c24 ?k24 ?a25 ?l25 ?c25 ?k25 ?a26 ?l26 ?c26 ?k26 ?a27 ?l27 ?c27 ?k27 ?a28 ?l28 ?c28 ?k28 ?a29 ?l29 ?c29 ?k29 ?eR ?eN ?pgR ?hdR ?poR ?saR ?mkR ?kcR ?pgN ?hdN ?poN ?saN ?mkN ?kcN ?nR_lines_of ?nR_visited ?nR_order ?nN_modules ?nN_module ?amR_init ?imR_init ?lmR_init ?cmR_init ?kmR_init ?amR_visit ?imR_visit ?lmR_visit ?cmR_visit ?kmR_visit ?amN_init ?imN_init ?lmN_init ?cmN_init ?kmN_init ?amN_fault ?imN_fault ?lmN_fault ?cmN_fault ?kmN_fault ?amN_called ?imN_called ?lmN_called ?cmN_called ?kmN_called ?amN_used ?imN_used ?lmN_used ?cmN_used ?kmN_used ?amN_fault_of ?imN_fault_of ?lmN_fault_of ?cmN_fault_of ?kmN_fault_of ?amN_fault_of_line ?imN_fault_of_line ?lmN_fault_of_line ?cmN_fault_of_line ?kmN_fault_of_line ?lC ?vC ?nP
    (case gNUMBER => k_is)
    (case gSTRING => k_is)
    (case gNAME => k_is)
    (case gCALL => k_is)
    (case gSET => k_is)
    (case gIMPORT => k_is)
    (case gEXPORT => k_is)
    (case gFN => k_is)
    (case gOWN => k_is)
    (case lO => k_is)
    (case zlen => k_is)
    (case zint => k_is)
    (case ztuple => k_is)
    (case zlist => k_is)
    (case zrepr => k_is)
    (case zisi => k_is)
    (case zrange => k_is)
    (case a0 => k_is)
    (case l0 => k_is)
    (case c0 => k_is)
    (case k0 => k_is)
    (case a1 => k_is)
    (case l1 => k_is)
    (case c1 => k_is)
    (case k1 => k_is)
    (case a2 => k_is)
    (case l2 => k_is)
    (case c2 => k_is)
    (case k2 => k_is)
    (case a3 => k_is)
    (case l3 => k_is)
    (case c3 => k_is)
    (case k3 => k_is)
    (case a4 => k_is)
    (case l4 => k_is)
    (case c4 => k_is)
    (case k4 => k_is)
    (case a5 => k_is)
    (case l5 => k_is)
    (case c5 => k_is)
    (case k5 => k_is)
    (case a6 => k_is)
    (case l6 => k_is)
    (case c6 => k_is)
    (case k6 => k_is)
    (case a7 => k_is)
    (case l7 => k_is)
    (case c7 => k_is)
    (case k7 => k_is)
    (case a8 => k_is)
    (case l8 => k_is)
    (case c8 => k_is)
    (case k8 => k_is)
    (case a9 => k_is)
    (case l9 => k_is)
    (case c9 => k_is)
    (case k9 => k_is)
    (case a10 => k_is)
    (case l10 => k_is)
    (case c10 => k_is)
    (case k10 => k_is)
    (case a11 => k_is)
    (case l11 => k_is)
    (case c11 => k_is)
    (case k11 => k_is)
    (case a12 => k_is)
    (case l12 => k_is)
    (case c12 => k_is)
    (case k12 => k_is)
    (case a13 => k_is)
    (case l13 => k_is)
    (case c13 => k_is)
    (case k13 => k_is)
    (case a14 => k_is)
    (case l14 => k_is)
    (case c14 => k_is)
    (case k14 => k_is)
    (case a15 => k_is)
    (case l15 => k_is)
    (case c15 => k_is)
    (case k15 => k_is)
    (case a16 => k_is)
    (case l16 => k_is)
    (case c16 => k_is)
    (case k16 => k_is)
    (case a17 => k_is)
    (case l17 => k_is)
    (case c17 => k_is)
    (case k17 => k_is)
    (case a18 => k_is)
    (case l18 => k_is)
    (case c18 => k_is)
    (case k18 => k_is)
    (case a19 => k_is)
    (case l19 => k_is)
    (case c19 => k_is)
    (case k19 => k_is)
    (case a20 => k_is)
    (case l20 => k_is)
    (case c20 => k_is)
    (case k20 => k_is)
    (case a21 => k_is)
    (case l21 => k_is)
    (case c21 => k_is)
    (case k21 => k_is)
    (case a22 => k_is)
    (case l22 => k_is)
    (case c22 => k_is)
    (case k22 => k_is)
    (case a23 => k_is)
    (case l23 => k_is)
    (case c23 => k_is)
    (case k23 => k_is)
    (case a24 => k_is)
    (case l24 => k_is)
    (case c24 => k_is)
    (case k24 => k_is)
    (case a25 => k_is)
    (case l25 => k_is)
    (case c25 => k_is)
    (case k25 => k_is)
    (case a26 => k_is)
    (case l26 => k_is)
    (case c26 => k_is)
    (case k26 => k_is)
    (case a27 => k_is)
    (case l27 => k_is)
    (case c27 => k_is)
    (case k27 => k_is)
    (case a28 => k_is)
    (case l28 => k_is)
    (case c28 => k_is)
    (case k28 => k_is)
    (case a29 => k_is)
    (case l29 => k_is)
    (case c29 => k_is)
    (case k29 => k_is)
    (case eR => k_is)
    (case eN => k_is)
    (case pgR => k_is)
    (case hdR => k_is)
    (case poR => k_is)
    (case saR => k_is)
    (case mkR => k_is)
    (case kcR => k_is)
    (case pgN => k_is)
    (case hdN => k_is)
    (case poN => k_is)
    (case saN => k_is)
    (case mkN => k_is)
    (case kcN => k_is)
    (case nR_lines_of => k_is)
    (case nR_visited => k_is)
    (case nR_order => k_is)
    (case nN_modules => k_is)
    (case nN_module => k_is)
    (case amR_init => k_is)
    (case imR_init => k_is)
    (case lmR_init => k_is)
    (case cmR_init => k_is)
    (case kmR_init => k_is)
    (case amR_visit => k_is)
    (case imR_visit => k_is)
    (case lmR_visit => k_is)
    (case cmR_visit => k_is)
    (case kmR_visit => k_is)
    (case amN_init => k_is)
    (case imN_init => k_is)
    (case lmN_init => k_is)
    (case cmN_init => k_is)
    (case kmN_init => k_is)
    (case amN_fault => k_is)
    (case imN_fault => k_is)
    (case lmN_fault => k_is)
    (case cmN_fault => k_is)
    (case kmN_fault => k_is)
    (case amN_called => k_is)
    (case imN_called => k_is)
    (case lmN_called => k_is)
    (case cmN_called => k_is)
    (case kmN_called => k_is)
    (case amN_used => k_is)
    (case imN_used => k_is)
    (case lmN_used => k_is)
    (case cmN_used => k_is)
    (case kmN_used => k_is)
    (case amN_fault_of => k_is)
    (case imN_fault_of => k_is)
    (case lmN_fault_of => k_is)
    (case cmN_fault_of => k_is)
    (case kmN_fault_of => k_is)
    (case amN_fault_of_line => k_is)
    (case imN_fault_of_line => k_is)
    (case lmN_fault_of_line => k_is)
    (case cmN_fault_of_line => k_is)
    (case kmN_fault_of_line => k_is)
    (case lC => k_is)
    (case vC => exact rfl)
    (case nP => kernel_rfl)
