import PyProof.Rows.All
import Wide.All
import OpenK.AllK
import Wide.FinOn
import HandS.ForDict
import HandS.Text
import HandS.ForMost
import HandS.AnyAll
import HandS.ForExc
import KE.GoesRaise
import HandS.ExcInit
import HandS.ExcField
import KE.KExcSuper
import KE.KExcIs
import HandS.FStr
import HandS.TryOnly
import HandS.ExcOwn
import HandS.Conv
import HandS.Codes
import PyProof.StrLaws
import HandS.WordsExc
import HandS.Walk
import HandS.CallSlots
import HandS.EndTab
import PySem.Challenge.RW_heldwater_k01_basins_refused
set_option Elab.async false
set_option linter.all false
set_option maxRecDepth 100000
set_option maxHeartbeats 4000000
open PySem
namespace HW

/-- what a part of the reader comes to: outside of what is told | NoLine | a value -/
inductive R (α : Type) where
  | bad | no | ok (a : α)
  deriving DecidableEq
def R.bind {α β : Type} : R α → (α → R β) → R β
  | .bad, _ => .bad
  | .no, _ => .no
  | .ok a, f => f a
/-- a value with what is wanted of it | of NoLine -/
def RR {α : Type} (r : R α) (Q : α → Prop) (N : Prop) : Prop := match r with
  | .bad => False
  | .no => N
  | .ok a => Q a
theorem RR_bind {α β : Type} {r : R α} {f : α → R β} {Q : β → Prop} {N : Prop} : RR (r.bind f) Q N ↔ RR r (fun a => RR (f a) Q N) N := by
  cases r <;> exact Iff.rfl
theorem RR.mono {α : Type} {r : R α} {Q Q' : α → Prop} {N N' : Prop} (h : RR r Q N) (hq : ∀ a, Q a → Q' a) (hn : N → N') : RR r Q' N' := by
  cases r with
  | bad => exact h
  | no => exact hn h
  | ok a => exact hq a h
def chk (b : Bool) : R Unit := if b then .ok () else .no
/-- a side condition that is not told of where it fails -/
def must (b : Bool) : R Unit := if b then .ok () else .bad

structure Site where
  name : Str
  next : Option Str
  travel : Int
  reach : Option Int
  room : Int
  held : Int
  flows : List Int
  deriving DecidableEq
structure Right where
  name : Str
  site : Str
  wants : List Int
  deriving DecidableEq

def letters : Str := "abcdefghijklmnopqrstuvwxyz"
def digits : Str := "0123456789"
def nameOk (z : Str) : Bool := if decide ((1 : Int) ≤ z.length) = true then (if decide ((z.length : Int) ≤ 6) = true then z.cps.toList.all (fun c => decide (c ∈ letters.cps.toList)) else false) else false

def numOf (z : Str) (m : Option Int) : R Int :=
  (must (decide (z.length ≤ 300))).bind fun _ =>
  (chk (!decide (z = ("" : Str)) && z.cps.toList.all (fun c => decide (c ∈ digits.cps.toList)))).bind fun _ =>
  match z.cps.toList with
  | [] => .bad
  | c :: _ =>
    (chk (decide (z = ("0" : Str)) || !decide ((⟨#[c]⟩ : Str) = ("0" : Str)))).bind fun _ =>
    match intText? z with
    | none => .bad
    | some n => match m with
      | none => .ok n
      | some k => (must (decide (k.natAbs < 1000))).bind fun _ =>
        (chk (decide ((z.length : Int) ≤ ((toString k : Str).length : Int)) && decide (n ≤ k))).bind fun _ => .ok n

def nextP : List Str → R (Str × List Str)
  | [] => .no
  | x :: r => .ok (x, r)
def passedP (w : Str) : List Str → Bool × List Str
  | [] => (false, [])
  | x :: r => if decide (x = w) = true then (true, r) else (false, x :: r)
def nameP (rows : List Str) : R (Str × List Str) := (nextP rows).bind fun p => (must (decide (p.1.length ≤ 10000))).bind fun _ => (chk (nameOk p.1)).bind fun _ => .ok p
def amountP (w : Str) (m d : Option Int) (rows : List Str) : R (Option Int × List Str) :=
  if (passedP w rows).1 = true then (nextP (passedP w rows).2).bind fun p => (numOf p.1 m).bind fun n => .ok (some n, p.2) else .ok (d, (passedP w rows).2)
def numsP : List Str → R (List Int)
  | [] => .ok []
  | z :: r => (numOf z (some 99)).bind fun n => (numsP r).bind fun ns => .ok (n :: ns)
def amtTail (months : Option Int) (ns : List Int) : R (List Int) :=
  (chk ((decide ((1 : Int) ≤ ns.length) && decide ((ns.length : Int) ≤ 4)) && (decide (months = none) || decide (months = some (ns.length : Int))))).bind fun _ => .ok ns
def amountsP (months : Option Int) (rows : List Str) : R (List Int) := (must (decide (rows.length ≤ 300))).bind fun _ => (numsP rows).bind (amtTail months)
def intOf : Option Int → R Int
  | some n => .ok n
  | none => .bad
def readSite (months : Option Int) (rows : List Str) : R Site :=
  (nameP rows).bind fun p1 =>
  (if (passedP "to" p1.2).1 = true then (nameP (passedP "to" p1.2).2).bind fun q => .ok (some q.1, q.2) else .ok (none, (passedP "to" p1.2).2)).bind fun p2 =>
  (match p2.1 with
    | some _ => (amountP "in" (some 2) (some 0) p2.2).bind fun a => (intOf a.1).bind fun t => (amountP "reach" (some 99) none a.2).bind fun b => .ok (t, b.1, b.2)
    | none => .ok ((0 : Int), (none : Option Int), p2.2)).bind fun p3 =>
  (amountP "room" (some 99) (some 0) p3.2.2).bind fun p4 => (intOf p4.1).bind fun room =>
  (amountP "held" none (some 0) p4.2).bind fun p5 => (intOf p5.1).bind fun held =>
  (chk (passedP "flow" p5.2).1).bind fun _ =>
  (amountsP months (passedP "flow" p5.2).2).bind fun fl => .ok ⟨p1.1, p2.1, p3.1, p3.2.1, room, held, fl⟩
def readRight (months : Option Int) (rows : List Str) : R Right :=
  (nameP rows).bind fun p1 => (chk (passedP "at" p1.2).1).bind fun _ => (nameP (passedP "at" p1.2).2).bind fun p2 =>
  (chk ((passedP "wants" p2.2).1 && !decide (months = none))).bind fun _ => (amountsP months (passedP "wants" p2.2).2).bind fun fl => .ok ⟨p1.1, p2.1, fl⟩

/-- split at blanks, quick to reckon -/
def splitF (x : Str) : List Str := (TL.spl [32] 0 [] (TL.tl x)).map fun l => ⟨l.toArray⟩
theorem split_sp (x : Str) : Txt.split x " " = splitF x := by
  have e : (" " : Str) = ⟨#[32]⟩ := by decide +kernel
  refine TL.map_tl_inj ?_
  rw [e, TL.split_spl _ _ (by simp [TL.tl]) (TL.kind_ok (by decide +kernel))]
  unfold splitF
  rw [List.map_map]
  show _ = (TL.spl [32] 0 [] (TL.tl x)).map (fun l => TL.tl ⟨l.toArray⟩)
  have e2 : (fun l : List Nat => TL.tl ⟨l.toArray⟩) = id := by funext l; simp [TL.tl]
  rw [e2, List.map_id]
/-- joined with blanks, quick to reckon -/
def joinF (parts : List Str) : Str := ⟨(TL.joinL [32] (parts.map TL.tl)).toArray⟩
theorem join_sp (parts : List Str) : Txt.join " " parts = joinF parts := by
  have e : (" " : Str) = ⟨#[32]⟩ := by decide +kernel
  refine TL.ext_tl ?_
  rw [e, TL.join_eq, TL.tl_join]
  simp [joinF, TL.tl]

def numT (n : Int) : Str := toString n
def fits (n : Int) : Bool := decide (n.natAbs < 1000000)
def siteParts (s : Site) : List Str :=
  ["site " ++ s.name] ++ (s.next.elim [] fun o => [("to " : Str) ++ o]) ++ (if decide (0 < s.travel) = true then [("in " : Str) ++ numT s.travel] else [])
    ++ (s.reach.elim [] fun o => [("reach " : Str) ++ numT o]) ++ (if decide (0 < s.room) = true then [("room " : Str) ++ numT s.room] else [])
    ++ (if decide (0 < s.held) = true then [("held " : Str) ++ numT s.held] else [])
def siteText (s : Site) : Str := joinF (siteParts s ++ [("flow" : Str)] ++ s.flows.map numT)
def rightText (r : Right) : Str := joinF ([("right" : Str), r.name, ("at" : Str), r.site, ("wants" : Str)] ++ r.wants.map numT)
def small (s : Str) : Bool := decide (s.length ≤ 1000)
def siteFits (s : Site) : Bool := small s.name && s.next.elim true small && fits s.travel && s.reach.elim true fits && fits s.room && fits s.held && s.flows.all fits && decide (s.flows.length ≤ 100)
def rightFits (s : Right) : Bool := small s.name && small s.site && s.wants.all fits && decide (s.wants.length ≤ 100)

inductive Ln where
  | site (s : Site) | right (r : Right)
  deriving DecidableEq
def lineM (months : Option Int) (text : Str) : R Ln :=
  (must (decide (text.length ≤ 1000))).bind fun _ =>
  (nextP (splitF text)).bind fun p =>
  (chk (decide (p.1 = ("site" : Str)) || decide (p.1 = ("right" : Str)))).bind fun _ =>
  if decide (p.1 = ("site" : Str)) = true then
    (readSite months p.2).bind fun s => (must (siteFits s)).bind fun _ => (chk (decide (siteText s = text))).bind fun _ => .ok (.site s)
  else
    (readRight months p.2).bind fun r => (must (rightFits r)).bind fun _ => (chk (decide (rightText r = text))).bind fun _ => .ok (.right r)

structure Rd where
  sites : List Site
  rights : List Right
  months : Option Int
  deriving DecidableEq
def siteFault (st : Rd) (s : Site) : Option Str :=
  if (!st.rights.isEmpty) = true then some "site behind a right" else
  if decide (st.sites.length = 4) = true then some "too many sites" else
  if (st.sites.any fun o => o.name == s.name) = true then some "name twice" else
  if decide (s.room < s.held) = true then some "held above room" else none
def rightFault (st : Rd) (r : Right) : Option Str :=
  if (!st.sites.any fun o => o.name == r.site) = true then some "no such site" else
  if decide (st.rights.length = 4) = true then some "too many rights" else
  if (st.rights.any fun o => o.name == r.name) = true then some "name twice" else none
/-- take: none: outside of what is told; else the reason (or none) and the state behind -/
def takeM (st : Rd) (text : Str) : Option (Option Str × Rd) :=
  match lineM st.months text with
  | .bad => none
  | .no => some (some "not a line", st)
  | .ok (.site s) => match siteFault st s with
    | some f => some (some f, st)
    | none => some (none, { st with sites := st.sites ++ [s], months := some (s.flows.length : Int) })
  | .ok (.right r) => match rightFault st r with
    | some f => some (some f, st)
    | none => some (none, { st with rights := st.rights ++ [r] })
def nextIn : Option Str → List Site → Bool
  | some o, r => r.any fun t => t.name == o
  | none, _ => false
/-- check_order from the place at on -/
def orderM : Nat → List Site → Option (Nat × Str)
  | _, [] => none
  | at_, s :: r =>
    if (!r.isEmpty && !nextIn s.next r) = true then some (at_ + 1, "next is not later") else
    if (r.isEmpty && s.next.isSome) = true then some (at_ + 1, "outlet leads on") else orderM (at_ + 1) r
/-- the lines from the number at on -/
def linesM : Nat → Rd → List Str → Option (Option (Nat × Str))
  | _, st, [] => some (orderM 0 st.sites)
  | at_, st, l :: r => match takeM st l with
    | none => none
    | some (some f, _) => some (some (at_ + 1, f))
    | some (none, st') => linesM (at_ + 1) st' r
def toldM (text : Str) : Option (Option (Nat × Str)) :=
  if (decide (text.length ≤ 9000) && decide ((Txt.split text "\n").length ≤ 1000)) = true then linesM 0 ⟨[], [], none⟩ (Txt.split text "\n") else none
end HW
/-! all(c in GLOBAL for c in text): the element reads a name of the module -/
namespace HW
open PySem PySem.Spec PyProof.Rows L2 GxR

/-- the element, asked of a sign, where the module's names stand -/
def EltG (X : Cx) (scope : Scope) (x : Str) (elt : Expr) (pb : Nat → Bool) : Prop :=
  ∀ (cenv : Env) (A' : Around) (E' : Value → Shared → Prop) (c : Nat) (t : Tok) (s₂ : Shared) (m₂ : Str → Option Value), cenv.scope = scope → cenv.globals = mainGlobals → s₂.heap.Ns mainGlobals X.mg →
    s₂.heap.Ns cenv.locals m₂ → m₂ x = some (.str ⟨#[c]⟩ t) → wpAny (model X.prog X.w) A' (eval elt cenv) (fun y s₃ => y = .bool (pb c) ∧ Keeps s₂ s₃) E' s₂
/-- x in G, G a text of the module's -/
theorem eltG_in {X : Cx} {scope : Scope} {x G z : Str} {tz : Tok} {p1 p2 p3 : Pos} (hk : scope.kind = .function) (hl : scope.names.lookup x = some .local) (hG : scope.names.lookup G = some .globalImplicit) (hm : X.mg G = some (.str z tz))
    (hd : (x == ("__debug__" : Str)) = false := by decide) (hd2 : (G == ("__debug__" : Str)) = false := by decide) :
    EltG X scope x (.Compare (.Name x p1) [.In] [.Name G p2] p3) (fun c => decide (c ∈ z.cps.toList)) := by
  intro cenv A' E' c t s₂ m₂ hs hg hmod hn hx
  refine wpAny_Compare1 ?_ rfl
  refine wpAny_Name (wpAny_loadName_local (by rw [hs]; exact hk) (show cenv.scope.names.lookup x = some .local by rw [hs]; exact hl) hn hx ?_) hd
  refine Calls.Name_function_global (by rw [hs]; exact hk) (show cenv.scope.names.lookup G = some .globalImplicit by rw [hs]; exact hG) (Calls.loadGlobal_global (by rw [hg]; exact hmod) hm ?_) hd2
  exact PyProof.Rows.in_str ⟨by rw [StrLaws.found_one z c], keeps_refl _⟩

section
variable {X : Cx} {pins : List (Addr × Obj)} {σ : L2.St} {H : Hp} {s : Shared}
/-- what the library's rule of a generator expression asks, once its code object is there -/
theorem walksG {P i : Addr} {elt : Expr} {x : Str} {scope : Scope} {pb : Nat → Bool} {a : Str} {St : Nat → Heap → Prop} {cl : List (Str × Addr)} {code : Value} {bi : Addr} {s1 s4 : Shared} {H1 : Hp} {ps more : Array Value} {Q' : Value → Shared → Prop}
    (hh : X.A.handled = none) (I : Inv X pins σ H1 s1) (hP : H1 P = some (.tbl ps)) (hi : i = s1.heap.objs.size) (W : ∀ A' : Around, A'.handled = none → Walks X.prog X.w A' i [i] [i] a.cps.size (SignAt a) St) (st : St 0 s4.heap)
    (hlt : i < s4.heap.objs.size) (hlim : s4.heap.NoLimit) (keep : ∀ b u, b ≠ P → s1.heap.get? b = some u → s4.heap.get? b = some u) (tab : s4.heap.get? P = some { cls := .none, data := .fields (ps ++ more) })
    (tr : TriplesOk (ps ++ more).toList) (gP : mainGlobals ≠ P) (os : s4.os = s1.os) (bare : AllBare s4.gens) (hel : EltG X scope x elt pb)
    (hQ : ∀ g s5, Ready X pins σ H1 P a pb g s5 → Q' (.ref g) s5) :
    ∃ Ia fp wr n₀ Pf St₀ pz F, Value.ref i = .ref Ia ∧ (∀ A' : Around, A'.handled = none → Walks X.prog X.w A' Ia fp wr n₀ Pf St₀) ∧ St₀ 0 s4.heap ∧ (∀ b ∈ fp, b < s4.heap.objs.size) ∧ s4.heap.NoLimit ∧ cStatics ∉ wr ∧
      (∀ href : Heap, (∀ b o, s4.heap.get? b = some o → href.get? b = some o) → QuietGen X.prog X.w (genEnv scope cl s4.heap.objs.size code bi X.env) x [] elt (List.range s4.heap.objs.size) wr Pf pz F href) ∧
      (∀ g h5 tk gs, gs.bare = true → s4.heap.objs.size < g → h5.objs.size = g + 1 → (∀ b o, s4.heap.get? b = some o → h5.get? b = some o) →
        WalksS X.prog X.w X.A.in4 g (g :: s4.heap.objs.size :: List.range s4.heap.objs.size) (s4.heap.objs.size :: wr) (GenOnlyQ s4.gens.size) (passing pz n₀ 0).length
          (fun j y => ∃ k, (passing pz n₀ 0)[j]? = some k ∧ F k y) (GenAt X.prog X.w X.A.in4 g s4.gens.size s4.heap.objs.size (List.range s4.heap.objs.size) wr pz n₀ F) →
        GenAt X.prog X.w X.A.in4 g s4.gens.size s4.heap.objs.size (List.range s4.heap.objs.size) wr pz n₀ F 0 { s4 with gens := s4.gens.push gs, toks := tk, heap := h5 } →
        Q' (.ref g) { s4 with gens := s4.gens.push gs, toks := tk, heap := h5 }) := by
  have gl1 : s1.heap.Ns mainGlobals X.mg := I.ok.mod.glob.keeps I.bk
  have gl4 : s4.heap.Ns mainGlobals X.mg := gl1.at fun o e => keep _ o gP e
  have gi : mainGlobals ≠ i := fun e => by
    have z := gl1.lt
    rw [e, hi] at z
    exact absurd z (Nat.lt_irrefl _)
  have ci : cStatics ≠ i := fun e => by
    obtain ⟨_, hns, _⟩ := I.nolimit
    have z := hns.lt
    rw [e, hi] at z
    exact absurd z (Nat.lt_irrefl _)
  refine ⟨i, [i], [i], a.cps.size, SignAt a, St, (fun _ => true), (fun k y => ∃ cc, a.cps[k]? = some cc ∧ y = .bool (pb cc)), rfl, W, st, ?_, hlim, ?_, ?_, ?_⟩
  · intro b hb
    rw [List.mem_singleton.mp hb]
    exact hlt
  · intro hb
    exact ci (List.mem_singleton.mp hb)
  · intro href hk
    refine ⟨fun A' E' k v s₂ m₂ _ _ _ _ _ => ?_, fun A' E' k v s₂ m₂ _ hv _ hn hx kk => ?_⟩
    · simp only [List.forIn_nil]
      exact wpAny_pure ⟨rfl, keeps_refl _⟩
    · obtain ⟨cc, u, hcc, rfl⟩ := hv
      have gl2 : s₂.heap.Ns mainGlobals X.mg := gl4.at fun o e => kk _ (List.mem_range.mpr (Heap.lt_size e)) (fun z => gi (List.mem_singleton.mp z)) o (hk _ _ e)
      exact wpAny_mono (hel _ A' E' cc u s₂ m₂ rfl I.ok.glob gl2 hn hx) (fun y s3 r => ⟨⟨cc, hcc, r.1⟩, r.2⟩) fun _ _ e => e
  · intro g h5 tk gs hgb hgl hsz hk5 W5 hat
    simp only [GxR.passing_true, List.length_range] at W5
    refine hQ g _ ⟨_, _, _, _, _, W5.in4_1, hat, ?_, fun s' hm => ?_⟩
    · intro j y sj Qj Ej hy hq
      obtain ⟨k, hkj, cc, hcc, rfl⟩ := hy
      obtain ⟨hj, ej⟩ := List.getElem?_eq_some_iff.mp hkj
      rw [List.getElem_range] at ej
      subst ej
      have e9 : a.cps.toList[j]? = some cc := by rw [Array.getElem?_toList]; exact hcc
      have hq2 : Qj (trF pb a.cps.toList j) sj := hq
      rw [trF_some e9] at hq2
      exact wpAny_truthy_bool hq2
    · have nP : s1.heap.get? P = some { cls := .none, data := .fields ps } := I.hok P _ hP
      have out : ∀ b, b < s1.heap.objs.size → b ∉ s4.heap.objs.size :: [i] := fun b hb hm => by
        rcases List.mem_cons.mp hm with z | z
        · have z2 : i < b := by rw [z]; exact hlt
          rw [hi] at z2
          exact absurd (Nat.lt_trans hb z2) (Nat.lt_irrefl _)
        · rw [List.mem_singleton.mp z, hi] at hb
          exact absurd hb (Nat.lt_irrefl _)
      have J := inv_tab (more := more) (h' := s'.heap) (g' := s'.gens) (d' := s'.drawn) (t' := s'.toks) I hP (fun b u hb e => hm.heap b u (out b (Heap.lt_size e)) (hk5 b u (keep b u hb e)))
        (hm.heap P _ (out P (Heap.lt_size nP)) (hk5 P _ tab)) (AllBare.movedS (bare.push hgb) hm)
      rw [sh_eta s1 s' (hm.os.trans os)] at J
      exact ⟨upd H1 P (.tbl (ps ++ more)), ⟨⟨ps ++ more, upd_same, tr⟩, fun b hb => upd_ne hb⟩, J⟩

theorem genG {c P : Addr} {elt iter : Expr} {x : Str} {px gpos : Pos} {scope : Scope} {pb : Nat → Bool} {te : TE} {k : Nat} {Q' : Value → Shared → Prop} {R : Str → Hp → Prop}
    (hr : Room k X.A) (TB : TabB X.base X.mg c P) (hcode : X.env.code = .ref c) (S : GenS X.env scope x) (hi : PE X iter te) (hel : EltG X scope x elt pb)
    (hs : ∀ v, genFold iter X.env v = pure v) (I : Inv X pins σ H s) (h : te σ H fun v H1 => ∃ a : Str, v = .str a ∧ TabG H1 P ∧ R a H1)
    (hQ : ∀ a H1 g s5, R a H1 → Ready X pins σ H1 P a pb g s5 → Q' (.ref g) s5) :
    wpAny (model X.prog X.w) X.A (eval (.GeneratorExp elt [⟨.Name x px, iter, [], 0⟩] scope gpos) X.env) Q' X.xe s := by
  refine wpAny_GeneratorExp_walksQ hr.hd S.co (closure_ok S.free) S.cell S.dot S.loc S.kind (Nat.lt_of_le_of_lt (Nat.le_add_right _ (3 * k + 5)) (by have := hr.dp; omega)) ?_ hs
  refine thn (hi.run pins s σ H _ I h) fun xv s1 ⟨v, H1, I1, r1, a, ev, ⟨ps, hP, ht⟩, q1⟩ => ?_
  subst ev
  obtain ⟨t, rfl⟩ := _root_.id r1
  refine wpAny_pyIter_str fun o St W hst => ?_
  have oP : s1.heap.get? P = some { cls := .none, data := .fields ps } := I1.hok P _ hP
  have pk : ∀ b u, s1.heap.get? b = some u → (s1.heap.push o).get? b = some u := fun b u e => Heap.get?_push_of_some _ e
  have cd : PySem.W.CodeHd (s1.heap.push o) c P := TB.code.keeps fun b u e => pk b u (I1.bk b u e)
  have cP : cStatics ≠ P := fun e => by
    obtain ⟨_, ⟨o', es, ep, ho, hd, _⟩, _⟩ := I1.nolimit
    rw [e, oP] at ho
    cases ho
    cases hd
  obtain ⟨bm, ob, e1, e2, e3, e4, e5, e6, e7, e8⟩ := TB.bm
  refine ⟨I1.nolimit.push o, ?_⟩
  have iP : s1.heap.objs.size ≠ P := Nat.ne_of_gt (Heap.lt_size oP)
  cases hf : codeAmong gpos ps.toList with
  | none =>
    refine wpAny_genexprCodeX hcode (cd.code (pk _ _ oP) ht) (cd.tab (pk _ _ oP)) hf fun c' h' tk hx hge hlt hco' _ htab' _ => ?_
    obtain ⟨o1, vs, f1, tf, fl, tg, inF, tx, tt, op, _, _, _, _, _, _, _, _, _, htr, _⟩ := hco'
    have kp : ∀ b u, b ≠ P → s1.heap.get? b = some u → h'.get? b = some u := fun b u hb e => hx b u hb (pk b u e)
    refine wpAny_builtinsFor (m := X.mg) (by rw [I1.ok.glob]; exact ((I1.mod.glob.keeps I1.bk).push o).extBut hx TB.gP) e1 e2 (kp _ _ e4 (I1.bk _ _ e5)) e6 e7 e8 ?_
    refine walksG hr.hd I1 hP rfl W ((W X.A hr.hd).frame _ _ _ hst fun b hb u e => hx b u (by rw [List.mem_singleton.mp hb]; exact iP) e) ?_ ((I1.nolimit.push o).extBut hx cP) kp htab'.2 htr TB.gP rfl I1.bare hel fun g s5 rd => hQ a H1 g s5 q1 rd
    have z : (s1.heap.push o).objs.size = s1.heap.objs.size + 1 := Heap.size_push ..
    show s1.heap.objs.size < h'.objs.size
    exact Nat.lt_of_lt_of_le (by rw [z]; exact Nat.lt_succ_self _) (Nat.le_trans hge (Nat.le_of_lt hlt))
  | some cv =>
    refine wpAny_genexprCode_hit hcode (cd.code (pk _ _ oP) ht) hf ?_
    refine wpAny_builtinsFor (m := X.mg) (by rw [I1.ok.glob]; exact (I1.mod.glob.keeps I1.bk).push o) e1 e2 (pk _ _ (I1.bk _ _ e5)) e6 e7 e8 ?_
    refine walksG (more := #[]) hr.hd I1 hP rfl W hst ?_ (I1.nolimit.push o) (fun b u _ e => pk b u e) (by rw [Array.append_empty]; exact pk _ _ oP) (by rw [Array.append_empty]; exact ht) TB.gP rfl I1.bare hel fun g s5 rd => hQ a H1 g s5 q1 rd
    show s1.heap.objs.size < (s1.heap.push o).objs.size
    rw [Heap.size_push]
    exact Nat.lt_succ_self _

theorem pe_allG {c P : Addr} {elt iter : Expr} {x : Str} {px p pos gpos : Pos} {scope : Scope} {pb : Nat → Bool} {te : TE} {k : Nat}
    (hr : Room k X.A) (hg : Gl X "all") (hm : X.mg "all" = none) (TB : TabB X.base X.mg c P) (hcode : X.env.code = .ref c) (S : GenS X.env scope x) (hi : PE X iter te) (hel : EltG X scope x elt pb)
    (hs : ∀ v, genFold iter X.env v = pure v)
    (he : starEach [.GeneratorExp elt [⟨.Name x px, iter, [], 0⟩] scope gpos] X.env = (false, eval (.GeneratorExp elt [⟨.Name x px, iter, [], 0⟩] scope gpos) X.env) :: starEach [] X.env := by rfl) :
    PE X (.Call (.Name "all" p) [.GeneratorExp elt [⟨.Name x px, iter, [], 0⟩] scope gpos] [] pos) (tAllS P pb te) := by
  refine ⟨fun pins s σ H Q I h => ?_⟩
  refine wpAny_Call_Name_kw (ld_blt I hg hm (by decide +kernel : bootBuiltins "all" = some (.builtin "all")) ?_)
  refine PyProof.Rows.callWith_builtin1 ?_ he (by rfl)
  rw [he]
  refine Calls.spliced_cons (genG (R := fun a H1 => ∀ H2, Tabbed P H1 H2 → Q (.bl (a.cps.toList.all pb)) H2) hr TB hcode S hi hel hs I h fun a H1 g s5 hR hG => ?_)
  obtain ⟨fp, wr, G, F, St, W, hst, htr, hI⟩ := hG
  refine Calls.spliced_nil (call_all_walkS (W.self 0 _ _ _ hst ⟨g, fp, wr, G, _, F, St, _, rfl, W, hst, htr, fun s' hmv => ?_⟩))
  obtain ⟨H2, hT, J⟩ := hI s' hmv
  exact ⟨.bl _, H2, J, rfl, by rw [all_signs a pb]; exact hR H2 hT⟩
end
end HW
/-! [f(x) for x in ..], f a def that may raise: the exception leaves the comprehension and is in the air of the def around it -/
namespace HW
open PySem PySem.Spec PyProof.Rows L2

theorem flying_less {B B' h : Heap} {l : List Env} {e : Addr} {Z : Obj → Prop} (k : ∀ b o, B'.get? b = some o → B.get? b = some o) (x : HandSPX.FlyingZ B l e Z h) : HandSPX.FlyingZ B' l e Z h := by
  have gone : ∀ b, B.get? b = none → B'.get? b = none := fun b z => by
    cases q : B'.get? b with
    | none => rfl
    | some o =>
      rw [k b o q] at z
      cases z
  obtain ⟨x1, x2, x3, oe, vs, T, oT, ts, y1, y2, y3, y4, y5, y⟩ := x
  refine ⟨fun b o q => x1 b o (k b o q), gone _ x2, funFrames_none x3 fun b hb => ?_, oe, vs, T, oT, ts, y1, y2, y3, y4, gone _ y5, y⟩
  obtain ⟨env, he, q⟩ := List.mem_filterMap.mp hb
  have all : ∀ {l : List Env}, h.FunFrames B l → env ∈ l → B.get? b = none := fun {l} => by
    induction l with
    | nil => intro _ hm; cases hm
    | cons v r ih =>
      intro ⟨_, ⟨L, _, hf, hn, _, _⟩, hr⟩ hm
      rcases List.mem_cons.mp hm with z | z
      · rw [z, hf] at q
        cases q
        exact hn
      · exact ih hr z
  exact gone b (all x3 he)
/-- an exception that is held stays so when a block of names is let go -/
theorem held_gone {B h h' : Heap} {l : List Env} {e L C : Addr} {Z : Obj → Prop} {m m' : Str → Option Value} (x : HandSPX.HeldZ B l e Z L h) (hn : h.Ns C m) (hn' : h'.Ns C m') (sb : Heap.SameBut C h h') (hC : B.get? C = none) : HandSPX.HeldZ B l e Z L h' := by
  obtain ⟨x1, x2, x3, oe, vs, T, oT, ts, y1, y2, y3, y4, y5, y6, y7, y8, y9⟩ := x
  obtain ⟨oC, es, ep, c1, c2, _⟩ := hn
  have apart : ∀ {b : Addr} {o : Obj} {us : Array Value}, h.get? b = some o → o.data = .fields us → b ≠ C := fun {b o us} p q z => by
    rw [z, c1] at p
    cases p
    rw [c2] at q
    cases q
  refine ⟨fun b o q => (sb.2 b fun z => ?_).trans (x1 b o q), x2, Heap.FunFrames.sameBut sb hn' x3, oe, vs, T, oT, ts, (sb.2 _ (apart y1 y3)).trans y1, y2, y3, y4, y5, y6, (sb.2 _ (apart y7 y8)).trans y7, y8, y9⟩
  rw [z, hC] at q
  cases q

/-- the block's context, its wish about exceptions told -/
abbrev blkW (X : Cx) (s : Shared) (H : Hp) (scope : Scope) (cl : List (Str × Addr)) (C : Addr) (fp : List Addr) : Cx :=
  (X.blk s H scope (compEnvC scope cl C X.env) fp).wish fun e s' => notedBy (model X.prog X.w) X.A (compEnvC scope cl C X.env) (fun x s'' => CompFails (model X.prog X.w) X.A X.xe (compEnvC scope cl C X.env) x s'') e s'

section
variable {X : Cx} {pins : List (Addr × Obj)} {σ : L2.St} {H3 : Hp} {s3 : Shared} {scope : Scope} {cl : List (Str × Addr)} {fp : List Addr} {E : XK}
/-- what a callee lets out within the block comes into the def's air -/
theorem blk_passes (hs : X.stack = X.env :: X.outer) (hf : X.env.frame = some X.env.locals) (tk : Takes X (fun cls d _ H => E cls d H)) (I3 : L2.Inv X pins σ H3 s3)
    (hfp : ∀ b ∈ fp, (b ∈ X.ex ∨ X.s_0.heap.objs.size ≤ b) ∧ b ≠ X.env.locals ∧ (∀ x c, X.env.cells.lookup x = some c → c ≠ b) ∧ ∀ p ∈ X.pn ++ pins, p.1 ≠ b) :
    Passes (L2.CX X.prog X.w) (blkW X s3 H3 scope cl s3.heap.objs.size fp) E := by
  intro pins' σ' H5 s5 e s' I5 c
  obtain ⟨a, B, H', cls, d, rfl, fl, hok, ub, na, os, ag, hE⟩ := c
  have fl : HandSPX.FlyingZ B X.stack a (Zc cls d) s'.heap := fl
  have ub : UB (frs X.stack) H5 H' s5.heap B s'.heap := ub
  have bs : Un (frs X.stack) fp H3 H5 s3.heap s5.heap := I5.base
  have hfr : X.A.frames = some (X.env :: X.outer) := by rw [I3.ok.frames, hs]
  -- the block's names
  obtain ⟨mC, hnC, _⟩ := I5.loc
  have hnC : s5.heap.Ns s3.heap.objs.size mC := hnC
  have fC : H5 s3.heap.objs.size = none := I5.free
  obtain ⟨oC, esC, epC, c1, c2, _⟩ := _root_.id hnC
  have nfC : s3.heap.objs.size ∉ frs X.stack := fun hm => by
    obtain ⟨_, o, q, _⟩ := I3.stack.mem hm
    exact absurd (Heap.lt_size q) (Nat.lt_irrefl _)
  have bC : B.get? s3.heap.objs.size = some oC := ub.keep _ _ c1 fC nfC
  have gC : H' s3.heap.objs.size = none := ub.free _ _ c1 fC
  have hnC' : s'.heap.Ns s3.heap.objs.size mC := hnC.at fun o q => by
    rw [c1] at q
    cases q
    exact fl.1 _ _ bC
  -- the ground without the block
  obtain ⟨B', b1, b2⟩ := restrict B fun b => decide (b ≠ s3.heap.objs.size)
  have kB : ∀ b, b ≠ s3.heap.objs.size → B'.get? b = B.get? b := fun b hb => b1 b (decide_eq_true hb)
  have nB : B'.get? s3.heap.objs.size = none := b2 _ (by simp)
  have sub : ∀ b o, B'.get? b = some o → B.get? b = some o := fun b o q => by
    by_cases hb : b = s3.heap.objs.size
    · rw [hb, nB] at q
      cases q
    · exact (kB b hb).symm.trans q
  have fl' := flying_less sub fl
  have old : ∀ {b : Addr} {o : Obj}, s3.heap.get? b = some o → b ≠ s3.heap.objs.size := fun q => Nat.ne_of_lt (Heap.lt_size q)
  -- the state without the exception
  obtain ⟨G, g1, g2⟩ := restrict s'.heap fun b => (B'.get? b).isSome || decide (b ∈ frs X.stack)
  have gB : ∀ b o, B'.get? b = some o → G.get? b = some o := fun b o q => by
    rw [g1 b (by simp [q])]
    exact fl'.1 b o q
  have gF : ∀ b, b ∈ frs X.stack → G.get? b = s'.heap.get? b := fun b hb => g1 b (by simp [hb])
  have og : ∀ b o, G.get? b = some o → s'.heap.get? b = some o ∧ (b ∉ frs X.stack → B'.get? b = some o) := fun b o q => by
    cases z : ((B'.get? b).isSome || decide (b ∈ frs X.stack)) with
    | false =>
      rw [g2 b z] at q
      cases q
    | true =>
      rw [g1 b z] at q
      refine ⟨q, fun hb => ?_⟩
      cases y : B'.get? b with
      | some u =>
        rw [fl'.1 b u y] at q
        exact q
      | none =>
        rw [y] at z
        simp [hb] at z
  have hokG : HOk X.prog X.w H' G := fun b o q => by
    have ne : ∀ {c : Addr} {u : HO}, H' c = some u → c ≠ s3.heap.objs.size := fun {c u} y z => by
      rw [z, gC] at y
      cases y
    refine (hok b o q).stay (fun c u hc y => gB c u ((kB c ?_).trans y)) (fun _ y => y) fun _ _ y => y
    rcases hc with hc | hc
    · rw [hc]
      exact ne q
    · exact ne hc
  have J : L2.Inv X pins σ H' { s3 with heap := G, gens := s'.gens, drawn := s'.drawn, toks := s'.toks } := by
    refine I3.call (ch := fp) ⟨fun b o q n hb hx => ?_, fun b o q n hb hx => ?_, fun b o q n hx => ?_, fun b o q hx => ?_, fun b xs q => ub.tups b xs (bs.tups b xs q), fun b o u q => ub.frzs b o u (bs.frzs b o u q), fun b ps q => ?_⟩ hokG ag hfp
    · exact gB b o ((kB b (old q)).trans (ub.keep b o (bs.keep b o q n hb hx) (bs.free b o q n hx) hb))
    · obtain ⟨sl, y⟩ := bs.slot b o q n hb hx
      obtain ⟨sl', y'⟩ := ub.slot b _ y hb
      exact ⟨sl', by rw [gF b hb]; exact y'⟩
    · obtain ⟨o', y⟩ := bs.there b o q hx
      exact ub.free b o' y (bs.free b o q n hx)
    · obtain ⟨o', y⟩ := bs.there b o q hx
      by_cases hb : b ∈ frs X.stack
      · obtain ⟨sl, y'⟩ := ub.slot b o' y hb
        exact ⟨_, by rw [gF b hb]; exact y'⟩
      · obtain ⟨o2, y'⟩ := ub.there b o' y hb
        exact ⟨o2, gB b o2 ((kB b (old q)).trans y')⟩
    · obtain ⟨m1, y1⟩ := bs.tbls b ps q
      obtain ⟨m2, y2⟩ := ub.tbls b _ y1
      exact ⟨m1 ++ m2, by rw [y2, Array.append_assoc]⟩
  have upG : G.UpToSlots s'.heap := Heap.UpToSlots.of_keeps fun b o q => (og b o q).1
  have gnC : G.get? s3.heap.objs.size = none := by
    cases q : G.get? s3.heap.objs.size with
    | none => rfl
    | some o =>
      have z := (og _ o q).2 nfC
      rw [nB] at z
      cases z
  -- the block notes it, lets its names go, hands it on
  show wpAny (model X.prog X.w) X.A (noteFrame (.ref a) (compEnvC scope cl s3.heap.objs.size X.env)) _ _ s'
  rw [noteFrame_env (.ref a) (show (compEnvC scope cl s3.heap.objs.size X.env).frame = X.env.frame from rfl)]
  rw [hs] at fl'
  refine HandSPX.looks_onZ Zc.steady hfr hf fl' fun h1 hh1 up1 => ?_
  have n1 : h1.Ns s3.heap.objs.size mC := hnC'.upToSlots up1
  refine ⟨mC, n1, fun h2 m2 n2 sb => ?_⟩
  have hh2 := held_gone hh1 n1 n2 sb nB
  obtain ⟨_, _, _, oe, vs, T, oT, ts, y1, _, y3, y4, _⟩ := _root_.id hh2
  show wpAny (model X.prog X.w) X.A (PySem.passOn "comprehension.variables-let-go" (.ref a) (compEnvC scope cl s3.heap.objs.size X.env) : Sem Value) _ _ _
  unfold PySem.passOn
  refine wpAny_bind (wpAny_field y1 y3 y4 ?_)
  rw [if_neg (show ¬ ((Value.ref T == Value.none) = true) from by simp)]
  have fin : wpAny (model X.prog X.w) X.A (setFlight (.ref a) (compEnvC scope cl s3.heap.objs.size X.env).frame) (fun _ s4 => wpAny (model X.prog X.w) X.A (throw (.ref a) : Sem Value) (fun _ _ => False) X.xe s4) X.xe { s' with heap := h2 } := by
    rw [show (compEnvC scope cl s3.heap.objs.size X.env).frame = some X.env.locals from hf]
    refine HandSPX.setFlight_onZ hh2 fun h3 hh3 up3 => wpAny_throw (tk _ _ ?_)
    refine ⟨a, B', _, pins, σ, H', cls, d, rfl, J, fun b o q hb => (og b o q).2 hb, ?_, .inr (.inr (by rw [hs]; exact hh3)), na, os.trans I5.os, ag, hE⟩
    have upC : Heap.UpToSlots G h2 := fun b o q hd => by
      obtain ⟨sl, z⟩ := (upG.trans up1) b o q hd
      exact ⟨sl, (sb.2 b fun w => by
        have w' : b = s3.heap.objs.size := w
        rw [w', gnC] at q
        cases q).trans z⟩
    exact upC.trans up3
  first
    | exact wpAny_bind (wpAny_pure (wpAny_bind fin))
    | exact wpAny_bind fin

/-- [elt for tg in iter], as a value; elt may raise what E says -/
theorem pe_lcX {elt tg iter : Expr} {own : List (Str × Nat)} {pos : Pos} {wi : TI} {g : TG} {te : TE} (hc : X.calm = true) (hN : X.N.Nodup) (hs : X.stack = X.env :: X.outer) (hf : X.env.frame = some X.env.locals) (tk : Takes X (fun cls d _ H => E cls d H))
    (hi : PI X tg iter wi) (ok : BlkOk X.N X.env.scope scope own)
    (hg : ∀ (s : Shared) (H : Hp) (C : Addr) (cl : List (Str × Addr)) (fp : List Addr), PG (blkW X s H scope cl C fp) tg g)
    (he : ∀ (s : Shared) (H : Hp) (C : Addr) (cl : List (Str × Addr)) (fp : List Addr), Passes (L2.CX X.prog X.w) (blkW X s H scope cl C fp) E → PE (blkW X s H scope cl C fp) elt te)
    (hfs : ∀ x, foldedSetIterable iter X.env x = pure x := by intro _; rfl) :
    PE X (.ListComp elt [⟨tg, iter, [], 0⟩] scope pos) (tLc wi g tYes te (own.map (·.2))) := by
  refine ⟨fun pins s σ H Q I h => ?_⟩
  rw [eval_ListComp]
  have clo := closure_ok (scope := scope) (env := X.env) fun y hy e => by
    rcases ok.free y hy e with k | k
    · exact I.ok.has _ (.inl k)
    · exact I.ok.has _ (.inr k)
  refine comprehension_at (use := none) rfl hfs clo ok.kind (fun y hy e => by rw [ok.uniq y hy, e]) (thn (hi.run pins s σ H _ I h) fun xv s1 hx => thn hx fun itv s2 ⟨it, fp, tn, J, H2, e, I2, T, st2, f2, q⟩ => ?_)
  subst e
  refine wpAny_newObj_type (newEnv_comp ?_) (by show 0 ≤ sizeLine; decide)
  have D2 : H2 s2.heap.objs.size = none := I2.hok.fresh (Nat.le_refl _)
  obtain ⟨W, ⟨m0, w0⟩, turn⟩ := q s2.heap.objs.size D2
  -- the new list stands, then the block of names
  have I3 : L2.Inv X pins σ (upd H2 s2.heap.objs.size (.lst [])) { s2 with heap := s2.heap.push { cls := .type "list", data := .seq ([] : List Value).toArray } } :=
    I2.laid (t' := s2.toks) (fun b o e => Heap.get?_push_of_some _ e) (Nat.le_refl _) ⟨Nat.zero_le _, [], 0, .nil, Heap.get?_push_size _ rfl⟩
  have lt2 : ∀ b ∈ fp, b < s2.heap.objs.size := fun b hb => let ⟨o, e, _⟩ := T.obj _ _ st2 b hb; Heap.lt_size e
  generalize hD : s2.heap.objs.size = D at *
  generalize hs3 : ({ s2 with heap := s2.heap.push { cls := .type "list", data := .seq ([] : List Value).toArray } } : Shared) = s3 at I3
  generalize hH3 : upd H2 D (.lst []) = H3 at *
  have h3 : s3.heap = s2.heap.push { cls := .type "list", data := .seq ([] : List Value).toArray } := by rw [← hs3]
  have f3 : ∀ b ∈ fp, FpOk X pins H3 b ∧ b < s3.heap.objs.size := fun b hb => by
    have z := lt2 b hb
    have zs : s3.heap.objs.size = s2.heap.objs.size + 1 := by rw [h3, Heap.size_push]
    refine ⟨⟨?_, (f2 b hb).2⟩, by rw [zs, hD]; exact Nat.lt_succ_of_lt z⟩
    rw [← hH3, upd_ne (Nat.ne_of_lt z)]
    exact (f2 b hb).1
  have turnK : ∀ b ∈ fp, (b ∈ X.ex ∨ X.s_0.heap.objs.size ≤ b) ∧ b ≠ X.env.locals ∧ (∀ x c, X.env.cells.lookup x = some c → c ≠ b) ∧ ∀ p ∈ X.pn ++ pins, p.1 ≠ b := fun b hb =>
    let ⟨_, y1, _, y3, y4, y5⟩ := (f3 b hb).1; ⟨y3, y1, y4, y5⟩
  have st3 : tn 0 s3.heap := T.keep _ _ _ st2 fun b _ o e => by rw [h3]; exact Heap.get?_push_of_some _ e
  have I4 := (block_start I3 ok hN f3).wish fun e s' => notedBy (model X.prog X.w) X.A (compEnvC scope (cellsFrom (s3.heap.objs.size + 1) scope.names (cloFrom X.env.cells scope.names [])) s3.heap.objs.size X.env)
    (fun x s'' => CompFails (model X.prog X.w) X.A X.xe (compEnvC scope (cellsFrom (s3.heap.objs.size + 1) scope.names (cloFrom X.env.cells scope.names [])) s3.heap.objs.size X.env) x s'') e s'
  have pass := blk_passes (scope := scope) (cl := cellsFrom (s3.heap.objs.size + 1) scope.names (cloFrom X.env.cells scope.names [])) hs hf tk I3 turnK
  have pg := hg s3 H3 s3.heap.objs.size (cellsFrom (s3.heap.objs.size + 1) scope.names (cloFrom X.env.cells scope.names [])) fp
  have pe := he s3 H3 s3.heap.objs.size (cellsFrom (s3.heap.objs.size + 1) scope.names (cloFrom X.env.cells scope.names [])) fp pass
  show codeAny _ _ (.compStart (.ListComp elt [⟨tg, iter, [], 0⟩] scope pos) 0 (.ref it) (.ref D) (compEnvC scope (cellsFrom (s3.heap.objs.size + 1) scope.names (cloFrom X.env.cells scope.names [])) s3.heap.objs.size X.env))
    (compEnds (model X.prog X.w) X.A X.xe none (EP X pins σ Q) (.ref D) (compEnvC scope (cellsFrom (s3.heap.objs.size + 1) scope.names (cloFrom X.env.cells scope.names [])) s3.heap.objs.size X.env)) { s3 with heap := pushCells (s3.heap.push { cls := .type "dict", data := .dict #[] }) scope.names }
  generalize cellsFrom (s3.heap.objs.size + 1) scope.names (cloFrom X.env.cells scope.names []) = cl at *
  have I4 : L2.Inv (blkW X s3 H3 scope cl s3.heap.objs.size fp) [] (wipe σ (own.map (·.2))) H3 { s3 with heap := pushCells (s3.heap.push { cls := .type "dict", data := .dict #[] }) scope.names } := I4
  have st4 : tn 0 ({ s3 with heap := pushCells (s3.heap.push { cls := .type "dict", data := .dict #[] }) scope.names } : Shared).heap := T.keep _ _ _ st3 fun b _ o e => pushCells_keeps _ _ _ _ (Heap.get?_push_of_some _ e)
  generalize ({ s3 with heap := pushCells (s3.heap.push { cls := .type "dict", data := .dict #[] }) scope.names } : Shared) = s4 at I4 st4 ⊢
  have own' : ∀ {pl : List (Addr × Obj)} {σ' : L2.St} {H' : Hp} {s' : Shared}, L2.Inv (blkW X s3 H3 scope cl s3.heap.objs.size fp) pl σ' H' s' → (∀ b ∈ fp, H' b = none) → pl = [] → ∀ b ∈ fp, FpOk (blkW X s3 H3 scope cl s3.heap.objs.size fp) pl H' b := fun {pl σ' H' s'} I' hn hp b hb =>
    ⟨hn b hb, (I'.ok.exf b hb).1, I'.ok.exfs b hb, .inl hb, fun x c e => (I'.ok.exf b hb).2 x c e, fun p z => by rw [hp] at z; exact absurd (show p ∈ ([] : List (Addr × Obj)) ++ [] from z) (by simp)⟩
  have loop : codeAny (model X.prog X.w) X.A (.compLoop (.ListComp elt [⟨tg, iter, [], 0⟩] scope pos) 0 (.ref it) (.ref D) (compEnvC scope cl s3.heap.objs.size X.env))
      (compEnds (model X.prog X.w) X.A X.xe none (EP X pins σ Q) (.ref D) (compEnvC scope cl s3.heap.objs.size X.env)) s4 := by
    refine compLoop_any (fun n s' => ∃ i H', L2.Inv (blkW X s3 H3 scope cl s3.heap.objs.size fp) [] (wipe σ (own.map (·.2))) H' s' ∧ tn i s'.heap ∧ (∀ b ∈ fp, H' b = none) ∧ W i n H') ?_ m0 ⟨0, H3, I4, st4, fun b hb => (f3 b hb).1.1, w0⟩
    rintro n s5 ⟨i, H5, I5, st5, n5, w5⟩
    rcases turn i n H5 w5 with ⟨stop, qq⟩ | ⟨go, Nx, hNx, step⟩
    · refine thn (T.done (blkW X s3 H3 scope cl s3.heap.objs.size fp) rfl rfl rfl hc i [] s5 _ H5 _ I5 (own' I5 n5 rfl) st5 stop) fun r s6 ⟨hr, I6⟩ => ?_
      subst hr
      have I7 : L2.Inv X pins σ H5 s6 := I3.call' (ch := fp) I6.os I6.base I6.hok I6.bare turnK
      obtain ⟨m, hn, _⟩ := I6.loc
      refine ⟨m, hn, fun h'' sb => ?_⟩
      obtain ⟨y0, y1, _, y3, y4, y5⟩ := I3.fpOk (H' := H5) (Nat.le_refl _) (show H5 s3.heap.objs.size = none from I6.free)
      exact ⟨.ref D, H5, I7.turned (t' := s6.toks) (fun b o hb e => (sb.2 b hb).trans e) y0 y1 y3 y4 y5, rfl, qq⟩
    · refine thn (T.item (blkW X s3 H3 scope cl s3.heap.objs.size fp) rfl rfl rfl hc i [] s5 _ H5 _ I5 (own' I5 n5 rfl) st5 go) fun r s6 ⟨u, hr, h6⟩ => ?_
      subst hr
      refine thn h6 fun _ s7 ⟨x, H7, I7, r7, y7, st7, n7⟩ => ?_
      refine thn (pg.run _ s7 _ H7 x u _ (I7.pinned (own' I7 n7 rfl) (T.obj _ _ st7)) r7 (step x H7 y7)) fun _ s8 ⟨σ8, H8, I8, w8, q8⟩ => ?_
      refine wpAny_tests_nil ?_
      have q8 : te σ8 H8 fun y H4 => ∃ acc, H4 D = some (.lst acc) ∧ acc.length < sizeLine ∧ Nx (upd H4 D (.lst (acc ++ [y]))) := by
        have z : (if true = true then te σ8 H8 fun y H4 => ∃ acc, H4 D = some (.lst acc) ∧ acc.length < sizeLine ∧ Nx (upd H4 D (.lst (acc ++ [y]))) else Nx H8) := q8
        rwa [if_pos rfl] at z
      rw [if_pos rfl]
      refine thn (pe.run _ s8 σ8 H8 _ I8 q8) fun z s9 ⟨yv, H9, I9, r9, acc, hD9, hz9, nx⟩ => ?_
      refine app_ok (X := blkW X s3 H3 scope cl s3.heap.objs.size fp) I9 hD9 hz9 r9 fun s' I' => ?_
      obtain ⟨m', hm, w'⟩ := hNx _ nx
      have pin' : ∀ b ∈ fp, ∀ o, s7.heap.get? b = some o → s'.heap.get? b = some o ∧ (upd H9 D (.lst (acc ++ [yv]))) b = none := fun b hb o e =>
        let y := I'.pin (b, o) (List.mem_append_right _ (List.mem_append_right _ (mem_pinsAt hb e)))
        ⟨y.1, y.2.1⟩
      refine ⟨m', hm, i + 1, _, (I'.unpinned (pins := [])).weak (by rw [← w8, wipe_length]) (fun j v e => ?_), T.keep _ _ _ st7 fun b hb o e => (pin' b hb o e).1, fun b hb => ?_, w'⟩
      · rw [← w8] at e
        exact (wipe_some e).1
      · obtain ⟨o, e, _⟩ := T.obj _ _ st7 b hb
        exact (pin' b hb o e).2
  exact codeAny_compStart_list loop (T.self X.A 0 _ _ _ st4 loop)
end
end HW
namespace HW
open PySem PySem.Spec PyProof.Rows L2 GxR

/-! ### the text by places -/
def top (i : Nat) : Stmt := PySem.Challenge.pw_heldwater_k01_basins_refused.main.body.getD i (.Pass ⟨0, 0, 0, 0⟩)
abbrev sIsName : Stmt := top 12
abbrev sBadInit : Stmt := inClass (top 15) 0
abbrev sCheck : Stmt := top 20
abbrev sNumber : Stmt := top 21
abbrev sPInit : Stmt := inClass (top 22) 0
abbrev sPNext : Stmt := inClass (top 22) 1
abbrev sPPassed : Stmt := inClass (top 22) 2
abbrev sPName : Stmt := inClass (top 22) 3
abbrev sPAmount : Stmt := inClass (top 22) 4
abbrev sPAmounts : Stmt := inClass (top 22) 5
abbrev sReadSite : Stmt := top 23
abbrev sReadRight : Stmt := top 24
abbrev sSiteText : Stmt := top 25
abbrev sRightText : Stmt := top 26
abbrev sRInit : Stmt := inClass (top 27) 0
abbrev sRLine : Stmt := inClass (top 27) 1
abbrev sRSiteF : Stmt := inClass (top 27) 2
abbrev sRRightF : Stmt := inClass (top 27) 3
abbrev sRTake : Stmt := inClass (top 27) 4
abbrev sROrder : Stmt := inClass (top 27) 5
abbrev sParse : Stmt := top 28
abbrev sCell : Stmt := top 31
abbrev sDigits : Stmt := top 34
abbrev sDraw : Stmt := top 35
abbrev sTold : Stmt := top 36
abbrev sWrong : Stmt := top 37
abbrev sLaw : Stmt := top 38

/-- where things stand behind the top -/
structure Ad where
  (c1 P1 c2 P2 : Addr)
  (CN CB CW CP CR : Addr)
  (fIsName fBadInit fCheck fNumber fPInit fPNext fPPassed fPName fPAmount fPAmounts fReadSite fReadRight fSiteText fRightText : Addr)
  (fRInit fRLine fRSiteF fRRightF fRTake fROrder fParse fCell fDigits fDraw fTold fWrong fLaw : Addr)

/-- a def of the text, how its arguments come to its parameters -/
def Def (K : PySem.W.Frag) (x qual : Str) (st : Stmt) (ps : List Str) (f : Addr) : Prop := ∃ fd, Fun K x qual st f fd ∧ Binds K fd ps []
/-- a def that keeps a promise -/
def Ok (P : Program) (w : World) (K : PySem.W.Frag) (mg : Str → Option Value) (base : Heap) (k : Nat) (f : Addr) (ps : List Str) (sp : Sp) : Prop :=
  ∃ fd, FnOk P w K mg base (L2.CX P w) k f fd ps sp ∧ Binds K fd ps [] ∧ PySem.W.keepIn K (.ref f) = true
theorem Def.ok {P : Program} {w : World} {K : PySem.W.Frag} {mg : Str → Option Value} {base : Heap} {x qual : Str} {st : Stmt} {ps : List Str} {f : Addr} {k : Nat} {sp : Sp} (D : Def K x qual st ps f)
    (h : ∀ fd, Fun K x qual st f fd → FnOk P w K mg base (L2.CX P w) k f fd ps sp) : Ok P w K mg base k f ps sp := by
  obtain ⟨fd, F, b⟩ := D
  exact ⟨fd, h fd F, b, F.kp⟩
/-- a method, by its class -/
structure MethOk (P : Program) (w : World) (K : PySem.W.Frag) (mg : Str → Option Value) (base : Heap) (k : Nat) (C : Addr) (m : Str) (f : Addr) (ps : List Str) (sp : Sp) : Prop where
  ok : Ok P w K mg base k f ps sp
  at_ : Meth K C m f

/-! ### the heap between two points -/
def noTbl : HO → Bool
  | .tbl _ => false
  | _ => true
/-- what is tracked stands as it was, but for the objects of ch; the two tables may have grown -/
structure Ev (A : Ad) (ch : List Addr) (H H' : Hp) : Prop where
  keep : ∀ b o, b ∉ ch → noTbl o = true → H b = some o → H' b = some o
  there : ∀ b o, H b = some o → ∃ o', H' b = some o'
  t1 : TabG H' A.P1
  t2 : TabG H' A.P2
def Tb (A : Ad) (H : Hp) : Prop := TabG H A.P1 ∧ TabG H A.P2
section
variable {A : Ad} {ch : List Addr} {H H1 H2 : Hp} {b p : Addr} {o : HO}
theorem Ev.tb (e : Ev A ch H H1) : Tb A H1 := ⟨e.t1, e.t2⟩
theorem Ev.refl (t : Tb A H) : Ev A ch H H := ⟨fun _ _ _ _ h => h, fun _ o h => ⟨o, h⟩, t.1, t.2⟩
theorem Ev.trans (a : Ev A ch H H1) (c : Ev A ch H1 H2) : Ev A ch H H2 :=
  ⟨fun b o n t h => c.keep b o n t (a.keep b o n t h), fun b o h => let ⟨o', h'⟩ := a.there b o h; c.there b o' h', c.t1, c.t2⟩
theorem Ev.mono {ch' : List Addr} (a : Ev A ch H H1) (h : ∀ b ∈ ch, b ∈ ch') : Ev A ch' H H1 := ⟨fun b o n t e => a.keep b o (fun z => n (h b z)) t e, a.there, a.t1, a.t2⟩
theorem Ev.wide (a : Ev A [] H H1) : Ev A ch H H1 := a.mono fun _ z => absurd z (by simp)
theorem Ev.free (a : Ev A ch H H1) (h : H1 b = none) : H b = none := by
  cases q : H b with
  | none => rfl
  | some o =>
    obtain ⟨o', z⟩ := a.there b o q
    rw [z] at h
    cases h
/-- the objects of ch that were not yet there don't count -/
theorem Ev.newer {ch' : List Addr} (a : Ev A ch H H1) (h : ∀ b ∈ ch, b ∉ ch' → H b = none) : Ev A ch' H H1 :=
  ⟨fun b o n t e => a.keep b o (fun z => by rw [h b z n] at e; cases e) t e, a.there, a.t1, a.t2⟩
theorem tabg_new {P : Addr} (t : TabG H P) (h : H p = none) : TabG (upd H p o) P := by
  obtain ⟨ps, e, r⟩ := t
  exact ⟨ps, by rw [upd_ne (ne_of_none e h)]; exact e, r⟩
theorem tabg_chg {P : Addr} {o' : HO} (t : TabG H P) (h : H p = some o') (n : noTbl o' = true) : TabG (upd H p o) P := by
  obtain ⟨ps, e, r⟩ := t
  refine ⟨ps, ?_, r⟩
  rw [upd_ne (ne_of e h fun z => by rw [← z] at n; cases n)]
  exact e
theorem tb_new (t : Tb A H) (h : H p = none) : Tb A (upd H p o) := ⟨tabg_new t.1 h, tabg_new t.2 h⟩
theorem tb_chg {o' : HO} (t : Tb A H) (h : H p = some o') (n : noTbl o' = true) : Tb A (upd H p o) := ⟨tabg_chg t.1 h n, tabg_chg t.2 h n⟩
/-- a new object -/
theorem Ev.new (t : Tb A H) (h : H p = none) : Ev A ch H (upd H p o) :=
  ⟨fun b u _ _ e => by rw [upd_ne (ne_of_none e h)]; exact e, fun b u e => by rw [upd_ne (ne_of_none e h)]; exact ⟨u, e⟩, (tb_new t h).1, (tb_new t h).2⟩
/-- a changed object -/
theorem Ev.chg {o' : HO} (t : Tb A H) (h : H p = some o') (n : noTbl o' = true) (hp : p ∈ ch) : Ev A ch H (upd H p o) := by
  refine ⟨fun b u z _ e => by rw [upd_ne fun w => z (by rw [w]; exact hp)]; exact e, fun b u e => ?_, (tb_chg t h n).1, (tb_chg t h n).2⟩
  by_cases w : b = p
  · rw [w]; exact ⟨o, upd_same⟩
  · rw [upd_ne w]; exact ⟨u, e⟩
theorem tabg_tabbed {P Q : Addr} (t : TabG H Q) (x : Tabbed P H H1) : TabG H1 Q := by
  by_cases e : Q = P
  · rw [e]; exact x.1
  · obtain ⟨ps, q, r⟩ := t
    exact ⟨ps, by rw [x.2 Q e]; exact q, r⟩
theorem Ev.tabbed {P : Addr} (t : Tb A H) (tp : TabG H P) (x : Tabbed P H H1) : Ev A ch H H1 := by
  refine ⟨fun b o _ n e => ?_, fun b o e => ?_, tabg_tabbed t.1 x, tabg_tabbed t.2 x⟩
  · rw [x.2 b fun z => ?_]
    · exact e
    · obtain ⟨ps, q, _⟩ := tp
      rw [z, q] at e
      cases e
      cases n
  · by_cases z : b = P
    · obtain ⟨ps, q, _⟩ := x.1
      rw [z]
      exact ⟨_, q⟩
    · rw [x.2 b z]
      exact ⟨o, e⟩
end

/-! ### values -/
def vO : Option Int → V
  | some n => .int n
  | none => .non
def vS : Option Str → V
  | some z => .str z
  | none => .non
end HW
/-! BadBasin(line, reason): its __init__ says super().__init__(..) above a class of the text above ValueError, then two stores; NoLine(): without arguments -/
namespace HW
open PySem PySem.W PySem.Calls PyProof.Rows PySem.HandSPX

structure BadTxt (P : Program) (K : Frag) (C fI : Addr) : Prop where
  ox : L2.OexC K C
  noL : findIn K (.ref C) "line" = some none
  noR : findIn K (.ref C) "reason" = some none
  iC : findIn K (.ref C) "__init__" = some (some (.ref fI))
  tI : typeIn K (.ref fI) = some (.type "function")
  any : nsIn K cStatics "thirdparty.any" = some none
  sup : ks_superIn K C C "__init__" = some (some (.builtin "ValueError.__init__"))
  subV : subIn K (.ref C) (.type "ValueError") = some true
  mroC : mroIn K C (.ref C) = some true
  xi : excInitIn K C [.type "ValueError", .type "Exception", .type "BaseException", .type "object"] "ValueError.__new__" = true
  fn : ∃ (oc : Value) (od : Option Addr) (kV doc pm : Value) (an : Option Addr) (cda : Addr) (ct : Value) (osl : Array (Option Value)) (cc : Addr) (ccl : Value) (cdd : Option Addr) (vs : Array Value) (ccs : Array (Option Value)) (file : Str) (tf : Tok) (cl : Value) (cld : Option Addr) (csl : Array (Option Value)),
    K.lookup fI = some ⟨oc, od, .func (ksFn "__init__" "BadBasin.__init__" (L2.defArgs sBadInit) (L2.defBody sBadInit) (L2.defScope sBadInit) .none kV doc pm an (.ref cda) ct cc), osl⟩ ∧ codeIn K (.ref cda) "BadBasin.__init__" = true ∧
      K.lookup cda = some ⟨ccl, cdd, .fields vs, ccs⟩ ∧ vs[2]? = some (.str file tf) ∧ ((P.main.file : Str) == file) = true ∧ K.lookup cc = some ⟨cl, cld, .cell (some (.ref C)), csl⟩
  top : (P.main.scope.names.lookup ("super" : Str)).isSome = false

/-- what __init__ leaves of a fresh exception at x -/
structure BadEnd (h h' : Heap) (x C : Addr) (n tn : Value) : Prop where
  ex : ∃ (dx t1 : Addr), (∀ b o, b ≠ x → h.get? b = some o → h'.get? b = some o) ∧ h'.get? x = some { cls := .ref C, dict := some dx, data := .fields #[.ref t1, .none, .none, .none, .bool false, .none] } ∧ h.objs.size ≤ dx ∧ dx ≠ x ∧
    h'.Ns1 dx (fun y => if y = "reason" then some tn else if y = "line" then some n else none)
def badM (a b c : Value) : Str → Option Value := fun y => List.lookup y [(("reason" : Str), c), ("line", b), ("self", a)]
theorem badM_self (a b c : Value) : badM a b c "self" = some a := by
  have e1 : (("self" : Str) == "reason") = false := by decide +kernel
  have e2 : (("self" : Str) == "line") = false := by decide +kernel
  simp [badM, List.lookup, e1, e2]
theorem badM_line (a b c : Value) : badM a b c "line" = some b := by
  have e1 : (("line" : Str) == "reason") = false := by decide +kernel
  simp [badM, List.lookup, e1]
theorem badM_reason (a b c : Value) : badM a b c "reason" = some c := by simp [badM, List.lookup]
theorem badCells : ∀ y ∈ (L2.defScope sBadInit).names, y.2 ≠ NameKind.cell := by decide +kernel
theorem badSelf : (L2.defScope sBadInit).names.lookup ("self" : Str) = some NameKind.local := by decide +kernel
theorem badLine : (L2.defScope sBadInit).names.lookup ("line" : Str) = some NameKind.local := by decide +kernel
theorem badReason : (L2.defScope sBadInit).names.lookup ("reason" : Str) = some NameKind.local := by decide +kernel
theorem badSuper : (L2.defScope sBadInit).names.lookup ("super" : Str) = some NameKind.globalImplicit := by decide +kernel
theorem badClass : (L2.defScope sBadInit).names.lookup ("__class__" : Str) = some NameKind.free := by decide +kernel
theorem small_log {n : Int} (h0 : 0 ≤ n) (h : n < 1000000) : n.natAbs.log2 < 1920 := by
  by_cases e : n.natAbs = 0
  · rw [e]
    decide
  · exact Nat.lt_of_lt_of_le ((Nat.log2_lt e).mpr (show n.natAbs < 2 ^ 20 by omega)) (by decide)

section
variable {prog : Program} {w : World} {A : Around} {E : Value → Shared → Prop} {R : Result → Shared → Prop} {s : Shared} {K : Frag} {mg mb : Str → Option Value} {C fI : Addr}
theorem bad_init (T : BadTxt prog K C fI) {x t0 : Addr} {n : Int} {tn tr : Tok} {r : Str} (X : K.In s.heap) (hlim : s.heap.NoLimit) (hx : s.heap.get? x = some (excO C t0)) (hnx : K.lookup x = none) (hg : s.heap.Ns mainGlobals mg) (hs : mg "super" = none)
    (hb : s.heap.Ns builtinsNs mb) (hbb : ∀ y : Str, y ≠ "__name__" → mb y = bootBuiltins y) (n0 : 0 ≤ n) (n1 : n < 1000000) (hr : r.length ≤ 1000) (hroom : A.depth < recursionLimit)
    (hq : ∀ h' tk, BadEnd s.heap h' x C (.int n tn) (.str r tr) → R (.ok (.ret .none)) { s with heap := h', toks := tk }) :
    codeAny (model prog w) A (.call (.ref fI) ⟨[.ref x, .int n tn, .str r tr], []⟩) R s := by
  obtain ⟨oc, od, kV, doc, pm, an, cda, ct, osl, cc, ccl, cdd, vs, ccs, file, tf, cl, cld, csl, ho, hcd, hco, hvs, hfile, hcell⟩ := T.fn
  obtain ⟨nm, q, N, bs, bm, sn, sub, ab, col, dd, k0, k1, k2, k3, k5, hC, hbm⟩ := T.ox.cls
  have hcl : clsIn K C = some { name := nm, bases := bs, mro := .ref C :: bm, ns := N, qualname := q, hasDict := true, slotNames := sn, subclasses := sub, abstract := ab, collection := col, hasDel := false } := by unfold clsIn; rw [hC] <;> rfl
  have nb : ∀ {b : Addr} {o : Obj}, K.lookup b = some o → b ∉ [x] := fun e z => by
    rw [List.mem_singleton.mp z, hnx] at e
    cases e
  have X0 : K.In (hideAll s.heap [x]) := fun b o e => hideAll_get _ (X b o e) (nb e)
  refine ks_codeAny_call_defAt (binds := [("self", .ref x), ("line", .int n tn), ("reason", .str r tr)]) hroom (X _ _ ho) rfl hlim (codeRec_of X hcd) rfl (BindsTo.of_eq (by first | rfl | with_unfolding_all rfl)) badCells (fun y hy => ?_) (fun h0 hns hk => ?_)
  · rcases List.mem_cons.mp hy with e | hy
    · rw [e]; exact badSelf
    rcases List.mem_cons.mp hy with e | hy
    · rw [e]; exact badLine
    · rw [List.mem_singleton.mp hy]; exact badReason
  have F0 : Fr (hideAll s.heap [x]) s.heap.objs.size h0 (fun y => List.lookup y (List.reverse [(("self" : Str), Value.ref x), ("line", .int n tn), ("reason", .str r tr)])) := ⟨hns, fun b o e => hk b o (of_hideAll _ e), Nat.le_of_eq (hideAll_size _ _)⟩
  have hxL : x ≠ s.heap.objs.size := Nat.ne_of_lt (Heap.lt_size hx)
  have N0 : News (hideAll s.heap [x]) s.heap.objs.size h0 [(x, excO C t0)] := fun p hp => by
    rw [List.mem_singleton.mp hp]
    exact ⟨hk _ _ hx, hxL, hideAll_none _ (List.mem_singleton.mpr rfl)⟩
  have X1 : K.In h0 := X.keeps hk
  have I0 : InstAt h0 x (excO C t0) C none := ⟨hk _ _ hx, rfl, rfl, trivial⟩
  obtain ⟨oD, hD1, hD2⟩ : ∃ oD, h0.get? C = some oD ∧ ∃ cd, oD.data = .cls cd := ⟨_, X1 _ _ hC, _, rfl⟩
  obtain ⟨cdD, hD2⟩ := hD2
  have hns : h0.Ns s.heap.objs.size (badM (.ref x) (.int n tn) (.str r tr)) := hns
  have F0 : Fr (hideAll s.heap [x]) s.heap.objs.size h0 (badM (.ref x) (.int n tn) (.str r tr)) := F0
  have mS := badM_self (.ref x) (.int n tn) (.str r tr)
  have mL := badM_line (.ref x) (.int n tn) (.str r tr)
  have mR := badM_reason (.ref x) (.int n tn) (.str r tr)
  generalize badM (.ref x) (.int n tn) (.str r tr) = m at F0 hns mS mL mR
  show _root_.PySem.wpAt _ (A.deeper (ksEnv "BadBasin.__init__" (L2.defScope sBadInit) s.heap.objs.size fI (.ref cda) cc)) (.func (L2.defBody sBadInit) (ksEnv "BadBasin.__init__" (L2.defScope sBadInit) s.heap.objs.size fI (.ref cda) cc)) (execs (L2.defBody sBadInit) (ksEnv "BadBasin.__init__" (L2.defScope sBadInit) s.heap.objs.size fI (.ref cda) cc)) _ _ _
  refine ks_wpAt_execs_cons (ks_wpAt_Expr_any (ks_wpAt_MethodCall (ks_wpAt_super_base (env := ksEnv "BadBasin.__init__" (L2.defScope sBadInit) s.heap.objs.size fI (.ref cda) cc) badSuper badClass (by decide +kernel) rfl (X1 _ _ ho) rfl (by rfl) rfl (X1 _ _ hco) rfl hvs hfile T.top ?_)))
  refine ks_loadName_global rfl badSuper (loadGlobal_builtin (env := ksEnv "BadBasin.__init__" (L2.defScope sBadInit) s.heap.objs.size fI (.ref cda) cc) (hg.keeps hk) hs (hb.keeps hk) ((hbb _ (by decide +kernel)).trans (by decide +kernel : bootBuiltins "super" = some (.type "super"))) ⟨rfl, ?_⟩)
  refine wpAny_loadName_free rfl badClass rfl ⟨_, X1 _ _ hcell, rfl⟩ ?_
  refine wpAny_loadName_local rfl badSelf hns mS ?_
  refine ks_wpAny_isType_cls hD1 hD2 ⟨rfl, ?_⟩
  refine ks_wpAny_call_super hD1 hD2 (hk _ _ hx) rfl (fun c e => by cases e) (looks_mroIn X1 T.mroC) (fun h1 e1 k1 => ?_)
  obtain ⟨F1, N1, lso⟩ := ks_newsPush (s := ⟨h0, s.gens, s.drawn, s.toks + 3, s.os⟩) F0 N0 rfl e1 k1
  have I1 : InstAt h1 x (excO C t0) C none := ⟨k1 _ _ (hk _ _ hx), rfl, rfl, trivial⟩
  refine kxs_method kxs_ValueError F1 X0 N1 (List.mem_cons_self) I1 T.any T.sup T.subV (by decide +kernel) (fun u h2 F2 N2 l2 => ?_)
  refine kxs_callWith1 N2 List.mem_cons_self (Calls.spliced_cons (wpAny_JoinedStr (pos := ⟨0, 0, 0, 0⟩) ?_)) (by rfl) (by rfl)
  have ld : ∀ {p : Pos} {y : Str} {v : Value} {tk : Nat} {hh : Heap} {Q : Value → Shared → Prop} {E' : Value → Shared → Prop}, Fr (hideAll s.heap [x]) s.heap.objs.size hh m → (L2.defScope sBadInit).names.lookup y = some NameKind.local → m y = some v → (y == ("__debug__" : Str)) = false → Q v { s with heap := hh, toks := tk } →
      wpAny (model prog w) (A.deeper (ksEnv "BadBasin.__init__" (L2.defScope sBadInit) s.heap.objs.size fI (.ref cda) cc)) (eval (.Name y p) (ksEnv "BadBasin.__init__" (L2.defScope sBadInit) s.heap.objs.size fI (.ref cda) cc)) Q E' { s with heap := hh, toks := tk } :=
    fun F hl hv hd hq => wpAny_Name (wpAny_loadName_local rfl hl F.ns hv hq) hd
  have lenN : ((Str.ofString (toString n)).length : Nat) ≤ 6 := toString_length_le n0 (by decide) (by omega)
  have la : ∀ a b : Str, (a ++ b).length = a.length + b.length := fun a b => Str.length_append a b
  have l1 : (("line " : Str)).length = 5 := by decide +kernel
  have l2' : ((": " : Str)).length = 2 := by decide +kernel
  have l0 : (Str.empty).length = 0 := by decide +kernel
  have line6 : 2000 ≤ sizeLine := by rw [sizeLine_eq]; decide
  refine Calls.Constant_str ⟨_, _, rfl, by rw [la]; omega, ?_⟩
  refine wpAny_FormattedValue_plain (ld F2 badLine mL (by decide +kernel) (wpAny_formatField_int (small_log n0 n1) ⟨_, _, rfl, by rw [la, la]; omega, ?_⟩))
  refine Calls.Constant_str ⟨_, _, rfl, by rw [la, la, la]; omega, ?_⟩
  refine wpAny_FormattedValue_plain (ld F2 badReason mR (by decide +kernel) (wpAny_formatField_str ⟨_, _, rfl, by rw [la, la, la, la]; omega, ?_⟩ ⟨_, _, rfl, by rw [la, la, la, la]; omega, ?_⟩ (by omega)))
  all_goals
    refine ⟨by rw [la, la, la, la]; omega, Calls.spliced_nil ⟨kxs_at N2 List.mem_cons_self, ?_⟩⟩
    have hux : u ≠ x := fun z => absurd (l2 (x, excO C t0) (List.mem_cons_of_mem _ List.mem_cons_self)) (by rw [z]; exact Nat.lt_irrefl _)
    have hsx : h0.objs.size ≠ x := fun z => absurd (lso (x, excO C t0) List.mem_cons_self) (by show ¬ x < h0.objs.size; rw [z]; exact Nat.lt_irrefl _)
    refine kxs_call F2 X0 N2 F.excBase_ValueError T.xi List.mem_cons_self (.tail hux (.tail hsx (.head fun p z => absurd z (by simp)))) (by show 1 ≤ sizeLine; omega) (fun t' h3 F3 N3 l3 => ?_)
    have hx3 : h3.get? x = some (excO C t') := (N3 (x, excO C t') (by simp)).1
    have X3 : K.In h3 := X0.keeps F3.keep
    -- self.line = line
    refine wpAt_of_wpAny (wpAny_execs_cons (plainObj_wpAny_Assign_Attribute (ld F3 badLine mL (by decide +kernel) (ld F3 badSelf mS (by decide +kernel) ?_)) (by rfl)))
    refine set_plain X3 (ox := excO C t') (od := none) ⟨hx3, rfl, rfl, trivial⟩ T.ox.sa ?_
    refine exc_osa X3 hx3 hcl (show refsVE (.ref C :: bm) = true from hbm) rfl T.noL (fun h4 tk4 dx k4 dn dne hx4 hn4 => ?_)
    have nbase : ∀ b o, (hideAll s.heap [x]).get? b = some o → b ≠ x := fun b o e z => by
      rw [z, hideAll_none _ (List.mem_singleton.mpr rfl)] at e
      cases e
    have F4 : Fr (hideAll s.heap [x]) s.heap.objs.size h4 m := ⟨F3.ns.at fun o e => k4 _ o hxL.symm e, fun b o e => k4 b o (nbase b o e) (F3.keep b o e), F3.above⟩
    have X4 : K.In h4 := X0.keeps F4.keep
    obtain ⟨oE, _, _, hoE, _, _⟩ := hn4.count (Within.cons "line" (.int n tn) Within.nil)
    -- self.reason = reason
    refine wpAny_execs_cons (plainObj_wpAny_Assign_Attribute (ld F4 badReason mR (by decide +kernel) (ld F4 badSelf mS (by decide +kernel) ?_)) (by rfl))
    refine set_plain X4 (ox := { cls := .ref C, dict := some dx, data := .fields #[.ref t', .none, .none, .none, .bool false, .none] }) (od := some oE) ⟨hx4, rfl, rfl, hoE⟩ T.ox.sa ?_
    refine OEX.osa_old X4 hx4 hn4 (Within.cons "line" (.int n tn) Within.nil) (by decide) hcl (show refsVE (.ref C :: bm) = true from hbm) rfl T.noR (fun h5 tk5 k5 hn5 => ?_)
    refine wpAny_execs_nil (hq h5 tk5 ⟨dx, t', fun b o hb e => ?_, k5 _ _ dne.symm hx4, ?_, dne, hn5⟩)
    · have lt : b < s.heap.objs.size := Heap.lt_size e
      have bdx : b ≠ dx := fun z => by
        have y := F3.ns.lt
        rw [z] at lt
        exact absurd (Nat.lt_trans lt (Nat.lt_of_lt_of_le y dn)) (Nat.lt_irrefl _)
      exact k5 b o bdx (k4 b o hb (F3.keep b o (hideAll_get _ e fun z => hb (List.mem_singleton.mp z))))
    · exact Nat.le_trans (Nat.le_of_lt F3.ns.lt) dn
/-- BadBasin(n, r): the exception at e, its dict at d -/
structure BadMade (h h' : Heap) (e C d : Addr) (n r : Value) : Prop where
  keep : ∀ b o, h.get? b = some o → h'.get? b = some o
  new : h.objs.size ≤ e
  obj : ∃ oe vs, h'.get? e = some oe ∧ oe.cls = .ref C ∧ oe.dict = some d ∧ oe.data = .fields vs ∧ vs[1]? = some .none
  dbig : h.objs.size ≤ d
  dne : d ≠ e
  ns : h'.Ns1 d (fun y => if y = "reason" then some r else if y = "line" then some n else none)
theorem bad_made (T : BadTxt prog K C fI) {n : Int} {tn tr : Tok} {r : Str} (X : K.In s.heap) (hlim : s.heap.NoLimit) (hg : s.heap.Ns mainGlobals mg) (hs : mg "super" = none)
    (hb : s.heap.Ns builtinsNs mb) (hbb : ∀ y : Str, y ≠ "__name__" → mb y = bootBuiltins y) (n0 : 0 ≤ n) (n1 : n < 1000000) (hr : r.length ≤ 1000) (hroom : A.depth + 1 < recursionLimit)
    (hq : ∀ h' tk e d, BadMade s.heap h' e C d (.int n tn) (.str r tr) → R (.ok (.ret (.ref e))) { s with heap := h', toks := tk }) :
    codeAny (model prog w) A (.call (.ref C) ⟨[.int n tn, .str r tr], []⟩) R s := by
  obtain ⟨nm, q, N, bs, bm, sn, sub, ab, col, dd, k0, k1, k2, k3, k5, hC, hbm⟩ := T.ox.cls
  obtain ⟨hp, g, dr, tk, os⟩ := s
  have k : ∀ b o, hp.get? b = some o → ((hp.push (kdv_tup [.int n tn, .str r tr])).push (excO C hp.objs.size)).get? b = some o := fun b o e => Heap.get?_push_of_some _ (Heap.get?_push_of_some _ e)
  have hget : ((hp.push (kdv_tup [.int n tn, .str r tr])).push (excO C hp.objs.size)).get? (hp.objs.size + 1) = some (excO C hp.objs.size) := by heap_get
  have hnx : K.lookup (hp.objs.size + 1) = none := by
    cases e : K.lookup (hp.objs.size + 1) with
    | none => rfl
    | some o =>
      have z : hp.get? (hp.objs.size + 1) = some o := X _ _ e
      exact absurd (Nat.lt_of_succ_lt (Heap.lt_size z)) (Nat.lt_irrefl _)
  refine call_own F.excBase_ValueError (fun Y => refsVE_contains Y bm hbm) (X _ _ hC) (looks_findIn X T.iC) (fun self => bind_fn X self T.tI) (by show 2 ≤ sizeLine; rw [sizeLine_eq]; decide) ?_
  refine bad_init (mg := mg) (mb := mb) (s := ⟨(hp.push (kdv_tup [.int n tn, .str r tr])).push (excO C hp.objs.size), g, dr, tk, os⟩) T (X.keeps k) (hlim.keeps k) hget hnx (hg.keeps k) hs (hb.keeps k) hbb n0 n1 hr (by exact hroom) fun h' tk' ⟨dx, t1, k', hx, dn, dne, hns⟩ => ?_
  have old : ∀ b o, hp.get? b = some o → h'.get? b = some o := fun b o e => k' b o (Nat.ne_of_lt (Nat.lt_succ_of_lt (Heap.lt_size e))) (k b o e)
  have z : hp.objs.size + 1 + 1 ≤ dx := by
    have y := dn
    rw [Heap.size_push, Heap.size_push] at y
    exact y
  exact ⟨rfl, hq h' tk' (hp.objs.size + 1) dx ⟨old, Nat.le_succ _, ⟨_, _, hx, rfl, rfl, rfl, rfl⟩, Nat.le_trans (Nat.le_trans (Nat.le_succ _) (Nat.le_succ _)) z, dne, hns⟩⟩
end
end HW
namespace HW
open PySem PySem.Spec PyProof.Rows L2
section
variable {X : Cx} {C fI : Addr}
abbrev badF (n : Int) (r : Str) : List (Str × V) := [("reason", .str r), ("line", .int n)]
theorem pmk_bad {a b : Expr} {ta : TA} {p pos : Pos} {k : Nat} (T : BadTxt X.prog X.K C fI) (gC : X.mg "BadBasin" = some (.ref C)) (hs : X.mg "super" = none) (hr : Room k X.A) (ha : PA X [a, b] ta) (hg : Gl X "BadBasin" := by rfl)
    (he : starEach (a :: [b]) X.env = (false, eval a X.env) :: starEach [b] X.env := by rfl) (hpl : (backTo pos (starEach [b] X.env)).any (·.1) = false := by rfl) :
    PMk X (.Call (.Name "BadBasin" p) [a, b] [] pos) (fun σ H Q => ta σ H fun vs H1 => ∃ n r, vs = [.int n, .str r] ∧ 0 ≤ n ∧ n < 1000000 ∧ r.length ≤ 1000 ∧ ∀ d, H1 d = none → Q (.ref C) (some d) (upd H1 d (.xd (badF n r)))) := by
  intro pins s σ H Q I h
  refine wpAny_Call_Name_kw (ld_glob I hg gC ?_)
  refine PySem.W.callWith_K (h₀ := X.base) I.ok.mod.kin T.ox.kC (thn (ha.run pos pins s σ H _ I h) fun us s1 ⟨vs, H1, I1, r1, n, r, ev, n0, n1, hl, q1⟩ => ⟨I1.kIn, ?_⟩) he hpl
  subst ev
  obtain ⟨u1, u2, rfl, ⟨tn, rfl⟩, ⟨tr, rfl⟩⟩ := vals2 r1
  show wpAny _ _ (call (.ref C) [.int n tn, .str r tr]) _ _ _
  have hlim := I1.nolimit
  obtain ⟨mb, b1, b2⟩ := I1.mod.blt
  have bk := I1.bk
  obtain ⟨hp, g, dr, tk, os⟩ := s1
  refine wpAny_call (bad_made (mg := X.mg) (mb := mb) T I1.kIn hlim (I1.mod.glob.keeps bk) hs (b1.keeps bk) b2 n0 n1 hl (by have := hr.dp; omega) fun h' tk' e d M => ?_)
  show MkP X pins σ Q (.ref e) ⟨h', g, dr, tk', os⟩
  obtain ⟨oe, fv, hoe, hc, hd, hdat, h1⟩ := M.obj
  obtain ⟨G, g1, g2⟩ := restrict h' fun b => decide (b ≠ e)
  have gk : ∀ b, b ≠ e → G.get? b = h'.get? b := fun b hb => g1 b (decide_eq_true hb)
  have ge : G.get? e = none := g2 e (by simp)
  have old : ∀ b o, hp.get? b = some o → G.get? b = some o := fun b o q => (gk b (Nat.ne_of_lt (Nat.lt_of_lt_of_le (Heap.lt_size q) M.new))).trans (M.keep b o q)
  have ob : ObjOk X.prog X.w (upd H1 d (.xd (badF n r))) G d (.xd (badF n r)) :=
    ⟨_, M.ns.at (fun o q => (gk d M.dne).trans q), relO_put ⟨tr, rfl⟩ (relO_put ⟨tn, rfl⟩ fun _ => True.intro)⟩
  have J : L2.Inv X pins σ (upd H1 d (.xd (badF n r))) ⟨G, g, dr, tk', os⟩ := I1.laid (t' := tk') old M.dbig ob
  refine ⟨e, oe, fv, ⟨G, g, dr, tk', os⟩, _, .ref C, some d, rfl, J, fun b o q => ?_, ge, hoe, ⟨hc, hd⟩, hdat, h1, ?_, rfl, I1.bare, raises_own T.ox.exC T.ox.tyC, q1 d (I1.hok.fresh M.dbig)⟩
  · by_cases hb : b = e
    · have q' : G.get? b = some o := q
      rw [hb, ge] at q'
      cases q'
    · exact (gk b hb).symm.trans q
  · rw [upd_ne (Ne.symm M.dne)]
    exact I1.hok.fresh M.new

/-- X(), X an own class of exceptions without own __init__ -/
theorem pmk_own0 {bmB : List Value} {B newId initId : String} {x : Str} {p pos : Pos} (F : ExcBaseFacts B newId initId bmB) (q : PySem.W.excIn X.K C bmB newId = true) (gC : X.mg x = some (.ref C))
    (kC : PySem.W.keepIn X.K (.ref C) = true) (r : Raises X (.ref C)) (hg : Gl X x) (hdb : (x == ("__debug__" : Str)) = false := by decide) :
    PMk X (.Call (.Name x p) [] [] pos) (fun _ H Q => Q (.ref C) none H) := by
  intro pins s σ H Q I h
  refine wpAny_Call_Name_kw (ld_glob I hg gC ?_ hdb)
  refine PySem.W.callWith_K0 I.kIn kC ?_
  obtain ⟨bm, N, nm, qn, bs, hdct, sn, sub, ab, col, dd, k0, k1, k2, k3, k5, mN, hC, hN, hni, T⟩ := exc_obj I.kIn q
  refine wpAny_call_exc_subT F T hC hN hni (fun h' e hm => ?_) (Nat.zero_le _)
  exact mk_of I hm r h (I.hok.gone hm.new)

/-- what isinstance asks of an exception's class, its instances with a dict -/
structure IsTxt (K : PySem.W.Frag) (D : Addr) : Prop where
  cl : (PySem.W.clsIn K D).isSome = true
  hg : PySem.W.findIn K (.ref D) "__getattribute__" = some (some (.builtin "BaseException.__getattribute__"))
  hk : PySem.W.findIn K (.ref D) "__getattr__" = some none
  hs : PySem.W.subIn K (.ref D) (.type "BaseException") = some true
  ha : PySem.W.findIn K (.ref D) "__class__" = some (some (.builtin "object.__class__"))
  hn : PySem.W.specialIn K (.builtin "object.__class__") "__get__" = some (some (.builtin "getset_descriptor.__get__"))
  ht : PySem.W.takesIn K (.builtin "object.__class__") = some true
  hm : PySem.W.mroIn K D (.type "object") = some true
theorem call_isD {a D dd : Addr} {oe : Obj} {pn : List (Addr × Obj)} (T : IsTxt X.K D) (hz : Zc (.ref D) (some dd) oe) (hf : ∃ vs, oe.data = .fields vs) :
    CallR (X.suite a ((a, oe) :: pn)) (.builtin "isinstance") (fun xs H Q => ∃ (c : V) (cv : Value) (b : Bool), xs = [.ref a, c] ∧ (∀ u, RelV c u → u = cv) ∧ PySem.W.kitOne X.K (.ref D) cv = some b ∧ (∃ fs, H dd = some (.xd fs)) ∧ Q (.bl b) H) := by
  intro pins s σ H xs us Q I r h
  obtain ⟨c, cv, b, rfl, hcv, e, ⟨fs, hd⟩, q⟩ := h
  obtain ⟨u1, u2, rfl, r1, r2⟩ := vals2 r
  obtain rfl : u1 = Value.ref a := r1
  have ec := hcv _ r2
  subst ec
  obtain ⟨hget, _⟩ := I.pin (a, oe) (List.mem_append.mpr (.inl List.mem_cons_self))
  have od : ∃ o, s.heap.get? dd = some o := objOk_get (I.hok dd _ hd)
  obtain ⟨od, hod⟩ := od
  obtain ⟨vs, hv⟩ := hf
  have J : PySem.W.InstAt s.heap a oe D (some od) := ⟨hget, hz.1, by unfold PySem.W.notCls; rw [hv] <;> rfl, by rw [hz.2]; exact hod⟩
  exact PySem.W.kia_one (PySem.W.kitx_exc T.cl T.hg T.hk T.hs T.ha T.hn T.ht T.hm) I.kIn J e (fun z => nomatch z) fun tk => ⟨.bl b, H, I.kept (t' := tk) fun _ _ z => z, rfl, q⟩
end
end HW
/-! what the top has left, in one structure; calls in short -/
namespace HW
open PySem PySem.Spec PyProof.Rows L2 GxR

/-- a def whose code object is told -/
def DefC (K : PySem.W.Frag) (x qual : Str) (st : Stmt) (ps : List Str) (f c : Addr) : Prop :=
  ∃ (oc : Value) (od : Option Addr) (kV doc pm : Value) (an : Option Addr) (ct : Value) (osl : Array (Option Value)) (fd : FuncData), fd = PySem.W.fnOf x qual (defArgs st) (defBody st) (defScope st) .none kV doc pm an (.ref c) ct ∧
    K.lookup f = some ⟨oc, od, .func fd, osl⟩ ∧ PySem.W.codeIn K (.ref c) qual = true ∧ Binds K fd ps [] ∧ PySem.W.keepIn K (.ref f) = true

structure Tx (P : Program) (K : PySem.W.Frag) (mg : Str → Option Value) (A : Ad) : Prop where
  -- the module's names
  gIsName : mg "is_name" = some (.ref A.fIsName)
  gCheck : mg "check" = some (.ref A.fCheck)
  gNumber : mg "number_of" = some (.ref A.fNumber)
  gReadSite : mg "read_site" = some (.ref A.fReadSite)
  gReadRight : mg "read_right" = some (.ref A.fReadRight)
  gSiteText : mg "site_text" = some (.ref A.fSiteText)
  gRightText : mg "right_text" = some (.ref A.fRightText)
  gParse : mg "parse_basin" = some (.ref A.fParse)
  gCell : mg "_law_cell" = some (.ref A.fCell)
  gDigitsF : mg "_law_digits" = some (.ref A.fDigits)
  gDraw : mg "_law_draw" = some (.ref A.fDraw)
  gTold : mg "_law_told" = some (.ref A.fTold)
  gWrong : mg "_law_wrong" = some (.ref A.fWrong)
  gNoLine : mg "NoLine" = some (.ref A.CN)
  gBad : mg "BadBasin" = some (.ref A.CB)
  gWater : mg "WaterError" = some (.ref A.CW)
  gPieces : mg "Pieces" = some (.ref A.CP)
  gReading : mg "Reading" = some (.ref A.CR)
  gNameMost : ∃ t, mg "NAME_MOST" = some (.int 6 t)
  gMonthsMost : ∃ t, mg "MONTHS_MOST" = some (.int 4 t)
  gSitesMost : ∃ t, mg "SITES_MOST" = some (.int 4 t)
  gRightsMost : ∃ t, mg "RIGHTS_MOST" = some (.int 4 t)
  gAmountMost : ∃ t, mg "AMOUNT_MOST" = some (.int 99 t)
  gTravelMost : ∃ t, mg "TRAVEL_MOST" = some (.int 2 t)
  gNAME : ∃ t, mg "NAME" = some (.int 0 t)
  gNEXT : ∃ t, mg "NEXT" = some (.int 1 t)
  gROOM : ∃ t, mg "ROOM" = some (.int 4 t)
  gHELD : ∃ t, mg "HELD" = some (.int 5 t)
  gLetters : ∃ t, mg "LETTERS" = some (.str letters t)
  gDigits : ∃ t, mg "DIGITS" = some (.str digits t)
  gNoL : ∃ t, mg "NO_LINE" = some (.str "not a line" t)
  -- the built-ins that no name of the module hides
  bLen : mg "len" = none
  bAll : mg "all" = none
  bStr : mg "str" = none
  bInt : mg "int" = none
  bTuple : mg "tuple" = none
  bEnum : mg "enumerate" = none
  bIsI : mg "isinstance" = none
  bRange : mg "range" = none
  bSuper : mg "super" = none
  bVE : mg "ValueError" = none
  -- the defs
  dIsName : DefC K "is_name" "is_name" sIsName ["text"] A.fIsName A.c1
  dNumber : DefC K "number_of" "number_of" sNumber ["piece", "most"] A.fNumber A.c2
  dCheck : Def K "check" "check" sCheck ["holds"] A.fCheck
  dPInit : Def K "__init__" "Pieces.__init__" sPInit ["self", "line"] A.fPInit
  dPNext : Def K "next" "Pieces.next" sPNext ["self"] A.fPNext
  dPPassed : Def K "passed" "Pieces.passed" sPPassed ["self", "word"] A.fPPassed
  dPName : Def K "name" "Pieces.name" sPName ["self"] A.fPName
  dPAmount : Def K "amount" "Pieces.amount" sPAmount ["self", "word", "most", "without"] A.fPAmount
  dPAmounts : Def K "amounts" "Pieces.amounts" sPAmounts ["self", "months"] A.fPAmounts
  dReadSite : Def K "read_site" "read_site" sReadSite ["pieces", "months"] A.fReadSite
  dReadRight : Def K "read_right" "read_right" sReadRight ["pieces", "months"] A.fReadRight
  dSiteText : Def K "site_text" "site_text" sSiteText ["site"] A.fSiteText
  dRightText : Def K "right_text" "right_text" sRightText ["right"] A.fRightText
  dRInit : Def K "__init__" "Reading.__init__" sRInit ["self"] A.fRInit
  dRLine : Def K "line" "Reading.line" sRLine ["self", "text"] A.fRLine
  dRSiteF : Def K "site_fault" "Reading.site_fault" sRSiteF ["self", "site"] A.fRSiteF
  dRRightF : Def K "right_fault" "Reading.right_fault" sRRightF ["self", "right"] A.fRRightF
  dRTake : Def K "take" "Reading.take" sRTake ["self", "text"] A.fRTake
  dROrder : Def K "check_order" "Reading.check_order" sROrder ["self"] A.fROrder
  dParse : Def K "parse_basin" "parse_basin" sParse ["text"] A.fParse
  dCell : Def K "_law_cell" "_law_cell" sCell ["_law_script", "_law_k"] A.fCell
  dDigits : Def K "_law_digits" "_law_digits" sDigits ["_law_script", "_law_first", "_law_last"] A.fDigits
  dDraw : Def K "_law_draw" "_law_draw" sDraw ["_law_box", "_law_many"] A.fDraw
  dTold : Def K "_law_told" "_law_told" sTold ["_law_text"] A.fTold
  dWrong : Def K "_law_wrong" "_law_wrong" sWrong [] A.fWrong
  -- the classes
  cP : Cls K A.CP
  kP : Mk K A.CP A.fPInit
  mPNext : Meth K A.CP "next" A.fPNext
  mPPassed : Meth K A.CP "passed" A.fPPassed
  mPName : Meth K A.CP "name" A.fPName
  mPAmount : Meth K A.CP "amount" A.fPAmount
  mPAmounts : Meth K A.CP "amounts" A.fPAmounts
  nPRows : NoAttr K A.CP "rows"
  cR : Cls K A.CR
  kR : Mk K A.CR A.fRInit
  mRLine : Meth K A.CR "line" A.fRLine
  mRSiteF : Meth K A.CR "site_fault" A.fRSiteF
  mRRightF : Meth K A.CR "right_fault" A.fRRightF
  mRTake : Meth K A.CR "take" A.fRTake
  mROrder : Meth K A.CR "check_order" A.fROrder
  nRSites : NoAttr K A.CR "sites"
  nRRights : NoAttr K A.CR "rights"
  nRMonths : NoAttr K A.CR "months"
  -- the errors
  xN : PySem.W.excIn K A.CN [.type "ValueError", .type "Exception", .type "BaseException", .type "object"] "ValueError.__new__" = true
  kN : PySem.W.keepIn K (.ref A.CN) = true
  sN : PySem.W.subIn K (.ref A.CN) (.type "BaseException") = some true
  tN : PySem.W.typeIn K (.ref A.CN) = some (.type "type")
  eN : PySem.W.exmOne K (.ref A.CN) (.ref A.CN) = some true
  bad : BadTxt P K A.CB A.fBadInit
  eB : PySem.W.exmOne K (.ref A.CB) (.ref A.CW) = some true
  iB : IsTxt K A.CB
  fB : XfC K A.CB
  fBl : PySem.W.findIn K (.ref A.CB) "line" = some none
  fBr : PySem.W.findIn K (.ref A.CB) "reason" = some none
  oB : PySem.W.kitOne K (.ref A.CB) (.ref A.CB) = some true
  oV : PySem.W.kitOne K (.ref A.CB) (.type "ValueError") = some true

/-- the air of a def's body -/
abbrev TkE (X : Cx) (E : XK) : Prop := Takes X (fun cls d _ H => E cls d H)
section
variable {P : Program} {w : World} {K : PySem.W.Frag} {mg : Str → Option Value} {base : Heap}
theorem DefC.ok {x qual : Str} {st : Stmt} {ps N : List Str} {f c : Addr} {k : Nat} {sp : Sp} (D : DefC K x qual st ps f c) (S : FnScope N ps (defScope st)) (len : ∀ vs H Q E, sp vs H Q E → vs.length = ps.length)
    (hbody : ∀ (A : Around) (outer : List Env) (s : Shared) (H : Hp) (vs : List V) (Q : VK) (E : XK), Room k (A.deeper (envOfC qual (defScope st) s.heap.objs.size f (.ref c))) → sp vs H Q E →
      ∃ t, PSs (cxOf (L2.CX P w) P w K mg base N qual (defScope st) f (.ref c) A outer s H E) (defBody st) t ∧ t { nx := fun _ H' => Q .non H', rt := Q } (start N vs) H) : Ok P w K mg base (k + 1) f ps sp := by
  obtain ⟨oc, od, kV, doc, pm, an, ct, osl, fd, rfl, lk, hcd, b, kp⟩ := D
  exact ⟨_, fn_of lk hcd S len fun A outer s H vs Q E hr hsp => hbody A outer s H vs Q E hr hsp, b, kp⟩
theorem Def.okX {x qual : Str} {st : Stmt} {f : Addr} {N ps : List Str} {k : Nat} {sp : Sp} (D : Def K x qual st ps f) (S : FnScope N ps (defScope st)) (len : ∀ vs H Q E, sp vs H Q E → vs.length = ps.length)
    (hbody : ∀ (cdv : Value) (A : Around) (outer : List Env) (s : Shared) (H : Hp) (vs : List V) (Q : VK) (E : XK), Room k (A.deeper (envOfC qual (defScope st) s.heap.objs.size f cdv)) → sp vs H Q E →
      ∃ t, PSs (cxOf (L2.CX P w) P w K mg base N qual (defScope st) f cdv A outer s H E) (defBody st) t ∧ t { nx := fun _ H' => Q .non H', rt := Q } (start N vs) H) : Ok P w K mg base (k + 1) f ps sp :=
  D.ok fun _ F => F.okX S len hbody
end
section
variable {X : Cx} {j k : Nat} {f C : Addr} {ps : List Str} {sp : Sp} {E : XK} {x m : Str} {p pos apos : Pos} {e o : Expr} {es : List Expr} {ta : TE} {t : TA}
def tF (sp : Sp) (E : XK) (t : TA) : TE := fun σ H Q => t σ H fun vs H1 => sp vs H1 Q E
def tF0 (sp : Sp) (E : XK) : TE := fun σ H Q => sp [] H Q E
def tM (C : Addr) (m : Str) (sp : Sp) (E : XK) (ta : TE) (t : TA) : TE := fun σ H Q => ta σ H fun x H1 => ∃ a dx fs, x = .ref a ∧ H1 a = some (.ins C dx fs) ∧ fs.lookup m = none ∧ t σ H1 fun vs H2 => sp (x :: vs) H2 Q E
def tM0 (C : Addr) (m : Str) (sp : Sp) (E : XK) (ta : TE) : TE := fun σ H Q => ta σ H fun x H1 => ∃ a dx fs, x = .ref a ∧ H1 a = some (.ins C dx fs) ∧ fs.lookup m = none ∧ sp [x] H1 Q E
def tNw (C : Addr) (sp : Sp) (E : XK) (t : TA) : TE := fun σ H Q => t σ H fun vs H1 => ∀ x dx, H1 x = none → H1 dx = none → dx ≠ x → sp (.ref x :: vs) (upd (upd H1 dx (.own x)) x (.ins C dx [])) (fun v H2 => v = .non ∧ Q (.ref x) H2) E
def tNw0 (C : Addr) (sp : Sp) (E : XK) : TE := fun σ H Q => ∀ x dx, H x = none → H dx = none → dx ≠ x → sp [.ref x] (upd (upd H dx (.own x)) x (.ins C dx [])) (fun v H2 => v = .non ∧ Q (.ref x) H2) E
theorem pas (tk : TkE X E) : Passes (L2.CX X.prog X.w) X E := passes_call tk fun _ _ _ _ h => h
/-- f(e, ..) -/
theorem pe_f (O : Ok X.prog X.w X.K X.mg X.base k f ps sp) (hr : Room j X.A) (hk : k ≤ j) (hm : X.mg x = some (.ref f)) (hx : Passes (L2.CX X.prog X.w) X E) (ha : PA X (e :: es) t) (hg : Gl X x := by rfl) (hdb : (x == ("__debug__" : Str)) = false := by decide)
    (he : starEach (e :: es) X.env = (false, eval e X.env) :: starEach es X.env := by rfl) (hpl : (backTo pos (starEach es X.env)).any (·.1) = false := by rfl) :
    PE X (.Call (.Name x p) (e :: es) [] pos) (tF sp E t) := by
  obtain ⟨fd, G, b, kp⟩ := O
  have h := pe_call (p := p) (dvs := []) G (hr.mono hk) hg hm kp b .nil hx ha hdb he hpl
  refine ⟨fun pins s σ H Q I q => h.run pins s σ H Q I ?_⟩
  show t σ H fun vs H1 => sp (vs ++ []) H1 Q E
  simp only [List.append_nil]
  exact q
/-- f() -/
theorem pe_f0 (O : Ok X.prog X.w X.K X.mg X.base k f ps sp) (hr : Room j X.A) (hk : k ≤ j) (hm : X.mg x = some (.ref f)) (hx : Passes (L2.CX X.prog X.w) X E) (hg : Gl X x := by rfl) (hdb : (x == ("__debug__" : Str)) = false := by decide) :
    PE X (.Call (.Name x p) [] [] pos) (tF0 sp E) := by
  obtain ⟨fd, G, b, kp⟩ := O
  have h := pe_call0 (p := p) (pos := pos) (dvs := []) G (hr.mono hk) hg hm kp b .nil hx hdb
  exact ⟨fun pins s σ H Q I q => h.run pins s σ H Q I q⟩
/-- o.m(e, ..) -/
theorem pe_m (O : Ok X.prog X.w X.K X.mg X.base k f ps sp) (hr : Room j X.A) (hk : k ≤ j) (c : Cls X.K C) (hm : Meth X.K C m f) (hx : Passes (L2.CX X.prog X.w) X E) (ho : PE X o ta) (ha : PA X (e :: es) t)
    {pl : Sem Bool} (hst : starEach (e :: es) X.env = (false, eval e X.env) :: starEach es X.env := by rfl) (hpl : (backTo pos (starEach es X.env)).any (·.1) = false := by rfl)
    (ht : eval (.Call (.Attribute o m apos) (e :: es) [] pos) X.env = (do
      let ov ← eval o X.env
      standAt apos.atName
      let (f, first) ← holding [ov] (getMethod ov m pl)
      callWith pos f first (backTo pos (starEach (e :: es) X.env)) (backToKw pos (keywordEach [] X.env))) := by rfl) :
    PE X (.Call (.Attribute o m apos) (e :: es) [] pos) (tM C m sp E ta t) := by
  obtain ⟨fd, G, b, kp⟩ := O
  have h := pe_meth (dvs := []) ho c hm G (hr.mono hk) b .nil hx ha hst hpl ht
  refine ⟨fun pins s σ H Q I q => h.run pins s σ H Q I ?_⟩
  show ta σ H fun x H1 => ∃ a dx fs, x = .ref a ∧ H1 a = some (.ins C dx fs) ∧ fs.lookup m = none ∧ t σ H1 fun vs H2 => sp (x :: (vs ++ [])) H2 Q E
  simp only [List.append_nil]
  exact q
/-- o.m() -/
theorem pe_m0 (O : Ok X.prog X.w X.K X.mg X.base k f ps sp) (hr : Room j X.A) (hk : k ≤ j) (c : Cls X.K C) (hm : Meth X.K C m f) (hx : Passes (L2.CX X.prog X.w) X E) (ho : PE X o ta)
    {pl : Sem Bool} (ht : eval (.Call (.Attribute o m apos) [] [] pos) X.env = (do
      let ov ← eval o X.env
      standAt apos.atName
      let (f, first) ← holding [ov] (getMethod ov m pl)
      callWith pos f first (backTo pos (starEach [] X.env)) (backToKw pos (keywordEach [] X.env))) := by rfl) :
    PE X (.Call (.Attribute o m apos) [] [] pos) (tM0 C m sp E ta) := by
  obtain ⟨fd, G, b, kp⟩ := O
  have h := pe_meth0 (dvs := []) ho c hm G (hr.mono hk) b .nil hx ht
  exact ⟨fun pins s σ H Q I q => h.run pins s σ H Q I q⟩
/-- C(e, ..) -/
theorem pe_new (O : Ok X.prog X.w X.K X.mg X.base k f ps sp) (hr : Room j X.A) (hk : k + 1 ≤ j) (M : Mk X.K C f) (hm : X.mg x = some (.ref C)) (hx : Passes (L2.CX X.prog X.w) X E) (ha : PA X (e :: es) t) (hg : Gl X x := by rfl) (hdb : (x == ("__debug__" : Str)) = false := by decide)
    (he : starEach (e :: es) X.env = (false, eval e X.env) :: starEach es X.env := by rfl) (hpl : (backTo pos (starEach es X.env)).any (·.1) = false := by rfl) :
    PE X (.Call (.Name x p) (e :: es) [] pos) (tNw C sp E t) := by
  obtain ⟨fd, G, b, kp⟩ := O
  have h := pe_make (p := p) (dvs := []) M G (hr.mono hk) hg hm b .nil hx ha hdb he hpl
  refine ⟨fun pins s σ H Q I q => h.run pins s σ H Q I ?_⟩
  show t σ H fun vs H1 => ∀ x dx, H1 x = none → H1 dx = none → dx ≠ x → sp (.ref x :: (vs ++ [])) (upd (upd H1 dx (.own x)) x (.ins C dx [])) (fun v H2 => v = .non ∧ Q (.ref x) H2) E
  simp only [List.append_nil]
  exact q
theorem pe_new0 (O : Ok X.prog X.w X.K X.mg X.base k f ps sp) (hr : Room j X.A) (hk : k + 1 ≤ j) (M : Mk X.K C f) (hm : X.mg x = some (.ref C)) (hx : Passes (L2.CX X.prog X.w) X E) (hg : Gl X x := by rfl) (hdb : (x == ("__debug__" : Str)) = false := by decide) :
    PE X (.Call (.Name x p) [] [] pos) (tNw0 C sp E) := by
  obtain ⟨fd, G, b, kp⟩ := O
  have h := pe_make0 (p := p) (pos := pos) (dvs := []) M G (hr.mono hk) hg hm b .nil hx hdb
  exact ⟨fun pins s σ H Q I q => h.run pins s σ H Q I q⟩
end

/-! ### check, is_name, number_of -/
section
variable {P : Program} {w : World} {K : PySem.W.Frag} {mg : Str → Option Value} {base : Heap} {A : Ad}
def spCheck (A : Ad) : Sp := fun vs H Q E => ∃ b, vs = [.bl b] ∧ (b = true → Q .non H) ∧ (b = false → E (.ref A.CN) none H)
theorem scCheck : FnScope ["holds"] ["holds"] (defScope sCheck) := ⟨rfl, rfl, rfl, by decide +kernel, rfl, by decide +kernel, by decide +kernel⟩
theorem ok_check (T : Tx P K mg A) : Ok P w K mg base 1 A.fCheck ["holds"] (spCheck A) := by
  refine T.dCheck.okX scCheck (fun vs H Q E h => ?_) (fun cdv Ar outer s H vs Q E hr h => ?_)
  · obtain ⟨b, rfl, _⟩ := h
    rfl
  · obtain ⟨b, rfl, h1, h2⟩ := h
    refine ⟨_, pss_one (ps_if (pt_not (pt_val (pv 0))) (pss_one (ps_raise rfl (takes_of rfl rfl rfl rfl) (pmk_own0 PySem.F.excBase_ValueError T.xN T.gNoLine T.kN (raises_own T.sN T.tN) rfl))) pss_nil), ?_⟩
    refine ⟨_, rfl, b, rfl, ?_⟩
    cases b with
    | true => exact iteF (h1 rfl)
    | false => exact iteT (h2 rfl)
def tCk (A : Ad) (E : XK) (te : TE) : TE := fun σ H Q => te σ H fun x H1 => spCheck A [x] H1 Q E
/-- check(e) -/
theorem pe_chk {X : Cx} {j : Nat} {E : XK} {e : Expr} {te : TE} {p pos : Pos} (T : Tx X.prog X.K X.mg A) (hr : Room j X.A) (hj : 1 ≤ j) (hx : Passes (L2.CX X.prog X.w) X E) (he : PE X e te) (hg : Gl X "check" := by rfl)
    (hs : starEach (e :: []) X.env = (false, eval e X.env) :: starEach [] X.env := by rfl) (hpl : (backTo pos (starEach [] X.env)).any (·.1) = false := by rfl) :
    PE X (.Call (.Name "check" p) [e] [] pos) (tCk A E te) := by
  have h := pe_f (p := p) (pos := pos) (ok_check T) hr hj T.gCheck hx (pa_cons he pa_nil hs) hg (by decide) hs hpl
  exact ⟨fun pins s σ H Q I q => h.run pins s σ H Q I q⟩

theorem genS_of {env : Env} {scope : Scope} {x : Str} (h1 : scope.kind = .function) (h2 : scope.isCoroutine = false) (h3 : ∀ y ∈ scope.names, y.2 ≠ .cell) (h4 : scope.names.lookup (".0" : Str) = some NameKind.local) (h5 : scope.names.lookup x = some .local)
    (h6 : ∀ y ∈ scope.names, y.2 ≠ .free) : GenS env scope x := ⟨h1, h2, h3, h4, h5, fun y hy e => absurd e (h6 y hy)⟩
def spIsName (A : Ad) : Sp := fun vs H Q _ => ∃ z : Str, vs = [.str z] ∧ z.length ≤ 10000 ∧ Tb A H ∧ ∀ H', Ev A [] H H' → Q (.bl (nameOk z)) H'
theorem scIsName : FnScope ["text"] ["text"] (defScope sIsName) := ⟨rfl, rfl, rfl, by decide +kernel, rfl, by decide +kernel, by decide +kernel⟩
theorem line10 : (10000 : Nat) ≤ sizeLine := by rw [sizeLine_eq]; decide
theorem ok_isName (T : Tx P K mg A) (TB : TabB base mg A.c1 A.P1) : Ok P w K mg base 1 A.fIsName ["text"] (spIsName A) := by
  obtain ⟨tl, gl⟩ := T.gLetters
  obtain ⟨tm, gm⟩ := T.gNameMost
  refine T.dIsName.ok scIsName (fun vs H Q E h => ?_) (fun Ar outer s H vs Q E hr h => ?_)
  · obtain ⟨z, rfl, _⟩ := h
    rfl
  · obtain ⟨z, rfl, hz, tb, k⟩ := h
    refine ⟨_, pss_one (ps_ret (pe_and (pe_chain op_le op_le pe_int (pe_callB call_len_str (by rfl) T.bLen PySem.boot_len (pa_cons (pv 0) pa_nil)) (pe_glob (v := .int 6) rfl gm ⟨_, rfl⟩))
      (pe_one (pe_allG (P := A.P1) hr rfl T.bAll TB rfl (genS_of rfl rfl (by decide +kernel) (by decide +kernel) (by decide +kernel) (by decide +kernel)) (pv 0) (eltG_in rfl (by decide +kernel) (by decide +kernel) gl) (fun _ => rfl) (by rfl))))), ?_⟩
    refine ⟨_, rfl, z, rfl, Nat.le_trans hz line10, _, _, rfl, rfl, _, rfl, ?_⟩
    have fin : ∀ b, b = nameOk z → ∀ H', Ev A [] H H' → Q (.bl b) H' := fun b e H' ev => by rw [e]; exact k H' ev
    by_cases h1 : decide ((1 : Int) ≤ z.length) = true
    · rw [if_pos h1]
      refine ⟨_, _, rfl, rfl, decide ((z.length : Int) ≤ 6), rfl, ?_⟩
      by_cases h2 : decide ((z.length : Int) ≤ 6) = true
      · rw [if_pos h2]
        exact ⟨_, rfl, z, rfl, tb.1, fun H2 t2 => fin _ (by unfold nameOk; rw [if_pos h1, if_pos h2]) _ (Ev.tabbed tb tb.1 t2)⟩
      · rw [if_neg h2]
        exact fin _ (by unfold nameOk; rw [if_pos h1, if_neg h2]) _ (Ev.refl tb)
    · rw [if_neg h1]
      refine ⟨false, rfl, ?_⟩
      rw [if_neg Bool.false_ne_true]
      exact fin _ (by unfold nameOk; rw [if_neg h1]) _ (Ev.refl tb)

def spNumber (A : Ad) : Sp := fun vs H Q E => ∃ (z : Str) (m : Option Int), vs = [.str z, vO m] ∧ Tb A H ∧ RR (numOf z m) (fun n => ∀ H', Ev A [] H H' → Q (.int n) H') (∀ H', Ev A [] H H' → E (.ref A.CN) none H')
theorem scNumber : FnScope ["piece", "most"] ["piece", "most"] (defScope sNumber) := ⟨rfl, rfl, rfl, by decide +kernel, rfl, by decide +kernel, by decide +kernel⟩
theorem RR_chk {b : Bool} {Q : Unit → Prop} {N : Prop} : RR (chk b) Q N = (if b = true then Q () else N) := by cases b <;> rfl
theorem RR_must {b : Bool} {Q : Unit → Prop} {N : Prop} : RR (must b) Q N = (b = true ∧ Q ()) := by
  cases b
  · show False = _
    simp
  · show Q () = _
    simp
theorem spChk {b : Bool} {H : Hp} {Q : VK} {E : XK} (h : if b = true then Q .non H else E (.ref A.CN) none H) : spCheck A [.bl b] H Q E := by
  refine ⟨b, rfl, fun e => ?_, fun e => ?_⟩
  · rwa [if_pos e] at h
  · rw [e] at h
    rwa [if_neg Bool.false_ne_true] at h
theorem dec_sV (a b : Str) : decide (V.str a = V.str b) = decide (a = b) := by
  by_cases e : a = b
  · subst e
    simp
  · rw [decide_eq_false e, decide_eq_false fun q => e (V.str.inj q)]
theorem or_arm {b1 b2 : Bool} {A1 A2 C N : Prop} (f1 : (if true = true then C else N) → A1) (f2 : (if b2 = true then C else N) → A2) (h : if (b1 || b2) = true then C else N) : if b1 = true then A1 else A2 := by
  cases b1 with
  | true => rw [if_pos rfl]; exact f1 h
  | false => rw [if_neg Bool.false_ne_true]; exact f2 h
theorem and_arm {b1 b2 : Bool} {A1 A2 C N : Prop} (f1 : b1 = true → (if b2 = true then C else N) → A1) (f2 : (if false = true then C else N) → A2) (h : if (b1 && b2) = true then C else N) : if b1 = true then A1 else A2 := by
  cases b1 with
  | true => rw [if_pos rfl]; exact f1 rfl h
  | false => rw [if_neg Bool.false_ne_true]; exact f2 h
theorem ite_and {b : Bool} {C N C' N' : Prop} (h : if b = true then C else N) (h1 : C → C') (h2 : N → N') : if b = true then C' else N' := by
  cases b with
  | true => exact h1 h
  | false => exact h2 h
theorem ok_number (T : Tx P K mg A) (TB : TabB base mg A.c2 A.P2) : Ok P w K mg base 2 A.fNumber ["piece", "most"] (spNumber A) := by
  obtain ⟨tl, gl⟩ := T.gDigits
  refine T.dNumber.ok scNumber (fun vs H Q E h => ?_) (fun Ar outer s H vs Q E hr h => ?_)
  · obtain ⟨z, m, rfl, _⟩ := h
    rfl
  · obtain ⟨z, m, rfl, tb, k⟩ := h
    have hx := pas (takes_of (X := cxOf (L2.CX P w) P w K mg base ["piece", "most"] "number_of" (defScope sNumber) A.fNumber (.ref A.c2) Ar outer s H E) rfl rfl rfl rfl)
    refine ⟨_, pss_cons (ps_expr (pe_chk T hr (by decide) hx (pe_and (pe_cmpR op_ne (pv 0) pe_str (nomark _)) (pe_one (pe_allG (P := A.P2) hr rfl T.bAll TB rfl (genS_of rfl rfl (by decide +kernel) (by decide +kernel) (by decide +kernel) (by decide +kernel)) (pv 0) (eltG_in rfl (by decide +kernel) (by decide +kernel) gl) (fun _ => rfl) (by rfl))))))
      (pss_cons (ps_expr (pe_chk T hr (by decide) hx (pe_or (pe_cmpR op_eq (pv 0) pe_str (nomark _)) (pe_one (pe_cmpR op_ne (pe_ix ix_str (pv 0) pe_int (fun _ _ => rfl)) pe_str (nomark _))))))
      (pss_cons (ps_expr (pe_chk T hr (by decide) hx (pe_or (pe_cmpR op_isN (pv 1) pe_non (nomark _)) (pe_one (pe_and (pe_cmpR op_le (pe_callB call_len_str (by rfl) T.bLen PySem.boot_len (pa_cons (pv 0) pa_nil))
          (pe_callB call_len_str (by rfl) T.bLen PySem.boot_len (pa_cons (pe_callTy call_str_int (by rfl) T.bStr (by decide +kernel) (pa_cons (pv 1) pa_nil)) pa_nil)) (nomark _))
        (pe_one (pe_cmpR op_le (pe_callTy call_int_str (by rfl) T.bInt (by decide +kernel) (pa_cons (pv 0) pa_nil)) (pv 1) (nomark _))))))))
      (pss_one (ps_ret (pe_callTy call_int_str (by rfl) T.bInt (by decide +kernel) (pa_cons (pv 0) pa_nil)))))), ?_⟩
    unfold numOf at k
    rw [RR_bind, RR_must] at k
    obtain ⟨hl, k⟩ := k
    rw [RR_bind, RR_chk] at k
    have hl : z.length ≤ 300 := of_decide_eq_true hl
    have hl2 : z.length ≤ sizeLine := Nat.le_trans hl (Nat.le_trans (by decide) line10)
    -- the first check
    refine ⟨_, rfl, rfl, _, rfl, ?_⟩
    rw [dec_sV]
    refine ite2 (fun h1 => ⟨_, rfl, z, rfl, tb.2, fun H1 t1 => ?_⟩) (fun h1 => spChk (iteF ?_))
    · have ev1 : Ev A [] H H1 := Ev.tabbed tb tb.2 t1
      refine spChk ?_
      by_cases h2 : (z.cps.toList.all fun c => decide (c ∈ digits.cps.toList)) = true
      · rw [if_pos (by rw [Bool.and_eq_true]; exact ⟨h1, h2⟩)] at k
        rw [if_pos h2]
        cases hc : z.cps.toList with
        | nil =>
          rw [hc] at k
          exact k.elim
        | cons c r =>
        rw [hc] at k
        have k : RR ((chk (decide (z = ("0" : Str)) || !decide ((⟨#[c]⟩ : Str) = ("0" : Str)))).bind _) _ _ := k
        rw [RR_bind, RR_chk] at k
        -- the second
        refine ⟨_, rfl, rfl, _, rfl, ?_⟩
        rw [dec_sV]
        refine or_arm (b2 := !decide ((⟨#[c]⟩ : Str) = ("0" : Str))) spChk (fun q => ⟨_, rfl, z, 0, c, rfl, rfl, hl2, by rw [hc]; exact atI_nat (j := 0) rfl, rfl, by rw [dec_sV]; exact spChk q⟩) (ite_and k (fun k => ?_) (fun k => k H1 ev1))
        -- the number
        cases hn : intText? z with
        | none =>
          rw [hn] at k
          exact k.elim
        | some n =>
        rw [hn] at k
        have hl3 : z.length ≤ 640 := Nat.le_trans hl (by decide)
        cases m with
        | none =>
          have k : ∀ (H' : Hp), Ev A [] H H' → Q (V.int n) H' := k
          refine ⟨_, rfl, rfl, true, rfl, iteT (spChk (iteT ?_))⟩
          exact ⟨_, rfl, z, n, rfl, hn, hl3, k H1 ev1⟩
        | some b =>
          have k : RR ((must (decide (b.natAbs < 1000))).bind _) _ _ := k
          rw [RR_bind, RR_must] at k
          obtain ⟨hb, k⟩ := k
          have hb : b.natAbs < 1000 := of_decide_eq_true hb
          rw [RR_bind, RR_chk] at k
          have hlog : b.natAbs.log2 < 1920 := by
            by_cases e : b.natAbs = 0
            · rw [e]
              decide
            · exact Nat.lt_of_lt_of_le ((Nat.log2_lt e).mpr (show b.natAbs < 2 ^ 10 by omega)) (by decide)
          refine ⟨_, rfl, rfl, false, by rfl, iteF ?_⟩
          refine ⟨_, rfl, z, rfl, hl2, _, rfl, b, rfl, hlog, numT b, rfl, int_text_fits hlog, _, _, rfl, rfl, _, rfl, ?_⟩
          refine and_arm (fun _ q => ⟨_, rfl, z, n, rfl, hn, hl3, _, rfl, _, _, rfl, rfl, spChk q⟩) (fun q => spChk q) (ite_and k (fun k => ?_) (fun k => k H1 ev1))
          exact ⟨_, rfl, z, n, rfl, hn, hl3, k H1 ev1⟩
      · rw [if_neg (by rw [Bool.and_eq_true]; exact fun q => h2 q.2)] at k
        rw [if_neg h2]
        exact k H1 ev1
    · rw [if_neg (by rw [Bool.and_eq_true]; exact fun q => h1 q.1)] at k
      exact k H (Ev.refl tb)
end
end HW
/-! class Pieces -/
namespace HW
open PySem PySem.Spec PyProof.Rows L2 GxR

def PAt (A : Ad) (H : Hp) (p l : Addr) (rows : List Str) : Prop := (∃ dx, H p = some (.ins A.CP dx [("rows", .ref l)])) ∧ H l = some (.lst (rows.map V.str))
theorem lk_rows (l : Addr) : List.lookup ("rows" : Str) [(("rows" : Str), V.ref l)] = some (.ref l) := by simp [List.lookup]
theorem lk_no {m : Str} {x : V} (h : (m == ("rows" : Str)) = false) : List.lookup m [(("rows" : Str), x)] = none := by simp [List.lookup, h]
section
variable {A : Ad} {H H1 : Hp} {p l : Addr} {rows rows' : List Str}
theorem PAt.ne (a : PAt A H p l rows) : p ≠ l := by
  obtain ⟨⟨dx, e⟩, h⟩ := a
  exact ne_of e h (by intro q; cases q)
theorem PAt.keep (a : PAt A H p l rows) (e : Ev A [] H H1) : PAt A H1 p l rows := by
  obtain ⟨⟨dx, e1⟩, h⟩ := a
  exact ⟨⟨dx, e.keep _ _ (by simp) rfl e1⟩, e.keep _ _ (by simp) rfl h⟩
/-- the list is written -/
theorem PAt.put (a : PAt A H p l rows) : PAt A (upd H l (.lst (rows'.map V.str))) p l rows' := by
  obtain ⟨⟨dx, e1⟩, h⟩ := _root_.id a
  exact ⟨⟨dx, by rw [upd_ne a.ne]; exact e1⟩, upd_same⟩
theorem PAt.ev (a : PAt A H p l rows) (t : Tb A H) : Ev A [l] H (upd H l (.lst (rows'.map V.str))) := Ev.chg t a.2 rfl (by simp)
end
section
variable {P : Program} {w : World} {K : PySem.W.Frag} {mg : Str → Option Value} {base : Heap} {A : Ad}

def spPInit (A : Ad) : Sp := fun vs H Q _ => ∃ (p dx : Addr) (z : Str), vs = [.ref p, .str z] ∧ H p = some (.ins A.CP dx []) ∧ z.length ≤ 1000 ∧ ∀ l, H l = none → Q .non (upd (upd H l (.lst ((Txt.split z " ").map V.str))) p (.ins A.CP dx [("rows", .ref l)]))
theorem scPInit : FnScope ["self", "line"] ["self", "line"] (defScope sPInit) := ⟨rfl, rfl, rfl, by decide +kernel, rfl, by decide +kernel, by decide +kernel⟩
theorem ok_pinit (T : Tx P K mg A) : Ok P w K mg base 1 A.fPInit ["self", "line"] (spPInit A) := by
  refine T.dPInit.okX scPInit (fun vs H Q E h => ?_) (fun cdv Ar outer s H vs Q E hr h => ?_)
  · obtain ⟨p, dx, z, rfl, _⟩ := h
    rfl
  · obtain ⟨p, dx, z, rfl, hp, hz, k⟩ := h
    refine ⟨_, pss_one (ps_fld (pv 0) (pe_split (pv 1) pe_str) rfl), ?_⟩
    refine ⟨_, rfl, ⟨z, rfl⟩, z, " ", rfl, rfl, by decide +kernel, Nat.le_trans (Nat.add_le_add_right hz 2) (Nat.le_trans (by decide) line10), fun l hl => ?_⟩
    have npl : p ≠ l := ne_of_none hp hl
    exact ⟨_, rfl, p, A.CP, dx, [], rfl, by rw [upd_ne npl]; exact hp, T.cP, T.nPRows, (by show 0 < 1000; decide), k l hl⟩

def spPNext (A : Ad) : Sp := fun vs H Q E => ∃ (p l : Addr) (rows : List Str), vs = [.ref p] ∧ Tb A H ∧ PAt A H p l rows ∧
  RR (nextP rows) (fun r => ∀ H', Ev A [l] H H' → PAt A H' p l r.2 → Q (.str r.1) H') (∀ H', Ev A [l] H H' → E (.ref A.CN) none H')
theorem scPNext : FnScope ["self"] ["self"] (defScope sPNext) := ⟨rfl, rfl, rfl, by decide +kernel, rfl, by decide +kernel, by decide +kernel⟩
theorem ok_pnext (T : Tx P K mg A) : Ok P w K mg base 2 A.fPNext ["self"] (spPNext A) := by
  refine T.dPNext.okX scPNext (fun vs H Q E h => ?_) (fun cdv Ar outer s H vs Q E hr h => ?_)
  · obtain ⟨p, l, rows, rfl, _⟩ := h
    rfl
  · obtain ⟨p, l, rows, rfl, tb, a, k⟩ := h
    obtain ⟨⟨dx, hp⟩, hl⟩ := _root_.id a
    refine ⟨_, pss_cons (ps_expr (pe_chk T hr (by decide) (pas (takes_of rfl rfl rfl rfl)) (pe_cmpR op_gt (pe_callB call_len_seq (by rfl) T.bLen PySem.boot_len (pa_cons (pe_fld (pv 0) rfl) pa_nil)) pe_int (nomark _))))
      (pss_one (ps_ret (pe_bm PySem.F.plainAttrs_list PySem.F.slot_list_pop PySem.F.type_list_pop mt_popAt (pe_fld (pv 0) rfl) (pa_cons pe_int pa_nil)))), ?_⟩
    refine ⟨_, rfl, p, A.CP, dx, _, _, rfl, hp, T.cP, T.nPRows, lk_rows l, l, _, rfl, .inl (SqL.of hl), _, _, rfl, rfl, spChk ?_⟩
    cases rows with
    | nil => exact iteF (k H (Ev.refl tb))
    | cons x r =>
      have k : ∀ H', Ev A [l] H H' → PAt A H' p l r → Q (.str x) H' := k
      rw [if_pos (by simp)]
      exact ⟨_, rfl, p, A.CP, dx, _, _, rfl, hp, T.cP, T.nPRows, lk_rows l, .inl ⟨rfl, _, SqL.of hl⟩, l, _, 0, 0, .str x, rfl, rfl, hl, by decide, by decide, by simp [seqIndex?], rfl, k _ (a.ev tb) a.put⟩

def spPPassed (A : Ad) : Sp := fun vs H Q _ => ∃ (p l : Addr) (rows : List Str) (v : Str), vs = [.ref p, .str v] ∧ Tb A H ∧ PAt A H p l rows ∧ ∀ H', Ev A [l] H H' → PAt A H' p l (passedP v rows).2 → Q (.bl (passedP v rows).1) H'
theorem scPPassed : FnScope ["self", "word"] ["self", "word"] (defScope sPPassed) := ⟨rfl, rfl, rfl, by decide +kernel, rfl, by decide +kernel, by decide +kernel⟩
theorem ok_ppassed (T : Tx P K mg A) : Ok P w K mg base 1 A.fPPassed ["self", "word"] (spPPassed A) := by
  refine T.dPPassed.okX scPPassed (fun vs H Q E h => ?_) (fun cdv Ar outer s H vs Q E hr h => ?_)
  · obtain ⟨p, l, rows, v, rfl, _⟩ := h
    rfl
  · obtain ⟨p, l, rows, v, rfl, tb, a, k⟩ := h
    obtain ⟨⟨dx, hp⟩, hl⟩ := _root_.id a
    refine ⟨_, pss_cons (ps_if (PW.pt (pw_and (pt_truth (pe_fld (pv 0) rfl) (by intro _; rfl)) (pw_and1 (pt_cmpR op_eq (pe_ix ix_list (pe_fld (pv 0) rfl) pe_int (fun _ _ => rfl)) (pv 1) (nomark _)))))
        (pss_cons (ps_expr (pe_bm PySem.F.plainAttrs_list PySem.F.slot_list_pop PySem.F.type_list_pop mt_popAt (pe_fld (pv 0) rfl) (pa_cons pe_int pa_nil))) (pss_one (ps_ret pe_bl))) pss_nil)
      (pss_one (ps_ret pe_bl)), ?_⟩
    refine ⟨_, rfl, p, A.CP, dx, _, _, rfl, hp, T.cP, T.nPRows, lk_rows l, !(rows.map V.str).isEmpty, .inl ⟨_, SqL.of hl, rfl⟩, ?_⟩
    cases rows with
    | nil =>
      refine iteF (iteF ?_)
      exact k H (Ev.refl tb) a
    | cons x r =>
      refine iteT ?_
      refine ⟨_, rfl, p, A.CP, dx, _, _, rfl, hp, T.cP, T.nPRows, lk_rows l, l, _, 0, .str x, rfl, rfl, SqL.of hl, atI_nat (j := 0) rfl, _, rfl, rfl, _, rfl, ?_⟩
      rw [dec_sV]
      have k : ∀ H', Ev A [l] H H' → PAt A H' p l (if decide (x = v) = true then (true, r) else (false, x :: r)).2 → Q (.bl (if decide (x = v) = true then (true, r) else (false, x :: r)).1) H' := k
      cases e : decide (x = v) with
      | true =>
        rw [e, if_pos rfl] at k
        exact iteT ⟨_, rfl, p, A.CP, dx, _, _, rfl, hp, T.cP, T.nPRows, lk_rows l, .inl ⟨rfl, _, SqL.of hl⟩, l, _, 0, 0, .str x, rfl, rfl, hl, by decide, by decide, by simp [seqIndex?], rfl, k _ (a.ev tb) a.put⟩
      | false =>
        rw [e, if_neg Bool.false_ne_true] at k
        exact iteF (k H (Ev.refl tb) a)

def spPName (A : Ad) : Sp := fun vs H Q E => ∃ (p l : Addr) (rows : List Str), vs = [.ref p] ∧ Tb A H ∧ PAt A H p l rows ∧
  RR (nameP rows) (fun r => ∀ H', Ev A [l] H H' → PAt A H' p l r.2 → Q (.str r.1) H') (∀ H', Ev A [l] H H' → E (.ref A.CN) none H')
theorem scPName : FnScope ["self", "piece"] ["self"] (defScope sPName) := ⟨rfl, rfl, rfl, by decide +kernel, rfl, by decide +kernel, by decide +kernel⟩
theorem ok_pname (T : Tx P K mg A) (TB : TabB base mg A.c1 A.P1) : Ok P w K mg base 3 A.fPName ["self"] (spPName A) := by
  refine T.dPName.okX scPName (fun vs H Q E h => ?_) (fun cdv Ar outer s H vs Q E hr h => ?_)
  · obtain ⟨p, l, rows, rfl, _⟩ := h
    rfl
  · obtain ⟨p, l, rows, rfl, tb, a, k⟩ := h
    obtain ⟨⟨dx, hp⟩, hl⟩ := _root_.id a
    have hx := pas (takes_of (X := cxOf (L2.CX P w) P w K mg base ["self", "piece"] "Pieces.name" (defScope sPName) A.fPName cdv Ar outer s H E) rfl rfl rfl rfl)
    refine ⟨_, pss_cons (ps_set (i := 1) scPName.nd rfl (.inl rfl) (pe_m0 (ok_pnext T) hr (by decide) T.cP T.mPNext hx (pv 0)))
      (pss_cons (ps_expr (pe_chk T hr (by decide) hx (pe_f (ok_isName T TB) hr (by decide) T.gIsName hx (pa_cons (pv 1) pa_nil))))
      (pss_one (ps_ret (pv 1)))), ?_⟩
    unfold nameP at k
    rw [RR_bind] at k
    refine ⟨_, rfl, p, dx, _, rfl, hp, lk_no (by decide +kernel), p, l, rows, rfl, tb, a, k.mono (fun r k H1 e1 a1 => ?_) _root_.id⟩
    rw [RR_bind, RR_must] at k
    obtain ⟨hz, k⟩ := k
    rw [RR_bind, RR_chk] at k
    refine ⟨_, rfl, r.1, rfl, of_decide_eq_true hz, e1.tb, fun H2 e2 => spChk (ite_and k (fun k => ?_) (fun k => k H2 (e1.trans e2.wide)))⟩
    exact ⟨_, rfl, k H2 (e1.trans e2.wide) (a1.keep e2)⟩

def spPAmount (A : Ad) : Sp := fun vs H Q E => ∃ (p l : Addr) (rows : List Str) (v : Str) (m d : Option Int), vs = [.ref p, .str v, vO m, vO d] ∧ Tb A H ∧ PAt A H p l rows ∧
  RR (amountP v m d rows) (fun r => ∀ H', Ev A [l] H H' → PAt A H' p l r.2 → Q (vO r.1) H') (∀ H', Ev A [l] H H' → E (.ref A.CN) none H')
theorem scPAmount : FnScope ["self", "word", "most", "without"] ["self", "word", "most", "without"] (defScope sPAmount) := ⟨rfl, rfl, rfl, by decide +kernel, rfl, by decide +kernel, by decide +kernel⟩
theorem ok_pamount (T : Tx P K mg A) (TB : TabB base mg A.c2 A.P2) : Ok P w K mg base 3 A.fPAmount ["self", "word", "most", "without"] (spPAmount A) := by
  refine T.dPAmount.okX scPAmount (fun vs H Q E h => ?_) (fun cdv Ar outer s H vs Q E hr h => ?_)
  · obtain ⟨p, l, rows, v, m, d, rfl, _⟩ := h
    rfl
  · obtain ⟨p, l, rows, v, m, d, rfl, tb, a, k⟩ := h
    obtain ⟨⟨dx, hp⟩, hl⟩ := _root_.id a
    have hx := pas (takes_of (X := cxOf (L2.CX P w) P w K mg base ["self", "word", "most", "without"] "Pieces.amount" (defScope sPAmount) A.fPAmount cdv Ar outer s H E) rfl rfl rfl rfl)
    refine ⟨_, pss_one (ps_ret (pe_ifExp (pt_val (pe_m (ok_ppassed T) hr (by decide) T.cP T.mPPassed hx (pv 0) (pa_cons (pv 1) pa_nil)))
      (pe_f (ok_number T TB) hr (by decide) T.gNumber hx (pa_cons (pe_m0 (ok_pnext T) hr (by decide) T.cP T.mPNext hx (pv 0)) (pa_cons (pv 2) pa_nil))) (pv 3))), ?_⟩
    refine ⟨_, rfl, p, dx, _, rfl, hp, lk_no (by decide +kernel), _, rfl, p, l, rows, v, rfl, tb, a, fun H1 e1 a1 => ⟨_, rfl, ?_⟩⟩
    unfold amountP at k
    cases e : (passedP v rows).1 with
    | false =>
      rw [e, if_neg Bool.false_ne_true] at k
      exact iteF ⟨_, rfl, k H1 e1 a1⟩
    | true =>
      rw [e, if_pos rfl, RR_bind] at k
      obtain ⟨⟨dx1, hp1⟩, hl1⟩ := _root_.id a1
      refine iteT ⟨_, rfl, p, dx1, _, rfl, hp1, lk_no (by decide +kernel), p, l, _, rfl, e1.tb, a1, k.mono (fun r k H2 e2 a2 => ?_) (fun k H2 e2 => k H2 (e1.trans e2))⟩
      rw [RR_bind] at k
      refine ⟨_, rfl, r.1, m, rfl, e2.tb, k.mono (fun n k H3 e3 => ?_) (fun k H3 e3 => k H3 ((e1.trans e2).trans e3.wide))⟩
      exact k H3 ((e1.trans e2).trans e3.wide) (a2.keep e3)

def spPAmounts (A : Ad) : Sp := fun vs H Q E => ∃ (p l : Addr) (rows : List Str) (months : Option Int), vs = [.ref p, vO months] ∧ Tb A H ∧ PAt A H p l rows ∧
  RR (amountsP months rows) (fun ns => ∀ H' t, Ev A [] H H' → H' t = some (.tup (ns.map V.int)) → Q (.ref t) H') (∀ H', Ev A [] H H' → E (.ref A.CN) none H')
theorem scPAmounts : FnScope ["self", "months", "found", "piece"] ["self", "months"] (defScope sPAmounts) := ⟨rfl, rfl, rfl, by decide +kernel, rfl, by decide +kernel, by decide +kernel⟩
theorem in_months (months : Option Int) (n : Int) : inV (vO months) [.non, .int n] = (decide (months = none) || decide (months = some n)) := by
  cases months with
  | none => rfl
  | some m =>
    show (eqV .non (.int m) || (eqV (.int n) (.int m) || false)) = _
    have e : eqV (.int n) (.int m) = (n == m) := rfl
    have e0 : eqV .non (.int m) = false := rfl
    rw [e0, e]
    by_cases h : n = m
    · subst h
      simp
    · have h2 : ¬ m = n := fun q => h q.symm
      simp [h, h2]
theorem ok_pamounts (T : Tx P K mg A) (TB : TabB base mg A.c2 A.P2) : Ok P w K mg base 3 A.fPAmounts ["self", "months"] (spPAmounts A) := by
  obtain ⟨ta, ga⟩ := T.gAmountMost
  obtain ⟨tm, gm⟩ := T.gMonthsMost
  refine T.dPAmounts.okX scPAmounts (fun vs H Q E h => ?_) (fun cdv Ar outer s H vs Q E hr h => ?_)
  · obtain ⟨p, l, rows, m, rfl, _⟩ := h
    rfl
  · obtain ⟨p, l, rows, months, rfl, tb, a, k⟩ := h
    obtain ⟨⟨dx, hp⟩, hl⟩ := _root_.id a
    have tk := takes_of (X := cxOf (L2.CX P w) P w K mg base ["self", "months", "found", "piece"] "Pieces.amounts" (defScope sPAmounts) A.fPAmounts cdv Ar outer s H E) rfl rfl rfl rfl
    have hx := pas tk
    refine ⟨_, pss_cons (ps_set (i := 2) scPAmounts.nd rfl (.inl rfl) (pe_callTy call_tuple_of (by rfl) T.bTuple (by decide +kernel) (pa_cons
        (pe_lcX (own := [("piece", 3)]) (g := gName 3) rfl scPAmounts.nd rfl rfl tk (pi_list (pe_fld (pv 0) rfl)) (blkOk_by (own := [("piece", 3)]) (N := ["self", "months", "found", "piece"]) (sc := defScope sPAmounts) (by decide +kernel))
          (fun _ _ _ _ _ => pg_name (i := 3) scPAmounts.nd rfl (.inl rfl))
          (fun _ _ _ _ _ pass => pe_f (ok_number T TB) hr (by decide) T.gNumber pass (pa_cons (pv 3) (pa_cons (pe_glob (v := .int 99) rfl ga ⟨_, rfl⟩) pa_nil)))) pa_nil)))
      (pss_cons (ps_expr (pe_chk T hr (by decide) hx (pe_and (pe_chain op_le op_le pe_int (pe_callB call_len_seq (by rfl) T.bLen PySem.boot_len (pa_cons (pv 2) pa_nil)) (pe_glob (v := .int 4) rfl gm ⟨_, rfl⟩))
        (pe_one (pe_cmpR op_in_seq (pv 1) (pe_tup (pa_cons pe_non (pa_cons (pe_callB call_len_seq (by rfl) T.bLen PySem.boot_len (pa_cons (pv 2) pa_nil)) pa_nil))) (by rfl))))))
      (pss_one (ps_ret (pv 2)))), ?_⟩
    unfold amountsP at k
    rw [RR_bind, RR_must] at k
    obtain ⟨hz, k⟩ := k
    have hz : rows.length ≤ 300 := of_decide_eq_true hz
    rw [RR_bind] at k
    refine ⟨_, rfl, p, A.CP, dx, _, _, rfl, hp, T.cP, T.nPRows, lk_rows l, l, rfl, ⟨_, SqL.of hl⟩, fun D hD => ?_⟩
    have tbD : Tb A (upd H D (.lst [])) := tb_new tb hD
    have lz : ∀ n, n ≤ 300 → n < sizeLine := fun n h => Nat.lt_of_le_of_lt h (Nat.lt_of_lt_of_le (by decide) line10)
    refine lc_list (K := K) (a := l) (xs := rows.map V.str) (fun i H' => Ev A [] H H' ∧ ∃ ns : List Int, H' D = some (.lst (ns.map V.int)) ∧ ns.length = i ∧
      RR (numsP (rows.drop i)) (fun ms => RR (amtTail months (ns ++ ms)) (fun ns => ∀ H' t, Ev A [] H H' → H' t = some (.tup (ns.map V.int)) → Q (.ref t) H') (∀ H', Ev A [] H H' → E (.ref A.CN) none H')) (∀ H', Ev A [] H H' → E (.ref A.CN) none H'))
      ⟨Ev.new tb hD, [], upd_same, rfl, k⟩ (fun i H' _ ⟨ev, _⟩ => SqL.of (ev.keep _ _ (by simp) rfl hl)) ?_ ?_
    · rintro i x H' hi ⟨ev, ns, hDn, hn, kk⟩
      rw [List.getElem?_map] at hi
      cases ez : rows[i]? with
      | none => rw [ez] at hi; cases hi
      | some z =>
      rw [ez] at hi
      cases hi
      obtain ⟨hi2, ez2⟩ := List.getElem?_eq_some_iff.mp ez
      rw [List.drop_eq_getElem_cons hi2, ez2] at kk
      have kk : RR ((numOf z (some 99)).bind fun n => (numsP (rows.drop (i + 1))).bind fun ms => .ok (n :: ms)) _ _ := kk
      rw [RR_bind] at kk
      refine ⟨rfl, ?_⟩
      unfold tYes
      dsimp only
      rw [if_pos rfl]
      refine ⟨_, rfl, z, some 99, rfl, ev.tb, kk.mono (fun n kk H4 e4 => ?_) (fun kN H4 e4 => kN H4 (ev.trans e4))⟩
      rw [RR_bind] at kk
      have hD4 := e4.keep _ _ (by simp) rfl hDn
      have ev4 := ev.trans e4
      refine ⟨_, hD4, by rw [List.length_map, hn]; exact lz _ (by omega), ?_, ns ++ [n], by rw [upd_same, List.map_append]; rfl, by rw [List.length_append, hn]; rfl, kk.mono (fun ms q => ?_) _root_.id⟩
      · exact (ev4.wide.trans (Ev.chg (ch := [D]) ev4.tb hD4 rfl (by simp))).newer fun b hb _ => by rw [List.mem_singleton.mp hb]; exact hD
      · rw [List.append_assoc]
        exact q
    · rintro H' ⟨ev, ns, hDn, hn, kk⟩
      rw [List.length_map, List.drop_length] at kk
      have kk : RR (amtTail months (ns ++ [])) _ _ := kk
      rw [List.append_nil] at kk
      unfold amtTail at kk
      rw [RR_bind, RR_chk] at kk
      refine ⟨D, _, rfl, .inl ⟨SqL.of hDn, fun t ht => ?_⟩⟩
      have ev1 : Ev A [] H (upd H' t (.tup (ns.map V.int))) := ev.trans (Ev.new ev.tb ht)
      have ln : (ns.map V.int).length = ns.length := List.length_map ..
      have one : ∀ (b : Bool) (Hx : Hp), Ev A [] H Hx → Hx t = some (.tup (ns.map V.int)) → b = ((decide ((1 : Int) ≤ ns.length) && decide ((ns.length : Int) ≤ 4)) && (decide (months = none) || decide (months = some (ns.length : Int)))) →
          (if b = true then tRet (tVar 2) { nx := fun _ H' => Q .non H', rt := Q } [some (.ref p), some (vO months), some (.ref t), none] Hx else E (.ref A.CN) none Hx) := fun b Hx ex et e => by
        rw [e]
        exact ite_and kk (fun kk => ⟨_, rfl, kk Hx t ex et⟩) (fun kk => kk Hx ex)
      refine ⟨_, rfl, t, _, rfl, .inr (SqT.of upd_same), _, _, rfl, rfl, decide ((1 : Int) ≤ ns.length), by rw [ln], ?_⟩
      cases h1 : decide ((1 : Int) ≤ ns.length) with
      | false =>
        refine iteF ⟨false, rfl, iteF (spChk ?_)⟩
        exact one _ _ ev1 upd_same (by rw [h1]; rfl)
      | true =>
        refine iteT ⟨_, _, rfl, rfl, decide ((ns.length : Int) ≤ 4), by rw [ln], ?_⟩
        cases h2 : decide ((ns.length : Int) ≤ 4) with
        | false =>
          refine iteF (spChk ?_)
          exact one _ _ ev1 upd_same (by rw [h1, h2]; rfl)
        | true =>
          refine iteT ⟨_, rfl, _, rfl, t, _, rfl, .inr (SqT.of upd_same), by show 2 ≤ sizeLine; exact Nat.le_trans (by decide) line10, fun u hu => ?_⟩
          have ev2 := ev1.trans (Ev.new (o := .tup [.non, .int ((ns.map V.int).length : Nat)]) ev1.tb hu)
          have tu : t ≠ u := fun z => by rw [← z, upd_same] at hu; cases hu
          refine ⟨u, _, rfl, .inr (SqT.of upd_same), by cases months <;> rfl, rfl, spChk ?_⟩
          refine one _ _ ev2 (by rw [upd_ne tu]; exact upd_same) ?_
          show (if false = true then !inV (vO months) [.non, .int ((ns.map V.int).length : Nat)] else inV (vO months) [.non, .int ((ns.map V.int).length : Nat)]) = _
          rw [if_neg Bool.false_ne_true, ln, in_months, h1, h2]
          rfl
end
end HW
/-! read_site, read_right, site_text, right_text -/
namespace HW
open PySem PySem.Spec PyProof.Rows L2 GxR

def siteV (s : Site) (f : Addr) : List V := [.str s.name, vS s.next, .int s.travel, vO s.reach, .int s.room, .int s.held, .ref f]
def IsSite (H : Hp) (a : Addr) (s : Site) : Prop := ∃ f, H a = some (.tup (siteV s f)) ∧ H f = some (.tup (s.flows.map V.int))
def rightV (r : Right) (f : Addr) : List V := [.str r.name, .str r.site, .ref f]
def IsRight (H : Hp) (a : Addr) (r : Right) : Prop := ∃ f, H a = some (.tup (rightV r f)) ∧ H f = some (.tup (r.wants.map V.int))
theorem Ev.tup {A : Ad} {ch : List Addr} {H H1 : Hp} {a : Addr} {xs : List V} (e : Ev A ch H H1) (h : H a = some (.tup xs)) (n : a ∉ ch) : H1 a = some (.tup xs) := e.keep _ _ n rfl h
theorem not_in_lst {H : Hp} {a l : Addr} {xs ys : List V} (h : H a = some (.tup xs)) (hl : H l = some (.lst ys)) : a ∉ [l] := fun z => ne_of h hl (by intro q; cases q) (List.mem_singleton.mp z)
theorem RR_intOf {o : Option Int} {Q : Int → Prop} {N : Prop} (h : RR (intOf o) Q N) : ∃ n, o = some n ∧ Q n := by
  cases o with
  | none => exact h.elim
  | some n => exact ⟨n, rfl, h⟩
theorem cut_RR {α : Type} {r : R α} {G : α → Prop} {N : Prop} {t u : TS} {D : Ends} {σ : L2.St} {H : Hp} (M : α → L2.St → Hp → Prop) (k : RR r G N)
    (h1 : RR r G N → t { D with nx := fun σ' H' => ∃ a, G a ∧ M a σ' H' } σ H) (h2 : ∀ a σ' H', G a → M a σ' H' → u D σ' H') : C8.tCut t u D σ H :=
  ⟨_, h1 k, fun σ' H' ⟨a, g, m⟩ => h2 a σ' H' g m⟩
section
variable {A : Ad} {H : Hp} {p l : Addr} {rows : List Str} {m : Str} {sp : Sp} {E : XK} {σ : L2.St} {i : Nat} {t : TA} {Q : VK}
theorem in_m (a : PAt A H p l rows) (h : t σ H fun vs H2 => sp (.ref p :: vs) H2 Q E) (h0 : σ[i]? = some (some (.ref p)) := by rfl) (hm : (m == ("rows" : Str)) = false := by decide +kernel) : tM A.CP m sp E (tVar i) t σ H Q := by
  obtain ⟨⟨dx, hp⟩, hl⟩ := a
  exact ⟨_, h0, p, dx, _, rfl, hp, lk_no hm, h⟩
theorem in_m0 (a : PAt A H p l rows) (h : sp [.ref p] H Q E) (h0 : σ[i]? = some (some (.ref p)) := by rfl) (hm : (m == ("rows" : Str)) = false := by decide +kernel) : tM0 A.CP m sp E (tVar i) σ H Q := by
  obtain ⟨⟨dx, hp⟩, hl⟩ := a
  exact ⟨_, h0, p, dx, _, rfl, hp, lk_no hm, h⟩
end
section
variable {P : Program} {w : World} {K : PySem.W.Frag} {mg : Str → Option Value} {base : Heap} {A : Ad}

def spReadSite (A : Ad) : Sp := fun vs H Q E => ∃ (p l : Addr) (rows : List Str) (months : Option Int), vs = [.ref p, vO months] ∧ Tb A H ∧ PAt A H p l rows ∧
  RR (readSite months rows) (fun s => ∀ H' a, Ev A [l] H H' → IsSite H' a s → Q (.ref a) H') (∀ H', Ev A [l] H H' → E (.ref A.CN) none H')
abbrev nReadSite : List Str := ["pieces", "months", "name", "other", "travel", "reach", "room", "held"]
theorem scReadSite : FnScope nReadSite ["pieces", "months"] (defScope sReadSite) := ⟨rfl, rfl, rfl, by decide +kernel, rfl, by decide +kernel, by decide +kernel⟩
theorem ok_readSite (T : Tx P K mg A) (T1 : TabB base mg A.c1 A.P1) (T2 : TabB base mg A.c2 A.P2) : Ok P w K mg base 4 A.fReadSite ["pieces", "months"] (spReadSite A) := by
  obtain ⟨ta, ga⟩ := T.gAmountMost
  obtain ⟨tt, gt⟩ := T.gTravelMost
  refine T.dReadSite.okX scReadSite (fun vs H Q E h => ?_) (fun cdv Ar outer s H vs Q E hr h => ?_)
  · obtain ⟨p, l, rows, m, rfl, _⟩ := h
    rfl
  · obtain ⟨p, l, rows, months, rfl, tb, a, k⟩ := h
    have hx := pas (takes_of (X := cxOf (L2.CX P w) P w K mg base nReadSite "read_site" (defScope sReadSite) A.fReadSite cdv Ar outer s H E) rfl rfl rfl rfl)
    refine ⟨_, pss_cons (ps_set (i := 2) scReadSite.nd rfl (.inl rfl) (pe_m0 (ok_pname T T1) hr (by decide) T.cP T.mPName hx (pv 0)))
      (C8.pss_cut (ps_set (i := 3) scReadSite.nd rfl (.inl rfl) (pe_ifExp (pt_val (pe_m (ok_ppassed T) hr (by decide) T.cP T.mPPassed hx (pv 0) (pa_cons pe_str pa_nil))) (pe_m0 (ok_pname T T1) hr (by decide) T.cP T.mPName hx (pv 0)) pe_non))
      (pss_cons (ps_set (i := 4) scReadSite.nd rfl (.inl rfl) pe_int)
      (pss_cons (ps_set (i := 5) scReadSite.nd rfl (.inl rfl) pe_non)
      (C8.pss_cut (ps_if (pt_cmpR op_notN (pv 3) pe_non (nomark _))
          (pss_cons (ps_set (i := 4) scReadSite.nd rfl (.inl rfl) (pe_m (ok_pamount T T2) hr (by decide) T.cP T.mPAmount hx (pv 0) (pa_cons pe_str (pa_cons (pe_glob (v := .int 2) rfl gt ⟨_, rfl⟩) (pa_cons pe_int pa_nil)))))
          (pss_one (ps_set (i := 5) scReadSite.nd rfl (.inl rfl) (pe_m (ok_pamount T T2) hr (by decide) T.cP T.mPAmount hx (pv 0) (pa_cons pe_str (pa_cons (pe_glob (v := .int 99) rfl ga ⟨_, rfl⟩) (pa_cons pe_non pa_nil))))))) pss_nil)
      (pss_cons (ps_set (i := 6) scReadSite.nd rfl (.inl rfl) (pe_m (ok_pamount T T2) hr (by decide) T.cP T.mPAmount hx (pv 0) (pa_cons pe_str (pa_cons (pe_glob (v := .int 99) rfl ga ⟨_, rfl⟩) (pa_cons pe_int pa_nil)))))
      (pss_cons (ps_set (i := 7) scReadSite.nd rfl (.inl rfl) (pe_m (ok_pamount T T2) hr (by decide) T.cP T.mPAmount hx (pv 0) (pa_cons pe_str (pa_cons pe_non (pa_cons pe_int pa_nil)))))
      (pss_cons (ps_expr (pe_chk T hr (by decide) hx (pe_m (ok_ppassed T) hr (by decide) T.cP T.mPPassed hx (pv 0) (pa_cons pe_str pa_nil))))
      (pss_one (ps_ret (pe_tup (pa_cons (pv 2) (pa_cons (pv 3) (pa_cons (pv 4) (pa_cons (pv 5) (pa_cons (pv 6) (pa_cons (pv 7) (pa_cons (pe_m (ok_pamounts T T2) hr (by decide) T.cP T.mPAmounts hx (pv 0) (pa_cons (pv 1) pa_nil)) pa_nil))))))))))))))))), ?_⟩
    unfold readSite at k
    rw [RR_bind] at k
    refine in_m0 a ⟨p, l, rows, rfl, tb, a, k.mono (fun p1 k H1 e1 a1 => ?_) _root_.id⟩
    rw [RR_bind] at k
    refine cut_RR (fun p2 σ' H' => σ' = [some (.ref p), some (vO months), some (.str p1.1), some (vS p2.1), none, none, none, none] ∧ Ev A [l] H H' ∧ PAt A H' p l p2.2) k (fun k => ?_) (fun p2 σ' H2 k ⟨hσ, e2, a2⟩ => ?_)
    · refine in_m a1 ⟨p, l, _, _, rfl, e1.tb, a1, fun H2 e2 a2 => ⟨_, rfl, ?_⟩⟩
      cases e : (passedP "to" p1.2).1 with
      | false =>
        rw [e, if_neg Bool.false_ne_true] at k
        exact iteF ⟨(none, (passedP "to" p1.2).2), k, rfl, e1.trans e2, a2⟩
      | true =>
        rw [e, if_pos rfl, RR_bind] at k
        refine iteT (in_m0 a2 ⟨p, l, _, rfl, e2.tb, a2, k.mono (fun q k H3 e3 a3 => ?_) (fun k H3 e3 => k H3 ((e1.trans e2).trans e3))⟩)
        exact ⟨(some q.1, q.2), k, rfl, (e1.trans e2).trans e3, a3⟩
    · subst hσ
      rw [RR_bind] at k
      refine cut_RR (fun p3 σ' H' => σ' = [some (.ref p), some (vO months), some (.str p1.1), some (vS p2.1), some (.int p3.1), some (vO p3.2.1), none, none] ∧ Ev A [l] H H' ∧ PAt A H' p l p3.2.2) k (fun k => ?_) (fun p3 σ' H3 k ⟨hσ, e3, a3⟩ => ?_)
      · obtain ⟨o, rows2⟩ := p2
        refine ⟨_, rfl, rfl, _, rfl, ?_⟩
        cases o with
        | none => exact iteF ⟨(0, none, rows2), k, rfl, e2, a2⟩
        | some o =>
          rw [RR_bind] at k
          refine iteT (in_m a2 ⟨p, l, _, _, some 2, some 0, rfl, e2.tb, a2, k.mono (fun r k H3 e3 a3 => ?_) (fun k H3 e3 => k H3 (e2.trans e3))⟩)
          rw [RR_bind] at k
          obtain ⟨n, hn, k⟩ := RR_intOf k
          rw [hn]
          rw [RR_bind] at k
          refine in_m a3 ⟨p, l, _, _, some 99, none, rfl, e3.tb, a3, k.mono (fun r k H4 e4 a4 => ?_) (fun k H4 e4 => k H4 ((e2.trans e3).trans e4))⟩
          exact ⟨(n, r.1, r.2), k, rfl, (e2.trans e3).trans e4, a4⟩
      · subst hσ
        rw [RR_bind] at k
        refine in_m a3 ⟨p, l, _, _, some 99, some 0, rfl, e3.tb, a3, k.mono (fun r4 k H4 e4 a4 => ?_) (fun k H4 e4 => k H4 (e3.trans e4))⟩
        rw [RR_bind] at k
        obtain ⟨room, hn, k⟩ := RR_intOf k
        rw [hn]
        rw [RR_bind] at k
        have e4 := e3.trans e4
        refine in_m a4 ⟨p, l, _, _, none, some 0, rfl, e4.tb, a4, k.mono (fun r5 k H5 e5 a5 => ?_) (fun k H5 e5 => k H5 (e4.trans e5))⟩
        rw [RR_bind] at k
        obtain ⟨held, hn, k⟩ := RR_intOf k
        rw [hn]
        have e5 := e4.trans e5
        rw [RR_bind, RR_chk] at k
        refine in_m a5 ⟨p, l, _, _, rfl, e5.tb, a5, fun H6 e6 a6 => spChk (ite_and k (fun k => ?_) (fun k => k H6 (e5.trans e6)))⟩
        have e6 := e5.trans e6
        rw [RR_bind] at k
        refine ⟨_, rfl, _, rfl, _, rfl, _, rfl, _, rfl, _, rfl, in_m a6 ⟨_, rfl, p, l, _, months, rfl, e6.tb, a6, k.mono (fun fl k H7 t e7 ht => ?_) (fun k H7 e7 => k H7 (e6.trans e7.wide))⟩⟩
        refine ⟨Nat.le_trans (show 7 ≤ 10000 by decide) line10, fun q hq => ?_⟩
        refine k _ q ((e6.trans e7.wide).trans (Ev.new e7.tb hq).wide) ⟨t, upd_same, ?_⟩
        rw [upd_ne (fun z => by rw [← z, ht] at hq; cases hq)]
        exact ht

def spReadRight (A : Ad) : Sp := fun vs H Q E => ∃ (p l : Addr) (rows : List Str) (months : Option Int), vs = [.ref p, vO months] ∧ Tb A H ∧ PAt A H p l rows ∧
  RR (readRight months rows) (fun s => ∀ H' a, Ev A [l] H H' → IsRight H' a s → Q (.ref a) H') (∀ H', Ev A [l] H H' → E (.ref A.CN) none H')
abbrev nReadRight : List Str := ["pieces", "months", "name", "site"]
theorem scReadRight : FnScope nReadRight ["pieces", "months"] (defScope sReadRight) := ⟨rfl, rfl, rfl, by decide +kernel, rfl, by decide +kernel, by decide +kernel⟩
theorem vO_non (months : Option Int) : decide (vO months = V.non) = decide (months = none) := by
  cases months with
  | none => rfl
  | some n => simp [vO]
theorem ok_readRight (T : Tx P K mg A) (T1 : TabB base mg A.c1 A.P1) (T2 : TabB base mg A.c2 A.P2) : Ok P w K mg base 4 A.fReadRight ["pieces", "months"] (spReadRight A) := by
  refine T.dReadRight.okX scReadRight (fun vs H Q E h => ?_) (fun cdv Ar outer s H vs Q E hr h => ?_)
  · obtain ⟨p, l, rows, m, rfl, _⟩ := h
    rfl
  · obtain ⟨p, l, rows, months, rfl, tb, a, k⟩ := h
    have hx := pas (takes_of (X := cxOf (L2.CX P w) P w K mg base nReadRight "read_right" (defScope sReadRight) A.fReadRight cdv Ar outer s H E) rfl rfl rfl rfl)
    refine ⟨_, pss_cons (ps_set (i := 2) scReadRight.nd rfl (.inl rfl) (pe_m0 (ok_pname T T1) hr (by decide) T.cP T.mPName hx (pv 0)))
      (pss_cons (ps_expr (pe_chk T hr (by decide) hx (pe_m (ok_ppassed T) hr (by decide) T.cP T.mPPassed hx (pv 0) (pa_cons pe_str pa_nil))))
      (pss_cons (ps_set (i := 3) scReadRight.nd rfl (.inl rfl) (pe_m0 (ok_pname T T1) hr (by decide) T.cP T.mPName hx (pv 0)))
      (pss_cons (ps_expr (pe_chk T hr (by decide) hx (pe_and (pe_m (ok_ppassed T) hr (by decide) T.cP T.mPPassed hx (pv 0) (pa_cons pe_str pa_nil)) (pe_one (pe_cmpR op_notN (pv 1) pe_non (nomark _))))))
      (pss_one (ps_ret (pe_tup (pa_cons (pv 2) (pa_cons (pv 3) (pa_cons (pe_m (ok_pamounts T T2) hr (by decide) T.cP T.mPAmounts hx (pv 0) (pa_cons (pv 1) pa_nil)) pa_nil))))))))), ?_⟩
    unfold readRight at k
    rw [RR_bind] at k
    refine in_m0 a ⟨p, l, rows, rfl, tb, a, k.mono (fun p1 k H1 e1 a1 => ?_) _root_.id⟩
    rw [RR_bind, RR_chk] at k
    refine in_m a1 ⟨p, l, _, _, rfl, e1.tb, a1, fun H2 e2 a2 => spChk (ite_and k (fun k => ?_) (fun k => k H2 (e1.trans e2)))⟩
    have e2 := e1.trans e2
    rw [RR_bind] at k
    refine in_m0 a2 ⟨p, l, _, rfl, e2.tb, a2, k.mono (fun p2 k H3 e3 a3 => ?_) (fun k H3 e3 => k H3 (e2.trans e3))⟩
    have e3 := e2.trans e3
    rw [RR_bind, RR_chk] at k
    refine in_m a3 ⟨p, l, _, _, rfl, e3.tb, a3, fun H4 e4 a4 => ?_⟩
    have e4 := e3.trans e4
    refine ⟨_, rfl, ?_⟩
    cases hb : (passedP "wants" p2.2).1 with
    | false =>
      rw [hb, Bool.false_and, if_neg Bool.false_ne_true] at k
      exact iteF (spChk (iteF (k H4 e4)))
    | true =>
    rw [hb, Bool.true_and] at k
    refine iteT ⟨_, rfl, rfl, spChk ?_⟩
    rw [vO_non]
    refine ite_and k (fun k => ?_) (fun k => k H4 e4)
    rw [RR_bind] at k
    refine ⟨_, rfl, _, rfl, in_m a4 ⟨_, rfl, p, l, _, months, rfl, e4.tb, a4, k.mono (fun fl k H7 t e7 ht => ?_) (fun k H7 e7 => k H7 (e4.trans e7.wide))⟩⟩
    refine ⟨Nat.le_trans (show 3 ≤ 10000 by decide) line10, fun q hq => ?_⟩
    refine k _ q ((e4.trans e7.wide).trans (Ev.new e7.tb hq).wide) ⟨t, upd_same, ?_⟩
    rw [upd_ne (fun z => by rw [← z, ht] at hq; cases hq)]
    exact ht
end
end HW
/-! site_text, right_text -/
namespace HW
open PySem PySem.Spec PyProof.Rows L2 GxR

theorem slen (a b : Str) : (a ++ b).length = a.length + b.length := by simp [Str.length, PySem.Str.cps_append]
theorem fits_log {n : Int} (h : fits n = true) : n.natAbs.log2 < 1920 := by
  have h := of_decide_eq_true h
  by_cases e : n.natAbs = 0
  · rw [e]
    decide
  · exact Nat.lt_of_lt_of_le ((Nat.log2_lt e).mpr (show n.natAbs < 2 ^ 20 by omega)) (by decide)
theorem numT_len {n : Int} (h : fits n = true) : (numT n).length ≤ 7 := by
  have h := of_decide_eq_true h
  have e := int_text_length_le10 (a := n) (k := 6) (by decide) (by omega)
  show (Str.ofString (toString n)).length ≤ 7
  rw [PySem.ofString_length]
  exact e
theorem sum_len : ∀ (ys : List Str) (B : Nat), (∀ y ∈ ys, y.length ≤ B) → (ys.map (·.length)).sum ≤ ys.length * B
  | [], _, _ => by simp
  | y :: r, B, h => by
    have h1 := sum_len r B fun z hz => h z (List.mem_cons_of_mem _ hz)
    have h2 := h y (List.mem_cons_self ..)
    have e1 : ((y :: r).map (·.length)).sum = y.length + (r.map (·.length)).sum := rfl
    have e2 : (y :: r).length * B = r.length * B + B := by rw [List.length_cons, Nat.succ_mul]
    omega
/-- a list of texts that is built -/
structure PtS (A : Ad) (H : Hp) (D : Addr) (k : Nat) (ys : List Str) (H' : Hp) : Prop where
  ev : Ev A [] H H'
  at_ : H' D = some (.lst (ys.map V.str))
  le : ys.length ≤ k
  sm : ∀ y ∈ ys, y.length ≤ 1010
section
variable {K : PySem.W.Frag} {A : Ad} {H H' : Hp} {D : Addr} {k : Nat} {ys : List Str}
theorem PtS.put {z : Str} (p : PtS A H D k ys H') (hD : H D = none) (hz : z.length ≤ 1010) : PtS A H D (k + 1) (ys ++ [z]) (upd H' D (.lst (ys.map V.str ++ [.str z]))) := by
  refine ⟨?_, by rw [upd_same, List.map_append]; rfl, by rw [List.length_append]; exact Nat.succ_le_succ p.le, fun y hy => ?_⟩
  · exact (p.ev.wide.trans (Ev.chg (ch := [D]) p.ev.tb p.at_ rfl (by simp))).newer fun b hb _ => by rw [List.mem_singleton.mp hb]; exact hD
  · rcases List.mem_append.mp hy with h | h
    · exact p.sm y h
    · rw [List.mem_singleton.mp h]
      exact hz
theorem PtS.skip (p : PtS A H D k ys H') : PtS A H D (k + 1) (ys ++ []) H' := by
  rw [List.append_nil]
  exact ⟨p.ev, p.at_, Nat.le_succ_of_le p.le, p.sm⟩
theorem lt_line {n : Nat} (h : n ≤ 10000 - 1) : n < sizeLine := Nat.lt_of_lt_of_le (show n < 10000 by omega) line10
theorem PtS.app {z : Str} {Q : VK} (p : PtS A H D k ys H') (hk : k ≤ 500) (hD : H D = none) (hz : z.length ≤ 1010) (q : ∀ H2, PtS A H D (k + 1) (ys ++ [z]) H2 → Q .non H2) : rAppend (.ref D) [.str z] H' Q :=
  ⟨D, _, _, rfl, rfl, p.at_, lt_line (by rw [List.length_map]; have := p.le; omega), q _ (p.put hD hz)⟩
end
section
variable {K : PySem.W.Frag} {A : Ad} {H H' : Hp} {D : Addr} {k : Nat} {ys : List Str} {u : TS} {De : Ends} {σ : L2.St} {i : Nat} {pre : Str}
theorem empty_app (z : Str) : Str.empty ++ z = z := by
  cases z with
  | mk c =>
    show (⟨#[] ++ c⟩ : Str) = ⟨c⟩
    simp
theorem jn {n : Int} {te : TE} {Q : Str → Hp → Prop} (hpre : pre.length ≤ 1000) (hn : fits n = true) (h : te σ H' fun x H1 => x = .int n ∧ Q (pre ++ numT n) H1) (mono : ∀ Q Q' : VK, (∀ x H1, Q x H1 → Q' x H1) → te σ H' Q → te σ H' Q') : tJs [tC (V.str pre), tFmt te] Str.empty σ H' Q := by
  have l1 : (Str.empty ++ pre).length ≤ sizeLine := by rw [empty_app]; exact Nat.le_trans hpre (Nat.le_trans (by decide) line10)
  refine ⟨pre, rfl, l1, mono _ _ ?_ h⟩
  rintro x H1 ⟨rfl, q⟩
  refine .inr ⟨n, rfl, fits_log hn, numT n, rfl, ?_, ?_⟩
  · rw [empty_app, slen]
    exact Nat.le_trans (Nat.add_le_add hpre (numT_len hn)) (Nat.le_trans (by decide) line10)
  · show Q (Str.empty ++ pre ++ numT n) H1
    rw [empty_app]
    exact q
theorem jnV {n : Int} {Q : Str → Hp → Prop} (hpre : pre.length ≤ 1000) (hn : fits n = true) (hi : σ[i]? = some (some (.int n))) (q : Q (pre ++ numT n) H') : tJs [tC (V.str pre), tFmt (tVar i)] Str.empty σ H' Q :=
  jn hpre hn ⟨_, hi, rfl, q⟩ fun Q Q' h ⟨v, e, q⟩ => ⟨v, e, h v H' q⟩
theorem nl {n : Int} (hpre : pre.length ≤ 1000) (hn : fits n = true) : (pre ++ numT n).length ≤ 1010 := by
  rw [slen]
  have := numT_len hn
  omega
abbrev tIn (pre : Str) (i : Nat) : TE := fun σ H Q => tJs [tC (V.str pre), tFmt (tVar i)] Str.empty σ H fun out H1 => Q (V.str out) H1
theorem stepI {n : Int} (p : PtS A H D k ys H') (hk : k ≤ 500) (hD : H D = none) (hpre : pre.length ≤ 1000) (h8 : σ[8]? = some (some (.ref D))) (hi : σ[i]? = some (some (.int n))) (hn : fits n = true)
    (q : ∀ H2, PtS A H D (k + 1) (ys ++ if decide (0 < n) = true then [pre ++ numT n] else []) H2 → u De σ H2) :
    C8.tCut (tIfS (tTest (tOp (rI0 fun i j => V.bl (decide (j < i))) (tVar i) (tC (V.int 0)))) (tDrop (tBM K "list" rAppend (tVar 8) (tCons (tIn pre i) tNil))) tNext) u De σ H' := by
  refine ⟨fun σ' H2 => σ' = σ ∧ PtS A H D (k + 1) (ys ++ if decide (0 < n) = true then [pre ++ numT n] else []) H2, ?_, fun σ' H2 ⟨e, p⟩ => e ▸ q H2 p⟩
  refine ⟨_, hi, n, 0, rfl, rfl, decide (0 < n), rfl, ?_⟩
  cases e : decide (0 < n) with
  | true =>
    refine iteT ⟨_, h8, .inl ⟨rfl, _, SqL.of p.at_⟩, jnV hpre hn hi ?_⟩
    show rAppend (.ref D) [.str (pre ++ numT n)] H' (fun _ H1 => σ = σ ∧ PtS A H D (k + 1) (ys ++ [pre ++ numT n]) H1)
    exact p.app hk hD (nl hpre hn) fun H2 p2 => ⟨rfl, p2⟩
  | false => exact iteF ⟨rfl, p.skip⟩
theorem stepO {o : Option Int} (p : PtS A H D k ys H') (hk : k ≤ 500) (hD : H D = none) (hpre : pre.length ≤ 1000) (h8 : σ[8]? = some (some (.ref D))) (hi : σ[i]? = some (some (vO o))) (hn : o.elim true fits = true)
    (q : ∀ H2, PtS A H D (k + 1) (ys ++ (o.elim [] fun n => [pre ++ numT n])) H2 → u De σ H2) :
    C8.tCut (tIfS (tTest (tOp (fun x y H Q => y = V.non ∧ Q (V.bl !decide (x = V.non)) H) (tVar i) (tC V.non))) (tDrop (tBM K "list" rAppend (tVar 8) (tCons (tIn pre i) tNil))) tNext) u De σ H' := by
  refine ⟨fun σ' H2 => σ' = σ ∧ PtS A H D (k + 1) (ys ++ (o.elim [] fun n => [pre ++ numT n])) H2, ?_, fun σ' H2 ⟨e, p⟩ => e ▸ q H2 p⟩
  refine ⟨_, hi, rfl, _, rfl, ?_⟩
  cases o with
  | some n =>
    refine iteT ⟨_, h8, .inl ⟨rfl, _, SqL.of p.at_⟩, jnV hpre hn hi ?_⟩
    show rAppend (.ref D) [.str (pre ++ numT n)] H' (fun _ H1 => σ = σ ∧ PtS A H D (k + 1) (ys ++ [pre ++ numT n]) H1)
    exact p.app hk hD (nl hpre hn) fun H2 p2 => ⟨rfl, p2⟩
  | none => exact iteF ⟨rfl, p.skip⟩
theorem stepS {o : Option Str} (p : PtS A H D k ys H') (hk : k ≤ 500) (hD : H D = none) (hpre : pre.length ≤ 10) (h8 : σ[8]? = some (some (.ref D))) (hi : σ[i]? = some (some (vS o))) (hn : o.elim true small = true)
    (q : ∀ H2, PtS A H D (k + 1) (ys ++ (o.elim [] fun n => [pre ++ n])) H2 → u De σ H2) :
    C8.tCut (tIfS (tTest (tOp (fun x y H Q => y = V.non ∧ Q (V.bl !decide (x = V.non)) H) (tVar i) (tC V.non))) (tDrop (tBM K "list" rAppend (tVar 8) (tCons (tOp (fun x y H Q => ∃ i j, x = V.str i ∧ y = V.str j ∧ i.length + j.length ≤ sizeLine ∧ Q (V.str (i ++ j)) H) (tC (V.str pre)) (tVar i)) tNil))) tNext) u De σ H' := by
  refine ⟨fun σ' H2 => σ' = σ ∧ PtS A H D (k + 1) (ys ++ (o.elim [] fun n => [pre ++ n])) H2, ?_, fun σ' H2 ⟨e, p⟩ => e ▸ q H2 p⟩
  refine ⟨_, hi, rfl, _, rfl, ?_⟩
  cases o with
  | some n =>
    have hn : n.length ≤ 1000 := of_decide_eq_true hn
    refine iteT ⟨_, h8, .inl ⟨rfl, _, SqL.of p.at_⟩, _, hi, pre, n, rfl, rfl, Nat.le_trans (Nat.add_le_add hpre hn) (Nat.le_trans (by decide) line10), ?_⟩
    show rAppend (.ref D) [.str (pre ++ n)] H' (fun _ H1 => σ = σ ∧ PtS A H D (k + 1) (ys ++ [pre ++ n]) H1)
    exact p.app hk hD (by rw [slen]; omega) fun H2 p2 => ⟨rfl, p2⟩
  | none => exact iteF ⟨rfl, p.skip⟩
/-- [str(number) for number in numbers] -/
theorem lc_nums {ns : List Int} {f : Addr} {Qd : Hp → Prop} {j : Nat} {vs : List Nat} {H1 : Hp} (hj : vs = [j]) (hl : j < σ.length) (tb : Tb A H1) (hf : H1 f = some (.tup (ns.map V.int))) (fit : ns.all fits = true) (ln : ns.length ≤ 100) (hD : H1 D = none)
    (q : ∀ H2, PtS A H1 D ns.length (ns.map numT) H2 → Qd H2) :
    ∃ W : Nat → Nat → Hp → Prop, (∃ m, W 0 m (upd H1 D (.lst []))) ∧ ∀ i m H, W i m H →
      ((Itt K f).stop i H ∧ Qd H) ∨ ((Itt K f).go i H ∧ ∃ Nx : Hp → Prop, (∀ H', Nx H' → ∃ m', m' < m ∧ W (i + 1) m' H') ∧ ∀ x H', (Itt K f).yld i H x H' → gName j x (wipe σ vs) H' fun σ2 H2 => wipe σ2 vs = wipe σ vs ∧ tYes σ2 H2 fun b H3 =>
        if b = true then tCB (fun xs H Q => ∃ i, xs = [V.int i] ∧ i.natAbs.log2 < 1920 ∧ Q (V.str (Str.ofString (toString i))) H) (tCons (tVar j) tNil) σ2 H3 fun y H4 => ∃ acc, H4 D = some (.lst acc) ∧ acc.length < sizeLine ∧ Nx (upd H4 D (.lst (acc ++ [y]))) else Nx H3) := by
  subst hj
  have hw : (wipe σ [j]).length = σ.length := by simp [wipe]
  refine lc_tup (xs := ns.map V.int) (fun i H2 => PtS A H1 D i ((ns.take i).map numT) H2) ⟨Ev.new tb hD, upd_same, by simp, by simp⟩ (fun i H2 _ p => SqT.of (p.ev.keep _ _ (by simp) rfl hf)) ?_ ?_
  · intro i x H2 hi p
    rw [List.getElem?_map] at hi
    cases ez : ns[i]? with
    | none => rw [ez] at hi; cases hi
    | some n =>
    rw [ez] at hi
    cases hi
    obtain ⟨hi2, ez2⟩ := List.getElem?_eq_some_iff.mp ez
    have hn : fits n = true := List.all_eq_true.mp fit n (ez2 ▸ List.getElem_mem hi2)
    refine ⟨by simp [wipe], ?_⟩
    unfold tYes
    dsimp only
    rw [if_pos rfl]
    refine ⟨_, by rw [List.getElem?_set_self (by rw [hw]; exact hl)], n, rfl, fits_log hn, _, p.at_, lt_line (by rw [List.length_map]; have := p.le; omega), ?_⟩
    have e : (ns.take (i + 1)).map numT = (ns.take i).map numT ++ [numT n] := by
      rw [List.take_succ, ez]
      simp
    rw [e]
    exact p.put hD (Nat.le_trans (numT_len hn) (by decide))
  · intro H2 p
    rw [List.length_map, List.take_length] at p
    exact q H2 p
end
section
variable {P : Program} {w : World} {K : PySem.W.Frag} {mg : Str → Option Value} {base : Heap} {A : Ad}
def spSiteText (A : Ad) : Sp := fun vs H Q E => ∃ (a : Addr) (s : Site), vs = [.ref a] ∧ Tb A H ∧ IsSite H a s ∧ siteFits s = true ∧ ∀ H', Ev A [] H H' → Q (.str (siteText s)) H'
abbrev nSiteText : List Str := ["site", "name", "other", "travel", "reach", "room", "held", "inflows", "pieces", "number"]
theorem scSiteText : FnScope nSiteText ["site"] (defScope sSiteText) := ⟨rfl, rfl, rfl, by decide +kernel, rfl, by decide +kernel, by decide +kernel⟩
abbrev tApp (K : PySem.W.Frag) (te : TE) (i : Nat) : TS := tDrop (tBM K "list" rAppend (tVar i) (tCons te tNil))
theorem ok_siteText (T : Tx P K mg A) : Ok P w K mg base 1 A.fSiteText ["site"] (spSiteText A) := by
  refine T.dSiteText.okX scSiteText (fun vs H Q E h => ?_) (fun cdv Ar outer s H vs Q E hr h => ?_)
  · obtain ⟨a, s, rfl, _⟩ := h
    rfl
  · obtain ⟨a, s, rfl, tb, ⟨f, ha, hf⟩, fit, k⟩ := h
    refine ⟨_, pss_cons (ps_asg (pv 0) (pg_tup rfl (pgs_cons (pg_name (i := 1) scSiteText.nd rfl (.inl rfl)) (pgs_cons (pg_name (i := 2) scSiteText.nd rfl (.inl rfl)) (pgs_cons (pg_name (i := 3) scSiteText.nd rfl (.inl rfl)) (pgs_cons (pg_name (i := 4) scSiteText.nd rfl (.inl rfl))
        (pgs_cons (pg_name (i := 5) scSiteText.nd rfl (.inl rfl)) (pgs_cons (pg_name (i := 6) scSiteText.nd rfl (.inl rfl)) (pgs_cons (pg_name (i := 7) scSiteText.nd rfl (.inl rfl)) pgs_nil)))))))))
      (pss_cons (ps_set (i := 8) scSiteText.nd rfl (.inl rfl) (pe_lst (pa_cons (pe_op op_add_str pe_str (pv 1)) pa_nil)))
      (C8.pss_cut (ps_if (pt_cmpR op_notN (pv 2) pe_non (nomark _)) (pss_one (ps_expr (pe_bm PySem.F.plainAttrs_list PySem.F.slot_list_append PySem.F.type_list_append mt_append (pv 8) (pa_cons (pe_op op_add_str pe_str (pv 2)) pa_nil)))) pss_nil)
      (C8.pss_cut (ps_if (pt_cmpR op_gt (pv 3) pe_int (nomark _)) (pss_one (ps_expr (pe_bm PySem.F.plainAttrs_list PySem.F.slot_list_append PySem.F.type_list_append mt_append (pv 8) (pa_cons (pe_joined (PJ.cons pe_str (.cons (pe_fmt (pv 3)) .nil))) pa_nil)))) pss_nil)
      (C8.pss_cut (ps_if (pt_cmpR op_notN (pv 4) pe_non (nomark _)) (pss_one (ps_expr (pe_bm PySem.F.plainAttrs_list PySem.F.slot_list_append PySem.F.type_list_append mt_append (pv 8) (pa_cons (pe_joined (PJ.cons pe_str (.cons (pe_fmt (pv 4)) .nil))) pa_nil)))) pss_nil)
      (C8.pss_cut (ps_if (pt_cmpR op_gt (pv 5) pe_int (nomark _)) (pss_one (ps_expr (pe_bm PySem.F.plainAttrs_list PySem.F.slot_list_append PySem.F.type_list_append mt_append (pv 8) (pa_cons (pe_joined (PJ.cons pe_str (.cons (pe_fmt (pv 5)) .nil))) pa_nil)))) pss_nil)
      (C8.pss_cut (ps_if (pt_cmpR op_gt (pv 6) pe_int (nomark _)) (pss_one (ps_expr (pe_bm PySem.F.plainAttrs_list PySem.F.slot_list_append PySem.F.type_list_append mt_append (pv 8) (pa_cons (pe_joined (PJ.cons pe_str (.cons (pe_fmt (pv 6)) .nil))) pa_nil)))) pss_nil)
      (pss_one (ps_ret (pe_join pe_str (pe_op op_cat (pe_op op_cat (pv 8) (pe_lst (pa_cons pe_str pa_nil)))
        (pe_lc (own := [("number", 9)]) (g := gName 9) (tt := tYes) rfl scSiteText.nd (pi_tup (pv 7)) (blkOk_by (own := [("number", 9)]) (N := nSiteText) (sc := defScope sSiteText) (by decide +kernel))
          (fun _ _ _ _ _ => pg_name (i := 9) scSiteText.nd rfl (.inl rfl)) (fun _ _ _ _ _ => pts_nil) (fun _ _ _ _ _ => pe_callTy call_str_int (by rfl) T.bStr (by decide +kernel) (pa_cons (pv 9) pa_nil))))))))))))), ?_⟩
    unfold siteFits at fit
    simp only [Bool.and_eq_true] at fit
    obtain ⟨⟨⟨⟨⟨⟨⟨f1, f2⟩, f3⟩, f4⟩, f5⟩, f6⟩, f7⟩, f8⟩ := fit
    have f1 : s.name.length ≤ 1000 := of_decide_eq_true f1
    have f8 : s.flows.length ≤ 100 := of_decide_eq_true f8
    have ten : ∀ n, n ≤ 9000 → n ≤ sizeLine := fun n h => Nat.le_trans h (Nat.le_trans (by decide) line10)
    refine ⟨_, rfl, a, _, rfl, SqT.of ha, rfl, _, _, rfl, _, _, rfl, _, _, rfl, _, _, rfl, _, _, rfl, _, _, rfl, _, _, rfl, rfl, ?_⟩
    refine ⟨_, rfl, _, _, rfl, rfl, ten _ (by show 5 + _ ≤ _; omega), ten 1 (by decide), fun D hD => ?_⟩
    have p : PtS A H D 1 [("site " : Str) ++ s.name] (upd H D (.lst [.str (("site " : Str) ++ s.name)])) := ⟨Ev.new tb hD, upd_same, Nat.le_refl _, fun y hy => by
      rw [List.mem_singleton.mp hy, slen]
      show 5 + _ ≤ _
      omega⟩
    refine stepS p (by decide) hD (by decide) rfl rfl f2 fun H2 p => ?_
    refine stepI p (by decide) hD (by decide) rfl rfl f3 fun H2 p => ?_
    refine stepO p (by decide) hD (by decide) rfl rfl f4 fun H2 p => ?_
    refine stepI p (by decide) hD (by decide) rfl rfl f5 fun H2 p => ?_
    refine stepI p (by decide) hD (by decide) rfl rfl f6 fun H2 p => ?_
    have p : PtS A H D 6 (siteParts s) H2 := p
    refine ⟨⟨_, rfl⟩, _, rfl, ten 1 (by decide), fun F hF => ?_⟩
    have dF : D ≠ F := ne_of_none p.at_ hF
    have ev1 := p.ev.trans (Ev.new (o := .lst [.str ("flow" : Str)]) p.ev.tb hF)
    refine ⟨D, F, _, _, rfl, rfl, by rw [upd_ne dF]; exact p.at_, upd_same, ten _ (by rw [List.length_map]; have := p.le; show _ + 1 ≤ _; omega), fun G hG => ?_⟩
    have ev2 := ev1.trans (Ev.new (o := .lst ((siteParts s).map V.str ++ [.str ("flow" : Str)])) ev1.tb hG)
    refine ⟨_, rfl, f, rfl, ⟨_, SqT.of (ev2.keep _ _ (by simp) rfl hf)⟩, fun J hJ => ?_⟩
    refine lc_nums (A := A) rfl (by show 9 < 10; decide) ev2.tb (ev2.keep _ _ (by simp) rfl hf) f7 f8 hJ fun H3 p3 => ?_
    refine ⟨G, J, _, _, rfl, rfl, p3.ev.keep _ _ (by simp) rfl upd_same, p3.at_, ten _ (by rw [List.length_append, List.length_map, List.length_map, List.length_map]; have := p.le; show _ + 1 + _ ≤ _; omega), fun M hM => ?_⟩
    have ev3 := ev2.trans p3.ev
    have ev4 := ev3.trans (Ev.new (o := .lst (((siteParts s).map V.str ++ [.str ("flow" : Str)]) ++ (s.flows.map numT).map V.str)) ev3.tb hM)
    refine ⟨" ", M, siteParts s ++ [("flow" : Str)] ++ s.flows.map numT, rfl, rfl, .inl ?_, ?_, (join_sp _).symm ▸ k _ ev4⟩
    · rw [List.map_append, List.map_append]
      exact SqL.of upd_same
    · have b := sum_len (siteParts s ++ [("flow" : Str)] ++ s.flows.map numT) 1010 fun y hy => by
        rcases List.mem_append.mp hy with h | h
        · rcases List.mem_append.mp h with h | h
          · exact p.sm y h
          · rw [List.mem_singleton.mp h]
            decide
        · obtain ⟨n, hn, rfl⟩ := List.mem_map.mp h
          exact Nat.le_trans (numT_len (List.all_eq_true.mp f7 n hn)) (by decide)
      have l : (siteParts s ++ [("flow" : Str)] ++ s.flows.map numT).length ≤ 107 := by
        rw [List.length_append, List.length_append, List.length_map]
        have := p.le
        show _ + 1 + _ ≤ _
        omega
      have e1 : (" " : Str).length = 1 := by decide +kernel
      rw [e1]
      have := Nat.mul_le_mul_right 1010 l
      omega

def spRightText (A : Ad) : Sp := fun vs H Q E => ∃ (a : Addr) (r : Right), vs = [.ref a] ∧ Tb A H ∧ IsRight H a r ∧ rightFits r = true ∧ ∀ H', Ev A [] H H' → Q (.str (rightText r)) H'
abbrev nRightText : List Str := ["right", "name", "site", "demands", "number"]
theorem scRightText : FnScope nRightText ["right"] (defScope sRightText) := ⟨rfl, rfl, rfl, by decide +kernel, rfl, by decide +kernel, by decide +kernel⟩
theorem ok_rightText (T : Tx P K mg A) : Ok P w K mg base 1 A.fRightText ["right"] (spRightText A) := by
  refine T.dRightText.okX scRightText (fun vs H Q E h => ?_) (fun cdv Ar outer s H vs Q E hr h => ?_)
  · obtain ⟨a, s, rfl, _⟩ := h
    rfl
  · obtain ⟨a, r, rfl, tb, ⟨f, ha, hf⟩, fit, k⟩ := h
    refine ⟨_, pss_cons (ps_asg (pv 0) (pg_tup rfl (pgs_cons (pg_name (i := 1) scRightText.nd rfl (.inl rfl)) (pgs_cons (pg_name (i := 2) scRightText.nd rfl (.inl rfl)) (pgs_cons (pg_name (i := 3) scRightText.nd rfl (.inl rfl)) pgs_nil)))))
      (pss_one (ps_ret (pe_join pe_str (pe_op op_cat (pe_lst (pa_cons pe_str (pa_cons (pv 1) (pa_cons pe_str (pa_cons (pv 2) (pa_cons pe_str pa_nil))))))
        (pe_lc (own := [("number", 4)]) (g := gName 4) (tt := tYes) rfl scRightText.nd (pi_tup (pv 3)) (blkOk_by (own := [("number", 4)]) (N := nRightText) (sc := defScope sRightText) (by decide +kernel))
          (fun _ _ _ _ _ => pg_name (i := 4) scRightText.nd rfl (.inl rfl)) (fun _ _ _ _ _ => pts_nil) (fun _ _ _ _ _ => pe_callTy call_str_int (by rfl) T.bStr (by decide +kernel) (pa_cons (pv 4) pa_nil))))))), ?_⟩
    unfold rightFits at fit
    simp only [Bool.and_eq_true] at fit
    obtain ⟨⟨⟨f1, f2⟩, f7⟩, f8⟩ := fit
    have f1 : r.name.length ≤ 1000 := of_decide_eq_true f1
    have f2 : r.site.length ≤ 1000 := of_decide_eq_true f2
    have f8 : r.wants.length ≤ 100 := of_decide_eq_true f8
    have ten : ∀ n, n ≤ 9000 → n ≤ sizeLine := fun n h => Nat.le_trans h (Nat.le_trans (by decide) line10)
    refine ⟨_, rfl, a, _, rfl, SqT.of ha, rfl, _, _, rfl, _, _, rfl, _, _, rfl, rfl, ?_⟩
    refine ⟨⟨_, rfl⟩, _, rfl, _, rfl, ten 5 (by decide), fun F hF => ?_⟩
    have ev2 : Ev A [] H (upd H F _) := Ev.new (o := .lst ([("right" : Str), r.name, ("at" : Str), r.site, ("wants" : Str)].map V.str)) tb hF
    refine ⟨_, rfl, f, rfl, ⟨_, SqT.of (ev2.keep _ _ (by simp) rfl hf)⟩, fun J hJ => ?_⟩
    refine lc_nums (A := A) rfl (by show 4 < 5; decide) ev2.tb (ev2.keep _ _ (by simp) rfl hf) f7 f8 hJ fun H3 p3 => ?_
    refine ⟨F, J, [("right" : Str), r.name, ("at" : Str), r.site, ("wants" : Str)].map V.str, _, rfl, rfl, p3.ev.keep _ _ (by simp) rfl upd_same, p3.at_, ten _ (by rw [List.length_map, List.length_map, List.length_map]; show 5 + _ ≤ _; omega), fun M hM => ?_⟩
    have ev3 := ev2.trans p3.ev
    have ev4 := ev3.trans (Ev.new (o := .lst ([("right" : Str), r.name, ("at" : Str), r.site, ("wants" : Str)].map V.str ++ (r.wants.map numT).map V.str)) ev3.tb hM)
    refine ⟨" ", M, [("right" : Str), r.name, ("at" : Str), r.site, ("wants" : Str)] ++ r.wants.map numT, rfl, rfl, .inl ?_, ?_, (join_sp _).symm ▸ k _ ev4⟩
    · rw [List.map_append]
      exact SqL.of upd_same
    · have b := sum_len ([("right" : Str), r.name, ("at" : Str), r.site, ("wants" : Str)] ++ r.wants.map numT) 1010 fun y hy => by
        rcases List.mem_append.mp hy with h | h
        · rcases List.mem_cons.mp h with h | h
          · rw [h]; decide
          rcases List.mem_cons.mp h with h | h
          · rw [h]; omega
          rcases List.mem_cons.mp h with h | h
          · rw [h]; decide
          rcases List.mem_cons.mp h with h | h
          · rw [h]; omega
          · rw [List.mem_singleton.mp h]; decide
        · obtain ⟨n, hn, rfl⟩ := List.mem_map.mp h
          exact Nat.le_trans (numT_len (List.all_eq_true.mp f7 n hn)) (by decide)
      have l : ([("right" : Str), r.name, ("at" : Str), r.site, ("wants" : Str)] ++ r.wants.map numT).length ≤ 107 := by
        rw [List.length_append, List.length_map]
        show 5 + _ ≤ _
        omega
      have e1 : (" " : Str).length = 1 := by decide +kernel
      rw [e1]
      have := Nat.mul_le_mul_right 1010 l
      omega
end
end HW
/-! class Reading: __init__, line -/
namespace HW
open PySem PySem.Spec PyProof.Rows L2 GxR

inductive All2 {α β : Type} (p : α → β → Prop) : List α → List β → Prop where
  | nil : All2 p [] []
  | cons {a : α} {b : β} {as : List α} {bs : List β} (h : p a b) (r : All2 p as bs) : All2 p (a :: as) (b :: bs)
section
variable {α β : Type} {p q : α → β → Prop} {as : List α} {bs : List β}
theorem All2.mono (h : All2 p as bs) (k : ∀ a b, p a b → q a b) : All2 q as bs := by
  induction h with
  | nil => exact .nil
  | cons h _ ih => exact .cons (k _ _ h) ih
theorem All2.len (h : All2 p as bs) : as.length = bs.length := by
  induction h with
  | nil => rfl
  | cons h _ ih => rw [List.length_cons, List.length_cons, ih]
theorem All2.snoc {a : α} {b : β} (h : All2 p as bs) (k : p a b) : All2 p (as ++ [a]) (bs ++ [b]) := by
  induction h with
  | nil => exact .cons k .nil
  | cons h _ ih => exact .cons h ih
theorem All2.get {i : Nat} {a : α} (h : All2 p as bs) (e : as[i]? = some a) : ∃ b, bs[i]? = some b ∧ p a b := by
  induction h generalizing i with
  | nil => simp at e
  | cons h _ ih =>
    cases i with
    | zero =>
      simp at e
      subst e
      exact ⟨_, rfl, h⟩
    | succ i => exact ih (by simpa using e)
theorem All2.drop (h : All2 p as bs) (i : Nat) : All2 p (as.drop i) (bs.drop i) := by
  induction h generalizing i with
  | nil => simp; exact .nil
  | cons h r ih =>
    cases i with
    | zero => exact .cons h r
    | succ i => exact ih i
end
def fsR (ls lr : Addr) (m : V) : List (Str × V) := [("sites", .ref ls), ("rights", .ref lr), ("months", m)]
theorem fsR_s {ls lr : Addr} {m : V} : List.lookup ("sites" : Str) (fsR ls lr m) = some (.ref ls) := by simp [fsR, List.lookup]
theorem fsR_r {ls lr : Addr} {m : V} : List.lookup ("rights" : Str) (fsR ls lr m) = some (.ref lr) := by
  have e : (("rights" : Str) == ("sites" : Str)) = false := by decide +kernel
  simp [fsR, List.lookup, e]
theorem fsR_m {ls lr : Addr} {m : V} : List.lookup ("months" : Str) (fsR ls lr m) = some m := by
  have e : (("months" : Str) == ("sites" : Str)) = false := by decide +kernel
  have e2 : (("months" : Str) == ("rights" : Str)) = false := by decide +kernel
  simp [fsR, List.lookup, e, e2]
theorem fsR_no {f : Str} {ls lr : Addr} {m : V} (h1 : (f == ("sites" : Str)) = false) (h2 : (f == ("rights" : Str)) = false) (h3 : (f == ("months" : Str)) = false) : List.lookup f (fsR ls lr m) = none := by simp [fsR, List.lookup, h1, h2, h3]
theorem fsR_put {ls lr : Addr} {m m' : V} : putF "months" m' (fsR ls lr m) = fsR ls lr m' := by
  have e : ¬ (("sites" : Str) = ("months" : Str)) := by decide +kernel
  have e2 : ¬ (("rights" : Str) = ("months" : Str)) := by decide +kernel
  simp [fsR, putF, e, e2]
theorem fsR_mk {ls lr : Addr} {m : V} : putF "months" m (putF "rights" (.ref lr) (putF "sites" (.ref ls) [])) = fsR ls lr m := by
  have e : ¬ (("sites" : Str) = ("months" : Str)) := by decide +kernel
  have e2 : ¬ (("rights" : Str) = ("months" : Str)) := by decide +kernel
  have e3 : ¬ (("sites" : Str) = ("rights" : Str)) := by decide +kernel
  simp [fsR, putF, e, e2, e3]

structure RAt (A : Ad) (H : Hp) (x ls lr : Addr) (as bs : List Addr) (st : Rd) : Prop where
  x_ : ∃ dx, H x = some (.ins A.CR dx (fsR ls lr (vO st.months)))
  s_ : H ls = some (.lst (as.map V.ref))
  r_ : H lr = some (.lst (bs.map V.ref))
  ne : ls ≠ lr
  ss : All2 (IsSite H) as st.sites
  rs : All2 (IsRight H) bs st.rights
section
variable {A : Ad} {H H1 : Hp} {x ls lr : Addr} {as bs : List Addr} {st : Rd} {ch : List Addr}
theorem IsSite.keep {a : Addr} {s : Site} (h : IsSite H a s) (e : Ev A [] H H1) : IsSite H1 a s := by
  obtain ⟨f, h1, h2⟩ := h
  exact ⟨f, e.keep _ _ (by simp) rfl h1, e.keep _ _ (by simp) rfl h2⟩
theorem IsRight.keep {a : Addr} {s : Right} (h : IsRight H a s) (e : Ev A [] H H1) : IsRight H1 a s := by
  obtain ⟨f, h1, h2⟩ := h
  exact ⟨f, e.keep _ _ (by simp) rfl h1, e.keep _ _ (by simp) rfl h2⟩
theorem RAt.keep (r : RAt A H x ls lr as bs st) (e : Ev A [] H H1) : RAt A H1 x ls lr as bs st := by
  obtain ⟨dx, hx⟩ := r.x_
  exact ⟨⟨dx, e.keep _ _ (by simp) rfl hx⟩, e.keep _ _ (by simp) rfl r.s_, e.keep _ _ (by simp) rfl r.r_, r.ne, r.ss.mono fun _ _ h => h.keep e, r.rs.mono fun _ _ h => h.keep e⟩
end
def IsLn (H : Hp) (a : Addr) : Ln → Prop
  | .site s => ∃ b, H a = some (.tup [.str "site", .ref b]) ∧ IsSite H b s
  | .right s => ∃ b, H a = some (.tup [.str "right", .ref b]) ∧ IsRight H b s
section
variable {P : Program} {w : World} {K : PySem.W.Frag} {mg : Str → Option Value} {base : Heap} {A : Ad}

def spRInit (A : Ad) : Sp := fun vs H Q _ => ∃ (x dx : Addr), vs = [.ref x] ∧ H x = some (.ins A.CR dx []) ∧ Tb A H ∧ ∀ H' ls lr, Ev A [x] H H' → RAt A H' x ls lr [] [] ⟨[], [], none⟩ → H ls = none → H lr = none → Q .non H'
theorem scRInit : FnScope ["self"] ["self"] (defScope sRInit) := ⟨rfl, rfl, rfl, by decide +kernel, rfl, by decide +kernel, by decide +kernel⟩
theorem ok_rinit (T : Tx P K mg A) : Ok P w K mg base 1 A.fRInit ["self"] (spRInit A) := by
  refine T.dRInit.okX scRInit (fun vs H Q E h => ?_) (fun cdv Ar outer s H vs Q E hr h => ?_)
  · obtain ⟨p, dx, rfl, _⟩ := h
    rfl
  · obtain ⟨x, dx, rfl, hx, tb, k⟩ := h
    refine ⟨_, pss_cons (ps_fld (pv 0) (pe_lst pa_nil) rfl) (pss_cons (ps_fld (pv 0) (pe_lst pa_nil) rfl) (pss_one (ps_fld (pv 0) pe_non rfl))), ?_⟩
    refine ⟨Nat.zero_le _, fun ls hl => ⟨_, rfl, x, A.CR, dx, [], rfl, by rw [upd_ne (ne_of_none hx hl)]; exact hx, T.cR, T.nRSites, (by show 0 < 1000; decide), ?_⟩⟩
    have n1 : x ≠ ls := ne_of_none hx hl
    have ev1 : Ev A [x] H (upd H ls (.lst [])) := Ev.new tb hl
    have x1 : (upd H ls (.lst [])) x = some (.ins A.CR dx []) := by rw [upd_ne n1]; exact hx
    have ev2 := ev1.trans (Ev.chg (o := .ins A.CR dx (putF "sites" (.ref ls) [])) ev1.tb x1 rfl (by simp))
    refine ⟨Nat.zero_le _, fun lr hr => ⟨_, rfl, x, A.CR, dx, putF "sites" (.ref ls) [], rfl, ?_, T.cR, T.nRRights, (by show 1 < 1000; decide), ?_⟩⟩
    · rw [upd_ne (fun z => by rw [← z, upd_same] at hr; cases hr)]
      exact upd_same
    have n2 : x ≠ lr := fun z => by rw [← z, upd_same] at hr; cases hr
    have n3 : ls ≠ lr := fun z => by rw [← z, upd_ne n1.symm, upd_same] at hr; cases hr
    have ev3 := ev2.trans (Ev.new (o := .lst []) ev2.tb hr)
    have x3 : (upd (upd (upd H ls (.lst [])) x (.ins A.CR dx (putF "sites" (.ref ls) []))) lr (.lst [])) x = some (.ins A.CR dx (putF "sites" (.ref ls) [])) := by rw [upd_ne n2]; exact upd_same
    have ev4 := ev3.trans (Ev.chg (o := .ins A.CR dx (putF "rights" (.ref lr) (putF "sites" (.ref ls) []))) ev3.tb x3 rfl (by simp))
    refine ⟨_, rfl, x, A.CR, dx, putF "rights" (.ref lr) (putF "sites" (.ref ls) []), rfl, upd_same, T.cR, T.nRMonths, (by have e3 : ¬ (("sites" : Str) = ("rights" : Str)) := by decide +kernel
                                                                                                                           simp [putF, e3]), ?_⟩
    have ev5 := ev4.trans (Ev.chg (o := .ins A.CR dx (putF "months" .non (putF "rights" (.ref lr) (putF "sites" (.ref ls) [])))) ev4.tb upd_same rfl (by simp))
    refine k _ ls lr ev5 ⟨⟨dx, ?_⟩, ?_, ?_, n3, .nil, .nil⟩ hl (ev2.free hr)
    · rw [fsR_mk]
      exact upd_same
    · rw [upd_ne n1.symm, upd_ne n1.symm, upd_ne n3, upd_ne n1.symm]
      exact upd_same
    · rw [upd_ne n2.symm, upd_ne n2.symm]
      exact upd_same

/-- a new Pieces, its rows read -/
theorem mkPieces {H : Hp} {x dx l : Addr} {rows : List Str} (tb : Tb A H) (hx : H x = none) (hd : H dx = none) (ne : dx ≠ x) (hl : (upd (upd H dx (.own x)) x (.ins A.CP dx [])) l = none) :
    Ev A [] H (upd (upd (upd (upd H dx (.own x)) x (.ins A.CP dx [])) l (.lst (rows.map V.str))) x (.ins A.CP dx [("rows", .ref l)])) ∧ PAt A (upd (upd (upd (upd H dx (.own x)) x (.ins A.CP dx [])) l (.lst (rows.map V.str))) x (.ins A.CP dx [("rows", .ref l)])) x l rows ∧ H l = none := by
  have e1 : Ev A [x] H (upd H dx (.own x)) := Ev.new tb hd
  have e2 := e1.trans (Ev.new (o := .ins A.CP dx []) e1.tb (by rw [upd_ne ne.symm]; exact hx))
  have e3 := e2.trans (Ev.new (o := .lst (rows.map V.str)) e2.tb hl)
  have nl : x ≠ l := fun z => by rw [← z, upd_same] at hl; cases hl
  have x3 : (upd (upd (upd H dx (.own x)) x (.ins A.CP dx [])) l (.lst (rows.map V.str))) x = some (.ins A.CP dx []) := by rw [upd_ne nl]; exact upd_same
  have e4 := e3.trans (Ev.chg (o := .ins A.CP dx [("rows", .ref l)]) e3.tb x3 rfl (by simp))
  refine ⟨e4.newer fun b hb _ => by rw [List.mem_singleton.mp hb]; exact hx, ⟨⟨dx, upd_same⟩, ?_⟩, e2.free hl⟩
  rw [upd_ne nl.symm]
  exact upd_same
theorem in_words (v : Str) : inV (.str v) [.str "site", .str "right"] = (decide (v = ("site" : Str)) || decide (v = ("right" : Str))) := by
  show (eqV (.str "site") (.str v) || (eqV (.str "right") (.str v) || false)) = _
  have e : ∀ u : Str, eqV (.str u) (.str v) = decide (v = u) := fun u => by
    show (u == v) = _
    by_cases h : v = u
    · subst h; simp
    · have h2 : ¬ u = v := fun q => h q.symm
      simp [h, h2]
  rw [e, e, Bool.or_false]
def spRLine (A : Ad) : Sp := fun vs H Q E => ∃ (x ls lr : Addr) (as bs : List Addr) (st : Rd) (text : Str), vs = [.ref x, .str text] ∧ Tb A H ∧ RAt A H x ls lr as bs st ∧
  RR (lineM st.months text) (fun ln => ∀ H' a, Ev A [] H H' → IsLn H' a ln → Q (.ref a) H') (∀ H', Ev A [] H H' → E (.ref A.CN) none H')
abbrev nRLine : List Str := ["self", "text", "pieces", "word", "site", "right"]
theorem scRLine : FnScope nRLine ["self", "text"] (defScope sRLine) := ⟨rfl, rfl, rfl, by decide +kernel, rfl, by decide +kernel, by decide +kernel⟩
theorem ok_rline (T : Tx P K mg A) (T1 : TabB base mg A.c1 A.P1) (T2 : TabB base mg A.c2 A.P2) : Ok P w K mg base 5 A.fRLine ["self", "text"] (spRLine A) := by
  refine T.dRLine.okX scRLine (fun vs H Q E h => ?_) (fun cdv Ar outer s H vs Q E hr h => ?_)
  · obtain ⟨x, ls, lr, as, bs, st, text, rfl, _⟩ := h
    rfl
  · obtain ⟨x, ls, lr, as, bs, st, text, rfl, tb, ra, k⟩ := h
    have hx := pas (takes_of (X := cxOf (L2.CX P w) P w K mg base nRLine "Reading.line" (defScope sRLine) A.fRLine cdv Ar outer s H E) rfl rfl rfl rfl)
    refine ⟨_, pss_cons (ps_set (i := 2) scRLine.nd rfl (.inl rfl) (pe_new (ok_pinit T) hr (by decide) T.kP T.gPieces hx (pa_cons (pv 1) pa_nil)))
      (pss_cons (ps_set (i := 3) scRLine.nd rfl (.inl rfl) (pe_m0 (ok_pnext T) hr (by decide) T.cP T.mPNext hx (pv 2)))
      (pss_cons (ps_expr (pe_chk T hr (by decide) hx (pe_cmpR op_in_seq (pv 3) (pe_tup (pa_cons pe_str (pa_cons pe_str pa_nil))) (by rfl))))
      (pss_cons (ps_if (pt_cmpR op_eq (pv 3) pe_str (nomark _))
        (pss_cons (ps_set (i := 4) scRLine.nd rfl (.inl rfl) (pe_f (ok_readSite T T1 T2) hr (by decide) T.gReadSite hx (pa_cons (pv 2) (pa_cons (pe_fld (pv 0) rfl) pa_nil))))
        (pss_cons (ps_expr (pe_chk T hr (by decide) hx (pe_cmpR op_eq (pe_f (ok_siteText T) hr (by decide) T.gSiteText hx (pa_cons (pv 4) pa_nil)) (pv 1) (nomark _))))
        (pss_one (ps_ret (pe_tup (pa_cons (pv 3) (pa_cons (pv 4) pa_nil))))))) pss_nil)
      (pss_cons (ps_set (i := 5) scRLine.nd rfl (.inl rfl) (pe_f (ok_readRight T T1 T2) hr (by decide) T.gReadRight hx (pa_cons (pv 2) (pa_cons (pe_fld (pv 0) rfl) pa_nil))))
      (pss_cons (ps_expr (pe_chk T hr (by decide) hx (pe_cmpR op_eq (pe_f (ok_rightText T) hr (by decide) T.gRightText hx (pa_cons (pv 5) pa_nil)) (pv 1) (nomark _))))
      (pss_one (ps_ret (pe_tup (pa_cons (pv 3) (pa_cons (pv 5) pa_nil)))))))))), ?_⟩
    unfold lineM at k
    rw [RR_bind, RR_must] at k
    obtain ⟨hz, k⟩ := k
    have hz : text.length ≤ 1000 := of_decide_eq_true hz
    rw [RR_bind, ← split_sp] at k
    refine ⟨_, rfl, fun p dx hp hd ne => ⟨p, dx, text, rfl, upd_same, hz, fun l hl => ⟨rfl, ?_⟩⟩⟩
    obtain ⟨e1, a1, nl⟩ := mkPieces (rows := Txt.split text " ") tb hp hd ne hl
    refine in_m0 a1 ⟨p, l, _, rfl, e1.tb, a1, k.mono (fun p1 k H2 e2 a2 => ?_) (fun k H2 e2 => k H2 ((e1.wide.trans e2).newer fun b hb _ => by rw [List.mem_singleton.mp hb]; exact nl))⟩
    have e2 : Ev A [l] _ H2 := e1.wide.trans e2
    have nw : ∀ {H' : Hp}, Ev A [l] H H' → Ev A [] H H' := fun e => e.newer fun b hb _ => by rw [List.mem_singleton.mp hb]; exact nl
    rw [RR_bind, RR_chk] at k
    refine ⟨_, rfl, Nat.le_trans (show 2 ≤ 10000 by decide) line10, fun t ht => ⟨t, _, rfl, .inr (SqT.of upd_same), rfl, rfl, spChk ?_⟩⟩
    have e3 : Ev A [l] H _ := e2.trans (Ev.new (o := .tup [.str "site", .str "right"]) e2.tb ht)
    have a3 : PAt A (upd H2 t (.tup [.str "site", .str "right"])) p l p1.2 := a2.keep (Ev.new e2.tb ht)
    rw [if_neg Bool.false_ne_true, in_words]
    by_cases hw : (decide (p1.1 = ("site" : Str)) || decide (p1.1 = ("right" : Str))) = true
    case neg =>
      rw [if_neg hw] at k ⊢
      exact k _ (nw e3)
    rw [if_pos hw] at k ⊢
    have r3 := ra.keep (nw e3)
    obtain ⟨dx3, x3⟩ := r3.x_
    refine ⟨_, rfl, rfl, _, rfl, ?_⟩
    rw [dec_sV]
    cases e : decide (p1.1 = ("site" : Str)) with
    | true =>
      have ew : p1.1 = "site" := of_decide_eq_true e
      rw [e, if_pos rfl, RR_bind] at k
      refine iteT ⟨_, rfl, _, rfl, x, A.CR, dx3, _, _, rfl, x3, T.cR, T.nRMonths, fsR_m, p, l, p1.2, st.months, rfl, e3.tb, a3, k.mono (fun s k H4 a e4 hs => ?_) (fun k H4 e4 => k H4 (nw (e3.trans e4)))⟩
      rw [RR_bind, RR_must] at k
      obtain ⟨fit, k⟩ := k
      rw [RR_bind, RR_chk] at k
      have e4 := e3.trans e4
      refine ⟨_, rfl, a, s, rfl, e4.tb, hs, fit, fun H5 e5 => ⟨_, rfl, rfl, spChk ?_⟩⟩
      rw [dec_sV]
      have e6 := e4.trans e5.wide
      refine ite_and k (fun k => ?_) (fun k => k H5 (nw e6))
      refine ⟨_, rfl, _, rfl, Nat.le_trans (show 2 ≤ 10000 by decide) line10, fun q hq => ?_⟩
      rw [ew]
      have e7 : Ev A [] H5 (upd H5 q (.tup [.str "site", .ref a])) := Ev.new e6.tb hq
      exact k _ q (nw (e6.trans e7.wide)) ⟨a, upd_same, (hs.keep e5).keep e7⟩
    | false =>
      have ew2 : p1.1 = "right" := by
        rw [e, Bool.false_or] at hw
        exact of_decide_eq_true hw
      rw [e, if_neg Bool.false_ne_true, RR_bind] at k
      refine iteF ⟨_, rfl, _, rfl, x, A.CR, dx3, _, _, rfl, x3, T.cR, T.nRMonths, fsR_m, p, l, p1.2, st.months, rfl, e3.tb, a3, k.mono (fun s k H4 a e4 hs => ?_) (fun k H4 e4 => k H4 (nw (e3.trans e4)))⟩
      rw [RR_bind, RR_must] at k
      obtain ⟨fit, k⟩ := k
      rw [RR_bind, RR_chk] at k
      have e4 := e3.trans e4
      refine ⟨_, rfl, a, s, rfl, e4.tb, hs, fit, fun H5 e5 => ⟨_, rfl, rfl, spChk ?_⟩⟩
      rw [dec_sV]
      have e6 := e4.trans e5.wide
      refine ite_and k (fun k => ?_) (fun k => k H5 (nw e6))
      refine ⟨_, rfl, _, rfl, Nat.le_trans (show 2 ≤ 10000 by decide) line10, fun q hq => ?_⟩
      rw [ew2]
      have e7 : Ev A [] H5 (upd H5 q (.tup [.str "right", .ref a])) := Ev.new e6.tb hq
      exact k _ q (nw (e6.trans e7.wide)) ⟨a, upd_same, (hs.keep e5).keep e7⟩
end
end HW
/-! Reading.site_fault, Reading.right_fault -/
namespace HW
open PySem PySem.Spec PyProof.Rows L2 GxR

theorem in_names (v : Str) : ∀ zs : List Str, inV (.str v) (zs.map V.str) = zs.any fun z => z == v
  | [] => rfl
  | z :: r => by
    show (eqV (.str z) (.str v) || inV (.str v) (r.map V.str)) = _
    rw [in_names v r]
    rfl
theorem flat_names : ∀ zs : List Str, (zs.map V.str).all flatV = true
  | [] => rfl
  | _ :: r => flat_names r
theorem dec_nV (a b : Nat) : decide (V.int (a : Int) = V.int (b : Int)) = decide (a = b) := by
  by_cases e : a = b
  · subst e
    simp
  · rw [decide_eq_false e, decide_eq_false fun q => e (by have := V.int.inj q; omega)]
theorem iteT' {b : Bool} {A B : Prop} (e : b = true) (h : A) : if b = true then A else B := by
  rw [if_pos e]
  exact h
theorem iteF' {b : Bool} {A B : Prop} (e : b = false) (h : B) : if b = true then A else B := by
  rw [if_neg (by rw [e]; exact Bool.false_ne_true)]
  exact h
section
variable {K : PySem.W.Frag} {A : Ad} {D : Addr} {σ : L2.St}
/-- [x[0] for x in xs] -/
theorem lc_names {α : Type} {nm : α → Str} {as : List Addr} {ss : List α} {f : Addr} {Qd : Hp → Prop} {j : Nat} {vs : List Nat} {H1 : Hp} (hj : vs = [j]) (hl : j < σ.length) (tb : Tb A H1) (hf : H1 f = some (.lst (as.map V.ref)))
    (hs : All2 (fun a s => ∃ r, H1 a = some (.tup (.str (nm s) :: r))) as ss) (ln : as.length ≤ 1000) (hD : H1 D = none)
    (q : ∀ H2, Ev A [] H1 H2 → H2 D = some (.lst ((ss.map nm).map V.str)) → Qd H2) :
    ∃ W : Nat → Nat → Hp → Prop, (∃ m, W 0 m (upd H1 D (.lst []))) ∧ ∀ i m H, W i m H →
      ((Itl K f).stop i H ∧ Qd H) ∨ ((Itl K f).go i H ∧ ∃ Nx : Hp → Prop, (∀ H', Nx H' → ∃ m', m' < m ∧ W (i + 1) m' H') ∧ ∀ x H', (Itl K f).yld i H x H' → gName j x (wipe σ vs) H' fun σ2 H2 => wipe σ2 vs = wipe σ vs ∧ tYes σ2 H2 fun b H3 =>
        if b = true then tOp (rIxT K) (tVar j) (tC (.int 0)) σ2 H3 fun y H4 => ∃ acc, H4 D = some (.lst acc) ∧ acc.length < sizeLine ∧ Nx (upd H4 D (.lst (acc ++ [y]))) else Nx H3) := by
  subst hj
  have hw : (wipe σ [j]).length = σ.length := by simp [wipe]
  refine lc_list (xs := as.map V.ref) (fun i H2 => Ev A [] H1 H2 ∧ H2 D = some (.lst (((ss.take i).map nm).map V.str)) ∧ i ≤ as.length) ⟨Ev.new tb hD, upd_same, Nat.zero_le _⟩ (fun i H2 _ p => SqL.of (p.1.keep _ _ (by simp) rfl hf)) ?_ ?_
  · rintro i x H2 hi ⟨ev, hD2, hle⟩
    rw [List.getElem?_map] at hi
    cases ez : as[i]? with
    | none => rw [ez] at hi; cases hi
    | some a =>
    rw [ez] at hi
    cases hi
    obtain ⟨s, es, r, ha⟩ := hs.get ez
    obtain ⟨hi2, _⟩ := List.getElem?_eq_some_iff.mp ez
    refine ⟨by simp [wipe], ?_⟩
    unfold tYes
    dsimp only
    rw [if_pos rfl]
    refine ⟨_, by rw [List.getElem?_set_self (by rw [hw]; exact hl)], a, _, 0, .str (nm s), rfl, rfl, SqT.of (ev.keep _ _ (by simp) rfl ha), atI_nat (j := 0) rfl, _, hD2, lt_line (by rw [List.length_map, List.length_map, List.length_take]; omega), ?_⟩
    refine ⟨?_, ?_, by omega⟩
    · exact (ev.wide.trans (Ev.chg (ch := [D]) ev.tb hD2 rfl (by simp))).newer fun b hb _ => by rw [List.mem_singleton.mp hb]; exact hD
    · rw [upd_same, List.take_succ, es]
      simp
  · rintro H2 ⟨ev, hD2, _⟩
    rw [List.length_map, hs.len, List.take_length] at hD2
    exact q H2 ev hD2
end
section
variable {P : Program} {w : World} {K : PySem.W.Frag} {mg : Str → Option Value} {base : Heap} {A : Ad}
theorem IsSite.hd {H : Hp} {a : Addr} {s : Site} (h : IsSite H a s) : ∃ r, H a = some (.tup (.str s.name :: r)) := by
  obtain ⟨f, h1, _⟩ := h
  exact ⟨_, h1⟩
theorem IsRight.hd {H : Hp} {a : Addr} {s : Right} (h : IsRight H a s) : ∃ r, H a = some (.tup (.str s.name :: r)) := by
  obtain ⟨f, h1, _⟩ := h
  exact ⟨_, h1⟩

def spRSiteF (A : Ad) : Sp := fun vs H Q _ => ∃ (x ls lr a : Addr) (as bs : List Addr) (st : Rd) (s : Site), vs = [.ref x, .ref a] ∧ Tb A H ∧ RAt A H x ls lr as bs st ∧ as.length ≤ 1000 ∧ bs.length ≤ 1000 ∧ IsSite H a s ∧ ∀ H', Ev A [] H H' → Q (vS (siteFault st s)) H'
abbrev nRSiteF : List Str := ["self", "site", "other"]
theorem scRSiteF : FnScope nRSiteF ["self", "site"] (defScope sRSiteF) := ⟨rfl, rfl, rfl, by decide +kernel, rfl, by decide +kernel, by decide +kernel⟩
theorem ok_rsiteF (T : Tx P K mg A) : Ok P w K mg base 1 A.fRSiteF ["self", "site"] (spRSiteF A) := by
  obtain ⟨tN, gN⟩ := T.gNAME
  obtain ⟨tM, gM⟩ := T.gSitesMost
  obtain ⟨tR, gR⟩ := T.gROOM
  obtain ⟨tH, gH⟩ := T.gHELD
  refine T.dRSiteF.okX scRSiteF (fun vs H Q E h => ?_) (fun cdv Ar outer s0 H vs Q E hr h => ?_)
  · obtain ⟨x, ls, lr, a, as, bs, st, s, rfl, _⟩ := h
    rfl
  · obtain ⟨x, ls, lr, a, as, bs, st, s, rfl, tb, ra, la, lb, hs, k⟩ := h
    refine ⟨_, pss_cons (ps_if (pt_truth (pe_fld (pv 0) rfl) (by intro _; rfl)) (pss_one (ps_ret pe_str)) pss_nil)
      (pss_cons (ps_if (pt_cmpR op_eq (pe_callB call_len_seq (by rfl) T.bLen PySem.boot_len (pa_cons (pe_fld (pv 0) rfl) pa_nil)) (pe_glob (v := .int 4) rfl gM ⟨_, rfl⟩) (nomark _)) (pss_one (ps_ret pe_str)) pss_nil)
      (pss_cons (ps_if (pt_cmpR op_in_seq (pe_ix ix_tup (pv 1) (pe_glob (v := .int 0) rfl gN ⟨_, rfl⟩) (fun _ _ => rfl))
          (pe_lc (own := [("other", 2)]) (g := gName 2) (tt := tYes) (te := tOp (rIxT K) (tVar 2) (tC (.int 0))) rfl scRSiteF.nd (pi_list (pe_fld (pv 0) rfl)) (blkOk_by (own := [("other", 2)]) (N := nRSiteF) (sc := defScope sRSiteF) (by decide +kernel))
            (fun _ _ _ _ _ => pg_name (i := 2) scRSiteF.nd rfl (.inl rfl)) (fun _ _ _ _ _ => pts_nil) (fun _ _ _ _ _ => pe_ix ix_tup (pv 2) (pe_glob (v := .int 0) rfl gN ⟨_, rfl⟩) (fun _ _ => rfl))) (by rfl)) (pss_one (ps_ret pe_str)) pss_nil)
      (pss_one (ps_ret (pe_ifExp (pt_cmpR op_gt (pe_ix ix_tup (pv 1) (pe_glob (v := .int 5) rfl gH ⟨_, rfl⟩) (fun _ _ => rfl)) (pe_ix ix_tup (pv 1) (pe_glob (v := .int 4) rfl gR ⟨_, rfl⟩) (fun _ _ => rfl)) (nomark _)) pe_str pe_non))))), ?_⟩
    obtain ⟨dx, hx⟩ := ra.x_
    obtain ⟨f, ha, hf⟩ := _root_.id hs
    have k : ∀ H' v, Ev A [] H H' → v = vS (siteFault st s) → Q v H' := fun H' v e h => by rw [h]; exact k H' e
    unfold siteFault at k
    refine ⟨_, rfl, x, A.CR, dx, _, _, rfl, hx, T.cR, T.nRRights, fsR_r, !(bs.map V.ref).isEmpty, .inl ⟨_, SqL.of ra.r_, rfl⟩, ?_⟩
    have eb : (bs.map V.ref).isEmpty = st.rights.isEmpty := by
      have := ra.rs.len
      cases h1 : bs <;> cases h2 : st.rights <;> simp [h1, h2] at this ⊢
    rw [eb]
    cases c1 : !st.rights.isEmpty with
    | true =>
      refine iteT (k H _ (Ev.refl tb) ?_)
      rw [c1, if_pos rfl]
      rfl
    | false =>
    rw [c1, if_neg Bool.false_ne_true] at k
    refine iteF ⟨_, rfl, x, A.CR, dx, _, _, rfl, hx, T.cR, T.nRSites, fsR_s, ls, _, rfl, .inl (SqL.of ra.s_), rfl, _, rfl, ?_⟩
    rw [List.length_map, ra.ss.len]
    have e4 : decide (V.int ((st.sites.length : Nat) : Int) = V.int 4) = decide (st.sites.length = 4) := dec_nV _ 4
    rw [e4]
    cases c2 : decide (st.sites.length = 4) with
    | true =>
      refine iteT (k H _ (Ev.refl tb) ?_)
      rw [c2, if_pos rfl]
      rfl
    | false =>
    rw [c2, if_neg Bool.false_ne_true] at k
    refine iteF ⟨_, rfl, a, _, 0, .str s.name, rfl, rfl, SqT.of ha, atI_nat (j := 0) rfl, ?_⟩
    refine ⟨_, rfl, x, A.CR, dx, _, _, rfl, hx, T.cR, T.nRSites, fsR_s, ls, rfl, ⟨_, SqL.of ra.s_⟩, fun D hD => ?_⟩
    refine lc_names (A := A) (nm := Site.name) rfl (by show 2 < 3; decide) tb ra.s_ (ra.ss.mono fun _ _ h => h.hd) la hD fun H2 e2 hD2 => ?_
    refine ⟨D, _, rfl, .inl (SqL.of hD2), rfl, flat_names _, _, rfl, ?_⟩
    rw [if_neg Bool.false_ne_true, in_names, List.any_map]
    cases c3 : st.sites.any fun o => o.name == s.name with
    | true =>
      refine iteT' (show ((st.sites.any ((fun z => z == s.name) ∘ Site.name)) = true) from c3) (k H2 _ e2 ?_)
      rw [c3, if_pos rfl]
      rfl
    | false =>
    rw [c3, if_neg Bool.false_ne_true] at k
    refine iteF' (show ((st.sites.any ((fun z => z == s.name) ∘ Site.name)) = false) from c3) ?_
    have ha2 := e2.keep _ _ (by simp) rfl ha
    refine ⟨_, rfl, a, _, 5, .int s.held, rfl, rfl, SqT.of ha2, atI_nat (j := 5) rfl, _, rfl, a, _, 4, .int s.room, rfl, rfl, SqT.of ha2, atI_nat (j := 4) rfl, s.held, s.room, rfl, rfl, decide (s.room < s.held), rfl, ?_⟩
    cases c4 : decide (s.room < s.held) with
    | true =>
      refine iteT (k H2 _ e2 ?_)
      rw [c4, if_pos rfl]
      rfl
    | false =>
      refine iteF (k H2 _ e2 ?_)
      rw [c4, if_neg Bool.false_ne_true]
      rfl

def spRRightF (A : Ad) : Sp := fun vs H Q _ => ∃ (x ls lr a : Addr) (as bs : List Addr) (st : Rd) (s : Right), vs = [.ref x, .ref a] ∧ Tb A H ∧ RAt A H x ls lr as bs st ∧ as.length ≤ 1000 ∧ bs.length ≤ 1000 ∧ IsRight H a s ∧ ∀ H', Ev A [] H H' → Q (vS (rightFault st s)) H'
abbrev nRRightF : List Str := ["self", "right", "site", "other"]
theorem scRRightF : FnScope nRRightF ["self", "right"] (defScope sRRightF) := ⟨rfl, rfl, rfl, by decide +kernel, rfl, by decide +kernel, by decide +kernel⟩
theorem ok_rrightF (T : Tx P K mg A) : Ok P w K mg base 1 A.fRRightF ["self", "right"] (spRRightF A) := by
  obtain ⟨tN, gN⟩ := T.gNAME
  obtain ⟨tM, gM⟩ := T.gRightsMost
  refine T.dRRightF.okX scRRightF (fun vs H Q E h => ?_) (fun cdv Ar outer s0 H vs Q E hr h => ?_)
  · obtain ⟨x, ls, lr, a, as, bs, st, s, rfl, _⟩ := h
    rfl
  · obtain ⟨x, ls, lr, a, as, bs, st, s, rfl, tb, ra, la, lb, hs, k⟩ := h
    refine ⟨_, pss_cons (ps_if (pt_cmpR op_notIn_seq (pe_ix ix_tup (pv 1) pe_int (fun _ _ => rfl))
          (pe_lc (own := [("site", 2)]) (g := gName 2) (tt := tYes) (te := tOp (rIxT K) (tVar 2) (tC (.int 0))) rfl scRRightF.nd (pi_list (pe_fld (pv 0) rfl)) (blkOk_by (own := [("site", 2)]) (N := nRRightF) (sc := defScope sRRightF) (by decide +kernel))
            (fun _ _ _ _ _ => pg_name (i := 2) scRRightF.nd rfl (.inl rfl)) (fun _ _ _ _ _ => pts_nil) (fun _ _ _ _ _ => pe_ix ix_tup (pv 2) (pe_glob (v := .int 0) rfl gN ⟨_, rfl⟩) (fun _ _ => rfl))) (by rfl)) (pss_one (ps_ret pe_str)) pss_nil)
      (pss_cons (ps_if (pt_cmpR op_eq (pe_callB call_len_seq (by rfl) T.bLen PySem.boot_len (pa_cons (pe_fld (pv 0) rfl) pa_nil)) (pe_glob (v := .int 4) rfl gM ⟨_, rfl⟩) (nomark _)) (pss_one (ps_ret pe_str)) pss_nil)
      (pss_one (ps_ret (pe_ifExp (pt_cmpR op_in_seq (pe_ix ix_tup (pv 1) pe_int (fun _ _ => rfl))
          (pe_lc (own := [("other", 3)]) (g := gName 3) (tt := tYes) (te := tOp (rIxT K) (tVar 3) (tC (.int 0))) rfl scRRightF.nd (pi_list (pe_fld (pv 0) rfl)) (blkOk_by (own := [("other", 3)]) (N := nRRightF) (sc := defScope sRRightF) (by decide +kernel))
            (fun _ _ _ _ _ => pg_name (i := 3) scRRightF.nd rfl (.inl rfl)) (fun _ _ _ _ _ => pts_nil) (fun _ _ _ _ _ => pe_ix ix_tup (pv 3) pe_int (fun _ _ => rfl))) (by rfl)) pe_str pe_non)))), ?_⟩
    obtain ⟨dx, hx⟩ := ra.x_
    obtain ⟨f, ha, hf⟩ := _root_.id hs
    have k : ∀ H' v, Ev A [] H H' → v = vS (rightFault st s) → Q v H' := fun H' v e h => by rw [h]; exact k H' e
    unfold rightFault at k
    refine ⟨_, rfl, a, _, 1, .str s.site, rfl, rfl, SqT.of ha, atI_nat (j := 1) rfl, ?_⟩
    refine ⟨_, rfl, x, A.CR, dx, _, _, rfl, hx, T.cR, T.nRSites, fsR_s, ls, rfl, ⟨_, SqL.of ra.s_⟩, fun D hD => ?_⟩
    refine lc_names (A := A) (nm := Site.name) rfl (by show 2 < 4; decide) tb ra.s_ (ra.ss.mono fun _ _ h => h.hd) la hD fun H2 e2 hD2 => ?_
    refine ⟨D, _, rfl, .inl (SqL.of hD2), rfl, flat_names _, _, rfl, ?_⟩
    rw [if_pos rfl, in_names, List.any_map]
    cases c1 : st.sites.any fun o => o.name == s.site with
    | false =>
      refine iteT' (show ((!st.sites.any ((fun z => z == s.site) ∘ Site.name)) = true) from by rw [show (st.sites.any ((fun z => z == s.site) ∘ Site.name)) = false from c1]; rfl) (k H2 _ e2 ?_)
      rw [c1]
      rfl
    | true =>
    rw [c1] at k
    have k : ∀ H' v, Ev A [] H H' → v = vS (if decide (st.rights.length = 4) = true then some "too many rights" else if (st.rights.any fun o => o.name == s.name) = true then some "name twice" else none) → Q v H' := k
    refine iteF' (show ((!st.sites.any ((fun z => z == s.site) ∘ Site.name)) = false) from by rw [show (st.sites.any ((fun z => z == s.site) ∘ Site.name)) = true from c1]; rfl) ?_
    have r2 := ra.keep e2
    obtain ⟨dx2, hx2⟩ := r2.x_
    refine ⟨_, rfl, x, A.CR, dx2, _, _, rfl, hx2, T.cR, T.nRRights, fsR_r, lr, _, rfl, .inl (SqL.of r2.r_), rfl, _, rfl, ?_⟩
    rw [List.length_map, ra.rs.len]
    have e4 : decide (V.int ((st.rights.length : Nat) : Int) = V.int 4) = decide (st.rights.length = 4) := dec_nV _ 4
    rw [e4]
    cases c2 : decide (st.rights.length = 4) with
    | true =>
      refine iteT (k H2 _ e2 ?_)
      rw [c2, if_pos rfl]
      rfl
    | false =>
    rw [c2, if_neg Bool.false_ne_true] at k
    have ha2 := e2.keep _ _ (by simp) rfl ha
    refine iteF ⟨_, rfl, a, _, 0, .str s.name, rfl, rfl, SqT.of ha2, atI_nat (j := 0) rfl, ?_⟩
    refine ⟨_, rfl, x, A.CR, dx2, _, _, rfl, hx2, T.cR, T.nRRights, fsR_r, lr, rfl, ⟨_, SqL.of r2.r_⟩, fun D3 hD3 => ?_⟩
    refine lc_names (A := A) (nm := Right.name) rfl (by show 3 < 4; decide) e2.tb r2.r_ (r2.rs.mono fun _ _ h => h.hd) lb hD3 fun H3 e3 hD4 => ?_
    refine ⟨D3, _, rfl, .inl (SqL.of hD4), rfl, flat_names _, _, rfl, ?_⟩
    rw [if_neg Bool.false_ne_true, in_names, List.any_map]
    cases c3 : st.rights.any fun o => o.name == s.name with
    | true =>
      refine iteT' (show ((st.rights.any ((fun z => z == s.name) ∘ Right.name)) = true) from c3) (k H3 _ (e2.trans e3) ?_)
      rw [c3, if_pos rfl]
      rfl
    | false =>
      refine iteF' (show ((st.rights.any ((fun z => z == s.name) ∘ Right.name)) = false) from c3) (k H3 _ (e2.trans e3) ?_)
      rw [c3, if_neg Bool.false_ne_true]
      rfl
end
end HW
/-! Reading.take -/
namespace HW
open PySem PySem.Spec PyProof.Rows L2 GxR

def Sm (st : Rd) : Prop := st.sites.length ≤ 4 ∧ st.rights.length ≤ 4
theorem Sm.site {st : Rd} {s : Site} (h : Sm st) (e : siteFault st s = none) : st.sites.length < 4 := by
  unfold siteFault at e
  by_cases c1 : (!st.rights.isEmpty) = true
  · rw [if_pos c1] at e; cases e
  rw [if_neg c1] at e
  by_cases c2 : decide (st.sites.length = 4) = true
  · rw [if_pos c2] at e; cases e
  have := h.1
  have c2 : ¬ st.sites.length = 4 := by simpa using c2
  omega
theorem Sm.right {st : Rd} {s : Right} (h : Sm st) (e : rightFault st s = none) : st.rights.length < 4 := by
  unfold rightFault at e
  by_cases c1 : (!st.sites.any fun o => o.name == s.site) = true
  · rw [if_pos c1] at e; cases e
  rw [if_neg c1] at e
  by_cases c2 : decide (st.rights.length = 4) = true
  · rw [if_pos c2] at e; cases e
  have := h.2
  have c2 : ¬ st.rights.length = 4 := by simpa using c2
  omega
theorem Sm.take {st st' : Rd} {t : Str} {f : Option Str} (h : Sm st) (e : takeM st t = some (f, st')) : Sm st' := by
  unfold takeM at e
  cases el : lineM st.months t with
  | bad => rw [el] at e; cases e
  | no => rw [el] at e; cases e; exact h
  | ok l =>
    rw [el] at e
    cases l with
    | site s =>
      have e : (match siteFault st s with | some f => some (some f, st) | none => some (none, { st with sites := st.sites ++ [s], months := some (s.flows.length : Int) })) = some (f, st') := e
      cases ef : siteFault st s with
      | some z => rw [ef] at e; cases e; exact h
      | none =>
        rw [ef] at e
        have := h.site ef
        cases e
        exact ⟨by show (st.sites ++ [s]).length ≤ 4; rw [List.length_append]; show _ + 1 ≤ 4; omega, h.2⟩
    | right s =>
      have e : (match rightFault st s with | some f => some (some f, st) | none => some (none, { st with rights := st.rights ++ [s] })) = some (f, st') := e
      cases ef : rightFault st s with
      | some z => rw [ef] at e; cases e; exact h
      | none =>
        rw [ef] at e
        have := h.right ef
        cases e
        exact ⟨h.1, by show (st.rights ++ [s]).length ≤ 4; rw [List.length_append]; show _ + 1 ≤ 4; omega⟩
section
variable {A : Ad} {H : Hp} {p a : Addr} {o o' : HO}
theorem IsSite.chg {s : Site} (h : IsSite H a s) (hp : H p = some o) (hn : ∀ xs, HO.tup xs ≠ o) : IsSite (upd H p o') a s := by
  obtain ⟨f, h1, h2⟩ := h
  exact ⟨f, by rw [upd_ne (ne_of h1 hp (hn _))]; exact h1, by rw [upd_ne (ne_of h2 hp (hn _))]; exact h2⟩
theorem IsRight.chg {s : Right} (h : IsRight H a s) (hp : H p = some o) (hn : ∀ xs, HO.tup xs ≠ o) : IsRight (upd H p o') a s := by
  obtain ⟨f, h1, h2⟩ := h
  exact ⟨f, by rw [upd_ne (ne_of h1 hp (hn _))]; exact h1, by rw [upd_ne (ne_of h2 hp (hn _))]; exact h2⟩
end
section
variable {A : Ad} {H : Hp} {x ls lr b : Addr} {as bs : List Addr} {st : Rd}
theorem RAt.addSite {s : Site} (r : RAt A H x ls lr as bs st) (hb : IsSite H b s) : RAt A (upd H ls (.lst (as.map V.ref ++ [.ref b]))) x ls lr (as ++ [b]) bs { st with sites := st.sites ++ [s] } := by
  obtain ⟨dx, hx⟩ := r.x_
  have nt : ∀ xs, HO.tup xs ≠ HO.lst (as.map V.ref) := fun xs z => by cases z
  refine ⟨⟨dx, by rw [upd_ne (ne_of hx r.s_ (by intro q; cases q))]; exact hx⟩, by rw [upd_same, List.map_append]; rfl, by rw [upd_ne r.ne.symm]; exact r.r_, r.ne, ?_, r.rs.mono fun _ _ h => h.chg r.s_ nt⟩
  exact (r.ss.mono fun _ _ h => h.chg r.s_ nt).snoc (hb.chg r.s_ nt)
theorem RAt.addRight {s : Right} (r : RAt A H x ls lr as bs st) (hb : IsRight H b s) : RAt A (upd H lr (.lst (bs.map V.ref ++ [.ref b]))) x ls lr as (bs ++ [b]) { st with rights := st.rights ++ [s] } := by
  obtain ⟨dx, hx⟩ := r.x_
  have nt : ∀ xs, HO.tup xs ≠ HO.lst (bs.map V.ref) := fun xs z => by cases z
  refine ⟨⟨dx, by rw [upd_ne (ne_of hx r.r_ (by intro q; cases q))]; exact hx⟩, by rw [upd_ne r.ne]; exact r.s_, by rw [upd_same, List.map_append]; rfl, r.ne, r.ss.mono fun _ _ h => h.chg r.r_ nt, ?_⟩
  exact (r.rs.mono fun _ _ h => h.chg r.r_ nt).snoc (hb.chg r.r_ nt)
theorem RAt.putMonths {dx : Addr} {m : Option Int} (r : RAt A H x ls lr as bs st) : RAt A (upd H x (.ins A.CR dx (fsR ls lr (vO m)))) x ls lr as bs { st with months := m } := by
  obtain ⟨dx', hx⟩ := r.x_
  have nt : ∀ xs, HO.tup xs ≠ HO.ins A.CR dx' (fsR ls lr (vO st.months)) := fun xs z => by cases z
  exact ⟨⟨dx, upd_same⟩, by rw [upd_ne (ne_of r.s_ hx (by intro q; cases q))]; exact r.s_, by rw [upd_ne (ne_of r.r_ hx (by intro q; cases q))]; exact r.r_, r.ne, r.ss.mono fun _ _ h => h.chg hx nt, r.rs.mono fun _ _ h => h.chg hx nt⟩
end
section
variable {P : Program} {w : World} {K : PySem.W.Frag} {mg : Str → Option Value} {base : Heap} {A : Ad}
def spRTake (A : Ad) : Sp := fun vs H Q _ => ∃ (x ls lr : Addr) (as bs : List Addr) (st st' : Rd) (text : Str) (f : Option Str), vs = [.ref x, .str text] ∧ Tb A H ∧ RAt A H x ls lr as bs st ∧ Sm st ∧ takeM st text = some (f, st') ∧
  ∀ H' as' bs', Ev A [x, ls, lr] H H' → RAt A H' x ls lr as' bs' st' → Q (vS f) H'
abbrev nRTake : List Str := ["self", "text", "word", "thing", "fault"]
theorem scRTake : FnScope nRTake ["self", "text"] (defScope sRTake) := ⟨rfl, rfl, rfl, by decide +kernel, rfl, by decide +kernel, by decide +kernel⟩
abbrev tTakeTry (K : PySem.W.Frag) (A : Ad) : WX → TS := fun W => tAsg (tM A.CR "line" (spRLine A) (fun cls d H => ∀ σ, W cls d σ H) (tVar 0) (tCons (tVar 1) tNil)) (gTup K 2 (gCons (gName 2) (gCons (gName 3) gNil)))
theorem ok_rtake (T : Tx P K mg A) (T1 : TabB base mg A.c1 A.P1) (T2 : TabB base mg A.c2 A.P2) : Ok P w K mg base 6 A.fRTake ["self", "text"] (spRTake A) := by
  obtain ⟨tL, gL⟩ := T.gNoL
  refine T.dRTake.okX scRTake (fun vs H Q E h => ?_) (fun cdv Ar outer s0 H vs Q E hr h => ?_)
  · obtain ⟨x, ls, lr, as, bs, st, st', text, f, rfl, _⟩ := h
    rfl
  · obtain ⟨x, ls, lr, as, bs, st, st', text, f, rfl, tb, ra, sm, et, k⟩ := h
    have hx := pas (takes_of (X := cxOf (L2.CX P w) P w K mg base nRTake "Reading.take" (defScope sRTake) A.fRTake cdv Ar outer s0 H E) rfl rfl rfl rfl)
    refine ⟨_, pss_cons (ps_try_only (tb := tTakeTry K A) (ts := fun _ _ _ => tRet (tC (.str "not a line"))) (Wout := fun _ _ _ _ => False) rfl rfl ⟨rfl, by decide, .inl T.gNoLine⟩ takes0
        (fun W pn xe tk _ => pss_one (ps_asg (pe_m (ok_rline T T1 T2) hr (by decide) T.cR T.mRLine (passes_call tk fun _ _ σ _ h => h σ) (pv 0) (pa_cons (pv 1) pa_nil)) (pg_tup rfl (pgs_cons (pg_name (i := 2) scRTake.nd rfl (.inl rfl)) (pgs_cons (pg_name (i := 3) scRTake.nd rfl (.inl rfl)) pgs_nil)))))
        (fun a oe cls d pn hz hf => pss_one (ps_ret (pe_glob (v := .str "not a line") rfl gL ⟨_, rfl⟩))))
      (pss_cons (ps_if (pt_cmpR op_eq (pv 2) pe_str (nomark _))
        (pss_cons (ps_set (i := 4) scRTake.nd rfl (.inl rfl) (pe_m (ok_rsiteF T) hr (by decide) T.cR T.mRSiteF hx (pv 0) (pa_cons (pv 3) pa_nil)))
        (pss_cons (ps_if (pt_cmpR op_isN (pv 4) pe_non (nomark _))
            (pss_cons (ps_expr (pe_bm PySem.F.plainAttrs_list PySem.F.slot_list_append PySem.F.type_list_append mt_append (pe_fld (pv 0) rfl) (pa_cons (pv 3) pa_nil)))
            (pss_one (ps_fld (pv 0) (pe_callB call_len_seq (by rfl) T.bLen PySem.boot_len (pa_cons (pe_ix ix_tup (pv 3) (pe_un un_neg pe_int) (fun _ _ => rfl)) pa_nil)) rfl))) pss_nil)
        (pss_one (ps_ret (pv 4))))) pss_nil)
      (pss_cons (ps_set (i := 4) scRTake.nd rfl (.inl rfl) (pe_m (ok_rrightF T) hr (by decide) T.cR T.mRRightF hx (pv 0) (pa_cons (pv 3) pa_nil)))
      (pss_cons (ps_if (pt_cmpR op_isN (pv 4) pe_non (nomark _)) (pss_one (ps_expr (pe_bm PySem.F.plainAttrs_list PySem.F.slot_list_append PySem.F.type_list_append mt_append (pe_fld (pv 0) rfl) (pa_cons (pv 3) pa_nil)))) pss_nil)
      (pss_one (ps_ret (pv 4)))))), ?_⟩
    obtain ⟨dx, hx0⟩ := ra.x_
    have la : as.length ≤ 1000 := by rw [ra.ss.len]; exact Nat.le_trans sm.1 (by decide)
    have lb : bs.length ≤ 1000 := by rw [ra.rs.len]; exact Nat.le_trans sm.2 (by decide)
    refine ⟨_, rfl, x, dx, _, rfl, hx0, fsR_no (by decide +kernel) (by decide +kernel) (by decide +kernel), _, rfl, x, ls, lr, as, bs, st, text, rfl, tb, ra, ?_⟩
    unfold takeM at et
    cases el : lineM st.months text with
    | bad => rw [el] at et; cases et
    | no =>
      rw [el] at et
      cases et
      exact fun H' e σ => ⟨true, T.eN, fun _ a ha => k H' as bs e.wide (ra.keep e), fun h => by cases h⟩
    | ok l =>
    rw [el] at et
    intro H1 a e1 hl
    have r1 := ra.keep e1
    obtain ⟨dx1, hx1⟩ := r1.x_
    cases l with
    | site s =>
      obtain ⟨b, ha, hs⟩ := hl
      refine ⟨a, _, rfl, SqT.of ha, rfl, _, _, rfl, _, _, rfl, rfl, ?_⟩
      refine ⟨_, rfl, rfl, _, rfl, iteT' (by decide +kernel) ?_⟩
      refine ⟨_, rfl, x, dx1, _, rfl, hx1, fsR_no (by decide +kernel) (by decide +kernel) (by decide +kernel), _, rfl, x, ls, lr, b, as, bs, st, s, rfl, e1.tb, r1, la, lb, hs, fun H2 e2 => ?_⟩
      have r2 := r1.keep e2
      have hs2 := hs.keep e2
      have e2 := e1.trans e2
      obtain ⟨dx2, hx2⟩ := r2.x_
      have et : (match siteFault st s with | some f => some (some f, st) | none => some (none, { st with sites := st.sites ++ [s], months := some (s.flows.length : Int) })) = some (f, st') := et
      refine ⟨_, rfl, rfl, _, rfl, ?_⟩
      cases ef : siteFault st s with
      | some z =>
        rw [ef] at et
        cases et
        exact iteF ⟨_, rfl, k H2 as bs e2.wide r2⟩
      | none =>
        rw [ef] at et
        cases et
        have r3 := r2.addSite hs2
        have e3 : Ev A [x, ls, lr] H _ := e2.wide.trans (Ev.chg (o := .lst (as.map V.ref ++ [.ref b])) e2.tb r2.s_ rfl (by simp))
        obtain ⟨dx3, hx3⟩ := r3.x_
        obtain ⟨fl, hb, hfl⟩ := hs2.chg (o' := .lst (as.map V.ref ++ [.ref b])) r2.s_ (fun xs z => by cases z)
        refine iteT ⟨_, rfl, x, A.CR, dx2, _, _, rfl, hx2, T.cR, T.nRSites, fsR_s, .inl ⟨rfl, _, SqL.of r2.s_⟩, _, rfl, ls, _, _, rfl, rfl, r2.s_, lt_line (by rw [List.length_map]; omega), ?_⟩
        refine ⟨_, rfl, 1, rfl, b, _, -1, .ref fl, rfl, rfl, SqT.of hb, rfl, ?_⟩
        refine ⟨fl, _, rfl, .inr (SqT.of hfl), _, rfl, x, A.CR, dx3, _, rfl, hx3, T.cR, T.nRMonths, by show 3 < 1000; decide, _, rfl, ?_⟩
        rw [fsR_put, List.length_map]
        refine k _ (as ++ [b]) bs (e3.trans (Ev.chg (o := .ins A.CR dx3 (fsR ls lr (.int (s.flows.length : Nat)))) e3.tb hx3 rfl (by simp))) ?_
        exact r3.putMonths (m := some (s.flows.length : Int))
    | right s =>
      obtain ⟨b, ha, hs⟩ := hl
      refine ⟨a, _, rfl, SqT.of ha, rfl, _, _, rfl, _, _, rfl, rfl, ?_⟩
      refine ⟨_, rfl, rfl, _, rfl, iteF' (by decide +kernel) ?_⟩
      refine ⟨_, rfl, x, dx1, _, rfl, hx1, fsR_no (by decide +kernel) (by decide +kernel) (by decide +kernel), _, rfl, x, ls, lr, b, as, bs, st, s, rfl, e1.tb, r1, la, lb, hs, fun H2 e2 => ?_⟩
      have r2 := r1.keep e2
      have hs2 := hs.keep e2
      have e2 := e1.trans e2
      obtain ⟨dx2, hx2⟩ := r2.x_
      have et : (match rightFault st s with | some f => some (some f, st) | none => some (none, { st with rights := st.rights ++ [s] })) = some (f, st') := et
      refine ⟨_, rfl, rfl, _, rfl, ?_⟩
      cases ef : rightFault st s with
      | some z =>
        rw [ef] at et
        cases et
        exact iteF ⟨_, rfl, k H2 as bs e2.wide r2⟩
      | none =>
        rw [ef] at et
        cases et
        refine iteT ⟨_, rfl, x, A.CR, dx2, _, _, rfl, hx2, T.cR, T.nRRights, fsR_r, .inl ⟨rfl, _, SqL.of r2.r_⟩, _, rfl, lr, _, _, rfl, rfl, r2.r_, lt_line (by rw [List.length_map]; omega), ?_⟩
        refine ⟨_, rfl, k _ as (bs ++ [b]) (e2.wide.trans (Ev.chg (o := .lst (bs.map V.ref ++ [.ref b])) e2.tb r2.r_ rfl (by simp))) (r2.addRight hs2)⟩
end
end HW
/-! Reading.check_order -/
namespace HW
open PySem PySem.Spec PyProof.Rows L2 GxR

def EBad (A : Ad) (H : Hp) (E : XK) (nr : Nat × Str) : Prop := ∀ H' d, Ev A [] H H' → H' d = some (.xd (badF (nr.1 : Int) nr.2)) → E (.ref A.CB) (some d) H'
def OrdK (A : Ad) (H : Hp) (Q : VK) (E : XK) : Option (Nat × Str) → Prop
  | none => ∀ H', Ev A [] H H' → Q .non H'
  | some nr => EBad A H E nr
theorem cut_next (xs : List V) (i : Nat) : cutV xs (some ((i : Int) + 1)) none = xs.drop (i + 1) := by
  unfold cutV
  have e : ((i : Int) + 1) = ((i + 1 : Nat) : Int) := rfl
  rw [e, HT.sIx_nat, HT.sIx_none]
  by_cases h : i + 1 ≤ xs.length
  · rw [Nat.min_eq_left h, ← List.length_drop]
    exact List.take_length
  · have h : xs.length ≤ i + 1 := by omega
    rw [Nat.min_eq_right h, Nat.sub_self, List.take_zero, List.drop_eq_nil_of_le h]
theorem in_next (o : Option Str) (ss : List Site) : inV (vS o) ((ss.map Site.name).map V.str) = nextIn o ss := by
  cases o with
  | some o =>
    refine (in_names o _).trans ?_
    rw [List.any_map]
    rfl
  | none =>
    induction ss with
    | nil => rfl
    | cons z r ih =>
      show (eqV (.str z.name) .non || inV .non ((r.map Site.name).map V.str)) = false
      have ih : inV .non ((r.map Site.name).map V.str) = false := ih
      rw [ih]
      rfl
section
variable {P : Program} {w : World} {K : PySem.W.Frag} {mg : Str → Option Value} {base : Heap} {A : Ad}
def spROrder (A : Ad) : Sp := fun vs H Q E => ∃ (x ls lr : Addr) (as bs : List Addr) (st : Rd), vs = [.ref x] ∧ Tb A H ∧ RAt A H x ls lr as bs st ∧ Sm st ∧ OrdK A H Q E (orderM 0 st.sites)
abbrev nROrder : List Str := ["self", "at", "site", "later", "other"]
theorem scROrder : FnScope nROrder ["self"] (defScope sROrder) := ⟨rfl, rfl, rfl, by decide +kernel, rfl, by decide +kernel, by decide +kernel⟩
theorem ok_rorder (T : Tx P K mg A) : Ok P w K mg base 3 A.fROrder ["self"] (spROrder A) := by
  obtain ⟨tN, gN⟩ := T.gNAME
  obtain ⟨tX, gX⟩ := T.gNEXT
  refine T.dROrder.okX scROrder (fun vs H Q E h => ?_) (fun cdv Ar outer s0 H vs Q E hr h => ?_)
  · obtain ⟨x, ls, lr, as, bs, st, rfl, _⟩ := h
    rfl
  · obtain ⟨x, ls, lr, as, bs, st, rfl, tb, ra, sm, k⟩ := h
    have tk := takes_of (X := cxOf (L2.CX P w) P w K mg base nROrder "Reading.check_order" (defScope sROrder) A.fROrder cdv Ar outer s0 H E) rfl rfl rfl rfl
    refine ⟨_, pss_one (ps_for (passes_of rfl) rfl (pi_enum rfl T.bEnum (pa_cons (pe_fld (pv 0) rfl) pa_nil)) (pg_tup rfl (pgs_cons (pg_name (i := 1) scROrder.nd rfl (.inl rfl)) (pgs_cons (pg_name (i := 2) scROrder.nd rfl (.inl rfl)) pgs_nil)))
      (pss_cons (ps_setLc (i := 3) (own := [("other", 4)]) (g := gName 4) (tt := tYes) (te := tOp (rIxT K) (tVar 4) (tC (.int 0))) rfl scROrder.nd rfl rfl (sw_true rfl rfl rfl (by decide +kernel)) (pi_list (pe_slice sl_list (pe_fld (pv 0) rfl) (po_some (pe_op op_add (pv 1) pe_int)) po_none)) (blkOk_by (own := [("other", 4)]) (N := nROrder) (sc := defScope sROrder) (by decide +kernel))
          (fun _ _ _ _ _ => pg_name (i := 4) scROrder.nd rfl (.inl rfl)) (fun _ _ _ _ _ => pts_nil) (fun _ _ _ _ _ => pe_ix ix_tup (pv 4) (pe_glob (v := .int 0) rfl gN ⟨_, rfl⟩) (fun _ _ => rfl)))
      (pss_cons (ps_if (PW.pt (pw_and (pt_truth (pv 3) (by intro _; rfl)) (pw_and1 (pt_cmpR op_notIn_seq (pe_ix ix_tup (pv 2) (pe_glob (v := .int 1) rfl gX ⟨_, rfl⟩) (fun _ _ => rfl)) (pv 3) (by rfl)))))
        (pss_one (ps_raise rfl tk (pmk_bad T.bad T.gBad T.bSuper hr (pa_cons (pe_op op_add (pv 1) pe_int) (pa_cons pe_str pa_nil))))) pss_nil)
      (pss_one (ps_if (PW.pt (pw_and (pt_not (pt_truth (pv 3) (by intro _; rfl))) (pw_and1 (pt_cmpR op_notN (pe_ix ix_tup (pv 2) (pe_glob (v := .int 1) rfl gX ⟨_, rfl⟩) (fun _ _ => rfl)) pe_non (nomark _)))))
        (pss_one (ps_raise rfl tk (pmk_bad T.bad T.gBad T.bSuper hr (pa_cons (pe_op op_add (pv 1) pe_int) (pa_cons pe_str pa_nil))))) pss_nil))))), ?_⟩
    obtain ⟨dx, hx⟩ := ra.x_
    refine ⟨_, rfl, x, A.CR, dx, _, _, rfl, hx, T.cR, T.nRSites, fsR_s, ls, _, rfl, SqL.of ra.s_, ?_⟩
    refine for_it walk_enum (fun i σ H' => (∃ u1 u2 u3, σ = [some (.ref x), u1, u2, u3, none]) ∧ Ev A [] H H' ∧ orderM i (st.sites.drop i) = orderM 0 st.sites) ⟨⟨_, _, _, rfl⟩, Ev.refl tb, rfl⟩
      (fun i σ H' _ p => SqL.of (p.2.1.keep _ _ (by simp) rfl ra.s_)) ?_ ?_
    · rintro i v σ H1 H2 hi ⟨⟨u1, u2, u3, rfl⟩, e1, eo⟩ ⟨t, y1, y2, rfl, hn, rfl, hy1, hy2⟩
      cases hy1
      have hy2 : (as.map V.ref)[i]? = some y2 := hy2
      rw [List.getElem?_map] at hy2
      cases ez : as[i]? with
      | none => rw [ez] at hy2; cases hy2
      | some a =>
      rw [ez] at hy2
      cases hy2
      obtain ⟨s, es, _⟩ := ra.ss.get ez
      obtain ⟨hi2, es2⟩ := List.getElem?_eq_some_iff.mp es
      have e2 := e1.trans (Ev.new (o := .tup [.int (i : Nat), .ref a]) e1.tb hn)
      have r2 := ra.keep e2
      obtain ⟨dx2, hx2⟩ := r2.x_
      refine ⟨t, _, rfl, SqT.of upd_same, rfl, _, _, rfl, _, _, rfl, rfl, ?_⟩
      refine ⟨_, rfl, x, A.CR, dx2, _, _, rfl, hx2, T.cR, T.nRSites, fsR_s, _, rfl, (i : Int), 1, rfl, rfl, _, rfl, ls, _, rfl, SqL.of r2.s_, fun q hq => ⟨q, rfl, ⟨_, SqL.of upd_same⟩, fun D hD => ?_⟩⟩
      rw [cut_next, ← List.map_drop] at hD ⊢
      have e3 := e2.trans (Ev.new (o := .lst ((as.drop (i + 1)).map V.ref)) e2.tb hq)
      refine lc_names (A := A) (nm := Site.name) (as := as.drop (i + 1)) (ss := st.sites.drop (i + 1)) rfl (by show 4 < 5; decide) e3.tb upd_same (((ra.ss.drop (i + 1)).mono fun _ _ h => (h.keep e3).hd)) (by rw [List.length_drop, ra.ss.len]; have := sm.1; omega) hD fun H4 e4 hD4 => ?_
      have e4 := e3.trans e4
      have il : i < 4 := by rw [List.length_map, ra.ss.len] at hi; exact Nat.lt_of_lt_of_le hi sm.1
      rw [List.drop_eq_getElem_cons hi2, es2] at eo
      obtain ⟨f, ha, _⟩ := ra.ss.get ez |>.elim fun s' h => by
        have : s' = s := Option.some.inj (h.1.symm.trans es)
        exact this ▸ h.2
      have ha4 := e4.keep _ _ (by simp) rfl ha
      generalize st.sites.drop (i + 1) = rest at eo hD4 ⊢
      have fin : orderM (i + 1) rest = orderM 0 st.sites → ((∃ v1 v2 v3, [some (V.ref x), some (.int (i : Nat)), some (.ref a), some (.ref D), none] = [some (.ref x), v1, v2, v3, none]) ∧ Ev A [] H H4 ∧ orderM (i + 1) rest = orderM 0 st.sites) := fun h => ⟨⟨_, _, _, rfl⟩, e4, h⟩
      have bad : ∀ z : Str, orderM 0 st.sites = some (i + 1, z) → ∀ d, H4 d = none → E (.ref A.CB) (some d) (upd H4 d (.xd (badF ((i : Int) + 1) z))) := fun z hz d hd => by
        rw [hz] at k
        exact k _ d (e4.trans (Ev.new e4.tb hd)) upd_same
      cases rest with
      | nil =>
        refine ⟨_, rfl, false, .inl ⟨_, SqL.of hD4, rfl⟩, iteF (iteF ?_)⟩
        refine ⟨_, rfl, false, .inl ⟨_, SqL.of hD4, rfl⟩, iteT ⟨_, rfl, a, _, 1, vS s.next, rfl, rfl, SqT.of ha4, atI_nat (j := 1) rfl, rfl, _, rfl, ?_⟩⟩
        cases en : s.next with
        | none =>
          have eo : orderM (i + 1) [] = orderM 0 st.sites := by
            rw [← eo]
            unfold orderM
            rw [en]
            rfl
          exact iteF (fin eo)
        | some o =>
          have eo : orderM 0 st.sites = some (i + 1, ("outlet leads on" : Str)) := by
            rw [← eo]
            unfold orderM
            rw [en]
            rfl
          exact iteT ⟨_, rfl, (i : Int), 1, rfl, rfl, (i : Int) + 1, _, rfl, by omega, by omega, by decide +kernel, bad _ eo⟩
      | cons r rs =>
        refine ⟨_, rfl, true, .inl ⟨_, SqL.of hD4, rfl⟩, iteT ⟨_, rfl, a, _, 1, vS s.next, rfl, rfl, SqT.of ha4, atI_nat (j := 1) rfl, _, rfl, D, _, rfl, .inl (SqL.of hD4), by cases s.next <;> rfl, flat_names _, _, rfl, ?_⟩⟩
        rw [if_pos rfl, in_next]
        cases ei : nextIn s.next (r :: rs) with
        | false =>
          have eo : orderM 0 st.sites = some (i + 1, ("next is not later" : Str)) := by
            rw [← eo]
            unfold orderM
            rw [ei]
            rfl
          exact iteT ⟨_, rfl, (i : Int), 1, rfl, rfl, (i : Int) + 1, _, rfl, by omega, by omega, by decide +kernel, bad _ eo⟩
        | true =>
          have eo : orderM (i + 1) (r :: rs) = orderM 0 st.sites := by
            rw [← eo]
            show _ = (if (!(r :: rs).isEmpty && !nextIn s.next (r :: rs)) = true then some (i + 1, ("next is not later" : Str)) else
              if ((r :: rs).isEmpty && s.next.isSome) = true then some (i + 1, ("outlet leads on" : Str)) else orderM (i + 1) (r :: rs))
            rw [ei]
            rfl
          exact iteF ⟨_, rfl, true, .inl ⟨_, SqL.of hD4, rfl⟩, iteF (iteF (fin eo))⟩
    · rintro σ H' ⟨⟨u1, u2, u3, rfl⟩, e1, eo⟩
      rw [List.length_map, ra.ss.len, List.drop_length] at eo
      have eo : none = orderM 0 st.sites := eo
      rw [← eo] at k
      exact k H' e1
end
end HW
/-! parse_basin -/
namespace HW
open PySem PySem.Spec PyProof.Rows L2 GxR

theorem siteFault_len {st : Rd} {s : Site} {f : Str} (h : siteFault st s = some f) : f.length ≤ 1000 := by
  unfold siteFault at h
  split at h
  · cases h; decide +kernel
  split at h
  · cases h; decide +kernel
  split at h
  · cases h; decide +kernel
  split at h
  · cases h; decide +kernel
  · cases h
theorem rightFault_len {st : Rd} {s : Right} {f : Str} (h : rightFault st s = some f) : f.length ≤ 1000 := by
  unfold rightFault at h
  split at h
  · cases h; decide +kernel
  split at h
  · cases h; decide +kernel
  split at h
  · cases h; decide +kernel
  · cases h
theorem take_len {st st' : Rd} {t f : Str} (h : takeM st t = some (some f, st')) : f.length ≤ 1000 := by
  unfold takeM at h
  split at h
  · cases h
  · cases h; decide +kernel
  · split at h
    · cases h
      next e => exact siteFault_len e
    · cases h
  · split at h
    · cases h
      next e => exact rightFault_len e
    · cases h
section
variable {P : Program} {w : World} {K : PySem.W.Frag} {mg : Str → Option Value} {base : Heap} {A : Ad}
def TolK (A : Ad) (H : Hp) (Q : VK) (E : XK) : Option (Nat × Str) → Prop
  | none => ∀ H' v, Ev A [] H H' → Q v H'
  | some nr => EBad A H E nr
def spParse (A : Ad) : Sp := fun vs H Q E => ∃ (text : Str) (r : Option (Nat × Str)), vs = [.str text] ∧ Tb A H ∧ toldM text = some r ∧ TolK A H Q E r
abbrev nParse : List Str := ["text", "reading", "at", "line", "fault"]
theorem scParse : FnScope nParse ["text"] (defScope sParse) := ⟨rfl, rfl, rfl, by decide +kernel, rfl, by decide +kernel, by decide +kernel⟩
theorem ok_parse (T : Tx P K mg A) (T1 : TabB base mg A.c1 A.P1) (T2 : TabB base mg A.c2 A.P2) : Ok P w K mg base 7 A.fParse ["text"] (spParse A) := by
  refine T.dParse.okX scParse (fun vs H Q E h => ?_) (fun cdv Ar outer s0 H vs Q E hr h => ?_)
  · obtain ⟨text, r, rfl, _⟩ := h
    rfl
  · obtain ⟨text, r, rfl, tb, et, k⟩ := h
    have tk := takes_of (X := cxOf (L2.CX P w) P w K mg base nParse "parse_basin" (defScope sParse) A.fParse cdv Ar outer s0 H E) rfl rfl rfl rfl
    have hx := pas tk
    refine ⟨_, pss_cons (ps_set (i := 1) scParse.nd rfl (.inl rfl) (pe_new0 (ok_rinit T) hr (by decide) T.kR T.gReading hx))
      (pss_cons (ps_for (passes_of rfl) rfl (pi_enum rfl T.bEnum (pa_cons (pe_split (pv 0) pe_str) pa_nil)) (pg_tup rfl (pgs_cons (pg_name (i := 2) scParse.nd rfl (.inl rfl)) (pgs_cons (pg_name (i := 3) scParse.nd rfl (.inl rfl)) pgs_nil)))
        (pss_cons (ps_set (i := 4) scParse.nd rfl (.inl rfl) (pe_m (ok_rtake T T1 T2) hr (by decide) T.cR T.mRTake hx (pv 1) (pa_cons (pv 3) pa_nil)))
        (pss_one (ps_if (pt_cmpR op_notN (pv 4) pe_non (nomark _)) (pss_one (ps_raise rfl tk (pmk_bad T.bad T.gBad T.bSuper hr (pa_cons (pe_op op_add (pv 2) pe_int) (pa_cons (pv 4) pa_nil))))) pss_nil))))
      (pss_cons (ps_expr (pe_m0 (ok_rorder T) hr (by decide) T.cR T.mROrder hx (pv 1)))
      (pss_one (ps_ret (pe_tup (pa_cons (pe_tup (pa_cons (pe_fld (pv 1) rfl) (pa_cons (pe_callTy call_tuple_of (by rfl) T.bTuple (by decide +kernel) (pa_cons (pe_fld (pv 1) rfl) pa_nil)) pa_nil))) (pa_cons (pe_callTy call_tuple_of (by rfl) T.bTuple (by decide +kernel) (pa_cons (pe_fld (pv 1) rfl) pa_nil)) pa_nil))))))), ?_⟩
    unfold toldM at et
    by_cases hz : (decide (text.length ≤ 9000) && decide ((Txt.split text "\n").length ≤ 1000)) = true
    case neg => rw [if_neg hz] at et; cases et
    rw [if_pos hz] at et
    rw [Bool.and_eq_true] at hz
    have hz1 : text.length ≤ 9000 := of_decide_eq_true hz.1
    have hz2 : (Txt.split text "\n").length ≤ 1000 := of_decide_eq_true hz.2
    generalize el : Txt.split text "\n" = lines at et hz2
    refine fun x dx hx0 hd0 ne => ⟨x, dx, rfl, upd_same, ?_⟩
    have e0 : Ev A [x] H (upd H dx (.own x)) := Ev.new tb hd0
    have e1 := e0.trans (Ev.new (o := .ins A.CR dx []) e0.tb (by rw [upd_ne ne.symm]; exact hx0))
    refine ⟨e1.tb, fun H1 ls lr e2 ra hls hlr => ⟨rfl, ?_⟩⟩
    have ev1 : Ev A [] H H1 := (e1.trans e2).newer fun b hb _ => by rw [List.mem_singleton.mp hb]; exact hx0
    have hls0 := e1.free hls
    have hLs : ∀ L, H1 L = none → L ∉ [x, ls, lr] := fun L hL hq => by
      rcases List.mem_cons.mp hq with h | h
      · obtain ⟨dx, hx⟩ := ra.x_
        rw [h, hx] at hL; cases hL
      rcases List.mem_cons.mp h with h | h
      · rw [h, ra.s_] at hL; cases hL
      · rw [List.mem_singleton.mp h, ra.r_] at hL; cases hL
    have hlr0 := e1.free hlr
    refine ⟨_, rfl, ⟨text, rfl⟩, text, "\n", rfl, rfl, by decide +kernel, Nat.le_trans (show text.length + 2 ≤ 10000 by omega) line10, fun L hL => ?_⟩
    rw [el]
    refine ⟨L, _, rfl, SqL.of upd_same, ?_⟩
    have ev2 := ev1.trans (Ev.new (o := .lst (lines.map V.str)) ev1.tb hL)
    have nw : ∀ {H' H'' : Hp}, Ev A [] H H' → Ev A [x, ls, lr] H' H'' → Ev A [] H H'' := fun a b => (a.wide.trans b).newer fun q hq _ => by
      rcases List.mem_cons.mp hq with h | h
      · rw [h]; exact hx0
      rcases List.mem_cons.mp h with h | h
      · rw [h]; exact hls0
      · rw [List.mem_singleton.mp h]; exact hlr0
    refine for_it walk_enum (fun i σ H' => ∃ u1 u2 u3 as bs st, σ = [some (.str text), some (.ref x), u1, u2, u3] ∧ Ev A [] H H' ∧ RAt A H' x ls lr as bs st ∧ Sm st ∧ H' L = some (.lst (lines.map V.str)) ∧ linesM i st (lines.drop i) = some r)
      ⟨_, _, _, [], [], _, rfl, ev2, ra.keep (Ev.new ev1.tb hL), ⟨by decide, by decide⟩, upd_same, et⟩ (fun i σ H' _ p => SqL.of (by obtain ⟨_, _, _, _, _, _, _, _, _, _, h, _⟩ := p; exact h)) ?_ ?_
    · rintro i v σ Ha Hb hi ⟨u1, u2, u3, as, bs, st, rfl, ea, ra, sm, hLa, eo⟩ ⟨t, y1, y2, rfl, hn, rfl, hy1, hy2⟩
      cases hy1
      have hy2 : (lines.map V.str)[i]? = some y2 := hy2
      rw [List.getElem?_map] at hy2
      cases ez : lines[i]? with
      | none => rw [ez] at hy2; cases hy2
      | some z =>
      rw [ez] at hy2
      cases hy2
      obtain ⟨hi2, ez2⟩ := List.getElem?_eq_some_iff.mp ez
      rw [List.drop_eq_getElem_cons hi2, ez2] at eo
      have ev3 : Ev A [] Ha (upd Ha t (.tup [.int (i : Nat), .str z])) := Ev.new ea.tb hn
      have r3 := ra.keep ev3
      obtain ⟨dx3, hx3⟩ := r3.x_
      refine ⟨t, _, rfl, SqT.of upd_same, rfl, _, _, rfl, _, _, rfl, rfl, ?_⟩
      have eo : (match takeM st z with | none => none | some (some f, _) => some (some (i + 1, f)) | some (none, st') => linesM (i + 1) st' (lines.drop (i + 1))) = some r := eo
      cases em : takeM st z with
      | none => rw [em] at eo; cases eo
      | some p =>
      obtain ⟨f, st'⟩ := p
      rw [em] at eo
      refine ⟨_, rfl, x, dx3, _, rfl, hx3, fsR_no (by decide +kernel) (by decide +kernel) (by decide +kernel), _, rfl, x, ls, lr, as, bs, st, st', z, f, rfl, ev3.tb, r3, sm, em, fun H4 as' bs' e4 r4 => ?_⟩
      have ev4 := nw (ea.trans ev3) e4
      refine ⟨_, rfl, rfl, _, rfl, ?_⟩
      cases f with
      | some f =>
        cases eo
        exact iteT ⟨_, rfl, (i : Int), 1, rfl, rfl, _, rfl, (i : Int) + 1, f, rfl, by omega, by rw [List.length_map] at hi; omega, take_len em, fun d hd => k _ d (ev4.trans (Ev.new ev4.tb hd)) upd_same⟩
      | none =>
        have eo : linesM (i + 1) st' (lines.drop (i + 1)) = some r := eo
        have hLn := hLs L hL
        exact iteF ⟨_, _, _, as', bs', st', rfl, ev4, r4, sm.take em, e4.keep _ _ hLn rfl (ev3.keep _ _ (by simp) rfl hLa), eo⟩
    · rintro σ H' ⟨u1, u2, u3, as, bs, st, rfl, ea, ra, sm, hLa, eo⟩
      rw [List.length_map, List.drop_length] at eo
      have eo : some (orderM 0 st.sites) = some r := eo
      cases eo
      obtain ⟨dx3, hx3⟩ := ra.x_
      refine ⟨_, rfl, x, dx3, _, rfl, hx3, fsR_no (by decide +kernel) (by decide +kernel) (by decide +kernel), x, ls, lr, as, bs, st, rfl, ea.tb, ra, sm, ?_⟩
      cases eq : orderM 0 st.sites with
      | some nr =>
        rw [eq] at k
        exact fun H4 d e4 hd => k H4 d (ea.trans e4) hd
      | none =>
        rw [eq] at k
        intro H4 e4
        have r4 := ra.keep e4
        have ev4 := ea.trans e4
        obtain ⟨dx4, hx4⟩ := r4.x_
        refine ⟨_, rfl, x, A.CR, dx4, _, _, rfl, hx4, T.cR, T.nRMonths, fsR_m, _, rfl, x, A.CR, dx4, _, _, rfl, hx4, T.cR, T.nRSites, fsR_s, ls, _, rfl, .inl ⟨SqL.of r4.s_, fun t1 ht1 => ?_⟩⟩
        have ev5 := ev4.trans (Ev.new (o := .tup (as.map V.ref)) ev4.tb ht1)
        have r5 := r4.keep (Ev.new (o := .tup (as.map V.ref)) ev4.tb ht1)
        refine ⟨Nat.le_trans (show 2 ≤ 10000 by decide) line10, fun t2 ht2 => ?_⟩
        have ev6 := ev5.trans (Ev.new (o := .tup [vO st.months, .ref t1]) ev5.tb ht2)
        have r6 := r5.keep (Ev.new (o := .tup [vO st.months, .ref t1]) ev5.tb ht2)
        obtain ⟨dx6, hx6⟩ := r6.x_
        refine ⟨_, rfl, x, A.CR, dx6, _, _, rfl, hx6, T.cR, T.nRRights, fsR_r, lr, _, rfl, .inl ⟨SqL.of r6.r_, fun t3 ht3 => ?_⟩⟩
        have ev7 := ev6.trans (Ev.new (o := .tup (bs.map V.ref)) ev6.tb ht3)
        refine ⟨Nat.le_trans (show 2 ≤ 10000 by decide) line10, fun t4 ht4 => ?_⟩
        exact k _ _ (ev7.trans (Ev.new ev7.tb ht4))
end
end HW
/-! _law_told -/
namespace HW
open PySem PySem.Spec PyProof.Rows L2 GxR

def toldV : Option (Nat × Str) → List V
  | none => []
  | some nr => [.int (nr.1 : Nat), .str nr.2]
theorem call_isDg {X : Cx} {a D : Addr} {cls : Value} {d : Option Addr} {oe : Obj} {pn : List (Addr × Obj)} (T : IsTxt X.K D) (hz : Zc cls d oe) (hf : ∃ vs, oe.data = .fields vs) :
    CallR (X.suite a ((a, oe) :: pn)) (.builtin "isinstance") (fun xs H Q => ∃ (dd : Addr) (c : V) (cv : Value) (b : Bool), cls = .ref D ∧ d = some dd ∧ xs = [.ref a, c] ∧ (∀ u, RelV c u → u = cv) ∧ PySem.W.kitOne X.K (.ref D) cv = some b ∧ (∃ fs, H dd = some (.xd fs)) ∧ Q (.bl b) H) := by
  rintro pins s σ H xs us Q I r ⟨dd, c, cv, b, rfl, rfl, rest⟩
  exact call_isD T hz hf pins s σ H xs us Q I r ⟨c, cv, b, rest⟩
theorem bad_line {n : Int} {z : Str} : (badF n z).lookup ("line" : Str) = some (.int n) := by
  have e : (("line" : Str) == ("reason" : Str)) = false := by decide +kernel
  simp [badF, List.lookup, e]
theorem bad_reason {n : Int} {z : Str} : (badF n z).lookup ("reason" : Str) = some (.str z) := by simp [badF, List.lookup]
section
variable {P : Program} {w : World} {K : PySem.W.Frag} {mg : Str → Option Value} {base : Heap} {A : Ad}
def spTold (A : Ad) : Sp := fun vs H Q _ => ∃ (text : Str) (r : Option (Nat × Str)), vs = [.str text] ∧ Tb A H ∧ toldM text = some r ∧ ∀ H' t, Ev A [] H H' → H' t = some (.tup (toldV r)) → Q (.ref t) H'
abbrev nTold : List Str := ["_law_text", "e"]
theorem scTold : FnScope nTold ["_law_text"] (defScope sTold) := ⟨rfl, rfl, rfl, by decide +kernel, rfl, by decide +kernel, by decide +kernel⟩
abbrev tIs (a D : Addr) (cls : Value) (d : Option Addr) (K : PySem.W.Frag) (c : V) : TE := tCB (fun xs H Q => ∃ (dd : Addr) (c : V) (cv : Value) (b : Bool), cls = .ref D ∧ d = some dd ∧ xs = [.ref a, c] ∧ (∀ u, RelV c u → u = cv) ∧ PySem.W.kitOne K (.ref D) cv = some b ∧ (∃ fs, H dd = some (.xd fs)) ∧ Q (.bl b) H) (tCons (tVar 1) (tCons (tC c) tNil))
abbrev tToldSuite (K : PySem.W.Frag) (A : Ad) : Addr → Value → Option Addr → TS := fun a cls d =>
  tSeq (tIfS (tAnd (tB (tIs a A.CB cls d K (.ref A.CB))) (tB (tIs a A.CB cls d K (.ty "ValueError")))) (tRet (tTup (tCons (tXf a cls d A.CB "line" (tVar 1)) (tCons (tXf a cls d A.CB "reason" (tVar 1)) tNil)))) tNext) (tRet (tTup (tCons (tC (.str "other")) tNil)))
theorem ok_told (T : Tx P K mg A) (T1 : TabB base mg A.c1 A.P1) (T2 : TabB base mg A.c2 A.P2) : Ok P w K mg base 8 A.fTold ["_law_text"] (spTold A) := by
  obtain ⟨fd, G, bP, kp⟩ := ok_parse (w := w) T T1 T2
  refine T.dTold.okX scTold (fun vs H Q E h => ?_) (fun cdv Ar outer s0 H vs Q E hr h => ?_)
  · obtain ⟨text, r, rfl, _⟩ := h
    rfl
  · obtain ⟨text, r, rfl, tb, et, k⟩ := h
    refine ⟨_, pss_cons (ps_try_as (i := 1) (tb := fun W => tDrop (tCallS (spParse A) (WE W) (tCons (tVar 0) tNil))) (ts := tToldSuite K A) (Wout := fun _ _ _ _ => False) rfl rfl scTold.nd rfl rfl ⟨rfl, by decide, .inl T.gWater⟩ takes0
        (fun W pn xe tk _ => pss_one (ps_expr (pe_callS G (hr.mono (by decide)) rfl T.gParse kp bP (fun σ => passAt tk σ) (pa_cons (pv 0) pa_nil))))
        (fun a oe cls d pn hz hf => pss_cons (ps_if (PW.pt (pw_and (pt_val (pe_callB (call_isDg T.iB hz hf) (by rfl) T.bIsI (by decide +kernel) (pa_cons (pv 1) (pa_cons (pe_glob (v := .ref A.CB) rfl T.gBad rfl) pa_nil)))) (pw_and1 (pt_val (pe_callB (call_isDg T.iB hz hf) (by rfl) T.bIsI (by decide +kernel) (pa_cons (pv 1) (pa_cons (pe_bltn (v := .ty "ValueError") rfl T.bVE (by decide +kernel) rfl) pa_nil)))))))
            (pss_one (ps_ret (pe_tup (pa_cons (pe_xf T.fB T.fBl hz hf (pv 1)) (pa_cons (pe_xf T.fB T.fBr hz hf (pv 1)) pa_nil))))) pss_nil)
          (pss_one (ps_ret (pe_tup (pa_cons pe_str pa_nil))))))
      (pss_one (ps_ret (pe_tup pa_nil))), ?_⟩
    refine ⟨_, rfl, text, r, rfl, tb, et, ?_⟩
    cases r with
    | none =>
      intro H' v e
      exact ⟨Nat.zero_le _, fun t ht => k _ t (e.trans (Ev.new e.tb ht)) upd_same⟩
    | some nr =>
      intro H' dd e hd
      refine ⟨true, T.eB, fun _ a ha => ?_, fun h => by cases h⟩
      refine ⟨_, rfl, dd, .ref A.CB, .ref A.CB, true, rfl, rfl, rfl, fun u h => h, T.oB, ⟨_, hd⟩, true, rfl, iteT ?_⟩
      refine ⟨_, rfl, dd, .ty "ValueError", .type "ValueError", true, rfl, rfl, rfl, fun u h => h, T.oV, ⟨_, hd⟩, true, rfl, iteT ?_⟩
      refine ⟨_, rfl, rfl, rfl, dd, _, _, rfl, hd, bad_line, _, rfl, rfl, rfl, dd, _, _, rfl, hd, bad_reason, Nat.le_trans (show 2 ≤ 10000 by decide) line10, fun t ht => ?_⟩
      exact k _ t (e.trans (Ev.new e.tb ht)) upd_same
end
end HW
/-! _law_cell, _law_digits, _law_draw -/
namespace HW
open PySem PySem.Spec PyProof.Rows L2 GxR
theorem Ev.sqL {K : PySem.W.Frag} {A : Ad} {H H1 : Hp} {a : Addr} {xs : List V} (e : Ev A [] H H1) (h : SqL K H a xs) : SqL K H1 a xs := by
  rcases h with (h | ⟨o, h⟩) | h
  · exact .inl (.inl (e.keep _ _ (by simp) rfl h))
  · exact .inl (.inr ⟨o, e.keep _ _ (by simp) rfl h⟩)
  · exact .inr h
section
variable {P : Program} {w : World} {K : PySem.W.Frag} {mg : Str → Option Value} {base : Heap} {A : Ad}
def spCell (K : PySem.W.Frag) : Sp := fun vs H Q _ => ∃ (a : Addr) (ns : List Int) (k : Nat), vs = [.ref a, .int (k : Nat)] ∧ SqL K H a (ns.map V.int) ∧ ∀ z, Q (.int z) H
theorem scCell : FnScope ["_law_script", "_law_k"] ["_law_script", "_law_k"] (defScope sCell) := ⟨rfl, rfl, rfl, by decide +kernel, rfl, by decide +kernel, by decide +kernel⟩
theorem ok_cell (T : Tx P K mg A) : Ok P w K mg base 1 A.fCell ["_law_script", "_law_k"] (spCell K) := by
  refine T.dCell.okX scCell (fun vs H Q E h => ?_) (fun cdv Ar outer s0 H vs Q E hr h => ?_)
  · obtain ⟨a, ns, k, rfl, _⟩ := h
    rfl
  · obtain ⟨a, ns, j, rfl, hs, k⟩ := h
    refine ⟨_, pss_cons (ps_if (pt_cmpR op_lt (pv 1) (pe_callB call_len_seq (by rfl) T.bLen PySem.boot_len (pa_cons (pv 0) pa_nil)) (nomark _)) (pss_one (ps_ret (pe_ix ix_list (pv 0) (pv 1) (fun _ _ => rfl)))) pss_nil)
      (pss_one (ps_ret pe_int)), ?_⟩
    refine ⟨_, rfl, _, rfl, a, _, rfl, .inl hs, _, _, rfl, rfl, _, rfl, ?_⟩
    rw [List.length_map]
    cases e : decide ((j : Int) < (ns.length : Nat)) with
    | false => exact iteF (k _)
    | true =>
      have hj : j < ns.length := by have := of_decide_eq_true e; omega
      exact iteT ⟨_, rfl, _, rfl, a, _, j, .int ns[j], rfl, rfl, hs, atI_nat (j := j) (by simp [hj]), k _⟩

def spDigits (K : PySem.W.Frag) (A : Ad) : Sp := fun vs H Q _ => ∃ (a : Addr) (ns : List Int), vs = [.ref a, .int 0, .int 30] ∧ Tb A H ∧ SqL K H a (ns.map V.int) ∧ ∀ (H' : Hp) (D : Addr) (ms : List Int), Ev A [] H H' → H D = none → H' D = some (.lst (ms.map V.int)) → ms.length ≤ 1800 → Q (.ref D) H'
abbrev nDigits : List Str := ["_law_script", "_law_first", "_law_last", "_law_digits_here", "_law_k", "_law_cell_here", "_law_turn", "_law_seed"]
theorem scDigits : FnScope nDigits ["_law_script", "_law_first", "_law_last"] (defScope sDigits) := ⟨rfl, rfl, rfl, by decide +kernel, rfl, by decide +kernel, by decide +kernel⟩
/-- a list of ints that is built -/
structure PtI (A : Ad) (H : Hp) (D : Addr) (k : Nat) (H' : Hp) : Prop where
  ev : Ev A [] H H'
  at_ : ∃ ms : List Int, H' D = some (.lst (ms.map V.int)) ∧ ms.length ≤ k
theorem PtI.put {A : Ad} {H H' : Hp} {D : Addr} {k : Nat} {z : Int} {ms : List Int} (p : PtI A H D k H') (hD : H D = none) (h : H' D = some (.lst (ms.map V.int))) (l : ms.length ≤ k) : PtI A H D (k + 1) (upd H' D (.lst (ms.map V.int ++ [.int z]))) := by
  refine ⟨?_, ms ++ [z], ?_, ?_⟩
  · exact (p.ev.wide.trans (Ev.chg (ch := [D]) p.ev.tb h rfl (by simp))).newer fun b hb _ => by rw [List.mem_singleton.mp hb]; exact hD
  · rw [upd_same, List.map_append]; rfl
  · rw [List.length_append]; exact Nat.succ_le_succ l
theorem PtI.up {A : Ad} {H H' : Hp} {D : Addr} {k k' : Nat} (p : PtI A H D k H') (h : k ≤ k') : PtI A H D k' H' := by
  obtain ⟨ms, e, l⟩ := p.at_
  exact ⟨p.ev, ms, e, Nat.le_trans l h⟩
theorem ok_digits (T : Tx P K mg A) : Ok P w K mg base 2 A.fDigits ["_law_script", "_law_first", "_law_last"] (spDigits K A) := by
  refine T.dDigits.okX scDigits (fun vs H Q E h => ?_) (fun cdv Ar outer s0 H vs Q E hr h => ?_)
  · obtain ⟨a, ns, rfl, _⟩ := h
    rfl
  · obtain ⟨a, ns, rfl, tb, hs, k⟩ := h
    have hx := pas (takes_of (X := cxOf (L2.CX P w) P w K mg base nDigits "_law_digits" (defScope sDigits) A.fDigits cdv Ar outer s0 H E) rfl rfl rfl rfl)
    refine ⟨_, pss_cons (ps_set (i := 3) scDigits.nd rfl (.inl rfl) (pe_lst pa_nil))
      (pss_cons (ps_for (passes_of rfl) rfl (pi_range2 rfl T.bRange (pa_cons (pv 1) (pa_cons (pv 2) pa_nil))) (pg_name (i := 4) scDigits.nd rfl (.inl rfl))
        (pss_cons (ps_set (i := 5) scDigits.nd rfl (.inl rfl) (pe_f (ok_cell T) hr (by decide) T.gCell hx (pa_cons (pv 0) (pa_cons (pv 4) pa_nil))))
        (C8.pss_cut (ps_if (pt_cmpR op_lt (pv 5) pe_int (nomark _)) (pss_one (ps_set (i := 5) scDigits.nd rfl (.inl rfl) (pe_op op_sub pe_int (pe_op op_mul pe_int (pv 5))))) pss_nil)
        (pss_one (ps_if (pt_cmpR op_ge (pv 5) (pe_op op_pow pe_int pe_int) (nomark _))
          (pss_one (ps_for (passes_of rfl) rfl (pi_range1 rfl T.bRange (pa_cons pe_int pa_nil)) (pg_name (i := 6) scDigits.nd rfl (.inl rfl))
            (pss_one (ps_if (pt_cmpR op_gt (pv 5) pe_int (nomark _))
              (pss_cons (ps_expr (pe_bm PySem.F.plainAttrs_list PySem.F.slot_list_append PySem.F.type_list_append mt_append (pv 3) (pa_cons (pe_op op_mod (pe_callTy call_int1 (by rfl) T.bInt (by decide +kernel) (pa_cons (pv 5) pa_nil)) pe_int) pa_nil)))
              (pss_one (ps_set (i := 5) scDigits.nd rfl (.inl rfl) (pe_op op_fdiv (pv 5) pe_int)))) pss_nil))))
          (pss_cons (ps_set (i := 7) scDigits.nd rfl (.inl rfl) (pe_op op_mod (pe_callTy call_int1 (by rfl) T.bInt (by decide +kernel) (pa_cons (pe_op op_add (pe_op op_add (pe_op op_mul (pv 5) pe_int) (pe_op op_mul (pv 4) pe_int)) pe_int) pa_nil)) pe_int))
          (pss_one (ps_for (passes_of rfl) rfl (pi_range1 rfl T.bRange (pa_cons pe_int pa_nil)) (pg_name (i := 6) scDigits.nd rfl (.inl rfl))
            (pss_cons (ps_set (i := 7) scDigits.nd rfl (.inl rfl) (pe_op op_mod (pe_callTy call_int1 (by rfl) T.bInt (by decide +kernel) (pa_cons (pe_op op_add (pe_op op_add (pe_op op_mul (pv 7) pe_int) (pe_op op_mul pe_int (pv 6))) pe_int) pa_nil)) pe_int))
            (pss_one (ps_expr (pe_bm PySem.F.plainAttrs_list PySem.F.slot_list_append PySem.F.type_list_append mt_append (pv 3) (pa_cons (pe_op op_mod (pe_callTy call_int1 (by rfl) T.bInt (by decide +kernel) (pa_cons (pe_op op_fdiv (pv 7) pe_int) pa_nil)) pe_int) pa_nil)))))))))))))
      (pss_one (ps_ret (pv 3)))), ?_⟩
    refine ⟨Nat.zero_le _, fun D hD => ⟨_, rfl, _, rfl, 0, 30, rfl, by decide, ?_⟩⟩
    refine for_it walk_range (fun i σ H' => (∃ u4 u5 u6 u7, σ = [some (.ref a), some (.int 0), some (.int 30), some (.ref D), u4, u5, u6, u7]) ∧ PtI A H D (60 * i) H') ⟨⟨_, _, _, _, rfl⟩, Ev.new tb hD, [], upd_same, Nat.zero_le _⟩
      (fun _ _ _ _ _ => trivial) ?_ ?_
    · rintro i x σ Ha Hb hi ⟨⟨u4, u5, u6, u7, rfl⟩, p⟩ ⟨rfl, rfl⟩
      have hi : i < 30 := hi
      refine ⟨_, rfl, _, rfl, a, ns, i, ?_, p.ev.sqL hs, fun z => ?_⟩
      · simp
      refine ⟨fun σ' H' => ∃ c : Int, σ' = [some (.ref a), some (.int 0), some (.int 30), some (.ref D), some (.int (0 + (i : Nat))), some (.int c), u6, u7] ∧ PtI A H D (60 * i) H', ?_, ?_⟩
      · refine ⟨_, rfl, z, 0, rfl, rfl, decide (z < 0), rfl, ?_⟩
        refine ite2 (fun _ => ?_) (fun _ => ⟨z, rfl, p⟩)
        exact ⟨_, rfl, 2, z, rfl, rfl, .inl (by decide), 1, _, rfl, rfl, _, rfl, p⟩
      · rintro σ' H' ⟨c0, rfl, p⟩
        refine ⟨_, rfl, 10, 18, rfl, rfl, ⟨by decide, by decide, by decide⟩, c0, _, rfl, rfl, _, rfl, ?_⟩
        refine ite2 (fun _ => ?_) (fun _ => ?_)
        · refine ⟨60, rfl, by decide, by decide, ?_⟩
          refine for_it walk_range (fun j σ H' => (∃ c u6, σ = [some (.ref a), some (.int 0), some (.int 30), some (.ref D), some (.int (0 + (i : Nat))), some (.int c), u6, u7]) ∧ PtI A H D (60 * i + j) H') ⟨⟨_, _, rfl⟩, p⟩
            (fun _ _ _ _ _ => trivial) ?_ ?_
          · rintro j x σ Ha Hb hj ⟨⟨c, u6, rfl⟩, p⟩ ⟨rfl, rfl⟩
            have hj : j < 60 := hj
            refine ⟨_, rfl, c, 0, rfl, rfl, _, rfl, ?_⟩
            refine ite2 (fun _ => ?_) (fun _ => ⟨⟨c, _, rfl⟩, p.up (by omega)⟩)
            refine ⟨_, rfl, .inl ⟨rfl, _, SqL.of p.at_.choose_spec.1⟩, _, rfl, .inl ⟨c, rfl, c, 1000, rfl, rfl, (by show (0 : Int) < 1000; decide), ?_⟩⟩
            obtain ⟨ms, h, l⟩ := p.at_
            refine ⟨D, _, _, rfl, rfl, h, lt_line (by rw [List.length_map]; omega), ?_⟩
            exact ⟨_, rfl, c, 1000, rfl, rfl, ⟨by decide, by decide⟩, ⟨_, _, rfl⟩, p.put hD h l⟩
          · rintro σ H' ⟨⟨c, u6, rfl⟩, p⟩
            exact ⟨⟨_, _, _, _, rfl⟩, p.up (by show 60 * i + 60 ≤ _; omega)⟩
        · refine ⟨_, rfl, c0, 48271, rfl, rfl, .inr (by decide), _, rfl, _, 69621, rfl, rfl, .inr (by decide), _, _, rfl, rfl, _, 11, rfl, rfl, .inl ⟨_, rfl, _, 2147483647, rfl, rfl, (by show (0 : Int) < 2147483647; decide), ?_⟩⟩
          refine ⟨12, rfl, by decide, by decide, ?_⟩
          refine for_it walk_range (fun j σ H' => (∃ c u6, σ = [some (.ref a), some (.int 0), some (.int 30), some (.ref D), some (.int (0 + (i : Nat))), some (.int c0), u6, some (.int c)]) ∧ PtI A H D (60 * i + j) H') ⟨⟨_, _, rfl⟩, p⟩
            (fun _ _ _ _ _ => trivial) ?_ ?_
          · rintro j x σ Ha Hb hj ⟨⟨c, u6, rfl⟩, p⟩ ⟨rfl, rfl⟩
            have hj : j < 12 := hj
            refine ⟨_, rfl, c, 16807, rfl, rfl, .inr (by decide), _, rfl, 7, _, rfl, rfl, .inl (by decide), _, _, rfl, rfl, _, 1, rfl, rfl, .inl ⟨_, rfl, _, 2147483647, rfl, rfl, (by show (0 : Int) < 2147483647; decide), ?_⟩⟩
            refine ⟨_, rfl, .inl ⟨rfl, _, SqL.of p.at_.choose_spec.1⟩, _, rfl, _, 997, rfl, rfl, ⟨by decide, by decide⟩, .inl ⟨_, rfl, _, 1000, rfl, rfl, (by show (0 : Int) < 1000; decide), ?_⟩⟩
            obtain ⟨ms, h, l⟩ := p.at_
            exact ⟨D, _, _, rfl, rfl, h, lt_line (by rw [List.length_map]; omega), ⟨_, _, rfl⟩, p.put hD h l⟩
          · rintro σ H' ⟨⟨c, u6, rfl⟩, p⟩
            exact ⟨⟨_, _, _, _, rfl⟩, p.up (by show 60 * i + 12 ≤ _; omega)⟩
    · rintro σ H' ⟨⟨u4, u5, u6, u7, rfl⟩, p⟩
      obtain ⟨ms, e, l⟩ := p.at_
      exact ⟨_, rfl, k H' D ms p.ev hD e (Nat.le_trans l (by decide))⟩
end
end HW
/-! the plain law: what the mirror says of the law's texts -/
namespace HW
open PySem
def lawLines : List Str := [("site up to dale in 1 reach 5 flow 1 2" : Str), ("site dale to mouth room 9 held 9 flow 0 99" : Str), ("site mouth flow 3 0" : Str), ("right mill at mouth wants 3 4" : Str), ("right farm at up wants 0 1" : Str)]
def lawWrongs : List Str := [("" : Str),
  ("site" : Str),
  ("site up" : Str),
  ("site up to dale" : Str),
  ("site up to dale flow" : Str),
  ("site up to dale flow 1" : Str),
  ("site up to dale flow 1 2 3" : Str),
  ("site up to dale flow 1 02" : Str),
  ("site up to dale flow 1 100" : Str),
  ("site up to dale flow 1 -2" : Str),
  ("site Up to dale flow 1 2" : Str),
  ("site toolong to dale flow 1 2" : Str),
  ("site up to dale in 0 flow 1 2" : Str),
  ("site up to dale in 3 flow 1 2" : Str),
  ("site up to dale reach 100 flow 1 2" : Str),
  ("site up to dale reach flow 1 2" : Str),
  ("site up to dale room 0 flow 1 2" : Str),
  ("site up to dale held 0 flow 1 2" : Str),
  ("site up to dale held 1 room 2 flow 1 2" : Str),
  ("site up in 1 flow 1 2" : Str),
  ("site up reach 3 flow 1 2" : Str),
  ("site up  to dale flow 1 2" : Str),
  (" site up to dale flow 1 2" : Str),
  ("site up to dale flow 1 2 " : Str),
  ("site up to dale reach 2 in 1 flow 1 2" : Str),
  ("right" : Str),
  ("right a at dale" : Str),
  ("right a at dale wants" : Str),
  ("right a at dale wants 1" : Str),
  ("right a wants 1 2" : Str),
  ("right a at dale wants 1 2 3" : Str),
  ("right A at dale wants 1 2" : Str),
  ("right a at dale wants 1 x" : Str),
  ("right a at dale want 1 2" : Str),
  ("lake up flow 1 2" : Str),
  ("right a at dale wants 1 2 " : Str),
  ("site up to dale room 2 held 1 room 2 flow 1 2" : Str)]
def lawFour : List Str := [("site a to d flow 1" : Str), ("site b to d flow 1" : Str), ("site c to d flow 1" : Str), ("site d flow 1" : Str)]
def lawR1 : List (List Str × Option (Nat × Str)) := [((lawLines.take 4 ++ [("site weir flow 1 1" : Str)]), some (5, ("site behind a right" : Str))), (((lawLines.take 2 ++ [("site up to mouth flow 1 1" : Str)]) ++ lawLines.drop 2), some (3, ("name twice" : Str)))]
def lawR2 : List (List Str × Option (Nat × Str)) := [(((lawLines.take 1 ++ [("site dale to mouth room 3 held 4 flow 0 1" : Str)]) ++ lawLines.drop 2), some (2, ("held above room" : Str))), ((lawLines.take 1 ++ [("site dale to mouth held 1 flow 0 1" : Str)]), some (2, ("held above room" : Str)))]
def lawR3 : List (List Str × Option (Nat × Str)) := [(((lawLines.take 3 ++ [("right a at weir wants 1 1" : Str)]) ++ lawLines.drop 3), some (4, ("no such site" : Str))), ((lawLines ++ [("right mill at up wants 1 1" : Str)]), some (6, ("name twice" : Str)))]
def lawR4 : List (List Str × Option (Nat × Str)) := [((lawFour ++ [("site e flow 1" : Str)]), some (5, ("too many sites" : Str))), ((lawFour ++ ([("m" : Str), ("n" : Str), ("o" : Str), ("p" : Str), ("q" : Str)].map fun y => ("right " : Str) ++ y ++ (" at a wants 1" : Str))), some (9, ("too many rights" : Str)))]
def lawR5 : List (List Str × Option (Nat × Str)) := [([("site a to b flow 1" : Str), ("site c flow 1" : Str)], some (1, ("next is not later" : Str))), ([("site a flow 1" : Str), ("site b flow 1" : Str)], some (1, ("next is not later" : Str)))]
def lawR6 : List (List Str × Option (Nat × Str)) := [([("site a to a flow 1" : Str), ("site b flow 1" : Str)], some (1, ("next is not later" : Str)))]
def lawR7 : List (List Str × Option (Nat × Str)) := [([("site a to c flow 1" : Str), ("site b to a flow 1" : Str), ("site c flow 1" : Str)], some (2, ("next is not later" : Str)))]
def lawR8 : List (List Str × Option (Nat × Str)) := [([("site a to b flow 1" : Str), ("site b to a flow 1" : Str)], some (2, ("outlet leads on" : Str))), ([("site a to b flow 1" : Str)], some (1, ("outlet leads on" : Str)))]
def lawR9 : List (List Str × Option (Nat × Str)) := [([("right a at b wants 1" : Str), ("site b flow 1" : Str)], some (1, ("not a line" : Str))), ([("site a to b flow 1 1 1 1 1" : Str), ("site b flow 1" : Str)], some (1, ("not a line" : Str)))]
def lawR10 : List (List Str × Option (Nat × Str)) := [([("site a flow 1 1 1 1" : Str)], none), ((lawFour ++ ([("a" : Str), ("b" : Str), ("c" : Str), ("d" : Str)].map fun y => ("right " : Str) ++ y ++ (" at b wants 0" : Str))), none)]
def lawRows : List (List Str × Option (Nat × Str)) := ((((((((lawR1 ++ lawR2) ++ lawR3) ++ lawR4) ++ lawR5) ++ lawR6) ++ lawR7) ++ lawR8) ++ lawR9) ++ lawR10

def init : Rd := ⟨[], [], none⟩
def told (lines : List Str) : Option (Option (Nat × Str)) := linesM 0 init lines
/-- lines that make a text the mirror takes -/
def okLines (lines : List Str) : Bool := !lines.isEmpty && lines.all (fun p => decide (10 ∉ TL.tl p)) && decide ((lines.map (·.length)).sum + lines.length ≤ 9000) && decide (lines.length ≤ 1000)
theorem told_join {lines : List Str} (h : okLines lines = true) : toldM (Txt.join "\n" lines) = told lines := by
  unfold okLines at h
  simp only [Bool.and_eq_true] at h
  obtain ⟨⟨⟨h1, h2⟩, h3⟩, h4⟩ := h
  have h3 := of_decide_eq_true h3
  have e : ("\n" : Str) = ⟨#[10]⟩ := by decide +kernel
  have hs : Txt.split (Txt.join "\n" lines) "\n" = lines := by
    rw [e]
    refine TL.split_join (s := 10) (S := []) rfl (by decide +kernel) (fun z => by rw [z] at h1; cases h1) fun p hp => of_decide_eq_true (List.all_eq_true.mp h2 p hp)
  have hl : (Txt.join "\n" lines).length ≤ 9000 := by
    have e1 : ("\n" : Str).length = 1 := by decide +kernel
    have b : (Str.join "\n" lines).length ≤ _ := StrLaws.join_length_le "\n" lines
    rw [e1, Nat.mul_one] at b
    rw [TL.join_eq]
    exact Nat.le_trans b h3
  unfold toldM
  rw [hs, if_pos (by rw [h4, decide_eq_true hl]; rfl)]
  rfl
/-- the state behind the first a lines -/
def stAt (a : Nat) : Rd := ⟨([⟨"up", some "dale", 1, some 5, 0, 0, [1, 2]⟩, ⟨"dale", some "mouth", 0, none, 9, 9, [0, 99]⟩, ⟨"mouth", none, 0, none, 0, 0, [3, 0]⟩] : List Site).take a, if a = 4 then [⟨"mill", "mouth", [3, 4]⟩] else [], some 2⟩
end HW
/-! the plain law: what the mirror says of the law's texts -/
namespace HW
open PySem
theorem lines_step {i : Nat} {st st' : Rd} {l : Str} {r : List Str} (h : takeM st l = some (none, st')) : linesM i st (l :: r) = linesM (i + 1) st' r := by
  show (match takeM st l with | none => none | some (some f, _) => some (some (i + 1, f)) | some (none, st') => linesM (i + 1) st' r) = _
  rw [h]
theorem lines_stop {i : Nat} {st st' : Rd} {l f : Str} {r : List Str} (h : takeM st l = some (some f, st')) : linesM i st (l :: r) = some (some (i + 1, f)) := by
  show (match takeM st l with | none => none | some (some f, _) => some (some (i + 1, f)) | some (none, st') => linesM (i + 1) st' r) = _
  rw [h]
theorem fact_line1 : takeM init "site up to dale in 1 reach 5 flow 1 2" = some (none, stAt 1) := by decide +kernel
theorem fact_line2 : takeM (stAt 1) "site dale to mouth room 9 held 9 flow 0 99" = some (none, stAt 2) := by decide +kernel
theorem fact_line3 : takeM (stAt 2) "site mouth flow 3 0" = some (none, stAt 3) := by decide +kernel
theorem fact_line4 : takeM (stAt 3) "right mill at mouth wants 3 4" = some (none, stAt 4) := by decide +kernel
theorem fact_line5 : takeM (stAt 4) "right farm at up wants 0 1" = some (none, { stAt 4 with rights := [⟨"mill", "mouth", [3, 4]⟩, ⟨"farm", "up", [0, 1]⟩] }) := by decide +kernel
theorem fact_w1 : lawWrongs.all (fun z => decide (takeM (stAt 1) z = some (some ("not a line" : Str), stAt 1))) = true := by decide +kernel
theorem fact_w2 : lawWrongs.all (fun z => decide (takeM (stAt 2) z = some (some ("not a line" : Str), stAt 2))) = true := by decide +kernel
theorem fact_w3 : lawWrongs.all (fun z => decide (takeM (stAt 3) z = some (some ("not a line" : Str), stAt 3))) = true := by decide +kernel
theorem fact_w4 : lawWrongs.all (fun z => decide (takeM (stAt 4) z = some (some ("not a line" : Str), stAt 4))) = true := by decide +kernel
theorem fact_ok1 : ([1, 2, 3, 4].all fun a => lawWrongs.all fun z => okLines (lawLines.take a ++ [z] ++ lawLines.drop (a + 1))) = true := by decide +kernel
theorem fact_ok2 : ([1, 2, 3, 4].all fun a => lawWrongs.all fun z => okLines (lawLines.take a ++ [z] ++ lawLines.drop a)) = true := by decide +kernel
theorem fact_okr : (lawRows.all fun r => okLines r.1) = true := by decide +kernel
theorem fact_rows : (lawRows.all fun r => decide (told r.1 = some r.2)) = true := by decide +kernel
theorem fact_ok0 : okLines lawLines = true := by decide +kernel
theorem fact_ok6 : okLines (lawLines ++ [("" : Str)]) = true := by decide +kernel
theorem fact_e6 : takeM { stAt 4 with rights := [⟨"mill", "mouth", [3, 4]⟩, ⟨"farm", "up", [0, 1]⟩] } "" = some (some ("not a line" : Str), { stAt 4 with rights := [⟨"mill", "mouth", [3, 4]⟩, ⟨"farm", "up", [0, 1]⟩] }) := by decide +kernel
theorem fact_order : orderM 0 (stAt 4).sites = none := by decide +kernel
theorem fact_fix2 : toldM "" = some (some (1, ("not a line" : Str))) := by decide +kernel
theorem fact_text6 : Txt.join "\n" lawLines ++ "\n" = Txt.join "\n" (lawLines ++ [("" : Str)]) := by decide +kernel

theorem fact_fix1 : toldM (Txt.join "\n" lawLines) = some none := by
  rw [told_join fact_ok0]
  refine (lines_step fact_line1).trans ((lines_step fact_line2).trans ((lines_step fact_line3).trans ((lines_step fact_line4).trans ((lines_step fact_line5).trans ?_))))
  show some (orderM 0 (stAt 4).sites) = _
  rw [fact_order]
theorem fact_fix3 : toldM (Txt.join "\n" lawLines ++ "\n") = some (some (6, ("not a line" : Str))) := by
  rw [fact_text6, told_join fact_ok6]
  exact (lines_step fact_line1).trans ((lines_step fact_line2).trans ((lines_step fact_line3).trans ((lines_step fact_line4).trans ((lines_step fact_line5).trans (lines_stop fact_e6)))))
theorem told_wrong {a : Nat} {z : Str} (rest : List Str) (ha : a ∈ [1, 2, 3, 4]) (hz : z ∈ lawWrongs) : told (lawLines.take a ++ [z] ++ rest) = some (some (a + 1, ("not a line" : Str))) := by
  have f1 := of_decide_eq_true (List.all_eq_true.mp fact_w1 z hz)
  have f2 := of_decide_eq_true (List.all_eq_true.mp fact_w2 z hz)
  have f3 := of_decide_eq_true (List.all_eq_true.mp fact_w3 z hz)
  have f4 := of_decide_eq_true (List.all_eq_true.mp fact_w4 z hz)
  simp only [List.mem_cons, List.not_mem_nil, or_false] at ha
  rcases ha with rfl | rfl | rfl | rfl
  · exact (lines_step fact_line1).trans (lines_stop f1)
  · exact (lines_step fact_line1).trans ((lines_step fact_line2).trans (lines_stop f2))
  · exact (lines_step fact_line1).trans ((lines_step fact_line2).trans ((lines_step fact_line3).trans (lines_stop f3)))
  · exact (lines_step fact_line1).trans ((lines_step fact_line2).trans ((lines_step fact_line3).trans ((lines_step fact_line4).trans (lines_stop f4))))
theorem fact_wrong1 {a : Nat} {z : Str} (ha : a ∈ [1, 2, 3, 4]) (hz : z ∈ lawWrongs) : toldM (Txt.join "\n" (lawLines.take a ++ [z] ++ lawLines.drop (a + 1))) = some (some (a + 1, ("not a line" : Str))) := by
  rw [told_join (List.all_eq_true.mp (List.all_eq_true.mp fact_ok1 a ha) z hz)]
  exact told_wrong _ ha hz
theorem fact_wrong2 {a : Nat} {z : Str} (ha : a ∈ [1, 2, 3, 4]) (hz : z ∈ lawWrongs) : toldM (Txt.join "\n" (lawLines.take a ++ [z] ++ lawLines.drop a)) = some (some (a + 1, ("not a line" : Str))) := by
  rw [told_join (List.all_eq_true.mp (List.all_eq_true.mp fact_ok2 a ha) z hz)]
  exact told_wrong _ ha hz
theorem fact_row {r : List Str × Option (Nat × Str)} (h : r ∈ lawRows) : toldM (Txt.join "\n" r.1) = some r.2 := by
  rw [told_join (List.all_eq_true.mp fact_okr r h)]
  exact of_decide_eq_true (List.all_eq_true.mp fact_rows r h)
end HW
/-! _law_draw, _law_wrong -/
namespace HW
open PySem PySem.Spec PyProof.Rows L2 GxR
section
variable {P : Program} {w : World} {K : PySem.W.Frag} {mg : Str → Option Value} {base : Heap} {A : Ad}
/-- the box: digits, the place -/
def BoxAt (H : Hp) (b D : Addr) (n : Nat) : Prop := H b = some (.lst [.ref D, .int (n : Nat)])
def spDraw (A : Ad) : Sp := fun vs H Q _ => ∃ (b D : Addr) (n : Nat) (m : Int) (ms : List Int), vs = [.ref b, .int m] ∧ Tb A H ∧ BoxAt H b D n ∧ H D = some (.lst (ms.map V.int)) ∧ 0 < m ∧ ∀ (H' : Hp) (z : Int), Ev A [b] H H' → BoxAt H' b D (n + 1) → 0 ≤ z → z < m → Q (.int z) H'
theorem scDraw : FnScope ["_law_box", "_law_many", "_law_at"] ["_law_box", "_law_many"] (defScope sDraw) := ⟨rfl, rfl, rfl, by decide +kernel, rfl, by decide +kernel, by decide +kernel⟩
theorem ok_draw (T : Tx P K mg A) : Ok P w K mg base 1 A.fDraw ["_law_box", "_law_many"] (spDraw A) := by
  refine T.dDraw.okX scDraw (fun vs H Q E h => ?_) (fun cdv Ar outer s0 H vs Q E hr h => ?_)
  · obtain ⟨b, D, n, m, ms, rfl, _⟩ := h
    rfl
  · obtain ⟨b, D, n, m, ms, rfl, tb, hb, hD, hm, k⟩ := h
    refine ⟨_, pss_cons (ps_set (i := 2) scDraw.nd rfl (.inl rfl) (pe_ix ix_list (pv 0) pe_int (fun _ _ => rfl)))
      (pss_cons (ps_asg (pe_op op_add (pv 2) pe_int) (pg_sub (pv 0) pe_int set_list))
      (pss_cons (ps_if (pt_cmpR op_lt (pv 2) (pe_callB call_len_seq (by rfl) T.bLen PySem.boot_len (pa_cons (pe_ix ix_list (pv 0) pe_int (fun _ _ => rfl)) pa_nil)) (nomark _))
        (pss_one (ps_ret (pe_op op_mod (pe_callTy call_int1 (by rfl) T.bInt (by decide +kernel) (pa_cons (pe_ix ix_list (pe_ix ix_list (pv 0) pe_int (fun _ _ => rfl)) (pv 2) (fun _ _ => rfl)) pa_nil)) (pv 1)))) pss_nil)
      (pss_one (ps_ret (pe_op op_mod (pe_callTy call_int1 (by rfl) T.bInt (by decide +kernel) (pa_cons (pe_op op_add (pe_op op_mul (pv 2) pe_int) pe_int) pa_nil)) (pv 1)))))), ?_⟩
    have nb : D ≠ b := fun z => by rw [z, hb] at hD; simp only [Option.some.injEq, HO.lst.injEq] at hD; cases ms <;> cases hD
    refine ⟨_, rfl, b, _, 1, .int (n : Nat), rfl, rfl, SqL.of hb, atI_nat (j := 1) rfl, ?_⟩
    refine ⟨_, rfl, (n : Int), 1, rfl, rfl, _, rfl, b, _, 1, 1, rfl, rfl, hb, rfl, ?_⟩
    have ev : Ev A [b] H (upd H b (.lst [.ref D, .int ((n + 1 : Nat) : Int)])) := Ev.chg tb hb rfl (by simp)
    have hb2 : BoxAt (upd H b (.lst [.ref D, .int ((n + 1 : Nat) : Int)])) b D (n + 1) := upd_same
    have hD2 : (upd H b (.lst [.ref D, .int ((n + 1 : Nat) : Int)])) D = some (.lst (ms.map V.int)) := by rw [upd_ne nb]; exact hD
    refine ⟨_, rfl, _, rfl, b, _, 0, .ref D, rfl, rfl, SqL.of hb2, atI_nat (j := 0) rfl, D, _, rfl, .inl (SqL.of hD2), (n : Int), _, rfl, rfl, _, rfl, ?_⟩
    rw [List.length_map]
    cases e : decide ((n : Int) < (ms.length : Nat)) with
    | false =>
      refine iteF ⟨_, rfl, (n : Int), 7, rfl, rfl, .inr (by decide), (n : Int) * 7, 3, rfl, rfl, .inl ⟨_, rfl, _, rfl, _, m, rfl, rfl, hm, k _ _ ev hb2 (Int.emod_nonneg _ (by omega)) (Int.emod_lt_of_pos _ hm)⟩⟩
    | true =>
      have hj : n < ms.length := by have := of_decide_eq_true e; omega
      refine iteT ⟨_, rfl, b, _, 0, .ref D, rfl, rfl, SqL.of hb2, atI_nat (j := 0) rfl, _, rfl, D, _, n, .int ms[n], rfl, rfl, SqL.of hD2, atI_nat (j := n) (by simp [hj]), .inl ⟨_, rfl, _, rfl, _, m, rfl, rfl, hm, k _ _ ev hb2 (Int.emod_nonneg _ (by omega)) (Int.emod_lt_of_pos _ hm)⟩⟩

/-! ### lists that are made -/
/-- an expression that makes (or names) a list of texts -/
def MkL (A : Ad) (te : TE) (σ : L2.St) (H : Hp) (ys : List Str) : Prop := ∀ (H' : Hp) (Q : VK), Ev A [] H H' → (∀ (H2 : Hp) (G : Addr), Ev A [] H' H2 → H2 G = some (.lst (ys.map V.str)) → Q (.ref G) H2) → te σ H' Q
def tStrs : List Str → TA
  | [] => tNil
  | a :: r => tCons (tC (.str a)) (tStrs r)
theorem strs_run {σ : L2.St} {H : Hp} : ∀ (ys : List Str) (Q : List V → Hp → Prop), Q (ys.map V.str) H → tStrs ys σ H Q
  | [], _, h => h
  | a :: r, Q, h => by
    show tStrs r σ H fun xs H2 => Q (.str a :: xs) H2
    exact strs_run r _ h
theorem le_line {n : Nat} (h : n ≤ 9000) : n ≤ sizeLine := Nat.le_trans h (Nat.le_trans (by decide) line10)
theorem mk_strs {σ : L2.St} {H : Hp} (ys : List Str) (hl : ys.length ≤ 1000) : MkL A (tLst (tStrs ys)) σ H ys := fun H' Q e k =>
  strs_run ys _ ⟨le_line (by rw [List.length_map]; omega), fun p hp => k _ p (Ev.new e.tb hp) upd_same⟩
theorem mk_cat {σ : L2.St} {H : Hp} {te1 te2 : TE} {y1 y2 : List Str} (h1 : MkL A te1 σ H y1) (h2 : MkL A te2 σ H y2) (l1 : y1.length ≤ 1000) (l2 : y2.length ≤ 1000) : MkL A (tOp rCat te1 te2) σ H (y1 ++ y2) := fun H' Q e k =>
  h1 H' _ e fun H2 G e2 hG => h2 H2 _ (e.trans e2) fun H3 F e3 hF => ⟨G, F, _, _, rfl, rfl, e3.keep _ _ (by simp) rfl hG, hF, le_line (by rw [List.length_map, List.length_map]; omega), fun p hp => k _ p ((e2.trans e3).trans (Ev.new e3.tb hp)) (by rw [upd_same, List.map_append])⟩
theorem mk_var {σ : L2.St} {H : Hp} {i : Nat} {L : Addr} {ys : List Str} (h : H L = some (.lst (ys.map V.str))) (hi : σ[i]? = some (some (.ref L))) : MkL A (tVar i) σ H ys := fun H' Q e k => ⟨_, hi, k H' L (Ev.refl e.tb) (e.keep _ _ (by simp) rfl h)⟩

theorem seq_set {te : TE} {i : Nat} {u : TS} {D : Ends} {σ : L2.St} {H : Hp} (h : te σ H fun x H1 => u D (σ.set i (some x)) H1) : tSeq (tAsg te (gName i)) u D σ H := h
theorem ret_of {te : TE} {D : Ends} {σ : L2.St} {H : Hp} (h : te σ H D.rt) : tRet te D σ H := h
def spWrong (A : Ad) : Sp := fun vs H Q _ => vs = [] ∧ Tb A H ∧ ∀ (H' : Hp) (G : Addr), Ev A [] H H' → H' G = some (.lst (lawWrongs.map V.str)) → Q (.ref G) H'
theorem scWrong : FnScope ["_law_rows"] [] (defScope sWrong) := ⟨rfl, rfl, rfl, by decide +kernel, rfl, by decide +kernel, by decide +kernel⟩
def wr0 : List Str := [("" : Str), ("site" : Str), ("site up" : Str), ("site up to dale" : Str), ("site up to dale flow" : Str), ("site up to dale flow 1" : Str), ("site up to dale flow 1 2 3" : Str), ("site up to dale flow 1 02" : Str)]
def wr1 : List Str := [("site up to dale flow 1 100" : Str), ("site up to dale flow 1 -2" : Str)]
def wr2 : List Str := [("site Up to dale flow 1 2" : Str), ("site toolong to dale flow 1 2" : Str), ("site up to dale in 0 flow 1 2" : Str), ("site up to dale in 3 flow 1 2" : Str)]
def wr3 : List Str := [("site up to dale reach 100 flow 1 2" : Str), ("site up to dale reach flow 1 2" : Str)]
def wr4 : List Str := [("site up to dale room 0 flow 1 2" : Str), ("site up to dale held 0 flow 1 2" : Str), ("site up to dale held 1 room 2 flow 1 2" : Str), ("site up in 1 flow 1 2" : Str)]
def wr5 : List Str := [("site up reach 3 flow 1 2" : Str), ("site up  to dale flow 1 2" : Str)]
def wr6 : List Str := [(" site up to dale flow 1 2" : Str), ("site up to dale flow 1 2 " : Str), ("site up to dale reach 2 in 1 flow 1 2" : Str), ("right" : Str), ("right a at dale" : Str), ("right a at dale wants" : Str)]
def wr7 : List Str := [("right a at dale wants 1" : Str), ("right a wants 1 2" : Str)]
def wr8 : List Str := [("right a at dale wants 1 2 3" : Str), ("right A at dale wants 1 2" : Str), ("right a at dale wants 1 x" : Str), ("right a at dale want 1 2" : Str), ("lake up flow 1 2" : Str)]
def wr9 : List Str := [("right a at dale wants 1 2 " : Str), ("site up to dale room 2 held 1 room 2 flow 1 2" : Str)]
theorem ok_wrong (T : Tx P K mg A) : Ok P w K mg base 1 A.fWrong [] (spWrong A) := by
  refine T.dWrong.okX scWrong (fun vs H Q E h => ?_) (fun cdv Ar outer s0 H vs Q E hr h => ?_)
  · obtain ⟨rfl, _⟩ := h
    rfl
  · obtain ⟨rfl, tb, k⟩ := h
    refine ⟨_, pss_cons (ps_set (i := 0) scWrong.nd rfl (.inl rfl) (pe_lst (pa_cons pe_str (pa_cons pe_str (pa_cons pe_str (pa_cons pe_str (pa_cons pe_str (pa_cons pe_str (pa_cons pe_str (pa_cons pe_str pa_nil))))))))))
      (pss_cons (ps_set (i := 0) scWrong.nd rfl (.inl rfl) (pe_op op_cat (pv 0) (pe_lst (pa_cons pe_str (pa_cons pe_str pa_nil)))))
      (pss_cons (ps_set (i := 0) scWrong.nd rfl (.inl rfl) (pe_op op_cat (pv 0) (pe_lst (pa_cons pe_str (pa_cons pe_str (pa_cons pe_str (pa_cons pe_str pa_nil)))))))
      (pss_cons (ps_set (i := 0) scWrong.nd rfl (.inl rfl) (pe_op op_cat (pv 0) (pe_lst (pa_cons pe_str (pa_cons pe_str pa_nil)))))
      (pss_cons (ps_set (i := 0) scWrong.nd rfl (.inl rfl) (pe_op op_cat (pv 0) (pe_lst (pa_cons pe_str (pa_cons pe_str (pa_cons pe_str (pa_cons pe_str pa_nil)))))))
      (pss_cons (ps_set (i := 0) scWrong.nd rfl (.inl rfl) (pe_op op_cat (pv 0) (pe_lst (pa_cons pe_str (pa_cons pe_str pa_nil)))))
      (pss_cons (ps_set (i := 0) scWrong.nd rfl (.inl rfl) (pe_op op_cat (pv 0) (pe_lst (pa_cons pe_str (pa_cons pe_str (pa_cons pe_str (pa_cons pe_str (pa_cons pe_str (pa_cons pe_str pa_nil)))))))))
      (pss_cons (ps_set (i := 0) scWrong.nd rfl (.inl rfl) (pe_op op_cat (pv 0) (pe_lst (pa_cons pe_str (pa_cons pe_str pa_nil)))))
      (pss_cons (ps_set (i := 0) scWrong.nd rfl (.inl rfl) (pe_op op_cat (pv 0) (pe_lst (pa_cons pe_str (pa_cons pe_str (pa_cons pe_str (pa_cons pe_str (pa_cons pe_str pa_nil))))))))
      (pss_one (ps_ret (pe_op op_cat (pv 0) (pe_lst (pa_cons pe_str (pa_cons pe_str pa_nil)))))))))))))), ?_⟩
    refine seq_set (mk_strs (A := A) wr0 (by decide) H _ (Ev.refl tb) fun H0 G0 e0 h0 => ?_)
    refine seq_set (mk_cat (A := A) (y1 := wr0) (y2 := wr1) (mk_var (i := 0) h0 rfl) (mk_strs wr1 (by decide)) (by decide) (by decide) H0 _ (Ev.refl e0.tb) fun H1 G1 e1 h1 => ?_)
    have e1 := e0.trans e1
    refine seq_set (mk_cat (A := A) (y1 := (wr0 ++ wr1)) (y2 := wr2) (mk_var (i := 0) h1 rfl) (mk_strs wr2 (by decide)) (by decide) (by decide) H1 _ (Ev.refl e1.tb) fun H2 G2 e2 h2 => ?_)
    have e2 := e1.trans e2
    refine seq_set (mk_cat (A := A) (y1 := ((wr0 ++ wr1) ++ wr2)) (y2 := wr3) (mk_var (i := 0) h2 rfl) (mk_strs wr3 (by decide)) (by decide) (by decide) H2 _ (Ev.refl e2.tb) fun H3 G3 e3 h3 => ?_)
    have e3 := e2.trans e3
    refine seq_set (mk_cat (A := A) (y1 := (((wr0 ++ wr1) ++ wr2) ++ wr3)) (y2 := wr4) (mk_var (i := 0) h3 rfl) (mk_strs wr4 (by decide)) (by decide) (by decide) H3 _ (Ev.refl e3.tb) fun H4 G4 e4 h4 => ?_)
    have e4 := e3.trans e4
    refine seq_set (mk_cat (A := A) (y1 := ((((wr0 ++ wr1) ++ wr2) ++ wr3) ++ wr4)) (y2 := wr5) (mk_var (i := 0) h4 rfl) (mk_strs wr5 (by decide)) (by decide) (by decide) H4 _ (Ev.refl e4.tb) fun H5 G5 e5 h5 => ?_)
    have e5 := e4.trans e5
    refine seq_set (mk_cat (A := A) (y1 := (((((wr0 ++ wr1) ++ wr2) ++ wr3) ++ wr4) ++ wr5)) (y2 := wr6) (mk_var (i := 0) h5 rfl) (mk_strs wr6 (by decide)) (by decide) (by decide) H5 _ (Ev.refl e5.tb) fun H6 G6 e6 h6 => ?_)
    have e6 := e5.trans e6
    refine seq_set (mk_cat (A := A) (y1 := ((((((wr0 ++ wr1) ++ wr2) ++ wr3) ++ wr4) ++ wr5) ++ wr6)) (y2 := wr7) (mk_var (i := 0) h6 rfl) (mk_strs wr7 (by decide)) (by decide) (by decide) H6 _ (Ev.refl e6.tb) fun H7 G7 e7 h7 => ?_)
    have e7 := e6.trans e7
    refine seq_set (mk_cat (A := A) (y1 := (((((((wr0 ++ wr1) ++ wr2) ++ wr3) ++ wr4) ++ wr5) ++ wr6) ++ wr7)) (y2 := wr8) (mk_var (i := 0) h7 rfl) (mk_strs wr8 (by decide)) (by decide) (by decide) H7 _ (Ev.refl e7.tb) fun H8 G8 e8 h8 => ?_)
    have e8 := e7.trans e8
    refine ret_of (mk_cat (A := A) (y1 := ((((((((wr0 ++ wr1) ++ wr2) ++ wr3) ++ wr4) ++ wr5) ++ wr6) ++ wr7) ++ wr8)) (y2 := wr9) (mk_var (i := 0) h8 rfl) (mk_strs wr9 (by decide)) (by decide) (by decide) H8 _ (Ev.refl e8.tb) fun H9 G9 e9 h9 => ?_)
    have e9 := e8.trans e9
    exact k _ G9 e9 h9
end
end HW
/-! law -/
namespace HW
open PySem PySem.Spec PyProof.Rows L2 GxR
section
variable {P : Program} {w : World} {K : PySem.W.Frag} {mg : Str → Option Value} {base : Heap} {A : Ad}
def spLaw (K : PySem.W.Frag) (A : Ad) : Sp := fun vs H Q _ => ∃ (a : Addr) (ns : List Int), vs = [.ref a] ∧ Tb A H ∧ SqL K H a (ns.map V.int) ∧ ∀ H', Q (.bl true) H'
abbrev nLaw : List Str := ["_law_script", "_law_box", "_law_lines", "_law_turn", "_law_at", "_law_wrong_here", "_law_rows", "_law_four", "_law_text", "_law_due", "_law_name"]
theorem scLaw : FnScope nLaw ["_law_script"] (defScope sLaw) := ⟨rfl, rfl, rfl, by decide +kernel, rfl, by decide +kernel, by decide +kernel⟩
theorem All2.app {α β : Type} {p : α → β → Prop} {as as' : List α} {bs bs' : List β} (h : All2 p as bs) (k : All2 p as' bs') : All2 p (as ++ as') (bs ++ bs') := by
  induction h with
  | nil => exact k
  | cons h _ ih => exact .cons h ih
/-! ### a text that is told, compared with what is due -/
def MkT (A : Ad) (te : TE) (σ : L2.St) (H : Hp) (z : Str) : Prop := ∀ (H' : Hp) (Q : VK), Ev A [] H H' → (∀ H2, Ev A [] H' H2 → Q (.str z) H2) → te σ H' Q
def MkD (A : Ad) (te : TE) (σ : L2.St) (H : Hp) (r : Option (Nat × Str)) : Prop := ∀ (H' : Hp) (Q : VK), Ev A [] H H' → (∀ (H2 : Hp) (t : Addr), Ev A [] H' H2 → H2 t = some (.tup (toldV r)) → Q (.ref t) H2) → te σ H' Q
abbrev rAddS : R2 := fun x y H Q => ∃ i j, x = V.str i ∧ y = V.str j ∧ i.length + j.length ≤ sizeLine ∧ Q (V.str (i ++ j)) H
abbrev rJoin (K : PySem.W.Frag) : V → List V → Hp → VK → Prop := fun x xs H Q => ∃ (a : Str) (p : Addr) (ys : List Str), x = V.str a ∧ xs = [V.ref p] ∧ (SqL K H p (ys.map V.str) ∨ SqT K H p (ys.map V.str)) ∧ (ys.map (fun x => x.length)).sum + ys.length * a.length ≤ 16777216 ∧ Q (V.str (Txt.join a ys)) H
theorem told_len {z : Str} {r : Option (Nat × Str)} (h : toldM z = some r) : z.length ≤ 9000 := by
  unfold toldM at h
  by_cases c : (decide (z.length ≤ 9000) && decide ((Txt.split z "\n").length ≤ 1000)) = true
  · rw [Bool.and_eq_true] at c
    exact of_decide_eq_true c.1
  · rw [if_neg c] at h
    cases h
section
variable {K : PySem.W.Frag} {A : Ad} {σ : L2.St} {H : Hp} {i : Nat} {L : Addr} {ys : List Str}
theorem mk_tjoin (h : H L = some (.lst (ys.map V.str))) (hi : σ[i]? = some (some (.ref L))) (ok : okLines ys = true) : MkT A (tM1 (rJoin K) (tC (.str "\n")) (tVar i)) σ H (Txt.join "\n" ys) := fun H' Q e k => by
  unfold okLines at ok
  simp only [Bool.and_eq_true] at ok
  have h3 := of_decide_eq_true ok.1.2
  refine ⟨⟨_, rfl⟩, _, hi, "\n", L, ys, rfl, rfl, .inl (SqL.of (e.keep _ _ (by simp) rfl h)), ?_, k H' (Ev.refl e.tb)⟩
  have e1 : ("\n" : Str).length = 1 := by decide +kernel
  rw [e1, Nat.mul_one]
  exact Nat.le_trans h3 (by decide)
theorem mk_tc {z : Str} : MkT A (tC (.str z)) σ H z := fun H' Q e k => k H' (Ev.refl e.tb)
theorem mk_tadd {te : TE} {z y : Str} (h : MkT A te σ H z) (l : (z ++ y).length ≤ 9000) : MkT A (tOp rAddS te (tC (.str y))) σ H (z ++ y) := fun H' Q e k =>
  h H' _ e fun H2 e2 => ⟨z, y, rfl, rfl, le_line (by rw [← slen]; exact l), k H2 e2⟩
theorem mk_d0 : MkD A (tTup tNil) σ H none := fun H' Q e k => ⟨Nat.zero_le _, fun p hp => k _ p (Ev.new e.tb hp) upd_same⟩
theorem mk_d1 {n : Int} {m : Nat} {z : Str} (hn : n = (m : Nat)) : MkD A (tTup (tCons (tC (.int n)) (tCons (tC (.str z)) tNil))) σ H (some (m, z)) := fun H' Q e k => by
  subst hn
  exact ⟨le_line (show 2 ≤ 9000 by decide), fun p hp => k _ p (Ev.new e.tb hp) upd_same⟩
theorem mk_d2 {m : Nat} {z : Str} (hi : σ[i]? = some (some (.int (m : Nat)))) : MkD A (tTup (tCons (tOp (rI0 fun i j => V.int (i + j)) (tVar i) (tC (.int 1))) (tCons (tC (.str z)) tNil))) σ H (some (m + 1, z)) := fun H' Q e k =>
  ⟨_, hi, (m : Int), 1, rfl, rfl, le_line (show 2 ≤ 9000 by decide), fun p hp => k _ p (Ev.new e.tb hp) upd_same⟩
theorem mk_dv {d : Addr} {r : Option (Nat × Str)} (h : H d = some (.tup (toldV r))) (hi : σ[i]? = some (some (.ref d))) : MkD A (tVar i) σ H r := fun H' Q e k => ⟨_, hi, k H' d (Ev.refl e.tb) (e.keep _ _ (by simp) rfl h)⟩
def dOf : Option (Nat × Str) → PyData
  | none => .tuple []
  | some nr => .tuple [.int (nr.1 : Nat), .str nr.2]
theorem dp_of {t : Addr} {r : Option (Nat × Str)} (h : H t = some (.tup (toldV r))) : Dp K H (.ref t) (dOf r) := by
  cases r with
  | none => exact .tup (SqT.of h) .nil
  | some nr => exact .tup (SqT.of h) (.cons (.int _) (.cons (.str _) .nil))
def rOk : Option (Nat × Str) → Bool
  | none => true
  | some nr => PyData.strOk nr.2
theorem dOf_shaped {r : Option (Nat × Str)} (h : rOk r = true) : SeqAt.shaped (dOf r) = true := by
  cases r with
  | none => simp [dOf, SeqAt.shaped, PyData.canLay0, PyData.canLayAll0, PyData.depth, PyData.depthAll]
  | some nr =>
    have h : PyData.strOk nr.2 = true := h
    simp [dOf, SeqAt.shaped, PyData.canLay0, PyData.canLayAll0, PyData.depth, PyData.depthAll, h]
theorem dOf_can {r : Option (Nat × Str)} (h : rOk r = true) : (dOf r).canLay0 = true := by
  cases r with
  | none => simp [dOf, PyData.canLay0, PyData.canLayAll0]
  | some nr =>
    have h : PyData.strOk nr.2 = true := h
    simp [dOf, PyData.canLay0, PyData.canLayAll0, h]
theorem cmp_told {te td : TE} {z : Str} {r : Option (Nat × Str)} {E : XK} {Qb : Bool → Hp → Prop} {H' : Hp} (ht : MkT A te σ H z) (h : toldM z = some r) (hd : MkD A td σ H r) (hz : rOk r = true) (e : Ev A [] H H') (q : ∀ H2, Ev A [] H' H2 → Qb false H2) :
    tTest (tOp (rNeD K) (tF (spTold A) E (tCons te tNil)) td) σ H' Qb := by
  refine ht H' _ e fun H2 e2 => ?_
  refine ⟨z, r, rfl, e2.tb, h, fun H3 t e3 h3 => ?_⟩
  refine hd H3 _ ((e.trans e2).trans e3) fun H4 u e4 h4 => ?_
  refine ⟨dOf r, dOf r, dp_of (e4.keep _ _ (by simp) rfl h3), dp_of h4, dOf_shaped hz, dOf_shaped hz, false, ?_, q H4 ((e2.trans e3).trans e4)⟩
  rw [SeqAt.eqv_refl _ (dOf_can hz)]
  rfl
end

/-! ### parts of lists, rows of data -/
theorem cut_to (xs : List V) (n : Nat) : cutV xs none (some (n : Int)) = xs.take n := by
  unfold cutV
  rw [HT.sIx_nat, HT.sIx_none, Nat.sub_zero, List.drop_zero]
  by_cases h : n ≤ xs.length
  · rw [Nat.min_eq_left h]
  · have h : xs.length ≤ n := by omega
    rw [Nat.min_eq_right h, List.take_length, List.take_of_length_le h]
theorem cut_from (xs : List V) (n : Nat) : cutV xs (some (n : Int)) none = xs.drop n := by
  unfold cutV
  rw [HT.sIx_nat, HT.sIx_none]
  by_cases h : n ≤ xs.length
  · rw [Nat.min_eq_left h, ← List.length_drop, List.take_length]
  · have h : xs.length ≤ n := by omega
    rw [Nat.min_eq_right h, Nat.sub_self, List.take_zero, List.drop_eq_nil_of_le h]
/-- an expression of a number -/
def MkN (te : TE) (σ : L2.St) (n : Int) : Prop := ∀ (H' : Hp) (Q : VK), Q (.int n) H' → te σ H' Q
section
variable {K : PySem.W.Frag} {A : Ad} {σ : L2.St} {H : Hp} {i : Nat} {L : Addr} {ys : List Str} {tn : TE} {n : Nat}
theorem mkn_c {n : Int} : MkN (tC (.int n)) σ n := fun _ _ q => q
theorem mkn_v {n : Int} (hi : σ[i]? = some (some (.int n))) : MkN (tVar i) σ n := fun _ _ q => ⟨_, hi, q⟩
theorem mkn_s {n : Nat} (hi : σ[i]? = some (some (.int (n : Nat)))) : MkN (tOp (rI0 fun i j => V.int (i + j)) (tVar i) (tC (.int 1))) σ ((n + 1 : Nat) : Int) := fun _ _ q => ⟨_, hi, (n : Int), 1, rfl, rfl, q⟩
theorem mk_to {m : Int} (h : H L = some (.lst (ys.map V.str))) (hi : σ[i]? = some (some (.ref L))) (hn : MkN tn σ m) (hm : m = (n : Nat)) : MkL A (tSl (rSlL K) (tVar i) tNoPart (tPart tn)) σ H (ys.take n) := fun H' Q e k => by
  subst hm
  refine ⟨_, hi, hn _ _ ⟨_, rfl, L, _, rfl, SqL.of (e.keep _ _ (by simp) rfl h), fun p hp => k _ p (Ev.new e.tb hp) ?_⟩⟩
  rw [upd_same, cut_to, List.map_take]
theorem mk_from {m : Int} (h : H L = some (.lst (ys.map V.str))) (hi : σ[i]? = some (some (.ref L))) (hn : MkN tn σ m) (hm : m = (n : Nat)) : MkL A (tSl (rSlL K) (tVar i) (tPart tn) tNoPart) σ H (ys.drop n) := fun H' Q e k => by
  subst hm
  refine ⟨_, hi, hn _ _ ⟨_, rfl, L, _, rfl, SqL.of (e.keep _ _ (by simp) rfl h), fun p hp => k _ p (Ev.new e.tb hp) ?_⟩⟩
  rw [upd_same, cut_from, List.map_drop]
theorem mk_one {z : Str} (hi : σ[i]? = some (some (.str z))) : MkL A (tLst (tCons (tVar i) tNil)) σ H [z] := fun H' Q e k =>
  ⟨_, hi, le_line (show 1 ≤ 9000 by decide), fun p hp => k _ p (Ev.new e.tb hp) upd_same⟩
def RowAt (H : Hp) (a : Addr) (r : List Str × Option (Nat × Str)) : Prop := ∃ (l d : Addr), H a = some (.lst [.ref l, .ref d]) ∧ H l = some (.lst (r.1.map V.str)) ∧ H d = some (.tup (toldV r.2))
theorem RowAt.keep {H1 : Hp} {a : Addr} {r : List Str × Option (Nat × Str)} (h : RowAt H a r) (e : Ev A [] H H1) : RowAt H1 a r := by
  obtain ⟨l, d, h1, h2, h3⟩ := h
  exact ⟨l, d, e.keep _ _ (by simp) rfl h1, e.keep _ _ (by simp) rfl h2, e.keep _ _ (by simp) rfl h3⟩
def MkR (A : Ad) (te : TE) (σ : L2.St) (H : Hp) (r : List Str × Option (Nat × Str)) : Prop := ∀ (H' : Hp) (Q : VK), Ev A [] H H' → (∀ (H2 : Hp) (G : Addr), Ev A [] H' H2 → RowAt H2 G r → Q (.ref G) H2) → te σ H' Q
def RowsAt (H : Hp) (G : Addr) (rs : List (List Str × Option (Nat × Str))) : Prop := ∃ as : List Addr, H G = some (.lst (as.map V.ref)) ∧ All2 (RowAt H) as rs
def MkW (A : Ad) (te : TE) (σ : L2.St) (H : Hp) (rs : List (List Str × Option (Nat × Str))) : Prop := ∀ (H' : Hp) (Q : VK), Ev A [] H H' → (∀ (H2 : Hp) (G : Addr), Ev A [] H' H2 → RowsAt H2 G rs → Q (.ref G) H2) → te σ H' Q
theorem RowsAt.keep {H1 : Hp} {a : Addr} {rs : List (List Str × Option (Nat × Str))} (h : RowsAt H a rs) (e : Ev A [] H H1) : RowsAt H1 a rs := by
  obtain ⟨as, h1, h2⟩ := h
  exact ⟨as, e.keep _ _ (by simp) rfl h1, h2.mono fun _ _ h => h.keep e⟩
theorem mk_row {tl td : TE} {r : Option (Nat × Str)} (h1 : MkL A tl σ H ys) (h2 : MkD A td σ H r) : MkR A (tLst (tCons tl (tCons td tNil))) σ H (ys, r) := fun H' Q e k =>
  h1 H' _ e fun H2 G e2 hG => h2 H2 _ (e.trans e2) fun H3 t e3 ht => ⟨le_line (show 2 ≤ 9000 by decide), fun p hp =>
    have e4 : Ev A [] H3 (upd H3 p (.lst [.ref G, .ref t])) := Ev.new e3.tb hp
    k _ p ((e2.trans e3).trans e4) ⟨G, t, upd_same, (e3.trans e4).keep _ _ (by simp) rfl hG, e4.keep _ _ (by simp) rfl ht⟩⟩
theorem mk_w1 {t1 : TE} {r1 : List Str × Option (Nat × Str)} (h1 : MkR A t1 σ H r1) : MkW A (tLst (tCons t1 tNil)) σ H [r1] := fun H' Q e k =>
  h1 H' _ e fun H2 G e2 hG => ⟨le_line (show 1 ≤ 9000 by decide), fun p hp =>
    have e4 : Ev A [] H2 (upd H2 p (.lst [.ref G])) := Ev.new e2.tb hp
    k _ p (e2.trans e4) ⟨[G], upd_same, .cons (hG.keep e4) .nil⟩⟩
theorem mk_w2 {t1 t2 : TE} {r1 r2 : List Str × Option (Nat × Str)} (h1 : MkR A t1 σ H r1) (h2 : MkR A t2 σ H r2) : MkW A (tLst (tCons t1 (tCons t2 tNil))) σ H [r1, r2] := fun H' Q e k =>
  h1 H' _ e fun H2 G e2 hG => h2 H2 _ (e.trans e2) fun H3 F e3 hF => ⟨le_line (show 2 ≤ 9000 by decide), fun p hp =>
    have e4 : Ev A [] H3 (upd H3 p (.lst [.ref G, .ref F])) := Ev.new e3.tb hp
    k _ p ((e2.trans e3).trans e4) ⟨[G, F], upd_same, .cons (hG.keep (e3.trans e4)) (.cons (hF.keep e4) .nil)⟩⟩
theorem mk_wcat {te : TE} {G0 : Addr} {rs ts : List (List Str × Option (Nat × Str))} (h : RowsAt H G0 rs) (hi : σ[i]? = some (some (.ref G0))) (h2 : MkW A te σ H ts) (l1 : rs.length ≤ 1000) (l2 : ts.length ≤ 1000) : MkW A (tOp rCat (tVar i) te) σ H (rs ++ ts) := fun H' Q e k =>
  ⟨_, hi, h2 H' _ e fun H2 G e2 ⟨bs, hb, hB⟩ => by
    obtain ⟨as, ha, hA⟩ := h.keep (e.trans e2)
    refine ⟨G0, G, _, _, rfl, rfl, ha, hb, le_line (by rw [List.length_map, List.length_map, hA.len, hB.len]; omega), fun p hp => ?_⟩
    have e4 : Ev A [] H2 (upd H2 p (.lst (as.map V.ref ++ bs.map V.ref))) := Ev.new e2.tb hp
    refine k _ p (e2.trans e4) ⟨as ++ bs, by rw [upd_same, List.map_append], ?_⟩
    have hA := hA.mono fun _ _ h => h.keep e4
    have hB := hB.mono fun _ _ h => h.keep e4
    exact hA.app hB⟩
/-- [pre + x + post for x in [..]] -/
theorem mk_comp {pre post : Str} {j : Nat} {vs : List Nat} (hj : vs = [j]) (hl : j < σ.length) (l0 : ys.length ≤ 1000) (l1 : ∀ y ∈ ys, y.length ≤ 10) (l2 : pre.length ≤ 100) (l3 : post.length ≤ 100) :
    MkL A (tLc (iList K (tLst (tStrs ys))) (gName j) tYes (tOp rAddS (tOp rAddS (tC (.str pre)) (tVar j)) (tC (.str post))) vs) σ H (ys.map fun y => pre ++ y ++ post) := fun H' Q e k => by
  subst hj
  have hw : (wipe σ [j]).length = σ.length := by simp [wipe]
  refine strs_run ys _ ⟨le_line (by rw [List.length_map]; omega), fun f hf => ⟨f, rfl, ⟨_, SqL.of upd_same⟩, fun D hD => ?_⟩⟩
  have ef : Ev A [] H' (upd H' f (.lst (ys.map V.str))) := Ev.new e.tb hf
  refine lc_list (xs := ys.map V.str) (fun i H2 => Ev A [] (upd H' f (.lst (ys.map V.str))) H2 ∧ H2 D = some (.lst (((ys.take i).map fun y => pre ++ y ++ post).map V.str)) ∧ i ≤ ys.length) ⟨Ev.new ef.tb hD, upd_same, Nat.zero_le _⟩ (fun i H2 _ p => SqL.of (p.1.keep _ _ (by simp) rfl upd_same)) ?_ ?_
  · rintro i x H2 hi ⟨ev, hD2, hle⟩
    rw [List.getElem?_map] at hi
    cases ez : ys[i]? with
    | none => rw [ez] at hi; cases hi
    | some y =>
    rw [ez] at hi
    cases hi
    obtain ⟨hi2, ey⟩ := List.getElem?_eq_some_iff.mp ez
    have hy : y.length ≤ 10 := l1 y (ey ▸ List.getElem_mem hi2)
    refine ⟨by simp [wipe], ?_⟩
    unfold tYes
    dsimp only
    rw [if_pos rfl]
    refine ⟨_, by rw [List.getElem?_set_self (by rw [hw]; exact hl)], pre, y, rfl, rfl, le_line (by omega), _, post, rfl, rfl, le_line (by rw [slen]; omega), _, hD2, lt_line (by rw [List.length_map, List.length_map, List.length_take]; omega), ?_⟩
    refine ⟨?_, ?_, by omega⟩
    · exact (ev.wide.trans (Ev.chg (ch := [D]) ev.tb hD2 rfl (by simp))).newer fun b hb _ => by rw [List.mem_singleton.mp hb]; exact hD
    · rw [upd_same, List.take_succ, ez]
      simp
  · rintro H2 ⟨ev, hD2, _⟩
    rw [List.length_map, List.take_length] at hD2
    exact k H2 D (ef.trans ev) hD2
end
/-! ### what the box's turns leave -/
theorem box_str {H : Hp} {b D G : Addr} {n : Nat} {ys : List Str} (h : BoxAt H b D n) (g : H G = some (.lst (ys.map V.str))) : G ∉ [b] := fun z => by
  rw [List.mem_singleton.mp z, h] at g
  simp only [Option.some.injEq, HO.lst.injEq] at g
  cases ys <;> cases g
theorem box_int {H : Hp} {b D G : Addr} {n : Nat} {ys : List Int} (h : BoxAt H b D n) (g : H G = some (.lst (ys.map V.int))) : G ∉ [b] := fun z => by
  rw [List.mem_singleton.mp z, h] at g
  simp only [Option.some.injEq, HO.lst.injEq] at g
  cases ys <;> cases g
theorem box_ref {H : Hp} {b D G : Addr} {n : Nat} {ys : List Addr} (h : BoxAt H b D n) (g : H G = some (.lst (ys.map V.ref))) : G ∉ [b] := fun z => by
  rw [List.mem_singleton.mp z, h] at g
  simp only [Option.some.injEq, HO.lst.injEq] at g
  rcases ys with _ | ⟨y, _ | ⟨y2, r⟩⟩ <;> cases g
theorem box_tup {H : Hp} {b D G : Addr} {n : Nat} {xs : List V} (h : BoxAt H b D n) (g : H G = some (.tup xs)) : G ∉ [b] := fun z => by
  rw [List.mem_singleton.mp z, h] at g
  cases g
theorem RowsAt.box {A : Ad} {H H1 : Hp} {b D G : Addr} {n : Nat} {rs : List (List Str × Option (Nat × Str))} (h : BoxAt H b D n) (r : RowsAt H G rs) (e : Ev A [b] H H1) : RowsAt H1 G rs := by
  obtain ⟨as, h1, h2⟩ := r
  refine ⟨as, e.keep _ _ (box_ref h h1) rfl h1, h2.mono fun a r h3 => ?_⟩
  obtain ⟨l, d, q1, q2, q3⟩ := h3
  exact ⟨l, d, e.keep _ _ (box_ref (ys := [l, d]) h q1) rfl q1, e.keep _ _ (box_str h q2) rfl q2, e.keep _ _ (box_tup h q3) rfl q3⟩

section
variable {c : TT} {t u rest : TS} {D : Ends} {σ : L2.St} {H : Hp} {i : Nat} {x : V} {tu : TT} {Qb : Bool → Hp → Prop}
theorem seq_if (h : c σ H fun b H1 => if b = true then t { D with nx := rest D } σ H1 else u { D with nx := rest D } σ H1) : tSeq (tIfS c t u) rest D σ H := h
theorem one_if (h : c σ H fun b H1 => if b = true then t D σ H1 else u D σ H1) : tIfS c t u D σ H := h
theorem name_if (h : c (σ.set i (some x)) H fun b H1 => if b = true then t D (σ.set i (some x)) H1 else u D (σ.set i (some x)) H1) : gName i x σ H fun σ2 H2 => tIfS c t u D σ2 H2 := h
theorem or_test (h : c σ H fun b H1 => if b = true then Qb true H1 else tu σ H1 Qb) : tOr c tu σ H Qb := h
end
abbrev ForR (J : It) (g : TG) (tb : TS) (D : Ends) (σ : L2.St) (H : Hp) : Prop := ∃ W : Nat → Nat → L2.St → Hp → Prop, (∃ m, W 0 m σ H) ∧ ∀ i m σ H, W i m σ H →
  (J.stop i H ∧ D.nx σ H) ∨ (J.go i H ∧ ∃ N : L2.St → Hp → Prop, (∀ σ' H', N σ' H' → ∃ m', m' < m ∧ W (i + 1) m' σ' H') ∧ ∀ x H', J.yld i H x H' → g x σ H' fun σ2 H2 => tb { D with nx := N, ct := N, bk := D.nx } σ2 H2)
theorem for_disp2 {K : PySem.W.Frag} {e1 e2 : TE} {g : TG} {tb : TS} {D : Ends} {σ : L2.St} {H : Hp} {i : Nat} {v : V}
    (h : e1 (σ.set i (some v)) H fun x H1 => e2 (σ.set i (some v)) H1 fun y H2 => ([x, y] : List V).length ≤ sizeLine ∧ ∀ p, H2 p = none → ∃ a, V.ref p = .ref a ∧ (∃ xs, SqL K (upd H2 p (.lst [x, y])) a xs) ∧ ForR (Itl K a) g tb D (σ.set i (some v)) (upd H2 p (.lst [x, y]))) :
    gName i v σ H (tFor (iList K (tLst (tCons e1 (tCons e2 tNil)))) g tb D) := h
theorem lw_take (m : Nat) : (lawLines.take m).length ≤ 1000 := Nat.le_trans (List.length_take_le' m lawLines) (by decide)
theorem lw_drop (m : Nat) : (lawLines.drop m).length ≤ 1000 := by
  rw [List.length_drop]
  exact Nat.le_trans (Nat.sub_le _ _) (by decide)
theorem lw_take1 (m : Nat) (z : Str) : (lawLines.take m ++ [z]).length ≤ 1000 := by
  rw [List.length_append]
  have : (lawLines.take m).length ≤ 5 := List.length_take_le' m lawLines
  show _ + 1 ≤ _
  omega
theorem fact_rok : (lawRows.all fun r => rOk r.2) = true := by decide +kernel
theorem ok_law (T : Tx P K mg A) (T1 : TabB base mg A.c1 A.P1) (T2 : TabB base mg A.c2 A.P2) {fd : FuncData} (DL : Fun K "law" "law" sLaw A.fLaw fd) : FnOk P w K mg base (L2.CX P w) 9 A.fLaw fd ["_law_script"] (spLaw K A) := by
  refine DL.okX scLaw (fun vs H Q E h => ?_) (fun cdv Ar outer s0 H vs Q E hr h => ?_)
  · obtain ⟨a, ns, rfl, _⟩ := h
    rfl
  · obtain ⟨a, ns, rfl, tb, hs, k⟩ := h
    have hx := pas (takes_of (X := cxOf (L2.CX P w) P w K mg base nLaw "law" (defScope sLaw) A.fLaw cdv Ar outer s0 H E) rfl rfl rfl rfl)
    refine ⟨_, (pss_cons (ps_set (i := 1) scLaw.nd rfl (.inl rfl) (pe_lst (pa_cons (pe_f (ok_digits T) hr (by decide) T.gDigitsF hx (pa_cons (pv 0) (pa_cons pe_int (pa_cons pe_int pa_nil)))) (pa_cons pe_int pa_nil))))
      (pss_cons (ps_set (i := 2) scLaw.nd rfl (.inl rfl) (pe_lst (pa_cons pe_str (pa_cons pe_str (pa_cons pe_str (pa_cons pe_str (pa_cons pe_str pa_nil)))))))
      (pss_cons (ps_if (PW.pt (pw_or (pt_cmpR (op_neD hr.units) (pe_f (ok_told T T1 T2) hr (by decide) T.gTold hx (pa_cons (pe_join pe_str (pv 2)) pa_nil)) (pe_tup pa_nil) (nomark _)) (pw_or (pt_cmpR (op_neD hr.units) (pe_f (ok_told T T1 T2) hr (by decide) T.gTold hx (pa_cons pe_str pa_nil)) (pe_tup (pa_cons pe_int (pa_cons pe_str pa_nil))) (nomark _)) (pw_or1 (pt_cmpR (op_neD hr.units) (pe_f (ok_told T T1 T2) hr (by decide) T.gTold hx (pa_cons (pe_op op_add_str (pe_join pe_str (pv 2)) pe_str) pa_nil)) (pe_tup (pa_cons pe_int (pa_cons pe_str pa_nil))) (nomark _)))))) (pss_one (ps_ret pe_bl)) pss_nil)
      (pss_cons (ps_for (passes_of rfl) rfl (pi_range1 rfl T.bRange (pa_cons pe_int pa_nil)) (pg_name (i := 3) scLaw.nd rfl (.inl rfl)) (pss_cons (ps_set (i := 4) scLaw.nd rfl (.inl rfl) (pe_op op_add pe_int (pe_f (ok_draw T) hr (by decide) T.gDraw hx (pa_cons (pv 1) (pa_cons pe_int pa_nil))))) (pss_cons (ps_set (i := 5) scLaw.nd rfl (.inl rfl) (pe_ix ix_list (pe_f0 (ok_wrong T) hr (by decide) T.gWrong hx) (pe_op op_mod (pe_callTy call_int1 (by rfl) T.bInt (by decide +kernel) (pa_cons (pe_f (ok_draw T) hr (by decide) T.gDraw hx (pa_cons (pv 1) (pa_cons pe_int pa_nil))) pa_nil)) (pe_callB call_len_seq (by rfl) T.bLen PySem.boot_len (pa_cons (pe_f0 (ok_wrong T) hr (by decide) T.gWrong hx) pa_nil))) (fun _ _ => rfl))) (pss_one (ps_for (passes_of rfl) rfl (pi_list (pe_lst (pa_cons (pe_op op_cat (pe_op op_cat (pe_slice sl_list (pv 2) po_none (po_some (pv 4))) (pe_lst (pa_cons (pv 5) pa_nil))) (pe_slice sl_list (pv 2) (po_some (pe_op op_add (pv 4) pe_int)) po_none)) (pa_cons (pe_op op_cat (pe_op op_cat (pe_slice sl_list (pv 2) po_none (po_some (pv 4))) (pe_lst (pa_cons (pv 5) pa_nil))) (pe_slice sl_list (pv 2) (po_some (pv 4)) po_none)) pa_nil)))) (pg_name (i := 6) scLaw.nd rfl (.inl rfl)) (pss_one (ps_if (pt_cmpR (op_neD hr.units) (pe_f (ok_told T T1 T2) hr (by decide) T.gTold hx (pa_cons (pe_join pe_str (pv 6)) pa_nil)) (pe_tup (pa_cons (pe_op op_add (pv 4) pe_int) (pa_cons pe_str pa_nil))) (nomark _)) (pss_one (ps_ret pe_bl)) pss_nil)))))))
      (pss_cons (ps_set (i := 6) scLaw.nd rfl (.inl rfl) (pe_lst (pa_cons (pe_lst (pa_cons (pe_op op_cat (pe_slice sl_list (pv 2) po_none (po_some pe_int)) (pe_lst (pa_cons pe_str pa_nil))) (pa_cons (pe_tup (pa_cons pe_int (pa_cons pe_str pa_nil))) pa_nil))) (pa_cons (pe_lst (pa_cons (pe_op op_cat (pe_op op_cat (pe_slice sl_list (pv 2) po_none (po_some pe_int)) (pe_lst (pa_cons pe_str pa_nil))) (pe_slice sl_list (pv 2) (po_some pe_int) po_none)) (pa_cons (pe_tup (pa_cons pe_int (pa_cons pe_str pa_nil))) pa_nil))) pa_nil))))
      (pss_cons (ps_set (i := 6) scLaw.nd rfl (.inl rfl) (pe_op op_cat (pv 6) (pe_lst (pa_cons (pe_lst (pa_cons (pe_op op_cat (pe_op op_cat (pe_slice sl_list (pv 2) po_none (po_some pe_int)) (pe_lst (pa_cons pe_str pa_nil))) (pe_slice sl_list (pv 2) (po_some pe_int) po_none)) (pa_cons (pe_tup (pa_cons pe_int (pa_cons pe_str pa_nil))) pa_nil))) (pa_cons (pe_lst (pa_cons (pe_op op_cat (pe_slice sl_list (pv 2) po_none (po_some pe_int)) (pe_lst (pa_cons pe_str pa_nil))) (pa_cons (pe_tup (pa_cons pe_int (pa_cons pe_str pa_nil))) pa_nil))) pa_nil)))))
      (pss_cons (ps_set (i := 6) scLaw.nd rfl (.inl rfl) (pe_op op_cat (pv 6) (pe_lst (pa_cons (pe_lst (pa_cons (pe_op op_cat (pe_op op_cat (pe_slice sl_list (pv 2) po_none (po_some pe_int)) (pe_lst (pa_cons pe_str pa_nil))) (pe_slice sl_list (pv 2) (po_some pe_int) po_none)) (pa_cons (pe_tup (pa_cons pe_int (pa_cons pe_str pa_nil))) pa_nil))) (pa_cons (pe_lst (pa_cons (pe_op op_cat (pv 2) (pe_lst (pa_cons pe_str pa_nil))) (pa_cons (pe_tup (pa_cons pe_int (pa_cons pe_str pa_nil))) pa_nil))) pa_nil)))))
      (pss_cons (ps_set (i := 7) scLaw.nd rfl (.inl rfl) (pe_lst (pa_cons pe_str (pa_cons pe_str (pa_cons pe_str (pa_cons pe_str pa_nil))))))
      (pss_cons (ps_set (i := 6) scLaw.nd rfl (.inl rfl) (pe_op op_cat (pv 6) (pe_lst (pa_cons (pe_lst (pa_cons (pe_op op_cat (pv 7) (pe_lst (pa_cons pe_str pa_nil))) (pa_cons (pe_tup (pa_cons pe_int (pa_cons pe_str pa_nil))) pa_nil))) (pa_cons (pe_lst (pa_cons (pe_op op_cat (pv 7) (pe_lc (own := [("_law_name", 10)]) (g := gName 10) (tt := tYes) rfl scLaw.nd (pi_list (pe_lst (pa_cons pe_str (pa_cons pe_str (pa_cons pe_str (pa_cons pe_str (pa_cons pe_str pa_nil))))))) (blkOk_by (own := [("_law_name", 10)]) (N := nLaw) (sc := defScope sLaw) (by decide +kernel)) (fun _ _ _ _ _ => pg_name (i := 10) scLaw.nd rfl (.inl rfl)) (fun _ _ _ _ _ => pts_nil) (fun _ _ _ _ _ => pe_op op_add_str (pe_op op_add_str pe_str (pv 10)) pe_str))) (pa_cons (pe_tup (pa_cons pe_int (pa_cons pe_str pa_nil))) pa_nil))) pa_nil)))))
      (pss_cons (ps_set (i := 6) scLaw.nd rfl (.inl rfl) (pe_op op_cat (pv 6) (pe_lst (pa_cons (pe_lst (pa_cons (pe_lst (pa_cons pe_str (pa_cons pe_str pa_nil))) (pa_cons (pe_tup (pa_cons pe_int (pa_cons pe_str pa_nil))) pa_nil))) (pa_cons (pe_lst (pa_cons (pe_lst (pa_cons pe_str (pa_cons pe_str pa_nil))) (pa_cons (pe_tup (pa_cons pe_int (pa_cons pe_str pa_nil))) pa_nil))) pa_nil)))))
      (pss_cons (ps_set (i := 6) scLaw.nd rfl (.inl rfl) (pe_op op_cat (pv 6) (pe_lst (pa_cons (pe_lst (pa_cons (pe_lst (pa_cons pe_str (pa_cons pe_str pa_nil))) (pa_cons (pe_tup (pa_cons pe_int (pa_cons pe_str pa_nil))) pa_nil))) pa_nil))))
      (pss_cons (ps_set (i := 6) scLaw.nd rfl (.inl rfl) (pe_op op_cat (pv 6) (pe_lst (pa_cons (pe_lst (pa_cons (pe_lst (pa_cons pe_str (pa_cons pe_str (pa_cons pe_str pa_nil)))) (pa_cons (pe_tup (pa_cons pe_int (pa_cons pe_str pa_nil))) pa_nil))) pa_nil))))
      (pss_cons (ps_set (i := 6) scLaw.nd rfl (.inl rfl) (pe_op op_cat (pv 6) (pe_lst (pa_cons (pe_lst (pa_cons (pe_lst (pa_cons pe_str (pa_cons pe_str pa_nil))) (pa_cons (pe_tup (pa_cons pe_int (pa_cons pe_str pa_nil))) pa_nil))) (pa_cons (pe_lst (pa_cons (pe_lst (pa_cons pe_str pa_nil)) (pa_cons (pe_tup (pa_cons pe_int (pa_cons pe_str pa_nil))) pa_nil))) pa_nil)))))
      (pss_cons (ps_set (i := 6) scLaw.nd rfl (.inl rfl) (pe_op op_cat (pv 6) (pe_lst (pa_cons (pe_lst (pa_cons (pe_lst (pa_cons pe_str (pa_cons pe_str pa_nil))) (pa_cons (pe_tup (pa_cons pe_int (pa_cons pe_str pa_nil))) pa_nil))) (pa_cons (pe_lst (pa_cons (pe_lst (pa_cons pe_str (pa_cons pe_str pa_nil))) (pa_cons (pe_tup (pa_cons pe_int (pa_cons pe_str pa_nil))) pa_nil))) pa_nil)))))
      (pss_cons (ps_set (i := 6) scLaw.nd rfl (.inl rfl) (pe_op op_cat (pv 6) (pe_lst (pa_cons (pe_lst (pa_cons (pe_lst (pa_cons pe_str pa_nil)) (pa_cons (pe_tup pa_nil) pa_nil))) (pa_cons (pe_lst (pa_cons (pe_op op_cat (pv 7) (pe_lc (own := [("_law_name", 10)]) (g := gName 10) (tt := tYes) rfl scLaw.nd (pi_list (pe_lst (pa_cons pe_str (pa_cons pe_str (pa_cons pe_str (pa_cons pe_str pa_nil)))))) (blkOk_by (own := [("_law_name", 10)]) (N := nLaw) (sc := defScope sLaw) (by decide +kernel)) (fun _ _ _ _ _ => pg_name (i := 10) scLaw.nd rfl (.inl rfl)) (fun _ _ _ _ _ => pts_nil) (fun _ _ _ _ _ => pe_op op_add_str (pe_op op_add_str pe_str (pv 10)) pe_str))) (pa_cons (pe_tup pa_nil) pa_nil))) pa_nil)))))
      (pss_cons (ps_for (passes_of rfl) rfl (pi_range1 rfl T.bRange (pa_cons pe_int pa_nil)) (pg_name (i := 3) scLaw.nd rfl (.inl rfl)) (pss_cons (ps_asg (pe_ix ix_list (pv 6) (pe_op op_mod (pe_callTy call_int1 (by rfl) T.bInt (by decide +kernel) (pa_cons (pe_f (ok_draw T) hr (by decide) T.gDraw hx (pa_cons (pv 1) (pa_cons pe_int pa_nil))) pa_nil)) (pe_callB call_len_seq (by rfl) T.bLen PySem.boot_len (pa_cons (pv 6) pa_nil))) (fun _ _ => rfl)) (pg_lst rfl (pgs_cons (pg_name (i := 8) scLaw.nd rfl (.inl rfl)) (pgs_cons (pg_name (i := 9) scLaw.nd rfl (.inl rfl)) pgs_nil)))) (pss_one (ps_if (pt_cmpR (op_neD hr.units) (pe_f (ok_told T T1 T2) hr (by decide) T.gTold hx (pa_cons (pe_join pe_str (pv 8)) pa_nil)) (pv 9) (nomark _)) (pss_one (ps_ret pe_bl)) pss_nil))))
      (pss_one (ps_ret pe_bl)))))))))))))))))), ?_⟩
    refine ⟨_, rfl, a, ns, rfl, tb, hs, fun H1 D ms e1 nD hD hlen => ⟨le_line (show 2 ≤ 9000 by decide), fun b hb => ?_⟩⟩
    have eb : Ev A [] H1 (upd H1 b (.lst [.ref D, .int 0])) := Ev.new e1.tb hb
    have hbox : BoxAt (upd H1 b (.lst [.ref D, .int 0])) b D 0 := upd_same
    have hD := eb.keep _ _ (by simp) rfl hD
    refine seq_set (mk_strs (A := A) lawLines (by decide) _ _ (Ev.refl eb.tb) fun H2 L e2 hL => ?_)
    have hbox : BoxAt H2 b D 0 := e2.keep _ _ (by simp) rfl hbox
    have hD := e2.keep _ _ (by simp) rfl hD
    refine seq_if (or_test (cmp_told (mk_tjoin hL rfl fact_ok0) fact_fix1 mk_d0 rfl (Ev.refl e2.tb) fun H3 e3 => iteF ?_))
    refine or_test (cmp_told mk_tc fact_fix2 (mk_d1 rfl) (by decide +kernel) (Ev.refl e3.tb) fun H4 e4 => iteF ?_)
    refine cmp_told (mk_tadd (mk_tjoin ((e3.trans e4).keep _ _ (by simp) rfl hL) rfl fact_ok0) (told_len fact_fix3)) fact_fix3 (mk_d1 rfl) (by decide +kernel) (Ev.refl e4.tb) fun H5 e5 => iteF ?_
    have e35 := (e3.trans e4).trans e5
    have hL := e35.keep _ _ (by simp) rfl hL
    have hD := e35.keep _ _ (by simp) rfl hD
    have hbox : BoxAt H5 b D 0 := e35.keep _ _ (by simp) rfl hbox
    refine ⟨6, rfl, by decide, by decide, ?_⟩
    refine for_it walk_range (fun i σ H' => (∃ u3 u4 u5 u6, σ = [some (.ref a), some (.ref b), some (.ref L), u3, u4, u5, u6, none, none, none, none]) ∧ Ev A [b] H5 H' ∧ ∃ n, BoxAt H' b D n) ⟨⟨_, _, _, _, rfl⟩, Ev.refl e35.tb, 0, hbox⟩ (fun _ _ _ _ _ => trivial) ?_ ?_
    · rintro i x σ Ha Hb hi ⟨⟨u3, u4, u5, u6, rfl⟩, ea, n, hbx⟩ ⟨rfl, rfl⟩
      have hDa := ea.keep _ _ (box_int hbox hD) rfl hD
      refine ⟨_, rfl, b, D, n, 4, ms, rfl, ea.tb, hbx, hDa, by decide, fun Hc z ec hbc z0 z4 => ⟨1, z, rfl, rfl, ?_⟩⟩
      have ec := ea.trans ec
      have hDc := ec.keep _ _ (box_int hbox hD) rfl hD
      obtain ⟨m, hm, hm4⟩ : ∃ m : Nat, 1 + z = (m : Int) ∧ m ∈ [1, 2, 3, 4] := ⟨(1 + z).toNat, by omega, by
        have : (1 + z).toNat = 1 ∨ (1 + z).toNat = 2 ∨ (1 + z).toNat = 3 ∨ (1 + z).toNat = 4 := by omega
        simpa using this⟩
      show gName 4 (V.int (1 + z)) _ _ _
      rw [hm]
      refine ⟨rfl, ec.tb, fun Hd G ed hG => ?_⟩
      have hbd : BoxAt Hd b D (n + 1) := ed.keep _ _ (by simp) rfl hbc
      have hDd := ed.keep _ _ (by simp) rfl hDc
      refine ⟨_, rfl, b, D, n + 1, 900, ms, rfl, ed.tb, hbd, hDd, by decide, fun He z2 ee hbe z20 z29 => .inl ⟨_, rfl, rfl, ee.tb, fun Hf G2 ef hG2 => ⟨G2, _, rfl, .inl (SqL.of hG2), z2, _, rfl, rfl, by show (0 : Int) < ((lawWrongs.map V.str).length : Nat); decide +kernel, ?_⟩⟩⟩
      have hGf := ef.keep _ _ (by simp) rfl (ee.keep _ _ (box_str hbd hG) rfl hG)
      have el : ((lawWrongs.map V.str).length : Int) = 37 := by decide +kernel
      have el2 : lawWrongs.length = 37 := by decide +kernel
      obtain ⟨j, hj, hj37⟩ : ∃ j : Nat, z2 % ((lawWrongs.map V.str).length : Int) = (j : Int) ∧ j < lawWrongs.length := ⟨(z2 % 37).toNat, by rw [el]; omega, by rw [el2]; omega⟩
      have hz : lawWrongs[j] ∈ lawWrongs := List.getElem_mem hj37
      refine ⟨G, _, z2 % ((lawWrongs.map V.str).length : Int), .str lawWrongs[j], rfl, rfl, SqL.of hGf, by rw [hj]; exact atI_nat (j := j) (by simp [hj37]), ?_⟩
      generalize lawWrongs[j] = wz at hz
      have ef5 : Ev A [b] H5 Hf := ((ec.trans ed.wide).trans ee).trans ef.wide
      have hLf := ef5.keep _ _ (box_str hbox hL) rfl hL
      have hbf : BoxAt Hf b D (n + 1 + 1) := ef.keep _ _ (by simp) rfl hbe
      refine for_disp2 (mk_cat (A := A) (mk_cat (mk_to hLf rfl (mkn_v (n := (m : Int)) rfl) rfl) (mk_one rfl) (lw_take m) (by show 1 ≤ 1000; decide)) (mk_from hLf rfl (mkn_s (n := m) rfl) rfl) (lw_take1 m wz) (lw_drop _) Hf _ (Ev.refl ef.tb) fun Hg G3 eg h3 => ?_)
      have hLg := eg.keep _ _ (by simp) rfl hLf
      refine mk_cat (A := A) (mk_cat (mk_to hLg rfl (mkn_v (n := (m : Int)) rfl) rfl) (mk_one rfl) (lw_take m) (by show 1 ≤ 1000; decide)) (mk_from hLg rfl (mkn_v (n := (m : Int)) rfl) rfl) (lw_take1 m wz) (lw_drop _) Hg _ (Ev.refl eg.tb) fun Hh G4 eh h4 => ?_
      refine ⟨le_line (show 2 ≤ 9000 by decide), fun p hp => ⟨p, rfl, ⟨_, SqL.of upd_same⟩, ?_⟩⟩
      have ei : Ev A [] Hh (upd Hh p (.lst [.ref G3, .ref G4])) := Ev.new eh.tb hp
      have h3 := (eh.trans ei).keep _ _ (by simp) rfl h3
      have h4 := ei.keep _ _ (by simp) rfl h4
      have egi := (eg.trans eh).trans ei
      refine for_it (walk_list (K := K) (xs := [.ref G3, .ref G4])) (fun j σ H' => (∃ u6, σ = [some (.ref a), some (.ref b), some (.ref L), some (.int (0 + (i : Nat))), some (.int (m : Nat)), some (.str wz), u6, none, none, none, none]) ∧ Ev A [] (upd Hh p (.lst [.ref G3, .ref G4])) H') ⟨⟨_, rfl⟩, Ev.refl ei.tb⟩
        (fun j σ H' _ q => SqL.of (q.2.keep _ _ (by simp) rfl upd_same)) ?_ ?_
      · rintro j x σ Hx Hy hj ⟨⟨u6, rfl⟩, ex⟩ ⟨rfl, hx⟩
        rcases j with _ | _ | j
        · cases hx
          refine name_if (cmp_told (mk_tjoin (ys := lawLines.take m ++ [wz] ++ lawLines.drop (m + 1)) (ex.keep _ _ (by simp) rfl h3) rfl (List.all_eq_true.mp (List.all_eq_true.mp fact_ok1 m hm4) wz hz)) (fact_wrong1 hm4 hz) (mk_d2 rfl) (by show PyData.strOk ("not a line" : Str) = true; decide +kernel) (Ev.refl ex.tb) fun H7 e7 => iteF ⟨⟨_, rfl⟩, ex.trans e7⟩)
        · cases hx
          refine name_if (cmp_told (mk_tjoin (ys := lawLines.take m ++ [wz] ++ lawLines.drop m) (ex.keep _ _ (by simp) rfl h4) rfl (List.all_eq_true.mp (List.all_eq_true.mp fact_ok2 m hm4) wz hz)) (fact_wrong2 hm4 hz) (mk_d2 rfl) (by show PyData.strOk ("not a line" : Str) = true; decide +kernel) (Ev.refl ex.tb) fun H7 e7 => iteF ⟨⟨_, rfl⟩, ex.trans e7⟩)
        · exact absurd hj (by show ¬ (j + 1 + 1 < 2); omega)
      · rintro σ Hx ⟨⟨u6, rfl⟩, ex⟩
        exact ⟨⟨_, _, _, _, rfl⟩, ef5.trans (egi.trans ex).wide, _, (egi.trans ex).keep _ _ (by simp) rfl hbf⟩
    · rintro σ K0 ⟨⟨u3, u4, u5, u6, rfl⟩, f0, nb, hb0⟩
      have hL0 := f0.keep _ _ (box_str hbox hL) rfl hL
      have hD0 := f0.keep _ _ (box_int hbox hD) rfl hD
      have f0 := Ev.refl (ch := []) f0.tb
      refine seq_set (mk_w2 (A := A) (mk_row (mk_cat (mk_to (n := 4) hL0 rfl mkn_c rfl) (mk_strs [("site weir flow 1 1" : Str)] (by decide)) (by decide) (by decide)) (mk_d1 (m := 5) (z := ("site behind a right" : Str)) rfl)) (mk_row (mk_cat (mk_cat (mk_to (n := 2) hL0 rfl mkn_c rfl) (mk_strs [("site up to mouth flow 1 1" : Str)] (by decide)) (by decide) (by decide)) (mk_from (n := 2) hL0 rfl mkn_c rfl) (by decide) (by decide)) (mk_d1 (m := 3) (z := ("name twice" : Str)) rfl)) K0 _ (Ev.refl f0.tb) fun K1 G1 f1 hR1 => ?_)
      have hL1 := f1.keep _ _ (by simp) rfl hL0
      have hD1 := f1.keep _ _ (by simp) rfl hD0
      have hb1 : BoxAt K1 b D nb := f1.keep _ _ (by simp) rfl hb0
      refine seq_set (mk_wcat (A := A) (rs := lawR1) (ts := lawR2) hR1 rfl (mk_w2 (mk_row (mk_cat (mk_cat (mk_to (n := 1) hL1 rfl mkn_c rfl) (mk_strs [("site dale to mouth room 3 held 4 flow 0 1" : Str)] (by decide)) (by decide) (by decide)) (mk_from (n := 2) hL1 rfl mkn_c rfl) (by decide) (by decide)) (mk_d1 (m := 2) (z := ("held above room" : Str)) rfl)) (mk_row (mk_cat (mk_to (n := 1) hL1 rfl mkn_c rfl) (mk_strs [("site dale to mouth held 1 flow 0 1" : Str)] (by decide)) (by decide) (by decide)) (mk_d1 (m := 2) (z := ("held above room" : Str)) rfl))) (by decide) (by decide) K1 _ (Ev.refl f1.tb) fun K2 G2 f2 hR2 => ?_)
      have hL2 := f2.keep _ _ (by simp) rfl hL1
      have hD2 := f2.keep _ _ (by simp) rfl hD1
      have hb2 : BoxAt K2 b D nb := f2.keep _ _ (by simp) rfl hb1
      refine seq_set (mk_wcat (A := A) (rs := (lawR1 ++ lawR2)) (ts := lawR3) hR2 rfl (mk_w2 (mk_row (mk_cat (mk_cat (mk_to (n := 3) hL2 rfl mkn_c rfl) (mk_strs [("right a at weir wants 1 1" : Str)] (by decide)) (by decide) (by decide)) (mk_from (n := 3) hL2 rfl mkn_c rfl) (by decide) (by decide)) (mk_d1 (m := 4) (z := ("no such site" : Str)) rfl)) (mk_row (mk_cat (mk_var hL2 rfl) (mk_strs [("right mill at up wants 1 1" : Str)] (by decide)) (by decide) (by decide)) (mk_d1 (m := 6) (z := ("name twice" : Str)) rfl))) (by decide) (by decide) K2 _ (Ev.refl f2.tb) fun K3 G3 f3 hR3 => ?_)
      have hL3 := f3.keep _ _ (by simp) rfl hL2
      have hD3 := f3.keep _ _ (by simp) rfl hD2
      have hb3 : BoxAt K3 b D nb := f3.keep _ _ (by simp) rfl hb2
      refine seq_set (mk_strs (A := A) lawFour (by decide) K3 _ (Ev.refl f3.tb) fun K4 F f4 hF4 => ?_)
      have hL4 := f4.keep _ _ (by simp) rfl hL3
      have hD4 := f4.keep _ _ (by simp) rfl hD3
      have hb4 : BoxAt K4 b D nb := f4.keep _ _ (by simp) rfl hb3
      have hR4 := hR3.keep f4
      refine seq_set (mk_wcat (A := A) (rs := ((lawR1 ++ lawR2) ++ lawR3)) (ts := lawR4) hR4 rfl (mk_w2 (mk_row (mk_cat (mk_var (ys := lawFour) hF4 rfl) (mk_strs [("site e flow 1" : Str)] (by decide)) (by decide) (by decide)) (mk_d1 (m := 5) (z := ("too many sites" : Str)) rfl)) (mk_row (mk_cat (mk_var (ys := lawFour) hF4 rfl) (mk_comp (ys := [("m" : Str), ("n" : Str), ("o" : Str), ("p" : Str), ("q" : Str)]) (pre := ("right " : Str)) (post := (" at a wants 1" : Str)) (j := 10) rfl (by show 10 < 11; decide) (by decide) (by decide +kernel) (by decide +kernel) (by decide +kernel)) (by decide) (by decide)) (mk_d1 (m := 9) (z := ("too many rights" : Str)) rfl))) (by decide) (by decide) K4 _ (Ev.refl f4.tb) fun K5 G5 f5 hR5 => ?_)
      have hL5 := f5.keep _ _ (by simp) rfl hL4
      have hD5 := f5.keep _ _ (by simp) rfl hD4
      have hb5 : BoxAt K5 b D nb := f5.keep _ _ (by simp) rfl hb4
      have hF5 := f5.keep _ _ (by simp) rfl hF4
      refine seq_set (mk_wcat (A := A) (rs := (((lawR1 ++ lawR2) ++ lawR3) ++ lawR4)) (ts := lawR5) hR5 rfl (mk_w2 (mk_row (mk_strs [("site a to b flow 1" : Str), ("site c flow 1" : Str)] (by decide)) (mk_d1 (m := 1) (z := ("next is not later" : Str)) rfl)) (mk_row (mk_strs [("site a flow 1" : Str), ("site b flow 1" : Str)] (by decide)) (mk_d1 (m := 1) (z := ("next is not later" : Str)) rfl))) (by decide) (by decide) K5 _ (Ev.refl f5.tb) fun K6 G6 f6 hR6 => ?_)
      have hL6 := f6.keep _ _ (by simp) rfl hL5
      have hD6 := f6.keep _ _ (by simp) rfl hD5
      have hb6 : BoxAt K6 b D nb := f6.keep _ _ (by simp) rfl hb5
      have hF6 := f6.keep _ _ (by simp) rfl hF5
      refine seq_set (mk_wcat (A := A) (rs := ((((lawR1 ++ lawR2) ++ lawR3) ++ lawR4) ++ lawR5)) (ts := lawR6) hR6 rfl (mk_w1 (mk_row (mk_strs [("site a to a flow 1" : Str), ("site b flow 1" : Str)] (by decide)) (mk_d1 (m := 1) (z := ("next is not later" : Str)) rfl))) (by decide) (by decide) K6 _ (Ev.refl f6.tb) fun K7 G7 f7 hR7 => ?_)
      have hL7 := f7.keep _ _ (by simp) rfl hL6
      have hD7 := f7.keep _ _ (by simp) rfl hD6
      have hb7 : BoxAt K7 b D nb := f7.keep _ _ (by simp) rfl hb6
      have hF7 := f7.keep _ _ (by simp) rfl hF6
      refine seq_set (mk_wcat (A := A) (rs := (((((lawR1 ++ lawR2) ++ lawR3) ++ lawR4) ++ lawR5) ++ lawR6)) (ts := lawR7) hR7 rfl (mk_w1 (mk_row (mk_strs [("site a to c flow 1" : Str), ("site b to a flow 1" : Str), ("site c flow 1" : Str)] (by decide)) (mk_d1 (m := 2) (z := ("next is not later" : Str)) rfl))) (by decide) (by decide) K7 _ (Ev.refl f7.tb) fun K8 G8 f8 hR8 => ?_)
      have hL8 := f8.keep _ _ (by simp) rfl hL7
      have hD8 := f8.keep _ _ (by simp) rfl hD7
      have hb8 : BoxAt K8 b D nb := f8.keep _ _ (by simp) rfl hb7
      have hF8 := f8.keep _ _ (by simp) rfl hF7
      refine seq_set (mk_wcat (A := A) (rs := ((((((lawR1 ++ lawR2) ++ lawR3) ++ lawR4) ++ lawR5) ++ lawR6) ++ lawR7)) (ts := lawR8) hR8 rfl (mk_w2 (mk_row (mk_strs [("site a to b flow 1" : Str), ("site b to a flow 1" : Str)] (by decide)) (mk_d1 (m := 2) (z := ("outlet leads on" : Str)) rfl)) (mk_row (mk_strs [("site a to b flow 1" : Str)] (by decide)) (mk_d1 (m := 1) (z := ("outlet leads on" : Str)) rfl))) (by decide) (by decide) K8 _ (Ev.refl f8.tb) fun K9 G9 f9 hR9 => ?_)
      have hL9 := f9.keep _ _ (by simp) rfl hL8
      have hD9 := f9.keep _ _ (by simp) rfl hD8
      have hb9 : BoxAt K9 b D nb := f9.keep _ _ (by simp) rfl hb8
      have hF9 := f9.keep _ _ (by simp) rfl hF8
      refine seq_set (mk_wcat (A := A) (rs := (((((((lawR1 ++ lawR2) ++ lawR3) ++ lawR4) ++ lawR5) ++ lawR6) ++ lawR7) ++ lawR8)) (ts := lawR9) hR9 rfl (mk_w2 (mk_row (mk_strs [("right a at b wants 1" : Str), ("site b flow 1" : Str)] (by decide)) (mk_d1 (m := 1) (z := ("not a line" : Str)) rfl)) (mk_row (mk_strs [("site a to b flow 1 1 1 1 1" : Str), ("site b flow 1" : Str)] (by decide)) (mk_d1 (m := 1) (z := ("not a line" : Str)) rfl))) (by decide) (by decide) K9 _ (Ev.refl f9.tb) fun K10 G10 f10 hR10 => ?_)
      have hL10 := f10.keep _ _ (by simp) rfl hL9
      have hD10 := f10.keep _ _ (by simp) rfl hD9
      have hb10 : BoxAt K10 b D nb := f10.keep _ _ (by simp) rfl hb9
      have hF10 := f10.keep _ _ (by simp) rfl hF9
      refine seq_set (mk_wcat (A := A) (rs := ((((((((lawR1 ++ lawR2) ++ lawR3) ++ lawR4) ++ lawR5) ++ lawR6) ++ lawR7) ++ lawR8) ++ lawR9)) (ts := lawR10) hR10 rfl (mk_w2 (mk_row (mk_strs [("site a flow 1 1 1 1" : Str)] (by decide)) mk_d0) (mk_row (mk_cat (mk_var (ys := lawFour) hF10 rfl) (mk_comp (ys := [("a" : Str), ("b" : Str), ("c" : Str), ("d" : Str)]) (pre := ("right " : Str)) (post := (" at b wants 0" : Str)) (j := 10) rfl (by show 10 < 11; decide) (by decide) (by decide +kernel) (by decide +kernel) (by decide +kernel)) (by decide) (by decide)) mk_d0)) (by decide) (by decide) K10 _ (Ev.refl f10.tb) fun K11 G11 f11 hR11 => ?_)
      have hL11 := f11.keep _ _ (by simp) rfl hL10
      have hD11 := f11.keep _ _ (by simp) rfl hD10
      have hb11 : BoxAt K11 b D nb := f11.keep _ _ (by simp) rfl hb10
      have hF11 := f11.keep _ _ (by simp) rfl hF10
      have hR : RowsAt K11 G11 lawRows := hR11
      refine ⟨4, rfl, by decide, by decide, ?_⟩
      refine for_it walk_range (fun i σ H' => (∃ u3 u8 u9, σ = [some (.ref a), some (.ref b), some (.ref L), u3, u4, u5, some (.ref G11), some (.ref F), u8, u9, none]) ∧ Ev A [b] K11 H' ∧ ∃ n, BoxAt H' b D n) ⟨⟨_, _, _, rfl⟩, Ev.refl f11.tb, nb, hb11⟩ (fun _ _ _ _ _ => trivial) ?_ ?_
      · rintro i x σ Ha Hb hi ⟨⟨u3, u8, u9, rfl⟩, ea, n, hbx⟩ ⟨rfl, rfl⟩
        have hDa := ea.keep _ _ (box_int hb11 hD11) rfl hD11
        refine ⟨_, rfl, _, rfl, b, D, n, 900, ms, rfl, ea.tb, hbx, hDa, by decide, fun Hc z ec hbc z0 z4 => ?_⟩
        have ec := ea.trans ec
        obtain ⟨as, hG, hAs⟩ := hR.box hb11 ec
        have el : as.length = 18 := by rw [hAs.len]; decide +kernel
        have el1 : ((as.map V.ref).length : Int) = 18 := by rw [List.length_map, el]; rfl
        refine .inl ⟨_, rfl, _, rfl, G11, _, rfl, .inl (SqL.of hG), z, _, rfl, rfl, by show (0 : Int) < ((as.map V.ref).length : Nat); rw [el1]; decide, ?_⟩
        obtain ⟨j, hj, hj18⟩ : ∃ j : Nat, z % ((as.map V.ref).length : Int) = (j : Int) ∧ j < as.length := ⟨(z % 18).toNat, by rw [el1]; omega, by rw [el]; omega⟩
        obtain ⟨r, hr1, l, d, q1, q2, q3⟩ := hAs.get (i := j) (a := as[j]) (by simp [hj18])
        have hrm : r ∈ lawRows := List.mem_of_getElem? hr1
        refine ⟨G11, _, z % ((as.map V.ref).length : Int), .ref as[j], rfl, rfl, SqL.of hG, by rw [hj]; exact atI_nat (j := j) (by simp [hj18]), ?_⟩
        refine ⟨as[j], _, rfl, SqL.of q1, rfl, _, _, rfl, _, _, rfl, rfl, ?_⟩
        refine one_if (cmp_told (mk_tjoin q2 rfl (List.all_eq_true.mp fact_okr r hrm)) (fact_row hrm) (mk_dv q3 rfl) (List.all_eq_true.mp fact_rok r hrm) (Ev.refl ec.tb) fun H7 e7 => iteF ⟨⟨_, _, _, rfl⟩, ec.trans e7.wide, _, e7.keep _ _ (by simp) rfl hbc⟩)
      · rintro σ H' ⟨⟨u3, u8, u9, rfl⟩, _, _⟩
        exact k H'

end
end HW
/-! what the top has left, from its written part; the end -/
namespace HW
open PySem PySem.Spec PyProof.Rows PySem.W L2 GxR
theorem tx_mk {P : Program} {K : PySem.W.Frag} {h : Heap} {mg : Str → Option Value} (X : K.In h) (G : h.Ns mainGlobals mg)
    {c1 P1 c2 P2 CN CB CW CP CR fIsName fBadInit fCheck fNumber fPInit fPNext fPPassed fPName fPAmount fPAmounts fReadSite fReadRight fSiteText fRightText fRInit fRLine fRSiteF fRRightF fRTake fROrder fParse fCell fDigits fDraw fTold fWrong fLaw cda cc : Addr}
    {t_gNameMost : Tok}
    {t_gMonthsMost : Tok}
    {t_gSitesMost : Tok}
    {t_gRightsMost : Tok}
    {t_gAmountMost : Tok}
    {t_gTravelMost : Tok}
    {t_gNAME : Tok}
    {t_gNEXT : Tok}
    {t_gROOM : Tok}
    {t_gHELD : Tok}
    {t_gLetters : Tok}
    {t_gDigits : Tok}
    {t_gNoL : Tok}
    {odIsName anIsName : Option Addr} {slIsName : Array (Option Value)} {ocIsName kVIsName dcIsName pmIsName ctIsName : Value}
    {odNumber anNumber : Option Addr} {slNumber : Array (Option Value)} {ocNumber kVNumber dcNumber pmNumber ctNumber : Value}
    {odCheck anCheck : Option Addr} {slCheck : Array (Option Value)} {ocCheck kVCheck dcCheck pmCheck ctCheck cdCheck : Value}
    {odPInit anPInit : Option Addr} {slPInit : Array (Option Value)} {ocPInit kVPInit dcPInit pmPInit ctPInit cdPInit : Value}
    {odPNext anPNext : Option Addr} {slPNext : Array (Option Value)} {ocPNext kVPNext dcPNext pmPNext ctPNext cdPNext : Value}
    {odPPassed anPPassed : Option Addr} {slPPassed : Array (Option Value)} {ocPPassed kVPPassed dcPPassed pmPPassed ctPPassed cdPPassed : Value}
    {odPName anPName : Option Addr} {slPName : Array (Option Value)} {ocPName kVPName dcPName pmPName ctPName cdPName : Value}
    {odPAmount anPAmount : Option Addr} {slPAmount : Array (Option Value)} {ocPAmount kVPAmount dcPAmount pmPAmount ctPAmount cdPAmount : Value}
    {odPAmounts anPAmounts : Option Addr} {slPAmounts : Array (Option Value)} {ocPAmounts kVPAmounts dcPAmounts pmPAmounts ctPAmounts cdPAmounts : Value}
    {odReadSite anReadSite : Option Addr} {slReadSite : Array (Option Value)} {ocReadSite kVReadSite dcReadSite pmReadSite ctReadSite cdReadSite : Value}
    {odReadRight anReadRight : Option Addr} {slReadRight : Array (Option Value)} {ocReadRight kVReadRight dcReadRight pmReadRight ctReadRight cdReadRight : Value}
    {odSiteText anSiteText : Option Addr} {slSiteText : Array (Option Value)} {ocSiteText kVSiteText dcSiteText pmSiteText ctSiteText cdSiteText : Value}
    {odRightText anRightText : Option Addr} {slRightText : Array (Option Value)} {ocRightText kVRightText dcRightText pmRightText ctRightText cdRightText : Value}
    {odRInit anRInit : Option Addr} {slRInit : Array (Option Value)} {ocRInit kVRInit dcRInit pmRInit ctRInit cdRInit : Value}
    {odRLine anRLine : Option Addr} {slRLine : Array (Option Value)} {ocRLine kVRLine dcRLine pmRLine ctRLine cdRLine : Value}
    {odRSiteF anRSiteF : Option Addr} {slRSiteF : Array (Option Value)} {ocRSiteF kVRSiteF dcRSiteF pmRSiteF ctRSiteF cdRSiteF : Value}
    {odRRightF anRRightF : Option Addr} {slRRightF : Array (Option Value)} {ocRRightF kVRRightF dcRRightF pmRRightF ctRRightF cdRRightF : Value}
    {odRTake anRTake : Option Addr} {slRTake : Array (Option Value)} {ocRTake kVRTake dcRTake pmRTake ctRTake cdRTake : Value}
    {odROrder anROrder : Option Addr} {slROrder : Array (Option Value)} {ocROrder kVROrder dcROrder pmROrder ctROrder cdROrder : Value}
    {odParse anParse : Option Addr} {slParse : Array (Option Value)} {ocParse kVParse dcParse pmParse ctParse cdParse : Value}
    {odCell anCell : Option Addr} {slCell : Array (Option Value)} {ocCell kVCell dcCell pmCell ctCell cdCell : Value}
    {odDigits anDigits : Option Addr} {slDigits : Array (Option Value)} {ocDigits kVDigits dcDigits pmDigits ctDigits cdDigits : Value}
    {odDraw anDraw : Option Addr} {slDraw : Array (Option Value)} {ocDraw kVDraw dcDraw pmDraw ctDraw cdDraw : Value}
    {odTold anTold : Option Addr} {slTold : Array (Option Value)} {ocTold kVTold dcTold pmTold ctTold cdTold : Value}
    {odWrong anWrong : Option Addr} {slWrong : Array (Option Value)} {ocWrong kVWrong dcWrong pmWrong ctWrong cdWrong : Value}
    {odLaw anLaw : Option Addr} {slLaw : Array (Option Value)} {ocLaw kVLaw dcLaw pmLaw ctLaw cdLaw : Value}
    {tcl1 : Value} {tcd1 : Option Addr} {tvs1 : Array Value} {tcs1 : Array (Option Value)}
    {tcl2 : Value} {tcd2 : Option Addr} {tvs2 : Array Value} {tcs2 : Array (Option Value)}
    {bnm bq : Str} {bN : Addr} {bbs bbm : List Value} {bsn : List Str} {bsub : List Value} {bab : Bool} {bcol : Option Bool} {bdd : Option Addr} {b0 b1 b2 b3 b5 : Option Value}
    {boc bkV bdoc bpm bct bccl bcl : Value} {bod ban bcdd bcld : Option Addr} {bosl bccs bcsl : Array (Option Value)} {bvs : Array Value} {bfile : Str} {btf : Tok}
    (aCN : PySem.W.nsIn K mainGlobals "NoLine" = some (some (.ref CN)))
    (aCB : PySem.W.nsIn K mainGlobals "BadBasin" = some (some (.ref CB)))
    (aCW : PySem.W.nsIn K mainGlobals "WaterError" = some (some (.ref CW)))
    (aCP : PySem.W.nsIn K mainGlobals "Pieces" = some (some (.ref CP)))
    (aCR : PySem.W.nsIn K mainGlobals "Reading" = some (some (.ref CR)))
    (agNameMost : PySem.W.nsIn K mainGlobals "NAME_MOST" = some (some (.int 6 t_gNameMost)))
    (agMonthsMost : PySem.W.nsIn K mainGlobals "MONTHS_MOST" = some (some (.int 4 t_gMonthsMost)))
    (agSitesMost : PySem.W.nsIn K mainGlobals "SITES_MOST" = some (some (.int 4 t_gSitesMost)))
    (agRightsMost : PySem.W.nsIn K mainGlobals "RIGHTS_MOST" = some (some (.int 4 t_gRightsMost)))
    (agAmountMost : PySem.W.nsIn K mainGlobals "AMOUNT_MOST" = some (some (.int 99 t_gAmountMost)))
    (agTravelMost : PySem.W.nsIn K mainGlobals "TRAVEL_MOST" = some (some (.int 2 t_gTravelMost)))
    (agNAME : PySem.W.nsIn K mainGlobals "NAME" = some (some (.int 0 t_gNAME)))
    (agNEXT : PySem.W.nsIn K mainGlobals "NEXT" = some (some (.int 1 t_gNEXT)))
    (agROOM : PySem.W.nsIn K mainGlobals "ROOM" = some (some (.int 4 t_gROOM)))
    (agHELD : PySem.W.nsIn K mainGlobals "HELD" = some (some (.int 5 t_gHELD)))
    (agLetters : PySem.W.nsIn K mainGlobals "LETTERS" = some (some (.str letters t_gLetters)))
    (agDigits : PySem.W.nsIn K mainGlobals "DIGITS" = some (some (.str digits t_gDigits)))
    (agNoL : PySem.W.nsIn K mainGlobals "NO_LINE" = some (some (.str "not a line" t_gNoL)))
    (zbLen : PySem.W.nsIn K mainGlobals "len" = some none)
    (zbAll : PySem.W.nsIn K mainGlobals "all" = some none)
    (zbStr : PySem.W.nsIn K mainGlobals "str" = some none)
    (zbInt : PySem.W.nsIn K mainGlobals "int" = some none)
    (zbTuple : PySem.W.nsIn K mainGlobals "tuple" = some none)
    (zbEnum : PySem.W.nsIn K mainGlobals "enumerate" = some none)
    (zbIsI : PySem.W.nsIn K mainGlobals "isinstance" = some none)
    (zbRange : PySem.W.nsIn K mainGlobals "range" = some none)
    (zbSuper : PySem.W.nsIn K mainGlobals "super" = some none)
    (zbVE : PySem.W.nsIn K mainGlobals "ValueError" = some none)
    (afIsName : PySem.W.nsIn K mainGlobals "is_name" = some (some (.ref fIsName)))
    (lfIsName : K.lookup fIsName = some ⟨ocIsName, odIsName, .func (PySem.W.fnOf "is_name" "is_name" (defArgs sIsName) (defBody sIsName) (defScope sIsName) .none kVIsName dcIsName pmIsName anIsName (.ref c1) ctIsName), slIsName⟩)
    (cfIsName : PySem.W.codeIn K (.ref c1) "is_name" = true)
    (kfIsName : PySem.W.keepIn K (.ref fIsName) = true)
    (afNumber : PySem.W.nsIn K mainGlobals "number_of" = some (some (.ref fNumber)))
    (lfNumber : K.lookup fNumber = some ⟨ocNumber, odNumber, .func (PySem.W.fnOf "number_of" "number_of" (defArgs sNumber) (defBody sNumber) (defScope sNumber) .none kVNumber dcNumber pmNumber anNumber (.ref c2) ctNumber), slNumber⟩)
    (cfNumber : PySem.W.codeIn K (.ref c2) "number_of" = true)
    (kfNumber : PySem.W.keepIn K (.ref fNumber) = true)
    (afCheck : PySem.W.nsIn K mainGlobals "check" = some (some (.ref fCheck)))
    (lfCheck : K.lookup fCheck = some ⟨ocCheck, odCheck, .func (PySem.W.fnOf "check" "check" (defArgs sCheck) (defBody sCheck) (defScope sCheck) .none kVCheck dcCheck pmCheck anCheck cdCheck ctCheck), slCheck⟩)
    (cfCheck : PySem.W.codeIn K cdCheck "check" = true)
    (kfCheck : PySem.W.keepIn K (.ref fCheck) = true)
    (afPInit : PySem.W.findIn K (.ref CP) "__init__" = some (some (.ref fPInit)))
    (ifPInit : PySem.W.isFn K (.ref fPInit) = true)
    (lfPInit : K.lookup fPInit = some ⟨ocPInit, odPInit, .func (PySem.W.fnOf "__init__" "Pieces.__init__" (defArgs sPInit) (defBody sPInit) (defScope sPInit) .none kVPInit dcPInit pmPInit anPInit cdPInit ctPInit), slPInit⟩)
    (cfPInit : PySem.W.codeIn K cdPInit "Pieces.__init__" = true)
    (kfPInit : PySem.W.keepIn K (.ref fPInit) = true)
    (afPNext : PySem.W.findIn K (.ref CP) "next" = some (some (.ref fPNext)))
    (ifPNext : PySem.W.isFn K (.ref fPNext) = true)
    (lfPNext : K.lookup fPNext = some ⟨ocPNext, odPNext, .func (PySem.W.fnOf "next" "Pieces.next" (defArgs sPNext) (defBody sPNext) (defScope sPNext) .none kVPNext dcPNext pmPNext anPNext cdPNext ctPNext), slPNext⟩)
    (cfPNext : PySem.W.codeIn K cdPNext "Pieces.next" = true)
    (kfPNext : PySem.W.keepIn K (.ref fPNext) = true)
    (afPPassed : PySem.W.findIn K (.ref CP) "passed" = some (some (.ref fPPassed)))
    (ifPPassed : PySem.W.isFn K (.ref fPPassed) = true)
    (lfPPassed : K.lookup fPPassed = some ⟨ocPPassed, odPPassed, .func (PySem.W.fnOf "passed" "Pieces.passed" (defArgs sPPassed) (defBody sPPassed) (defScope sPPassed) .none kVPPassed dcPPassed pmPPassed anPPassed cdPPassed ctPPassed), slPPassed⟩)
    (cfPPassed : PySem.W.codeIn K cdPPassed "Pieces.passed" = true)
    (kfPPassed : PySem.W.keepIn K (.ref fPPassed) = true)
    (afPName : PySem.W.findIn K (.ref CP) "name" = some (some (.ref fPName)))
    (ifPName : PySem.W.isFn K (.ref fPName) = true)
    (lfPName : K.lookup fPName = some ⟨ocPName, odPName, .func (PySem.W.fnOf "name" "Pieces.name" (defArgs sPName) (defBody sPName) (defScope sPName) .none kVPName dcPName pmPName anPName cdPName ctPName), slPName⟩)
    (cfPName : PySem.W.codeIn K cdPName "Pieces.name" = true)
    (kfPName : PySem.W.keepIn K (.ref fPName) = true)
    (afPAmount : PySem.W.findIn K (.ref CP) "amount" = some (some (.ref fPAmount)))
    (ifPAmount : PySem.W.isFn K (.ref fPAmount) = true)
    (lfPAmount : K.lookup fPAmount = some ⟨ocPAmount, odPAmount, .func (PySem.W.fnOf "amount" "Pieces.amount" (defArgs sPAmount) (defBody sPAmount) (defScope sPAmount) .none kVPAmount dcPAmount pmPAmount anPAmount cdPAmount ctPAmount), slPAmount⟩)
    (cfPAmount : PySem.W.codeIn K cdPAmount "Pieces.amount" = true)
    (kfPAmount : PySem.W.keepIn K (.ref fPAmount) = true)
    (afPAmounts : PySem.W.findIn K (.ref CP) "amounts" = some (some (.ref fPAmounts)))
    (ifPAmounts : PySem.W.isFn K (.ref fPAmounts) = true)
    (lfPAmounts : K.lookup fPAmounts = some ⟨ocPAmounts, odPAmounts, .func (PySem.W.fnOf "amounts" "Pieces.amounts" (defArgs sPAmounts) (defBody sPAmounts) (defScope sPAmounts) .none kVPAmounts dcPAmounts pmPAmounts anPAmounts cdPAmounts ctPAmounts), slPAmounts⟩)
    (cfPAmounts : PySem.W.codeIn K cdPAmounts "Pieces.amounts" = true)
    (kfPAmounts : PySem.W.keepIn K (.ref fPAmounts) = true)
    (afReadSite : PySem.W.nsIn K mainGlobals "read_site" = some (some (.ref fReadSite)))
    (lfReadSite : K.lookup fReadSite = some ⟨ocReadSite, odReadSite, .func (PySem.W.fnOf "read_site" "read_site" (defArgs sReadSite) (defBody sReadSite) (defScope sReadSite) .none kVReadSite dcReadSite pmReadSite anReadSite cdReadSite ctReadSite), slReadSite⟩)
    (cfReadSite : PySem.W.codeIn K cdReadSite "read_site" = true)
    (kfReadSite : PySem.W.keepIn K (.ref fReadSite) = true)
    (afReadRight : PySem.W.nsIn K mainGlobals "read_right" = some (some (.ref fReadRight)))
    (lfReadRight : K.lookup fReadRight = some ⟨ocReadRight, odReadRight, .func (PySem.W.fnOf "read_right" "read_right" (defArgs sReadRight) (defBody sReadRight) (defScope sReadRight) .none kVReadRight dcReadRight pmReadRight anReadRight cdReadRight ctReadRight), slReadRight⟩)
    (cfReadRight : PySem.W.codeIn K cdReadRight "read_right" = true)
    (kfReadRight : PySem.W.keepIn K (.ref fReadRight) = true)
    (afSiteText : PySem.W.nsIn K mainGlobals "site_text" = some (some (.ref fSiteText)))
    (lfSiteText : K.lookup fSiteText = some ⟨ocSiteText, odSiteText, .func (PySem.W.fnOf "site_text" "site_text" (defArgs sSiteText) (defBody sSiteText) (defScope sSiteText) .none kVSiteText dcSiteText pmSiteText anSiteText cdSiteText ctSiteText), slSiteText⟩)
    (cfSiteText : PySem.W.codeIn K cdSiteText "site_text" = true)
    (kfSiteText : PySem.W.keepIn K (.ref fSiteText) = true)
    (afRightText : PySem.W.nsIn K mainGlobals "right_text" = some (some (.ref fRightText)))
    (lfRightText : K.lookup fRightText = some ⟨ocRightText, odRightText, .func (PySem.W.fnOf "right_text" "right_text" (defArgs sRightText) (defBody sRightText) (defScope sRightText) .none kVRightText dcRightText pmRightText anRightText cdRightText ctRightText), slRightText⟩)
    (cfRightText : PySem.W.codeIn K cdRightText "right_text" = true)
    (kfRightText : PySem.W.keepIn K (.ref fRightText) = true)
    (afRInit : PySem.W.findIn K (.ref CR) "__init__" = some (some (.ref fRInit)))
    (ifRInit : PySem.W.isFn K (.ref fRInit) = true)
    (lfRInit : K.lookup fRInit = some ⟨ocRInit, odRInit, .func (PySem.W.fnOf "__init__" "Reading.__init__" (defArgs sRInit) (defBody sRInit) (defScope sRInit) .none kVRInit dcRInit pmRInit anRInit cdRInit ctRInit), slRInit⟩)
    (cfRInit : PySem.W.codeIn K cdRInit "Reading.__init__" = true)
    (kfRInit : PySem.W.keepIn K (.ref fRInit) = true)
    (afRLine : PySem.W.findIn K (.ref CR) "line" = some (some (.ref fRLine)))
    (ifRLine : PySem.W.isFn K (.ref fRLine) = true)
    (lfRLine : K.lookup fRLine = some ⟨ocRLine, odRLine, .func (PySem.W.fnOf "line" "Reading.line" (defArgs sRLine) (defBody sRLine) (defScope sRLine) .none kVRLine dcRLine pmRLine anRLine cdRLine ctRLine), slRLine⟩)
    (cfRLine : PySem.W.codeIn K cdRLine "Reading.line" = true)
    (kfRLine : PySem.W.keepIn K (.ref fRLine) = true)
    (afRSiteF : PySem.W.findIn K (.ref CR) "site_fault" = some (some (.ref fRSiteF)))
    (ifRSiteF : PySem.W.isFn K (.ref fRSiteF) = true)
    (lfRSiteF : K.lookup fRSiteF = some ⟨ocRSiteF, odRSiteF, .func (PySem.W.fnOf "site_fault" "Reading.site_fault" (defArgs sRSiteF) (defBody sRSiteF) (defScope sRSiteF) .none kVRSiteF dcRSiteF pmRSiteF anRSiteF cdRSiteF ctRSiteF), slRSiteF⟩)
    (cfRSiteF : PySem.W.codeIn K cdRSiteF "Reading.site_fault" = true)
    (kfRSiteF : PySem.W.keepIn K (.ref fRSiteF) = true)
    (afRRightF : PySem.W.findIn K (.ref CR) "right_fault" = some (some (.ref fRRightF)))
    (ifRRightF : PySem.W.isFn K (.ref fRRightF) = true)
    (lfRRightF : K.lookup fRRightF = some ⟨ocRRightF, odRRightF, .func (PySem.W.fnOf "right_fault" "Reading.right_fault" (defArgs sRRightF) (defBody sRRightF) (defScope sRRightF) .none kVRRightF dcRRightF pmRRightF anRRightF cdRRightF ctRRightF), slRRightF⟩)
    (cfRRightF : PySem.W.codeIn K cdRRightF "Reading.right_fault" = true)
    (kfRRightF : PySem.W.keepIn K (.ref fRRightF) = true)
    (afRTake : PySem.W.findIn K (.ref CR) "take" = some (some (.ref fRTake)))
    (ifRTake : PySem.W.isFn K (.ref fRTake) = true)
    (lfRTake : K.lookup fRTake = some ⟨ocRTake, odRTake, .func (PySem.W.fnOf "take" "Reading.take" (defArgs sRTake) (defBody sRTake) (defScope sRTake) .none kVRTake dcRTake pmRTake anRTake cdRTake ctRTake), slRTake⟩)
    (cfRTake : PySem.W.codeIn K cdRTake "Reading.take" = true)
    (kfRTake : PySem.W.keepIn K (.ref fRTake) = true)
    (afROrder : PySem.W.findIn K (.ref CR) "check_order" = some (some (.ref fROrder)))
    (ifROrder : PySem.W.isFn K (.ref fROrder) = true)
    (lfROrder : K.lookup fROrder = some ⟨ocROrder, odROrder, .func (PySem.W.fnOf "check_order" "Reading.check_order" (defArgs sROrder) (defBody sROrder) (defScope sROrder) .none kVROrder dcROrder pmROrder anROrder cdROrder ctROrder), slROrder⟩)
    (cfROrder : PySem.W.codeIn K cdROrder "Reading.check_order" = true)
    (kfROrder : PySem.W.keepIn K (.ref fROrder) = true)
    (afParse : PySem.W.nsIn K mainGlobals "parse_basin" = some (some (.ref fParse)))
    (lfParse : K.lookup fParse = some ⟨ocParse, odParse, .func (PySem.W.fnOf "parse_basin" "parse_basin" (defArgs sParse) (defBody sParse) (defScope sParse) .none kVParse dcParse pmParse anParse cdParse ctParse), slParse⟩)
    (cfParse : PySem.W.codeIn K cdParse "parse_basin" = true)
    (kfParse : PySem.W.keepIn K (.ref fParse) = true)
    (afCell : PySem.W.nsIn K mainGlobals "_law_cell" = some (some (.ref fCell)))
    (lfCell : K.lookup fCell = some ⟨ocCell, odCell, .func (PySem.W.fnOf "_law_cell" "_law_cell" (defArgs sCell) (defBody sCell) (defScope sCell) .none kVCell dcCell pmCell anCell cdCell ctCell), slCell⟩)
    (cfCell : PySem.W.codeIn K cdCell "_law_cell" = true)
    (kfCell : PySem.W.keepIn K (.ref fCell) = true)
    (afDigits : PySem.W.nsIn K mainGlobals "_law_digits" = some (some (.ref fDigits)))
    (lfDigits : K.lookup fDigits = some ⟨ocDigits, odDigits, .func (PySem.W.fnOf "_law_digits" "_law_digits" (defArgs sDigits) (defBody sDigits) (defScope sDigits) .none kVDigits dcDigits pmDigits anDigits cdDigits ctDigits), slDigits⟩)
    (cfDigits : PySem.W.codeIn K cdDigits "_law_digits" = true)
    (kfDigits : PySem.W.keepIn K (.ref fDigits) = true)
    (afDraw : PySem.W.nsIn K mainGlobals "_law_draw" = some (some (.ref fDraw)))
    (lfDraw : K.lookup fDraw = some ⟨ocDraw, odDraw, .func (PySem.W.fnOf "_law_draw" "_law_draw" (defArgs sDraw) (defBody sDraw) (defScope sDraw) .none kVDraw dcDraw pmDraw anDraw cdDraw ctDraw), slDraw⟩)
    (cfDraw : PySem.W.codeIn K cdDraw "_law_draw" = true)
    (kfDraw : PySem.W.keepIn K (.ref fDraw) = true)
    (afTold : PySem.W.nsIn K mainGlobals "_law_told" = some (some (.ref fTold)))
    (lfTold : K.lookup fTold = some ⟨ocTold, odTold, .func (PySem.W.fnOf "_law_told" "_law_told" (defArgs sTold) (defBody sTold) (defScope sTold) .none kVTold dcTold pmTold anTold cdTold ctTold), slTold⟩)
    (cfTold : PySem.W.codeIn K cdTold "_law_told" = true)
    (kfTold : PySem.W.keepIn K (.ref fTold) = true)
    (afWrong : PySem.W.nsIn K mainGlobals "_law_wrong" = some (some (.ref fWrong)))
    (lfWrong : K.lookup fWrong = some ⟨ocWrong, odWrong, .func (PySem.W.fnOf "_law_wrong" "_law_wrong" (defArgs sWrong) (defBody sWrong) (defScope sWrong) .none kVWrong dcWrong pmWrong anWrong cdWrong ctWrong), slWrong⟩)
    (cfWrong : PySem.W.codeIn K cdWrong "_law_wrong" = true)
    (kfWrong : PySem.W.keepIn K (.ref fWrong) = true)
    (afLaw : PySem.W.nsIn K mainGlobals "law" = some (some (.ref fLaw)))
    (lfLaw : K.lookup fLaw = some ⟨ocLaw, odLaw, .func (PySem.W.fnOf "law" "law" (defArgs sLaw) (defBody sLaw) (defScope sLaw) .none kVLaw dcLaw pmLaw anLaw cdLaw ctLaw), slLaw⟩)
    (cfLaw : PySem.W.codeIn K cdLaw "law" = true)
    (kfLaw : PySem.W.keepIn K (.ref fLaw) = true)
    (lc1 : K.lookup c1 = some ⟨tcl1, tcd1, .fields tvs1, tcs1⟩)
    (hp1 : (tvs1[11]? : Option Value) = some (.ref P1))
    (lc2 : K.lookup c2 = some ⟨tcl2, tcd2, .fields tvs2, tcs2⟩)
    (hp2 : (tvs2[11]? : Option Value) = some (.ref P2))
    (pgCP : PySem.W.plainGet K CP Str.empty = true)
    (hdCP : PySem.W.hasDictIn K CP = true)
    (poCP : PySem.W.plainOver K CP = true)
    (saCP : PySem.W.findIn K (.ref CP) "__setattr__" = some (some (.builtin "object.__setattr__")))
    (mkCP : PySem.W.makesIn K CP = true)
    (kcCP : PySem.W.keepIn K (.ref CP) = true)
    (pgCR : PySem.W.plainGet K CR Str.empty = true)
    (hdCR : PySem.W.hasDictIn K CR = true)
    (poCR : PySem.W.plainOver K CR = true)
    (saCR : PySem.W.findIn K (.ref CR) "__setattr__" = some (some (.builtin "object.__setattr__")))
    (mkCR : PySem.W.makesIn K CR = true)
    (kcCR : PySem.W.keepIn K (.ref CR) = true)
    (nPRows : PySem.W.findIn K (.ref CP) "rows" = some none)
    (nRSites : PySem.W.findIn K (.ref CR) "sites" = some none)
    (nRRights : PySem.W.findIn K (.ref CR) "rights" = some none)
    (nRMonths : PySem.W.findIn K (.ref CR) "months" = some none)
    (xN : PySem.W.excIn K CN [.type "ValueError", .type "Exception", .type "BaseException", .type "object"] "ValueError.__new__" = true)
    (kN : PySem.W.keepIn K (.ref CN) = true)
    (sN : PySem.W.subIn K (.ref CN) (.type "BaseException") = some true)
    (tN : PySem.W.typeIn K (.ref CN) = some (.type "type"))
    (eN : PySem.W.exmOne K (.ref CN) (.ref CN) = some true)
    (eB : PySem.W.exmOne K (.ref CB) (.ref CW) = some true)
    (oB : PySem.W.kitOne K (.ref CB) (.ref CB) = some true)
    (oV : PySem.W.kitOne K (.ref CB) (.type "ValueError") = some true)
    (fBl : PySem.W.findIn K (.ref CB) "line" = some none)
    (fBr : PySem.W.findIn K (.ref CB) "reason" = some none)
    (bcls : K.lookup CB = some (excClassObj bnm bq CB bN bbs bbm true bsn bsub bab bcol bdd b0 b1 b2 b3 b5 "ValueError.__new__"))
    (brefs : PySem.HandSPX.refsVE bbm = true)
    (bsa : PySem.W.findIn K (.ref CB) "__setattr__" = some (some (.builtin "object.__setattr__")))
    (bex : PySem.W.subIn K (.ref CB) (.type "BaseException") = some true)
    (bty : PySem.W.typeIn K (.ref CB) = some (.type "type"))
    (bk : PySem.W.keepIn K (.ref CB) = true)
    (biC : PySem.W.findIn K (.ref CB) "__init__" = some (some (.ref fBadInit)))
    (btI : PySem.W.typeIn K (.ref fBadInit) = some (.type "function"))
    (bany : PySem.W.nsIn K cStatics "thirdparty.any" = some none)
    (bsup : PySem.W.ks_superIn K CB CB "__init__" = some (some (.builtin "ValueError.__init__")))
    (bsubV : PySem.W.subIn K (.ref CB) (.type "ValueError") = some true)
    (bmro : PySem.W.mroIn K CB (.ref CB) = some true)
    (bxi : PySem.W.excInitIn K CB [.type "ValueError", .type "Exception", .type "BaseException", .type "object"] "ValueError.__new__" = true)
    (bl : K.lookup fBadInit = some ⟨boc, bod, .func (ksFn "__init__" "BadBasin.__init__" (defArgs sBadInit) (defBody sBadInit) (defScope sBadInit) .none bkV bdoc bpm ban (.ref cda) bct cc), bosl⟩)
    (bcode : PySem.W.codeIn K (.ref cda) "BadBasin.__init__" = true)
    (blc : K.lookup cda = some ⟨bccl, bcdd, .fields bvs, bccs⟩)
    (bv2 : (bvs[2]? : Option Value) = some (.str bfile btf))
    (bfl : ((P.main.file : Str) == bfile) = true)
    (bcell : K.lookup cc = some ⟨bcl, bcld, .cell (some (.ref CB)), bcsl⟩)
    (btop : (P.main.scope.names.lookup ("super" : Str)).isSome = false)
    (icl : (PySem.W.clsIn K CB).isSome = true)
    (ihg : PySem.W.findIn K (.ref CB) "__getattribute__" = some (some (.builtin "BaseException.__getattribute__")))
    (ihk : PySem.W.findIn K (.ref CB) "__getattr__" = some none)
    (iha : PySem.W.findIn K (.ref CB) "__class__" = some (some (.builtin "object.__class__")))
    (ihn : PySem.W.specialIn K (.builtin "object.__class__") "__get__" = some (some (.builtin "getset_descriptor.__get__")))
    (iht : PySem.W.takesIn K (.builtin "object.__class__") = some true)
    (ihm : PySem.W.mroIn K CB (.type "object") = some true)
    (ihd : PySem.W.hasDictIn K CB = true) :
    Tx P K mg (⟨c1, P1, c2, P2, CN, CB, CW, CP, CR, fIsName, fBadInit, fCheck, fNumber, fPInit, fPNext, fPPassed, fPName, fPAmount, fPAmounts, fReadSite, fReadRight, fSiteText, fRightText, fRInit, fRLine, fRSiteF, fRRightF, fRTake, fROrder, fParse, fCell, fDigits, fDraw, fTold, fWrong, fLaw⟩ : Ad) ∧ (∃ fd : FuncData, Fun K "law" "law" sLaw fLaw fd ∧ ∀ (s : Shared) (u : Value), BindsTo s fd ⟨[u], []⟩ [("_law_script", u)]) ∧ mg "law" = some (.ref fLaw) ∧ PySem.W.tabIn K "is_name" = some (c1, P1) ∧ PySem.W.tabIn K "number_of" = some (c2, P2) := by
  refine ⟨?_, ⟨_, fun_mk (st := sLaw) lfLaw cfLaw kfLaw, fun _ _ => .of_eq rfl⟩, PySem.W.mg_of X G afLaw, ?_, ?_⟩
  · exact {
      gNoLine := PySem.W.mg_of X G aCN,
      gBad := PySem.W.mg_of X G aCB,
      gWater := PySem.W.mg_of X G aCW,
      gPieces := PySem.W.mg_of X G aCP,
      gReading := PySem.W.mg_of X G aCR,
      gNameMost := ⟨_, PySem.W.mg_of X G agNameMost⟩,
      gMonthsMost := ⟨_, PySem.W.mg_of X G agMonthsMost⟩,
      gSitesMost := ⟨_, PySem.W.mg_of X G agSitesMost⟩,
      gRightsMost := ⟨_, PySem.W.mg_of X G agRightsMost⟩,
      gAmountMost := ⟨_, PySem.W.mg_of X G agAmountMost⟩,
      gTravelMost := ⟨_, PySem.W.mg_of X G agTravelMost⟩,
      gNAME := ⟨_, PySem.W.mg_of X G agNAME⟩,
      gNEXT := ⟨_, PySem.W.mg_of X G agNEXT⟩,
      gROOM := ⟨_, PySem.W.mg_of X G agROOM⟩,
      gHELD := ⟨_, PySem.W.mg_of X G agHELD⟩,
      gLetters := ⟨_, PySem.W.mg_of X G agLetters⟩,
      gDigits := ⟨_, PySem.W.mg_of X G agDigits⟩,
      gNoL := ⟨_, PySem.W.mg_of X G agNoL⟩,
      bLen := PySem.W.mg_none_of X G zbLen,
      bAll := PySem.W.mg_none_of X G zbAll,
      bStr := PySem.W.mg_none_of X G zbStr,
      bInt := PySem.W.mg_none_of X G zbInt,
      bTuple := PySem.W.mg_none_of X G zbTuple,
      bEnum := PySem.W.mg_none_of X G zbEnum,
      bIsI := PySem.W.mg_none_of X G zbIsI,
      bRange := PySem.W.mg_none_of X G zbRange,
      bSuper := PySem.W.mg_none_of X G zbSuper,
      bVE := PySem.W.mg_none_of X G zbVE,
      gIsName := PySem.W.mg_of X G afIsName,
      dIsName := ⟨_, _, _, _, _, _, _, _, _, rfl, lfIsName, cfIsName, (fun_mk (st := sIsName) lfIsName cfIsName kfIsName).binds (ps := ["text"]) (fun _ _ _ _ _ _ us hl => match us, hl with | [_], _ => rfl), kfIsName⟩,
      gNumber := PySem.W.mg_of X G afNumber,
      dNumber := ⟨_, _, _, _, _, _, _, _, _, rfl, lfNumber, cfNumber, (fun_mk (st := sNumber) lfNumber cfNumber kfNumber).binds (ps := ["piece", "most"]) (fun _ _ _ _ _ _ us hl => match us, hl with | [_, _], _ => rfl), kfNumber⟩,
      gCheck := PySem.W.mg_of X G afCheck,
      dCheck := ⟨_, fun_mk (st := sCheck) lfCheck cfCheck kfCheck, (fun_mk (st := sCheck) lfCheck cfCheck kfCheck).binds (ps := ["holds"]) (fun _ _ _ _ _ _ us hl => match us, hl with | [_], _ => rfl)⟩,
      dPInit := ⟨_, fun_mk (st := sPInit) lfPInit cfPInit kfPInit, (fun_mk (st := sPInit) lfPInit cfPInit kfPInit).binds (ps := ["self", "line"]) (fun _ _ _ _ _ _ us hl => match us, hl with | [_, _], _ => rfl)⟩,
      dPNext := ⟨_, fun_mk (st := sPNext) lfPNext cfPNext kfPNext, (fun_mk (st := sPNext) lfPNext cfPNext kfPNext).binds (ps := ["self"]) (fun _ _ _ _ _ _ us hl => match us, hl with | [_], _ => rfl)⟩,
      dPPassed := ⟨_, fun_mk (st := sPPassed) lfPPassed cfPPassed kfPPassed, (fun_mk (st := sPPassed) lfPPassed cfPPassed kfPPassed).binds (ps := ["self", "word"]) (fun _ _ _ _ _ _ us hl => match us, hl with | [_, _], _ => rfl)⟩,
      dPName := ⟨_, fun_mk (st := sPName) lfPName cfPName kfPName, (fun_mk (st := sPName) lfPName cfPName kfPName).binds (ps := ["self"]) (fun _ _ _ _ _ _ us hl => match us, hl with | [_], _ => rfl)⟩,
      dPAmount := ⟨_, fun_mk (st := sPAmount) lfPAmount cfPAmount kfPAmount, (fun_mk (st := sPAmount) lfPAmount cfPAmount kfPAmount).binds (ps := ["self", "word", "most", "without"]) (fun _ _ _ _ _ _ us hl => match us, hl with | [_, _, _, _], _ => rfl)⟩,
      dPAmounts := ⟨_, fun_mk (st := sPAmounts) lfPAmounts cfPAmounts kfPAmounts, (fun_mk (st := sPAmounts) lfPAmounts cfPAmounts kfPAmounts).binds (ps := ["self", "months"]) (fun _ _ _ _ _ _ us hl => match us, hl with | [_, _], _ => rfl)⟩,
      gReadSite := PySem.W.mg_of X G afReadSite,
      dReadSite := ⟨_, fun_mk (st := sReadSite) lfReadSite cfReadSite kfReadSite, (fun_mk (st := sReadSite) lfReadSite cfReadSite kfReadSite).binds (ps := ["pieces", "months"]) (fun _ _ _ _ _ _ us hl => match us, hl with | [_, _], _ => rfl)⟩,
      gReadRight := PySem.W.mg_of X G afReadRight,
      dReadRight := ⟨_, fun_mk (st := sReadRight) lfReadRight cfReadRight kfReadRight, (fun_mk (st := sReadRight) lfReadRight cfReadRight kfReadRight).binds (ps := ["pieces", "months"]) (fun _ _ _ _ _ _ us hl => match us, hl with | [_, _], _ => rfl)⟩,
      gSiteText := PySem.W.mg_of X G afSiteText,
      dSiteText := ⟨_, fun_mk (st := sSiteText) lfSiteText cfSiteText kfSiteText, (fun_mk (st := sSiteText) lfSiteText cfSiteText kfSiteText).binds (ps := ["site"]) (fun _ _ _ _ _ _ us hl => match us, hl with | [_], _ => rfl)⟩,
      gRightText := PySem.W.mg_of X G afRightText,
      dRightText := ⟨_, fun_mk (st := sRightText) lfRightText cfRightText kfRightText, (fun_mk (st := sRightText) lfRightText cfRightText kfRightText).binds (ps := ["right"]) (fun _ _ _ _ _ _ us hl => match us, hl with | [_], _ => rfl)⟩,
      dRInit := ⟨_, fun_mk (st := sRInit) lfRInit cfRInit kfRInit, (fun_mk (st := sRInit) lfRInit cfRInit kfRInit).binds (ps := ["self"]) (fun _ _ _ _ _ _ us hl => match us, hl with | [_], _ => rfl)⟩,
      dRLine := ⟨_, fun_mk (st := sRLine) lfRLine cfRLine kfRLine, (fun_mk (st := sRLine) lfRLine cfRLine kfRLine).binds (ps := ["self", "text"]) (fun _ _ _ _ _ _ us hl => match us, hl with | [_, _], _ => rfl)⟩,
      dRSiteF := ⟨_, fun_mk (st := sRSiteF) lfRSiteF cfRSiteF kfRSiteF, (fun_mk (st := sRSiteF) lfRSiteF cfRSiteF kfRSiteF).binds (ps := ["self", "site"]) (fun _ _ _ _ _ _ us hl => match us, hl with | [_, _], _ => rfl)⟩,
      dRRightF := ⟨_, fun_mk (st := sRRightF) lfRRightF cfRRightF kfRRightF, (fun_mk (st := sRRightF) lfRRightF cfRRightF kfRRightF).binds (ps := ["self", "right"]) (fun _ _ _ _ _ _ us hl => match us, hl with | [_, _], _ => rfl)⟩,
      dRTake := ⟨_, fun_mk (st := sRTake) lfRTake cfRTake kfRTake, (fun_mk (st := sRTake) lfRTake cfRTake kfRTake).binds (ps := ["self", "text"]) (fun _ _ _ _ _ _ us hl => match us, hl with | [_, _], _ => rfl)⟩,
      dROrder := ⟨_, fun_mk (st := sROrder) lfROrder cfROrder kfROrder, (fun_mk (st := sROrder) lfROrder cfROrder kfROrder).binds (ps := ["self"]) (fun _ _ _ _ _ _ us hl => match us, hl with | [_], _ => rfl)⟩,
      gParse := PySem.W.mg_of X G afParse,
      dParse := ⟨_, fun_mk (st := sParse) lfParse cfParse kfParse, (fun_mk (st := sParse) lfParse cfParse kfParse).binds (ps := ["text"]) (fun _ _ _ _ _ _ us hl => match us, hl with | [_], _ => rfl)⟩,
      gCell := PySem.W.mg_of X G afCell,
      dCell := ⟨_, fun_mk (st := sCell) lfCell cfCell kfCell, (fun_mk (st := sCell) lfCell cfCell kfCell).binds (ps := ["_law_script", "_law_k"]) (fun _ _ _ _ _ _ us hl => match us, hl with | [_, _], _ => rfl)⟩,
      gDigitsF := PySem.W.mg_of X G afDigits,
      dDigits := ⟨_, fun_mk (st := sDigits) lfDigits cfDigits kfDigits, (fun_mk (st := sDigits) lfDigits cfDigits kfDigits).binds (ps := ["_law_script", "_law_first", "_law_last"]) (fun _ _ _ _ _ _ us hl => match us, hl with | [_, _, _], _ => rfl)⟩,
      gDraw := PySem.W.mg_of X G afDraw,
      dDraw := ⟨_, fun_mk (st := sDraw) lfDraw cfDraw kfDraw, (fun_mk (st := sDraw) lfDraw cfDraw kfDraw).binds (ps := ["_law_box", "_law_many"]) (fun _ _ _ _ _ _ us hl => match us, hl with | [_, _], _ => rfl)⟩,
      gTold := PySem.W.mg_of X G afTold,
      dTold := ⟨_, fun_mk (st := sTold) lfTold cfTold kfTold, (fun_mk (st := sTold) lfTold cfTold kfTold).binds (ps := ["_law_text"]) (fun _ _ _ _ _ _ us hl => match us, hl with | [_], _ => rfl)⟩,
      gWrong := PySem.W.mg_of X G afWrong,
      dWrong := ⟨_, fun_mk (st := sWrong) lfWrong cfWrong kfWrong, (fun_mk (st := sWrong) lfWrong cfWrong kfWrong).binds (ps := []) (fun _ _ _ _ _ _ us hl => match us, hl with | [], _ => rfl)⟩,
      cP := ⟨pgCP, hdCP, poCP, saCP⟩,
      kP := ⟨mkCP, afPInit, ifPInit, kcCP⟩,
      cR := ⟨pgCR, hdCR, poCR, saCR⟩,
      kR := ⟨mkCR, afRInit, ifRInit, kcCR⟩,
      mPNext := ⟨afPNext, ifPNext, kfPNext⟩,
      mPPassed := ⟨afPPassed, ifPPassed, kfPPassed⟩,
      mPName := ⟨afPName, ifPName, kfPName⟩,
      mPAmount := ⟨afPAmount, ifPAmount, kfPAmount⟩,
      mPAmounts := ⟨afPAmounts, ifPAmounts, kfPAmounts⟩,
      mRLine := ⟨afRLine, ifRLine, kfRLine⟩,
      mRSiteF := ⟨afRSiteF, ifRSiteF, kfRSiteF⟩,
      mRRightF := ⟨afRRightF, ifRRightF, kfRRightF⟩,
      mRTake := ⟨afRTake, ifRTake, kfRTake⟩,
      mROrder := ⟨afROrder, ifROrder, kfROrder⟩,
      nPRows := nPRows,
      nRSites := nRSites,
      nRRights := nRRights,
      nRMonths := nRMonths,
      xN := xN,
      kN := kN,
      sN := sN,
      tN := tN,
      eN := eN,
      eB := eB,
      oB := oB,
      oV := oV,
      fBl := fBl,
      fBr := fBr,
      bad := ⟨⟨⟨_, _, _, _, _, _, _, _, _, _, _, _, _, _, _, bcls, brefs⟩, bsa, bex, bty, bk⟩, fBl, fBr, biC, btI, bany, bsup, bsubV, bmro, bxi, ⟨_, _, _, _, _, _, _, _, _, _, _, _, _, _, _, _, _, _, _, bl, bcode, blc, bv2, bfl, bcell⟩, btop⟩,
      iB := ⟨icl, ihg, ihk, bex, iha, ihn, iht, ihm⟩,
      fB := ⟨ihg, ihk, bex, ihd⟩ }
  · unfold PySem.W.tabIn
    rw [afIsName]
    dsimp only
    rw [lfIsName]
    show (match K.lookup c1 with | some ⟨_, _, .fields vs, _⟩ => (match (vs[11]? : Option Value) with | some (.ref P) => some (c1, P) | _ => none) | _ => none) = _
    rw [lc1]
    dsimp only
    rw [hp1]
  · unfold PySem.W.tabIn
    rw [afNumber]
    dsimp only
    rw [lfNumber]
    show (match K.lookup c2 with | some ⟨_, _, .fields vs, _⟩ => (match (vs[11]? : Option Value) with | some (.ref P) => some (c2, P) | _ => none) | _ => none) = _
    rw [lc2]
    dsimp only
    rw [hp2]
theorem walk {l : PySem.W.OpenLaw} {q : Program} {loose : List Str} {XP : (Str → Option Value) → Heap → Prop} {YP : World → Heap → Prop} {d : DefRec} {K : Params → PySem.W.Frag} (hn : l.most = some 63) (hdf : d.params.defaults = []) (nm : d.name = "law")
    (hY : ∀ (w : World) (h : Heap), YP w h → (K w.params).In h) (hr1 : ((recsOf q).find? (fun e => e.name == ("is_name" : Str))).isSome = true) (hr2 : ((recsOf q).find? (fun e => e.name == ("number_of" : Str))).isSome = true)
    (F : ∀ (w : World) (mg : Str → Option Value) (h : Heap), (K w.params).In h → h.Ns mainGlobals mg → ∃ A : Ad, (Tx l.prog (K w.params) mg A ∧ (∃ fd : FuncData, Fun (K w.params) "law" "law" sLaw A.fLaw fd ∧ ∀ (s : Shared) (u : Value), BindsTo s fd ⟨[u], []⟩ [("_law_script", u)]) ∧ mg "law" = some (.ref A.fLaw) ∧
      PySem.W.tabIn (K w.params) "is_name" = some (A.c1, A.P1) ∧ PySem.W.tabIn (K w.params) "number_of" = some (A.c2, A.P2)) ∧ (K w.params).lookup A.P1 = none ∧ (K w.params).lookup A.P2 = none) :
    PySem.W.WalkO q loose XP YP l.row.toRowW d [] (fun f vs => PySem.call f vs) := by
  refine Att.attach_callB hn hdf fun w s₀ s₁ mg mb fa o pm cd doc a vs ns G Y ho hd hcd hmg hobj hints hlen hbits hg => ?_
  have KX := hY w _ Y
  obtain ⟨d1, hr1⟩ := Option.isSome_iff_exists.mp hr1
  obtain ⟨d2, hr2⟩ := Option.isSome_iff_exists.mp hr2
  obtain ⟨A, ⟨T, ⟨fd, DL, hb⟩, gL, t1, t2⟩, n1, n2⟩ := F w mg _ KX G.T.g
  rw [nm, gL] at hmg
  cases hmg
  obtain ⟨C1, H1⟩ := PySem.W.tab_of G.T KX hr1 t1
  obtain ⟨C2, H2⟩ := PySem.W.tab_of G.T KX hr2 t2
  have both : ∀ {p : Addr × Addr} {Z : Addr × Addr → Prop}, p ∈ [(A.c1, A.P1), (A.c2, A.P2)] → Z (A.c1, A.P1) → Z (A.c2, A.P2) → Z p := fun {p Z} hp z1 z2 => by
    rcases List.mem_cons.mp hp with e | hp
    · rw [e]; exact z1
    · rw [List.mem_singleton.mp hp]; exact z2
  refine LamX.law_callTs (cs := [(A.c1, A.P1), (A.c2, A.P2)]) (k := 9) (x := "_law_script") (CX := L2.CX l.prog w) (sp := spLaw (K w.params) A) KX G.T.g G.T.b G.T.builtins G.T.nolimit hg (fun p hp => both (Z := fun p => s₁.heap.get? p.2 = some { cls := .none, data := .fields #[] }) hp H1 H2) (fun p hp => both (Z := fun p => (K w.params).lookup p.2 = none) hp n1 n2)
    (fun p hp => both (Z := fun p => PySem.W.CodeHd s₁.heap p.1 p.2) hp C1 C2) G.T.bmain hobj hints (Nat.le_trans hlen (by decide)) ⟨rfl, by decide, by decide⟩ (fun base kb nb tb => ok_law T (let z := tb _ (.head _); ⟨z.code, z.bm, z.gP⟩) (let z := tb _ (.tail _ (.head _)); ⟨z.code, z.bm, z.gP⟩) DL) hb (fun H hH hS => ?_) (fun H e s' h => ?_)
  · exact ⟨a, ns, rfl, ⟨⟨#[], hH _ (.head _), by trivial⟩, ⟨#[], hH _ (.tail _ (.head _)), by trivial⟩⟩, hS, fun _ => rfl⟩
  · obtain ⟨_, _, _, _, _, _, _, _, _, _, _, _, z⟩ := h
    exact z
end HW
open PySem PySem.W PyProof.Rows in
set_option maxRecDepth 100000 in
set_option maxHeartbeats 0 in
theorem PySem.Challenge.cw_heldwater_k01_basins_refused_holds : PySem.Challenge.rw_heldwater_k01_basins_refused.Holds := by
  w_on; o_law; k_head; (case hw => w_witness2)
  k_fill
  refine HW.walk (l := PySem.Challenge.rw_heldwater_k01_basins_refused) rfl rfl rfl (fun w h Y => PySem.W.kIn_of Y) ?R1 ?R2 ?F
  case R1 => kernel_rfl
  case R2 => kernel_rfl
  case F =>
    intro w mg h KX G
    refine' ⟨_, HW.tx_mk (P := PySem.Challenge.pw_heldwater_k01_basins_refused) KX G ?xaCN ?xaCB ?xaCW ?xaCP ?xaCR ?xagNameMost ?xagMonthsMost ?xagSitesMost ?xagRightsMost ?xagAmountMost ?xagTravelMost ?xagNAME ?xagNEXT ?xagROOM ?xagHELD ?xagLetters ?xagDigits ?xagNoL ?xzbLen ?xzbAll ?xzbStr ?xzbInt ?xzbTuple ?xzbEnum ?xzbIsI ?xzbRange ?xzbSuper ?xzbVE ?xafIsName ?xlfIsName ?xcfIsName ?xkfIsName ?xafNumber ?xlfNumber ?xcfNumber ?xkfNumber ?xafCheck ?xlfCheck ?xcfCheck ?xkfCheck ?xafPInit ?xifPInit ?xlfPInit ?xcfPInit ?xkfPInit ?xafPNext ?xifPNext ?xlfPNext ?xcfPNext ?xkfPNext ?xafPPassed ?xifPPassed ?xlfPPassed ?xcfPPassed ?xkfPPassed ?xafPName ?xifPName ?xlfPName ?xcfPName ?xkfPName ?xafPAmount ?xifPAmount ?xlfPAmount ?xcfPAmount ?xkfPAmount ?xafPAmounts ?xifPAmounts ?xlfPAmounts ?xcfPAmounts ?xkfPAmounts ?xafReadSite ?xlfReadSite ?xcfReadSite ?xkfReadSite ?xafReadRight ?xlfReadRight ?xcfReadRight ?xkfReadRight ?xafSiteText ?xlfSiteText ?xcfSiteText ?xkfSiteText ?xafRightText ?xlfRightText ?xcfRightText ?xkfRightText ?xafRInit ?xifRInit ?xlfRInit ?xcfRInit ?xkfRInit ?xafRLine ?xifRLine ?xlfRLine ?xcfRLine ?xkfRLine ?xafRSiteF ?xifRSiteF ?xlfRSiteF ?xcfRSiteF ?xkfRSiteF ?xafRRightF ?xifRRightF ?xlfRRightF ?xcfRRightF ?xkfRRightF ?xafRTake ?xifRTake ?xlfRTake ?xcfRTake ?xkfRTake ?xafROrder ?xifROrder ?xlfROrder ?xcfROrder ?xkfROrder ?xafParse ?xlfParse ?xcfParse ?xkfParse ?xafCell ?xlfCell ?xcfCell ?xkfCell ?xafDigits ?xlfDigits ?xcfDigits ?xkfDigits ?xafDraw ?xlfDraw ?xcfDraw ?xkfDraw ?xafTold ?xlfTold ?xcfTold ?xkfTold ?xafWrong ?xlfWrong ?xcfWrong ?xkfWrong ?xafLaw ?xlfLaw ?xcfLaw ?xkfLaw ?xlc1 ?xhp1 ?xlc2 ?xhp2 ?xpgCP ?xhdCP ?xpoCP ?xsaCP ?xmkCP ?xkcCP ?xpgCR ?xhdCR ?xpoCR ?xsaCR ?xmkCR ?xkcCR ?xnPRows ?xnRSites ?xnRRights ?xnRMonths ?xxN ?xkN ?xsN ?xtN ?xeN ?xeB ?xoB ?xoV ?xfBl ?xfBr ?xbcls ?xbrefs ?xbsa ?xbex ?xbty ?xbk ?xbiC ?xbtI ?xbany ?xbsup ?xbsubV ?xbmro ?xbxi ?xbl ?xbcode ?xblc ?xbv2 ?xbfl ?xbcell ?xbtop ?xicl ?xihg ?xihk ?xiha ?xihn ?xiht ?xihm ?xihd, ?N1, ?N2⟩
    (case xaCN => k_is)
    (case xaCB => k_is)
    (case xaCW => k_is)
    (case xaCP => k_is)
    (case xaCR => k_is)
    (case xagNameMost => k_is)
    (case xagMonthsMost => k_is)
    (case xagSitesMost => k_is)
    (case xagRightsMost => k_is)
    (case xagAmountMost => k_is)
    (case xagTravelMost => k_is)
    (case xagNAME => k_is)
    (case xagNEXT => k_is)
    (case xagROOM => k_is)
    (case xagHELD => k_is)
    (case xagLetters => k_is)
    (case xagDigits => k_is)
    (case xagNoL => k_is)
    (case xzbLen => k_is)
    (case xzbAll => k_is)
    (case xzbStr => k_is)
    (case xzbInt => k_is)
    (case xzbTuple => k_is)
    (case xzbEnum => k_is)
    (case xzbIsI => k_is)
    (case xzbRange => k_is)
    (case xzbSuper => k_is)
    (case xzbVE => k_is)
    (case xafIsName => k_is)
    (case xlfIsName => k_is)
    (case xcfIsName => k_is)
    (case xkfIsName => k_is)
    (case xafNumber => k_is)
    (case xlfNumber => k_is)
    (case xcfNumber => k_is)
    (case xkfNumber => k_is)
    (case xafCheck => k_is)
    (case xlfCheck => k_is)
    (case xcfCheck => k_is)
    (case xkfCheck => k_is)
    (case xafPInit => k_is)
    (case xifPInit => k_is)
    (case xlfPInit => k_is)
    (case xcfPInit => k_is)
    (case xkfPInit => k_is)
    (case xafPNext => k_is)
    (case xifPNext => k_is)
    (case xlfPNext => k_is)
    (case xcfPNext => k_is)
    (case xkfPNext => k_is)
    (case xafPPassed => k_is)
    (case xifPPassed => k_is)
    (case xlfPPassed => k_is)
    (case xcfPPassed => k_is)
    (case xkfPPassed => k_is)
    (case xafPName => k_is)
    (case xifPName => k_is)
    (case xlfPName => k_is)
    (case xcfPName => k_is)
    (case xkfPName => k_is)
    (case xafPAmount => k_is)
    (case xifPAmount => k_is)
    (case xlfPAmount => k_is)
    (case xcfPAmount => k_is)
    (case xkfPAmount => k_is)
    (case xafPAmounts => k_is)
    (case xifPAmounts => k_is)
    (case xlfPAmounts => k_is)
    (case xcfPAmounts => k_is)
    (case xkfPAmounts => k_is)
    (case xafReadSite => k_is)
    (case xlfReadSite => k_is)
    (case xcfReadSite => k_is)
    (case xkfReadSite => k_is)
    (case xafReadRight => k_is)
    (case xlfReadRight => k_is)
    (case xcfReadRight => k_is)
    (case xkfReadRight => k_is)
    (case xafSiteText => k_is)
    (case xlfSiteText => k_is)
    (case xcfSiteText => k_is)
    (case xkfSiteText => k_is)
    (case xafRightText => k_is)
    (case xlfRightText => k_is)
    (case xcfRightText => k_is)
    (case xkfRightText => k_is)
    (case xafRInit => k_is)
    (case xifRInit => k_is)
    (case xlfRInit => k_is)
    (case xcfRInit => k_is)
    (case xkfRInit => k_is)
    (case xafRLine => k_is)
    (case xifRLine => k_is)
    (case xlfRLine => k_is)
    (case xcfRLine => k_is)
    (case xkfRLine => k_is)
    (case xafRSiteF => k_is)
    (case xifRSiteF => k_is)
    (case xlfRSiteF => k_is)
    (case xcfRSiteF => k_is)
    (case xkfRSiteF => k_is)
    (case xafRRightF => k_is)
    (case xifRRightF => k_is)
    (case xlfRRightF => k_is)
    (case xcfRRightF => k_is)
    (case xkfRRightF => k_is)
    (case xafRTake => k_is)
    (case xifRTake => k_is)
    (case xlfRTake => k_is)
    (case xcfRTake => k_is)
    (case xkfRTake => k_is)
    (case xafROrder => k_is)
    (case xifROrder => k_is)
    (case xlfROrder => k_is)
    (case xcfROrder => k_is)
    (case xkfROrder => k_is)
    (case xafParse => k_is)
    (case xlfParse => k_is)
    (case xcfParse => k_is)
    (case xkfParse => k_is)
    (case xafCell => k_is)
    (case xlfCell => k_is)
    (case xcfCell => k_is)
    (case xkfCell => k_is)
    (case xafDigits => k_is)
    (case xlfDigits => k_is)
    (case xcfDigits => k_is)
    (case xkfDigits => k_is)
    (case xafDraw => k_is)
    (case xlfDraw => k_is)
    (case xcfDraw => k_is)
    (case xkfDraw => k_is)
    (case xafTold => k_is)
    (case xlfTold => k_is)
    (case xcfTold => k_is)
    (case xkfTold => k_is)
    (case xafWrong => k_is)
    (case xlfWrong => k_is)
    (case xcfWrong => k_is)
    (case xkfWrong => k_is)
    (case xafLaw => k_is)
    (case xlfLaw => k_is)
    (case xcfLaw => k_is)
    (case xkfLaw => k_is)
    (case xlc1 => k_is)
    (case xhp1 => rfl)
    (case xlc2 => k_is)
    (case xhp2 => rfl)
    (case xpgCP => k_is)
    (case xhdCP => k_is)
    (case xpoCP => k_is)
    (case xsaCP => k_is)
    (case xmkCP => k_is)
    (case xkcCP => k_is)
    (case xpgCR => k_is)
    (case xhdCR => k_is)
    (case xpoCR => k_is)
    (case xsaCR => k_is)
    (case xmkCR => k_is)
    (case xkcCR => k_is)
    (case xnPRows => k_is)
    (case xnRSites => k_is)
    (case xnRRights => k_is)
    (case xnRMonths => k_is)
    (case xxN => kernel_rfl)
    (case xkN => k_is)
    (case xsN => k_is)
    (case xtN => k_is)
    (case xeN => kernel_rfl)
    (case xeB => kernel_rfl)
    (case xoB => kernel_rfl)
    (case xoV => kernel_rfl)
    (case xfBl => k_is)
    (case xfBr => k_is)
    (case xbcls => k_is)
    (case xbrefs => first | rfl | decide +kernel)
    (case xbsa => k_is)
    (case xbex => k_is)
    (case xbty => k_is)
    (case xbk => k_is)
    (case xbiC => k_is)
    (case xbtI => k_is)
    (case xbany => k_is)
    (case xbsup => kernel_rfl)
    (case xbsubV => k_is)
    (case xbmro => k_is)
    (case xbxi => kernel_rfl)
    (case xbl => k_is)
    (case xbcode => k_is)
    (case xblc => k_is)
    (case xbv2 => rfl)
    (case xbfl => first | rfl | decide +kernel)
    (case xbcell => k_is)
    (case xbtop => first | rfl | decide +kernel)
    (case xicl => kernel_rfl)
    (case xihg => k_is)
    (case xihk => k_is)
    (case xiha => k_is)
    (case xihn => k_is)
    (case xiht => k_is)
    (case xihm => k_is)
    (case xihd => k_is)
    (case N1 => kernel_rfl)
    (case N2 => kernel_rfl)
