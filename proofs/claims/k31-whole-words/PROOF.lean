import PyProof.Rows.All
import Wide.All
import OpenK.AllK
import Wide.FinOn
import KE.KStateDown
import Lean
import HandS.ForMost
import HandS.IsInst
import HandS.Star
import HandS.TupAny
import HandS.TupMul
import HandS.Style
import HandS.Gcd
import HandS.MakeKwOnly
import HandS.Defaults
import HandS.OwnEq
import HandS.Codes
import HandS.Conv
import HandS.Deep
import HandS.HeadEnd
import HandS.HeadHook2
import HandS.HeadHook4
import HandS.Head2
import HandS.ExcSuper
import HandS.TupLe
import PySem.Challenge.RW_bendsigns_k31_whole_words_to_rows
import HandS.Head0
import HandS.Head1
import HandS.Head3
import HandS.HeadHook1
import KE.GoesEnum
import KE.KTupSum
import KE.KDictDisplayH
import HandS.SlotsOwn
import HandS.Nested
import HandS.ClsMeth
import KE.KRevSl
set_option Elab.async false
set_option autoImplicit false
set_option linter.all false
set_option maxRecDepth 100000
namespace K31
open PySem L2
def top (i : Nat) : Stmt := PySem.Challenge.pw_bendsigns_k31_whole_words_to_rows.main.body.getD i (.Pass ⟨0, 0, 0, 0⟩)
abbrev prg : Program := PySem.Challenge.pw_bendsigns_k31_whole_words_to_rows
end K31
namespace K31
open PySem PySem.Spec PyProof.Rows L2
/-! ### what the head looks at -/
abbrev ga := He.ga
abbrev ma := He.ma
def defsL : List (Str × Nat) := [("is_integer", 12), ("is_within", 13), ("is_place", 14), ("are_integers", 15), ("is_word", 16), ("measure", 18), ("need_bends", 24), ("fixed", 30), ("need_modulus", 40), ("need_row", 41), ("need_asked", 42), ("row_by", 43),
  ("row_exchanged", 44), ("row_behind", 45), ("words_from", 46), ("parts_of", 47), ("comes_by", 48), ("met", 49), ("shows_met", 51)]
def defsW : List (Str × Nat) := [("_law_vat", 53), ("_law_scoop", 54), ("_law_pick", 55), ("_law_exchanged", 56), ("_law_turned", 57), ("_law_drawn", 58), ("_law_row", 59), ("_law_next", 60), ("_law_far", 61), ("_law_pillars", 62),
  ("_law_target", 63), ("_law_first_right", 64), ("_law_bent", 65), ("_law_leads", 66), ("_law_shown_right", 67), ("_law_met_right", 68), ("law", 69)]
def bltL : List Str := ["isinstance", "int", "bool", "all", "sum", "tuple", "list", "len", "sorted", "range", "abs", "repr", "enumerate", "super"]
def clsL : List Str := ["Four", "Paper", "Denial", "Met", "Unmet"]
def bases : Str → List Str := fun x => if x = "Four" then ["Four"] else if x = "Paper" then ["Paper"] else if x = "Denial" then ["Denial", "Paper"] else if x = "Met" then ["Met", "Paper"] else ["Unmet", "Denial", "Paper"]
def kindL : List String := ["NoneType", "bool", "int", "str", "list", "tuple", "dict"]
def nmIn (K : PySem.W.Frag) (C : Addr) (q : Str) : Bool := match K.lookup C with
  | some ⟨_, _, .cls _, sl⟩ => (match ((sl[2]? : Option (Option Value))).join with | some (Value.str x _) => decide (x = q) | _ => false)
  | _ => false
def eqOV (a b : Option (Option Value)) : Bool := decide (a = b)
def insB (K : PySem.W.Frag) (C : Addr) : Bool := eqOV (PySem.W.findIn K (.ref C) "__class__") (some (some (.builtin "object.__class__"))) && (eqOV (PySem.W.specialIn K (.builtin "object.__class__") "__get__") (some (some (.builtin "getset_descriptor.__get__"))) &&
  (decide (PySem.W.takesIn K (.builtin "object.__class__") = some true) && (decide (PySem.W.mroIn K C (.type "object") = some true) && decide (PySem.W.kitOne K (.ref C) (.ref C) = some true))))
def nameB (K : PySem.W.Frag) (C : Addr) : Bool := match PySem.W.findCls K (.ref C) (.type "type") "__name__" with
  | some (.get g a c t) => decide (g = .builtin "getset_descriptor.__get__") && (decide (a = .builtin "type.__name__") && (decide (c = .ref C) && decide (t = .type "type")))
  | _ => false
def nmB (K : PySem.W.Frag) (C : Addr) (q : Str) : Bool := PySem.W.plainGet K C "__class__" && (PySem.W.hasDictIn K C && (insB K C && (decide (PySem.W.typeIn K (.ref C) = some (.type "type")) && (PySem.W.readsIn K C (.type "type") && (nameB K C && nmIn K C q)))))
def ownB (K : PySem.W.Frag) (C : Addr) (m : Str) (g : Addr) : Bool := eqOV (PySem.W.findIn K (.ref C) m) (some (some (.ref g))) && PySem.W.isFn K (.ref g)
def neoB (K : PySem.W.Frag) (C g : Addr) : Bool := eqOV (PySem.W.findIn K (.ref C) "__ne__") (some (some (.builtin "object.__ne__"))) && (decide (PySem.W.mroIn K C (.type "object") = some true) && ownB K C "__eq__" g)
abbrev FnC : Type := Option (Str × Str × Arguments × FuncBody × Scope × Addr × List Str × Addr)
def fnC (K : PySem.W.Frag) (f : Addr) : FnC := match K.lookup f with
  | some ⟨_, _, .func fd, _⟩ => some (fd.name, fd.qualname, fd.params, fd.body, fd.scope, fd.globals, fd.closure.map (·.1), fd.builtins)
  | _ => none
def noneB : Value → Bool
  | .none => true
  | _ => false
def fileB (K : PySem.W.Frag) (file : Str) (cd : Value) : Bool := match cd with
  | .ref c => (match K.lookup c with
    | some ⟨_, _, .fields vs, _⟩ => (match (vs[2]? : Option Value) with
      | some (.str z _) => file == z
      | _ => false)
    | _ => false)
  | _ => false
def cellB (K : PySem.W.Frag) (D : Addr) (cl : List (Str × Addr)) : Bool := match cl with
  | [(_, cc)] => (match K.lookup cc with
    | some ⟨_, _, .cell (some (.ref E)), _⟩ => decide (E = D)
    | _ => false)
  | _ => false
def clsB (K : PySem.W.Frag) (D : Addr) : Bool := match K.lookup D with
  | some ⟨_, _, .cls _, _⟩ => true
  | _ => false
def supB (file : Str) (K : PySem.W.Frag) (f D : Addr) (q : Str) : Bool := PySem.W.keepIn K (.ref f) && (clsB K D && (eqOV (PySem.W.nsIn K cStatics "thirdparty.any") (some none) && match K.lookup f with
  | some ⟨_, _, .func fd, _⟩ => noneB fd.defaults && (PySem.W.codeIn K fd.code q && (fileB K file fd.code && cellB K D fd.closure))
  | _ => false))
def naL : List (Str × Str) := [("Four", "bends"), ("Four", "total"), ("Paper", "word"), ("Paper", "parts"), ("Denial", "word"), ("Denial", "parts"), ("Met", "word"), ("Met", "parts"), ("Met", "letters"), ("Unmet", "word"), ("Unmet", "parts"), ("Unmet", "by")]
def booL : List (Str × Str) := [("Met", "Paper"), ("Unmet", "Denial")]
def eqL : List Str := ["Met", "Unmet"]
def intL : List (Str × Int) := [("PLACES", 4), ("LEAST_MODULUS", 2), ("MOST_MODULUS", 13), ("DAY", 24)]
def gloL : List Str := defsL.map (·.1) ++ (defsW.map (·.1) ++ (clsL ++ (["PRIMES", "need_four"] : List Str)))
def faL : List He.Fa := gloL.map He.Fa.glo ++ (bltL.map He.Fa.free ++ (intL.map (fun p => He.Fa.int p.1 p.2) ++ (clsL.map He.Fa.cls ++ (clsL.map He.Fa.mkr ++ naL.map fun p => He.Fa.noat p.1 p.2))))
def dTop (p : Str × Nat) : He.DefD := ⟨(p.1, none), p.1, p.1, defArgs (top p.2), defBody (top p.2), defScope (top p.2), [], []⟩
def dMe (c m q : Str) (st : Stmt) : He.DefD := ⟨(c, some m), m, q, defArgs st, defBody st, defScope st, [], []⟩
def meL : List He.DefD := [dMe "Four" "__init__" "Four.__init__" (inClass (top 28) 0), dMe "Paper" "__init__" "Paper.__init__" (inClass (top 31) 0), dMe "Paper" "__bool__" "Paper.__bool__" (inClass (top 31) 1), dMe "Paper" "__eq__" "Paper.__eq__" (inClass (top 31) 2), dMe "Denial" "__bool__" "Denial.__bool__" (inClass (top 32) 0),
  ⟨("need_four", none), "need_four", "need_four", defArgs (top 25), defBody (top 25), defScope (top 25), [.str "four"], []⟩]
def fnL : List He.DefD := defsL.map dTop ++ (defsW.map dTop ++ meL)
def primesV : List He.Dv := [.int 2, .int 3, .int 5, .int 7, .int 11, .int 13]
def exB (K : PySem.W.Frag) : Bool := (clsL.all fun x => nmB K (ga K x) x) && ((kindL.all fun t => clsL.all fun c => decide (PySem.W.kitOne K (.type t) (.ref (ga K c)) = some false)) && ((clsL.all fun d => clsL.all fun c => decide (PySem.W.kitOne K (.ref (ga K d)) (.ref (ga K c)) = some (decide (c ∈ bases d)))) &&
  ((booL.all fun p => ownB K (ga K p.1) "__bool__" (ma K (ga K p.2) "__bool__")) && ((eqL.all fun x => neoB K (ga K x) (ma K (ga K "Paper") "__eq__")) && (decide (ma K (ga K "Denial") "__init__" = ma K (ga K "Paper") "__init__") &&
  (decide (PySem.W.typeIn K (.ref (ma K (ga K "Paper") "__init__")) = some (.type "function")) && (PySem.W.fnIn K (ma K (ga K "Paper") "__init__") && (supB prg.main.file K (ma K (ga K "Met") "__init__") (ga K "Met") "Met.__init__" && (supB prg.main.file K (ma K (ga K "Unmet") "__init__") (ga K "Unmet") "Unmet.__init__" &&
  (eqOV (PySem.W.ks_superIn K (ga K "Met") (ga K "Met") "__init__") (some (some (.ref (ma K (ga K "Paper") "__init__")))) && (eqOV (PySem.W.ks_superIn K (ga K "Unmet") (ga K "Unmet") "__init__") (some (some (.ref (ma K (ga K "Paper") "__init__")))) &&
  (eqOV (PySem.W.nsIn K mainGlobals "gcd") (some (some (.builtin "math.gcd"))) && He.tupB K "PRIMES" primesV))))))))))))
def fcs (K : PySem.W.Frag) : List FnC := [fnC K (ma K (ga K "Met") "__init__"), fnC K (ma K (ga K "Unmet") "__init__")]
def fcV (q : Str) (st : Stmt) : FnC := some ("__init__", q, defArgs st, FuncBody.stmts (defBody st), defScope st, mainGlobals, [("__class__" : Str)], builtinsNs)
def fcv : List FnC := [fcV "Met.__init__" (inClass (top 38) 0), fcV "Unmet.__init__" (inClass (top 39) 0)]
abbrev AlK : Type := Bool × List He.FnW × List FnC
def obsK (K : PySem.W.Frag) : AlK := (((faL.all fun f => f.ok K) && fnL.all fun d => d.ok K) && exB K, fnL.map (fun d => He.fnW K d.at_), fcs K)
def valK : AlK := (true, fnL.map He.DefD.val, fcv)
def SaysK (K : PySem.W.Frag) : Prop := obsK K = valK
def frK (g : Addr → Option Obj) : PySem.W.Frag := He.frG g (cStatics :: He.asD g 5)
def obsKG (g : Addr → Option Obj) : AlK := obsK (frK g)
def hookK : PySem.W.Hook where
  α := AlK
  obs := fun s => obsKG s.heap.get?
  val := fun _ => valK
  says := fun _ h => ∃ K : PySem.W.Frag, K.In h ∧ SaysK K
  of := fun _ _ e => ⟨_, He.frG_in, e⟩
  keeps := fun _ _ _ ⟨K, hK, c⟩ k => ⟨K, PySem.W.Frag.In.keeps hK k, c⟩
end K31
set_option maxHeartbeats 0
namespace K31
open PySem PySem.Spec PyProof.Rows L2
/-! ### the run of the top -/
abbrev RowK : PySem.W.OpenRow := PySem.W.OpenLaw.row PySem.Challenge.rw_bendsigns_k31_whole_words_to_rows
def obK (s : PySem.W.SharedT) : AlK := obsKG (HandSHeadRun.getT s)
def nm1 : List Str := ["_wall", "BendError", "BadNumber", "BadFour", "Missing", "NoPlace", "BadText", "PLACES", "DIGITS", "is_integer", "is_within", "is_place", "are_integers", "is_word", "need_place", "measure", "MOST_DIGITS", "is_written", "Scan", "need_bends", "need_four", "let_in", "exchanged_at", "Four", "fixed", "Paper", "Denial"]
def nm2 : List Str := ["LEAST_MODULUS", "MOST_MODULUS", "DAY", "PRIMES", "Met", "Unmet", "need_modulus", "need_row", "need_asked", "row_by", "row_exchanged", "row_behind", "words_from", "parts_of", "comes_by", "met", "shows_met"]
def nm3 : List Str := ["_law_vat", "_law_scoop", "_law_pick", "_law_exchanged", "_law_turned", "_law_drawn", "_law_row", "_law_next", "_law_far", "_law_pillars", "_law_target", "_law_first_right", "_law_bent", "_law_leads", "_law_shown_right", "_law_met_right"]
def nmK : List Str := nm1 ++ nm2 ++ nm3
theorem runK (w : World) : HandSHeadRun.RunEqI RowK (PySem.W.view RowK.prog [0, 69]) hookK obK 30000 nmK w := by
  unfold HandSHeadRun.RunEqI
  kernel_rfl
end K31
namespace K31
/-! ### rows and words -/
def nx (m : Int) (r : List Int) (p : Nat) : List Int := r.set p ((2 * r.sum - 3 * r.getD p 0) % m)
def follow (m : Int) (r : List Int) (w : List Nat) : List Int := w.foldl (nx m) r
def okW (w : List Nat) : Prop := ∀ p ∈ w, p < 4
def okR (m : Int) (r : List Int) : Prop := r.length = 4 ∧ ∀ x ∈ r, 0 ≤ x ∧ x < m

theorem four {α : Type} {r : List α} (h : r.length = 4) : ∃ a b c d, r = [a, b, c, d] := by
  match r, h with
  | [a, b, c, d], _ => exact ⟨a, b, c, d, rfl⟩
theorem p4 {p : Nat} (h : p < 4) : p = 0 ∨ p = 1 ∨ p = 2 ∨ p = 3 := by omega

theorem nx_len (m : Int) (r : List Int) (p : Nat) : (nx m r p).length = r.length := by unfold nx; rw [List.length_set]
theorem nx_ok {m : Int} (hm : 0 < m) {r : List Int} (h : okR m r) (p : Nat) : okR m (nx m r p) := by
  refine ⟨(nx_len m r p).trans h.1, fun x hx => ?_⟩
  rcases List.mem_or_eq_of_mem_set hx with q | q
  · exact h.2 x q
  · subst q
    exact ⟨Int.emod_nonneg _ (by omega), Int.emod_lt_of_pos _ hm⟩
theorem follow_ok {m : Int} (hm : 0 < m) : ∀ (w : List Nat) {r : List Int}, okR m r → okR m (follow m r w)
  | [], _, h => h
  | p :: w, _, h => follow_ok hm w (nx_ok hm h p)
theorem follow_nil (m : Int) (r : List Int) : follow m r [] = r := rfl
theorem follow_cons (m : Int) (r : List Int) (p : Nat) (w : List Nat) : follow m r (p :: w) = follow m (nx m r p) w := rfl
theorem follow_app (m : Int) (r : List Int) (u v : List Nat) : follow m r (u ++ v) = follow m (follow m r u) v := List.foldl_append
theorem follow_snoc (m : Int) (r : List Int) (u : List Nat) (p : Nat) : follow m r (u ++ [p]) = nx m (follow m r u) p := by rw [follow_app]; rfl
theorem okW_nil : okW [] := fun _ h => nomatch h
theorem okW_app {u v : List Nat} (a : okW u) (b : okW v) : okW (u ++ v) := fun p h => (List.mem_append.mp h).elim (a p) (b p)
theorem okW_one {p : Nat} (h : p < 4) : okW [p] := fun q hq => by rw [List.mem_singleton.mp hq]; exact h
theorem okW_rev {u : List Nat} (a : okW u) : okW u.reverse := fun p h => a p (List.mem_reverse.mp h)
theorem okW_left {u v : List Nat} (h : okW (u ++ v)) : okW u := fun p hp => h p (List.mem_append_left _ hp)
theorem okW_right {u v : List Nat} (h : okW (u ++ v)) : okW v := fun p hp => h p (List.mem_append_right _ hp)

theorem inv4 {m x s : Int} (h0 : 0 ≤ x) (h1 : x < m) : (2 * (s + (2 * (s + x) - 3 * x) % m) - 3 * ((2 * (s + x) - 3 * x) % m)) % m = x := by
  have e : (2 * (s + (2 * (s + x) - 3 * x) % m) - 3 * ((2 * (s + x) - 3 * x) % m)) = 2 * s - (2 * s - x) % m := by
    have : (2 * (s + x) - 3 * x) = 2 * s - x := by omega
    rw [this]; omega
  rw [e]
  have q : (2 * s - (2 * s - x) % m) % m = x % m := by
    rw [Int.sub_emod, Int.emod_emod_of_dvd _ (Int.dvd_refl m), ← Int.sub_emod]
    congr 1; omega
  rw [q, Int.emod_eq_of_lt h0 h1]
/-- an exchange made again -/
theorem nx_nx {m : Int} {r : List Int} (h : okR m r) {p : Nat} (hp : p < 4) : nx m (nx m r p) p = r := by
  obtain ⟨a, b, c, d, rfl⟩ := four h.1
  have ha := h.2 a (by simp)
  have hb := h.2 b (by simp)
  have hc := h.2 c (by simp)
  have hd := h.2 d (by simp)
  rcases p4 hp with rfl | rfl | rfl | rfl
  · have q := inv4 (m := m) (x := a) (s := b + c + d) ha.1 ha.2
    have e1 : (b + c + d) + a = a + (b + (c + (d + 0))) := by omega
    rw [e1] at q
    have e2 : ∀ z : Int, z + (b + (c + (d + 0))) = (b + c + d) + z := fun z => by omega
    simp only [nx, List.set_cons_zero, List.sum_cons, List.sum_nil, List.getD_cons_zero]
    rw [e2 ((2 * (a + (b + (c + (d + 0)))) - 3 * a) % m), q]
  · have q := inv4 (m := m) (x := b) (s := a + c + d) hb.1 hb.2
    have e1 : (a + c + d) + b = a + (b + (c + (d + 0))) := by omega
    rw [e1] at q
    have e2 : ∀ z : Int, a + (z + (c + (d + 0))) = (a + c + d) + z := fun z => by omega
    simp only [nx, List.set_cons_zero, List.set_cons_succ, List.sum_cons, List.sum_nil, List.getD_cons_zero, List.getD_cons_succ]
    rw [e2 ((2 * (a + (b + (c + (d + 0)))) - 3 * b) % m), q]
  · have q := inv4 (m := m) (x := c) (s := a + b + d) hc.1 hc.2
    have e1 : (a + b + d) + c = a + (b + (c + (d + 0))) := by omega
    rw [e1] at q
    have e2 : ∀ z : Int, a + (b + (z + (d + 0))) = (a + b + d) + z := fun z => by omega
    simp only [nx, List.set_cons_zero, List.set_cons_succ, List.sum_cons, List.sum_nil, List.getD_cons_zero, List.getD_cons_succ]
    rw [e2 ((2 * (a + (b + (c + (d + 0)))) - 3 * c) % m), q]
  · have q := inv4 (m := m) (x := d) (s := a + b + c) hd.1 hd.2
    have e1 : (a + b + c) + d = a + (b + (c + (d + 0))) := by omega
    rw [e1] at q
    have e2 : ∀ z : Int, a + (b + (c + (z + 0))) = (a + b + c) + z := fun z => by omega
    simp only [nx, List.set_cons_zero, List.set_cons_succ, List.sum_cons, List.sum_nil, List.getD_cons_zero, List.getD_cons_succ]
    rw [e2 ((2 * (a + (b + (c + (d + 0)))) - 3 * d) % m), q]
theorem follow_rev {m : Int} (hm : 0 < m) : ∀ {w : List Nat} {r : List Int}, okR m r → okW w → follow m (follow m r w) w.reverse = r
  | [], _, _, _ => rfl
  | p :: w, r, h, hw => by
    have h2 : okW w := fun q hq => hw q (List.mem_cons_of_mem _ hq)
    rw [follow_cons, List.reverse_cons, follow_snoc, follow_rev hm (nx_ok hm h p) h2, nx_nx h (hw p List.mem_cons_self)]

/-! ### words in order -/
def lx : List Nat → List Nat → Prop
  | [], [] => True
  | a :: as, b :: bs => a < b ∨ (a = b ∧ lx as bs)
  | _, _ => False
def lt : List Nat → List Nat → Prop
  | a :: as, b :: bs => a < b ∨ (a = b ∧ lt as bs)
  | _, _ => False
theorem lx_refl : ∀ a, lx a a
  | [] => trivial
  | _ :: as => .inr ⟨rfl, lx_refl as⟩
theorem lx_trans : ∀ {a b c : List Nat}, lx a b → lx b c → lx a c
  | [], [], [], _, _ => trivial
  | [], [], _ :: _, _, h => h.elim
  | [], _ :: _, _, h, _ => h.elim
  | _ :: _, [], _, h, _ => h.elim
  | _ :: _, _ :: _, [], _, h => h.elim
  | x :: as, y :: bs, z :: cs, h, k => by
    rcases h with h | ⟨rfl, h⟩
    · rcases k with k | ⟨rfl, k⟩
      · exact .inl (Nat.lt_trans h k)
      · exact .inl h
    · rcases k with k | ⟨rfl, k⟩
      · exact .inl k
      · exact .inr ⟨rfl, lx_trans h k⟩
theorem lx_of_lt : ∀ {a b : List Nat}, lt a b → lx a b
  | [], [], h => h.elim
  | [], _ :: _, h => h.elim
  | _ :: _, [], h => h.elim
  | _ :: _, _ :: _, .inl h => .inl h
  | _ :: _, _ :: _, .inr ⟨e, h⟩ => .inr ⟨e, lx_of_lt h⟩
theorem not_lx : ∀ {a b : List Nat}, lt a b → ¬ lx b a
  | [], [], h => h.elim
  | [], _ :: _, h => h.elim
  | _ :: _, [], h => h.elim
  | _ :: _, _ :: _, .inl h => fun k => by
    rcases k with k | ⟨e, _⟩
    · omega
    · omega
  | _ :: _, _ :: _, .inr ⟨e, h⟩ => fun k => by
    rcases k with k | ⟨_, k⟩
    · omega
    · exact not_lx h k
theorem lx_snoc (p : Nat) : ∀ {a b : List Nat}, lx a b → lx (a ++ [p]) (b ++ [p])
  | [], [], _ => lx_refl _
  | [], _ :: _, h => h.elim
  | _ :: _, [], h => h.elim
  | _ :: _, _ :: _, .inl h => .inl h
  | _ :: _, _ :: _, .inr ⟨e, h⟩ => .inr ⟨e, lx_snoc p h⟩
theorem lt_snoc (p q : Nat) : ∀ {a b : List Nat}, lt a b → lt (a ++ [p]) (b ++ [q])
  | [], [], h => h.elim
  | [], _ :: _, h => h.elim
  | _ :: _, [], h => h.elim
  | _ :: _, _ :: _, .inl h => .inl h
  | _ :: _, _ :: _, .inr ⟨e, h⟩ => .inr ⟨e, lt_snoc p q h⟩
theorem lt_last {p q : Nat} (h : p < q) (u v : List Nat) : ∀ a : List Nat, lt (a ++ p :: u) (a ++ q :: v)
  | [] => .inl h
  | _ :: as => .inr ⟨rfl, lt_last h u v as⟩
/-- w is no longer than u, and not behind it -/
def Bst (w u : List Nat) : Prop := w.length < u.length ∨ (w.length = u.length ∧ lx w u)
theorem Bst.le {w u : List Nat} (h : Bst w u) : w.length ≤ u.length := by
  rcases h with h | ⟨h, _⟩ <;> omega

/-! ### the tables -/
abbrev Tab := List (List Int × List Nat)
def keysT (t : Tab) : List (List Int) := t.map (·.1)
theorem mem_keys {t : Tab} {r : List Int} : r ∈ keysT t ↔ ∃ w, (r, w) ∈ t := by
  unfold keysT
  rw [List.mem_map]
  constructor
  · rintro ⟨⟨a, b⟩, h, rfl⟩; exact ⟨b, h⟩
  · rintro ⟨w, h⟩; exact ⟨_, h, rfl⟩
theorem uniq {r : List Int} {w v : List Nat} : ∀ {t : Tab}, (keysT t).Nodup → (r, w) ∈ t → (r, v) ∈ t → w = v
  | [], _, a, _ => nomatch a
  | (r', w') :: t, nd, a, b => by
    obtain ⟨n1, n2⟩ := List.nodup_cons.mp (show (r' :: keysT t).Nodup from nd)
    rcases List.mem_cons.mp a with a1 | a1 <;> rcases List.mem_cons.mp b with b1 | b1
    · exact (Prod.mk.inj a1).2.trans (Prod.mk.inj b1).2.symm
    · obtain ⟨rfl, rfl⟩ := Prod.mk.inj a1
      exact absurd ((mem_keys (t := t)).mpr ⟨v, b1⟩) n1
    · obtain ⟨rfl, rfl⟩ := Prod.mk.inj b1
      exact absurd ((mem_keys (t := t)).mpr ⟨w, a1⟩) n1
    · exact uniq n2 a1 b1

structure Lay (m : Int) (s : List Int) (k : Nat) (t : Tab) (ws : List (List Nat)) : Prop where
  nd : (keysT t).Nodup
  snd : ∀ r w, (r, w) ∈ t → follow m s w = r ∧ okW w ∧ w.length ≤ k
  cmp : ∀ u, okW u → u.length ≤ k → ∃ w, (follow m s u, w) ∈ t ∧ Bst w u
  l1 : ∀ w ∈ ws, (follow m s w, w) ∈ t ∧ w.length = k
  l2 : ∀ r w, (r, w) ∈ t → w.length = k → w ∈ ws
  ord : ws.Pairwise lt
  sz : k ≤ t.length
  sz1 : ws ≠ [] → k + 1 ≤ t.length
/-- the rows of the last words -/
def rowsOf (m : Int) (s : List Int) (ws : List (List Nat)) : List (List Int) := ws.map (follow m s)
theorem lay0 (m : Int) (s : List Int) : Lay m s 0 [(s, [])] [[]] where
  nd := by simp [keysT]
  snd := fun r w h => by
    have e := List.mem_singleton.mp h
    obtain ⟨rfl, rfl⟩ := Prod.mk.inj e
    exact ⟨rfl, okW_nil, Nat.le_refl _⟩
  cmp := fun u _ hl => by
    have e : u = [] := List.length_eq_zero_iff.mp (by omega)
    subst e
    exact ⟨[], List.mem_singleton.mpr rfl, .inr ⟨rfl, trivial⟩⟩
  l1 := fun w h => by
    rw [List.mem_singleton.mp h]
    exact ⟨List.mem_singleton.mpr rfl, rfl⟩
  l2 := fun r w h _ => by
    have e := List.mem_singleton.mp h
    obtain ⟨rfl, rfl⟩ := Prod.mk.inj e
    exact List.mem_singleton.mpr rfl
  ord := List.pairwise_singleton _ _
  sz := by simp
  sz1 := by simp
/-- amid a layer: j words are done whole, of the next one p letters -/
structure Mid (m : Int) (s : List Int) (k : Nat) (t0 : Tab) (ws : List (List Nat)) (i p : Nat) (new : Tab) : Prop where
  nd : (keysT (t0 ++ new)).Nodup
  frm : ∀ r w, (r, w) ∈ new → ∃ j q, ∃ h : j < ws.length, q < 4 ∧ (j < i ∨ (j = i ∧ q < p)) ∧ w = ws[j] ++ [q] ∧ follow m s w = r
  done : ∀ j q, (h : j < ws.length) → q < 4 → (j < i ∨ (j = i ∧ q < p)) → ∃ v, (follow m s (ws[j] ++ [q]), v) ∈ t0 ++ new ∧ Bst v (ws[j] ++ [q])
  ord : (new.map (·.2)).Pairwise lt
theorem mid0 {m : Int} {s : List Int} {k : Nat} {t : Tab} {ws : List (List Nat)} (L : Lay m s k t ws) : Mid m s k t ws 0 0 [] where
  nd := by rw [List.append_nil]; exact L.nd
  frm := fun r w h => nomatch h
  done := fun j q _ _ h => by omega
  ord := List.Pairwise.nil
theorem mid_next {m : Int} {s : List Int} {k : Nat} {t : Tab} {ws : List (List Nat)} {i : Nat} {new : Tab} (M : Mid m s k t ws i 4 new) : Mid m s k t ws (i + 1) 0 new where
  nd := M.nd
  frm := fun r w h => by
    obtain ⟨j, q, hj, hq, c, e⟩ := M.frm r w h
    exact ⟨j, q, hj, hq, .inl (by omega), e⟩
  done := fun j q hj hq h => M.done j q hj hq (by omega)
  ord := M.ord
section
variable {m : Int} {s : List Int} {k : Nat} {t : Tab} {ws : List (List Nat)} {i p : Nat} {new : Tab}
theorem ws_lt (L : Lay m s k t ws) {j : Nat} (hj : j < ws.length) (hi : i < ws.length) (h : j < i) : lt ws[j] ws[i] := List.pairwise_iff_getElem.mp L.ord j i hj hi h
theorem cand_lt (L : Lay m s k t ws) {j q : Nat} (hj : j < ws.length) (hi : i < ws.length) (h : j < i ∨ (j = i ∧ q < p)) : lt (ws[j] ++ [q]) (ws[i] ++ [p]) := by
  rcases h with h | ⟨rfl, h⟩
  · exact lt_snoc _ _ (ws_lt L hj hi h)
  · exact lt_last h [] [] _
theorem ws_len (L : Lay m s k t ws) (hi : i < ws.length) : ws[i].length = k := (L.l1 _ (List.getElem_mem hi)).2
/-- the next row stands already -/
theorem mid_old (L : Lay m s k t ws) (M : Mid m s k t ws i p new) (hi : i < ws.length) (hp : p < 4) (h : nx m (follow m s ws[i]) p ∈ keysT (t ++ new)) : Mid m s k t ws i (p + 1) new where
  nd := M.nd
  frm := fun r w h => by
    obtain ⟨j, q, hj, hq, c, e⟩ := M.frm r w h
    exact ⟨j, q, hj, hq, by omega, e⟩
  done := fun j q hj hq c => by
    by_cases e : j = i ∧ q = p
    · obtain ⟨rfl, rfl⟩ := e
      obtain ⟨v, hv⟩ := mem_keys.mp h
      refine ⟨v, by rw [follow_snoc]; exact hv, ?_⟩
      rcases List.mem_append.mp hv with z | z
      · have := (L.snd _ _ z).2.2
        refine .inl ?_
        rw [List.length_append, ws_len L hj]
        simp; omega
      · obtain ⟨j', q', hj', hq', c', e', _⟩ := M.frm _ _ z
        subst e'
        refine .inr ⟨?_, lx_of_lt (cand_lt L hj' hj c')⟩
        rw [List.length_append, List.length_append, ws_len L hj, ws_len L hj']
        simp
    · exact M.done j q hj hq (by omega)
  ord := M.ord
/-- the next row is new -/
theorem mid_new (L : Lay m s k t ws) (M : Mid m s k t ws i p new) (hi : i < ws.length) (hp : p < 4) (h : nx m (follow m s ws[i]) p ∉ keysT (t ++ new)) :
    Mid m s k t ws i (p + 1) (new ++ [(nx m (follow m s ws[i]) p, ws[i] ++ [p])]) where
  nd := by
    have e : keysT (t ++ (new ++ [(nx m (follow m s ws[i]) p, ws[i] ++ [p])])) = keysT (t ++ new) ++ [nx m (follow m s ws[i]) p] := by
      unfold keysT; rw [← List.append_assoc, List.map_append (l₁ := t ++ new)]; rfl
    rw [e, List.nodup_append]
    refine ⟨M.nd, by simp, fun a ha b hb => ?_⟩
    rw [List.mem_singleton.mp hb]
    rintro rfl
    exact h ha
  frm := fun r w hm => by
    rcases List.mem_append.mp hm with hm | hm
    · obtain ⟨j, q, hj, hq, c, e⟩ := M.frm r w hm
      exact ⟨j, q, hj, hq, by omega, e⟩
    · obtain ⟨rfl, rfl⟩ := Prod.mk.inj (List.mem_singleton.mp hm)
      exact ⟨i, p, hi, hp, .inr ⟨rfl, by omega⟩, rfl, follow_snoc _ _ _ _⟩
  done := fun j q hj hq c => by
    by_cases e : j = i ∧ q = p
    · obtain ⟨rfl, rfl⟩ := e
      refine ⟨ws[j] ++ [q], by rw [follow_snoc]; simp, .inr ⟨rfl, lx_refl _⟩⟩
    · obtain ⟨v, hv, b⟩ := M.done j q hj hq (by omega)
      refine ⟨v, ?_, b⟩
      rcases List.mem_append.mp hv with z | z
      · exact List.mem_append_left _ z
      · exact List.mem_append_right _ (List.mem_append_left _ z)
  ord := by
    rw [List.map_append, List.pairwise_append]
    refine ⟨M.ord, List.pairwise_singleton _ _, fun a ha b hb => ?_⟩
    have eb : b = ws[i] ++ [p] := List.mem_singleton.mp hb
    subst eb
    obtain ⟨⟨r, w⟩, hm, rfl⟩ := List.mem_map.mp ha
    obtain ⟨j, q, hj, hq, c, e, _⟩ := M.frm r w hm
    rw [e]
    exact cand_lt L hj hi c
/-- a layer done -/
theorem mid_end (L : Lay m s k t ws) (hz : ws ≠ []) (M : Mid m s k t ws ws.length 0 new) : Lay m s (k + 1) (t ++ new) (new.map (·.2)) where
  nd := M.nd
  snd := fun r w h => by
    rcases List.mem_append.mp h with z | z
    · have := L.snd r w z
      exact ⟨this.1, this.2.1, by omega⟩
    · obtain ⟨j, q, hj, hq, c, e, f⟩ := M.frm r w z
      have hw := (L.snd _ _ (L.l1 _ (List.getElem_mem hj)).1).2.1
      refine ⟨f, ?_, ?_⟩
      · rw [e]; exact okW_app hw (okW_one hq)
      · rw [e, List.length_append, ws_len L hj]; simp
  cmp := fun u hu hl => by
    by_cases hk : u.length ≤ k
    · obtain ⟨w, hw, b⟩ := L.cmp u hu hk
      exact ⟨w, List.mem_append_left _ hw, b⟩
    · have hne : u ≠ [] := by rintro rfl; simp at hk
      obtain ⟨u', q, rfl⟩ : ∃ u' q, u = u' ++ [q] := ⟨u.dropLast, u.getLast hne, (List.dropLast_concat_getLast hne).symm⟩
      rw [List.length_append] at hl hk
      simp at hl hk
      have hq : q < 4 := okW_right hu q (by simp)
      obtain ⟨w', hw', b'⟩ := L.cmp u' (okW_left hu) (by omega)
      have hw'k := (L.snd _ _ hw').2
      have hw'f := (L.snd _ _ hw').1
      by_cases e : w'.length = k
      · have hm := L.l2 _ _ hw' e
        obtain ⟨j, hj, ej⟩ := List.mem_iff_getElem.mp hm
        obtain ⟨v, hv, bv⟩ := M.done j q hj hq (.inl hj)
        rw [ej] at hv bv
        refine ⟨v, ?_, ?_⟩
        · rw [follow_snoc] at hv ⊢
          rw [← hw'f]; exact hv
        · have bl : lx w' u' := by
            rcases b' with b' | b'
            · omega
            · exact b'.2
          rcases bv with bv | ⟨bv, bx⟩
          · refine .inl ?_
            rw [List.length_append] at bv ⊢
            simp at bv ⊢; omega
          · refine .inr ⟨?_, lx_trans bx (lx_snoc q bl)⟩
            rw [bv, List.length_append, List.length_append]
            simp; omega
      · obtain ⟨v, hv, bv⟩ := L.cmp (w' ++ [q]) (okW_app hw'k.1 (okW_one hq)) (by rw [List.length_append]; simp; omega)
        refine ⟨v, List.mem_append_left _ ?_, .inl ?_⟩
        · rw [follow_snoc] at hv ⊢
          rw [← hw'f]; exact hv
        · have h1 := (L.snd _ _ hv).2.2
          rw [List.length_append]; simp; omega
  l1 := fun w h => by
    obtain ⟨⟨r, w'⟩, hm, rfl⟩ := List.mem_map.mp h
    obtain ⟨j, q, hj, hq, c, e, f⟩ := M.frm _ _ hm
    refine ⟨List.mem_append_right _ ?_, ?_⟩
    · rw [f]; exact hm
    · show w'.length = k + 1
      rw [e, List.length_append, ws_len L hj]; simp
  l2 := fun r w h hl => by
    rcases List.mem_append.mp h with z | z
    · have := (L.snd _ _ z).2.2
      omega
    · exact List.mem_map.mpr ⟨_, z, rfl⟩
  ord := M.ord
  sz := by
    have := L.sz1 hz
    rw [List.length_append]; omega
  sz1 := fun h => by
    have := L.sz1 hz
    have : 0 < new.length := by
      cases new with
      | nil => simp at h
      | cons e r => simp
    rw [List.length_append]; omega
end
/-- the whole table -/
structure Whole (m : Int) (s : List Int) (t : Tab) : Prop where
  nd : (keysT t).Nodup
  snd : ∀ r w, (r, w) ∈ t → follow m s w = r ∧ okW w ∧ w.length ≤ t.length
  cmp : ∀ u, okW u → ∃ w, (follow m s u, w) ∈ t ∧ Bst w u
theorem whole_of {m : Int} {s : List Int} {k : Nat} {t : Tab} (L : Lay m s k t []) : Whole m s t where
  nd := L.nd
  snd := fun r w h => by
    have h1 := L.snd r w h
    have h2 := L.sz
    exact ⟨h1.1, h1.2.1, Nat.le_trans h1.2.2 h2⟩
  cmp := fun u => by
    suffices h : ∀ n (u : List Nat), u.length = n → okW u → ∃ w, (follow m s u, w) ∈ t ∧ Bst w u from h _ u rfl
    intro n
    induction n with
    | zero => intro u hl hu; exact L.cmp u hu (by omega)
    | succ n ih =>
      intro u hl hu
      have hne : u ≠ [] := by rintro rfl; simp at hl
      obtain ⟨u', q, rfl⟩ : ∃ u' q, u = u' ++ [q] := ⟨u.dropLast, u.getLast hne, (List.dropLast_concat_getLast hne).symm⟩
      rw [List.length_append] at hl
      simp at hl
      have hq : q < 4 := okW_right hu q (by simp)
      obtain ⟨w', hw', b'⟩ := ih u' hl (okW_left hu)
      have h2 := L.snd _ _ hw'
      have hk : w'.length ≠ k := fun e => nomatch L.l2 _ _ hw' e
      obtain ⟨v, hv, bv⟩ := L.cmp (w' ++ [q]) (okW_app h2.2.1 (okW_one hq)) (by rw [List.length_append]; simp; omega)
      refine ⟨v, ?_, ?_⟩
      · rw [follow_snoc] at hv ⊢
        rw [← h2.1]; exact hv
      · have ll := b'.le
        rcases bv with bv | ⟨bv, bx⟩
        · refine .inl ?_
          rw [List.length_append] at bv ⊢
          simp at bv ⊢; omega
        · rcases b' with b' | ⟨b', bl⟩
          · refine .inl ?_
            rw [bv, List.length_append, List.length_append]
            simp; omega
          · refine .inr ⟨?_, lx_trans bx (lx_snoc q bl)⟩
            rw [bv, List.length_append, List.length_append]
            simp; omega

/-! ### how many rows there may be -/
theorem nodup_lt : ∀ (n : Nat) (l : List Nat), l.Nodup → (∀ x ∈ l, x < n) → l.length ≤ n
  | 0, [], _, _ => Nat.le_refl _
  | 0, x :: _, _, h => by have := h x List.mem_cons_self; omega
  | n + 1, l, nd, h => by
    have h1 := nodup_lt n (l.erase n) (nd.erase n) fun x hx => by
      have h2 := h x (List.mem_of_mem_erase hx)
      have h3 : x ≠ n := fun e => by
        subst e
        exact (nd.not_mem_erase) hx
      omega
    have := List.length_erase (a := n) (l := l)
    split at this <;> omega
def codeR (r : List Int) : Nat := ((((r.getD 0 0).toNat * 24 + (r.getD 1 0).toNat) * 24 + (r.getD 2 0).toNat) * 24) + (r.getD 3 0).toNat
theorem codeR_lt {m : Int} (hm : m ≤ 24) {r : List Int} (h : okR m r) : codeR r < 331776 := by
  obtain ⟨a, b, c, d, rfl⟩ := four h.1
  have ha := h.2 a (by simp)
  have hb := h.2 b (by simp)
  have hc := h.2 c (by simp)
  have hd := h.2 d (by simp)
  simp [codeR]
  omega
theorem codeR_inj {m : Int} (hm : m ≤ 24) {r q : List Int} (h : okR m r) (k : okR m q) (e : codeR r = codeR q) : r = q := by
  obtain ⟨a, b, c, d, rfl⟩ := four h.1
  obtain ⟨a', b', c', d', rfl⟩ := four k.1
  have ha := h.2 a (by simp)
  have hb := h.2 b (by simp)
  have hc := h.2 c (by simp)
  have hd := h.2 d (by simp)
  have ha' := k.2 a' (by simp)
  have hb' := k.2 b' (by simp)
  have hc' := k.2 c' (by simp)
  have hd' := k.2 d' (by simp)
  simp [codeR] at e
  have : a = a' ∧ b = b' ∧ c = c' ∧ d = d' := by omega
  obtain ⟨rfl, rfl, rfl, rfl⟩ := this
  rfl
theorem rows_le {m : Int} (hm : m ≤ 24) {l : List (List Int)} (nd : l.Nodup) (h : ∀ r ∈ l, okR m r) : l.length ≤ 331776 := by
  have q := nodup_lt 331776 (l.map codeR) (by
    refine List.pairwise_map.mpr ((List.nodup_iff_pairwise_ne.mp nd).imp_of_mem fun {a b} ha hb ne e => ne (codeR_inj hm (h a ha) (h b hb) e)) ) fun x hx => by
      obtain ⟨r, hr, rfl⟩ := List.mem_map.mp hx
      exact codeR_lt hm (h r hr)
  rwa [List.length_map] at q
theorem tab_le {m : Int} (h0 : 0 < m) (hm : m ≤ 24) {s : List Int} (hs : okR m s) {t : Tab} (nd : (keysT t).Nodup) (h : ∀ r w, (r, w) ∈ t → follow m s w = r) : t.length ≤ 331776 := by
  have q := rows_le hm nd fun r hr => by
    obtain ⟨w, hw⟩ := mem_keys.mp hr
    rw [← h r w hw]
    exact follow_ok h0 w hs
  unfold keysT at q
  rwa [List.length_map] at q
theorem lay_le {m : Int} (h0 : 0 < m) (hm : m ≤ 24) {s : List Int} (hs : okR m s) {k : Nat} {t : Tab} {ws : List (List Nat)} (L : Lay m s k t ws) : t.length ≤ 331776 := tab_le h0 hm hs L.nd fun r w h => (L.snd r w h).1
theorem mid_le {m : Int} (h0 : 0 < m) (hm : m ≤ 24) {s : List Int} (hs : okR m s) {k i p : Nat} {t new : Tab} {ws : List (List Nat)} (L : Lay m s k t ws) (M : Mid m s k t ws i p new) : (t ++ new).length ≤ 331776 :=
  tab_le h0 hm hs M.nd fun r w h => by
    rcases List.mem_append.mp h with z | z
    · exact (L.snd r w z).1
    · obtain ⟨_, _, _, _, _, _, e⟩ := M.frm r w z
      exact e
end K31
namespace K31
/-! ### the value of a row in a table -/
def val (t : Tab) (r : List Int) : Option (List Nat) := (t.find? fun e => decide (e.1 = r)).map (·.2)
theorem val_some {t : Tab} (nd : (keysT t).Nodup) {r : List Int} {w : List Nat} (h : (r, w) ∈ t) : val t r = some w := by
  unfold val
  cases e : t.find? fun e => decide (e.1 = r) with
  | none =>
    have := List.find?_eq_none.mp e _ h
    simp at this
  | some x =>
    have h1 := List.mem_of_find?_eq_some e
    have h2 : x.1 = r := by simpa using List.find?_some e
    obtain ⟨a, b⟩ := x
    cases h2
    exact congrArg some (uniq nd h1 h)
theorem val_none {t : Tab} {r : List Int} (h : r ∉ keysT t) : val t r = none := by
  unfold val
  rw [List.find?_eq_none.mpr fun x hx => ?_]
  · rfl
  · intro e
    have e' : x.1 = r := by simpa using e
    exact h (mem_keys.mpr ⟨x.2, by rw [← e']; exact hx⟩)
theorem val_isSome {t : Tab} (nd : (keysT t).Nodup) (r : List Int) : (val t r).isSome = decide (r ∈ keysT t) := by
  by_cases h : r ∈ keysT t
  · obtain ⟨w, hw⟩ := mem_keys.mp h
    rw [val_some nd hw, decide_eq_true h]; rfl
  · rw [val_none h, decide_eq_false h]; rfl
/-- how many exchanges lead there -/
def dist (t : Tab) (r : List Int) : Nat := ((val t r).getD []).length
section
variable {m : Int} {s : List Int} {t : Tab}
theorem Whole.key (W : Whole m s t) {r : List Int} : r ∈ keysT t ↔ ∃ w, okW w ∧ follow m s w = r := by
  constructor
  · intro h
    obtain ⟨w, hw⟩ := mem_keys.mp h
    exact ⟨w, (W.snd _ _ hw).2.1, (W.snd _ _ hw).1⟩
  · rintro ⟨w, hw, rfl⟩
    obtain ⟨v, hv, _⟩ := W.cmp w hw
    exact mem_keys.mpr ⟨v, hv⟩
theorem Whole.dist_le (W : Whole m s t) {w : List Nat} (hw : okW w) : dist t (follow m s w) ≤ w.length := by
  obtain ⟨v, hv, b⟩ := W.cmp w hw
  unfold dist
  rw [val_some W.nd hv]
  exact b.le
theorem Whole.dist_word (W : Whole m s t) {w : List Nat} (hw : okW w) : ∃ v, okW v ∧ v.length = dist t (follow m s w) ∧ follow m s v = follow m s w := by
  obtain ⟨v, hv, b⟩ := W.cmp w hw
  refine ⟨v, (W.snd _ _ hv).2.1, ?_, (W.snd _ _ hv).1⟩
  unfold dist
  rw [val_some W.nd hv]; rfl
/-- the way back: rows from which a row comes -/
theorem back (hm : 0 < m) {r q : List Int} (hr : okR m r) {w : List Nat} (hw : okW w) (e : follow m r w = q) : follow m q w.reverse = r := by
  rw [← e]; exact follow_rev hm hr hw
theorem key_sym (hm : 0 < m) {r q : List Int} (hr : okR m r) {tr tq : Tab} (Wr : Whole m r tr) (Wq : Whole m q tq) (h : q ∈ keysT tr) : r ∈ keysT tq := by
  obtain ⟨w, hw, e⟩ := Wr.key.mp h
  exact Wq.key.mpr ⟨w.reverse, okW_rev hw, back hm hr hw e⟩
/-- the first word, followed: each letter is the first that leads nearer; Wt: the table from the goal -/
theorem first_right (hm : 0 < m) {own goal : List Int} (ho : okR m own) {t tg : Tab} (W : Whole m own t) (Wg : Whole m goal tg) {w : List Nat} (h : (goal, w) ∈ t) {a : Nat} (ha : a < w.length) :
    (∀ p, p < 4 → nx m (follow m own (w.take a)) p ∈ keysT tg) ∧
    ∃ l, ([0, 1, 2, 3].filter fun p => decide ((dist tg (nx m (follow m own (w.take a)) p) : Int) = (w.length : Int) - a - 1)) = w[a] :: l := by
  have hg := (W.snd _ _ h).1
  have hw := (W.snd _ _ h).2.1
  have okg : okR m goal := by rw [← hg]; exact follow_ok hm w ho
  have split : w = w.take a ++ w[a] :: w.drop (a + 1) := by
    rw [← List.drop_eq_getElem_cons ha, List.take_append_drop]
  have ok1 : okW (w.take a) := fun p hp => hw p (List.mem_of_mem_take hp)
  have ok2 : okW (w.drop (a + 1)) := fun p hp => hw p (List.mem_of_mem_drop hp)
  have hwa : w[a] < 4 := hw _ (List.getElem_mem ha)
  -- from any neighbour a word leads to the goal
  have reach : ∀ p, p < 4 → ∃ u, okW u ∧ follow m goal u = nx m (follow m own (w.take a)) p := fun p hp => by
    refine ⟨w.reverse ++ (w.take a ++ [p]), okW_app (okW_rev hw) (okW_app ok1 (okW_one hp)), ?_⟩
    rw [follow_app, back hm ho hw hg, follow_snoc]
  refine ⟨fun p hp => Wg.key.mpr (reach p hp), ?_⟩
  -- a word back from a neighbour
  have home : ∀ p, p < 4 → ∃ v, okW v ∧ v.length = dist tg (nx m (follow m own (w.take a)) p) ∧ follow m own (w.take a ++ p :: v) = goal := fun p hp => by
    obtain ⟨u, hu, e⟩ := reach p hp
    obtain ⟨v, hv, hl, e2⟩ := Wg.dist_word hu
    rw [e] at hl e2
    refine ⟨v.reverse, okW_rev hv, by rw [List.length_reverse]; exact hl, ?_⟩
    rw [follow_app, follow_cons]
    exact back hm okg hv e2
  have best : ∀ u, okW u → follow m own u = goal → Bst w u := fun u hu e => by
    obtain ⟨v, hv, b⟩ := W.cmp u hu
    rw [e] at hv
    rw [uniq W.nd h hv]; exact b
  have eqA : dist tg (nx m (follow m own (w.take a)) w[a]) = w.length - a - 1 := by
    have e1 : follow m (nx m (follow m own (w.take a)) w[a]) (w.drop (a + 1)) = goal := by
      rw [← follow_snoc, ← follow_app, List.append_assoc]
      show follow m own (w.take a ++ w[a] :: w.drop (a + 1)) = goal
      rw [← split]; exact hg
    have okA : okR m (nx m (follow m own (w.take a)) w[a]) := nx_ok hm (follow_ok hm _ ho) _
    have e2 := back hm okA ok2 e1
    have l1 := Wg.dist_le (okW_rev ok2)
    rw [e2, List.length_reverse, List.length_drop] at l1
    obtain ⟨v, hv, hl, e3⟩ := home w[a] hwa
    have b := (best _ (okW_app ok1 fun p hp => by
      rcases List.mem_cons.mp hp with rfl | hp
      · exact hwa
      · exact hv p hp) e3).le
    rw [List.length_append, List.length_take, List.length_cons] at b
    omega
  have less : ∀ p, p < w[a] → ¬ dist tg (nx m (follow m own (w.take a)) p) = w.length - a - 1 := fun p hp e => by
    have hp4 : p < 4 := by omega
    obtain ⟨v, hv, hl, e3⟩ := home p hp4
    have b := best _ (okW_app ok1 fun q hq => by
      rcases List.mem_cons.mp hq with rfl | hq
      · exact hp4
      · exact hv q hq) e3
    have len : (w.take a ++ p :: v).length = w.length := by
      rw [List.length_append, List.length_take, List.length_cons]; omega
    rcases b with b | ⟨_, b⟩
    · omega
    · refine not_lx ?_ b
      have z := lt_last hp v (w.drop (a + 1)) (w.take a)
      rw [← split] at z
      exact z
  have key : ∀ p, decide ((dist tg (nx m (follow m own (w.take a)) p) : Int) = (w.length : Int) - a - 1) = decide (dist tg (nx m (follow m own (w.take a)) p) = w.length - a - 1) := fun p => by
    refine decide_eq_decide.mpr ⟨fun h => by omega, fun h => by omega⟩
  simp only [key]
  have tru : decide (dist tg (nx m (follow m own (w.take a)) w[a]) = w.length - a - 1) = true := decide_eq_true eqA
  have fls : ∀ p, p < w[a] → decide (dist tg (nx m (follow m own (w.take a)) p) = w.length - a - 1) = false := fun p hp => decide_eq_false (less p hp)
  generalize w[a] = z at hwa tru fls
  rcases p4 hwa with rfl | rfl | rfl | rfl
  · rw [List.filter_cons, if_pos tru]; exact ⟨_, rfl⟩
  · rw [List.filter_cons, if_neg (by rw [fls 0 (by omega)]; decide), List.filter_cons, if_pos tru]; exact ⟨_, rfl⟩
  · rw [List.filter_cons, if_neg (by rw [fls 0 (by omega)]; decide), List.filter_cons, if_neg (by rw [fls 1 (by omega)]; decide), List.filter_cons, if_pos tru]; exact ⟨_, rfl⟩
  · rw [List.filter_cons, if_neg (by rw [fls 0 (by omega)]; decide), List.filter_cons, if_neg (by rw [fls 1 (by omega)]; decide), List.filter_cons, if_neg (by rw [fls 2 (by omega)]; decide), List.filter_cons, if_pos tru]; exact ⟨_, rfl⟩
/-- both tables tell one length -/
theorem same_dist (hm : 0 < m) {own goal : List Int} (ho : okR m own) {t tg : Tab} (W : Whole m own t) (Wg : Whole m goal tg) {w : List Nat} (h : (goal, w) ∈ t) : dist tg own = w.length := by
  have hg := (W.snd _ _ h).1
  have hw := (W.snd _ _ h).2.1
  have okg : okR m goal := by rw [← hg]; exact follow_ok hm w ho
  have e := back hm ho hw hg
  have l1 := Wg.dist_le (okW_rev hw)
  rw [e, List.length_reverse] at l1
  obtain ⟨v, hv, hl, e2⟩ := Wg.dist_word (okW_rev hw)
  rw [e] at hl e2
  have e3 := back hm okg hv e2
  obtain ⟨u, hu, b⟩ := W.cmp _ (okW_rev hv)
  rw [e3] at hu
  have := uniq W.nd h hu
  subst this
  have := b.le
  rw [List.length_reverse] at this
  omega
end
end K31
namespace K31
/-! ### rests -/
def R (r : List Int) (q : Int) : List Int := r.map (· % q)
def exch (b : List Int) (p : Nat) : List Int := b.set p (2 * b.sum - 3 * b.getD p 0)
def exF (b : List Int) (w : List Nat) : List Int := w.foldl exch b
theorem exch_len (b : List Int) (p : Nat) : (exch b p).length = b.length := by unfold exch; rw [List.length_set]
theorem exF_len : ∀ (w : List Nat) (b : List Int), (exF b w).length = b.length
  | [], _ => rfl
  | p :: w, b => (exF_len w (exch b p)).trans (exch_len b p)
theorem R_len (r : List Int) (q : Int) : (R r q).length = r.length := List.length_map _
theorem R_ok {b : List Int} (h : b.length = 4) {q : Int} (hq : 0 < q) : okR q (R b q) := ⟨(R_len b q).trans h, fun x hx => by
  obtain ⟨y, _, rfl⟩ := List.mem_map.mp hx
  exact ⟨Int.emod_nonneg _ (by omega), Int.emod_lt_of_pos _ hq⟩⟩
theorem R_sum (q : Int) : ∀ b : List Int, (R b q).sum % q = b.sum % q
  | [] => rfl
  | x :: b => by
    show (x % q + (R b q).sum) % q = (x + b.sum) % q
    rw [Int.add_emod, R_sum q b, Int.emod_emod_of_dvd _ (Int.dvd_refl q), ← Int.add_emod]
theorem R_getD (q : Int) (b : List Int) (p : Nat) : (R b q).getD p 0 = b.getD p 0 % q := by
  unfold R
  rw [List.getD_eq_getElem?_getD, List.getD_eq_getElem?_getD, List.getElem?_map]
  cases b[p]? <;> simp
theorem R_R {m q : Int} (h : q ∣ m) (b : List Int) : R (R b m) q = R b q := by
  unfold R
  rw [List.map_map]
  exact List.map_congr_left fun x _ => Int.emod_emod_of_dvd x h
theorem R_set (q : Int) (b : List Int) (p : Nat) (y : Int) : R (b.set p y) q = (R b q).set p (y % q) := by
  unfold R
  rw [List.map_set]
theorem form_mod (q s x : Int) : (2 * (s % q) - 3 * (x % q)) % q = (2 * s - 3 * x) % q := by
  rw [Int.sub_emod, Int.mul_emod, Int.emod_emod_of_dvd _ (Int.dvd_refl q), ← Int.mul_emod, Int.mul_emod 3, Int.emod_emod_of_dvd _ (Int.dvd_refl q), ← Int.mul_emod, ← Int.sub_emod]
theorem nx_form (q : Int) (b : List Int) (p : Nat) : (2 * (R b q).sum - 3 * (R b q).getD p 0) % q = (2 * b.sum - 3 * b.getD p 0) % q := by
  rw [← form_mod, R_sum, R_getD, Int.emod_emod_of_dvd _ (Int.dvd_refl q), form_mod]
theorem R_exch (q : Int) (b : List Int) (p : Nat) : R (exch b p) q = nx q (R b q) p := by
  unfold exch nx
  rw [R_set, nx_form]
theorem R_nx {m q : Int} (h : q ∣ m) (r : List Int) (p : Nat) : R (nx m r p) q = nx q (R r q) p := by
  unfold nx
  rw [R_set, Int.emod_emod_of_dvd _ h, nx_form]
theorem R_exF (q : Int) : ∀ (w : List Nat) (b : List Int), R (exF b w) q = follow q (R b q) w
  | [], _ => rfl
  | p :: w, b => by
    show R (exF (exch b p) w) q = follow q (nx q (R b q) p) w
    rw [R_exF q w, R_exch]
theorem R_follow {m q : Int} (h : q ∣ m) : ∀ (w : List Nat) (r : List Int), R (follow m r w) q = follow q (R r q) w
  | [], _ => rfl
  | p :: w, r => by
    rw [follow_cons, follow_cons, R_follow h w, R_nx h]
theorem R_self {m : Int} {t : List Int} (h : okR m t) : R t m = t := by
  unfold R
  conv => rhs; rw [← List.map_id t]
  exact List.map_congr_left fun x hx => Int.emod_eq_of_lt (h.2 x hx).1 (h.2 x hx).2
theorem exF_snoc (b : List Int) (u : List Nat) (p : Nat) : exF b (u ++ [p]) = exch (exF b u) p := by unfold exF; rw [List.foldl_append]; rfl

/-! ### small moduli -/
theorem okR4 {m a b c d : Int} (h : okR m [a, b, c, d]) : (0 ≤ a ∧ a < m) ∧ (0 ≤ b ∧ b < m) ∧ (0 ≤ c ∧ c < m) ∧ (0 ≤ d ∧ d < m) := ⟨h.2 a (by simp), h.2 b (by simp), h.2 c (by simp), h.2 d (by simp)⟩
theorem sum4 (a b c d : Int) : ([a, b, c, d] : List Int).sum = a + b + c + d := by simp [List.sum_cons]; omega
theorem nx0 (m a b c d : Int) : nx m [a, b, c, d] 0 = [(2 * (a + b + c + d) - 3 * a) % m, b, c, d] := by unfold nx; rw [sum4]; rfl
theorem nx1 (m a b c d : Int) : nx m [a, b, c, d] 1 = [a, (2 * (a + b + c + d) - 3 * b) % m, c, d] := by unfold nx; rw [sum4]; rfl
theorem nx2 (m a b c d : Int) : nx m [a, b, c, d] 2 = [a, b, (2 * (a + b + c + d) - 3 * c) % m, d] := by unfold nx; rw [sum4]; rfl
theorem nx3 (m a b c d : Int) : nx m [a, b, c, d] 3 = [a, b, c, (2 * (a + b + c + d) - 3 * d) % m] := by unfold nx; rw [sum4]; rfl
theorem idn2 {r : List Int} (h : okR 2 r) {p : Nat} (hp : p < 4) : nx 2 r p = r := by
  obtain ⟨a, b, c, d, rfl⟩ := four h.1
  have := okR4 h
  rcases p4 hp with rfl | rfl | rfl | rfl
  · rw [nx0]; congr 1; omega
  · rw [nx1]; congr 2; omega
  · rw [nx2]; congr 3; omega
  · rw [nx3]; congr 4; omega
theorem idn4 {r : List Int} (h : okR 4 r) (hs : r.sum % 2 = 0) {p : Nat} (hp : p < 4) : nx 4 r p = r := by
  obtain ⟨a, b, c, d, rfl⟩ := four h.1
  have := okR4 h
  rw [sum4] at hs
  rcases p4 hp with rfl | rfl | rfl | rfl
  · rw [nx0]; congr 1; omega
  · rw [nx1]; congr 2; omega
  · rw [nx2]; congr 3; omega
  · rw [nx3]; congr 4; omega
theorem fol2 {w : List Nat} : ∀ {r : List Int}, okR 2 r → okW w → follow 2 r w = r := by
  induction w with
  | nil => intro r _ _; rfl
  | cons p w ih =>
    intro r h hw
    rw [follow_cons, idn2 h (hw p List.mem_cons_self)]
    exact ih h fun q hq => hw q (List.mem_cons_of_mem _ hq)
theorem fol4 {w : List Nat} : ∀ {r : List Int}, okR 4 r → r.sum % 2 = 0 → okW w → follow 4 r w = r := by
  induction w with
  | nil => intro r _ _ _; rfl
  | cons p w ih =>
    intro r h hs hw
    rw [follow_cons, idn4 h hs (hw p List.mem_cons_self)]
    exact ih h hs fun q hq => hw q (List.mem_cons_of_mem _ hq)
/-- by 8: an odd place stays -/
theorem odd8 {r : List Int} (h : okR 8 r) (hs : r.sum % 4 = 2) {p : Nat} (hp : p < 4) (ho : r.getD p 0 % 2 = 1) : nx 8 r p = r := by
  obtain ⟨a, b, c, d, rfl⟩ := four h.1
  have := okR4 h
  rw [sum4] at hs
  rcases p4 hp with rfl | rfl | rfl | rfl
  · have : a % 2 = 1 := ho
    rw [nx0]; congr 1; omega
  · have : b % 2 = 1 := ho
    rw [nx1]; congr 2; omega
  · have : c % 2 = 1 := ho
    rw [nx2]; congr 3; omega
  · have : d % 2 = 1 := ho
    rw [nx3]; congr 4; omega
theorem keep8 {r : List Int} (h : okR 8 r) (hs : r.sum % 4 = 2) {p : Nat} (hp : p < 4) : (nx 8 r p).sum % 4 = 2 ∧ ∀ q, (nx 8 r p).getD q 0 % 2 = r.getD q 0 % 2 := by
  obtain ⟨a, b, c, d, rfl⟩ := four h.1
  have := okR4 h
  rw [sum4] at hs
  have low : ∀ q : Nat, ∀ x y z u x' y' z' u' : Int, x' % 2 = x % 2 → y' % 2 = y % 2 → z' % 2 = z % 2 → u' % 2 = u % 2 → ([x', y', z', u'] : List Int).getD q 0 % 2 = ([x, y, z, u] : List Int).getD q 0 % 2 := by
    intro q x y z u x' y' z' u' h1 h2 h3 h4
    match q with
    | 0 => exact h1
    | 1 => exact h2
    | 2 => exact h3
    | 3 => exact h4
    | q + 4 => rfl
  rcases p4 hp with rfl | rfl | rfl | rfl
  · rw [nx0, sum4]; exact ⟨by omega, fun q => low q _ _ _ _ _ _ _ _ (by omega) rfl rfl rfl⟩
  · rw [nx1, sum4]; exact ⟨by omega, fun q => low q _ _ _ _ _ _ _ _ rfl (by omega) rfl rfl⟩
  · rw [nx2, sum4]; exact ⟨by omega, fun q => low q _ _ _ _ _ _ _ _ rfl rfl (by omega) rfl⟩
  · rw [nx3, sum4]; exact ⟨by omega, fun q => low q _ _ _ _ _ _ _ _ rfl rfl rfl (by omega)⟩
def blk (p q : Nat) : List Nat := [p, q, p, q, p, q]
theorem blk8 {r : List Int} (h : okR 8 r) (hs : r.sum % 4 = 2) {p q : Nat} (hp : p < 4) (hq : q < 4) (ho : r.getD p 0 % 2 = 1) : follow 8 r (blk p q) = nx 8 r q := by
  have k := keep8 h hs hq
  have o1 : nx 8 r p = r := odd8 h hs hp ho
  have h1 : okR 8 (nx 8 r q) := nx_ok (by omega) h q
  have o2 : nx 8 (nx 8 r q) p = nx 8 r q := odd8 h1 k.1 hp (by rw [k.2]; exact ho)
  have o3 : nx 8 (nx 8 r q) q = r := nx_nx h hq
  show nx 8 (nx 8 (nx 8 (nx 8 (nx 8 (nx 8 r p) q) p) q) p) q = nx 8 r q
  rw [o1, o2, o3, o1]
theorem blk3_all : ∀ a ∈ ([0, 1, 2] : List Int), ∀ b ∈ ([0, 1, 2] : List Int), ∀ c ∈ ([0, 1, 2] : List Int), ∀ d ∈ ([0, 1, 2] : List Int), ∀ p ∈ [0, 1, 2, 3], ∀ q ∈ [0, 1, 2, 3], p ≠ q → follow 3 [a, b, c, d] (blk p q) = [a, b, c, d] := by decide +kernel
theorem blk3 {r : List Int} (h : okR 3 r) {p q : Nat} (hp : p < 4) (hq : q < 4) (ne : p ≠ q) : follow 3 r (blk p q) = r := by
  obtain ⟨a, b, c, d, rfl⟩ := four h.1
  have := okR4 h
  have mem : ∀ x : Int, 0 ≤ x ∧ x < 3 → x ∈ ([0, 1, 2] : List Int) := fun x hx => by simp; omega
  have memp : ∀ x : Nat, x < 4 → x ∈ ([0, 1, 2, 3] : List Nat) := fun x hx => by simp; omega
  exact blk3_all a (mem a this.1) b (mem b this.2.1) c (mem c this.2.2.1) d (mem d this.2.2.2) p (memp p hp) q (memp q hq) ne
theorem twist {p : Nat} (hp : p < 4) : ∀ (u : List Nat) {r : List Int}, okR 8 r → r.sum % 4 = 2 → r.getD p 0 % 2 = 1 → okW u →
    ∃ u', okW u' ∧ follow 8 r u' = follow 8 r u ∧ ∀ q, okR 3 q → follow 3 q u' = q
  | [], r, _, _, _, _ => ⟨[], okW_nil, rfl, fun _ _ => rfl⟩
  | q :: u, r, h, hs, ho, hu => by
    have hq : q < 4 := hu q List.mem_cons_self
    have hu2 : okW u := fun z hz => hu z (List.mem_cons_of_mem _ hz)
    by_cases hqo : r.getD q 0 % 2 = 1
    · obtain ⟨u', a, b, c⟩ := twist hp u h hs ho hu2
      exact ⟨u', a, by rw [follow_cons, odd8 h hs hq hqo]; exact b, c⟩
    · have k := keep8 h hs hq
      obtain ⟨u', a, b, c⟩ := twist hp u (nx_ok (by omega) h q) k.1 (by rw [k.2]; exact ho) hu2
      have ne : p ≠ q := fun e => hqo (by rw [← e]; exact ho)
      refine ⟨blk p q ++ u', okW_app (fun z hz => ?_) a, ?_, fun z hz => ?_⟩
      · simp [blk] at hz; omega
      · rw [follow_app, blk8 h hs hp hq ho, follow_cons]; exact b
      · rw [follow_app, blk3 hz hp hq ne]; exact c z hz

/-! ### the parts of a modulus -/
def moduli : List Int := [2, 3, 4, 5, 6, 7, 8, 9, 10, 11, 12, 13, 24]
def parts (m : Int) : List Int := if m = 6 then [2, 3] else if m = 10 then [2, 5] else if m = 12 then [3, 4] else if m = 24 then [3, 8] else [m]
theorem moduli_of {m : Int} (h : m ∈ moduli) : 2 ≤ m ∧ m ≤ 24 ∧ (m ≤ 13 ∨ m = 24) := by simp [moduli] at h; omega
theorem parts_of_mem {m : Int} (h : m ∈ moduli) : ∀ q ∈ parts m, q ∈ moduli ∧ q ∣ m := by
  have key : ∀ m ∈ moduli, ∀ q ∈ parts m, q ∈ moduli ∧ m % q = 0 := by decide
  exact fun q hq => ⟨(key m h q hq).1, Int.dvd_of_emod_eq_zero (key m h q hq).2⟩
theorem eq_of2 {m a b : Int} (key : ∀ x y : Int, 0 ≤ x → x < m → 0 ≤ y → y < m → x % a = y % a → x % b = y % b → x = y) {r t : List Int} (hr : okR m r) (ht : okR m t) (ea : R r a = R t a) (eb : R r b = R t b) : r = t := by
  obtain ⟨a1, a2, a3, a4, rfl⟩ := four hr.1
  obtain ⟨b1, b2, b3, b4, rfl⟩ := four ht.1
  have h1 := okR4 hr
  have h2 := okR4 ht
  simp [R] at ea eb
  rw [key a1 b1 h1.1.1 h1.1.2 h2.1.1 h2.1.2 ea.1 eb.1, key a2 b2 h1.2.1.1 h1.2.1.2 h2.2.1.1 h2.2.1.2 ea.2.1 eb.2.1,
    key a3 b3 h1.2.2.1.1 h1.2.2.1.2 h2.2.2.1.1 h2.2.2.1.2 ea.2.2.1 eb.2.2.1, key a4 b4 h1.2.2.2.1 h1.2.2.2.2 h2.2.2.2.1 h2.2.2.2.2 ea.2.2.2 eb.2.2.2]
/-- a row comes by a modulus if it comes by each part -/
theorem crt {m : Int} (hm : m ∈ moduli) {b t : List Int} (hb : b.length = 4) (hs : b.sum % 4 = 2) (ho : ∃ p, p < 4 ∧ b.getD p 0 % 2 = 1) (ht : okR m t)
    (h : ∀ q ∈ parts m, ∃ w, okW w ∧ follow q (R b q) w = R t q) : ∃ w, okW w ∧ follow m (R b m) w = t := by
  by_cases c6 : m = 6
  · subst c6
    obtain ⟨w2, k2, e2⟩ := h 2 (by decide)
    obtain ⟨w3, k3, e3⟩ := h 3 (by decide)
    rw [fol2 (R_ok hb (by omega)) k2] at e2
    refine ⟨w3, k3, eq_of2 (a := 2) (b := 3) (fun x y _ _ _ _ _ _ => by omega) (follow_ok (by omega) _ (R_ok hb (by omega))) ht ?_ ?_⟩
    · rw [R_follow (by decide), R_R (by decide), fol2 (R_ok hb (by omega)) k3]; exact e2
    · rw [R_follow (by decide), R_R (by decide)]; exact e3
  · by_cases c10 : m = 10
    · subst c10
      obtain ⟨w2, k2, e2⟩ := h 2 (by decide)
      obtain ⟨w3, k3, e3⟩ := h 5 (by decide)
      rw [fol2 (R_ok hb (by omega)) k2] at e2
      refine ⟨w3, k3, eq_of2 (a := 2) (b := 5) (fun x y _ _ _ _ _ _ => by omega) (follow_ok (by omega) _ (R_ok hb (by omega))) ht ?_ ?_⟩
      · rw [R_follow (by decide), R_R (by decide), fol2 (R_ok hb (by omega)) k3]; exact e2
      · rw [R_follow (by decide), R_R (by decide)]; exact e3
    · by_cases c12 : m = 12
      · subst c12
        obtain ⟨w3, k3, e3⟩ := h 3 (by decide)
        obtain ⟨w4, k4, e4⟩ := h 4 (by decide)
        have s4 : (R b 4).sum % 2 = 0 := by have := R_sum 4 b; omega
        rw [fol4 (R_ok hb (by omega)) s4 k4] at e4
        refine ⟨w3, k3, eq_of2 (a := 3) (b := 4) (fun x y _ _ _ _ _ _ => by omega) (follow_ok (by omega) _ (R_ok hb (by omega))) ht ?_ ?_⟩
        · rw [R_follow (by decide), R_R (by decide)]; exact e3
        · rw [R_follow (by decide), R_R (by decide), fol4 (R_ok hb (by omega)) s4 k3]; exact e4
      · by_cases c24 : m = 24
        · subst c24
          obtain ⟨w3, k3, e3⟩ := h 3 (by decide)
          obtain ⟨w8, k8, e8⟩ := h 8 (by decide)
          obtain ⟨p, hp, hpo⟩ := ho
          have ok8 : okR 8 (R b 8) := R_ok hb (by omega)
          have s8 : (R b 8).sum % 4 = 2 := by have := R_sum 8 b; omega
          -- where the first word leads, by 8
          have inv : ∀ (w : List Nat) (r : List Int), okW w → okR 8 r → r.sum % 4 = 2 → (follow 8 r w).sum % 4 = 2 ∧ ∀ q, (follow 8 r w).getD q 0 % 2 = r.getD q 0 % 2 := by
            intro w
            induction w with
            | nil => intro r _ _ hs; exact ⟨hs, fun _ => rfl⟩
            | cons z w ih =>
              intro r hw hr hs
              have k := keep8 hr hs (hw z List.mem_cons_self)
              obtain ⟨i1, i2⟩ := ih (nx 8 r z) (fun y hy => hw y (List.mem_cons_of_mem _ hy)) (nx_ok (by omega) hr z) k.1
              exact ⟨i1, fun q => (i2 q).trans (k.2 q)⟩
          obtain ⟨j1, j2⟩ := inv w3 _ k3 ok8 s8
          have okr : okR 8 (follow 8 (R b 8) w3) := follow_ok (by omega) _ ok8
          obtain ⟨u', a, e, f⟩ := twist hp (w3.reverse ++ w8) okr j1 (by rw [j2, R_getD]; omega) (okW_app (okW_rev k3) k8)
          rw [follow_app, follow_rev (by omega) ok8 k3, e8] at e
          refine ⟨w3 ++ u', okW_app k3 a, eq_of2 (a := 3) (b := 8) (fun x y _ _ _ _ _ _ => by omega) (follow_ok (by omega) _ (R_ok hb (by omega))) ht ?_ ?_⟩
          · rw [R_follow (by decide), R_R (by decide), follow_app, f _ (follow_ok (by omega) _ (R_ok hb (by omega)))]; exact e3
          · rw [R_follow (by decide), R_R (by decide), follow_app]; exact e
        · have e : parts m = [m] := by unfold parts; rw [if_neg c6, if_neg c10, if_neg c12, if_neg c24]
          obtain ⟨w, k, q⟩ := h m (by rw [e]; exact List.mem_singleton.mpr rfl)
          exact ⟨w, k, by rw [q]; exact R_self ht⟩
end K31
namespace K31
/-! ### fours -/
def turn (b : List Int) (p : Nat) : List Int := (b.map fun x => x + 2 * b.getD p 0).set p (-b.getD p 0)
structure Dc (b : List Int) : Prop where
  len : b.length = 4
  eq : 2 * (b.map fun x => x * x).sum = b.sum * b.sum
  pos : 0 < b.sum
  prim : ∀ d : Int, (∀ x ∈ b, d ∣ x) → d ∣ 1
  s2 : b.sum % 4 = 2
  odd : ∃ p, p < 4 ∧ b.getD p 0 % 2 = 1
def Bd (B : Int) (b : List Int) : Prop := ∀ x ∈ b, -B ≤ x ∧ x ≤ B
theorem sq4 (a b c d : Int) : (([a, b, c, d] : List Int).map fun x => x * x).sum = a * a + b * b + c * c + d * d := by
  simp only [List.map_cons, List.map_nil, List.sum_cons, List.sum_nil]; omega
theorem pos4 {a s q r : Int} (hr : s - a = r) (h : 2 * (a * a + q) = s * s) (hq : r * r ≤ 3 * q) (hs : 0 < s) : 0 < 3 * s - 4 * a := by
  subst hr
  by_cases c : 0 < 3 * s - 4 * a
  · exact c
  · exfalso
    obtain ⟨t, ht, e⟩ : ∃ t : Int, 0 ≤ t ∧ 4 * a = 3 * s + t := ⟨4 * a - 3 * s, by omega, by omega⟩
    have h1 : 8 * (a * a) - 4 * (s * a) - s * s ≤ 0 := by grind
    have h2 : 16 * (8 * (a * a) - 4 * (s * a) - s * s) = 8 * (s * s) + 32 * (s * t) + 8 * (t * t) := by grind
    have p1 : 0 < s * s := Int.mul_pos hs hs
    have p2 : 0 ≤ s * t := Int.mul_nonneg (by omega) ht
    have p3 : 0 ≤ t * t := Int.mul_nonneg ht ht
    omega
theorem sq_nn (x : Int) : 0 ≤ x * x := by
  rcases Int.le_total 0 x with h | h
  · exact Int.mul_nonneg h h
  · have := Int.mul_nonneg (show 0 ≤ -x by omega) (show 0 ≤ -x by omega)
    grind
theorem cs3 (b c d : Int) : (b + c + d) * (b + c + d) ≤ 3 * (b * b + c * c + d * d) := by
  have h1 := sq_nn (b - c)
  have h2 := sq_nn (b - d)
  have h3 := sq_nn (c - d)
  grind
theorem ex0 (a b c d : Int) : exch [a, b, c, d] 0 = [2 * (a + b + c + d) - 3 * a, b, c, d] := by unfold exch; rw [sum4]; rfl
theorem ex1 (a b c d : Int) : exch [a, b, c, d] 1 = [a, 2 * (a + b + c + d) - 3 * b, c, d] := by unfold exch; rw [sum4]; rfl
theorem ex2 (a b c d : Int) : exch [a, b, c, d] 2 = [a, b, 2 * (a + b + c + d) - 3 * c, d] := by unfold exch; rw [sum4]; rfl
theorem ex3 (a b c d : Int) : exch [a, b, c, d] 3 = [a, b, c, 2 * (a + b + c + d) - 3 * d] := by unfold exch; rw [sum4]; rfl
theorem mem4 {P : Int → Prop} {a b c d : Int} : (∀ x ∈ ([a, b, c, d] : List Int), P x) ↔ P a ∧ P b ∧ P c ∧ P d := by simp
theorem dvd_lin {d x y z u : Int} (hx : d ∣ x) (hy : d ∣ y) (hz : d ∣ z) (hu : d ∣ 2 * (u + x + y + z) - 3 * u) : d ∣ u := by
  have e : u = 2 * x + 2 * y + 2 * z - (2 * (u + x + y + z) - 3 * u) := by omega
  rw [e]
  exact Int.dvd_sub (Int.dvd_add (Int.dvd_add (Int.dvd_mul_of_dvd_right hx) (Int.dvd_mul_of_dvd_right hy)) (Int.dvd_mul_of_dvd_right hz)) hu
theorem odd_keep {a b c d a' b' c' d' : Int} (h1 : a' % 2 = a % 2) (h2 : b' % 2 = b % 2) (h3 : c' % 2 = c % 2) (h4 : d' % 2 = d % 2) (h : ∃ p, p < 4 ∧ ([a, b, c, d] : List Int).getD p 0 % 2 = 1) :
    ∃ p, p < 4 ∧ ([a', b', c', d'] : List Int).getD p 0 % 2 = 1 := by
  obtain ⟨p, hp, e⟩ := h
  refine ⟨p, hp, ?_⟩
  rcases p4 hp with rfl | rfl | rfl | rfl
  · exact h1.trans e
  · exact h2.trans e
  · exact h3.trans e
  · exact h4.trans e
theorem dc_exch {b : List Int} (h : Dc b) {p : Nat} (hp : p < 4) : Dc (exch b p) := by
  obtain ⟨hl, he, hpos, hpr, h2, ho⟩ := h
  obtain ⟨a, b, c, d, rfl⟩ := four hl
  rw [sq4, sum4] at he
  rw [sum4] at hpos h2
  rcases p4 hp with rfl | rfl | rfl | rfl
  · rw [ex0]
    have q := pos4 (a := a) (s := a + b + c + d) (q := b * b + c * c + d * d) (by omega) (by omega) (cs3 b c d) hpos
    refine ⟨rfl, by rw [sq4, sum4]; grind, by rw [sum4]; omega, fun z hz => ?_, by rw [sum4]; omega, odd_keep (by omega) rfl rfl rfl ho⟩
    rw [mem4] at hz
    exact hpr z (mem4.mpr ⟨dvd_lin hz.2.1 hz.2.2.1 hz.2.2.2 hz.1, hz.2.1, hz.2.2.1, hz.2.2.2⟩)
  · rw [ex1]
    have q := pos4 (a := b) (s := a + b + c + d) (q := a * a + c * c + d * d) (by omega) (by omega) (cs3 a c d) hpos
    refine ⟨rfl, by rw [sq4, sum4]; grind, by rw [sum4]; omega, fun z hz => ?_, by rw [sum4]; omega, odd_keep rfl (by omega) rfl rfl ho⟩
    rw [mem4] at hz
    refine hpr z (mem4.mpr ⟨hz.1, dvd_lin hz.1 hz.2.2.1 hz.2.2.2 ?_, hz.2.2.1, hz.2.2.2⟩)
    have e : 2 * (b + a + c + d) - 3 * b = 2 * (a + b + c + d) - 3 * b := by omega
    rw [e]; exact hz.2.1
  · rw [ex2]
    have q := pos4 (a := c) (s := a + b + c + d) (q := a * a + b * b + d * d) (by omega) (by omega) (cs3 a b d) hpos
    refine ⟨rfl, by rw [sq4, sum4]; grind, by rw [sum4]; omega, fun z hz => ?_, by rw [sum4]; omega, odd_keep rfl rfl (by omega) rfl ho⟩
    rw [mem4] at hz
    refine hpr z (mem4.mpr ⟨hz.1, hz.2.1, dvd_lin hz.1 hz.2.1 hz.2.2.2 ?_, hz.2.2.2⟩)
    have e : 2 * (c + a + b + d) - 3 * c = 2 * (a + b + c + d) - 3 * c := by omega
    rw [e]; exact hz.2.2.1
  · rw [ex3]
    have q := pos4 (a := d) (s := a + b + c + d) (q := a * a + b * b + c * c) (by omega) (by omega) (cs3 a b c) hpos
    refine ⟨rfl, by rw [sq4, sum4]; grind, by rw [sum4]; omega, fun z hz => ?_, by rw [sum4]; omega, odd_keep rfl rfl rfl (by omega) ho⟩
    rw [mem4] at hz
    refine hpr z (mem4.mpr ⟨hz.1, hz.2.1, hz.2.2.1, dvd_lin hz.1 hz.2.1 hz.2.2.1 ?_⟩)
    have e : 2 * (d + a + b + c) - 3 * d = 2 * (a + b + c + d) - 3 * d := by omega
    rw [e]; exact hz.2.2.2
theorem tn0 (a b c d : Int) : turn [a, b, c, d] 0 = [-a, b + 2 * a, c + 2 * a, d + 2 * a] := rfl
theorem tn1 (a b c d : Int) : turn [a, b, c, d] 1 = [a + 2 * b, -b, c + 2 * b, d + 2 * b] := rfl
theorem tn2 (a b c d : Int) : turn [a, b, c, d] 2 = [a + 2 * c, b + 2 * c, -c, d + 2 * c] := rfl
theorem tn3 (a b c d : Int) : turn [a, b, c, d] 3 = [a + 2 * d, b + 2 * d, c + 2 * d, -d] := rfl
theorem dvd_turn {z a x : Int} (ha : z ∣ -a) (h : z ∣ x + 2 * a) : z ∣ x := by
  have e : x = (x + 2 * a) + 2 * (-a) := by omega
  rw [e]
  exact Int.dvd_add h (Int.dvd_mul_of_dvd_right ha)
theorem dc_turn {b : List Int} (h : Dc b) {p : Nat} (hp : p < 4) (hb : 0 < b.getD p 0) : Dc (turn b p) := by
  obtain ⟨hl, he, hpos, hpr, h2, ho⟩ := h
  obtain ⟨a, b, c, d, rfl⟩ := four hl
  rw [sq4, sum4] at he
  rw [sum4] at hpos h2
  have neg : ∀ {z x : Int}, z ∣ -x → z ∣ x := fun h => (Int.dvd_neg).mp h
  rcases p4 hp with rfl | rfl | rfl | rfl
  · have hb' : 0 < a := hb
    rw [tn0]
    refine ⟨rfl, by rw [sq4, sum4]; grind, by rw [sum4]; omega, fun z hz => ?_, by rw [sum4]; omega, odd_keep (by omega) (by omega) (by omega) (by omega) ho⟩
    rw [mem4] at hz
    exact hpr z (mem4.mpr ⟨neg hz.1, dvd_turn hz.1 hz.2.1, dvd_turn hz.1 hz.2.2.1, dvd_turn hz.1 hz.2.2.2⟩)
  · have hb' : 0 < b := hb
    rw [tn1]
    refine ⟨rfl, by rw [sq4, sum4]; grind, by rw [sum4]; omega, fun z hz => ?_, by rw [sum4]; omega, odd_keep (by omega) (by omega) (by omega) (by omega) ho⟩
    rw [mem4] at hz
    exact hpr z (mem4.mpr ⟨dvd_turn hz.2.1 hz.1, neg hz.2.1, dvd_turn hz.2.1 hz.2.2.1, dvd_turn hz.2.1 hz.2.2.2⟩)
  · have hb' : 0 < c := hb
    rw [tn2]
    refine ⟨rfl, by rw [sq4, sum4]; grind, by rw [sum4]; omega, fun z hz => ?_, by rw [sum4]; omega, odd_keep (by omega) (by omega) (by omega) (by omega) ho⟩
    rw [mem4] at hz
    exact hpr z (mem4.mpr ⟨dvd_turn hz.2.2.1 hz.1, dvd_turn hz.2.2.1 hz.2.1, neg hz.2.2.1, dvd_turn hz.2.2.1 hz.2.2.2⟩)
  · have hb' : 0 < d := hb
    rw [tn3]
    refine ⟨rfl, by rw [sq4, sum4]; grind, by rw [sum4]; omega, fun z hz => ?_, by rw [sum4]; omega, odd_keep (by omega) (by omega) (by omega) (by omega) ho⟩
    rw [mem4] at hz
    exact hpr z (mem4.mpr ⟨dvd_turn hz.2.2.2 hz.1, dvd_turn hz.2.2.2 hz.2.1, dvd_turn hz.2.2.2 hz.2.2.1, neg hz.2.2.2⟩)
def flats : List (List Int) := [[0, 0, 1, 1], [1, 0, 0, 1], [0, 1, 0, 1], [1, 1, 0, 0]]
theorem dc_flat {b : List Int} (h : b ∈ flats) : Dc b ∧ Bd 1 b := by
  simp [flats] at h
  rcases h with rfl | rfl | rfl | rfl
  · exact ⟨⟨rfl, by decide, by decide, fun d hd => hd 1 (by simp), by decide, 2, by decide, by decide⟩, by unfold Bd; decide⟩
  · exact ⟨⟨rfl, by decide, by decide, fun d hd => hd 1 (by simp), by decide, 0, by decide, by decide⟩, by unfold Bd; decide⟩
  · exact ⟨⟨rfl, by decide, by decide, fun d hd => hd 1 (by simp), by decide, 1, by decide, by decide⟩, by unfold Bd; decide⟩
  · exact ⟨⟨rfl, by decide, by decide, fun d hd => hd 1 (by simp), by decide, 0, by decide, by decide⟩, by unfold Bd; decide⟩
theorem bd_exch {B : Int} {b : List Int} (hl : b.length = 4) (h : Bd B b) {p : Nat} (hp : p < 4) : Bd (7 * B) (exch b p) := by
  obtain ⟨a, b, c, d, rfl⟩ := four hl
  have h' := mem4.mp h
  rcases p4 hp with rfl | rfl | rfl | rfl
  · rw [ex0]; exact mem4.mpr (by omega)
  · rw [ex1]; exact mem4.mpr (by omega)
  · rw [ex2]; exact mem4.mpr (by omega)
  · rw [ex3]; exact mem4.mpr (by omega)
theorem bd_turn {B : Int} {b : List Int} (hl : b.length = 4) (h : Bd B b) {p : Nat} (hp : p < 4) : Bd (7 * B) (turn b p) := by
  obtain ⟨a, b, c, d, rfl⟩ := four hl
  have h' := mem4.mp h
  rcases p4 hp with rfl | rfl | rfl | rfl
  · rw [tn0]; exact mem4.mpr (by omega)
  · rw [tn1]; exact mem4.mpr (by omega)
  · rw [tn2]; exact mem4.mpr (by omega)
  · rw [tn3]; exact mem4.mpr (by omega)
theorem bd_mono {B C : Int} {b : List Int} (h : Bd B b) (e : B ≤ C) : Bd C b := fun x hx => by
  have := h x hx
  omega
theorem bd_sum {B : Int} {b : List Int} (hl : b.length = 4) (h : Bd B b) : -(4 * B) ≤ b.sum ∧ b.sum ≤ 4 * B := by
  obtain ⟨a, b, c, d, rfl⟩ := four hl
  have h' := mem4.mp h
  rw [sum4]; omega
/-- the measure -/
def gcdF (g x : Int) : Int := ((Nat.gcd g.natAbs x.natAbs : Nat) : Int)
theorem gcdF_dvd (g x : Int) : gcdF g x ∣ g ∧ gcdF g x ∣ x := ⟨Int.ofNat_dvd_left.mpr (Nat.gcd_dvd_left _ _), Int.ofNat_dvd_left.mpr (Nat.gcd_dvd_right _ _)⟩
theorem fold_dvd : ∀ (l : List Int) (g : Int), l.foldl gcdF g ∣ g ∧ ∀ x ∈ l, l.foldl gcdF g ∣ x
  | [], g => ⟨Int.dvd_refl _, fun _ h => nomatch h⟩
  | y :: l, g => by
    obtain ⟨h1, h2⟩ := fold_dvd l (gcdF g y)
    refine ⟨Int.dvd_trans h1 (gcdF_dvd g y).1, fun x hx => ?_⟩
    rcases List.mem_cons.mp hx with rfl | hx
    · exact Int.dvd_trans h1 (gcdF_dvd g x).2
    · exact h2 x hx
theorem measure_le {b : List Int} (h : Dc b) : b.foldl gcdF 0 ≤ 1 := Int.le_of_dvd (by omega) (h.prim _ (fold_dvd b 0).2)
end K31
namespace K31
open PySem PySem.Spec PyProof.Rows L2

section
variable {X : Cx}
/-- sum(t) of a tuple of ints -/
def rSumT (K : PySem.W.Frag) : List V → Hp → VK → Prop := fun vs H Q => ∃ (a : Addr) (ns : List Int), vs = [V.ref a] ∧ SqT K H a (ns.map V.int) ∧ Q (.int ns.sum) H
theorem cr_sumT (hc : X.calm = true) : CallR X (.builtin "sum") (rSumT X.K) := by
  intro pins s σ H vs us Q I r h
  obtain ⟨a, ns, rfl, hs, q⟩ := h
  obtain ⟨its, rv, hl, _⟩ := I.tuple hs
  rw [Vals.ref1 r]
  have hi := rv.ints
  obtain ⟨xs, hx⟩ := hi.allInts.items
  have hn : numsOf its.toArray.toList = ns := by rw [show its.toArray.toList = its from rfl, hi.numsOf]
  have hl' : s.heap.IsTuple a its.toArray := hl
  rw [hx] at hl' hn
  rw [nums_intItems] at hn
  refine PySem.W.ktm_sumG (I.ok.hd hc) hl' fun h' tk t' hk => ?_
  refine ⟨.int _, H, I.kept hk, ⟨t', ?_⟩, q⟩
  rw [preSum_eq, List.take_of_length_le (by simp), hn]

/-- the tuple at a, each item in a new pair -/
def IteT (K : PySem.W.Frag) (a : Addr) : It :=
  ⟨fun i H => ∃ (xs : List V) (x : V), SqT K H a xs ∧ xs[i]? = some x, fun i H v H' => ∃ T x, v = .ref T ∧ H T = none ∧ H' = upd H T (.tup [.int (i : Nat), x]) ∧ ∀ xs, SqT K H a xs → xs[i]? = some x, fun i H => ∃ xs : List V, SqT K H a xs ∧ xs.length = i⟩
theorem turn_enumT {P : Program} {w : World} {K : PySem.W.Frag} {elts : List Expr} {kk : Nat} {tpos : Pos} (a e it : Addr) :
    Turn P w K (.Tuple elts kk tpos) (IteT K a) [e, it] e (fun i h => (∃ old, IsEnum h e it ((i : Nat) : Int) old) ∧ h.IsTupleIter it a i ∧ e ≠ it ∧ a ≠ it ∧ e ≠ a) where
  mem := by simp
  obj := fun i h st b hb => by
    obtain ⟨⟨old, he⟩, ⟨o, ho, hc, hd⟩, _⟩ := st
    have e' : b = e ∨ b = it := by simpa using hb
    rcases e' with z | z
    · rw [z]; exact ⟨_, he, fun v q => nomatch q⟩
    · rw [z]; exact ⟨o, ho, fun v q => by rw [hd] at q; cases q⟩
  keep := fun i h h' st k => let ⟨⟨old, he⟩, hi, hne⟩ := st; ⟨⟨old, k e (by simp) _ he⟩, hi.at fun o q => k it (by simp) o q, hne⟩
  item := by
    intro X hP hw hK hc i pins s σ H E I hf st hg
    subst hP hw hK
    obtain ⟨⟨old, he⟩, hit, hne, hna, hea⟩ := st
    obtain ⟨xs, x, hq, hx⟩ := hg
    obtain ⟨its, rv, p, hz⟩ := I.tuple hq
    obtain ⟨u, hu, ru⟩ := rv.get hx
    have hel : e < s.heap.objs.size := Heap.lt_size he
    have hil : it < s.heap.objs.size := by obtain ⟨_, q, _⟩ := hit; exact Heap.lt_size q
    have D := Draws.tuple (prog := X.prog) (w := X.w) (A := X.A.in1) (I.ok.hd hc) it a hna its.toArray
    have hlt : i < its.toArray.size := by
      have := (List.getElem?_eq_some_iff.mp hu).1
      simpa using this
    refine wpAny_pyNext_enum_itemD D he ⟨hit, p⟩ hlt hne (by simp [hne, hea]) fun y h' tk hy ho hst' hT hsz hk => ?_
    have hyu : y = u := by
      have h2 : its[i]? = some y := by simpa using hy
      rw [hu] at h2; exact (Option.some.inj h2).symm
    subst hyu
    refine ⟨_, rfl, wpAny_letOwnedTupleGo_enum (s := { s with heap := h', toks := tk + 1 }) ho fun h'' he' sb => ?_⟩
    have hT2 : h''.get? s.heap.objs.size = some { cls := .type "tuple", data := .seq #[.int i tk, y] } := (sb.2 _ (Nat.ne_of_gt hel)).trans hT
    have new : ObjOk X.prog X.w (upd H s.heap.objs.size (.tup [.int (i : Nat), x])) h'' s.heap.objs.size (.tup [.int (i : Nat), x]) :=
      ⟨by show 2 ≤ sizeLine; decide, [.int i tk, y], .cons ⟨_, rfl⟩ (.cons ru .nil), ⟨_, hT2, rfl, _, rfl⟩⟩
    have I1 : Inv X pins σ (upd H s.heap.objs.size (.tup [.int (i : Nat), x])) { s with heap := h'', toks := tk + 1 } :=
      I.turnedNew (ch := [e, it]) (fun b ob hb q => (sb.2 b (fun z => hb (by simp [z]))).trans (hk b ob (fun z => hb (by simp [z])) (fun z => hb (by simp [z])) q)) hf (Nat.le_refl _) new
    refine ⟨.ref s.heap.objs.size, _, I1, rfl, ⟨_, x, rfl, I.hok.fresh (Nat.le_refl _), rfl, fun ys hy => by rw [I.tuple_inj hy hq]; exact hx⟩, ⟨⟨y, ?_⟩, hst'.1.at fun o q => (sb.2 it (Ne.symm hne)).trans q, hne, hna, hea⟩, fun b hb => ?_⟩
    · have e1 : ((i + 1 : Nat) : Int) = (i : Int) + 1 := by omega
      rw [e1]; exact he'
    · have hb' : b < s.heap.objs.size := by
        have e' : b = e ∨ b = it := by simpa using hb
        rcases e' with z | z
        · rw [z]; exact hel
        · rw [z]; exact hil
      rw [upd_ne (Nat.ne_of_lt hb')]
      exact (hf b hb).1
  done := by
    intro X hP hw hK hc i pins s σ H E I hf st hg
    subst hP hw hK
    obtain ⟨⟨old, he⟩, hit, hne, hna, hea⟩ := st
    obtain ⟨xs, hq, hx⟩ := hg
    obtain ⟨its, rv, p, hz⟩ := I.tuple hq
    obtain ⟨f0, f1, f2, f3, f4, f5⟩ := hf it (by simp)
    have hl := rv.length
    have D := Draws.tuple (prog := X.prog) (w := X.w) (A := X.A.in1) (I.ok.hd hc) it a hna its.toArray
    have e1 : its.toArray.size = i := by simp; omega
    exact wpAny_pyNext_enum_endD D he (by rw [e1]; exact ⟨hit, p⟩) fun h' eb => ⟨rfl, I.turned (t' := s.toks) (fun b o hb q => eb b o hb q) f0 f1 f3 f4 f5⟩
  self := fun A i s Q E st h => let ⟨⟨_, he⟩, _⟩ := st; wpAny_pyIter_enum he h
def iEnumT (K : PySem.W.Frag) (ta : TA) : TI := fun σ H R => ta σ H fun vs H1 => ∃ a xs, vs = [.ref a] ∧ SqT K H1 a xs ∧ R (IteT K a) H1
end
set_option maxHeartbeats 1000000 in
theorem meets_enumerate_newB1 {v : Value} {o : Obj} {H : Heap → Prop} (B : Begins v o H) :
    Meets (Builtin.«enumerate.__new__» ⟨[.type "enumerate", v], []⟩) (fun _ R s => H s.heap ∧
      R (.ok (.ret (.ref (s.heap.push o).objs.size))) { s with heap := (s.heap.push o).push { cls := .type "enumerate", data := .fields #[.none, .bool false, .ref s.heap.objs.size, rawInt 0, .none, .none] } }) :=
  .of_wp fun prog w A R s h => by
    obtain ⟨hp, g, d, tk, os⟩ := s; obtain ⟨h1, h⟩ := h
    have hsub := sub_enumerate
    have q1 : ∀ {A' : Around} {E : Value → Shared → Prop} {Q : Value → Shared → Prop}, Q (.ref hp.objs.size) ⟨hp.push o, g, d, tk, os⟩ → wpAny (model prog w) A' (pyIter v) Q E ⟨hp, g, d, tk, os⟩ :=
      fun q => B.iter prog w _ _ ⟨hp, g, d, tk, os⟩ _ h1 q
    wp_walk using q1
    refine wpAny_stack_any fun st => wpAny_pure ?_
    split
    · rename_i c _ _ _ _ _
      cases (c == Value.type "enumerate")
      · wp_walk using q1
        exact ⟨_, rfl, h⟩
      · wp_walk using q1
        exact ⟨_, rfl, h⟩
    · wp_walk using q1
      exact ⟨_, rfl, h⟩
theorem enum_begins1 {prog : Program} {w : World} {A : Around} {E : Value → Shared → Prop} {s : Shared} {v : Value} {o : Obj} {H : Heap → Prop} {Q : Value → Shared → Prop} (B : Begins v o H) (h1 : H s.heap)
    (h : ∀ h', IsEnum h' (s.heap.objs.size + 1) s.heap.objs.size 0 .none → h'.get? s.heap.objs.size = some o →
      (∀ b o, s.heap.get? b = some o → h'.get? b = some o) → Q (.ref (s.heap.objs.size + 1)) { s with heap := h' }) :
    wpAny (model prog w) A (call (.type "enumerate") [v]) Q E s := by
  refine callType_new F.called_enumerate (by decide) (F.typeCall_enumerate_1 _) (F.newCall_enumerate_1 _) (fun obj => F.args_object_init_2 obj _) F.entry_enumerate_new
    (meets_enumerate_newB1 B) ⟨h1, ?_⟩
  have hz : (s.heap.push o).objs.size = s.heap.objs.size + 1 := Heap.size_push ..
  show _ ∧ _
  rw [hz]
  have he : IsEnum ((s.heap.push o).push { cls := .type "enumerate", data := .fields #[.none, .bool false, .ref s.heap.objs.size, rawInt 0, .none, .none] }) (s.heap.objs.size + 1) s.heap.objs.size 0 .none := by
    have := Heap.get?_push_size (s.heap.push o) (o := { cls := .type "enumerate", data := .fields #[.none, .bool false, .ref s.heap.objs.size, rawInt 0, .none, .none] }) rfl
    rw [hz] at this; exact this
  refine ⟨⟨_, he, rfl⟩, h _ he (Heap.get?_push_of_some _ (Heap.get?_push_size _ B.free)) fun b o x => Heap.get?_push_of_some _ (Heap.get?_push_of_some _ x)⟩
theorem pi_enumT {X : Cx} {e : Expr} {ta : TA} {p pos tpos : Pos} {elts : List Expr} {kk : Nat} (hg : Gl X "enumerate") (hm : X.mg "enumerate" = none) (ha : PA X [e] ta) (hs : starEach [e] X.env = [(false, eval e X.env)] := by rfl) :
    PI X (.Tuple elts kk tpos) (.Call (.Name "enumerate" p) [e] [] pos) (iEnumT X.K ta) := by
  refine ⟨fun pins s σ H R I h => ?_⟩
  refine Call_ (ld_blt I hg hm boot_enumerate (PyProof.Rows.callWith_type1 (thn (ha.run pos pins s σ H _ I h) fun us s1 ⟨vs, H1, I1, r1, q1⟩ => ?_) hs rfl))
  obtain ⟨a, xs, ex, hq, q⟩ := q1
  subst ex
  cases r1 with
  | cons r rr =>
    cases rr
    cases r
    obtain ⟨its, rv, p', hz⟩ := I1.tuple hq
    have hal : a < s1.heap.objs.size := p'.lt
    refine enum_begins1 (begins_tuple a its.toArray) p' fun h' he hit hk => wpAny_pyIter_enum he ?_
    have I2 : Inv X pins σ H1 { s1 with heap := h' } := I1.kept (t' := s1.toks) hk
    refine ⟨s1.heap.objs.size + 1, [s1.heap.objs.size + 1, s1.heap.objs.size], _, _, H1, rfl, I2, turn_enumT a (s1.heap.objs.size + 1) s1.heap.objs.size, ⟨⟨.none, he⟩, ⟨_, hit, rfl, rfl⟩, Nat.succ_ne_self _, Nat.ne_of_lt hal, Nat.ne_of_gt (Nat.lt_succ_of_lt hal)⟩, fun b hb => ?_, q⟩
    have e' : b = s1.heap.objs.size + 1 ∨ b = s1.heap.objs.size := by simpa using hb
    have hle : s1.heap.objs.size ≤ b := by
      rcases e' with z | z
      · rw [z]; exact Nat.le_add_right _ _
      · rw [z]; exact Nat.le_refl _
    exact I1.fpOk hle (I1.hok.fresh hle)
/-- the turns of enumerate(t), t a tuple that stands still -/
theorem for_enumT {K : PySem.W.Frag} {a : Addr} {xs : List V} {g : TG} {tb : TS} {D : Ends} {σ : L2.St} {H : Hp} (Pv : Nat → L2.St → Hp → Prop) (h0 : Pv 0 σ H)
    (hl : ∀ i σ H, Pv i σ H → SqT K H a xs)
    (hs : ∀ i x σ H T, xs[i]? = some x → Pv i σ H → H T = none → g (.ref T) σ (upd H T (.tup [.int (i : Nat), x])) fun σ2 H2 => tb { D with nx := Pv (i + 1), ct := Pv (i + 1), bk := D.nx } σ2 H2) (hd : ∀ σ H, Pv xs.length σ H → D.nx σ H) :
    ∃ W : Nat → Nat → L2.St → Hp → Prop, (∃ m, W 0 m σ H) ∧ ∀ i m σ H, W i m σ H →
      ((IteT K a).stop i H ∧ D.nx σ H) ∨ ((IteT K a).go i H ∧ ∃ N : L2.St → Hp → Prop, (∀ σ' H', N σ' H' → ∃ m', m' < m ∧ W (i + 1) m' σ' H') ∧ ∀ x H', (IteT K a).yld i H x H' → g x σ H' fun σ2 H2 => tb { D with nx := N, ct := N, bk := D.nx } σ2 H2) := by
  refine ⟨fun i m σ H => m = xs.length - i ∧ i ≤ xs.length ∧ Pv i σ H, ⟨xs.length, by simp, Nat.zero_le _, h0⟩, ?_⟩
  rintro i m σ H ⟨rfl, hi, p⟩
  by_cases hlt : i < xs.length
  · refine .inr ⟨⟨xs, xs[i], hl i σ H p, by simp [hlt]⟩, Pv (i + 1), fun σ' H' p' => ⟨xs.length - (i + 1), by omega, rfl, hlt, p'⟩, fun x H' y => ?_⟩
    obtain ⟨T, z, e, n, e2, q⟩ := y
    subst e e2
    exact hs i z σ H T (q xs (hl i σ H p)) p n
  · have e : i = xs.length := by omega
    subst e
    exact .inl ⟨⟨xs, hl _ σ H p, rfl⟩, hd σ H p⟩
end K31
namespace K31
open PySem PySem.Spec PyProof.Rows L2

/-- {t: v}, one pair, t a tuple (tracked) -/
def tDisp1 (tk tv : TE) : TE := fun σ H Q => ∀ p, H p = none → tk σ (upd H p (.dT [])) fun x H1 => tv σ H1 fun y H2 => H2 p = some (.dT []) ∧
  ∃ (k : List Key) (b : Addr), x = .ref b ∧ H2 b = some (.tup (k.map kV)) ∧ Q (.ref p) (upd H2 p (.dT [(k, y)]))
theorem pe_disp1 {X : Cx} {pos : Pos} {k v : Expr} {tk tv : TE} (hu : X.A.units + 1 < cLine) (hk : PE X k tk) (hv : PE X v tv) : PE X (.Dict [some k] [v] pos) (tDisp1 tk tv) := by
  refine ⟨fun pins s σ H Q I q => ?_⟩
  have hn := I.hok.fresh (Nat.le_refl s.heap.objs.size)
  have I1 := I.laid (a := s.heap.objs.size) (o := .dT []) (h' := s.heap.push { cls := .type "dict", data := .dict #[] }) (t' := s.toks) (fun _ _ q => Heap.get?_push_of_some _ q) (Nat.le_refl _) (dt_empty s.heap I.big)
  have hall : ([some k] : List (Option Expr)).all (·.isSome) = true := rfl
  have run : wpAny (model X.prog X.w) X.A (evalPairs (pairTrees [some k] [v] X.env pos)) (fun ws s3 => ∃ y H2 kk b w2, Inv X pins σ H2 s3 ∧ RelV y w2 ∧ H2 s.heap.objs.size = some (.dT []) ∧ H2 b = some (.tup (kk.map kV)) ∧ ws = [(.ref b, w2)] ∧ Q (.ref s.heap.objs.size) (upd H2 s.heap.objs.size (.dT [(kk, y)]))) X.xe { s with heap := s.heap.push { cls := .type "dict", data := .dict #[] } } :=
    pairTrees_cons_walk (thn (hk.run pins _ σ _ _ I1 (q _ hn)) fun u s1 ⟨x, H1, I2, rx, q1⟩ => thn (hv.run pins s1 σ H1 _ I2 q1) fun w2 s2 ⟨y, H2, I3, ry, e, kk, b, ex, eb, q2⟩ => pairTrees_nil_walk
      ⟨y, H2, kk, b, w2, I3, ry, e, eb, by subst ex; rw [show u = .ref b from rx], q2⟩)
  have hz : (pairTrees [some k] [v] X.env pos).length = 1 := pairTrees_length [some k] [v] X.env pos rfl rfl
  rw [arm_eval_Dict, zip_pairTrees [some k] [v] X.env pos rfl rfl, dictDisplay_pairs (pairTrees [some k] [v] X.env pos) (by intro h; rw [h] at hz; cases hz) (by omega)]
  refine wpAny_bind (wpAny_standAt (wpAny_bind (wpAny_subDictH (knd := tupleKind (mixKind X.prog X.w)) (show _ from by show _ < _; omega) (by omega) ?_)))
  refine thn run fun ws s3 ⟨y, H2, kk, b, w2, I3, ry, e, eb, ew, q2⟩ => ?_
  subst ew
  obtain ⟨z, hd, xs0, r0, dd⟩ := dt_of I3.hok e
  cases r0
  have hb := key_of I3.hok eb
  refine ⟨[(kk, b, w2)], ⟨rfl, rfl, hb, trivial⟩, dd, fun h' tk' dd' hs => wpAny_pure ⟨.ref s.heap.objs.size, _, ?_, rfl, q2⟩⟩
  have he : ∃ q, h'.get? s.heap.objs.size = some q := let ⟨q, _, _, hq, _⟩ := dd'; ⟨q, hq⟩
  refine d_write I3 (by rw [e]; exact True.intro) hs he ?_
  obtain ⟨o, es, ep, h1, h2, h3, h4, h5, h6⟩ := dd'
  have hne : b ≠ s.heap.objs.size := ne_of eb e (by intro z; cases z)
  exact ⟨by show 1 ≤ sizeLine; decide, hd, [(kk, b, w2)], .cons ⟨rfl, by rw [upd_ne hne]; exact eb, ry⟩ .nil, o, es, ep, h1, h2, h3, h4, h6⟩
end K31
namespace K31
open PySem PySem.Spec PyProof.Rows L2

/-! ### repr of a list of bools, of a tuple of one int: the guards are known -/
def bls (bs : List Bool) : PyData := .list (bs.map PyData.bool)
theorem bls_len : ∀ bs : List Bool, piled (PyData.shownAll (bs.map PyData.bool)) ≤ 7 * bs.length
  | [] => by simp [PyData.shownAll, piled_nil]
  | b :: bs => by
    have := bls_len bs
    simp only [List.map_cons, PyData.shownAll, piled_cons, List.length_cons]
    have h : (PyData.shown (.bool b)).length ≤ 5 := by cases b <;> simp only [PyData.shown] <;> decide +kernel
    omega
theorem bls_shown (bs : List Bool) (h : bs.length ≤ 1000) : (bls bs).shown.length ≤ sizeLine := by
  have h1 := bls_len bs
  rw [sizeLine_eq]
  unfold bls
  simp only [PyData.shown]
  cases bs with
  | nil => simp only [List.map_nil, PyData.shownAll]; decide +kernel
  | cons b bs =>
    simp only [List.map_cons, PyData.shownAll, piled_cons] at h1 ⊢
    generalize (PyData.shown (.bool b)) = t at *
    generalize PyData.shownAll (bs.map PyData.bool) = r at *
    have hh := textFrom_length_pos r 1 (("[" : Str) ++ (if (0 : Nat) > 0 then ", " else "" : String) ++ t) (Nat.succ_pos 0)
    have e : ((("[" : Str) ++ (if (0 : Nat) > 0 then ", " else "" : String) ++ t)).length = 1 + t.length := by
      rw [strLen_append, strLen_append]; rfl
    have hX : (listText (t :: r)).length = (textFrom 0 "[" (t :: r)).length + 1 := by
      show (textFrom 0 "[" (t :: r) ++ "]").length = _
      rw [strLen_append]; rfl
    have hY : (textFrom 0 "[" (t :: r)).length = (textFrom 1 (("[" : Str) ++ (if (0 : Nat) > 0 then ", " else "" : String) ++ t) r).length := rfl
    rw [hX, hY, hh, e]
    simp only [List.length_cons] at h h1
    omega
theorem bls_showable : ∀ bs : List Bool, PyData.showableAll (bs.map PyData.bool) = true
  | [] => by simp [PyData.showableAll]
  | b :: bs => by simp [PyData.showableAll, PyData.showable, bls_showable bs]
theorem bls_hasDict : ∀ bs : List Bool, PyData.hasDictAll (bs.map PyData.bool) = false
  | [] => by simp [PyData.hasDictAll]
  | b :: bs => by simp [PyData.hasDictAll, PyData.hasDict, bls_hasDict bs]
theorem bls_depth : ∀ bs : List Bool, PyData.depthAll (bs.map PyData.bool) ≤ 5
  | [] => by simp [PyData.depthAll]
  | b :: bs => by
    have := bls_depth bs
    simp [PyData.depthAll, PyData.depth]; omega
theorem bls_dp (K : PySem.W.Frag) (H : Hp) : ∀ bs : List Bool, DpAll K H (bs.map V.bl) (bs.map PyData.bool)
  | [] => .nil
  | b :: bs => .cons (.bl b) (bls_dp K H bs)

section
variable {X : Cx}
/-- repr(v), v a list or a tuple -/
def rRepr (K : PySem.W.Frag) : List V → Hp → VK → Prop := fun vs H Q => ∃ (a : Addr) (d : PyData), vs = [V.ref a] ∧ Dp K H (.ref a) d ∧ d.showable = true ∧ d.hasDict = false ∧ d.depth ≤ 20 ∧ d.shown.length ≤ sizeLine ∧ Q (.str d.shown) H
theorem call_reprD (hg : X.A.guards = some []) (hu : X.A.units + 64 < cLine) : CallR X (.builtin "repr") (rRepr X.K) := by
  intro pins s σ H xs us Q I r h
  obtain ⟨a, d, rfl, hd, h1, h2, h3, h4, q⟩ := h
  rw [Vals.ref1 r]
  obtain ⟨as, rd⟩ := Dp.reads I d (.ref a) (.ref a) hd rfl
  exact repr_of_reads' (h₀ := s.heap) rd h1 (PyData.noDict_hsm h2) hg (by omega) (fun _ _ e => e) (fun h' u tk hk => ⟨.str _, H, I.kept hk, ⟨u, rfl⟩, q⟩) h4
end

/-! ### promises where the guards are known -/
structure FnG (P : Program) (w : World) (K : PySem.W.Frag) (mg : Str → Option Value) (base : Heap) (CX : CXT) (k : Nat) (f : Addr) (fd : FuncData) (ps : List Str) (sp : Sp) : Prop where
  len : ∀ vs H Q E, sp vs H Q E → vs.length = ps.length
  run : ∀ (A : Around) (outer : List Env) (s : Shared) (H : Hp) (args : Args) (us : List Value) (vs : List V) (Q : VK) (E : XK), A.guards = some [] → Room k A → Env0 P w K mg base A outer s H → BindsTo s fd args (ps.zip us) → Vals vs us → sp vs H Q E →
    codeAny (model P w) A (.call (.ref f) args) (CR CX outer P w H s Q E) s

section
variable {CX : CXT} {P : Program} {w : World} {K : PySem.W.Frag} {mg : Str → Option Value} {base : Heap}
/-- a def by its body, for one entry -/
theorem FnG.of {k : Nat} {f : Addr} {name qual : Str} {params : Arguments} {body : List Stmt} {scope : Scope} {dvs : List V} {kws : List (Str × V)} {fd : FuncData}
    {N ps : List Str} {sp : Sp} (F : FunD K name qual params body scope dvs kws f fd) (S : FnScope N ps scope) (len : ∀ vs H Q E, sp vs H Q E → vs.length = ps.length)
    (hbody : ∀ (cdv : Value) (A : Around) (outer : List Env) (s : Shared) (H : Hp) (vs : List V) (Q : VK) (E : XK), A.guards = some [] → Room k (A.deeper (envOfC qual scope s.heap.objs.size f cdv)) → sp vs H Q E →
      ∃ t, PSs (cxOf CX P w K mg base N qual scope f cdv A outer s H E) body t ∧ t { nx := fun _ H' => Q .non H', rt := Q } (start N vs) H) :
    FnG P w K mg base CX (k + 1) f fd ps sp := by
  obtain ⟨oc, od, dV, kV, doc, pm, an, cdv, ct, osl, rfl, lk, hcd, _, _⟩ := F.ex
  refine ⟨len, fun A outer s H args us vs Q E hg hr e0 hb r hsp => ?_⟩
  have hl := len _ _ _ _ hsp
  have hh : ∀ b o, base.get? b = some o → s.heap.get? b = some o := fun b o e => (e0.bs b o e).1
  have KX : K.In s.heap := e0.mod.kin.keeps hh
  have hkind : ∀ y ∈ ps.zip us, scope.names.lookup y.1 = some .local ∨ (scope.names.lookup y.1 = some .cell ∧ ((cellsFrom (s.heap.objs.size + 1) scope.names []).lookup y.1).isSome = true) := by
    rintro ⟨n, v⟩ hy
    exact (S.par n (List.of_mem_zip hy).1).imp (fun q => q) fun q => ⟨q, PySem.W.cellsFrom_some _ _ _ (.inl q)⟩
  refine codeAny_call_function hr.depth (KX _ _ lk) rfl S.co S.gen rfl (PySem.W.codeRec_of KX hcd) (hb _ _ _ _ ?_)
  refine wpAny_newFunctionEnv_cells S.kind hkind fun env he s1 x => ?_
  subst he
  refine ⟨(e0.mod.nolimit.keeps hh).keeps x.toInCall.keep, codeAny_func ?_⟩
  obtain ⟨t, ht, hq⟩ := hbody cdv A outer s H vs Q E hg (hr.deeper _) hsp
  have I : Inv (cxOf CX P w K mg base N qual scope f cdv A outer s H E) [] (start N vs) H s1 := inv_start S hr.hd e0 hl r x
  refine wpAny_mono (ht.run [] s1 (start N vs) H _ I hq) (fun fl s' hs => ?_) fun e s' hs => hs
  cases fl with
  | ret u =>
    obtain ⟨v, σ', H', J, rv, q⟩ := hs
    exact ⟨v, H', J.os, J.bare, J.base, J.hok, rv, q⟩
  | next =>
    obtain ⟨σ', H', J, q⟩ := hs
    exact ⟨V.non, H', J.os, J.bare, J.base, J.hok, rfl, q⟩
  | brk =>
    obtain ⟨_, _, _, q⟩ := hs
    exact False.elim q
  | cont =>
    obtain ⟨_, _, _, q⟩ := hs
    exact False.elim q
end
section
variable {X : Cx} {CX : CXT} {k : Nat} {f : Addr} {fd : FuncData} {ps : List Str} {sp : Sp} {E : XK} {x : Str} {p pos : Pos} {e : Expr} {es : List Expr} {t : TA}
/-- f(e, ..), f's promise with known guards -/
theorem pe_callG (hgu : X.A.guards = some []) (F : FnG X.prog X.w X.K X.mg X.base CX k f fd ps sp) (hr : Room k X.A) (hg : Gl X x) (hm : X.mg x = some (.ref f)) (hk : PySem.W.keepIn X.K (.ref f) = true) (hb : Binds X.K fd ps []) (hx : Passes CX X E)
    (ha : PA X (e :: es) t) (hdb : (x == ("__debug__" : Str)) = false := by decide) (he : starEach (e :: es) X.env = (false, eval e X.env) :: starEach es X.env := by rfl) (hpl : (backTo pos (starEach es X.env)).any (·.1) = false := by rfl) :
    PE X (.Call (.Name x p) (e :: es) [] pos) (tCall sp [] E t) := by
  refine ⟨fun pins s σ H Q I h => ?_⟩
  refine wpAny_Call_Name_kw (ld_glob I hg hm ?_ hdb)
  refine PySem.W.callWith_K (h₀ := X.base) I.ok.mod.kin hk (thn (ha.run pos pins s σ H _ I h) fun us s1 ⟨vs, H1, I1, r, q⟩ => ⟨I1.kIn, ?_⟩) he hpl
  replace q : sp (vs ++ []) H1 Q E := q
  rw [List.append_nil] at q
  have hl : (us ++ []).length = ps.length := by rw [List.append_nil, ← r.length]; exact F.len _ _ _ _ q
  have hb1 := hb s1 us I1.kIn hl
  rw [List.append_nil] at hb1
  refine wpAny_call (codeAny_mono (F.run X.A X.stack s1 H1 ⟨us, []⟩ us vs Q E hgu hr I1.env0 hb1 r q) fun r' s' hq => ?_)
  cases r' with
  | error e => exact hx pins σ H1 s1 e s' I1 hq
  | ok fl =>
    cases fl with
    | ret u => exact I1.after hq
    | next => exact False.elim hq
    | brk => exact False.elim hq
    | cont => exact False.elim hq
end
end K31
namespace K31
open PySem PySem.Spec PyProof.Rows L2

/-! ### x.__class__.__name__ -/
structure Nm (K : PySem.W.Frag) (C : Addr) (q : Str) : Prop where
  pg : PySem.W.plainGet K C "__class__" = true
  hd : PySem.W.hasDictIn K C = true
  ha : PySem.W.findIn K (.ref C) "__class__" = some (some (.builtin "object.__class__"))
  hn : PySem.W.specialIn K (.builtin "object.__class__") "__get__" = some (some (.builtin "getset_descriptor.__get__"))
  tk : PySem.W.takesIn K (.builtin "object.__class__") = some true
  mo : PySem.W.mroIn K C (.type "object") = some true
  ty : PySem.W.typeIn K (.ref C) = some (.type "type")
  rd : PySem.W.readsIn K C (.type "type") = true
  fc : PySem.W.findCls K (.ref C) (.type "type") "__name__" = some (.get (.builtin "getset_descriptor.__get__") (.builtin "type.__name__") (.ref C) (.type "type"))
  nm : nmIn K C q = true
theorem dga_clsref (C : Addr) (d tp : Value) : Builtin.Getset_descriptor.descrGetArgs ⟨[d, .ref C, tp], []⟩ = pure (d, some (.ref C), PySem.W.given tp) := by kernel_rfl
theorem nmIn_of {K : PySem.W.Frag} {C : Addr} {q : Str} (h : nmIn K C q = true) : ∃ o t, K.lookup C = some o ∧ (o.slots[2]?).join = some (.str q t) := by
  unfold nmIn at h
  split at h
  · rename_i c d cd sl e
    split at h
    · rename_i x t e2
      exact ⟨_, t, e, by rw [of_decide_eq_true h] at e2; exact e2⟩
    · cases h
  · cases h
section
variable {prog : Program} {w : World} {A : Around} {E : Value → Shared → Prop} {s : Shared} {K : PySem.W.Frag} {R : Result → Shared → Prop} {C : Addr} {q : Str}
theorem name_get {tp : Value} (X : K.In s.heap) (ht : PySem.W.typeIn K (.ref C) = some (.type "type")) (hq : nmIn K C q = true) (h : ∀ t, R (.ok (.ret (.str q t))) s) :
    codeAny (model prog w) A (.call (.builtin "getset_descriptor.__get__") ⟨[.builtin "type.__name__", .ref C, tp], []⟩) R s := by
  obtain ⟨o, t0, hl, hs⟩ := nmIn_of hq
  obtain ⟨hh, g, dr, t, os⟩ := s
  have ho : hh.get? C = some o := X _ _ hl
  have L0 : PySem.W.Looks (model prog w) hh (typeOf (.ref C)) (.type "type") := PySem.W.looks_typeIn X ht
  have L1 : PySem.W.Looks (model prog w) hh (isSubtype (.type "type") (.type "type")) true := PySem.W.Looks.of_pure (by rw [isSubtype_type]; kernel_rfl)
  refine codeAny_call_builtin PySem.W.KF.slot_gs.plain PySem.W.KF.entry_gs (PySem.W.KF.slot_gs.check _ _ _ _ _ _ _ _ PySem.W.ktyn_type (PySem.W.KF.args_gs _ _ _) ?_)
  unfold Builtin.«getset_descriptor.__get__» Builtin.Getset_descriptor.descrGet
  rw [dga_clsref]
  refine wpAny_bind (wpAny_pure ?_)
  unfold Builtin.Getset_descriptor.descrGetter Builtin.Getset_descriptor.descrCheckInstance Builtin.Getset_descriptor.descrNameAndClass isInstance
  simp only [PySem.W.ktyn_owner]
  repeat lk
  refine ⟨Code.quiet_builtin _ (by decide +kernel), codeAny_builtin PySem.W.ktyn_entry ?_⟩
  unfold Builtin.«type.__name__»
  dsimp only
  unfold Builtin.keptObject
  dsimp only
  unfold slotAt
  refine wpAny_bind (wpAny_bind (wpAny_loadPart ho ?_))
  rw [hs]
  refine wpAny_pure ?_
  exact wpAny_pure (h t0)
end
def tClsName (K : PySem.W.Frag) (te : TE) : TE := fun σ H Q => te σ H fun x H1 => ∃ a C dx fs q, x = .ref a ∧ H1 a = some (.ins C dx fs) ∧ Nm K C q ∧ Q (.str q) H1
theorem pe_clsName {X : Cx} {e : Expr} {te : TE} {p1 p2 : Pos} (he : PE X e te) (hb : attributeBase e "__class__" X.env (eval e X.env) = eval e X.env)
    (hb2 : attributeBase (.Attribute e "__class__" p1) "__name__" X.env (eval (.Attribute e "__class__" p1) X.env) = eval (.Attribute e "__class__" p1) X.env) :
    PE X (.Attribute (.Attribute e "__class__" p1) "__name__" p2) (tClsName X.K te) := by
  refine ⟨fun pins s σ H Q I h => ?_⟩
  refine attr_of hb2 (attr_of hb (thn (he.run pins s σ H _ I h) fun u s1 ⟨x, H1, I1, rx, a, C, dx, fs, q, ex, ea, n, q2⟩ => ?_))
  subst ex
  obtain rfl : u = Value.ref a := rx
  obtain ⟨mA, O, _, _, _, _⟩ := ins_get I1.hok ea
  obtain ⟨od, J, _⟩ := O.look
  obtain ⟨m, F⟩ := I1.fr
  refine PySem.W.get_class F I1.ok.mod.kin J n.pg n.hd n.ha n.hn n.tk n.mo ?_
  have I2 : Inv X pins σ H1 { s1 with toks := s1.toks + 1 } := I1.tok _
  refine PySem.W.cls_bind I2.kIn n.rd n.fc (wpAny_call (name_get (s := { s1 with toks := s1.toks + 1 + 1 }) I2.kIn n.ty n.nm fun t => ?_))
  exact wpAny_of_eq (PySem.W.handedOut_of (handed_of (v := .str q) ⟨t, rfl⟩)) ⟨.str q, H1, I2.tok _, ⟨t, rfl⟩, q2⟩

/-! ### truth by an own __bool__ -/
/-- the class at C has the def at g for m -/
structure Own (K : PySem.W.Frag) (C : Addr) (m : Str) (g : Addr) : Prop where
  fi : PySem.W.findIn K (.ref C) m = some (some (.ref g))
  fn : PySem.W.isFn K (.ref g) = true
section
variable {X : Cx} {CX : CXT} {n : Nat} {sp : Sp} {E : XK}
/-- x's class C keeps its __bool__ at g, whose promise is sp -/
def rTruOwn (X : Cx) (n : Nat) : V → Hp → (Bool → Hp → Prop) → Prop := fun x H Q => ∃ a C dx fs g sp, x = .ref a ∧ H a = some (.ins C dx fs) ∧ Own X.K C "__bool__" g ∧ FnR X.prog X.w X.K X.mg X.base CX0 n g sp ∧
  sp [.ref a] H (fun z H' => ∃ b, z = .bl b ∧ Q b H') (fun _ _ _ => False)
theorem truR_own (hr : Room n X.A) : TruR X (rTruOwn X n) := by
  intro pins s σ H x v Q I r h
  obtain ⟨a, C, dx, fs, g, sp, rfl, ea, o, F, q⟩ := h
  cases (show v = Value.ref a from r)
  obtain ⟨mA, O, _, _, _, _⟩ := ins_get I.hok ea
  obtain ⟨od, J, _⟩ := O.look
  obtain ⟨m, hF⟩ := I.fr
  refine PySem.W.truthy_K hF I.ok.mod.kin J o.fi o.fn ?_
  refine wpAny_mono (wpAny_call (run_fnR (us := [.ref a]) (vs := [.ref a]) F hr pass0 I (.cons rfl .nil) q)) (fun w s' z => ?_) fun _ _ x => x
  obtain ⟨z', H', I', rz, b, ez, qz⟩ := z
  subst ez
  cases (show w = Value.bool b from rz)
  exact ⟨H', I', qz⟩
theorem pt_truOwn {a : Expr} {ta : TE} (hr : Room n X.A) (ha : PE X a ta) (he : ∀ whole, isTrue a X.env whole = (do let v ← whole; standAt a.pos; holding [v] (truthy v))) :
    PT X a (fun σ H Q => ta σ H fun x H' => rTruOwn X n x H' Q) := by
  refine ⟨fun pins s σ H Q I h => ?_⟩
  exact isTrue_plain (thn (ha.run pins s σ H _ I h) fun v s1 ⟨x, H1, I1, r1, q1⟩ => truR_own hr pins s1 σ H1 x v Q I1 r1 q1) (he _)
end

/-! ### x != y by object.__ne__ over an own __eq__ -/
theorem ne_slot : Slot "object" "__ne__" "object.__ne__" := PySem.Slot.of (owner := "object") (n := "__ne__") (by rw [typeLookup_type, builtinLookup_eq_fast]; kernel_rfl) (by decide +kernel) (by decide +kernel) (by decide +kernel) (.inl (by decide +kernel)) (by rw [isSubtype_type]; kernel_rfl)
section
variable {prog : Program} {w : World} {A : Around} {E : Value → Shared → Prop} {s : Shared} {K : PySem.W.Frag} {x C D L f : Addr} {h₀ : Heap} {m : Str → Option Value} {ox : Obj} {od : Option Obj} {name : Str} {b tb : Value}
theorem ifBound_ne {M : Model} {args : List Value} {Q : Option Value → Shared → Prop} (X : K.In s.heap) (I : PySem.W.InstAt s.heap x ox C od) (hs : PySem.W.findIn K (.ref C) "__ne__" = some (some (.builtin "object.__ne__")))
    (h : wpAny M A (call (.builtin "object.__ne__") (.ref x :: args)) (fun v => Q (some v)) E s) : wpAny M A (callSpecialIfBound? (.ref x) "__ne__" args) Q E s := by
  simp only [callSpecialIfBound?, bindSpecialIfBound?]
  refine wpAny_holding (wpAny_bind (wpAny_bind (wpAny_bind (I.type.here ((PySem.W.looks_findIn X hs).here ?_)))))
  simp only [ne_slot.bind]
  refine wpAny_bind (wpAny_askSetting (wpAny_ite ?_))
  have fin : wpAny M A (call (.builtin "object.__ne__") ([.ref x] ++ args) >>= fun v => pure (some v)) Q E s := wpAny_bind (wpAny_mono h (fun v s' h' => wpAny_pure h') fun _ _ h' => h')
  split
  · exact wpAny_bind (wpAny_pure (wpAny_pure fin))
  · exact wpAny_tryCatch (wpAny_bind (wpAny_pure (wpAny_pure fin)))
theorem obj_ne {Q : Fin → Shared → Prop} (hu : A.units + 1 < cLine) (X : K.In s.heap) (I : PySem.W.InstAt s.heap x ox C od)
    (hs : PySem.W.findIn K (.ref C) "__eq__" = some (some (.ref f))) (hf : PySem.W.isFn K (.ref f) = true)
    (hcall : wpAny (model prog w) A.in1 (call (.ref f) [.ref x, b]) (fun v s' => ∃ k, v = .bool k ∧ Q (.done (.ret (.bool (!k)))) s') E s) :
    wpAny (model prog w) A.in1 (Builtin.«object.__ne__» ⟨[.ref x, b], []⟩) Q E s := by
  have hu' : A.in1.units < cLine := hu
  unfold Builtin.«object.__ne__»
  repeat (first
    | with_reducible refine wpAny_cRoomFor hu' ?_
    | (refine wpAny_bind (m := callSpecialIfBound? (.ref x) (Str.ofString "__eq__") [b])
        (PySem.W.ifBound_K X I hs hf (wpAny_mono hcall (fun r s' hr => by
          obtain ⟨k, rfl, hq⟩ := hr
          repeat (first | exact hq | exact wpAny_pure hq | exact wpAny_truthy_bool hq | (refine wpAny_bind (m := truthy (.bool _)) (wpAny_truthy_bool ?_)) | wp_step)) fun _ _ e => e)))
    | wp_step)
theorem ne_K {Q : Value → Shared → Prop} (hu : A.units + 1 < cLine) (X : K.In s.heap) (I : PySem.W.InstAt s.heap x ox C od) (hb : PySem.W.Looks (model prog w) s.heap (typeOf b) tb) (hn : PySem.W.notFirst K C tb = true)
    (hne : PySem.W.findIn K (.ref C) "__ne__" = some (some (.builtin "object.__ne__"))) (hm : PySem.W.mroIn K C (.type "object") = some true)
    (hs : PySem.W.findIn K (.ref C) "__eq__" = some (some (.ref f))) (hf : PySem.W.isFn K (.ref f) = true)
    (h : wpAny (model prog w) A.in1 (call (.ref f) [.ref x, b]) (fun v s' => ∃ k, v = .bool k ∧ Q (.bool (!k)) s') E s) : wpAny (model prog w) A (richCompare .NotEq (.ref x) b) Q E s := by
  have L0 := I.type (M := model prog w)
  have L1 : PySem.W.Looks (model prog w) s.heap (isInstance (.ref x) (.type "object")) true := L0.andThen (PySem.W.looks_mroIn X hm)
  have one : wpAny (model prog w) A (tryCompare (.ref x) "__ne__" b) (fun r s' => ∃ v, r = some v ∧ Q v s') E s := by
    unfold tryCompare
    refine wpAny_bind (ifBound_ne X I hne (wpAny_call (codeAny_call_builtin ne_slot.plain PySem.F.cmpEntry_ne
      (PySem.W.check_slot PySem.F.cmpKind_ne PySem.F.cmpSplit_ne L1 (PySem.F.cmpArgs_ne _ _) (obj_ne hu X I hs hf (wpAny_mono h (fun v s' hv => ?_) fun _ _ e => e))))))
    obtain ⟨k, rfl, hq⟩ := hv
    exact ⟨k, rfl, wpAny_pure ⟨_, rfl, hq⟩⟩
  unfold richCompare
  simp only [oneThing_ref]
  refine wpAny_holding (wpAny_bind (wpAny_cRoomFor (Nat.lt_of_succ_lt hu) ?_))
  rw [cmpInfo_NotEq]
  dsimp only
  refine wpAny_bind (I.type.here (wpAny_bind (hb.here ?_)))
  split
  · rename_i q
    have e : PySem.W.subIn K tb (.ref C) = some false := by
      rcases Bool.or_eq_true_iff.mp hn with e | e
      · rw [beq_iff_eq.mp e] at q; simp at q
      · exact beq_iff_eq.mp e
    refine wpAny_bind ((PySem.W.looks_subIn X e).here ?_)
    simp only [Bool.false_eq_true, if_false]
    refine wpAny_bind (wpAny_mono one (fun r s' z => ?_) fun _ _ e => e)
    obtain ⟨v, rfl, hq⟩ := z
    exact wpAny_pure hq
  · refine wpAny_bind (wpAny_pure ?_)
    simp only [Bool.false_eq_true, if_false]
    refine wpAny_bind (wpAny_mono one (fun r s' z => ?_) fun _ _ e => e)
    obtain ⟨v, rfl, hq⟩ := z
    exact wpAny_pure hq
end
end K31
namespace K31
open PySem PySem.Spec PyProof.Rows L2 NdefX

/-! ### a def whose body begins with super().__init__(..) -/
/-- the def at f closes over the class at D; its code's file is the program's -/
structure SupFn (P : Program) (K : PySem.W.Frag) (f : Addr) (F : NF) (D : Addr) : Prop where
  ex : ∃ (oc kV doc pm ct : Value) (an od : Option Addr) (osl : Array (Option Value)), K.lookup f = some ⟨oc, od, .func (PySem.W.fnX F.name F.qual F.params F.body F.scope F.cl .none kV doc pm an (.ref F.c) ct), osl⟩
  code : PySem.W.codeIn K (.ref F.c) F.qual = true
  file : ∃ (o : Obj) (vs : Array Value) (z : Str) (t : Tok), K.lookup F.c = some o ∧ o.data = .fields vs ∧ vs[2]? = some (.str z t) ∧ ((P.main.file : Str) == z) = true
  cell : ∃ (cc : Addr) (o : Obj), F.cl = [(("__class__" : Str), cc)] ∧ K.lookup cc = some o ∧ o.data = .cell (some (.ref D))
  cls : ∃ o cd, K.lookup D = some o ∧ o.data = .cls cd
  op : PySem.W.nsIn K cStatics "thirdparty.any" = some none
  kp : PySem.W.keepIn K (.ref f) = true
section
variable {P : Program} {w : World} {K : PySem.W.Frag} {mg : Str → Option Value} {base : Heap} {k : Nat} {f f2 D : Addr} {F : NF} {N ps : List Str} {sp sp2 : Sp}
theorem SupFn.cells {H : Hp} {h : Heap} (SF : SupFn P K f F D) (KX : K.In h) (hn : ∀ b o, K.lookup b = some o → H b = none) : CellsAt F.cl ["__class__"] [some (.ref D)] h H := by
  obtain ⟨cc, o, e, hc, hd⟩ := SF.cell
  rw [e]
  have look : ∀ y c, List.lookup y [(("__class__" : Str), cc)] = some c → y = "__class__" ∧ c = cc := fun y c hy => by
    have := PySem.mem_of_lookup hy
    simp only [List.mem_singleton, Prod.mk.injEq] at this
    exact this
  refine ⟨rfl, fun y c hy => ?_, fun x y c h1 h2 => ?_, fun i y hy => ?_⟩
  · obtain ⟨_, rfl⟩ := look y c hy
    exact ⟨hn _ _ hc, _, o, KX _ _ hc, hd⟩
  · rw [(look x c h1).1, (look y c h2).1]
  · have hi : i = 0 := by
      cases i with
      | zero => rfl
      | succ i => simp at hy
    subst hi
    simp at hy
    subst hy
    refine ⟨cc, by simp [List.lookup], fun v hv => ?_⟩
    simp at hv
    subst hv
    exact ⟨_, rfl, o, KX _ _ hc, hd⟩
/-- a name's load -/
theorem name_load {X : Cx} {pins : List (Addr × Obj)} {σ : L2.St} {H : Hp} {s : Shared} {E : Value → Shared → Prop} {i : Nat} {x : Str} {v : V} (I : Inv X pins σ H s) (hN : X.N[i]? = some x) (hv : Vis X.env.scope x) (e : σ[i]? = some (some v)) (hd : (x == ("__debug__" : Str)) = false) (hcd : (x == ("__classdict__" : Str)) = false) :
    wpAny (model X.prog X.w) X.A (loadName X.env x) (fun u s' => RelV v u ∧ s' = s) E s := by
  obtain ⟨m, hn, hl⟩ := I.loc
  obtain ⟨u, r, l⟩ := hl i x v hN e hv
  have fin : (fun u s' => RelV v u ∧ s' = s) u s := ⟨r, rfl⟩
  rcases l with ⟨hk, hm⟩ | ⟨hk, c, hc, hcell⟩
  · exact wpAny_loadName_local I.ok.kind hk hn hm fin
  · rcases hk with hk | hk
    · exact wpAny_loadName_cell I.ok.kind hk hc hcell fin
    · exact wpAny_loadName_free I.ok.kind hk hc hcell fin hcd
/-- super().__init__(e, ..) within the body -/
theorem sup_expr {X : Cx} {pins : List (Addr × Obj)} {σ : L2.St} {H : Hp} {s : Shared} {a0 : Arg} {p0 p1 ap cp : Pos} {e : Expr} {es : List Expr} {pl : Sem Bool} {body : List Stmt} {x C dx : Addr} {fs : List (Str × V)} {t : TA} {Q : Hp → Prop} {i0 i1 : Nat}
    {fd : FuncData} {of : Obj} {c : Addr} {oc : Obj} {cs : Array Value} {z : Str} {zt : Tok} {oD : Obj} {cdD : ClassData}
    (I : Inv X pins σ H s) (hr : Room k X.A) (hfu : X.env.func = some f) (lf : X.K.lookup f = some of) (hof : of.data = .func fd) (hpar : (fd.params.posonlyargs ++ fd.params.args).head? = some a0)
    (hco : X.env.code = .ref c) (lc : X.K.lookup c = some oc) (hoc : oc.data = .fields cs) (hcs : cs[2]? = some (.str z zt)) (hfile : ((X.prog.main.file : Str) == z) = true)
    (lD : X.K.lookup D = some oD) (hoD : oD.data = .cls cdD) (hop : PySem.W.nsIn X.K cStatics "thirdparty.any" = some none)
    (hN0 : X.N[i0]? = some a0.arg) (hv0 : Vis X.env.scope a0.arg) (hd0 : (a0.arg == ("__debug__" : Str)) = false) (hdc0 : (a0.arg == ("__classdict__" : Str)) = false) (s0 : σ[i0]? = some (some (.ref x))) (hN1 : X.N[i1]? = some ("__class__" : Str)) (s1 : σ[i1]? = some (some (.ref D)))
    (hks : X.env.scope.names.lookup ("super" : Str) = some .globalImplicit) (hkc : X.env.scope.names.lookup ("__class__" : Str) = some .free)
    (hms : X.mg "super" = none) (htop : (X.prog.main.scope.names.lookup ("super" : Str)).isSome = false)
    (G : FnR X.prog X.w X.K X.mg X.base CX0 k f2 sp2) (hf2 : PySem.W.typeIn X.K (.ref f2) = some (.type "function")) (hfi : PySem.W.fnIn X.K f2 = true)
    (hx : H x = some (.ins C dx fs)) (hmro : PySem.W.mroIn X.K C (.ref D) = some true) (hsup : PySem.W.ks_superIn X.K C D "__init__" = some (some (.ref f2)))
    (hcall : eval (.Call (.Attribute (.Call (.Name "super" p0) [] [] p1) "__init__" ap) (e :: es) [] cp) X.env = (do
      let ov ← attributeBase (.Call (.Name "super" p0) [] [] p1) "__init__" X.env (eval (.Call (.Name "super" p0) [] [] p1) X.env)
      standAt ap.atName
      let (fn, first) ← holding [ov] (getMethod ov "__init__" pl)
      callWith cp fn first (backTo cp (starEach (e :: es) X.env)) []))
    (hst : starEach (e :: es) X.env = (false, eval e X.env) :: starEach es X.env) (hpl : (backTo cp (starEach es X.env)).any (·.1) = false)
    (ha : PA X (e :: es) t) (hq : t σ H fun zs H1 => sp2 (.ref x :: zs) H1 (fun _ H2 => Q H2) (fun _ _ _ => False)) :
    _root_.PySem.wpAt (model X.prog X.w) X.A (.func body X.env) (eval (.Call (.Attribute (.Call (.Name "super" p0) [] [] p1) "__init__" ap) (e :: es) [] cp) X.env) (fun _ s' => ∃ H', Inv X pins σ H' s' ∧ Q H') X.xe s := by
  obtain ⟨mA, O, _, _, _, _⟩ := ins_get I.hok hx
  obtain ⟨od, J, _⟩ := O.look
  obtain ⟨hp, gg, dd, tt, os⟩ := s
  have KI : X.K.In hp := I.kIn
  have hD : hp.get? D = some oD := KI _ _ lD
  refine ks_wpAt_MethodCall (ks_wpAt_super_base hks hkc rfl hfu (KI _ _ lf) hof hpar hco (KI _ _ lc) hoc hcs hfile htop ?_) hcall
  obtain ⟨mb, h1, h2⟩ := I.mod.blt
  refine PySem.W.ks_loadName_global I.ok.kind hks (Calls.loadGlobal_builtin (by rw [I.ok.glob]; exact I.mod.glob.keeps I.bk) hms (by rw [I.ok.blt]; exact h1.keeps I.bk) ((h2 "super" (by decide)).trans (by decide +kernel)) ⟨rfl, ?_⟩)
  refine wpAny_mono (name_load I hN1 (.inr (.inr hkc)) s1 (by decide) (by decide)) (fun v s2 hv => ?_) fun _ _ z => z
  obtain ⟨rv, rfl⟩ := hv
  obtain rfl : v = .ref D := rv
  refine wpAny_mono (name_load I hN0 hv0 s0 hd0 hdc0) (fun v s2 hv => ?_) fun _ _ z => z
  obtain ⟨rv, rfl⟩ := hv
  obtain rfl : v = .ref x := rv
  refine ks_wpAny_isType_cls hD hoD ⟨rfl, ?_⟩
  refine ks_wpAny_call_super hD hoD J.at_ J.cls (fun c e => ?_) (PySem.W.looks_mroIn KI hmro) (fun h' e k => ?_)
  · have := J.no
    unfold PySem.W.notCls at this
    rw [e] at this
    exact Bool.noConfusion this
  have I1 : Inv X pins σ H ⟨h', gg, dd, tt, os⟩ := I.kept (t' := tt) k
  have KI1 : X.K.In h' := I1.kIn
  cases hc : PySem.W.clsIn X.K C with
  | none => unfold PySem.W.ks_superIn at hsup; rw [hc] at hsup; cases hsup
  | some cd =>
    unfold PySem.W.ks_superIn at hsup
    rw [hc] at hsup
    obtain ⟨off, hoff, hofc⟩ : ∃ of, h'.get? f2 = some of ∧ of.cls = .type "function" := by
      have ht' : (X.K.lookup f2).map (·.cls) = some (.type "function") := hf2
      cases z : X.K.lookup f2 with
      | none => rw [z] at ht'; cases ht'
      | some of => rw [z] at ht'; exact ⟨of, KI1 _ _ z, Option.some.inj ht'⟩
    refine ks_wpAny_getMethod_super e (PySem.W.looks_opaque KI1 hop) (l₀ := cd.mro) ?_ rfl KI1 hsup hoff hofc (PySem.W.ks_ne KI J hc) rfl ?_
    · exact fun A Q E s k q => wpAny_bind ((PySem.W.looks_clsIn KI1 hc) A _ E s k (wpAny_pure q))
    have I2 := ClX.met_new (g := f2) (C := x) I1
    refine ClX.callwith_cm I2 (ClX.base_none I1 (Nat.le_refl _)) hfi (thn (ha.run cp _ _ σ H _ I2 hq) fun us s3 ⟨vs, H2, I3, rv, q2⟩ => ⟨⟨ClX.pin_at I3, I3.kIn⟩, ?_⟩) hst hpl
    refine wpAny_mono (ClX.run_cm (Q := fun _ H' => Q H') G hr pass0 I3 rv q2) (fun v s4 hv => ?_) fun _ _ z => z
    obtain ⟨y, H', I4, _, q3⟩ := hv
    exact ⟨H', I4, q3⟩
/-- the rule: f's promise from that of the __init__ at f2 which super() finds -/
theorem FnOk.sup (SF : SupFn P K f F D) (S : NScope N ps ["__class__"] F.scope) {a0 : Arg} {p0 p1 ap cp ep : Pos} {e : Expr} {es : List Expr} {rest : List Stmt} {pl : Sem Bool}
    (hbody : F.body = .Expr (.Call (.Attribute (.Call (.Name "super" p0) [] [] p1) "__init__" ap) (e :: es) [] cp) ep :: rest)
    (hpar : (F.params.posonlyargs ++ F.params.args).head? = some a0) (hN0 : N[0]? = some a0.arg) (hd0 : (a0.arg == ("__debug__" : Str)) = false) (hdc0 : (a0.arg == ("__classdict__" : Str)) = false) (hv0 : F.scope.names.lookup a0.arg = some .local) (hN1 : N[ps.length]? = some ("__class__" : Str))
    (hks : F.scope.names.lookup ("super" : Str) = some .globalImplicit) (hkc : F.scope.names.lookup ("__class__" : Str) = some .free)
    (hms : mg "super" = none) (htop : (P.main.scope.names.lookup ("super" : Str)).isSome = false)
    (G : FnR P w K mg base CX0 k f2 sp2) (hf2 : PySem.W.typeIn K (.ref f2) = some (.type "function")) (hfi : PySem.W.fnIn K f2 = true)
    (hsw : ∀ L : Addr, swapsWith (.Call (.Attribute (.Call (.Name "super" p0) [] [] p1) "__init__" ap) (e :: es) [] cp) none ep.line (envF F f L) = pure false)
    (hcall : ∀ L : Addr, eval (.Call (.Attribute (.Call (.Name "super" p0) [] [] p1) "__init__" ap) (e :: es) [] cp) (envF F f L) = (do
      let ov ← attributeBase (.Call (.Name "super" p0) [] [] p1) "__init__" (envF F f L) (eval (.Call (.Name "super" p0) [] [] p1) (envF F f L))
      standAt ap.atName
      let (fn, first) ← holding [ov] (getMethod ov "__init__" pl)
      callWith cp fn first (backTo cp (starEach (e :: es) (envF F f L))) []))
    (hst : ∀ L : Addr, starEach (e :: es) (envF F f L) = (false, eval e (envF F f L)) :: starEach es (envF F f L)) (hpl : ∀ L : Addr, (backTo cp (starEach es (envF F f L))).any (·.1) = false)
    (len : ∀ vs H Q E, sp vs H Q E → vs.length = ps.length)
    (run : ∀ (A : Around) (outer : List Env) (s : Shared) (H : Hp) (vs : List V) (Q : VK) (E : XK), Room k (A.deeper (envF F f s.heap.objs.size)) → sp vs H Q E →
      ∃ x C dx fs vs' t tr, vs = .ref x :: vs' ∧ H x = some (.ins C dx fs) ∧ PySem.W.mroIn K C (.ref D) = some true ∧ PySem.W.ks_superIn K C D "__init__" = some (some (.ref f2)) ∧
        PA (ncx CX0 P w K mg base N F f A outer s H E) (e :: es) t ∧ PSs (ncx CX0 P w K mg base N F f A outer s H E) rest tr ∧
        t (startF N vs [some (.ref D)]) H fun zs H1 => sp2 (.ref x :: zs) H1 (fun _ H2 => tr { nx := fun _ H' => Q .non H', rt := Q } (startF N vs [some (.ref D)]) H2) (fun _ _ _ => False)) :
    ∃ (kV doc pm ct : Value) (an : Option Addr), FnOk P w K mg base CX0 (k + 1) f (PySem.W.fnX F.name F.qual F.params F.body F.scope F.cl .none kV doc pm an (.ref F.c) ct) ps sp := by
  obtain ⟨oc, kV, doc, pm, ct, an, od, osl, lk⟩ := SF.ex
  refine ⟨kV, doc, pm, ct, an, len, fun A outer s H args us vs Q E hr e0 hb r hsp => ?_⟩
  have hl := len _ _ _ _ hsp
  obtain ⟨x, C, dx, fs, vs', t, tr, ev, hx, hmro, hsup, ha, hrest, hq⟩ := run A outer s H vs Q E (hr.deeper _) hsp
  have hh : ∀ b o, base.get? b = some o → s.heap.get? b = some o := fun b o e => (e0.bs b o e).1
  have KX : K.In s.heap := e0.mod.kin.keeps hh
  have CC := SF.cells (h := s.heap) (H := H) KX fun b o z => (e0.bs b o (e0.mod.kin b o z)).2
  have hroom : A.depth < recursionLimit := hr.depth
  refine ks_codeAny_call_defAt (body := F.body) (binds := ps.zip us) hroom (KX _ _ lk) rfl (e0.mod.nolimit.keeps hh) (PySem.W.codeRec_of KX SF.code) rfl hb S.nocell (fun y hy => S.par y.1 (List.of_mem_zip hy).1) (fun h₁ hns kp => ?_) S.co S.gen S.kind
  show _root_.PySem.wpAt (model P w) (A.deeper (envF F f s.heap.objs.size)) (.func F.body (envF F f s.heap.objs.size)) (execs F.body (envF F f s.heap.objs.size)) _ _ _
  have I : Inv (ncx CX0 P w K mg base N F f A outer s H E) [] (startF N vs [some (.ref D)]) H { s with heap := h₁, toks := s.toks + (ps.zip us).length } := inv_startN S hr.hd e0 hl r CC hns kp
  rw [hbody]
  obtain ⟨cc, occ, ecl, lcc, dcc⟩ := SF.cell
  obtain ⟨oD, cdD, lD, hoD⟩ := SF.cls
  obtain ⟨oc', cs, z, zt, lc, hoc, hcs, hfile⟩ := SF.file
  have hz0 : us.length = ps.length := by rw [← r.length]; exact hl
  have hvl : 0 < vs.length := by rw [ev]; exact Nat.succ_pos _
  refine ks_wpAt_execs_cons (ks_wpAt_Expr_any (ks_wpAt_mono (sup_expr (X := ncx CX0 P w K mg base N F f A outer s H E) (i0 := 0) (i1 := ps.length) (f := f) (D := D) I (hr.deeper _) rfl lk rfl hpar rfl lc hoc hcs hfile lD hoD SF.op hN0 (.inl hv0) hd0 hdc0 ?_ hN1 ?_ hks hkc hms htop G hf2 hfi hx hmro hsup (hcall _) (hst _) (hpl _) ha hq) (fun _ s2 h2 => ?_) fun _ _ q => q) (by first | rfl | exact I.quiet) (hsw _))
  · rw [ev]; rfl
  · unfold startF
    rw [List.getElem?_append_right (by rw [List.length_map]; omega), List.length_map, hl, Nat.sub_self]
    rfl
  obtain ⟨H2, I2, q2⟩ := h2
  refine wpAt_of_wpAny ?_
  refine wpAny_mono (hrest.run [] s2 _ H2 _ I2 q2) (fun fl s' hs => ?_) fun e s' hs => hs
  have fin : ∀ {σ' : L2.St} {H' : Hp} {v : V} {u : Value}, Inv (ncx CX0 P w K mg base N F f A outer s H E) [] σ' H' s' → L2.RelV v u → Q v H' → CE outer P w H s Q u s' :=
    fun {σ' H' v u} J rv q => ⟨v, H', J.os, J.bare, J.base, J.hok, rv, q⟩
  cases fl with
  | ret u =>
    obtain ⟨v, σ', H', J, rv, q⟩ := hs
    exact fin J rv q
  | next =>
    obtain ⟨σ', H', J, q⟩ := hs
    exact fin (v := V.non) (u := Value.none) J rfl q
  | brk =>
    obtain ⟨_, _, _, q⟩ := hs
    exact False.elim q
  | cont =>
    obtain ⟨_, _, _, q⟩ := hs
    exact False.elim q
end
end K31
namespace K31
open PySem PySem.Spec PyProof.Rows L2

/-! ### != by an own __eq__ -/
structure NeO (K : PySem.W.Frag) (C g : Addr) : Prop where
  ne : PySem.W.findIn K (.ref C) "__ne__" = some (some (.builtin "object.__ne__"))
  mo : PySem.W.mroIn K C (.type "object") = some true
  eq : Own K C "__eq__" g
def rNeOwn (X : Cx) (n : Nat) : R2 := fun x y H Q => ∃ a C dx fs b D dy gs g sp, x = .ref a ∧ y = .ref b ∧ H a = some (.ins C dx fs) ∧ H b = some (.ins D dy gs) ∧ NeO X.K C g ∧ PySem.W.notFirst X.K C (.ref D) = true ∧
  FnR X.prog X.w X.K X.mg X.base CX0 n g sp ∧ sp [.ref a, .ref b] H (fun z H' => ∃ k, z = .bl k ∧ Q (.bl (!k)) H') (fun _ _ _ => False)
theorem op_neOwn {X : Cx} {n : Nat} (hr : Room (n + 1) X.A) : OpR X (compareOp .NotEq) (rNeOwn X n) := by
  intro pins s σ H x y v u Q I rx ry h
  obtain ⟨a, C, dx, fs, b, D, dy, gs, g, sp, rfl, rfl, ha, hb, o, hn, F, q⟩ := h
  cases (show v = Value.ref a from rx)
  cases (show u = Value.ref b from ry)
  obtain ⟨mA, O, _, _, _, _⟩ := ins_get I.hok ha
  obtain ⟨od, J, _⟩ := O.look
  obtain ⟨mA', O', _, _, _, _⟩ := ins_get I.hok hb
  obtain ⟨od', J', _⟩ := O'.look
  have hu := hr.units
  show wpAny _ _ (richCompare .NotEq (.ref a) (.ref b)) _ _ _
  refine ne_K (tb := .ref D) (by omega) I.kIn J J'.type hn o.ne o.mo o.eq.fi o.eq.fn ?_
  refine wpAny_mono (wpAny_call (SlX.run_at (A := X.A.in1) (us := [.ref a, .ref b]) (ws := [.ref a, .ref b]) F hr.in1 I.env0.in1 pass0 I (.cons rfl (.cons rfl .nil)) q)) (fun w s' z => ?_) fun _ _ x => x
  obtain ⟨z', H', I', rz, k, ez, qz⟩ := z
  subst ez
  cases (show w = Value.bool k from rz)
  exact ⟨k, rfl, .bl (!k), H', I', rfl, qz⟩

/-! ### f(k = v, ..) -/
section
variable {K : PySem.W.Frag} {x qual : Str} {params : Arguments} {body : List Stmt} {scope : Scope} {kws : List (Str × V)} {f : Addr} {fd : FuncData} {ps : List Str}
theorem FunD.kbindsZ (F : FunD K x qual params body scope [] kws f fd) (n : Nat) (ks : List Str) (g : {α : Type} → List α → List α → List α)
    (hrel : ∀ {vs zs : List V} {us ws : List Value}, Vals vs us → Vals zs ws → Vals (g vs zs) (g us ws))
    (h : ∀ (kV doc pm : Value) (an : Option Addr) (cdv ct : Value) (us ws : List Value), us.length = n → ws.length = ks.length → bindArgs (PySem.W.fnOf x qual params body scope .none kV doc pm an cdv ct) ⟨us, ks.zip ws⟩ = pure (ps.zip (g us ws))) :
    KBn K fd ps n ks (fun us ws => g us ws) (fun vs zs => g vs zs) := by
  obtain ⟨oc, od, dV, kV, doc, pm, an, cdv, ct, osl, rfl, lk, hcd, hD, hK⟩ := F.ex
  rcases hD with ⟨_, rfl⟩ | ⟨e, _⟩
  · exact ⟨fun s us ws X l1 l2 => .of_eq (h kV doc pm an cdv ct us ws l1 l2), fun r1 r2 => hrel r1 r2⟩
  · exact absurd rfl e
end
section
variable {X : Cx} {CX : CXT} {k n : Nat} {f : Addr} {fd : FuncData} {ps ks : List Str} {sp : Sp} {E : XK} {x : Str} {p pos : Pos} {kws : List Keyword} {tk : TA} {g : List Value → List Value → List Value} {gV : List V → List V → List V}
theorem pe_callN0 (F : FnOk X.prog X.w X.K X.mg X.base CX k f fd ps sp) (hr : Room k X.A) (hg : Gl X x) (hm : X.mg x = some (.ref f)) (hk : PySem.W.keepIn X.K (.ref f) = true) (hb : KBn X.K fd ps 0 ks g gV) (hx : Passes CX X E) (hkw : PK X kws tk)
    (hall : (backToKw pos (keywordEach kws X.env)).all (·.1.isSome) = true := by rfl) (hks : (backToKw pos (keywordEach kws X.env)).filterMap (·.1) = ks := by rfl) (hdb : (x == ("__debug__" : Str)) = false := by decide)
    (hpl : ((backTo pos (starEach [] X.env)).any (·.1) || (backToKw pos (keywordEach kws X.env)).any (·.1.isNone)) = false := by rfl) :
    PE X (.Call (.Name x p) [] kws pos) (tCallN 0 ks.length sp gV E tNil tk) := by
  refine ⟨fun pins s σ H Q I h => ?_⟩
  refine wpAny_Call_Name_kw (ld_glob I hg hm ?_ hdb)
  refine PySem.W.callWith_KW0 (h₀ := X.base) I.ok.mod.kin hk hall ?_ hpl
  refine thn (hkw.run pos pins s σ H _ I h) fun ws s2 ⟨zs, H2, I2, rz, l1, l2, q2⟩ => ⟨I2.kIn, ?_⟩
  rw [hks]
  exact run_fnN (us := []) (vs := []) F hr hb hx I2 .nil rz rfl l2 q2
end

/-! ### t[::-1], t a tuple -/
theorem rev_adjust (n : Nat) : Builtin.Slice.sliceAdjust none none (-1) (n : Int) = ((n : Int) - 1, -1) := by
  unfold Builtin.Slice.sliceAdjust
  simp
theorem rev_places (n : Nat) : Builtin.Slice.slicePlaces ((n : Int) - 1) (-1) (-1) = n := by
  unfold Builtin.Slice.slicePlaces
  rw [if_neg (by decide)]
  by_cases h : (n : Int) - 1 > -1
  · rw [if_pos h]
    show (((n : Int) - 1 - -1 - 1) / 1 + 1).toNat = n
    rw [Int.ediv_one]; omega
  · rw [if_neg h]; omega
theorem rev_pick (xs : Array Value) : ((List.range xs.size).filterMap fun (k : Nat) => xs[(((xs.size : Int) - 1) + (k : Int) * (-1)).toNat]?).toArray = xs.toList.reverse.toArray := by
  congr 1
  have h : ∀ l : List Value, (List.range l.length).filterMap (fun (k : Nat) => l[(((l.length : Int) - 1) + (k : Int) * (-1)).toNat]?) = l.reverse := by
    intro l
    apply List.ext_getElem?
    intro i
    have e : (List.range l.length).filterMap (fun (k : Nat) => l[(((l.length : Int) - 1) + (k : Int) * (-1)).toNat]?) = (List.range l.length).map (fun k => l.getD (l.length - 1 - k) .none) := by
      have g : ∀ m, m ≤ l.length → (List.range m).filterMap (fun (k : Nat) => l[(((l.length : Int) - 1) + (k : Int) * (-1)).toNat]?) = (List.range m).map (fun k => l.getD (l.length - 1 - k) .none) := by
        intro m
        induction m with
        | zero => intro _; rfl
        | succ m ih =>
          intro hm
          rw [List.range_succ, List.filterMap_append, List.map_append, ih (by omega)]
          have e1 : (((l.length : Int) - 1) + (m : Int) * (-1)).toNat = l.length - 1 - m := by omega
          have e2 : l[l.length - 1 - m]? = some (l.getD (l.length - 1 - m) .none) := by
            rw [List.getD_eq_getElem?_getD, List.getElem?_eq_getElem (show l.length - 1 - m < l.length by omega)]; rfl
          simp only [List.filterMap_cons, List.filterMap_nil, List.map_cons, List.map_nil, e1, e2]
      exact g _ (Nat.le_refl _)
    rw [e, List.getElem?_map]
    by_cases hi : i < l.length
    · rw [List.getElem?_range hi, List.getElem?_reverse hi, List.getElem?_eq_getElem (by omega)]
      simp [List.getD_eq_getElem?_getD, List.getElem?_eq_getElem (show l.length - 1 - i < l.length by omega)]
    · rw [List.getElem?_eq_none (by simpa using hi), List.getElem?_eq_none (by simpa using hi)]
      rfl
  have := h xs.toList
  simpa using this
theorem getItem_tuple_rev {prog : Program} {w : World} {A : Around} {E : Value → Shared → Prop} {s : Shared} {t sl : Addr} {items : Array Value} {vl vu vs : Value} {Q : Value → Shared → Prop} (ht : IsTup s.heap t items) (hs : s.heap.IsSliceOf sl vl vu vs) (pl : IsPart vl none) (pu : IsPart vu none) (ps : IsPart vs (some (-1)))
    (h : Q (.ref s.heap.objs.size) { s with heap := s.heap.push { cls := .type "tuple", data := .seq items.toList.reverse.toArray } })
    (hsz : items.size ≤ sizeLine) : wpAny (model prog w) A (getItem (.ref t) (.ref sl)) Q E s := by
  have htake : sizeOk (.seq items.toList.reverse.toArray) := by
    show items.toList.reverse.toArray.size ≤ sizeLine
    rw [List.size_toArray, List.length_reverse, Array.length_toList]
    exact hsz
  obtain ⟨os, hos, hcs, hds⟩ := id hs
  have hTs : s.TypeIs (.ref sl) "slice" := ⟨os, hos, hcs⟩
  unfold getItem
  try with_reducible refine wpAny_holding ?_
  first | refine wpAny_bind (wpAny_pure ?_) | skip
  refine wpAny_bind (wpAny_sequenceKey ht.typeIs (by decide) ?_)
  refine wpAny_bind (wpAny_callSpecial?_slot (name := Str.ofString "__getitem__") ht.typeIs PyProof.Rows.slot_tuple_getitem
    (wpAny_call_entry PyProof.Rows.slot_tuple_getitem ht.typeIs entry_tuple_getitem ?_ (args_tuple_getitem _ _)))
  show wpAny _ _ (Builtin.Tuple.tupleItemsOf (.ref t) >>= _) _ _ s
  refine wpAny_bind (tupleItemsOf_ ht ?_)
  refine wpAny_bind (wpAny_typeOf hTs ?_)
  rw [if_pos (by decide)]
  have ap : ∀ {Q' : Int × Int × Nat → Shared → Prop}, Q' ((items.size : Int) - 1, (-1 : Int), items.size) s → wpAny (model prog w) A.in1 (Builtin.Slice.sliceApplied (.ref sl) (pure (items.size : Int))) Q' (fun e s' => wants Q E (.error e) s') s := fun {Q'} q => by
    unfold Builtin.Slice.sliceApplied Builtin.Slice.sliceFields
    refine wpAny_bind (wpAny_bind (wpAny_field hos hds (x := vl) rfl (wpAny_bind (wpAny_field hos hds (x := vu) rfl (wpAny_bind (wpAny_field hos hds (x := vs) rfl (wpAny_pure ?_)))))))
    refine wpAny_bind (HT.slicePart_ ps ?_)
    show wpAny _ _ (if ((-1 : Int) == 0) = true then _ else _) _ _ s
    rw [if_neg (by decide)]
    refine wpAny_bind (HT.slicePart_ pl (wpAny_bind (HT.slicePart_ pu (wpAny_bind (wpAny_pure ?_)))))
    show wpAny _ _ (match Builtin.Slice.sliceAdjust none none (-1) (items.size : Int) with | (lo, hi) => pure (lo, (-1 : Int), Builtin.Slice.slicePlaces lo hi (-1))) _ _ s
    rw [rev_adjust]
    show wpAny _ _ (pure ((items.size : Int) - 1, (-1 : Int), Builtin.Slice.slicePlaces ((items.size : Int) - 1) (-1) (-1))) _ _ s
    rw [rev_places]
    exact wpAny_pure q
  refine wpAny_bind (ap ?_)
  have hno : ¬ ((((items.size : Int) - 1) == 0 && (-1 : Int) == 1 && items.size == items.size) = true) := by simp
  show wpAny _ _ (if ((((items.size : Int) - 1) == 0 && (-1 : Int) == 1 && items.size == items.size) = true) then _ else _) _ _ s
  rw [if_neg hno, rev_pick]
  first
    | exact wpAny_bind (m := Builtin.Tuple.tupleExact _) (wpAny_newObj_type (wpAny_pure ⟨_, rfl, wpAny_pure h⟩) htake)
    | exact wpAny_bind (m := Builtin.Tuple.tupleExact _) (wpAny_newObj_type (wpAny_bind (wpAny_pure (wpAny_pure ⟨_, rfl, wpAny_pure h⟩))) htake)
    | exact wpAny_bind (wpAny_bind (m := Builtin.Tuple.tupleExact _) (wpAny_newObj_type (wpAny_pure (wpAny_pure ⟨_, rfl, wpAny_pure h⟩)) htake))
    | exact wpAny_bind (wpAny_bind (m := Builtin.Tuple.tupleExact _) (wpAny_newObj_type (wpAny_pure ⟨_, rfl, wpAny_pure h⟩) htake))
def tRevT (K : PySem.W.Frag) (te : TE) : TE := fun σ H Q => te σ H fun x H1 => ∃ a xs, x = .ref a ∧ SqT K H1 a xs ∧ ∀ p, H1 p = none → Q (.ref p) (upd H1 p (.tup xs.reverse))
theorem pe_revT {X : Cx} {e : Expr} {te : TE} {k : Nat} {p1 p2 p3 pos : Pos} (he : PE X e te) : PE X (.Subscript e (.Slice none none (some (.UnaryOp .USub (.Constant (.int 1) k p1) p2)) p3) pos) (tRevT X.K te) := by
  refine ⟨fun pins s σ H Q I h => ?_⟩
  refine Subscript_ (thn (he.run pins s σ H _ I h) fun v s1 ⟨x, H1, I1, r1, q1⟩ => ?_)
  obtain ⟨a, xs, ex, hx, q⟩ := q1
  subst ex
  cases r1
  have hst : PO X (some (.UnaryOp .USub (.Constant (.int 1) k p1) p2)) (tPart (tUn (rU fun i => .int (-i)) (tC (.int 1)))) := po_some (pe_un un_neg pe_int)
  refine wpAny_Slice (thn (po_none.run pins s1 σ H1 (fun o H2 => o = none ∧ H2 = H1) I1 ⟨rfl, rfl⟩) fun vl s2 ⟨l, H2, I2, pl, el, e2⟩ => ?_)
  subst el e2
  refine thn (po_none.run pins s2 σ H2 (fun o H3 => o = none ∧ H3 = H2) I2 ⟨rfl, rfl⟩) fun vu s3 ⟨u, H3, I3, pu, eu, e3⟩ => ?_
  subst eu e3
  refine thn (hst.run pins s3 σ H3 (fun o H4 => o = some (-1) ∧ H4 = H3) I3 ⟨1, rfl, -1, rfl, rfl, rfl⟩) fun vs s4 ⟨o, H4, I4, ps, eo, e4⟩ => ?_
  subst eo e4
  have I5 : Inv X pins σ H4 { s4 with heap := s4.heap.push { cls := .type "slice", data := .fields #[vl, vu, vs] } } := I4.kept (t' := s4.toks) fun b ob q => Heap.get?_push_of_some _ q
  obtain ⟨its, r, ht, hz⟩ := I5.tuple hx
  have hlen := r.length
  show wpAny (model X.prog X.w) X.A (subscriptTail e (.Slice none none (some (.UnaryOp .USub (.Constant (.int 1) k p1) p2)) p3) (.ref a) (.ref s4.heap.objs.size)) (EP X pins σ Q) X.xe { s4 with heap := s4.heap.push { cls := .type "slice", data := .fields #[vl, vu, vs] } }
  refine tail_any (ops := [.ref a, .ref s4.heap.objs.size]) ht.typeIs (PyProof.Rows.slot_tuple_getitem.lookup) ?_ (by with_unfolding_all rfl)
  refine getItem_tuple_rev ht (Heap.IsSliceOf.new _ vl vu vs) pl pu ps ?_ (by rw [List.size_toArray]; omega)
  refine ⟨.ref _, _, I5.laid (t' := s4.toks) (o := .tup xs.reverse) (fun b ob q => Heap.get?_push_of_some _ q) (Nat.le_refl _) ?_, rfl, q _ (I5.hok.fresh (Nat.le_refl _))⟩
  exact ⟨by rw [List.length_reverse]; exact hz, _, r.reverse, IsTup.new _ _⟩
end K31
namespace K31
open PySem PySem.Spec PyProof.Rows L2



structure DefAt (K : PySem.W.Frag) (mg : Str → Option Value) (x : Str) (st : Stmt) : Prop where
  mgx : mg x = some (.ref (ga K x))
  fd : ∃ fd, FunD K x x (defArgs st) (defBody st) (defScope st) [] [] (ga K x) fd
/-- a method -/
structure MetAt (K : PySem.W.Frag) (c m qual : Str) (st : Stmt) : Prop where
  fd : ∃ fd, FunD K m qual (defArgs st) (defBody st) (defScope st) [] [] (ma K (ga K c) m) fd

section
variable {P : Program} {w : World} {K : PySem.W.Frag} {mg : Str → Option Value} {base : Heap}
theorem calD {x : Str} {st : Stmt} {N ps : List Str} {k : Nat} {sp : Sp} (D : DefAt K mg x st) (S : FnScope N ps (defScope st))
    (hb : ∀ (kV doc pm : Value) (an : Option Addr) (cdv ct : Value) (us : List Value), us.length = ps.length → bindArgs (PySem.W.fnOf x x (defArgs st) (defBody st) (defScope st) .none kV doc pm an cdv ct) ⟨us, []⟩ = pure (ps.zip us))
    (len : ∀ vs H Q E, sp vs H Q E → vs.length = ps.length)
    (hbody : ∀ (cdv : Value) (A : Around) (outer : List Env) (s : Shared) (H : Hp) (vs : List V) (Q : VK) (E : XK), Room k (A.deeper (envOfC x (defScope st) s.heap.objs.size (ga K x) cdv)) → sp vs H Q E →
      ∃ t, PSs (cxOf CX0 P w K mg base N x (defScope st) (ga K x) cdv A outer s H E).nox (defBody st) t ∧ t { nx := fun _ H' => Q .non H', rt := Q } (start N vs) H) :
    C8.Cal P w K mg base (k + 1) x sp [] := by
  obtain ⟨fd, F⟩ := D.fd
  refine ⟨ga K x, fd, ps, [], F.ok S len fun cdv A outer s H vs Q E hr h => ?_, D.mgx, F.kp, F.bindsN hb, .nil⟩
  obtain ⟨t, h1, h2⟩ := hbody cdv A outer s H vs Q E hr h
  exact ⟨t, h1.nox, h2⟩
/-- a method's promise, by positional values -/
theorem metD {c m qual : Str} {st : Stmt} {N ps : List Str} {k : Nat} {sp : Sp} (D : MetAt K c m qual st) (S : FnScope N ps (defScope st))
    (hb : ∀ (kV doc pm : Value) (an : Option Addr) (cdv ct : Value) (us : List Value), us.length = ps.length → bindArgs (PySem.W.fnOf m qual (defArgs st) (defBody st) (defScope st) .none kV doc pm an cdv ct) ⟨us, []⟩ = pure (ps.zip us))
    (len : ∀ vs H Q E, sp vs H Q E → vs.length = ps.length)
    (hbody : ∀ (cdv : Value) (A : Around) (outer : List Env) (s : Shared) (H : Hp) (vs : List V) (Q : VK) (E : XK), Room k (A.deeper (envOfC qual (defScope st) s.heap.objs.size (ma K (ga K c) m) cdv)) → sp vs H Q E →
      ∃ t, PSs (cxOf CX0 P w K mg base N qual (defScope st) (ma K (ga K c) m) cdv A outer s H E).nox (defBody st) t ∧ t { nx := fun _ H' => Q .non H', rt := Q } (start N vs) H) :
    FnR P w K mg base CX0 (k + 1) (ma K (ga K c) m) sp := by
  obtain ⟨fd, F⟩ := D.fd
  have G : FnOk P w K mg base CX0 (k + 1) (ma K (ga K c) m) fd ps sp := F.ok S len fun cdv A outer s H vs Q E hr h => by
    obtain ⟨t, h1, h2⟩ := hbody cdv A outer s H vs Q E hr h
    exact ⟨t, h1.nox, h2⟩
  refine (G.raw (F.bindsN hb) .nil).imp fun vs H Q E q => ?_
  show sp (vs ++ []) H Q E
  rw [List.append_nil]; exact q
end

/-! ### the facts -/
structure ClF (K : PySem.W.Frag) (mg : Str → Option Value) (x : Str) : Prop where
  ins : C8.InsC K (ga K x)
  nm : Nm K (ga K x) x
  mgx : mg x = some (.ref (ga K x))
  mkr : Mk K (ga K x) (ma K (ga K x) "__init__")
structure Tx (K : PySem.W.Frag) (mg : Str → Option Value) : Prop where
  df : ∀ p ∈ defsL, DefAt K mg p.1 (top p.2)
  dw : ∀ p ∈ defsW, DefAt K mg p.1 (top p.2)
  bl : ∀ x ∈ bltL, mg x = none
  places : ∃ t, mg "PLACES" = some (.int 4 t)
  least : ∃ t, mg "LEAST_MODULUS" = some (.int 2 t)
  most : ∃ t, mg "MOST_MODULUS" = some (.int 13 t)
  day : ∃ t, mg "DAY" = some (.int 24 t)
  primes : mg "PRIMES" = some (.ref (ga K "PRIMES"))
  primesT : ∀ H : Hp, SqT K H (ga K "PRIMES") [.int 2, .int 3, .int 5, .int 7, .int 11, .int 13]
  gcd : mg "gcd" = some (.builtin "math.gcd")
  cl : ∀ x ∈ clsL, ClF K mg x
  na : ∀ p ∈ ([("Four", "bends"), ("Four", "total"), ("Paper", "word"), ("Paper", "parts"), ("Denial", "word"), ("Denial", "parts"), ("Met", "word"), ("Met", "parts"), ("Met", "letters"), ("Unmet", "word"), ("Unmet", "parts"), ("Unmet", "by")] : List (Str × Str)), NoAttr K (ga K p.1) p.2
  kb : ∀ t ∈ kindL, ∀ c ∈ clsL, PySem.W.kitOne K (.type t) (.ref (ga K c)) = some false
  ko : ∀ d ∈ clsL, ∀ c ∈ clsL, PySem.W.kitOne K (.ref (ga K d)) (.ref (ga K c)) = some (decide (c ∈ bases d))
  boo : ∀ p ∈ ([("Met", "Paper"), ("Unmet", "Denial")] : List (Str × Str)), Own K (ga K p.1) "__bool__" (ma K (ga K p.2) "__bool__")
  eqo : ∀ x ∈ (["Met", "Unmet"] : List Str), NeO K (ga K x) (ma K (ga K "Paper") "__eq__")
  mFour : MetAt K "Four" "__init__" "Four.__init__" (inClass (top 28) 0)
  mPaper : ∃ (oc kV doc pm cdv ct : Value) (an od : Option Addr) (osl : Array (Option Value)), K.lookup (ma K (ga K "Paper") "__init__") = some ⟨oc, od, .func (PySem.W.fnOf "__init__" "Paper.__init__" (defArgs (inClass (top 31) 0)) (defBody (inClass (top 31) 0)) (defScope (inClass (top 31) 0)) .none kV doc pm an cdv ct), osl⟩ ∧ PySem.W.codeIn K cdv "Paper.__init__" = true
  mPb : MetAt K "Paper" "__bool__" "Paper.__bool__" (inClass (top 31) 1)
  mPe : MetAt K "Paper" "__eq__" "Paper.__eq__" (inClass (top 31) 2)
  mDb : MetAt K "Denial" "__bool__" "Denial.__bool__" (inClass (top 32) 0)
  iPD : ma K (ga K "Denial") "__init__" = ma K (ga K "Paper") "__init__"
  fPi : PySem.W.typeIn K (.ref (ma K (ga K "Paper") "__init__")) = some (.type "function") ∧ PySem.W.fnIn K (ma K (ga K "Paper") "__init__") = true
  sMet : ∃ c cc, SupFn prg K (ma K (ga K "Met") "__init__") ⟨"__init__", "Met.__init__", defArgs (inClass (top 38) 0), defBody (inClass (top 38) 0), defScope (inClass (top 38) 0), [(("__class__" : Str), cc)], c⟩ (ga K "Met")
  sUnm : ∃ c cc, SupFn prg K (ma K (ga K "Unmet") "__init__") ⟨"__init__", "Unmet.__init__", defArgs (inClass (top 39) 0), defBody (inClass (top 39) 0), defScope (inClass (top 39) 0), [(("__class__" : Str), cc)], c⟩ (ga K "Unmet")
  upMet : PySem.W.ks_superIn K (ga K "Met") (ga K "Met") "__init__" = some (some (.ref (ma K (ga K "Paper") "__init__")))
  upUnm : PySem.W.ks_superIn K (ga K "Unmet") (ga K "Unmet") "__init__" = some (some (.ref (ma K (ga K "Paper") "__init__")))
  needF : ∃ (t : Tok) (fd : FuncData), FunD K "need_four" "need_four" (defArgs (top 25)) (defBody (top 25)) (defScope (top 25)) [.str "four"] [] (ga K "need_four") fd
  needFm : mg "need_four" = some (.ref (ga K "need_four"))
section
variable {K : PySem.W.Frag} {mg : Str → Option Value}
theorem Tx.d (T : Tx K mg) (i : Nat) {x : Str} {j : Nat} (h : defsL[i]? = some (x, j) := by rfl) : DefAt K mg x (top j) := T.df (x, j) (List.mem_of_getElem? h)
theorem Tx.w (T : Tx K mg) (i : Nat) {x : Str} {j : Nat} (h : defsW[i]? = some (x, j) := by rfl) : DefAt K mg x (top j) := T.dw (x, j) (List.mem_of_getElem? h)
theorem Tx.b (T : Tx K mg) (i : Nat) {x : Str} (h : bltL[i]? = some x := by rfl) : mg x = none := T.bl x (List.mem_of_getElem? h)
theorem Tx.c (T : Tx K mg) (i : Nat) {x : Str} (h : clsL[i]? = some x := by rfl) : ClF K mg x := T.cl x (List.mem_of_getElem? h)
end

/-! ### what a value is -/
/-- None, bools, ints, texts, lists, tuples, dicts -/
inductive Pl (H : Hp) : V → String → Prop where
  | non : Pl H .non "NoneType"
  | bl (b : Bool) : Pl H (.bl b) "bool"
  | int (i : Int) : Pl H (.int i) "int"
  | str (x : Str) : Pl H (.str x) "str"
  | lst {a : Addr} {xs : List V} (h : H a = some (.lst xs)) : Pl H (.ref a) "list"
  | tup {a : Addr} {xs : List V} (h : H a = some (.tup xs)) : Pl H (.ref a) "tuple"
  | dct {a : Addr} {kvs : List (Key × V)} (h : H a = some (.dK kvs)) : Pl H (.ref a) "dict"
theorem Pl.ty {H : Hp} {K : PySem.W.Frag} {v : V} {t : String} (p : Pl H v t) : TyX K H v (.type t) := by
  cases p with
  | non => exact .base .non
  | bl b => exact .base (.bl b)
  | int i => exact .base (.int i)
  | str x => exact .base (.str x)
  | lst h => exact .base (.lst h)
  | tup h => exact .base (.tup h)
  | dct h => exact .base (.dK h)
theorem Pl.mono {H H' : Hp} {v : V} {t : String} (p : Pl H v t) (k : ∀ a o, v = .ref a → H a = some o → H' a = some o) : Pl H' v t := by
  cases p with
  | non => exact .non
  | bl b => exact .bl b
  | int i => exact .int i
  | str x => exact .str x
  | lst h => exact .lst (k _ _ rfl h)
  | tup h => exact .tup (k _ _ rfl h)
  | dct h => exact .dct (k _ _ rfl h)
theorem Pl.kind {H : Hp} {v : V} {t : String} (p : Pl H v t) : t ∈ kindL := by
  cases p <;> decide
end K31
namespace K31
open PySem PySem.Spec PyProof.Rows L2
theorem ifT {c : Bool} {A B : Prop} (hc : c = true) (h : A) : if c = true then A else B := by rw [if_pos hc]; exact h
theorem ifF {c : Bool} {A B : Prop} (hc : c = false) (h : B) : if c = true then A else B := by rw [if_neg (by rw [hc]; exact Bool.false_ne_true)]; exact h
theorem Same.upd {H : Hp} {p : Addr} {o : HO} (h : H p = none) : Same H (upd H p o) := fun a u e => by rw [upd_ne (ne_of_none e h)]; exact e
/-- one of two readings -/
theorem pi_or {X : Cx} {tg e : Expr} {t1 t2 : TI} (h1 : PI X tg e t1) (h2 : PI X tg e t2) : PI X tg e (fun σ H R => t1 σ H R ∨ t2 σ H R) :=
  ⟨fun pins s σ H R I h => h.elim (h1.run pins s σ H R I) (h2.run pins s σ H R I)⟩
theorem pe_or' {X : Cx} {e : Expr} {t1 t2 : TE} (h1 : PE X e t1) (h2 : PE X e t2) : PE X e (fun σ H Q => t1 σ H Q ∨ t2 σ H Q) :=
  ⟨fun pins s σ H Q I h => h.elim (h1.run pins s σ H Q I) (h2.run pins s σ H Q I)⟩
theorem Paired.append {α β : Type} {F : α → β → Prop} : ∀ {a c : List α} {b d : List β}, Paired F a b → Paired F c d → Paired F (a ++ c) (b ++ d)
  | _, _, _, _, .nil, s => s
  | _, _, _, _, .cons r t, s => .cons r (Paired.append t s)
theorem Paired.eq_map {α β : Type} {f : α → β} : ∀ {a : List α} {b : List β}, Paired (fun x y => y = f x) a b → b = a.map f
  | _, _, .nil => rfl
  | _, _, .cons r t => by rw [List.map_cons, ← r, ← Paired.eq_map t]
theorem Paired.nth {α β : Type} {F : α → β → Prop} : ∀ {l : List α} {m : List β}, Paired F l m → ∀ {i : Nat} {x : α}, l[i]? = some x → ∃ y, m[i]? = some y ∧ F x y
  | _, _, .nil, i, x, h => by simp at h
  | _, _, .cons r t, 0, x, h => by simp at h; subst h; exact ⟨_, rfl, r⟩
  | _, _, .cons r t, i + 1, x, h => by
    obtain ⟨y, h1, h2⟩ := Paired.nth t (i := i) (x := x) (by simpa using h)
    exact ⟨y, by simpa using h1, h2⟩
theorem take_snoc {α : Type} {xs : List α} {i : Nat} {x : α} (h : xs[i]? = some x) : xs.take (i + 1) = xs.take i ++ [x] := by
  rw [List.take_add_one, h]; rfl

theorem sameT {K : PySem.W.Frag} {H H' : Hp} {a : Addr} {xs : List V} (e : Same H H') (h : SqT K H a xs) : SqT K H' a xs := by
  rcases h with (h | ⟨o, h⟩) | h
  · exact .inl (.inl (e _ _ h))
  · exact .inl (.inr ⟨o, e _ _ h⟩)
  · exact .inr h
section
variable {K : PySem.W.Frag} {te : TE} {tt : TT} {vs : List Nat} {σ : L2.St} {H1 : Hp} {D : Addr} {Qd : Hp → Prop}
/-- the invariant of a comprehension over xs -/
def PvG (H1 : Hp) (D : Addr) (p : V → Bool) (Rl : Hp → V → V → Prop) (xs : List V) (i : Nat) (H : Hp) : Prop := Same H1 H ∧ ∃ ys, H D = some (.lst ys) ∧ Paired (Rl H) ((xs.take i).filter p) ys
theorem PvG.start {p : V → Bool} {Rl : Hp → V → V → Prop} {xs : List V} (hD : H1 D = none) : PvG H1 D p Rl xs 0 (upd H1 D (.lst [])) := ⟨Same.upd hD, [], upd_same, .nil⟩
theorem PvG.step {p : V → Bool} {Rl : Hp → V → V → Prop} {xs : List V} {i : Nat} {x : V} {H : Hp} (j : Nat) (mono : ∀ H H' x y, Same H H' → Rl H x y → Rl H' x y) (hz : xs.length ≤ 2000000) (hD : H1 D = none) (ub : ∀ H x y ys zs, H D = some (.lst zs) → Rl H x y → Rl (upd H D (.lst ys)) x y)
    (hw : wipe ((wipe σ vs).set j (some x)) vs = wipe σ vs) (hx : xs[i]? = some x) (h : PvG H1 D p Rl xs i H)
    (ht : ∀ Q', (∀ H4, Same H H4 → Q' (p x) H4) → tt ((wipe σ vs).set j (some x)) H Q')
    (he : p x = true → ∀ H', Same H H' → ∀ Q', (∀ y H4, Same H' H4 → Rl H4 x y → Q' y H4) → te ((wipe σ vs).set j (some x)) H' Q') :
    gName j x (wipe σ vs) H fun σ2 H2 => wipe σ2 vs = wipe σ vs ∧ tt σ2 H2 fun b H3 =>
      if b = true then te σ2 H3 fun y H4 => ∃ acc, H4 D = some (.lst acc) ∧ acc.length < sizeLine ∧ PvG H1 D p Rl xs (i + 1) (upd H4 D (.lst (acc ++ [y]))) else PvG H1 D p Rl xs (i + 1) H3 := by
  obtain ⟨s, ys, hy, r⟩ := h
  refine ⟨hw, ht _ fun H3 s3 => ?_⟩
  have e1 : (xs.take (i + 1)).filter p = (xs.take i).filter p ++ (if p x = true then [x] else []) := by
    rw [take_snoc hx, List.filter_append]
    by_cases hp : p x = true
    · rw [if_pos hp]; simp [hp]
    · rw [if_neg hp]; simp [hp]
  have len : ys.length < sizeLine := by
    rw [← Paired.length r, sizeLine_eq]
    have := List.length_filter_le p (xs.take i)
    have := List.length_take_le i xs
    rw [List.length_take] at *
    omega
  cases hp : p x with
  | true =>
    refine iteT (he hp H3 s3 _ fun y H4 s4 q => ⟨ys, s4 _ _ (s3 _ _ hy), len, ?_⟩)
    rw [hp, if_pos rfl] at e1
    refine ⟨fun b o e => ?_, ys ++ [y], upd_same, ?_⟩
    · rw [upd_ne (ne_of_none e hD)]; exact s4 _ _ (s3 _ _ (s _ _ e))
    · rw [e1]
      refine Paired.append (Paired.mapP r fun a b q => ub _ _ _ _ _ (s4 _ _ (s3 _ _ hy)) (mono _ _ _ _ (s3.trans s4) q)) (.cons (ub _ _ _ _ _ (s4 _ _ (s3 _ _ hy)) q) .nil)
  | false =>
    refine iteF ⟨s.trans s3, ys, s3 _ _ hy, ?_⟩
    rw [hp, if_neg Bool.false_ne_true, List.append_nil] at e1
    rw [e1]
    exact Paired.mapP r fun a b q => mono _ _ _ _ s3 q

theorem lc_list_g {a : Addr} {xs : List V} (j : Nat) (p : V → Bool) (Rl : Hp → V → V → Prop) (mono : ∀ H H' x y, Same H H' → Rl H x y → Rl H' x y) (ub : ∀ H x y ys zs, H D = some (.lst zs) → Rl H x y → Rl (upd H D (.lst ys)) x y) (hz : xs.length ≤ 2000000) (hD : H1 D = none) (hl : SqL K H1 a xs)
    (hw : ∀ x, wipe ((wipe σ vs).set j (some x)) vs = wipe σ vs)
    (ht : ∀ x ∈ xs, ∀ H', Same H1 H' → ∀ Q', (∀ H4, Same H' H4 → Q' (p x) H4) → tt ((wipe σ vs).set j (some x)) H' Q')
    (he : ∀ x ∈ xs, p x = true → ∀ H', Same H1 H' → ∀ Q', (∀ y H4, Same H' H4 → Rl H4 x y → Q' y H4) → te ((wipe σ vs).set j (some x)) H' Q')
    (hd : ∀ H ys, Same H1 H → H D = some (.lst ys) → Paired (Rl H) (xs.filter p) ys → Qd H) :
    ∃ W : Nat → Nat → Hp → Prop, (∃ m, W 0 m (upd H1 D (.lst []))) ∧ ∀ i m H, W i m H →
      ((Itl K a).stop i H ∧ Qd H) ∨ ((Itl K a).go i H ∧ ∃ Nx : Hp → Prop, (∀ H', Nx H' → ∃ m', m' < m ∧ W (i + 1) m' H') ∧ ∀ x H', (Itl K a).yld i H x H' → gName j x (wipe σ vs) H' fun σ2 H2 => wipe σ2 vs = wipe σ vs ∧ tt σ2 H2 fun b H3 =>
        if b = true then te σ2 H3 fun y H4 => ∃ acc, H4 D = some (.lst acc) ∧ acc.length < sizeLine ∧ Nx (upd H4 D (.lst (acc ++ [y]))) else Nx H3) :=
  lc_list (K := K) (a := a) (xs := xs) (PvG H1 D p Rl xs) (PvG.start hD) (fun i H _ q => q.1.seq hl) (fun i x H hx q => PvG.step j mono hz hD ub (hw x) hx q (fun Q' z => ht x (List.mem_of_getElem? hx) H q.1 Q' z) fun hp H' s Q' z => he x (List.mem_of_getElem? hx) hp H' (q.1.trans s) Q' z)
    (fun H q => by
      obtain ⟨s, ys, hy, r⟩ := q
      rw [List.take_length] at r
      exact hd H ys s hy r)

theorem lc_tup_g {a : Addr} {xs : List V} (j : Nat) (p : V → Bool) (Rl : Hp → V → V → Prop) (mono : ∀ H H' x y, Same H H' → Rl H x y → Rl H' x y) (ub : ∀ H x y ys zs, H D = some (.lst zs) → Rl H x y → Rl (upd H D (.lst ys)) x y) (hz : xs.length ≤ 2000000) (hD : H1 D = none) (hl : SqT K H1 a xs)
    (hw : ∀ x, wipe ((wipe σ vs).set j (some x)) vs = wipe σ vs)
    (ht : ∀ x ∈ xs, ∀ H', Same H1 H' → ∀ Q', (∀ H4, Same H' H4 → Q' (p x) H4) → tt ((wipe σ vs).set j (some x)) H' Q')
    (he : ∀ x ∈ xs, p x = true → ∀ H', Same H1 H' → ∀ Q', (∀ y H4, Same H' H4 → Rl H4 x y → Q' y H4) → te ((wipe σ vs).set j (some x)) H' Q')
    (hd : ∀ H ys, Same H1 H → H D = some (.lst ys) → Paired (Rl H) (xs.filter p) ys → Qd H) :
    ∃ W : Nat → Nat → Hp → Prop, (∃ m, W 0 m (upd H1 D (.lst []))) ∧ ∀ i m H, W i m H →
      ((Itt K a).stop i H ∧ Qd H) ∨ ((Itt K a).go i H ∧ ∃ Nx : Hp → Prop, (∀ H', Nx H' → ∃ m', m' < m ∧ W (i + 1) m' H') ∧ ∀ x H', (Itt K a).yld i H x H' → gName j x (wipe σ vs) H' fun σ2 H2 => wipe σ2 vs = wipe σ vs ∧ tt σ2 H2 fun b H3 =>
        if b = true then te σ2 H3 fun y H4 => ∃ acc, H4 D = some (.lst acc) ∧ acc.length < sizeLine ∧ Nx (upd H4 D (.lst (acc ++ [y]))) else Nx H3) :=
  lc_tup (K := K) (a := a) (xs := xs) (PvG H1 D p Rl xs) (PvG.start hD) (fun i H _ q => sameT q.1 hl) (fun i x H hx q => PvG.step j mono hz hD ub (hw x) hx q (fun Q' z => ht x (List.mem_of_getElem? hx) H q.1 Q' z) fun hp H' s Q' z => he x (List.mem_of_getElem? hx) hp H' (q.1.trans s) Q' z)
    (fun H q => by
      obtain ⟨s, ys, hy, r⟩ := q
      rw [List.take_length] at r
      exact hd H ys s hy r)
end
end K31
namespace K31
open PySem PySem.Spec PyProof.Rows L2
/-! ### facts of the classes, read off a part of the heap -/
theorem b2 {a b : Bool} (h : (a && b) = true) : a = true ∧ b = true := Bool.and_eq_true_iff.mp h
theorem insB_ok {K : PySem.W.Frag} {C : Addr} (c : Cls K C) (h : insB K C = true) : C8.InsC K C := by
  obtain ⟨h1, h⟩ := b2 h
  obtain ⟨h2, h⟩ := b2 h
  obtain ⟨h3, h⟩ := b2 h
  obtain ⟨h4, h5⟩ := b2 h
  exact ⟨c, of_decide_eq_true h1, of_decide_eq_true h2, of_decide_eq_true h3, of_decide_eq_true h4, of_decide_eq_true h5⟩
theorem nameB_ok {K : PySem.W.Frag} {C : Addr} (h : nameB K C = true) : PySem.W.findCls K (.ref C) (.type "type") "__name__" = some (.get (.builtin "getset_descriptor.__get__") (.builtin "type.__name__") (.ref C) (.type "type")) := by
  unfold nameB at h
  split at h
  · rename_i g a c t e
    obtain ⟨h1, h⟩ := b2 h
    obtain ⟨h2, h⟩ := b2 h
    obtain ⟨h3, h4⟩ := b2 h
    rw [e, of_decide_eq_true h1, of_decide_eq_true h2, of_decide_eq_true h3, of_decide_eq_true h4]
  · cases h
theorem nmB_ok {K : PySem.W.Frag} {C : Addr} {q : Str} (c : Cls K C) (h : nmB K C q = true) : C8.InsC K C ∧ Nm K C q := by
  obtain ⟨h1, h⟩ := b2 h
  obtain ⟨h2, h⟩ := b2 h
  obtain ⟨h3, h⟩ := b2 h
  obtain ⟨h4, h⟩ := b2 h
  obtain ⟨h5, h⟩ := b2 h
  obtain ⟨h6, h7⟩ := b2 h
  have I := insB_ok c h3
  exact ⟨I, ⟨h1, h2, I.ha, I.hn, I.htk, I.hm, of_decide_eq_true h4, h5, nameB_ok h6, h7⟩⟩
theorem ownB_ok {K : PySem.W.Frag} {C g : Addr} {m : Str} (h : ownB K C m g = true) : Own K C m g := let ⟨h1, h2⟩ := b2 h; ⟨of_decide_eq_true h1, h2⟩
theorem neoB_ok {K : PySem.W.Frag} {C g : Addr} (h : neoB K C g = true) : NeO K C g := by
  obtain ⟨h1, h⟩ := b2 h
  obtain ⟨h2, h3⟩ := b2 h
  exact ⟨of_decide_eq_true h1, of_decide_eq_true h2, ownB_ok h3⟩
/-! ### a def that closes over its class -/
theorem fileB_ok {K : PySem.W.Frag} {file : Str} {cd : Value} (h : fileB K file cd = true) : ∃ c o vs z t, cd = .ref c ∧ K.lookup c = some o ∧ o.data = .fields vs ∧ (vs[2]? : Option Value) = some (.str z t) ∧ (file == z) = true := by
  cases cd with
  | ref c =>
    have h1 : (match K.lookup c with
      | some ⟨_, _, .fields vs, _⟩ => (match (vs[2]? : Option Value) with
        | some (.str z _) => file == z
        | _ => false)
      | _ => false) = true := h
    cases lk : K.lookup c with
    | none => rw [lk] at h1; cases h1
    | some o =>
      obtain ⟨oc, od, dt, sl⟩ := o
      rw [lk] at h1
      cases dt with
      | fields vs =>
        have h2 : (match (vs[2]? : Option Value) with
          | some (.str z _) => file == z
          | _ => false) = true := h1
        cases e : (vs[2]? : Option Value) with
        | none => rw [e] at h2; cases h2
        | some v =>
          rw [e] at h2
          cases v with
          | str z t => exact ⟨c, _, vs, z, t, rfl, lk, rfl, e, h2⟩
          | _ => cases h2
      | _ => cases h1
  | _ => cases h
theorem cellB_ok {K : PySem.W.Frag} {D : Addr} {cl : List (Str × Addr)} (h : cellB K D cl = true) : ∃ y cc o, cl = [(y, cc)] ∧ K.lookup cc = some o ∧ o.data = .cell (some (.ref D)) := by
  match cl, h with
  | [(y, cc)], h =>
    have h1 : (match K.lookup cc with
      | some ⟨_, _, .cell (some (.ref E)), _⟩ => decide (E = D)
      | _ => false) = true := h
    cases lk : K.lookup cc with
    | none => rw [lk] at h1; cases h1
    | some o =>
      obtain ⟨oc, od, dt, sl⟩ := o
      rw [lk] at h1
      cases dt with
      | cell v =>
        cases v with
        | none => cases h1
        | some v =>
          cases v with
          | ref E =>
            have e : E = D := of_decide_eq_true h1
            subst e
            exact ⟨y, cc, _, rfl, lk, rfl⟩
          | _ => cases h1
      | _ => cases h1
theorem clsB_ok {K : PySem.W.Frag} {D : Addr} (h : clsB K D = true) : ∃ o cd, K.lookup D = some o ∧ o.data = .cls cd := by
  unfold clsB at h
  cases lk : K.lookup D with
  | none => rw [lk] at h; cases h
  | some o =>
    obtain ⟨oc, od, dt, sl⟩ := o
    rw [lk] at h
    cases dt with
    | cls cd => exact ⟨_, cd, rfl, rfl⟩
    | _ => cases h
theorem supB_ok {K : PySem.W.Frag} {f D : Addr} {n q : Str} {pa : Arguments} {body : List Stmt} {sc : Scope} (e : fnC K f = some (n, q, pa, FuncBody.stmts body, sc, mainGlobals, [("__class__" : Str)], builtinsNs)) (h : supB prg.main.file K f D q = true) :
    ∃ c cc, SupFn prg K f ⟨n, q, pa, body, sc, [(("__class__" : Str), cc)], c⟩ D := by
  obtain ⟨h1, h⟩ := b2 h
  obtain ⟨h2, h⟩ := b2 h
  obtain ⟨h3, h⟩ := b2 h
  unfold fnC at e
  cases lk : K.lookup f with
  | none => rw [lk] at h; cases h
  | some o =>
    obtain ⟨oc, od, dt, osl⟩ := o
    rw [lk] at h e
    cases dt with
    | func fd =>
      obtain ⟨n1, n2, n3, n4, n5, n6, n7, n8, n9, n10, n11, n12, n13, n14, n15⟩ := fd
      have e2 : (some (n1, n2, n3, n4, n5, n6, n7.map (·.1), n15) : FnC) = some (n, q, pa, FuncBody.stmts body, sc, mainGlobals, [("__class__" : Str)], builtinsNs) := e
      simp only [Option.some.injEq, Prod.mk.injEq] at e2
      obtain ⟨e1, e2, e3, e4, e5, e6, e7, e8⟩ := e2
      subst e1 e2 e3 e4 e5 e6 e8
      have h' : (noneB n8 && (PySem.W.codeIn K n13 n2 && (fileB K prg.main.file n13 && cellB K D n7))) = true := h
      obtain ⟨g1, h'⟩ := b2 h'
      obtain ⟨g2, h'⟩ := b2 h'
      obtain ⟨g3, g4⟩ := b2 h'
      cases n8 with
      | none =>
        obtain ⟨c, oc1, vs, z, zt, ecd, lc, ed, ez, ef⟩ := fileB_ok g3
        obtain ⟨y, cc, oc2, ecl, lcc, edc⟩ := cellB_ok g4
        subst ecd ecl
        have e9 : [y] = [("__class__" : Str)] := e7
        have ey : y = ("__class__" : Str) := List.head_eq_of_cons_eq e9
        subst ey
        exact ⟨c, cc, ⟨oc, n9, n10, n11, n14, n12, od, osl, lk⟩, g2, ⟨oc1, vs, z, zt, lc, ed, ez, ef⟩, ⟨cc, oc2, rfl, lcc, edc⟩, clsB_ok h2, of_decide_eq_true h3, h1⟩
      | _ => cases g1
    | _ => cases h
end K31
namespace K31
open PySem PySem.Spec PyProof.Rows L2
/-! ### the facts that the head tells -/
theorem obsKG_eq {g : Addr → Option Obj} {s : Shared} (h : ∀ a, g a = s.heap.get? a) : obsKG g = hookK.obs s := by
  have e : g = s.heap.get? := funext h
  rw [e] <;> rfl
section
variable {K : PySem.W.Frag}
theorem SaysK.fact (c : SaysK K) {f : He.Fa} (h : f ∈ faL) : f.ok K = true := by
  have c1 := (b2 (b2 (show (((faL.all fun f => f.ok K) && fnL.all fun d => d.ok K) && exB K) = true from congrArg (fun z : AlK => z.1) c)).1).1
  exact List.all_eq_true.mp c1 f h
theorem SaysK.ex (c : SaysK K) : exB K = true := (b2 (show (((faL.all fun f => f.ok K) && fnL.all fun d => d.ok K) && exB K) = true from congrArg (fun z : AlK => z.1) c)).2
theorem SaysK.def_ (c : SaysK K) {d : He.DefD} (h : d ∈ fnL) : ∃ fd, FunD K d.name d.qual d.params d.body d.scope (d.dvs K) (d.kws K) (He.fAd K d.at_) fd := by
  have c2 := (b2 (b2 (show (((faL.all fun f => f.ok K) && fnL.all fun d => d.ok K) && exB K) = true from congrArg (fun z : AlK => z.1) c)).1).2
  have e : fnL.map (fun d => He.fnW K d.at_) = fnL.map He.DefD.val := congrArg (fun z : AlK => z.2.1) c
  obtain ⟨i, hi⟩ := List.mem_iff_getElem?.mp h
  have e2 : (fnL.map fun d => He.fnW K d.at_)[i]? = (fnL.map He.DefD.val)[i]? := by rw [e]
  rw [List.getElem?_map, List.getElem?_map, hi] at e2
  exact He.DefD.funD (Option.some.inj e2) (List.all_eq_true.mp c2 d h)
theorem SaysK.fc (c : SaysK K) : fcs K = fcv := congrArg (fun z : AlK => z.2.2) c
theorem fa_glo {x : Str} (h : x ∈ gloL) : He.Fa.glo x ∈ faL := List.mem_append_left _ (List.mem_map_of_mem h)
theorem fa_free {x : Str} (h : x ∈ bltL) : He.Fa.free x ∈ faL := List.mem_append_right _ (List.mem_append_left _ (List.mem_map_of_mem h))
theorem fa_int {p : Str × Int} (h : p ∈ intL) : He.Fa.int p.1 p.2 ∈ faL := List.mem_append_right _ (List.mem_append_right _ (List.mem_append_left _ (List.mem_map_of_mem (f := fun p : Str × Int => He.Fa.int p.1 p.2) h)))
theorem fa_cls {x : Str} (h : x ∈ clsL) : He.Fa.cls x ∈ faL := List.mem_append_right _ (List.mem_append_right _ (List.mem_append_right _ (List.mem_append_left _ (List.mem_map_of_mem h))))
theorem fa_mkr {x : Str} (h : x ∈ clsL) : He.Fa.mkr x ∈ faL := List.mem_append_right _ (List.mem_append_right _ (List.mem_append_right _ (List.mem_append_right _ (List.mem_append_left _ (List.mem_map_of_mem h)))))
theorem fa_noat {p : Str × Str} (h : p ∈ naL) : He.Fa.noat p.1 p.2 ∈ faL := List.mem_append_right _ (List.mem_append_right _ (List.mem_append_right _ (List.mem_append_right _ (List.mem_append_right _ (List.mem_map_of_mem (f := fun p : Str × Str => He.Fa.noat p.1 p.2) h)))))
theorem glo_d {p : Str × Nat} (h : p ∈ defsL) : p.1 ∈ gloL := List.mem_append_left _ (List.mem_map_of_mem (f := fun p : Str × Nat => p.1) h)
theorem glo_w {p : Str × Nat} (h : p ∈ defsW) : p.1 ∈ gloL := List.mem_append_right _ (List.mem_append_left _ (List.mem_map_of_mem (f := fun p : Str × Nat => p.1) h))
theorem glo_c {x : Str} (h : x ∈ clsL) : x ∈ gloL := List.mem_append_right _ (List.mem_append_right _ (List.mem_append_left _ h))
theorem glo_o {x : Str} (h : x ∈ (["PRIMES", "need_four"] : List Str)) : x ∈ gloL := List.mem_append_right _ (List.mem_append_right _ (List.mem_append_right _ h))
theorem fn_d {p : Str × Nat} (h : p ∈ defsL) : dTop p ∈ fnL := List.mem_append_left _ (List.mem_map_of_mem h)
theorem fn_w {p : Str × Nat} (h : p ∈ defsW) : dTop p ∈ fnL := List.mem_append_right _ (List.mem_append_left _ (List.mem_map_of_mem h))
theorem SaysK.me (c : SaysK K) (i : Nat) {d : He.DefD} (h : meL[i]? = some d := by rfl) : ∃ fd, FunD K d.name d.qual d.params d.body d.scope (d.dvs K) (d.kws K) (He.fAd K d.at_) fd := c.def_ (List.mem_append_right _ (List.mem_append_right _ (List.mem_of_getElem? h)))
theorem txK {h : Heap} {mg : Str → Option Value} (X : K.In h) (G : h.Ns mainGlobals mg) (c : SaysK K) : Tx K mg := by
  obtain ⟨x1, e⟩ := b2 c.ex
  obtain ⟨x2, e⟩ := b2 e
  obtain ⟨x3, e⟩ := b2 e
  obtain ⟨x4, e⟩ := b2 e
  obtain ⟨x5, e⟩ := b2 e
  obtain ⟨x6, e⟩ := b2 e
  obtain ⟨x7, e⟩ := b2 e
  obtain ⟨x8, e⟩ := b2 e
  obtain ⟨x9, e⟩ := b2 e
  obtain ⟨x10, e⟩ := b2 e
  obtain ⟨x11, e⟩ := b2 e
  obtain ⟨x12, e⟩ := b2 e
  obtain ⟨x13, x14⟩ := b2 e
  have glo : ∀ {x : Str}, x ∈ gloL → mg x = some (.ref (ga K x)) := fun h => He.glo_ok X G (c.fact (fa_glo h))
  have int_ : ∀ {x : Str} {i : Int}, (x, i) ∈ intL → ∃ t, mg x = some (.int i t) := fun h => He.int_ok X G (c.fact (fa_int h))
  have f1 : fnC K (ma K (ga K "Met") "__init__") = fcV "Met.__init__" (inClass (top 38) 0) := (List.cons.inj c.fc).1
  have f2 : fnC K (ma K (ga K "Unmet") "__init__") = fcV "Unmet.__init__" (inClass (top 39) 0) := (List.cons.inj (List.cons.inj c.fc).2).1
  exact {
    df := fun p h => ⟨glo (glo_d h), c.def_ (fn_d h)⟩
    dw := fun p h => ⟨glo (glo_w h), c.def_ (fn_w h)⟩
    bl := fun x h => He.free_ok X G (c.fact (fa_free h))
    places := int_ (by decide)
    least := int_ (by decide)
    most := int_ (by decide)
    day := int_ (by decide)
    primes := glo (glo_o (by decide))
    primesT := fun H => He.tupB_ok x14 H
    gcd := PySem.W.mg_of X G (of_decide_eq_true x13)
    cl := fun x h => by
      have q := nmB_ok (He.cls_ok (c.fact (fa_cls h))) (List.all_eq_true.mp x1 x h)
      exact ⟨q.1, q.2, glo (glo_c h), He.mkr_ok (c.fact (fa_mkr h))⟩
    na := fun p h => He.noat_ok (c.fact (fa_noat h))
    kb := fun t ht c hc => of_decide_eq_true (List.all_eq_true.mp (List.all_eq_true.mp x2 t ht) c hc)
    ko := fun d hd c hc => of_decide_eq_true (List.all_eq_true.mp (List.all_eq_true.mp x3 d hd) c hc)
    boo := fun p h => ownB_ok (List.all_eq_true.mp x4 p h)
    eqo := fun x h => neoB_ok (List.all_eq_true.mp x5 x h)
    mFour := ⟨c.me 0⟩
    mPaper := by
      obtain ⟨fd, F⟩ := c.me 1
      obtain ⟨oc, od, dV, kV, doc, pm, an, cdv, ct, osl, rfl, lk, hcd, hD, _⟩ := F.ex
      rcases hD with ⟨_, e⟩ | ⟨e, _⟩
      · subst e
        exact ⟨oc, kV, doc, pm, cdv, ct, an, od, osl, lk, hcd⟩
      · exact absurd rfl e
    mPb := ⟨c.me 2⟩
    mPe := ⟨c.me 3⟩
    mDb := ⟨c.me 4⟩
    iPD := of_decide_eq_true x6
    fPi := ⟨of_decide_eq_true x7, x8⟩
    sMet := supB_ok f1 x9
    sUnm := supB_ok f2 x10
    upMet := of_decide_eq_true x11
    upUnm := of_decide_eq_true x12
    needF := by
      obtain ⟨fd, F⟩ := c.me 5
      exact ⟨0, fd, F⟩
    needFm := glo (glo_o (by decide)) }
end
theorem obK_eq (s : PySem.W.SharedT) : obK s = hookK.obs s.abs := obsKG_eq (HandSHeadRun.getT_eq s)
end K31
namespace K31
open PySem PySem.Spec PyProof.Rows L2
/-! ### the end: the law's call, the guards known -/
/-- the abstract heap at the law's call: the script alone, frozen, or nothing if the script is the module's own -/
theorem script_hp {P : Program} {w : World} {K : PySem.W.Frag} {h : Heap} {a : Addr} {vs : List Value} {ns : List Int} (KX : K.In h) (ha : h.get? a = some { cls := .type "list", data := .seq vs.toArray }) (hi : IntsAre vs ns) (hl : ns.length ≤ sizeLine) :
    ∃ H : Hp, Only H ∧ SqL K H a (ns.map V.int) ∧ HOk P w H h ∧ (∀ b u, H b = some u → b = a ∧ K.lookup a = none) := by
  have rv := vals_ints hi
  cases hk : K.lookup a with
  | some o =>
    have e := KX a o hk
    rw [ha] at e
    cases e
    exact ⟨fun _ => none, fun _ => .inl rfl, .inr ⟨_, vs.toArray, _, hk, rfl, rfl, rfl, by rw [List.size_toArray, hi.length]; exact hl, by simpa using rv⟩, (fun b u z => nomatch (show (none : Option HO) = some u from z)), fun b u z => nomatch (show (none : Option HO) = some u from z)⟩
  | none =>
    have at_ : (if a = a then some (HO.frz { cls := .type "list", data := .seq vs.toArray } (.lst (ns.map V.int))) else none) = some (HO.frz { cls := .type "list", data := .seq vs.toArray } (.lst (ns.map V.int))) := if_pos rfl
    have one : ∀ b u, (if b = a then some (HO.frz { cls := .type "list", data := .seq vs.toArray } (.lst (ns.map V.int))) else none) = some u → b = a ∧ u = HO.frz { cls := .type "list", data := .seq vs.toArray } (.lst (ns.map V.int)) := fun b u z => by
      by_cases hb : b = a
      · rw [if_pos hb] at z; exact ⟨hb, (Option.some.inj z).symm⟩
      · rw [if_neg hb] at z; cases z
    refine ⟨fun b => if b = a then some (HO.frz { cls := .type "list", data := .seq vs.toArray } (.lst (ns.map V.int))) else none, fun b => ?_, .inl (.inr ⟨{ cls := .type "list", data := .seq vs.toArray }, at_⟩), fun b u z => ?_, fun b u z => ⟨(one b u z).1, rfl⟩⟩
    · by_cases hb : b = a
      · exact .inr ⟨_, _, if_pos hb⟩
      · exact .inl (if_neg hb)
    · obtain ⟨rfl, rfl⟩ := one b u z
      exact ⟨ha, by rw [List.length_map]; exact hl, vs, _, rv, ha⟩
theorem law_callG {P : Program} {w : World} {K : PySem.W.Frag} {mg mb : Str → Option Value} {CX : CXT} {k : Nat} {fa a : Addr} {fd : FuncData} {x : Str} {sp : Sp} {s : Shared} {vs : List Value} {ns : List Int}
    (KX : K.In s.heap) (hns : s.heap.Ns mainGlobals mg) (hb : s.heap.Ns builtinsNs mb) (hbb : ∀ x : Str, x ≠ "__name__" → mb x = bootBuiltins x) (hlim : s.heap.NoLimit) (hg : s.gens = #[])
    (ha : s.heap.get? a = some { cls := .type "list", data := .seq vs.toArray }) (hi : IntsAre vs ns) (hl : ns.length ≤ sizeLine) (hr : Room k callerA)
    (F : ∀ base : Heap, K.In base → base.Ns mainGlobals mg → FnG P w K mg base CX k fa fd [x] sp) (hbind : ∀ (s : Shared) (u : Value), BindsTo s fd ⟨[u], []⟩ [(x, u)])
    (hsp : ∀ H : Hp, Only H → SqL K H a (ns.map V.int) → sp [.ref a] H (fun v _ => v = .bl true) fun _ _ _ => False)
    (hCX : ∀ H e s', CX [] H s (fun _ _ _ => False) e s' → False) :
    codeAny (model P w) callerA (.call (.ref fa) ⟨[.ref a], []⟩) (fun r s' => r = .ok (.ret (.bool true)) ∧ OldK s.heap s'.heap ∧ s'.os = s.os ∧ AllBare s'.gens) s := by
  obtain ⟨H, hO, hS, hok, hone⟩ := script_hp (P := P) (w := w) KX ha hi hl
  -- a dict stays in the base, so does what K holds
  have keepD : ∀ {b : Addr} {m : Str → Option Value}, s.heap.Ns b m → (hidT s.heap H).Ns b m := fun {b m} ⟨o, es, ep, e, d, r⟩ => by
    refine ⟨o, es, ep, hidT_get e ?_, d, r⟩
    cases q : H b with
    | none => rfl
    | some u =>
      obtain ⟨rfl, _⟩ := hone b u q
      rw [ha] at e
      cases e
      exact nomatch (show Data.seq vs.toArray _ = Data.dict es ep from d)
  have keepK : K.In (hidT s.heap H) := fun b o e => by
    refine hidT_get (KX b o e) ?_
    cases q : H b with
    | none => rfl
    | some u =>
      obtain ⟨rfl, n⟩ := hone b u q
      rw [n] at e; cases e
  have M : Mod K mg (hidT s.heap H) := ⟨keepK, keepD hns, ⟨mb, keepD hb, hbb⟩, let ⟨mc, h1, h2⟩ := hlim; ⟨mc, keepD h1, h2⟩⟩
  have e0 : Env0 P w K mg (hidT s.heap H) callerA [] s H := ⟨rfl, M, fun b o e => of_hidT e, Nat.le_of_eq (hidT_size _ _), trivial, (fun b z => nomatch z), hok, .of_eq hg⟩
  refine codeAny_mono ((F _ keepK (keepD hns)).run callerA [] s H ⟨[.ref a], []⟩ [.ref a] [.ref a] _ _ rfl hr e0 (hbind s (.ref a)) (.cons rfl .nil) (hsp H hO hS)) fun r s' h => ?_
  match r, h with
  | .error e, h => exact (hCX H e s' h).elim
  | .ok (.ret u), h =>
    obtain ⟨v, H', os, bare, un, hok', r', q⟩ := h
    cases (show v = .bl true from q)
    obtain rfl : u = Value.bool true := r'
    refine ⟨rfl, OldK.of_keep fun b o e => ?_, os, bare⟩
    rcases hO b with z | ⟨ob, xs, z⟩
    · exact un.keep b o e z (fun z => nomatch z) (by simp)
    · obtain ⟨e1, _⟩ := hok b _ z
      obtain ⟨e2, _⟩ := hok' b _ (un.frzs b ob _ z)
      rw [e] at e1
      cases e1
      exact e2
  | .ok .next, h => exact False.elim h
  | .ok .brk, h => exact False.elim h
  | .ok .cont, h => exact False.elim h
/-- the walk's end, from the head's facts -/
theorem walk_ofG {l : PySem.W.OpenLaw} {n k : Nat} {q : Program} {loose : List Str} {XP : (Str → Option Value) → Heap → Prop} {YP : World → Heap → Prop} {d : DefRec} {CX : CXT} {x : Str}
    (hn : l.most = some n) (hn2 : n ≤ sizeLine) (hdf : d.params.defaults = []) (hr : Room k callerA)
    (F : ∀ (w : World) (mg : Str → Option Value) (fa : Addr) (h : Heap), YP w h → h.Ns mainGlobals mg → mg d.name = some (.ref fa) →
      ∃ (K : PySem.W.Frag) (fd : FuncData) (sp : Sp), K.In h ∧ (∀ (s : Shared) (u : Value), BindsTo s fd ⟨[u], []⟩ [(x, u)]) ∧
        (∀ (H : Hp) (a : Addr) (ns : List Int), ns.length ≤ n → Only H → SqL K H a (ns.map V.int) → sp [.ref a] H (fun v _ => v = .bl true) fun _ _ _ => False) ∧
        ∀ base : Heap, K.In base → base.Ns mainGlobals mg → FnG l.prog w K mg base CX k fa fd [x] sp)
    (hCX : ∀ (H : Hp) (s : Shared) (e : Value) (s' : Shared), CX [] H s (fun _ _ _ => False) e s' → False) :
    PySem.W.WalkO q loose XP YP l.row.toRowW d [] (fun f vs => PySem.call f vs) := by
  refine Att.attach_call hn hdf fun w s₀ s₁ mg mb fa o pm cd doc a vs ns G Y ho hd hcd hmg hobj hints hlen hg => ?_
  obtain ⟨K, fd, sp, KX, hb, hsp, hF⟩ := F w mg fa _ Y G.T.g hmg
  exact law_callG KX G.T.g G.T.b G.T.builtins G.T.nolimit hg hobj hints (Nat.le_trans hlen hn2) hr hF hb (fun H hO hS => hsp H a ns hlen hO hS) fun H e s' => hCX H s₁ e s'
end K31
namespace K31
open PySem PySem.Spec PyProof.Rows L2
section
variable {P : Program} {w : World} {K : PySem.W.Frag} {mg : Str → Option Value} {base : Heap}

/-! ### is_integer -/
def isI : V → Bool
  | .int _ => true
  | _ => false
def spIsInteger : Sp := fun vs H Q _ => ∃ v t, vs = [v] ∧ Pl H v t ∧ Q (.bl (isI v)) H
theorem sc12 : FnScope ["value"] ["value"] (defScope (top 12)) := ⟨rfl, rfl, rfl, by decide +kernel, rfl, by decide +kernel, by decide +kernel⟩
theorem c_isInteger (T : Tx K mg) : C8.Cal P w K mg base 1 "is_integer" spIsInteger [] := by
  refine calD (T.d 0) sc12 (fun kV doc pm an cdv ct us hl => match us, hl with | [_], _ => rfl) (fun vs H Q E h => ?_) fun cdv A outer s H vs Q E hr h => ?_
  · obtain ⟨v, t, rfl, _⟩ := h; rfl
  obtain ⟨v, t, rfl, p, q⟩ := h
  refine ⟨_, pss_one (ps_ret (pe_and (pe_callB call_isi (by rfl) (T.b 0) (by decide +kernel) (pa_cons (pv 0) (pa_cons (pe_bltn (v := .ty "int") (by rfl) (T.b 1) (by decide +kernel) rfl) pa_nil)))
    (pe_one (pe_not (pe_callB call_isi (by rfl) (T.b 0) (by decide +kernel) (pa_cons (pv 0) (pa_cons (pe_bltn (v := .ty "bool") (by rfl) (T.b 2) (by decide +kernel) rfl) pa_nil))))))), ?_⟩
  have k1 : PySem.W.kitOne K (.type t) (.type "int") = some (t == "int" || (t == "bool")) := by
    cases p <;> exact kit_ty (by decide +kernel)
  have k2 : PySem.W.kitOne K (.type t) (.type "bool") = some (t == "bool") := by
    cases p <;> exact kit_ty (by decide +kernel)
  refine ⟨_, rfl, _, _, _, _, _, rfl, .ty "int", p.ty, k1, _, rfl, ?_⟩
  have e : Q (.bl (isI v)) H := q
  cases p with
  | int i => exact iteT ⟨_, rfl, _, _, _, _, _, rfl, .ty "bool", Pl.ty (.int i), k2, _, rfl, q⟩
  | bl b => exact iteT ⟨_, rfl, _, _, _, _, _, rfl, .ty "bool", Pl.ty (.bl b), k2, _, rfl, q⟩
  | _ => exact iteF q

/-! ### is_within, is_place -/
def inB (v : V) (a b : Int) : Bool := match v with
  | .int i => decide (a ≤ i) && decide (i ≤ b)
  | _ => false
def spIsWithin : Sp := fun vs H Q _ => ∃ v t a b, vs = [v, .int a, .int b] ∧ Pl H v t ∧ Q (.bl (inB v a b)) H
theorem sc13 : FnScope ["value", "least", "most"] ["value", "least", "most"] (defScope (top 13)) := ⟨rfl, rfl, rfl, by decide +kernel, rfl, by decide +kernel, by decide +kernel⟩
theorem c_isWithin (T : Tx K mg) : C8.Cal P w K mg base 2 "is_within" spIsWithin [] := by
  refine calD (T.d 1) sc13 (fun kV doc pm an cdv ct us hl => match us, hl with | [_, _, _], _ => rfl) (fun vs H Q E h => ?_) fun cdv A outer s H vs Q E hr h => ?_
  · obtain ⟨v, t, a, b, rfl, _⟩ := h; rfl
  obtain ⟨v, t, a, b, rfl, p, q⟩ := h
  refine ⟨_, pss_cons (ps_if (pt_not (pt_val (C8.pe_c (c_isInteger T) hr (by decide) rfl (pa_cons (pv 0) pa_nil)))) (pss_one (ps_ret pe_bl)) pss_nil)
    (pss_one (ps_ret (pe_and (pe_or (pe_cmpR op_isN (pv 1) pe_non (nomark _)) (pe_one (pe_cmp (pc_ge (pv 0) (pv 1)) rfl))) (pe_one (pe_or (pe_cmpR op_isN (pv 2) pe_non (nomark _)) (pe_one (pe_cmp (pc_le (pv 0) (pv 2)) rfl))))))), ?_⟩
  refine ⟨_, rfl, v, t, rfl, p, _, rfl, ?_⟩
  cases p with
  | int i =>
    refine iteF ?_
    refine ⟨_, rfl, rfl, _, rfl, iteF ⟨_, rfl, _, rfl, _, _, rfl, rfl, ?_⟩⟩
    have e : inB (.int i) a b = (decide (a ≤ i) && decide (i ≤ b)) := rfl
    rw [e] at q
    refine ⟨_, rfl, ?_⟩
    by_cases h1 : a ≤ i
    · rw [decide_eq_true h1] at q
      exact ifT (decide_eq_true h1) ⟨_, rfl, rfl, _, rfl, iteF ⟨_, rfl, _, rfl, _, _, rfl, rfl, q⟩⟩
    · rw [decide_eq_false h1] at q
      refine ifF (decide_eq_false h1) ?_
      exact q
  | _ => exact iteT q

def spIsPlace : Sp := fun vs H Q _ => ∃ v t, vs = [v] ∧ Pl H v t ∧ Q (.bl (inB v 0 3)) H
theorem sc14 : FnScope ["value"] ["value"] (defScope (top 14)) := ⟨rfl, rfl, rfl, by decide +kernel, rfl, by decide +kernel, by decide +kernel⟩
theorem c_isPlace (T : Tx K mg) : C8.Cal P w K mg base 3 "is_place" spIsPlace [] := by
  refine calD (T.d 2) sc14 (fun kV doc pm an cdv ct us hl => match us, hl with | [_], _ => rfl) (fun vs H Q E h => ?_) fun cdv A outer s H vs Q E hr h => ?_
  · obtain ⟨v, t, rfl, _⟩ := h; rfl
  obtain ⟨v, t, rfl, p, q⟩ := h
  obtain ⟨tk, hp⟩ := T.places
  refine ⟨_, pss_one (ps_ret (C8.pe_c (c_isWithin T) hr (by decide) rfl (pa_cons (pv 0) (pa_cons pe_int (pa_cons (pe_op op_sub (pe_glob (v := .int 4) rfl hp ⟨_, rfl⟩) pe_int) pa_nil))))), ?_⟩
  exact ⟨_, rfl, _, _, rfl, rfl, v, t, 0, 3, rfl, p, q⟩

/-! ### are_integers, is_word -/
def isSeq (t : String) : Bool := t == "list" || t == "tuple"
/-- what a list or a tuple holds, known to be plain -/
structure SeqP (H : Hp) (v : V) (t : String) (xs : List V) : Prop where
  at_ : ∃ a, v = .ref a ∧ ((t = "list" ∧ H a = some (.lst xs)) ∨ (t = "tuple" ∧ H a = some (.tup xs)))
  pl : ∀ x ∈ xs, ∃ u, Pl H x u
/-- a value, and the items if it is a list or a tuple -/
def ItOf (H : Hp) (v : V) (t : String) (xs : List V) : Prop := Pl H v t ∧ (isSeq t = true → SeqP H v t xs) ∧ xs.length ≤ 2000000
def spAll (f : V → Bool) : Sp := fun vs H Q _ => ∃ v t xs, vs = [v] ∧ ItOf H v t xs ∧ ∀ H', Same H H' → Q (.bl (isSeq t && xs.all f)) H'
theorem sc15 : FnScope ["value", "each"] ["value"] (defScope (top 15)) := ⟨rfl, rfl, rfl, by decide +kernel, rfl, by decide +kernel, by decide +kernel⟩
/-- are_integers, is_word: the two defs alike -/
theorem kitSeq {H : Hp} {v : V} {t : String} (p : Pl H v t) : PySem.W.kitAny K (.type t) [.type "list", .type "tuple"] = some (isSeq t) := by
  cases p with
  | lst h => exact kitAny_cons (b := true) (kit_ty (by decide +kernel)) (fun h => by cases h) fun _ => rfl
  | tup h => exact kitAny_cons (b := false) (kit_ty (by decide +kernel)) (fun _ => kitAny_cons (b := true) (kit_ty (by decide +kernel)) (fun h => by cases h) fun _ => rfl) (fun h => by cases h)
  | _ => exact kitAny_cons (b := false) (kit_ty (by decide +kernel)) (fun _ => kitAny_cons (b := false) (kit_ty (by decide +kernel)) (fun _ => kitAny_nil) (fun h => by cases h)) (fun h => by cases h)
theorem plS {H H' : Hp} (s : Same H H') {v : V} {t : String} (p : Pl H v t) : Pl H' v t := p.mono fun a o _ e => s a o e
theorem c_areIntegers (T : Tx K mg) : C8.Cal P w K mg base 2 "are_integers" (spAll isI) [] := by
  refine calD (T.d 3) sc15 (fun kV doc pm an cdv ct us hl => match us, hl with | [_], _ => rfl) (fun vs H Q E h => ?_) fun cdv A outer s H vs Q E hr h => ?_
  · obtain ⟨v, t, xs, rfl, _⟩ := h; rfl
  obtain ⟨v, t, xs, rfl, it, q⟩ := h
  refine ⟨_, pss_one (ps_ret (pe_and (pe_callB call_isiT (by rfl) (T.b 0) (by decide +kernel) (pa_cons (pv 0) (pa_cons (pe_tup (pa_cons (pe_bltn (v := .ty "list") (by rfl) (T.b 6) (by decide +kernel) rfl) (pa_cons (pe_bltn (v := .ty "tuple") (by rfl) (T.b 5) (by decide +kernel) rfl) pa_nil))) pa_nil)))
    (pe_one (pe_callB (cr_all rfl) (by rfl) (T.b 3) (by decide +kernel) (pa_cons (pe_lc (own := [("each", 1)]) (g := gName 1) (tt := tYes) rfl sc15.nd (pi_or (pi_list (pv 0)) (pi_tup (pv 0))) (blkOk_by (N := ["value", "each"]) (sc := defScope (top 15)) (by decide +kernel)) (fun _ _ _ _ _ => pg_name (i := 1) sc15.nd rfl (Or.inl rfl)) (fun _ _ _ _ _ => pts_nil)
      (fun _ _ _ _ _ => C8.pe_c (c_isInteger T) hr (by decide) rfl (pa_cons (pv 1) pa_nil))) pa_nil))))), ?_⟩
  obtain ⟨p, it, hz⟩ := it
  refine ⟨_, rfl, by show 2 ≤ sizeLine; decide, fun tp ntp => ?_⟩
  have S1 : Same H (upd H tp (.tup [.ty "list", .ty "tuple"])) := Same.upd ntp
  refine ⟨v, tp, _, .type t, [.type "list", .type "tuple"], isSeq t, rfl, upd_same, .cons (.ty _) (.cons (.ty _) .nil), (plS S1 p).ty, kitSeq p, _, rfl, ?_⟩
  cases hs : isSeq t with
  | false =>
    refine iteF ?_
    have := q _ S1
    rw [hs] at this
    exact this
  | true =>
    refine iteT ?_
    obtain ⟨⟨a, rfl, hat⟩, hpl⟩ := it hs
    have hpl' : ∀ x ∈ xs, ∀ H', Same (upd H tp (.tup [.ty "list", .ty "tuple"])) H' → ∃ u, Pl H' x u := fun x hx H' s => let ⟨u, z⟩ := hpl x hx; ⟨u, plS s (plS S1 z)⟩
    have fin : ∀ D H', Same (upd H tp (.tup [.ty "list", .ty "tuple"])) H' → ∀ ys, H' D = some (.lst ys) → Paired (fun x y => y = V.bl (isI x)) (xs.filter fun _ => true) ys → _ := fun D H' s ys hy r => by
      have e : ys = (xs.map isI).map V.bl := by
        have := Paired.eq_map r
        rw [List.filter_eq_self.mpr (fun _ _ => rfl)] at this
        rw [this, List.map_map]; rfl
      have := q H' (S1.trans s)
      rw [hs] at this
      have e2 : xs.all isI = (xs.map isI).all id := by rw [List.all_map]; rfl
      exact (show ∃ a bs, [V.ref D] = [V.ref a] ∧ SqL K H' a (bs.map V.bl) ∧ Q (.bl (bs.all id)) H' from ⟨D, xs.map isI, rfl, SqL.of (by rw [← e]; exact hy), by rw [← e2]; simpa using this⟩)
    rcases hat with ⟨_, hat⟩ | ⟨_, hat⟩
    · refine .inl ⟨_, rfl, a, rfl, ⟨xs, SqL.of (S1 _ _ hat)⟩, fun D nD => ?_⟩
      refine lc_list_g 1 (fun _ => true) (fun _ x y => y = .bl (isI x)) (fun _ _ _ _ _ h => h) (fun _ _ _ _ _ _ h => h) hz nD (SqL.of (S1 _ _ hat)) (fun x => rfl) (fun x hx H' s Q' z => z H' (Same.refl _)) (fun x hx _ H' s Q' z => ?_) (fun H' ys s hy r => fin D H' s ys hy r)
      obtain ⟨u, pu⟩ := hpl' x hx H' s
      exact ⟨_, rfl, x, u, rfl, pu, z _ _ (Same.refl _) rfl⟩
    · refine .inr ⟨_, rfl, a, rfl, ⟨xs, SqT.of (S1 _ _ hat)⟩, fun D nD => ?_⟩
      refine lc_tup_g 1 (fun _ => true) (fun _ x y => y = .bl (isI x)) (fun _ _ _ _ _ h => h) (fun _ _ _ _ _ _ h => h) hz nD (SqT.of (S1 _ _ hat)) (fun x => rfl) (fun x hx H' s Q' z => z H' (Same.refl _)) (fun x hx _ H' s Q' z => ?_) (fun H' ys s hy r => fin D H' s ys hy r)
      obtain ⟨u, pu⟩ := hpl' x hx H' s
      exact ⟨_, rfl, x, u, rfl, pu, z _ _ (Same.refl _) rfl⟩
def isP (v : V) : Bool := inB v 0 3
theorem sc16 : FnScope ["value", "each"] ["value"] (defScope (top 16)) := ⟨rfl, rfl, rfl, by decide +kernel, rfl, by decide +kernel, by decide +kernel⟩
theorem c_isWord (T : Tx K mg) : C8.Cal P w K mg base 4 "is_word" (spAll isP) [] := by
  refine calD (T.d 4) sc16 (fun kV doc pm an cdv ct us hl => match us, hl with | [_], _ => rfl) (fun vs H Q E h => ?_) fun cdv A outer s H vs Q E hr h => ?_
  · obtain ⟨v, t, xs, rfl, _⟩ := h; rfl
  obtain ⟨v, t, xs, rfl, it, q⟩ := h
  refine ⟨_, pss_one (ps_ret (pe_and (pe_callB call_isiT (by rfl) (T.b 0) (by decide +kernel) (pa_cons (pv 0) (pa_cons (pe_tup (pa_cons (pe_bltn (v := .ty "list") (by rfl) (T.b 6) (by decide +kernel) rfl) (pa_cons (pe_bltn (v := .ty "tuple") (by rfl) (T.b 5) (by decide +kernel) rfl) pa_nil))) pa_nil)))
    (pe_one (pe_callB (cr_all rfl) (by rfl) (T.b 3) (by decide +kernel) (pa_cons (pe_lc (own := [("each", 1)]) (g := gName 1) (tt := tYes) rfl sc16.nd (pi_or (pi_list (pv 0)) (pi_tup (pv 0))) (blkOk_by (N := ["value", "each"]) (sc := defScope (top 16)) (by decide +kernel)) (fun _ _ _ _ _ => pg_name (i := 1) sc16.nd rfl (Or.inl rfl)) (fun _ _ _ _ _ => pts_nil)
      (fun _ _ _ _ _ => C8.pe_c (c_isPlace T) hr (by decide) rfl (pa_cons (pv 1) pa_nil))) pa_nil))))), ?_⟩
  obtain ⟨p, it, hz⟩ := it
  refine ⟨_, rfl, by show 2 ≤ sizeLine; decide, fun tp ntp => ?_⟩
  have S1 : Same H (upd H tp (.tup [.ty "list", .ty "tuple"])) := Same.upd ntp
  refine ⟨v, tp, _, .type t, [.type "list", .type "tuple"], isSeq t, rfl, upd_same, .cons (.ty _) (.cons (.ty _) .nil), (plS S1 p).ty, kitSeq p, _, rfl, ?_⟩
  cases hs : isSeq t with
  | false =>
    refine iteF ?_
    have := q _ S1
    rw [hs] at this
    exact this
  | true =>
    refine iteT ?_
    obtain ⟨⟨a, rfl, hat⟩, hpl⟩ := it hs
    have hpl' : ∀ x ∈ xs, ∀ H', Same (upd H tp (.tup [.ty "list", .ty "tuple"])) H' → ∃ u, Pl H' x u := fun x hx H' s => let ⟨u, z⟩ := hpl x hx; ⟨u, plS s (plS S1 z)⟩
    have fin : ∀ D H', Same (upd H tp (.tup [.ty "list", .ty "tuple"])) H' → ∀ ys, H' D = some (.lst ys) → Paired (fun x y => y = V.bl (isP x)) (xs.filter fun _ => true) ys → _ := fun D H' s ys hy r => by
      have e : ys = (xs.map isP).map V.bl := by
        have := Paired.eq_map r
        rw [List.filter_eq_self.mpr (fun _ _ => rfl)] at this
        rw [this, List.map_map]; rfl
      have := q H' (S1.trans s)
      rw [hs] at this
      have e2 : xs.all isP = (xs.map isP).all id := by rw [List.all_map]; rfl
      exact (show ∃ a bs, [V.ref D] = [V.ref a] ∧ SqL K H' a (bs.map V.bl) ∧ Q (.bl (bs.all id)) H' from ⟨D, xs.map isP, rfl, SqL.of (by rw [← e]; exact hy), by rw [← e2]; simpa using this⟩)
    rcases hat with ⟨_, hat⟩ | ⟨_, hat⟩
    · refine .inl ⟨_, rfl, a, rfl, ⟨xs, SqL.of (S1 _ _ hat)⟩, fun D nD => ?_⟩
      refine lc_list_g 1 (fun _ => true) (fun _ x y => y = .bl (isP x)) (fun _ _ _ _ _ h => h) (fun _ _ _ _ _ _ h => h) hz nD (SqL.of (S1 _ _ hat)) (fun x => rfl) (fun x hx H' s Q' z => z H' (Same.refl _)) (fun x hx _ H' s Q' z => ?_) (fun H' ys s hy r => fin D H' s ys hy r)
      obtain ⟨u, pu⟩ := hpl' x hx H' s
      exact ⟨_, rfl, x, u, rfl, pu, z _ _ (Same.refl _) rfl⟩
    · refine .inr ⟨_, rfl, a, rfl, ⟨xs, SqT.of (S1 _ _ hat)⟩, fun D nD => ?_⟩
      refine lc_tup_g 1 (fun _ => true) (fun _ x y => y = .bl (isP x)) (fun _ _ _ _ _ h => h) (fun _ _ _ _ _ _ h => h) hz nD (SqT.of (S1 _ _ hat)) (fun x => rfl) (fun x hx H' s Q' z => z H' (Same.refl _)) (fun x hx _ H' s Q' z => ?_) (fun H' ys s hy r => fin D H' s ys hy r)
      obtain ⟨u, pu⟩ := hpl' x hx H' s
      exact ⟨_, rfl, x, u, rfl, pu, z _ _ (Same.refl _) rfl⟩
end
end K31
namespace K31
open PySem PySem.Spec PyProof.Rows L2
abbrev iv (ns : List Int) : List V := ns.map V.int
section
variable {P : Program} {w : World} {K : PySem.W.Frag} {mg : Str → Option Value} {base : Heap}
/-! ### measure -/
def spMeasure (K : PySem.W.Frag) : Sp := fun vs H Q _ => ∃ a ns, vs = [.ref a] ∧ SqL K H a (iv ns) ∧ Q (.int (ns.foldl gcdF 0)) H
theorem sc18 : FnScope ["values", "found", "value"] ["values"] (defScope (top 18)) := ⟨rfl, rfl, rfl, by decide +kernel, rfl, by decide +kernel, by decide +kernel⟩
theorem c_measure (T : Tx K mg) : C8.Cal P w K mg base 1 "measure" (spMeasure K) [] := by
  refine calD (T.d 5) sc18 (fun kV doc pm an cdv ct us hl => match us, hl with | [_], _ => rfl) (fun vs H Q E h => ?_) fun cdv A outer s H vs Q E hr h => ?_
  · obtain ⟨a, ns, rfl, _⟩ := h; rfl
  obtain ⟨a, ns, rfl, hs, q⟩ := h
  refine ⟨_, pss_cons (ps_set (i := 1) sc18.nd rfl (.inl rfl) pe_int) (pss_cons (ps_for PassesOwn.never rfl (pi_list (pv 0)) (pg_name (i := 2) sc18.nd rfl (.inl rfl))
    (pss_one (ps_set (i := 1) sc18.nd rfl (.inl rfl) (pe_callBfun cr_gcd rfl T.gcd (pa_cons (pv 1) (pa_cons (pv 2) pa_nil)))))) (pss_one (ps_ret (pv 1)))), ?_⟩
  refine ⟨_, rfl, a, rfl, ⟨_, hs⟩, for_list (xs := iv ns) (fun i σ H' => H' = H ∧ ∃ z, σ = [some (.ref a), some (.int ((ns.take i).foldl gcdF 0)), z]) ⟨rfl, _, rfl⟩ (fun i σ H' _ p => by rw [p.1]; exact hs) (fun i x σ H' hx p => ?_) (fun σ H' p => ?_)⟩
  · obtain ⟨rfl, z, rfl⟩ := p
    rw [List.getElem?_map] at hx
    cases e : ns[i]? with
    | none => rw [e] at hx; cases hx
    | some n =>
      rw [e] at hx
      cases hx
      refine ⟨_, rfl, _, rfl, _, _, rfl, rfl, some (.int n), ?_⟩
      rw [take_snoc e, List.foldl_append]
      rfl
  · obtain ⟨rfl, z, rfl⟩ := p
    refine ⟨_, rfl, ?_⟩
    have e : (iv ns).length = ns.length := List.length_map _
    rw [e, List.take_length]
    exact q
/-! ### need_bends, Four -/
structure Fb (b : List Int) : Prop where
  dc : Dc b
  bd : Bd 1000000000000000 b
theorem iv_it {H : Hp} {a : Addr} {ns : List Int} (h : H a = some (.lst (iv ns))) (hz : ns.length ≤ 2000000) : ItOf H (.ref a) "list" (iv ns) :=
  ⟨.lst h, fun _ => ⟨⟨a, rfl, .inl ⟨rfl, h⟩⟩, fun x hx => by
    obtain ⟨n, _, rfl⟩ := List.mem_map.mp hx
    exact ⟨_, .int n⟩⟩, by rw [List.length_map]; exact hz⟩
theorem iv_itT {H : Hp} {a : Addr} {ns : List Int} (h : H a = some (.tup (iv ns))) (hz : ns.length ≤ 2000000) : ItOf H (.ref a) "tuple" (iv ns) :=
  ⟨.tup h, fun _ => ⟨⟨a, rfl, .inr ⟨rfl, h⟩⟩, fun x hx => by
    obtain ⟨n, _, rfl⟩ := List.mem_map.mp hx
    exact ⟨_, .int n⟩⟩, by rw [List.length_map]; exact hz⟩
theorem iv_isI (ns : List Int) : (iv ns).all isI = true := by
  rw [List.all_eq_true]; intro x hx
  obtain ⟨n, _, rfl⟩ := List.mem_map.mp hx
  rfl
def sqV : V → V
  | .int n => .int (n * n)
  | v => v
def spNeedBends : Sp := fun vs H Q _ => ∃ a b, vs = [.ref a] ∧ H a = some (.lst (iv b)) ∧ Fb b ∧ ∀ H', Same H H' → Q .non H'
theorem sc24 : FnScope ["bends", "total", "bend"] ["bends"] (defScope (top 24)) := ⟨rfl, rfl, rfl, by decide +kernel, rfl, by decide +kernel, by decide +kernel⟩
theorem c_needBends (T : Tx K mg) : C8.Cal P w K mg base 3 "need_bends" spNeedBends [] := by
  refine calD (T.d 6) sc24 (fun kV doc pm an cdv ct us hl => match us, hl with | [_], _ => rfl) (fun vs H Q E h => ?_) fun cdv A outer s H vs Q E hr h => ?_
  · obtain ⟨a, b, rfl, _⟩ := h; rfl
  obtain ⟨a, b, rfl, ha, fb, q⟩ := h
  obtain ⟨tk, hp⟩ := T.places
  refine ⟨_, pss_cons (ps_if (PW.pt (pw_or (pt_not (pt_val (C8.pe_c (c_areIntegers T) hr (by decide) rfl (pa_cons (pv 0) pa_nil)))) (pw_or1 (pt_cmpR op_ne (pe_callB call_len_seq (by rfl) (T.b 7) (by decide +kernel) (pa_cons (pv 0) pa_nil)) (pe_glob (v := .int 4) rfl hp ⟨_, rfl⟩) (nomark _))))) (pss_one ps_never) pss_nil)
    (pss_cons (ps_set (i := 1) sc24.nd rfl (.inl rfl) (pe_callB (cr_sum rfl) (by rfl) (T.b 4) (by decide +kernel) (pa_cons (pv 0) pa_nil)))
    (pss_cons (ps_if (pt_cmpR op_ne (pe_op op_mul pe_int (pe_callB (cr_sum rfl) (by rfl) (T.b 4) (by decide +kernel) (pa_cons (pe_lc (own := [("bend", 2)]) (g := gName 2) (tt := tYes) rfl sc24.nd (pi_list (pv 0)) (blkOk_by (N := ["bends", "total", "bend"]) (sc := defScope (top 24)) (by decide +kernel)) (fun _ _ _ _ _ => pg_name (i := 2) sc24.nd rfl (Or.inl rfl)) (fun _ _ _ _ _ => pts_nil)
      (fun _ _ _ _ _ => pe_op op_mul (pv 2) (pv 2))) pa_nil))) (pe_op op_mul (pv 1) (pv 1)) (nomark _)) (pss_one ps_never) pss_nil)
    (pss_cons (ps_if (pt_cmpR op_le (pv 1) pe_int (nomark _)) (pss_one ps_never) pss_nil)
    (pss_one (ps_if (pt_cmpR op_gt (C8.pe_c (c_measure T) hr (by decide) rfl (pa_cons (pv 0) pa_nil)) pe_int (nomark _)) (pss_one ps_never) pss_nil))))), ?_⟩
  have hl : b.length = 4 := fb.dc.len
  refine ⟨_, rfl, _, _, _, rfl, iv_it ha (by omega), fun H1 s1 => ?_⟩
  rw [iv_isI]
  have ha1 := s1 _ _ ha
  refine ⟨_, rfl, iteF ?_⟩
  refine ⟨_, rfl, a, iv b, rfl, .inl (SqL.of ha1), rfl, _, rfl, ?_⟩
  have e4 : decide (V.int ((iv b).length : Int) = V.int 4) = true := by rw [List.length_map, hl]; decide
  refine ifF (by rw [e4]; rfl) ?_
  refine ⟨_, rfl, a, b, rfl, SqL.of ha1, ?_⟩
  refine ⟨_, rfl, a, rfl, ⟨_, SqL.of ha1⟩, fun D nD => ?_⟩
  have hw : ∀ n ∈ b, -(2 ^ 64) < n ∧ n < 2 ^ 64 := fun n hn => by have := fb.bd n hn; omega
  have hsum := bd_sum hl fb.bd
  refine lc_list_g 2 (fun _ => true) (fun _ x y => y = sqV x) (fun _ _ _ _ _ h => h) (fun _ _ _ _ _ _ h => h) (by rw [List.length_map]; omega) nD (SqL.of ha1) (fun x => rfl) (fun x hx H' s Q' z => z H' (Same.refl _)) (fun x hx _ H' s Q' z => ?_) (fun H2 ys s2 hy r => ?_)
  · obtain ⟨n, hn, rfl⟩ := List.mem_map.mp hx
    exact ⟨_, rfl, _, rfl, n, n, rfl, rfl, .inl (hw n hn), z _ _ (Same.refl _) rfl⟩
  have e : ys = iv (b.map fun x => x * x) := by
    have := Paired.eq_map r
    rw [List.filter_eq_self.mpr (fun _ _ => rfl)] at this
    rw [this]
    show (b.map V.int).map sqV = (b.map fun x => x * x).map V.int
    rw [List.map_map, List.map_map]; rfl
  subst e
  have ha2 := s2 _ _ ha1
  refine ⟨D, _, rfl, SqL.of hy, 2, _, rfl, rfl, .inl ⟨by decide, by decide⟩, _, rfl, _, rfl, _, _, rfl, rfl, .inl ⟨by omega, by omega⟩, rfl, _, rfl, ?_⟩
  refine ifF (by show (!decide (V.int (2 * (b.map fun x => x * x).sum) = V.int (b.sum * b.sum))) = false; rw [fb.dc.eq, decide_eq_true rfl]; rfl) ?_
  refine ⟨_, rfl, _, _, rfl, rfl, _, rfl, ?_⟩
  refine ifF (decide_eq_false (by have := fb.dc.pos; omega)) ?_
  refine ⟨_, rfl, a, b, rfl, SqL.of ha2, _, _, rfl, rfl, _, rfl, ?_⟩
  refine ifF (decide_eq_false (by have := measure_le fb.dc; omega)) ?_
  exact q H2 (s1.trans s2)

/-! ### need_four, Four.__init__ -/
def FourAt (K : PySem.W.Frag) (H : Hp) (a : Addr) (b : List Int) : Prop := ∃ dx t, H a = some (.ins (ga K "Four") dx [("bends", .ref t), ("total", .int b.sum)]) ∧ H t = some (.tup (iv b))
theorem FourAt.same {H H' : Hp} {a : Addr} {b : List Int} (f : FourAt K H a b) (s : Same H H') : FourAt K H' a b := let ⟨dx, t, h1, h2⟩ := f; ⟨dx, t, s _ _ h1, s _ _ h2⟩
theorem insTy (T : Tx K mg) {x : Str} (hx : x ∈ clsL) {H : Hp} {a dx : Addr} {fs : List (Str × V)} (h : H a = some (.ins (ga K x) dx fs)) : TyX K H (.ref a) (.ref (ga K x)) :=
  let c := (T.cl x hx).ins; .base (.ins h c.cl c.ha c.hn c.htk c.hm)
def spNeedFour (K : PySem.W.Frag) : Sp := fun vs H Q _ => ∃ a b z, vs = [.ref a, z] ∧ FourAt K H a b ∧ Q .non H
theorem sc25 : FnScope ["value", "part"] ["value", "part"] (defScope (top 25)) := ⟨rfl, rfl, rfl, by decide +kernel, rfl, by decide +kernel, by decide +kernel⟩
theorem c_needFour (T : Tx K mg) : C8.Cal P w K mg base 1 "need_four" (spNeedFour K) [.str "four"] := by
  obtain ⟨t, fd, F⟩ := T.needF
  obtain ⟨ds, rd, bd⟩ := F.binds1 (ps := ["value", "part"]) 1 0 (by simp) (by rfl) (fun T kV doc pm an cdv ct us its h1 h2 => match us, its, h1, h2 with | [_], [_], _, _ => ⟨_, rfl, rfl⟩)
  refine ⟨ga K "need_four", fd, ["value", "part"], ds, F.ok sc25 (fun vs H Q E h => ?_) fun cdv A outer s H vs Q E hr h => ?_, T.needFm, F.kp, bd, rd⟩
  · obtain ⟨a, b, z, rfl, _⟩ := h; rfl
  obtain ⟨a, b, z, rfl, f, q⟩ := h
  have hm : mg "Four" = some (.ref (ga K "Four")) := (T.c 0).mgx
  refine ⟨_, PSs.nox (pss_one (ps_if (pt_not (pt_val (pe_callB call_isi (by rfl) (T.b 0) (by decide +kernel) (pa_cons (pv 0) (pa_cons (pe_glob (v := .ref (ga K "Four")) rfl hm rfl) pa_nil))))) (pss_one ps_never) pss_nil)), ?_⟩
  obtain ⟨dx, tt, h1, h2⟩ := f
  exact ⟨_, rfl, _, _, _, _, true, rfl, .own _, insTy T (by decide) h1, T.ko "Four" (by decide) "Four" (by decide), _, rfl, iteF q⟩
def KeptBut (x : Addr) (H H' : Hp) : Prop := ∀ a o, a ≠ x → H a = some o → H' a = some o
def spFourInit (K : PySem.W.Frag) : Sp := fun vs H Q _ => ∃ x dx a b, vs = [.ref x, .ref a] ∧ H x = some (.ins (ga K "Four") dx []) ∧ H a = some (.lst (iv b)) ∧ Fb b ∧ ∀ H', KeptBut x H H' → FourAt K H' x b → Q .non H'
theorem sc28 : FnScope ["self", "bends"] ["self", "bends"] (defScope (inClass (top 28) 0)) := ⟨rfl, rfl, rfl, by decide +kernel, rfl, by decide +kernel, by decide +kernel⟩
theorem c_fourInit (T : Tx K mg) : FnR P w K mg base CX0 4 (ma K (ga K "Four") "__init__") (spFourInit K) := by
  refine metD T.mFour sc28 (fun kV doc pm an cdv ct us hl => match us, hl with | [_, _], _ => rfl) (fun vs H Q E h => ?_) fun cdv A outer s H vs Q E hr h => ?_
  · obtain ⟨x, dx, a, b, rfl, _⟩ := h; rfl
  obtain ⟨x, dx, a, b, rfl, hx, ha, fb, q⟩ := h
  refine ⟨_, pss_cons (ps_expr (C8.pe_c (c_needBends T) hr (by decide) rfl (pa_cons (pv 1) pa_nil)))
    (pss_cons (ps_fld (pv 0) (pe_callTy call_tuple_of (by rfl) (T.b 5) (by decide +kernel) (pa_cons (pv 1) pa_nil)) rfl)
    (pss_one (ps_fld (pv 0) (pe_callB (cr_sum rfl) (by rfl) (T.b 4) (by decide +kernel) (pa_cons (pv 1) pa_nil)) rfl))), ?_⟩
  refine ⟨_, rfl, a, b, rfl, ha, fb, fun H1 s1 => ?_⟩
  have hl : b.length = 4 := fb.dc.len
  refine ⟨_, rfl, a, iv b, rfl, .inl ⟨SqL.of (s1 _ _ ha), fun t nt => ?_⟩⟩
  have s2 : Same H1 (upd H1 t (.tup (iv b))) := Same.upd nt
  have hx2 := s2 _ _ (s1 _ _ hx)
  have ha2 := s2 _ _ (s1 _ _ ha)
  have na := (T.c 0).ins.cl
  have ax : a ≠ x := ne_of ha hx (by intro z; cases z)
  have tx : t ≠ x := fun z => by rw [z] at nt; rw [s1 _ _ hx] at nt; cases nt
  refine ⟨_, rfl, x, _, dx, [], rfl, hx2, na, T.na ("Four", "bends") (by decide), by decide, ?_⟩
  refine ⟨_, rfl, a, b, rfl, SqL.of (by rw [upd_ne ax]; exact ha2), ?_⟩
  refine ⟨_, rfl, x, _, dx, _, rfl, upd_same, na, T.na ("Four", "total") (by decide), by show 1 < 1000; decide, ?_⟩
  refine q _ (fun c o nc e => ?_) ⟨dx, t, upd_same, ?_⟩
  · rw [upd_ne nc, upd_ne nc]; exact s2 _ _ (s1 _ _ e)
  · rw [upd_ne tx, upd_ne tx]; exact upd_same
end
end K31
namespace K31
open PySem PySem.Spec PyProof.Rows L2
/-! ### nested data -/
def TT : Nat → Type
  | 0 => V
  | n + 1 => V ⊕ List (TT n)
/-- a plain value, no list, no tuple -/
def Leaf (H : Hp) (v : V) : Prop := ∃ t, Pl H v t ∧ isSeq t = false
def InT : (n : Nat) → Hp → V → TT n → Prop
  | 0, H, v, x => v = x ∧ Leaf H v
  | n + 1, H, v, x => match x with
    | .inl y => v = y ∧ Leaf H v
    | .inr xs => ∃ a ys, v = .ref a ∧ (H a = some (.lst ys) ∨ H a = some (.tup ys)) ∧ ys.length ≤ 2000000 ∧ Paired (fun y x => InT n H y x) ys xs
def OutT : (n : Nat) → Hp → V → TT n → Prop
  | 0, H, v, x => v = x ∧ Leaf H v
  | n + 1, H, v, x => match x with
    | .inl y => v = y ∧ Leaf H v
    | .inr xs => ∃ a ys, v = .ref a ∧ H a = some (.tup ys) ∧ ys.length ≤ 2000000 ∧ Paired (fun y x => OutT n H y x) ys xs
theorem Leaf.same {H H' : Hp} {v : V} (s : Same H H') : Leaf H v → Leaf H' v := fun ⟨t, p, h⟩ => ⟨t, plS s p, h⟩
theorem InT.same {H H' : Hp} (s : Same H H') : ∀ (n : Nat) {v : V} {x : TT n}, InT n H v x → InT n H' v x
  | 0, v, x, h => ⟨h.1, h.2.same s⟩
  | n + 1, v, .inl y, h => ⟨h.1, Leaf.same s h.2⟩
  | n + 1, v, .inr xs, h => by
    obtain ⟨a, ys, e, ha, hz, r⟩ := h
    exact ⟨a, ys, e, ha.imp (s _ _) (s _ _), hz, Paired.mapP r fun _ _ q => InT.same s n q⟩
theorem OutT.same {H H' : Hp} (s : Same H H') : ∀ (n : Nat) {v : V} {x : TT n}, OutT n H v x → OutT n H' v x
  | 0, v, x, h => ⟨h.1, h.2.same s⟩
  | n + 1, v, .inl y, h => ⟨h.1, Leaf.same s h.2⟩
  | n + 1, v, .inr xs, h => by
    obtain ⟨a, ys, e, ha, hz, r⟩ := h
    exact ⟨a, ys, e, s _ _ ha, hz, Paired.mapP r fun _ _ q => OutT.same s n q⟩
/-- .. when the object at D is another now, which no tuple is -/
theorem Leaf.upd {H : Hp} {v : V} {D : Addr} {ys zs : List V} (hD : H D = some (.lst ys)) : Leaf H v → Leaf (L2.upd H D (.lst zs)) v := fun ⟨t, p, h⟩ => ⟨t, p.mono fun a o e q => by
  subst e
  by_cases ad : a = D
  · subst ad
    exfalso
    rw [hD] at q
    cases p with
    | lst h' => cases h
    | tup h' => cases h
    | dct h' => rw [hD] at h'; cases h'
  · rw [upd_ne ad]; exact q, h⟩
theorem OutT.upd {H : Hp} {D : Addr} {ys zs : List V} (hD : H D = some (.lst ys)) : ∀ (n : Nat) {v : V} {x : TT n}, OutT n H v x → OutT n (L2.upd H D (.lst zs)) v x
  | 0, v, x, h => ⟨h.1, h.2.upd hD⟩
  | n + 1, v, .inl y, h => ⟨h.1, Leaf.upd hD h.2⟩
  | n + 1, v, .inr xs, h => by
    obtain ⟨a, ws, e, ha, hz, r⟩ := h
    exact ⟨a, ws, e, by rw [upd_ne (ne_of ha hD (by intro z; cases z))]; exact ha, hz, Paired.mapP r fun _ _ q => OutT.upd hD n q⟩

theorem Paired.ex {α β : Type} {F : α → β → Prop} : ∀ {l : List α} {m : List β}, Paired F l m → ∀ {x : α}, x ∈ l → ∃ y, F x y
  | _, _, .cons r t, x, h => by
    rcases List.mem_cons.mp h with rfl | h
    · exact ⟨_, r⟩
    · exact Paired.ex t h
theorem Paired.comp {α β γ : Type} {F : α → β → Prop} {G : α → γ → Prop} {E : β → γ → Prop} : ∀ {l : List α} {m : List β} {k : List γ}, Paired F l m → Paired G l k → (∀ a b c, F a b → G a c → E b c) → Paired E m k
  | _, _, _, .nil, .nil, _ => .nil
  | _, _, _, .cons r t, .cons r' t', f => .cons (f _ _ _ r r') (Paired.comp t t' f)
section
variable {P : Program} {w : World} {K : PySem.W.Frag} {mg : Str → Option Value} {base : Heap}
/-! ### fixed -/
def spFixed (n : Nat) : Sp := fun vs H Q _ => ∃ v, vs = [v] ∧ (∃ x, InT n H v x) ∧ ∀ H' v', Same H H' → (∀ x, InT n H v x → OutT n H' v' x) → Q v' H'
theorem sc30 : FnScope ["value", "part"] ["value"] (defScope (top 30)) := ⟨rfl, rfl, rfl, by decide +kernel, rfl, by decide +kernel, by decide +kernel⟩
theorem InT.pl {H : Hp} {v : V} : ∀ {n : Nat} {x : TT n}, InT n H v x → ∃ t, Pl H v t
  | 0, _, h => let ⟨t, p, _⟩ := h.2; ⟨t, p⟩
  | n + 1, .inl _, h => let ⟨t, p, _⟩ := h.2; ⟨t, p⟩
  | n + 1, .inr xs, h => by
    obtain ⟨a, ys, rfl, ha, _⟩ := h
    rcases ha with ha | ha
    · exact ⟨_, .lst ha⟩
    · exact ⟨_, .tup ha⟩
theorem leaf_out {H : Hp} {v : V} {n : Nat} (l : Leaf H v) {H' : Hp} (s : Same H H') {x : TT n} (h : InT n H v x) : OutT n H' v x := by
  cases n with
  | zero => exact ⟨h.1, l.same s⟩
  | succ n =>
    cases x with
    | inl y => exact ⟨h.1, l.same s⟩
    | inr xs =>
      exfalso
      obtain ⟨a, ys, rfl, ha, _⟩ := h
      obtain ⟨t, p, e⟩ := l
      rcases ha with ha | ha <;> cases p with
      | lst h => cases e
      | tup h => cases e
      | dct h => rw [h] at ha; cases ha
theorem fixed_leaf {n : Nat} {H H1 : Hp} {v : V} {Q : VK} (l : Leaf H v) (s : Same H H1) (q : ∀ H' v', Same H H' → (∀ x : TT n, InT n H v x → OutT n H' v' x) → Q v' H') : Q v H1 := q H1 v s fun x h => leaf_out l s h
theorem c_fixed (T : Tx K mg) : ∀ n, C8.Cal P w K mg base (n + 1) "fixed" (spFixed n) []
  | 0 => by
    refine calD (T.d 7) sc30 (fun kV doc pm an cdv ct us hl => match us, hl with | [_], _ => rfl) (fun vs H Q E h => ?_) fun cdv A outer s H vs Q E hr h => ?_
    · obtain ⟨v, rfl, _⟩ := h; rfl
    obtain ⟨v, rfl, ⟨x, hx⟩, q⟩ := h
    refine ⟨_, pss_cons (ps_if (pt_val (pe_callB call_isiT (by rfl) (T.b 0) (by decide +kernel) (pa_cons (pv 0) (pa_cons (pe_tup (pa_cons (pe_bltn (v := .ty "list") (by rfl) (T.b 6) (by decide +kernel) rfl) (pa_cons (pe_bltn (v := .ty "tuple") (by rfl) (T.b 5) (by decide +kernel) rfl) pa_nil))) pa_nil)))) (pss_one ps_never) pss_nil)
      (pss_one (ps_ret (pv 0))), ?_⟩
    obtain ⟨_, l⟩ := hx
    obtain ⟨t, p, hs⟩ := id l
    refine ⟨_, rfl, by show 2 ≤ sizeLine; decide, fun tp ntp => ?_⟩
    have S1 : Same H (L2.upd H tp (.tup [.ty "list", .ty "tuple"])) := Same.upd ntp
    refine ⟨v, tp, _, .type t, [.type "list", .type "tuple"], isSeq t, rfl, upd_same, .cons (.ty _) (.cons (.ty _) .nil), (plS S1 p).ty, kitSeq p, _, rfl, ?_⟩
    exact ifF hs ⟨_, rfl, fixed_leaf l S1 q⟩
  | n + 1 => by
    refine calD (T.d 7) sc30 (fun kV doc pm an cdv ct us hl => match us, hl with | [_], _ => rfl) (fun vs H Q E h => ?_) fun cdv A outer s H vs Q E hr h => ?_
    · obtain ⟨v, rfl, _⟩ := h; rfl
    obtain ⟨v, rfl, ⟨x, hx⟩, q⟩ := h
    refine ⟨_, pss_cons (ps_if (pt_val (pe_callB call_isiT (by rfl) (T.b 0) (by decide +kernel) (pa_cons (pv 0) (pa_cons (pe_tup (pa_cons (pe_bltn (v := .ty "list") (by rfl) (T.b 6) (by decide +kernel) rfl) (pa_cons (pe_bltn (v := .ty "tuple") (by rfl) (T.b 5) (by decide +kernel) rfl) pa_nil))) pa_nil))))
        (pss_one (ps_ret (pe_callTy call_tuple_of (by rfl) (T.b 5) (by decide +kernel) (pa_cons (pe_lc (own := [("part", 1)]) (g := gName 1) (tt := tYes) rfl sc30.nd (pi_or (pi_list (pv 0)) (pi_tup (pv 0))) (blkOk_by (N := ["value", "part"]) (sc := defScope (top 30)) (by decide +kernel)) (fun _ _ _ _ _ => pg_name (i := 1) sc30.nd rfl (Or.inl rfl)) (fun _ _ _ _ _ => pts_nil)
          (fun _ _ _ _ _ => C8.pe_c (c_fixed T n) hr (Nat.le_refl _) rfl (pa_cons (pv 1) pa_nil))) pa_nil)))) pss_nil)
      (pss_one (ps_ret (pv 0))), ?_⟩
    obtain ⟨t, p⟩ := hx.pl
    refine ⟨_, rfl, by show 2 ≤ sizeLine; decide, fun tp ntp => ?_⟩
    have S1 : Same H (L2.upd H tp (.tup [.ty "list", .ty "tuple"])) := Same.upd ntp
    refine ⟨v, tp, _, .type t, [.type "list", .type "tuple"], isSeq t, rfl, upd_same, .cons (.ty _) (.cons (.ty _) .nil), (plS S1 p).ty, kitSeq p, _, rfl, ?_⟩
    cases x with
    | inl y =>
      have l : Leaf H v := hx.2
      obtain ⟨t', p', hs⟩ := id l
      have : isSeq t = false := by
        cases p <;> first | rfl | (exfalso; rename_i h; cases p' with
          | lst h' => cases hs
          | tup h' => cases hs
          | dct h' => rw [h'] at h; cases h)
      exact ifF this ⟨_, rfl, fixed_leaf l S1 q⟩
    | inr xs =>
      obtain ⟨a, ys, rfl, ha, hz, r⟩ := id hx
      have hs : isSeq t = true := by
        cases p with
        | lst h => rfl
        | tup h => rfl
        | dct h => rcases ha with ha | ha <;> (rw [h] at ha; cases ha)
      refine ifT hs ?_
      have S1' : Same H (L2.upd H tp (.tup [.ty "list", .ty "tuple"])) := S1
      generalize L2.upd H tp (.tup [.ty "list", .ty "tuple"]) = H1 at S1 S1'
      -- each item has a tree
      have tree : ∀ y ∈ ys, ∃ x, InT n H y x := fun y hy => Paired.ex r hy
      have ex : ∀ y ∈ ys, ∀ H', Same H1 H' → ∀ Q' : V → Hp → Prop, (∀ z H4, Same H' H4 → (∀ x, InT n H y x → OutT n H4 z x) → Q' z H4) → spFixed n [y] H' Q' C8.E0 := fun y hy H' s' Q' z => by
        obtain ⟨x, hx⟩ := tree y hy
        exact ⟨y, rfl, ⟨x, hx.same (S1.trans s')⟩, fun H4 v' s4 o => z v' H4 s4 fun x' hx' => o x' (hx'.same (S1.trans s'))⟩
      have fin : ∀ D H' zs, Same H1 H' → H' D = some (.lst zs) → Paired (fun y z => ∀ x, InT n H y x → OutT n H' z x) (ys.filter fun _ => true) zs → tNil (L2.start ["value", "part"] [.ref a]) H' fun us H2 => (∃ (a : Addr) (xs : List V), V.ref D :: us = [V.ref a] ∧ ((SqL K H2 a xs ∧ ∀ p, H2 p = none → Q (.ref p) (L2.upd H2 p (.tup xs))) ∨ (SqT K H2 a xs ∧ Q (.ref a) H2))) := fun D H' zs s' hD rr => by
        rw [List.filter_eq_self.mpr (fun _ _ => rfl)] at rr
        refine ⟨D, zs, rfl, .inl ⟨SqL.of hD, fun p np => ?_⟩⟩
        have S3 : Same H' (L2.upd H' p (.tup zs)) := Same.upd np
        refine q _ _ ((S1.trans s').trans S3) fun x hx => ?_
        cases x with
        | inl y =>
          obtain ⟨e, t', p', h'⟩ := hx
          exfalso
          rcases ha with ha | ha <;> cases p' with
          | lst h => cases h'
          | tup h => cases h'
          | dct h => rw [h] at ha; cases ha
        | inr xs' =>
          obtain ⟨a', ys', e, ha', hz', r'⟩ := hx
          cases e
          have ey : ys' = ys := by
            rcases ha with ha | ha <;> rcases ha' with ha' | ha' <;> (rw [ha] at ha'; cases ha'; try rfl)
          subst ey
          refine ⟨p, zs, rfl, upd_same, by rw [← Paired.length rr]; exact hz, ?_⟩
          exact Paired.comp rr r' fun y z x h1 h2 => (h1 x h2).same S3 n
      rcases ha with ha | ha
      · refine .inl ⟨_, rfl, a, rfl, ⟨ys, SqL.of (S1 _ _ ha)⟩, fun D nD => ?_⟩
        exact lc_list_g 1 (fun _ => true) (fun H' y z => ∀ x, InT n H y x → OutT n H' z x) (fun _ _ _ _ s' h x hx => (h x hx).same s' n) (fun _ _ _ _ _ hD h x hx => (h x hx).upd hD n) hz nD (SqL.of (S1 _ _ ha)) (fun x => rfl) (fun x hx H' s' Q' z => z H' (Same.refl _))
          (fun y hy _ H' s' Q' z => ⟨_, rfl, ex y hy H' s' _ z⟩) (fun H' zs s' hy rr => fin D H' zs s' hy rr)
      · refine .inr ⟨_, rfl, a, rfl, ⟨ys, SqT.of (S1 _ _ ha)⟩, fun D nD => ?_⟩
        exact lc_tup_g 1 (fun _ => true) (fun H' y z => ∀ x, InT n H y x → OutT n H' z x) (fun _ _ _ _ s' h x hx => (h x hx).same s' n) (fun _ _ _ _ _ hD h x hx => (h x hx).upd hD n) hz nD (SqT.of (S1 _ _ ha)) (fun x => rfl) (fun x hx H' s' Q' z => z H' (Same.refl _))
          (fun y hy _ H' s' Q' z => ⟨_, rfl, ex y hy H' s' _ z⟩) (fun H' zs s' hy rr => fin D H' zs s' hy rr)
end
end K31
namespace K31
open PySem PySem.Spec PyProof.Rows L2
def papL : List Str := ["Paper", "Denial", "Met", "Unmet"]
/-- what more a paper of the class x keeps -/
def extra (x : Str) (v : V) : List (Str × V) := if x = "Met" then [("letters", v)] else if x = "Unmet" then [("by", v)] else []
def papF (wd : Str) (p : Addr) (x : Str) (v : V) : List (Str × V) := ("word", .str wd) :: ("parts", .ref p) :: extra x v
section
variable {P : Program} {w : World} {K : PySem.W.Frag} {mg : Str → Option Value} {base : Heap}
/-- a paper of the class x, of the word wd and the one part l -/
def PapAt (K : PySem.W.Frag) (x wd : Str) (H : Hp) (a : Addr) (v : V) : Prop := ∃ dx p, H a = some (.ins (ga K x) dx (papF wd p x v)) ∧ H p = some (.tup [v])
theorem PapAt.same {x wd : Str} {H H' : Hp} {a : Addr} {v : V} (f : PapAt K x wd H a v) (s : Same H H') : PapAt K x wd H' a v := let ⟨dx, t, h1, h2⟩ := f; ⟨dx, t, s _ _ h1, s _ _ h2⟩
/-- Paper.__init__ of (self, word, the tuple of one part) -/
def spPaper0 (K : PySem.W.Frag) : Sp := fun vs H Q _ => ∃ x c dx wd p v, vs = [.ref x, .str wd, .ref p] ∧ c ∈ papL ∧ H x = some (.ins (ga K c) dx []) ∧ H p = some (.tup [v]) ∧ (∃ l, InT 2 H v l) ∧
  ∀ H' p' v', KeptBut x H H' → H' x = some (.ins (ga K c) dx [("word", .str wd), ("parts", .ref p')]) → H' p' = some (.tup [v']) → (∀ l, InT 2 H v l → OutT 2 H' v' l) → Q .non H'
theorem papC {c : Str} (h : c ∈ papL) : c ∈ clsL := by revert h; revert c; decide
theorem papW {c : Str} (h : c ∈ papL) : (c, ("word" : Str)) ∈ ([("Four", "bends"), ("Four", "total"), ("Paper", "word"), ("Paper", "parts"), ("Denial", "word"), ("Denial", "parts"), ("Met", "word"), ("Met", "parts"), ("Met", "letters"), ("Unmet", "word"), ("Unmet", "parts"), ("Unmet", "by")] : List (Str × Str)) := by revert h; revert c; decide
theorem papP {c : Str} (h : c ∈ papL) : (c, ("parts" : Str)) ∈ ([("Four", "bends"), ("Four", "total"), ("Paper", "word"), ("Paper", "parts"), ("Denial", "word"), ("Denial", "parts"), ("Met", "word"), ("Met", "parts"), ("Met", "letters"), ("Unmet", "word"), ("Unmet", "parts"), ("Unmet", "by")] : List (Str × Str)) := by revert h; revert c; decide
theorem Leaf.but {x C dx : Addr} {fs : List (Str × V)} {H H' : Hp} {v : V} (hx : H x = some (.ins C dx fs)) (s : KeptBut x H H') : Leaf H v → Leaf H' v := fun ⟨t, p, h⟩ => by
  refine ⟨t, p.mono fun a o e q => s a o (fun z => ?_) q, h⟩
  subst z
  subst e
  cases p with
  | lst h' => rw [hx] at h'; cases h'
  | tup h' => rw [hx] at h'; cases h'
  | dct h' => rw [hx] at h'; cases h'
theorem OutT.but {x C dx : Addr} {fs : List (Str × V)} {H H' : Hp} (hx : H x = some (.ins C dx fs)) (s : KeptBut x H H') : ∀ (n : Nat) {v : V} {l : TT n}, OutT n H v l → OutT n H' v l
  | 0, v, l, h => ⟨h.1, h.2.but hx s⟩
  | n + 1, v, .inl y, h => ⟨h.1, Leaf.but hx s h.2⟩
  | n + 1, v, .inr xs, h => by
    obtain ⟨a, ys, e, ha, hz, r⟩ := h
    exact ⟨a, ys, e, s _ _ (ne_of ha hx (by intro z; cases z)) ha, hz, Paired.mapP r fun _ _ q => OutT.but hx s n q⟩
theorem InT.but {x C dx : Addr} {fs : List (Str × V)} {H H' : Hp} (hx : H x = some (.ins C dx fs)) (s : KeptBut x H H') : ∀ (n : Nat) {v : V} {l : TT n}, InT n H v l → InT n H' v l
  | 0, v, l, h => ⟨h.1, h.2.but hx s⟩
  | n + 1, v, .inl y, h => ⟨h.1, Leaf.but hx s h.2⟩
  | n + 1, v, .inr xs, h => by
    obtain ⟨a, ys, e, ha, hz, r⟩ := h
    refine ⟨a, ys, e, ?_, hz, Paired.mapP r fun _ _ q => InT.but hx s n q⟩
    rcases ha with ha | ha
    · exact .inl (s _ _ (ne_of ha hx (by intro z; cases z)) ha)
    · exact .inr (s _ _ (ne_of ha hx (by intro z; cases z)) ha)
theorem sc31 : FnScope ["self", "word", "parts"] ((["self", "word"] : List Str) ++ [("parts" : Str)]) (defScope (inClass (top 31) 0)) := ⟨rfl, rfl, rfl, by decide +kernel, rfl, by decide +kernel, by decide +kernel⟩
def spPaper (K : PySem.W.Frag) : Sp := fun vs H Q _ => ∃ x c dx wd v, vs = [.ref x, .str wd, v] ∧ c ∈ papL ∧ H x = some (.ins (ga K c) dx []) ∧ (∃ l, InT 2 H v l) ∧
  ∀ H' p' v', KeptBut x H H' → H' x = some (.ins (ga K c) dx [("word", .str wd), ("parts", .ref p')]) → H' p' = some (.tup [v']) → (∀ l, InT 2 H v l → OutT 2 H' v' l) → Q .non H'
theorem c_paper (T : Tx K mg) : FnR P w K mg base CX0 5 (ma K (ga K "Paper") "__init__") (spPaper K) := by
  obtain ⟨oc, kV, doc, pm, cdv, ct, an, od, osl, lk, hcd⟩ := T.mPaper
  have F := StX.fn_star (ps := ["self", "word"]) (pv := "parts") (P := P) (w := w) (mg := mg) (base := base) (k := 4) (sp := spPaper0 K) lk hcd sc31 (show StX.CXUp CX0 from fun _ _ _ _ _ _ _ _ _ _ _ z => z)
    (StX.bind_star2 (B := fun us => bindArgs (PySem.W.fnOf "__init__" "Paper.__init__" (defArgs (inClass (top 31) 0)) (defBody (inClass (top 31) 0)) (defScope (inClass (top 31) 0)) .none kV doc pm an cdv ct) ⟨us, []⟩) (p1 := "self") (p2 := "word") (pv := "parts") (fun a b => rfl) (fun a b r rs => rfl)) (fun A outer s H vs Q E hr h => ?_)
  · refine F.imp fun vs H Q E h => ?_
    obtain ⟨x, c, dx, wd, v, rfl, hc, hx, ⟨l, hl⟩, q⟩ := h
    refine ⟨[.ref x, .str wd], [v], rfl, rfl, by show 1 ≤ sizeLine; decide, fun p np => ?_⟩
    have S1 : Same H (L2.upd H p (.tup [v])) := Same.upd np
    refine ⟨x, c, dx, wd, p, v, rfl, hc, S1 _ _ hx, upd_same, ⟨l, hl.same S1⟩, fun H' p' v' s h1 h2 h3 => q H' p' v' (fun a o na e => s a o na (S1 _ _ e)) h1 h2 fun l hl => h3 l (hl.same S1)⟩
  obtain ⟨x, c, dx, wd, p, v, rfl, hc, hx, hp, ⟨l, hl⟩, q⟩ := h
  refine ⟨_, PSs.nox (pss_cons (ps_fld (pv 0) (pv 1) rfl) (pss_one (ps_fld (pv 0) (C8.pe_c (c_fixed T 3) hr (by decide) rfl (pa_cons (pv 2) pa_nil)) rfl))), ?_⟩
  have cl := (T.cl c (papC hc)).ins.cl
  refine ⟨_, rfl, _, rfl, x, _, dx, [], rfl, hx, cl, T.na _ (papW hc), by decide, ?_⟩
  have s1 : KeptBut x H (L2.upd H x (.ins (ga K c) dx (putF "word" (.str wd) []))) := fun a o na e => by rw [upd_ne na]; exact e
  have px : p ≠ x := ne_of hp hx (by intro z; cases z)
  have hp1 := s1 _ _ px hp
  have hx1 : (L2.upd H x (.ins (ga K c) dx (putF "word" (.str wd) []))) x = some (.ins (ga K c) dx [("word", .str wd)]) := upd_same
  generalize L2.upd H x (.ins (ga K c) dx (putF "word" (.str wd) [])) = H1 at s1 hp1 hx1
  refine ⟨_, rfl, .ref p, rfl, ⟨.inr [l], p, [v], rfl, .inr hp1, by show 1 ≤ 2000000; decide, .cons (hl.but hx s1) .nil⟩, fun H2 v2 s2 o2 => ?_⟩
  obtain ⟨p', ys, rfl, hp', _, r⟩ := o2 (.inr [l]) ⟨p, [v], rfl, .inr hp1, by show 1 ≤ 2000000; decide, .cons (hl.but hx s1) .nil⟩
  cases r with
  | @cons v' _ _ _ r1 r2 =>
  cases r2
  have hx2 := s2 _ _ hx1
  refine ⟨_, rfl, x, _, dx, _, rfl, hx2, cl, T.na _ (papP hc), by show 1 < 1000; decide, ?_⟩
  have s3 : KeptBut x H2 (L2.upd H2 x (.ins (ga K c) dx (putF "parts" (.ref p') [("word", .str wd)]))) := fun a o na e => by rw [upd_ne na]; exact e
  refine q _ p' v' (fun a o na e => s3 _ _ na (s2 _ _ (s1 _ _ na e))) upd_same (s3 _ _ (ne_of hp' hx2 (by intro z; cases z)) hp') fun l' hl' => ?_
  have := o2 (.inr [l']) ⟨p, [v], rfl, .inr hp1, by show 1 ≤ 2000000; decide, .cons (hl'.but hx s1) .nil⟩
  obtain ⟨p2, ys2, e2, hp2, _, rr⟩ := this
  cases e2
  rw [hp'] at hp2
  cases hp2
  cases rr with
  | cons rr1 _ => exact OutT.but hx2 s3 2 rr1

/-! ### __bool__ -/
def spBool (b : Bool) : Sp := fun vs H Q _ => ∃ v, vs = [v] ∧ Q (.bl b) H
theorem sc31b : FnScope ["self"] ["self"] (defScope (inClass (top 31) 1)) := ⟨rfl, rfl, rfl, by decide +kernel, rfl, by decide +kernel, by decide +kernel⟩
theorem sc32b : FnScope ["self"] ["self"] (defScope (inClass (top 32) 0)) := ⟨rfl, rfl, rfl, by decide +kernel, rfl, by decide +kernel, by decide +kernel⟩
theorem c_paperBool (T : Tx K mg) : FnR P w K mg base CX0 1 (ma K (ga K "Paper") "__bool__") (spBool true) := by
  refine metD T.mPb sc31b (fun kV doc pm an cdv ct us hl => match us, hl with | [_], _ => rfl) (fun vs H Q E h => ?_) fun cdv A outer s H vs Q E hr h => ?_
  · obtain ⟨v, rfl, _⟩ := h; rfl
  obtain ⟨v, rfl, q⟩ := h
  exact ⟨_, pss_one (ps_ret pe_bl), q⟩
theorem c_denialBool (T : Tx K mg) : FnR P w K mg base CX0 1 (ma K (ga K "Denial") "__bool__") (spBool false) := by
  refine metD T.mDb sc32b (fun kV doc pm an cdv ct us hl => match us, hl with | [_], _ => rfl) (fun vs H Q E h => ?_) fun cdv A outer s H vs Q E hr h => ?_
  · obtain ⟨v, rfl, _⟩ := h; rfl
  obtain ⟨v, rfl, q⟩ := h
  exact ⟨_, pss_one (ps_ret pe_bl), q⟩
theorem cl_self {C : Addr} (h : PySem.W.makesIn K C = true) : PySem.W.mroIn K C (.ref C) = some true := by
  unfold PySem.W.makesIn at h
  split at h
  · rename_i c d cd sl e
    simp only [Bool.and_eq_true, Bool.not_eq_true'] at h
    unfold PySem.W.mroIn PySem.W.clsIn
    rw [e]
    show (if cd.mro.isEmpty = true then none else some (cd.mro.contains (.ref C))) = some true
    rw [h.1.1.1.1.2, h.1.1.1.2]
    rfl
  · cases h

/-! ### Met.__init__ -/
def spMet (K : PySem.W.Frag) : Sp := fun vs H Q _ => ∃ x dx v, vs = [.ref x, v] ∧ H x = some (.ins (ga K "Met") dx []) ∧ (∃ l, InT 2 H v l) ∧
  ∀ H' v', KeptBut x H H' → PapAt K "Met" "met" H' x v' → (∀ l, InT 2 H v l → OutT 2 H' v' l) → Q .non H'
theorem sc38 : NdefX.NScope ["self", "letters", "__class__"] ["self", "letters"] ["__class__"] (defScope (inClass (top 38) 0)) := NdefX.nscope_by (by decide +kernel)
theorem c_MetInit (T : Tx K mg) : ∃ (c cc : Addr) (kV doc pm ct : Value) (an : Option Addr), FnOk prg w K mg base CX0 6 (ma K (ga K "Met") "__init__") (PySem.W.fnX "__init__" "Met.__init__" (defArgs (inClass (top 38) 0)) (defBody (inClass (top 38) 0)) (defScope (inClass (top 38) 0)) [(("__class__" : Str), cc)] .none kV doc pm an (.ref c) ct) ["self", "letters"] (spMet K) := by
  obtain ⟨c, cc, S⟩ := T.sMet
  refine ⟨c, cc, FnOk.sup S sc38 (a0 := _) (hbody := rfl) (hpar := rfl) (hN0 := rfl) (hd0 := by decide) (hdc0 := by decide) (hv0 := rfl) (hN1 := rfl) (hks := rfl) (hkc := rfl) (hms := T.b 13) (htop := by decide +kernel) (c_paper T) T.fPi.1 T.fPi.2 (fun L => rfl) (fun L => rfl) (fun L => rfl) (fun L => rfl) (fun vs H Q E h => ?_) fun A outer s H vs Q E hr h => ?_⟩
  · obtain ⟨x, dx, v, rfl, _⟩ := h; rfl
  obtain ⟨x, dx, v, rfl, hx, hl, q⟩ := h
  have cl := (T.cl "Met" (by decide)).ins
  refine ⟨x, _, dx, [], [v], _, _, rfl, hx, cl_self (T.cl _ (by decide)).mkr.makes, T.upMet, pa_cons pe_str (pa_cons (pv 1) pa_nil), pss_one (ps_fld (pv 0) (pe_ix ix_tup (pe_fld (pv 0) rfl) pe_int (fun _ _ => rfl)) rfl), ?_⟩
  refine ⟨_, rfl, x, "Met", dx, "met", v, rfl, by decide, hx, hl, fun H1 p' v' s1 h1 h2 h3 => ?_⟩
  refine ⟨_, rfl, x, _, dx, _, _, rfl, h1, cl.cl, T.na ("Met", "parts") (by decide), rfl, ?_⟩
  refine ⟨p', _, _, v', rfl, rfl, SqT.of h2, rfl, ?_⟩
  refine ⟨_, rfl, x, _, dx, _, rfl, h1, cl.cl, T.na ("Met", "letters") (by decide), by show 2 < 1000; decide, ?_⟩
  have s2 : KeptBut x H1 (L2.upd H1 x (.ins (ga K "Met") dx (putF "letters" v' [("word", .str "met"), ("parts", .ref p')]))) := fun a o na e => by rw [upd_ne na]; exact e
  exact q _ v' (fun a o na e => s2 _ _ na (s1 _ _ na e)) ⟨dx, p', upd_same, s2 _ _ (ne_of h2 h1 (by intro z; cases z)) h2⟩ fun l hl => (h3 l hl).but h1 s2 2

/-! ### Unmet.__init__ -/
def spUnmet (K : PySem.W.Frag) : Sp := fun vs H Q _ => ∃ x dx v, vs = [.ref x, v] ∧ H x = some (.ins (ga K "Unmet") dx []) ∧ (∃ l, InT 2 H v l) ∧
  ∀ H' v', KeptBut x H H' → PapAt K "Unmet" "unmet" H' x v' → (∀ l, InT 2 H v l → OutT 2 H' v' l) → Q .non H'
theorem sc39 : NdefX.NScope ["self", "by", "__class__"] ["self", "by"] ["__class__"] (defScope (inClass (top 39) 0)) := NdefX.nscope_by (by decide +kernel)
theorem c_UnmetInit (T : Tx K mg) : ∃ (c cc : Addr) (kV doc pm ct : Value) (an : Option Addr), FnOk prg w K mg base CX0 6 (ma K (ga K "Unmet") "__init__") (PySem.W.fnX "__init__" "Unmet.__init__" (defArgs (inClass (top 39) 0)) (defBody (inClass (top 39) 0)) (defScope (inClass (top 39) 0)) [(("__class__" : Str), cc)] .none kV doc pm an (.ref c) ct) ["self", "by"] (spUnmet K) := by
  obtain ⟨c, cc, S⟩ := T.sUnm
  refine ⟨c, cc, FnOk.sup S sc39 (a0 := _) (hbody := rfl) (hpar := rfl) (hN0 := rfl) (hd0 := by decide) (hdc0 := by decide) (hv0 := rfl) (hN1 := rfl) (hks := rfl) (hkc := rfl) (hms := T.b 13) (htop := by decide +kernel) (c_paper T) T.fPi.1 T.fPi.2 (fun L => rfl) (fun L => rfl) (fun L => rfl) (fun L => rfl) (fun vs H Q E h => ?_) fun A outer s H vs Q E hr h => ?_⟩
  · obtain ⟨x, dx, v, rfl, _⟩ := h; rfl
  obtain ⟨x, dx, v, rfl, hx, hl, q⟩ := h
  have cl := (T.cl "Unmet" (by decide)).ins
  refine ⟨x, _, dx, [], [v], _, _, rfl, hx, cl_self (T.cl _ (by decide)).mkr.makes, T.upUnm, pa_cons pe_str (pa_cons (pv 1) pa_nil), pss_one (ps_fld (pv 0) (pe_ix ix_tup (pe_fld (pv 0) rfl) pe_int (fun _ _ => rfl)) rfl), ?_⟩
  refine ⟨_, rfl, x, "Unmet", dx, "unmet", v, rfl, by decide, hx, hl, fun H1 p' v' s1 h1 h2 h3 => ?_⟩
  refine ⟨_, rfl, x, _, dx, _, _, rfl, h1, cl.cl, T.na ("Unmet", "parts") (by decide), rfl, ?_⟩
  refine ⟨p', _, _, v', rfl, rfl, SqT.of h2, rfl, ?_⟩
  refine ⟨_, rfl, x, _, dx, _, rfl, h1, cl.cl, T.na ("Unmet", "by") (by decide), by show 2 < 1000; decide, ?_⟩
  have s2 : KeptBut x H1 (L2.upd H1 x (.ins (ga K "Unmet") dx (putF "by" v' [("word", .str "unmet"), ("parts", .ref p')]))) := fun a o na e => by rw [upd_ne na]; exact e
  exact q _ v' (fun a o na e => s2 _ _ na (s1 _ _ na e)) ⟨dx, p', upd_same, s2 _ _ (ne_of h2 h1 (by intro z; cases z)) h2⟩ fun l hl => (h3 l hl).but h1 s2 2
end
end K31
namespace K31
open PySem PySem.Spec PyProof.Rows L2
/-! ### data of ints -/
def dIs (ns : List Int) : List PyData := ns.map PyData.int
theorem dIs_lay : ∀ ns : List Int, PyData.canLayAll0 (dIs ns) = true
  | [] => by simp [dIs, PyData.canLayAll0]
  | n :: ns => by
    have := dIs_lay ns
    unfold dIs at *
    simp [PyData.canLayAll0, PyData.canLay0, this]
theorem dIs_depth : ∀ ns : List Int, PyData.depthAll (dIs ns) = 0
  | [] => by simp [dIs, PyData.depthAll]
  | n :: ns => by
    have := dIs_depth ns
    unfold dIs at *
    simp [PyData.depthAll, PyData.depth, this]
theorem dIs_dp (K : PySem.W.Frag) (H : Hp) : ∀ ns : List Int, DpAll K H (iv ns) (dIs ns)
  | [] => .nil
  | n :: ns => .cons (.int n) (dIs_dp K H ns)
theorem tupI_shaped (ns : List Int) : SeqAt.shaped (.tuple (dIs ns)) = true := by
  unfold SeqAt.shaped
  simp [PyData.canLay0, dIs_lay, PyData.depth, dIs_depth]
theorem lstI_shaped (ns : List Int) : SeqAt.shaped (.list (dIs ns)) = true := by
  unfold SeqAt.shaped
  simp [PyData.canLay0, dIs_lay, PyData.depth, dIs_depth]
theorem dIs_eqv : ∀ ns ms : List Int, PyData.eqvAll (dIs ns) (dIs ms) = decide (ns = ms)
  | [], [] => by simp [dIs, PyData.eqvAll]
  | [], _ :: _ => by simp [dIs, PyData.eqvAll]
  | _ :: _, [] => by simp [dIs, PyData.eqvAll]
  | n :: ns, m :: ms => by
    have ih := dIs_eqv ns ms
    show PyData.eqvAll (.int n :: dIs ns) (.int m :: dIs ms) = _
    rw [PyData.eqvAll, PyData.eqv, ih]
    by_cases h : n = m
    · by_cases h2 : ns = ms <;> simp [h, h2]
    · simp [h]
theorem eqv_tupI (ns ms : List Int) : PyData.eqv (.tuple (dIs ns)) (.tuple (dIs ms)) = decide (ns = ms) := by rw [PyData.eqv, dIs_eqv]
theorem eqv_lstI (ns ms : List Int) : PyData.eqv (.list (dIs ns)) (.list (dIs ms)) = decide (ns = ms) := by rw [PyData.eqv, dIs_eqv]
/-- one data in a tuple -/
theorem tup1_shaped {d : PyData} (h : d.canLay0 = true) (hd : d.depth ≤ 60) : SeqAt.shaped (.tuple [d]) = true := by
  unfold SeqAt.shaped
  simp [PyData.canLay0, PyData.canLayAll0, h, PyData.depth, PyData.depthAll]
  omega
section
variable {P : Program} {w : World} {K : PySem.W.Frag} {mg : Str → Option Value} {base : Heap}
theorem Tx.kit (T : Tx K mg) (i j : Nat) {d c : Str} (hd : clsL[i]? = some d := by rfl) (hc : clsL[j]? = some c := by rfl) : PySem.W.kitOne K (.ref (ga K d)) (.ref (ga K c)) = some (decide (c ∈ bases d)) := T.ko d (List.mem_of_getElem? hd) c (List.mem_of_getElem? hc)
theorem muC {c : Str} (hc : c ∈ (["Met", "Unmet"] : List Str)) : c ∈ clsL := by revert hc; revert c; decide
theorem muP {c : Str} (hc : c ∈ (["Met", "Unmet"] : List Str)) : c ∈ papL := by revert hc; revert c; decide
/-! ### Paper.__eq__ -/
def spEq (K : PySem.W.Frag) : Sp := fun vs H Q _ => ∃ x y c wd v v' d, vs = [.ref x, .ref y] ∧ c ∈ (["Met", "Unmet"] : List Str) ∧ PapAt K c wd H x v ∧ PapAt K c wd H y v' ∧ Dp K H v d ∧ Dp K H v' d ∧ d.canLay0 = true ∧ d.depth ≤ 60 ∧ Q (.bl true) H
theorem sc31e : FnScope ["self", "other"] ["self", "other"] (defScope (inClass (top 31) 2)) := ⟨rfl, rfl, rfl, by decide +kernel, rfl, by decide +kernel, by decide +kernel⟩
theorem c_paperEq (T : Tx K mg) : FnR P w K mg base CX0 1 (ma K (ga K "Paper") "__eq__") (spEq K) := by
  refine metD T.mPe sc31e (fun kV doc pm an cdv ct us hl => match us, hl with | [_, _], _ => rfl) (fun vs H Q E h => ?_) fun cdv A outer s H vs Q E hr h => ?_
  · obtain ⟨x, y, c, wd, v, v', d, rfl, _⟩ := h; rfl
  obtain ⟨x, y, c, wd, v, v', d, rfl, hc, ⟨dx, p, hx, hp⟩, ⟨dy, p', hy, hp'⟩, h1, h2, h3, h4, q⟩ := h
  have hm : mg "Paper" = some (.ref (ga K "Paper")) := (T.c 1).mgx
  refine ⟨_, pss_cons (ps_if (PW.pt (pw_or (pt_not (pt_val (pe_callB call_isi (by rfl) (T.b 0) (by decide +kernel) (pa_cons (pv 1) (pa_cons (pe_glob (v := .ref (ga K "Paper")) rfl hm rfl) pa_nil))))) (pw_or1 (pt_cmpR op_ne (pe_clsName (pv 0) rfl rfl) (pe_clsName (pv 1) rfl rfl) (nomark _))))) (pss_one (ps_ret pe_bl)) pss_nil)
    (pss_one (ps_ret (pe_callTy call_bool1 (by rfl) (T.b 2) (by decide +kernel) (pa_cons (pe_and (pe_cmpR op_eq (pe_fld (pv 0) rfl) (pe_fld (pv 1) rfl) (nomark _)) (pe_one (pe_cmpR (op_eqD hr.units) (pe_fld (pv 0) rfl) (pe_fld (pv 1) rfl) (nomark _)))) pa_nil)))), ?_⟩
  have hcl : c ∈ clsL := muC hc
  have hpl : c ∈ papL := muP hc
  have isP : PySem.W.kitOne K (.ref (ga K c)) (.ref (ga K "Paper")) = some true := by
    rcases List.mem_cons.mp hc with rfl | hc
    · exact T.kit 3 1
    · obtain rfl := List.mem_singleton.mp hc
      exact T.kit 4 1
  have cl := (T.cl c hcl).ins.cl
  have nm := (T.cl c hcl).nm
  refine ⟨_, rfl, _, _, _, _, true, rfl, .own _, insTy T hcl hy, isP, _, rfl, iteF ?_⟩
  refine ⟨_, rfl, x, _, dx, _, c, rfl, hx, nm, _, rfl, y, _, dy, _, c, rfl, hy, nm, rfl, _, rfl, ?_⟩
  refine ifF (by rw [decide_eq_true rfl]; rfl) ?_
  refine ⟨_, rfl, x, _, dx, _, _, rfl, hx, cl, T.na _ (papW hpl), rfl, ?_⟩
  refine ⟨_, rfl, y, _, dy, _, _, rfl, hy, cl, T.na _ (papW hpl), rfl, rfl, _, rfl, ?_⟩
  refine ifT (decide_eq_true rfl) ?_
  refine ⟨_, rfl, x, _, dx, _, _, rfl, hx, cl, T.na _ (papP hpl), rfl, ?_⟩
  refine ⟨_, rfl, y, _, dy, _, _, rfl, hy, cl, T.na _ (papP hpl), rfl, ?_⟩
  refine ⟨.tuple [d], .tuple [d], .tup (SqT.of hp) (.cons h1 .nil), .tup (SqT.of hp') (.cons h2 .nil), tup1_shaped h3 h4, tup1_shaped h3 h4, .inr ⟨_, rfl, ?_⟩⟩
  rw [SeqAt.eqv_refl _ (SeqAt.canLay_of_shaped (tup1_shaped h3 h4))]
  exact q
end
end K31
namespace K31
open PySem PySem.Spec PyProof.Rows L2
theorem slA_of {K : PySem.W.Frag} {H : Hp} {a : Addr} {xs : List V} {lo hi : Option Int} {Q : VK} (h : SqT K H a xs) (q : ∀ H' p, Same H H' → SqT K H' p (cutV xs lo hi) → Q (.ref p) H') : rSlA K (.ref a) lo hi H Q := by
  refine ⟨a, xs, rfl, h, fun hw => ?_, fun hw p np => q _ p (Same.upd np) (SqT.of upd_same)⟩
  refine q H a (Same.refl H) ?_
  have e : cutV xs lo hi = xs := by
    unfold cutV
    rw [hw.1, hw.2]
    simp
  rw [e]; exact h
theorem cutV_to (xs : List V) (p : Nat) : cutV xs none (some (p : Int)) = xs.take p := by
  unfold cutV
  rw [HT.sIx_none, HT.sIx_nat]
  simp [List.take_eq_take_iff]
theorem cutV_from (xs : List V) (p : Nat) : cutV xs (some (p : Int)) none = xs.drop p := by
  unfold cutV
  rw [HT.sIx_none, HT.sIx_nat, List.take_of_length_le (by rw [List.length_drop]; omega)]
  by_cases h : p ≤ xs.length
  · rw [Nat.min_eq_left h]
  · rw [Nat.min_eq_right (by omega), List.drop_of_length_le (by omega), List.drop_of_length_le (by omega)]
theorem set_cut {α : Type} {xs : List α} {p : Nat} (h : p < xs.length) (y : α) : xs.take p ++ (y :: xs.drop (p + 1)) = xs.set p y := by
  rw [List.set_eq_take_append_cons_drop, if_pos h]
theorem nx_eq {m : Int} {r : List Int} (h : r.length = 4) {p : Nat} (hp : p < 4) : iv (r.take p) ++ (V.int ((2 * r.sum - 3 * r.getD p 0) % m) :: iv (r.drop (p + 1))) = iv (nx m r p) := by
  have := set_cut (xs := r) (p := p) (by omega) ((2 * r.sum - 3 * r.getD p 0) % m)
  unfold nx
  rw [← this]
  simp [iv]
theorem iv_at {r : List Int} {p : Nat} (h : p < r.length) : atI (iv r) (p : Int) = some (.int (r.getD p 0)) := by
  refine atI_nat ?_
  rw [List.getElem?_map, List.getElem?_eq_getElem h]
  simp [List.getD_eq_getElem?_getD, List.getElem?_eq_getElem h]
abbrev wv (u : List Nat) : List V := u.map fun (k : Nat) => V.int (k : Int)
section
variable {P : Program} {w : World} {K : PySem.W.Frag} {mg : Str → Option Value} {base : Heap}
/-! ### need_modulus, need_asked -/
def spNeedMod : Sp := fun vs H Q _ => ∃ m, vs = [.int m] ∧ m ∈ moduli ∧ Q .non H
theorem sc40 : FnScope ["value"] ["value"] (defScope (top 40)) := ⟨rfl, rfl, rfl, by decide +kernel, rfl, by decide +kernel, by decide +kernel⟩
theorem c_needMod (T : Tx K mg) : C8.Cal P w K mg base 3 "need_modulus" spNeedMod [] := by
  refine calD (T.d 8) sc40 (fun kV doc pm an cdv ct us hl => match us, hl with | [_], _ => rfl) (fun vs H Q E h => ?_) fun cdv A outer s H vs Q E hr h => ?_
  · obtain ⟨m, rfl, _⟩ := h; rfl
  obtain ⟨m, rfl, hm, q⟩ := h
  obtain ⟨t1, h1⟩ := T.least
  obtain ⟨t2, h2⟩ := T.most
  obtain ⟨t3, h3⟩ := T.day
  refine ⟨_, pss_one (ps_if (PW.pt (pw_and (pt_not (pt_val (C8.pe_c (c_isWithin T) hr (by decide) rfl (pa_cons (pv 0) (pa_cons (pe_glob (v := .int 2) rfl h1 ⟨_, rfl⟩) (pa_cons (pe_glob (v := .int 13) rfl h2 ⟨_, rfl⟩) pa_nil))))))
    (pw_and1 (pt_not (pt_val (C8.pe_c (c_isWithin T) hr (by decide) rfl (pa_cons (pv 0) (pa_cons (pe_glob (v := .int 24) rfl h3 ⟨_, rfl⟩) (pa_cons (pe_glob (v := .int 24) rfl h3 ⟨_, rfl⟩) pa_nil))))))))) (pss_one ps_never) pss_nil), ?_⟩
  have hm' := moduli_of hm
  refine ⟨_, rfl, _, _, 2, 13, rfl, .int m, _, rfl, ?_⟩
  by_cases h13 : m ≤ 13
  · have e : inB (.int m) 2 13 = true := by simp [inB, h13, hm'.1]
    exact ifF (by rw [e]; rfl) q
  · have e : inB (.int m) 2 13 = false := by simp [inB, h13]
    refine ifT (by rw [e]; rfl) ?_
    refine ⟨_, rfl, _, _, 24, 24, rfl, .int m, _, rfl, ?_⟩
    have e : inB (.int m) 24 24 = true := by
      have : m = 24 := by omega
      subst this; rfl
    exact ifF (by rw [e]; rfl) q
def spNeedAsked (K : PySem.W.Frag) : Sp := fun vs H Q _ => ∃ f b m, vs = [.ref f, .int m] ∧ FourAt K H f b ∧ m ∈ moduli ∧ Q .non H
theorem sc42 : FnScope ["four", "modulus"] ["four", "modulus"] (defScope (top 42)) := ⟨rfl, rfl, rfl, by decide +kernel, rfl, by decide +kernel, by decide +kernel⟩
theorem c_needAsked (T : Tx K mg) : C8.Cal P w K mg base 4 "need_asked" (spNeedAsked K) [] := by
  refine calD (T.d 10) sc42 (fun kV doc pm an cdv ct us hl => match us, hl with | [_, _], _ => rfl) (fun vs H Q E h => ?_) fun cdv A outer s H vs Q E hr h => ?_
  · obtain ⟨f, b, m, rfl, _⟩ := h; rfl
  obtain ⟨f, b, m, rfl, hf, hm, q⟩ := h
  refine ⟨_, pss_cons (ps_expr (C8.pe_c (c_needFour T) hr (by decide) rfl (pa_cons (pv 0) pa_nil))) (pss_one (ps_expr (C8.pe_c (c_needMod T) hr (by decide) rfl (pa_cons (pv 1) pa_nil)))), ?_⟩
  exact ⟨_, rfl, f, b, _, rfl, hf, _, rfl, m, rfl, hm, q⟩
/-! ### need_row -/
def spNeedRow : Sp := fun vs H Q _ => ∃ a m r, vs = [.ref a, .int m] ∧ okR m r ∧ (H a = some (.lst (iv r)) ∨ H a = some (.tup (iv r))) ∧ ∀ H' p, Same H H' → H' p = some (.tup (iv r)) → Q (.ref p) H'
theorem sc41 : FnScope ["value", "modulus", "number"] ["value", "modulus"] (defScope (top 41)) := ⟨rfl, rfl, rfl, by decide +kernel, rfl, by decide +kernel, by decide +kernel⟩
theorem c_needRow (T : Tx K mg) : C8.Cal P w K mg base 3 "need_row" spNeedRow [] := by
  refine calD (T.d 9) sc41 (fun kV doc pm an cdv ct us hl => match us, hl with | [_, _], _ => rfl) (fun vs H Q E h => ?_) fun cdv A outer s H vs Q E hr h => ?_
  · obtain ⟨a, m, r, rfl, _⟩ := h; rfl
  obtain ⟨a, m, r, rfl, ok, ha, q⟩ := h
  obtain ⟨tk, hp⟩ := T.places
  refine ⟨_, pss_cons (ps_if (PW.pt (pw_or (pt_not (pt_val (C8.pe_c (c_areIntegers T) hr (by decide) rfl (pa_cons (pv 0) pa_nil)))) (pw_or1 (pt_cmpR op_ne (pe_callB call_len_seq (by rfl) (T.b 7) (by decide +kernel) (pa_cons (pv 0) pa_nil)) (pe_glob (v := .int 4) rfl hp ⟨_, rfl⟩) (nomark _))))) (pss_one ps_never) pss_nil)
    (pss_cons (ps_if (pt_not (pt_val (pe_callB (cr_all rfl) (by rfl) (T.b 3) (by decide +kernel) (pa_cons (pe_lc (own := [("number", 2)]) (g := gName 2) (tt := tYes) rfl sc41.nd (pi_or (pi_list (pv 0)) (pi_tup (pv 0))) (blkOk_by (N := ["value", "modulus", "number"]) (sc := defScope (top 41)) (by decide +kernel)) (fun _ _ _ _ _ => pg_name (i := 2) sc41.nd rfl (Or.inl rfl)) (fun _ _ _ _ _ => pts_nil)
      (fun _ _ _ _ _ => pe_chain op_le op_lt pe_int (pv 2) (pv 1))) pa_nil)))) (pss_one ps_never) pss_nil)
    (pss_one (ps_ret (pe_callTy call_tuple_of (by rfl) (T.b 5) (by decide +kernel) (pa_cons (pv 0) pa_nil))))), ?_⟩
  have it : ∃ t, ItOf H (.ref a) t (iv r) ∧ isSeq t = true := by
    rcases ha with ha | ha
    · exact ⟨"list", iv_it ha (by rw [ok.1]; omega), rfl⟩
    · exact ⟨"tuple", iv_itT ha (by rw [ok.1]; omega), rfl⟩
  obtain ⟨t, it, hs⟩ := it
  refine ⟨_, rfl, _, t, _, rfl, it, fun H1 s1 => ?_⟩
  rw [iv_isI, hs]
  refine ⟨_, rfl, iteF ?_⟩
  have ha1 : H1 a = some (.lst (iv r)) ∨ H1 a = some (.tup (iv r)) := ha.imp (s1 _ _) (s1 _ _)
  refine ⟨_, rfl, a, iv r, rfl, ha1.imp SqL.of SqT.of, rfl, _, rfl, ?_⟩
  have e4 : decide (V.int ((iv r).length : Int) = V.int 4) = true := by rw [List.length_map, ok.1]; decide
  refine ifF (by rw [e4]; rfl) ?_
  have hz : (iv r).length ≤ 2000000 := by rw [List.length_map, ok.1]; omega
  have each : ∀ x ∈ iv r, ∀ (σ : L2.St) (H' : Hp) (Q' : VK), σ[2]? = some (some x) → σ[1]? = some (some (.int m)) → Q' (.bl true) H' → tChain (rI0 fun i j => .bl (decide (i ≤ j))) (rI0 fun i j => .bl (decide (i < j))) (tC (.int 0)) (tVar 2) (tVar 1) σ H' Q' := fun x hx σ H' Q' e1 e2 z => by
    obtain ⟨n, hn, rfl⟩ := List.mem_map.mp hx
    have := ok.2 n hn
    refine ⟨_, e1, _, _, rfl, rfl, _, rfl, ifT (decide_eq_true this.1) ⟨_, e2, _, _, rfl, rfl, ?_⟩⟩
    have e : decide (n < m) = true := decide_eq_true this.2
    show Q' (.bl (decide (n < m))) H'
    rw [e]; exact z
  have fin : ∀ (D : Addr) (H2 : Hp) (ys : List V), Same H1 H2 → H2 D = some (.lst ys) → Paired (fun x y => y = V.bl true) ((iv r).filter fun _ => true) ys → ∃ bs : List Bool, ys = bs.map V.bl ∧ bs.all id = true := fun D H2 ys s2 hy rr => by
    have e : ys = ((iv r).map fun _ => true).map V.bl := by
      have := Paired.eq_map (f := fun _ => V.bl true) rr
      rw [List.filter_eq_self.mpr (fun _ _ => rfl)] at this
      rw [this]
      simp
    exact ⟨_, e, by simp⟩
  have last : ∀ H2, Same H1 H2 → ∃ p xs, [V.ref a] = [V.ref p] ∧ ((SqL K H2 p xs ∧ ∀ l, H2 l = none → Q (.ref l) (L2.upd H2 l (.tup xs))) ∨ (SqT K H2 p xs ∧ Q (.ref p) H2)) := fun H2 s2 => by
    rcases ha1 with h | h
    · exact ⟨a, iv r, rfl, .inl ⟨SqL.of (s2 _ _ h), fun l nl => q _ l ((s1.trans s2).trans (Same.upd nl)) upd_same⟩⟩
    · exact ⟨a, iv r, rfl, .inr ⟨SqT.of (s2 _ _ h), q _ a (s1.trans s2) (s2 _ _ h)⟩⟩
  rcases ha1 with h | h
  · refine .inl ⟨_, rfl, a, rfl, ⟨_, SqL.of h⟩, fun D nD => ?_⟩
    refine lc_list_g 2 (fun _ => true) (fun _ x y => y = .bl true) (fun _ _ _ _ _ h => h) (fun _ _ _ _ _ _ h => h) hz nD (SqL.of h) (fun x => rfl) (fun x hx H' s Q' z => z H' (Same.refl _)) (fun x hx _ H' s Q' z => each x hx _ _ _ rfl rfl (z _ _ (Same.refl _) rfl)) (fun H2 ys s2 hy rr => ?_)
    obtain ⟨bs, eb, hb⟩ := fin D H2 ys s2 hy rr
    refine ⟨D, bs, rfl, SqL.of (by rw [← eb]; exact hy), _, rfl, ifF (by rw [hb]; rfl) ⟨_, rfl, last H2 s2⟩⟩
  · refine .inr ⟨_, rfl, a, rfl, ⟨_, SqT.of h⟩, fun D nD => ?_⟩
    refine lc_tup_g 2 (fun _ => true) (fun _ x y => y = .bl true) (fun _ _ _ _ _ h => h) (fun _ _ _ _ _ _ h => h) hz nD (SqT.of h) (fun x => rfl) (fun x hx H' s Q' z => z H' (Same.refl _)) (fun x hx _ H' s Q' z => each x hx _ _ _ rfl rfl (z _ _ (Same.refl _) rfl)) (fun H2 ys s2 hy rr => ?_)
    obtain ⟨bs, eb, hb⟩ := fin D H2 ys s2 hy rr
    refine ⟨D, bs, rfl, SqL.of (by rw [← eb]; exact hy), _, rfl, ifF (by rw [hb]; rfl) ⟨_, rfl, last H2 s2⟩⟩
/-! ### row_by, row_exchanged, row_behind -/
def spRowBy : Sp := fun vs H Q _ => ∃ a b m, vs = [.ref a, .int m] ∧ H a = some (.tup (iv b)) ∧ b.length ≤ 1000 ∧ 0 < m ∧ ∀ H' p, Same H H' → H' p = some (.tup (iv (R b m))) → Q (.ref p) H'
theorem sc43 : FnScope ["numbers", "modulus", "number"] ["numbers", "modulus"] (defScope (top 43)) := ⟨rfl, rfl, rfl, by decide +kernel, rfl, by decide +kernel, by decide +kernel⟩
def modV (m : Int) : V → V
  | .int n => .int (n % m)
  | v => v
theorem modV_map (m : Int) (b : List Int) : (iv b).map (modV m) = iv (R b m) := by
  show (b.map V.int).map (modV m) = (b.map (· % m)).map V.int
  rw [List.map_map, List.map_map]; rfl
theorem c_rowBy (T : Tx K mg) : C8.Cal P w K mg base 1 "row_by" spRowBy [] := by
  refine calD (T.d 11) sc43 (fun kV doc pm an cdv ct us hl => match us, hl with | [_, _], _ => rfl) (fun vs H Q E h => ?_) fun cdv A outer s H vs Q E hr h => ?_
  · obtain ⟨a, b, m, rfl, _⟩ := h; rfl
  obtain ⟨a, b, m, rfl, ha, hz, hm, q⟩ := h
  refine ⟨_, pss_one (ps_ret (pe_callTy call_tuple_of (by rfl) (T.b 5) (by decide +kernel) (pa_cons (pe_lc (own := [("number", 2)]) (g := gName 2) (tt := tYes) rfl sc43.nd (pi_tup (pv 0)) (blkOk_by (N := ["numbers", "modulus", "number"]) (sc := defScope (top 43)) (by decide +kernel)) (fun _ _ _ _ _ => pg_name (i := 2) sc43.nd rfl (Or.inl rfl)) (fun _ _ _ _ _ => pts_nil)
      (fun _ _ _ _ _ => pe_op op_mod (pv 2) (pv 1))) pa_nil))), ?_⟩
  refine ⟨_, rfl, a, rfl, ⟨_, SqT.of ha⟩, fun D nD => ?_⟩
  refine lc_tup_g 2 (fun _ => true) (fun _ x y => y = modV m x) (fun _ _ _ _ _ h => h) (fun _ _ _ _ _ _ h => h) (by rw [List.length_map]; omega) nD (SqT.of ha) (fun x => rfl) (fun x hx H' s Q' z => z H' (Same.refl _)) (fun x hx _ H' s Q' z => ?_) (fun H2 ys s2 hy rr => ?_)
  · obtain ⟨n, hn, rfl⟩ := List.mem_map.mp hx
    exact ⟨_, rfl, _, rfl, n, m, rfl, rfl, hm, z _ _ (Same.refl _) rfl⟩
  have e : ys = iv (R b m) := by
    have := Paired.eq_map rr
    rw [List.filter_eq_self.mpr (fun _ _ => rfl)] at this
    rw [this, modV_map]
  subst e
  exact ⟨D, _, rfl, .inl ⟨SqL.of hy, fun l nl => q _ l (s2.trans (Same.upd nl)) upd_same⟩⟩
def spRowEx : Sp := fun vs H Q _ => ∃ (a : Addr) (r : List Int) (p : Nat) (m : Int), vs = [.ref a, .int (p : Int), .int m] ∧ H a = some (.tup (iv r)) ∧ r.length = 4 ∧ p < 4 ∧ 0 < m ∧ ∀ H' q, Same H H' → H' q = some (.tup (iv (nx m r p))) → Q (.ref q) H'
theorem sc44 : FnScope ["row", "place", "modulus", "new"] ["row", "place", "modulus"] (defScope (top 44)) := ⟨rfl, rfl, rfl, by decide +kernel, rfl, by decide +kernel, by decide +kernel⟩
theorem c_rowEx (T : Tx K mg) : C8.Cal P w K mg base 1 "row_exchanged" spRowEx [] := by
  refine calD (T.d 12) sc44 (fun kV doc pm an cdv ct us hl => match us, hl with | [_, _, _], _ => rfl) (fun vs H Q E h => ?_) fun cdv A outer s H vs Q E hr h => ?_
  · obtain ⟨a, r, p, m, rfl, _⟩ := h; rfl
  obtain ⟨a, r, p, m, rfl, ha, hl, hp, hm, q⟩ := h
  refine ⟨_, pss_cons (ps_set (i := 3) sc44.nd rfl (.inl rfl) (pe_op op_mod (pe_op op_sub (pe_op op_mul pe_int (pe_callB (cr_sumT rfl) (by rfl) (T.b 4) (by decide +kernel) (pa_cons (pv 0) pa_nil))) (pe_op op_mul pe_int (pe_ix ix_tup (pv 0) (pv 1) (fun _ _ => rfl)))) (pv 2)))
    (pss_one (ps_ret (pe_tup (StX.pa_star (pe_slice sl_tupA (pv 0) po_none (po_some (pv 1))) (pa_cons (pv 3) (StX.pa_star (pe_slice sl_tupA (pv 0) (po_some (pe_op op_add (pv 1) pe_int)) po_none) pa_nil)))))), ?_⟩
  refine ⟨_, rfl, a, r, rfl, SqT.of ha, 2, _, rfl, rfl, .inl ⟨by decide, by decide⟩, ?_⟩
  refine ⟨_, rfl, _, rfl, a, _, _, _, rfl, rfl, SqT.of ha, iv_at (by omega), 3, _, rfl, rfl, .inl ⟨by decide, by decide⟩, _, _, rfl, rfl, _, rfl, _, _, rfl, rfl, hm, ?_⟩
  refine ⟨_, rfl, _, rfl, _, rfl, slA_of (SqT.of ha) fun H1 p1 s1 h1 => ⟨p1, _, rfl, .inl h1, _, rfl, _, rfl, _, rfl, _, _, rfl, rfl, _, rfl, ?_⟩⟩
  dsimp only [tNoPart]
  refine slA_of (SqT.of (s1 _ _ ha)) fun H2 p2 s2 h2 => ⟨p2, _, rfl, .inl h2, ?_⟩
  have e1 : cutV (iv r) none (some (p : Int)) = iv (r.take p) := by rw [cutV_to]; exact List.map_take.symm
  have e2 : cutV (iv r) (some ((p : Int) + 1)) none = iv (r.drop (p + 1)) := by
    have : (p : Int) + 1 = ((p + 1 : Nat) : Int) := by omega
    rw [this, cutV_from]; exact List.map_drop.symm
  have e3 := nx_eq (m := m) hl hp
  refine ⟨?_, fun t nt => ?_⟩
  · show (cutV (iv r) none (some (p : Int)) ++ (V.int ((2 * r.sum - 3 * r.getD p 0) % m) :: (cutV (iv r) (some ((p : Int) + 1)) none ++ []))).length ≤ sizeLine
    rw [e1, e2, List.append_nil, e3, List.length_map, nx_len, hl]; decide
  · refine q _ t ((s1.trans s2).trans (Same.upd nt)) ?_
    rw [upd_same]
    show some (HO.tup (cutV (iv r) none (some (p : Int)) ++ (V.int ((2 * r.sum - 3 * r.getD p 0) % m) :: (cutV (iv r) (some ((p : Int) + 1)) none ++ [])))) = _
    rw [e1, e2, List.append_nil, e3]
theorem wv_at {u : List Nat} {i : Nat} {x : V} (h : (wv u)[i]? = some x) : ∃ k, u[i]? = some k ∧ x = .int (k : Int) := by
  rw [List.getElem?_map] at h
  cases e : u[i]? with
  | none => rw [e] at h; cases h
  | some k => rw [e] at h; cases h; exact ⟨k, rfl, rfl⟩
def spRowBehind : Sp := fun vs H Q _ => ∃ (a l : Addr) (r : List Int) (u : List Nat) (m : Int), vs = [.ref a, .ref l, .int m] ∧ H a = some (.tup (iv r)) ∧ r.length = 4 ∧ H l = some (.tup (wv u)) ∧ okW u ∧ 0 < m ∧ ∀ H' q, Same H H' → H' q = some (.tup (iv (follow m r u))) → Q (.ref q) H'
theorem sc45 : FnScope ["row", "letters", "modulus", "place"] ["row", "letters", "modulus"] (defScope (top 45)) := ⟨rfl, rfl, rfl, by decide +kernel, rfl, by decide +kernel, by decide +kernel⟩
theorem follow_len (m : Int) : ∀ (u : List Nat) (r : List Int), (follow m r u).length = r.length
  | [], _ => rfl
  | p :: u, r => by rw [follow_cons, follow_len m u, nx_len]
theorem c_rowBehind (T : Tx K mg) : C8.Cal P w K mg base 2 "row_behind" spRowBehind [] := by
  refine calD (T.d 13) sc45 (fun kV doc pm an cdv ct us hl => match us, hl with | [_, _, _], _ => rfl) (fun vs H Q E h => ?_) fun cdv A outer s H vs Q E hr h => ?_
  · obtain ⟨a, l, r, u, m, rfl, _⟩ := h; rfl
  obtain ⟨a, l, r, u, m, rfl, ha, hl, hu, ok, hm, q⟩ := h
  refine ⟨_, pss_cons (ps_for PassesOwn.never rfl (pi_tup (pv 1)) (pg_name (i := 3) sc45.nd rfl (.inl rfl))
    (pss_one (ps_set (i := 0) sc45.nd rfl (.inl rfl) (C8.pe_c (c_rowEx T) hr (by decide) rfl (pa_cons (pv 0) (pa_cons (pv 3) (pa_cons (pv 2) pa_nil))))))) (pss_one (ps_ret (pv 0))), ?_⟩
  refine ⟨_, rfl, l, rfl, ⟨_, SqT.of hu⟩, for_tup (xs := wv u) (fun i σ H' => Same H H' ∧ ∃ q z, σ = [some (.ref q), some (.ref l), some (.int m), z] ∧ H' q = some (.tup (iv (follow m r (u.take i))))) ⟨Same.refl _, a, _, rfl, ha⟩ (fun i σ H' _ p => SqT.of (p.1 _ _ hu)) (fun i x σ H' hx p => ?_) (fun σ H' p => ?_)⟩
  · obtain ⟨s1, q', z, rfl, hq⟩ := p
    obtain ⟨k, hk, rfl⟩ := wv_at hx
    refine ⟨_, rfl, _, rfl, _, rfl, q', _, k, m, rfl, hq, by rw [follow_len]; exact hl, ok k (List.mem_of_getElem? hk), hm, fun H2 q2 s2 h2 => ?_⟩
    refine ⟨s1.trans s2, q2, some (.int k), rfl, ?_⟩
    rw [take_snoc hk, follow_snoc]; exact h2
  · obtain ⟨s1, q', z, rfl, hq⟩ := p
    have e : (wv u).length = u.length := List.length_map _
    rw [e, List.take_length] at hq
    exact ⟨_, rfl, q _ _ s1 hq⟩
end
end K31
namespace K31
open PySem PySem.Spec PyProof.Rows L2
/-! ### dicts from rows -/
def keyR (r : List Int) : List Key := r.map Sum.inl
theorem keyR_kV (r : List Int) : (keyR r).map kV = iv r := by
  unfold keyR
  rw [List.map_map]; rfl
theorem keyR_inj {r q : List Int} (h : keyR r = keyR q) : r = q := by
  have := congrArg (List.map fun k : Key => match k with | .inl i => i | .inr _ => 0) h
  simpa [keyR, List.map_map, Function.comp_def] using this
abbrev VR := Hp → List Nat → V → Prop
def Ent (Vl : VR) (H : Hp) (e : List Int × List Nat) (kv : List Key × V) : Prop := kv.1 = keyR e.1 ∧ Vl H e.2 kv.2
def DicR (Vl : VR) (H : Hp) (d : Addr) (t : Tab) : Prop := ∃ kvs, H d = some (.dT kvs) ∧ Paired (Ent Vl H) t kvs
/-- what a value's relation must bear -/
structure VOk (Vl : VR) : Prop where
  same : ∀ H H' u v, (∀ a xs, H a = some (.tup xs) → H' a = some (.tup xs)) → Vl H u v → Vl H' u v
theorem ent_none {Vl : VR} {H : Hp} : ∀ {t : Tab} {kvs : List (List Key × V)}, Paired (Ent Vl H) t kvs → ∀ {r : List Int}, r ∉ keysT t → valV kvs (keyR r) = none
  | _, _, .nil, _, _ => rfl
  | (q, u) :: t, kv :: kvs, .cons e p, r, h => by
    have h1 : r ≠ q := fun z => h (by rw [z]; exact List.mem_cons_self)
    have h2 : r ∉ keysT t := fun z => h (List.mem_cons_of_mem _ z)
    have ih := ent_none p h2
    unfold valV at ih ⊢
    rw [List.find?_cons_of_neg]
    · exact ih
    · rw [e.1]
      simp only [decide_eq_true_eq]
      intro z
      exact h1 (keyR_inj z).symm
theorem ent_some {Vl : VR} {H : Hp} : ∀ {t : Tab} {kvs : List (List Key × V)}, Paired (Ent Vl H) t kvs → (keysT t).Nodup → ∀ {r : List Int} {u : List Nat}, (r, u) ∈ t → ∃ v, valV kvs (keyR r) = some v ∧ Vl H u v
  | (q, u') :: t, kv :: kvs, .cons e p, nd, r, u, h => by
    obtain ⟨n1, n2⟩ := List.nodup_cons.mp (show (q :: keysT t).Nodup from nd)
    rcases List.mem_cons.mp h with h | h
    · obtain ⟨rfl, rfl⟩ := Prod.mk.inj h
      refine ⟨kv.2, ?_, e.2⟩
      unfold valV
      rw [List.find?_cons_of_pos]
      · rfl
      · rw [e.1]; simp
    · obtain ⟨v, h1, h2⟩ := ent_some p n2 h
      refine ⟨v, ?_, h2⟩
      have ne : r ≠ q := fun z => n1 (by rw [← z]; exact mem_keys.mpr ⟨u, h⟩)
      unfold valV at h1 ⊢
      rw [List.find?_cons_of_neg]
      · exact h1
      · rw [e.1]
        simp only [decide_eq_true_eq]
        intro z
        exact ne (keyR_inj z).symm
theorem put_new {kvs : List (List Key × V)} {k : List Key} {v : V} (h : valV kvs k = none) : putK kvs k v = kvs ++ [(k, v)] := by
  unfold putK
  rw [if_neg]
  intro z
  obtain ⟨kv, h1, h2⟩ := List.any_eq_true.mp z
  unfold valV at h
  have := List.find?_eq_none.mp (Option.map_eq_none_iff.mp h) kv h1
  exact this h2
theorem DicR.get_none {Vl : VR} {H : Hp} {d b : Addr} {t : Tab} {r : List Int} (D : DicR Vl H d t) (hb : H b = some (.tup (iv r))) (h : r ∉ keysT t) : DGet H d (.ref b) none := by
  obtain ⟨kvs, hd, p⟩ := D
  have := DGet.t (k := keyR r) hd (by rw [keyR_kV]; exact hb)
  rw [ent_none p h] at this
  exact this
theorem DicR.get_some {Vl : VR} {H : Hp} {d b : Addr} {t : Tab} {r : List Int} {u : List Nat} (D : DicR Vl H d t) (nd : (keysT t).Nodup) (hb : H b = some (.tup (iv r))) (h : (r, u) ∈ t) : ∃ v, DGet H d (.ref b) (some v) ∧ Vl H u v := by
  obtain ⟨kvs, hd, p⟩ := D
  obtain ⟨v, h1, h2⟩ := ent_some p nd h
  have := DGet.t (k := keyR r) hd (by rw [keyR_kV]; exact hb)
  rw [h1] at this
  exact ⟨v, this, h2⟩
theorem DicR.get {Vl : VR} {H : Hp} {d b : Addr} {t : Tab} {r : List Int} (D : DicR Vl H d t) (nd : (keysT t).Nodup) (hb : H b = some (.tup (iv r))) : ∃ o, DGet H d (.ref b) o ∧ o.isSome = decide (r ∈ keysT t) := by
  by_cases h : r ∈ keysT t
  · obtain ⟨u, hu⟩ := mem_keys.mp h
    obtain ⟨v, h1, _⟩ := D.get_some nd hb hu
    exact ⟨_, h1, by simp [h]⟩
  · exact ⟨_, D.get_none hb h, by simp [h]⟩
theorem DicR.put {Vl : VR} (ok : VOk Vl) {H : Hp} {d b : Addr} {t : Tab} {r : List Int} {u : List Nat} {v : V} (D : DicR Vl H d t) (hb : H b = some (.tup (iv r))) (h : r ∉ keysT t) (hz : t.length ≤ 400000) (hv : Vl H u v) :
    ∃ o, DPut H d (.ref b) v (upd H d o) ∧ (∀ xs, o ≠ .tup xs) ∧ (∀ xs, o ≠ .lst xs) ∧ DicR Vl (upd H d o) d (t ++ [(r, u)]) := by
  obtain ⟨kvs, hd, p⟩ := D
  have hl := p.length
  have := DPut.t (k := keyR r) (v := v) hd (by rw [keyR_kV]; exact hb) (by rw [← hl, sizeLine_eq]; omega)
  rw [put_new (ent_none p h)] at this
  refine ⟨_, this, (fun xs z => by cases z), (fun xs z => by cases z), _, upd_same, ?_⟩
  have k : ∀ a xs, H a = some (.tup xs) → (upd H d (.dT (kvs ++ [(keyR r, v)]))) a = some (.tup xs) := fun a xs e => by rw [upd_ne (ne_of e hd (by intro z; cases z))]; exact e
  exact Paired.append (Paired.mapP p fun e kv q => ⟨q.1, ok.same _ _ _ _ k q.2⟩) (.cons ⟨rfl, ok.same _ _ _ _ k hv⟩ .nil)
theorem DicR.keep {Vl : VR} (ok : VOk Vl) {H H' : Hp} {d : Addr} {t : Tab} (D : DicR Vl H d t) (k : ∀ a xs, H a = some (.tup xs) → H' a = some (.tup xs)) (kd : ∀ kvs, H d = some (.dT kvs) → H' d = some (.dT kvs)) : DicR Vl H' d t := by
  obtain ⟨kvs, hd, p⟩ := D
  exact ⟨kvs, kd _ hd, Paired.mapP p fun e kv q => ⟨q.1, ok.same _ _ _ _ k q.2⟩⟩
def Vw : VR := fun H u v => ∃ a, v = .ref a ∧ H a = some (.tup (wv u))
def Vd : VR := fun _ u v => v = .int (u.length : Int)
theorem vw_ok : VOk Vw := ⟨fun H H' u v k h => let ⟨a, e, h⟩ := h; ⟨a, e, k _ _ h⟩⟩
theorem vd_ok : VOk Vd := ⟨fun H H' u v k h => h⟩
/-- a list of rows -/
def RowsAt (H : Hp) (l : Addr) (rows : List (List Int)) : Prop := ∃ as : List Addr, H l = some (.lst (as.map V.ref)) ∧ Paired (fun a r => H a = some (.tup (iv r))) as rows
theorem RowsAt.keep {H H' : Hp} {l : Addr} {rows : List (List Int)} (h : RowsAt H l rows) (k : ∀ a xs, H a = some (.tup xs) → H' a = some (.tup xs)) (kl : ∀ xs, H l = some (.lst xs) → H' l = some (.lst xs)) : RowsAt H' l rows := by
  obtain ⟨as, h1, p⟩ := h
  exact ⟨as, kl _ h1, Paired.mapP p fun a r q => k _ _ q⟩
theorem RowsAt.nth {H : Hp} {l : Addr} {rows : List (List Int)} (h : RowsAt H l rows) : ∃ xs : List V, H l = some (.lst xs) ∧ xs.length = rows.length ∧ ∀ (i : Nat) (x : V), xs[i]? = some x → ∃ a r, x = .ref a ∧ rows[i]? = some r ∧ H a = some (.tup (iv r)) := by
  obtain ⟨as, h1, p⟩ := h
  refine ⟨as.map V.ref, h1, by rw [List.length_map]; exact p.length, fun i x hx => ?_⟩
  rw [List.getElem?_map] at hx
  cases e : as[i]? with
  | none => rw [e] at hx; cases hx
  | some a =>
    rw [e] at hx
    cases hx
    obtain ⟨r, hr, ha⟩ := Paired.nth p e
    exact ⟨a, r, rfl, hr, ha⟩
end K31
namespace K31
open PySem PySem.Spec PyProof.Rows L2
def RowsAs (H : Hp) (l : Addr) (as : List Addr) (rows : List (List Int)) : Prop := H l = some (.lst (as.map V.ref)) ∧ Paired (fun a r => H a = some (.tup (iv r))) as rows
theorem RowsAs.keep {H H' : Hp} {l : Addr} {as : List Addr} {rows : List (List Int)} (h : RowsAs H l as rows) (k : ∀ a xs, H a = some (.tup xs) → H' a = some (.tup xs)) (kl : ∀ xs, H l = some (.lst xs) → H' l = some (.lst xs)) : RowsAs H' l as rows :=
  ⟨kl _ h.1, Paired.mapP h.2 fun a r q => k _ _ q⟩
theorem rows_dp {K : PySem.W.Frag} {H : Hp} : ∀ {as : List Addr} {rows : List (List Int)}, Paired (fun a r => H a = some (.tup (iv r))) as rows → DpAll K H (as.map V.ref) (rows.map fun r => PyData.tuple (dIs r))
  | _, _, .nil => .nil
  | _, _, .cons h t => .cons (.tup (SqT.of h) (dIs_dp K H _)) (rows_dp t)
theorem rows_lay : ∀ rows : List (List Int), PyData.canLayAll0 (rows.map fun r => PyData.tuple (dIs r)) = true
  | [] => by simp [PyData.canLayAll0]
  | r :: rows => by
    have := rows_lay rows
    simp [PyData.canLayAll0, PyData.canLay0, dIs_lay, this]
theorem rows_depth : ∀ rows : List (List Int), PyData.depthAll (rows.map fun r => PyData.tuple (dIs r)) ≤ 1
  | [] => by simp [PyData.depthAll]
  | r :: rows => by
    have := rows_depth rows
    simp [PyData.depthAll, PyData.depth, dIs_depth]; omega
theorem rows_shaped (rows : List (List Int)) : SeqAt.shaped (.list (rows.map fun r => PyData.tuple (dIs r))) = true := by
  unfold SeqAt.shaped
  have := rows_depth rows
  simp [PyData.canLay0, rows_lay, PyData.depth]
  omega
theorem nil_shaped : SeqAt.shaped (.list []) = true := by decide +kernel
theorem rows_eqv (rows : List (List Int)) : PyData.eqv (.list (rows.map fun r => PyData.tuple (dIs r))) (.list []) = rows.isEmpty := by
  cases rows with
  | nil => simp [PyData.eqv, PyData.eqvAll]
  | cons r rows => simp [PyData.eqv, PyData.eqvAll]
section
variable {P : Program} {w : World} {K : PySem.W.Frag} {mg : Str → Option Value} {base : Heap}
/-! ### words_from -/
def spWordsFrom : Sp := fun vs H Q _ => ∃ (a : Addr) (r : List Int) (m : Int), vs = [.ref a, .int m] ∧ H a = some (.tup (iv r)) ∧ okR m r ∧ 0 < m ∧ m ≤ 24 ∧ ∀ H' d t, Same H H' → Whole m r t → DicR Vw H' d t → Q (.ref d) H'
abbrev n46 : List Str := ["row", "modulus", "found", "last", "later", "here", "place", "more"]
theorem sc46 : FnScope n46 ["row", "modulus"] (defScope (top 46)) := ⟨rfl, rfl, rfl, by decide +kernel, rfl, by decide +kernel, by decide +kernel⟩
/-- amid the walk over the last rows -/
structure Am (m : Int) (r : List Int) (H0 : Hp) (d la lb : Addr) (as : List Addr) (k : Nat) (t : Tab) (ws : List (List Nat)) (i p : Nat) (H : Hp) (new : Tab) : Prop where
  same : Same H0 H
  mid : Mid m r k t ws i p new
  dic : DicR Vw H d (t ++ new)
  la_ : RowsAs H la as (rowsOf m r ws)
  lb_ : RowsAt H lb (new.map (·.1))
theorem c_wordsFrom (T : Tx K mg) : C8.Cal P w K mg base 2 "words_from" spWordsFrom [] := by
  refine calD (T.d 14) sc46 (fun kV doc pm an cdv ct us hl => match us, hl with | [_, _], _ => rfl) (fun vs H Q E h => ?_) fun cdv A outer s H vs Q E hr h => ?_
  · obtain ⟨a, r, m, rfl, _⟩ := h; rfl
  obtain ⟨a, r, m, rfl, ha, ok, h0, h24, q⟩ := h
  obtain ⟨tk, hp⟩ := T.places
  have hu := hu_of hr
  refine ⟨_, pss_cons (ps_par (i := 2) (j := 3) rfl sc46.nd rfl rfl (by decide) rfl rfl (pa_cons (pe_disp1 hu (pv 0) (pe_tup pa_nil)) (pa_cons (pe_lst (pa_cons (pv 0) pa_nil)) pa_nil)) (by rfl))
    (pss_cons (ps_while PassesOwn.never (pt_cmpR (op_neD hr.units) (pv 3) (pe_lst pa_nil) (nomark _))
      (pss_cons (ps_set (i := 4) sc46.nd rfl (.inl rfl) (pe_lst pa_nil))
      (pss_cons (ps_for PassesOwn.never rfl (pi_list (pv 3)) (pg_name (i := 5) sc46.nd rfl (.inl rfl))
        (pss_one (ps_for PassesOwn.never rfl (pi_range1 rfl (T.b 9) (pa_cons (pe_glob (v := .int 4) rfl hp ⟨_, rfl⟩) pa_nil)) (pg_name (i := 6) sc46.nd rfl (.inl rfl))
          (pss_cons (ps_set (i := 7) sc46.nd rfl (.inl rfl) (C8.pe_c (c_rowEx T) hr (by decide) rfl (pa_cons (pv 5) (pa_cons (pv 6) (pa_cons (pv 1) pa_nil)))))
          (pss_one (ps_if (pt_cmp (pc_dnotin hu (pv 7) (pv 2)))
            (pss_cons (ps_dput hu (pv 2) (pv 7) (pe_tup (StX.pa_star (pe_dget hu (pv 2) (pv 5) (fun _ _ => rfl)) (pa_cons (pv 6) pa_nil))) rfl)
            (pss_one (ps_expr (pe_bm PySem.F.plainAttrs_list PySem.F.slot_list_append PySem.F.type_list_append mt_append (pv 4) (pa_cons (pv 7) pa_nil))))) pss_nil))))))
      (pss_one (ps_set (i := 3) sc46.nd rfl (.inl rfl) (pv 4))))))
    (pss_one (ps_ret (pv 2)))), ?_⟩
  -- the start
  intro d nd
  refine ⟨_, rfl, by show 0 ≤ sizeLine; decide, fun e ne => ?_⟩
  have S1 : Same H (L2.upd H d (.dT [])) := Same.upd nd
  have S2 : Same (L2.upd H d (.dT [])) (L2.upd (L2.upd H d (.dT [])) e (.tup [])) := Same.upd ne
  have hd2 := S2 _ _ (show (L2.upd H d (.dT [])) d = some (.dT []) from upd_same)
  have ha2 := S2 _ _ (S1 _ _ ha)
  have he2 : (L2.upd (L2.upd H d (.dT [])) e (.tup [])) e = some (.tup []) := upd_same
  have S12 := S1.trans S2
  generalize L2.upd (L2.upd H d (.dT [])) e (.tup []) = H2 at S12 hd2 ha2 he2
  refine ⟨hd2, keyR r, a, rfl, by rw [keyR_kV]; exact ha2, ?_⟩
  have hk : ∀ b o, H b = some o → (L2.upd H2 d (.dT [(keyR r, .ref e)])) b = some o := fun b o z => by rw [upd_ne (ne_of_none z nd)]; exact S12 _ _ z
  have D0 : DicR Vw (L2.upd H2 d (.dT [(keyR r, .ref e)])) d [(r, [])] := ⟨_, upd_same, .cons ⟨rfl, e, rfl, by rw [upd_ne (ne_of he2 hd2 (by intro z; cases z))]; exact he2⟩ .nil⟩
  have ha3 := hk _ _ ha
  generalize L2.upd H2 d (.dT [(keyR r, .ref e)]) = H3 at hk D0 ha3
  refine ⟨_, rfl, by show 1 ≤ sizeLine; decide, fun la nla => ⟨_, _, rfl, ?_⟩⟩
  have S4 : Same H3 (L2.upd H3 la (.lst [.ref a])) := Same.upd nla
  -- the while
  refine ⟨fun n σ H' => ∃ la as k t ws z4 z5 z6 z7, σ = [some (.ref a), some (.int m), some (.ref d), some (.ref la), z4, z5, z6, z7] ∧ Same H H' ∧ Lay m r k t ws ∧ DicR Vw H' d t ∧ RowsAs H' la as (rowsOf m r ws) ∧ n = 2 * (331776 - t.length) + (if ws = [] then 0 else 1),
    ⟨_, la, [a], 0, [(r, [])], [[]], _, _, _, _, rfl, fun b o z => S4 _ _ (hk _ _ z), lay0 m r, D0.keep vw_ok (fun _ _ z => S4 _ _ z) (fun _ z => S4 _ _ z), ⟨upd_same, .cons (S4 _ _ ha3) .nil⟩, rfl⟩, ?_⟩
  clear D0 ha3 S4 hk hd2 ha2 he2 S12 S1 S2 ne
  rintro n σ H' ⟨la, as, k, t, ws, z4, z5, z6, z7, rfl, S, L, D, RA, en⟩
  refine ⟨_, rfl, by show 0 ≤ sizeLine; decide, fun l nl => ?_⟩
  have Sl : Same H' (L2.upd H' l (.lst [])) := Same.upd nl
  have hl1 : (L2.upd H' l (.lst [])) l = some (.lst []) := upd_same
  have RA1 := RA.keep (fun _ _ z => Sl _ _ z) (fun _ z => Sl _ _ z)
  have D1 := D.keep vw_ok (fun _ _ z => Sl _ _ z) (fun _ z => Sl _ _ z)
  have S1 := S.trans Sl
  generalize L2.upd H' l (.lst []) = H1 at Sl hl1 RA1 D1 S1
  refine ⟨.list ((rowsOf m r ws).map fun r => PyData.tuple (dIs r)), .list [], .lst (SqL.of RA1.1) (rows_dp RA1.2), .lst (SqL.of hl1) .nil, rows_shaped _, nil_shaped, ?_⟩
  rw [rows_eqv]
  refine ⟨_, rfl, ?_⟩
  by_cases hw : ws = []
  · subst hw
    refine ifF (by rfl) ⟨_, rfl, q H1 d t S1 (whole_of L) D1⟩
  refine ifT (by cases ws with
    | nil => exact absurd rfl hw
    | cons x ws => rfl) ?_
  have hen : n = 2 * (331776 - t.length) + 1 := by rw [en, if_neg hw]
  refine ⟨fun σ' H' => ∃ la as new z4 z5 z6 z7, σ' = [some (.ref a), some (.int m), some (.ref d), some (.ref la), z4, z5, z6, z7] ∧ Same H H' ∧ Lay m r (k + 1) (t ++ new) (new.map (·.2)) ∧ DicR Vw H' d (t ++ new) ∧ RowsAs H' la as (rowsOf m r (new.map (·.2))), ?_, ?_⟩
  · rintro σ' H' ⟨la, as, new, z4, z5, z6, z7, rfl, S', L', D', R'⟩
    have h1 := lay_le h0 h24 ok L'
    rw [List.length_append] at h1
    refine ⟨_, ?_, la, as, k + 1, t ++ new, new.map (·.2), z4, z5, z6, z7, rfl, S', L', D', R', rfl⟩
    rw [List.length_append]
    by_cases hn : new = []
    · subst hn
      simp
      omega
    · have : 0 < new.length := List.length_pos_iff.mpr hn
      split <;> omega
  refine ⟨by show 0 ≤ sizeLine; decide, fun lb nlb => ?_⟩
  have Sb : Same H1 (L2.upd H1 lb (.lst [])) := Same.upd nlb
  have nbl : lb ≠ la := fun z => by rw [z] at nlb; have e : H1 la = some _ := RA1.1; rw [nlb] at e; cases e
  have nH0 : H lb = none := S1.free nlb
  have RA2 := RA1.keep (fun _ _ z => Sb _ _ z) (fun _ z => Sb _ _ z)
  refine ⟨_, rfl, la, rfl, ⟨_, SqL.of RA2.1⟩, for_list (xs := as.map V.ref) (fun i σ' H' => ∃ new z5 z6 z7, σ' = [some (.ref a), some (.int m), some (.ref d), some (.ref la), some (.ref lb), z5, z6, z7] ∧ Am m r H d la lb as k t ws i 0 H' new)
    ⟨[], _, _, _, rfl, S1.trans Sb, mid0 L, by rw [List.append_nil]; exact D1.keep vw_ok (fun _ _ z => Sb _ _ z) (fun _ z => Sb _ _ z), RA2, [], upd_same, .nil⟩ (fun i σ' H' _ p => by obtain ⟨_, _, _, _, _, am⟩ := p; exact SqL.of am.la_.1) (fun i x σ' H' hx p => ?_) (fun σ' H' p => ?_)⟩
  · obtain ⟨new, z5, z6, z7, rfl, am⟩ := p
    rw [List.getElem?_map] at hx
    cases hai : as[i]? with
    | none => rw [hai] at hx; cases hx
    | some ai =>
    rw [hai] at hx
    cases hx
    obtain ⟨ri, hri, _⟩ := Paired.nth am.la_.2 hai
    have hri' : (ws.map (follow m r))[i]? = some ri := hri
    rw [List.getElem?_map] at hri'
    have hi : i < ws.length := by
      rcases Nat.lt_or_ge i ws.length with h | h
      · exact h
      · rw [List.getElem?_eq_none h] at hri'; cases hri'
    rw [List.getElem?_eq_getElem hi] at hri'
    cases hri'
    have hl4 : (follow m r ws[i]).length = 4 := by rw [follow_len]; exact ok.1
    have hk1 := L.l1 ws[i] (List.getElem_mem hi)
    have hti := lay_le h0 h24 ok L
    have hkt := L.sz
    refine ⟨4, rfl, by decide, by decide, for_range (n := 4) (fun p σ' H' => ∃ new z6 z7, σ' = [some (.ref a), some (.int m), some (.ref d), some (.ref la), some (.ref lb), some (.ref ai), z6, z7] ∧ Am m r H d la lb as k t ws i p H' new) ⟨new, _, _, rfl, am⟩ (fun p σ' H' hp4 pp => ?_) (fun σ' H' pp => ?_)⟩
    · clear am
      obtain ⟨new, z6, z7, rfl, am⟩ := pp
      obtain ⟨_, e1, hai'⟩ := Paired.nth am.la_.2 hai
      rw [hri] at e1
      cases e1
      refine ⟨_, rfl, _, rfl, _, rfl, ai, _, p, m, by rw [Int.zero_add]; rfl, hai', hl4, hp4, h0, fun H5 q5 s5 h5 => ?_⟩
      have dic5 : DicR Vw H5 d (t ++ new) := am.dic.keep vw_ok (fun _ _ z => s5 _ _ z) (fun _ z => s5 _ _ z)
      have la5 : RowsAs H5 la as (rowsOf m r ws) := am.la_.keep (fun _ _ z => s5 _ _ z) (fun _ z => s5 _ _ z)
      obtain ⟨bs, lb5, pb5⟩ : RowsAt H5 lb (new.map (·.1)) := am.lb_.keep (fun _ _ z => s5 _ _ z) (fun _ z => s5 _ _ z)
      have hai5 := s5 _ _ hai'
      obtain ⟨o, g, eo⟩ := dic5.get am.mid.nd h5
      refine ⟨_, rfl, _, rfl, d, o, rfl, g, _, rfl, ?_⟩
      rw [eo]
      by_cases hin : nx m (follow m r ws[i]) p ∈ keysT (t ++ new)
      · exact ifF (by simp [hin]) ⟨new, _, _, rfl, am.same.trans s5, mid_old L am.mid hi hp4 hin, dic5, la5, bs, lb5, pb5⟩
      refine ifT (by simp [hin]) ?_
      obtain ⟨v, gv, c, rfl, hc⟩ := dic5.get_some am.mid.nd hai5 (List.mem_append_left _ hk1.1)
      have hlen := mid_le h0 h24 ok L am.mid
      refine ⟨_, rfl, _, rfl, d, _, rfl, gv, c, _, rfl, .inl (SqT.of hc), _, rfl, ?_, fun tp ntp => ?_⟩
      · show (wv ws[i] ++ [V.int (0 + (p : Int))]).length ≤ sizeLine
        rw [List.length_append, List.length_map, hk1.2, sizeLine_eq]
        show k + 1 ≤ _
        omega
      have St : Same H5 (L2.upd H5 tp (.tup (wv ws[i] ++ [V.int (0 + (p : Int))]))) := Same.upd ntp
      have htp : (L2.upd H5 tp (.tup (wv ws[i] ++ [V.int (0 + (p : Int))]))) tp = some (.tup (wv (ws[i] ++ [p]))) := by
        rw [upd_same, Int.zero_add]; simp [wv]
      have ntpH : H tp = none := (am.same.trans s5).free ntp
      have dic6 := dic5.keep vw_ok (fun _ _ z => St _ _ z) (fun _ z => St _ _ z)
      have la6 := la5.keep (fun _ _ z => St _ _ z) (fun _ z => St _ _ z)
      have lb6 := St _ _ lb5
      have pb6 := Paired.mapP pb5 fun _ _ q => St _ _ q
      have h6 := St _ _ h5
      have S6 := (am.same.trans s5).trans St
      generalize L2.upd H5 tp (.tup (wv ws[i] ++ [V.int (0 + (p : Int))])) = H6 at St htp dic6 la6 lb6 pb6 h6 S6
      obtain ⟨o7, dp, no1, no2, dic7⟩ := dic6.put vw_ok (u := ws[i] ++ [p]) h6 hin (by omega) ⟨tp, rfl, htp⟩
      have hdd : ∃ kvs, H6 d = some (.dT kvs) := let ⟨kvs, z, _⟩ := dic6; ⟨kvs, z⟩
      obtain ⟨kvs, hdd⟩ := hdd
      have K7 : ∀ b o, (∀ kvs, o ≠ .dT kvs) → H6 b = some o → (L2.upd H6 d o7) b = some o := fun b o no z => by rw [upd_ne (fun z' => no kvs (by rw [z', hdd] at z; exact (Option.some.inj z).symm))]; exact z
      refine ⟨_, rfl, _, rfl, d, _, rfl, dp, ?_⟩
      have lb7 := K7 _ _ (by intro _ z; cases z) lb6
      have la7 := la6.keep (fun _ _ z => K7 _ _ (by intro _ z; cases z) z) (fun _ z => K7 _ _ (by intro _ z; cases z) z)
      have pb7 := Paired.mapP pb6 fun _ _ q => K7 _ _ (by intro _ z; cases z) q
      have h7 := K7 _ _ (by intro _ z; cases z) h6
      have S7 : Same H (L2.upd H6 d o7) := fun b o z => by rw [upd_ne (ne_of_none z nd)]; exact S6 _ _ z
      generalize L2.upd H6 d o7 = H7 at dic7 lb7 la7 pb7 h7 S7
      have bl : bs.length = new.length := by rw [pb7.length]; exact List.length_map _
      rw [List.length_append] at hlen
      refine ⟨_, rfl, .inl ⟨rfl, _, SqL.of lb7⟩, _, rfl, lb, _, _, rfl, rfl, lb7, by rw [List.length_map, bl, sizeLine_eq]; omega, ?_⟩
      have K8 : ∀ b o, (∀ xs, o ≠ .lst xs) ∨ b ≠ lb → H7 b = some o → (L2.upd H7 lb (.lst (bs.map V.ref ++ [.ref q5]))) b = some o := fun b o no z => by
        rw [upd_ne (fun z' => ?_)]
        · exact z
        · rcases no with no | no
          · exact no _ (by rw [z', lb7] at z; exact (Option.some.inj z).symm)
          · exact no z'
      refine ⟨new ++ [(nx m (follow m r ws[i]) p, ws[i] ++ [p])], _, _, rfl, fun b o z => ?_, mid_new L am.mid hi hp4 hin, ?_, ?_, ?_⟩
      · exact K8 _ _ (.inr (ne_of_none z nH0)) (S7 _ _ z)
      · rw [← List.append_assoc]
        exact dic7.keep vw_ok (fun _ _ z => K8 _ _ (.inl (by intro _ z; cases z)) z) (fun _ z => K8 _ _ (.inl (by intro _ z; cases z)) z)
      · exact la7.keep (fun _ _ z => K8 _ _ (.inl (by intro _ z; cases z)) z) (fun _ z => K8 _ _ (.inr (Ne.symm nbl)) z)
      · refine ⟨bs ++ [q5], by rw [upd_same]; simp, ?_⟩
        rw [List.map_append]
        exact Paired.append (Paired.mapP pb7 fun _ _ z => K8 _ _ (.inl (by intro _ z; cases z)) z) (.cons (K8 _ _ (.inl (by intro _ z; cases z)) h7) .nil)
    · obtain ⟨new, z6, z7, rfl, am⟩ := pp
      exact ⟨new, _, _, _, rfl, am.same, mid_next am.mid, am.dic, am.la_, am.lb_⟩
  · obtain ⟨new, z5, z6, z7, rfl, am⟩ := p
    have el : (as.map V.ref).length = ws.length := by rw [List.length_map, am.la_.2.length]; exact List.length_map _
    have M := am.mid
    rw [el] at M
    have L' := mid_end L hw M
    obtain ⟨bs, hb, pb⟩ := am.lb_
    refine ⟨_, rfl, lb, bs, new, _, _, _, _, rfl, am.same, L', am.dic, hb, ?_⟩
    have er : rowsOf m r (new.map (·.2)) = new.map (·.1) := by
      unfold rowsOf
      rw [List.map_map]
      refine List.map_congr_left fun e he => ?_
      exact (L'.snd e.1 e.2 (List.mem_append_right _ he)).1
    rw [er]; exact pb
end
end K31
namespace K31
open PySem PySem.Spec PyProof.Rows L2
def primesI : List Int := [2, 3, 5, 7, 11, 13]
def pw (m p : Int) : Int := if m % (p * p * p) = 0 then p * p * p else if m % (p * p) = 0 then p * p else if m % p = 0 then p else 1
def pj (p : Int) : Nat → Int
  | 0 => 1
  | j + 1 => pj p j * p
theorem pj_step : ∀ m ∈ moduli, ∀ p ∈ primesI, ∀ j ∈ [0, 1, 2, 3], m % pj p j = 0 → 0 < pj p j * p ∧ pj p j < 100000 ∧ 0 < pj p j ∧ (m % (pj p j * p) = 0 → j + 1 ≤ 3) ∧ (m % (pj p j * p) ≠ 0 → pj p j = pw m p) := by decide +kernel
theorem parts_perm : ∀ m ∈ moduli, ((primesI.map (pw m)).filter fun q => decide (1 < q)).Perm (parts m) := by decide +kernel
theorem parts_sorted : ∀ m ∈ moduli, (parts m).Pairwise (· ≤ ·) := by decide +kernel
theorem perm_sorted {l k : List Int} (h : l.Perm k) (a : l.Pairwise (· ≤ ·)) (b : k.Pairwise (· ≤ ·)) : l = k := List.Perm.eq_of_pairwise (fun x y _ _ h1 h2 => Int.le_antisymm h1 h2) a b h
section
variable {P : Program} {w : World} {K : PySem.W.Frag} {mg : Str → Option Value} {base : Heap}
/-! ### parts_of -/
def spPartsOf : Sp := fun vs H Q _ => ∃ (m : Int), vs = [.int m] ∧ m ∈ moduli ∧ ∀ H' p, Same H H' → H' p = some (.tup (iv (parts m))) → Q (.ref p) H'
abbrev n47 : List Str := ["modulus", "found", "prime", "part"]
theorem sc47 : FnScope n47 ["modulus"] (defScope (top 47)) := ⟨rfl, rfl, rfl, by decide +kernel, rfl, by decide +kernel, by decide +kernel⟩
theorem c_partsOf (T : Tx K mg) : C8.Cal P w K mg base 1 "parts_of" spPartsOf [] := by
  refine calD (T.d 15) sc47 (fun kV doc pm an cdv ct us hl => match us, hl with | [_], _ => rfl) (fun vs H Q E h => ?_) fun cdv A outer s H vs Q E hr h => ?_
  · obtain ⟨m, rfl, _⟩ := h; rfl
  obtain ⟨m, rfl, hm, q⟩ := h
  refine ⟨_, pss_cons (ps_set (i := 1) sc47.nd rfl (.inl rfl) (pe_lst pa_nil))
    (pss_cons (ps_for PassesOwn.never rfl (pi_tup (pe_glob (v := .ref (ga K "PRIMES")) rfl T.primes rfl)) (pg_name (i := 2) sc47.nd rfl (.inl rfl))
      (pss_cons (ps_set (i := 3) sc47.nd rfl (.inl rfl) pe_int)
      (pss_cons (ps_while PassesOwn.never (pt_cmpR op_eq (pe_op op_mod (pv 0) (pe_op op_mul (pv 3) (pv 2))) pe_int (nomark _)) (pss_one (ps_set (i := 3) sc47.nd rfl (.inl rfl) (pe_op op_mul (pv 3) (pv 2)))))
      (pss_one (ps_if (pt_cmpR op_gt (pv 3) pe_int (nomark _)) (pss_one (ps_expr (pe_bm PySem.F.plainAttrs_list PySem.F.slot_list_append PySem.F.type_list_append mt_append (pv 1) (pa_cons (pv 3) pa_nil)))) pss_nil)))))
    (pss_one (ps_ret (pe_callTy call_tuple_of (by rfl) (T.b 5) (by decide +kernel) (pa_cons (pe_callB cr_sorted (by rfl) (T.b 8) (by decide +kernel) (pa_cons (pv 1) pa_nil)) pa_nil))))), ?_⟩
  refine ⟨by show 0 ≤ sizeLine; decide, fun lf nlf => ?_⟩
  have S1 : Same H (L2.upd H lf (.lst [])) := Same.upd nlf
  refine ⟨_, rfl, ⟨_, T.primesT _⟩, for_tup (xs := iv primesI) (fun i σ' H' => ∃ z2 z3, σ' = [some (.int m), some (.ref lf), z2, z3] ∧ Same H H' ∧ H' lf = some (.lst (iv (((primesI.take i).map (pw m)).filter fun q => decide (1 < q))))) ⟨_, _, rfl, S1, upd_same⟩ (fun i σ' H' _ p => T.primesT _) (fun i x σ' H' hx p => ?_) (fun σ' H' p => ?_)⟩
  · obtain ⟨z2, z3, rfl, S, hl⟩ := p
    rw [List.getElem?_map] at hx
    cases hp : primesI[i]? with
    | none => rw [hp] at hx; cases hx
    | some p =>
    rw [hp] at hx
    cases hx
    have hpm := List.mem_of_getElem? hp
    -- the while
    refine ⟨fun n σ' H' => ∃ j, j ≤ 3 ∧ m % pj p j = 0 ∧ n = 3 - j ∧ σ' = [some (.int m), some (.ref lf), some (.int p), some (.int (pj p j))] ∧ Same H H' ∧ H' lf = some (.lst (iv (((primesI.take i).map (pw m)).filter fun q => decide (1 < q)))), ⟨_, 0, by omega, Int.emod_one m, rfl, rfl, S, hl⟩, ?_⟩
    rintro n σ' H' ⟨j, hj, hmj, rfl, rfl, S', hl'⟩
    have hjm : j ∈ [0, 1, 2, 3] := by
      have : j = 0 ∨ j = 1 ∨ j = 2 ∨ j = 3 := by omega
      rcases this with rfl | rfl | rfl | rfl <;> decide
    obtain ⟨k1, k2, k3, k4, k5⟩ := pj_step m hm p hpm j hjm hmj
    refine ⟨_, rfl, _, rfl, _, rfl, _, _, rfl, rfl, .inl ⟨by omega, by omega⟩, _, _, rfl, rfl, k1, rfl, _, rfl, ?_⟩
    by_cases hz : m % (pj p j * p) = 0
    · refine ifT (decide_eq_true (congrArg V.int hz)) ⟨fun σ' H' => σ' = [some (.int m), some (.ref lf), some (.int p), some (.int (pj p (j + 1)))] ∧ Same H H' ∧ H' lf = some (.lst (iv (((primesI.take i).map (pw m)).filter fun q => decide (1 < q)))), ?_, ?_⟩
      · rintro σ' H' ⟨rfl, S'', hl''⟩
        exact ⟨3 - (j + 1), by have := k4 hz; omega, j + 1, k4 hz, hz, rfl, rfl, S'', hl''⟩
      · exact ⟨_, rfl, _, rfl, _, _, rfl, rfl, .inl ⟨by omega, by omega⟩, rfl, S', hl'⟩
    · refine ifF (decide_eq_false fun e => hz (V.int.inj e)) ?_
      have e : pj p j = pw m p := k5 hz
      refine ⟨_, rfl, _, _, rfl, rfl, _, rfl, ?_⟩
      have hz2 : (((primesI.take i).map (pw m)).filter fun q => decide (1 < q)).length ≤ 6 := by
        refine Nat.le_trans (List.length_filter_le _ _) ?_
        rw [List.length_map, List.length_take]
        have : primesI.length = 6 := rfl
        omega
      have et : ((primesI.take (i + 1)).map (pw m)).filter (fun q => decide (1 < q)) = ((primesI.take i).map (pw m)).filter (fun q => decide (1 < q)) ++ (if 1 < pw m p then [pw m p] else []) := by
        rw [take_snoc hp, List.map_append, List.filter_append]
        congr 1
        by_cases h1 : 1 < pw m p <;> simp [h1]
      by_cases h1 : 1 < pj p j
      · refine ifT (decide_eq_true h1) ?_
        refine ⟨_, rfl, .inl ⟨rfl, _, SqL.of hl'⟩, _, rfl, lf, _, _, rfl, rfl, hl', by rw [List.length_map, sizeLine_eq]; omega, _, _, rfl, fun b o z => ?_, ?_⟩
        · rw [upd_ne (ne_of_none z nlf)]; exact S' _ _ z
        · rw [upd_same, et, ← e, if_pos h1]; simp [iv]
      · refine ifF (decide_eq_false h1) ⟨_, _, rfl, S', ?_⟩
        rw [et, ← e, if_neg h1, List.append_nil]; exact hl'
  · obtain ⟨z2, z3, rfl, S, hl⟩ := p
    have el : (iv primesI).length = primesI.length := rfl
    rw [el, List.take_length] at hl
    refine ⟨_, rfl, lf, _, rfl, SqL.of hl, ?_, fun ns' p' hperm hsort np => ?_⟩
    · refine Nat.lt_of_le_of_lt (List.length_filter_le _ _) ?_
      rw [List.length_map]; decide
    have en : ns' = parts m := perm_sorted (hperm.trans (parts_perm m hm)) hsort (parts_sorted m hm)
    subst en
    refine ⟨p', _, rfl, .inl ⟨SqL.of upd_same, fun l nl => q _ l ((S.trans (Same.upd np)).trans (Same.upd nl)) upd_same⟩⟩
end
end K31
namespace K31
open PySem PySem.Spec PyProof.Rows L2
def Rch (q : Int) (b t : List Int) : Prop := ∃ u, okW u ∧ follow q (R b q) u = R t q
noncomputable def rch (q : Int) (b t : List Int) : Bool := @decide (Rch q b t) (Classical.propDecidable _)
theorem rch_iff {q : Int} {b t : List Int} : rch q b t = true ↔ Rch q b t := by
  unfold rch
  exact @decide_eq_true_iff _ (Classical.propDecidable _)
theorem rch_key {q : Int} {b t : List Int} {T : Tab} (W : Whole q (R b q) T) : decide (R t q ∈ keysT T) = rch q b t := by
  rw [Bool.eq_iff_iff, rch_iff, decide_eq_true_iff]
  exact W.key
theorem moduli_pos {m : Int} (h : m ∈ moduli) : 0 < m ∧ m ≤ 24 := by have := moduli_of h; omega
section
variable {P : Program} {w : World} {K : PySem.W.Frag} {mg : Str → Option Value} {base : Heap}
/-! ### comes_by -/
def spComesBy (K : PySem.W.Frag) : Sp := fun vs H Q _ => ∃ (f a : Addr) (q : Int) (b t : List Int), vs = [.ref f, .ref a, .int q] ∧ FourAt K H f b ∧ b.length = 4 ∧ H a = some (.tup (iv t)) ∧ t.length = 4 ∧ q ∈ moduli ∧ ∀ H', Same H H' → Q (.bl (rch q b t)) H'
theorem sc48 : FnScope ["four", "row", "part"] ["four", "row", "part"] (defScope (top 48)) := ⟨rfl, rfl, rfl, by decide +kernel, rfl, by decide +kernel, by decide +kernel⟩
theorem c_comesBy (T : Tx K mg) : C8.Cal P w K mg base 3 "comes_by" (spComesBy K) [] := by
  refine calD (T.d 16) sc48 (fun kV doc pm an cdv ct us hl => match us, hl with | [_, _, _], _ => rfl) (fun vs H Q E h => ?_) fun cdv A outer s H vs Q E hr h => ?_
  · obtain ⟨f, a, q, b, t, rfl, _⟩ := h; rfl
  obtain ⟨f, a, p, b, t, rfl, hf, hb4, ha, ht4, hp, q⟩ := h
  have hu := hu_of hr
  refine ⟨_, pss_one (ps_ret (pe_cmp (pc_din hu (C8.pe_c (c_rowBy T) hr (by decide) rfl (pa_cons (pv 1) (pa_cons (pv 2) pa_nil)))
    (C8.pe_c (c_wordsFrom T) hr (by decide) rfl (pa_cons (C8.pe_c (c_rowBy T) hr (by decide) rfl (pa_cons (pe_fld (pv 0) rfl) (pa_cons (pv 2) pa_nil))) (pa_cons (pv 2) pa_nil)))) rfl)), ?_⟩
  obtain ⟨h0, h24⟩ := moduli_pos hp
  refine ⟨_, rfl, _, rfl, a, t, p, rfl, ha, by omega, h0, fun H1 a1 s1 h1 => ?_⟩
  obtain ⟨dx, bt, hf1, hf2⟩ := hf.same s1
  refine ⟨_, rfl, f, _, dx, _, _, rfl, hf1, (T.c 0).ins.cl, T.na ("Four", "bends") (by decide), rfl, _, rfl, bt, b, p, rfl, hf2, by omega, h0, fun H2 a2 s2 h2 => ?_⟩
  refine ⟨_, rfl, a2, _, p, rfl, h2, R_ok hb4 h0, h0, h24, fun H3 d t3 s3 W D => ?_⟩
  have h13 := s3 _ _ (s2 _ _ h1)
  obtain ⟨o, g, eo⟩ := D.get W.nd h13
  refine ⟨d, o, rfl, g, ?_⟩
  rw [eo, rch_key W]
  exact q H3 ((s1.trans s2).trans s3)
/-! ### met -/
/-- the parts by which the row doesn't come -/
noncomputable def lacks (m : Int) (b t : List Int) : List Int := (parts m).filter fun q => !rch q b t
/-- what met says -/
def MetR (K : PySem.W.Frag) (m : Int) (b t : List Int) (H : Hp) (x : Addr) : Prop :=
  (∃ T u l, Whole m (R b m) T ∧ (t, u) ∈ T ∧ PapAt K "Met" "met" H x (.ref l) ∧ H l = some (.tup (wv u)) ∧ okW u ∧ u.length ≤ 331776) ∨
  (∃ T q qs, Whole m (R b m) T ∧ t ∉ keysT T ∧ lacks m b t = q :: qs ∧ PapAt K "Unmet" "unmet" H x (.int q))
theorem MetR.same {m : Int} {b t : List Int} {H H' : Hp} {x : Addr} (h : MetR K m b t H x) (s : Same H H') : MetR K m b t H' x := by
  rcases h with ⟨T, u, l, h1, h2, h3, h4, h5⟩ | ⟨T, q, qs, h1, h2, h3, h4⟩
  · exact .inl ⟨T, u, l, h1, h2, h3.same s, s _ _ h4, h5⟩
  · exact .inr ⟨T, q, qs, h1, h2, h3, h4.same s⟩
theorem lacks_ne {m : Int} (hm : m ∈ moduli) {b t : List Int} (fb : Fb b) (ht : okR m t) {T : Tab} (W : Whole m (R b m) T) (h : t ∉ keysT T) : ∃ q qs, lacks m b t = q :: qs := by
  cases e : lacks m b t with
  | cons q qs => exact ⟨q, qs, rfl⟩
  | nil =>
    exfalso
    apply h
    rw [W.key]
    refine crt hm fb.dc.len fb.dc.s2 fb.dc.odd ht fun q hq => ?_
    have h1 : ¬ (!rch q b t) = true := fun z => by
      have : q ∈ lacks m b t := List.mem_filter.mpr ⟨hq, z⟩
      rw [e] at this; cases this
    have h2 : rch q b t = true := by simpa using h1
    exact rch_iff.mp h2
/-! ### parts of a paper -/
def lv (xs : List V) : TT 2 := .inr (xs.map Sum.inl)
theorem leaf_int {H : Hp} (i : Int) : Leaf H (.int i) := ⟨"int", .int i, rfl⟩
theorem in1_leafs {H : Hp} : ∀ {xs : List V}, (∀ x ∈ xs, Leaf H x) → Paired (fun y x => InT 1 H y x) xs (xs.map Sum.inl)
  | [], _ => .nil
  | x :: xs, h => .cons ⟨rfl, h x List.mem_cons_self⟩ (in1_leafs fun y hy => h y (List.mem_cons_of_mem _ hy))
theorem in_leafs {H : Hp} {a : Addr} {xs : List V} (h : ∀ x ∈ xs, Leaf H x) (ha : H a = some (.lst xs) ∨ H a = some (.tup xs)) (hz : xs.length ≤ 2000000) : InT 2 H (.ref a) (lv xs) := ⟨a, xs, rfl, ha, hz, in1_leafs h⟩
theorem out1_leafs {H : Hp} : ∀ {xs ys : List V}, Paired (fun y x => OutT 1 H y x) ys (xs.map Sum.inl) → ys = xs
  | [], _, h => by cases h; rfl
  | x :: xs, _, h => by
    cases h with
    | cons h t => rw [h.1, out1_leafs t]
theorem out_leafs {H : Hp} {v : V} {xs : List V} (h : OutT 2 H v (lv xs)) : ∃ l, v = .ref l ∧ H l = some (.tup xs) := by
  obtain ⟨a, ys, e, ha, _, r⟩ := h
  rw [out1_leafs r] at ha
  exact ⟨a, e, ha⟩
theorem mk_Met {H : Hp} {x dx : Addr} {v : V} {Q : VK} {E : XK} (nx : H x = none) (nd : H dx = none) (ne : dx ≠ x) (hl : ∃ l, InT 2 H v l) (q : ∀ H' v', Same H H' → PapAt K "Met" "met" H' x v' → (∀ l, InT 2 H v l → OutT 2 H' v' l) → Q (.ref x) H') :
    spMet K [.ref x, v] (L2.upd (L2.upd H dx (.own x)) x (.ins (ga K "Met") dx [])) (fun v H2 => v = .non ∧ Q (.ref x) H2) E := by
  have S : Same H (L2.upd (L2.upd H dx (.own x)) x (.ins (ga K "Met") dx [])) := fun b o z => by rw [upd_ne (ne_of_none z nx), upd_ne (ne_of_none z nd)]; exact z
  obtain ⟨l, hl⟩ := hl
  refine ⟨x, dx, v, rfl, upd_same, ⟨l, hl.same S⟩, fun H' v' k p o => ⟨rfl, q H' v' (fun b o z => k b o (ne_of_none z nx) (S _ _ z)) p fun l hl => o l (hl.same S)⟩⟩
theorem mk_Unmet {H : Hp} {x dx : Addr} {v : V} {Q : VK} {E : XK} (nx : H x = none) (nd : H dx = none) (ne : dx ≠ x) (hl : ∃ l, InT 2 H v l) (q : ∀ H' v', Same H H' → PapAt K "Unmet" "unmet" H' x v' → (∀ l, InT 2 H v l → OutT 2 H' v' l) → Q (.ref x) H') :
    spUnmet K [.ref x, v] (L2.upd (L2.upd H dx (.own x)) x (.ins (ga K "Unmet") dx [])) (fun v H2 => v = .non ∧ Q (.ref x) H2) E := by
  have S : Same H (L2.upd (L2.upd H dx (.own x)) x (.ins (ga K "Unmet") dx [])) := fun b o z => by rw [upd_ne (ne_of_none z nx), upd_ne (ne_of_none z nd)]; exact z
  obtain ⟨l, hl⟩ := hl
  refine ⟨x, dx, v, rfl, upd_same, ⟨l, hl.same S⟩, fun H' v' k p o => ⟨rfl, q H' v' (fun b o z => k b o (ne_of_none z nx) (S _ _ z)) p fun l hl => o l (hl.same S)⟩⟩

def spMetF (K : PySem.W.Frag) : Sp := fun vs H Q _ => ∃ (f a : Addr) (m : Int) (b t : List Int), vs = [.ref f, .int m, .ref a] ∧ FourAt K H f b ∧ Fb b ∧ m ∈ moduli ∧ okR m t ∧ (H a = some (.lst (iv t)) ∨ H a = some (.tup (iv t))) ∧ ∀ H' x, Same H H' → MetR K m b t H' x → Q (.ref x) H'
abbrev n49 : List Str := ["four", "modulus", "row", "told", "found", "part"]
theorem sc49 : FnScope n49 ["four", "modulus", "row"] (defScope (top 49)) := ⟨rfl, rfl, rfl, by decide +kernel, rfl, by decide +kernel, by decide +kernel⟩
theorem m_met (T : Tx K mg) : ∃ fd, FnOk prg w K mg base CX0 6 (ma K (ga K "Met") "__init__") fd ["self", "letters"] (spMet K) ∧ Binds K fd ["self", "letters"] [] ∧ KBn K fd ["self", "letters"] 1 ["letters"] (fun us ws => us ++ ws) (fun us ws => us ++ ws) := by
  obtain ⟨c, cc, kV, doc, pm, ct, an, F⟩ := c_MetInit (w := w) (base := base) T
  refine ⟨_, F, Binds.all fun us hl => match us, hl with | [_, _], _ => rfl, fun s us ws X l1 l2 => .of_eq ?_, fun r1 r2 => r1.append r2⟩
  match us, ws, l1, l2 with | [_], [_], _, _ => rfl
theorem m_unmet (T : Tx K mg) : ∃ fd, FnOk prg w K mg base CX0 6 (ma K (ga K "Unmet") "__init__") fd ["self", "by"] (spUnmet K) ∧ Binds K fd ["self", "by"] [] := by
  obtain ⟨c, cc, kV, doc, pm, ct, an, F⟩ := c_UnmetInit (w := w) (base := base) T
  exact ⟨_, F, Binds.all fun us hl => match us, hl with | [_, _], _ => rfl⟩
theorem okD {x : Str} {st : Stmt} {N ps : List Str} {k : Nat} {sp : Sp} {fd : FuncData} (F : FunD K x x (defArgs st) (defBody st) (defScope st) [] [] (ga K x) fd) (S : FnScope N ps (defScope st))
    (len : ∀ vs H Q E, sp vs H Q E → vs.length = ps.length)
    (hbody : ∀ (cdv : Value) (A : Around) (outer : List Env) (s : Shared) (H : Hp) (vs : List V) (Q : VK) (E : XK), Room k (A.deeper (envOfC x (defScope st) s.heap.objs.size (ga K x) cdv)) → sp vs H Q E →
      ∃ t, PSs (cxOf CX0 P w K mg base N x (defScope st) (ga K x) cdv A outer s H E).nox (defBody st) t ∧ t { nx := fun _ H' => Q .non H', rt := Q } (start N vs) H) :
    FnOk P w K mg base CX0 (k + 1) (ga K x) fd ps sp := F.ok S len fun cdv A outer s H vs Q E hr h => by
  obtain ⟨t, h1, h2⟩ := hbody cdv A outer s H vs Q E hr h
  exact ⟨t, h1.nox, h2⟩
theorem o_met (T : Tx K mg) {fd : FuncData} (F : FunD K "met" "met" (defArgs (top 49)) (defBody (top 49)) (defScope (top 49)) [] [] (ga K "met") fd) : FnOk prg w K mg base CX0 8 (ga K "met") fd ["four", "modulus", "row"] (spMetF K) := by
  refine okD F sc49 (fun vs H Q E h => ?_) fun cdv A outer s H vs Q E hr h => ?_
  · obtain ⟨f, a, m, b, t, rfl, _⟩ := h; rfl
  obtain ⟨f, a, m, b, t, rfl, hf, fb, hm, ok, ha, q⟩ := h
  have hu := hu_of hr
  obtain ⟨fd1, F1, B1, _⟩ := m_met (w := w) (base := base) T
  obtain ⟨fd2, F2, B2⟩ := m_unmet (w := w) (base := base) T
  refine ⟨_, pss_cons (ps_expr (C8.pe_c (c_needAsked T) hr (by decide) rfl (pa_cons (pv 0) (pa_cons (pv 1) pa_nil))))
    (pss_cons (ps_set (i := 3) sc49.nd rfl (.inr rfl) (C8.pe_c (c_needRow T) hr (by decide) rfl (pa_cons (pv 2) (pa_cons (pv 1) pa_nil))))
    (pss_cons (ps_set (i := 4) sc49.nd rfl (.inl rfl) (C8.pe_c (c_wordsFrom T) hr (by decide) rfl (pa_cons (C8.pe_c (c_rowBy T) hr (by decide) rfl (pa_cons (pe_fld (pv 0) rfl) (pa_cons (pv 1) pa_nil))) (pa_cons (pv 1) pa_nil))))
    (pss_cons (ps_if (pt_cmp (pc_din hu (pv 3) (pv 4))) (pss_one (ps_ret (pe_make (T.c 3).mkr F1 (hr.mono (by decide)) rfl (T.c 3).mgx B1 .nil pass0 (pa_cons (pe_dget hu (pv 4) (pv 3) (fun _ _ => rfl)) pa_nil)))) pss_nil)
    (pss_one (ps_ret (pe_make (T.c 4).mkr F2 (hr.mono (by decide)) rfl (T.c 4).mgx B2 .nil pass0 (pa_cons (pe_ix ix_list (pe_lc (own := [("part", 5)]) (g := gName 5) rfl sc49.nd (pi_tup (C8.pe_c (c_partsOf T) hr (by decide) rfl (pa_cons (pv 1) pa_nil))) (blkOk_by (N := n49) (sc := defScope (top 49)) (by decide +kernel)) (fun _ _ _ _ _ => pg_name (i := 5) sc49.nd rfl (Or.inl rfl))
      (fun _ _ _ _ _ => pts_one (pt_not (pt_val (C8.pe_c (c_comesBy T) hr (by decide) rfl (pa_cons (pv 0) (pa_cons (pv 3) (pa_cons (pv 5) pa_nil))))))) (fun _ _ _ _ _ => pv 5)) pe_int (fun _ _ => rfl)) pa_nil))))))), ?_⟩
  obtain ⟨h0, h24⟩ := moduli_pos hm
  refine ⟨_, rfl, _, rfl, f, b, m, rfl, hf, hm, ?_⟩
  refine ⟨_, rfl, _, rfl, a, m, t, rfl, ok, ha, fun H1 p1 s1 h1 => ?_⟩
  obtain ⟨dx, bt, hf1, hf2⟩ := hf.same s1
  refine ⟨_, rfl, f, _, dx, _, _, rfl, hf1, (T.c 0).ins.cl, T.na ("Four", "bends") (by decide), rfl, _, rfl, bt, b, m, rfl, hf2, by rw [fb.dc.len]; omega, h0, fun H2 p2 s2 h2 => ?_⟩
  refine ⟨_, rfl, p2, _, m, rfl, h2, R_ok fb.dc.len h0, h0, h24, fun H3 d Tb s3 W D => ?_⟩
  have h3 := s3 _ _ (s2 _ _ h1)
  have S3 := (s1.trans s2).trans s3
  obtain ⟨o, g, eo⟩ := D.get W.nd h3
  refine ⟨_, rfl, _, rfl, d, o, rfl, g, _, rfl, ?_⟩
  rw [eo]
  by_cases hin : t ∈ keysT Tb
  · refine ifT (by simp [hin]) ?_
    obtain ⟨u, hu'⟩ := mem_keys.mp hin
    obtain ⟨v, gv, c, rfl, hc⟩ := D.get_some W.nd h3 hu'
    have ou := W.snd t u hu'
    have ul := ou.2.2
    have tl := tab_le h0 h24 (R_ok fb.dc.len h0) W.nd fun r w h => (W.snd r w h).1
    refine ⟨_, rfl, _, rfl, d, _, rfl, gv, fun x dx nx nd ne => ?_⟩
    refine mk_Met nx nd ne ⟨lv (wv u), in_leafs (fun y hy => by obtain ⟨k, _, rfl⟩ := List.mem_map.mp hy; exact leaf_int _) (.inr hc) (by rw [List.length_map]; omega)⟩ fun H' v' s' p o => ?_
    obtain ⟨l, rfl, hl⟩ := out_leafs (o (lv (wv u)) (in_leafs (fun y hy => by obtain ⟨k, _, rfl⟩ := List.mem_map.mp hy; exact leaf_int _) (.inr hc) (by rw [List.length_map]; omega)))
    exact q H' x (S3.trans s') (.inl ⟨Tb, u, l, W, hu', p, hl, ou.2.1, by omega⟩)
  · refine ifF (by simp [hin]) ?_
    obtain ⟨z, zs, ez⟩ := lacks_ne hm fb ok W hin
    refine ⟨_, rfl, m, rfl, hm, fun H4 p4 s4 h4 => ⟨p4, rfl, ⟨_, SqT.of h4⟩, fun D' nD => ?_⟩⟩
    have pl : (parts m).length ≤ 10 := by
      unfold parts
      repeat (split; · decide)
      simp
    have h34 := s4 _ _ h3
    have f4 := hf.same (S3.trans s4)
    refine lc_tup_g 5 (fun x => match x with | .int q => !rch q b t | _ => false) (fun _ x y => y = x) (fun _ _ _ _ _ h => h) (fun _ _ _ _ _ _ h => h) (by rw [List.length_map]; omega) nD (SqT.of h4) (fun x => rfl) (fun x hx H' s' Q' z' => ?_) (fun x hx _ H' s' Q' z' => ⟨_, rfl, z' _ _ (Same.refl _) rfl⟩) (fun H5 ys s5 hy rr => ?_)
    · obtain ⟨n, hn, rfl⟩ := List.mem_map.mp hx
      exact ⟨_, rfl, _, rfl, _, rfl, f, p1, n, b, t, rfl, f4.same s', fb.dc.len, s' _ _ h34, ok.1, (parts_of_mem hm n hn).1, fun H6 s6 => ⟨_, rfl, z' _ s6⟩⟩
    · have ey : ys = iv (lacks m b t) := by
        have := Paired.eq_map (f := fun x : V => x) rr
        rw [List.map_id'] at this
        rw [this]
        unfold lacks iv
        rw [List.filter_map]; rfl
      rw [ez] at ey
      subst ey
      refine ⟨D', _, 0, _, rfl, rfl, SqL.of hy, iv_at (r := z :: zs) (p := 0) (by simp), fun x dx nx nd ne => ?_⟩
      refine mk_Unmet nx nd ne ⟨.inl (.int z), rfl, leaf_int z⟩ fun H' v' s' p o => ?_
      obtain ⟨rfl, _⟩ := o (.inl (.int z)) ⟨rfl, leaf_int z⟩
      exact q H' x (((S3.trans s4).trans s5).trans s') (.inr ⟨Tb, z, zs, W, hin, ez, p⟩)
theorem c_met (T : Tx K mg) : C8.Cal prg w K mg base 8 "met" (spMetF K) [] := by
  obtain ⟨fd, F⟩ := (T.d 17).fd
  exact ⟨ga K "met", fd, _, [], o_met T F, (T.d 17).mgx, F.kp, F.bindsN fun kV doc pm an cdv ct us hl => match us, hl with | [_, _, _], _ => rfl, .nil⟩
end
end K31
namespace K31
open PySem PySem.Spec PyProof.Rows L2
theorem inV_iv (q : Int) (ps : List Int) : inV (.int q) (iv ps) = decide (q ∈ ps) := by
  unfold inV
  induction ps with
  | nil => simp
  | cons p ps ih =>
    show (eqV (.int p) (.int q) || (iv ps).any fun y => eqV y (.int q)) = _
    rw [ih]
    show ((p == q) || decide (q ∈ ps)) = _
    by_cases h : p = q
    · simp [h]
    · have h' : q ≠ p := fun z => h z.symm
      simp [h, h']
theorem iv_flat (ps : List Int) : (iv ps).all flatV = true := by
  rw [List.all_eq_true]; intro x hx
  obtain ⟨n, _, rfl⟩ := List.mem_map.mp hx
  rfl
/-- what shows_met answers of a value -/
inductive SV (K : PySem.W.Frag) (H : Hp) (m : Int) (b t : List Int) : V → Bool → Prop
  | word {x l : Addr} {wd : Str} {u : List Nat} (p : PapAt K "Met" wd H x (.ref l)) (h : H l = some (.tup (wv u))) (ok : okW u) (hz : u.length ≤ 1000000) : SV K H m b t (.ref x) (decide (follow m (R b m) u = t))
  | metNo {x : Addr} {wd : Str} {v : V} {ty : String} {xs : List V} (p : PapAt K "Met" wd H x v) (it : ItOf H v ty xs) (no : (isSeq ty && xs.all isP) = false) : SV K H m b t (.ref x) false
  | unm {x : Addr} {wd : Str} {q : Int} (p : PapAt K "Unmet" wd H x (.int q)) : SV K H m b t (.ref x) (decide (q ∈ parts m) && !rch q b t)
  | unmNo {x : Addr} {wd : Str} {v : V} {ty : String} (p : PapAt K "Unmet" wd H x v) (pl : Pl H v ty) (no : isI v = false) : SV K H m b t (.ref x) false
  | pap {x : Addr} {c wd : Str} {v : V} (hc : c ∈ (["Paper", "Denial"] : List Str)) (p : PapAt K c wd H x v) : SV K H m b t (.ref x) false
  | oth {v : V} {ty : String} (pl : Pl H v ty) : SV K H m b t v false
theorem SV.same {K : PySem.W.Frag} {H H' : Hp} {m : Int} {b t : List Int} {v : V} {k : Bool} (s : Same H H') (h : SV K H m b t v k) : SV K H' m b t v k := by
  cases h with
  | word p h ok hz => exact .word (p.same s) (s _ _ h) ok hz
  | metNo p it no =>
    obtain ⟨i1, i2, i3⟩ := it
    refine .metNo (p.same s) ⟨plS s i1, fun e => ?_, i3⟩ no
    obtain ⟨⟨a, e1, e2⟩, pl⟩ := i2 e
    refine ⟨⟨a, e1, ?_⟩, fun x hx => let ⟨u, z⟩ := pl x hx; ⟨u, plS s z⟩⟩
    rcases e2 with ⟨e2, e3⟩ | ⟨e2, e3⟩
    · exact .inl ⟨e2, s _ _ e3⟩
    · exact .inr ⟨e2, s _ _ e3⟩
  | unm p => exact .unm (p.same s)
  | unmNo p pl no => exact .unmNo (p.same s) (plS s pl) no
  | pap hc p => exact .pap hc (p.same s)
  | oth pl => exact .oth (plS s pl)
section
variable {P : Program} {w : World} {K : PySem.W.Frag} {mg : Str → Option Value} {base : Heap}
def spShowsMet (K : PySem.W.Frag) : Sp := fun vs H Q _ => ∃ (f a : Addr) (m : Int) (b t : List Int) (v : V) (k : Bool), vs = [.ref f, .int m, .ref a, v] ∧ FourAt K H f b ∧ b.length = 4 ∧ m ∈ moduli ∧ okR m t ∧ (H a = some (.lst (iv t)) ∨ H a = some (.tup (iv t))) ∧ SV K H m b t v k ∧ ∀ H', Same H H' → Q (.bl k) H'
abbrev n51 : List Str := ["four", "modulus", "row", "value", "told"]
theorem sc51 : FnScope n51 ["four", "modulus", "row", "value"] (defScope (top 51)) := ⟨rfl, rfl, rfl, by decide +kernel, rfl, by decide +kernel, by decide +kernel⟩
theorem papT {c : Str} (h : c ∈ papL) : c ∈ clsL := papC h
theorem pdC {c : Str} (hc : c ∈ (["Paper", "Denial"] : List Str)) : c ∈ clsL ∧ c ∈ papL ∧ decide (("Met" : Str) ∈ bases c) = false ∧ decide (("Unmet" : Str) ∈ bases c) = false := by revert hc; revert c; decide
theorem SV.isMet {H : Hp} {m : Int} {b t : List Int} {v : V} {k : Bool} (T : Tx K mg) (h : SV K H m b t v k) : ∃ ty, TyX K H v ty ∧ ∃ b1 b2, PySem.W.kitOne K ty (.ref (ga K "Met")) = some b1 ∧ PySem.W.kitOne K ty (.ref (ga K "Unmet")) = some b2 ∧
    (b1 = true → ∃ x wd v', v = .ref x ∧ PapAt K "Met" wd H x v' ∧ ((∃ l u, v' = .ref l ∧ H l = some (.tup (wv u)) ∧ okW u ∧ u.length ≤ 1000000 ∧ k = decide (follow m (R b m) u = t)) ∨ (∃ ty xs, ItOf H v' ty xs ∧ (isSeq ty && xs.all isP) = false ∧ k = false))) ∧
    (b1 = false → b2 = true → ∃ x wd v', v = .ref x ∧ PapAt K "Unmet" wd H x v' ∧ ((∃ q, v' = .int q ∧ k = (decide (q ∈ parts m) && !rch q b t)) ∨ (∃ ty, Pl H v' ty ∧ isI v' = false ∧ k = false))) ∧ (b1 = false → b2 = false → k = false) := by
  have own : ∀ {c : Str} {x dx : Addr} {fs : List (Str × V)}, c ∈ clsL → H x = some (.ins (ga K c) dx fs) → TyX K H (.ref x) (.ref (ga K c)) := fun hc hx => insTy T hc hx
  cases h with
  | @word x l wd u p h ok hz =>
    obtain ⟨dx, pp, hx, hp⟩ := id p
    exact ⟨_, own (c := "Met") (by decide) hx, true, false, T.kit 3 3, T.kit 3 4, fun _ => ⟨_, wd, _, rfl, p, .inl ⟨l, u, rfl, h, ok, hz, rfl⟩⟩, (fun z => by cases z), fun z => by cases z⟩
  | @metNo x wd v ty xs p it no =>
    obtain ⟨dx, pp, hx, hp⟩ := id p
    exact ⟨_, own (c := "Met") (by decide) hx, true, false, T.kit 3 3, T.kit 3 4, fun _ => ⟨_, wd, _, rfl, p, .inr ⟨ty, xs, it, no, rfl⟩⟩, (fun z => by cases z), fun z => by cases z⟩
  | @unm x wd q p =>
    obtain ⟨dx, pp, hx, hp⟩ := id p
    exact ⟨_, own (c := "Unmet") (by decide) hx, false, true, T.kit 4 3, T.kit 4 4, (fun z => by cases z), fun _ _ => ⟨_, wd, _, rfl, p, .inl ⟨q, rfl, rfl⟩⟩, fun _ z => by cases z⟩
  | @unmNo x wd v ty p pl no =>
    obtain ⟨dx, pp, hx, hp⟩ := id p
    exact ⟨_, own (c := "Unmet") (by decide) hx, false, true, T.kit 4 3, T.kit 4 4, (fun z => by cases z), fun _ _ => ⟨_, wd, _, rfl, p, .inr ⟨ty, pl, no, rfl⟩⟩, fun _ z => by cases z⟩
  | @pap x c wd v hc p =>
    obtain ⟨dx, pp, hx, hp⟩ := id p
    obtain ⟨c1, c2, c3, c4⟩ := pdC hc
    have k1 := T.ko c c1 "Met" (by decide)
    have k2 := T.ko c c1 "Unmet" (by decide)
    rw [c3] at k1
    rw [c4] at k2
    exact ⟨_, own c1 hx, false, false, k1, k2, (fun z => by cases z), (fun _ z => by cases z), fun _ _ => rfl⟩
  | oth pl => exact ⟨_, pl.ty, false, false, T.kb _ pl.kind "Met" (by decide), T.kb _ pl.kind "Unmet" (by decide), (fun z => by cases z), (fun _ z => by cases z), fun _ _ => rfl⟩
theorem o_shows (T : Tx K mg) {fd : FuncData} (F : FunD K "shows_met" "shows_met" (defArgs (top 51)) (defBody (top 51)) (defScope (top 51)) [] [] (ga K "shows_met") fd) : FnOk P w K mg base CX0 5 (ga K "shows_met") fd ["four", "modulus", "row", "value"] (spShowsMet K) := by
  refine okD F sc51 (fun vs H Q E h => ?_) fun cdv A outer s H vs Q E hr h => ?_
  · obtain ⟨f, a, m, b, t, v, k, rfl, _⟩ := h; rfl
  obtain ⟨f, a, m, b, t, v, k, rfl, hf, hb4, hm, ok, ha, sv, q⟩ := h
  refine ⟨_, pss_cons (ps_expr (C8.pe_c (c_needAsked T) hr (by decide) rfl (pa_cons (pv 0) (pa_cons (pv 1) pa_nil))))
    (pss_cons (ps_set (i := 4) sc51.nd rfl (.inl rfl) (C8.pe_c (c_needRow T) hr (by decide) rfl (pa_cons (pv 2) (pa_cons (pv 1) pa_nil))))
    (pss_cons (ps_if (pt_val (pe_callB call_isi (by rfl) (T.b 0) (by decide +kernel) (pa_cons (pv 3) (pa_cons (pe_glob (v := .ref (ga K "Met")) rfl (T.c 3).mgx rfl) pa_nil))))
      (pss_cons (ps_if (pt_not (pt_val (C8.pe_c (c_isWord T) hr (by decide) rfl (pa_cons (pe_fld (pv 3) rfl) pa_nil)))) (pss_one (ps_ret pe_bl)) pss_nil)
      (pss_one (ps_ret (pe_cmpR (op_eqD hr.units) (C8.pe_c (c_rowBehind T) hr (by decide) rfl (pa_cons (C8.pe_c (c_rowBy T) hr (by decide) rfl (pa_cons (pe_fld (pv 0) rfl) (pa_cons (pv 1) pa_nil))) (pa_cons (pe_fld (pv 3) rfl) (pa_cons (pv 1) pa_nil)))) (pv 4) (nomark _))))) pss_nil)
    (pss_cons (ps_if (PW.pt (pw_or (pt_not (pt_val (pe_callB call_isi (by rfl) (T.b 0) (by decide +kernel) (pa_cons (pv 3) (pa_cons (pe_glob (v := .ref (ga K "Unmet")) rfl (T.c 4).mgx rfl) pa_nil)))))
      (pw_or (pt_not (pt_val (C8.pe_c (c_isInteger T) hr (by decide) rfl (pa_cons (pe_fld (pv 3) rfl) pa_nil)))) (pw_or1 (pt_cmpR op_notIn_seq (pe_fld (pv 3) rfl) (C8.pe_c (c_partsOf T) hr (by decide) rfl (pa_cons (pv 1) pa_nil)) (by rfl)))))) (pss_one (ps_ret pe_bl)) pss_nil)
    (pss_one (ps_ret (pe_not (C8.pe_c (c_comesBy T) hr (by decide) rfl (pa_cons (pv 0) (pa_cons (pv 4) (pa_cons (pe_fld (pv 3) rfl) pa_nil)))))))))), ?_⟩
  obtain ⟨h0, h24⟩ := moduli_pos hm
  refine ⟨_, rfl, _, rfl, f, b, m, rfl, hf, hm, ?_⟩
  refine ⟨_, rfl, _, rfl, a, m, t, rfl, ok, ha, fun H1 p1 s1 h1 => ?_⟩
  have sv1 := sv.same s1
  obtain ⟨ty, hty, b1, b2, k1, k2, g1, g2, g3⟩ := sv1.isMet T
  refine ⟨_, rfl, v, _, _, _, b1, rfl, .own _, hty, k1, _, rfl, ?_⟩
  cases b1 with
  | true =>
    obtain ⟨x, wd, v', rfl, ⟨dx, pp, hx, hp⟩, g⟩ := g1 rfl
    have cl := (T.c 3).ins.cl
    refine iteT ?_
    rcases g with ⟨l, u, rfl, hl, oku, hz, rfl⟩ | ⟨ty', xs, it, no, rfl⟩
    · have it : ItOf H1 (.ref l) "tuple" (wv u) := ⟨.tup hl, fun _ => ⟨⟨l, rfl, .inr ⟨rfl, hl⟩⟩, fun y hy => by
        obtain ⟨n, _, rfl⟩ := List.mem_map.mp hy
        exact ⟨_, .int _⟩⟩, by rw [List.length_map]; omega⟩
      have all : (wv u).all isP = true := by
        rw [List.all_eq_true]; intro y hy
        obtain ⟨n, hn, rfl⟩ := List.mem_map.mp hy
        have := oku n hn
        show (decide ((0 : Int) ≤ (n : Int)) && decide ((n : Int) ≤ 3)) = true
        simp; omega
      refine ⟨_, rfl, x, _, dx, _, _, rfl, hx, cl, T.na ("Met", "letters") (by decide), rfl, _, "tuple", _, rfl, it, fun H2 s2 => ?_⟩
      rw [all]
      refine ⟨_, rfl, iteF ?_⟩
      obtain ⟨dy, bt, hf1, hf2⟩ := hf.same (s1.trans s2)
      refine ⟨_, rfl, f, _, dy, _, _, rfl, hf1, (T.c 0).ins.cl, T.na ("Four", "bends") (by decide), rfl, _, rfl, bt, b, m, rfl, hf2, by omega, h0, fun H3 p3 s3 h3 => ?_⟩
      have s23 := s2.trans s3
      refine ⟨_, rfl, x, _, dx, _, _, rfl, s23 _ _ hx, cl, T.na ("Met", "letters") (by decide), rfl, _, rfl, p3, l, _, u, m, rfl, h3, by rw [R_len, hb4], s23 _ _ hl, oku, h0, fun H4 p4 s4 h4 => ?_⟩
      refine ⟨_, rfl, _, _, .tup (SqT.of h4) (dIs_dp K _ _), .tup (SqT.of (s4 _ _ (s23 _ _ h1))) (dIs_dp K _ _), tupI_shaped _, tupI_shaped _, ?_⟩
      rw [eqv_tupI]
      exact q H4 ((s1.trans s23).trans s4)
    · refine ⟨_, rfl, x, _, dx, _, _, rfl, hx, cl, T.na ("Met", "letters") (by decide), rfl, _, ty', _, rfl, it, fun H2 s2 => ?_⟩
      rw [no]
      exact ⟨_, rfl, iteT (q H2 (s1.trans s2))⟩
  | false =>
    refine iteF ?_
    refine ⟨_, rfl, v, _, _, _, b2, rfl, .own _, hty, k2, _, rfl, ?_⟩
    cases b2 with
    | false =>
      have := g3 rfl rfl
      subst this
      exact iteT (iteT (q H1 s1))
    | true =>
      obtain ⟨x, wd, v', rfl, ⟨dx, pp, hx, hp⟩, g⟩ := g2 rfl rfl
      have cl := (T.c 4).ins.cl
      refine iteF ?_
      rcases g with ⟨z, rfl, rfl⟩ | ⟨ty', pl, no, rfl⟩
      · refine ⟨_, rfl, x, _, dx, _, _, rfl, hx, cl, T.na ("Unmet", "by") (by decide), rfl, _, _, rfl, .int z, _, rfl, iteF ?_⟩
        refine ⟨_, rfl, x, _, dx, _, _, rfl, hx, cl, T.na ("Unmet", "by") (by decide), rfl, _, rfl, m, rfl, hm, fun H2 p2 s2 h2 => ?_⟩
        refine ⟨p2, _, rfl, .inr (SqT.of h2), rfl, iv_flat _, _, rfl, ?_⟩
        by_cases hin : z ∈ parts m
        · have e : (if true = true then !inV (.int z) (iv (parts m)) else inV (.int z) (iv (parts m))) = false := by rw [if_pos rfl, inV_iv, decide_eq_true hin]; rfl
          refine ifF e ?_
          have s12 := s1.trans s2
          refine ⟨_, rfl, _, rfl, _, rfl, x, _, dx, _, _, rfl, s2 _ _ hx, cl, T.na ("Unmet", "by") (by decide), rfl, f, p1, z, b, t, rfl, hf.same s12, hb4, s2 _ _ h1, ok.1, (parts_of_mem hm z hin).1, fun H3 s3 => ⟨_, rfl, ?_⟩⟩
          have := q H3 (s12.trans s3)
          rw [decide_eq_true hin] at this
          simpa using this
        · have e : (if true = true then !inV (.int z) (iv (parts m)) else inV (.int z) (iv (parts m))) = true := by rw [if_pos rfl, inV_iv, decide_eq_false hin]; rfl
          refine ifT e ?_
          have := q H2 (s1.trans s2)
          rw [decide_eq_false hin] at this
          exact this
      · refine ⟨_, rfl, x, _, dx, _, _, rfl, hx, cl, T.na ("Unmet", "by") (by decide), rfl, _, _, rfl, pl, _, rfl, ?_⟩
        rw [no]
        exact iteT (iteT (q H1 s1))
theorem c_showsMet (T : Tx K mg) : C8.Cal P w K mg base 5 "shows_met" (spShowsMet K) [] := by
  obtain ⟨fd, F⟩ := (T.d 18).fd
  exact ⟨ga K "shows_met", fd, _, [], o_shows T F, (T.d 18).mgx, F.kp, F.bindsN fun kV doc pm an cdv ct us hl => match us, hl with | [_, _, _, _], _ => rfl, .nil⟩
end
end K31
namespace K31
open PySem PySem.Spec PyProof.Rows L2
/-- the vat at v: its cells, its turn (at most N), its rest -/
def Vat (N : Nat) (H : Hp) (v : Addr) : Prop := ∃ (c : Addr) (ns : List Int) (t : Nat) (r : Int), H v = some (.lst [.ref c, .int (t : Int), .int r]) ∧ H c = some (.lst (iv ns)) ∧ ns.length ≤ 60 ∧ t ≤ N ∧ 0 ≤ r
theorem Vat.mono {N M : Nat} {H : Hp} {v : Addr} (h : Vat N H v) (e : N ≤ M) : Vat M H v := let ⟨c, ns, t, r, h1, h2, h3, h4, h5⟩ := h; ⟨c, ns, t, r, h1, h2, h3, Nat.le_trans h4 e, h5⟩
theorem Vat.same {N : Nat} {H H' : Hp} {v : Addr} (h : Vat N H v) (s : Same H H') : Vat N H' v := let ⟨c, ns, t, r, h1, h2, h3⟩ := h; ⟨c, ns, t, r, s _ _ h1, s _ _ h2, h3⟩
theorem iv_ne {c : Addr} {ns : List Int} {xs : List V} : (HO.lst (.ref c :: xs)) ≠ HO.lst (iv ns) := fun z => by
  injection z with z
  cases ns with
  | nil => cases z
  | cons n ns => injection z with z _; cases z
/-- the cells are still the same list -/
def KeepC (v : Addr) (H H' : Hp) : Prop := ∀ c t, H' v = some (.lst (.ref c :: t)) → ∃ t', H v = some (.lst (.ref c :: t'))
theorem kb_same {v : Addr} {H H' : Hp} (s : Same H H') : KeptBut v H H' := fun a o _ e => s a o e
theorem KeptBut.trans {v : Addr} {H H1 H2 : Hp} (a : KeptBut v H H1) (b : KeptBut v H1 H2) : KeptBut v H H2 := fun c o n e => b c o n (a c o n e)
theorem KeptBut.refl {v : Addr} (H : Hp) : KeptBut v H H := fun _ _ _ e => e
theorem cutV_60 (xs : List V) : cutV xs none (some 60) = xs.take 60 := cutV_to xs 60
section
variable {P : Program} {w : World} {K : PySem.W.Frag} {mg : Str → Option Value} {base : Heap}
/-! ### _law_vat -/
def spVat (K : PySem.W.Frag) : Sp := fun vs H Q _ => ∃ a ns, vs = [.ref a] ∧ SqL K H a (iv ns) ∧ ns.length ≤ 1000 ∧ ∀ H' v, Same H H' → Vat 0 H' v → Q (.ref v) H'
theorem sc53 : FnScope ["_law_script", "_law_cell"] ["_law_script"] (defScope (top 53)) := ⟨rfl, rfl, rfl, by decide +kernel, rfl, by decide +kernel, by decide +kernel⟩
theorem c_vat (T : Tx K mg) : C8.Cal P w K mg base 1 "_law_vat" (spVat K) [] := by
  refine calD (T.w 0) sc53 (fun kV doc pm an cdv ct us hl => match us, hl with | [_], _ => rfl) (fun vs H Q E h => ?_) fun cdv A outer s H vs Q E hr h => ?_
  · obtain ⟨a, ns, rfl, _⟩ := h; rfl
  obtain ⟨a, ns, rfl, hs, hz, q⟩ := h
  refine ⟨_, pss_one (ps_ret (pe_lst (pa_cons (pe_lc (own := [("_law_cell", 1)]) (g := gName 1) (tt := tYes) rfl sc53.nd (pi_list (pe_slice sl_list (pv 0) po_none (po_some pe_int))) (blkOk_by (N := ["_law_script", "_law_cell"]) (sc := defScope (top 53)) (by decide +kernel)) (fun _ _ _ _ _ => pg_name (i := 1) sc53.nd rfl (Or.inl rfl)) (fun _ _ _ _ _ => pts_nil)
      (fun _ _ _ _ _ => pe_callTy call_int1 (by rfl) (T.b 1) (by decide +kernel) (pa_cons (pv 1) pa_nil))) (pa_cons pe_int (pa_cons pe_int pa_nil))))), ?_⟩
  refine ⟨_, rfl, 60, rfl, a, _, rfl, hs, fun p np => ⟨p, rfl, ⟨_, SqL.of upd_same⟩, fun D nD => ?_⟩⟩
  have s1 : Same H (L2.upd H p (.lst (cutV (iv ns) none (some 60)))) := Same.upd np
  have hp : (L2.upd H p (.lst (cutV (iv ns) none (some 60)))) p = some (.lst (iv (ns.take 60))) := by rw [upd_same, cutV_60]; simp [iv]
  generalize L2.upd H p (.lst (cutV (iv ns) none (some 60))) = H1 at s1 hp nD
  refine lc_list_g 1 (fun _ => true) (fun _ x y => y = x) (fun _ _ _ _ _ h => h) (fun _ _ _ _ _ _ h => h) (by rw [List.length_map, List.length_take]; omega) nD (SqL.of hp) (fun x => rfl) (fun x hx H' s Q' z => z H' (Same.refl _)) (fun x hx _ H' s Q' z => ?_) (fun H2 ys s2 hy rr => ?_)
  · obtain ⟨n, hn, rfl⟩ := List.mem_map.mp hx
    exact ⟨_, rfl, .inl ⟨n, rfl, z _ _ (Same.refl _) rfl⟩⟩
  have e : ys = iv (ns.take 60) := by
    have := Paired.eq_map (f := fun x : V => x) rr
    rw [List.filter_eq_self.mpr (fun _ _ => rfl), List.map_id'] at this
    exact this
  subst e
  refine ⟨by show 3 ≤ sizeLine; decide, fun l nl => q _ l ((s1.trans s2).trans (Same.upd nl)) ⟨D, ns.take 60, 0, 0, upd_same, ?_, by rw [List.length_take]; omega, Nat.le_refl _, Int.le_refl _⟩⟩
  exact Same.upd nl _ _ hy
/-! ### _law_scoop -/
def spScoop : Sp := fun vs H Q _ => ∃ (v : Addr) (k : Int) (N : Nat), vs = [.ref v, .int k] ∧ Vat N H v ∧ N ≤ 100000 ∧ 0 < k ∧ k < 1000000000 ∧ ∀ H' z, KeptBut v H H' → Vat (N + 1) H' v → 0 ≤ z → z < k → KeepC v H H' → Q (.int z) H'
abbrev n54 : List Str := ["_law_vat_here", "_law_many", "_law_rest", "_law_turn", "_law_cell", "_law_mixed"]
theorem sc54 : FnScope n54 ["_law_vat_here", "_law_many"] (defScope (top 54)) := ⟨rfl, rfl, rfl, by decide +kernel, rfl, by decide +kernel, by decide +kernel⟩
theorem c_scoop (T : Tx K mg) : C8.Cal P w K mg base 1 "_law_scoop" spScoop [] := by
  refine calD (T.w 1) sc54 (fun kV doc pm an cdv ct us hl => match us, hl with | [_, _], _ => rfl) (fun vs H Q E h => ?_) fun cdv A outer s H vs Q E hr h => ?_
  · obtain ⟨v, k, N, rfl, _⟩ := h; rfl
  obtain ⟨v, k, N, rfl, ⟨c, ns, t, r, hv, hc, hz, ht, hr0⟩, hN, hk0, hk1, q⟩ := h
  refine ⟨_, pss_cons (ps_if (pt_cmpR op_gt (pe_ix ix_list (pv 0) (pe_int) (fun _ _ => rfl)) (pe_int) (nomark _)) (pss_cons (ps_set (i := 2) sc54.nd rfl (.inl rfl) (pe_callTy call_int1 (by rfl) (T.b 1) (by decide +kernel) (pa_cons (pe_ix ix_list (pv 0) (pe_int) (fun _ _ => rfl)) pa_nil))) (pss_cons (ps_asg (pe_op op_fdiv (pv 2) (pv 1)) (pg_sub (pv 0) (pe_int) set_list)) (pss_one (ps_ret (pe_op op_mod (pe_callTy call_int1 (by rfl) (T.b 1) (by decide +kernel) (pa_cons (pv 2) pa_nil)) (pv 1)))))) (pss_nil)) (pss_cons (ps_set (i := 3) sc54.nd rfl (.inl rfl) (pe_ix ix_list (pv 0) (pe_int) (fun _ _ => rfl))) (pss_cons (ps_asg (pe_op op_add (pv 3) (pe_int)) (pg_sub (pv 0) (pe_int) set_list)) (pss_cons (ps_set (i := 4) sc54.nd rfl (.inl rfl) (pe_op op_add (pe_op op_mul (pe_int) (pv 3)) (pe_int))) (C8.pss_cut (ps_if (pt_cmpR (op_neD hr.units) (pe_ix ix_list (pv 0) (pe_int) (fun _ _ => rfl)) (pe_lst pa_nil) (nomark _)) (pss_one (ps_set (i := 4) sc54.nd rfl (.inl rfl) (pe_ix ix_list (pe_ix ix_list (pv 0) (pe_int) (fun _ _ => rfl)) (pe_op op_mod (pe_callTy call_int1 (by rfl) (T.b 1) (by decide +kernel) (pa_cons (pv 3) pa_nil)) (pe_callB (call_len_seq) (by rfl) (T.b 7) (by decide +kernel) (pa_cons (pe_ix ix_list (pv 0) (pe_int) (fun _ _ => rfl)) pa_nil))) (fun _ _ => rfl)))) (pss_nil)) (C8.pss_cut (ps_if (PW.pt (pw_and (pt_cmpR op_lt (pv 3) (pe_callB (call_len_seq) (by rfl) (T.b 7) (by decide +kernel) (pa_cons (pe_ix ix_list (pv 0) (pe_int) (fun _ _ => rfl)) pa_nil)) (nomark _)) (pw_and1 (pt_cmpR op_ge (pe_callB (call_abs) (by rfl) (T.b 10) (by decide +kernel) (pa_cons (pv 4) pa_nil)) (pe_op op_pow (pe_int) (pe_int)) (nomark _))))) (pss_cons (ps_set (i := 2) sc54.nd rfl (.inl rfl) (pe_op op_add (pe_op op_mul (pe_int) (pe_op op_sub (pe_callB (call_abs) (by rfl) (T.b 10) (by decide +kernel) (pa_cons (pv 4) pa_nil)) (pe_op op_pow (pe_int) (pe_int)))) (pe_callTy call_int1 (by rfl) (T.b 1) (by decide +kernel) (pa_cons (pe_cmpR op_lt (pv 4) (pe_int) (nomark _)) pa_nil)))) (pss_cons (ps_asg (pe_op op_fdiv (pv 2) (pv 1)) (pg_sub (pv 0) (pe_int) set_list)) (pss_one (ps_ret (pe_op op_mod (pe_callTy call_int1 (by rfl) (T.b 1) (by decide +kernel) (pa_cons (pv 2) pa_nil)) (pv 1)))))) (pss_nil)) (pss_cons (ps_set (i := 5) sc54.nd rfl (.inl rfl) (pe_op op_mod (pe_callTy call_int1 (by rfl) (T.b 1) (by decide +kernel) (pa_cons (pe_op op_pow (pe_op op_add (pe_op op_add (pe_op op_mod (pe_callTy call_int1 (by rfl) (T.b 1) (by decide +kernel) (pa_cons (pv 4) pa_nil)) (pe_int)) (pe_op op_mul (pe_int) (pv 3))) (pe_int)) (pe_int)) pa_nil)) (pe_int))) (pss_cons (ps_set (i := 5) sc54.nd rfl (.inl rfl) (pe_op op_mod (pe_callTy call_int1 (by rfl) (T.b 1) (by decide +kernel) (pa_cons (pe_op op_pow (pe_op op_add (pe_op op_add (pe_op op_mul (pv 5) (pe_op op_add (pe_op op_mul (pe_int) (pv 3)) (pe_int))) (pe_op op_mul (pe_op op_mul (pe_int) (pv 3)) (pv 3))) (pe_int)) (pe_int)) pa_nil)) (pe_int))) (pss_one (ps_ret (pe_op op_mod (pe_callTy call_int1 (by rfl) (T.b 1) (by decide +kernel) (pa_cons (pe_op op_fdiv (pv 5) (pe_int)) pa_nil)) (pv 1))))))))))), ?_⟩
  have fin : ∀ (H1 : Hp) (t' : Nat) (r' x : Int), KeptBut v H H1 → H1 v = some (.lst [.ref c, .int (t' : Int), .int r']) → t' ≤ N + 1 → 0 ≤ x → 0 ≤ r' → Q (.int (x % k)) H1 := fun H1 t' r' x kb h1 ht' _ hr' =>
    q H1 _ kb ⟨c, ns, t', r', h1, kb _ _ (ne_of hc hv (Ne.symm iv_ne)) hc, hz, ht', hr'⟩ (Int.emod_nonneg _ (by omega)) (Int.emod_lt_of_pos _ hk0) (fun c' t' e => by rw [h1] at e; cases e; exact ⟨_, hv⟩)
  have kb : ∀ {H1 : Hp} {o : HO}, KeptBut v H H1 → KeptBut v H (L2.upd H1 v o) := fun {H1 o} kb a u na e => by rw [upd_ne na]; exact kb a u na e
  refine ⟨_, rfl, v, _, 2, _, rfl, rfl, SqL.of hv, rfl, _, _, rfl, rfl, _, rfl, ?_⟩
  by_cases hr1 : 0 < r
  · refine ifT (decide_eq_true hr1) ?_
    refine ⟨_, rfl, v, _, 2, _, rfl, rfl, SqL.of hv, rfl, .inl ⟨r, rfl, ?_⟩⟩
    refine ⟨_, rfl, _, rfl, r, k, rfl, rfl, ⟨hk0, by omega⟩, _, rfl, v, _, 2, 2, rfl, rfl, hv, rfl, ?_⟩
    refine ⟨_, rfl, .inl ⟨r, rfl, _, rfl, r, k, rfl, rfl, hk0, ?_⟩⟩
    exact fin _ t (r / k) r (kb (KeptBut.refl H)) upd_same (by omega) hr0 (Int.ediv_nonneg hr0 (by omega))
  refine ifF (decide_eq_false hr1) ?_
  have er : r = 0 := by omega
  subst er
  refine ⟨_, rfl, v, _, 1, _, rfl, rfl, SqL.of hv, rfl, ?_⟩
  refine ⟨_, rfl, t, 1, rfl, rfl, _, rfl, v, _, 1, 1, rfl, rfl, hv, rfl, ?_⟩
  have kb1 := kb (o := .lst ([V.ref c, V.int (t : Int), V.int 0].set 1 (V.int ((t : Int) + 1)))) (KeptBut.refl H)
  have hv1 : (L2.upd H v (.lst ([V.ref c, V.int (t : Int), V.int 0].set 1 (V.int ((t : Int) + 1))))) v = some (.lst [.ref c, .int ((t + 1 : Nat) : Int), .int 0]) := by rw [upd_same]; simp
  have hc1 := kb1 _ _ (ne_of hc hv (Ne.symm iv_ne)) hc
  generalize L2.upd H v (.lst ([V.ref c, V.int (t : Int), V.int 0].set 1 (V.int ((t : Int) + 1)))) = H1 at kb1 hv1 hc1
  refine ⟨_, rfl, 88241, t, rfl, rfl, .inl ⟨by decide, by decide⟩, _, 6043, rfl, rfl, ?_⟩
  -- the cell
  refine ⟨fun σ' H' => ∃ cell : Int, σ' = [some (.ref v), some (.int k), none, some (.int (t : Int)), some (.int cell), none] ∧ KeptBut v H H' ∧ H' v = some (.lst [.ref c, .int ((t + 1 : Nat) : Int), .int 0]) ∧ H' c = some (.lst (iv ns)), ?_, ?_⟩
  · refine ⟨_, rfl, v, _, 0, _, rfl, rfl, SqL.of hv1, rfl, by show 0 ≤ sizeLine; decide, fun l nl => ?_⟩
    have s2 : Same H1 (L2.upd H1 l (.lst [])) := Same.upd nl
    have hl2 : (L2.upd H1 l (.lst [])) l = some (.lst []) := upd_same
    generalize L2.upd H1 l (.lst []) = H2 at s2 hl2
    have hv2 := s2 _ _ hv1
    have hc2 := s2 _ _ hc1
    have kb2 : KeptBut v H H2 := kb1.trans (kb_same s2)
    refine ⟨.list (dIs ns), .list (dIs []), .lst (SqL.of hc2) (dIs_dp K _ _), .lst (SqL.of hl2) .nil, lstI_shaped _, lstI_shaped [], ?_⟩
    rw [eqv_lstI]
    refine ⟨_, rfl, ?_⟩
    by_cases hn : ns = []
    · exact ifF (by rw [hn]; rfl) ⟨_, rfl, kb2, hv2, hc2⟩
    refine ifT (by rw [decide_eq_false hn]; rfl) ?_
    have hlen : 0 < ns.length := List.length_pos_iff.mpr hn
    refine ⟨_, rfl, v, _, 0, _, rfl, rfl, SqL.of hv2, rfl, ?_⟩
    refine ⟨_, rfl, .inl ⟨(t : Int), rfl, ?_⟩⟩
    refine ⟨_, rfl, v, _, 0, _, rfl, rfl, SqL.of hv2, rfl, c, _, rfl, .inl (SqL.of hc2), _, _, rfl, rfl, ?_, ?_⟩
    · show (0 : Int) < ((iv ns).length : Int)
      rw [List.length_map]; omega
    have e : (t : Int) % ((iv ns).length : Int) = ((t % ns.length : Nat) : Int) := by rw [List.length_map]; exact (Int.natCast_emod t ns.length).symm
    have hm : t % ns.length < ns.length := Nat.mod_lt _ hlen
    refine ⟨c, _, _, .int (ns.getD (t % ns.length) 0), rfl, rfl, SqL.of hc2, ?_, ns.getD (t % ns.length) 0, rfl, kb2, hv2, hc2⟩
    show atI (iv ns) ((t : Int) % ((iv ns).length : Int)) = _
    rw [e]; exact iv_at hm
  · rintro σ' H2 ⟨cell, rfl, kb2, hv2, hc2⟩
    refine ⟨fun σ' H' => σ' = [some (.ref v), some (.int k), none, some (.int (t : Int)), some (.int cell), none] ∧ H' = H2, ?_, ?_⟩
    · refine ⟨_, rfl, _, rfl, v, _, 0, _, rfl, rfl, SqL.of hv2, rfl, c, _, rfl, .inl (SqL.of hc2), _, _, rfl, rfl, _, rfl, ?_⟩
      by_cases h1 : (t : Int) < ((iv ns).length : Int)
      · refine ifT (decide_eq_true h1) ?_
        refine ⟨_, rfl, cell, rfl, 10, 18, rfl, rfl, ⟨by decide, by decide, by decide⟩, _, _, rfl, rfl, _, rfl, ?_⟩
        by_cases h2 : (10 : Int) ^ (18 : Int).toNat ≤ (if cell < 0 then -cell else cell)
        · refine ifT (decide_eq_true h2) ?_
          have hx : 0 ≤ (if cell < 0 then -cell else cell) - (10 : Int) ^ (18 : Int).toNat := by omega
          have fx : ∀ (z : Int), (0 ≤ z ∧ z ≤ 1) → 0 ≤ 2 * ((if cell < 0 then -cell else cell) - (10 : Int) ^ (18 : Int).toNat) + z := fun z hz => by omega
          refine ⟨_, rfl, cell, rfl, 10, 18, rfl, rfl, ⟨by decide, by decide, by decide⟩, _, _, rfl, rfl, 2, _, rfl, rfl, .inl ⟨by decide, by decide⟩, ?_⟩
          refine ⟨_, rfl, cell, 0, rfl, rfl, .inr ⟨_, rfl, _, _, rfl, rfl, ?_⟩⟩
          have hb : (0 : Int) ≤ (if decide (cell < 0) = true then 1 else 0) ∧ (if decide (cell < 0) = true then (1 : Int) else 0) ≤ 1 := by split <;> omega
          have hy := fx _ hb
          refine ⟨_, rfl, _, rfl, _, k, rfl, rfl, ⟨hk0, by omega⟩, _, rfl, v, _, 2, 2, rfl, rfl, hv2, rfl, ?_⟩
          refine ⟨_, rfl, .inl ⟨_, rfl, _, rfl, _, k, rfl, rfl, hk0, ?_⟩⟩
          exact fin _ (t + 1) _ _ (kb kb2) upd_same (by omega) hy (Int.ediv_nonneg hy (by omega))
        · exact ifF (decide_eq_false h2) ⟨rfl, rfl⟩
      · exact ifF (decide_eq_false h1) ⟨rfl, rfl⟩
    · rintro σ' H' ⟨rfl, rfl⟩
      have hn : (0 : Int) ≤ t ∧ (t : Int) ≤ 100000 := by omega
      have hm1 : 0 ≤ cell % 2147483563 ∧ cell % 2147483563 < 2147483563 := ⟨Int.emod_nonneg _ (by decide), Int.emod_lt_of_pos _ (by decide)⟩
      refine ⟨_, rfl, .inl ⟨cell, rfl, cell, _, rfl, rfl, by show (0 : Int) < 2147483563; decide, ?_⟩⟩
      refine ⟨_, rfl, 51347, t, rfl, rfl, .inl ⟨by decide, by decide⟩, _, _, rfl, rfl, _, _, rfl, rfl, _, 5, rfl, rfl, ⟨by decide, by decide, by omega⟩, .inl ⟨_, rfl, _, _, rfl, rfl, by show (0 : Int) < 2147483587; decide, ?_⟩⟩
      obtain ⟨M, hM⟩ : ∃ M : Int, ((cell % 2147483563 + 51347 * (t : Int) + 6043) ^ (5 : Int).toNat) % 2147483587 = M := ⟨_, rfl⟩
      have hm2 : 0 ≤ M ∧ M < 2147483587 := by rw [← hM]; exact ⟨Int.emod_nonneg _ (by decide), Int.emod_lt_of_pos _ (by decide)⟩
      have p1 : 0 ≤ M * (2 * (t : Int) + 3229) ∧ M * (2 * (t : Int) + 3229) ≤ 2147483587 * 203229 := ⟨Int.mul_nonneg (by omega) (by omega), Int.mul_le_mul (by omega) (by omega) (by omega) (by omega)⟩
      have p2 : 0 ≤ 88241 * (t : Int) * (t : Int) ∧ 88241 * (t : Int) * (t : Int) ≤ 8824100000 * 100000 := ⟨Int.mul_nonneg (by omega) (by omega), Int.mul_le_mul (by omega) (by omega) (by omega) (by omega)⟩
      refine ⟨_, rfl, _, rfl, 2, t, rfl, rfl, .inl ⟨by decide, by decide⟩, _, _, rfl, rfl, M, _, congrArg V.int hM, rfl, .inl ⟨by omega, by omega⟩, ?_⟩
      refine ⟨_, rfl, 88241, t, rfl, rfl, .inl ⟨by decide, by decide⟩, _, rfl, _, t, rfl, rfl, .inl ⟨by omega, by omega⟩, _, _, rfl, rfl, _, _, rfl, rfl, _, 3, rfl, rfl, ⟨by decide, by decide, by omega⟩, .inl ⟨_, rfl, _, _, rfl, rfl, by show (0 : Int) < 2147483579; decide, ?_⟩⟩
      have hm3 : 0 ≤ ((M * (2 * (t : Int) + 3229) + 88241 * (t : Int) * (t : Int) + 51347) ^ (3 : Int).toNat) % 2147483579 := Int.emod_nonneg _ (by decide)
      refine ⟨_, rfl, _, 64, rfl, rfl, ⟨by decide, by decide⟩, .inl ⟨_, rfl, _, rfl, _, k, rfl, rfl, hk0, ?_⟩⟩
      exact fin _ (t + 1) 0 _ kb2 hv2 (by omega) (Int.ediv_nonneg hm3 (by decide)) (Int.le_refl _)
end
end K31
namespace K31
open PySem PySem.Spec PyProof.Rows L2
theorem catA_of {K : PySem.W.Frag} {H : Hp} {a b : Addr} {xs ys : List V} {Q : VK} (ha : SqT K H a xs) (hb : SqT K H b ys) (hz : xs.length + ys.length ≤ sizeLine) (q : ∀ H' p, Same H H' → SqT K H' p (xs ++ ys) → Q (.ref p) H') : rCatA K (.ref a) (.ref b) H Q := by
  refine ⟨a, b, xs, ys, rfl, rfl, ha, hb, hz, fun e => ?_, fun _ e => ?_, fun _ _ p np => q _ p (Same.upd np) (SqT.of upd_same)⟩
  · subst e; exact q H b (Same.refl H) hb
  · subst e
    refine q H a (Same.refl H) ?_
    rw [List.append_nil]; exact ha
theorem slA_tk {K : PySem.W.Frag} {H : Hp} {a : Addr} {xs : List V} {lo hi : Option Int} {Q : VK} (h : H a = some (.tup xs)) (q : ∀ H' p, Same H H' → H' p = some (.tup (cutV xs lo hi)) → Q (.ref p) H') : rSlA K (.ref a) lo hi H Q := by
  refine ⟨a, xs, rfl, SqT.of h, fun hw => ?_, fun hw p np => q _ p (Same.upd np) upd_same⟩
  refine q H a (Same.refl H) ?_
  have e : cutV xs lo hi = xs := by
    unfold cutV
    rw [hw.1, hw.2]
    simp
  rw [e]; exact h
theorem catA_tk {K : PySem.W.Frag} {H : Hp} {a b : Addr} {xs ys : List V} {Q : VK} (ha : H a = some (.tup xs)) (hb : H b = some (.tup ys)) (hz : xs.length + ys.length ≤ sizeLine) (q : ∀ H' p, Same H H' → H' p = some (.tup (xs ++ ys)) → Q (.ref p) H') : rCatA K (.ref a) (.ref b) H Q := by
  refine ⟨a, b, xs, ys, rfl, rfl, SqT.of ha, SqT.of hb, hz, fun e => ?_, fun _ e => ?_, fun _ _ p np => q _ p (Same.upd np) upd_same⟩
  · subst e; exact q H b (Same.refl H) hb
  · subst e
    refine q H a (Same.refl H) ?_
    rw [List.append_nil]; exact ha
section
variable {P : Program} {w : World} {K : PySem.W.Frag} {mg : Str → Option Value} {base : Heap}
/-! ### _law_pick -/
def spPick : Sp := fun vs H Q _ => ∃ (v l : Addr) (xs : List V) (N : Nat), vs = [.ref v, .ref l] ∧ Vat N H v ∧ N ≤ 100000 ∧ l ≠ v ∧ H l = some (.lst xs) ∧ 0 < xs.length ∧ xs.length < 1000 ∧ ∀ H' x, KeptBut v H H' → Vat (N + 1) H' v → x ∈ xs → Q x H'
theorem sc55 : FnScope ["_law_vat_here", "_law_some"] ["_law_vat_here", "_law_some"] (defScope (top 55)) := ⟨rfl, rfl, rfl, by decide +kernel, rfl, by decide +kernel, by decide +kernel⟩
theorem c_pick (T : Tx K mg) : C8.Cal P w K mg base 2 "_law_pick" spPick [] := by
  refine calD (T.w 2) sc55 (fun kV doc pm an cdv ct us hl => match us, hl with | [_, _], _ => rfl) (fun vs H Q E h => ?_) fun cdv A outer s H vs Q E hr h => ?_
  · obtain ⟨v, l, xs, N, rfl, _⟩ := h; rfl
  obtain ⟨v, l, xs, N, rfl, hv, hN, ne, hl, h0, h1, q⟩ := h
  refine ⟨_, pss_one (ps_ret (pe_ix ix_list (pv 1) (C8.pe_c (c_scoop T) hr (by decide) rfl (pa_cons (pv 0) (pa_cons (pe_callB (call_len_seq) (by rfl) (T.b 7) (by decide +kernel) (pa_cons (pv 1) pa_nil)) pa_nil))) (fun _ _ => rfl))), ?_⟩
  refine ⟨_, rfl, _, rfl, _, rfl, l, xs, rfl, .inl (SqL.of hl), v, (xs.length : Int), N, rfl, hv, hN, by omega, by omega, fun H' z kb hv' z0 z1 _ => ?_⟩
  have hz : z.toNat < xs.length := by omega
  refine ⟨l, xs, z, xs[z.toNat], rfl, rfl, SqL.of (kb _ _ ne hl), ?_, q H' _ kb hv' (List.getElem_mem hz)⟩
  have e : ((z.toNat : Nat) : Int) = z := by omega
  have := atI_nat (xs := xs) (j := z.toNat) (v := xs[z.toNat]) (by rw [List.getElem?_eq_getElem hz])
  rw [e] at this
  exact this
/-! ### _law_exchanged -/
def spExch : Sp := fun vs H Q _ => ∃ (a : Addr) (b : List Int) (p : Nat), vs = [.ref a, .int (p : Int)] ∧ H a = some (.lst (iv b)) ∧ b.length = 4 ∧ p < 4 ∧ ∀ H' q, Same H H' → H q = none → H' q = some (.lst (iv (exch b p))) → Q (.ref q) H'
theorem sc56 : FnScope ["_law_bends", "_law_place", "_law_found"] ["_law_bends", "_law_place"] (defScope (top 56)) := ⟨rfl, rfl, rfl, by decide +kernel, rfl, by decide +kernel, by decide +kernel⟩
theorem ix4 {b : List Int} {p : Nat} (h : b.length = 4) (hp : p < 4) : ixN (iv b).length (p : Int) = some p := by
  unfold ixN
  rw [List.length_map, h, if_pos (by omega), if_pos (by omega)]
  simp
theorem iv_set (b : List Int) (p : Nat) (y : Int) : (iv b).set p (.int y) = iv (b.set p y) := by
  show (b.map V.int).set p (.int y) = (b.set p y).map V.int
  rw [List.map_set]
theorem c_exch (T : Tx K mg) : C8.Cal P w K mg base 1 "_law_exchanged" spExch [] := by
  refine calD (T.w 3) sc56 (fun kV doc pm an cdv ct us hl => match us, hl with | [_, _], _ => rfl) (fun vs H Q E h => ?_) fun cdv A outer s H vs Q E hr h => ?_
  · obtain ⟨a, b, p, rfl, _⟩ := h; rfl
  obtain ⟨a, b, p, rfl, ha, hb, hp, q⟩ := h
  refine ⟨_, pss_cons (ps_set (i := 2) sc56.nd rfl (.inl rfl) (pe_callTy call_list_of (by rfl) (T.b 6) (by decide +kernel) (pa_cons (pv 0) pa_nil))) (pss_cons (ps_asg (pe_op op_sub (pe_op op_mul (pe_int) (pe_callB (cr_sum rfl) (by rfl) (T.b 4) (by decide +kernel) (pa_cons (pv 0) pa_nil))) (pe_op op_mul (pe_int) (pe_ix ix_list (pv 0) (pv 1) (fun _ _ => rfl)))) (pg_sub (pv 2) (pv 1) set_list)) (pss_one (ps_ret (pv 2)))), ?_⟩
  refine ⟨_, rfl, a, _, rfl, .inl (SqL.of ha), fun l nl => ?_⟩
  have s1 : Same H (L2.upd H l (.lst (iv b))) := Same.upd nl
  have ha1 := s1 _ _ ha
  have hl1 : (L2.upd H l (.lst (iv b))) l = some (.lst (iv b)) := upd_same
  generalize L2.upd H l (.lst (iv b)) = H1 at s1 ha1 hl1
  refine ⟨_, rfl, a, b, rfl, SqL.of ha1, 2, _, rfl, rfl, .inl ⟨by decide, by decide⟩, _, rfl, _, rfl, a, _, _, _, rfl, rfl, SqL.of ha1, iv_at (by omega), 3, _, rfl, rfl, .inl ⟨by decide, by decide⟩, _, _, rfl, rfl, ?_⟩
  refine ⟨_, rfl, _, rfl, l, _, _, p, rfl, rfl, hl1, ix4 hb hp, _, rfl, q _ l (fun c o z => ?_) nl ?_⟩
  · rw [upd_ne (ne_of_none z nl)]; exact s1 _ _ z
  · rw [upd_same]
    exact congrArg (fun z => some (HO.lst z)) (iv_set b p _)
/-! ### _law_turned -/
def addV (z : Int) : V → V
  | .int n => .int (n + z)
  | v => v
def spTurned : Sp := fun vs H Q _ => ∃ (a : Addr) (b : List Int) (p : Nat), vs = [.ref a, .int (p : Int)] ∧ H a = some (.lst (iv b)) ∧ b.length = 4 ∧ p < 4 ∧ ∀ H' q, Same H H' → H q = none → H' q = some (.lst (iv (turn b p))) → Q (.ref q) H'
theorem sc57 : FnScope ["_law_bends", "_law_place", "_law_found", "_law_bend"] ["_law_bends", "_law_place"] (defScope (top 57)) := ⟨rfl, rfl, rfl, by decide +kernel, rfl, by decide +kernel, by decide +kernel⟩
theorem c_turned (T : Tx K mg) : C8.Cal P w K mg base 1 "_law_turned" spTurned [] := by
  refine calD (T.w 4) sc57 (fun kV doc pm an cdv ct us hl => match us, hl with | [_, _], _ => rfl) (fun vs H Q E h => ?_) fun cdv A outer s H vs Q E hr h => ?_
  · obtain ⟨a, b, p, rfl, _⟩ := h; rfl
  obtain ⟨a, b, p, rfl, ha, hb, hp, q⟩ := h
  refine ⟨_, pss_cons (ps_setLc (i := 2) (own := [("_law_bend", 3)]) (g := gName 3) (tt := tYes) rfl sc57.nd rfl rfl (sw_true rfl rfl rfl (by decide +kernel)) (pi_list (pv 0)) (blkOk_by (N := ["_law_bends", "_law_place", "_law_found", "_law_bend"]) (sc := defScope (top 57)) (by decide +kernel)) (fun _ _ _ _ _ => pg_name (i := 3) sc57.nd rfl (.inl rfl)) (fun _ _ _ _ _ => pts_nil) (fun _ _ _ _ _ => pe_op op_add (pv 3) (pe_op op_mul (pe_int) (pe_ix (show IxR _ (rIxL K) from ix_list) (pv 0) (pv 1) (fun _ _ => rfl))))) (pss_cons (ps_asg (pe_un un_neg (pe_ix ix_list (pv 0) (pv 1) (fun _ _ => rfl))) (pg_sub (pv 2) (pv 1) set_list)) (pss_one (ps_ret (pv 2)))), ?_⟩
  refine ⟨_, rfl, a, rfl, ⟨_, SqL.of ha⟩, fun D nD => ?_⟩
  refine lc_list_g 3 (fun _ => true) (fun _ x y => y = addV (2 * b.getD p 0) x) (fun _ _ _ _ _ h => h) (fun _ _ _ _ _ _ h => h) (by rw [List.length_map]; omega) nD (SqL.of ha) (fun x => rfl) (fun x hx H' s Q' z => z H' (Same.refl _)) (fun x hx _ H' s Q' z => ?_) (fun H2 ys s2 hy rr => ?_)
  · obtain ⟨n, hn, rfl⟩ := List.mem_map.mp hx
    exact ⟨_, rfl, _, rfl, _, rfl, a, _, _, _, rfl, rfl, SqL.of (s _ _ ha), iv_at (by omega), 2, _, rfl, rfl, .inl ⟨by decide, by decide⟩, _, _, rfl, rfl, z _ _ (Same.refl _) rfl⟩
  have e : ys = iv (b.map fun x => x + 2 * b.getD p 0) := by
    have := Paired.eq_map rr
    rw [List.filter_eq_self.mpr (fun _ _ => rfl)] at this
    rw [this]
    show (b.map V.int).map _ = (b.map _).map V.int
    rw [List.map_map, List.map_map]; rfl
  subst e
  have ha2 := s2 _ _ ha
  refine ⟨_, rfl, _, rfl, a, _, _, _, rfl, rfl, SqL.of ha2, iv_at (by omega), _, rfl, ?_⟩
  refine ⟨_, rfl, _, rfl, D, _, _, p, rfl, rfl, hy, ix4 (by rw [List.length_map]; exact hb) hp, _, rfl, q _ D (fun c o z => ?_) nD ?_⟩
  · rw [upd_ne (ne_of_none z nD)]; exact s2 _ _ z
  · rw [upd_same]
    exact congrArg (fun z => some (HO.lst z)) (iv_set _ p _)
/-! ### _law_row -/
def spLRow : Sp := fun vs H Q _ => ∃ (a : Addr) (b : List Int) (m : Int), vs = [.ref a, .int m] ∧ (H a = some (.lst (iv b)) ∨ H a = some (.tup (iv b))) ∧ b.length ≤ 1000 ∧ 0 < m ∧ ∀ H' p, Same H H' → H' p = some (.tup (iv (R b m))) → Q (.ref p) H'
theorem sc59 : FnScope ["_law_bends", "_law_modulus", "_law_bend"] ["_law_bends", "_law_modulus"] (defScope (top 59)) := ⟨rfl, rfl, rfl, by decide +kernel, rfl, by decide +kernel, by decide +kernel⟩
theorem c_lrow (T : Tx K mg) : C8.Cal P w K mg base 1 "_law_row" spLRow [] := by
  refine calD (T.w 6) sc59 (fun kV doc pm an cdv ct us hl => match us, hl with | [_, _], _ => rfl) (fun vs H Q E h => ?_) fun cdv A outer s H vs Q E hr h => ?_
  · obtain ⟨a, b, m, rfl, _⟩ := h; rfl
  obtain ⟨a, b, m, rfl, ha, hz, hm, q⟩ := h
  refine ⟨_, pss_one (ps_ret (pe_callTy call_tuple_of (by rfl) (T.b 5) (by decide +kernel) (pa_cons (pe_lc (own := [("_law_bend", 2)]) (g := gName 2) (tt := tYes) rfl sc59.nd (pi_or (pi_list (pv 0)) (pi_tup (pv 0))) (blkOk_by (N := ["_law_bends", "_law_modulus", "_law_bend"]) (sc := defScope (top 59)) (by decide +kernel)) (fun _ _ _ _ _ => pg_name (i := 2) sc59.nd rfl (.inl rfl)) (fun _ _ _ _ _ => pts_nil) (fun _ _ _ _ _ => pe_op op_mod (pe_callTy call_int1 (by rfl) (T.b 1) (by decide +kernel) (pa_cons (pv 2) pa_nil)) (pv 1))) pa_nil))), ?_⟩
  have he : ∀ x ∈ iv b, ∀ (σ : L2.St) (H' : Hp) (Q' : VK), σ[2]? = some (some x) → σ[1]? = some (some (.int m)) → (∀ y, y = modV m x → Q' y H') → tOp (rI (fun _ j => 0 < j) fun i j => .int (i % j)) (tCB (fun xs H Q => (∃ i, xs = [.int i] ∧ Q (.int i) H) ∨ ∃ k, xs = [.bl k] ∧ Q (.int (if k then 1 else 0)) H) (tCons (tVar 2) tNil)) (tVar 1) σ H' Q' := fun x hx σ H' Q' e1 e2 z => by
    obtain ⟨n, hn, rfl⟩ := List.mem_map.mp hx
    exact ⟨_, e1, .inl ⟨n, rfl, _, e2, n, m, rfl, rfl, hm, z _ rfl⟩⟩
  have fin : ∀ (D : Addr) (H2 : Hp) (ys : List V), Same H H2 → H2 D = some (.lst ys) → Paired (fun x y => y = modV m x) ((iv b).filter fun _ => true) ys → ∃ (p : Addr) (xs : List V), [V.ref D] = [V.ref p] ∧ ((SqL K H2 p xs ∧ ∀ l, H2 l = none → Q (.ref l) (L2.upd H2 l (.tup xs))) ∨ (SqT K H2 p xs ∧ Q (.ref p) H2)) := fun D H2 ys s2 hy rr => by
    have e : ys = iv (R b m) := by
      have := Paired.eq_map rr
      rw [List.filter_eq_self.mpr (fun _ _ => rfl)] at this
      rw [this, modV_map]
    subst e
    exact ⟨D, _, rfl, .inl ⟨SqL.of hy, fun l nl => q _ l (s2.trans (Same.upd nl)) upd_same⟩⟩
  have hz' : (iv b).length ≤ 2000000 := by rw [List.length_map]; omega
  rcases ha with ha | ha
  · refine .inl ⟨_, rfl, a, rfl, ⟨_, SqL.of ha⟩, fun D nD => ?_⟩
    exact lc_list_g 2 (fun _ => true) (fun _ x y => y = modV m x) (fun _ _ _ _ _ h => h) (fun _ _ _ _ _ _ h => h) hz' nD (SqL.of ha) (fun x => rfl) (fun x hx H' s Q' z => z H' (Same.refl _)) (fun x hx _ H' s Q' z => he x hx _ _ _ rfl rfl fun y ey => z _ _ (Same.refl _) ey) (fun H2 ys s2 hy rr => fin D H2 ys s2 hy rr)
  · refine .inr ⟨_, rfl, a, rfl, ⟨_, SqT.of ha⟩, fun D nD => ?_⟩
    exact lc_tup_g 2 (fun _ => true) (fun _ x y => y = modV m x) (fun _ _ _ _ _ h => h) (fun _ _ _ _ _ _ h => h) hz' nD (SqT.of ha) (fun x => rfl) (fun x hx H' s Q' z => z H' (Same.refl _)) (fun x hx _ H' s Q' z => he x hx _ _ _ rfl rfl fun y ey => z _ _ (Same.refl _) ey) (fun H2 ys s2 hy rr => fin D H2 ys s2 hy rr)
/-! ### _law_next -/
theorem sc60 : FnScope ["_law_row_here", "_law_place", "_law_modulus"] ["_law_row_here", "_law_place", "_law_modulus"] (defScope (top 60)) := ⟨rfl, rfl, rfl, by decide +kernel, rfl, by decide +kernel, by decide +kernel⟩
def spNext : Sp := fun vs H Q _ => ∃ (a : Addr) (r : List Int) (p : Nat) (m : Int), vs = [.ref a, .int (p : Int), .int m] ∧ H a = some (.tup (iv r)) ∧ r.length = 4 ∧ p < 4 ∧ 0 < m ∧ ∀ H' q, Same H H' → H' q = some (.tup (iv (nx m r p))) → Q (.ref q) H'
theorem c_next (T : Tx K mg) : C8.Cal P w K mg base 1 "_law_next" spNext [] := by
  refine calD (T.w 7) sc60 (fun kV doc pm an cdv ct us hl => match us, hl with | [_, _, _], _ => rfl) (fun vs H Q E h => ?_) fun cdv A outer s H vs Q E hr h => ?_
  · obtain ⟨a, r, p, m, rfl, _⟩ := h; rfl
  obtain ⟨a, r, p, m, rfl, ha, hl, hp, hm, q⟩ := h
  refine ⟨_, pss_one (ps_ret (pe_op op_catA (pe_op op_catA (pe_slice sl_tupA (pv 0) po_none (po_some (pv 1))) (pe_tup (pa_cons (pe_op op_mod (pe_callTy call_int1 (by rfl) (T.b 1) (by decide +kernel) (pa_cons (pe_op op_sub (pe_op op_mul (pe_int) (pe_callB (cr_sumT rfl) (by rfl) (T.b 4) (by decide +kernel) (pa_cons (pv 0) pa_nil))) (pe_op op_mul (pe_int) (pe_ix ix_tup (pv 0) (pv 1) (fun _ _ => rfl)))) pa_nil)) (pv 2)) pa_nil))) (pe_slice sl_tupA (pv 0) (po_some (pe_op op_add (pv 1) (pe_int))) po_none))), ?_⟩
  have e1 : cutV (iv r) none (some (p : Int)) = iv (r.take p) := by rw [cutV_to]; exact List.map_take.symm
  have e2 : cutV (iv r) (some ((p : Int) + 1)) none = iv (r.drop (p + 1)) := by
    have : (p : Int) + 1 = ((p + 1 : Nat) : Int) := by omega
    rw [this, cutV_from]; exact List.map_drop.symm
  have e3 := nx_eq (m := m) hl hp
  refine ⟨_, rfl, _, rfl, _, rfl, slA_tk ha fun H1 p1 s1 h1 => ?_⟩
  rw [e1] at h1
  have ha1 := s1 _ _ ha
  refine ⟨_, rfl, a, r, rfl, SqT.of ha1, 2, _, rfl, rfl, .inl ⟨by decide, by decide⟩, _, rfl, _, rfl, a, _, _, _, rfl, rfl, SqT.of ha1, iv_at (by omega), 3, _, rfl, rfl, .inl ⟨by decide, by decide⟩, _, _, rfl, rfl, .inl ⟨_, rfl, _, rfl, _, m, rfl, rfl, hm, by show 1 ≤ sizeLine; decide, fun t nt => ?_⟩⟩
  have s2 : Same H1 (L2.upd H1 t (.tup [V.int ((2 * r.sum - 3 * r.getD p 0) % m)])) := Same.upd nt
  have ht : (L2.upd H1 t (.tup [V.int ((2 * r.sum - 3 * r.getD p 0) % m)])) t = some (.tup [V.int ((2 * r.sum - 3 * r.getD p 0) % m)]) := upd_same
  show rCatA _ (.ref p1) (.ref t) (L2.upd H1 t (.tup [V.int ((2 * r.sum - 3 * r.getD p 0) % m)])) _
  generalize L2.upd H1 t (.tup [V.int ((2 * r.sum - 3 * r.getD p 0) % m)]) = H2 at s2 ht
  have l1 : (r.take p).length ≤ 4 := by rw [List.length_take]; omega
  have l2 : (r.drop (p + 1)).length ≤ 4 := by rw [List.length_drop]; omega
  refine catA_tk (s2 _ _ h1) ht (by rw [List.length_map, sizeLine_eq]; simp; omega) fun H3 p3 s3 h3 => ?_
  have ha3 := s3 _ _ (s2 _ _ ha1)
  refine ⟨_, rfl, _, rfl, _, _, rfl, rfl, _, rfl, ?_⟩
  dsimp only [tNoPart]
  refine slA_tk ha3 fun H4 p4 s4 h4 => ?_
  rw [e2] at h4
  refine catA_tk (s4 _ _ h3) h4 ?_ fun H5 p5 s5 h5 => ?_
  · rw [List.length_append, List.length_map, List.length_map, sizeLine_eq]; simp; omega
  have e5 : iv (r.take p) ++ [V.int ((2 * r.sum - 3 * r.getD p 0) % m)] ++ iv (r.drop (p + 1)) = iv (nx m r p) := by rw [List.append_assoc]; exact e3
  rw [e5] at h5
  exact q H5 p5 (((s1.trans s2).trans s3).trans (s4.trans s5)) h5
end
end K31
namespace K31
open PySem PySem.Spec PyProof.Rows L2
section
variable {P : Program} {w : World} {K : PySem.W.Frag} {mg : Str → Option Value} {base : Heap}
/-! ### _law_drawn -/
theorem p7 {a b : Nat} (h : a ≤ b) : (7 : Int) ^ a ≤ 7 ^ b := by
  have := Nat.pow_le_pow_right (n := 7) (by decide) h
  exact_mod_cast this
def spDrawn : Sp := fun vs H Q _ => ∃ (v : Addr) (N : Nat), vs = [.ref v] ∧ Vat N H v ∧ N ≤ 90000 ∧ ∀ H' a b, KeptBut v H H' → Vat (N + 40) H' v → H a = none → H' a = some (.lst (iv b)) → Fb b → Q (.ref a) H'
abbrev n58 : List Str := ["_law_vat_here", "_law_bends", "_law_turn", "_law_letter", "_law_place"]
theorem sc58 : FnScope n58 ["_law_vat_here"] (defScope (top 58)) := ⟨rfl, rfl, rfl, by decide +kernel, rfl, by decide +kernel, by decide +kernel⟩
theorem c_drawn (T : Tx K mg) : C8.Cal P w K mg base 3 "_law_drawn" spDrawn [] := by
  refine calD (T.w 5) sc58 (fun kV doc pm an cdv ct us hl => match us, hl with | [_], _ => rfl) (fun vs H Q E h => ?_) fun cdv A outer s H vs Q E hr h => ?_
  · obtain ⟨v, N, rfl, _⟩ := h; rfl
  obtain ⟨v, N, rfl, hv, hN, q⟩ := h
  refine ⟨_, pss_cons (ps_set (i := 1) sc58.nd rfl (.inl rfl) (pe_callTy call_list_of (by rfl) (T.b 6) (by decide +kernel) (pa_cons (C8.pe_c (c_pick T) hr (by decide) rfl (pa_cons (pv 0) (pa_cons (pe_lst (pa_cons (pe_tup (pa_cons (pe_int) (pa_cons (pe_int) (pa_cons (pe_int) (pa_cons (pe_int) pa_nil))))) (pa_cons (pe_tup (pa_cons (pe_int) (pa_cons (pe_int) (pa_cons (pe_int) (pa_cons (pe_int) pa_nil))))) (pa_cons (pe_tup (pa_cons (pe_int) (pa_cons (pe_int) (pa_cons (pe_int) (pa_cons (pe_int) pa_nil))))) (pa_cons (pe_tup (pa_cons (pe_int) (pa_cons (pe_int) (pa_cons (pe_int) (pa_cons (pe_int) pa_nil))))) pa_nil))))) pa_nil))) pa_nil))) (pss_cons (ps_for PassesOwn.never rfl (pi_range1 rfl (T.b 9) (pa_cons (C8.pe_c (c_scoop T) hr (by decide) rfl (pa_cons (pv 0) (pa_cons (pe_int) pa_nil))) pa_nil)) (pg_name (i := 2) sc58.nd rfl (.inl rfl)) (pss_cons (ps_for PassesOwn.never rfl (pi_range1 rfl (T.b 9) (pa_cons (C8.pe_c (c_scoop T) hr (by decide) rfl (pa_cons (pv 0) (pa_cons (pe_int) pa_nil))) pa_nil)) (pg_name (i := 3) sc58.nd rfl (.inl rfl)) (pss_one (ps_set (i := 1) sc58.nd rfl (.inl rfl) (C8.pe_c (c_exch T) hr (by decide) rfl (pa_cons (pv 1) (pa_cons (C8.pe_c (c_scoop T) hr (by decide) rfl (pa_cons (pv 0) (pa_cons (pe_int) pa_nil))) pa_nil)))))) (pss_cons (ps_set (i := 4) sc58.nd rfl (.inl rfl) (C8.pe_c (c_scoop T) hr (by decide) rfl (pa_cons (pv 0) (pa_cons (pe_int) pa_nil)))) (pss_one (ps_if (pt_cmpR op_gt (pe_ix ix_list (pv 1) (pv 4) (fun _ _ => rfl)) (pe_int) (nomark _)) (pss_one (ps_set (i := 1) sc58.nd rfl (.inl rfl) (C8.pe_c (c_turned T) hr (by decide) rfl (pa_cons (pv 1) (pa_cons (pv 4) pa_nil))))) (pss_nil)))))) (pss_one (ps_ret (pv 1)))), ?_⟩
  refine ⟨_, rfl, by show 4 ≤ sizeLine; decide, fun p1 n1 => ?_⟩
  have s1 : Same H (L2.upd H p1 (.tup [V.int 0, V.int 0, V.int 1, V.int 1])) := Same.upd n1
  have e1 : (L2.upd H p1 (.tup [V.int 0, V.int 0, V.int 1, V.int 1])) p1 = some (.tup [V.int 0, V.int 0, V.int 1, V.int 1]) := upd_same
  generalize L2.upd H p1 (.tup [V.int 0, V.int 0, V.int 1, V.int 1]) = H1 at s1 e1
  refine ⟨by show 4 ≤ sizeLine; decide, fun p2 n2 => ?_⟩
  have s2 : Same H1 (L2.upd H1 p2 (.tup [V.int 1, V.int 0, V.int 0, V.int 1])) := Same.upd n2
  have e2 : (L2.upd H1 p2 (.tup [V.int 1, V.int 0, V.int 0, V.int 1])) p2 = some (.tup [V.int 1, V.int 0, V.int 0, V.int 1]) := upd_same
  generalize L2.upd H1 p2 (.tup [V.int 1, V.int 0, V.int 0, V.int 1]) = H2 at s2 e2
  refine ⟨by show 4 ≤ sizeLine; decide, fun p3 n3 => ?_⟩
  have s3 : Same H2 (L2.upd H2 p3 (.tup [V.int 0, V.int 1, V.int 0, V.int 1])) := Same.upd n3
  have e3 : (L2.upd H2 p3 (.tup [V.int 0, V.int 1, V.int 0, V.int 1])) p3 = some (.tup [V.int 0, V.int 1, V.int 0, V.int 1]) := upd_same
  generalize L2.upd H2 p3 (.tup [V.int 0, V.int 1, V.int 0, V.int 1]) = H3 at s3 e3
  refine ⟨by show 4 ≤ sizeLine; decide, fun p4 n4 => ?_⟩
  have s4 : Same H3 (L2.upd H3 p4 (.tup [V.int 1, V.int 1, V.int 0, V.int 0])) := Same.upd n4
  have e4 : (L2.upd H3 p4 (.tup [V.int 1, V.int 1, V.int 0, V.int 0])) p4 = some (.tup [V.int 1, V.int 1, V.int 0, V.int 0]) := upd_same
  generalize L2.upd H3 p4 (.tup [V.int 1, V.int 1, V.int 0, V.int 0]) = H4 at s4 e4
  refine ⟨by show 4 ≤ sizeLine; decide, fun l nl => ?_⟩
  have s5 : Same H4 (L2.upd H4 l (.lst [V.ref p1, V.ref p2, V.ref p3, V.ref p4])) := Same.upd nl
  have e5 : (L2.upd H4 l (.lst [V.ref p1, V.ref p2, V.ref p3, V.ref p4])) l = some (.lst [V.ref p1, V.ref p2, V.ref p3, V.ref p4]) := upd_same
  generalize L2.upd H4 l (.lst [V.ref p1, V.ref p2, V.ref p3, V.ref p4]) = H5 at s5 e5
  have S5 := (((s1.trans s2).trans s3).trans s4).trans s5
  have nv : ∀ {a : Addr}, H a = none → a ≠ v := fun {a} z e => by obtain ⟨c, _, _, _, hc, _⟩ := hv; rw [e, hc] at z; cases z
  have nlv : l ≠ v := nv (((((s1.trans s2).trans s3).trans s4)).free nl)
  refine ⟨v, l, _, N, rfl, hv.same S5, by omega, nlv, e5, by show 0 < 4; decide, by show 4 < 1000; decide, fun H6 x kb6 hv6 hx => ?_⟩
  have K6 := (kb_same S5).trans kb6
  have hx' : ∃ p b, x = .ref p ∧ H6 p = some (.tup (iv b)) ∧ b ∈ flats := by
    have k : ∀ {p b}, H p = none → H5 p = some (.tup (iv b)) → H6 p = some (.tup (iv b)) := fun {p b} n e => kb6 _ _ (nv n) e
    simp only [List.mem_cons, List.mem_nil_iff, or_false] at hx
    rcases hx with rfl | rfl | rfl | rfl
    · exact ⟨p1, _, rfl, k (b := [0, 0, 1, 1]) n1 (s5 _ _ (s4 _ _ (s3 _ _ (s2 _ _ e1)))), by decide⟩
    · exact ⟨p2, _, rfl, k (b := [1, 0, 0, 1]) (s1.free n2) (s5 _ _ (s4 _ _ (s3 _ _ e2))), by decide⟩
    · exact ⟨p3, _, rfl, k (b := [0, 1, 0, 1]) ((s1.trans s2).free n3) (s5 _ _ (s4 _ _ e3)), by decide⟩
    · exact ⟨p4, _, rfl, k (b := [1, 1, 0, 0]) (((s1.trans s2).trans s3).free n4) (s5 _ _ e4), by decide⟩
  obtain ⟨p, b0, rfl, hp, hb0⟩ := hx'
  have d0 := dc_flat hb0
  have vne : ∀ {H' : Hp} {a : Addr}, KeptBut v H H' → a ≠ v → H' a = none → H a = none := fun {H' a} kb ne z => by
    cases e : H a with
    | none => rfl
    | some o => rw [kb _ _ ne e] at z; cases z
  have fr : ∀ {H' : Hp} {M : Nat} {a : Addr}, KeptBut v H H' → Vat M H' v → H' a = none → H a = none ∧ a ≠ v := fun {H' M a} kb hv z => by
    have ne : a ≠ v := fun e => by obtain ⟨c, _, _, _, hc, _⟩ := hv; rw [e, hc] at z; cases z
    exact ⟨vne kb ne z, ne⟩
  have vatS : ∀ {H1 H2 : Hp} {M : Nat}, Vat M H1 v → Same H1 H2 → Vat M H2 v := fun h s => h.same s
  refine ⟨p, _, rfl, .inr (SqT.of hp), fun a na => ?_⟩
  obtain ⟨na', nav⟩ := fr K6 hv6 na
  have s7 : Same H6 (L2.upd H6 a (.lst (iv b0))) := Same.upd na
  have e7 : (L2.upd H6 a (.lst (iv b0))) a = some (.lst (iv b0)) := upd_same
  generalize L2.upd H6 a (.lst (iv b0)) = H7 at s7 e7
  have K7 := K6.trans (kb_same (v := v) s7)
  have hv7 := vatS hv6 s7
  show tSeq _ _ _ _ _
  refine ⟨_, rfl, v, 5, N + 1, rfl, hv7, by omega, by decide, by decide, fun H8 z8 kb8 hv8 z80 z81 _ => ?_⟩
  refine ⟨z8, rfl, by omega, by omega, for_range (n := z8.toNat) (fun i σ H' => ∃ a b z2 z3 z4, σ = [some (.ref v), some (.ref a), z2, z3, z4] ∧ KeptBut v H H' ∧ Vat (N + 2 + 6 * i) H' v ∧ H a = none ∧ H' a = some (.lst (iv b)) ∧ Dc b ∧ Bd (7 ^ (4 * i)) b)
    ⟨a, b0, _, _, _, rfl, K7.trans kb8, hv8, na', kb8 _ _ nav e7, d0.1, by rw [Nat.mul_zero, Int.pow_zero]; exact d0.2⟩ (fun i σ H' hi pp => ?_) (fun σ H' pp => ?_)⟩
  · obtain ⟨a, b, z2, z3, z4, rfl, kb, hv, na, ha, dc, bd⟩ := pp
    have hi5 : i < 5 := by omega
    refine ⟨_, rfl, v, 4, _, rfl, hv, by omega, by decide, by decide, fun H9 z9 kb9 hv9 z90 z91 _ => ?_⟩
    refine ⟨z9, rfl, by omega, by omega, for_range (n := z9.toNat) (fun j σ H' => ∃ a b z3 z4, σ = [some (.ref v), some (.ref a), some (.int (0 + (i : Int))), z3, z4] ∧ KeptBut v H H' ∧ Vat (N + 3 + 6 * i + j) H' v ∧ H a = none ∧ H' a = some (.lst (iv b)) ∧ Dc b ∧ Bd (7 ^ (4 * i + j)) b)
      ⟨a, b, _, _, rfl, kb.trans kb9, hv9.mono (by omega), na, kb9 _ _ (nv na) ha, dc, bd⟩ (fun j σ H' hj pp => ?_) (fun σ H' pp => ?_)⟩
    · clear ha na dc bd
      obtain ⟨a, b, z3, z4, rfl, kb, hv, na, ha, dc, bd⟩ := pp
      have hj4 : j < 4 := by omega
      refine ⟨_, rfl, _, rfl, v, 4, _, rfl, hv, by omega, by decide, by decide, fun H10 zA kbA hvA zA0 zA1 _ => ?_⟩
      have kA := kb.trans kbA
      refine ⟨a, b, zA.toNat, by show [V.ref a, V.int zA] = _; rw [Int.toNat_of_nonneg zA0], kbA _ _ (nv na) ha, dc.len, by omega, fun H11 c sB nB hB => ?_⟩
      obtain ⟨nc, ncv⟩ := fr kA hvA nB
      exact ⟨c, _, _, _, rfl, kA.trans (kb_same sB), (hvA.same sB).mono (by omega), nc, hB, dc_exch dc (by omega), bd_mono (bd_exch dc.len bd (by omega)) (by rw [← Nat.add_assoc, Int.pow_succ]; omega)⟩
    · clear ha na dc bd
      obtain ⟨a, b, z3, z4, rfl, kb, hv, na, ha, dc, bd⟩ := pp
      have hj4 : z9.toNat ≤ 3 := by omega
      refine ⟨_, rfl, v, 4, _, rfl, hv, by omega, by decide, by decide, fun H10 zA kbA hvA zA0 zA1 _ => ?_⟩
      have kA := kb.trans kbA
      have haA := kbA _ _ (nv na) ha
      obtain ⟨k, rfl⟩ : ∃ k : Nat, zA = k := ⟨zA.toNat, by omega⟩
      have hA4 : k < 4 := by omega
      refine ⟨_, rfl, _, rfl, a, _, _, _, rfl, rfl, SqL.of haA, iv_at (r := b) (p := k) (by rw [dc.len]; exact hA4), _, _, rfl, rfl, ?_⟩
      have hp : (7 : Int) ^ (4 * i + z9.toNat) ≤ 7 ^ (4 * i + 3) := p7 (by omega)
      have hp1 : 7 * (7 : Int) ^ (4 * i + 3) = 7 ^ (4 * (i + 1)) := by rw [show 4 * (i + 1) = 4 * i + 3 + 1 by omega, Int.pow_succ (n := 4 * i + 3)]; omega
      have hp0 : (0 : Int) < 7 ^ (4 * i + 3) := Int.pow_pos (by decide)
      refine ⟨_, rfl, ?_⟩
      by_cases hg : 0 < b.getD k 0
      · refine ifT (decide_eq_true hg) ?_
        refine ⟨_, rfl, _, rfl, a, b, k, rfl, haA, dc.len, hA4, fun H11 c sB nB hB => ?_⟩
        obtain ⟨nc, ncv⟩ := fr kA hvA nB
        exact ⟨c, _, _, _, _, rfl, kA.trans (kb_same sB), (hvA.same sB).mono (by omega), nc, hB, dc_turn dc hA4 hg, bd_mono (bd_turn dc.len bd hA4) (by omega)⟩
      · refine ifF (decide_eq_false hg) ?_
        exact ⟨a, b, _, _, _, rfl, kA, hvA.mono (by omega), na, haA, dc, bd_mono bd (by omega)⟩
  · obtain ⟨a, b, z2, z3, z4, rfl, kb, hv, na, ha, dc, bd⟩ := pp
    have hp : (7 : Int) ^ (4 * z8.toNat) ≤ 7 ^ 16 := p7 (by omega)
    exact ⟨_, rfl, q H' a b kb (hv.mono (by omega)) na ha ⟨dc, bd_mono bd (by omega)⟩⟩
end
end K31
namespace K31
open PySem PySem.Spec PyProof.Rows L2
section
variable {P : Program} {w : World} {K : PySem.W.Frag} {mg : Str → Option Value} {base : Heap}
/-! ### _law_far -/
def spFar : Sp := fun vs H Q _ => ∃ (a : Addr) (r : List Int) (m : Int), vs = [.ref a, .int m] ∧ H a = some (.tup (iv r)) ∧ okR m r ∧ 0 < m ∧ m ≤ 24 ∧ ∀ H' d t, Same H H' → Whole m r t → DicR Vd H' d t → Q (.ref d) H'
abbrev n61 : List Str := ["_law_row_here", "_law_modulus", "_law_found", "_law_last", "_law_many", "_law_later", "_law_here", "_law_place", "_law_more"]
theorem sc61 : FnScope n61 ["_law_row_here", "_law_modulus"] (defScope (top 61)) := ⟨rfl, rfl, rfl, by decide +kernel, rfl, by decide +kernel, by decide +kernel⟩
/-- amid the walk over the last rows -/
structure Af (m : Int) (r : List Int) (H0 : Hp) (d la lb : Addr) (as : List Addr) (k : Nat) (t : Tab) (ws : List (List Nat)) (i p : Nat) (H : Hp) (new : Tab) : Prop where
  same : Same H0 H
  mid : Mid m r k t ws i p new
  dic : DicR Vd H d (t ++ new)
  la_ : RowsAs H la as (rowsOf m r ws)
  lb_ : RowsAt H lb (new.map (·.1))
theorem c_far (T : Tx K mg) : C8.Cal P w K mg base 2 "_law_far" spFar [] := by
  refine calD (T.w 8) sc61 (fun kV doc pm an cdv ct us hl => match us, hl with | [_, _], _ => rfl) (fun vs H Q E h => ?_) fun cdv A outer s H vs Q E hr h => ?_
  · obtain ⟨a, r, m, rfl, _⟩ := h; rfl
  obtain ⟨a, r, m, rfl, ha, ok, h0, h24, q⟩ := h
  obtain ⟨tk, hp⟩ := T.places
  have hu := hu_of hr
  refine ⟨_, pss_cons (ps_par3 (i := 2) (j := 3) (l := 4) rfl sc61.nd rfl rfl rfl (by decide) (by decide) (by decide) rfl rfl rfl (pa_cons (pe_disp1 hu (pv 0) pe_int) (pa_cons (pe_lst (pa_cons (pv 0) pa_nil)) (pa_cons pe_int pa_nil))) (by rfl))
    (pss_cons (ps_while PassesOwn.never (pt_cmpR (op_neD hr.units) (pv 3) (pe_lst pa_nil) (nomark _))
      (pss_cons (ps_par (i := 4) (j := 5) rfl sc61.nd rfl rfl (by decide) rfl rfl (pa_cons (pe_op op_add (pv 4) pe_int) (pa_cons (pe_lst pa_nil) pa_nil)) (by rfl))
      (pss_cons (ps_for PassesOwn.never rfl (pi_list (pv 3)) (pg_name (i := 6) sc61.nd rfl (.inl rfl))
        (pss_one (ps_for PassesOwn.never rfl (pi_range1 rfl (T.b 9) (pa_cons pe_int pa_nil)) (pg_name (i := 7) sc61.nd rfl (.inl rfl))
          (pss_cons (ps_set (i := 8) sc61.nd rfl (.inl rfl) (C8.pe_c (c_next T) hr (by decide) rfl (pa_cons (pv 6) (pa_cons (pv 7) (pa_cons (pv 1) pa_nil)))))
          (pss_one (ps_if (pt_cmp (pc_dnotin hu (pv 8) (pv 2)))
            (pss_cons (ps_dput hu (pv 2) (pv 8) (pv 4) rfl)
            (pss_one (ps_expr (pe_bm PySem.F.plainAttrs_list PySem.F.slot_list_append PySem.F.type_list_append mt_append (pv 5) (pa_cons (pv 8) pa_nil))))) pss_nil))))))
      (pss_one (ps_set (i := 3) sc61.nd rfl (.inl rfl) (pv 5))))))
    (pss_one (ps_ret (pv 2)))), ?_⟩
  -- the start
  intro d nd
  have S1 : Same H (L2.upd H d (.dT [])) := Same.upd nd
  refine ⟨_, rfl, upd_same, keyR r, a, rfl, by rw [keyR_kV]; exact S1 _ _ ha, ?_⟩
  have hk : ∀ b o, H b = some o → (L2.upd (L2.upd H d (.dT [])) d (.dT [(keyR r, .int 0)])) b = some o := fun b o z => by rw [upd_ne (ne_of_none z nd)]; exact S1 _ _ z
  have D0 : DicR Vd (L2.upd (L2.upd H d (.dT [])) d (.dT [(keyR r, .int 0)])) d [(r, [])] := ⟨_, upd_same, .cons ⟨rfl, rfl⟩ .nil⟩
  have ha3 := hk _ _ ha
  show tCons _ _ _ (L2.upd (L2.upd H d (.dT [])) d (.dT [(keyR r, .int 0)])) _
  generalize L2.upd (L2.upd H d (.dT [])) d (.dT [(keyR r, .int 0)]) = H3 at hk D0 ha3
  refine ⟨_, rfl, by show 1 ≤ sizeLine; decide, fun la nla => ⟨_, _, _, rfl, ?_⟩⟩
  have S4 : Same H3 (L2.upd H3 la (.lst [.ref a])) := Same.upd nla
  -- the while
  refine ⟨fun n σ H' => ∃ la as, ∃ k : Nat, ∃ t ws z5 z6 z7 z8, σ = [some (.ref a), some (.int m), some (.ref d), some (.ref la), some (.int (k : Int)), z5, z6, z7, z8] ∧ Same H H' ∧ Lay m r k t ws ∧ DicR Vd H' d t ∧ RowsAs H' la as (rowsOf m r ws) ∧ n = 2 * (331776 - t.length) + (if ws = [] then 0 else 1),
    ⟨_, la, [a], 0, [(r, [])], [[]], _, _, _, _, rfl, fun b o z => S4 _ _ (hk _ _ z), lay0 m r, D0.keep vd_ok (fun _ _ z => S4 _ _ z) (fun _ z => S4 _ _ z), ⟨upd_same, .cons (S4 _ _ ha3) .nil⟩, rfl⟩, ?_⟩
  clear D0 ha3 S4 hk S1
  rintro n σ H' ⟨la, as, k, t, ws, z5, z6, z7, z8, rfl, S, L, D, RA, en⟩
  refine ⟨_, rfl, by show 0 ≤ sizeLine; decide, fun l nl => ?_⟩
  have Sl : Same H' (L2.upd H' l (.lst [])) := Same.upd nl
  have hl1 : (L2.upd H' l (.lst [])) l = some (.lst []) := upd_same
  have RA1 := RA.keep (fun _ _ z => Sl _ _ z) (fun _ z => Sl _ _ z)
  have D1 := D.keep vd_ok (fun _ _ z => Sl _ _ z) (fun _ z => Sl _ _ z)
  have S1 := S.trans Sl
  generalize L2.upd H' l (.lst []) = H1 at Sl hl1 RA1 D1 S1
  refine ⟨.list ((rowsOf m r ws).map fun r => PyData.tuple (dIs r)), .list [], .lst (SqL.of RA1.1) (rows_dp RA1.2), .lst (SqL.of hl1) .nil, rows_shaped _, nil_shaped, ?_⟩
  rw [rows_eqv]
  refine ⟨_, rfl, ?_⟩
  by_cases hw : ws = []
  · subst hw
    refine ifF (by rfl) ⟨_, rfl, q H1 d t S1 (whole_of L) D1⟩
  refine ifT (by cases ws with
    | nil => exact absurd rfl hw
    | cons x ws => rfl) ?_
  have hen : n = 2 * (331776 - t.length) + 1 := by rw [en, if_neg hw]
  refine ⟨fun σ' H' => ∃ la as new z5 z6 z7 z8, σ' = [some (.ref a), some (.int m), some (.ref d), some (.ref la), some (.int ((k : Int) + 1)), z5, z6, z7, z8] ∧ Same H H' ∧ Lay m r (k + 1) (t ++ new) (new.map (·.2)) ∧ DicR Vd H' d (t ++ new) ∧ RowsAs H' la as (rowsOf m r (new.map (·.2))), ?_, ?_⟩
  · rintro σ' H' ⟨la, as, new, z5, z6, z7, z8, rfl, S', L', D', R'⟩
    have h1 := lay_le h0 h24 ok L'
    rw [List.length_append] at h1
    refine ⟨_, ?_, la, as, k + 1, t ++ new, new.map (·.2), z5, z6, z7, z8, rfl, S', L', D', R', rfl⟩
    rw [List.length_append]
    by_cases hn : new = []
    · subst hn
      simp
      omega
    · have : 0 < new.length := List.length_pos_iff.mpr hn
      split <;> omega
  refine ⟨_, rfl, _, _, rfl, rfl, by show 0 ≤ sizeLine; decide, fun lb nlb => ?_⟩
  have Sb : Same H1 (L2.upd H1 lb (.lst [])) := Same.upd nlb
  have nbl : lb ≠ la := fun z => by rw [z] at nlb; have e : H1 la = some _ := RA1.1; rw [nlb] at e; cases e
  have nH0 : H lb = none := S1.free nlb
  have RA2 := RA1.keep (fun _ _ z => Sb _ _ z) (fun _ z => Sb _ _ z)
  refine ⟨_, _, rfl, ?_⟩
  refine ⟨_, rfl, la, rfl, ⟨_, SqL.of RA2.1⟩, for_list (xs := as.map V.ref) (fun i σ' H' => ∃ new z6 z7 z8, σ' = [some (.ref a), some (.int m), some (.ref d), some (.ref la), some (.int ((k : Int) + 1)), some (.ref lb), z6, z7, z8] ∧ Af m r H d la lb as k t ws i 0 H' new)
    ⟨[], _, _, _, rfl, S1.trans Sb, mid0 L, by rw [List.append_nil]; exact D1.keep vd_ok (fun _ _ z => Sb _ _ z) (fun _ z => Sb _ _ z), RA2, [], upd_same, .nil⟩ (fun i σ' H' _ p => by obtain ⟨_, _, _, _, _, am⟩ := p; exact SqL.of am.la_.1) (fun i x σ' H' hx p => ?_) (fun σ' H' p => ?_)⟩
  · obtain ⟨new, z6, z7, z8, rfl, am⟩ := p
    rw [List.getElem?_map] at hx
    cases hai : as[i]? with
    | none => rw [hai] at hx; cases hx
    | some ai =>
    rw [hai] at hx
    cases hx
    obtain ⟨ri, hri, _⟩ := Paired.nth am.la_.2 hai
    have hri' : (ws.map (follow m r))[i]? = some ri := hri
    rw [List.getElem?_map] at hri'
    have hi : i < ws.length := by
      rcases Nat.lt_or_ge i ws.length with h | h
      · exact h
      · rw [List.getElem?_eq_none h] at hri'; cases hri'
    rw [List.getElem?_eq_getElem hi] at hri'
    cases hri'
    have hl4 : (follow m r ws[i]).length = 4 := by rw [follow_len]; exact ok.1
    have hk1 := L.l1 ws[i] (List.getElem_mem hi)
    have hti := lay_le h0 h24 ok L
    have hkt := L.sz
    refine ⟨4, rfl, by decide, by decide, for_range (n := 4) (fun p σ' H' => ∃ new z7 z8, σ' = [some (.ref a), some (.int m), some (.ref d), some (.ref la), some (.int ((k : Int) + 1)), some (.ref lb), some (.ref ai), z7, z8] ∧ Af m r H d la lb as k t ws i p H' new) ⟨new, _, _, rfl, am⟩ (fun p σ' H' hp4 pp => ?_) (fun σ' H' pp => ?_)⟩
    · clear am
      obtain ⟨new, z7, z8, rfl, am⟩ := pp
      obtain ⟨_, e1, hai'⟩ := Paired.nth am.la_.2 hai
      rw [hri] at e1
      cases e1
      refine ⟨_, rfl, _, rfl, _, rfl, ai, _, p, m, by rw [Int.zero_add]; rfl, hai', hl4, hp4, h0, fun H5 q5 s5 h5 => ?_⟩
      have dic5 : DicR Vd H5 d (t ++ new) := am.dic.keep vd_ok (fun _ _ z => s5 _ _ z) (fun _ z => s5 _ _ z)
      have la5 : RowsAs H5 la as (rowsOf m r ws) := am.la_.keep (fun _ _ z => s5 _ _ z) (fun _ z => s5 _ _ z)
      obtain ⟨bs, lb5, pb5⟩ : RowsAt H5 lb (new.map (·.1)) := am.lb_.keep (fun _ _ z => s5 _ _ z) (fun _ z => s5 _ _ z)
      have hai5 := s5 _ _ hai'
      obtain ⟨o, g, eo⟩ := dic5.get am.mid.nd h5
      refine ⟨_, rfl, _, rfl, d, o, rfl, g, _, rfl, ?_⟩
      rw [eo]
      by_cases hin : nx m (follow m r ws[i]) p ∈ keysT (t ++ new)
      · exact ifF (by simp [hin]) ⟨new, _, _, rfl, am.same.trans s5, mid_old L am.mid hi hp4 hin, dic5, la5, bs, lb5, pb5⟩
      refine ifT (by simp [hin]) ?_
      have hlen := mid_le h0 h24 ok L am.mid
      have S6 := am.same.trans s5
      obtain ⟨o7, dp, no1, no2, dic7⟩ := dic5.put vd_ok (u := ws[i] ++ [p]) (v := .int ((k : Int) + 1)) h5 hin (by omega) (by show V.int ((k : Int) + 1) = V.int (((ws[i] ++ [p]).length : Nat) : Int); rw [List.length_append, hk1.2]; rfl)
      have hdd : ∃ kvs, H5 d = some (.dT kvs) := let ⟨kvs, z, _⟩ := dic5; ⟨kvs, z⟩
      obtain ⟨kvs, hdd⟩ := hdd
      have K7 : ∀ b o, (∀ kvs, o ≠ .dT kvs) → H5 b = some o → (L2.upd H5 d o7) b = some o := fun b o no z => by rw [upd_ne (fun z' => no kvs (by rw [z', hdd] at z; exact (Option.some.inj z).symm))]; exact z
      refine ⟨_, rfl, _, rfl, _, rfl, d, _, rfl, dp, ?_⟩
      have lb7 := K7 _ _ (by intro _ z; cases z) lb5
      have la7 := la5.keep (fun _ _ z => K7 _ _ (by intro _ z; cases z) z) (fun _ z => K7 _ _ (by intro _ z; cases z) z)
      have pb7 := Paired.mapP pb5 fun _ _ q => K7 _ _ (by intro _ z; cases z) q
      have h7 := K7 _ _ (by intro _ z; cases z) h5
      have S7 : Same H (L2.upd H5 d o7) := fun b o z => by rw [upd_ne (ne_of_none z nd)]; exact S6 _ _ z
      generalize L2.upd H5 d o7 = H7 at dic7 lb7 la7 pb7 h7 S7
      have bl : bs.length = new.length := by rw [pb7.length]; exact List.length_map _
      rw [List.length_append] at hlen
      refine ⟨_, rfl, .inl ⟨rfl, _, SqL.of lb7⟩, _, rfl, lb, _, _, rfl, rfl, lb7, by rw [List.length_map, bl, sizeLine_eq]; omega, ?_⟩
      have K8 : ∀ b o, (∀ xs, o ≠ .lst xs) ∨ b ≠ lb → H7 b = some o → (L2.upd H7 lb (.lst (bs.map V.ref ++ [.ref q5]))) b = some o := fun b o no z => by
        rw [upd_ne (fun z' => ?_)]
        · exact z
        · rcases no with no | no
          · exact no _ (by rw [z', lb7] at z; exact (Option.some.inj z).symm)
          · exact no z'
      refine ⟨new ++ [(nx m (follow m r ws[i]) p, ws[i] ++ [p])], _, _, rfl, fun b o z => ?_, mid_new L am.mid hi hp4 hin, ?_, ?_, ?_⟩
      · exact K8 _ _ (.inr (ne_of_none z nH0)) (S7 _ _ z)
      · rw [← List.append_assoc]
        exact dic7.keep vd_ok (fun _ _ z => K8 _ _ (.inl (by intro _ z; cases z)) z) (fun _ z => K8 _ _ (.inl (by intro _ z; cases z)) z)
      · exact la7.keep (fun _ _ z => K8 _ _ (.inl (by intro _ z; cases z)) z) (fun _ z => K8 _ _ (.inr (Ne.symm nbl)) z)
      · refine ⟨bs ++ [q5], by rw [upd_same]; simp, ?_⟩
        rw [List.map_append]
        exact Paired.append (Paired.mapP pb7 fun _ _ z => K8 _ _ (.inl (by intro _ z; cases z)) z) (.cons (K8 _ _ (.inl (by intro _ z; cases z)) h7) .nil)
    · obtain ⟨new, z7, z8, rfl, am⟩ := pp
      exact ⟨new, _, _, _, rfl, am.same, mid_next am.mid, am.dic, am.la_, am.lb_⟩
  · obtain ⟨new, z6, z7, z8, rfl, am⟩ := p
    have el : (as.map V.ref).length = ws.length := by rw [List.length_map, am.la_.2.length]; exact List.length_map _
    have M := am.mid
    rw [el] at M
    have L' := mid_end L hw M
    obtain ⟨bs, hb, pb⟩ := am.lb_
    refine ⟨_, rfl, lb, bs, new, _, _, _, _, rfl, am.same, L', am.dic, hb, ?_⟩
    have er : rowsOf m r (new.map (·.2)) = new.map (·.1) := by
      unfold rowsOf
      rw [List.map_map]
      refine List.map_congr_left fun e he => ?_
      exact (L'.snd e.1 e.2 (List.mem_append_right _ he)).1
    rw [er]; exact pb
end
end K31
namespace K31
open PySem PySem.Spec PyProof.Rows L2
/-! ### _law_pillars -/
def pws : List (Int × List Int) := [(2, [8, 4, 2]), (3, [9, 3]), (5, [5]), (7, [7]), (11, [11]), (13, [13])]
def pwF (m : Int) (l : List Int) : List Int := l.filter fun q => decide (m % q = 0)
def pilOf (m : Int) (l : List (Int × List Int)) : List Int := (l.filter fun e => decide (m % e.1 = 0)).map fun e => (pwF m e.2).getD 0 0
theorem pil_perm : ∀ m ∈ moduli, (pilOf m pws).Perm (parts m) := by decide +kernel
theorem pil_ne : ∀ m ∈ moduli, ∀ e ∈ pws, m % e.1 = 0 → 0 < (pwF m e.2).length := by decide +kernel
theorem pws_pos : ∀ e ∈ pws, 0 < e.1 ∧ e.2.length ≤ 3 ∧ ∀ q ∈ e.2, 0 < q := by decide +kernel
theorem pil_len (m : Int) (l : List (Int × List Int)) : (pilOf m l).length ≤ l.length := by
  unfold pilOf
  rw [List.length_map]; exact List.length_filter_le _ _
theorem pil_snoc {m : Int} {i : Nat} {e : Int × List Int} (h : pws[i]? = some e) : pilOf m (pws.take (i + 1)) = pilOf m (pws.take i) ++ (if m % e.1 = 0 then [(pwF m e.2).getD 0 0] else []) := by
  unfold pilOf
  rw [take_snoc h, List.filter_append, List.map_append]
  congr 1
  by_cases h1 : m % e.1 = 0 <;> simp [h1]
def PwAt (H : Hp) (x : V) (e : Int × List Int) : Prop := ∃ t u, x = .ref t ∧ H t = some (.tup [.int e.1, .ref u]) ∧ H u = some (.tup (iv e.2))
theorem PwAt.same {H H' : Hp} {x : V} {e : Int × List Int} (h : PwAt H x e) (s : Same H H') : PwAt H' x e := let ⟨t, u, h1, h2, h3⟩ := h; ⟨t, u, h1, s _ _ h2, s _ _ h3⟩
section
variable {P : Program} {w : World} {K : PySem.W.Frag} {mg : Str → Option Value} {base : Heap}

def spPillars : Sp := fun vs H Q _ => ∃ (m : Int), vs = [.int m] ∧ m ∈ moduli ∧ ∀ H' p, Same H H' → H' p = some (.lst (iv (parts m))) → Q (.ref p) H'
abbrev n62 : List Str := ["_law_modulus", "_law_some", "_law_prime", "_law_powers", "_law_power"]
theorem sc62 : FnScope n62 ["_law_modulus"] (defScope (top 62)) := ⟨rfl, rfl, rfl, by decide +kernel, rfl, by decide +kernel, by decide +kernel⟩
abbrev sc62c : Scope := { kind := .function, names := [(".0", .local), ("_law_prime", .local), ("_law_powers", .local), ("int", .globalImplicit), ("_law_modulus", .cell)], isGenerator := false, isCoroutine := false }
theorem c_pillars (T : Tx K mg) : C8.Cal P w K mg base 1 "_law_pillars" spPillars [] := by
  refine calD (T.w 9) sc62 (fun kV doc pm an cdv ct us hl => match us, hl with | [_], _ => rfl) (fun vs H Q E h => ?_) fun cdv A outer s H vs Q E hr h => ?_
  · obtain ⟨m, rfl, _⟩ := h; rfl
  obtain ⟨m, rfl, hm, q⟩ := h
  refine ⟨_, pss_cons (ps_set (i := 1) sc62.nd rfl (.inl rfl) (pe_lst (pa_cons (pe_tup (pa_cons (pe_int) (pa_cons (pe_tup (pa_cons (pe_int) (pa_cons (pe_int) (pa_cons (pe_int) pa_nil)))) pa_nil))) (pa_cons (pe_tup (pa_cons (pe_int) (pa_cons (pe_tup (pa_cons (pe_int) (pa_cons (pe_int) pa_nil))) pa_nil))) (pa_cons (pe_tup (pa_cons (pe_int) (pa_cons (pe_tup (pa_cons (pe_int) pa_nil)) pa_nil))) (pa_cons (pe_tup (pa_cons (pe_int) (pa_cons (pe_tup (pa_cons (pe_int) pa_nil)) pa_nil))) (pa_cons (pe_tup (pa_cons (pe_int) (pa_cons (pe_tup (pa_cons (pe_int) pa_nil)) pa_nil))) (pa_cons (pe_tup (pa_cons (pe_int) (pa_cons (pe_tup (pa_cons (pe_int) pa_nil)) pa_nil))) pa_nil)))))))) (pss_one (ps_ret (pe_callB (cr_sorted) (by rfl) (T.b 8) (by decide +kernel) (pa_cons (pe_lc (own := [("_law_prime", 2), ("_law_powers", 3)]) (g := gTup K 2 (gCons (gName 2) (gCons (gName 3) gNil))) rfl sc62.nd (pi_list (pv 1)) (blkOk_by (N := n62) (sc := defScope (top 62)) (by decide +kernel)) (fun _ _ _ _ _ => pg_tup rfl (pgs_cons (pg_name (i := 2) sc62.nd rfl (.inl rfl)) (pgs_cons (pg_name (i := 3) sc62.nd rfl (.inl rfl)) (pgs_nil)))) (fun _ _ _ _ _ => pts_one (pt_cmpR op_eq (pe_op op_mod (pe_callTy call_int1 (by rfl) (T.b 1) (by decide +kernel) (pa_cons (pv 0) pa_nil)) (pv 2)) (pe_int) (nomark _))) (fun _ _ _ _ _ => pe_ix (show IxR _ (rIxL K) from ix_list) (pe_lc (own := [("_law_power", 4)]) (g := gName 4) (wi := iTup K (tVar 3)) rfl sc62.nd (pi_tup (pv 3)) (blkOk_by (N := n62) (sc := sc62c) (by decide +kernel)) (fun _ _ _ _ _ => pg_name (i := 4) sc62.nd rfl (.inl rfl)) (fun _ _ _ _ _ => pts_one (pt_cmpR op_eq (pe_op op_mod (pe_callTy call_int1 (by rfl) (T.b 1) (by decide +kernel) (pa_cons (pv 0) pa_nil)) (pv 4)) (pe_int) (nomark _))) (fun _ _ _ _ _ => pv 4)) (pe_int) (fun _ _ => rfl))) pa_nil)))), ?_⟩
  refine ⟨by show 3 ≤ sizeLine; decide, fun u1 nu1 => ?_⟩
  have su1 : Same H (L2.upd H u1 (.tup [V.int 8, V.int 4, V.int 2])) := Same.upd nu1
  have eu1 : (L2.upd H u1 (.tup [V.int 8, V.int 4, V.int 2])) u1 = some (.tup [V.int 8, V.int 4, V.int 2]) := upd_same
  generalize L2.upd H u1 (.tup [V.int 8, V.int 4, V.int 2]) = Hu1 at su1 eu1
  refine ⟨by show 2 ≤ sizeLine; decide, fun t1 nt1 => ?_⟩
  have st1 : Same Hu1 (L2.upd Hu1 t1 (.tup [V.int 2, V.ref u1])) := Same.upd nt1
  have et1 : (L2.upd Hu1 t1 (.tup [V.int 2, V.ref u1])) t1 = some (.tup [V.int 2, V.ref u1]) := upd_same
  generalize L2.upd Hu1 t1 (.tup [V.int 2, V.ref u1]) = Ht1 at st1 et1
  refine ⟨by show 2 ≤ sizeLine; decide, fun u2 nu2 => ?_⟩
  have su2 : Same Ht1 (L2.upd Ht1 u2 (.tup [V.int 9, V.int 3])) := Same.upd nu2
  have eu2 : (L2.upd Ht1 u2 (.tup [V.int 9, V.int 3])) u2 = some (.tup [V.int 9, V.int 3]) := upd_same
  generalize L2.upd Ht1 u2 (.tup [V.int 9, V.int 3]) = Hu2 at su2 eu2
  refine ⟨by show 2 ≤ sizeLine; decide, fun t2 nt2 => ?_⟩
  have st2 : Same Hu2 (L2.upd Hu2 t2 (.tup [V.int 3, V.ref u2])) := Same.upd nt2
  have et2 : (L2.upd Hu2 t2 (.tup [V.int 3, V.ref u2])) t2 = some (.tup [V.int 3, V.ref u2]) := upd_same
  generalize L2.upd Hu2 t2 (.tup [V.int 3, V.ref u2]) = Ht2 at st2 et2
  refine ⟨by show 1 ≤ sizeLine; decide, fun u3 nu3 => ?_⟩
  have su3 : Same Ht2 (L2.upd Ht2 u3 (.tup [V.int 5])) := Same.upd nu3
  have eu3 : (L2.upd Ht2 u3 (.tup [V.int 5])) u3 = some (.tup [V.int 5]) := upd_same
  generalize L2.upd Ht2 u3 (.tup [V.int 5]) = Hu3 at su3 eu3
  refine ⟨by show 2 ≤ sizeLine; decide, fun t3 nt3 => ?_⟩
  have st3 : Same Hu3 (L2.upd Hu3 t3 (.tup [V.int 5, V.ref u3])) := Same.upd nt3
  have et3 : (L2.upd Hu3 t3 (.tup [V.int 5, V.ref u3])) t3 = some (.tup [V.int 5, V.ref u3]) := upd_same
  generalize L2.upd Hu3 t3 (.tup [V.int 5, V.ref u3]) = Ht3 at st3 et3
  refine ⟨by show 1 ≤ sizeLine; decide, fun u4 nu4 => ?_⟩
  have su4 : Same Ht3 (L2.upd Ht3 u4 (.tup [V.int 7])) := Same.upd nu4
  have eu4 : (L2.upd Ht3 u4 (.tup [V.int 7])) u4 = some (.tup [V.int 7]) := upd_same
  generalize L2.upd Ht3 u4 (.tup [V.int 7]) = Hu4 at su4 eu4
  refine ⟨by show 2 ≤ sizeLine; decide, fun t4 nt4 => ?_⟩
  have st4 : Same Hu4 (L2.upd Hu4 t4 (.tup [V.int 7, V.ref u4])) := Same.upd nt4
  have et4 : (L2.upd Hu4 t4 (.tup [V.int 7, V.ref u4])) t4 = some (.tup [V.int 7, V.ref u4]) := upd_same
  generalize L2.upd Hu4 t4 (.tup [V.int 7, V.ref u4]) = Ht4 at st4 et4
  refine ⟨by show 1 ≤ sizeLine; decide, fun u5 nu5 => ?_⟩
  have su5 : Same Ht4 (L2.upd Ht4 u5 (.tup [V.int 11])) := Same.upd nu5
  have eu5 : (L2.upd Ht4 u5 (.tup [V.int 11])) u5 = some (.tup [V.int 11]) := upd_same
  generalize L2.upd Ht4 u5 (.tup [V.int 11]) = Hu5 at su5 eu5
  refine ⟨by show 2 ≤ sizeLine; decide, fun t5 nt5 => ?_⟩
  have st5 : Same Hu5 (L2.upd Hu5 t5 (.tup [V.int 11, V.ref u5])) := Same.upd nt5
  have et5 : (L2.upd Hu5 t5 (.tup [V.int 11, V.ref u5])) t5 = some (.tup [V.int 11, V.ref u5]) := upd_same
  generalize L2.upd Hu5 t5 (.tup [V.int 11, V.ref u5]) = Ht5 at st5 et5
  refine ⟨by show 1 ≤ sizeLine; decide, fun u6 nu6 => ?_⟩
  have su6 : Same Ht5 (L2.upd Ht5 u6 (.tup [V.int 13])) := Same.upd nu6
  have eu6 : (L2.upd Ht5 u6 (.tup [V.int 13])) u6 = some (.tup [V.int 13]) := upd_same
  generalize L2.upd Ht5 u6 (.tup [V.int 13]) = Hu6 at su6 eu6
  refine ⟨by show 2 ≤ sizeLine; decide, fun t6 nt6 => ?_⟩
  have st6 : Same Hu6 (L2.upd Hu6 t6 (.tup [V.int 13, V.ref u6])) := Same.upd nt6
  have et6 : (L2.upd Hu6 t6 (.tup [V.int 13, V.ref u6])) t6 = some (.tup [V.int 13, V.ref u6]) := upd_same
  generalize L2.upd Hu6 t6 (.tup [V.int 13, V.ref u6]) = Ht6 at st6 et6
  refine ⟨by show 6 ≤ sizeLine; decide, fun l nl => ?_⟩
  have s1 : Same Ht6 (L2.upd Ht6 l (.lst [V.ref t1, V.ref t2, V.ref t3, V.ref t4, V.ref t5, V.ref t6])) := Same.upd nl
  have e1 : (L2.upd Ht6 l (.lst [V.ref t1, V.ref t2, V.ref t3, V.ref t4, V.ref t5, V.ref t6])) l = some (.lst [V.ref t1, V.ref t2, V.ref t3, V.ref t4, V.ref t5, V.ref t6]) := upd_same
  generalize L2.upd Ht6 l (.lst [V.ref t1, V.ref t2, V.ref t3, V.ref t4, V.ref t5, V.ref t6]) = H1 at s1 e1
  have S1 : Same H H1 := ((((((((((((su1).trans st1).trans su2).trans st2).trans su3).trans st3).trans su4).trans st4).trans su5).trans st5).trans su6).trans st6).trans s1
  have pa : Paired (PwAt H1) [V.ref t1, V.ref t2, V.ref t3, V.ref t4, V.ref t5, V.ref t6] pws := .cons (⟨t1, u1, rfl, s1 _ _ (st6 _ _ (su6 _ _ (st5 _ _ (su5 _ _ (st4 _ _ (su4 _ _ (st3 _ _ (su3 _ _ (st2 _ _ (su2 _ _ (et1))))))))))), s1 _ _ (st6 _ _ (su6 _ _ (st5 _ _ (su5 _ _ (st4 _ _ (su4 _ _ (st3 _ _ (su3 _ _ (st2 _ _ (su2 _ _ (st1 _ _ (eu1))))))))))))⟩) (.cons (⟨t2, u2, rfl, s1 _ _ (st6 _ _ (su6 _ _ (st5 _ _ (su5 _ _ (st4 _ _ (su4 _ _ (st3 _ _ (su3 _ _ (et2))))))))), s1 _ _ (st6 _ _ (su6 _ _ (st5 _ _ (su5 _ _ (st4 _ _ (su4 _ _ (st3 _ _ (su3 _ _ (st2 _ _ (eu2))))))))))⟩) (.cons (⟨t3, u3, rfl, s1 _ _ (st6 _ _ (su6 _ _ (st5 _ _ (su5 _ _ (st4 _ _ (su4 _ _ (et3))))))), s1 _ _ (st6 _ _ (su6 _ _ (st5 _ _ (su5 _ _ (st4 _ _ (su4 _ _ (st3 _ _ (eu3))))))))⟩) (.cons (⟨t4, u4, rfl, s1 _ _ (st6 _ _ (su6 _ _ (st5 _ _ (su5 _ _ (et4))))), s1 _ _ (st6 _ _ (su6 _ _ (st5 _ _ (su5 _ _ (st4 _ _ (eu4))))))⟩) (.cons (⟨t5, u5, rfl, s1 _ _ (st6 _ _ (su6 _ _ (et5))), s1 _ _ (st6 _ _ (su6 _ _ (st5 _ _ (eu5))))⟩) (.cons (⟨t6, u6, rfl, s1 _ _ (et6), s1 _ _ (st6 _ _ (eu6))⟩) .nil)))))
  have xl := pa.length
  generalize [V.ref t1, V.ref t2, V.ref t3, V.ref t4, V.ref t5, V.ref t6] = xs at e1 pa xl
  clear et1 eu1 su1 st1 nu1 nt1 et2 eu2 su2 st2 nu2 nt2 et3 eu3 su3 st3 nu3 nt3 et4 eu4 su4 st4 nu4 nt4 et5 eu5 su5 st5 nu5 nt5 et6 eu6 su6 st6 nu6 nt6 s1 nl
  refine ⟨_, rfl, l, rfl, ⟨_, SqL.of e1⟩, fun D nD => ?_⟩
  refine lc_list (xs := xs) (fun i H' => Same H1 H' ∧ H' D = some (.lst (iv (pilOf m (pws.take i))))) ⟨Same.upd nD, upd_same⟩ (fun i H' _ p => SqL.of (p.1 _ _ e1)) (fun i x H' hx p => ?_) (fun H' p => ?_)
  · obtain ⟨s2, hD⟩ := p
    obtain ⟨e, he, t, u, rfl, ht, hu⟩ := Paired.nth pa hx
    obtain ⟨e0, el, eq⟩ := pws_pos e (List.mem_of_getElem? he)
    have sn := pil_snoc (m := m) he
    have ln := pil_len m (pws.take i)
    rw [List.length_take] at ln
    have l6 : pws.length = 6 := rfl
    refine ⟨t, _, rfl, SqT.of (s2 _ _ ht), rfl, _, _, rfl, _, _, rfl, rfl, rfl, ?_⟩
    refine ⟨_, rfl, .inl ⟨m, rfl, _, rfl, _, _, rfl, rfl, e0, rfl, ?_⟩⟩
    by_cases hz : m % e.1 = 0
    · rw [if_pos hz] at sn
      refine ⟨_, rfl, ifT (decide_eq_true (congrArg V.int hz)) ?_⟩
      have hu2 := s2 _ _ hu
      refine ⟨_, rfl, u, rfl, ⟨_, SqT.of hu2⟩, fun D2 nD2 => ?_⟩
      refine lc_tup_g 4 (fun x => match x with | .int q => decide (m % q = 0) | _ => false) (fun _ x y => y = x) (fun _ _ _ _ _ h => h) (fun _ _ _ _ _ _ h => h) (by rw [List.length_map]; omega) nD2 (SqT.of hu2) (fun x => rfl) (fun x hx H' s' Q' z' => ?_) (fun x hx _ H' s' Q' z' => ⟨_, rfl, z' _ _ (Same.refl _) rfl⟩) (fun H5 ys s5 hy rr => ?_)
      · obtain ⟨n, hn, rfl⟩ := List.mem_map.mp hx
        refine ⟨_, rfl, .inl ⟨m, rfl, _, rfl, _, _, rfl, rfl, eq n hn, rfl, _, rfl, ?_⟩⟩
        have ee : decide (V.int (m % n) = V.int 0) = decide (m % n = 0) := by simp
        rw [ee]
        exact z' _ (Same.refl _)
      · have ey : ys = iv (pwF m e.2) := by
          have := Paired.eq_map (f := fun x : V => x) rr
          rw [List.map_id'] at this
          rw [this]
          unfold pwF iv
          rw [List.filter_map]; rfl
        subst ey
        refine ⟨D2, _, 0, _, rfl, rfl, SqL.of hy, iv_at (p := 0) (pil_ne m hm e (List.mem_of_getElem? he) hz), _, s5 _ _ hD, by rw [List.length_map, sizeLine_eq]; omega, fun b o z => ?_, ?_⟩
        · rw [upd_ne (ne_of_none z nD)]; exact s5 _ _ (s2 _ _ z)
        · rw [upd_same, sn]; simp [iv]
    · rw [if_neg hz, List.append_nil] at sn
      refine ⟨_, rfl, ifF (decide_eq_false fun z => hz (V.int.inj z)) ⟨s2, ?_⟩⟩
      rw [sn]; exact hD
  · obtain ⟨s2, hD⟩ := p
    have el : xs.length = pws.length := xl
    rw [el, List.take_length] at hD
    refine ⟨D, _, rfl, SqL.of hD, Nat.lt_of_le_of_lt (pil_len m pws) (by decide), fun ns' p' hperm hsort np => ?_⟩
    have en : ns' = parts m := perm_sorted (hperm.trans (pil_perm m hm)) hsort (parts_sorted m hm)
    subst en
    exact q _ p' ((S1.trans s2).trans (Same.upd np)) upd_same
end
end K31
namespace K31
open PySem PySem.Spec PyProof.Rows L2
/-! ### _law_target -/
theorem okR_set {m y : Int} {r : List Int} (h : okR m r) (h0 : 0 ≤ y) (h1 : y < m) (p : Nat) : okR m (r.set p y) := ⟨by rw [List.length_set]; exact h.1, fun x hx => by
  rcases List.mem_or_eq_of_mem_set hx with h2 | h2
  · exact h.2 x h2
  · subst h2; exact ⟨h0, h1⟩⟩
/-- p is not the list of cells -/
def NC (v p : Addr) (H : Hp) : Prop := ∀ c t, H v = some (.lst (.ref c :: t)) → c ≠ p
theorem NC.new {v p : Addr} {N : Nat} {H : Hp} (hv : Vat N H v) (n : H p = none) : NC v p H := fun c t e z => by
  obtain ⟨c0, _, _, _, e0, hc0, _⟩ := hv
  rw [e0] at e
  cases e
  rw [z, n] at hc0; cases hc0
theorem NC.keep {v p : Addr} {H H' : Hp} (h : NC v p H) (k : KeepC v H H') : NC v p H' := fun c t e => let ⟨t', e'⟩ := k c t e; h c t' e'
theorem KeepC.same {v : Addr} {N : Nat} {H H' : Hp} (hv : Vat N H v) (s : Same H H') : KeepC v H H' := fun c t e => by
  obtain ⟨c0, ns, t0, r0, e0, _⟩ := hv
  rw [s _ _ e0] at e
  cases e
  exact ⟨_, e0⟩
theorem Vat.put {v p : Addr} {N : Nat} {H : Hp} {o : HO} (hv : Vat N H v) (n : NC v p H) (ne : p ≠ v) : Vat N (L2.upd H p o) v ∧ NC v p (L2.upd H p o) := by
  obtain ⟨c0, ns, t0, r0, e0, hc0, rest⟩ := hv
  refine ⟨⟨c0, ns, t0, r0, by rw [upd_ne (Ne.symm ne)]; exact e0, by rw [upd_ne (n _ _ e0)]; exact hc0, rest⟩, fun c t e => ?_⟩
  rw [upd_ne (Ne.symm ne)] at e
  exact n c t e
theorem okR_get {m : Int} {r : List Int} (h : okR m r) {p : Nat} (hp : p < 4) : 0 ≤ r.getD p 0 ∧ r.getD p 0 < m := by
  have hl : p < r.length := by rw [h.1]; exact hp
  rw [List.getD_eq_getElem?_getD, List.getElem?_eq_getElem hl]
  exact h.2 _ (List.getElem_mem hl)
section
variable {P : Program} {w : World} {K : PySem.W.Frag} {mg : Str → Option Value} {base : Heap}

def spTarget : Sp := fun vs H Q _ => ∃ (v a : Addr) (b : List Int) (m : Int) (N : Nat), vs = [.ref v, .ref a, .int m] ∧ Vat N H v ∧ N ≤ 90000 ∧ H a = some (.lst (iv b)) ∧ b.length = 4 ∧ m ∈ moduli ∧ ∀ H' p r, KeptBut v H H' → Vat (N + 40) H' v → H p = none → H' p = some (.lst (iv r)) → okR m r → Q (.ref p) H'
abbrev n63 : List Str := ["_law_vat_here", "_law_bends", "_law_modulus", "_law_way", "_law_here", "_law_turn", "_law_row_here", "_law_at", "_law_other", "_law_place"]
theorem sc63 : FnScope n63 ["_law_vat_here", "_law_bends", "_law_modulus"] (defScope (top 63)) := ⟨rfl, rfl, rfl, by decide +kernel, rfl, by decide +kernel, by decide +kernel⟩
theorem c_target (T : Tx K mg) : C8.Cal P w K mg base 2 "_law_target" spTarget [] := by
  refine calD (T.w 10) sc63 (fun kV doc pm an cdv ct us hl => match us, hl with | [_, _, _], _ => rfl) (fun vs H Q E h => ?_) fun cdv A outer s H vs Q E hr h => ?_
  · obtain ⟨v, a, b, m, N, rfl, _⟩ := h; rfl
  obtain ⟨v, a, b, m, N, rfl, hv, hN, ha, hl, hm, q⟩ := h
  refine ⟨_, pss_cons (ps_par (i := 3) (j := 4) rfl sc63.nd rfl rfl (by decide) rfl rfl (pa_cons (C8.pe_c (c_scoop T) hr (by decide) rfl (pa_cons (pv 0) (pa_cons (pe_int) pa_nil))) (pa_cons (pe_callTy call_list_of (by rfl) (T.b 6) (by decide +kernel) (pa_cons (pv 1) pa_nil)) pa_nil)) (by rfl)) (C8.pss_cut (ps_for PassesOwn.never rfl (pi_range1 rfl (T.b 9) (pa_cons (pe_ifExp (pt_cmpR op_lt (pv 3) (pe_int) (nomark _)) (C8.pe_c (c_scoop T) hr (by decide) rfl (pa_cons (pv 0) (pa_cons (pe_int) pa_nil))) (pe_int)) pa_nil)) (pg_name (i := 5) sc63.nd rfl (.inl rfl)) (pss_one (ps_set (i := 4) sc63.nd rfl (.inl rfl) (C8.pe_c (c_exch T) hr (by decide) rfl (pa_cons (pv 4) (pa_cons (C8.pe_c (c_scoop T) hr (by decide) rfl (pa_cons (pv 0) (pa_cons (pe_int) pa_nil))) pa_nil)))))) (pss_cons (ps_set (i := 6) sc63.nd rfl (.inl rfl) (pe_callTy call_list_of (by rfl) (T.b 6) (by decide +kernel) (pa_cons (C8.pe_c (c_lrow T) hr (by decide) rfl (pa_cons (pv 4) (pa_cons (pv 2) pa_nil))) pa_nil))) (C8.pss_cut (ps_if (pt_cmpR op_eq (pv 3) (pe_int) (nomark _)) (pss_one (ps_setLc (i := 6) (own := [("_law_place", 9)]) (g := gName 9) (tt := tYes) rfl sc63.nd rfl rfl (sw_true rfl rfl rfl (by decide +kernel)) (pi_range1 rfl (T.b 9) (pa_cons (pe_int) pa_nil)) (blkOk_by (N := n63) (sc := defScope (top 63)) (by decide +kernel)) (fun _ _ _ _ _ => pg_name (i := 9) sc63.nd rfl (.inl rfl)) (fun _ _ _ _ _ => pts_nil) (fun _ _ _ _ _ => C8.pe_c (c_scoop T) hr (by decide) rfl (pa_cons (pv 0) (pa_cons (pv 2) pa_nil))))) (pss_nil)) (pss_cons (ps_par (i := 7) (j := 8) rfl sc63.nd rfl rfl (by decide) rfl rfl (pa_cons (C8.pe_c (c_scoop T) hr (by decide) rfl (pa_cons (pv 0) (pa_cons (pe_int) pa_nil))) (pa_cons (C8.pe_c (c_scoop T) hr (by decide) rfl (pa_cons (pv 0) (pa_cons (pe_int) pa_nil))) pa_nil)) (by rfl)) (C8.pss_cut (ps_if (pt_cmpR op_eq (pv 3) (pe_int) (nomark _)) (pss_one (ps_asg (pe_tup (pa_cons (pe_ix ix_list (pv 6) (pv 8) (fun _ _ => rfl)) (pa_cons (pe_ix ix_list (pv 6) (pv 7) (fun _ _ => rfl)) pa_nil))) (pg_tup rfl (pgs_cons (pg_sub (pv 6) (pv 7) set_list) (pgs_cons (pg_sub (pv 6) (pv 8) set_list) (pgs_nil)))))) (pss_nil)) (C8.pss_cut (ps_if (pt_cmpR op_eq (pv 3) (pe_int) (nomark _)) (pss_one (ps_asg (C8.pe_c (c_scoop T) hr (by decide) rfl (pa_cons (pv 0) (pa_cons (pv 2) pa_nil))) (pg_sub (pv 6) (pv 7) set_list))) (pss_nil)) (pss_one (ps_ret (pv 6))))))))), ?_⟩
  obtain ⟨m0, m24⟩ := moduli_pos hm
  have nv : ∀ {a : Addr}, H a = none → a ≠ v := fun {a} z e => by obtain ⟨c, _, _, _, hc, _⟩ := hv; rw [e, hc] at z; cases z
  have vne : ∀ {H' : Hp} {a : Addr}, KeptBut v H H' → a ≠ v → H' a = none → H a = none := fun {H' a} kb ne z => by
    cases e : H a with
    | none => rfl
    | some o => rw [kb _ _ ne e] at z; cases z
  have fr : ∀ {H' : Hp} {M : Nat} {a : Addr}, KeptBut v H H' → Vat M H' v → H' a = none → H a = none := fun {H' M a} kb hv z => by
    have ne : a ≠ v := fun e => by obtain ⟨c, _, _, _, hc, _⟩ := hv; rw [e, hc] at z; cases z
    exact vne kb ne z
  have nav : a ≠ v := fun e => by
    obtain ⟨c, _, _, _, hc, _⟩ := hv
    rw [e, hc] at ha
    exact iv_ne (Option.some.inj ha)
  refine ⟨_, rfl, v, 5, N, rfl, hv, by omega, by decide, by decide, fun H1 wy kb1 hv1 wy0 wy1 _ => ?_⟩
  refine ⟨_, rfl, a, _, rfl, .inl (SqL.of (kb1 _ _ nav ha)), fun c nc => ?_⟩
  have hc0 := fr kb1 hv1 nc
  have s2 : Same H1 (L2.upd H1 c (.lst (iv b))) := Same.upd nc
  have e2 : (L2.upd H1 c (.lst (iv b))) c = some (.lst (iv b)) := upd_same
  generalize L2.upd H1 c (.lst (iv b)) = H2 at s2 e2
  have kb2 := kb1.trans (kb_same (v := v) s2)
  have hv2 := hv1.same s2
  refine ⟨_, _, rfl, ?_⟩
  -- the walk's length
  refine ⟨fun σ' H' => ∃ c b z5, σ' = [some (.ref v), some (.ref a), some (.int m), some (.int wy), some (.ref c), z5, none, none, none, none] ∧ KeptBut v H H' ∧ Vat (N + 22) H' v ∧ H c = none ∧ H' c = some (.lst (iv b)) ∧ b.length = 4, ?_, ?_⟩
  · refine ⟨_, rfl, _, _, rfl, rfl, _, rfl, ?_⟩
    by_cases h3 : wy < 3
    · refine ifT (decide_eq_true h3) ?_
      refine ⟨_, rfl, v, 20, _, rfl, hv2, by omega, by decide, by decide, fun H3 z kb3 hv3 z0 z1 _ => ?_⟩
      refine ⟨z, rfl, by omega, by omega, for_range (n := Int.toNat (z)) (fun i σ' H' => ∃ c b z5, σ' = [some (.ref v), some (.ref a), some (.int m), some (.int wy), some (.ref c), z5, none, none, none, none] ∧ KeptBut v H H' ∧ Vat (N + 2 + i) H' v ∧ H c = none ∧ H' c = some (.lst (iv b)) ∧ b.length = 4)
        ⟨c, b, _, rfl, kb2.trans kb3, hv3, hc0, kb3 _ _ (nv hc0) e2, hl⟩ (fun i σ' H' hi pp => ?_) (fun σ' H' pp => ?_)⟩
      · have hi19 : i < 19 := by omega
        clear hl
        obtain ⟨c, b, z5, rfl, kb, hv, hc0, hc, hl⟩ := pp
        refine ⟨_, rfl, _, rfl, v, 4, _, rfl, hv, by omega, by decide, by decide, fun H4 z4 kb4 hv4 z40 z41 _ => ?_⟩
        obtain ⟨k, rfl⟩ : ∃ k : Nat, z4 = k := ⟨z4.toNat, by omega⟩
        refine ⟨c, b, k, rfl, kb4 _ _ (nv hc0) hc, hl, by omega, fun H5 p5 s5 n5 h5 => ?_⟩
        exact ⟨p5, _, _, rfl, (kb.trans kb4).trans (kb_same s5), (hv4.same s5).mono (by omega), fr (kb.trans kb4) hv4 n5, h5, (exch_len _ _).trans hl⟩
      · clear hl
        obtain ⟨c, b, z5, rfl, kb, hv, hc0, hc, hl⟩ := pp
        exact ⟨c, b, z5, rfl, kb, hv.mono (by omega), hc0, hc, hl⟩
    · refine ifF (decide_eq_false h3) ?_
      refine ⟨0, rfl, by omega, by omega, for_range (n := Int.toNat (0)) (fun i σ' H' => ∃ c b z5, σ' = [some (.ref v), some (.ref a), some (.int m), some (.int wy), some (.ref c), z5, none, none, none, none] ∧ KeptBut v H H' ∧ Vat (N + 2 + i) H' v ∧ H c = none ∧ H' c = some (.lst (iv b)) ∧ b.length = 4)
        ⟨c, b, _, rfl, kb2, hv2.mono (by omega), hc0, e2, hl⟩ (fun i σ' H' hi pp => ?_) (fun σ' H' pp => ?_)⟩
      · have hi19 : i < 19 := by omega
        clear hl
        obtain ⟨c, b, z5, rfl, kb, hv, hc0, hc, hl⟩ := pp
        refine ⟨_, rfl, _, rfl, v, 4, _, rfl, hv, by omega, by decide, by decide, fun H4 z4 kb4 hv4 z40 z41 _ => ?_⟩
        obtain ⟨k, rfl⟩ : ∃ k : Nat, z4 = k := ⟨z4.toNat, by omega⟩
        refine ⟨c, b, k, rfl, kb4 _ _ (nv hc0) hc, hl, by omega, fun H5 p5 s5 n5 h5 => ?_⟩
        exact ⟨p5, _, _, rfl, (kb.trans kb4).trans (kb_same s5), (hv4.same s5).mono (by omega), fr (kb.trans kb4) hv4 n5, h5, (exch_len _ _).trans hl⟩
      · clear hl
        obtain ⟨c, b, z5, rfl, kb, hv, hc0, hc, hl⟩ := pp
        exact ⟨c, b, z5, rfl, kb, hv.mono (by omega), hc0, hc, hl⟩
  clear hl e2 kb2 hv2 s2 nc
  rintro σ' H2 ⟨c, b, z5, rfl, kb2, hv2, hc0, hc, hl⟩
  refine ⟨_, rfl, _, rfl, c, b, m, rfl, .inl hc, by omega, m0, fun H3 p3 s3 h3 => ?_⟩
  refine ⟨p3, _, rfl, .inr (SqT.of h3), fun p np => ?_⟩
  have kb3 := kb2.trans (kb_same (v := v) s3)
  have hv3 := hv2.same s3
  have np0 := fr kb3 hv3 np
  have s4 : Same H3 (L2.upd H3 p (.lst (iv (R b m)))) := Same.upd np
  have e4 : (L2.upd H3 p (.lst (iv (R b m)))) p = some (.lst (iv (R b m))) := upd_same
  generalize L2.upd H3 p (.lst (iv (R b m))) = H4 at s4 e4
  have kb4 := kb3.trans (kb_same (v := v) s4)
  have hv4 := hv3.same s4
  have ok4 : okR m (R b m) := R_ok hl m0
  have nc4 := (NC.new hv3 np).keep (KeepC.same hv3 s4)
  refine ⟨fun σ' H' => ∃ p r z9, σ' = [some (.ref v), some (.ref a), some (.int m), some (.int wy), some (.ref c), z5, some (.ref p), none, none, z9] ∧ KeptBut v H H' ∧ Vat (N + 26) H' v ∧ NC v p H' ∧ H p = none ∧ H' p = some (.lst (iv r)) ∧ okR m r, ?_, ?_⟩
  · refine ⟨_, rfl, rfl, _, rfl, ?_⟩
    by_cases h3 : wy = 3
    · refine ifT (decide_eq_true (congrArg V.int h3)) ?_
      refine ⟨4, rfl, by decide, by decide, fun D nD => ?_⟩
      have nD0 := fr kb4 hv4 nD
      refine lc_range (n := 4) (fun i H' => KeptBut v H H' ∧ Vat (N + 22 + i) H' v ∧ NC v D H' ∧ ∃ r, H' D = some (.lst (iv r)) ∧ r.length = i ∧ ∀ x ∈ r, 0 ≤ x ∧ x < m) ⟨kb4.trans (kb_same (Same.upd nD)), hv4.same (Same.upd nD), (NC.new hv4 nD).keep (KeepC.same hv4 (Same.upd nD)), [], upd_same, rfl, fun x hx => nomatch hx⟩ (fun i H' hi pp => ?_) (fun H' pp => ?_)
      · obtain ⟨kb, hv, kc, r, hr', hrl, hrm⟩ := pp
        refine ⟨rfl, ?_⟩
        refine ⟨_, rfl, _, rfl, v, m, _, rfl, hv, by omega, m0, by omega, fun H5 z kb5 hv5 z0 z1 kc5 => ?_⟩
        have hD5 := kb5 _ _ (nv nD0) hr'
        refine ⟨_, hD5, by rw [List.length_map, sizeLine_eq]; omega, fun b o ne e => ?_, (hv5.put (kc.keep kc5) (nv nD0)).1, (hv5.put (kc.keep kc5) (nv nD0)).2, r ++ [z], ?_, by rw [List.length_append, hrl]; rfl, fun x hx => ?_⟩
        · rw [upd_ne (ne_of_none e nD0)]; exact kb5 _ _ ne (kb _ _ ne e)
        · rw [upd_same]; simp [iv]
        · rcases List.mem_append.mp hx with h | h
          · exact hrm x h
          · rw [List.mem_singleton.mp h]; exact ⟨z0, z1⟩
      · obtain ⟨kb, hv, kc, r, hr', hrl, hrm⟩ := pp
        exact ⟨D, r, _, rfl, kb, hv, kc, nD0, hr', hrl, hrm⟩
    · exact ifF (decide_eq_false fun e => h3 (V.int.inj e)) ⟨p, _, _, rfl, kb4, hv4.mono (by omega), nc4, np0, e4, ok4⟩
  clear nc4 ok4 e4 np0 np s4 kb4 hv4 kb3 hv3
  rintro σ' H4 ⟨p, r, z9, rfl, kb4, hv4, nc4, np0, e4, ok4⟩
  refine ⟨_, rfl, v, 4, _, rfl, hv4, by omega, by decide, by decide, fun H5 z7 kb5 hv5 z70 z71 kc5 => ?_⟩
  refine ⟨_, rfl, v, 4, _, rfl, hv5, by omega, by decide, by decide, fun H6 z8 kb6 hv6 z80 z81 kc6 => ?_⟩
  obtain ⟨k7, rfl⟩ : ∃ k : Nat, z7 = k := ⟨z7.toNat, by omega⟩
  obtain ⟨k8, rfl⟩ : ∃ k : Nat, z8 = k := ⟨z8.toNat, by omega⟩
  have l7 : k7 < 4 := by omega
  have l8 : k8 < 4 := by omega
  refine ⟨_, _, rfl, ?_⟩
  have kb := (kb4.trans kb5).trans kb6
  have nc6 := (nc4.keep kc5).keep kc6
  have hp := kb6 _ _ (nv np0) (kb5 _ _ (nv np0) e4)
  refine ⟨fun σ' H' => ∃ r, σ' = [some (.ref v), some (.ref a), some (.int m), some (.int wy), some (.ref c), z5, some (.ref p), some (.int (k7 : Int)), some (.int (k8 : Int)), z9] ∧ KeptBut v H H' ∧ Vat (N + 28) H' v ∧ NC v p H' ∧ H' p = some (.lst (iv r)) ∧ okR m r, ?_, ?_⟩
  · refine ⟨_, rfl, rfl, _, rfl, ?_⟩
    by_cases h2 : wy = 2
    · refine ifT (decide_eq_true (congrArg V.int h2)) ?_
      refine ⟨_, rfl, _, rfl, p, _, _, _, rfl, rfl, SqL.of hp, iv_at (p := k8) (by rw [ok4.1]; exact l8), _, rfl, _, rfl, p, _, _, _, rfl, rfl, SqL.of hp, iv_at (p := k7) (by rw [ok4.1]; exact l7), by show 2 ≤ sizeLine; decide, fun t nt => ?_⟩
      have s7 : Same H6 (L2.upd H6 t (.tup [V.int (r.getD k8 0), V.int (r.getD k7 0)])) := Same.upd nt
      refine ⟨t, _, rfl, SqT.of upd_same, rfl, ?_⟩
      have hp7 := s7 _ _ hp
      have hv7 := hv6.same s7
      have kb7 := kb.trans (kb_same (v := v) s7)
      show gCons _ _ _ _ (L2.upd H6 t (.tup [V.int (r.getD k8 0), V.int (r.getD k7 0)])) _
      generalize L2.upd H6 t (.tup [V.int (r.getD k8 0), V.int (r.getD k7 0)]) = H7 at s7 hp7 hv7 kb7
      have nc7 := nc6.keep (KeepC.same hv6 s7)
      refine ⟨_, _, rfl, _, rfl, _, rfl, p, _, _, k7, rfl, rfl, hp7, ix4 ok4.1 l7, ?_⟩
      have ew : (iv r).set k7 (.int (r.getD k8 0)) = iv (r.set k7 (r.getD k8 0)) := iv_set _ _ _
      have ok8 := okR_set ok4 (okR_get ok4 l8).1 (okR_get ok4 l8).2 k7
      have P8 := hv7.put (o := .lst ((iv r).set k7 (.int (r.getD k8 0)))) nc7 (nv np0)
      have kb8 : KeptBut v H (L2.upd H7 p (.lst ((iv r).set k7 (.int (r.getD k8 0))))) := fun b o ne e => by rw [upd_ne (ne_of_none e np0)]; exact kb7 _ _ ne e
      have hp8 : (L2.upd H7 p (.lst ((iv r).set k7 (.int (r.getD k8 0))))) p = some (.lst (iv (r.set k7 (r.getD k8 0)))) := by rw [upd_same, ew]
      show gCons _ _ _ _ (L2.upd H7 p (.lst ((iv r).set k7 (.int (r.getD k8 0))))) _
      generalize L2.upd H7 p (.lst ((iv r).set k7 (.int (r.getD k8 0)))) = H8 at P8 kb8 hp8
      obtain ⟨hv8, nc8⟩ := P8
      refine ⟨_, _, rfl, _, rfl, _, rfl, p, _, _, k8, rfl, rfl, hp8, ix4 ok8.1 l8, rfl, ?_⟩
      have P9 := hv8.put (o := .lst ((iv (r.set k7 (r.getD k8 0))).set k8 (.int (r.getD k7 0)))) nc8 (nv np0)
      refine ⟨(r.set k7 (r.getD k8 0)).set k8 (r.getD k7 0), rfl, fun b o ne e => ?_, P9.1.mono (by omega), P9.2, ?_, okR_set ok8 (okR_get ok4 l7).1 (okR_get ok4 l7).2 k8⟩
      · rw [upd_ne (ne_of_none e np0)]; exact kb8 _ _ ne e
      · rw [upd_same, iv_set]
    · exact ifF (decide_eq_false fun e => h2 (V.int.inj e)) ⟨r, rfl, kb, hv6.mono (by omega), nc6, hp, ok4⟩
  rintro σ' H7 ⟨r, rfl, kb, hv6, nc6, hp, ok4⟩
  refine ⟨fun σ' H' => ∃ r, σ' = [some (.ref v), some (.ref a), some (.int m), some (.int wy), some (.ref c), z5, some (.ref p), some (.int (k7 : Int)), some (.int (k8 : Int)), z9] ∧ KeptBut v H H' ∧ Vat (N + 29) H' v ∧ H' p = some (.lst (iv r)) ∧ okR m r, ?_, ?_⟩
  · refine ⟨_, rfl, rfl, _, rfl, ?_⟩
    by_cases h4 : wy = 4
    · refine ifT (decide_eq_true (congrArg V.int h4)) ?_
      refine ⟨_, rfl, _, rfl, v, m, _, rfl, hv6, by omega, m0, by omega, fun H5 z kb5 hv5 z0 z1 kc5 => ?_⟩
      refine ⟨_, rfl, _, rfl, p, _, _, k7, rfl, rfl, kb5 _ _ (nv np0) hp, ix4 ok4.1 l7, ?_⟩
      refine ⟨r.set k7 z, rfl, fun b o ne e => ?_, (hv5.put (nc6.keep kc5) (nv np0)).1, ?_, okR_set ok4 z0 z1 k7⟩
      · rw [upd_ne (ne_of_none e np0)]; exact kb5 _ _ ne (kb _ _ ne e)
      · rw [upd_same, iv_set]
    · exact ifF (decide_eq_false fun e => h4 (V.int.inj e)) ⟨r, rfl, kb, hv6.mono (by omega), hp, ok4⟩
  rintro σ' H8 ⟨r, rfl, kb, hv6, hp, ok4⟩
  exact ⟨_, rfl, q H8 p r kb (hv6.mono (by omega)) np0 hp ok4⟩
end
end K31
namespace K31
open PySem PySem.Spec PyProof.Rows L2
def rLen (K : PySem.W.Frag) : List V → Hp → VK → Prop := fun xs H Q => ∃ p ys, xs = [V.ref p] ∧ (SqL K H p ys ∨ SqT K H p ys) ∧ Q (V.int (ys.length : Int)) H
section
variable {P : Program} {w : World} {K : PySem.W.Frag} {mg : Str → Option Value} {base : Heap}
/-! ### _law_first_right -/
def spFirst (K : PySem.W.Frag) : Sp := fun vs H Q _ => ∃ (a tg l d : Addr) (b goal : List Int) (m : Int) (t td : Tab) (u : List Nat), vs = [.ref a, .int m, .ref tg, .ref l, .ref d] ∧ H a = some (.lst (iv b)) ∧ b.length = 4 ∧ H tg = some (.tup (iv goal)) ∧ 0 < m ∧ m ≤ 24 ∧
  SqT K H l (wv u) ∧ u.length < 400000 ∧ Whole m (R b m) t ∧ Whole m goal td ∧ (goal, u) ∈ t ∧ DicR Vd H d td ∧ ∀ H', Same H H' → Q (.bl true) H'
abbrev n64 : List Str := ["_law_bends", "_law_modulus", "_law_target_here", "_law_letters", "_law_far_here", "_law_here", "_law_at", "_law_letter", "_law_row_here", "_law_near", "_law_place"]
theorem sc64 : FnScope n64 ["_law_bends", "_law_modulus", "_law_target_here", "_law_letters", "_law_far_here"] (defScope (top 64)) := ⟨rfl, rfl, rfl, by decide +kernel, rfl, by decide +kernel, by decide +kernel⟩
theorem c_firstRight (T : Tx K mg) : C8.Cal P w K mg base 3 "_law_first_right" (spFirst K) [] := by
  refine calD (T.w 11) sc64 (fun kV doc pm an cdv ct us hl => match us, hl with | [_, _, _, _, _], _ => rfl) (fun vs H Q E h => ?_) fun cdv A outer s H vs Q E hr h => ?_
  · obtain ⟨a, tg, l, d, b, goal, m, t, td, u, rfl, _⟩ := h; rfl
  obtain ⟨a, tg, l, d, b, goal, m, t, td, u, rfl, ha, hl4, htg, m0, m24, hu8, hz, W, Wd, hg, D, q⟩ := h
  have hu := hu_of hr
  refine ⟨_, pss_cons (ps_set (i := 5) sc64.nd rfl (.inl rfl) (pe_callTy call_list_of (by rfl) (T.b 6) (by decide +kernel) (pa_cons (pv 0) pa_nil))) (pss_cons (ps_for PassesOwn.never rfl (pi_enumT (by rfl) (T.b 12) (pa_cons (pv 3) pa_nil)) (pg_tup rfl (pgs_cons (pg_name (i := 6) sc64.nd rfl (.inr rfl)) (pgs_cons (pg_name (i := 7) sc64.nd rfl (.inl rfl)) (pgs_nil)))) (pss_cons (ps_set (i := 8) sc64.nd rfl (.inr rfl) (C8.pe_c (c_lrow T) hr (by decide) rfl (pa_cons (pv 5) (pa_cons (pv 1) pa_nil)))) (pss_cons (ps_setLc (i := 9) (own := [("_law_place", 10)]) (g := gName 10) rfl sc64.nd rfl rfl (sw_true rfl rfl rfl (by decide +kernel)) (pi_range1 rfl (T.b 9) (pa_cons (pe_int) pa_nil)) (blkOk_by (N := n64) (sc := defScope (top 64)) (by decide +kernel)) (fun _ _ _ _ _ => pg_name (i := 10) sc64.nd rfl (.inl rfl)) (fun _ _ _ _ _ => pts_one (pt_cmpR op_eq (pe_dget hu (pv 4) (C8.pe_c (c_next T) hr (by decide) rfl (pa_cons (pv 8) (pa_cons (pv 10) (pa_cons (pv 1) pa_nil)))) (fun _ _ => rfl)) (pe_op op_sub (pe_op op_sub (pe_callB (show CallR _ (.builtin "len") (rLen K) from call_len_seq) (by rfl) (T.b 7) (by decide +kernel) (pa_cons (pv 3) pa_nil)) (pv 6)) (pe_int)) (nomark _))) (fun _ _ _ _ _ => pv 10)) (pss_cons (ps_if (PW.pt (pw_or (pt_cmpR (op_eqD hr.units) (pv 9) (pe_lst pa_nil) (nomark _)) (pw_or1 (pt_cmpR op_ne (pe_ix ix_list (pv 9) (pe_int) (fun _ _ => rfl)) (pv 7) (nomark _))))) (pss_one (ps_ret (pe_bl))) (pss_nil)) (pss_one (ps_set (i := 5) sc64.nd rfl (.inl rfl) (C8.pe_c (c_exch T) hr (by decide) rfl (pa_cons (pv 5) (pa_cons (pv 7) pa_nil))))))))) (pss_one (ps_ret (pe_cmpR (op_eqD hr.units) (C8.pe_c (c_lrow T) hr (by decide) rfl (pa_cons (pv 5) (pa_cons (pv 1) pa_nil))) (pv 2) (nomark _))))), ?_⟩
  have ok := R_ok hl4 m0
  have hgo := (W.snd _ _ hg).1
  have huw := (W.snd _ _ hg).2.1
  refine ⟨_, rfl, a, _, rfl, .inl (SqL.of ha), fun c nc => ?_⟩
  have s1 : Same H (L2.upd H c (.lst (iv b))) := Same.upd nc
  have hc1 : (L2.upd H c (.lst (iv b))) c = some (.lst (iv b)) := upd_same
  generalize L2.upd H c (.lst (iv b)) = H1 at s1 hc1
  refine ⟨_, rfl, l, _, rfl, sameT s1 hu8, for_enumT (xs := wv u) (fun i σ' H' => ∃ c z6 z7 z8 z9, σ' = [some (.ref a), some (.int m), some (.ref tg), some (.ref l), some (.ref d), some (.ref c), z6, z7, z8, z9, none] ∧ Same H H' ∧ H' c = some (.lst (iv (exF b (u.take i)))))
    ⟨c, _, _, _, _, rfl, s1, hc1⟩ (fun i σ' H' p => by obtain ⟨_, _, _, _, _, _, s', _⟩ := p; exact sameT s' hu8) (fun i x σ' H' P hx p nP => ?_) (fun σ' H' p => ?_)⟩
  · obtain ⟨c, z6, z7, z8, z9, rfl, S, hc⟩ := p
    obtain ⟨k, hk, rfl⟩ := wv_at hx
    have hi : i < u.length := by
      rcases Nat.lt_or_ge i u.length with h | h
      · exact h
      · rw [List.getElem?_eq_none h] at hk; cases hk
    have ek : u[i] = k := by rw [List.getElem?_eq_getElem hi] at hk; exact Option.some.inj hk
    obtain ⟨f1, l', f2⟩ := first_right m0 ok W Wd hg hi
    have s2 : Same H' (L2.upd H' P (.tup [.int (i : Nat), .int (k : Int)])) := Same.upd nP
    have hP : (L2.upd H' P (.tup [.int (i : Nat), .int (k : Int)])) P = some (.tup [.int (i : Nat), .int (k : Int)]) := upd_same
    show gTup _ _ _ _ _ (L2.upd H' P (.tup [.int (i : Nat), .int (k : Int)])) _
    generalize L2.upd H' P (.tup [.int (i : Nat), .int (k : Int)]) = H2 at s2 hP
    refine ⟨P, _, rfl, SqT.of hP, rfl, _, _, rfl, _, _, rfl, rfl, ?_⟩
    have hc2 := s2 _ _ hc
    have el4 : (exF b (u.take i)).length = 4 := (exF_len _ _).trans hl4
    refine ⟨_, rfl, _, rfl, c, _, m, rfl, .inl hc2, by omega, m0, fun H3 p3 s3 h3 => ?_⟩
    have S3 := (S.trans s2).trans s3
    rw [R_exF] at h3
    refine ⟨4, rfl, by decide, by decide, fun D' nD => ?_⟩
    have okf : okR m (follow m (R b m) (u.take i)) := follow_ok m0 _ ok
    refine lc_range (n := 4) (fun j H' => Same H3 H' ∧ H' D' = some (.lst (wv (([0, 1, 2, 3].take j).filter fun p => decide ((dist td (nx m (follow m (R b m) (u.take i)) p) : Int) = (u.length : Int) - i - 1))))) ⟨Same.upd nD, upd_same⟩ (fun j H' hj pp => ?_) (fun H' pp => ?_)
    · obtain ⟨s4, hD⟩ := pp
      have hl0 : (([0, 1, 2, 3].take j).filter fun p => decide ((dist td (nx m (follow m (R b m) (u.take i)) p) : Int) = (u.length : Int) - i - 1)).length ≤ 4 := by
        refine Nat.le_trans (List.length_filter_le _ _) ?_
        rw [List.length_take]; simp; omega
      have hj0 : ([0, 1, 2, 3] : List Nat)[j]? = some j := by
        have : j = 0 ∨ j = 1 ∨ j = 2 ∨ j = 3 := by omega
        rcases this with rfl | rfl | rfl | rfl <;> rfl
      have ej := take_snoc hj0
      refine ⟨rfl, ?_⟩
      refine ⟨_, rfl, _, rfl, _, rfl, _, rfl, p3, _, j, m, by rw [Int.zero_add]; rfl, s4 _ _ h3, okf.1, hj, m0, fun H5 q5 s5 h5 => ?_⟩
      obtain ⟨v', hv'⟩ := mem_keys.mp (f1 j hj)
      have D5 : DicR Vd H5 d td := D.keep vd_ok (fun _ _ z => s5 _ _ (s4 _ _ (S3 _ _ z))) (fun _ z => s5 _ _ (s4 _ _ (S3 _ _ z)))
      obtain ⟨x, gx, ex⟩ := D5.get_some Wd.nd h5 hv'
      subst ex
      have ed : dist td (nx m (follow m (R b m) (u.take i)) j) = v'.length := by
        unfold dist
        rw [val_some Wd.nd hv']; rfl
      refine ⟨d, _, rfl, gx, ?_⟩
      refine ⟨_, rfl, l, _, rfl, .inr (sameT s5 (sameT s4 (sameT S3 hu8))), _, rfl, _, _, rfl, rfl, _, _, rfl, rfl, rfl, _, rfl, ?_⟩
      have elu : ((wv u).length : Int) = (u.length : Int) := by rw [List.length_map]
      rw [elu]
      rw [ej, List.filter_append]
      by_cases hh : (v'.length : Int) = (u.length : Int) - i - 1
      · refine ifT (decide_eq_true (congrArg V.int hh)) ?_
        refine ⟨_, rfl, _, s5 _ _ hD, by rw [List.length_map, sizeLine_eq]; omega, fun b' o z => ?_, ?_⟩
        · rw [upd_ne (ne_of_none z nD)]; exact s5 _ _ (s4 _ _ z)
        · rw [upd_same, Int.zero_add, List.filter_cons_of_pos (by rw [ed]; exact decide_eq_true hh)]
          simp [wv]
      · refine ifF (decide_eq_false fun z => hh (V.int.inj z)) ⟨s4.trans s5, ?_⟩
        rw [List.filter_cons_of_neg (by rw [ed]; simpa using hh), List.filter_nil, List.append_nil]
        exact s5 _ _ hD
    · obtain ⟨s4, hD⟩ := pp
      rw [show ([0, 1, 2, 3] : List Nat).take 4 = [0, 1, 2, 3] from rfl, f2, ek] at hD
      refine ⟨_, rfl, by show 0 ≤ sizeLine; decide, fun le nle => ?_⟩
      have s5 : Same H' (L2.upd H' le (.lst [])) := Same.upd nle
      have hle : (L2.upd H' le (.lst [])) le = some (.lst []) := upd_same
      generalize L2.upd H' le (.lst []) = H5 at s5 hle
      have hD5 := s5 _ _ hD
      have hD6 : H5 D' = some (.lst (iv ((k :: l').map fun (x : Nat) => (x : Int)))) := by rw [hD5]; simp [wv, iv]
      refine ⟨.list (dIs ((k :: l').map fun (x : Nat) => (x : Int))), .list (dIs []), .lst (SqL.of hD6) (dIs_dp K _ _), .lst (SqL.of hle) .nil, lstI_shaped _, lstI_shaped [], ?_⟩
      rw [eqv_lstI]
      refine ⟨_, rfl, ifF (by simp) ?_⟩
      refine ⟨_, rfl, D', _, 0, V.int (k : Int), rfl, rfl, SqL.of hD6, iv_at (p := 0) (by simp), _, rfl, rfl, _, rfl, ?_⟩
      refine ifF (by simp) ?_
      have hc5 := s5 _ _ (s4 _ _ (s3 _ _ hc2))
      refine ⟨_, rfl, _, rfl, c, _, k, rfl, hc5, el4, huw k (List.mem_of_getElem? hk), fun H6 c6 s6 n6 h6 => ?_⟩
      refine ⟨c6, _, _, _, _, rfl, (((S3.trans s4).trans s5).trans s6), ?_⟩
      rw [take_snoc hk, exF_snoc]; exact h6
  · obtain ⟨c, z6, z7, z8, z9, rfl, S, hc⟩ := p
    have e : (wv u).length = u.length := List.length_map _
    rw [e, List.take_length] at hc
    refine ⟨_, rfl, _, rfl, c, _, m, rfl, .inl hc, by rw [exF_len]; omega, m0, fun H3 p3 s3 h3 => ?_⟩
    rw [R_exF, hgo] at h3
    refine ⟨_, rfl, .tuple (dIs goal), .tuple (dIs goal), .tup (SqT.of h3) (dIs_dp K _ _), .tup (SqT.of (s3 _ _ (S _ _ htg))) (dIs_dp K _ _), tupI_shaped _, tupI_shaped _, ?_⟩
    rw [eqv_tupI, decide_eq_true rfl]
    exact q _ (S.trans s3)
end
end K31
namespace K31
open PySem PySem.Spec PyProof.Rows L2
theorem KeepC.trans {v : Addr} {H H1 H2 : Hp} (a : KeepC v H H1) (b : KeepC v H1 H2) : KeepC v H H2 := fun c t e => let ⟨t1, e1⟩ := b c t e; a c t1 e1
theorem wv_take (u : List Nat) (p : Nat) : cutV (wv u) none (some (p : Int)) = wv (u.take p) := by rw [cutV_to]; exact List.map_take.symm
theorem wv_drop (u : List Nat) (p : Nat) : cutV (wv u) (some (p : Int)) none = wv (u.drop p) := by rw [cutV_from]; exact List.map_drop.symm
theorem wv_drop1 (u : List Nat) (p : Nat) : cutV (wv u) (some ((p : Int) + 1)) none = wv (u.drop (p + 1)) := by
  have : (p : Int) + 1 = ((p + 1 : Nat) : Int) := by omega
  rw [this, wv_drop]
theorem okW_take {u : List Nat} (h : okW u) (p : Nat) : okW (u.take p) := fun x hx => h x (List.mem_of_mem_take hx)
theorem okW_drop {u : List Nat} (h : okW u) (p : Nat) : okW (u.drop p) := fun x hx => h x (List.mem_of_mem_drop hx)
section
variable {P : Program} {w : World} {K : PySem.W.Frag} {mg : Str → Option Value} {base : Heap}

/-! ### _law_bent -/
def spBent : Sp := fun vs H Q _ => ∃ (v l : Addr) (u : List Nat) (N : Nat), vs = [.ref v, .ref l] ∧ Vat N H v ∧ N ≤ 90000 ∧ H l = some (.tup (wv u)) ∧ okW u ∧ u.length ≤ 400000 ∧
  ∀ H' p u', KeptBut v H H' → Vat (N + 3) H' v → KeepC v H H' → H' p = some (.tup (wv u')) → okW u' → u'.length ≤ u.length + 2 → Q (.ref p) H'
abbrev n65 : List Str := ["_law_vat_here", "_law_letters", "_law_at", "_law_way", "_law_letter"]
theorem sc65 : FnScope n65 ["_law_vat_here", "_law_letters"] (defScope (top 65)) := ⟨rfl, rfl, rfl, by decide +kernel, rfl, by decide +kernel, by decide +kernel⟩
theorem c_bent (T : Tx K mg) : C8.Cal P w K mg base 2 "_law_bent" spBent [] := by
  refine calD (T.w 12) sc65 (fun kV doc pm an cdv ct us hl => match us, hl with | [_, _], _ => rfl) (fun vs H Q E h => ?_) fun cdv A outer s H vs Q E hr h => ?_
  · obtain ⟨v, l, u, N, rfl, _⟩ := h; rfl
  obtain ⟨v, l, u, N, rfl, hv, hN, hl, ok, hz, q⟩ := h
  refine ⟨_, pss_cons (ps_par (i := 2) (j := 3) rfl sc65.nd rfl rfl (by decide) rfl rfl (pa_cons (C8.pe_c (c_scoop T) hr (by decide) rfl (pa_cons (pv 0) (pa_cons (pe_op op_add (pe_callB (call_len_seq) (by rfl) (T.b 7) (by decide +kernel) (pa_cons (pv 1) pa_nil)) (pe_int)) pa_nil))) (pa_cons (C8.pe_c (c_scoop T) hr (by decide) rfl (pa_cons (pv 0) (pa_cons (pe_int) pa_nil))) pa_nil)) (by rfl)) (pss_cons (ps_set (i := 4) sc65.nd rfl (.inl rfl) (C8.pe_c (c_scoop T) hr (by decide) rfl (pa_cons (pv 0) (pa_cons (pe_int) pa_nil)))) (pss_cons (ps_if (pt_cmpR op_eq (pv 3) (pe_int) (nomark _)) (pss_one (ps_ret (pe_op op_catA (pe_op op_catA (pe_slice sl_tupA (pv 1) po_none (po_some (pv 2))) (pe_tup (pa_cons (pv 4) (pa_cons (pv 4) pa_nil)))) (pe_slice sl_tupA (pv 1) (po_some (pv 2)) po_none)))) (pss_nil)) (pss_cons (ps_if (pt_cmpR op_eq (pv 3) (pe_int) (nomark _)) (pss_one (ps_ret (pe_op op_catA (pe_slice sl_tupA (pv 1) po_none (po_some (pv 2))) (pe_slice sl_tupA (pv 1) (po_some (pe_op op_add (pv 2) (pe_int))) po_none)))) (pss_nil)) (pss_cons (ps_if (pt_cmpR op_eq (pv 3) (pe_int) (nomark _)) (pss_one (ps_ret (pe_op op_catA (pe_op op_catA (pe_slice sl_tupA (pv 1) po_none (po_some (pv 2))) (pe_tup (pa_cons (pv 4) pa_nil))) (pe_slice sl_tupA (pv 1) (po_some (pe_op op_add (pv 2) (pe_int))) po_none)))) (pss_nil)) (pss_one (ps_ret (pe_revT (pv 1)))))))), ?_⟩
  have nlv : l ≠ v := fun e => by obtain ⟨c, _, _, _, hc, _⟩ := hv; rw [e, hc] at hl; cases hl
  have elu : (wv u).length = u.length := List.length_map _
  refine ⟨_, rfl, _, rfl, l, _, rfl, .inr (SqT.of hl), _, _, rfl, rfl, v, _, N, rfl, hv, by omega, by rw [elu]; omega, by rw [elu]; omega, fun H1 z1 kb1 hv1 z10 z11 kc1 => ?_⟩
  refine ⟨_, rfl, v, 4, _, rfl, hv1, by omega, by decide, by decide, fun H2 wy kb2 hv2 wy0 wy1 kc2 => ?_⟩
  refine ⟨_, _, rfl, ?_⟩
  refine ⟨_, rfl, v, 4, _, rfl, hv2, by omega, by decide, by decide, fun H3 z3 kb3 hv3 z30 z31 kc3 => ?_⟩
  obtain ⟨p, rfl⟩ : ∃ k : Nat, z1 = k := ⟨z1.toNat, by omega⟩
  obtain ⟨k, rfl⟩ : ∃ k : Nat, z3 = k := ⟨z3.toNat, by omega⟩
  have k4 : k < 4 := by omega
  have kb := (kb1.trans kb2).trans kb3
  have kc := (kc1.trans kc2).trans kc3
  have h3 := kb _ _ nlv hl
  have fin : ∀ (H' : Hp) (c : Addr) (u' : List Nat), Same H3 H' → H' c = some (.tup (wv u')) → okW u' → u'.length ≤ u.length + 2 → Q (.ref c) H' := fun H' c u' s' h1 h2 h3 => q H' c u' (kb.trans (kb_same s')) (hv3.same s') (kc.trans (KeepC.same hv3 s')) h1 h2 h3
  have lt : (u.take p).length ≤ u.length := by rw [List.length_take]; omega
  have ld : (u.drop p).length ≤ u.length := by rw [List.length_drop]; omega
  have ld1 : (u.drop (p + 1)).length ≤ u.length := by rw [List.length_drop]; omega
  have lt' : ((wv (u.take p)).length : Nat) = (u.take p).length := List.length_map _
  have ld' : ((wv (u.drop p)).length : Nat) = (u.drop p).length := List.length_map _
  have ld1' : ((wv (u.drop (p + 1))).length : Nat) = (u.drop (p + 1)).length := List.length_map _
  have sz := sizeLine_eq
  refine ⟨_, rfl, rfl, _, rfl, ?_⟩
  by_cases h0 : wy = 0
  · refine ifT (decide_eq_true (congrArg V.int h0)) ?_
    refine ⟨_, rfl, _, rfl, _, rfl, slA_tk h3 fun H4 p4 s4 h4 => ?_⟩
    rw [wv_take] at h4
    refine ⟨_, rfl, _, rfl, by show 2 ≤ sizeLine; decide, fun t nt => ?_⟩
    have s5 : Same H4 (L2.upd H4 t (.tup [V.int (k : Int), V.int (k : Int)])) := Same.upd nt
    have h5 : (L2.upd H4 t (.tup [V.int (k : Int), V.int (k : Int)])) t = some (.tup [V.int (k : Int), V.int (k : Int)]) := upd_same
    generalize L2.upd H4 t (.tup [V.int (k : Int), V.int (k : Int)]) = H5 at s5 h5
    refine catA_tk (s5 _ _ h4) h5 (by rw [lt']; show _ + 2 ≤ _; omega) fun H6 p6 s6 h6 => ?_
    have S6 := (s4.trans s5).trans s6
    refine ⟨_, rfl, _, rfl, _, rfl, ?_⟩
    dsimp only [tNoPart]
    refine slA_tk (S6 _ _ h3) fun H7 p7 s7 h7 => ?_
    rw [wv_drop] at h7
    refine catA_tk (s7 _ _ h6) h7 (by rw [List.length_append, lt', ld']; show _ + 2 + _ ≤ _; omega) fun H8 p8 s8 h8 => ?_
    refine fin H8 p8 (u.take p ++ [k, k] ++ u.drop p) ((S6.trans s7).trans s8) ?_ (okW_app (okW_app (okW_take ok p) (fun x hx => by simp at hx; omega)) (okW_drop ok p)) ?_
    · rw [h8]; simp [wv]
    · rw [List.length_append, List.length_append, List.length_take, List.length_drop]; simp; omega
  refine ifF (decide_eq_false fun e => h0 (V.int.inj e)) ?_
  refine ⟨_, rfl, rfl, _, rfl, ?_⟩
  by_cases h1 : wy = 1
  · refine ifT (decide_eq_true (congrArg V.int h1)) ?_
    refine ⟨_, rfl, _, rfl, _, rfl, slA_tk h3 fun H4 p4 s4 h4 => ?_⟩
    rw [wv_take] at h4
    refine ⟨_, rfl, _, rfl, _, _, rfl, rfl, _, rfl, ?_⟩
    dsimp only [tNoPart]
    refine slA_tk (s4 _ _ h3) fun H5 p5 s5 h5 => ?_
    rw [wv_drop1] at h5
    refine catA_tk (s5 _ _ h4) h5 (by rw [lt', ld1']; omega) fun H6 p6 s6 h6 => ?_
    refine fin H6 p6 (u.take p ++ u.drop (p + 1)) ((s4.trans s5).trans s6) ?_ (okW_app (okW_take ok p) (okW_drop ok (p + 1))) ?_
    · rw [h6]; simp [wv]
    · rw [List.length_append, List.length_take, List.length_drop]; omega
  refine ifF (decide_eq_false fun e => h1 (V.int.inj e)) ?_
  refine ⟨_, rfl, rfl, _, rfl, ?_⟩
  by_cases h2 : wy = 2
  · refine ifT (decide_eq_true (congrArg V.int h2)) ?_
    refine ⟨_, rfl, _, rfl, _, rfl, slA_tk h3 fun H4 p4 s4 h4 => ?_⟩
    rw [wv_take] at h4
    refine ⟨_, rfl, by show 1 ≤ sizeLine; decide, fun t nt => ?_⟩
    have s5 : Same H4 (L2.upd H4 t (.tup [V.int (k : Int)])) := Same.upd nt
    have h5 : (L2.upd H4 t (.tup [V.int (k : Int)])) t = some (.tup [V.int (k : Int)]) := upd_same
    generalize L2.upd H4 t (.tup [V.int (k : Int)]) = H5 at s5 h5
    refine catA_tk (s5 _ _ h4) h5 (by rw [lt']; show _ + 1 ≤ _; omega) fun H6 p6 s6 h6 => ?_
    have S6 := (s4.trans s5).trans s6
    refine ⟨_, rfl, _, rfl, _, _, rfl, rfl, _, rfl, ?_⟩
    dsimp only [tNoPart]
    refine slA_tk (S6 _ _ h3) fun H7 p7 s7 h7 => ?_
    rw [wv_drop1] at h7
    refine catA_tk (s7 _ _ h6) h7 (by rw [List.length_append, lt', ld1']; show _ + 1 + _ ≤ _; omega) fun H8 p8 s8 h8 => ?_
    refine fin H8 p8 (u.take p ++ [k] ++ u.drop (p + 1)) ((S6.trans s7).trans s8) ?_ (okW_app (okW_app (okW_take ok p) (okW_one k4)) (okW_drop ok (p + 1))) ?_
    · rw [h8]; simp [wv]
    · rw [List.length_append, List.length_append, List.length_take, List.length_drop]; simp; omega
  refine ifF (decide_eq_false fun e => h2 (V.int.inj e)) ?_
  refine ⟨_, rfl, l, _, rfl, SqT.of h3, fun t nt => ?_⟩
  refine fin _ t u.reverse (Same.upd nt) ?_ (okW_rev ok) (by rw [List.length_reverse]; omega)
  rw [upd_same]; simp [wv, List.map_reverse]
/-! ### _law_leads -/
def spLeads : Sp := fun vs H Q _ => ∃ (a l : Addr) (b : List Int) (m : Int) (u : List Nat), vs = [.ref a, .int m, .ref l] ∧ H a = some (.lst (iv b)) ∧ b.length = 4 ∧ 0 < m ∧ H l = some (.tup (wv u)) ∧ okW u ∧ ∀ H' p, Same H H' → H' p = some (.tup (iv (follow m (R b m) u))) → Q (.ref p) H'
abbrev n66 : List Str := ["_law_bends", "_law_modulus", "_law_letters", "_law_here", "_law_letter"]
theorem sc66 : FnScope n66 ["_law_bends", "_law_modulus", "_law_letters"] (defScope (top 66)) := ⟨rfl, rfl, rfl, by decide +kernel, rfl, by decide +kernel, by decide +kernel⟩
theorem c_leads (T : Tx K mg) : C8.Cal P w K mg base 2 "_law_leads" spLeads [] := by
  refine calD (T.w 13) sc66 (fun kV doc pm an cdv ct us hl => match us, hl with | [_, _, _], _ => rfl) (fun vs H Q E h => ?_) fun cdv A outer s H vs Q E hr h => ?_
  · obtain ⟨a, l, b, m, u, rfl, _⟩ := h; rfl
  obtain ⟨a, l, b, m, u, rfl, ha, hl4, m0, hl, ok, q⟩ := h
  refine ⟨_, pss_cons (ps_set (i := 3) sc66.nd rfl (.inl rfl) (pe_callTy call_list_of (by rfl) (T.b 6) (by decide +kernel) (pa_cons (pv 0) pa_nil))) (pss_cons (ps_for PassesOwn.never rfl (pi_tup (pv 2)) (pg_name (i := 4) sc66.nd rfl (.inl rfl)) (pss_one (ps_set (i := 3) sc66.nd rfl (.inl rfl) (C8.pe_c (c_exch T) hr (by decide) rfl (pa_cons (pv 3) (pa_cons (pv 4) pa_nil)))))) (pss_one (ps_ret (C8.pe_c (c_lrow T) hr (by decide) rfl (pa_cons (pv 3) (pa_cons (pv 1) pa_nil)))))), ?_⟩
  refine ⟨_, rfl, a, _, rfl, .inl (SqL.of ha), fun c nc => ?_⟩
  have s1 : Same H (L2.upd H c (.lst (iv b))) := Same.upd nc
  have h1 : (L2.upd H c (.lst (iv b))) c = some (.lst (iv b)) := upd_same
  generalize L2.upd H c (.lst (iv b)) = H1 at s1 h1
  refine ⟨_, rfl, l, rfl, ⟨_, SqT.of (s1 _ _ hl)⟩, for_tup (xs := wv u) (fun i σ' H' => ∃ c z, σ' = [some (.ref a), some (.int m), some (.ref l), some (.ref c), z] ∧ Same H H' ∧ H' c = some (.lst (iv (exF b (u.take i))))) ⟨c, _, rfl, s1, h1⟩ (fun i σ' H' _ p => by obtain ⟨_, _, _, s', _⟩ := p; exact SqT.of (s' _ _ hl)) (fun i x σ' H' hx p => ?_) (fun σ' H' p => ?_)⟩
  · obtain ⟨c, z, rfl, S, hc⟩ := p
    obtain ⟨k, hk, rfl⟩ := wv_at hx
    refine ⟨_, rfl, _, rfl, c, _, k, rfl, hc, (exF_len _ _).trans hl4, ok k (List.mem_of_getElem? hk), fun H2 c2 s2 n2 h2 => ?_⟩
    refine ⟨c2, _, rfl, S.trans s2, ?_⟩
    rw [take_snoc hk, exF_snoc]; exact h2
  · obtain ⟨c, z, rfl, S, hc⟩ := p
    have e : (wv u).length = u.length := List.length_map _
    rw [e, List.take_length] at hc
    refine ⟨_, rfl, _, rfl, c, _, m, rfl, .inl hc, by rw [exF_len]; omega, m0, fun H3 p3 s3 h3 => ?_⟩
    rw [R_exF] at h3
    exact q H3 p3 (S.trans s3) h3
end
end K31
namespace K31
open PySem PySem.Spec PyProof.Rows L2
/-! ### all but the lists stay -/
def KLT (H H' : Hp) : Prop := ∀ a o, (∀ ys, o ≠ .lst ys) → H a = some o → H' a = some o
theorem KLT.refl (H : Hp) : KLT H H := fun _ _ _ e => e
theorem KLT.trans {H H1 H2 : Hp} (a : KLT H H1) (b : KLT H1 H2) : KLT H H2 := fun c o n e => b c o n (a c o n e)
theorem KLT.of {H H' : Hp} (s : Same H H') : KLT H H' := fun a o _ e => s a o e
theorem KLT.but {v : Addr} {ys : List V} {H H' : Hp} (hv : H v = some (.lst ys)) (k : KeptBut v H H') : KLT H H' := fun a o n e => k a o (fun z => by
  rw [z, hv] at e
  exact n _ (Option.some.inj e).symm) e
theorem KLT.upd {D : Addr} {ys zs : List V} {H : Hp} (hD : H D = some (.lst ys)) : KLT H (L2.upd H D (.lst zs)) := fun a o n e => by
  rw [upd_ne (fun z => ?_)]
  · exact e
  · rw [z, hD] at e
    exact n _ (Option.some.inj e).symm
theorem KLT.tup {H H' : Hp} (k : KLT H H') {a : Addr} {xs : List V} (h : H a = some (.tup xs)) : H' a = some (.tup xs) := k a _ (fun _ z => by cases z) h
theorem KLT.pl {H H' : Hp} (k : KLT H H') {v : V} {t : String} (p : Pl H v t) (n : t ≠ "list") : Pl H' v t := by
  cases p with
  | non => exact .non
  | bl b => exact .bl b
  | int i => exact .int i
  | str x => exact .str x
  | lst h => exact absurd rfl n
  | tup h => exact .tup (k.tup h)
  | dct h => exact .dct (k _ _ (fun _ z => by cases z) h)
theorem PapAt.klt {K : PySem.W.Frag} {x wd : Str} {H H' : Hp} {a : Addr} {v : V} (f : PapAt K x wd H a v) (k : KLT H H') : PapAt K x wd H' a v := let ⟨dx, t, h1, h2⟩ := f; ⟨dx, t, k _ _ (fun _ z => by cases z) h1, k.tup h2⟩
theorem FourAt.klt {K : PySem.W.Frag} {H H' : Hp} {a : Addr} {b : List Int} (f : FourAt K H a b) (k : KLT H H') : FourAt K H' a b := let ⟨dx, t, h1, h2⟩ := f; ⟨dx, t, k _ _ (fun _ z => by cases z) h1, k.tup h2⟩
/-- what shows_met answers, whatever the lists come to hold -/
def SVk (K : PySem.W.Frag) (H : Hp) (m : Int) (b t : List Int) (v : V) (k : Bool) : Prop := ∀ H', KLT H H' → SV K H' m b t v k
section
variable {K : PySem.W.Frag} {H H' : Hp} {m : Int} {b t : List Int}
theorem SVk.klt {v : V} {k : Bool} (h : SVk K H m b t v k) (s : KLT H H') : SVk K H' m b t v k := fun _ z => h _ (s.trans z)
theorem SVk.sv {v : V} {k : Bool} (h : SVk K H m b t v k) : SV K H m b t v k := h _ (KLT.refl H)
theorem SVk.word {x l : Addr} {wd : Str} {u : List Nat} (p : PapAt K "Met" wd H x (.ref l)) (h : H l = some (.tup (wv u))) (ok : okW u) (hz : u.length ≤ 1000000) : SVk K H m b t (.ref x) (decide (follow m (R b m) u = t)) :=
  fun _ k => .word (p.klt k) (k.tup h) ok hz
theorem SVk.metTup {x l : Addr} {wd : Str} {xs : List V} (p : PapAt K "Met" wd H x (.ref l)) (h : H l = some (.tup xs)) (hp : ∀ y ∈ xs, ∃ u, Pl H y u ∧ u ≠ "list") (hz : xs.length ≤ 2000000) (no : xs.all isP = false) : SVk K H m b t (.ref x) false :=
  fun _ k => .metNo (p.klt k) (ty := "tuple") (xs := xs) ⟨.tup (k.tup h), fun _ => ⟨⟨l, rfl, .inr ⟨rfl, k.tup h⟩⟩, fun y hy => let ⟨u, z, n⟩ := hp y hy; ⟨u, k.pl z n⟩⟩, hz⟩ (by rw [no]; rfl)
theorem SVk.metLeaf {x : Addr} {wd : Str} {v : V} {ty : String} (p : PapAt K "Met" wd H x v) (pl : Pl H v ty) (ns : isSeq ty = false) : SVk K H m b t (.ref x) false :=
  fun _ k => .metNo (p.klt k) (xs := []) ⟨k.pl pl (fun z => by rw [z] at ns; cases ns), (fun z => by rw [ns] at z; cases z), Nat.zero_le _⟩ (by rw [ns]; rfl)
theorem SVk.unm {x : Addr} {wd : Str} {q : Int} (p : PapAt K "Unmet" wd H x (.int q)) : SVk K H m b t (.ref x) (decide (q ∈ parts m) && !rch q b t) := fun _ k => .unm (p.klt k)
theorem SVk.unmNo {x : Addr} {wd : Str} {v : V} {ty : String} (p : PapAt K "Unmet" wd H x v) (pl : Pl H v ty) (n : ty ≠ "list") (no : isI v = false) : SVk K H m b t (.ref x) false := fun _ k => .unmNo (p.klt k) (k.pl pl n) no
theorem SVk.pap {x : Addr} {c wd : Str} {v : V} (hc : c ∈ (["Paper", "Denial"] : List Str)) (p : PapAt K c wd H x v) : SVk K H m b t (.ref x) false := fun _ k => .pap hc (p.klt k)
theorem SVk.oth {v : V} {ty : String} (pl : Pl H v ty) (n : ty ≠ "list") : SVk K H m b t v false := fun _ k => .oth (k.pl pl n)
end
/-! ### the list of the asked -/
def Item (K : PySem.W.Frag) (m : Int) (b t : List Int) (H : Hp) (x : V) (k : Bool) : Prop := ∃ p v, x = .ref p ∧ H p = some (.tup [v, .bl k]) ∧ SVk K H m b t v k
theorem Item.klt {K : PySem.W.Frag} {m : Int} {b t : List Int} {H H' : Hp} {x : V} {k : Bool} (h : Item K m b t H x k) (s : KLT H H') : Item K m b t H' x k := let ⟨p, v, h1, h2, h3⟩ := h; ⟨p, v, h1, s.tup h2, h3.klt s⟩
structure Sh (K : PySem.W.Frag) (m : Int) (b t : List Int) (H0 : Hp) (v D : Addr) (M n : Nat) (H : Hp) : Prop where
  kb : KeptBut v H0 H
  vat : Vat M H v
  nc : NC v D H
  ask : ∃ xs ks, H D = some (.lst xs) ∧ Paired (Item K m b t H) xs ks ∧ xs.length = n
section
variable {K : PySem.W.Frag} {m : Int} {b t : List Int} {H0 H H' : Hp} {v D : Addr} {M n : Nat}
theorem vat_lst (h : Vat M H v) : ∃ ys, H v = some (.lst ys) := let ⟨_, _, _, _, e, _⟩ := h; ⟨_, e⟩
theorem Sh.same (h : Sh K m b t H0 v D M n H) (s : Same H H') : Sh K m b t H0 v D M n H' :=
  ⟨h.kb.trans (kb_same s), h.vat.same s, h.nc.keep (KeepC.same h.vat s), let ⟨xs, ks, h1, h2, h3⟩ := h.ask; ⟨xs, ks, s _ _ h1, Paired.mapP h2 fun _ _ q => q.klt (KLT.of s), h3⟩⟩
theorem Sh.scoop {M' : Nat} (h : Sh K m b t H0 v D M n H) (ne : D ≠ v) (k : KeptBut v H H') (hv : Vat M' H' v) (kc : KeepC v H H') : Sh K m b t H0 v D M' n H' := by
  obtain ⟨ys, e⟩ := vat_lst h.vat
  exact ⟨h.kb.trans k, hv, h.nc.keep kc, let ⟨xs, ks, h1, h2, h3⟩ := h.ask; ⟨xs, ks, k _ _ ne h1, Paired.mapP h2 fun _ _ q => q.klt (KLT.but e k), h3⟩⟩
theorem Sh.ext (h : Sh K m b t H0 v D M n H) (n0 : H0 D = none) (ne : D ≠ v) : ∃ xs, H D = some (.lst xs) ∧ xs.length = n ∧ ∀ zs ks, Paired (Item K m b t H) zs ks → Sh K m b t H0 v D M (n + zs.length) (L2.upd H D (.lst (xs ++ zs))) := by
  obtain ⟨xs, ks, h1, h2, h3⟩ := h.ask
  refine ⟨xs, h1, h3, fun zs ls hz => ?_⟩
  have kl : KLT H (L2.upd H D (.lst (xs ++ zs))) := KLT.upd h1
  have P := h.vat.put (o := .lst (xs ++ zs)) h.nc ne
  refine ⟨fun a o na e => ?_, P.1, P.2, xs ++ zs, ks ++ ls, upd_same, Paired.append (Paired.mapP h2 fun _ _ q => q.klt kl) (Paired.mapP hz fun _ _ q => q.klt kl), by rw [List.length_append, h3]⟩
  rw [upd_ne (ne_of_none e n0)]; exact h.kb _ _ na e
theorem Sh.mono {M' : Nat} (h : Sh K m b t H0 v D M n H) (e : M ≤ M') : Sh K m b t H0 v D M' n H := ⟨h.kb, h.vat.mono e, h.nc, h.ask⟩
end
/-! ### papers made -/
theorem mk_Paper {K : PySem.W.Frag} {H : Hp} {x dx : Addr} {c wd : Str} {v : V} {Q : VK} {E : XK} (hc : c ∈ (["Paper", "Denial"] : List Str)) (nx : H x = none) (nd : H dx = none) (ne : dx ≠ x) (hl : ∃ l, InT 2 H v l) (q : ∀ H' v', Same H H' → PapAt K c wd H' x v' → (∀ l, InT 2 H v l → OutT 2 H' v' l) → Q (.ref x) H') :
    spPaper K [.ref x, .str wd, v] (L2.upd (L2.upd H dx (.own x)) x (.ins (ga K c) dx [])) (fun v H2 => v = .non ∧ Q (.ref x) H2) E := by
  have S : Same H (L2.upd (L2.upd H dx (.own x)) x (.ins (ga K c) dx [])) := fun b o z => by rw [upd_ne (ne_of_none z nx), upd_ne (ne_of_none z nd)]; exact z
  obtain ⟨l, hl⟩ := hl
  have ex : c ∈ papL ∧ ∀ v, extra c v = [] := by
    rcases List.mem_cons.mp hc with rfl | hc
    · exact ⟨by decide, fun v => rfl⟩
    · rw [List.mem_singleton.mp hc]; exact ⟨by decide, fun v => rfl⟩
  refine ⟨x, c, dx, wd, v, rfl, ex.1, upd_same, ⟨l, hl.same S⟩, fun H' p' v' k h1 h2 o => ⟨rfl, q H' v' (fun b o z => k b o (ne_of_none z nx) (S _ _ z)) ⟨dx, p', ?_, h2⟩ fun l hl => o l (hl.same S)⟩⟩
  rw [h1]
  unfold papF
  rw [ex.2]
theorem mk_Four {K : PySem.W.Frag} {H : Hp} {x dx a : Addr} {b : List Int} {Q : VK} {E : XK} (nx : H x = none) (nd : H dx = none) (ne : dx ≠ x) (ha : H a = some (.lst (iv b))) (fb : Fb b) (q : ∀ H', Same H H' → FourAt K H' x b → Q (.ref x) H') :
    spFourInit K [.ref x, .ref a] (L2.upd (L2.upd H dx (.own x)) x (.ins (ga K "Four") dx [])) (fun v H2 => v = .non ∧ Q (.ref x) H2) E := by
  have S : Same H (L2.upd (L2.upd H dx (.own x)) x (.ins (ga K "Four") dx [])) := fun b o z => by rw [upd_ne (ne_of_none z nx), upd_ne (ne_of_none z nd)]; exact z
  exact ⟨x, dx, a, b, rfl, upd_same, S _ _ ha, fb, fun H' k f => ⟨rfl, q H' (fun b o z => k b o (ne_of_none z nx) (S _ _ z)) f⟩⟩
section
variable {w : World} {K : PySem.W.Frag} {mg : Str → Option Value} {base : Heap}
theorem r_met (T : Tx K mg) : FnR prg w K mg base CX0 6 (ma K (ga K "Met") "__init__") (spMet K) := by
  obtain ⟨fd, F, B, _⟩ := m_met (w := w) (base := base) T
  refine (F.raw B .nil).imp fun vs H Q E q => ?_
  show spMet K (vs ++ []) H Q E
  rw [List.append_nil]; exact q
theorem r_unmet (T : Tx K mg) : FnR prg w K mg base CX0 6 (ma K (ga K "Unmet") "__init__") (spUnmet K) := by
  obtain ⟨fd, F, B⟩ := m_unmet (w := w) (base := base) T
  refine (F.raw B .nil).imp fun vs H Q E q => ?_
  show spUnmet K (vs ++ []) H Q E
  rw [List.append_nil]; exact q
theorem r_denial (T : Tx K mg) : FnR prg w K mg base CX0 5 (ma K (ga K "Denial") "__init__") (spPaper K) := by
  have := c_paper (P := prg) (w := w) (base := base) T
  rw [← T.iPD] at this
  exact this
end
/-! ### a promise where the guards are known, by its name -/
section
variable {w : World} {K : PySem.W.Frag} {mg : Str → Option Value} {base : Heap}
structure GalR (P : Program) (w : World) (K : PySem.W.Frag) (mg : Str → Option Value) (base : Heap) (k : Nat) (x : Str) (f : Addr) (fd : FuncData) (ps : List Str) (sp : Sp) : Prop where
  fn : FnG P w K mg base CX0 k f fd ps sp
  mgx : mg x = some (.ref f)
  kp : PySem.W.keepIn K (.ref f) = true
  bd : Binds K fd ps []
def Gal (P : Program) (w : World) (K : PySem.W.Frag) (mg : Str → Option Value) (base : Heap) (k : Nat) (x : Str) (sp : Sp) : Prop := ∃ f fd ps, GalR P w K mg base k x f fd ps sp
theorem galD {P : Program} {x : Str} {st : Stmt} {N ps : List Str} {k : Nat} {sp : Sp} (D : DefAt K mg x st) (S : FnScope N ps (defScope st))
    (hb : ∀ (kV doc pm : Value) (an : Option Addr) (cdv ct : Value) (us : List Value), us.length = ps.length → bindArgs (PySem.W.fnOf x x (defArgs st) (defBody st) (defScope st) .none kV doc pm an cdv ct) ⟨us, []⟩ = pure (ps.zip us))
    (len : ∀ vs H Q E, sp vs H Q E → vs.length = ps.length)
    (hbody : ∀ (cdv : Value) (A : Around) (outer : List Env) (s : Shared) (H : Hp) (vs : List V) (Q : VK) (E : XK), A.guards = some [] → Room k (A.deeper (envOfC x (defScope st) s.heap.objs.size (ga K x) cdv)) → sp vs H Q E →
      ∃ t, PSs (cxOf CX0 P w K mg base N x (defScope st) (ga K x) cdv A outer s H E).nox (defBody st) t ∧ t { nx := fun _ H' => Q .non H', rt := Q } (start N vs) H) :
    Gal P w K mg base (k + 1) x sp := by
  obtain ⟨fd, F⟩ := D.fd
  refine ⟨ga K x, fd, ps, FnG.of F S len fun cdv A outer s H vs Q E hg hr h => ?_, D.mgx, F.kp, F.bindsN hb⟩
  obtain ⟨t, h1, h2⟩ := hbody cdv A outer s H vs Q E hg hr h
  exact ⟨t, h1.nox, h2⟩
end
section
variable {X : Cx} {k j : Nat} {x : Str} {sp : Sp} {p pos : Pos} {e : Expr} {es : List Expr} {t : TA}
theorem pe_cG (c : Gal X.prog X.w X.K X.mg X.base k x sp) (hgu : X.A.guards = some []) (hr : Room j X.A) (hk : k ≤ j) (hg : Gl X x) (ha : PA X (e :: es) t)
    (hdb : (x == ("__debug__" : Str)) = false := by decide) (he : starEach (e :: es) X.env = (false, eval e X.env) :: starEach es X.env := by rfl) (hpl : (backTo pos (starEach es X.env)).any (·.1) = false := by rfl) :
    PE X (.Call (.Name x p) (e :: es) [] pos) (tCall sp [] C8.E0 t) := by
  obtain ⟨f, fd, ps, F, hm, kp, b⟩ := c
  exact pe_callG hgu F (hr.mono hk) hg hm kp b pass0 ha hdb he hpl
end
end K31
namespace K31
open PySem PySem.Spec PyProof.Rows L2
theorem mkFour {K : PySem.W.Frag} {H : Hp} {x dx a : Addr} {b : List Int} {Q : VK} {E : XK} (nx : H x = none) (nd : H dx = none) (ne : dx ≠ x) (ha : H a = some (.lst (iv b))) (fb : Fb b) (q : ∀ H', Same H H' → FourAt K H' x b → Q .non H') :
    spFourInit K [.ref x, .ref a] (L2.upd (L2.upd H dx (.own x)) x (.ins (ga K "Four") dx [])) Q E := by
  obtain ⟨x1, dx1, a1, b1, e, h1, h2, h3, h4⟩ := mk_Four (K := K) (Q := fun _ H' => Q .non H') (E := E) nx nd ne ha fb q
  exact ⟨x1, dx1, a1, b1, e, h1, h2, h3, fun H' k f => (h4 H' k f).2⟩
theorem mkMet {K : PySem.W.Frag} {H : Hp} {x dx : Addr} {v : V} {Q : VK} {E : XK} (nx : H x = none) (nd : H dx = none) (ne : dx ≠ x) (hl : ∃ l, InT 2 H v l) (q : ∀ H' v', Same H H' → PapAt K "Met" "met" H' x v' → (∀ l, InT 2 H v l → OutT 2 H' v' l) → Q .non H') :
    spMet K [.ref x, v] (L2.upd (L2.upd H dx (.own x)) x (.ins (ga K "Met") dx [])) Q E := by
  obtain ⟨x1, d1, v1, e, h1, h2, h3⟩ := mk_Met (K := K) (Q := fun _ H' => Q .non H') (E := E) nx nd ne hl q
  exact ⟨x1, d1, v1, e, h1, h2, fun H' v' k p o => (h3 H' v' k p o).2⟩
theorem mkUnmet {K : PySem.W.Frag} {H : Hp} {x dx : Addr} {v : V} {Q : VK} {E : XK} (nx : H x = none) (nd : H dx = none) (ne : dx ≠ x) (hl : ∃ l, InT 2 H v l) (q : ∀ H' v', Same H H' → PapAt K "Unmet" "unmet" H' x v' → (∀ l, InT 2 H v l → OutT 2 H' v' l) → Q .non H') :
    spUnmet K [.ref x, v] (L2.upd (L2.upd H dx (.own x)) x (.ins (ga K "Unmet") dx [])) Q E := by
  obtain ⟨x1, d1, v1, e, h1, h2, h3⟩ := mk_Unmet (K := K) (Q := fun _ H' => Q .non H') (E := E) nx nd ne hl q
  exact ⟨x1, d1, v1, e, h1, h2, fun H' v' k p o => (h3 H' v' k p o).2⟩
theorem mkPaper {K : PySem.W.Frag} {H : Hp} {x dx : Addr} {c wd : Str} {v : V} {Q : VK} {E : XK} (hc : c ∈ (["Paper", "Denial"] : List Str)) (nx : H x = none) (nd : H dx = none) (ne : dx ≠ x) (hl : ∃ l, InT 2 H v l) (q : ∀ H' v', Same H H' → PapAt K c wd H' x v' → (∀ l, InT 2 H v l → OutT 2 H' v' l) → Q .non H') :
    spPaper K [.ref x, .str wd, v] (L2.upd (L2.upd H dx (.own x)) x (.ins (ga K c) dx [])) Q E := by
  obtain ⟨x1, c1, d1, w1, v1, e, h0, h1, h2, h3⟩ := mk_Paper (K := K) (wd := wd) (Q := fun _ H' => Q .non H') (E := E) hc nx nd ne hl q
  exact ⟨x1, c1, d1, w1, v1, e, h0, h1, h2, fun H' p' v' k e1 e2 o => (h3 H' p' v' k e1 e2 o).2⟩
theorem wv_leaf {H : Hp} (u : List Nat) : ∀ x ∈ wv u, Leaf H x := fun x hx => by
  obtain ⟨k, _, rfl⟩ := List.mem_map.mp hx
  exact leaf_int _
theorem sh_int (z : Int) : SeqAt.shaped (.int z) = true := by
  unfold SeqAt.shaped
  simp [PyData.canLay0, PyData.depth]
/-! ### (k, k) * n -/
theorem wv_rep (k n : Nat) : wv ((List.replicate n [k, k]).flatten) = (List.replicate n [V.int (k : Int), V.int (k : Int)]).flatten := by
  induction n with
  | zero => rfl
  | succ n ih =>
    rw [List.replicate_succ, List.replicate_succ, List.flatten_cons, List.flatten_cons, ← ih]
    simp [wv]
theorem rep_len (k n : Nat) : ((List.replicate n [k, k]).flatten).length = 2 * n := by
  induction n with
  | zero => rfl
  | succ n ih =>
    rw [List.replicate_succ, List.flatten_cons, List.length_append, ih]
    simp; omega
theorem okW_rep {k : Nat} (h : k < 4) (n : Nat) : okW ((List.replicate n [k, k]).flatten) := fun p hp => by
  obtain ⟨l, hl, hp⟩ := List.mem_flatten.mp hp
  rw [List.eq_of_mem_replicate hl] at hp
  simp at hp; omega
theorem follow_rep {m : Int} (m0 : 0 < m) {k : Nat} (h : k < 4) (n : Nat) : ∀ {r : List Int}, okR m r → follow m r ((List.replicate n [k, k]).flatten) = r := by
  induction n with
  | zero => intro r _; rfl
  | succ n ih =>
    intro r hr
    rw [List.replicate_succ, List.flatten_cons]
    show follow m (nx m (nx m r k) k) _ = r
    rw [nx_nx hr h]; exact ih hr
theorem lacks_dec (m : Int) (b t : List Int) (z : Int) : decide (z ∈ lacks m b t) = (decide (z ∈ parts m) && !rch z b t) := by
  unfold lacks
  rw [Bool.eq_iff_iff, decide_eq_true_iff, List.mem_filter, Bool.and_eq_true, decide_eq_true_iff]
/-! ### odd values for a Met -/
def Odd (H : Hp) (D : Addr) (x : V) : Prop := (∃ a y ty, x = .ref a ∧ H a = some (.tup [y]) ∧ Pl H y ty ∧ isSeq ty = false ∧ isP y = false) ∨ (∃ a c, x = .ref a ∧ H a = some (.lst [.ref c]) ∧ H c = some (.lst [.int 0]) ∧ a ≠ D ∧ c ≠ D) ∨ (∃ ty, Pl H x ty ∧ isSeq ty = false)
theorem ns_nl {ty : String} (h : isSeq ty = false) : ty ≠ "list" := fun z => by rw [z] at h; cases h
theorem Odd.keep {H H' : Hp} {D : Addr} {ys : List V} {x : V} (o : Odd H D x) (hD : H D = some (.lst ys)) (kb : KeptBut D H H') : Odd H' D x := by
  have kl := KLT.but hD kb
  rcases o with ⟨a, y, ty, e, h1, h2, h3, h4⟩ | ⟨a, c, e, h1, h2, h3, h4⟩ | ⟨ty, h1, h2⟩
  · exact .inl ⟨a, y, ty, e, kl.tup h1, kl.pl h2 (ns_nl h3), h3, h4⟩
  · exact .inr (.inl ⟨a, c, e, kb _ _ h3 h1, kb _ _ h4 h2, h3, h4⟩)
  · exact .inr (.inr ⟨ty, kl.pl h1 (ns_nl h2), h2⟩)
theorem Odd.met {K : PySem.W.Frag} {m : Int} {b t : List Int} {H : Hp} {D : Addr} {x : V} (o : Odd H D x) : ∃ l : TT 2, InT 2 H x l ∧ ∀ (H' : Hp) (x' : Addr) (v' : V), PapAt K "Met" "met" H' x' v' → OutT 2 H' v' l → SVk K H' m b t (.ref x') false := by
  rcases o with ⟨a, y, ty, e, h1, h2, h3, h4⟩ | ⟨a, c, e, h1, h2, h3, h4⟩ | ⟨ty, h1, h2⟩
  · refine ⟨.inr [.inl y], ⟨a, [y], e, .inr h1, by show 1 ≤ 2000000; decide, .cons ⟨rfl, ty, h2, h3⟩ .nil⟩, fun H' x' v' p o => ?_⟩
    obtain ⟨a', ys, rfl, ha, hz, r⟩ := o
    cases r with
    | cons r1 r2 =>
    cases r2
    obtain ⟨rfl, t', p', n'⟩ := r1
    exact .metTup p ha (fun z hz => by rw [List.mem_singleton.mp hz]; exact ⟨t', p', ns_nl n'⟩) hz (by simp [h4])
  · refine ⟨.inr [.inr [V.int 0]], ⟨a, [.ref c], e, .inl h1, by show 1 ≤ 2000000; decide, .cons ⟨c, [.int 0], rfl, .inl h2, by show 1 ≤ 2000000; decide, .cons ⟨rfl, "int", .int 0, rfl⟩ .nil⟩ .nil⟩, fun H' x' v' p o => ?_⟩
    obtain ⟨a', ys, rfl, ha, hz, r⟩ := o
    cases r with
    | cons r1 r2 =>
    cases r2
    obtain ⟨c', zs, rfl, hc, _, _⟩ := r1
    exact .metTup p ha (fun z hz => by rw [List.mem_singleton.mp hz]; exact ⟨"tuple", .tup hc, by decide⟩) hz rfl
  · refine ⟨.inl x, ⟨rfl, ty, h1, h2⟩, fun H' x' v' p o => ?_⟩
    obtain ⟨rfl, t', p', n'⟩ := o
    exact .metLeaf p p' n'
end K31
namespace K31
open PySem PySem.Spec PyProof.Rows L2
def rListOf (K : PySem.W.Frag) : List V → Hp → VK → Prop := fun xs H Q => ∃ p ys, xs = [.ref p] ∧ (SqL K H p ys ∨ SqT K H p ys) ∧ ∀ l, H l = none → Q (.ref l) (upd H l (.lst ys))
section
variable {w : World} {K : PySem.W.Frag} {mg : Str → Option Value} {base : Heap}

/-! ### _law_shown_right -/
def spShown : Sp := fun vs H Q _ => ∃ (v a tg l : Addr) (b t : List Int) (m : Int) (u : List Nat) (N : Nat), vs = [.ref v, .ref a, .int m, .ref tg, .ref l] ∧ Vat N H v ∧ N ≤ 80000 ∧ H a = some (.lst (iv b)) ∧ Fb b ∧ m ∈ moduli ∧ okR m t ∧ H tg = some (.tup (iv t)) ∧
  H l = some (.tup (wv u)) ∧ okW u ∧ u.length ≤ 340000 ∧ ∀ H', KeptBut v H H' → Vat (N + 20) H' v → Q (.bl true) H'
abbrev n67 : List Str := ["_law_vat_here", "_law_bends", "_law_modulus", "_law_target_here", "_law_letters", "_law_four", "_law_asked", "_law_turn", "_law_some", "_law_is_so", "_law_at", "_law_pillars_here", "_law_by", "_law_is_by", "_law_is_met", "_law_odd", "_law_heard", "_law_part", "_law_value", "_law_due"]
theorem sc67 : FnScope n67 ["_law_vat_here", "_law_bends", "_law_modulus", "_law_target_here", "_law_letters"] (defScope (top 67)) := ⟨rfl, rfl, rfl, by decide +kernel, rfl, by decide +kernel, by decide +kernel⟩
theorem g_shown (T : Tx K mg) : Gal prg w K mg base 8 "_law_shown_right" spShown := by
  refine galD (T.w 14) sc67 (fun kV doc pm an cdv ct us hl => match us, hl with | [_, _, _, _, _], _ => rfl) (fun vs H Q E h => ?_) fun cdv A outer s H vs Q E hgu hr h => ?_
  · obtain ⟨v, a, tg, l, b, t, m, u, N, rfl, _⟩ := h; rfl
  obtain ⟨v, a, tg, l, b, t, m, u, N, rfl, hv, hN, ha, fb, hm, okt, htg, hl, oku, hz, q⟩ := h
  have hu := hu_of hr
  obtain ⟨fd1, F1, B1, KB1⟩ := m_met (w := w) (base := base) T
  refine ⟨_, pss_cons (ps_asg (pe_tup (pa_cons (StX.pe_makeR (T.c 0).mkr (c_fourInit T) (hr.mono (by decide)) rfl (T.c 0).mgx pass0 (pa_cons (pe_callTy call_list_of (by rfl) (T.b 6) (by decide +kernel) (pa_cons (pv 1) pa_nil)) pa_nil)) (pa_cons (pe_lst pa_nil) pa_nil))) (pg_tup rfl (pgs_cons (pg_name (i := 5) sc67.nd rfl (.inr rfl)) (pgs_cons (pg_name (i := 6) sc67.nd rfl (.inl rfl)) (pgs_nil))))) (C8.pss_cut (ps_for PassesOwn.never rfl (pi_range1 rfl (T.b 9) (pa_cons (pe_int) pa_nil)) (pg_name (i := 7) sc67.nd rfl (.inl rfl)) (pss_cons (ps_set (i := 8) sc67.nd rfl (.inl rfl) (C8.pe_c (c_bent T) hr (by decide) rfl (pa_cons (pv 0) (pa_cons (pv 4) pa_nil)))) (pss_cons (ps_set (i := 9) sc67.nd rfl (.inl rfl) (pe_cmpR (op_eqD hr.units) (C8.pe_c (c_leads T) hr (by decide) rfl (pa_cons (pv 1) (pa_cons (pv 2) (pa_cons (pv 8) pa_nil)))) (pv 3) (nomark _))) (pss_one (ps_expr (pe_bm PySem.F.plainAttrs_list PySem.F.slot_list_extend PySem.F.type_list_extend mt_extend (pv 6) (pa_cons (pe_lst (pa_cons (pe_tup (pa_cons (StX.pe_makeR (T.c 3).mkr (r_met T) (hr.mono (by decide)) rfl (T.c 3).mgx pass0 (pa_cons (pv 8) pa_nil)) (pa_cons (pv 9) pa_nil))) (pa_cons (pe_tup (pa_cons (pe_makeK0 (T.c 3).mkr F1 (hr.mono (by decide)) rfl (T.c 3).mgx KB1 pass0 (pk_cons (pe_callTy call_list_of (by rfl) (T.b 6) (by decide +kernel) (pa_cons (pv 8) pa_nil)) pk_nil)) (pa_cons (pv 9) pa_nil))) (pa_cons (pe_tup (pa_cons (StX.pe_makeR (T.c 1).mkr (c_paper T) (hr.mono (by decide)) rfl (T.c 1).mgx pass0 (pa_cons (pe_str) (pa_cons (pv 8) pa_nil))) (pa_cons (pe_bl) pa_nil))) (pa_cons (pe_tup (pa_cons (StX.pe_makeR (T.c 4).mkr (r_unmet T) (hr.mono (by decide)) rfl (T.c 4).mgx pass0 (pa_cons (pv 8) pa_nil)) (pa_cons (pe_bl) pa_nil))) pa_nil))))) pa_nil))))))) (pss_cons (ps_set (i := 10) sc67.nd rfl (.inl rfl) (C8.pe_c (c_scoop T) hr (by decide) rfl (pa_cons (pv 0) (pa_cons (pe_int) pa_nil)))) (C8.pss_cut (ps_expr (pe_bm PySem.F.plainAttrs_list PySem.F.slot_list_append PySem.F.type_list_append mt_append (pv 6) (pa_cons (pe_tup (pa_cons (StX.pe_makeR (T.c 3).mkr (r_met T) (hr.mono (by decide)) rfl (T.c 3).mgx pass0 (pa_cons (pe_op op_catA (pv 4) (pe_op op_repT (pe_tup (pa_cons (pv 10) (pa_cons (pv 10) pa_nil))) (pe_int))) pa_nil)) (pa_cons (pe_cmpR (op_eqD hr.units) (C8.pe_c (c_leads T) hr (by decide) rfl (pa_cons (pv 1) (pa_cons (pv 2) (pa_cons (pv 4) pa_nil)))) (pv 3) (nomark _)) pa_nil))) pa_nil))) (C8.pss_cut (ps_setLc (i := 11) (own := [("_law_part", 17)]) (g := gName 17) rfl sc67.nd rfl rfl (sw_true rfl rfl rfl (by decide +kernel)) (pi_list (C8.pe_c (c_pillars T) hr (by decide) rfl (pa_cons (pv 2) pa_nil))) (blkOk_by (N := n67) (sc := defScope (top 67)) (by decide +kernel)) (fun _ _ _ _ _ => pg_name (i := 17) sc67.nd rfl (.inl rfl)) (fun _ _ _ _ _ => pts_one (pt_cmp (pc_dnotin hu (C8.pe_c (c_lrow T) hr (by decide) rfl (pa_cons (pv 3) (pa_cons (pv 17) pa_nil))) (C8.pe_c (c_far T) hr (by decide) rfl (pa_cons (C8.pe_c (c_lrow T) hr (by decide) rfl (pa_cons (pv 1) (pa_cons (pv 17) pa_nil))) (pa_cons (pv 17) pa_nil)))))) (fun _ _ _ _ _ => pv 17)) (C8.pss_cut (ps_for PassesOwn.never rfl (pi_tup (pe_tup (pa_cons (pe_int) (pa_cons (pe_int) (pa_cons (pe_int) (pa_cons (pe_int) (pa_cons (pe_int) (pa_cons (pe_int) (pa_cons (pe_int) (pa_cons (pe_int) (pa_cons (pe_int) (pa_cons (pe_int) (pa_cons (pv 2) (pa_cons (pe_int) (pa_cons (pe_int) (pa_cons (pe_bl) (pa_cons (pe_non) (pa_cons (pe_str) (pa_cons (pe_lst (pa_cons (pe_int) pa_nil)) (pa_cons (pe_un un_neg pe_int) pa_nil)))))))))))))))))))) (pg_name (i := 12) sc67.nd rfl (.inl rfl)) (pss_cons (ps_set (i := 13) sc67.nd rfl (.inl rfl) (pe_and (pe_callB call_isi (by rfl) (T.b 0) (by decide +kernel) (pa_cons (pv 12) (pa_cons (pe_bltn (v := .ty "int") (by rfl) (T.b 1) (by decide +kernel) rfl) pa_nil))) (pe_and (pe_not (pe_callB call_isi (by rfl) (T.b 0) (by decide +kernel) (pa_cons (pv 12) (pa_cons (pe_bltn (v := .ty "bool") (by rfl) (T.b 2) (by decide +kernel) rfl) pa_nil)))) (pe_one (pe_cmpR op_in_seq (pv 12) (pv 11) (by rfl)))))) (pss_cons (ps_set (i := 14) sc67.nd rfl (.inl rfl) (pe_and (pe_cmpR (op_eqD hr.units) (pv 12) (pe_lst (pa_cons (pe_int) pa_nil)) (nomark _)) (pe_one (pe_cmpR (op_eqD hr.units) (C8.pe_c (c_leads T) hr (by decide) rfl (pa_cons (pv 1) (pa_cons (pv 2) (pa_cons (pe_tup (pa_cons (pe_int) pa_nil)) pa_nil)))) (pv 3) (nomark _))))) (pss_one (ps_expr (pe_bm PySem.F.plainAttrs_list PySem.F.slot_list_extend PySem.F.type_list_extend mt_extend (pv 6) (pa_cons (pe_lst (pa_cons (pe_tup (pa_cons (StX.pe_makeR (T.c 4).mkr (r_unmet T) (hr.mono (by decide)) rfl (T.c 4).mgx pass0 (pa_cons (pv 12) pa_nil)) (pa_cons (pv 13) pa_nil))) (pa_cons (pe_tup (pa_cons (StX.pe_makeR (T.c 3).mkr (r_met T) (hr.mono (by decide)) rfl (T.c 3).mgx pass0 (pa_cons (pv 12) pa_nil)) (pa_cons (pv 14) pa_nil))) (pa_cons (pe_tup (pa_cons (StX.pe_makeR (T.c 2).mkr (r_denial T) (hr.mono (by decide)) rfl (T.c 2).mgx pass0 (pa_cons (pe_str) (pa_cons (pv 12) pa_nil))) (pa_cons (pe_bl) pa_nil))) pa_nil)))) pa_nil))))))) (C8.pss_cut (ps_for PassesOwn.never rfl (pi_tup (pe_tup (pa_cons (pe_tup (pa_cons (pe_int) pa_nil)) (pa_cons (pe_tup (pa_cons (pe_un un_neg pe_int) pa_nil)) (pa_cons (pe_tup (pa_cons (pe_bl) pa_nil)) (pa_cons (pe_tup (pa_cons (pe_str) pa_nil)) (pa_cons (pe_tup (pa_cons (pe_non) pa_nil)) (pa_cons (pe_lst (pa_cons (pe_lst (pa_cons (pe_int) pa_nil)) pa_nil)) (pa_cons (pe_str) (pa_cons (pe_non) (pa_cons (pe_disp (pps_cons pe_int pe_int pps_nil) rfl rfl (by decide) (by decide)) pa_nil))))))))))) (pg_name (i := 15) sc67.nd rfl (.inl rfl)) (pss_one (ps_expr (pe_bm PySem.F.plainAttrs_list PySem.F.slot_list_append PySem.F.type_list_append mt_append (pv 6) (pa_cons (pe_tup (pa_cons (StX.pe_makeR (T.c 3).mkr (r_met T) (hr.mono (by decide)) rfl (T.c 3).mgx pass0 (pa_cons (pv 15) pa_nil)) (pa_cons (pe_bl) pa_nil))) pa_nil))))) (C8.pss_cut (ps_expr (pe_bm PySem.F.plainAttrs_list PySem.F.slot_list_extend PySem.F.type_list_extend mt_extend (pv 6) (pa_cons (pe_lst (pa_cons (pe_tup (pa_cons (pe_non) (pa_cons (pe_bl) pa_nil))) (pa_cons (pe_tup (pa_cons (pv 4) (pa_cons (pe_bl) pa_nil))) (pa_cons (pe_tup (pa_cons (pe_int) (pa_cons (pe_bl) pa_nil))) (pa_cons (pe_tup (pa_cons (pe_str) (pa_cons (pe_bl) pa_nil))) (pa_cons (pe_tup (pa_cons (pv 3) (pa_cons (pe_bl) pa_nil))) pa_nil)))))) pa_nil))) (C8.pss_cut (ps_setLc (i := 16) (own := [("_law_value", 18), ("_law_due", 19)]) (g := gTup K 2 (gCons (gName 18) (gCons (gName 19) gNil))) (tt := tYes) rfl sc67.nd rfl rfl (sw_true rfl rfl rfl (by decide +kernel)) (pi_list (pv 6)) (blkOk_by (N := n67) (sc := defScope (top 67)) (by decide +kernel)) (fun _ _ _ _ _ => pg_tup rfl (pgs_cons (pg_name (i := 18) sc67.nd rfl (.inl rfl)) (pgs_cons (pg_name (i := 19) sc67.nd rfl (.inl rfl)) (pgs_nil)))) (fun _ _ _ _ _ => pts_nil) (fun _ _ _ _ _ => C8.pe_c (c_showsMet T) hr (by decide) rfl (pa_cons (pv 5) (pa_cons (pv 2) (pa_cons (pe_callTy (show CallR _ (.type "list") (rListOf K) from call_list_of) (by rfl) (T.b 6) (by decide +kernel) (pa_cons (pv 3) pa_nil)) (pa_cons (pv 18) pa_nil)))))) (pss_one (ps_ret (pe_cmpR op_eq (pe_callB (call_reprD hgu hr.units) (by rfl) (T.b 11) (by decide +kernel) (pa_cons (pv 16) pa_nil)) (pe_callB (call_reprD hgu hr.units) (by rfl) (T.b 11) (by decide +kernel) (pa_cons (pe_lc (own := [("_law_value", 18), ("_law_due", 19)]) (g := gTup K 2 (gCons (gName 18) (gCons (gName 19) gNil))) (tt := tYes) rfl sc67.nd (pi_list (pv 6)) (blkOk_by (N := n67) (sc := defScope (top 67)) (by decide +kernel)) (fun _ _ _ _ _ => pg_tup rfl (pgs_cons (pg_name (i := 18) sc67.nd rfl (.inl rfl)) (pgs_cons (pg_name (i := 19) sc67.nd rfl (.inl rfl)) (pgs_nil)))) (fun _ _ _ _ _ => pts_nil) (fun _ _ _ _ _ => pv 19)) pa_nil)) (nomark _)))))))))))), ?_⟩
  obtain ⟨m0, m24⟩ := moduli_pos hm
  have lst_ne : ∀ {H : Hp} {N : Nat} {a : Addr} {o : HO}, Vat N H v → (∀ c xs, o ≠ .lst (.ref c :: xs)) → H a = some o → a ≠ v := fun hv n e z => by
    obtain ⟨c, _, _, _, hc, _⟩ := hv
    rw [z, hc] at e
    exact n _ _ (Option.some.inj e).symm
  have nav : a ≠ v := lst_ne hv (fun c xs z => iv_ne z.symm) ha
  have ntv : tg ≠ v := lst_ne hv (fun c xs z => by cases z) htg
  have nlv : l ≠ v := lst_ne hv (fun c xs z => by cases z) hl
  -- Four, []
  refine ⟨_, rfl, a, _, rfl, .inl (SqL.of ha), fun c nc => ?_⟩
  have sb : Same H (L2.upd H c (.lst (iv b))) := Same.upd nc
  have eb : (L2.upd H c (.lst (iv b))) c = some (.lst (iv b)) := upd_same
  generalize L2.upd H c (.lst (iv b)) = Hb at sb eb
  refine fun f dx nf nd ne => mkFour nf nd ne eb fb fun Hf sf hf => ⟨rfl, ?_⟩
  have s0 := sb.trans sf
  replace ha := s0 _ _ ha
  replace htg := s0 _ _ htg
  replace hl := s0 _ _ hl
  have hvf := hv.same s0
  refine ⟨by show 0 ≤ sizeLine; decide, fun D nD => ?_⟩
  have sd : Same Hf (L2.upd Hf D (.lst [])) := Same.upd nD
  have ed : (L2.upd Hf D (.lst [])) D = some (.lst []) := upd_same
  generalize L2.upd Hf D (.lst []) = Hd at sd ed
  have nDv : D ≠ v := fun z => by
    obtain ⟨c, _, _, _, hc, _⟩ := hvf
    rw [z, hc] at nD; cases nD
  refine ⟨by show 2 ≤ sizeLine; decide, fun p np => ?_⟩
  have sp : Same Hd (L2.upd Hd p (.tup [V.ref f, V.ref D])) := Same.upd np
  have ep : (L2.upd Hd p (.tup [V.ref f, V.ref D])) p = some (.tup [V.ref f, V.ref D]) := upd_same
  generalize L2.upd Hd p (.tup [V.ref f, V.ref D]) = Hq at sp ep
  refine ⟨p, _, rfl, SqT.of ep, rfl, _, _, rfl, _, _, rfl, rfl, ?_⟩
  have sh0 : Sh K m b t Hf v D N 0 Hq := ⟨kb_same (sd.trans sp), hvf.same (sd.trans sp), (NC.new hvf nD).keep (KeepC.same hvf (sd.trans sp)), [], [], sp _ _ ed, .nil, rfl⟩
  have at_ : ∀ {a : Addr} {o : HO} {M n : Nat} {H' : Hp}, Sh K m b t Hf v D M n H' → a ≠ v → Hf a = some o → H' a = some o := fun h n e => h.kb _ _ n e
  refine ⟨fun σ' H' => ∃ z7 z8 z9, σ' = [some (.ref v), some (.ref a), some (.int m), some (.ref tg), some (.ref l), some (.ref f), some (.ref D), z7, z8, z9, none, none, none, none, none, none, none, none, none, none] ∧ Sh K m b t Hf v D (N + 12) 16 H', ?_, ?_⟩
  · refine ⟨4, rfl, by decide, by decide, for_range (n := 4) (fun i σ' H' => ∃ z7 z8 z9, σ' = [some (.ref v), some (.ref a), some (.int m), some (.ref tg), some (.ref l), some (.ref f), some (.ref D), z7, z8, z9, none, none, none, none, none, none, none, none, none, none] ∧ Sh K m b t Hf v D (N + 3 * i) (4 * i) H') ⟨_, _, _, rfl, sh0⟩ (fun i σ' H' hi pp => ?_) (fun σ' H' pp => pp)⟩
    obtain ⟨z7, z8, z9, rfl, sh⟩ := pp
    refine ⟨_, rfl, _, rfl, v, l, u, _, rfl, sh.vat, by omega, at_ sh nlv hl, oku, by omega, fun H2 p2 u2 kb2 hv2 kc2 h2 ok2 l2 => ?_⟩
    have sh2 := sh.scoop nDv kb2 hv2 kc2
    refine ⟨_, rfl, _, rfl, _, rfl, a, p2, b, m, u2, rfl, at_ sh2 nav ha, fb.dc.len, m0, h2, ok2, fun H3 p3 s3 h3 => ?_⟩
    refine ⟨_, rfl, .tuple (dIs (follow m (R b m) u2)), .tuple (dIs t), .tup (SqT.of h3) (dIs_dp K _ _), .tup (SqT.of (at_ (sh2.same s3) ntv htg)) (dIs_dp K _ _), tupI_shaped _, tupI_shaped _, ?_⟩
    rw [eqv_tupI]
    have sh3 := sh2.same s3
    obtain ⟨xs3, hD3, _⟩ := sh3.ext nD nDv
    refine ⟨_, rfl, .inl ⟨rfl, _, SqL.of hD3⟩, ?_⟩
    have h2' := s3 _ _ h2
    refine ⟨_, rfl, fun xA dxA nxA ndA neA => mkMet nxA ndA neA ⟨lv (wv u2), (in_leafs (wv_leaf _) (.inr (h2')) (by rw [List.length_map]; first | omega | decide))⟩ fun HmA vA smA pmA omA => ⟨rfl, ?_⟩⟩
    obtain ⟨ltA, rfl, hltA⟩ := out_leafs (omA (lv (wv u2)) (in_leafs (wv_leaf _) (.inr (h2')) (by rw [List.length_map]; first | omega | decide)))
    have svA : SVk K HmA m b t (V.ref xA) (decide (follow m (R b m) u2 = t)) := SVk.word pmA hltA ok2 (by omega)
    refine ⟨_, rfl, by show 2 ≤ sizeLine; decide, fun tpA ntpA => ?_⟩
    have sc1 : Same HmA (L2.upd HmA tpA (.tup [V.ref xA, V.bl (decide (follow m (R b m) u2 = t))])) := Same.upd ntpA
    have ec1 : (L2.upd HmA tpA (.tup [V.ref xA, V.bl (decide (follow m (R b m) u2 = t))])) tpA = some (.tup [V.ref xA, V.bl (decide (follow m (R b m) u2 = t))]) := upd_same
    generalize L2.upd HmA tpA (.tup [V.ref xA, V.bl (decide (follow m (R b m) u2 = t))]) = Hc1 at sc1 ec1
    refine ⟨_, rfl, p2, _, rfl, .inr (SqT.of (sc1 _ _ (smA _ _ (h2')))), fun cB ncB => ?_⟩
    have sc2 : Same Hc1 (L2.upd Hc1 cB (.lst (wv u2))) := Same.upd ncB
    have ec2 : (L2.upd Hc1 cB (.lst (wv u2))) cB = some (.lst (wv u2)) := upd_same
    generalize L2.upd Hc1 cB (.lst (wv u2)) = Hc2 at sc2 ec2
    refine ⟨rfl, rfl, fun xB dxB nxB ndB neB => mkMet nxB ndB neB ⟨lv (wv u2), (in_leafs (wv_leaf _) (.inl (ec2)) (by rw [List.length_map]; first | omega | decide))⟩ fun HmB vB smB pmB omB => ⟨rfl, ?_⟩⟩
    obtain ⟨ltB, rfl, hltB⟩ := out_leafs (omB (lv (wv u2)) (in_leafs (wv_leaf _) (.inl (ec2)) (by rw [List.length_map]; first | omega | decide)))
    have svB : SVk K HmB m b t (V.ref xB) (decide (follow m (R b m) u2 = t)) := SVk.word pmB hltB ok2 (by omega)
    refine ⟨_, rfl, by show 2 ≤ sizeLine; decide, fun tpB ntpB => ?_⟩
    have sc3 : Same HmB (L2.upd HmB tpB (.tup [V.ref xB, V.bl (decide (follow m (R b m) u2 = t))])) := Same.upd ntpB
    have ec3 : (L2.upd HmB tpB (.tup [V.ref xB, V.bl (decide (follow m (R b m) u2 = t))])) tpB = some (.tup [V.ref xB, V.bl (decide (follow m (R b m) u2 = t))]) := upd_same
    generalize L2.upd HmB tpB (.tup [V.ref xB, V.bl (decide (follow m (R b m) u2 = t))]) = Hc3 at sc3 ec3
    refine ⟨_, rfl, fun xC dxC nxC ndC neC => mkPaper (by decide) nxC ndC neC ⟨lv (wv u2), (in_leafs (wv_leaf _) (.inr (sc3 _ _ (smB _ _ (sc2 _ _ (sc1 _ _ (smA _ _ (h2'))))))) (by rw [List.length_map]; first | omega | decide))⟩ fun HmC vC smC pmC omC => ⟨rfl, ?_⟩⟩
    obtain ⟨ltC, rfl, hltC⟩ := out_leafs (omC (lv (wv u2)) (in_leafs (wv_leaf _) (.inr (sc3 _ _ (smB _ _ (sc2 _ _ (sc1 _ _ (smA _ _ (h2'))))))) (by rw [List.length_map]; first | omega | decide)))
    have svC : SVk K HmC m b t (V.ref xC) false := SVk.pap (by decide) pmC
    refine ⟨by show 2 ≤ sizeLine; decide, fun tpC ntpC => ?_⟩
    have sc4 : Same HmC (L2.upd HmC tpC (.tup [V.ref xC, V.bl false])) := Same.upd ntpC
    have ec4 : (L2.upd HmC tpC (.tup [V.ref xC, V.bl false])) tpC = some (.tup [V.ref xC, V.bl false]) := upd_same
    generalize L2.upd HmC tpC (.tup [V.ref xC, V.bl false]) = Hc4 at sc4 ec4
    refine ⟨_, rfl, fun xE dxE nxE ndE neE => mkUnmet nxE ndE neE ⟨lv (wv u2), (in_leafs (wv_leaf _) (.inr (sc4 _ _ (smC _ _ (sc3 _ _ (smB _ _ (sc2 _ _ (sc1 _ _ (smA _ _ (h2'))))))))) (by rw [List.length_map]; first | omega | decide))⟩ fun HmE vE smE pmE omE => ⟨rfl, ?_⟩⟩
    obtain ⟨ltE, rfl, hltE⟩ := out_leafs (omE (lv (wv u2)) (in_leafs (wv_leaf _) (.inr (sc4 _ _ (smC _ _ (sc3 _ _ (smB _ _ (sc2 _ _ (sc1 _ _ (smA _ _ (h2'))))))))) (by rw [List.length_map]; first | omega | decide)))
    have svE : SVk K HmE m b t (V.ref xE) false := SVk.unmNo pmE (.tup hltE) (by decide) rfl
    refine ⟨by show 2 ≤ sizeLine; decide, fun tpE ntpE => ?_⟩
    have sc5 : Same HmE (L2.upd HmE tpE (.tup [V.ref xE, V.bl false])) := Same.upd ntpE
    have ec5 : (L2.upd HmE tpE (.tup [V.ref xE, V.bl false])) tpE = some (.tup [V.ref xE, V.bl false]) := upd_same
    generalize L2.upd HmE tpE (.tup [V.ref xE, V.bl false]) = Hc5 at sc5 ec5
    refine ⟨by show 4 ≤ sizeLine; decide, fun lz nlz => ?_⟩
    have sc6 : Same Hc5 (L2.upd Hc5 lz (.lst [V.ref tpA, V.ref tpB, V.ref tpC, V.ref tpE])) := Same.upd nlz
    have ec6 : (L2.upd Hc5 lz (.lst [V.ref tpA, V.ref tpB, V.ref tpC, V.ref tpE])) lz = some (.lst [V.ref tpA, V.ref tpB, V.ref tpC, V.ref tpE]) := upd_same
    generalize L2.upd Hc5 lz (.lst [V.ref tpA, V.ref tpB, V.ref tpC, V.ref tpE]) = Hc6 at sc6 ec6
    have sh4 := sh3.same ((((((((((smA).trans sc1).trans sc2).trans smB).trans sc3).trans smC).trans sc4).trans smE).trans sc5).trans sc6)
    obtain ⟨xs4, hD4, l4, g4⟩ := sh4.ext nD nDv
    have pz : Paired (Item K m b t Hc6) [V.ref tpA, V.ref tpB, V.ref tpC, V.ref tpE] [(decide (follow m (R b m) u2 = t)), (decide (follow m (R b m) u2 = t)), false, false] := .cons (⟨tpA, _, rfl, (sc6 _ _ (sc5 _ _ (smE _ _ (sc4 _ _ (smC _ _ (sc3 _ _ (smB _ _ (sc2 _ _ (ec1))))))))), svA.klt (KLT.of (((((((((sc1).trans sc2).trans smB).trans sc3).trans smC).trans sc4).trans smE).trans sc5).trans sc6))⟩) (.cons (⟨tpB, _, rfl, (sc6 _ _ (sc5 _ _ (smE _ _ (sc4 _ _ (smC _ _ (ec3)))))), svB.klt (KLT.of ((((((sc3).trans smC).trans sc4).trans smE).trans sc5).trans sc6))⟩) (.cons (⟨tpC, _, rfl, (sc6 _ _ (sc5 _ _ (smE _ _ (ec4)))), svC.klt (KLT.of ((((sc4).trans smE).trans sc5).trans sc6))⟩) (.cons (⟨tpE, _, rfl, (sc6 _ _ (ec5)), svE.klt (KLT.of ((sc5).trans sc6))⟩) .nil)))
    refine ⟨D, lz, xs4, _, rfl, rfl, hD4, ec6, by rw [l4, sizeLine_eq]; simp; omega, ?_⟩
    exact ⟨_, _, _, rfl, (g4 _ _ pz).mono (by omega)⟩
  rintro σ' H1 ⟨z7, z8, z9, rfl, sh⟩
  refine ⟨_, rfl, v, 4, _, rfl, sh.vat, by omega, by decide, by decide, fun H2 zk kb2 hv2 zk0 zk1 kc2 => ?_⟩
  obtain ⟨k, rfl⟩ : ∃ k : Nat, zk = k := ⟨zk.toNat, by omega⟩
  have k4 : k < 4 := by omega
  have sh2 := (sh.scoop nDv kb2 hv2 kc2).mono (M' := N + 13) (by omega)
  clear sh kb2 hv2 kc2
  refine ⟨fun σ' H' => σ' = [some (.ref v), some (.ref a), some (.int m), some (.ref tg), some (.ref l), some (.ref f), some (.ref D), z7, z8, z9, some (.int (k : Int)), none, none, none, none, none, none, none, none, none] ∧ Sh K m b t Hf v D (N + 13) 17 H', ?_, ?_⟩
  · obtain ⟨xs3, hD3, _⟩ := sh2.ext nD nDv
    have h2l := at_ sh2 nlv hl
    refine ⟨_, rfl, .inl ⟨rfl, _, SqL.of hD3⟩, ?_⟩
    refine ⟨_, rfl, _, rfl, _, rfl, by show 2 ≤ sizeLine; decide, fun tk ntk => ?_⟩
    have sc1 : Same H2 (L2.upd H2 tk (.tup [V.int (k : Int), V.int (k : Int)])) := Same.upd ntk
    have ec1 : (L2.upd H2 tk (.tup [V.int (k : Int), V.int (k : Int)])) tk = some (.tup [V.int (k : Int), V.int (k : Int)]) := upd_same
    generalize L2.upd H2 tk (.tup [V.int (k : Int), V.int (k : Int)]) = Hc1 at sc1 ec1
    refine ⟨tk, 101, _, rfl, rfl, SqT.of ec1, by simp, by decide, by decide, by show 2 ≤ 1000; decide, fun tr ntr => ?_⟩
    have sc2 : Same Hc1 (L2.upd Hc1 tr (.tup (List.replicate (101 : Int).toNat [V.int (k : Int), V.int (k : Int)]).flatten)) := Same.upd ntr
    have ec2 : (L2.upd Hc1 tr (.tup (List.replicate (101 : Int).toNat [V.int (k : Int), V.int (k : Int)]).flatten)) tr = some (.tup (List.replicate (101 : Int).toNat [V.int (k : Int), V.int (k : Int)]).flatten) := upd_same
    generalize L2.upd Hc1 tr (.tup (List.replicate (101 : Int).toNat [V.int (k : Int), V.int (k : Int)]).flatten) = Hc2 at sc2 ec2
    have er : Hc2 tr = some (.tup (wv ((List.replicate 101 [k, k]).flatten))) := by rw [wv_rep]; exact ec2
    have lr : ((List.replicate 101 [k, k]).flatten).length = 202 := rep_len k 101
    refine catA_tk (sc2 _ _ (sc1 _ _ (h2l))) er (by rw [List.length_map, List.length_map, lr, sizeLine_eq]; omega) fun HcL pL sL hL => ?_
    have hL' : HcL pL = some (.tup (wv (u ++ (List.replicate 101 [k, k]).flatten))) := by rw [hL]; simp [wv]
    have lu' : (u ++ (List.replicate 101 [k, k]).flatten).length ≤ 400000 := by rw [List.length_append, lr]; omega
    have oku' : okW (u ++ (List.replicate 101 [k, k]).flatten) := okW_app oku (okW_rep k4 101)
    have ef : follow m (R b m) (u ++ (List.replicate 101 [k, k]).flatten) = follow m (R b m) u := by rw [follow_app]; exact follow_rep m0 k4 101 (follow_ok m0 u (R_ok fb.dc.len m0))
    generalize u ++ (List.replicate 101 [k, k]).flatten = u3 at hL' lu' oku' ef
    refine fun xA dxA nxA ndA neA => mkMet nxA ndA neA ⟨lv (wv u3), (in_leafs (wv_leaf _) (.inr (hL')) (by rw [List.length_map]; first | omega | decide))⟩ fun HmA vA smA pmA omA => ⟨rfl, ?_⟩
    obtain ⟨ltA, rfl, hltA⟩ := out_leafs (omA (lv (wv u3)) (in_leafs (wv_leaf _) (.inr (hL')) (by rw [List.length_map]; first | omega | decide)))
    refine ⟨_, rfl, _, rfl, _, rfl, a, l, b, m, u, rfl, (smA _ _ (sL _ _ (sc2 _ _ (sc1 _ _ (at_ sh2 nav ha))))), fb.dc.len, m0, (smA _ _ (sL _ _ (sc2 _ _ (sc1 _ _ (h2l))))), oku, fun Hk p3 s3 h3 => ?_⟩
    refine ⟨_, rfl, .tuple (dIs (follow m (R b m) u)), .tuple (dIs t), .tup (SqT.of h3) (dIs_dp K _ _), .tup (SqT.of (s3 _ _ (smA _ _ (sL _ _ (sc2 _ _ (sc1 _ _ (at_ sh2 ntv htg))))))) (dIs_dp K _ _), tupI_shaped _, tupI_shaped _, ?_⟩
    rw [eqv_tupI]
    have svA : SVk K Hk m b t (V.ref xA) (decide (follow m (R b m) u = t)) := by
      have := SVk.word (m := m) (b := b) (t := t) (pmA.klt (KLT.of s3)) (s3 _ _ hltA) oku' (by omega)
      rw [ef] at this; exact this
    refine ⟨by show 2 ≤ sizeLine; decide, fun tpA ntpA => ?_⟩
    have sc3 : Same Hk (L2.upd Hk tpA (.tup [V.ref xA, V.bl (decide (follow m (R b m) u = t))])) := Same.upd ntpA
    have ec3 : (L2.upd Hk tpA (.tup [V.ref xA, V.bl (decide (follow m (R b m) u = t))])) tpA = some (.tup [V.ref xA, V.bl (decide (follow m (R b m) u = t))]) := upd_same
    generalize L2.upd Hk tpA (.tup [V.ref xA, V.bl (decide (follow m (R b m) u = t))]) = Hc3 at sc3 ec3
    have sh4 := sh2.same ((((((sc1).trans sc2).trans sL).trans smA).trans s3).trans sc3)
    obtain ⟨xs4, hD4, l4, g4⟩ := sh4.ext nD nDv
    have pz : Paired (Item K m b t Hc3) [V.ref tpA] [(decide (follow m (R b m) u = t))] := .cons (⟨tpA, _, rfl, (ec3), svA.klt (KLT.of (sc3))⟩) .nil
    refine ⟨D, xs4, _, rfl, rfl, hD4, by rw [l4, sizeLine_eq]; omega, ?_⟩
    exact ⟨rfl, g4 _ _ pz⟩
  clear sh2
  rintro σ' H1 ⟨rfl, sh⟩
  -- the pillars here
  refine ⟨fun σ' H' => ∃ pl, σ' = [some (.ref v), some (.ref a), some (.int m), some (.ref tg), some (.ref l), some (.ref f), some (.ref D), z7, z8, z9, some (.int (k : Int)), some (.ref pl), none, none, none, none, none, none, none, none] ∧ Sh K m b t Hf v D (N + 13) 17 H' ∧ H' pl = some (.lst (iv (lacks m b t))) ∧ pl ≠ D, ?_, ?_⟩
  · refine ⟨_, rfl, m, rfl, hm, fun H2 p2 s2 h2 => ?_⟩
    have sh2 := sh.same s2
    refine ⟨p2, rfl, ⟨_, SqL.of h2⟩, fun D' nD' => ?_⟩
    have nDD : D' ≠ D := fun z => by
      obtain ⟨xs, hD, _⟩ := sh2.ext nD nDv
      rw [z, hD] at nD'; cases nD'
    have pl10 : (parts m).length ≤ 10 := by
      unfold parts
      repeat (split; · decide)
      simp
    refine lc_list_g 17 (fun x => match x with | .int q => !rch q b t | _ => false) (fun _ x y => y = x) (fun _ _ _ _ _ h => h) (fun _ _ _ _ _ _ h => h) (by rw [List.length_map]; omega) nD' (SqL.of h2) (fun x => rfl) (fun x hx H' s' Q' z' => ?_) (fun x hx _ H' s' Q' z' => ⟨_, rfl, z' _ _ (Same.refl _) rfl⟩) (fun H5 ys s5 hy rr => ?_)
    · obtain ⟨n, hn, rfl⟩ := List.mem_map.mp hx
      have hnm := (parts_of_mem hm n hn).1
      obtain ⟨n0, n24⟩ := moduli_pos hnm
      have sh3 := sh2.same s'
      refine ⟨_, rfl, _, rfl, tg, t, n, rfl, .inr (at_ sh3 ntv htg), by rw [okt.1]; decide, n0, fun H6 p6 s6 h6 => ?_⟩
      have sh4 := sh3.same s6
      refine ⟨_, rfl, _, rfl, a, b, n, rfl, .inl (at_ sh4 nav ha), by rw [fb.dc.len]; decide, n0, fun H7 p7 s7 h7 => ?_⟩
      refine ⟨_, rfl, p7, _, n, rfl, h7, R_ok fb.dc.len n0, n0, n24, fun H8 d8 T8 s8 W8 D8 => ?_⟩
      obtain ⟨o, g, eo⟩ := D8.get W8.nd (s8 _ _ (s7 _ _ h6))
      refine ⟨d8, o, rfl, g, _, rfl, ?_⟩
      rw [eo, rch_key W8]
      exact z' _ ((s6.trans s7).trans s8)
    · have ey : ys = iv (lacks m b t) := by
        have := Paired.eq_map (f := fun x : V => x) rr
        rw [List.map_id'] at this
        rw [this]
        unfold lacks iv
        rw [List.filter_map]; rfl
      subst ey
      exact ⟨D', rfl, sh2.same s5, hy, nDD⟩
  clear sh
  rintro σ' H1 ⟨pl, rfl, sh, hpl, npl⟩
  have pn1 : ∀ {v : V} {ty : String}, Pl H1 v ty → Pl H1 v ty := fun h => h
  -- the 18
  refine ⟨fun σ' H' => ∃ z12 z13 z14, σ' = [some (.ref v), some (.ref a), some (.int m), some (.ref tg), some (.ref l), some (.ref f), some (.ref D), z7, z8, z9, some (.int (k : Int)), some (.ref pl), z12, z13, z14, none, none, none, none, none] ∧ Sh K m b t Hf v D (N + 13) 71 H', ?_, ?_⟩
  · refine ⟨_, rfl, by show 1 ≤ sizeLine; decide, fun l3 nl3 => ?_⟩
    have nl3D : l3 ≠ D := fun z => by
      obtain ⟨xs, hD, _⟩ := sh.ext nD nDv
      rw [z, hD] at nl3; cases nl3
    have sc1 : Same H1 (L2.upd H1 l3 (.lst [V.int 3])) := Same.upd nl3
    have ec1 : (L2.upd H1 l3 (.lst [V.int 3])) l3 = some (.lst [V.int 3]) := upd_same
    generalize L2.upd H1 l3 (.lst [V.int 3]) = Hc1 at sc1 ec1
    refine ⟨8, rfl, by show 18 ≤ sizeLine; decide, fun t18 nt18 => ?_⟩
    have sc2 : Same Hc1 (L2.upd Hc1 t18 (.tup [V.int 2, V.int 3, V.int 4, V.int 5, V.int 7, V.int 8, V.int 9, V.int 11, V.int 13, V.int 24, V.int m, V.int 0, V.int 1, V.bl true, V.non, V.str "3", V.ref l3, V.int (-8)])) := Same.upd nt18
    have ec2 : (L2.upd Hc1 t18 (.tup [V.int 2, V.int 3, V.int 4, V.int 5, V.int 7, V.int 8, V.int 9, V.int 11, V.int 13, V.int 24, V.int m, V.int 0, V.int 1, V.bl true, V.non, V.str "3", V.ref l3, V.int (-8)])) t18 = some (.tup [V.int 2, V.int 3, V.int 4, V.int 5, V.int 7, V.int 8, V.int 9, V.int 11, V.int 13, V.int 24, V.int m, V.int 0, V.int 1, V.bl true, V.non, V.str "3", V.ref l3, V.int (-8)]) := upd_same
    generalize L2.upd Hc1 t18 (.tup [V.int 2, V.int 3, V.int 4, V.int 5, V.int 7, V.int 8, V.int 9, V.int 11, V.int 13, V.int 24, V.int m, V.int 0, V.int 1, V.bl true, V.non, V.str "3", V.ref l3, V.int (-8)]) = Hc2 at sc2 ec2
    have sh6 := sh.same ((sc1).trans sc2)
    have hl36 := (sc2 _ _ (ec1))
    have hpl6 := (sc2 _ _ (sc1 _ _ (hpl)))
    have kinds : ∀ x ∈ [V.int 2, V.int 3, V.int 4, V.int 5, V.int 7, V.int 8, V.int 9, V.int 11, V.int 13, V.int 24, V.int m, V.int 0, V.int 1, V.bl true, V.non, V.str "3", V.ref l3, V.int (-8)], (∃ z, x = V.int z) ∨ x = .bl true ∨ x = .non ∨ x = .str "3" ∨ x = .ref l3 := fun x hx => by
      simp only [List.mem_cons, List.mem_nil_iff, or_false] at hx
      rcases hx with h | h | h | h | h | h | h | h | h | h | h | h | h | h | h | h | h | h
      all_goals first | exact .inl ⟨_, h⟩ | exact .inr (.inl h) | exact .inr (.inr (.inl h)) | exact .inr (.inr (.inr (.inl h))) | exact .inr (.inr (.inr (.inr h)))
    have len18 : [V.int 2, V.int 3, V.int 4, V.int 5, V.int 7, V.int 8, V.int 9, V.int 11, V.int 13, V.int 24, V.int m, V.int 0, V.int 1, V.bl true, V.non, V.str "3", V.ref l3, V.int (-8)].length = 18 := rfl
    generalize [V.int 2, V.int 3, V.int 4, V.int 5, V.int 7, V.int 8, V.int 9, V.int 11, V.int 13, V.int 24, V.int m, V.int 0, V.int 1, V.bl true, V.non, V.str "3", V.ref l3, V.int (-8)] = xs18 at ec2 kinds len18
    refine ⟨t18, rfl, ⟨_, SqT.of ec2⟩, for_tup (xs := xs18) (fun i σ' H' => ∃ z12 z13 z14, σ' = [some (.ref v), some (.ref a), some (.int m), some (.ref tg), some (.ref l), some (.ref f), some (.ref D), z7, z8, z9, some (.int (k : Int)), some (.ref pl), z12, z13, z14, none, none, none, none, none] ∧ Sh K m b t Hf v D (N + 13) (17 + 3 * i) H' ∧ KeptBut D Hc2 H') ⟨_, _, _, rfl, sh6, KeptBut.refl _⟩ (fun i σ' H' _ p => ?_) (fun i x σ' H' hx pp => ?_) (fun σ' H' pp => ?_)⟩
    · obtain ⟨_, _, _, _, shx, kb⟩ := p
      refine SqT.of (kb _ _ (fun z => ?_) ec2)
      obtain ⟨xs, hD, _⟩ := sh6.ext nD nDv
      rw [z, hD] at ec2; cases ec2
    · obtain ⟨z12, z13, z14, rfl, sh7, kb7⟩ := pp
      have hi : i < 18 := by
        rcases Nat.lt_or_ge i 18 with h | h
        · exact h
        · rw [List.getElem?_eq_none (by omega)] at hx; cases hx
      have hpl7 := kb7 _ _ npl hpl6
      have hl37 := kb7 _ _ nl3D hl36
      have hkind := kinds x (List.mem_of_getElem? hx)
      have kI : PySem.W.kitOne K (.type "int") (.type "int") = some true := kit_ty (by decide +kernel)
      rcases hkind with ⟨z, rfl⟩ | rfl | rfl | rfl | rfl
      · refine ⟨_, rfl, _, _, _, _, true, rfl, .ty "int", Pl.ty (Pl.int z), kit_ty (a := "int") (b := "int") (by decide +kernel), _, rfl, ?_⟩
        refine iteT ⟨_, rfl, _, _, _, _, false, rfl, .ty "bool", Pl.ty (Pl.int z), kit_ty (a := "int") (b := "bool") (by decide +kernel), _, rfl, _, rfl, iteT ?_⟩
        refine ⟨_, rfl, _, rfl, pl, _, rfl, .inl (SqL.of hpl7), rfl, iv_flat _, ?_⟩
        have ein : (if false = true then !inV (.int z) (iv (lacks m b t)) else inV (.int z) (iv (lacks m b t))) = (decide (z ∈ parts m) && !rch z b t) := by rw [if_neg (by decide), inV_iv, lacks_dec]
        rw [ein]
        refine ⟨_, rfl, by show 1 ≤ sizeLine; decide, fun la nla => ?_⟩
        have sc1 : Same H' (L2.upd H' la (.lst [V.int 3])) := Same.upd nla
        have ec1 : (L2.upd H' la (.lst [V.int 3])) la = some (.lst [V.int 3]) := upd_same
        generalize L2.upd H' la (.lst [V.int 3]) = Hc1 at sc1 ec1
        refine ⟨PyData.int z, .list (dIs [3]), Dp.int z, .lst (SqL.of ec1) (show DpAll K _ [V.int 3] (dIs [3]) from dIs_dp K _ [3]), sh_int z, lstI_shaped _, ?_⟩
        have ev : PyData.eqv (PyData.int z) (.list (dIs [3])) = false := by simp [PyData.eqv]
        rw [ev]
        refine ⟨_, rfl, iteF ?_⟩
        have sh8 := sh7.same (sc1)
        obtain ⟨xs3, hD3, _⟩ := sh8.ext nD nDv
        refine ⟨_, rfl, .inl ⟨rfl, _, SqL.of hD3⟩, ?_⟩
        refine ⟨_, rfl, fun xA dxA nxA ndA neA => mkUnmet nxA ndA neA ⟨.inl (V.int z), ⟨rfl, ⟨_, Pl.int z, rfl⟩⟩⟩ fun HmA vA smA pmA omA => ⟨rfl, ?_⟩⟩
        obtain ⟨rfl, _⟩ := omA (.inl (V.int z)) ⟨rfl, ⟨_, Pl.int z, rfl⟩⟩
        have svA : SVk K HmA m b t (V.ref xA) (decide (z ∈ parts m) && !rch z b t) := SVk.unm pmA
        refine ⟨_, rfl, by show 2 ≤ sizeLine; decide, fun tpA ntpA => ?_⟩
        have sc2 : Same HmA (L2.upd HmA tpA (.tup [V.ref xA, V.bl (decide (z ∈ parts m) && !rch z b t)])) := Same.upd ntpA
        have ec2 : (L2.upd HmA tpA (.tup [V.ref xA, V.bl (decide (z ∈ parts m) && !rch z b t)])) tpA = some (.tup [V.ref xA, V.bl (decide (z ∈ parts m) && !rch z b t)]) := upd_same
        generalize L2.upd HmA tpA (.tup [V.ref xA, V.bl (decide (z ∈ parts m) && !rch z b t)]) = Hc2 at sc2 ec2
        refine ⟨_, rfl, fun xB dxB nxB ndB neB => mkMet nxB ndB neB ⟨.inl (V.int z), ⟨rfl, ⟨_, Pl.int z, rfl⟩⟩⟩ fun HmB vB smB pmB omB => ⟨rfl, ?_⟩⟩
        obtain ⟨rfl, _⟩ := omB (.inl (V.int z)) ⟨rfl, ⟨_, Pl.int z, rfl⟩⟩
        have svB : SVk K HmB m b t (V.ref xB) false := SVk.metLeaf pmB (Pl.int z) rfl
        refine ⟨_, rfl, by show 2 ≤ sizeLine; decide, fun tpB ntpB => ?_⟩
        have sc3 : Same HmB (L2.upd HmB tpB (.tup [V.ref xB, V.bl false])) := Same.upd ntpB
        have ec3 : (L2.upd HmB tpB (.tup [V.ref xB, V.bl false])) tpB = some (.tup [V.ref xB, V.bl false]) := upd_same
        generalize L2.upd HmB tpB (.tup [V.ref xB, V.bl false]) = Hc3 at sc3 ec3
        refine ⟨_, rfl, fun xC dxC nxC ndC neC => mkPaper (by decide) nxC ndC neC ⟨.inl (V.int z), ⟨rfl, ⟨_, Pl.int z, rfl⟩⟩⟩ fun HmC vC smC pmC omC => ⟨rfl, ?_⟩⟩
        obtain ⟨rfl, _⟩ := omC (.inl (V.int z)) ⟨rfl, ⟨_, Pl.int z, rfl⟩⟩
        have svC : SVk K HmC m b t (V.ref xC) false := SVk.pap (by decide) pmC
        refine ⟨by show 2 ≤ sizeLine; decide, fun tpC ntpC => ?_⟩
        have sc4 : Same HmC (L2.upd HmC tpC (.tup [V.ref xC, V.bl false])) := Same.upd ntpC
        have ec4 : (L2.upd HmC tpC (.tup [V.ref xC, V.bl false])) tpC = some (.tup [V.ref xC, V.bl false]) := upd_same
        generalize L2.upd HmC tpC (.tup [V.ref xC, V.bl false]) = Hc4 at sc4 ec4
        refine ⟨by show 3 ≤ sizeLine; decide, fun lz nlz => ?_⟩
        have sc5 : Same Hc4 (L2.upd Hc4 lz (.lst [V.ref tpA, V.ref tpB, V.ref tpC])) := Same.upd nlz
        have ec5 : (L2.upd Hc4 lz (.lst [V.ref tpA, V.ref tpB, V.ref tpC])) lz = some (.lst [V.ref tpA, V.ref tpB, V.ref tpC]) := upd_same
        generalize L2.upd Hc4 lz (.lst [V.ref tpA, V.ref tpB, V.ref tpC]) = Hc5 at sc5 ec5
        have sh9 := sh7.same ((((((((sc1).trans smA).trans sc2).trans smB).trans sc3).trans smC).trans sc4).trans sc5)
        obtain ⟨xs4, hD4, l4, g4⟩ := sh9.ext nD nDv
        have pz : Paired (Item K m b t Hc5) [V.ref tpA, V.ref tpB, V.ref tpC] [(decide (z ∈ parts m) && !rch z b t), false, false] := .cons (⟨tpA, _, rfl, (sc5 _ _ (sc4 _ _ (smC _ _ (sc3 _ _ (smB _ _ (ec2)))))), svA.klt (KLT.of ((((((sc2).trans smB).trans sc3).trans smC).trans sc4).trans sc5))⟩) (.cons (⟨tpB, _, rfl, (sc5 _ _ (sc4 _ _ (smC _ _ (ec3)))), svB.klt (KLT.of ((((sc3).trans smC).trans sc4).trans sc5))⟩) (.cons (⟨tpC, _, rfl, (sc5 _ _ (ec4)), svC.klt (KLT.of ((sc4).trans sc5))⟩) .nil))
        refine ⟨D, lz, xs4, _, rfl, rfl, hD4, ec5, by rw [l4, sizeLine_eq]; simp; omega, ?_⟩
        exact ⟨_, _, _, rfl, g4 _ _ pz, kb7.trans ((kb_same ((((((((sc1).trans smA).trans sc2).trans smB).trans sc3).trans smC).trans sc4).trans sc5)).trans fun a o na e => by rw [upd_ne na]; exact e)⟩
      · refine ⟨_, rfl, _, _, _, _, true, rfl, .ty "int", Pl.ty (Pl.bl true), kit_ty (a := "bool") (b := "int") (by decide +kernel), _, rfl, ?_⟩
        refine iteT ⟨_, rfl, _, _, _, _, true, rfl, .ty "bool", Pl.ty (Pl.bl true), kit_ty (a := "bool") (b := "bool") (by decide +kernel), _, rfl, _, rfl, iteF ?_⟩
        refine ⟨_, rfl, by show 1 ≤ sizeLine; decide, fun la nla => ?_⟩
        have sc1 : Same H' (L2.upd H' la (.lst [V.int 3])) := Same.upd nla
        have ec1 : (L2.upd H' la (.lst [V.int 3])) la = some (.lst [V.int 3]) := upd_same
        generalize L2.upd H' la (.lst [V.int 3]) = Hc1 at sc1 ec1
        refine ⟨PyData.bool true, .list (dIs [3]), Dp.bl true, .lst (SqL.of ec1) (show DpAll K _ [V.int 3] (dIs [3]) from dIs_dp K _ [3]), by decide +kernel, lstI_shaped _, ?_⟩
        have ev : PyData.eqv (PyData.bool true) (.list (dIs [3])) = false := by simp [PyData.eqv]
        rw [ev]
        refine ⟨_, rfl, iteF ?_⟩
        have sh8 := sh7.same (sc1)
        obtain ⟨xs3, hD3, _⟩ := sh8.ext nD nDv
        refine ⟨_, rfl, .inl ⟨rfl, _, SqL.of hD3⟩, ?_⟩
        refine ⟨_, rfl, fun xA dxA nxA ndA neA => mkUnmet nxA ndA neA ⟨.inl (V.bl true), ⟨rfl, ⟨_, Pl.bl true, rfl⟩⟩⟩ fun HmA vA smA pmA omA => ⟨rfl, ?_⟩⟩
        obtain ⟨rfl, _⟩ := omA (.inl (V.bl true)) ⟨rfl, ⟨_, Pl.bl true, rfl⟩⟩
        have svA : SVk K HmA m b t (V.ref xA) false := SVk.unmNo pmA (Pl.bl true) (by decide) rfl
        refine ⟨_, rfl, by show 2 ≤ sizeLine; decide, fun tpA ntpA => ?_⟩
        have sc2 : Same HmA (L2.upd HmA tpA (.tup [V.ref xA, V.bl false])) := Same.upd ntpA
        have ec2 : (L2.upd HmA tpA (.tup [V.ref xA, V.bl false])) tpA = some (.tup [V.ref xA, V.bl false]) := upd_same
        generalize L2.upd HmA tpA (.tup [V.ref xA, V.bl false]) = Hc2 at sc2 ec2
        refine ⟨_, rfl, fun xB dxB nxB ndB neB => mkMet nxB ndB neB ⟨.inl (V.bl true), ⟨rfl, ⟨_, Pl.bl true, rfl⟩⟩⟩ fun HmB vB smB pmB omB => ⟨rfl, ?_⟩⟩
        obtain ⟨rfl, _⟩ := omB (.inl (V.bl true)) ⟨rfl, ⟨_, Pl.bl true, rfl⟩⟩
        have svB : SVk K HmB m b t (V.ref xB) false := SVk.metLeaf pmB (Pl.bl true) rfl
        refine ⟨_, rfl, by show 2 ≤ sizeLine; decide, fun tpB ntpB => ?_⟩
        have sc3 : Same HmB (L2.upd HmB tpB (.tup [V.ref xB, V.bl false])) := Same.upd ntpB
        have ec3 : (L2.upd HmB tpB (.tup [V.ref xB, V.bl false])) tpB = some (.tup [V.ref xB, V.bl false]) := upd_same
        generalize L2.upd HmB tpB (.tup [V.ref xB, V.bl false]) = Hc3 at sc3 ec3
        refine ⟨_, rfl, fun xC dxC nxC ndC neC => mkPaper (by decide) nxC ndC neC ⟨.inl (V.bl true), ⟨rfl, ⟨_, Pl.bl true, rfl⟩⟩⟩ fun HmC vC smC pmC omC => ⟨rfl, ?_⟩⟩
        obtain ⟨rfl, _⟩ := omC (.inl (V.bl true)) ⟨rfl, ⟨_, Pl.bl true, rfl⟩⟩
        have svC : SVk K HmC m b t (V.ref xC) false := SVk.pap (by decide) pmC
        refine ⟨by show 2 ≤ sizeLine; decide, fun tpC ntpC => ?_⟩
        have sc4 : Same HmC (L2.upd HmC tpC (.tup [V.ref xC, V.bl false])) := Same.upd ntpC
        have ec4 : (L2.upd HmC tpC (.tup [V.ref xC, V.bl false])) tpC = some (.tup [V.ref xC, V.bl false]) := upd_same
        generalize L2.upd HmC tpC (.tup [V.ref xC, V.bl false]) = Hc4 at sc4 ec4
        refine ⟨by show 3 ≤ sizeLine; decide, fun lz nlz => ?_⟩
        have sc5 : Same Hc4 (L2.upd Hc4 lz (.lst [V.ref tpA, V.ref tpB, V.ref tpC])) := Same.upd nlz
        have ec5 : (L2.upd Hc4 lz (.lst [V.ref tpA, V.ref tpB, V.ref tpC])) lz = some (.lst [V.ref tpA, V.ref tpB, V.ref tpC]) := upd_same
        generalize L2.upd Hc4 lz (.lst [V.ref tpA, V.ref tpB, V.ref tpC]) = Hc5 at sc5 ec5
        have sh9 := sh7.same ((((((((sc1).trans smA).trans sc2).trans smB).trans sc3).trans smC).trans sc4).trans sc5)
        obtain ⟨xs4, hD4, l4, g4⟩ := sh9.ext nD nDv
        have pz : Paired (Item K m b t Hc5) [V.ref tpA, V.ref tpB, V.ref tpC] [false, false, false] := .cons (⟨tpA, _, rfl, (sc5 _ _ (sc4 _ _ (smC _ _ (sc3 _ _ (smB _ _ (ec2)))))), svA.klt (KLT.of ((((((sc2).trans smB).trans sc3).trans smC).trans sc4).trans sc5))⟩) (.cons (⟨tpB, _, rfl, (sc5 _ _ (sc4 _ _ (smC _ _ (ec3)))), svB.klt (KLT.of ((((sc3).trans smC).trans sc4).trans sc5))⟩) (.cons (⟨tpC, _, rfl, (sc5 _ _ (ec4)), svC.klt (KLT.of ((sc4).trans sc5))⟩) .nil))
        refine ⟨D, lz, xs4, _, rfl, rfl, hD4, ec5, by rw [l4, sizeLine_eq]; simp; omega, ?_⟩
        exact ⟨_, _, _, rfl, g4 _ _ pz, kb7.trans ((kb_same ((((((((sc1).trans smA).trans sc2).trans smB).trans sc3).trans smC).trans sc4).trans sc5)).trans fun a o na e => by rw [upd_ne na]; exact e)⟩
      · refine ⟨_, rfl, _, _, _, _, false, rfl, .ty "int", Pl.ty (Pl.non), kit_ty (a := "NoneType") (b := "int") (by decide +kernel), _, rfl, ?_⟩
        refine iteF ?_
        refine ⟨_, rfl, by show 1 ≤ sizeLine; decide, fun la nla => ?_⟩
        have sc1 : Same H' (L2.upd H' la (.lst [V.int 3])) := Same.upd nla
        have ec1 : (L2.upd H' la (.lst [V.int 3])) la = some (.lst [V.int 3]) := upd_same
        generalize L2.upd H' la (.lst [V.int 3]) = Hc1 at sc1 ec1
        refine ⟨PyData.none, .list (dIs [3]), Dp.non, .lst (SqL.of ec1) (show DpAll K _ [V.int 3] (dIs [3]) from dIs_dp K _ [3]), by decide +kernel, lstI_shaped _, ?_⟩
        have ev : PyData.eqv (PyData.none) (.list (dIs [3])) = false := by simp [PyData.eqv]
        rw [ev]
        refine ⟨_, rfl, iteF ?_⟩
        have sh8 := sh7.same (sc1)
        obtain ⟨xs3, hD3, _⟩ := sh8.ext nD nDv
        refine ⟨_, rfl, .inl ⟨rfl, _, SqL.of hD3⟩, ?_⟩
        refine ⟨_, rfl, fun xA dxA nxA ndA neA => mkUnmet nxA ndA neA ⟨.inl (V.non), ⟨rfl, ⟨_, Pl.non, rfl⟩⟩⟩ fun HmA vA smA pmA omA => ⟨rfl, ?_⟩⟩
        obtain ⟨rfl, _⟩ := omA (.inl (V.non)) ⟨rfl, ⟨_, Pl.non, rfl⟩⟩
        have svA : SVk K HmA m b t (V.ref xA) false := SVk.unmNo pmA (Pl.non) (by decide) rfl
        refine ⟨_, rfl, by show 2 ≤ sizeLine; decide, fun tpA ntpA => ?_⟩
        have sc2 : Same HmA (L2.upd HmA tpA (.tup [V.ref xA, V.bl false])) := Same.upd ntpA
        have ec2 : (L2.upd HmA tpA (.tup [V.ref xA, V.bl false])) tpA = some (.tup [V.ref xA, V.bl false]) := upd_same
        generalize L2.upd HmA tpA (.tup [V.ref xA, V.bl false]) = Hc2 at sc2 ec2
        refine ⟨_, rfl, fun xB dxB nxB ndB neB => mkMet nxB ndB neB ⟨.inl (V.non), ⟨rfl, ⟨_, Pl.non, rfl⟩⟩⟩ fun HmB vB smB pmB omB => ⟨rfl, ?_⟩⟩
        obtain ⟨rfl, _⟩ := omB (.inl (V.non)) ⟨rfl, ⟨_, Pl.non, rfl⟩⟩
        have svB : SVk K HmB m b t (V.ref xB) false := SVk.metLeaf pmB (Pl.non) rfl
        refine ⟨_, rfl, by show 2 ≤ sizeLine; decide, fun tpB ntpB => ?_⟩
        have sc3 : Same HmB (L2.upd HmB tpB (.tup [V.ref xB, V.bl false])) := Same.upd ntpB
        have ec3 : (L2.upd HmB tpB (.tup [V.ref xB, V.bl false])) tpB = some (.tup [V.ref xB, V.bl false]) := upd_same
        generalize L2.upd HmB tpB (.tup [V.ref xB, V.bl false]) = Hc3 at sc3 ec3
        refine ⟨_, rfl, fun xC dxC nxC ndC neC => mkPaper (by decide) nxC ndC neC ⟨.inl (V.non), ⟨rfl, ⟨_, Pl.non, rfl⟩⟩⟩ fun HmC vC smC pmC omC => ⟨rfl, ?_⟩⟩
        obtain ⟨rfl, _⟩ := omC (.inl (V.non)) ⟨rfl, ⟨_, Pl.non, rfl⟩⟩
        have svC : SVk K HmC m b t (V.ref xC) false := SVk.pap (by decide) pmC
        refine ⟨by show 2 ≤ sizeLine; decide, fun tpC ntpC => ?_⟩
        have sc4 : Same HmC (L2.upd HmC tpC (.tup [V.ref xC, V.bl false])) := Same.upd ntpC
        have ec4 : (L2.upd HmC tpC (.tup [V.ref xC, V.bl false])) tpC = some (.tup [V.ref xC, V.bl false]) := upd_same
        generalize L2.upd HmC tpC (.tup [V.ref xC, V.bl false]) = Hc4 at sc4 ec4
        refine ⟨by show 3 ≤ sizeLine; decide, fun lz nlz => ?_⟩
        have sc5 : Same Hc4 (L2.upd Hc4 lz (.lst [V.ref tpA, V.ref tpB, V.ref tpC])) := Same.upd nlz
        have ec5 : (L2.upd Hc4 lz (.lst [V.ref tpA, V.ref tpB, V.ref tpC])) lz = some (.lst [V.ref tpA, V.ref tpB, V.ref tpC]) := upd_same
        generalize L2.upd Hc4 lz (.lst [V.ref tpA, V.ref tpB, V.ref tpC]) = Hc5 at sc5 ec5
        have sh9 := sh7.same ((((((((sc1).trans smA).trans sc2).trans smB).trans sc3).trans smC).trans sc4).trans sc5)
        obtain ⟨xs4, hD4, l4, g4⟩ := sh9.ext nD nDv
        have pz : Paired (Item K m b t Hc5) [V.ref tpA, V.ref tpB, V.ref tpC] [false, false, false] := .cons (⟨tpA, _, rfl, (sc5 _ _ (sc4 _ _ (smC _ _ (sc3 _ _ (smB _ _ (ec2)))))), svA.klt (KLT.of ((((((sc2).trans smB).trans sc3).trans smC).trans sc4).trans sc5))⟩) (.cons (⟨tpB, _, rfl, (sc5 _ _ (sc4 _ _ (smC _ _ (ec3)))), svB.klt (KLT.of ((((sc3).trans smC).trans sc4).trans sc5))⟩) (.cons (⟨tpC, _, rfl, (sc5 _ _ (ec4)), svC.klt (KLT.of ((sc4).trans sc5))⟩) .nil))
        refine ⟨D, lz, xs4, _, rfl, rfl, hD4, ec5, by rw [l4, sizeLine_eq]; simp; omega, ?_⟩
        exact ⟨_, _, _, rfl, g4 _ _ pz, kb7.trans ((kb_same ((((((((sc1).trans smA).trans sc2).trans smB).trans sc3).trans smC).trans sc4).trans sc5)).trans fun a o na e => by rw [upd_ne na]; exact e)⟩
      · refine ⟨_, rfl, _, _, _, _, false, rfl, .ty "int", Pl.ty (Pl.str "3"), kit_ty (a := "str") (b := "int") (by decide +kernel), _, rfl, ?_⟩
        refine iteF ?_
        refine ⟨_, rfl, by show 1 ≤ sizeLine; decide, fun la nla => ?_⟩
        have sc1 : Same H' (L2.upd H' la (.lst [V.int 3])) := Same.upd nla
        have ec1 : (L2.upd H' la (.lst [V.int 3])) la = some (.lst [V.int 3]) := upd_same
        generalize L2.upd H' la (.lst [V.int 3]) = Hc1 at sc1 ec1
        refine ⟨PyData.str "3", .list (dIs [3]), Dp.str "3", .lst (SqL.of ec1) (show DpAll K _ [V.int 3] (dIs [3]) from dIs_dp K _ [3]), by decide +kernel, lstI_shaped _, ?_⟩
        have ev : PyData.eqv (PyData.str "3") (.list (dIs [3])) = false := by simp [PyData.eqv]
        rw [ev]
        refine ⟨_, rfl, iteF ?_⟩
        have sh8 := sh7.same (sc1)
        obtain ⟨xs3, hD3, _⟩ := sh8.ext nD nDv
        refine ⟨_, rfl, .inl ⟨rfl, _, SqL.of hD3⟩, ?_⟩
        refine ⟨_, rfl, fun xA dxA nxA ndA neA => mkUnmet nxA ndA neA ⟨.inl (V.str "3"), ⟨rfl, ⟨_, Pl.str "3", rfl⟩⟩⟩ fun HmA vA smA pmA omA => ⟨rfl, ?_⟩⟩
        obtain ⟨rfl, _⟩ := omA (.inl (V.str "3")) ⟨rfl, ⟨_, Pl.str "3", rfl⟩⟩
        have svA : SVk K HmA m b t (V.ref xA) false := SVk.unmNo pmA (Pl.str "3") (by decide) rfl
        refine ⟨_, rfl, by show 2 ≤ sizeLine; decide, fun tpA ntpA => ?_⟩
        have sc2 : Same HmA (L2.upd HmA tpA (.tup [V.ref xA, V.bl false])) := Same.upd ntpA
        have ec2 : (L2.upd HmA tpA (.tup [V.ref xA, V.bl false])) tpA = some (.tup [V.ref xA, V.bl false]) := upd_same
        generalize L2.upd HmA tpA (.tup [V.ref xA, V.bl false]) = Hc2 at sc2 ec2
        refine ⟨_, rfl, fun xB dxB nxB ndB neB => mkMet nxB ndB neB ⟨.inl (V.str "3"), ⟨rfl, ⟨_, Pl.str "3", rfl⟩⟩⟩ fun HmB vB smB pmB omB => ⟨rfl, ?_⟩⟩
        obtain ⟨rfl, _⟩ := omB (.inl (V.str "3")) ⟨rfl, ⟨_, Pl.str "3", rfl⟩⟩
        have svB : SVk K HmB m b t (V.ref xB) false := SVk.metLeaf pmB (Pl.str "3") rfl
        refine ⟨_, rfl, by show 2 ≤ sizeLine; decide, fun tpB ntpB => ?_⟩
        have sc3 : Same HmB (L2.upd HmB tpB (.tup [V.ref xB, V.bl false])) := Same.upd ntpB
        have ec3 : (L2.upd HmB tpB (.tup [V.ref xB, V.bl false])) tpB = some (.tup [V.ref xB, V.bl false]) := upd_same
        generalize L2.upd HmB tpB (.tup [V.ref xB, V.bl false]) = Hc3 at sc3 ec3
        refine ⟨_, rfl, fun xC dxC nxC ndC neC => mkPaper (by decide) nxC ndC neC ⟨.inl (V.str "3"), ⟨rfl, ⟨_, Pl.str "3", rfl⟩⟩⟩ fun HmC vC smC pmC omC => ⟨rfl, ?_⟩⟩
        obtain ⟨rfl, _⟩ := omC (.inl (V.str "3")) ⟨rfl, ⟨_, Pl.str "3", rfl⟩⟩
        have svC : SVk K HmC m b t (V.ref xC) false := SVk.pap (by decide) pmC
        refine ⟨by show 2 ≤ sizeLine; decide, fun tpC ntpC => ?_⟩
        have sc4 : Same HmC (L2.upd HmC tpC (.tup [V.ref xC, V.bl false])) := Same.upd ntpC
        have ec4 : (L2.upd HmC tpC (.tup [V.ref xC, V.bl false])) tpC = some (.tup [V.ref xC, V.bl false]) := upd_same
        generalize L2.upd HmC tpC (.tup [V.ref xC, V.bl false]) = Hc4 at sc4 ec4
        refine ⟨by show 3 ≤ sizeLine; decide, fun lz nlz => ?_⟩
        have sc5 : Same Hc4 (L2.upd Hc4 lz (.lst [V.ref tpA, V.ref tpB, V.ref tpC])) := Same.upd nlz
        have ec5 : (L2.upd Hc4 lz (.lst [V.ref tpA, V.ref tpB, V.ref tpC])) lz = some (.lst [V.ref tpA, V.ref tpB, V.ref tpC]) := upd_same
        generalize L2.upd Hc4 lz (.lst [V.ref tpA, V.ref tpB, V.ref tpC]) = Hc5 at sc5 ec5
        have sh9 := sh7.same ((((((((sc1).trans smA).trans sc2).trans smB).trans sc3).trans smC).trans sc4).trans sc5)
        obtain ⟨xs4, hD4, l4, g4⟩ := sh9.ext nD nDv
        have pz : Paired (Item K m b t Hc5) [V.ref tpA, V.ref tpB, V.ref tpC] [false, false, false] := .cons (⟨tpA, _, rfl, (sc5 _ _ (sc4 _ _ (smC _ _ (sc3 _ _ (smB _ _ (ec2)))))), svA.klt (KLT.of ((((((sc2).trans smB).trans sc3).trans smC).trans sc4).trans sc5))⟩) (.cons (⟨tpB, _, rfl, (sc5 _ _ (sc4 _ _ (smC _ _ (ec3)))), svB.klt (KLT.of ((((sc3).trans smC).trans sc4).trans sc5))⟩) (.cons (⟨tpC, _, rfl, (sc5 _ _ (ec4)), svC.klt (KLT.of ((sc4).trans sc5))⟩) .nil))
        refine ⟨D, lz, xs4, _, rfl, rfl, hD4, ec5, by rw [l4, sizeLine_eq]; simp; omega, ?_⟩
        exact ⟨_, _, _, rfl, g4 _ _ pz, kb7.trans ((kb_same ((((((((sc1).trans smA).trans sc2).trans smB).trans sc3).trans smC).trans sc4).trans sc5)).trans fun a o na e => by rw [upd_ne na]; exact e)⟩
      · refine ⟨_, rfl, _, _, _, _, false, rfl, .ty "int", Pl.ty (Pl.lst hl37), kit_ty (a := "list") (b := "int") (by decide +kernel), _, rfl, ?_⟩
        refine iteF ?_
        refine ⟨_, rfl, by show 1 ≤ sizeLine; decide, fun la nla => ?_⟩
        have sc1 : Same H' (L2.upd H' la (.lst [V.int 3])) := Same.upd nla
        have ec1 : (L2.upd H' la (.lst [V.int 3])) la = some (.lst [V.int 3]) := upd_same
        generalize L2.upd H' la (.lst [V.int 3]) = Hc1 at sc1 ec1
        refine ⟨PyData.list (dIs [3]), .list (dIs [3]), Dp.lst (SqL.of (sc1 _ _ (hl37))) (show DpAll K _ [V.int 3] (dIs [3]) from dIs_dp K _ [3]), .lst (SqL.of ec1) (show DpAll K _ [V.int 3] (dIs [3]) from dIs_dp K _ [3]), by decide +kernel, lstI_shaped _, ?_⟩
        rw [eqv_lstI, decide_eq_true rfl]
        refine ⟨_, rfl, iteT ?_⟩
        refine ⟨_, rfl, _, rfl, by show 1 ≤ sizeLine; decide, fun tz ntz => ?_⟩
        have sc2 : Same Hc1 (L2.upd Hc1 tz (.tup [V.int 3])) := Same.upd ntz
        have ec2 : (L2.upd Hc1 tz (.tup [V.int 3])) tz = some (.tup [V.int 3]) := upd_same
        generalize L2.upd Hc1 tz (.tup [V.int 3]) = Hc2 at sc2 ec2
        refine ⟨a, tz, b, m, [3], rfl, (sc2 _ _ (sc1 _ _ (at_ sh7 nav ha))), fb.dc.len, m0, ec2, okW_one (by decide), fun Hk p3 s3 h3 => ?_⟩
        refine ⟨_, rfl, .tuple (dIs (follow m (R b m) [3])), .tuple (dIs t), .tup (SqT.of h3) (dIs_dp K _ _), .tup (SqT.of (s3 _ _ (sc2 _ _ (sc1 _ _ (at_ sh7 ntv htg))))) (dIs_dp K _ _), tupI_shaped _, tupI_shaped _, ?_⟩
        rw [eqv_tupI]
        have sh8 := sh7.same (((sc1).trans sc2).trans s3)
        obtain ⟨xs3, hD3, _⟩ := sh8.ext nD nDv
        refine ⟨_, rfl, .inl ⟨rfl, _, SqL.of hD3⟩, ?_⟩
        refine ⟨_, rfl, fun xA dxA nxA ndA neA => mkUnmet nxA ndA neA ⟨lv (wv [3]), (in_leafs (wv_leaf _) (.inl (s3 _ _ (sc2 _ _ (sc1 _ _ (hl37))))) (by rw [List.length_map]; first | omega | decide))⟩ fun HmA vA smA pmA omA => ⟨rfl, ?_⟩⟩
        obtain ⟨ltA, rfl, hltA⟩ := out_leafs (omA (lv (wv [3])) (in_leafs (wv_leaf _) (.inl (s3 _ _ (sc2 _ _ (sc1 _ _ (hl37))))) (by rw [List.length_map]; first | omega | decide)))
        have svA : SVk K HmA m b t (V.ref xA) false := SVk.unmNo pmA (.tup hltA) (by decide) rfl
        refine ⟨_, rfl, by show 2 ≤ sizeLine; decide, fun tpA ntpA => ?_⟩
        have sc3 : Same HmA (L2.upd HmA tpA (.tup [V.ref xA, V.bl false])) := Same.upd ntpA
        have ec3 : (L2.upd HmA tpA (.tup [V.ref xA, V.bl false])) tpA = some (.tup [V.ref xA, V.bl false]) := upd_same
        generalize L2.upd HmA tpA (.tup [V.ref xA, V.bl false]) = Hc3 at sc3 ec3
        refine ⟨_, rfl, fun xB dxB nxB ndB neB => mkMet nxB ndB neB ⟨lv (wv [3]), (in_leafs (wv_leaf _) (.inl (sc3 _ _ (smA _ _ (s3 _ _ (sc2 _ _ (sc1 _ _ (hl37))))))) (by rw [List.length_map]; first | omega | decide))⟩ fun HmB vB smB pmB omB => ⟨rfl, ?_⟩⟩
        obtain ⟨ltB, rfl, hltB⟩ := out_leafs (omB (lv (wv [3])) (in_leafs (wv_leaf _) (.inl (sc3 _ _ (smA _ _ (s3 _ _ (sc2 _ _ (sc1 _ _ (hl37))))))) (by rw [List.length_map]; first | omega | decide)))
        have svB : SVk K HmB m b t (V.ref xB) (decide (follow m (R b m) [3] = t)) := SVk.word pmB hltB (okW_one (by decide)) (by decide)
        refine ⟨_, rfl, by show 2 ≤ sizeLine; decide, fun tpB ntpB => ?_⟩
        have sc4 : Same HmB (L2.upd HmB tpB (.tup [V.ref xB, V.bl (decide (follow m (R b m) [3] = t))])) := Same.upd ntpB
        have ec4 : (L2.upd HmB tpB (.tup [V.ref xB, V.bl (decide (follow m (R b m) [3] = t))])) tpB = some (.tup [V.ref xB, V.bl (decide (follow m (R b m) [3] = t))]) := upd_same
        generalize L2.upd HmB tpB (.tup [V.ref xB, V.bl (decide (follow m (R b m) [3] = t))]) = Hc4 at sc4 ec4
        refine ⟨_, rfl, fun xC dxC nxC ndC neC => mkPaper (by decide) nxC ndC neC ⟨lv (wv [3]), (in_leafs (wv_leaf _) (.inl (sc4 _ _ (smB _ _ (sc3 _ _ (smA _ _ (s3 _ _ (sc2 _ _ (sc1 _ _ (hl37))))))))) (by rw [List.length_map]; first | omega | decide))⟩ fun HmC vC smC pmC omC => ⟨rfl, ?_⟩⟩
        obtain ⟨ltC, rfl, hltC⟩ := out_leafs (omC (lv (wv [3])) (in_leafs (wv_leaf _) (.inl (sc4 _ _ (smB _ _ (sc3 _ _ (smA _ _ (s3 _ _ (sc2 _ _ (sc1 _ _ (hl37))))))))) (by rw [List.length_map]; first | omega | decide)))
        have svC : SVk K HmC m b t (V.ref xC) false := SVk.pap (by decide) pmC
        refine ⟨by show 2 ≤ sizeLine; decide, fun tpC ntpC => ?_⟩
        have sc5 : Same HmC (L2.upd HmC tpC (.tup [V.ref xC, V.bl false])) := Same.upd ntpC
        have ec5 : (L2.upd HmC tpC (.tup [V.ref xC, V.bl false])) tpC = some (.tup [V.ref xC, V.bl false]) := upd_same
        generalize L2.upd HmC tpC (.tup [V.ref xC, V.bl false]) = Hc5 at sc5 ec5
        refine ⟨by show 3 ≤ sizeLine; decide, fun lz nlz => ?_⟩
        have sc6 : Same Hc5 (L2.upd Hc5 lz (.lst [V.ref tpA, V.ref tpB, V.ref tpC])) := Same.upd nlz
        have ec6 : (L2.upd Hc5 lz (.lst [V.ref tpA, V.ref tpB, V.ref tpC])) lz = some (.lst [V.ref tpA, V.ref tpB, V.ref tpC]) := upd_same
        generalize L2.upd Hc5 lz (.lst [V.ref tpA, V.ref tpB, V.ref tpC]) = Hc6 at sc6 ec6
        have sh9 := sh7.same ((((((((((sc1).trans sc2).trans s3).trans smA).trans sc3).trans smB).trans sc4).trans smC).trans sc5).trans sc6)
        obtain ⟨xs4, hD4, l4, g4⟩ := sh9.ext nD nDv
        have pz : Paired (Item K m b t Hc6) [V.ref tpA, V.ref tpB, V.ref tpC] [false, (decide (follow m (R b m) [3] = t)), false] := .cons (⟨tpA, _, rfl, (sc6 _ _ (sc5 _ _ (smC _ _ (sc4 _ _ (smB _ _ (ec3)))))), svA.klt (KLT.of ((((((sc3).trans smB).trans sc4).trans smC).trans sc5).trans sc6))⟩) (.cons (⟨tpB, _, rfl, (sc6 _ _ (sc5 _ _ (smC _ _ (ec4)))), svB.klt (KLT.of ((((sc4).trans smC).trans sc5).trans sc6))⟩) (.cons (⟨tpC, _, rfl, (sc6 _ _ (ec5)), svC.klt (KLT.of ((sc5).trans sc6))⟩) .nil))
        refine ⟨D, lz, xs4, _, rfl, rfl, hD4, ec6, by rw [l4, sizeLine_eq]; simp; omega, ?_⟩
        exact ⟨_, _, _, rfl, g4 _ _ pz, kb7.trans ((kb_same ((((((((((sc1).trans sc2).trans s3).trans smA).trans sc3).trans smB).trans sc4).trans smC).trans sc5).trans sc6)).trans fun a o na e => by rw [upd_ne na]; exact e)⟩
    · obtain ⟨z12, z13, z14, rfl, sh7, kb7⟩ := pp
      rw [len18] at sh7
      exact ⟨_, _, _, rfl, sh7⟩
  clear sh hpl npl
  rintro σ' H1 ⟨z12, z13, z14, rfl, sh⟩
  -- the odd
  refine ⟨fun σ' H' => ∃ z12 z13 z14 z15, σ' = [some (.ref v), some (.ref a), some (.int m), some (.ref tg), some (.ref l), some (.ref f), some (.ref D), z7, z8, z9, some (.int (k : Int)), some (.ref pl), z12, z13, z14, z15, none, none, none, none] ∧ Sh K m b t Hf v D (N + 13) 80 H', ?_, ?_⟩
  · have hDD : ∃ xs, H1 D = some (.lst xs) := let ⟨xs, hD, _⟩ := sh.ext nD nDv; ⟨xs, hD⟩
    obtain ⟨xsD, hDD⟩ := hDD
    refine ⟨by show 1 ≤ sizeLine; decide, fun o0 no0 => ?_⟩
    have sc1 : Same H1 (L2.upd H1 o0 (.tup [V.int 4])) := Same.upd no0
    have ec1 : (L2.upd H1 o0 (.tup [V.int 4])) o0 = some (.tup [V.int 4]) := upd_same
    generalize L2.upd H1 o0 (.tup [V.int 4]) = Hc1 at sc1 ec1
    refine ⟨1, rfl, by show 1 ≤ sizeLine; decide, fun o1 no1 => ?_⟩
    have sc2 : Same Hc1 (L2.upd Hc1 o1 (.tup [V.int (-1)])) := Same.upd no1
    have ec2 : (L2.upd Hc1 o1 (.tup [V.int (-1)])) o1 = some (.tup [V.int (-1)]) := upd_same
    generalize L2.upd Hc1 o1 (.tup [V.int (-1)]) = Hc2 at sc2 ec2
    refine ⟨by show 1 ≤ sizeLine; decide, fun o2 no2 => ?_⟩
    have sc3 : Same Hc2 (L2.upd Hc2 o2 (.tup [V.bl true])) := Same.upd no2
    have ec3 : (L2.upd Hc2 o2 (.tup [V.bl true])) o2 = some (.tup [V.bl true]) := upd_same
    generalize L2.upd Hc2 o2 (.tup [V.bl true]) = Hc3 at sc3 ec3
    refine ⟨by show 1 ≤ sizeLine; decide, fun o3 no3 => ?_⟩
    have sc4 : Same Hc3 (L2.upd Hc3 o3 (.tup [V.str "0"])) := Same.upd no3
    have ec4 : (L2.upd Hc3 o3 (.tup [V.str "0"])) o3 = some (.tup [V.str "0"]) := upd_same
    generalize L2.upd Hc3 o3 (.tup [V.str "0"]) = Hc4 at sc4 ec4
    refine ⟨by show 1 ≤ sizeLine; decide, fun o4 no4 => ?_⟩
    have sc5 : Same Hc4 (L2.upd Hc4 o4 (.tup [V.non])) := Same.upd no4
    have ec5 : (L2.upd Hc4 o4 (.tup [V.non])) o4 = some (.tup [V.non]) := upd_same
    generalize L2.upd Hc4 o4 (.tup [V.non]) = Hc5 at sc5 ec5
    refine ⟨by show 1 ≤ sizeLine; decide, fun oc noc => ?_⟩
    have sc6 : Same Hc5 (L2.upd Hc5 oc (.lst [V.int 0])) := Same.upd noc
    have ec6 : (L2.upd Hc5 oc (.lst [V.int 0])) oc = some (.lst [V.int 0]) := upd_same
    generalize L2.upd Hc5 oc (.lst [V.int 0]) = Hc6 at sc6 ec6
    refine ⟨by show 1 ≤ sizeLine; decide, fun oa noa => ?_⟩
    have sc7 : Same Hc6 (L2.upd Hc6 oa (.lst [V.ref oc])) := Same.upd noa
    have ec7 : (L2.upd Hc6 oa (.lst [V.ref oc])) oa = some (.lst [V.ref oc]) := upd_same
    generalize L2.upd Hc6 oa (.lst [V.ref oc]) = Hc7 at sc7 ec7
    refine fun dp ndp => ⟨upd_same, [((Sum.inl 0 : Key), V.int 1)], rfl, by show 1 ≤ 15; decide, ?_⟩
    have sdd : Same Hc7 (L2.upd (L2.upd Hc7 dp (.dK [])) dp (.dK (mergeK [] [((Sum.inl 0 : Key), V.int 1)]))) := fun a o z => by rw [upd_ne (ne_of_none z ndp), upd_ne (ne_of_none z ndp)]; exact z
    have edd : (L2.upd (L2.upd Hc7 dp (.dK [])) dp (.dK (mergeK [] [((Sum.inl 0 : Key), V.int 1)]))) dp = some (.dK (mergeK [] [((Sum.inl 0 : Key), V.int 1)])) := upd_same
    generalize L2.upd (L2.upd Hc7 dp (.dK [])) dp (.dK (mergeK [] [((Sum.inl 0 : Key), V.int 1)])) = Hdd at sdd edd ⊢
    refine ⟨by show 9 ≤ sizeLine; decide, fun t9 nt9 => ?_⟩
    have sc8 : Same Hdd (L2.upd Hdd t9 (.tup [V.ref o0, V.ref o1, V.ref o2, V.ref o3, V.ref o4, V.ref oa, V.str "01", V.non, V.ref dp])) := Same.upd nt9
    have ec8 : (L2.upd Hdd t9 (.tup [V.ref o0, V.ref o1, V.ref o2, V.ref o3, V.ref o4, V.ref oa, V.str "01", V.non, V.ref dp])) t9 = some (.tup [V.ref o0, V.ref o1, V.ref o2, V.ref o3, V.ref o4, V.ref oa, V.str "01", V.non, V.ref dp]) := upd_same
    generalize L2.upd Hdd t9 (.tup [V.ref o0, V.ref o1, V.ref o2, V.ref o3, V.ref o4, V.ref oa, V.str "01", V.non, V.ref dp]) = Hc8 at sc8 ec8
    have nDo : ∀ {H' : Hp} {q : Addr}, Same H1 H' → H' q = none → q ≠ D := fun s' z e => by rw [e, s' _ _ hDD] at z; cases z
    have sh6 := sh.same (((((((((sc1).trans sc2).trans sc3).trans sc4).trans sc5).trans sc6).trans sc7).trans sdd).trans sc8)
    have odds : ∀ x ∈ [V.ref o0, V.ref o1, V.ref o2, V.ref o3, V.ref o4, V.ref oa, V.str "01", V.non, V.ref dp], Odd Hc8 D x := fun x hx => by
      simp only [List.mem_cons, List.mem_nil_iff, or_false] at hx
      rcases hx with rfl | rfl | rfl | rfl | rfl | rfl | rfl | rfl | rfl
      · exact .inl ⟨o0, V.int 4, _, rfl, (sc8 _ _ (sdd _ _ (sc7 _ _ (sc6 _ _ (sc5 _ _ (sc4 _ _ (sc3 _ _ (sc2 _ _ (ec1))))))))), Pl.int 4, rfl, rfl⟩
      · exact .inl ⟨o1, V.int (-1), _, rfl, (sc8 _ _ (sdd _ _ (sc7 _ _ (sc6 _ _ (sc5 _ _ (sc4 _ _ (sc3 _ _ (ec2)))))))), Pl.int (-1), rfl, rfl⟩
      · exact .inl ⟨o2, V.bl true, _, rfl, (sc8 _ _ (sdd _ _ (sc7 _ _ (sc6 _ _ (sc5 _ _ (sc4 _ _ (ec3))))))), Pl.bl true, rfl, rfl⟩
      · exact .inl ⟨o3, V.str "0", _, rfl, (sc8 _ _ (sdd _ _ (sc7 _ _ (sc6 _ _ (sc5 _ _ (ec4)))))), Pl.str "0", rfl, rfl⟩
      · exact .inl ⟨o4, V.non, _, rfl, (sc8 _ _ (sdd _ _ (sc7 _ _ (sc6 _ _ (ec5))))), Pl.non, rfl, rfl⟩
      · exact .inr (.inl ⟨oa, oc, rfl, (sc8 _ _ (sdd _ _ (ec7))), (sc8 _ _ (sdd _ _ (sc7 _ _ (ec6)))), nDo ((((((sc1).trans sc2).trans sc3).trans sc4).trans sc5).trans sc6) noa, nDo (((((sc1).trans sc2).trans sc3).trans sc4).trans sc5) noc⟩)
      · exact .inr (.inr ⟨_, Pl.str "01", rfl⟩)
      · exact .inr (.inr ⟨_, Pl.non, rfl⟩)
      · exact .inr (.inr ⟨_, Pl.dct (sc8 _ _ (edd)), rfl⟩)
    have len9 : [V.ref o0, V.ref o1, V.ref o2, V.ref o3, V.ref o4, V.ref oa, V.str "01", V.non, V.ref dp].length = 9 := rfl
    have hD6 := (sc8 _ _ (sdd _ _ (sc7 _ _ (sc6 _ _ (sc5 _ _ (sc4 _ _ (sc3 _ _ (sc2 _ _ (sc1 _ _ (hDD))))))))))
    generalize [V.ref o0, V.ref o1, V.ref o2, V.ref o3, V.ref o4, V.ref oa, V.str "01", V.non, V.ref dp] = xs9 at ec8 odds len9
    refine ⟨t9, rfl, ⟨_, SqT.of ec8⟩, for_tup (xs := xs9) (fun i σ' H' => ∃ z15, σ' = [some (.ref v), some (.ref a), some (.int m), some (.ref tg), some (.ref l), some (.ref f), some (.ref D), z7, z8, z9, some (.int (k : Int)), some (.ref pl), z12, z13, z14, z15, none, none, none, none] ∧ Sh K m b t Hf v D (N + 13) (71 + i) H' ∧ KeptBut D Hc8 H') ⟨_, rfl, sh6, KeptBut.refl _⟩ (fun i σ' H' _ p => ?_) (fun i x σ' H' hx pp => ?_) (fun σ' H' pp => ?_)⟩
    · obtain ⟨_, _, _, kb⟩ := p
      exact SqT.of (KLT.tup (KLT.but hD6 kb) ec8)
    · obtain ⟨z15, rfl, sh7, kb7⟩ := pp
      have hi : i < 9 := by
        rcases Nat.lt_or_ge i 9 with h | h
        · exact h
        · rw [List.getElem?_eq_none (by omega)] at hx; cases hx
      obtain ⟨lo, inO, outO⟩ := Odd.met (K := K) (m := m) (b := b) (t := t) ((odds x (List.mem_of_getElem? hx)).keep hD6 kb7)
      obtain ⟨xs3, hD3, _⟩ := sh7.ext nD nDv
      refine ⟨_, rfl, .inl ⟨rfl, _, SqL.of hD3⟩, ?_⟩
      refine ⟨_, rfl, fun xA dxA nxA ndA neA => mkMet nxA ndA neA ⟨lo, inO⟩ fun HmA vA smA pmA omA => ⟨rfl, ?_⟩⟩
      have svA : SVk K HmA m b t (V.ref xA) false := outO _ _ _ pmA (omA lo inO)
      refine ⟨by show 2 ≤ sizeLine; decide, fun tpA ntpA => ?_⟩
      have sc1 : Same HmA (L2.upd HmA tpA (.tup [V.ref xA, V.bl false])) := Same.upd ntpA
      have ec1 : (L2.upd HmA tpA (.tup [V.ref xA, V.bl false])) tpA = some (.tup [V.ref xA, V.bl false]) := upd_same
      generalize L2.upd HmA tpA (.tup [V.ref xA, V.bl false]) = Hc1 at sc1 ec1
      have sh9 := sh7.same ((smA).trans sc1)
      obtain ⟨xs4, hD4, l4, g4⟩ := sh9.ext nD nDv
      have pz : Paired (Item K m b t Hc1) [V.ref tpA] [false] := .cons (⟨tpA, _, rfl, (ec1), svA.klt (KLT.of (sc1))⟩) .nil
      refine ⟨D, xs4, _, rfl, rfl, hD4, by rw [l4, sizeLine_eq]; omega, ?_⟩
      exact ⟨_, rfl, g4 _ _ pz, kb7.trans ((kb_same ((smA).trans sc1)).trans fun a o na e => by rw [upd_ne na]; exact e)⟩
    · obtain ⟨z15, rfl, sh7, kb7⟩ := pp
      rw [len9] at sh7
      exact ⟨_, _, _, _, rfl, sh7⟩
  clear sh
  rintro σ' H1 ⟨z12, z13, z14, z15, rfl, sh⟩
  -- the others
  refine ⟨fun σ' H' => σ' = [some (.ref v), some (.ref a), some (.int m), some (.ref tg), some (.ref l), some (.ref f), some (.ref D), z7, z8, z9, some (.int (k : Int)), some (.ref pl), z12, z13, z14, z15, none, none, none, none] ∧ Sh K m b t Hf v D (N + 13) 85 H', ?_, ?_⟩
  · obtain ⟨xs3, hD3, _⟩ := sh.ext nD nDv
    have htg1 := at_ sh ntv htg
    have hl1 := at_ sh nlv hl
    refine ⟨_, rfl, .inl ⟨rfl, _, SqL.of hD3⟩, ?_⟩
    have svO0 : SVk K H1 m b t (V.non) false := SVk.oth (Pl.non) (by decide)
    refine ⟨by show 2 ≤ sizeLine; decide, fun tpO0 ntpO0 => ?_⟩
    have sc1 : Same H1 (L2.upd H1 tpO0 (.tup [V.non, V.bl false])) := Same.upd ntpO0
    have ec1 : (L2.upd H1 tpO0 (.tup [V.non, V.bl false])) tpO0 = some (.tup [V.non, V.bl false]) := upd_same
    generalize L2.upd H1 tpO0 (.tup [V.non, V.bl false]) = Hc1 at sc1 ec1
    have svO1 : SVk K Hc1 m b t (V.ref l) false := SVk.oth (.tup (sc1 _ _ (hl1))) (by decide)
    refine ⟨_, rfl, by show 2 ≤ sizeLine; decide, fun tpO1 ntpO1 => ?_⟩
    have sc2 : Same Hc1 (L2.upd Hc1 tpO1 (.tup [V.ref l, V.bl false])) := Same.upd ntpO1
    have ec2 : (L2.upd Hc1 tpO1 (.tup [V.ref l, V.bl false])) tpO1 = some (.tup [V.ref l, V.bl false]) := upd_same
    generalize L2.upd Hc1 tpO1 (.tup [V.ref l, V.bl false]) = Hc2 at sc2 ec2
    have svO2 : SVk K Hc2 m b t (V.int 5) false := SVk.oth (Pl.int 5) (by decide)
    refine ⟨by show 2 ≤ sizeLine; decide, fun tpO2 ntpO2 => ?_⟩
    have sc3 : Same Hc2 (L2.upd Hc2 tpO2 (.tup [V.int 5, V.bl false])) := Same.upd ntpO2
    have ec3 : (L2.upd Hc2 tpO2 (.tup [V.int 5, V.bl false])) tpO2 = some (.tup [V.int 5, V.bl false]) := upd_same
    generalize L2.upd Hc2 tpO2 (.tup [V.int 5, V.bl false]) = Hc3 at sc3 ec3
    have svO3 : SVk K Hc3 m b t (V.str "met") false := SVk.oth (Pl.str "met") (by decide)
    refine ⟨by show 2 ≤ sizeLine; decide, fun tpO3 ntpO3 => ?_⟩
    have sc4 : Same Hc3 (L2.upd Hc3 tpO3 (.tup [V.str "met", V.bl false])) := Same.upd ntpO3
    have ec4 : (L2.upd Hc3 tpO3 (.tup [V.str "met", V.bl false])) tpO3 = some (.tup [V.str "met", V.bl false]) := upd_same
    generalize L2.upd Hc3 tpO3 (.tup [V.str "met", V.bl false]) = Hc4 at sc4 ec4
    have svO4 : SVk K Hc4 m b t (V.ref tg) false := SVk.oth (.tup (sc4 _ _ (sc3 _ _ (sc2 _ _ (sc1 _ _ (htg1)))))) (by decide)
    refine ⟨_, rfl, by show 2 ≤ sizeLine; decide, fun tpO4 ntpO4 => ?_⟩
    have sc5 : Same Hc4 (L2.upd Hc4 tpO4 (.tup [V.ref tg, V.bl false])) := Same.upd ntpO4
    have ec5 : (L2.upd Hc4 tpO4 (.tup [V.ref tg, V.bl false])) tpO4 = some (.tup [V.ref tg, V.bl false]) := upd_same
    generalize L2.upd Hc4 tpO4 (.tup [V.ref tg, V.bl false]) = Hc5 at sc5 ec5
    refine ⟨by show 5 ≤ sizeLine; decide, fun lz nlz => ?_⟩
    have sc6 : Same Hc5 (L2.upd Hc5 lz (.lst [V.ref tpO0, V.ref tpO1, V.ref tpO2, V.ref tpO3, V.ref tpO4])) := Same.upd nlz
    have ec6 : (L2.upd Hc5 lz (.lst [V.ref tpO0, V.ref tpO1, V.ref tpO2, V.ref tpO3, V.ref tpO4])) lz = some (.lst [V.ref tpO0, V.ref tpO1, V.ref tpO2, V.ref tpO3, V.ref tpO4]) := upd_same
    generalize L2.upd Hc5 lz (.lst [V.ref tpO0, V.ref tpO1, V.ref tpO2, V.ref tpO3, V.ref tpO4]) = Hc6 at sc6 ec6
    have sh9 := sh.same ((((((sc1).trans sc2).trans sc3).trans sc4).trans sc5).trans sc6)
    obtain ⟨xs4, hD4, l4, g4⟩ := sh9.ext nD nDv
    have pz : Paired (Item K m b t Hc6) [V.ref tpO0, V.ref tpO1, V.ref tpO2, V.ref tpO3, V.ref tpO4] [false, false, false, false, false] := .cons (⟨tpO0, _, rfl, (sc6 _ _ (sc5 _ _ (sc4 _ _ (sc3 _ _ (sc2 _ _ (ec1)))))), svO0.klt (KLT.of ((((((sc1).trans sc2).trans sc3).trans sc4).trans sc5).trans sc6))⟩) (.cons (⟨tpO1, _, rfl, (sc6 _ _ (sc5 _ _ (sc4 _ _ (sc3 _ _ (ec2))))), svO1.klt (KLT.of (((((sc2).trans sc3).trans sc4).trans sc5).trans sc6))⟩) (.cons (⟨tpO2, _, rfl, (sc6 _ _ (sc5 _ _ (sc4 _ _ (ec3)))), svO2.klt (KLT.of ((((sc3).trans sc4).trans sc5).trans sc6))⟩) (.cons (⟨tpO3, _, rfl, (sc6 _ _ (sc5 _ _ (ec4))), svO3.klt (KLT.of (((sc4).trans sc5).trans sc6))⟩) (.cons (⟨tpO4, _, rfl, (sc6 _ _ (ec5)), svO4.klt (KLT.of ((sc5).trans sc6))⟩) .nil))))
    refine ⟨D, lz, xs4, _, rfl, rfl, hD4, ec6, by rw [l4, sizeLine_eq]; simp, ?_⟩
    exact ⟨rfl, g4 _ _ pz⟩
  clear sh
  rintro σ' H1 ⟨rfl, sh⟩
  -- heard
  obtain ⟨xs, ks, hD, pz, xl⟩ := sh.ask
  have kl := pz.length
  have hk85 : ks.length ≤ 1000 := by omega
  have hf1 : FourAt K H1 f b := let ⟨ys, e⟩ := vat_lst hvf; hf.klt (KLT.but e sh.kb)
  refine ⟨fun σ' H' => ∃ D9, σ' = [some (.ref v), some (.ref a), some (.int m), some (.ref tg), some (.ref l), some (.ref f), some (.ref D), z7, z8, z9, some (.int (k : Int)), some (.ref pl), z12, z13, z14, z15, some (.ref D9), none, none, none] ∧ Same H1 H' ∧ H' D9 = some (.lst (ks.map V.bl)), ?_, ?_⟩
  · refine ⟨_, rfl, D, rfl, ⟨_, SqL.of hD⟩, fun D9 nD9 => ?_⟩
    refine lc_list (xs := xs) (fun i H' => Same H1 H' ∧ H' D9 = some (.lst ((ks.take i).map V.bl))) ⟨Same.upd nD9, upd_same⟩ (fun i H' _ p => SqL.of (p.1 _ _ hD)) (fun i x H' hx p => ?_) (fun H' p => ?_)
    · obtain ⟨s2, h9⟩ := p
      obtain ⟨kk, hkk, p, vv, rfl, hp, sv⟩ := Paired.nth pz hx
      have li := take_snoc hkk
      have htl : (ks.take i).length ≤ 1000 := by rw [List.length_take]; omega
      refine ⟨p, _, rfl, SqT.of (s2 _ _ hp), rfl, _, _, rfl, _, _, rfl, rfl, rfl, ?_⟩
      refine ⟨_, rfl, _, rfl, _, rfl, tg, _, rfl, .inr (SqT.of (s2 _ _ (at_ sh ntv htg))), fun cc ncc => ?_⟩
      have s6 : Same H' (L2.upd H' cc (.lst (iv t))) := Same.upd ncc
      have e6 : (L2.upd H' cc (.lst (iv t))) cc = some (.lst (iv t)) := upd_same
      generalize L2.upd H' cc (.lst (iv t)) = H6 at s6 e6
      refine ⟨_, rfl, f, cc, m, b, t, vv, kk, rfl, hf1.klt (KLT.of (s2.trans s6)), fb.dc.len, hm, okt, .inl e6, (sv.klt (KLT.of (s2.trans s6))).sv, fun H7 s7 => ?_⟩
      refine ⟨_, s7 _ _ (s6 _ _ h9), by rw [List.length_map, sizeLine_eq]; omega, fun b' o z => ?_, ?_⟩
      · rw [upd_ne (ne_of_none z nD9)]; exact s7 _ _ (s6 _ _ (s2 _ _ z))
      · rw [upd_same, li]; simp
    · obtain ⟨s2, h9⟩ := p
      rw [kl, List.take_length] at h9
      exact ⟨D9, rfl, s2, h9⟩
  rintro σ' H2 ⟨D9, rfl, s2, h9⟩
  -- the two texts
  have sb1 : (bls ks).showable = true := by simp [bls, PyData.showable, bls_showable ks]
  have sb2 : (bls ks).hasDict = false := by simp [bls, PyData.hasDict, bls_hasDict ks]
  have sb3 : (bls ks).depth ≤ 20 := by
    have := bls_depth ks
    simp [bls, PyData.depth]; omega
  have sb4 := bls_shown ks hk85
  refine ⟨_, rfl, D9, bls ks, rfl, .lst (SqL.of h9) (bls_dp K _ ks), sb1, sb2, sb3, sb4, ?_⟩
  refine ⟨_, rfl, D, rfl, ⟨_, SqL.of (s2 _ _ hD)⟩, fun D10 nD10 => ?_⟩
  refine lc_list (xs := xs) (fun i H' => Same H2 H' ∧ H' D10 = some (.lst ((ks.take i).map V.bl))) ⟨Same.upd nD10, upd_same⟩ (fun i H' _ p => SqL.of (p.1 _ _ (s2 _ _ hD))) (fun i x H' hx p => ?_) (fun H' p => ?_)
  · obtain ⟨s3, h10⟩ := p
    obtain ⟨kk, hkk, p, vv, rfl, hp, sv⟩ := Paired.nth pz hx
    have li := take_snoc hkk
    have htl : (ks.take i).length ≤ 1000 := by rw [List.length_take]; omega
    refine ⟨p, _, rfl, SqT.of (s3 _ _ (s2 _ _ hp)), rfl, _, _, rfl, _, _, rfl, rfl, rfl, ?_⟩
    refine ⟨_, rfl, _, h10, by rw [List.length_map, sizeLine_eq]; omega, fun b' o z => ?_, ?_⟩
    · rw [upd_ne (ne_of_none z nD10)]; exact s3 _ _ z
    · rw [upd_same, li]; simp
  · obtain ⟨s3, h10⟩ := p
    rw [kl, List.take_length] at h10
    refine ⟨D10, bls ks, rfl, .lst (SqL.of h10) (bls_dp K _ ks), sb1, sb2, sb3, sb4, rfl, ?_⟩
    rw [decide_eq_true rfl]
    exact q H' ((kb_same s0).trans (sh.kb.trans (kb_same (s2.trans s3)))) ((sh.vat.same (s2.trans s3)).mono (by omega))
end
end K31
namespace K31
open PySem PySem.Spec PyProof.Rows L2
theorem lx_anti : ∀ {a b : List Nat}, lx a b → lx b a → a = b
  | [], [], _, _ => rfl
  | [], _ :: _, h, _ => h.elim
  | _ :: _, [], h, _ => h.elim
  | x :: as, y :: bs, h, k => by
    rcases h with h | ⟨rfl, h⟩
    · rcases k with k | ⟨e, _⟩ <;> omega
    · rcases k with k | ⟨_, k⟩
      · omega
      · rw [lx_anti h k]
theorem Bst.anti {u v : List Nat} (h : Bst u v) (k : Bst v u) : u = v := by
  rcases h with h | ⟨_, h⟩
  · have := k.le; omega
  · rcases k with k | ⟨_, k⟩
    · omega
    · exact lx_anti h k
theorem Whole.bst {m : Int} {s r : List Int} {T T2 : Tab} {u v : List Nat} (W : Whole m s T) (h : (r, u) ∈ T) (W2 : Whole m s T2) (k : (r, v) ∈ T2) : Bst u v := by
  obtain ⟨e, ok, _⟩ := W2.snd _ _ k
  obtain ⟨w, hw, bw⟩ := W.cmp v ok
  rw [e] at hw
  rw [uniq W.nd h hw]; exact bw
theorem Whole.word {m : Int} {s r : List Int} {T T2 : Tab} {u v : List Nat} (W : Whole m s T) (h : (r, u) ∈ T) (W2 : Whole m s T2) (k : (r, v) ∈ T2) : u = v := (W.bst h W2 k).anti (W2.bst k W h)
theorem wv_iv (u : List Nat) : wv u = iv (u.map fun (k : Nat) => (k : Int)) := by simp [wv, iv]
theorem wv_dp (K : PySem.W.Frag) (H : Hp) (u : List Nat) : DpAll K H (wv u) (dIs (u.map fun (k : Nat) => (k : Int))) := by rw [wv_iv]; exact dIs_dp K H _
theorem tup_lay (ns : List Int) : (PyData.tuple (dIs ns)).canLay0 = true ∧ (PyData.tuple (dIs ns)).depth ≤ 60 := by
  constructor
  · simp [PyData.canLay0, dIs_lay]
  · simp [PyData.depth, dIs_depth]
theorem MetR.two {K : PySem.W.Frag} {m : Int} {b t : List Int} {H : Hp} {x y : Addr} (h : MetR K m b t H x) (k : MetR K m b t H y) : ∃ c wd v v' d, c ∈ (["Met", "Unmet"] : List Str) ∧ PapAt K c wd H x v ∧ PapAt K c wd H y v' ∧ Dp K H v d ∧ Dp K H v' d ∧ d.canLay0 = true ∧ d.depth ≤ 60 := by
  rcases h with ⟨T, u, l, W, hu, p, hl, ok, hz⟩ | ⟨T, q, qs, W, hn, el, p⟩
  · rcases k with ⟨T2, u2, l2, W2, hu2, p2, hl2, ok2, hz2⟩ | ⟨T2, q2, qs2, W2, hn2, el2, p2⟩
    · have e := W.word hu W2 hu2
      subst e
      exact ⟨"Met", "met", .ref l, .ref l2, _, by decide, p, p2, .tup (SqT.of hl) (wv_dp K H u), .tup (SqT.of hl2) (wv_dp K H u), (tup_lay _).1, (tup_lay _).2⟩
    · exact absurd (W2.key.mpr (W.key.mp (mem_keys.mpr ⟨u, hu⟩))) hn2
  · rcases k with ⟨T2, u2, l2, W2, hu2, p2, hl2, ok2, hz2⟩ | ⟨T2, q2, qs2, W2, hn2, el2, p2⟩
    · exact absurd (W.key.mpr (W2.key.mp (mem_keys.mpr ⟨u2, hu2⟩))) hn
    · rw [el] at el2
      cases el2
      exact ⟨"Unmet", "unmet", .int q, .int q, .int q, by decide, p, p2, .int q, .int q, by simp [PyData.canLay0], by simp [PyData.depth]⟩
theorem MetR.sv {K : PySem.W.Frag} {m : Int} {b t : List Int} {H : Hp} {x : Addr} (h : MetR K m b t H x) : SV K H m b t (.ref x) true := by
  rcases h with ⟨T, u, l, W, hu, p, hl, ok, hz⟩ | ⟨T, q, qs, W, hn, el, p⟩
  · have := SV.word (m := m) (b := b) (t := t) p hl ok (by omega)
    rw [decide_eq_true (W.snd _ _ hu).1] at this
    exact this
  · have := SV.unm (m := m) (b := b) (t := t) p
    have e : q ∈ lacks m b t := by rw [el]; exact List.mem_cons_self
    rw [← lacks_dec, decide_eq_true e] at this
    exact this
theorem MetR.ins {K : PySem.W.Frag} {m : Int} {b t : List Int} {H : Hp} {x : Addr} (h : MetR K m b t H x) : ∃ c, c ∈ (["Met", "Unmet"] : List Str) ∧ ∃ wd v, PapAt K c wd H x v := by
  rcases h with ⟨T, u, l, W, hu, p, hl, ok, hz⟩ | ⟨T, q, qs, W, hn, el, p⟩
  · exact ⟨"Met", by decide, _, _, p⟩
  · exact ⟨"Unmet", by decide, _, _, p⟩
theorem rep1 : ∀ q ∈ moduli, (PyData.tuple [.int q]).showable = true ∧ (PyData.tuple [.int q]).hasDict = false ∧ (PyData.tuple [.int q]).depth ≤ 20 ∧ (PyData.tuple [.int q]).shown.length ≤ 1000 := by decide +kernel
end K31
namespace K31
open PySem PySem.Spec PyProof.Rows L2
section
variable {w : World} {K : PySem.W.Frag} {mg : Str → Option Value} {base : Heap}
/-! ### _law_met_right -/
def spMetRight : Sp := fun vs H Q _ => ∃ (v : Addr) (m : Int) (N : Nat), vs = [.ref v, .int m] ∧ Vat N H v ∧ N ≤ 70000 ∧ m ∈ moduli ∧ ∀ H', KeptBut v H H' → Vat (N + 120) H' v → Q (.bl true) H'
abbrev n68 : List Str := ["_law_vat_here", "_law_modulus", "_law_bends", "_law_target_here", "_law_own", "_law_told", "_law_far_here", "_law_due", "_law_letters", "_law_part", "_law_turn"]
theorem sc68 : FnScope n68 ["_law_vat_here", "_law_modulus"] (defScope (top 68)) := ⟨rfl, rfl, rfl, by decide +kernel, rfl, by decide +kernel, by decide +kernel⟩
theorem g_metRight (T : Tx K mg) : Gal prg w K mg base 9 "_law_met_right" spMetRight := by
  refine galD (T.w 15) sc68 (fun kV doc pm an cdv ct us hl => match us, hl with | [_, _], _ => rfl) (fun vs H Q E h => ?_) fun cdv A outer s H vs Q E hgu hr h => ?_
  · obtain ⟨v, m, N, rfl, _⟩ := h; rfl
  obtain ⟨v, m, N, rfl, hv, hN, hm, q⟩ := h
  have hu := hu_of hr
  obtain ⟨fm, Fm⟩ := (T.d 17).fd
  obtain ⟨fs, Fs⟩ := (T.d 18).fd
  have KBm : KBn K fm ["four", "modulus", "row"] 0 ["row", "modulus", "four"] (fun us ws => ws.reverse) (fun vs zs => zs.reverse) := FunD.kbindsZ Fm 0 _ (fun {α} _ ws => ws.reverse) (fun _ r => Vals.reverse r) (fun kV doc pm an cdv ct us ws l1 l2 => match us, ws, l1, l2 with | [], [_, _, _], _, _ => rfl)
  have KBs : KBn K fs ["four", "modulus", "row", "value"] 0 ["value", "row", "modulus", "four"] (fun us ws => ws.reverse) (fun vs zs => zs.reverse) := FunD.kbindsZ Fs 0 _ (fun {α} _ ws => ws.reverse) (fun _ r => Vals.reverse r) (fun kV doc pm an cdv ct us ws l1 l2 => match us, ws, l1, l2 with | [], [_, _, _, _], _, _ => rfl)
  refine ⟨_, pss_cons (ps_set (i := 2) sc68.nd rfl (.inr rfl) (C8.pe_c (c_drawn T) hr (by decide) rfl (pa_cons (pv 0) pa_nil))) (pss_cons (ps_set (i := 3) sc68.nd rfl (.inr rfl) (pe_callTy call_tuple_of (by rfl) (T.b 5) (by decide +kernel) (pa_cons (C8.pe_c (c_target T) hr (by decide) rfl (pa_cons (pv 0) (pa_cons (pv 2) (pa_cons (pv 1) pa_nil)))) pa_nil))) (pss_cons (ps_set (i := 4) sc68.nd rfl (.inl rfl) (C8.pe_c (c_lrow T) hr (by decide) rfl (pa_cons (pv 2) (pa_cons (pv 1) pa_nil)))) (pss_cons (ps_set (i := 5) sc68.nd rfl (.inl rfl) (pe_callN0 (o_met T Fm) (hr.mono (by decide)) rfl (T.d 17).mgx Fm.kp KBm pass0 (pk_cons (pe_callTy call_list_of (by rfl) (T.b 6) (by decide +kernel) (pa_cons (pv 3) pa_nil)) (pk_cons (pv 1) (pk_cons (StX.pe_makeR (T.c 0).mkr (c_fourInit T) (hr.mono (by decide)) rfl (T.c 0).mgx pass0 (pa_cons (pe_callTy call_list_of (by rfl) (T.b 6) (by decide +kernel) (pa_cons (pv 2) pa_nil)) pa_nil)) (pk_nil)))))) (C8.pss_cut (ps_if (pt_cmp (pc_din hu (pv 3) (C8.pe_c (c_far T) hr (by decide) rfl (pa_cons (pv 4) (pa_cons (pv 1) pa_nil))))) (pss_cons (ps_set (i := 6) sc68.nd rfl (.inl rfl) (C8.pe_c (c_far T) hr (by decide) rfl (pa_cons (pv 3) (pa_cons (pv 1) pa_nil)))) (pss_cons (ps_if (PW.pt (pw_or (pt_not (pt_val (pe_callB call_isi (by rfl) (T.b 0) (by decide +kernel) (pa_cons (pv 5) (pa_cons (pe_glob (v := .ref (ga K "Met")) rfl (T.c 3).mgx rfl) pa_nil))))) (pw_or (pt_not (pt_truOwn (n := 1) (hr.mono (by decide)) (pv 5) (fun _ => rfl))) (pw_or (pt_val (pe_callB call_isi (by rfl) (T.b 0) (by decide +kernel) (pa_cons (pv 5) (pa_cons (pe_glob (v := .ref (ga K "Denial")) rfl (T.c 2).mgx rfl) pa_nil)))) (pw_or (pt_cmpR op_ne (pe_fld (pv 5) rfl) (pe_str) (nomark _)) (pw_or1 (pt_cmpR (op_neD hr.units) (pe_fld (pv 5) rfl) (pe_tup (pa_cons (pe_fld (pv 5) rfl) pa_nil)) (nomark _)))))))) (pss_one (ps_ret (pe_bl))) (pss_nil)) (pss_one (ps_if (PW.pt (pw_or (pt_not (pt_val (pe_callB call_isi (by rfl) (T.b 0) (by decide +kernel) (pa_cons (pe_fld (pv 5) rfl) (pa_cons (pe_bltn (v := .ty "tuple") (by rfl) (T.b 5) (by decide +kernel) rfl) pa_nil))))) (pw_or (pt_cmpR op_ne (pe_callB (call_len_seq) (by rfl) (T.b 7) (by decide +kernel) (pa_cons (pe_fld (pv 5) rfl) pa_nil)) (pe_dget hu (pv 6) (pv 4) (fun _ _ => rfl)) (nomark _)) (pw_or1 (pt_not (pt_val (C8.pe_c (c_firstRight T) hr (by decide) rfl (pa_cons (pv 2) (pa_cons (pv 1) (pa_cons (pv 3) (pa_cons (pe_fld (pv 5) rfl) (pa_cons (pv 6) pa_nil)))))))))))) (pss_one (ps_ret (pe_bl))) (pss_nil))))) (pss_cons (ps_setLc (i := 7) (own := [("_law_part", 9)]) (g := gName 9) rfl sc68.nd rfl rfl (sw_true rfl rfl rfl (by decide +kernel)) (pi_list (C8.pe_c (c_pillars T) hr (by decide) rfl (pa_cons (pv 1) pa_nil))) (blkOk_by (N := n68) (sc := defScope (top 68)) (by decide +kernel)) (fun _ _ _ _ _ => pg_name (i := 9) sc68.nd rfl (.inl rfl)) (fun _ _ _ _ _ => pts_one (pt_cmp (pc_dnotin hu (C8.pe_c (c_lrow T) hr (by decide) rfl (pa_cons (pv 3) (pa_cons (pv 9) pa_nil))) (C8.pe_c (c_far T) hr (by decide) rfl (pa_cons (C8.pe_c (c_lrow T) hr (by decide) rfl (pa_cons (pv 2) (pa_cons (pv 9) pa_nil))) (pa_cons (pv 9) pa_nil)))))) (fun _ _ _ _ _ => pv 9)) (pss_one (ps_if (PW.pt (pw_or (pt_not (pt_val (pe_callB call_isi (by rfl) (T.b 0) (by decide +kernel) (pa_cons (pv 5) (pa_cons (pe_glob (v := .ref (ga K "Unmet")) rfl (T.c 4).mgx rfl) pa_nil))))) (pw_or (pt_truOwn (n := 1) (hr.mono (by decide)) (pv 5) (fun _ => rfl)) (pw_or (pt_not (pt_val (pe_callB call_isi (by rfl) (T.b 0) (by decide +kernel) (pa_cons (pv 5) (pa_cons (pe_glob (v := .ref (ga K "Denial")) rfl (T.c 2).mgx rfl) pa_nil))))) (pw_or (pt_cmpR op_ne (pe_fld (pv 5) rfl) (pe_str) (nomark _)) (pw_or (pt_cmpR op_ne (pe_callB (call_reprD hgu hr.units) (by rfl) (T.b 11) (by decide +kernel) (pa_cons (pe_fld (pv 5) rfl) pa_nil)) (pe_callB (call_reprD hgu hr.units) (by rfl) (T.b 11) (by decide +kernel) (pa_cons (pe_tup (pa_cons (pe_ix ix_list (pv 7) (pe_int) (fun _ _ => rfl)) pa_nil)) pa_nil)) (nomark _)) (pw_or1 (pt_cmpR op_ne (pe_fld (pv 5) rfl) (pe_ix ix_list (pv 7) (pe_int) (fun _ _ => rfl)) (nomark _))))))))) (pss_one (ps_ret (pe_bl))) (pss_nil))))) (C8.pss_cut (ps_if (PW.pt (pw_or (pt_cmpR op_isnot_bl (pe_callN0 (o_shows T Fs) (hr.mono (by decide)) rfl (T.d 18).mgx Fs.kp KBs pass0 (pk_cons (pv 5) (pk_cons (pv 3) (pk_cons (pv 1) (pk_cons (StX.pe_makeR (T.c 0).mkr (c_fourInit T) (hr.mono (by decide)) rfl (T.c 0).mgx pass0 (pa_cons (pv 2) pa_nil)) (pk_nil)))))) (pe_bl) (nomark _)) (pw_or1 (pt_cmpR (op_neOwn (n := 1) (hr.mono (by decide))) (C8.pe_c (c_met T) hr (by decide) rfl (pa_cons (StX.pe_makeR (T.c 0).mkr (c_fourInit T) (hr.mono (by decide)) rfl (T.c 0).mgx pass0 (pa_cons (pv 2) pa_nil)) (pa_cons (pv 1) (pa_cons (pv 3) pa_nil)))) (pv 5) (nomark _))))) (pss_one (ps_ret (pe_bl))) (pss_nil)) (C8.pss_cut (ps_set (i := 8) sc68.nd rfl (.inl rfl) (pe_ifExp (pt_val (pe_callB call_isi (by rfl) (T.b 0) (by decide +kernel) (pa_cons (pv 5) (pa_cons (pe_glob (v := .ref (ga K "Met")) rfl (T.c 3).mgx rfl) pa_nil)))) (pe_fld (pv 5) rfl) (pe_callTy call_tuple_of (by rfl) (T.b 5) (by decide +kernel) (pa_cons (pe_lc (own := [("_law_turn", 10)]) (g := gName 10) (tt := tYes) rfl sc68.nd (pi_range1 rfl (T.b 9) (pa_cons (pe_int) pa_nil)) (blkOk_by (N := n68) (sc := defScope (top 68)) (by decide +kernel)) (fun _ _ _ _ _ => pg_name (i := 10) sc68.nd rfl (.inl rfl)) (fun _ _ _ _ _ => pts_nil) (fun _ _ _ _ _ => C8.pe_c (c_scoop T) hr (by decide) rfl (pa_cons (pv 0) (pa_cons (pe_int) pa_nil)))) pa_nil)))) (pss_one (ps_ret (pe_cG (g_shown T) hgu hr (by decide) rfl (pa_cons (pv 0) (pa_cons (pv 2) (pa_cons (pv 1) (pa_cons (pv 3) (pa_cons (pv 8) pa_nil)))))))))))))), ?_⟩
  obtain ⟨m0, m24⟩ := moduli_pos hm
  refine ⟨_, rfl, v, N, rfl, hv, by omega, fun H1 a b kb1 hv1 na ha fb => ?_⟩
  have nav : a ≠ v := fun e => by obtain ⟨c, _, _, _, hc, _⟩ := hv; rw [e, hc] at na; cases na
  refine ⟨_, rfl, _, rfl, _, rfl, v, a, b, m, N + 40, rfl, hv1, by omega, ha, fb.dc.len, hm, fun H2 p r kb2 hv2 np hp okr => ?_⟩
  have ha2 := kb2 _ _ nav ha
  refine ⟨p, _, rfl, .inl ⟨SqL.of hp, fun tg ntg => ?_⟩⟩
  have s3 : Same H2 (L2.upd H2 tg (.tup (iv r))) := Same.upd ntg
  have htg : (L2.upd H2 tg (.tup (iv r))) tg = some (.tup (iv r)) := upd_same
  generalize L2.upd H2 tg (.tup (iv r)) = H3 at s3 htg
  have ha3 := s3 _ _ ha2
  have kb3 := (kb1.trans kb2).trans (kb_same (v := v) s3)
  have hv3 := hv2.same s3
  clear hp np ha2 ntg hv2
  have len4 := fb.dc.len
  refine ⟨_, rfl, _, rfl, a, b, m, rfl, .inl ha3, by omega, m0, fun H4 ow s4 how => ?_⟩
  refine ⟨_, rfl, tg, _, rfl, .inr (SqT.of (s4 _ _ htg)), fun c nc => ?_⟩
  have s5 : Same H4 (L2.upd H4 c (.lst (iv r))) := Same.upd nc
  have hc : (L2.upd H4 c (.lst (iv r))) c = some (.lst (iv r)) := upd_same
  generalize L2.upd H4 c (.lst (iv r)) = H5 at s5 hc
  refine ⟨_, rfl, _, rfl, a, _, rfl, .inl (SqL.of (s5 _ _ (s4 _ _ ha3))), fun c2 nc2 => ?_⟩
  have s6 : Same H5 (L2.upd H5 c2 (.lst (iv b))) := Same.upd nc2
  have hc2 : (L2.upd H5 c2 (.lst (iv b))) c2 = some (.lst (iv b)) := upd_same
  generalize L2.upd H5 c2 (.lst (iv b)) = H6 at s6 hc2
  refine fun f dx nf nd ne => mkFour nf nd ne hc2 fb fun H7 s7 hf => ⟨rfl, ?_⟩
  refine ⟨rfl, rfl, f, c, m, b, r, rfl, hf, fb, hm, okr, .inl (s7 _ _ (s6 _ _ hc)), fun H8 x s8 mr => ?_⟩
  have S48 := (((s5.trans s6).trans s7).trans s8)
  have S8 := s4.trans S48
  have okb : okR m (R b m) := R_ok len4 m0
  replace how := S48 _ _ how
  replace htg := S8 _ _ htg
  replace ha3 := S8 _ _ ha3
  have kb8 := kb3.trans (kb_same (v := v) S8)
  have hv8 := hv3.same S8
  clear hf s4 s5 s6 s7 s8 S48 S8 hc hc2 kb3 hv3 kb2 kb1 hv1 ha s3 nc nc2 nf nd ne
  refine ⟨fun σ' H' => ∃ z6 z7, σ' = [some (.ref v), some (.int m), some (.ref a), some (.ref tg), some (.ref ow), some (.ref x), z6, z7, none, none, none] ∧ Same H8 H', ?_, ?_⟩
  · refine ⟨_, rfl, _, rfl, _, rfl, ow, _, m, rfl, how, okb, m0, m24, fun H9 d9 T9 s9 W9 D9 => ?_⟩
    obtain ⟨o, g, eo⟩ := D9.get W9.nd (s9 _ _ htg)
    refine ⟨d9, o, rfl, g, _, rfl, ?_⟩
    rw [eo]
    by_cases hin : r ∈ keysT T9
    · refine ifT (by simp [hin]) ?_
      rcases mr with ⟨T1, u, l, W, hu1, pap, hl, ok, hz⟩ | ⟨T1, q1, qs, W, hn, el, pap⟩
      · have W' := W
        refine ⟨_, rfl, _, rfl, tg, r, m, rfl, s9 _ _ htg, okr, m0, m24, fun H10 d10 T10 s10 W10 D10 => ?_⟩
        have S10 := s9.trans s10
        obtain ⟨dx, pp, hx, hpp⟩ := pap.same S10
        have hl10 := S10 _ _ hl
        have cl := (T.c 3).ins.cl
        have hty := insTy T (x := "Met") (by decide) hx
        -- the first if
        refine ⟨_, rfl, _, _, _, _, true, rfl, .own _, hty, T.kit 3 3, _, rfl, iteF ?_⟩
        refine ⟨_, rfl, x, _, dx, _, _, _, rfl, hx, T.boo ("Met", "Paper") (by decide), c_paperBool T, _, rfl, true, rfl, iteF ?_⟩
        refine ⟨_, rfl, _, _, _, _, false, rfl, .own _, hty, T.kit 3 2, _, rfl, iteF ?_⟩
        refine ⟨_, rfl, x, _, dx, _, _, rfl, hx, cl, T.na ("Met", "word") (by decide), rfl, rfl, _, rfl, ifF (by simp) ?_⟩
        refine ⟨_, rfl, x, _, dx, _, _, rfl, hx, cl, T.na ("Met", "parts") (by decide), rfl, ?_⟩
        refine ⟨_, rfl, x, _, dx, _, _, rfl, hx, cl, T.na ("Met", "letters") (by decide), rfl, by show 1 ≤ sizeLine; decide, fun tp ntp => ?_⟩
        have s11 : Same H10 (L2.upd H10 tp (.tup [V.ref l])) := Same.upd ntp
        have htp : (L2.upd H10 tp (.tup [V.ref l])) tp = some (.tup [V.ref l]) := upd_same
        generalize L2.upd H10 tp (.tup [V.ref l]) = H11 at s11 htp
        have S11 := S10.trans s11
        have hl11 := s11 _ _ hl10
        have hx11 := s11 _ _ hx
        have tl := tup_lay (u.map fun (k : Nat) => (k : Int))
        have ts := tup1_shaped tl.1 tl.2
        refine ⟨_, _, .tup (SqT.of (s11 _ _ hpp)) (.cons (.tup (SqT.of hl11) (wv_dp K _ u)) .nil), .tup (SqT.of htp) (.cons (.tup (SqT.of hl11) (wv_dp K _ u)) .nil), ts, ts, ?_⟩
        rw [SeqAt.eqv_refl _ (SeqAt.canLay_of_shaped ts)]
        refine ⟨_, rfl, iteF ?_⟩
        -- the second if
        refine ⟨_, rfl, x, _, dx, _, _, rfl, hx11, cl, T.na ("Met", "letters") (by decide), rfl, _, _, _, _, true, rfl, .ty "tuple", Pl.ty (.tup hl11), kit_ty (by decide +kernel), _, rfl, iteF ?_⟩
        have hkey : R b m ∈ keysT T10 := key_sym m0 okb W9 W10 hin
        obtain ⟨v', hv'⟩ := mem_keys.mp hkey
        have D11 : DicR Vd H11 d10 T10 := D10.keep vd_ok (fun _ _ z => s11 _ _ z) (fun _ z => s11 _ _ z)
        obtain ⟨xx, gx, ex⟩ := D11.get_some W10.nd (S11 _ _ how) hv'
        subst ex
        have ed : dist T10 (R b m) = v'.length := by
          unfold dist
          rw [val_some W10.nd hv']; rfl
        have edl : v'.length = u.length := by rw [← ed]; exact same_dist m0 okb W W10 hu1
        refine ⟨_, rfl, x, _, dx, _, _, rfl, hx11, cl, T.na ("Met", "letters") (by decide), rfl, l, _, rfl, .inr (SqT.of hl11), ?_⟩
        refine ⟨_, rfl, _, rfl, d10, _, rfl, gx, rfl, _, rfl, ifF (by rw [List.length_map, edl]; simp) ?_⟩
        refine ⟨_, rfl, _, rfl, _, rfl, _, rfl, x, _, dx, _, _, rfl, hx11, cl, T.na ("Met", "letters") (by decide), rfl, _, rfl, a, tg, l, d10, b, r, m, T1, T10, u, rfl, S11 _ _ ha3, len4, S11 _ _ htg, m0, m24, SqT.of hl11, by omega, W, W10, hu1, D11, fun H12 s12 => ?_⟩
        exact ⟨_, rfl, iteF ⟨_, _, rfl, S11.trans s12⟩⟩
      · exact absurd (W.key.mpr (W9.key.mp hin)) hn
    · refine ifF (by simp [hin]) ?_
      rcases mr with ⟨T1, u, l, W, hu1, pap, hl, ok, hz⟩ | ⟨T1, q1, qs, W, hn, el, pap⟩
      · exact absurd (W9.key.mpr (W.key.mp (mem_keys.mpr ⟨u, hu1⟩))) hin
      · refine ⟨_, rfl, m, rfl, hm, fun H10 p10 s10 h10 => ?_⟩
        have S10 := s9.trans s10
        refine ⟨p10, rfl, ⟨_, SqL.of h10⟩, fun D' nD' => ?_⟩
        have pl10 : (parts m).length ≤ 10 := by
          unfold parts
          repeat (split; · decide)
          simp
        refine lc_list_g 9 (fun x => match x with | .int q => !rch q b r | _ => false) (fun _ x y => y = x) (fun _ _ _ _ _ h => h) (fun _ _ _ _ _ _ h => h) (by rw [List.length_map]; omega) nD' (SqL.of h10) (fun x => rfl) (fun x hx H' s' Q' z' => ?_) (fun x hx _ H' s' Q' z' => ⟨_, rfl, z' _ _ (Same.refl _) rfl⟩) (fun H11 ys s11 hy rr => ?_)
        · obtain ⟨n, hn, rfl⟩ := List.mem_map.mp hx
          have hnm := (parts_of_mem hm n hn).1
          obtain ⟨n0, n24⟩ := moduli_pos hnm
          have S' := S10.trans s'
          refine ⟨_, rfl, _, rfl, tg, r, n, rfl, .inr (S' _ _ htg), by rw [okr.1]; decide, n0, fun H6 p6 s6 h6 => ?_⟩
          refine ⟨_, rfl, _, rfl, a, b, n, rfl, .inl (s6 _ _ (S' _ _ ha3)), by omega, n0, fun H7 p7 s7 h7 => ?_⟩
          refine ⟨_, rfl, p7, _, n, rfl, h7, R_ok len4 n0, n0, n24, fun H8 d8 T8 s8 W8 D8 => ?_⟩
          obtain ⟨o, g, eo⟩ := D8.get W8.nd (s8 _ _ (s7 _ _ h6))
          refine ⟨d8, o, rfl, g, _, rfl, ?_⟩
          rw [eo, rch_key W8]
          exact z' _ ((s6.trans s7).trans s8)
        · have ey : ys = iv (lacks m b r) := by
            have := Paired.eq_map (f := fun x : V => x) rr
            rw [List.map_id'] at this
            rw [this]
            unfold lacks iv
            rw [List.filter_map]; rfl
          rw [el] at ey
          subst ey
          have S11 := S10.trans s11
          obtain ⟨dx, pp, hx, hpp⟩ := pap.same S11
          have cl := (T.c 4).ins.cl
          have hty := insTy T (x := "Unmet") (by decide) hx
          have hqm : q1 ∈ moduli := by
            have e : q1 ∈ lacks m b r := by rw [el]; exact List.mem_cons_self
            exact (parts_of_mem hm q1 (List.mem_filter.mp e).1).1
          obtain ⟨r1, r2, r3, r4⟩ := rep1 q1 hqm
          have r5 : (PyData.tuple [.int q1]).shown.length ≤ sizeLine := by rw [sizeLine_eq]; omega
          refine ⟨_, rfl, _, _, _, _, true, rfl, .own _, hty, T.kit 4 4, _, rfl, iteF ?_⟩
          refine ⟨_, rfl, x, _, dx, _, _, _, rfl, hx, T.boo ("Unmet", "Denial") (by decide), c_denialBool T, _, rfl, false, rfl, iteF ?_⟩
          refine ⟨_, rfl, _, _, _, _, true, rfl, .own _, hty, T.kit 4 2, _, rfl, iteF ?_⟩
          refine ⟨_, rfl, x, _, dx, _, _, rfl, hx, cl, T.na ("Unmet", "word") (by decide), rfl, rfl, _, rfl, ifF (by simp) ?_⟩
          refine ⟨_, rfl, x, _, dx, _, _, rfl, hx, cl, T.na ("Unmet", "parts") (by decide), rfl, pp, _, rfl, .tup (SqT.of hpp) (.cons (.int q1) .nil), r1, r2, r3, r5, ?_⟩
          refine ⟨_, rfl, D', _, 0, .int q1, rfl, rfl, SqL.of hy, iv_at (p := 0) (by simp), by show 1 ≤ sizeLine; decide, fun tp ntp => ?_⟩
          have s12 : Same H11 (L2.upd H11 tp (.tup [V.int q1])) := Same.upd ntp
          have htp : (L2.upd H11 tp (.tup [V.int q1])) tp = some (.tup [V.int q1]) := upd_same
          generalize L2.upd H11 tp (.tup [V.int q1]) = H12 at s12 htp
          refine ⟨tp, _, rfl, .tup (SqT.of htp) (.cons (.int q1) .nil), r1, r2, r3, r5, rfl, _, rfl, ifF (by simp) ?_⟩
          have hx12 := s12 _ _ hx
          refine ⟨_, rfl, x, _, dx, _, _, rfl, hx12, cl, T.na ("Unmet", "by") (by decide), rfl, ?_⟩
          refine ⟨_, rfl, D', _, 0, .int q1, rfl, rfl, SqL.of (s12 _ _ hy), iv_at (p := 0) (by simp), rfl, _, rfl, ifF (by simp) ?_⟩
          exact ⟨_, _, rfl, S11.trans s12⟩
  rintro σ' H9 ⟨z6, z7, rfl, s9⟩
  have mr9 := mr.same s9
  have ha9 := s9 _ _ ha3
  have htg9 := s9 _ _ htg
  have kb9 := kb8.trans (kb_same (v := v) s9)
  have hv9 := hv8.same s9
  refine ⟨fun σ' H' => σ' = [some (.ref v), some (.int m), some (.ref a), some (.ref tg), some (.ref ow), some (.ref x), z6, z7, none, none, none] ∧ Same H9 H', ?_, ?_⟩
  · refine ⟨_, rfl, _, rfl, _, rfl, _, rfl, fun f dx nf nd ne => mkFour nf nd ne ha9 fb fun H10 s10 hf => ⟨rfl, ?_⟩⟩
    refine ⟨rfl, rfl, f, tg, m, b, r, .ref x, true, rfl, hf, len4, hm, okr, .inr (s10 _ _ htg9), mr9.sv.same s10, fun H11 s11 => ?_⟩
    refine ⟨true, true, rfl, rfl, _, rfl, iteF ?_⟩
    have S11 := s10.trans s11
    refine ⟨_, rfl, fun f2 dx2 nf2 nd2 ne2 => mkFour nf2 nd2 ne2 (S11 _ _ ha9) fb fun H12 s12 hf2 => ⟨rfl, ?_⟩⟩
    have S12 := S11.trans s12
    refine ⟨_, rfl, _, rfl, f2, tg, m, b, r, rfl, hf2, fb, hm, okr, .inr (S12 _ _ htg9), fun H13 y s13 mr2 => ?_⟩
    have S13 := S12.trans s13
    obtain ⟨cc, wd, v1, v2, d, hcc, p1, p2, d1, d2, e1, e2⟩ := mr2.two (mr9.same S13)
    obtain ⟨dy, py, hy, hpy⟩ := id p1
    obtain ⟨dx', px, hx, hpx⟩ := id p2
    refine ⟨_, rfl, y, ga K cc, dy, _, x, ga K cc, dx', _, _, _, rfl, rfl, hy, hx, T.eqo cc hcc, (by unfold PySem.W.notFirst; simp), c_paperEq T, y, x, cc, wd, v1, v2, d, rfl, hcc, p1, p2, d1, d2, e1, e2, true, rfl, _, rfl, iteF ?_⟩
    exact ⟨rfl, S13⟩
  rintro σ' H10 ⟨rfl, s10⟩
  have mr10 := mr9.same s10
  have ha10 := s10 _ _ ha9
  have htg10 := s10 _ _ htg9
  have kb10 := kb9.trans (kb_same (v := v) s10)
  have hv10 := hv9.same s10
  refine ⟨fun σ' H' => ∃ l u, σ' = [some (.ref v), some (.int m), some (.ref a), some (.ref tg), some (.ref ow), some (.ref x), z6, z7, some (.ref l), none, none] ∧ KeptBut v H10 H' ∧ Vat (N + 83) H' v ∧ H' l = some (.tup (wv u)) ∧ okW u ∧ u.length ≤ 340000, ?_, ?_⟩
  · rcases mr10 with ⟨T1, u, l, W, hu1, pap, hl, ok, hz⟩ | ⟨T1, q1, qs, W, hn, el, pap⟩
    · obtain ⟨dx, pp, hx, hpp⟩ := pap
      have hty := insTy T (x := "Met") (by decide) hx
      refine ⟨_, rfl, _, _, _, _, true, rfl, .own _, hty, T.kit 3 3, _, rfl, iteT ?_⟩
      exact ⟨_, rfl, x, _, dx, _, _, rfl, hx, (T.c 3).ins.cl, T.na ("Met", "letters") (by decide), rfl, l, u, rfl, KeptBut.refl _, hv10.mono (by omega), hl, ok, by omega⟩
    · obtain ⟨dx, pp, hx, hpp⟩ := pap
      have hty := insTy T (x := "Unmet") (by decide) hx
      refine ⟨_, rfl, _, _, _, _, false, rfl, .own _, hty, T.kit 4 3, _, rfl, iteF ?_⟩
      refine ⟨3, rfl, by decide, by decide, fun D nD => ?_⟩
      have nDv : D ≠ v := fun e => by obtain ⟨c, _, _, _, hc, _⟩ := hv10; rw [e, hc] at nD; cases nD
      refine lc_range (n := 3) (fun i H' => KeptBut v H10 H' ∧ Vat (N + 80 + i) H' v ∧ NC v D H' ∧ ∃ u, H' D = some (.lst (wv u)) ∧ u.length = i ∧ okW u) ⟨kb_same (Same.upd nD), hv10.same (Same.upd nD), (NC.new hv10 nD).keep (KeepC.same hv10 (Same.upd nD)), [], upd_same, rfl, okW_nil⟩ (fun i H' hi pp => ?_) (fun H' pp => ?_)
      · obtain ⟨kb, hv, nc, u, hu', hul, hok⟩ := pp
        refine ⟨rfl, ?_⟩
        refine ⟨_, rfl, v, 4, _, rfl, hv, by omega, by decide, by decide, fun H11 z kb11 hv11 z0 z1 kc11 => ?_⟩
        obtain ⟨k, rfl⟩ : ∃ k : Nat, z = k := ⟨z.toNat, by omega⟩
        have hD11 := kb11 _ _ nDv hu'
        have P := hv11.put (o := .lst (wv u ++ [V.int (k : Int)])) (nc.keep kc11) nDv
        refine ⟨_, hD11, by rw [List.length_map, sizeLine_eq]; omega, fun b' o n' e => ?_, P.1, P.2, u ++ [k], ?_, by rw [List.length_append, hul]; rfl, okW_app hok (okW_one (by omega))⟩
        · rw [upd_ne (ne_of_none e nD)]; exact kb11 _ _ n' (kb _ _ n' e)
        · rw [upd_same]; simp [wv]
      · obtain ⟨kb, hv, nc, u, hu', hul, hok⟩ := pp
        refine ⟨D, _, rfl, .inl ⟨SqL.of hu', fun tl ntl => ?_⟩⟩
        exact ⟨tl, u, rfl, kb.trans (kb_same (Same.upd ntl)), hv.same (Same.upd ntl), upd_same, hok, by omega⟩
  rintro σ' H11 ⟨l, u, rfl, kb11, hv11, hl, ok, hz⟩
  have ntv : tg ≠ v := fun e => by
    obtain ⟨c, _, _, _, hc, _⟩ := hv10
    rw [e, hc] at htg10; cases htg10
  refine ⟨_, rfl, _, rfl, _, rfl, _, rfl, _, rfl, v, a, tg, l, b, r, m, u, N + 83, rfl, hv11, by omega, kb11 _ _ nav ha10, fb, hm, okr, kb11 _ _ ntv htg10, hl, ok, hz, fun H12 kb12 hv12 => ?_⟩
  exact q H12 ((kb10.trans kb11).trans kb12) (hv12.mono (by omega))
end
end K31
namespace K31
open PySem PySem.Spec PyProof.Rows L2
section
variable {w : World} {K : PySem.W.Frag} {mg : Str → Option Value} {base : Heap}
/-! ### law -/
def spLaw (K : PySem.W.Frag) : Sp := fun vs H Q _ => ∃ a ns, vs = [.ref a] ∧ SqL K H a (iv ns) ∧ ns.length ≤ 1000 ∧ ∀ H', Q (.bl true) H'
abbrev n69 : List Str := ["_law_script", "_law_vat_here", "_law_some"]
theorem sc69 : FnScope n69 ["_law_script"] (defScope (top 69)) := ⟨rfl, rfl, rfl, by decide +kernel, rfl, by decide +kernel, by decide +kernel⟩
theorem o_law (T : Tx K mg) {fd : FuncData} (F : FunD K "law" "law" (defArgs (top 69)) (defBody (top 69)) (defScope (top 69)) [] [] (ga K "law") fd) : FnG prg w K mg base CX0 10 (ga K "law") fd ["_law_script"] (spLaw K) := by
  refine FnG.of F sc69 (fun vs H Q E h => ?_) fun cdv A outer s H vs Q E hgu hr h => ?_
  · obtain ⟨a, ns, rfl, _⟩ := h; rfl
  obtain ⟨a, ns, rfl, hs, hz, q⟩ := h
  refine ⟨_, PSs.nox (pss_cons (ps_set (i := 1) sc69.nd rfl (.inl rfl) (C8.pe_c (c_vat T) hr (by decide) rfl (pa_cons (pv 0) pa_nil))) (pss_cons (ps_for PassesOwn.never rfl (pi_tup (pe_tup (pa_cons (pe_lst (pa_cons (pe_int) (pa_cons (pe_int) (pa_cons (pe_int) (pa_cons (pe_int) (pa_cons (pe_int) (pa_cons (pe_int) (pa_cons (pe_int) pa_nil)))))))) (pa_cons (pe_lst (pa_cons (pe_int) (pa_cons (pe_int) (pa_cons (pe_int) (pa_cons (pe_int) (pa_cons (pe_int) pa_nil)))))) (pa_cons (pe_lst (pa_cons (pe_int) (pa_cons (pe_int) (pa_cons (pe_int) (pa_cons (pe_int) (pa_cons (pe_int) (pa_cons (pe_int) (pa_cons (pe_int) pa_nil)))))))) pa_nil))))) (pg_name (i := 2) sc69.nd rfl (.inl rfl)) (pss_one (ps_if (pt_not (pt_val (pe_cG (g_metRight T) hgu hr (by decide) rfl (pa_cons (pv 1) (pa_cons (C8.pe_c (c_pick T) hr (by decide) rfl (pa_cons (pv 1) (pa_cons (pv 2) pa_nil))) pa_nil))))) (pss_one (ps_ret (pe_bl))) (pss_nil)))) (pss_one (ps_ret (pe_bl))))), ?_⟩
  refine ⟨_, rfl, a, ns, rfl, hs, hz, fun H1 v s1 hv => ?_⟩
  refine ⟨by show 7 ≤ sizeLine; decide, fun l0 nl0 => ?_⟩
  have t0 : Same H1 (L2.upd H1 l0 (.lst [V.int 8, V.int 3, V.int 6, V.int 12, V.int 24, V.int 4, V.int 2])) := Same.upd nl0
  have e0 : (L2.upd H1 l0 (.lst [V.int 8, V.int 3, V.int 6, V.int 12, V.int 24, V.int 4, V.int 2])) l0 = some (.lst [V.int 8, V.int 3, V.int 6, V.int 12, V.int 24, V.int 4, V.int 2]) := upd_same
  generalize L2.upd H1 l0 (.lst [V.int 8, V.int 3, V.int 6, V.int 12, V.int 24, V.int 4, V.int 2]) = G0 at t0 e0
  refine ⟨by show 5 ≤ sizeLine; decide, fun l1 nl1 => ?_⟩
  have t1 : Same G0 (L2.upd G0 l1 (.lst [V.int 24, V.int 5, V.int 10, V.int 9, V.int 24])) := Same.upd nl1
  have e1 : (L2.upd G0 l1 (.lst [V.int 24, V.int 5, V.int 10, V.int 9, V.int 24])) l1 = some (.lst [V.int 24, V.int 5, V.int 10, V.int 9, V.int 24]) := upd_same
  generalize L2.upd G0 l1 (.lst [V.int 24, V.int 5, V.int 10, V.int 9, V.int 24]) = G1 at t1 e1
  refine ⟨by show 7 ≤ sizeLine; decide, fun l2 nl2 => ?_⟩
  have t2 : Same G1 (L2.upd G1 l2 (.lst [V.int 7, V.int 24, V.int 6, V.int 11, V.int 12, V.int 13, V.int 8])) := Same.upd nl2
  have e2 : (L2.upd G1 l2 (.lst [V.int 7, V.int 24, V.int 6, V.int 11, V.int 12, V.int 13, V.int 8])) l2 = some (.lst [V.int 7, V.int 24, V.int 6, V.int 11, V.int 12, V.int 13, V.int 8]) := upd_same
  generalize L2.upd G1 l2 (.lst [V.int 7, V.int 24, V.int 6, V.int 11, V.int 12, V.int 13, V.int 8]) = G2 at t2 e2
  refine ⟨by show 3 ≤ sizeLine; decide, fun tp ntp => ?_⟩
  have t3 : Same G2 (L2.upd G2 tp (.tup [V.ref l0, V.ref l1, V.ref l2])) := Same.upd ntp
  have e3 : (L2.upd G2 tp (.tup [V.ref l0, V.ref l1, V.ref l2])) tp = some (.tup [V.ref l0, V.ref l1, V.ref l2]) := upd_same
  generalize L2.upd G2 tp (.tup [V.ref l0, V.ref l1, V.ref l2]) = G3 at t3 e3
  have S := ((t0.trans t1).trans t2).trans t3
  have hv3 := hv.same S
  have nv : ∀ {a : Addr}, H1 a = none → a ≠ v := fun {a} z e => by obtain ⟨c, _, _, _, hc, _⟩ := hv; rw [e, hc] at z; cases z
  have each : ∀ x ∈ [V.ref l0, V.ref l1, V.ref l2], ∃ l ms, x = .ref l ∧ l ≠ v ∧ G3 l = some (.lst (iv ms)) ∧ 0 < ms.length ∧ ms.length < 1000 ∧ ∀ m ∈ ms, m ∈ moduli := fun x hx => by
    simp only [List.mem_cons, List.mem_nil_iff, or_false] at hx
    rcases hx with rfl | rfl | rfl
    · exact ⟨l0, [8, 3, 6, 12, 24, 4, 2], rfl, nv nl0, t3 _ _ (t2 _ _ (t1 _ _ e0)), by decide, by decide, by decide⟩
    · exact ⟨l1, [24, 5, 10, 9, 24], rfl, nv (t0.free nl1), t3 _ _ (t2 _ _ e1), by decide, by decide, by decide⟩
    · exact ⟨l2, [7, 24, 6, 11, 12, 13, 8], rfl, nv ((t0.trans t1).free nl2), t3 _ _ e2, by decide, by decide, by decide⟩
  have len3 : [V.ref l0, V.ref l1, V.ref l2].length = 3 := rfl
  generalize [V.ref l0, V.ref l1, V.ref l2] = xs at e3 each len3
  refine ⟨tp, rfl, ⟨_, SqT.of e3⟩, for_tup (xs := xs) (fun i σ' H' => ∃ z, σ' = [some (.ref a), some (.ref v), z] ∧ KeptBut v G3 H' ∧ Vat (121 * i) H' v) ⟨_, rfl, KeptBut.refl _, hv3⟩ (fun i σ' H' _ p => ?_) (fun i x σ' H' hx pp => ?_) (fun σ' H' pp => ?_)⟩
  · obtain ⟨_, _, kb, _⟩ := p
    refine SqT.of (kb _ _ (fun z => ?_) e3)
    obtain ⟨c, _, _, _, hc, _⟩ := hv3
    rw [z, hc] at e3; cases e3
  · obtain ⟨z, rfl, kb, hvi⟩ := pp
    have hi : i < 3 := by
      rcases Nat.lt_or_ge i 3 with h | h
      · exact h
      · rw [List.getElem?_eq_none (by omega)] at hx; cases hx
    obtain ⟨l, ms, rfl, nl, hl, m0, m1, hm⟩ := each x (List.mem_of_getElem? hx)
    refine ⟨_, rfl, _, rfl, _, rfl, v, l, iv ms, _, rfl, hvi, by omega, nl, kb _ _ nl hl, by rw [List.length_map]; exact m0, by rw [List.length_map]; exact m1, fun H2 y kb2 hv2 hy => ?_⟩
    obtain ⟨m, hmm, rfl⟩ := List.mem_map.mp hy
    refine ⟨v, m, _, rfl, hv2, by omega, hm m hmm, fun H3 kb3 hv3 => ?_⟩
    exact ⟨_, rfl, iteF ⟨_, rfl, (kb.trans kb2).trans kb3, hv3.mono (by omega)⟩⟩
  · exact q H'
end
end K31
set_option maxHeartbeats 0
namespace K31
open PySem PySem.Spec PyProof.Rows L2
theorem factsK {w : World} {K : PySem.W.Frag} {h : Heap} {mg : Str → Option Value} {f : Addr} (X : K.In h) (G : h.Ns mainGlobals mg) (hfa : mg ("law" : Str) = some (.ref f)) (c : SaysK K) :
    ∃ fd : FuncData, (∀ (s : Shared) (v : Value), BindsTo s fd ⟨[v], []⟩ [("_law_script", v)]) ∧ ∀ base : Heap, K.In base → base.Ns mainGlobals mg → FnG prg w K mg base CX0 10 f fd ["_law_script"] (spLaw K) := by
  have T := txK X G c
  obtain ⟨fd, F⟩ := (T.w 16).fd
  have e := hfa.symm.trans (T.w 16).mgx
  cases e
  have b := FunD.bindsA (ps := ["_law_script"]) F fun _ _ _ _ _ _ us hl => match us, hl with | [_], _ => rfl
  exact ⟨fd, fun s v => b s [v] rfl, fun base _ _ => o_law T F⟩
end K31
open PySem PySem.W PySem.Calls PyProof.Rows
theorem PySem.Challenge.cw_bendsigns_k31_whole_words_to_rows_holds : PySem.Challenge.rw_bendsigns_k31_whole_words_to_rows.Holds := by
  w_on; o_law
  refine HandSHeadRun.head_imp (r := OpenLaw.row PySem.Challenge.rw_bendsigns_k31_whole_words_to_rows) (q := view (OpenLaw.row PySem.Challenge.rw_bendsigns_k31_whole_words_to_rows).prog [0, 69]) (H := K31.hookK) (ob := K31.obK) (M := 30000) (loose := K31.nmK) (d := HandSHeadRun.topDef (OpenLaw.row PySem.Challenge.rw_bendsigns_k31_whole_words_to_rows).prog 69) (kwd := []) K31.obK_eq
    K31.runK (by kernel_rfl) (by kernel_rfl) (by kernel_rfl) (by rfl) (by first | assumption | decide +kernel) (by decide +kernel) ⟨rfl, rfl, rfl, rfl, rfl, by decide +kernel⟩ ?hw ?hc
  case hw => w_witness2
  case hc =>
    refine K31.walk_ofG (l := PySem.Challenge.rw_bendsigns_k31_whole_words_to_rows) (n := 63) (k := 10) (x := "_law_script") (CX := L2.CX0) rfl (by decide) (by kernel_rfl) ⟨rfl, by decide, by decide⟩ ?F (fun _ _ _ _ z => z)
    intro w mg fa h Y G hmg0
    obtain ⟨K, KX, c⟩ := Y
    have hmg : mg ("law" : PySem.Str) = some (.ref fa) := by
      have e : (HandSHeadRun.topDef (OpenLaw.row PySem.Challenge.rw_bendsigns_k31_whole_words_to_rows).prog 69).name = ("law" : PySem.Str) := by kernel_rfl
      rw [← e]
      exact hmg0
    obtain ⟨fd, hb, hF⟩ := K31.factsK (w := w) KX G hmg c
    exact ⟨K, fd, K31.spLaw K, KX, hb, fun H a ns hl _ hS => ⟨a, ns, rfl, hS, Nat.le_trans hl (by decide), fun _ => rfl⟩, hF⟩
